/-
  The functions that the law reaches: what each gives.
-/
import Derived.Test.YtikcmlkjnlcboaaGreatEF
import Derived.Test.YtikcmlkjnlcboaaGreatEP
set_option linter.unusedVariables false
set_option linter.unusedSimpArgs false
set_option maxRecDepth 1000000
set_option maxHeartbeats 4000000
set_option linter.unusedVariables false
set_option linter.unusedSimpArgs false
namespace Go.V
open Go
theorem zb7 {x0:List Int} (h:x0.length≤1099511627776):z4c x0 (z40 x0):=z0cg h
theorem z91 {x0:List Int}:z3j x0 (ze8 x0):=z01i
def cmpI (a b:Int):Int:=if a<b then -1 else if b<a then 1 else 0
def cmpL:List Int→List Int→Int
 |[],[]=>0
 |[],_::_=>-1
 |_::_,[]=>1
 |a::x,b::y=>if a<b then -1 else if b<a then 1 else cmpL x y
def cmpF (a b:z00):Int:=if a.1<b.1 then -1 else if b.1<a.1 then 1 else cmpL a.2.1 b.2.1
theorem cmpL_zero:∀ {x y:List Int},cmpL x y=0↔x=y
 |[],[]=>by simp[cmpL]
 |[],b::y=>by simp[cmpL]
 |a::x,[]=>by simp[cmpL]
 | a::x,b::y=>by
   unfold cmpL
   split
   · rename_i h;constructor
     · intro h';cases h'
     · intro h';cases h';omega
   · split
     · rename_i h;constructor
       · intro h';cases h'
       · intro h';cases h';omega
     · rw[cmpL_zero]
       have:a=b:=by omega
       simp[this]
theorem cmpF_zero {x y:z00}:cmpF x y=0↔x=y:=by
 obtain⟨a,b,u⟩:=x;obtain⟨a',b',u'⟩:=y
 unfold cmpF
 simp only
 split
 · rename_i h;constructor
   · intro h';cases h'
   · intro h';cases h';omega
 · split
   · rename_i h;constructor
     · intro h';cases h'
     · intro h';cases h';omega
   · rw[cmpL_zero]
     have:a=a':=by omega
     simp[this]
theorem z008 {x y:List Int} {i:Nat} (h:i<x.length) (h':i<y.length):cmpL (x.drop i) (y.drop i)=if x[i]<y[i] then -1 else if y[i]<x[i] then 1 else cmpL (x.drop (i+1)) (y.drop (i+1)):=by
 rw[z4e h,z4e h',cmpL]
theorem z06l {x y:List Int} {i:Nat} (h:x.length≤i):cmpL (x.drop i) (y.drop i)=if i<y.length then -1 else 0:=by
 rw[List.drop_of_length_le h]
 by_cases h':i<y.length
 · rw[z4e h',if_pos h'];rfl
 · rw[List.drop_of_length_le (by omega),if_neg h'];rfl
theorem cmpL_end' {x y:List Int} {i:Nat} (h:i<x.length) (h':y.length≤i):cmpL (x.drop i) (y.drop i)=1:=by
 rw[List.drop_of_length_le h',z4e h];rfl
theorem zmi {x y:List Int}:zfu x y (cmpL x y):=z0c2 _ _ _ (by
 unfold z01n
 refine z1t (fun k a=>∃ i:Nat,i+k=x.length∧a=((i:Int),())∧i≤y.length∧cmpL (x.drop i) (y.drop i)=cmpL x y) ?_ ?_ (n:=x.length) ⟨0,by omega,rfl,by omega,by simp⟩
 · rintro a ⟨i,hi,rfl,hy,hc⟩ X
   obtain rfl:i=x.length:=by omega
   rw[z06l (Nat.le_refl _)]at hc
   refine lenI fun h1=>bcN (lenI fun _=>lenI fun h2=>z0f (fun h=>?_) (fun h=>lenI fun _=>lenI fun _=>z0f (fun h'=>by omega) (fun h'=>?_)))
   · rw[if_pos (by omega)]at hc;rw[←hc]
   · rw[if_neg (by omega)]at hc;rw[←hc]
 · rintro k a ⟨i,hi,rfl,hy,hc⟩ X hX
   have hlt:i<x.length:=by omega
   refine lenI fun h1=>bcI hlt (lenI fun h2=>z0f (fun h=>?_) (fun h=>?_))
   · have hlt':i<y.length:=by omega
     refine inI hlt (inI hlt' ?_)
     simp only
     rw[getI hlt,getI hlt']
     rw[z008 hlt hlt']at hc
     refine z0f (fun h=>?_) (fun h=>inI hlt (inI hlt' (z0f (fun h'=>?_) (fun h'=>?_))))
     · rw[if_pos h]at hc;rw[←hc]
     · rw[if_neg h,if_pos h']at hc;rw[←hc]
     · rw[if_neg h,if_neg (by omega)]at hc
       rw[z03 (by omega)]
       exact hX _ ⟨i+1,by omega,rfl,by omega,hc⟩
   · simp only at h
     rw[cmpL_end' hlt (by omega)]at hc
     refine lenI fun _=>lenI fun _=>z0f (fun h'=>by omega) (fun h'=>lenI fun _=>lenI fun _=>z0f (fun h''=>?_) (fun h''=>by omega))
     rw[←hc])
theorem z96 {x y:z00}:z5b x y (cmpF x y):=zuf _ _ _ (by
 unfold zi1 cmpF
 refine z0f (fun h=>by rw[if_pos h]) (fun h=>z0f (fun h'=>by rw[if_neg h,if_pos h']) (fun h'=>⟨_,zmi,by rw[if_neg h,if_neg (by omega)]⟩)))
theorem zjc {x:Int}:z9l x false:=zri _ _ (by unfold zi7;simp)
theorem zg1 {x y:Int}:z7x x y (cmpI x y):=zo3 _ _ _ (by
 unfold zfw cmpI
 refine⟨_,zjc,_,zjc,bcF (bcF (z0f (fun h=>by rw[if_pos h]) (fun h=>z0f (fun h'=>by rw[if_neg h,if_pos h']) (fun h'=>by rw[if_neg h,if_neg h']))))⟩)
theorem cmpI_zero {a b:Int}:cmpI a b=0↔a=b:=by unfold cmpI;split<;>(try split)<;>omega
theorem zkk {x y:List Int}:z87 x y (cmpL x y):=zkg _ _ _ (by
 unfold zcj
 refine lenI fun h1=>z1t (fun k a=>∃ i:Nat,i+k=x.length∧a=((i:Int),())∧cmpL (x.drop i) (y.drop i)=cmpL x y∧i≤y.length) ?_ ?_ (n:=x.length) ⟨0,by omega,rfl,by simp,by omega⟩
 · rintro a ⟨i,hi,rfl,hc,hy⟩ X
   obtain rfl:i=x.length:=by omega
   rw[z06l (Nat.le_refl _)]at hc
   refine bcN (lenI fun _=>lenI fun h2=>z0f (fun h=>?_) (fun h=>?_))
   · rw[if_pos (by omega)]at hc;rw[←hc]
   · rw[if_neg (by omega)]at hc;rw[←hc]
 · rintro k a ⟨i,hi,rfl,hc,hy⟩ X hX
   have hlt:i<x.length:=by omega
   refine bcI hlt (inI hlt (lenI fun h2=>z0f (fun h=>?_) (fun h=>?_)))
   · simp only at h
     rw[cmpL_end' hlt (by omega)]at hc
     rw[←hc]
   · simp only at h
     have hlt':i<y.length:=by omega
     refine inI hlt' ⟨_,zg1,?_⟩
     simp only
     rw[getI hlt,getI hlt']
     rw[z008 hlt hlt']at hc
     refine z5s (fun h=>?_) (fun h=>?_)
     · have hne:x[i]≠y[i]:=fun e=>h (cmpI_zero.mpr e)
       rw[←hc]
       unfold cmpI
       by_cases h3:x[i]<y[i]
       · rw[if_pos h3,if_pos h3]
       · rw[if_neg h3,if_neg h3,if_pos (by omega),if_pos (by omega)]
     · have he:=cmpI_zero.mp h
       rw[if_neg (by omega),if_neg (by omega)]at hc
       rw[z03 (by omega)]
       exact hX _ ⟨i+1,by omega,rfl,hc,by omega⟩)
def orL:List Int→Int
 |[]=>0
 |a::l=>if a=0 then orL l else a
theorem z02t {x:List Int}:zhv x (orL x):=z028 _ _ (by
 unfold zpp
 have key:∀ l:List Int,orL l=if h:z04 (fun t=>t != 0) l<l.length then l[z04 (fun t=>t != 0) l] else 0:=by
  intro l
  induction l with
  |nil=>simp[orL,z04]
  | cons a l ih=>
    unfold orL
    by_cases ha:a=0
    · rw[if_pos ha,ih]
      simp only[z04,ha,bne_self_eq_false,Bool.false_eq_true,if_false,List.length_cons,Nat.add_lt_add_iff_right,List.getElem_cons_succ]
    · rw[if_neg ha]
      have:(a != 0)=true:=by simpa using ha
      simp[z04,this]
 refine lenI fun hl=>zd4 x (fun t=>t != 0) (fun i=>((i:Int),())) (KT:=fun i=>∀ h:i<x.length,((x[i],()):Int×Unit)=(orL x,())) (KF:=(((0:Int),()):Int×Unit)=(orL x,())) ?_ ?_ ?_ ?_
 · intro i hi X h1 h2
   refine bcI hi (inI hi ?_)
   simp only
   rw[getI hi,z03 (by omega)]
   exact z1q (fun h=>h1 h hi) h2
 · intro X h;exact bcN h
 · intro h h';rw[key,dif_pos h]
 · intro h;rw[key,dif_neg (by omega)])
theorem z5f {x y:z00}:z3z x y (cmpF x y):=zuc _ _ _ (by
 unfold zj5
 refine⟨_,zg1,_,zkk,_,z02t,?_⟩
 have:orL [cmpI x.1 y.1,cmpL x.2.1 y.2.1]=cmpF x y:=by
  unfold cmpF
  by_cases h:x.1<y.1
  · have:cmpI x.1 y.1 = -1:=by unfold cmpI;rw[if_pos h]
    rw[if_pos h,this];rfl
  · rw[if_neg h]
    by_cases h':y.1<x.1
    · have:cmpI x.1 y.1=1:=by unfold cmpI;rw[if_neg h,if_pos h']
      rw[if_pos h',this];rfl
    · have:cmpI x.1 y.1=0:=by unfold cmpI;rw[if_neg h,if_neg h']
      rw[if_neg h',this]
      unfold orL
      rw[if_pos rfl]
      unfold orL
      by_cases h0:cmpL x.2.1 y.2.1=0
      · rw[if_pos h0,h0];rfl
      · rw[if_neg h0]
 rw[this])
theorem zm2 {x y:z00}:zge x y (decide (x=y)):=z035 _ _ _ (by
 unfold zth
 refine⟨_,z5f,?_⟩
 have:(cmpF x y == (0:Int))=decide (x=y):=by
  by_cases h:x=y
  · rw[cmpF_zero.mpr h];simp[h]
  · have:cmpF x y≠0:=fun e=>h (cmpF_zero.mp e)
    simp[h,this]
 rw[this])
def ins:List Int→Int→List Int
 |[],x=>[x]
 |a::l,x=>if a<x then a::ins l x else if a=x then a::l else x::a::l
def srt (l:List Int):Prop:=l.Pairwise (· < ·)
def sset (l:List Int):List Int:=l.foldl ins []
theorem mem_put {y x:Int}:∀ {l:List Int},y∈ins l x↔y=x∨y∈l
 |[]=>by simp[ins]
 | a::l=>by
   unfold ins
   split
   · rw[List.mem_cons,mem_put,List.mem_cons]
     constructor
     · rintro (h|h|h)<;>simp[h]
     · rintro (h|h|h)<;>simp[h]
   · split
     · rename_i h;subst h;simp
     · simp
theorem z0ce {x:Int}:∀ {l:List Int},srt l→srt (ins l x)
 |[],_=>by simp[ins,srt]
 | a::l,h=>by
   obtain⟨h1,h2⟩:=List.pairwise_cons.mp h
   unfold ins
   split
   · rename_i hlt
     refine List.pairwise_cons.mpr ⟨fun y hy=>?_,z0ce h2⟩
     rcases mem_put.mp hy with rfl|hy
     · exact hlt
     · exact h1 y hy
   · split
     · exact h
     · refine List.pairwise_cons.mpr ⟨fun y hy=>?_,h⟩
       rcases List.mem_cons.mp hy with rfl|hy
       · omega
       · have:=h1 y hy;omega
theorem z05f {l:List Int}:∀ {s:List Int},srt s→srt (l.foldl ins s)∧∀ y,y∈l.foldl ins s↔y∈s∨y∈l:=by
 induction l with
 |nil=>intro s h;exact⟨h,by simp⟩
 | cons a l ih=>
   intro s h
   obtain⟨h1,h2⟩:=ih (z0ce (x:=a) h)
   refine⟨h1,fun y=>?_⟩
   rw[List.foldl_cons,h2,mem_put,List.mem_cons]
   constructor
   · rintro ((h|h)|h)<;>simp[h]
   · rintro (h|h|h)<;>simp[h]
theorem zmv (l:List Int):srt (sset l):=(z05f List.Pairwise.nil).1
theorem mem_sset {l:List Int} {y:Int}:y∈sset l↔y∈l:=by have:=(z05f (l:=l) List.Pairwise.nil).2 y;simpa [sset]using this
theorem z0b0:∀ {a b:List Int},srt a→srt b→(∀ y,y∈a↔y∈b)→a=b
 |[],[],_,_,_=>rfl
 |[],y::b,_,_,h=>by have:=(h y).mpr (by simp);simp at this
 |x::a,[],_,_,h=>by have:=(h x).mp (by simp);simp at this
 | x::a,y::b,ha,hb,h=>by
   obtain⟨ha1,ha2⟩:=List.pairwise_cons.mp ha
   obtain⟨hb1,hb2⟩:=List.pairwise_cons.mp hb
   have hxy:x=y:=by
    rcases List.mem_cons.mp ((h x).mp (by simp))with e|hx
    · exact e
    · rcases List.mem_cons.mp ((h y).mpr (by simp))with e|hy
      · exact e.symm
      · have:=ha1 y hy;have:=hb1 x hx;omega
   subst hxy
   congr 1
   refine z0b0 ha2 hb2 fun z=>⟨fun hz=>?_,fun hz=>?_⟩
   · rcases List.mem_cons.mp ((h z).mp (by simp[hz]))with e|h'
     · have:=ha1 z hz;omega
     · exact h'
   · rcases List.mem_cons.mp ((h z).mpr (by simp[hz]))with e|h'
     · have:=hb1 z hz;omega
     · exact h'
theorem z09s {a l:List Int} (h1:srt a) (h2:∀ y,y∈a↔y∈l):a=sset l:=z0b0 h1 (zmv l) fun y=>by rw[h2,mem_sset]
theorem z023 {l m:List Int}:(sset m).foldl ins (sset l)=sset (l++m):=by
 obtain⟨h1,h2⟩:=z05f (l:=sset m) (zmv l)
 exact z09s h1 fun y=>by rw[h2,mem_sset,mem_sset,List.mem_append]
theorem z00d {l:List Int} {x:Int}:ins (sset l) x=sset (l++[x]):=by unfold sset;rw[List.foldl_append];rfl
theorem z0cp (l:List Int) (x:Int):(ins l x).length≤l.length+1:=by
 induction l with
 |nil=>simp[ins]
 |cons a l ih=>unfold ins;split;simp;omega;split<;>simp
theorem z05y (l:List Int):(sset l).length≤l.length:=by
 have:∀(l s:List Int),(l.foldl ins s).length≤s.length+l.length:=by
  intro l
  induction l with
  |nil=>intro s;simp
  |cons a l ih=>intro s;have:=ih (ins s a);have:=z0cp s a;simp only[List.foldl_cons,List.length_cons];omega
 have:=this l []
 simpa [sset]using this
theorem z00j {l:List Int} {a:Int}:∀ {n:Nat},srt l→(∀ y∈l,a≤y∧y<a+n)→l.length≤n:=by
 induction l generalizing a with
 |nil=>intro n _ _;simp
 | cons x l ih=>
   intro n h hr
   obtain⟨h1,h2⟩:=List.pairwise_cons.mp h
   have hx:=hr x (by simp)
   have:=ih (a:=x+1) (n:=(a+n - (x+1)).toNat) h2 fun y hy=>by
    have:=h1 y hy;have:=hr y (by simp[hy]);omega
   simp only[List.length_cons];omega
theorem z0ec {l:List Int} (h:srt l) (hne:l≠[]):∀ y∈l,y≤l.getLast hne:=by
 intro y hy
 have hs:l=l.dropLast++[l.getLast hne]:=(List.dropLast_concat_getLast hne).symm
 rw[hs]at h hy
 unfold srt at h
 rw[List.pairwise_append]at h
 rcases List.mem_append.mp hy with hy|hy
 · have:=h.2.2 y hy (l.getLast hne) (by simp);omega
 · have:y=l.getLast hne:=by simpa using hy
   omega
theorem z0if (l:List Int) (x:Int):ins l x=if h:z04 (fun a=>!decide (a<x)) l<l.length then(if l[z04 (fun a=>!decide (a<x)) l]=x then l else l.take (z04 (fun a=>!decide (a<x)) l)++x::l.drop (z04 (fun a=>!decide (a<x)) l))else l++[x]:=by
 induction l with
 |nil=>simp[ins,z04]
 | cons a l ih=>
   unfold ins
   by_cases ha:a<x
   · have e:z04 (fun a=>!decide (a<x)) (a::l)=z04 (fun a=>!decide (a<x)) l+1:=by simp[z04,ha]
     rw[if_pos ha,ih]
     by_cases hf:z04 (fun a=>!decide (a<x)) l<l.length
     · rw[dif_pos hf,dif_pos (by rw[e];simpa using hf)]
       simp only[e,List.getElem_cons_succ,List.take_succ_cons,List.drop_succ_cons]
       split
       · rfl
       · rfl
     · rw[dif_neg hf,dif_neg (by rw[e];simpa using hf)]
       rfl
   · have e:z04 (fun a=>!decide (a<x)) (a::l)=0:=by simp[z04,ha]
     rw[if_neg ha,dif_pos (by rw[e];simp)]
     simp only[e,List.getElem_cons_zero,List.take_zero,List.drop_zero,List.nil_append]
theorem zy0 {l:List Int} {x:Int} (hl:l.length≤1073741824):zmy l x (ins l x):=z0eb _ _ _ (by
 unfold z05s
 have fin:∀(k:Nat),k≤l.length→((0≤(k:Int)∧(k:Int)≤(List.length l:Int)∧(List.length l:Int)≤(List.length l:Int))∧(([x]:List Int).length+(List.drop (Int.toNat (k:Int)) (List.take (Int.toNat (List.length l:Int)) l)).length≤maxL∧((0≤(0:Int)∧(0:Int)≤(k:Int)∧(k:Int)≤(List.length l:Int))∧(([]:List Int).length+(List.drop (Int.toNat (0:Int)) (List.take (Int.toNat (k:Int)) l)).length≤maxL∧((([]:List Int)++(List.drop (Int.toNat (0:Int)) (List.take (Int.toNat (k:Int)) l))).length+(([x]:List Int)++(List.drop (Int.toNat (k:Int)) (List.take (Int.toNat (List.length l:Int)) l))).length≤maxL∧(((([]:List Int)++(List.drop (Int.toNat (0:Int)) (List.take (Int.toNat (k:Int)) l)))++(([x]:List Int)++(List.drop (Int.toNat (k:Int)) (List.take (Int.toNat (List.length l:Int)) l))),()):List Int×Unit)=(l.take k++x::l.drop k,()))))) ):=by
  intro k hk
  simp only[Int.toNat_natCast,List.take_length,Int.toNat_zero,List.drop_zero,List.nil_append,List.length_nil,List.length_cons,List.length_append,List.length_take,List.length_drop,maxL,List.cons_append]
  refine⟨⟨by omega,by omega,by omega⟩,by omega,⟨by omega,by omega,by omega⟩,by omega,by omega,trivial⟩
 rw[z0if]
 refine zd4 l (fun a=>!decide (a<x)) (fun i=>((i:Int),())) (KT:=fun i=>∀ h:i<l.length,∀ r:List Int×Unit,r=(if l[i]=x then l else l.take i++x::l.drop i,())→r=((if h:z04 (fun a=>!decide (a<x)) l<l.length then(if l[z04 (fun a=>!decide (a<x)) l]=x then l else l.take (z04 (fun a=>!decide (a<x)) l)++x::l.drop (z04 (fun a=>!decide (a<x)) l))else l++[x]),()))
  (KF:=∀ r:List Int×Unit,r=(l++[x],())→r=((if h:z04 (fun a=>!decide (a<x)) l<l.length then(if l[z04 (fun a=>!decide (a<x)) l]=x then l else l.take (z04 (fun a=>!decide (a<x)) l)++x::l.drop (z04 (fun a=>!decide (a<x)) l))else l++[x]),())) ?_ ?_ ?_ ?_
 · intro i hi X h1 h2
   refine lenI fun hl'=>bcI hi (inI hi ?_)
   simp only
   rw[getI hi,z03 (by omega)]
   refine z0f (fun h=>h2 (by simpa using h)) (fun h=>?_)
   have h1:=h1 (by simpa using h) hi
   refine lenI fun _=>bcI hi (inI hi (z3i (fun he=>h1 _ (by rw[if_pos he])) (fun he=>?_)))
   rw[if_neg he]at h1
   have:=fin i (by omega)
   exact⟨this.1,this.2.1,this.2.2.1,this.2.2.2.1,this.2.2.2.2.1,h1 _ this.2.2.2.2.2⟩
 · intro X h
   refine lenI fun hl'=>bcN (lenI fun _=>bcN ?_)
   have:=fin l.length (by omega)
   refine⟨this.1,this.2.1,this.2.2.1,this.2.2.2.1,this.2.2.2.2.1,h _ (this.2.2.2.2.2.trans (by simp))⟩
 · intro h h' r hr;rw[hr,dif_pos h]
 · intro h r hr;rw[hr,dif_neg (by omega)])
theorem zqz {l:List Int} {x:Int}:zjo l x (decide (x∈l)):=z0fd _ _ _ (by
 unfold z062
 refine z7v l (fun a=>x == a) (fun i=>((i:Int),())) (KT:=((true,()):Bool×Unit)=(decide (x∈l),())) (KF:=((false,()):Bool×Unit)=(decide (x∈l),())) ?_ (fun X h=>lenI fun _=>bcN h) (fun h=>?_) (fun h=>?_)
 · intro i hi X h1 h2
   refine lenI fun _=>bcI hi (inI hi ?_)
   simp only
   rw[getI hi,z03 (by omega)]
   exact z3i (fun h=>h1 (by simp[h])) (fun h=>h2 (by simpa using fun e=>h e.symm))
 · rw[zrz]at h;rw[h]
 · rw[zrz]at h;rw[h])
theorem z02f {l:List Int} {y:Int}:y∈z40 l↔y∈l:=by unfold z40;simp
theorem z014 (l:List Int):(z40 l).Pairwise (·≤·):=by
 unfold z40
 have:=List.pairwise_mergeSort (le:=fun a b:Int=>decide (a≤b)) (fun a b c h1 h2=>by simp at *;omega) (fun a b=>by simp;omega) l
 exact this.imp fun h=>by simpa using h
theorem z01z (l:List Int):ze8 (z40 l)=sset l:=by
 have hs:=z014 l
 have hget:∀ i j (hi:i<(z40 l).length) (hj:j<(z40 l).length),i≤j→(z40 l)[i]≤(z40 l)[j]:=by
  intro i j hi hj h
  rcases Nat.lt_or_ge i j with h|h
  · exact List.pairwise_iff_getElem.mp hs i j hi hj h
  · have:i=j:=by omega
    subst this;omega
 have ex:ze8 (z40 l)=((List.range (z40 l).length).filter (Lib.keeps (z40 l).toArray)).map ((z40 l).toArray[·]!):=rfl
 refine z09s ?_ ?_
 · rw[ex]
   unfold srt
   rw[List.pairwise_map,List.pairwise_filter]
   refine List.Pairwise.imp_of_mem (R:=(· < ·)) ?_ List.pairwise_lt_range
   intro i j hi hj hij _ kj
   have hi:=List.mem_range.mp hi;have hj:=List.mem_range.mp hj
   have e1:(z40 l).toArray[i]! = (z40 l)[i]:=by simp[hi]
   have e2:(z40 l).toArray[j]! = (z40 l)[j]:=by simp[hj]
   have e3:(z40 l).toArray[j - 1]! = (z40 l)[j - 1]'(by omega):=by rw[getElem!_pos (z40 l).toArray (j - 1) (by simp;omega)];rfl
   rw[e1,e2]
   unfold Lib.keeps at kj
   rw[e2,e3]at kj
   have h1:=hget i (j - 1) hi (by omega) (by omega)
   have h2:=hget (j - 1) j (by omega) hj (by omega)
   rcases of_decide_eq_true kj with h|h
   · omega
   · omega
 · intro y
   rw[ex,List.mem_map]
   constructor
   · rintro⟨j,hj,rfl⟩
     have hj:=List.mem_range.mp (List.mem_filter.mp hj).1
     have e:(z40 l).toArray[j]! = (z40 l)[j]:=by simp[hj]
     rw[e,←z02f];exact List.getElem_mem hj
   · intro hy
     rw[←z02f]at hy
     have hf:z04 (fun t=>t == y) (z40 l)<(z40 l).length:=firstAt_any.mpr (List.any_eq_true.mpr ⟨y,hy,by simp⟩)
     have h2:=zaf hf
     have h3:(z40 l)[z04 (fun t=>t == y) (z40 l)]=y:=by simpa using h2
     refine⟨z04 (fun t=>t == y) (z40 l),List.mem_filter.mpr ⟨List.mem_range.mpr hf,?_⟩,by simp[hf,h3]⟩
     unfold Lib.keeps
     rw[decide_eq_true_iff]
     by_cases h0:z04 (fun t=>t == y) (z40 l)=0
     · exact .inl h0
     · right
       have hlt:z04 (fun t=>t == y) (z40 l) - 1<(z40 l).length:=by omega
       have h4:=zan (p:=fun t=>t == y) (l:=z40 l) hlt (by omega)
       have e1:(z40 l).toArray[z04 (fun t=>t == y) (z40 l)]! = y:=by simp[hf,h3]
       have e2:(z40 l).toArray[z04 (fun t=>t == y) (z40 l) - 1]! = (z40 l)[z04 (fun t=>t == y) (z40 l) - 1]:=by simp[hlt]
       rw[e1,e2]
       intro e
       rw[←e]at h4;simp at h4
def inR (x a b:Int):Bool:=decide (a≤x)&&decide (x≤b)
theorem z3r {α:Type} {p:α→Bool} {l:List α}:(l.any fun t=>!p t) = !(l.all p):=by
 induction l with
 |nil=>rfl
 |cons a l ih=>simp only[List.any_cons,List.all_cons,ih];cases p a<;>simp
theorem nt {b:Bool} (h:(!b)=true):b=false:=by simpa using h
theorem nf {b:Bool} (h:(!b)=false):b=true:=by simpa using h
theorem zp0 {α β:Type} (f:α→List β) {l:List α} {i:Nat} (h:i<l.length):(l.flatMap f).length=((l.take i).flatMap f).length+((f l[i]).length+((l.drop (i+1)).flatMap f).length):=by
 have e:l=l.take i++l[i]::l.drop (i+1):=by rw[←z4e h,List.take_append_drop]
 have:=congrArg (fun m=>(m.flatMap f).length) e
 simp only[List.flatMap_append,List.flatMap_cons,List.length_append]at this
 exact this
theorem inR_iff {x a b:Int}:inR x a b=true↔a≤x∧x≤b:=by simp[inR]
theorem z0gh:∀ {a b:List UInt8},(Op.bytesLess b a||b == a) = !(Op.bytesLess a b)
 |[],[]=>by decide
 |[],y::b=>by simp[Op.bytesLess]
 |x::a,[]=>by simp[Op.bytesLess]
 | x::a,y::b=>by
   have ih:=z0gh (a:=a) (b:=b)
   simp only[Op.bytesLess]
   by_cases h:y<x
   · have h2:¬ x<y:=UInt8.lt_asymm h
     have h3:¬ x=y:=by rintro rfl;exact UInt8.lt_irrefl _ h
     simp[h,h2,h3]
   · by_cases h2:x<y
     · have h3:¬ y=x:=by rintro rfl;exact h h2
       simp[h,h2,h3]
     · have h3:x=y:=UInt8.le_antisymm (UInt8.not_lt.mp h) (UInt8.not_lt.mp h2)
       subst h3
       simp only[h,decide_false,beq_self_eq_true,Bool.true_and,Bool.false_or]
       rw[←ih]
       by_cases h4:b=a<;>simp[h4]
def vRel (r:TRel):Bool:=(r.1.length == 1)&&decide (97≤(r.1.getD 0 0).toNat)&&decide ((r.1.getD 0 0).toNat≤122)&&inR r.2.1 1 3
def zha (l:List TRel) (i:Nat):TRel:=l.getD i zRel
def zc2 (l:List TRel):Bool:=((List.range l.length).all fun i=>vRel (zha l i)&&(i == 0||Op.bytesLess (zha l (i - 1)).1 (zha l i).1))&&decide (l.length≤6)
theorem zik {l:List TRel} {i:Nat} (h:i<l.length):zha l i=l[i]:=z0s h
theorem z0aa {l:List TRel} (h:zc2 l=true) {r:TRel} (hr:r∈l):vRel r=true:=by
 unfold zc2 at h
 rw[Bool.and_eq_true]at h
 obtain⟨i,hi,rfl⟩:=List.mem_iff_getElem.mp hr
 have:=List.all_eq_true.mp h.1 i (List.mem_range.mpr hi)
 rw[Bool.and_eq_true,zik hi]at this
 exact this.1
theorem zsc {l:List TRel} (h:zc2 l=true):l.length≤6:=by
 unfold zc2 at h;simp at h;exact h.2
theorem z086 {r:TRel} (h:vRel r=true):1≤r.2.1∧r.2.1≤3:=by
 unfold vRel at h;simp[inR]at h;exact h.2
def z01r (l:List TRel) (i:Int):Int:=(l.getD (Int.toNat i) zRel).2.1
def z94 (l:List TRel) (i:Int):Bool:=(l.getD (Int.toNat i) zRel).2.2.1
def vRow (ok:Int→Bool) (l:List TRel) (a:z00):Bool:=zc2 l&&inR a.1 0 ((l.length:Int) - 1)&&((a.2.1.length:Int) == z01r l a.1)&&a.2.1.all ok
theorem z1p {ok:Int→Bool} {l:List TRel} {a:z00} (h:vRow ok l a=true):zc2 l=true∧0≤a.1∧a.1<l.length∧(a.2.1.length:Int)=z01r l a.1∧a.2.1.length≤3∧∀ v∈a.2.1,ok v=true:=by
 unfold vRow at h
 simp only[Bool.and_eq_true,beq_iff_eq,List.all_eq_true]at h
 obtain⟨⟨⟨h1,h2⟩,h3⟩,h4⟩:=h
 have h2:=inR_iff.mp h2
 have hlt:a.1.toNat<l.length:=by omega
 have:=z086 (z0aa h1 (List.getElem_mem hlt))
 have e:z01r l a.1=l[a.1.toNat].2.1:=by unfold z01r;rw[z0s hlt]
 exact⟨h1,h2.1,by omega,h3,by omega,h4⟩
def z07i (t:Int):Bool:=inR t (-10) 4
def z6s (l:List TRel) (a:z00):Bool:=vRow z07i l a
def vars (l:List z00):List Int:=sset ((l.flatMap (·.2.1)).filter fun t=>decide (0≤t))
def vDep (l:List TRel) (d:TDep):Bool:=inR d.1.length 1 2&&d.1.all (z6s l) &&
 (if d.2.2.1 then decide (d.2.1=[])&&decide (d.2.2.2.1∈vars d.1)&&decide (d.2.2.2.2.1∈vars d.1)&&decide (d.2.2.2.1<d.2.2.2.2.1)
  else d.2.1.all (fun a=>z6s l a && !(z94 l a.1))&&inR d.2.1.length 1 2&&(d.2.2.2.1 == 0)&&(d.2.2.2.2.1 == 0))
def zoq (l:List TRel) (ds:List TDep):Bool:=ds.all (vDep l)&&zc2 l&&decide (ds.length≤5)
def exV (d:TDep):List Int:=(vars d.2.1).filter fun v=>!decide (v∈vars d.1)
def frV (d:TDep):List Int:=(vars d.2.1).filter fun v=>decide (v∈vars d.1)
theorem znl {l:List TRel} {ats:List z00} (h:ats.all (z6s l)=true):(ats.flatMap (·.2.1)).length≤3 * ats.length:=by
 induction ats with
 |nil=>simp
 | cons a ats ih=>
   simp only[List.all_cons,Bool.and_eq_true]at h
   have h1:=(z1p h.1).2.2.2.2.1
   have:=ih h.2
   simp only[List.flatMap_cons,List.length_append,List.length_cons]
   omega
theorem zk5 (l:List z00):(vars l).length≤(l.flatMap (·.2.1)).length:=Nat.le_trans (z05y _) (List.length_filter_le _ _)
theorem zfa {x a b:Int}:zca x a b (inR x a b):=z0i6 _ _ _ _ (by
 unfold z0c9 inR
 refine z0f (fun h=>?_) (fun h=>?_)
 · rw[decide_eq_true (show a≤x from h),Bool.true_and]
 · rw[decide_eq_false (show ¬ a≤x from h),Bool.false_and])
theorem z8m {x a b:Int}:z64 x a b (inR x a b):=z0cq _ _ _ _ (by
 unfold z029 inR
 refine z0f (fun h=>?_) (fun h=>?_)
 · rw[decide_eq_true h,Bool.true_and]
 · rw[decide_eq_false h,Bool.false_and])
theorem znz {r:TRel}:z9x r (vRel r):=znt _ _ (by
 unfold zed
 have no:∀ {b:Bool},vRel r=b→((b,()):Bool×Unit)=(vRel r,()):=fun h=>by rw[h]
 refine lenI fun _=>z3i (fun h=>?_) (fun h=>no ?_)
 · have h1:r.1.length=1:=by omega
   refine⟨⟨by omega,by omega⟩,?_⟩
   refine z0f (fun h2=>⟨⟨by omega,by omega⟩,z0f (fun h3=>⟨_,zfa,no ?_⟩) (fun h3=>no ?_)⟩) (fun h2=>no ?_)
   · unfold vRel
     have a1:decide (97≤(r.1.getD 0 0).toNat)=true:=decide_eq_true (by have h2:(97:Int)≤((r.1.getD 0 0).toNat:Int):=h2;omega)
     have a2:decide ((r.1.getD 0 0).toNat≤122)=true:=decide_eq_true (by have h3:((r.1.getD 0 0).toNat:Int)≤122:=h3;omega)
     rw[a1,a2];simp[h1]
   · unfold vRel
     have a2:decide ((r.1.getD 0 0).toNat≤122)=false:=decide_eq_false (by have h3:¬ ((r.1.getD 0 0).toNat:Int)≤122:=h3;omega)
     rw[a2];simp
   · unfold vRel
     have a1:decide (97≤(r.1.getD 0 0).toNat)=false:=decide_eq_false (by have h2:¬ (97:Int)≤((r.1.getD 0 0).toNat:Int):=h2;omega)
     rw[a1];simp
 · unfold vRel
   have:(r.1.length == 1)=false:=by simp;omega
   rw[this];simp)
theorem z05q {l:List TRel} {i:Nat} (h:i<l.length) (hp:(vRel (zha l i)&&(i == 0||Op.bytesLess (zha l (i - 1)).1 (zha l i).1))=false):zc2 l=false:=by
 unfold zc2
 rw[Bool.and_eq_false_iff];left
 rw[Bool.eq_false_iff];intro hall
 have:=List.all_eq_true.mp hall i (List.mem_range.mpr h)
 rw[hp]at this;cases this
theorem z00f {l:List TRel} (hp:∀ i,i<l.length→(!(vRel (zha l i)&&(i == 0||Op.bytesLess (zha l (i - 1)).1 (zha l i).1)))=false):zc2 l=decide (l.length≤6):=by
 unfold zc2
 have:((List.range l.length).all fun i=>vRel (zha l i)&&(i == 0||Op.bytesLess (zha l (i - 1)).1 (zha l i).1))=true:=
  List.all_eq_true.mpr fun i hi=>by have:=hp i (List.mem_range.mp hi);rwa [Bool.not_eq_false']at this
 rw[this,Bool.true_and]
theorem z52 {l:List TRel}:z2o l (zc2 l):=zkh _ _ (by
 unfold zcn
 refine zbg l.length (fun i=>!(vRel (zha l i)&&(i == 0||Op.bytesLess (zha l (i - 1)).1 (zha l i).1))) (fun i=>((i:Int),())) (KT:=((false,()):Bool×Unit)=(zc2 l,())) (KF:=((decide ((List.length l:Int)≤6),()):Bool×Unit)=(zc2 l,())) ?_ (fun X h=>lenI fun _=>bcN (lenI fun _=>h)) ?_ ?_
 · intro i hi X hb h1 h2
   refine lenI fun hl=>bcI hi (inI hi ⟨_,znz,?_⟩)
   simp only
   rw[getI hi,z03 (by omega)]
   rw[zik hi]at h1 h2
   refine z0m (fun h=>h1 (by simp[h])) (fun h=>z0f (fun h0=>?_) (fun h0=>h2 (by obtain rfl:i=0:=(by omega);simp[h])))
   have hi':i - 1<l.length:=by omega
   have hw:w64 ((i:Int) - 1)=((i - 1:Nat):Int):=by rw[z1g (by omega) (by omega)];omega
   rw[hw]
   refine inI hi' (inI hi ?_)
   rw[getI hi']
   rw[zik hi']at h1 h2
   have hz:(i == 0)=false:=by simp;omega
   rw[hz,Bool.false_or,h,Bool.true_and]at h1 h2
   exact z1q (fun h=>h1 h) (fun h=>h2 h)
 · rintro⟨i,hi,hp⟩
   rw[z05q hi (by rwa [Bool.not_eq_true']at hp)]
 · intro hp
   rw[z00f hp]
   congr 1
   exact decide_eq_decide.mpr (by omega))
theorem zn5 {r:TRel}:z9o r (vRel r):=znb _ _ (by
 unfold zee
 have no:∀ {b:Bool},vRel r=b→((b,()):Bool×Unit)=(vRel r,()):=fun h=>by rw[h]
 refine lenI fun _=>z3i (fun h=>?_) (fun h=>no ?_)
 · have h1:r.1.length=1:=by omega
   obtain⟨c,hc⟩:∃ c,r.1=[c]:=List.length_eq_one_iff.mp h1
   rw[hc]
   have e1:(!(Op.bytesLess [c] [97]))=decide (97≤c.toNat):=by
    simp only[Op.bytesLess,Bool.and_false,Bool.or_false]
    by_cases h:c<97
    · have:c.toNat<97:=h
      simp[h];omega
    · have:¬ c.toNat<97:=h
      simp[h];omega
   have e2:(Op.bytesLess [c] [122]||[c] == [122])=decide (c.toNat≤122):=by
    simp only[Op.bytesLess,Bool.and_false,Bool.or_false]
    by_cases h:c<122
    · have:c.toNat<122:=h
      simp[h];omega
    · have:¬ c.toNat<122:=h
      by_cases h2:c=122
      · subst h2;simp
      · have h3:c.toNat≠122:=fun e=>h2 (UInt8.toNat_inj.mp e)
        have d2:([c] == [(122:UInt8)])=false:=by simp[h2]
        rw[decide_eq_false h,d2,decide_eq_false (by omega)];rfl
   rw[e1,e2]
   refine z0f (fun h2=>z0f (fun h3=>⟨_,z8m,no ?_⟩) (fun h3=>no ?_)) (fun h2=>no ?_)
   · unfold vRel;rw[hc];simp[h2,h3]
   · unfold vRel;rw[hc]
     show((1 == 1)&&decide (97≤c.toNat)&&decide (c.toNat≤122)&&inR r.2.1 1 3)=false
     rw[decide_eq_false h3];simp
   · unfold vRel;rw[hc]
     show((1 == 1)&&decide (97≤c.toNat)&&decide (c.toNat≤122)&&inR r.2.1 1 3)=false
     rw[decide_eq_false h2];simp
 · unfold vRel
   have:(r.1.length == 1)=false:=by simp;omega
   rw[this];simp)
theorem z4z {l:List TRel}:z2p l (zc2 l):=zkj _ _ (by
 unfold zcm
 refine lenI fun hl=>zbg l.length (fun i=>!(vRel (zha l i)&&(i == 0||Op.bytesLess (zha l (i - 1)).1 (zha l i).1))) (fun i=>((i:Int),())) (KT:=((false,()):Bool×Unit)=(zc2 l,())) (KF:=((decide ((List.length l:Int)≤6),()):Bool×Unit)=(zc2 l,())) ?_ (fun X h=>bcN (lenI fun _=>h)) ?_ ?_
 · intro i hi X hb h1 h2
   refine bcI hi (inI hi ⟨_,zn5,?_⟩)
   simp only
   rw[getI hi,z03 (by omega)]
   rw[zik hi]at h1 h2
   refine z0m (fun h=>h1 (by simp[h])) (fun h=>z0f (fun h0=>?_) (fun h0=>h2 (by obtain rfl:i=0:=(by omega);simp[h])))
   have hi':i - 1<l.length:=by omega
   have hw:w64 ((i:Int) - 1)=((i - 1:Nat):Int):=by rw[z1g (by omega) (by omega)];omega
   rw[hw]
   refine inI hi' ?_
   rw[getI hi']
   rw[zik hi']at h1 h2
   have hz:(i == 0)=false:=by simp;omega
   rw[hz,Bool.false_or,h,Bool.true_and]at h1 h2
   rw[z0gh]
   exact z1q (fun h=>h1 h) (fun h=>h2 h)
 · rintro⟨i,hi,hp⟩
   rw[z05q hi (by rwa [Bool.not_eq_true']at hp)]
 · intro hp
   rw[z00f hp]
   congr 1
   exact decide_eq_decide.mpr (by omega))
theorem row_start {l:List TRel} {a:z00} (h:inR a.1 0 (w64 ((l.length:Int) - 1))=true) (hl:(l.length:Int)≤9223372036854775807):0≤a.1∧a.1<(l.length:Int):=by
 have:=inR_iff.mp h
 rw[z1g (by omega) (by omega)]at this
 omega
theorem row_range {l:List TRel} {a:z00} (hl:(l.length:Int)≤9223372036854775807):inR a.1 0 (w64 ((l.length:Int) - 1))=inR a.1 0 ((l.length:Int) - 1):=by
 rw[z1g (by omega) (by omega)]
theorem row_no1 {ok:Int→Bool} {l:List TRel} {a:z00} (h:zc2 l=false):((false,()):Bool×Unit)=(vRow ok l a,()):=by unfold vRow;rw[h];simp
theorem row_no2 {ok:Int→Bool} {l:List TRel} {a:z00} (hl:(l.length:Int)≤9223372036854775807) (h:inR a.1 0 (w64 ((l.length:Int) - 1))=false):((false,()):Bool×Unit)=(vRow ok l a,()):=by
 rw[row_range hl]at h;unfold vRow;rw[h];simp
theorem row_no3 {ok:Int→Bool} {l:List TRel} {a:z00} (h:(a.2.1.length:Int)≠(l.getD (Int.toNat a.1) zRel).2.1):((false,()):Bool×Unit)=(vRow ok l a,()):=by
 have:((a.2.1.length:Int) == z01r l a.1)=false:=by simpa [z01r]using h
 unfold vRow;rw[this];simp
theorem row_yes {ok:Int→Bool} {l:List TRel} {a:z00} {b:Bool} (hl:(l.length:Int)≤9223372036854775807) (h1:zc2 l=true) (h2:inR a.1 0 (w64 ((l.length:Int) - 1))=true) (h3:(a.2.1.length:Int)=(l.getD (Int.toNat a.1) zRel).2.1) (hb:b=a.2.1.all ok):((b,()):Bool×Unit)=(vRow ok l a,()):=by
 rw[row_range hl]at h2
 have:((a.2.1.length:Int) == z01r l a.1)=true:=by simpa [z01r]using h3
 unfold vRow;rw[h1,h2,this,hb];simp
theorem zf4 {l:List TRel} {a:z00}:z8l l a (z6s l a):=zva _ _ _ (by
 unfold zkp z6s
 refine⟨_,z52,z0m (fun h=>row_no1 h) (fun h1=>lenI fun hl=>⟨_,zfa,z0m (fun h=>row_no2 hl h) (fun h2=>lenI fun hl2=>⟨row_start h2 hl,z5s (fun h=>row_no3 h) (fun h3=>?_)⟩)⟩)⟩
 refine z7v a.2.1 (fun t=>!z07i t) (fun i=>((i:Int),())) (KT:=((false,()):Bool×Unit)=(vRow z07i l a,())) (KF:=((true,()):Bool×Unit)=(vRow z07i l a,())) ?_ (fun X h=>lenI fun _=>bcN h) ?_ ?_
 · intro i hi X q1 q2
   refine lenI fun _=>bcI hi (inI hi ⟨_,zfa,?_⟩)
   simp only
   rw[getI hi,z03 (by omega)]
   exact z1q (fun h=>q1 h) (fun h=>q2 h)
 · intro h;exact row_yes hl h1 h2 h3 (by rw[z3r]at h;exact(nt h).symm)
 · intro h;exact row_yes hl h1 h2 h3 (by rw[z3r]at h;exact(nf h).symm))
theorem zqa {t:Int}:z44 t (!z07i t):=zpq _ _ (by unfold zhh;exact⟨_,z8m,rfl⟩)
theorem zvn {l:List TRel} {a:z00}:zf6 l a (z6s l a):=zvh _ _ _ (by
 unfold zl0 z6s
 refine⟨_,z4z,z0m (fun h=>row_no1 h) (fun h1=>lenI fun hl=>⟨_,z8m,z0m (fun h=>row_no2 hl h) (fun h2=>lenI fun hl2=>⟨row_start h2 hl,z5s (fun h=>row_no3 h) (fun h3=>?_)⟩)⟩)⟩
 exact⟨_,z61 (fun t=>!z07i t) (fun _ _=>zqa),row_yes hl h1 h2 h3 (by rw[z3r];simp)⟩)
theorem zb0 {l:List z00} (hl:(l.flatMap (·.2.1)).length≤1073741824):z6w l (vars l):=z009 _ _ (by
 unfold zpo
 refine z1v l.length (fun i=>((i:Int),(vars (l.take i),()))) (by simp[vars,sset]) ?_ ?_
 · intro i hi X hX
   refine lenI fun hl1=>bcI hi ?_
   simp only
   rw[getI hi]
   have hsub:((l.take i).flatMap (·.2.1)).length+l[i].2.1.length≤1073741824:=by
    have:=zp0 (·.2.1) hi
    omega
   have hset:∀ j,j≤l[i].2.1.length→(sset (((l.take i).flatMap (·.2.1)++l[i].2.1.take j).filter fun t=>decide (0≤t))).length≤1073741824:=by
    intro j hj
    refine Nat.le_trans (z05y _) (Nat.le_trans (List.length_filter_le _ _) ?_)
    rw[List.length_append,List.length_take];omega
   refine z1v l[i].2.1.length (fun j=>(sset (((l.take i).flatMap (·.2.1)++l[i].2.1.take j).filter fun t=>decide (0≤t)),((j:Int),()))) (by simp[vars]) ?_ ?_
   · intro j hj Y hY
     refine inI hi (lenI fun _=>bcI hj (inI hi (inI hj ?_)))
     simp only
     rw[getI hj,z03 (by omega)]
     have e:((l.take i).flatMap (·.2.1)++l[i].2.1.take (j+1)).filter (fun t=>decide (0≤t))=((l.take i).flatMap (·.2.1)++l[i].2.1.take j).filter (fun t=>decide (0≤t))++(if 0≤l[i].2.1[j] then[l[i].2.1[j]] else[]):=by
      rw[z07 hj,←List.append_assoc,List.filter_append]
      by_cases h:0≤l[i].2.1[j]<;>simp[h]
     rw[e]at hY
     refine z0f (fun h=>inI hi (inI hj ⟨_,zy0 (hset j (by omega)),?_⟩)) (fun h=>?_)
     · have h:0≤l[i].2.1[j]:=h
       rw[if_pos h]at hY
       rw[z00d];exact hY
     · have h:¬ 0≤l[i].2.1[j]:=h
       rw[if_neg h,List.append_nil]at hY;exact hY
   · intro Y
     refine inI hi (lenI fun _=>bcN ?_)
     simp only
     rw[z03 (by omega),List.take_length]
     have:sset (((l.take i).flatMap (·.2.1)++l[i].2.1).filter fun t=>decide (0≤t))=vars (l.take (i+1)):=by
      unfold vars;rw[z07 hi,List.flatMap_append];simp
     rw[this];exact hX
 · intro X
   refine lenI fun _=>bcN ?_
   simp only[List.take_length])
theorem zej {l:List z00} (hl:(l.flatMap (·.2.1)).length≤1073741824):z90 l (vars l):=z01q _ _ (by
 unfold zp9
 refine lenI fun hl1=>?_
 refine z1v l.length (fun i=>((i:Int),(((l.take i).flatMap (·.2.1)).filter (fun t=>decide (0≤t)),()))) (by simp) ?_ ?_
 · intro i hi X hX
   refine bcI hi (inI hi ?_)
   simp only
   rw[getI hi,z03 (by omega)]
   have hsub:((l.take i).flatMap (·.2.1)).length+l[i].2.1.length≤1073741824:=by
    have:=zp0 (·.2.1) hi
    omega
   refine lenI fun _=>z1v l[i].2.1.length (fun j=>((j:Int),(((l.take i).flatMap (·.2.1)++l[i].2.1.take j).filter (fun t=>decide (0≤t)),()))) (by simp) ?_ ?_
   · intro j hj Y hY
     refine bcI hj (inI hj ?_)
     simp only
     rw[getI hj,z03 (by omega)]
     have e:((l.take i).flatMap (·.2.1)++l[i].2.1.take (j+1)).filter (fun t=>decide (0≤t))=((l.take i).flatMap (·.2.1)++l[i].2.1.take j).filter (fun t=>decide (0≤t))++(if 0≤l[i].2.1[j] then[l[i].2.1[j]] else[]):=by
      rw[z07 hj,←List.append_assoc,List.filter_append]
      by_cases h:0≤l[i].2.1[j]<;>simp[h]
     rw[e]at hY
     have hb:=List.length_filter_le (fun t=>decide (0≤t)) ((l.take i).flatMap (·.2.1)++l[i].2.1.take j)
     rw[List.length_append,List.length_take]at hb
     refine z0f (fun h=>⟨by simp only[maxL,List.length_cons,List.length_nil];omega,?_⟩) (fun h=>?_)
     · have h:0≤l[i].2.1[j]:=h
       rw[if_pos h]at hY;exact hY
     · have h:¬ 0≤l[i].2.1[j]:=h
       rw[if_neg h,List.append_nil]at hY;exact hY
   · intro Y
     refine bcN ?_
     simp only
     rw[List.take_length]
     have:((l.take i).flatMap (·.2.1)++l[i].2.1).filter (fun t=>decide (0≤t))=((l.take (i+1)).flatMap (·.2.1)).filter (fun t=>decide (0≤t)):=by
      rw[z07 hi,List.flatMap_append];simp
     rw[this];exact hX
 · intro X
   refine bcN ⟨_,zb7 ?_,_,z91,?_⟩
   · simp only[List.take_length]
     have:=List.length_filter_le (fun t=>decide (0≤t)) (l.flatMap (·.2.1));omega
   · simp only[List.take_length]
     rw[z01z];rfl)
theorem z0dj {l:List TRel} {d:TDep} (h:inR d.1.length 1 2=false):((false,()):Bool×Unit)=(vDep l d,()):=by unfold vDep;rw[h];simp
theorem z0e3 {l:List TRel} {d:TDep} (h:d.1.all (z6s l)=false):((false,()):Bool×Unit)=(vDep l d,()):=by unfold vDep;rw[h];simp
theorem zki {l:List TRel} {d:TDep}:z86 l d (vDep l d):=zke _ _ _ (by
 unfold zcq
 refine lenI fun hl=>⟨_,zfa,z0m (fun h=>z0dj h) (fun h1=>?_)⟩
 refine z7v d.1 (fun a=>!z6s l a) (fun i=>((i:Int),())) (KT:=((false,()):Bool×Unit)=(vDep l d,())) (KF:=d.1.all (z6s l)=true) ?_ ?_ ?_ ?_
 · intro i hi X q1 q2
   refine lenI fun _=>bcI hi (inI hi ⟨_,zf4,?_⟩)
   simp only
   rw[getI hi,z03 (by omega)]
   exact z1q (fun h=>q1 h) (fun h=>q2 h)
 · intro X hall
   have hlen:=inR_iff.mp h1
   have hal:=znl hall
   refine lenI fun _=>bcN (z1q (fun he=>?_) (fun he=>?_))
   · have ev:vDep l d=(decide (d.2.1=[])&&decide (d.2.2.2.1∈vars d.1)&&decide (d.2.2.2.2.1∈vars d.1)&&decide (d.2.2.2.1<d.2.2.2.2.1)):=by
      unfold vDep;rw[h1,hall,he];simp
     rw[ev]
     refine⟨_,zb0 (by omega),lenI fun _=>z3i (fun h=>⟨_,zqz,z0f (fun h2=>⟨_,zqz,z0f (fun h3=>?_) (fun h3=>?_)⟩) (fun h2=>?_)⟩) (fun h=>?_)⟩
     · have:d.2.1=[]:=List.length_eq_zero_iff.mp (by omega)
       simp[this,h2,h3]
     · simp[h3]
     · simp[h2]
     · have:d.2.1≠[]:=by intro e;rw[e]at h;simp at h
       simp[this]
   · have ev:vDep l d=(d.2.1.all (fun a=>z6s l a && !(z94 l a.1))&&inR d.2.1.length 1 2&&(d.2.2.2.1 == 0)&&(d.2.2.2.2.1 == 0)):=by
      unfold vDep;rw[h1,hall,he];simp
     rw[ev]
     refine z7v d.2.1 (fun a=>!(z6s l a && !(z94 l a.1))) (fun i=>((i:Int),())) (KT:=d.2.1.all (fun a=>z6s l a && !(z94 l a.1))=false) (KF:=d.2.1.all (fun a=>z6s l a && !(z94 l a.1))=true) ?_ ?_ ?_ ?_
     · intro i hi X q1 q2
       refine lenI fun _=>bcI hi (inI hi ⟨_,zf4,?_⟩)
       simp only
       rw[getI hi,z03 (by omega)]
       have no:d.2.1.all (fun a=>z6s l a && !(z94 l a.1))=false→((false,()):Bool×Unit)=(d.2.1.all (fun a=>z6s l a && !(z94 l a.1))&&inR d.2.1.length 1 2&&(d.2.2.2.1 == 0)&&(d.2.2.2.2.1 == 0),()):=fun h=>by rw[h];simp
       refine z0m (fun h=>no (q1 (by simp[h]))) (fun h=>inI hi ⟨?_,z1q (fun h'=>no (q1 ?_)) (fun h'=>q2 ?_)⟩)
       · have:=z1p h;exact⟨this.2.1,this.2.2.1⟩
       · have:z94 l d.2.1[i].1=true:=h'
         simp[this]
       · have:z94 l d.2.1[i].1=false:=h'
         simp[this,h]
     · intro X hh
       refine lenI fun _=>bcN (lenI fun _=>⟨_,zfa,?_⟩)
       rw[hh]
       refine z1q (fun h2=>z3i (fun h3=>?_) (fun h3=>?_)) (fun h2=>?_)
       · rw[h2,h3];simp
       · have:(d.2.2.2.1 == 0)=false:=by simpa using h3
         rw[this];simp
       · rw[h2];simp
     · intro h;rw[z3r]at h;exact nt h
     · intro h;rw[z3r]at h;exact nf h
 · intro h;rw[z3r]at h;exact z0e3 (nt h)
 · intro h;rw[z3r]at h;exact nf h)
theorem zy5 {l:List TRel} {a:z00}:z7o a l (!z6s l a):=zzi _ _ _ (by unfold zmr;exact⟨_,zvn,rfl⟩)
theorem zm8 {l:List TRel} {ats:List z00} {n:Int}:ze2 l ats n (inR ats.length 1 n&&ats.all (z6s l)):=z03h _ _ _ _ (by
 unfold ztd
 refine lenI fun _=>⟨_,z8m,z1q (fun h=>⟨_,z6r (fun a=>!z6s l a) (fun _ _=>zy5),?_⟩) (fun h=>?_)⟩
 · rw[h,Bool.true_and,z3r];simp
 · rw[h,Bool.false_and])
theorem zho {l:List TRel} {a:z00} (h0:0≤a.1) (h1:a.1<l.length):z23 a l (z94 l a.1):=zhq _ _ _ (by unfold za9;exact⟨⟨h0,h1⟩,rfl⟩)
theorem zcg {l:List TRel} {d:TDep}:z54 l d (vDep l d):=zkf _ _ _ (by
 unfold zco
 refine⟨_,zm8,z0m (fun h=>?_) (fun h=>?_)⟩
 · unfold vDep;rw[h];simp
 · have h':=Bool.and_eq_true_iff.mp h
   have hlen:=inR_iff.mp h'.1
   have hal:=znl h'.2
   refine z1q (fun he=>?_) (fun he=>?_)
   · have ev:vDep l d=(decide (d.2.1=[])&&decide (d.2.2.2.1∈vars d.1)&&decide (d.2.2.2.2.1∈vars d.1)&&decide (d.2.2.2.1<d.2.2.2.2.1)):=by
      unfold vDep;rw[h'.1,h'.2,he];simp
     rw[ev]
     refine⟨_,zej (by omega),lenI fun _=>z3i (fun h0=>z0f (fun h1=>⟨_,z3g,z0f (fun h2=>⟨_,z3g,?_⟩) (fun h2=>?_)⟩) (fun h1=>?_)) (fun h0=>?_)⟩
     · have:d.2.1=[]:=List.length_eq_zero_iff.mp (by omega)
       simp[this,h1,h2]
     · simp[h2]
     · simp[h1]
     · have:d.2.1≠[]:=by intro e;rw[e]at h0;simp at h0
       simp[this]
   · have ev:vDep l d=(d.2.1.all (fun a=>z6s l a && !(z94 l a.1))&&inR d.2.1.length 1 2&&(d.2.2.2.1 == 0)&&(d.2.2.2.2.1 == 0)):=by
      unfold vDep;rw[h'.1,h'.2,he];simp
     rw[ev]
     have hand:d.2.1.all (fun a=>z6s l a && !(z94 l a.1))=(d.2.1.all (z6s l)&&d.2.1.all fun a=>!(z94 l a.1)):=by
      generalize d.2.1=m
      induction m with
      |nil=>rfl
      |cons a m ih=>simp only[List.all_cons,ih];cases z6s l a<;>cases z94 l a.1<;>simp
     rw[hand]
     refine⟨_,zm8,z1q (fun h1=>z3i (fun h2=>z3i (fun h3=>?_) (fun h3=>?_)) (fun h2=>?_)) (fun h1=>?_)⟩
     · have h1:=Bool.and_eq_true_iff.mp h1
       refine⟨_,z42 (fun a=>z94 l a.1) (fun a ha=>?_),?_⟩
       · have:=z1p (List.all_eq_true.mp h1.2 a ha)
         exact zho this.2.1 this.2.2.1
       · rw[h1.1,h1.2,h2,h3,List.not_any_eq_all_not];simp
     · have:(d.2.2.2.2.1 == 0)=false:=by simpa using h3
       rw[this];simp
     · have:(d.2.2.2.1 == 0)=false:=by simpa using h2
       rw[this];simp
     · rcases Bool.and_eq_false_iff.mp h1 with h1|h1<;>rw[h1]<;>simp)
theorem zgb {l:List TRel} {ds:List TDep}:z5q l ds (zoq l ds):=zgx _ _ _ (by
 unfold z9t
 refine z7v ds (fun d=>!vDep l d) (fun i=>((i:Int),())) (KT:=ds.all (vDep l)=false) (KF:=ds.all (vDep l)=true) ?_ ?_ ?_ ?_
 · intro i hi X q1 q2
   refine lenI fun _=>bcI hi (inI hi ⟨_,zki,?_⟩)
   simp only
   rw[getI hi,z03 (by omega)]
   exact z1q (fun h=>by unfold zoq;rw[q1 h];simp) (fun h=>q2 h)
 · intro X h
   refine lenI fun _=>bcN ⟨_,z52,z1q (fun h1=>lenI fun _=>?_) (fun h1=>?_)⟩
   · unfold zoq;rw[h,h1]
     have:decide ((ds.length:Int)≤5)=decide (ds.length≤5):=decide_eq_decide.mpr (by omega)
     rw[this];simp
   · unfold zoq;rw[h1];simp
 · intro h;rw[z3r]at h;exact nt h
 · intro h;rw[z3r]at h;exact nf h)
theorem zf9 {l:List TRel} {d:TDep}:z1a d l (!vDep l d):=zf7 _ _ _ (by unfold z8p;exact⟨_,zcg,rfl⟩)
theorem zgy {l:List TRel} {ds:List TDep}:z5n l ds (zoq l ds):=zg9 _ _ _ (by
 unfold z9f
 refine⟨_,z4z,z1q (fun h1=>lenI fun _=>z0f (fun h2=>⟨_,z30 (fun d=>!vDep l d) (fun _ _=>zf9),?_⟩) (fun h2=>?_)) (fun h1=>?_)⟩
 · have:decide (ds.length≤5)=true:=decide_eq_true (by omega)
   unfold zoq;rw[h1,this,z3r];simp
 · have:decide (ds.length≤5)=false:=decide_eq_false (by omega)
   unfold zoq;rw[this];simp
 · unfold zoq;rw[h1];simp)
theorem z9b {d:TDep} (h1:(d.1.flatMap (·.2.1)).length≤1073741824) (h2:(d.2.1.flatMap (·.2.1)).length≤1073741824):z3s d (exV d):=zgo _ _ (by
 unfold z9u
 have hv:=zk5 d.2.1
 refine⟨_,zb0 h1,_,zb0 h2,?_⟩
 refine z1v (vars d.2.1).length (fun i=>((i:Int),(((vars d.2.1).take i).filter (fun v=>!decide (v∈vars d.1)),()))) (by simp) ?_ ?_
 · intro i hi X hX
   refine lenI fun _=>bcI hi (inI hi ⟨_,zqz,?_⟩)
   simp only
   rw[getI hi,z03 (by omega)]
   have e:((vars d.2.1).take (i+1)).filter (fun v=>!decide (v∈vars d.1))=((vars d.2.1).take i).filter (fun v=>!decide (v∈vars d.1))++(if (vars d.2.1)[i]∈vars d.1 then[] else[(vars d.2.1)[i]]):=by
    rw[z07 hi,List.filter_append]
    by_cases h:(vars d.2.1)[i]∈vars d.1<;>simp[h]
   rw[e]at hX
   have hb:=List.length_filter_le (fun v=>!decide (v∈vars d.1)) ((vars d.2.1).take i)
   rw[List.length_take]at hb
   refine z1q (fun h=>inI hi ⟨by simp only[maxL,List.length_cons,List.length_nil];omega,?_⟩) (fun h=>?_)
   · have h:¬ (vars d.2.1)[i]∈vars d.1:=by simpa using h
     rw[if_neg h]at hX;exact hX
   · have h:(vars d.2.1)[i]∈vars d.1:=by simpa using h
     rw[if_pos h,List.append_nil]at hX;exact hX
 · intro X
   refine lenI fun _=>bcN ?_
   simp only[List.take_length]
   rfl)
def hdV (d:TDep) (b:Bool):List Int:=(vars d.2.1).filter fun v=>decide (v∈vars d.1) == b
theorem zhf {d:TDep} {b:Bool} (h1:(d.1.flatMap (·.2.1)).length≤1073741824) (h2:(d.2.1.flatMap (·.2.1)).length≤1073741824):z8s d b (hdV d b):=zq5 _ _ _ (by
 unfold zhd
 have hv:=zk5 d.2.1
 refine⟨_,zej h1,_,zej h2,lenI fun _=>?_⟩
 refine z1v (vars d.2.1).length (fun i=>((i:Int),(((vars d.2.1).take i).filter (fun v=>decide (v∈vars d.1) == b),()))) (by simp) ?_ ?_
 · intro i hi X hX
   refine bcI hi (inI hi ⟨_,z3g,?_⟩)
   simp only
   rw[getI hi,z03 (by omega)]
   have e:((vars d.2.1).take (i+1)).filter (fun v=>decide (v∈vars d.1) == b)=((vars d.2.1).take i).filter (fun v=>decide (v∈vars d.1) == b)++(if (decide ((vars d.2.1)[i]∈vars d.1) == b)=true then[(vars d.2.1)[i]] else[]):=by
    rw[z07 hi,List.filter_append]
    cases h:(decide ((vars d.2.1)[i]∈vars d.1) == b)<;>simp[h]
   rw[e]at hX
   have hb:=List.length_filter_le (fun v=>decide (v∈vars d.1) == b) ((vars d.2.1).take i)
   rw[List.length_take]at hb
   refine z1q (fun h=>⟨by simp only[maxL,List.length_cons,List.length_nil];omega,?_⟩) (fun h=>?_)
   · rw[if_pos h]at hX;exact hX
   · rw[if_neg (by rw[h];simp),List.append_nil]at hX;exact hX
 · intro X
   refine bcN ?_
   simp only[List.take_length]
   rfl)
theorem z0ab (d:TDep):hdV d false=exV d:=by unfold hdV exV;congr 1;funext v;by_cases h:v∈vars d.1<;>simp[h]
theorem z0es (d:TDep):hdV d true=frV d:=by unfold hdV frV;congr 1;funext v;by_cases h:v∈vars d.1<;>simp[h]
theorem za6 {d:TDep} (h1:(d.1.flatMap (·.2.1)).length≤1073741824) (h2:(d.2.1.flatMap (·.2.1)).length≤1073741824):z3t d (exV d):=zh8 _ _ (by
 unfold z9g
 exact⟨_,zhf h1 h2,by rw[z0ab]⟩)
theorem z8h {l:List TRel} {d:TDep} (h:vDep l d=true):1≤d.1.length∧d.1.length≤2∧(∀ a∈d.1,z6s l a=true)∧d.2.1.length≤2∧(∀ a∈d.2.1,z6s l a=true)∧(d.1.flatMap (·.2.1)).length≤6∧(d.2.1.flatMap (·.2.1)).length≤6:=by
 unfold vDep at h
 rw[Bool.and_eq_true,Bool.and_eq_true]at h
 obtain⟨⟨h1,h2⟩,h3⟩:=h
 have h1:=inR_iff.mp h1
 have l1:=znl h2
 cases he:d.2.2.1 with
 | true=>
   rw[if_pos he]at h3
   simp only[Bool.and_eq_true,decide_eq_true_eq]at h3
   have:=h3.1.1.1
   exact⟨by omega,by omega,List.all_eq_true.mp h2,by simp[this],by simp[this],by omega,by simp[this]⟩
 | false=>
   rw[if_neg (by simp[he])]at h3
   simp only[Bool.and_eq_true]at h3
   have hr:=inR_iff.mp h3.1.1.2
   have h4:d.2.1.all (z6s l)=true:=List.all_eq_true.mpr fun a ha=>by
    have:=List.all_eq_true.mp h3.1.1.1 a ha
    rw[Bool.and_eq_true]at this;exact this.1
   have l2:=znl h4
   exact⟨by omega,by omega,List.all_eq_true.mp h2,by omega,List.all_eq_true.mp h4,by omega,by omega⟩
theorem z02k {l:List TRel} {ds:List TDep} (h:zoq l ds=true) {d:TDep} (hd:d∈ds):vDep l d=true:=by
 unfold zoq at h
 rw[Bool.and_eq_true,Bool.and_eq_true]at h
 exact List.all_eq_true.mp h.1.1 d hd
theorem zn1 {l:List TRel} {ds:List TDep} (h:zoq l ds=true):ds.length≤5:=by
 unfold zoq at h;simp at h;exact h.2
def z8c (v:Int):Bool:=inR v (-40) (-1)
def z4v (v:Int):Int:=if z8c v then -1 - v else 0
def vVal (v:Int):Bool:=inR v (-40) 9
def z2h (l:List Int):List Int:=(l.filter z8c).map (fun v=>-1 - v)
def nulF (f:z00):List Int:=sset (z2h f.2.1)
def nulI (x:z09):List Int:=sset (x.2.1.flatMap fun f=>z2h f.2.1)
def zil (l:List TRel) (f:z00):Bool:=vRow vVal l f
def zeg (l:List z00) (i:Nat):z00:=l.getD i z0i
def z8k (x:z09) (i:Nat):Bool:=zil x.1 (zeg x.2.1 i)&&(i == 0||decide (cmpF (zeg x.2.1 (i - 1)) (zeg x.2.1 i)<0)) && !(z94 x.1 (zeg x.2.1 i).1&&(nulF (zeg x.2.1 i)).length != 0)
def z3a (x:z09):Bool:=zc2 x.1&&decide (x.2.1.length≤30)&&(List.range x.2.1.length).all (z8k x)
theorem isNul_iff {v:Int}:z8c v=true↔-40≤v∧v≤-1:=inR_iff
theorem mem_nulls {l:List Int} {k:Int}:k∈z2h l↔0≤k∧k<40∧(-1 - k)∈l:=by
 unfold z2h
 rw[List.mem_map]
 constructor
 · rintro⟨v,hv,rfl⟩
   obtain⟨h1,h2⟩:=List.mem_filter.mp hv
   have:=isNul_iff.mp h2
   exact ⟨by omega, by omega, by have e : -1 - (-1 - v)=v:=by omega
                                 rw[e];exact h1⟩
 · rintro⟨h1,h2,h3⟩
   exact⟨-1 - k,List.mem_filter.mpr ⟨h3,isNul_iff.mpr ⟨by omega,by omega⟩⟩,by omega⟩
theorem zem (l m:List Int):z2h (l++m)=z2h l++z2h m:=by unfold z2h;rw[List.filter_append,List.map_append]
theorem zfp (l:List z00):z2h (l.flatMap (·.2.1))=l.flatMap fun f=>z2h f.2.1:=by
 induction l with
 |nil=>rfl
 |cons a l ih=>simp only[List.flatMap_cons];rw[zem,ih]
theorem zlq {l:List Int}:∀ k∈sset (z2h l),0≤k∧k<0+(40:Nat):=fun k hk=>by
 have:=mem_nulls.mp (mem_sset.mp hk);omega
theorem zn0 {l:List Int}:(sset (z2h l)).length≤40:=z00j (zmv _) zlq
theorem z067 (x:z09):(nulI x).length≤40:=by unfold nulI;rw[←zfp];exact zn0
theorem z02e (l:List Int):(z2h l).length≤l.length:=by unfold z2h;rw[List.length_map];exact List.length_filter_le _ _
theorem z2e {l:List z00} {i:Nat} (h:i<l.length):zeg l i=l[i]:=z0s h
theorem z57 {x:z09} (h:z3a x=true) {f:z00} (hf:f∈x.2.1):zil x.1 f=true:=by
 unfold z3a at h
 rw[Bool.and_eq_true]at h
 obtain⟨i,hi,rfl⟩:=List.mem_iff_getElem.mp hf
 have:=List.all_eq_true.mp h.2 i (List.mem_range.mpr hi)
 unfold z8k at this
 rw[Bool.and_eq_true,Bool.and_eq_true,z2e hi]at this
 exact this.1.1
theorem z41 {x:z09} (h:z3a x=true):x.2.1.length≤30:=by unfold z3a at h;simp at h;exact h.1.2
theorem zk6 {x:z09} (h:z3a x=true):zc2 x.1=true:=by unfold z3a at h;simp at h;exact h.1.1
theorem z06o {x:z09} {i:Nat} (hi:i<x.2.1.length) (h:z8k x i=false):z3a x=false:=by
 unfold z3a
 have:(List.range x.2.1.length).all (z8k x)=false:=by
  rw[Bool.eq_false_iff];intro hall
  have:=List.all_eq_true.mp hall i (List.mem_range.mpr hi);rw[h]at this;cases this
 rw[this];simp
theorem zsk {x:z09} (h1:∀ i,i<x.2.1.length→z8k x i=true):z3a x=(zc2 x.1&&decide (x.2.1.length≤30)):=by
 unfold z3a
 rw[List.all_eq_true.mpr fun i hi=>h1 i (List.mem_range.mp hi)];simp
theorem zhx (v:Int):0≤z4v v:=by
 unfold z4v
 split
 · rename_i h;have:=isNul_iff.mp h;omega
 · omega
theorem z9i {v:Int}:z3u v (z4v v) (z8c v):=zz4 fun hb=>zyp _ _ _ (by
 have hb : -9223372036854775808≤v∧v≤9223372036854775807:=hb
 unfold zmn
 have no:z8c v=false→(((0:Int),(false,())):Int×Bool×Unit)=(z4v v,(z8c v,())):=fun h=>by unfold z4v;rw[h];rfl
 refine z0f (fun h=>no ?_) (fun h=>⟨_,zfa,?_⟩)
 · rw[Bool.eq_false_iff];intro h';have:=isNul_iff.mp h';omega
 · rw[z1g (by omega) (by omega)]
   refine z0m (fun h2=>no ?_) (fun h2=>?_)
   · rw[Bool.eq_false_iff]at h2 ⊢;intro h';have:=isNul_iff.mp h';exact h2 (inR_iff.mpr ⟨by omega,by omega⟩)
   · have:=inR_iff.mp h2
     have e:z8c v=true:=isNul_iff.mpr ⟨by omega,by omega⟩
     unfold z4v;rw[e];rfl)
theorem zna {v:Int}:z7l v (z4v v) (z8c v):=zy8 fun hb=>zz0 _ _ _ (by
 have hb : -9223372036854775808≤v∧v≤9223372036854775807:=hb
 unfold zmj
 have no:z8c v=false→(((0:Int),(false,())):Int×Bool×Unit)=(z4v v,(z8c v,())):=fun h=>by unfold z4v;rw[h];rfl
 rw[z1g (by omega) (by omega)]
 refine⟨_,z8m,z0m (fun h2=>no ?_) (fun h2=>?_)⟩
 · rw[Bool.eq_false_iff]at h2 ⊢;intro h';have:=isNul_iff.mp h';exact h2 (inR_iff.mpr ⟨by omega,by omega⟩)
 · have:=inR_iff.mp h2
   have e:z8c v=true:=isNul_iff.mpr ⟨by omega,by omega⟩
   unfold z4v;rw[e];rfl)
theorem za1 {v:Int}:z5d v (vVal v):=zue _ _ (by
 unfold zj0
 refine⟨_,_,z9i,z1q (fun h=>?_) (fun h=>⟨_,zfa,?_⟩)⟩
 · have:=isNul_iff.mp h
   have e:vVal v=true:=inR_iff.mpr ⟨by omega,by omega⟩
   rw[e]
 · have:inR v 0 9=vVal v:=by
    rw[Bool.eq_iff_iff]
    unfold vVal
    rw[inR_iff,inR_iff]
    constructor
    · omega
    · intro h'
      refine⟨?_,h'.2⟩
      rcases Int.lt_or_le v 0 with h0|h0
      · rw[isNul_iff.mpr ⟨by omega,by omega⟩]at h;cases h
      · exact h0
   rw[this])
theorem z9n {v:Int}:z5c v (vVal v):=zsw _ _ (by unfold zib;exact⟨_,z8m,rfl⟩)
theorem zks {f:z00}:z6g f (nulF f):=zvp _ _ (by
 unfold zlb
 refine z1v f.2.1.length (fun i=>((i:Int),(sset (z2h (f.2.1.take i)),()))) (by simp[z2h,sset]) ?_ ?_
 · intro i hi X hX
   refine lenI fun _=>bcI hi (inI hi ⟨_,_,z9i,?_⟩)
   simp only
   rw[getI hi,z03 (by omega)]
   have e:z2h (f.2.1.take (i+1))=z2h (f.2.1.take i)++(if z8c f.2.1[i] then[-1 - f.2.1[i]] else[]):=by
    rw[z07 hi,zem];congr 1
    unfold z2h
    cases h:z8c f.2.1[i]<;>simp[h]
   rw[e]at hX
   have hf:=zn0 (l:=f.2.1.take i)
   refine z1q (fun h=>⟨_,zy0 (by omega),?_⟩) (fun h=>?_)
   · rw[if_pos h]at hX
     have:z4v f.2.1[i] = -1 - f.2.1[i]:=by unfold z4v;rw[if_pos h]
     rw[this,z00d];exact hX
   · rw[if_neg (by rw[h];simp),List.append_nil]at hX;exact hX
 · intro X
   refine lenI fun _=>bcN ?_
   simp only[List.take_length]
   rfl)
theorem zov {l:List Int} (hl:l.length≤1073741824):zfx l (sset (z2h l)):=z08a _ _ (by
 unfold zx4
 refine lenI fun _=>z1v l.length (fun i=>((i:Int),(z2h (l.take i),()))) (by simp[z2h]) ?_ ?_
 · intro i hi X hX
   refine bcI hi (inI hi ⟨_,_,zna,?_⟩)
   simp only
   rw[getI hi,z03 (by omega)]
   have e:z2h (l.take (i+1))=z2h (l.take i)++(if z8c l[i] then[-1 - l[i]] else[]):=by
    rw[z07 hi,zem];congr 1
    unfold z2h
    cases h:z8c l[i]<;>simp[h]
   rw[e]at hX
   have hb:=z02e (l.take i)
   rw[List.length_take]at hb
   refine z1q (fun h=>⟨by simp only[maxL,List.length_cons,List.length_nil];omega,?_⟩) (fun h=>?_)
   · rw[if_pos h]at hX
     have:z4v l[i] = -1 - l[i]:=by unfold z4v;rw[if_pos h]
     rw[this];exact hX
   · rw[if_neg (by rw[h];simp),List.append_nil]at hX;exact hX
 · intro X
   refine bcN ⟨_,zb7 ?_,_,z91,?_⟩
   · simp only[List.take_length];have:=z02e l;omega
   · simp only[List.take_length];rw[z01z])
theorem zvy {f:z00} (h:f.2.1.length≤1073741824):z8n f (nulF f):=zvc _ _ (by unfold zl9;exact⟨_,zov h,rfl⟩)
theorem zms {x:z09}:z9s x (nulI x):=znv _ _ (by
 unfold zec
 refine z1v x.2.1.length (fun i=>((i:Int),(sset ((x.2.1.take i).flatMap fun f=>z2h f.2.1),()))) (by simp[sset]) ?_ ?_
 · intro i hi X hX
   refine lenI fun _=>bcI hi (inI hi ⟨_,zks,?_⟩)
   simp only
   rw[getI hi]
   have hn:(nulF x.2.1[i]).length≤40:=zn0
   refine z1v (nulF x.2.1[i]).length (fun j=>(((nulF x.2.1[i]).take j).foldl ins (sset ((x.2.1.take i).flatMap fun f=>z2h f.2.1)),((j:Int),()))) (by simp) ?_ ?_
   · intro j hj Y hY
     refine lenI fun _=>bcI hj (inI hj ⟨_,zy0 ?_,?_⟩)
     · have h1:(sset ((x.2.1.take i).flatMap fun f=>z2h f.2.1)).length≤40:=by rw[←zfp];exact zn0
       have:∀(l s:List Int),(l.foldl ins s).length≤s.length+l.length:=by
        intro l
        induction l with
        |nil=>intro s;simp
        |cons a l ih=>intro s;have:=ih (ins s a);have:=z0cp s a;simp only[List.foldl_cons,List.length_cons];omega
       have:=this ((nulF x.2.1[i]).take j) (sset ((x.2.1.take i).flatMap fun f=>z2h f.2.1))
       rw[List.length_take]at this
       simp only;omega
     · simp only
       rw[getI hj,z03 (by omega)]
       rw[z07 hj,List.foldl_append]at hY
       exact hY
   · intro Y
     refine lenI fun _=>bcN ?_
     simp only[List.take_length]
     rw[z03 (by omega)]
     have:(nulF x.2.1[i]).foldl ins (sset ((x.2.1.take i).flatMap fun f=>z2h f.2.1))=sset ((x.2.1.take (i+1)).flatMap fun f=>z2h f.2.1):=by
      unfold nulF
      rw[z023,z07 hi,List.flatMap_append];simp
     rw[this];exact hX
 · intro X
   refine lenI fun _=>bcN ?_
   simp only[List.take_length]
   rfl)
theorem znm {x:z09} (hl:(x.2.1.flatMap (·.2.1)).length≤1073741824):z97 x (nulI x):=zmu _ _ (by
 unfold zef
 refine lenI fun _=>z1v x.2.1.length (fun i=>((i:Int),((x.2.1.take i).flatMap (·.2.1),()))) (by simp) ?_ ?_
 · intro i hi X hX
   have hs:=zp0 (fun f:z00=>f.2.1) hi
   refine bcI hi (inI hi ⟨?_,?_⟩)
   · simp only[maxL];rw[getI hi];omega
   · simp only
     rw[getI hi,z03 (by omega)]
     rw[z07 hi,List.flatMap_append]at hX
     simpa using hX
 · intro X
   refine bcN ⟨_,zov ?_,?_⟩
   · simp only[List.take_length];exact hl
   · simp only[List.take_length]
     rw[zfp];rfl)
theorem zl8 {l:List TRel} {a:z00}:zaq l a (zil l a):=zvo _ _ _ (by
 unfold zkz zil
 refine⟨_,z52,z0m (fun h=>row_no1 h) (fun h1=>lenI fun hl=>⟨_,zfa,z0m (fun h=>row_no2 hl h) (fun h2=>lenI fun hl2=>⟨row_start h2 hl,z5s (fun h=>row_no3 h) (fun h3=>?_)⟩)⟩)⟩
 refine z7v a.2.1 (fun t=>!vVal t) (fun i=>((i:Int),())) (KT:=((false,()):Bool×Unit)=(vRow vVal l a,())) (KF:=((true,()):Bool×Unit)=(vRow vVal l a,())) ?_ (fun X h=>lenI fun _=>bcN h) ?_ ?_
 · intro i hi X q1 q2
   refine lenI fun _=>bcI hi (inI hi ⟨_,za1,?_⟩)
   simp only
   rw[getI hi,z03 (by omega)]
   exact z1q (fun h=>q1 h) (fun h=>q2 h)
 · intro h;exact row_yes hl h1 h2 h3 (by rw[z3r]at h;exact(nt h).symm)
 · intro h;exact row_yes hl h1 h2 h3 (by rw[z3r]at h;exact(nf h).symm))
theorem zqv {t:Int}:z4a t (!vVal t):=zqd _ _ (by unfold zhc;exact⟨_,z9n,rfl⟩)
theorem zld {l:List TRel} {a:z00}:zax l a (zil l a):=zvm _ _ _ (by
 unfold zkt zil
 refine⟨_,z4z,z0m (fun h=>row_no1 h) (fun h1=>lenI fun hl=>⟨_,z8m,z0m (fun h=>row_no2 hl h) (fun h2=>lenI fun hl2=>⟨row_start h2 hl,z5s (fun h=>row_no3 h) (fun h3=>?_)⟩)⟩)⟩
 exact⟨_,z60 (fun t=>!vVal t) (fun _ _=>zqv),row_yes hl h1 h2 h3 (by rw[z3r];simp)⟩)
theorem zr7 {x:z09} {f:z00} (h:zil x.1 f=true):0≤f.1∧f.1<(x.1.length:Int):=by have:=z1p h;exact⟨this.2.1,this.2.2.1⟩
theorem zb3 {x:z09} {i:Nat} (hi:i<x.2.1.length) (h1:zil x.1 x.2.1[i]=true) (h2:0<i→cmpF (zeg x.2.1 (i - 1)) x.2.1[i]<0):z8k x i = !(z94 x.1 x.2.1[i].1&&(nulF x.2.1[i]).length != 0):=by
 unfold z8k
 rw[z2e hi,h1]
 have:(i == 0||decide (cmpF (zeg x.2.1 (i - 1)) x.2.1[i]<0))=true:=by
  rcases Nat.eq_zero_or_pos i with h|h
  · simp[h]
  · rw[decide_eq_true (h2 h)];simp
 rw[this];rfl
theorem z4i {x:z09}:z2l x (z3a x):=znw _ _ (by
 unfold zeu
 have no:z3a x=false→((false,()):Bool×Unit)=(z3a x,()):=fun h=>by rw[h]
 refine zbg x.2.1.length (fun i=>!z8k x i) (fun i=>((i:Int),())) (KT:=z3a x=false) (KF:=z3a x=(zc2 x.1&&decide (x.2.1.length≤30))) ?_ ?_ ?_ ?_
 · intro i hi X hb q1 q2
   have qn:z8k x i=false→((false,()):Bool×Unit)=(z3a x,()):=fun h=>no (q1 (by rw[h];rfl))
   have qy:z8k x i=true→X (((i+1:Nat):Int),()):=fun h=>q2 (by rw[h];rfl)
   refine lenI fun hl=>bcI hi (inI hi ⟨_,zl8,?_⟩)
   simp only
   rw[getI hi,z03 (by omega)]
   refine z0m (fun h=>qn (by unfold z8k;rw[z2e hi,h];simp)) (fun hv=>?_)
   have fin:z8k x i = !(z94 x.1 x.2.1[i].1&&(nulF x.2.1[i]).length != 0)→((0≤x.2.1[i].1∧x.2.1[i].1<(x.1.length:Int))∧(z01 (((x.1.getD (Int.toNat x.2.1[i].1) zRel).2).2).1 (∃ y5:List Int,z6g x.2.1[i] y5∧(lenA (List.length y5:Int) (z01 (decide ((List.length y5:Int) > (0:Int))) (((false,()):Bool×Unit)=(z3a x,())) (X (((i+1:Nat):Int),()))))) (X (((i+1:Nat):Int),())))):=by
    intro he
    refine⟨zr7 hv,z1q (fun hs=>⟨_,zks,lenI fun _=>z0f (fun h=>qn ?_) (fun h=>qy ?_)⟩) (fun hs=>qy ?_)⟩
    · have hs:z94 x.1 x.2.1[i].1=true:=hs
      rw[he,hs];simp;intro e;rw[e]at h;simp at h
    · have:(nulF x.2.1[i]).length=0:=by omega
      rw[he,this];simp
    · have hs:z94 x.1 x.2.1[i].1=false:=hs
      rw[he,hs];rfl
   refine z0f (fun h0=>?_) (fun h0=>fin (zb3 hi hv (fun h=>by omega)))
   have hi':i - 1<x.2.1.length:=by omega
   have hw:w64 ((i:Int) - 1)=((i - 1:Nat):Int):=by rw[z1g (by omega) (by omega)];omega
   rw[hw]
   refine inI hi' ⟨_,z96,?_⟩
   rw[getI hi']
   refine z0f (fun h=>qn ?_) (fun h=>fin (zb3 hi hv (fun _=>by rw[z2e hi'];omega)))
   unfold z8k
   rw[z2e hi,z2e hi',decide_eq_false (by omega)]
   have:(i == 0)=false:=by simp;omega
   rw[this];simp
 · intro X h
   refine lenI fun _=>bcN ⟨_,z52,z1q (fun h1=>lenI fun _=>?_) (fun h1=>no (by rw[h,h1];rfl))⟩
   rw[h,h1]
   have:decide ((x.2.1.length:Int)≤30)=decide (x.2.1.length≤30):=decide_eq_decide.mpr (by omega)
   rw[this];rfl
 · rintro⟨i,hi,hp⟩;exact z06o hi (nt hp)
 · intro h;exact zsk fun i hi=>nf (h i hi))
theorem z4f {x:z09}:z2m x (z3a x):=znn _ _ (by
 unfold zeo
 have no:z3a x=false→((false,()):Bool×Unit)=(z3a x,()):=fun h=>by rw[h]
 refine⟨_,z4z,z0m (fun h=>no (by unfold z3a;rw[h];simp)) (fun hr=>lenI fun _=>z0f (fun h=>no (by unfold z3a;rw[decide_eq_false (show ¬ x.2.1.length≤30 by omega)];simp)) (fun hlen=>lenI fun _=>?_))⟩
 refine zbg x.2.1.length (fun i=>!z8k x i) (fun i=>((i:Int),())) (KT:=z3a x=false) (KF:=z3a x=(zc2 x.1&&decide (x.2.1.length≤30))) ?_ ?_ ?_ ?_
 · intro i hi X hb q1 q2
   have qn:z8k x i=false→((false,()):Bool×Unit)=(z3a x,()):=fun h=>no (q1 (by rw[h];rfl))
   have qy:z8k x i=true→X (((i+1:Nat):Int),()):=fun h=>q2 (by rw[h];rfl)
   refine bcI hi (inI hi ⟨_,zld,?_⟩)
   simp only
   rw[getI hi,z03 (by omega)]
   refine z0m (fun h=>qn (by unfold z8k;rw[z2e hi,h];simp)) (fun hv=>?_)
   have hvl:=(z1p hv).2.2.2.2.1
   have fin:z8k x i = !(z94 x.1 x.2.1[i].1&&(nulF x.2.1[i]).length != 0)→((0≤x.2.1[i].1∧x.2.1[i].1<(x.1.length:Int))∧(z01 (((x.1.getD (Int.toNat x.2.1[i].1) zRel).2).2).1 (∃ y5:List Int,z8n x.2.1[i] y5∧(lenA (List.length y5:Int) (z01 (decide ((List.length y5:Int) > (0:Int))) (((false,()):Bool×Unit)=(z3a x,())) (X (((i+1:Nat):Int),()))))) (X (((i+1:Nat):Int),())))):=by
    intro he
    refine⟨zr7 hv,z1q (fun hs=>⟨_,zvy (by omega),lenI fun _=>z0f (fun h=>qn ?_) (fun h=>qy ?_)⟩) (fun hs=>qy ?_)⟩
    · have hs:z94 x.1 x.2.1[i].1=true:=hs
      rw[he,hs];simp;intro e;rw[e]at h;simp at h
    · have:(nulF x.2.1[i]).length=0:=by omega
      rw[he,this];simp
    · have hs:z94 x.1 x.2.1[i].1=false:=hs
      rw[he,hs];rfl
   refine z0f (fun h0=>?_) (fun h0=>fin (zb3 hi hv (fun h=>by omega)))
   have hi':i - 1<x.2.1.length:=by omega
   have hw:w64 ((i:Int) - 1)=((i - 1:Nat):Int):=by rw[z1g (by omega) (by omega)];omega
   rw[hw]
   refine inI hi' ⟨_,z5f,?_⟩
   rw[getI hi']
   refine z0f (fun h=>qn ?_) (fun h=>fin (zb3 hi hv (fun _=>by rw[z2e hi'];omega)))
   unfold z8k
   rw[z2e hi,z2e hi',decide_eq_false (by omega)]
   have:(i == 0)=false:=by simp;omega
   rw[this];simp
 · intro X h
   refine bcN ?_
   rw[h,hr,decide_eq_true (show x.2.1.length≤30 by omega)];rfl
 · rintro⟨i,hi,hp⟩;exact z06o hi (nt hp)
 · intro h;exact zsk fun i hi=>nf (h i hi))
theorem zoi {x:z09} (h:z3a x=true):(x.2.1.flatMap (·.2.1)).length≤90:=by
 have h1:=z41 h
 have:∀ l:List z00,(∀ f∈l,zil x.1 f=true)→(l.flatMap (·.2.1)).length≤3 * l.length:=by
  intro l
  induction l with
  |nil=>intro _;simp
  | cons a l ih=>
    intro hl
    have h1:=(z1p (hl a (by simp))).2.2.2.2.1
    have:=ih fun f hf=>hl f (by simp[hf])
    simp only[List.flatMap_cons,List.length_append,List.length_cons];omega
 have:=this x.2.1 fun f hf=>z57 h hf
 omega
def zjj (x:z09):Int:=match (nulI x).getLast? with
 |some k=>k+1
 |none=>0
theorem nextN_le {x:z09} {n:Nat}:zjj x≤n↔∀ k∈nulI x,k<n:=by
 unfold zjj
 have hs:srt (nulI x):=zmv _
 cases h:(nulI x).getLast? with
 | none=>
   have:nulI x=[]:=List.getLast?_eq_none_iff.mp h
   rw[this];simp
 | some m=>
   have hne:nulI x≠[]:=by intro e;rw[e]at h;simp at h
   have hm:(nulI x).getLast hne=m:=by rw[List.getLast?_eq_some_getLast hne]at h;exact Option.some.inj h
   have hlast:=z0ec hs hne
   constructor
   · intro h' k hk
     have:=hlast k hk;rw[hm]at this;simp only at h';omega
   · intro h'
     have:=h' m (by rw[←hm];exact List.getLast_mem hne)
     simp only;omega
theorem z03w {x:z09} (hl:(x.2.1.flatMap (·.2.1)).length≤1073741824):zlg x (zjj x):=z037 _ _ (by
 unfold ztb
 have hf:=z067 x
 refine⟨_,znm hl,lenI fun _=>z3i (fun h=>?_) (fun h=>lenI fun _=>?_)⟩
 · have:nulI x=[]:=List.length_eq_zero_iff.mp (by omega)
   unfold zjj;rw[this];rfl
 · have hw:w64 ((nulI x).length - 1:Int)=(((nulI x).length - 1:Nat):Int):=by rw[z1g (by omega) (by omega)];omega
   rw[hw]
   have hlt:(nulI x).length - 1<(nulI x).length:=by omega
   refine inI hlt ?_
   rw[getI hlt]
   have hne:nulI x≠[]:=by intro e;rw[e]at h;simp at h
   have hr:0≤(nulI x)[(nulI x).length - 1]∧(nulI x)[(nulI x).length - 1]<0+(40:Nat):=by
    have:=zlq (l:=x.2.1.flatMap (·.2.1)) ((nulI x)[(nulI x).length - 1]) (by rw[zfp];exact List.getElem_mem hlt)
    exact this
   rw[z1g (by omega) (by omega)]
   unfold zjj
   rw[List.getLast?_eq_some_getLast hne,List.getLast_eq_getElem])
def mx (f:Int→Int) (l:List Int):Int:=l.foldl (fun m k=>maxI m (f k)) 0
theorem z0h2 {a b n:Int}:maxI a b≤n↔a≤n∧b≤n:=by unfold maxI;split<;>omega
theorem z0da {f:Int→Int} {n:Int}:∀ {l:List Int} {s:Int},l.foldl (fun m k=>maxI m (f k)) s≤n↔s≤n∧∀ k∈l,f k≤n
 |[],s=>by simp
 | a::l,s=>by
   rw[List.foldl_cons,z0da,z0h2]
   simp only[List.mem_cons,forall_eq_or_imp,and_assoc]
theorem mx_le {f:Int→Int} {l:List Int} {n:Int}:mx f l≤n↔0≤n∧∀ k∈l,f k≤n:=z0da
theorem zid (f:Int→Int) (l:List Int):0≤mx f l:=(mx_le.mp (Int.le_refl _)).1
theorem z0f3 {f:Int→Int} {l m:List Int} (h:∀ k,k∈l↔k∈m):mx f l=mx f m:=by
 have h1:mx f l≤mx f m:=mx_le.mpr ⟨zid _ _,fun k hk=>(mx_le.mp (Int.le_refl (mx f m))).2 k ((h k).mp hk)⟩
 have h2:mx f m≤mx f l:=mx_le.mpr ⟨zid _ _,fun k hk=>(mx_le.mp (Int.le_refl (mx f l))).2 k ((h k).mpr hk)⟩
 omega
theorem z0i0 (f:Int→Int) (l:List Int) (k:Int):mx f (l++[k])=maxI (mx f l) (f k):=by unfold mx;rw[List.foldl_append];rfl
theorem zzy (a b:Int):maxI (a+1) (b+1)=maxI a b+1:=by unfold maxI;split<;>split<;>omega
def z8b (out:List Int) (args:List Int):Int:=mx (fun k=>out.getD k.toNat 0) (z2h args)+1
def z1z (ts:List z05):List Int:=ts.foldl (fun out t=>out++[z8b out t.2.2.1]) []
theorem z8e (ts:List z05) (t:z05):z1z (ts++[t])=z1z ts++[z8b (z1z ts) t.2.2.1]:=by unfold z1z;rw[List.foldl_append];rfl
theorem z05a (ts:List z05):(z1z ts).length=ts.length:=by
 have:∀(l:List z05) (s:List Int),(l.foldl (fun out t=>out++[z8b out t.2.2.1]) s).length=s.length+l.length:=by
  intro l
  induction l with
  |nil=>intro s;simp
  |cons a l ih=>intro s;rw[List.foldl_cons,ih];simp;omega
 have:=this ts []
 simpa [z1z]using this
def zfe (ts:List z05) (i:Nat):z05:=ts.getD i z3h
theorem z6e {ts:List z05} {i:Nat} (h:i<ts.length):zfe ts i=ts[i]:=z0s h
def zb8 (k:Nat) (v:Int):Bool:=vVal v && !(z8c v&&decide ((k:Int)≤z4v v))
def z8a (ts:List z05) (k:Nat):Bool:=inR (zfe ts k).1 0 4&&inR (zfe ts k).2.1 0 4&&decide ((zfe ts k).2.2.1.length≤5)&&(zfe ts k).2.2.1.all (zb8 k) && !(ts.take k).any (fun t=>decide (t=zfe ts k))
def areT (ts:List z05):Bool:=decide (ts.length≤30)&&(List.range ts.length).all (z8a ts)&&(z1z ts).all fun d=>decide (d≤8)
def vSk (s:TSk):Bool:=z3a s.1&&decide (zjj s.1≤s.2.1.length)&&areT s.2.1
theorem zwk {k:Nat} {args:List Int} (h:args.all (zb8 k)=true):∀ n∈z2h args,0≤n∧n<k:=by
 intro n hn
 obtain⟨h1,h2,h3⟩:=mem_nulls.mp hn
 have:=List.all_eq_true.mp h _ h3
 unfold zb8 at this
 rw[Bool.and_eq_true]at this
 have hi:z8c (-1 - n)=true:=isNul_iff.mpr ⟨by omega,by omega⟩
 have he:z4v (-1 - n)=n:=by unfold z4v;rw[if_pos hi];omega
 rw[hi,Bool.true_and,he]at this
 have h4:=this.2
 simp at h4
 exact⟨h1,h4⟩
theorem z0br {ts:List z05} (h:areT ts=true) {k:Nat} (hk:k<ts.length):z8a ts k=true:=by
 unfold areT at h
 simp only[Bool.and_eq_true]at h
 exact List.all_eq_true.mp h.1.2 k (List.mem_range.mpr hk)
theorem z6b {s:TSk} (h:vSk s=true):z3a s.1=true∧zjj s.1≤s.2.1.length∧areT s.2.1=true:=by
 unfold vSk at h;simp at h;exact⟨h.1.1,h.1.2,h.2⟩
theorem zea {ts:List z05} (h:areT ts=true):ts.length≤30:=by unfold areT at h;simp at h;exact h.1.1
theorem zo9 {g:Int→Int}:∀ {l:List Int} {s:Int},0≤s→l.foldl (fun m v=>maxI m (if z8c v then g (z4v v)else 0)) s=(z2h l).foldl (fun m k=>maxI m (g k)) s
 |[],_,_=>rfl
 | a::l,s,h=>by
   have hs:0≤maxI s (g (z4v a)):=by unfold maxI;split<;>omega
   have h0:maxI s 0=s:=by unfold maxI;split<;>omega
   rw[List.foldl_cons]
   cases hn:z8c a with
   | true=>
     have hno:z4v a = -1 - a:=by unfold z4v;rw[if_pos hn]
     have e:z2h (a::l)=(-1 - a)::z2h l:=by unfold z2h;simp[hn]
     rw[e,List.foldl_cons,if_pos rfl,zo9 hs,hno]
   | false=>
     have e:z2h (a::l)=z2h l:=by unfold z2h;simp[hn]
     rw[e,if_neg (by simp),h0];exact zo9 h
theorem z7c {s:TSk}:z37 s (vSk s):=zj2 _ _ (by
 unfold zb9
 have no:vSk s=false→((false,()):Bool×Unit)=(vSk s,()):=fun h=>by rw[h]
 have na:areT s.2.1=false→((false,()):Bool×Unit)=(vSk s,()):=fun h=>no (by unfold vSk;rw[h];simp)
 refine z1t (fun k a=>∃ i:Nat,i+k=s.2.1.length∧a=((i:Int),(z1z (s.2.1.take i),()))∧i≤30∧(∀ j,j<i→z8a s.2.1 j=true)∧∀ d∈z1z (s.2.1.take i),d≤8) ?_ ?_ (n:=s.2.1.length) ⟨0,by omega,by simp[z1z],by omega,fun j hj=>by omega,by simp[z1z]⟩
 · rintro a ⟨i,hi,rfl,hi30,hok,hd⟩ X
   obtain rfl:i=s.2.1.length:=by omega
   rw[List.take_length]at hd
   refine lenI fun _=>bcN ?_
   have hT:areT s.2.1=true:=by
    unfold areT
    rw[decide_eq_true hi30,List.all_eq_true.mpr fun i hi=>hok i (List.mem_range.mp hi),List.all_eq_true.mpr fun d h=>decide_eq_true (hd d h)];rfl
   have hf:=z067 s.1
   refine⟨_,zms,_,z4i,z1q (fun hv=>lenI fun _=>z0f (fun _=>lenI fun _=>?_) (fun h=>by omega)) (fun hv=>no (by unfold vSk;rw[hv];simp))⟩
   have ev:vSk s=decide (zjj s.1≤s.2.1.length):=by unfold vSk;rw[hv,hT];simp
   rw[ev]
   refine z3i (fun h=>?_) (fun h=>lenI fun _=>?_)
   · have:nulI s.1=[]:=List.length_eq_zero_iff.mp (by omega)
     rw[decide_eq_true (nextN_le.mpr (by rw[this];simp))]
   · have hw:w64 ((nulI s.1).length - 1:Int)=(((nulI s.1).length - 1:Nat):Int):=by rw[z1g (by omega) (by omega)];omega
     rw[hw]
     have hlt:(nulI s.1).length - 1<(nulI s.1).length:=by omega
     refine inI hlt (lenI fun _=>?_)
     rw[getI hlt]
     have hne:nulI s.1≠[]:=by intro e;rw[e]at h;simp at h
     have e1:zjj s.1=(nulI s.1)[(nulI s.1).length - 1]+1:=by unfold zjj;rw[List.getLast?_eq_some_getLast hne,List.getLast_eq_getElem]
     rw[e1]
     exact congrArg (fun b=>(b,())) (decide_eq_decide.mpr (by omega))
 · rintro k a ⟨i,hi,rfl,hi30,hok,hd⟩ X hX
   have hlt:i<s.2.1.length:=by omega
   have hdl:(z1z (s.2.1.take i)).length=i:=by rw[z05a,List.length_take];omega
   have nt':z8a s.2.1 i=false→((false,()):Bool×Unit)=(vSk s,()):=fun h=>na (by
    unfold areT
    have:(List.range s.2.1.length).all (z8a s.2.1)=false:=by
     rw[Bool.eq_false_iff];intro hall
     have:=List.all_eq_true.mp hall i (List.mem_range.mpr hlt);rw[h]at this;cases this
    rw[this];simp)
   have hta:=z6e hlt
   refine lenI fun hl=>bcI hlt ?_
   simp only
   rw[getI hlt]
   refine z1t (fun k a=>∃ j:Nat,j+k=s.2.1[i].2.2.1.length∧a=(mx (fun k=>(z1z (s.2.1.take i)).getD k.toNat 0) (z2h (s.2.1[i].2.2.1.take j)),((j:Int),()))∧(s.2.1[i].2.2.1.take j).all (zb8 i)=true) ?_ ?_ (n:=s.2.1[i].2.2.1.length) ⟨0,by omega,by simp[z2h,mx],by simp⟩
   rotate_left
   · rintro k a ⟨j,hj,rfl,hall⟩ Y hY
     have hjl:j<s.2.1[i].2.2.1.length:=by omega
     refine inI hlt (lenI fun _=>bcI hjl (inI hlt (inI hjl ?_)))
     simp only
     rw[getI hjl,z03 (by omega)]
     have bad:zb8 i s.2.1[i].2.2.1[j]=false→((false,()):Bool×Unit)=(vSk s,()):=fun h=>nt' (by
      unfold z8a
      rw[hta]
      have:s.2.1[i].2.2.1.all (zb8 i)=false:=by
       rw[Bool.eq_false_iff];intro hall
       have:=List.all_eq_true.mp hall _ (List.getElem_mem hjl);rw[h]at this;cases this
      rw[this];simp)
     have hnl:z2h (s.2.1[i].2.2.1.take (j+1))=z2h (s.2.1[i].2.2.1.take j)++(if z8c s.2.1[i].2.2.1[j] then[-1 - s.2.1[i].2.2.1[j]] else[]):=by
      rw[z07 hjl,zem];congr 1
      unfold z2h
      cases h:z8c s.2.1[i].2.2.1[j]<;>simp[h]
     refine⟨_,_,z9i,_,za1,z0m (fun h=>bad (by unfold zb8;rw[h];rfl)) (fun hv=>?_)⟩
     have hnext:zb8 i s.2.1[i].2.2.1[j]=true→(s.2.1[i].2.2.1.take (j+1)).all (zb8 i)=true:=fun h=>by
      rw[z07 hjl,List.all_append,hall];simp[h]
     refine z1q (fun hn=>?_) (fun hn=>?_)
     · have hno:z4v s.2.1[i].2.2.1[j] = -1 - s.2.1[i].2.2.1[j]:=by unfold z4v;rw[if_pos hn]
       have hr:=isNul_iff.mp hn
       refine z0f (fun h=>bad ?_) (fun h=>?_)
       · unfold zb8;rw[hv,hn,decide_eq_true (show(i:Int)≤z4v s.2.1[i].2.2.1[j] from h)];rfl
       · rw[hn]
         refine bcT ⟨⟨by rw[hno];omega,by rw[hdl];omega⟩,hY _ ⟨j+1,by omega,?_,hnext ?_⟩⟩
         · rw[hnl,if_pos hn,z0i0,hno]
         · unfold zb8;rw[hv,hn,decide_eq_false (show ¬ (i:Int)≤z4v s.2.1[i].2.2.1[j] by omega)];rfl
     · rw[hn]
       refine bcF (hY _ ⟨j+1,by omega,?_,hnext ?_⟩)
       · rw[hnl,if_neg (by rw[hn];simp),List.append_nil]
       · unfold zb8;rw[hv,hn];rfl
   rintro a ⟨j,hj,rfl,hall⟩ Y
   obtain rfl:j=s.2.1[i].2.2.1.length:=by omega
   refine inI hlt (lenI fun _=>bcN ?_)
   simp only[List.take_length]at hall ⊢
   have hmx:=zid (fun k=>(z1z (s.2.1.take i)).getD k.toNat 0) (z2h s.2.1[i].2.2.1)
   have hmx8:mx (fun k=>(z1z (s.2.1.take i)).getD k.toNat 0) (z2h s.2.1[i].2.2.1)≤8:=mx_le.mpr ⟨by omega,fun k hk=>by
    have hr:=zwk hall k hk
    have hkl:k.toNat<(z1z (s.2.1.take i)).length:=by omega
    rw[z0s hkl];exact hd _ (List.getElem_mem hkl)⟩
   have hw:w64 (mx (fun k=>(z1z (s.2.1.take i)).getD k.toNat 0) (z2h s.2.1[i].2.2.1)+1)=z8b (z1z (s.2.1.take i)) s.2.1[i].2.2.1:=by rw[z1g (by omega) (by omega)];rfl
   rw[hw]
   refine⟨by simp only[maxL,List.length_cons,List.length_nil];omega,?_⟩
   have hsn:z1z (s.2.1.take i)++[z8b (z1z (s.2.1.take i)) s.2.1[i].2.2.1]=z1z (s.2.1.take (i+1)):=by rw[z07 hlt,z8e]
   have hmem:z8b (z1z (s.2.1.take i)) s.2.1[i].2.2.1∈z1z s.2.1:=by
    have:∀(l m:List z05),∃ r,z1z (l++m)=z1z l++r:=by
     intro l m
     induction m generalizing l with
     |nil=>exact⟨[],by simp⟩
     | cons a m ih=>
       obtain⟨r,hr⟩:=ih (l++[a])
       rw[List.append_assoc,z8e,List.append_assoc]at hr
       exact⟨_,hr⟩
    obtain⟨r,hr⟩:=this (s.2.1.take (i+1)) (s.2.1.drop (i+1))
    rw[List.take_append_drop,←hsn]at hr
    rw[hr];simp
   refine z0f (fun h=>na ?_) (fun h8=>inI hlt (lenI fun _=>z0f (fun h=>nt' ?_) (fun h5=>z0f (fun h=>na ?_) (fun h30=>?_))))
   · unfold areT
     have:((z1z s.2.1).all fun d=>decide (d≤8))=false:=by
      rw[Bool.eq_false_iff];intro hall'
      have:=List.all_eq_true.mp hall' _ hmem
      have:z8b (z1z (s.2.1.take i)) s.2.1[i].2.2.1≤8:=by simpa using this
      unfold z8b at this;omega
     rw[this];simp
   · unfold z8a;rw[hta,decide_eq_false (show ¬ s.2.1[i].2.2.1.length≤5 by omega)];simp
   · unfold areT;rw[decide_eq_false (show ¬ s.2.1.length≤30 by omega)];simp
   · refine zbg i (fun j=>decide (zfe s.2.1 j=s.2.1[i])) (fun j=>((j:Int),())) (KT:=(s.2.1.take i).any (fun t=>decide (t=s.2.1[i]))=true) (KF:=(s.2.1.take i).any (fun t=>decide (t=s.2.1[i]))=false) ?_ ?_ ?_ ?_
     · intro j hj Z _ q1 q2
       have hjl:j<s.2.1.length:=by omega
       have bad:s.2.1[j]=s.2.1[i]→((false,()):Bool×Unit)=(vSk s,()):=fun h=>nt' (by
        have:=q1 (by rw[z6e hjl];exact decide_eq_true h)
        unfold z8a;rw[hta,this];simp)
       have good:s.2.1[j]≠s.2.1[i]→Z (((j+1:Nat):Int),()):=fun h=>q2 (by rw[z6e hjl];exact decide_eq_false h)
       refine bcI hj (inI hjl (inI hlt ?_))
       simp only
       rw[getI hjl,z03 (by omega)]
       refine z3i (fun h1=>inI hjl (inI hlt (z3i (fun h2=>inI hjl (inI hlt ⟨_,zmi,z3i (fun h3=>bad (Prod.ext h1 (Prod.ext h2 (Prod.ext (cmpL_zero.mp h3) rfl)))) (fun h3=>good fun e=>h3 (cmpL_zero.mpr (by rw[e])))⟩)) (fun h=>good fun e=>h (by rw[e]))))) (fun h=>good fun e=>h (by rw[e]))
     · intro Z hany
       refine bcN (inI hlt ⟨_,zfa,z0m (fun h=>nt' (by unfold z8a;rw[hta,h];simp)) (fun hd1=>inI hlt ⟨_,zfa,z0m (fun h=>nt' (by unfold z8a;rw[hta,h];simp)) (fun hd2=>?_)⟩)⟩)
       rw[z03 (by omega)]
       refine hX _ ⟨i+1,by omega,by rw[hsn],by omega,fun j hj=>?_,fun d hdm=>?_⟩
       · by_cases hji:j=i
         · subst hji
           unfold z8a
           rw[hta,hd1,hd2,hall,hany,decide_eq_true (show s.2.1[j].2.2.1.length≤5 by omega)];rfl
         · exact hok j (by omega)
       · rw[←hsn]at hdm
         rcases List.mem_append.mp hdm with hdm|hdm
         · exact hd d hdm
         · have:d=z8b (z1z (s.2.1.take i)) s.2.1[i].2.2.1:=by simpa using hdm
           rw[this];unfold z8b;omega
     · rintro⟨j,hj,hp⟩
       have hjl:j<s.2.1.length:=by omega
       rw[z6e hjl]at hp
       refine List.any_eq_true.mpr ⟨s.2.1[j],?_,hp⟩
       have hjt:j<(s.2.1.take i).length:=by rw[List.length_take];omega
       have:(s.2.1.take i)[j]=s.2.1[j]:=by simp
       rw[←this];exact List.getElem_mem hjt
     · intro h
       rw[Bool.eq_false_iff];intro hany
       obtain⟨t,ht,hp⟩:=List.any_eq_true.mp hany
       obtain⟨j,hj,rfl⟩:=List.mem_iff_getElem.mp ht
       rw[List.length_take]at hj
       have:=h j (by omega)
       rw[z6e (by omega)]at this
       have e:(s.2.1.take i)[j]'(by rw[List.length_take];omega)=s.2.1[j]'(by omega):=by simp
       rw[e]at hp
       rw[hp]at this;cases this)
theorem zy7 {v:Int} {k:Nat}:z7u v k (!zb8 k v):=zzh _ _ _ (by
 unfold zn9
 refine⟨_,_,zna,_,z9n,z0m (fun h=>by unfold zb8;rw[h];rfl) (fun hv=>z1q (fun hn=>?_) (fun hn=>by unfold zb8;rw[hv,hn];rfl))⟩
 unfold zb8
 rw[hv,hn]
 simp)
theorem z042 {t:z05} {k:Nat}:zm4 t k (inR t.1 0 4&&inR t.2.1 0 4&&decide (t.2.2.1.length≤5)&&t.2.2.1.all (zb8 k)):=z05c _ _ _ (by
 unfold zs5
 refine⟨_,z8m,z0m (fun h=>by rw[h];rfl) (fun h1=>⟨_,z8m,z0m (fun h=>by rw[h];simp) (fun h2=>lenI fun _=>z0f (fun h=>?_) (fun h3=>⟨_,z72 (fun v=>!zb8 k v) (fun _ _=>zy7),?_⟩))⟩)⟩
 · rw[decide_eq_false (show ¬ t.2.2.1.length≤5 by omega)];simp
 · rw[h1,h2,decide_eq_true (show t.2.2.1.length≤5 by omega),z3r];simp)
theorem z04g {x y:z05}:zdi x y (decide (x=y)):=z055 _ _ _ (by
 unfold zse
 have no:¬ x=y→((false,()):Bool×Unit)=(decide (x=y),()):=fun h=>by rw[decide_eq_false h]
 refine z3i (fun h1=>z3i (fun h2=>⟨_,zeb,?_⟩) (fun h=>no fun e=>h (by rw[e]))) (fun h=>no fun e=>h (by rw[e]))
 obtain⟨a,b,c,_⟩:=x;obtain⟨a',b',c',_⟩:=y
 simp only at h1 h2;simp[h1,h2])
def zbc (ts:List z05) (t:z05):Int:=if z04 (fun x=>decide (x=t)) ts<ts.length then(z04 (fun x=>decide (x=t)) ts:Int)else -1
theorem zrv {ts:List z05} {t:z05}:zis ts t (zbc ts t):=z09m _ _ _ (by
 unfold z00a
 exact⟨_,z6h (fun x=>decide (x=t)) (fun _ _=>z04g),rfl⟩)
theorem z02b {α:Type} {p:α→Bool} {l:List α} {i:Nat} (h:i<l.length) (hp:p l[i]=true):z04 p l=i↔(l.take i).any p=false:=by
 constructor
 · intro he
   rw[Bool.eq_false_iff];intro hany
   obtain⟨t,ht,hpt⟩:=List.any_eq_true.mp hany
   obtain⟨j,hj,rfl⟩:=List.mem_iff_getElem.mp ht
   rw[List.length_take]at hj
   have:=zan (p:=p) (l:=l) (i:=j) (by omega) (by omega)
   have e:(l.take i)[j]'(by rw[List.length_take];omega)=l[j]'(by omega):=by simp
   rw[e]at hpt;rw[this]at hpt;cases hpt
 · intro hany
   rcases Nat.lt_trichotomy (z04 p l) i with h1|h1|h1
   · have h2:=zaf (p:=p) (l:=l) (by omega)
     have:(l.take i).any p=true:=List.any_eq_true.mpr ⟨l[z04 p l],by
      have hj:z04 p l<(l.take i).length:=by rw[List.length_take];omega
      have e:(l.take i)[z04 p l]=l[z04 p l]'(by omega):=by simp
      rw[←e];exact List.getElem_mem hj,h2⟩
     rw[hany]at this;cases this
   · exact h1
   · have:=zan (p:=p) h h1;rw[hp]at this;cases this
theorem z0cd {ts:List z05} (hl:ts.length≤30) (ha:∀ k (h:k<ts.length),ts[k].2.2.1.all (zb8 k)=true∧ts[k].2.2.1.length≤5):zuq ts (z1z ts):=z0ar _ _ (by
 unfold z02s
 refine lenI fun _=>?_
 have hbnd0:∀(n:Nat) (l:List z05),l.length=n→∀ d∈z1z l,1≤d∧d≤l.length:=by
  intro n
  induction n with
  |zero=>intro l hl;obtain rfl:=List.length_eq_zero_iff.mp hl;simp[z1z]
  | succ n ih0=>
    intro l0 hl d hd
    have hne:l0≠[]:=by intro e;rw[e]at hl;simp at hl
    obtain⟨l,t,rfl⟩:∃ l t,l0=l++[t]:=⟨_,_,(List.dropLast_concat_getLast hne).symm⟩
    have ih:=ih0 l (by simpa using hl)
    rw[z8e]at hd
    rw[List.length_append]
    rcases List.mem_append.mp hd with hd|hd
    · have:=ih d hd;simp;omega
    · have e:d=z8b (z1z l) t.2.2.1:=by simpa using hd
      rw[e]
      unfold z8b
      have h0:=zid (fun k=>(z1z l).getD k.toNat 0) (z2h t.2.2.1)
      have:mx (fun k=>(z1z l).getD k.toNat 0) (z2h t.2.2.1)≤l.length:=mx_le.mpr ⟨by omega,fun k _=>by
       by_cases hk:k.toNat<(z1z l).length
       · rw[z0s hk];exact(ih _ (List.getElem_mem hk)).2
       · rw[List.getD_eq_getElem?_getD,List.getElem?_eq_none (by omega)];simp⟩
      simp only[List.length_cons,List.length_nil];omega
 have hbnd:=fun l=>hbnd0 _ l rfl
 refine z1v ts.length (fun i=>((i:Int),(z1z (ts.take i),()))) (by simp[z1z]) ?_ ?_
 · intro i hi X hX
   have hdl:(z1z (ts.take i)).length=i:=by rw[z05a,List.length_take];omega
   have hai:=ha i hi
   refine bcI hi (inI hi ⟨_,zov (by simp only;rw[getI hi];omega),lenI fun hsl=>?_⟩)
   simp only at hsl ⊢
   rw[getI hi]at hsl ⊢
   refine z1v (sset (z2h ts[i].2.2.1)).length (fun j=>(((sset (z2h ts[i].2.2.1)).take j).foldl (fun m k=>maxI m ((z1z (ts.take i)).getD k.toNat 0)) 0+1,((j:Int),()))) (by simp) ?_ ?_
   · intro j hj Y hY
     have hm:=mem_sset.mp (List.getElem_mem hj)
     have hr:=zwk hai.1 _ hm
     have hkl:(sset (z2h ts[i].2.2.1))[j].toNat<(z1z (ts.take i)).length:=by omega
     refine bcI hj (inI hj ?_)
     simp only
     rw[getI hj,z03 (by omega)]
     refine⟨⟨hr.1,by rw[hdl];exact hr.2⟩,?_⟩
     have hb:=hbnd (ts.take i) _ (List.getElem_mem hkl)
     rw[List.length_take]at hb
     have e:(z1z (ts.take i)).getD (sset (z2h ts[i].2.2.1))[j].toNat 0=(z1z (ts.take i))[(sset (z2h ts[i].2.2.1))[j].toNat]:=z0s hkl
     rw[z1g (by rw[e];omega) (by rw[e];omega)]
     rw[z07 hj,List.foldl_append]at hY
     rw[zzy]
     exact hY
   · intro Y
     refine bcN ?_
     simp only[List.take_length]
     have hmx:(sset (z2h ts[i].2.2.1)).foldl (fun m k=>maxI m ((z1z (ts.take i)).getD k.toNat 0)) 0+1=z8b (z1z (ts.take i)) ts[i].2.2.1:=by
      unfold z8b
      have:=z0f3 (f:=fun k=>(z1z (ts.take i)).getD k.toNat 0) (l:=sset (z2h ts[i].2.2.1)) (m:=z2h ts[i].2.2.1) (fun k=>mem_sset)
      rw[←this];rfl
     rw[hmx,z03 (by omega)]
     refine⟨by simp only[maxL,List.length_cons,List.length_nil];omega,?_⟩
     rw[z07 hi,z8e]at hX
     exact hX
 · intro X
   refine bcN ?_
   simp only[List.take_length])
theorem zy3 {d:Int}:z7r d (decide (d > 8)):=zzz _ _ (by unfold znh;rfl)
theorem z056 {ts:List z05}:zll ts (areT ts):=z043 _ _ (by
 unfold ztv
 have no:areT ts=false→((false,()):Bool×Unit)=(areT ts,()):=fun h=>by rw[h]
 refine lenI fun _=>z0f (fun h=>no (by unfold areT;rw[decide_eq_false (show ¬ ts.length≤30 by omega)];simp)) (fun hl=>lenI fun _=>?_)
 have tOk:∀ k (h:k<ts.length),z8a ts k=((inR ts[k].1 0 4&&inR ts[k].2.1 0 4&&decide (ts[k].2.2.1.length≤5)&&ts[k].2.2.1.all (zb8 k))&&decide (zbc ts ts[k]=k)):=by
  intro k h
  have e:(!(ts.take k).any (fun t=>decide (t=ts[k])))=decide (zbc ts ts[k]=k):=by
   have hf:=z02b (p:=fun t=>decide (t=ts[k])) h (by simp)
   cases hany:(ts.take k).any (fun t=>decide (t=ts[k]))with
   | false=>
     have:=hf.mpr hany
     unfold zbc
     rw[this,if_pos h];simp
   | true=>
     have hne:z04 (fun t=>decide (t=ts[k])) ts≠k:=fun e=>by rw[hf.mp e]at hany;cases hany
     unfold zbc
     split
     · rw[decide_eq_false (by omega)];rfl
     · rw[decide_eq_false (by omega)];rfl
  unfold z8a
  rw[z6e h,e]
 refine zbg ts.length (fun k=>!z8a ts k) (fun k=>((k:Int),())) (KT:=areT ts=false) (KF:=∀ k,k<ts.length→z8a ts k=true) ?_ ?_ ?_ ?_
 · intro i hi X _ q1 q2
   refine bcI hi (inI hi ⟨_,z042,?_⟩)
   simp only
   rw[getI hi,z03 (by omega)]
   rw[tOk i hi]at q1 q2
   refine z0m (fun h=>no (q1 (by rw[h];rfl))) (fun h=>⟨_,zrv,z5s (fun h2=>no (q1 (by rw[decide_eq_false h2];simp))) (fun h2=>q2 (by rw[h,decide_eq_true h2];rfl))⟩)
 · intro X hall
   refine bcN ⟨_,z0cd (by omega) (fun k hk=>?_),_,z7j (fun d=>decide (d > 8)) (fun _ _=>zy3),?_⟩
   · have:=hall k hk
     rw[tOk k hk]at this
     simp only[Bool.and_eq_true,decide_eq_true_eq]at this
     exact⟨this.1.2,this.1.1.2⟩
   · have e:(!(z1z ts).any fun d=>decide (d > 8))=(z1z ts).all fun d=>decide (d≤8):=by
      have h1:=z3r (p:=fun d:Int=>decide (d≤8)) (l:=z1z ts)
      have h2:(fun d:Int=>!decide (d≤8))=fun d=>decide (d > 8):=by funext d;by_cases h:d≤8<;>simp[h]<;>omega
      rw[h2]at h1;rw[h1];simp
     rw[e]
     unfold areT
     rw[decide_eq_true (show ts.length≤30 by omega),List.all_eq_true.mpr fun k hk=>hall k (List.mem_range.mp hk)];rfl
 · rintro⟨k,hk,hp⟩
   unfold areT
   have:(List.range ts.length).all (z8a ts)=false:=by
    rw[Bool.eq_false_iff];intro hall
    have:=List.all_eq_true.mp hall k (List.mem_range.mpr hk);rw[nt hp]at this;cases this
   rw[this];simp
 · intro h k hk;exact nf (h k hk))
theorem z35 {s:TSk}:z1m s (vSk s):=zir _ _ (by
 unfold zb6
 refine⟨_,z4f,z1q (fun h1=>lenI fun _=>⟨_,z03w (by have:=zoi h1;omega),z0f (fun h2=>⟨_,z056,?_⟩) (fun h2=>?_)⟩) (fun h1=>?_)⟩
 · unfold vSk;rw[h1,decide_eq_true h2];rfl
 · unfold vSk;rw[decide_eq_false h2];simp
 · unfold vSk;rw[h1];rfl)
theorem zcl {d:TDep} (h1:(d.1.flatMap (·.2.1)).length≤1073741824) (h2:(d.2.1.flatMap (·.2.1)).length≤1073741824):z4y d (frV d):=zkm _ _ (by
 unfold zcp
 have hv:=zk5 d.2.1
 refine⟨_,zb0 h1,_,zb0 h2,?_⟩
 refine z1v (vars d.2.1).length (fun i=>((i:Int),(((vars d.2.1).take i).filter (fun v=>decide (v∈vars d.1)),()))) (by simp) ?_ ?_
 · intro i hi X hX
   refine lenI fun _=>bcI hi (inI hi ⟨_,zqz,?_⟩)
   simp only
   rw[getI hi,z03 (by omega)]
   have e:((vars d.2.1).take (i+1)).filter (fun v=>decide (v∈vars d.1))=((vars d.2.1).take i).filter (fun v=>decide (v∈vars d.1))++(if (vars d.2.1)[i]∈vars d.1 then[(vars d.2.1)[i]] else[]):=by
    rw[z07 hi,List.filter_append]
    by_cases h:(vars d.2.1)[i]∈vars d.1<;>simp[h]
   rw[e]at hX
   have hb:=List.length_filter_le (fun v=>decide (v∈vars d.1)) ((vars d.2.1).take i)
   rw[List.length_take]at hb
   refine z1q (fun h=>inI hi ⟨by simp only[maxL,List.length_cons,List.length_nil];omega,?_⟩) (fun h=>?_)
   · have h:(vars d.2.1)[i]∈vars d.1:=by simpa using h
     rw[if_pos h]at hX;exact hX
   · have h:¬ (vars d.2.1)[i]∈vars d.1:=by simpa using h
     rw[if_neg h,List.append_nil]at hX;exact hX
 · intro X
   refine lenI fun _=>bcN ?_
   simp only[List.take_length]
   rfl)
theorem zcr {d:TDep} (h1:(d.1.flatMap (·.2.1)).length≤1073741824) (h2:(d.2.1.flatMap (·.2.1)).length≤1073741824):z4x d (frV d):=zko _ _ (by
 unfold zci
 exact⟨_,zhf h1 h2,by rw[z0es]⟩)
theorem zd0 {α σ:Type} {μ:σ→Nat} {g:σ→α→σ} {c:Nat}:∀ {l:List α} {s:σ},(∀ s,∀ a∈l,μ (g s a)≤μ s+c)→μ (l.foldl g s)≤μ s+l.length * c
 |[],s,_=>by simp
 | a::l,s,h=>by
   have h1:=h s a (by simp)
   have h2:=zd0 (s:=g s a) fun s b (hb:b∈l)=>h s b (by simp[hb])
   rw[List.foldl_cons,List.length_cons,Nat.add_mul];omega
theorem z2n {α σ τ:Type} {B:(τ→Prop)→τ→Prop} (l:List α) (g:σ→α→σ) (s0:σ) (e:Nat→σ→τ) (μ:σ→Nat) (c N:Nat) (hN:l.length≤N) (hg:∀ s,∀ a∈l,μ (g s a)≤μ s+c)
  (hs:∀ i (h:i<l.length) (s:σ) (X:τ→Prop),μ s≤μ s0+N * c→X (e (i+1) (g s l[i]))→B X (e i s))
  (hf:∀ X:τ→Prop,μ (l.foldl g s0)≤μ s0+N * c→B X (e l.length (l.foldl g s0))):z0a B (e 0 s0):=by
 have hb:∀ i,i≤l.length→μ ((l.take i).foldl g s0)≤μ s0+N * c:=fun i hi=>by
  have h1:=zd0 (μ:=μ) (g:=g) (c:=c) (l:=l.take i) (s:=s0) fun s a ha=>hg s a (List.mem_of_mem_take ha)
  rw[List.length_take,Nat.min_eq_left hi]at h1
  have:i * c≤N * c:=Nat.mul_le_mul_right c (by omega)
  omega
 refine ziu l g s0 e (fun i hi X hX=>hs i hi _ X (hb i (by omega)) hX) (fun X=>hf X ?_)
 have:=hb l.length (Nat.le_refl _)
 rwa [List.take_length]at this
def z0c6 (d:TDep):Prop:=(d.1.flatMap (·.2.1)).length≤6∧(d.2.1.flatMap (·.2.1)).length≤6
theorem z0e1 {l:List TRel} {d:TDep} (h:vDep l d=true):z0c6 d:=by
 have:=z8h h;exact⟨this.2.2.2.2.2.1,this.2.2.2.2.2.2⟩
theorem z04c {d:TDep} (h:z0c6 d):(exV d).length≤6:=Nat.le_trans (List.length_filter_le _ _) (Nat.le_trans (zk5 _) h.2)
theorem zzx {d:TDep} (h:z0c6 d):(frV d).length≤6:=Nat.le_trans (List.length_filter_le _ _) (Nat.le_trans (zk5 _) h.2)
theorem z06g {α:Type} {p q:α→Bool}:∀ {l:List α},(∀ x∈l,p x=true→q x=true)→l.countP p≤l.countP q
 |[],_=>by simp
 | a::l,h=>by
   have ih:=z06g (l:=l) fun x hx=>h x (by simp[hx])
   have ha:=h a (by simp)
   rw[List.countP_cons,List.countP_cons]
   cases hp:p a with
   |false=>cases q a<;>simp<;>omega
   |true=>rw[ha hp];simp;exact ih
theorem z071 {α:Type} {p q:α→Bool}:∀ {l:List α},(∀ x∈l,p x=true→q x=true)→(∃ x∈l,q x=true∧p x=false)→l.countP p<l.countP q
 |[],_,⟨_,h,_⟩=>by cases h
 | a::l,h,⟨x,hx,hq,hp⟩=>by
   have ih:=z06g (l:=l) fun x hx=>h x (by simp[hx])
   rw[List.countP_cons,List.countP_cons]
   rcases List.mem_cons.mp hx with rfl|hx
   · rw[hp,hq];simp;omega
   · have:=z071 (l:=l) (fun x hx=>h x (by simp[hx])) ⟨x,hx,hq,hp⟩
     have ha:=h a (by simp)
     cases hpa:p a with
     |false=>cases q a<;>simp<;>omega
     |true=>rw[ha hpa];simp;exact this
theorem z060 {α:Type} {l:List α} {i j:Nat} {x d:α} (h:i<l.length):(l.set i x).getD j d=if j=i then x else l.getD j d:=by
 by_cases hj:j<l.length
 · rw[z0s (by simpa using hj),z0s hj,List.getElem_set]
   by_cases hij:i=j
   · subst hij;simp
   · rw[if_neg hij,if_neg (Ne.symm hij)]
 · have:j≠i:=by omega
   rw[if_neg this,List.getD_eq_getElem?_getD,List.getD_eq_getElem?_getD,List.getElem?_eq_none (by simpa using hj),List.getElem?_eq_none (by omega)]
theorem z063 {α:Type} {l m:List α} {d:α} (hl:l.length=m.length) (h:∀ i,i<l.length→l.getD i d=m.getD i d):l=m:=by
 refine List.ext_getElem hl fun i h1 h2=>?_
 have:=h i h1
 rwa [z0s h1,z0s h2]at this
def z4j (l:List TRel) (ds:List TDep):Bool:=zoq l ds && !ds.any fun d=>d.2.2.1
theorem zly {l:List TRel} {ds:List TDep}:zdq l ds (z4j l ds):=z03p _ _ _ (by
 unfold zv0
 refine z7v ds (fun d=>d.2.2.1) (fun i=>((i:Int),())) (KT:=ds.any (fun d=>d.2.2.1)=true) (KF:=ds.any (fun d=>d.2.2.1)=false) ?_ ?_ id id
 · intro i hi X h1 h2
   refine lenI fun _=>bcI hi (inI hi ?_)
   simp only
   rw[getI hi,z03 (by omega)]
   refine z1q (fun h=>?_) (fun h=>h2 h)
   unfold z4j;rw[h1 h];simp
 · intro X h
   refine lenI fun _=>bcN ⟨_,zgb,?_⟩
   unfold z4j;rw[h];simp)
theorem z006 {d:TDep}:z7n d d.2.2.1:=zzs _ _ (by unfold zn6;rfl)
theorem zgr {l:List TRel} {ds:List TDep}:zag l ds (z4j l ds):=z03u _ _ _ (by
 unfold ztz z4j
 refine⟨_,zgy,z1q (fun h=>⟨_,z4u (fun d=>d.2.2.1) (fun _ _=>z006),by rw[h];rfl⟩) (fun h=>by rw[h];rfl)⟩)
def srcF (l:List TRel) (f:z00):Bool:=zil l f&&z94 l f.1
theorem zto {l:List TRel} {f:z00}:zdt l f (srcF l f):=zsm _ _ _ (by
 unfold zic srcF
 refine⟨_,zld,z1q (fun h=>?_) (fun h=>by rw[h];rfl)⟩
 have:=z1p h
 exact⟨⟨this.2.1,this.2.2.1⟩,by rw[h];rfl⟩)
theorem z21 {l:List Int} (h:l.length≤1099511627776):z0z l l:=zmm _ _ (by
 unfold zet
 refine z1q (fun he=>⟨?_,by simp only[maxL,List.length_nil];omega,by rw[List.nil_append]⟩) (fun _=>⟨by simp only[maxL,List.length_nil];omega,by rw[List.nil_append]⟩)
 have:l=[]:=List.isEmpty_iff.mp he
 rw[this])
theorem zgl {l:List TRel} (h:l.length≤1099511627776):z5y l l:=zh4 _ _ (by
 unfold za0
 refine z1q (fun he=>⟨?_,by simp only[maxL,List.length_nil];omega,by rw[List.nil_append]⟩) (fun _=>⟨by simp only[maxL,List.length_nil];omega,by rw[List.nil_append]⟩)
 have:l=[]:=List.isEmpty_iff.mp he
 rw[this])
theorem zsq {f:z00} (h:f.2.1.length≤1099511627776):zim f f:=z0ba _ _ (by
 unfold z00m
 try refine⟨trivial,?_⟩
 exact⟨by simp only[maxL,List.length_nil];omega,by rw[List.nil_append]⟩)
theorem z04u {f:z00} (h:f.2.1.length≤1099511627776):zmd f f:=z03q _ _ (by
 unfold zsh
 exact⟨_,z21 h,rfl⟩)
theorem zn2 {α τ:Type} {B:(τ→Prop)→τ→Prop} (l:List α) (e:Nat→List α→τ) (hl:l.length≤1073741824)
  (hs:∀ i (h:i<l.length) (s:List α) (X:τ→Prop),s.length≤1073741824→X (e (i+1) (s++[l[i]]))→B X (e i s))
  (hf:∀ X:τ→Prop,B X (e l.length l)):z0a B (e 0 []):=by
 refine z1v l.length (fun i=>e i (l.take i)) (by simp) ?_ ?_
 · intro i hi X hX
   rw[z07 hi]at hX
   exact hs i hi _ X (by rw[List.length_take];omega) hX
 · intro X;rw[List.take_length];exact hf X
theorem zpc {l:List z00} (hl:l.length≤1073741824) (h:∀ f∈l,f.2.1.length≤1099511627776):zer l l:=z01b _ _ (by
 unfold zpg
 refine lenI fun _=>zn2 l (fun i s=>((i:Int),(s,()))) hl ?_ ?_
 · intro i hi s X hs hX
   refine bcI hi (inI hi ⟨l[i],?_,⟨by simp only[maxL,List.length_cons,List.length_nil];omega,?_⟩⟩)
   · simp only;rw[getI hi];exact z04u (h _ (List.getElem_mem hi))
   · simp only;rw[z03 (by omega)];exact hX
 · intro X;exact bcN rfl)
theorem zm5:zal 1 5 0 5:=zoy _ _ _ _ (by
 unfold zfr
 decide)
abbrev zbf:List Int:=[10,10,10,10,10]
theorem zjf:z8w [10] 5 zbf:=zmb _ _ _ (by
 unfold ze5
 refine bcF (lenI fun _=>⟨0,5,zui _ _ _ _ ⟨0,5,zm5,rfl⟩,bcF (bcF ⟨by decide,by decide,?_⟩)⟩)
 refine z1v 3 (fun i=>match i with
  |0=>((1:Int),(([10,0,0,0,0]:List Int),()))
  |1=>((2:Int),(([10,10,0,0,0]:List Int),()))
  |2=>((4:Int),(([10,10,10,10,0]:List Int),()))
  |_=>((5:Int),(([10,10,10,10,10]:List Int),()))) (by decide) ?_ ?_
 · intro i hi X hX
   rcases i with _|_|_|i
   · exact lenI fun _=>bcT ⟨by decide,by decide,by decide,by rw[show ∀ z,w64 z=IntKind.i64.wrap z from fun _=>rfl];exact hX⟩
   · exact lenI fun _=>bcT ⟨by decide,by decide,by decide,by rw[show ∀ z,w64 z=IntKind.i64.wrap z from fun _=>rfl];exact hX⟩
   · exact lenI fun _=>bcT ⟨by decide,by decide,by decide,by rw[show ∀ z,w64 z=IntKind.i64.wrap z from fun _=>rfl];exact hX⟩
   · omega
 · intro X
   exact lenI fun _=>bcF rfl)
theorem zp6:zai zbf:=zof _ (by unfold zfy;exact⟨_,zjf,rfl⟩)
theorem zww:zjn 10:=z07t _ (by unfold zxa;rfl)
theorem z04x:zlz [10,10,10,10,10]:=z059 _ (by
 unfold zt0
 refine z1v 5 (fun i=>(List.replicate i (10:Int),())) rfl ?_ ?_
 · intro i hi X hX
   refine lenI fun _=>z0f (fun _=>⟨_,zww,by simp only[maxL,List.length_replicate,List.length_cons,List.length_nil];omega,?_⟩) (fun h=>by simp only[List.length_replicate]at h;omega)
   rw[List.replicate_succ']at hX;exact hX
 · intro X
   exact lenI fun _=>bcF rfl)
def fitP:List Int→List Int→List Int→List Int×Bool
 |[],_,b=>(b,true)
 | t::ts,v::vs,b=>if t<0 then(if -1 - t=v then fitP ts vs b else(b,false))
   else if b.getD t.toNat 0=10∨b.getD t.toNat 0=v then fitP ts vs (b.set t.toNat v)else(b,false)
 |_::_,[],b=>(b,false)
theorem zro {t:Int} {ts:List Int} {v:Int} {vs b:List Int}:fitP (t::ts) (v::vs) b=if t<0 then(if -1 - t=v then fitP ts vs b else(b,false))
 else if b.getD t.toNat 0=10∨b.getD t.toNat 0=v then fitP ts vs (b.set t.toNat v)else(b,false):=rfl
theorem zh1:∀ {ts vs b:List Int},(fitP ts vs b).1.length=b.length
 |[],vs,b=>by simp[fitP]
 |t::ts,[],b=>by simp[fitP]
 | t::ts,v::vs,b=>by
   unfold fitP
   split
   · split
     · exact zh1
     · rfl
   · split
     · rw[zh1,List.length_set]
     · rfl
theorem z0dz {l:List Int} {i:Nat} {v:Int} (h:i<l.length) (hv:l.getD i 0=v):l.set i v=l:=by
 rw[z0s h]at hv
 subst hv
 exact List.set_getElem_self h
theorem z0bj {a f:z00} {b:List Int} (hl:a.2.1.length≤1000) (hb:b.length≤1000) (ht:∀ t∈a.2.1,-10≤t∧t<b.length) :
  zu6 a f b (if a.1=f.1∧a.2.1.length=f.2.1.length then(fitP a.2.1 f.2.1 b).1 else b) (decide (a.1=f.1∧a.2.1.length=f.2.1.length)&&(fitP a.2.1 f.2.1 b).2):=z09q _ _ _ _ _ (by
 unfold z02l
 refine⟨by simp only[maxL,List.length_nil];omega,z5s (fun h=>by rw[if_neg (fun h'=>h h'.1)];simp[h]) (fun h1=>lenI fun _=>lenI fun _=>z5s (fun h=>?_) (fun h2=>?_))⟩
 · have h:¬ a.2.1.length=f.2.1.length:=by omega
   rw[if_neg (fun h'=>h h'.2)];simp[h]
 · have h2:a.2.1.length=f.2.1.length:=by omega
   rw[if_pos ⟨h1,h2⟩,decide_eq_true (And.intro h1 h2),Bool.true_and,List.nil_append]
   refine z1t (fun k s=>∃(i:Nat) (c:List Int),i+k=a.2.1.length∧s=((i:Int),(c,()))∧c.length=b.length∧fitP (a.2.1.drop i) (f.2.1.drop i) c=fitP a.2.1 f.2.1 b) ?_ ?_ (n:=a.2.1.length) ⟨0,b,by omega,rfl,rfl,by simp⟩
   · rintro s ⟨i,c,hi,rfl,hc,hf⟩ X
     obtain rfl:i=a.2.1.length:=by omega
     refine lenI fun _=>bcN ?_
     rw[←hf];simp[fitP]
   · rintro k s ⟨i,c,hi,rfl,hc,hf⟩ X hX
     have hlt:i<a.2.1.length:=by omega
     have hlt':i<f.2.1.length:=by omega
     rw[z4e hlt,z4e hlt']at hf
     have htr:=ht _ (List.getElem_mem hlt)
     refine lenI fun _=>bcI hlt (inI hlt ?_)
     simp only
     rw[getI hlt,getI hlt',z03 (by omega)]
     rw[zro]at hf
     refine z0f (fun h3=>inI hlt' ?_) (fun h3=>?_)
     · rw[if_pos h3]at hf
       rw[z1g (by omega) (by omega)]
       refine z5s (fun h4=>?_) (fun h4=>?_)
       · rw[if_neg h4]at hf;rw[←hf]
       · rw[if_pos h4]at hf;exact hX _ ⟨i+1,c,by omega,rfl,hc,hf⟩
     · rw[if_neg h3]at hf
       have hin:a.2.1[i].toNat<c.length:=by omega
       refine⟨⟨by omega,by omega⟩,_,zww,z5s (fun h4=>⟨⟨by omega,by omega⟩,inI hlt' (z5s (fun h5=>?_) (fun h5=>inI hlt' ⟨⟨by omega,by omega⟩,?_⟩))⟩) (fun h4=>inI hlt' ⟨⟨by omega,by omega⟩,?_⟩)⟩
       · rw[if_neg (by rintro (h|h);exact h4 h;exact h5 h)]at hf;rw[←hf]
       · rw[if_pos (.inr h5)]at hf;exact hX _ ⟨i+1,_,by omega,rfl,by rw[List.length_set];exact hc,hf⟩
       · rw[if_pos (.inl h4)]at hf;exact hX _ ⟨i+1,_,by omega,rfl,by rw[List.length_set];exact hc,hf⟩)
theorem z0h0 {a f:z00} {b:List Int} (hl:a.2.1.length≤1000) (hb:b.length≤1000) (ht:∀ t∈a.2.1,-10≤t∧t<b.length) (hr:a.1=f.1→a.2.1.length=f.2.1.length) :
  z03e b a f (if a.1=f.1∧(fitP a.2.1 f.2.1 b).2 then(fitP a.2.1 f.2.1 b).1 else[]) (decide (a.1=f.1)&&(fitP a.2.1 f.2.1 b).2):=z0h1 _ _ _ _ _ (by
 unfold z09u
 refine z5s (fun h=>by rw[if_neg (fun h'=>h h'.1)];simp[h]) (fun h1=>⟨_,z21 (by omega),lenI fun _=>?_⟩)
 have h2:=hr h1
 rw[decide_eq_true h1,Bool.true_and]
 refine z1t (fun k s=>∃(i:Nat) (c:List Int),i+k=a.2.1.length∧s=((i:Int),(c,()))∧c.length=b.length∧fitP (a.2.1.drop i) (f.2.1.drop i) c=fitP a.2.1 f.2.1 b) ?_ ?_ (n:=a.2.1.length) ⟨0,b,by omega,rfl,rfl,by simp⟩
 · rintro s ⟨i,c,hi,rfl,hc,hf⟩ X
   obtain rfl:i=a.2.1.length:=by omega
   refine bcN ?_
   rw[←hf];simp[fitP,h1]
 · rintro k s ⟨i,c,hi,rfl,hc,hf⟩ X hX
   have hlt:i<a.2.1.length:=by omega
   have hlt':i<f.2.1.length:=by omega
   rw[z4e hlt,z4e hlt']at hf
   have htr:=ht _ (List.getElem_mem hlt)
   refine bcI hlt (inI hlt (inI hlt' ?_))
   simp only
   rw[getI hlt,getI hlt',z03 (by omega)]
   rw[zro]at hf
   refine z0f (fun h3=>?_) (fun h3=>?_)
   · rw[if_pos h3]at hf
     rw[z1g (by omega) (by omega)]
     refine z5s (fun h4=>?_) (fun h4=>?_)
     · rw[if_neg (fun h=>h4 h.symm)]at hf;rw[←hf];simp
     · rw[if_pos h4.symm]at hf;exact hX _ ⟨i+1,c,by omega,rfl,hc,hf⟩
   · rw[if_neg h3]at hf
     have hin:a.2.1[i].toNat<c.length:=by omega
     refine⟨⟨by omega,by omega⟩,z3i (fun h4=>⟨⟨by omega,by omega⟩,?_⟩) (fun h4=>⟨⟨by omega,by omega⟩,z5s (fun h5=>?_) (fun h5=>?_)⟩)⟩
     · rw[if_pos (.inl h4)]at hf;exact hX _ ⟨i+1,_,by omega,rfl,by rw[List.length_set];exact hc,hf⟩
     · rw[if_neg (by rintro (h|h);exact h4 h;exact h5 h)]at hf;rw[←hf];simp
     · rw[if_pos (.inr h5),z0dz hin h5]at hf;exact hX _ ⟨i+1,c,by omega,rfl,hc,hf⟩)
def zot (fs:List z00) (w:List Int→List (List Int)) (a:z00) (b:List Int) (out:List (List Int)) (f:z00):List (List Int):=if a.1=f.1∧(fitP a.2.1 f.2.1 b).2=true then out++w (fitP a.2.1 f.2.1 b).1 else out
def walk (fs:List z00):List z00→List Int→List (List Int)
 |[],b=>[b]
 |a::ats,b=>fs.foldl (zot fs (walk fs ats) a b) []
structure WOk (fs ats:List z00):Prop where
 few:fs.length≤30
 row:∀ a∈ats,a.2.1.length≤3∧∀ t∈a.2.1,-10≤t∧t<5
 fit:∀ a∈ats,∀ f∈fs,a.1=f.1→a.2.1.length=f.2.1.length
theorem WOk.tail {fs ats:List z00} {a:z00} (h:WOk fs (a::ats)):WOk fs ats:=⟨h.few,fun x hx=>h.row x (by simp[hx]),fun x hx=>h.fit x (by simp[hx])⟩
theorem zsa {fs ats:List z00} {a:z00} {b:List Int} {n:Nat} (hw:∀ c,(walk fs ats c).length≤n) (out:List (List Int)) (f:z00):(zot fs (walk fs ats) a b out f).length≤out.length+n:=by
 unfold zot
 split
 · rw[List.length_append];have:=hw (fitP a.2.1 f.2.1 b).1;omega
 · omega
theorem zep {fs:List z00} (h:fs.length≤30):∀ {ats:List z00} {b:List Int},(walk fs ats b).length≤30 ^ ats.length
 |[],b=>by simp[walk]
 | a::ats,b=>by
   have:=zd0 (l:=fs) (g:=zot fs (walk fs ats) a b) (s:=[]) (μ:=List.length) (c:=30 ^ ats.length) fun s f _=>zsa (fun c=>zep h) s f
   simp only[List.length_nil,Nat.zero_add]at this
   rw[List.length_cons,Nat.pow_succ,Nat.mul_comm]
   exact Nat.le_trans this (Nat.mul_le_mul_right _ h)
theorem z0f8 {fs ats:List z00} {b c:List Int} (h:c∈walk fs ats b):c.length=b.length:=by
 induction ats generalizing b c with
 |nil=>simp[walk]at h;rw[h]
 | cons a ats ih=>
   have:∀(l:List z00) (out:List (List Int)),(∀ c∈out,c.length=b.length)→∀ c∈l.foldl (zot fs (walk fs ats) a b) out,c.length=b.length:=by
    intro l
    induction l with
    |nil=>intro out ho;exact ho
    | cons f l ihl=>
      intro out ho
      rw[List.foldl_cons]
      refine ihl _ fun c hc=>?_
      unfold zot at hc
      split at hc
      · rcases List.mem_append.mp hc with hc|hc
        · exact ho c hc
        · rw[ih hc,zh1]
      · exact ho c hc
   exact this fs [] (by simp) c h
def mOk (x:z09) (l:List z00):Bool:=l.all (z6s x.1)&&(z3a x&&decide (l.length≤3))
theorem zs3 {x:z09} {l:List z00} (h:mOk x l=true):WOk x.2.1 l∧l.length≤3:=by
 unfold mOk at h
 simp only[Bool.and_eq_true,decide_eq_true_eq]at h
 obtain⟨h1,h2,h3⟩:=h
 refine⟨⟨z41 h2,fun a ha=>?_,fun a ha f hf he=>?_⟩,h3⟩
 · have:=z1p (List.all_eq_true.mp h1 a ha)
   exact⟨this.2.2.2.2.1,fun t ht=>by have:=inR_iff.mp (this.2.2.2.2.2 t ht);omega⟩
 · have e1:=z1p (List.all_eq_true.mp h1 a ha)
   have e2:=z1p (z57 h2 hf)
   have:=e1.2.2.2.1
   have:=e2.2.2.2.1
   rw[he]at *
   omega
def dedG (out:List (List Int)) (b:List Int):List (List Int):=if b∈out then out else out++[b]
def z95 (x:z09) (l:List z00):List (List Int):=if mOk x l then(walk x.2.1 l zbf).foldl dedG [] else[]
theorem zya (out:List (List Int)) (b:List Int):(dedG out b).length≤out.length+1:=by unfold dedG;split<;>simp
theorem zze:∀ {l:List (List Int)} {out:List (List Int)} {b:List Int},b∈l.foldl dedG out→b∈out∨b∈l
 |[],out,b,h=>.inl h
 | c::l,out,b,h=>by
   rw[List.foldl_cons]at h
   rcases zze h with h|h
   · unfold dedG at h
     split at h
     · exact .inl h
     · rcases List.mem_append.mp h with h|h
       · exact .inl h
       · simp at h;exact .inr (by simp[h])
   · exact .inr (by simp[h])
theorem zjr {x:z09} {l:List z00} {b:List Int} (h:b∈z95 x l):b.length=5:=by
 unfold z95 at h
 split at h
 · rcases zze h with h|h
   · simp at h
   · rw[z0f8 h];rfl
 · simp at h
theorem z049 {n:Nat} (h:n≤3):30 ^ n≤27000:=Nat.le_trans (Nat.pow_le_pow_right (by omega) h) (by decide)
theorem zjh {x:z09} {l:List z00}:(z95 x l).length≤27000:=by
 unfold z95
 split
 · rename_i h
   have:=zd0 (l:=walk x.2.1 l zbf) (g:=dedG) (s:=[]) (μ:=List.length) (c:=1) fun s f _=>zya s f
   have h2:=zep (zs3 h).1.few (ats:=l) (b:=zbf)
   have:=z049 (zs3 h).2
   simp at *
   omega
 · exact Nat.zero_le _
theorem z0dt {x:z09} {l:List z00}:zzp x l (mOk x l):=z0ez _ _ _ (by
 unfold z06n
 refine z7v l (fun a=>!z6s x.1 a) (fun i=>((i:Int),())) (KT:=((false,()):Bool×Unit)=(mOk x l,())) (KF:=l.any (fun a=>!z6s x.1 a)=false) ?_ ?_ ?_ (fun h=>h)
 · intro i hi X h1 h2
   refine lenI fun _=>bcI hi (inI hi ⟨_,zf4,?_⟩)
   simp only
   rw[getI hi,z03 (by omega)]
   exact z1q h1 h2
 · intro X h
   refine lenI fun _=>bcN ⟨_,z4i,?_⟩
   rw[z3r]at h
   refine z1q (fun h1=>lenI fun _=>?_) (fun h1=>?_)
   · unfold mOk;rw[nf h,h1];simp;omega
   · unfold mOk;rw[h1];simp
 · intro h
   rw[z3r]at h
   unfold mOk;rw[nt h];rfl)
theorem zta {x:z09} {l:List z00}:zdu x l (mOk x l):=zu2 _ _ _ (by
 unfold ziy
 refine⟨_,z4f,z1q (fun h1=>lenI fun _=>z3i (fun h2=>?_) (fun h2=>⟨_,zm8,?_⟩)) (fun h1=>by unfold mOk;rw[h1];simp)⟩
 · have:l=[]:=List.eq_nil_of_length_eq_zero (by omega)
   unfold mOk;rw[this,h1];rfl
 · have:mOk x l=(inR l.length 1 3&&l.all (z6s x.1)):=by
    unfold mOk
    rw[h1,Bool.true_and,Bool.and_comm]
    congr 1
    have h0:1≤l.length:=by omega
    unfold inR
    rw[decide_eq_true (show(1:Int)≤(l.length:Int) by omega),Bool.true_and]
    exact decide_eq_decide.mpr (by omega)
   rw[this])
theorem zwo {x:z09} {l:List z00} (h:WOk x.2.1 l) (hl:l.length≤3):∀(k n:Nat) (b:List Int),n+k=l.length→b.length=5→zk8 x l n b (walk x.2.1 (l.drop n) b)
 | 0,n,b,hn,hb=>zwm _ _ _ _ _ (by
   unfold zol
   obtain rfl:n=l.length:=by omega
   refine lenI fun _=>z3i (fun _=>⟨by simp only[maxL,List.length_nil];omega,by rw[List.drop_length];rfl⟩) (fun h=>absurd rfl h))
 | k+1,n,b,hn,hb=>zwm _ _ _ _ _ (by
   unfold zol
   have hlt:n<l.length:=by omega
   refine lenI fun _=>z3i (fun h=>by omega) (fun _=>?_)
   rw[z4e hlt]
   have hrow:=h.row _ (List.getElem_mem hlt)
   refine z2n x.2.1 (zot x.2.1 (walk x.2.1 (l.drop (n+1))) l[n] b) [] (fun i s=>((i:Int),(s,()))) List.length 27000 30 h.few (fun s f _=>zsa (fun c=>Nat.le_trans (zep h.few) (z049 (by rw[List.length_drop];omega))) s f) ?_ ?_
   · intro i hi s X hs hX
     have hfew:=h.few
     refine lenI fun _=>bcI hi (inI hlt (inI hi ⟨_,_,z0bj (a:=l.getD (Int.toNat (n:Int)) z0i) (f:=x.2.1.getD (Int.toNat (i:Int)) z0i) (b:=b) ?_ (by omega) ?_,?_⟩))
     · rw[getI hlt];omega
     · rw[getI hlt];intro t ht;have:=hrow.2 t ht;omega
     · simp only
       rw[getI hlt,getI hi,z03 (by omega),z03 (by omega)]
       have hfit:=h.fit _ (List.getElem_mem hlt) _ (List.getElem_mem hi)
       unfold zot at hX
       by_cases hc:l[n].1=x.2.1[i].1
       · rw[if_pos ⟨hc,hfit hc⟩,decide_eq_true (And.intro hc (hfit hc)),Bool.true_and]
         refine z1q (fun h4=>⟨_,zwo h hl k (n+1) _ (by omega) (by rw[zh1];exact hb),?_,?_⟩) (fun h4=>?_)
         · have h5:(walk x.2.1 (l.drop (n+1)) (fitP l[n].2.1 x.2.1[i].2.1 b).1).length≤27000:=Nat.le_trans (zep h.few) (z049 (by rw[List.length_drop];omega))
           simp only[maxL,List.length_nil]at *
           omega
         · rw[if_pos ⟨hc,h4⟩]at hX;exact hX
         · rw[if_neg (by rintro⟨_,h5⟩;rw[h4]at h5;cases h5)]at hX;exact hX
       · rw[if_neg (fun h=>hc h.1),decide_eq_false (fun h=>hc h.1),Bool.false_and]
         rw[if_neg (fun h=>hc h.1)]at hX
         exact bcF hX
   · intro X _
     exact lenI fun _=>bcN rfl)
theorem zwi {fs:List z00}:∀ {l:List z00} (b:List Int),WOk fs l→l.length≤3→b.length=5→zk7 fs l b (walk fs l b)
 |[],b,h,hl,hb=>zwv _ _ _ _ (by unfold zon;exact lenI fun _=>bcT rfl)
 | a::l,b,h,hl,hb=>zwv _ _ _ _ (by
   unfold zon
   have hrow:=h.row a (by simp)
   refine lenI fun _=>z3i (fun h=>by simp at h;omega) (fun _=>lenI fun _=>?_)
   have hd:List.drop (Int.toNat (1:Int)) (List.take (Int.toNat ((a::l).length:Int)) (a::l))=l:=by rw[Int.toNat_natCast,List.take_length];rfl
   rw[hd]
   refine z2n fs (zot fs (walk fs l) a b) [] (fun i s=>((i:Int),(s,()))) List.length 27000 30 h.few (fun s f _=>zsa (fun c=>Nat.le_trans (zep h.few) (z049 (by simp at hl;omega))) s f) ?_ ?_
   · intro i hi s X hs hX
     have hfew:=h.few
     refine bcI hi (inI hi ⟨⟨by omega,by simp only[List.length_cons];omega⟩,_,_,z0h0 (a:=a) (f:=fs.getD (Int.toNat (i:Int)) z0i) (b:=b) (by omega) (by omega) (fun t ht=>by have:=hrow.2 t ht;omega) ?_,?_⟩)
     · rw[getI hi];exact h.fit a (by simp) _ (List.getElem_mem hi)
     · simp only
       rw[getI hi,z03 (by omega)]
       unfold zot at hX
       by_cases hc:a.1=fs[i].1
       · rw[decide_eq_true hc,Bool.true_and]
         refine z1q (fun h4=>⟨⟨by omega,by simp;omega,by omega⟩,_,zwi _ h.tail (by simp at hl;omega) (by rw[if_pos ⟨hc,h4⟩,zh1];exact hb),?_,?_⟩) (fun h4=>?_)
         · have h5:∀ c,(walk fs l c).length≤27000:=fun c=>Nat.le_trans (zep h.few) (z049 (by simp at hl;omega))
           have:=h5 (if a.1=fs[i].1∧(fitP a.2.1 fs[i].2.1 b).2=true then(fitP a.2.1 fs[i].2.1 b).1 else[])
           simp only[maxL,List.length_nil]at *
           omega
         · rw[if_pos ⟨hc,h4⟩]at hX ⊢;exact hX
         · rw[if_neg (by rintro⟨_,h5⟩;rw[h4]at h5;cases h5)]at hX;exact hX
       · rw[decide_eq_false hc,Bool.false_and]
         rw[if_neg (fun h=>hc h.1)]at hX
         exact bcF hX
   · intro X _
     exact bcN rfl)
theorem z007 {l:List (List Int)} {b:List Int}:zg6 l b (decide (b∈l)):=zyo _ _ _ (by
 unfold znf
 refine⟨_,z65 (fun t=>decide (t=b)) (fun t _=>zuw _ _ _ ⟨_,zeb,rfl⟩),?_⟩
 have:(l.any fun t=>decide (t=b))=decide (b∈l):=by
  rw[←zrz]
  congr 1;funext t
  by_cases h:t=b
  · simp[h]
  · have:¬ b=t:=fun e=>h e.symm
    simp[h,this]
 rw[this])
def mkd {α:Type} (w:List α) (i:Nat):List (Bool×α):=(w.take i).map (fun y=>(false,y))++(w.drop i).map (fun y=>(true,y))
theorem z0au {α:Type} {w:List α} {i:Nat}:(mkd w i).length=w.length:=by
 unfold mkd
 rw[List.length_append,List.length_map,List.length_map,←List.length_append,List.take_append_drop]
theorem z0bx {α:Type} {w:List α} {i:Nat} (h:i<w.length) {d:Bool×α}:List.getD (mkd w i) i d=(true,w[i]):=by
 have hl:((w.take i).map (fun y=>(false,y))).length=i:=by simp;omega
 unfold mkd
 rw[List.getD_eq_getElem?_getD,List.getElem?_append_right (by omega),hl,Nat.sub_self,List.getElem?_map,List.getElem?_drop,Nat.add_zero,List.getElem?_eq_getElem h]
 rfl
theorem z0bd {α:Type} {w:List α} {i:Nat} (h:i<w.length):List.set (mkd w i) i (false,w[i])=mkd w (i+1):=by
 have hl:((w.take i).map (fun y=>(false,y))).length=i:=by simp;omega
 unfold mkd
 rw[List.set_append,hl,if_neg (by omega),Nat.sub_self,List.drop_eq_getElem_cons h,List.map_cons,List.set_cons_zero,z07 h,List.map_append,List.append_assoc]
 rfl
theorem zl6 {x:z09} {l:List z00}:zas x l (z95 x l):=zvq _ _ _ (by
 unfold zl7
 refine⟨_,zta,z0m (fun h=>by unfold z95;rw[h];rfl) (fun h=>?_)⟩
 obtain⟨hw,hl⟩:=zs3 h
 refine⟨_,zp6,_,zwi zbf hw hl rfl,lenI fun _=>?_⟩
 have hlen:(walk x.2.1 l zbf).length≤27000:=Nat.le_trans (zep hw.few) (z049 hl)
 unfold z95
 rw[h,if_pos rfl]
 rw[show List.map (fun y=>(true,y)) (walk x.2.1 l zbf)=mkd (walk x.2.1 l zbf) 0 from rfl]
 refine z2n (walk x.2.1 l zbf) dedG [] (fun i s=>((i:Int),(s,(mkd (walk x.2.1 l zbf) i,())))) List.length 1 27000 hlen (fun s f _=>zya s f) ?_ ?_
 · intro i hi s X hs hX
   refine bcI hi (inI (by rw[z0au];exact hi) ?_)
   simp only[Int.toNat_natCast]
   rw[z0bx hi]
   refine⟨rfl,_,z007,?_⟩
   simp only
   rw[z0bd hi,z03 (by omega)]
   unfold dedG at hX
   refine zcs (fun h4=>⟨by simp only[maxL,List.length_nil,List.length_cons]at *;omega,?_⟩) (fun h4=>?_)
   · rw[if_neg h4]at hX;exact hX
   · rw[if_pos h4]at hX;exact hX
 · intro X _
   exact bcN rfl)
theorem zkx {x:z09} {l:List z00}:zap x l (z95 x l):=zv6 _ _ _ (by
 unfold zl3
 refine⟨_,z0dt,z0m (fun h=>by unfold z95;rw[h];rfl) (fun h=>?_)⟩
 obtain⟨hw,hl⟩:=zs3 h
 refine⟨_,z04x,_,zwo hw hl l.length 0 zbf (by omega) rfl,?_⟩
 rw[List.drop_zero]
 have hlen:(walk x.2.1 l zbf).length≤27000:=Nat.le_trans (zep hw.few) (z049 hl)
 unfold z95
 rw[h,if_pos rfl]
 refine z2n (walk x.2.1 l zbf) dedG [] (fun i s=>((i:Int),(s,(walk x.2.1 l zbf,())))) List.length 1 27000 hlen (fun s f _=>zya s f) ?_ ?_
 · intro i hi s X hs hX
   refine lenI fun _=>bcI hi ?_
   simp only
   rw[z03 (by omega)]
   refine ziu s (fun(m:Bool) c=>m||decide (c=(walk x.2.1 l zbf)[i])) false (fun j m=>(m,((j:Int),()))) ?_ ?_
   · intro j hj Y hY
     refine lenI fun _=>bcI hj ?_
     simp only
     rw[z03 (by simp at hs;omega)]
     generalize (s.take j).foldl (fun(m:Bool) c=>m||decide (c=(walk x.2.1 l zbf)[i])) false=m at hY ⊢
     cases m with
     |true=>exact bcT hY
     | false=>
       refine bcF (inI hj (inI hi ⟨_,zmi,?_⟩))
       rw[getI hj,getI hi]
       have:(cmpL s[j] (walk x.2.1 l zbf)[i] == (0:Int))=decide (s[j]=(walk x.2.1 l zbf)[i]):=by
        by_cases he:s[j]=(walk x.2.1 l zbf)[i]
        · rw[cmpL_zero.mpr he];simp[he]
        · have:cmpL s[j] (walk x.2.1 l zbf)[i]≠0:=fun e=>he (cmpL_zero.mp e)
          simp[he,this]
       rw[this];simpa using hY
   · intro Y
     refine lenI fun _=>bcN ?_
     simp only
     have hm:∀(s:List (List Int)) (m:Bool),s.foldl (fun(m:Bool) c=>m||decide (c=(walk x.2.1 l zbf)[i])) m=(m||decide ((walk x.2.1 l zbf)[i]∈s)):=by
      intro s
      induction s with
      |nil=>intro m;simp
      | cons c s ih=>
        intro m
        rw[List.foldl_cons,ih,Bool.or_assoc]
        congr 1
        by_cases he:c=(walk x.2.1 l zbf)[i]
        · simp[he]
        · have:¬ (walk x.2.1 l zbf)[i]=c:=fun e=>he e.symm
          simp[he,this]
     rw[hm,Bool.false_or]
     unfold dedG at hX
     refine zcs (fun h4=>inI hi ⟨by simp only[maxL,List.length_nil,List.length_cons]at *;omega,?_⟩) (fun h4=>?_)
     · rw[getI hi];rw[if_neg h4]at hX;exact hX
     · rw[if_pos h4]at hX;exact hX
 · intro X _
   exact lenI fun _=>bcN rfl)
def z097 (b:List Int) (t:Int):Option Int:=if 0≤t then(if (b.length:Int)≤t then none else if vVal (b.getD t.toNat 0)then some (b.getD t.toNat 0)else none)else(if vVal (-1 - t)then some (-1 - t)else none)
def zhr (b:List Int) (s:List Int) (t:Int):Unit ⊕ List Int:=match z097 b t with
 |none=>.inl ()
 |some v=>.inr (s++[v])
def inst (a:z00) (b:List Int):z00:=match runE (zhr b) a.2.1 []with
 |.inl _=>z0i
 |.inr s=>(a.1,(s,()))
def zaa (a:z00) (b:List Int):Bool:=match runE (zhr b) a.2.1 []with
 |.inl _=>false
 |.inr _=>true
theorem zmp {b:List Int}:∀ {l:List Int} {s s':List Int},runE (zhr b) l s = .inr s'→s'.length=s.length+l.length
 |[],s,s',h=>by simp only[runE,Sum.inr.injEq]at h;subst h;simp
 | t::l,s,s',h=>by
   simp only[runE]at h
   unfold zhr at h
   cases e:z097 b t with
   |none=>rw[e]at h;simp at h
   | some v=>
     rw[e]at h
     have:=zmp (b:=b) (l:=l) h
     simp at this ⊢
     omega
theorem z0dw {a:z00} {b:List Int}:(inst a b).2.1.length≤a.2.1.length:=by
 unfold inst
 cases e:runE (zhr b) a.2.1 []with
 |inl _=>simp
 |inr s=>have:=zmp e;simp at this ⊢;omega
theorem z0a0 {a:z00} {b:List Int} {r:Unit} (h:runE (zhr b) a.2.1 [] = .inl r):((z0i,(false,())):z00×Bool×Unit)=(inst a b,(zaa a b,())):=by unfold inst zaa;rw[h]
theorem z072 {a:z00} {b s:List Int} (h:runE (zhr b) a.2.1 [] = .inr s):(((a.1,(s,())),(true,())):z00×Bool×Unit)=(inst a b,(zaa a b,())):=by unfold inst zaa;rw[h]
theorem zay {a:z00} {b:List Int} (hl:a.2.1.length≤1000) (hb:b.length≤1000) (ht:∀ t∈a.2.1,-10≤t∧t<5):z6f a b (inst a b) (zaa a b):=zv1 _ _ _ _ (by
 unfold zl4
 refine lenI fun _=>zen a.2.1 (zhr b) [] (fun i s=>((i:Int),(z0i,((a.1,(s,())),())))) (KR:=fun _=>((z0i,(false,())):z00×Bool×Unit)=(inst a b,(zaa a b,()))) ?_ ?_ (fun r hr=>z0a0 hr)
 · intro i hi s X hr h1 h2
   have hs:=zmp hr
   have htr:=ht _ (List.getElem_mem hi)
   refine bcI hi (inI hi ?_)
   simp only
   rw[getI hi,z03 (by omega)]
   unfold zhr z097 at h1 h2
   rw[List.length_take,List.length_nil]at hs
   refine z0f (fun h3=>lenI fun _=>z0f (fun h4=>?_) (fun h4=>⟨⟨by omega,by omega⟩,_,z9n,z0m (fun h5=>?_) (fun h5=>⟨by simp only[maxL,List.length_cons,List.length_nil];omega,?_⟩)⟩)) (fun h3=>⟨_,z9n,?_⟩)
   · exact h1 () (by rw[if_pos (by omega),if_pos (by omega)])
   · exact h1 () (by rw[if_pos (by omega),if_neg (by omega),h5];rfl)
   · exact h2 _ (by rw[if_pos (by omega),if_neg (by omega),h5];rfl)
   · rw[z1g (by omega) (by omega)]
     refine z0m (fun h5=>?_) (fun h5=>⟨by simp only[maxL,List.length_cons,List.length_nil];omega,?_⟩)
     · exact h1 () (by rw[if_neg (by omega),h5];rfl)
     · exact h2 _ (by rw[if_neg (by omega),h5];rfl)
 · intro s X hr
   exact bcN (z072 hr))
theorem zfd {a:z00} {b:List Int} (hl:a.2.1.length≤1000) (hb:b.length≤1000) (ht:∀ t∈a.2.1,-10≤t∧t<5):z8f a b (inst a b) (zaa a b):=zv2 _ _ _ _ (by
 unfold zkw
 refine zen a.2.1 (zhr b) [] (fun i s=>((i:Int),(z0i,((a.1,(s,())),())))) (KR:=fun _=>((z0i,(false,())):z00×Bool×Unit)=(inst a b,(zaa a b,()))) ?_ ?_ (fun r hr=>z0a0 hr)
 · intro i hi s X hr h1 h2
   have hs:=zmp hr
   have htr:=ht _ (List.getElem_mem hi)
   refine lenI fun _=>bcI hi (inI hi (inI hi ?_))
   simp only
   rw[getI hi,z03 (by omega)]
   unfold zhr z097 at h1 h2
   rw[List.length_take,List.length_nil]at hs
   refine z0f (fun h3=>inI hi (lenI fun _=>z0f (fun h4=>?_) (fun h4=>inI hi ⟨⟨by omega,by omega⟩,_,za1,z0m (fun h5=>?_) (fun h5=>inI hi (z0f (fun h6=>by omega) (fun h6=>⟨by simp only[maxL,List.length_cons,List.length_nil];omega,?_⟩)))⟩))) (fun h3=>⟨_,za1,?_⟩)
   · exact h1 () (by rw[if_pos (by omega),if_pos (by omega)])
   · exact h1 () (by rw[if_pos (by omega),if_neg (by omega),h5];rfl)
   · exact h2 _ (by rw[if_pos (by omega),if_neg (by omega),h5];rfl)
   · rw[z1g (by omega) (by omega)]
     refine z0m (fun h5=>?_) (fun h5=>inI hi (z0f (fun _=>z0f (fun h6=>by omega) (fun _=>⟨by simp only[maxL,List.length_cons,List.length_nil];omega,?_⟩)) (fun h6=>by omega)))
     · exact h1 () (by rw[if_neg (by omega),h5];rfl)
     · exact h2 _ (by rw[if_neg (by omega),h5];rfl)
 · intro s X hr
   exact lenI fun _=>bcN (z072 hr))
theorem zek {k:Int} (h0:0≤k) (h1:k≤1000000):z92 k (-1 - k):=z02h _ _ (by unfold zpm;rw[z1g (by omega) (by omega)])
theorem zi4 {k:Int} (h0:0≤k) (h1:k≤1000000):zaz k (-1 - k):=z027 _ _ (by unfold zpn;rw[z1g (by omega) (by omega)])
theorem zdb {α:Type} [BEq α] [LawfulBEq α] [DecidableEq α] {l:List α} {b:α}:(l.any fun t=>decide (t=b))=decide (b∈l):=by
 rw[←zrz]
 congr 1;funext t
 by_cases h:t=b
 · simp[h]
 · have:¬ b=t:=fun e=>h e.symm
   simp[h,this]
theorem zjz {l:List z00} {f:z00}:zd7 l f (decide (f∈l)):=z08b _ _ _ (by
 unfold zwt
 refine⟨_,z73 (fun t=>decide (t=f)) (fun t _=>z01f _ _ _ ⟨_,zm2,rfl⟩),?_⟩
 rw[zdb])
def place (l:List z00) (f:z00):Int:=if z04 (fun x=>decide (x=f)) l<l.length then(z04 (fun x=>decide (x=f)) l:Int)else -1
theorem z06d {l:List z00} {f:z00}:decide (place l f≥0)=decide (f∈l):=by
 have:=zfm (fun x=>decide (x=f)) l
 rw[zdb]at this
 exact this
theorem z05r {l:List z00} {f:z00} (h:f∈l):∃ p:Nat,place l f=p∧∃ hp:p<l.length,l[p]=f:=by
 have h1:z04 (fun x=>decide (x=f)) l<l.length:=firstAt_any.mpr (by rw[zdb];simpa using h)
 refine⟨_,by unfold place;rw[if_pos h1],h1,?_⟩
 simpa using zaf h1
theorem z0bb {l:List z00} {f:z00} (h:f∉l):place l f = -1:=by
 unfold place
 rw[if_neg]
 intro h1
 have:=firstAt_any.mp h1
 rw[zdb]at this
 exact h (by simpa using this)
theorem zzb {x f:z00}:(cmpF x f == (0:Int))=decide (x=f):=by
 by_cases h:x=f
 · rw[cmpF_zero.mpr h];simp[h]
 · have:cmpF x f≠0:=fun e=>h (cmpF_zero.mp e)
   simp[h,this]
theorem zoc {x:z09} {f:z00}:zfl x f (place x.2.1 f):=z09e _ _ _ (by
 unfold zxg
 refine zd4 x.2.1 (fun t=>decide (t=f)) (fun i=>((i:Int),())) (KT:=fun i=>(((i:Int),()):Int×Unit)=(place x.2.1 f,())) (KF:=(((-1:Int),()):Int×Unit)=(place x.2.1 f,())) ?_ ?_ ?_ ?_
 · intro i hi X h1 h2
   refine lenI fun _=>bcI hi (inI hi ⟨_,z96,?_⟩)
   simp only
   rw[getI hi,zzb,z03 (by omega)]
   exact z1q h1 h2
 · intro X h;exact lenI fun _=>bcN h
 · intro h;unfold place;rw[if_pos h]
 · intro h;unfold place;rw[if_neg (by omega)])
theorem zj1 {x:z09} {f:z00}:z9q x f (z3a x&&decide (f∈x.2.1)):=zt3 _ _ _ (by
 unfold zi0
 refine⟨_,z4i,z1q (fun h=>⟨_,zoc,?_⟩) (fun h=>by rw[h];rfl)⟩
 rw[z06d,h,Bool.true_and])
theorem zwp:∀ {x y z:List Int},cmpL x y<0→cmpL y z<0→cmpL x z<0
 |[],[],z,h,_=>by simp[cmpL]at h
 |[],b::y,[],_,h=>by simp[cmpL]at h
 |[],b::y,c::z,_,_=>by simp[cmpL]
 |a::x,[],z,h,_=>by simp[cmpL]at h
 |a::x,b::y,[],_,h=>by simp[cmpL]at h
 | a::x,b::y,c::z,h1,h2=>by
   simp only[cmpL]at h1 h2 ⊢
   have ih:=zwp (x:=x) (y:=y) (z:=z)
   split at h1
   · split at h2
     · rw[if_pos (by omega)];omega
     · split at h2
       · omega
       · rw[if_pos (by omega)];omega
   · split at h1
     · omega
     · split at h2
       · rw[if_pos (by omega)];omega
       · split at h2
         · omega
         · rw[if_neg (by omega),if_neg (by omega)];exact ih h1 h2
theorem zac {x y z:z00} (h1:cmpF x y<0) (h2:cmpF y z<0):cmpF x z<0:=by
 unfold cmpF at *
 split at h1
 · split at h2
   · rw[if_pos (by omega)];omega
   · split at h2
     · omega
     · rw[if_pos (by omega)];omega
 · split at h1
   · omega
   · split at h2
     · rw[if_pos (by omega)];omega
     · split at h2
       · omega
       · rw[if_neg (by omega),if_neg (by omega)];exact zwp h1 h2
def asc (l:List z00):Prop:=∀ i j (hj:j<l.length) (hij:i<j),cmpF (l[i]'(by omega)) l[j]<0
theorem zss {x:z09} (h:z3a x=true):asc x.2.1:=by
 have step:∀ i (hi:i+1<x.2.1.length),cmpF (x.2.1[i]'(by omega)) x.2.1[i+1]<0:=by
  intro i hi
  unfold z3a at h
  simp only[Bool.and_eq_true]at h
  have:=List.all_eq_true.mp h.2 (i+1) (by simpa using hi)
  unfold z8k at this
  simp only[Bool.and_eq_true]at this
  have:=this.1.2
  rw[show(i+1 == 0)=false by simp,Bool.false_or]at this
  have h:=of_decide_eq_true this
  rw[Nat.add_sub_cancel,z2e (by omega),z2e hi]at h
  exact h
 have all:∀ k i (hk:i+1+k<x.2.1.length),cmpF (x.2.1[i]'(by omega)) x.2.1[i+1+k]<0:=by
  intro k
  induction k with
  |zero=>intro i hk;exact step i hk
  |succ k ih=>intro i hk;exact zac (ih i (by omega)) (step (i+1+k) hk)
 intro i j hj hij
 obtain⟨k,rfl⟩:∃ k,j=i+1+k:=⟨j - i - 1,by omega⟩
 exact all k i hj
theorem midI {i j:Nat} (hi:i≤1000) (hj:j≤1000):w64 (Int.fdiv (IntKind.u64.wrap (w64 ((i:Int)+(j:Int)))) (2 ^ (min (Int.toNat (1:Int)) (IntKind.bits .u64))))=(((i+j) / 2:Nat):Int):=by
 rw[z1g (n:=(i:Int)+(j:Int)) (by omega) (by omega)]
 have e1:IntKind.u64.wrap ((i:Int)+(j:Int))=(i:Int)+(j:Int):=by
  simp only[IntKind.wrap,IntKind.signed,IntKind.bits]
  simp
  omega
 have e2:(2:Int) ^ (min (Int.toNat (1:Int)) (IntKind.bits .u64))=2:=by decide
 rw[e1,e2,Int.fdiv_eq_ediv_of_nonneg _ (by omega),z1g (by omega) (by omega)]
 omega
theorem z0bo {l:List z00} {f:z00} (hl:l.length≤30) (ha:asc l) :
  ∃ p:Nat,z0v l f () p (decide (f∈l))∧(f∈l→place l f=p∧p<l.length):=by
 suffices h:∃ p:Nat,p≤l.length∧(∀ j (h:j<l.length),j<p→cmpF l[j] f<0)∧(∀ j (h:j<l.length),p≤j→¬ cmpF l[j] f<0) by
  obtain⟨p,hp,h1,h2⟩:=h
  have key:∀ q (hq:q<l.length),l[q]=f→q=p:=by
   intro q hq he
   have hz:cmpF l[q] f=0:=cmpF_zero.mpr he
   have hge:p≤q:=by
    rcases Nat.lt_or_ge q p with h|h
    · have:=h1 q hq h;omega
    · exact h
   rcases Nat.lt_or_ge p q with h|h
   · have:=ha p q hq h
     rw[he]at this
     exact absurd this (h2 p (by omega) (Nat.le_refl _))
   · omega
  refine⟨p,z4n _ _ _ _ _ ?_,fun hm=>?_⟩
  · unfold z2b
    refine lenI fun _=>?_
    refine z1t (fun k s=>∃ i j:Nat,s=((i:Int),((j:Int),()))∧j - i≤k∧i≤p∧p≤j∧j≤l.length) ?_ ?_ (n:=l.length) ⟨0,l.length,rfl,by omega,by omega,hp,by omega⟩
    · rintro s ⟨i,j,rfl,hk,hi,hj,hjl⟩ X
      obtain rfl:i=p:=by omega
      obtain rfl:j=i:=by omega
      refine z0f (fun h=>by simp only at h;omega) (fun _=>?_)
      have hfin:∀(h:j<l.length),(cmpF l[j] f == (0:Int))=decide (f∈l):=by
       intro h
       rw[zzb]
       refine decide_eq_decide.mpr ⟨fun e=>e ▸ List.getElem_mem h,fun hm=>?_⟩
       obtain⟨q,hq,he⟩:=List.mem_iff_getElem.mp hm
       obtain rfl:=key q hq he
       exact he
      refine z0f (fun h=>?_) (fun h=>?_)
      · have h:j<l.length:=by simp only at h;omega
        refine inI h ⟨_,z5f,?_⟩
        rw[getI h,hfin h]
      · have h:l.length≤j:=by simp only at h;omega
        have:f∉l:=fun hm=>by
         obtain⟨q,hq,he⟩:=List.mem_iff_getElem.mp hm
         have:=key q hq he
         omega
        rw[decide_eq_false this]
    · rintro k s ⟨i,j,rfl,hk,hi,hj,hjl⟩ X hX
      by_cases hij:i<j
      · refine z0f (fun _=>?_) (fun h=>by simp only at h;omega)
        simp only
        rw[midI (by omega) (by omega)]
        have hm:(i+j) / 2<l.length:=by omega
        refine⟨by omega,⟨by omega,by omega⟩,_,z5f,?_⟩
        rw[getI hm]
        refine z0f (fun h=>?_) (fun h=>?_)
        · rw[z03 (by omega)]
          refine hX _ ⟨(i+j) / 2+1,j,rfl,by omega,?_,hj,hjl⟩
          rcases Nat.lt_or_ge ((i+j) / 2) p with h'|h'
          · omega
          · exact absurd h (h2 _ hm h')
        · refine hX _ ⟨i,(i+j) / 2,rfl,by omega,hi,?_,by omega⟩
          rcases Nat.lt_or_ge ((i+j) / 2) p with h'|h'
          · exact absurd (h1 _ hm h') h
          · exact h'
      · obtain rfl:i=p:=by omega
        obtain rfl:j=i:=by omega
        refine z0f (fun h=>by simp only at h;omega) (fun _=>?_)
        have hfin:∀(h:j<l.length),(cmpF l[j] f == (0:Int))=decide (f∈l):=by
         intro h
         rw[zzb]
         refine decide_eq_decide.mpr ⟨fun e=>e ▸ List.getElem_mem h,fun hm=>?_⟩
         obtain⟨q,hq,he⟩:=List.mem_iff_getElem.mp hm
         obtain rfl:=key q hq he
         exact he
        refine z0f (fun h=>?_) (fun h=>?_)
        · have h:j<l.length:=by simp only at h;omega
          refine inI h ⟨_,z5f,?_⟩
          rw[getI h,hfin h]
        · have h:l.length≤j:=by simp only at h;omega
          have:f∉l:=fun hm=>by
           obtain⟨q,hq,he⟩:=List.mem_iff_getElem.mp hm
           have:=key q hq he
           omega
          rw[decide_eq_false this]
  · obtain⟨q,e1,hq,e2⟩:=z05r hm
    have:=key q hq e2
    subst this
    exact⟨e1,hq⟩
 refine⟨z04 (fun t=>!decide (cmpF t f<0)) l,zg0 _ _,fun j hj h=>?_,fun j hj h h3=>?_⟩
 · have:=zan hj h
   simpa using this
 · have hp:z04 (fun t=>!decide (cmpF t f<0)) l<l.length:=by omega
   have h4:=zaf hp
   simp only[Bool.not_eq_true',decide_eq_false_iff_not]at h4
   rcases Nat.lt_or_ge (z04 (fun t=>!decide (cmpF t f<0)) l) j with h5|h5
   · exact h4 (zac (ha _ j hj h5) h3)
   · have:z04 (fun t=>!decide (cmpF t f<0)) l=j:=by omega
     simp only[this]at h4
     exact h4 h3
theorem z0cb {l:List TRel} {ats:List z00} (h:∀ a∈ats,z6s l a=true) {v:Int} (hv:v∈vars ats):0≤v∧v<5:=by
 unfold vars at hv
 rw[mem_sset,List.mem_filter]at hv
 obtain⟨h1,h2⟩:=hv
 obtain⟨a,ha,h3⟩:=List.mem_flatMap.mp h1
 have:=inR_iff.mp ((z1p (h a ha)).2.2.2.2.2 v h3)
 have:0≤v:=by simpa using h2
 omega
structure DOk (d:TDep):Prop where
 sm:z0c6 d
 ex:∀ v∈exV d,0≤v∧v<5
 fr:∀ v∈frV d,0≤v∧v<5
 hd:d.2.1.length≤2∧∀ a∈d.2.1,a.2.1.length≤3∧∀ t∈a.2.1,-10≤t∧t<5
 bd:d.1.length≤2∧∀ a∈d.1,a.2.1.length≤3∧∀ t∈a.2.1,-10≤t∧t<5
theorem z0g6 {l:List TRel} {d:TDep} (h:vDep l d=true):DOk d:=by
 have hs:=z8h h
 have row:∀ ats:List z00,(∀ a∈ats,z6s l a=true)→∀ a∈ats,a.2.1.length≤3∧∀ t∈a.2.1,-10≤t∧t<5:=fun ats h a ha=>by
  have:=z1p (h a ha)
  exact⟨this.2.2.2.2.1,fun t ht=>by have:=inR_iff.mp (this.2.2.2.2.2 t ht);omega⟩
 exact⟨z0e1 h,fun v hv=>z0cb hs.2.2.2.2.1 (List.mem_filter.mp hv).1,fun v hv=>z0cb hs.2.2.2.2.1 (List.mem_filter.mp hv).1,⟨hs.2.2.2.1,row _ hs.2.2.2.2.1⟩,⟨hs.2.1,row _ hs.2.2.1⟩⟩
def z7g (d:TDep) (b:List Int):List Int:=(frV d).foldl (fun s v=>s++[b.getD v.toNat 0]) []
theorem zop {d:TDep} (h:z0c6 d) (b:List Int):(z7g d b).length≤6:=by
 have:=zd0 (l:=frV d) (g:=fun s v=>s++[b.getD v.toNat 0]) (s:=[]) (μ:=List.length) (c:=1) fun s v _=>by simp
 have:=zzx h
 unfold z7g
 simp at *
 omega
def tmOf (d:TDep) (i:Int) (b:List Int) (v:Int):z05:=(i,(v,(z7g d b,())))
theorem zu5 {ts:List z05} {t:z05} (h:t∈ts):0≤zbc ts t∧zbc ts t<ts.length:=by
 have h1:z04 (fun x=>decide (x=t)) ts<ts.length:=firstAt_any.mpr (by rw[zdb];simpa using h)
 unfold zbc
 rw[if_pos h1];omega
theorem zwy {ts:List z05} {t:z05} (h:t∉ts):zbc ts t = -1:=by
 unfold zbc
 rw[if_neg]
 intro h1
 have:=firstAt_any.mp h1
 rw[zdb]at this
 exact h (by simpa using this)
def hdG (d:TDep) (i:Int) (b:List Int) (s:List z05×List Int) (v:Int):List z05×List Int:=
 if tmOf d i b v∈s.1 then(s.1,s.2.set v.toNat (-1 - zbc s.1 (tmOf d i b v)))else(s.1++[tmOf d i b v],s.2.set v.toNat (-1 - (s.1.length:Int)))
def hdS (ts:List z05) (d:TDep) (i:Int) (b:List Int):List z05×List Int:=(exV d).foldl (hdG d i b) (ts,b)
def valG (ts:List z05) (d:TDep) (i:Int) (b:List Int) (vs:List Int) (v:Int):List Int:=vs.set v.toNat (-1 - zbc ts (tmOf d i b v))
theorem z06x {d:TDep} {i:Int} {b:List Int}:∀ {l:List Int} {s:List z05×List Int},s.1.length≤(l.foldl (hdG d i b) s).1.length
 |[],s=>Nat.le_refl _
 | v::l,s=>by
   rw[List.foldl_cons]
   refine Nat.le_trans ?_ z06x
   unfold hdG
   split<;>simp
theorem z0b5 {d:TDep} {i:Int} {b:List Int} {ts:List z05}:∀ {l:List Int} {vs:List Int},(∀ v∈l,tmOf d i b v∈ts)→l.foldl (hdG d i b) (ts,vs)=(ts,l.foldl (valG ts d i b) vs)
 |[],vs,_=>rfl
 | v::l,vs,h=>by
   rw[List.foldl_cons,List.foldl_cons]
   have:hdG d i b (ts,vs) v=(ts,valG ts d i b vs v):=by unfold hdG valG;rw[if_pos (h v (by simp))]
   rw[this]
   exact z0b5 fun v hv=>h v (by simp[hv])
theorem z0az {d:TDep} {i:Int} {b:List Int} {ts:List z05}:∀ {l:List Int} {vs:List Int},(l.foldl (hdG d i b) (ts,vs)).1.length=ts.length→∀ v∈l,tmOf d i b v∈ts
 |[],vs,_=>by simp
 | v::l,vs,h=>by
   rw[List.foldl_cons]at h
   by_cases hv:tmOf d i b v∈ts
   · have:hdG d i b (ts,vs) v=(ts,valG ts d i b vs v):=by unfold hdG valG;rw[if_pos hv]
     rw[this]at h
     intro u hu
     rcases List.mem_cons.mp hu with rfl|hu
     · exact hv
     · exact z0az h u hu
   · have h1:=z06x (d:=d) (i:=i) (b:=b) (l:=l) (s:=hdG d i b (ts,vs) v)
     have h2:(hdG d i b (ts,vs) v).1.length=ts.length+1:=by unfold hdG;rw[if_neg hv];simp
     omega
theorem zys (d:TDep) (i:Int) (b:List Int) (s:List z05×List Int) (v:Int):(hdG d i b s v).2.length=s.2.length:=by unfold hdG;split<;>simp
theorem zy6 (d:TDep) (i:Int) (b:List Int) (s:List z05×List Int) (v:Int):(hdG d i b s v).1.length≤s.1.length+1:=by unfold hdG;split<;>simp
def zam (d:TDep) (vs:List Int):List z00:=d.2.1.foldl (fun out a=>out++[inst a vs]) []
theorem zjp {α β:Type} (f:α→β):∀(l:List α) (s:List β),l.foldl (fun out a=>out++[f a]) s=s++l.map f
 |[],s=>by simp
 |a::l,s=>by rw[List.foldl_cons,zjp f l];simp
def z04b (ts:List z05) (d:TDep) (i:Int) (b:List Int) (f:z00):Bool:=
 (exV d).all (fun v=>decide (tmOf d i b v∈ts))&&d.2.1.any fun a=>decide (inst a ((exV d).foldl (valG ts d i b) b)=f)
theorem z8i {l:List z05} (h:l.length≤1099511627776):z32 l l:=zff _ _ (by
 unfold z8g
 refine z1q (fun he=>⟨?_,by simp only[maxL,List.length_nil];omega,by rw[List.nil_append]⟩) (fun _=>⟨by simp only[maxL,List.length_nil];omega,by rw[List.nil_append]⟩)
 have:l=[]:=List.isEmpty_iff.mp he
 rw[this])
theorem z022 {ts:List z05} {ds:List TDep} {i:Nat} {b:List Int} (hi:i<ds.length) (hd:DOk ds[i]) (hts:ts.length≤30) (hb:b.length=5) :
  zjk ts ds i b (zam ds[i] (hdS ts ds[i] i b).2) (hdS ts ds[i] i b).1:=z018 _ _ _ _ _ _ (by
 unfold zph
 obtain⟨hs1,hs2⟩:=hd.sm
 have hfl:=zzx hd.sm
 have hel:=z04c hd.sm
 have hal:=zop hd.sm b
 refine inI hi ⟨_,z21 (by omega),_,zcr (d:=ds.getD (Int.toNat (i:Int)) zDep) (by rw[getI hi];omega) (by rw[getI hi];omega),?_⟩
 rw[getI hi]
 refine lenI fun _=>z2n (frV ds[i]) (fun s v=>s++[b.getD v.toNat 0]) [] (fun j s=>((j:Int),(s,()))) List.length 1 6 hfl (fun s v _=>by simp) ?_ ?_
 · intro j hj s X hs hX
   have hv:=hd.fr _ (List.getElem_mem hj)
   refine bcI hj (inI hj ?_)
   simp only
   rw[getI hj,z03 (by omega)]
   exact⟨⟨by omega,by omega⟩,by simp only[maxL,List.length_cons,List.length_nil]at *;omega,hX⟩
 · intro X _
   refine bcN ⟨_,z8i (by omega),_,za6 (by omega) (by omega),lenI fun _=>?_⟩
   refine z2n (exV ds[i]) (hdG ds[i] i b) (ts,b) (fun j s=>((j:Int),(s.1,(s.2,())))) (fun s=>s.1.length+(if s.2.length=5 then 0 else 1000000)) 1 6 hel (fun s v _=>by rw[zys];have:=zy6 ds[i] i b s v;omega) ?_ ?_
   · intro j hj s Y hs hY
     have hv:=hd.ex _ (List.getElem_mem hj)
     have h5:s.2.length=5∧s.1.length≤36:=by
      rw[if_pos hb]at hs
      by_cases h:s.2.length=5
      · rw[if_pos h]at hs;simp only at hs;omega
      · rw[if_neg h]at hs;simp only at hs;omega
     refine bcI hj (inI hj ⟨_,z21 (by show(z7g ds[i] b).length≤_;omega),_,zrv,?_⟩)
     simp only
     rw[getI hj,z03 (by omega)]
     have e:(((i:Int),((exV ds[i])[j],((frV ds[i]).foldl (fun s v=>s++[b.getD v.toNat 0]) [],()))):z05)=tmOf ds[i] i b (exV ds[i])[j]:=rfl
     rw[e]
     unfold hdG at hY
     by_cases hm:tmOf ds[i] i b (exV ds[i])[j]∈s.1
     · have h6:=zu5 hm
       rw[if_pos hm]at hY
       refine z0f (fun h=>by omega) (fun _=>⟨_,zek h6.1 (by omega),⟨by omega,by omega⟩,hY⟩)
     · rw[zwy hm]
       rw[if_neg hm]at hY
       refine z0f (fun _=>lenI fun _=>⟨by simp only[maxL,List.length_cons,List.length_nil];omega,_,zek (by omega) (by omega),⟨by omega,by omega⟩,hY⟩) (fun h=>by omega)
   · intro Y hs
     have h5:(hdS ts ds[i] i b).2.length=5:=by
      rw[if_pos hb]at hs
      by_cases h:(hdS ts ds[i] i b).2.length=5
      · exact h
      · unfold hdS at h;rw[if_neg h]at hs;simp only at hs;omega
     refine bcN (lenI fun _=>?_)
     refine z2n ds[i].2.1 (fun out a=>out++[inst a (hdS ts ds[i] i b).2]) [] (fun j s=>((j:Int),(s,()))) List.length 1 2 hd.hd.1 (fun s a _=>by simp) ?_ ?_
     · intro j hj s Z hs hZ
       have ha:=hd.hd.2 _ (List.getElem_mem hj)
       refine bcI hj (inI hj ⟨_,_,zay (a:=(ds[i].2.1).getD (Int.toNat (j:Int)) z0i) (b:=(hdS ts ds[i] i b).2) (by rw[getI hj];omega) (by omega) (by rw[getI hj];exact ha.2),?_⟩)
       simp only
       rw[getI hj,z03 (by omega)]
       exact⟨by simp only[maxL,List.length_cons,List.length_nil]at *;omega,hZ⟩
     · intro Z _
       exact bcN rfl)
theorem zq3 {ts:List z05} {ds:List TDep} {i:Nat} {b:List Int} (hi:i<ds.length) (hd:DOk ds[i]) (hts:ts.length≤30) (hb:b.length=5) :
  zc0 ts ds i b (zam ds[i] (hdS ts ds[i] i b).2) (hdS ts ds[i] i b).1 b:=zqq _ _ _ _ _ _ _ (by
 unfold zhk
 obtain⟨hs1,hs2⟩:=hd.sm
 have hfl:=zzx hd.sm
 have hel:=z04c hd.sm
 have hal:=zop hd.sm b
 refine inI hi ⟨_,z21 (by omega),_,zcr (d:=ds.getD (Int.toNat (i:Int)) zDep) (by rw[getI hi];omega) (by rw[getI hi];omega),?_⟩
 rw[getI hi]
 refine lenI fun _=>z2n (frV ds[i]) (fun s v=>s++[b.getD v.toNat 0]) [] (fun j s=>((j:Int),(s,()))) List.length 1 6 hfl (fun s v _=>by simp) ?_ ?_
 · intro j hj s X hs hX
   have hv:=hd.fr _ (List.getElem_mem hj)
   refine bcI hj (inI hj ?_)
   simp only
   rw[getI hj,z03 (by omega)]
   exact⟨⟨by omega,by omega⟩,by simp only[maxL,List.length_cons,List.length_nil]at *;omega,hX⟩
 · intro X _
   refine bcN ⟨_,z8i (by omega),_,za6 (by omega) (by omega),lenI fun _=>?_⟩
   refine z2n (exV ds[i]) (hdG ds[i] i b) (ts,b) (fun j s=>((j:Int),(s.1,(s.2,())))) (fun s=>s.1.length+(if s.2.length=5 then 0 else 1000000)) 1 6 hel (fun s v _=>by rw[zys];have:=zy6 ds[i] i b s v;omega) ?_ ?_
   · intro j hj s Y hs hY
     have hv:=hd.ex _ (List.getElem_mem hj)
     have h5:s.2.length=5∧s.1.length≤36:=by
      rw[if_pos hb]at hs
      by_cases h:s.2.length=5
      · rw[if_pos h]at hs;simp only at hs;omega
      · rw[if_neg h]at hs;simp only at hs;omega
     refine bcI hj (inI hj ⟨_,z21 (by show(z7g ds[i] b).length≤_;omega),_,zrv,?_⟩)
     simp only
     rw[getI hj,z03 (by omega)]
     have e:(((i:Int),((exV ds[i])[j],((frV ds[i]).foldl (fun s v=>s++[b.getD v.toNat 0]) [],()))):z05)=tmOf ds[i] i b (exV ds[i])[j]:=rfl
     rw[e]
     unfold hdG at hY
     by_cases hm:tmOf ds[i] i b (exV ds[i])[j]∈s.1
     · have h6:=zu5 hm
       rw[if_pos hm]at hY
       refine z0f (fun h=>by omega) (fun _=>⟨_,zek h6.1 (by omega),⟨by omega,by omega⟩,hY⟩)
     · rw[zwy hm]
       rw[if_neg hm]at hY
       refine z0f (fun _=>lenI fun _=>⟨by simp only[maxL,List.length_cons,List.length_nil];omega,_,zek (by omega) (by omega),⟨by omega,by omega⟩,hY⟩) (fun h=>by omega)
   · intro Y hs
     have h5:(hdS ts ds[i] i b).2.length=5:=by
      rw[if_pos hb]at hs
      by_cases h:(hdS ts ds[i] i b).2.length=5
      · exact h
      · unfold hdS at h;rw[if_neg h]at hs;simp only at hs;omega
     refine bcN (lenI fun _=>?_)
     refine z2n ds[i].2.1 (fun out a=>out++[inst a (hdS ts ds[i] i b).2]) [] (fun j s=>((j:Int),(s,()))) List.length 1 2 hd.hd.1 (fun s a _=>by simp) ?_ ?_
     · intro j hj s Z hs hZ
       have ha:=hd.hd.2 _ (List.getElem_mem hj)
       refine bcI hj (inI hj ⟨_,_,zay (a:=(ds[i].2.1).getD (Int.toNat (j:Int)) z0i) (b:=(hdS ts ds[i] i b).2) (by rw[getI hj];omega) (by omega) (by rw[getI hj];exact ha.2),?_⟩)
       simp only
       rw[getI hj,z03 (by omega)]
       exact⟨by simp only[maxL,List.length_cons,List.length_nil]at *;omega,hZ⟩
     · intro Z _
       exact bcN rfl)
def zrq (dp:List Int) (m v:Int):Int:=if z8c v then(if z4v v<(dp.length:Int)then maxI m (dp.getD (z4v v).toNat 0)else m)else m
def z02x (dp:List Int) (t:z05):List Int:=dp++[w64 (t.2.2.1.foldl (zrq dp) 0+1)]
theorem zum:∀(l:List z05) (s:List Int),(l.foldl z02x s).length=s.length+l.length
 |[],s=>by simp
 |t::l,s=>by rw[List.foldl_cons,zum];simp[z02x];omega
theorem zpb {s:TSk} {t:z05} (hl:s.2.1.length≤30):zd5 s t (((s.2.1++[t]).foldl z02x []).getD s.2.1.length 0):=by
 refine z092 _ _ _ ?_
 unfold zwd
 refine z1v (s.2.1.length+1) (fun i=>((i:Int),(((s.2.1++[t]).take i).foldl z02x [],()))) rfl ?_ ?_
 · intro i hi X hX
   have hlen:=zum ((s.2.1++[t]).take i) []
   have hin:i<(s.2.1++[t]).length:=by simp;omega
   rw[z07 hin,List.foldl_append]at hX
   simp only[List.foldl_cons,List.foldl_nil]at hX
   rw[List.length_take,List.length_nil,Nat.min_eq_left (by omega)]at hlen
   simp only
   generalize ((s.2.1++[t]).take i).foldl z02x []=dp at hX hlen ⊢
   refine lenI fun _=>z0f (fun _=>lenI fun _=>z0f (fun h=>?_) (fun h=>?_)) (fun h=>by omega)
   · have hi':i<s.2.1.length:=by omega
     rw[List.getElem_append_left hi']at hX
     refine inI hi' ?_
     rw[getI hi',z03 (by omega)]
     refine ziu s.2.1[i].2.2.1 (zrq dp) 0 (fun j m=>(m,((j:Int),()))) ?_ ?_
     · intro j hj Y hY
       refine lenI fun _=>bcI hj (inI hj ⟨_,_,z9i,?_⟩)
       simp only
       rw[getI hj,z03 (by omega)]
       generalize (s.2.1[i].2.2.1.take j).foldl (zrq dp) 0=m at hY ⊢
       unfold zrq at hY
       refine z1q (fun h=>lenI fun _=>z0f (fun h2=>⟨⟨zhx _,h2⟩,?_⟩) (fun h2=>?_)) (fun h=>?_)
       · rw[if_pos h,if_pos h2]at hY;exact hY
       · rw[if_pos h,if_neg h2]at hY;exact hY
       · rw[h]at hY;simpa using hY
     · intro Y
       exact lenI fun _=>bcN ⟨by simp only[maxL,List.length_cons,List.length_nil];omega,hX⟩
   · obtain rfl:i=s.2.1.length:=by omega
     rw[show(s.2.1++[t])[s.2.1.length]=t by simp]at hX
     rw[z03 (by omega)]
     refine ziu t.2.2.1 (zrq dp) 0 (fun j m=>(m,((j:Int),()))) ?_ ?_
     · intro j hj Y hY
       refine lenI fun _=>bcI hj (inI hj ⟨_,_,z9i,?_⟩)
       simp only
       rw[getI hj,z03 (by omega)]
       generalize (t.2.2.1.take j).foldl (zrq dp) 0=m at hY ⊢
       unfold zrq at hY
       refine z1q (fun h=>lenI fun _=>z0f (fun h2=>⟨⟨zhx _,h2⟩,?_⟩) (fun h2=>?_)) (fun h=>?_)
       · rw[if_pos h,if_pos h2]at hY;exact hY
       · rw[if_pos h,if_neg h2]at hY;exact hY
       · rw[h]at hY;simpa using hY
     · intro Y
       exact lenI fun _=>bcN ⟨by simp only[maxL,List.length_cons,List.length_nil];omega,hX⟩
 · intro X
   have hlen:=zum (s.2.1++[t]) []
   simp only[List.length_append,List.length_cons,List.length_nil]at hlen
   refine lenI fun _=>z0f (fun h=>by simp only at h;omega) (fun _=>lenI fun _=>?_)
   have e:(s.2.1++[t]).take (s.2.1.length+1)=s.2.1++[t]:=List.take_of_length_le (by simp)
   simp only[e,Int.toNat_natCast]
   exact⟨⟨by omega,by omega⟩,trivial⟩
theorem z08u {s:TSk} {t:z05} (hl:s.2.1.length≤30):∃ y,zd5 s t y:=⟨_,zpb hl⟩
theorem z0gu (x y:z05):(x=y)↔x.1=y.1∧x.2.1=y.2.1∧x.2.2.1=y.2.2.1:=by
 obtain⟨a,b,c,u⟩:=x;obtain⟨a',b',c',u'⟩:=y
 simp
def z0ij (s:TSk) (t:z05) (K:TSk×Int×Bool×Unit→Prop):Prop:=lenA (s.2.1.length:Int) (z01 ((s.2.1.length:Int) == (30:Int)) (K (s,((0:Int),(false,())))) (∃ y5:Int,zd5 s t y5∧
 z01 (decide (y5 > (8:Int))) (K (s,((0:Int),(false,())))) (True∧True∧([]:List z05).length+s.2.1.length≤maxL∧(([]:List z05)++s.2.1).length+([t]:List z05).length≤maxL∧
  lenA (List.length ((([]:List z05)++s.2.1)++([t]:List z05)):Int) (∃ y6:Int,zaz (w64 ((List.length ((([]:List z05)++s.2.1)++([t]:List z05)):Int) - (1:Int))) y6∧
   K ((s.1,((([]:List z05)++s.2.1)++([t]:List z05),s.2.2)),(y6,(true,())))))))
theorem z9d {s:TSk} {t:z05} (hl:s.2.1.length≤30) (y1:TSk) (y2:Int) (y3:Bool) (h1:t∈s.2.1→y1=s∧y2 = -1 - zbc s.2.1 t∧y3=true) (h2:t∉s.2.1→z0ij s t fun r=>r=(y1,(y2,(y3,())))):zah s t y1 y2 y3:=by
 refine z07s _ _ _ _ _ ?_
 unfold zwf
 refine zd4 s.2.1 (fun x=>decide (x=t)) (fun i=>((i:Int),(((([]:List TRel),(([]:List z00),())),(([]:List z05),())),()))) (KT:=fun i=>((s,(-1 - (i:Int),(true,()))):TSk×Int×Bool×Unit)=(y1,(y2,(y3,())))) (KF:=t∉s.2.1) ?_ ?_ ?_ ?_
 · intro i hi X g1 g2
   refine lenI fun _=>bcI hi (inI hi ?_)
   simp only
   rw[getI hi,z03 (by omega)]
   have no:¬ s.2.1[i]=t→X (((i+1:Nat):Int),(((([]:List TRel),(([]:List z00),())),(([]:List z05),())),())):=fun h=>g2 (by simpa using h)
   refine z3i (fun e1=>inI hi (z3i (fun e2=>inI hi ⟨_,zmi,z3i (fun e3=>⟨_,zi4 (by omega) (by omega),?_⟩) (fun e3=>no fun h=>e3 (by rw[h];exact cmpL_zero.mpr rfl))⟩) (fun e2=>no fun h=>e2 (by rw[h])))) (fun e1=>no fun h=>e1 (by rw[h]))
   exact g1 (by simpa using (z0gu _ _).mpr ⟨e1,e2,cmpL_zero.mp e3⟩)
 · intro X h
   refine lenI fun _=>bcN ?_
   exact h2 h
 · intro h
   have hm:t∈s.2.1:=by
    have:=firstAt_any.mp h
    rw[zdb]at this
    simpa using this
   obtain⟨rfl,rfl,rfl⟩:=h1 hm
   unfold zbc;rw[if_pos h]
 · intro h hm
   have:=firstAt_any (p:=fun x=>decide (x=t)).mpr (by rw[zdb];simpa using hm)
   omega
theorem z07g {s:TSk} {t:z05} (hl:s.2.1.length≤30) :
  (t∈s.2.1→zah s t s (-1 - zbc s.2.1 t) true)∧(t∉s.2.1→∃ y1 y2 y3,zah s t y1 y2 y3∧(y3=false∨(y3=true∧y1.2.1.length≠s.2.1.length))):=by
 have main:=z9d (s:=s) (t:=t) hl
 refine⟨fun hm=>main _ _ _ (fun _=>⟨rfl,rfl,rfl⟩) (fun h=>absurd hm h),fun hm=>?_⟩
 by_cases h30:s.2.1.length=30
 · exact⟨s,0,false,main _ _ _ (fun h=>absurd h hm) (fun _=>lenI fun _=>z3i (fun _=>rfl) (fun h=>by omega)),.inl rfl⟩
 · obtain⟨y,hy⟩:=z08u (s:=s) (t:=t) hl
   by_cases h8:y > 8
   · exact⟨s,0,false,main _ _ _ (fun h=>absurd h hm) (fun _=>lenI fun _=>z3i (fun h=>by omega) (fun _=>⟨y,hy,z0f (fun _=>rfl) (fun h=>absurd h8 h)⟩)),.inl rfl⟩
   · refine⟨(s.1,(s.2.1++[t],s.2.2)),-1 - (s.2.1.length:Int),true,main _ _ _ (fun h=>absurd h hm) (fun _=>lenI fun _=>z3i (fun h=>by omega) (fun _=>⟨y,hy,z0f (fun h=>absurd h h8) (fun _=>⟨trivial,trivial,by simp only[maxL,List.length_nil];omega,by simp only[maxL,List.length_append,List.length_cons,List.length_nil];omega,lenI fun _=>⟨-1 - (s.2.1.length:Int),?_,rfl⟩⟩)⟩)),.inr ⟨rfl,by simp⟩⟩
     have e:w64 ((List.length ((([]:List z05)++s.2.1)++([t]:List z05)):Int) - (1:Int))=(s.2.1.length:Int):=by
      rw[z1g]<;>simp<;>omega
     rw[e]
     exact zi4 (by omega) (by omega)
theorem zm1 {σ τ:Type} {B:(τ→Prop)→τ→Prop} (n:Nat) (g:σ→Nat→σ) (s0:σ) (e:Nat→σ→τ) (μ:σ→Nat) (c N:Nat) (hN:n≤N) (hg:∀ s i,i<n→μ (g s i)≤μ s+c)
  (hs:∀ i (_:i<n) (s:σ) (X:τ→Prop),μ s≤μ s0+N * c→X (e (i+1) (g s i))→B X (e i s))
  (hf:∀ X:τ→Prop,μ ((List.range n).foldl g s0)≤μ s0+N * c→B X (e n ((List.range n).foldl g s0))):z0a B (e 0 s0):=
 z2n (List.range n) g s0 e μ c N (by simpa using hN) (fun s a ha=>hg s a (List.mem_range.mp ha)) (fun i h s X hs' hX=>hs i (by simpa using h) s X hs' (by simpa using hX)) (fun X h=>by simpa using hf X h)
def mkS (ts:List z05) (d:TDep) (i:Int) (b:List Int) (vs:List Int) (v:Int):Unit ⊕ List Int:=if tmOf d i b v∈ts then .inr (valG ts d i b vs v)else .inl ()
theorem z03f {ts:List z05} {d:TDep} {i:Int} {b:List Int}:∀ {l vs vs':List Int},runE (mkS ts d i b) l vs = .inr vs'→(∀ v∈l,tmOf d i b v∈ts)∧vs'=l.foldl (valG ts d i b) vs
 |[],vs,vs',h=>by simp only[runE,Sum.inr.injEq]at h;exact⟨by simp,h.symm⟩
 | v::l,vs,vs',h=>by
   simp only[runE]at h
   unfold mkS at h
   by_cases hv:tmOf d i b v∈ts
   · rw[if_pos hv]at h
     obtain⟨h1,h2⟩:=z03f (ts:=ts) (d:=d) (i:=i) (b:=b) h
     exact⟨fun u hu=>(List.mem_cons.mp hu).elim (fun e=>e ▸ hv) (h1 u),by rw[List.foldl_cons];exact h2⟩
   · rw[if_neg hv]at h;simp at h
theorem z0db {ts:List z05} {d:TDep} {i:Int} {b:List Int} {r:Unit}:∀ {l vs:List Int},runE (mkS ts d i b) l vs = .inl r→∃ v∈l,tmOf d i b v∉ts
 |[],vs,h=>by simp[runE]at h
 | v::l,vs,h=>by
   by_cases hv:tmOf d i b v∈ts
   · simp only[runE]at h
     unfold mkS at h
     rw[if_pos hv]at h
     obtain⟨u,hu,h1⟩:=z0db (ts:=ts) (d:=d) (i:=i) (b:=b) h
     exact⟨u,by simp[hu],h1⟩
   · exact⟨v,by simp,hv⟩
theorem zz5 {ts:List z05} {d:TDep} {i:Int} {b:List Int}:∀ {l vs:List Int},(l.foldl (valG ts d i b) vs).length=vs.length
 |[],vs=>rfl
 |v::l,vs=>by rw[List.foldl_cons,zz5];simp[valG]
theorem z0gf {α:Type} {p:α→Bool} {l:List α} {x:α} (hx:x∈l) (h:p x=false):l.all p=false:=by
 rw[Bool.eq_false_iff];intro h'
 rw[List.all_eq_true.mp h' x hx]at h;cases h
theorem z0e2 {ts:List z05} {d:TDep} {i:Int} {b:List Int} {f:z00}:z04b ts d i b f=(decide ((hdS ts d i b).1.length=ts.length)&&decide (f∈zam d (hdS ts d i b).2)):=by
 unfold z04b
 by_cases h:∀ v∈exV d,tmOf d i b v∈ts
 · have e:hdS ts d i b=(ts,(exV d).foldl (valG ts d i b) b):=z0b5 h
   have e2:(exV d).all (fun v=>decide (tmOf d i b v∈ts))=true:=List.all_eq_true.mpr fun v hv=>by simpa using h v hv
   rw[e,e2]
   simp only[decide_true,Bool.true_and]
   unfold zam
   rw[zjp,List.nil_append,←zdb,List.any_map]
   rfl
 · have h1:¬ (hdS ts d i b).1.length=ts.length:=fun e=>h (z0az e)
   rw[decide_eq_false h1,Bool.false_and]
   have:∃ v∈exV d,tmOf d i b v∉ts:=Classical.byContradiction fun hn=>h fun v hv=>Classical.byContradiction fun hv'=>hn ⟨v,hv,hv'⟩
   obtain⟨v,hv,hv'⟩:=this
   rw[z0gf hv (decide_eq_false hv'),Bool.false_and]
theorem z052 {s:TSk} {ds:List TDep} {i:Nat} {b:List Int} {f:z00} (hi:i<ds.length) (hd:DOk ds[i]) (hts:s.2.1.length≤30) (hb:b.length=5) :
  zma s ds i b f (z04b s.2.1 ds[i] i b f):=z04j _ _ _ _ _ _ (by
 unfold zrh
 obtain⟨hs1,hs2⟩:=hd.sm
 have hfl:=zzx hd.sm
 have hel:=z04c hd.sm
 have hal:=zop hd.sm b
 refine inI hi ⟨_,zcl (d:=ds.getD (Int.toNat (i:Int)) zDep) (by rw[getI hi];omega) (by rw[getI hi];omega),?_⟩
 rw[getI hi]
 refine z2n (frV ds[i]) (fun s v=>s++[b.getD v.toNat 0]) [] (fun j s=>((j:Int),(s,()))) List.length 1 6 hfl (fun s v _=>by simp) ?_ ?_
 · intro j hj s X hs hX
   have hv:=hd.fr _ (List.getElem_mem hj)
   refine lenI fun _=>bcI hj (inI hj ?_)
   simp only
   rw[getI hj,z03 (by omega)]
   exact⟨⟨by omega,by omega⟩,by simp only[maxL,List.length_cons,List.length_nil]at *;omega,hX⟩
 · intro X _
   refine lenI fun _=>bcN ⟨by simp only[maxL,List.length_nil];omega,inI hi ⟨_,z9b (by omega) (by omega),?_⟩⟩
   rw[List.nil_append]
   refine zen (exV ds[i]) (mkS s.2.1 ds[i] i b) b (fun j vs=>((j:Int),(z7g ds[i] b,(vs,())))) (KR:=fun _=>((false,()):Bool×Unit)=(z04b s.2.1 ds[i] i b f,())) ?_ ?_ ?_
   · intro j hj vs Y hr h1 h2
     obtain⟨_,rfl⟩:=z03f hr
     have hvl:=zz5 (ts:=s.2.1) (d:=ds[i]) (i:=i) (b:=b) (l:=(exV ds[i]).take j) (vs:=b)
     generalize ((exV ds[i]).take j).foldl (valG s.2.1 ds[i] i b) b=vs at h1 h2 hvl ⊢
     have hv:=hd.ex _ (List.getElem_mem hj)
     refine lenI fun _=>bcI hj (inI hj ⟨trivial,?_⟩)
     simp only
     rw[getI hj,z03 (by omega)]
     have e:(((i:Int),((exV ds[i])[j],(z7g ds[i] b,()))):z05)=tmOf ds[i] i b (exV ds[i])[j]:=rfl
     rw[e]
     unfold mkS at h1 h2
     have ht:=z07g (s:=s) (t:=tmOf ds[i] i b (exV ds[i])[j]) hts
     by_cases hm:tmOf ds[i] i b (exV ds[i])[j]∈s.2.1
     · refine⟨_,_,_,ht.1 hm,bcF (lenI fun _=>lenI fun _=>z5s (fun h=>absurd rfl h) (fun _=>inI hj ⟨⟨by omega,by omega⟩,h2 _ (by rw[if_pos hm];rfl)⟩))⟩
     · obtain⟨y1,y2,y3,hg,h3⟩:=ht.2 hm
       have hno:=h1 () (by rw[if_neg hm])
       rcases h3 with rfl|⟨rfl,h3⟩
       · exact⟨y1,y2,false,hg,bcT hno⟩
       · exact⟨y1,y2,true,hg,bcF (lenI fun _=>lenI fun _=>z5s (fun _=>hno) (fun h=>by omega))⟩
   · intro vs Y hr
     obtain⟨hall,rfl⟩:=z03f hr
     have hvl:=zz5 (ts:=s.2.1) (d:=ds[i]) (i:=i) (b:=b) (l:=exV ds[i]) (vs:=b)
     have e2:(exV ds[i]).all (fun v=>decide (tmOf ds[i] i b v∈s.2.1))=true:=List.all_eq_true.mpr fun v hv=>by simpa using hall v hv
     unfold z04b
     rw[e2,Bool.true_and]
     generalize (exV ds[i]).foldl (valG s.2.1 ds[i] i b) b=vs at hvl ⊢
     refine lenI fun _=>bcN ?_
     refine z7v ds[i].2.1 (fun a=>decide (inst a vs=f)) (fun j=>((j:Int),())) (KT:=((true,()):Bool×Unit)=(ds[i].2.1.any (fun a=>decide (inst a vs=f)),())) (KF:=((false,()):Bool×Unit)=(ds[i].2.1.any (fun a=>decide (inst a vs=f)),())) ?_ ?_ (fun h=>by rw[h]) (fun h=>by rw[h])
     · intro j hj Z h1 h2
       have ha:=hd.hd.2 _ (List.getElem_mem hj)
       refine inI hi (lenI fun _=>bcI hj (inI hi (inI hj ⟨_,_,zfd (a:=(ds[i].2.1).getD (Int.toNat (j:Int)) z0i) (b:=vs) (by rw[getI hj];omega) (by omega) (by rw[getI hj];exact ha.2),_,z96,?_⟩)))
       simp only
       rw[getI hj,z03 (by omega),zzb]
       exact z1q h1 h2
     · intro Z h
       exact inI hi (lenI fun _=>bcN h)
   · intro r hr
     obtain⟨v,hv,hm⟩:=z0db hr
     unfold z04b
     rw[z0gf hv (decide_eq_false hm),Bool.false_and])
def derH (s:TSk) (d:TDep) (i:Nat) (f:z00) (out:List z00) (b:List Int):List z00:=if z04b s.2.1 d i b f then out++[((i:Int),(b,()))] else out
def derG (s:TSk) (ds:List TDep) (f:z00) (out:List z00) (i:Nat):List z00:=(z95 s.1 (ds.getD i zDep).1).foldl (derH s (ds.getD i zDep) i f) out
def z68 (s:TSk) (ds:List TDep) (f:z00):List z00:=if vSk s&&(z4j s.1.1 ds&&decide (f∈s.1.2.1))then(List.range ds.length).foldl (derG s ds f) [] else[]
theorem zz6 (s:TSk) (d:TDep) (i:Nat) (f:z00) (out:List z00) (b:List Int):(derH s d i f out b).length≤out.length+1:=by unfold derH;split<;>simp
theorem zzm (s:TSk) (ds:List TDep) (f:z00) (out:List z00) (i:Nat):(derG s ds f out i).length≤out.length+27000:=by
 have:=zd0 (l:=z95 s.1 (ds.getD i zDep).1) (g:=derH s (ds.getD i zDep) i f) (s:=out) (μ:=List.length) (c:=1) fun o b _=>zz6 s _ i f o b
 have:=zjh (x:=s.1) (l:=(ds.getD i zDep).1)
 unfold derG
 omega
theorem zie {l:List TRel} {ds:List TDep} (h:z4j l ds=true):ds.length≤5∧∀ d∈ds,DOk d:=by
 unfold z4j at h
 simp only[Bool.and_eq_true]at h
 exact⟨zn1 h.1,fun d hd=>z0g6 (z02k h.1 hd)⟩
theorem zwg (s:TSk) (ds:List TDep) (f:z00):(z68 s ds f).length≤135000:=by
 unfold z68
 split
 · rename_i h
   simp only[Bool.and_eq_true]at h
   have:=zd0 (l:=List.range ds.length) (g:=derG s ds f) (s:=[]) (μ:=List.length) (c:=27000) fun o i _=>zzm s ds f o i
   have h5:=(zie h.2.1).1
   rw[List.length_range,List.length_nil]at this
   have:=Nat.mul_le_mul_right 27000 h5
   omega
 · exact Nat.zero_le _
theorem zwx {s:TSk} {ds:List TDep} {f t:z00} (h:t∈z68 s ds f):∃ i:Nat,i<ds.length∧∃ b:List Int,b.length=5∧t=((i:Int),(b,())):=by
 unfold z68 at h
 split at h
 · have z0h:∀(i:Nat),i<ds.length→∀(l:List (List Int)) (out:List z00),(∀ b∈l,b.length=5)→(∀ t∈out,∃ i:Nat,i<ds.length∧∃ b:List Int,b.length=5∧t=((i:Int),(b,())))→
     ∀ t∈l.foldl (derH s (ds.getD i zDep) i f) out,∃ i:Nat,i<ds.length∧∃ b:List Int,b.length=5∧t=((i:Int),(b,())):=by
    intro i hi l
    induction l with
    |nil=>intro out _ ho;exact ho
    | cons b l ih=>
      intro out hl ho
      rw[List.foldl_cons]
      refine ih _ (fun c hc=>hl c (by simp[hc])) fun t ht=>?_
      unfold derH at ht
      split at ht
      · rcases List.mem_append.mp ht with ht|ht
        · exact ho t ht
        · simp only[List.mem_singleton]at ht;exact⟨i,hi,b,hl b (by simp),ht⟩
      · exact ho t ht
   have outer:∀(l:List Nat) (out:List z00),(∀ i∈l,i<ds.length)→(∀ t∈out,∃ i:Nat,i<ds.length∧∃ b:List Int,b.length=5∧t=((i:Int),(b,())))→
     ∀ t∈l.foldl (derG s ds f) out,∃ i:Nat,i<ds.length∧∃ b:List Int,b.length=5∧t=((i:Int),(b,())):=by
    intro l
    induction l with
    |nil=>intro out _ ho;exact ho
    | cons i l ih=>
      intro out hl ho
      rw[List.foldl_cons]
      exact ih _ (fun c hc=>hl c (by simp[hc])) (z0h i (hl i (by simp)) _ _ (fun b hb=>zjr hb) ho)
   exact outer _ [] (fun i hi=>List.mem_range.mp hi) (by simp) t h
 · simp at h
theorem z5x {s:TSk} (h:vSk s=true):z3a s.1=true∧s.2.1.length≤30:=⟨(z6b h).1,zea (z6b h).2.2⟩
theorem zwq {s:TSk} {ds:List TDep} {f:z00} (h:(vSk s&&(z4j s.1.1 ds&&decide (f∈s.1.2.1)))=false):(([]:List z00),())=(z68 s ds f,()):=by unfold z68;rw[h];rfl
theorem zvu {s:TSk} {ds:List TDep} {f:z00}:zez s ds f (z68 s ds f):=zvt _ _ _ _ (by
 unfold zl2
 refine⟨_,z35,z0m (fun h=>zwq (by rw[h];rfl)) (fun h1=>⟨_,zgr,z0m (fun h=>zwq (by rw[h];simp)) (fun h2=>⟨_,zjz,z0m (fun h=>zwq (by rw[h];simp)) (fun h3=>?_)⟩)⟩)⟩
 obtain⟨hds,hdo⟩:=zie h2
 obtain⟨hv,hts⟩:=z5x h1
 have e:z68 s ds f=(List.range ds.length).foldl (derG s ds f) []:=by unfold z68;rw[h1,h2,h3];rfl
 rw[e]
 refine lenI fun _=>zm1 ds.length (derG s ds f) [] (fun i o=>((i:Int),(o,()))) List.length 27000 5 hds (fun o i _=>zzm s ds f o i) ?_ ?_
 · intro i hi o X ho hX
   unfold derG at hX
   rw[z0s hi]at hX
   have hd:=hdo _ (List.getElem_mem hi)
   refine bcI hi (inI hi ⟨_,zl6,?_⟩)
   simp only
   rw[getI hi,z03 (by omega)]
   refine lenI fun _=>?_
   rw[show List.map (fun y=>(true,y)) (z95 s.1 ds[i].1)=mkd (z95 s.1 ds[i].1) 0 from rfl]
   refine z2n (z95 s.1 ds[i].1) (derH s ds[i] i f) o (fun j o=>((j:Int),(o,(mkd (z95 s.1 ds[i].1) j,())))) List.length 1 27000 zjh (fun o b _=>zz6 s _ i f o b) ?_ ?_
   · intro j hj o' Y ho' hY
     have hb:=zjr (List.getElem_mem hj)
     simp only[List.length_nil]at ho
     refine bcI hj (inI (by rw[z0au];exact hj) ?_)
     simp only[Int.toNat_natCast]
     rw[z0bx hj]
     refine⟨rfl,_,_,_,zq3 hi hd hts hb,lenI fun _=>lenI fun _=>?_⟩
     simp only
     rw[z0bd hj,z03 (by omega)]
     unfold derH at hY
     rw[z0e2]at hY
     refine z3i (fun h=>⟨_,zjz,z1q (fun h4=>⟨by simp only[maxL,List.length_cons,List.length_nil];omega,?_⟩) (fun h4=>?_)⟩) (fun h=>?_)
     · rw[decide_eq_true (show(hdS s.2.1 ds[i] i (z95 s.1 ds[i].1)[j]).1.length=s.2.1.length by omega),h4]at hY;exact hY
     · rw[h4,Bool.and_false]at hY;exact hY
     · rw[decide_eq_false (show ¬ (hdS s.2.1 ds[i] i (z95 s.1 ds[i].1)[j]).1.length=s.2.1.length by omega)]at hY;exact hY
   · intro Y _
     exact bcN hX
 · intro X _
   exact bcN rfl)
theorem zlc {s:TSk} {ds:List TDep} {f:z00}:zao s ds f (z68 s ds f):=zvg _ _ _ _ (by
 unfold zl5
 refine⟨_,z7c,z0m (fun h=>zwq (by rw[h];rfl)) (fun h1=>⟨_,zly,z0m (fun h=>zwq (by rw[h];simp)) (fun h2=>⟨_,zj1,?_⟩)⟩)⟩
 obtain⟨hds,hdo⟩:=zie h2
 obtain⟨hv,hts⟩:=z5x h1
 rw[hv,Bool.true_and]
 refine z0m (fun h=>zwq (by rw[h];simp)) (fun h3=>?_)
 have e:z68 s ds f=(List.range ds.length).foldl (derG s ds f) []:=by unfold z68;rw[h1,h2,h3];rfl
 rw[e]
 refine zm1 ds.length (derG s ds f) [] (fun i o=>((i:Int),(o,()))) List.length 27000 5 hds (fun o i _=>zzm s ds f o i) ?_ ?_
 · intro i hi o X ho hX
   unfold derG at hX
   rw[z0s hi]at hX
   have hd:=hdo _ (List.getElem_mem hi)
   refine lenI fun _=>bcI hi (inI hi ⟨_,zkx,?_⟩)
   simp only
   rw[getI hi,z03 (by omega)]
   refine z2n (z95 s.1 ds[i].1) (derH s ds[i] i f) o (fun j o=>((j:Int),(o,()))) List.length 1 27000 zjh (fun o b _=>zz6 s _ i f o b) ?_ ?_
   · intro j hj o' Y ho' hY
     have hb:=zjr (List.getElem_mem hj)
     simp only[List.length_nil]at ho
     refine lenI fun _=>bcI hj (inI hj ?_)
     simp only
     rw[getI hj,z03 (by omega)]
     refine⟨_,z052 hi hd hts hb,?_⟩
     unfold derH at hY
     refine z1q (fun h4=>inI hj ⟨by simp only[maxL,List.length_cons,List.length_nil];omega,?_⟩) (fun h4=>?_)
     · rw[h4]at hY;exact hY
     · rw[h4]at hY;exact hY
   · intro Y _
     exact lenI fun _=>bcN hX
 · intro X _
   exact lenI fun _=>bcN rfl)
def zqg (fs:List z00) (lev:List Int) (d:TDep) (b:List Int):Bool:=d.1.all fun a=>decide (inst a b∈fs)&&decide (0≤lev.getD (place fs (inst a b)).toNat 0)
def knS (s:TSk) (ds:List TDep) (lev:List Int) (t:z00):Bool:=zqg s.1.2.1 lev (ds.getD t.1.toNat zDep) t.2.1
def knF (s:TSk) (ds:List TDep) (lev:List Int) (i:Nat):Bool:=(z68 s ds (s.1.2.1.getD i z0i)).any (knS s ds lev)
def zhp (s:TSk) (ds:List TDep) (lev:List Int) (i:Nat):Bool:=decide (lev.getD i 0<0)&&knF s ds lev i
def ze0 (s:TSk) (ds:List TDep) (n:Int) (lev:List Int):List Int:=(List.range lev.length).map fun i=>if zhp s ds lev i then n else lev.getD i 0
def srcI (s:TSk) (i:Nat):Bool:=z94 s.1.1 (s.1.2.1.getD i z0i).1
def lev0 (s:TSk):List Int:=(List.range s.1.2.1.length).map fun i=>if srcI s i then 0 else -1
def levK (s:TSk) (ds:List TDep):Nat→List Int
 |0=>lev0 s
 |k+1=>ze0 s ds ((k+1:Nat):Int) (levK s ds k)
def levs (s:TSk) (ds:List TDep):List Int:=levK s ds s.1.2.1.length
theorem zak (s:TSk) (ds:List TDep) (n:Int) (lev:List Int):(ze0 s ds n lev).length=lev.length:=by simp[ze0]
theorem zat (s:TSk) (ds:List TDep):∀ k,(levK s ds k).length=s.1.2.1.length
 |0=>by simp[levK,lev0]
 |k+1=>by rw[levK,zak,zat]
theorem zad {s:TSk} {ds:List TDep} {n:Int} {lev:List Int} {i:Nat} (hi:i<lev.length):(ze0 s ds n lev).getD i 0=if zhp s ds lev i then n else lev.getD i 0:=by
 have h:i<(ze0 s ds n lev).length:=by rw[zak];exact hi
 rw[z0s h]
 simp[ze0]
theorem zr3 {s:TSk} {i:Nat} (hi:i<s.1.2.1.length):(lev0 s).getD i 0=if srcI s i then 0 else -1:=by
 have h:i<(lev0 s).length:=by simp[lev0,hi]
 rw[z0s h]
 simp[lev0]
theorem zzn {s:TSk} {ds:List TDep}:∀(k:Nat) {i:Nat},i<s.1.2.1.length→-1≤(levK s ds k).getD i 0
 |0,i,hi=>by rw[levK,zr3 hi];split<;>omega
 | k+1,i,hi=>by
   rw[levK,zad (by rw[zat];exact hi)]
   split
   · omega
   · exact zzn k hi
theorem z06y {s:TSk} {ds:List TDep}:∀(k:Nat) {i:Nat},i<s.1.2.1.length→(levK s ds k).getD i 0<0→srcI s i=false
 | 0,i,hi,h=>by
   rw[levK,zr3 hi]at h
   split at h
   · omega
   · rename_i hs;simpa using hs
 | k+1,i,hi,h=>by
   rw[levK,zad (by rw[zat];exact hi)]at h
   split at h
   · omega
   · exact z06y k hi h
def z0c7 (s:TSk) (ds:List TDep) (lev:List Int):Prop:=∀ i,i<lev.length→zhp s ds lev i=false
theorem z03b {s:TSk} {ds:List TDep} {lev:List Int} (h:z0c7 s ds lev) (n:Int):ze0 s ds n lev=lev:=by
 refine z063 (d:=0) (zak _ _ _ _) fun i hi=>?_
 rw[zak]at hi
 rw[zad hi,h i hi];rfl
theorem zor {s:TSk} {ds:List TDep} {k:Nat} (h:z0c7 s ds (levK s ds k)):∀ m,levK s ds (k+m)=levK s ds k
 |0=>rfl
 | m+1=>by
   rw[←Nat.add_assoc,levK,zor h m]
   exact z03b h _
def negs (l:List Int):Nat:=(List.range l.length).countP fun i=>decide (l.getD i 0<0)
theorem z0gz {s:TSk} {ds:List TDep} {n:Int} (hn:0≤n) {lev:List Int} {i:Nat} (hi:i<lev.length) (h:zhp s ds lev i=true):negs (ze0 s ds n lev)<negs lev:=by
 unfold negs
 rw[zak]
 refine z071 (fun j hj hp=>?_) ⟨i,by simpa using hi,?_,?_⟩
 · rw[zad (by simpa using hj)]at hp
   split at hp
   · simp at hp;omega
   · exact hp
 · unfold zhp at h
   rw[Bool.and_eq_true]at h
   exact h.1
 · rw[zad hi,if_pos h]
   simp;exact hn
theorem z0cl (l:List Int):negs l≤l.length:=by
 have:=List.countP_le_length (p:=fun i=>decide (l.getD i 0<0)) (l:=List.range l.length)
 simpa [negs]using this
theorem row3 {ats:List z00} {b:List Int} (h:∀ a∈ats,a.2.1.length≤3∧∀ t∈a.2.1,-10≤t∧t<5) {a:z00} (ha:a∈ats):a.2.1.length≤1000∧∀ t∈a.2.1,-10≤t∧t<5:=⟨by have:=(h a ha).1;omega,(h a ha).2⟩
theorem z020 {fs:List z00} {lev:List Int} {ds:List TDep} {i:Nat} {b:List Int} (hf:fs.length≤30) (ha:asc fs) (hl:lev.length=fs.length) (hm:∀ j,j<fs.length→-1≤lev.getD j 0) (hi:i<ds.length) (hd:DOk ds[i]) (hb:b.length=5) :
  zj4 fs lev ds ((i:Int),(b,())) (zqg fs lev ds[i] b):=z00l _ _ _ _ _ (by
 unfold zpj
 refine inI hi ?_
 simp only
 rw[getI hi]
 refine lenI fun _=>z7v ds[i].1 (fun a=>!(decide (inst a b∈fs)&&decide (0≤lev.getD (place fs (inst a b)).toNat 0))) (fun j=>((j:Int),())) (KT:=((false,()):Bool×Unit)=(zqg fs lev ds[i] b,())) (KF:=((true,()):Bool×Unit)=(zqg fs lev ds[i] b,())) ?_ ?_ ?_ ?_
 · intro j hj X h1 h2
   obtain⟨p,hp,hp2⟩:=z0bo (f:=inst ds[i].1[j] b) hf ha
   refine bcI hj (inI hj ⟨_,_,zay (a:=(ds[i].1).getD (Int.toNat (j:Int)) z0i) (b:=b) ?_ (by omega) ?_,?_⟩)
   · rw[getI hj];exact(row3 (b:=b) hd.bd.2 (List.getElem_mem hj)).1
   · rw[getI hj];exact(row3 (b:=b) hd.bd.2 (List.getElem_mem hj)).2
   · simp only
     rw[getI hj,z03 (by omega)]
     refine⟨p,_,hp,zcs (fun h=>h1 (by simp[h])) (fun h=>?_)⟩
     obtain⟨e,hpl⟩:=hp2 h
     rw[e,Int.toNat_natCast]at h1 h2
     have:=hm p hpl
     refine⟨⟨by omega,by omega⟩,?_⟩
     rw[Int.toNat_natCast]
     refine z3i (fun h3=>h1 (by rw[decide_eq_true h,Bool.true_and,decide_eq_false (by omega)];rfl)) (fun h3=>h2 (by rw[decide_eq_true h,Bool.true_and,decide_eq_true (by omega)];rfl))
 · intro X h;exact bcN h
 · intro h;rw[z3r]at h;unfold zqg;rw[nt h]
 · intro h;rw[z3r]at h;unfold zqg;rw[nf h])
theorem z05e {s:TSk} {lev:List Int} {ds:List TDep} {i:Nat} {b:List Int} (hl:lev.length=s.1.2.1.length) (hi:i<ds.length) (hd:DOk ds[i]) (hb:b.length=5) :
  zm0 s ds ((i:Int),(b,())) lev (zqg s.1.2.1 lev ds[i] b):=z04w _ _ _ _ _ (by
 unfold zsg
 refine z7v ds[i].1 (fun a=>!(decide (inst a b∈s.1.2.1)&&decide (0≤lev.getD (place s.1.2.1 (inst a b)).toNat 0))) (fun j=>((j:Int),())) (KT:=((false,()):Bool×Unit)=(zqg s.1.2.1 lev ds[i] b,())) (KF:=((true,()):Bool×Unit)=(zqg s.1.2.1 lev ds[i] b,())) ?_ ?_ ?_ ?_
 · intro j hj X h1 h2
   have hbd:=hd.bd.1
   refine inI hi (lenI fun _=>?_)
   simp only
   rw[getI hi]
   refine bcI hj ⟨trivial,inI hi (inI hj ⟨_,_,zfd (a:=(ds[i].1).getD (Int.toNat (j:Int)) z0i) (b:=b) ?_ (by omega) ?_,?_⟩)⟩
   · rw[getI hj];exact(row3 (b:=b) hd.bd.2 (List.getElem_mem hj)).1
   · rw[getI hj];exact(row3 (b:=b) hd.bd.2 (List.getElem_mem hj)).2
   · rw[getI hj,z03 (by omega)]
     refine⟨_,zoc,?_⟩
     by_cases h:inst ds[i].1[j] b∈s.1.2.1
     · obtain⟨p,e,hp,_⟩:=z05r h
       show z01 (decide (place s.1.2.1 (inst ds[i].1[j] b)<0)) _ _
       rw[e]at h1 h2 ⊢
       refine z0f (fun h=>by omega) (fun _=>⟨⟨by omega,by omega⟩,?_⟩)
       rw[Int.toNat_natCast]at h1 h2 ⊢
       exact z0f (fun h3=>h1 (by rw[decide_eq_true h,Bool.true_and,decide_eq_false (by omega)];rfl)) (fun h3=>h2 (by rw[decide_eq_true h,Bool.true_and,decide_eq_true (by omega)];rfl))
     · show z01 (decide (place s.1.2.1 (inst ds[i].1[j] b)<0)) _ _
       rw[z0bb h]
       exact z0f (fun _=>h1 (by simp[h])) (fun h=>by omega)
 · intro X h
   refine inI hi (lenI fun _=>?_)
   simp only
   rw[getI hi]
   exact bcN h
 · intro h;rw[z3r]at h;unfold zqg;rw[nt h]
 · intro h;rw[z3r]at h;unfold zqg;rw[nf h])
def z00v (s:TSk) (ds:List TDep) (lev:List Int) (i:Nat) (o:List Int) (t:z00):List Int:=if knS s ds lev t then o++[(i:Int)] else o
def ztl (s:TSk) (ds:List TDep) (lev:List Int) (o:List Int) (i:Nat):List Int:=if lev.getD i 0<0 then(z68 s ds (s.1.2.1.getD i z0i)).foldl (z00v s ds lev i) o else o
theorem z02d (s:TSk) (ds:List TDep) (lev:List Int) (i:Nat) (o:List Int) (t:z00):(z00v s ds lev i o t).length≤o.length+1:=by unfold z00v;split<;>simp
theorem z0bl (s:TSk) (ds:List TDep) (lev:List Int) (o:List Int) (i:Nat):(ztl s ds lev o i).length≤o.length+135000:=by
 unfold ztl
 split
 · have:=zd0 (l:=z68 s ds (s.1.2.1.getD i z0i)) (g:=z00v s ds lev i) (s:=o) (μ:=List.length) (c:=1) fun o t _=>z02d s ds lev i o t
   have:=zwg s ds (s.1.2.1.getD i z0i)
   omega
 · omega
theorem z02p {s:TSk} {ds:List TDep} {lev:List Int} {i:Nat} {x:Int}:∀ {l:List z00} {o:List Int},x∈l.foldl (z00v s ds lev i) o↔x∈o∨(x=(i:Int)∧l.any (knS s ds lev)=true)
 |[],o=>by simp
 | t::l,o=>by
   rw[List.foldl_cons,z02p,List.any_cons]
   unfold z00v
   cases h:knS s ds lev t with
   | true=>
     rw[if_pos rfl,List.mem_append,List.mem_singleton,Bool.true_or]
     constructor
     · rintro ((h|h)|⟨h,_⟩)
       · exact .inl h
       · exact .inr ⟨h,rfl⟩
       · exact .inr ⟨h,rfl⟩
     · rintro (h|⟨h,_⟩)
       · exact .inl (.inl h)
       · exact .inl (.inr h)
   |false=>simp
theorem ziq {s:TSk} {ds:List TDep} {lev:List Int} {x:Int}:∀ {l:List Nat} {o:List Int},x∈l.foldl (ztl s ds lev) o↔x∈o∨∃ i∈l,x=(i:Int)∧zhp s ds lev i=true
 |[],o=>by simp
 | i::l,o=>by
   rw[List.foldl_cons,ziq]
   have:x∈ztl s ds lev o i↔x∈o∨(x=(i:Int)∧zhp s ds lev i=true):=by
    unfold ztl zhp
    by_cases h:lev.getD i 0<0
    · rw[if_pos h,z02p,decide_eq_true h,Bool.true_and];rfl
    · rw[if_neg h,decide_eq_false h,Bool.false_and];simp
   rw[this]
   constructor
   · rintro ((h|h)|⟨j,h1,h2⟩)
     · exact .inl h
     · exact .inr ⟨i,by simp,h⟩
     · exact .inr ⟨j,by simp[h1],h2⟩
   · rintro (h|⟨j,h1,h2⟩)
     · exact .inl (.inl h)
     · rcases List.mem_cons.mp h1 with rfl|h1
       · exact .inl (.inr h2)
       · exact .inr ⟨j,h1,h2⟩
theorem zr1 {n:Int}:∀ {l lev:List Int},(l.foldl (fun v (k:Int)=>v.set k.toNat n) lev).length=lev.length
 |[],lev=>rfl
 |k::l,lev=>by rw[List.foldl_cons,zr1,List.length_set]
theorem z068 {n:Int} {j:Nat}:∀ {l lev:List Int},(∀ k∈l,0≤k∧k<lev.length)→(l.foldl (fun v (k:Int)=>v.set k.toNat n) lev).getD j 0=if (j:Int)∈l then n else lev.getD j 0
 |[],lev,_=>by simp
 | k::l,lev,h=>by
   have hk:=h k (by simp)
   rw[List.foldl_cons,z068 (fun u hu=>by rw[List.length_set];exact h u (by simp[hu])),z060 (by omega)]
   by_cases h1:(j:Int)∈l
   · rw[if_pos h1,if_pos (List.mem_cons_of_mem _ h1)]
   · by_cases h2:j=k.toNat
     · have hjk:(j:Int)=k:=by omega
       rw[if_neg h1,if_pos h2,if_pos (by rw[hjk];exact List.mem_cons_self ..)]
     · rw[if_neg h1,if_neg h2,if_neg]
       intro h3
       rcases List.mem_cons.mp h3 with h3|h3
       · omega
       · exact h1 h3
theorem z07k {s:TSk} {ds:List TDep} {lev:List Int} {n:Int}:((List.range lev.length).foldl (ztl s ds lev) []).foldl (fun v (k:Int)=>v.set k.toNat n) lev=ze0 s ds n lev:=by
 have hm:∀ k∈(List.range lev.length).foldl (ztl s ds lev) [],0≤k∧k<lev.length:=by
  intro k hk
  rw[ziq]at hk
  rcases hk with hk|⟨i,hi,rfl,_⟩
  · simp at hk
  · have:=List.mem_range.mp hi;omega
 refine z063 (d:=0) (by rw[zr1,zak]) fun j hj=>?_
 rw[zr1]at hj
 rw[z068 hm,zad hj]
 by_cases h:zhp s ds lev j=true
 · rw[if_pos h,if_pos (by rw[ziq];exact .inr ⟨j,by simpa using hj,rfl,h⟩)]
 · rw[if_neg h,if_neg]
   rw[ziq]
   rintro (h'|⟨i,hi,he,hc⟩)
   · simp at h'
   · obtain rfl:j=i:=by omega
     exact h hc
theorem z025 {s:TSk} {ds:List TDep} (h1:vSk s=true) (h2:z4j s.1.1 ds=true):zje s ds (levs s ds):=z00n _ _ _ (by
 unfold zpl
 obtain⟨hds,hdo⟩:=zie h2
 obtain⟨hv,hts⟩:=z5x h1
 have hfl:=z41 hv
 refine z1v s.1.2.1.length (fun i=>((i:Int),((lev0 s).take i,((s.1.2.1.take i).map (z68 s ds),())))) (by simp) ?_ ?_
 · intro i hi X hX
   have hr:=zr7 (z57 hv (List.getElem_mem hi))
   have hi0:i<(lev0 s).length:=by simp[lev0,hi]
   have e0:(lev0 s)[i]=if srcI s i then 0 else -1:=by have:=zr3 hi;rw[z0s hi0]at this;exact this
   rw[z07 hi0,z07 hi,List.map_append,e0]at hX
   have e1:srcI s i=(s.1.1.getD (Int.toNat s.1.2.1[i].1) zRel).2.2.1:=by unfold srcI;rw[z0s hi];rfl
   have hl0:((lev0 s).take i).length=i:=by rw[List.length_take];omega
   have hl1:((s.1.2.1.take i).map (z68 s ds)).length=i:=by rw[List.length_map,List.length_take];omega
   refine lenI fun _=>bcI hi (inI hi ?_)
   simp only
   rw[getI hi,z03 (by omega)]
   refine⟨⟨hr.1,hr.2⟩,?_⟩
   rw[←e1]
   refine z1q (fun h=>⟨by simp only[maxL,List.length_cons,List.length_nil];omega,inI hi ⟨_,zlc,by simp only[maxL,List.length_cons,List.length_nil];omega,?_⟩⟩) (fun h=>⟨by simp only[maxL,List.length_cons,List.length_nil];omega,inI hi ⟨_,zlc,by simp only[maxL,List.length_cons,List.length_nil];omega,?_⟩⟩)
   · rw[h]at hX;exact hX
   · rw[h]at hX;exact hX
 · intro X
   refine lenI fun _=>bcN ?_
   have e0:(lev0 s).take s.1.2.1.length=lev0 s:=List.take_of_length_le (by simp[lev0])
   simp only
   rw[e0,List.take_length]
   refine z1v s.1.2.1.length (fun k=>(((k+1:Nat):Int),(levK s ds k,()))) rfl ?_ ?_
   · intro k hk Y hY
     have hkl:=zat s ds k
     refine lenI fun _=>z0f (fun _=>?_) (fun h=>by simp only at h;omega)
     have hge:=fun {i} (hi:i<s.1.2.1.length)=>zzn (s:=s) (ds:=ds) k hi
     rw[levK,←z07k]at hY
     simp only
     generalize levK s ds k=lev at hY hkl hge ⊢
     rw[hkl]
     rw[hkl]at hY
     have hN:s.1.2.1.length≤30:=hfl
     refine zm1 s.1.2.1.length (ztl s ds lev) [] (fun i o=>((i:Int),(o,()))) List.length 135000 30 hN (fun o i _=>z0bl s ds lev o i) ?_ ?_
     · intro i hi o Z ho hZ
       refine lenI fun _=>bcI hi ?_
       have hil:i<((s.1.2.1).map (z68 s ds)).length:=by rw[List.length_map];exact hi
       have eil:((s.1.2.1).map (z68 s ds))[i]=z68 s ds s.1.2.1[i]:=by simp
       have hfg:s.1.2.1.getD i z0i=s.1.2.1[i]:=z0s hi
       unfold ztl at hZ
       rw[hfg]at hZ
       have hdl:=zwg s ds s.1.2.1[i]
       simp only[List.length_nil]at ho
       by_cases hneg:lev.getD i 0<0
       · rw [if_pos hneg]at hZ
         refine z2n (z68 s ds s.1.2.1[i]) (z00v s ds lev i) o (fun j o=>((j:Int),(o,()))) List.length 1 135000 hdl (fun o t _=>z02d s ds lev i o t) ?_ ?_
         · intro j hj o' W ho' hW
           refine inI hil ?_
           simp only
           rw[getI hil,eil]
           refine lenI fun _=>bcI hj ⟨⟨by omega,by omega⟩,?_⟩
           rw[Int.toNat_natCast]
           refine z0f (fun _=>inI hil (inI hj ?_)) (fun h=>absurd hneg h)
           rw[getI hj,z03 (by omega)]
           obtain⟨n,hn,b,hb,et⟩:=zwx (List.getElem_mem hj)
           have ek:knS s ds lev (z68 s ds s.1.2.1[i])[j]=zqg s.1.2.1 lev ds[n] b:=by
            unfold knS
            rw[et]
            simp only[Int.toNat_natCast]
            rw[z0s hn]
           unfold z00v at hW
           rw[ek]at hW
           rw[et]
           refine⟨_,z05e hkl hn (hdo _ (List.getElem_mem hn)) hb,z1q (fun h=>⟨by simp only[maxL,List.length_cons,List.length_nil];omega,?_⟩) (fun h=>?_)⟩
           · rw[h]at hW;exact hW
           · rw[h]at hW;exact hW
         · intro W _
           refine inI hil ?_
           simp only
           rw[getI hil,eil]
           refine lenI fun _=>bcN ?_
           rw[z03 (by omega)]
           exact hZ
       · rw[if_neg hneg]at hZ
         refine⟨1,inI hil ?_⟩
         simp only
         rw[getI hil,eil]
         refine lenI fun _=>?_
         have out:Z (w64 ((i:Int)+1),(o,())):=by rw[z03 (by omega)];exact hZ
         refine z0f (fun _=>⟨⟨by omega,by omega⟩,?_⟩) (fun _=>out)
         rw[Int.toNat_natCast]
         exact z0f (fun h=>absurd h hneg) (fun _=>out)
     · intro Z hlenm
       refine lenI fun _=>bcN ?_
       have hm:∀ k∈(List.range s.1.2.1.length).foldl (ztl s ds lev) [],0≤k∧k<s.1.2.1.length:=by
        intro k hk
        rw[ziq]at hk
        rcases hk with hk|⟨i,hi,rfl,_⟩
        · simp at hk
        · have:=List.mem_range.mp hi;omega
       simp only[List.length_nil]at hlenm
       simp only
       generalize (List.range s.1.2.1.length).foldl (ztl s ds lev) []=more at hm hlenm hY ⊢
       refine ziu more (fun v (q:Int)=>v.set q.toNat ((k+1:Nat):Int)) lev (fun j v=>((j:Int),(v,()))) ?_ ?_
       · intro j hj W hW
         have hml:=hm _ (List.getElem_mem hj)
         have hsl:=zr1 (n:=((k+1:Nat):Int)) (l:=more.take j) (lev:=lev)
         refine lenI fun _=>bcI hj (inI hj ?_)
         simp only
         rw[getI hj,z03 (by omega)]
         exact⟨⟨hml.1,by omega⟩,hW⟩
       · intro W
         refine lenI fun _=>bcN ?_
         simp only
         rw[z03 (by omega)]
         exact hY
   · intro Y
     have hkl:=zat s ds s.1.2.1.length
     exact lenI fun _=>z0f (fun h=>by simp only at h;omega) (fun _=>rfl))
def mixP {α:Type} (l m:List α) (i:Nat):List α:=l.take i++m.drop i
theorem zyv {α:Type} (l m:List α):mixP l m 0=m:=by simp[mixP]
theorem z05b {α:Type} {l m:List α} (h:l.length=m.length):mixP l m l.length=l:=by unfold mixP;rw[List.take_length,List.drop_eq_nil_of_le (by omega),List.append_nil]
theorem z02z {α:Type} {l m:List α} (h:l.length=m.length) {i:Nat} (hi:i≤l.length):(mixP l m i).length=l.length:=by simp[mixP];omega
theorem zzl {α:Type} {l m:List α} {i:Nat} (hi:i<m.length):mixP l m i=l.take i++m[i]::m.drop (i+1):=by unfold mixP;rw[z4e hi]
theorem z05k {α:Type} {l m:List α} {i:Nat} (hi:i<l.length):mixP l m (i+1)=l.take i++l[i]::m.drop (i+1):=by unfold mixP;rw[z07 hi,List.append_assoc];rfl
theorem z053 {α:Type} {l m:List α} (h:l.length=m.length) {i:Nat} (hi:i<l.length):(mixP l m i).set i l[i]=mixP l m (i+1):=by
 have hl:(l.take i).length=i:=by rw[List.length_take];omega
 rw[zzl (by omega),z05k hi,List.set_append_right _ _ (by omega),hl,Nat.sub_self]
 rfl
theorem zye {α:Type} {l m:List α} (h:l.length=m.length) {i:Nat} (hi:i<l.length) (he:l[i]=m[i]'(by omega)):mixP l m i=mixP l m (i+1):=by
 rw[zzl (by omega),z05k hi,he]
theorem z0h7 {α:Type} {l m:List α} (h:l.length=m.length) {i:Nat} (hi:i<l.length) {d:α}:(mixP l m i).getD i d=m[i]'(by omega):=by
 have hl:(l.take i).length=i:=by rw[List.length_take];omega
 rw[zzl (by omega),List.getD_eq_getElem?_getD,List.getElem?_append_right (by omega),hl,Nat.sub_self]
 rfl
def zyr (s:TSk) (ds:List TDep):List (List z00):=(List.range s.1.2.1.length).map fun i=>if srcI s i then[] else z68 s ds (s.1.2.1.getD i z0i)
theorem z00q {s:TSk} {ds:List TDep} {i:Nat} (hi:i<s.1.2.1.length) (h:i<(zyr s ds).length):(zyr s ds)[i]=if srcI s i then[] else z68 s ds s.1.2.1[i]:=by
 simp only[zyr,List.getElem_map,List.getElem_range]
 rw[z0s hi]
theorem z0bu {s:TSk} {ds:List TDep} (h1:vSk s=true) (h2:z4j s.1.1 ds=true):zst s ds (levs s ds):=z0aq _ _ _ (by
 unfold z00o
 obtain⟨hds,hdo⟩:=zie h2
 obtain⟨hv,hts⟩:=z5x h1
 have hfl:=z41 hv
 have hN:(s.1.2.1.length:Int)≤maxL:=by simp only[maxL];omega
 have hz:0≤(s.1.2.1.length:Int)∧(s.1.2.1.length:Int)≤(s.1.2.1.length:Int)∧(s.1.2.1.length:Int)≤maxL:=⟨by omega,by omega,hN⟩
 have hl0:(lev0 s).length=s.1.2.1.length:=by simp[lev0]
 have hls:(zyr s ds).length=s.1.2.1.length:=by simp[zyr]
 refine lenI fun _=>lenI fun _=>⟨⟨hz,trivial⟩,⟨hz,trivial⟩,hz,hz,lenI fun _=>?_⟩
 rw[Int.toNat_natCast]
 have hr1:(lev0 s).length=(List.replicate s.1.2.1.length (0:Int)).length:=by rw[hl0,List.length_replicate]
 have hr2:(zyr s ds).length=(List.replicate s.1.2.1.length ([]:List z00)).length:=by rw[hls,List.length_replicate]
 refine z1v s.1.2.1.length (fun i=>((i:Int),(mixP (lev0 s) (List.replicate s.1.2.1.length (0:Int)) i,(mixP (zyr s ds) (List.replicate s.1.2.1.length ([]:List z00)) i,())))) (by rw[zyv,zyv];rfl) ?_ ?_
 · intro i hi X hX
   have hr:=zr7 (z57 hv (List.getElem_mem hi))
   have hi0:i<(lev0 s).length:=by omega
   have his:i<(zyr s ds).length:=by omega
   have e0:(lev0 s)[i]=if srcI s i then 0 else -1:=by have:=zr3 hi;rw[z0s hi0]at this;exact this
   have e2:=z00q (ds:=ds) hi his
   have e1:srcI s i=(s.1.1.getD (Int.toNat s.1.2.1[i].1) zRel).2.2.1:=by unfold srcI;rw[z0s hi];rfl
   have hm1:=z02z hr1 (i:=i) (by omega)
   have hm2:=z02z hr2 (i:=i) (by omega)
   refine bcI hi (inI hi ?_)
   simp only
   rw[getI hi,z03 (by omega)]
   refine⟨⟨hr.1,hr.2⟩,?_⟩
   rw[←e1]
   refine z0m (fun h=>⟨⟨by omega,by omega⟩,_,zvu,⟨by omega,by omega⟩,?_⟩) (fun h=>?_)
   · rw[Int.toNat_natCast]
     rw[h]at e0 e2
     have s1:=z053 hr1 hi0
     have s2:=z053 hr2 his
     rw[e0]at s1
     rw[e2]at s2
     simp only[Bool.false_eq_true,if_false]at s1 s2
     rw[s1,s2]
     exact hX
   · rw[h]at e0 e2
     have s1:=zye hr1 hi0 (by rw[e0];simp)
     have s2:=zye hr2 his (by rw[e2];simp)
     rw[s1,s2]
     exact hX
 · intro X
   refine bcN ?_
   have ee1:=z05b hr1
   have ee2:=z05b hr2
   rw[hl0]at ee1
   rw[hls]at ee2
   simp only
   rw[ee1,ee2]
   refine z1t (fun d a=>∃ k:Nat,(a=(((k+1:Nat):Int),(true,(levK s ds k,())))∧k+negs (levK s ds k)≤s.1.2.1.length∧negs (levK s ds k)+1≤d)∨(a=(((k+1:Nat):Int),(false,(levK s ds k,())))∧levK s ds k=levs s ds)) ?_ ?_ (n:=s.1.2.1.length+1) ⟨0,.inl ⟨rfl,by have:=z0cl (levK s ds 0);rw[zat]at this;omega,by have:=z0cl (levK s ds 0);rw[zat]at this;omega⟩⟩
   · rintro a ⟨k,⟨_,_,h⟩|⟨rfl,h⟩⟩ Y
     · omega
     · exact bcF (by rw[h])
   · rintro d a ⟨k,⟨rfl,hk,hd⟩|⟨rfl,h⟩⟩ Y hY
     · have hkl:=zat s ds k
       have hge:=fun {i} (hi:i<s.1.2.1.length)=>zzn (s:=s) (ds:=ds) k hi
       have hsrc:=fun {i} (hi:i<s.1.2.1.length)=>z06y (s:=s) (ds:=ds) k hi
       have next:Y (((k+1+1:Nat):Int),((List.range s.1.2.1.length).any (zhp s ds (levK s ds k)),(levK s ds (k+1),()))):=by
        refine hY _ ⟨k+1,?_⟩
        cases hc:(List.range s.1.2.1.length).any (zhp s ds (levK s ds k))with
        | true=>
          obtain⟨i,hi,hci⟩:=List.any_eq_true.mp hc
          have:=z0gz (s:=s) (ds:=ds) (n:=((k+1:Nat):Int)) (by omega) (lev:=levK s ds k) (i:=i) (by rw[hkl];simpa using hi) hci
          rw[show ze0 s ds ((k+1:Nat):Int) (levK s ds k)=levK s ds (k+1)from rfl]at this
          exact .inl ⟨rfl,by omega,by omega⟩
        | false=>
          have hst:z0c7 s ds (levK s ds k):=fun i hi=>by
           rw[Bool.eq_false_iff];intro h
           have:=List.any_eq_true.mpr ⟨i,List.mem_range.mpr (by rw[hkl]at hi;exact hi),h⟩
           rw[hc]at this;cases this
          refine .inr ⟨rfl,?_⟩
          rw[zor hst 1]
          obtain⟨m,hm⟩:∃ m,s.1.2.1.length=k+m:=⟨s.1.2.1.length - k,by omega⟩
          unfold levs
          rw[hm,zor hst m]
       rw[levK]at next
       refine bcT ⟨_,z21 (by simp only;omega),lenI fun _=>?_⟩
       simp only
       generalize levK s ds k=lev at hkl hge hsrc next ⊢
       have hrl:=zak s ds ((k+1:Nat):Int) lev
       refine z1v s.1.2.1.length (fun i=>((List.range i).any (zhp s ds lev),((i:Int),(mixP (ze0 s ds ((k+1:Nat):Int) lev) lev i,())))) (by rw[zyv];rfl) ?_ ?_
       · intro i hi Z hZ
         have hir:i<(ze0 s ds ((k+1:Nat):Int) lev).length:=by omega
         have hil:i<lev.length:=by omega
         have hml:=z02z hrl (i:=i) (by omega)
         have eg:(mixP (ze0 s ds ((k+1:Nat):Int) lev) lev i).getD i 0=lev[i]:=z0h7 hrl hir
         have er:(ze0 s ds ((k+1:Nat):Int) lev)[i]=if zhp s ds lev i then((k+1:Nat):Int)else lev[i]:=by
          have:=zad (s:=s) (ds:=ds) (n:=((k+1:Nat):Int)) hil
          rw[z0s hir,z0s hil]at this;exact this
         have g0:=hge hi
         rw[z0s hil]at g0
         have hsr:=hsrc hi
         rw[z0s hil]at hsr
         rw[List.range_succ,List.any_append]at hZ
         simp only[List.any_cons,List.any_nil,Bool.or_false]at hZ
         refine bcI hi ⟨⟨by simp only;omega,by simp only;omega⟩,?_⟩
         simp only
         rw[Int.toNat_natCast,eg,z03 (by omega)]
         have no:zhp s ds lev i=false→Z ((List.range i).any (zhp s ds lev),(((i+1:Nat):Int),(mixP (ze0 s ds ((k+1:Nat):Int) lev) lev i,()))):=by
          intro h
          rw[h,Bool.or_false]at hZ
          rw[h]at er
          rw[zye hrl hir (by rw[er];simp)]
          exact hZ
         have hc:zhp s ds lev i=(decide (lev[i]<0)&&knF s ds lev i):=by unfold zhp;rw[z0s hil]
         refine z3i (fun h=>?_) (fun h=>no (by rw[hc,decide_eq_false (by omega),Bool.false_and]))
         have his:i<(zyr s ds).length:=by omega
         have e2:=z00q (ds:=ds) hi his
         rw[hsr (by omega)]at e2
         simp only[Bool.false_eq_true,if_false]at e2
         refine⟨⟨by omega,by omega⟩,?_⟩
         rw[z0s his,e2]
         refine⟨_,z5v (x1:=(s.1.2.1,(lev,(ds,())))) (knS s ds lev) (fun t ht=>?_),?_⟩
         · obtain⟨n,hn,b,hb,rfl⟩:=zwx ht
           refine z04q _ _ _ _ _ ⟨_,z020 hfl (zss hv) hkl (fun j hj=>hge hj) hn (hdo _ (List.getElem_mem hn)) hb,?_⟩
           unfold knS
           simp only[Int.toNat_natCast]
           rw[z0s hn]
         · have hkf:knF s ds lev i=(z68 s ds s.1.2.1[i]).any (knS s ds lev):=by unfold knF;rw[z0s hi]
           rw[←hkf]
           refine z1q (fun h3=>⟨⟨by omega,by omega⟩,?_⟩) (fun h3=>no (by rw[hc,h3,Bool.and_false]))
           have hct:zhp s ds lev i=true:=by rw[hc,h3,decide_eq_true (by omega)];rfl
           rw[hct,Bool.or_true]at hZ
           rw[hct]at er
           simp only[if_true]at er
           have s1:=z053 hrl hir
           rw[er]at s1
           rw[s1]
           exact hZ
       · intro Z
         refine bcN ?_
         have ee:=z05b hrl
         rw[hrl,hkl]at ee
         simp only
         rw[ee,z03 (by omega)]
         exact next
     · exact bcF (by rw[h]))
def zvz (s:TSk) (ds:List TDep):Bool:=vSk s&&(z4j s.1.1 ds && !(levs s ds).any fun x=>decide (x<0))
theorem zq7 {s:TSk} {ds:List TDep}:zbq s ds (zvz s ds):=zqh _ _ _ (by
 unfold zhi
 refine⟨_,z35,z1q (fun h1=>⟨_,zgr,z1q (fun h2=>⟨_,z0bu h1 h2,_,z3g,?_⟩) (fun h=>by unfold zvz;rw[h];simp)⟩) (fun h=>by unfold zvz;rw[h];rfl)⟩
 unfold zvz
 rw[h1,h2,Bool.true_and,Bool.true_and]
 have:decide ((-1:Int)∈levs s ds)=(levs s ds).any fun x=>decide (x<0):=by
  rw[←zdb]
  rw[Bool.eq_iff_iff,List.any_eq_true,List.any_eq_true]
  constructor
  · rintro⟨x,hx,h⟩
    have h:x = -1:=by simpa using h
    exact⟨x,hx,by simp[h]⟩
  · rintro⟨x,hx,h⟩
    have h:x<0:=by simpa using h
    obtain⟨i,hi,rfl⟩:=List.mem_iff_getElem.mp hx
    have hl:(levs s ds).length=s.1.2.1.length:=zat s ds _
    have:=zzn (s:=s) (ds:=ds) s.1.2.1.length (i:=i) (by omega)
    rw[show levK s ds s.1.2.1.length=levs s ds from rfl,z0s hi]at this
    exact⟨_,hx,by simp;omega⟩
 rw[this])
theorem zqe {s:TSk} {ds:List TDep}:zc3 s ds (zvz s ds):=zpy _ _ _ (by
 unfold zhj
 refine⟨_,z7c,z0m (fun h=>by unfold zvz;rw[h];rfl) (fun h1=>⟨_,zly,z0m (fun h=>by unfold zvz;rw[h];simp) (fun h2=>⟨_,z025 h1 h2,?_⟩)⟩)⟩
 unfold zvz
 rw[h1,h2,Bool.true_and,Bool.true_and]
 have hl:(levs s ds).length=s.1.2.1.length:=zat s ds _
 have hfl:=z41 (z5x h1).1
 refine z7v (levs s ds) (fun x=>decide (x<0)) (fun i=>((i:Int),())) (KT:=((false,()):Bool×Unit)=(!((levs s ds).any fun x=>decide (x<0)),())) (KF:=((true,()):Bool×Unit)=(!((levs s ds).any fun x=>decide (x<0)),())) ?_ ?_ (fun h=>by rw[h];rfl) (fun h=>by rw[h];rfl)
 · intro i hi X g1 g2
   refine lenI fun _=>bcI hi (inI hi ?_)
   simp only
   rw[getI hi,z03 (by omega)]
   exact z0f (fun h=>g1 (by simpa using h)) (fun h=>g2 (by simpa using h))
 · intro X h
   exact lenI fun _=>bcN h)
theorem z03o {f:z00}:∀ {l:List z00},f∈l→f.2.1.length≤(l.flatMap (·.2.1)).length
 | a::l,h=>by
   rw[List.flatMap_cons,List.length_append]
   rcases List.mem_cons.mp h with rfl|h
   · omega
   · have:=z03o h;omega
theorem zs1 {x:z09} (h:z3a x=true) {f:z00} (hf:f∈x.2.1):f.2.1.length≤1099511627776:=by
 have:=zoi h
 have:=z03o hf
 omega
theorem z05z {s:TSk} (h:vSk s=true) {i:Nat} (hi:i<s.2.1.length):s.2.1[i].2.2.1.length≤5:=by
 have:=z0br (z6b h).2.2 hi
 unfold z8a at this
 rw[z6e hi]at this
 simp only[Bool.and_eq_true,decide_eq_true_eq]at this
 exact this.1.1.2
theorem zuy {x:z09} (h1:x.1.length≤1099511627776) (hl:x.2.1.length≤1073741824) (h:∀ f∈x.2.1,f.2.1.length≤1099511627776):ziz x x:=z0ai _ _ (by
 unfold z021
 refine⟨by simp only[maxL,List.length_nil];omega,?_⟩
 rw[List.nil_append]
 refine zn2 x.2.1 (fun i s=>((i:Int),((x.1,(s,())),()))) hl ?_ ?_
 · intro i hi s X hs hX
   refine lenI fun _=>bcI hi (inI hi ⟨x.2.1[i],?_,⟨by simp only[maxL,List.length_cons,List.length_nil];omega,?_⟩⟩)
   · simp only;rw[getI hi];exact zsq (h _ (List.getElem_mem hi))
   · simp only;rw[z03 (by omega)];exact hX
 · intro X;exact lenI fun _=>bcN rfl)
structure SmS (s:TSk):Prop where
 rels:s.1.1.length≤1048576
 few:s.1.2.1.length≤1048576
 row:∀ f∈s.1.2.1,f.2.1.length≤1048576
 terms:s.2.1.length≤1048576
 args:∀ t∈s.2.1,t.2.2.1.length≤1048576
theorem SmS.of {s:TSk} (h:vSk s=true):SmS s:=by
 have hi:=z5x h
 have hr:=zsc (zk6 hi.1)
 have hf:=z41 hi.1
 refine⟨by omega,by omega,fun f hm=>?_,by omega,fun t ht=>?_⟩
 · have h1:=zoi hi.1
   have h2:=z03o hm
   omega
 · obtain⟨i,hi,rfl⟩:=List.mem_iff_getElem.mp ht
   have:=z05z h hi
   omega
theorem zba {s:TSk} (h:SmS s):z7q s s:=z09b _ _ (by
 unfold zx2
 have h1:=h.rels
 have h2:=h.few
 have h3:=h.terms
 refine⟨s.1,zuy (by omega) (by omega) (fun f hf=>by have:=h.row f hf;omega),?_⟩
 refine zn2 s.2.1 (fun i t=>((i:Int),(((s.1.1,(s.1.2.1,s.1.2.2)),(t,())),()))) (by omega) ?_ ?_
 · intro i hi t X hs hX
   have ha:=h.args _ (List.getElem_mem hi)
   refine lenI fun _=>bcI hi (inI hi (inI hi (inI hi ?_)))
   simp only
   rw[getI hi,z03 (by omega),List.nil_append]
   exact⟨by simp only[maxL,List.length_nil];omega,by simp only[maxL,List.length_cons,List.length_nil];omega,hX⟩
 · intro X;exact lenI fun _=>bcN rfl)
theorem z038 {t:z05} (h:t.2.2.1.length≤1099511627776):zlv t t:=z041 _ _ (by
 unfold zs2
 exact⟨_,z21 h,rfl⟩)
theorem zio {x:z09} (h1:x.1.length≤1099511627776) (hl:x.2.1.length≤1073741824) (h:∀ f∈x.2.1,f.2.1.length≤1099511627776):z36 x x:=zsr _ _ (by
 unfold zih
 exact⟨_,zgl h1,_,zpc hl h,rfl⟩)
theorem z3x {s:TSk} (h:SmS s):z0p s s:=z01v _ _ (by
 unfold zp8
 have h1:=h.rels
 have h2:=h.few
 have h3:=h.terms
 refine⟨s.1,zio (by omega) (by omega) (fun f hf=>by have:=h.row f hf;omega),lenI fun _=>?_⟩
 refine zn2 s.2.1 (fun i t=>((i:Int),(((s.1.1,(s.1.2.1,s.1.2.2)),(t,())),()))) (by omega) ?_ ?_
 · intro i hi t X hs hX
   have ha:=h.args _ (List.getElem_mem hi)
   refine bcI hi (inI hi ⟨s.2.1[i],?_,⟨by simp only[maxL,List.length_cons,List.length_nil];omega,?_⟩⟩)
   · simp only;rw[getI hi];exact z038 (by omega)
   · simp only;rw[z03 (by omega)];exact hX
 · intro X;exact bcN rfl)
theorem z012 {s:TSk} (h:vSk s=true):z0p s s:=z3x (.of h)
def iAt (l:List Int) (i:Nat):Int:=l.getD i 0
theorem z0hd {l:List Int} {i:Nat} (h:i<l.length):iAt l i=l[i]:=z0s h
theorem z00u:∀ {x y:List Int},cmpL y x = - cmpL x y
 |[],[]=>rfl
 |[],b::y=>rfl
 |a::x,[]=>rfl
 | a::x,b::y=>by
   simp only[cmpL]
   have:=z00u (x:=x) (y:=y)
   split<;>split<;>first|omega|(rw[this])|skip
theorem z9e {x y:z00}:cmpF y x = - cmpF x y:=by
 unfold cmpF
 have:=z00u (x:=x.2.1) (y:=y.2.1)
 split<;>split<;>first|omega|(rw[this])|skip
theorem asc_pw {l:List z00}:asc l↔l.Pairwise fun a b=>cmpF a b<0:=by
 rw[List.pairwise_iff_getElem]
 exact⟨fun h i j hi hj hij=>h i j hj hij,fun h i j hj hij=>h i j (by omega) hj hij⟩
theorem z0g9:∀ {a b:List z00},(a.Pairwise fun a b=>cmpF a b<0)→(b.Pairwise fun a b=>cmpF a b<0)→(∀ y,y∈a↔y∈b)→a=b
 |[],[],_,_,_=>rfl
 |[],b::m,_,_,h=>absurd ((h b).mpr (by simp)) (by simp)
 |a::l,[],_,_,h=>absurd ((h a).mp (by simp)) (by simp)
 | a::l,b::m,h1,h2,h=>by
   rw[List.pairwise_cons]at h1 h2
   have hab:a=b:=by
    have ha:=(h a).mp (by simp)
    have hb:=(h b).mpr (by simp)
    rcases List.mem_cons.mp ha with e|ha
    · exact e
    · rcases List.mem_cons.mp hb with e|hb
      · exact e.symm
      · have q1:=h2.1 a ha
        have q2:=h1.1 b hb
        rw[z9e]at q1
        omega
   subst hab
   congr 1
   refine z0g9 h1.2 h2.2 fun y=>⟨fun hy=>?_,fun hy=>?_⟩
   · rcases List.mem_cons.mp ((h y).mp (by simp[hy]))with e|h'
     · subst e;have:=h1.1 y hy;rw[cmpF_zero.mpr rfl]at this;omega
     · exact h'
   · rcases List.mem_cons.mp ((h y).mpr (by simp[hy]))with e|h'
     · subst e;have:=h2.1 y hy;rw[cmpF_zero.mpr rfl]at this;omega
     · exact h'
theorem z0hg {a b:List z00} (h1:asc a) (h2:asc b) (h:∀ y,y∈a↔y∈b):a=b:=z0g9 (asc_pw.mp h1) (asc_pw.mp h2) h
def putK (l:List z00) (f:z00):Nat:=z04 (fun t=>!decide (cmpF t f<0)) l
def putF (l:List z00) (f:z00):List z00:=if f∈l then l else l.take (putK l f)++f::l.drop (putK l f)
theorem z0dv {l:List z00} {f y:z00}:y∈putF l f↔y∈l∨y=f:=by
 unfold putF
 split
 · rename_i h
   exact⟨.inl,fun h'=>h'.elim id fun e=>e ▸ h⟩
 · have:y∈l↔y∈l.take (putK l f)∨y∈l.drop (putK l f):=by rw[←List.mem_append,List.take_append_drop]
   rw[this,List.mem_append,List.mem_cons]
   constructor
   · rintro (h|h|h)
     · exact .inl (.inl h)
     · exact .inr h
     · exact .inl (.inr h)
   · rintro ((h|h)|h)
     · exact .inl h
     · exact .inr (.inr h)
     · exact .inr (.inl h)
theorem z0fl {l:List z00} {f:z00}:(putF l f).length≤l.length+1:=by
 unfold putF
 split
 · omega
 · simp only[List.length_append,List.length_cons,List.length_take,List.length_drop];omega
theorem z0fi {l:List z00} {f:z00} (h:asc l):asc (putF l f):=by
 unfold putF
 split
 · exact h
 rename_i hn
 have hp:=asc_pw.mp h
 rw[asc_pw]
 have e:l=l.take (putK l f)++l.drop (putK l f):=(List.take_append_drop _ _).symm
 rw[e]at hp
 rw[List.pairwise_append]at hp ⊢
 have h1:∀ a∈l.take (putK l f),cmpF a f<0:=by
  intro a ha
  obtain⟨i,hi,rfl⟩:=List.mem_iff_getElem.mp ha
  rw[List.length_take]at hi
  have:=zan (p:=fun t=>!decide (cmpF t f<0)) (l:=l) (i:=i) (by omega) (show i<putK l f by omega)
  rw[List.getElem_take]
  simpa using this
 have h2:∀ a∈l.drop (putK l f),cmpF f a<0:=by
  intro a ha
  have hin:putK l f<l.length:=by
   rcases Nat.lt_or_ge (putK l f) l.length with h'|h'
   · exact h'
   · rw[List.drop_of_length_le h']at ha;simp at ha
  have h3:cmpF f l[putK l f]<0:=by
   have h4:=zaf (p:=fun t=>!decide (cmpF t f<0)) (l:=l) hin
   have h4:¬ cmpF l[putK l f] f<0:=by have h4:(!decide (cmpF l[putK l f] f<0))=true:=h4;simpa using h4
   have h5:cmpF l[putK l f] f≠0:=fun e=>hn ((cmpF_zero.mp e) ▸ List.getElem_mem hin)
   rw[z9e];omega
  obtain⟨i,hi,rfl⟩:=List.mem_iff_getElem.mp ha
  rw[List.getElem_drop]
  rcases Nat.eq_zero_or_pos i with rfl|h0
  · simpa using h3
  · rw[List.length_drop]at hi
    exact zac h3 (h _ _ (by omega) (by omega))
 refine⟨hp.1,List.pairwise_cons.mpr ⟨h2,hp.2.1⟩,fun a ha b hb=>?_⟩
 rcases List.mem_cons.mp hb with rfl|hb
 · exact h1 a ha
 · exact hp.2.2 a ha b hb
def facS (l:List z00):List z00:=l.foldl putF []
theorem zsv:∀ {l m:List z00},asc m→asc (l.foldl putF m)
 |[],m,h=>h
 |a::l,m,h=>zsv (l:=l) (z0fi h)
theorem zrj:∀ {l m:List z00} {y:z00},y∈l.foldl putF m↔y∈m∨y∈l
 |[],m,y=>by simp
 | a::l,m,y=>by
   rw[List.foldl_cons,zrj (l:=l),z0dv,List.mem_cons]
   constructor
   · rintro ((h|h)|h)
     · exact .inl h
     · exact .inr (.inl h)
     · exact .inr (.inr h)
   · rintro (h|h|h)
     · exact .inl (.inl h)
     · exact .inl (.inr h)
     · exact .inr h
theorem zt7:∀ {l m:List z00},(l.foldl putF m).length≤m.length+l.length
 |[],m=>by simp
 | a::l,m=>by
   have:=zt7 (l:=l) (m:=putF m a)
   have:=z0fl (l:=m) (f:=a)
   rw[List.foldl_cons,List.length_cons];omega
theorem z0ao:asc []:=fun i j hj _=>by simp at hj
theorem z05w (l:List z00):asc (facS l):=zsv z0ao
theorem facS_mem {l:List z00} {y:z00}:y∈facS l↔y∈l:=by unfold facS;rw[zrj];simp
theorem z0ah {a l:List z00} (h1:asc a) (h2:∀ y,y∈a↔y∈l):a=facS l:=z0hg h1 (z05w l) fun y=>by rw[h2,facS_mem]
theorem z06z {l m:List z00} (h:asc l):m.foldl putF l=facS (l++m):=z0ah (zsv h) fun y=>by rw[zrj,List.mem_append]
theorem z06j {l:List z00}:(facS l).length≤l.length:=by have:=zt7 (l:=l) (m:=[]);simpa [facS]using this
def ddF (l:List z00):Nat→List z00
 |0=>[]
 |n+1=>if n=0∨zeg l n≠zeg l (n - 1)then ddF l n++[zeg l n] else ddF l n
theorem z0ax {l:List z00} (hs:l.Pairwise fun a b=>cmpF a b≤0):∀ {n:Nat},n≤l.length→asc (ddF l n)∧∀ y,y∈ddF l n↔y∈l.take n
 |0,_=>⟨z0ao,fun y=>by simp[ddF]⟩
 | n+1,h=>by
   obtain⟨h1,h2⟩:=z0ax hs (n:=n) (by omega)
   have hn:n<l.length:=by omega
   unfold ddF
   rw[z07 hn,z2e hn]
   have hle:∀ i j (hj:j<l.length) (hij:i<j),cmpF (l[i]'(by omega)) l[j]≤0:=fun i j hj hij=>List.pairwise_iff_getElem.mp hs i j (by omega) hj hij
   split
   · rename_i hc
     refine⟨?_,fun y=>by rw[List.mem_append,List.mem_append,h2]⟩
     rw[asc_pw,List.pairwise_append]
     refine⟨asc_pw.mp h1,by simp,fun a ha b hb=>?_⟩
     obtain rfl:b=l[n]:=by simpa using hb
     obtain⟨i,hi,rfl⟩:=List.mem_iff_getElem.mp ((h2 a).mp ha)
     rw[List.length_take]at hi
     rw[List.getElem_take]
     rcases hc with hc|hc
     · omega
     · rw[z2e (by omega)]at hc
       have g1:=hle (n - 1) n hn (by omega)
       have g2:cmpF l[n - 1] l[n]≠0:=fun e=>hc (cmpF_zero.mp e).symm
       rcases Nat.lt_or_ge i (n - 1)with h'|h'
       · have g3:=hle i (n - 1) (by omega) h'
         by_cases h0:cmpF l[i] l[n - 1]=0
         · rw[cmpF_zero.mp h0];omega
         · exact zac (by omega:cmpF l[i] l[n - 1]<0) (by omega)
       · have:i=n - 1:=by omega
         subst this;omega
   · rename_i hc
     refine⟨h1,fun y=>?_⟩
     rw[h2,List.mem_append]
     refine⟨.inl,fun h'=>h'.elim id fun e=>?_⟩
     have h0:n≠0:=fun e=>hc (.inl e)
     have he:l[n]=zeg l (n - 1):=Classical.byContradiction fun h=>hc (.inr h)
     rw[z2e (by omega)]at he
     have:y=l[n - 1]:=by simpa [he]using e
     subst this
     exact List.mem_iff_getElem.mpr ⟨n - 1,by rw[List.length_take];omega,by rw[List.getElem_take]⟩
theorem z05v {x:z09} {f:z00} (h1:x.2.1.length≤1000) (h2:f.2.1.length≤1000):zre x f (x.1,(putF x.2.1 f,())):=z0ff _ _ _ (by
 unfold z073
 refine⟨_,zoc,?_⟩
 rw[z06d]
 refine z0f (fun h=>by unfold putF;rw[if_pos h]) (fun hn=>?_)
 have hle:putK x.2.1 f≤x.2.1.length:=zg0 _ _
 have key:∀ i:Nat,i=putK x.2.1 f→((0:Int)≤(i:Int)∧(i:Int)≤(x.2.1.length:Int)∧(x.2.1.length:Int)≤(x.2.1.length:Int))∧((([f]:List z00)).length+(List.drop (Int.toNat (i:Int)) (List.take (Int.toNat (x.2.1.length:Int)) x.2.1)).length≤maxL)∧
   (([]:List z00)++List.drop (Int.toNat (0:Int)) (List.take (Int.toNat (i:Int)) x.2.1))++([f]++List.drop (Int.toNat (i:Int)) (List.take (Int.toNat (x.2.1.length:Int)) x.2.1))=putF x.2.1 f∧
   ([]:List z00).length+(List.drop (Int.toNat (0:Int)) (List.take (Int.toNat (i:Int)) x.2.1)).length≤maxL∧
   (([]:List z00)++List.drop (Int.toNat (0:Int)) (List.take (Int.toNat (i:Int)) x.2.1)).length+([f]++List.drop (Int.toNat (i:Int)) (List.take (Int.toNat (x.2.1.length:Int)) x.2.1)).length≤maxL:=by
  rintro i rfl
  simp only[Int.toNat_natCast,Int.toNat_zero,List.drop_zero,List.nil_append,List.take_length,maxL,List.length_cons,List.length_nil,List.length_append,List.length_drop,List.length_take]
  refine⟨⟨by omega,by omega,by omega⟩,by omega,?_,by omega,by omega⟩
  unfold putF
  rw[if_neg hn];rfl
 refine zd4 x.2.1 (fun t=>!decide (cmpF t f<0)) (fun i=>((i:Int),())) (KT:=fun i=>i=putK x.2.1 f) (KF:=putK x.2.1 f=x.2.1.length) ?_ ?_ (fun _=>rfl) (fun h=>by unfold putK;have:=zg0 (fun t=>!decide (cmpF t f<0)) x.2.1;omega)
 · intro i hi X q1 q2
   refine lenI fun _=>bcI hi (inI hi ⟨_,z96,?_⟩)
   simp only
   rw[getI hi,z03 (by omega)]
   refine z0f (fun h=>q2 (by rw[decide_eq_true h];rfl)) (fun h=>?_)
   obtain⟨k1,k2,k3,k4,k5⟩:=key i (q1 (by rw[decide_eq_false h];rfl))
   refine⟨k1,f,zsq (by omega),k2,⟨by omega,by omega,by omega⟩,k4,k5,?_⟩
   show((x.1,((([]:List z00)++List.drop (Int.toNat (0:Int)) (List.take (Int.toNat (i:Int)) x.2.1))++([f]++List.drop (Int.toNat (i:Int)) (List.take (Int.toNat (x.2.1.length:Int)) x.2.1)),())),())=((x.1,(putF x.2.1 f,())),())
   rw[k3]
 · intro X h
   obtain⟨k1,k2,k3,k4,k5⟩:=key x.2.1.length h.symm
   refine lenI fun _=>bcN ⟨k1,f,zsq (by omega),k2,⟨by omega,by simp only;omega,by simp only;omega⟩,k4,k5,?_⟩
   show((x.1,((([]:List z00)++List.drop (Int.toNat (0:Int)) (List.take (Int.toNat (x.2.1.length:Int)) x.2.1))++([f]++List.drop (Int.toNat (x.2.1.length:Int)) (List.take (Int.toNat (x.2.1.length:Int)) x.2.1)),())),())=((x.1,(putF x.2.1 f,())),())
   rw[k3])
abbrev zTF:TTok z00:=zTk (z0b (.pair (.int .i64) (.pair (.sl 3 (.int .i64)) .unit))) z0i
def tkAt (l:List (TTok z00)) (i:Nat):TTok z00:=l.getD i zTF
theorem zjx {l:List (TTok z00)} {i:Nat} (h:i<l.length):tkAt l i=l[i]:=z0s h
def ddT (l:List (TTok z00)):Nat→List (TTok z00)
 |0=>[]
 |n+1=>if n=0∨(tkAt l n).2≠(tkAt l (n - 1)).2 then ddT l n++[tkAt l n] else ddT l n
theorem zyw {l:List (TTok z00)}:∀ {n:Nat},n≤l.length→(∀ i,1≤i→i<n→(tkAt l i).2≠(tkAt l (i - 1)).2)→ddT l n=l.take n
 |0,_,_=>by simp[ddT]
 | n+1,h,hi=>by
   unfold ddT
   rw[zyw (n:=n) (by omega) fun i h1 h2=>hi i h1 (by omega),z07 (by omega)]
   rw[if_pos,zjx (by omega)]
   rcases Nat.eq_zero_or_pos n with h0|h0
   · exact .inl h0
   · exact .inr (hi n (by omega) (by omega))
theorem z0cy {l:List (TTok z00)}:∀ {n:Nat},n≤l.length→(ddT l n).Sublist (l.take n)
 |0,_=>by simp[ddT]
 | n+1,h=>by
   have:=z0cy (l:=l) (n:=n) (by omega)
   unfold ddT
   rw[z07 (by omega)]
   split
   · rw[zjx (by omega)];exact this.append_right _
   · exact this.trans (List.sublist_append_left _ _)
theorem z06e {l:List (TTok z00)} {i:Nat}:zeg (l.map (·.2)) i=(tkAt l i).2:=by
 unfold zeg tkAt
 rw[List.getD_eq_getElem?_getD,List.getD_eq_getElem?_getD,List.getElem?_map]
 cases l[i]?<;>rfl
theorem z03t {l:List (TTok z00)}:∀ {n:Nat},(ddT l n).map (·.2)=ddF (l.map (·.2)) n
 |0=>rfl
 | n+1=>by
   unfold ddT ddF
   rw[z06e,z06e]
   split
   · rw[List.map_append,z03t];rfl
   · exact z03t
theorem z0id {l:List (TTok z00)} (hl:l.length≤1000):z1c l () (ddT l l.length):=z6i _ _ _ (by
 unfold z2w
 refine lenI fun _=>z0f (fun h=>?_) (fun h=>?_)
 · rw[zyw (Nat.le_refl _) (fun i h1 h2=>by omega),List.take_length]
 refine z1t (fun k a=>∃ i:Nat,i+k=l.length∧1≤i∧a=((i:Int),(l,()))∧∀ j,1≤j→j<i→(tkAt l j).2≠(tkAt l (j - 1)).2) ?_ ?_ (n:=l.length - 1) ⟨1,by omega,by omega,rfl,fun j h1 h2=>by omega⟩
 · rintro a ⟨i,hi,h1,rfl,hn⟩ X
   obtain rfl:i=l.length:=by omega
   refine lenI fun _=>bcN ?_
   rw[zyw (Nat.le_refl _) hn,List.take_length]
 · rintro k a ⟨i,hi,h1,rfl,hn⟩ X hX
   have hlt:i<l.length:=by omega
   have hw:w64 ((i:Int) - 1)=((i - 1:Nat):Int):=by rw[z1g (by omega) (by omega)];omega
   have hj:i - 1<l.length:=by omega
   refine lenI fun _=>bcI hlt (inI hlt ?_)
   simp only
   rw[hw]
   refine inI hj ⟨_,zif _ _ _ zm2,?_⟩
   rw[getI hlt,getI hj,z03 (by omega)]
   refine z0f (fun h=>?_) (fun h=>hX _ ⟨i+1,by omega,by omega,rfl,fun j q1 q2=>?_⟩)
   · refine⟨⟨by omega,by omega,by omega,by omega⟩,?_⟩
     have hbase:ddT l (i+1)=l.take i:=by
      unfold ddT
      rw[if_neg,zyw (by omega) hn]
      rw[zjx hlt,zjx hj,h]
      rintro (h|h)
      · omega
      · exact h rfl
     simp only[Int.toNat_natCast]
     refine z1t (fun k a=>∃(p q:Nat) (L:List (TTok z00)),q+k=l.length - i∧1≤q∧a=((p:Int),((q:Int),(L,())))∧L.length=l.length∧p+1≤i+q∧L.take p=ddT l (i+q)∧L.drop (i+q - 1)=l.drop (i+q - 1)) ?_ ?_ (n:=l.length - i - 1) ⟨i,1,l,by omega,by omega,rfl,rfl,by omega,hbase.symm,rfl⟩
     · rintro a ⟨p,q,L,hq,hq1,rfl,hL,hp,e1,e2⟩ Y
       obtain rfl:q=l.length - i:=by omega
       rw[show i+(l.length - i)=l.length by omega]at e1
       have ht:(L.take p).length=p:=by rw[List.length_take];omega
       refine lenI fun _=>bcN ⟨⟨by omega,by simp only;omega,by omega,by simp only;omega⟩,by simp only[Int.toNat_natCast];omega,⟨by omega,by omega,?_,?_⟩,?_⟩
       · simp only[List.length_append,Int.toNat_natCast,ht];omega
       · simp only[List.length_append,List.length_replicate,Int.toNat_natCast,ht];omega
       · rw[Int.toNat_natCast,List.take_left' ht,e1]
     · rintro k a ⟨p,q,L,hq,hq1,rfl,hL,hp,e1,e2⟩ Y hY
       have hlq:i+q<l.length:=by omega
       have hg:∀ j,i+q - 1≤j→j<l.length→L.getD j zTF=tkAt l j:=by
        intro j g1 g2
        have e3:=congrArg (fun m=>m.getD (j - (i+q - 1)) zTF) e2
        simp only[List.getD_eq_getElem?_getD,List.getElem?_drop]at e3
        rw[show i+q - 1+(j - (i+q - 1))=j by omega]at e3
        unfold tkAt
        simpa [List.getD_eq_getElem?_getD]using e3
       have hwq:w64 ((q:Int) - 1)=((q - 1:Nat):Int):=by rw[z1g (by omega) (by omega)];omega
       have hdd:L.drop (i+q)=l.drop (i+q):=by
        have:=congrArg (List.drop 1) e2
        rw[List.drop_drop,List.drop_drop,show i+q - 1+1=i+q by omega]at this
        exact this
       refine lenI fun _=>bcI (by omega) (inI (by omega) ?_)
       simp only
       rw[hwq]
       refine inI (by omega) ⟨_,zif _ _ _ zm2,?_⟩
       rw[Int.toNat_natCast,Int.toNat_natCast,hg (i+q) (by omega) hlq,show i+(q - 1)=i+q - 1 by omega,hg (i+q - 1) (by omega) (by omega),z03 (by omega),z03 (by omega)]
       refine zcs (fun h5=>inI (by omega) ⟨⟨by omega,by omega⟩,?_⟩) (fun h5=>?_)
       · refine hY _ ⟨p+1,q+1,_,by omega,by omega,rfl,by rw[List.length_set];exact hL,by omega,?_,?_⟩
         · rw[show i+(q+1)=(i+q)+1 by omega]
           unfold ddT
           rw[if_pos (.inr h5),←e1,Int.toNat_natCast,List.take_set,z07 (show p<L.length by omega),List.set_append]
           simp[List.length_take,Nat.min_eq_left (show p≤L.length by omega)]
         · rw[show i+(q+1) - 1=i+q by omega,←hdd,Int.toNat_natCast,List.drop_set_of_lt (by omega)]
       · refine hY _ ⟨p,q+1,L,by omega,by omega,rfl,hL,by omega,?_,by rw[show i+(q+1) - 1=i+q by omega];exact hdd⟩
         rw[show i+(q+1)=(i+q)+1 by omega]
         unfold ddT
         rw[if_neg,e1]
         rintro (h6|h6)
         · omega
         · exact h6 h5
   · by_cases hji:j=i
     · subst hji;rw[zjx hlt,zjx hj];exact h
     · exact hn j q1 (by omega))
theorem z0f5 {l:List z00} (hl:l.length≤1000):z0x l () (ddF l l.length):=z4q _ _ _ fun xs hx=>by
 subst hx
 rw[List.length_map]at hl ⊢
 refine⟨ddT xs xs.length,?_,z03t,z0id hl⟩
 have:=z0cy (l:=xs) (Nat.le_refl _)
 rwa [List.take_length]at this
theorem ltF {x y:z00}:Go.Proofs.ltOf cmpF x y=decide (cmpF x y<0):=rfl
theorem swoF:Go.Sort.SWO (Go.Proofs.ltOf cmpF):=by
 refine⟨fun x=>?_,fun x y z h1 h2=>?_,fun x y z h1 h2=>?_⟩
 · rw[ltF,cmpF_zero.mpr rfl];rfl
 · rw[ltF,decide_eq_true_eq]at h1 h2 ⊢;exact zac h1 h2
 · rw[ltF,decide_eq_false_iff_not]at h1 h2 ⊢
   intro h3
   by_cases h4:cmpF x y=0
   · obtain rfl:=cmpF_zero.mp h4
     exact h2 h3
   · have h5:cmpF y x<0:=by rw[z9e];omega
     exact h2 (zac h5 h3)
theorem totF {x y:z00} (h1:Go.Proofs.ltOf cmpF x y=false) (h2:Go.Proofs.ltOf cmpF y x=false):x=y:=by
 rw[ltF,decide_eq_false_iff_not]at h1 h2
 rw[z9e]at h2
 exact cmpF_zero.mp (by omega)
theorem z0ey {l:List z00} (h:l.length≤1000):z0t l () (zdg cmpF l):=z07a (fun a b=>z5f) swoF (fun _ _=>totF) (by omega)
theorem z0fe (l:List z00):(zdg cmpF l).Pairwise fun a b=>cmpF a b≤0:=by
 have:=List.pairwise_mergeSort (le:=fun a b=>!(decide (cmpF b a<0))) (fun a b c h1 h2=>by
  simp only[Bool.not_eq_true',decide_eq_false_iff_not]at h1 h2 ⊢
  intro h3
  rw[z9e]at h1 h2
  by_cases h4:cmpF a b=0
  · rw[cmpF_zero.mp h4]at h3;rw[z9e]at h3;omega
  · have:=zac h3 (by omega:cmpF a b<0);rw[z9e]at this;omega) (fun a b=>by
  rw[z9e (x:=a) (y:=b)]
  simp
  omega) l
 refine List.Pairwise.imp (fun h=>?_) this
 simp only[Bool.not_eq_true',decide_eq_false_iff_not]at h
 rw[z9e]at h;omega
theorem z0he {l:List z00}:ddF (zdg cmpF l) l.length=facS l:=by
 have hl:(zdg cmpF l).length=l.length:=by simp[zdg]
 obtain⟨h1,h2⟩:=z0ax (z0fe l) (n:=l.length) (by omega)
 refine z0ah h1 fun y=>?_
 rw[h2,List.take_of_length_le (by omega)]
 simp[zdg]
theorem zuu {l:List z00} (hl:l.length≤1000) (h:∀ f∈l,f.2.1.length≤1000):zh0 l (facS l):=z04l _ _ (by
 unfold zsj
 have hs:(zdg cmpF l).length=l.length:=by simp[zdg]
 refine⟨l,zpc (by omega) (fun f hf=>by have:=h f hf;omega),_,z0ey hl,_,z0f5 (by omega),?_⟩
 rw[hs,z0he])
def zxn (d:TDep) (b:List Int):Bool:=(List.range b.length).all fun k=>decide ((k:Int)∈vars d.1) == !(iAt b k == 10)
def zoz (x:z09) (d:TDep) (b:List Int):Bool:=d.1.all fun a=>zaa a b&&decide (inst a b∈x.2.1)
def zpi (x:z09) (d:TDep) (b:List Int):Bool:=z3a x&&(vDep x.1 d&&((b.length == 5)&&(zxn d b&&zoz x d b)))
theorem zjw {l:List TRel} {ats:List z00} (h:∀ a∈ats,z6s l a=true) {v:Int} (hv:v∈vars ats):0≤v∧v<5:=by
 unfold vars at hv
 have hv:=mem_sset.mp hv
 obtain⟨h1,h2⟩:=List.mem_filter.mp hv
 obtain⟨a,ha,hva⟩:=List.mem_flatMap.mp h1
 have:=inR_iff.mp ((z1p (h a ha)).2.2.2.2.2 v hva)
 have:0≤v:=by simpa using h2
 omega
theorem bb2:∀ u v:Bool,(!((!v) == u)) = !(u == !v):=by decide
theorem zr2 {l:List TRel} {a:z00} (h:z6s l a=true):a.2.1.length≤3∧∀ t∈a.2.1,-10≤t∧t<5:=by
 have:=z1p h
 exact⟨this.2.2.2.2.1,fun t ht=>by have:=inR_iff.mp (this.2.2.2.2.2 t ht);omega⟩
theorem z034 (x:z09):0≤zjj x∧zjj x≤40:=by
 have hk:∀ k∈nulI x,0≤k∧k<40:=fun k hk=>by
  have:=zlq (l:=x.2.1.flatMap (·.2.1)) k (by rw[zfp];exact hk)
  omega
 refine⟨?_,nextN_le (n:=40) |>.mpr fun k h=>(hk k h).2⟩
 unfold zjj
 cases h:(nulI x).getLast? with
 |none=>exact Int.le_refl 0
 |some m=>have:=hk m (List.mem_of_getLast? h);simp only;omega
theorem z0gq {l:List TRel} {d:TDep} (h:vDep l d=true):(exV d).length≤6:=by
 have hd:=z8h h
 have h1:(exV d).length≤(vars d.2.1).length:=by unfold exV;exact List.length_filter_le _ _
 have h2:=zk5 d.2.1
 omega
theorem zg3 {l:List TRel} {d:TDep} (h:vDep l d=true) {v:Int} (hv:v∈exV d):0≤v∧v<5:=by
 have hd:=z8h h
 unfold exV at hv
 exact zjw hd.2.2.2.2.1 (List.mem_filter.mp hv).1
theorem z02m {x:z09} (h:z3a x=true) (l:List z00):l.foldl putF x.2.1=facS (x.2.1++l):=z06z (zss h)
theorem z011 {x:z09} {d:TDep} {b:List Int}:zjm x d b (zpi x d b):=z01o _ _ _ _ (by
 unfold zpd
 refine⟨_,z4f,z0m (fun h=>by unfold zpi;rw[h];rfl) (fun h1=>⟨_,zcg,z0m (fun h=>by unfold zpi;rw[h1,h];rfl) (fun h2=>lenI fun _=>z5s (fun h=>?_) (fun h3=>?_))⟩)⟩
 · unfold zpi
   rw[show(b.length == 5)=false from beq_eq_false_iff_ne.mpr (by omega),h1,h2];rfl
 have h3:b.length=5:=by omega
 have hd:=z8h h2
 have e:zpi x d b=(zxn d b&&zoz x d b):=by unfold zpi;rw[h1,h2,h3];rfl
 rw[e]
 refine⟨_,zej (by omega),lenI fun _=>?_⟩
 refine zbg b.length (fun k=>!(decide ((k:Int)∈vars d.1) == !(iAt b k == 10))) (fun i=>((i:Int),())) (KT:=zxn d b=false) (KF:=zxn d b=true) ?_ ?_ ?_ ?_
 · intro i hi X _ q1 q2
   refine bcI hi (inI hi ⟨_,z3g,?_⟩)
   simp only
   rw[getI hi,←z0hd hi,z03 (by omega)]
   show z01 (!((!(iAt b i == 10)) == _)) _ _
   rw[bb2]
   exact z1q (fun h=>by rw[q1 h];rfl) q2
 · intro X hB
   refine bcN (lenI fun _=>?_)
   rw[hB,Bool.true_and]
   refine z7v d.1 (fun a=>!(zaa a b&&decide (inst a b∈x.2.1))) (fun i=>((i:Int),())) (KT:=zoz x d b=false) (KF:=zoz x d b=true) ?_ ?_ ?_ ?_
   · intro i hi X q1 q2
     have hr:=zr2 (hd.2.2.1 _ (List.getElem_mem hi))
     refine bcI hi (inI hi ⟨inst d.1[i] b,zaa d.1[i] b,?_,?_⟩)
     · simp only;rw[getI hi];exact zay (by omega) (by omega) hr.2
     · rw[z03 (by omega)]
       refine z0m (fun h=>by rw[q1 (by rw[h];rfl)]) (fun h=>⟨_,zjz,z0m (fun h4=>?_) (fun h4=>?_)⟩)
       · have h4:inst d.1[i] b∉x.2.1:=of_decide_eq_false h4
         rw[q1 (by rw[h];simpa using h4)]
       · have h4:inst d.1[i] b∈x.2.1:=of_decide_eq_true h4
         exact q2 (by rw[h];simpa using h4)
   · intro X h;exact bcN (by rw[h])
   · intro h;rw[z3r]at h;unfold zoz;exact nt h
   · intro h;rw[z3r]at h;unfold zoz;exact nf h
 · rintro⟨i,hi,hp⟩
   unfold zxn
   rw[Bool.eq_false_iff]
   intro h
   have:=List.all_eq_true.mp h i (List.mem_range.mpr hi)
   rw[this]at hp;cases hp
 · intro h
   unfold zxn
   exact List.all_eq_true.mpr fun i hi=>nf (h i (List.mem_range.mp hi)))
theorem zmc {l:List Int} {i j:Nat} {v:Int} (h:i<l.length):iAt (l.set i v) j=if j=i then v else iAt l j:=z060 h
def zt4 (b c:List Int):Prop:=c.length=b.length∧∀ k,iAt b k≠10→iAt c k=iAt b k
theorem zrx (b:List Int):zt4 b b:=⟨rfl,fun _ _=>rfl⟩
theorem z01t {a b c:List Int} (h1:zt4 a b) (h2:zt4 b c):zt4 a c:=⟨h2.1.trans h1.1,fun k hk=>by
 have e:=h1.2 k hk
 rw[h2.2 k (by rw[e];exact hk),e]⟩
def zw1 (c:List Int) (p:Int×Int):Prop:=if p.1<0 then p.2 = -1 - p.1 else iAt c p.1.toNat=p.2
theorem z03n:∀ {ts vs b:List Int},(fitP ts vs b).2=true→(∀ t∈ts,t<b.length)→(∀ v∈vs,v≠10)→ts.length=vs.length→
  zt4 b (fitP ts vs b).1∧(∀ p∈ts.zip vs,zw1 (fitP ts vs b).1 p)∧∀ k:Nat,k<b.length→(iAt (fitP ts vs b).1 k≠10↔iAt b k≠10∨(k:Int)∈ts)
 |[],vs,b,_,_,_,_=>⟨zrx b,by simp,by simp[fitP]⟩
 |t::ts,[],b,h,_,_,hl=>by simp at hl
 | t::ts,v::vs,b,h,h1,h2,hl=>by
   rw[zro]at h ⊢
   have hv:v≠10:=h2 v (by simp)
   have hts:∀ t∈ts,t<b.length:=fun u hu=>h1 u (by simp[hu])
   have hvs:∀ v∈vs,v≠10:=fun u hu=>h2 u (by simp[hu])
   have hl':ts.length=vs.length:=by simpa using hl
   by_cases ht:t<0
   · rw [if_pos ht]at h ⊢
     by_cases hc : -1 - t=v
     · rw[if_pos hc]at h ⊢
       obtain⟨g1,g2,g3⟩:=z03n h hts hvs hl'
       refine⟨g1,fun p hp=>?_,fun k hk=>?_⟩
       · rw[List.zip_cons_cons]at hp
         rcases List.mem_cons.mp hp with rfl|hp
         · unfold zw1;rw[if_pos ht];exact hc.symm
         · exact g2 p hp
       · rw[g3 k hk,List.mem_cons]
         have:¬ (k:Int)=t:=by omega
         simp[this]
     · rw[if_neg hc]at h;simp at h
   · rw [if_neg ht]at h ⊢
     have htb:t.toNat<b.length:=by have:=h1 t (by simp);omega
     by_cases hc:b.getD t.toNat 0=10∨b.getD t.toNat 0=v
     · rw [if_pos hc]at h ⊢
       have hlen:(b.set t.toNat v).length=b.length:=by simp
       obtain⟨g1,g2,g3⟩:=z03n h (by rw[hlen];exact hts) hvs hl'
       refine⟨⟨g1.1.trans hlen,fun k hk=>?_⟩,fun p hp=>?_,fun k hk=>?_⟩
       · by_cases hkt:k=t.toNat
         · subst hkt
           have hbv:iAt b t.toNat=v:=hc.resolve_left hk
           rw[g1.2 _ (by rw[zmc htb,if_pos rfl];exact hv),zmc htb,if_pos rfl,hbv]
         · have e:iAt (b.set t.toNat v) k=iAt b k:=by rw[zmc htb,if_neg hkt]
           rw[g1.2 k (by rw[e];exact hk),e]
       · rw[List.zip_cons_cons]at hp
         rcases List.mem_cons.mp hp with rfl|hp
         · unfold zw1;rw[if_neg ht]
           have e:iAt (b.set t.toNat v) t.toNat=v:=by rw[zmc htb,if_pos rfl]
           rw[g1.2 _ (by rw[e];exact hv),e]
         · exact g2 p hp
       · rw[g3 k (by rw[hlen];exact hk),zmc htb,List.mem_cons]
         by_cases hkt:k=t.toNat
         · have:(k:Int)=t:=by omega
           simp[hkt,hv]
           omega
         · have:¬ (k:Int)=t:=by omega
           simp[hkt,this]
     · rw[if_neg hc]at h;simp at h
theorem z0el {c c':List Int} {p:Int×Int} (hg:zt4 c c') (h:zw1 c p) (hv:p.2≠10):zw1 c' p:=by
 unfold zw1 at h ⊢
 split
 · rename_i ht;rw[if_pos ht]at h;exact h
 · rename_i ht;rw[if_neg ht]at h;rw[hg.2 _ (by rw[h];exact hv),h]
theorem z0bf {v:Int} (h:vVal v=true):v≠10:=by have:=inR_iff.mp h;omega
theorem z06m:∀ {ts vs c s:List Int},ts.length=vs.length→(∀ p∈ts.zip vs,zw1 c p)→(∀ v∈vs,vVal v=true)→(∀ t∈ts,t<c.length)→runE (zhr c) ts s = .inr (s++vs)
 |[],[],c,s,_,_,_,_=>by simp[runE]
 |[],v::vs,c,s,h,_,_,_=>by simp at h
 |t::ts,[],c,s,h,_,_,_=>by simp at h
 | t::ts,v::vs,c,s,h,h1,h2,h3=>by
   have hp:=h1 (t,v) (by simp)
   have hv:=h2 v (by simp)
   have e:zhr c s t = .inr (s++[v]):=by
    unfold zhr z097
    unfold zw1 at hp
    simp only at hp
    by_cases ht:t<0
    · rw[if_pos ht]at hp
      rw[if_neg (by omega),←hp,if_pos hv]
    · rw[if_neg ht]at hp
      have hlt:=h3 t (by simp)
      have hp:c.getD t.toNat 0=v:=hp
      rw[if_pos (by omega),if_neg (by omega),hp,if_pos hv]
   simp only[runE,e]
   rw[z06m (by simpa using h) (fun p hp=>h1 p (by simp[hp])) (fun v hv=>h2 v (by simp[hv])) (fun t ht=>h3 t (by simp[ht]))]
   simp
theorem z05n {a f:z00} {c:List Int} (h1:a.1=f.1) (hl:a.2.1.length=f.2.1.length) (hz:∀ p∈a.2.1.zip f.2.1,zw1 c p) (hv:∀ v∈f.2.1,vVal v=true) (ht:∀ t∈a.2.1,t<c.length):zaa a c=true∧inst a c=f:=by
 have:=z06m (s:=[]) hl hz hv ht
 unfold zaa inst
 rw[this,List.nil_append,h1]
 exact⟨rfl,rfl⟩
theorem z010 {fs:List z00} {w:List Int→List (List Int)} {a:z00} {b c:List Int}:∀ {l:List z00} {out:List (List Int)},c∈l.foldl (zot fs w a b) out→c∈out∨∃ f∈l,a.1=f.1∧(fitP a.2.1 f.2.1 b).2=true∧c∈w (fitP a.2.1 f.2.1 b).1
 |[],out,h=>.inl h
 | f::l,out,h=>by
   rw[List.foldl_cons]at h
   rcases z010 h with h|⟨g,hg,h⟩
   · unfold zot at h
     split at h
     · rename_i hc
       rcases List.mem_append.mp h with h|h
       · exact .inl h
       · exact .inr ⟨f,by simp,hc.1,hc.2,h⟩
     · exact .inl h
   · exact .inr ⟨g,by simp[hg],h⟩
theorem z0a1 {fs:List z00} (hv:∀ f∈fs,∀ v∈f.2.1,vVal v=true):∀ {ats:List z00} {b c:List Int},c∈walk fs ats b→WOk fs ats→b.length=5→
  zt4 b c∧(∀ a∈ats,zaa a c=true∧inst a c∈fs)∧∀ k:Nat,k<5→(iAt c k≠10↔iAt b k≠10∨∃ a∈ats,(k:Int)∈a.2.1)
 | [],b,c,h,_,_=>by
   have:c=b:=by simpa [walk]using h
   subst this
   exact⟨zrx _,by simp,by simp⟩
 | a::ats,b,c,h,hw,hb=>by
   rcases z010 (show c∈fs.foldl (zot fs (walk fs ats) a b) [] from h)with h|⟨f,hf,h1,h2,h3⟩
   · simp at h
   have hrow:=hw.row a (by simp)
   have hlen:=hw.fit a (by simp) f hf h1
   obtain⟨g1,g2,g3⟩:=z03n h2 (fun t ht=>by have:=(hrow.2 t ht).2;omega) (fun v hv'=>z0bf (hv f hf v hv')) hlen
   obtain⟨k1,k2,k3⟩:=z0a1 hv h3 hw.tail (by rw[zh1];exact hb)
   have hcl:c.length=5:=by rw[k1.1,zh1];exact hb
   refine⟨z01t g1 k1,fun a' ha=>?_,fun k hk=>?_⟩
   · rcases List.mem_cons.mp ha with rfl|ha
     · obtain⟨m1,m2⟩:=z05n (c:=c) h1 hlen (fun p hp=>z0el k1 (g2 p hp) (z0bf (hv f hf _ (List.of_mem_zip hp).2))) (hv f hf) (fun t ht=>by have:=(hrow.2 t ht).2;omega)
       exact⟨m1,m2 ▸ hf⟩
     · exact k2 a' ha
   · rw[k3 k hk,g3 k (by omega)]
     simp only[List.mem_cons,exists_eq_or_imp,or_assoc]
theorem z090 {x:z09} (h:z3a x=true):∀ f∈x.2.1,∀ v∈f.2.1,vVal v=true:=fun f hf=>(z1p (z57 h hf)).2.2.2.2.2
theorem mem_vars {ats:List z00} {k:Nat}:(k:Int)∈vars ats↔∃ a∈ats,(k:Int)∈a.2.1:=by
 unfold vars
 rw[mem_sset,List.mem_filter,List.mem_flatMap]
 simp
theorem z098 {x:z09} {d:TDep} {b:List Int} (h:b∈z95 x d.1):b.length=5∧zxn d b=true∧zoz x d b=true:=by
 have hb:=zjr h
 unfold z95 at h
 split at h
 · rename_i hm
   have hw:=(zs3 hm).1
   have hx:z3a x=true:=by unfold mOk at hm;simp only[Bool.and_eq_true]at hm;exact hm.2.1
   rcases zze h with h|h
   · simp at h
   obtain⟨_,h2,h3⟩:=z0a1 (z090 hx) h hw rfl
   refine⟨hb,?_,?_⟩
   · unfold zxn
     refine List.all_eq_true.mpr fun k hk=>?_
     have hk:k<5:=by rw[hb]at hk;exact List.mem_range.mp hk
     have e:=h3 k hk
     have hbl:iAt zbf k=10:=by
      rcases k with _|_|_|_|_|k<;>first|rfl|omega
     rw[←mem_vars]at e
     simp only[hbl,ne_eq,not_true,false_or]at e
     by_cases hm:(k:Int)∈vars d.1
     · rw[decide_eq_true hm,show(iAt b k == 10)=false from beq_eq_false_iff_ne.mpr (e.mpr hm)];rfl
     · have:iAt b k=10:=Classical.byContradiction fun h'=>hm (e.mp h')
       rw[decide_eq_false hm,this];rfl
   · unfold zoz
     refine List.all_eq_true.mpr fun a ha=>?_
     obtain⟨m1,m2⟩:=h2 a ha
     rw[m1,decide_eq_true m2];rfl
 · simp at h
theorem z083 {x y:z09} {d:TDep} {b:List Int} (hxy:∀ f∈x.2.1,f∈y.2.1) (h:zoz x d b=true):zoz y d b=true:=by
 unfold zoz at h ⊢
 refine List.all_eq_true.mpr fun a ha=>?_
 have:=List.all_eq_true.mp h a ha
 rw[Bool.and_eq_true,decide_eq_true_eq]at this
 rw[this.1,decide_eq_true (hxy _ this.2)];rfl
theorem z01g {b:List Int}:∀ {ts s s':List Int},runE (zhr b) ts s = .inr s'→s'=s++ts.map (fun t=>if 0≤t then iAt b t.toNat else -1 - t)∧(∀ t∈ts,vVal (if 0≤t then iAt b t.toNat else -1 - t)=true)
 |[],s,s',h=>by simp only[runE,Sum.inr.injEq]at h;subst h;simp
 | t::ts,s,s',h=>by
   simp only[runE]at h
   cases e:zhr b s t with
   |inl _=>rw[e]at h;simp at h
   | inr s1=>
     rw[e]at h
     obtain⟨h1,h2⟩:=z01g h
     have h3:s1=s++[if 0≤t then iAt b t.toNat else -1 - t]∧vVal (if 0≤t then iAt b t.toNat else -1 - t)=true:=by
      unfold zhr z097 at e
      by_cases ht:0≤t
      · rw [if_pos ht]at e ⊢
        by_cases hl:(b.length:Int)≤t
        · rw[if_pos hl]at e;simp at e
        · rw[if_neg hl]at e
          by_cases hv:vVal (b.getD t.toNat 0)=true
          · rw[if_pos hv]at e
            simp only[Sum.inr.injEq]at e
            exact⟨e.symm,hv⟩
          · rw[if_neg hv]at e;simp at e
      · rw[if_neg ht]at e ⊢
        by_cases hv:vVal (-1 - t)=true
        · rw[if_pos hv]at e
          simp only[Sum.inr.injEq]at e
          exact⟨e.symm,hv⟩
        · rw[if_neg hv]at e;simp at e
     refine⟨by rw[h1,h3.1];simp,fun u hu=>?_⟩
     rcases List.mem_cons.mp hu with rfl|hu
     · exact h3.2
     · exact h2 u hu
theorem z0hk {a:z00} {b:List Int} (h:zaa a b=true):(inst a b).1=a.1∧(inst a b).2.1=a.2.1.map (fun t=>if 0≤t then iAt b t.toNat else -1 - t)∧∀ t∈a.2.1,vVal (if 0≤t then iAt b t.toNat else -1 - t)=true:=by
 unfold zaa at h
 unfold inst
 cases e:runE (zhr b) a.2.1 []with
 |inl r=>rw[e]at h;simp at h
 | inr s=>
   obtain⟨h1,h2⟩:=z01g e
   exact⟨rfl,by simpa using h1,h2⟩
theorem zrm {x:z09} {f:z00} (hf:f∈x.2.1) {v:Int} (hv:v∈f.2.1) (hn:z8c v=true):z4v v<zjj x:=by
 have hr:=z034 x
 have hk:z4v v∈nulI x:=by
  unfold nulI
  rw[mem_sset,List.mem_flatMap]
  refine⟨f,hf,mem_nulls.mpr ?_⟩
  have:=isNul_iff.mp hn
  have e:z4v v = -1 - v:=by unfold z4v;rw[if_pos hn]
  rw[e]
  exact⟨by omega,by omega,by rw[show -1 - (-1 - v)=v by omega];exact hv⟩
 have:=nextN_le (x:=x) (n:=(zjj x).toNat) |>.mp (by omega) _ hk
 omega
theorem z06f {x:z09} {d:TDep} {b:List Int} (hF:zoz x d b=true) {k:Nat} (hk:(k:Int)∈vars d.1):vVal (iAt b k)=true∧(z8c (iAt b k)=true→z4v (iAt b k)<zjj x):=by
 obtain⟨a,ha,hka⟩:=mem_vars.mp hk
 have:=List.all_eq_true.mp hF a ha
 rw[Bool.and_eq_true,decide_eq_true_eq]at this
 obtain⟨_,h2,h3⟩:=z0hk this.1
 have e:(if (0:Int)≤(k:Int)then iAt b (k:Int).toNat else -1 - (k:Int))=iAt b k:=by rw[if_pos (by omega),Int.toNat_natCast]
 have h4:=h3 _ hka
 rw[e]at h4
 refine⟨h4,fun hn=>zrm this.2 ?_ hn⟩
 rw[h2]
 exact List.mem_map.mpr ⟨_,hka,e⟩
theorem z02u {m:Int} (h:0≤m):maxI m 0=m:=by unfold maxI;split<;>omega
theorem z0ho {m n:Int}:m≤maxI m n:=by unfold maxI;split<;>omega
theorem z0f4 {dp:List Int} {m v:Int} (h:0≤m):zrq dp m v=maxI m (if z8c v then dp.getD (z4v v).toNat 0 else 0):=by
 unfold zrq
 have hn:=zhx v
 split
 · split
   · rfl
   · rename_i h2
     rw[List.getD_eq_getElem?_getD,List.getElem?_eq_none (by omega)]
     exact(z02u h).symm
 · exact(z02u h).symm
theorem zwz {dp:List Int}:∀ {l:List Int} {m:Int},0≤m→l.foldl (zrq dp) m=l.foldl (fun m v=>maxI m (if z8c v then dp.getD (z4v v).toNat 0 else 0)) m
 |[],m,_=>rfl
 | v::l,m,h=>by
   rw[List.foldl_cons,List.foldl_cons,z0f4 h]
   exact zwz (Int.le_trans h z0ho)
theorem z0dl {dp:List Int} {l:List Int}:l.foldl (zrq dp) 0+1=z8b dp l:=by
 rw[zwz (Int.le_refl 0),zo9 (g:=fun k=>dp.getD k.toNat 0) (Int.le_refl 0)]
 rfl
theorem z0eh (l m:List z05):∃ r,z1z (l++m)=z1z l++r:=by
 induction m generalizing l with
 |nil=>exact⟨[],by simp⟩
 | cons a m ih=>
   obtain⟨r,hr⟩:=ih (l++[a])
   rw[List.append_assoc,z8e,List.append_assoc]at hr
   exact⟨_,hr⟩
theorem z00g {out args:List Int} {n:Nat} (h:∀ d∈out,0≤d∧d≤n):0≤z8b out args∧z8b out args≤n+1:=by
 unfold z8b
 have h0:=zid (fun k=>out.getD k.toNat 0) (z2h args)
 have:mx (fun k=>out.getD k.toNat 0) (z2h args)≤n:=mx_le.mpr ⟨by omega,fun k _=>by
  by_cases hk:k.toNat<out.length
  · rw[z0s hk];exact(h _ (List.getElem_mem hk)).2
  · rw[List.getD_eq_getElem?_getD,List.getElem?_eq_none (by omega)];simp⟩
 omega
theorem z0fo (n:Nat):∀(l:List z05),l.length=n→∀ d∈z1z l,0≤d∧d≤l.length:=by
 induction n with
 |zero=>intro l hl;obtain rfl:=List.length_eq_zero_iff.mp hl;simp[z1z]
 | succ n ih0=>
   intro l0 hl d hd
   have hne:l0≠[]:=by intro e;rw[e]at hl;simp at hl
   obtain⟨l,t,rfl⟩:∃ l t,l0=l++[t]:=⟨_,_,(List.dropLast_concat_getLast hne).symm⟩
   have ih:=ih0 l (by simpa using hl)
   rw[z8e]at hd
   rw[List.length_append]
   simp only[List.length_cons,List.length_nil]
   rcases List.mem_append.mp hd with hd|hd
   · have:=ih d hd;omega
   · have e:d=z8b (z1z l) t.2.2.1:=by simpa using hd
     rw[e]
     have:=z00g (args:=t.2.2.1) ih
     omega
theorem z0fg (n:Nat):∀(l:List z05),l.length=n→n≤1000→l.foldl z02x []=z1z l:=by
 induction n with
 |zero=>intro l hl _;obtain rfl:=List.length_eq_zero_iff.mp hl;rfl
 | succ n ih0=>
   intro l0 hl h31
   have hne:l0≠[]:=by intro e;rw[e]at hl;simp at hl
   obtain⟨l,t,rfl⟩:∃ l t,l0=l++[t]:=⟨_,_,(List.dropLast_concat_getLast hne).symm⟩
   have hln:l.length=n:=by simpa using hl
   rw[List.foldl_append,ih0 l hln (by omega),z8e]
   simp only[List.foldl_cons,List.foldl_nil]
   unfold z02x
   rw[z0dl]
   have:=z00g (args:=t.2.2.1) (z0fo _ l rfl)
   rw[z1g (by omega) (by omega)]
theorem z00z {s:TSk} {t:z05} (hl:s.2.1.length≤30):zd5 s t (z8b (z1z s.2.1) t.2.2.1):=by
 have:=zpb (s:=s) (t:=t) hl
 rw[z0fg _ _ rfl (by simp;omega),z8e]at this
 have e:(z1z s.2.1++[z8b (z1z s.2.1) t.2.2.1]).getD s.2.1.length 0=z8b (z1z s.2.1) t.2.2.1:=by
  have hd:=z05a s.2.1
  rw[List.getD_eq_getElem?_getD,List.getElem?_append_right (by omega),hd]
  simp
 rw[e]at this
 exact this
def zps (s:TSk) (t:z05):TSk×Int×Bool:=if t∈s.2.1 then(s,-1 - zbc s.2.1 t,true)else if s.2.1.length=30∨8<z8b (z1z s.2.1) t.2.2.1 then(s,0,false)else((s.1,(s.2.1++[t],s.2.2)),-1 - (s.2.1.length:Int),true)
theorem z01u {s:TSk} {t:z05} (hl:s.2.1.length≤30):zah s t (zps s t).1 (zps s t).2.1 (zps s t).2.2:=by
 by_cases hm:t∈s.2.1
 · have e:zps s t=(s,-1 - zbc s.2.1 t,true):=by unfold zps;rw[if_pos hm]
   rw[e]
   exact z9d hl _ _ _ (fun _=>⟨rfl,rfl,rfl⟩) (fun h=>absurd hm h)
 · have hy:=z00z (s:=s) (t:=t) hl
   by_cases h30:s.2.1.length=30
   · have e:zps s t=(s,0,false):=by unfold zps;rw[if_neg hm,if_pos (.inl h30)]
     rw[e]
     exact z9d hl _ _ _ (fun h=>absurd h hm) (fun _=>lenI fun _=>z3i (fun _=>rfl) (fun h=>by omega))
   · by_cases h8:z8b (z1z s.2.1) t.2.2.1 > 8
     · have e:zps s t=(s,0,false):=by unfold zps;rw[if_neg hm,if_pos (.inr h8)]
       rw[e]
       exact z9d hl _ _ _ (fun h=>absurd h hm) (fun _=>lenI fun _=>z3i (fun h=>by omega) (fun _=>⟨_,hy,z0f (fun _=>rfl) (fun h=>absurd h8 h)⟩))
     · have e:zps s t=((s.1,(s.2.1++[t],s.2.2)),-1 - (s.2.1.length:Int),true):=by unfold zps;rw[if_neg hm,if_neg (by rintro (h|h);exact h30 h;exact h8 h)]
       rw[e]
       refine z9d hl _ _ _ (fun h=>absurd h hm) (fun _=>lenI fun _=>z3i (fun h=>by omega) (fun _=>⟨_,hy,z0f (fun h=>absurd h h8) (fun _=>⟨trivial,trivial,by simp only[maxL,List.length_nil];omega,by simp only[maxL,List.length_append,List.length_cons,List.length_nil];omega,lenI fun _=>⟨-1 - (s.2.1.length:Int),?_,rfl⟩⟩)⟩))
       have e:w64 ((List.length ((([]:List z05)++s.2.1)++([t]:List z05)):Int) - (1:Int))=(s.2.1.length:Int):=by
        rw[z1g]<;>simp<;>omega
       rw[e]
       exact zi4 (by omega) (by omega)
theorem z050 {l m:List z05} {k:Nat} (hk:k<l.length):z8a (l++m) k=z8a l k:=by
 have e:zfe (l++m) k=zfe l k:=by rw[z6e (by rw[List.length_append];omega),z6e hk,List.getElem_append_left hk]
 unfold z8a
 rw[e,List.take_append_of_le_length (by omega)]
theorem z0a2 {ts:List z05} {t:z05} (h:areT ts=true) (hl:ts.length<30) (h1:inR t.1 0 4=true) (h2:inR t.2.1 0 4=true) (h3:t.2.2.1.length≤5) (h4:t.2.2.1.all (zb8 ts.length)=true) (h5:t∉ts) (h8:z8b (z1z ts) t.2.2.1≤8):areT (ts++[t])=true:=by
 unfold areT at h ⊢
 simp only[Bool.and_eq_true,decide_eq_true_eq]at h ⊢
 obtain⟨⟨_,g2⟩,g3⟩:=h
 refine⟨⟨by simp;omega,List.all_eq_true.mpr fun k hk=>?_⟩,?_⟩
 · have hk:k<ts.length+1:=by simpa using hk
   by_cases hkl:k<ts.length
   · rw[z050 hkl];exact List.all_eq_true.mp g2 k (List.mem_range.mpr hkl)
   · obtain rfl:k=ts.length:=by omega
     unfold z8a
     have e:zfe (ts++[t]) ts.length=t:=by rw[z6e (by simp)];simp
     rw[e,h1,h2,h4,decide_eq_true h3,List.take_append_of_le_length (Nat.le_refl _),List.take_length,zdb,decide_eq_false h5];rfl
 · rw[z8e,List.all_append,g3]
   simpa using h8
theorem z0ap {d:TDep} {i:Int} {b:List Int}:∀ {l:List Int} {s:List z05×List Int},∃ r,(l.foldl (hdG d i b) s).1=s.1++r
 |[],s=>⟨[],by simp⟩
 | v::l,s=>by
   rw[List.foldl_cons]
   obtain⟨r,hr⟩:=z0ap (d:=d) (i:=i) (b:=b) (l:=l) (s:=hdG d i b s v)
   rw[hr]
   unfold hdG
   split
   · exact⟨r,rfl⟩
   · exact⟨_,by rw[List.append_assoc]⟩
def zkn (d:TDep) (i:Int) (b:List Int) (st:List z05×List Int) (v:Int):Unit ⊕ (List z05×List Int):=
 if tmOf d i b v∈st.1 then .inr (hdG d i b st v)else if st.1.length=30∨8<z8b (z1z st.1) (z7g d b)then .inl ()else .inr (hdG d i b st v)
theorem zug {d:TDep} {i:Int} {b:List Int} {st st':List z05×List Int} {v:Int} (h:zkn d i b st v = .inr st'):st'=hdG d i b st v:=by
 unfold zkn at h
 split at h
 · exact(Sum.inr.inj h).symm
 · split at h
   · cases h
   · exact(Sum.inr.inj h).symm
theorem zs0 {d:TDep} {i:Int} {b:List Int}:∀ {l:List Int} {st st':List z05×List Int},runE (zkn d i b) l st = .inr st'→st'=l.foldl (hdG d i b) st
 |[],st,st',h=>by simp only[runE,Sum.inr.injEq]at h;exact h.symm
 | v::l,st,st',h=>by
   simp only[runE]at h
   cases e:zkn d i b st v with
   |inl _=>rw[e]at h;simp at h
   |inr s1=>rw[e]at h;rw[List.foldl_cons,←zug e];exact zs0 h
theorem zyb {d:TDep} {i:Int} {b:List Int} (hi:inR i 0 4=true) (hfr:(z7g d b).length≤5):∀ {l:List Int} {st st':List z05×List Int},(∀ v∈l,inR v 0 4=true)→(z7g d b).all (zb8 st.1.length)=true→areT st.1=true→runE (zkn d i b) l st = .inr st'→areT st'.1=true
 |[],st,st',_,_,h,hr=>by simp only[runE,Sum.inr.injEq]at hr;subst hr;exact h
 | v::l,st,st',hv,ha,h,hr=>by
   simp only[runE]at hr
   cases e:zkn d i b st v with
   |inl _=>rw[e]at hr;simp at hr
   | inr s1=>
     rw[e]at hr
     have e1:=zug e
     have hlt:=zea h
     have key:areT s1.1=true∧st.1.length≤s1.1.length:=by
      unfold zkn at e
      by_cases hm:tmOf d i b v∈st.1
      · have:s1.1=st.1:=by rw[e1];unfold hdG;rw[if_pos hm]
        rw[this];exact⟨h,Nat.le_refl _⟩
      · rw[if_neg hm]at e
        by_cases hc:st.1.length=30∨8<z8b (z1z st.1) (z7g d b)
        · rw[if_pos hc]at e;cases e
        · have:s1.1=st.1++[tmOf d i b v]:=by rw[e1];unfold hdG;rw[if_neg hm]
          rw[this]
          have h30:¬ st.1.length=30:=fun h'=>hc (.inl h')
          have h8:¬ 8<z8b (z1z st.1) (z7g d b):=fun h'=>hc (.inr h')
          exact⟨z0a2 h (by omega) hi (hv v (by simp)) hfr ha hm (by unfold tmOf;simp only;omega),by simp⟩
     refine zyb hi hfr (fun u hu=>hv u (by simp[hu])) (List.all_eq_true.mpr fun w hw=>?_) key.1 hr
     have:=List.all_eq_true.mp ha w hw
     unfold zb8 at this ⊢
     rw[Bool.and_eq_true]at this
     rw[this.1,Bool.true_and]
     have h2:=this.2
     cases hn:z8c w with
     |false=>rfl
     | true=>
       rw[hn,Bool.true_and]at h2
       have h2:¬ (st.1.length:Int)≤z4v w:=by simpa using h2
       have:¬ (s1.1.length:Int)≤z4v w:=by omega
       simp[this]
theorem z05p {d:TDep} {i:Int} {b:List Int} {r:Unit}:∀ {l:List Int} {st:List z05×List Int},runE (zkn d i b) l st = .inl r→areT (l.foldl (hdG d i b) st).1=false
 |[],st,h=>by simp[runE]at h
 | v::l,st,h=>by
   simp only[runE]at h
   rw[List.foldl_cons]
   cases e:zkn d i b st v with
   |inr s1=>rw[e]at h;rw[←zug e];exact z05p h
   | inl _=>
     obtain⟨r',hr⟩:=z0ap (d:=d) (i:=i) (b:=b) (l:=l) (s:=hdG d i b st v)
     rw[hr]
     unfold zkn at e
     by_cases hm:tmOf d i b v∈st.1
     · rw[if_pos hm]at e;cases e
     · rw [if_neg hm]at e
       by_cases hc:st.1.length=30∨8<z8b (z1z st.1) (z7g d b)
       · have:(hdG d i b st v).1=st.1++[tmOf d i b v]:=by unfold hdG;rw[if_neg hm]
         rw[this,Bool.eq_false_iff]
         intro ha
         rcases hc with hc|hc
         · have:=zea ha
           simp only[List.length_append,List.length_cons,List.length_nil]at this
           omega
         · unfold areT at ha
           simp only[Bool.and_eq_true]at ha
           obtain⟨r2,hr2⟩:=z0eh (st.1++[tmOf d i b v]) r'
           rw[hr2,z8e]at ha
           have:=List.all_eq_true.mp ha.2 (z8b (z1z st.1) (tmOf d i b v).2.2.1) (by simp)
           have:z8b (z1z st.1) (z7g d b)≤8:=of_decide_eq_true this
           omega
       · rw[if_neg hc]at e;cases e
theorem zqy {d:TDep} {i:Int} {b:List Int}:∀ {l:List Int} {st:List z05×List Int},(∀ v∈l,0≤v∧v<5)→st.2.length=5→
  (l.foldl (hdG d i b) st).2.length=5∧∀ k:Nat,k<5→((k:Int)∈l→∃ n:Int,iAt (l.foldl (hdG d i b) st).2 k = -1 - n∧0≤n∧n<((l.foldl (hdG d i b) st).1.length:Int))∧((k:Int)∉l→iAt (l.foldl (hdG d i b) st).2 k=iAt st.2 k)
 |[],st,_,h5=>⟨h5,fun k _=>⟨by simp,by simp⟩⟩
 | v::l,st,hv,h5=>by
   rw[List.foldl_cons]
   have hvr:=hv v (by simp)
   have hset:∃ n:Int,(hdG d i b st v).2=st.2.set v.toNat (-1 - n)∧0≤n∧n<((hdG d i b st v).1.length:Int):=by
    unfold hdG
    split
    · rename_i hm
      have:=zu5 hm
      exact⟨_,rfl,this.1,this.2⟩
    · exact⟨_,rfl,by omega,by simp;omega⟩
   obtain⟨n,e1,e2,e3⟩:=hset
   have h5':(hdG d i b st v).2.length=5:=by rw[zys];exact h5
   obtain⟨g1,g2⟩:=zqy (d:=d) (i:=i) (b:=b) (l:=l) (st:=hdG d i b st v) (fun u hu=>hv u (by simp[hu])) h5'
   have hge:=z06x (d:=d) (i:=i) (b:=b) (l:=l) (s:=hdG d i b st v)
   refine⟨g1,fun k hk=>?_⟩
   obtain⟨q1,q2⟩:=g2 k hk
   refine⟨fun hm=>?_,fun hm=>?_⟩
   · by_cases hkl:(k:Int)∈l
     · exact q1 hkl
     · have hkv:(k:Int)=v:=(List.mem_cons.mp hm).resolve_right hkl
       refine⟨n,?_,e2,by omega⟩
       rw[q2 hkl,e1,zmc (by omega),if_pos (by omega)]
   · have hkl:(k:Int)∉l:=fun h=>hm (by simp[h])
     have hkv:¬ (k:Int)=v:=fun h=>hm (by simp[h])
     rw[q2 hkl,e1,zmc (by omega),if_neg (by omega)]
def za3 (s:TSk) (d:TDep) (i:Int) (b:List Int):TSk:=((s.1.1,(facS (s.1.2.1++zam d (hdS s.2.1 d i b).2),())),((hdS s.2.1 d i b).1,()))
theorem zlw (d:TDep) (vs:List Int):zam d vs=d.2.1.map fun a=>inst a vs:=by unfold zam;rw[zjp,List.nil_append]
theorem z0dr {l:List TRel} {fs:List z00} (h1:zc2 l=true) (h2:asc fs) (h3:fs.length≤30) (h4:∀ f∈fs,zil l f=true∧(z94 l f.1=true→nulF f=[])):z3a (l,(fs,()))=true:=by
 rw[zsk (x:=(l,(fs,()))) fun i hi=>?_]
 · simp only[h1,Bool.true_and];exact decide_eq_true h3
 · have hi:i<fs.length:=hi
   have hf:=h4 _ (List.getElem_mem hi)
   rw[zb3 (x:=(l,(fs,()))) hi hf.1 (fun h0=>by simp only;rw[z2e (by omega)];exact h2 _ _ hi (by omega))]
   simp only
   cases hs:z94 l fs[i].1 with
   |false=>rfl
   |true=>rw[hf.2 hs];rfl
theorem z0cw {x:z09} (h:z3a x=true) {f:z00} (hf:f∈x.2.1) (hs:z94 x.1 f.1=true):nulF f=[]:=by
 unfold z3a at h
 rw[Bool.and_eq_true]at h
 obtain⟨i,hi,rfl⟩:=List.mem_iff_getElem.mp hf
 have:=List.all_eq_true.mp h.2 i (List.mem_range.mpr hi)
 unfold z8k at this
 rw[Bool.and_eq_true,z2e hi,hs,Bool.true_and]at this
 have h2:=this.2
 simp at h2
 exact h2
theorem z0hu {a:z00} {c:List Int} (h:∀ t∈a.2.1,vVal (if 0≤t then iAt c t.toNat else -1 - t)=true) (ht:∀ t∈a.2.1,t<c.length):zaa a c=true∧inst a c=(a.1,(a.2.1.map (fun t=>if 0≤t then iAt c t.toNat else -1 - t),())):=by
 refine z05n (a:=a) (c:=c) (f:=(a.1,(a.2.1.map (fun t=>if 0≤t then iAt c t.toNat else -1 - t),()))) rfl (by simp) (fun p hp=>?_) (fun v hv=>?_) ht
 · simp only at hp
   obtain⟨j,hj,rfl⟩:=List.mem_iff_getElem.mp hp
   rw[List.getElem_zip,List.getElem_map]
   unfold zw1
   simp only
   split
   · rename_i h0;rw[if_neg (by omega)]
   · rename_i h0;rw[if_pos (by omega)]
 · obtain⟨t,ht',rfl⟩:=List.mem_map.mp hv
   exact h t ht'
structure FireOk (s:TSk) (ds:List TDep) (d:TDep) (i:Nat) (b:List Int):Prop where
 sk:vSk s=true
 pl:z4j s.1.1 ds=true
 at_:ds[i]? = some d
 b5:b.length=5
 tB:zxn d b=true
 tF:zoz s.1 d b=true
theorem zbk {l:List TRel} {ds:List TDep} (h:z4j l ds=true) {d:TDep} (hd:d∈ds):vDep l d=true∧d.2.2.1=false∧ds.length≤5:=by
 unfold z4j at h
 rw[Bool.and_eq_true]at h
 refine⟨z02k h.1 hd,?_,zn1 h.1⟩
 cases he:d.2.2.1 with
 |false=>rfl
 | true=>
   have:(ds.any fun d=>d.2.2.1)=true:=List.any_eq_true.mpr ⟨d,hd,he⟩
   rw[this]at h;simp at h
theorem z07y {l:List TRel} {d:TDep} (h:vDep l d=true) (he:d.2.2.1=false):∀ a∈d.2.1,z6s l a=true∧z94 l a.1=false:=by
 unfold vDep at h
 rw[he]at h
 simp only[Bool.and_eq_true,Bool.false_eq_true,if_false]at h
 intro a ha
 have:=List.all_eq_true.mp h.2.1.1.1 a ha
 rw[Bool.and_eq_true]at this
 exact⟨this.1,by simpa using this.2⟩
theorem z07w {l:List Int} (p:Int→Bool) (h:srt l):srt (l.filter p):=List.Pairwise.filter p h
theorem z06k {l:List TRel} {d:TDep} (h:vDep l d=true):(frV d).length≤5:=by
 have hs:=z8h h
 refine z00j (a:=0) (n:=5) (z07w _ (zmv _)) fun y hy=>?_
 have:=zjw hs.2.2.2.2.1 (List.mem_filter.mp hy).1
 omega
theorem z087 (d:TDep) (b:List Int):z7g d b=(frV d).map fun v=>b.getD v.toNat 0:=by unfold z7g;rw[zjp,List.nil_append]
section
variable {s:TSk} {ds:List TDep} {d:TDep} {i:Nat} {b:List Int}
theorem FireOk.lt (h:FireOk s ds d i b):i<ds.length∧d∈ds:=by
 have:=h.at_
 obtain⟨hi,e⟩:=List.getElem?_eq_some_iff.mp this
 exact⟨hi,e ▸ List.getElem_mem hi⟩
theorem FireOk.args (h:FireOk s ds d i b):(z7g d b).length≤5∧(z7g d b).all (zb8 s.2.1.length)=true:=by
 obtain⟨hd,_,_⟩:=zbk h.pl h.lt.2
 have hs:=z8h hd
 rw[z087]
 refine⟨by rw[List.length_map];exact z06k hd,List.all_eq_true.mpr fun w hw=>?_⟩
 obtain⟨v,hv,rfl⟩:=List.mem_map.mp hw
 have h1:=List.mem_filter.mp hv
 have h2:v∈vars d.1:=of_decide_eq_true h1.2
 have h3:=zjw hs.2.2.1 h2
 have:=z06f (k:=v.toNat) h.tF (by rw[show((v.toNat:Nat):Int)=v by omega];exact h2)
 have hn:=(z6b h.sk).2.1
 show zb8 s.2.1.length (iAt b v.toNat)=true
 unfold zb8
 rw[this.1,Bool.true_and]
 cases hz:z8c (iAt b v.toNat)with
 |false=>rfl
 | true=>
   have:=this.2 hz
   have:¬ (s.2.1.length:Int)≤z4v (iAt b v.toNat):=by omega
   simp[this]
theorem FireOk.hdLen (h:FireOk s ds d i b):(hdS s.2.1 d i b).2.length=5∧(hdS s.2.1 d i b).1.length≤36∧s.2.1.length≤(hdS s.2.1 d i b).1.length:=by
 obtain⟨hd,_,_⟩:=zbk h.pl h.lt.2
 have h6:=z0gq hd
 have ht:=zea (z6b h.sk).2.2
 have h1:=(zqy (d:=d) (i:=i) (b:=b) (l:=exV d) (st:=(s.2.1,b)) (fun v hv=>zg3 hd hv) h.b5).1
 have h2:=zd0 (l:=exV d) (g:=hdG d i b) (s:=(s.2.1,b)) (μ:=fun st=>st.1.length) (c:=1) fun st v _=>zy6 d i b st v
 have h3:=z06x (d:=d) (i:=i) (b:=b) (l:=exV d) (s:=(s.2.1,b))
 simp only at h2 h3
 exact⟨h1,by unfold hdS;omega,h3⟩
theorem FireOk.vals (h:FireOk s ds d i b) {a:z00} (ha:a∈d.2.1) {t:Int} (ht:t∈a.2.1) :
  vVal (if 0≤t then iAt (hdS s.2.1 d i b).2 t.toNat else -1 - t)=true∧(z8c (if 0≤t then iAt (hdS s.2.1 d i b).2 t.toNat else -1 - t)=true→z4v (if 0≤t then iAt (hdS s.2.1 d i b).2 t.toNat else -1 - t)<(hdS s.2.1 d i b).1.length):=by
 obtain⟨hd,he,_⟩:=zbk h.pl h.lt.2
 have hs:=z8h hd
 have hrow:=zr2 (hs.2.2.2.2.1 a ha)
 have htr:=hrow.2 t ht
 obtain⟨_,hl2,hl3⟩:=h.hdLen
 by_cases h0:0≤t
 · rw[if_pos h0]
   obtain⟨g1,g2⟩:=(zqy (d:=d) (i:=i) (b:=b) (l:=exV d) (st:=(s.2.1,b)) (fun v hv=>zg3 hd hv) h.b5).2 t.toNat (by omega)
   rw[show((t.toNat:Nat):Int)=t by omega]at g1 g2
   by_cases hx:t∈exV d
   · obtain⟨n,e1,e2,e3⟩:=g1 hx
     have e1:iAt (hdS s.2.1 d i b).2 t.toNat = -1 - n:=e1
     have e3:n<((hdS s.2.1 d i b).1.length:Int):=e3
     rw[e1]
     have hn:z8c (-1 - n)=true:=isNul_iff.mpr ⟨by omega,by omega⟩
     refine⟨inR_iff.mpr ⟨by omega,by omega⟩,fun _=>?_⟩
     unfold z4v;rw[if_pos hn];omega
   · have e1:iAt (hdS s.2.1 d i b).2 t.toNat=iAt b t.toNat:=g2 hx
     rw[e1]
     have htv:t∈vars d.2.1:=by
      rw[show t=((t.toNat:Nat):Int) by omega,mem_vars]
      exact⟨a,ha,by rw[show((t.toNat:Nat):Int)=t by omega];exact ht⟩
     have htb:t∈vars d.1:=by
      refine Classical.byContradiction fun hn=>hx ?_
      unfold exV
      exact List.mem_filter.mpr ⟨htv,by simp[hn]⟩
     have:=z06f (k:=t.toNat) h.tF (by rw[show((t.toNat:Nat):Int)=t by omega];exact htb)
     have hn:=(z6b h.sk).2.1
     exact⟨this.1,fun hz=>by have:=this.2 hz;omega⟩
 · rw[if_neg h0]
   refine⟨inR_iff.mpr ⟨by omega,by omega⟩,fun hn=>?_⟩
   have:=isNul_iff.mp hn
   omega
theorem FireOk.head (h:FireOk s ds d i b) {f:z00} (hf:f∈zam d (hdS s.2.1 d i b).2):zil s.1.1 f=true∧(z94 s.1.1 f.1=true→nulF f=[])∧(∀ v∈f.2.1,z8c v=true→z4v v<(hdS s.2.1 d i b).1.length)∧f.2.1.length≤3:=by
 obtain⟨hd,he,_⟩:=zbk h.pl h.lt.2
 rw[zlw]at hf
 obtain⟨a,ha,rfl⟩:=List.mem_map.mp hf
 obtain⟨hva,hsrc⟩:=z07y hd he a ha
 have hrow:=zr2 hva
 obtain⟨hl1,_,_⟩:=h.hdLen
 obtain⟨_,e⟩:=z0hu (a:=a) (c:=(hdS s.2.1 d i b).2) (fun t ht=>(h.vals ha ht).1) (fun t ht=>by have:=(hrow.2 t ht).2;omega)
 rw[e]
 refine⟨?_,fun hs=>?_,fun v hv hn=>?_,by simpa using hrow.1⟩
 · unfold zil vRow
   have hva':=hva
   unfold z6s vRow at hva'
   simp only[Bool.and_eq_true]at hva' ⊢
   refine⟨⟨⟨hva'.1.1.1,hva'.1.1.2⟩,by simpa using hva'.1.2⟩,List.all_eq_true.mpr fun v hv=>?_⟩
   obtain⟨t,ht,rfl⟩:=List.mem_map.mp hv
   exact(h.vals ha ht).1
 · rw[hsrc]at hs;cases hs
 · obtain⟨t,ht,rfl⟩:=List.mem_map.mp hv
   exact(h.vals ha ht).2 hn
theorem FireOk.inst (h:FireOk s ds d i b):z3a (za3 s d i b).1=decide ((za3 s d i b).1.2.1.length≤30)∧zjj (za3 s d i b).1≤(hdS s.2.1 d i b).1.length∧∀ f∈(za3 s d i b).1.2.1,f.2.1.length≤3:=by
 have hx:=(z5x h.sk).1
 have hmem:∀ f∈(za3 s d i b).1.2.1,f∈s.1.2.1∨f∈zam d (hdS s.2.1 d i b).2:=fun f hf=>List.mem_append.mp (facS_mem.mp hf)
 refine⟨?_,?_,fun f hf=>?_⟩
 · by_cases hl:(za3 s d i b).1.2.1.length≤30
   · rw[decide_eq_true hl]
     refine z0dr (zk6 hx) (z05w _) hl fun f hf=>?_
     rcases hmem f hf with hf|hf
     · exact⟨z57 hx hf,z0cw hx hf⟩
     · exact⟨(h.head hf).1,(h.head hf).2.1⟩
   · rw[decide_eq_false hl,Bool.eq_false_iff]
     exact fun h'=>hl (z41 h')
 · refine nextN_le.mpr fun k hk=>?_
   unfold nulI at hk
   rw[mem_sset,List.mem_flatMap]at hk
   obtain⟨f,hf,hk⟩:=hk
   obtain⟨k1,k2,k3⟩:=mem_nulls.mp hk
   have hn:z8c (-1 - k)=true:=isNul_iff.mpr ⟨by omega,by omega⟩
   have hno:z4v (-1 - k)=k:=by unfold z4v;rw[if_pos hn];omega
   rcases hmem f hf with hf|hf
   · have h1:=zrm hf k3 hn
     have h2:=(z6b h.sk).2.1
     have h3:=h.hdLen.2.2
     omega
   · have:=(h.head hf).2.2.1 _ k3 hn
     omega
 · rcases hmem f hf with hf|hf
   · exact(z1p (z57 hx hf)).2.2.2.2.1
   · exact(h.head hf).2.2.2
theorem FireOk.next (h:FireOk s ds d i b):vSk (za3 s d i b)=(areT (hdS s.2.1 d i b).1&&decide ((za3 s d i b).1.2.1.length≤30)):=by
 obtain⟨h1,h2,_⟩:=h.inst
 unfold vSk
 have e:(za3 s d i b).2.1=(hdS s.2.1 d i b).1:=rfl
 rw[h1,e,decide_eq_true h2,Bool.and_true,Bool.and_comm]
theorem FireOk.run (h:FireOk s ds d i b):(∀ st,runE (zkn d i b) (exV d) (s.2.1,b) = .inr st→st=hdS s.2.1 d i b∧areT (hdS s.2.1 d i b).1=true)∧(∀ r,runE (zkn d i b) (exV d) (s.2.1,b) = .inl r→areT (hdS s.2.1 d i b).1=false):=by
 obtain⟨hd,_,h5⟩:=zbk h.pl h.lt.2
 have hi:=h.lt.1
 refine⟨fun st hr=>?_,fun r hr=>z05p hr⟩
 have e:=zs0 hr
 refine⟨e,?_⟩
 have:=zyb (inR_iff.mpr ⟨by omega,by omega⟩) h.args.1 (fun v hv=>by have:=zg3 hd hv;exact inR_iff.mpr ⟨by omega,by omega⟩) h.args.2 (z6b h.sk).2.2 hr
 rw[e]at this
 exact this
end
def ztj (s:TSk) (d:TDep) (i:Nat) (b:List Int):TSk×Bool:=if areT (hdS s.2.1 d i b).1 then(za3 s d i b,decide ((za3 s d i b).1.2.1.length≤30))else(s,false)
section
variable {s:TSk} {ds:List TDep} {d:TDep} {i:Nat} {b:List Int}
theorem FireOk.res (h:FireOk s ds d i b):(ztj s d i b).2=vSk (za3 s d i b)∧(vSk (za3 s d i b)=true→(ztj s d i b).1=za3 s d i b):=by
 rw[h.next]
 unfold ztj
 cases areT (hdS s.2.1 d i b).1 with
 |true=>exact⟨rfl,fun _=>rfl⟩
 |false=>exact⟨rfl,fun h=>by cases h⟩
theorem FireOk.getD_ (h:FireOk s ds d i b):ds.getD (Int.toNat (i:Int)) zDep=d:=by
 rw[Int.toNat_natCast,List.getD_eq_getElem?_getD,h.at_];rfl
theorem z088 (h:FireOk s ds d i b):zo6 s ds i b (ztj s d i b).1 (ztj s d i b).2:=z08s _ _ _ _ _ _ (by
 unfold zw3
 obtain⟨hd,he,_⟩:=zbk h.pl h.lt.2
 have hs:=z8h hd
 have hil:=h.lt.1
 have hb:=h.b5
 have hts:=zea (z6b h.sk).2.2
 have hfl:=z06k hd
 have hx:=(z5x h.sk).1
 have hxl:=z41 hx
 rw[h.getD_]
 refine inI hil ⟨_,zcl (by omega) (by omega),?_⟩
 refine z2n (frV d) (fun s v=>s++[b.getD v.toNat 0]) [] (fun j s=>((j:Int),(s,()))) List.length 1 5 hfl (fun s v _=>by simp) ?_ ?_
 · intro j hj a X hs' hX
   have hv:=zjw hs.2.2.2.2.1 (List.mem_filter.mp (List.getElem_mem hj)).1
   refine lenI fun _=>bcI hj (inI hj ?_)
   simp only
   rw[getI hj,z03 (by omega)]
   exact⟨⟨by omega,by omega⟩,by simp only[maxL,List.length_cons,List.length_nil]at *;omega,hX⟩
 · intro X _
   have efr:(frV d).foldl (fun s v=>s++[b.getD v.toNat 0]) []=z7g d b:=rfl
   rw[efr]
   have hal:=h.args.1
   refine lenI fun _=>bcN ⟨by simp only[maxL,List.length_nil];omega,?_⟩
   refine inI hil ⟨_,z9b (by omega) (by omega),?_⟩
   simp only[List.nil_append]
   refine zen (exV d) (zkn d i b) (s.2.1,b) (fun j st=>((j:Int),(((([]:List TRel),(([]:List z00),())),(([]:List z05),())),((s.1,(st.1,())),(st.2,()))))) (KR:=fun _=>((s,(false,())):TSk×Bool×Unit)=((ztj s d i b).1,((ztj s d i b).2,()))) ?_ ?_ ?_
   · intro j hj st Y hr q1 q2
     have hv:=zg3 hd (List.getElem_mem hj)
     have e0:=zs0 hr
     have h5:st.2.length=5:=by
      rw[e0]
      exact(zqy (d:=d) (i:=i) (b:=b) (l:=(exV d).take j) (st:=(s.2.1,b)) (fun v hv=>zg3 hd (List.mem_of_mem_take hv)) hb).1
     have hta:areT st.1=true:=zyb (inR_iff.mpr ⟨by omega,by have:=(zbk h.pl h.lt.2).2.2;omega⟩) hal (fun v hv=>by have:=zg3 hd (List.mem_of_mem_take hv);exact inR_iff.mpr ⟨by omega,by omega⟩) h.args.2 (z6b h.sk).2.2 hr
     have htl:=zea hta
     refine lenI fun _=>bcI hj (inI hj ⟨trivial,trivial,by simp only[maxL,List.length_nil];omega,?_⟩)
     simp only
     rw[getI hj,z03 (by omega)]
     have et:(((i:Int),((exV d)[j],(z7g d b,()))):z05)=tmOf d i b (exV d)[j]:=rfl
     rw[et]
     refine⟨_,_,_,z01u htl,?_⟩
     unfold zps
     simp only
     by_cases hm:tmOf d i b (exV d)[j]∈st.1
     · rw[if_pos hm]
       refine z0m (fun h=>by cases h) (fun _=>inI hj ⟨⟨by omega,by omega⟩,?_⟩)
       have:=q2 (hdG d i b st (exV d)[j]) (by unfold zkn;rw[if_pos hm])
       unfold hdG at this
       rw[if_pos hm]at this
       exact this
     · rw[if_neg hm]
       have ea:(tmOf d i b (exV d)[j]).2.2.1=z7g d b:=rfl
       rw[ea]
       by_cases hc:st.1.length=30∨8<z8b (z1z st.1) (z7g d b)
       · rw[if_pos hc]
         exact z0m (fun _=>q1 () (by unfold zkn;rw[if_neg hm,if_pos hc])) (fun h=>by cases h)
       · rw[if_neg hc]
         refine z0m (fun h=>by cases h) (fun _=>inI hj ⟨⟨by omega,by omega⟩,?_⟩)
         have:=q2 (hdG d i b st (exV d)[j]) (by unfold zkn;rw[if_neg hm,if_neg hc])
         unfold hdG at this
         rw[if_neg hm]at this
         exact this
   · intro st Y hr
     obtain⟨rfl,hta⟩:=h.run.1 st hr
     refine lenI fun _=>bcN ?_
     obtain⟨hl1,hl2,hl3⟩:=h.hdLen
     simp only
     generalize hvs:(hdS s.2.1 d i b).2=vs at hl1 ⊢
     have hm:∀ k,(((d.2.1.take k).map fun a=>inst a vs).foldl putF s.1.2.1).length≤32:=fun k=>by
      have:=zt7 (l:=(d.2.1.take k).map fun a=>inst a vs) (m:=s.1.2.1)
      rw[List.length_map,List.length_take]at this
      omega
     refine z1v d.2.1.length (fun k=>((k:Int),(((s.1.1,(((d.2.1.take k).map fun a=>inst a vs).foldl putF s.1.2.1,())),((hdS s.2.1 d i b).1,())),()))) (by simp) ?_ ?_
     · intro k hk Z hZ
       have hr:=zr2 (hs.2.2.2.2.1 _ (List.getElem_mem hk))
       have hmk:=hm k
       have hil2:=z0dw (a:=d.2.1[k]) (b:=vs)
       refine inI hil (lenI fun _=>bcI hk (inI hil (inI hk ⟨inst d.2.1[k] vs,zaa d.2.1[k] vs,?_,_,z05v (by simp only;omega) (by simp only;omega),?_⟩)))
       · simp only;rw[getI hk];exact zfd (by omega) (by omega) hr.2
       · simp only
         rw[z03 (by omega)]
         rw[z07 hk,List.map_append,List.foldl_append]at hZ
         exact hZ
     · intro Z
       refine inI hil (lenI fun _=>bcN (lenI fun _=>?_))
       simp only[List.take_length]
       have e:(d.2.1.map fun a=>inst a vs).foldl putF s.1.2.1=facS (s.1.2.1++zam d (hdS s.2.1 d i b).2):=by
        rw[hvs,zlw];exact z02m hx _
       rw[e]
       unfold ztj
       rw[hta,if_pos rfl]
       have e2:decide (((facS (s.1.2.1++zam d (hdS s.2.1 d i b).2)).length:Int)≤30)=decide ((za3 s d i b).1.2.1.length≤30):=decide_eq_decide.mpr (by unfold za3;simp only;omega)
       rw[e2];rfl
   · intro r hr
     have:=h.run.2 r hr
     unfold ztj
     rw[this];rfl)
end
theorem zv5 {s:TSk} {ds:List TDep} {d:TDep} {i:Nat} {b:List Int} (h:FireOk s ds d i b):zf1 s ds i b (if vSk (za3 s d i b)then za3 s d i b else s) (vSk (za3 s d i b)):=zvi _ _ _ _ _ _ (by
 unfold zkr
 obtain⟨hd,he,h5⟩:=zbk h.pl h.lt.2
 have hs:=z8h hd
 have hil:=h.lt.1
 have hts:=zea (z6b h.sk).2.2
 have hx:=(z5x h.sk).1
 have hxl:=z41 hx
 have hcp:z0p s s:=z012 h.sk
 have hsm:=SmS.of h.sk
 have no:vSk (za3 s d i b)=false→((s,(false,())):TSk×Bool×Unit)=(if vSk (za3 s d i b)then za3 s d i b else s,(vSk (za3 s d i b),())):=fun h=>by rw[h];rfl
 refine⟨_,z35,z0m (fun h'=>by rw[h.sk]at h';cases h') (fun _=>⟨_,zgr,z0m (fun h'=>by rw[h.pl]at h';cases h') (fun _=>lenI fun hl=>?_)⟩)⟩
 rw[z1g (n:=(ds.length:Int) - 1) (by omega) (by omega)]
 have hin:inR (i:Int) 0 ((ds.length:Int) - 1)=true:=inR_iff.mpr ⟨by omega,by omega⟩
 refine⟨_,z8m,z0m (fun h'=>by rw[hin]at h';cases h') (fun _=>inI hil ?_)⟩
 rw[h.getD_]
 have htr:zpi s.1 d b=true:=by unfold zpi;rw[hx,hd,h.tB,h.tF,h.b5];rfl
 refine⟨_,z011,z0m (fun h'=>by rw[htr]at h';cases h') (fun _=>?_)⟩
 have hdi:ds[i]=d:=by have:=h.at_;rw[List.getElem?_eq_getElem hil]at this;exact Option.some.inj this
 have hg:=z022 (ts:=s.2.1) (b:=b) hil (by rw[hdi];exact z0g6 hd) hts h.b5
 rw[hdi]at hg
 refine⟨_,_,hg,?_⟩
 obtain⟨hl1,hl2,hl3⟩:=h.hdLen
 have hal:=h.args.1
 have hhl:(zam d (hdS s.2.1 d i b).2).length≤2:=by rw[zlw,List.length_map];exact hs.2.2.2.1
 have hta:∀ t∈(hdS s.2.1 d i b).1,t.2.2.1.length≤1048576:=by
  have:∀(l:List Int) (st:List z05×List Int),(∀ t∈st.1,t.2.2.1.length≤1048576)→∀ t∈(l.foldl (hdG d i b) st).1,t.2.2.1.length≤1048576:=by
   intro l
   induction l with
   |nil=>intro st h;exact h
   | cons v l ih=>
     intro st hst
     rw[List.foldl_cons]
     refine ih _ fun t ht=>?_
     unfold hdG at ht
     split at ht
     · exact hst t ht
     · rcases List.mem_append.mp ht with ht|ht
       · exact hst t ht
       · obtain rfl:t=tmOf d i b v:=by simpa using ht
         show(z7g d b).length≤_
         omega
  exact this (exV d) (s.2.1,b) hsm.args
 refine⟨_,z3x (s:=(s.1,((hdS s.2.1 d i b).1,()))) ⟨hsm.rels,hsm.few,hsm.row,by simp only;omega,hta⟩,by simp only[maxL];omega,_,zuu (by simp only[List.length_append];omega) (fun f hf=>?_),_,z35,?_⟩
 · rcases List.mem_append.mp hf with hf|hf
   · have:=(z1p (z57 hx hf)).2.2.2.2.1;omega
   · have:=(h.head hf).2.2.2;omega
 · have e:(((s.1.1,(facS (s.1.2.1++zam d (hdS s.2.1 d i b).2),s.1.2.2)),((hdS s.2.1 d i b).1,())):TSk)=za3 s d i b:=rfl
   simp only
   rw[e]
   exact z0m (fun hv=>⟨s,hcp,no hv⟩) (fun hv=>by rw[hv];rfl))
def zni (d:TDep) (i:Nat) (st:TSk) (b:List Int):Unit ⊕ TSk:=if vSk (za3 st d i b)then .inr (za3 st d i b)else .inl ()
def depE (ds:List TDep) (st:TSk) (i:Nat):Unit ⊕ TSk:=runE (zni (ds.getD i zDep) i) (z95 st.1 (ds.getD i zDep).1) st
def zsz (ds:List TDep) (st:TSk):Unit ⊕ TSk:=runE (depE ds) (List.range ds.length) st
def z9v (ds:List TDep):Nat→TSk→Unit ⊕ TSk
 |0,st=>.inr st
 | n+1,st=>match zsz ds st with
   |.inl _=>.inl ()
   |.inr st'=>if st'.1.2.1.length=st.1.2.1.length then .inr st' else z9v ds n st'
def skc (s:TSk) (ds:List TDep):TSk×Bool:=if vSk s&&z4j s.1.1 ds then(match z9v ds 31 s with
 |.inl _=>(s,false)
 |.inr y=>(y,true))else(s,false)
structure Goes (a b:TSk):Prop where
 sk:vSk b=true
 rels:b.1.1=a.1.1
 sub:∀ f∈a.1.2.1,f∈b.1.2.1
 len:a.1.2.1.length≤b.1.2.1.length
theorem Goes.refl {a:TSk} (h:vSk a=true):Goes a a:=⟨h,rfl,fun _ h=>h,Nat.le_refl _⟩
theorem Goes.trans {a b c:TSk} (h1:Goes a b) (h2:Goes b c):Goes a c:=⟨h2.sk,h2.rels.trans h1.rels,fun f hf=>h2.sub f (h1.sub f hf),Nat.le_trans h1.len h2.len⟩
theorem z0gk {l:List z00} {f:z00}:l.length≤(putF l f).length:=by
 unfold putF
 split
 · exact Nat.le_refl _
 · simp only[List.length_append,List.length_cons,List.length_take,List.length_drop];omega
theorem z06i:∀ {l m:List z00},m.length≤(l.foldl putF m).length
 |[],m=>Nat.le_refl _
 |a::l,m=>by rw[List.foldl_cons];exact Nat.le_trans z0gk (z06i (l:=l))
theorem zme {d:TDep} {i:Nat} {st st':TSk} {b:List Int} (hv:vSk st=true) (h:zni d i st b = .inr st'):Goes st st':=by
 unfold zni at h
 split at h
 · rename_i hn
   obtain rfl:=Sum.inr.inj h
   refine⟨hn,rfl,fun f hf=>facS_mem.mpr (List.mem_append_left _ hf),?_⟩
   show st.1.2.1.length≤(facS (st.1.2.1++_)).length
   rw[←z02m (z5x hv).1]
   exact z06i
 · cases h
theorem ze6 {α:Type} {g:TSk→α→Unit ⊕ TSk} (hg:∀ st a st',vSk st=true→g st a = .inr st'→Goes st st'):∀ {l:List α} {st st':TSk},vSk st=true→runE g l st = .inr st'→Goes st st'
 |[],st,st',hv,h=>by simp only[runE,Sum.inr.injEq]at h;subst h;exact .refl hv
 | a::l,st,st',hv,h=>by
   simp only[runE]at h
   cases e:g st a with
   |inl _=>rw[e]at h;simp at h
   | inr s1=>
     rw[e]at h
     have h1:=hg st a s1 hv e
     exact h1.trans (ze6 hg h1.sk h)
theorem ztq {ds:List TDep} {st st':TSk} {i:Nat} (hv:vSk st=true) (h:depE ds st i = .inr st'):Goes st st':=ze6 (fun st b st' hv h=>zme hv h) hv h
theorem zlk {ds:List TDep} {st st':TSk} (hv:vSk st=true) (h:zsz ds st = .inr st'):Goes st st':=ze6 (fun st b st' hv h=>ztq hv h) hv h
theorem z0c1 {ds:List TDep} {st0 st:TSk} {i:Nat} (hi:i<ds.length) (hp:z4j st0.1.1 ds=true) (hg:Goes st0 st) {b:List Int} (hb:b∈z95 st0.1 (ds.getD i zDep).1):FireOk st ds (ds.getD i zDep) i b:=by
 obtain⟨h5,hB,hF⟩:=z098 hb
 exact⟨hg.sk,by rw[hg.rels];exact hp,by rw[List.getD_eq_getElem?_getD,List.getElem?_eq_getElem hi];rfl,h5,hB,z083 hg.sub hF⟩
theorem z0cu {s:TSk} (h:vSk s=true):s.1.2.1.length≤30:=z41 (z5x h).1
theorem z02j {s:TSk} {ds:List TDep} (h:(vSk s&&z4j s.1.1 ds)=false):skc s ds=(s,false):=by unfold skc;rw[h];rfl
theorem z04v {s:TSk} {ds:List TDep} {r:Unit} (h:(vSk s&&z4j s.1.1 ds)=true) (hr:z9v ds 31 s = .inl r):skc s ds=(s,false):=by unfold skc;rw[h,hr];rfl
theorem zyf {s y:TSk} {ds:List TDep} (h:(vSk s&&z4j s.1.1 ds)=true) (hr:z9v ds 31 s = .inr y):skc s ds=(y,true):=by unfold skc;rw[h,hr];rfl
theorem zkv {s:TSk} {ds:List TDep} (hsm:SmS s):zav s ds (skc s ds).1 (skc s ds).2:=zvj _ _ _ _ (by
 unfold zla
 have hcp:z7q s s:=zba hsm
 refine⟨s,hcp,_,z7c,z0m (fun h=>by rw[z02j (by rw[h];rfl)]) (fun h1=>⟨_,zly,z0m (fun h=>by rw[z02j (by rw[h1,h];rfl)]) (fun h2=>?_)⟩)⟩
 have h12:(vSk s&&z4j s.1.1 ds)=true:=by rw[h1,h2];rfl
 have h5:ds.length≤5:=by have h3:=h2;unfold z4j at h3;rw[Bool.and_eq_true]at h3;exact zn1 h3.1
 refine z1t (fun k a=>∃ st:TSk,a=(st,(((([]:List TRel),(([]:List z00),())),(([]:List z05),())),()))∧Goes s st∧30<st.1.2.1.length+k∧z9v ds k st=z9v ds 31 s) ?_ ?_ (n:=31) ⟨s,rfl,.refl h1,by omega,rfl⟩
 · rintro a ⟨st,rfl,hg,hk,_⟩ X
   have:=z0cu hg.sk
   omega
 · rintro k a ⟨st,rfl,hg,hk,hc⟩ X hX
   have hpl:z4j st.1.1 ds=true:=by rw[hg.rels];exact h2
   have bad:∀ r:Unit,zsz ds st = .inl r→((s,(false,())):TSk×Bool×Unit)=((skc s ds).1,((skc s ds).2,())):=fun r hr=>by rw[z04v (r:=()) h12 (by rw[←hc,z9v,hr])]
   refine lenI fun _=>?_
   simp only
   refine zen (List.range ds.length) (depE ds) st (fun i q=>((i:Int),(((([]:List TRel),(([]:List z00),())),(([]:List z05),())),(q,())))) (KR:=fun _=>((s,(false,())):TSk×Bool×Unit)=((skc s ds).1,((skc s ds).2,()))) ?_ ?_ bad
   · intro i hi q Y hr q1 q2
     have hi:i<ds.length:=by simpa using hi
     rw[List.getElem_range]at q1 q2
     have hq:Goes st q:=ze6 (fun st b st' hv h=>ztq hv h) hg.sk hr
     have hpq:z4j q.1.1 ds=true:=by rw[hq.rels];exact hpl
     refine lenI fun _=>bcI hi (inI hi ⟨_,zkx,?_⟩)
     simp only
     rw[Int.toNat_natCast,z03 (by omega)]
     have hM:=zjh (x:=q.1) (l:=(ds.getD i zDep).1)
     refine zen (z95 q.1 (ds.getD i zDep).1) (zni (ds.getD i zDep) i) q (fun j p=>((j:Int),(((([]:List TRel),(([]:List z00),())),(([]:List z05),())),(p,())))) (KR:=fun _=>((s,(false,())):TSk×Bool×Unit)=((skc s ds).1,((skc s ds).2,()))) ?_ ?_ q1
     · intro j hj p Z hr2 p1 p2
       have hp:Goes q p:=ze6 (fun st b st' hv h=>zme hv h) hq.sk hr2
       have hf:=z0c1 hi hpq hp (List.getElem_mem hj)
       obtain⟨r1,r2⟩:=hf.res
       refine lenI fun _=>bcI hj (inI hj ⟨trivial,(ztj p (ds.getD i zDep) i (z95 q.1 (ds.getD i zDep).1)[j]).1,(ztj p (ds.getD i zDep) i (z95 q.1 (ds.getD i zDep).1)[j]).2,?_,?_⟩)
       · simp only
         rw[getI hj]
         exact z088 hf
       · simp only
         rw[z03 (by omega),r1]
         refine z0m (fun hv=>⟨s,hcp,p1 () (by unfold zni;rw[hv];rfl)⟩) (fun hv=>?_)
         rw[r2 hv]
         exact p2 _ (by unfold zni;rw[hv];rfl)
     · intro p Z hr2
       exact lenI fun _=>bcN (q2 p hr2)
   · intro q Y hr
     have hr:zsz ds st = .inr q:=hr
     have hq:Goes st q:=zlk hg.sk hr
     simp only[List.length_range]
     refine lenI fun _=>bcN (lenI fun _=>z3i (fun h=>?_) (fun h=>?_))
     · have h:q.1.2.1.length=st.1.2.1.length:=by omega
       rw[zyf (y:=q) h12 (by rw[←hc,z9v,hr];simp only;rw[if_pos h])]
     · have h:¬ q.1.2.1.length=st.1.2.1.length:=by omega
       have:=hq.len
       exact hX _ ⟨q,rfl,hg.trans hq,by omega,by rw[←hc,z9v,hr];simp only;rw[if_neg h]⟩)
theorem zl1 {s:TSk} {ds:List TDep} (hsm:SmS s):zau s ds (skc s ds).1 (skc s ds).2:=zvb _ _ _ _ (by
 unfold zky
 have hcp:z0p s s:=z3x hsm
 refine⟨_,z35,z0m (fun h=>⟨s,hcp,by rw[z02j (by rw[h];rfl)]⟩) (fun h1=>⟨_,zgr,z0m (fun h=>⟨s,hcp,by rw[z02j (by rw[h1,h];rfl)]⟩) (fun h2=>⟨s,hcp,?_⟩)⟩)⟩
 have h12:(vSk s&&z4j s.1.1 ds)=true:=by rw[h1,h2];rfl
 have h5:ds.length≤5:=by have h3:=h2;unfold z4j at h3;rw[Bool.and_eq_true]at h3;exact zn1 h3.1
 refine z1t (fun k a=>∃(st:TSk) (b:Int),a=(b,(st,(((([]:List TRel),(([]:List z00),())),(([]:List z05),())),())))∧Goes s st∧((b=(st.1.2.1.length:Int)∧z9v ds 31 s = .inr st)∨(b≠(st.1.2.1.length:Int)∧30<st.1.2.1.length+k∧z9v ds k st=z9v ds 31 s))) ?_ ?_ (n:=31) ⟨s,-1,rfl,.refl h1,.inr ⟨by omega,by omega,rfl⟩⟩
 · rintro a ⟨st,b,rfl,hg,hk⟩ X
   have:=z0cu hg.sk
   rcases hk with⟨hb,hc⟩|⟨hb,hk,_⟩
   · refine lenI fun _=>z5s (fun h=>absurd hb h) (fun _=>?_)
     rw[zyf h12 hc]
   · omega
 · rintro k a ⟨st,b,rfl,hg,hk⟩ X hX
   rcases hk with⟨hb,hc⟩|⟨hb,hk,hc⟩
   · refine lenI fun _=>z5s (fun h=>absurd hb h) (fun _=>?_)
     rw[zyf h12 hc]
   have hpl:z4j st.1.1 ds=true:=by rw[hg.rels];exact h2
   have bad:∀ r:Unit,zsz ds st = .inl r→((s,(false,())):TSk×Bool×Unit)=((skc s ds).1,((skc s ds).2,())):=fun r hr=>by rw[z04v (r:=()) h12 (by rw[←hc,z9v,hr])]
   refine lenI fun _=>z5s (fun _=>lenI fun _=>lenI fun _=>?_) (fun h=>absurd h hb)
   simp only
   refine zen (List.range ds.length) (depE ds) st (fun i q=>((i:Int),(q,(((([]:List TRel),(([]:List z00),())),(([]:List z05),())),())))) (KR:=fun _=>((s,(false,())):TSk×Bool×Unit)=((skc s ds).1,((skc s ds).2,()))) ?_ ?_ bad
   · intro i hi q Y hr q1 q2
     have hi:i<ds.length:=by simpa using hi
     rw[List.getElem_range]at q1 q2
     have hq:Goes st q:=ze6 (fun st b st' hv h=>ztq hv h) hg.sk hr
     have hpq:z4j q.1.1 ds=true:=by rw[hq.rels];exact hpl
     refine bcI hi (inI hi ⟨_,zl6,lenI fun _=>?_⟩)
     simp only
     rw[Int.toNat_natCast,z03 (by omega)]
     have hM:=zjh (x:=q.1) (l:=(ds.getD i zDep).1)
     refine zen (z95 q.1 (ds.getD i zDep).1) (zni (ds.getD i zDep) i) q (fun j p=>((j:Int),(p,(((([]:List TRel),(([]:List z00),())),(([]:List z05),())),())))) (KR:=fun _=>((s,(false,())):TSk×Bool×Unit)=((skc s ds).1,((skc s ds).2,()))) ?_ ?_ q1
     · intro j hj p Z hr2 p1 p2
       have hp:Goes q p:=ze6 (fun st b st' hv h=>zme hv h) hq.sk hr2
       have hf:=z0c1 hi hpq hp (List.getElem_mem hj)
       refine bcI hj (inI hj ⟨if vSk (za3 p (ds.getD i zDep) i (z95 q.1 (ds.getD i zDep).1)[j])then za3 p (ds.getD i zDep) i (z95 q.1 (ds.getD i zDep).1)[j] else p,vSk (za3 p (ds.getD i zDep) i (z95 q.1 (ds.getD i zDep).1)[j]),?_,?_⟩)
       · simp only
         rw[getI hj]
         exact zv5 hf
       · simp only
         rw[z03 (by omega)]
         refine z0m (fun hv=>⟨s,hcp,p1 () (by unfold zni;rw[hv];rfl)⟩) (fun hv=>?_)
         rw[if_pos hv]
         exact p2 _ (by unfold zni;rw[hv];rfl)
     · intro p Z hr2
       exact bcN (q2 p hr2)
   · intro q Y hr
     have hr:zsz ds st = .inr q:=hr
     have hq:Goes st q:=zlk hg.sk hr
     simp only[List.length_range]
     refine bcN (hX _ ⟨q,_,rfl,hg.trans hq,?_⟩)
     by_cases h:q.1.2.1.length=st.1.2.1.length
     · exact .inl ⟨by omega,by rw[←hc,z9v,hr];simp only;rw[if_pos h]⟩
     · have:=hq.len
       exact .inr ⟨by omega,by omega,by rw[←hc,z9v,hr];simp only;rw[if_neg h]⟩)
def zqf (s:TSk) (ds:List TDep):Bool:=(skc s ds).2&&(zvz s ds&&((skc s ds).1.1.2.1.length == s.1.2.1.length))
theorem zxu {s:TSk} {ds:List TDep} (hsm:SmS s):zh9 s ds (zqf s ds):=zzw _ _ _ (by
 unfold znr
 refine⟨_,_,zkv hsm,z1q (fun h1=>⟨_,zqe,z1q (fun h2=>lenI fun _=>lenI fun _=>?_) (fun h2=>by unfold zqf;rw[h1,h2];rfl)⟩) (fun h1=>by unfold zqf;rw[h1];rfl)⟩
 unfold zqf
 rw[h1,h2]
 have:(((skc s ds).1.1.2.1.length:Int) == (s.1.2.1.length:Int))=((skc s ds).1.1.2.1.length == s.1.2.1.length):=by rw[Bool.eq_iff_iff];simp;omega
 rw[this];rfl)
theorem zyi {s:TSk} {ds:List TDep} (hsm:SmS s):zh2 s ds (zqf s ds):=zzg _ _ _ (by
 unfold znk
 refine⟨_,_,zl1 hsm,z1q (fun h1=>⟨_,zq7,z1q (fun h2=>lenI fun _=>lenI fun _=>?_) (fun h2=>by unfold zqf;rw[h1,h2];rfl)⟩) (fun h1=>by unfold zqf;rw[h1];rfl)⟩
 unfold zqf
 rw[h1,h2]
 have:(((skc s ds).1.1.2.1.length:Int) == (s.1.2.1.length:Int))=((skc s ds).1.1.2.1.length == s.1.2.1.length):=by rw[Bool.eq_iff_iff];simp;omega
 rw[this];rfl)
theorem z030 {α:Type} {f:α→Nat}:∀ {l:List α} {a:α},a∈l→f a≤(l.map f).sum
 | b::l,a,h=>by
   rw[List.map_cons,List.sum_cons]
   rcases List.mem_cons.mp h with rfl|h
   · omega
   · have:=z030 (f:=f) h;omega
theorem zz8 {s:TSk} (h:bulk (.pair (.pair (.sl 0 (.pair .str (.pair (.int .i64) (.pair .bool .unit)))) (.pair (.sl 0 (.pair (.int .i64) (.pair (.sl 0 (.int .i64)) .unit))) .unit)) (.pair (.sl 0 (.pair (.int .i64) (.pair (.int .i64) (.pair (.sl 0 (.int .i64)) .unit)))) .unit)) s≤1048576):SmS s:=by
 have h:((List.length s.1.1+(s.1.1.map (bulk (.pair .str (.pair (.int .i64) (.pair .bool .unit))))).sum)+((List.length s.1.2.1+(s.1.2.1.map (bulk (.pair (.int .i64) (.pair (.sl 0 (.int .i64)) .unit)))).sum)+0))+((List.length s.2.1+(s.2.1.map (bulk (.pair (.int .i64) (.pair (.int .i64) (.pair (.sl 0 (.int .i64)) .unit))))).sum)+0)≤1048576:=h
 refine⟨by omega,by omega,fun f hf=>?_,by omega,fun t ht=>?_⟩
 · have h1:=z030 (f:=bulk (.pair (.int .i64) (.pair (.sl 0 (.int .i64)) .unit))) hf
   have h2:f.2.1.length≤bulk (.pair (.int .i64) (.pair (.sl 0 (.int .i64)) .unit)) f:=by
    show f.2.1.length≤0+((f.2.1.length+_)+0)
    omega
   omega
 · have h1:=z030 (f:=bulk (.pair (.int .i64) (.pair (.int .i64) (.pair (.sl 0 (.int .i64)) .unit)))) ht
   have h2:t.2.2.1.length≤bulk (.pair (.int .i64) (.pair (.int .i64) (.pair (.sl 0 (.int .i64)) .unit))) t:=by
    show t.2.2.1.length≤0+(0+((t.2.2.1.length+_)+0))
    omega
   omega
abbrev zz1:Sh:=.pair (.int .i64) (.pair (.sl 0 (.int .i64)) .unit)
abbrev zzk:Sh:=.pair (.int .i64) (.pair (.int .i64) (.pair (.sl 0 (.int .i64)) .unit))
abbrev z0a3:Sh:=.sl 0 (.pair .str (.pair (.int .i64) (.pair .bool .unit)))
abbrev qSk:Sh:=.pair (.pair z0a3 (.pair (.sl 0 zz1) .unit)) (.pair (.sl 0 zzk) .unit)
theorem ztw {α:Type} {f:α→Nat} {c:Nat}:∀ {l:List α},(∀ a∈l,f a≤c)→(l.map f).sum≤l.length * c
 |[],_=>by simp
 | a::l,h=>by
   have h1:=h a (by simp)
   have h2:=ztw (l:=l) fun b hb=>h b (by simp[hb])
   rw[List.map_cons,List.sum_cons,List.length_cons,Nat.succ_mul]
   omega
theorem z00i (l:List Int):bulk (.sl 0 (.int .i64)) l=l.length:=by
 have h:∀ l:List (Sh.den (.int .i64)),(l.map (bulk (.int .i64))).sum=0:=by
  intro l
  induction l with
  |nil=>rfl
  |cons a l ih=>rw[List.map_cons,List.sum_cons,ih];rfl
 exact congrArg (l.length + ·) (h l)
theorem z0an (f:z00):bulk zz1 f=f.2.1.length:=by
 have h:=z00i f.2.1
 have e:bulk zz1 f=0+(bulk (.sl 0 (.int .i64)) f.2.1+0):=rfl
 omega
theorem z09l (t:z05):bulk zzk t=t.2.2.1.length:=by
 have h:=z00i t.2.2.1
 have e:bulk zzk t=0+(0+(bulk (.sl 0 (.int .i64)) t.2.2.1+0)):=rfl
 omega
theorem zw6 {l:List z00} {c:Nat} (h:∀ f∈l,f.2.1.length≤c):bulk (.sl 0 zz1) l≤l.length+l.length * c:=
 Nat.add_le_add_left (ztw (f:=bulk zz1) (c:=c) (l:=l) fun f hf=>Nat.le_trans (Nat.le_of_eq (z0an f)) (h f hf)) _
theorem z081 {l:List z05} {c:Nat} (h:∀ f∈l,f.2.2.1.length≤c):bulk (.sl 0 zzk) l≤l.length+l.length * c:=
 Nat.add_le_add_left (ztw (f:=bulk zzk) (c:=c) (l:=l) fun f hf=>Nat.le_trans (Nat.le_of_eq (z09l f)) (h f hf)) _
theorem z0ee {a b:TSk} (h:vSk b=true) (hr:b.1.1=a.1.1):bulk qSk b≤bulk qSk a+400:=by
 have hf:=z0cu h
 have ht:=zea (z6b h).2.2
 have h1:=zw6 (l:=b.1.2.1) (c:=3) fun f hf=>(z1p (z57 (z5x h).1 hf)).2.2.2.2.1
 have h2:=z081 (l:=b.2.1) (c:=5) fun t hm=>by
  obtain⟨i,hi,rfl⟩:=List.mem_iff_getElem.mp hm
  exact z05z h hi
 have e1:bulk qSk b=(bulk z0a3 b.1.1+(bulk (.sl 0 zz1) b.1.2.1+0))+(bulk (.sl 0 zzk) b.2.1+0):=rfl
 have e2:bulk qSk a=(bulk z0a3 a.1.1+(bulk (.sl 0 zz1) a.1.2.1+0))+(bulk (.sl 0 zzk) a.2.1+0):=rfl
 rw[hr]at e1
 omega
theorem zrw {ds:List TDep}:∀ {n:Nat} {st st':TSk},vSk st=true→z9v ds n st = .inr st'→Goes st st'
 |0,st,st',hv,h=>by simp only[z9v,Sum.inr.injEq]at h;subst h;exact .refl hv
 | n+1,st,st',hv,h=>by
   simp only[z9v]at h
   cases e:zsz ds st with
   |inl _=>rw[e]at h;simp at h
   | inr s1=>
     rw[e]at h
     have h1:=zlk hv e
     simp only at h
     split at h
     · obtain rfl:=Sum.inr.inj h;exact h1
     · exact h1.trans (zrw h1.sk h)
theorem z0f2 {s:TSk} {ds:List TDep}:bulk qSk (skc s ds).1≤bulk qSk s+400:=by
 by_cases h:(vSk s&&z4j s.1.1 ds)=true
 · cases e:z9v ds 31 s with
   |inl r=>rw[z04v h e];exact Nat.le_add_right _ _
   | inr y=>
     rw[zyf h e]
     have hv:vSk s=true:=by rw[Bool.and_eq_true]at h;exact h.1
     have hg:=zrw hv e
     exact z0ee hg.sk hg.rels
 · rw[z02j (by simpa using h)];exact Nat.le_add_right _ _
def z0b1 (r:List TRel) (f:z00):Bool:=(r.getD f.1.toNat zRel).2.2.1
def insF (x:z09) (f:z00):z09×Bool:=if z3a x&&(!decide (f∈x.2.1)&&z3a (x.1,(facS (x.2.1++[f]),())))then((x.1,(facS (x.2.1++[f]),())),true)else(x,false)
theorem zzc {x:z09} {f:z00} (h:z3a x=true) (hf:f.2.1.length≤3):zgn x f (insF x f).1 (insF x f).2:=zxp _ _ _ _ (by
 unfold zmh
 have hr:=zsc (zk6 h)
 have hl:=z41 h
 have hp:putF x.2.1 f=facS (x.2.1++[f]):=z06z (l:=x.2.1) (m:=[f]) (zss h)
 refine⟨x,zuy (by omega) (by omega) (fun f hf=>zs1 h hf),_,z4i,?_⟩
 rw[h]
 refine bcF ⟨_,zj1,?_⟩
 rw[h,Bool.true_and]
 refine z1q (fun hm=>by unfold insF;rw[hm];simp) (fun hm=>⟨_,z05v (x:=x) (by omega) (by omega),?_⟩)
 rw[hp]
 have hn:(facS (x.2.1++[f])).length≤31:=by have:=z06j (l:=x.2.1++[f]);simp only[List.length_append,List.length_cons,List.length_nil]at this;omega
 refine⟨_,zuy (x:=(x.1,(facS (x.2.1++[f]),()))) (by simp only;omega) (by simp only;omega) (fun g hg=>?_),_,z4i,?_⟩
 · have hg:g∈facS (x.2.1++[f]):=hg
   rcases List.mem_append.mp (facS_mem.mp hg)with hg|hg
   · exact zs1 h hg
   · obtain rfl:=List.mem_singleton.mp hg;omega
 · refine z0m (fun hv=>by unfold insF;rw[h,hm,show z3a (x.1,(facS (x.2.1++[f]),()))=false from hv];rfl) (fun hv=>?_)
   unfold insF
   rw[h,hm,show z3a (x.1,(facS (x.2.1++[f]),()))=true from hv];rfl)
theorem zxx {x:z09} {f:z00} (h:z3a x=true) (hf:f.2.1.length≤3):zgk x f (insF x f).1 (insF x f).2:=zxw _ _ _ _ (by
 unfold zmg
 have hr:=zsc (zk6 h)
 have hl:=z41 h
 have hcp:z36 x x:=zio (by omega) (by omega) (fun f hf=>zs1 h hf)
 have hrow:∀ g∈x.2.1,g.2.1.length≤3:=fun g hg=>(z1p (z57 h hg)).2.2.2.2.1
 refine⟨_,z4f,?_⟩
 rw[h]
 refine bcF ⟨_,zjz,z1q (fun hm=>⟨x,hcp,by unfold insF;rw[hm];simp⟩) (fun hm=>⟨x,hcp,by simp only[maxL,List.length_cons,List.length_nil];omega,_,zuu (by simp only[List.length_append,List.length_cons,List.length_nil];omega) (fun g hg=>?_),_,z4f,?_⟩)⟩
 · rcases List.mem_append.mp hg with hg|hg
   · have:=hrow g hg;omega
   · obtain rfl:=List.mem_singleton.mp hg;omega
 · refine z0m (fun hv=>⟨x,hcp,by unfold insF;rw[h,hm,show z3a (x.1,(facS (x.2.1++[f]),()))=false from hv];rfl⟩) (fun hv=>?_)
   unfold insF
   rw[h,hm,show z3a (x.1,(facS (x.2.1++[f]),()))=true from hv];rfl)
theorem zm7 {s:TSk} {ds:List TDep} (h:zqf s ds=true):vSk s=true:=by
 unfold zqf zvz at h
 simp only[Bool.and_eq_true]at h
 exact h.2.1.1
theorem z0as {s:TSk} {f:z00} (h:SmS s) (hf:f.2.1.length≤3) (hl:s.1.2.1.length≤30):SmS ((insF s.1 f).1,s.2):=by
 unfold insF
 split
 · have hn:=z06j (l:=s.1.2.1++[f])
   simp only[List.length_append,List.length_cons,List.length_nil]at hn
   refine⟨h.rels,by simp only;omega,fun g hg=>?_,h.terms,h.args⟩
   have hg:g∈facS (s.1.2.1++[f]):=hg
   rcases List.mem_append.mp (facS_mem.mp hg)with hg|hg
   · exact h.row g hg
   · obtain rfl:=List.mem_singleton.mp hg;omega
 · exact h
def zkb (s:TSk) (ds:List TDep) (f:z00):Bool:=zqf s ds&&(zil s.1.1 f&&(z0b1 s.1.1 f&&((insF s.1 f).2&&(skc ((insF s.1 f).1,s.2) ds).2)))
def isf (s:TSk) (ds:List TDep) (f:z00):TSk×Bool:=if zkb s ds f then((skc ((insF s.1 f).1,s.2) ds).1,true)else(s,false)
theorem zkq {s:TSk} {ds:List TDep} {f:z00} (h:zkb s ds f=false):isf s ds f=(s,false):=by unfold isf;rw[h];rfl
theorem z03a {s:TSk} {ds:List TDep} {f:z00} (h:zkb s ds f=true):isf s ds f=((skc ((insF s.1 f).1,s.2) ds).1,true):=by unfold isf;rw[h];rfl
theorem z0e9 {s:TSk} {ds:List TDep} {f:z00}:bulk qSk (isf s ds f).1≤bulk qSk s+600:=by
 by_cases h:zkb s ds f=true
 · rw[z03a h]
   unfold zkb at h
   simp only[Bool.and_eq_true]at h
   obtain⟨h1,h2,h3,h4,h5⟩:=h
   have hv:=(z5x (zm7 h1)).1
   have hb:=z0f2 (s:=((insF s.1 f).1,s.2)) (ds:=ds)
   by_cases hi:(z3a s.1&&(!decide (f∈s.1.2.1)&&z3a (s.1.1,(facS (s.1.2.1++[f]),()))))=true
   · have e:insF s.1 f=((s.1.1,(facS (s.1.2.1++[f]),())),true):=by unfold insF;rw[if_pos hi]
     rw[e]at hb ⊢
     simp only at hb ⊢
     simp only[Bool.and_eq_true]at hi
     have hl:=z41 hi.2.2
     have h6:=zw6 (l:=facS (s.1.2.1++[f])) (c:=3) fun g hg=>(z1p (z57 hi.2.2 hg)).2.2.2.2.1
     have e1:bulk qSk (((s.1.1,(facS (s.1.2.1++[f]),())),s.2):TSk)=(bulk z0a3 s.1.1+(bulk (.sl 0 zz1) (facS (s.1.2.1++[f]))+0))+(bulk (.sl 0 zzk) s.2.1+0):=rfl
     have e2:bulk qSk s=(bulk z0a3 s.1.1+(bulk (.sl 0 zz1) s.1.2.1+0))+(bulk (.sl 0 zzk) s.2.1+0):=rfl
     simp only at hl
     omega
   · unfold insF at h4
     rw[if_neg hi]at h4
     cases h4
 · rw[zkq (by simpa using h)];exact Nat.le_add_right _ _
theorem ze1 {s:TSk} {ds:List TDep} {f:z00} (hsm:SmS s):z5t s ds f (isf s ds f).1 (isf s ds f).2:=zlp _ _ _ _ _ (by
 unfold zdc
 refine⟨_,zyi hsm,z0m (fun h=>⟨s,z3x hsm,by rw[zkq (by unfold zkb;rw[h];rfl)]⟩) (fun h1=>⟨_,zto,z0m (fun h=>⟨s,z3x hsm,by rw[zkq (by unfold zkb;rw[h1,Bool.true_and,←Bool.and_assoc,show(zil s.1.1 f&&z0b1 s.1.1 f)=false from h];rfl)]⟩) (fun h2=>?_)⟩)⟩
 have hv:=zm7 h1
 obtain⟨hi,_⟩:=z5x hv
 have hl:=z41 hi
 have h2':(zil s.1.1 f&&z0b1 s.1.1 f)=true:=h2
 rw[Bool.and_eq_true]at h2'
 have hrow:=(z1p h2'.1).2.2.2.2.1
 refine⟨s,z3x hsm,_,_,zxx hi hrow,_,_,zl1 (s:=((insF s.1 f).1,s.2)) (z0as hsm hrow hl),?_⟩
 refine z0m (fun h=>⟨s,z3x hsm,by rw[zkq (by unfold zkb;rw[h1,h2'.1,h2'.2,h];rfl)]⟩) (fun h3=>z0m (fun h=>⟨s,z3x hsm,by rw[zkq (by unfold zkb;rw[h1,h2'.1,h2'.2,h3,h];rfl)]⟩) (fun h4=>?_))
 rw[z03a (by unfold zkb;rw[h1,h2'.1,h2'.2,h3,h4];rfl)])
theorem z0bs {s:TSk} {ds:List TDep} {f:z00} (hsm:SmS s) (h1:zqf s ds=true) (h2:zil s.1.1 f=true) (h3:z0b1 s.1.1 f=true):ztu s ds f (isf s ds f).1 (isf s ds f).2:=z0bn _ _ _ _ _ (by
 unfold z01a
 have hv:=zm7 h1
 obtain⟨hi,_⟩:=z5x hv
 have hl:=z41 hi
 have hrow:=(z1p h2).2.2.2.2.1
 refine⟨_,_,zzc hi hrow,z0m (fun h=>⟨s,zba hsm,by rw[zkq (by unfold zkb;rw[h1,h2,h3,h];rfl)]⟩) (fun h4=>⟨trivial,s,zba hsm,_,_,zkv (s:=((insF s.1 f).1,s.2)) (z0as hsm hrow hl),?_⟩)⟩
 refine z0m (fun h=>⟨s,zba hsm,by rw[zkq (by unfold zkb;rw[h1,h2,h3,h4,h];rfl)]⟩) (fun h5=>?_)
 rw[z03a (by unfold zkb;rw[h1,h2,h3,h4,h5];rfl)])
theorem zlh {s:TSk} {ds:List TDep} {f:z00} (hsm:SmS s):z8z s ds f (isf s ds f).1 (isf s ds f).2:=zlo _ _ _ _ _ (by
 unfold zdo
 refine⟨s,zba hsm,_,zxu hsm,z0m (fun h=>by rw[zkq (by unfold zkb;rw[h];rfl)]) (fun h1=>⟨_,zl8,z0m (fun h=>by rw[zkq (by unfold zkb;rw[h1,h];rfl)]) (fun h2=>?_)⟩)⟩
 have hr:=z1p h2
 refine⟨⟨hr.2.1,hr.2.2.1⟩,z0m (fun h=>by rw[zkq (by unfold zkb;rw[h1,h2,show z0b1 s.1.1 f=false from h];rfl)]) (fun h3=>⟨_,_,z0bs hsm h1 h2 h3,rfl⟩)⟩)
theorem law {x0:TSk} {x1:List TDep} {x2:z00} (_:Bnd (h18) x0) (_:Bnd (h25) x1) (_:Bnd (h11) x2):z80 x0 x1 x2 true:=ze9 _ _ _ _ (by
 unfold z7y
 refine⟨_,zql (by omega) (by omega),zj8 (by omega) (fun _=>rfl) fun h1=>?_⟩
 try rw[z1w h1]
 have hB0:bulk k13 x0≤1099511627776:=by omega
 have hS0:bulk k13 x0≤1048576:=by omega
 refine⟨_,zqs (by omega) (by omega),zj8 (by omega) (fun _=>rfl) fun h2=>?_⟩
 try rw[z1w h2]
 have hB1:bulk k19 x1≤1099511627776:=by omega
 have hS1:bulk k19 x1≤1048576:=by omega
 refine⟨_,z01p (by omega) (by omega),zj8 (by omega) (fun _=>rfl) fun h3=>?_⟩
 try rw[z1w h3]
 have hB2:bulk k6 x2≤1099511627776:=by omega
 have hS2:bulk k6 x2≤1048576:=by omega
 refine⟨trivial,?_⟩
 have hn:bulk k13 (isf x0 x1 x2).1≤bulk k13 x0+600:=z0e9
 refine⟨_,z8u (hB0),?_⟩
 refine⟨_,z8t (hB1),?_⟩
 refine⟨_,zj3 (hB2),?_⟩
 refine⟨_,_,(zlh (zz8 hS0)),?_⟩
 refine⟨_,z8u (hB0),?_⟩
 refine⟨_,z8t (hB1),?_⟩
 refine⟨_,zj3 (hB2),?_⟩
 refine⟨_,_,(ze1 (zz8 hS0)),?_⟩
 refine⟨_,z8v,zcs (fun h=>absurd rfl h) fun _=>?_⟩
 refine z02o (fun h=>absurd rfl h) fun _=>?_
 refine⟨_,z8u (hB0),?_⟩
 refine⟨_,z8v,zcs (fun h=>absurd rfl h) fun _=>?_⟩
 refine⟨_,z8t (hB1),?_⟩
 refine⟨_,zq9,zcs (fun h=>absurd rfl h) fun _=>?_⟩
 refine⟨_,zj3 (hB2),?_⟩
 refine⟨_,z02q,zcs (fun h=>absurd rfl h) fun _=>?_⟩
 have w0:=z046 k13 x0
 have q0:scal k13=8:=rfl
 rw[q0]at w0
 have p0_0:bulk k13 x0=((bulk k3 x0.1.1+(bulk k7 x0.1.2.1+0))+(bulk k11 x0.2.1+0)):=rfl
 have p0_1:wt k13 x0=((wt k3 x0.1.1+(wt k7 x0.1.2.1+0))+(wt k11 x0.2.1+0)):=rfl
 have r0_0:bulk k9 x0.1=(bulk k3 x0.1.1+(bulk k7 x0.1.2.1+0)):=rfl
 have r0_1:wt k9 x0.1=(wt k3 x0.1.1+(wt k7 x0.1.2.1+0)):=rfl
 refine⟨_,_,z2g (x0:=x0) (x1:=1) (by omega) (by omega) (by omega),?_⟩
 have w1:=z046 k19 x1
 have q1:scal k19=7:=rfl
 rw[q1]at w1
 have p1_0:bulk k19 x1=x1.length+(x1.map (bulk k18)).sum:=rfl
 refine⟨_,_,z7s (x0:=x1) (x1:=_) (by omega) (by omega) (by omega),?_⟩
 have w2:=z046 k6 x2
 have q2:scal k6=2:=rfl
 rw[q2]at w2
 have p2_0:bulk k6 x2=(0+(bulk k4 x2.2.1+0)):=rfl
 have p2_1:wt k6 x2=(1+(wt k4 x2.2.1+0)):=rfl
 refine⟨_,_,zm6 (x0:=x2) (x1:=_) (by omega) (by omega) (by omega),?_⟩
 rw[z2k (by omega)]
 refine⟨_,z8v,zcs (fun h=>absurd rfl h) fun _=>?_⟩
 refine z02o (fun h=>absurd rfl h) fun _=>?_
 have w3:=z046 k13 (isf x0 x1 x2).1
 have q3:scal k13=8:=rfl
 rw[q3]at w3
 have p3_0:bulk k13 (isf x0 x1 x2).1=((bulk k3 (isf x0 x1 x2).1.1.1+(bulk k7 (isf x0 x1 x2).1.1.2.1+0))+(bulk k11 (isf x0 x1 x2).1.2.1+0)):=rfl
 have p3_1:wt k13 (isf x0 x1 x2).1=((wt k3 (isf x0 x1 x2).1.1.1+(wt k7 (isf x0 x1 x2).1.1.2.1+0))+(wt k11 (isf x0 x1 x2).1.2.1+0)):=rfl
 have r3_0:bulk k9 (isf x0 x1 x2).1.1=(bulk k3 (isf x0 x1 x2).1.1.1+(bulk k7 (isf x0 x1 x2).1.1.2.1+0)):=rfl
 have r3_1:wt k9 (isf x0 x1 x2).1.1=(wt k3 (isf x0 x1 x2).1.1.1+(wt k7 (isf x0 x1 x2).1.1.2.1+0)):=rfl
 refine⟨_,_,z2g (x0:=(isf x0 x1 x2).1) (x1:=1) (by omega) (by omega) (by omega),?_⟩
 refine⟨_,zel (x0:=(isf x0 x1 x2).1) (x1:=1) (by omega) (by omega) (by omega),?_⟩
 rw[z2k (by omega)]
 refine z5s (fun h=>absurd rfl h) fun _=>?_
 refine⟨trivial,?_⟩
 refine⟨_,z8u (hB0),?_⟩
 refine⟨_,z8t (hB1),?_⟩
 refine⟨_,zj3 (hB2),?_⟩
 refine⟨_,_,(ze1 (zz8 hS0)),?_⟩
 refine⟨_,z8v,zcs (fun h=>absurd rfl h) fun _=>?_⟩
 refine z02o (fun h=>absurd rfl h) fun _=>?_
 refine⟨_,zel (x0:=(isf x0 x1 x2).1) (x1:=1) (by omega) (by omega) (by omega),?_⟩
 rw[z2k (by omega)]
 refine z5s (fun h=>absurd rfl h) fun _=>?_
 rfl)
end Go.V

