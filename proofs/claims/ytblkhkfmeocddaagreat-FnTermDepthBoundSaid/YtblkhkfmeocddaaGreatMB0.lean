/-
  The functions that the law reaches: what each gives.
-/
import Derived.Test.YtblkhkfmeocddaaGreatMF
import Derived.Test.YtblkhkfmeocddaaGreatMP
set_option linter.unusedVariables false
set_option linter.unusedSimpArgs false
set_option maxRecDepth 1000000
set_option maxHeartbeats 4000000
set_option linter.unusedVariables false
set_option linter.unusedSimpArgs false
namespace Go.V
open Go
theorem z9l {x0:List Int} (h:x0.length<=1099511627776):z43 x0 (z3k x0):=z06z h
theorem z7t {x0:List Int}:z35 x0 (zc7 x0):=zyp
def cmpI (a b:Int):Int:=if a<b then -1 else if b<a then 1 else 0
def zho:List Int->List Int->Int
 |[],[]=>0
 |[],_::_=>-1
 |_::_,[]=>1
 |a::x,b::y=>if a<b then -1 else if b<a then 1 else zho x y
def zfv (a b:z01):Int:=if a.1<b.1 then -1 else if b.1<a.1 then 1 else zho a.2.1 b.2.1
theorem cmpL_zero:∀ {x y:List Int},zho x y=0↔x=y
 |[],[]=>by simp[zho]
 |[],b::y=>by simp[zho]
 |a::x,[]=>by simp[zho]
 | a::x,b::y=>by
   unfold zho
   split
   . rename_i h;constructor
     . intro h';cases h'
     . intro h';cases h';omega
   . split
     . rename_i h;constructor
       . intro h';cases h'
       . intro h';cases h';omega
     . rw[cmpL_zero]
       have:a=b:=by omega
       simp[this]
theorem cmpF_zero {x y:z01}:zfv x y=0↔x=y:=by
 obtain⟨a,b,u⟩:=x;obtain⟨a',b',u'⟩:=y
 unfold zfv
 simp only
 split
 . rename_i h;constructor
   . intro h';cases h'
   . intro h';cases h';omega
 . split
   . rename_i h;constructor
     . intro h';cases h'
     . intro h';cases h';omega
   . rw[cmpL_zero]
     have:a=a':=by omega
     simp[this]
theorem zwj {x y:List Int} {i:Nat} (h:i<x.length) (h':i<y.length):zho (x.drop i) (y.drop i)=if x[i]<y[i] then -1 else if y[i]<x[i] then 1 else zho (x.drop (i+1)) (y.drop (i+1)):=by
 rw[z6u h,z6u h',zho]
theorem z01n {x y:List Int} {i:Nat} (h:x.length<=i):zho (x.drop i) (y.drop i)=if i<y.length then -1 else 0:=by
 rw[List.drop_of_length_le h]
 by_cases h':i<y.length
 . rw[z6u h',if_pos h'];rfl
 . rw[List.drop_of_length_le (by omega),if_neg h'];rfl
theorem cmpL_end' {x y:List Int} {i:Nat} (h:i<x.length) (h':y.length<=i):zho (x.drop i) (y.drop i)=1:=by
 rw[List.drop_of_length_le h',z6u h];rfl
theorem zl3 {x y:List Int}:zdp x y (zho x y):=z06t _ _ _ (by
 unfold zwr
 refine z17 (fun k a=>∃ i:Nat,i+k=x.length/\a=((i:Int),())/\i<=y.length/\zho (x.drop i) (y.drop i)=zho x y) ?_ ?_ (n:=x.length) ⟨0,by omega,rfl,by omega,by simp⟩
 . rintro a ⟨i,hi,rfl,hy,hc⟩ X
   obtain rfl:i=x.length:=by omega
   rw[z01n (Nat.le_refl _)]at hc
   refine z0h fun h1=>bcN (z0h fun _=>z0h fun h2=>z09 (fun h=>?_) (fun h=>z0h fun _=>z0h fun _=>z09 (fun h'=>by omega) (fun h'=>?_)))
   . rw[if_pos (by omega)]at hc;rw[<-hc]
   . rw[if_neg (by omega)]at hc;rw[<-hc]
 . rintro k a ⟨i,hi,rfl,hy,hc⟩ X hX
   have hlt:i<x.length:=by omega
   refine z0h fun h1=>bcI hlt (z0h fun h2=>z09 (fun h=>?_) (fun h=>?_))
   . have hlt':i<y.length:=by omega
     refine inI hlt (inI hlt' ?_)
     simp only
     rw[z1r hlt,z1r hlt']
     rw[zwj hlt hlt']at hc
     refine z09 (fun h=>?_) (fun h=>inI hlt (inI hlt' (z09 (fun h'=>?_) (fun h'=>?_))))
     . rw[if_pos h]at hc;rw[<-hc]
     . rw[if_neg h,if_pos h']at hc;rw[<-hc]
     . rw[if_neg h,if_neg (by omega)]at hc
       rw[z02 (by omega)]
       exact hX _ ⟨i+1,by omega,rfl,by omega,hc⟩
   . simp only at h
     rw[cmpL_end' hlt (by omega)]at hc
     refine z0h fun _=>z0h fun _=>z09 (fun h'=>by omega) (fun h'=>z0h fun _=>z0h fun _=>z09 (fun h''=>?_) (fun h''=>by omega))
     rw[<-hc])
theorem z8q {x y:z01}:z4f x y (zfv x y):=zor _ _ _ (by
 unfold zha zfv
 refine z09 (fun h=>by rw[if_pos h]) (fun h=>z09 (fun h'=>by rw[if_neg h,if_pos h']) (fun h'=>⟨_,zl3,by rw[if_neg h,if_neg (by omega)]⟩)))
theorem zgj {x:Int}:z8a x false:=zoz _ _ (by unfold zgy;simp)
theorem zdn {x y:Int}:z6h x y (cmpI x y):=zmg _ _ _ (by
 unfold ze0 cmpI
 refine⟨_,zgj,_,zgj,bcF (bcF (z09 (fun h=>by rw[if_pos h]) (fun h=>z09 (fun h'=>by rw[if_neg h,if_pos h']) (fun h'=>by rw[if_neg h,if_neg h']))))⟩)
theorem cmpI_zero {a b:Int}:cmpI a b=0↔a=b:=by unfold cmpI;split<;>(try split)<;>omega
theorem zi3 {x y:List Int}:z6s x y (zho x y):=zi6 _ _ _ (by
 unfold zak
 refine z0h fun h1=>z17 (fun k a=>∃ i:Nat,i+k=x.length/\a=((i:Int),())/\zho (x.drop i) (y.drop i)=zho x y/\i<=y.length) ?_ ?_ (n:=x.length) ⟨0,by omega,rfl,by simp,by omega⟩
 . rintro a ⟨i,hi,rfl,hc,hy⟩ X
   obtain rfl:i=x.length:=by omega
   rw[z01n (Nat.le_refl _)]at hc
   refine bcN (z0h fun _=>z0h fun h2=>z09 (fun h=>?_) (fun h=>?_))
   . rw[if_pos (by omega)]at hc;rw[<-hc]
   . rw[if_neg (by omega)]at hc;rw[<-hc]
 . rintro k a ⟨i,hi,rfl,hc,hy⟩ X hX
   have hlt:i<x.length:=by omega
   refine bcI hlt (inI hlt (z0h fun h2=>z09 (fun h=>?_) (fun h=>?_)))
   . simp only at h
     rw[cmpL_end' hlt (by omega)]at hc
     rw[<-hc]
   . simp only at h
     have hlt':i<y.length:=by omega
     refine inI hlt' ⟨_,zdn,?_⟩
     simp only
     rw[z1r hlt,z1r hlt']
     rw[zwj hlt hlt']at hc
     refine zcx (fun h=>?_) (fun h=>?_)
     . have hne:x[i]≠y[i]:=fun e=>h (cmpI_zero.mpr e)
       rw[<-hc]
       unfold cmpI
       by_cases h3:x[i]<y[i]
       . rw[if_pos h3,if_pos h3]
       . rw[if_neg h3,if_neg h3,if_pos (by omega),if_pos (by omega)]
     . have he:=cmpI_zero.mp h
       rw[if_neg (by omega),if_neg (by omega)]at hc
       rw[z02 (by omega)]
       exact hX _ ⟨i+1,by omega,rfl,hc,by omega⟩)
def orL:List Int->Int
 |[]=>0
 |a::l=>if a=0 then orL l else a
theorem zxp {x:List Int}:zgn x (orL x):=zw2 _ _ (by
 unfold zmy
 have key:∀ l:List Int,orL l=if h:z05 (fun t=>t != 0) l<l.length then l[z05 (fun t=>t != 0) l] else 0:=by
  intro l
  induction l with
  |nil=>simp[orL,z05]
  | cons a l ih=>
    unfold orL
    by_cases ha:a=0
    . rw[if_pos ha,ih]
      simp only[z05,ha,bne_self_eq_false,Bool.false_eq_true,if_false,List.length_cons,Nat.add_lt_add_iff_right,List.getElem_cons_succ]
    . rw[if_neg ha]
      have:(a != 0)=true:=by simpa using ha
      simp[z05,this]
 refine z0h fun hl=>z7v x (fun t=>t != 0) (fun i=>((i:Int),())) (KT:=fun i=>∀ h:i<x.length,((x[i],()):Int×Unit)=(orL x,())) (KF:=(((0:Int),()):Int×Unit)=(orL x,())) ?_ ?_ ?_ ?_
 . intro i hi X h1 h2
   refine bcI hi (inI hi ?_)
   simp only
   rw[z1r hi,z02 (by omega)]
   exact z1k (fun h=>h1 h hi) h2
 . intro X h;exact bcN h
 . intro h h';rw[key,dif_pos h]
 . intro h;rw[key,dif_neg (by omega)])
theorem zox {x y:z01}:zbv x y (zfv x y):=zqt _ _ _ (by
 unfold zgg
 refine⟨_,zdn,_,zi3,_,zxp,?_⟩
 have:orL [cmpI x.1 y.1,zho x.2.1 y.2.1]=zfv x y:=by
  unfold zfv
  by_cases h:x.1<y.1
  . have:cmpI x.1 y.1 = -1:=by unfold cmpI;rw[if_pos h]
    rw[if_pos h,this];rfl
  . rw[if_neg h]
    by_cases h':y.1<x.1
    . have:cmpI x.1 y.1=1:=by unfold cmpI;rw[if_neg h,if_pos h']
      rw[if_pos h',this];rfl
    . have:cmpI x.1 y.1=0:=by unfold cmpI;rw[if_neg h,if_neg h']
      rw[if_neg h',this]
      unfold orL
      rw[if_pos rfl]
      unfold orL
      by_cases h0:zho x.2.1 y.2.1=0
      . rw[if_pos h0,h0];rfl
      . rw[if_neg h0]
 rw[this])
def ins:List Int->Int->List Int
 |[],x=>[x]
 |a::l,x=>if a<x then a::ins l x else if a=x then a::l else x::a::l
def srt (l:List Int):Prop:=l.Pairwise (· < ·)
def zca (l:List Int):List Int:=l.foldl ins []
theorem mem_put {y x:Int}:∀ {l:List Int},y∈ins l x↔y=x\/y∈l
 |[]=>by simp[ins]
 | a::l=>by
   unfold ins
   split
   . rw[List.mem_cons,mem_put,List.mem_cons]
     constructor
     . rintro (h|h|h)<;>simp[h]
     . rintro (h|h|h)<;>simp[h]
   . split
     . rename_i h;subst h;simp
     . simp
theorem z067 {x:Int}:∀ {l:List Int},srt l->srt (ins l x)
 |[],_=>by simp[ins,srt]
 | a::l,h=>by
   obtain⟨h1,h2⟩:=List.pairwise_cons.mp h
   unfold ins
   split
   . rename_i hlt
     refine List.pairwise_cons.mpr ⟨fun y hy=>?_,z067 h2⟩
     rcases mem_put.mp hy with rfl|hy
     . exact hlt
     . exact h1 y hy
   . split
     . exact h
     . refine List.pairwise_cons.mpr ⟨fun y hy=>?_,h⟩
       rcases List.mem_cons.mp hy with rfl|hy
       . omega
       . have:=h1 y hy;omega
theorem z00e {l:List Int}:∀ {s:List Int},srt s->srt (l.foldl ins s)/\∀ y,y∈l.foldl ins s↔y∈s\/y∈l:=by
 induction l with
 |nil=>intro s h;exact⟨h,by simp⟩
 | cons a l ih=>
   intro s h
   obtain⟨h1,h2⟩:=ih (z067 (x:=a) h)
   refine⟨h1,fun y=>?_⟩
   rw[List.foldl_cons,h2,mem_put,List.mem_cons]
   constructor
   . rintro ((h|h)|h)<;>simp[h]
   . rintro (h|h|h)<;>simp[h]
theorem zll (l:List Int):srt (zca l):=(z00e List.Pairwise.nil).1
theorem mem_sset {l:List Int} {y:Int}:y∈zca l↔y∈l:=by have:=(z00e (l:=l) List.Pairwise.nil).2 y;simpa [zca]using this
theorem z08p:∀ {a b:List Int},srt a->srt b->(∀ y,y∈a↔y∈b)->a=b
 |[],[],_,_,_=>rfl
 |[],y::b,_,_,h=>by have:=(h y).mpr (by simp);simp at this
 |x::a,[],_,_,h=>by have:=(h x).mp (by simp);simp at this
 | x::a,y::b,ha,hb,h=>by
   obtain⟨ha1,ha2⟩:=List.pairwise_cons.mp ha
   obtain⟨hb1,hb2⟩:=List.pairwise_cons.mp hb
   have hxy:x=y:=by
    rcases List.mem_cons.mp ((h x).mp (by simp))with e|hx
    . exact e
    . rcases List.mem_cons.mp ((h y).mpr (by simp))with e|hy
      . exact e.symm
      . have:=ha1 y hy;have:=hb1 x hx;omega
   subst hxy
   congr 1
   refine z08p ha2 hb2 fun z=>⟨fun hz=>?_,fun hz=>?_⟩
   . rcases List.mem_cons.mp ((h z).mp (by simp[hz]))with e|h'
     . have:=ha1 z hz;omega
     . exact h'
   . rcases List.mem_cons.mp ((h z).mpr (by simp[hz]))with e|h'
     . have:=hb1 z hz;omega
     . exact h'
theorem z060 {a l:List Int} (h1:srt a) (h2:∀ y,y∈a↔y∈l):a=zca l:=z08p h1 (zll l) fun y=>by rw[h2,mem_sset]
theorem zyh {l m:List Int}:(zca m).foldl ins (zca l)=zca (l++m):=by
 obtain⟨h1,h2⟩:=z00e (l:=zca m) (zll l)
 exact z060 h1 fun y=>by rw[h2,mem_sset,mem_sset,List.mem_append]
theorem zq7 {l:List Int} {x:Int}:ins (zca l) x=zca (l++[x]):=by unfold zca;rw[List.foldl_append];rfl
theorem z07z (l:List Int) (x:Int):(ins l x).length<=l.length+1:=by
 induction l with
 |nil=>simp[ins]
 |cons a l ih=>unfold ins;split;simp;omega;split<;>simp
theorem zuf (l:List Int):(zca l).length<=l.length:=by
 have:∀(l s:List Int),(l.foldl ins s).length<=s.length+l.length:=by
  intro l
  induction l with
  |nil=>intro s;simp
  |cons a l ih=>intro s;have:=ih (ins s a);have:=z07z s a;simp only[List.foldl_cons,List.length_cons];omega
 have:=this l []
 simpa [zca]using this
theorem zyr {l:List Int} {a:Int}:∀ {n:Nat},srt l->(∀ y∈l,a<=y/\y<a+n)->l.length<=n:=by
 induction l generalizing a with
 |nil=>intro n _ _;simp
 | cons x l ih=>
   intro n h hr
   obtain⟨h1,h2⟩:=List.pairwise_cons.mp h
   have hx:=hr x (by simp)
   have:=ih (a:=x+1) (n:=(a+n - (x+1)).toNat) h2 fun y hy=>by
    have:=h1 y hy;have:=hr y (by simp[hy]);omega
   simp only[List.length_cons];omega
theorem z0as {l:List Int} (h:srt l) (hne:l≠[]):∀ y∈l,y<=l.getLast hne:=by
 intro y hy
 have hs:l=l.dropLast++[l.getLast hne]:=(List.dropLast_concat_getLast hne).symm
 rw[hs]at h hy
 unfold srt at h
 rw[List.pairwise_append]at h
 rcases List.mem_append.mp hy with hy|hy
 . have:=h.2.2 y hy (l.getLast hne) (by simp);omega
 . have:y=l.getLast hne:=by simpa using hy
   omega
theorem z0fc (l:List Int) (x:Int):ins l x=if h:z05 (fun a=>!decide (a<x)) l<l.length then(if l[z05 (fun a=>!decide (a<x)) l]=x then l else l.take (z05 (fun a=>!decide (a<x)) l)++x::l.drop (z05 (fun a=>!decide (a<x)) l))else l++[x]:=by
 induction l with
 |nil=>simp[ins,z05]
 | cons a l ih=>
   unfold ins
   by_cases ha:a<x
   . have e:z05 (fun a=>!decide (a<x)) (a::l)=z05 (fun a=>!decide (a<x)) l+1:=by simp[z05,ha]
     rw[if_pos ha,ih]
     by_cases hf:z05 (fun a=>!decide (a<x)) l<l.length
     . rw[dif_pos hf,dif_pos (by rw[e];simpa using hf)]
       simp only[e,List.getElem_cons_succ,List.take_succ_cons,List.drop_succ_cons]
       split
       . rfl
       . rfl
     . rw[dif_neg hf,dif_neg (by rw[e];simpa using hf)]
       rfl
   . have e:z05 (fun a=>!decide (a<x)) (a::l)=0:=by simp[z05,ha]
     rw[if_neg ha,dif_pos (by rw[e];simp)]
     simp only[e,List.getElem_cons_zero,List.take_zero,List.drop_zero,List.nil_append]
theorem zo7 {l:List Int} {x:Int} (hl:l.length<=1073741824):zhr l x (ins l x):=z0b7 _ _ _ (by
 unfold z02n
 have fin:∀(k:Nat),k<=l.length->((0<=(k:Int)/\(k:Int)<=(List.length l:Int)/\(List.length l:Int)<=(List.length l:Int))/\(([x]:List Int).length+(List.drop (Int.toNat (k:Int)) (List.take (Int.toNat (List.length l:Int)) l)).length<=z1b/\((0<=(0:Int)/\(0:Int)<=(k:Int)/\(k:Int)<=(List.length l:Int))/\(([]:List Int).length+(List.drop (Int.toNat (0:Int)) (List.take (Int.toNat (k:Int)) l)).length<=z1b/\((([]:List Int)++(List.drop (Int.toNat (0:Int)) (List.take (Int.toNat (k:Int)) l))).length+(([x]:List Int)++(List.drop (Int.toNat (k:Int)) (List.take (Int.toNat (List.length l:Int)) l))).length<=z1b/\(((([]:List Int)++(List.drop (Int.toNat (0:Int)) (List.take (Int.toNat (k:Int)) l)))++(([x]:List Int)++(List.drop (Int.toNat (k:Int)) (List.take (Int.toNat (List.length l:Int)) l))),()):List Int×Unit)=(l.take k++x::l.drop k,()))))) ):=by
  intro k hk
  simp only[Int.toNat_natCast,List.take_length,Int.toNat_zero,List.drop_zero,List.nil_append,List.length_nil,List.length_cons,List.length_append,List.length_take,List.length_drop,z1b,List.cons_append]
  refine⟨⟨by omega,by omega,by omega⟩,by omega,⟨by omega,by omega,by omega⟩,by omega,by omega,trivial⟩
 rw[z0fc]
 refine z7v l (fun a=>!decide (a<x)) (fun i=>((i:Int),())) (KT:=fun i=>∀ h:i<l.length,∀ r:List Int×Unit,r=(if l[i]=x then l else l.take i++x::l.drop i,())->r=((if h:z05 (fun a=>!decide (a<x)) l<l.length then(if l[z05 (fun a=>!decide (a<x)) l]=x then l else l.take (z05 (fun a=>!decide (a<x)) l)++x::l.drop (z05 (fun a=>!decide (a<x)) l))else l++[x]),()))
  (KF:=∀ r:List Int×Unit,r=(l++[x],())->r=((if h:z05 (fun a=>!decide (a<x)) l<l.length then(if l[z05 (fun a=>!decide (a<x)) l]=x then l else l.take (z05 (fun a=>!decide (a<x)) l)++x::l.drop (z05 (fun a=>!decide (a<x)) l))else l++[x]),())) ?_ ?_ ?_ ?_
 . intro i hi X h1 h2
   refine z0h fun hl'=>bcI hi (inI hi ?_)
   simp only
   rw[z1r hi,z02 (by omega)]
   refine z09 (fun h=>h2 (by simpa using h)) (fun h=>?_)
   have h1:=h1 (by simpa using h) hi
   refine z0h fun _=>bcI hi (inI hi (z3z (fun he=>h1 _ (by rw[if_pos he])) (fun he=>?_)))
   rw[if_neg he]at h1
   have:=fin i (by omega)
   exact⟨this.1,this.2.1,this.2.2.1,this.2.2.2.1,this.2.2.2.2.1,h1 _ this.2.2.2.2.2⟩
 . intro X h
   refine z0h fun hl'=>bcN (z0h fun _=>bcN ?_)
   have:=fin l.length (by omega)
   refine⟨this.1,this.2.1,this.2.2.1,this.2.2.2.1,this.2.2.2.2.1,h _ (this.2.2.2.2.2.trans (by simp))⟩
 . intro h h' r hr;rw[hr,dif_pos h]
 . intro h r hr;rw[hr,dif_neg (by omega)])
theorem zl5 {l:List Int} {x:Int}:ze4 l x (decide (x∈l)):=z0be _ _ _ (by
 unfold z01j
 refine z6f l (fun a=>x == a) (fun i=>((i:Int),())) (KT:=((true,()):Bool×Unit)=(decide (x∈l),())) (KF:=((false,()):Bool×Unit)=(decide (x∈l),())) ?_ (fun X h=>z0h fun _=>bcN h) (fun h=>?_) (fun h=>?_)
 . intro i hi X h1 h2
   refine z0h fun _=>bcI hi (inI hi ?_)
   simp only
   rw[z1r hi,z02 (by omega)]
   exact z3z (fun h=>h1 (by simp[h])) (fun h=>h2 (by simpa using fun e=>h e.symm))
 . rw[zty]at h;rw[h]
 . rw[zty]at h;rw[h])
theorem zxv {l:List Int} {y:Int}:y∈z3k l↔y∈l:=by unfold z3k;simp
theorem zyx (l:List Int):(z3k l).Pairwise (·<=·):=by
 unfold z3k
 have:=List.pairwise_mergeSort (le:=fun a b:Int=>decide (a<=b)) (fun a b c h1 h2=>by simp at *;omega) (fun a b=>by simp;omega) l
 exact this.imp fun h=>by simpa using h
theorem zyf (l:List Int):zc7 (z3k l)=zca l:=by
 have hs:=zyx l
 have hget:∀ i j (hi:i<(z3k l).length) (hj:j<(z3k l).length),i<=j->(z3k l)[i]<=(z3k l)[j]:=by
  intro i j hi hj h
  rcases Nat.lt_or_ge i j with h|h
  . exact List.pairwise_iff_getElem.mp hs i j hi hj h
  . have:i=j:=by omega
    subst this;omega
 have ex:zc7 (z3k l)=((List.range (z3k l).length).filter (Lib.keeps (z3k l).toArray)).map ((z3k l).toArray[·]!):=rfl
 refine z060 ?_ ?_
 . rw[ex]
   unfold srt
   rw[List.pairwise_map,List.pairwise_filter]
   refine List.Pairwise.imp_of_mem (R:=(· < ·)) ?_ List.pairwise_lt_range
   intro i j hi hj hij _ kj
   have hi:=List.mem_range.mp hi;have hj:=List.mem_range.mp hj
   have e1:(z3k l).toArray[i]! = (z3k l)[i]:=by simp[hi]
   have e2:(z3k l).toArray[j]! = (z3k l)[j]:=by simp[hj]
   have e3:(z3k l).toArray[j - 1]! = (z3k l)[j - 1]'(by omega):=by rw[getElem!_pos (z3k l).toArray (j - 1) (by simp;omega)];rfl
   rw[e1,e2]
   unfold Lib.keeps at kj
   rw[e2,e3]at kj
   have h1:=hget i (j - 1) hi (by omega) (by omega)
   have h2:=hget (j - 1) j (by omega) hj (by omega)
   rcases of_decide_eq_true kj with h|h
   . omega
   . omega
 . intro y
   rw[ex,List.mem_map]
   constructor
   . rintro⟨j,hj,rfl⟩
     have hj:=List.mem_range.mp (List.mem_filter.mp hj).1
     have e:(z3k l).toArray[j]! = (z3k l)[j]:=by simp[hj]
     rw[e,<-zxv];exact List.getElem_mem hj
   . intro hy
     rw[<-zxv]at hy
     have hf:z05 (fun t=>t == y) (z3k l)<(z3k l).length:=firstAt_any.mpr (List.any_eq_true.mpr ⟨y,hy,by simp⟩)
     have h2:=z7q hf
     have h3:(z3k l)[z05 (fun t=>t == y) (z3k l)]=y:=by simpa using h2
     refine⟨z05 (fun t=>t == y) (z3k l),List.mem_filter.mpr ⟨List.mem_range.mpr hf,?_⟩,by simp[hf,h3]⟩
     unfold Lib.keeps
     rw[decide_eq_true_iff]
     by_cases h0:z05 (fun t=>t == y) (z3k l)=0
     . exact .inl h0
     . right
       have hlt:z05 (fun t=>t == y) (z3k l) - 1<(z3k l).length:=by omega
       have h4:=z98 (p:=fun t=>t == y) (l:=z3k l) hlt (by omega)
       have e1:(z3k l).toArray[z05 (fun t=>t == y) (z3k l)]! = y:=by simp[hf,h3]
       have e2:(z3k l).toArray[z05 (fun t=>t == y) (z3k l) - 1]! = (z3k l)[z05 (fun t=>t == y) (z3k l) - 1]:=by simp[hlt]
       rw[e1,e2]
       intro e
       rw[<-e]at h4;simp at h4
def inR (x a b:Int):Bool:=decide (a<=x)&&decide (x<=b)
theorem z3r {α:Type} {p:α->Bool} {l:List α}:(l.any fun t=>!p t) = !(l.all p):=by
 induction l with
 |nil=>rfl
 |cons a l ih=>simp only[List.any_cons,List.all_cons,ih];cases p a<;>simp
theorem nt {b:Bool} (h:(!b)=true):b=false:=by simpa using h
theorem nf {b:Bool} (h:(!b)=false):b=true:=by simpa using h
theorem zbj {α β:Type} (f:α->List β) {l:List α} {i:Nat} (h:i<l.length):(l.flatMap f).length=((l.take i).flatMap f).length+((f l[i]).length+((l.drop (i+1)).flatMap f).length):=by
 have e:l=l.take i++l[i]::l.drop (i+1):=by rw[<-z6u h,List.take_append_drop]
 have:=congrArg (fun m=>(m.flatMap f).length) e
 simp only[List.flatMap_append,List.flatMap_cons,List.length_append]at this
 exact this
theorem inR_iff {x a b:Int}:inR x a b=true↔a<=x/\x<=b:=by simp[inR]
theorem z0bs:∀ {a b:List UInt8},(Op.bytesLess b a||b == a) = !(Op.bytesLess a b)
 |[],[]=>by decide
 |[],y::b=>by simp[Op.bytesLess]
 |x::a,[]=>by simp[Op.bytesLess]
 | x::a,y::b=>by
   have ih:=z0bs (a:=a) (b:=b)
   simp only[Op.bytesLess]
   by_cases h:y<x
   . have h2:¬ x<y:=UInt8.lt_asymm h
     have h3:¬ x=y:=by rintro rfl;exact UInt8.lt_irrefl _ h
     simp[h,h2,h3]
   . by_cases h2:x<y
     . have h3:¬ y=x:=by rintro rfl;exact h h2
       simp[h,h2,h3]
     . have h3:x=y:=UInt8.le_antisymm (UInt8.not_lt.mp h) (UInt8.not_lt.mp h2)
       subst h3
       simp only[h,decide_false,beq_self_eq_true,Bool.true_and,Bool.false_or]
       rw[<-ih]
       by_cases h4:b=a<;>simp[h4]
def znh (r:z0m):Bool:=(r.1.length == 1)&&decide (97<=(r.1.getD 0 0).toNat)&&decide ((r.1.getD 0 0).toNat<=122)&&inR r.2.1 1 3
def zeg (l:List z0m) (i:Nat):z0m:=l.getD i zg5
def z90 (l:List z0m):Bool:=((List.range l.length).all fun i=>znh (zeg l i)&&(i == 0||Op.bytesLess (zeg l (i - 1)).1 (zeg l i).1))&&decide (l.length<=6)
theorem zgt {l:List z0m} {i:Nat} (h:i<l.length):zeg l i=l[i]:=z16 h
theorem z62 {l:List z0m} (h:z90 l=true) {r:z0m} (hr:r∈l):znh r=true:=by
 unfold z90 at h
 rw[Bool.and_eq_true]at h
 obtain⟨i,hi,rfl⟩:=List.mem_iff_getElem.mp hr
 have:=List.all_eq_true.mp h.1 i (List.mem_range.mpr hi)
 rw[Bool.and_eq_true,zgt hi]at this
 exact this.1
theorem zbr {l:List z0m} (h:z90 l=true):l.length<=6:=by
 unfold z90 at h;simp at h;exact h.2
theorem zbc {r:z0m} (h:znh r=true):1<=r.2.1/\r.2.1<=3:=by
 unfold znh at h;simp[inR]at h;exact h.2
def zj8 (l:List z0m) (i:Int):Int:=(l.getD (Int.toNat i) zg5).2.1
def z83 (l:List z0m) (i:Int):Bool:=(l.getD (Int.toNat i) zg5).2.2.1
def zvy (ok:Int->Bool) (l:List z0m) (a:z01):Bool:=z90 l&&inR a.1 0 ((l.length:Int) - 1)&&((a.2.1.length:Int) == zj8 l a.1)&&a.2.1.all ok
theorem z2e {ok:Int->Bool} {l:List z0m} {a:z01} (h:zvy ok l a=true):z90 l=true/\0<=a.1/\a.1<l.length/\(a.2.1.length:Int)=zj8 l a.1/\a.2.1.length<=3/\∀ v∈a.2.1,ok v=true:=by
 unfold zvy at h
 simp only[Bool.and_eq_true,beq_iff_eq,List.all_eq_true]at h
 obtain⟨⟨⟨h1,h2⟩,h3⟩,h4⟩:=h
 have h2:=inR_iff.mp h2
 have hlt:a.1.toNat<l.length:=by omega
 have:=zbc (z62 h1 (List.getElem_mem hlt))
 have e:zj8 l a.1=l[a.1.toNat].2.1:=by unfold zj8;rw[z16 hlt]
 exact⟨h1,h2.1,by omega,h3,by omega,h4⟩
def z04l (t:Int):Bool:=inR t (-10) 4
def z5e (l:List z0m) (a:z01):Bool:=zvy z04l l a
def vars (l:List z01):List Int:=zca ((l.flatMap (·.2.1)).filter fun t=>decide (0<=t))
def zhf (l:List z0m) (d:z0b):Bool:=inR d.1.length 1 2&&d.1.all (z5e l) &&
 (if d.2.2.1 then decide (d.2.1=[])&&decide (d.2.2.2.1∈vars d.1)&&decide (d.2.2.2.2.1∈vars d.1)&&decide (d.2.2.2.1<d.2.2.2.2.1)
  else d.2.1.all (fun a=>z5e l a && !(z83 l a.1))&&inR d.2.1.length 1 2&&(d.2.2.2.1 == 0)&&(d.2.2.2.2.1 == 0))
def ze2 (l:List z0m) (ds:List z0b):Bool:=ds.all (zhf l)&&z90 l&&decide (ds.length<=5)
def exV (d:z0b):List Int:=(vars d.2.1).filter fun v=>!decide (v∈vars d.1)
def frV (d:z0b):List Int:=(vars d.2.1).filter fun v=>decide (v∈vars d.1)
theorem zli {l:List z0m} {ats:List z01} (h:ats.all (z5e l)=true):(ats.flatMap (·.2.1)).length<=3 * ats.length:=by
 induction ats with
 |nil=>simp
 | cons a ats ih=>
   simp only[List.all_cons,Bool.and_eq_true]at h
   have h1:=(z2e h.1).2.2.2.2.1
   have:=ih h.2
   simp only[List.flatMap_cons,List.length_append,List.length_cons]
   omega
theorem zhq (l:List z01):(vars l).length<=(l.flatMap (·.2.1)).length:=Nat.le_trans (zuf _) (List.length_filter_le _ _)
theorem z5f {x a b:Int}:z4l x a b (inR x a b):=z0ed _ _ _ _ (by
 unfold z078 inR
 refine z09 (fun h=>?_) (fun h=>?_)
 . rw[decide_eq_true (show a<=x from h),Bool.true_and]
 . rw[decide_eq_false (show ¬ a<=x from h),Bool.false_and])
theorem z3b {x a b:Int}:z2q x a b (inR x a b):=z068 _ _ _ _ (by
 unfold zwy inR
 refine z09 (fun h=>?_) (fun h=>?_)
 . rw[decide_eq_true h,Bool.true_and]
 . rw[decide_eq_false h,Bool.false_and])
theorem zld {r:z0m}:z8c r (znh r):=zjy _ _ (by
 unfold zci
 have no:∀ {b:Bool},znh r=b->((b,()):Bool×Unit)=(znh r,()):=fun h=>by rw[h]
 refine z0h fun _=>z3z (fun h=>?_) (fun h=>no ?_)
 . have h1:r.1.length=1:=by omega
   refine⟨⟨by omega,by omega⟩,?_⟩
   refine z09 (fun h2=>⟨⟨by omega,by omega⟩,z09 (fun h3=>⟨_,z5f,no ?_⟩) (fun h3=>no ?_)⟩) (fun h2=>no ?_)
   . unfold znh
     have a1:decide (97<=(r.1.getD 0 0).toNat)=true:=decide_eq_true (by have h2:(97:Int)<=((r.1.getD 0 0).toNat:Int):=h2;omega)
     have a2:decide ((r.1.getD 0 0).toNat<=122)=true:=decide_eq_true (by have h3:((r.1.getD 0 0).toNat:Int)<=122:=h3;omega)
     rw[a1,a2];simp[h1]
   . unfold znh
     have a2:decide ((r.1.getD 0 0).toNat<=122)=false:=decide_eq_false (by have h3:¬ ((r.1.getD 0 0).toNat:Int)<=122:=h3;omega)
     rw[a2];simp
   . unfold znh
     have a1:decide (97<=(r.1.getD 0 0).toNat)=false:=decide_eq_false (by have h2:¬ (97:Int)<=((r.1.getD 0 0).toNat:Int):=h2;omega)
     rw[a1];simp
 . unfold znh
   have:(r.1.length == 1)=false:=by simp;omega
   rw[this];simp)
theorem z01o {l:List z0m} {i:Nat} (h:i<l.length) (hp:(znh (zeg l i)&&(i == 0||Op.bytesLess (zeg l (i - 1)).1 (zeg l i).1))=false):z90 l=false:=by
 unfold z90
 rw[Bool.and_eq_false_iff];left
 rw[Bool.eq_false_iff];intro hall
 have:=List.all_eq_true.mp hall i (List.mem_range.mpr h)
 rw[hp]at this;cases this
theorem zxj {l:List z0m} (hp:∀ i,i<l.length->(!(znh (zeg l i)&&(i == 0||Op.bytesLess (zeg l (i - 1)).1 (zeg l i).1)))=false):z90 l=decide (l.length<=6):=by
 unfold z90
 have:((List.range l.length).all fun i=>znh (zeg l i)&&(i == 0||Op.bytesLess (zeg l (i - 1)).1 (zeg l i).1))=true:=
  List.all_eq_true.mpr fun i hi=>by have:=hp i (List.mem_range.mp hi);rwa [Bool.not_eq_false']at this
 rw[this,Bool.true_and]
theorem z21 {l:List z0m}:z1m l (z90 l):=zib _ _ (by
 unfold zau
 refine z73 l.length (fun i=>!(znh (zeg l i)&&(i == 0||Op.bytesLess (zeg l (i - 1)).1 (zeg l i).1))) (fun i=>((i:Int),())) (KT:=((false,()):Bool×Unit)=(z90 l,())) (KF:=((decide ((List.length l:Int)<=6),()):Bool×Unit)=(z90 l,())) ?_ (fun X h=>z0h fun _=>bcN (z0h fun _=>h)) ?_ ?_
 . intro i hi X hb h1 h2
   refine z0h fun hl=>bcI hi (inI hi ⟨_,zld,?_⟩)
   simp only
   rw[z1r hi,z02 (by omega)]
   rw[zgt hi]at h1 h2
   refine z0p (fun h=>h1 (by simp[h])) (fun h=>z09 (fun h0=>?_) (fun h0=>h2 (by obtain rfl:i=0:=(by omega);simp[h])))
   have hi':i - 1<l.length:=by omega
   have hw:w64 ((i:Int) - 1)=((i - 1:Nat):Int):=by rw[z19 (by omega) (by omega)];omega
   rw[hw]
   refine inI hi' (inI hi ?_)
   rw[z1r hi']
   rw[zgt hi']at h1 h2
   have hz:(i == 0)=false:=by simp;omega
   rw[hz,Bool.false_or,h,Bool.true_and]at h1 h2
   exact z1k (fun h=>h1 h) (fun h=>h2 h)
 . rintro⟨i,hi,hp⟩
   rw[z01o hi (by rwa [Bool.not_eq_true']at hp)]
 . intro hp
   rw[zxj hp]
   congr 1
   exact decide_eq_decide.mpr (by omega))
theorem zke {r:z0m}:z7x r (znh r):=zle _ _ (by
 unfold zcd
 have no:∀ {b:Bool},znh r=b->((b,()):Bool×Unit)=(znh r,()):=fun h=>by rw[h]
 refine z0h fun _=>z3z (fun h=>?_) (fun h=>no ?_)
 . have h1:r.1.length=1:=by omega
   obtain⟨c,hc⟩:∃ c,r.1=[c]:=List.length_eq_one_iff.mp h1
   rw[hc]
   have e1:(!(Op.bytesLess [c] [97]))=decide (97<=c.toNat):=by
    simp only[Op.bytesLess,Bool.and_false,Bool.or_false]
    by_cases h:c<97
    . have:c.toNat<97:=h
      simp[h];omega
    . have:¬ c.toNat<97:=h
      simp[h];omega
   have e2:(Op.bytesLess [c] [122]||[c] == [122])=decide (c.toNat<=122):=by
    simp only[Op.bytesLess,Bool.and_false,Bool.or_false]
    by_cases h:c<122
    . have:c.toNat<122:=h
      simp[h];omega
    . have:¬ c.toNat<122:=h
      by_cases h2:c=122
      . subst h2;simp
      . have h3:c.toNat≠122:=fun e=>h2 (UInt8.toNat_inj.mp e)
        have d2:([c] == [(122:UInt8)])=false:=by simp[h2]
        rw[decide_eq_false h,d2,decide_eq_false (by omega)];rfl
   rw[e1,e2]
   refine z09 (fun h2=>z09 (fun h3=>⟨_,z3b,no ?_⟩) (fun h3=>no ?_)) (fun h2=>no ?_)
   . unfold znh;rw[hc];simp[h2,h3]
   . unfold znh;rw[hc]
     show((1 == 1)&&decide (97<=c.toNat)&&decide (c.toNat<=122)&&inR r.2.1 1 3)=false
     rw[decide_eq_false h3];simp
   . unfold znh;rw[hc]
     show((1 == 1)&&decide (97<=c.toNat)&&decide (c.toNat<=122)&&inR r.2.1 1 3)=false
     rw[decide_eq_false h2];simp
 . unfold znh
   have:(r.1.length == 1)=false:=by simp;omega
   rw[this];simp)
theorem z2m {l:List z0m}:z1l l (z90 l):=zi9 _ _ (by
 unfold zas
 refine z0h fun hl=>z73 l.length (fun i=>!(znh (zeg l i)&&(i == 0||Op.bytesLess (zeg l (i - 1)).1 (zeg l i).1))) (fun i=>((i:Int),())) (KT:=((false,()):Bool×Unit)=(z90 l,())) (KF:=((decide ((List.length l:Int)<=6),()):Bool×Unit)=(z90 l,())) ?_ (fun X h=>bcN (z0h fun _=>h)) ?_ ?_
 . intro i hi X hb h1 h2
   refine bcI hi (inI hi ⟨_,zke,?_⟩)
   simp only
   rw[z1r hi,z02 (by omega)]
   rw[zgt hi]at h1 h2
   refine z0p (fun h=>h1 (by simp[h])) (fun h=>z09 (fun h0=>?_) (fun h0=>h2 (by obtain rfl:i=0:=(by omega);simp[h])))
   have hi':i - 1<l.length:=by omega
   have hw:w64 ((i:Int) - 1)=((i - 1:Nat):Int):=by rw[z19 (by omega) (by omega)];omega
   rw[hw]
   refine inI hi' ?_
   rw[z1r hi']
   rw[zgt hi']at h1 h2
   have hz:(i == 0)=false:=by simp;omega
   rw[hz,Bool.false_or,h,Bool.true_and]at h1 h2
   rw[z0bs]
   exact z1k (fun h=>h1 h) (fun h=>h2 h)
 . rintro⟨i,hi,hp⟩
   rw[z01o hi (by rwa [Bool.not_eq_true']at hp)]
 . intro hp
   rw[zxj hp]
   congr 1
   exact decide_eq_decide.mpr (by omega))
theorem row_start {l:List z0m} {a:z01} (h:inR a.1 0 (w64 ((l.length:Int) - 1))=true) (hl:(l.length:Int)<=9223372036854775807):0<=a.1/\a.1<(l.length:Int):=by
 have:=inR_iff.mp h
 rw[z19 (by omega) (by omega)]at this
 omega
theorem row_range {l:List z0m} {a:z01} (hl:(l.length:Int)<=9223372036854775807):inR a.1 0 (w64 ((l.length:Int) - 1))=inR a.1 0 ((l.length:Int) - 1):=by
 rw[z19 (by omega) (by omega)]
theorem row_no1 {ok:Int->Bool} {l:List z0m} {a:z01} (h:z90 l=false):((false,()):Bool×Unit)=(zvy ok l a,()):=by unfold zvy;rw[h];simp
theorem row_no2 {ok:Int->Bool} {l:List z0m} {a:z01} (hl:(l.length:Int)<=9223372036854775807) (h:inR a.1 0 (w64 ((l.length:Int) - 1))=false):((false,()):Bool×Unit)=(zvy ok l a,()):=by
 rw[row_range hl]at h;unfold zvy;rw[h];simp
theorem row_no3 {ok:Int->Bool} {l:List z0m} {a:z01} (h:(a.2.1.length:Int)≠(l.getD (Int.toNat a.1) zg5).2.1):((false,()):Bool×Unit)=(zvy ok l a,()):=by
 have:((a.2.1.length:Int) == zj8 l a.1)=false:=by simpa [zj8]using h
 unfold zvy;rw[this];simp
theorem row_yes {ok:Int->Bool} {l:List z0m} {a:z01} {b:Bool} (hl:(l.length:Int)<=9223372036854775807) (h1:z90 l=true) (h2:inR a.1 0 (w64 ((l.length:Int) - 1))=true) (h3:(a.2.1.length:Int)=(l.getD (Int.toNat a.1) zg5).2.1) (hb:b=a.2.1.all ok):((b,()):Bool×Unit)=(zvy ok l a,()):=by
 rw[row_range hl]at h2
 have:((a.2.1.length:Int) == zj8 l a.1)=true:=by simpa [zj8]using h3
 unfold zvy;rw[h1,h2,this,hb];simp
theorem zd7 {l:List z0m} {a:z01}:z7a l a (z5e l a):=zr1 _ _ _ (by
 unfold ziy z5e
 refine⟨_,z21,z0p (fun h=>row_no1 h) (fun h1=>z0h fun hl=>⟨_,z5f,z0p (fun h=>row_no2 hl h) (fun h2=>z0h fun hl2=>⟨row_start h2 hl,zcx (fun h=>row_no3 h) (fun h3=>?_)⟩)⟩)⟩
 refine z6f a.2.1 (fun t=>!z04l t) (fun i=>((i:Int),())) (KT:=((false,()):Bool×Unit)=(zvy z04l l a,())) (KF:=((true,()):Bool×Unit)=(zvy z04l l a,())) ?_ (fun X h=>z0h fun _=>bcN h) ?_ ?_
 . intro i hi X q1 q2
   refine z0h fun _=>bcI hi (inI hi ⟨_,z5f,?_⟩)
   simp only
   rw[z1r hi,z02 (by omega)]
   exact z1k (fun h=>q1 h) (fun h=>q2 h)
 . intro h;exact row_yes hl h1 h2 h3 (by rw[z3r]at h;exact(nt h).symm)
 . intro h;exact row_yes hl h1 h2 h3 (by rw[z3r]at h;exact(nf h).symm))
theorem znv {t:Int}:z3t t (!z04l t):=znm _ _ (by unfold zfb;exact⟨_,z3b,rfl⟩)
theorem zrq {l:List z0m} {a:z01}:zcw l a (z5e l a):=zrl _ _ _ (by
 unfold zik z5e
 refine⟨_,z2m,z0p (fun h=>row_no1 h) (fun h1=>z0h fun hl=>⟨_,z3b,z0p (fun h=>row_no2 hl h) (fun h2=>z0h fun hl2=>⟨row_start h2 hl,zcx (fun h=>row_no3 h) (fun h3=>?_)⟩)⟩)⟩
 exact⟨_,z52 (fun t=>!z04l t) (fun _ _=>znv),row_yes hl h1 h2 h3 (by rw[z3r];simp)⟩)
theorem z7s {l:List z01} (hl:(l.flatMap (·.2.1)).length<=1073741824):z4p l (vars l):=zya _ _ (by
 unfold zmx
 refine z0u l.length (fun i=>((i:Int),(vars (l.take i),()))) (by simp[vars,zca]) ?_ ?_
 . intro i hi X hX
   refine z0h fun hl1=>bcI hi ?_
   simp only
   rw[z1r hi]
   have hsub:((l.take i).flatMap (·.2.1)).length+l[i].2.1.length<=1073741824:=by
    have:=zbj (·.2.1) hi
    omega
   have hset:∀ j,j<=l[i].2.1.length->(zca (((l.take i).flatMap (·.2.1)++l[i].2.1.take j).filter fun t=>decide (0<=t))).length<=1073741824:=by
    intro j hj
    refine Nat.le_trans (zuf _) (Nat.le_trans (List.length_filter_le _ _) ?_)
    rw[List.length_append,List.length_take];omega
   refine z0u l[i].2.1.length (fun j=>(zca (((l.take i).flatMap (·.2.1)++l[i].2.1.take j).filter fun t=>decide (0<=t)),((j:Int),()))) (by simp[vars]) ?_ ?_
   . intro j hj Y hY
     refine inI hi (z0h fun _=>bcI hj (inI hi (inI hj ?_)))
     simp only
     rw[z1r hj,z02 (by omega)]
     have e:((l.take i).flatMap (·.2.1)++l[i].2.1.take (j+1)).filter (fun t=>decide (0<=t))=((l.take i).flatMap (·.2.1)++l[i].2.1.take j).filter (fun t=>decide (0<=t))++(if 0<=l[i].2.1[j] then[l[i].2.1[j]] else[]):=by
      rw[z08 hj,<-List.append_assoc,List.filter_append]
      by_cases h:0<=l[i].2.1[j]<;>simp[h]
     rw[e]at hY
     refine z09 (fun h=>inI hi (inI hj ⟨_,zo7 (hset j (by omega)),?_⟩)) (fun h=>?_)
     . have h:0<=l[i].2.1[j]:=h
       rw[if_pos h]at hY
       rw[zq7];exact hY
     . have h:¬ 0<=l[i].2.1[j]:=h
       rw[if_neg h,List.append_nil]at hY;exact hY
   . intro Y
     refine inI hi (z0h fun _=>bcN ?_)
     simp only
     rw[z02 (by omega),List.take_length]
     have:zca (((l.take i).flatMap (·.2.1)++l[i].2.1).filter fun t=>decide (0<=t))=vars (l.take (i+1)):=by
      unfold vars;rw[z08 hi,List.flatMap_append];simp
     rw[this];exact hX
 . intro X
   refine z0h fun _=>bcN ?_
   simp only[List.take_length])
theorem zgw {l:List z01} (hl:(l.flatMap (·.2.1)).length<=1073741824):z9z l (vars l):=zwb _ _ (by
 unfold zmp
 refine z0h fun hl1=>?_
 refine z0u l.length (fun i=>((i:Int),(((l.take i).flatMap (·.2.1)).filter (fun t=>decide (0<=t)),()))) (by simp) ?_ ?_
 . intro i hi X hX
   refine bcI hi (inI hi ?_)
   simp only
   rw[z1r hi,z02 (by omega)]
   have hsub:((l.take i).flatMap (·.2.1)).length+l[i].2.1.length<=1073741824:=by
    have:=zbj (·.2.1) hi
    omega
   refine z0h fun _=>z0u l[i].2.1.length (fun j=>((j:Int),(((l.take i).flatMap (·.2.1)++l[i].2.1.take j).filter (fun t=>decide (0<=t)),()))) (by simp) ?_ ?_
   . intro j hj Y hY
     refine bcI hj (inI hj ?_)
     simp only
     rw[z1r hj,z02 (by omega)]
     have e:((l.take i).flatMap (·.2.1)++l[i].2.1.take (j+1)).filter (fun t=>decide (0<=t))=((l.take i).flatMap (·.2.1)++l[i].2.1.take j).filter (fun t=>decide (0<=t))++(if 0<=l[i].2.1[j] then[l[i].2.1[j]] else[]):=by
      rw[z08 hj,<-List.append_assoc,List.filter_append]
      by_cases h:0<=l[i].2.1[j]<;>simp[h]
     rw[e]at hY
     have hb:=List.length_filter_le (fun t=>decide (0<=t)) ((l.take i).flatMap (·.2.1)++l[i].2.1.take j)
     rw[List.length_append,List.length_take]at hb
     refine z09 (fun h=>⟨by simp only[z1b,List.length_cons,List.length_nil];omega,?_⟩) (fun h=>?_)
     . have h:0<=l[i].2.1[j]:=h
       rw[if_pos h]at hY;exact hY
     . have h:¬ 0<=l[i].2.1[j]:=h
       rw[if_neg h,List.append_nil]at hY;exact hY
   . intro Y
     refine bcN ?_
     simp only
     rw[List.take_length]
     have:((l.take i).flatMap (·.2.1)++l[i].2.1).filter (fun t=>decide (0<=t))=((l.take (i+1)).flatMap (·.2.1)).filter (fun t=>decide (0<=t)):=by
      rw[z08 hi,List.flatMap_append];simp
     rw[this];exact hX
 . intro X
   refine bcN ⟨_,z9l ?_,_,z7t,?_⟩
   . simp only[List.take_length]
     have:=List.length_filter_le (fun t=>decide (0<=t)) (l.flatMap (·.2.1));omega
   . simp only[List.take_length]
     rw[zyf];rfl)
theorem z09s {l:List z0m} {d:z0b} (h:inR d.1.length 1 2=false):((false,()):Bool×Unit)=(zhf l d,()):=by unfold zhf;rw[h];simp
theorem z0bm {l:List z0m} {d:z0b} (h:d.1.all (z5e l)=false):((false,()):Bool×Unit)=(zhf l d,()):=by unfold zhf;rw[h];simp
theorem zap {l:List z0m} {d:z0b}:z4c l d (zhf l d):=zic _ _ _ (by
 unfold zaj
 refine z0h fun hl=>⟨_,z5f,z0p (fun h=>z09s h) (fun h1=>?_)⟩
 refine z6f d.1 (fun a=>!z5e l a) (fun i=>((i:Int),())) (KT:=((false,()):Bool×Unit)=(zhf l d,())) (KF:=d.1.all (z5e l)=true) ?_ ?_ ?_ ?_
 . intro i hi X q1 q2
   refine z0h fun _=>bcI hi (inI hi ⟨_,zd7,?_⟩)
   simp only
   rw[z1r hi,z02 (by omega)]
   exact z1k (fun h=>q1 h) (fun h=>q2 h)
 . intro X hall
   have hlen:=inR_iff.mp h1
   have hal:=zli hall
   refine z0h fun _=>bcN (z1k (fun he=>?_) (fun he=>?_))
   . have ev:zhf l d=(decide (d.2.1=[])&&decide (d.2.2.2.1∈vars d.1)&&decide (d.2.2.2.2.1∈vars d.1)&&decide (d.2.2.2.1<d.2.2.2.2.1)):=by
      unfold zhf;rw[h1,hall,he];simp
     rw[ev]
     refine⟨_,z7s (by omega),z0h fun _=>z3z (fun h=>⟨_,zl5,z09 (fun h2=>⟨_,zl5,z09 (fun h3=>?_) (fun h3=>?_)⟩) (fun h2=>?_)⟩) (fun h=>?_)⟩
     . have:d.2.1=[]:=List.length_eq_zero_iff.mp (by omega)
       simp[this,h2,h3]
     . simp[h3]
     . simp[h2]
     . have:d.2.1≠[]:=by intro e;rw[e]at h;simp at h
       simp[this]
   . have ev:zhf l d=(d.2.1.all (fun a=>z5e l a && !(z83 l a.1))&&inR d.2.1.length 1 2&&(d.2.2.2.1 == 0)&&(d.2.2.2.2.1 == 0)):=by
      unfold zhf;rw[h1,hall,he];simp
     rw[ev]
     refine z6f d.2.1 (fun a=>!(z5e l a && !(z83 l a.1))) (fun i=>((i:Int),())) (KT:=d.2.1.all (fun a=>z5e l a && !(z83 l a.1))=false) (KF:=d.2.1.all (fun a=>z5e l a && !(z83 l a.1))=true) ?_ ?_ ?_ ?_
     . intro i hi X q1 q2
       refine z0h fun _=>bcI hi (inI hi ⟨_,zd7,?_⟩)
       simp only
       rw[z1r hi,z02 (by omega)]
       have no:d.2.1.all (fun a=>z5e l a && !(z83 l a.1))=false->((false,()):Bool×Unit)=(d.2.1.all (fun a=>z5e l a && !(z83 l a.1))&&inR d.2.1.length 1 2&&(d.2.2.2.1 == 0)&&(d.2.2.2.2.1 == 0),()):=fun h=>by rw[h];simp
       refine z0p (fun h=>no (q1 (by simp[h]))) (fun h=>inI hi ⟨?_,z1k (fun h'=>no (q1 ?_)) (fun h'=>q2 ?_)⟩)
       . have:=z2e h;exact⟨this.2.1,this.2.2.1⟩
       . have:z83 l d.2.1[i].1=true:=h'
         simp[this]
       . have:z83 l d.2.1[i].1=false:=h'
         simp[this,h]
     . intro X hh
       refine z0h fun _=>bcN (z0h fun _=>⟨_,z5f,?_⟩)
       rw[hh]
       refine z1k (fun h2=>z3z (fun h3=>?_) (fun h3=>?_)) (fun h2=>?_)
       . rw[h2,h3];simp
       . have:(d.2.2.2.1 == 0)=false:=by simpa using h3
         rw[this];simp
       . rw[h2];simp
     . intro h;rw[z3r]at h;exact nt h
     . intro h;rw[z3r]at h;exact nf h
 . intro h;rw[z3r]at h;exact z0bm (nt h)
 . intro h;rw[z3r]at h;exact nf h)
theorem zvb {l:List z0m} {a:z01}:z6a a l (!z5e l a):=zv1 _ _ _ (by unfold zlq;exact⟨_,zrq,rfl⟩)
theorem zq1 {l:List z0m} {ats:List z01} {n:Int}:zea l ats n (inR ats.length 1 n&&ats.all (z5e l)):=zzy _ _ _ _ (by
 unfold zqf
 refine z0h fun _=>⟨_,z3b,z1k (fun h=>⟨_,z5l (fun a=>!z5e l a) (fun _ _=>zvb),?_⟩) (fun h=>?_)⟩
 . rw[h,Bool.true_and,z3r];simp
 . rw[h,Bool.false_and])
theorem zfs {l:List z0m} {a:z01} (h0:0<=a.1) (h1:a.1<l.length):z24 a l (z83 l a.1):=zft _ _ _ (by unfold z91;exact⟨⟨h0,h1⟩,rfl⟩)
theorem zhz {l:List z0m} {d:z0b}:z6m l d (zhf l d):=zie _ _ _ (by
 unfold zam
 refine⟨_,zq1,z0p (fun h=>?_) (fun h=>?_)⟩
 . unfold zhf;rw[h];simp
 . have h':=Bool.and_eq_true_iff.mp h
   have hlen:=inR_iff.mp h'.1
   have hal:=zli h'.2
   refine z1k (fun he=>?_) (fun he=>?_)
   . have ev:zhf l d=(decide (d.2.1=[])&&decide (d.2.2.2.1∈vars d.1)&&decide (d.2.2.2.2.1∈vars d.1)&&decide (d.2.2.2.1<d.2.2.2.2.1)):=by
      unfold zhf;rw[h'.1,h'.2,he];simp
     rw[ev]
     refine⟨_,zgw (by omega),z0h fun _=>z3z (fun h0=>z09 (fun h1=>⟨_,z5r,z09 (fun h2=>⟨_,z5r,?_⟩) (fun h2=>?_)⟩) (fun h1=>?_)) (fun h0=>?_)⟩
     . have:d.2.1=[]:=List.length_eq_zero_iff.mp (by omega)
       simp[this,h1,h2]
     . simp[h2]
     . simp[h1]
     . have:d.2.1≠[]:=by intro e;rw[e]at h0;simp at h0
       simp[this]
   . have ev:zhf l d=(d.2.1.all (fun a=>z5e l a && !(z83 l a.1))&&inR d.2.1.length 1 2&&(d.2.2.2.1 == 0)&&(d.2.2.2.2.1 == 0)):=by
      unfold zhf;rw[h'.1,h'.2,he];simp
     rw[ev]
     have hand:d.2.1.all (fun a=>z5e l a && !(z83 l a.1))=(d.2.1.all (z5e l)&&d.2.1.all fun a=>!(z83 l a.1)):=by
      generalize d.2.1=m
      induction m with
      |nil=>rfl
      |cons a m ih=>simp only[List.all_cons,ih];cases z5e l a<;>cases z83 l a.1<;>simp
     rw[hand]
     refine⟨_,zq1,z1k (fun h1=>z3z (fun h2=>z3z (fun h3=>?_) (fun h3=>?_)) (fun h2=>?_)) (fun h1=>?_)⟩
     . have h1:=Bool.and_eq_true_iff.mp h1
       refine⟨_,z3s (fun a=>z83 l a.1) (fun a ha=>?_),?_⟩
       . have:=z2e (List.all_eq_true.mp h1.2 a ha)
         exact zfs this.2.1 this.2.2.1
       . rw[h1.1,h1.2,h2,h3,List.not_any_eq_all_not];simp
     . have:(d.2.2.2.2.1 == 0)=false:=by simpa using h3
       rw[this];simp
     . have:(d.2.2.2.1 == 0)=false:=by simpa using h2
       rw[this];simp
     . rcases Bool.and_eq_false_iff.mp h1 with h1|h1<;>rw[h1]<;>simp)
theorem z3d {l:List z0m} {ds:List z0b}:z2j l ds (ze2 l ds):=zet _ _ _ (by
 unfold z89
 refine z6f ds (fun d=>!zhf l d) (fun i=>((i:Int),())) (KT:=ds.all (zhf l)=false) (KF:=ds.all (zhf l)=true) ?_ ?_ ?_ ?_
 . intro i hi X q1 q2
   refine z0h fun _=>bcI hi (inI hi ⟨_,zap,?_⟩)
   simp only
   rw[z1r hi,z02 (by omega)]
   exact z1k (fun h=>by unfold ze2;rw[q1 h];simp) (fun h=>q2 h)
 . intro X h
   refine z0h fun _=>bcN ⟨_,z21,z1k (fun h1=>z0h fun _=>?_) (fun h1=>?_)⟩
   . unfold ze2;rw[h,h1]
     have:decide ((ds.length:Int)<=5)=decide (ds.length<=5):=decide_eq_decide.mpr (by omega)
     rw[this];simp
   . unfold ze2;rw[h1];simp
 . intro h;rw[z3r]at h;exact nt h
 . intro h;rw[z3r]at h;exact nf h)
theorem zct {l:List z0m} {d:z0b}:z1j d l (!zhf l d):=zde _ _ _ (by unfold z77;exact⟨_,zhz,rfl⟩)
theorem z85 {l:List z0m} {ds:List z0b}:z3e l ds (ze2 l ds):=ze3 _ _ _ (by
 unfold z8h
 refine⟨_,z2m,z1k (fun h1=>z0h fun _=>z09 (fun h2=>⟨_,z2w (fun d=>!zhf l d) (fun _ _=>zct),?_⟩) (fun h2=>?_)) (fun h1=>?_)⟩
 . have:decide (ds.length<=5)=true:=decide_eq_true (by omega)
   unfold ze2;rw[h1,this,z3r];simp
 . have:decide (ds.length<=5)=false:=decide_eq_false (by omega)
   unfold ze2;rw[this];simp
 . unfold ze2;rw[h1];simp)
theorem z4u {d:z0b} (h1:(d.1.flatMap (·.2.1)).length<=1073741824) (h2:(d.2.1.flatMap (·.2.1)).length<=1073741824):z2k d (exV d):=zeq _ _ (by
 unfold z8m
 have hv:=zhq d.2.1
 refine⟨_,z7s h1,_,z7s h2,?_⟩
 refine z0u (vars d.2.1).length (fun i=>((i:Int),(((vars d.2.1).take i).filter (fun v=>!decide (v∈vars d.1)),()))) (by simp) ?_ ?_
 . intro i hi X hX
   refine z0h fun _=>bcI hi (inI hi ⟨_,zl5,?_⟩)
   simp only
   rw[z1r hi,z02 (by omega)]
   have e:((vars d.2.1).take (i+1)).filter (fun v=>!decide (v∈vars d.1))=((vars d.2.1).take i).filter (fun v=>!decide (v∈vars d.1))++(if (vars d.2.1)[i]∈vars d.1 then[] else[(vars d.2.1)[i]]):=by
    rw[z08 hi,List.filter_append]
    by_cases h:(vars d.2.1)[i]∈vars d.1<;>simp[h]
   rw[e]at hX
   have hb:=List.length_filter_le (fun v=>!decide (v∈vars d.1)) ((vars d.2.1).take i)
   rw[List.length_take]at hb
   refine z1k (fun h=>inI hi ⟨by simp only[z1b,List.length_cons,List.length_nil];omega,?_⟩) (fun h=>?_)
   . have h:¬ (vars d.2.1)[i]∈vars d.1:=by simpa using h
     rw[if_neg h]at hX;exact hX
   . have h:(vars d.2.1)[i]∈vars d.1:=by simpa using h
     rw[if_pos h,List.append_nil]at hX;exact hX
 . intro X
   refine z0h fun _=>bcN ?_
   simp only[List.take_length]
   rfl)
def hdV (d:z0b) (b:Bool):List Int:=(vars d.2.1).filter fun v=>decide (v∈vars d.1) == b
theorem zff {d:z0b} {b:Bool} (h1:(d.1.flatMap (·.2.1)).length<=1073741824) (h2:(d.2.1.flatMap (·.2.1)).length<=1073741824):z7g d b (hdV d b):=znt _ _ _ (by
 unfold zfh
 have hv:=zhq d.2.1
 refine⟨_,zgw h1,_,zgw h2,z0h fun _=>?_⟩
 refine z0u (vars d.2.1).length (fun i=>((i:Int),(((vars d.2.1).take i).filter (fun v=>decide (v∈vars d.1) == b),()))) (by simp) ?_ ?_
 . intro i hi X hX
   refine bcI hi (inI hi ⟨_,z5r,?_⟩)
   simp only
   rw[z1r hi,z02 (by omega)]
   have e:((vars d.2.1).take (i+1)).filter (fun v=>decide (v∈vars d.1) == b)=((vars d.2.1).take i).filter (fun v=>decide (v∈vars d.1) == b)++(if (decide ((vars d.2.1)[i]∈vars d.1) == b)=true then[(vars d.2.1)[i]] else[]):=by
    rw[z08 hi,List.filter_append]
    cases h:(decide ((vars d.2.1)[i]∈vars d.1) == b)<;>simp[h]
   rw[e]at hX
   have hb:=List.length_filter_le (fun v=>decide (v∈vars d.1) == b) ((vars d.2.1).take i)
   rw[List.length_take]at hb
   refine z1k (fun h=>⟨by simp only[z1b,List.length_cons,List.length_nil];omega,?_⟩) (fun h=>?_)
   . rw[if_pos h]at hX;exact hX
   . rw[if_neg (by rw[h];simp),List.append_nil]at hX;exact hX
 . intro X
   refine bcN ?_
   simp only[List.take_length]
   rfl)
theorem z089 (d:z0b):hdV d false=exV d:=by unfold hdV exV;congr 1;funext v;by_cases h:v∈vars d.1<;>simp[h]
theorem z0a9 (d:z0b):hdV d true=frV d:=by unfold hdV frV;congr 1;funext v;by_cases h:v∈vars d.1<;>simp[h]
theorem ze6 {d:z0b} (h1:(d.1.flatMap (·.2.1)).length<=1073741824) (h2:(d.2.1.flatMap (·.2.1)).length<=1073741824):z4x d (exV d):=zen _ _ (by
 unfold z8j
 exact⟨_,zff h1 h2,by rw[z089]⟩)
theorem z56 {l:List z0m} {d:z0b} (h:zhf l d=true):1<=d.1.length/\d.1.length<=2/\(∀ a∈d.1,z5e l a=true)/\d.2.1.length<=2/\(∀ a∈d.2.1,z5e l a=true)/\(d.1.flatMap (·.2.1)).length<=6/\(d.2.1.flatMap (·.2.1)).length<=6:=by
 unfold zhf at h
 rw[Bool.and_eq_true,Bool.and_eq_true]at h
 obtain⟨⟨h1,h2⟩,h3⟩:=h
 have h1:=inR_iff.mp h1
 have l1:=zli h2
 cases he:d.2.2.1 with
 | true=>
   rw[if_pos he]at h3
   simp only[Bool.and_eq_true,decide_eq_true_eq]at h3
   have:=h3.1.1.1
   exact⟨by omega,by omega,List.all_eq_true.mp h2,by simp[this],by simp[this],by omega,by simp[this]⟩
 | false=>
   rw[if_neg (by simp[he])]at h3
   simp only[Bool.and_eq_true]at h3
   have hr:=inR_iff.mp h3.1.1.2
   have h4:d.2.1.all (z5e l)=true:=List.all_eq_true.mpr fun a ha=>by
    have:=List.all_eq_true.mp h3.1.1.1 a ha
    rw[Bool.and_eq_true]at this;exact this.1
   have l2:=zli h4
   exact⟨by omega,by omega,List.all_eq_true.mp h2,by omega,List.all_eq_true.mp h4,by omega,by omega⟩
theorem zh6 {l:List z0m} {ds:List z0b} (h:ze2 l ds=true) {d:z0b} (hd:d∈ds):zhf l d=true:=by
 unfold ze2 at h
 rw[Bool.and_eq_true,Bool.and_eq_true]at h
 exact List.all_eq_true.mp h.1.1 d hd
theorem zfz {l:List z0m} {ds:List z0b} (h:ze2 l ds=true):ds.length<=5:=by
 unfold ze2 at h;simp at h;exact h.2
def z3p (v:Int):Bool:=inR v (-40) (-1)
def z2h (v:Int):Int:=if z3p v then -1 - v else 0
def zml (v:Int):Bool:=inR v (-40) 9
def z1d (l:List Int):List Int:=(l.filter z3p).map (fun v=>-1 - v)
def zuk (f:z01):List Int:=zca (z1d f.2.1)
def zfk (x:z0n):List Int:=zca (x.2.1.flatMap fun f=>z1d f.2.1)
def zno (l:List z0m) (f:z01):Bool:=zvy zml l f
def zms (l:List z01) (i:Nat):z01:=l.getD i z0w
def z7c (x:z0n) (i:Nat):Bool:=zno x.1 (zms x.2.1 i)&&(i == 0||decide (zfv (zms x.2.1 (i - 1)) (zms x.2.1 i)<0)) && !(z83 x.1 (zms x.2.1 i).1&&(zuk (zms x.2.1 i)).length != 0)
def z3l (x:z0n):Bool:=z90 x.1&&decide (x.2.1.length<=30)&&(List.range x.2.1.length).all (z7c x)
theorem isNul_iff {v:Int}:z3p v=true↔-40<=v/\v<=-1:=inR_iff
theorem mem_nulls {l:List Int} {k:Int}:k∈z1d l↔0<=k/\k<40/\(-1 - k)∈l:=by
 unfold z1d
 rw[List.mem_map]
 constructor
 . rintro⟨v,hv,rfl⟩
   obtain⟨h1,h2⟩:=List.mem_filter.mp hv
   have:=isNul_iff.mp h2
   exact ⟨by omega, by omega, by have e : -1 - (-1 - v)=v:=by omega
                                 rw[e];exact h1⟩
 . rintro⟨h1,h2,h3⟩
   exact⟨-1 - k,List.mem_filter.mpr ⟨h3,isNul_iff.mpr ⟨by omega,by omega⟩⟩,by omega⟩
theorem za3 (l m:List Int):z1d (l++m)=z1d l++z1d m:=by unfold z1d;rw[List.filter_append,List.map_append]
theorem zdl (l:List z01):z1d (l.flatMap (·.2.1))=l.flatMap fun f=>z1d f.2.1:=by
 induction l with
 |nil=>rfl
 |cons a l ih=>simp only[List.flatMap_cons];rw[za3,ih]
theorem zjb {l:List Int}:∀ k∈zca (z1d l),0<=k/\k<0+(40:Nat):=fun k hk=>by
 have:=mem_nulls.mp (mem_sset.mp hk);omega
theorem zkn {l:List Int}:(zca (z1d l)).length<=40:=zyr (zll _) zjb
theorem z02s (x:z0n):(zfk x).length<=40:=by unfold zfk;rw[<-zdl];exact zkn
theorem zwt (l:List Int):(z1d l).length<=l.length:=by unfold z1d;rw[List.length_map];exact List.length_filter_le _ _
theorem z34 {l:List z01} {i:Nat} (h:i<l.length):zms l i=l[i]:=z16 h
theorem z59 {x:z0n} (h:z3l x=true) {f:z01} (hf:f∈x.2.1):zno x.1 f=true:=by
 unfold z3l at h
 rw[Bool.and_eq_true]at h
 obtain⟨i,hi,rfl⟩:=List.mem_iff_getElem.mp hf
 have:=List.all_eq_true.mp h.2 i (List.mem_range.mpr hi)
 unfold z7c at this
 rw[Bool.and_eq_true,Bool.and_eq_true,z34 hi]at this
 exact this.1.1
theorem z55 {x:z0n} (h:z3l x=true):x.2.1.length<=30:=by unfold z3l at h;simp at h;exact h.1.2
theorem zlu {x:z0n} (h:z3l x=true):z90 x.1=true:=by unfold z3l at h;simp at h;exact h.1.1
theorem z01l {x:z0n} {i:Nat} (hi:i<x.2.1.length) (h:z7c x i=false):z3l x=false:=by
 unfold z3l
 have:(List.range x.2.1.length).all (z7c x)=false:=by
  rw[Bool.eq_false_iff];intro hall
  have:=List.all_eq_true.mp hall i (List.mem_range.mpr hi);rw[h]at this;cases this
 rw[this];simp
theorem zqr {x:z0n} (h1:∀ i,i<x.2.1.length->z7c x i=true):z3l x=(z90 x.1&&decide (x.2.1.length<=30)):=by
 unfold z3l
 rw[List.all_eq_true.mpr fun i hi=>h1 i (List.mem_range.mp hi)];simp
theorem zgv (v:Int):0<=z2h v:=by
 unfold z2h
 split
 . rename_i h;have:=isNul_iff.mp h;omega
 . omega
theorem z4t {v:Int}:z2l v (z2h v) (z3p v):=zu3 fun hb=>zvp _ _ _ (by
 have hb : -9223372036854775808<=v/\v<=9223372036854775807:=hb
 unfold zkt
 have no:z3p v=false->(((0:Int),(false,())):Int×Bool×Unit)=(z2h v,(z3p v,())):=fun h=>by unfold z2h;rw[h];rfl
 refine z09 (fun h=>no ?_) (fun h=>⟨_,z5f,?_⟩)
 . rw[Bool.eq_false_iff];intro h';have:=isNul_iff.mp h';omega
 . rw[z19 (by omega) (by omega)]
   refine z0p (fun h2=>no ?_) (fun h2=>?_)
   . rw[Bool.eq_false_iff]at h2 ⊢;intro h';have:=isNul_iff.mp h';exact h2 (inR_iff.mpr ⟨by omega,by omega⟩)
   . have:=inR_iff.mp h2
     have e:z3p v=true:=isNul_iff.mpr ⟨by omega,by omega⟩
     unfold z2h;rw[e];rfl)
theorem ze9 {v:Int}:z4w v (z2h v) (z3p v):=ztu fun hb=>zvk _ _ _ (by
 have hb : -9223372036854775808<=v/\v<=9223372036854775807:=hb
 unfold zl9
 have no:z3p v=false->(((0:Int),(false,())):Int×Bool×Unit)=(z2h v,(z3p v,())):=fun h=>by unfold z2h;rw[h];rfl
 rw[z19 (by omega) (by omega)]
 refine⟨_,z3b,z0p (fun h2=>no ?_) (fun h2=>?_)⟩
 . rw[Bool.eq_false_iff]at h2 ⊢;intro h';have:=isNul_iff.mp h';exact h2 (inR_iff.mpr ⟨by omega,by omega⟩)
 . have:=inR_iff.mp h2
   have e:z3p v=true:=isNul_iff.mpr ⟨by omega,by omega⟩
   unfold z2h;rw[e];rfl)
theorem z8l {v:Int}:z4j v (zml v):=zop _ _ (by
 unfold zgp
 refine⟨_,_,z4t,z1k (fun h=>?_) (fun h=>⟨_,z5f,?_⟩)⟩
 . have:=isNul_iff.mp h
   have e:zml v=true:=inR_iff.mpr ⟨by omega,by omega⟩
   rw[e]
 . have:inR v 0 9=zml v:=by
    rw[Bool.eq_iff_iff]
    unfold zml
    rw[inR_iff,inR_iff]
    constructor
    . omega
    . intro h'
      refine⟨?_,h'.2⟩
      rcases Int.lt_or_le v 0 with h0|h0
      . rw[isNul_iff.mpr ⟨by omega,by omega⟩]at h;cases h
      . exact h0
   rw[this])
theorem zgk {v:Int}:z8d v (zml v):=zqx _ _ (by unfold zgx;exact⟨_,z3b,rfl⟩)
theorem zis {f:z01}:z5b f (zuk f):=zrk _ _ (by
 unfold ziv
 refine z0u f.2.1.length (fun i=>((i:Int),(zca (z1d (f.2.1.take i)),()))) (by simp[z1d,zca]) ?_ ?_
 . intro i hi X hX
   refine z0h fun _=>bcI hi (inI hi ⟨_,_,z4t,?_⟩)
   simp only
   rw[z1r hi,z02 (by omega)]
   have e:z1d (f.2.1.take (i+1))=z1d (f.2.1.take i)++(if z3p f.2.1[i] then[-1 - f.2.1[i]] else[]):=by
    rw[z08 hi,za3];congr 1
    unfold z1d
    cases h:z3p f.2.1[i]<;>simp[h]
   rw[e]at hX
   have hf:=zkn (l:=f.2.1.take i)
   refine z1k (fun h=>⟨_,zo7 (by omega),?_⟩) (fun h=>?_)
   . rw[if_pos h]at hX
     have:z2h f.2.1[i] = -1 - f.2.1[i]:=by unfold z2h;rw[if_pos h]
     rw[this,zq7];exact hX
   . rw[if_neg (by rw[h];simp),List.append_nil]at hX;exact hX
 . intro X
   refine z0h fun _=>bcN ?_
   simp only[List.take_length]
   rfl)
theorem zm7 {l:List Int} (hl:l.length<=1073741824):zdi l (zca (z1d l)):=z03h _ _ (by
 unfold ztr
 refine z0h fun _=>z0u l.length (fun i=>((i:Int),(z1d (l.take i),()))) (by simp[z1d]) ?_ ?_
 . intro i hi X hX
   refine bcI hi (inI hi ⟨_,_,ze9,?_⟩)
   simp only
   rw[z1r hi,z02 (by omega)]
   have e:z1d (l.take (i+1))=z1d (l.take i)++(if z3p l[i] then[-1 - l[i]] else[]):=by
    rw[z08 hi,za3];congr 1
    unfold z1d
    cases h:z3p l[i]<;>simp[h]
   rw[e]at hX
   have hb:=zwt (l.take i)
   rw[List.length_take]at hb
   refine z1k (fun h=>⟨by simp only[z1b,List.length_cons,List.length_nil];omega,?_⟩) (fun h=>?_)
   . rw[if_pos h]at hX
     have:z2h l[i] = -1 - l[i]:=by unfold z2h;rw[if_pos h]
     rw[this];exact hX
   . rw[if_neg (by rw[h];simp),List.append_nil]at hX;exact hX
 . intro X
   refine bcN ⟨_,z9l ?_,_,z7t,?_⟩
   . simp only[List.take_length];have:=zwt l;omega
   . simp only[List.take_length];rw[zyf])
theorem zrm {f:z01} (h:f.2.1.length<=1073741824):z74 f (zuk f):=zr9 _ _ (by unfold zit;exact⟨_,zm7 h,rfl⟩)
theorem zcl {x:z0n}:z5i x (zfk x):=zkq _ _ (by
 unfold zcr
 refine z0u x.2.1.length (fun i=>((i:Int),(zca ((x.2.1.take i).flatMap fun f=>z1d f.2.1),()))) (by simp[zca]) ?_ ?_
 . intro i hi X hX
   refine z0h fun _=>bcI hi (inI hi ⟨_,zis,?_⟩)
   simp only
   rw[z1r hi]
   have hn:(zuk x.2.1[i]).length<=40:=zkn
   refine z0u (zuk x.2.1[i]).length (fun j=>(((zuk x.2.1[i]).take j).foldl ins (zca ((x.2.1.take i).flatMap fun f=>z1d f.2.1)),((j:Int),()))) (by simp) ?_ ?_
   . intro j hj Y hY
     refine z0h fun _=>bcI hj (inI hj ⟨_,zo7 ?_,?_⟩)
     . have h1:(zca ((x.2.1.take i).flatMap fun f=>z1d f.2.1)).length<=40:=by rw[<-zdl];exact zkn
       have:∀(l s:List Int),(l.foldl ins s).length<=s.length+l.length:=by
        intro l
        induction l with
        |nil=>intro s;simp
        |cons a l ih=>intro s;have:=ih (ins s a);have:=z07z s a;simp only[List.foldl_cons,List.length_cons];omega
       have:=this ((zuk x.2.1[i]).take j) (zca ((x.2.1.take i).flatMap fun f=>z1d f.2.1))
       rw[List.length_take]at this
       simp only;omega
     . simp only
       rw[z1r hj,z02 (by omega)]
       rw[z08 hj,List.foldl_append]at hY
       exact hY
   . intro Y
     refine z0h fun _=>bcN ?_
     simp only[List.take_length]
     rw[z02 (by omega)]
     have:(zuk x.2.1[i]).foldl ins (zca ((x.2.1.take i).flatMap fun f=>z1d f.2.1))=zca ((x.2.1.take (i+1)).flatMap fun f=>z1d f.2.1):=by
      unfold zuk
      rw[zyh,z08 hi,List.flatMap_append];simp
     rw[this];exact hX
 . intro X
   refine z0h fun _=>bcN ?_
   simp only[List.take_length]
   rfl)
theorem zkj {x:z0n} (hl:(x.2.1.flatMap (·.2.1)).length<=1073741824):z8w x (zfk x):=zk6 _ _ (by
 unfold zco
 refine z0h fun _=>z0u x.2.1.length (fun i=>((i:Int),((x.2.1.take i).flatMap (·.2.1),()))) (by simp) ?_ ?_
 . intro i hi X hX
   have hs:=zbj (fun f:z01=>f.2.1) hi
   refine bcI hi (inI hi ⟨?_,?_⟩)
   . simp only[z1b];rw[z1r hi];omega
   . simp only
     rw[z1r hi,z02 (by omega)]
     rw[z08 hi,List.flatMap_append]at hX
     simpa using hX
 . intro X
   refine bcN ⟨_,zm7 ?_,?_⟩
   . simp only[List.take_length];exact hl
   . simp only[List.take_length]
     rw[zdl];rfl)
theorem zro {l:List z0m} {a:z01}:zd1 l a (zno l a):=zrz _ _ _ (by
 unfold zif zno
 refine⟨_,z21,z0p (fun h=>row_no1 h) (fun h1=>z0h fun hl=>⟨_,z5f,z0p (fun h=>row_no2 hl h) (fun h2=>z0h fun hl2=>⟨row_start h2 hl,zcx (fun h=>row_no3 h) (fun h3=>?_)⟩)⟩)⟩
 refine z6f a.2.1 (fun t=>!zml t) (fun i=>((i:Int),())) (KT:=((false,()):Bool×Unit)=(zvy zml l a,())) (KF:=((true,()):Bool×Unit)=(zvy zml l a,())) ?_ (fun X h=>z0h fun _=>bcN h) ?_ ?_
 . intro i hi X q1 q2
   refine z0h fun _=>bcI hi (inI hi ⟨_,z8l,?_⟩)
   simp only
   rw[z1r hi,z02 (by omega)]
   exact z1k (fun h=>q1 h) (fun h=>q2 h)
 . intro h;exact row_yes hl h1 h2 h3 (by rw[z3r]at h;exact(nt h).symm)
 . intro h;exact row_yes hl h1 h2 h3 (by rw[z3r]at h;exact(nf h).symm))
theorem znk {t:Int}:z3u t (!zml t):=zn5 _ _ (by unfold zew;exact⟨_,zgk,rfl⟩)
theorem zra {l:List z0m} {a:z01}:zd3 l a (zno l a):=zr4 _ _ _ (by
 unfold zii zno
 refine⟨_,z2m,z0p (fun h=>row_no1 h) (fun h1=>z0h fun hl=>⟨_,z3b,z0p (fun h=>row_no2 hl h) (fun h2=>z0h fun hl2=>⟨row_start h2 hl,zcx (fun h=>row_no3 h) (fun h3=>?_)⟩)⟩)⟩
 exact⟨_,z50 (fun t=>!zml t) (fun _ _=>znk),row_yes hl h1 h2 h3 (by rw[z3r];simp)⟩)
theorem zv9 {x:z0n} {f:z01} (h:zno x.1 f=true):0<=f.1/\f.1<(x.1.length:Int):=by have:=z2e h;exact⟨this.2.1,this.2.2.1⟩
theorem za2 {x:z0n} {i:Nat} (hi:i<x.2.1.length) (h1:zno x.1 x.2.1[i]=true) (h2:0<i->zfv (zms x.2.1 (i - 1)) x.2.1[i]<0):z7c x i = !(z83 x.1 x.2.1[i].1&&(zuk x.2.1[i]).length != 0):=by
 unfold z7c
 rw[z34 hi,h1]
 have:(i == 0||decide (zfv (zms x.2.1 (i - 1)) x.2.1[i]<0))=true:=by
  rcases Nat.eq_zero_or_pos i with h|h
  . simp[h]
  . rw[decide_eq_true (h2 h)];simp
 rw[this];rfl
theorem z3y {x:z0n}:z2i x (z3l x):=zky _ _ (by
 unfold zcb
 have no:z3l x=false->((false,()):Bool×Unit)=(z3l x,()):=fun h=>by rw[h]
 refine z73 x.2.1.length (fun i=>!z7c x i) (fun i=>((i:Int),())) (KT:=z3l x=false) (KF:=z3l x=(z90 x.1&&decide (x.2.1.length<=30))) ?_ ?_ ?_ ?_
 . intro i hi X hb q1 q2
   have qn:z7c x i=false->((false,()):Bool×Unit)=(z3l x,()):=fun h=>no (q1 (by rw[h];rfl))
   have qy:z7c x i=true->X (((i+1:Nat):Int),()):=fun h=>q2 (by rw[h];rfl)
   refine z0h fun hl=>bcI hi (inI hi ⟨_,zro,?_⟩)
   simp only
   rw[z1r hi,z02 (by omega)]
   refine z0p (fun h=>qn (by unfold z7c;rw[z34 hi,h];simp)) (fun hv=>?_)
   have fin:z7c x i = !(z83 x.1 x.2.1[i].1&&(zuk x.2.1[i]).length != 0)->((0<=x.2.1[i].1/\x.2.1[i].1<(x.1.length:Int))/\(z00 (((x.1.getD (Int.toNat x.2.1[i].1) zg5).2).2).1 (∃ y5:List Int,z5b x.2.1[i] y5/\(z0t (List.length y5:Int) (z00 (decide ((List.length y5:Int) > (0:Int))) (((false,()):Bool×Unit)=(z3l x,())) (X (((i+1:Nat):Int),()))))) (X (((i+1:Nat):Int),())))):=by
    intro he
    refine⟨zv9 hv,z1k (fun hs=>⟨_,zis,z0h fun _=>z09 (fun h=>qn ?_) (fun h=>qy ?_)⟩) (fun hs=>qy ?_)⟩
    . have hs:z83 x.1 x.2.1[i].1=true:=hs
      rw[he,hs];simp;intro e;rw[e]at h;simp at h
    . have:(zuk x.2.1[i]).length=0:=by omega
      rw[he,this];simp
    . have hs:z83 x.1 x.2.1[i].1=false:=hs
      rw[he,hs];rfl
   refine z09 (fun h0=>?_) (fun h0=>fin (za2 hi hv (fun h=>by omega)))
   have hi':i - 1<x.2.1.length:=by omega
   have hw:w64 ((i:Int) - 1)=((i - 1:Nat):Int):=by rw[z19 (by omega) (by omega)];omega
   rw[hw]
   refine inI hi' ⟨_,z8q,?_⟩
   rw[z1r hi']
   refine z09 (fun h=>qn ?_) (fun h=>fin (za2 hi hv (fun _=>by rw[z34 hi'];omega)))
   unfold z7c
   rw[z34 hi,z34 hi',decide_eq_false (by omega)]
   have:(i == 0)=false:=by simp;omega
   rw[this];simp
 . intro X h
   refine z0h fun _=>bcN ⟨_,z21,z1k (fun h1=>z0h fun _=>?_) (fun h1=>no (by rw[h,h1];rfl))⟩
   rw[h,h1]
   have:decide ((x.2.1.length:Int)<=30)=decide (x.2.1.length<=30):=decide_eq_decide.mpr (by omega)
   rw[this];rfl
 . rintro⟨i,hi,hp⟩;exact z01l hi (nt hp)
 . intro h;exact zqr fun i hi=>nf (h i hi))
theorem zlf {x:z0n}:z8s x (z3l x):=zlk _ _ (by
 unfold zcp
 have no:z3l x=false->((false,()):Bool×Unit)=(z3l x,()):=fun h=>by rw[h]
 refine⟨_,z2m,z0p (fun h=>no (by unfold z3l;rw[h];simp)) (fun hr=>z0h fun _=>z09 (fun h=>no (by unfold z3l;rw[decide_eq_false (show ¬ x.2.1.length<=30 by omega)];simp)) (fun hlen=>z0h fun _=>?_))⟩
 refine z73 x.2.1.length (fun i=>!z7c x i) (fun i=>((i:Int),())) (KT:=z3l x=false) (KF:=z3l x=(z90 x.1&&decide (x.2.1.length<=30))) ?_ ?_ ?_ ?_
 . intro i hi X hb q1 q2
   have qn:z7c x i=false->((false,()):Bool×Unit)=(z3l x,()):=fun h=>no (q1 (by rw[h];rfl))
   have qy:z7c x i=true->X (((i+1:Nat):Int),()):=fun h=>q2 (by rw[h];rfl)
   refine bcI hi (inI hi ⟨_,zra,?_⟩)
   simp only
   rw[z1r hi,z02 (by omega)]
   refine z0p (fun h=>qn (by unfold z7c;rw[z34 hi,h];simp)) (fun hv=>?_)
   have hvl:=(z2e hv).2.2.2.2.1
   have fin:z7c x i = !(z83 x.1 x.2.1[i].1&&(zuk x.2.1[i]).length != 0)->((0<=x.2.1[i].1/\x.2.1[i].1<(x.1.length:Int))/\(z00 (((x.1.getD (Int.toNat x.2.1[i].1) zg5).2).2).1 (∃ y5:List Int,z74 x.2.1[i] y5/\(z0t (List.length y5:Int) (z00 (decide ((List.length y5:Int) > (0:Int))) (((false,()):Bool×Unit)=(z3l x,())) (X (((i+1:Nat):Int),()))))) (X (((i+1:Nat):Int),())))):=by
    intro he
    refine⟨zv9 hv,z1k (fun hs=>⟨_,zrm (by omega),z0h fun _=>z09 (fun h=>qn ?_) (fun h=>qy ?_)⟩) (fun hs=>qy ?_)⟩
    . have hs:z83 x.1 x.2.1[i].1=true:=hs
      rw[he,hs];simp;intro e;rw[e]at h;simp at h
    . have:(zuk x.2.1[i]).length=0:=by omega
      rw[he,this];simp
    . have hs:z83 x.1 x.2.1[i].1=false:=hs
      rw[he,hs];rfl
   refine z09 (fun h0=>?_) (fun h0=>fin (za2 hi hv (fun h=>by omega)))
   have hi':i - 1<x.2.1.length:=by omega
   have hw:w64 ((i:Int) - 1)=((i - 1:Nat):Int):=by rw[z19 (by omega) (by omega)];omega
   rw[hw]
   refine inI hi' ⟨_,zox,?_⟩
   rw[z1r hi']
   refine z09 (fun h=>qn ?_) (fun h=>fin (za2 hi hv (fun _=>by rw[z34 hi'];omega)))
   unfold z7c
   rw[z34 hi,z34 hi',decide_eq_false (by omega)]
   have:(i == 0)=false:=by simp;omega
   rw[this];simp
 . intro X h
   refine bcN ?_
   rw[h,hr,decide_eq_true (show x.2.1.length<=30 by omega)];rfl
 . rintro⟨i,hi,hp⟩;exact z01l hi (nt hp)
 . intro h;exact zqr fun i hi=>nf (h i hi))
theorem zsg {x:z0n} (h:z3l x=true):(x.2.1.flatMap (·.2.1)).length<=90:=by
 have h1:=z55 h
 have:∀ l:List z01,(∀ f∈l,zno x.1 f=true)->(l.flatMap (·.2.1)).length<=3 * l.length:=by
  intro l
  induction l with
  |nil=>intro _;simp
  | cons a l ih=>
    intro hl
    have h1:=(z2e (hl a (by simp))).2.2.2.2.1
    have:=ih fun f hf=>hl f (by simp[hf])
    simp only[List.flatMap_cons,List.length_append,List.length_cons];omega
 have:=this x.2.1 fun f hf=>z59 h hf
 omega
def zgs (x:z0n):Int:=match (zfk x).getLast? with
 |some k=>k+1
 |none=>0
theorem nextN_le {x:z0n} {n:Nat}:zgs x<=n↔∀ k∈zfk x,k<n:=by
 unfold zgs
 have hs:srt (zfk x):=zll _
 cases h:(zfk x).getLast? with
 | none=>
   have:zfk x=[]:=List.getLast?_eq_none_iff.mp h
   rw[this];simp
 | some m=>
   have hne:zfk x≠[]:=by intro e;rw[e]at h;simp at h
   have hm:(zfk x).getLast hne=m:=by rw[List.getLast?_eq_some_getLast hne]at h;exact Option.some.inj h
   have hlast:=z0as hs hne
   constructor
   . intro h' k hk
     have:=hlast k hk;rw[hm]at this;simp only at h';omega
   . intro h'
     have:=h' m (by rw[<-hm];exact List.getLast_mem hne)
     simp only;omega
theorem z003 {x:z0n} (hl:(x.2.1.flatMap (·.2.1)).length<=1073741824):zji x (zgs x):=zz8 _ _ (by
 unfold zqq
 have hf:=z02s x
 refine⟨_,zkj hl,z0h fun _=>z3z (fun h=>?_) (fun h=>z0h fun _=>?_)⟩
 . have:zfk x=[]:=List.length_eq_zero_iff.mp (by omega)
   unfold zgs;rw[this];rfl
 . have hw:w64 ((zfk x).length - 1:Int)=(((zfk x).length - 1:Nat):Int):=by rw[z19 (by omega) (by omega)];omega
   rw[hw]
   have hlt:(zfk x).length - 1<(zfk x).length:=by omega
   refine inI hlt ?_
   rw[z1r hlt]
   have hne:zfk x≠[]:=by intro e;rw[e]at h;simp at h
   have hr:0<=(zfk x)[(zfk x).length - 1]/\(zfk x)[(zfk x).length - 1]<0+(40:Nat):=by
    have:=zjb (l:=x.2.1.flatMap (·.2.1)) ((zfk x)[(zfk x).length - 1]) (by rw[zdl];exact List.getElem_mem hlt)
    exact this
   rw[z19 (by omega) (by omega)]
   unfold zgs
   rw[List.getLast?_eq_some_getLast hne,List.getLast_eq_getElem])
def mx (f:Int->Int) (l:List Int):Int:=l.foldl (fun m k=>zae m (f k)) 0
theorem z0e4 {a b n:Int}:zae a b<=n↔a<=n/\b<=n:=by unfold zae;split<;>omega
theorem z07d {f:Int->Int} {n:Int}:∀ {l:List Int} {s:Int},l.foldl (fun m k=>zae m (f k)) s<=n↔s<=n/\∀ k∈l,f k<=n
 |[],s=>by simp
 | a::l,s=>by
   rw[List.foldl_cons,z07d,z0e4]
   simp only[List.mem_cons,forall_eq_or_imp,and_assoc]
theorem mx_le {f:Int->Int} {l:List Int} {n:Int}:mx f l<=n↔0<=n/\∀ k∈l,f k<=n:=z07d
theorem z9n (f:Int->Int) (l:List Int):0<=mx f l:=(mx_le.mp (Int.le_refl _)).1
theorem z09r {f:Int->Int} {l m:List Int} (h:∀ k,k∈l↔k∈m):mx f l=mx f m:=by
 have h1:mx f l<=mx f m:=mx_le.mpr ⟨z9n _ _,fun k hk=>(mx_le.mp (Int.le_refl (mx f m))).2 k ((h k).mp hk)⟩
 have h2:mx f m<=mx f l:=mx_le.mpr ⟨z9n _ _,fun k hk=>(mx_le.mp (Int.le_refl (mx f l))).2 k ((h k).mpr hk)⟩
 omega
theorem z082 (f:Int->Int) (l:List Int) (k:Int):mx f (l++[k])=zae (mx f l) (f k):=by unfold mx;rw[List.foldl_append];rfl
theorem zvg (a b:Int):zae (a+1) (b+1)=zae a b+1:=by unfold zae;split<;>split<;>omega
def z70 (out:List Int) (args:List Int):Int:=mx (fun k=>out.getD k.toNat 0) (z1d args)+1
def z1z (ts:List z0c):List Int:=ts.foldl (fun out t=>out++[z70 out t.2.2.1]) []
theorem z6y (ts:List z0c) (t:z0c):z1z (ts++[t])=z1z ts++[z70 (z1z ts) t.2.2.1]:=by unfold z1z;rw[List.foldl_append];rfl
theorem z006 (ts:List z0c):(z1z ts).length=ts.length:=by
 have:∀(l:List z0c) (s:List Int),(l.foldl (fun out t=>out++[z70 out t.2.2.1]) s).length=s.length+l.length:=by
  intro l
  induction l with
  |nil=>intro s;simp
  |cons a l ih=>intro s;rw[List.foldl_cons,ih];simp;omega
 have:=this ts []
 simpa [z1z]using this
def zdc (ts:List z0c) (i:Nat):z0c:=ts.getD i z38
theorem z3v {ts:List z0c} {i:Nat} (h:i<ts.length):zdc ts i=ts[i]:=z16 h
def z8k (k:Nat) (v:Int):Bool:=zml v && !(z3p v&&decide ((k:Int)<=z2h v))
def z5n (ts:List z0c) (k:Nat):Bool:=inR (zdc ts k).1 0 4&&inR (zdc ts k).2.1 0 4&&decide ((zdc ts k).2.2.1.length<=5)&&(zdc ts k).2.2.1.all (z8k k) && !(ts.take k).any (fun t=>decide (t=zdc ts k))
def ze1 (ts:List z0c):Bool:=decide (ts.length<=30)&&(List.range ts.length).all (z5n ts)&&(z1z ts).all fun d=>decide (d<=8)
def vSk (s:TSk):Bool:=z3l s.1&&decide (zgs s.1<=s.2.1.length)&&ze1 s.2.1
theorem zhe {k:Nat} {args:List Int} (h:args.all (z8k k)=true):∀ n∈z1d args,0<=n/\n<k:=by
 intro n hn
 obtain⟨h1,h2,h3⟩:=mem_nulls.mp hn
 have:=List.all_eq_true.mp h _ h3
 unfold z8k at this
 rw[Bool.and_eq_true]at this
 have hi:z3p (-1 - n)=true:=isNul_iff.mpr ⟨by omega,by omega⟩
 have he:z2h (-1 - n)=n:=by unfold z2h;rw[if_pos hi];omega
 rw[hi,Bool.true_and,he]at this
 have h4:=this.2
 simp at h4
 exact⟨h1,h4⟩
theorem zqv {ts:List z0c} (h:ze1 ts=true) {k:Nat} (hk:k<ts.length):z5n ts k=true:=by
 unfold ze1 at h
 simp only[Bool.and_eq_true]at h
 exact List.all_eq_true.mp h.1.2 k (List.mem_range.mpr hk)
theorem z1u {s:TSk} (h:vSk s=true):z3l s.1=true/\zgs s.1<=s.2.1.length/\ze1 s.2.1=true:=by
 unfold vSk at h;simp at h;exact⟨h.1.1,h.1.2,h.2⟩
theorem z7z {ts:List z0c} (h:ze1 ts=true):ts.length<=30:=by unfold ze1 at h;simp at h;exact h.1.1
theorem zhn {g:Int->Int}:∀ {l:List Int} {s:Int},0<=s->l.foldl (fun m v=>zae m (if z3p v then g (z2h v)else 0)) s=(z1d l).foldl (fun m k=>zae m (g k)) s
 |[],_,_=>rfl
 | a::l,s,h=>by
   have hs:0<=zae s (g (z2h a)):=by unfold zae;split<;>omega
   have h0:zae s 0=s:=by unfold zae;split<;>omega
   rw[List.foldl_cons]
   cases hn:z3p a with
   | true=>
     have hno:z2h a = -1 - a:=by unfold z2h;rw[if_pos hn]
     have e:z1d (a::l)=(-1 - a)::z1d l:=by unfold z1d;simp[hn]
     rw[e,List.foldl_cons,if_pos rfl,zhn hs,hno]
   | false=>
     have e:z1d (a::l)=z1d l:=by unfold z1d;simp[hn]
     rw[e,if_neg (by simp),h0];exact zhn h
theorem z0y {s:TSk}:z0x s (vSk s):=zg0 _ _ (by
 unfold za4
 have no:vSk s=false->((false,()):Bool×Unit)=(vSk s,()):=fun h=>by rw[h]
 have na:ze1 s.2.1=false->((false,()):Bool×Unit)=(vSk s,()):=fun h=>no (by unfold vSk;rw[h];simp)
 refine z17 (fun k a=>∃ i:Nat,i+k=s.2.1.length/\a=((i:Int),(z1z (s.2.1.take i),()))/\i<=30/\(∀ j,j<i->z5n s.2.1 j=true)/\∀ d∈z1z (s.2.1.take i),d<=8) ?_ ?_ (n:=s.2.1.length) ⟨0,by omega,by simp[z1z],by omega,fun j hj=>by omega,by simp[z1z]⟩
 . rintro a ⟨i,hi,rfl,hi30,hok,hd⟩ X
   obtain rfl:i=s.2.1.length:=by omega
   rw[List.take_length]at hd
   refine z0h fun _=>bcN ?_
   have hT:ze1 s.2.1=true:=by
    unfold ze1
    rw[decide_eq_true hi30,List.all_eq_true.mpr fun i hi=>hok i (List.mem_range.mp hi),List.all_eq_true.mpr fun d h=>decide_eq_true (hd d h)];rfl
   have hf:=z02s s.1
   refine⟨_,zcl,_,z3y,z1k (fun hv=>z0h fun _=>z09 (fun _=>z0h fun _=>?_) (fun h=>by omega)) (fun hv=>no (by unfold vSk;rw[hv];simp))⟩
   have ev:vSk s=decide (zgs s.1<=s.2.1.length):=by unfold vSk;rw[hv,hT];simp
   rw[ev]
   refine z3z (fun h=>?_) (fun h=>z0h fun _=>?_)
   . have:zfk s.1=[]:=List.length_eq_zero_iff.mp (by omega)
     rw[decide_eq_true (nextN_le.mpr (by rw[this];simp))]
   . have hw:w64 ((zfk s.1).length - 1:Int)=(((zfk s.1).length - 1:Nat):Int):=by rw[z19 (by omega) (by omega)];omega
     rw[hw]
     have hlt:(zfk s.1).length - 1<(zfk s.1).length:=by omega
     refine inI hlt (z0h fun _=>?_)
     rw[z1r hlt]
     have hne:zfk s.1≠[]:=by intro e;rw[e]at h;simp at h
     have e1:zgs s.1=(zfk s.1)[(zfk s.1).length - 1]+1:=by unfold zgs;rw[List.getLast?_eq_some_getLast hne,List.getLast_eq_getElem]
     rw[e1]
     exact congrArg (fun b=>(b,())) (decide_eq_decide.mpr (by omega))
 . rintro k a ⟨i,hi,rfl,hi30,hok,hd⟩ X hX
   have hlt:i<s.2.1.length:=by omega
   have hdl:(z1z (s.2.1.take i)).length=i:=by rw[z006,List.length_take];omega
   have nt':z5n s.2.1 i=false->((false,()):Bool×Unit)=(vSk s,()):=fun h=>na (by
    unfold ze1
    have:(List.range s.2.1.length).all (z5n s.2.1)=false:=by
     rw[Bool.eq_false_iff];intro hall
     have:=List.all_eq_true.mp hall i (List.mem_range.mpr hlt);rw[h]at this;cases this
    rw[this];simp)
   have hta:=z3v hlt
   refine z0h fun hl=>bcI hlt ?_
   simp only
   rw[z1r hlt]
   refine z17 (fun k a=>∃ j:Nat,j+k=s.2.1[i].2.2.1.length/\a=(mx (fun k=>(z1z (s.2.1.take i)).getD k.toNat 0) (z1d (s.2.1[i].2.2.1.take j)),((j:Int),()))/\(s.2.1[i].2.2.1.take j).all (z8k i)=true) ?_ ?_ (n:=s.2.1[i].2.2.1.length) ⟨0,by omega,by simp[z1d,mx],by simp⟩
   rotate_left
   . rintro k a ⟨j,hj,rfl,hall⟩ Y hY
     have hjl:j<s.2.1[i].2.2.1.length:=by omega
     refine inI hlt (z0h fun _=>bcI hjl (inI hlt (inI hjl ?_)))
     simp only
     rw[z1r hjl,z02 (by omega)]
     have bad:z8k i s.2.1[i].2.2.1[j]=false->((false,()):Bool×Unit)=(vSk s,()):=fun h=>nt' (by
      unfold z5n
      rw[hta]
      have:s.2.1[i].2.2.1.all (z8k i)=false:=by
       rw[Bool.eq_false_iff];intro hall
       have:=List.all_eq_true.mp hall _ (List.getElem_mem hjl);rw[h]at this;cases this
      rw[this];simp)
     have hnl:z1d (s.2.1[i].2.2.1.take (j+1))=z1d (s.2.1[i].2.2.1.take j)++(if z3p s.2.1[i].2.2.1[j] then[-1 - s.2.1[i].2.2.1[j]] else[]):=by
      rw[z08 hjl,za3];congr 1
      unfold z1d
      cases h:z3p s.2.1[i].2.2.1[j]<;>simp[h]
     refine⟨_,_,z4t,_,z8l,z0p (fun h=>bad (by unfold z8k;rw[h];rfl)) (fun hv=>?_)⟩
     have hnext:z8k i s.2.1[i].2.2.1[j]=true->(s.2.1[i].2.2.1.take (j+1)).all (z8k i)=true:=fun h=>by
      rw[z08 hjl,List.all_append,hall];simp[h]
     refine z1k (fun hn=>?_) (fun hn=>?_)
     . have hno:z2h s.2.1[i].2.2.1[j] = -1 - s.2.1[i].2.2.1[j]:=by unfold z2h;rw[if_pos hn]
       have hr:=isNul_iff.mp hn
       refine z09 (fun h=>bad ?_) (fun h=>?_)
       . unfold z8k;rw[hv,hn,decide_eq_true (show(i:Int)<=z2h s.2.1[i].2.2.1[j] from h)];rfl
       . rw[hn]
         refine bcT ⟨⟨by rw[hno];omega,by rw[hdl];omega⟩,hY _ ⟨j+1,by omega,?_,hnext ?_⟩⟩
         . rw[hnl,if_pos hn,z082,hno]
         . unfold z8k;rw[hv,hn,decide_eq_false (show ¬ (i:Int)<=z2h s.2.1[i].2.2.1[j] by omega)];rfl
     . rw[hn]
       refine bcF (hY _ ⟨j+1,by omega,?_,hnext ?_⟩)
       . rw[hnl,if_neg (by rw[hn];simp),List.append_nil]
       . unfold z8k;rw[hv,hn];rfl
   rintro a ⟨j,hj,rfl,hall⟩ Y
   obtain rfl:j=s.2.1[i].2.2.1.length:=by omega
   refine inI hlt (z0h fun _=>bcN ?_)
   simp only[List.take_length]at hall ⊢
   have hmx:=z9n (fun k=>(z1z (s.2.1.take i)).getD k.toNat 0) (z1d s.2.1[i].2.2.1)
   have hmx8:mx (fun k=>(z1z (s.2.1.take i)).getD k.toNat 0) (z1d s.2.1[i].2.2.1)<=8:=mx_le.mpr ⟨by omega,fun k hk=>by
    have hr:=zhe hall k hk
    have hkl:k.toNat<(z1z (s.2.1.take i)).length:=by omega
    rw[z16 hkl];exact hd _ (List.getElem_mem hkl)⟩
   have hw:w64 (mx (fun k=>(z1z (s.2.1.take i)).getD k.toNat 0) (z1d s.2.1[i].2.2.1)+1)=z70 (z1z (s.2.1.take i)) s.2.1[i].2.2.1:=by rw[z19 (by omega) (by omega)];rfl
   rw[hw]
   refine⟨by simp only[z1b,List.length_cons,List.length_nil];omega,?_⟩
   have hsn:z1z (s.2.1.take i)++[z70 (z1z (s.2.1.take i)) s.2.1[i].2.2.1]=z1z (s.2.1.take (i+1)):=by rw[z08 hlt,z6y]
   have hmem:z70 (z1z (s.2.1.take i)) s.2.1[i].2.2.1∈z1z s.2.1:=by
    have:∀(l m:List z0c),∃ r,z1z (l++m)=z1z l++r:=by
     intro l m
     induction m generalizing l with
     |nil=>exact⟨[],by simp⟩
     | cons a m ih=>
       obtain⟨r,hr⟩:=ih (l++[a])
       rw[List.append_assoc,z6y,List.append_assoc]at hr
       exact⟨_,hr⟩
    obtain⟨r,hr⟩:=this (s.2.1.take (i+1)) (s.2.1.drop (i+1))
    rw[List.take_append_drop,<-hsn]at hr
    rw[hr];simp
   refine z09 (fun h=>na ?_) (fun h8=>inI hlt (z0h fun _=>z09 (fun h=>nt' ?_) (fun h5=>z09 (fun h=>na ?_) (fun h30=>?_))))
   . unfold ze1
     have:((z1z s.2.1).all fun d=>decide (d<=8))=false:=by
      rw[Bool.eq_false_iff];intro hall'
      have:=List.all_eq_true.mp hall' _ hmem
      have:z70 (z1z (s.2.1.take i)) s.2.1[i].2.2.1<=8:=by simpa using this
      unfold z70 at this;omega
     rw[this];simp
   . unfold z5n;rw[hta,decide_eq_false (show ¬ s.2.1[i].2.2.1.length<=5 by omega)];simp
   . unfold ze1;rw[decide_eq_false (show ¬ s.2.1.length<=30 by omega)];simp
   . refine z73 i (fun j=>decide (zdc s.2.1 j=s.2.1[i])) (fun j=>((j:Int),())) (KT:=(s.2.1.take i).any (fun t=>decide (t=s.2.1[i]))=true) (KF:=(s.2.1.take i).any (fun t=>decide (t=s.2.1[i]))=false) ?_ ?_ ?_ ?_
     . intro j hj Z _ q1 q2
       have hjl:j<s.2.1.length:=by omega
       have bad:s.2.1[j]=s.2.1[i]->((false,()):Bool×Unit)=(vSk s,()):=fun h=>nt' (by
        have:=q1 (by rw[z3v hjl];exact decide_eq_true h)
        unfold z5n;rw[hta,this];simp)
       have good:s.2.1[j]≠s.2.1[i]->Z (((j+1:Nat):Int),()):=fun h=>q2 (by rw[z3v hjl];exact decide_eq_false h)
       refine bcI hj (inI hjl (inI hlt ?_))
       simp only
       rw[z1r hjl,z02 (by omega)]
       refine z3z (fun h1=>inI hjl (inI hlt (z3z (fun h2=>inI hjl (inI hlt ⟨_,zl3,z3z (fun h3=>bad (Prod.ext h1 (Prod.ext h2 (Prod.ext (cmpL_zero.mp h3) rfl)))) (fun h3=>good fun e=>h3 (cmpL_zero.mpr (by rw[e])))⟩)) (fun h=>good fun e=>h (by rw[e]))))) (fun h=>good fun e=>h (by rw[e]))
     . intro Z hany
       refine bcN (inI hlt ⟨_,z5f,z0p (fun h=>nt' (by unfold z5n;rw[hta,h];simp)) (fun hd1=>inI hlt ⟨_,z5f,z0p (fun h=>nt' (by unfold z5n;rw[hta,h];simp)) (fun hd2=>?_)⟩)⟩)
       rw[z02 (by omega)]
       refine hX _ ⟨i+1,by omega,by rw[hsn],by omega,fun j hj=>?_,fun d hdm=>?_⟩
       . by_cases hji:j=i
         . subst hji
           unfold z5n
           rw[hta,hd1,hd2,hall,hany,decide_eq_true (show s.2.1[j].2.2.1.length<=5 by omega)];rfl
         . exact hok j (by omega)
       . rw[<-hsn]at hdm
         rcases List.mem_append.mp hdm with hdm|hdm
         . exact hd d hdm
         . have:d=z70 (z1z (s.2.1.take i)) s.2.1[i].2.2.1:=by simpa using hdm
           rw[this];unfold z70;omega
     . rintro⟨j,hj,hp⟩
       have hjl:j<s.2.1.length:=by omega
       rw[z3v hjl]at hp
       refine List.any_eq_true.mpr ⟨s.2.1[j],?_,hp⟩
       have hjt:j<(s.2.1.take i).length:=by rw[List.length_take];omega
       have:(s.2.1.take i)[j]=s.2.1[j]:=by simp
       rw[<-this];exact List.getElem_mem hjt
     . intro h
       rw[Bool.eq_false_iff];intro hany
       obtain⟨t,ht,hp⟩:=List.any_eq_true.mp hany
       obtain⟨j,hj,rfl⟩:=List.mem_iff_getElem.mp ht
       rw[List.length_take]at hj
       have:=h j (by omega)
       rw[z3v (by omega)]at this
       have e:(s.2.1.take i)[j]'(by rw[List.length_take];omega)=s.2.1[j]'(by omega):=by simp
       rw[e]at hp
       rw[hp]at this;cases this)
theorem zv3 {v:Int} {k:Nat}:z6c v k (!z8k k v):=zuy _ _ _ (by
 unfold zlg
 refine⟨_,_,ze9,_,zgk,z0p (fun h=>by unfold z8k;rw[h];rfl) (fun hv=>z1k (fun hn=>?_) (fun hn=>by unfold z8k;rw[hv,hn];rfl))⟩
 unfold z8k
 rw[hv,hn]
 simp)
theorem zzq {t:z0c} {k:Nat}:zj5 t k (inR t.1 0 4&&inR t.2.1 0 4&&decide (t.2.2.1.length<=5)&&t.2.2.1.all (z8k k)):=z00c _ _ _ (by
 unfold zq5
 refine⟨_,z3b,z0p (fun h=>by rw[h];rfl) (fun h1=>⟨_,z3b,z0p (fun h=>by rw[h];simp) (fun h2=>z0h fun _=>z09 (fun h=>?_) (fun h3=>⟨_,z5x (fun v=>!z8k k v) (fun _ _=>zv3),?_⟩))⟩)⟩
 . rw[decide_eq_false (show ¬ t.2.2.1.length<=5 by omega)];simp
 . rw[h1,h2,decide_eq_true (show t.2.2.1.length<=5 by omega),z3r];simp)
theorem zzm {x y:z0c}:zbu x y (decide (x=y)):=zz9 _ _ _ (by
 unfold zpd
 have no:¬ x=y->((false,()):Bool×Unit)=(decide (x=y),()):=fun h=>by rw[decide_eq_false h]
 refine z3z (fun h1=>z3z (fun h2=>⟨_,zkl,?_⟩) (fun h=>no fun e=>h (by rw[e]))) (fun h=>no fun e=>h (by rw[e]))
 obtain⟨a,b,c,_⟩:=x;obtain⟨a',b',c',_⟩:=y
 simp only at h1 h2;simp[h1,h2])
def z9w (ts:List z0c) (t:z0c):Int:=if z05 (fun x=>decide (x=t)) ts<ts.length then(z05 (fun x=>decide (x=t)) ts:Int)else -1
theorem z07v {ts:List z0c} {t:z0c}:zoq ts t (z9w ts t):=z06y _ _ _ (by
 unfold zy9
 exact⟨_,z5d (fun x=>decide (x=t)) (fun _ _=>zzm),rfl⟩)
theorem zy3 {α:Type} {p:α->Bool} {l:List α} {i:Nat} (h:i<l.length) (hp:p l[i]=true):z05 p l=i↔(l.take i).any p=false:=by
 constructor
 . intro he
   rw[Bool.eq_false_iff];intro hany
   obtain⟨t,ht,hpt⟩:=List.any_eq_true.mp hany
   obtain⟨j,hj,rfl⟩:=List.mem_iff_getElem.mp ht
   rw[List.length_take]at hj
   have:=z98 (p:=p) (l:=l) (i:=j) (by omega) (by omega)
   have e:(l.take i)[j]'(by rw[List.length_take];omega)=l[j]'(by omega):=by simp
   rw[e]at hpt;rw[this]at hpt;cases hpt
 . intro hany
   rcases Nat.lt_trichotomy (z05 p l) i with h1|h1|h1
   . have h2:=z7q (p:=p) (l:=l) (by omega)
     have:(l.take i).any p=true:=List.any_eq_true.mpr ⟨l[z05 p l],by
      have hj:z05 p l<(l.take i).length:=by rw[List.length_take];omega
      have e:(l.take i)[z05 p l]=l[z05 p l]'(by omega):=by simp
      rw[<-e];exact List.getElem_mem hj,h2⟩
     rw[hany]at this;cases this
   . exact h1
   . have:=z98 (p:=p) h h1;rw[hp]at this;cases this
theorem z077 {ts:List z0c} (hl:ts.length<=30) (ha:∀ k (h:k<ts.length),ts[k].2.2.1.all (z8k k)=true/\ts[k].2.2.1.length<=5):zpw ts (z1z ts):=z08u _ _ (by
 unfold zyl
 refine z0h fun _=>?_
 have hbnd0:∀(n:Nat) (l:List z0c),l.length=n->∀ d∈z1z l,1<=d/\d<=l.length:=by
  intro n
  induction n with
  |zero=>intro l hl;obtain rfl:=List.length_eq_zero_iff.mp hl;simp[z1z]
  | succ n ih0=>
    intro l0 hl d hd
    have hne:l0≠[]:=by intro e;rw[e]at hl;simp at hl
    obtain⟨l,t,rfl⟩:∃ l t,l0=l++[t]:=⟨_,_,(List.dropLast_concat_getLast hne).symm⟩
    have ih:=ih0 l (by simpa using hl)
    rw[z6y]at hd
    rw[List.length_append]
    rcases List.mem_append.mp hd with hd|hd
    . have:=ih d hd;simp;omega
    . have e:d=z70 (z1z l) t.2.2.1:=by simpa using hd
      rw[e]
      unfold z70
      have h0:=z9n (fun k=>(z1z l).getD k.toNat 0) (z1d t.2.2.1)
      have:mx (fun k=>(z1z l).getD k.toNat 0) (z1d t.2.2.1)<=l.length:=mx_le.mpr ⟨by omega,fun k _=>by
       by_cases hk:k.toNat<(z1z l).length
       . rw[z16 hk];exact(ih _ (List.getElem_mem hk)).2
       . rw[List.getD_eq_getElem?_getD,List.getElem?_eq_none (by omega)];simp⟩
      simp only[List.length_cons,List.length_nil];omega
 have hbnd:=fun l=>hbnd0 _ l rfl
 refine z0u ts.length (fun i=>((i:Int),(z1z (ts.take i),()))) (by simp[z1z]) ?_ ?_
 . intro i hi X hX
   have hdl:(z1z (ts.take i)).length=i:=by rw[z006,List.length_take];omega
   have hai:=ha i hi
   refine bcI hi (inI hi ⟨_,zm7 (by simp only;rw[z1r hi];omega),z0h fun hsl=>?_⟩)
   simp only at hsl ⊢
   rw[z1r hi]at hsl ⊢
   refine z0u (zca (z1d ts[i].2.2.1)).length (fun j=>(((zca (z1d ts[i].2.2.1)).take j).foldl (fun m k=>zae m ((z1z (ts.take i)).getD k.toNat 0)) 0+1,((j:Int),()))) (by simp) ?_ ?_
   . intro j hj Y hY
     have hm:=mem_sset.mp (List.getElem_mem hj)
     have hr:=zhe hai.1 _ hm
     have hkl:(zca (z1d ts[i].2.2.1))[j].toNat<(z1z (ts.take i)).length:=by omega
     refine bcI hj (inI hj ?_)
     simp only
     rw[z1r hj,z02 (by omega)]
     refine⟨⟨hr.1,by rw[hdl];exact hr.2⟩,?_⟩
     have hb:=hbnd (ts.take i) _ (List.getElem_mem hkl)
     rw[List.length_take]at hb
     have e:(z1z (ts.take i)).getD (zca (z1d ts[i].2.2.1))[j].toNat 0=(z1z (ts.take i))[(zca (z1d ts[i].2.2.1))[j].toNat]:=z16 hkl
     rw[z19 (by rw[e];omega) (by rw[e];omega)]
     rw[z08 hj,List.foldl_append]at hY
     rw[zvg]
     exact hY
   . intro Y
     refine bcN ?_
     simp only[List.take_length]
     have hmx:(zca (z1d ts[i].2.2.1)).foldl (fun m k=>zae m ((z1z (ts.take i)).getD k.toNat 0)) 0+1=z70 (z1z (ts.take i)) ts[i].2.2.1:=by
      unfold z70
      have:=z09r (f:=fun k=>(z1z (ts.take i)).getD k.toNat 0) (l:=zca (z1d ts[i].2.2.1)) (m:=z1d ts[i].2.2.1) (fun k=>mem_sset)
      rw[<-this];rfl
     rw[hmx,z02 (by omega)]
     refine⟨by simp only[z1b,List.length_cons,List.length_nil];omega,?_⟩
     rw[z08 hi,z6y]at hX
     exact hX
 . intro X
   refine bcN ?_
   simp only[List.take_length])
theorem zvq {d:Int}:z67 d (decide (d > 8)):=zuh _ _ (by unfold zk5;rfl)
theorem z00d {ts:List z0c}:zje ts (ze1 ts):=z015 _ _ (by
 unfold zq4
 have no:ze1 ts=false->((false,()):Bool×Unit)=(ze1 ts,()):=fun h=>by rw[h]
 refine z0h fun _=>z09 (fun h=>no (by unfold ze1;rw[decide_eq_false (show ¬ ts.length<=30 by omega)];simp)) (fun hl=>z0h fun _=>?_)
 have tOk:∀ k (h:k<ts.length),z5n ts k=((inR ts[k].1 0 4&&inR ts[k].2.1 0 4&&decide (ts[k].2.2.1.length<=5)&&ts[k].2.2.1.all (z8k k))&&decide (z9w ts ts[k]=k)):=by
  intro k h
  have e:(!(ts.take k).any (fun t=>decide (t=ts[k])))=decide (z9w ts ts[k]=k):=by
   have hf:=zy3 (p:=fun t=>decide (t=ts[k])) h (by simp)
   cases hany:(ts.take k).any (fun t=>decide (t=ts[k]))with
   | false=>
     have:=hf.mpr hany
     unfold z9w
     rw[this,if_pos h];simp
   | true=>
     have hne:z05 (fun t=>decide (t=ts[k])) ts≠k:=fun e=>by rw[hf.mp e]at hany;cases hany
     unfold z9w
     split
     . rw[decide_eq_false (by omega)];rfl
     . rw[decide_eq_false (by omega)];rfl
  unfold z5n
  rw[z3v h,e]
 refine z73 ts.length (fun k=>!z5n ts k) (fun k=>((k:Int),())) (KT:=ze1 ts=false) (KF:=∀ k,k<ts.length->z5n ts k=true) ?_ ?_ ?_ ?_
 . intro i hi X _ q1 q2
   refine bcI hi (inI hi ⟨_,zzq,?_⟩)
   simp only
   rw[z1r hi,z02 (by omega)]
   rw[tOk i hi]at q1 q2
   refine z0p (fun h=>no (q1 (by rw[h];rfl))) (fun h=>⟨_,z07v,zcx (fun h2=>no (q1 (by rw[decide_eq_false h2];simp))) (fun h2=>q2 (by rw[h,decide_eq_true h2];rfl))⟩)
 . intro X hall
   refine bcN ⟨_,z077 (by omega) (fun k hk=>?_),_,z5o (fun d=>decide (d > 8)) (fun _ _=>zvq),?_⟩
   . have:=hall k hk
     rw[tOk k hk]at this
     simp only[Bool.and_eq_true,decide_eq_true_eq]at this
     exact⟨this.1.2,this.1.1.2⟩
   . have e:(!(z1z ts).any fun d=>decide (d > 8))=(z1z ts).all fun d=>decide (d<=8):=by
      have h1:=z3r (p:=fun d:Int=>decide (d<=8)) (l:=z1z ts)
      have h2:(fun d:Int=>!decide (d<=8))=fun d=>decide (d > 8):=by funext d;by_cases h:d<=8<;>simp[h]<;>omega
      rw[h2]at h1;rw[h1];simp
     rw[e]
     unfold ze1
     rw[decide_eq_true (show ts.length<=30 by omega),List.all_eq_true.mpr fun k hk=>hall k (List.mem_range.mp hk)];rfl
 . rintro⟨k,hk,hp⟩
   unfold ze1
   have:(List.range ts.length).all (z5n ts)=false:=by
    rw[Bool.eq_false_iff];intro hall
    have:=List.all_eq_true.mp hall k (List.mem_range.mpr hk);rw[nt hp]at this;cases this
   rw[this];simp
 . intro h k hk;exact nf (h k hk))
theorem z41 {s:TSk}:z2f s (vSk s):=zgi _ _ (by
 unfold z9q
 refine⟨_,zlf,z1k (fun h1=>z0h fun _=>⟨_,z003 (by have:=zsg h1;omega),z09 (fun h2=>⟨_,z00d,?_⟩) (fun h2=>?_)⟩) (fun h1=>?_)⟩
 . unfold vSk;rw[h1,decide_eq_true h2];rfl
 . unfold vSk;rw[decide_eq_false h2];simp
 . unfold vSk;rw[h1];rfl)
def cntT (ts:List z0c) (d:Int):Nat:=(ts.filter fun t=>t.1 == d).length
def zsa (s:TSk) (d:Int):Int:=if vSk s then cntT s.2.1 d else 0
theorem zx8 {ts:List z0c} {d:Int} {i:Nat} (h:i<ts.length):cntT (ts.take (i+1)) d=cntT (ts.take i) d+(if ts[i].1 == d then 1 else 0):=by
 unfold cntT
 rw[z08 h,List.filter_append,List.length_append]
 congr 1
 cases hp:(ts[i].1 == d)<;>simp[hp]
theorem z073 (ts:List z0c) (d:Int):cntT ts d<=ts.length:=List.length_filter_le _ _
theorem zvl {s:TSk} {d:Int}:zeo s d (zsa s d):=zum _ _ _ (by
 unfold zl2 zsa
 cases hv:vSk s with
 | false=>
   refine z0u 0 (fun _=>((0:Int),((0:Int),()))) rfl (fun i hi=>by omega) fun X=>?_
   refine z0h fun _=>z09 (fun _=>⟨_,z0y,?_⟩) (fun _=>?_)
   . rw[hv];exact bcF (by simp)
   . simp
 | true=>
   refine z0u s.2.1.length (fun i=>((cntT (s.2.1.take i) d:Int),((i:Int),()))) (by simp[cntT]) ?_ ?_
   . intro i hi X hX
     have hc:=z073 (s.2.1.take i) d
     rw[List.length_take]at hc
     refine z0h fun _=>bcI hi ⟨_,z0y,?_⟩
     rw[hv]
     refine bcT (inI hi ?_)
     simp only
     rw[z1r hi,z02 (by omega),z02 (by omega)]
     rw[zx8 hi]at hX
     refine z1k (fun h=>?_) (fun h=>?_)
     . rw[h]at hX;exact hX
     . rw[h]at hX;exact hX
   . intro X
     refine z0h fun _=>bcN ?_
     simp only[List.take_length];rfl)
theorem zlm {s:TSk} {d:Int}:zb4 s d (zsa s d):=zua _ _ _ (by
 unfold zlr zsa
 refine⟨_,z41,z0p (fun h=>by rw[h];rfl) (fun h=>z0h fun _=>?_)⟩
 rw[h]
 refine z0u s.2.1.length (fun i=>((cntT (s.2.1.take i) d:Int),((i:Int),()))) (by simp[cntT]) ?_ ?_
 . intro i hi X hX
   have hc:=z073 (s.2.1.take i) d
   rw[List.length_take]at hc
   refine bcI hi (inI hi ?_)
   simp only
   rw[z1r hi,z02 (by omega),z02 (by omega)]
   rw[zx8 hi]at hX
   refine z1k (fun h=>?_) (fun h=>?_)
   . rw[h]at hX;exact hX
   . rw[h]at hX;exact hX
 . intro X
   refine bcN ?_
   simp only[List.take_length];rfl)
def zv4 (out:List Int) (args:List Int):Int:=if args=[] then 0 else mx (fun k=>out.getD k.toNat 0) (z1d args)+1
def nst (ts:List z0c):List Int:=ts.foldl (fun out t=>out++[zv4 out t.2.2.1]) []
theorem zoe (ts:List z0c) (t:z0c):nst (ts++[t])=nst ts++[zv4 (nst ts) t.2.2.1]:=by unfold nst;rw[List.foldl_append];rfl
theorem zgf (ts:List z0c):(nst ts).length=ts.length:=by
 have:∀(l:List z0c) (s:List Int),(l.foldl (fun out t=>out++[zv4 out t.2.2.1]) s).length=s.length+l.length:=by
  intro l
  induction l with
  |nil=>intro s;simp
  |cons a l ih=>intro s;rw[List.foldl_cons,ih];simp;omega
 have:=this ts []
 simpa [nst]using this
theorem z07b (l m:List z0c):∃ r,nst (l++m)=nst l++r:=by
 induction m generalizing l with
 |nil=>exact⟨[],by simp⟩
 | cons a m ih=>
   obtain⟨r,hr⟩:=ih (l++[a])
   rw[List.append_assoc,zoe,List.append_assoc]at hr
   exact⟨_,hr⟩
theorem z0ao {ts:List z0c} {i:Nat} (h:i<=ts.length):nst (ts.take i)=(nst ts).take i:=by
 obtain⟨r,hr⟩:=z07b (ts.take i) (ts.drop i)
 rw[List.take_append_drop]at hr
 have hl:(nst (ts.take i)).length=i:=by rw[zgf,List.length_take];omega
 have h2:=congrArg (List.take i) hr
 rw[List.take_append_of_le_length (by omega),List.take_of_length_le (l:=nst (ts.take i)) (by omega)]at h2
 exact h2.symm
theorem zux {ts:List z0c} {i k:Nat} (h:k<i) (hi:i<=ts.length):(nst (ts.take i)).getD k 0=(nst ts).getD k 0:=by
 have hl:=zgf ts
 rw[z0ao hi,z16 (by rw[List.length_take];omega),z16 (by omega)];simp
theorem z0d0 (n:Nat):∀(l:List z0c),l.length=n->∀ d∈nst l,0<=d/\d<=l.length:=by
 induction n with
 |zero=>intro l hl;obtain rfl:=List.length_eq_zero_iff.mp hl;simp[nst]
 | succ n ih0=>
   intro l0 hl d hd
   have hne:l0≠[]:=by intro e;rw[e]at hl;simp at hl
   obtain⟨l,t,rfl⟩:∃ l t,l0=l++[t]:=⟨_,_,(List.dropLast_concat_getLast hne).symm⟩
   have ih:=ih0 l (by simpa using hl)
   rw[zoe]at hd
   rw[List.length_append]
   simp only[List.length_cons,List.length_nil]
   rcases List.mem_append.mp hd with hd|hd
   . have:=ih d hd;omega
   . have e:d=zv4 (nst l) t.2.2.1:=by simpa using hd
     rw[e]
     unfold zv4
     split
     . omega
     . have h0:=z9n (fun k=>(nst l).getD k.toNat 0) (z1d t.2.2.1)
       have:mx (fun k=>(nst l).getD k.toNat 0) (z1d t.2.2.1)<=l.length:=mx_le.mpr ⟨by omega,fun k _=>by
        by_cases hk:k.toNat<(nst l).length
        . rw[z16 hk];exact(ih _ (List.getElem_mem hk)).2
        . rw[List.getD_eq_getElem?_getD,List.getElem?_eq_none (by omega)];simp⟩
       omega
theorem zzr (ts:List z0c) (k:Nat):0<=(nst ts).getD k 0/\(nst ts).getD k 0<=ts.length:=by
 by_cases hk:k<(nst ts).length
 . rw[z16 hk];exact z0d0 _ ts rfl _ (List.getElem_mem hk)
 . rw[List.getD_eq_getElem?_getD,List.getElem?_eq_none (by omega)];simp
theorem zsc {α σ:Type} {f g:σ->α->σ}:∀ {l:List α} {s:σ},(∀ a∈l,∀ s,f s a=g s a)->l.foldl f s=l.foldl g s
 |[],_,_=>rfl
 |a::l,s,h=>by rw[List.foldl_cons,List.foldl_cons,h a (by simp)];exact zsc fun b hb=>h b (by simp[hb])
theorem z05s {f g:Int->Int} {l:List Int} (h:∀ k∈l,f k=g k):mx f l=mx g l:=zsc fun k hk s=>by rw[h k hk]
theorem z0by {ts:List z0c} {i:Nat} (h:i<ts.length) (ha:ts[i].2.2.1.all (z8k i)=true) :
  (nst ts).getD i 0=if ts[i].2.2.1=[] then 0 else mx (fun k=>(nst ts).getD k.toNat 0) (z1d ts[i].2.2.1)+1:=by
 rw[<-zux (show i<i+1 by omega) (by omega),z08 h,zoe]
 have hl:(nst (ts.take i)).length=i:=by rw[zgf,List.length_take];omega
 have:(nst (ts.take i)++[zv4 (nst (ts.take i)) ts[i].2.2.1]).getD i 0=zv4 (nst (ts.take i)) ts[i].2.2.1:=by
  rw[z16 (by simp[hl])]
  simp[hl]
 rw[this]
 unfold zv4
 split
 . rfl
 . congr 1
   refine z05s fun k hk=>?_
   have:=zhe ha k hk
   exact zux (by omega) (by omega)
def z6d (ts:List z0c) (v:Int):Int:=if z3p v then(nst ts).getD (z2h v).toNat 0 else 0
def tdep (s:TSk) (v:Int):Int:=if vSk s then z6d s.2.1 v else 0
theorem zxq (ts:List z0c) (v:Int):0<=z6d ts v/\z6d ts v<=ts.length:=by
 unfold z6d
 split
 . exact zzr _ _
 . omega
theorem zg2 (v:Int):0<=z2h v/\z2h v<=39:=by
 unfold z2h
 split
 . rename_i h;have:=isNul_iff.mp h;omega
 . omega
theorem zp6 {ts:List z0c} (h:ze1 ts=true) {k:Nat} (hk:k<ts.length):ts[k].2.2.1.all (z8k k)=true:=by
 have:=zqv h hk
 unfold z5n at this
 simp only[Bool.and_eq_true]at this
 rw[z3v hk]at this
 exact this.1.2
theorem z025 {ts:List z0c} (h:ze1 ts=true) {k:Nat} (hk:k<ts.length):ts[k].2.2.1.length<=5:=by
 have:=zqv h hk
 unfold z5n at this
 simp only[Bool.and_eq_true,decide_eq_true_eq]at this
 rw[z3v hk]at this
 exact this.1.1.2
theorem z03e {l:List Int} {j:Nat} (h:j<l.length):z1d (l.take (j+1))=z1d (l.take j)++(if z3p l[j] then[-1 - l[j]] else[]):=by
 rw[z08 h,za3];congr 1
 unfold z1d
 cases hn:z3p l[j]<;>simp[hn]
theorem zqa {l m:List Int} {k:Nat} (h:k<l.length):(l++m).getD k 0=l.getD k 0:=by
 rw[z16 (by rw[List.length_append];omega),z16 h,List.getElem_append_left h]
theorem zmu {s:TSk} {v:Int}:zch s v (tdep s v):=zy7 _ _ _ (by
 unfold zmm
 have hno:=zg2 v
 have z0:z3p v=false->((0,()):Int×Unit)=(tdep s v,()):=fun h=>by unfold tdep z6d;rw[h];simp
 refine⟨_,_,z4t,z0p z0 (fun hn=>⟨_,z0y,z0p (fun h=>by unfold tdep;rw[h];simp) (fun hv=>z0h fun _=>z09 (fun h=>?_) (fun h=>z0h fun _=>⟨⟨by omega,by omega,by have:=z7z (z1u hv).2.2;simp only[z1b];omega⟩,?_⟩))⟩)⟩
 . unfold tdep z6d
   have hl:=zgf s.2.1
   rw[hv,hn,if_pos rfl,if_pos rfl,List.getD_eq_getElem?_getD,List.getElem?_eq_none (by omega)];rfl
 have hT:=(z1u hv).2.2
 have ht30:=z7z hT
 obtain⟨n,hnn⟩:∃ n:Nat,z2h v=n:=⟨(z2h v).toNat,by omega⟩
 rw[hnn]at h ⊢
 refine z0u (n+1) (fun i=>((i:Int),(nst (s.2.1.take i)++List.replicate (s.2.1.length - i) 0,()))) (by simp[nst]) ?_ ?_
 . intro i hi X hX
   have hlt:i<s.2.1.length:=by omega
   have hdl:(nst (s.2.1.take i)).length=i:=by rw[zgf,List.length_take];omega
   have hai:=zp6 hT hlt
   have ha5:=z025 hT hlt
   refine z09 (fun _=>?_) (fun h=>by omega)
   simp only
   rw[z1r hlt]
   refine z0u s.2.1[i].2.2.1.length (fun j=>(mx (fun k=>(nst (s.2.1.take i)).getD k.toNat 0) (z1d (s.2.1[i].2.2.1.take j)),((j:Int),()))) (by simp[z1d,mx]) ?_ ?_
   . intro j hj Y hY
     refine inI hlt (z0h fun _=>bcI hj (inI hlt (inI hj ⟨_,_,z4t,?_⟩)))
     simp only
     rw[z1r hj,z02 (by omega)]
     rw[z03e hj]at hY
     refine z1k (fun hn=>?_) (fun hn=>?_)
     . have hno:z2h s.2.1[i].2.2.1[j] = -1 - s.2.1[i].2.2.1[j]:=by unfold z2h;rw[if_pos hn]
       have e0 : -1 - (-1 - s.2.1[i].2.2.1[j])=s.2.1[i].2.2.1[j]:=by omega
       have hr0:=isNul_iff.mp hn
       have hr:=zhe hai (-1 - s.2.1[i].2.2.1[j]) (mem_nulls.mpr ⟨by omega,by omega,by rw[e0];exact List.getElem_mem hj⟩)
       rw[hno]
       refine⟨⟨by omega,by simp only[List.length_append,hdl,List.length_replicate];omega⟩,?_⟩
       rw[zqa (by omega)]
       rw[if_pos hn,z082]at hY
       exact hY
     . rw[if_neg (by rw[hn];simp),List.append_nil]at hY
       exact hY
   . intro Y
     simp only[List.take_length]
     have hmx:=z9n (fun k=>(nst (s.2.1.take i)).getD k.toNat 0) (z1d s.2.1[i].2.2.1)
     have hmx2:mx (fun k=>(nst (s.2.1.take i)).getD k.toNat 0) (z1d s.2.1[i].2.2.1)<=s.2.1.length:=mx_le.mpr ⟨by omega,fun k _=>by
      have:=zzr (s.2.1.take i) k.toNat;rw[List.length_take]at this;omega⟩
     have hw:w64 (mx (fun k=>(nst (s.2.1.take i)).getD k.toNat 0) (z1d s.2.1[i].2.2.1)+1)=mx (fun k=>(nst (s.2.1.take i)).getD k.toNat 0) (z1d s.2.1[i].2.2.1)+1:=z19 (by omega) (by omega)
     have hw2:w64 ((i:Int)+1)=((i+1:Nat):Int):=z02 (by omega)
     rw[hw,hw2]
     have hrep:List.replicate (s.2.1.length - i) (0:Int)=0::List.replicate (s.2.1.length - (i+1)) 0:=by
      have:s.2.1.length - i=(s.2.1.length - (i+1))+1:=by omega
      rw[this];rfl
     rw[z08 hlt,zoe]at hX
     unfold zv4 at hX
     refine inI hlt (z0h fun _=>bcN (inI hlt (z0h fun _=>z09 (fun h0=>⟨⟨by omega,by simp only[List.length_append,hdl,List.length_replicate];omega⟩,?_⟩) (fun h0=>?_))))
     . have hne:s.2.1[i].2.2.1≠[]:=by intro e;rw[e]at h0;simp at h0
       rw[if_neg hne]at hX
       have e:(nst (s.2.1.take i)++List.replicate (s.2.1.length - i) 0).set (Int.toNat (i:Int)) (mx (fun k=>(nst (s.2.1.take i)).getD k.toNat 0) (z1d s.2.1[i].2.2.1)+1)
         = nst (s.2.1.take i)++[mx (fun k=>(nst (s.2.1.take i)).getD k.toNat 0) (z1d s.2.1[i].2.2.1)+1]++List.replicate (s.2.1.length - (i+1)) 0:=by
        rw[hrep,show Int.toNat (i:Int)=i from rfl,List.set_append_right _ _ (by omega),hdl,Nat.sub_self];simp
       rw[e];exact hX
     . have hne:s.2.1[i].2.2.1=[]:=List.length_eq_zero_iff.mp (by omega)
       rw[if_pos hne]at hX
       rw[hrep]
       have e:nst (s.2.1.take i)++0::List.replicate (s.2.1.length - (i+1)) 0=nst (s.2.1.take i)++[0]++List.replicate (s.2.1.length - (i+1)) 0:=by simp
       rw[e];exact hX
 . intro X
   have hdl:(nst (s.2.1.take (n+1))).length=n+1:=by rw[zgf,List.length_take];omega
   refine z09 (fun h=>by omega) (fun _=>⟨⟨by omega,by simp only[List.length_append,hdl,List.length_replicate];omega⟩,?_⟩)
   simp only
   rw[zqa (by omega),show Int.toNat (n:Int)=n from rfl,zux (by omega) (by omega)]
   unfold tdep z6d
   rw[hv,hn,hnn];rfl)
theorem zso {s:TSk} (hk:ze1 s.2.1=true) {v:Int} (ih:z3p v=true->∀ w,(z3p w=true->z2h w<z2h v)->z7r s w (z6d s.2.1 w)):z7r s v (z6d s.2.1 v):=z04h _ _ _ (by
 unfold zt3
 have hno:=zg2 v
 have hl:=zgf s.2.1
 have ht30:=z7z hk
 refine⟨_,_,ze9,z0p (fun h=>by unfold z6d;rw[h];simp) (fun hn=>z0h fun _=>z09 (fun h=>?_) (fun h=>?_))⟩
 . unfold z6d
   rw[hn,if_pos rfl,List.getD_eq_getElem?_getD,List.getElem?_eq_none (by omega)];rfl
 obtain⟨n,hnn⟩:∃ n:Nat,z2h v=n:=⟨(z2h v).toNat,by omega⟩
 rw[hnn]at h ⊢
 have hlt:n<s.2.1.length:=by omega
 have hai:=zp6 hk hlt
 have ha5:=z025 hk hlt
 have htd:z6d s.2.1 v=(nst s.2.1).getD n 0:=by unfold z6d;rw[if_pos hn,hnn];rfl
 rw[htd,z0by hlt hai]
 simp only[z1r hlt]
 refine inI hlt (z0h fun _=>z3z (fun h0=>?_) (fun h0=>inI hlt (z0h fun _=>?_)))
 . have:s.2.1[n].2.2.1=[]:=List.length_eq_zero_iff.mp (by omega)
   rw[if_pos this]
 rw[if_neg (fun e=>h0 (by rw[e];rfl))]
 refine z0u s.2.1[n].2.2.1.length (fun j=>((s.2.1[n].2.2.1.take j).foldl (fun m v=>zae m (z6d s.2.1 v)) 0,((j:Int),()))) (by simp) ?_ ?_
 . intro j hj Y hY
   refine bcI hj (inI hj ⟨z6d s.2.1 s.2.1[n].2.2.1[j],?_,?_⟩)
   . simp only
     rw[z1r hj]
     refine ih hn _ fun hw=>?_
     have:=List.all_eq_true.mp hai _ (List.getElem_mem hj)
     unfold z8k at this
     rw[hw]at this
     simp at this
     omega
   . rw[z08 hj,List.foldl_append]at hY
     simp only
     rw[z02 (by omega)]
     exact hY
 . intro Y
   refine bcN ?_
   simp only[List.take_length]
   have e:s.2.1[n].2.2.1.foldl (fun m v=>zae m (z6d s.2.1 v)) 0=mx (fun k=>(nst s.2.1).getD k.toNat 0) (z1d s.2.1[n].2.2.1):=zhn (g:=fun k=>(nst s.2.1).getD k.toNat 0) (Int.le_refl 0)
   rw[e]
   have hmx:=z9n (fun k=>(nst s.2.1).getD k.toNat 0) (z1d s.2.1[n].2.2.1)
   have hmx2:mx (fun k=>(nst s.2.1).getD k.toNat 0) (z1d s.2.1[n].2.2.1)<=s.2.1.length:=mx_le.mpr ⟨by omega,fun k _=>(zzr _ _).2⟩
   rw[z19 (by omega) (by omega)])
theorem zxc {s:TSk} (hk:ze1 s.2.1=true):∀(n:Nat) (v:Int),(z3p v=true->z2h v<n)->z7r s v (z6d s.2.1 v)
 |0,v,h=>zso hk fun hn=>by have:=h hn;have:=zg2 v;omega
 |n+1,v,h=>zso hk fun hn w hw=>zxc hk n w fun h2=>by have:=h hn;have:=hw h2;omega
theorem zsz {s:TSk} {v:Int} (hk:ze1 s.2.1=true):z7r s v (z6d s.2.1 v):=zxc hk 40 v fun _=>by have:=zg2 v;omega
theorem zwd {s:TSk} {v:Int}:zg3 s v (tdep s v):=zy2 _ _ _ (by
 unfold zmw tdep
 exact⟨_,z41,z0p (fun h=>by rw[h];rfl) (fun h=>⟨_,zsz (z1u h).2.2,by rw[h];rfl⟩)⟩)
def sumA (l:List z0m):Int:=l.foldl (fun a r=>a+r.2.1) 0
theorem zxz:∀ {l:List z0m} {a b:Int},l.foldl (fun a r=>a+r.2.1) (a+b)=l.foldl (fun a r=>a+r.2.1) a+b
 |[],_,_=>rfl
 |x::l,a,b=>by rw[List.foldl_cons,List.foldl_cons,show a+b+x.2.1=(a+x.2.1)+b by omega];exact zxz
theorem zcc:∀ {l:List z0m} {a:Int},(∀ r∈l,znh r=true)->a<=l.foldl (fun a r=>a+r.2.1) a/\l.foldl (fun a r=>a+r.2.1) a<=a+3 * l.length
 |[],a,_=>by simp
 | x::l,a,h=>by
   have h1:=zbc (h x (by simp))
   have h2:=zcc (l:=l) (a:=a+x.2.1) fun r hr=>h r (by simp[hr])
   rw[List.foldl_cons,List.length_cons];omega
def z9p (l:List z0m) (r p:Int):Int:=if z90 l&&inR r 0 ((l.length:Int) - 1)&&inR p 0 (zj8 l r - 1)then sumA (l.take r.toNat)+p else -1
theorem zf5 {l:List z0m} {r p:Int}:z7i l r p (z9p l r p):=zn4 _ _ _ _ (by
 unfold zf1
 refine⟨_,z21,z0p (fun h=>by unfold z9p;rw[h];rfl) (fun hv=>z0h fun _=>⟨_,z5f,?_⟩)⟩
 have hl:=zbr hv
 rw[z19 (by omega) (by omega)]
 refine z0p (fun h=>by unfold z9p;rw[h];simp) (fun h1=>?_)
 have hr:=inR_iff.mp h1
 obtain⟨n,rfl⟩:∃ n:Nat,r=n:=⟨r.toNat,by omega⟩
 have hn:n<l.length:=by omega
 have ha:=zbc (z62 hv (List.getElem_mem hn))
 refine inI hn ⟨_,z5f,?_⟩
 rw[z1r hn,z19 (by omega) (by omega)]
 have har:zj8 l n=l[n].2.1:=by unfold zj8;rw[z1r hn]
 refine z0p (fun h=>by unfold z9p;rw[har,h];simp) (fun h2=>?_)
 have hp:=inR_iff.mp h2
 have hb:=fun i=>zcc (l:=l.take i) (a:=0) fun r hr=>z62 hv (List.mem_of_mem_take hr)
 refine z0u n (fun i=>(sumA (l.take i),((i:Int),()))) (by simp[sumA]) ?_ ?_
 . intro i hi X hX
   have hil:i<l.length:=by omega
   have hbi:=hb (i+1)
   refine bcI hi (inI hil ?_)
   simp only
   rw[z08 hil]at hX hbi
   unfold sumA at hX ⊢
   rw[List.foldl_append]at hX hbi
   simp only[List.foldl_cons,List.foldl_nil,List.length_append,List.length_take,List.length_cons,List.length_nil]at hX hbi
   rw[z1r hil,z02 (by omega),z19 (by omega) (by omega)]
   exact hX
 . intro X
   have hbi:=hb n
   rw[List.length_take]at hbi
   refine bcN ?_
   unfold z9p
   rw[hv,h1,har,h2]
   simp only
   unfold sumA
   rw[z19 (by omega) (by omega)];rfl)
theorem zex {l:List z0m} {r p:Int}:z7k l r p (z9p l r p):=zna _ _ _ _ (by
 unfold zfo
 refine⟨_,z2m,z0p (fun h=>by unfold z9p;rw[h];rfl) (fun hv=>z0h fun _=>⟨_,z3b,?_⟩)⟩
 have hl:=zbr hv
 rw[z19 (by omega) (by omega)]
 refine z0p (fun h=>by unfold z9p;rw[h];simp) (fun h1=>?_)
 have hr:=inR_iff.mp h1
 obtain⟨n,rfl⟩:∃ n:Nat,r=n:=⟨r.toNat,by omega⟩
 have hn:n<l.length:=by omega
 have ha:=zbc (z62 hv (List.getElem_mem hn))
 refine inI hn ⟨_,z3b,?_⟩
 rw[z1r hn,z19 (by omega) (by omega)]
 have har:zj8 l n=l[n].2.1:=by unfold zj8;rw[z1r hn]
 refine z0p (fun h=>by unfold z9p;rw[har,h];simp) (fun h2=>⟨⟨by omega,by omega,by omega⟩,z0h fun _=>?_⟩)
 have hp:=inR_iff.mp h2
 have e0:List.drop (Int.toNat (0:Int)) (List.take (Int.toNat (n:Int)) l)=l.take n:=rfl
 have hnl:(l.take n).length=n:=by rw[List.length_take];omega
 rw[e0]
 refine z0u n (fun i=>((l.take i).foldl (fun a r=>a+r.2.1) p,((i:Int),()))) (by simp) ?_ ?_
 . intro i hi X hX
   have hil:i<l.length:=by omega
   have hit:i<(l.take n).length:=by omega
   have hbi:=zcc (l:=l.take (i+1)) (a:=p) fun r hr=>z62 hv (List.mem_of_mem_take hr)
   refine bcI hit (inI hit ?_)
   simp only
   have e:(l.take n)[i]=l[i]:=by simp
   rw[z08 hil]at hX hbi
   rw[List.foldl_append]at hX hbi
   simp only[List.foldl_cons,List.foldl_nil,List.length_append,List.length_take,List.length_cons,List.length_nil]at hX hbi
   rw[z1r hit,e,z02 (by omega),z19 (by omega) (by omega)]
   exact hX
 . intro X
   rw[hnl]
   refine bcN ?_
   unfold z9p
   rw[hv,h1,har,h2]
   have:=zxz (l:=l.take n) (a:=0) (b:=p)
   rw[Int.zero_add]at this
   simp only
   rw[this];rfl)
def mdG (s:TSk) (pos:Int) (f:z01) (m:Int) (j:Nat):Int:=if z9p s.1.1 f.1 j == pos then zae m (z6d s.2.1 (f.2.1.getD j 0))else m
def mdF (s:TSk) (pos:Int) (m:Int) (f:z01):Int:=(List.range f.2.1.length).foldl (mdG s pos f) m
def mdep (s:TSk) (pos:Int):Int:=if vSk s then s.1.2.1.foldl (mdF s pos) 0 else 0
theorem zkd {s:TSk} {pos:Int}:zay s pos (mdep s pos):=zvr _ _ _ (by
 unfold zlh mdep
 cases hv:vSk s with
 | false=>
   refine z0u 0 (fun _=>((0:Int),((0:Int),()))) rfl (fun i hi=>by omega) fun X=>?_
   refine z0h fun _=>z09 (fun _=>⟨_,z0y,?_⟩) (fun _=>?_)
   . rw[hv];exact bcF (by simp)
   . simp
 | true=>
   rw[if_pos rfl]
   have hf30:=z55 (z1u hv).1
   refine z3w s.1.2.1 (mdF s pos) 0 (fun i m=>(m,((i:Int),()))) ?_ ?_
   . intro i hi X hX
     have hf:=z2e (z59 (z1u hv).1 (List.getElem_mem hi))
     refine z0h fun _=>bcI hi ⟨_,z0y,?_⟩
     rw[hv]
     refine bcT ?_
     simp only
     rw[z1r hi]
     generalize (s.1.2.1.take i).foldl (mdF s pos) 0=m0 at hX ⊢
     unfold mdF at hX
     refine z0u s.1.2.1[i].2.1.length (fun j=>((List.range j).foldl (mdG s pos s.1.2.1[i]) m0,((j:Int),()))) (by simp) ?_ ?_
     . intro j hj Y hY
       refine inI hi (z0h fun _=>bcI hj (inI hi ⟨_,zf5,?_⟩))
       simp only
       rw[z02 (by omega)]
       rw[List.range_succ,List.foldl_append,List.foldl_cons,List.foldl_nil]at hY
       rw[mdG.eq_def]at hY
       refine z1k (fun h=>inI hi (inI hj ⟨_,zmu,?_⟩)) (fun h=>?_)
       . rw[h,if_pos rfl]at hY
         unfold tdep
         rw[hv,if_pos rfl]
         exact hY
       . rw[h]at hY;exact hY
     . intro Y
       refine inI hi (z0h fun _=>bcN ?_)
       simp only
       rw[z02 (by omega)];exact hX
   . intro X
     exact z0h fun _=>bcN rfl)
theorem zl1 {s:TSk} {pos:Int}:zax s pos (mdep s pos):=ztt _ _ _ (by
 unfold zki mdep
 refine⟨_,z41,z0p (fun h=>by rw[h];rfl) (fun hv=>z0h fun _=>?_)⟩
 rw[hv,if_pos rfl]
 have hf30:=z55 (z1u hv).1
 refine z3w s.1.2.1 (mdF s pos) 0 (fun i m=>(m,((i:Int),()))) ?_ ?_
 . intro i hi X hX
   have hf:=z2e (z59 (z1u hv).1 (List.getElem_mem hi))
   refine bcI hi (inI hi (z0h fun _=>?_))
   simp only
   rw[z1r hi]
   generalize (s.1.2.1.take i).foldl (mdF s pos) 0=m0 at hX ⊢
   unfold mdF at hX
   refine z0u s.1.2.1[i].2.1.length (fun j=>((List.range j).foldl (mdG s pos s.1.2.1[i]) m0,((j:Int),()))) (by simp) ?_ ?_
   . intro j hj Y hY
     refine bcI hj (inI hj ⟨_,zex,?_⟩)
     simp only
     rw[z02 (by omega)]
     rw[List.range_succ,List.foldl_append,List.foldl_cons,List.foldl_nil]at hY
     rw[mdG.eq_def]at hY
     refine z1k (fun h=>⟨_,zsz (z1u hv).2.2,?_⟩) (fun h=>?_)
     . rw[h,if_pos rfl]at hY
       exact hY
     . rw[h]at hY;exact hY
   . intro Y
     refine bcN ?_
     simp only
     rw[z02 (by omega)];exact hX
 . intro X
   exact bcN rfl)
theorem z6r {d:z0b} (h1:(d.1.flatMap (·.2.1)).length<=1073741824) (h2:(d.2.1.flatMap (·.2.1)).length<=1073741824):z39 d (frV d):=zi1 _ _ (by
 unfold zao
 have hv:=zhq d.2.1
 refine⟨_,z7s h1,_,z7s h2,?_⟩
 refine z0u (vars d.2.1).length (fun i=>((i:Int),(((vars d.2.1).take i).filter (fun v=>decide (v∈vars d.1)),()))) (by simp) ?_ ?_
 . intro i hi X hX
   refine z0h fun _=>bcI hi (inI hi ⟨_,zl5,?_⟩)
   simp only
   rw[z1r hi,z02 (by omega)]
   have e:((vars d.2.1).take (i+1)).filter (fun v=>decide (v∈vars d.1))=((vars d.2.1).take i).filter (fun v=>decide (v∈vars d.1))++(if (vars d.2.1)[i]∈vars d.1 then[(vars d.2.1)[i]] else[]):=by
    rw[z08 hi,List.filter_append]
    by_cases h:(vars d.2.1)[i]∈vars d.1<;>simp[h]
   rw[e]at hX
   have hb:=List.length_filter_le (fun v=>decide (v∈vars d.1)) ((vars d.2.1).take i)
   rw[List.length_take]at hb
   refine z1k (fun h=>inI hi ⟨by simp only[z1b,List.length_cons,List.length_nil];omega,?_⟩) (fun h=>?_)
   . have h:(vars d.2.1)[i]∈vars d.1:=by simpa using h
     rw[if_pos h]at hX;exact hX
   . have h:¬ (vars d.2.1)[i]∈vars d.1:=by simpa using h
     rw[if_neg h,List.append_nil]at hX;exact hX
 . intro X
   refine z0h fun _=>bcN ?_
   simp only[List.take_length]
   rfl)
theorem zi8 {d:z0b} (h1:(d.1.flatMap (·.2.1)).length<=1073741824) (h2:(d.2.1.flatMap (·.2.1)).length<=1073741824):z6p d (frV d):=zi0 _ _ (by
 unfold zal
 exact⟨_,zff h1 h2,by rw[z0a9]⟩)
def placeG (l:List z0m) (a:z01) (v:Int) (out:List Int) (j:Nat):List Int:=if a.2.1.getD j 0 == v then out++[z9p l a.1 j] else out
def zfj (l:List z0m) (v:Int) (out:List Int) (a:z01):List Int:=(List.range a.2.1.length).foldl (placeG l a v) out
def places (l:List z0m) (ats:List z01) (v:Int):List Int:=ats.foldl (zfj l v) []
theorem zhp (l:List z0m) (a:z01) (v:Int) (out:List Int):∀ n:Nat,((List.range n).foldl (placeG l a v) out).length<=out.length+n
 |0=>by simp
 | n+1=>by
   have:=zhp l a v out n
   rw[List.range_succ,List.foldl_append,List.foldl_cons,List.foldl_nil]
   unfold placeG at this ⊢
   split
   . rw[List.length_append];simp only[List.length_cons,List.length_nil];omega
   . omega
theorem z04a (l:List z0m) (v:Int) (out:List Int) (a:z01):(zfj l v out a).length<=out.length+a.2.1.length:=zhp l a v out _
theorem zem (l:List z0m) (v:Int):∀(ats:List z01) (out:List Int),(ats.foldl (zfj l v) out).length<=out.length+(ats.flatMap (·.2.1)).length
 |[],out=>by simp
 | a::ats,out=>by
   have h1:=zem l v ats (zfj l v out a)
   have h2:=z04a l v out a
   rw[List.foldl_cons,List.flatMap_cons,List.length_append];omega
theorem z4i (l:List z0m) (ats:List z01) (v:Int):(places l ats v).length<=(ats.flatMap (·.2.1)).length:=by
 have:=zem l v ats []
 simpa [places]using this
theorem z03m {l:List z0m} {ats:List z01} {v p:Int} (h:p∈places l ats v):∃ a∈ats,∃ j:Nat,j<a.2.1.length/\p=z9p l a.1 j:=by
 have h2:∀(a:z01) (n:Nat) (out:List Int),p∈(List.range n).foldl (placeG l a v) out->p∈out\/∃ j:Nat,j<n/\p=z9p l a.1 j:=by
  intro a n
  induction n with
  |zero=>intro out h;exact .inl (by simpa using h)
  | succ n ih=>
    intro out h
    rw[List.range_succ,List.foldl_append,List.foldl_cons,List.foldl_nil]at h
    unfold placeG at h
    split at h
    . rcases List.mem_append.mp h with h|h
      . rcases ih out h with h|⟨j,hj,e⟩
        . exact .inl h
        . exact .inr ⟨j,by omega,e⟩
      . exact .inr ⟨n,by omega,by simpa using h⟩
    . rcases ih out h with h|⟨j,hj,e⟩
      . exact .inl h
      . exact .inr ⟨j,by omega,e⟩
 have h3:∀(bs:List z01) (out:List Int),p∈bs.foldl (zfj l v) out->p∈out\/∃ a∈bs,∃ j:Nat,j<a.2.1.length/\p=z9p l a.1 j:=by
  intro bs
  induction bs with
  |nil=>intro out h;exact .inl h
  | cons a bs ih=>
    intro out h
    rw[List.foldl_cons]at h
    rcases ih _ h with h|⟨b,hb,e⟩
    . rcases h2 a _ out h with h|⟨j,hj,e⟩
      . exact .inl h
      . exact .inr ⟨a,by simp,j,hj,e⟩
    . exact .inr ⟨b,by simp[hb],e⟩
 rcases h3 ats [] h with h|h
 . cases h
 . exact h
theorem zg6 {l:List z0m} {ats:List z01} {v:Int} (hb:(ats.flatMap (·.2.1)).length<=1073741824):zaa l ats v (places l ats v):=zyi _ _ _ _ (by
 unfold zn0
 refine z3w ats (zfj l v) [] (fun i m=>((i:Int),(m,()))) ?_ ?_
 . intro i hi X hX
   have hs:=zbj (fun a:z01=>a.2.1) hi
   have hm:=zem l v (ats.take i) []
   rw[List.length_nil]at hm
   refine z0h fun _=>bcI hi ?_
   simp only
   rw[z1r hi]
   generalize (ats.take i).foldl (zfj l v) []=m0 at hX hm ⊢
   unfold zfj at hX
   refine z0u ats[i].2.1.length (fun j=>((j:Int),((List.range j).foldl (placeG l ats[i] v) m0,()))) (by simp) ?_ ?_
   . intro j hj Y hY
     have hl:=zhp l ats[i] v m0 j
     refine inI hi (z0h fun _=>bcI hj (inI hi (inI hj ?_)))
     simp only
     rw[z02 (by omega)]
     rw[List.range_succ,List.foldl_append,List.foldl_cons,List.foldl_nil]at hY
     rw[placeG.eq_def]at hY
     refine z1k (fun h=>inI hi ⟨_,zf5,⟨by simp only[z1b,List.length_cons,List.length_nil];omega,?_⟩⟩) (fun h=>?_)
     . rw[if_pos (show(ats[i].2.1.getD j 0 == v)=true from h)]at hY;exact hY
     . rw[show(ats[i].2.1.getD j 0 == v)=false from h]at hY;exact hY
   . intro Y
     refine inI hi (z0h fun _=>bcN ?_)
     simp only
     rw[z02 (by omega)];exact hX
 . intro X
   exact z0h fun _=>bcN rfl)
theorem zih {l:List z0m} {ats:List z01} {v:Int} (hb:(ats.flatMap (·.2.1)).length<=1073741824):z9e l ats v (places l ats v):=zrd _ _ _ _ (by
 unfold ziu
 refine z0h fun _=>z3w ats (zfj l v) [] (fun i m=>((i:Int),(m,()))) ?_ ?_
 . intro i hi X hX
   have hs:=zbj (fun a:z01=>a.2.1) hi
   have hm:=zem l v (ats.take i) []
   rw[List.length_nil]at hm
   refine bcI hi (inI hi (z0h fun _=>?_))
   simp only
   rw[z1r hi]
   generalize (ats.take i).foldl (zfj l v) []=m0 at hX hm ⊢
   unfold zfj at hX
   refine z0u ats[i].2.1.length (fun j=>((j:Int),((List.range j).foldl (placeG l ats[i] v) m0,()))) (by simp) ?_ ?_
   . intro j hj Y hY
     have hl:=zhp l ats[i] v m0 j
     refine bcI hj (inI hj ?_)
     simp only
     rw[z02 (by omega)]
     rw[List.range_succ,List.foldl_append,List.foldl_cons,List.foldl_nil]at hY
     rw[placeG.eq_def]at hY
     refine z1k (fun h=>⟨_,zex,⟨by simp only[z1b,List.length_cons,List.length_nil];omega,?_⟩⟩) (fun h=>?_)
     . rw[if_pos (show(ats[i].2.1.getD j 0 == v)=true from h)]at hY;exact hY
     . rw[show(ats[i].2.1.getD j 0 == v)=false from h]at hY;exact hY
   . intro Y
     refine bcN ?_
     simp only
     rw[z02 (by omega)];exact hX
 . intro X
   exact bcN rfl)
theorem z6b {α σ:Type} {μ:σ->Nat} {g:σ->α->σ} {c:Nat}:∀ {l:List α} {s:σ},(∀ s,∀ a∈l,μ (g s a)<=μ s+c)->μ (l.foldl g s)<=μ s+l.length * c
 |[],s,_=>by simp
 | a::l,s,h=>by
   have h1:=h s a (by simp)
   have h2:=z6b (s:=g s a) fun s b (hb:b∈l)=>h s b (by simp[hb])
   rw[List.foldl_cons,List.length_cons,Nat.add_mul];omega
theorem z26 {α σ τ:Type} {B:(τ->Prop)->τ->Prop} (l:List α) (g:σ->α->σ) (s0:σ) (e:Nat->σ->τ) (μ:σ->Nat) (c N:Nat) (hN:l.length<=N) (hg:∀ s,∀ a∈l,μ (g s a)<=μ s+c)
  (hs:∀ i (h:i<l.length) (s:σ) (X:τ->Prop),μ s<=μ s0+N * c->X (e (i+1) (g s l[i]))->B X (e i s))
  (hf:∀ X:τ->Prop,μ (l.foldl g s0)<=μ s0+N * c->B X (e l.length (l.foldl g s0))):z0f B (e 0 s0):=by
 have hb:∀ i,i<=l.length->μ ((l.take i).foldl g s0)<=μ s0+N * c:=fun i hi=>by
  have h1:=z6b (μ:=μ) (g:=g) (c:=c) (l:=l.take i) (s:=s0) fun s a ha=>hg s a (List.mem_of_mem_take ha)
  rw[List.length_take,Nat.min_eq_left hi]at h1
  have:i * c<=N * c:=Nat.mul_le_mul_right c (by omega)
  omega
 refine z3w l g s0 e (fun i hi X hX=>hs i hi _ X (hb i (by omega)) hX) (fun X=>hf X ?_)
 have:=hb l.length (Nat.le_refl _)
 rwa [List.take_length]at this
def zrp (d:z0b):Prop:=(d.1.flatMap (·.2.1)).length<=6/\(d.2.1.flatMap (·.2.1)).length<=6
theorem zvt {l:List z0m} {d:z0b} (h:zhf l d=true):zrp d:=by
 have:=z56 h;exact⟨this.2.2.2.2.2.1,this.2.2.2.2.2.2⟩
theorem zvm {d:z0b} (h:zrp d):(exV d).length<=6:=Nat.le_trans (List.length_filter_le _ _) (Nat.le_trans (zhq _) h.2)
theorem zpq {d:z0b} (h:zrp d):(frV d).length<=6:=Nat.le_trans (List.length_filter_le _ _) (Nat.le_trans (zhq _) h.2)
def zxe (e:List z0d) (x:z0d):List z0d:=if x∈e then e else e++[x]
def ed (f:Int) (b:Bool) (ps:List Int) (out:List z0d):List z0d:=ps.foldl (fun out t=>zxe out (f,t,b,())) out
def zqe (l:List z0m) (d:z0b) (v:Int) (out:List z0d) (f:Int):List z0d:=(exV d).foldl (fun out n=>ed f true (places l d.2.1 n) out) (ed f false (places l d.2.1 v) out)
def gVar (l:List z0m) (d:z0b) (out:List z0d) (v:Int):List z0d:=(places l d.1 v).foldl (zqe l d v) out
def gDep (l:List z0m) (out:List z0d) (d:z0b):List z0d:=(frV d).foldl (gVar l d) out
def za8 (l:List z0m) (ds:List z0b):List z0d:=if ze2 l ds then ds.foldl (gDep l) [] else[]
theorem zoh (e:List z0d) (x:z0d):(zxe e x).length<=e.length+1:=by unfold zxe;split<;>simp
theorem zsh (f:Int) (b:Bool) (ps:List Int) (out:List z0d):(ed f b ps out).length<=out.length+ps.length:=by
 have:=z6b (μ:=List.length) (g:=fun out t=>zxe out (f,t,b,())) (c:=1) (l:=ps) (s:=out) fun s a _=>zoh _ _
 unfold ed;omega
theorem zqo {l:List z0m} {d:z0b} (h:zrp d) (v:Int) (out:List z0d) (f:Int):(zqe l d v out f).length<=out.length+42:=by
 have h1:=zsh f false (places l d.2.1 v) out
 have h2:=z4i l d.2.1 v
 have h3:=z6b (μ:=List.length) (g:=fun out n=>ed f true (places l d.2.1 n) out) (c:=6) (l:=exV d) (s:=ed f false (places l d.2.1 v) out) fun s a _=>by
  have h1:=zsh f true (places l d.2.1 a) s
  have h2:=z4i l d.2.1 a
  have:=h.2;omega
 have h4:=zvm h
 have:=h.2
 unfold zqe;omega
theorem zuw {l:List z0m} {d:z0b} (h:zrp d) (out:List z0d) (v:Int):(gVar l d out v).length<=out.length+252:=by
 have h1:=z6b (μ:=List.length) (g:=zqe l d v) (c:=42) (l:=places l d.1 v) (s:=out) fun s a _=>zqo h v s a
 have h2:=z4i l d.1 v
 have:=h.1
 unfold gVar;omega
theorem z024 {l:List z0m} {d:z0b} (h:zrp d) (out:List z0d):(gDep l out d).length<=out.length+1512:=by
 have h1:=z6b (μ:=List.length) (g:=gVar l d) (c:=252) (l:=frV d) (s:=out) fun s a _=>zuw h s a
 have h2:=zpq h
 unfold gDep;omega
theorem z01i (x y:z0d):eqD (.pair (.int .i64) (.pair (.int .i64) (.pair .bool .unit))) x y=decide (x=y):=by
 obtain⟨a,b,c,_⟩:=x;obtain⟨a',b',c',_⟩:=y
 show((a == a')&&((b == b')&&((c == c')&&true)))=_
 by_cases h1:a=a'<;>by_cases h2:b=b'<;>by_cases h3:c=c'<;>simp[h1,h2,h3]
theorem zc3 {x0:List z0d} {x1:z0d}:z3j x0 x1 (if z05 (fun t=>decide (x1=t)) x0<x0.length then(z05 (fun t=>decide (x1=t)) x0:Int)else -1):=zby _ _ _ (by
 unfold z5p
 exact zil (d:=z1p) (fun t=>decide (x1=t)) (fun y=>((y,()):Int×Unit)=((if z05 (fun t=>decide (x1=t)) x0<x0.length then(z05 (fun t=>decide (x1=t)) x0:Int)else -1),())) (fun t A B=>z00 (eqD (.pair (.int .i64) (.pair (.int .i64) (.pair .bool .unit))) x1 t) A B) (fun t _ A B h1 h2=>by rw[z01i];exact z1k h1 h2) rfl)
theorem z9j {x0:List z0d} {x1:z0d}:z2z x0 x1 (decide (x1∈x0)):=z9o _ _ _ (by
 unfold z4o
 refine⟨_,zc3,?_⟩
 rw[zio]
 have:(x0.any fun t=>decide (x1=t))=decide (x1∈x0):=by
  rw[Bool.eq_iff_iff,List.any_eq_true]
  simp
 rw[this])
theorem zka {e:List z0d} {x:z0d} (h:e.length<=1073741824):zb2 e x (zxe e x):=zvi _ _ _ (by
 unfold zk7
 refine z6f e (fun y=>decide (y=x)) (fun i=>((i:Int),())) (KT:=x∈e) (KF:=¬ x∈e) ?_ ?_ ?_ ?_
 . intro i hi X h1 h2
   refine z0h fun _=>bcI hi (inI hi ?_)
   simp only
   rw[z1r hi,z02 (by omega)]
   rw[z01i]
   refine z1k (fun h=>?_) (fun h=>h2 h)
   have:=h1 h
   unfold zxe;rw[if_pos this]
 . intro X hn
   refine z0h fun _=>bcN ⟨by simp only[z1b,List.length_cons,List.length_nil];omega,?_⟩
   unfold zxe;rw[if_neg hn]
 . intro h
   obtain⟨y,hy,hp⟩:=List.any_eq_true.mp h
   have:y=x:=by simpa using hp
   rw[<-this];exact hy
 . intro h hm
   have:e.any (fun y=>decide (y=x))=true:=List.any_eq_true.mpr ⟨x,hm,by simp⟩
   rw[h]at this;cases this)
theorem z88 {f v:Int} {hd:List z01} {b:Bool} {l:List z0m} {out:List z0d} (hb:(hd.flatMap (·.2.1)).length<=6) (h:out.length<=1000000):z3f f hd v b l out (ed f b (places l hd v) out):=zes _ _ _ _ _ _ _ (by
 unfold z8b
 have hp:=z4i l hd v
 refine⟨_,zih (by omega),z0h fun _=>?_⟩
 refine z26 (places l hd v) (fun out t=>zxe out (f,t,b,())) out (fun i m=>((i:Int),(m,()))) List.length 1 6 (by omega) (fun s a _=>zoh _ _) ?_ ?_
 . intro i hi s X hs hX
   refine bcI hi (inI hi ⟨_,z9j,?_⟩)
   simp only
   rw[z1r hi,z02 (by omega)]
   unfold zxe at hX
   refine z0p (fun h=>⟨by simp only[z1b,List.length_cons,List.length_nil];omega,?_⟩) (fun h=>?_)
   . have hn:¬ (f,(places l hd v)[i],b,())∈s:=by simpa using h
     rw[if_neg hn]at hX;exact hX
   . have hn:(f,(places l hd v)[i],b,())∈s:=by simpa using h
     rw[if_pos hn]at hX;exact hX
 . intro X _
   exact bcN rfl)
theorem zf7 {l:List z0m} {ds:List z0b}:z7n l ds (za8 l ds):=zny _ _ _ (by
 unfold zf0 za8
 refine⟨_,z85,z0p (fun h=>by rw[h];rfl) (fun hv=>z0h fun _=>?_)⟩
 rw[hv,if_pos rfl]
 have hdl:=zfz hv
 have hsm:∀ d∈ds,zrp d:=fun d hd=>zvt (zh6 hv hd)
 refine z26 ds (gDep l) [] (fun i m=>((i:Int),(m,()))) List.length 1512 5 hdl (fun s a ha=>z024 (hsm a ha) s) ?_ ?_
 . intro i hi s X hs hX
   rw[List.length_nil]at hs
   have hd:=hsm _ (List.getElem_mem hi)
   have hd1:=hd.1
   have hd2:=hd.2
   have hfl:=zpq hd
   refine bcI hi (inI hi ⟨_,zi8 (by simp only;rw[z1r hi];omega) (by simp only;rw[z1r hi];omega),z0h fun _=>?_⟩)
   simp only
   rw[z1r hi,z02 (by omega)]
   refine z26 (frV ds[i]) (gVar l ds[i]) s (fun i m=>((i:Int),(m,()))) List.length 252 6 hfl (fun s a _=>zuw hd s a) ?_ ?_
   . intro j hj s2 Y hs2 hY
     have hpl:=z4i l ds[i].1 (frV ds[i])[j]
     refine bcI hj (inI hj ⟨_,zih (by omega),z0h fun _=>?_⟩)
     simp only
     rw[z1r hj,z02 (by omega)]
     refine z26 (places l ds[i].1 (frV ds[i])[j]) (zqe l ds[i] (frV ds[i])[j]) s2 (fun i m=>((i:Int),(m,()))) List.length 42 6 (by omega) (fun s a _=>zqo hd _ s a) ?_ ?_
     . intro k hk s3 Z hs3 hZ
       have hel:=zvm hd
       refine bcI hk (inI hk ⟨_,z88 hd2 (by simp only;omega),_,ze6 (by omega) (by omega),z0h fun _=>?_⟩)
       simp only
       rw[z1r hk,z02 (by omega)]
       have he1:=zsh (places l ds[i].1 (frV ds[i])[j])[k] false (places l ds[i].2.1 (frV ds[i])[j]) s3
       have hp1:=z4i l ds[i].2.1 (frV ds[i])[j]
       refine z26 (exV ds[i]) (fun out n=>ed (places l ds[i].1 (frV ds[i])[j])[k] true (places l ds[i].2.1 n) out) (ed (places l ds[i].1 (frV ds[i])[j])[k] false (places l ds[i].2.1 (frV ds[i])[j]) s3) (fun i m=>((i:Int),(m,()))) List.length 6 6 hel (fun s a _=>by
        have h1:=zsh (places l ds[i].1 (frV ds[i])[j])[k] true (places l ds[i].2.1 a) s
        have h2:=z4i l ds[i].2.1 a
        omega) ?_ ?_
       . intro m hm s4 W hs4 hW
         refine bcI hm (inI hm ⟨_,z88 hd2 (by simp only;omega),?_⟩)
         simp only
         rw[z1r hm,z02 (by omega)];exact hW
       . intro W _
         exact bcN hZ
     . intro Z _
       exact bcN hY
   . intro Y _
     exact bcN hX
 . intro X _
   exact bcN rfl)
theorem zf8 {l:List z0m} {ds:List z0b}:z7e l ds (za8 l ds):=zn9 _ _ _ (by
 unfold zfl za8
 cases hv:ze2 l ds with
 | false=>
   refine z0u 0 (fun _=>((0:Int),(([]:List z0d),()))) rfl (fun i hi=>by omega) fun X=>?_
   refine z0h fun _=>z09 (fun _=>⟨_,z3d,?_⟩) (fun _=>?_)
   . rw[hv];exact bcF (by simp)
   . simp
 | true=>
   rw[if_pos rfl]
   have hdl:=zfz hv
   have hsm:∀ d∈ds,zrp d:=fun d hd=>zvt (zh6 hv hd)
   refine z26 ds (gDep l) [] (fun i m=>((i:Int),(m,()))) List.length 1512 5 hdl (fun s a ha=>z024 (hsm a ha) s) ?_ ?_
   . intro i hi s X hs hX
     rw[List.length_nil]at hs
     have hd:=hsm _ (List.getElem_mem hi)
     have hd1:=hd.1
     have hd2:=hd.2
     have hfl:=zpq hd
     have hel:=zvm hd
     refine z0h fun _=>bcI hi ⟨_,z3d,?_⟩
     rw[hv]
     refine bcT (inI hi ⟨_,z6r (by simp only;rw[z1r hi];omega) (by simp only;rw[z1r hi];omega),inI hi ⟨_,z4u (by simp only;rw[z1r hi];omega) (by simp only;rw[z1r hi];omega),?_⟩⟩)
     simp only
     rw[z1r hi,z02 (by omega)]
     refine z26 (frV ds[i]) (gVar l ds[i]) s (fun i m=>((i:Int),(m,()))) List.length 252 6 hfl (fun s a _=>zuw hd s a) ?_ ?_
     . intro j hj s2 Y hs2 hY
       have hpl:=z4i l ds[i].1 (frV ds[i])[j]
       have hpl2:=z4i l ds[i].2.1 (frV ds[i])[j]
       refine z0h fun _=>bcI hj (inI hi (inI hj ⟨_,zg6 (by omega),inI hi (inI hj ⟨_,zg6 (by omega),?_⟩)⟩))
       simp only
       rw[z1r hj,z02 (by omega)]
       refine z26 (places l ds[i].1 (frV ds[i])[j]) (zqe l ds[i] (frV ds[i])[j]) s2 (fun i m=>((i:Int),(m,()))) List.length 42 6 (by omega) (fun s a _=>zqo hd _ s a) ?_ ?_
       . intro k hk s3 Z hs3 hZ
         refine z0h fun _=>bcI hk ?_
         simp only
         rw[z1r hk,z02 (by omega)]
         have he1:=zsh (places l ds[i].1 (frV ds[i])[j])[k] false (places l ds[i].2.1 (frV ds[i])[j]) s3
         refine z26 (places l ds[i].2.1 (frV ds[i])[j]) (fun out t=>zxe out ((places l ds[i].1 (frV ds[i])[j])[k],t,false,())) s3 (fun i m=>((i:Int),(m,()))) List.length 1 6 (by omega) (fun s a _=>zoh _ _) ?_ ?_
         . intro m hm s4 W hs4 hW
           refine z0h fun _=>bcI hm (inI hk (inI hm ⟨_,zka (by simp only;omega),?_⟩))
           simp only
           rw[z1r hm,z02 (by omega)];exact hW
         . intro W hs4
           refine z0h fun _=>bcN ?_
           simp only
           refine z26 (exV ds[i]) (fun out n=>ed (places l ds[i].1 (frV ds[i])[j])[k] true (places l ds[i].2.1 n) out) (ed (places l ds[i].1 (frV ds[i])[j])[k] false (places l ds[i].2.1 (frV ds[i])[j]) s3) (fun i m=>((i:Int),(m,()))) List.length 6 6 hel (fun s a _=>by
            have h1:=zsh (places l ds[i].1 (frV ds[i])[j])[k] true (places l ds[i].2.1 a) s
            have h2:=z4i l ds[i].2.1 a
            omega) ?_ ?_
           . intro m hm s4 V hs4 hV
             have hpl3:=z4i l ds[i].2.1 (exV ds[i])[m]
             refine z0h fun _=>bcI hm (inI hi (inI hm ⟨_,zg6 (by omega),?_⟩))
             simp only
             rw[z1r hm,z02 (by omega)]
             refine z26 (places l ds[i].2.1 (exV ds[i])[m]) (fun out t=>zxe out ((places l ds[i].1 (frV ds[i])[j])[k],t,true,())) s4 (fun i m=>((i:Int),(m,()))) List.length 1 6 (by omega) (fun s a _=>zoh _ _) ?_ ?_
             . intro p hp s5 V5 hs5 hV5
               refine z0h fun _=>bcI hp (inI hk (inI hp ⟨_,zka (by simp only;omega),?_⟩))
               simp only
               rw[z1r hp,z02 (by omega)];exact hV5
             . intro V5 _
               exact z0h fun _=>bcN hV
           . intro V _
             exact z0h fun _=>bcN hZ
       . intro Z _
         exact z0h fun _=>bcN hY
     . intro Y _
       exact z0h fun _=>bcN hX
   . intro X _
     exact z0h fun _=>bcN rfl)
def zia (l:List z0m):Int:=if z90 l then sumA l else 0
theorem zfc {l:List z0m}:z7j l (zia l):=zni _ _ (by
 unfold zfm zia
 cases hv:z90 l with
 | false=>
   refine z0u 0 (fun _=>((0:Int),((0:Int),()))) rfl (fun i hi=>by omega) fun X=>?_
   refine z0h fun _=>z09 (fun _=>⟨_,z21,?_⟩) (fun _=>?_)
   . rw[hv];exact bcF (by simp)
   . simp
 | true=>
   rw[if_pos rfl]
   have hl:=zbr hv
   refine z3w l (fun a r=>a+r.2.1) 0 (fun i m=>(m,((i:Int),()))) ?_ ?_
   . intro i hi X hX
     have hb:=zcc (l:=l.take i) (a:=0) fun r hr=>z62 hv (List.mem_of_mem_take hr)
     rw[List.length_take]at hb
     have ha:=zbc (z62 hv (List.getElem_mem hi))
     refine z0h fun _=>bcI hi ⟨_,z21,?_⟩
     rw[hv]
     refine bcT (inI hi ?_)
     simp only
     rw[z1r hi,z02 (by omega),z19 (by omega) (by omega)]
     exact hX
   . intro X
     exact z0h fun _=>bcN rfl)
theorem zey {l:List z0m}:z7l l (zia l):=znp _ _ (by
 unfold zfa zia
 refine⟨_,z2m,z0p (fun h=>by rw[h];rfl) (fun hv=>z0h fun _=>?_)⟩
 rw[hv,if_pos rfl]
 have hl:=zbr hv
 refine z3w l (fun a r=>a+r.2.1) 0 (fun i m=>(m,((i:Int),()))) ?_ ?_
 . intro i hi X hX
   have hb:=zcc (l:=l.take i) (a:=0) fun r hr=>z62 hv (List.mem_of_mem_take hr)
   rw[List.length_take]at hb
   have ha:=zbc (z62 hv (List.getElem_mem hi))
   refine bcI hi (inI hi ?_)
   simp only
   rw[z1r hi,z02 (by omega),z19 (by omega) (by omega)]
   exact hX
 . intro X
   exact bcN rfl)
def z4a {α:Type} (f:α->α):Nat->α->α
 |0,a=>a
 |n+1,a=>z4a f n (f a)
theorem z94 {α:Type} {f:α->α}:∀ {n:Nat} {a:α},z4a f (n+1) a=f (z4a f n a)
 |0,_=>rfl
 |n+1,a=>by rw[z4a,z94];rfl
theorem zqz {α:Type} {f:α->α} {a:α} (m:Nat):∀ {n:Nat},z4a f (m+n) a=z4a f n (z4a f m a)
 |0=>rfl
 |n+1=>by rw[<-Nat.add_assoc,z94,z94,zqz]
theorem zl6 {α:Type} {f:α->α} {a:α} (h:f a=a):∀ n:Nat,z4a f n a=a
 |0=>rfl
 |n+1=>by rw[z4a,h];exact zl6 h n
theorem zgd {α:Type} {f:α->α} {I:α->Prop} (h:∀ a,I a->I (f a)):∀ {n:Nat} {a:α},I a->I (z4a f n a)
 |0,_,ha=>ha
 |n+1,_,ha=>zgd h (n:=n) (h _ ha)
theorem zur {α:Type} {f:α->α} {I:α->Prop} {μ:α->Nat} {N:Nat} (h1:∀ a,I a->I (f a)) (h2:∀ a,I a->f a≠a->μ a<μ (f a)) (h3:∀ a,I a->μ a<=N) :
  ∀ {n:Nat} {a:α},I a->N<=μ a+n->f (z4a f n a)=z4a f n a
 | 0,a,ha,hn=>by
   rcases Classical.em (f a=a)with h|h
   . exact h
   . have:=h2 a ha h;have:=h3 _ (h1 a ha);omega
 | n+1,a,ha,hn=>by
   rcases Classical.em (f a=a)with h|h
   . rw[zl6 h];exact h
   . have:=h2 a ha h
     exact zur h1 h2 h3 (n:=n) (h1 a ha) (by omega)
theorem zuj {α:Type} {p q:α->Bool}:∀ {l:List α},(∀ x∈l,p x=true->q x=true)->l.countP p<=l.countP q
 |[],_=>by simp
 | a::l,h=>by
   have ih:=zuj (l:=l) fun x hx=>h x (by simp[hx])
   have ha:=h a (by simp)
   rw[List.countP_cons,List.countP_cons]
   cases hp:p a with
   |false=>cases q a<;>simp<;>omega
   |true=>rw[ha hp];simp;exact ih
theorem zue {α:Type} {p q:α->Bool}:∀ {l:List α},(∀ x∈l,p x=true->q x=true)->(∃ x∈l,q x=true/\p x=false)->l.countP p<l.countP q
 |[],_,⟨_,h,_⟩=>by cases h
 | a::l,h,⟨x,hx,hq,hp⟩=>by
   have ih:=zuj (l:=l) fun x hx=>h x (by simp[hx])
   rw[List.countP_cons,List.countP_cons]
   rcases List.mem_cons.mp hx with rfl|hx
   . rw[hp,hq];simp;omega
   . have:=zue (l:=l) (fun x hx=>h x (by simp[hx])) ⟨x,hx,hq,hp⟩
     have ha:=h a (by simp)
     cases hpa:p a with
     |false=>cases q a<;>simp<;>omega
     |true=>rw[ha hpa];simp;exact this
theorem z009 {α:Type} {f g:α->Nat}:∀ {l:List α},(∀ x∈l,f x<=g x)->(l.map f).sum<=(l.map g).sum
 |[],_=>by simp
 | a::l,h=>by
   have:=z009 (l:=l) fun x hx=>h x (by simp[hx])
   have:=h a (by simp)
   simp only[List.map_cons,List.sum_cons];omega
theorem z075 {α:Type} {f g:α->Nat}:∀ {l:List α},(∀ x∈l,f x<=g x)->(∃ x∈l,f x<g x)->(l.map f).sum<(l.map g).sum
 |[],_,⟨_,h,_⟩=>by cases h
 | a::l,h,⟨x,hx,hl⟩=>by
   have h1:=z009 (l:=l) fun x hx=>h x (by simp[hx])
   have h2:=h a (by simp)
   simp only[List.map_cons,List.sum_cons]
   rcases List.mem_cons.mp hx with rfl|hx
   . omega
   . have:=z075 (l:=l) (fun x hx=>h x (by simp[hx])) ⟨x,hx,hl⟩;omega
theorem z018 {α:Type} {f:α->Nat} {c:Nat}:∀ {l:List α},(∀ x∈l,f x<=c)->(l.map f).sum<=l.length * c
 |[],_=>by simp
 | a::l,h=>by
   have:=z018 (l:=l) fun x hx=>h x (by simp[hx])
   have:=h a (by simp)
   simp only[List.map_cons,List.sum_cons,List.length_cons,Nat.add_mul];omega
theorem z9g {α:Type} {l:List α} {i j:Nat} {x d:α} (h:i<l.length):(l.set i x).getD j d=if j=i then x else l.getD j d:=by
 by_cases hj:j<l.length
 . rw[z16 (by simpa using hj),z16 hj,List.getElem_set]
   by_cases hij:i=j
   . subst hij;simp
   . rw[if_neg hij,if_neg (Ne.symm hij)]
 . have:j≠i:=by omega
   rw[if_neg this,List.getD_eq_getElem?_getD,List.getD_eq_getElem?_getD,List.getElem?_eq_none (by simpa using hj),List.getElem?_eq_none (by omega)]
theorem zuc {α:Type} {l m:List α} {d:α} (hl:l.length=m.length) (h:∀ i,i<l.length->l.getD i d=m.getD i d):l=m:=by
 refine List.ext_getElem hl fun i h1 h2=>?_
 have:=h i h1
 rwa [z16 h1,z16 h2]at this
def zfr (n:Int) (met:List Bool) (e:z0d):List Bool:=if inR e.1 0 (n - 1)&&inR e.2.1 0 (n - 1)&&met.getD e.1.toNat false then met.set e.2.1.toNat true else met
def z86 (n:Int) (es:List z0d) (met:List Bool):List Bool:=es.foldl (zfr n) met
def z48 (n:Int) (es:List z0d) (a:Int):List Bool:=z4a (z86 n es) n.toNat ((List.replicate n.toNat false).set a.toNat true)
def znn (n:Int) (es:List z0d) (a b:Int):Bool:=inR n 0 30&&inR a 0 (n - 1)&&inR b 0 (n - 1)&&(z48 n es a).getD b.toNat false
theorem z08g (n:Int) (met:List Bool) (e:z0d):(zfr n met e).length=met.length:=by unfold zfr;split<;>simp
theorem za7 (n:Int):∀(es:List z0d) (met:List Bool),(es.foldl (zfr n) met).length=met.length
 |[],_=>rfl
 |e::es,met=>by rw[List.foldl_cons,za7 n es];exact z08g n met e
theorem zoy (n:Int) (es:List z0d) (k:Nat) (met:List Bool):(z4a (z86 n es) k met).length=met.length:=
 zgd (I:=fun m:List Bool=>m.length=met.length) (fun m hm=>by unfold z86;rw[za7];exact hm) rfl
theorem z04d {n:Int} {met:List Bool} {e:z0d} {q:Nat} (h:met.getD q false=true):(zfr n met e).getD q false=true:=by
 unfold zfr
 split
 . by_cases hj:e.2.1.toNat<met.length
   . rw[z9g hj]
     split
     . rfl
     . exact h
   . rw[List.set_eq_of_length_le (by omega)];exact h
 . exact h
theorem zba {n:Int} {q:Nat}:∀ {es:List z0d} {met:List Bool},met.getD q false=true->(es.foldl (zfr n) met).getD q false=true
 |[],_,h=>h
 |e::es,met,h=>by rw[List.foldl_cons];exact zba (z04d h)
theorem z03y {n:Int} {es:List z0d} {q k:Nat} {met:List Bool} (h:met.getD q false=true):(z4a (z86 n es) k met).getD q false=true:=
 zgd (I:=fun m:List Bool=>m.getD q false=true) (fun m hm=>zba hm) h
def InE (n:Int) (es:List z0d):Prop:=∀ e∈es,0<=e.1/\e.1<n/\0<=e.2.1/\e.2.1<n
theorem z0a3 {n:Int} {met:List Bool} {e:z0d} (h:0<=e.1/\e.1<n/\0<=e.2.1/\e.2.1<n) (hl:met.length=n.toNat) (hm:met.getD e.1.toNat false=true):(zfr n met e).getD e.2.1.toNat false=true:=by
 unfold zfr
 rw[inR_iff.mpr ⟨h.1,by omega⟩,inR_iff.mpr ⟨h.2.2.1,by omega⟩,hm]
 simp only[Bool.and_self,if_true]
 rw[z9g (by omega)];simp
theorem z02v {n:Int} {T:Nat->Prop}:∀ {es:List z0d} {met:List Bool},(∀ e∈es,T e.1.toNat->T e.2.1.toNat)->(∀ q,met.getD q false=true->T q)->∀ q,(es.foldl (zfr n) met).getD q false=true->T q
 |[],_,_,h,q,hq=>h q hq
 | e::es,met,hc,h,q,hq=>by
   rw[List.foldl_cons]at hq
   refine z02v (fun e he=>hc e (by simp[he])) (fun q hq=>?_) q hq
   unfold zfr at hq
   split at hq
   . rename_i hcond
     simp only[Bool.and_eq_true]at hcond
     by_cases hj:e.2.1.toNat<met.length
     . rw[z9g hj]at hq
       split at hq
       . rename_i hqe;rw[hqe];exact hc e (by simp) (h _ hcond.2)
       . exact h q hq
     . rw[List.set_eq_of_length_le (by omega)]at hq;exact h q hq
   . exact h q hq
theorem z032 {n a q:Nat} (ha:a<n):((List.replicate n false).set a true).getD q false=true↔q=a:=by
 rw[z9g (by simpa using ha)]
 by_cases hq:q=a
 . simp[hq]
 . rw[if_neg hq]
   constructor
   . intro h
     by_cases hn:q<n
     . rw[z16 (by simpa using hn)]at h;simp at h
     . rw[List.getD_eq_getElem?_getD,List.getElem?_eq_none (by simpa using hn)]at h;simp at h
   . intro h;exact absurd h hq
theorem z04r (n:Int) (es:List z0d) (a:Int):(z48 n es a).length=n.toNat:=by unfold z48;rw[zoy];simp
theorem zq6 {n:Int} {es:List z0d} {a:Int} (h:0<=a/\a<n):(z48 n es a).getD a.toNat false=true:=by
 unfold z48
 exact z03y ((z032 (by omega)).mpr rfl)
theorem z04t {n:Int} {es:List z0d} {a:Int} (h:0<=a/\a<n) {T:Nat->Prop} (hc:∀ e∈es,T e.1.toNat->T e.2.1.toNat) (ha:T a.toNat):∀ q,(z48 n es a).getD q false=true->T q:=by
 unfold z48
 refine zgd (I:=fun m:List Bool=>∀ q,m.getD q false=true->T q) (fun m hm=>z02v hc hm) fun q hq=>?_
 rw[(z032 (by omega)).mp hq];exact ha
theorem z03z {n:Int} {es:List z0d} {a:Int}:z86 n es (z48 n es a)=z48 n es a:=by
 unfold z48
 refine zur (I:=fun m:List Bool=>m.length=n.toNat) (μ:=fun m:List Bool=>(List.range n.toNat).countP fun q=>m.getD q false) (N:=n.toNat) (fun m hm=>by unfold z86;rw[za7];exact hm) (fun m hm hne=>?_) (fun m hm=>?_) (by simp) (by omega)
 . refine zue (fun q _ hq=>zba hq) ?_
   rcases Classical.em (∃ x∈List.range n.toNat,(z86 n es m).getD x false=true/\m.getD x false=false)with h|h
   . exact h
   . exfalso
     refine hne (zuc (d:=false) (by unfold z86;rw[za7]) fun i hi=>?_)
     have hi':i<n.toNat:=by unfold z86 at hi;rw[za7,hm]at hi;exact hi
     cases hmi:m.getD i false with
     |true=>exact zba hmi
     | false=>
       cases hri:(z86 n es m).getD i false with
       |false=>rfl
       |true=>exact absurd ⟨i,List.mem_range.mpr hi',hri,hmi⟩ h
 . exact Nat.le_trans List.countP_le_length (by simp)
theorem z0ef {n:Int} {es:List z0d} {met:List Bool} (hE:InE n es) (hl:met.length=n.toNat) {e:z0d} (he:e∈es) (hm:met.getD e.1.toNat false=true):(es.foldl (zfr n) met).getD e.2.1.toNat false=true:=by
 obtain⟨s,t,rfl⟩:=List.append_of_mem he
 rw[List.foldl_append,List.foldl_cons]
 exact zba (z0a3 (hE _ he) (by rw[za7];exact hl) (zba hm))
theorem zjd {n:Int} {es:List z0d} {a:Int} (hE:InE n es) {e:z0d} (he:e∈es) (hm:(z48 n es a).getD e.1.toNat false=true):(z48 n es a).getD e.2.1.toNat false=true:=by
 have:=z0ef hE (z04r n es a) he hm
 have hf:=z03z (n:=n) (es:=es) (a:=a)
 unfold z86 at hf
 rw[hf]at this;exact this
theorem zwn {n:Int} {es:List z0d} {a b:Int} (hE:InE n es) (hb:0<=b/\b<n) (h:(z48 n es a).getD b.toNat false=true):∀ q,(z48 n es b).getD q false=true->(z48 n es a).getD q false=true:=
 z04t hb (T:=fun q=>(z48 n es a).getD q false=true) (fun _ he hq=>zjd hE he hq) h
theorem zrv {n:Int} {es:List z0d} {a b:Int}:zcv n es a b (znn n es a b):=zrf _ _ _ _ _ (by
 unfold zj0
 refine⟨_,z5f,z0p (fun h=>by unfold znn;rw[h];rfl) (fun h1=>⟨_,z5f,?_⟩)⟩
 have hn:=inR_iff.mp h1
 rw[z19 (by omega) (by omega)]
 refine z0p (fun h=>by unfold znn;rw[h];simp) (fun h2=>⟨_,z5f,z0p (fun h=>by unfold znn;rw[h];simp) (fun h3=>?_)⟩)
 have ha:=inR_iff.mp h2
 have hb:=inR_iff.mp h3
 refine⟨⟨by omega,by omega,by simp only[z1b];omega⟩,⟨by omega,by rw[List.length_replicate];omega⟩,?_⟩
 have hlen:∀ k,(z4a (z86 n es) k ((List.replicate n.toNat false).set a.toNat true)).length=n.toNat:=fun k=>by rw[zoy];simp
 refine z0u n.toNat (fun i=>((i:Int),(z4a (z86 n es) i ((List.replicate n.toNat false).set a.toNat true),()))) (by simp[z4a]) ?_ ?_
 . intro i hi X hX
   refine z09 (fun _=>?_) (fun h=>by omega)
   rw[z94]at hX
   have hli:=hlen i
   simp only
   generalize z4a (z86 n es) i ((List.replicate n.toNat false).set a.toNat true)=m0 at hX hli ⊢
   unfold z86 at hX
   refine z3w es (zfr n) m0 (fun i m=>((i:Int),(m,()))) ?_ ?_
   . intro j hj Y hY
     have hlm:=za7 n (es.take j) m0
     rw[hli]at hlm
     generalize (es.take j).foldl (zfr n) m0=m1 at hY hlm ⊢
     unfold zfr at hY
     refine z0h fun _=>bcI hj (inI hj ⟨_,z5f,?_⟩)
     simp only
     rw[z1r hj,z02 (by omega)]
     refine z1k (fun h4=>inI hj ⟨_,z5f,z1k (fun h5=>inI hj ?_) (fun h5=>by rw[h5]at hY;simpa using hY)⟩) (fun h4=>by rw[h4]at hY;simpa using hY)
     have e1:=inR_iff.mp h4
     have e2:=inR_iff.mp h5
     refine⟨⟨by omega,by omega⟩,z1k (fun h6=>inI hj ⟨⟨by omega,by omega⟩,?_⟩) (fun h6=>?_)⟩
     . rw[h4,h5,h6]at hY;simpa using hY
     . rw[h6]at hY;simpa using hY
   . intro Y
     refine z0h fun _=>bcN ?_
     simp only
     rw[z02 (by omega)];exact hX
 . intro X
   refine z09 (fun h=>by omega) (fun _=>⟨⟨by omega,by rw[hlen];omega⟩,?_⟩)
   unfold znn z48
   rw[h1,h2,h3];rfl)
theorem zre {n:Int} {es:List z0d} {a b:Int}:zcu n es a b (znn n es a b):=zrg _ _ _ _ _ (by
 unfold ziw
 refine⟨_,z3b,z0p (fun h=>by unfold znn;rw[h];rfl) (fun h1=>⟨_,z3b,?_⟩)⟩
 have hn:=inR_iff.mp h1
 rw[z19 (by omega) (by omega)]
 refine z0p (fun h=>by unfold znn;rw[h];simp) (fun h2=>⟨_,z3b,z0p (fun h=>by unfold znn;rw[h];simp) (fun h3=>?_)⟩)
 have ha:=inR_iff.mp h2
 have hb:=inR_iff.mp h3
 refine⟨⟨by omega,by omega,by simp only[z1b];omega⟩,⟨by omega,by rw[List.length_replicate];omega⟩,?_⟩
 have hlen:∀ k,(z4a (z86 n es) k ((List.replicate n.toNat false).set a.toNat true)).length=n.toNat:=fun k=>by rw[zoy];simp
 refine z0u n.toNat (fun i=>((i:Int),(z4a (z86 n es) i ((List.replicate n.toNat false).set a.toNat true),()))) (by simp[z4a]) ?_ ?_
 . intro i hi X hX
   refine z09 (fun _=>z0h fun _=>?_) (fun h=>by omega)
   rw[z94]at hX
   have hli:=hlen i
   simp only
   generalize z4a (z86 n es) i ((List.replicate n.toNat false).set a.toNat true)=m0 at hX hli ⊢
   unfold z86 at hX
   refine z3w es (zfr n) m0 (fun i m=>((i:Int),(m,()))) ?_ ?_
   . intro j hj Y hY
     have hlm:=za7 n (es.take j) m0
     rw[hli]at hlm
     generalize (es.take j).foldl (zfr n) m0=m1 at hY hlm ⊢
     unfold zfr at hY
     refine bcI hj (inI hj ⟨_,z3b,?_⟩)
     simp only
     rw[z1r hj,z02 (by omega)]
     refine z1k (fun h4=>⟨_,z3b,z1k (fun h5=>?_) (fun h5=>by rw[h5]at hY;simpa using hY)⟩) (fun h4=>by rw[h4]at hY;simpa using hY)
     have e1:=inR_iff.mp h4
     have e2:=inR_iff.mp h5
     refine⟨⟨by omega,by omega⟩,z1k (fun h6=>⟨⟨by omega,by omega⟩,?_⟩) (fun h6=>?_)⟩
     . rw[h4,h5,h6]at hY;simpa using hY
     . rw[h6]at hY;simpa using hY
   . intro Y
     refine bcN ?_
     simp only
     rw[z02 (by omega)];exact hX
 . intro X
   refine z09 (fun h=>by omega) (fun _=>⟨⟨by omega,by rw[hlen];omega⟩,?_⟩)
   unfold znn z48
   rw[h1,h2,h3];rfl)
def cycP (l:List z0m) (ds:List z0b) (e:z0d):Bool:=e.2.2.1&&znn (zia l) (za8 l ds) e.2.1 e.1
def cyc (l:List z0m) (ds:List z0b):Bool:=(za8 l ds).any (cycP l ds)
def cycE (l:List z0m) (ds:List z0b):z0d:=if z05 (cycP l ds) (za8 l ds)<(za8 l ds).length then(za8 l ds).getD (z05 (cycP l ds) (za8 l ds)) z1p else z1p
theorem zkz {α:Type} {p:α->Bool} {l:List α}:l.any p=decide (z05 p l<l.length):=by
 rcases Nat.lt_or_ge (z05 p l) l.length with h|h
 . rw[decide_eq_true h]
   exact List.any_eq_true.mpr ⟨_,List.getElem_mem h,z7q h⟩
 . rw[decide_eq_false (by omega),Bool.eq_false_iff]
   intro hany
   obtain⟨x,hx,hp⟩:=List.any_eq_true.mp hany
   obtain⟨i,hi,rfl⟩:=List.mem_iff_getElem.mp hx
   have:=z98 (p:=p) hi (by omega)
   rw[hp]at this;cases this
def wac (l:List z0m) (ds:List z0b):Bool:=ze2 l ds && !cyc l ds
theorem zjm {l:List z0m} {ds:List z0b}:z7p l ds (cycE l ds) (cyc l ds):=zj1 _ _ _ _ (by
 unfold zbz
 refine⟨_,zf8,z7v (za8 l ds) (cycP l ds) (fun i=>((i:Int),(z1p,()))) (KT:=fun i=>((za8 l ds).getD i z1p,(true,()))=(cycE l ds,(cyc l ds,()))) (KF:=(z1p,(false,()))=(cycE l ds,(cyc l ds,()))) ?_ ?_ ?_ ?_⟩
 . intro i hi X h1 h2
   refine z0h fun _=>bcI hi (inI hi ?_)
   simp only
   rw[z02 (by omega)]
   have hg:=z1r (d:=z1p) hi
   rw[hg]
   unfold cycP at h1 h2
   refine z1k (fun h=>inI hi (inI hi ⟨_,zfc,_,zrv,z1k (fun h3=>inI hi ?_) (fun h3=>?_)⟩)) (fun h=>h2 (by rw[h];rfl))
   . have:=h1 (by rw[h,h3];rfl)
     rw[z16 hi]at this;exact this
   . exact h2 (by rw[h,h3];rfl)
 . intro X h
   exact z0h fun _=>bcN h
 . intro h
   unfold cycE cyc
   rw[if_pos h,zkz,decide_eq_true h]
 . intro h
   unfold cycE cyc
   rw[if_neg (by omega),zkz,decide_eq_false (by omega)])
theorem zjk {l:List z0m} {ds:List z0b}:z7o l ds (cycE l ds) (cyc l ds):=zj7 _ _ _ _ (by
 unfold zbt
 refine⟨_,zf7,z0h fun _=>z7v (za8 l ds) (cycP l ds) (fun i=>((i:Int),(z1p,()))) (KT:=fun i=>((za8 l ds).getD i z1p,(true,()))=(cycE l ds,(cyc l ds,()))) (KF:=(z1p,(false,()))=(cycE l ds,(cyc l ds,()))) ?_ ?_ ?_ ?_⟩
 . intro i hi X h1 h2
   refine bcI hi (inI hi ?_)
   simp only
   rw[z02 (by omega)]
   have hg:=z1r (d:=z1p) hi
   rw[hg]
   unfold cycP at h1 h2
   refine z1k (fun h=>⟨_,zey,_,zre,z1k (fun h3=>?_) (fun h3=>?_)⟩) (fun h=>h2 (by rw[h];rfl))
   . have:=h1 (by rw[h,h3];rfl)
     rw[z16 hi]at this;exact this
   . exact h2 (by rw[h,h3];rfl)
 . intro X h
   exact bcN h
 . intro h
   unfold cycE cyc
   rw[if_pos h,zkz,decide_eq_true h]
 . intro h
   unfold cycE cyc
   rw[if_neg (by omega),zkz,decide_eq_false (by omega)])
theorem z8v {l:List z0m} {ds:List z0b}:z45 l ds (wac l ds):=zkp _ _ _ (by
 unfold zce wac
 refine⟨_,_,zjm,_,z3d,z1k (fun h=>by rw[h];rfl) (fun h=>by rw[h];rfl)⟩)
theorem zl0 {l:List z0m} {ds:List z0b}:z8g l ds (wac l ds):=zkk _ _ _ (by
 unfold zcf wac
 refine⟨_,_,zjk,z0p (fun h=>⟨_,z85,by rw[h];simp⟩) (fun h=>by rw[h];simp)⟩)
theorem z06n {l:List z0m} (hv:∀ r∈l,znh r=true) {n:Nat} (hn:n<l.length):sumA (l.take n)+l[n].2.1<=sumA l/\0<=sumA (l.take n):=by
 have hs:l=l.take n++l[n]::l.drop (n+1):=by rw[<-z6u hn,List.take_append_drop]
 have h1:sumA l=(l.drop (n+1)).foldl (fun a r=>a+r.2.1) (sumA (l.take n)+l[n].2.1):=by
  conv=>lhs;rw[hs]
  unfold sumA
  rw[List.foldl_append,List.foldl_cons]
 have h2:=(zcc (l:=l.drop (n+1)) (a:=sumA (l.take n)+l[n].2.1) fun r hr=>hv r (List.mem_of_mem_drop hr)).1
 have h3:=(zcc (l:=l.take n) (a:=0) fun r hr=>hv r (List.mem_of_mem_take hr)).1
 refine⟨by rw[h1];exact h2,h3⟩
theorem z09d {l:List z0m} {a:z01} (h:z5e l a=true) {j:Nat} (hj:j<a.2.1.length):0<=z9p l a.1 j/\z9p l a.1 j<zia l:=by
 have hr:=z2e h
 have hv:=hr.1
 obtain⟨n,hn⟩:∃ n:Nat,a.1=n:=⟨a.1.toNat,by omega⟩
 have hlt:n<l.length:=by omega
 have har:zj8 l a.1=l[n].2.1:=by unfold zj8;rw[hn,z1r hlt]
 have hp:=z06n (fun r hr=>z62 hv hr) hlt
 have h4:=hr.2.2.2.1
 unfold z9p zia
 rw[hv,inR_iff.mpr ⟨hr.2.1,by omega⟩,inR_iff.mpr ⟨by omega,by rw[<-h4];omega⟩]
 simp only[Bool.and_self,if_true]
 rw[hn,show Int.toNat (n:Int)=n from rfl]
 omega
theorem zos {l:List z0m} {ats:List z01} (h:∀ a∈ats,z5e l a=true) {v p:Int} (hp:p∈places l ats v):0<=p/\p<zia l:=by
 obtain⟨a,ha,j,hj,rfl⟩:=z03m hp
 exact z09d (h a ha) hj
theorem zb7 {α σ:Type} {g:σ->α->σ} {I:σ->Prop}:∀ {l:List α} {s:σ},(∀ s,∀ a∈l,I s->I (g s a))->I s->I (l.foldl g s)
 |[],_,_,h=>h
 |a::l,s,hg,h=>zb7 (l:=l) (s:=g s a) (fun s b (hb:b∈l)=>hg s b (by simp[hb])) (hg s a (by simp) h)
theorem zk2 {l:List z0m} {ds:List z0b}:InE (zia l) (za8 l ds):=by
 unfold za8
 cases hv:ze2 l ds with
 |false=>intro e he;simp at he
 | true=>
   rw[if_pos rfl]
   have putI:∀(s:List z0d) (x:z0d),InE (zia l) s->(0<=x.1/\x.1<zia l/\0<=x.2.1/\x.2.1<zia l)->InE (zia l) (zxe s x):=by
    intro s x hs hx
    unfold zxe
    split
    . exact hs
    . intro e he
      rcases List.mem_append.mp he with he|he
      . exact hs e he
      . have:e=x:=by simpa using he
        rw[this];exact hx
   have edI:∀(f:Int) (b:Bool) (ps:List Int) (s:List z0d),(0<=f/\f<zia l)->(∀ p∈ps,0<=p/\p<zia l)->InE (zia l) s->InE (zia l) (ed f b ps s):=by
    intro f b ps s hf hps hs
    unfold ed
    exact zb7 (I:=InE (zia l)) (fun s a ha hs=>putI s _ hs ⟨hf.1,hf.2,hps a ha⟩) hs
   refine zb7 (I:=InE (zia l)) (fun s d hd hs=>?_) (fun e he=>by cases he)
   have hsp:=z56 (zh6 hv hd)
   unfold gDep
   refine zb7 (I:=InE (zia l)) (fun s v _ hs=>?_) hs
   unfold gVar
   refine zb7 (I:=InE (zia l)) (fun s f hf hs=>?_) hs
   have hfi:=zos hsp.2.2.1 hf
   unfold zqe
   refine zb7 (I:=InE (zia l)) (fun s n _ hs=>?_) ?_
   . exact edI _ _ _ _ hfi (fun p hp=>zos hsp.2.2.2.2.1 hp) hs
   . exact edI _ _ _ _ hfi (fun p hp=>zos hsp.2.2.2.2.1 hp) hs
theorem zo9 (l:List z0m):0<=zia l/\zia l<=18:=by
 unfold zia
 split
 . rename_i hv
   have:=zcc (l:=l) (a:=0) fun r hr=>z62 hv hr
   have:=zbr hv
   unfold sumA;omega
 . omega
def z3o (r:List Int) (e:z0d):List Int:=r.set e.2.1.toNat (zae (r.getD e.2.1.toNat 0) (r.getD e.1.toNat 0+(if e.2.2.1 then 1 else 0)))
def z3m (es:List z0d) (r:List Int):List Int:=es.foldl z3o r
def rank (n:Nat) (es:List z0d):List Int:=z4a (z3m es) (n * n) (List.replicate n 0)
def hgt (n:Int) (es:List z0d) (p:Nat):Nat:=(List.range n.toNat).countP fun(q:Nat)=>(z48 n es (q:Int)).getD p false && !(z48 n es (p:Int)).getD q false
theorem z06q (n:Int) (es:List z0d) (p:Nat):hgt n es p<=n.toNat:=Nat.le_trans List.countP_le_length (by simp)
def Acy (n:Int) (es:List z0d):Prop:=∀ e∈es,e.2.2.1=true->(z48 n es e.2.1).getD e.1.toNat false=false
theorem ztp {x:Int} (h:0<=x):((x.toNat:Nat):Int)=x:=by omega
theorem z0ad {n:Int} {es:List z0d} (hE:InE n es) (hA:Acy n es) {e:z0d} (he:e∈es):hgt n es e.1.toNat+(if e.2.2.1 then 1 else 0)<=hgt n es e.2.1.toNat:=by
 have hi:=hE e he
 have c1:=ztp hi.1
 have c2:=ztp hi.2.2.1
 have h1:(z48 n es e.1).getD e.2.1.toNat false=true:=zjd hE he (zq6 ⟨hi.1,hi.2.1⟩)
 have sub:∀ q∈List.range n.toNat,((z48 n es (q:Int)).getD e.1.toNat false && !(z48 n es ((e.1.toNat:Nat):Int)).getD q false)=true->((z48 n es (q:Int)).getD e.2.1.toNat false && !(z48 n es ((e.2.1.toNat:Nat):Int)).getD q false)=true:=by
  intro q hq h
  rw[c1]at h
  rw[c2]
  rw[Bool.and_eq_true]at h ⊢
  refine⟨zjd hE he h.1,?_⟩
  cases hc:(z48 n es e.2.1).getD q false with
  |false=>rfl
  | true=>
    have:=zwn hE ⟨hi.2.2.1,hi.2.2.2⟩ h1 q hc
    rw[this]at h;simp at h
 split
 . rename_i hs
   have hcy:=hA e he hs
   have:hgt n es e.1.toNat<hgt n es e.2.1.toNat:=by
    refine zue sub ⟨e.1.toNat,List.mem_range.mpr (by omega),?_,?_⟩
    . rw[c1,c2,h1,hcy];rfl
    . rw[c1,zq6 ⟨hi.1,hi.2.1⟩];rfl
   omega
 . exact zuj sub
def zxa (n:Int) (es:List z0d) (r:List Int):Prop:=r.length=n.toNat/\∀ p:Nat,p<n.toNat->0<=r.getD p 0/\r.getD p 0<=hgt n es p
theorem zr0 {n:Int} {es:List z0d} (hE:InE n es) (hA:Acy n es) {e:z0d} (he:e∈es) {r:List Int} (h:zxa n es r):zxa n es (z3o r e):=by
 have hi:=hE e he
 refine⟨by unfold z3o;rw[List.length_set];exact h.1,fun p hp=>?_⟩
 have hl:=h.1
 unfold z3o
 rw[z9g (by omega)]
 split
 . rename_i hpe
   subst hpe
   have h1:=h.2 e.1.toNat (by omega)
   have h2:=h.2 e.2.1.toNat hp
   have h3:=z0ad hE hA he
   unfold zae
   split<;>split at h3<;>simp_all<;>omega
 . exact h.2 p hp
theorem z02x {r:List Int} {e:z0d} (hl:e.2.1.toNat<r.length) (p:Nat):r.getD p 0<=(z3o r e).getD p 0:=by
 unfold z3o
 rw[z9g hl]
 split
 . rename_i hp;subst hp;unfold zae;split<;>omega
 . omega
def muK (n:Nat) (r:List Int):Nat:=((List.range n).map fun p=>(r.getD p 0).toNat).sum
theorem z07a {n:Int} {es:List z0d} {r:List Int} (h:zxa n es r):muK n.toNat r<=n.toNat * n.toNat:=by
 have:=z018 (f:=fun p=>(r.getD p 0).toNat) (c:=n.toNat) (l:=List.range n.toNat) fun p hp=>by
  have h1:=h.2 p (List.mem_range.mp hp)
  have h2:=z06q n es p
  omega
 rw[List.length_range]at this
 exact this
theorem z0bh {n:Int} {es:List z0d} (hE:InE n es) {r:List Int} (hr:zxa n es r) {e:z0d} (he:e∈es):muK n.toNat r<=muK n.toNat (z3o r e):=by
 have hi:=hE e he
 have:=hr.1
 exact z009 fun p _=>by have:=z02x (r:=r) (e:=e) (by omega) p;omega
theorem z01u {r:List Int} {e:z0d} (hl:e.2.1.toNat<r.length) (h:r.getD e.1.toNat 0+(if e.2.2.1 then 1 else 0)<=r.getD e.2.1.toNat 0):z3o r e=r:=by
 refine zuc (d:=0) (by unfold z3o;simp) fun i _=>?_
 unfold z3o
 rw[z9g hl]
 split
 . rename_i hi;subst hi;unfold zae;rw[if_neg (by omega)]
 . rfl
theorem z06g {r:List Int} {e:z0d} {m:Int} (hm:r.getD e.1.toNat 0+(if e.2.2.1 then 1 else 0)=m) (hg:m > r.getD e.2.1.toNat 0):z3o r e=r.set e.2.1.toNat m:=by
 unfold z3o zae
 rw[hm,if_pos hg]
theorem z07s {n:Int} {es:List z0d} (hE:InE n es) {r:List Int} (hr:zxa n es r) {e:z0d} (he:e∈es) (h:r.getD e.1.toNat 0+(if e.2.2.1 then 1 else 0) > r.getD e.2.1.toNat 0):muK n.toNat r<muK n.toNat (z3o r e):=by
 have hi:=hE e he
 have hl:=hr.1
 refine z075 (fun p _=>by have:=z02x (r:=r) (e:=e) (by omega) p;omega) ⟨e.2.1.toNat,List.mem_range.mpr (by omega),?_⟩
 have h0:=hr.2 e.2.1.toNat (by omega)
 have:(z3o r e).getD e.2.1.toNat 0=r.getD e.1.toNat 0+(if e.2.2.1 then 1 else 0):=by
  unfold z3o
  rw[z9g (by omega),if_pos rfl]
  unfold zae;rw[if_pos h]
 rw[this];omega
theorem zk0 {n:Int} {es:List z0d} (hE:InE n es) (hA:Acy n es) {r:List Int} (h:zxa n es r) (l:List z0d) (hl:∀ e∈l,e∈es):zxa n es (l.foldl z3o r):=
 zb7 (I:=zxa n es) (fun s a ha hs=>zr0 hE hA (hl a ha) hs) h
theorem zsd {n:Int} {es:List z0d} (hE:InE n es) (hA:Acy n es) {r:List Int} (h:zxa n es r):zxa n es (z3m es r):=zk0 hE hA h es fun _ h=>h
theorem zkb {n:Int} {es:List z0d} (hE:InE n es) (hA:Acy n es):∀ {l:List z0d} {r:List Int},(∀ e∈l,e∈es)->zxa n es r->(l.foldl z3o r=r\/muK n.toNat r<muK n.toNat (l.foldl z3o r))/\muK n.toNat r<=muK n.toNat (l.foldl z3o r)
 |[],r,_,_=>⟨.inl rfl,Nat.le_refl _⟩
 | e::l,r,hl,hr=>by
   have he:=hl e (by simp)
   have hi:=hE e he
   have hlr:=hr.1
   have ih:=zkb hE hA (l:=l) (r:=z3o r e) (fun e h=>hl e (by simp[h])) (zr0 hE hA he hr)
   rw[List.foldl_cons]
   by_cases h:r.getD e.1.toNat 0+(if e.2.2.1 then 1 else 0) > r.getD e.2.1.toNat 0
   . have:=z07s hE hr he h
     exact⟨.inr (by omega),by omega⟩
   . have:=z01u (r:=r) (e:=e) (by omega) (by omega)
     rw[this]at ih ⊢
     exact ih
theorem zyz (n:Int) (es:List z0d):zxa n es (List.replicate n.toNat 0):=by
 refine⟨by simp,fun p hp=>?_⟩
 rw[z16 (by simpa using hp)]
 simp
theorem zfx {n:Int} {es:List z0d} (hE:InE n es) (hA:Acy n es) (k:Nat):zxa n es (z4a (z3m es) k (List.replicate n.toNat 0)):=
 zgd (I:=zxa n es) (fun r hr=>zsd hE hA hr) (zyz n es)
theorem z01y {n:Int} {es:List z0d} (hE:InE n es) (hA:Acy n es):z3m es (rank n.toNat es)=rank n.toNat es:=by
 unfold rank
 refine zur (I:=zxa n es) (μ:=muK n.toNat) (N:=n.toNat * n.toNat) (fun r hr=>zsd hE hA hr) (fun r hr hne=>?_) (fun r hr=>z07a hr) (zyz n es) (by omega)
 exact((zkb hE hA (l:=es) (fun _ h=>h) hr).1).resolve_left hne
theorem z08v {n:Int} {es:List z0d} (hE:InE n es) (hA:Acy n es) {k:Nat} (h:z3m es (z4a (z3m es) k (List.replicate n.toNat 0))=z4a (z3m es) k (List.replicate n.toNat 0)) :
  z4a (z3m es) k (List.replicate n.toNat 0)=rank n.toNat es:=by
 have h1:=zqz (f:=z3m es) (a:=List.replicate n.toNat (0:Int)) k (n:=n.toNat * n.toNat)
 rw[zl6 h]at h1
 have h2:=zqz (f:=z3m es) (a:=List.replicate n.toNat (0:Int)) (n.toNat * n.toNat) (n:=k)
 have h3:=z01y hE hA
 unfold rank at h3 ⊢
 rw[zl6 h3]at h2
 rw[<-h1,<-h2,Nat.add_comm]
theorem zvc {l:List z0m} {ds:List z0b} (h:wac l ds=true):Acy (zia l) (za8 l ds):=by
 unfold wac at h
 rw[Bool.and_eq_true]at h
 have hn:cyc l ds=false:=by simpa using h.2
 intro e he hs
 cases hr:(z48 (zia l) (za8 l ds) e.2.1).getD e.1.toNat false with
 |false=>rfl
 | true=>
   exfalso
   have hi:=zk2 e he
   have hc:=zo9 l
   have:cyc l ds=true:=List.any_eq_true.mpr ⟨e,he,by
    unfold cycP znn
    rw[hs,inR_iff.mpr ⟨hc.1,by omega⟩,inR_iff.mpr ⟨hi.2.2.1,by omega⟩,inR_iff.mpr ⟨hi.1,by omega⟩,hr];rfl⟩
   rw[hn]at this;cases this
def zh7 (l:List z0m) (ds:List z0b):List Int:=if wac l ds then rank (zia l).toNat (za8 l ds)else[]
theorem zn6 {l:List z0m} {ds:List z0b}:zad l ds (zh7 l ds) (wac l ds):=znb _ _ _ _ (by
 unfold zfp zh7
 refine⟨_,z8v,z0p (fun h=>by rw[h];rfl) (fun hw=>⟨_,zfc,_,zf8,?_⟩)⟩
 rw[hw,if_pos rfl]
 have hA:=zvc hw
 have hE:=zk2 (l:=l) (ds:=ds)
 have hc:=zo9 l
 generalize za8 l ds=es at hA hE ⊢
 generalize zia l=n at hA hE hc ⊢
 refine⟨⟨hc.1,by omega,by simp only[z1b];omega⟩,?_⟩
 have hnn:n.toNat * n.toNat<=18 * 18:=Nat.mul_le_mul (by omega) (by omega)
 have hsq:w64 (n * n)=((n.toNat * n.toNat:Nat):Int):=by
  obtain⟨k,rfl⟩:∃ k:Nat,n=k:=⟨n.toNat,by omega⟩
  simp only[Int.toNat_natCast]at hnn ⊢
  rw[<-Int.natCast_mul,z19 (by omega) (by omega)]
 rw[hsq]
 refine z0u (n.toNat * n.toNat) (fun i=>((i:Int),(z4a (z3m es) i (List.replicate n.toNat 0),()))) (by simp[z4a]) ?_ ?_
 . intro i hi X hX
   have hin:=zfx hE hA i
   refine bcI hi ?_
   rw[z94]at hX
   simp only
   generalize z4a (z3m es) i (List.replicate n.toNat 0)=r0 at hX hin ⊢
   unfold z3m at hX
   refine z3w es z3o r0 (fun i m=>((i:Int),(m,()))) ?_ ?_
   . intro j hj Y hY
     have hin1:=zk0 hE hA hin (es.take j) fun _ h=>List.mem_of_mem_take h
     generalize (es.take j).foldl z3o r0=r1 at hY hin1 ⊢
     have he:=hE _ (List.getElem_mem hj)
     have hl:=hin1.1
     have hv:=hin1.2 es[j].1.toNat (by omega)
     have hh:=z06q n es es[j].1.toNat
     refine z0h fun _=>bcI hj (inI hj ?_)
     simp only
     rw[z1r hj,z02 (by omega)]
     unfold z3o at hY
     refine⟨⟨he.1,by omega⟩,inI hj (z1k (fun h=>inI hj (inI hj ⟨⟨he.2.2.1,by omega⟩,⟨he.2.2.1,by omega⟩,?_⟩)) (fun h=>inI hj (inI hj ⟨⟨he.2.2.1,by omega⟩,⟨he.2.2.1,by omega⟩,?_⟩)))⟩
     . rw[h,if_pos rfl]at hY
       rw[z19 (by omega) (by omega)];exact hY
     . rw[h,if_neg (by simp),Int.add_zero]at hY
       exact hY
   . intro Y
     refine z0h fun _=>bcN ?_
     simp only
     rw[z02 (by omega)];exact hX
 . intro X
   exact bcN rfl)
theorem znq {l:List z0m} {ds:List z0b}:zah l ds (zh7 l ds) (wac l ds):=znc _ _ _ _ (by
 unfold zfd zh7
 refine⟨_,zl0,z0p (fun h=>by rw[h];rfl) (fun hw=>⟨_,zey,⟨⟨?_,trivial⟩,_,zf7,?_⟩⟩)⟩
 . have hc:=zo9 l
   exact⟨hc.1,by omega,by simp only[z1b];omega⟩
 rw[hw,if_pos rfl]
 have hA:=zvc hw
 have hE:=zk2 (l:=l) (ds:=ds)
 have hc:=zo9 l
 generalize za8 l ds=es at hA hE ⊢
 generalize zia l=n at hA hE hc ⊢
 refine⟨⟨hc.1,by omega,by simp only[z1b];omega⟩,?_⟩
 refine z17 (fun k a=>∃ i:Nat,(a=(true,(z4a (z3m es) i (List.replicate n.toNat 0),()))/\n.toNat * n.toNat+2<=muK n.toNat (z4a (z3m es) i (List.replicate n.toNat 0))+k)\/(a=(false,(z4a (z3m es) i (List.replicate n.toNat 0),()))/\z3m es (z4a (z3m es) i (List.replicate n.toNat 0))=z4a (z3m es) i (List.replicate n.toNat 0))) ?_ ?_ (n:=n.toNat * n.toNat+2) ⟨0,.inl ⟨rfl,by omega⟩⟩
 . rintro a ⟨i,⟨rfl,h⟩|⟨rfl,h⟩⟩ X
   . have:=z07a (zfx hE hA i);omega
   . refine bcF ?_
     simp only
     rw[z08v hE hA h]
 . rintro k a ⟨i,⟨rfl,h⟩|⟨rfl,h⟩⟩ X hX
   . have hin:=zfx hE hA i
     have hsucc:z4a (z3m es) (i+1) (List.replicate n.toNat 0)=z3m es (z4a (z3m es) i (List.replicate n.toNat 0)):=z94
     refine bcT (z0h fun hes=>?_)
     simp only
     have fin:∀ c s,(c=false->s=z4a (z3m es) i (List.replicate n.toNat 0))->(c=true->muK n.toNat (z4a (z3m es) i (List.replicate n.toNat 0))<muK n.toNat s)->s=z3m es (z4a (z3m es) i (List.replicate n.toNat 0))->X (c,(s,())):=by
      intro c s h1 h2 h3
      cases c with
      |false=>exact hX _ ⟨i,.inr ⟨by rw[h1 rfl],by rw[<-h3];exact h1 rfl⟩⟩
      |true=>exact hX _ ⟨i+1,.inl ⟨by rw[hsucc,h3],by have:=h2 rfl;rw[hsucc,<-h3];omega⟩⟩
     generalize z4a (z3m es) i (List.replicate n.toNat 0)=r0 at fin hin ⊢
     refine z17 (fun k a=>∃(j:Nat) (c:Bool),j+k=es.length/\a=(c,((j:Int),((es.take j).foldl z3o r0,())))/\(c=false->(es.take j).foldl z3o r0=r0)/\(c=true->muK n.toNat r0<muK n.toNat ((es.take j).foldl z3o r0))) ?_ ?_ (n:=es.length) ⟨0,false,by omega,by simp,by simp,by simp⟩
     . rintro a ⟨j,c,hj,rfl,h1,h2⟩ Y
       obtain rfl:j=es.length:=by omega
       rw[List.take_length]at h1 h2
       refine bcN ?_
       simp only[List.take_length]
       exact fin c _ h1 h2 rfl
     . rintro k a ⟨j,c,hj,rfl,h1,h2⟩ Y hY
       have hjl:j<es.length:=by omega
       have hin1:=zk0 hE hA hin (es.take j) fun _ h=>List.mem_of_mem_take h
       have hstep:(es.take (j+1)).foldl z3o r0=z3o ((es.take j).foldl z3o r0) es[j]:=by rw[z08 hjl,List.foldl_append];rfl
       have he:=hE _ (List.getElem_mem hjl)
       have hmem:=List.getElem_mem hjl
       have hmu0:=(zkb hE hA (l:=es.take j) (fun _ h=>List.mem_of_mem_take h) hin).2
       have yes:∀ m,((es.take j).foldl z3o r0).getD es[j].1.toNat 0+(if es[j].2.2.1 then 1 else 0)=m->m > ((es.take j).foldl z3o r0).getD es[j].2.1.toNat 0->Y (true,(((j+1:Nat):Int),(((es.take j).foldl z3o r0).set es[j].2.1.toNat m,()))):=by
        intro m hm hg
        refine hY _ ⟨j+1,true,by omega,?_,by simp,fun _=>?_⟩
        . rw[hstep,z06g hm hg]
        . rw[hstep]
          have:=z07s hE hin1 hmem (by rw[hm];exact hg)
          omega
       have no:¬ ((es.take j).foldl z3o r0).getD es[j].1.toNat 0+(if es[j].2.2.1 then 1 else 0) > ((es.take j).foldl z3o r0).getD es[j].2.1.toNat 0->Y (c,(((j+1:Nat):Int),((es.take j).foldl z3o r0,()))):=by
        intro hg
        have hl:=hin1.1
        have he2:=z01u (r:=(es.take j).foldl z3o r0) (e:=es[j]) (by omega) (by omega)
        refine hY _ ⟨j+1,c,by omega,by rw[hstep,he2],fun hc=>by rw[hstep,he2];exact h1 hc,fun hc=>by rw[hstep,he2];exact h2 hc⟩
       generalize (es.take j).foldl z3o r0=r1 at hin1 yes no ⊢
       have hl:=hin1.1
       have hv:=hin1.2 es[j].1.toNat (by omega)
       have hh:=z06q n es es[j].1.toNat
       refine bcI hjl (inI hjl ?_)
       simp only
       rw[z1r hjl,z02 (by omega)]
       refine⟨⟨he.1,by omega⟩,z1k (fun h=>⟨⟨he.2.2.1,by omega⟩,?_⟩) (fun h=>⟨⟨he.2.2.1,by omega⟩,?_⟩)⟩
       . rw[h]at yes no
         rw[z19 (by omega) (by omega)]
         exact z09 (fun hg=>⟨⟨he.2.2.1,by omega⟩,yes _ rfl hg⟩) (fun hg=>no hg)
       . rw[h]at yes no
         exact z09 (fun hg=>⟨⟨he.2.2.1,by omega⟩,yes _ (by simp) hg⟩) (fun hg=>no (by simpa using hg))
   . refine bcF ?_
     simp only
     rw[z08v hE hA h])
def rkOk (s:TSk) (ds:List z0b):Bool:=(List.range (zh7 s.1.1 ds).length).all fun(p:Nat)=>decide (mdep s p<=(zh7 s.1.1 ds).getD p 0)
def z8i (s:TSk) (ds:List z0b):Bool:=wac s.1.1 ds&&(vSk s&&rkOk s ds)
theorem z072 {s:TSk} {ds:List z0b} {p:Nat} (hp:p<(zh7 s.1.1 ds).length) (h:mdep s p > (zh7 s.1.1 ds).getD p 0):rkOk s ds=false:=by
 rw[Bool.eq_false_iff];intro hall
 have:=List.all_eq_true.mp hall p (List.mem_range.mpr hp)
 have:mdep s p<=(zh7 s.1.1 ds).getD p 0:=by simpa using this
 omega
theorem znu {s:TSk} {ds:List z0b}:zai s ds (z8i s ds):=znr _ _ _ (by
 unfold zfg
 refine⟨_,_,zn6,z73 (zh7 s.1.1 ds).length (fun p=>decide (mdep s p > (zh7 s.1.1 ds).getD p 0)) (fun p=>((p:Int),())) (KT:=rkOk s ds=false) (KF:=rkOk s ds=true) ?_ ?_ ?_ ?_⟩
 . intro i hi X _ q1 q2
   refine z0h fun _=>bcI hi (inI hi ⟨_,zkd,?_⟩)
   simp only
   rw[z02 (by omega)]
   refine z09 (fun h=>?_) (fun h=>q2 (decide_eq_false h))
   have:=q1 (decide_eq_true h)
   unfold z8i;rw[this];simp
 . intro X h
   refine z0h fun _=>bcN (z1k (fun hw=>⟨_,z0y,?_⟩) (fun hw=>?_))
   . unfold z8i;rw[hw,h];simp
   . unfold z8i;rw[hw];rfl
 . rintro⟨p,hp,h⟩
   exact z072 hp (by simpa using h)
 . intro h
   exact List.all_eq_true.mpr fun p hp=>by have:=h p (List.mem_range.mp hp);simp at this;simpa using this)
theorem zeu {s:TSk} {ds:List z0b}:z7m s ds (z8i s ds):=zns _ _ _ (by
 unfold zfe
 refine⟨_,_,znq,z0p (fun h=>by unfold z8i;rw[h];rfl) (fun hw=>⟨_,z41,z0p (fun h=>by unfold z8i;rw[h];simp) (fun hv=>z0h fun _=>?_)⟩)⟩
 refine z73 (zh7 s.1.1 ds).length (fun p=>decide (mdep s p > (zh7 s.1.1 ds).getD p 0)) (fun p=>((p:Int),())) (KT:=rkOk s ds=false) (KF:=rkOk s ds=true) ?_ ?_ ?_ ?_
 . intro i hi X _ q1 q2
   refine bcI hi (inI hi ⟨_,zl1,?_⟩)
   simp only
   rw[z02 (by omega)]
   refine z09 (fun h=>?_) (fun h=>q2 (decide_eq_false h))
   have:=q1 (decide_eq_true h)
   unfold z8i;rw[this];simp
 . intro X h
   refine bcN ?_
   unfold z8i;rw[hw,hv,h];rfl
 . rintro⟨p,hp,h⟩
   exact z072 hp (by simpa using h)
 . intro h
   exact List.all_eq_true.mpr fun p hp=>by have:=h p (List.mem_range.mp hp);simp at this;simpa using this)
def z3c (l:List z0m) (ds:List z0b):Bool:=ze2 l ds && !ds.any fun d=>d.2.2.1
theorem zep {l:List z0m} {ds:List z0b}:z97 l ds (z3c l ds):=z00b _ _ _ (by
 unfold zqj
 refine z6f ds (fun d=>d.2.2.1) (fun i=>((i:Int),())) (KT:=ds.any (fun d=>d.2.2.1)=true) (KF:=ds.any (fun d=>d.2.2.1)=false) ?_ ?_ id id
 . intro i hi X h1 h2
   refine z0h fun _=>bcI hi (inI hi ?_)
   simp only
   rw[z1r hi,z02 (by omega)]
   refine z1k (fun h=>?_) (fun h=>h2 h)
   unfold z3c;rw[h1 h];simp
 . intro X h
   refine z0h fun _=>bcN ⟨_,z3d,?_⟩
   unfold z3c;rw[h];simp)
theorem zpp {f:z01} (h:f.2.1.length<=1099511627776):zg8 f f:=z07o _ _ (by
 unfold zxy
 try refine⟨trivial,?_⟩
 exact⟨by simp only[z1b,List.length_nil];omega,by rw[List.nil_append]⟩)
theorem zw0 {α τ:Type} {B:(τ->Prop)->τ->Prop} (l:List α) (e:Nat->List α->τ) (hl:l.length<=1073741824)
  (hs:∀ i (h:i<l.length) (s:List α) (X:τ->Prop),s.length<=1073741824->X (e (i+1) (s++[l[i]]))->B X (e i s))
  (hf:∀ X:τ->Prop,B X (e l.length l)):z0f B (e 0 []):=by
 refine z0u l.length (fun i=>e i (l.take i)) (by simp) ?_ ?_
 . intro i hi X hX
   rw[z08 hi]at hX
   exact hs i hi _ X (by rw[List.length_take];omega) hX
 . intro X;rw[List.take_length];exact hf X
def z0ga (d:z0b):Prop:=(d.1.length<=1073741824/\∀ f∈d.1,f.2.1.length<=1099511627776)/\(d.2.1.length<=1073741824/\∀ f∈d.2.1,f.2.1.length<=1099511627776)
abbrev zfu:List Int:=[10,10,10,10,10]
theorem zm2:zdr 10:=z03g _ (by unfold zse;rfl)
theorem z00s:zjs [10,10,10,10,10]:=z00y _ (by
 unfold zpl
 refine z0u 5 (fun i=>(List.replicate i (10:Int),())) rfl ?_ ?_
 . intro i hi X hX
   refine z0h fun _=>z09 (fun _=>⟨_,zm2,by simp only[z1b,List.length_replicate,List.length_cons,List.length_nil];omega,?_⟩) (fun h=>by simp only[List.length_replicate]at h;omega)
   rw[List.replicate_succ']at hX;exact hX
 . intro X
   exact z0h fun _=>bcF rfl)
def znj:List Int->List Int->List Int->List Int×Bool
 |[],_,b=>(b,true)
 | t::ts,v::vs,b=>if t<0 then(if -1 - t=v then znj ts vs b else(b,false))
   else if b.getD t.toNat 0=10\/b.getD t.toNat 0=v then znj ts vs (b.set t.toNat v)else(b,false)
 |_::_,[],b=>(b,false)
theorem zxh {t:Int} {ts:List Int} {v:Int} {vs b:List Int}:znj (t::ts) (v::vs) b=if t<0 then(if -1 - t=v then znj ts vs b else(b,false))
 else if b.getD t.toNat 0=10\/b.getD t.toNat 0=v then znj ts vs (b.set t.toNat v)else(b,false):=rfl
theorem zhv:∀ {ts vs b:List Int},(znj ts vs b).1.length=b.length
 |[],vs,b=>by simp[znj]
 |t::ts,[],b=>by simp[znj]
 | t::ts,v::vs,b=>by
   unfold znj
   split
   . split
     . exact zhv
     . rfl
   . split
     . rw[zhv,List.length_set]
     . rfl
theorem z05a {a f:z01} {b:List Int} (hl:a.2.1.length<=1000) (hb:b.length<=1000) (ht:∀ t∈a.2.1,-10<=t/\t<b.length) :
  zph a f b (if a.1=f.1/\a.2.1.length=f.2.1.length then(znj a.2.1 f.2.1 b).1 else b) (decide (a.1=f.1/\a.2.1.length=f.2.1.length)&&(znj a.2.1 f.2.1 b).2):=z05w _ _ _ _ _ (by
 unfold zyt
 refine⟨by simp only[z1b,List.length_nil];omega,zcx (fun h=>by rw[if_neg (fun h'=>h h'.1)];simp[h]) (fun h1=>z0h fun _=>z0h fun _=>zcx (fun h=>?_) (fun h2=>?_))⟩
 . have h:¬ a.2.1.length=f.2.1.length:=by omega
   rw[if_neg (fun h'=>h h'.2)];simp[h]
 . have h2:a.2.1.length=f.2.1.length:=by omega
   rw[if_pos ⟨h1,h2⟩,decide_eq_true (And.intro h1 h2),Bool.true_and,List.nil_append]
   refine z17 (fun k s=>∃(i:Nat) (c:List Int),i+k=a.2.1.length/\s=((i:Int),(c,()))/\c.length=b.length/\znj (a.2.1.drop i) (f.2.1.drop i) c=znj a.2.1 f.2.1 b) ?_ ?_ (n:=a.2.1.length) ⟨0,b,by omega,rfl,rfl,by simp⟩
   . rintro s ⟨i,c,hi,rfl,hc,hf⟩ X
     obtain rfl:i=a.2.1.length:=by omega
     refine z0h fun _=>bcN ?_
     rw[<-hf];simp[znj]
   . rintro k s ⟨i,c,hi,rfl,hc,hf⟩ X hX
     have hlt:i<a.2.1.length:=by omega
     have hlt':i<f.2.1.length:=by omega
     rw[z6u hlt,z6u hlt']at hf
     have htr:=ht _ (List.getElem_mem hlt)
     refine z0h fun _=>bcI hlt (inI hlt ?_)
     simp only
     rw[z1r hlt,z1r hlt',z02 (by omega)]
     rw[zxh]at hf
     refine z09 (fun h3=>inI hlt' ?_) (fun h3=>?_)
     . rw[if_pos h3]at hf
       rw[z19 (by omega) (by omega)]
       refine zcx (fun h4=>?_) (fun h4=>?_)
       . rw[if_neg h4]at hf;rw[<-hf]
       . rw[if_pos h4]at hf;exact hX _ ⟨i+1,c,by omega,rfl,hc,hf⟩
     . rw[if_neg h3]at hf
       have hin:a.2.1[i].toNat<c.length:=by omega
       refine⟨⟨by omega,by omega⟩,_,zm2,zcx (fun h4=>⟨⟨by omega,by omega⟩,inI hlt' (zcx (fun h5=>?_) (fun h5=>inI hlt' ⟨⟨by omega,by omega⟩,?_⟩))⟩) (fun h4=>inI hlt' ⟨⟨by omega,by omega⟩,?_⟩)⟩
       . rw[if_neg (by rintro (h|h);exact h4 h;exact h5 h)]at hf;rw[<-hf]
       . rw[if_pos (.inr h5)]at hf;exact hX _ ⟨i+1,_,by omega,rfl,by rw[List.length_set];exact hc,hf⟩
       . rw[if_pos (.inl h4)]at hf;exact hX _ ⟨i+1,_,by omega,rfl,by rw[List.length_set];exact hc,hf⟩)
def zpu (fs:List z01) (w:List Int->List (List Int)) (a:z01) (b:List Int) (out:List (List Int)) (f:z01):List (List Int):=if a.1=f.1/\(znj a.2.1 f.2.1 b).2=true then out++w (znj a.2.1 f.2.1 b).1 else out
def zjv (fs:List z01):List z01->List Int->List (List Int)
 |[],b=>[b]
 |a::ats,b=>fs.foldl (zpu fs (zjv fs ats) a b) []
structure WOk (fs ats:List z01):Prop where
 few:fs.length<=30
 row:∀ a∈ats,a.2.1.length<=3/\∀ t∈a.2.1,-10<=t/\t<5
 fit:∀ a∈ats,∀ f∈fs,a.1=f.1->a.2.1.length=f.2.1.length
theorem WOk.tail {fs ats:List z01} {a:z01} (h:WOk fs (a::ats)):WOk fs ats:=⟨h.few,fun x hx=>h.row x (by simp[hx]),fun x hx=>h.fit x (by simp[hx])⟩
theorem zy8 {fs ats:List z01} {a:z01} {b:List Int} {n:Nat} (hw:∀ c,(zjv fs ats c).length<=n) (out:List (List Int)) (f:z01):(zpu fs (zjv fs ats) a b out f).length<=out.length+n:=by
 unfold zpu
 split
 . rw[List.length_append];have:=hw (znj a.2.1 f.2.1 b).1;omega
 . omega
theorem zlp {fs:List z01} (h:fs.length<=30):∀ {ats:List z01} {b:List Int},(zjv fs ats b).length<=30 ^ ats.length
 |[],b=>by simp[zjv]
 | a::ats,b=>by
   have:=z6b (l:=fs) (g:=zpu fs (zjv fs ats) a b) (s:=[]) (μ:=List.length) (c:=30 ^ ats.length) fun s f _=>zy8 (fun c=>zlp h) s f
   simp only[List.length_nil,Nat.zero_add]at this
   rw[List.length_cons,Nat.pow_succ,Nat.mul_comm]
   exact Nat.le_trans this (Nat.mul_le_mul_right _ h)
theorem z09g {fs ats:List z01} {b c:List Int} (h:c∈zjv fs ats b):c.length=b.length:=by
 induction ats generalizing b c with
 |nil=>simp[zjv]at h;rw[h]
 | cons a ats ih=>
   have:∀(l:List z01) (out:List (List Int)),(∀ c∈out,c.length=b.length)->∀ c∈l.foldl (zpu fs (zjv fs ats) a b) out,c.length=b.length:=by
    intro l
    induction l with
    |nil=>intro out ho;exact ho
    | cons f l ihl=>
      intro out ho
      rw[List.foldl_cons]
      refine ihl _ fun c hc=>?_
      unfold zpu at hc
      split at hc
      . rcases List.mem_append.mp hc with hc|hc
        . exact ho c hc
        . rw[ih hc,zhv]
      . exact ho c hc
   exact this fs [] (by simp) c h
def mOk (x:z0n) (l:List z01):Bool:=l.all (z5e x.1)&&(z3l x&&decide (l.length<=3))
theorem zu9 {x:z0n} {l:List z01} (h:mOk x l=true):WOk x.2.1 l/\l.length<=3:=by
 unfold mOk at h
 simp only[Bool.and_eq_true,decide_eq_true_eq]at h
 obtain⟨h1,h2,h3⟩:=h
 refine⟨⟨z55 h2,fun a ha=>?_,fun a ha f hf he=>?_⟩,h3⟩
 . have:=z2e (List.all_eq_true.mp h1 a ha)
   exact⟨this.2.2.2.2.1,fun t ht=>by have:=inR_iff.mp (this.2.2.2.2.2 t ht);omega⟩
 . have e1:=z2e (List.all_eq_true.mp h1 a ha)
   have e2:=z2e (z59 h2 hf)
   have:=e1.2.2.2.1
   have:=e2.2.2.2.1
   rw[he]at *
   omega
def dedG (out:List (List Int)) (b:List Int):List (List Int):=if b∈out then out else out++[b]
def zd9 (x:z0n) (l:List z01):List (List Int):=if mOk x l then(zjv x.2.1 l zfu).foldl dedG [] else[]
theorem z02i (out:List (List Int)) (b:List Int):(dedG out b).length<=out.length+1:=by unfold dedG;split<;>simp
theorem zup:∀ {l:List (List Int)} {out:List (List Int)} {b:List Int},b∈l.foldl dedG out->b∈out\/b∈l
 |[],out,b,h=>.inl h
 | c::l,out,b,h=>by
   rw[List.foldl_cons]at h
   rcases zup h with h|h
   . unfold dedG at h
     split at h
     . exact .inl h
     . rcases List.mem_append.mp h with h|h
       . exact .inl h
       . simp at h;exact .inr (by simp[h])
   . exact .inr (by simp[h])
theorem zm4 {x:z0n} {l:List z01} {b:List Int} (h:b∈zd9 x l):b.length=5:=by
 unfold zd9 at h
 split at h
 . rcases zup h with h|h
   . simp at h
   . rw[z09g h];rfl
 . simp at h
theorem z0az {n:Nat} (h:n<=3):30 ^ n<=27000:=Nat.le_trans (Nat.pow_le_pow_right (by omega) h) (by decide)
theorem zlo {x:z0n} {l:List z01}:(zd9 x l).length<=27000:=by
 unfold zd9
 split
 . rename_i h
   have:=z6b (l:=zjv x.2.1 l zfu) (g:=dedG) (s:=[]) (μ:=List.length) (c:=1) fun s f _=>z02i s f
   have h2:=zlp (zu9 h).1.few (ats:=l) (b:=zfu)
   have:=z0az (zu9 h).2
   simp at *
   omega
 . exact Nat.zero_le _
theorem z094 {x:z0n} {l:List z01}:zui x l (mOk x l):=z0al _ _ _ (by
 unfold z019
 refine z6f l (fun a=>!z5e x.1 a) (fun i=>((i:Int),())) (KT:=((false,()):Bool×Unit)=(mOk x l,())) (KF:=l.any (fun a=>!z5e x.1 a)=false) ?_ ?_ ?_ (fun h=>h)
 . intro i hi X h1 h2
   refine z0h fun _=>bcI hi (inI hi ⟨_,zd7,?_⟩)
   simp only
   rw[z1r hi,z02 (by omega)]
   exact z1k h1 h2
 . intro X h
   refine z0h fun _=>bcN ⟨_,z3y,?_⟩
   rw[z3r]at h
   refine z1k (fun h1=>z0h fun _=>?_) (fun h1=>?_)
   . unfold mOk;rw[nf h,h1];simp;omega
   . unfold mOk;rw[h1];simp
 . intro h
   rw[z3r]at h
   unfold mOk;rw[nt h];rfl)
theorem zs7 {x:z0n} {l:List z01} (h:WOk x.2.1 l) (hl:l.length<=3):∀(k n:Nat) (b:List Int),n+k=l.length->b.length=5->zhm x l n b (zjv x.2.1 (l.drop n) b)
 | 0,n,b,hn,hb=>zs8 _ _ _ _ _ (by
   unfold zlw
   obtain rfl:n=l.length:=by omega
   refine z0h fun _=>z3z (fun _=>⟨by simp only[z1b,List.length_nil];omega,by rw[List.drop_length];rfl⟩) (fun h=>absurd rfl h))
 | k+1,n,b,hn,hb=>zs8 _ _ _ _ _ (by
   unfold zlw
   have hlt:n<l.length:=by omega
   refine z0h fun _=>z3z (fun h=>by omega) (fun _=>?_)
   rw[z6u hlt]
   have hrow:=h.row _ (List.getElem_mem hlt)
   refine z26 x.2.1 (zpu x.2.1 (zjv x.2.1 (l.drop (n+1))) l[n] b) [] (fun i s=>((i:Int),(s,()))) List.length 27000 30 h.few (fun s f _=>zy8 (fun c=>Nat.le_trans (zlp h.few) (z0az (by rw[List.length_drop];omega))) s f) ?_ ?_
   . intro i hi s X hs hX
     have hfew:=h.few
     refine z0h fun _=>bcI hi (inI hlt (inI hi ⟨_,_,z05a (a:=l.getD (Int.toNat (n:Int)) z0w) (f:=x.2.1.getD (Int.toNat (i:Int)) z0w) (b:=b) ?_ (by omega) ?_,?_⟩))
     . rw[z1r hlt];omega
     . rw[z1r hlt];intro t ht;have:=hrow.2 t ht;omega
     . simp only
       rw[z1r hlt,z1r hi,z02 (by omega),z02 (by omega)]
       have hfit:=h.fit _ (List.getElem_mem hlt) _ (List.getElem_mem hi)
       unfold zpu at hX
       by_cases hc:l[n].1=x.2.1[i].1
       . rw[if_pos ⟨hc,hfit hc⟩,decide_eq_true (And.intro hc (hfit hc)),Bool.true_and]
         refine z1k (fun h4=>⟨_,zs7 h hl k (n+1) _ (by omega) (by rw[zhv];exact hb),?_,?_⟩) (fun h4=>?_)
         . have h5:(zjv x.2.1 (l.drop (n+1)) (znj l[n].2.1 x.2.1[i].2.1 b).1).length<=27000:=Nat.le_trans (zlp h.few) (z0az (by rw[List.length_drop];omega))
           simp only[z1b,List.length_nil]at *
           omega
         . rw[if_pos ⟨hc,h4⟩]at hX;exact hX
         . rw[if_neg (by rintro⟨_,h5⟩;rw[h4]at h5;cases h5)]at hX;exact hX
       . rw[if_neg (fun h=>hc h.1),decide_eq_false (fun h=>hc h.1),Bool.false_and]
         rw[if_neg (fun h=>hc h.1)]at hX
         exact bcF hX
   . intro X _
     exact z0h fun _=>bcN rfl)
end Go.V

