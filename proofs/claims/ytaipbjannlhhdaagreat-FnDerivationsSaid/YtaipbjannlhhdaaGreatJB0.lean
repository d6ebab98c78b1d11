/-
  The functions that the law reaches: what each gives.
-/
import Derived.Test.YtaipbjannlhhdaaGreatJF
import Derived.Test.YtaipbjannlhhdaaGreatJP
set_option linter.unusedVariables false
set_option linter.unusedSimpArgs false
set_option maxRecDepth 1000000
set_option maxHeartbeats 4000000
set_option linter.unusedVariables false
set_option linter.unusedSimpArgs false
namespace Go.V
open Go
theorem zbb {x0:List Int} (h:x0.length<=1099511627776):z4l x0 (z49 x0):=z09j h
theorem z9b {x0:List Int}:z3r x0 (zdj x0):=zzk
def cmpI (a b:Int):Int:=if a<b then -1 else if b<a then 1 else 0
def zjc:List Int->List Int->Int
 |[],[]=>0
 |[],_::_=>-1
 |_::_,[]=>1
 |a::x,b::y=>if a<b then -1 else if b<a then 1 else zjc x y
def z8b (a b:z00):Int:=if a.1<b.1 then -1 else if b.1<a.1 then 1 else zjc a.2.1 b.2.1
theorem cmpL_zero:∀ {x y:List Int},zjc x y=0↔x=y
 |[],[]=>by simp[zjc]
 |[],b::y=>by simp[zjc]
 |a::x,[]=>by simp[zjc]
 | a::x,b::y=>by
   unfold zjc
   split
   . rename_i h;constructor
     . intro h';cases h'
     . intro h';cases h';omega
   . split
     . rename_i h;constructor
       . intro h';cases h'
       . intro h';cases h';omega
     . rw[cmpL_zero]
       have:a=b:=by omega
       simp[this]
theorem cmpF_zero {x y:z00}:z8b x y=0↔x=y:=by
 obtain⟨a,b,u⟩:=x;obtain⟨a',b',u'⟩:=y
 unfold z8b
 simp only
 split
 . rename_i h;constructor
   . intro h';cases h'
   . intro h';cases h';omega
 . split
   . rename_i h;constructor
     . intro h';cases h'
     . intro h';cases h';omega
   . rw[cmpL_zero]
     have:a=a':=by omega
     simp[this]
theorem zya {x y:List Int} {i:Nat} (h:i<x.length) (h':i<y.length):zjc (x.drop i) (y.drop i)=if x[i]<y[i] then -1 else if y[i]<x[i] then 1 else zjc (x.drop (i+1)) (y.drop (i+1)):=by
 rw[z5e h,z5e h',zjc]
theorem z048 {x y:List Int} {i:Nat} (h:x.length<=i):zjc (x.drop i) (y.drop i)=if i<y.length then -1 else 0:=by
 rw[List.drop_of_length_le h]
 by_cases h':i<y.length
 . rw[z5e h',if_pos h'];rfl
 . rw[List.drop_of_length_le (by omega),if_neg h'];rfl
theorem cmpL_end' {x y:List Int} {i:Nat} (h:i<x.length) (h':y.length<=i):zjc (x.drop i) (y.drop i)=1:=by
 rw[List.drop_of_length_le h',z5e h];rfl
theorem zlr {x y:List Int}:zft x y (zjc x y):=z0a9 _ _ _ (by
 unfold z002
 refine z1i (fun k a=>∃ i:Nat,i+k=x.length/\a=((i:Int),())/\i<=y.length/\zjc (x.drop i) (y.drop i)=zjc x y) ?_ ?_ (n:=x.length) ⟨0,by omega,rfl,by omega,by simp⟩
 . rintro a ⟨i,hi,rfl,hy,hc⟩ X
   obtain rfl:i=x.length:=by omega
   rw[z048 (Nat.le_refl _)]at hc
   refine z0g fun h1=>bcN (z0g fun _=>z0g fun h2=>z09 (fun h=>?_) (fun h=>z0g fun _=>z0g fun _=>z09 (fun h'=>by omega) (fun h'=>?_)))
   . rw[if_pos (by omega)]at hc;rw[<-hc]
   . rw[if_neg (by omega)]at hc;rw[<-hc]
 . rintro k a ⟨i,hi,rfl,hy,hc⟩ X hX
   have hlt:i<x.length:=by omega
   refine z0g fun h1=>bcI hlt (z0g fun h2=>z09 (fun h=>?_) (fun h=>?_))
   . have hlt':i<y.length:=by omega
     refine inI hlt (inI hlt' ?_)
     simp only
     rw[z1m hlt,z1m hlt']
     rw[zya hlt hlt']at hc
     refine z09 (fun h=>?_) (fun h=>inI hlt (inI hlt' (z09 (fun h'=>?_) (fun h'=>?_))))
     . rw[if_pos h]at hc;rw[<-hc]
     . rw[if_neg h,if_pos h']at hc;rw[<-hc]
     . rw[if_neg h,if_neg (by omega)]at hc
       rw[z02 (by omega)]
       exact hX _ ⟨i+1,by omega,rfl,by omega,hc⟩
   . simp only at h
     rw[cmpL_end' hlt (by omega)]at hc
     refine z0g fun _=>z0g fun _=>z09 (fun h'=>by omega) (fun h'=>z0g fun _=>z0g fun _=>z09 (fun h''=>?_) (fun h''=>by omega))
     rw[<-hc])
theorem za3 {x y:z00}:z5d x y (z8b x y):=zsd _ _ _ (by
 unfold zhr z8b
 refine z09 (fun h=>by rw[if_pos h]) (fun h=>z09 (fun h'=>by rw[if_neg h,if_pos h']) (fun h'=>⟨_,zlr,by rw[if_neg h,if_neg (by omega)]⟩)))
theorem zhl {x:Int}:za7 x false:=zrc _ _ (by unfold zie;simp)
theorem zfc {x y:Int}:z86 x y (cmpI x y):=zn6 _ _ _ (by
 unfold zfu cmpI
 refine⟨_,zhl,_,zhl,bcF (bcF (z09 (fun h=>by rw[if_pos h]) (fun h=>z09 (fun h'=>by rw[if_neg h,if_pos h']) (fun h'=>by rw[if_neg h,if_neg h']))))⟩)
theorem cmpI_zero {a b:Int}:cmpI a b=0↔a=b:=by unfold cmpI;split<;>(try split)<;>omega
theorem zjl {x y:List Int}:z8i x y (zjc x y):=zjs _ _ _ (by
 unfold zce
 refine z0g fun h1=>z1i (fun k a=>∃ i:Nat,i+k=x.length/\a=((i:Int),())/\zjc (x.drop i) (y.drop i)=zjc x y/\i<=y.length) ?_ ?_ (n:=x.length) ⟨0,by omega,rfl,by simp,by omega⟩
 . rintro a ⟨i,hi,rfl,hc,hy⟩ X
   obtain rfl:i=x.length:=by omega
   rw[z048 (Nat.le_refl _)]at hc
   refine bcN (z0g fun _=>z0g fun h2=>z09 (fun h=>?_) (fun h=>?_))
   . rw[if_pos (by omega)]at hc;rw[<-hc]
   . rw[if_neg (by omega)]at hc;rw[<-hc]
 . rintro k a ⟨i,hi,rfl,hc,hy⟩ X hX
   have hlt:i<x.length:=by omega
   refine bcI hlt (inI hlt (z0g fun h2=>z09 (fun h=>?_) (fun h=>?_)))
   . simp only at h
     rw[cmpL_end' hlt (by omega)]at hc
     rw[<-hc]
   . simp only at h
     have hlt':i<y.length:=by omega
     refine inI hlt' ⟨_,zfc,?_⟩
     simp only
     rw[z1m hlt,z1m hlt']
     rw[zya hlt hlt']at hc
     refine zbt (fun h=>?_) (fun h=>?_)
     . have hne:x[i]≠y[i]:=fun e=>h (cmpI_zero.mpr e)
       rw[<-hc]
       unfold cmpI
       by_cases h3:x[i]<y[i]
       . rw[if_pos h3,if_pos h3]
       . rw[if_neg h3,if_neg h3,if_pos (by omega),if_pos (by omega)]
     . have he:=cmpI_zero.mp h
       rw[if_neg (by omega),if_neg (by omega)]at hc
       rw[z02 (by omega)]
       exact hX _ ⟨i+1,by omega,rfl,hc,by omega⟩)
def orL:List Int->Int
 |[]=>0
 |a::l=>if a=0 then orL l else a
theorem z00c {x:List Int}:zi8 x (orL x):=zzt _ _ (by
 unfold zop
 have key:∀ l:List Int,orL l=if h:z03 (fun t=>t != 0) l<l.length then l[z03 (fun t=>t != 0) l] else 0:=by
  intro l
  induction l with
  |nil=>simp[orL,z03]
  | cons a l ih=>
    unfold orL
    by_cases ha:a=0
    . rw[if_pos ha,ih]
      simp only[z03,ha,bne_self_eq_false,Bool.false_eq_true,if_false,List.length_cons,Nat.add_lt_add_iff_right,List.getElem_cons_succ]
    . rw[if_neg ha]
      have:(a != 0)=true:=by simpa using ha
      simp[z03,this]
 refine z0g fun hl=>zas x (fun t=>t != 0) (fun i=>((i:Int),())) (KT:=fun i=>∀ h:i<x.length,((x[i],()):Int×Unit)=(orL x,())) (KF:=(((0:Int),()):Int×Unit)=(orL x,())) ?_ ?_ ?_ ?_
 . intro i hi X h1 h2
   refine bcI hi (inI hi ?_)
   simp only
   rw[z1m hi,z02 (by omega)]
   exact z1e (fun h=>h1 h hi) h2
 . intro X h;exact bcN h
 . intro h h';rw[key,dif_pos h]
 . intro h;rw[key,dif_neg (by omega)])
theorem z58 {x y:z00}:z4a x y (z8b x y):=zrb _ _ _ (by
 unfold ziq
 refine⟨_,zfc,_,zjl,_,z00c,?_⟩
 have:orL [cmpI x.1 y.1,zjc x.2.1 y.2.1]=z8b x y:=by
  unfold z8b
  by_cases h:x.1<y.1
  . have:cmpI x.1 y.1 = -1:=by unfold cmpI;rw[if_pos h]
    rw[if_pos h,this];rfl
  . rw[if_neg h]
    by_cases h':y.1<x.1
    . have:cmpI x.1 y.1=1:=by unfold cmpI;rw[if_neg h,if_pos h']
      rw[if_pos h',this];rfl
    . have:cmpI x.1 y.1=0:=by unfold cmpI;rw[if_neg h,if_neg h']
      rw[if_neg h',this]
      unfold orL
      rw[if_pos rfl]
      unfold orL
      by_cases h0:zjc x.2.1 y.2.1=0
      . rw[if_pos h0,h0];rfl
      . rw[if_neg h0]
 rw[this])
theorem zgi {x y:z00}:zd0 x y (decide (x=y)):=z029 _ _ _ (by
 unfold zs6
 refine⟨_,z58,?_⟩
 have:(z8b x y == (0:Int))=decide (x=y):=by
  by_cases h:x=y
  . rw[cmpF_zero.mpr h];simp[h]
  . have:z8b x y≠0:=fun e=>h (cmpF_zero.mp e)
    simp[h,this]
 rw[this])
def ins:List Int->Int->List Int
 |[],x=>[x]
 |a::l,x=>if a<x then a::ins l x else if a=x then a::l else x::a::l
def srt (l:List Int):Prop:=l.Pairwise (· < ·)
def zdq (l:List Int):List Int:=l.foldl ins []
theorem mem_put {y x:Int}:∀ {l:List Int},y∈ins l x↔y=x\/y∈l
 |[]=>by simp[ins]
 | a::l=>by
   unfold ins
   split
   . rw[List.mem_cons,mem_put,List.mem_cons]
     constructor
     . rintro (h|h|h)<;>simp[h]
     . rintro (h|h|h)<;>simp[h]
   . split
     . rename_i h;subst h;simp
     . simp
theorem z0a3 {x:Int}:∀ {l:List Int},srt l->srt (ins l x)
 |[],_=>by simp[ins,srt]
 | a::l,h=>by
   obtain⟨h1,h2⟩:=List.pairwise_cons.mp h
   unfold ins
   split
   . rename_i hlt
     refine List.pairwise_cons.mpr ⟨fun y hy=>?_,z0a3 h2⟩
     rcases mem_put.mp hy with rfl|hy
     . exact hlt
     . exact h1 y hy
   . split
     . exact h
     . refine List.pairwise_cons.mpr ⟨fun y hy=>?_,h⟩
       rcases List.mem_cons.mp hy with rfl|hy
       . omega
       . have:=h1 y hy;omega
theorem z01t {l:List Int}:∀ {s:List Int},srt s->srt (l.foldl ins s)/\∀ y,y∈l.foldl ins s↔y∈s\/y∈l:=by
 induction l with
 |nil=>intro s h;exact⟨h,by simp⟩
 | cons a l ih=>
   intro s h
   obtain⟨h1,h2⟩:=ih (z0a3 (x:=a) h)
   refine⟨h1,fun y=>?_⟩
   rw[List.foldl_cons,h2,mem_put,List.mem_cons]
   constructor
   . rintro ((h|h)|h)<;>simp[h]
   . rintro (h|h|h)<;>simp[h]
theorem zlt (l:List Int):srt (zdq l):=(z01t List.Pairwise.nil).1
theorem mem_sset {l:List Int} {y:Int}:y∈zdq l↔y∈l:=by have:=(z01t (l:=l) List.Pairwise.nil).2 y;simpa [zdq]using this
theorem z084:∀ {a b:List Int},srt a->srt b->(∀ y,y∈a↔y∈b)->a=b
 |[],[],_,_,_=>rfl
 |[],y::b,_,_,h=>by have:=(h y).mpr (by simp);simp at this
 |x::a,[],_,_,h=>by have:=(h x).mp (by simp);simp at this
 | x::a,y::b,ha,hb,h=>by
   obtain⟨ha1,ha2⟩:=List.pairwise_cons.mp ha
   obtain⟨hb1,hb2⟩:=List.pairwise_cons.mp hb
   have hxy:x=y:=by
    rcases List.mem_cons.mp ((h x).mp (by simp))with e|hx
    . exact e
    . rcases List.mem_cons.mp ((h y).mpr (by simp))with e|hy
      . exact e.symm
      . have:=ha1 y hy;have:=hb1 x hx;omega
   subst hxy
   congr 1
   refine z084 ha2 hb2 fun z=>⟨fun hz=>?_,fun hz=>?_⟩
   . rcases List.mem_cons.mp ((h z).mp (by simp[hz]))with e|h'
     . have:=ha1 z hz;omega
     . exact h'
   . rcases List.mem_cons.mp ((h z).mpr (by simp[hz]))with e|h'
     . have:=hb1 z hz;omega
     . exact h'
theorem z07w {a l:List Int} (h1:srt a) (h2:∀ y,y∈a↔y∈l):a=zdq l:=z084 h1 (zlt l) fun y=>by rw[h2,mem_sset]
theorem zys {l m:List Int}:(zdq m).foldl ins (zdq l)=zdq (l++m):=by
 obtain⟨h1,h2⟩:=z01t (l:=zdq m) (zlt l)
 exact z07w h1 fun y=>by rw[h2,mem_sset,mem_sset,List.mem_append]
theorem zsr {l:List Int} {x:Int}:ins (zdq l) x=zdq (l++[x]):=by unfold zdq;rw[List.foldl_append];rfl
theorem z092 (l:List Int) (x:Int):(ins l x).length<=l.length+1:=by
 induction l with
 |nil=>simp[ins]
 |cons a l ih=>unfold ins;split;simp;omega;split<;>simp
theorem zw6 (l:List Int):(zdq l).length<=l.length:=by
 have:∀(l s:List Int),(l.foldl ins s).length<=s.length+l.length:=by
  intro l
  induction l with
  |nil=>intro s;simp
  |cons a l ih=>intro s;have:=ih (ins s a);have:=z092 s a;simp only[List.foldl_cons,List.length_cons];omega
 have:=this l []
 simpa [zdq]using this
theorem zy5 {l:List Int} {a:Int}:∀ {n:Nat},srt l->(∀ y∈l,a<=y/\y<a+n)->l.length<=n:=by
 induction l generalizing a with
 |nil=>intro n _ _;simp
 | cons x l ih=>
   intro n h hr
   obtain⟨h1,h2⟩:=List.pairwise_cons.mp h
   have hx:=hr x (by simp)
   have:=ih (a:=x+1) (n:=(a+n - (x+1)).toNat) h2 fun y hy=>by
    have:=h1 y hy;have:=hr y (by simp[hy]);omega
   simp only[List.length_cons];omega
theorem z0at {l:List Int} (h:srt l) (hne:l≠[]):∀ y∈l,y<=l.getLast hne:=by
 intro y hy
 have hs:l=l.dropLast++[l.getLast hne]:=(List.dropLast_concat_getLast hne).symm
 rw[hs]at h hy
 unfold srt at h
 rw[List.pairwise_append]at h
 rcases List.mem_append.mp hy with hy|hy
 . have:=h.2.2 y hy (l.getLast hne) (by simp);omega
 . have:y=l.getLast hne:=by simpa using hy
   omega
theorem z0hd (l:List Int) (x:Int):ins l x=if h:z03 (fun a=>!decide (a<x)) l<l.length then(if l[z03 (fun a=>!decide (a<x)) l]=x then l else l.take (z03 (fun a=>!decide (a<x)) l)++x::l.drop (z03 (fun a=>!decide (a<x)) l))else l++[x]:=by
 induction l with
 |nil=>simp[ins,z03]
 | cons a l ih=>
   unfold ins
   by_cases ha:a<x
   . have e:z03 (fun a=>!decide (a<x)) (a::l)=z03 (fun a=>!decide (a<x)) l+1:=by simp[z03,ha]
     rw[if_pos ha,ih]
     by_cases hf:z03 (fun a=>!decide (a<x)) l<l.length
     . rw[dif_pos hf,dif_pos (by rw[e];simpa using hf)]
       simp only[e,List.getElem_cons_succ,List.take_succ_cons,List.drop_succ_cons]
       split
       . rfl
       . rfl
     . rw[dif_neg hf,dif_neg (by rw[e];simpa using hf)]
       rfl
   . have e:z03 (fun a=>!decide (a<x)) (a::l)=0:=by simp[z03,ha]
     rw[if_neg ha,dif_pos (by rw[e];simp)]
     simp only[e,List.getElem_cons_zero,List.take_zero,List.drop_zero,List.nil_append]
theorem zpy {l:List Int} {x:Int} (hl:l.length<=1073741824):zj3 l x (ins l x):=z0bm _ _ _ (by
 unfold z03h
 have fin:∀(k:Nat),k<=l.length->((0<=(k:Int)/\(k:Int)<=(List.length l:Int)/\(List.length l:Int)<=(List.length l:Int))/\(([x]:List Int).length+(List.drop (Int.toNat (k:Int)) (List.take (Int.toNat (List.length l:Int)) l)).length<=z0v/\((0<=(0:Int)/\(0:Int)<=(k:Int)/\(k:Int)<=(List.length l:Int))/\(([]:List Int).length+(List.drop (Int.toNat (0:Int)) (List.take (Int.toNat (k:Int)) l)).length<=z0v/\((([]:List Int)++(List.drop (Int.toNat (0:Int)) (List.take (Int.toNat (k:Int)) l))).length+(([x]:List Int)++(List.drop (Int.toNat (k:Int)) (List.take (Int.toNat (List.length l:Int)) l))).length<=z0v/\(((([]:List Int)++(List.drop (Int.toNat (0:Int)) (List.take (Int.toNat (k:Int)) l)))++(([x]:List Int)++(List.drop (Int.toNat (k:Int)) (List.take (Int.toNat (List.length l:Int)) l))),()):List Int×Unit)=(l.take k++x::l.drop k,()))))) ):=by
  intro k hk
  simp only[Int.toNat_natCast,List.take_length,Int.toNat_zero,List.drop_zero,List.nil_append,List.length_nil,List.length_cons,List.length_append,List.length_take,List.length_drop,z0v,List.cons_append]
  refine⟨⟨by omega,by omega,by omega⟩,by omega,⟨by omega,by omega,by omega⟩,by omega,by omega,trivial⟩
 rw[z0hd]
 refine zas l (fun a=>!decide (a<x)) (fun i=>((i:Int),())) (KT:=fun i=>∀ h:i<l.length,∀ r:List Int×Unit,r=(if l[i]=x then l else l.take i++x::l.drop i,())->r=((if h:z03 (fun a=>!decide (a<x)) l<l.length then(if l[z03 (fun a=>!decide (a<x)) l]=x then l else l.take (z03 (fun a=>!decide (a<x)) l)++x::l.drop (z03 (fun a=>!decide (a<x)) l))else l++[x]),()))
  (KF:=∀ r:List Int×Unit,r=(l++[x],())->r=((if h:z03 (fun a=>!decide (a<x)) l<l.length then(if l[z03 (fun a=>!decide (a<x)) l]=x then l else l.take (z03 (fun a=>!decide (a<x)) l)++x::l.drop (z03 (fun a=>!decide (a<x)) l))else l++[x]),())) ?_ ?_ ?_ ?_
 . intro i hi X h1 h2
   refine z0g fun hl'=>bcI hi (inI hi ?_)
   simp only
   rw[z1m hi,z02 (by omega)]
   refine z09 (fun h=>h2 (by simpa using h)) (fun h=>?_)
   have h1:=h1 (by simpa using h) hi
   refine z0g fun _=>bcI hi (inI hi (z3t (fun he=>h1 _ (by rw[if_pos he])) (fun he=>?_)))
   rw[if_neg he]at h1
   have:=fin i (by omega)
   exact⟨this.1,this.2.1,this.2.2.1,this.2.2.2.1,this.2.2.2.2.1,h1 _ this.2.2.2.2.2⟩
 . intro X h
   refine z0g fun hl'=>bcN (z0g fun _=>bcN ?_)
   have:=fin l.length (by omega)
   refine⟨this.1,this.2.1,this.2.2.1,this.2.2.2.1,this.2.2.2.2.1,h _ (this.2.2.2.2.2.trans (by simp))⟩
 . intro h h' r hr;rw[hr,dif_pos h]
 . intro h r hr;rw[hr,dif_neg (by omega)])
theorem zq2 {l:List Int} {x:Int}:zja l x (decide (x∈l)):=z0ca _ _ _ (by
 unfold z03f
 refine z71 l (fun a=>x == a) (fun i=>((i:Int),())) (KT:=((true,()):Bool×Unit)=(decide (x∈l),())) (KF:=((false,()):Bool×Unit)=(decide (x∈l),())) ?_ (fun X h=>z0g fun _=>bcN h) (fun h=>?_) (fun h=>?_)
 . intro i hi X h1 h2
   refine z0g fun _=>bcI hi (inI hi ?_)
   simp only
   rw[z1m hi,z02 (by omega)]
   exact z3t (fun h=>h1 (by simp[h])) (fun h=>h2 (by simpa using fun e=>h e.symm))
 . rw[zss]at h;rw[h]
 . rw[zss]at h;rw[h])
theorem zyi {l:List Int} {y:Int}:y∈z49 l↔y∈l:=by unfold z49;simp
theorem z00g (l:List Int):(z49 l).Pairwise (·<=·):=by
 unfold z49
 have:=List.pairwise_mergeSort (le:=fun a b:Int=>decide (a<=b)) (fun a b c h1 h2=>by simp at *;omega) (fun a b=>by simp;omega) l
 exact this.imp fun h=>by simpa using h
theorem zzu (l:List Int):zdj (z49 l)=zdq l:=by
 have hs:=z00g l
 have hget:∀ i j (hi:i<(z49 l).length) (hj:j<(z49 l).length),i<=j->(z49 l)[i]<=(z49 l)[j]:=by
  intro i j hi hj h
  rcases Nat.lt_or_ge i j with h|h
  . exact List.pairwise_iff_getElem.mp hs i j hi hj h
  . have:i=j:=by omega
    subst this;omega
 have ex:zdj (z49 l)=((List.range (z49 l).length).filter (Lib.keeps (z49 l).toArray)).map ((z49 l).toArray[·]!):=rfl
 refine z07w ?_ ?_
 . rw[ex]
   unfold srt
   rw[List.pairwise_map,List.pairwise_filter]
   refine List.Pairwise.imp_of_mem (R:=(· < ·)) ?_ List.pairwise_lt_range
   intro i j hi hj hij _ kj
   have hi:=List.mem_range.mp hi;have hj:=List.mem_range.mp hj
   have e1:(z49 l).toArray[i]! = (z49 l)[i]:=by simp[hi]
   have e2:(z49 l).toArray[j]! = (z49 l)[j]:=by simp[hj]
   have e3:(z49 l).toArray[j - 1]! = (z49 l)[j - 1]'(by omega):=by rw[getElem!_pos (z49 l).toArray (j - 1) (by simp;omega)];rfl
   rw[e1,e2]
   unfold Lib.keeps at kj
   rw[e2,e3]at kj
   have h1:=hget i (j - 1) hi (by omega) (by omega)
   have h2:=hget (j - 1) j (by omega) hj (by omega)
   rcases of_decide_eq_true kj with h|h
   . omega
   . omega
 . intro y
   rw[ex,List.mem_map]
   constructor
   . rintro⟨j,hj,rfl⟩
     have hj:=List.mem_range.mp (List.mem_filter.mp hj).1
     have e:(z49 l).toArray[j]! = (z49 l)[j]:=by simp[hj]
     rw[e,<-zyi];exact List.getElem_mem hj
   . intro hy
     rw[<-zyi]at hy
     have hf:z03 (fun t=>t == y) (z49 l)<(z49 l).length:=firstAt_any.mpr (List.any_eq_true.mpr ⟨y,hy,by simp⟩)
     have h2:=z9c hf
     have h3:(z49 l)[z03 (fun t=>t == y) (z49 l)]=y:=by simpa using h2
     refine⟨z03 (fun t=>t == y) (z49 l),List.mem_filter.mpr ⟨List.mem_range.mpr hf,?_⟩,by simp[hf,h3]⟩
     unfold Lib.keeps
     rw[decide_eq_true_iff]
     by_cases h0:z03 (fun t=>t == y) (z49 l)=0
     . exact .inl h0
     . right
       have hlt:z03 (fun t=>t == y) (z49 l) - 1<(z49 l).length:=by omega
       have h4:=z9g (p:=fun t=>t == y) (l:=z49 l) hlt (by omega)
       have e1:(z49 l).toArray[z03 (fun t=>t == y) (z49 l)]! = y:=by simp[hf,h3]
       have e2:(z49 l).toArray[z03 (fun t=>t == y) (z49 l) - 1]! = (z49 l)[z03 (fun t=>t == y) (z49 l) - 1]:=by simp[hlt]
       rw[e1,e2]
       intro e
       rw[<-e]at h4;simp at h4
def inR (x a b:Int):Bool:=decide (a<=x)&&decide (x<=b)
theorem z3y {α:Type} {p:α->Bool} {l:List α}:(l.any fun t=>!p t) = !(l.all p):=by
 induction l with
 |nil=>rfl
 |cons a l ih=>simp only[List.any_cons,List.all_cons,ih];cases p a<;>simp
theorem nt {b:Bool} (h:(!b)=true):b=false:=by simpa using h
theorem nf {b:Bool} (h:(!b)=false):b=true:=by simpa using h
theorem zf3 {α β:Type} (f:α->List β) {l:List α} {i:Nat} (h:i<l.length):(l.flatMap f).length=((l.take i).flatMap f).length+((f l[i]).length+((l.drop (i+1)).flatMap f).length):=by
 have e:l=l.take i++l[i]::l.drop (i+1):=by rw[<-z5e h,List.take_append_drop]
 have:=congrArg (fun m=>(m.flatMap f).length) e
 simp only[List.flatMap_append,List.flatMap_cons,List.length_append]at this
 exact this
theorem inR_iff {x a b:Int}:inR x a b=true↔a<=x/\x<=b:=by simp[inR]
theorem z0dm:∀ {a b:List UInt8},(Op.bytesLess b a||b == a) = !(Op.bytesLess a b)
 |[],[]=>by decide
 |[],y::b=>by simp[Op.bytesLess]
 |x::a,[]=>by simp[Op.bytesLess]
 | x::a,y::b=>by
   have ih:=z0dm (a:=a) (b:=b)
   simp only[Op.bytesLess]
   by_cases h:y<x
   . have h2:¬ x<y:=UInt8.lt_asymm h
     have h3:¬ x=y:=by rintro rfl;exact UInt8.lt_irrefl _ h
     simp[h,h2,h3]
   . by_cases h2:x<y
     . have h3:¬ y=x:=by rintro rfl;exact h h2
       simp[h,h2,h3]
     . have h3:x=y:=UInt8.le_antisymm (UInt8.not_lt.mp h) (UInt8.not_lt.mp h2)
       subst h3
       simp only[h,decide_false,beq_self_eq_true,Bool.true_and,Bool.false_or]
       rw[<-ih]
       by_cases h4:b=a<;>simp[h4]
def zpu (r:z0s):Bool:=(r.1.length == 1)&&decide (97<=(r.1.getD 0 0).toNat)&&decide ((r.1.getD 0 0).toNat<=122)&&inR r.2.1 1 3
def zgj (l:List z0s) (i:Nat):z0s:=l.getD i zj4
def zag (l:List z0s):Bool:=((List.range l.length).all fun i=>zpu (zgj l i)&&(i == 0||Op.bytesLess (zgj l (i - 1)).1 (zgj l i).1))&&decide (l.length<=6)
theorem zht {l:List z0s} {i:Nat} (h:i<l.length):zgj l i=l[i]:=z1a h
theorem zii {l:List z0s} (h:zag l=true) {r:z0s} (hr:r∈l):zpu r=true:=by
 unfold zag at h
 rw[Bool.and_eq_true]at h
 obtain⟨i,hi,rfl⟩:=List.mem_iff_getElem.mp hr
 have:=List.all_eq_true.mp h.1 i (List.mem_range.mpr hi)
 rw[Bool.and_eq_true,zht hi]at this
 exact this.1
theorem zfp {l:List z0s} (h:zag l=true):l.length<=6:=by
 unfold zag at h;simp at h;exact h.2
theorem zj9 {r:z0s} (h:zpu r=true):1<=r.2.1/\r.2.1<=3:=by
 unfold zpu at h;simp[inR]at h;exact h.2
def zsk (l:List z0s) (i:Int):Int:=(l.getD (Int.toNat i) zj4).2.1
def zaa (l:List z0s) (i:Int):Bool:=(l.getD (Int.toNat i) zj4).2.2.1
def zxp (ok:Int->Bool) (l:List z0s) (a:z00):Bool:=zag l&&inR a.1 0 ((l.length:Int) - 1)&&((a.2.1.length:Int) == zsk l a.1)&&a.2.1.all ok
theorem z37 {ok:Int->Bool} {l:List z0s} {a:z00} (h:zxp ok l a=true):zag l=true/\0<=a.1/\a.1<l.length/\(a.2.1.length:Int)=zsk l a.1/\a.2.1.length<=3/\∀ v∈a.2.1,ok v=true:=by
 unfold zxp at h
 simp only[Bool.and_eq_true,beq_iff_eq,List.all_eq_true]at h
 obtain⟨⟨⟨h1,h2⟩,h3⟩,h4⟩:=h
 have h2:=inR_iff.mp h2
 have hlt:a.1.toNat<l.length:=by omega
 have:=zj9 (zii h1 (List.getElem_mem hlt))
 have e:zsk l a.1=l[a.1.toNat].2.1:=by unfold zsk;rw[z1a hlt]
 exact⟨h1,h2.1,by omega,h3,by omega,h4⟩
def z06l (t:Int):Bool:=inR t (-10) 4
def z74 (l:List z0s) (a:z00):Bool:=zxp z06l l a
def vars (l:List z00):List Int:=zdq ((l.flatMap (·.2.1)).filter fun t=>decide (0<=t))
def ziz (l:List z0s) (d:z0b):Bool:=inR d.1.length 1 2&&d.1.all (z74 l) &&
 (if d.2.2.1 then decide (d.2.1=[])&&decide (d.2.2.2.1∈vars d.1)&&decide (d.2.2.2.2.1∈vars d.1)&&decide (d.2.2.2.1<d.2.2.2.2.1)
  else d.2.1.all (fun a=>z74 l a && !(zaa l a.1))&&inR d.2.1.length 1 2&&(d.2.2.2.1 == 0)&&(d.2.2.2.2.1 == 0))
def zjm (l:List z0s) (ds:List z0b):Bool:=ds.all (ziz l)&&zag l&&decide (ds.length<=5)
def exV (d:z0b):List Int:=(vars d.2.1).filter fun v=>!decide (v∈vars d.1)
def frV (d:z0b):List Int:=(vars d.2.1).filter fun v=>decide (v∈vars d.1)
theorem zm7 {l:List z0s} {ats:List z00} (h:ats.all (z74 l)=true):(ats.flatMap (·.2.1)).length<=3 * ats.length:=by
 induction ats with
 |nil=>simp
 | cons a ats ih=>
   simp only[List.all_cons,Bool.and_eq_true]at h
   have h1:=(z37 h.1).2.2.2.2.1
   have:=ih h.2
   simp only[List.flatMap_cons,List.length_append,List.length_cons]
   omega
theorem zj7 (l:List z00):(vars l).length<=(l.flatMap (·.2.1)).length:=Nat.le_trans (zw6 _) (List.length_filter_le _ _)
theorem z7m {x a b:Int}:z5w x a b (inR x a b):=z0fx _ _ _ _ (by
 unfold z07a inR
 refine z09 (fun h=>?_) (fun h=>?_)
 . rw[decide_eq_true (show a<=x from h),Bool.true_and]
 . rw[decide_eq_false (show ¬ a<=x from h),Bool.false_and])
theorem z96 {x a b:Int}:z69 x a b (inR x a b):=z09n _ _ _ _ (by
 unfold zyo inR
 refine z09 (fun h=>?_) (fun h=>?_)
 . rw[decide_eq_true h,Bool.true_and]
 . rw[decide_eq_false h,Bool.false_and])
theorem zlw {r:z0s}:za4 r (zpu r):=zmq _ _ (by
 unfold zdv
 have no:∀ {b:Bool},zpu r=b->((b,()):Bool×Unit)=(zpu r,()):=fun h=>by rw[h]
 refine z0g fun _=>z3t (fun h=>?_) (fun h=>no ?_)
 . have h1:r.1.length=1:=by omega
   refine⟨⟨by omega,by omega⟩,?_⟩
   refine z09 (fun h2=>⟨⟨by omega,by omega⟩,z09 (fun h3=>⟨_,z7m,no ?_⟩) (fun h3=>no ?_)⟩) (fun h2=>no ?_)
   . unfold zpu
     have a1:decide (97<=(r.1.getD 0 0).toNat)=true:=decide_eq_true (by have h2:(97:Int)<=((r.1.getD 0 0).toNat:Int):=h2;omega)
     have a2:decide ((r.1.getD 0 0).toNat<=122)=true:=decide_eq_true (by have h3:((r.1.getD 0 0).toNat:Int)<=122:=h3;omega)
     rw[a1,a2];simp[h1]
   . unfold zpu
     have a2:decide ((r.1.getD 0 0).toNat<=122)=false:=decide_eq_false (by have h3:¬ ((r.1.getD 0 0).toNat:Int)<=122:=h3;omega)
     rw[a2];simp
   . unfold zpu
     have a1:decide (97<=(r.1.getD 0 0).toNat)=false:=decide_eq_false (by have h2:¬ (97:Int)<=((r.1.getD 0 0).toNat:Int):=h2;omega)
     rw[a1];simp
 . unfold zpu
   have:(r.1.length == 1)=false:=by simp;omega
   rw[this];simp)
theorem z04c {l:List z0s} {i:Nat} (h:i<l.length) (hp:(zpu (zgj l i)&&(i == 0||Op.bytesLess (zgj l (i - 1)).1 (zgj l i).1))=false):zag l=false:=by
 unfold zag
 rw[Bool.and_eq_false_iff];left
 rw[Bool.eq_false_iff];intro hall
 have:=List.all_eq_true.mp hall i (List.mem_range.mpr h)
 rw[hp]at this;cases this
theorem z003 {l:List z0s} (hp:∀ i,i<l.length->(!(zpu (zgj l i)&&(i == 0||Op.bytesLess (zgj l (i - 1)).1 (zgj l i).1)))=false):zag l=decide (l.length<=6):=by
 unfold zag
 have:((List.range l.length).all fun i=>zpu (zgj l i)&&(i == 0||Op.bytesLess (zgj l (i - 1)).1 (zgj l i).1))=true:=
  List.all_eq_true.mpr fun i hi=>by have:=hp i (List.mem_range.mp hi);rwa [Bool.not_eq_false']at this
 rw[this,Bool.true_and]
theorem z2c {l:List z0s}:z1s l (zag l):=zjv _ _ (by
 unfold zc5
 refine zbf l.length (fun i=>!(zpu (zgj l i)&&(i == 0||Op.bytesLess (zgj l (i - 1)).1 (zgj l i).1))) (fun i=>((i:Int),())) (KT:=((false,()):Bool×Unit)=(zag l,())) (KF:=((decide ((List.length l:Int)<=6),()):Bool×Unit)=(zag l,())) ?_ (fun X h=>z0g fun _=>bcN (z0g fun _=>h)) ?_ ?_
 . intro i hi X hb h1 h2
   refine z0g fun hl=>bcI hi (inI hi ⟨_,zlw,?_⟩)
   simp only
   rw[z1m hi,z02 (by omega)]
   rw[zht hi]at h1 h2
   refine z0u (fun h=>h1 (by simp[h])) (fun h=>z09 (fun h0=>?_) (fun h0=>h2 (by obtain rfl:i=0:=(by omega);simp[h])))
   have hi':i - 1<l.length:=by omega
   have hw:w64 ((i:Int) - 1)=((i - 1:Nat):Int):=by rw[z2l (by omega) (by omega)];omega
   rw[hw]
   refine inI hi' (inI hi ?_)
   rw[z1m hi']
   rw[zht hi']at h1 h2
   have hz:(i == 0)=false:=by simp;omega
   rw[hz,Bool.false_or,h,Bool.true_and]at h1 h2
   exact z1e (fun h=>h1 h) (fun h=>h2 h)
 . rintro⟨i,hi,hp⟩
   rw[z04c hi (by rwa [Bool.not_eq_true']at hp)]
 . intro hp
   rw[z003 hp]
   congr 1
   exact decide_eq_decide.mpr (by omega))
theorem zlm {r:z0s}:z9y r (zpu r):=zm9 _ _ (by
 unfold zdo
 have no:∀ {b:Bool},zpu r=b->((b,()):Bool×Unit)=(zpu r,()):=fun h=>by rw[h]
 refine z0g fun _=>z3t (fun h=>?_) (fun h=>no ?_)
 . have h1:r.1.length=1:=by omega
   obtain⟨c,hc⟩:∃ c,r.1=[c]:=List.length_eq_one_iff.mp h1
   rw[hc]
   have e1:(!(Op.bytesLess [c] [97]))=decide (97<=c.toNat):=by
    simp only[Op.bytesLess,Bool.and_false,Bool.or_false]
    by_cases h:c<97
    . have:c.toNat<97:=h
      simp[h];omega
    . have:¬ c.toNat<97:=h
      simp[h];omega
   have e2:(Op.bytesLess [c] [122]||[c] == [122])=decide (c.toNat<=122):=by
    simp only[Op.bytesLess,Bool.and_false,Bool.or_false]
    by_cases h:c<122
    . have:c.toNat<122:=h
      simp[h];omega
    . have:¬ c.toNat<122:=h
      by_cases h2:c=122
      . subst h2;simp
      . have h3:c.toNat≠122:=fun e=>h2 (UInt8.toNat_inj.mp e)
        have d2:([c] == [(122:UInt8)])=false:=by simp[h2]
        rw[decide_eq_false h,d2,decide_eq_false (by omega)];rfl
   rw[e1,e2]
   refine z09 (fun h2=>z09 (fun h3=>⟨_,z96,no ?_⟩) (fun h3=>no ?_)) (fun h2=>no ?_)
   . unfold zpu;rw[hc];simp[h2,h3]
   . unfold zpu;rw[hc]
     show((1 == 1)&&decide (97<=c.toNat)&&decide (c.toNat<=122)&&inR r.2.1 1 3)=false
     rw[decide_eq_false h3];simp
   . unfold zpu;rw[hc]
     show((1 == 1)&&decide (97<=c.toNat)&&decide (c.toNat<=122)&&inR r.2.1 1 3)=false
     rw[decide_eq_false h2];simp
 . unfold zpu
   have:(r.1.length == 1)=false:=by simp;omega
   rw[this];simp)
theorem z54 {l:List z0s}:z31 l (zag l):=zju _ _ (by
 unfold zc9
 refine z0g fun hl=>zbf l.length (fun i=>!(zpu (zgj l i)&&(i == 0||Op.bytesLess (zgj l (i - 1)).1 (zgj l i).1))) (fun i=>((i:Int),())) (KT:=((false,()):Bool×Unit)=(zag l,())) (KF:=((decide ((List.length l:Int)<=6),()):Bool×Unit)=(zag l,())) ?_ (fun X h=>bcN (z0g fun _=>h)) ?_ ?_
 . intro i hi X hb h1 h2
   refine bcI hi (inI hi ⟨_,zlm,?_⟩)
   simp only
   rw[z1m hi,z02 (by omega)]
   rw[zht hi]at h1 h2
   refine z0u (fun h=>h1 (by simp[h])) (fun h=>z09 (fun h0=>?_) (fun h0=>h2 (by obtain rfl:i=0:=(by omega);simp[h])))
   have hi':i - 1<l.length:=by omega
   have hw:w64 ((i:Int) - 1)=((i - 1:Nat):Int):=by rw[z2l (by omega) (by omega)];omega
   rw[hw]
   refine inI hi' ?_
   rw[z1m hi']
   rw[zht hi']at h1 h2
   have hz:(i == 0)=false:=by simp;omega
   rw[hz,Bool.false_or,h,Bool.true_and]at h1 h2
   rw[z0dm]
   exact z1e (fun h=>h1 h) (fun h=>h2 h)
 . rintro⟨i,hi,hp⟩
   rw[z04c hi (by rwa [Bool.not_eq_true']at hp)]
 . intro hp
   rw[z003 hp]
   congr 1
   exact decide_eq_decide.mpr (by omega))
theorem row_start {l:List z0s} {a:z00} (h:inR a.1 0 (w64 ((l.length:Int) - 1))=true) (hl:(l.length:Int)<=9223372036854775807):0<=a.1/\a.1<(l.length:Int):=by
 have:=inR_iff.mp h
 rw[z2l (by omega) (by omega)]at this
 omega
theorem row_range {l:List z0s} {a:z00} (hl:(l.length:Int)<=9223372036854775807):inR a.1 0 (w64 ((l.length:Int) - 1))=inR a.1 0 ((l.length:Int) - 1):=by
 rw[z2l (by omega) (by omega)]
theorem row_no1 {ok:Int->Bool} {l:List z0s} {a:z00} (h:zag l=false):((false,()):Bool×Unit)=(zxp ok l a,()):=by unfold zxp;rw[h];simp
theorem row_no2 {ok:Int->Bool} {l:List z0s} {a:z00} (hl:(l.length:Int)<=9223372036854775807) (h:inR a.1 0 (w64 ((l.length:Int) - 1))=false):((false,()):Bool×Unit)=(zxp ok l a,()):=by
 rw[row_range hl]at h;unfold zxp;rw[h];simp
theorem row_no3 {ok:Int->Bool} {l:List z0s} {a:z00} (h:(a.2.1.length:Int)≠(l.getD (Int.toNat a.1) zj4).2.1):((false,()):Bool×Unit)=(zxp ok l a,()):=by
 have:((a.2.1.length:Int) == zsk l a.1)=false:=by simpa [zsk]using h
 unfold zxp;rw[this];simp
theorem row_yes {ok:Int->Bool} {l:List z0s} {a:z00} {b:Bool} (hl:(l.length:Int)<=9223372036854775807) (h1:zag l=true) (h2:inR a.1 0 (w64 ((l.length:Int) - 1))=true) (h3:(a.2.1.length:Int)=(l.getD (Int.toNat a.1) zj4).2.1) (hb:b=a.2.1.all ok):((b,()):Bool×Unit)=(zxp ok l a,()):=by
 rw[row_range hl]at h2
 have:((a.2.1.length:Int) == zsk l a.1)=true:=by simpa [zsk]using h3
 unfold zxp;rw[h1,h2,this,hb];simp
theorem zeo {l:List z0s} {a:z00}:z8x l a (z74 l a):=ztt _ _ _ (by
 unfold zkk z74
 refine⟨_,z2c,z0u (fun h=>row_no1 h) (fun h1=>z0g fun hl=>⟨_,z7m,z0u (fun h=>row_no2 hl h) (fun h2=>z0g fun hl2=>⟨row_start h2 hl,zbt (fun h=>row_no3 h) (fun h3=>?_)⟩)⟩)⟩
 refine z71 a.2.1 (fun t=>!z06l t) (fun i=>((i:Int),())) (KT:=((false,()):Bool×Unit)=(zxp z06l l a,())) (KF:=((true,()):Bool×Unit)=(zxp z06l l a,())) ?_ (fun X h=>z0g fun _=>bcN h) ?_ ?_
 . intro i hi X q1 q2
   refine z0g fun _=>bcI hi (inI hi ⟨_,z7m,?_⟩)
   simp only
   rw[z1m hi,z02 (by omega)]
   exact z1e (fun h=>q1 h) (fun h=>q2 h)
 . intro h;exact row_yes hl h1 h2 h3 (by rw[z3y]at h;exact(nt h).symm)
 . intro h;exact row_yes hl h1 h2 h3 (by rw[z3y]at h;exact(nf h).symm))
theorem zp9 {t:Int}:z4f t (!z06l t):=zp7 _ _ (by unfold zh4;exact⟨_,z96,rfl⟩)
theorem zt3 {l:List z0s} {a:z00}:zem l a (z74 l a):=zsv _ _ _ (by
 unfold zkd z74
 refine⟨_,z54,z0u (fun h=>row_no1 h) (fun h1=>z0g fun hl=>⟨_,z96,z0u (fun h=>row_no2 hl h) (fun h2=>z0g fun hl2=>⟨row_start h2 hl,zbt (fun h=>row_no3 h) (fun h3=>?_)⟩)⟩)⟩
 exact⟨_,z6j (fun t=>!z06l t) (fun _ _=>zp9),row_yes hl h1 h2 h3 (by rw[z3y];simp)⟩)
theorem zb9 {l:List z00} (hl:(l.flatMap (·.2.1)).length<=1073741824):z7j l (vars l):=zyx _ _ (by
 unfold zo8
 refine z0x l.length (fun i=>((i:Int),(vars (l.take i),()))) (by simp[vars,zdq]) ?_ ?_
 . intro i hi X hX
   refine z0g fun hl1=>bcI hi ?_
   simp only
   rw[z1m hi]
   have hsub:((l.take i).flatMap (·.2.1)).length+l[i].2.1.length<=1073741824:=by
    have:=zf3 (·.2.1) hi
    omega
   have hset:∀ j,j<=l[i].2.1.length->(zdq (((l.take i).flatMap (·.2.1)++l[i].2.1.take j).filter fun t=>decide (0<=t))).length<=1073741824:=by
    intro j hj
    refine Nat.le_trans (zw6 _) (Nat.le_trans (List.length_filter_le _ _) ?_)
    rw[List.length_append,List.length_take];omega
   refine z0x l[i].2.1.length (fun j=>(zdq (((l.take i).flatMap (·.2.1)++l[i].2.1.take j).filter fun t=>decide (0<=t)),((j:Int),()))) (by simp[vars]) ?_ ?_
   . intro j hj Y hY
     refine inI hi (z0g fun _=>bcI hj (inI hi (inI hj ?_)))
     simp only
     rw[z1m hj,z02 (by omega)]
     have e:((l.take i).flatMap (·.2.1)++l[i].2.1.take (j+1)).filter (fun t=>decide (0<=t))=((l.take i).flatMap (·.2.1)++l[i].2.1.take j).filter (fun t=>decide (0<=t))++(if 0<=l[i].2.1[j] then[l[i].2.1[j]] else[]):=by
      rw[z07 hj,<-List.append_assoc,List.filter_append]
      by_cases h:0<=l[i].2.1[j]<;>simp[h]
     rw[e]at hY
     refine z09 (fun h=>inI hi (inI hj ⟨_,zpy (hset j (by omega)),?_⟩)) (fun h=>?_)
     . have h:0<=l[i].2.1[j]:=h
       rw[if_pos h]at hY
       rw[zsr];exact hY
     . have h:¬ 0<=l[i].2.1[j]:=h
       rw[if_neg h,List.append_nil]at hY;exact hY
   . intro Y
     refine inI hi (z0g fun _=>bcN ?_)
     simp only
     rw[z02 (by omega),List.take_length]
     have:zdq (((l.take i).flatMap (·.2.1)++l[i].2.1).filter fun t=>decide (0<=t))=vars (l.take (i+1)):=by
      unfold vars;rw[z07 hi,List.flatMap_append];simp
     rw[this];exact hX
 . intro X
   refine z0g fun _=>bcN ?_
   simp only[List.take_length])
theorem ze1 {l:List z00} (hl:(l.flatMap (·.2.1)).length<=1073741824):z9e l (vars l):=z001 _ _ (by
 unfold zoe
 refine z0g fun hl1=>?_
 refine z0x l.length (fun i=>((i:Int),(((l.take i).flatMap (·.2.1)).filter (fun t=>decide (0<=t)),()))) (by simp) ?_ ?_
 . intro i hi X hX
   refine bcI hi (inI hi ?_)
   simp only
   rw[z1m hi,z02 (by omega)]
   have hsub:((l.take i).flatMap (·.2.1)).length+l[i].2.1.length<=1073741824:=by
    have:=zf3 (·.2.1) hi
    omega
   refine z0g fun _=>z0x l[i].2.1.length (fun j=>((j:Int),(((l.take i).flatMap (·.2.1)++l[i].2.1.take j).filter (fun t=>decide (0<=t)),()))) (by simp) ?_ ?_
   . intro j hj Y hY
     refine bcI hj (inI hj ?_)
     simp only
     rw[z1m hj,z02 (by omega)]
     have e:((l.take i).flatMap (·.2.1)++l[i].2.1.take (j+1)).filter (fun t=>decide (0<=t))=((l.take i).flatMap (·.2.1)++l[i].2.1.take j).filter (fun t=>decide (0<=t))++(if 0<=l[i].2.1[j] then[l[i].2.1[j]] else[]):=by
      rw[z07 hj,<-List.append_assoc,List.filter_append]
      by_cases h:0<=l[i].2.1[j]<;>simp[h]
     rw[e]at hY
     have hb:=List.length_filter_le (fun t=>decide (0<=t)) ((l.take i).flatMap (·.2.1)++l[i].2.1.take j)
     rw[List.length_append,List.length_take]at hb
     refine z09 (fun h=>⟨by simp only[z0v,List.length_cons,List.length_nil];omega,?_⟩) (fun h=>?_)
     . have h:0<=l[i].2.1[j]:=h
       rw[if_pos h]at hY;exact hY
     . have h:¬ 0<=l[i].2.1[j]:=h
       rw[if_neg h,List.append_nil]at hY;exact hY
   . intro Y
     refine bcN ?_
     simp only
     rw[List.take_length]
     have:((l.take i).flatMap (·.2.1)++l[i].2.1).filter (fun t=>decide (0<=t))=((l.take (i+1)).flatMap (·.2.1)).filter (fun t=>decide (0<=t)):=by
      rw[z07 hi,List.flatMap_append];simp
     rw[this];exact hX
 . intro X
   refine bcN ⟨_,zbb ?_,_,z9b,?_⟩
   . simp only[List.take_length]
     have:=List.length_filter_le (fun t=>decide (0<=t)) (l.flatMap (·.2.1));omega
   . simp only[List.take_length]
     rw[zzu];rfl)
theorem z0d6 {l:List z0s} {d:z0b} (h:inR d.1.length 1 2=false):((false,()):Bool×Unit)=(ziz l d,()):=by unfold ziz;rw[h];simp
theorem z0ar {l:List z0s} {d:z0b} (h:d.1.all (z74 l)=false):((false,()):Bool×Unit)=(ziz l d,()):=by unfold ziz;rw[h];simp
theorem zjk {l:List z0s} {d:z0b}:z8k l d (ziz l d):=zjp _ _ _ (by
 unfold zc4
 refine z0g fun hl=>⟨_,z7m,z0u (fun h=>z0d6 h) (fun h1=>?_)⟩
 refine z71 d.1 (fun a=>!z74 l a) (fun i=>((i:Int),())) (KT:=((false,()):Bool×Unit)=(ziz l d,())) (KF:=d.1.all (z74 l)=true) ?_ ?_ ?_ ?_
 . intro i hi X q1 q2
   refine z0g fun _=>bcI hi (inI hi ⟨_,zeo,?_⟩)
   simp only
   rw[z1m hi,z02 (by omega)]
   exact z1e (fun h=>q1 h) (fun h=>q2 h)
 . intro X hall
   have hlen:=inR_iff.mp h1
   have hal:=zm7 hall
   refine z0g fun _=>bcN (z1e (fun he=>?_) (fun he=>?_))
   . have ev:ziz l d=(decide (d.2.1=[])&&decide (d.2.2.2.1∈vars d.1)&&decide (d.2.2.2.2.1∈vars d.1)&&decide (d.2.2.2.1<d.2.2.2.2.1)):=by
      unfold ziz;rw[h1,hall,he];simp
     rw[ev]
     refine⟨_,zb9 (by omega),z0g fun _=>z3t (fun h=>⟨_,zq2,z09 (fun h2=>⟨_,zq2,z09 (fun h3=>?_) (fun h3=>?_)⟩) (fun h2=>?_)⟩) (fun h=>?_)⟩
     . have:d.2.1=[]:=List.length_eq_zero_iff.mp (by omega)
       simp[this,h2,h3]
     . simp[h3]
     . simp[h2]
     . have:d.2.1≠[]:=by intro e;rw[e]at h;simp at h
       simp[this]
   . have ev:ziz l d=(d.2.1.all (fun a=>z74 l a && !(zaa l a.1))&&inR d.2.1.length 1 2&&(d.2.2.2.1 == 0)&&(d.2.2.2.2.1 == 0)):=by
      unfold ziz;rw[h1,hall,he];simp
     rw[ev]
     refine z71 d.2.1 (fun a=>!(z74 l a && !(zaa l a.1))) (fun i=>((i:Int),())) (KT:=d.2.1.all (fun a=>z74 l a && !(zaa l a.1))=false) (KF:=d.2.1.all (fun a=>z74 l a && !(zaa l a.1))=true) ?_ ?_ ?_ ?_
     . intro i hi X q1 q2
       refine z0g fun _=>bcI hi (inI hi ⟨_,zeo,?_⟩)
       simp only
       rw[z1m hi,z02 (by omega)]
       have no:d.2.1.all (fun a=>z74 l a && !(zaa l a.1))=false->((false,()):Bool×Unit)=(d.2.1.all (fun a=>z74 l a && !(zaa l a.1))&&inR d.2.1.length 1 2&&(d.2.2.2.1 == 0)&&(d.2.2.2.2.1 == 0),()):=fun h=>by rw[h];simp
       refine z0u (fun h=>no (q1 (by simp[h]))) (fun h=>inI hi ⟨?_,z1e (fun h'=>no (q1 ?_)) (fun h'=>q2 ?_)⟩)
       . have:=z37 h;exact⟨this.2.1,this.2.2.1⟩
       . have:zaa l d.2.1[i].1=true:=h'
         simp[this]
       . have:zaa l d.2.1[i].1=false:=h'
         simp[this,h]
     . intro X hh
       refine z0g fun _=>bcN (z0g fun _=>⟨_,z7m,?_⟩)
       rw[hh]
       refine z1e (fun h2=>z3t (fun h3=>?_) (fun h3=>?_)) (fun h2=>?_)
       . rw[h2,h3];simp
       . have:(d.2.2.2.1 == 0)=false:=by simpa using h3
         rw[this];simp
       . rw[h2];simp
     . intro h;rw[z3y]at h;exact nt h
     . intro h;rw[z3y]at h;exact nf h
 . intro h;rw[z3y]at h;exact z0ar (nt h)
 . intro h;rw[z3y]at h;exact nf h)
theorem zxl {l:List z0s} {a:z00}:z83 a l (!z74 l a):=zwy _ _ _ (by unfold zmu;exact⟨_,zt3,rfl⟩)
theorem zl6 {l:List z0s} {ats:List z00} {n:Int}:zd6 l ats n (inR ats.length 1 n&&ats.all (z74 l)):=z01d _ _ _ _ (by
 unfold zsi
 refine z0g fun _=>⟨_,z96,z1e (fun h=>⟨_,z75 (fun a=>!z74 l a) (fun _ _=>zxl),?_⟩) (fun h=>?_)⟩
 . rw[h,Bool.true_and,z3y];simp
 . rw[h,Bool.false_and])
theorem zhe {l:List z0s} {a:z00} (h0:0<=a.1) (h1:a.1<l.length):z2g a l (zaa l a.1):=zhf _ _ _ (by unfold zaj;exact⟨⟨h0,h1⟩,rfl⟩)
theorem zcb {l:List z0s} {d:z0b}:z4y l d (ziz l d):=zjn _ _ _ (by
 unfold zca
 refine⟨_,zl6,z0u (fun h=>?_) (fun h=>?_)⟩
 . unfold ziz;rw[h];simp
 . have h':=Bool.and_eq_true_iff.mp h
   have hlen:=inR_iff.mp h'.1
   have hal:=zm7 h'.2
   refine z1e (fun he=>?_) (fun he=>?_)
   . have ev:ziz l d=(decide (d.2.1=[])&&decide (d.2.2.2.1∈vars d.1)&&decide (d.2.2.2.2.1∈vars d.1)&&decide (d.2.2.2.1<d.2.2.2.2.1)):=by
      unfold ziz;rw[h'.1,h'.2,he];simp
     rw[ev]
     refine⟨_,ze1 (by omega),z0g fun _=>z3t (fun h0=>z09 (fun h1=>⟨_,z3n,z09 (fun h2=>⟨_,z3n,?_⟩) (fun h2=>?_)⟩) (fun h1=>?_)) (fun h0=>?_)⟩
     . have:d.2.1=[]:=List.length_eq_zero_iff.mp (by omega)
       simp[this,h1,h2]
     . simp[h2]
     . simp[h1]
     . have:d.2.1≠[]:=by intro e;rw[e]at h0;simp at h0
       simp[this]
   . have ev:ziz l d=(d.2.1.all (fun a=>z74 l a && !(zaa l a.1))&&inR d.2.1.length 1 2&&(d.2.2.2.1 == 0)&&(d.2.2.2.2.1 == 0)):=by
      unfold ziz;rw[h'.1,h'.2,he];simp
     rw[ev]
     have hand:d.2.1.all (fun a=>z74 l a && !(zaa l a.1))=(d.2.1.all (z74 l)&&d.2.1.all fun a=>!(zaa l a.1)):=by
      generalize d.2.1=m
      induction m with
      |nil=>rfl
      |cons a m ih=>simp only[List.all_cons,ih];cases z74 l a<;>cases zaa l a.1<;>simp
     rw[hand]
     refine⟨_,zl6,z1e (fun h1=>z3t (fun h2=>z3t (fun h3=>?_) (fun h3=>?_)) (fun h2=>?_)) (fun h1=>?_)⟩
     . have h1:=Bool.and_eq_true_iff.mp h1
       refine⟨_,z4d (fun a=>zaa l a.1) (fun a ha=>?_),?_⟩
       . have:=z37 (List.all_eq_true.mp h1.2 a ha)
         exact zhe this.2.1 this.2.2.1
       . rw[h1.1,h1.2,h2,h3,List.not_any_eq_all_not];simp
     . have:(d.2.2.2.2.1 == 0)=false:=by simpa using h3
       rw[this];simp
     . have:(d.2.2.2.1 == 0)=false:=by simpa using h2
       rw[this];simp
     . rcases Bool.and_eq_false_iff.mp h1 with h1|h1<;>rw[h1]<;>simp)
theorem z41 {l:List z0s} {ds:List z0b}:z2y l ds (zjm l ds):=zgl _ _ _ (by
 unfold z9n
 refine z71 ds (fun d=>!ziz l d) (fun i=>((i:Int),())) (KT:=ds.all (ziz l)=false) (KF:=ds.all (ziz l)=true) ?_ ?_ ?_ ?_
 . intro i hi X q1 q2
   refine z0g fun _=>bcI hi (inI hi ⟨_,zjk,?_⟩)
   simp only
   rw[z1m hi,z02 (by omega)]
   exact z1e (fun h=>by unfold zjm;rw[q1 h];simp) (fun h=>q2 h)
 . intro X h
   refine z0g fun _=>bcN ⟨_,z2c,z1e (fun h1=>z0g fun _=>?_) (fun h1=>?_)⟩
   . unfold zjm;rw[h,h1]
     have:decide ((ds.length:Int)<=5)=decide (ds.length<=5):=decide_eq_decide.mpr (by omega)
     rw[this];simp
   . unfold zjm;rw[h1];simp
 . intro h;rw[z3y]at h;exact nt h
 . intro h;rw[z3y]at h;exact nf h)
theorem zep {l:List z0s} {d:z0b}:z1r d l (!ziz l d):=zf0 _ _ _ (by unfold z8r;exact⟨_,zcb,rfl⟩)
theorem zg3 {l:List z0s} {ds:List z0b}:z65 l ds (zjm l ds):=zgc _ _ _ (by
 unfold z9o
 refine⟨_,z54,z1e (fun h1=>z0g fun _=>z09 (fun h2=>⟨_,z3i (fun d=>!ziz l d) (fun _ _=>zep),?_⟩) (fun h2=>?_)) (fun h1=>?_)⟩
 . have:decide (ds.length<=5)=true:=decide_eq_true (by omega)
   unfold zjm;rw[h1,this,z3y];simp
 . have:decide (ds.length<=5)=false:=decide_eq_false (by omega)
   unfold zjm;rw[this];simp
 . unfold zjm;rw[h1];simp)
theorem z63 {d:z0b} (h1:(d.1.flatMap (·.2.1)).length<=1073741824) (h2:(d.2.1.flatMap (·.2.1)).length<=1073741824):z2w d (exV d):=zgb _ _ (by
 unfold z9k
 have hv:=zj7 d.2.1
 refine⟨_,zb9 h1,_,zb9 h2,?_⟩
 refine z0x (vars d.2.1).length (fun i=>((i:Int),(((vars d.2.1).take i).filter (fun v=>!decide (v∈vars d.1)),()))) (by simp) ?_ ?_
 . intro i hi X hX
   refine z0g fun _=>bcI hi (inI hi ⟨_,zq2,?_⟩)
   simp only
   rw[z1m hi,z02 (by omega)]
   have e:((vars d.2.1).take (i+1)).filter (fun v=>!decide (v∈vars d.1))=((vars d.2.1).take i).filter (fun v=>!decide (v∈vars d.1))++(if (vars d.2.1)[i]∈vars d.1 then[] else[(vars d.2.1)[i]]):=by
    rw[z07 hi,List.filter_append]
    by_cases h:(vars d.2.1)[i]∈vars d.1<;>simp[h]
   rw[e]at hX
   have hb:=List.length_filter_le (fun v=>!decide (v∈vars d.1)) ((vars d.2.1).take i)
   rw[List.length_take]at hb
   refine z1e (fun h=>inI hi ⟨by simp only[z0v,List.length_cons,List.length_nil];omega,?_⟩) (fun h=>?_)
   . have h:¬ (vars d.2.1)[i]∈vars d.1:=by simpa using h
     rw[if_neg h]at hX;exact hX
   . have h:(vars d.2.1)[i]∈vars d.1:=by simpa using h
     rw[if_pos h,List.append_nil]at hX;exact hX
 . intro X
   refine z0g fun _=>bcN ?_
   simp only[List.take_length]
   rfl)
def hdV (d:z0b) (b:Bool):List Int:=(vars d.2.1).filter fun v=>decide (v∈vars d.1) == b
theorem zgy {d:z0b} {b:Bool} (h1:(d.1.flatMap (·.2.1)).length<=1073741824) (h2:(d.2.1.flatMap (·.2.1)).length<=1073741824):z97 d b (hdV d b):=zor _ _ _ (by
 unfold zh0
 have hv:=zj7 d.2.1
 refine⟨_,ze1 h1,_,ze1 h2,z0g fun _=>?_⟩
 refine z0x (vars d.2.1).length (fun i=>((i:Int),(((vars d.2.1).take i).filter (fun v=>decide (v∈vars d.1) == b),()))) (by simp) ?_ ?_
 . intro i hi X hX
   refine bcI hi (inI hi ⟨_,z3n,?_⟩)
   simp only
   rw[z1m hi,z02 (by omega)]
   have e:((vars d.2.1).take (i+1)).filter (fun v=>decide (v∈vars d.1) == b)=((vars d.2.1).take i).filter (fun v=>decide (v∈vars d.1) == b)++(if (decide ((vars d.2.1)[i]∈vars d.1) == b)=true then[(vars d.2.1)[i]] else[]):=by
    rw[z07 hi,List.filter_append]
    cases h:(decide ((vars d.2.1)[i]∈vars d.1) == b)<;>simp[h]
   rw[e]at hX
   have hb:=List.length_filter_le (fun v=>decide (v∈vars d.1) == b) ((vars d.2.1).take i)
   rw[List.length_take]at hb
   refine z1e (fun h=>⟨by simp only[z0v,List.length_cons,List.length_nil];omega,?_⟩) (fun h=>?_)
   . rw[if_pos h]at hX;exact hX
   . rw[if_neg (by rw[h];simp),List.append_nil]at hX;exact hX
 . intro X
   refine bcN ?_
   simp only[List.take_length]
   rfl)
theorem z08m (d:z0b):hdV d false=exV d:=by unfold hdV exV;congr 1;funext v;by_cases h:v∈vars d.1<;>simp[h]
theorem z0c9 (d:z0b):hdV d true=frV d:=by unfold hdV frV;congr 1;funext v;by_cases h:v∈vars d.1<;>simp[h]
theorem z9s {d:z0b} (h1:(d.1.flatMap (·.2.1)).length<=1073741824) (h2:(d.2.1.flatMap (·.2.1)).length<=1073741824):z3z d (exV d):=zgf _ _ (by
 unfold za8
 exact⟨_,zgy h1 h2,by rw[z08m]⟩)
theorem z6a {l:List z0s} {d:z0b} (h:ziz l d=true):1<=d.1.length/\d.1.length<=2/\(∀ a∈d.1,z74 l a=true)/\d.2.1.length<=2/\(∀ a∈d.2.1,z74 l a=true)/\(d.1.flatMap (·.2.1)).length<=6/\(d.2.1.flatMap (·.2.1)).length<=6:=by
 unfold ziz at h
 rw[Bool.and_eq_true,Bool.and_eq_true]at h
 obtain⟨⟨h1,h2⟩,h3⟩:=h
 have h1:=inR_iff.mp h1
 have l1:=zm7 h2
 cases he:d.2.2.1 with
 | true=>
   rw[if_pos he]at h3
   simp only[Bool.and_eq_true,decide_eq_true_eq]at h3
   have:=h3.1.1.1
   exact⟨by omega,by omega,List.all_eq_true.mp h2,by simp[this],by simp[this],by omega,by simp[this]⟩
 | false=>
   rw[if_neg (by simp[he])]at h3
   simp only[Bool.and_eq_true]at h3
   have hr:=inR_iff.mp h3.1.1.2
   have h4:d.2.1.all (z74 l)=true:=List.all_eq_true.mpr fun a ha=>by
    have:=List.all_eq_true.mp h3.1.1.1 a ha
    rw[Bool.and_eq_true]at this;exact this.1
   have l2:=zm7 h4
   exact⟨by omega,by omega,List.all_eq_true.mp h2,by omega,List.all_eq_true.mp h4,by omega,by omega⟩
theorem zr7 {l:List z0s} {ds:List z0b} (h:zjm l ds=true) {d:z0b} (hd:d∈ds):ziz l d=true:=by
 unfold zjm at h
 rw[Bool.and_eq_true,Bool.and_eq_true]at h
 exact List.all_eq_true.mp h.1.1 d hd
theorem zmo {l:List z0s} {ds:List z0b} (h:zjm l ds=true):ds.length<=5:=by
 unfold zjm at h;simp at h;exact h.2
def z8v (v:Int):Bool:=inR v (-40) (-1)
def z4v (v:Int):Int:=if z8v v then -1 - v else 0
def znb (v:Int):Bool:=inR v (-40) 9
def z2v (l:List Int):List Int:=(l.filter z8v).map (fun v=>-1 - v)
def zzn (f:z00):List Int:=zdq (z2v f.2.1)
def zhd (x:z0e):List Int:=zdq (x.2.1.flatMap fun f=>z2v f.2.1)
def zpe (l:List z0s) (f:z00):Bool:=zxp znb l f
def zds (l:List z00) (i:Nat):z00:=l.getD i z0h
def z95 (x:z0e) (i:Nat):Bool:=zpe x.1 (zds x.2.1 i)&&(i == 0||decide (z8b (zds x.2.1 (i - 1)) (zds x.2.1 i)<0)) && !(zaa x.1 (zds x.2.1 i).1&&(zzn (zds x.2.1 i)).length != 0)
def z3a (x:z0e):Bool:=zag x.1&&decide (x.2.1.length<=30)&&(List.range x.2.1.length).all (z95 x)
theorem isNul_iff {v:Int}:z8v v=true↔-40<=v/\v<=-1:=inR_iff
theorem mem_nulls {l:List Int} {k:Int}:k∈z2v l↔0<=k/\k<40/\(-1 - k)∈l:=by
 unfold z2v
 rw[List.mem_map]
 constructor
 . rintro⟨v,hv,rfl⟩
   obtain⟨h1,h2⟩:=List.mem_filter.mp hv
   have:=isNul_iff.mp h2
   exact ⟨by omega, by omega, by have e : -1 - (-1 - v)=v:=by omega
                                 rw[e];exact h1⟩
 . rintro⟨h1,h2,h3⟩
   exact⟨-1 - k,List.mem_filter.mpr ⟨h3,isNul_iff.mpr ⟨by omega,by omega⟩⟩,by omega⟩
theorem ze2 (l m:List Int):z2v (l++m)=z2v l++z2v m:=by unfold z2v;rw[List.filter_append,List.map_append]
theorem zfq (l:List z00):z2v (l.flatMap (·.2.1))=l.flatMap fun f=>z2v f.2.1:=by
 induction l with
 |nil=>rfl
 |cons a l ih=>simp only[List.flatMap_cons];rw[ze2,ih]
theorem zlc {l:List Int}:∀ k∈zdq (z2v l),0<=k/\k<0+(40:Nat):=fun k hk=>by
 have:=mem_nulls.mp (mem_sset.mp hk);omega
theorem zlx {l:List Int}:(zdq (z2v l)).length<=40:=zy5 (zlt _) zlc
theorem z04x (x:z0e):(zhd x).length<=40:=by unfold zhd;rw[<-zfq];exact zlx
theorem zxy (l:List Int):(z2v l).length<=l.length:=by unfold z2v;rw[List.length_map];exact List.length_filter_le _ _
theorem z2p {l:List z00} {i:Nat} (h:i<l.length):zds l i=l[i]:=z1a h
theorem z6o {x:z0e} (h:z3a x=true) {f:z00} (hf:f∈x.2.1):zpe x.1 f=true:=by
 unfold z3a at h
 rw[Bool.and_eq_true]at h
 obtain⟨i,hi,rfl⟩:=List.mem_iff_getElem.mp hf
 have:=List.all_eq_true.mp h.2 i (List.mem_range.mpr hi)
 unfold z95 at this
 rw[Bool.and_eq_true,Bool.and_eq_true,z2p hi]at this
 exact this.1.1
theorem z4k {x:z0e} (h:z3a x=true):x.2.1.length<=30:=by unfold z3a at h;simp at h;exact h.1.2
theorem zfo {x:z0e} (h:z3a x=true):zag x.1=true:=by unfold z3a at h;simp at h;exact h.1.1
theorem z03g {x:z0e} {i:Nat} (hi:i<x.2.1.length) (h:z95 x i=false):z3a x=false:=by
 unfold z3a
 have:(List.range x.2.1.length).all (z95 x)=false:=by
  rw[Bool.eq_false_iff];intro hall
  have:=List.all_eq_true.mp hall i (List.mem_range.mpr hi);rw[h]at this;cases this
 rw[this];simp
theorem zqx {x:z0e} (h1:∀ i,i<x.2.1.length->z95 x i=true):z3a x=(zag x.1&&decide (x.2.1.length<=30)):=by
 unfold z3a
 rw[List.all_eq_true.mpr fun i hi=>h1 i (List.mem_range.mp hi)];simp
theorem zhm (v:Int):0<=z4v v:=by
 unfold z4v
 split
 . rename_i h;have:=isNul_iff.mp h;omega
 . omega
theorem z9z {v:Int}:z40 v (z4v v) (z8v v):=zxi fun hb=>zxg _ _ _ (by
 have hb : -9223372036854775808<=v/\v<=9223372036854775807:=hb
 unfold zmk
 have no:z8v v=false->(((0:Int),(false,())):Int×Bool×Unit)=(z4v v,(z8v v,())):=fun h=>by unfold z4v;rw[h];rfl
 refine z09 (fun h=>no ?_) (fun h=>⟨_,z7m,?_⟩)
 . rw[Bool.eq_false_iff];intro h';have:=isNul_iff.mp h';omega
 . rw[z2l (by omega) (by omega)]
   refine z0u (fun h2=>no ?_) (fun h2=>?_)
   . rw[Bool.eq_false_iff]at h2 ⊢;intro h';have:=isNul_iff.mp h';exact h2 (inR_iff.mpr ⟨by omega,by omega⟩)
   . have:=inR_iff.mp h2
     have e:z8v v=true:=isNul_iff.mpr ⟨by omega,by omega⟩
     unfold z4v;rw[e];rfl)
theorem zme {v:Int}:z87 v (z4v v) (z8v v):=zwt fun hb=>zwj _ _ _ (by
 have hb : -9223372036854775808<=v/\v<=9223372036854775807:=hb
 unfold zma
 have no:z8v v=false->(((0:Int),(false,())):Int×Bool×Unit)=(z4v v,(z8v v,())):=fun h=>by unfold z4v;rw[h];rfl
 rw[z2l (by omega) (by omega)]
 refine⟨_,z96,z0u (fun h2=>no ?_) (fun h2=>?_)⟩
 . rw[Bool.eq_false_iff]at h2 ⊢;intro h';have:=isNul_iff.mp h';exact h2 (inR_iff.mpr ⟨by omega,by omega⟩)
 . have:=inR_iff.mp h2
   have e:z8v v=true:=isNul_iff.mpr ⟨by omega,by omega⟩
   unfold z4v;rw[e];rfl)
theorem z9w {v:Int}:z5b v (znb v):=zq9 _ _ (by
 unfold zid
 refine⟨_,_,z9z,z1e (fun h=>?_) (fun h=>⟨_,z7m,?_⟩)⟩
 . have:=isNul_iff.mp h
   have e:znb v=true:=inR_iff.mpr ⟨by omega,by omega⟩
   rw[e]
 . have:inR v 0 9=znb v:=by
    rw[Bool.eq_iff_iff]
    unfold znb
    rw[inR_iff,inR_iff]
    constructor
    . omega
    . intro h'
      refine⟨?_,h'.2⟩
      rcases Int.lt_or_le v 0 with h0|h0
      . rw[isNul_iff.mpr ⟨by omega,by omega⟩]at h;cases h
      . exact h0
   rw[this])
theorem z9x {v:Int}:z5j v (znb v):=zr5 _ _ (by unfold zi2;exact⟨_,z96,rfl⟩)
theorem zka {f:z00}:z6m f (zzn f):=zto _ _ (by
 unfold zk8
 refine z0x f.2.1.length (fun i=>((i:Int),(zdq (z2v (f.2.1.take i)),()))) (by simp[z2v,zdq]) ?_ ?_
 . intro i hi X hX
   refine z0g fun _=>bcI hi (inI hi ⟨_,_,z9z,?_⟩)
   simp only
   rw[z1m hi,z02 (by omega)]
   have e:z2v (f.2.1.take (i+1))=z2v (f.2.1.take i)++(if z8v f.2.1[i] then[-1 - f.2.1[i]] else[]):=by
    rw[z07 hi,ze2];congr 1
    unfold z2v
    cases h:z8v f.2.1[i]<;>simp[h]
   rw[e]at hX
   have hf:=zlx (l:=f.2.1.take i)
   refine z1e (fun h=>⟨_,zpy (by omega),?_⟩) (fun h=>?_)
   . rw[if_pos h]at hX
     have:z4v f.2.1[i] = -1 - f.2.1[i]:=by unfold z4v;rw[if_pos h]
     rw[this,zsr];exact hX
   . rw[if_neg (by rw[h];simp),List.append_nil]at hX;exact hX
 . intro X
   refine z0g fun _=>bcN ?_
   simp only[List.take_length]
   rfl)
theorem zn5 {l:List Int} (hl:l.length<=1073741824):zf8 l (zdq (z2v l)):=z06p _ _ (by
 unfold zuf
 refine z0g fun _=>z0x l.length (fun i=>((i:Int),(z2v (l.take i),()))) (by simp[z2v]) ?_ ?_
 . intro i hi X hX
   refine bcI hi (inI hi ⟨_,_,zme,?_⟩)
   simp only
   rw[z1m hi,z02 (by omega)]
   have e:z2v (l.take (i+1))=z2v (l.take i)++(if z8v l[i] then[-1 - l[i]] else[]):=by
    rw[z07 hi,ze2];congr 1
    unfold z2v
    cases h:z8v l[i]<;>simp[h]
   rw[e]at hX
   have hb:=zxy (l.take i)
   rw[List.length_take]at hb
   refine z1e (fun h=>⟨by simp only[z0v,List.length_cons,List.length_nil];omega,?_⟩) (fun h=>?_)
   . rw[if_pos h]at hX
     have:z4v l[i] = -1 - l[i]:=by unfold z4v;rw[if_pos h]
     rw[this];exact hX
   . rw[if_neg (by rw[h];simp),List.append_nil]at hX;exact hX
 . intro X
   refine bcN ⟨_,zbb ?_,_,z9b,?_⟩
   . simp only[List.take_length];have:=zxy l;omega
   . simp only[List.take_length];rw[zzu])
theorem zti {f:z00} (h:f.2.1.length<=1073741824):z8p f (zzn f):=zth _ _ (by unfold zkb;exact⟨_,zn5 h,rfl⟩)
theorem zeb {x:z0e}:z73 x (zhd x):=zmn _ _ (by
 unfold zdr
 refine z0x x.2.1.length (fun i=>((i:Int),(zdq ((x.2.1.take i).flatMap fun f=>z2v f.2.1),()))) (by simp[zdq]) ?_ ?_
 . intro i hi X hX
   refine z0g fun _=>bcI hi (inI hi ⟨_,zka,?_⟩)
   simp only
   rw[z1m hi]
   have hn:(zzn x.2.1[i]).length<=40:=zlx
   refine z0x (zzn x.2.1[i]).length (fun j=>(((zzn x.2.1[i]).take j).foldl ins (zdq ((x.2.1.take i).flatMap fun f=>z2v f.2.1)),((j:Int),()))) (by simp) ?_ ?_
   . intro j hj Y hY
     refine z0g fun _=>bcI hj (inI hj ⟨_,zpy ?_,?_⟩)
     . have h1:(zdq ((x.2.1.take i).flatMap fun f=>z2v f.2.1)).length<=40:=by rw[<-zfq];exact zlx
       have:∀(l s:List Int),(l.foldl ins s).length<=s.length+l.length:=by
        intro l
        induction l with
        |nil=>intro s;simp
        |cons a l ih=>intro s;have:=ih (ins s a);have:=z092 s a;simp only[List.foldl_cons,List.length_cons];omega
       have:=this ((zzn x.2.1[i]).take j) (zdq ((x.2.1.take i).flatMap fun f=>z2v f.2.1))
       rw[List.length_take]at this
       simp only;omega
     . simp only
       rw[z1m hj,z02 (by omega)]
       rw[z07 hj,List.foldl_append]at hY
       exact hY
   . intro Y
     refine z0g fun _=>bcN ?_
     simp only[List.take_length]
     rw[z02 (by omega)]
     have:(zzn x.2.1[i]).foldl ins (zdq ((x.2.1.take i).flatMap fun f=>z2v f.2.1))=zdq ((x.2.1.take (i+1)).flatMap fun f=>z2v f.2.1):=by
      unfold zzn
      rw[zys,z07 hi,List.flatMap_append];simp
     rw[this];exact hX
 . intro X
   refine z0g fun _=>bcN ?_
   simp only[List.take_length]
   rfl)
theorem zm4 {x:z0e} (hl:(x.2.1.flatMap (·.2.1)).length<=1073741824):zad x (zhd x):=zlk _ _ (by
 unfold zee
 refine z0g fun _=>z0x x.2.1.length (fun i=>((i:Int),((x.2.1.take i).flatMap (·.2.1),()))) (by simp) ?_ ?_
 . intro i hi X hX
   have hs:=zf3 (fun f:z00=>f.2.1) hi
   refine bcI hi (inI hi ⟨?_,?_⟩)
   . simp only[z0v];rw[z1m hi];omega
   . simp only
     rw[z1m hi,z02 (by omega)]
     rw[z07 hi,List.flatMap_append]at hX
     simpa using hX
 . intro X
   refine bcN ⟨_,zn5 ?_,?_⟩
   . simp only[List.take_length];exact hl
   . simp only[List.take_length]
     rw[zfq];rfl)
theorem ztq {l:List z0s} {a:z00}:zeg l a (zpe l a):=zt6 _ _ _ (by
 unfold zk5 zpe
 refine⟨_,z2c,z0u (fun h=>row_no1 h) (fun h1=>z0g fun hl=>⟨_,z7m,z0u (fun h=>row_no2 hl h) (fun h2=>z0g fun hl2=>⟨row_start h2 hl,zbt (fun h=>row_no3 h) (fun h3=>?_)⟩)⟩)⟩
 refine z71 a.2.1 (fun t=>!znb t) (fun i=>((i:Int),())) (KT:=((false,()):Bool×Unit)=(zxp znb l a,())) (KF:=((true,()):Bool×Unit)=(zxp znb l a,())) ?_ (fun X h=>z0g fun _=>bcN h) ?_ ?_
 . intro i hi X q1 q2
   refine z0g fun _=>bcI hi (inI hi ⟨_,z9w,?_⟩)
   simp only
   rw[z1m hi,z02 (by omega)]
   exact z1e (fun h=>q1 h) (fun h=>q2 h)
 . intro h;exact row_yes hl h1 h2 h3 (by rw[z3y]at h;exact(nt h).symm)
 . intro h;exact row_yes hl h1 h2 h3 (by rw[z3y]at h;exact(nf h).symm))
theorem zp1 {t:Int}:z4g t (!znb t):=zp3 _ _ (by unfold zh6;exact⟨_,z9x,rfl⟩)
theorem ztb {l:List z0s} {a:z00}:zes l a (zpe l a):=ztc _ _ _ (by
 unfold zkc zpe
 refine⟨_,z54,z0u (fun h=>row_no1 h) (fun h1=>z0g fun hl=>⟨_,z96,z0u (fun h=>row_no2 hl h) (fun h2=>z0g fun hl2=>⟨row_start h2 hl,zbt (fun h=>row_no3 h) (fun h3=>?_)⟩)⟩)⟩
 exact⟨_,z6h (fun t=>!znb t) (fun _ _=>zp1),row_yes hl h1 h2 h3 (by rw[z3y];simp)⟩)
theorem zpn {x:z0e} {f:z00} (h:zpe x.1 f=true):0<=f.1/\f.1<(x.1.length:Int):=by have:=z37 h;exact⟨this.2.1,this.2.2.1⟩
theorem zbh {x:z0e} {i:Nat} (hi:i<x.2.1.length) (h1:zpe x.1 x.2.1[i]=true) (h2:0<i->z8b (zds x.2.1 (i - 1)) x.2.1[i]<0):z95 x i = !(zaa x.1 x.2.1[i].1&&(zzn x.2.1[i]).length != 0):=by
 unfold z95
 rw[z2p hi,h1]
 have:(i == 0||decide (z8b (zds x.2.1 (i - 1)) x.2.1[i]<0))=true:=by
  rcases Nat.eq_zero_or_pos i with h|h
  . simp[h]
  . rw[decide_eq_true (h2 h)];simp
 rw[this];rfl
theorem z2x {x:z0e}:z2e x (z3a x):=zmz _ _ (by
 unfold zef
 have no:z3a x=false->((false,()):Bool×Unit)=(z3a x,()):=fun h=>by rw[h]
 refine zbf x.2.1.length (fun i=>!z95 x i) (fun i=>((i:Int),())) (KT:=z3a x=false) (KF:=z3a x=(zag x.1&&decide (x.2.1.length<=30))) ?_ ?_ ?_ ?_
 . intro i hi X hb q1 q2
   have qn:z95 x i=false->((false,()):Bool×Unit)=(z3a x,()):=fun h=>no (q1 (by rw[h];rfl))
   have qy:z95 x i=true->X (((i+1:Nat):Int),()):=fun h=>q2 (by rw[h];rfl)
   refine z0g fun hl=>bcI hi (inI hi ⟨_,ztq,?_⟩)
   simp only
   rw[z1m hi,z02 (by omega)]
   refine z0u (fun h=>qn (by unfold z95;rw[z2p hi,h];simp)) (fun hv=>?_)
   have fin:z95 x i = !(zaa x.1 x.2.1[i].1&&(zzn x.2.1[i]).length != 0)->((0<=x.2.1[i].1/\x.2.1[i].1<(x.1.length:Int))/\(z01 (((x.1.getD (Int.toNat x.2.1[i].1) zj4).2).2).1 (∃ y5:List Int,z6m x.2.1[i] y5/\(z0o (List.length y5:Int) (z01 (decide ((List.length y5:Int) > (0:Int))) (((false,()):Bool×Unit)=(z3a x,())) (X (((i+1:Nat):Int),()))))) (X (((i+1:Nat):Int),())))):=by
    intro he
    refine⟨zpn hv,z1e (fun hs=>⟨_,zka,z0g fun _=>z09 (fun h=>qn ?_) (fun h=>qy ?_)⟩) (fun hs=>qy ?_)⟩
    . have hs:zaa x.1 x.2.1[i].1=true:=hs
      rw[he,hs];simp;intro e;rw[e]at h;simp at h
    . have:(zzn x.2.1[i]).length=0:=by omega
      rw[he,this];simp
    . have hs:zaa x.1 x.2.1[i].1=false:=hs
      rw[he,hs];rfl
   refine z09 (fun h0=>?_) (fun h0=>fin (zbh hi hv (fun h=>by omega)))
   have hi':i - 1<x.2.1.length:=by omega
   have hw:w64 ((i:Int) - 1)=((i - 1:Nat):Int):=by rw[z2l (by omega) (by omega)];omega
   rw[hw]
   refine inI hi' ⟨_,za3,?_⟩
   rw[z1m hi']
   refine z09 (fun h=>qn ?_) (fun h=>fin (zbh hi hv (fun _=>by rw[z2p hi'];omega)))
   unfold z95
   rw[z2p hi,z2p hi',decide_eq_false (by omega)]
   have:(i == 0)=false:=by simp;omega
   rw[this];simp
 . intro X h
   refine z0g fun _=>bcN ⟨_,z2c,z1e (fun h1=>z0g fun _=>?_) (fun h1=>no (by rw[h,h1];rfl))⟩
   rw[h,h1]
   have:decide ((x.2.1.length:Int)<=30)=decide (x.2.1.length<=30):=decide_eq_decide.mpr (by omega)
   rw[this];rfl
 . rintro⟨i,hi,hp⟩;exact z03g hi (nt hp)
 . intro h;exact zqx fun i hi=>nf (h i hi))
theorem z72 {x:z0e}:z3s x (z3a x):=zmw _ _ (by
 unfold zdn
 have no:z3a x=false->((false,()):Bool×Unit)=(z3a x,()):=fun h=>by rw[h]
 refine⟨_,z54,z0u (fun h=>no (by unfold z3a;rw[h];simp)) (fun hr=>z0g fun _=>z09 (fun h=>no (by unfold z3a;rw[decide_eq_false (show ¬ x.2.1.length<=30 by omega)];simp)) (fun hlen=>z0g fun _=>?_))⟩
 refine zbf x.2.1.length (fun i=>!z95 x i) (fun i=>((i:Int),())) (KT:=z3a x=false) (KF:=z3a x=(zag x.1&&decide (x.2.1.length<=30))) ?_ ?_ ?_ ?_
 . intro i hi X hb q1 q2
   have qn:z95 x i=false->((false,()):Bool×Unit)=(z3a x,()):=fun h=>no (q1 (by rw[h];rfl))
   have qy:z95 x i=true->X (((i+1:Nat):Int),()):=fun h=>q2 (by rw[h];rfl)
   refine bcI hi (inI hi ⟨_,ztb,?_⟩)
   simp only
   rw[z1m hi,z02 (by omega)]
   refine z0u (fun h=>qn (by unfold z95;rw[z2p hi,h];simp)) (fun hv=>?_)
   have hvl:=(z37 hv).2.2.2.2.1
   have fin:z95 x i = !(zaa x.1 x.2.1[i].1&&(zzn x.2.1[i]).length != 0)->((0<=x.2.1[i].1/\x.2.1[i].1<(x.1.length:Int))/\(z01 (((x.1.getD (Int.toNat x.2.1[i].1) zj4).2).2).1 (∃ y5:List Int,z8p x.2.1[i] y5/\(z0o (List.length y5:Int) (z01 (decide ((List.length y5:Int) > (0:Int))) (((false,()):Bool×Unit)=(z3a x,())) (X (((i+1:Nat):Int),()))))) (X (((i+1:Nat):Int),())))):=by
    intro he
    refine⟨zpn hv,z1e (fun hs=>⟨_,zti (by omega),z0g fun _=>z09 (fun h=>qn ?_) (fun h=>qy ?_)⟩) (fun hs=>qy ?_)⟩
    . have hs:zaa x.1 x.2.1[i].1=true:=hs
      rw[he,hs];simp;intro e;rw[e]at h;simp at h
    . have:(zzn x.2.1[i]).length=0:=by omega
      rw[he,this];simp
    . have hs:zaa x.1 x.2.1[i].1=false:=hs
      rw[he,hs];rfl
   refine z09 (fun h0=>?_) (fun h0=>fin (zbh hi hv (fun h=>by omega)))
   have hi':i - 1<x.2.1.length:=by omega
   have hw:w64 ((i:Int) - 1)=((i - 1:Nat):Int):=by rw[z2l (by omega) (by omega)];omega
   rw[hw]
   refine inI hi' ⟨_,z58,?_⟩
   rw[z1m hi']
   refine z09 (fun h=>qn ?_) (fun h=>fin (zbh hi hv (fun _=>by rw[z2p hi'];omega)))
   unfold z95
   rw[z2p hi,z2p hi',decide_eq_false (by omega)]
   have:(i == 0)=false:=by simp;omega
   rw[this];simp
 . intro X h
   refine bcN ?_
   rw[h,hr,decide_eq_true (show x.2.1.length<=30 by omega)];rfl
 . rintro⟨i,hi,hp⟩;exact z03g hi (nt hp)
 . intro h;exact zqx fun i hi=>nf (h i hi))
theorem znq {x:z0e} (h:z3a x=true):(x.2.1.flatMap (·.2.1)).length<=90:=by
 have h1:=z4k h
 have:∀ l:List z00,(∀ f∈l,zpe x.1 f=true)->(l.flatMap (·.2.1)).length<=3 * l.length:=by
  intro l
  induction l with
  |nil=>intro _;simp
  | cons a l ih=>
    intro hl
    have h1:=(z37 (hl a (by simp))).2.2.2.2.1
    have:=ih fun f hf=>hl f (by simp[hf])
    simp only[List.flatMap_cons,List.length_append,List.length_cons];omega
 have:=this x.2.1 fun f hf=>z6o h hf
 omega
def zi5 (x:z0e):Int:=match (zhd x).getLast? with
 |some k=>k+1
 |none=>0
theorem nextN_le {x:z0e} {n:Nat}:zi5 x<=n↔∀ k∈zhd x,k<n:=by
 unfold zi5
 have hs:srt (zhd x):=zlt _
 cases h:(zhd x).getLast? with
 | none=>
   have:zhd x=[]:=List.getLast?_eq_none_iff.mp h
   rw[this];simp
 | some m=>
   have hne:zhd x≠[]:=by intro e;rw[e]at h;simp at h
   have hm:(zhd x).getLast hne=m:=by rw[List.getLast?_eq_some_getLast hne]at h;exact Option.some.inj h
   have hlast:=z0at hs hne
   constructor
   . intro h' k hk
     have:=hlast k hk;rw[hm]at this;simp only at h';omega
   . intro h'
     have:=h' m (by rw[<-hm];exact List.getLast_mem hne)
     simp only;omega
theorem z01s {x:z0e} (hl:(x.2.1.flatMap (·.2.1)).length<=1073741824):zkw x (zi5 x):=z02m _ _ (by
 unfold zq6
 have hf:=z04x x
 refine⟨_,zm4 hl,z0g fun _=>z3t (fun h=>?_) (fun h=>z0g fun _=>?_)⟩
 . have:zhd x=[]:=List.length_eq_zero_iff.mp (by omega)
   unfold zi5;rw[this];rfl
 . have hw:w64 ((zhd x).length - 1:Int)=(((zhd x).length - 1:Nat):Int):=by rw[z2l (by omega) (by omega)];omega
   rw[hw]
   have hlt:(zhd x).length - 1<(zhd x).length:=by omega
   refine inI hlt ?_
   rw[z1m hlt]
   have hne:zhd x≠[]:=by intro e;rw[e]at h;simp at h
   have hr:0<=(zhd x)[(zhd x).length - 1]/\(zhd x)[(zhd x).length - 1]<0+(40:Nat):=by
    have:=zlc (l:=x.2.1.flatMap (·.2.1)) ((zhd x)[(zhd x).length - 1]) (by rw[zfq];exact List.getElem_mem hlt)
    exact this
   rw[z2l (by omega) (by omega)]
   unfold zi5
   rw[List.getLast?_eq_some_getLast hne,List.getLast_eq_getElem])
def mx (f:Int->Int) (l:List Int):Int:=l.foldl (fun m k=>ziu m (f k)) 0
theorem z0eh {a b n:Int}:ziu a b<=n↔a<=n/\b<=n:=by unfold ziu;split<;>omega
theorem z0a5 {f:Int->Int} {n:Int}:∀ {l:List Int} {s:Int},l.foldl (fun m k=>ziu m (f k)) s<=n↔s<=n/\∀ k∈l,f k<=n
 |[],s=>by simp
 | a::l,s=>by
   rw[List.foldl_cons,z0a5,z0eh]
   simp only[List.mem_cons,forall_eq_or_imp,and_assoc]
theorem mx_le {f:Int->Int} {l:List Int} {n:Int}:mx f l<=n↔0<=n/\∀ k∈l,f k<=n:=z0a5
theorem zi6 (f:Int->Int) (l:List Int):0<=mx f l:=(mx_le.mp (Int.le_refl _)).1
theorem z0be {f:Int->Int} {l m:List Int} (h:∀ k,k∈l↔k∈m):mx f l=mx f m:=by
 have h1:mx f l<=mx f m:=mx_le.mpr ⟨zi6 _ _,fun k hk=>(mx_le.mp (Int.le_refl (mx f m))).2 k ((h k).mp hk)⟩
 have h2:mx f m<=mx f l:=mx_le.mpr ⟨zi6 _ _,fun k hk=>(mx_le.mp (Int.le_refl (mx f l))).2 k ((h k).mpr hk)⟩
 omega
theorem z0ei (f:Int->Int) (l:List Int) (k:Int):mx f (l++[k])=ziu (mx f l) (f k):=by unfold mx;rw[List.foldl_append];rfl
theorem zx0 (a b:Int):ziu (a+1) (b+1)=ziu a b+1:=by unfold ziu;split<;>split<;>omega
def z8z (out:List Int) (args:List Int):Int:=mx (fun k=>out.getD k.toNat 0) (z2v args)+1
def z2a (ts:List z08):List Int:=ts.foldl (fun out t=>out++[z8z out t.2.2.1]) []
theorem z8s (ts:List z08) (t:z08):z2a (ts++[t])=z2a ts++[z8z (z2a ts) t.2.2.1]:=by unfold z2a;rw[List.foldl_append];rfl
theorem z017 (ts:List z08):(z2a ts).length=ts.length:=by
 have:∀(l:List z08) (s:List Int),(l.foldl (fun out t=>out++[z8z out t.2.2.1]) s).length=s.length+l.length:=by
  intro l
  induction l with
  |nil=>intro s;simp
  |cons a l ih=>intro s;rw[List.foldl_cons,ih];simp;omega
 have:=this ts []
 simpa [z2a]using this
def zev (ts:List z08) (i:Nat):z08:=ts.getD i z68
theorem z6p {ts:List z08} {i:Nat} (h:i<ts.length):zev ts i=ts[i]:=z1a h
def zb5 (k:Nat) (v:Int):Bool:=znb v && !(z8v v&&decide ((k:Int)<=z4v v))
def z8u (ts:List z08) (k:Nat):Bool:=inR (zev ts k).1 0 4&&inR (zev ts k).2.1 0 4&&decide ((zev ts k).2.2.1.length<=5)&&(zev ts k).2.2.1.all (zb5 k) && !(ts.take k).any (fun t=>decide (t=zev ts k))
def zjt (ts:List z08):Bool:=decide (ts.length<=30)&&(List.range ts.length).all (z8u ts)&&(z2a ts).all fun d=>decide (d<=8)
def vSk (s:TSk):Bool:=z3a s.1&&decide (zi5 s.1<=s.2.1.length)&&zjt s.2.1
theorem zut {k:Nat} {args:List Int} (h:args.all (zb5 k)=true):∀ n∈z2v args,0<=n/\n<k:=by
 intro n hn
 obtain⟨h1,h2,h3⟩:=mem_nulls.mp hn
 have:=List.all_eq_true.mp h _ h3
 unfold zb5 at this
 rw[Bool.and_eq_true]at this
 have hi:z8v (-1 - n)=true:=isNul_iff.mpr ⟨by omega,by omega⟩
 have he:z4v (-1 - n)=n:=by unfold z4v;rw[if_pos hi];omega
 rw[hi,Bool.true_and,he]at this
 have h4:=this.2
 simp at h4
 exact⟨h1,h4⟩
theorem z07x {ts:List z08} (h:zjt ts=true) {k:Nat} (hk:k<ts.length):z8u ts k=true:=by
 unfold zjt at h
 simp only[Bool.and_eq_true]at h
 exact List.all_eq_true.mp h.1.2 k (List.mem_range.mpr hk)
theorem z5g {s:TSk} (h:vSk s=true):z3a s.1=true/\zi5 s.1<=s.2.1.length/\zjt s.2.1=true:=by
 unfold vSk at h;simp at h;exact⟨h.1.1,h.1.2,h.2⟩
theorem zdz {ts:List z08} (h:zjt ts=true):ts.length<=30:=by unfold zjt at h;simp at h;exact h.1.1
theorem zno {g:Int->Int}:∀ {l:List Int} {s:Int},0<=s->l.foldl (fun m v=>ziu m (if z8v v then g (z4v v)else 0)) s=(z2v l).foldl (fun m k=>ziu m (g k)) s
 |[],_,_=>rfl
 | a::l,s,h=>by
   have hs:0<=ziu s (g (z4v a)):=by unfold ziu;split<;>omega
   have h0:ziu s 0=s:=by unfold ziu;split<;>omega
   rw[List.foldl_cons]
   cases hn:z8v a with
   | true=>
     have hno:z4v a = -1 - a:=by unfold z4v;rw[if_pos hn]
     have e:z2v (a::l)=(-1 - a)::z2v l:=by unfold z2v;simp[hn]
     rw[e,List.foldl_cons,if_pos rfl,zno hs,hno]
   | false=>
     have e:z2v (a::l)=z2v l:=by unfold z2v;simp[hn]
     rw[e,if_neg (by simp),h0];exact zno h
theorem z4i {s:TSk}:z2r s (vSk s):=zih _ _ (by
 unfold zbk
 have no:vSk s=false->((false,()):Bool×Unit)=(vSk s,()):=fun h=>by rw[h]
 have na:zjt s.2.1=false->((false,()):Bool×Unit)=(vSk s,()):=fun h=>no (by unfold vSk;rw[h];simp)
 refine z1i (fun k a=>∃ i:Nat,i+k=s.2.1.length/\a=((i:Int),(z2a (s.2.1.take i),()))/\i<=30/\(∀ j,j<i->z8u s.2.1 j=true)/\∀ d∈z2a (s.2.1.take i),d<=8) ?_ ?_ (n:=s.2.1.length) ⟨0,by omega,by simp[z2a],by omega,fun j hj=>by omega,by simp[z2a]⟩
 . rintro a ⟨i,hi,rfl,hi30,hok,hd⟩ X
   obtain rfl:i=s.2.1.length:=by omega
   rw[List.take_length]at hd
   refine z0g fun _=>bcN ?_
   have hT:zjt s.2.1=true:=by
    unfold zjt
    rw[decide_eq_true hi30,List.all_eq_true.mpr fun i hi=>hok i (List.mem_range.mp hi),List.all_eq_true.mpr fun d h=>decide_eq_true (hd d h)];rfl
   have hf:=z04x s.1
   refine⟨_,zeb,_,z2x,z1e (fun hv=>z0g fun _=>z09 (fun _=>z0g fun _=>?_) (fun h=>by omega)) (fun hv=>no (by unfold vSk;rw[hv];simp))⟩
   have ev:vSk s=decide (zi5 s.1<=s.2.1.length):=by unfold vSk;rw[hv,hT];simp
   rw[ev]
   refine z3t (fun h=>?_) (fun h=>z0g fun _=>?_)
   . have:zhd s.1=[]:=List.length_eq_zero_iff.mp (by omega)
     rw[decide_eq_true (nextN_le.mpr (by rw[this];simp))]
   . have hw:w64 ((zhd s.1).length - 1:Int)=(((zhd s.1).length - 1:Nat):Int):=by rw[z2l (by omega) (by omega)];omega
     rw[hw]
     have hlt:(zhd s.1).length - 1<(zhd s.1).length:=by omega
     refine inI hlt (z0g fun _=>?_)
     rw[z1m hlt]
     have hne:zhd s.1≠[]:=by intro e;rw[e]at h;simp at h
     have e1:zi5 s.1=(zhd s.1)[(zhd s.1).length - 1]+1:=by unfold zi5;rw[List.getLast?_eq_some_getLast hne,List.getLast_eq_getElem]
     rw[e1]
     exact congrArg (fun b=>(b,())) (decide_eq_decide.mpr (by omega))
 . rintro k a ⟨i,hi,rfl,hi30,hok,hd⟩ X hX
   have hlt:i<s.2.1.length:=by omega
   have hdl:(z2a (s.2.1.take i)).length=i:=by rw[z017,List.length_take];omega
   have nt':z8u s.2.1 i=false->((false,()):Bool×Unit)=(vSk s,()):=fun h=>na (by
    unfold zjt
    have:(List.range s.2.1.length).all (z8u s.2.1)=false:=by
     rw[Bool.eq_false_iff];intro hall
     have:=List.all_eq_true.mp hall i (List.mem_range.mpr hlt);rw[h]at this;cases this
    rw[this];simp)
   have hta:=z6p hlt
   refine z0g fun hl=>bcI hlt ?_
   simp only
   rw[z1m hlt]
   refine z1i (fun k a=>∃ j:Nat,j+k=s.2.1[i].2.2.1.length/\a=(mx (fun k=>(z2a (s.2.1.take i)).getD k.toNat 0) (z2v (s.2.1[i].2.2.1.take j)),((j:Int),()))/\(s.2.1[i].2.2.1.take j).all (zb5 i)=true) ?_ ?_ (n:=s.2.1[i].2.2.1.length) ⟨0,by omega,by simp[z2v,mx],by simp⟩
   rotate_left
   . rintro k a ⟨j,hj,rfl,hall⟩ Y hY
     have hjl:j<s.2.1[i].2.2.1.length:=by omega
     refine inI hlt (z0g fun _=>bcI hjl (inI hlt (inI hjl ?_)))
     simp only
     rw[z1m hjl,z02 (by omega)]
     have bad:zb5 i s.2.1[i].2.2.1[j]=false->((false,()):Bool×Unit)=(vSk s,()):=fun h=>nt' (by
      unfold z8u
      rw[hta]
      have:s.2.1[i].2.2.1.all (zb5 i)=false:=by
       rw[Bool.eq_false_iff];intro hall
       have:=List.all_eq_true.mp hall _ (List.getElem_mem hjl);rw[h]at this;cases this
      rw[this];simp)
     have hnl:z2v (s.2.1[i].2.2.1.take (j+1))=z2v (s.2.1[i].2.2.1.take j)++(if z8v s.2.1[i].2.2.1[j] then[-1 - s.2.1[i].2.2.1[j]] else[]):=by
      rw[z07 hjl,ze2];congr 1
      unfold z2v
      cases h:z8v s.2.1[i].2.2.1[j]<;>simp[h]
     refine⟨_,_,z9z,_,z9w,z0u (fun h=>bad (by unfold zb5;rw[h];rfl)) (fun hv=>?_)⟩
     have hnext:zb5 i s.2.1[i].2.2.1[j]=true->(s.2.1[i].2.2.1.take (j+1)).all (zb5 i)=true:=fun h=>by
      rw[z07 hjl,List.all_append,hall];simp[h]
     refine z1e (fun hn=>?_) (fun hn=>?_)
     . have hno:z4v s.2.1[i].2.2.1[j] = -1 - s.2.1[i].2.2.1[j]:=by unfold z4v;rw[if_pos hn]
       have hr:=isNul_iff.mp hn
       refine z09 (fun h=>bad ?_) (fun h=>?_)
       . unfold zb5;rw[hv,hn,decide_eq_true (show(i:Int)<=z4v s.2.1[i].2.2.1[j] from h)];rfl
       . rw[hn]
         refine bcT ⟨⟨by rw[hno];omega,by rw[hdl];omega⟩,hY _ ⟨j+1,by omega,?_,hnext ?_⟩⟩
         . rw[hnl,if_pos hn,z0ei,hno]
         . unfold zb5;rw[hv,hn,decide_eq_false (show ¬ (i:Int)<=z4v s.2.1[i].2.2.1[j] by omega)];rfl
     . rw[hn]
       refine bcF (hY _ ⟨j+1,by omega,?_,hnext ?_⟩)
       . rw[hnl,if_neg (by rw[hn];simp),List.append_nil]
       . unfold zb5;rw[hv,hn];rfl
   rintro a ⟨j,hj,rfl,hall⟩ Y
   obtain rfl:j=s.2.1[i].2.2.1.length:=by omega
   refine inI hlt (z0g fun _=>bcN ?_)
   simp only[List.take_length]at hall ⊢
   have hmx:=zi6 (fun k=>(z2a (s.2.1.take i)).getD k.toNat 0) (z2v s.2.1[i].2.2.1)
   have hmx8:mx (fun k=>(z2a (s.2.1.take i)).getD k.toNat 0) (z2v s.2.1[i].2.2.1)<=8:=mx_le.mpr ⟨by omega,fun k hk=>by
    have hr:=zut hall k hk
    have hkl:k.toNat<(z2a (s.2.1.take i)).length:=by omega
    rw[z1a hkl];exact hd _ (List.getElem_mem hkl)⟩
   have hw:w64 (mx (fun k=>(z2a (s.2.1.take i)).getD k.toNat 0) (z2v s.2.1[i].2.2.1)+1)=z8z (z2a (s.2.1.take i)) s.2.1[i].2.2.1:=by rw[z2l (by omega) (by omega)];rfl
   rw[hw]
   refine⟨by simp only[z0v,List.length_cons,List.length_nil];omega,?_⟩
   have hsn:z2a (s.2.1.take i)++[z8z (z2a (s.2.1.take i)) s.2.1[i].2.2.1]=z2a (s.2.1.take (i+1)):=by rw[z07 hlt,z8s]
   have hmem:z8z (z2a (s.2.1.take i)) s.2.1[i].2.2.1∈z2a s.2.1:=by
    have:∀(l m:List z08),∃ r,z2a (l++m)=z2a l++r:=by
     intro l m
     induction m generalizing l with
     |nil=>exact⟨[],by simp⟩
     | cons a m ih=>
       obtain⟨r,hr⟩:=ih (l++[a])
       rw[List.append_assoc,z8s,List.append_assoc]at hr
       exact⟨_,hr⟩
    obtain⟨r,hr⟩:=this (s.2.1.take (i+1)) (s.2.1.drop (i+1))
    rw[List.take_append_drop,<-hsn]at hr
    rw[hr];simp
   refine z09 (fun h=>na ?_) (fun h8=>inI hlt (z0g fun _=>z09 (fun h=>nt' ?_) (fun h5=>z09 (fun h=>na ?_) (fun h30=>?_))))
   . unfold zjt
     have:((z2a s.2.1).all fun d=>decide (d<=8))=false:=by
      rw[Bool.eq_false_iff];intro hall'
      have:=List.all_eq_true.mp hall' _ hmem
      have:z8z (z2a (s.2.1.take i)) s.2.1[i].2.2.1<=8:=by simpa using this
      unfold z8z at this;omega
     rw[this];simp
   . unfold z8u;rw[hta,decide_eq_false (show ¬ s.2.1[i].2.2.1.length<=5 by omega)];simp
   . unfold zjt;rw[decide_eq_false (show ¬ s.2.1.length<=30 by omega)];simp
   . refine zbf i (fun j=>decide (zev s.2.1 j=s.2.1[i])) (fun j=>((j:Int),())) (KT:=(s.2.1.take i).any (fun t=>decide (t=s.2.1[i]))=true) (KF:=(s.2.1.take i).any (fun t=>decide (t=s.2.1[i]))=false) ?_ ?_ ?_ ?_
     . intro j hj Z _ q1 q2
       have hjl:j<s.2.1.length:=by omega
       have bad:s.2.1[j]=s.2.1[i]->((false,()):Bool×Unit)=(vSk s,()):=fun h=>nt' (by
        have:=q1 (by rw[z6p hjl];exact decide_eq_true h)
        unfold z8u;rw[hta,this];simp)
       have good:s.2.1[j]≠s.2.1[i]->Z (((j+1:Nat):Int),()):=fun h=>q2 (by rw[z6p hjl];exact decide_eq_false h)
       refine bcI hj (inI hjl (inI hlt ?_))
       simp only
       rw[z1m hjl,z02 (by omega)]
       refine z3t (fun h1=>inI hjl (inI hlt (z3t (fun h2=>inI hjl (inI hlt ⟨_,zlr,z3t (fun h3=>bad (Prod.ext h1 (Prod.ext h2 (Prod.ext (cmpL_zero.mp h3) rfl)))) (fun h3=>good fun e=>h3 (cmpL_zero.mpr (by rw[e])))⟩)) (fun h=>good fun e=>h (by rw[e]))))) (fun h=>good fun e=>h (by rw[e]))
     . intro Z hany
       refine bcN (inI hlt ⟨_,z7m,z0u (fun h=>nt' (by unfold z8u;rw[hta,h];simp)) (fun hd1=>inI hlt ⟨_,z7m,z0u (fun h=>nt' (by unfold z8u;rw[hta,h];simp)) (fun hd2=>?_)⟩)⟩)
       rw[z02 (by omega)]
       refine hX _ ⟨i+1,by omega,by rw[hsn],by omega,fun j hj=>?_,fun d hdm=>?_⟩
       . by_cases hji:j=i
         . subst hji
           unfold z8u
           rw[hta,hd1,hd2,hall,hany,decide_eq_true (show s.2.1[j].2.2.1.length<=5 by omega)];rfl
         . exact hok j (by omega)
       . rw[<-hsn]at hdm
         rcases List.mem_append.mp hdm with hdm|hdm
         . exact hd d hdm
         . have:d=z8z (z2a (s.2.1.take i)) s.2.1[i].2.2.1:=by simpa using hdm
           rw[this];unfold z8z;omega
     . rintro⟨j,hj,hp⟩
       have hjl:j<s.2.1.length:=by omega
       rw[z6p hjl]at hp
       refine List.any_eq_true.mpr ⟨s.2.1[j],?_,hp⟩
       have hjt:j<(s.2.1.take i).length:=by rw[List.length_take];omega
       have:(s.2.1.take i)[j]=s.2.1[j]:=by simp
       rw[<-this];exact List.getElem_mem hjt
     . intro h
       rw[Bool.eq_false_iff];intro hany
       obtain⟨t,ht,hp⟩:=List.any_eq_true.mp hany
       obtain⟨j,hj,rfl⟩:=List.mem_iff_getElem.mp ht
       rw[List.length_take]at hj
       have:=h j (by omega)
       rw[z6p (by omega)]at this
       have e:(s.2.1.take i)[j]'(by rw[List.length_take];omega)=s.2.1[j]'(by omega):=by simp
       rw[e]at hp
       rw[hp]at this;cases this)
theorem zw7 {v:Int} {k:Nat}:z82 v k (!zb5 k v):=zwo _ _ _ (by
 unfold zm6
 refine⟨_,_,zme,_,z9x,z0u (fun h=>by unfold zb5;rw[h];rfl) (fun hv=>z1e (fun hn=>?_) (fun hn=>by unfold zb5;rw[hv,hn];rfl))⟩
 unfold zb5
 rw[hv,hn]
 simp)
theorem z01y {t:z08} {k:Nat}:zks t k (inR t.1 0 4&&inR t.2.1 0 4&&decide (t.2.2.1.length<=5)&&t.2.2.1.all (zb5 k)):=z01g _ _ _ (by
 unfold zqz
 refine⟨_,z96,z0u (fun h=>by rw[h];rfl) (fun h1=>⟨_,z96,z0u (fun h=>by rw[h];simp) (fun h2=>z0g fun _=>z09 (fun h=>?_) (fun h3=>⟨_,z7z (fun v=>!zb5 k v) (fun _ _=>zw7),?_⟩))⟩)⟩
 . rw[decide_eq_false (show ¬ t.2.2.1.length<=5 by omega)];simp
 . rw[h1,h2,decide_eq_true (show t.2.2.1.length<=5 by omega),z3y];simp)
theorem z02y {x y:z08}:zd1 x y (decide (x=y)):=z023 _ _ _ (by
 unfold zr9
 have no:¬ x=y->((false,()):Bool×Unit)=(decide (x=y),()):=fun h=>by rw[decide_eq_false h]
 refine z3t (fun h1=>z3t (fun h2=>⟨_,ze5,?_⟩) (fun h=>no fun e=>h (by rw[e]))) (fun h=>no fun e=>h (by rw[e]))
 obtain⟨a,b,c,_⟩:=x;obtain⟨a',b',c',_⟩:=y
 simp only at h1 h2;simp[h1,h2])
def zbi (ts:List z08) (t:z08):Int:=if z03 (fun x=>decide (x=t)) ts<ts.length then(z03 (fun x=>decide (x=t)) ts:Int)else -1
theorem zsh {ts:List z08} {t:z08}:zia ts t (zbi ts t):=z0aa _ _ _ (by
 unfold zz4
 exact⟨_,z6t (fun x=>decide (x=t)) (fun _ _=>z02y),rfl⟩)
theorem zyy {α:Type} {p:α->Bool} {l:List α} {i:Nat} (h:i<l.length) (hp:p l[i]=true):z03 p l=i↔(l.take i).any p=false:=by
 constructor
 . intro he
   rw[Bool.eq_false_iff];intro hany
   obtain⟨t,ht,hpt⟩:=List.any_eq_true.mp hany
   obtain⟨j,hj,rfl⟩:=List.mem_iff_getElem.mp ht
   rw[List.length_take]at hj
   have:=z9g (p:=p) (l:=l) (i:=j) (by omega) (by omega)
   have e:(l.take i)[j]'(by rw[List.length_take];omega)=l[j]'(by omega):=by simp
   rw[e]at hpt;rw[this]at hpt;cases hpt
 . intro hany
   rcases Nat.lt_trichotomy (z03 p l) i with h1|h1|h1
   . have h2:=z9c (p:=p) (l:=l) (by omega)
     have:(l.take i).any p=true:=List.any_eq_true.mpr ⟨l[z03 p l],by
      have hj:z03 p l<(l.take i).length:=by rw[List.length_take];omega
      have e:(l.take i)[z03 p l]=l[z03 p l]'(by omega):=by simp
      rw[<-e];exact List.getElem_mem hj,h2⟩
     rw[hany]at this;cases this
   . exact h1
   . have:=z9g (p:=p) h h1;rw[hp]at this;cases this
theorem z08i {ts:List z08} (hl:ts.length<=30) (ha:∀ k (h:k<ts.length),ts[k].2.2.1.all (zb5 k)=true/\ts[k].2.2.1.length<=5):zrz ts (z2a ts):=z07l _ _ (by
 unfold zxq
 refine z0g fun _=>?_
 have hbnd0:∀(n:Nat) (l:List z08),l.length=n->∀ d∈z2a l,1<=d/\d<=l.length:=by
  intro n
  induction n with
  |zero=>intro l hl;obtain rfl:=List.length_eq_zero_iff.mp hl;simp[z2a]
  | succ n ih0=>
    intro l0 hl d hd
    have hne:l0≠[]:=by intro e;rw[e]at hl;simp at hl
    obtain⟨l,t,rfl⟩:∃ l t,l0=l++[t]:=⟨_,_,(List.dropLast_concat_getLast hne).symm⟩
    have ih:=ih0 l (by simpa using hl)
    rw[z8s]at hd
    rw[List.length_append]
    rcases List.mem_append.mp hd with hd|hd
    . have:=ih d hd;simp;omega
    . have e:d=z8z (z2a l) t.2.2.1:=by simpa using hd
      rw[e]
      unfold z8z
      have h0:=zi6 (fun k=>(z2a l).getD k.toNat 0) (z2v t.2.2.1)
      have:mx (fun k=>(z2a l).getD k.toNat 0) (z2v t.2.2.1)<=l.length:=mx_le.mpr ⟨by omega,fun k _=>by
       by_cases hk:k.toNat<(z2a l).length
       . rw[z1a hk];exact(ih _ (List.getElem_mem hk)).2
       . rw[List.getD_eq_getElem?_getD,List.getElem?_eq_none (by omega)];simp⟩
      simp only[List.length_cons,List.length_nil];omega
 have hbnd:=fun l=>hbnd0 _ l rfl
 refine z0x ts.length (fun i=>((i:Int),(z2a (ts.take i),()))) (by simp[z2a]) ?_ ?_
 . intro i hi X hX
   have hdl:(z2a (ts.take i)).length=i:=by rw[z017,List.length_take];omega
   have hai:=ha i hi
   refine bcI hi (inI hi ⟨_,zn5 (by simp only;rw[z1m hi];omega),z0g fun hsl=>?_⟩)
   simp only at hsl ⊢
   rw[z1m hi]at hsl ⊢
   refine z0x (zdq (z2v ts[i].2.2.1)).length (fun j=>(((zdq (z2v ts[i].2.2.1)).take j).foldl (fun m k=>ziu m ((z2a (ts.take i)).getD k.toNat 0)) 0+1,((j:Int),()))) (by simp) ?_ ?_
   . intro j hj Y hY
     have hm:=mem_sset.mp (List.getElem_mem hj)
     have hr:=zut hai.1 _ hm
     have hkl:(zdq (z2v ts[i].2.2.1))[j].toNat<(z2a (ts.take i)).length:=by omega
     refine bcI hj (inI hj ?_)
     simp only
     rw[z1m hj,z02 (by omega)]
     refine⟨⟨hr.1,by rw[hdl];exact hr.2⟩,?_⟩
     have hb:=hbnd (ts.take i) _ (List.getElem_mem hkl)
     rw[List.length_take]at hb
     have e:(z2a (ts.take i)).getD (zdq (z2v ts[i].2.2.1))[j].toNat 0=(z2a (ts.take i))[(zdq (z2v ts[i].2.2.1))[j].toNat]:=z1a hkl
     rw[z2l (by rw[e];omega) (by rw[e];omega)]
     rw[z07 hj,List.foldl_append]at hY
     rw[zx0]
     exact hY
   . intro Y
     refine bcN ?_
     simp only[List.take_length]
     have hmx:(zdq (z2v ts[i].2.2.1)).foldl (fun m k=>ziu m ((z2a (ts.take i)).getD k.toNat 0)) 0+1=z8z (z2a (ts.take i)) ts[i].2.2.1:=by
      unfold z8z
      have:=z0be (f:=fun k=>(z2a (ts.take i)).getD k.toNat 0) (l:=zdq (z2v ts[i].2.2.1)) (m:=z2v ts[i].2.2.1) (fun k=>mem_sset)
      rw[<-this];rfl
     rw[hmx,z02 (by omega)]
     refine⟨by simp only[z0v,List.length_cons,List.length_nil];omega,?_⟩
     rw[z07 hi,z8s]at hX
     exact hX
 . intro X
   refine bcN ?_
   simp only[List.take_length])
theorem zxe {d:Int}:z80 d (decide (d > 8)):=zw4 _ _ (by unfold zn0;rfl)
theorem z00s {ts:List z08}:zl7 ts (zjt ts):=z01a _ _ (by
 unfold zqa
 have no:zjt ts=false->((false,()):Bool×Unit)=(zjt ts,()):=fun h=>by rw[h]
 refine z0g fun _=>z09 (fun h=>no (by unfold zjt;rw[decide_eq_false (show ¬ ts.length<=30 by omega)];simp)) (fun hl=>z0g fun _=>?_)
 have tOk:∀ k (h:k<ts.length),z8u ts k=((inR ts[k].1 0 4&&inR ts[k].2.1 0 4&&decide (ts[k].2.2.1.length<=5)&&ts[k].2.2.1.all (zb5 k))&&decide (zbi ts ts[k]=k)):=by
  intro k h
  have e:(!(ts.take k).any (fun t=>decide (t=ts[k])))=decide (zbi ts ts[k]=k):=by
   have hf:=zyy (p:=fun t=>decide (t=ts[k])) h (by simp)
   cases hany:(ts.take k).any (fun t=>decide (t=ts[k]))with
   | false=>
     have:=hf.mpr hany
     unfold zbi
     rw[this,if_pos h];simp
   | true=>
     have hne:z03 (fun t=>decide (t=ts[k])) ts≠k:=fun e=>by rw[hf.mp e]at hany;cases hany
     unfold zbi
     split
     . rw[decide_eq_false (by omega)];rfl
     . rw[decide_eq_false (by omega)];rfl
  unfold z8u
  rw[z6p h,e]
 refine zbf ts.length (fun k=>!z8u ts k) (fun k=>((k:Int),())) (KT:=zjt ts=false) (KF:=∀ k,k<ts.length->z8u ts k=true) ?_ ?_ ?_ ?_
 . intro i hi X _ q1 q2
   refine bcI hi (inI hi ⟨_,z01y,?_⟩)
   simp only
   rw[z1m hi,z02 (by omega)]
   rw[tOk i hi]at q1 q2
   refine z0u (fun h=>no (q1 (by rw[h];rfl))) (fun h=>⟨_,zsh,zbt (fun h2=>no (q1 (by rw[decide_eq_false h2];simp))) (fun h2=>q2 (by rw[h,decide_eq_true h2];rfl))⟩)
 . intro X hall
   refine bcN ⟨_,z08i (by omega) (fun k hk=>?_),_,z7c (fun d=>decide (d > 8)) (fun _ _=>zxe),?_⟩
   . have:=hall k hk
     rw[tOk k hk]at this
     simp only[Bool.and_eq_true,decide_eq_true_eq]at this
     exact⟨this.1.2,this.1.1.2⟩
   . have e:(!(z2a ts).any fun d=>decide (d > 8))=(z2a ts).all fun d=>decide (d<=8):=by
      have h1:=z3y (p:=fun d:Int=>decide (d<=8)) (l:=z2a ts)
      have h2:(fun d:Int=>!decide (d<=8))=fun d=>decide (d > 8):=by funext d;by_cases h:d<=8<;>simp[h]<;>omega
      rw[h2]at h1;rw[h1];simp
     rw[e]
     unfold zjt
     rw[decide_eq_true (show ts.length<=30 by omega),List.all_eq_true.mpr fun k hk=>hall k (List.mem_range.mp hk)];rfl
 . rintro⟨k,hk,hp⟩
   unfold zjt
   have:(List.range ts.length).all (z8u ts)=false:=by
    rw[Bool.eq_false_iff];intro hall
    have:=List.all_eq_true.mp hall k (List.mem_range.mpr hk);rw[nt hp]at this;cases this
   rw[this];simp
 . intro h k hk;exact nf (h k hk))
theorem z3k {s:TSk}:z23 s (vSk s):=zhk _ _ (by
 unfold zbj
 refine⟨_,z72,z1e (fun h1=>z0g fun _=>⟨_,z01s (by have:=znq h1;omega),z09 (fun h2=>⟨_,z00s,?_⟩) (fun h2=>?_)⟩) (fun h1=>?_)⟩
 . unfold vSk;rw[h1,decide_eq_true h2];rfl
 . unfold vSk;rw[decide_eq_false h2];simp
 . unfold vSk;rw[h1];rfl)
def sumA (l:List z0s):Int:=l.foldl (fun a r=>a+r.2.1) 0
theorem zxd:∀ {l:List z0s} {a:Int},(∀ r∈l,zpu r=true)->a<=l.foldl (fun a r=>a+r.2.1) a/\l.foldl (fun a r=>a+r.2.1) a<=a+3 * l.length
 |[],a,_=>by simp
 | x::l,a,h=>by
   have h1:=zj9 (h x (by simp))
   have h2:=zxd (l:=l) (a:=a+x.2.1) fun r hr=>h r (by simp[hr])
   rw[List.foldl_cons,List.length_cons];omega
def z06b (l:List z0s) (r p:Int):Int:=if zag l&&inR r 0 ((l.length:Int) - 1)&&inR p 0 (zsk l r - 1)then sumA (l.take r.toNat)+p else -1
theorem zpa {l:List z0s} {r p:Int}:zbx l r p (z06b l r p):=zp6 _ _ _ _ (by
 unfold zh7
 refine⟨_,z2c,z0u (fun h=>by unfold z06b;rw[h];rfl) (fun hv=>z0g fun _=>⟨_,z7m,?_⟩)⟩
 have hl:=zfp hv
 rw[z2l (by omega) (by omega)]
 refine z0u (fun h=>by unfold z06b;rw[h];simp) (fun h1=>?_)
 have hr:=inR_iff.mp h1
 obtain⟨n,rfl⟩:∃ n:Nat,r=n:=⟨r.toNat,by omega⟩
 have hn:n<l.length:=by omega
 have ha:=zj9 (zii hv (List.getElem_mem hn))
 refine inI hn ⟨_,z7m,?_⟩
 rw[z1m hn,z2l (by omega) (by omega)]
 have har:zsk l n=l[n].2.1:=by unfold zsk;rw[z1m hn]
 refine z0u (fun h=>by unfold z06b;rw[har,h];simp) (fun h2=>?_)
 have hp:=inR_iff.mp h2
 have hb:=fun i=>zxd (l:=l.take i) (a:=0) fun r hr=>zii hv (List.mem_of_mem_take hr)
 refine z0x n (fun i=>(sumA (l.take i),((i:Int),()))) (by simp[sumA]) ?_ ?_
 . intro i hi X hX
   have hil:i<l.length:=by omega
   have hbi:=hb (i+1)
   refine bcI hi (inI hil ?_)
   simp only
   rw[z07 hil]at hX hbi
   unfold sumA at hX ⊢
   rw[List.foldl_append]at hX hbi
   simp only[List.foldl_cons,List.foldl_nil,List.length_append,List.length_take,List.length_cons,List.length_nil]at hX hbi
   rw[z1m hil,z02 (by omega),z2l (by omega) (by omega)]
   exact hX
 . intro X
   have hbi:=hb n
   rw[List.length_take]at hbi
   refine bcN ?_
   unfold z06b
   rw[hv,h1,har,h2]
   simp only
   unfold sumA
   rw[z2l (by omega) (by omega)];rfl)
theorem z8f {d:z0b} (h1:(d.1.flatMap (·.2.1)).length<=1073741824) (h2:(d.2.1.flatMap (·.2.1)).length<=1073741824):z3w d (frV d):=zjr _ _ (by
 unfold zc2
 have hv:=zj7 d.2.1
 refine⟨_,zb9 h1,_,zb9 h2,?_⟩
 refine z0x (vars d.2.1).length (fun i=>((i:Int),(((vars d.2.1).take i).filter (fun v=>decide (v∈vars d.1)),()))) (by simp) ?_ ?_
 . intro i hi X hX
   refine z0g fun _=>bcI hi (inI hi ⟨_,zq2,?_⟩)
   simp only
   rw[z1m hi,z02 (by omega)]
   have e:((vars d.2.1).take (i+1)).filter (fun v=>decide (v∈vars d.1))=((vars d.2.1).take i).filter (fun v=>decide (v∈vars d.1))++(if (vars d.2.1)[i]∈vars d.1 then[(vars d.2.1)[i]] else[]):=by
    rw[z07 hi,List.filter_append]
    by_cases h:(vars d.2.1)[i]∈vars d.1<;>simp[h]
   rw[e]at hX
   have hb:=List.length_filter_le (fun v=>decide (v∈vars d.1)) ((vars d.2.1).take i)
   rw[List.length_take]at hb
   refine z1e (fun h=>inI hi ⟨by simp only[z0v,List.length_cons,List.length_nil];omega,?_⟩) (fun h=>?_)
   . have h:(vars d.2.1)[i]∈vars d.1:=by simpa using h
     rw[if_pos h]at hX;exact hX
   . have h:¬ (vars d.2.1)[i]∈vars d.1:=by simpa using h
     rw[if_neg h,List.append_nil]at hX;exact hX
 . intro X
   refine z0g fun _=>bcN ?_
   simp only[List.take_length]
   rfl)
theorem zc6 {d:z0b} (h1:(d.1.flatMap (·.2.1)).length<=1073741824) (h2:(d.2.1.flatMap (·.2.1)).length<=1073741824):z52 d (frV d):=zjy _ _ (by
 unfold zc8
 exact⟨_,zgy h1 h2,by rw[z0c9]⟩)
def placeG (l:List z0s) (a:z00) (v:Int) (out:List Int) (j:Nat):List Int:=if a.2.1.getD j 0 == v then out++[z06b l a.1 j] else out
def zs3 (l:List z0s) (v:Int) (out:List Int) (a:z00):List Int:=(List.range a.2.1.length).foldl (placeG l a v) out
def places (l:List z0s) (ats:List z00) (v:Int):List Int:=ats.foldl (zs3 l v) []
theorem zo1 (l:List z0s) (a:z00) (v:Int) (out:List Int):∀ n:Nat,((List.range n).foldl (placeG l a v) out).length<=out.length+n
 |0=>by simp
 | n+1=>by
   have:=zo1 l a v out n
   rw[List.range_succ,List.foldl_append,List.foldl_cons,List.foldl_nil]
   unfold placeG at this ⊢
   split
   . rw[List.length_append];simp only[List.length_cons,List.length_nil];omega
   . omega
theorem z05t (l:List z0s) (v:Int) (out:List Int) (a:z00):(zs3 l v out a).length<=out.length+a.2.1.length:=zo1 l a v out _
theorem zkq (l:List z0s) (v:Int):∀(ats:List z00) (out:List Int),(ats.foldl (zs3 l v) out).length<=out.length+(ats.flatMap (·.2.1)).length
 |[],out=>by simp
 | a::ats,out=>by
   have h1:=zkq l v ats (zs3 l v out a)
   have h2:=z05t l v out a
   rw[List.foldl_cons,List.flatMap_cons,List.length_append];omega
theorem zak (l:List z0s) (ats:List z00) (v:Int):(places l ats v).length<=(ats.flatMap (·.2.1)).length:=by
 have:=zkq l v ats []
 simpa [places]using this
theorem zi9 {l:List z0s} {ats:List z00} {v:Int} (hb:(ats.flatMap (·.2.1)).length<=1073741824):zb6 l ats v (places l ats v):=zza _ _ _ _ (by
 unfold zoh
 refine zbg ats (zs3 l v) [] (fun i m=>((i:Int),(m,()))) ?_ ?_
 . intro i hi X hX
   have hs:=zf3 (fun a:z00=>a.2.1) hi
   have hm:=zkq l v (ats.take i) []
   rw[List.length_nil]at hm
   refine z0g fun _=>bcI hi ?_
   simp only
   rw[z1m hi]
   generalize (ats.take i).foldl (zs3 l v) []=m0 at hX hm ⊢
   unfold zs3 at hX
   refine z0x ats[i].2.1.length (fun j=>((j:Int),((List.range j).foldl (placeG l ats[i] v) m0,()))) (by simp) ?_ ?_
   . intro j hj Y hY
     have hl:=zo1 l ats[i] v m0 j
     refine inI hi (z0g fun _=>bcI hj (inI hi (inI hj ?_)))
     simp only
     rw[z02 (by omega)]
     rw[List.range_succ,List.foldl_append,List.foldl_cons,List.foldl_nil]at hY
     rw[placeG.eq_def]at hY
     refine z1e (fun h=>inI hi ⟨_,zpa,⟨by simp only[z0v,List.length_cons,List.length_nil];omega,?_⟩⟩) (fun h=>?_)
     . rw[if_pos (show(ats[i].2.1.getD j 0 == v)=true from h)]at hY;exact hY
     . rw[show(ats[i].2.1.getD j 0 == v)=false from h]at hY;exact hY
   . intro Y
     refine inI hi (z0g fun _=>bcN ?_)
     simp only
     rw[z02 (by omega)];exact hX
 . intro X
   exact z0g fun _=>bcN rfl)
theorem z88 {α σ:Type} {μ:σ->Nat} {g:σ->α->σ} {c:Nat}:∀ {l:List α} {s:σ},(∀ s,∀ a∈l,μ (g s a)<=μ s+c)->μ (l.foldl g s)<=μ s+l.length * c
 |[],s,_=>by simp
 | a::l,s,h=>by
   have h1:=h s a (by simp)
   have h2:=z88 (s:=g s a) fun s b (hb:b∈l)=>h s b (by simp[hb])
   rw[List.foldl_cons,List.length_cons,Nat.add_mul];omega
theorem z1g {α σ τ:Type} {B:(τ->Prop)->τ->Prop} (l:List α) (g:σ->α->σ) (s0:σ) (e:Nat->σ->τ) (μ:σ->Nat) (c N:Nat) (hN:l.length<=N) (hg:∀ s,∀ a∈l,μ (g s a)<=μ s+c)
  (hs:∀ i (h:i<l.length) (s:σ) (X:τ->Prop),μ s<=μ s0+N * c->X (e (i+1) (g s l[i]))->B X (e i s))
  (hf:∀ X:τ->Prop,μ (l.foldl g s0)<=μ s0+N * c->B X (e l.length (l.foldl g s0))):z0f B (e 0 s0):=by
 have hb:∀ i,i<=l.length->μ ((l.take i).foldl g s0)<=μ s0+N * c:=fun i hi=>by
  have h1:=z88 (μ:=μ) (g:=g) (c:=c) (l:=l.take i) (s:=s0) fun s a ha=>hg s a (List.mem_of_mem_take ha)
  rw[List.length_take,Nat.min_eq_left hi]at h1
  have:i * c<=N * c:=Nat.mul_le_mul_right c (by omega)
  omega
 refine zbg l g s0 e (fun i hi X hX=>hs i hi _ X (hb i (by omega)) hX) (fun X=>hf X ?_)
 have:=hb l.length (Nat.le_refl _)
 rwa [List.take_length]at this
def zwe (d:z0b):Prop:=(d.1.flatMap (·.2.1)).length<=6/\(d.2.1.flatMap (·.2.1)).length<=6
theorem z03x {l:List z0s} {d:z0b} (h:ziz l d=true):zwe d:=by
 have:=z6a h;exact⟨this.2.2.2.2.2.1,this.2.2.2.2.2.2⟩
theorem zs2 {d:z0b} (h:zwe d):(exV d).length<=6:=Nat.le_trans (List.length_filter_le _ _) (Nat.le_trans (zj7 _) h.2)
theorem znr {d:z0b} (h:zwe d):(frV d).length<=6:=Nat.le_trans (List.length_filter_le _ _) (Nat.le_trans (zj7 _) h.2)
def putE (e:List z2t) (x:z2t):List z2t:=if x∈e then e else e++[x]
def ed (f:Int) (b:Bool) (ps:List Int) (out:List z2t):List z2t:=ps.foldl (fun out t=>putE out (f,t,b,())) out
def z073 (l:List z0s) (d:z0b) (v:Int) (out:List z2t) (f:Int):List z2t:=(exV d).foldl (fun out n=>ed f true (places l d.2.1 n) out) (ed f false (places l d.2.1 v) out)
def gVar (l:List z0s) (d:z0b) (out:List z2t) (v:Int):List z2t:=(places l d.1 v).foldl (z073 l d v) out
def gDep (l:List z0s) (out:List z2t) (d:z0b):List z2t:=(frV d).foldl (gVar l d) out
def ztu (l:List z0s) (ds:List z0b):List z2t:=if zjm l ds then ds.foldl (gDep l) [] else[]
theorem zvz (e:List z2t) (x:z2t):(putE e x).length<=e.length+1:=by unfold putE;split<;>simp
theorem z03m (f:Int) (b:Bool) (ps:List Int) (out:List z2t):(ed f b ps out).length<=out.length+ps.length:=by
 have:=z88 (μ:=List.length) (g:=fun out t=>putE out (f,t,b,())) (c:=1) (l:=ps) (s:=out) fun s a _=>zvz _ _
 unfold ed;omega
theorem zyn {l:List z0s} {d:z0b} (h:zwe d) (v:Int) (out:List z2t) (f:Int):(z073 l d v out f).length<=out.length+42:=by
 have h1:=z03m f false (places l d.2.1 v) out
 have h2:=zak l d.2.1 v
 have h3:=z88 (μ:=List.length) (g:=fun out n=>ed f true (places l d.2.1 n) out) (c:=6) (l:=exV d) (s:=ed f false (places l d.2.1 v) out) fun s a _=>by
  have h1:=z03m f true (places l d.2.1 a) s
  have h2:=zak l d.2.1 a
  have:=h.2;omega
 have h4:=zs2 h
 have:=h.2
 unfold z073;omega
theorem z045 {l:List z0s} {d:z0b} (h:zwe d) (out:List z2t) (v:Int):(gVar l d out v).length<=out.length+252:=by
 have h1:=z88 (μ:=List.length) (g:=z073 l d v) (c:=42) (l:=places l d.1 v) (s:=out) fun s a _=>zyn h v s a
 have h2:=zak l d.1 v
 have:=h.1
 unfold gVar;omega
theorem z0bb {l:List z0s} {d:z0b} (h:zwe d) (out:List z2t):(gDep l out d).length<=out.length+1512:=by
 have h1:=z88 (μ:=List.length) (g:=gVar l d) (c:=252) (l:=frV d) (s:=out) fun s a _=>z045 h s a
 have h2:=znr h
 unfold gDep;omega
theorem z0cn (x y:z2t):eqD (.pair (.int .i64) (.pair (.int .i64) (.pair .bool .unit))) x y=decide (x=y):=by
 obtain⟨a,b,c,_⟩:=x;obtain⟨a',b',c',_⟩:=y
 show((a == a')&&((b == b')&&((c == c')&&true)))=_
 by_cases h1:a=a'<;>by_cases h2:b=b'<;>by_cases h3:c=c'<;>simp[h1,h2,h3]
theorem zmr {e:List z2t} {x:z2t} (h:e.length<=1073741824):zck e x (putE e x):=zwu _ _ _ (by
 unfold zlg
 refine z71 e (fun y=>decide (y=x)) (fun i=>((i:Int),())) (KT:=x∈e) (KF:=¬ x∈e) ?_ ?_ ?_ ?_
 . intro i hi X h1 h2
   refine z0g fun _=>bcI hi (inI hi ?_)
   simp only
   rw[z1m hi,z02 (by omega)]
   rw[z0cn]
   refine z1e (fun h=>?_) (fun h=>h2 h)
   have:=h1 h
   unfold putE;rw[if_pos this]
 . intro X hn
   refine z0g fun _=>bcN ⟨by simp only[z0v,List.length_cons,List.length_nil];omega,?_⟩
   unfold putE;rw[if_neg hn]
 . intro h
   obtain⟨y,hy,hp⟩:=List.any_eq_true.mp h
   have:y=x:=by simpa using hp
   rw[<-this];exact hy
 . intro h hm
   have:e.any (fun y=>decide (y=x))=true:=List.any_eq_true.mpr ⟨x,hm,by simp⟩
   rw[h]at this;cases this)
theorem zoy {l:List z0s} {ds:List z0b}:zc0 l ds (ztu l ds):=zoz _ _ _ (by
 unfold zh2 ztu
 cases hv:zjm l ds with
 | false=>
   refine z0x 0 (fun _=>((0:Int),(([]:List z2t),()))) rfl (fun i hi=>by omega) fun X=>?_
   refine z0g fun _=>z09 (fun _=>⟨_,z41,?_⟩) (fun _=>?_)
   . rw[hv];exact bcF (by simp)
   . simp
 | true=>
   rw[if_pos rfl]
   have hdl:=zmo hv
   have hsm:∀ d∈ds,zwe d:=fun d hd=>z03x (zr7 hv hd)
   refine z1g ds (gDep l) [] (fun i m=>((i:Int),(m,()))) List.length 1512 5 hdl (fun s a ha=>z0bb (hsm a ha) s) ?_ ?_
   . intro i hi s X hs hX
     rw[List.length_nil]at hs
     have hd:=hsm _ (List.getElem_mem hi)
     have hd1:=hd.1
     have hd2:=hd.2
     have hfl:=znr hd
     have hel:=zs2 hd
     refine z0g fun _=>bcI hi ⟨_,z41,?_⟩
     rw[hv]
     refine bcT (inI hi ⟨_,z8f (by simp only;rw[z1m hi];omega) (by simp only;rw[z1m hi];omega),inI hi ⟨_,z63 (by simp only;rw[z1m hi];omega) (by simp only;rw[z1m hi];omega),?_⟩⟩)
     simp only
     rw[z1m hi,z02 (by omega)]
     refine z1g (frV ds[i]) (gVar l ds[i]) s (fun i m=>((i:Int),(m,()))) List.length 252 6 hfl (fun s a _=>z045 hd s a) ?_ ?_
     . intro j hj s2 Y hs2 hY
       have hpl:=zak l ds[i].1 (frV ds[i])[j]
       have hpl2:=zak l ds[i].2.1 (frV ds[i])[j]
       refine z0g fun _=>bcI hj (inI hi (inI hj ⟨_,zi9 (by omega),inI hi (inI hj ⟨_,zi9 (by omega),?_⟩)⟩))
       simp only
       rw[z1m hj,z02 (by omega)]
       refine z1g (places l ds[i].1 (frV ds[i])[j]) (z073 l ds[i] (frV ds[i])[j]) s2 (fun i m=>((i:Int),(m,()))) List.length 42 6 (by omega) (fun s a _=>zyn hd _ s a) ?_ ?_
       . intro k hk s3 Z hs3 hZ
         refine z0g fun _=>bcI hk ?_
         simp only
         rw[z1m hk,z02 (by omega)]
         have he1:=z03m (places l ds[i].1 (frV ds[i])[j])[k] false (places l ds[i].2.1 (frV ds[i])[j]) s3
         refine z1g (places l ds[i].2.1 (frV ds[i])[j]) (fun out t=>putE out ((places l ds[i].1 (frV ds[i])[j])[k],t,false,())) s3 (fun i m=>((i:Int),(m,()))) List.length 1 6 (by omega) (fun s a _=>zvz _ _) ?_ ?_
         . intro m hm s4 W hs4 hW
           refine z0g fun _=>bcI hm (inI hk (inI hm ⟨_,zmr (by simp only;omega),?_⟩))
           simp only
           rw[z1m hm,z02 (by omega)];exact hW
         . intro W hs4
           refine z0g fun _=>bcN ?_
           simp only
           refine z1g (exV ds[i]) (fun out n=>ed (places l ds[i].1 (frV ds[i])[j])[k] true (places l ds[i].2.1 n) out) (ed (places l ds[i].1 (frV ds[i])[j])[k] false (places l ds[i].2.1 (frV ds[i])[j]) s3) (fun i m=>((i:Int),(m,()))) List.length 6 6 hel (fun s a _=>by
            have h1:=z03m (places l ds[i].1 (frV ds[i])[j])[k] true (places l ds[i].2.1 a) s
            have h2:=zak l ds[i].2.1 a
            omega) ?_ ?_
           . intro m hm s4 V hs4 hV
             have hpl3:=zak l ds[i].2.1 (exV ds[i])[m]
             refine z0g fun _=>bcI hm (inI hi (inI hm ⟨_,zi9 (by omega),?_⟩))
             simp only
             rw[z1m hm,z02 (by omega)]
             refine z1g (places l ds[i].2.1 (exV ds[i])[m]) (fun out t=>putE out ((places l ds[i].1 (frV ds[i])[j])[k],t,true,())) s4 (fun i m=>((i:Int),(m,()))) List.length 1 6 (by omega) (fun s a _=>zvz _ _) ?_ ?_
             . intro p hp s5 V5 hs5 hV5
               refine z0g fun _=>bcI hp (inI hk (inI hp ⟨_,zmr (by simp only;omega),?_⟩))
               simp only
               rw[z1m hp,z02 (by omega)];exact hV5
             . intro V5 _
               exact z0g fun _=>bcN hV
           . intro V _
             exact z0g fun _=>bcN hZ
       . intro Z _
         exact z0g fun _=>bcN hY
     . intro Y _
       exact z0g fun _=>bcN hX
   . intro X _
     exact z0g fun _=>bcN rfl)
def cntP (l:List z0s):Int:=if zag l then sumA l else 0
theorem zp8 {l:List z0s}:zby l (cntP l):=zpf _ _ (by
 unfold zh8 cntP
 cases hv:zag l with
 | false=>
   refine z0x 0 (fun _=>((0:Int),((0:Int),()))) rfl (fun i hi=>by omega) fun X=>?_
   refine z0g fun _=>z09 (fun _=>⟨_,z2c,?_⟩) (fun _=>?_)
   . rw[hv];exact bcF (by simp)
   . simp
 | true=>
   rw[if_pos rfl]
   have hl:=zfp hv
   refine zbg l (fun a r=>a+r.2.1) 0 (fun i m=>(m,((i:Int),()))) ?_ ?_
   . intro i hi X hX
     have hb:=zxd (l:=l.take i) (a:=0) fun r hr=>zii hv (List.mem_of_mem_take hr)
     rw[List.length_take]at hb
     have ha:=zj9 (zii hv (List.getElem_mem hi))
     refine z0g fun _=>bcI hi ⟨_,z2c,?_⟩
     rw[hv]
     refine bcT (inI hi ?_)
     simp only
     rw[z1m hi,z02 (by omega),z2l (by omega) (by omega)]
     exact hX
   . intro X
     exact z0g fun _=>bcN rfl)
def zrd {α:Type} (f:α->α):Nat->α->α
 |0,a=>a
 |n+1,a=>zrd f n (f a)
theorem zug {α:Type} {f:α->α}:∀ {n:Nat} {a:α},zrd f (n+1) a=f (zrd f n a)
 |0,_=>rfl
 |n+1,a=>by rw[zrd,zug];rfl
theorem z000 {α:Type} {f:α->α} {I:α->Prop} (h:∀ a,I a->I (f a)):∀ {n:Nat} {a:α},I a->I (zrd f n a)
 |0,_,ha=>ha
 |n+1,_,ha=>z000 h (n:=n) (h _ ha)
theorem z035 {α:Type} {p q:α->Bool}:∀ {l:List α},(∀ x∈l,p x=true->q x=true)->l.countP p<=l.countP q
 |[],_=>by simp
 | a::l,h=>by
   have ih:=z035 (l:=l) fun x hx=>h x (by simp[hx])
   have ha:=h a (by simp)
   rw[List.countP_cons,List.countP_cons]
   cases hp:p a with
   |false=>cases q a<;>simp<;>omega
   |true=>rw[ha hp];simp;exact ih
theorem z04p {α:Type} {p q:α->Bool}:∀ {l:List α},(∀ x∈l,p x=true->q x=true)->(∃ x∈l,q x=true/\p x=false)->l.countP p<l.countP q
 |[],_,⟨_,h,_⟩=>by cases h
 | a::l,h,⟨x,hx,hq,hp⟩=>by
   have ih:=z035 (l:=l) fun x hx=>h x (by simp[hx])
   rw[List.countP_cons,List.countP_cons]
   rcases List.mem_cons.mp hx with rfl|hx
   . rw[hp,hq];simp;omega
   . have:=z04p (l:=l) (fun x hx=>h x (by simp[hx])) ⟨x,hx,hq,hp⟩
     have ha:=h a (by simp)
     cases hpa:p a with
     |false=>cases q a<;>simp<;>omega
     |true=>rw[ha hpa];simp;exact this
theorem z04e {α:Type} {l:List α} {i j:Nat} {x d:α} (h:i<l.length):(l.set i x).getD j d=if j=i then x else l.getD j d:=by
 by_cases hj:j<l.length
 . rw[z1a (by simpa using hj),z1a hj,List.getElem_set]
   by_cases hij:i=j
   . subst hij;simp
   . rw[if_neg hij,if_neg (Ne.symm hij)]
 . have:j≠i:=by omega
   rw[if_neg this,List.getD_eq_getElem?_getD,List.getD_eq_getElem?_getD,List.getElem?_eq_none (by simpa using hj),List.getElem?_eq_none (by omega)]
theorem z042 {α:Type} {l m:List α} {d:α} (hl:l.length=m.length) (h:∀ i,i<l.length->l.getD i d=m.getD i d):l=m:=by
 refine List.ext_getElem hl fun i h1 h2=>?_
 have:=h i h1
 rwa [z1a h1,z1a h2]at this
def z00m (n:Int) (met:List Bool) (e:z2t):List Bool:=if inR e.1 0 (n - 1)&&inR e.2.1 0 (n - 1)&&met.getD e.1.toNat false then met.set e.2.1.toNat true else met
def zqh (n:Int) (es:List z2t) (met:List Bool):List Bool:=es.foldl (z00m n) met
def z04w (n:Int) (es:List z2t) (a:Int):List Bool:=zrd (zqh n es) n.toNat ((List.replicate n.toNat false).set a.toNat true)
def z05p (n:Int) (es:List z2t) (a b:Int):Bool:=inR n 0 30&&inR a 0 (n - 1)&&inR b 0 (n - 1)&&(z04w n es a).getD b.toNat false
theorem z09q (n:Int) (met:List Bool) (e:z2t):(z00m n met e).length=met.length:=by unfold z00m;split<;>simp
theorem zsm (n:Int):∀(es:List z2t) (met:List Bool),(es.foldl (z00m n) met).length=met.length
 |[],_=>rfl
 |e::es,met=>by rw[List.foldl_cons,zsm n es];exact z09q n met e
theorem z08r (n:Int) (es:List z2t) (k:Nat) (met:List Bool):(zrd (zqh n es) k met).length=met.length:=
 z000 (I:=fun m:List Bool=>m.length=met.length) (fun m hm=>by unfold zqh;rw[zsm];exact hm) rfl
theorem ztg {n:Int} {es:List z2t} {a b:Int}:zei n es a b (z05p n es a b):=zsw _ _ _ _ _ (by
 unfold zkl
 refine⟨_,z7m,z0u (fun h=>by unfold z05p;rw[h];rfl) (fun h1=>⟨_,z7m,?_⟩)⟩
 have hn:=inR_iff.mp h1
 rw[z2l (by omega) (by omega)]
 refine z0u (fun h=>by unfold z05p;rw[h];simp) (fun h2=>⟨_,z7m,z0u (fun h=>by unfold z05p;rw[h];simp) (fun h3=>?_)⟩)
 have ha:=inR_iff.mp h2
 have hb:=inR_iff.mp h3
 refine⟨⟨by omega,by omega,by simp only[z0v];omega⟩,⟨by omega,by rw[List.length_replicate];omega⟩,?_⟩
 have hlen:∀ k,(zrd (zqh n es) k ((List.replicate n.toNat false).set a.toNat true)).length=n.toNat:=fun k=>by rw[z08r];simp
 refine z0x n.toNat (fun i=>((i:Int),(zrd (zqh n es) i ((List.replicate n.toNat false).set a.toNat true),()))) (by simp[zrd]) ?_ ?_
 . intro i hi X hX
   refine z09 (fun _=>?_) (fun h=>by omega)
   rw[zug]at hX
   have hli:=hlen i
   simp only
   generalize zrd (zqh n es) i ((List.replicate n.toNat false).set a.toNat true)=m0 at hX hli ⊢
   unfold zqh at hX
   refine zbg es (z00m n) m0 (fun i m=>((i:Int),(m,()))) ?_ ?_
   . intro j hj Y hY
     have hlm:=zsm n (es.take j) m0
     rw[hli]at hlm
     generalize (es.take j).foldl (z00m n) m0=m1 at hY hlm ⊢
     unfold z00m at hY
     refine z0g fun _=>bcI hj (inI hj ⟨_,z7m,?_⟩)
     simp only
     rw[z1m hj,z02 (by omega)]
     refine z1e (fun h4=>inI hj ⟨_,z7m,z1e (fun h5=>inI hj ?_) (fun h5=>by rw[h5]at hY;simpa using hY)⟩) (fun h4=>by rw[h4]at hY;simpa using hY)
     have e1:=inR_iff.mp h4
     have e2:=inR_iff.mp h5
     refine⟨⟨by omega,by omega⟩,z1e (fun h6=>inI hj ⟨⟨by omega,by omega⟩,?_⟩) (fun h6=>?_)⟩
     . rw[h4,h5,h6]at hY;simpa using hY
     . rw[h6]at hY;simpa using hY
   . intro Y
     refine z0g fun _=>bcN ?_
     simp only
     rw[z02 (by omega)];exact hX
 . intro X
   refine z09 (fun h=>by omega) (fun _=>⟨⟨by omega,by rw[hlen];omega⟩,?_⟩)
   unfold z05p z04w
   rw[h1,h2,h3];rfl)
def cycP (l:List z0s) (ds:List z0b) (e:z2t):Bool:=e.2.2.1&&z05p (cntP l) (ztu l ds) e.2.1 e.1
def cyc (l:List z0s) (ds:List z0b):Bool:=(ztu l ds).any (cycP l ds)
def cycE (l:List z0s) (ds:List z0b):z2t:=if z03 (cycP l ds) (ztu l ds)<(ztu l ds).length then(ztu l ds).getD (z03 (cycP l ds) (ztu l ds)) zfw else zfw
theorem z00a {α:Type} {p:α->Bool} {l:List α}:l.any p=decide (z03 p l<l.length):=by
 rcases Nat.lt_or_ge (z03 p l) l.length with h|h
 . rw[decide_eq_true h]
   exact List.any_eq_true.mpr ⟨_,List.getElem_mem h,z9c h⟩
 . rw[decide_eq_false (by omega),Bool.eq_false_iff]
   intro hany
   obtain⟨x,hx,hp⟩:=List.any_eq_true.mp hany
   obtain⟨i,hi,rfl⟩:=List.mem_iff_getElem.mp hx
   have:=z9g (p:=p) hi (by omega)
   rw[hp]at this;cases this
def wac (l:List z0s) (ds:List z0b):Bool:=zjm l ds && !cyc l ds
theorem zlf {l:List z0s} {ds:List z0b}:z99 l ds (cycE l ds) (cyc l ds):=zl2 _ _ _ _ (by
 unfold zda
 refine⟨_,zoy,zas (ztu l ds) (cycP l ds) (fun i=>((i:Int),(zfw,()))) (KT:=fun i=>((ztu l ds).getD i zfw,(true,()))=(cycE l ds,(cyc l ds,()))) (KF:=(zfw,(false,()))=(cycE l ds,(cyc l ds,()))) ?_ ?_ ?_ ?_⟩
 . intro i hi X h1 h2
   refine z0g fun _=>bcI hi (inI hi ?_)
   simp only
   rw[z02 (by omega)]
   have hg:=z1m (d:=zfw) hi
   rw[hg]
   unfold cycP at h1 h2
   refine z1e (fun h=>inI hi (inI hi ⟨_,zp8,_,ztg,z1e (fun h3=>inI hi ?_) (fun h3=>?_)⟩)) (fun h=>h2 (by rw[h];rfl))
   . have:=h1 (by rw[h,h3];rfl)
     rw[z1a hi]at this;exact this
   . exact h2 (by rw[h,h3];rfl)
 . intro X h
   exact z0g fun _=>bcN h
 . intro h
   unfold cycE cyc
   rw[if_pos h,z00a,decide_eq_true h]
 . intro h
   unfold cycE cyc
   rw[if_neg (by omega),z00a,decide_eq_false (by omega)])
theorem zlz {l:List z0s} {ds:List z0b}:za5 l ds (wac l ds):=zmg _ _ _ (by
 unfold ze6 wac
 refine⟨_,_,zlf,_,z41,z1e (fun h=>by rw[h];rfl) (fun h=>by rw[h];rfl)⟩)
def hgt (n:Int) (es:List z2t) (p:Nat):Nat:=(List.range n.toNat).countP fun(q:Nat)=>(z04w n es (q:Int)).getD p false && !(z04w n es (p:Int)).getD q false
def z4b (l:List z0s) (ds:List z0b):Bool:=zjm l ds && !ds.any fun d=>d.2.2.1
theorem zge {l:List z0s} {ds:List z0b}:zan l ds (z4b l ds):=z02x _ _ _ (by
 unfold zrm
 refine z71 ds (fun d=>d.2.2.1) (fun i=>((i:Int),())) (KT:=ds.any (fun d=>d.2.2.1)=true) (KF:=ds.any (fun d=>d.2.2.1)=false) ?_ ?_ id id
 . intro i hi X h1 h2
   refine z0g fun _=>bcI hi (inI hi ?_)
   simp only
   rw[z1m hi,z02 (by omega)]
   refine z1e (fun h=>?_) (fun h=>h2 h)
   unfold z4b;rw[h1 h];simp
 . intro X h
   refine z0g fun _=>bcN ⟨_,z41,?_⟩
   unfold z4b;rw[h];simp)
theorem zwb {d:z0b}:z84 d d.2.2.1:=zxj _ _ (by unfold zlu;rfl)
theorem zg8 {l:List z0s} {ds:List z0b}:zaw l ds (z4b l ds):=z018 _ _ _ (by
 unfold zr2 z4b
 refine⟨_,zg3,z1e (fun h=>⟨_,z4u (fun d=>d.2.2.1) (fun _ _=>zwb),by rw[h];rfl⟩) (fun h=>by rw[h];rfl)⟩)
theorem z2f {l:List Int} (h:l.length<=1099511627776):z1d l l:=zms _ _ (by
 unfold ze0
 refine z1e (fun he=>⟨?_,by simp only[z0v,List.length_nil];omega,by rw[List.nil_append]⟩) (fun _=>⟨by simp only[z0v,List.length_nil];omega,by rw[List.nil_append]⟩)
 have:l=[]:=List.isEmpty_iff.mp he
 rw[this])
theorem zfx {l:List z0s} (h:l.length<=1099511627776):z5v l l:=zgp _ _ (by
 unfold za1
 refine z1e (fun he=>⟨?_,by simp only[z0v,List.length_nil];omega,by rw[List.nil_append]⟩) (fun _=>⟨by simp only[z0v,List.length_nil];omega,by rw[List.nil_append]⟩)
 have:l=[]:=List.isEmpty_iff.mp he
 rw[this])
theorem zry {f:z00} (h:f.2.1.length<=1099511627776):zhx f f:=z09z _ _ (by
 unfold zz7
 try refine⟨trivial,?_⟩
 exact⟨by simp only[z0v,List.length_nil];omega,by rw[List.nil_append]⟩)
theorem z02d {f:z00} (h:f.2.1.length<=1099511627776):zl8 f f:=z00t _ _ (by
 unfold zqf
 exact⟨_,z2f h,rfl⟩)
theorem zln {α τ:Type} {B:(τ->Prop)->τ->Prop} (l:List α) (e:Nat->List α->τ) (hl:l.length<=1073741824)
  (hs:∀ i (h:i<l.length) (s:List α) (X:τ->Prop),s.length<=1073741824->X (e (i+1) (s++[l[i]]))->B X (e i s))
  (hf:∀ X:τ->Prop,B X (e l.length l)):z0f B (e 0 []):=by
 refine z0x l.length (fun i=>e i (l.take i)) (by simp) ?_ ?_
 . intro i hi X hX
   rw[z07 hi]at hX
   exact hs i hi _ X (by rw[List.length_take];omega) hX
 . intro X;rw[List.take_length];exact hf X
theorem zol {l:List z00} (hl:l.length<=1073741824) (h:∀ f∈l,f.2.1.length<=1099511627776):ze9 l l:=z00b _ _ (by
 unfold zog
 refine z0g fun _=>zln l (fun i s=>((i:Int),(s,()))) hl ?_ ?_
 . intro i hi s X hs hX
   refine bcI hi (inI hi ⟨l[i],?_,⟨by simp only[z0v,List.length_cons,List.length_nil];omega,?_⟩⟩)
   . simp only;rw[z1m hi];exact z02d (h _ (List.getElem_mem hi))
   . simp only;rw[z02 (by omega)];exact hX
 . intro X;exact bcN rfl)
def z0hk (d:z0b):Prop:=(d.1.length<=1073741824/\∀ f∈d.1,f.2.1.length<=1099511627776)/\(d.2.1.length<=1073741824/\∀ f∈d.2.1,f.2.1.length<=1099511627776)
theorem zl0:zax 1 5 0 5:=zni _ _ _ _ (by
 unfold zf6
 decide)
abbrev zbn:List Int:=[10,10,10,10,10]
theorem zhu:z9a [10] 5 zbn:=zle _ _ _ (by
 unfold zd5
 refine bcF (z0g fun _=>⟨0,5,zrs _ _ _ _ ⟨0,5,zl0,rfl⟩,bcF (bcF ⟨by decide,by decide,?_⟩)⟩)
 refine z0x 3 (fun i=>match i with
  |0=>((1:Int),(([10,0,0,0,0]:List Int),()))
  |1=>((2:Int),(([10,10,0,0,0]:List Int),()))
  |2=>((4:Int),(([10,10,10,10,0]:List Int),()))
  |_=>((5:Int),(([10,10,10,10,10]:List Int),()))) (by decide) ?_ ?_
 . intro i hi X hX
   rcases i with _|_|_|i
   . exact z0g fun _=>bcT ⟨by decide,by decide,by decide,by rw[show ∀ z,w64 z=IntKind.i64.wrap z from fun _=>rfl];exact hX⟩
   . exact z0g fun _=>bcT ⟨by decide,by decide,by decide,by rw[show ∀ z,w64 z=IntKind.i64.wrap z from fun _=>rfl];exact hX⟩
   . exact z0g fun _=>bcT ⟨by decide,by decide,by decide,by rw[show ∀ z,w64 z=IntKind.i64.wrap z from fun _=>rfl];exact hX⟩
   . omega
 . intro X
   exact z0g fun _=>bcF rfl)
theorem zo4:zat zbn:=znl _ (by unfold zfm;exact⟨_,zhu,rfl⟩)
theorem zv8:zjd 10:=z06c _ (by unfold zvh;rfl)
theorem z02b:zkn [10,10,10,10,10]:=z02h _ (by
 unfold zsl
 refine z0x 5 (fun i=>(List.replicate i (10:Int),())) rfl ?_ ?_
 . intro i hi X hX
   refine z0g fun _=>z09 (fun _=>⟨_,zv8,by simp only[z0v,List.length_replicate,List.length_cons,List.length_nil];omega,?_⟩) (fun h=>by simp only[List.length_replicate]at h;omega)
   rw[List.replicate_succ']at hX;exact hX
 . intro X
   exact z0g fun _=>bcF rfl)
def zjq:List Int->List Int->List Int->List Int×Bool
 |[],_,b=>(b,true)
 | t::ts,v::vs,b=>if t<0 then(if -1 - t=v then zjq ts vs b else(b,false))
   else if b.getD t.toNat 0=10\/b.getD t.toNat 0=v then zjq ts vs (b.set t.toNat v)else(b,false)
 |_::_,[],b=>(b,false)
theorem zs7 {t:Int} {ts:List Int} {v:Int} {vs b:List Int}:zjq (t::ts) (v::vs) b=if t<0 then(if -1 - t=v then zjq ts vs b else(b,false))
 else if b.getD t.toNat 0=10\/b.getD t.toNat 0=v then zjq ts vs (b.set t.toNat v)else(b,false):=rfl
theorem zgk:∀ {ts vs b:List Int},(zjq ts vs b).1.length=b.length
 |[],vs,b=>by simp[zjq]
 |t::ts,[],b=>by simp[zjq]
 | t::ts,v::vs,b=>by
   unfold zjq
   split
   . split
     . exact zgk
     . rfl
   . split
     . rw[zgk,List.length_set]
     . rfl
theorem z0ci {l:List Int} {i:Nat} {v:Int} (h:i<l.length) (hv:l.getD i 0=v):l.set i v=l:=by
 rw[z1a h]at hv
 subst hv
 exact List.set_getElem_self h
theorem z07u {a f:z00} {b:List Int} (hl:a.2.1.length<=1000) (hb:b.length<=1000) (ht:∀ t∈a.2.1,-10<=t/\t<b.length) :
  zqu a f b (if a.1=f.1/\a.2.1.length=f.2.1.length then(zjq a.2.1 f.2.1 b).1 else b) (decide (a.1=f.1/\a.2.1.length=f.2.1.length)&&(zjq a.2.1 f.2.1 b).2):=z09w _ _ _ _ _ (by
 unfold zy7
 refine⟨by simp only[z0v,List.length_nil];omega,zbt (fun h=>by rw[if_neg (fun h'=>h h'.1)];simp[h]) (fun h1=>z0g fun _=>z0g fun _=>zbt (fun h=>?_) (fun h2=>?_))⟩
 . have h:¬ a.2.1.length=f.2.1.length:=by omega
   rw[if_neg (fun h'=>h h'.2)];simp[h]
 . have h2:a.2.1.length=f.2.1.length:=by omega
   rw[if_pos ⟨h1,h2⟩,decide_eq_true (And.intro h1 h2),Bool.true_and,List.nil_append]
   refine z1i (fun k s=>∃(i:Nat) (c:List Int),i+k=a.2.1.length/\s=((i:Int),(c,()))/\c.length=b.length/\zjq (a.2.1.drop i) (f.2.1.drop i) c=zjq a.2.1 f.2.1 b) ?_ ?_ (n:=a.2.1.length) ⟨0,b,by omega,rfl,rfl,by simp⟩
   . rintro s ⟨i,c,hi,rfl,hc,hf⟩ X
     obtain rfl:i=a.2.1.length:=by omega
     refine z0g fun _=>bcN ?_
     rw[<-hf];simp[zjq]
   . rintro k s ⟨i,c,hi,rfl,hc,hf⟩ X hX
     have hlt:i<a.2.1.length:=by omega
     have hlt':i<f.2.1.length:=by omega
     rw[z5e hlt,z5e hlt']at hf
     have htr:=ht _ (List.getElem_mem hlt)
     refine z0g fun _=>bcI hlt (inI hlt ?_)
     simp only
     rw[z1m hlt,z1m hlt',z02 (by omega)]
     rw[zs7]at hf
     refine z09 (fun h3=>inI hlt' ?_) (fun h3=>?_)
     . rw[if_pos h3]at hf
       rw[z2l (by omega) (by omega)]
       refine zbt (fun h4=>?_) (fun h4=>?_)
       . rw[if_neg h4]at hf;rw[<-hf]
       . rw[if_pos h4]at hf;exact hX _ ⟨i+1,c,by omega,rfl,hc,hf⟩
     . rw[if_neg h3]at hf
       have hin:a.2.1[i].toNat<c.length:=by omega
       refine⟨⟨by omega,by omega⟩,_,zv8,zbt (fun h4=>⟨⟨by omega,by omega⟩,inI hlt' (zbt (fun h5=>?_) (fun h5=>inI hlt' ⟨⟨by omega,by omega⟩,?_⟩))⟩) (fun h4=>inI hlt' ⟨⟨by omega,by omega⟩,?_⟩)⟩
       . rw[if_neg (by rintro (h|h);exact h4 h;exact h5 h)]at hf;rw[<-hf]
       . rw[if_pos (.inr h5)]at hf;exact hX _ ⟨i+1,_,by omega,rfl,by rw[List.length_set];exact hc,hf⟩
       . rw[if_pos (.inl h4)]at hf;exact hX _ ⟨i+1,_,by omega,rfl,by rw[List.length_set];exact hc,hf⟩)
theorem z0fi {a f:z00} {b:List Int} (hl:a.2.1.length<=1000) (hb:b.length<=1000) (ht:∀ t∈a.2.1,-10<=t/\t<b.length) (hr:a.1=f.1->a.2.1.length=f.2.1.length) :
  z01n b a f (if a.1=f.1/\(zjq a.2.1 f.2.1 b).2 then(zjq a.2.1 f.2.1 b).1 else[]) (decide (a.1=f.1)&&(zjq a.2.1 f.2.1 b).2):=z0em _ _ _ _ _ (by
 unfold z07q
 refine zbt (fun h=>by rw[if_neg (fun h'=>h h'.1)];simp[h]) (fun h1=>⟨_,z2f (by omega),z0g fun _=>?_⟩)
 have h2:=hr h1
 rw[decide_eq_true h1,Bool.true_and]
 refine z1i (fun k s=>∃(i:Nat) (c:List Int),i+k=a.2.1.length/\s=((i:Int),(c,()))/\c.length=b.length/\zjq (a.2.1.drop i) (f.2.1.drop i) c=zjq a.2.1 f.2.1 b) ?_ ?_ (n:=a.2.1.length) ⟨0,b,by omega,rfl,rfl,by simp⟩
 . rintro s ⟨i,c,hi,rfl,hc,hf⟩ X
   obtain rfl:i=a.2.1.length:=by omega
   refine bcN ?_
   rw[<-hf];simp[zjq,h1]
 . rintro k s ⟨i,c,hi,rfl,hc,hf⟩ X hX
   have hlt:i<a.2.1.length:=by omega
   have hlt':i<f.2.1.length:=by omega
   rw[z5e hlt,z5e hlt']at hf
   have htr:=ht _ (List.getElem_mem hlt)
   refine bcI hlt (inI hlt (inI hlt' ?_))
   simp only
   rw[z1m hlt,z1m hlt',z02 (by omega)]
   rw[zs7]at hf
   refine z09 (fun h3=>?_) (fun h3=>?_)
   . rw[if_pos h3]at hf
     rw[z2l (by omega) (by omega)]
     refine zbt (fun h4=>?_) (fun h4=>?_)
     . rw[if_neg (fun h=>h4 h.symm)]at hf;rw[<-hf];simp
     . rw[if_pos h4.symm]at hf;exact hX _ ⟨i+1,c,by omega,rfl,hc,hf⟩
   . rw[if_neg h3]at hf
     have hin:a.2.1[i].toNat<c.length:=by omega
     refine⟨⟨by omega,by omega⟩,z3t (fun h4=>⟨⟨by omega,by omega⟩,?_⟩) (fun h4=>⟨⟨by omega,by omega⟩,zbt (fun h5=>?_) (fun h5=>?_)⟩)⟩
     . rw[if_pos (.inl h4)]at hf;exact hX _ ⟨i+1,_,by omega,rfl,by rw[List.length_set];exact hc,hf⟩
     . rw[if_neg (by rintro (h|h);exact h4 h;exact h5 h)]at hf;rw[<-hf];simp
     . rw[if_pos (.inr h5),z0ci hin h5]at hf;exact hX _ ⟨i+1,c,by omega,rfl,hc,hf⟩)
def znh (fs:List z00) (w:List Int->List (List Int)) (a:z00) (b:List Int) (out:List (List Int)) (f:z00):List (List Int):=if a.1=f.1/\(zjq a.2.1 f.2.1 b).2=true then out++w (zjq a.2.1 f.2.1 b).1 else out
def zh5 (fs:List z00):List z00->List Int->List (List Int)
 |[],b=>[b]
 |a::ats,b=>fs.foldl (znh fs (zh5 fs ats) a b) []
structure WOk (fs ats:List z00):Prop where
 few:fs.length<=30
 row:∀ a∈ats,a.2.1.length<=3/\∀ t∈a.2.1,-10<=t/\t<5
 fit:∀ a∈ats,∀ f∈fs,a.1=f.1->a.2.1.length=f.2.1.length
theorem WOk.tail {fs ats:List z00} {a:z00} (h:WOk fs (a::ats)):WOk fs ats:=⟨h.few,fun x hx=>h.row x (by simp[hx]),fun x hx=>h.fit x (by simp[hx])⟩
theorem zrx {fs ats:List z00} {a:z00} {b:List Int} {n:Nat} (hw:∀ c,(zh5 fs ats c).length<=n) (out:List (List Int)) (f:z00):(znh fs (zh5 fs ats) a b out f).length<=out.length+n:=by
 unfold znh
 split
 . rw[List.length_append];have:=hw (zjq a.2.1 f.2.1 b).1;omega
 . omega
theorem zdm {fs:List z00} (h:fs.length<=30):∀ {ats:List z00} {b:List Int},(zh5 fs ats b).length<=30 ^ ats.length
 |[],b=>by simp[zh5]
 | a::ats,b=>by
   have:=z88 (l:=fs) (g:=znh fs (zh5 fs ats) a b) (s:=[]) (μ:=List.length) (c:=30 ^ ats.length) fun s f _=>zrx (fun c=>zdm h) s f
   simp only[List.length_nil,Nat.zero_add]at this
   rw[List.length_cons,Nat.pow_succ,Nat.mul_comm]
   exact Nat.le_trans this (Nat.mul_le_mul_right _ h)
theorem z0d3 {fs ats:List z00} {b c:List Int} (h:c∈zh5 fs ats b):c.length=b.length:=by
 induction ats generalizing b c with
 |nil=>simp[zh5]at h;rw[h]
 | cons a ats ih=>
   have:∀(l:List z00) (out:List (List Int)),(∀ c∈out,c.length=b.length)->∀ c∈l.foldl (znh fs (zh5 fs ats) a b) out,c.length=b.length:=by
    intro l
    induction l with
    |nil=>intro out ho;exact ho
    | cons f l ihl=>
      intro out ho
      rw[List.foldl_cons]
      refine ihl _ fun c hc=>?_
      unfold znh at hc
      split at hc
      . rcases List.mem_append.mp hc with hc|hc
        . exact ho c hc
        . rw[ih hc,zgk]
      . exact ho c hc
   exact this fs [] (by simp) c h
def mOk (x:z0e) (l:List z00):Bool:=l.all (z74 x.1)&&(z3a x&&decide (l.length<=3))
theorem zru {x:z0e} {l:List z00} (h:mOk x l=true):WOk x.2.1 l/\l.length<=3:=by
 unfold mOk at h
 simp only[Bool.and_eq_true,decide_eq_true_eq]at h
 obtain⟨h1,h2,h3⟩:=h
 refine⟨⟨z4k h2,fun a ha=>?_,fun a ha f hf he=>?_⟩,h3⟩
 . have:=z37 (List.all_eq_true.mp h1 a ha)
   exact⟨this.2.2.2.2.1,fun t ht=>by have:=inR_iff.mp (this.2.2.2.2.2 t ht);omega⟩
 . have e1:=z37 (List.all_eq_true.mp h1 a ha)
   have e2:=z37 (z6o h2 hf)
   have:=e1.2.2.2.1
   have:=e2.2.2.2.1
   rw[he]at *
   omega
def dedG (out:List (List Int)) (b:List Int):List (List Int):=if b∈out then out else out++[b]
def z9t (x:z0e) (l:List z00):List (List Int):=if mOk x l then(zh5 x.2.1 l zbn).foldl dedG [] else[]
theorem zvo (out:List (List Int)) (b:List Int):(dedG out b).length<=out.length+1:=by unfold dedG;split<;>simp
theorem zwl:∀ {l:List (List Int)} {out:List (List Int)} {b:List Int},b∈l.foldl dedG out->b∈out\/b∈l
 |[],out,b,h=>.inl h
 | c::l,out,b,h=>by
   rw[List.foldl_cons]at h
   rcases zwl h with h|h
   . unfold dedG at h
     split at h
     . exact .inl h
     . rcases List.mem_append.mp h with h|h
       . exact .inl h
       . simp at h;exact .inr (by simp[h])
   . exact .inr (by simp[h])
theorem zf9 {x:z0e} {l:List z00} {b:List Int} (h:b∈z9t x l):b.length=5:=by
 unfold z9t at h
 split at h
 . rcases zwl h with h|h
   . simp at h
   . rw[z0d3 h];rfl
 . simp at h
theorem z015 {n:Nat} (h:n<=3):30 ^ n<=27000:=Nat.le_trans (Nat.pow_le_pow_right (by omega) h) (by decide)
theorem zmf {x:z0e} {l:List z00}:(z9t x l).length<=27000:=by
 unfold z9t
 split
 . rename_i h
   have:=z88 (l:=zh5 x.2.1 l zbn) (g:=dedG) (s:=[]) (μ:=List.length) (c:=1) fun s f _=>zvo s f
   have h2:=zdm (zru h).1.few (ats:=l) (b:=zbn)
   have:=z015 (zru h).2
   simp at *
   omega
 . exact Nat.zero_le _
theorem z0aw {x:z0e} {l:List z00}:zw3 x l (mOk x l):=z0c1 _ _ _ (by
 unfold z047
 refine z71 l (fun a=>!z74 x.1 a) (fun i=>((i:Int),())) (KT:=((false,()):Bool×Unit)=(mOk x l,())) (KF:=l.any (fun a=>!z74 x.1 a)=false) ?_ ?_ ?_ (fun h=>h)
 . intro i hi X h1 h2
   refine z0g fun _=>bcI hi (inI hi ⟨_,zeo,?_⟩)
   simp only
   rw[z1m hi,z02 (by omega)]
   exact z1e h1 h2
 . intro X h
   refine z0g fun _=>bcN ⟨_,z2x,?_⟩
   rw[z3y]at h
   refine z1e (fun h1=>z0g fun _=>?_) (fun h1=>?_)
   . unfold mOk;rw[nf h,h1];simp;omega
   . unfold mOk;rw[h1];simp
 . intro h
   rw[z3y]at h
   unfold mOk;rw[nt h];rfl)
theorem zr6 {x:z0e} {l:List z00}:zd8 x l (mOk x l):=zqq _ _ _ (by
 unfold zic
 refine⟨_,z72,z1e (fun h1=>z0g fun _=>z3t (fun h2=>?_) (fun h2=>⟨_,zl6,?_⟩)) (fun h1=>by unfold mOk;rw[h1];simp)⟩
 . have:l=[]:=List.eq_nil_of_length_eq_zero (by omega)
   unfold mOk;rw[this,h1];rfl
 . have:mOk x l=(inR l.length 1 3&&l.all (z74 x.1)):=by
    unfold mOk
    rw[h1,Bool.true_and,Bool.and_comm]
    congr 1
    have h0:1<=l.length:=by omega
    unfold inR
    rw[decide_eq_true (show(1:Int)<=(l.length:Int) by omega),Bool.true_and]
    exact decide_eq_decide.mpr (by omega)
   rw[this])
theorem zu1 {x:z0e} {l:List z00} (h:WOk x.2.1 l) (hl:l.length<=3):∀(k n:Nat) (b:List Int),n+k=l.length->b.length=5->zj5 x l n b (zh5 x.2.1 (l.drop n) b)
 | 0,n,b,hn,hb=>zuz _ _ _ _ _ (by
   unfold zn9
   obtain rfl:n=l.length:=by omega
   refine z0g fun _=>z3t (fun _=>⟨by simp only[z0v,List.length_nil];omega,by rw[List.drop_length];rfl⟩) (fun h=>absurd rfl h))
 | k+1,n,b,hn,hb=>zuz _ _ _ _ _ (by
   unfold zn9
   have hlt:n<l.length:=by omega
   refine z0g fun _=>z3t (fun h=>by omega) (fun _=>?_)
   rw[z5e hlt]
   have hrow:=h.row _ (List.getElem_mem hlt)
   refine z1g x.2.1 (znh x.2.1 (zh5 x.2.1 (l.drop (n+1))) l[n] b) [] (fun i s=>((i:Int),(s,()))) List.length 27000 30 h.few (fun s f _=>zrx (fun c=>Nat.le_trans (zdm h.few) (z015 (by rw[List.length_drop];omega))) s f) ?_ ?_
   . intro i hi s X hs hX
     have hfew:=h.few
     refine z0g fun _=>bcI hi (inI hlt (inI hi ⟨_,_,z07u (a:=l.getD (Int.toNat (n:Int)) z0h) (f:=x.2.1.getD (Int.toNat (i:Int)) z0h) (b:=b) ?_ (by omega) ?_,?_⟩))
     . rw[z1m hlt];omega
     . rw[z1m hlt];intro t ht;have:=hrow.2 t ht;omega
     . simp only
       rw[z1m hlt,z1m hi,z02 (by omega),z02 (by omega)]
       have hfit:=h.fit _ (List.getElem_mem hlt) _ (List.getElem_mem hi)
       unfold znh at hX
       by_cases hc:l[n].1=x.2.1[i].1
       . rw[if_pos ⟨hc,hfit hc⟩,decide_eq_true (And.intro hc (hfit hc)),Bool.true_and]
         refine z1e (fun h4=>⟨_,zu1 h hl k (n+1) _ (by omega) (by rw[zgk];exact hb),?_,?_⟩) (fun h4=>?_)
         . have h5:(zh5 x.2.1 (l.drop (n+1)) (zjq l[n].2.1 x.2.1[i].2.1 b).1).length<=27000:=Nat.le_trans (zdm h.few) (z015 (by rw[List.length_drop];omega))
           simp only[z0v,List.length_nil]at *
           omega
         . rw[if_pos ⟨hc,h4⟩]at hX;exact hX
         . rw[if_neg (by rintro⟨_,h5⟩;rw[h4]at h5;cases h5)]at hX;exact hX
       . rw[if_neg (fun h=>hc h.1),decide_eq_false (fun h=>hc h.1),Bool.false_and]
         rw[if_neg (fun h=>hc h.1)]at hX
         exact bcF hX
   . intro X _
     exact z0g fun _=>bcN rfl)
theorem zuh {fs:List z00}:∀ {l:List z00} (b:List Int),WOk fs l->l.length<=3->b.length=5->zjh fs l b (zh5 fs l b)
 |[],b,h,hl,hb=>zu6 _ _ _ _ (by unfold znx;exact z0g fun _=>bcT rfl)
 | a::l,b,h,hl,hb=>zu6 _ _ _ _ (by
   unfold znx
   have hrow:=h.row a (by simp)
   refine z0g fun _=>z3t (fun h=>by simp at h;omega) (fun _=>z0g fun _=>?_)
   have hd:List.drop (Int.toNat (1:Int)) (List.take (Int.toNat ((a::l).length:Int)) (a::l))=l:=by rw[Int.toNat_natCast,List.take_length];rfl
   rw[hd]
   refine z1g fs (znh fs (zh5 fs l) a b) [] (fun i s=>((i:Int),(s,()))) List.length 27000 30 h.few (fun s f _=>zrx (fun c=>Nat.le_trans (zdm h.few) (z015 (by simp at hl;omega))) s f) ?_ ?_
   . intro i hi s X hs hX
     have hfew:=h.few
     refine bcI hi (inI hi ⟨⟨by omega,by simp only[List.length_cons];omega⟩,_,_,z0fi (a:=a) (f:=fs.getD (Int.toNat (i:Int)) z0h) (b:=b) (by omega) (by omega) (fun t ht=>by have:=hrow.2 t ht;omega) ?_,?_⟩)
     . rw[z1m hi];exact h.fit a (by simp) _ (List.getElem_mem hi)
     . simp only
       rw[z1m hi,z02 (by omega)]
       unfold znh at hX
       by_cases hc:a.1=fs[i].1
       . rw[decide_eq_true hc,Bool.true_and]
         refine z1e (fun h4=>⟨⟨by omega,by simp;omega,by omega⟩,_,zuh _ h.tail (by simp at hl;omega) (by rw[if_pos ⟨hc,h4⟩,zgk];exact hb),?_,?_⟩) (fun h4=>?_)
         . have h5:∀ c,(zh5 fs l c).length<=27000:=fun c=>Nat.le_trans (zdm h.few) (z015 (by simp at hl;omega))
           have:=h5 (if a.1=fs[i].1/\(zjq a.2.1 fs[i].2.1 b).2=true then(zjq a.2.1 fs[i].2.1 b).1 else[])
           simp only[z0v,List.length_nil]at *
           omega
         . rw[if_pos ⟨hc,h4⟩]at hX ⊢;exact hX
         . rw[if_neg (by rintro⟨_,h5⟩;rw[h4]at h5;cases h5)]at hX;exact hX
       . rw[decide_eq_false hc,Bool.false_and]
         rw[if_neg (fun h=>hc h.1)]at hX
         exact bcF hX
   . intro X _
     exact bcN rfl)
theorem zx5 {l:List (List Int)} {b:List Int}:zgd l b (decide (b∈l)):=zvm _ _ _ (by
 unfold zlj
 refine⟨_,z6i (fun t=>decide (t=b)) (fun t _=>zre _ _ _ ⟨_,ze5,rfl⟩),?_⟩
 have:(l.any fun t=>decide (t=b))=decide (b∈l):=by
  rw[<-zss]
  congr 1;funext t
  by_cases h:t=b
  . simp[h]
  . have:¬ b=t:=fun e=>h e.symm
    simp[h,this]
 rw[this])
def mkd {α:Type} (w:List α) (i:Nat):List (Bool×α):=(w.take i).map (fun y=>(false,y))++(w.drop i).map (fun y=>(true,y))
theorem z0ac {α:Type} {w:List α} {i:Nat}:(mkd w i).length=w.length:=by
 unfold mkd
 rw[List.length_append,List.length_map,List.length_map,<-List.length_append,List.take_append_drop]
theorem z08l {α:Type} {w:List α} {i:Nat} (h:i<w.length) {d:Bool×α}:List.getD (mkd w i) i d=(true,w[i]):=by
 have hl:((w.take i).map (fun y=>(false,y))).length=i:=by simp;omega
 unfold mkd
 rw[List.getD_eq_getElem?_getD,List.getElem?_append_right (by omega),hl,Nat.sub_self,List.getElem?_map,List.getElem?_drop,Nat.add_zero,List.getElem?_eq_getElem h]
 rfl
theorem z086 {α:Type} {w:List α} {i:Nat} (h:i<w.length):List.set (mkd w i) i (false,w[i])=mkd w (i+1):=by
 have hl:((w.take i).map (fun y=>(false,y))).length=i:=by simp;omega
 unfold mkd
 rw[List.set_append,hl,if_neg (by omega),Nat.sub_self,List.drop_eq_getElem_cons h,List.map_cons,List.set_cons_zero,z07 h,List.map_append,List.append_assoc]
 rfl
theorem ztm {x:z0e} {l:List z00}:zey x l (z9t x l):=ztr _ _ _ (by
 unfold zk7
 refine⟨_,zr6,z0u (fun h=>by unfold z9t;rw[h];rfl) (fun h=>?_)⟩
 obtain⟨hw,hl⟩:=zru h
 refine⟨_,zo4,_,zuh zbn hw hl rfl,z0g fun _=>?_⟩
 have hlen:(zh5 x.2.1 l zbn).length<=27000:=Nat.le_trans (zdm hw.few) (z015 hl)
 unfold z9t
 rw[h,if_pos rfl]
 rw[show List.map (fun y=>(true,y)) (zh5 x.2.1 l zbn)=mkd (zh5 x.2.1 l zbn) 0 from rfl]
 refine z1g (zh5 x.2.1 l zbn) dedG [] (fun i s=>((i:Int),(s,(mkd (zh5 x.2.1 l zbn) i,())))) List.length 1 27000 hlen (fun s f _=>zvo s f) ?_ ?_
 . intro i hi s X hs hX
   refine bcI hi (inI (by rw[z0ac];exact hi) ?_)
   simp only[Int.toNat_natCast]
   rw[z08l hi]
   refine⟨rfl,_,zx5,?_⟩
   simp only
   rw[z086 hi,z02 (by omega)]
   unfold dedG at hX
   refine z0ck (fun h4=>⟨by simp only[z0v,List.length_nil,List.length_cons]at *;omega,?_⟩) (fun h4=>?_)
   . rw[if_neg h4]at hX;exact hX
   . rw[if_pos h4]at hX;exact hX
 . intro X _
   exact bcN rfl)
theorem zke {x:z0e} {l:List z00}:zb3 x l (z9t x l):=zsy _ _ _ (by
 unfold zkj
 refine⟨_,z0aw,z0u (fun h=>by unfold z9t;rw[h];rfl) (fun h=>?_)⟩
 obtain⟨hw,hl⟩:=zru h
 refine⟨_,z02b,_,zu1 hw hl l.length 0 zbn (by omega) rfl,?_⟩
 rw[List.drop_zero]
 have hlen:(zh5 x.2.1 l zbn).length<=27000:=Nat.le_trans (zdm hw.few) (z015 hl)
 unfold z9t
 rw[h,if_pos rfl]
 refine z1g (zh5 x.2.1 l zbn) dedG [] (fun i s=>((i:Int),(s,(zh5 x.2.1 l zbn,())))) List.length 1 27000 hlen (fun s f _=>zvo s f) ?_ ?_
 . intro i hi s X hs hX
   refine z0g fun _=>bcI hi ?_
   simp only
   rw[z02 (by omega)]
   refine zbg s (fun(m:Bool) c=>m||decide (c=(zh5 x.2.1 l zbn)[i])) false (fun j m=>(m,((j:Int),()))) ?_ ?_
   . intro j hj Y hY
     refine z0g fun _=>bcI hj ?_
     simp only
     rw[z02 (by simp at hs;omega)]
     generalize (s.take j).foldl (fun(m:Bool) c=>m||decide (c=(zh5 x.2.1 l zbn)[i])) false=m at hY ⊢
     cases m with
     |true=>exact bcT hY
     | false=>
       refine bcF (inI hj (inI hi ⟨_,zlr,?_⟩))
       rw[z1m hj,z1m hi]
       have:(zjc s[j] (zh5 x.2.1 l zbn)[i] == (0:Int))=decide (s[j]=(zh5 x.2.1 l zbn)[i]):=by
        by_cases he:s[j]=(zh5 x.2.1 l zbn)[i]
        . rw[cmpL_zero.mpr he];simp[he]
        . have:zjc s[j] (zh5 x.2.1 l zbn)[i]≠0:=fun e=>he (cmpL_zero.mp e)
          simp[he,this]
       rw[this];simpa using hY
   . intro Y
     refine z0g fun _=>bcN ?_
     simp only
     have hm:∀(s:List (List Int)) (m:Bool),s.foldl (fun(m:Bool) c=>m||decide (c=(zh5 x.2.1 l zbn)[i])) m=(m||decide ((zh5 x.2.1 l zbn)[i]∈s)):=by
      intro s
      induction s with
      |nil=>intro m;simp
      | cons c s ih=>
        intro m
        rw[List.foldl_cons,ih,Bool.or_assoc]
        congr 1
        by_cases he:c=(zh5 x.2.1 l zbn)[i]
        . simp[he]
        . have:¬ (zh5 x.2.1 l zbn)[i]=c:=fun e=>he e.symm
          simp[he,this]
     rw[hm,Bool.false_or]
     unfold dedG at hX
     refine z0ck (fun h4=>inI hi ⟨by simp only[z0v,List.length_nil,List.length_cons]at *;omega,?_⟩) (fun h4=>?_)
     . rw[z1m hi];rw[if_neg h4]at hX;exact hX
     . rw[if_pos h4]at hX;exact hX
 . intro X _
   exact z0g fun _=>bcN rfl)
def z05a (b:List Int) (t:Int):Option Int:=if 0<=t then(if (b.length:Int)<=t then none else if znb (b.getD t.toNat 0)then some (b.getD t.toNat 0)else none)else(if znb (-1 - t)then some (-1 - t)else none)
def zhg (b:List Int) (s:List Int) (t:Int):Unit ⊕ List Int:=match z05a b t with
 |none=>.inl ()
 |some v=>.inr (s++[v])
def inst (a:z00) (b:List Int):z00:=match zcm (zhg b) a.2.1 []with
 |.inl _=>z0h
 |.inr s=>(a.1,(s,()))
def zai (a:z00) (b:List Int):Bool:=match zcm (zhg b) a.2.1 []with
 |.inl _=>false
 |.inr _=>true
theorem zlq {b:List Int}:∀ {l:List Int} {s s':List Int},zcm (zhg b) l s = .inr s'->s'.length=s.length+l.length
 |[],s,s',h=>by simp only[zcm,Sum.inr.injEq]at h;subst h;simp
 | t::l,s,s',h=>by
   simp only[zcm]at h
   unfold zhg at h
   cases e:z05a b t with
   |none=>rw[e]at h;simp at h
   | some v=>
     rw[e]at h
     have:=zlq (b:=b) (l:=l) h
     simp at this ⊢
     omega
theorem z0by {a:z00} {b:List Int}:(inst a b).2.1.length<=a.2.1.length:=by
 unfold inst
 cases e:zcm (zhg b) a.2.1 []with
 |inl _=>simp
 |inr s=>have:=zlq e;simp at this ⊢;omega
theorem z09v {a:z00} {b:List Int} {r:Unit} (h:zcm (zhg b) a.2.1 [] = .inl r):((z0h,(false,())):z00×Bool×Unit)=(inst a b,(zai a b,())):=by unfold inst zai;rw[h]
theorem z04h {a:z00} {b s:List Int} (h:zcm (zhg b) a.2.1 [] = .inr s):(((a.1,(s,())),(true,())):z00×Bool×Unit)=(inst a b,(zai a b,())):=by unfold inst zai;rw[h]
theorem zb2 {a:z00} {b:List Int} (hl:a.2.1.length<=1000) (hb:b.length<=1000) (ht:∀ t∈a.2.1,-10<=t/\t<5):z6q a b (inst a b) (zai a b):=zt1 _ _ _ _ (by
 unfold zk9
 refine z0g fun _=>zjf a.2.1 (zhg b) [] (fun i s=>((i:Int),(z0h,((a.1,(s,())),())))) (KR:=fun _=>((z0h,(false,())):z00×Bool×Unit)=(inst a b,(zai a b,()))) ?_ ?_ (fun r hr=>z09v hr)
 . intro i hi s X hr h1 h2
   have hs:=zlq hr
   have htr:=ht _ (List.getElem_mem hi)
   refine bcI hi (inI hi ?_)
   simp only
   rw[z1m hi,z02 (by omega)]
   unfold zhg z05a at h1 h2
   rw[List.length_take,List.length_nil]at hs
   refine z09 (fun h3=>z0g fun _=>z09 (fun h4=>?_) (fun h4=>⟨⟨by omega,by omega⟩,_,z9x,z0u (fun h5=>?_) (fun h5=>⟨by simp only[z0v,List.length_cons,List.length_nil];omega,?_⟩)⟩)) (fun h3=>⟨_,z9x,?_⟩)
   . exact h1 () (by rw[if_pos (by omega),if_pos (by omega)])
   . exact h1 () (by rw[if_pos (by omega),if_neg (by omega),h5];rfl)
   . exact h2 _ (by rw[if_pos (by omega),if_neg (by omega),h5];rfl)
   . rw[z2l (by omega) (by omega)]
     refine z0u (fun h5=>?_) (fun h5=>⟨by simp only[z0v,List.length_cons,List.length_nil];omega,?_⟩)
     . exact h1 () (by rw[if_neg (by omega),h5];rfl)
     . exact h2 _ (by rw[if_neg (by omega),h5];rfl)
 . intro s X hr
   exact bcN (z04h hr))
theorem zb0 {a:z00} {b:List Int} (hl:a.2.1.length<=1000) (hb:b.length<=1000) (ht:∀ t∈a.2.1,-10<=t/\t<5):z6l a b (inst a b) (zai a b):=zt4 _ _ _ _ (by
 unfold zk0
 refine zjf a.2.1 (zhg b) [] (fun i s=>((i:Int),(z0h,((a.1,(s,())),())))) (KR:=fun _=>((z0h,(false,())):z00×Bool×Unit)=(inst a b,(zai a b,()))) ?_ ?_ (fun r hr=>z09v hr)
 . intro i hi s X hr h1 h2
   have hs:=zlq hr
   have htr:=ht _ (List.getElem_mem hi)
   refine z0g fun _=>bcI hi (inI hi (inI hi ?_))
   simp only
   rw[z1m hi,z02 (by omega)]
   unfold zhg z05a at h1 h2
   rw[List.length_take,List.length_nil]at hs
   refine z09 (fun h3=>inI hi (z0g fun _=>z09 (fun h4=>?_) (fun h4=>inI hi ⟨⟨by omega,by omega⟩,_,z9w,z0u (fun h5=>?_) (fun h5=>inI hi (z09 (fun h6=>by omega) (fun h6=>⟨by simp only[z0v,List.length_cons,List.length_nil];omega,?_⟩)))⟩))) (fun h3=>⟨_,z9w,?_⟩)
   . exact h1 () (by rw[if_pos (by omega),if_pos (by omega)])
   . exact h1 () (by rw[if_pos (by omega),if_neg (by omega),h5];rfl)
   . exact h2 _ (by rw[if_pos (by omega),if_neg (by omega),h5];rfl)
   . rw[z2l (by omega) (by omega)]
     refine z0u (fun h5=>?_) (fun h5=>inI hi (z09 (fun _=>z09 (fun h6=>by omega) (fun _=>⟨by simp only[z0v,List.length_cons,List.length_nil];omega,?_⟩)) (fun h6=>by omega)))
     . exact h1 () (by rw[if_neg (by omega),h5];rfl)
     . exact h2 _ (by rw[if_neg (by omega),h5];rfl)
 . intro s X hr
   exact z0g fun _=>bcN (z04h hr))
theorem zdu {k:Int} (h0:0<=k) (h1:k<=1000000):z9f k (-1 - k):=zxv _ _ (by unfold zo7;rw[z2l (by omega) (by omega)])
theorem zdw {k:Int} (h0:0<=k) (h1:k<=1000000):z9h k (-1 - k):=zyb _ _ (by unfold zoo;rw[z2l (by omega) (by omega)])
theorem zcy {α:Type} [BEq α] [LawfulBEq α] [DecidableEq α] {l:List α} {b:α}:(l.any fun t=>decide (t=b))=decide (b∈l):=by
 rw[<-zss]
 congr 1;funext t
 by_cases h:t=b
 . simp[h]
 . have:¬ b=t:=fun e=>h e.symm
   simp[h,this]
theorem ziy {l:List z00} {f:z00}:zco l f (decide (f∈l)):=z06z _ _ _ (by
 unfold zvg
 refine⟨_,z7u (fun t=>decide (t=f)) (fun t _=>zye _ _ _ ⟨_,zgi,rfl⟩),?_⟩
 rw[zcy])
def place (l:List z00) (f:z00):Int:=if z03 (fun x=>decide (x=f)) l<l.length then(z03 (fun x=>decide (x=f)) l:Int)else -1
theorem z04d {l:List z00} {f:z00}:decide (place l f>=0)=decide (f∈l):=by
 have:=zfg (fun x=>decide (x=f)) l
 rw[zcy]at this
 exact this
theorem zgm {l:List z00} {f:z00} (h:f∈l):∃ p:Nat,place l f=p/\∃ hp:p<l.length,l[p]=f:=by
 have h1:z03 (fun x=>decide (x=f)) l<l.length:=firstAt_any.mpr (by rw[zcy];simpa using h)
 refine⟨_,by unfold place;rw[if_pos h1],h1,?_⟩
 simpa using z9c h1
theorem zyc {l:List z00} {f:z00} (h:f∉l):place l f = -1:=by
 unfold place
 rw[if_neg]
 intro h1
 have:=firstAt_any.mp h1
 rw[zcy]at this
 exact h (by simpa using this)
theorem zw0 {x f:z00}:(z8b x f == (0:Int))=decide (x=f):=by
 by_cases h:x=f
 . rw[cmpF_zero.mpr h];simp[h]
 . have:z8b x f≠0:=fun e=>h (cmpF_zero.mp e)
   simp[h,this]
theorem zfs {x:z0e} {f:z00}:zam x f (place x.2.1 f):=z05i _ _ _ (by
 unfold zuq
 refine zas x.2.1 (fun t=>decide (t=f)) (fun i=>((i:Int),())) (KT:=fun i=>(((i:Int),()):Int×Unit)=(place x.2.1 f,())) (KF:=(((-1:Int),()):Int×Unit)=(place x.2.1 f,())) ?_ ?_ ?_ ?_
 . intro i hi X h1 h2
   refine z0g fun _=>bcI hi (inI hi ⟨_,za3,?_⟩)
   simp only
   rw[z1m hi,zw0,z02 (by omega)]
   exact z1e h1 h2
 . intro X h;exact z0g fun _=>bcN h
 . intro h;unfold place;rw[if_pos h]
 . intro h;unfold place;rw[if_neg (by omega)])
theorem z7k {x:z0e} {f:z00}:z5l x f (z3a x&&decide (f∈x.2.1)):=zqw _ _ _ (by
 unfold zio
 refine⟨_,z2x,z1e (fun h=>⟨_,zfs,?_⟩) (fun h=>by rw[h];rfl)⟩
 rw[z04d,h,Bool.true_and])
theorem zur:∀ {x y z:List Int},zjc x y<0->zjc y z<0->zjc x z<0
 |[],[],z,h,_=>by simp[zjc]at h
 |[],b::y,[],_,h=>by simp[zjc]at h
 |[],b::y,c::z,_,_=>by simp[zjc]
 |a::x,[],z,h,_=>by simp[zjc]at h
 |a::x,b::y,[],_,h=>by simp[zjc]at h
 | a::x,b::y,c::z,h1,h2=>by
   simp only[zjc]at h1 h2 ⊢
   have ih:=zur (x:=x) (y:=y) (z:=z)
   split at h1
   . split at h2
     . rw[if_pos (by omega)];omega
     . split at h2
       . omega
       . rw[if_pos (by omega)];omega
   . split at h1
     . omega
     . split at h2
       . rw[if_pos (by omega)];omega
       . split at h2
         . omega
         . rw[if_neg (by omega),if_neg (by omega)];exact ih h1 h2
theorem zaq {x y z:z00} (h1:z8b x y<0) (h2:z8b y z<0):z8b x z<0:=by
 unfold z8b at *
 split at h1
 . split at h2
   . rw[if_pos (by omega)];omega
   . split at h2
     . omega
     . rw[if_pos (by omega)];omega
 . split at h1
   . omega
   . split at h2
     . rw[if_pos (by omega)];omega
     . split at h2
       . omega
       . rw[if_neg (by omega),if_neg (by omega)];exact zur h1 h2
def asc (l:List z00):Prop:=∀ i j (hj:j<l.length) (hij:i<j),z8b (l[i]'(by omega)) l[j]<0
theorem zlo {x:z0e} (h:z3a x=true):asc x.2.1:=by
 have step:∀ i (hi:i+1<x.2.1.length),z8b (x.2.1[i]'(by omega)) x.2.1[i+1]<0:=by
  intro i hi
  unfold z3a at h
  simp only[Bool.and_eq_true]at h
  have:=List.all_eq_true.mp h.2 (i+1) (by simpa using hi)
  unfold z95 at this
  simp only[Bool.and_eq_true]at this
  have:=this.1.2
  rw[show(i+1 == 0)=false by simp,Bool.false_or]at this
  have h:=of_decide_eq_true this
  rw[Nat.add_sub_cancel,z2p (by omega),z2p hi]at h
  exact h
 have all:∀ k i (hk:i+1+k<x.2.1.length),z8b (x.2.1[i]'(by omega)) x.2.1[i+1+k]<0:=by
  intro k
  induction k with
  |zero=>intro i hk;exact step i hk
  |succ k ih=>intro i hk;exact zaq (ih i (by omega)) (step (i+1+k) hk)
 intro i j hj hij
 obtain⟨k,rfl⟩:∃ k,j=i+1+k:=⟨j - i - 1,by omega⟩
 exact all k i hj
theorem midI {i j:Nat} (hi:i<=1000) (hj:j<=1000):w64 (Int.fdiv (IntKind.u64.wrap (w64 ((i:Int)+(j:Int)))) (2 ^ (min (Int.toNat (1:Int)) (IntKind.bits .u64))))=(((i+j) / 2:Nat):Int):=by
 rw[z2l (n:=(i:Int)+(j:Int)) (by omega) (by omega)]
 have e1:IntKind.u64.wrap ((i:Int)+(j:Int))=(i:Int)+(j:Int):=by
  simp only[IntKind.wrap,IntKind.signed,IntKind.bits]
  simp
  omega
 have e2:(2:Int) ^ (min (Int.toNat (1:Int)) (IntKind.bits .u64))=2:=by decide
 rw[e1,e2,Int.fdiv_eq_ediv_of_nonneg _ (by omega),z2l (by omega) (by omega)]
 omega
theorem z09o {l:List z00} {f:z00} (hl:l.length<=30) (ha:asc l) :
  ∃ p:Nat,z17 l f () p (decide (f∈l))/\(f∈l->place l f=p/\p<l.length):=by
 suffices h:∃ p:Nat,p<=l.length/\(∀ j (h:j<l.length),j<p->z8b l[j] f<0)/\(∀ j (h:j<l.length),p<=j->¬ z8b l[j] f<0) by
  obtain⟨p,hp,h1,h2⟩:=h
  have key:∀ q (hq:q<l.length),l[q]=f->q=p:=by
   intro q hq he
   have hz:z8b l[q] f=0:=cmpF_zero.mpr he
   have hge:p<=q:=by
    rcases Nat.lt_or_ge q p with h|h
    . have:=h1 q hq h;omega
    . exact h
   rcases Nat.lt_or_ge p q with h|h
   . have:=ha p q hq h
     rw[he]at this
     exact absurd this (h2 p (by omega) (Nat.le_refl _))
   . omega
  refine⟨p,z4w _ _ _ _ _ ?_,fun hm=>?_⟩
  . unfold z2k
    refine z0g fun _=>?_
    refine z1i (fun k s=>∃ i j:Nat,s=((i:Int),((j:Int),()))/\j - i<=k/\i<=p/\p<=j/\j<=l.length) ?_ ?_ (n:=l.length) ⟨0,l.length,rfl,by omega,by omega,hp,by omega⟩
    . rintro s ⟨i,j,rfl,hk,hi,hj,hjl⟩ X
      obtain rfl:i=p:=by omega
      obtain rfl:j=i:=by omega
      refine z09 (fun h=>by simp only at h;omega) (fun _=>?_)
      have hfin:∀(h:j<l.length),(z8b l[j] f == (0:Int))=decide (f∈l):=by
       intro h
       rw[zw0]
       refine decide_eq_decide.mpr ⟨fun e=>e ▸ List.getElem_mem h,fun hm=>?_⟩
       obtain⟨q,hq,he⟩:=List.mem_iff_getElem.mp hm
       obtain rfl:=key q hq he
       exact he
      refine z09 (fun h=>?_) (fun h=>?_)
      . have h:j<l.length:=by simp only at h;omega
        refine inI h ⟨_,z58,?_⟩
        rw[z1m h,hfin h]
      . have h:l.length<=j:=by simp only at h;omega
        have:f∉l:=fun hm=>by
         obtain⟨q,hq,he⟩:=List.mem_iff_getElem.mp hm
         have:=key q hq he
         omega
        rw[decide_eq_false this]
    . rintro k s ⟨i,j,rfl,hk,hi,hj,hjl⟩ X hX
      by_cases hij:i<j
      . refine z09 (fun _=>?_) (fun h=>by simp only at h;omega)
        simp only
        rw[midI (by omega) (by omega)]
        have hm:(i+j) / 2<l.length:=by omega
        refine⟨by omega,⟨by omega,by omega⟩,_,z58,?_⟩
        rw[z1m hm]
        refine z09 (fun h=>?_) (fun h=>?_)
        . rw[z02 (by omega)]
          refine hX _ ⟨(i+j) / 2+1,j,rfl,by omega,?_,hj,hjl⟩
          rcases Nat.lt_or_ge ((i+j) / 2) p with h'|h'
          . omega
          . exact absurd h (h2 _ hm h')
        . refine hX _ ⟨i,(i+j) / 2,rfl,by omega,hi,?_,by omega⟩
          rcases Nat.lt_or_ge ((i+j) / 2) p with h'|h'
          . exact absurd (h1 _ hm h') h
          . exact h'
      . obtain rfl:i=p:=by omega
        obtain rfl:j=i:=by omega
        refine z09 (fun h=>by simp only at h;omega) (fun _=>?_)
        have hfin:∀(h:j<l.length),(z8b l[j] f == (0:Int))=decide (f∈l):=by
         intro h
         rw[zw0]
         refine decide_eq_decide.mpr ⟨fun e=>e ▸ List.getElem_mem h,fun hm=>?_⟩
         obtain⟨q,hq,he⟩:=List.mem_iff_getElem.mp hm
         obtain rfl:=key q hq he
         exact he
        refine z09 (fun h=>?_) (fun h=>?_)
        . have h:j<l.length:=by simp only at h;omega
          refine inI h ⟨_,z58,?_⟩
          rw[z1m h,hfin h]
        . have h:l.length<=j:=by simp only at h;omega
          have:f∉l:=fun hm=>by
           obtain⟨q,hq,he⟩:=List.mem_iff_getElem.mp hm
           have:=key q hq he
           omega
          rw[decide_eq_false this]
  . obtain⟨q,e1,hq,e2⟩:=zgm hm
    have:=key q hq e2
    subst this
    exact⟨e1,hq⟩
 refine⟨z03 (fun t=>!decide (z8b t f<0)) l,zfe _ _,fun j hj h=>?_,fun j hj h h3=>?_⟩
 . have:=z9g hj h
   simpa using this
 . have hp:z03 (fun t=>!decide (z8b t f<0)) l<l.length:=by omega
   have h4:=z9c hp
   simp only[Bool.not_eq_true',decide_eq_false_iff_not]at h4
   rcases Nat.lt_or_ge (z03 (fun t=>!decide (z8b t f<0)) l) j with h5|h5
   . exact h4 (zaq (ha _ j hj h5) h3)
   . have:z03 (fun t=>!decide (z8b t f<0)) l=j:=by omega
     simp only[this]at h4
     exact h4 h3
theorem z0ae {l:List z0s} {ats:List z00} (h:∀ a∈ats,z74 l a=true) {v:Int} (hv:v∈vars ats):0<=v/\v<5:=by
 unfold vars at hv
 rw[mem_sset,List.mem_filter]at hv
 obtain⟨h1,h2⟩:=hv
 obtain⟨a,ha,h3⟩:=List.mem_flatMap.mp h1
 have:=inR_iff.mp ((z37 (h a ha)).2.2.2.2.2 v h3)
 have:0<=v:=by simpa using h2
 omega
structure DOk (d:z0b):Prop where
 sm:zwe d
 ex:∀ v∈exV d,0<=v/\v<5
 fr:∀ v∈frV d,0<=v/\v<5
 hd:d.2.1.length<=2/\∀ a∈d.2.1,a.2.1.length<=3/\∀ t∈a.2.1,-10<=t/\t<5
 bd:d.1.length<=2/\∀ a∈d.1,a.2.1.length<=3/\∀ t∈a.2.1,-10<=t/\t<5
theorem z091 {l:List z0s} {d:z0b} (h:ziz l d=true):DOk d:=by
 have hs:=z6a h
 have row:∀ ats:List z00,(∀ a∈ats,z74 l a=true)->∀ a∈ats,a.2.1.length<=3/\∀ t∈a.2.1,-10<=t/\t<5:=fun ats h a ha=>by
  have:=z37 (h a ha)
  exact⟨this.2.2.2.2.1,fun t ht=>by have:=inR_iff.mp (this.2.2.2.2.2 t ht);omega⟩
 exact⟨z03x h,fun v hv=>z0ae hs.2.2.2.2.1 (List.mem_filter.mp hv).1,fun v hv=>z0ae hs.2.2.2.2.1 (List.mem_filter.mp hv).1,⟨hs.2.2.2.1,row _ hs.2.2.2.2.1⟩,⟨hs.2.1,row _ hs.2.2.1⟩⟩
def z7g (d:z0b) (b:List Int):List Int:=(frV d).foldl (fun s v=>s++[b.getD v.toNat 0]) []
theorem zny {d:z0b} (h:zwe d) (b:List Int):(z7g d b).length<=6:=by
 have:=z88 (l:=frV d) (g:=fun s v=>s++[b.getD v.toNat 0]) (s:=[]) (μ:=List.length) (c:=1) fun s v _=>by simp
 have:=znr h
 unfold z7g
 simp at *
 omega
def zhh (d:z0b) (i:Int) (b:List Int) (v:Int):z08:=(i,(v,(z7g d b,())))
theorem zrr {ts:List z08} {t:z08} (h:t∈ts):0<=zbi ts t/\zbi ts t<ts.length:=by
 have h1:z03 (fun x=>decide (x=t)) ts<ts.length:=firstAt_any.mpr (by rw[zcy];simpa using h)
 unfold zbi
 rw[if_pos h1];omega
theorem ztx {ts:List z08} {t:z08} (h:t∉ts):zbi ts t = -1:=by
 unfold zbi
 rw[if_neg]
 intro h1
 have:=firstAt_any.mp h1
 rw[zcy]at this
 exact h (by simpa using this)
def hdG (d:z0b) (i:Int) (b:List Int) (s:List z08×List Int) (v:Int):List z08×List Int:=
 if zhh d i b v∈s.1 then(s.1,s.2.set v.toNat (-1 - zbi s.1 (zhh d i b v)))else(s.1++[zhh d i b v],s.2.set v.toNat (-1 - (s.1.length:Int)))
def hdS (ts:List z08) (d:z0b) (i:Int) (b:List Int):List z08×List Int:=(exV d).foldl (hdG d i b) (ts,b)
def valG (ts:List z08) (d:z0b) (i:Int) (b:List Int) (vs:List Int) (v:Int):List Int:=vs.set v.toNat (-1 - zbi ts (zhh d i b v))
theorem z04r {d:z0b} {i:Int} {b:List Int}:∀ {l:List Int} {s:List z08×List Int},s.1.length<=(l.foldl (hdG d i b) s).1.length
 |[],s=>Nat.le_refl _
 | v::l,s=>by
   rw[List.foldl_cons]
   refine Nat.le_trans ?_ z04r
   unfold hdG
   split<;>simp
theorem z024 {d:z0b} {i:Int} {b:List Int} {ts:List z08}:∀ {l:List Int} {vs:List Int},(∀ v∈l,zhh d i b v∈ts)->l.foldl (hdG d i b) (ts,vs)=(ts,l.foldl (valG ts d i b) vs)
 |[],vs,_=>rfl
 | v::l,vs,h=>by
   rw[List.foldl_cons,List.foldl_cons]
   have:hdG d i b (ts,vs) v=(ts,valG ts d i b vs v):=by unfold hdG valG;rw[if_pos (h v (by simp))]
   rw[this]
   exact z024 fun v hv=>h v (by simp[hv])
theorem z02f {d:z0b} {i:Int} {b:List Int} {ts:List z08}:∀ {l:List Int} {vs:List Int},(l.foldl (hdG d i b) (ts,vs)).1.length=ts.length->∀ v∈l,zhh d i b v∈ts
 |[],vs,_=>by simp
 | v::l,vs,h=>by
   rw[List.foldl_cons]at h
   by_cases hv:zhh d i b v∈ts
   . have:hdG d i b (ts,vs) v=(ts,valG ts d i b vs v):=by unfold hdG valG;rw[if_pos hv]
     rw[this]at h
     intro u hu
     rcases List.mem_cons.mp hu with rfl|hu
     . exact hv
     . exact z02f h u hu
   . have h1:=z04r (d:=d) (i:=i) (b:=b) (l:=l) (s:=hdG d i b (ts,vs) v)
     have h2:(hdG d i b (ts,vs) v).1.length=ts.length+1:=by unfold hdG;rw[if_neg hv];simp
     omega
theorem zwg (d:z0b) (i:Int) (b:List Int) (s:List z08×List Int) (v:Int):(hdG d i b s v).2.length=s.2.length:=by unfold hdG;split<;>simp
theorem zwc (d:z0b) (i:Int) (b:List Int) (s:List z08×List Int) (v:Int):(hdG d i b s v).1.length<=s.1.length+1:=by unfold hdG;split<;>simp
def z8j (d:z0b) (vs:List Int):List z00:=d.2.1.foldl (fun out a=>out++[inst a vs]) []
theorem zj1 {α β:Type} (f:α->β):∀(l:List α) (s:List β),l.foldl (fun out a=>out++[f a]) s=s++l.map f
 |[],s=>by simp
 |a::l,s=>by rw[List.foldl_cons,zj1 f l];simp
def zst (ts:List z08) (d:z0b) (i:Int) (b:List Int) (f:z00):Bool:=
 (exV d).all (fun v=>decide (zhh d i b v∈ts))&&d.2.1.any fun a=>decide (inst a ((exV d).foldl (valG ts d i b) b)=f)
theorem z91 {l:List z08} (h:l.length<=1099511627776):z3f l l:=zeh _ _ (by
 unfold z8w
 refine z1e (fun he=>⟨?_,by simp only[z0v,List.length_nil];omega,by rw[List.nil_append]⟩) (fun _=>⟨by simp only[z0v,List.length_nil];omega,by rw[List.nil_append]⟩)
 have:l=[]:=List.isEmpty_iff.mp he
 rw[this])
theorem zzj {ts:List z08} {ds:List z0b} {i:Nat} {b:List Int} (hi:i<ds.length) (hd:DOk ds[i]) (hts:ts.length<=30) (hb:b.length=5) :
  zib ts ds i b (z8j ds[i] (hdS ts ds[i] i b).2) (hdS ts ds[i] i b).1:=zyf _ _ _ _ _ _ (by
 unfold zo5
 obtain⟨hs1,hs2⟩:=hd.sm
 have hfl:=znr hd.sm
 have hel:=zs2 hd.sm
 have hal:=zny hd.sm b
 refine inI hi ⟨_,z2f (by omega),_,zc6 (d:=ds.getD (Int.toNat (i:Int)) z67) (by rw[z1m hi];omega) (by rw[z1m hi];omega),?_⟩
 rw[z1m hi]
 refine z0g fun _=>z1g (frV ds[i]) (fun s v=>s++[b.getD v.toNat 0]) [] (fun j s=>((j:Int),(s,()))) List.length 1 6 hfl (fun s v _=>by simp) ?_ ?_
 . intro j hj s X hs hX
   have hv:=hd.fr _ (List.getElem_mem hj)
   refine bcI hj (inI hj ?_)
   simp only
   rw[z1m hj,z02 (by omega)]
   exact⟨⟨by omega,by omega⟩,by simp only[z0v,List.length_cons,List.length_nil]at *;omega,hX⟩
 . intro X _
   refine bcN ⟨_,z91 (by omega),_,z9s (by omega) (by omega),z0g fun _=>?_⟩
   refine z1g (exV ds[i]) (hdG ds[i] i b) (ts,b) (fun j s=>((j:Int),(s.1,(s.2,())))) (fun s=>s.1.length+(if s.2.length=5 then 0 else 1000000)) 1 6 hel (fun s v _=>by rw[zwg];have:=zwc ds[i] i b s v;omega) ?_ ?_
   . intro j hj s Y hs hY
     have hv:=hd.ex _ (List.getElem_mem hj)
     have h5:s.2.length=5/\s.1.length<=36:=by
      rw[if_pos hb]at hs
      by_cases h:s.2.length=5
      . rw[if_pos h]at hs;simp only at hs;omega
      . rw[if_neg h]at hs;simp only at hs;omega
     refine bcI hj (inI hj ⟨_,z2f (by show(z7g ds[i] b).length<=_;omega),_,zsh,?_⟩)
     simp only
     rw[z1m hj,z02 (by omega)]
     have e:(((i:Int),((exV ds[i])[j],((frV ds[i]).foldl (fun s v=>s++[b.getD v.toNat 0]) [],()))):z08)=zhh ds[i] i b (exV ds[i])[j]:=rfl
     rw[e]
     unfold hdG at hY
     by_cases hm:zhh ds[i] i b (exV ds[i])[j]∈s.1
     . have h6:=zrr hm
       rw[if_pos hm]at hY
       refine z09 (fun h=>by omega) (fun _=>⟨_,zdu h6.1 (by omega),⟨by omega,by omega⟩,hY⟩)
     . rw[ztx hm]
       rw[if_neg hm]at hY
       refine z09 (fun _=>z0g fun _=>⟨by simp only[z0v,List.length_cons,List.length_nil];omega,_,zdu (by omega) (by omega),⟨by omega,by omega⟩,hY⟩) (fun h=>by omega)
   . intro Y hs
     have h5:(hdS ts ds[i] i b).2.length=5:=by
      rw[if_pos hb]at hs
      by_cases h:(hdS ts ds[i] i b).2.length=5
      . exact h
      . unfold hdS at h;rw[if_neg h]at hs;simp only at hs;omega
     refine bcN (z0g fun _=>?_)
     refine z1g ds[i].2.1 (fun out a=>out++[inst a (hdS ts ds[i] i b).2]) [] (fun j s=>((j:Int),(s,()))) List.length 1 2 hd.hd.1 (fun s a _=>by simp) ?_ ?_
     . intro j hj s Z hs hZ
       have ha:=hd.hd.2 _ (List.getElem_mem hj)
       refine bcI hj (inI hj ⟨_,_,zb2 (a:=(ds[i].2.1).getD (Int.toNat (j:Int)) z0h) (b:=(hdS ts ds[i] i b).2) (by rw[z1m hj];omega) (by omega) (by rw[z1m hj];exact ha.2),?_⟩)
       simp only
       rw[z1m hj,z02 (by omega)]
       exact⟨by simp only[z0v,List.length_cons,List.length_nil]at *;omega,hZ⟩
     . intro Z _
       exact bcN rfl)
theorem zp5 {ts:List z08} {ds:List z0b} {i:Nat} {b:List Int} (hi:i<ds.length) (hd:DOk ds[i]) (hts:ts.length<=30) (hb:b.length=5) :
  zc1 ts ds i b (z8j ds[i] (hdS ts ds[i] i b).2) (hdS ts ds[i] i b).1 b:=zpb _ _ _ _ _ _ _ (by
 unfold zgz
 obtain⟨hs1,hs2⟩:=hd.sm
 have hfl:=znr hd.sm
 have hel:=zs2 hd.sm
 have hal:=zny hd.sm b
 refine inI hi ⟨_,z2f (by omega),_,zc6 (d:=ds.getD (Int.toNat (i:Int)) z67) (by rw[z1m hi];omega) (by rw[z1m hi];omega),?_⟩
 rw[z1m hi]
 refine z0g fun _=>z1g (frV ds[i]) (fun s v=>s++[b.getD v.toNat 0]) [] (fun j s=>((j:Int),(s,()))) List.length 1 6 hfl (fun s v _=>by simp) ?_ ?_
 . intro j hj s X hs hX
   have hv:=hd.fr _ (List.getElem_mem hj)
   refine bcI hj (inI hj ?_)
   simp only
   rw[z1m hj,z02 (by omega)]
   exact⟨⟨by omega,by omega⟩,by simp only[z0v,List.length_cons,List.length_nil]at *;omega,hX⟩
 . intro X _
   refine bcN ⟨_,z91 (by omega),_,z9s (by omega) (by omega),z0g fun _=>?_⟩
   refine z1g (exV ds[i]) (hdG ds[i] i b) (ts,b) (fun j s=>((j:Int),(s.1,(s.2,())))) (fun s=>s.1.length+(if s.2.length=5 then 0 else 1000000)) 1 6 hel (fun s v _=>by rw[zwg];have:=zwc ds[i] i b s v;omega) ?_ ?_
   . intro j hj s Y hs hY
     have hv:=hd.ex _ (List.getElem_mem hj)
     have h5:s.2.length=5/\s.1.length<=36:=by
      rw[if_pos hb]at hs
      by_cases h:s.2.length=5
      . rw[if_pos h]at hs;simp only at hs;omega
      . rw[if_neg h]at hs;simp only at hs;omega
     refine bcI hj (inI hj ⟨_,z2f (by show(z7g ds[i] b).length<=_;omega),_,zsh,?_⟩)
     simp only
     rw[z1m hj,z02 (by omega)]
     have e:(((i:Int),((exV ds[i])[j],((frV ds[i]).foldl (fun s v=>s++[b.getD v.toNat 0]) [],()))):z08)=zhh ds[i] i b (exV ds[i])[j]:=rfl
     rw[e]
     unfold hdG at hY
     by_cases hm:zhh ds[i] i b (exV ds[i])[j]∈s.1
     . have h6:=zrr hm
       rw[if_pos hm]at hY
       refine z09 (fun h=>by omega) (fun _=>⟨_,zdu h6.1 (by omega),⟨by omega,by omega⟩,hY⟩)
     . rw[ztx hm]
       rw[if_neg hm]at hY
       refine z09 (fun _=>z0g fun _=>⟨by simp only[z0v,List.length_cons,List.length_nil];omega,_,zdu (by omega) (by omega),⟨by omega,by omega⟩,hY⟩) (fun h=>by omega)
   . intro Y hs
     have h5:(hdS ts ds[i] i b).2.length=5:=by
      rw[if_pos hb]at hs
      by_cases h:(hdS ts ds[i] i b).2.length=5
      . exact h
      . unfold hdS at h;rw[if_neg h]at hs;simp only at hs;omega
     refine bcN (z0g fun _=>?_)
     refine z1g ds[i].2.1 (fun out a=>out++[inst a (hdS ts ds[i] i b).2]) [] (fun j s=>((j:Int),(s,()))) List.length 1 2 hd.hd.1 (fun s a _=>by simp) ?_ ?_
     . intro j hj s Z hs hZ
       have ha:=hd.hd.2 _ (List.getElem_mem hj)
       refine bcI hj (inI hj ⟨_,_,zb2 (a:=(ds[i].2.1).getD (Int.toNat (j:Int)) z0h) (b:=(hdS ts ds[i] i b).2) (by rw[z1m hj];omega) (by omega) (by rw[z1m hj];exact ha.2),?_⟩)
       simp only
       rw[z1m hj,z02 (by omega)]
       exact⟨by simp only[z0v,List.length_cons,List.length_nil]at *;omega,hZ⟩
     . intro Z _
       exact bcN rfl)
def zsb (dp:List Int) (m v:Int):Int:=if z8v v then(if z4v v<(dp.length:Int)then ziu m (dp.getD (z4v v).toNat 0)else m)else m
def z00r (dp:List Int) (t:z08):List Int:=dp++[w64 (t.2.2.1.foldl (zsb dp) 0+1)]
theorem zs9:∀(l:List z08) (s:List Int),(l.foldl z00r s).length=s.length+l.length
 |[],s=>by simp
 |t::l,s=>by rw[List.foldl_cons,zs9];simp[z00r];omega
theorem zob {s:TSk} {t:z08} (hl:s.2.1.length<=30):zcp s t (((s.2.1++[t]).foldl z00r []).getD s.2.1.length 0):=by
 refine z05s _ _ _ ?_
 unfold zv7
 refine z0x (s.2.1.length+1) (fun i=>((i:Int),(((s.2.1++[t]).take i).foldl z00r [],()))) rfl ?_ ?_
 . intro i hi X hX
   have hlen:=zs9 ((s.2.1++[t]).take i) []
   have hin:i<(s.2.1++[t]).length:=by simp;omega
   rw[z07 hin,List.foldl_append]at hX
   simp only[List.foldl_cons,List.foldl_nil]at hX
   rw[List.length_take,List.length_nil,Nat.min_eq_left (by omega)]at hlen
   simp only
   generalize ((s.2.1++[t]).take i).foldl z00r []=dp at hX hlen ⊢
   refine z0g fun _=>z09 (fun _=>z0g fun _=>z09 (fun h=>?_) (fun h=>?_)) (fun h=>by omega)
   . have hi':i<s.2.1.length:=by omega
     rw[List.getElem_append_left hi']at hX
     refine inI hi' ?_
     rw[z1m hi',z02 (by omega)]
     refine zbg s.2.1[i].2.2.1 (zsb dp) 0 (fun j m=>(m,((j:Int),()))) ?_ ?_
     . intro j hj Y hY
       refine z0g fun _=>bcI hj (inI hj ⟨_,_,z9z,?_⟩)
       simp only
       rw[z1m hj,z02 (by omega)]
       generalize (s.2.1[i].2.2.1.take j).foldl (zsb dp) 0=m at hY ⊢
       unfold zsb at hY
       refine z1e (fun h=>z0g fun _=>z09 (fun h2=>⟨⟨zhm _,h2⟩,?_⟩) (fun h2=>?_)) (fun h=>?_)
       . rw[if_pos h,if_pos h2]at hY;exact hY
       . rw[if_pos h,if_neg h2]at hY;exact hY
       . rw[h]at hY;simpa using hY
     . intro Y
       exact z0g fun _=>bcN ⟨by simp only[z0v,List.length_cons,List.length_nil];omega,hX⟩
   . obtain rfl:i=s.2.1.length:=by omega
     rw[show(s.2.1++[t])[s.2.1.length]=t by simp]at hX
     rw[z02 (by omega)]
     refine zbg t.2.2.1 (zsb dp) 0 (fun j m=>(m,((j:Int),()))) ?_ ?_
     . intro j hj Y hY
       refine z0g fun _=>bcI hj (inI hj ⟨_,_,z9z,?_⟩)
       simp only
       rw[z1m hj,z02 (by omega)]
       generalize (t.2.2.1.take j).foldl (zsb dp) 0=m at hY ⊢
       unfold zsb at hY
       refine z1e (fun h=>z0g fun _=>z09 (fun h2=>⟨⟨zhm _,h2⟩,?_⟩) (fun h2=>?_)) (fun h=>?_)
       . rw[if_pos h,if_pos h2]at hY;exact hY
       . rw[if_pos h,if_neg h2]at hY;exact hY
       . rw[h]at hY;simpa using hY
     . intro Y
       exact z0g fun _=>bcN ⟨by simp only[z0v,List.length_cons,List.length_nil];omega,hX⟩
 . intro X
   have hlen:=zs9 (s.2.1++[t]) []
   simp only[List.length_append,List.length_cons,List.length_nil]at hlen
   refine z0g fun _=>z09 (fun h=>by simp only at h;omega) (fun _=>z0g fun _=>?_)
   have e:(s.2.1++[t]).take (s.2.1.length+1)=s.2.1++[t]:=List.take_of_length_le (by simp)
   simp only[e,Int.toNat_natCast]
   exact⟨⟨by omega,by omega⟩,trivial⟩
theorem z06s {s:TSk} {t:z08} (hl:s.2.1.length<=30):∃ y,zcp s t y:=⟨_,zob hl⟩
theorem z0f9 (x y:z08):(x=y)↔x.1=y.1/\x.2.1=y.2.1/\x.2.2.1=y.2.2.1:=by
 obtain⟨a,b,c,u⟩:=x;obtain⟨a',b',c',u'⟩:=y
 simp
def z0go (s:TSk) (t:z08) (K:TSk×Int×Bool×Unit->Prop):Prop:=z0o (s.2.1.length:Int) (z01 ((s.2.1.length:Int) == (30:Int)) (K (s,((0:Int),(false,())))) (∃ y5:Int,zcp s t y5/\
 z01 (decide (y5 > (8:Int))) (K (s,((0:Int),(false,())))) (True/\True/\([]:List z08).length+s.2.1.length<=z0v/\(([]:List z08)++s.2.1).length+([t]:List z08).length<=z0v/\
  z0o (List.length ((([]:List z08)++s.2.1)++([t]:List z08)):Int) (∃ y6:Int,z9h (w64 ((List.length ((([]:List z08)++s.2.1)++([t]:List z08)):Int) - (1:Int))) y6/\
   K ((s.1,((([]:List z08)++s.2.1)++([t]:List z08),s.2.2)),(y6,(true,())))))))
end Go.V

