/-
  The functions that the law reaches: what each gives.
-/
import Derived.Test.YtaipbjannlhhdaaGreatIF
import Derived.Test.YtaipbjannlhhdaaGreatIP
set_option linter.unusedVariables false
set_option linter.unusedSimpArgs false
set_option maxRecDepth 1000000
set_option maxHeartbeats 4000000
set_option linter.unusedVariables false
set_option linter.unusedSimpArgs false
namespace Go.V
open Go
theorem zb3 {x0:List Int} (h:x0.length<=1099511627776):z4n x0 (z45 x0):=z06r h
theorem z8z {x0:List Int}:z3o x0 (zcw x0):=zy9
def cmpI (a b:Int):Int:=if a<b then -1 else if b<a then 1 else 0
def zid:List Int->List Int->Int
 |[],[]=>0
 |[],_::_=>-1
 |_::_,[]=>1
 |a::x,b::y=>if a<b then -1 else if b<a then 1 else zid x y
def zc8 (a b:z00):Int:=if a.1<b.1 then -1 else if b.1<a.1 then 1 else zid a.2.1 b.2.1
theorem cmpL_zero:∀ {x y:List Int},zid x y=0↔x=y
 |[],[]=>by simp[zid]
 |[],b::y=>by simp[zid]
 |a::x,[]=>by simp[zid]
 | a::x,b::y=>by
   unfold zid
   split
   . rename_i h;constructor
     . intro h';cases h'
     . intro h';cases h';omega
   . split
     . rename_i h;constructor
       . intro h';cases h'
       . intro h';cases h';omega
     . rw[cmpL_zero]
       have:a=b:=by omega
       simp[this]
theorem cmpF_zero {x y:z00}:zc8 x y=0↔x=y:=by
 obtain⟨a,b,u⟩:=x;obtain⟨a',b',u'⟩:=y
 unfold zc8
 simp only
 split
 . rename_i h;constructor
   . intro h';cases h'
   . intro h';cases h';omega
 . split
   . rename_i h;constructor
     . intro h';cases h'
     . intro h';cases h';omega
   . rw[cmpL_zero]
     have:a=a':=by omega
     simp[this]
theorem zzd {x y:List Int} {i:Nat} (h:i<x.length) (h':i<y.length):zid (x.drop i) (y.drop i)=if x[i]<y[i] then -1 else if y[i]<x[i] then 1 else zid (x.drop (i+1)) (y.drop (i+1)):=by
 rw[z44 h,z44 h',zid]
theorem z039 {x y:List Int} {i:Nat} (h:x.length<=i):zid (x.drop i) (y.drop i)=if i<y.length then -1 else 0:=by
 rw[List.drop_of_length_le h]
 by_cases h':i<y.length
 . rw[z44 h',if_pos h'];rfl
 . rw[List.drop_of_length_le (by omega),if_neg h'];rfl
theorem cmpL_end' {x y:List Int} {i:Nat} (h:i<x.length) (h':y.length<=i):zid (x.drop i) (y.drop i)=1:=by
 rw[List.drop_of_length_le h',z44 h];rfl
theorem zm5 {x y:List Int}:zei x y (zid x y):=z07a _ _ _ (by
 unfold zx9
 refine z1m (fun k a=>∃ i:Nat,i+k=x.length/\a=((i:Int),())/\i<=y.length/\zid (x.drop i) (y.drop i)=zid x y) ?_ ?_ (n:=x.length) ⟨0,by omega,rfl,by omega,by simp⟩
 . rintro a ⟨i,hi,rfl,hy,hc⟩ X
   obtain rfl:i=x.length:=by omega
   rw[z039 (Nat.le_refl _)]at hc
   refine z0j fun h1=>bcN (z0j fun _=>z0j fun h2=>z08 (fun h=>?_) (fun h=>z0j fun _=>z0j fun _=>z08 (fun h'=>by omega) (fun h'=>?_)))
   . rw[if_pos (by omega)]at hc;rw[<-hc]
   . rw[if_neg (by omega)]at hc;rw[<-hc]
 . rintro k a ⟨i,hi,rfl,hy,hc⟩ X hX
   have hlt:i<x.length:=by omega
   refine z0j fun h1=>bcI hlt (z0j fun h2=>z08 (fun h=>?_) (fun h=>?_))
   . have hlt':i<y.length:=by omega
     refine inI hlt (inI hlt' ?_)
     simp only
     rw[z20 hlt,z20 hlt']
     rw[zzd hlt hlt']at hc
     refine z08 (fun h=>?_) (fun h=>inI hlt (inI hlt' (z08 (fun h'=>?_) (fun h'=>?_))))
     . rw[if_pos h]at hc;rw[<-hc]
     . rw[if_neg h,if_pos h']at hc;rw[<-hc]
     . rw[if_neg h,if_neg (by omega)]at hc
       rw[z04 (by omega)]
       exact hX _ ⟨i+1,by omega,rfl,by omega,hc⟩
   . simp only at h
     rw[cmpL_end' hlt (by omega)]at hc
     refine z0j fun _=>z0j fun _=>z08 (fun h'=>by omega) (fun h'=>z0j fun _=>z0j fun _=>z08 (fun h''=>?_) (fun h''=>by omega))
     rw[<-hc])
theorem z5c {x y:z00}:z3g x y (zc8 x y):=zqt _ _ _ (by
 unfold zgr zc8
 refine z08 (fun h=>by rw[if_pos h]) (fun h=>z08 (fun h'=>by rw[if_neg h,if_pos h']) (fun h'=>⟨_,zm5,by rw[if_neg h,if_neg (by omega)]⟩)))
theorem zhk {x:Int}:z9m x false:=zpz _ _ (by unfold zhf;simp)
theorem zef {x y:Int}:z7q x y (cmpI x y):=zn8 _ _ _ (by
 unfold zev cmpI
 refine⟨_,zhk,_,zhk,bcF (bcF (z08 (fun h=>by rw[if_pos h]) (fun h=>z08 (fun h'=>by rw[if_neg h,if_pos h']) (fun h'=>by rw[if_neg h,if_neg h']))))⟩)
theorem cmpI_zero {a b:Int}:cmpI a b=0↔a=b:=by unfold cmpI;split<;>(try split)<;>omega
theorem ziu {x y:List Int}:z86 x y (zid x y):=zis _ _ _ (by
 unfold zbg
 refine z0j fun h1=>z1m (fun k a=>∃ i:Nat,i+k=x.length/\a=((i:Int),())/\zid (x.drop i) (y.drop i)=zid x y/\i<=y.length) ?_ ?_ (n:=x.length) ⟨0,by omega,rfl,by simp,by omega⟩
 . rintro a ⟨i,hi,rfl,hc,hy⟩ X
   obtain rfl:i=x.length:=by omega
   rw[z039 (Nat.le_refl _)]at hc
   refine bcN (z0j fun _=>z0j fun h2=>z08 (fun h=>?_) (fun h=>?_))
   . rw[if_pos (by omega)]at hc;rw[<-hc]
   . rw[if_neg (by omega)]at hc;rw[<-hc]
 . rintro k a ⟨i,hi,rfl,hc,hy⟩ X hX
   have hlt:i<x.length:=by omega
   refine bcI hlt (inI hlt (z0j fun h2=>z08 (fun h=>?_) (fun h=>?_)))
   . simp only at h
     rw[cmpL_end' hlt (by omega)]at hc
     rw[<-hc]
   . simp only at h
     have hlt':i<y.length:=by omega
     refine inI hlt' ⟨_,zef,?_⟩
     simp only
     rw[z20 hlt,z20 hlt']
     rw[zzd hlt hlt']at hc
     refine zeo (fun h=>?_) (fun h=>?_)
     . have hne:x[i]≠y[i]:=fun e=>h (cmpI_zero.mpr e)
       rw[<-hc]
       unfold cmpI
       by_cases h3:x[i]<y[i]
       . rw[if_pos h3,if_pos h3]
       . rw[if_neg h3,if_neg h3,if_pos (by omega),if_pos (by omega)]
     . have he:=cmpI_zero.mp h
       rw[if_neg (by omega),if_neg (by omega)]at hc
       rw[z04 (by omega)]
       exact hX _ ⟨i+1,by omega,rfl,hc,by omega⟩)
def orL:List Int->Int
 |[]=>0
 |a::l=>if a=0 then orL l else a
theorem zwx {x:List Int}:zhi x (orL x):=zx8 _ _ (by
 unfold zno
 have key:∀ l:List Int,orL l=if h:z02 (fun t=>t != 0) l<l.length then l[z02 (fun t=>t != 0) l] else 0:=by
  intro l
  induction l with
  |nil=>simp[orL,z02]
  | cons a l ih=>
    unfold orL
    by_cases ha:a=0
    . rw[if_pos ha,ih]
      simp only[z02,ha,bne_self_eq_false,Bool.false_eq_true,if_false,List.length_cons,Nat.add_lt_add_iff_right,List.getElem_cons_succ]
    . rw[if_neg ha]
      have:(a != 0)=true:=by simpa using ha
      simp[z02,this]
 refine z0j fun hl=>za2 x (fun t=>t != 0) (fun i=>((i:Int),())) (KT:=fun i=>∀ h:i<x.length,((x[i],()):Int×Unit)=(orL x,())) (KF:=(((0:Int),()):Int×Unit)=(orL x,())) ?_ ?_ ?_ ?_
 . intro i hi X h1 h2
   refine bcI hi (inI hi ?_)
   simp only
   rw[z20 hi,z04 (by omega)]
   exact z1j (fun h=>h1 h hi) h2
 . intro X h;exact bcN h
 . intro h h';rw[key,dif_pos h]
 . intro h;rw[key,dif_neg (by omega)])
theorem z6q {x y:z00}:z57 x y (zc8 x y):=zpq _ _ _ (by
 unfold zgm
 refine⟨_,zef,_,ziu,_,zwx,?_⟩
 have:orL [cmpI x.1 y.1,zid x.2.1 y.2.1]=zc8 x y:=by
  unfold zc8
  by_cases h:x.1<y.1
  . have:cmpI x.1 y.1 = -1:=by unfold cmpI;rw[if_pos h]
    rw[if_pos h,this];rfl
  . rw[if_neg h]
    by_cases h':y.1<x.1
    . have:cmpI x.1 y.1=1:=by unfold cmpI;rw[if_neg h,if_pos h']
      rw[if_pos h',this];rfl
    . have:cmpI x.1 y.1=0:=by unfold cmpI;rw[if_neg h,if_neg h']
      rw[if_neg h',this]
      unfold orL
      rw[if_pos rfl]
      unfold orL
      by_cases h0:zid x.2.1 y.2.1=0
      . rw[if_pos h0,h0];rfl
      . rw[if_neg h0]
 rw[this])
theorem zk6 {x y:z00}:zcl x y (decide (x=y)):=z01q _ _ _ (by
 unfold zrr
 refine⟨_,z6q,?_⟩
 have:(zc8 x y == (0:Int))=decide (x=y):=by
  by_cases h:x=y
  . rw[cmpF_zero.mpr h];simp[h]
  . have:zc8 x y≠0:=fun e=>h (cmpF_zero.mp e)
    simp[h,this]
 rw[this])
def ins:List Int->Int->List Int
 |[],x=>[x]
 |a::l,x=>if a<x then a::ins l x else if a=x then a::l else x::a::l
def srt (l:List Int):Prop:=l.Pairwise (· < ·)
def zdg (l:List Int):List Int:=l.foldl ins []
theorem mem_put {y x:Int}:∀ {l:List Int},y∈ins l x↔y=x\/y∈l
 |[]=>by simp[ins]
 | a::l=>by
   unfold ins
   split
   . rw[List.mem_cons,mem_put,List.mem_cons]
     constructor
     . rintro (h|h|h)<;>simp[h]
     . rintro (h|h|h)<;>simp[h]
   . split
     . rename_i h;subst h;simp
     . simp
theorem z063 {x:Int}:∀ {l:List Int},srt l->srt (ins l x)
 |[],_=>by simp[ins,srt]
 | a::l,h=>by
   obtain⟨h1,h2⟩:=List.pairwise_cons.mp h
   unfold ins
   split
   . rename_i hlt
     refine List.pairwise_cons.mpr ⟨fun y hy=>?_,z063 h2⟩
     rcases mem_put.mp hy with rfl|hy
     . exact hlt
     . exact h1 y hy
   . split
     . exact h
     . refine List.pairwise_cons.mpr ⟨fun y hy=>?_,h⟩
       rcases List.mem_cons.mp hy with rfl|hy
       . omega
       . have:=h1 y hy;omega
theorem zzs {l:List Int}:∀ {s:List Int},srt s->srt (l.foldl ins s)/\∀ y,y∈l.foldl ins s↔y∈s\/y∈l:=by
 induction l with
 |nil=>intro s h;exact⟨h,by simp⟩
 | cons a l ih=>
   intro s h
   obtain⟨h1,h2⟩:=ih (z063 (x:=a) h)
   refine⟨h1,fun y=>?_⟩
   rw[List.foldl_cons,h2,mem_put,List.mem_cons]
   constructor
   . rintro ((h|h)|h)<;>simp[h]
   . rintro (h|h|h)<;>simp[h]
theorem zl5 (l:List Int):srt (zdg l):=(zzs List.Pairwise.nil).1
theorem mem_sset {l:List Int} {y:Int}:y∈zdg l↔y∈l:=by have:=(zzs (l:=l) List.Pairwise.nil).2 y;simpa [zdg]using this
theorem z08g:∀ {a b:List Int},srt a->srt b->(∀ y,y∈a↔y∈b)->a=b
 |[],[],_,_,_=>rfl
 |[],y::b,_,_,h=>by have:=(h y).mpr (by simp);simp at this
 |x::a,[],_,_,h=>by have:=(h x).mp (by simp);simp at this
 | x::a,y::b,ha,hb,h=>by
   obtain⟨ha1,ha2⟩:=List.pairwise_cons.mp ha
   obtain⟨hb1,hb2⟩:=List.pairwise_cons.mp hb
   have hxy:x=y:=by
    rcases List.mem_cons.mp ((h x).mp (by simp))with e|hx
    . exact e
    . rcases List.mem_cons.mp ((h y).mpr (by simp))with e|hy
      . exact e.symm
      . have:=ha1 y hy;have:=hb1 x hx;omega
   subst hxy
   congr 1
   refine z08g ha2 hb2 fun z=>⟨fun hz=>?_,fun hz=>?_⟩
   . rcases List.mem_cons.mp ((h z).mp (by simp[hz]))with e|h'
     . have:=ha1 z hz;omega
     . exact h'
   . rcases List.mem_cons.mp ((h z).mpr (by simp[hz]))with e|h'
     . have:=hb1 z hz;omega
     . exact h'
theorem z08x {a l:List Int} (h1:srt a) (h2:∀ y,y∈a↔y∈l):a=zdg l:=z08g h1 (zl5 l) fun y=>by rw[h2,mem_sset]
theorem zza {l m:List Int}:(zdg m).foldl ins (zdg l)=zdg (l++m):=by
 obtain⟨h1,h2⟩:=zzs (l:=zdg m) (zl5 l)
 exact z08x h1 fun y=>by rw[h2,mem_sset,mem_sset,List.mem_append]
theorem zpn {l:List Int} {x:Int}:ins (zdg l) x=zdg (l++[x]):=by unfold zdg;rw[List.foldl_append];rfl
theorem z082 (l:List Int) (x:Int):(ins l x).length<=l.length+1:=by
 induction l with
 |nil=>simp[ins]
 |cons a l ih=>unfold ins;split;simp;omega;split<;>simp
theorem zw4 (l:List Int):(zdg l).length<=l.length:=by
 have:∀(l s:List Int),(l.foldl ins s).length<=s.length+l.length:=by
  intro l
  induction l with
  |nil=>intro s;simp
  |cons a l ih=>intro s;have:=ih (ins s a);have:=z082 s a;simp only[List.foldl_cons,List.length_cons];omega
 have:=this l []
 simpa [zdg]using this
theorem zyw {l:List Int} {a:Int}:∀ {n:Nat},srt l->(∀ y∈l,a<=y/\y<a+n)->l.length<=n:=by
 induction l generalizing a with
 |nil=>intro n _ _;simp
 | cons x l ih=>
   intro n h hr
   obtain⟨h1,h2⟩:=List.pairwise_cons.mp h
   have hx:=hr x (by simp)
   have:=ih (a:=x+1) (n:=(a+n - (x+1)).toNat) h2 fun y hy=>by
    have:=h1 y hy;have:=hr y (by simp[hy]);omega
   simp only[List.length_cons];omega
theorem z0a4 {l:List Int} (h:srt l) (hne:l≠[]):∀ y∈l,y<=l.getLast hne:=by
 intro y hy
 have hs:l=l.dropLast++[l.getLast hne]:=(List.dropLast_concat_getLast hne).symm
 rw[hs]at h hy
 unfold srt at h
 rw[List.pairwise_append]at h
 rcases List.mem_append.mp hy with hy|hy
 . have:=h.2.2 y hy (l.getLast hne) (by simp);omega
 . have:y=l.getLast hne:=by simpa using hy
   omega
theorem z0ez (l:List Int) (x:Int):ins l x=if h:z02 (fun a=>!decide (a<x)) l<l.length then(if l[z02 (fun a=>!decide (a<x)) l]=x then l else l.take (z02 (fun a=>!decide (a<x)) l)++x::l.drop (z02 (fun a=>!decide (a<x)) l))else l++[x]:=by
 induction l with
 |nil=>simp[ins,z02]
 | cons a l ih=>
   unfold ins
   by_cases ha:a<x
   . have e:z02 (fun a=>!decide (a<x)) (a::l)=z02 (fun a=>!decide (a<x)) l+1:=by simp[z02,ha]
     rw[if_pos ha,ih]
     by_cases hf:z02 (fun a=>!decide (a<x)) l<l.length
     . rw[dif_pos hf,dif_pos (by rw[e];simpa using hf)]
       simp only[e,List.getElem_cons_succ,List.take_succ_cons,List.drop_succ_cons]
       split
       . rfl
       . rfl
     . rw[dif_neg hf,dif_neg (by rw[e];simpa using hf)]
       rfl
   . have e:z02 (fun a=>!decide (a<x)) (a::l)=0:=by simp[z02,ha]
     rw[if_neg ha,dif_pos (by rw[e];simp)]
     simp only[e,List.getElem_cons_zero,List.take_zero,List.drop_zero,List.nil_append]
theorem zoq {l:List Int} {x:Int} (hl:l.length<=1073741824):zi2 l x (ins l x):=z09x _ _ _ (by
 unfold z03p
 have fin:∀(k:Nat),k<=l.length->((0<=(k:Int)/\(k:Int)<=(List.length l:Int)/\(List.length l:Int)<=(List.length l:Int))/\(([x]:List Int).length+(List.drop (Int.toNat (k:Int)) (List.take (Int.toNat (List.length l:Int)) l)).length<=z0w/\((0<=(0:Int)/\(0:Int)<=(k:Int)/\(k:Int)<=(List.length l:Int))/\(([]:List Int).length+(List.drop (Int.toNat (0:Int)) (List.take (Int.toNat (k:Int)) l)).length<=z0w/\((([]:List Int)++(List.drop (Int.toNat (0:Int)) (List.take (Int.toNat (k:Int)) l))).length+(([x]:List Int)++(List.drop (Int.toNat (k:Int)) (List.take (Int.toNat (List.length l:Int)) l))).length<=z0w/\(((([]:List Int)++(List.drop (Int.toNat (0:Int)) (List.take (Int.toNat (k:Int)) l)))++(([x]:List Int)++(List.drop (Int.toNat (k:Int)) (List.take (Int.toNat (List.length l:Int)) l))),()):List Int×Unit)=(l.take k++x::l.drop k,()))))) ):=by
  intro k hk
  simp only[Int.toNat_natCast,List.take_length,Int.toNat_zero,List.drop_zero,List.nil_append,List.length_nil,List.length_cons,List.length_append,List.length_take,List.length_drop,z0w,List.cons_append]
  refine⟨⟨by omega,by omega,by omega⟩,by omega,⟨by omega,by omega,by omega⟩,by omega,by omega,trivial⟩
 rw[z0ez]
 refine za2 l (fun a=>!decide (a<x)) (fun i=>((i:Int),())) (KT:=fun i=>∀ h:i<l.length,∀ r:List Int×Unit,r=(if l[i]=x then l else l.take i++x::l.drop i,())->r=((if h:z02 (fun a=>!decide (a<x)) l<l.length then(if l[z02 (fun a=>!decide (a<x)) l]=x then l else l.take (z02 (fun a=>!decide (a<x)) l)++x::l.drop (z02 (fun a=>!decide (a<x)) l))else l++[x]),()))
  (KF:=∀ r:List Int×Unit,r=(l++[x],())->r=((if h:z02 (fun a=>!decide (a<x)) l<l.length then(if l[z02 (fun a=>!decide (a<x)) l]=x then l else l.take (z02 (fun a=>!decide (a<x)) l)++x::l.drop (z02 (fun a=>!decide (a<x)) l))else l++[x]),())) ?_ ?_ ?_ ?_
 . intro i hi X h1 h2
   refine z0j fun hl'=>bcI hi (inI hi ?_)
   simp only
   rw[z20 hi,z04 (by omega)]
   refine z08 (fun h=>h2 (by simpa using h)) (fun h=>?_)
   have h1:=h1 (by simpa using h) hi
   refine z0j fun _=>bcI hi (inI hi (z32 (fun he=>h1 _ (by rw[if_pos he])) (fun he=>?_)))
   rw[if_neg he]at h1
   have:=fin i (by omega)
   exact⟨this.1,this.2.1,this.2.2.1,this.2.2.2.1,this.2.2.2.2.1,h1 _ this.2.2.2.2.2⟩
 . intro X h
   refine z0j fun hl'=>bcN (z0j fun _=>bcN ?_)
   have:=fin l.length (by omega)
   refine⟨this.1,this.2.1,this.2.2.1,this.2.2.2.1,this.2.2.2.2.1,h _ (this.2.2.2.2.2.trans (by simp))⟩
 . intro h h' r hr;rw[hr,dif_pos h]
 . intro h r hr;rw[hr,dif_neg (by omega)])
theorem zos {l:List Int} {x:Int}:zii l x (decide (x∈l)):=z0ay _ _ _ (by
 unfold z02o
 refine z8t l (fun a=>x == a) (fun i=>((i:Int),())) (KT:=((true,()):Bool×Unit)=(decide (x∈l),())) (KF:=((false,()):Bool×Unit)=(decide (x∈l),())) ?_ (fun X h=>z0j fun _=>bcN h) (fun h=>?_) (fun h=>?_)
 . intro i hi X h1 h2
   refine z0j fun _=>bcI hi (inI hi ?_)
   simp only
   rw[z20 hi,z04 (by omega)]
   exact z32 (fun h=>h1 (by simp[h])) (fun h=>h2 (by simpa using fun e=>h e.symm))
 . rw[zq8]at h;rw[h]
 . rw[zq8]at h;rw[h])
theorem zyl {l:List Int} {y:Int}:y∈z45 l↔y∈l:=by unfold z45;simp
theorem zye (l:List Int):(z45 l).Pairwise (·<=·):=by
 unfold z45
 have:=List.pairwise_mergeSort (le:=fun a b:Int=>decide (a<=b)) (fun a b c h1 h2=>by simp at *;omega) (fun a b=>by simp;omega) l
 exact this.imp fun h=>by simpa using h
theorem zxl (l:List Int):zcw (z45 l)=zdg l:=by
 have hs:=zye l
 have hget:∀ i j (hi:i<(z45 l).length) (hj:j<(z45 l).length),i<=j->(z45 l)[i]<=(z45 l)[j]:=by
  intro i j hi hj h
  rcases Nat.lt_or_ge i j with h|h
  . exact List.pairwise_iff_getElem.mp hs i j hi hj h
  . have:i=j:=by omega
    subst this;omega
 have ex:zcw (z45 l)=((List.range (z45 l).length).filter (Lib.keeps (z45 l).toArray)).map ((z45 l).toArray[·]!):=rfl
 refine z08x ?_ ?_
 . rw[ex]
   unfold srt
   rw[List.pairwise_map,List.pairwise_filter]
   refine List.Pairwise.imp_of_mem (R:=(· < ·)) ?_ List.pairwise_lt_range
   intro i j hi hj hij _ kj
   have hi:=List.mem_range.mp hi;have hj:=List.mem_range.mp hj
   have e1:(z45 l).toArray[i]! = (z45 l)[i]:=by simp[hi]
   have e2:(z45 l).toArray[j]! = (z45 l)[j]:=by simp[hj]
   have e3:(z45 l).toArray[j - 1]! = (z45 l)[j - 1]'(by omega):=by rw[getElem!_pos (z45 l).toArray (j - 1) (by simp;omega)];rfl
   rw[e1,e2]
   unfold Lib.keeps at kj
   rw[e2,e3]at kj
   have h1:=hget i (j - 1) hi (by omega) (by omega)
   have h2:=hget (j - 1) j (by omega) hj (by omega)
   rcases of_decide_eq_true kj with h|h
   . omega
   . omega
 . intro y
   rw[ex,List.mem_map]
   constructor
   . rintro⟨j,hj,rfl⟩
     have hj:=List.mem_range.mp (List.mem_filter.mp hj).1
     have e:(z45 l).toArray[j]! = (z45 l)[j]:=by simp[hj]
     rw[e,<-zyl];exact List.getElem_mem hj
   . intro hy
     rw[<-zyl]at hy
     have hf:z02 (fun t=>t == y) (z45 l)<(z45 l).length:=firstAt_any.mpr (List.any_eq_true.mpr ⟨y,hy,by simp⟩)
     have h2:=z7w hf
     have h3:(z45 l)[z02 (fun t=>t == y) (z45 l)]=y:=by simpa using h2
     refine⟨z02 (fun t=>t == y) (z45 l),List.mem_filter.mpr ⟨List.mem_range.mpr hf,?_⟩,by simp[hf,h3]⟩
     unfold Lib.keeps
     rw[decide_eq_true_iff]
     by_cases h0:z02 (fun t=>t == y) (z45 l)=0
     . exact .inl h0
     . right
       have hlt:z02 (fun t=>t == y) (z45 l) - 1<(z45 l).length:=by omega
       have h4:=z6a (p:=fun t=>t == y) (l:=z45 l) hlt (by omega)
       have e1:(z45 l).toArray[z02 (fun t=>t == y) (z45 l)]! = y:=by simp[hf,h3]
       have e2:(z45 l).toArray[z02 (fun t=>t == y) (z45 l) - 1]! = (z45 l)[z02 (fun t=>t == y) (z45 l) - 1]:=by simp[hlt]
       rw[e1,e2]
       intro e
       rw[<-e]at h4;simp at h4
def inR (x a b:Int):Bool:=decide (a<=x)&&decide (x<=b)
theorem z49 {α:Type} {p:α->Bool} {l:List α}:(l.any fun t=>!p t) = !(l.all p):=by
 induction l with
 |nil=>rfl
 |cons a l ih=>simp only[List.any_cons,List.all_cons,ih];cases p a<;>simp
theorem nt {b:Bool} (h:(!b)=true):b=false:=by simpa using h
theorem nf {b:Bool} (h:(!b)=false):b=true:=by simpa using h
theorem zf0 {α β:Type} (f:α->List β) {l:List α} {i:Nat} (h:i<l.length):(l.flatMap f).length=((l.take i).flatMap f).length+((f l[i]).length+((l.drop (i+1)).flatMap f).length):=by
 have e:l=l.take i++l[i]::l.drop (i+1):=by rw[<-z44 h,List.take_append_drop]
 have:=congrArg (fun m=>(m.flatMap f).length) e
 simp only[List.flatMap_append,List.flatMap_cons,List.length_append]at this
 exact this
theorem inR_iff {x a b:Int}:inR x a b=true↔a<=x/\x<=b:=by simp[inR]
theorem z0bv:∀ {a b:List UInt8},(Op.bytesLess b a||b == a) = !(Op.bytesLess a b)
 |[],[]=>by decide
 |[],y::b=>by simp[Op.bytesLess]
 |x::a,[]=>by simp[Op.bytesLess]
 | x::a,y::b=>by
   have ih:=z0bv (a:=a) (b:=b)
   simp only[Op.bytesLess]
   by_cases h:y<x
   . have h2:¬ x<y:=UInt8.lt_asymm h
     have h3:¬ x=y:=by rintro rfl;exact UInt8.lt_irrefl _ h
     simp[h,h2,h3]
   . by_cases h2:x<y
     . have h3:¬ y=x:=by rintro rfl;exact h h2
       simp[h,h2,h3]
     . have h3:x=y:=UInt8.le_antisymm (UInt8.not_lt.mp h) (UInt8.not_lt.mp h2)
       subst h3
       simp only[h,decide_false,beq_self_eq_true,Bool.true_and,Bool.false_or]
       rw[<-ih]
       by_cases h4:b=a<;>simp[h4]
def zoh (r:z0r):Bool:=(r.1.length == 1)&&decide (97<=(r.1.getD 0 0).toNat)&&decide ((r.1.getD 0 0).toNat<=122)&&inR r.2.1 1 3
def zf7 (l:List z0r) (i:Nat):z0r:=l.getD i zia
def z9w (l:List z0r):Bool:=((List.range l.length).all fun i=>zoh (zf7 l i)&&(i == 0||Op.bytesLess (zf7 l (i - 1)).1 (zf7 l i).1))&&decide (l.length<=6)
theorem zgy {l:List z0r} {i:Nat} (h:i<l.length):zf7 l i=l[i]:=z29 h
theorem zh0 {l:List z0r} (h:z9w l=true) {r:z0r} (hr:r∈l):zoh r=true:=by
 unfold z9w at h
 rw[Bool.and_eq_true]at h
 obtain⟨i,hi,rfl⟩:=List.mem_iff_getElem.mp hr
 have:=List.all_eq_true.mp h.1 i (List.mem_range.mpr hi)
 rw[Bool.and_eq_true,zgy hi]at this
 exact this.1
theorem zej {l:List z0r} (h:z9w l=true):l.length<=6:=by
 unfold z9w at h;simp at h;exact h.2
theorem zih {r:z0r} (h:zoh r=true):1<=r.2.1/\r.2.1<=3:=by
 unfold zoh at h;simp[inR]at h;exact h.2
def zp5 (l:List z0r) (i:Int):Int:=(l.getD (Int.toNat i) zia).2.1
def z9o (l:List z0r) (i:Int):Bool:=(l.getD (Int.toNat i) zia).2.2.1
def zwn (ok:Int->Bool) (l:List z0r) (a:z00):Bool:=z9w l&&inR a.1 0 ((l.length:Int) - 1)&&((a.2.1.length:Int) == zp5 l a.1)&&a.2.1.all ok
theorem z3k {ok:Int->Bool} {l:List z0r} {a:z00} (h:zwn ok l a=true):z9w l=true/\0<=a.1/\a.1<l.length/\(a.2.1.length:Int)=zp5 l a.1/\a.2.1.length<=3/\∀ v∈a.2.1,ok v=true:=by
 unfold zwn at h
 simp only[Bool.and_eq_true,beq_iff_eq,List.all_eq_true]at h
 obtain⟨⟨⟨h1,h2⟩,h3⟩,h4⟩:=h
 have h2:=inR_iff.mp h2
 have hlt:a.1.toNat<l.length:=by omega
 have:=zih (zh0 h1 (List.getElem_mem hlt))
 have e:zp5 l a.1=l[a.1.toNat].2.1:=by unfold zp5;rw[z29 hlt]
 exact⟨h1,h2.1,by omega,h3,by omega,h4⟩
def z057 (t:Int):Bool:=inR t (-10) 4
def z6l (l:List z0r) (a:z00):Bool:=zwn z057 l a
def vars (l:List z00):List Int:=zdg ((l.flatMap (·.2.1)).filter fun t=>decide (0<=t))
def ziv (l:List z0r) (d:z0c):Bool:=inR d.1.length 1 2&&d.1.all (z6l l) &&
 (if d.2.2.1 then decide (d.2.1=[])&&decide (d.2.2.2.1∈vars d.1)&&decide (d.2.2.2.2.1∈vars d.1)&&decide (d.2.2.2.1<d.2.2.2.2.1)
  else d.2.1.all (fun a=>z6l l a && !(z9o l a.1))&&inR d.2.1.length 1 2&&(d.2.2.2.1 == 0)&&(d.2.2.2.2.1 == 0))
def zio (l:List z0r) (ds:List z0c):Bool:=ds.all (ziv l)&&z9w l&&decide (ds.length<=5)
def exV (d:z0c):List Int:=(vars d.2.1).filter fun v=>!decide (v∈vars d.1)
def frV (d:z0c):List Int:=(vars d.2.1).filter fun v=>decide (v∈vars d.1)
theorem zm2 {l:List z0r} {ats:List z00} (h:ats.all (z6l l)=true):(ats.flatMap (·.2.1)).length<=3 * ats.length:=by
 induction ats with
 |nil=>simp
 | cons a ats ih=>
   simp only[List.all_cons,Bool.and_eq_true]at h
   have h1:=(z3k h.1).2.2.2.2.1
   have:=ih h.2
   simp only[List.flatMap_cons,List.length_append,List.length_cons]
   omega
theorem zi9 (l:List z00):(vars l).length<=(l.flatMap (·.2.1)).length:=Nat.le_trans (zw4 _) (List.length_filter_le _ _)
theorem z7b {x a b:Int}:z5s x a b (inR x a b):=z0ec _ _ _ _ (by
 unfold z083 inR
 refine z08 (fun h=>?_) (fun h=>?_)
 . rw[decide_eq_true (show a<=x from h),Bool.true_and]
 . rw[decide_eq_false (show ¬ a<=x from h),Bool.false_and])
theorem z9d {x a b:Int}:z7a x a b (inR x a b):=z08m _ _ _ _ (by
 unfold zxe inR
 refine z08 (fun h=>?_) (fun h=>?_)
 . rw[decide_eq_true h,Bool.true_and]
 . rw[decide_eq_false h,Bool.false_and])
theorem zkx {r:z0r}:z96 r (zoh r):=zlo _ _ (by
 unfold zcz
 have no:∀ {b:Bool},zoh r=b->((b,()):Bool×Unit)=(zoh r,()):=fun h=>by rw[h]
 refine z0j fun _=>z32 (fun h=>?_) (fun h=>no ?_)
 . have h1:r.1.length=1:=by omega
   refine⟨⟨by omega,by omega⟩,?_⟩
   refine z08 (fun h2=>⟨⟨by omega,by omega⟩,z08 (fun h3=>⟨_,z7b,no ?_⟩) (fun h3=>no ?_)⟩) (fun h2=>no ?_)
   . unfold zoh
     have a1:decide (97<=(r.1.getD 0 0).toNat)=true:=decide_eq_true (by have h2:(97:Int)<=((r.1.getD 0 0).toNat:Int):=h2;omega)
     have a2:decide ((r.1.getD 0 0).toNat<=122)=true:=decide_eq_true (by have h3:((r.1.getD 0 0).toNat:Int)<=122:=h3;omega)
     rw[a1,a2];simp[h1]
   . unfold zoh
     have a2:decide ((r.1.getD 0 0).toNat<=122)=false:=decide_eq_false (by have h3:¬ ((r.1.getD 0 0).toNat:Int)<=122:=h3;omega)
     rw[a2];simp
   . unfold zoh
     have a1:decide (97<=(r.1.getD 0 0).toNat)=false:=decide_eq_false (by have h2:¬ (97:Int)<=((r.1.getD 0 0).toNat:Int):=h2;omega)
     rw[a1];simp
 . unfold zoh
   have:(r.1.length == 1)=false:=by simp;omega
   rw[this];simp)
theorem z02p {l:List z0r} {i:Nat} (h:i<l.length) (hp:(zoh (zf7 l i)&&(i == 0||Op.bytesLess (zf7 l (i - 1)).1 (zf7 l i).1))=false):z9w l=false:=by
 unfold z9w
 rw[Bool.and_eq_false_iff];left
 rw[Bool.eq_false_iff];intro hall
 have:=List.all_eq_true.mp hall i (List.mem_range.mpr h)
 rw[hp]at this;cases this
theorem zx1 {l:List z0r} (hp:∀ i,i<l.length->(!(zoh (zf7 l i)&&(i == 0||Op.bytesLess (zf7 l (i - 1)).1 (zf7 l i).1)))=false):z9w l=decide (l.length<=6):=by
 unfold z9w
 have:((List.range l.length).all fun i=>zoh (zf7 l i)&&(i == 0||Op.bytesLess (zf7 l (i - 1)).1 (zf7 l i).1))=true:=
  List.all_eq_true.mpr fun i hi=>by have:=hp i (List.mem_range.mp hi);rwa [Bool.not_eq_false']at this
 rw[this,Bool.true_and]
theorem z26 {l:List z0r}:z1o l (z9w l):=ziq _ _ (by
 unfold zbl
 refine zcp l.length (fun i=>!(zoh (zf7 l i)&&(i == 0||Op.bytesLess (zf7 l (i - 1)).1 (zf7 l i).1))) (fun i=>((i:Int),())) (KT:=((false,()):Bool×Unit)=(z9w l,())) (KF:=((decide ((List.length l:Int)<=6),()):Bool×Unit)=(z9w l,())) ?_ (fun X h=>z0j fun _=>bcN (z0j fun _=>h)) ?_ ?_
 . intro i hi X hb h1 h2
   refine z0j fun hl=>bcI hi (inI hi ⟨_,zkx,?_⟩)
   simp only
   rw[z20 hi,z04 (by omega)]
   rw[zgy hi]at h1 h2
   refine z0y (fun h=>h1 (by simp[h])) (fun h=>z08 (fun h0=>?_) (fun h0=>h2 (by obtain rfl:i=0:=(by omega);simp[h])))
   have hi':i - 1<l.length:=by omega
   have hw:w64 ((i:Int) - 1)=((i - 1:Nat):Int):=by rw[z2s (by omega) (by omega)];omega
   rw[hw]
   refine inI hi' (inI hi ?_)
   rw[z20 hi']
   rw[zgy hi']at h1 h2
   have hz:(i == 0)=false:=by simp;omega
   rw[hz,Bool.false_or,h,Bool.true_and]at h1 h2
   exact z1j (fun h=>h1 h) (fun h=>h2 h)
 . rintro⟨i,hi,hp⟩
   rw[z02p hi (by rwa [Bool.not_eq_true']at hp)]
 . intro hp
   rw[zx1 hp]
   congr 1
   exact decide_eq_decide.mpr (by omega))
theorem zlu {r:z0r}:z95 r (zoh r):=zkz _ _ (by
 unfold zdc
 have no:∀ {b:Bool},zoh r=b->((b,()):Bool×Unit)=(zoh r,()):=fun h=>by rw[h]
 refine z0j fun _=>z32 (fun h=>?_) (fun h=>no ?_)
 . have h1:r.1.length=1:=by omega
   obtain⟨c,hc⟩:∃ c,r.1=[c]:=List.length_eq_one_iff.mp h1
   rw[hc]
   have e1:(!(Op.bytesLess [c] [97]))=decide (97<=c.toNat):=by
    simp only[Op.bytesLess,Bool.and_false,Bool.or_false]
    by_cases h:c<97
    . have:c.toNat<97:=h
      simp[h];omega
    . have:¬ c.toNat<97:=h
      simp[h];omega
   have e2:(Op.bytesLess [c] [122]||[c] == [122])=decide (c.toNat<=122):=by
    simp only[Op.bytesLess,Bool.and_false,Bool.or_false]
    by_cases h:c<122
    . have:c.toNat<122:=h
      simp[h];omega
    . have:¬ c.toNat<122:=h
      by_cases h2:c=122
      . subst h2;simp
      . have h3:c.toNat≠122:=fun e=>h2 (UInt8.toNat_inj.mp e)
        have d2:([c] == [(122:UInt8)])=false:=by simp[h2]
        rw[decide_eq_false h,d2,decide_eq_false (by omega)];rfl
   rw[e1,e2]
   refine z08 (fun h2=>z08 (fun h3=>⟨_,z9d,no ?_⟩) (fun h3=>no ?_)) (fun h2=>no ?_)
   . unfold zoh;rw[hc];simp[h2,h3]
   . unfold zoh;rw[hc]
     show((1 == 1)&&decide (97<=c.toNat)&&decide (c.toNat<=122)&&inR r.2.1 1 3)=false
     rw[decide_eq_false h3];simp
   . unfold zoh;rw[hc]
     show((1 == 1)&&decide (97<=c.toNat)&&decide (c.toNat<=122)&&inR r.2.1 1 3)=false
     rw[decide_eq_false h2];simp
 . unfold zoh
   have:(r.1.length == 1)=false:=by simp;omega
   rw[this];simp)
theorem z4w {l:List z0r}:z2x l (z9w l):=zil _ _ (by
 unfold zbh
 refine z0j fun hl=>zcp l.length (fun i=>!(zoh (zf7 l i)&&(i == 0||Op.bytesLess (zf7 l (i - 1)).1 (zf7 l i).1))) (fun i=>((i:Int),())) (KT:=((false,()):Bool×Unit)=(z9w l,())) (KF:=((decide ((List.length l:Int)<=6),()):Bool×Unit)=(z9w l,())) ?_ (fun X h=>bcN (z0j fun _=>h)) ?_ ?_
 . intro i hi X hb h1 h2
   refine bcI hi (inI hi ⟨_,zlu,?_⟩)
   simp only
   rw[z20 hi,z04 (by omega)]
   rw[zgy hi]at h1 h2
   refine z0y (fun h=>h1 (by simp[h])) (fun h=>z08 (fun h0=>?_) (fun h0=>h2 (by obtain rfl:i=0:=(by omega);simp[h])))
   have hi':i - 1<l.length:=by omega
   have hw:w64 ((i:Int) - 1)=((i - 1:Nat):Int):=by rw[z2s (by omega) (by omega)];omega
   rw[hw]
   refine inI hi' ?_
   rw[z20 hi']
   rw[zgy hi']at h1 h2
   have hz:(i == 0)=false:=by simp;omega
   rw[hz,Bool.false_or,h,Bool.true_and]at h1 h2
   rw[z0bv]
   exact z1j (fun h=>h1 h) (fun h=>h2 h)
 . rintro⟨i,hi,hp⟩
   rw[z02p hi (by rwa [Bool.not_eq_true']at hp)]
 . intro hp
   rw[zx1 hp]
   congr 1
   exact decide_eq_decide.mpr (by omega))
theorem row_start {l:List z0r} {a:z00} (h:inR a.1 0 (w64 ((l.length:Int) - 1))=true) (hl:(l.length:Int)<=9223372036854775807):0<=a.1/\a.1<(l.length:Int):=by
 have:=inR_iff.mp h
 rw[z2s (by omega) (by omega)]at this
 omega
theorem row_range {l:List z0r} {a:z00} (hl:(l.length:Int)<=9223372036854775807):inR a.1 0 (w64 ((l.length:Int) - 1))=inR a.1 0 ((l.length:Int) - 1):=by
 rw[z2s (by omega) (by omega)]
theorem row_no1 {ok:Int->Bool} {l:List z0r} {a:z00} (h:z9w l=false):((false,()):Bool×Unit)=(zwn ok l a,()):=by unfold zwn;rw[h];simp
theorem row_no2 {ok:Int->Bool} {l:List z0r} {a:z00} (hl:(l.length:Int)<=9223372036854775807) (h:inR a.1 0 (w64 ((l.length:Int) - 1))=false):((false,()):Bool×Unit)=(zwn ok l a,()):=by
 rw[row_range hl]at h;unfold zwn;rw[h];simp
theorem row_no3 {ok:Int->Bool} {l:List z0r} {a:z00} (h:(a.2.1.length:Int)≠(l.getD (Int.toNat a.1) zia).2.1):((false,()):Bool×Unit)=(zwn ok l a,()):=by
 have:((a.2.1.length:Int) == zp5 l a.1)=false:=by simpa [zp5]using h
 unfold zwn;rw[this];simp
theorem row_yes {ok:Int->Bool} {l:List z0r} {a:z00} {b:Bool} (hl:(l.length:Int)<=9223372036854775807) (h1:z9w l=true) (h2:inR a.1 0 (w64 ((l.length:Int) - 1))=true) (h3:(a.2.1.length:Int)=(l.getD (Int.toNat a.1) zia).2.1) (hb:b=a.2.1.all ok):((b,()):Bool×Unit)=(zwn ok l a,()):=by
 rw[row_range hl]at h2
 have:((a.2.1.length:Int) == zp5 l a.1)=true:=by simpa [zp5]using h3
 unfold zwn;rw[h1,h2,this,hb];simp
theorem ze9 {l:List z0r} {a:z00}:z8q l a (z6l l a):=zs5 _ _ _ (by
 unfold zjs z6l
 refine⟨_,z26,z0y (fun h=>row_no1 h) (fun h1=>z0j fun hl=>⟨_,z7b,z0y (fun h=>row_no2 hl h) (fun h2=>z0j fun hl2=>⟨row_start h2 hl,zeo (fun h=>row_no3 h) (fun h3=>?_)⟩)⟩)⟩
 refine z8t a.2.1 (fun t=>!z057 t) (fun i=>((i:Int),())) (KT:=((false,()):Bool×Unit)=(zwn z057 l a,())) (KF:=((true,()):Bool×Unit)=(zwn z057 l a,())) ?_ (fun X h=>z0j fun _=>bcN h) ?_ ?_
 . intro i hi X q1 q2
   refine z0j fun _=>bcI hi (inI hi ⟨_,z7b,?_⟩)
   simp only
   rw[z20 hi,z04 (by omega)]
   exact z1j (fun h=>q1 h) (fun h=>q2 h)
 . intro h;exact row_yes hl h1 h2 h3 (by rw[z49]at h;exact(nt h).symm)
 . intro h;exact row_yes hl h1 h2 h3 (by rw[z49]at h;exact(nf h).symm))
theorem zo9 {t:Int}:z4d t (!z057 t):=zo5 _ _ (by unfold zgd;exact⟨_,z9d,rfl⟩)
theorem zsp {l:List z0r} {a:z00}:ze8 l a (z6l l a):=zsq _ _ _ (by
 unfold zjb z6l
 refine⟨_,z4w,z0y (fun h=>row_no1 h) (fun h1=>z0j fun hl=>⟨_,z9d,z0y (fun h=>row_no2 hl h) (fun h2=>z0j fun hl2=>⟨row_start h2 hl,zeo (fun h=>row_no3 h) (fun h3=>?_)⟩)⟩)⟩
 exact⟨_,z62 (fun t=>!z057 t) (fun _ _=>zo9),row_yes hl h1 h2 h3 (by rw[z49];simp)⟩)
theorem zb6 {l:List z00} (hl:(l.flatMap (·.2.1)).length<=1073741824):z77 l (vars l):=zwo _ _ (by
 unfold znc
 refine z1e l.length (fun i=>((i:Int),(vars (l.take i),()))) (by simp[vars,zdg]) ?_ ?_
 . intro i hi X hX
   refine z0j fun hl1=>bcI hi ?_
   simp only
   rw[z20 hi]
   have hsub:((l.take i).flatMap (·.2.1)).length+l[i].2.1.length<=1073741824:=by
    have:=zf0 (·.2.1) hi
    omega
   have hset:∀ j,j<=l[i].2.1.length->(zdg (((l.take i).flatMap (·.2.1)++l[i].2.1.take j).filter fun t=>decide (0<=t))).length<=1073741824:=by
    intro j hj
    refine Nat.le_trans (zw4 _) (Nat.le_trans (List.length_filter_le _ _) ?_)
    rw[List.length_append,List.length_take];omega
   refine z1e l[i].2.1.length (fun j=>(zdg (((l.take i).flatMap (·.2.1)++l[i].2.1.take j).filter fun t=>decide (0<=t)),((j:Int),()))) (by simp[vars]) ?_ ?_
   . intro j hj Y hY
     refine inI hi (z0j fun _=>bcI hj (inI hi (inI hj ?_)))
     simp only
     rw[z20 hj,z04 (by omega)]
     have e:((l.take i).flatMap (·.2.1)++l[i].2.1.take (j+1)).filter (fun t=>decide (0<=t))=((l.take i).flatMap (·.2.1)++l[i].2.1.take j).filter (fun t=>decide (0<=t))++(if 0<=l[i].2.1[j] then[l[i].2.1[j]] else[]):=by
      rw[z07 hj,<-List.append_assoc,List.filter_append]
      by_cases h:0<=l[i].2.1[j]<;>simp[h]
     rw[e]at hY
     refine z08 (fun h=>inI hi (inI hj ⟨_,zoq (hset j (by omega)),?_⟩)) (fun h=>?_)
     . have h:0<=l[i].2.1[j]:=h
       rw[if_pos h]at hY
       rw[zpn];exact hY
     . have h:¬ 0<=l[i].2.1[j]:=h
       rw[if_neg h,List.append_nil]at hY;exact hY
   . intro Y
     refine inI hi (z0j fun _=>bcN ?_)
     simp only
     rw[z04 (by omega),List.take_length]
     have:zdg (((l.take i).flatMap (·.2.1)++l[i].2.1).filter fun t=>decide (0<=t))=vars (l.take (i+1)):=by
      unfold vars;rw[z07 hi,List.flatMap_append];simp
     rw[this];exact hX
 . intro X
   refine z0j fun _=>bcN ?_
   simp only[List.take_length])
theorem zgz {l:List z00} (hl:(l.flatMap (·.2.1)).length<=1073741824):zb0 l (vars l):=zxy _ _ (by
 unfold znr
 refine z0j fun hl1=>?_
 refine z1e l.length (fun i=>((i:Int),(((l.take i).flatMap (·.2.1)).filter (fun t=>decide (0<=t)),()))) (by simp) ?_ ?_
 . intro i hi X hX
   refine bcI hi (inI hi ?_)
   simp only
   rw[z20 hi,z04 (by omega)]
   have hsub:((l.take i).flatMap (·.2.1)).length+l[i].2.1.length<=1073741824:=by
    have:=zf0 (·.2.1) hi
    omega
   refine z0j fun _=>z1e l[i].2.1.length (fun j=>((j:Int),(((l.take i).flatMap (·.2.1)++l[i].2.1.take j).filter (fun t=>decide (0<=t)),()))) (by simp) ?_ ?_
   . intro j hj Y hY
     refine bcI hj (inI hj ?_)
     simp only
     rw[z20 hj,z04 (by omega)]
     have e:((l.take i).flatMap (·.2.1)++l[i].2.1.take (j+1)).filter (fun t=>decide (0<=t))=((l.take i).flatMap (·.2.1)++l[i].2.1.take j).filter (fun t=>decide (0<=t))++(if 0<=l[i].2.1[j] then[l[i].2.1[j]] else[]):=by
      rw[z07 hj,<-List.append_assoc,List.filter_append]
      by_cases h:0<=l[i].2.1[j]<;>simp[h]
     rw[e]at hY
     have hb:=List.length_filter_le (fun t=>decide (0<=t)) ((l.take i).flatMap (·.2.1)++l[i].2.1.take j)
     rw[List.length_append,List.length_take]at hb
     refine z08 (fun h=>⟨by simp only[z0w,List.length_cons,List.length_nil];omega,?_⟩) (fun h=>?_)
     . have h:0<=l[i].2.1[j]:=h
       rw[if_pos h]at hY;exact hY
     . have h:¬ 0<=l[i].2.1[j]:=h
       rw[if_neg h,List.append_nil]at hY;exact hY
   . intro Y
     refine bcN ?_
     simp only
     rw[List.take_length]
     have:((l.take i).flatMap (·.2.1)++l[i].2.1).filter (fun t=>decide (0<=t))=((l.take (i+1)).flatMap (·.2.1)).filter (fun t=>decide (0<=t)):=by
      rw[z07 hi,List.flatMap_append];simp
     rw[this];exact hX
 . intro X
   refine bcN ⟨_,zb3 ?_,_,z8z,?_⟩
   . simp only[List.take_length]
     have:=List.length_filter_le (fun t=>decide (0<=t)) (l.flatMap (·.2.1));omega
   . simp only[List.take_length]
     rw[zxl];rfl)
theorem z0b3 {l:List z0r} {d:z0c} (h:inR d.1.length 1 2=false):((false,()):Bool×Unit)=(ziv l d,()):=by unfold ziv;rw[h];simp
theorem z0bn {l:List z0r} {d:z0c} (h:d.1.all (z6l l)=false):((false,()):Bool×Unit)=(ziv l d,()):=by unfold ziv;rw[h];simp
theorem zik {l:List z0r} {d:z0c}:z80 l d (ziv l d):=ziw _ _ _ (by
 unfold zbi
 refine z0j fun hl=>⟨_,z7b,z0y (fun h=>z0b3 h) (fun h1=>?_)⟩
 refine z8t d.1 (fun a=>!z6l l a) (fun i=>((i:Int),())) (KT:=((false,()):Bool×Unit)=(ziv l d,())) (KF:=d.1.all (z6l l)=true) ?_ ?_ ?_ ?_
 . intro i hi X q1 q2
   refine z0j fun _=>bcI hi (inI hi ⟨_,ze9,?_⟩)
   simp only
   rw[z20 hi,z04 (by omega)]
   exact z1j (fun h=>q1 h) (fun h=>q2 h)
 . intro X hall
   have hlen:=inR_iff.mp h1
   have hal:=zm2 hall
   refine z0j fun _=>bcN (z1j (fun he=>?_) (fun he=>?_))
   . have ev:ziv l d=(decide (d.2.1=[])&&decide (d.2.2.2.1∈vars d.1)&&decide (d.2.2.2.2.1∈vars d.1)&&decide (d.2.2.2.1<d.2.2.2.2.1)):=by
      unfold ziv;rw[h1,hall,he];simp
     rw[ev]
     refine⟨_,zb6 (by omega),z0j fun _=>z32 (fun h=>⟨_,zos,z08 (fun h2=>⟨_,zos,z08 (fun h3=>?_) (fun h3=>?_)⟩) (fun h2=>?_)⟩) (fun h=>?_)⟩
     . have:d.2.1=[]:=List.length_eq_zero_iff.mp (by omega)
       simp[this,h2,h3]
     . simp[h3]
     . simp[h2]
     . have:d.2.1≠[]:=by intro e;rw[e]at h;simp at h
       simp[this]
   . have ev:ziv l d=(d.2.1.all (fun a=>z6l l a && !(z9o l a.1))&&inR d.2.1.length 1 2&&(d.2.2.2.1 == 0)&&(d.2.2.2.2.1 == 0)):=by
      unfold ziv;rw[h1,hall,he];simp
     rw[ev]
     refine z8t d.2.1 (fun a=>!(z6l l a && !(z9o l a.1))) (fun i=>((i:Int),())) (KT:=d.2.1.all (fun a=>z6l l a && !(z9o l a.1))=false) (KF:=d.2.1.all (fun a=>z6l l a && !(z9o l a.1))=true) ?_ ?_ ?_ ?_
     . intro i hi X q1 q2
       refine z0j fun _=>bcI hi (inI hi ⟨_,ze9,?_⟩)
       simp only
       rw[z20 hi,z04 (by omega)]
       have no:d.2.1.all (fun a=>z6l l a && !(z9o l a.1))=false->((false,()):Bool×Unit)=(d.2.1.all (fun a=>z6l l a && !(z9o l a.1))&&inR d.2.1.length 1 2&&(d.2.2.2.1 == 0)&&(d.2.2.2.2.1 == 0),()):=fun h=>by rw[h];simp
       refine z0y (fun h=>no (q1 (by simp[h]))) (fun h=>inI hi ⟨?_,z1j (fun h'=>no (q1 ?_)) (fun h'=>q2 ?_)⟩)
       . have:=z3k h;exact⟨this.2.1,this.2.2.1⟩
       . have:z9o l d.2.1[i].1=true:=h'
         simp[this]
       . have:z9o l d.2.1[i].1=false:=h'
         simp[this,h]
     . intro X hh
       refine z0j fun _=>bcN (z0j fun _=>⟨_,z7b,?_⟩)
       rw[hh]
       refine z1j (fun h2=>z32 (fun h3=>?_) (fun h3=>?_)) (fun h2=>?_)
       . rw[h2,h3];simp
       . have:(d.2.2.2.1 == 0)=false:=by simpa using h3
         rw[this];simp
       . rw[h2];simp
     . intro h;rw[z49]at h;exact nt h
     . intro h;rw[z49]at h;exact nf h
 . intro h;rw[z49]at h;exact z0bn (nt h)
 . intro h;rw[z49]at h;exact nf h)
theorem zwh {l:List z0r} {a:z00}:z7x a l (!z6l l a):=zw0 _ _ _ (by unfold zlf;exact⟨_,zsp,rfl⟩)
theorem zjv {l:List z0r} {ats:List z00} {n:Int}:zci l ats n (inR ats.length 1 n&&ats.all (z6l l)):=z01d _ _ _ _ (by
 unfold zr6
 refine z0j fun _=>⟨_,z9d,z1j (fun h=>⟨_,z6n (fun a=>!z6l l a) (fun _ _=>zwh),?_⟩) (fun h=>?_)⟩
 . rw[h,Bool.true_and,z49];simp
 . rw[h,Bool.false_and])
theorem zgl {l:List z0r} {a:z00} (h0:0<=a.1) (h1:a.1<l.length):z2c a l (z9o l a.1):=zgh _ _ _ (by unfold z9z;exact⟨⟨h0,h1⟩,rfl⟩)
theorem zj0 {l:List z0r} {d:z0c}:z83 l d (ziv l d):=zim _ _ _ (by
 unfold zbq
 refine⟨_,zjv,z0y (fun h=>?_) (fun h=>?_)⟩
 . unfold ziv;rw[h];simp
 . have h':=Bool.and_eq_true_iff.mp h
   have hlen:=inR_iff.mp h'.1
   have hal:=zm2 h'.2
   refine z1j (fun he=>?_) (fun he=>?_)
   . have ev:ziv l d=(decide (d.2.1=[])&&decide (d.2.2.2.1∈vars d.1)&&decide (d.2.2.2.2.1∈vars d.1)&&decide (d.2.2.2.1<d.2.2.2.2.1)):=by
      unfold ziv;rw[h'.1,h'.2,he];simp
     rw[ev]
     refine⟨_,zgz (by omega),z0j fun _=>z32 (fun h0=>z08 (fun h1=>⟨_,z74,z08 (fun h2=>⟨_,z74,?_⟩) (fun h2=>?_)⟩) (fun h1=>?_)) (fun h0=>?_)⟩
     . have:d.2.1=[]:=List.length_eq_zero_iff.mp (by omega)
       simp[this,h1,h2]
     . simp[h2]
     . simp[h1]
     . have:d.2.1≠[]:=by intro e;rw[e]at h0;simp at h0
       simp[this]
   . have ev:ziv l d=(d.2.1.all (fun a=>z6l l a && !(z9o l a.1))&&inR d.2.1.length 1 2&&(d.2.2.2.1 == 0)&&(d.2.2.2.2.1 == 0)):=by
      unfold ziv;rw[h'.1,h'.2,he];simp
     rw[ev]
     have hand:d.2.1.all (fun a=>z6l l a && !(z9o l a.1))=(d.2.1.all (z6l l)&&d.2.1.all fun a=>!(z9o l a.1)):=by
      generalize d.2.1=m
      induction m with
      |nil=>rfl
      |cons a m ih=>simp only[List.all_cons,ih];cases z6l l a<;>cases z9o l a.1<;>simp
     rw[hand]
     refine⟨_,zjv,z1j (fun h1=>z32 (fun h2=>z32 (fun h3=>?_) (fun h3=>?_)) (fun h2=>?_)) (fun h1=>?_)⟩
     . have h1:=Bool.and_eq_true_iff.mp h1
       refine⟨_,z4a (fun a=>z9o l a.1) (fun a ha=>?_),?_⟩
       . have:=z3k (List.all_eq_true.mp h1.2 a ha)
         exact zgl this.2.1 this.2.2.1
       . rw[h1.1,h1.2,h2,h3,List.not_any_eq_all_not];simp
     . have:(d.2.2.2.2.1 == 0)=false:=by simpa using h3
       rw[this];simp
     . have:(d.2.2.2.1 == 0)=false:=by simpa using h2
       rw[this];simp
     . rcases Bool.and_eq_false_iff.mp h1 with h1|h1<;>rw[h1]<;>simp)
theorem z3x {l:List z0r} {ds:List z0c}:z2v l ds (zio l ds):=zfp _ _ _ (by
 unfold z99
 refine z8t ds (fun d=>!ziv l d) (fun i=>((i:Int),())) (KT:=ds.all (ziv l)=false) (KF:=ds.all (ziv l)=true) ?_ ?_ ?_ ?_
 . intro i hi X q1 q2
   refine z0j fun _=>bcI hi (inI hi ⟨_,zik,?_⟩)
   simp only
   rw[z20 hi,z04 (by omega)]
   exact z1j (fun h=>by unfold zio;rw[q1 h];simp) (fun h=>q2 h)
 . intro X h
   refine z0j fun _=>bcN ⟨_,z26,z1j (fun h1=>z0j fun _=>?_) (fun h1=>?_)⟩
   . unfold zio;rw[h,h1]
     have:decide ((ds.length:Int)<=5)=decide (ds.length<=5):=decide_eq_decide.mpr (by omega)
     rw[this];simp
   . unfold zio;rw[h1];simp
 . intro h;rw[z49]at h;exact nt h
 . intro h;rw[z49]at h;exact nf h)
theorem zdw {l:List z0r} {d:z0c}:z1n d l (!ziv l d):=zdq _ _ _ (by unfold z8d;exact⟨_,zj0,rfl⟩)
theorem zfx {l:List z0r} {ds:List z0c}:z5i l ds (zio l ds):=zf5 _ _ _ (by
 unfold z9c
 refine⟨_,z4w,z1j (fun h1=>z0j fun _=>z08 (fun h2=>⟨_,z3b (fun d=>!ziv l d) (fun _ _=>zdw),?_⟩) (fun h2=>?_)) (fun h1=>?_)⟩
 . have:decide (ds.length<=5)=true:=decide_eq_true (by omega)
   unfold zio;rw[h1,this,z49];simp
 . have:decide (ds.length<=5)=false:=decide_eq_false (by omega)
   unfold zio;rw[this];simp
 . unfold zio;rw[h1];simp)
theorem z5m {d:z0c} (h1:(d.1.flatMap (·.2.1)).length<=1073741824) (h2:(d.2.1.flatMap (·.2.1)).length<=1073741824):z2r d (exV d):=zfm _ _ (by
 unfold z9a
 have hv:=zi9 d.2.1
 refine⟨_,zb6 h1,_,zb6 h2,?_⟩
 refine z1e (vars d.2.1).length (fun i=>((i:Int),(((vars d.2.1).take i).filter (fun v=>!decide (v∈vars d.1)),()))) (by simp) ?_ ?_
 . intro i hi X hX
   refine z0j fun _=>bcI hi (inI hi ⟨_,zos,?_⟩)
   simp only
   rw[z20 hi,z04 (by omega)]
   have e:((vars d.2.1).take (i+1)).filter (fun v=>!decide (v∈vars d.1))=((vars d.2.1).take i).filter (fun v=>!decide (v∈vars d.1))++(if (vars d.2.1)[i]∈vars d.1 then[] else[(vars d.2.1)[i]]):=by
    rw[z07 hi,List.filter_append]
    by_cases h:(vars d.2.1)[i]∈vars d.1<;>simp[h]
   rw[e]at hX
   have hb:=List.length_filter_le (fun v=>!decide (v∈vars d.1)) ((vars d.2.1).take i)
   rw[List.length_take]at hb
   refine z1j (fun h=>inI hi ⟨by simp only[z0w,List.length_cons,List.length_nil];omega,?_⟩) (fun h=>?_)
   . have h:¬ (vars d.2.1)[i]∈vars d.1:=by simpa using h
     rw[if_neg h]at hX;exact hX
   . have h:(vars d.2.1)[i]∈vars d.1:=by simpa using h
     rw[if_pos h,List.append_nil]at hX;exact hX
 . intro X
   refine z0j fun _=>bcN ?_
   simp only[List.take_length]
   rfl)
def hdV (d:z0c) (b:Bool):List Int:=(vars d.2.1).filter fun v=>decide (v∈vars d.1) == b
theorem zg0 {d:z0c} {b:Bool} (h1:(d.1.flatMap (·.2.1)).length<=1073741824) (h2:(d.2.1.flatMap (·.2.1)).length<=1073741824):z8u d b (hdV d b):=zoe _ _ _ (by
 unfold zg9
 have hv:=zi9 d.2.1
 refine⟨_,zgz h1,_,zgz h2,z0j fun _=>?_⟩
 refine z1e (vars d.2.1).length (fun i=>((i:Int),(((vars d.2.1).take i).filter (fun v=>decide (v∈vars d.1) == b),()))) (by simp) ?_ ?_
 . intro i hi X hX
   refine bcI hi (inI hi ⟨_,z74,?_⟩)
   simp only
   rw[z20 hi,z04 (by omega)]
   have e:((vars d.2.1).take (i+1)).filter (fun v=>decide (v∈vars d.1) == b)=((vars d.2.1).take i).filter (fun v=>decide (v∈vars d.1) == b)++(if (decide ((vars d.2.1)[i]∈vars d.1) == b)=true then[(vars d.2.1)[i]] else[]):=by
    rw[z07 hi,List.filter_append]
    cases h:(decide ((vars d.2.1)[i]∈vars d.1) == b)<;>simp[h]
   rw[e]at hX
   have hb:=List.length_filter_le (fun v=>decide (v∈vars d.1) == b) ((vars d.2.1).take i)
   rw[List.length_take]at hb
   refine z1j (fun h=>⟨by simp only[z0w,List.length_cons,List.length_nil];omega,?_⟩) (fun h=>?_)
   . rw[if_pos h]at hX;exact hX
   . rw[if_neg (by rw[h];simp),List.append_nil]at hX;exact hX
 . intro X
   refine bcN ?_
   simp only[List.take_length]
   rfl)
theorem z07p (d:z0c):hdV d false=exV d:=by unfold hdV exV;congr 1;funext v;by_cases h:v∈vars d.1<;>simp[h]
theorem z0az (d:z0c):hdV d true=frV d:=by unfold hdV frV;congr 1;funext v;by_cases h:v∈vars d.1<;>simp[h]
theorem zf4 {d:z0c} (h1:(d.1.flatMap (·.2.1)).length<=1073741824) (h2:(d.2.1.flatMap (·.2.1)).length<=1073741824):z5r d (exV d):=zfj _ _ (by
 unfold z9s
 exact⟨_,zg0 h1 h2,by rw[z07p]⟩)
theorem zal {l:List z0r} {d:z0c} (h:ziv l d=true):1<=d.1.length/\d.1.length<=2/\(∀ a∈d.1,z6l l a=true)/\d.2.1.length<=2/\(∀ a∈d.2.1,z6l l a=true)/\(d.1.flatMap (·.2.1)).length<=6/\(d.2.1.flatMap (·.2.1)).length<=6:=by
 unfold ziv at h
 rw[Bool.and_eq_true,Bool.and_eq_true]at h
 obtain⟨⟨h1,h2⟩,h3⟩:=h
 have h1:=inR_iff.mp h1
 have l1:=zm2 h2
 cases he:d.2.2.1 with
 | true=>
   rw[if_pos he]at h3
   simp only[Bool.and_eq_true,decide_eq_true_eq]at h3
   have:=h3.1.1.1
   exact⟨by omega,by omega,List.all_eq_true.mp h2,by simp[this],by simp[this],by omega,by simp[this]⟩
 | false=>
   rw[if_neg (by simp[he])]at h3
   simp only[Bool.and_eq_true]at h3
   have hr:=inR_iff.mp h3.1.1.2
   have h4:d.2.1.all (z6l l)=true:=List.all_eq_true.mpr fun a ha=>by
    have:=List.all_eq_true.mp h3.1.1.1 a ha
    rw[Bool.and_eq_true]at this;exact this.1
   have l2:=zm2 h4
   exact⟨by omega,by omega,List.all_eq_true.mp h2,by omega,List.all_eq_true.mp h4,by omega,by omega⟩
theorem zr8 {l:List z0r} {ds:List z0c} (h:zio l ds=true) {d:z0c} (hd:d∈ds):ziv l d=true:=by
 unfold zio at h
 rw[Bool.and_eq_true,Bool.and_eq_true]at h
 exact List.all_eq_true.mp h.1.1 d hd
theorem zkt {l:List z0r} {ds:List z0c} (h:zio l ds=true):ds.length<=5:=by
 unfold zio at h;simp at h;exact h.2
def z8i (v:Int):Bool:=inR v (-40) (-1)
def z4r (v:Int):Int:=if z8i v then -1 - v else 0
def zn6 (v:Int):Bool:=inR v (-40) 9
def z2q (l:List Int):List Int:=(l.filter z8i).map (fun v=>-1 - v)
def zyj (f:z00):List Int:=zdg (z2q f.2.1)
def zga (x:z0d):List Int:=zdg (x.2.1.flatMap fun f=>z2q f.2.1)
def znx (l:List z0r) (f:z00):Bool:=zwn zn6 l f
def zna (l:List z00) (i:Nat):z00:=l.getD i z0n
def z8g (x:z0d) (i:Nat):Bool:=znx x.1 (zna x.2.1 i)&&(i == 0||decide (zc8 (zna x.2.1 (i - 1)) (zna x.2.1 i)<0)) && !(z9o x.1 (zna x.2.1 i).1&&(zyj (zna x.2.1 i)).length != 0)
def z35 (x:z0d):Bool:=z9w x.1&&decide (x.2.1.length<=30)&&(List.range x.2.1.length).all (z8g x)
theorem isNul_iff {v:Int}:z8i v=true↔-40<=v/\v<=-1:=inR_iff
theorem mem_nulls {l:List Int} {k:Int}:k∈z2q l↔0<=k/\k<40/\(-1 - k)∈l:=by
 unfold z2q
 rw[List.mem_map]
 constructor
 . rintro⟨v,hv,rfl⟩
   obtain⟨h1,h2⟩:=List.mem_filter.mp hv
   have:=isNul_iff.mp h2
   exact ⟨by omega, by omega, by have e : -1 - (-1 - v)=v:=by omega
                                 rw[e];exact h1⟩
 . rintro⟨h1,h2,h3⟩
   exact⟨-1 - k,List.mem_filter.mpr ⟨h3,isNul_iff.mpr ⟨by omega,by omega⟩⟩,by omega⟩
theorem zdd (l m:List Int):z2q (l++m)=z2q l++z2q m:=by unfold z2q;rw[List.filter_append,List.map_append]
theorem zex (l:List z00):z2q (l.flatMap (·.2.1))=l.flatMap fun f=>z2q f.2.1:=by
 induction l with
 |nil=>rfl
 |cons a l ih=>simp only[List.flatMap_cons];rw[zdd,ih]
theorem zka {l:List Int}:∀ k∈zdg (z2q l),0<=k/\k<0+(40:Nat):=fun k hk=>by
 have:=mem_nulls.mp (mem_sset.mp hk);omega
theorem zlr {l:List Int}:(zdg (z2q l)).length<=40:=zyw (zl5 _) zka
theorem z03b (x:z0d):(zga x).length<=40:=by unfold zga;rw[<-zex];exact zlr
theorem zz9 (l:List Int):(z2q l).length<=l.length:=by unfold z2q;rw[List.length_map];exact List.length_filter_le _ _
theorem z3p {l:List z00} {i:Nat} (h:i<l.length):zna l i=l[i]:=z29 h
theorem z7o {x:z0d} (h:z35 x=true) {f:z00} (hf:f∈x.2.1):znx x.1 f=true:=by
 unfold z35 at h
 rw[Bool.and_eq_true]at h
 obtain⟨i,hi,rfl⟩:=List.mem_iff_getElem.mp hf
 have:=List.all_eq_true.mp h.2 i (List.mem_range.mpr hi)
 unfold z8g at this
 rw[Bool.and_eq_true,Bool.and_eq_true,z3p hi]at this
 exact this.1.1
theorem z54 {x:z0d} (h:z35 x=true):x.2.1.length<=30:=by unfold z35 at h;simp at h;exact h.1.2
theorem zep {x:z0d} (h:z35 x=true):z9w x.1=true:=by unfold z35 at h;simp at h;exact h.1.1
theorem z02s {x:z0d} {i:Nat} (hi:i<x.2.1.length) (h:z8g x i=false):z35 x=false:=by
 unfold z35
 have:(List.range x.2.1.length).all (z8g x)=false:=by
  rw[Bool.eq_false_iff];intro hall
  have:=List.all_eq_true.mp hall i (List.mem_range.mpr hi);rw[h]at this;cases this
 rw[this];simp
theorem zqw {x:z0d} (h1:∀ i,i<x.2.1.length->z8g x i=true):z35 x=(z9w x.1&&decide (x.2.1.length<=30)):=by
 unfold z35
 rw[List.all_eq_true.mpr fun i hi=>h1 i (List.mem_range.mp hi)];simp
theorem zhb (v:Int):0<=z4r v:=by
 unfold z4r
 split
 . rename_i h;have:=isNul_iff.mp h;omega
 . omega
theorem z9h {v:Int}:z3y v (z4r v) (z8i v):=zvl fun hb=>zv5 _ _ _ (by
 have hb : -9223372036854775808<=v/\v<=9223372036854775807:=hb
 unfold zm3
 have no:z8i v=false->(((0:Int),(false,())):Int×Bool×Unit)=(z4r v,(z8i v,())):=fun h=>by unfold z4r;rw[h];rfl
 refine z08 (fun h=>no ?_) (fun h=>⟨_,z7b,?_⟩)
 . rw[Bool.eq_false_iff];intro h';have:=isNul_iff.mp h';omega
 . rw[z2s (by omega) (by omega)]
   refine z0y (fun h2=>no ?_) (fun h2=>?_)
   . rw[Bool.eq_false_iff]at h2 ⊢;intro h';have:=isNul_iff.mp h';exact h2 (inR_iff.mpr ⟨by omega,by omega⟩)
   . have:=inR_iff.mp h2
     have e:z8i v=true:=isNul_iff.mpr ⟨by omega,by omega⟩
     unfold z4r;rw[e];rfl)
theorem zla {v:Int}:z7r v (z4r v) (z8i v):=zvn fun hb=>zv9 _ _ _ (by
 have hb : -9223372036854775808<=v/\v<=9223372036854775807:=hb
 unfold zm1
 have no:z8i v=false->(((0:Int),(false,())):Int×Bool×Unit)=(z4r v,(z8i v,())):=fun h=>by unfold z4r;rw[h];rfl
 rw[z2s (by omega) (by omega)]
 refine⟨_,z9d,z0y (fun h2=>no ?_) (fun h2=>?_)⟩
 . rw[Bool.eq_false_iff]at h2 ⊢;intro h';have:=isNul_iff.mp h';exact h2 (inR_iff.mpr ⟨by omega,by omega⟩)
 . have:=inR_iff.mp h2
   have e:z8i v=true:=isNul_iff.mpr ⟨by omega,by omega⟩
   unfold z4r;rw[e];rfl)
theorem z9b {v:Int}:z55 v (zn6 v):=zpw _ _ (by
 unfold zgv
 refine⟨_,_,z9h,z1j (fun h=>?_) (fun h=>⟨_,z7b,?_⟩)⟩
 . have:=isNul_iff.mp h
   have e:zn6 v=true:=inR_iff.mpr ⟨by omega,by omega⟩
   rw[e]
 . have:inR v 0 9=zn6 v:=by
    rw[Bool.eq_iff_iff]
    unfold zn6
    rw[inR_iff,inR_iff]
    constructor
    . omega
    . intro h'
      refine⟨?_,h'.2⟩
      rcases Int.lt_or_le v 0 with h0|h0
      . rw[isNul_iff.mpr ⟨by omega,by omega⟩]at h;cases h
      . exact h0
   rw[this])
theorem z9r {v:Int}:z52 v (zn6 v):=zqr _ _ (by unfold zgn;exact⟨_,z9d,rfl⟩)
theorem zja {f:z00}:z68 f (zyj f):=zs4 _ _ (by
 unfold zjg
 refine z1e f.2.1.length (fun i=>((i:Int),(zdg (z2q (f.2.1.take i)),()))) (by simp[z2q,zdg]) ?_ ?_
 . intro i hi X hX
   refine z0j fun _=>bcI hi (inI hi ⟨_,_,z9h,?_⟩)
   simp only
   rw[z20 hi,z04 (by omega)]
   have e:z2q (f.2.1.take (i+1))=z2q (f.2.1.take i)++(if z8i f.2.1[i] then[-1 - f.2.1[i]] else[]):=by
    rw[z07 hi,zdd];congr 1
    unfold z2q
    cases h:z8i f.2.1[i]<;>simp[h]
   rw[e]at hX
   have hf:=zlr (l:=f.2.1.take i)
   refine z1j (fun h=>⟨_,zoq (by omega),?_⟩) (fun h=>?_)
   . rw[if_pos h]at hX
     have:z4r f.2.1[i] = -1 - f.2.1[i]:=by unfold z4r;rw[if_pos h]
     rw[this,zpn];exact hX
   . rw[if_neg (by rw[h];simp),List.append_nil]at hX;exact hX
 . intro X
   refine z0j fun _=>bcN ?_
   simp only[List.take_length]
   rfl)
theorem zmq {l:List Int} (hl:l.length<=1073741824):zeu l (zdg (z2q l)):=z04o _ _ (by
 unfold zto
 refine z0j fun _=>z1e l.length (fun i=>((i:Int),(z2q (l.take i),()))) (by simp[z2q]) ?_ ?_
 . intro i hi X hX
   refine bcI hi (inI hi ⟨_,_,zla,?_⟩)
   simp only
   rw[z20 hi,z04 (by omega)]
   have e:z2q (l.take (i+1))=z2q (l.take i)++(if z8i l[i] then[-1 - l[i]] else[]):=by
    rw[z07 hi,zdd];congr 1
    unfold z2q
    cases h:z8i l[i]<;>simp[h]
   rw[e]at hX
   have hb:=zz9 (l.take i)
   rw[List.length_take]at hb
   refine z1j (fun h=>⟨by simp only[z0w,List.length_cons,List.length_nil];omega,?_⟩) (fun h=>?_)
   . rw[if_pos h]at hX
     have:z4r l[i] = -1 - l[i]:=by unfold z4r;rw[if_pos h]
     rw[this];exact hX
   . rw[if_neg (by rw[h];simp),List.append_nil]at hX;exact hX
 . intro X
   refine bcN ⟨_,zb3 ?_,_,z8z,?_⟩
   . simp only[List.take_length];have:=zz9 l;omega
   . simp only[List.take_length];rw[zxl])
theorem zsj {f:z00} (h:f.2.1.length<=1073741824):z8r f (zyj f):=zsd _ _ (by unfold zjf;exact⟨_,zmq h,rfl⟩)
theorem zdl {x:z0d}:z6j x (zga x):=zl7 _ _ (by
 unfold zda
 refine z1e x.2.1.length (fun i=>((i:Int),(zdg ((x.2.1.take i).flatMap fun f=>z2q f.2.1),()))) (by simp[zdg]) ?_ ?_
 . intro i hi X hX
   refine z0j fun _=>bcI hi (inI hi ⟨_,zja,?_⟩)
   simp only
   rw[z20 hi]
   have hn:(zyj x.2.1[i]).length<=40:=zlr
   refine z1e (zyj x.2.1[i]).length (fun j=>(((zyj x.2.1[i]).take j).foldl ins (zdg ((x.2.1.take i).flatMap fun f=>z2q f.2.1)),((j:Int),()))) (by simp) ?_ ?_
   . intro j hj Y hY
     refine z0j fun _=>bcI hj (inI hj ⟨_,zoq ?_,?_⟩)
     . have h1:(zdg ((x.2.1.take i).flatMap fun f=>z2q f.2.1)).length<=40:=by rw[<-zex];exact zlr
       have:∀(l s:List Int),(l.foldl ins s).length<=s.length+l.length:=by
        intro l
        induction l with
        |nil=>intro s;simp
        |cons a l ih=>intro s;have:=ih (ins s a);have:=z082 s a;simp only[List.foldl_cons,List.length_cons];omega
       have:=this ((zyj x.2.1[i]).take j) (zdg ((x.2.1.take i).flatMap fun f=>z2q f.2.1))
       rw[List.length_take]at this
       simp only;omega
     . simp only
       rw[z20 hj,z04 (by omega)]
       rw[z07 hj,List.foldl_append]at hY
       exact hY
   . intro Y
     refine z0j fun _=>bcN ?_
     simp only[List.take_length]
     rw[z04 (by omega)]
     have:(zyj x.2.1[i]).foldl ins (zdg ((x.2.1.take i).flatMap fun f=>z2q f.2.1))=zdg ((x.2.1.take (i+1)).flatMap fun f=>z2q f.2.1):=by
      unfold zyj
      rw[zza,z07 hi,List.flatMap_append];simp
     rw[this];exact hX
 . intro X
   refine z0j fun _=>bcN ?_
   simp only[List.take_length]
   rfl)
theorem zks {x:z0d} (hl:(x.2.1.flatMap (·.2.1)).length<=1073741824):z9u x (zga x):=zm9 _ _ (by
 unfold zd0
 refine z0j fun _=>z1e x.2.1.length (fun i=>((i:Int),((x.2.1.take i).flatMap (·.2.1),()))) (by simp) ?_ ?_
 . intro i hi X hX
   have hs:=zf0 (fun f:z00=>f.2.1) hi
   refine bcI hi (inI hi ⟨?_,?_⟩)
   . simp only[z0w];rw[z20 hi];omega
   . simp only
     rw[z20 hi,z04 (by omega)]
     rw[z07 hi,List.flatMap_append]at hX
     simpa using hX
 . intro X
   refine bcN ⟨_,zmq ?_,?_⟩
   . simp only[List.take_length];exact hl
   . simp only[List.take_length]
     rw[zex];rfl)
theorem zsb {l:List z0r} {a:z00}:ze3 l a (znx l a):=zsy _ _ _ (by
 unfold zje znx
 refine⟨_,z26,z0y (fun h=>row_no1 h) (fun h1=>z0j fun hl=>⟨_,z7b,z0y (fun h=>row_no2 hl h) (fun h2=>z0j fun hl2=>⟨row_start h2 hl,zeo (fun h=>row_no3 h) (fun h3=>?_)⟩)⟩)⟩
 refine z8t a.2.1 (fun t=>!zn6 t) (fun i=>((i:Int),())) (KT:=((false,()):Bool×Unit)=(zwn zn6 l a,())) (KF:=((true,()):Bool×Unit)=(zwn zn6 l a,())) ?_ (fun X h=>z0j fun _=>bcN h) ?_ ?_
 . intro i hi X q1 q2
   refine z0j fun _=>bcI hi (inI hi ⟨_,z9b,?_⟩)
   simp only
   rw[z20 hi,z04 (by omega)]
   exact z1j (fun h=>q1 h) (fun h=>q2 h)
 . intro h;exact row_yes hl h1 h2 h3 (by rw[z49]at h;exact(nt h).symm)
 . intro h;exact row_yes hl h1 h2 h3 (by rw[z49]at h;exact(nf h).symm))
theorem zof {t:Int}:z4e t (!zn6 t):=znv _ _ (by unfold zg6;exact⟨_,z9r,rfl⟩)
theorem zsi {l:List z0r} {a:z00}:ze2 l a (znx l a):=zs2 _ _ _ (by
 unfold zjn znx
 refine⟨_,z4w,z0y (fun h=>row_no1 h) (fun h1=>z0j fun hl=>⟨_,z9d,z0y (fun h=>row_no2 hl h) (fun h2=>z0j fun hl2=>⟨row_start h2 hl,zeo (fun h=>row_no3 h) (fun h3=>?_)⟩)⟩)⟩
 exact⟨_,z64 (fun t=>!zn6 t) (fun _ _=>zof),row_yes hl h1 h2 h3 (by rw[z49];simp)⟩)
theorem zp2 {x:z0d} {f:z00} (h:znx x.1 f=true):0<=f.1/\f.1<(x.1.length:Int):=by have:=z3k h;exact⟨this.2.1,this.2.2.1⟩
theorem zan {x:z0d} {i:Nat} (hi:i<x.2.1.length) (h1:znx x.1 x.2.1[i]=true) (h2:0<i->zc8 (zna x.2.1 (i - 1)) x.2.1[i]<0):z8g x i = !(z9o x.1 x.2.1[i].1&&(zyj x.2.1[i]).length != 0):=by
 unfold z8g
 rw[z3p hi,h1]
 have:(i == 0||decide (zc8 (zna x.2.1 (i - 1)) x.2.1[i]<0))=true:=by
  rcases Nat.eq_zero_or_pos i with h|h
  . simp[h]
  . rw[decide_eq_true (h2 h)];simp
 rw[this];rfl
theorem z2w {x:z0d}:z2b x (z35 x):=zkp _ _ (by
 unfold zd2
 have no:z35 x=false->((false,()):Bool×Unit)=(z35 x,()):=fun h=>by rw[h]
 refine zcp x.2.1.length (fun i=>!z8g x i) (fun i=>((i:Int),())) (KT:=z35 x=false) (KF:=z35 x=(z9w x.1&&decide (x.2.1.length<=30))) ?_ ?_ ?_ ?_
 . intro i hi X hb q1 q2
   have qn:z8g x i=false->((false,()):Bool×Unit)=(z35 x,()):=fun h=>no (q1 (by rw[h];rfl))
   have qy:z8g x i=true->X (((i+1:Nat):Int),()):=fun h=>q2 (by rw[h];rfl)
   refine z0j fun hl=>bcI hi (inI hi ⟨_,zsb,?_⟩)
   simp only
   rw[z20 hi,z04 (by omega)]
   refine z0y (fun h=>qn (by unfold z8g;rw[z3p hi,h];simp)) (fun hv=>?_)
   have fin:z8g x i = !(z9o x.1 x.2.1[i].1&&(zyj x.2.1[i]).length != 0)->((0<=x.2.1[i].1/\x.2.1[i].1<(x.1.length:Int))/\(z01 (((x.1.getD (Int.toNat x.2.1[i].1) zia).2).2).1 (∃ y5:List Int,z68 x.2.1[i] y5/\(z0s (List.length y5:Int) (z01 (decide ((List.length y5:Int) > (0:Int))) (((false,()):Bool×Unit)=(z35 x,())) (X (((i+1:Nat):Int),()))))) (X (((i+1:Nat):Int),())))):=by
    intro he
    refine⟨zp2 hv,z1j (fun hs=>⟨_,zja,z0j fun _=>z08 (fun h=>qn ?_) (fun h=>qy ?_)⟩) (fun hs=>qy ?_)⟩
    . have hs:z9o x.1 x.2.1[i].1=true:=hs
      rw[he,hs];simp;intro e;rw[e]at h;simp at h
    . have:(zyj x.2.1[i]).length=0:=by omega
      rw[he,this];simp
    . have hs:z9o x.1 x.2.1[i].1=false:=hs
      rw[he,hs];rfl
   refine z08 (fun h0=>?_) (fun h0=>fin (zan hi hv (fun h=>by omega)))
   have hi':i - 1<x.2.1.length:=by omega
   have hw:w64 ((i:Int) - 1)=((i - 1:Nat):Int):=by rw[z2s (by omega) (by omega)];omega
   rw[hw]
   refine inI hi' ⟨_,z5c,?_⟩
   rw[z20 hi']
   refine z08 (fun h=>qn ?_) (fun h=>fin (zan hi hv (fun _=>by rw[z3p hi'];omega)))
   unfold z8g
   rw[z3p hi,z3p hi',decide_eq_false (by omega)]
   have:(i == 0)=false:=by simp;omega
   rw[this];simp
 . intro X h
   refine z0j fun _=>bcN ⟨_,z26,z1j (fun h1=>z0j fun _=>?_) (fun h1=>no (by rw[h,h1];rfl))⟩
   rw[h,h1]
   have:decide ((x.2.1.length:Int)<=30)=decide (x.2.1.length<=30):=decide_eq_decide.mpr (by omega)
   rw[this];rfl
 . rintro⟨i,hi,hp⟩;exact z02s hi (nt hp)
 . intro h;exact zqw fun i hi=>nf (h i hi))
theorem z94 {x:z0d}:z4h x (z35 x):=zky _ _ (by
 unfold zd6
 have no:z35 x=false->((false,()):Bool×Unit)=(z35 x,()):=fun h=>by rw[h]
 refine⟨_,z4w,z0y (fun h=>no (by unfold z35;rw[h];simp)) (fun hr=>z0j fun _=>z08 (fun h=>no (by unfold z35;rw[decide_eq_false (show ¬ x.2.1.length<=30 by omega)];simp)) (fun hlen=>z0j fun _=>?_))⟩
 refine zcp x.2.1.length (fun i=>!z8g x i) (fun i=>((i:Int),())) (KT:=z35 x=false) (KF:=z35 x=(z9w x.1&&decide (x.2.1.length<=30))) ?_ ?_ ?_ ?_
 . intro i hi X hb q1 q2
   have qn:z8g x i=false->((false,()):Bool×Unit)=(z35 x,()):=fun h=>no (q1 (by rw[h];rfl))
   have qy:z8g x i=true->X (((i+1:Nat):Int),()):=fun h=>q2 (by rw[h];rfl)
   refine bcI hi (inI hi ⟨_,zsi,?_⟩)
   simp only
   rw[z20 hi,z04 (by omega)]
   refine z0y (fun h=>qn (by unfold z8g;rw[z3p hi,h];simp)) (fun hv=>?_)
   have hvl:=(z3k hv).2.2.2.2.1
   have fin:z8g x i = !(z9o x.1 x.2.1[i].1&&(zyj x.2.1[i]).length != 0)->((0<=x.2.1[i].1/\x.2.1[i].1<(x.1.length:Int))/\(z01 (((x.1.getD (Int.toNat x.2.1[i].1) zia).2).2).1 (∃ y5:List Int,z8r x.2.1[i] y5/\(z0s (List.length y5:Int) (z01 (decide ((List.length y5:Int) > (0:Int))) (((false,()):Bool×Unit)=(z35 x,())) (X (((i+1:Nat):Int),()))))) (X (((i+1:Nat):Int),())))):=by
    intro he
    refine⟨zp2 hv,z1j (fun hs=>⟨_,zsj (by omega),z0j fun _=>z08 (fun h=>qn ?_) (fun h=>qy ?_)⟩) (fun hs=>qy ?_)⟩
    . have hs:z9o x.1 x.2.1[i].1=true:=hs
      rw[he,hs];simp;intro e;rw[e]at h;simp at h
    . have:(zyj x.2.1[i]).length=0:=by omega
      rw[he,this];simp
    . have hs:z9o x.1 x.2.1[i].1=false:=hs
      rw[he,hs];rfl
   refine z08 (fun h0=>?_) (fun h0=>fin (zan hi hv (fun h=>by omega)))
   have hi':i - 1<x.2.1.length:=by omega
   have hw:w64 ((i:Int) - 1)=((i - 1:Nat):Int):=by rw[z2s (by omega) (by omega)];omega
   rw[hw]
   refine inI hi' ⟨_,z6q,?_⟩
   rw[z20 hi']
   refine z08 (fun h=>qn ?_) (fun h=>fin (zan hi hv (fun _=>by rw[z3p hi'];omega)))
   unfold z8g
   rw[z3p hi,z3p hi',decide_eq_false (by omega)]
   have:(i == 0)=false:=by simp;omega
   rw[this];simp
 . intro X h
   refine bcN ?_
   rw[h,hr,decide_eq_true (show x.2.1.length<=30 by omega)];rfl
 . rintro⟨i,hi,hp⟩;exact z02s hi (nt hp)
 . intro h;exact zqw fun i hi=>nf (h i hi))
theorem zn5 {x:z0d} (h:z35 x=true):(x.2.1.flatMap (·.2.1)).length<=90:=by
 have h1:=z54 h
 have:∀ l:List z00,(∀ f∈l,znx x.1 f=true)->(l.flatMap (·.2.1)).length<=3 * l.length:=by
  intro l
  induction l with
  |nil=>intro _;simp
  | cons a l ih=>
    intro hl
    have h1:=(z3k (hl a (by simp))).2.2.2.2.1
    have:=ih fun f hf=>hl f (by simp[hf])
    simp only[List.flatMap_cons,List.length_append,List.length_cons];omega
 have:=this x.2.1 fun f hf=>z7o h hf
 omega
def zhh (x:z0d):Int:=match (zga x).getLast? with
 |some k=>k+1
 |none=>0
theorem nextN_le {x:z0d} {n:Nat}:zhh x<=n↔∀ k∈zga x,k<n:=by
 unfold zhh
 have hs:srt (zga x):=zl5 _
 cases h:(zga x).getLast? with
 | none=>
   have:zga x=[]:=List.getLast?_eq_none_iff.mp h
   rw[this];simp
 | some m=>
   have hne:zga x≠[]:=by intro e;rw[e]at h;simp at h
   have hm:(zga x).getLast hne=m:=by rw[List.getLast?_eq_some_getLast hne]at h;exact Option.some.inj h
   have hlast:=z0a4 hs hne
   constructor
   . intro h' k hk
     have:=hlast k hk;rw[hm]at this;simp only at h';omega
   . intro h'
     have:=h' m (by rw[<-hm];exact List.getLast_mem hne)
     simp only;omega
theorem z017 {x:z0d} (hl:(x.2.1.flatMap (·.2.1)).length<=1073741824):zk4 x (zhh x):=zzz _ _ (by
 unfold zph
 have hf:=z03b x
 refine⟨_,zks hl,z0j fun _=>z32 (fun h=>?_) (fun h=>z0j fun _=>?_)⟩
 . have:zga x=[]:=List.length_eq_zero_iff.mp (by omega)
   unfold zhh;rw[this];rfl
 . have hw:w64 ((zga x).length - 1:Int)=(((zga x).length - 1:Nat):Int):=by rw[z2s (by omega) (by omega)];omega
   rw[hw]
   have hlt:(zga x).length - 1<(zga x).length:=by omega
   refine inI hlt ?_
   rw[z20 hlt]
   have hne:zga x≠[]:=by intro e;rw[e]at h;simp at h
   have hr:0<=(zga x)[(zga x).length - 1]/\(zga x)[(zga x).length - 1]<0+(40:Nat):=by
    have:=zka (l:=x.2.1.flatMap (·.2.1)) ((zga x)[(zga x).length - 1]) (by rw[zex];exact List.getElem_mem hlt)
    exact this
   rw[z2s (by omega) (by omega)]
   unfold zhh
   rw[List.getLast?_eq_some_getLast hne,List.getLast_eq_getElem])
def mx (f:Int->Int) (l:List Int):Int:=l.foldl (fun m k=>zgx m (f k)) 0
theorem z0d5 {a b n:Int}:zgx a b<=n↔a<=n/\b<=n:=by unfold zgx;split<;>omega
theorem z07l {f:Int->Int} {n:Int}:∀ {l:List Int} {s:Int},l.foldl (fun m k=>zgx m (f k)) s<=n↔s<=n/\∀ k∈l,f k<=n
 |[],s=>by simp
 | a::l,s=>by
   rw[List.foldl_cons,z07l,z0d5]
   simp only[List.mem_cons,forall_eq_or_imp,and_assoc]
theorem mx_le {f:Int->Int} {l:List Int} {n:Int}:mx f l<=n↔0<=n/\∀ k∈l,f k<=n:=z07l
theorem zhn (f:Int->Int) (l:List Int):0<=mx f l:=(mx_le.mp (Int.le_refl _)).1
theorem z09s {f:Int->Int} {l m:List Int} (h:∀ k,k∈l↔k∈m):mx f l=mx f m:=by
 have h1:mx f l<=mx f m:=mx_le.mpr ⟨zhn _ _,fun k hk=>(mx_le.mp (Int.le_refl (mx f m))).2 k ((h k).mp hk)⟩
 have h2:mx f m<=mx f l:=mx_le.mpr ⟨zhn _ _,fun k hk=>(mx_le.mp (Int.le_refl (mx f l))).2 k ((h k).mpr hk)⟩
 omega
theorem z0cz (f:Int->Int) (l:List Int) (k:Int):mx f (l++[k])=zgx (mx f l) (f k):=by unfold mx;rw[List.foldl_append];rfl
theorem zux (a b:Int):zgx (a+1) (b+1)=zgx a b+1:=by unfold zgx;split<;>split<;>omega
def z8b (out:List Int) (args:List Int):Int:=mx (fun k=>out.getD k.toNat 0) (z2q args)+1
def z24 (ts:List z0a):List Int:=ts.foldl (fun out t=>out++[z8b out t.2.2.1]) []
theorem z8n (ts:List z0a) (t:z0a):z24 (ts++[t])=z24 ts++[z8b (z24 ts) t.2.2.1]:=by unfold z24;rw[List.foldl_append];rfl
theorem zzl (ts:List z0a):(z24 ts).length=ts.length:=by
 have:∀(l:List z0a) (s:List Int),(l.foldl (fun out t=>out++[z8b out t.2.2.1]) s).length=s.length+l.length:=by
  intro l
  induction l with
  |nil=>intro s;simp
  |cons a l ih=>intro s;rw[List.foldl_cons,ih];simp;omega
 have:=this ts []
 simpa [z24]using this
def zdr (ts:List z0a) (i:Nat):z0a:=ts.getD i z5y
theorem z67 {ts:List z0a} {i:Nat} (h:i<ts.length):zdr ts i=ts[i]:=z29 h
def zak (k:Nat) (v:Int):Bool:=zn6 v && !(z8i v&&decide ((k:Int)<=z4r v))
def z8c (ts:List z0a) (k:Nat):Bool:=inR (zdr ts k).1 0 4&&inR (zdr ts k).2.1 0 4&&decide ((zdr ts k).2.2.1.length<=5)&&(zdr ts k).2.2.1.all (zak k) && !(ts.take k).any (fun t=>decide (t=zdr ts k))
def zj2 (ts:List z0a):Bool:=decide (ts.length<=30)&&(List.range ts.length).all (z8c ts)&&(z24 ts).all fun d=>decide (d<=8)
def vSk (s:TSk):Bool:=z35 s.1&&decide (zhh s.1<=s.2.1.length)&&zj2 s.2.1
theorem zu1 {k:Nat} {args:List Int} (h:args.all (zak k)=true):∀ n∈z2q args,0<=n/\n<k:=by
 intro n hn
 obtain⟨h1,h2,h3⟩:=mem_nulls.mp hn
 have:=List.all_eq_true.mp h _ h3
 unfold zak at this
 rw[Bool.and_eq_true]at this
 have hi:z8i (-1 - n)=true:=isNul_iff.mpr ⟨by omega,by omega⟩
 have he:z4r (-1 - n)=n:=by unfold z4r;rw[if_pos hi];omega
 rw[hi,Bool.true_and,he]at this
 have h4:=this.2
 simp at h4
 exact⟨h1,h4⟩
theorem z07n {ts:List z0a} (h:zj2 ts=true) {k:Nat} (hk:k<ts.length):z8c ts k=true:=by
 unfold zj2 at h
 simp only[Bool.and_eq_true]at h
 exact List.all_eq_true.mp h.1.2 k (List.mem_range.mpr hk)
theorem z6w {s:TSk} (h:vSk s=true):z35 s.1=true/\zhh s.1<=s.2.1.length/\zj2 s.2.1=true:=by
 unfold vSk at h;simp at h;exact⟨h.1.1,h.1.2,h.2⟩
theorem zfg {ts:List z0a} (h:zj2 ts=true):ts.length<=30:=by unfold zj2 at h;simp at h;exact h.1.1
theorem zmk {g:Int->Int}:∀ {l:List Int} {s:Int},0<=s->l.foldl (fun m v=>zgx m (if z8i v then g (z4r v)else 0)) s=(z2q l).foldl (fun m k=>zgx m (g k)) s
 |[],_,_=>rfl
 | a::l,s,h=>by
   have hs:0<=zgx s (g (z4r a)):=by unfold zgx;split<;>omega
   have h0:zgx s 0=s:=by unfold zgx;split<;>omega
   rw[List.foldl_cons]
   cases hn:z8i a with
   | true=>
     have hno:z4r a = -1 - a:=by unfold z4r;rw[if_pos hn]
     have e:z2q (a::l)=(-1 - a)::z2q l:=by unfold z2q;simp[hn]
     rw[e,List.foldl_cons,if_pos rfl,zmk hs,hno]
   | false=>
     have e:z2q (a::l)=z2q l:=by unfold z2q;simp[hn]
     rw[e,if_neg (by simp),h0];exact zmk h
theorem z6t {s:TSk}:z3e s (vSk s):=zh7 _ _ (by
 unfold zba
 have no:vSk s=false->((false,()):Bool×Unit)=(vSk s,()):=fun h=>by rw[h]
 have na:zj2 s.2.1=false->((false,()):Bool×Unit)=(vSk s,()):=fun h=>no (by unfold vSk;rw[h];simp)
 refine z1m (fun k a=>∃ i:Nat,i+k=s.2.1.length/\a=((i:Int),(z24 (s.2.1.take i),()))/\i<=30/\(∀ j,j<i->z8c s.2.1 j=true)/\∀ d∈z24 (s.2.1.take i),d<=8) ?_ ?_ (n:=s.2.1.length) ⟨0,by omega,by simp[z24],by omega,fun j hj=>by omega,by simp[z24]⟩
 . rintro a ⟨i,hi,rfl,hi30,hok,hd⟩ X
   obtain rfl:i=s.2.1.length:=by omega
   rw[List.take_length]at hd
   refine z0j fun _=>bcN ?_
   have hT:zj2 s.2.1=true:=by
    unfold zj2
    rw[decide_eq_true hi30,List.all_eq_true.mpr fun i hi=>hok i (List.mem_range.mp hi),List.all_eq_true.mpr fun d h=>decide_eq_true (hd d h)];rfl
   have hf:=z03b s.1
   refine⟨_,zdl,_,z2w,z1j (fun hv=>z0j fun _=>z08 (fun _=>z0j fun _=>?_) (fun h=>by omega)) (fun hv=>no (by unfold vSk;rw[hv];simp))⟩
   have ev:vSk s=decide (zhh s.1<=s.2.1.length):=by unfold vSk;rw[hv,hT];simp
   rw[ev]
   refine z32 (fun h=>?_) (fun h=>z0j fun _=>?_)
   . have:zga s.1=[]:=List.length_eq_zero_iff.mp (by omega)
     rw[decide_eq_true (nextN_le.mpr (by rw[this];simp))]
   . have hw:w64 ((zga s.1).length - 1:Int)=(((zga s.1).length - 1:Nat):Int):=by rw[z2s (by omega) (by omega)];omega
     rw[hw]
     have hlt:(zga s.1).length - 1<(zga s.1).length:=by omega
     refine inI hlt (z0j fun _=>?_)
     rw[z20 hlt]
     have hne:zga s.1≠[]:=by intro e;rw[e]at h;simp at h
     have e1:zhh s.1=(zga s.1)[(zga s.1).length - 1]+1:=by unfold zhh;rw[List.getLast?_eq_some_getLast hne,List.getLast_eq_getElem]
     rw[e1]
     exact congrArg (fun b=>(b,())) (decide_eq_decide.mpr (by omega))
 . rintro k a ⟨i,hi,rfl,hi30,hok,hd⟩ X hX
   have hlt:i<s.2.1.length:=by omega
   have hdl:(z24 (s.2.1.take i)).length=i:=by rw[zzl,List.length_take];omega
   have nt':z8c s.2.1 i=false->((false,()):Bool×Unit)=(vSk s,()):=fun h=>na (by
    unfold zj2
    have:(List.range s.2.1.length).all (z8c s.2.1)=false:=by
     rw[Bool.eq_false_iff];intro hall
     have:=List.all_eq_true.mp hall i (List.mem_range.mpr hlt);rw[h]at this;cases this
    rw[this];simp)
   have hta:=z67 hlt
   refine z0j fun hl=>bcI hlt ?_
   simp only
   rw[z20 hlt]
   refine z1m (fun k a=>∃ j:Nat,j+k=s.2.1[i].2.2.1.length/\a=(mx (fun k=>(z24 (s.2.1.take i)).getD k.toNat 0) (z2q (s.2.1[i].2.2.1.take j)),((j:Int),()))/\(s.2.1[i].2.2.1.take j).all (zak i)=true) ?_ ?_ (n:=s.2.1[i].2.2.1.length) ⟨0,by omega,by simp[z2q,mx],by simp⟩
   rotate_left
   . rintro k a ⟨j,hj,rfl,hall⟩ Y hY
     have hjl:j<s.2.1[i].2.2.1.length:=by omega
     refine inI hlt (z0j fun _=>bcI hjl (inI hlt (inI hjl ?_)))
     simp only
     rw[z20 hjl,z04 (by omega)]
     have bad:zak i s.2.1[i].2.2.1[j]=false->((false,()):Bool×Unit)=(vSk s,()):=fun h=>nt' (by
      unfold z8c
      rw[hta]
      have:s.2.1[i].2.2.1.all (zak i)=false:=by
       rw[Bool.eq_false_iff];intro hall
       have:=List.all_eq_true.mp hall _ (List.getElem_mem hjl);rw[h]at this;cases this
      rw[this];simp)
     have hnl:z2q (s.2.1[i].2.2.1.take (j+1))=z2q (s.2.1[i].2.2.1.take j)++(if z8i s.2.1[i].2.2.1[j] then[-1 - s.2.1[i].2.2.1[j]] else[]):=by
      rw[z07 hjl,zdd];congr 1
      unfold z2q
      cases h:z8i s.2.1[i].2.2.1[j]<;>simp[h]
     refine⟨_,_,z9h,_,z9b,z0y (fun h=>bad (by unfold zak;rw[h];rfl)) (fun hv=>?_)⟩
     have hnext:zak i s.2.1[i].2.2.1[j]=true->(s.2.1[i].2.2.1.take (j+1)).all (zak i)=true:=fun h=>by
      rw[z07 hjl,List.all_append,hall];simp[h]
     refine z1j (fun hn=>?_) (fun hn=>?_)
     . have hno:z4r s.2.1[i].2.2.1[j] = -1 - s.2.1[i].2.2.1[j]:=by unfold z4r;rw[if_pos hn]
       have hr:=isNul_iff.mp hn
       refine z08 (fun h=>bad ?_) (fun h=>?_)
       . unfold zak;rw[hv,hn,decide_eq_true (show(i:Int)<=z4r s.2.1[i].2.2.1[j] from h)];rfl
       . rw[hn]
         refine bcT ⟨⟨by rw[hno];omega,by rw[hdl];omega⟩,hY _ ⟨j+1,by omega,?_,hnext ?_⟩⟩
         . rw[hnl,if_pos hn,z0cz,hno]
         . unfold zak;rw[hv,hn,decide_eq_false (show ¬ (i:Int)<=z4r s.2.1[i].2.2.1[j] by omega)];rfl
     . rw[hn]
       refine bcF (hY _ ⟨j+1,by omega,?_,hnext ?_⟩)
       . rw[hnl,if_neg (by rw[hn];simp),List.append_nil]
       . unfold zak;rw[hv,hn];rfl
   rintro a ⟨j,hj,rfl,hall⟩ Y
   obtain rfl:j=s.2.1[i].2.2.1.length:=by omega
   refine inI hlt (z0j fun _=>bcN ?_)
   simp only[List.take_length]at hall ⊢
   have hmx:=zhn (fun k=>(z24 (s.2.1.take i)).getD k.toNat 0) (z2q s.2.1[i].2.2.1)
   have hmx8:mx (fun k=>(z24 (s.2.1.take i)).getD k.toNat 0) (z2q s.2.1[i].2.2.1)<=8:=mx_le.mpr ⟨by omega,fun k hk=>by
    have hr:=zu1 hall k hk
    have hkl:k.toNat<(z24 (s.2.1.take i)).length:=by omega
    rw[z29 hkl];exact hd _ (List.getElem_mem hkl)⟩
   have hw:w64 (mx (fun k=>(z24 (s.2.1.take i)).getD k.toNat 0) (z2q s.2.1[i].2.2.1)+1)=z8b (z24 (s.2.1.take i)) s.2.1[i].2.2.1:=by rw[z2s (by omega) (by omega)];rfl
   rw[hw]
   refine⟨by simp only[z0w,List.length_cons,List.length_nil];omega,?_⟩
   have hsn:z24 (s.2.1.take i)++[z8b (z24 (s.2.1.take i)) s.2.1[i].2.2.1]=z24 (s.2.1.take (i+1)):=by rw[z07 hlt,z8n]
   have hmem:z8b (z24 (s.2.1.take i)) s.2.1[i].2.2.1∈z24 s.2.1:=by
    have:∀(l m:List z0a),∃ r,z24 (l++m)=z24 l++r:=by
     intro l m
     induction m generalizing l with
     |nil=>exact⟨[],by simp⟩
     | cons a m ih=>
       obtain⟨r,hr⟩:=ih (l++[a])
       rw[List.append_assoc,z8n,List.append_assoc]at hr
       exact⟨_,hr⟩
    obtain⟨r,hr⟩:=this (s.2.1.take (i+1)) (s.2.1.drop (i+1))
    rw[List.take_append_drop,<-hsn]at hr
    rw[hr];simp
   refine z08 (fun h=>na ?_) (fun h8=>inI hlt (z0j fun _=>z08 (fun h=>nt' ?_) (fun h5=>z08 (fun h=>na ?_) (fun h30=>?_))))
   . unfold zj2
     have:((z24 s.2.1).all fun d=>decide (d<=8))=false:=by
      rw[Bool.eq_false_iff];intro hall'
      have:=List.all_eq_true.mp hall' _ hmem
      have:z8b (z24 (s.2.1.take i)) s.2.1[i].2.2.1<=8:=by simpa using this
      unfold z8b at this;omega
     rw[this];simp
   . unfold z8c;rw[hta,decide_eq_false (show ¬ s.2.1[i].2.2.1.length<=5 by omega)];simp
   . unfold zj2;rw[decide_eq_false (show ¬ s.2.1.length<=30 by omega)];simp
   . refine zcp i (fun j=>decide (zdr s.2.1 j=s.2.1[i])) (fun j=>((j:Int),())) (KT:=(s.2.1.take i).any (fun t=>decide (t=s.2.1[i]))=true) (KF:=(s.2.1.take i).any (fun t=>decide (t=s.2.1[i]))=false) ?_ ?_ ?_ ?_
     . intro j hj Z _ q1 q2
       have hjl:j<s.2.1.length:=by omega
       have bad:s.2.1[j]=s.2.1[i]->((false,()):Bool×Unit)=(vSk s,()):=fun h=>nt' (by
        have:=q1 (by rw[z67 hjl];exact decide_eq_true h)
        unfold z8c;rw[hta,this];simp)
       have good:s.2.1[j]≠s.2.1[i]->Z (((j+1:Nat):Int),()):=fun h=>q2 (by rw[z67 hjl];exact decide_eq_false h)
       refine bcI hj (inI hjl (inI hlt ?_))
       simp only
       rw[z20 hjl,z04 (by omega)]
       refine z32 (fun h1=>inI hjl (inI hlt (z32 (fun h2=>inI hjl (inI hlt ⟨_,zm5,z32 (fun h3=>bad (Prod.ext h1 (Prod.ext h2 (Prod.ext (cmpL_zero.mp h3) rfl)))) (fun h3=>good fun e=>h3 (cmpL_zero.mpr (by rw[e])))⟩)) (fun h=>good fun e=>h (by rw[e]))))) (fun h=>good fun e=>h (by rw[e]))
     . intro Z hany
       refine bcN (inI hlt ⟨_,z7b,z0y (fun h=>nt' (by unfold z8c;rw[hta,h];simp)) (fun hd1=>inI hlt ⟨_,z7b,z0y (fun h=>nt' (by unfold z8c;rw[hta,h];simp)) (fun hd2=>?_)⟩)⟩)
       rw[z04 (by omega)]
       refine hX _ ⟨i+1,by omega,by rw[hsn],by omega,fun j hj=>?_,fun d hdm=>?_⟩
       . by_cases hji:j=i
         . subst hji
           unfold z8c
           rw[hta,hd1,hd2,hall,hany,decide_eq_true (show s.2.1[j].2.2.1.length<=5 by omega)];rfl
         . exact hok j (by omega)
       . rw[<-hsn]at hdm
         rcases List.mem_append.mp hdm with hdm|hdm
         . exact hd d hdm
         . have:d=z8b (z24 (s.2.1.take i)) s.2.1[i].2.2.1:=by simpa using hdm
           rw[this];unfold z8b;omega
     . rintro⟨j,hj,hp⟩
       have hjl:j<s.2.1.length:=by omega
       rw[z67 hjl]at hp
       refine List.any_eq_true.mpr ⟨s.2.1[j],?_,hp⟩
       have hjt:j<(s.2.1.take i).length:=by rw[List.length_take];omega
       have:(s.2.1.take i)[j]=s.2.1[j]:=by simp
       rw[<-this];exact List.getElem_mem hjt
     . intro h
       rw[Bool.eq_false_iff];intro hany
       obtain⟨t,ht,hp⟩:=List.any_eq_true.mp hany
       obtain⟨j,hj,rfl⟩:=List.mem_iff_getElem.mp ht
       rw[List.length_take]at hj
       have:=h j (by omega)
       rw[z67 (by omega)]at this
       have e:(s.2.1.take i)[j]'(by rw[List.length_take];omega)=s.2.1[j]'(by omega):=by simp
       rw[e]at hp
       rw[hp]at this;cases this)
theorem zv7 {v:Int} {k:Nat}:z7m v k (!zak k v):=zuo _ _ _ (by
 unfold zlx
 refine⟨_,_,zla,_,z9r,z0y (fun h=>by unfold zak;rw[h];rfl) (fun hv=>z1j (fun hn=>?_) (fun hn=>by unfold zak;rw[hv,hn];rfl))⟩
 unfold zak
 rw[hv,hn]
 simp)
theorem z00q {t:z0a} {k:Nat}:zkn t k (inR t.1 0 4&&inR t.2.1 0 4&&decide (t.2.2.1.length<=5)&&t.2.2.1.all (zak k)):=z00a _ _ _ (by
 unfold zrs
 refine⟨_,z9d,z0y (fun h=>by rw[h];rfl) (fun h1=>⟨_,z9d,z0y (fun h=>by rw[h];simp) (fun h2=>z0j fun _=>z08 (fun h=>?_) (fun h3=>⟨_,z6x (fun v=>!zak k v) (fun _ _=>zv7),?_⟩))⟩)⟩
 . rw[decide_eq_false (show ¬ t.2.2.1.length<=5 by omega)];simp
 . rw[h1,h2,decide_eq_true (show t.2.2.1.length<=5 by omega),z49];simp)
theorem z00w {x y:z0a}:zcs x y (decide (x=y)):=z00x _ _ _ (by
 unfold zq1
 have no:¬ x=y->((false,()):Bool×Unit)=(decide (x=y),()):=fun h=>by rw[decide_eq_false h]
 refine z32 (fun h1=>z32 (fun h2=>⟨_,zdk,?_⟩) (fun h=>no fun e=>h (by rw[e]))) (fun h=>no fun e=>h (by rw[e]))
 obtain⟨a,b,c,_⟩:=x;obtain⟨a',b',c',_⟩:=y
 simp only at h1 h2;simp[h1,h2])
def zb4 (ts:List z0a) (t:z0a):Int:=if z02 (fun x=>decide (x=t)) ts<ts.length then(z02 (fun x=>decide (x=t)) ts:Int)else -1
theorem zxn {ts:List z0a} {t:z0a}:zlj ts t (zb4 ts t):=z096 _ _ _ (by
 unfold zyg
 exact⟨_,z6e (fun x=>decide (x=t)) (fun _ _=>z00w),rfl⟩)
theorem zxi {α:Type} {p:α->Bool} {l:List α} {i:Nat} (h:i<l.length) (hp:p l[i]=true):z02 p l=i↔(l.take i).any p=false:=by
 constructor
 . intro he
   rw[Bool.eq_false_iff];intro hany
   obtain⟨t,ht,hpt⟩:=List.any_eq_true.mp hany
   obtain⟨j,hj,rfl⟩:=List.mem_iff_getElem.mp ht
   rw[List.length_take]at hj
   have:=z6a (p:=p) (l:=l) (i:=j) (by omega) (by omega)
   have e:(l.take i)[j]'(by rw[List.length_take];omega)=l[j]'(by omega):=by simp
   rw[e]at hpt;rw[this]at hpt;cases hpt
 . intro hany
   rcases Nat.lt_trichotomy (z02 p l) i with h1|h1|h1
   . have h2:=z7w (p:=p) (l:=l) (by omega)
     have:(l.take i).any p=true:=List.any_eq_true.mpr ⟨l[z02 p l],by
      have hj:z02 p l<(l.take i).length:=by rw[List.length_take];omega
      have e:(l.take i)[z02 p l]=l[z02 p l]'(by omega):=by simp
      rw[<-e];exact List.getElem_mem hj,h2⟩
     rw[hany]at this;cases this
   . exact h1
   . have:=z6a (p:=p) h h1;rw[hp]at this;cases this
theorem z05u {ts:List z0a} (hl:ts.length<=30) (ha:∀ k (h:k<ts.length),ts[k].2.2.1.all (zak k)=true/\ts[k].2.2.1.length<=5):zp9 ts (z24 ts):=z08i _ _ (by
 unfold zyp
 refine z0j fun _=>?_
 have hbnd0:∀(n:Nat) (l:List z0a),l.length=n->∀ d∈z24 l,1<=d/\d<=l.length:=by
  intro n
  induction n with
  |zero=>intro l hl;obtain rfl:=List.length_eq_zero_iff.mp hl;simp[z24]
  | succ n ih0=>
    intro l0 hl d hd
    have hne:l0≠[]:=by intro e;rw[e]at hl;simp at hl
    obtain⟨l,t,rfl⟩:∃ l t,l0=l++[t]:=⟨_,_,(List.dropLast_concat_getLast hne).symm⟩
    have ih:=ih0 l (by simpa using hl)
    rw[z8n]at hd
    rw[List.length_append]
    rcases List.mem_append.mp hd with hd|hd
    . have:=ih d hd;simp;omega
    . have e:d=z8b (z24 l) t.2.2.1:=by simpa using hd
      rw[e]
      unfold z8b
      have h0:=zhn (fun k=>(z24 l).getD k.toNat 0) (z2q t.2.2.1)
      have:mx (fun k=>(z24 l).getD k.toNat 0) (z2q t.2.2.1)<=l.length:=mx_le.mpr ⟨by omega,fun k _=>by
       by_cases hk:k.toNat<(z24 l).length
       . rw[z29 hk];exact(ih _ (List.getElem_mem hk)).2
       . rw[List.getD_eq_getElem?_getD,List.getElem?_eq_none (by omega)];simp⟩
      simp only[List.length_cons,List.length_nil];omega
 have hbnd:=fun l=>hbnd0 _ l rfl
 refine z1e ts.length (fun i=>((i:Int),(z24 (ts.take i),()))) (by simp[z24]) ?_ ?_
 . intro i hi X hX
   have hdl:(z24 (ts.take i)).length=i:=by rw[zzl,List.length_take];omega
   have hai:=ha i hi
   refine bcI hi (inI hi ⟨_,zmq (by simp only;rw[z20 hi];omega),z0j fun hsl=>?_⟩)
   simp only at hsl ⊢
   rw[z20 hi]at hsl ⊢
   refine z1e (zdg (z2q ts[i].2.2.1)).length (fun j=>(((zdg (z2q ts[i].2.2.1)).take j).foldl (fun m k=>zgx m ((z24 (ts.take i)).getD k.toNat 0)) 0+1,((j:Int),()))) (by simp) ?_ ?_
   . intro j hj Y hY
     have hm:=mem_sset.mp (List.getElem_mem hj)
     have hr:=zu1 hai.1 _ hm
     have hkl:(zdg (z2q ts[i].2.2.1))[j].toNat<(z24 (ts.take i)).length:=by omega
     refine bcI hj (inI hj ?_)
     simp only
     rw[z20 hj,z04 (by omega)]
     refine⟨⟨hr.1,by rw[hdl];exact hr.2⟩,?_⟩
     have hb:=hbnd (ts.take i) _ (List.getElem_mem hkl)
     rw[List.length_take]at hb
     have e:(z24 (ts.take i)).getD (zdg (z2q ts[i].2.2.1))[j].toNat 0=(z24 (ts.take i))[(zdg (z2q ts[i].2.2.1))[j].toNat]:=z29 hkl
     rw[z2s (by rw[e];omega) (by rw[e];omega)]
     rw[z07 hj,List.foldl_append]at hY
     rw[zux]
     exact hY
   . intro Y
     refine bcN ?_
     simp only[List.take_length]
     have hmx:(zdg (z2q ts[i].2.2.1)).foldl (fun m k=>zgx m ((z24 (ts.take i)).getD k.toNat 0)) 0+1=z8b (z24 (ts.take i)) ts[i].2.2.1:=by
      unfold z8b
      have:=z09s (f:=fun k=>(z24 (ts.take i)).getD k.toNat 0) (l:=zdg (z2q ts[i].2.2.1)) (m:=z2q ts[i].2.2.1) (fun k=>mem_sset)
      rw[<-this];rfl
     rw[hmx,z04 (by omega)]
     refine⟨by simp only[z0w,List.length_cons,List.length_nil];omega,?_⟩
     rw[z07 hi,z8n]at hX
     exact hX
 . intro X
   refine bcN ?_
   simp only[List.take_length])
theorem zvd {d:Int}:z7p d (decide (d > 8)):=zv6 _ _ (by unfold zli;rfl)
theorem z016 {ts:List z0a}:zk2 ts (zj2 ts):=zzq _ _ (by
 unfold zqa
 have no:zj2 ts=false->((false,()):Bool×Unit)=(zj2 ts,()):=fun h=>by rw[h]
 refine z0j fun _=>z08 (fun h=>no (by unfold zj2;rw[decide_eq_false (show ¬ ts.length<=30 by omega)];simp)) (fun hl=>z0j fun _=>?_)
 have tOk:∀ k (h:k<ts.length),z8c ts k=((inR ts[k].1 0 4&&inR ts[k].2.1 0 4&&decide (ts[k].2.2.1.length<=5)&&ts[k].2.2.1.all (zak k))&&decide (zb4 ts ts[k]=k)):=by
  intro k h
  have e:(!(ts.take k).any (fun t=>decide (t=ts[k])))=decide (zb4 ts ts[k]=k):=by
   have hf:=zxi (p:=fun t=>decide (t=ts[k])) h (by simp)
   cases hany:(ts.take k).any (fun t=>decide (t=ts[k]))with
   | false=>
     have:=hf.mpr hany
     unfold zb4
     rw[this,if_pos h];simp
   | true=>
     have hne:z02 (fun t=>decide (t=ts[k])) ts≠k:=fun e=>by rw[hf.mp e]at hany;cases hany
     unfold zb4
     split
     . rw[decide_eq_false (by omega)];rfl
     . rw[decide_eq_false (by omega)];rfl
  unfold z8c
  rw[z67 h,e]
 refine zcp ts.length (fun k=>!z8c ts k) (fun k=>((k:Int),())) (KT:=zj2 ts=false) (KF:=∀ k,k<ts.length->z8c ts k=true) ?_ ?_ ?_ ?_
 . intro i hi X _ q1 q2
   refine bcI hi (inI hi ⟨_,z00q,?_⟩)
   simp only
   rw[z20 hi,z04 (by omega)]
   rw[tOk i hi]at q1 q2
   refine z0y (fun h=>no (q1 (by rw[h];rfl))) (fun h=>⟨_,zxn,zeo (fun h2=>no (q1 (by rw[decide_eq_false h2];simp))) (fun h2=>q2 (by rw[h,decide_eq_true h2];rfl))⟩)
 . intro X hall
   refine bcN ⟨_,z05u (by omega) (fun k hk=>?_),_,z7f (fun d=>decide (d > 8)) (fun _ _=>zvd),?_⟩
   . have:=hall k hk
     rw[tOk k hk]at this
     simp only[Bool.and_eq_true,decide_eq_true_eq]at this
     exact⟨this.1.2,this.1.1.2⟩
   . have e:(!(z24 ts).any fun d=>decide (d > 8))=(z24 ts).all fun d=>decide (d<=8):=by
      have h1:=z49 (p:=fun d:Int=>decide (d<=8)) (l:=z24 ts)
      have h2:(fun d:Int=>!decide (d<=8))=fun d=>decide (d > 8):=by funext d;by_cases h:d<=8<;>simp[h]<;>omega
      rw[h2]at h1;rw[h1];simp
     rw[e]
     unfold zj2
     rw[decide_eq_true (show ts.length<=30 by omega),List.all_eq_true.mpr fun k hk=>hall k (List.mem_range.mp hk)];rfl
 . rintro⟨k,hk,hp⟩
   unfold zj2
   have:(List.range ts.length).all (z8c ts)=false:=by
    rw[Bool.eq_false_iff];intro hall
    have:=List.all_eq_true.mp hall k (List.mem_range.mpr hk);rw[nt hp]at this;cases this
   rw[this];simp
 . intro h k hk;exact nf (h k hk))
theorem zb2 {s:TSk}:z4g s (vSk s):=zhl _ _ (by
 unfold zax
 refine⟨_,z94,z1j (fun h1=>z0j fun _=>⟨_,z017 (by have:=zn5 h1;omega),z08 (fun h2=>⟨_,z016,?_⟩) (fun h2=>?_)⟩) (fun h1=>?_)⟩
 . unfold vSk;rw[h1,decide_eq_true h2];rfl
 . unfold vSk;rw[decide_eq_false h2];simp
 . unfold vSk;rw[h1];rfl)
def sumA (l:List z0r):Int:=l.foldl (fun a r=>a+r.2.1) 0
theorem zwd:∀ {l:List z0r} {a:Int},(∀ r∈l,zoh r=true)->a<=l.foldl (fun a r=>a+r.2.1) a/\l.foldl (fun a r=>a+r.2.1) a<=a+3 * l.length
 |[],a,_=>by simp
 | x::l,a,h=>by
   have h1:=zih (h x (by simp))
   have h2:=zwd (l:=l) (a:=a+x.2.1) fun r hr=>h r (by simp[hr])
   rw[List.foldl_cons,List.length_cons];omega
def z058 (l:List z0r) (r p:Int):Int:=if z9w l&&inR r 0 ((l.length:Int) - 1)&&inR p 0 (zp5 l r - 1)then sumA (l.take r.toNat)+p else -1
theorem znu {l:List z0r} {r p:Int}:zbc l r p (z058 l r p):=zod _ _ _ _ (by
 unfold zg5
 refine⟨_,z26,z0y (fun h=>by unfold z058;rw[h];rfl) (fun hv=>z0j fun _=>⟨_,z7b,?_⟩)⟩
 have hl:=zej hv
 rw[z2s (by omega) (by omega)]
 refine z0y (fun h=>by unfold z058;rw[h];simp) (fun h1=>?_)
 have hr:=inR_iff.mp h1
 obtain⟨n,rfl⟩:∃ n:Nat,r=n:=⟨r.toNat,by omega⟩
 have hn:n<l.length:=by omega
 have ha:=zih (zh0 hv (List.getElem_mem hn))
 refine inI hn ⟨_,z7b,?_⟩
 rw[z20 hn,z2s (by omega) (by omega)]
 have har:zp5 l n=l[n].2.1:=by unfold zp5;rw[z20 hn]
 refine z0y (fun h=>by unfold z058;rw[har,h];simp) (fun h2=>?_)
 have hp:=inR_iff.mp h2
 have hb:=fun i=>zwd (l:=l.take i) (a:=0) fun r hr=>zh0 hv (List.mem_of_mem_take hr)
 refine z1e n (fun i=>(sumA (l.take i),((i:Int),()))) (by simp[sumA]) ?_ ?_
 . intro i hi X hX
   have hil:i<l.length:=by omega
   have hbi:=hb (i+1)
   refine bcI hi (inI hil ?_)
   simp only
   rw[z07 hil]at hX hbi
   unfold sumA at hX ⊢
   rw[List.foldl_append]at hX hbi
   simp only[List.foldl_cons,List.foldl_nil,List.length_append,List.length_take,List.length_cons,List.length_nil]at hX hbi
   rw[z20 hil,z04 (by omega),z2s (by omega) (by omega)]
   exact hX
 . intro X
   have hbi:=hb n
   rw[List.length_take]at hbi
   refine bcN ?_
   unfold z058
   rw[hv,h1,har,h2]
   simp only
   unfold sumA
   rw[z2s (by omega) (by omega)];rfl)
theorem z82 {d:z0c} (h1:(d.1.flatMap (·.2.1)).length<=1073741824) (h2:(d.2.1.flatMap (·.2.1)).length<=1073741824):z3w d (frV d):=ziy _ _ (by
 unfold zbo
 have hv:=zi9 d.2.1
 refine⟨_,zb6 h1,_,zb6 h2,?_⟩
 refine z1e (vars d.2.1).length (fun i=>((i:Int),(((vars d.2.1).take i).filter (fun v=>decide (v∈vars d.1)),()))) (by simp) ?_ ?_
 . intro i hi X hX
   refine z0j fun _=>bcI hi (inI hi ⟨_,zos,?_⟩)
   simp only
   rw[z20 hi,z04 (by omega)]
   have e:((vars d.2.1).take (i+1)).filter (fun v=>decide (v∈vars d.1))=((vars d.2.1).take i).filter (fun v=>decide (v∈vars d.1))++(if (vars d.2.1)[i]∈vars d.1 then[(vars d.2.1)[i]] else[]):=by
    rw[z07 hi,List.filter_append]
    by_cases h:(vars d.2.1)[i]∈vars d.1<;>simp[h]
   rw[e]at hX
   have hb:=List.length_filter_le (fun v=>decide (v∈vars d.1)) ((vars d.2.1).take i)
   rw[List.length_take]at hb
   refine z1j (fun h=>inI hi ⟨by simp only[z0w,List.length_cons,List.length_nil];omega,?_⟩) (fun h=>?_)
   . have h:(vars d.2.1)[i]∈vars d.1:=by simpa using h
     rw[if_pos h]at hX;exact hX
   . have h:¬ (vars d.2.1)[i]∈vars d.1:=by simpa using h
     rw[if_neg h,List.append_nil]at hX;exact hX
 . intro X
   refine z0j fun _=>bcN ?_
   simp only[List.take_length]
   rfl)
theorem zj5 {d:z0c} (h1:(d.1.flatMap (·.2.1)).length<=1073741824) (h2:(d.2.1.flatMap (·.2.1)).length<=1073741824):z85 d (frV d):=zit _ _ (by
 unfold zbr
 exact⟨_,zg0 h1 h2,by rw[z0az]⟩)
def placeG (l:List z0r) (a:z00) (v:Int) (out:List Int) (j:Nat):List Int:=if a.2.1.getD j 0 == v then out++[z058 l a.1 j] else out
def zq5 (l:List z0r) (v:Int) (out:List Int) (a:z00):List Int:=(List.range a.2.1.length).foldl (placeG l a v) out
def places (l:List z0r) (ats:List z00) (v:Int):List Int:=ats.foldl (zq5 l v) []
theorem zn9 (l:List z0r) (a:z00) (v:Int) (out:List Int):∀ n:Nat,((List.range n).foldl (placeG l a v) out).length<=out.length+n
 |0=>by simp
 | n+1=>by
   have:=zn9 l a v out n
   rw[List.range_succ,List.foldl_append,List.foldl_cons,List.foldl_nil]
   unfold placeG at this ⊢
   split
   . rw[List.length_append];simp only[List.length_cons,List.length_nil];omega
   . omega
theorem z03z (l:List z0r) (v:Int) (out:List Int) (a:z00):(zq5 l v out a).length<=out.length+a.2.1.length:=zn9 l a v out _
theorem zki (l:List z0r) (v:Int):∀(ats:List z00) (out:List Int),(ats.foldl (zq5 l v) out).length<=out.length+(ats.flatMap (·.2.1)).length
 |[],out=>by simp
 | a::ats,out=>by
   have h1:=zki l v ats (zq5 l v out a)
   have h2:=z03z l v out a
   rw[List.foldl_cons,List.flatMap_cons,List.length_append];omega
theorem zab (l:List z0r) (ats:List z00) (v:Int):(places l ats v).length<=(ats.flatMap (·.2.1)).length:=by
 have:=zki l v ats []
 simpa [places]using this
theorem zhw {l:List z0r} {ats:List z00} {v:Int} (hb:(ats.flatMap (·.2.1)).length<=1073741824):zao l ats v (places l ats v):=zz2 _ _ _ _ (by
 unfold znl
 refine zar ats (zq5 l v) [] (fun i m=>((i:Int),(m,()))) ?_ ?_
 . intro i hi X hX
   have hs:=zf0 (fun a:z00=>a.2.1) hi
   have hm:=zki l v (ats.take i) []
   rw[List.length_nil]at hm
   refine z0j fun _=>bcI hi ?_
   simp only
   rw[z20 hi]
   generalize (ats.take i).foldl (zq5 l v) []=m0 at hX hm ⊢
   unfold zq5 at hX
   refine z1e ats[i].2.1.length (fun j=>((j:Int),((List.range j).foldl (placeG l ats[i] v) m0,()))) (by simp) ?_ ?_
   . intro j hj Y hY
     have hl:=zn9 l ats[i] v m0 j
     refine inI hi (z0j fun _=>bcI hj (inI hi (inI hj ?_)))
     simp only
     rw[z04 (by omega)]
     rw[List.range_succ,List.foldl_append,List.foldl_cons,List.foldl_nil]at hY
     rw[placeG.eq_def]at hY
     refine z1j (fun h=>inI hi ⟨_,znu,⟨by simp only[z0w,List.length_cons,List.length_nil];omega,?_⟩⟩) (fun h=>?_)
     . rw[if_pos (show(ats[i].2.1.getD j 0 == v)=true from h)]at hY;exact hY
     . rw[show(ats[i].2.1.getD j 0 == v)=false from h]at hY;exact hY
   . intro Y
     refine inI hi (z0j fun _=>bcN ?_)
     simp only
     rw[z04 (by omega)];exact hX
 . intro X
   exact z0j fun _=>bcN rfl)
theorem z7s {α σ:Type} {μ:σ->Nat} {g:σ->α->σ} {c:Nat}:∀ {l:List α} {s:σ},(∀ s,∀ a∈l,μ (g s a)<=μ s+c)->μ (l.foldl g s)<=μ s+l.length * c
 |[],s,_=>by simp
 | a::l,s,h=>by
   have h1:=h s a (by simp)
   have h2:=z7s (s:=g s a) fun s b (hb:b∈l)=>h s b (by simp[hb])
   rw[List.foldl_cons,List.length_cons,Nat.add_mul];omega
theorem z21 {α σ τ:Type} {B:(τ->Prop)->τ->Prop} (l:List α) (g:σ->α->σ) (s0:σ) (e:Nat->σ->τ) (μ:σ->Nat) (c N:Nat) (hN:l.length<=N) (hg:∀ s,∀ a∈l,μ (g s a)<=μ s+c)
  (hs:∀ i (h:i<l.length) (s:σ) (X:τ->Prop),μ s<=μ s0+N * c->X (e (i+1) (g s l[i]))->B X (e i s))
  (hf:∀ X:τ->Prop,μ (l.foldl g s0)<=μ s0+N * c->B X (e l.length (l.foldl g s0))):z0g B (e 0 s0):=by
 have hb:∀ i,i<=l.length->μ ((l.take i).foldl g s0)<=μ s0+N * c:=fun i hi=>by
  have h1:=z7s (μ:=μ) (g:=g) (c:=c) (l:=l.take i) (s:=s0) fun s a ha=>hg s a (List.mem_of_mem_take ha)
  rw[List.length_take,Nat.min_eq_left hi]at h1
  have:i * c<=N * c:=Nat.mul_le_mul_right c (by omega)
  omega
 refine zar l g s0 e (fun i hi X hX=>hs i hi _ X (hb i (by omega)) hX) (fun X=>hf X ?_)
 have:=hb l.length (Nat.le_refl _)
 rwa [List.take_length]at this
def zw8 (d:z0c):Prop:=(d.1.flatMap (·.2.1)).length<=6/\(d.2.1.flatMap (·.2.1)).length<=6
theorem z02j {l:List z0r} {d:z0c} (h:ziv l d=true):zw8 d:=by
 have:=zal h;exact⟨this.2.2.2.2.2.1,this.2.2.2.2.2.2⟩
theorem zvf {d:z0c} (h:zw8 d):(exV d).length<=6:=Nat.le_trans (List.length_filter_le _ _) (Nat.le_trans (zi9 _) h.2)
theorem zrf {d:z0c} (h:zw8 d):(frV d).length<=6:=Nat.le_trans (List.length_filter_le _ _) (Nat.le_trans (zi9 _) h.2)
def putE (e:List z2n) (x:z2n):List z2n:=if x∈e then e else e++[x]
def ed (f:Int) (b:Bool) (ps:List Int) (out:List z2n):List z2n:=ps.foldl (fun out t=>putE out (f,t,b,())) out
def z061 (l:List z0r) (d:z0c) (v:Int) (out:List z2n) (f:Int):List z2n:=(exV d).foldl (fun out n=>ed f true (places l d.2.1 n) out) (ed f false (places l d.2.1 v) out)
def gVar (l:List z0r) (d:z0c) (out:List z2n) (v:Int):List z2n:=(places l d.1 v).foldl (z061 l d v) out
def gDep (l:List z0r) (out:List z2n) (d:z0c):List z2n:=(frV d).foldl (gVar l d) out
def zsw (l:List z0r) (ds:List z0c):List z2n:=if zio l ds then ds.foldl (gDep l) [] else[]
theorem zve (e:List z2n) (x:z2n):(putE e x).length<=e.length+1:=by unfold putE;split<;>simp
theorem z023 (f:Int) (b:Bool) (ps:List Int) (out:List z2n):(ed f b ps out).length<=out.length+ps.length:=by
 have:=z7s (μ:=List.length) (g:=fun out t=>putE out (f,t,b,())) (c:=1) (l:=ps) (s:=out) fun s a _=>zve _ _
 unfold ed;omega
theorem zyy {l:List z0r} {d:z0c} (h:zw8 d) (v:Int) (out:List z2n) (f:Int):(z061 l d v out f).length<=out.length+42:=by
 have h1:=z023 f false (places l d.2.1 v) out
 have h2:=zab l d.2.1 v
 have h3:=z7s (μ:=List.length) (g:=fun out n=>ed f true (places l d.2.1 n) out) (c:=6) (l:=exV d) (s:=ed f false (places l d.2.1 v) out) fun s a _=>by
  have h1:=z023 f true (places l d.2.1 a) s
  have h2:=zab l d.2.1 a
  have:=h.2;omega
 have h4:=zvf h
 have:=h.2
 unfold z061;omega
theorem z031 {l:List z0r} {d:z0c} (h:zw8 d) (out:List z2n) (v:Int):(gVar l d out v).length<=out.length+252:=by
 have h1:=z7s (μ:=List.length) (g:=z061 l d v) (c:=42) (l:=places l d.1 v) (s:=out) fun s a _=>zyy h v s a
 have h2:=zab l d.1 v
 have:=h.1
 unfold gVar;omega
theorem z0al {l:List z0r} {d:z0c} (h:zw8 d) (out:List z2n):(gDep l out d).length<=out.length+1512:=by
 have h1:=z7s (μ:=List.length) (g:=gVar l d) (c:=252) (l:=frV d) (s:=out) fun s a _=>z031 h s a
 have h2:=zrf h
 unfold gDep;omega
theorem z0bp (x y:z2n):eqD (.pair (.int .i64) (.pair (.int .i64) (.pair .bool .unit))) x y=decide (x=y):=by
 obtain⟨a,b,c,_⟩:=x;obtain⟨a',b',c',_⟩:=y
 show((a == a')&&((b == b')&&((c == c')&&true)))=_
 by_cases h1:a=a'<;>by_cases h2:b=b'<;>by_cases h3:c=c'<;>simp[h1,h2,h3]
theorem zkq {e:List z2n} {x:z2n} (h:e.length<=1073741824):zbt e x (putE e x):=zvz _ _ _ (by
 unfold zl9
 refine z8t e (fun y=>decide (y=x)) (fun i=>((i:Int),())) (KT:=x∈e) (KF:=¬ x∈e) ?_ ?_ ?_ ?_
 . intro i hi X h1 h2
   refine z0j fun _=>bcI hi (inI hi ?_)
   simp only
   rw[z20 hi,z04 (by omega)]
   rw[z0bp]
   refine z1j (fun h=>?_) (fun h=>h2 h)
   have:=h1 h
   unfold putE;rw[if_pos this]
 . intro X hn
   refine z0j fun _=>bcN ⟨by simp only[z0w,List.length_cons,List.length_nil];omega,?_⟩
   unfold putE;rw[if_neg hn]
 . intro h
   obtain⟨y,hy,hp⟩:=List.any_eq_true.mp h
   have:y=x:=by simpa using hp
   rw[<-this];exact hy
 . intro h hm
   have:e.any (fun y=>decide (y=x))=true:=List.any_eq_true.mpr ⟨x,hm,by simp⟩
   rw[h]at this;cases this)
theorem zoa {l:List z0r} {ds:List z0c}:zbd l ds (zsw l ds):=zo6 _ _ _ (by
 unfold zfz zsw
 cases hv:zio l ds with
 | false=>
   refine z1e 0 (fun _=>((0:Int),(([]:List z2n),()))) rfl (fun i hi=>by omega) fun X=>?_
   refine z0j fun _=>z08 (fun _=>⟨_,z3x,?_⟩) (fun _=>?_)
   . rw[hv];exact bcF (by simp)
   . simp
 | true=>
   rw[if_pos rfl]
   have hdl:=zkt hv
   have hsm:∀ d∈ds,zw8 d:=fun d hd=>z02j (zr8 hv hd)
   refine z21 ds (gDep l) [] (fun i m=>((i:Int),(m,()))) List.length 1512 5 hdl (fun s a ha=>z0al (hsm a ha) s) ?_ ?_
   . intro i hi s X hs hX
     rw[List.length_nil]at hs
     have hd:=hsm _ (List.getElem_mem hi)
     have hd1:=hd.1
     have hd2:=hd.2
     have hfl:=zrf hd
     have hel:=zvf hd
     refine z0j fun _=>bcI hi ⟨_,z3x,?_⟩
     rw[hv]
     refine bcT (inI hi ⟨_,z82 (by simp only;rw[z20 hi];omega) (by simp only;rw[z20 hi];omega),inI hi ⟨_,z5m (by simp only;rw[z20 hi];omega) (by simp only;rw[z20 hi];omega),?_⟩⟩)
     simp only
     rw[z20 hi,z04 (by omega)]
     refine z21 (frV ds[i]) (gVar l ds[i]) s (fun i m=>((i:Int),(m,()))) List.length 252 6 hfl (fun s a _=>z031 hd s a) ?_ ?_
     . intro j hj s2 Y hs2 hY
       have hpl:=zab l ds[i].1 (frV ds[i])[j]
       have hpl2:=zab l ds[i].2.1 (frV ds[i])[j]
       refine z0j fun _=>bcI hj (inI hi (inI hj ⟨_,zhw (by omega),inI hi (inI hj ⟨_,zhw (by omega),?_⟩)⟩))
       simp only
       rw[z20 hj,z04 (by omega)]
       refine z21 (places l ds[i].1 (frV ds[i])[j]) (z061 l ds[i] (frV ds[i])[j]) s2 (fun i m=>((i:Int),(m,()))) List.length 42 6 (by omega) (fun s a _=>zyy hd _ s a) ?_ ?_
       . intro k hk s3 Z hs3 hZ
         refine z0j fun _=>bcI hk ?_
         simp only
         rw[z20 hk,z04 (by omega)]
         have he1:=z023 (places l ds[i].1 (frV ds[i])[j])[k] false (places l ds[i].2.1 (frV ds[i])[j]) s3
         refine z21 (places l ds[i].2.1 (frV ds[i])[j]) (fun out t=>putE out ((places l ds[i].1 (frV ds[i])[j])[k],t,false,())) s3 (fun i m=>((i:Int),(m,()))) List.length 1 6 (by omega) (fun s a _=>zve _ _) ?_ ?_
         . intro m hm s4 W hs4 hW
           refine z0j fun _=>bcI hm (inI hk (inI hm ⟨_,zkq (by simp only;omega),?_⟩))
           simp only
           rw[z20 hm,z04 (by omega)];exact hW
         . intro W hs4
           refine z0j fun _=>bcN ?_
           simp only
           refine z21 (exV ds[i]) (fun out n=>ed (places l ds[i].1 (frV ds[i])[j])[k] true (places l ds[i].2.1 n) out) (ed (places l ds[i].1 (frV ds[i])[j])[k] false (places l ds[i].2.1 (frV ds[i])[j]) s3) (fun i m=>((i:Int),(m,()))) List.length 6 6 hel (fun s a _=>by
            have h1:=z023 (places l ds[i].1 (frV ds[i])[j])[k] true (places l ds[i].2.1 a) s
            have h2:=zab l ds[i].2.1 a
            omega) ?_ ?_
           . intro m hm s4 V hs4 hV
             have hpl3:=zab l ds[i].2.1 (exV ds[i])[m]
             refine z0j fun _=>bcI hm (inI hi (inI hm ⟨_,zhw (by omega),?_⟩))
             simp only
             rw[z20 hm,z04 (by omega)]
             refine z21 (places l ds[i].2.1 (exV ds[i])[m]) (fun out t=>putE out ((places l ds[i].1 (frV ds[i])[j])[k],t,true,())) s4 (fun i m=>((i:Int),(m,()))) List.length 1 6 (by omega) (fun s a _=>zve _ _) ?_ ?_
             . intro p hp s5 V5 hs5 hV5
               refine z0j fun _=>bcI hp (inI hk (inI hp ⟨_,zkq (by simp only;omega),?_⟩))
               simp only
               rw[z20 hp,z04 (by omega)];exact hV5
             . intro V5 _
               exact z0j fun _=>bcN hV
           . intro V _
             exact z0j fun _=>bcN hZ
       . intro Z _
         exact z0j fun _=>bcN hY
     . intro Y _
       exact z0j fun _=>bcN hX
   . intro X _
     exact z0j fun _=>bcN rfl)
def cntP (l:List z0r):Int:=if z9w l then sumA l else 0
theorem znw {l:List z0r}:zbb l (cntP l):=znz _ _ (by
 unfold zgb cntP
 cases hv:z9w l with
 | false=>
   refine z1e 0 (fun _=>((0:Int),((0:Int),()))) rfl (fun i hi=>by omega) fun X=>?_
   refine z0j fun _=>z08 (fun _=>⟨_,z26,?_⟩) (fun _=>?_)
   . rw[hv];exact bcF (by simp)
   . simp
 | true=>
   rw[if_pos rfl]
   have hl:=zej hv
   refine zar l (fun a r=>a+r.2.1) 0 (fun i m=>(m,((i:Int),()))) ?_ ?_
   . intro i hi X hX
     have hb:=zwd (l:=l.take i) (a:=0) fun r hr=>zh0 hv (List.mem_of_mem_take hr)
     rw[List.length_take]at hb
     have ha:=zih (zh0 hv (List.getElem_mem hi))
     refine z0j fun _=>bcI hi ⟨_,z26,?_⟩
     rw[hv]
     refine bcT (inI hi ?_)
     simp only
     rw[z20 hi,z04 (by omega),z2s (by omega) (by omega)]
     exact hX
   . intro X
     exact z0j fun _=>bcN rfl)
def zp6 {α:Type} (f:α->α):Nat->α->α
 |0,a=>a
 |n+1,a=>zp6 f n (f a)
theorem ztx {α:Type} {f:α->α}:∀ {n:Nat} {a:α},zp6 f (n+1) a=f (zp6 f n a)
 |0,_=>rfl
 |n+1,a=>by rw[zp6,ztx];rfl
theorem zws {α:Type} {f:α->α} {I:α->Prop} (h:∀ a,I a->I (f a)):∀ {n:Nat} {a:α},I a->I (zp6 f n a)
 |0,_,ha=>ha
 |n+1,_,ha=>zws h (n:=n) (h _ ha)
theorem z032 {α:Type} {p q:α->Bool}:∀ {l:List α},(∀ x∈l,p x=true->q x=true)->l.countP p<=l.countP q
 |[],_=>by simp
 | a::l,h=>by
   have ih:=z032 (l:=l) fun x hx=>h x (by simp[hx])
   have ha:=h a (by simp)
   rw[List.countP_cons,List.countP_cons]
   cases hp:p a with
   |false=>cases q a<;>simp<;>omega
   |true=>rw[ha hp];simp;exact ih
theorem z01z {α:Type} {p q:α->Bool}:∀ {l:List α},(∀ x∈l,p x=true->q x=true)->(∃ x∈l,q x=true/\p x=false)->l.countP p<l.countP q
 |[],_,⟨_,h,_⟩=>by cases h
 | a::l,h,⟨x,hx,hq,hp⟩=>by
   have ih:=z032 (l:=l) fun x hx=>h x (by simp[hx])
   rw[List.countP_cons,List.countP_cons]
   rcases List.mem_cons.mp hx with rfl|hx
   . rw[hp,hq];simp;omega
   . have:=z01z (l:=l) (fun x hx=>h x (by simp[hx])) ⟨x,hx,hq,hp⟩
     have ha:=h a (by simp)
     cases hpa:p a with
     |false=>cases q a<;>simp<;>omega
     |true=>rw[ha hpa];simp;exact this
theorem z02x {α:Type} {l:List α} {i j:Nat} {x d:α} (h:i<l.length):(l.set i x).getD j d=if j=i then x else l.getD j d:=by
 by_cases hj:j<l.length
 . rw[z29 (by simpa using hj),z29 hj,List.getElem_set]
   by_cases hij:i=j
   . subst hij;simp
   . rw[if_neg hij,if_neg (Ne.symm hij)]
 . have:j≠i:=by omega
   rw[if_neg this,List.getD_eq_getElem?_getD,List.getD_eq_getElem?_getD,List.getElem?_eq_none (by simpa using hj),List.getElem?_eq_none (by omega)]
theorem z03g {α:Type} {l m:List α} {d:α} (hl:l.length=m.length) (h:∀ i,i<l.length->l.getD i d=m.getD i d):l=m:=by
 refine List.ext_getElem hl fun i h1 h2=>?_
 have:=h i h1
 rwa [z29 h1,z29 h2]at this
def z004 (n:Int) (met:List Bool) (e:z2n):List Bool:=if inR e.1 0 (n - 1)&&inR e.2.1 0 (n - 1)&&met.getD e.1.toNat false then met.set e.2.1.toNat true else met
def zri (n:Int) (es:List z2n) (met:List Bool):List Bool:=es.foldl (z004 n) met
def z029 (n:Int) (es:List z2n) (a:Int):List Bool:=zp6 (zri n es) n.toNat ((List.replicate n.toNat false).set a.toNat true)
def z04z (n:Int) (es:List z2n) (a b:Int):Bool:=inR n 0 30&&inR a 0 (n - 1)&&inR b 0 (n - 1)&&(z029 n es a).getD b.toNat false
theorem z05w (n:Int) (met:List Bool) (e:z2n):(z004 n met e).length=met.length:=by unfold z004;split<;>simp
theorem zp7 (n:Int):∀(es:List z2n) (met:List Bool),(es.foldl (z004 n) met).length=met.length
 |[],_=>rfl
 |e::es,met=>by rw[List.foldl_cons,zp7 n es];exact z05w n met e
theorem z070 (n:Int) (es:List z2n) (k:Nat) (met:List Bool):(zp6 (zri n es) k met).length=met.length:=
 zws (I:=fun m:List Bool=>m.length=met.length) (fun m hm=>by unfold zri;rw[zp7];exact hm) rfl
theorem zt0 {n:Int} {es:List z2n} {a b:Int}:ze1 n es a b (z04z n es a b):=zsl _ _ _ _ _ (by
 unfold zj7
 refine⟨_,z7b,z0y (fun h=>by unfold z04z;rw[h];rfl) (fun h1=>⟨_,z7b,?_⟩)⟩
 have hn:=inR_iff.mp h1
 rw[z2s (by omega) (by omega)]
 refine z0y (fun h=>by unfold z04z;rw[h];simp) (fun h2=>⟨_,z7b,z0y (fun h=>by unfold z04z;rw[h];simp) (fun h3=>?_)⟩)
 have ha:=inR_iff.mp h2
 have hb:=inR_iff.mp h3
 refine⟨⟨by omega,by omega,by simp only[z0w];omega⟩,⟨by omega,by rw[List.length_replicate];omega⟩,?_⟩
 have hlen:∀ k,(zp6 (zri n es) k ((List.replicate n.toNat false).set a.toNat true)).length=n.toNat:=fun k=>by rw[z070];simp
 refine z1e n.toNat (fun i=>((i:Int),(zp6 (zri n es) i ((List.replicate n.toNat false).set a.toNat true),()))) (by simp[zp6]) ?_ ?_
 . intro i hi X hX
   refine z08 (fun _=>?_) (fun h=>by omega)
   rw[ztx]at hX
   have hli:=hlen i
   simp only
   generalize zp6 (zri n es) i ((List.replicate n.toNat false).set a.toNat true)=m0 at hX hli ⊢
   unfold zri at hX
   refine zar es (z004 n) m0 (fun i m=>((i:Int),(m,()))) ?_ ?_
   . intro j hj Y hY
     have hlm:=zp7 n (es.take j) m0
     rw[hli]at hlm
     generalize (es.take j).foldl (z004 n) m0=m1 at hY hlm ⊢
     unfold z004 at hY
     refine z0j fun _=>bcI hj (inI hj ⟨_,z7b,?_⟩)
     simp only
     rw[z20 hj,z04 (by omega)]
     refine z1j (fun h4=>inI hj ⟨_,z7b,z1j (fun h5=>inI hj ?_) (fun h5=>by rw[h5]at hY;simpa using hY)⟩) (fun h4=>by rw[h4]at hY;simpa using hY)
     have e1:=inR_iff.mp h4
     have e2:=inR_iff.mp h5
     refine⟨⟨by omega,by omega⟩,z1j (fun h6=>inI hj ⟨⟨by omega,by omega⟩,?_⟩) (fun h6=>?_)⟩
     . rw[h4,h5,h6]at hY;simpa using hY
     . rw[h6]at hY;simpa using hY
   . intro Y
     refine z0j fun _=>bcN ?_
     simp only
     rw[z04 (by omega)];exact hX
 . intro X
   refine z08 (fun h=>by omega) (fun _=>⟨⟨by omega,by rw[hlen];omega⟩,?_⟩)
   unfold z04z z029
   rw[h1,h2,h3];rfl)
def cycP (l:List z0r) (ds:List z0c) (e:z2n):Bool:=e.2.2.1&&z04z (cntP l) (zsw l ds) e.2.1 e.1
def cyc (l:List z0r) (ds:List z0c):Bool:=(zsw l ds).any (cycP l ds)
def cycE (l:List z0r) (ds:List z0c):z2n:=if z02 (cycP l ds) (zsw l ds)<(zsw l ds).length then(zsw l ds).getD (z02 (cycP l ds) (zsw l ds)) zfa else zfa
theorem zxj {α:Type} {p:α->Bool} {l:List α}:l.any p=decide (z02 p l<l.length):=by
 rcases Nat.lt_or_ge (z02 p l) l.length with h|h
 . rw[decide_eq_true h]
   exact List.any_eq_true.mpr ⟨_,List.getElem_mem h,z7w h⟩
 . rw[decide_eq_false (by omega),Bool.eq_false_iff]
   intro hany
   obtain⟨x,hx,hp⟩:=List.any_eq_true.mp hany
   obtain⟨i,hi,rfl⟩:=List.mem_iff_getElem.mp hx
   have:=z6a (p:=p) hi (by omega)
   rw[hp]at this;cases this
def wac (l:List z0r) (ds:List z0c):Bool:=zio l ds && !cyc l ds
theorem zjt {l:List z0r} {ds:List z0c}:z8x l ds (cycE l ds) (cyc l ds):=zkd _ _ _ _ (by
 unfold zca
 refine⟨_,zoa,za2 (zsw l ds) (cycP l ds) (fun i=>((i:Int),(zfa,()))) (KT:=fun i=>((zsw l ds).getD i zfa,(true,()))=(cycE l ds,(cyc l ds,()))) (KF:=(zfa,(false,()))=(cycE l ds,(cyc l ds,()))) ?_ ?_ ?_ ?_⟩
 . intro i hi X h1 h2
   refine z0j fun _=>bcI hi (inI hi ?_)
   simp only
   rw[z04 (by omega)]
   have hg:=z20 (d:=zfa) hi
   rw[hg]
   unfold cycP at h1 h2
   refine z1j (fun h=>inI hi (inI hi ⟨_,znw,_,zt0,z1j (fun h3=>inI hi ?_) (fun h3=>?_)⟩)) (fun h=>h2 (by rw[h];rfl))
   . have:=h1 (by rw[h,h3];rfl)
     rw[z29 hi]at this;exact this
   . exact h2 (by rw[h,h3];rfl)
 . intro X h
   exact z0j fun _=>bcN h
 . intro h
   unfold cycE cyc
   rw[if_pos h,zxj,decide_eq_true h]
 . intro h
   unfold cycE cyc
   rw[if_neg (by omega),zxj,decide_eq_false (by omega)])
theorem zma {l:List z0r} {ds:List z0c}:z9e l ds (wac l ds):=zlc _ _ _ (by
 unfold zd9 wac
 refine⟨_,_,zjt,_,z3x,z1j (fun h=>by rw[h];rfl) (fun h=>by rw[h];rfl)⟩)
def hgt (n:Int) (es:List z2n) (p:Nat):Nat:=(List.range n.toNat).countP fun(q:Nat)=>(z029 n es (q:Int)).getD p false && !(z029 n es (p:Int)).getD q false
def z4f (l:List z0r) (ds:List z0c):Bool:=zio l ds && !ds.any fun d=>d.2.2.1
theorem zke {l:List z0r} {ds:List z0c}:zce l ds (z4f l ds):=zzo _ _ _ (by
 unfold zqk
 refine z8t ds (fun d=>d.2.2.1) (fun i=>((i:Int),())) (KT:=ds.any (fun d=>d.2.2.1)=true) (KF:=ds.any (fun d=>d.2.2.1)=false) ?_ ?_ id id
 . intro i hi X h1 h2
   refine z0j fun _=>bcI hi (inI hi ?_)
   simp only
   rw[z20 hi,z04 (by omega)]
   refine z1j (fun h=>?_) (fun h=>h2 h)
   unfold z4f;rw[h1 h];simp
 . intro X h
   refine z0j fun _=>bcN ⟨_,z3x,?_⟩
   unfold z4f;rw[h];simp)
theorem zvs {d:z0c}:z7l d d.2.2.1:=zv2 _ _ (by unfold zm6;rfl)
theorem zqd {l:List z0r} {ds:List z0c}:zfi l ds (z4f l ds):=z01m _ _ _ (by
 unfold zpd z4f
 refine⟨_,zfx,z1j (fun h=>⟨_,z4v (fun d=>d.2.2.1) (fun _ _=>zvs),by rw[h];rfl⟩) (fun h=>by rw[h];rfl)⟩)
theorem z3q {l:List Int} (h:l.length<=1099511627776):z2a l l:=zku _ _ (by
 unfold zcy
 refine z1j (fun he=>⟨?_,by simp only[z0w,List.length_nil];omega,by rw[List.nil_append]⟩) (fun _=>⟨by simp only[z0w,List.length_nil];omega,by rw[List.nil_append]⟩)
 have:l=[]:=List.isEmpty_iff.mp he
 rw[this])
theorem zft {l:List z0r} (h:l.length<=1099511627776):z5o l l:=zfc _ _ (by
 unfold z9f
 refine z1j (fun he=>⟨?_,by simp only[z0w,List.length_nil];omega,by rw[List.nil_append]⟩) (fun _=>⟨by simp only[z0w,List.length_nil];omega,by rw[List.nil_append]⟩)
 have:l=[]:=List.isEmpty_iff.mp he
 rw[this])
theorem zr7 {f:z00} (h:f.2.1.length<=1099511627776):zh3 f f:=z07o _ _ (by
 unfold zxa
 try refine⟨trivial,?_⟩
 exact⟨by simp only[z0w,List.length_nil];omega,by rw[List.nil_append]⟩)
theorem z01o {f:z00} (h:f.2.1.length<=1099511627776):zk1 f f:=z01f _ _ (by
 unfold zrg
 exact⟨_,z3q h,rfl⟩)
theorem zm0 {α τ:Type} {B:(τ->Prop)->τ->Prop} (l:List α) (e:Nat->List α->τ) (hl:l.length<=1073741824)
  (hs:∀ i (h:i<l.length) (s:List α) (X:τ->Prop),s.length<=1073741824->X (e (i+1) (s++[l[i]]))->B X (e i s))
  (hf:∀ X:τ->Prop,B X (e l.length l)):z0g B (e 0 []):=by
 refine z1e l.length (fun i=>e i (l.take i)) (by simp) ?_ ?_
 . intro i hi X hX
   rw[z07 hi]at hX
   exact hs i hi _ X (by rw[List.length_take];omega) hX
 . intro X;rw[List.take_length];exact hf X
theorem zx5 {l:List z00} (hl:l.length<=1073741824) (h:∀ f∈l,f.2.1.length<=1099511627776):zhd l l:=zx7 _ _ (by
 unfold zni
 refine z0j fun _=>zm0 l (fun i s=>((i:Int),(s,()))) hl ?_ ?_
 . intro i hi s X hs hX
   refine bcI hi (inI hi ⟨l[i],?_,⟨by simp only[z0w,List.length_cons,List.length_nil];omega,?_⟩⟩)
   . simp only;rw[z20 hi];exact z01o (h _ (List.getElem_mem hi))
   . simp only;rw[z04 (by omega)];exact hX
 . intro X;exact bcN rfl)
def z0gg (d:z0c):Prop:=(d.1.length<=1073741824/\∀ f∈d.1,f.2.1.length<=1099511627776)/\(d.2.1.length<=1073741824/\∀ f∈d.2.1,f.2.1.length<=1099511627776)
theorem zjw:za9 1 5 0 5:=zn3 _ _ _ _ (by
 unfold zek
 decide)
abbrev zat:List Int:=[10,10,10,10,10]
theorem zgq:z8w [10] 5 zat:=zkf _ _ _ (by
 unfold zcn
 refine bcF (z0j fun _=>⟨0,5,zqc _ _ _ _ ⟨0,5,zjw,rfl⟩,bcF (bcF ⟨by decide,by decide,?_⟩)⟩)
 refine z1e 3 (fun i=>match i with
  |0=>((1:Int),(([10,0,0,0,0]:List Int),()))
  |1=>((2:Int),(([10,10,0,0,0]:List Int),()))
  |2=>((4:Int),(([10,10,10,10,0]:List Int),()))
  |_=>((5:Int),(([10,10,10,10,10]:List Int),()))) (by decide) ?_ ?_
 . intro i hi X hX
   rcases i with _|_|_|i
   . exact z0j fun _=>bcT ⟨by decide,by decide,by decide,by rw[show ∀ z,w64 z=IntKind.i64.wrap z from fun _=>rfl];exact hX⟩
   . exact z0j fun _=>bcT ⟨by decide,by decide,by decide,by rw[show ∀ z,w64 z=IntKind.i64.wrap z from fun _=>rfl];exact hX⟩
   . exact z0j fun _=>bcT ⟨by decide,by decide,by decide,by rw[show ∀ z,w64 z=IntKind.i64.wrap z from fun _=>rfl];exact hX⟩
   . omega
 . intro X
   exact z0j fun _=>bcF rfl)
theorem zmu:za4 zat:=zn2 _ (by unfold zer;exact⟨_,zgq,rfl⟩)
theorem ztu:zi7 10:=z05j _ (by unfold zua;rfl)
theorem z010:zkl [10,10,10,10,10]:=z01c _ (by
 unfold zr3
 refine z1e 5 (fun i=>(List.replicate i (10:Int),())) rfl ?_ ?_
 . intro i hi X hX
   refine z0j fun _=>z08 (fun _=>⟨_,ztu,by simp only[z0w,List.length_replicate,List.length_cons,List.length_nil];omega,?_⟩) (fun h=>by simp only[List.length_replicate]at h;omega)
   rw[List.replicate_succ']at hX;exact hX
 . intro X
   exact z0j fun _=>bcF rfl)
def zix:List Int->List Int->List Int->List Int×Bool
 |[],_,b=>(b,true)
 | t::ts,v::vs,b=>if t<0 then(if -1 - t=v then zix ts vs b else(b,false))
   else if b.getD t.toNat 0=10\/b.getD t.toNat 0=v then zix ts vs (b.set t.toNat v)else(b,false)
 |_::_,[],b=>(b,false)
theorem zpf {t:Int} {ts:List Int} {v:Int} {vs b:List Int}:zix (t::ts) (v::vs) b=if t<0 then(if -1 - t=v then zix ts vs b else(b,false))
 else if b.getD t.toNat 0=10\/b.getD t.toNat 0=v then zix ts vs (b.set t.toNat v)else(b,false):=rfl
theorem zfe:∀ {ts vs b:List Int},(zix ts vs b).1.length=b.length
 |[],vs,b=>by simp[zix]
 |t::ts,[],b=>by simp[zix]
 | t::ts,v::vs,b=>by
   unfold zix
   split
   . split
     . exact zfe
     . rfl
   . split
     . rw[zfe,List.length_set]
     . rfl
theorem z0bo {l:List Int} {i:Nat} {v:Int} (h:i<l.length) (hv:l.getD i 0=v):l.set i v=l:=by
 rw[z29 h]at hv
 subst hv
 exact List.set_getElem_self h
theorem z08k {a f:z00} {b:List Int} (hl:a.2.1.length<=1000) (hb:b.length<=1000) (ht:∀ t∈a.2.1,-10<=t/\t<b.length) :
  zqn a f b (if a.1=f.1/\a.2.1.length=f.2.1.length then(zix a.2.1 f.2.1 b).1 else b) (decide (a.1=f.1/\a.2.1.length=f.2.1.length)&&(zix a.2.1 f.2.1 b).2):=z06a _ _ _ _ _ (by
 unfold zzc
 refine⟨by simp only[z0w,List.length_nil];omega,zeo (fun h=>by rw[if_neg (fun h'=>h h'.1)];simp[h]) (fun h1=>z0j fun _=>z0j fun _=>zeo (fun h=>?_) (fun h2=>?_))⟩
 . have h:¬ a.2.1.length=f.2.1.length:=by omega
   rw[if_neg (fun h'=>h h'.2)];simp[h]
 . have h2:a.2.1.length=f.2.1.length:=by omega
   rw[if_pos ⟨h1,h2⟩,decide_eq_true (And.intro h1 h2),Bool.true_and,List.nil_append]
   refine z1m (fun k s=>∃(i:Nat) (c:List Int),i+k=a.2.1.length/\s=((i:Int),(c,()))/\c.length=b.length/\zix (a.2.1.drop i) (f.2.1.drop i) c=zix a.2.1 f.2.1 b) ?_ ?_ (n:=a.2.1.length) ⟨0,b,by omega,rfl,rfl,by simp⟩
   . rintro s ⟨i,c,hi,rfl,hc,hf⟩ X
     obtain rfl:i=a.2.1.length:=by omega
     refine z0j fun _=>bcN ?_
     rw[<-hf];simp[zix]
   . rintro k s ⟨i,c,hi,rfl,hc,hf⟩ X hX
     have hlt:i<a.2.1.length:=by omega
     have hlt':i<f.2.1.length:=by omega
     rw[z44 hlt,z44 hlt']at hf
     have htr:=ht _ (List.getElem_mem hlt)
     refine z0j fun _=>bcI hlt (inI hlt ?_)
     simp only
     rw[z20 hlt,z20 hlt',z04 (by omega)]
     rw[zpf]at hf
     refine z08 (fun h3=>inI hlt' ?_) (fun h3=>?_)
     . rw[if_pos h3]at hf
       rw[z2s (by omega) (by omega)]
       refine zeo (fun h4=>?_) (fun h4=>?_)
       . rw[if_neg h4]at hf;rw[<-hf]
       . rw[if_pos h4]at hf;exact hX _ ⟨i+1,c,by omega,rfl,hc,hf⟩
     . rw[if_neg h3]at hf
       have hin:a.2.1[i].toNat<c.length:=by omega
       refine⟨⟨by omega,by omega⟩,_,ztu,zeo (fun h4=>⟨⟨by omega,by omega⟩,inI hlt' (zeo (fun h5=>?_) (fun h5=>inI hlt' ⟨⟨by omega,by omega⟩,?_⟩))⟩) (fun h4=>inI hlt' ⟨⟨by omega,by omega⟩,?_⟩)⟩
       . rw[if_neg (by rintro (h|h);exact h4 h;exact h5 h)]at hf;rw[<-hf]
       . rw[if_pos (.inr h5)]at hf;exact hX _ ⟨i+1,_,by omega,rfl,by rw[List.length_set];exact hc,hf⟩
       . rw[if_pos (.inl h4)]at hf;exact hX _ ⟨i+1,_,by omega,rfl,by rw[List.length_set];exact hc,hf⟩)
theorem z0cn {a f:z00} {b:List Int} (hl:a.2.1.length<=1000) (hb:b.length<=1000) (ht:∀ t∈a.2.1,-10<=t/\t<b.length) (hr:a.1=f.1->a.2.1.length=f.2.1.length) :
  z01x b a f (if a.1=f.1/\(zix a.2.1 f.2.1 b).2 then(zix a.2.1 f.2.1 b).1 else[]) (decide (a.1=f.1)&&(zix a.2.1 f.2.1 b).2):=z0ds _ _ _ _ _ (by
 unfold z07y
 refine zeo (fun h=>by rw[if_neg (fun h'=>h h'.1)];simp[h]) (fun h1=>⟨_,z3q (by omega),z0j fun _=>?_⟩)
 have h2:=hr h1
 rw[decide_eq_true h1,Bool.true_and]
 refine z1m (fun k s=>∃(i:Nat) (c:List Int),i+k=a.2.1.length/\s=((i:Int),(c,()))/\c.length=b.length/\zix (a.2.1.drop i) (f.2.1.drop i) c=zix a.2.1 f.2.1 b) ?_ ?_ (n:=a.2.1.length) ⟨0,b,by omega,rfl,rfl,by simp⟩
 . rintro s ⟨i,c,hi,rfl,hc,hf⟩ X
   obtain rfl:i=a.2.1.length:=by omega
   refine bcN ?_
   rw[<-hf];simp[zix,h1]
 . rintro k s ⟨i,c,hi,rfl,hc,hf⟩ X hX
   have hlt:i<a.2.1.length:=by omega
   have hlt':i<f.2.1.length:=by omega
   rw[z44 hlt,z44 hlt']at hf
   have htr:=ht _ (List.getElem_mem hlt)
   refine bcI hlt (inI hlt (inI hlt' ?_))
   simp only
   rw[z20 hlt,z20 hlt',z04 (by omega)]
   rw[zpf]at hf
   refine z08 (fun h3=>?_) (fun h3=>?_)
   . rw[if_pos h3]at hf
     rw[z2s (by omega) (by omega)]
     refine zeo (fun h4=>?_) (fun h4=>?_)
     . rw[if_neg (fun h=>h4 h.symm)]at hf;rw[<-hf];simp
     . rw[if_pos h4.symm]at hf;exact hX _ ⟨i+1,c,by omega,rfl,hc,hf⟩
   . rw[if_neg h3]at hf
     have hin:a.2.1[i].toNat<c.length:=by omega
     refine⟨⟨by omega,by omega⟩,z32 (fun h4=>⟨⟨by omega,by omega⟩,?_⟩) (fun h4=>⟨⟨by omega,by omega⟩,zeo (fun h5=>?_) (fun h5=>?_)⟩)⟩
     . rw[if_pos (.inl h4)]at hf;exact hX _ ⟨i+1,_,by omega,rfl,by rw[List.length_set];exact hc,hf⟩
     . rw[if_neg (by rintro (h|h);exact h4 h;exact h5 h)]at hf;rw[<-hf];simp
     . rw[if_pos (.inr h5),z0bo hin h5]at hf;exact hX _ ⟨i+1,c,by omega,rfl,hc,hf⟩)
def zmj (fs:List z00) (w:List Int->List (List Int)) (a:z00) (b:List Int) (out:List (List Int)) (f:z00):List (List Int):=if a.1=f.1/\(zix a.2.1 f.2.1 b).2=true then out++w (zix a.2.1 f.2.1 b).1 else out
def zg8 (fs:List z00):List z00->List Int->List (List Int)
 |[],b=>[b]
 |a::ats,b=>fs.foldl (zmj fs (zg8 fs ats) a b) []
structure WOk (fs ats:List z00):Prop where
 few:fs.length<=30
 row:∀ a∈ats,a.2.1.length<=3/\∀ t∈a.2.1,-10<=t/\t<5
 fit:∀ a∈ats,∀ f∈fs,a.1=f.1->a.2.1.length=f.2.1.length
theorem WOk.tail {fs ats:List z00} {a:z00} (h:WOk fs (a::ats)):WOk fs ats:=⟨h.few,fun x hx=>h.row x (by simp[hx]),fun x hx=>h.fit x (by simp[hx])⟩
theorem zpa {fs ats:List z00} {a:z00} {b:List Int} {n:Nat} (hw:∀ c,(zg8 fs ats c).length<=n) (out:List (List Int)) (f:z00):(zmj fs (zg8 fs ats) a b out f).length<=out.length+n:=by
 unfold zmj
 split
 . rw[List.length_append];have:=hw (zix a.2.1 f.2.1 b).1;omega
 . omega
theorem zdi {fs:List z00} (h:fs.length<=30):∀ {ats:List z00} {b:List Int},(zg8 fs ats b).length<=30 ^ ats.length
 |[],b=>by simp[zg8]
 | a::ats,b=>by
   have:=z7s (l:=fs) (g:=zmj fs (zg8 fs ats) a b) (s:=[]) (μ:=List.length) (c:=30 ^ ats.length) fun s f _=>zpa (fun c=>zdi h) s f
   simp only[List.length_nil,Nat.zero_add]at this
   rw[List.length_cons,Nat.pow_succ,Nat.mul_comm]
   exact Nat.le_trans this (Nat.mul_le_mul_right _ h)
theorem z09l {fs ats:List z00} {b c:List Int} (h:c∈zg8 fs ats b):c.length=b.length:=by
 induction ats generalizing b c with
 |nil=>simp[zg8]at h;rw[h]
 | cons a ats ih=>
   have:∀(l:List z00) (out:List (List Int)),(∀ c∈out,c.length=b.length)->∀ c∈l.foldl (zmj fs (zg8 fs ats) a b) out,c.length=b.length:=by
    intro l
    induction l with
    |nil=>intro out ho;exact ho
    | cons f l ihl=>
      intro out ho
      rw[List.foldl_cons]
      refine ihl _ fun c hc=>?_
      unfold zmj at hc
      split at hc
      . rcases List.mem_append.mp hc with hc|hc
        . exact ho c hc
        . rw[ih hc,zfe]
      . exact ho c hc
   exact this fs [] (by simp) c h
def mOk (x:z0d) (l:List z00):Bool:=l.all (z6l x.1)&&(z35 x&&decide (l.length<=3))
theorem zpk {x:z0d} {l:List z00} (h:mOk x l=true):WOk x.2.1 l/\l.length<=3:=by
 unfold mOk at h
 simp only[Bool.and_eq_true,decide_eq_true_eq]at h
 obtain⟨h1,h2,h3⟩:=h
 refine⟨⟨z54 h2,fun a ha=>?_,fun a ha f hf he=>?_⟩,h3⟩
 . have:=z3k (List.all_eq_true.mp h1 a ha)
   exact⟨this.2.2.2.2.1,fun t ht=>by have:=inR_iff.mp (this.2.2.2.2.2 t ht);omega⟩
 . have e1:=z3k (List.all_eq_true.mp h1 a ha)
   have e2:=z3k (z7o h2 hf)
   have:=e1.2.2.2.1
   have:=e2.2.2.2.1
   rw[he]at *
   omega
def dedG (out:List (List Int)) (b:List Int):List (List Int):=if b∈out then out else out++[b]
def zau (x:z0d) (l:List z00):List (List Int):=if mOk x l then(zg8 x.2.1 l zat).foldl dedG [] else[]
theorem zvc (out:List (List Int)) (b:List Int):(dedG out b).length<=out.length+1:=by unfold dedG;split<;>simp
theorem zw6:∀ {l:List (List Int)} {out:List (List Int)} {b:List Int},b∈l.foldl dedG out->b∈out\/b∈l
 |[],out,b,h=>.inl h
 | c::l,out,b,h=>by
   rw[List.foldl_cons]at h
   rcases zw6 h with h|h
   . unfold dedG at h
     split at h
     . exact .inl h
     . rcases List.mem_append.mp h with h|h
       . exact .inl h
       . simp at h;exact .inr (by simp[h])
   . exact .inr (by simp[h])
theorem zi1 {x:z0d} {l:List z00} {b:List Int} (h:b∈zau x l):b.length=5:=by
 unfold zau at h
 split at h
 . rcases zw6 h with h|h
   . simp at h
   . rw[z09l h];rfl
 . simp at h
theorem z001 {n:Nat} (h:n<=3):30 ^ n<=27000:=Nat.le_trans (Nat.pow_le_pow_right (by omega) h) (by decide)
theorem zl4 {x:z0d} {l:List z00}:(zau x l).length<=27000:=by
 unfold zau
 split
 . rename_i h
   have:=z7s (l:=zg8 x.2.1 l zat) (g:=dedG) (s:=[]) (μ:=List.length) (c:=1) fun s f _=>zvc s f
   have h2:=zdi (zpk h).1.few (ats:=l) (b:=zat)
   have:=z001 (zpk h).2
   simp at *
   omega
 . exact Nat.zero_le _
theorem z0b9 {x:z0d} {l:List z00}:zuy x l (mOk x l):=z0b1 _ _ _ (by
 unfold z030
 refine z8t l (fun a=>!z6l x.1 a) (fun i=>((i:Int),())) (KT:=((false,()):Bool×Unit)=(mOk x l,())) (KF:=l.any (fun a=>!z6l x.1 a)=false) ?_ ?_ ?_ (fun h=>h)
 . intro i hi X h1 h2
   refine z0j fun _=>bcI hi (inI hi ⟨_,ze9,?_⟩)
   simp only
   rw[z20 hi,z04 (by omega)]
   exact z1j h1 h2
 . intro X h
   refine z0j fun _=>bcN ⟨_,z2w,?_⟩
   rw[z49]at h
   refine z1j (fun h1=>z0j fun _=>?_) (fun h1=>?_)
   . unfold mOk;rw[nf h,h1];simp;omega
   . unfold mOk;rw[h1];simp
 . intro h
   rw[z49]at h
   unfold mOk;rw[nt h];rfl)
theorem zr1 {x:z0d} {l:List z00}:zcj x l (mOk x l):=zqs _ _ _ (by
 unfold zh6
 refine⟨_,z94,z1j (fun h1=>z0j fun _=>z32 (fun h2=>?_) (fun h2=>⟨_,zjv,?_⟩)) (fun h1=>by unfold mOk;rw[h1];simp)⟩
 . have:l=[]:=List.eq_nil_of_length_eq_zero (by omega)
   unfold mOk;rw[this,h1];rfl
 . have:mOk x l=(inR l.length 1 3&&l.all (z6l x.1)):=by
    unfold mOk
    rw[h1,Bool.true_and,Bool.and_comm]
    congr 1
    have h0:1<=l.length:=by omega
    unfold inR
    rw[decide_eq_true (show(1:Int)<=(l.length:Int) by omega),Bool.true_and]
    exact decide_eq_decide.mpr (by omega)
   rw[this])
theorem ztw {x:z0d} {l:List z00} (h:WOk x.2.1 l) (hl:l.length<=3):∀(k n:Nat) (b:List Int),n+k=l.length->b.length=5->zhy x l n b (zg8 x.2.1 (l.drop n) b)
 | 0,n,b,hn,hb=>zui _ _ _ _ _ (by
   unfold zmy
   obtain rfl:n=l.length:=by omega
   refine z0j fun _=>z32 (fun _=>⟨by simp only[z0w,List.length_nil];omega,by rw[List.drop_length];rfl⟩) (fun h=>absurd rfl h))
 | k+1,n,b,hn,hb=>zui _ _ _ _ _ (by
   unfold zmy
   have hlt:n<l.length:=by omega
   refine z0j fun _=>z32 (fun h=>by omega) (fun _=>?_)
   rw[z44 hlt]
   have hrow:=h.row _ (List.getElem_mem hlt)
   refine z21 x.2.1 (zmj x.2.1 (zg8 x.2.1 (l.drop (n+1))) l[n] b) [] (fun i s=>((i:Int),(s,()))) List.length 27000 30 h.few (fun s f _=>zpa (fun c=>Nat.le_trans (zdi h.few) (z001 (by rw[List.length_drop];omega))) s f) ?_ ?_
   . intro i hi s X hs hX
     have hfew:=h.few
     refine z0j fun _=>bcI hi (inI hlt (inI hi ⟨_,_,z08k (a:=l.getD (Int.toNat (n:Int)) z0n) (f:=x.2.1.getD (Int.toNat (i:Int)) z0n) (b:=b) ?_ (by omega) ?_,?_⟩))
     . rw[z20 hlt];omega
     . rw[z20 hlt];intro t ht;have:=hrow.2 t ht;omega
     . simp only
       rw[z20 hlt,z20 hi,z04 (by omega),z04 (by omega)]
       have hfit:=h.fit _ (List.getElem_mem hlt) _ (List.getElem_mem hi)
       unfold zmj at hX
       by_cases hc:l[n].1=x.2.1[i].1
       . rw[if_pos ⟨hc,hfit hc⟩,decide_eq_true (And.intro hc (hfit hc)),Bool.true_and]
         refine z1j (fun h4=>⟨_,ztw h hl k (n+1) _ (by omega) (by rw[zfe];exact hb),?_,?_⟩) (fun h4=>?_)
         . have h5:(zg8 x.2.1 (l.drop (n+1)) (zix l[n].2.1 x.2.1[i].2.1 b).1).length<=27000:=Nat.le_trans (zdi h.few) (z001 (by rw[List.length_drop];omega))
           simp only[z0w,List.length_nil]at *
           omega
         . rw[if_pos ⟨hc,h4⟩]at hX;exact hX
         . rw[if_neg (by rintro⟨_,h5⟩;rw[h4]at h5;cases h5)]at hX;exact hX
       . rw[if_neg (fun h=>hc h.1),decide_eq_false (fun h=>hc h.1),Bool.false_and]
         rw[if_neg (fun h=>hc h.1)]at hX
         exact bcF hX
   . intro X _
     exact z0j fun _=>bcN rfl)
theorem ztt {fs:List z00}:∀ {l:List z00} (b:List Int),WOk fs l->l.length<=3->b.length=5->zi4 fs l b (zg8 fs l b)
 |[],b,h,hl,hb=>ztn _ _ _ _ (by unfold zn1;exact z0j fun _=>bcT rfl)
 | a::l,b,h,hl,hb=>ztn _ _ _ _ (by
   unfold zn1
   have hrow:=h.row a (by simp)
   refine z0j fun _=>z32 (fun h=>by simp at h;omega) (fun _=>z0j fun _=>?_)
   have hd:List.drop (Int.toNat (1:Int)) (List.take (Int.toNat ((a::l).length:Int)) (a::l))=l:=by rw[Int.toNat_natCast,List.take_length];rfl
   rw[hd]
   refine z21 fs (zmj fs (zg8 fs l) a b) [] (fun i s=>((i:Int),(s,()))) List.length 27000 30 h.few (fun s f _=>zpa (fun c=>Nat.le_trans (zdi h.few) (z001 (by simp at hl;omega))) s f) ?_ ?_
   . intro i hi s X hs hX
     have hfew:=h.few
     refine bcI hi (inI hi ⟨⟨by omega,by simp only[List.length_cons];omega⟩,_,_,z0cn (a:=a) (f:=fs.getD (Int.toNat (i:Int)) z0n) (b:=b) (by omega) (by omega) (fun t ht=>by have:=hrow.2 t ht;omega) ?_,?_⟩)
     . rw[z20 hi];exact h.fit a (by simp) _ (List.getElem_mem hi)
     . simp only
       rw[z20 hi,z04 (by omega)]
       unfold zmj at hX
       by_cases hc:a.1=fs[i].1
       . rw[decide_eq_true hc,Bool.true_and]
         refine z1j (fun h4=>⟨⟨by omega,by simp;omega,by omega⟩,_,ztt _ h.tail (by simp at hl;omega) (by rw[if_pos ⟨hc,h4⟩,zfe];exact hb),?_,?_⟩) (fun h4=>?_)
         . have h5:∀ c,(zg8 fs l c).length<=27000:=fun c=>Nat.le_trans (zdi h.few) (z001 (by simp at hl;omega))
           have:=h5 (if a.1=fs[i].1/\(zix a.2.1 fs[i].2.1 b).2=true then(zix a.2.1 fs[i].2.1 b).1 else[])
           simp only[z0w,List.length_nil]at *
           omega
         . rw[if_pos ⟨hc,h4⟩]at hX ⊢;exact hX
         . rw[if_neg (by rintro⟨_,h5⟩;rw[h4]at h5;cases h5)]at hX;exact hX
       . rw[decide_eq_false hc,Bool.false_and]
         rw[if_neg (fun h=>hc h.1)]at hX
         exact bcF hX
   . intro X _
     exact bcN rfl)
theorem zun {l:List (List Int)} {b:List Int}:zfn l b (decide (b∈l)):=zwf _ _ _ (by
 unfold zlv
 refine⟨_,z66 (fun t=>decide (t=b)) (fun t _=>zqm _ _ _ ⟨_,zdk,rfl⟩),?_⟩
 have:(l.any fun t=>decide (t=b))=decide (b∈l):=by
  rw[<-zq8]
  congr 1;funext t
  by_cases h:t=b
  . simp[h]
  . have:¬ b=t:=fun e=>h e.symm
    simp[h,this]
 rw[this])
def mkd {α:Type} (w:List α) (i:Nat):List (Bool×α):=(w.take i).map (fun y=>(false,y))++(w.drop i).map (fun y=>(true,y))
theorem z079 {α:Type} {w:List α} {i:Nat}:(mkd w i).length=w.length:=by
 unfold mkd
 rw[List.length_append,List.length_map,List.length_map,<-List.length_append,List.take_append_drop]
theorem z06e {α:Type} {w:List α} {i:Nat} (h:i<w.length) {d:Bool×α}:List.getD (mkd w i) i d=(true,w[i]):=by
 have hl:((w.take i).map (fun y=>(false,y))).length=i:=by simp;omega
 unfold mkd
 rw[List.getD_eq_getElem?_getD,List.getElem?_append_right (by omega),hl,Nat.sub_self,List.getElem?_map,List.getElem?_drop,Nat.add_zero,List.getElem?_eq_getElem h]
 rfl
theorem z07r {α:Type} {w:List α} {i:Nat} (h:i<w.length):List.set (mkd w i) i (false,w[i])=mkd w (i+1):=by
 have hl:((w.take i).map (fun y=>(false,y))).length=i:=by simp;omega
 unfold mkd
 rw[List.set_append,hl,if_neg (by omega),Nat.sub_self,List.drop_eq_getElem_cons h,List.map_cons,List.set_cons_zero,z07 h,List.map_append,List.append_assoc]
 rfl
theorem zsa {x:z0d} {l:List z00}:zdn x l (zau x l):=zsn _ _ _ (by
 unfold zjl
 refine⟨_,zr1,z0y (fun h=>by unfold zau;rw[h];rfl) (fun h=>?_)⟩
 obtain⟨hw,hl⟩:=zpk h
 refine⟨_,zmu,_,ztt zat hw hl rfl,z0j fun _=>?_⟩
 have hlen:(zg8 x.2.1 l zat).length<=27000:=Nat.le_trans (zdi hw.few) (z001 hl)
 unfold zau
 rw[h,if_pos rfl]
 rw[show List.map (fun y=>(true,y)) (zg8 x.2.1 l zat)=mkd (zg8 x.2.1 l zat) 0 from rfl]
 refine z21 (zg8 x.2.1 l zat) dedG [] (fun i s=>((i:Int),(s,(mkd (zg8 x.2.1 l zat) i,())))) List.length 1 27000 hlen (fun s f _=>zvc s f) ?_ ?_
 . intro i hi s X hs hX
   refine bcI hi (inI (by rw[z079];exact hi) ?_)
   simp only[Int.toNat_natCast]
   rw[z06e hi]
   refine⟨rfl,_,zun,?_⟩
   simp only
   rw[z07r hi,z04 (by omega)]
   unfold dedG at hX
   refine z0dj (fun h4=>⟨by simp only[z0w,List.length_nil,List.length_cons]at *;omega,?_⟩) (fun h4=>?_)
   . rw[if_neg h4]at hX;exact hX
   . rw[if_pos h4]at hX;exact hX
 . intro X _
   exact bcN rfl)
theorem zjc {x:z0d} {l:List z00}:zah x l (zau x l):=zsh _ _ _ (by
 unfold zjr
 refine⟨_,z0b9,z0y (fun h=>by unfold zau;rw[h];rfl) (fun h=>?_)⟩
 obtain⟨hw,hl⟩:=zpk h
 refine⟨_,z010,_,ztw hw hl l.length 0 zat (by omega) rfl,?_⟩
 rw[List.drop_zero]
 have hlen:(zg8 x.2.1 l zat).length<=27000:=Nat.le_trans (zdi hw.few) (z001 hl)
 unfold zau
 rw[h,if_pos rfl]
 refine z21 (zg8 x.2.1 l zat) dedG [] (fun i s=>((i:Int),(s,(zg8 x.2.1 l zat,())))) List.length 1 27000 hlen (fun s f _=>zvc s f) ?_ ?_
 . intro i hi s X hs hX
   refine z0j fun _=>bcI hi ?_
   simp only
   rw[z04 (by omega)]
   refine zar s (fun(m:Bool) c=>m||decide (c=(zg8 x.2.1 l zat)[i])) false (fun j m=>(m,((j:Int),()))) ?_ ?_
   . intro j hj Y hY
     refine z0j fun _=>bcI hj ?_
     simp only
     rw[z04 (by simp at hs;omega)]
     generalize (s.take j).foldl (fun(m:Bool) c=>m||decide (c=(zg8 x.2.1 l zat)[i])) false=m at hY ⊢
     cases m with
     |true=>exact bcT hY
     | false=>
       refine bcF (inI hj (inI hi ⟨_,zm5,?_⟩))
       rw[z20 hj,z20 hi]
       have:(zid s[j] (zg8 x.2.1 l zat)[i] == (0:Int))=decide (s[j]=(zg8 x.2.1 l zat)[i]):=by
        by_cases he:s[j]=(zg8 x.2.1 l zat)[i]
        . rw[cmpL_zero.mpr he];simp[he]
        . have:zid s[j] (zg8 x.2.1 l zat)[i]≠0:=fun e=>he (cmpL_zero.mp e)
          simp[he,this]
       rw[this];simpa using hY
   . intro Y
     refine z0j fun _=>bcN ?_
     simp only
     have hm:∀(s:List (List Int)) (m:Bool),s.foldl (fun(m:Bool) c=>m||decide (c=(zg8 x.2.1 l zat)[i])) m=(m||decide ((zg8 x.2.1 l zat)[i]∈s)):=by
      intro s
      induction s with
      |nil=>intro m;simp
      | cons c s ih=>
        intro m
        rw[List.foldl_cons,ih,Bool.or_assoc]
        congr 1
        by_cases he:c=(zg8 x.2.1 l zat)[i]
        . simp[he]
        . have:¬ (zg8 x.2.1 l zat)[i]=c:=fun e=>he e.symm
          simp[he,this]
     rw[hm,Bool.false_or]
     unfold dedG at hX
     refine z0dj (fun h4=>inI hi ⟨by simp only[z0w,List.length_nil,List.length_cons]at *;omega,?_⟩) (fun h4=>?_)
     . rw[z20 hi];rw[if_neg h4]at hX;exact hX
     . rw[if_pos h4]at hX;exact hX
 . intro X _
   exact z0j fun _=>bcN rfl)
def z04m (b:List Int) (t:Int):Option Int:=if 0<=t then(if (b.length:Int)<=t then none else if zn6 (b.getD t.toNat 0)then some (b.getD t.toNat 0)else none)else(if zn6 (-1 - t)then some (-1 - t)else none)
def zgj (b:List Int) (s:List Int) (t:Int):Unit ⊕ List Int:=match z04m b t with
 |none=>.inl ()
 |some v=>.inr (s++[v])
def inst (a:z00) (b:List Int):z00:=match zbs (zgj b) a.2.1 []with
 |.inl _=>z0n
 |.inr s=>(a.1,(s,()))
def zbj (a:z00) (b:List Int):Bool:=match zbs (zgj b) a.2.1 []with
 |.inl _=>false
 |.inr _=>true
theorem zl2 {b:List Int}:∀ {l:List Int} {s s':List Int},zbs (zgj b) l s = .inr s'->s'.length=s.length+l.length
 |[],s,s',h=>by simp only[zbs,Sum.inr.injEq]at h;subst h;simp
 | t::l,s,s',h=>by
   simp only[zbs]at h
   unfold zgj at h
   cases e:z04m b t with
   |none=>rw[e]at h;simp at h
   | some v=>
     rw[e]at h
     have:=zl2 (b:=b) (l:=l) h
     simp at this ⊢
     omega
theorem z0br {a:z00} {b:List Int}:(inst a b).2.1.length<=a.2.1.length:=by
 unfold inst
 cases e:zbs (zgj b) a.2.1 []with
 |inl _=>simp
 |inr s=>have:=zl2 e;simp at this ⊢;omega
theorem z07c {a:z00} {b:List Int} {r:Unit} (h:zbs (zgj b) a.2.1 [] = .inl r):((z0n,(false,())):z00×Bool×Unit)=(inst a b,(zbj a b,())):=by unfold inst zbj;rw[h]
theorem z024 {a:z00} {b s:List Int} (h:zbs (zgj b) a.2.1 [] = .inr s):(((a.1,(s,())),(true,())):z00×Bool×Unit)=(inst a b,(zbj a b,())):=by unfold inst zbj;rw[h]
theorem zjo {a:z00} {b:List Int} (hl:a.2.1.length<=1000) (hb:b.length<=1000) (ht:∀ t∈a.2.1,-10<=t/\t<5):zaf a b (inst a b) (zbj a b):=zsv _ _ _ _ (by
 unfold zjq
 refine z0j fun _=>zig a.2.1 (zgj b) [] (fun i s=>((i:Int),(z0n,((a.1,(s,())),())))) (KR:=fun _=>((z0n,(false,())):z00×Bool×Unit)=(inst a b,(zbj a b,()))) ?_ ?_ (fun r hr=>z07c hr)
 . intro i hi s X hr h1 h2
   have hs:=zl2 hr
   have htr:=ht _ (List.getElem_mem hi)
   refine bcI hi (inI hi ?_)
   simp only
   rw[z20 hi,z04 (by omega)]
   unfold zgj z04m at h1 h2
   rw[List.length_take,List.length_nil]at hs
   refine z08 (fun h3=>z0j fun _=>z08 (fun h4=>?_) (fun h4=>⟨⟨by omega,by omega⟩,_,z9r,z0y (fun h5=>?_) (fun h5=>⟨by simp only[z0w,List.length_cons,List.length_nil];omega,?_⟩)⟩)) (fun h3=>⟨_,z9r,?_⟩)
   . exact h1 () (by rw[if_pos (by omega),if_pos (by omega)])
   . exact h1 () (by rw[if_pos (by omega),if_neg (by omega),h5];rfl)
   . exact h2 _ (by rw[if_pos (by omega),if_neg (by omega),h5];rfl)
   . rw[z2s (by omega) (by omega)]
     refine z0y (fun h5=>?_) (fun h5=>⟨by simp only[z0w,List.length_cons,List.length_nil];omega,?_⟩)
     . exact h1 () (by rw[if_neg (by omega),h5];rfl)
     . exact h2 _ (by rw[if_neg (by omega),h5];rfl)
 . intro s X hr
   exact bcN (z024 hr))
theorem zdz {a:z00} {b:List Int} (hl:a.2.1.length<=1000) (hb:b.length<=1000) (ht:∀ t∈a.2.1,-10<=t/\t<5):z8s a b (inst a b) (zbj a b):=zsm _ _ _ _ (by
 unfold zjj
 refine zig a.2.1 (zgj b) [] (fun i s=>((i:Int),(z0n,((a.1,(s,())),())))) (KR:=fun _=>((z0n,(false,())):z00×Bool×Unit)=(inst a b,(zbj a b,()))) ?_ ?_ (fun r hr=>z07c hr)
 . intro i hi s X hr h1 h2
   have hs:=zl2 hr
   have htr:=ht _ (List.getElem_mem hi)
   refine z0j fun _=>bcI hi (inI hi (inI hi ?_))
   simp only
   rw[z20 hi,z04 (by omega)]
   unfold zgj z04m at h1 h2
   rw[List.length_take,List.length_nil]at hs
   refine z08 (fun h3=>inI hi (z0j fun _=>z08 (fun h4=>?_) (fun h4=>inI hi ⟨⟨by omega,by omega⟩,_,z9b,z0y (fun h5=>?_) (fun h5=>inI hi (z08 (fun h6=>by omega) (fun h6=>⟨by simp only[z0w,List.length_cons,List.length_nil];omega,?_⟩)))⟩))) (fun h3=>⟨_,z9b,?_⟩)
   . exact h1 () (by rw[if_pos (by omega),if_pos (by omega)])
   . exact h1 () (by rw[if_pos (by omega),if_neg (by omega),h5];rfl)
   . exact h2 _ (by rw[if_pos (by omega),if_neg (by omega),h5];rfl)
   . rw[z2s (by omega) (by omega)]
     refine z0y (fun h5=>?_) (fun h5=>inI hi (z08 (fun _=>z08 (fun h6=>by omega) (fun _=>⟨by simp only[z0w,List.length_cons,List.length_nil];omega,?_⟩)) (fun h6=>by omega)))
     . exact h1 () (by rw[if_neg (by omega),h5];rfl)
     . exact h2 _ (by rw[if_neg (by omega),h5];rfl)
 . intro s X hr
   exact z0j fun _=>bcN (z024 hr))
theorem znp {k:Int} (h0:0<=k) (h1:k<=1000000):zdj k (-1 - k):=zyi _ _ (by unfold znf;rw[z2s (by omega) (by omega)])
theorem zdb {k:Int} (h0:0<=k) (h1:k<=1000000):z8y k (-1 - k):=zyh _ _ (by unfold znb;rw[z2s (by omega) (by omega)])
theorem ze6 {α:Type} [BEq α] [LawfulBEq α] [DecidableEq α] {l:List α} {b:α}:(l.any fun t=>decide (t=b))=decide (b∈l):=by
 rw[<-zq8]
 congr 1;funext t
 by_cases h:t=b
 . simp[h]
 . have:¬ b=t:=fun e=>h e.symm
   simp[h,this]
theorem zms {l:List z00} {f:z00}:zeg l f (decide (f∈l)):=z05h _ _ _ (by
 unfold zt6
 refine⟨_,z6y (fun t=>decide (t=f)) (fun t _=>zy6 _ _ _ ⟨_,zk6,rfl⟩),?_⟩
 rw[ze6])
def place (l:List z00) (f:z00):Int:=if z02 (fun x=>decide (x=f)) l<l.length then(z02 (fun x=>decide (x=f)) l:Int)else -1
theorem z02g {l:List z00} {f:z00}:decide (place l f>=0)=decide (f∈l):=by
 have:=zee (fun x=>decide (x=f)) l
 rw[ze6]at this
 exact this
theorem zie {l:List z00} {f:z00} (h:f∈l):∃ p:Nat,place l f=p/\∃ hp:p<l.length,l[p]=f:=by
 have h1:z02 (fun x=>decide (x=f)) l<l.length:=firstAt_any.mpr (by rw[ze6];simpa using h)
 refine⟨_,by unfold place;rw[if_pos h1],h1,?_⟩
 simpa using z7w h1
theorem zz0 {l:List z00} {f:z00} (h:f∉l):place l f = -1:=by
 unfold place
 rw[if_neg]
 intro h1
 have:=firstAt_any.mp h1
 rw[ze6]at this
 exact h (by simpa using this)
theorem zr5 {x f:z00}:(zc8 x f == (0:Int))=decide (x=f):=by
 by_cases h:x=f
 . rw[cmpF_zero.mpr h];simp[h]
 . have:zc8 x f≠0:=fun e=>h (cmpF_zero.mp e)
   simp[h,this]
theorem zf2 {x:z0d} {f:z00}:za5 x f (place x.2.1 f):=z05f _ _ _ (by
 unfold zu8
 refine za2 x.2.1 (fun t=>decide (t=f)) (fun i=>((i:Int),())) (KT:=fun i=>(((i:Int),()):Int×Unit)=(place x.2.1 f,())) (KF:=(((-1:Int),()):Int×Unit)=(place x.2.1 f,())) ?_ ?_ ?_ ?_
 . intro i hi X h1 h2
   refine z0j fun _=>bcI hi (inI hi ⟨_,z5c,?_⟩)
   simp only
   rw[z20 hi,zr5,z04 (by omega)]
   exact z1j h1 h2
 . intro X h;exact z0j fun _=>bcN h
 . intro h;unfold place;rw[if_pos h]
 . intro h;unfold place;rw[if_neg (by omega)])
theorem z6r {x:z0d} {f:z00}:z5a x f (z35 x&&decide (f∈x.2.1)):=zpj _ _ _ (by
 unfold zh8
 refine⟨_,z2w,z1j (fun h=>⟨_,zf2,?_⟩) (fun h=>by rw[h];rfl)⟩
 rw[z02g,h,Bool.true_and])
theorem zue:∀ {x y z:List Int},zid x y<0->zid y z<0->zid x z<0
 |[],[],z,h,_=>by simp[zid]at h
 |[],b::y,[],_,h=>by simp[zid]at h
 |[],b::y,c::z,_,_=>by simp[zid]
 |a::x,[],z,h,_=>by simp[zid]at h
 |a::x,b::y,[],_,h=>by simp[zid]at h
 | a::x,b::y,c::z,h1,h2=>by
   simp only[zid]at h1 h2 ⊢
   have ih:=zue (x:=x) (y:=y) (z:=z)
   split at h1
   . split at h2
     . rw[if_pos (by omega)];omega
     . split at h2
       . omega
       . rw[if_pos (by omega)];omega
   . split at h1
     . omega
     . split at h2
       . rw[if_pos (by omega)];omega
       . split at h2
         . omega
         . rw[if_neg (by omega),if_neg (by omega)];exact ih h1 h2
theorem zmx {x y z:z00} (h1:zc8 x y<0) (h2:zc8 y z<0):zc8 x z<0:=by
 unfold zc8 at *
 split at h1
 . split at h2
   . rw[if_pos (by omega)];omega
   . split at h2
     . omega
     . rw[if_pos (by omega)];omega
 . split at h1
   . omega
   . split at h2
     . rw[if_pos (by omega)];omega
     . split at h2
       . omega
       . rw[if_neg (by omega),if_neg (by omega)];exact zue h1 h2
def asc (l:List z00):Prop:=∀ i j (hj:j<l.length) (hij:i<j),zc8 (l[i]'(by omega)) l[j]<0
theorem zln {x:z0d} (h:z35 x=true):asc x.2.1:=by
 have step:∀ i (hi:i+1<x.2.1.length),zc8 (x.2.1[i]'(by omega)) x.2.1[i+1]<0:=by
  intro i hi
  unfold z35 at h
  simp only[Bool.and_eq_true]at h
  have:=List.all_eq_true.mp h.2 (i+1) (by simpa using hi)
  unfold z8g at this
  simp only[Bool.and_eq_true]at this
  have:=this.1.2
  rw[show(i+1 == 0)=false by simp,Bool.false_or]at this
  have h:=of_decide_eq_true this
  rw[Nat.add_sub_cancel,z3p (by omega),z3p hi]at h
  exact h
 have all:∀ k i (hk:i+1+k<x.2.1.length),zc8 (x.2.1[i]'(by omega)) x.2.1[i+1+k]<0:=by
  intro k
  induction k with
  |zero=>intro i hk;exact step i hk
  |succ k ih=>intro i hk;exact zmx (ih i (by omega)) (step (i+1+k) hk)
 intro i j hj hij
 obtain⟨k,rfl⟩:∃ k,j=i+1+k:=⟨j - i - 1,by omega⟩
 exact all k i hj
theorem midI {i j:Nat} (hi:i<=1000) (hj:j<=1000):w64 (Int.fdiv (IntKind.u64.wrap (w64 ((i:Int)+(j:Int)))) (2 ^ (min (Int.toNat (1:Int)) (IntKind.bits .u64))))=(((i+j) / 2:Nat):Int):=by
 rw[z2s (n:=(i:Int)+(j:Int)) (by omega) (by omega)]
 have e1:IntKind.u64.wrap ((i:Int)+(j:Int))=(i:Int)+(j:Int):=by
  simp only[IntKind.wrap,IntKind.signed,IntKind.bits]
  simp
  omega
 have e2:(2:Int) ^ (min (Int.toNat (1:Int)) (IntKind.bits .u64))=2:=by decide
 rw[e1,e2,Int.fdiv_eq_ediv_of_nonneg _ (by omega),z2s (by omega) (by omega)]
 omega
theorem z06i {l:List z00} {f:z00} (hl:l.length<=30) (ha:asc l) :
  ∃ p:Nat,z0z l f () p (decide (f∈l))/\(f∈l->place l f=p/\p<l.length):=by
 suffices h:∃ p:Nat,p<=l.length/\(∀ j (h:j<l.length),j<p->zc8 l[j] f<0)/\(∀ j (h:j<l.length),p<=j->¬ zc8 l[j] f<0) by
  obtain⟨p,hp,h1,h2⟩:=h
  have key:∀ q (hq:q<l.length),l[q]=f->q=p:=by
   intro q hq he
   have hz:zc8 l[q] f=0:=cmpF_zero.mpr he
   have hge:p<=q:=by
    rcases Nat.lt_or_ge q p with h|h
    . have:=h1 q hq h;omega
    . exact h
   rcases Nat.lt_or_ge p q with h|h
   . have:=ha p q hq h
     rw[he]at this
     exact absurd this (h2 p (by omega) (Nat.le_refl _))
   . omega
  refine⟨p,z4s _ _ _ _ _ ?_,fun hm=>?_⟩
  . unfold z2i
    refine z0j fun _=>?_
    refine z1m (fun k s=>∃ i j:Nat,s=((i:Int),((j:Int),()))/\j - i<=k/\i<=p/\p<=j/\j<=l.length) ?_ ?_ (n:=l.length) ⟨0,l.length,rfl,by omega,by omega,hp,by omega⟩
    . rintro s ⟨i,j,rfl,hk,hi,hj,hjl⟩ X
      obtain rfl:i=p:=by omega
      obtain rfl:j=i:=by omega
      refine z08 (fun h=>by simp only at h;omega) (fun _=>?_)
      have hfin:∀(h:j<l.length),(zc8 l[j] f == (0:Int))=decide (f∈l):=by
       intro h
       rw[zr5]
       refine decide_eq_decide.mpr ⟨fun e=>e ▸ List.getElem_mem h,fun hm=>?_⟩
       obtain⟨q,hq,he⟩:=List.mem_iff_getElem.mp hm
       obtain rfl:=key q hq he
       exact he
      refine z08 (fun h=>?_) (fun h=>?_)
      . have h:j<l.length:=by simp only at h;omega
        refine inI h ⟨_,z6q,?_⟩
        rw[z20 h,hfin h]
      . have h:l.length<=j:=by simp only at h;omega
        have:f∉l:=fun hm=>by
         obtain⟨q,hq,he⟩:=List.mem_iff_getElem.mp hm
         have:=key q hq he
         omega
        rw[decide_eq_false this]
    . rintro k s ⟨i,j,rfl,hk,hi,hj,hjl⟩ X hX
      by_cases hij:i<j
      . refine z08 (fun _=>?_) (fun h=>by simp only at h;omega)
        simp only
        rw[midI (by omega) (by omega)]
        have hm:(i+j) / 2<l.length:=by omega
        refine⟨by omega,⟨by omega,by omega⟩,_,z6q,?_⟩
        rw[z20 hm]
        refine z08 (fun h=>?_) (fun h=>?_)
        . rw[z04 (by omega)]
          refine hX _ ⟨(i+j) / 2+1,j,rfl,by omega,?_,hj,hjl⟩
          rcases Nat.lt_or_ge ((i+j) / 2) p with h'|h'
          . omega
          . exact absurd h (h2 _ hm h')
        . refine hX _ ⟨i,(i+j) / 2,rfl,by omega,hi,?_,by omega⟩
          rcases Nat.lt_or_ge ((i+j) / 2) p with h'|h'
          . exact absurd (h1 _ hm h') h
          . exact h'
      . obtain rfl:i=p:=by omega
        obtain rfl:j=i:=by omega
        refine z08 (fun h=>by simp only at h;omega) (fun _=>?_)
        have hfin:∀(h:j<l.length),(zc8 l[j] f == (0:Int))=decide (f∈l):=by
         intro h
         rw[zr5]
         refine decide_eq_decide.mpr ⟨fun e=>e ▸ List.getElem_mem h,fun hm=>?_⟩
         obtain⟨q,hq,he⟩:=List.mem_iff_getElem.mp hm
         obtain rfl:=key q hq he
         exact he
        refine z08 (fun h=>?_) (fun h=>?_)
        . have h:j<l.length:=by simp only at h;omega
          refine inI h ⟨_,z6q,?_⟩
          rw[z20 h,hfin h]
        . have h:l.length<=j:=by simp only at h;omega
          have:f∉l:=fun hm=>by
           obtain⟨q,hq,he⟩:=List.mem_iff_getElem.mp hm
           have:=key q hq he
           omega
          rw[decide_eq_false this]
  . obtain⟨q,e1,hq,e2⟩:=zie hm
    have:=key q hq e2
    subst this
    exact⟨e1,hq⟩
 refine⟨z02 (fun t=>!decide (zc8 t f<0)) l,zec _ _,fun j hj h=>?_,fun j hj h h3=>?_⟩
 . have:=z6a hj h
   simpa using this
 . have hp:z02 (fun t=>!decide (zc8 t f<0)) l<l.length:=by omega
   have h4:=z7w hp
   simp only[Bool.not_eq_true',decide_eq_false_iff_not]at h4
   rcases Nat.lt_or_ge (z02 (fun t=>!decide (zc8 t f<0)) l) j with h5|h5
   . exact h4 (zmx (ha _ j hj h5) h3)
   . have:z02 (fun t=>!decide (zc8 t f<0)) l=j:=by omega
     simp only[this]at h4
     exact h4 h3
theorem z092 {l:List z0r} {ats:List z00} (h:∀ a∈ats,z6l l a=true) {v:Int} (hv:v∈vars ats):0<=v/\v<5:=by
 unfold vars at hv
 rw[mem_sset,List.mem_filter]at hv
 obtain⟨h1,h2⟩:=hv
 obtain⟨a,ha,h3⟩:=List.mem_flatMap.mp h1
 have:=inR_iff.mp ((z3k (h a ha)).2.2.2.2.2 v h3)
 have:0<=v:=by simpa using h2
 omega
structure DOk (d:z0c):Prop where
 sm:zw8 d
 ex:∀ v∈exV d,0<=v/\v<5
 fr:∀ v∈frV d,0<=v/\v<5
 hd:d.2.1.length<=2/\∀ a∈d.2.1,a.2.1.length<=3/\∀ t∈a.2.1,-10<=t/\t<5
 bd:d.1.length<=2/\∀ a∈d.1,a.2.1.length<=3/\∀ t∈a.2.1,-10<=t/\t<5
theorem z0fo {l:List z0r} {d:z0c} (h:ziv l d=true):DOk d:=by
 have hs:=zal h
 have row:∀ ats:List z00,(∀ a∈ats,z6l l a=true)->∀ a∈ats,a.2.1.length<=3/\∀ t∈a.2.1,-10<=t/\t<5:=fun ats h a ha=>by
  have:=z3k (h a ha)
  exact⟨this.2.2.2.2.1,fun t ht=>by have:=inR_iff.mp (this.2.2.2.2.2 t ht);omega⟩
 exact⟨z02j h,fun v hv=>z092 hs.2.2.2.2.1 (List.mem_filter.mp hv).1,fun v hv=>z092 hs.2.2.2.2.1 (List.mem_filter.mp hv).1,⟨hs.2.2.2.1,row _ hs.2.2.2.2.1⟩,⟨hs.2.1,row _ hs.2.2.1⟩⟩
def z8m (d:z0c) (b:List Int):List Int:=(frV d).foldl (fun s v=>s++[b.getD v.toNat 0]) []
theorem zt1 {d:z0c} (h:zw8 d) (b:List Int):(z8m d b).length<=6:=by
 have:=z7s (l:=frV d) (g:=fun s v=>s++[b.getD v.toNat 0]) (s:=[]) (μ:=List.length) (c:=1) fun s v _=>by simp
 have:=zrf h
 unfold z8m
 simp at *
 omega
def zj1 (d:z0c) (i:Int) (b:List Int) (v:Int):z0a:=(i,(v,(z8m d b,())))
theorem zx4 {ts:List z0a} {t:z0a} (h:t∈ts):0<=zb4 ts t/\zb4 ts t<ts.length:=by
 have h1:z02 (fun x=>decide (x=t)) ts<ts.length:=firstAt_any.mpr (by rw[ze6];simpa using h)
 unfold zb4
 rw[if_pos h1];omega
theorem z05o {ts:List z0a} {t:z0a} (h:t∉ts):zb4 ts t = -1:=by
 unfold zb4
 rw[if_neg]
 intro h1
 have:=firstAt_any.mp h1
 rw[ze6]at this
 exact h (by simpa using this)
def hdG (d:z0c) (i:Int) (b:List Int) (s:List z0a×List Int) (v:Int):List z0a×List Int:=
 if zj1 d i b v∈s.1 then(s.1,s.2.set v.toNat (-1 - zb4 s.1 (zj1 d i b v)))else(s.1++[zj1 d i b v],s.2.set v.toNat (-1 - (s.1.length:Int)))
def hdS (ts:List z0a) (d:z0c) (i:Int) (b:List Int):List z0a×List Int:=(exV d).foldl (hdG d i b) (ts,b)
def valG (ts:List z0a) (d:z0c) (i:Int) (b:List Int) (vs:List Int) (v:Int):List Int:=vs.set v.toNat (-1 - zb4 ts (zj1 d i b v))
theorem z03n {d:z0c} {i:Int} {b:List Int}:∀ {l:List Int} {s:List z0a×List Int},s.1.length<=(l.foldl (hdG d i b) s).1.length
 |[],s=>Nat.le_refl _
 | v::l,s=>by
   rw[List.foldl_cons]
   refine Nat.le_trans ?_ z03n
   unfold hdG
   split<;>simp
theorem z08s {d:z0c} {i:Int} {b:List Int} {ts:List z0a}:∀ {l:List Int} {vs:List Int},(∀ v∈l,zj1 d i b v∈ts)->l.foldl (hdG d i b) (ts,vs)=(ts,l.foldl (valG ts d i b) vs)
 |[],vs,_=>rfl
 | v::l,vs,h=>by
   rw[List.foldl_cons,List.foldl_cons]
   have:hdG d i b (ts,vs) v=(ts,valG ts d i b vs v):=by unfold hdG valG;rw[if_pos (h v (by simp))]
   rw[this]
   exact z08s fun v hv=>h v (by simp[hv])
theorem z05z {d:z0c} {i:Int} {b:List Int} {ts:List z0a}:∀ {l:List Int} {vs:List Int},(l.foldl (hdG d i b) (ts,vs)).1.length=ts.length->∀ v∈l,zj1 d i b v∈ts
 |[],vs,_=>by simp
 | v::l,vs,h=>by
   rw[List.foldl_cons]at h
   by_cases hv:zj1 d i b v∈ts
   . have:hdG d i b (ts,vs) v=(ts,valG ts d i b vs v):=by unfold hdG valG;rw[if_pos hv]
     rw[this]at h
     intro u hu
     rcases List.mem_cons.mp hu with rfl|hu
     . exact hv
     . exact z05z h u hu
   . have h1:=z03n (d:=d) (i:=i) (b:=b) (l:=l) (s:=hdG d i b (ts,vs) v)
     have h2:(hdG d i b (ts,vs) v).1.length=ts.length+1:=by unfold hdG;rw[if_neg hv];simp
     omega
theorem z02l (d:z0c) (i:Int) (b:List Int) (s:List z0a×List Int) (v:Int):(hdG d i b s v).2.length=s.2.length:=by unfold hdG;split<;>simp
theorem z022 (d:z0c) (i:Int) (b:List Int) (s:List z0a×List Int) (v:Int):(hdG d i b s v).1.length<=s.1.length+1:=by unfold hdG;split<;>simp
def zdu (d:z0c) (vs:List Int):List z00:=d.2.1.foldl (fun out a=>out++[inst a vs]) []
theorem zi6 {α β:Type} (f:α->β):∀(l:List α) (s:List β),l.foldl (fun out a=>out++[f a]) s=s++l.map f
 |[],s=>by simp
 |a::l,s=>by rw[List.foldl_cons,zi6 f l];simp
def z013 (ts:List z0a) (d:z0c) (i:Int) (b:List Int) (f:z00):Bool:=
 (exV d).all (fun v=>decide (zj1 d i b v∈ts))&&d.2.1.any fun a=>decide (inst a ((exV d).foldl (valG ts d i b) b)=f)
theorem zds {l:List z0a} (h:l.length<=1099511627776):z4p l l:=ze0 _ _ (by
 unfold z8k
 refine z1j (fun he=>⟨?_,by simp only[z0w,List.length_nil];omega,by rw[List.nil_append]⟩) (fun _=>⟨by simp only[z0w,List.length_nil];omega,by rw[List.nil_append]⟩)
 have:l=[]:=List.isEmpty_iff.mp he
 rw[this])
theorem zo1 {ts:List z0a} {ds:List z0c} {i:Nat} {b:List Int} (hi:i<ds.length) (hd:DOk ds[i]) (hts:ts.length<=30) (hb:b.length=5) :
  zbf ts ds i b (zdu ds[i] (hdS ts ds[i] i b).2) (hdS ts ds[i] i b).1 b:=zo3 _ _ _ _ _ _ _ (by
 unfold zg2
 obtain⟨hs1,hs2⟩:=hd.sm
 have hfl:=zrf hd.sm
 have hel:=zvf hd.sm
 have hal:=zt1 hd.sm b
 refine inI hi ⟨_,z3q (by omega),_,zj5 (d:=ds.getD (Int.toNat (i:Int)) z9t) (by rw[z20 hi];omega) (by rw[z20 hi];omega),?_⟩
 rw[z20 hi]
 refine z0j fun _=>z21 (frV ds[i]) (fun s v=>s++[b.getD v.toNat 0]) [] (fun j s=>((j:Int),(s,()))) List.length 1 6 hfl (fun s v _=>by simp) ?_ ?_
 . intro j hj s X hs hX
   have hv:=hd.fr _ (List.getElem_mem hj)
   refine bcI hj (inI hj ?_)
   simp only
   rw[z20 hj,z04 (by omega)]
   exact⟨⟨by omega,by omega⟩,by simp only[z0w,List.length_cons,List.length_nil]at *;omega,hX⟩
 . intro X _
   refine bcN ⟨_,zds (by omega),_,zf4 (by omega) (by omega),z0j fun _=>?_⟩
   refine z21 (exV ds[i]) (hdG ds[i] i b) (ts,b) (fun j s=>((j:Int),(s.1,(s.2,())))) (fun s=>s.1.length+(if s.2.length=5 then 0 else 1000000)) 1 6 hel (fun s v _=>by rw[z02l];have:=z022 ds[i] i b s v;omega) ?_ ?_
   . intro j hj s Y hs hY
     have hv:=hd.ex _ (List.getElem_mem hj)
     have h5:s.2.length=5/\s.1.length<=36:=by
      rw[if_pos hb]at hs
      by_cases h:s.2.length=5
      . rw[if_pos h]at hs;simp only at hs;omega
      . rw[if_neg h]at hs;simp only at hs;omega
     refine bcI hj (inI hj ⟨_,z3q (by show(z8m ds[i] b).length<=_;omega),_,zxn,?_⟩)
     simp only
     rw[z20 hj,z04 (by omega)]
     have e:(((i:Int),((exV ds[i])[j],((frV ds[i]).foldl (fun s v=>s++[b.getD v.toNat 0]) [],()))):z0a)=zj1 ds[i] i b (exV ds[i])[j]:=rfl
     rw[e]
     unfold hdG at hY
     by_cases hm:zj1 ds[i] i b (exV ds[i])[j]∈s.1
     . have h6:=zx4 hm
       rw[if_pos hm]at hY
       refine z08 (fun h=>by omega) (fun _=>⟨_,znp h6.1 (by omega),⟨by omega,by omega⟩,hY⟩)
     . rw[z05o hm]
       rw[if_neg hm]at hY
       refine z08 (fun _=>z0j fun _=>⟨by simp only[z0w,List.length_cons,List.length_nil];omega,_,znp (by omega) (by omega),⟨by omega,by omega⟩,hY⟩) (fun h=>by omega)
   . intro Y hs
     have h5:(hdS ts ds[i] i b).2.length=5:=by
      rw[if_pos hb]at hs
      by_cases h:(hdS ts ds[i] i b).2.length=5
      . exact h
      . unfold hdS at h;rw[if_neg h]at hs;simp only at hs;omega
     refine bcN (z0j fun _=>?_)
     refine z21 ds[i].2.1 (fun out a=>out++[inst a (hdS ts ds[i] i b).2]) [] (fun j s=>((j:Int),(s,()))) List.length 1 2 hd.hd.1 (fun s a _=>by simp) ?_ ?_
     . intro j hj s Z hs hZ
       have ha:=hd.hd.2 _ (List.getElem_mem hj)
       refine bcI hj (inI hj ⟨_,_,zjo (a:=(ds[i].2.1).getD (Int.toNat (j:Int)) z0n) (b:=(hdS ts ds[i] i b).2) (by rw[z20 hj];omega) (by omega) (by rw[z20 hj];exact ha.2),?_⟩)
       simp only
       rw[z20 hj,z04 (by omega)]
       exact⟨by simp only[z0w,List.length_cons,List.length_nil]at *;omega,hZ⟩
     . intro Z _
       exact bcN rfl)
def zrb (dp:List Int) (m v:Int):Int:=if z8i v then(if z4r v<(dp.length:Int)then zgx m (dp.getD (z4r v).toNat 0)else m)else m
def z009 (dp:List Int) (t:z0a):List Int:=dp++[w64 (t.2.2.1.foldl (zrb dp) 0+1)]
theorem zpi:∀(l:List z0a) (s:List Int),(l.foldl z009 s).length=s.length+l.length
 |[],s=>by simp
 |t::l,s=>by rw[List.foldl_cons,zpi];simp[z009];omega
theorem znd {s:TSk} {t:z0a} (hl:s.2.1.length<=30):zc2 s t (((s.2.1++[t]).foldl z009 []).getD s.2.1.length 0):=by
 refine z03w _ _ _ ?_
 unfold ztz
 refine z1e (s.2.1.length+1) (fun i=>((i:Int),(((s.2.1++[t]).take i).foldl z009 [],()))) rfl ?_ ?_
 . intro i hi X hX
   have hlen:=zpi ((s.2.1++[t]).take i) []
   have hin:i<(s.2.1++[t]).length:=by simp;omega
   rw[z07 hin,List.foldl_append]at hX
   simp only[List.foldl_cons,List.foldl_nil]at hX
   rw[List.length_take,List.length_nil,Nat.min_eq_left (by omega)]at hlen
   simp only
   generalize ((s.2.1++[t]).take i).foldl z009 []=dp at hX hlen ⊢
   refine z0j fun _=>z08 (fun _=>z0j fun _=>z08 (fun h=>?_) (fun h=>?_)) (fun h=>by omega)
   . have hi':i<s.2.1.length:=by omega
     rw[List.getElem_append_left hi']at hX
     refine inI hi' ?_
     rw[z20 hi',z04 (by omega)]
     refine zar s.2.1[i].2.2.1 (zrb dp) 0 (fun j m=>(m,((j:Int),()))) ?_ ?_
     . intro j hj Y hY
       refine z0j fun _=>bcI hj (inI hj ⟨_,_,z9h,?_⟩)
       simp only
       rw[z20 hj,z04 (by omega)]
       generalize (s.2.1[i].2.2.1.take j).foldl (zrb dp) 0=m at hY ⊢
       unfold zrb at hY
       refine z1j (fun h=>z0j fun _=>z08 (fun h2=>⟨⟨zhb _,h2⟩,?_⟩) (fun h2=>?_)) (fun h=>?_)
       . rw[if_pos h,if_pos h2]at hY;exact hY
       . rw[if_pos h,if_neg h2]at hY;exact hY
       . rw[h]at hY;simpa using hY
     . intro Y
       exact z0j fun _=>bcN ⟨by simp only[z0w,List.length_cons,List.length_nil];omega,hX⟩
   . obtain rfl:i=s.2.1.length:=by omega
     rw[show(s.2.1++[t])[s.2.1.length]=t by simp]at hX
     rw[z04 (by omega)]
     refine zar t.2.2.1 (zrb dp) 0 (fun j m=>(m,((j:Int),()))) ?_ ?_
     . intro j hj Y hY
       refine z0j fun _=>bcI hj (inI hj ⟨_,_,z9h,?_⟩)
       simp only
       rw[z20 hj,z04 (by omega)]
       generalize (t.2.2.1.take j).foldl (zrb dp) 0=m at hY ⊢
       unfold zrb at hY
       refine z1j (fun h=>z0j fun _=>z08 (fun h2=>⟨⟨zhb _,h2⟩,?_⟩) (fun h2=>?_)) (fun h=>?_)
       . rw[if_pos h,if_pos h2]at hY;exact hY
       . rw[if_pos h,if_neg h2]at hY;exact hY
       . rw[h]at hY;simpa using hY
     . intro Y
       exact z0j fun _=>bcN ⟨by simp only[z0w,List.length_cons,List.length_nil];omega,hX⟩
 . intro X
   have hlen:=zpi (s.2.1++[t]) []
   simp only[List.length_append,List.length_cons,List.length_nil]at hlen
   refine z0j fun _=>z08 (fun h=>by simp only at h;omega) (fun _=>z0j fun _=>?_)
   have e:(s.2.1++[t]).take (s.2.1.length+1)=s.2.1++[t]:=List.take_of_length_le (by simp)
   simp only[e,Int.toNat_natCast]
   exact⟨⟨by omega,by omega⟩,trivial⟩
theorem z04g {s:TSk} {t:z0a} (hl:s.2.1.length<=30):∃ y,zc2 s t y:=⟨_,znd hl⟩
theorem z0eg (x y:z0a):(x=y)↔x.1=y.1/\x.2.1=y.2.1/\x.2.2.1=y.2.2.1:=by
 obtain⟨a,b,c,u⟩:=x;obtain⟨a',b',c',u'⟩:=y
 simp
def z0fh (s:TSk) (t:z0a) (K:TSk×Int×Bool×Unit->Prop):Prop:=z0s (s.2.1.length:Int) (z01 ((s.2.1.length:Int) == (30:Int)) (K (s,((0:Int),(false,())))) (∃ y5:Int,zc2 s t y5/\
 z01 (decide (y5 > (8:Int))) (K (s,((0:Int),(false,())))) (True/\True/\([]:List z0a).length+s.2.1.length<=z0w/\(([]:List z0a)++s.2.1).length+([t]:List z0a).length<=z0w/\
  z0s (List.length ((([]:List z0a)++s.2.1)++([t]:List z0a)):Int) (∃ y6:Int,z8y (w64 ((List.length ((([]:List z0a)++s.2.1)++([t]:List z0a)):Int) - (1:Int))) y6/\
   K ((s.1,((([]:List z0a)++s.2.1)++([t]:List z0a),s.2.2)),(y6,(true,())))))))
theorem z91 {s:TSk} {t:z0a} (hl:s.2.1.length<=30) (y1:TSk) (y2:Int) (y3:Bool) (h1:t∈s.2.1->y1=s/\y2 = -1 - zb4 s.2.1 t/\y3=true) (h2:t∉s.2.1->z0fh s t fun r=>r=(y1,(y2,(y3,())))):za7 s t y1 y2 y3:=by
 refine z051 _ _ _ _ _ ?_
 unfold zu7
 refine za2 s.2.1 (fun x=>decide (x=t)) (fun i=>((i:Int),(((([]:List z0r),(([]:List z00),())),(([]:List z0a),())),()))) (KT:=fun i=>((s,(-1 - (i:Int),(true,()))):TSk×Int×Bool×Unit)=(y1,(y2,(y3,())))) (KF:=t∉s.2.1) ?_ ?_ ?_ ?_
 . intro i hi X g1 g2
   refine z0j fun _=>bcI hi (inI hi ?_)
   simp only
   rw[z20 hi,z04 (by omega)]
   have no:¬ s.2.1[i]=t->X (((i+1:Nat):Int),(((([]:List z0r),(([]:List z00),())),(([]:List z0a),())),())):=fun h=>g2 (by simpa using h)
   refine z32 (fun e1=>inI hi (z32 (fun e2=>inI hi ⟨_,zm5,z32 (fun e3=>⟨_,zdb (by omega) (by omega),?_⟩) (fun e3=>no fun h=>e3 (by rw[h];exact cmpL_zero.mpr rfl))⟩) (fun e2=>no fun h=>e2 (by rw[h])))) (fun e1=>no fun h=>e1 (by rw[h]))
   exact g1 (by simpa using (z0eg _ _).mpr ⟨e1,e2,cmpL_zero.mp e3⟩)
 . intro X h
   refine z0j fun _=>bcN ?_
   exact h2 h
 . intro h
   have hm:t∈s.2.1:=by
    have:=firstAt_any.mp h
    rw[ze6]at this
    simpa using this
   obtain⟨rfl,rfl,rfl⟩:=h1 hm
   unfold zb4;rw[if_pos h]
 . intro h hm
   have:=firstAt_any (p:=fun x=>decide (x=t)).mpr (by rw[ze6];simpa using hm)
   omega
theorem z04d {s:TSk} {t:z0a} (hl:s.2.1.length<=30) :
  (t∈s.2.1->za7 s t s (-1 - zb4 s.2.1 t) true)/\(t∉s.2.1->∃ y1 y2 y3,za7 s t y1 y2 y3/\(y3=false\/(y3=true/\y1.2.1.length≠s.2.1.length))):=by
 have main:=z91 (s:=s) (t:=t) hl
 refine⟨fun hm=>main _ _ _ (fun _=>⟨rfl,rfl,rfl⟩) (fun h=>absurd hm h),fun hm=>?_⟩
 by_cases h30:s.2.1.length=30
 . exact⟨s,0,false,main _ _ _ (fun h=>absurd h hm) (fun _=>z0j fun _=>z32 (fun _=>rfl) (fun h=>by omega)),.inl rfl⟩
 . obtain⟨y,hy⟩:=z04g (s:=s) (t:=t) hl
   by_cases h8:y > 8
   . exact⟨s,0,false,main _ _ _ (fun h=>absurd h hm) (fun _=>z0j fun _=>z32 (fun h=>by omega) (fun _=>⟨y,hy,z08 (fun _=>rfl) (fun h=>absurd h8 h)⟩)),.inl rfl⟩
   . refine⟨(s.1,(s.2.1++[t],s.2.2)),-1 - (s.2.1.length:Int),true,main _ _ _ (fun h=>absurd h hm) (fun _=>z0j fun _=>z32 (fun h=>by omega) (fun _=>⟨y,hy,z08 (fun h=>absurd h h8) (fun _=>⟨trivial,trivial,by simp only[z0w,List.length_nil];omega,by simp only[z0w,List.length_append,List.length_cons,List.length_nil];omega,z0j fun _=>⟨-1 - (s.2.1.length:Int),?_,rfl⟩⟩)⟩)),.inr ⟨rfl,by simp⟩⟩
     have e:w64 ((List.length ((([]:List z0a)++s.2.1)++([t]:List z0a)):Int) - (1:Int))=(s.2.1.length:Int):=by
      rw[z2s]<;>simp<;>omega
     rw[e]
     exact zdb (by omega) (by omega)
theorem zkk {σ τ:Type} {B:(τ->Prop)->τ->Prop} (n:Nat) (g:σ->Nat->σ) (s0:σ) (e:Nat->σ->τ) (μ:σ->Nat) (c N:Nat) (hN:n<=N) (hg:∀ s i,i<n->μ (g s i)<=μ s+c)
  (hs:∀ i (_:i<n) (s:σ) (X:τ->Prop),μ s<=μ s0+N * c->X (e (i+1) (g s i))->B X (e i s))
  (hf:∀ X:τ->Prop,μ ((List.range n).foldl g s0)<=μ s0+N * c->B X (e n ((List.range n).foldl g s0))):z0g B (e 0 s0):=
 z21 (List.range n) g s0 e μ c N (by simpa using hN) (fun s a ha=>hg s a (List.mem_range.mp ha)) (fun i h s X hs' hX=>hs i (by simpa using h) s X hs' (by simpa using hX)) (fun X h=>by simpa using hf X h)
def mkS (ts:List z0a) (d:z0c) (i:Int) (b:List Int) (vs:List Int) (v:Int):Unit ⊕ List Int:=if zj1 d i b v∈ts then .inr (valG ts d i b vs v)else .inl ()
theorem z01k {ts:List z0a} {d:z0c} {i:Int} {b:List Int}:∀ {l vs vs':List Int},zbs (mkS ts d i b) l vs = .inr vs'->(∀ v∈l,zj1 d i b v∈ts)/\vs'=l.foldl (valG ts d i b) vs
 |[],vs,vs',h=>by simp only[zbs,Sum.inr.injEq]at h;exact⟨by simp,h.symm⟩
 | v::l,vs,vs',h=>by
   simp only[zbs]at h
   unfold mkS at h
   by_cases hv:zj1 d i b v∈ts
   . rw[if_pos hv]at h
     obtain⟨h1,h2⟩:=z01k (ts:=ts) (d:=d) (i:=i) (b:=b) h
     exact⟨fun u hu=>(List.mem_cons.mp hu).elim (fun e=>e ▸ hv) (h1 u),by rw[List.foldl_cons];exact h2⟩
   . rw[if_neg hv]at h;simp at h
theorem z05r {ts:List z0a} {d:z0c} {i:Int} {b:List Int} {r:Unit}:∀ {l vs:List Int},zbs (mkS ts d i b) l vs = .inl r->∃ v∈l,zj1 d i b v∉ts
 |[],vs,h=>by simp[zbs]at h
 | v::l,vs,h=>by
   by_cases hv:zj1 d i b v∈ts
   . simp only[zbs]at h
     unfold mkS at h
     rw[if_pos hv]at h
     obtain⟨u,hu,h1⟩:=z05r (ts:=ts) (d:=d) (i:=i) (b:=b) h
     exact⟨u,by simp[hu],h1⟩
   . exact⟨v,by simp,hv⟩
theorem zvt {ts:List z0a} {d:z0c} {i:Int} {b:List Int}:∀ {l vs:List Int},(l.foldl (valG ts d i b) vs).length=vs.length
 |[],vs=>rfl
 |v::l,vs=>by rw[List.foldl_cons,zvt];simp[valG]
theorem z0bu {α:Type} {p:α->Bool} {l:List α} {x:α} (hx:x∈l) (h:p x=false):l.all p=false:=by
 rw[Bool.eq_false_iff];intro h'
 rw[List.all_eq_true.mp h' x hx]at h;cases h
theorem z09f {ts:List z0a} {d:z0c} {i:Int} {b:List Int} {f:z00}:z013 ts d i b f=(decide ((hdS ts d i b).1.length=ts.length)&&decide (f∈zdu d (hdS ts d i b).2)):=by
 unfold z013
 by_cases h:∀ v∈exV d,zj1 d i b v∈ts
 . have e:hdS ts d i b=(ts,(exV d).foldl (valG ts d i b) b):=z08s h
   have e2:(exV d).all (fun v=>decide (zj1 d i b v∈ts))=true:=List.all_eq_true.mpr fun v hv=>by simpa using h v hv
   rw[e,e2]
   simp only[decide_true,Bool.true_and]
   unfold zdu
   rw[zi6,List.nil_append,<-ze6,List.any_map]
   rfl
 . have h1:¬ (hdS ts d i b).1.length=ts.length:=fun e=>h (z05z e)
   rw[decide_eq_false h1,Bool.false_and]
   have:∃ v∈exV d,zj1 d i b v∉ts:=Classical.byContradiction fun hn=>h fun v hv=>Classical.byContradiction fun hv'=>hn ⟨v,hv,hv'⟩
   obtain⟨v,hv,hv'⟩:=this
   rw[z0bu hv (decide_eq_false hv'),Bool.false_and]
theorem z018 {s:TSk} {ds:List z0c} {i:Nat} {b:List Int} {f:z00} (hi:i<ds.length) (hd:DOk ds[i]) (hts:s.2.1.length<=30) (hb:b.length=5) :
  zkj s ds i b f (z013 s.2.1 ds[i] i b f):=z00m _ _ _ _ _ _ (by
 unfold zrj
 obtain⟨hs1,hs2⟩:=hd.sm
 have hfl:=zrf hd.sm
 have hel:=zvf hd.sm
 have hal:=zt1 hd.sm b
 refine inI hi ⟨_,z82 (d:=ds.getD (Int.toNat (i:Int)) z9t) (by rw[z20 hi];omega) (by rw[z20 hi];omega),?_⟩
 rw[z20 hi]
 refine z21 (frV ds[i]) (fun s v=>s++[b.getD v.toNat 0]) [] (fun j s=>((j:Int),(s,()))) List.length 1 6 hfl (fun s v _=>by simp) ?_ ?_
 . intro j hj s X hs hX
   have hv:=hd.fr _ (List.getElem_mem hj)
   refine z0j fun _=>bcI hj (inI hj ?_)
   simp only
   rw[z20 hj,z04 (by omega)]
   exact⟨⟨by omega,by omega⟩,by simp only[z0w,List.length_cons,List.length_nil]at *;omega,hX⟩
 . intro X _
   refine z0j fun _=>bcN ⟨by simp only[z0w,List.length_nil];omega,inI hi ⟨_,z5m (by omega) (by omega),?_⟩⟩
   rw[List.nil_append]
   refine zig (exV ds[i]) (mkS s.2.1 ds[i] i b) b (fun j vs=>((j:Int),(z8m ds[i] b,(vs,())))) (KR:=fun _=>((false,()):Bool×Unit)=(z013 s.2.1 ds[i] i b f,())) ?_ ?_ ?_
   . intro j hj vs Y hr h1 h2
     obtain⟨_,rfl⟩:=z01k hr
     have hvl:=zvt (ts:=s.2.1) (d:=ds[i]) (i:=i) (b:=b) (l:=(exV ds[i]).take j) (vs:=b)
     generalize ((exV ds[i]).take j).foldl (valG s.2.1 ds[i] i b) b=vs at h1 h2 hvl ⊢
     have hv:=hd.ex _ (List.getElem_mem hj)
     refine z0j fun _=>bcI hj (inI hj ⟨trivial,?_⟩)
     simp only
     rw[z20 hj,z04 (by omega)]
     have e:(((i:Int),((exV ds[i])[j],(z8m ds[i] b,()))):z0a)=zj1 ds[i] i b (exV ds[i])[j]:=rfl
     rw[e]
     unfold mkS at h1 h2
     have ht:=z04d (s:=s) (t:=zj1 ds[i] i b (exV ds[i])[j]) hts
     by_cases hm:zj1 ds[i] i b (exV ds[i])[j]∈s.2.1
     . refine⟨_,_,_,ht.1 hm,bcF (z0j fun _=>z0j fun _=>zeo (fun h=>absurd rfl h) (fun _=>inI hj ⟨⟨by omega,by omega⟩,h2 _ (by rw[if_pos hm];rfl)⟩))⟩
     . obtain⟨y1,y2,y3,hg,h3⟩:=ht.2 hm
       have hno:=h1 () (by rw[if_neg hm])
       rcases h3 with rfl|⟨rfl,h3⟩
       . exact⟨y1,y2,false,hg,bcT hno⟩
       . exact⟨y1,y2,true,hg,bcF (z0j fun _=>z0j fun _=>zeo (fun _=>hno) (fun h=>by omega))⟩
   . intro vs Y hr
     obtain⟨hall,rfl⟩:=z01k hr
     have hvl:=zvt (ts:=s.2.1) (d:=ds[i]) (i:=i) (b:=b) (l:=exV ds[i]) (vs:=b)
     have e2:(exV ds[i]).all (fun v=>decide (zj1 ds[i] i b v∈s.2.1))=true:=List.all_eq_true.mpr fun v hv=>by simpa using hall v hv
     unfold z013
     rw[e2,Bool.true_and]
     generalize (exV ds[i]).foldl (valG s.2.1 ds[i] i b) b=vs at hvl ⊢
     refine z0j fun _=>bcN ?_
     refine z8t ds[i].2.1 (fun a=>decide (inst a vs=f)) (fun j=>((j:Int),())) (KT:=((true,()):Bool×Unit)=(ds[i].2.1.any (fun a=>decide (inst a vs=f)),())) (KF:=((false,()):Bool×Unit)=(ds[i].2.1.any (fun a=>decide (inst a vs=f)),())) ?_ ?_ (fun h=>by rw[h]) (fun h=>by rw[h])
     . intro j hj Z h1 h2
       have ha:=hd.hd.2 _ (List.getElem_mem hj)
       refine inI hi (z0j fun _=>bcI hj (inI hi (inI hj ⟨_,_,zdz (a:=(ds[i].2.1).getD (Int.toNat (j:Int)) z0n) (b:=vs) (by rw[z20 hj];omega) (by omega) (by rw[z20 hj];exact ha.2),_,z5c,?_⟩)))
       simp only
       rw[z20 hj,z04 (by omega),zr5]
       exact z1j h1 h2
     . intro Z h
       exact inI hi (z0j fun _=>bcN h)
   . intro r hr
     obtain⟨v,hv,hm⟩:=z05r hr
     unfold z013
     rw[z0bu hv (decide_eq_false hm),Bool.false_and])
def derH (s:TSk) (d:z0c) (i:Nat) (f:z00) (out:List z00) (b:List Int):List z00:=if z013 s.2.1 d i b f then out++[((i:Int),(b,()))] else out
def derG (s:TSk) (ds:List z0c) (f:z00) (out:List z00) (i:Nat):List z00:=(zau s.1 (ds.getD i z9t).1).foldl (derH s (ds.getD i z9t) i f) out
def z63 (s:TSk) (ds:List z0c) (f:z00):List z00:=if vSk s&&(z4f s.1.1 ds&&decide (f∈s.1.2.1))then(List.range ds.length).foldl (derG s ds f) [] else[]
theorem zw5 (s:TSk) (d:z0c) (i:Nat) (f:z00) (out:List z00) (b:List Int):(derH s d i f out b).length<=out.length+1:=by unfold derH;split<;>simp
theorem zv4 (s:TSk) (ds:List z0c) (f:z00) (out:List z00) (i:Nat):(derG s ds f out i).length<=out.length+27000:=by
 have:=z7s (l:=zau s.1 (ds.getD i z9t).1) (g:=derH s (ds.getD i z9t) i f) (s:=out) (μ:=List.length) (c:=1) fun o b _=>zw5 s _ i f o b
 have:=zl4 (x:=s.1) (l:=(ds.getD i z9t).1)
 unfold derG
 omega
theorem zhc {l:List z0r} {ds:List z0c} (h:z4f l ds=true):ds.length<=5/\∀ d∈ds,DOk d:=by
 unfold z4f at h
 simp only[Bool.and_eq_true]at h
 exact⟨zkt h.1,fun d hd=>z0fo (zr8 h.1 hd)⟩
theorem zum (s:TSk) (ds:List z0c) (f:z00):(z63 s ds f).length<=135000:=by
 unfold z63
 split
 . rename_i h
   simp only[Bool.and_eq_true]at h
   have:=z7s (l:=List.range ds.length) (g:=derG s ds f) (s:=[]) (μ:=List.length) (c:=27000) fun o i _=>zv4 s ds f o i
   have h5:=(zhc h.2.1).1
   rw[List.length_range,List.length_nil]at this
   have:=Nat.mul_le_mul_right 27000 h5
   omega
 . exact Nat.zero_le _
theorem zu5 {s:TSk} {ds:List z0c} {f t:z00} (h:t∈z63 s ds f):∃ i:Nat,i<ds.length/\∃ b:List Int,b.length=5/\t=((i:Int),(b,())):=by
 unfold z63 at h
 split at h
 . have z0m:∀(i:Nat),i<ds.length->∀(l:List (List Int)) (out:List z00),(∀ b∈l,b.length=5)->(∀ t∈out,∃ i:Nat,i<ds.length/\∃ b:List Int,b.length=5/\t=((i:Int),(b,())))->
     ∀ t∈l.foldl (derH s (ds.getD i z9t) i f) out,∃ i:Nat,i<ds.length/\∃ b:List Int,b.length=5/\t=((i:Int),(b,())):=by
    intro i hi l
    induction l with
    |nil=>intro out _ ho;exact ho
    | cons b l ih=>
      intro out hl ho
      rw[List.foldl_cons]
      refine ih _ (fun c hc=>hl c (by simp[hc])) fun t ht=>?_
      unfold derH at ht
      split at ht
      . rcases List.mem_append.mp ht with ht|ht
        . exact ho t ht
        . simp only[List.mem_singleton]at ht;exact⟨i,hi,b,hl b (by simp),ht⟩
      . exact ho t ht
   have outer:∀(l:List Nat) (out:List z00),(∀ i∈l,i<ds.length)->(∀ t∈out,∃ i:Nat,i<ds.length/\∃ b:List Int,b.length=5/\t=((i:Int),(b,())))->
     ∀ t∈l.foldl (derG s ds f) out,∃ i:Nat,i<ds.length/\∃ b:List Int,b.length=5/\t=((i:Int),(b,())):=by
    intro l
    induction l with
    |nil=>intro out _ ho;exact ho
    | cons i l ih=>
      intro out hl ho
      rw[List.foldl_cons]
      exact ih _ (fun c hc=>hl c (by simp[hc])) (z0m i (hl i (by simp)) _ _ (fun b hb=>zi1 hb) ho)
   exact outer _ [] (fun i hi=>List.mem_range.mp hi) (by simp) t h
 . simp at h
theorem z6g {s:TSk} (h:vSk s=true):z35 s.1=true/\s.2.1.length<=30:=⟨(z6w h).1,zfg (z6w h).2.2⟩
theorem ztk {s:TSk} {ds:List z0c} {f:z00} (h:(vSk s&&(z4f s.1.1 ds&&decide (f∈s.1.2.1)))=false):(([]:List z00),())=(z63 s ds f,()):=by unfold z63;rw[h];rfl
theorem zs8 {s:TSk} {ds:List z0c} {f:z00}:zdt s ds f (z63 s ds f):=zsz _ _ _ _ (by
 unfold zjp
 refine⟨_,zb2,z0y (fun h=>ztk (by rw[h];rfl)) (fun h1=>⟨_,zqd,z0y (fun h=>ztk (by rw[h];simp)) (fun h2=>⟨_,zms,z0y (fun h=>ztk (by rw[h];simp)) (fun h3=>?_)⟩)⟩)⟩
 obtain⟨hds,hdo⟩:=zhc h2
 obtain⟨hv,hts⟩:=z6g h1
 have e:z63 s ds f=(List.range ds.length).foldl (derG s ds f) []:=by unfold z63;rw[h1,h2,h3];rfl
 rw[e]
 refine z0j fun _=>zkk ds.length (derG s ds f) [] (fun i o=>((i:Int),(o,()))) List.length 27000 5 hds (fun o i _=>zv4 s ds f o i) ?_ ?_
 . intro i hi o X ho hX
   unfold derG at hX
   rw[z29 hi]at hX
   have hd:=hdo _ (List.getElem_mem hi)
   refine bcI hi (inI hi ⟨_,zsa,?_⟩)
   simp only
   rw[z20 hi,z04 (by omega)]
   refine z0j fun _=>?_
   rw[show List.map (fun y=>(true,y)) (zau s.1 ds[i].1)=mkd (zau s.1 ds[i].1) 0 from rfl]
   refine z21 (zau s.1 ds[i].1) (derH s ds[i] i f) o (fun j o=>((j:Int),(o,(mkd (zau s.1 ds[i].1) j,())))) List.length 1 27000 zl4 (fun o b _=>zw5 s _ i f o b) ?_ ?_
   . intro j hj o' Y ho' hY
     have hb:=zi1 (List.getElem_mem hj)
     simp only[List.length_nil]at ho
     refine bcI hj (inI (by rw[z079];exact hj) ?_)
     simp only[Int.toNat_natCast]
     rw[z06e hj]
     refine⟨rfl,_,_,_,zo1 hi hd hts hb,z0j fun _=>z0j fun _=>?_⟩
     simp only
     rw[z07r hj,z04 (by omega)]
     unfold derH at hY
     rw[z09f]at hY
     refine z32 (fun h=>⟨_,zms,z1j (fun h4=>⟨by simp only[z0w,List.length_cons,List.length_nil];omega,?_⟩) (fun h4=>?_)⟩) (fun h=>?_)
     . rw[decide_eq_true (show(hdS s.2.1 ds[i] i (zau s.1 ds[i].1)[j]).1.length=s.2.1.length by omega),h4]at hY;exact hY
     . rw[h4,Bool.and_false]at hY;exact hY
     . rw[decide_eq_false (show ¬ (hdS s.2.1 ds[i] i (zau s.1 ds[i].1)[j]).1.length=s.2.1.length by omega)]at hY;exact hY
   . intro Y _
     exact bcN hX
 . intro X _
   exact bcN rfl)
theorem zjd {s:TSk} {ds:List z0c} {f:z00}:zad s ds f (z63 s ds f):=zss _ _ _ _ (by
 unfold zj8
 refine⟨_,z6t,z0y (fun h=>ztk (by rw[h];rfl)) (fun h1=>⟨_,zke,z0y (fun h=>ztk (by rw[h];simp)) (fun h2=>⟨_,z6r,?_⟩)⟩)⟩
 obtain⟨hds,hdo⟩:=zhc h2
 obtain⟨hv,hts⟩:=z6g h1
 rw[hv,Bool.true_and]
 refine z0y (fun h=>ztk (by rw[h];simp)) (fun h3=>?_)
 have e:z63 s ds f=(List.range ds.length).foldl (derG s ds f) []:=by unfold z63;rw[h1,h2,h3];rfl
 rw[e]
 refine zkk ds.length (derG s ds f) [] (fun i o=>((i:Int),(o,()))) List.length 27000 5 hds (fun o i _=>zv4 s ds f o i) ?_ ?_
 . intro i hi o X ho hX
   unfold derG at hX
   rw[z29 hi]at hX
   have hd:=hdo _ (List.getElem_mem hi)
   refine z0j fun _=>bcI hi (inI hi ⟨_,zjc,?_⟩)
   simp only
   rw[z20 hi,z04 (by omega)]
   refine z21 (zau s.1 ds[i].1) (derH s ds[i] i f) o (fun j o=>((j:Int),(o,()))) List.length 1 27000 zl4 (fun o b _=>zw5 s _ i f o b) ?_ ?_
   . intro j hj o' Y ho' hY
     have hb:=zi1 (List.getElem_mem hj)
     simp only[List.length_nil]at ho
     refine z0j fun _=>bcI hj (inI hj ?_)
     simp only
     rw[z20 hj,z04 (by omega)]
     refine⟨_,z018 hi hd hts hb,?_⟩
     unfold derH at hY
     refine z1j (fun h4=>inI hj ⟨by simp only[z0w,List.length_cons,List.length_nil];omega,?_⟩) (fun h4=>?_)
     . rw[h4]at hY;exact hY
     . rw[h4]at hY;exact hY
   . intro Y _
     exact z0j fun _=>bcN hX
 . intro X _
   exact z0j fun _=>bcN rfl)
def zog (fs:List z00) (lev:List Int) (d:z0c) (b:List Int):Bool:=d.1.all fun a=>decide (inst a b∈fs)&&decide (0<=lev.getD (place fs (inst a b)).toNat 0)
def knS (s:TSk) (ds:List z0c) (lev:List Int) (t:z00):Bool:=zog s.1.2.1 lev (ds.getD t.1.toNat z9t) t.2.1
def knF (s:TSk) (ds:List z0c) (lev:List Int) (i:Nat):Bool:=(z63 s ds (s.1.2.1.getD i z0n)).any (knS s ds lev)
def zgi (s:TSk) (ds:List z0c) (lev:List Int) (i:Nat):Bool:=decide (lev.getD i 0<0)&&knF s ds lev i
def zco (s:TSk) (ds:List z0c) (n:Int) (lev:List Int):List Int:=(List.range lev.length).map fun i=>if zgi s ds lev i then n else lev.getD i 0
def srcI (s:TSk) (i:Nat):Bool:=z9o s.1.1 (s.1.2.1.getD i z0n).1
def ztv (s:TSk):List Int:=(List.range s.1.2.1.length).map fun i=>if srcI s i then 0 else -1
def zif (s:TSk) (ds:List z0c):Nat->List Int
 |0=>ztv s
 |k+1=>zco s ds ((k+1:Nat):Int) (zif s ds k)
def levs (s:TSk) (ds:List z0c):List Int:=zif s ds s.1.2.1.length
theorem zac (s:TSk) (ds:List z0c) (n:Int) (lev:List Int):(zco s ds n lev).length=lev.length:=by simp[zco]
theorem zae (s:TSk) (ds:List z0c):∀ k,(zif s ds k).length=s.1.2.1.length
 |0=>by simp[zif,ztv]
 |k+1=>by rw[zif,zac,zae]
theorem za1 {s:TSk} {ds:List z0c} {n:Int} {lev:List Int} {i:Nat} (hi:i<lev.length):(zco s ds n lev).getD i 0=if zgi s ds lev i then n else lev.getD i 0:=by
 have h:i<(zco s ds n lev).length:=by rw[zac];exact hi
 rw[z29 h]
 simp[zco]
theorem zp3 {s:TSk} {i:Nat} (hi:i<s.1.2.1.length):(ztv s).getD i 0=if srcI s i then 0 else -1:=by
 have h:i<(ztv s).length:=by simp[ztv,hi]
 rw[z29 h]
 simp[ztv]
theorem zv3 {s:TSk} {ds:List z0c}:∀(k:Nat) {i:Nat},i<s.1.2.1.length->-1<=(zif s ds k).getD i 0
 |0,i,hi=>by rw[zif,zp3 hi];split<;>omega
 | k+1,i,hi=>by
   rw[zif,za1 (by rw[zae];exact hi)]
   split
   . omega
   . exact zv3 k hi
theorem z033 {s:TSk} {ds:List z0c}:∀(k:Nat) {i:Nat},i<s.1.2.1.length->(zif s ds k).getD i 0<0->srcI s i=false
 | 0,i,hi,h=>by
   rw[zif,zp3 hi]at h
   split at h
   . omega
   . rename_i hs;simpa using hs
 | k+1,i,hi,h=>by
   rw[zif,za1 (by rw[zae];exact hi)]at h
   split at h
   . omega
   . exact z033 k hi h
def z07e (s:TSk) (ds:List z0c) (lev:List Int):Prop:=∀ i,i<lev.length->zgi s ds lev i=false
theorem z00d {s:TSk} {ds:List z0c} {lev:List Int} (h:z07e s ds lev) (n:Int):zco s ds n lev=lev:=by
 refine z03g (d:=0) (zac _ _ _ _) fun i hi=>?_
 rw[zac]at hi
 rw[za1 hi,h i hi];rfl
theorem zmr {s:TSk} {ds:List z0c} {k:Nat} (h:z07e s ds (zif s ds k)):∀ m,zif s ds (k+m)=zif s ds k
 |0=>rfl
 | m+1=>by
   rw[<-Nat.add_assoc,zif,zmr h m]
   exact z00d h _
def negs (l:List Int):Nat:=(List.range l.length).countP fun i=>decide (l.getD i 0<0)
theorem z0dw {s:TSk} {ds:List z0c} {n:Int} (hn:0<=n) {lev:List Int} {i:Nat} (hi:i<lev.length) (h:zgi s ds lev i=true):negs (zco s ds n lev)<negs lev:=by
 unfold negs
 rw[zac]
 refine z01z (fun j hj hp=>?_) ⟨i,by simpa using hi,?_,?_⟩
 . rw[za1 (by simpa using hj)]at hp
   split at hp
   . simp at hp;omega
   . exact hp
 . unfold zgi at h
   rw[Bool.and_eq_true]at h
   exact h.1
 . rw[za1 hi,if_pos h]
   simp;exact hn
theorem z06t (l:List Int):negs l<=l.length:=by
 have:=List.countP_le_length (p:=fun i=>decide (l.getD i 0<0)) (l:=List.range l.length)
 simpa [negs]using this
theorem row3 {ats:List z00} {b:List Int} (h:∀ a∈ats,a.2.1.length<=3/\∀ t∈a.2.1,-10<=t/\t<5) {a:z00} (ha:a∈ats):a.2.1.length<=1000/\∀ t∈a.2.1,-10<=t/\t<5:=⟨by have:=(h a ha).1;omega,(h a ha).2⟩
theorem zys {fs:List z00} {lev:List Int} {ds:List z0c} {i:Nat} {b:List Int} (hf:fs.length<=30) (ha:asc fs) (hl:lev.length=fs.length) (hm:∀ j,j<fs.length->-1<=lev.getD j 0) (hi:i<ds.length) (hd:DOk ds[i]) (hb:b.length=5) :
  zgo fs lev ds ((i:Int),(b,())) (zog fs lev ds[i] b):=zyo _ _ _ _ _ (by
 unfold znk
 refine inI hi ?_
 simp only
 rw[z20 hi]
 refine z0j fun _=>z8t ds[i].1 (fun a=>!(decide (inst a b∈fs)&&decide (0<=lev.getD (place fs (inst a b)).toNat 0))) (fun j=>((j:Int),())) (KT:=((false,()):Bool×Unit)=(zog fs lev ds[i] b,())) (KF:=((true,()):Bool×Unit)=(zog fs lev ds[i] b,())) ?_ ?_ ?_ ?_
 . intro j hj X h1 h2
   obtain⟨p,hp,hp2⟩:=z06i (f:=inst ds[i].1[j] b) hf ha
   refine bcI hj (inI hj ⟨_,_,zjo (a:=(ds[i].1).getD (Int.toNat (j:Int)) z0n) (b:=b) ?_ (by omega) ?_,?_⟩)
   . rw[z20 hj];exact(row3 (b:=b) hd.bd.2 (List.getElem_mem hj)).1
   . rw[z20 hj];exact(row3 (b:=b) hd.bd.2 (List.getElem_mem hj)).2
   . simp only
     rw[z20 hj,z04 (by omega)]
     refine⟨p,_,hp,z0dj (fun h=>h1 (by simp[h])) (fun h=>?_)⟩
     obtain⟨e,hpl⟩:=hp2 h
     rw[e,Int.toNat_natCast]at h1 h2
     have:=hm p hpl
     refine⟨⟨by omega,by omega⟩,?_⟩
     rw[Int.toNat_natCast]
     refine z32 (fun h3=>h1 (by rw[decide_eq_true h,Bool.true_and,decide_eq_false (by omega)];rfl)) (fun h3=>h2 (by rw[decide_eq_true h,Bool.true_and,decide_eq_true (by omega)];rfl))
 . intro X h;exact bcN h
 . intro h;rw[z49]at h;unfold zog;rw[nt h]
 . intro h;rw[z49]at h;unfold zog;rw[nf h])
theorem z01b {s:TSk} {lev:List Int} {ds:List z0c} {i:Nat} {b:List Int} (hl:lev.length=s.1.2.1.length) (hi:i<ds.length) (hd:DOk ds[i]) (hb:b.length=5) :
  zkb s ds ((i:Int),(b,())) lev (zog s.1.2.1 lev ds[i] b):=z006 _ _ _ _ _ (by
 unfold zrp
 refine z8t ds[i].1 (fun a=>!(decide (inst a b∈s.1.2.1)&&decide (0<=lev.getD (place s.1.2.1 (inst a b)).toNat 0))) (fun j=>((j:Int),())) (KT:=((false,()):Bool×Unit)=(zog s.1.2.1 lev ds[i] b,())) (KF:=((true,()):Bool×Unit)=(zog s.1.2.1 lev ds[i] b,())) ?_ ?_ ?_ ?_
 . intro j hj X h1 h2
   have hbd:=hd.bd.1
   refine inI hi (z0j fun _=>?_)
   simp only
   rw[z20 hi]
   refine bcI hj ⟨trivial,inI hi (inI hj ⟨_,_,zdz (a:=(ds[i].1).getD (Int.toNat (j:Int)) z0n) (b:=b) ?_ (by omega) ?_,?_⟩)⟩
   . rw[z20 hj];exact(row3 (b:=b) hd.bd.2 (List.getElem_mem hj)).1
   . rw[z20 hj];exact(row3 (b:=b) hd.bd.2 (List.getElem_mem hj)).2
   . rw[z20 hj,z04 (by omega)]
     refine⟨_,zf2,?_⟩
     by_cases h:inst ds[i].1[j] b∈s.1.2.1
     . obtain⟨p,e,hp,_⟩:=zie h
       show z01 (decide (place s.1.2.1 (inst ds[i].1[j] b)<0)) _ _
       rw[e]at h1 h2 ⊢
       refine z08 (fun h=>by omega) (fun _=>⟨⟨by omega,by omega⟩,?_⟩)
       rw[Int.toNat_natCast]at h1 h2 ⊢
       exact z08 (fun h3=>h1 (by rw[decide_eq_true h,Bool.true_and,decide_eq_false (by omega)];rfl)) (fun h3=>h2 (by rw[decide_eq_true h,Bool.true_and,decide_eq_true (by omega)];rfl))
     . show z01 (decide (place s.1.2.1 (inst ds[i].1[j] b)<0)) _ _
       rw[zz0 h]
       exact z08 (fun _=>h1 (by simp[h])) (fun h=>by omega)
 . intro X h
   refine inI hi (z0j fun _=>?_)
   simp only
   rw[z20 hi]
   exact bcN h
 . intro h;rw[z49]at h;unfold zog;rw[nt h]
 . intro h;rw[z49]at h;unfold zog;rw[nf h])
def zy0 (s:TSk) (ds:List z0c) (lev:List Int) (i:Nat) (o:List Int) (t:z00):List Int:=if knS s ds lev t then o++[(i:Int)] else o
def zpt (s:TSk) (ds:List z0c) (lev:List Int) (o:List Int) (i:Nat):List Int:=if lev.getD i 0<0 then(z63 s ds (s.1.2.1.getD i z0n)).foldl (zy0 s ds lev i) o else o
theorem zxc (s:TSk) (ds:List z0c) (lev:List Int) (i:Nat) (o:List Int) (t:z00):(zy0 s ds lev i o t).length<=o.length+1:=by unfold zy0;split<;>simp
theorem z06z (s:TSk) (ds:List z0c) (lev:List Int) (o:List Int) (i:Nat):(zpt s ds lev o i).length<=o.length+135000:=by
 unfold zpt
 split
 . have:=z7s (l:=z63 s ds (s.1.2.1.getD i z0n)) (g:=zy0 s ds lev i) (s:=o) (μ:=List.length) (c:=1) fun o t _=>zxc s ds lev i o t
   have:=zum s ds (s.1.2.1.getD i z0n)
   omega
 . omega
theorem zzf {s:TSk} {ds:List z0c} {lev:List Int} {i:Nat} {x:Int}:∀ {l:List z00} {o:List Int},x∈l.foldl (zy0 s ds lev i) o↔x∈o\/(x=(i:Int)/\l.any (knS s ds lev)=true)
 |[],o=>by simp
 | t::l,o=>by
   rw[List.foldl_cons,zzf,List.any_cons]
   unfold zy0
   cases h:knS s ds lev t with
   | true=>
     rw[if_pos rfl,List.mem_append,List.mem_singleton,Bool.true_or]
     constructor
     . rintro ((h|h)|⟨h,_⟩)
       . exact .inl h
       . exact .inr ⟨h,rfl⟩
       . exact .inr ⟨h,rfl⟩
     . rintro (h|⟨h,_⟩)
       . exact .inl (.inl h)
       . exact .inl (.inr h)
   |false=>simp
theorem zht {s:TSk} {ds:List z0c} {lev:List Int} {x:Int}:∀ {l:List Nat} {o:List Int},x∈l.foldl (zpt s ds lev) o↔x∈o\/∃ i∈l,x=(i:Int)/\zgi s ds lev i=true
 |[],o=>by simp
 | i::l,o=>by
   rw[List.foldl_cons,zht]
   have:x∈zpt s ds lev o i↔x∈o\/(x=(i:Int)/\zgi s ds lev i=true):=by
    unfold zpt zgi
    by_cases h:lev.getD i 0<0
    . rw[if_pos h,zzf,decide_eq_true h,Bool.true_and];rfl
    . rw[if_neg h,decide_eq_false h,Bool.false_and];simp
   rw[this]
   constructor
   . rintro ((h|h)|⟨j,h1,h2⟩)
     . exact .inl h
     . exact .inr ⟨i,by simp,h⟩
     . exact .inr ⟨j,by simp[h1],h2⟩
   . rintro (h|⟨j,h1,h2⟩)
     . exact .inl (.inl h)
     . rcases List.mem_cons.mp h1 with rfl|h1
       . exact .inl (.inr h2)
       . exact .inr ⟨j,h1,h2⟩
theorem zor {n:Int}:∀ {l lev:List Int},(l.foldl (fun v (k:Int)=>v.set k.toNat n) lev).length=lev.length
 |[],lev=>rfl
 |k::l,lev=>by rw[List.foldl_cons,zor,List.length_set]
theorem z02e {n:Int} {j:Nat}:∀ {l lev:List Int},(∀ k∈l,0<=k/\k<lev.length)->(l.foldl (fun v (k:Int)=>v.set k.toNat n) lev).getD j 0=if (j:Int)∈l then n else lev.getD j 0
 |[],lev,_=>by simp
 | k::l,lev,h=>by
   have hk:=h k (by simp)
   rw[List.foldl_cons,z02e (fun u hu=>by rw[List.length_set];exact h u (by simp[hu])),z02x (by omega)]
   by_cases h1:(j:Int)∈l
   . rw[if_pos h1,if_pos (List.mem_cons_of_mem _ h1)]
   . by_cases h2:j=k.toNat
     . have hjk:(j:Int)=k:=by omega
       rw[if_neg h1,if_pos h2,if_pos (by rw[hjk];exact List.mem_cons_self ..)]
     . rw[if_neg h1,if_neg h2,if_neg]
       intro h3
       rcases List.mem_cons.mp h3 with h3|h3
       . omega
       . exact h1 h3
theorem z047 {s:TSk} {ds:List z0c} {lev:List Int} {n:Int}:((List.range lev.length).foldl (zpt s ds lev) []).foldl (fun v (k:Int)=>v.set k.toNat n) lev=zco s ds n lev:=by
 have hm:∀ k∈(List.range lev.length).foldl (zpt s ds lev) [],0<=k/\k<lev.length:=by
  intro k hk
  rw[zht]at hk
  rcases hk with hk|⟨i,hi,rfl,_⟩
  . simp at hk
  . have:=List.mem_range.mp hi;omega
 refine z03g (d:=0) (by rw[zor,zac]) fun j hj=>?_
 rw[zor]at hj
 rw[z02e hm,za1 hj]
 by_cases h:zgi s ds lev j=true
 . rw[if_pos h,if_pos (by rw[zht];exact .inr ⟨j,by simpa using hj,rfl,h⟩)]
 . rw[if_neg h,if_neg]
   rw[zht]
   rintro (h'|⟨i,hi,he,hc⟩)
   . simp at h'
   . obtain rfl:j=i:=by omega
     exact h hc
theorem zz3 {s:TSk} {ds:List z0c} (h1:vSk s=true) (h2:z4f s.1.1 ds=true):zh5 s ds (levs s ds):=zxt _ _ _ (by
 unfold znn
 obtain⟨hds,hdo⟩:=zhc h2
 obtain⟨hv,hts⟩:=z6g h1
 have hfl:=z54 hv
 refine z1e s.1.2.1.length (fun i=>((i:Int),((ztv s).take i,((s.1.2.1.take i).map (z63 s ds),())))) (by simp) ?_ ?_
 . intro i hi X hX
   have hr:=zp2 (z7o hv (List.getElem_mem hi))
   have hi0:i<(ztv s).length:=by simp[ztv,hi]
   have e0:(ztv s)[i]=if srcI s i then 0 else -1:=by have:=zp3 hi;rw[z29 hi0]at this;exact this
   rw[z07 hi0,z07 hi,List.map_append,e0]at hX
   have e1:srcI s i=(s.1.1.getD (Int.toNat s.1.2.1[i].1) zia).2.2.1:=by unfold srcI;rw[z29 hi];rfl
   have hl0:((ztv s).take i).length=i:=by rw[List.length_take];omega
   have hl1:((s.1.2.1.take i).map (z63 s ds)).length=i:=by rw[List.length_map,List.length_take];omega
   refine z0j fun _=>bcI hi (inI hi ?_)
   simp only
   rw[z20 hi,z04 (by omega)]
   refine⟨⟨hr.1,hr.2⟩,?_⟩
   rw[<-e1]
   refine z1j (fun h=>⟨by simp only[z0w,List.length_cons,List.length_nil];omega,inI hi ⟨_,zjd,by simp only[z0w,List.length_cons,List.length_nil];omega,?_⟩⟩) (fun h=>⟨by simp only[z0w,List.length_cons,List.length_nil];omega,inI hi ⟨_,zjd,by simp only[z0w,List.length_cons,List.length_nil];omega,?_⟩⟩)
   . rw[h]at hX;exact hX
   . rw[h]at hX;exact hX
 . intro X
   refine z0j fun _=>bcN ?_
   have e0:(ztv s).take s.1.2.1.length=ztv s:=List.take_of_length_le (by simp[ztv])
   simp only
   rw[e0,List.take_length]
   refine z1e s.1.2.1.length (fun k=>(((k+1:Nat):Int),(zif s ds k,()))) rfl ?_ ?_
   . intro k hk Y hY
     have hkl:=zae s ds k
     refine z0j fun _=>z08 (fun _=>?_) (fun h=>by simp only at h;omega)
     have hge:=fun {i} (hi:i<s.1.2.1.length)=>zv3 (s:=s) (ds:=ds) k hi
     rw[zif,<-z047]at hY
     simp only
     generalize zif s ds k=lev at hY hkl hge ⊢
     rw[hkl]
     rw[hkl]at hY
     have hN:s.1.2.1.length<=30:=hfl
     refine zkk s.1.2.1.length (zpt s ds lev) [] (fun i o=>((i:Int),(o,()))) List.length 135000 30 hN (fun o i _=>z06z s ds lev o i) ?_ ?_
     . intro i hi o Z ho hZ
       refine z0j fun _=>bcI hi ?_
       have hil:i<((s.1.2.1).map (z63 s ds)).length:=by rw[List.length_map];exact hi
       have eil:((s.1.2.1).map (z63 s ds))[i]=z63 s ds s.1.2.1[i]:=by simp
       have hfg:s.1.2.1.getD i z0n=s.1.2.1[i]:=z29 hi
       unfold zpt at hZ
       rw[hfg]at hZ
       have hdl:=zum s ds s.1.2.1[i]
       simp only[List.length_nil]at ho
       by_cases hneg:lev.getD i 0<0
       . rw [if_pos hneg]at hZ
         refine z21 (z63 s ds s.1.2.1[i]) (zy0 s ds lev i) o (fun j o=>((j:Int),(o,()))) List.length 1 135000 hdl (fun o t _=>zxc s ds lev i o t) ?_ ?_
         . intro j hj o' W ho' hW
           refine inI hil ?_
           simp only
           rw[z20 hil,eil]
           refine z0j fun _=>bcI hj ⟨⟨by omega,by omega⟩,?_⟩
           rw[Int.toNat_natCast]
           refine z08 (fun _=>inI hil (inI hj ?_)) (fun h=>absurd hneg h)
           rw[z20 hj,z04 (by omega)]
           obtain⟨n,hn,b,hb,et⟩:=zu5 (List.getElem_mem hj)
           have ek:knS s ds lev (z63 s ds s.1.2.1[i])[j]=zog s.1.2.1 lev ds[n] b:=by
            unfold knS
            rw[et]
            simp only[Int.toNat_natCast]
            rw[z29 hn]
           unfold zy0 at hW
           rw[ek]at hW
           rw[et]
           refine⟨_,z01b hkl hn (hdo _ (List.getElem_mem hn)) hb,z1j (fun h=>⟨by simp only[z0w,List.length_cons,List.length_nil];omega,?_⟩) (fun h=>?_)⟩
           . rw[h]at hW;exact hW
           . rw[h]at hW;exact hW
         . intro W _
           refine inI hil ?_
           simp only
           rw[z20 hil,eil]
           refine z0j fun _=>bcN ?_
           rw[z04 (by omega)]
           exact hZ
       . rw[if_neg hneg]at hZ
         refine⟨1,inI hil ?_⟩
         simp only
         rw[z20 hil,eil]
         refine z0j fun _=>?_
         have out:Z (w64 ((i:Int)+1),(o,())):=by rw[z04 (by omega)];exact hZ
         refine z08 (fun _=>⟨⟨by omega,by omega⟩,?_⟩) (fun _=>out)
         rw[Int.toNat_natCast]
         exact z08 (fun h=>absurd h hneg) (fun _=>out)
     . intro Z hlenm
       refine z0j fun _=>bcN ?_
       have hm:∀ k∈(List.range s.1.2.1.length).foldl (zpt s ds lev) [],0<=k/\k<s.1.2.1.length:=by
        intro k hk
        rw[zht]at hk
        rcases hk with hk|⟨i,hi,rfl,_⟩
        . simp at hk
        . have:=List.mem_range.mp hi;omega
       simp only[List.length_nil]at hlenm
       simp only
       generalize (List.range s.1.2.1.length).foldl (zpt s ds lev) []=more at hm hlenm hY ⊢
       refine zar more (fun v (q:Int)=>v.set q.toNat ((k+1:Nat):Int)) lev (fun j v=>((j:Int),(v,()))) ?_ ?_
       . intro j hj W hW
         have hml:=hm _ (List.getElem_mem hj)
         have hsl:=zor (n:=((k+1:Nat):Int)) (l:=more.take j) (lev:=lev)
         refine z0j fun _=>bcI hj (inI hj ?_)
         simp only
         rw[z20 hj,z04 (by omega)]
         exact⟨⟨hml.1,by omega⟩,hW⟩
       . intro W
         refine z0j fun _=>bcN ?_
         simp only
         rw[z04 (by omega)]
         exact hY
   . intro Y
     have hkl:=zae s ds s.1.2.1.length
     exact z0j fun _=>z08 (fun h=>by simp only at h;omega) (fun _=>rfl))
def ztd {α:Type} (l m:List α) (i:Nat):List α:=l.take i++m.drop i
theorem zwk {α:Type} (l m:List α):ztd l m 0=m:=by simp[ztd]
theorem z01y {α:Type} {l m:List α} (h:l.length=m.length):ztd l m l.length=l:=by unfold ztd;rw[List.take_length,List.drop_eq_nil_of_le (by omega),List.append_nil]
theorem z01l {α:Type} {l m:List α} (h:l.length=m.length) {i:Nat} (hi:i<=l.length):(ztd l m i).length=l.length:=by simp[ztd];omega
theorem zvg {α:Type} {l m:List α} {i:Nat} (hi:i<m.length):ztd l m i=l.take i++m[i]::m.drop (i+1):=by unfold ztd;rw[z44 hi]
theorem z02a {α:Type} {l m:List α} {i:Nat} (hi:i<l.length):ztd l m (i+1)=l.take i++l[i]::m.drop (i+1):=by unfold ztd;rw[z07 hi,List.append_assoc];rfl
theorem zzt {α:Type} {l m:List α} (h:l.length=m.length) {i:Nat} (hi:i<l.length):(ztd l m i).set i l[i]=ztd l m (i+1):=by
 have hl:(l.take i).length=i:=by rw[List.length_take];omega
 rw[zvg (by omega),z02a hi,List.set_append_right _ _ (by omega),hl,Nat.sub_self]
 rfl
theorem zup {α:Type} {l m:List α} (h:l.length=m.length) {i:Nat} (hi:i<l.length) (he:l[i]=m[i]'(by omega)):ztd l m i=ztd l m (i+1):=by
 rw[zvg (by omega),z02a hi,he]
theorem z0da {α:Type} {l m:List α} (h:l.length=m.length) {i:Nat} (hi:i<l.length) {d:α}:(ztd l m i).getD i d=m[i]'(by omega):=by
 have hl:(l.take i).length=i:=by rw[List.length_take];omega
 rw[zvg (by omega),List.getD_eq_getElem?_getD,List.getElem?_append_right (by omega),hl,Nat.sub_self]
 rfl
def zus (s:TSk) (ds:List z0c):List (List z00):=(List.range s.1.2.1.length).map fun i=>if srcI s i then[] else z63 s ds (s.1.2.1.getD i z0n)
theorem zze {s:TSk} {ds:List z0c} {i:Nat} (hi:i<s.1.2.1.length) (h:i<(zus s ds).length):(zus s ds)[i]=if srcI s i then[] else z63 s ds s.1.2.1[i]:=by
 simp only[zus,List.getElem_map,List.getElem_range]
 rw[z29 hi]
theorem z06w {s:TSk} {ds:List z0c} (h1:vSk s=true) (h2:z4f s.1.1 ds=true):zqx s ds (levs s ds):=z08d _ _ _ (by
 unfold zyn
 obtain⟨hds,hdo⟩:=zhc h2
 obtain⟨hv,hts⟩:=z6g h1
 have hfl:=z54 hv
 have hN:(s.1.2.1.length:Int)<=z0w:=by simp only[z0w];omega
 have hz:0<=(s.1.2.1.length:Int)/\(s.1.2.1.length:Int)<=(s.1.2.1.length:Int)/\(s.1.2.1.length:Int)<=z0w:=⟨by omega,by omega,hN⟩
 have hl0:(ztv s).length=s.1.2.1.length:=by simp[ztv]
 have hls:(zus s ds).length=s.1.2.1.length:=by simp[zus]
 refine z0j fun _=>z0j fun _=>⟨⟨hz,trivial⟩,⟨hz,trivial⟩,hz,hz,z0j fun _=>?_⟩
 rw[Int.toNat_natCast]
 have hr1:(ztv s).length=(List.replicate s.1.2.1.length (0:Int)).length:=by rw[hl0,List.length_replicate]
 have hr2:(zus s ds).length=(List.replicate s.1.2.1.length ([]:List z00)).length:=by rw[hls,List.length_replicate]
 refine z1e s.1.2.1.length (fun i=>((i:Int),(ztd (ztv s) (List.replicate s.1.2.1.length (0:Int)) i,(ztd (zus s ds) (List.replicate s.1.2.1.length ([]:List z00)) i,())))) (by rw[zwk,zwk];rfl) ?_ ?_
 . intro i hi X hX
   have hr:=zp2 (z7o hv (List.getElem_mem hi))
   have hi0:i<(ztv s).length:=by omega
   have his:i<(zus s ds).length:=by omega
   have e0:(ztv s)[i]=if srcI s i then 0 else -1:=by have:=zp3 hi;rw[z29 hi0]at this;exact this
   have e2:=zze (ds:=ds) hi his
   have e1:srcI s i=(s.1.1.getD (Int.toNat s.1.2.1[i].1) zia).2.2.1:=by unfold srcI;rw[z29 hi];rfl
   have hm1:=z01l hr1 (i:=i) (by omega)
   have hm2:=z01l hr2 (i:=i) (by omega)
   refine bcI hi (inI hi ?_)
   simp only
   rw[z20 hi,z04 (by omega)]
   refine⟨⟨hr.1,hr.2⟩,?_⟩
   rw[<-e1]
   refine z0y (fun h=>⟨⟨by omega,by omega⟩,_,zs8,⟨by omega,by omega⟩,?_⟩) (fun h=>?_)
   . rw[Int.toNat_natCast]
     rw[h]at e0 e2
     have s1:=zzt hr1 hi0
     have s2:=zzt hr2 his
     rw[e0]at s1
     rw[e2]at s2
     simp only[Bool.false_eq_true,if_false]at s1 s2
     rw[s1,s2]
     exact hX
   . rw[h]at e0 e2
     have s1:=zup hr1 hi0 (by rw[e0];simp)
     have s2:=zup hr2 his (by rw[e2];simp)
     rw[s1,s2]
     exact hX
 . intro X
   refine bcN ?_
   have ee1:=z01y hr1
   have ee2:=z01y hr2
   rw[hl0]at ee1
   rw[hls]at ee2
   simp only
   rw[ee1,ee2]
   refine z1m (fun d a=>∃ k:Nat,(a=(((k+1:Nat):Int),(true,(zif s ds k,())))/\k+negs (zif s ds k)<=s.1.2.1.length/\negs (zif s ds k)+1<=d)\/(a=(((k+1:Nat):Int),(false,(zif s ds k,())))/\zif s ds k=levs s ds)) ?_ ?_ (n:=s.1.2.1.length+1) ⟨0,.inl ⟨rfl,by have:=z06t (zif s ds 0);rw[zae]at this;omega,by have:=z06t (zif s ds 0);rw[zae]at this;omega⟩⟩
   . rintro a ⟨k,⟨_,_,h⟩|⟨rfl,h⟩⟩ Y
     . omega
     . exact bcF (by rw[h])
   . rintro d a ⟨k,⟨rfl,hk,hd⟩|⟨rfl,h⟩⟩ Y hY
     . have hkl:=zae s ds k
       have hge:=fun {i} (hi:i<s.1.2.1.length)=>zv3 (s:=s) (ds:=ds) k hi
       have hsrc:=fun {i} (hi:i<s.1.2.1.length)=>z033 (s:=s) (ds:=ds) k hi
       have next:Y (((k+1+1:Nat):Int),((List.range s.1.2.1.length).any (zgi s ds (zif s ds k)),(zif s ds (k+1),()))):=by
        refine hY _ ⟨k+1,?_⟩
        cases hc:(List.range s.1.2.1.length).any (zgi s ds (zif s ds k))with
        | true=>
          obtain⟨i,hi,hci⟩:=List.any_eq_true.mp hc
          have:=z0dw (s:=s) (ds:=ds) (n:=((k+1:Nat):Int)) (by omega) (lev:=zif s ds k) (i:=i) (by rw[hkl];simpa using hi) hci
          rw[show zco s ds ((k+1:Nat):Int) (zif s ds k)=zif s ds (k+1)from rfl]at this
          exact .inl ⟨rfl,by omega,by omega⟩
        | false=>
          have hst:z07e s ds (zif s ds k):=fun i hi=>by
           rw[Bool.eq_false_iff];intro h
           have:=List.any_eq_true.mpr ⟨i,List.mem_range.mpr (by rw[hkl]at hi;exact hi),h⟩
           rw[hc]at this;cases this
          refine .inr ⟨rfl,?_⟩
          rw[zmr hst 1]
          obtain⟨m,hm⟩:∃ m,s.1.2.1.length=k+m:=⟨s.1.2.1.length - k,by omega⟩
          unfold levs
          rw[hm,zmr hst m]
       rw[zif]at next
       refine bcT ⟨_,z3q (by simp only;omega),z0j fun _=>?_⟩
       simp only
       generalize zif s ds k=lev at hkl hge hsrc next ⊢
       have hrl:=zac s ds ((k+1:Nat):Int) lev
       refine z1e s.1.2.1.length (fun i=>((List.range i).any (zgi s ds lev),((i:Int),(ztd (zco s ds ((k+1:Nat):Int) lev) lev i,())))) (by rw[zwk];rfl) ?_ ?_
       . intro i hi Z hZ
         have hir:i<(zco s ds ((k+1:Nat):Int) lev).length:=by omega
         have hil:i<lev.length:=by omega
         have hml:=z01l hrl (i:=i) (by omega)
         have eg:(ztd (zco s ds ((k+1:Nat):Int) lev) lev i).getD i 0=lev[i]:=z0da hrl hir
         have er:(zco s ds ((k+1:Nat):Int) lev)[i]=if zgi s ds lev i then((k+1:Nat):Int)else lev[i]:=by
          have:=za1 (s:=s) (ds:=ds) (n:=((k+1:Nat):Int)) hil
          rw[z29 hir,z29 hil]at this;exact this
         have g0:=hge hi
         rw[z29 hil]at g0
         have hsr:=hsrc hi
         rw[z29 hil]at hsr
         rw[List.range_succ,List.any_append]at hZ
         simp only[List.any_cons,List.any_nil,Bool.or_false]at hZ
         refine bcI hi ⟨⟨by simp only;omega,by simp only;omega⟩,?_⟩
         simp only
         rw[Int.toNat_natCast,eg,z04 (by omega)]
         have no:zgi s ds lev i=false->Z ((List.range i).any (zgi s ds lev),(((i+1:Nat):Int),(ztd (zco s ds ((k+1:Nat):Int) lev) lev i,()))):=by
          intro h
          rw[h,Bool.or_false]at hZ
          rw[h]at er
          rw[zup hrl hir (by rw[er];simp)]
          exact hZ
         have hc:zgi s ds lev i=(decide (lev[i]<0)&&knF s ds lev i):=by unfold zgi;rw[z29 hil]
         refine z32 (fun h=>?_) (fun h=>no (by rw[hc,decide_eq_false (by omega),Bool.false_and]))
         have his:i<(zus s ds).length:=by omega
         have e2:=zze (ds:=ds) hi his
         rw[hsr (by omega)]at e2
         simp only[Bool.false_eq_true,if_false]at e2
         refine⟨⟨by omega,by omega⟩,?_⟩
         rw[z29 his,e2]
         refine⟨_,z5t (x1:=(s.1.2.1,(lev,(ds,())))) (knS s ds lev) (fun t ht=>?_),?_⟩
         . obtain⟨n,hn,b,hb,rfl⟩:=zu5 ht
           refine z01i _ _ _ _ _ ⟨_,zys hfl (zln hv) hkl (fun j hj=>hge hj) hn (hdo _ (List.getElem_mem hn)) hb,?_⟩
           unfold knS
           simp only[Int.toNat_natCast]
           rw[z29 hn]
         . have hkf:knF s ds lev i=(z63 s ds s.1.2.1[i]).any (knS s ds lev):=by unfold knF;rw[z29 hi]
           rw[<-hkf]
           refine z1j (fun h3=>⟨⟨by omega,by omega⟩,?_⟩) (fun h3=>no (by rw[hc,h3,Bool.and_false]))
           have hct:zgi s ds lev i=true:=by rw[hc,h3,decide_eq_true (by omega)];rfl
           rw[hct,Bool.or_true]at hZ
           rw[hct]at er
           simp only[if_true]at er
           have s1:=zzt hrl hir
           rw[er]at s1
           rw[s1]
           exact hZ
       . intro Z
         refine bcN ?_
         have ee:=z01y hrl
         rw[hrl,hkl]at ee
         simp only
         rw[ee,z04 (by omega)]
         exact next
     . exact bcF (by rw[h]))
def lvl (s:TSk) (ds:List z0c) (f:z00):Int:=if vSk s&&(z4f s.1.1 ds&&decide (f∈s.1.2.1))then(levs s ds).getD (place s.1.2.1 f).toNat 0 else -1
theorem ztc {s:TSk} {ds:List z0c} {f:z00} (h:(vSk s&&(z4f s.1.1 ds&&decide (f∈s.1.2.1)))=false):(((-1:Int),()):Int×Unit)=(lvl s ds f,()):=by unfold lvl;rw[h];rfl
theorem z6i {s:TSk} {ds:List z0c} {f:z00}:z3s s ds f (lvl s ds f):=zm4 _ _ _ _ (by
 unfold zd3
 refine⟨place s.1.2.1 f,z5f (fun t=>decide (t=f)) (fun t _=>zir _ _ _ ⟨_,zk6,rfl⟩),?_⟩
 by_cases hm:f∈s.1.2.1
 . obtain⟨p,e,hp,_⟩:=zie hm
   rw[e]
   refine z08 (fun h=>by omega) (fun _=>⟨_,zb2,z0y (fun h=>ztc (by rw[h];rfl)) (fun h1=>⟨_,zqd,z0y (fun h=>ztc (by rw[h];simp)) (fun h2=>⟨_,z06w h1 h2,?_⟩)⟩)⟩)
   have hl:(levs s ds).length=s.1.2.1.length:=zae s ds _
   refine⟨⟨by omega,by omega⟩,?_⟩
   unfold lvl
   rw[h1,h2,decide_eq_true hm,e];rfl
 . rw[zz0 hm]
   exact z08 (fun _=>ztc (by rw[decide_eq_false hm];simp)) (fun h=>by omega))
theorem z6k {s:TSk} {ds:List z0c} {f:z00}:z3r s ds f (lvl s ds f):=zl3 _ _ _ _ (by
 unfold zd1
 refine⟨_,z6t,z0y (fun h=>ztc (by rw[h];rfl)) (fun h1=>⟨_,zke,z0y (fun h=>ztc (by rw[h];simp)) (fun h2=>⟨_,z6r,?_⟩)⟩)⟩
 rw[(z6g h1).1,Bool.true_and]
 refine z0y (fun h=>ztc (by rw[h];simp)) (fun h3=>⟨_,zz3 h1 h2,_,zf2,?_⟩)
 have hm:f∈s.1.2.1:=by simpa using h3
 obtain⟨p,e,hp,_⟩:=zie hm
 have hl:(levs s ds).length=s.1.2.1.length:=zae s ds _
 have e2:lvl s ds f=(levs s ds).getD (place s.1.2.1 f).toNat 0:=by unfold lvl;rw[h1,h2,h3];rfl
 rw[e2,e]
 exact⟨⟨by omega,by omega⟩,rfl⟩)
theorem z00j {f:z00}:∀ {l:List z00},f∈l->f.2.1.length<=(l.flatMap (·.2.1)).length
 | a::l,h=>by
   rw[List.flatMap_cons,List.length_append]
   rcases List.mem_cons.mp h with rfl|h
   . omega
   . have:=z00j h;omega
theorem zpg {x:z0d} (h:z35 x=true) {f:z00} (hf:f∈x.2.1):f.2.1.length<=1099511627776:=by
 have:=zn5 h
 have:=z00j hf
 omega
theorem z03q {s:TSk} (h:vSk s=true) {i:Nat} (hi:i<s.2.1.length):s.2.1[i].2.2.1.length<=5:=by
 have:=z07n (z6w h).2.2 hi
 unfold z8c at this
 rw[z67 hi]at this
 simp only[Bool.and_eq_true,decide_eq_true_eq]at this
 exact this.1.1.2
theorem zas {x:z0d} (h1:x.1.length<=1099511627776) (hl:x.2.1.length<=1073741824) (h:∀ f∈x.2.1,f.2.1.length<=1099511627776):zap x x:=z07w _ _ (by
 unfold zwv
 refine⟨by simp only[z0w,List.length_nil];omega,?_⟩
 rw[List.nil_append]
 refine zm0 x.2.1 (fun i s=>((i:Int),((x.1,(s,())),()))) hl ?_ ?_
 . intro i hi s X hs hX
   refine z0j fun _=>bcI hi (inI hi ⟨x.2.1[i],?_,⟨by simp only[z0w,List.length_cons,List.length_nil];omega,?_⟩⟩)
   . simp only;rw[z20 hi];exact zr7 (h _ (List.getElem_mem hi))
   . simp only;rw[z04 (by omega)];exact hX
 . intro X;exact z0j fun _=>bcN rfl)
structure SmS (s:TSk):Prop where
 rels:s.1.1.length<=1048576
 few:s.1.2.1.length<=1048576
 row:∀ f∈s.1.2.1,f.2.1.length<=1048576
 terms:s.2.1.length<=1048576
 args:∀ t∈s.2.1,t.2.2.1.length<=1048576
theorem SmS.of {s:TSk} (h:vSk s=true):SmS s:=by
 have hi:=z6g h
 have hr:=zej (zep hi.1)
 have hf:=z54 hi.1
 refine⟨by omega,by omega,fun f hm=>?_,by omega,fun t ht=>?_⟩
 . have h1:=zn5 hi.1
   have h2:=z00j hm
   omega
 . obtain⟨i,hi,rfl⟩:=List.mem_iff_getElem.mp ht
   have:=z03q h hi
   omega
theorem znt {s:TSk} (h:SmS s):za3 s s:=z04u _ _ (by
 unfold zts
 have h1:=h.rels
 have h2:=h.few
 have h3:=h.terms
 refine⟨s.1,zas (by omega) (by omega) (fun f hf=>by have:=h.row f hf;omega),?_⟩
 refine zm0 s.2.1 (fun i t=>((i:Int),(((s.1.1,(s.1.2.1,s.1.2.2)),(t,())),()))) (by omega) ?_ ?_
 . intro i hi t X hs hX
   have ha:=h.args _ (List.getElem_mem hi)
   refine z0j fun _=>bcI hi (inI hi (inI hi (inI hi ?_)))
   simp only
   rw[z20 hi,z04 (by omega),List.nil_append]
   exact⟨by simp only[z0w,List.length_nil];omega,by simp only[z0w,List.length_cons,List.length_nil];omega,hX⟩
 . intro X;exact z0j fun _=>bcN rfl)
theorem z04p {s:TSk} (h:vSk s=true):za3 s s:=znt (.of h)
theorem z01j {t:z0a} (h:t.2.2.1.length<=1099511627776):zjy t t:=z015 _ _ (by
 unfold zpc
 exact⟨_,z3q h,rfl⟩)
theorem zhr {x:z0d} (h1:x.1.length<=1099511627776) (hl:x.2.1.length<=1073741824) (h:∀ f∈x.2.1,f.2.1.length<=1099511627776):z9q x x:=zql _ _ (by
 unfold zhq
 exact⟨_,zft h1,_,zx5 hl h,rfl⟩)
theorem zsc {s:TSk} (h:SmS s):zdh s s:=zym _ _ (by
 unfold znm
 have h1:=h.rels
 have h2:=h.few
 have h3:=h.terms
 refine⟨s.1,zhr (by omega) (by omega) (fun f hf=>by have:=h.row f hf;omega),z0j fun _=>?_⟩
 refine zm0 s.2.1 (fun i t=>((i:Int),(((s.1.1,(s.1.2.1,s.1.2.2)),(t,())),()))) (by omega) ?_ ?_
 . intro i hi t X hs hX
   have ha:=h.args _ (List.getElem_mem hi)
   refine bcI hi (inI hi ⟨s.2.1[i],?_,⟨by simp only[z0w,List.length_cons,List.length_nil];omega,?_⟩⟩)
   . simp only;rw[z20 hi];exact z01j (by omega)
   . simp only;rw[z04 (by omega)];exact hX
 . intro X;exact bcN rfl)
theorem zy7 {s:TSk} (h:vSk s=true):zdh s s:=zsc (.of h)
def delR (l:List z00) (f:z00):List z00:=l.filter fun t=>!decide (t=f)
theorem z0c1 {l:List z00} (ha:asc l) {i j:Nat} (hi:i<l.length) (hj:j<l.length) (h:i≠j):l[i]≠l[j]:=by
 intro e
 rcases Nat.lt_or_ge i j with h'|h'
 . have:=ha i j hj h';rw[cmpF_zero.mpr e]at this;omega
 . have:=ha j i hi (by omega);rw[cmpF_zero.mpr e.symm]at this;omega
theorem z0fr {l:List z00} (ha:asc l) {p:Nat} (hp:p<l.length):l.take p++l.drop (p+1)=delR l l[p]:=by
 have e:delR l l[p]=delR (l.take p++l[p]::l.drop (p+1)) l[p]:=by rw[<-z44 hp,List.take_append_drop]
 rw[e]
 unfold delR
 rw[List.filter_append,List.filter_cons,decide_eq_true rfl]
 simp only[Bool.not_true,Bool.false_eq_true,if_false]
 rw[List.filter_eq_self.mpr,List.filter_eq_self.mpr]
 . intro a hm
   obtain⟨i,hi,rfl⟩:=List.mem_iff_getElem.mp hm
   rw[List.length_drop]at hi
   rw[List.getElem_drop]
   have:=z0c1 ha (i:=p+1+i) (j:=p) (by omega) hp (by omega)
   simp[this]
 . intro a hm
   obtain⟨i,hi,rfl⟩:=List.mem_iff_getElem.mp hm
   rw[List.length_take]at hi
   rw[List.getElem_take]
   have:=z0c1 ha (i:=i) (j:=p) (by omega) hp (by omega)
   simp[this]
def delI (x:z0d) (f:z00):z0d:=(x.1,(delR x.2.1 f,()))
def delS (s:TSk) (f:z00):TSk:=(delI s.1 f,s.2)
theorem zq7 {x:z0d} {f:z00}:zcb x f (z35 x&&decide (f∈x.2.1)):=zqo _ _ _ (by
 unfold zhu
 refine⟨_,z94,z1j (fun h=>⟨_,zms,by rw[h];rfl⟩) (fun h=>by rw[h];rfl)⟩)
theorem zlq {x:z0d} {f:z00} (h:z35 x=true) (hf:f∈x.2.1):z3z x f (delI x f) true:=zle _ _ _ _ (by
 unfold zfu
 have hr:=zej (zep h)
 have hl:=z54 h
 refine⟨_,zas (by omega) (by omega) (fun f hf=>zpg h hf),_,z6r,?_⟩
 rw[h,decide_eq_true hf]
 obtain⟨p,e,hp,hpf⟩:=zie hf
 have ed:=z0fr (zln h) hp
 rw[hpf]at ed
 refine⟨_,zf2,?_⟩
 simp only
 rw[e,z04 (by omega)]
 simp only[Int.toNat_natCast,Int.toNat_zero,Nat.sub_zero,List.drop_zero,List.nil_append]
 have e2:(x.2.1.drop (p+1)).take (x.2.1.length - (p+1))=x.2.1.drop (p+1):=List.take_of_length_le (by rw[List.length_drop];exact Nat.le_refl _)
 rw[e2,ed]
 refine⟨⟨by omega,by omega,by omega,by omega⟩,⟨by omega,by omega,by omega,by omega⟩,?_,?_,rfl⟩
 . simp only[z0w,List.length_take,List.length_nil];omega
 . simp only[z0w,List.length_take,List.length_drop];omega)
theorem z0f2 {s:TSk} {ds:List z0c} {f:z00} : -1<=lvl s ds f:=by
 unfold lvl
 by_cases h:(vSk s&&(z4f s.1.1 ds&&decide (f∈s.1.2.1)))=true
 . rw[if_pos h]
   have hm:f∈s.1.2.1:=by simp only[Bool.and_eq_true,decide_eq_true_eq]at h;exact h.2.2
   obtain⟨p,e,hp,_⟩:=zie hm
   rw[e]
   exact zv3 _ hp
 . rw[if_neg h];omega
theorem z07d {s:TSk} {ds:List z0c} {f:z00} (h:¬ lvl s ds f<0):vSk s=true/\z4f s.1.1 ds=true/\f∈s.1.2.1:=by
 unfold lvl at h
 by_cases h':(vSk s&&(z4f s.1.1 ds&&decide (f∈s.1.2.1)))=true
 . simp only[Bool.and_eq_true,decide_eq_true_eq]at h';exact⟨h'.1,h'.2.1,h'.2.2⟩
 . rw[if_neg h']at h;omega
theorem z0co {s:TSk} {ds:List z0c} {f:z00} (h:f∉s.1.2.1):lvl s ds f = -1:=by
 unfold lvl
 rw[decide_eq_false h];simp
theorem z077 {s:TSk} {ds:List z0c} {f:z00}:lvl (delS s f) ds f = -1:=z0co (by simp[delS,delI,delR])
def zwb (s:TSk) (ds:List z0c) (f g:z00):Bool:=!decide (lvl s ds f<0)&&(!decide (lvl s ds g<0)&&decide (lvl (delS s g) ds f<0))
theorem zxq {s:TSk} {ds:List z0c} {f g:z00}:zho s ds f g (zwb s ds f g):=zz7 _ _ _ _ _ (by
 unfold zng zwb
 refine⟨_,z6k,z08 (fun h=>by rw[decide_eq_true h];rfl) (fun h1=>⟨_,z6k,z08 (fun h=>by rw[decide_eq_true h,decide_eq_false h1];rfl) (fun h2=>?_)⟩)⟩
 obtain⟨a1,a2,a3⟩:=z07d h2
 refine⟨_,z04p a1,_,_,zlq (z6g a1).1 a3,_,z5c,?_⟩
 rw[zr5,decide_eq_false h1,decide_eq_false h2]
 refine z08 (fun h=>?_) (fun _=>⟨lvl (delS s g) ds f,z6k,rfl⟩)
 subst h
 rw[z077];rfl)
def iAt (l:List Int) (i:Nat):Int:=l.getD i 0
theorem zxh:∀ {x y:List Int},zid y x = - zid x y
 |[],[]=>rfl
 |[],b::y=>rfl
 |a::x,[]=>rfl
 | a::x,b::y=>by
   simp only[zid]
   have:=zxh (x:=x) (y:=y)
   split<;>split<;>first|omega|(rw[this])|skip
theorem zxo {x y:z00}:zc8 y x = - zc8 x y:=by
 unfold zc8
 have:=zxh (x:=x.2.1) (y:=y.2.1)
 split<;>split<;>first|omega|(rw[this])|skip
theorem asc_pw {l:List z00}:asc l↔l.Pairwise fun a b=>zc8 a b<0:=by
 rw[List.pairwise_iff_getElem]
 exact⟨fun h i j hi hj hij=>h i j hj hij,fun h i j hj hij=>h i j (by omega) hj hij⟩
theorem z0c9:∀ {a b:List z00},(a.Pairwise fun a b=>zc8 a b<0)->(b.Pairwise fun a b=>zc8 a b<0)->(∀ y,y∈a↔y∈b)->a=b
 |[],[],_,_,_=>rfl
 |[],b::m,_,_,h=>absurd ((h b).mpr (by simp)) (by simp)
 |a::l,[],_,_,h=>absurd ((h a).mp (by simp)) (by simp)
 | a::l,b::m,h1,h2,h=>by
   rw[List.pairwise_cons]at h1 h2
   have hab:a=b:=by
    have ha:=(h a).mp (by simp)
    have hb:=(h b).mpr (by simp)
    rcases List.mem_cons.mp ha with e|ha
    . exact e
    . rcases List.mem_cons.mp hb with e|hb
      . exact e.symm
      . have q1:=h2.1 a ha
        have q2:=h1.1 b hb
        rw[zxo]at q1
        omega
   subst hab
   congr 1
   refine z0c9 h1.2 h2.2 fun y=>⟨fun hy=>?_,fun hy=>?_⟩
   . rcases List.mem_cons.mp ((h y).mp (by simp[hy]))with e|h'
     . subst e;have:=h1.1 y hy;rw[cmpF_zero.mpr rfl]at this;omega
     . exact h'
   . rcases List.mem_cons.mp ((h y).mpr (by simp[hy]))with e|h'
     . subst e;have:=h2.1 y hy;rw[cmpF_zero.mpr rfl]at this;omega
     . exact h'
theorem z0di {a b:List z00} (h1:asc a) (h2:asc b) (h:∀ y,y∈a↔y∈b):a=b:=z0c9 (asc_pw.mp h1) (asc_pw.mp h2) h
def zul (l:List z00) (f:z00):Nat:=z02 (fun t=>!decide (zc8 t f<0)) l
def zmf (l:List z00) (f:z00):List z00:=if f∈l then l else l.take (zul l f)++f::l.drop (zul l f)
theorem putF_mem {l:List z00} {f y:z00}:y∈zmf l f↔y∈l\/y=f:=by
 unfold zmf
 split
 . rename_i h
   exact⟨.inl,fun h'=>h'.elim id fun e=>e ▸ h⟩
 . have:y∈l↔y∈l.take (zul l f)\/y∈l.drop (zul l f):=by rw[<-List.mem_append,List.take_append_drop]
   rw[this,List.mem_append,List.mem_cons]
   constructor
   . rintro (h|h|h)
     . exact .inl (.inl h)
     . exact .inr h
     . exact .inl (.inr h)
   . rintro ((h|h)|h)
     . exact .inl h
     . exact .inr (.inr h)
     . exact .inr (.inl h)
theorem z02r {l:List z00} {f:z00}:(zmf l f).length<=l.length+1:=by
 unfold zmf
 split
 . omega
 . simp only[List.length_append,List.length_cons,List.length_take,List.length_drop];omega
theorem z0bh {l:List z00} {f:z00} (h:asc l):asc (zmf l f):=by
 unfold zmf
 split
 . exact h
 rename_i hn
 have hp:=asc_pw.mp h
 rw[asc_pw]
 have e:l=l.take (zul l f)++l.drop (zul l f):=(List.take_append_drop _ _).symm
 rw[e]at hp
 rw[List.pairwise_append]at hp ⊢
 have h1:∀ a∈l.take (zul l f),zc8 a f<0:=by
  intro a ha
  obtain⟨i,hi,rfl⟩:=List.mem_iff_getElem.mp ha
  rw[List.length_take]at hi
  have:=z6a (p:=fun t=>!decide (zc8 t f<0)) (l:=l) (i:=i) (by omega) (show i<zul l f by omega)
  rw[List.getElem_take]
  simpa using this
 have h2:∀ a∈l.drop (zul l f),zc8 f a<0:=by
  intro a ha
  have hin:zul l f<l.length:=by
   rcases Nat.lt_or_ge (zul l f) l.length with h'|h'
   . exact h'
   . rw[List.drop_of_length_le h']at ha;simp at ha
  have h3:zc8 f l[zul l f]<0:=by
   have h4:=z7w (p:=fun t=>!decide (zc8 t f<0)) (l:=l) hin
   have h4:¬ zc8 l[zul l f] f<0:=by have h4:(!decide (zc8 l[zul l f] f<0))=true:=h4;simpa using h4
   have h5:zc8 l[zul l f] f≠0:=fun e=>hn ((cmpF_zero.mp e) ▸ List.getElem_mem hin)
   rw[zxo];omega
  obtain⟨i,hi,rfl⟩:=List.mem_iff_getElem.mp ha
  rw[List.getElem_drop]
  rcases Nat.eq_zero_or_pos i with rfl|h0
  . simpa using h3
  . rw[List.length_drop]at hi
    exact zmx h3 (h _ _ (by omega) (by omega))
 refine⟨hp.1,List.pairwise_cons.mpr ⟨h2,hp.2.1⟩,fun a ha b hb=>?_⟩
 rcases List.mem_cons.mp hb with rfl|hb
 . exact h1 a ha
 . exact hp.2.2 a ha b hb
def zta (l:List z00):List z00:=l.foldl zmf []
theorem zqu:∀ {l m:List z00},asc m->asc (l.foldl zmf m)
 |[],m,h=>h
 |a::l,m,h=>zqu (l:=l) (z0bh h)
theorem zq9:∀ {l m:List z00} {y:z00},y∈l.foldl zmf m↔y∈m\/y∈l
 |[],m,y=>by simp
 | a::l,m,y=>by
   rw[List.foldl_cons,zq9 (l:=l),putF_mem,List.mem_cons]
   constructor
   . rintro ((h|h)|h)
     . exact .inl h
     . exact .inr (.inl h)
     . exact .inr (.inr h)
   . rintro (h|h|h)
     . exact .inl (.inl h)
     . exact .inl (.inr h)
     . exact .inr h
theorem zrq:∀ {l m:List z00},(l.foldl zmf m).length<=m.length+l.length
 |[],m=>by simp
 | a::l,m=>by
   have:=zrq (l:=l) (m:=zmf m a)
   have:=z02r (l:=m) (f:=a)
   rw[List.foldl_cons,List.length_cons];omega
theorem z0cx:asc []:=fun i j hj _=>by simp at hj
theorem z02z (l:List z00):asc (zta l):=zqu z0cx
theorem facS_mem {l:List z00} {y:z00}:y∈zta l↔y∈l:=by unfold zta;rw[zq9];simp
theorem z0dz {a l:List z00} (h1:asc a) (h2:∀ y,y∈a↔y∈l):a=zta l:=z0di h1 (z02z l) fun y=>by rw[h2,facS_mem]
theorem z027 {l m:List z00} (h:asc l):m.foldl zmf l=zta (l++m):=z0dz (zqu h) fun y=>by rw[zq9,List.mem_append]
theorem z0ag {l:List z00}:(zta l).length<=l.length:=by have:=zrq (l:=l) (m:=[]);simpa [zta]using this
theorem zvy {x:z0d} {f:z00} (h1:x.2.1.length<=1000) (h2:f.2.1.length<=1000):zkr x f (x.1,(zmf x.2.1 f,())):=z0ah _ _ _ (by
 unfold z03h
 refine⟨_,zf2,?_⟩
 rw[z02g]
 refine z08 (fun h=>by unfold zmf;rw[if_pos h]) (fun hn=>?_)
 have hle:zul x.2.1 f<=x.2.1.length:=zec _ _
 have key:∀ i:Nat,i=zul x.2.1 f->((0:Int)<=(i:Int)/\(i:Int)<=(x.2.1.length:Int)/\(x.2.1.length:Int)<=(x.2.1.length:Int))/\((([f]:List z00)).length+(List.drop (Int.toNat (i:Int)) (List.take (Int.toNat (x.2.1.length:Int)) x.2.1)).length<=z0w)/\
   (([]:List z00)++List.drop (Int.toNat (0:Int)) (List.take (Int.toNat (i:Int)) x.2.1))++([f]++List.drop (Int.toNat (i:Int)) (List.take (Int.toNat (x.2.1.length:Int)) x.2.1))=zmf x.2.1 f/\
   ([]:List z00).length+(List.drop (Int.toNat (0:Int)) (List.take (Int.toNat (i:Int)) x.2.1)).length<=z0w/\
   (([]:List z00)++List.drop (Int.toNat (0:Int)) (List.take (Int.toNat (i:Int)) x.2.1)).length+([f]++List.drop (Int.toNat (i:Int)) (List.take (Int.toNat (x.2.1.length:Int)) x.2.1)).length<=z0w:=by
  rintro i rfl
  simp only[Int.toNat_natCast,Int.toNat_zero,List.drop_zero,List.nil_append,List.take_length,z0w,List.length_cons,List.length_nil,List.length_append,List.length_drop,List.length_take]
  refine⟨⟨by omega,by omega,by omega⟩,by omega,?_,by omega,by omega⟩
  unfold zmf
  rw[if_neg hn];rfl
 refine za2 x.2.1 (fun t=>!decide (zc8 t f<0)) (fun i=>((i:Int),())) (KT:=fun i=>i=zul x.2.1 f) (KF:=zul x.2.1 f=x.2.1.length) ?_ ?_ (fun _=>rfl) (fun h=>by unfold zul;have:=zec (fun t=>!decide (zc8 t f<0)) x.2.1;omega)
 . intro i hi X q1 q2
   refine z0j fun _=>bcI hi (inI hi ⟨_,z5c,?_⟩)
   simp only
   rw[z20 hi,z04 (by omega)]
   refine z08 (fun h=>q2 (by rw[decide_eq_true h];rfl)) (fun h=>?_)
   obtain⟨k1,k2,k3,k4,k5⟩:=key i (q1 (by rw[decide_eq_false h];rfl))
   refine⟨k1,f,zr7 (by omega),k2,⟨by omega,by omega,by omega⟩,k4,k5,?_⟩
   show((x.1,((([]:List z00)++List.drop (Int.toNat (0:Int)) (List.take (Int.toNat (i:Int)) x.2.1))++([f]++List.drop (Int.toNat (i:Int)) (List.take (Int.toNat (x.2.1.length:Int)) x.2.1)),())),())=((x.1,(zmf x.2.1 f,())),())
   rw[k3]
 . intro X h
   obtain⟨k1,k2,k3,k4,k5⟩:=key x.2.1.length h.symm
   refine z0j fun _=>bcN ⟨k1,f,zr7 (by omega),k2,⟨by omega,by simp only;omega,by simp only;omega⟩,k4,k5,?_⟩
   show((x.1,((([]:List z00)++List.drop (Int.toNat (0:Int)) (List.take (Int.toNat (x.2.1.length:Int)) x.2.1))++([f]++List.drop (Int.toNat (x.2.1.length:Int)) (List.take (Int.toNat (x.2.1.length:Int)) x.2.1)),())),())=((x.1,(zmf x.2.1 f,())),())
   rw[k3])
def z0d0 (d:z0c) (b:List Int):Bool:=(List.range b.length).all fun k=>decide ((k:Int)∈vars d.1) == !(iAt b k == 10)
def z00i (x:z0d) (d:z0c) (b:List Int):Bool:=d.1.all fun a=>zbj a b&&decide (inst a b∈x.2.1)
theorem zhz {l:List z0r} {ats:List z00} (h:∀ a∈ats,z6l l a=true) {v:Int} (hv:v∈vars ats):0<=v/\v<5:=by
 unfold vars at hv
 have hv:=mem_sset.mp hv
 obtain⟨h1,h2⟩:=List.mem_filter.mp hv
 obtain⟨a,ha,hva⟩:=List.mem_flatMap.mp h1
 have:=inR_iff.mp ((z3k (h a ha)).2.2.2.2.2 v hva)
 have:0<=v:=by simpa using h2
 omega
theorem zut {l:List z0r} {a:z00} (h:z6l l a=true):a.2.1.length<=3/\∀ t∈a.2.1,-10<=t/\t<5:=by
 have:=z3k h
 exact⟨this.2.2.2.2.1,fun t ht=>by have:=inR_iff.mp (this.2.2.2.2.2 t ht);omega⟩
theorem z00z (x:z0d):0<=zhh x/\zhh x<=40:=by
 have hk:∀ k∈zga x,0<=k/\k<40:=fun k hk=>by
  have:=zka (l:=x.2.1.flatMap (·.2.1)) k (by rw[zex];exact hk)
  omega
 refine⟨?_,nextN_le (n:=40) |>.mpr fun k h=>(hk k h).2⟩
 unfold zhh
 cases h:(zga x).getLast? with
 |none=>exact Int.le_refl 0
 |some m=>have:=hk m (List.mem_of_getLast? h);simp only;omega
theorem z0dl {l:List z0r} {d:z0c} (h:ziv l d=true):(exV d).length<=6:=by
 have hd:=zal h
 have h1:(exV d).length<=(vars d.2.1).length:=by unfold exV;exact List.length_filter_le _ _
 have h2:=zi9 d.2.1
 omega
theorem zet {l:List z0r} {d:z0c} (h:ziv l d=true) {v:Int} (hv:v∈exV d):0<=v/\v<5:=by
 have hd:=zal h
 unfold exV at hv
 exact zhz hd.2.2.2.2.1 (List.mem_filter.mp hv).1
theorem zxd {x:z0d} (h:z35 x=true) (l:List z00):l.foldl zmf x.2.1=zta (x.2.1++l):=z027 (zln h)
theorem zk3 {l:List Int} {i j:Nat} {v:Int} (h:i<l.length):iAt (l.set i v) j=if j=i then v else iAt l j:=z02x h
def zre (b c:List Int):Prop:=c.length=b.length/\∀ k,iAt b k≠10->iAt c k=iAt b k
theorem zpm (b:List Int):zre b b:=⟨rfl,fun _ _=>rfl⟩
theorem zxm {a b c:List Int} (h1:zre a b) (h2:zre b c):zre a c:=⟨h2.1.trans h1.1,fun k hk=>by
 have e:=h1.2 k hk
 rw[h2.2 k (by rw[e];exact hk),e]⟩
def zs3 (c:List Int) (p:Int×Int):Prop:=if p.1<0 then p.2 = -1 - p.1 else iAt c p.1.toNat=p.2
theorem z019:∀ {ts vs b:List Int},(zix ts vs b).2=true->(∀ t∈ts,t<b.length)->(∀ v∈vs,v≠10)->ts.length=vs.length->
  zre b (zix ts vs b).1/\(∀ p∈ts.zip vs,zs3 (zix ts vs b).1 p)/\∀ k:Nat,k<b.length->(iAt (zix ts vs b).1 k≠10↔iAt b k≠10\/(k:Int)∈ts)
 |[],vs,b,_,_,_,_=>⟨zpm b,by simp,by simp[zix]⟩
 |t::ts,[],b,h,_,_,hl=>by simp at hl
 | t::ts,v::vs,b,h,h1,h2,hl=>by
   rw[zpf]at h ⊢
   have hv:v≠10:=h2 v (by simp)
   have hts:∀ t∈ts,t<b.length:=fun u hu=>h1 u (by simp[hu])
   have hvs:∀ v∈vs,v≠10:=fun u hu=>h2 u (by simp[hu])
   have hl':ts.length=vs.length:=by simpa using hl
   by_cases ht:t<0
   . rw [if_pos ht]at h ⊢
     by_cases hc : -1 - t=v
     . rw[if_pos hc]at h ⊢
       obtain⟨g1,g2,g3⟩:=z019 h hts hvs hl'
       refine⟨g1,fun p hp=>?_,fun k hk=>?_⟩
       . rw[List.zip_cons_cons]at hp
         rcases List.mem_cons.mp hp with rfl|hp
         . unfold zs3;rw[if_pos ht];exact hc.symm
         . exact g2 p hp
       . rw[g3 k hk,List.mem_cons]
         have:¬ (k:Int)=t:=by omega
         simp[this]
     . rw[if_neg hc]at h;simp at h
   . rw [if_neg ht]at h ⊢
     have htb:t.toNat<b.length:=by have:=h1 t (by simp);omega
     by_cases hc:b.getD t.toNat 0=10\/b.getD t.toNat 0=v
     . rw [if_pos hc]at h ⊢
       have hlen:(b.set t.toNat v).length=b.length:=by simp
       obtain⟨g1,g2,g3⟩:=z019 h (by rw[hlen];exact hts) hvs hl'
       refine⟨⟨g1.1.trans hlen,fun k hk=>?_⟩,fun p hp=>?_,fun k hk=>?_⟩
       . by_cases hkt:k=t.toNat
         . subst hkt
           have hbv:iAt b t.toNat=v:=hc.resolve_left hk
           rw[g1.2 _ (by rw[zk3 htb,if_pos rfl];exact hv),zk3 htb,if_pos rfl,hbv]
         . have e:iAt (b.set t.toNat v) k=iAt b k:=by rw[zk3 htb,if_neg hkt]
           rw[g1.2 k (by rw[e];exact hk),e]
       . rw[List.zip_cons_cons]at hp
         rcases List.mem_cons.mp hp with rfl|hp
         . unfold zs3;rw[if_neg ht]
           have e:iAt (b.set t.toNat v) t.toNat=v:=by rw[zk3 htb,if_pos rfl]
           rw[g1.2 _ (by rw[e];exact hv),e]
         . exact g2 p hp
       . rw[g3 k (by rw[hlen];exact hk),zk3 htb,List.mem_cons]
         by_cases hkt:k=t.toNat
         . have:(k:Int)=t:=by omega
           simp[hkt,hv]
           omega
         . have:¬ (k:Int)=t:=by omega
           simp[hkt,this]
     . rw[if_neg hc]at h;simp at h
theorem z0ar {c c':List Int} {p:Int×Int} (hg:zre c c') (h:zs3 c p) (hv:p.2≠10):zs3 c' p:=by
 unfold zs3 at h ⊢
 split
 . rename_i ht;rw[if_pos ht]at h;exact h
 . rename_i ht;rw[if_neg ht]at h;rw[hg.2 _ (by rw[h];exact hv),h]
theorem z067 {v:Int} (h:zn6 v=true):v≠10:=by have:=inR_iff.mp h;omega
theorem z020:∀ {ts vs c s:List Int},ts.length=vs.length->(∀ p∈ts.zip vs,zs3 c p)->(∀ v∈vs,zn6 v=true)->(∀ t∈ts,t<c.length)->zbs (zgj c) ts s = .inr (s++vs)
 |[],[],c,s,_,_,_,_=>by simp[zbs]
 |[],v::vs,c,s,h,_,_,_=>by simp at h
 |t::ts,[],c,s,h,_,_,_=>by simp at h
 | t::ts,v::vs,c,s,h,h1,h2,h3=>by
   have hp:=h1 (t,v) (by simp)
   have hv:=h2 v (by simp)
   have e:zgj c s t = .inr (s++[v]):=by
    unfold zgj z04m
    unfold zs3 at hp
    simp only at hp
    by_cases ht:t<0
    . rw[if_pos ht]at hp
      rw[if_neg (by omega),<-hp,if_pos hv]
    . rw[if_neg ht]at hp
      have hlt:=h3 t (by simp)
      have hp:c.getD t.toNat 0=v:=hp
      rw[if_pos (by omega),if_neg (by omega),hp,if_pos hv]
   simp only[zbs,e]
   rw[z020 (by simpa using h) (fun p hp=>h1 p (by simp[hp])) (fun v hv=>h2 v (by simp[hv])) (fun t ht=>h3 t (by simp[ht]))]
   simp
theorem z03a {a f:z00} {c:List Int} (h1:a.1=f.1) (hl:a.2.1.length=f.2.1.length) (hz:∀ p∈a.2.1.zip f.2.1,zs3 c p) (hv:∀ v∈f.2.1,zn6 v=true) (ht:∀ t∈a.2.1,t<c.length):zbj a c=true/\inst a c=f:=by
 have:=z020 (s:=[]) hl hz hv ht
 unfold zbj inst
 rw[this,List.nil_append,h1]
 exact⟨rfl,rfl⟩
theorem zyz {fs:List z00} {w:List Int->List (List Int)} {a:z00} {b c:List Int}:∀ {l:List z00} {out:List (List Int)},c∈l.foldl (zmj fs w a b) out->c∈out\/∃ f∈l,a.1=f.1/\(zix a.2.1 f.2.1 b).2=true/\c∈w (zix a.2.1 f.2.1 b).1
 |[],out,h=>.inl h
 | f::l,out,h=>by
   rw[List.foldl_cons]at h
   rcases zyz h with h|⟨g,hg,h⟩
   . unfold zmj at h
     split at h
     . rename_i hc
       rcases List.mem_append.mp h with h|h
       . exact .inl h
       . exact .inr ⟨f,by simp,hc.1,hc.2,h⟩
     . exact .inl h
   . exact .inr ⟨g,by simp[hg],h⟩
theorem z064 {fs:List z00} (hv:∀ f∈fs,∀ v∈f.2.1,zn6 v=true):∀ {ats:List z00} {b c:List Int},c∈zg8 fs ats b->WOk fs ats->b.length=5->
  zre b c/\(∀ a∈ats,zbj a c=true/\inst a c∈fs)/\∀ k:Nat,k<5->(iAt c k≠10↔iAt b k≠10\/∃ a∈ats,(k:Int)∈a.2.1)
 | [],b,c,h,_,_=>by
   have:c=b:=by simpa [zg8]using h
   subst this
   exact⟨zpm _,by simp,by simp⟩
 | a::ats,b,c,h,hw,hb=>by
   rcases zyz (show c∈fs.foldl (zmj fs (zg8 fs ats) a b) [] from h)with h|⟨f,hf,h1,h2,h3⟩
   . simp at h
   have hrow:=hw.row a (by simp)
   have hlen:=hw.fit a (by simp) f hf h1
   obtain⟨g1,g2,g3⟩:=z019 h2 (fun t ht=>by have:=(hrow.2 t ht).2;omega) (fun v hv'=>z067 (hv f hf v hv')) hlen
   obtain⟨k1,k2,k3⟩:=z064 hv h3 hw.tail (by rw[zfe];exact hb)
   have hcl:c.length=5:=by rw[k1.1,zfe];exact hb
   refine⟨zxm g1 k1,fun a' ha=>?_,fun k hk=>?_⟩
   . rcases List.mem_cons.mp ha with rfl|ha
     . obtain⟨m1,m2⟩:=z03a (c:=c) h1 hlen (fun p hp=>z0ar k1 (g2 p hp) (z067 (hv f hf _ (List.of_mem_zip hp).2))) (hv f hf) (fun t ht=>by have:=(hrow.2 t ht).2;omega)
       exact⟨m1,m2 ▸ hf⟩
     . exact k2 a' ha
   . rw[k3 k hk,g3 k (by omega)]
     simp only[List.mem_cons,exists_eq_or_imp,or_assoc]
theorem z04x {x:z0d} (h:z35 x=true):∀ f∈x.2.1,∀ v∈f.2.1,zn6 v=true:=fun f hf=>(z3k (z7o h hf)).2.2.2.2.2
theorem mem_vars {ats:List z00} {k:Nat}:(k:Int)∈vars ats↔∃ a∈ats,(k:Int)∈a.2.1:=by
 unfold vars
 rw[mem_sset,List.mem_filter,List.mem_flatMap]
 simp
theorem z04j {x:z0d} {d:z0c} {b:List Int} (h:b∈zau x d.1):b.length=5/\z0d0 d b=true/\z00i x d b=true:=by
 have hb:=zi1 h
 unfold zau at h
 split at h
 . rename_i hm
   have hw:=(zpk hm).1
   have hx:z35 x=true:=by unfold mOk at hm;simp only[Bool.and_eq_true]at hm;exact hm.2.1
   rcases zw6 h with h|h
   . simp at h
   obtain⟨_,h2,h3⟩:=z064 (z04x hx) h hw rfl
   refine⟨hb,?_,?_⟩
   . unfold z0d0
     refine List.all_eq_true.mpr fun k hk=>?_
     have hk:k<5:=by rw[hb]at hk;exact List.mem_range.mp hk
     have e:=h3 k hk
     have hbl:iAt zat k=10:=by
      rcases k with _|_|_|_|_|k<;>first|rfl|omega
     rw[<-mem_vars]at e
     simp only[hbl,ne_eq,not_true,false_or]at e
     by_cases hm:(k:Int)∈vars d.1
     . rw[decide_eq_true hm,show(iAt b k == 10)=false from beq_eq_false_iff_ne.mpr (e.mpr hm)];rfl
     . have:iAt b k=10:=Classical.byContradiction fun h'=>hm (e.mp h')
       rw[decide_eq_false hm,this];rfl
   . unfold z00i
     refine List.all_eq_true.mpr fun a ha=>?_
     obtain⟨m1,m2⟩:=h2 a ha
     rw[m1,decide_eq_true m2];rfl
 . simp at h
theorem z04l {x y:z0d} {d:z0c} {b:List Int} (hxy:∀ f∈x.2.1,f∈y.2.1) (h:z00i x d b=true):z00i y d b=true:=by
 unfold z00i at h ⊢
 refine List.all_eq_true.mpr fun a ha=>?_
 have:=List.all_eq_true.mp h a ha
 rw[Bool.and_eq_true,decide_eq_true_eq]at this
 rw[this.1,decide_eq_true (hxy _ this.2)];rfl
theorem zxf {b:List Int}:∀ {ts s s':List Int},zbs (zgj b) ts s = .inr s'->s'=s++ts.map (fun t=>if 0<=t then iAt b t.toNat else -1 - t)/\(∀ t∈ts,zn6 (if 0<=t then iAt b t.toNat else -1 - t)=true)
 |[],s,s',h=>by simp only[zbs,Sum.inr.injEq]at h;subst h;simp
 | t::ts,s,s',h=>by
   simp only[zbs]at h
   cases e:zgj b s t with
   |inl _=>rw[e]at h;simp at h
   | inr s1=>
     rw[e]at h
     obtain⟨h1,h2⟩:=zxf h
     have h3:s1=s++[if 0<=t then iAt b t.toNat else -1 - t]/\zn6 (if 0<=t then iAt b t.toNat else -1 - t)=true:=by
      unfold zgj z04m at e
      by_cases ht:0<=t
      . rw [if_pos ht]at e ⊢
        by_cases hl:(b.length:Int)<=t
        . rw[if_pos hl]at e;simp at e
        . rw[if_neg hl]at e
          by_cases hv:zn6 (b.getD t.toNat 0)=true
          . rw[if_pos hv]at e
            simp only[Sum.inr.injEq]at e
            exact⟨e.symm,hv⟩
          . rw[if_neg hv]at e;simp at e
      . rw[if_neg ht]at e ⊢
        by_cases hv:zn6 (-1 - t)=true
        . rw[if_pos hv]at e
          simp only[Sum.inr.injEq]at e
          exact⟨e.symm,hv⟩
        . rw[if_neg hv]at e;simp at e
     refine⟨by rw[h1,h3.1];simp,fun u hu=>?_⟩
     rcases List.mem_cons.mp hu with rfl|hu
     . exact h3.2
     . exact h2 u hu
theorem z0d3 {a:z00} {b:List Int} (h:zbj a b=true):(inst a b).1=a.1/\(inst a b).2.1=a.2.1.map (fun t=>if 0<=t then iAt b t.toNat else -1 - t)/\∀ t∈a.2.1,zn6 (if 0<=t then iAt b t.toNat else -1 - t)=true:=by
 unfold zbj at h
 unfold inst
 cases e:zbs (zgj b) a.2.1 []with
 |inl r=>rw[e]at h;simp at h
 | inr s=>
   obtain⟨h1,h2⟩:=zxf e
   exact⟨rfl,by simpa using h1,h2⟩
theorem zqz {x:z0d} {f:z00} (hf:f∈x.2.1) {v:Int} (hv:v∈f.2.1) (hn:z8i v=true):z4r v<zhh x:=by
 have hr:=z00z x
 have hk:z4r v∈zga x:=by
  unfold zga
  rw[mem_sset,List.mem_flatMap]
  refine⟨f,hf,mem_nulls.mpr ?_⟩
  have:=isNul_iff.mp hn
  have e:z4r v = -1 - v:=by unfold z4r;rw[if_pos hn]
  rw[e]
  exact⟨by omega,by omega,by rw[show -1 - (-1 - v)=v by omega];exact hv⟩
 have:=nextN_le (x:=x) (n:=(zhh x).toNat) |>.mp (by omega) _ hk
 omega
theorem z02y {x:z0d} {d:z0c} {b:List Int} (hF:z00i x d b=true) {k:Nat} (hk:(k:Int)∈vars d.1):zn6 (iAt b k)=true/\(z8i (iAt b k)=true->z4r (iAt b k)<zhh x):=by
 obtain⟨a,ha,hka⟩:=mem_vars.mp hk
 have:=List.all_eq_true.mp hF a ha
 rw[Bool.and_eq_true,decide_eq_true_eq]at this
 obtain⟨_,h2,h3⟩:=z0d3 this.1
 have e:(if (0:Int)<=(k:Int)then iAt b (k:Int).toNat else -1 - (k:Int))=iAt b k:=by rw[if_pos (by omega),Int.toNat_natCast]
 have h4:=h3 _ hka
 rw[e]at h4
 refine⟨h4,fun hn=>zqz this.2 ?_ hn⟩
 rw[h2]
 exact List.mem_map.mpr ⟨_,hka,e⟩
theorem zwu {m:Int} (h:0<=m):zgx m 0=m:=by unfold zgx;split<;>omega
theorem z0ea {m n:Int}:m<=zgx m n:=by unfold zgx;split<;>omega
theorem z0ao {dp:List Int} {m v:Int} (h:0<=m):zrb dp m v=zgx m (if z8i v then dp.getD (z4r v).toNat 0 else 0):=by
 unfold zrb
 have hn:=zhb v
 split
 . split
   . rfl
   . rename_i h2
     rw[List.getD_eq_getElem?_getD,List.getElem?_eq_none (by omega)]
     exact(zwu h).symm
 . exact(zwu h).symm
theorem zti {dp:List Int}:∀ {l:List Int} {m:Int},0<=m->l.foldl (zrb dp) m=l.foldl (fun m v=>zgx m (if z8i v then dp.getD (z4r v).toNat 0 else 0)) m
 |[],m,_=>rfl
 | v::l,m,h=>by
   rw[List.foldl_cons,List.foldl_cons,z0ao h]
   exact zti (Int.le_trans h z0ea)
theorem z09e {dp:List Int} {l:List Int}:l.foldl (zrb dp) 0+1=z8b dp l:=by
 rw[zti (Int.le_refl 0),zmk (g:=fun k=>dp.getD k.toNat 0) (Int.le_refl 0)]
 rfl
theorem z09o (l m:List z0a):∃ r,z24 (l++m)=z24 l++r:=by
 induction m generalizing l with
 |nil=>exact⟨[],by simp⟩
 | cons a m ih=>
   obtain⟨r,hr⟩:=ih (l++[a])
   rw[List.append_assoc,z8n,List.append_assoc]at hr
   exact⟨_,hr⟩
theorem zyq {out args:List Int} {n:Nat} (h:∀ d∈out,0<=d/\d<=n):0<=z8b out args/\z8b out args<=n+1:=by
 unfold z8b
 have h0:=zhn (fun k=>out.getD k.toNat 0) (z2q args)
 have:mx (fun k=>out.getD k.toNat 0) (z2q args)<=n:=mx_le.mpr ⟨by omega,fun k _=>by
  by_cases hk:k.toNat<out.length
  . rw[z29 hk];exact(h _ (List.getElem_mem hk)).2
  . rw[List.getD_eq_getElem?_getD,List.getElem?_eq_none (by omega)];simp⟩
 omega
theorem z0b6 (n:Nat):∀(l:List z0a),l.length=n->∀ d∈z24 l,0<=d/\d<=l.length:=by
 induction n with
 |zero=>intro l hl;obtain rfl:=List.length_eq_zero_iff.mp hl;simp[z24]
 | succ n ih0=>
   intro l0 hl d hd
   have hne:l0≠[]:=by intro e;rw[e]at hl;simp at hl
   obtain⟨l,t,rfl⟩:∃ l t,l0=l++[t]:=⟨_,_,(List.dropLast_concat_getLast hne).symm⟩
   have ih:=ih0 l (by simpa using hl)
   rw[z8n]at hd
   rw[List.length_append]
   simp only[List.length_cons,List.length_nil]
   rcases List.mem_append.mp hd with hd|hd
   . have:=ih d hd;omega
   . have e:d=z8b (z24 l) t.2.2.1:=by simpa using hd
     rw[e]
     have:=zyq (args:=t.2.2.1) ih
     omega
theorem z0ab (n:Nat):∀(l:List z0a),l.length=n->n<=1000->l.foldl z009 []=z24 l:=by
 induction n with
 |zero=>intro l hl _;obtain rfl:=List.length_eq_zero_iff.mp hl;rfl
 | succ n ih0=>
   intro l0 hl h31
   have hne:l0≠[]:=by intro e;rw[e]at hl;simp at hl
   obtain⟨l,t,rfl⟩:∃ l t,l0=l++[t]:=⟨_,_,(List.dropLast_concat_getLast hne).symm⟩
   have hln:l.length=n:=by simpa using hl
   rw[List.foldl_append,ih0 l hln (by omega),z8n]
   simp only[List.foldl_cons,List.foldl_nil]
   unfold z009
   rw[z09e]
   have:=zyq (args:=t.2.2.1) (z0b6 _ l rfl)
   rw[z2s (by omega) (by omega)]
theorem zwp {s:TSk} {t:z0a} (hl:s.2.1.length<=30):zc2 s t (z8b (z24 s.2.1) t.2.2.1):=by
 have:=znd (s:=s) (t:=t) hl
 rw[z0ab _ _ rfl (by simp;omega),z8n]at this
 have e:(z24 s.2.1++[z8b (z24 s.2.1) t.2.2.1]).getD s.2.1.length 0=z8b (z24 s.2.1) t.2.2.1:=by
  have hd:=zzl s.2.1
  rw[List.getD_eq_getElem?_getD,List.getElem?_append_right (by omega),hd]
  simp
 rw[e]at this
 exact this
def zny (s:TSk) (t:z0a):TSk×Int×Bool:=if t∈s.2.1 then(s,-1 - zb4 s.2.1 t,true)else if s.2.1.length=30\/8<z8b (z24 s.2.1) t.2.2.1 then(s,0,false)else((s.1,(s.2.1++[t],s.2.2)),-1 - (s.2.1.length:Int),true)
theorem zwt {s:TSk} {t:z0a} (hl:s.2.1.length<=30):za7 s t (zny s t).1 (zny s t).2.1 (zny s t).2.2:=by
 by_cases hm:t∈s.2.1
 . have e:zny s t=(s,-1 - zb4 s.2.1 t,true):=by unfold zny;rw[if_pos hm]
   rw[e]
   exact z91 hl _ _ _ (fun _=>⟨rfl,rfl,rfl⟩) (fun h=>absurd hm h)
 . have hy:=zwp (s:=s) (t:=t) hl
   by_cases h30:s.2.1.length=30
   . have e:zny s t=(s,0,false):=by unfold zny;rw[if_neg hm,if_pos (.inl h30)]
     rw[e]
     exact z91 hl _ _ _ (fun h=>absurd h hm) (fun _=>z0j fun _=>z32 (fun _=>rfl) (fun h=>by omega))
   . by_cases h8:z8b (z24 s.2.1) t.2.2.1 > 8
     . have e:zny s t=(s,0,false):=by unfold zny;rw[if_neg hm,if_pos (.inr h8)]
       rw[e]
       exact z91 hl _ _ _ (fun h=>absurd h hm) (fun _=>z0j fun _=>z32 (fun h=>by omega) (fun _=>⟨_,hy,z08 (fun _=>rfl) (fun h=>absurd h8 h)⟩))
     . have e:zny s t=((s.1,(s.2.1++[t],s.2.2)),-1 - (s.2.1.length:Int),true):=by unfold zny;rw[if_neg hm,if_neg (by rintro (h|h);exact h30 h;exact h8 h)]
       rw[e]
       refine z91 hl _ _ _ (fun h=>absurd h hm) (fun _=>z0j fun _=>z32 (fun h=>by omega) (fun _=>⟨_,hy,z08 (fun h=>absurd h h8) (fun _=>⟨trivial,trivial,by simp only[z0w,List.length_nil];omega,by simp only[z0w,List.length_append,List.length_cons,List.length_nil];omega,z0j fun _=>⟨-1 - (s.2.1.length:Int),?_,rfl⟩⟩)⟩))
       have e:w64 ((List.length ((([]:List z0a)++s.2.1)++([t]:List z0a)):Int) - (1:Int))=(s.2.1.length:Int):=by
        rw[z2s]<;>simp<;>omega
       rw[e]
       exact zdb (by omega) (by omega)
theorem z00p {l m:List z0a} {k:Nat} (hk:k<l.length):z8c (l++m) k=z8c l k:=by
 have e:zdr (l++m) k=zdr l k:=by rw[z67 (by rw[List.length_append];omega),z67 hk,List.getElem_append_left hk]
 unfold z8c
 rw[e,List.take_append_of_le_length (by omega)]
theorem z08y {ts:List z0a} {t:z0a} (h:zj2 ts=true) (hl:ts.length<30) (h1:inR t.1 0 4=true) (h2:inR t.2.1 0 4=true) (h3:t.2.2.1.length<=5) (h4:t.2.2.1.all (zak ts.length)=true) (h5:t∉ts) (h8:z8b (z24 ts) t.2.2.1<=8):zj2 (ts++[t])=true:=by
 unfold zj2 at h ⊢
 simp only[Bool.and_eq_true,decide_eq_true_eq]at h ⊢
 obtain⟨⟨_,g2⟩,g3⟩:=h
 refine⟨⟨by simp;omega,List.all_eq_true.mpr fun k hk=>?_⟩,?_⟩
 . have hk:k<ts.length+1:=by simpa using hk
   by_cases hkl:k<ts.length
   . rw[z00p hkl];exact List.all_eq_true.mp g2 k (List.mem_range.mpr hkl)
   . obtain rfl:k=ts.length:=by omega
     unfold z8c
     have e:zdr (ts++[t]) ts.length=t:=by rw[z67 (by simp)];simp
     rw[e,h1,h2,h4,decide_eq_true h3,List.take_append_of_le_length (Nat.le_refl _),List.take_length,ze6,decide_eq_false h5];rfl
 . rw[z8n,List.all_append,g3]
   simpa using h8
theorem z095 {d:z0c} {i:Int} {b:List Int}:∀ {l:List Int} {s:List z0a×List Int},∃ r,(l.foldl (hdG d i b) s).1=s.1++r
 |[],s=>⟨[],by simp⟩
 | v::l,s=>by
   rw[List.foldl_cons]
   obtain⟨r,hr⟩:=z095 (d:=d) (i:=i) (b:=b) (l:=l) (s:=hdG d i b s v)
   rw[hr]
   unfold hdG
   split
   . exact⟨r,rfl⟩
   . exact⟨_,by rw[List.append_assoc]⟩
def zj3 (d:z0c) (i:Int) (b:List Int) (st:List z0a×List Int) (v:Int):Unit ⊕ (List z0a×List Int):=
 if zj1 d i b v∈st.1 then .inr (hdG d i b st v)else if st.1.length=30\/8<z8b (z24 st.1) (z8m d b)then .inl ()else .inr (hdG d i b st v)
theorem zpb {d:z0c} {i:Int} {b:List Int} {st st':List z0a×List Int} {v:Int} (h:zj3 d i b st v = .inr st'):st'=hdG d i b st v:=by
 unfold zj3 at h
 split at h
 . exact(Sum.inr.inj h).symm
 . split at h
   . cases h
   . exact(Sum.inr.inj h).symm
theorem zrm {d:z0c} {i:Int} {b:List Int}:∀ {l:List Int} {st st':List z0a×List Int},zbs (zj3 d i b) l st = .inr st'->st'=l.foldl (hdG d i b) st
 |[],st,st',h=>by simp only[zbs,Sum.inr.injEq]at h;exact h.symm
 | v::l,st,st',h=>by
   simp only[zbs]at h
   cases e:zj3 d i b st v with
   |inl _=>rw[e]at h;simp at h
   |inr s1=>rw[e]at h;rw[List.foldl_cons,<-zpb e];exact zrm h
theorem zw3 {d:z0c} {i:Int} {b:List Int} (hi:inR i 0 4=true) (hfr:(z8m d b).length<=5):∀ {l:List Int} {st st':List z0a×List Int},(∀ v∈l,inR v 0 4=true)->(z8m d b).all (zak st.1.length)=true->zj2 st.1=true->zbs (zj3 d i b) l st = .inr st'->zj2 st'.1=true
 |[],st,st',_,_,h,hr=>by simp only[zbs,Sum.inr.injEq]at hr;subst hr;exact h
 | v::l,st,st',hv,ha,h,hr=>by
   simp only[zbs]at hr
   cases e:zj3 d i b st v with
   |inl _=>rw[e]at hr;simp at hr
   | inr s1=>
     rw[e]at hr
     have e1:=zpb e
     have hlt:=zfg h
     have key:zj2 s1.1=true/\st.1.length<=s1.1.length:=by
      unfold zj3 at e
      by_cases hm:zj1 d i b v∈st.1
      . have:s1.1=st.1:=by rw[e1];unfold hdG;rw[if_pos hm]
        rw[this];exact⟨h,Nat.le_refl _⟩
      . rw[if_neg hm]at e
        by_cases hc:st.1.length=30\/8<z8b (z24 st.1) (z8m d b)
        . rw[if_pos hc]at e;cases e
        . have:s1.1=st.1++[zj1 d i b v]:=by rw[e1];unfold hdG;rw[if_neg hm]
          rw[this]
          have h30:¬ st.1.length=30:=fun h'=>hc (.inl h')
          have h8:¬ 8<z8b (z24 st.1) (z8m d b):=fun h'=>hc (.inr h')
          exact⟨z08y h (by omega) hi (hv v (by simp)) hfr ha hm (by unfold zj1;simp only;omega),by simp⟩
     refine zw3 hi hfr (fun u hu=>hv u (by simp[hu])) (List.all_eq_true.mpr fun w hw=>?_) key.1 hr
     have:=List.all_eq_true.mp ha w hw
     unfold zak at this ⊢
     rw[Bool.and_eq_true]at this
     rw[this.1,Bool.true_and]
     have h2:=this.2
     cases hn:z8i w with
     |false=>rfl
     | true=>
       rw[hn,Bool.true_and]at h2
       have h2:¬ (st.1.length:Int)<=z4r w:=by simpa using h2
       have:¬ (s1.1.length:Int)<=z4r w:=by omega
       simp[this]
theorem z02c {d:z0c} {i:Int} {b:List Int} {r:Unit}:∀ {l:List Int} {st:List z0a×List Int},zbs (zj3 d i b) l st = .inl r->zj2 (l.foldl (hdG d i b) st).1=false
 |[],st,h=>by simp[zbs]at h
 | v::l,st,h=>by
   simp only[zbs]at h
   rw[List.foldl_cons]
   cases e:zj3 d i b st v with
   |inr s1=>rw[e]at h;rw[<-zpb e];exact z02c h
   | inl _=>
     obtain⟨r',hr⟩:=z095 (d:=d) (i:=i) (b:=b) (l:=l) (s:=hdG d i b st v)
     rw[hr]
     unfold zj3 at e
     by_cases hm:zj1 d i b v∈st.1
     . rw[if_pos hm]at e;cases e
     . rw [if_neg hm]at e
       by_cases hc:st.1.length=30\/8<z8b (z24 st.1) (z8m d b)
       . have:(hdG d i b st v).1=st.1++[zj1 d i b v]:=by unfold hdG;rw[if_neg hm]
         rw[this,Bool.eq_false_iff]
         intro ha
         rcases hc with hc|hc
         . have:=zfg ha
           simp only[List.length_append,List.length_cons,List.length_nil]at this
           omega
         . unfold zj2 at ha
           simp only[Bool.and_eq_true]at ha
           obtain⟨r2,hr2⟩:=z09o (st.1++[zj1 d i b v]) r'
           rw[hr2,z8n]at ha
           have:=List.all_eq_true.mp ha.2 (z8b (z24 st.1) (zj1 d i b v).2.2.1) (by simp)
           have:z8b (z24 st.1) (z8m d b)<=8:=of_decide_eq_true this
           omega
       . rw[if_neg hc]at e;cases e
theorem zoi {d:z0c} {i:Int} {b:List Int}:∀ {l:List Int} {st:List z0a×List Int},(∀ v∈l,0<=v/\v<5)->st.2.length=5->
  (l.foldl (hdG d i b) st).2.length=5/\∀ k:Nat,k<5->((k:Int)∈l->∃ n:Int,iAt (l.foldl (hdG d i b) st).2 k = -1 - n/\0<=n/\n<((l.foldl (hdG d i b) st).1.length:Int))/\((k:Int)∉l->iAt (l.foldl (hdG d i b) st).2 k=iAt st.2 k)
 |[],st,_,h5=>⟨h5,fun k _=>⟨by simp,by simp⟩⟩
 | v::l,st,hv,h5=>by
   rw[List.foldl_cons]
   have hvr:=hv v (by simp)
   have hset:∃ n:Int,(hdG d i b st v).2=st.2.set v.toNat (-1 - n)/\0<=n/\n<((hdG d i b st v).1.length:Int):=by
    unfold hdG
    split
    . rename_i hm
      have:=zx4 hm
      exact⟨_,rfl,this.1,this.2⟩
    . exact⟨_,rfl,by omega,by simp;omega⟩
   obtain⟨n,e1,e2,e3⟩:=hset
   have h5':(hdG d i b st v).2.length=5:=by rw[z02l];exact h5
   obtain⟨g1,g2⟩:=zoi (d:=d) (i:=i) (b:=b) (l:=l) (st:=hdG d i b st v) (fun u hu=>hv u (by simp[hu])) h5'
   have hge:=z03n (d:=d) (i:=i) (b:=b) (l:=l) (s:=hdG d i b st v)
   refine⟨g1,fun k hk=>?_⟩
   obtain⟨q1,q2⟩:=g2 k hk
   refine⟨fun hm=>?_,fun hm=>?_⟩
   . by_cases hkl:(k:Int)∈l
     . exact q1 hkl
     . have hkv:(k:Int)=v:=(List.mem_cons.mp hm).resolve_right hkl
       refine⟨n,?_,e2,by omega⟩
       rw[q2 hkl,e1,zk3 (by omega),if_pos (by omega)]
   . have hkl:(k:Int)∉l:=fun h=>hm (by simp[h])
     have hkv:¬ (k:Int)=v:=fun h=>hm (by simp[h])
     rw[q2 hkl,e1,zk3 (by omega),if_neg (by omega)]
def zgg (s:TSk) (d:z0c) (i:Int) (b:List Int):TSk:=((s.1.1,(zta (s.1.2.1++zdu d (hdS s.2.1 d i b).2),())),((hdS s.2.1 d i b).1,()))
theorem zpo (d:z0c) (vs:List Int):zdu d vs=d.2.1.map fun a=>inst a vs:=by unfold zdu;rw[zi6,List.nil_append]
theorem z0aq {l:List z0r} {fs:List z00} (h1:z9w l=true) (h2:asc fs) (h3:fs.length<=30) (h4:∀ f∈fs,znx l f=true/\(z9o l f.1=true->zyj f=[])):z35 (l,(fs,()))=true:=by
 rw[zqw (x:=(l,(fs,()))) fun i hi=>?_]
 . simp only[h1,Bool.true_and];exact decide_eq_true h3
 . have hi:i<fs.length:=hi
   have hf:=h4 _ (List.getElem_mem hi)
   rw[zan (x:=(l,(fs,()))) hi hf.1 (fun h0=>by simp only;rw[z3p (by omega)];exact h2 _ _ hi (by omega))]
   simp only
   cases hs:z9o l fs[i].1 with
   |false=>rfl
   |true=>rw[hf.2 hs];rfl
theorem z075 {x:z0d} (h:z35 x=true) {f:z00} (hf:f∈x.2.1) (hs:z9o x.1 f.1=true):zyj f=[]:=by
 unfold z35 at h
 rw[Bool.and_eq_true]at h
 obtain⟨i,hi,rfl⟩:=List.mem_iff_getElem.mp hf
 have:=List.all_eq_true.mp h.2 i (List.mem_range.mpr hi)
 unfold z8g at this
 rw[Bool.and_eq_true,z3p hi,hs,Bool.true_and]at this
 have h2:=this.2
 simp at h2
 exact h2
theorem z0dp {a:z00} {c:List Int} (h:∀ t∈a.2.1,zn6 (if 0<=t then iAt c t.toNat else -1 - t)=true) (ht:∀ t∈a.2.1,t<c.length):zbj a c=true/\inst a c=(a.1,(a.2.1.map (fun t=>if 0<=t then iAt c t.toNat else -1 - t),())):=by
 refine z03a (a:=a) (c:=c) (f:=(a.1,(a.2.1.map (fun t=>if 0<=t then iAt c t.toNat else -1 - t),()))) rfl (by simp) (fun p hp=>?_) (fun v hv=>?_) ht
 . simp only at hp
   obtain⟨j,hj,rfl⟩:=List.mem_iff_getElem.mp hp
   rw[List.getElem_zip,List.getElem_map]
   unfold zs3
   simp only
   split
   . rename_i h0;rw[if_neg (by omega)]
   . rename_i h0;rw[if_pos (by omega)]
 . obtain⟨t,ht',rfl⟩:=List.mem_map.mp hv
   exact h t ht'
structure FireOk (s:TSk) (ds:List z0c) (d:z0c) (i:Nat) (b:List Int):Prop where
 sk:vSk s=true
 pl:z4f s.1.1 ds=true
 at_:ds[i]? = some d
 b5:b.length=5
 tB:z0d0 d b=true
 tF:z00i s.1 d b=true
theorem zcd {l:List z0r} {ds:List z0c} (h:z4f l ds=true) {d:z0c} (hd:d∈ds):ziv l d=true/\d.2.2.1=false/\ds.length<=5:=by
 unfold z4f at h
 rw[Bool.and_eq_true]at h
 refine⟨zr8 h.1 hd,?_,zkt h.1⟩
 cases he:d.2.2.1 with
 |false=>rfl
 | true=>
   have:(ds.any fun d=>d.2.2.1)=true:=List.any_eq_true.mpr ⟨d,hd,he⟩
   rw[this]at h;simp at h
theorem z04y {l:List z0r} {d:z0c} (h:ziv l d=true) (he:d.2.2.1=false):∀ a∈d.2.1,z6l l a=true/\z9o l a.1=false:=by
 unfold ziv at h
 rw[he]at h
 simp only[Bool.and_eq_true,Bool.false_eq_true,if_false]at h
 intro a ha
 have:=List.all_eq_true.mp h.2.1.1.1 a ha
 rw[Bool.and_eq_true]at this
 exact⟨this.1,by simpa using this.2⟩
theorem z05l {l:List Int} (p:Int->Bool) (h:srt l):srt (l.filter p):=List.Pairwise.filter p h
theorem z03e {l:List z0r} {d:z0c} (h:ziv l d=true):(frV d).length<=5:=by
 have hs:=zal h
 refine zyw (a:=0) (n:=5) (z05l _ (zl5 _)) fun y hy=>?_
 have:=zhz hs.2.2.2.2.1 (List.mem_filter.mp hy).1
 omega
theorem z044 (d:z0c) (b:List Int):z8m d b=(frV d).map fun v=>b.getD v.toNat 0:=by unfold z8m;rw[zi6,List.nil_append]
section
variable {s:TSk} {ds:List z0c} {d:z0c} {i:Nat} {b:List Int}
theorem FireOk.lt (h:FireOk s ds d i b):i<ds.length/\d∈ds:=by
 have:=h.at_
 obtain⟨hi,e⟩:=List.getElem?_eq_some_iff.mp this
 exact⟨hi,e ▸ List.getElem_mem hi⟩
theorem FireOk.args (h:FireOk s ds d i b):(z8m d b).length<=5/\(z8m d b).all (zak s.2.1.length)=true:=by
 obtain⟨hd,_,_⟩:=zcd h.pl h.lt.2
 have hs:=zal hd
 rw[z044]
 refine⟨by rw[List.length_map];exact z03e hd,List.all_eq_true.mpr fun w hw=>?_⟩
 obtain⟨v,hv,rfl⟩:=List.mem_map.mp hw
 have h1:=List.mem_filter.mp hv
 have h2:v∈vars d.1:=of_decide_eq_true h1.2
 have h3:=zhz hs.2.2.1 h2
 have:=z02y (k:=v.toNat) h.tF (by rw[show((v.toNat:Nat):Int)=v by omega];exact h2)
 have hn:=(z6w h.sk).2.1
 show zak s.2.1.length (iAt b v.toNat)=true
 unfold zak
 rw[this.1,Bool.true_and]
 cases hz:z8i (iAt b v.toNat)with
 |false=>rfl
 | true=>
   have:=this.2 hz
   have:¬ (s.2.1.length:Int)<=z4r (iAt b v.toNat):=by omega
   simp[this]
theorem FireOk.hdLen (h:FireOk s ds d i b):(hdS s.2.1 d i b).2.length=5/\(hdS s.2.1 d i b).1.length<=36/\s.2.1.length<=(hdS s.2.1 d i b).1.length:=by
 obtain⟨hd,_,_⟩:=zcd h.pl h.lt.2
 have h6:=z0dl hd
 have ht:=zfg (z6w h.sk).2.2
 have h1:=(zoi (d:=d) (i:=i) (b:=b) (l:=exV d) (st:=(s.2.1,b)) (fun v hv=>zet hd hv) h.b5).1
 have h2:=z7s (l:=exV d) (g:=hdG d i b) (s:=(s.2.1,b)) (μ:=fun st=>st.1.length) (c:=1) fun st v _=>z022 d i b st v
 have h3:=z03n (d:=d) (i:=i) (b:=b) (l:=exV d) (s:=(s.2.1,b))
 simp only at h2 h3
 exact⟨h1,by unfold hdS;omega,h3⟩
theorem FireOk.vals (h:FireOk s ds d i b) {a:z00} (ha:a∈d.2.1) {t:Int} (ht:t∈a.2.1) :
  zn6 (if 0<=t then iAt (hdS s.2.1 d i b).2 t.toNat else -1 - t)=true/\(z8i (if 0<=t then iAt (hdS s.2.1 d i b).2 t.toNat else -1 - t)=true->z4r (if 0<=t then iAt (hdS s.2.1 d i b).2 t.toNat else -1 - t)<(hdS s.2.1 d i b).1.length):=by
 obtain⟨hd,he,_⟩:=zcd h.pl h.lt.2
 have hs:=zal hd
 have hrow:=zut (hs.2.2.2.2.1 a ha)
 have htr:=hrow.2 t ht
 obtain⟨_,hl2,hl3⟩:=h.hdLen
 by_cases h0:0<=t
 . rw[if_pos h0]
   obtain⟨g1,g2⟩:=(zoi (d:=d) (i:=i) (b:=b) (l:=exV d) (st:=(s.2.1,b)) (fun v hv=>zet hd hv) h.b5).2 t.toNat (by omega)
   rw[show((t.toNat:Nat):Int)=t by omega]at g1 g2
   by_cases hx:t∈exV d
   . obtain⟨n,e1,e2,e3⟩:=g1 hx
     have e1:iAt (hdS s.2.1 d i b).2 t.toNat = -1 - n:=e1
     have e3:n<((hdS s.2.1 d i b).1.length:Int):=e3
     rw[e1]
     have hn:z8i (-1 - n)=true:=isNul_iff.mpr ⟨by omega,by omega⟩
     refine⟨inR_iff.mpr ⟨by omega,by omega⟩,fun _=>?_⟩
     unfold z4r;rw[if_pos hn];omega
   . have e1:iAt (hdS s.2.1 d i b).2 t.toNat=iAt b t.toNat:=g2 hx
     rw[e1]
     have htv:t∈vars d.2.1:=by
      rw[show t=((t.toNat:Nat):Int) by omega,mem_vars]
      exact⟨a,ha,by rw[show((t.toNat:Nat):Int)=t by omega];exact ht⟩
     have htb:t∈vars d.1:=by
      refine Classical.byContradiction fun hn=>hx ?_
      unfold exV
      exact List.mem_filter.mpr ⟨htv,by simp[hn]⟩
     have:=z02y (k:=t.toNat) h.tF (by rw[show((t.toNat:Nat):Int)=t by omega];exact htb)
     have hn:=(z6w h.sk).2.1
     exact⟨this.1,fun hz=>by have:=this.2 hz;omega⟩
 . rw[if_neg h0]
   refine⟨inR_iff.mpr ⟨by omega,by omega⟩,fun hn=>?_⟩
   have:=isNul_iff.mp hn
   omega
theorem FireOk.head (h:FireOk s ds d i b) {f:z00} (hf:f∈zdu d (hdS s.2.1 d i b).2):znx s.1.1 f=true/\(z9o s.1.1 f.1=true->zyj f=[])/\(∀ v∈f.2.1,z8i v=true->z4r v<(hdS s.2.1 d i b).1.length)/\f.2.1.length<=3:=by
 obtain⟨hd,he,_⟩:=zcd h.pl h.lt.2
 rw[zpo]at hf
 obtain⟨a,ha,rfl⟩:=List.mem_map.mp hf
 obtain⟨hva,hsrc⟩:=z04y hd he a ha
 have hrow:=zut hva
 obtain⟨hl1,_,_⟩:=h.hdLen
 obtain⟨_,e⟩:=z0dp (a:=a) (c:=(hdS s.2.1 d i b).2) (fun t ht=>(h.vals ha ht).1) (fun t ht=>by have:=(hrow.2 t ht).2;omega)
 rw[e]
 refine⟨?_,fun hs=>?_,fun v hv hn=>?_,by simpa using hrow.1⟩
 . unfold znx zwn
   have hva':=hva
   unfold z6l zwn at hva'
   simp only[Bool.and_eq_true]at hva' ⊢
   refine⟨⟨⟨hva'.1.1.1,hva'.1.1.2⟩,by simpa using hva'.1.2⟩,List.all_eq_true.mpr fun v hv=>?_⟩
   obtain⟨t,ht,rfl⟩:=List.mem_map.mp hv
   exact(h.vals ha ht).1
 . rw[hsrc]at hs;cases hs
 . obtain⟨t,ht,rfl⟩:=List.mem_map.mp hv
   exact(h.vals ha ht).2 hn
theorem FireOk.inst (h:FireOk s ds d i b):z35 (zgg s d i b).1=decide ((zgg s d i b).1.2.1.length<=30)/\zhh (zgg s d i b).1<=(hdS s.2.1 d i b).1.length/\∀ f∈(zgg s d i b).1.2.1,f.2.1.length<=3:=by
 have hx:=(z6g h.sk).1
 have hmem:∀ f∈(zgg s d i b).1.2.1,f∈s.1.2.1\/f∈zdu d (hdS s.2.1 d i b).2:=fun f hf=>List.mem_append.mp (facS_mem.mp hf)
 refine⟨?_,?_,fun f hf=>?_⟩
 . by_cases hl:(zgg s d i b).1.2.1.length<=30
   . rw[decide_eq_true hl]
     refine z0aq (zep hx) (z02z _) hl fun f hf=>?_
     rcases hmem f hf with hf|hf
     . exact⟨z7o hx hf,z075 hx hf⟩
     . exact⟨(h.head hf).1,(h.head hf).2.1⟩
   . rw[decide_eq_false hl,Bool.eq_false_iff]
     exact fun h'=>hl (z54 h')
 . refine nextN_le.mpr fun k hk=>?_
   unfold zga at hk
   rw[mem_sset,List.mem_flatMap]at hk
   obtain⟨f,hf,hk⟩:=hk
   obtain⟨k1,k2,k3⟩:=mem_nulls.mp hk
   have hn:z8i (-1 - k)=true:=isNul_iff.mpr ⟨by omega,by omega⟩
   have hno:z4r (-1 - k)=k:=by unfold z4r;rw[if_pos hn];omega
   rcases hmem f hf with hf|hf
   . have h1:=zqz hf k3 hn
     have h2:=(z6w h.sk).2.1
     have h3:=h.hdLen.2.2
     omega
   . have:=(h.head hf).2.2.1 _ k3 hn
     omega
 . rcases hmem f hf with hf|hf
   . exact(z3k (z7o hx hf)).2.2.2.2.1
   . exact(h.head hf).2.2.2
theorem FireOk.next (h:FireOk s ds d i b):vSk (zgg s d i b)=(zj2 (hdS s.2.1 d i b).1&&decide ((zgg s d i b).1.2.1.length<=30)):=by
 obtain⟨h1,h2,_⟩:=h.inst
 unfold vSk
 have e:(zgg s d i b).2.1=(hdS s.2.1 d i b).1:=rfl
 rw[h1,e,decide_eq_true h2,Bool.and_true,Bool.and_comm]
theorem FireOk.run (h:FireOk s ds d i b):(∀ st,zbs (zj3 d i b) (exV d) (s.2.1,b) = .inr st->st=hdS s.2.1 d i b/\zj2 (hdS s.2.1 d i b).1=true)/\(∀ r,zbs (zj3 d i b) (exV d) (s.2.1,b) = .inl r->zj2 (hdS s.2.1 d i b).1=false):=by
 obtain⟨hd,_,h5⟩:=zcd h.pl h.lt.2
 have hi:=h.lt.1
 refine⟨fun st hr=>?_,fun r hr=>z02c hr⟩
 have e:=zrm hr
 refine⟨e,?_⟩
 have:=zw3 (inR_iff.mpr ⟨by omega,by omega⟩) h.args.1 (fun v hv=>by have:=zet hd hv;exact inR_iff.mpr ⟨by omega,by omega⟩) h.args.2 (z6w h.sk).2.2 hr
 rw[e]at this
 exact this
end
def zrt (s:TSk) (d:z0c) (i:Nat) (b:List Int):TSk×Bool:=if zj2 (hdS s.2.1 d i b).1 then(zgg s d i b,decide ((zgg s d i b).1.2.1.length<=30))else(s,false)
section
variable {s:TSk} {ds:List z0c} {d:z0c} {i:Nat} {b:List Int}
theorem FireOk.res (h:FireOk s ds d i b):(zrt s d i b).2=vSk (zgg s d i b)/\(vSk (zgg s d i b)=true->(zrt s d i b).1=zgg s d i b):=by
 rw[h.next]
 unfold zrt
 cases zj2 (hdS s.2.1 d i b).1 with
 |true=>exact⟨rfl,fun _=>rfl⟩
 |false=>exact⟨rfl,fun h=>by cases h⟩
theorem FireOk.getD_ (h:FireOk s ds d i b):ds.getD (Int.toNat (i:Int)) z9t=d:=by
 rw[Int.toNat_natCast,List.getD_eq_getElem?_getD,h.at_];rfl
theorem z059 (h:FireOk s ds d i b):zmg s ds i b (zrt s d i b).1 (zrt s d i b).2:=z041 _ _ _ _ _ _ (by
 unfold ztr
 obtain⟨hd,he,_⟩:=zcd h.pl h.lt.2
 have hs:=zal hd
 have hil:=h.lt.1
 have hb:=h.b5
 have hts:=zfg (z6w h.sk).2.2
 have hfl:=z03e hd
 have hx:=(z6g h.sk).1
 have hxl:=z54 hx
 rw[h.getD_]
 refine inI hil ⟨_,z82 (by omega) (by omega),?_⟩
 refine z21 (frV d) (fun s v=>s++[b.getD v.toNat 0]) [] (fun j s=>((j:Int),(s,()))) List.length 1 5 hfl (fun s v _=>by simp) ?_ ?_
 . intro j hj a X hs' hX
   have hv:=zhz hs.2.2.2.2.1 (List.mem_filter.mp (List.getElem_mem hj)).1
   refine z0j fun _=>bcI hj (inI hj ?_)
   simp only
   rw[z20 hj,z04 (by omega)]
   exact⟨⟨by omega,by omega⟩,by simp only[z0w,List.length_cons,List.length_nil]at *;omega,hX⟩
 . intro X _
   have efr:(frV d).foldl (fun s v=>s++[b.getD v.toNat 0]) []=z8m d b:=rfl
   rw[efr]
   have hal:=h.args.1
   refine z0j fun _=>bcN ⟨by simp only[z0w,List.length_nil];omega,?_⟩
   refine inI hil ⟨_,z5m (by omega) (by omega),?_⟩
   simp only[List.nil_append]
   refine zig (exV d) (zj3 d i b) (s.2.1,b) (fun j st=>((j:Int),(((([]:List z0r),(([]:List z00),())),(([]:List z0a),())),((s.1,(st.1,())),(st.2,()))))) (KR:=fun _=>((s,(false,())):TSk×Bool×Unit)=((zrt s d i b).1,((zrt s d i b).2,()))) ?_ ?_ ?_
   . intro j hj st Y hr q1 q2
     have hv:=zet hd (List.getElem_mem hj)
     have e0:=zrm hr
     have h5:st.2.length=5:=by
      rw[e0]
      exact(zoi (d:=d) (i:=i) (b:=b) (l:=(exV d).take j) (st:=(s.2.1,b)) (fun v hv=>zet hd (List.mem_of_mem_take hv)) hb).1
     have hta:zj2 st.1=true:=zw3 (inR_iff.mpr ⟨by omega,by have:=(zcd h.pl h.lt.2).2.2;omega⟩) hal (fun v hv=>by have:=zet hd (List.mem_of_mem_take hv);exact inR_iff.mpr ⟨by omega,by omega⟩) h.args.2 (z6w h.sk).2.2 hr
     have htl:=zfg hta
     refine z0j fun _=>bcI hj (inI hj ⟨trivial,trivial,by simp only[z0w,List.length_nil];omega,?_⟩)
     simp only
     rw[z20 hj,z04 (by omega)]
     have et:(((i:Int),((exV d)[j],(z8m d b,()))):z0a)=zj1 d i b (exV d)[j]:=rfl
     rw[et]
     refine⟨_,_,_,zwt htl,?_⟩
     unfold zny
     simp only
     by_cases hm:zj1 d i b (exV d)[j]∈st.1
     . rw[if_pos hm]
       refine z0y (fun h=>by cases h) (fun _=>inI hj ⟨⟨by omega,by omega⟩,?_⟩)
       have:=q2 (hdG d i b st (exV d)[j]) (by unfold zj3;rw[if_pos hm])
       unfold hdG at this
       rw[if_pos hm]at this
       exact this
     . rw[if_neg hm]
       have ea:(zj1 d i b (exV d)[j]).2.2.1=z8m d b:=rfl
       rw[ea]
       by_cases hc:st.1.length=30\/8<z8b (z24 st.1) (z8m d b)
       . rw[if_pos hc]
         exact z0y (fun _=>q1 () (by unfold zj3;rw[if_neg hm,if_pos hc])) (fun h=>by cases h)
       . rw[if_neg hc]
         refine z0y (fun h=>by cases h) (fun _=>inI hj ⟨⟨by omega,by omega⟩,?_⟩)
         have:=q2 (hdG d i b st (exV d)[j]) (by unfold zj3;rw[if_neg hm,if_neg hc])
         unfold hdG at this
         rw[if_neg hm]at this
         exact this
   . intro st Y hr
     obtain⟨rfl,hta⟩:=h.run.1 st hr
     refine z0j fun _=>bcN ?_
     obtain⟨hl1,hl2,hl3⟩:=h.hdLen
     simp only
     generalize hvs:(hdS s.2.1 d i b).2=vs at hl1 ⊢
     have hm:∀ k,(((d.2.1.take k).map fun a=>inst a vs).foldl zmf s.1.2.1).length<=32:=fun k=>by
      have:=zrq (l:=(d.2.1.take k).map fun a=>inst a vs) (m:=s.1.2.1)
      rw[List.length_map,List.length_take]at this
      omega
     refine z1e d.2.1.length (fun k=>((k:Int),(((s.1.1,(((d.2.1.take k).map fun a=>inst a vs).foldl zmf s.1.2.1,())),((hdS s.2.1 d i b).1,())),()))) (by simp) ?_ ?_
     . intro k hk Z hZ
       have hr:=zut (hs.2.2.2.2.1 _ (List.getElem_mem hk))
       have hmk:=hm k
       have hil2:=z0br (a:=d.2.1[k]) (b:=vs)
       refine inI hil (z0j fun _=>bcI hk (inI hil (inI hk ⟨inst d.2.1[k] vs,zbj d.2.1[k] vs,?_,_,zvy (by simp only;omega) (by simp only;omega),?_⟩)))
       . simp only;rw[z20 hk];exact zdz (by omega) (by omega) hr.2
       . simp only
         rw[z04 (by omega)]
         rw[z07 hk,List.map_append,List.foldl_append]at hZ
         exact hZ
     . intro Z
       refine inI hil (z0j fun _=>bcN (z0j fun _=>?_))
       simp only[List.take_length]
       have e:(d.2.1.map fun a=>inst a vs).foldl zmf s.1.2.1=zta (s.1.2.1++zdu d (hdS s.2.1 d i b).2):=by
        rw[hvs,zpo];exact zxd hx _
       rw[e]
       unfold zrt
       rw[hta,if_pos rfl]
       have e2:decide (((zta (s.1.2.1++zdu d (hdS s.2.1 d i b).2)).length:Int)<=30)=decide ((zgg s d i b).1.2.1.length<=30):=decide_eq_decide.mpr (by unfold zgg;simp only;omega)
       rw[e2];rfl
   . intro r hr
     have:=h.run.2 r hr
     unfold zrt
     rw[this];rfl)
end
def zu2 (d:z0c) (i:Nat) (st:TSk) (b:List Int):Unit ⊕ TSk:=if vSk (zgg st d i b)then .inr (zgg st d i b)else .inl ()
def depE (ds:List z0c) (st:TSk) (i:Nat):Unit ⊕ TSk:=zbs (zu2 (ds.getD i z9t) i) (zau st.1 (ds.getD i z9t).1) st
def zww (ds:List z0c) (st:TSk):Unit ⊕ TSk:=zbs (depE ds) (List.range ds.length) st
def zeh (ds:List z0c):Nat->TSk->Unit ⊕ TSk
 |0,st=>.inr st
 | n+1,st=>match zww ds st with
   |.inl _=>.inl ()
   |.inr st'=>if st'.1.2.1.length=st.1.2.1.length then .inr st' else zeh ds n st'
def skc (s:TSk) (ds:List z0c):TSk×Bool:=if vSk s&&z4f s.1.1 ds then(match zeh ds 31 s with
 |.inl _=>(s,false)
 |.inr y=>(y,true))else(s,false)
structure Goes (a b:TSk):Prop where
 sk:vSk b=true
 rels:b.1.1=a.1.1
 sub:∀ f∈a.1.2.1,f∈b.1.2.1
 len:a.1.2.1.length<=b.1.2.1.length
theorem Goes.refl {a:TSk} (h:vSk a=true):Goes a a:=⟨h,rfl,fun _ h=>h,Nat.le_refl _⟩
theorem Goes.trans {a b c:TSk} (h1:Goes a b) (h2:Goes b c):Goes a c:=⟨h2.sk,h2.rels.trans h1.rels,fun f hf=>h2.sub f (h1.sub f hf),Nat.le_trans h1.len h2.len⟩
theorem z0e5 {l:List z00} {f:z00}:l.length<=(zmf l f).length:=by
 unfold zmf
 split
 . exact Nat.le_refl _
 . simp only[List.length_append,List.length_cons,List.length_take,List.length_drop];omega
theorem z02b:∀ {l m:List z00},m.length<=(l.foldl zmf m).length
 |[],m=>Nat.le_refl _
 |a::l,m=>by rw[List.foldl_cons];exact Nat.le_trans z0e5 (z02b (l:=l))
theorem zqb {d:z0c} {i:Nat} {st st':TSk} {b:List Int} (hv:vSk st=true) (h:zu2 d i st b = .inr st'):Goes st st':=by
 unfold zu2 at h
 split at h
 . rename_i hn
   obtain rfl:=Sum.inr.inj h
   refine⟨hn,rfl,fun f hf=>facS_mem.mpr (List.mem_append_left _ hf),?_⟩
   show st.1.2.1.length<=(zta (st.1.2.1++_)).length
   rw[<-zxd (z6g hv).1]
   exact z02b
 . cases h
theorem zhm {α:Type} {g:TSk->α->Unit ⊕ TSk} (hg:∀ st a st',vSk st=true->g st a = .inr st'->Goes st st'):∀ {l:List α} {st st':TSk},vSk st=true->zbs g l st = .inr st'->Goes st st'
 |[],st,st',hv,h=>by simp only[zbs,Sum.inr.injEq]at h;subst h;exact .refl hv
 | a::l,st,st',hv,h=>by
   simp only[zbs]at h
   cases e:g st a with
   |inl _=>rw[e]at h;simp at h
   | inr s1=>
     rw[e]at h
     have h1:=hg st a s1 hv e
     exact h1.trans (zhm hg h1.sk h)
theorem zzh {ds:List z0c} {st st':TSk} {i:Nat} (hv:vSk st=true) (h:depE ds st i = .inr st'):Goes st st':=zhm (fun st b st' hv h=>zqb hv h) hv h
theorem zqv {ds:List z0c} {st st':TSk} (hv:vSk st=true) (h:zww ds st = .inr st'):Goes st st':=zhm (fun st b st' hv h=>zzh hv h) hv h
theorem z0cm {ds:List z0c} {st0 st:TSk} {i:Nat} (hi:i<ds.length) (hp:z4f st0.1.1 ds=true) (hg:Goes st0 st) {b:List Int} (hb:b∈zau st0.1 (ds.getD i z9t).1):FireOk st ds (ds.getD i z9t) i b:=by
 obtain⟨h5,hB,hF⟩:=z04j hb
 exact⟨hg.sk,by rw[hg.rels];exact hp,by rw[List.getD_eq_getElem?_getD,List.getElem?_eq_getElem hi];rfl,h5,hB,z04l hg.sub hF⟩
theorem z0fi {s:TSk} (h:vSk s=true):s.1.2.1.length<=30:=z54 (z6g h).1
theorem z06m {s:TSk} {ds:List z0c} (h:(vSk s&&z4f s.1.1 ds)=false):skc s ds=(s,false):=by unfold skc;rw[h];rfl
theorem z06g {s:TSk} {ds:List z0c} {r:Unit} (h:(vSk s&&z4f s.1.1 ds)=true) (hr:zeh ds 31 s = .inl r):skc s ds=(s,false):=by unfold skc;rw[h,hr];rfl
theorem z08h {s y:TSk} {ds:List z0c} (h:(vSk s&&z4f s.1.1 ds)=true) (hr:zeh ds 31 s = .inr y):skc s ds=(y,true):=by unfold skc;rw[h,hr];rfl
theorem zsk {s:TSk} {ds:List z0c} (hsm:SmS s):zdp s ds (skc s ds).1 (skc s ds).2:=zsu _ _ _ _ (by
 unfold zj9
 have hcp:za3 s s:=znt hsm
 refine⟨s,hcp,_,z6t,z0y (fun h=>by rw[z06m (by rw[h];rfl)]) (fun h1=>⟨_,zke,z0y (fun h=>by rw[z06m (by rw[h1,h];rfl)]) (fun h2=>?_)⟩)⟩
 have h12:(vSk s&&z4f s.1.1 ds)=true:=by rw[h1,h2];rfl
 have h5:ds.length<=5:=by have h3:=h2;unfold z4f at h3;rw[Bool.and_eq_true]at h3;exact zkt h3.1
 refine z1m (fun k a=>∃ st:TSk,a=(st,(((([]:List z0r),(([]:List z00),())),(([]:List z0a),())),()))/\Goes s st/\30<st.1.2.1.length+k/\zeh ds k st=zeh ds 31 s) ?_ ?_ (n:=31) ⟨s,rfl,.refl h1,by omega,rfl⟩
 . rintro a ⟨st,rfl,hg,hk,_⟩ X
   have:=z0fi hg.sk
   omega
 . rintro k a ⟨st,rfl,hg,hk,hc⟩ X hX
   have hpl:z4f st.1.1 ds=true:=by rw[hg.rels];exact h2
   have bad:∀ r:Unit,zww ds st = .inl r->((s,(false,())):TSk×Bool×Unit)=((skc s ds).1,((skc s ds).2,())):=fun r hr=>by rw[z06g (r:=()) h12 (by rw[<-hc,zeh,hr])]
   refine z0j fun _=>?_
   simp only
   refine zig (List.range ds.length) (depE ds) st (fun i q=>((i:Int),(((([]:List z0r),(([]:List z00),())),(([]:List z0a),())),(q,())))) (KR:=fun _=>((s,(false,())):TSk×Bool×Unit)=((skc s ds).1,((skc s ds).2,()))) ?_ ?_ bad
   . intro i hi q Y hr q1 q2
     have hi:i<ds.length:=by simpa using hi
     rw[List.getElem_range]at q1 q2
     have hq:Goes st q:=zhm (fun st b st' hv h=>zzh hv h) hg.sk hr
     have hpq:z4f q.1.1 ds=true:=by rw[hq.rels];exact hpl
     refine z0j fun _=>bcI hi (inI hi ⟨_,zjc,?_⟩)
     simp only
     rw[Int.toNat_natCast,z04 (by omega)]
     have hM:=zl4 (x:=q.1) (l:=(ds.getD i z9t).1)
     refine zig (zau q.1 (ds.getD i z9t).1) (zu2 (ds.getD i z9t) i) q (fun j p=>((j:Int),(((([]:List z0r),(([]:List z00),())),(([]:List z0a),())),(p,())))) (KR:=fun _=>((s,(false,())):TSk×Bool×Unit)=((skc s ds).1,((skc s ds).2,()))) ?_ ?_ q1
     . intro j hj p Z hr2 p1 p2
       have hp:Goes q p:=zhm (fun st b st' hv h=>zqb hv h) hq.sk hr2
       have hf:=z0cm hi hpq hp (List.getElem_mem hj)
       obtain⟨r1,r2⟩:=hf.res
       refine z0j fun _=>bcI hj (inI hj ⟨trivial,(zrt p (ds.getD i z9t) i (zau q.1 (ds.getD i z9t).1)[j]).1,(zrt p (ds.getD i z9t) i (zau q.1 (ds.getD i z9t).1)[j]).2,?_,?_⟩)
       . simp only
         rw[z20 hj]
         exact z059 hf
       . simp only
         rw[z04 (by omega),r1]
         refine z0y (fun hv=>⟨s,hcp,p1 () (by unfold zu2;rw[hv];rfl)⟩) (fun hv=>?_)
         rw[r2 hv]
         exact p2 _ (by unfold zu2;rw[hv];rfl)
     . intro p Z hr2
       exact z0j fun _=>bcN (q2 p hr2)
   . intro q Y hr
     have hr:zww ds st = .inr q:=hr
     have hq:Goes st q:=zqv hg.sk hr
     simp only[List.length_range]
     refine z0j fun _=>bcN (z0j fun _=>z32 (fun h=>?_) (fun h=>?_))
     . have h:q.1.2.1.length=st.1.2.1.length:=by omega
       rw[z08h (y:=q) h12 (by rw[<-hc,zeh,hr];simp only;rw[if_pos h])]
     . have h:¬ q.1.2.1.length=st.1.2.1.length:=by omega
       have:=hq.len
       exact hX _ ⟨q,rfl,hg.trans hq,by omega,by rw[<-hc,zeh,hr];simp only;rw[if_neg h]⟩)
theorem zra {ds:List z0c}:∀ {n:Nat} {st st':TSk},vSk st=true->zeh ds n st = .inr st'->Goes st st'
 |0,st,st',hv,h=>by simp only[zeh,Sum.inr.injEq]at h;subst h;exact .refl hv
 | n+1,st,st',hv,h=>by
   simp only[zeh]at h
   cases e:zww ds st with
   |inl _=>rw[e]at h;simp at h
   | inr s1=>
     rw[e]at h
     have h1:=zqv hv e
     simp only at h
     split at h
     . obtain rfl:=Sum.inr.inj h;exact h1
     . exact h1.trans (zra h1.sk h)
theorem zj4 {l:List (zs0 z00)} {cx:z00×Unit} (p:zs0 z00->Bool) (hl:l.length<=1000) (hg:∀ t∈l,z36 t cx.1 (p t)):z18 l cx (l.filter fun t=>!p t):=z5g _ _ _ (by
 unfold z2p
 refine⟨_,z76 p (fun t ht=>hg t ht),?_⟩
 by_cases hf:z02 p l<l.length
 . rw[if_pos hf]
   generalize hp:z02 p l=q at hf
   have hpf:p l[q]=true:=by have:=z7w (p:=p) (l:=l) (by omega);simp only[hp]at this;exact this
   have hpl:∀ i (h:i<q),p (l[i]'(by omega))=false:=fun i h=>z6a (by omega) (by omega)
   refine z32 (fun h=>by omega) fun _=>?_
   rw[z04 (by omega)]
   refine z1m (fun k a=>∃(i j:Nat) (L:List (zs0 z00)),j+k=l.length/\a=((i:Int),((j:Int),(L,())))/\L.length=l.length/\i<j/\L.take i=(l.take j).filter (fun t=>!p t)/\L.drop j=l.drop j) ?_ ?_ (n:=l.length - (q+1)) ⟨q,q+1,l,by omega,rfl,rfl,by omega,?_,rfl⟩
   . rintro a ⟨i,j,L,hj,rfl,hL,hij,h1,h2⟩ X
     obtain rfl:j=l.length:=by omega
     rw[List.take_length]at h1
     refine z0j fun _=>?_
     simp only
     rw[hL]
     have ht:(L.take i).length=i:=by rw[List.length_take];omega
     refine bcN ⟨⟨by omega,by omega,by omega,by omega⟩,by omega,⟨by omega,by omega,?_,?_⟩,?_⟩
     . simp only[List.length_append,Int.toNat_natCast,ht];omega
     . simp only[List.length_append,List.length_replicate,Int.toNat_natCast,ht];omega
     . rw[Int.toNat_natCast,List.take_left' ht,h1]
   . rintro k a ⟨i,j,L,hj,rfl,hL,hij,h1,h2⟩ X hX
     have hjl:j<l.length:=by omega
     have hjL:j<L.length:=by omega
     have hget:L[j]=l[j]:=by
      have:=congrArg List.head? h2
      rw[z44 hjL,z44 hjl]at this
      exact Option.some.inj this
     have hdrop:L.drop (j+1)=l.drop (j+1):=by
      have:=congrArg (List.drop 1) h2
      rw[List.drop_drop,List.drop_drop]at this
      exact this
     refine z0j fun _=>?_
     simp only
     refine bcI hjL (inI hjL ⟨p l[j],?_,?_⟩)
     . rw[z20 hjL,hget];exact hg _ (List.getElem_mem hjl)
     have htk:(l.take (j+1)).filter (fun t=>!p t)=(l.take j).filter (fun t=>!p t)++(if p l[j] then[] else[l[j]]):=by
      rw[z07 hjl,List.filter_append]
      congr 1
      cases h:p l[j]<;>simp[h]
     refine z0y (fun h=>?_) (fun h=>?_)
     . rw[if_neg (by rw[h];simp)]at htk
       refine⟨⟨by omega,by omega⟩,?_⟩
       rw[z20 hjL,hget,z04 (by omega),z04 (by omega),Int.toNat_natCast]
       refine hX _ ⟨i+1,j+1,_,by omega,rfl,by rw[List.length_set];exact hL,by omega,?_,?_⟩
       . rw[htk,<-h1,List.take_set,z07 (show i<L.length by omega),List.set_append]
         simp[List.length_take,Nat.min_eq_left (show i<=L.length by omega)]
       . rw[<-hdrop,List.drop_set_of_lt (by omega)]
     . rw[if_pos h,List.append_nil]at htk
       rw[z04 (by omega)]
       exact hX _ ⟨i,j+1,L,by omega,rfl,hL,by omega,by rw[htk,h1],hdrop⟩
   . rw[z07 hf,List.filter_append,List.filter_cons,hpf]
     simp only[Bool.not_true,Bool.false_eq_true,if_false,List.filter_nil,List.append_nil]
     rw[List.filter_eq_self.mpr]
     intro a hm
     obtain⟨i,hi,rfl⟩:=List.mem_iff_getElem.mp hm
     rw[List.length_take]at hi
     rw[List.getElem_take,hpl i (by omega)];rfl
 . rw[if_neg hf]
   refine z32 (fun _=>?_) (fun h=>absurd rfl h)
   rw[List.filter_eq_self.mpr]
   intro a ha
   obtain⟨i,hi,rfl⟩:=List.mem_iff_getElem.mp ha
   have h:=z6a (p:=p) hi (by omega)
   rw[h];rfl)
theorem zjz {l:List z00} {cx:z00×Unit} (p:z00->Bool) (hl:l.length<=1000) (hg:∀ t∈l,zcr t cx.1 (p t)):z0x l cx (l.filter fun t=>!p t):=z4c _ _ _ fun xs hx=>by
 subst hx
 rw[List.length_map]at hl
 refine⟨xs.filter (fun t=>!p t.2),List.filter_sublist,?_,zj4 (fun t=>p t.2) hl fun t ht=>zkg _ _ _ (hg _ (List.mem_map_of_mem ht))⟩
 rw[List.filter_map];rfl
def zzi (x:z0d) (f:z00):z0d×Bool:=if z35 x&&decide (f∈x.2.1)then(delI x f,true)else(x,false)
def insF (x:z0d) (f:z00):z0d×Bool:=if z35 x&&(!decide (f∈x.2.1)&&z35 (x.1,(zta (x.2.1++[f]),())))then((x.1,(zta (x.2.1++[f]),())),true)else(x,false)
structure SmJ (x:z0d):Prop where
 rels:x.1.length<=1048576
 few:x.2.1.length<=1048576
 row:∀ f∈x.2.1,f.2.1.length<=1048576
theorem zj6 {x:z0d} {f:z00} (hs:SmJ x):z3z x f (zzi x f).1 (zzi x f).2:=by
 by_cases h:(z35 x&&decide (f∈x.2.1))=true
 . have e:zzi x f=(delI x f,true):=by unfold zzi;rw[if_pos h]
   rw[Bool.and_eq_true,decide_eq_true_eq]at h
   rw[e]
   exact zlq h.1 h.2
 . have e:zzi x f=(x,false):=by unfold zzi;rw[if_neg h]
   rw[e]
   refine zle _ _ _ _ ?_
   unfold zfu
   have h1:=hs.rels
   have h2:=hs.few
   refine⟨_,zas (by omega) (by omega) (fun f hf=>by have:=hs.row f hf;omega),_,z6r,?_⟩
   rw[show(z35 x&&decide (f∈x.2.1))=false by simpa using h]
   exact bcT rfl
theorem zs7 {x:z0d} {f:z00} (hs:SmJ x):zfw x f (zzi x f).1 (zzi x f).2:=zw9 _ _ _ _ (by
 unfold zlk
 have h1:=hs.rels
 have h2:=hs.few
 refine⟨_,zhr (by omega) (by omega) (fun f hf=>by have:=hs.row f hf;omega),_,zq7,?_⟩
 refine z0y (fun h=>by unfold zzi;rw[h];rfl) (fun h=>?_)
 have h':=h
 rw[Bool.and_eq_true]at h'
 have hl:=z54 h'.1
 refine⟨_,zjz (fun t=>decide (t=f)) (by omega) (fun t _=>zpl _ _ _ ⟨_,zk6,rfl⟩),?_⟩
 unfold zzi
 rw[h];rfl)
theorem zwc {x:z0d} {f:z00} (h:z35 x=true) (hf:f.2.1.length<=3):z5l x f (insF x f).1 (insF x f).2:=zlg _ _ _ _ (by
 unfold zfq
 have hr:=zej (zep h)
 have hl:=z54 h
 have hp:zmf x.2.1 f=zta (x.2.1++[f]):=z027 (l:=x.2.1) (m:=[f]) (zln h)
 refine⟨x,zas (by omega) (by omega) (fun f hf=>zpg h hf),_,z2w,?_⟩
 rw[h]
 refine bcF ⟨_,z6r,?_⟩
 rw[h,Bool.true_and]
 refine z1j (fun hm=>by unfold insF;rw[hm];simp) (fun hm=>⟨_,zvy (x:=x) (by omega) (by omega),?_⟩)
 rw[hp]
 have hn:(zta (x.2.1++[f])).length<=31:=by have:=z0ag (l:=x.2.1++[f]);simp only[List.length_append,List.length_cons,List.length_nil]at this;omega
 refine⟨_,zas (x:=(x.1,(zta (x.2.1++[f]),()))) (by simp only;omega) (by simp only;omega) (fun g hg=>?_),_,z2w,?_⟩
 . have hg:g∈zta (x.2.1++[f]):=hg
   rcases List.mem_append.mp (facS_mem.mp hg)with hg|hg
   . exact zpg h hg
   . obtain rfl:=List.mem_singleton.mp hg;omega
 . refine z0y (fun hv=>by unfold insF;rw[h,hm,show z35 (x.1,(zta (x.2.1++[f]),()))=false from hv];rfl) (fun hv=>?_)
   unfold insF
   rw[h,hm,show z35 (x.1,(zta (x.2.1++[f]),()))=true from hv];rfl)
def Rd {ρ:Type} (P:ρ->Prop) (A:Prop) (B:ρ->Prop):Prop:=A->∃ v,P v/\B v
section
variable {ρ:Type} {P:ρ->Prop}
theorem rk {x:ρ}:Rd P (P x) (fun v=>x=v):=fun h=>⟨x,h,rfl⟩
theorem rb {b:Bool} {A1 A2:Prop} {B1 B2:ρ->Prop} (h1:Rd P A1 B1) (h2:Rd P A2 B2):Rd P (z01 b A1 A2) (fun v=>z01 b (B1 v) (B2 v)):=by
 cases b
 . exact h2
 . exact h1
theorem ra {C A:Prop} {B:ρ->Prop} (h:Rd P A B):Rd P (C/\A) (fun v=>C/\B v):=fun⟨c,a⟩=>(h a).imp fun _ hv=>⟨hv.1,c,hv.2⟩
theorem re {α:Type} {A:α->Prop} {B:α->ρ->Prop} (h:∀ y,Rd P (A y) (B y)):Rd P (∃ y,A y) (fun v=>∃ y,B y v):=fun⟨y,a⟩=>(h y a).imp fun _ hv=>⟨hv.1,y,hv.2⟩
theorem rl (hi:∃ v,P v) {n:Int} {A:Prop} {B:ρ->Prop} (h:Rd P A B):Rd P (z0s n A) (fun v=>z0s n (B v)):=fun a=>by
 by_cases hn:n<=9223372036854775807
 . exact(h (a hn)).imp fun _ hv=>⟨hv.1,fun _=>hv.2⟩
 . exact hi.imp fun _ hv=>⟨hv,fun h=>absurd h hn⟩
theorem rp {σ:Type} {BP:(σ->Prop)->σ->Prop} {BV:ρ->(σ->Prop)->σ->Prop} {a0:σ}
  (h:∀(XP:σ->Prop) (XV:ρ->σ->Prop),(∀ b,Rd P (XP b) (fun v=>XV v b))->∀ a,Rd P (BP XP a) (fun v=>BV v (XV v) a)):Rd P (z0g BP a0) (fun v=>z0g (BV v) a0):=by
 rintro⟨n,hn⟩
 have key:∀ n a,Rd P (zy1 BP n a) (fun v=>zy1 (BV v) n a):=by
  intro n
  induction n with
  |zero=>intro a h;exact h.elim
  |succ n ih=>intro a;exact h _ (fun v=>zy1 (BV v) n) ih a
 exact(key n a0 hn).imp fun _ hv=>⟨hv.1,n,hv.2⟩
theorem zoc {S:(ρ->Prop)->Prop} (h:S P) (hi:∃ v,P v) (hr:(∃ v,P v)->Rd P (S P) (fun v=>S (fun q=>q=v))):∃ v,P v/\S (fun q=>q=v):=hr hi h
end
abbrev Src:=List Int×Int×Int×Unit
def Oks (s:Src):Prop:=0<=s.2.1/\s.1.length<=4611686018427387903
theorem z02q (x:Int):0<=z9x .and .i64 x 255/\z9x .and .i64 x 255<=255:=by
 show 0<=IntKind.i64.wrap ((BitVec.ofInt 64 x &&& BitVec.ofInt 64 255).toNat:Int)/\IntKind.i64.wrap ((BitVec.ofInt 64 x &&& BitVec.ofInt 64 255).toNat:Int)<=255
 have h:(BitVec.ofInt 64 x &&& BitVec.ofInt 64 255).toNat<=255:=by
  rw[BitVec.toNat_and]
  exact Nat.le_trans Nat.and_le_right (by decide)
 generalize (BitVec.ofInt 64 x &&& BitVec.ofInt 64 255).toNat=n at h
 have e:IntKind.i64.wrap (n:Int)=(n:Int):=z2s (by omega) (by omega)
 rw[e];omega
theorem z0ey {s:Src} (h:Oks s):∃ y z,z5j s y z/\(0<=y/\y<=255)/\Oks z:=by
 have hl:=h.2
 have h0:=h.1
 have hs:z97 s (fun q=>(0<=q.1/\q.1<=255)/\Oks q.2.1):=by
  unfold z97
  refine⟨by decide,by decide,z0j fun _=>z08 (fun hlt=>⟨⟨h0,hlt⟩,z02q _,?_,hl⟩) (fun _=>⟨z02q _,h⟩)⟩
  show 0<=w64 (s.2.1+1)
  rw[z2s (by omega) (by omega)];omega
 obtain⟨⟨y,z,_⟩,hq,hv⟩:=zoc (S:=z97 s) hs ⟨(0,(s,())),⟨Int.le_refl (0:Int),(by decide:(0:Int)<=255)⟩,h⟩ fun hi=>by
  unfold z97
  repeat' first|exact rk|apply_assumption|refine rb ?_ ?_|refine rl hi ?_|refine ra ?_|(refine rp ?_;intro _ _ _ _)|(refine re ?_;intro _)
 exact⟨y,z,zv1 _ _ _ hv,hq.1,hq.2⟩
theorem z5d {s:Src} {n:Int} (h:Oks s) (h1:0<n) (h2:n<=256):∃ y z,z0b s n y z/\(0<=y/\y<n)/\Oks z:=by
 obtain⟨y,z,g,y0,hz⟩:=z0ey h
 refine⟨Int.tmod y n,z,zs1 _ _ _ _ ?_,⟨?_,?_⟩,hz⟩
 . unfold zjh
   rw[z0cc (by omega)]
   exact z08 (fun _=>⟨y,z,g,by omega,rfl⟩) (fun h=>absurd h2 h)
 . exact Int.tmod_nonneg _ y0.1
 . exact Int.tmod_lt_of_pos _ h1
theorem zyu {s:Src} {n:Int} (h:Oks s) (h1:0<n) (h2:n<=256):∃ y z,z5k s n y z/\Oks z:=by
 obtain⟨y,z,g,_,hz⟩:=z5d h h1 h2
 exact⟨_,z,zvj _ _ _ _ ⟨y,z,g,rfl⟩,hz⟩
theorem z06v {s:Src} {l:List Int} (h:Oks s) (h1:0<l.length) (h2:l.length<=256):∃ y z,zbe s l y z/\Oks z:=by
 obtain⟨y,z,g,hy,hz⟩:=z5d (n:=(l.length:Int)) h (by omega) (by omega)
 exact⟨_,z,zob _ _ _ _ (z0j fun _=>⟨y,z,g,⟨hy.1,hy.2⟩,rfl⟩),hz⟩
def sigs:List z0r:=[([97],(2,(true,()))),([98],(1,(true,()))),([112],(2,(false,()))),([113],(2,(false,()))),([114],(1,(false,())))]
theorem zld:zf1 sigs:=z08q _ rfl
theorem zyk (i:Nat) (h:i<sigs.length):1<=(sigs[i]).2.1/\(sigs[i]).2.1<=2:=by
 match i,h with
 |0,_|2,_|3,_=>exact⟨(by decide:(1:Int)<=2),(by decide:(2:Int)<=2)⟩
 |1,_|4,_=>exact⟨(by decide:(1:Int)<=1),(by decide:(1:Int)<=2)⟩
theorem z0ed {s:Src} {n:Int} (h:Oks s) (h2:n<=40):∃ y z,zdy s n y z/\(-40<=y/\y<3)/\Oks z:=by
 have hs:z8f s n (fun q=>(-40<=q.1/\q.1<3)/\Oks q.2.1):=by
  unfold z8f
  refine z08 (fun hn=>?_) (fun hn=>?_)
  . obtain⟨b,z,g,hz⟩:=zyu h (n:=2) (by decide) (by decide)
    obtain⟨v,z1,g1,hv,hz1⟩:=z5d hz (n:=n) (by omega) (by omega)
    obtain⟨u,z2,g2,hu,hz2⟩:=z5d hz (n:=3) (by decide) (by decide)
    exact⟨b,z,g,z1j (fun _=>⟨v,z1,g1,_,zdb hv.1 (by omega),⟨by simp only;omega,by simp only;omega⟩,hz1⟩) (fun _=>⟨u,z2,g2,⟨by simp only;omega,hu.2⟩,hz2⟩)⟩
  . obtain⟨u,z2,g2,hu,hz2⟩:=z5d h (n:=3) (by decide) (by decide)
    exact⟨u,z2,g2,⟨by simp only;omega,hu.2⟩,hz2⟩
 obtain⟨⟨y,z,_⟩,hq,hv⟩:=zoc (S:=z8f s n) hs ⟨(0,(s,())),⟨(by decide:(-40:Int)<=0),(by decide:(0:Int)<3)⟩,h⟩ fun hi=>by
  unfold z8f
  repeat' first|exact rk|apply_assumption|refine rb ?_ ?_|refine ra ?_|(refine rp ?_;intro _ _ _ _)|(refine re ?_;intro _)
 exact⟨y,z,zsg _ _ _ _ hv,hq.1,hq.2⟩
def SmR (r:Int) (f:z00):Prop:=f.1=r/\1<=f.2.1.length/\f.2.1.length<=2
theorem z05t {s:Src} {r n:Int} (h:Oks s) (h0:0<=r) (h1:r<5) (h2:n<=40):∃ y z,z4i s r n y z/\SmR r y/\Oks z:=by
 obtain⟨i,rfl⟩:∃ i:Nat,r=(i:Int):=⟨r.toNat,by omega⟩
 have hi:i<sigs.length:=by show i<5;omega
 have ha:=zyk i hi
 have hs:z98 s i n (fun q=>SmR i q.1/\Oks q.2.1):=by
  unfold z98
  refine⟨_,zld,?_⟩
  refine z1m (fun k a=>∃(c:Src) (l:List Int),a=(c,(((i:Int),(l,())),()))/\Oks c/\l.length+k=(sigs[i]).2.1.toNat) ?_ ?_ (n:=(sigs[i]).2.1.toNat) ⟨s,[],rfl,h,by simp⟩
  . rintro a ⟨c,l,rfl,hc,hl⟩ X
    refine inI hi (z0j fun _=>?_)
    rw[z20 hi]
    exact z08 (fun h=>by simp only at h;omega) (fun _=>⟨⟨rfl,by simp only;omega,by simp only;omega⟩,hc⟩)
  . rintro k a ⟨c,l,rfl,hc,hl⟩ X hX
    obtain⟨v,z,g,_,hz⟩:=z0ed hc h2
    refine inI hi (z0j fun _=>?_)
    rw[z20 hi]
    exact z08 (fun h=>⟨v,z,g,by simp only[z0w,List.length_cons,List.length_nil];omega,hX _ ⟨z,l++[v],rfl,hz,by simp;omega⟩⟩) (fun h=>by simp only at h;omega)
 obtain⟨⟨y,z,_⟩,hq,hv⟩:=zoc (S:=z98 s i n) hs ⟨((i,([0],())),(s,())),⟨rfl,(by decide:1<=1),(by decide:1<=2)⟩,h⟩ fun hi=>by
  unfold z98
  repeat' first|exact rk|apply_assumption|refine rb ?_ ?_|refine rl hi ?_|refine ra ?_|(refine rp ?_;intro _ _ _ _)|(refine re ?_;intro _)
 exact⟨y,z,zwi _ _ _ _ _ hv,hq.1,hq.2⟩
theorem z0bx {s:Src} {r n:Int} (h:Oks s) (h0:0<=r) (h1:r<5) (hn0:0<n) (h2:n<=40):∃ y z,z7u s r n y z/\SmR r y/\Oks z:=by
 obtain⟨i,rfl⟩:∃ i:Nat,r=(i:Int):=⟨r.toNat,by omega⟩
 have hi:i<sigs.length:=by show i<5;omega
 have ha:=zyk i hi
 have hs:z92 s i n (fun q=>SmR i q.1/\Oks q.2.1):=by
  unfold z92
  refine⟨_,zld,?_⟩
  refine z1m (fun k a=>∃(c:Src) (l:List Int),a=(c,(((i:Int),(l,())),()))/\Oks c/\l.length+k=(sigs[i]).2.1.toNat) ?_ ?_ (n:=(sigs[i]).2.1.toNat) ⟨s,[],rfl,h,by simp⟩
  . rintro a ⟨c,l,rfl,hc,hl⟩ X
    refine inI hi (z0j fun _=>?_)
    rw[z20 hi]
    exact z08 (fun h=>by simp only at h;omega) (fun _=>⟨⟨rfl,by simp only;omega,by simp only;omega⟩,hc⟩)
  . rintro k a ⟨c,l,rfl,hc,hl⟩ X hX
    obtain⟨b,z,g,hz⟩:=zyu hc (n:=14) (by decide) (by decide)
    obtain⟨u,z1,g1,_,hz1⟩:=z5d hz (n:=3) (by decide) (by decide)
    obtain⟨v,z2,g2,_,hz2⟩:=z5d hz (n:=n) hn0 (by omega)
    refine inI hi (z0j fun _=>?_)
    rw[z20 hi]
    exact z08 (fun h=>⟨b,z,g,z1j (fun _=>⟨u,z1,g1,by simp only[z0w,List.length_cons,List.length_nil];omega,hX _ ⟨z1,_,rfl,hz1,by simp;omega⟩⟩)
     (fun _=>⟨v,z2,g2,by simp only[z0w,List.length_cons,List.length_nil];omega,hX _ ⟨z2,_,rfl,hz2,by simp;omega⟩⟩)⟩) (fun h=>by simp only at h;omega)
 obtain⟨⟨y,z,_⟩,hq,hv⟩:=zoc (S:=z92 s i n) hs ⟨((i,([0],())),(s,())),⟨rfl,(by decide:1<=1),(by decide:1<=2)⟩,h⟩ fun hi=>by
  unfold z92
  repeat' first|exact rk|apply_assumption|refine rb ?_ ?_|refine rl hi ?_|refine ra ?_|(refine rp ?_;intro _ _ _ _)|(refine re ?_;intro _)
 exact⟨y,z,zvp _ _ _ _ _ hv,hq.1,hq.2⟩
theorem zsf {l:List z00} (hl:(l.flatMap (·.2.1)).length<=1073741824):z78 l (vars l) l:=zhe _ _ _ (by
 unfold zaq
 refine z1e l.length (fun i=>((i:Int),(vars (l.take i),()))) (by simp[vars,zdg]) ?_ ?_
 . intro i hi X hX
   refine z0j fun hl1=>bcI hi ?_
   simp only
   rw[z20 hi]
   have hsub:((l.take i).flatMap (·.2.1)).length+l[i].2.1.length<=1073741824:=by
    have:=zf0 (·.2.1) hi
    omega
   have hset:∀ j,j<=l[i].2.1.length->(zdg (((l.take i).flatMap (·.2.1)++l[i].2.1.take j).filter fun t=>decide (0<=t))).length<=1073741824:=by
    intro j hj
    refine Nat.le_trans (zw4 _) (Nat.le_trans (List.length_filter_le _ _) ?_)
    rw[List.length_append,List.length_take];omega
   refine z1e l[i].2.1.length (fun j=>(zdg (((l.take i).flatMap (·.2.1)++l[i].2.1.take j).filter fun t=>decide (0<=t)),((j:Int),()))) (by simp[vars]) ?_ ?_
   . intro j hj Y hY
     refine inI hi (z0j fun _=>bcI hj (inI hi (inI hj ?_)))
     simp only
     rw[z20 hj,z04 (by omega)]
     have e:((l.take i).flatMap (·.2.1)++l[i].2.1.take (j+1)).filter (fun t=>decide (0<=t))=((l.take i).flatMap (·.2.1)++l[i].2.1.take j).filter (fun t=>decide (0<=t))++(if 0<=l[i].2.1[j] then[l[i].2.1[j]] else[]):=by
      rw[z07 hj,<-List.append_assoc,List.filter_append]
      by_cases h:0<=l[i].2.1[j]<;>simp[h]
     rw[e]at hY
     refine z08 (fun h=>inI hi (inI hj ⟨_,zoq (hset j (by omega)),?_⟩)) (fun h=>?_)
     . have h:0<=l[i].2.1[j]:=h
       rw[if_pos h]at hY
       rw[zpn];exact hY
     . have h:¬ 0<=l[i].2.1[j]:=h
       rw[if_neg h,List.append_nil]at hY;exact hY
   . intro Y
     refine inI hi (z0j fun _=>bcN ?_)
     simp only
     rw[z04 (by omega),List.take_length]
     have:zdg (((l.take i).flatMap (·.2.1)++l[i].2.1).filter fun t=>decide (0<=t))=vars (l.take (i+1)):=by
      unfold vars;rw[z07 hi,List.flatMap_append];simp
     rw[this];exact hX
 . intro X
   refine z0j fun _=>bcN ?_
   simp only[List.take_length])
def SmB (l:List z00):Prop:=∀ f∈l,1<=f.2.1.length/\f.2.1.length<=2
def SmD (n:Nat) (d:z0c):Prop:=(1<=d.1.length/\d.1.length<=2)/\d.2.1.length<=n/\SmB d.1/\SmB d.2.1
theorem SmD.ok {n:Nat} {d:z0c} (h:SmD n d) (hn:n<=1000):z0gg d:=
 ⟨⟨by have:=h.1.2;omega,fun f hf=>by have:=(h.2.2.1 f hf).2;omega⟩,⟨by have:=h.2.1;omega,fun f hf=>by have:=(h.2.2.2 f hf).2;omega⟩⟩
theorem SmB.snoc {l:List z00} {f:z00} (h:SmB l) (hf:1<=f.2.1.length/\f.2.1.length<=2):SmB (l++[f]):=fun g hg=>by
 rcases List.mem_append.mp hg with hg|hg
 . exact h g hg
 . obtain rfl:=List.mem_singleton.mp hg;exact hf
theorem SmB.flat {l:List z00} (h:SmB l):(l.flatMap (·.2.1)).length<=l.length * 2:=by
 induction l with
 |nil=>simp
 | cons a l ih=>
   have:=ih fun f hf=>h f (by simp[hf])
   have:=(h a (by simp)).2
   simp only[List.flatMap_cons,List.length_append,List.length_cons]
   omega
theorem smd0:SmD 2 ([(0,([0],()))],([],(false,(0,(0,()))))):=by unfold SmD SmB;decide
theorem zrz {b:Bool} {A B:Prop} (h1:A) (h2:B):z01 b A B:=by
 cases b
 . exact h2
 . exact h1
theorem zqj {k:Nat} (h:k<=1000):w64 (((k+1:Nat):Int) - 1)=(k:Int):=by rw[z2s (by omega) (by omega)];omega
theorem z0ek {s:Src} (h:Oks s):∃ y z,ze5 s y z/\SmD 2 y/\Oks z:=by
 obtain⟨v,z,g,_,hz⟩:=z5d h (n:=9) (by decide) (by decide)
 have hs:z8j s (fun q=>SmD 2 q.1/\Oks q.2.1):=by
  unfold z8j
  refine⟨v,z,g,?_⟩
  have hd:∀ {d:z0c},SmD 2 d->SmD 2 ((d,(z,())):z0c×Src×Unit).1/\Oks ((d,(z,())):z0c×Src×Unit).2.1:=fun h=>⟨h,hz⟩
  refine zrz (hd (by unfold SmD SmB;decide)) (zrz (hd (by unfold SmD SmB;decide)) (zrz (hd (by unfold SmD SmB;decide)) (zrz (hd (by unfold SmD SmB;decide)) (zrz (hd (by unfold SmD SmB;decide)) (zrz (hd (by unfold SmD SmB;decide)) (zrz (hd (by unfold SmD SmB;decide)) (zrz (hd (by unfold SmD SmB;decide)) (hd (by unfold SmD SmB;decide)))))))))
 obtain⟨⟨y,z,_⟩,hq,hv⟩:=zoc (S:=z8j s) hs ⟨((([(0,([0],()))],([],(false,(0,(0,()))))):z0c),(s,())),smd0,h⟩ fun hi=>by
  unfold z8j
  repeat' first|exact rk|apply_assumption|refine rb ?_ ?_|refine rl hi ?_|refine ra ?_|(refine rp ?_;intro _ _ _ _)|(refine re ?_;intro _)
 exact⟨y,z,zsx _ _ _ hv,hq.1,hq.2⟩
theorem z0g2 {s:Src} (h:Oks s):∃ y z,zf9 s y z/\SmD 2 y/\Oks z:=by
 have hs:z9g s (fun q=>SmD 2 q.1/\Oks q.2.1):=by
  unfold z9g
  obtain⟨b,z,g,hz⟩:=zyu h (n:=3) (by decide) (by decide)
  refine⟨b,z,g,zrz ?_ ?_⟩
  . obtain⟨y,z1,g1,hy,hz1⟩:=z0ek hz
    exact⟨y,z1,g1,hy,hz1⟩
  . obtain⟨v,z1,g1,hv,hz1⟩:=z5d hz (n:=2) (by decide) (by decide)
    obtain⟨N,hN⟩:∃ N:Nat,1+v=(N:Int):=⟨(1+v).toNat,by omega⟩
    refine⟨v,z1,g1,?_⟩
    rw[show w64 (1+v)=(N:Int) by rw[hN];exact z2s (by omega) (by omega)]
    refine z1m (fun k a=>∃(c:Src) (l:List z00),a=((k:Int),(c,((l,(([]:List z00),(false,((0:Int),((0:Int),()))))),())))/\Oks c/\l.length+k=N/\SmB l) ?_ ?_ (n:=N) ⟨z1,[],rfl,hz1,by simp,fun f hf=>by simp at hf⟩
    . rintro a ⟨c,l,rfl,hc,hl,hb⟩ X
      refine z08 (fun h=>by simp at h) (fun _=>?_)
      have hfl:=hb.flat
      refine⟨_,_,zsf (l:=l) (by omega),z0j fun _=>?_⟩
      have head:∀ {c:Src},Oks c->∃ y17 y18,z0b c 2 y17 y18/\(0<=y17/\y17<2)/\Oks y18:=fun hc=>z5d hc (by decide) (by decide)
      have tail:∀ {u:Int} {c:Src},0<=u/\u<2->Oks c->z0g (fun(again20:Int×Src×z0c×Unit->Prop) (a19:Int×Src×z0c×Unit)=>z01 (decide (a19.1 > (0:Int))) (∃ y21:Int,∃ y22:Src,z0b a19.2.1 (3:Int) y21 y22/\(∃ y23:z00,∃ y24:Src,z7u y22 (w64 ((2:Int)+y21)) (4:Int) y23 y24/\(a19.2.2.1.2.1.length+([(y23.1,(y23.2.1,y23.2.2))]:List z00).length<=z0w/\(again20 (w64 (a19.1 - (1:Int)),(y24,((a19.2.2.1.1,(a19.2.2.1.2.1++([(y23.1,(y23.2.1,y23.2.2))]:List z00),a19.2.2.1.2.2)),()))))))) (SmD 2 ((a19.2.2.1.1,(a19.2.2.1.2.1,a19.2.2.1.2.2)):z0c)/\Oks a19.2.1)) (w64 ((1:Int)+u),(c,((l,(([]:List z00),(false,((0:Int),((0:Int),()))))),()))):=by
       intro u c hu hc
       obtain⟨M,hM⟩:∃ M:Nat,1+u=(M:Int):=⟨(1+u).toNat,by omega⟩
       rw[show w64 (1+u)=(M:Int) by rw[hM];exact z2s (by omega) (by omega)]
       refine z1m (fun k a=>∃(c:Src) (m:List z00),a=((k:Int),(c,((l,(m,(false,((0:Int),((0:Int),()))))),())))/\Oks c/\m.length+k=M/\SmB m) ?_ ?_ (n:=M) ⟨c,[],rfl,hc,by simp,fun f hf=>by simp at hf⟩
       . rintro a ⟨c,m,rfl,hc,hm,hb2⟩ X
         exact z08 (fun h=>by simp at h) (fun _=>⟨⟨⟨by simp only;omega,by simp only;omega⟩,by simp only;omega,hb,hb2⟩,hc⟩)
       . rintro k a ⟨c,m,rfl,hc,hm,hb2⟩ X hX
         obtain⟨u,z1,g1,hu,hz1⟩:=z5d hc (n:=3) (by decide) (by decide)
         obtain⟨f,z2,g2,hf,hz2⟩:=z0bx hz1 (r:=2+u) (n:=4) (by omega) (by omega) (by decide) (by decide)
         refine z08 (fun _=>⟨u,z1,g1,f,z2,?_,?_,?_⟩) (fun h=>by simp at h<;>omega)
         . rw[z2s (by omega) (by omega)];exact g2
         . simp only[z0w,List.length_cons,List.length_nil];omega
         . simp only
           rw[zqj (by omega)]
           exact hX _ ⟨z2,m++[f],rfl,hz2,by simp;omega,hb2.snoc hf.2⟩
      obtain⟨b2,z2,g2,hz2⟩:=zyu hc (n:=3) (by decide) (by decide)
      obtain⟨u,z3,g3,hu,hz3⟩:=head hz2
      obtain⟨u',z3',g3',hu',hz3'⟩:=head hc
      refine z08 (fun hgt=>⟨b2,z2,g2,zrz ⟨⟨by omega,by omega⟩,⟨by omega,by omega⟩,⟨⟨by simp only;omega,by simp only;omega⟩,by simp,hb,fun f hf=>by simp at hf⟩,hz2⟩ ⟨u,z3,g3,tail hu hz3⟩⟩) (fun _=>⟨u',z3',g3',tail hu' hz3'⟩)
    . rintro k a ⟨c,l,rfl,hc,hl,hb⟩ X hX
      obtain⟨r,z1,g1,hr,hz1⟩:=z5d hc (n:=5) (by decide) (by decide)
      obtain⟨f,z2,g2,hf,hz2⟩:=z0bx hz1 (r:=r) (n:=3) hr.1 hr.2 (by decide) (by decide)
      refine z08 (fun _=>⟨r,z1,g1,f,z2,g2,?_,?_⟩) (fun h=>by simp at h<;>omega)
      . simp only[z0w,List.length_cons,List.length_nil];omega
      . simp only
        rw[zqj (by omega)]
        exact hX _ ⟨z2,l++[f],rfl,hz2,by simp;omega,hb.snoc hf.2⟩
 obtain⟨⟨y,z,_⟩,hq,hv⟩:=zoc (S:=z9g s) hs ⟨((([(0,([0],()))],([],(false,(0,(0,()))))):z0c),(s,())),smd0,h⟩ fun hi=>by
  unfold z9g
  repeat' first|exact rk|apply_assumption|refine rb ?_ ?_|refine rl hi ?_|refine ra ?_|(refine rp ?_;intro _ _ _ _)|(refine re ?_;intro _)
 exact⟨y,z,zuw _ _ _ hv,hq.1,hq.2⟩
theorem z0gf {x:List Int} (h:x.length<=1048576):∃ z,zw1 x z/\Oks z:=by
 have hs:zl8 x (fun q=>Oks q.1):=by
  unfold zl8
  refine z0j fun _=>?_
  refine z1m (fun k a=>∃(v:Int) (i:Nat),a=(v,((i:Int),()))/\i+k=4000) ?_ ?_ (n:=4000) ⟨_,0,rfl,rfl⟩
  . rintro a ⟨v,i,rfl,hi⟩ X
    exact z0j fun _=>zrz (z08 (fun h=>by simp at h;omega) (fun _=>⟨Int.le_refl (0:Int),by show x.length<=_;omega⟩)) ⟨Int.le_refl (0:Int),by show x.length<=_;omega⟩
  . rintro k a ⟨v,i,rfl,hi⟩ X hX
    refine z0j fun _=>z08 (fun hlt=>zrz ⟨⟨by simp only;omega,hlt⟩,?_⟩ ⟨Int.le_refl (0:Int),by show x.length<=_;omega⟩) (fun _=>⟨Int.le_refl (0:Int),by show x.length<=_;omega⟩)
    simp only
    rw[z04 (by omega)]
    exact hX _ ⟨_,i+1,rfl,by omega⟩
 obtain⟨⟨z,_⟩,hq,hv⟩:=zoc (S:=zl8 x) hs ⟨(([],(0,(0,()))),()),Int.le_refl (0:Int),by decide⟩ fun hi=>by
  unfold zl8
  repeat' first|exact rk|apply_assumption|refine rb ?_ ?_|refine rl hi ?_|refine ra ?_|(refine rp ?_;intro _ _ _ _)|(refine re ?_;intro _)
 exact⟨z,z09i _ _ hv,hq⟩
theorem z0f1 {x:List Int}:z073 x (decide ((x.length:Int) > 1048576)):=z0f9 _ _ (z0j fun _=>rfl)
def SmX2 (x:z0d):Prop:=x.1=sigs/\x.2.1.length<=30/\∀ f∈x.2.1,f.2.1.length<=2
theorem z0bb {s:Src} {m:Int} (h:Oks s) (h0:0<=m) (h1:m<=30):∃ y z,zcg s m y z/\SmX2 y/\Oks z:=by
 have hs:z73 s m (fun q=>SmX2 q.1/\Oks q.2.1):=by
  unfold z73
  obtain⟨v,z,g,hv,hz⟩:=z5d h (n:=m+1) (by omega) (by omega)
  refine⟨_,zld,v,z,by rw[z2s (by omega) (by omega)];exact g,?_⟩
  obtain⟨N,rfl⟩:∃ N:Nat,v=(N:Int):=⟨v.toNat,by omega⟩
  refine z1m (fun k a=>∃(c:Src) (x:z0d),a=((k:Int),(c,(x,())))/\Oks c/\x.1=sigs/\x.2.1.length+k<=N/\∀ f∈x.2.1,f.2.1.length<=2) ?_ ?_ (n:=N) ⟨z,(sigs,([],())),rfl,hz,rfl,by simp,fun f hf=>by simp at hf⟩
  . rintro a ⟨c,x,rfl,hc,hx,hl,hf⟩ X
    refine z08 (fun h=>by simp at h) (fun _=>⟨x,zas (by rw[hx];decide) (by first|omega|(simp only;omega)) (fun f hm=>by have:=hf f hm;omega),⟨hx,by first|omega|(simp only;omega),hf⟩,hc⟩)
  . rintro k a ⟨c,x,rfl,hc,hx,hl,hf⟩ X hX
    obtain⟨u,z1,g1,hu,hz1⟩:=z5d hc (n:=2) (by decide) (by decide)
    obtain⟨f,z2,g2,hr,hz2⟩:=z05t hz1 (r:=u) (n:=0) (by omega) (by omega) (by decide)
    have hr2:=hr.2.2
    refine z08 (fun _=>⟨u,z1,g1,f,z2,g2,_,zvy (x:=x) (f:=f) (by omega) (by omega),?_⟩) (fun h=>by simp at h<;>omega)
    simp only
    rw[zqj (by omega)]
    refine hX _ ⟨z2,_,rfl,hz2,hx,?_,fun y hy=>?_⟩
    . have:=z02r (l:=x.2.1) (f:=f)
      show(zmf x.2.1 f).length+k<=N
      omega
    . rcases putF_mem.mp hy with hy|rfl
      . exact hf y hy
      . exact hr2
 obtain⟨⟨y,z,_⟩,hq,hv⟩:=zoc (S:=z73 s m) hs ⟨(((sigs,([],())):z0d),(s,())),⟨rfl,by simp,fun f hf=>by simp at hf⟩,h⟩ fun hi=>by
  unfold z73
  repeat' first|exact rk|apply_assumption|refine rb ?_ ?_|refine rl hi ?_|refine ra ?_|(refine rp ?_;intro _ _ _ _)|(refine re ?_;intro _)
 exact⟨y,z,zpp _ _ _ _ hv,hq.1,hq.2⟩
theorem z0dq {s:Src} (h:Oks s):∃ y z,zcu s y z/\(y.length<=3/\∀ d∈y,SmD 2 d)/\Oks z:=by
 have hs:z71 s (fun q=>(q.1.length<=3/\∀ d∈q.1,SmD 2 d)/\Oks q.2.1):=by
  unfold z71
  obtain⟨v,z,g,hv,hz⟩:=z5d h (n:=3) (by decide) (by decide)
  obtain⟨N,hN⟩:∃ N:Nat,1+v=(N:Int):=⟨(1+v).toNat,by omega⟩
  refine⟨v,z,g,?_⟩
  rw[show w64 (1+v)=(N:Int) by rw[hN];exact z2s (by omega) (by omega)]
  refine z1m (fun k a=>∃(c:Src) (ds:List z0c),a=((k:Int),(ds,(c,())))/\Oks c/\ds.length+k<=3/\∀ d∈ds,SmD 2 d) ?_ ?_ (n:=N) ⟨z,[],rfl,hz,by simp;omega,fun d hd=>by simp at hd⟩
  . rintro a ⟨c,ds,rfl,hc,hl,hd⟩ X
    exact z08 (fun h=>by simp at h) (fun _=>⟨⟨by simp only;omega,hd⟩,hc⟩)
  . rintro k a ⟨c,ds,rfl,hc,hl,hd⟩ X hX
    obtain⟨d,z1,g1,hd1,hz1⟩:=z0g2 hc
    have old:X (w64 (((k+1:Nat):Int) - 1),(ds,(z1,()))):=by
     rw[zqj (by omega)]
     exact hX _ ⟨z1,ds,rfl,hz1,by omega,hd⟩
    refine z08 (fun _=>⟨d,z1,g1,zrz ⟨trivial,trivial,_,zld,?_,?_,_,zma,zrz ⟨?_,?_⟩ old⟩ old⟩) (fun h=>by simp at h<;>omega)
    . simp only[z0w,List.length_nil];omega
    . simp only[z0w,List.length_append,List.length_cons,List.length_nil];omega
    . simp only[z0w,List.length_cons,List.length_nil];omega
    . simp only
      rw[zqj (by omega)]
      refine hX _ ⟨z1,ds++[d],rfl,hz1,by simp only[List.length_append,List.length_cons,List.length_nil];omega,fun e he=>?_⟩
      rcases List.mem_append.mp he with he|he
      . exact hd e he
      . obtain rfl:=List.mem_singleton.mp he;exact hd1
 obtain⟨⟨y,z,_⟩,hq,hv⟩:=zoc (S:=z71 s) hs ⟨(([]:List z0c),(s,())),⟨by simp,fun f hf=>by simp at hf⟩,h⟩ fun hi=>by
  unfold z71
  repeat' first|exact rk|apply_assumption|refine rb ?_ ?_|refine rl hi ?_|refine ra ?_|(refine rp ?_;intro _ _ _ _)|(refine re ?_;intro _)
 exact⟨y,z,zpx _ _ _ hv,hq.1,hq.2⟩
theorem z0c2 {s:Src} (h:Oks s):∃ y z,zd8 s y z/\y.2.1.length<=3/\Oks z:=by
 have hs:zb8 s (fun q=>q.1.2.1.length<=3/\Oks q.2.1):=by
  unfold zb8
  obtain⟨r,z,g,hr,hz⟩:=z5d h (n:=5) (by decide) (by decide)
  obtain⟨f,z1,g1,hf,hz1⟩:=z05t hz (r:=r) (n:=4) hr.1 hr.2 (by decide)
  obtain⟨v,z2,g2,hv,hz2⟩:=z5d hz1 (n:=10) (by decide) (by decide)
  obtain⟨u,z3,g3,hu,hz3⟩:=z5d hz2 (n:=7) (by decide) (by decide)
  obtain⟨w,z4,g4,hz4⟩:=z06v hz2 (l:=[10,-41,9]) (by decide) (by decide)
  have hl:=hf.2
  refine⟨r,z,g,f,z1,g1,v,z2,g2,zrz ⟨u,z3,g3,?_,hz3⟩ (zrz ⟨?_,?_,hz2⟩ (zrz ⟨w,z4,g4,⟨by omega,by omega⟩,?_,hz4⟩ ⟨?_,hz2⟩))⟩
  . show f.2.1.length<=3;omega
  . simp only[z0w,List.length_cons,List.length_nil];omega
  . simp only[List.length_append,List.length_cons,List.length_nil];omega
  . simp only[List.length_set];omega
  . show f.2.1.length<=3;omega
 obtain⟨⟨y,z,_⟩,hq,hv⟩:=zoc (S:=zb8 s) hs ⟨(((0,([],())):z00),(s,())),by simp,h⟩ fun hi=>by
  unfold zb8
  repeat' first|exact rk|apply_assumption|refine rb ?_ ?_|refine rl hi ?_|refine ra ?_|(refine rp ?_;intro _ _ _ _)|(refine re ?_;intro _)
 exact⟨y,z,zwq _ _ _ hv,hq.1,hq.2⟩
structure SkD (s:TSk):Prop where
 rels:s.1.1.length<=1000
 few:s.1.2.1.length<=100
 row:∀ f∈s.1.2.1,f.2.1.length<=3
 terms:s.2.1.length<=100
 args:∀ t∈s.2.1,t.2.2.1.length<=5
theorem SkD.of {s:TSk} (h:vSk s=true):SkD s:=by
 have hi:=z6g h
 have hr:=zej (zep hi.1)
 have hf:=z54 hi.1
 have ht:=zfg (z6w h).2.2
 refine⟨by omega,by omega,fun f hm=>(z3k (z7o hi.1 hm)).2.2.2.2.1,by omega,fun t ht=>?_⟩
 obtain⟨i,hi,rfl⟩:=List.mem_iff_getElem.mp ht
 exact z03q h hi
theorem SkD.sm {s:TSk} (h:SkD s):SmS s:=⟨by have:=h.rels;omega,by have:=h.few;omega,fun f hf=>by have:=h.row f hf;omega,by have:=h.terms;omega,fun t ht=>by have:=h.args t ht;omega⟩
theorem SkD.j {s:TSk} (h:SkD s):SmJ s.1:=⟨h.sm.rels,h.sm.few,h.sm.row⟩
theorem z0ge {s:TSk} {ds:List z0c} (h:(skc s ds).2=true):vSk (skc s ds).1=true:=by
 by_cases h':(vSk s&&z4f s.1.1 ds)=true
 . cases e:zeh ds 31 s with
   |inl r=>rw[z06g h' e]at h;simp at h
   | inr y=>
     rw[z08h h' e]
     rw[Bool.and_eq_true]at h'
     exact(zra h'.1 e).sk
 . rw[z06m (by simpa using h')]at h;simp at h
theorem SkD.inst {s:TSk} {x:z0d} (h:SkD s) (h1:x.1=s.1.1) (h2:x.2.1.length<=100) (h3:∀ f∈x.2.1,f.2.1.length<=3):SkD (x,s.2):=⟨by show x.1.length<=1000;rw[h1];exact h.rels,h2,h3,h.terms,h.args⟩
theorem SkD.del {s:TSk} {f:z00} (h:SkD s):SkD ((zzi s.1 f).1,s.2):=by
 unfold zzi
 split
 . refine h.inst rfl (Nat.le_trans (List.length_filter_le _ _) h.few) fun g hg=>h.row g (List.mem_filter.mp hg).1
 . exact h
theorem SkD.ins {s:TSk} {f:z00} (h:SkD s):SkD ((insF s.1 f).1,s.2):=by
 unfold insF
 split
 . rename_i hv
   simp only[Bool.and_eq_true]at hv
   have hv:=hv.2.2
   have hl:=z54 hv
   have hr:=fun f hm=>(z3k (z7o hv (f:=f) hm)).2.2.2.2.1
   exact h.inst rfl (by simp only at hl ⊢;omega) hr
 . exact h
theorem zse {x:z0d} {f:z00} (hs:SmJ x) (hf:f.2.1.length<=3):z5l x f (insF x f).1 (insF x f).2:=by
 cases h:z35 x with
 |true=>exact zwc h hf
 | false=>
   have e:insF x f=(x,false):=by unfold insF;rw[h];rfl
   rw[e]
   have h1:=hs.rels
   have h2:=hs.few
   refine zlg _ _ _ _ ?_
   unfold zfq
   refine⟨x,zas (by omega) (by omega) (fun f hf=>by have:=hs.row f hf;omega),_,z2w,?_⟩
   rw[h]
   exact bcT rfl
theorem z0d7 {x:z0d} (h:SmX2 x):∃ s b,zaa x s b/\SkD s:=by
 have hl:x.1.length<=1000:=by rw[h.1];decide
 have h2:=h.2.1
 have hb:zkc x (z35 x&&((zga x).length:Int) == 0):=zzw _ _ (by
  unfold zq2
  refine⟨_,z2w,z1j (fun h=>⟨_,zdl,z0j fun _=>by rw[h];rfl⟩) (fun h=>by rw[h];rfl)⟩)
 cases hv:(z35 x&&((zga x).length:Int) == 0)with
 | false=>
   refine⟨(([],([],())),([],())),false,zew _ _ _ ?_,⟨by simp,by simp,fun f hf=>by simp at hf,by simp,fun f hf=>by simp at hf⟩⟩
   unfold za0
   refine⟨_,hb,?_⟩
   rw[hv]
   exact bcT rfl
 | true=>
   refine⟨(x,([],())),true,zew _ _ _ ?_,⟨hl,by simp only;omega,fun f hf=>by have:=h.2.2 f hf;omega,by simp,fun f hf=>by simp at hf⟩⟩
   unfold za0
   refine⟨_,hb,?_⟩
   rw[hv]
   exact bcF ⟨x,zas (by omega) (by omega) (fun f hf=>by have:=h.2.2 f hf;omega),rfl⟩
def SkQ (c:Src) (s:TSk) (ds:List z0c):Prop:=Oks c/\SkD s/\ds.length<=3/\∀ d∈ds,SmD 2 d
theorem z0aa {x:List Int} (h:x.length<=1048576):∃ c s ds,zmh x c s ds/\SkQ c s ds:=by
 have hs:zez x (fun q=>SkQ q.1 q.2.1 q.2.2.1):=by
  unfold zez
  obtain⟨z,g,hz⟩:=z0gf h
  obtain⟨y,z1,g1,hy,hz1⟩:=z0bb hz (m:=2) (by decide) (by decide)
  obtain⟨s,b,g2,hS⟩:=z0d7 hy
  obtain⟨ds,z3,g3,hds,hz3⟩:=z0dq hz1
  have tail:∀ {c:Src} {st:TSk},Oks c->SkD st->(∃ y10:Int,∃ y11:Src,z0b c (12:Int) y10 y11/\(z01 (y10 == (0:Int)) (z0s (List.length st.1.2.1:Int) (z01 (decide ((List.length st.1.2.1:Int) > (0:Int))) ((0<=(0:Int)/\(0:Int)<(List.length st.1.2.1:Int))/\(∃ y12:z0d,∃ y13:Bool,z3z st.1 (st.1.2.1.getD (Int.toNat (0:Int)) z0n) y12 y13/\SkQ y11 (y12,st.2) ds)) (SkQ y11 st ds))) (z01 (y10 == (1:Int)) (∃ y14:z00,∃ y15:Src,z4i y11 (2:Int) (0:Int) y14 y15/\(∃ y16:z0d,∃ y17:Bool,z5l st.1 y14 y16 y17/\SkQ y15 (y16,st.2) ds)) (SkQ y11 st ds)))):=by
   intro c st hc hst
   obtain⟨v,c1,k1,hv,hc1⟩:=z5d hc (n:=12) (by decide) (by decide)
   obtain⟨f,c2,k2,hf,hc2⟩:=z05t hc1 (r:=2) (n:=0) (by decide) (by decide) (by decide)
   refine⟨v,c1,k1,zrz (z0j fun _=>z08 (fun hp=>⟨⟨by omega,hp⟩,_,_,zj6 hst.j,hc1,hst.del,hds⟩) (fun _=>⟨hc1,hst,hds⟩)) (zrz ⟨f,c2,k2,_,_,zse hst.j (by have:=hf.2.2;omega),hc2,hst.ins,hds⟩ ⟨hc1,hst,hds⟩)⟩
  refine⟨z,g,y,z1,g1,s,b,g2,ds,z3,g3,_,_,zsk hS.sm,z1j (fun hb=>z0j fun _=>zrz (tail hz3 (.of (z0ge hb))) (tail hz3 hS)) (fun _=>tail hz3 hS)⟩
 obtain⟨⟨c,s,ds,_⟩,hq,hv⟩:=zoc (S:=zez x) hs ⟨((([],(0,(0,()))):Src),((((([],([],())):z0d),(([],()):List z0a×Unit)):TSk),(([]:List z0c),()))),⟨Int.le_refl (0:Int),by decide⟩,⟨by simp,by simp,fun f hf=>by simp at hf,by simp,fun f hf=>by simp at hf⟩,by simp,fun f hf=>by simp at hf⟩ fun hi=>by
  unfold zez
  repeat' first|exact rk|apply_assumption|refine rb ?_ ?_|refine rl hi ?_|refine ra ?_|(refine rp ?_;intro _ _ _ _)|(refine re ?_;intro _)
 exact⟨c,s,ds,z05g _ _ _ _ hv,hq⟩
theorem z0fq {c:Src} {s:TSk} (hc:Oks c) (h:SkD s):∃ f z,zbz c s f z/\f.2.1.length<=3/\Oks z:=by
 have hs:z9p c s (fun q=>q.1.2.1.length<=3/\Oks q.2.1):=by
  unfold z9p
  have hl:=h.few
  obtain⟨f,z,g,hf,hz⟩:=z0c2 hc
  refine z0j fun _=>z08 (fun hp=>?_) (fun _=>⟨f,z,g,hf,hz⟩)
  obtain⟨b,z1,g1,hz1⟩:=zyu hc (n:=8) (by decide) (by decide)
  obtain⟨f2,z2,g2,hf2,hz2⟩:=z0c2 hz1
  obtain⟨i,z3,g3,hi,hz3⟩:=z5d hz1 (n:=(s.1.2.1.length:Int)) (by omega) (by omega)
  refine⟨b,z1,g1,zrz (z0j fun _=>⟨i,z3,g3,⟨hi.1,hi.2⟩,?_,hz3⟩) ⟨f2,z2,g2,hf2,hz2⟩⟩
  have hn:i.toNat<s.1.2.1.length:=by omega
  have e:s.1.2.1.getD i.toNat z0n=s.1.2.1[i.toNat]:=by rw[List.getD_eq_getElem?_getD,List.getElem?_eq_getElem hn];rfl
  show(s.1.2.1.getD i.toNat z0n).2.1.length<=3
  rw[e]
  exact h.row _ (List.getElem_mem hn)
 obtain⟨⟨y,z,_⟩,hq,hv⟩:=zoc (S:=z9p c s) hs ⟨(((0,([],())):z00),(c,())),by simp,hc⟩ fun hi=>by
  unfold z9p
  repeat' first|exact rk|apply_assumption|refine rb ?_ ?_|refine rl hi ?_|refine ra ?_|(refine rp ?_;intro _ _ _ _)|(refine re ?_;intro _)
 exact⟨y,z,zvw _ _ _ _ hv,hq.1,hq.2⟩
theorem zl6 {s:TSk} {ds:List z0c} {f g:z00}:zd5 s ds f g (zwb s ds f g):=zxb _ _ _ _ _ (by
 unfold zns zwb
 have hm:∀ {s:TSk} {f:z00},(lvl s ds f == (-1:Int))=decide (lvl s ds f<0):=by
  intro s f
  have:=z0f2 (s:=s) (ds:=ds) (f:=f)
  rw[Bool.eq_iff_iff];simp;omega
 refine⟨_,z6i,?_⟩
 rw[hm]
 refine z08 (fun h=>by rw[decide_eq_true h];rfl) (fun h1=>⟨_,z6i,?_⟩)
 rw[hm]
 refine z08 (fun h=>by rw[decide_eq_true h,decide_eq_false h1];rfl) (fun h2=>?_)
 obtain⟨a1,a2,a3⟩:=z07d h2
 have hsm:=SmS.of a1
 have e:zzi s.1 g=(delI s.1 g,true):=by unfold zzi;rw[(z6g a1).1,decide_eq_true a3];rfl
 have hd:=zs7 (x:=s.1) (f:=g) ⟨hsm.rels,hsm.few,hsm.row⟩
 rw[e]at hd
 refine⟨_,zy7 a1,_,_,hd,lvl (delS s g) ds f,z6i,?_⟩
 rw[hm,decide_eq_false h1,decide_eq_false h2];rfl)
theorem law {x0:List Int} (_:Bnd (.sl 5 (.int .u8)) x0):zjk x0 true:=zrw _ _ (by
 unfold zji
 refine⟨_,z0f1,z08 (fun _=>rfl) (fun hb=>?_)⟩
 have hlen:x0.length<=1048576:=by omega
 obtain⟨c,s,ds,gb,hc,hS,_⟩:=z0aa hlen
 obtain⟨f,c1,g1,_,hc1⟩:=z0fq hc hS
 obtain⟨g,c2,g2,_,_⟩:=z0fq hc1 hS
 refine⟨s,ds,f,g,zo4 _ _ _ _ _ ⟨c,s,ds,gb,f,c1,g1,g,c2,g2,rfl⟩,_,zl6,_,zxq,zeo (fun h=>absurd rfl h) fun _=>⟨_,z6k,z08 (fun hl=>?_) fun hl=>?_⟩⟩
 . have:zwb s ds f g=false:=by unfold zwb;rw[decide_eq_true hl];rfl
   rw[this];rfl
 . have hff:zwb s ds f f=true:=by unfold zwb;rw[z077,decide_eq_false hl];rfl
   refine⟨_,_,zj6 hS.j,_,zl6,?_⟩
   rw[hff]
   refine bcT (z0y (fun _=>rfl) fun hd=>⟨_,z5c,z32 (fun _=>rfl) fun _=>?_⟩)
   have hd':=hd
   unfold zwb at hd'
   simp only[Bool.and_eq_true,Bool.not_eq_true',decide_eq_true_eq,decide_eq_false_iff_not]at hd'
   obtain⟨a1,a2,a3⟩:=z07d hd'.2.1
   have e:zzi s.1 g=(delI s.1 g,true):=by unfold zzi;rw[(z6g a1).1,decide_eq_true a3];rfl
   rw[e]
   refine⟨lvl (delS s g) ds f,z6i,?_⟩
   rw[decide_eq_true hd'.2.2])
end Go.V

