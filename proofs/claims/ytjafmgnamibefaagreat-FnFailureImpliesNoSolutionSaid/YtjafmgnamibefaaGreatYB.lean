/-
  The functions that the law reaches: what each gives.
-/
import Derived.Test.YtjafmgnamibefaaGreatYF
import Derived.Test.YtjafmgnamibefaaGreatYP
set_option linter.unusedVariables false
set_option linter.unusedSimpArgs false
set_option maxRecDepth 1000000
set_option maxHeartbeats 4000000
set_option linter.unusedVariables false
set_option linter.unusedSimpArgs false
namespace Go.V
open Go
theorem z9x {x0:List Int} (h:x0.length<=1099511627776):z3o x0 (z3b x0):=z047 h
theorem z7u {x0:List Int}:z2y x0 (zby x0):=zvi
def cmpI (a b:Int):Int:=if a<b then -1 else if b<a then 1 else 0
def zib:List Int->List Int->Int
 |[],[]=>0
 |[],_::_=>-1
 |_::_,[]=>1
 |a::x,b::y=>if a<b then -1 else if b<a then 1 else zib x y
def z81 (a b:z00):Int:=if a.1<b.1 then -1 else if b.1<a.1 then 1 else zib a.2.1 b.2.1
theorem cmpL_zero:∀ {x y:List Int},zib x y=0↔x=y
 |[],[]=>by simp[zib]
 |[],b::y=>by simp[zib]
 |a::x,[]=>by simp[zib]
 | a::x,b::y=>by
   unfold zib
   split
   . rename_i h;constructor
     . intro h';cases h'
     . intro h';cases h';omega
   . split
     . rename_i h;constructor
       . intro h';cases h'
       . intro h';cases h';omega
     . rw[cmpL_zero]
       have:a=b:=by omega
       simp[this]
theorem cmpF_zero {x y:z00}:z81 x y=0↔x=y:=by
 obtain⟨a,b,u⟩:=x;obtain⟨a',b',u'⟩:=y
 unfold z81
 simp only
 split
 . rename_i h;constructor
   . intro h';cases h'
   . intro h';cases h';omega
 . split
   . rename_i h;constructor
     . intro h';cases h'
     . intro h';cases h';omega
   . rw[cmpL_zero]
     have:a=a':=by omega
     simp[this]
theorem zvp {x y:List Int} {i:Nat} (h:i<x.length) (h':i<y.length):zib (x.drop i) (y.drop i)=if x[i]<y[i] then -1 else if y[i]<x[i] then 1 else zib (x.drop (i+1)) (y.drop (i+1)):=by
 rw[z56 h,z56 h',zib]
theorem z016 {x y:List Int} {i:Nat} (h:x.length<=i):zib (x.drop i) (y.drop i)=if i<y.length then -1 else 0:=by
 rw[List.drop_of_length_le h]
 by_cases h':i<y.length
 . rw[z56 h',if_pos h'];rfl
 . rw[List.drop_of_length_le (by omega),if_neg h'];rfl
theorem cmpL_end' {x y:List Int} {i:Nat} (h:i<x.length) (h':y.length<=i):zib (x.drop i) (y.drop i)=1:=by
 rw[List.drop_of_length_le h',z56 h];rfl
theorem zx7 {x y:List Int}:zl5 x y (zib x y):=z06t _ _ _ (by
 unfold zw8
 refine z1f (fun k a=>∃ i:Nat,i+k=x.length/\a=((i:Int),())/\i<=y.length/\zib (x.drop i) (y.drop i)=zib x y) ?_ ?_ (n:=x.length) ⟨0,by omega,rfl,by omega,by simp⟩
 . rintro a ⟨i,hi,rfl,hy,hc⟩ X
   obtain rfl:i=x.length:=by omega
   rw[z016 (Nat.le_refl _)]at hc
   refine z0m fun h1=>bcN (z0m fun _=>z0m fun h2=>z0e (fun h=>?_) (fun h=>z0m fun _=>z0m fun _=>z0e (fun h'=>by omega) (fun h'=>?_)))
   . rw[if_pos (by omega)]at hc;rw[<-hc]
   . rw[if_neg (by omega)]at hc;rw[<-hc]
 . rintro k a ⟨i,hi,rfl,hy,hc⟩ X hX
   have hlt:i<x.length:=by omega
   refine z0m fun h1=>bcI hlt (z0m fun h2=>z0e (fun h=>?_) (fun h=>?_))
   . have hlt':i<y.length:=by omega
     refine inI hlt (inI hlt' ?_)
     simp only
     rw[z2g hlt,z2g hlt']
     rw[zvp hlt hlt']at hc
     refine z0e (fun h=>?_) (fun h=>inI hlt (inI hlt' (z0e (fun h'=>?_) (fun h'=>?_))))
     . rw[if_pos h]at hc;rw[<-hc]
     . rw[if_neg h,if_pos h']at hc;rw[<-hc]
     . rw[if_neg h,if_neg (by omega)]at hc
       rw[z06 (by omega)]
       exact hX _ ⟨i+1,by omega,rfl,by omega,hc⟩
   . simp only at h
     rw[cmpL_end' hlt (by omega)]at hc
     refine z0m fun _=>z0m fun _=>z0e (fun h'=>by omega) (fun h'=>z0m fun _=>z0m fun _=>z0e (fun h''=>?_) (fun h''=>by omega))
     rw[<-hc])
theorem zbm {x y:z00}:z62 x y (z81 x y):=zqe _ _ _ (by
 unfold zgx z81
 refine z0e (fun h=>by rw[if_pos h]) (fun h=>z0e (fun h'=>by rw[if_neg h,if_pos h']) (fun h'=>⟨_,zx7,by rw[if_neg h,if_neg (by omega)]⟩)))
theorem zh0 {x:Int}:z8n x false:=zq5 _ _ (by unfold zhj;simp)
theorem ze8 {x y:Int}:z6l x y (cmpI x y):=zme _ _ _ (by
 unfold zdv cmpI
 refine⟨_,zh0,_,zh0,bcF (bcF (z0e (fun h=>by rw[if_pos h]) (fun h=>z0e (fun h'=>by rw[if_neg h,if_pos h']) (fun h'=>by rw[if_neg h,if_neg h']))))⟩)
theorem cmpI_zero {a b:Int}:cmpI a b=0↔a=b:=by unfold cmpI;split<;>(try split)<;>omega
theorem zii {x y:List Int}:z6y x y (zib x y):=zij _ _ _ (by
 unfold zaf
 refine z0m fun h1=>z1f (fun k a=>∃ i:Nat,i+k=x.length/\a=((i:Int),())/\zib (x.drop i) (y.drop i)=zib x y/\i<=y.length) ?_ ?_ (n:=x.length) ⟨0,by omega,rfl,by simp,by omega⟩
 . rintro a ⟨i,hi,rfl,hc,hy⟩ X
   obtain rfl:i=x.length:=by omega
   rw[z016 (Nat.le_refl _)]at hc
   refine bcN (z0m fun _=>z0m fun h2=>z0e (fun h=>?_) (fun h=>?_))
   . rw[if_pos (by omega)]at hc;rw[<-hc]
   . rw[if_neg (by omega)]at hc;rw[<-hc]
 . rintro k a ⟨i,hi,rfl,hc,hy⟩ X hX
   have hlt:i<x.length:=by omega
   refine bcI hlt (inI hlt (z0m fun h2=>z0e (fun h=>?_) (fun h=>?_)))
   . simp only at h
     rw[cmpL_end' hlt (by omega)]at hc
     rw[<-hc]
   . simp only at h
     have hlt':i<y.length:=by omega
     refine inI hlt' ⟨_,ze8,?_⟩
     simp only
     rw[z2g hlt,z2g hlt']
     rw[zvp hlt hlt']at hc
     refine z97 (fun h=>?_) (fun h=>?_)
     . have hne:x[i]≠y[i]:=fun e=>h (cmpI_zero.mpr e)
       rw[<-hc]
       unfold cmpI
       by_cases h3:x[i]<y[i]
       . rw[if_pos h3,if_pos h3]
       . rw[if_neg h3,if_neg h3,if_pos (by omega),if_pos (by omega)]
     . have he:=cmpI_zero.mp h
       rw[if_neg (by omega),if_neg (by omega)]at hc
       rw[z06 (by omega)]
       exact hX _ ⟨i+1,by omega,rfl,hc,by omega⟩)
def orL:List Int->Int
 |[]=>0
 |a::l=>if a=0 then orL l else a
theorem zv7 {x:List Int}:zhq x (orL x):=zx8 _ _ (by
 unfold zn0
 have key:∀ l:List Int,orL l=if h:z05 (fun t=>t != 0) l<l.length then l[z05 (fun t=>t != 0) l] else 0:=by
  intro l
  induction l with
  |nil=>simp[orL,z05]
  | cons a l ih=>
    unfold orL
    by_cases ha:a=0
    . rw[if_pos ha,ih]
      simp only[z05,ha,bne_self_eq_false,Bool.false_eq_true,if_false,List.length_cons,Nat.add_lt_add_iff_right,List.getElem_cons_succ]
    . rw[if_neg ha]
      have:(a != 0)=true:=by simpa using ha
      simp[z05,this]
 refine z0m fun hl=>z9d x (fun t=>t != 0) (fun i=>((i:Int),())) (KT:=fun i=>∀ h:i<x.length,((x[i],()):Int×Unit)=(orL x,())) (KF:=(((0:Int),()):Int×Unit)=(orL x,())) ?_ ?_ ?_ ?_
 . intro i hi X h1 h2
   refine bcI hi (inI hi ?_)
   simp only
   rw[z2g hi,z06 (by omega)]
   exact z1w (fun h=>h1 h hi) h2
 . intro X h;exact bcN h
 . intro h h';rw[key,dif_pos h]
 . intro h;rw[key,dif_neg (by omega)])
theorem zba {x y:z00}:z5z x y (z81 x y):=zpy _ _ _ (by
 unfold zh6
 refine⟨_,ze8,_,zii,_,zv7,?_⟩
 have:orL [cmpI x.1 y.1,zib x.2.1 y.2.1]=z81 x y:=by
  unfold z81
  by_cases h:x.1<y.1
  . have:cmpI x.1 y.1 = -1:=by unfold cmpI;rw[if_pos h]
    rw[if_pos h,this];rfl
  . rw[if_neg h]
    by_cases h':y.1<x.1
    . have:cmpI x.1 y.1=1:=by unfold cmpI;rw[if_neg h,if_pos h']
      rw[if_pos h',this];rfl
    . have:cmpI x.1 y.1=0:=by unfold cmpI;rw[if_neg h,if_neg h']
      rw[if_neg h',this]
      unfold orL
      rw[if_pos rfl]
      unfold orL
      by_cases h0:zib x.2.1 y.2.1=0
      . rw[if_pos h0,h0];rfl
      . rw[if_neg h0]
 rw[this])
theorem zjr {x y:z00}:zfj x y (decide (x=y)):=zyr _ _ _ (by
 unfold zq0
 refine⟨_,zba,?_⟩
 have:(z81 x y == (0:Int))=decide (x=y):=by
  by_cases h:x=y
  . rw[cmpF_zero.mpr h];simp[h]
  . have:z81 x y≠0:=fun e=>h (cmpF_zero.mp e)
    simp[h,this]
 rw[this])
def ins:List Int->Int->List Int
 |[],x=>[x]
 |a::l,x=>if a<x then a::ins l x else if a=x then a::l else x::a::l
def srt (l:List Int):Prop:=l.Pairwise (· < ·)
def zg2 (l:List Int):List Int:=l.foldl ins []
theorem mem_put {y x:Int}:∀ {l:List Int},y∈ins l x↔y=x\/y∈l
 |[]=>by simp[ins]
 | a::l=>by
   unfold ins
   split
   . rw[List.mem_cons,mem_put,List.mem_cons]
     constructor
     . rintro (h|h|h)<;>simp[h]
     . rintro (h|h|h)<;>simp[h]
   . split
     . rename_i h;subst h;simp
     . simp
theorem z06z {x:Int}:∀ {l:List Int},srt l->srt (ins l x)
 |[],_=>by simp[ins,srt]
 | a::l,h=>by
   obtain⟨h1,h2⟩:=List.pairwise_cons.mp h
   unfold ins
   split
   . rename_i hlt
     refine List.pairwise_cons.mpr ⟨fun y hy=>?_,z06z h2⟩
     rcases mem_put.mp hy with rfl|hy
     . exact hlt
     . exact h1 y hy
   . split
     . exact h
     . refine List.pairwise_cons.mpr ⟨fun y hy=>?_,h⟩
       rcases List.mem_cons.mp hy with rfl|hy
       . omega
       . have:=h1 y hy;omega
theorem zxo {l:List Int}:∀ {s:List Int},srt s->srt (l.foldl ins s)/\∀ y,y∈l.foldl ins s↔y∈s\/y∈l:=by
 induction l with
 |nil=>intro s h;exact⟨h,by simp⟩
 | cons a l ih=>
   intro s h
   obtain⟨h1,h2⟩:=ih (z06z (x:=a) h)
   refine⟨h1,fun y=>?_⟩
   rw[List.foldl_cons,h2,mem_put,List.mem_cons]
   constructor
   . rintro ((h|h)|h)<;>simp[h]
   . rintro (h|h|h)<;>simp[h]
theorem zkw (l:List Int):srt (zg2 l):=(zxo List.Pairwise.nil).1
theorem mem_sset {l:List Int} {y:Int}:y∈zg2 l↔y∈l:=by have:=(zxo (l:=l) List.Pairwise.nil).2 y;simpa [zg2]using this
theorem z04z:∀ {a b:List Int},srt a->srt b->(∀ y,y∈a↔y∈b)->a=b
 |[],[],_,_,_=>rfl
 |[],y::b,_,_,h=>by have:=(h y).mpr (by simp);simp at this
 |x::a,[],_,_,h=>by have:=(h x).mp (by simp);simp at this
 | x::a,y::b,ha,hb,h=>by
   obtain⟨ha1,ha2⟩:=List.pairwise_cons.mp ha
   obtain⟨hb1,hb2⟩:=List.pairwise_cons.mp hb
   have hxy:x=y:=by
    rcases List.mem_cons.mp ((h x).mp (by simp))with e|hx
    . exact e
    . rcases List.mem_cons.mp ((h y).mpr (by simp))with e|hy
      . exact e.symm
      . have:=ha1 y hy;have:=hb1 x hx;omega
   subst hxy
   congr 1
   refine z04z ha2 hb2 fun z=>⟨fun hz=>?_,fun hz=>?_⟩
   . rcases List.mem_cons.mp ((h z).mp (by simp[hz]))with e|h'
     . have:=ha1 z hz;omega
     . exact h'
   . rcases List.mem_cons.mp ((h z).mpr (by simp[hz]))with e|h'
     . have:=hb1 z hz;omega
     . exact h'
theorem z05e {a l:List Int} (h1:srt a) (h2:∀ y,y∈a↔y∈l):a=zg2 l:=z04z h1 (zkw l) fun y=>by rw[h2,mem_sset]
theorem zxk {l m:List Int}:(zg2 m).foldl ins (zg2 l)=zg2 (l++m):=by
 obtain⟨h1,h2⟩:=zxo (l:=zg2 m) (zkw l)
 exact z05e h1 fun y=>by rw[h2,mem_sset,mem_sset,List.mem_append]
theorem zqf {l:List Int} {x:Int}:ins (zg2 l) x=zg2 (l++[x]):=by unfold zg2;rw[List.foldl_append];rfl
theorem z04q (l:List Int) (x:Int):(ins l x).length<=l.length+1:=by
 induction l with
 |nil=>simp[ins]
 |cons a l ih=>unfold ins;split;simp;omega;split<;>simp
theorem zu4 (l:List Int):(zg2 l).length<=l.length:=by
 have:∀(l s:List Int),(l.foldl ins s).length<=s.length+l.length:=by
  intro l
  induction l with
  |nil=>intro s;simp
  |cons a l ih=>intro s;have:=ih (ins s a);have:=z04q s a;simp only[List.foldl_cons,List.length_cons];omega
 have:=this l []
 simpa [zg2]using this
theorem z03p {l:List Int} {a:Int}:∀ {n:Nat},srt l->(∀ y∈l,a<=y/\y<a+n)->l.length<=n:=by
 induction l generalizing a with
 |nil=>intro n _ _;simp
 | cons x l ih=>
   intro n h hr
   obtain⟨h1,h2⟩:=List.pairwise_cons.mp h
   have hx:=hr x (by simp)
   have:=ih (a:=x+1) (n:=(a+n - (x+1)).toNat) h2 fun y hy=>by
    have:=h1 y hy;have:=hr y (by simp[hy]);omega
   simp only[List.length_cons];omega
theorem z08k {l:List Int} (h:srt l) (hne:l≠[]):∀ y∈l,y<=l.getLast hne:=by
 intro y hy
 have hs:l=l.dropLast++[l.getLast hne]:=(List.dropLast_concat_getLast hne).symm
 rw[hs]at h hy
 unfold srt at h
 rw[List.pairwise_append]at h
 rcases List.mem_append.mp hy with hy|hy
 . have:=h.2.2 y hy (l.getLast hne) (by simp);omega
 . have:y=l.getLast hne:=by simpa using hy
   omega
theorem z0ck (l:List Int) (x:Int):ins l x=if h:z05 (fun a=>!decide (a<x)) l<l.length then(if l[z05 (fun a=>!decide (a<x)) l]=x then l else l.take (z05 (fun a=>!decide (a<x)) l)++x::l.drop (z05 (fun a=>!decide (a<x)) l))else l++[x]:=by
 induction l with
 |nil=>simp[ins,z05]
 | cons a l ih=>
   unfold ins
   by_cases ha:a<x
   . have e:z05 (fun a=>!decide (a<x)) (a::l)=z05 (fun a=>!decide (a<x)) l+1:=by simp[z05,ha]
     rw[if_pos ha,ih]
     by_cases hf:z05 (fun a=>!decide (a<x)) l<l.length
     . rw[dif_pos hf,dif_pos (by rw[e];simpa using hf)]
       simp only[e,List.getElem_cons_succ,List.take_succ_cons,List.drop_succ_cons]
       split
       . rfl
       . rfl
     . rw[dif_neg hf,dif_neg (by rw[e];simpa using hf)]
       rfl
   . have e:z05 (fun a=>!decide (a<x)) (a::l)=0:=by simp[z05,ha]
     rw[if_neg ha,dif_pos (by rw[e];simp)]
     simp only[e,List.getElem_cons_zero,List.take_zero,List.drop_zero,List.nil_append]
theorem zo2 {l:List Int} {x:Int} (hl:l.length<=1073741824):zi9 l x (ins l x):=z091 _ _ _ (by
 unfold z00x
 have fin:∀(k:Nat),k<=l.length->((0<=(k:Int)/\(k:Int)<=(List.length l:Int)/\(List.length l:Int)<=(List.length l:Int))/\(([x]:List Int).length+(List.drop (Int.toNat (k:Int)) (List.take (Int.toNat (List.length l:Int)) l)).length<=z1p/\((0<=(0:Int)/\(0:Int)<=(k:Int)/\(k:Int)<=(List.length l:Int))/\(([]:List Int).length+(List.drop (Int.toNat (0:Int)) (List.take (Int.toNat (k:Int)) l)).length<=z1p/\((([]:List Int)++(List.drop (Int.toNat (0:Int)) (List.take (Int.toNat (k:Int)) l))).length+(([x]:List Int)++(List.drop (Int.toNat (k:Int)) (List.take (Int.toNat (List.length l:Int)) l))).length<=z1p/\(((([]:List Int)++(List.drop (Int.toNat (0:Int)) (List.take (Int.toNat (k:Int)) l)))++(([x]:List Int)++(List.drop (Int.toNat (k:Int)) (List.take (Int.toNat (List.length l:Int)) l))),()):List Int×Unit)=(l.take k++x::l.drop k,()))))) ):=by
  intro k hk
  simp only[Int.toNat_natCast,List.take_length,Int.toNat_zero,List.drop_zero,List.nil_append,List.length_nil,List.length_cons,List.length_append,List.length_take,List.length_drop,z1p,List.cons_append]
  refine⟨⟨by omega,by omega,by omega⟩,by omega,⟨by omega,by omega,by omega⟩,by omega,by omega,trivial⟩
 rw[z0ck]
 refine z9d l (fun a=>!decide (a<x)) (fun i=>((i:Int),())) (KT:=fun i=>∀ h:i<l.length,∀ r:List Int×Unit,r=(if l[i]=x then l else l.take i++x::l.drop i,())->r=((if h:z05 (fun a=>!decide (a<x)) l<l.length then(if l[z05 (fun a=>!decide (a<x)) l]=x then l else l.take (z05 (fun a=>!decide (a<x)) l)++x::l.drop (z05 (fun a=>!decide (a<x)) l))else l++[x]),()))
  (KF:=∀ r:List Int×Unit,r=(l++[x],())->r=((if h:z05 (fun a=>!decide (a<x)) l<l.length then(if l[z05 (fun a=>!decide (a<x)) l]=x then l else l.take (z05 (fun a=>!decide (a<x)) l)++x::l.drop (z05 (fun a=>!decide (a<x)) l))else l++[x]),())) ?_ ?_ ?_ ?_
 . intro i hi X h1 h2
   refine z0m fun hl'=>bcI hi (inI hi ?_)
   simp only
   rw[z2g hi,z06 (by omega)]
   refine z0e (fun h=>h2 (by simpa using h)) (fun h=>?_)
   have h1:=h1 (by simpa using h) hi
   refine z0m fun _=>bcI hi (inI hi (z4a (fun he=>h1 _ (by rw[if_pos he])) (fun he=>?_)))
   rw[if_neg he]at h1
   have:=fin i (by omega)
   exact⟨this.1,this.2.1,this.2.2.1,this.2.2.2.1,this.2.2.2.2.1,h1 _ this.2.2.2.2.2⟩
 . intro X h
   refine z0m fun hl'=>bcN (z0m fun _=>bcN ?_)
   have:=fin l.length (by omega)
   refine⟨this.1,this.2.1,this.2.2.1,this.2.2.2.1,this.2.2.2.2.1,h _ (this.2.2.2.2.2.trans (by simp))⟩
 . intro h h' r hr;rw[hr,dif_pos h]
 . intro h r hr;rw[hr,dif_neg (by omega)])
theorem zke {l:List Int} {x:Int}:zfi l x (decide (x∈l)):=z08z _ _ _ (by
 unfold zzz
 refine z9i l (fun a=>x == a) (fun i=>((i:Int),())) (KT:=((true,()):Bool×Unit)=(decide (x∈l),())) (KF:=((false,()):Bool×Unit)=(decide (x∈l),())) ?_ (fun X h=>z0m fun _=>bcN h) (fun h=>?_) (fun h=>?_)
 . intro i hi X h1 h2
   refine z0m fun _=>bcI hi (inI hi ?_)
   simp only
   rw[z2g hi,z06 (by omega)]
   exact z4a (fun h=>h1 (by simp[h])) (fun h=>h2 (by simpa using fun e=>h e.symm))
 . rw[zqm]at h;rw[h]
 . rw[zqm]at h;rw[h])
theorem zwq {l:List Int} {y:Int}:y∈z3b l↔y∈l:=by unfold z3b;simp
theorem zwv (l:List Int):(z3b l).Pairwise (·<=·):=by
 unfold z3b
 have:=List.pairwise_mergeSort (le:=fun a b:Int=>decide (a<=b)) (fun a b c h1 h2=>by simp at *;omega) (fun a b=>by simp;omega) l
 exact this.imp fun h=>by simpa using h
theorem zxf (l:List Int):zby (z3b l)=zg2 l:=by
 have hs:=zwv l
 have hget:∀ i j (hi:i<(z3b l).length) (hj:j<(z3b l).length),i<=j->(z3b l)[i]<=(z3b l)[j]:=by
  intro i j hi hj h
  rcases Nat.lt_or_ge i j with h|h
  . exact List.pairwise_iff_getElem.mp hs i j hi hj h
  . have:i=j:=by omega
    subst this;omega
 have ex:zby (z3b l)=((List.range (z3b l).length).filter (Lib.keeps (z3b l).toArray)).map ((z3b l).toArray[·]!):=rfl
 refine z05e ?_ ?_
 . rw[ex]
   unfold srt
   rw[List.pairwise_map,List.pairwise_filter]
   refine List.Pairwise.imp_of_mem (R:=(· < ·)) ?_ List.pairwise_lt_range
   intro i j hi hj hij _ kj
   have hi:=List.mem_range.mp hi;have hj:=List.mem_range.mp hj
   have e1:(z3b l).toArray[i]! = (z3b l)[i]:=by simp[hi]
   have e2:(z3b l).toArray[j]! = (z3b l)[j]:=by simp[hj]
   have e3:(z3b l).toArray[j - 1]! = (z3b l)[j - 1]'(by omega):=by rw[getElem!_pos (z3b l).toArray (j - 1) (by simp;omega)];rfl
   rw[e1,e2]
   unfold Lib.keeps at kj
   rw[e2,e3]at kj
   have h1:=hget i (j - 1) hi (by omega) (by omega)
   have h2:=hget (j - 1) j (by omega) hj (by omega)
   rcases of_decide_eq_true kj with h|h
   . omega
   . omega
 . intro y
   rw[ex,List.mem_map]
   constructor
   . rintro⟨j,hj,rfl⟩
     have hj:=List.mem_range.mp (List.mem_filter.mp hj).1
     have e:(z3b l).toArray[j]! = (z3b l)[j]:=by simp[hj]
     rw[e,<-zwq];exact List.getElem_mem hj
   . intro hy
     rw[<-zwq]at hy
     have hf:z05 (fun t=>t == y) (z3b l)<(z3b l).length:=firstAt_any.mpr (List.any_eq_true.mpr ⟨y,hy,by simp⟩)
     have h2:=zaz hf
     have h3:(z3b l)[z05 (fun t=>t == y) (z3b l)]=y:=by simpa using h2
     refine⟨z05 (fun t=>t == y) (z3b l),List.mem_filter.mpr ⟨List.mem_range.mpr hf,?_⟩,by simp[hf,h3]⟩
     unfold Lib.keeps
     rw[decide_eq_true_iff]
     by_cases h0:z05 (fun t=>t == y) (z3b l)=0
     . exact .inl h0
     . right
       have hlt:z05 (fun t=>t == y) (z3b l) - 1<(z3b l).length:=by omega
       have h4:=ze3 (p:=fun t=>t == y) (l:=z3b l) hlt (by omega)
       have e1:(z3b l).toArray[z05 (fun t=>t == y) (z3b l)]! = y:=by simp[hf,h3]
       have e2:(z3b l).toArray[z05 (fun t=>t == y) (z3b l) - 1]! = (z3b l)[z05 (fun t=>t == y) (z3b l) - 1]:=by simp[hlt]
       rw[e1,e2]
       intro e
       rw[<-e]at h4;simp at h4
def inR (x a b:Int):Bool:=decide (a<=x)&&decide (x<=b)
theorem z4i {α:Type} {p:α->Bool} {l:List α}:(l.any fun t=>!p t) = !(l.all p):=by
 induction l with
 |nil=>rfl
 |cons a l ih=>simp only[List.any_cons,List.all_cons,ih];cases p a<;>simp
theorem nt {b:Bool} (h:(!b)=true):b=false:=by simpa using h
theorem nf {b:Bool} (h:(!b)=false):b=true:=by simpa using h
theorem ze5 {α β:Type} (f:α->List β) {l:List α} {i:Nat} (h:i<l.length):(l.flatMap f).length=((l.take i).flatMap f).length+((f l[i]).length+((l.drop (i+1)).flatMap f).length):=by
 have e:l=l.take i++l[i]::l.drop (i+1):=by rw[<-z56 h,List.take_append_drop]
 have:=congrArg (fun m=>(m.flatMap f).length) e
 simp only[List.flatMap_append,List.flatMap_cons,List.length_append]at this
 exact this
theorem inR_iff {x a b:Int}:inR x a b=true↔a<=x/\x<=b:=by simp[inR]
theorem z0ae:∀ {a b:List UInt8},(Op.bytesLess b a||b == a) = !(Op.bytesLess a b)
 |[],[]=>by decide
 |[],y::b=>by simp[Op.bytesLess]
 |x::a,[]=>by simp[Op.bytesLess]
 | x::a,y::b=>by
   have ih:=z0ae (a:=a) (b:=b)
   simp only[Op.bytesLess]
   by_cases h:y<x
   . have h2:¬ x<y:=UInt8.lt_asymm h
     have h3:¬ x=y:=by rintro rfl;exact UInt8.lt_irrefl _ h
     simp[h,h2,h3]
   . by_cases h2:x<y
     . have h3:¬ y=x:=by rintro rfl;exact h h2
       simp[h,h2,h3]
     . have h3:x=y:=UInt8.le_antisymm (UInt8.not_lt.mp h) (UInt8.not_lt.mp h2)
       subst h3
       simp only[h,decide_false,beq_self_eq_true,Bool.true_and,Bool.false_or]
       rw[<-ih]
       by_cases h4:b=a<;>simp[h4]
def znv (r:z0s):Bool:=(r.1.length == 1)&&decide (97<=(r.1.getD 0 0).toNat)&&decide ((r.1.getD 0 0).toNat<=122)&&inR r.2.1 1 3
def zeo (l:List z0s) (i:Nat):z0s:=l.getD i zjv
def z8s (l:List z0s):Bool:=((List.range l.length).all fun i=>znv (zeo l i)&&(i == 0||Op.bytesLess (zeo l (i - 1)).1 (zeo l i).1))&&decide (l.length<=6)
theorem zhe {l:List z0s} {i:Nat} (h:i<l.length):zeo l i=l[i]:=z8q h
theorem zgu {l:List z0s} (h:z8s l=true) {r:z0s} (hr:r∈l):znv r=true:=by
 unfold z8s at h
 rw[Bool.and_eq_true]at h
 obtain⟨i,hi,rfl⟩:=List.mem_iff_getElem.mp hr
 have:=List.all_eq_true.mp h.1 i (List.mem_range.mpr hi)
 rw[Bool.and_eq_true,zhe hi]at this
 exact this.1
theorem zbl {l:List z0s} (h:z8s l=true):l.length<=6:=by
 unfold z8s at h;simp at h;exact h.2
theorem zid {r:z0s} (h:znv r=true):1<=r.2.1/\r.2.1<=3:=by
 unfold znv at h;simp[inR]at h;exact h.2
def zoq (l:List z0s) (i:Int):Int:=(l.getD (Int.toNat i) zjv).2.1
def z9a (l:List z0s) (i:Int):Bool:=(l.getD (Int.toNat i) zjv).2.2.1
def zt1 (ok:Int->Bool) (l:List z0s) (a:z00):Bool:=z8s l&&inR a.1 0 ((l.length:Int) - 1)&&((a.2.1.length:Int) == zoq l a.1)&&a.2.1.all ok
theorem z2v {ok:Int->Bool} {l:List z0s} {a:z00} (h:zt1 ok l a=true):z8s l=true/\0<=a.1/\a.1<l.length/\(a.2.1.length:Int)=zoq l a.1/\a.2.1.length<=3/\∀ v∈a.2.1,ok v=true:=by
 unfold zt1 at h
 simp only[Bool.and_eq_true,beq_iff_eq,List.all_eq_true]at h
 obtain⟨⟨⟨h1,h2⟩,h3⟩,h4⟩:=h
 have h2:=inR_iff.mp h2
 have hlt:a.1.toNat<l.length:=by omega
 have:=zid (zgu h1 (List.getElem_mem hlt))
 have e:zoq l a.1=l[a.1.toNat].2.1:=by unfold zoq;rw[z8q hlt]
 exact⟨h1,h2.1,by omega,h3,by omega,h4⟩
def z02j (t:Int):Bool:=inR t (-10) 4
def z6u (l:List z0s) (a:z00):Bool:=zt1 z02j l a
def vars (l:List z00):List Int:=zg2 ((l.flatMap (·.2.1)).filter fun t=>decide (0<=t))
def zee (l:List z0s) (d:z0f):Bool:=inR d.1.length 1 2&&d.1.all (z6u l) &&
 (if d.2.2.1 then decide (d.2.1=[])&&decide (d.2.2.2.1∈vars d.1)&&decide (d.2.2.2.2.1∈vars d.1)&&decide (d.2.2.2.1<d.2.2.2.2.1)
  else d.2.1.all (fun a=>z6u l a && !(z9a l a.1))&&inR d.2.1.length 1 2&&(d.2.2.2.1 == 0)&&(d.2.2.2.2.1 == 0))
def zgd (l:List z0s) (ds:List z0f):Bool:=ds.all (zee l)&&z8s l&&decide (ds.length<=5)
def exV (d:z0f):List Int:=(vars d.2.1).filter fun v=>!decide (v∈vars d.1)
def frV (d:z0f):List Int:=(vars d.2.1).filter fun v=>decide (v∈vars d.1)
theorem zki {l:List z0s} {ats:List z00} (h:ats.all (z6u l)=true):(ats.flatMap (·.2.1)).length<=3 * ats.length:=by
 induction ats with
 |nil=>simp
 | cons a ats ih=>
   simp only[List.all_cons,Bool.and_eq_true]at h
   have h1:=(z2v h.1).2.2.2.2.1
   have:=ih h.2
   simp only[List.flatMap_cons,List.length_append,List.length_cons]
   omega
theorem zhw (l:List z00):(vars l).length<=(l.flatMap (·.2.1)).length:=Nat.le_trans (zu4 _) (List.length_filter_le _ _)
theorem z6d {x a b:Int}:z4t x a b (inR x a b):=z0ar _ _ _ _ (by
 unfold z03s inR
 refine z0e (fun h=>?_) (fun h=>?_)
 . rw[decide_eq_true (show a<=x from h),Bool.true_and]
 . rw[decide_eq_false (show ¬ a<=x from h),Bool.false_and])
theorem z8f {x a b:Int}:z6i x a b (inR x a b):=z06w _ _ _ _ (by
 unfold zxb inR
 refine z0e (fun h=>?_) (fun h=>?_)
 . rw[decide_eq_true h,Bool.true_and]
 . rw[decide_eq_false h,Bool.false_and])
theorem zla {r:z0s}:z8m r (znv r):=zku _ _ (by
 unfold zc2
 have no:∀ {b:Bool},znv r=b->((b,()):Bool×Unit)=(znv r,()):=fun h=>by rw[h]
 refine z0m fun _=>z4a (fun h=>?_) (fun h=>no ?_)
 . have h1:r.1.length=1:=by omega
   refine⟨⟨by omega,by omega⟩,?_⟩
   refine z0e (fun h2=>⟨⟨by omega,by omega⟩,z0e (fun h3=>⟨_,z6d,no ?_⟩) (fun h3=>no ?_)⟩) (fun h2=>no ?_)
   . unfold znv
     have a1:decide (97<=(r.1.getD 0 0).toNat)=true:=decide_eq_true (by have h2:(97:Int)<=((r.1.getD 0 0).toNat:Int):=h2;omega)
     have a2:decide ((r.1.getD 0 0).toNat<=122)=true:=decide_eq_true (by have h3:((r.1.getD 0 0).toNat:Int)<=122:=h3;omega)
     rw[a1,a2];simp[h1]
   . unfold znv
     have a2:decide ((r.1.getD 0 0).toNat<=122)=false:=decide_eq_false (by have h3:¬ ((r.1.getD 0 0).toNat:Int)<=122:=h3;omega)
     rw[a2];simp
   . unfold znv
     have a1:decide (97<=(r.1.getD 0 0).toNat)=false:=decide_eq_false (by have h2:¬ (97:Int)<=((r.1.getD 0 0).toNat:Int):=h2;omega)
     rw[a1];simp
 . unfold znv
   have:(r.1.length == 1)=false:=by simp;omega
   rw[this];simp)
theorem z002 {l:List z0s} {i:Nat} (h:i<l.length) (hp:(znv (zeo l i)&&(i == 0||Op.bytesLess (zeo l (i - 1)).1 (zeo l i).1))=false):z8s l=false:=by
 unfold z8s
 rw[Bool.and_eq_false_iff];left
 rw[Bool.eq_false_iff];intro hall
 have:=List.all_eq_true.mp hall i (List.mem_range.mpr h)
 rw[hp]at this;cases this
theorem zvk {l:List z0s} (hp:∀ i,i<l.length->(!(znv (zeo l i)&&(i == 0||Op.bytesLess (zeo l (i - 1)).1 (zeo l i).1)))=false):z8s l=decide (l.length<=6):=by
 unfold z8s
 have:((List.range l.length).all fun i=>znv (zeo l i)&&(i == 0||Op.bytesLess (zeo l (i - 1)).1 (zeo l i).1))=true:=
  List.all_eq_true.mpr fun i hi=>by have:=hp i (List.mem_range.mp hi);rwa [Bool.not_eq_false']at this
 rw[this,Bool.true_and]
theorem z1v {l:List z0s}:z1g l (z8s l):=zih _ _ (by
 unfold zaa
 refine z7f l.length (fun i=>!(znv (zeo l i)&&(i == 0||Op.bytesLess (zeo l (i - 1)).1 (zeo l i).1))) (fun i=>((i:Int),())) (KT:=((false,()):Bool×Unit)=(z8s l,())) (KF:=((decide ((List.length l:Int)<=6),()):Bool×Unit)=(z8s l,())) ?_ (fun X h=>z0m fun _=>bcN (z0m fun _=>h)) ?_ ?_
 . intro i hi X hb h1 h2
   refine z0m fun hl=>bcI hi (inI hi ⟨_,zla,?_⟩)
   simp only
   rw[z2g hi,z06 (by omega)]
   rw[zhe hi]at h1 h2
   refine z0p (fun h=>h1 (by simp[h])) (fun h=>z0e (fun h0=>?_) (fun h0=>h2 (by obtain rfl:i=0:=(by omega);simp[h])))
   have hi':i - 1<l.length:=by omega
   have hw:w64 ((i:Int) - 1)=((i - 1:Nat):Int):=by rw[z1s (by omega) (by omega)];omega
   rw[hw]
   refine inI hi' (inI hi ?_)
   rw[z2g hi']
   rw[zhe hi']at h1 h2
   have hz:(i == 0)=false:=by simp;omega
   rw[hz,Bool.false_or,h,Bool.true_and]at h1 h2
   exact z1w (fun h=>h1 h) (fun h=>h2 h)
 . rintro⟨i,hi,hp⟩
   rw[z002 hi (by rwa [Bool.not_eq_true']at hp)]
 . intro hp
   rw[zvk hp]
   congr 1
   exact decide_eq_decide.mpr (by omega))
theorem zk4 {r:z0s}:z82 r (znv r):=zks _ _ (by
 unfold zc5
 have no:∀ {b:Bool},znv r=b->((b,()):Bool×Unit)=(znv r,()):=fun h=>by rw[h]
 refine z0m fun _=>z4a (fun h=>?_) (fun h=>no ?_)
 . have h1:r.1.length=1:=by omega
   obtain⟨c,hc⟩:∃ c,r.1=[c]:=List.length_eq_one_iff.mp h1
   rw[hc]
   have e1:(!(Op.bytesLess [c] [97]))=decide (97<=c.toNat):=by
    simp only[Op.bytesLess,Bool.and_false,Bool.or_false]
    by_cases h:c<97
    . have:c.toNat<97:=h
      simp[h];omega
    . have:¬ c.toNat<97:=h
      simp[h];omega
   have e2:(Op.bytesLess [c] [122]||[c] == [122])=decide (c.toNat<=122):=by
    simp only[Op.bytesLess,Bool.and_false,Bool.or_false]
    by_cases h:c<122
    . have:c.toNat<122:=h
      simp[h];omega
    . have:¬ c.toNat<122:=h
      by_cases h2:c=122
      . subst h2;simp
      . have h3:c.toNat≠122:=fun e=>h2 (UInt8.toNat_inj.mp e)
        have d2:([c] == [(122:UInt8)])=false:=by simp[h2]
        rw[decide_eq_false h,d2,decide_eq_false (by omega)];rfl
   rw[e1,e2]
   refine z0e (fun h2=>z0e (fun h3=>⟨_,z8f,no ?_⟩) (fun h3=>no ?_)) (fun h2=>no ?_)
   . unfold znv;rw[hc];simp[h2,h3]
   . unfold znv;rw[hc]
     show((1 == 1)&&decide (97<=c.toNat)&&decide (c.toNat<=122)&&inR r.2.1 1 3)=false
     rw[decide_eq_false h3];simp
   . unfold znv;rw[hc]
     show((1 == 1)&&decide (97<=c.toNat)&&decide (c.toNat<=122)&&inR r.2.1 1 3)=false
     rw[decide_eq_false h2];simp
 . unfold znv
   have:(r.1.length == 1)=false:=by simp;omega
   rw[this];simp)
theorem z48 {l:List z0s}:z2e l (z8s l):=zie _ _ (by
 unfold zag
 refine z0m fun hl=>z7f l.length (fun i=>!(znv (zeo l i)&&(i == 0||Op.bytesLess (zeo l (i - 1)).1 (zeo l i).1))) (fun i=>((i:Int),())) (KT:=((false,()):Bool×Unit)=(z8s l,())) (KF:=((decide ((List.length l:Int)<=6),()):Bool×Unit)=(z8s l,())) ?_ (fun X h=>bcN (z0m fun _=>h)) ?_ ?_
 . intro i hi X hb h1 h2
   refine bcI hi (inI hi ⟨_,zk4,?_⟩)
   simp only
   rw[z2g hi,z06 (by omega)]
   rw[zhe hi]at h1 h2
   refine z0p (fun h=>h1 (by simp[h])) (fun h=>z0e (fun h0=>?_) (fun h0=>h2 (by obtain rfl:i=0:=(by omega);simp[h])))
   have hi':i - 1<l.length:=by omega
   have hw:w64 ((i:Int) - 1)=((i - 1:Nat):Int):=by rw[z1s (by omega) (by omega)];omega
   rw[hw]
   refine inI hi' ?_
   rw[z2g hi']
   rw[zhe hi']at h1 h2
   have hz:(i == 0)=false:=by simp;omega
   rw[hz,Bool.false_or,h,Bool.true_and]at h1 h2
   rw[z0ae]
   exact z1w (fun h=>h1 h) (fun h=>h2 h)
 . rintro⟨i,hi,hp⟩
   rw[z002 hi (by rwa [Bool.not_eq_true']at hp)]
 . intro hp
   rw[zvk hp]
   congr 1
   exact decide_eq_decide.mpr (by omega))
theorem row_start {l:List z0s} {a:z00} (h:inR a.1 0 (w64 ((l.length:Int) - 1))=true) (hl:(l.length:Int)<=9223372036854775807):0<=a.1/\a.1<(l.length:Int):=by
 have:=inR_iff.mp h
 rw[z1s (by omega) (by omega)]at this
 omega
theorem row_range {l:List z0s} {a:z00} (hl:(l.length:Int)<=9223372036854775807):inR a.1 0 (w64 ((l.length:Int) - 1))=inR a.1 0 ((l.length:Int) - 1):=by
 rw[z1s (by omega) (by omega)]
theorem row_no1 {ok:Int->Bool} {l:List z0s} {a:z00} (h:z8s l=false):((false,()):Bool×Unit)=(zt1 ok l a,()):=by unfold zt1;rw[h];simp
theorem row_no2 {ok:Int->Bool} {l:List z0s} {a:z00} (hl:(l.length:Int)<=9223372036854775807) (h:inR a.1 0 (w64 ((l.length:Int) - 1))=false):((false,()):Bool×Unit)=(zt1 ok l a,()):=by
 rw[row_range hl]at h;unfold zt1;rw[h];simp
theorem row_no3 {ok:Int->Bool} {l:List z0s} {a:z00} (h:(a.2.1.length:Int)≠(l.getD (Int.toNat a.1) zjv).2.1):((false,()):Bool×Unit)=(zt1 ok l a,()):=by
 have:((a.2.1.length:Int) == zoq l a.1)=false:=by simpa [zoq]using h
 unfold zt1;rw[this];simp
theorem row_yes {ok:Int->Bool} {l:List z0s} {a:z00} {b:Bool} (hl:(l.length:Int)<=9223372036854775807) (h1:z8s l=true) (h2:inR a.1 0 (w64 ((l.length:Int) - 1))=true) (h3:(a.2.1.length:Int)=(l.getD (Int.toNat a.1) zjv).2.1) (hb:b=a.2.1.all ok):((b,()):Bool×Unit)=(zt1 ok l a,()):=by
 rw[row_range hl]at h2
 have:((a.2.1.length:Int) == zoq l a.1)=true:=by simpa [zoq]using h3
 unfold zt1;rw[h1,h2,this,hb];simp
theorem zd1 {l:List z0s} {a:z00}:z7e l a (z6u l a):=zrh _ _ _ (by
 unfold zj8 z6u
 refine⟨_,z1v,z0p (fun h=>row_no1 h) (fun h1=>z0m fun hl=>⟨_,z6d,z0p (fun h=>row_no2 hl h) (fun h2=>z0m fun hl2=>⟨row_start h2 hl,z97 (fun h=>row_no3 h) (fun h3=>?_)⟩)⟩)⟩
 refine z9i a.2.1 (fun t=>!z02j t) (fun i=>((i:Int),())) (KT:=((false,()):Bool×Unit)=(zt1 z02j l a,())) (KF:=((true,()):Bool×Unit)=(zt1 z02j l a,())) ?_ (fun X h=>z0m fun _=>bcN h) ?_ ?_
 . intro i hi X q1 q2
   refine z0m fun _=>bcI hi (inI hi ⟨_,z6d,?_⟩)
   simp only
   rw[z2g hi,z06 (by omega)]
   exact z1w (fun h=>q1 h) (fun h=>q2 h)
 . intro h;exact row_yes hl h1 h2 h3 (by rw[z4i]at h;exact(nt h).symm)
 . intro h;exact row_yes hl h1 h2 h3 (by rw[z4i]at h;exact(nf h).symm))
theorem zn8 {t:Int}:z3m t (!z02j t):=znj _ _ (by unfold zfn;exact⟨_,z8f,rfl⟩)
theorem zrt {l:List z0s} {a:z00}:zcv l a (z6u l a):=zr6 _ _ _ (by
 unfold ziq z6u
 refine⟨_,z48,z0p (fun h=>row_no1 h) (fun h1=>z0m fun hl=>⟨_,z8f,z0p (fun h=>row_no2 hl h) (fun h2=>z0m fun hl2=>⟨row_start h2 hl,z97 (fun h=>row_no3 h) (fun h3=>?_)⟩)⟩)⟩
 exact⟨_,z57 (fun t=>!z02j t) (fun _ _=>zn8),row_yes hl h1 h2 h3 (by rw[z4i];simp)⟩)
theorem z7t {l:List z00} (hl:(l.flatMap (·.2.1)).length<=1073741824):z4n l (vars l):=zwb _ _ (by
 unfold zmu
 refine z0x l.length (fun i=>((i:Int),(vars (l.take i),()))) (by simp[vars,zg2]) ?_ ?_
 . intro i hi X hX
   refine z0m fun hl1=>bcI hi ?_
   simp only
   rw[z2g hi]
   have hsub:((l.take i).flatMap (·.2.1)).length+l[i].2.1.length<=1073741824:=by
    have:=ze5 (·.2.1) hi
    omega
   have hset:∀ j,j<=l[i].2.1.length->(zg2 (((l.take i).flatMap (·.2.1)++l[i].2.1.take j).filter fun t=>decide (0<=t))).length<=1073741824:=by
    intro j hj
    refine Nat.le_trans (zu4 _) (Nat.le_trans (List.length_filter_le _ _) ?_)
    rw[List.length_append,List.length_take];omega
   refine z0x l[i].2.1.length (fun j=>(zg2 (((l.take i).flatMap (·.2.1)++l[i].2.1.take j).filter fun t=>decide (0<=t)),((j:Int),()))) (by simp[vars]) ?_ ?_
   . intro j hj Y hY
     refine inI hi (z0m fun _=>bcI hj (inI hi (inI hj ?_)))
     simp only
     rw[z2g hj,z06 (by omega)]
     have e:((l.take i).flatMap (·.2.1)++l[i].2.1.take (j+1)).filter (fun t=>decide (0<=t))=((l.take i).flatMap (·.2.1)++l[i].2.1.take j).filter (fun t=>decide (0<=t))++(if 0<=l[i].2.1[j] then[l[i].2.1[j]] else[]):=by
      rw[z08 hj,<-List.append_assoc,List.filter_append]
      by_cases h:0<=l[i].2.1[j]<;>simp[h]
     rw[e]at hY
     refine z0e (fun h=>inI hi (inI hj ⟨_,zo2 (hset j (by omega)),?_⟩)) (fun h=>?_)
     . have h:0<=l[i].2.1[j]:=h
       rw[if_pos h]at hY
       rw[zqf];exact hY
     . have h:¬ 0<=l[i].2.1[j]:=h
       rw[if_neg h,List.append_nil]at hY;exact hY
   . intro Y
     refine inI hi (z0m fun _=>bcN ?_)
     simp only
     rw[z06 (by omega),List.take_length]
     have:zg2 (((l.take i).flatMap (·.2.1)++l[i].2.1).filter fun t=>decide (0<=t))=vars (l.take (i+1)):=by
      unfold vars;rw[z08 hi,List.flatMap_append];simp
     rw[this];exact hX
 . intro X
   refine z0m fun _=>bcN ?_
   simp only[List.take_length])
theorem zcm {l:List z00} (hl:(l.flatMap (·.2.1)).length<=1073741824):z7p l (vars l):=zxa _ _ (by
 unfold zmr
 refine z0m fun hl1=>?_
 refine z0x l.length (fun i=>((i:Int),(((l.take i).flatMap (·.2.1)).filter (fun t=>decide (0<=t)),()))) (by simp) ?_ ?_
 . intro i hi X hX
   refine bcI hi (inI hi ?_)
   simp only
   rw[z2g hi,z06 (by omega)]
   have hsub:((l.take i).flatMap (·.2.1)).length+l[i].2.1.length<=1073741824:=by
    have:=ze5 (·.2.1) hi
    omega
   refine z0m fun _=>z0x l[i].2.1.length (fun j=>((j:Int),(((l.take i).flatMap (·.2.1)++l[i].2.1.take j).filter (fun t=>decide (0<=t)),()))) (by simp) ?_ ?_
   . intro j hj Y hY
     refine bcI hj (inI hj ?_)
     simp only
     rw[z2g hj,z06 (by omega)]
     have e:((l.take i).flatMap (·.2.1)++l[i].2.1.take (j+1)).filter (fun t=>decide (0<=t))=((l.take i).flatMap (·.2.1)++l[i].2.1.take j).filter (fun t=>decide (0<=t))++(if 0<=l[i].2.1[j] then[l[i].2.1[j]] else[]):=by
      rw[z08 hj,<-List.append_assoc,List.filter_append]
      by_cases h:0<=l[i].2.1[j]<;>simp[h]
     rw[e]at hY
     have hb:=List.length_filter_le (fun t=>decide (0<=t)) ((l.take i).flatMap (·.2.1)++l[i].2.1.take j)
     rw[List.length_append,List.length_take]at hb
     refine z0e (fun h=>⟨by simp only[z1p,List.length_cons,List.length_nil];omega,?_⟩) (fun h=>?_)
     . have h:0<=l[i].2.1[j]:=h
       rw[if_pos h]at hY;exact hY
     . have h:¬ 0<=l[i].2.1[j]:=h
       rw[if_neg h,List.append_nil]at hY;exact hY
   . intro Y
     refine bcN ?_
     simp only
     rw[List.take_length]
     have:((l.take i).flatMap (·.2.1)++l[i].2.1).filter (fun t=>decide (0<=t))=((l.take (i+1)).flatMap (·.2.1)).filter (fun t=>decide (0<=t)):=by
      rw[z08 hi,List.flatMap_append];simp
     rw[this];exact hX
 . intro X
   refine bcN ⟨_,z9x ?_,_,z7u,?_⟩
   . simp only[List.take_length]
     have:=List.length_filter_le (fun t=>decide (0<=t)) (l.flatMap (·.2.1));omega
   . simp only[List.take_length]
     rw[zxf];rfl)
theorem z07a {l:List z0s} {d:z0f} (h:inR d.1.length 1 2=false):((false,()):Bool×Unit)=(zee l d,()):=by unfold zee;rw[h];simp
theorem z07w {l:List z0s} {d:z0f} (h:d.1.all (z6u l)=false):((false,()):Bool×Unit)=(zee l d,()):=by unfold zee;rw[h];simp
theorem z73 {l:List z0s} {d:z0f}:z31 l d (zee l d):=zim _ _ _ (by
 unfold zak
 refine z0m fun hl=>⟨_,z6d,z0p (fun h=>z07a h) (fun h1=>?_)⟩
 refine z9i d.1 (fun a=>!z6u l a) (fun i=>((i:Int),())) (KT:=((false,()):Bool×Unit)=(zee l d,())) (KF:=d.1.all (z6u l)=true) ?_ ?_ ?_ ?_
 . intro i hi X q1 q2
   refine z0m fun _=>bcI hi (inI hi ⟨_,zd1,?_⟩)
   simp only
   rw[z2g hi,z06 (by omega)]
   exact z1w (fun h=>q1 h) (fun h=>q2 h)
 . intro X hall
   have hlen:=inR_iff.mp h1
   have hal:=zki hall
   refine z0m fun _=>bcN (z1w (fun he=>?_) (fun he=>?_))
   . have ev:zee l d=(decide (d.2.1=[])&&decide (d.2.2.2.1∈vars d.1)&&decide (d.2.2.2.2.1∈vars d.1)&&decide (d.2.2.2.1<d.2.2.2.2.1)):=by
      unfold zee;rw[h1,hall,he];simp
     rw[ev]
     refine⟨_,z7t (by omega),z0m fun _=>z4a (fun h=>⟨_,zke,z0e (fun h2=>⟨_,zke,z0e (fun h3=>?_) (fun h3=>?_)⟩) (fun h2=>?_)⟩) (fun h=>?_)⟩
     . have:d.2.1=[]:=List.length_eq_zero_iff.mp (by omega)
       simp[this,h2,h3]
     . simp[h3]
     . simp[h2]
     . have:d.2.1≠[]:=by intro e;rw[e]at h;simp at h
       simp[this]
   . have ev:zee l d=(d.2.1.all (fun a=>z6u l a && !(z9a l a.1))&&inR d.2.1.length 1 2&&(d.2.2.2.1 == 0)&&(d.2.2.2.2.1 == 0)):=by
      unfold zee;rw[h1,hall,he];simp
     rw[ev]
     refine z9i d.2.1 (fun a=>!(z6u l a && !(z9a l a.1))) (fun i=>((i:Int),())) (KT:=d.2.1.all (fun a=>z6u l a && !(z9a l a.1))=false) (KF:=d.2.1.all (fun a=>z6u l a && !(z9a l a.1))=true) ?_ ?_ ?_ ?_
     . intro i hi X q1 q2
       refine z0m fun _=>bcI hi (inI hi ⟨_,zd1,?_⟩)
       simp only
       rw[z2g hi,z06 (by omega)]
       have no:d.2.1.all (fun a=>z6u l a && !(z9a l a.1))=false->((false,()):Bool×Unit)=(d.2.1.all (fun a=>z6u l a && !(z9a l a.1))&&inR d.2.1.length 1 2&&(d.2.2.2.1 == 0)&&(d.2.2.2.2.1 == 0),()):=fun h=>by rw[h];simp
       refine z0p (fun h=>no (q1 (by simp[h]))) (fun h=>inI hi ⟨?_,z1w (fun h'=>no (q1 ?_)) (fun h'=>q2 ?_)⟩)
       . have:=z2v h;exact⟨this.2.1,this.2.2.1⟩
       . have:z9a l d.2.1[i].1=true:=h'
         simp[this]
       . have:z9a l d.2.1[i].1=false:=h'
         simp[this,h]
     . intro X hh
       refine z0m fun _=>bcN (z0m fun _=>⟨_,z6d,?_⟩)
       rw[hh]
       refine z1w (fun h2=>z4a (fun h3=>?_) (fun h3=>?_)) (fun h2=>?_)
       . rw[h2,h3];simp
       . have:(d.2.2.2.1 == 0)=false:=by simpa using h3
         rw[this];simp
       . rw[h2];simp
     . intro h;rw[z4i]at h;exact nt h
     . intro h;rw[z4i]at h;exact nf h
 . intro h;rw[z4i]at h;exact z07w (nt h)
 . intro h;rw[z4i]at h;exact nf h)
theorem ztm {l:List z0s} {a:z00}:z6q a l (!z6u l a):=ztp _ _ _ (by unfold zk0;exact⟨_,zrt,rfl⟩)
theorem zjk {l:List z0s} {ats:List z00} {n:Int}:zbt l ats n (inR ats.length 1 n&&ats.all (z6u l)):=zy5 _ _ _ _ (by
 unfold zqk
 refine z0m fun _=>⟨_,z8f,z1w (fun h=>⟨_,z5s (fun a=>!z6u l a) (fun _ _=>ztm),?_⟩) (fun h=>?_)⟩
 . rw[h,Bool.true_and,z4i];simp
 . rw[h,Bool.false_and])
theorem zg0 {l:List z0s} {a:z00} (h0:0<=a.1) (h1:a.1<l.length):z1y a l (z9a l a.1):=zg8 _ _ _ (by unfold z90;exact⟨⟨h0,h1⟩,rfl⟩)
theorem z75 {l:List z0s} {d:z0f}:z32 l d (zee l d):=zik _ _ _ (by
 unfold zai
 refine⟨_,zjk,z0p (fun h=>?_) (fun h=>?_)⟩
 . unfold zee;rw[h];simp
 . have h':=Bool.and_eq_true_iff.mp h
   have hlen:=inR_iff.mp h'.1
   have hal:=zki h'.2
   refine z1w (fun he=>?_) (fun he=>?_)
   . have ev:zee l d=(decide (d.2.1=[])&&decide (d.2.2.2.1∈vars d.1)&&decide (d.2.2.2.2.1∈vars d.1)&&decide (d.2.2.2.1<d.2.2.2.2.1)):=by
      unfold zee;rw[h'.1,h'.2,he];simp
     rw[ev]
     refine⟨_,zcm (by omega),z0m fun _=>z4a (fun h0=>z0e (fun h1=>⟨_,z3p,z0e (fun h2=>⟨_,z3p,?_⟩) (fun h2=>?_)⟩) (fun h1=>?_)) (fun h0=>?_)⟩
     . have:d.2.1=[]:=List.length_eq_zero_iff.mp (by omega)
       simp[this,h1,h2]
     . simp[h2]
     . simp[h1]
     . have:d.2.1≠[]:=by intro e;rw[e]at h0;simp at h0
       simp[this]
   . have ev:zee l d=(d.2.1.all (fun a=>z6u l a && !(z9a l a.1))&&inR d.2.1.length 1 2&&(d.2.2.2.1 == 0)&&(d.2.2.2.2.1 == 0)):=by
      unfold zee;rw[h'.1,h'.2,he];simp
     rw[ev]
     have hand:d.2.1.all (fun a=>z6u l a && !(z9a l a.1))=(d.2.1.all (z6u l)&&d.2.1.all fun a=>!(z9a l a.1)):=by
      generalize d.2.1=m
      induction m with
      |nil=>rfl
      |cons a m ih=>simp only[List.all_cons,ih];cases z6u l a<;>cases z9a l a.1<;>simp
     rw[hand]
     refine⟨_,zjk,z1w (fun h1=>z4a (fun h2=>z4a (fun h3=>?_) (fun h3=>?_)) (fun h2=>?_)) (fun h1=>?_)⟩
     . have h1:=Bool.and_eq_true_iff.mp h1
       refine⟨_,z3i (fun a=>z9a l a.1) (fun a ha=>?_),?_⟩
       . have:=z2v (List.all_eq_true.mp h1.2 a ha)
         exact zg0 this.2.1 this.2.2.1
       . rw[h1.1,h1.2,h2,h3,List.not_any_eq_all_not];simp
     . have:(d.2.2.2.2.1 == 0)=false:=by simpa using h3
       rw[this];simp
     . have:(d.2.2.2.1 == 0)=false:=by simpa using h2
       rw[this];simp
     . rcases Bool.and_eq_false_iff.mp h1 with h1|h1<;>rw[h1]<;>simp)
theorem z2d {l:List z0s} {ds:List z0f}:z1r l ds (zgd l ds):=zeq _ _ _ (by
 unfold z8p
 refine z9i ds (fun d=>!zee l d) (fun i=>((i:Int),())) (KT:=ds.all (zee l)=false) (KF:=ds.all (zee l)=true) ?_ ?_ ?_ ?_
 . intro i hi X q1 q2
   refine z0m fun _=>bcI hi (inI hi ⟨_,z73,?_⟩)
   simp only
   rw[z2g hi,z06 (by omega)]
   exact z1w (fun h=>by unfold zgd;rw[q1 h];simp) (fun h=>q2 h)
 . intro X h
   refine z0m fun _=>bcN ⟨_,z1v,z1w (fun h1=>z0m fun _=>?_) (fun h1=>?_)⟩
   . unfold zgd;rw[h,h1]
     have:decide ((ds.length:Int)<=5)=decide (ds.length<=5):=decide_eq_decide.mpr (by omega)
     rw[this];simp
   . unfold zgd;rw[h1];simp
 . intro h;rw[z4i]at h;exact nt h
 . intro h;rw[z4i]at h;exact nf h)
theorem zd0 {l:List z0s} {d:z0f}:z1e d l (!zee l d):=zdd _ _ _ (by unfold z7b;exact⟨_,z75,rfl⟩)
theorem z88 {l:List z0s} {ds:List z0f}:z36 l ds (zgd l ds):=zfg _ _ _ (by
 unfold z8a
 refine⟨_,z48,z1w (fun h1=>z0m fun _=>z0e (fun h2=>⟨_,z2n (fun d=>!zee l d) (fun _ _=>zd0),?_⟩) (fun h2=>?_)) (fun h1=>?_)⟩
 . have:decide (ds.length<=5)=true:=decide_eq_true (by omega)
   unfold zgd;rw[h1,this,z4i];simp
 . have:decide (ds.length<=5)=false:=decide_eq_false (by omega)
   unfold zgd;rw[this];simp
 . unfold zgd;rw[h1];simp)
theorem z83 {d:z0f} (h1:(d.1.flatMap (·.2.1)).length<=1073741824) (h2:(d.2.1.flatMap (·.2.1)).length<=1073741824):z35 d (exV d):=zfc _ _ (by
 unfold z80
 have hv:=zhw d.2.1
 refine⟨_,z7t h1,_,z7t h2,?_⟩
 refine z0x (vars d.2.1).length (fun i=>((i:Int),(((vars d.2.1).take i).filter (fun v=>!decide (v∈vars d.1)),()))) (by simp) ?_ ?_
 . intro i hi X hX
   refine z0m fun _=>bcI hi (inI hi ⟨_,zke,?_⟩)
   simp only
   rw[z2g hi,z06 (by omega)]
   have e:((vars d.2.1).take (i+1)).filter (fun v=>!decide (v∈vars d.1))=((vars d.2.1).take i).filter (fun v=>!decide (v∈vars d.1))++(if (vars d.2.1)[i]∈vars d.1 then[] else[(vars d.2.1)[i]]):=by
    rw[z08 hi,List.filter_append]
    by_cases h:(vars d.2.1)[i]∈vars d.1<;>simp[h]
   rw[e]at hX
   have hb:=List.length_filter_le (fun v=>!decide (v∈vars d.1)) ((vars d.2.1).take i)
   rw[List.length_take]at hb
   refine z1w (fun h=>inI hi ⟨by simp only[z1p,List.length_cons,List.length_nil];omega,?_⟩) (fun h=>?_)
   . have h:¬ (vars d.2.1)[i]∈vars d.1:=by simpa using h
     rw[if_neg h]at hX;exact hX
   . have h:(vars d.2.1)[i]∈vars d.1:=by simpa using h
     rw[if_pos h,List.append_nil]at hX;exact hX
 . intro X
   refine z0m fun _=>bcN ?_
   simp only[List.take_length]
   rfl)
def hdV (d:z0f) (b:Bool):List Int:=(vars d.2.1).filter fun v=>decide (v∈vars d.1) == b
theorem zn9 {d:z0f} {b:Bool} (h1:(d.1.flatMap (·.2.1)).length<=1073741824) (h2:(d.2.1.flatMap (·.2.1)).length<=1073741824):za9 d b (hdV d b):=znf _ _ _ (by
 unfold zfu
 have hv:=zhw d.2.1
 refine⟨_,zcm h1,_,zcm h2,z0m fun _=>?_⟩
 refine z0x (vars d.2.1).length (fun i=>((i:Int),(((vars d.2.1).take i).filter (fun v=>decide (v∈vars d.1) == b),()))) (by simp) ?_ ?_
 . intro i hi X hX
   refine bcI hi (inI hi ⟨_,z3p,?_⟩)
   simp only
   rw[z2g hi,z06 (by omega)]
   have e:((vars d.2.1).take (i+1)).filter (fun v=>decide (v∈vars d.1) == b)=((vars d.2.1).take i).filter (fun v=>decide (v∈vars d.1) == b)++(if (decide ((vars d.2.1)[i]∈vars d.1) == b)=true then[(vars d.2.1)[i]] else[]):=by
    rw[z08 hi,List.filter_append]
    cases h:(decide ((vars d.2.1)[i]∈vars d.1) == b)<;>simp[h]
   rw[e]at hX
   have hb:=List.length_filter_le (fun v=>decide (v∈vars d.1) == b) ((vars d.2.1).take i)
   rw[List.length_take]at hb
   refine z1w (fun h=>⟨by simp only[z1p,List.length_cons,List.length_nil];omega,?_⟩) (fun h=>?_)
   . rw[if_pos h]at hX;exact hX
   . rw[if_neg (by rw[h];simp),List.append_nil]at hX;exact hX
 . intro X
   refine bcN ?_
   simp only[List.take_length]
   rfl)
theorem z06f (d:z0f):hdV d false=exV d:=by unfold hdV exV;congr 1;funext v;by_cases h:v∈vars d.1<;>simp[h]
theorem zfh {d:z0f} (h1:(d.1.flatMap (·.2.1)).length<=1073741824) (h2:(d.2.1.flatMap (·.2.1)).length<=1073741824):z4w d (exV d):=zei _ _ (by
 unfold z8o
 exact⟨_,zn9 h1 h2,by rw[z06f]⟩)
theorem z4c {l:List z0s} {d:z0f} (h:zee l d=true):1<=d.1.length/\d.1.length<=2/\(∀ a∈d.1,z6u l a=true)/\d.2.1.length<=2/\(∀ a∈d.2.1,z6u l a=true)/\(d.1.flatMap (·.2.1)).length<=6/\(d.2.1.flatMap (·.2.1)).length<=6:=by
 unfold zee at h
 rw[Bool.and_eq_true,Bool.and_eq_true]at h
 obtain⟨⟨h1,h2⟩,h3⟩:=h
 have h1:=inR_iff.mp h1
 have l1:=zki h2
 cases he:d.2.2.1 with
 | true=>
   rw[if_pos he]at h3
   simp only[Bool.and_eq_true,decide_eq_true_eq]at h3
   have:=h3.1.1.1
   exact⟨by omega,by omega,List.all_eq_true.mp h2,by simp[this],by simp[this],by omega,by simp[this]⟩
 | false=>
   rw[if_neg (by simp[he])]at h3
   simp only[Bool.and_eq_true]at h3
   have hr:=inR_iff.mp h3.1.1.2
   have h4:d.2.1.all (z6u l)=true:=List.all_eq_true.mpr fun a ha=>by
    have:=List.all_eq_true.mp h3.1.1.1 a ha
    rw[Bool.and_eq_true]at this;exact this.1
   have l2:=zki h4
   exact⟨by omega,by omega,List.all_eq_true.mp h2,by omega,List.all_eq_true.mp h4,by omega,by omega⟩
theorem z05z {l:List z0s} {ds:List z0f} (h:zgd l ds=true) {d:z0f} (hd:d∈ds):zee l d=true:=by
 unfold zgd at h
 rw[Bool.and_eq_true,Bool.and_eq_true]at h
 exact List.all_eq_true.mp h.1.1 d hd
theorem zq6 {l:List z0s} {ds:List z0f} (h:zgd l ds=true):ds.length<=5:=by
 unfold zgd at h;simp at h;exact h.2
def zao (v:Int):Bool:=inR v (-40) (-1)
def z6p (v:Int):Int:=if zao v then -1 - v else 0
def zga (v:Int):Bool:=inR v (-40) 9
def z7o (l:List Int):List Int:=(l.filter zao).map (fun v=>-1 - v)
def zv0 (f:z00):List Int:=zg2 (z7o f.2.1)
def zf4 (x:z02):List Int:=zg2 (x.2.1.flatMap fun f=>z7o f.2.1)
def zm9 (l:List z0s) (f:z00):Bool:=zt1 zga l f
def zcq (l:List z00) (i:Nat):z00:=l.getD i z09
def z7a (x:z02) (i:Nat):Bool:=zm9 x.1 (zcq x.2.1 i)&&(i == 0||decide (z81 (zcq x.2.1 (i - 1)) (zcq x.2.1 i)<0)) && !(z9a x.1 (zcq x.2.1 i).1&&(zv0 (zcq x.2.1 i)).length != 0)
def z2r (x:z02):Bool:=z8s x.1&&decide (x.2.1.length<=30)&&(List.range x.2.1.length).all (z7a x)
theorem isNul_iff {v:Int}:zao v=true↔-40<=v/\v<=-1:=inR_iff
theorem mem_nulls {l:List Int} {k:Int}:k∈z7o l↔0<=k/\k<40/\(-1 - k)∈l:=by
 unfold z7o
 rw[List.mem_map]
 constructor
 . rintro⟨v,hv,rfl⟩
   obtain⟨h1,h2⟩:=List.mem_filter.mp hv
   have:=isNul_iff.mp h2
   exact ⟨by omega, by omega, by have e : -1 - (-1 - v)=v:=by omega
                                 rw[e];exact h1⟩
 . rintro⟨h1,h2,h3⟩
   exact⟨-1 - k,List.mem_filter.mpr ⟨h3,isNul_iff.mpr ⟨by omega,by omega⟩⟩,by omega⟩
theorem zgf (l m:List Int):z7o (l++m)=z7o l++z7o m:=by unfold z7o;rw[List.filter_append,List.map_append]
theorem zb2 (l:List z00):z7o (l.flatMap (·.2.1))=l.flatMap fun f=>z7o f.2.1:=by
 induction l with
 |nil=>rfl
 |cons a l ih=>simp only[List.flatMap_cons];rw[zgf,ih]
theorem zf5 {l:List Int}:∀ k∈zg2 (z7o l),0<=k/\k<0+(40:Nat):=fun k hk=>by
 have:=mem_nulls.mp (mem_sset.mp hk);omega
theorem zk2 {l:List Int}:(zg2 (z7o l)).length<=40:=z03p (zkw _) zf5
theorem z00z (x:z02):(zf4 x).length<=40:=by unfold zf4;rw[<-zb2];exact zk2
theorem zx9 (l:List Int):(z7o l).length<=l.length:=by unfold z7o;rw[List.length_map];exact List.length_filter_le _ _
theorem z24 {l:List z00} {i:Nat} (h:i<l.length):zcq l i=l[i]:=z8q h
theorem z6o {x:z02} (h:z2r x=true) {f:z00} (hf:f∈x.2.1):zm9 x.1 f=true:=by
 unfold z2r at h
 rw[Bool.and_eq_true]at h
 obtain⟨i,hi,rfl⟩:=List.mem_iff_getElem.mp hf
 have:=List.all_eq_true.mp h.2 i (List.mem_range.mpr hi)
 unfold z7a at this
 rw[Bool.and_eq_true,Bool.and_eq_true,z24 hi]at this
 exact this.1.1
theorem z9u {x:z02} (h:z2r x=true):x.2.1.length<=30:=by unfold z2r at h;simp at h;exact h.1.2
theorem z99 {x:z02} (h:z2r x=true):z8s x.1=true:=by unfold z2r at h;simp at h;exact h.1.1
theorem z00c {x:z02} {i:Nat} (hi:i<x.2.1.length) (h:z7a x i=false):z2r x=false:=by
 unfold z2r
 have:(List.range x.2.1.length).all (z7a x)=false:=by
  rw[Bool.eq_false_iff];intro hall
  have:=List.all_eq_true.mp hall i (List.mem_range.mpr hi);rw[h]at this;cases this
 rw[this];simp
theorem zq9 {x:z02} (h1:∀ i,i<x.2.1.length->z7a x i=true):z2r x=(z8s x.1&&decide (x.2.1.length<=30)):=by
 unfold z2r
 rw[List.all_eq_true.mpr fun i hi=>h1 i (List.mem_range.mp hi)];simp
theorem zax {v:Int}:z3v v (z6p v) (zao v):=zuy fun hb=>zui _ _ _ (by
 have hb : -9223372036854775808<=v/\v<=9223372036854775807:=hb
 unfold zl4
 have no:zao v=false->(((0:Int),(false,())):Int×Bool×Unit)=(z6p v,(zao v,())):=fun h=>by unfold z6p;rw[h];rfl
 refine z0e (fun h=>no ?_) (fun h=>⟨_,z6d,?_⟩)
 . rw[Bool.eq_false_iff];intro h';have:=isNul_iff.mp h';omega
 . rw[z1s (by omega) (by omega)]
   refine z0p (fun h2=>no ?_) (fun h2=>?_)
   . rw[Bool.eq_false_iff]at h2 ⊢;intro h';have:=isNul_iff.mp h';exact h2 (inR_iff.mpr ⟨by omega,by omega⟩)
   . have:=inR_iff.mp h2
     have e:zao v=true:=isNul_iff.mpr ⟨by omega,by omega⟩
     unfold z6p;rw[e];rfl)
theorem zap {v:Int}:z3q v (z6p v) (zao v):=zts fun hb=>ztk _ _ _ (by
 have hb : -9223372036854775808<=v/\v<=9223372036854775807:=hb
 unfold zk5
 have no:zao v=false->(((0:Int),(false,())):Int×Bool×Unit)=(z6p v,(zao v,())):=fun h=>by unfold z6p;rw[h];rfl
 rw[z1s (by omega) (by omega)]
 refine⟨_,z8f,z0p (fun h2=>no ?_) (fun h2=>?_)⟩
 . rw[Bool.eq_false_iff]at h2 ⊢;intro h';have:=isNul_iff.mp h';exact h2 (inR_iff.mpr ⟨by omega,by omega⟩)
 . have:=inR_iff.mp h2
   have e:zao v=true:=isNul_iff.mpr ⟨by omega,by omega⟩
   unfold z6p;rw[e];rfl)
theorem z5v {v:Int}:z3d v (zga v):=zpn _ _ (by
 unfold zh9
 refine⟨_,_,zax,z1w (fun h=>?_) (fun h=>⟨_,z6d,?_⟩)⟩
 . have:=isNul_iff.mp h
   have e:zga v=true:=inR_iff.mpr ⟨by omega,by omega⟩
   rw[e]
 . have:inR v 0 9=zga v:=by
    rw[Bool.eq_iff_iff]
    unfold zga
    rw[inR_iff,inR_iff]
    constructor
    . omega
    . intro h'
      refine⟨?_,h'.2⟩
      rcases Int.lt_or_le v 0 with h0|h0
      . rw[isNul_iff.mpr ⟨by omega,by omega⟩]at h;cases h
      . exact h0
   rw[this])
theorem z6b {v:Int}:z3c v (zga v):=zqp _ _ (by unfold zhs;exact⟨_,z8f,rfl⟩)
theorem zis {f:z00}:z5h f (zv0 f):=zr0 _ _ (by
 unfold ziz
 refine z0x f.2.1.length (fun i=>((i:Int),(zg2 (z7o (f.2.1.take i)),()))) (by simp[z7o,zg2]) ?_ ?_
 . intro i hi X hX
   refine z0m fun _=>bcI hi (inI hi ⟨_,_,zax,?_⟩)
   simp only
   rw[z2g hi,z06 (by omega)]
   have e:z7o (f.2.1.take (i+1))=z7o (f.2.1.take i)++(if zao f.2.1[i] then[-1 - f.2.1[i]] else[]):=by
    rw[z08 hi,zgf];congr 1
    unfold z7o
    cases h:zao f.2.1[i]<;>simp[h]
   rw[e]at hX
   have hf:=zk2 (l:=f.2.1.take i)
   refine z1w (fun h=>⟨_,zo2 (by omega),?_⟩) (fun h=>?_)
   . rw[if_pos h]at hX
     have:z6p f.2.1[i] = -1 - f.2.1[i]:=by unfold z6p;rw[if_pos h]
     rw[this,zqf];exact hX
   . rw[if_neg (by rw[h];simp),List.append_nil]at hX;exact hX
 . intro X
   refine z0m fun _=>bcN ?_
   simp only[List.take_length]
   rfl)
theorem zt6 {l:List Int} (hl:l.length<=1073741824):zi0 l (zg2 (z7o l)):=z029 _ _ (by
 unfold zsh
 refine z0m fun _=>z0x l.length (fun i=>((i:Int),(z7o (l.take i),()))) (by simp[z7o]) ?_ ?_
 . intro i hi X hX
   refine bcI hi (inI hi ⟨_,_,zap,?_⟩)
   simp only
   rw[z2g hi,z06 (by omega)]
   have e:z7o (l.take (i+1))=z7o (l.take i)++(if zao l[i] then[-1 - l[i]] else[]):=by
    rw[z08 hi,zgf];congr 1
    unfold z7o
    cases h:zao l[i]<;>simp[h]
   rw[e]at hX
   have hb:=zx9 (l.take i)
   rw[List.length_take]at hb
   refine z1w (fun h=>⟨by simp only[z1p,List.length_cons,List.length_nil];omega,?_⟩) (fun h=>?_)
   . rw[if_pos h]at hX
     have:z6p l[i] = -1 - l[i]:=by unfold z6p;rw[if_pos h]
     rw[this];exact hX
   . rw[if_neg (by rw[h];simp),List.append_nil]at hX;exact hX
 . intro X
   refine bcN ⟨_,z9x ?_,_,z7u,?_⟩
   . simp only[List.take_length];have:=zx9 l;omega
   . simp only[List.take_length];rw[zxf])
theorem zqx {f:z00} (h:f.2.1.length<=1073741824):z7d f (zv0 f):=zrl _ _ (by unfold zix;exact⟨_,zt6 h,rfl⟩)
theorem zk7 {x:z02}:z8d x (zf4 x):=zko _ _ (by
 unfold zc6
 refine z0x x.2.1.length (fun i=>((i:Int),(zg2 ((x.2.1.take i).flatMap fun f=>z7o f.2.1),()))) (by simp[zg2]) ?_ ?_
 . intro i hi X hX
   refine z0m fun _=>bcI hi (inI hi ⟨_,zis,?_⟩)
   simp only
   rw[z2g hi]
   have hn:(zv0 x.2.1[i]).length<=40:=zk2
   refine z0x (zv0 x.2.1[i]).length (fun j=>(((zv0 x.2.1[i]).take j).foldl ins (zg2 ((x.2.1.take i).flatMap fun f=>z7o f.2.1)),((j:Int),()))) (by simp) ?_ ?_
   . intro j hj Y hY
     refine z0m fun _=>bcI hj (inI hj ⟨_,zo2 ?_,?_⟩)
     . have h1:(zg2 ((x.2.1.take i).flatMap fun f=>z7o f.2.1)).length<=40:=by rw[<-zb2];exact zk2
       have:∀(l s:List Int),(l.foldl ins s).length<=s.length+l.length:=by
        intro l
        induction l with
        |nil=>intro s;simp
        |cons a l ih=>intro s;have:=ih (ins s a);have:=z04q s a;simp only[List.foldl_cons,List.length_cons];omega
       have:=this ((zv0 x.2.1[i]).take j) (zg2 ((x.2.1.take i).flatMap fun f=>z7o f.2.1))
       rw[List.length_take]at this
       simp only;omega
     . simp only
       rw[z2g hj,z06 (by omega)]
       rw[z08 hj,List.foldl_append]at hY
       exact hY
   . intro Y
     refine z0m fun _=>bcN ?_
     simp only[List.take_length]
     rw[z06 (by omega)]
     have:(zv0 x.2.1[i]).foldl ins (zg2 ((x.2.1.take i).flatMap fun f=>z7o f.2.1))=zg2 ((x.2.1.take (i+1)).flatMap fun f=>z7o f.2.1):=by
      unfold zv0
      rw[zxk,z08 hi,List.flatMap_append];simp
     rw[this];exact hX
 . intro X
   refine z0m fun _=>bcN ?_
   simp only[List.take_length]
   rfl)
theorem zle {x:z02} (hl:(x.2.1.flatMap (·.2.1)).length<=1073741824):z8r x (zf4 x):=zkq _ _ (by
 unfold zcc
 refine z0m fun _=>z0x x.2.1.length (fun i=>((i:Int),((x.2.1.take i).flatMap (·.2.1),()))) (by simp) ?_ ?_
 . intro i hi X hX
   have hs:=ze5 (fun f:z00=>f.2.1) hi
   refine bcI hi (inI hi ⟨?_,?_⟩)
   . simp only[z1p];rw[z2g hi];omega
   . simp only
     rw[z2g hi,z06 (by omega)]
     rw[z08 hi,List.flatMap_append]at hX
     simpa using hX
 . intro X
   refine bcN ⟨_,zt6 ?_,?_⟩
   . simp only[List.take_length];exact hl
   . simp only[List.take_length]
     rw[zb2];rfl)
theorem zr4 {l:List z0s} {a:z00}:zct l a (zm9 l a):=zqz _ _ _ (by
 unfold zj0 zm9
 refine⟨_,z1v,z0p (fun h=>row_no1 h) (fun h1=>z0m fun hl=>⟨_,z6d,z0p (fun h=>row_no2 hl h) (fun h2=>z0m fun hl2=>⟨row_start h2 hl,z97 (fun h=>row_no3 h) (fun h3=>?_)⟩)⟩)⟩
 refine z9i a.2.1 (fun t=>!zga t) (fun i=>((i:Int),())) (KT:=((false,()):Bool×Unit)=(zt1 zga l a,())) (KF:=((true,()):Bool×Unit)=(zt1 zga l a,())) ?_ (fun X h=>z0m fun _=>bcN h) ?_ ?_
 . intro i hi X q1 q2
   refine z0m fun _=>bcI hi (inI hi ⟨_,z5v,?_⟩)
   simp only
   rw[z2g hi,z06 (by omega)]
   exact z1w (fun h=>q1 h) (fun h=>q2 h)
 . intro h;exact row_yes hl h1 h2 h3 (by rw[z4i]at h;exact(nt h).symm)
 . intro h;exact row_yes hl h1 h2 h3 (by rw[z4i]at h;exact(nf h).symm))
theorem znl {t:Int}:z3l t (!zga t):=zng _ _ (by unfold zfx;exact⟨_,z6b,rfl⟩)
theorem zr8 {l:List z0s} {a:z00}:zde l a (zm9 l a):=zrv _ _ _ (by
 unfold ziw zm9
 refine⟨_,z48,z0p (fun h=>row_no1 h) (fun h1=>z0m fun hl=>⟨_,z8f,z0p (fun h=>row_no2 hl h) (fun h2=>z0m fun hl2=>⟨row_start h2 hl,z97 (fun h=>row_no3 h) (fun h3=>?_)⟩)⟩)⟩
 exact⟨_,z5e (fun t=>!zga t) (fun _ _=>znl),row_yes hl h1 h2 h3 (by rw[z4i];simp)⟩)
theorem zzr {x:z02} {f:z00} (h:zm9 x.1 f=true):0<=f.1/\f.1<(x.1.length:Int):=by have:=z2v h;exact⟨this.2.1,this.2.2.1⟩
theorem z9n {x:z02} {i:Nat} (hi:i<x.2.1.length) (h1:zm9 x.1 x.2.1[i]=true) (h2:0<i->z81 (zcq x.2.1 (i - 1)) x.2.1[i]<0):z7a x i = !(z9a x.1 x.2.1[i].1&&(zv0 x.2.1[i]).length != 0):=by
 unfold z7a
 rw[z24 hi,h1]
 have:(i == 0||decide (z81 (zcq x.2.1 (i - 1)) x.2.1[i]<0))=true:=by
  rcases Nat.eq_zero_or_pos i with h|h
  . simp[h]
  . rw[decide_eq_true (h2 h)];simp
 rw[this];rfl
theorem z3w {x:z02}:z2a x (z2r x):=zl0 _ _ (by
 unfold zcd
 have no:z2r x=false->((false,()):Bool×Unit)=(z2r x,()):=fun h=>by rw[h]
 refine z7f x.2.1.length (fun i=>!z7a x i) (fun i=>((i:Int),())) (KT:=z2r x=false) (KF:=z2r x=(z8s x.1&&decide (x.2.1.length<=30))) ?_ ?_ ?_ ?_
 . intro i hi X hb q1 q2
   have qn:z7a x i=false->((false,()):Bool×Unit)=(z2r x,()):=fun h=>no (q1 (by rw[h];rfl))
   have qy:z7a x i=true->X (((i+1:Nat):Int),()):=fun h=>q2 (by rw[h];rfl)
   refine z0m fun hl=>bcI hi (inI hi ⟨_,zr4,?_⟩)
   simp only
   rw[z2g hi,z06 (by omega)]
   refine z0p (fun h=>qn (by unfold z7a;rw[z24 hi,h];simp)) (fun hv=>?_)
   have fin:z7a x i = !(z9a x.1 x.2.1[i].1&&(zv0 x.2.1[i]).length != 0)->((0<=x.2.1[i].1/\x.2.1[i].1<(x.1.length:Int))/\(z01 (((x.1.getD (Int.toNat x.2.1[i].1) zjv).2).2).1 (∃ y5:List Int,z5h x.2.1[i] y5/\(z0t (List.length y5:Int) (z01 (decide ((List.length y5:Int) > (0:Int))) (((false,()):Bool×Unit)=(z2r x,())) (X (((i+1:Nat):Int),()))))) (X (((i+1:Nat):Int),())))):=by
    intro he
    refine⟨zzr hv,z1w (fun hs=>⟨_,zis,z0m fun _=>z0e (fun h=>qn ?_) (fun h=>qy ?_)⟩) (fun hs=>qy ?_)⟩
    . have hs:z9a x.1 x.2.1[i].1=true:=hs
      rw[he,hs];simp;intro e;rw[e]at h;simp at h
    . have:(zv0 x.2.1[i]).length=0:=by omega
      rw[he,this];simp
    . have hs:z9a x.1 x.2.1[i].1=false:=hs
      rw[he,hs];rfl
   refine z0e (fun h0=>?_) (fun h0=>fin (z9n hi hv (fun h=>by omega)))
   have hi':i - 1<x.2.1.length:=by omega
   have hw:w64 ((i:Int) - 1)=((i - 1:Nat):Int):=by rw[z1s (by omega) (by omega)];omega
   rw[hw]
   refine inI hi' ⟨_,zbm,?_⟩
   rw[z2g hi']
   refine z0e (fun h=>qn ?_) (fun h=>fin (z9n hi hv (fun _=>by rw[z24 hi'];omega)))
   unfold z7a
   rw[z24 hi,z24 hi',decide_eq_false (by omega)]
   have:(i == 0)=false:=by simp;omega
   rw[this];simp
 . intro X h
   refine z0m fun _=>bcN ⟨_,z1v,z1w (fun h1=>z0m fun _=>?_) (fun h1=>no (by rw[h,h1];rfl))⟩
   rw[h,h1]
   have:decide ((x.2.1.length:Int)<=30)=decide (x.2.1.length<=30):=decide_eq_decide.mpr (by omega)
   rw[this];rfl
 . rintro⟨i,hi,hp⟩;exact z00c hi (nt hp)
 . intro h;exact zq9 fun i hi=>nf (h i hi))
theorem z3y {x:z02}:z2b x (z2r x):=zkm _ _ (by
 unfold zc3
 have no:z2r x=false->((false,()):Bool×Unit)=(z2r x,()):=fun h=>by rw[h]
 refine⟨_,z48,z0p (fun h=>no (by unfold z2r;rw[h];simp)) (fun hr=>z0m fun _=>z0e (fun h=>no (by unfold z2r;rw[decide_eq_false (show ¬ x.2.1.length<=30 by omega)];simp)) (fun hlen=>z0m fun _=>?_))⟩
 refine z7f x.2.1.length (fun i=>!z7a x i) (fun i=>((i:Int),())) (KT:=z2r x=false) (KF:=z2r x=(z8s x.1&&decide (x.2.1.length<=30))) ?_ ?_ ?_ ?_
 . intro i hi X hb q1 q2
   have qn:z7a x i=false->((false,()):Bool×Unit)=(z2r x,()):=fun h=>no (q1 (by rw[h];rfl))
   have qy:z7a x i=true->X (((i+1:Nat):Int),()):=fun h=>q2 (by rw[h];rfl)
   refine bcI hi (inI hi ⟨_,zr8,?_⟩)
   simp only
   rw[z2g hi,z06 (by omega)]
   refine z0p (fun h=>qn (by unfold z7a;rw[z24 hi,h];simp)) (fun hv=>?_)
   have hvl:=(z2v hv).2.2.2.2.1
   have fin:z7a x i = !(z9a x.1 x.2.1[i].1&&(zv0 x.2.1[i]).length != 0)->((0<=x.2.1[i].1/\x.2.1[i].1<(x.1.length:Int))/\(z01 (((x.1.getD (Int.toNat x.2.1[i].1) zjv).2).2).1 (∃ y5:List Int,z7d x.2.1[i] y5/\(z0t (List.length y5:Int) (z01 (decide ((List.length y5:Int) > (0:Int))) (((false,()):Bool×Unit)=(z2r x,())) (X (((i+1:Nat):Int),()))))) (X (((i+1:Nat):Int),())))):=by
    intro he
    refine⟨zzr hv,z1w (fun hs=>⟨_,zqx (by omega),z0m fun _=>z0e (fun h=>qn ?_) (fun h=>qy ?_)⟩) (fun hs=>qy ?_)⟩
    . have hs:z9a x.1 x.2.1[i].1=true:=hs
      rw[he,hs];simp;intro e;rw[e]at h;simp at h
    . have:(zv0 x.2.1[i]).length=0:=by omega
      rw[he,this];simp
    . have hs:z9a x.1 x.2.1[i].1=false:=hs
      rw[he,hs];rfl
   refine z0e (fun h0=>?_) (fun h0=>fin (z9n hi hv (fun h=>by omega)))
   have hi':i - 1<x.2.1.length:=by omega
   have hw:w64 ((i:Int) - 1)=((i - 1:Nat):Int):=by rw[z1s (by omega) (by omega)];omega
   rw[hw]
   refine inI hi' ⟨_,zba,?_⟩
   rw[z2g hi']
   refine z0e (fun h=>qn ?_) (fun h=>fin (z9n hi hv (fun _=>by rw[z24 hi'];omega)))
   unfold z7a
   rw[z24 hi,z24 hi',decide_eq_false (by omega)]
   have:(i == 0)=false:=by simp;omega
   rw[this];simp
 . intro X h
   refine bcN ?_
   rw[h,hr,decide_eq_true (show x.2.1.length<=30 by omega)];rfl
 . rintro⟨i,hi,hp⟩;exact z00c hi (nt hp)
 . intro h;exact zq9 fun i hi=>nf (h i hi))
theorem zsd {x:z02} (h:z2r x=true):(x.2.1.flatMap (·.2.1)).length<=90:=by
 have h1:=z9u h
 have:∀ l:List z00,(∀ f∈l,zm9 x.1 f=true)->(l.flatMap (·.2.1)).length<=3 * l.length:=by
  intro l
  induction l with
  |nil=>intro _;simp
  | cons a l ih=>
    intro hl
    have h1:=(z2v (hl a (by simp))).2.2.2.2.1
    have:=ih fun f hf=>hl f (by simp[hf])
    simp only[List.flatMap_cons,List.length_append,List.length_cons];omega
 have:=this x.2.1 fun f hf=>z6o h hf
 omega
def z2s (x:z02):Int:=match (zf4 x).getLast? with
 |some k=>k+1
 |none=>0
theorem z013 {x:z02} {n:Nat}:z2s x<=n↔∀ k∈zf4 x,k<n:=by
 unfold z2s
 have hs:srt (zf4 x):=zkw _
 cases h:(zf4 x).getLast? with
 | none=>
   have:zf4 x=[]:=List.getLast?_eq_none_iff.mp h
   rw[this];simp
 | some m=>
   have hne:zf4 x≠[]:=by intro e;rw[e]at h;simp at h
   have hm:(zf4 x).getLast hne=m:=by rw[List.getLast?_eq_some_getLast hne]at h;exact Option.some.inj h
   have hlast:=z08k hs hne
   constructor
   . intro h' k hk
     have:=hlast k hk;rw[hm]at this;simp only at h';omega
   . intro h'
     have:=h' m (by rw[<-hm];exact List.getLast_mem hne)
     simp only;omega
theorem zyz {x:z02} (hl:(x.2.1.flatMap (·.2.1)).length<=1073741824):zju x (z2s x):=zy7 _ _ (by
 unfold zq1
 have hf:=z00z x
 refine⟨_,zle hl,z0m fun _=>z4a (fun h=>?_) (fun h=>z0m fun _=>?_)⟩
 . have:zf4 x=[]:=List.length_eq_zero_iff.mp (by omega)
   unfold z2s;rw[this];rfl
 . have hw:w64 ((zf4 x).length - 1:Int)=(((zf4 x).length - 1:Nat):Int):=by rw[z1s (by omega) (by omega)];omega
   rw[hw]
   have hlt:(zf4 x).length - 1<(zf4 x).length:=by omega
   refine inI hlt ?_
   rw[z2g hlt]
   have hne:zf4 x≠[]:=by intro e;rw[e]at h;simp at h
   have hr:0<=(zf4 x)[(zf4 x).length - 1]/\(zf4 x)[(zf4 x).length - 1]<0+(40:Nat):=by
    have:=zf5 (l:=x.2.1.flatMap (·.2.1)) ((zf4 x)[(zf4 x).length - 1]) (by rw[zb2];exact List.getElem_mem hlt)
    exact this
   rw[z1s (by omega) (by omega)]
   unfold z2s
   rw[List.getLast?_eq_some_getLast hne,List.getLast_eq_getElem])
def sumA (l:List z0s):Int:=l.foldl (fun a r=>a+r.2.1) 0
theorem zug:∀ {l:List z0s} {a:Int},(∀ r∈l,znv r=true)->a<=l.foldl (fun a r=>a+r.2.1) a/\l.foldl (fun a r=>a+r.2.1) a<=a+3 * l.length
 |[],a,_=>by simp
 | x::l,a,h=>by
   have h1:=zid (h x (by simp))
   have h2:=zug (l:=l) (a:=a+x.2.1) fun r hr=>h r (by simp[hr])
   rw[List.foldl_cons,List.length_cons];omega
def z02p (l:List z0s) (r p:Int):Int:=if z8s l&&inR r 0 ((l.length:Int) - 1)&&inR p 0 (zoq l r - 1)then sumA (l.take r.toNat)+p else -1
theorem zna {l:List z0s} {r p:Int}:za6 l r p (z02p l r p):=znd _ _ _ _ (by
 unfold zfr
 refine⟨_,z1v,z0p (fun h=>by unfold z02p;rw[h];rfl) (fun hv=>z0m fun _=>⟨_,z6d,?_⟩)⟩
 have hl:=zbl hv
 rw[z1s (by omega) (by omega)]
 refine z0p (fun h=>by unfold z02p;rw[h];simp) (fun h1=>?_)
 have hr:=inR_iff.mp h1
 obtain⟨n,rfl⟩:∃ n:Nat,r=n:=⟨r.toNat,by omega⟩
 have hn:n<l.length:=by omega
 have ha:=zid (zgu hv (List.getElem_mem hn))
 refine inI hn ⟨_,z6d,?_⟩
 rw[z2g hn,z1s (by omega) (by omega)]
 have har:zoq l n=l[n].2.1:=by unfold zoq;rw[z2g hn]
 refine z0p (fun h=>by unfold z02p;rw[har,h];simp) (fun h2=>?_)
 have hp:=inR_iff.mp h2
 have hb:=fun i=>zug (l:=l.take i) (a:=0) fun r hr=>zgu hv (List.mem_of_mem_take hr)
 refine z0x n (fun i=>(sumA (l.take i),((i:Int),()))) (by simp[sumA]) ?_ ?_
 . intro i hi X hX
   have hil:i<l.length:=by omega
   have hbi:=hb (i+1)
   refine bcI hi (inI hil ?_)
   simp only
   rw[z08 hil]at hX hbi
   unfold sumA at hX ⊢
   rw[List.foldl_append]at hX hbi
   simp only[List.foldl_cons,List.foldl_nil,List.length_append,List.length_take,List.length_cons,List.length_nil]at hX hbi
   rw[z2g hil,z06 (by omega),z1s (by omega) (by omega)]
   exact hX
 . intro X
   have hbi:=hb n
   rw[List.length_take]at hbi
   refine bcN ?_
   unfold z02p
   rw[hv,h1,har,h2]
   simp only
   unfold sumA
   rw[z1s (by omega) (by omega)];rfl)
theorem zif {d:z0f} (h1:(d.1.flatMap (·.2.1)).length<=1073741824) (h2:(d.2.1.flatMap (·.2.1)).length<=1073741824):z6z d (frV d):=zil _ _ (by
 unfold zad
 have hv:=zhw d.2.1
 refine⟨_,z7t h1,_,z7t h2,?_⟩
 refine z0x (vars d.2.1).length (fun i=>((i:Int),(((vars d.2.1).take i).filter (fun v=>decide (v∈vars d.1)),()))) (by simp) ?_ ?_
 . intro i hi X hX
   refine z0m fun _=>bcI hi (inI hi ⟨_,zke,?_⟩)
   simp only
   rw[z2g hi,z06 (by omega)]
   have e:((vars d.2.1).take (i+1)).filter (fun v=>decide (v∈vars d.1))=((vars d.2.1).take i).filter (fun v=>decide (v∈vars d.1))++(if (vars d.2.1)[i]∈vars d.1 then[(vars d.2.1)[i]] else[]):=by
    rw[z08 hi,List.filter_append]
    by_cases h:(vars d.2.1)[i]∈vars d.1<;>simp[h]
   rw[e]at hX
   have hb:=List.length_filter_le (fun v=>decide (v∈vars d.1)) ((vars d.2.1).take i)
   rw[List.length_take]at hb
   refine z1w (fun h=>inI hi ⟨by simp only[z1p,List.length_cons,List.length_nil];omega,?_⟩) (fun h=>?_)
   . have h:(vars d.2.1)[i]∈vars d.1:=by simpa using h
     rw[if_pos h]at hX;exact hX
   . have h:¬ (vars d.2.1)[i]∈vars d.1:=by simpa using h
     rw[if_neg h,List.append_nil]at hX;exact hX
 . intro X
   refine z0m fun _=>bcN ?_
   simp only[List.take_length]
   rfl)
def placeG (l:List z0s) (a:z00) (v:Int) (out:List Int) (j:Nat):List Int:=if a.2.1.getD j 0 == v then out++[z02p l a.1 j] else out
def zqn (l:List z0s) (v:Int) (out:List Int) (a:z00):List Int:=(List.range a.2.1.length).foldl (placeG l a v) out
def places (l:List z0s) (ats:List z00) (v:Int):List Int:=ats.foldl (zqn l v) []
theorem zmi (l:List z0s) (a:z00) (v:Int) (out:List Int):∀ n:Nat,((List.range n).foldl (placeG l a v) out).length<=out.length+n
 |0=>by simp
 | n+1=>by
   have:=zmi l a v out n
   rw[List.range_succ,List.foldl_append,List.foldl_cons,List.foldl_nil]
   unfold placeG at this ⊢
   split
   . rw[List.length_append];simp only[List.length_cons,List.length_nil];omega
   . omega
theorem z021 (l:List z0s) (v:Int) (out:List Int) (a:z00):(zqn l v out a).length<=out.length+a.2.1.length:=zmi l a v out _
theorem zjj (l:List z0s) (v:Int):∀(ats:List z00) (out:List Int),(ats.foldl (zqn l v) out).length<=out.length+(ats.flatMap (·.2.1)).length
 |[],out=>by simp
 | a::ats,out=>by
   have h1:=zjj l v ats (zqn l v out a)
   have h2:=z021 l v out a
   rw[List.foldl_cons,List.flatMap_cons,List.length_append];omega
theorem z94 (l:List z0s) (ats:List z00) (v:Int):(places l ats v).length<=(ats.flatMap (·.2.1)).length:=by
 have:=zjj l v ats []
 simpa [places]using this
theorem zha {l:List z0s} {ats:List z00} {v:Int} (hb:(ats.flatMap (·.2.1)).length<=1073741824):z9q l ats v (places l ats v):=zvt _ _ _ _ (by
 unfold zmz
 refine zhu ats (zqn l v) [] (fun i m=>((i:Int),(m,()))) ?_ ?_
 . intro i hi X hX
   have hs:=ze5 (fun a:z00=>a.2.1) hi
   have hm:=zjj l v (ats.take i) []
   rw[List.length_nil]at hm
   refine z0m fun _=>bcI hi ?_
   simp only
   rw[z2g hi]
   generalize (ats.take i).foldl (zqn l v) []=m0 at hX hm ⊢
   unfold zqn at hX
   refine z0x ats[i].2.1.length (fun j=>((j:Int),((List.range j).foldl (placeG l ats[i] v) m0,()))) (by simp) ?_ ?_
   . intro j hj Y hY
     have hl:=zmi l ats[i] v m0 j
     refine inI hi (z0m fun _=>bcI hj (inI hi (inI hj ?_)))
     simp only
     rw[z06 (by omega)]
     rw[List.range_succ,List.foldl_append,List.foldl_cons,List.foldl_nil]at hY
     rw[placeG.eq_def]at hY
     refine z1w (fun h=>inI hi ⟨_,zna,⟨by simp only[z1p,List.length_cons,List.length_nil];omega,?_⟩⟩) (fun h=>?_)
     . rw[if_pos (show(ats[i].2.1.getD j 0 == v)=true from h)]at hY;exact hY
     . rw[show(ats[i].2.1.getD j 0 == v)=false from h]at hY;exact hY
   . intro Y
     refine inI hi (z0m fun _=>bcN ?_)
     simp only
     rw[z06 (by omega)];exact hX
 . intro X
   exact z0m fun _=>bcN rfl)
theorem zci {α σ:Type} {μ:σ->Nat} {g:σ->α->σ} {c:Nat}:∀ {l:List α} {s:σ},(∀ s,∀ a∈l,μ (g s a)<=μ s+c)->μ (l.foldl g s)<=μ s+l.length * c
 |[],s,_=>by simp
 | a::l,s,h=>by
   have h1:=h s a (by simp)
   have h2:=zci (s:=g s a) fun s b (hb:b∈l)=>h s b (by simp[hb])
   rw[List.foldl_cons,List.length_cons,Nat.add_mul];omega
theorem z3a {α σ τ:Type} {B:(τ->Prop)->τ->Prop} (l:List α) (g:σ->α->σ) (s0:σ) (e:Nat->σ->τ) (μ:σ->Nat) (c N:Nat) (hN:l.length<=N) (hg:∀ s,∀ a∈l,μ (g s a)<=μ s+c)
  (hs:∀ i (h:i<l.length) (s:σ) (X:τ->Prop),μ s<=μ s0+N * c->X (e (i+1) (g s l[i]))->B X (e i s))
  (hf:∀ X:τ->Prop,μ (l.foldl g s0)<=μ s0+N * c->B X (e l.length (l.foldl g s0))):z0l B (e 0 s0):=by
 have hb:∀ i,i<=l.length->μ ((l.take i).foldl g s0)<=μ s0+N * c:=fun i hi=>by
  have h1:=zci (μ:=μ) (g:=g) (c:=c) (l:=l.take i) (s:=s0) fun s a ha=>hg s a (List.mem_of_mem_take ha)
  rw[List.length_take,Nat.min_eq_left hi]at h1
  have:i * c<=N * c:=Nat.mul_le_mul_right c (by omega)
  omega
 refine zhu l g s0 e (fun i hi X hX=>hs i hi _ X (hb i (by omega)) hX) (fun X=>hf X ?_)
 have:=hb l.length (Nat.le_refl _)
 rwa [List.take_length]at this
def zxy (d:z0f):Prop:=(d.1.flatMap (·.2.1)).length<=6/\(d.2.1.flatMap (·.2.1)).length<=6
theorem z07z {l:List z0s} {d:z0f} (h:zee l d=true):zxy d:=by
 have:=z4c h;exact⟨this.2.2.2.2.2.1,this.2.2.2.2.2.2⟩
theorem z04t {d:z0f} (h:zxy d):(exV d).length<=6:=Nat.le_trans (List.length_filter_le _ _) (Nat.le_trans (zhw _) h.2)
theorem z06y {d:z0f} (h:zxy d):(frV d).length<=6:=Nat.le_trans (List.length_filter_le _ _) (Nat.le_trans (zhw _) h.2)
def putE (e:List z29) (x:z29):List z29:=if x∈e then e else e++[x]
def ed (f:Int) (b:Bool) (ps:List Int) (out:List z29):List z29:=ps.foldl (fun out t=>putE out (f,t,b,())) out
def z05t (l:List z0s) (d:z0f) (v:Int) (out:List z29) (f:Int):List z29:=(exV d).foldl (fun out n=>ed f true (places l d.2.1 n) out) (ed f false (places l d.2.1 v) out)
def gVar (l:List z0s) (d:z0f) (out:List z29) (v:Int):List z29:=(places l d.1 v).foldl (z05t l d v) out
def gDep (l:List z0s) (out:List z29) (d:z0f):List z29:=(frV d).foldl (gVar l d) out
def zr7 (l:List z0s) (ds:List z0f):List z29:=if zgd l ds then ds.foldl (gDep l) [] else[]
theorem zur (e:List z29) (x:z29):(putE e x).length<=e.length+1:=by unfold putE;split<;>simp
theorem z01b (f:Int) (b:Bool) (ps:List Int) (out:List z29):(ed f b ps out).length<=out.length+ps.length:=by
 have:=zci (μ:=List.length) (g:=fun out t=>putE out (f,t,b,())) (c:=1) (l:=ps) (s:=out) fun s a _=>zur _ _
 unfold ed;omega
theorem zv8 {l:List z0s} {d:z0f} (h:zxy d) (v:Int) (out:List z29) (f:Int):(z05t l d v out f).length<=out.length+42:=by
 have h1:=z01b f false (places l d.2.1 v) out
 have h2:=z94 l d.2.1 v
 have h3:=zci (μ:=List.length) (g:=fun out n=>ed f true (places l d.2.1 n) out) (c:=6) (l:=exV d) (s:=ed f false (places l d.2.1 v) out) fun s a _=>by
  have h1:=z01b f true (places l d.2.1 a) s
  have h2:=z94 l d.2.1 a
  have:=h.2;omega
 have h4:=z04t h
 have:=h.2
 unfold z05t;omega
theorem z00o {l:List z0s} {d:z0f} (h:zxy d) (out:List z29) (v:Int):(gVar l d out v).length<=out.length+252:=by
 have h1:=zci (μ:=List.length) (g:=z05t l d v) (c:=42) (l:=places l d.1 v) (s:=out) fun s a _=>zv8 h v s a
 have h2:=z94 l d.1 v
 have:=h.1
 unfold gVar;omega
theorem z09f {l:List z0s} {d:z0f} (h:zxy d) (out:List z29):(gDep l out d).length<=out.length+1512:=by
 have h1:=zci (μ:=List.length) (g:=gVar l d) (c:=252) (l:=frV d) (s:=out) fun s a _=>z00o h s a
 have h2:=z06y h
 unfold gDep;omega
theorem z09h (x y:z29):eqD (.pair (.int .i64) (.pair (.int .i64) (.pair .bool .unit))) x y=decide (x=y):=by
 obtain⟨a,b,c,_⟩:=x;obtain⟨a',b',c',_⟩:=y
 show((a == a')&&((b == b')&&((c == c')&&true)))=_
 by_cases h1:a=a'<;>by_cases h2:b=b'<;>by_cases h3:c=c'<;>simp[h1,h2,h3]
theorem zk6 {e:List z29} {x:z29} (h:e.length<=1073741824):zau e x (putE e x):=zuk _ _ _ (by
 unfold zkx
 refine z9i e (fun y=>decide (y=x)) (fun i=>((i:Int),())) (KT:=x∈e) (KF:=¬ x∈e) ?_ ?_ ?_ ?_
 . intro i hi X h1 h2
   refine z0m fun _=>bcI hi (inI hi ?_)
   simp only
   rw[z2g hi,z06 (by omega)]
   rw[z09h]
   refine z1w (fun h=>?_) (fun h=>h2 h)
   have:=h1 h
   unfold putE;rw[if_pos this]
 . intro X hn
   refine z0m fun _=>bcN ⟨by simp only[z1p,List.length_cons,List.length_nil];omega,?_⟩
   unfold putE;rw[if_neg hn]
 . intro h
   obtain⟨y,hy,hp⟩:=List.any_eq_true.mp h
   have:y=x:=by simpa using hp
   rw[<-this];exact hy
 . intro h hm
   have:e.any (fun y=>decide (y=x))=true:=List.any_eq_true.mpr ⟨x,hm,by simp⟩
   rw[h]at this;cases this)
theorem znc {l:List z0s} {ds:List z0f}:za7 l ds (zr7 l ds):=zn7 _ _ _ (by
 unfold zft zr7
 cases hv:zgd l ds with
 | false=>
   refine z0x 0 (fun _=>((0:Int),(([]:List z29),()))) rfl (fun i hi=>by omega) fun X=>?_
   refine z0m fun _=>z0e (fun _=>⟨_,z2d,?_⟩) (fun _=>?_)
   . rw[hv];exact bcF (by simp)
   . simp
 | true=>
   rw[if_pos rfl]
   have hdl:=zq6 hv
   have hsm:∀ d∈ds,zxy d:=fun d hd=>z07z (z05z hv hd)
   refine z3a ds (gDep l) [] (fun i m=>((i:Int),(m,()))) List.length 1512 5 hdl (fun s a ha=>z09f (hsm a ha) s) ?_ ?_
   . intro i hi s X hs hX
     rw[List.length_nil]at hs
     have hd:=hsm _ (List.getElem_mem hi)
     have hd1:=hd.1
     have hd2:=hd.2
     have hfl:=z06y hd
     have hel:=z04t hd
     refine z0m fun _=>bcI hi ⟨_,z2d,?_⟩
     rw[hv]
     refine bcT (inI hi ⟨_,zif (by simp only;rw[z2g hi];omega) (by simp only;rw[z2g hi];omega),inI hi ⟨_,z83 (by simp only;rw[z2g hi];omega) (by simp only;rw[z2g hi];omega),?_⟩⟩)
     simp only
     rw[z2g hi,z06 (by omega)]
     refine z3a (frV ds[i]) (gVar l ds[i]) s (fun i m=>((i:Int),(m,()))) List.length 252 6 hfl (fun s a _=>z00o hd s a) ?_ ?_
     . intro j hj s2 Y hs2 hY
       have hpl:=z94 l ds[i].1 (frV ds[i])[j]
       have hpl2:=z94 l ds[i].2.1 (frV ds[i])[j]
       refine z0m fun _=>bcI hj (inI hi (inI hj ⟨_,zha (by omega),inI hi (inI hj ⟨_,zha (by omega),?_⟩)⟩))
       simp only
       rw[z2g hj,z06 (by omega)]
       refine z3a (places l ds[i].1 (frV ds[i])[j]) (z05t l ds[i] (frV ds[i])[j]) s2 (fun i m=>((i:Int),(m,()))) List.length 42 6 (by omega) (fun s a _=>zv8 hd _ s a) ?_ ?_
       . intro k hk s3 Z hs3 hZ
         refine z0m fun _=>bcI hk ?_
         simp only
         rw[z2g hk,z06 (by omega)]
         have he1:=z01b (places l ds[i].1 (frV ds[i])[j])[k] false (places l ds[i].2.1 (frV ds[i])[j]) s3
         refine z3a (places l ds[i].2.1 (frV ds[i])[j]) (fun out t=>putE out ((places l ds[i].1 (frV ds[i])[j])[k],t,false,())) s3 (fun i m=>((i:Int),(m,()))) List.length 1 6 (by omega) (fun s a _=>zur _ _) ?_ ?_
         . intro m hm s4 W hs4 hW
           refine z0m fun _=>bcI hm (inI hk (inI hm ⟨_,zk6 (by simp only;omega),?_⟩))
           simp only
           rw[z2g hm,z06 (by omega)];exact hW
         . intro W hs4
           refine z0m fun _=>bcN ?_
           simp only
           refine z3a (exV ds[i]) (fun out n=>ed (places l ds[i].1 (frV ds[i])[j])[k] true (places l ds[i].2.1 n) out) (ed (places l ds[i].1 (frV ds[i])[j])[k] false (places l ds[i].2.1 (frV ds[i])[j]) s3) (fun i m=>((i:Int),(m,()))) List.length 6 6 hel (fun s a _=>by
            have h1:=z01b (places l ds[i].1 (frV ds[i])[j])[k] true (places l ds[i].2.1 a) s
            have h2:=z94 l ds[i].2.1 a
            omega) ?_ ?_
           . intro m hm s4 V hs4 hV
             have hpl3:=z94 l ds[i].2.1 (exV ds[i])[m]
             refine z0m fun _=>bcI hm (inI hi (inI hm ⟨_,zha (by omega),?_⟩))
             simp only
             rw[z2g hm,z06 (by omega)]
             refine z3a (places l ds[i].2.1 (exV ds[i])[m]) (fun out t=>putE out ((places l ds[i].1 (frV ds[i])[j])[k],t,true,())) s4 (fun i m=>((i:Int),(m,()))) List.length 1 6 (by omega) (fun s a _=>zur _ _) ?_ ?_
             . intro p hp s5 V5 hs5 hV5
               refine z0m fun _=>bcI hp (inI hk (inI hp ⟨_,zk6 (by simp only;omega),?_⟩))
               simp only
               rw[z2g hp,z06 (by omega)];exact hV5
             . intro V5 _
               exact z0m fun _=>bcN hV
           . intro V _
             exact z0m fun _=>bcN hZ
       . intro Z _
         exact z0m fun _=>bcN hY
     . intro Y _
       exact z0m fun _=>bcN hX
   . intro X _
     exact z0m fun _=>bcN rfl)
def cntP (l:List z0s):Int:=if z8s l then sumA l else 0
theorem znb {l:List z0s}:za5 l (cntP l):=znh _ _ (by
 unfold zfo cntP
 cases hv:z8s l with
 | false=>
   refine z0x 0 (fun _=>((0:Int),((0:Int),()))) rfl (fun i hi=>by omega) fun X=>?_
   refine z0m fun _=>z0e (fun _=>⟨_,z1v,?_⟩) (fun _=>?_)
   . rw[hv];exact bcF (by simp)
   . simp
 | true=>
   rw[if_pos rfl]
   have hl:=zbl hv
   refine zhu l (fun a r=>a+r.2.1) 0 (fun i m=>(m,((i:Int),()))) ?_ ?_
   . intro i hi X hX
     have hb:=zug (l:=l.take i) (a:=0) fun r hr=>zgu hv (List.mem_of_mem_take hr)
     rw[List.length_take]at hb
     have ha:=zid (zgu hv (List.getElem_mem hi))
     refine z0m fun _=>bcI hi ⟨_,z1v,?_⟩
     rw[hv]
     refine bcT (inI hi ?_)
     simp only
     rw[z2g hi,z06 (by omega),z1s (by omega) (by omega)]
     exact hX
   . intro X
     exact z0m fun _=>bcN rfl)
def zoc {α:Type} (f:α->α):Nat->α->α
 |0,a=>a
 |n+1,a=>zoc f n (f a)
theorem zse {α:Type} {f:α->α}:∀ {n:Nat} {a:α},zoc f (n+1) a=f (zoc f n a)
 |0,_=>rfl
 |n+1,a=>by rw[zoc,zse];rfl
theorem zvq {α:Type} {f:α->α} {I:α->Prop} (h:∀ a,I a->I (f a)):∀ {n:Nat} {a:α},I a->I (zoc f n a)
 |0,_,ha=>ha
 |n+1,_,ha=>zvq h (n:=n) (h _ ha)
theorem z078 {α:Type} {l:List α} {i j:Nat} {x d:α} (h:i<l.length):(l.set i x).getD j d=if j=i then x else l.getD j d:=by
 by_cases hj:j<l.length
 . rw[z8q (by simpa using hj),z8q hj,List.getElem_set]
   by_cases hij:i=j
   . subst hij;simp
   . rw[if_neg hij,if_neg (Ne.symm hij)]
 . have:j≠i:=by omega
   rw[if_neg this,List.getD_eq_getElem?_getD,List.getD_eq_getElem?_getD,List.getElem?_eq_none (by simpa using hj),List.getElem?_eq_none (by omega)]
def zym (n:Int) (met:List Bool) (e:z29):List Bool:=if inR e.1 0 (n - 1)&&inR e.2.1 0 (n - 1)&&met.getD e.1.toNat false then met.set e.2.1.toNat true else met
def zq7 (n:Int) (es:List z29) (met:List Bool):List Bool:=es.foldl (zym n) met
def z00s (n:Int) (es:List z29) (a:Int):List Bool:=zoc (zq7 n es) n.toNat ((List.replicate n.toNat false).set a.toNat true)
def z01o (n:Int) (es:List z29) (a b:Int):Bool:=inR n 0 30&&inR a 0 (n - 1)&&inR b 0 (n - 1)&&(z00s n es a).getD b.toNat false
theorem z04s (n:Int) (met:List Bool) (e:z29):(zym n met e).length=met.length:=by unfold zym;split<;>simp
theorem zox (n:Int):∀(es:List z29) (met:List Bool),(es.foldl (zym n) met).length=met.length
 |[],_=>rfl
 |e::es,met=>by rw[List.foldl_cons,zox n es];exact z04s n met e
theorem z06u (n:Int) (es:List z29) (k:Nat) (met:List Bool):(zoc (zq7 n es) k met).length=met.length:=
 zvq (I:=fun m:List Bool=>m.length=met.length) (fun m hm=>by unfold zq7;rw[zox];exact hm) rfl
theorem zre {n:Int} {es:List z29} {a b:Int}:zcw n es a b (z01o n es a b):=zrg _ _ _ _ _ (by
 unfold zj5
 refine⟨_,z6d,z0p (fun h=>by unfold z01o;rw[h];rfl) (fun h1=>⟨_,z6d,?_⟩)⟩
 have hn:=inR_iff.mp h1
 rw[z1s (by omega) (by omega)]
 refine z0p (fun h=>by unfold z01o;rw[h];simp) (fun h2=>⟨_,z6d,z0p (fun h=>by unfold z01o;rw[h];simp) (fun h3=>?_)⟩)
 have ha:=inR_iff.mp h2
 have hb:=inR_iff.mp h3
 refine⟨⟨by omega,by omega,by simp only[z1p];omega⟩,⟨by omega,by rw[List.length_replicate];omega⟩,?_⟩
 have hlen:∀ k,(zoc (zq7 n es) k ((List.replicate n.toNat false).set a.toNat true)).length=n.toNat:=fun k=>by rw[z06u];simp
 refine z0x n.toNat (fun i=>((i:Int),(zoc (zq7 n es) i ((List.replicate n.toNat false).set a.toNat true),()))) (by simp[zoc]) ?_ ?_
 . intro i hi X hX
   refine z0e (fun _=>?_) (fun h=>by omega)
   rw[zse]at hX
   have hli:=hlen i
   simp only
   generalize zoc (zq7 n es) i ((List.replicate n.toNat false).set a.toNat true)=m0 at hX hli ⊢
   unfold zq7 at hX
   refine zhu es (zym n) m0 (fun i m=>((i:Int),(m,()))) ?_ ?_
   . intro j hj Y hY
     have hlm:=zox n (es.take j) m0
     rw[hli]at hlm
     generalize (es.take j).foldl (zym n) m0=m1 at hY hlm ⊢
     unfold zym at hY
     refine z0m fun _=>bcI hj (inI hj ⟨_,z6d,?_⟩)
     simp only
     rw[z2g hj,z06 (by omega)]
     refine z1w (fun h4=>inI hj ⟨_,z6d,z1w (fun h5=>inI hj ?_) (fun h5=>by rw[h5]at hY;simpa using hY)⟩) (fun h4=>by rw[h4]at hY;simpa using hY)
     have e1:=inR_iff.mp h4
     have e2:=inR_iff.mp h5
     refine⟨⟨by omega,by omega⟩,z1w (fun h6=>inI hj ⟨⟨by omega,by omega⟩,?_⟩) (fun h6=>?_)⟩
     . rw[h4,h5,h6]at hY;simpa using hY
     . rw[h6]at hY;simpa using hY
   . intro Y
     refine z0m fun _=>bcN ?_
     simp only
     rw[z06 (by omega)];exact hX
 . intro X
   refine z0e (fun h=>by omega) (fun _=>⟨⟨by omega,by rw[hlen];omega⟩,?_⟩)
   unfold z01o z00s
   rw[h1,h2,h3];rfl)
def cycP (l:List z0s) (ds:List z0f) (e:z29):Bool:=e.2.2.1&&z01o (cntP l) (zr7 l ds) e.2.1 e.1
def cyc (l:List z0s) (ds:List z0f):Bool:=(zr7 l ds).any (cycP l ds)
def cycE (l:List z0s) (ds:List z0f):z29:=if z05 (cycP l ds) (zr7 l ds)<(zr7 l ds).length then(zr7 l ds).getD (z05 (cycP l ds) (zr7 l ds)) zf3 else zf3
theorem zvy {α:Type} {p:α->Bool} {l:List α}:l.any p=decide (z05 p l<l.length):=by
 rcases Nat.lt_or_ge (z05 p l) l.length with h|h
 . rw[decide_eq_true h]
   exact List.any_eq_true.mpr ⟨_,List.getElem_mem h,zaz h⟩
 . rw[decide_eq_false (by omega),Bool.eq_false_iff]
   intro hany
   obtain⟨x,hx,hp⟩:=List.any_eq_true.mp hany
   obtain⟨i,hi,rfl⟩:=List.mem_iff_getElem.mp hx
   have:=ze3 (p:=p) hi (by omega)
   rw[hp]at this;cases this
def wac (l:List z0s) (ds:List z0f):Bool:=zgd l ds && !cyc l ds
theorem zje {l:List z0s} {ds:List z0f}:z7n l ds (cycE l ds) (cyc l ds):=zjt _ _ _ _ (by
 unfold zbq
 refine⟨_,znc,z9d (zr7 l ds) (cycP l ds) (fun i=>((i:Int),(zf3,()))) (KT:=fun i=>((zr7 l ds).getD i zf3,(true,()))=(cycE l ds,(cyc l ds,()))) (KF:=(zf3,(false,()))=(cycE l ds,(cyc l ds,()))) ?_ ?_ ?_ ?_⟩
 . intro i hi X h1 h2
   refine z0m fun _=>bcI hi (inI hi ?_)
   simp only
   rw[z06 (by omega)]
   have hg:=z2g (d:=zf3) hi
   rw[hg]
   unfold cycP at h1 h2
   refine z1w (fun h=>inI hi (inI hi ⟨_,znb,_,zre,z1w (fun h3=>inI hi ?_) (fun h3=>?_)⟩)) (fun h=>h2 (by rw[h];rfl))
   . have:=h1 (by rw[h,h3];rfl)
     rw[z8q hi]at this;exact this
   . exact h2 (by rw[h,h3];rfl)
 . intro X h
   exact z0m fun _=>bcN h
 . intro h
   unfold cycE cyc
   rw[if_pos h,zvy,decide_eq_true h]
 . intro h
   unfold cycE cyc
   rw[if_neg (by omega),zvy,decide_eq_false (by omega)])
theorem zcs {l:List z0s} {ds:List z0f}:z5q l ds (wac l ds):=zl7 _ _ _ (by
 unfold zce wac
 refine⟨_,_,zje,_,z2d,z1w (fun h=>by rw[h];rfl) (fun h=>by rw[h];rfl)⟩)
def hgt (n:Int) (es:List z29) (p:Nat):Nat:=(List.range n.toNat).countP fun(q:Nat)=>(z00s n es (q:Int)).getD p false && !(z00s n es (p:Int)).getD q false
theorem z3r {l:List Int} (h:l.length<=1099511627776):z2c l l:=zkv _ _ (by
 unfold zco
 refine z1w (fun he=>⟨?_,by simp only[z1p,List.length_nil];omega,by rw[List.nil_append]⟩) (fun _=>⟨by simp only[z1p,List.length_nil];omega,by rw[List.nil_append]⟩)
 have:l=[]:=List.isEmpty_iff.mp he
 rw[this])
theorem zek {l:List z0s} (h:l.length<=1099511627776):z4v l l:=zex _ _ (by
 unfold z86
 refine z1w (fun he=>⟨?_,by simp only[z1p,List.length_nil];omega,by rw[List.nil_append]⟩) (fun _=>⟨by simp only[z1p,List.length_nil];omega,by rw[List.nil_append]⟩)
 have:l=[]:=List.isEmpty_iff.mp he
 rw[this])
theorem zov {f:z00} (h:f.2.1.length<=1099511627776):zhk f f:=z06h _ _ (by
 unfold zvm
 try refine⟨trivial,?_⟩
 exact⟨by simp only[z1p,List.length_nil];omega,by rw[List.nil_append]⟩)
theorem zoo {f:z00} (h:f.2.1.length<=1099511627776):zfl f f:=zy0 _ _ (by
 unfold zoi
 exact⟨_,z3r h,rfl⟩)
theorem zwk {α τ:Type} {B:(τ->Prop)->τ->Prop} (l:List α) (e:Nat->List α->τ) (hl:l.length<=1073741824)
  (hs:∀ i (h:i<l.length) (s:List α) (X:τ->Prop),s.length<=1073741824->X (e (i+1) (s++[l[i]]))->B X (e i s))
  (hf:∀ X:τ->Prop,B X (e l.length l)):z0l B (e 0 []):=by
 refine z0x l.length (fun i=>e i (l.take i)) (by simp) ?_ ?_
 . intro i hi X hX
   rw[z08 hi]at hX
   exact hs i hi _ X (by rw[List.length_take];omega) hX
 . intro X;rw[List.take_length];exact hf X
theorem zms {l:List z00} (hl:l.length<=1073741824) (h:∀ f∈l,f.2.1.length<=1099511627776):zcb l l:=zx1 _ _ (by
 unfold zmy
 refine z0m fun _=>zwk l (fun i s=>((i:Int),(s,()))) hl ?_ ?_
 . intro i hi s X hs hX
   refine bcI hi (inI hi ⟨l[i],?_,⟨by simp only[z1p,List.length_cons,List.length_nil];omega,?_⟩⟩)
   . simp only;rw[z2g hi];exact zoo (h _ (List.getElem_mem hi))
   . simp only;rw[z06 (by omega)];exact hX
 . intro X;exact bcN rfl)
def z0dv (d:z0f):Prop:=(d.1.length<=1073741824/\∀ f∈d.1,f.2.1.length<=1099511627776)/\(d.2.1.length<=1073741824/\∀ f∈d.2.1,f.2.1.length<=1099511627776)
theorem zjl:z9c 1 5 0 5:=zmp _ _ _ _ (by
 unfold zdm
 decide)
abbrev z95:List Int:=[10,10,10,10,10]
theorem zgv:z7m [10] 5 z95:=zjf _ _ _ (by
 unfold zbh
 refine bcF (z0m fun _=>⟨0,5,zp3 _ _ _ _ ⟨0,5,zjl,rfl⟩,bcF (bcF ⟨by decide,by decide,?_⟩)⟩)
 refine z0x 3 (fun i=>match i with
  |0=>((1:Int),(([10,0,0,0,0]:List Int),()))
  |1=>((2:Int),(([10,10,0,0,0]:List Int),()))
  |2=>((4:Int),(([10,10,10,10,0]:List Int),()))
  |_=>((5:Int),(([10,10,10,10,10]:List Int),()))) (by decide) ?_ ?_
 . intro i hi X hX
   rcases i with _|_|_|i
   . exact z0m fun _=>bcT ⟨by decide,by decide,by decide,by rw[show ∀ z,w64 z=IntKind.i64.wrap z from fun _=>rfl];exact hX⟩
   . exact z0m fun _=>bcT ⟨by decide,by decide,by decide,by rw[show ∀ z,w64 z=IntKind.i64.wrap z from fun _=>rfl];exact hX⟩
   . exact z0m fun _=>bcT ⟨by decide,by decide,by decide,by rw[show ∀ z,w64 z=IntKind.i64.wrap z from fun _=>rfl];exact hX⟩
   . omega
 . intro X
   exact z0m fun _=>bcF rfl)
theorem zlz:z9b z95:=zmq _ (by unfold zds;exact⟨_,zgv,rfl⟩)
theorem zm7:zeb 10:=z02h _ (by unfold zsl;rfl)
theorem zz0:zjg [10,10,10,10,10]:=zye _ (by
 unfold zqd
 refine z0x 5 (fun i=>(List.replicate i (10:Int),())) rfl ?_ ?_
 . intro i hi X hX
   refine z0m fun _=>z0e (fun _=>⟨_,zm7,by simp only[z1p,List.length_replicate,List.length_cons,List.length_nil];omega,?_⟩) (fun h=>by simp only[List.length_replicate]at h;omega)
   rw[List.replicate_succ']at hX;exact hX
 . intro X
   exact z0m fun _=>bcF rfl)
def zfk:List Int->List Int->List Int->List Int×Bool
 |[],_,b=>(b,true)
 | t::ts,v::vs,b=>if t<0 then(if -1 - t=v then zfk ts vs b else(b,false))
   else if b.getD t.toNat 0=10\/b.getD t.toNat 0=v then zfk ts vs (b.set t.toNat v)else(b,false)
 |_::_,[],b=>(b,false)
theorem zjx {t:Int} {ts:List Int} {v:Int} {vs b:List Int}:zfk (t::ts) (v::vs) b=if t<0 then(if -1 - t=v then zfk ts vs b else(b,false))
 else if b.getD t.toNat 0=10\/b.getD t.toNat 0=v then zfk ts vs (b.set t.toNat v)else(b,false):=rfl
theorem zff:∀ {ts vs b:List Int},(zfk ts vs b).1.length=b.length
 |[],vs,b=>by simp[zfk]
 |t::ts,[],b=>by simp[zfk]
 | t::ts,v::vs,b=>by
   unfold zfk
   split
   . split
     . exact zff
     . rfl
   . split
     . rw[zff,List.length_set]
     . rfl
theorem z090 {l:List Int} {i:Nat} {v:Int} (h:i<l.length) (hv:l.getD i 0=v):l.set i v=l:=by
 rw[z8q h]at hv
 subst hv
 exact List.set_getElem_self h
theorem z04p {a f:z00} {b:List Int} (hl:a.2.1.length<=1000) (hb:b.length<=1000) (ht:∀ t∈a.2.1,-10<=t/\t<b.length) :
  zp6 a f b (if a.1=f.1/\a.2.1.length=f.2.1.length then(zfk a.2.1 f.2.1 b).1 else b) (decide (a.1=f.1/\a.2.1.length=f.2.1.length)&&(zfk a.2.1 f.2.1 b).2):=z03z _ _ _ _ _ (by
 unfold zx2
 refine⟨by simp only[z1p,List.length_nil];omega,z97 (fun h=>by rw[if_neg (fun h'=>h h'.1)];simp[h]) (fun h1=>z0m fun _=>z0m fun _=>z97 (fun h=>?_) (fun h2=>?_))⟩
 . have h:¬ a.2.1.length=f.2.1.length:=by omega
   rw[if_neg (fun h'=>h h'.2)];simp[h]
 . have h2:a.2.1.length=f.2.1.length:=by omega
   rw[if_pos ⟨h1,h2⟩,decide_eq_true (And.intro h1 h2),Bool.true_and,List.nil_append]
   refine z1f (fun k s=>∃(i:Nat) (c:List Int),i+k=a.2.1.length/\s=((i:Int),(c,()))/\c.length=b.length/\zfk (a.2.1.drop i) (f.2.1.drop i) c=zfk a.2.1 f.2.1 b) ?_ ?_ (n:=a.2.1.length) ⟨0,b,by omega,rfl,rfl,by simp⟩
   . rintro s ⟨i,c,hi,rfl,hc,hf⟩ X
     obtain rfl:i=a.2.1.length:=by omega
     refine z0m fun _=>bcN ?_
     rw[<-hf];simp[zfk]
   . rintro k s ⟨i,c,hi,rfl,hc,hf⟩ X hX
     have hlt:i<a.2.1.length:=by omega
     have hlt':i<f.2.1.length:=by omega
     rw[z56 hlt,z56 hlt']at hf
     have htr:=ht _ (List.getElem_mem hlt)
     refine z0m fun _=>bcI hlt (inI hlt ?_)
     simp only
     rw[z2g hlt,z2g hlt',z06 (by omega)]
     rw[zjx]at hf
     refine z0e (fun h3=>inI hlt' ?_) (fun h3=>?_)
     . rw[if_pos h3]at hf
       rw[z1s (by omega) (by omega)]
       refine z97 (fun h4=>?_) (fun h4=>?_)
       . rw[if_neg h4]at hf;rw[<-hf]
       . rw[if_pos h4]at hf;exact hX _ ⟨i+1,c,by omega,rfl,hc,hf⟩
     . rw[if_neg h3]at hf
       have hin:a.2.1[i].toNat<c.length:=by omega
       refine⟨⟨by omega,by omega⟩,_,zm7,z97 (fun h4=>⟨⟨by omega,by omega⟩,inI hlt' (z97 (fun h5=>?_) (fun h5=>inI hlt' ⟨⟨by omega,by omega⟩,?_⟩))⟩) (fun h4=>inI hlt' ⟨⟨by omega,by omega⟩,?_⟩)⟩
       . rw[if_neg (by rintro (h|h);exact h4 h;exact h5 h)]at hf;rw[<-hf]
       . rw[if_pos (.inr h5)]at hf;exact hX _ ⟨i+1,_,by omega,rfl,by rw[List.length_set];exact hc,hf⟩
       . rw[if_pos (.inl h4)]at hf;exact hX _ ⟨i+1,_,by omega,rfl,by rw[List.length_set];exact hc,hf⟩)
theorem z0bh {a f:z00} {b:List Int} (hl:a.2.1.length<=1000) (hb:b.length<=1000) (ht:∀ t∈a.2.1,-10<=t/\t<b.length) (hr:a.1=f.1->a.2.1.length=f.2.1.length) :
  zy6 b a f (if a.1=f.1/\(zfk a.2.1 f.2.1 b).2 then(zfk a.2.1 f.2.1 b).1 else[]) (decide (a.1=f.1)&&(zfk a.2.1 f.2.1 b).2):=z0bk _ _ _ _ _ (by
 unfold z06n
 refine z97 (fun h=>by rw[if_neg (fun h'=>h h'.1)];simp[h]) (fun h1=>⟨_,z3r (by omega),z0m fun _=>?_⟩)
 have h2:=hr h1
 rw[decide_eq_true h1,Bool.true_and]
 refine z1f (fun k s=>∃(i:Nat) (c:List Int),i+k=a.2.1.length/\s=((i:Int),(c,()))/\c.length=b.length/\zfk (a.2.1.drop i) (f.2.1.drop i) c=zfk a.2.1 f.2.1 b) ?_ ?_ (n:=a.2.1.length) ⟨0,b,by omega,rfl,rfl,by simp⟩
 . rintro s ⟨i,c,hi,rfl,hc,hf⟩ X
   obtain rfl:i=a.2.1.length:=by omega
   refine bcN ?_
   rw[<-hf];simp[zfk,h1]
 . rintro k s ⟨i,c,hi,rfl,hc,hf⟩ X hX
   have hlt:i<a.2.1.length:=by omega
   have hlt':i<f.2.1.length:=by omega
   rw[z56 hlt,z56 hlt']at hf
   have htr:=ht _ (List.getElem_mem hlt)
   refine bcI hlt (inI hlt (inI hlt' ?_))
   simp only
   rw[z2g hlt,z2g hlt',z06 (by omega)]
   rw[zjx]at hf
   refine z0e (fun h3=>?_) (fun h3=>?_)
   . rw[if_pos h3]at hf
     rw[z1s (by omega) (by omega)]
     refine z97 (fun h4=>?_) (fun h4=>?_)
     . rw[if_neg (fun h=>h4 h.symm)]at hf;rw[<-hf];simp
     . rw[if_pos h4.symm]at hf;exact hX _ ⟨i+1,c,by omega,rfl,hc,hf⟩
   . rw[if_neg h3]at hf
     have hin:a.2.1[i].toNat<c.length:=by omega
     refine⟨⟨by omega,by omega⟩,z4a (fun h4=>⟨⟨by omega,by omega⟩,?_⟩) (fun h4=>⟨⟨by omega,by omega⟩,z97 (fun h5=>?_) (fun h5=>?_)⟩)⟩
     . rw[if_pos (.inl h4)]at hf;exact hX _ ⟨i+1,_,by omega,rfl,by rw[List.length_set];exact hc,hf⟩
     . rw[if_neg (by rintro (h|h);exact h4 h;exact h5 h)]at hf;rw[<-hf];simp
     . rw[if_pos (.inr h5),z090 hin h5]at hf;exact hX _ ⟨i+1,c,by omega,rfl,hc,hf⟩)
def zg4 (fs:List z00) (w:List Int->List (List Int)) (a:z00) (b:List Int) (out:List (List Int)) (f:z00):List (List Int):=if a.1=f.1/\(zfk a.2.1 f.2.1 b).2=true then out++w (zfk a.2.1 f.2.1 b).1 else out
def zbs (fs:List z00):List z00->List Int->List (List Int)
 |[],b=>[b]
 |a::ats,b=>fs.foldl (zg4 fs (zbs fs ats) a b) []
structure WOk (fs ats:List z00):Prop where
 few:fs.length<=30
 row:∀ a∈ats,a.2.1.length<=3/\∀ t∈a.2.1,-10<=t/\t<5
 fit:∀ a∈ats,∀ f∈fs,a.1=f.1->a.2.1.length=f.2.1.length
theorem WOk.tail {fs ats:List z00} {a:z00} (h:WOk fs (a::ats)):WOk fs ats:=⟨h.few,fun x hx=>h.row x (by simp[hx]),fun x hx=>h.fit x (by simp[hx])⟩
theorem zq4 {fs ats:List z00} {a:z00} {b:List Int} {n:Nat} (hw:∀ c,(zbs fs ats c).length<=n) (out:List (List Int)) (f:z00):(zg4 fs (zbs fs ats) a b out f).length<=out.length+n:=by
 unfold zg4
 split
 . rw[List.length_append];have:=hw (zfk a.2.1 f.2.1 b).1;omega
 . omega
theorem zck {fs:List z00} (h:fs.length<=30):∀ {ats:List z00} {b:List Int},(zbs fs ats b).length<=30 ^ ats.length
 |[],b=>by simp[zbs]
 | a::ats,b=>by
   have:=zci (l:=fs) (g:=zg4 fs (zbs fs ats) a b) (s:=[]) (μ:=List.length) (c:=30 ^ ats.length) fun s f _=>zq4 (fun c=>zck h) s f
   simp only[List.length_nil,Nat.zero_add]at this
   rw[List.length_cons,Nat.pow_succ,Nat.mul_comm]
   exact Nat.le_trans this (Nat.mul_le_mul_right _ h)
theorem z08j {fs ats:List z00} {b c:List Int} (h:c∈zbs fs ats b):c.length=b.length:=by
 induction ats generalizing b c with
 |nil=>simp[zbs]at h;rw[h]
 | cons a ats ih=>
   have:∀(l:List z00) (out:List (List Int)),(∀ c∈out,c.length=b.length)->∀ c∈l.foldl (zg4 fs (zbs fs ats) a b) out,c.length=b.length:=by
    intro l
    induction l with
    |nil=>intro out ho;exact ho
    | cons f l ihl=>
      intro out ho
      rw[List.foldl_cons]
      refine ihl _ fun c hc=>?_
      unfold zg4 at hc
      split at hc
      . rcases List.mem_append.mp hc with hc|hc
        . exact ho c hc
        . rw[ih hc,zff]
      . exact ho c hc
   exact this fs [] (by simp) c h
def mOk (x:z02) (l:List z00):Bool:=l.all (z6u x.1)&&(z2r x&&decide (l.length<=3))
theorem zhc {x:z02} {l:List z00} (h:mOk x l=true):WOk x.2.1 l/\l.length<=3:=by
 unfold mOk at h
 simp only[Bool.and_eq_true,decide_eq_true_eq]at h
 obtain⟨h1,h2,h3⟩:=h
 refine⟨⟨z9u h2,fun a ha=>?_,fun a ha f hf he=>?_⟩,h3⟩
 . have:=z2v (List.all_eq_true.mp h1 a ha)
   exact⟨this.2.2.2.2.1,fun t ht=>by have:=inR_iff.mp (this.2.2.2.2.2 t ht);omega⟩
 . have e1:=z2v (List.all_eq_true.mp h1 a ha)
   have e2:=z2v (z6o h2 hf)
   have:=e1.2.2.2.1
   have:=e2.2.2.2.1
   rw[he]at *
   omega
def dedG (out:List (List Int)) (b:List Int):List (List Int):=if b∈out then out else out++[b]
def zbz (x:z02) (l:List z00):List (List Int):=if mOk x l then(zbs x.2.1 l z95).foldl dedG [] else[]
theorem zu9 (out:List (List Int)) (b:List Int):(dedG out b).length<=out.length+1:=by unfold dedG;split<;>simp
theorem z00w:∀ {l:List (List Int)} {out:List (List Int)} {b:List Int},b∈l.foldl dedG out->b∈out\/b∈l
 |[],out,b,h=>.inl h
 | c::l,out,b,h=>by
   rw[List.foldl_cons]at h
   rcases z00w h with h|h
   . unfold dedG at h
     split at h
     . exact .inl h
     . rcases List.mem_append.mp h with h|h
       . exact .inl h
       . simp at h;exact .inr (by simp[h])
   . exact .inr (by simp[h])
theorem z022 {x:z02} {l:List z00} {b:List Int} (h:b∈zbz x l):b.length=5:=by
 unfold zbz at h
 split at h
 . rcases z00w h with h|h
   . simp at h
   . rw[z08j h];rfl
 . simp at h
theorem zyx {n:Nat} (h:n<=3):30 ^ n<=27000:=Nat.le_trans (Nat.pow_le_pow_right (by omega) h) (by decide)
theorem zk8 {x:z02} {l:List z00}:(zbz x l).length<=27000:=by
 unfold zbz
 split
 . rename_i h
   have:=zci (l:=zbs x.2.1 l z95) (g:=dedG) (s:=[]) (μ:=List.length) (c:=1) fun s f _=>zu9 s f
   have h2:=zck (zhc h).1.few (ats:=l) (b:=z95)
   have:=zyx (zhc h).2
   simp at *
   omega
 . exact Nat.zero_le _
theorem z01f {x:z02} {l:List z00}:znr x l (mOk x l):=z07f _ _ _ (by
 unfold z00m
 refine z9i l (fun a=>!z6u x.1 a) (fun i=>((i:Int),())) (KT:=((false,()):Bool×Unit)=(mOk x l,())) (KF:=l.any (fun a=>!z6u x.1 a)=false) ?_ ?_ ?_ (fun h=>h)
 . intro i hi X h1 h2
   refine z0m fun _=>bcI hi (inI hi ⟨_,zd1,?_⟩)
   simp only
   rw[z2g hi,z06 (by omega)]
   exact z1w h1 h2
 . intro X h
   refine z0m fun _=>bcN ⟨_,z3w,?_⟩
   rw[z4i]at h
   refine z1w (fun h1=>z0m fun _=>?_) (fun h1=>?_)
   . unfold mOk;rw[nf h,h1];simp;omega
   . unfold mOk;rw[h1];simp
 . intro h
   rw[z4i]at h
   unfold mOk;rw[nt h];rfl)
theorem zgq {x:z02} {l:List z00}:z8i x l (mOk x l):=zpf _ _ _ (by
 unfold zh3
 refine⟨_,z3y,z1w (fun h1=>z0m fun _=>z4a (fun h2=>?_) (fun h2=>⟨_,zjk,?_⟩)) (fun h1=>by unfold mOk;rw[h1];simp)⟩
 . have:l=[]:=List.eq_nil_of_length_eq_zero (by omega)
   unfold mOk;rw[this,h1];rfl
 . have:mOk x l=(inR l.length 1 3&&l.all (z6u x.1)):=by
    unfold mOk
    rw[h1,Bool.true_and,Bool.and_comm]
    congr 1
    have h0:1<=l.length:=by omega
    unfold inR
    rw[decide_eq_true (show(1:Int)<=(l.length:Int) by omega),Bool.true_and]
    exact decide_eq_decide.mpr (by omega)
   rw[this])
theorem zm3 {x:z02} {l:List z00} (h:WOk x.2.1 l) (hl:l.length<=3):∀(k n:Nat) (b:List Int),n+k=l.length->b.length=5->zdr x l n b (zbs x.2.1 (l.drop n) b)
 | 0,n,b,hn,hb=>zsv _ _ _ _ _ (by
   unfold zmn
   obtain rfl:n=l.length:=by omega
   refine z0m fun _=>z4a (fun _=>⟨by simp only[z1p,List.length_nil];omega,by rw[List.drop_length];rfl⟩) (fun h=>absurd rfl h))
 | k+1,n,b,hn,hb=>zsv _ _ _ _ _ (by
   unfold zmn
   have hlt:n<l.length:=by omega
   refine z0m fun _=>z4a (fun h=>by omega) (fun _=>?_)
   rw[z56 hlt]
   have hrow:=h.row _ (List.getElem_mem hlt)
   refine z3a x.2.1 (zg4 x.2.1 (zbs x.2.1 (l.drop (n+1))) l[n] b) [] (fun i s=>((i:Int),(s,()))) List.length 27000 30 h.few (fun s f _=>zq4 (fun c=>Nat.le_trans (zck h.few) (zyx (by rw[List.length_drop];omega))) s f) ?_ ?_
   . intro i hi s X hs hX
     have hfew:=h.few
     refine z0m fun _=>bcI hi (inI hlt (inI hi ⟨_,_,z04p (a:=l.getD (Int.toNat (n:Int)) z09) (f:=x.2.1.getD (Int.toNat (i:Int)) z09) (b:=b) ?_ (by omega) ?_,?_⟩))
     . rw[z2g hlt];omega
     . rw[z2g hlt];intro t ht;have:=hrow.2 t ht;omega
     . simp only
       rw[z2g hlt,z2g hi,z06 (by omega),z06 (by omega)]
       have hfit:=h.fit _ (List.getElem_mem hlt) _ (List.getElem_mem hi)
       unfold zg4 at hX
       by_cases hc:l[n].1=x.2.1[i].1
       . rw[if_pos ⟨hc,hfit hc⟩,decide_eq_true (And.intro hc (hfit hc)),Bool.true_and]
         refine z1w (fun h4=>⟨_,zm3 h hl k (n+1) _ (by omega) (by rw[zff];exact hb),?_,?_⟩) (fun h4=>?_)
         . have h5:(zbs x.2.1 (l.drop (n+1)) (zfk l[n].2.1 x.2.1[i].2.1 b).1).length<=27000:=Nat.le_trans (zck h.few) (zyx (by rw[List.length_drop];omega))
           simp only[z1p,List.length_nil]at *
           omega
         . rw[if_pos ⟨hc,h4⟩]at hX;exact hX
         . rw[if_neg (by rintro⟨_,h5⟩;rw[h4]at h5;cases h5)]at hX;exact hX
       . rw[if_neg (fun h=>hc h.1),decide_eq_false (fun h=>hc h.1),Bool.false_and]
         rw[if_neg (fun h=>hc h.1)]at hX
         exact bcF hX
   . intro X _
     exact z0m fun _=>bcN rfl)
theorem zlt {fs:List z00}:∀ {l:List z00} (b:List Int),WOk fs l->l.length<=3->b.length=5->zdq fs l b (zbs fs l b)
 |[],b,h,hl,hb=>zs9 _ _ _ _ (by unfold zlq;exact z0m fun _=>bcT rfl)
 | a::l,b,h,hl,hb=>zs9 _ _ _ _ (by
   unfold zlq
   have hrow:=h.row a (by simp)
   refine z0m fun _=>z4a (fun h=>by simp at h;omega) (fun _=>z0m fun _=>?_)
   have hd:List.drop (Int.toNat (1:Int)) (List.take (Int.toNat ((a::l).length:Int)) (a::l))=l:=by rw[Int.toNat_natCast,List.take_length];rfl
   rw[hd]
   refine z3a fs (zg4 fs (zbs fs l) a b) [] (fun i s=>((i:Int),(s,()))) List.length 27000 30 h.few (fun s f _=>zq4 (fun c=>Nat.le_trans (zck h.few) (zyx (by simp at hl;omega))) s f) ?_ ?_
   . intro i hi s X hs hX
     have hfew:=h.few
     refine bcI hi (inI hi ⟨⟨by omega,by simp only[List.length_cons];omega⟩,_,_,z0bh (a:=a) (f:=fs.getD (Int.toNat (i:Int)) z09) (b:=b) (by omega) (by omega) (fun t ht=>by have:=hrow.2 t ht;omega) ?_,?_⟩)
     . rw[z2g hi];exact h.fit a (by simp) _ (List.getElem_mem hi)
     . simp only
       rw[z2g hi,z06 (by omega)]
       unfold zg4 at hX
       by_cases hc:a.1=fs[i].1
       . rw[decide_eq_true hc,Bool.true_and]
         refine z1w (fun h4=>⟨⟨by omega,by simp;omega,by omega⟩,_,zlt _ h.tail (by simp at hl;omega) (by rw[if_pos ⟨hc,h4⟩,zff];exact hb),?_,?_⟩) (fun h4=>?_)
         . have h5:∀ c,(zbs fs l c).length<=27000:=fun c=>Nat.le_trans (zck h.few) (zyx (by simp at hl;omega))
           have:=h5 (if a.1=fs[i].1/\(zfk a.2.1 fs[i].2.1 b).2=true then(zfk a.2.1 fs[i].2.1 b).1 else[])
           simp only[z1p,List.length_nil]at *
           omega
         . rw[if_pos ⟨hc,h4⟩]at hX ⊢;exact hX
         . rw[if_neg (by rintro⟨_,h5⟩;rw[h4]at h5;cases h5)]at hX;exact hX
       . rw[decide_eq_false hc,Bool.false_and]
         rw[if_neg (fun h=>hc h.1)]at hX
         exact bcF hX
   . intro X _
     exact bcN rfl)
theorem zu1 {l:List (List Int)} {b:List Int}:zeh l b (decide (b∈l)):=ztv _ _ _ (by
 unfold zkl
 refine⟨_,z5a (fun t=>decide (t=b)) (fun t _=>zpl _ _ _ ⟨_,zlc,rfl⟩),?_⟩
 have:(l.any fun t=>decide (t=b))=decide (b∈l):=by
  rw[<-zqm]
  congr 1;funext t
  by_cases h:t=b
  . simp[h]
  . have:¬ b=t:=fun e=>h e.symm
    simp[h,this]
 rw[this])
def mkd {α:Type} (w:List α) (i:Nat):List (Bool×α):=(w.take i).map (fun y=>(false,y))++(w.drop i).map (fun y=>(true,y))
theorem zz9 {α:Type} {w:List α} {i:Nat}:(mkd w i).length=w.length:=by
 unfold mkd
 rw[List.length_append,List.length_map,List.length_map,<-List.length_append,List.take_append_drop]
theorem zzk {α:Type} {w:List α} {i:Nat} (h:i<w.length) {d:Bool×α}:List.getD (mkd w i) i d=(true,w[i]):=by
 have hl:((w.take i).map (fun y=>(false,y))).length=i:=by simp;omega
 unfold mkd
 rw[List.getD_eq_getElem?_getD,List.getElem?_append_right (by omega),hl,Nat.sub_self,List.getElem?_map,List.getElem?_drop,Nat.add_zero,List.getElem?_eq_getElem h]
 rfl
theorem zzd {α:Type} {w:List α} {i:Nat} (h:i<w.length):List.set (mkd w i) i (false,w[i])=mkd w (i+1):=by
 have hl:((w.take i).map (fun y=>(false,y))).length=i:=by simp;omega
 unfold mkd
 rw[List.set_append,hl,if_neg (by omega),Nat.sub_self,List.drop_eq_getElem_cons h,List.map_cons,List.set_cons_zero,z08 h,List.map_append,List.append_assoc]
 rfl
theorem zqv {x:z02} {l:List z00}:zdb x l (zbz x l):=zrm _ _ _ (by
 unfold zit
 refine⟨_,zgq,z0p (fun h=>by unfold zbz;rw[h];rfl) (fun h=>?_)⟩
 obtain⟨hw,hl⟩:=zhc h
 refine⟨_,zlz,_,zlt z95 hw hl rfl,z0m fun _=>?_⟩
 have hlen:(zbs x.2.1 l z95).length<=27000:=Nat.le_trans (zck hw.few) (zyx hl)
 unfold zbz
 rw[h,if_pos rfl]
 rw[show List.map (fun y=>(true,y)) (zbs x.2.1 l z95)=mkd (zbs x.2.1 l z95) 0 from rfl]
 refine z3a (zbs x.2.1 l z95) dedG [] (fun i s=>((i:Int),(s,(mkd (zbs x.2.1 l z95) i,())))) List.length 1 27000 hlen (fun s f _=>zu9 s f) ?_ ?_
 . intro i hi s X hs hX
   refine bcI hi (inI (by rw[zz9];exact hi) ?_)
   simp only[Int.toNat_natCast]
   rw[zzk hi]
   refine⟨rfl,_,zu1,?_⟩
   simp only
   rw[zzd hi,z06 (by omega)]
   unfold dedG at hX
   refine z0av (fun h4=>⟨by simp only[z1p,List.length_nil,List.length_cons]at *;omega,?_⟩) (fun h4=>?_)
   . rw[if_neg h4]at hX;exact hX
   . rw[if_pos h4]at hX;exact hX
 . intro X _
   exact bcN rfl)
theorem zru {x:z02} {l:List z00}:zd7 x l (zbz x l):=zr2 _ _ _ (by
 unfold zj9
 refine⟨_,z01f,z0p (fun h=>by unfold zbz;rw[h];rfl) (fun h=>?_)⟩
 obtain⟨hw,hl⟩:=zhc h
 refine⟨_,zz0,_,zm3 hw hl l.length 0 z95 (by omega) rfl,?_⟩
 rw[List.drop_zero]
 have hlen:(zbs x.2.1 l z95).length<=27000:=Nat.le_trans (zck hw.few) (zyx hl)
 unfold zbz
 rw[h,if_pos rfl]
 refine z3a (zbs x.2.1 l z95) dedG [] (fun i s=>((i:Int),(s,(zbs x.2.1 l z95,())))) List.length 1 27000 hlen (fun s f _=>zu9 s f) ?_ ?_
 . intro i hi s X hs hX
   refine z0m fun _=>bcI hi ?_
   simp only
   rw[z06 (by omega)]
   refine zhu s (fun(m:Bool) c=>m||decide (c=(zbs x.2.1 l z95)[i])) false (fun j m=>(m,((j:Int),()))) ?_ ?_
   . intro j hj Y hY
     refine z0m fun _=>bcI hj ?_
     simp only
     rw[z06 (by simp at hs;omega)]
     generalize (s.take j).foldl (fun(m:Bool) c=>m||decide (c=(zbs x.2.1 l z95)[i])) false=m at hY ⊢
     cases m with
     |true=>exact bcT hY
     | false=>
       refine bcF (inI hj (inI hi ⟨_,zx7,?_⟩))
       rw[z2g hj,z2g hi]
       have:(zib s[j] (zbs x.2.1 l z95)[i] == (0:Int))=decide (s[j]=(zbs x.2.1 l z95)[i]):=by
        by_cases he:s[j]=(zbs x.2.1 l z95)[i]
        . rw[cmpL_zero.mpr he];simp[he]
        . have:zib s[j] (zbs x.2.1 l z95)[i]≠0:=fun e=>he (cmpL_zero.mp e)
          simp[he,this]
       rw[this];simpa using hY
   . intro Y
     refine z0m fun _=>bcN ?_
     simp only
     have hm:∀(s:List (List Int)) (m:Bool),s.foldl (fun(m:Bool) c=>m||decide (c=(zbs x.2.1 l z95)[i])) m=(m||decide ((zbs x.2.1 l z95)[i]∈s)):=by
      intro s
      induction s with
      |nil=>intro m;simp
      | cons c s ih=>
        intro m
        rw[List.foldl_cons,ih,Bool.or_assoc]
        congr 1
        by_cases he:c=(zbs x.2.1 l z95)[i]
        . simp[he]
        . have:¬ (zbs x.2.1 l z95)[i]=c:=fun e=>he e.symm
          simp[he,this]
     rw[hm,Bool.false_or]
     unfold dedG at hX
     refine z0av (fun h4=>inI hi ⟨by simp only[z1p,List.length_nil,List.length_cons]at *;omega,?_⟩) (fun h4=>?_)
     . rw[z2g hi];rw[if_neg h4]at hX;exact hX
     . rw[if_pos h4]at hX;exact hX
 . intro X _
   exact z0m fun _=>bcN rfl)
def z039 (b:List Int) (t:Int):Option Int:=if 0<=t then(if (b.length:Int)<=t then none else if zga (b.getD t.toNat 0)then some (b.getD t.toNat 0)else none)else(if zga (-1 - t)then some (-1 - t)else none)
def zg1 (b:List Int) (s:List Int) (t:Int):Unit ⊕ List Int:=match z039 b t with
 |none=>.inl ()
 |some v=>.inr (s++[v])
def zdg (a:z00) (b:List Int):z00:=match zbw (zg1 b) a.2.1 []with
 |.inl _=>z09
 |.inr s=>(a.1,(s,()))
def z4z (a:z00) (b:List Int):Bool:=match zbw (zg1 b) a.2.1 []with
 |.inl _=>false
 |.inr _=>true
theorem zky {b:List Int}:∀ {l:List Int} {s s':List Int},zbw (zg1 b) l s = .inr s'->s'.length=s.length+l.length
 |[],s,s',h=>by simp only[zbw,Sum.inr.injEq]at h;subst h;simp
 | t::l,s,s',h=>by
   simp only[zbw]at h
   unfold zg1 at h
   cases e:z039 b t with
   |none=>rw[e]at h;simp at h
   | some v=>
     rw[e]at h
     have:=zky (b:=b) (l:=l) h
     simp at this ⊢
     omega
theorem zuj {a:z00} {b:List Int}:(zdg a b).2.1.length<=a.2.1.length:=by
 unfold zdg
 cases e:zbw (zg1 b) a.2.1 []with
 |inl _=>simp
 |inr s=>have:=zky e;simp at this ⊢;omega
theorem z03g {a:z00} {b:List Int} {r:Unit} (h:zbw (zg1 b) a.2.1 [] = .inl r):((z09,(false,())):z00×Bool×Unit)=(zdg a b,(z4z a b,())):=by unfold zdg z4z;rw[h]
theorem z003 {a:z00} {b s:List Int} (h:zbw (zg1 b) a.2.1 [] = .inr s):(((a.1,(s,())),(true,())):z00×Bool×Unit)=(zdg a b,(z4z a b,())):=by unfold zdg z4z;rw[h]
theorem ziu {a:z00} {b:List Int} (hl:a.2.1.length<=1000) (hb:b.length<=1000) (ht:∀ t∈a.2.1,-10<=t/\t<5):z9h a b (zdg a b) (z4z a b):=zrp _ _ _ _ (by
 unfold zir
 refine z0m fun _=>zo3 a.2.1 (zg1 b) [] (fun i s=>((i:Int),(z09,((a.1,(s,())),())))) (KR:=fun _=>((z09,(false,())):z00×Bool×Unit)=(zdg a b,(z4z a b,()))) ?_ ?_ (fun r hr=>z03g hr)
 . intro i hi s X hr h1 h2
   have hs:=zky hr
   have htr:=ht _ (List.getElem_mem hi)
   refine bcI hi (inI hi ?_)
   simp only
   rw[z2g hi,z06 (by omega)]
   unfold zg1 z039 at h1 h2
   rw[List.length_take,List.length_nil]at hs
   refine z0e (fun h3=>z0m fun _=>z0e (fun h4=>?_) (fun h4=>⟨⟨by omega,by omega⟩,_,z6b,z0p (fun h5=>?_) (fun h5=>⟨by simp only[z1p,List.length_cons,List.length_nil];omega,?_⟩)⟩)) (fun h3=>⟨_,z6b,?_⟩)
   . exact h1 () (by rw[if_pos (by omega),if_pos (by omega)])
   . exact h1 () (by rw[if_pos (by omega),if_neg (by omega),h5];rfl)
   . exact h2 _ (by rw[if_pos (by omega),if_neg (by omega),h5];rfl)
   . rw[z1s (by omega) (by omega)]
     refine z0p (fun h5=>?_) (fun h5=>⟨by simp only[z1p,List.length_cons,List.length_nil];omega,?_⟩)
     . exact h1 () (by rw[if_neg (by omega),h5];rfl)
     . exact h2 _ (by rw[if_neg (by omega),h5];rfl)
 . intro s X hr
   exact bcN (z003 hr))
theorem zj6 {a:z00} {b:List Int} (hl:a.2.1.length<=1000) (hb:b.length<=1000) (ht:∀ t∈a.2.1,-10<=t/\t<5):z9j a b (zdg a b) (z4z a b):=zro _ _ _ _ (by
 unfold zj3
 refine zo3 a.2.1 (zg1 b) [] (fun i s=>((i:Int),(z09,((a.1,(s,())),())))) (KR:=fun _=>((z09,(false,())):z00×Bool×Unit)=(zdg a b,(z4z a b,()))) ?_ ?_ (fun r hr=>z03g hr)
 . intro i hi s X hr h1 h2
   have hs:=zky hr
   have htr:=ht _ (List.getElem_mem hi)
   refine z0m fun _=>bcI hi (inI hi (inI hi ?_))
   simp only
   rw[z2g hi,z06 (by omega)]
   unfold zg1 z039 at h1 h2
   rw[List.length_take,List.length_nil]at hs
   refine z0e (fun h3=>inI hi (z0m fun _=>z0e (fun h4=>?_) (fun h4=>inI hi ⟨⟨by omega,by omega⟩,_,z5v,z0p (fun h5=>?_) (fun h5=>inI hi (z0e (fun h6=>by omega) (fun h6=>⟨by simp only[z1p,List.length_cons,List.length_nil];omega,?_⟩)))⟩))) (fun h3=>⟨_,z5v,?_⟩)
   . exact h1 () (by rw[if_pos (by omega),if_pos (by omega)])
   . exact h1 () (by rw[if_pos (by omega),if_neg (by omega),h5];rfl)
   . exact h2 _ (by rw[if_pos (by omega),if_neg (by omega),h5];rfl)
   . rw[z1s (by omega) (by omega)]
     refine z0p (fun h5=>?_) (fun h5=>inI hi (z0e (fun _=>z0e (fun h6=>by omega) (fun _=>⟨by simp only[z1p,List.length_cons,List.length_nil];omega,?_⟩)) (fun h6=>by omega)))
     . exact h1 () (by rw[if_neg (by omega),h5];rfl)
     . exact h2 _ (by rw[if_neg (by omega),h5];rfl)
 . intro s X hr
   exact z0m fun _=>bcN (z003 hr))
theorem zwx {k:Int} (h0:0<=k) (h1:k<=1000000):zgp k (-1 - k):=zwj _ _ (by unfold zmt;rw[z1s (by omega) (by omega)])
theorem zgk {k:Int} (h0:0<=k) (h1:k<=1000000):za1 k (-1 - k):=zwe _ _ (by unfold zmv;rw[z1s (by omega) (by omega)])
theorem z06d {α:Type} [BEq α] [LawfulBEq α] [DecidableEq α] {l:List α} {b:α}:(l.any fun t=>decide (t=b))=decide (b∈l):=by
 rw[<-zqm]
 congr 1;funext t
 by_cases h:t=b
 . simp[h]
 . have:¬ b=t:=fun e=>h e.symm
   simp[h,this]
theorem z032 {l:List z00} {f:z00}:zmf l f (decide (f∈l)):=z025 _ _ _ (by
 unfold zsj
 refine⟨_,z5y (fun t=>decide (t=f)) (fun t _=>zwy _ _ _ ⟨_,zjr,rfl⟩),?_⟩
 rw[z06d])
def place (l:List z00) (f:z00):Int:=if z05 (fun x=>decide (x=f)) l<l.length then(z05 (fun x=>decide (x=f)) l:Int)else -1
theorem z000 {l:List z00} {f:z00}:decide (place l f>=0)=decide (f∈l):=by
 have:=zkh (fun x=>decide (x=f)) l
 rw[z06d]at this
 exact this
theorem z0ba {x f:z00}:(z81 x f == (0:Int))=decide (x=f):=by
 by_cases h:x=f
 . rw[cmpF_zero.mpr h];simp[h]
 . have:z81 x f≠0:=fun e=>h (cmpF_zero.mp e)
   simp[h,this]
theorem ztb {x:z02} {f:z00}:zhx x f (place x.2.1 f):=z01u _ _ _ (by
 unfold zt3
 refine z9d x.2.1 (fun t=>decide (t=f)) (fun i=>((i:Int),())) (KT:=fun i=>(((i:Int),()):Int×Unit)=(place x.2.1 f,())) (KF:=(((-1:Int),()):Int×Unit)=(place x.2.1 f,())) ?_ ?_ ?_ ?_
 . intro i hi X h1 h2
   refine z0m fun _=>bcI hi (inI hi ⟨_,zbm,?_⟩)
   simp only
   rw[z2g hi,z0ba,z06 (by omega)]
   exact z1w h1 h2
 . intro X h;exact z0m fun _=>bcN h
 . intro h;unfold place;rw[if_pos h]
 . intro h;unfold place;rw[if_neg (by omega)])
theorem zt5:∀ {x y z:List Int},zib x y<0->zib y z<0->zib x z<0
 |[],[],z,h,_=>by simp[zib]at h
 |[],b::y,[],_,h=>by simp[zib]at h
 |[],b::y,c::z,_,_=>by simp[zib]
 |a::x,[],z,h,_=>by simp[zib]at h
 |a::x,b::y,[],_,h=>by simp[zib]at h
 | a::x,b::y,c::z,h1,h2=>by
   simp only[zib]at h1 h2 ⊢
   have ih:=zt5 (x:=x) (y:=y) (z:=z)
   split at h1
   . split at h2
     . rw[if_pos (by omega)];omega
     . split at h2
       . omega
       . rw[if_pos (by omega)];omega
   . split at h1
     . omega
     . split at h2
       . rw[if_pos (by omega)];omega
       . split at h2
         . omega
         . rw[if_neg (by omega),if_neg (by omega)];exact ih h1 h2
theorem zb0 {x y z:z00} (h1:z81 x y<0) (h2:z81 y z<0):z81 x z<0:=by
 unfold z81 at *
 split at h1
 . split at h2
   . rw[if_pos (by omega)];omega
   . split at h2
     . omega
     . rw[if_pos (by omega)];omega
 . split at h1
   . omega
   . split at h2
     . rw[if_pos (by omega)];omega
     . split at h2
       . omega
       . rw[if_neg (by omega),if_neg (by omega)];exact zt5 h1 h2
def asc (l:List z00):Prop:=∀ i j (hj:j<l.length) (hij:i<j),z81 (l[i]'(by omega)) l[j]<0
theorem z03y {x:z02} (h:z2r x=true):asc x.2.1:=by
 have step:∀ i (hi:i+1<x.2.1.length),z81 (x.2.1[i]'(by omega)) x.2.1[i+1]<0:=by
  intro i hi
  unfold z2r at h
  simp only[Bool.and_eq_true]at h
  have:=List.all_eq_true.mp h.2 (i+1) (by simpa using hi)
  unfold z7a at this
  simp only[Bool.and_eq_true]at this
  have:=this.1.2
  rw[show(i+1 == 0)=false by simp,Bool.false_or]at this
  have h:=of_decide_eq_true this
  rw[Nat.add_sub_cancel,z24 (by omega),z24 hi]at h
  exact h
 have all:∀ k i (hk:i+1+k<x.2.1.length),z81 (x.2.1[i]'(by omega)) x.2.1[i+1+k]<0:=by
  intro k
  induction k with
  |zero=>intro i hk;exact step i hk
  |succ k ih=>intro i hk;exact zb0 (ih i (by omega)) (step (i+1+k) hk)
 intro i j hj hij
 obtain⟨k,rfl⟩:∃ k,j=i+1+k:=⟨j - i - 1,by omega⟩
 exact all k i hj
theorem zs7 {α β:Type} (f:α->β):∀(l:List α) (s:List β),l.foldl (fun out a=>out++[f a]) s=s++l.map f
 |[],s=>by simp
 |a::l,s=>by rw[List.foldl_cons,zs7 f l];simp
theorem zod {σ τ:Type} {B:(τ->Prop)->τ->Prop} (n:Nat) (g:σ->Nat->σ) (s0:σ) (e:Nat->σ->τ) (μ:σ->Nat) (c N:Nat) (hN:n<=N) (hg:∀ s i,i<n->μ (g s i)<=μ s+c)
  (hs:∀ i (_:i<n) (s:σ) (X:τ->Prop),μ s<=μ s0+N * c->X (e (i+1) (g s i))->B X (e i s))
  (hf:∀ X:τ->Prop,μ ((List.range n).foldl g s0)<=μ s0+N * c->B X (e n ((List.range n).foldl g s0))):z0l B (e 0 s0):=
 z3a (List.range n) g s0 e μ c N (by simpa using hN) (fun s a ha=>hg s a (List.mem_range.mp ha)) (fun i h s X hs' hX=>hs i (by simpa using h) s X hs' (by simpa using hX)) (fun X h=>by simpa using hf X h)
theorem z05q {f:z00}:∀ {l:List z00},f∈l->f.2.1.length<=(l.flatMap (·.2.1)).length
 | a::l,h=>by
   rw[List.flatMap_cons,List.length_append]
   rcases List.mem_cons.mp h with rfl|h
   . omega
   . have:=z05q h;omega
theorem zpj {x:z02} (h:z2r x=true) {f:z00} (hf:f∈x.2.1):f.2.1.length<=1099511627776:=by
 have:=zsd h
 have:=z05q hf
 omega
theorem ze4 {x:z02} (h1:x.1.length<=1099511627776) (hl:x.2.1.length<=1073741824) (h:∀ f∈x.2.1,f.2.1.length<=1099511627776):z9w x x:=z04l _ _ (by
 unfold zvu
 refine⟨by simp only[z1p,List.length_nil];omega,?_⟩
 rw[List.nil_append]
 refine zwk x.2.1 (fun i s=>((i:Int),((x.1,(s,())),()))) hl ?_ ?_
 . intro i hi s X hs hX
   refine z0m fun _=>bcI hi (inI hi ⟨x.2.1[i],?_,⟨by simp only[z1p,List.length_cons,List.length_nil];omega,?_⟩⟩)
   . simp only;rw[z2g hi];exact zov (h _ (List.getElem_mem hi))
   . simp only;rw[z06 (by omega)];exact hX
 . intro X;exact z0m fun _=>bcN rfl)
theorem z65 {x:z02} (h1:x.1.length<=1099511627776) (hl:x.2.1.length<=1073741824) (h:∀ f∈x.2.1,f.2.1.length<=1099511627776):z1o x x:=zqh _ _ (by
 unfold zhn
 exact⟨_,zek h1,_,zms hl h,rfl⟩)
def iAt (l:List Int) (i:Nat):Int:=l.getD i 0
theorem z4r {l:List Int} {i:Nat} (h:i<l.length):iAt l i=l[i]:=z8q h
theorem zvn:∀ {x y:List Int},zib y x = - zib x y
 |[],[]=>rfl
 |[],b::y=>rfl
 |a::x,[]=>rfl
 | a::x,b::y=>by
   simp only[zib]
   have:=zvn (x:=x) (y:=y)
   split<;>split<;>first|omega|(rw[this])|skip
theorem z8c {x y:z00}:z81 y x = - z81 x y:=by
 unfold z81
 have:=zvn (x:=x.2.1) (y:=y.2.1)
 split<;>split<;>first|omega|(rw[this])|skip
theorem asc_pw {l:List z00}:asc l↔l.Pairwise fun a b=>z81 a b<0:=by
 rw[List.pairwise_iff_getElem]
 exact⟨fun h i j hi hj hij=>h i j hj hij,fun h i j hj hij=>h i j (by omega) hj hij⟩
theorem z0a3:∀ {a b:List z00},(a.Pairwise fun a b=>z81 a b<0)->(b.Pairwise fun a b=>z81 a b<0)->(∀ y,y∈a↔y∈b)->a=b
 |[],[],_,_,_=>rfl
 |[],b::m,_,_,h=>absurd ((h b).mpr (by simp)) (by simp)
 |a::l,[],_,_,h=>absurd ((h a).mp (by simp)) (by simp)
 | a::l,b::m,h1,h2,h=>by
   rw[List.pairwise_cons]at h1 h2
   have hab:a=b:=by
    have ha:=(h a).mp (by simp)
    have hb:=(h b).mpr (by simp)
    rcases List.mem_cons.mp ha with e|ha
    . exact e
    . rcases List.mem_cons.mp hb with e|hb
      . exact e.symm
      . have q1:=h2.1 a ha
        have q2:=h1.1 b hb
        rw[z8c]at q1
        omega
   subst hab
   congr 1
   refine z0a3 h1.2 h2.2 fun y=>⟨fun hy=>?_,fun hy=>?_⟩
   . rcases List.mem_cons.mp ((h y).mp (by simp[hy]))with e|h'
     . subst e;have:=h1.1 y hy;rw[cmpF_zero.mpr rfl]at this;omega
     . exact h'
   . rcases List.mem_cons.mp ((h y).mpr (by simp[hy]))with e|h'
     . subst e;have:=h2.1 y hy;rw[cmpF_zero.mpr rfl]at this;omega
     . exact h'
theorem z0aw {a b:List z00} (h1:asc a) (h2:asc b) (h:∀ y,y∈a↔y∈b):a=b:=z0a3 (asc_pw.mp h1) (asc_pw.mp h2) h
def zta (l:List z00) (f:z00):Nat:=z05 (fun t=>!decide (z81 t f<0)) l
def znq (l:List z00) (f:z00):List z00:=if f∈l then l else l.take (zta l f)++f::l.drop (zta l f)
theorem putF_mem {l:List z00} {f y:z00}:y∈znq l f↔y∈l\/y=f:=by
 unfold znq
 split
 . rename_i h
   exact⟨.inl,fun h'=>h'.elim id fun e=>e ▸ h⟩
 . have:y∈l↔y∈l.take (zta l f)\/y∈l.drop (zta l f):=by rw[<-List.mem_append,List.take_append_drop]
   rw[this,List.mem_append,List.mem_cons]
   constructor
   . rintro (h|h|h)
     . exact .inl (.inl h)
     . exact .inr h
     . exact .inl (.inr h)
   . rintro ((h|h)|h)
     . exact .inl h
     . exact .inr (.inr h)
     . exact .inr (.inl h)
theorem z00t {l:List z00} {f:z00}:(znq l f).length<=l.length+1:=by
 unfold znq
 split
 . omega
 . simp only[List.length_append,List.length_cons,List.length_take,List.length_drop];omega
theorem z089 {l:List z00} {f:z00} (h:asc l):asc (znq l f):=by
 unfold znq
 split
 . exact h
 rename_i hn
 have hp:=asc_pw.mp h
 rw[asc_pw]
 have e:l=l.take (zta l f)++l.drop (zta l f):=(List.take_append_drop _ _).symm
 rw[e]at hp
 rw[List.pairwise_append]at hp ⊢
 have h1:∀ a∈l.take (zta l f),z81 a f<0:=by
  intro a ha
  obtain⟨i,hi,rfl⟩:=List.mem_iff_getElem.mp ha
  rw[List.length_take]at hi
  have:=ze3 (p:=fun t=>!decide (z81 t f<0)) (l:=l) (i:=i) (by omega) (show i<zta l f by omega)
  rw[List.getElem_take]
  simpa using this
 have h2:∀ a∈l.drop (zta l f),z81 f a<0:=by
  intro a ha
  have hin:zta l f<l.length:=by
   rcases Nat.lt_or_ge (zta l f) l.length with h'|h'
   . exact h'
   . rw[List.drop_of_length_le h']at ha;simp at ha
  have h3:z81 f l[zta l f]<0:=by
   have h4:=zaz (p:=fun t=>!decide (z81 t f<0)) (l:=l) hin
   have h4:¬ z81 l[zta l f] f<0:=by have h4:(!decide (z81 l[zta l f] f<0))=true:=h4;simpa using h4
   have h5:z81 l[zta l f] f≠0:=fun e=>hn ((cmpF_zero.mp e) ▸ List.getElem_mem hin)
   rw[z8c];omega
  obtain⟨i,hi,rfl⟩:=List.mem_iff_getElem.mp ha
  rw[List.getElem_drop]
  rcases Nat.eq_zero_or_pos i with rfl|h0
  . simpa using h3
  . rw[List.length_drop]at hi
    exact zb0 h3 (h _ _ (by omega) (by omega))
 refine⟨hp.1,List.pairwise_cons.mpr ⟨h2,hp.2.1⟩,fun a ha b hb=>?_⟩
 rcases List.mem_cons.mp hb with rfl|hb
 . exact h1 a ha
 . exact hp.2.2 a ha b hb
def ztj (l:List z00):List z00:=l.foldl znq []
theorem zot:∀ {l m:List z00},asc m->asc (l.foldl znq m)
 |[],m,h=>h
 |a::l,m,h=>zot (l:=l) (z089 h)
theorem zpt:∀ {l m:List z00} {y:z00},y∈l.foldl znq m↔y∈m\/y∈l
 |[],m,y=>by simp
 | a::l,m,y=>by
   rw[List.foldl_cons,zpt (l:=l),putF_mem,List.mem_cons]
   constructor
   . rintro ((h|h)|h)
     . exact .inl h
     . exact .inr (.inl h)
     . exact .inr (.inr h)
   . rintro (h|h|h)
     . exact .inl (.inl h)
     . exact .inl (.inr h)
     . exact .inr h
theorem zp9:∀ {l m:List z00},(l.foldl znq m).length<=m.length+l.length
 |[],m=>by simp
 | a::l,m=>by
   have:=zp9 (l:=l) (m:=znq m a)
   have:=z00t (l:=m) (f:=a)
   rw[List.foldl_cons,List.length_cons];omega
theorem z05p:asc []:=fun i j hj _=>by simp at hj
theorem zuv (l:List z00):asc (ztj l):=zot z05p
theorem facS_mem {l:List z00} {y:z00}:y∈ztj l↔y∈l:=by unfold ztj;rw[zpt];simp
theorem z059 {a l:List z00} (h1:asc a) (h2:∀ y,y∈a↔y∈l):a=ztj l:=z0aw h1 (zuv l) fun y=>by rw[h2,facS_mem]
theorem z09e {l m:List z00} (h:asc l):m.foldl znq l=ztj (l++m):=z059 (zot h) fun y=>by rw[zpt,List.mem_append]
theorem z01g {l:List z00}:(ztj l).length<=l.length:=by have:=zp9 (l:=l) (m:=[]);simpa [ztj]using this
def ddF (l:List z00):Nat->List z00
 |0=>[]
 |n+1=>if n=0\/zcq l n≠zcq l (n - 1)then ddF l n++[zcq l n] else ddF l n
theorem z06g {l:List z00} (hs:l.Pairwise fun a b=>z81 a b<=0):∀ {n:Nat},n<=l.length->asc (ddF l n)/\∀ y,y∈ddF l n↔y∈l.take n
 |0,_=>⟨z05p,fun y=>by simp[ddF]⟩
 | n+1,h=>by
   obtain⟨h1,h2⟩:=z06g hs (n:=n) (by omega)
   have hn:n<l.length:=by omega
   unfold ddF
   rw[z08 hn,z24 hn]
   have hle:∀ i j (hj:j<l.length) (hij:i<j),z81 (l[i]'(by omega)) l[j]<=0:=fun i j hj hij=>List.pairwise_iff_getElem.mp hs i j (by omega) hj hij
   split
   . rename_i hc
     refine⟨?_,fun y=>by rw[List.mem_append,List.mem_append,h2]⟩
     rw[asc_pw,List.pairwise_append]
     refine⟨asc_pw.mp h1,by simp,fun a ha b hb=>?_⟩
     obtain rfl:b=l[n]:=by simpa using hb
     obtain⟨i,hi,rfl⟩:=List.mem_iff_getElem.mp ((h2 a).mp ha)
     rw[List.length_take]at hi
     rw[List.getElem_take]
     rcases hc with hc|hc
     . omega
     . rw[z24 (by omega)]at hc
       have g1:=hle (n - 1) n hn (by omega)
       have g2:z81 l[n - 1] l[n]≠0:=fun e=>hc (cmpF_zero.mp e).symm
       rcases Nat.lt_or_ge i (n - 1)with h'|h'
       . have g3:=hle i (n - 1) (by omega) h'
         by_cases h0:z81 l[i] l[n - 1]=0
         . rw[cmpF_zero.mp h0];omega
         . exact zb0 (by omega:z81 l[i] l[n - 1]<0) (by omega)
       . have:i=n - 1:=by omega
         subst this;omega
   . rename_i hc
     refine⟨h1,fun y=>?_⟩
     rw[h2,List.mem_append]
     refine⟨.inl,fun h'=>h'.elim id fun e=>?_⟩
     have h0:n≠0:=fun e=>hc (.inl e)
     have he:l[n]=zcq l (n - 1):=Classical.byContradiction fun h=>hc (.inr h)
     rw[z24 (by omega)]at he
     have:y=l[n - 1]:=by simpa [he]using e
     subst this
     exact List.mem_iff_getElem.mpr ⟨n - 1,by rw[List.length_take];omega,by rw[List.getElem_take]⟩
def zg9 (s:zah) (i:Nat):Bool:=inR (iAt s.1 i) 0 39&&(i == 0||decide (iAt s.1 (i - 1)<iAt s.1 i))&&zga (iAt s.2.1 i)
def zgb (s:zah):Bool:=(s.1.length == s.2.1.length)&&(List.range s.1.length).all (zg9 s)
theorem zzx {s:zah} (h:zgb s=true):s.1.length=s.2.1.length:=by unfold zgb at h;simp only[Bool.and_eq_true,beq_iff_eq]at h;exact h.1
theorem z051 {s:zah} (h:zgb s=true) {i:Nat} (hi:i<s.1.length):zg9 s i=true:=by
 unfold zgb at h
 rw[Bool.and_eq_true]at h
 exact List.all_eq_true.mp h.2 i (List.mem_range.mpr hi)
theorem z01e {s:zah} (h:zgb s=true) {k:Int} (hk:k∈s.1):0<=k/\k<=39:=by
 obtain⟨i,hi,rfl⟩:=List.mem_iff_getElem.mp hk
 have:=z051 h hi
 unfold zg9 at this
 rw[z4r hi]at this
 simp only[Bool.and_eq_true]at this
 exact inR_iff.mp this.1.1
theorem z06i {s:zah} {i:Nat} (hi:i<s.1.length) (h:zg9 s i=false):zgb s=false:=by
 rw[Bool.eq_false_iff]
 intro h'
 rw[z051 h' hi]at h;cases h
theorem ztq {s:zah} (hl:s.1.length=s.2.1.length) (h:∀ i,i<s.1.length->zg9 s i=true):zgb s=true:=by
 unfold zgb
 rw[List.all_eq_true.mpr fun i hi=>h i (List.mem_range.mp hi)]
 simp[hl]
def zon (s:zah) (v:Int):Int:=if zgb s then(if z05 (fun k=>decide (-1 - k=v)) s.1<s.1.length then iAt s.2.1 (z05 (fun k=>decide (-1 - k=v)) s.1)else v)else v
def zo9 (s:zah) (f:z00):z00:=(f.1,(f.2.1.map (zon s),()))
def subI (s:zah) (x:z02):z02:=(x.1,(ztj (x.2.1.map (zo9 s)),()))
def ztg (s:zah) (x:z02):z02:=if zgb s&&z2r x then subI s x else([],([],()))
theorem z00h {s:zah} {x:z02}:(subI s x).2.1.length<=x.2.1.length:=by
 unfold subI
 have:=z01g (l:=x.2.1.map (zo9 s))
 simpa using this
theorem zf1 {s:zah} {i:Nat} (hi:i<s.1.length) (h1:inR s.1[i] 0 39=true) (h2:0<i->iAt s.1 (i - 1)<s.1[i]):zg9 s i=zga (iAt s.2.1 i):=by
 unfold zg9
 rw[z4r hi,h1]
 have:(i == 0||decide (iAt s.1 (i - 1)<s.1[i]))=true:=by
  rcases Nat.eq_zero_or_pos i with h|h
  . simp[h]
  . rw[decide_eq_true (h2 h)];simp
 rw[this];rfl
theorem zvv {s:zah} {i:Nat} (hi:i<s.1.length) (h:inR s.1[i] 0 39=false):zg9 s i=false:=by
 unfold zg9;rw[z4r hi,h];rfl
theorem zvl {s:zah} {i:Nat} (hi:i<s.1.length) (h0:0<i) (h:s.1[i]<=s.1[i - 1]):zg9 s i=false:=by
 unfold zg9
 rw[z4r hi,z4r (by omega),decide_eq_false (by omega)]
 have:(i == 0)=false:=by simp;omega
 rw[this];simp
theorem z92 {s:zah}:z3g s (zgb s):=zg5 _ _ (by
 unfold z8y
 have no:zgb s=false->((false,()):Bool×Unit)=(zgb s,()):=fun h=>by rw[h]
 refine z0m fun _=>z0m fun _=>z97 (fun h=>no (by unfold zgb;rw[beq_eq_false_iff_ne.mpr (by omega)];rfl)) (fun hl=>?_)
 have hl:s.1.length=s.2.1.length:=by omega
 refine z7f s.1.length (fun i=>!zg9 s i) (fun i=>((i:Int),())) (KT:=zgb s=false) (KF:=zgb s=true) ?_ ?_ ?_ ?_
 . intro i hi X hb q1 q2
   have qn:zg9 s i=false->((false,()):Bool×Unit)=(zgb s,()):=fun h=>no (q1 (by rw[h];rfl))
   have qy:zg9 s i=true->X (((i+1:Nat):Int),()):=fun h=>q2 (by rw[h];rfl)
   have hi':i<s.2.1.length:=by omega
   refine z0m fun hlen=>bcI hi (inI hi ⟨_,z6d,?_⟩)
   simp only
   rw[z2g hi,z06 (by omega)]
   refine z0p (fun h=>qn (zvv hi h)) (fun h1=>z0e (fun h0=>?_) (fun h0=>inI hi' ⟨_,z5v,?_⟩))
   . have hw:w64 ((i:Int) - 1)=((i - 1:Nat):Int):=by rw[z1s (by omega) (by omega)];omega
     have hj:i - 1<s.1.length:=by omega
     rw[hw]
     refine inI hi (inI hj ?_)
     rw[z2g hj]
     refine z0e (fun h=>qn (zvl hi (by omega) h)) (fun h=>inI hi' ⟨_,z5v,?_⟩)
     rw[z2g hi']
     have e:=zf1 hi h1 (fun _=>by rw[z4r hj];omega)
     rw[z4r hi']at e
     exact z0p (fun h=>qn (e.trans h)) (fun h=>qy (e.trans h))
   . rw[z2g hi']
     have e:=zf1 hi h1 (fun _=>by omega)
     rw[z4r hi']at e
     exact z0p (fun h=>qn (e.trans h)) (fun h=>qy (e.trans h))
 . intro X h
   exact z0m fun _=>bcN (by rw[h])
 . rintro⟨i,hi,hp⟩;exact z06i hi (nt hp)
 . intro h;exact ztq hl fun i hi=>nf (h i hi))
theorem z8z {s:zah}:z3e s (zgb s):=zg3 _ _ (by
 unfold z8x
 have no:zgb s=false->((false,()):Bool×Unit)=(zgb s,()):=fun h=>by rw[h]
 refine z0m fun _=>z0m fun _=>z97 (fun h=>no (by unfold zgb;rw[beq_eq_false_iff_ne.mpr (by omega)];rfl)) (fun hl=>z0m fun _=>?_)
 have hl:s.1.length=s.2.1.length:=by omega
 refine z7f s.1.length (fun i=>!zg9 s i) (fun i=>((i:Int),())) (KT:=zgb s=false) (KF:=zgb s=true) ?_ ?_ ?_ ?_
 . intro i hi X hb q1 q2
   have qn:zg9 s i=false->((false,()):Bool×Unit)=(zgb s,()):=fun h=>no (q1 (by rw[h];rfl))
   have qy:zg9 s i=true->X (((i+1:Nat):Int),()):=fun h=>q2 (by rw[h];rfl)
   have hi':i<s.2.1.length:=by omega
   refine bcI hi (inI hi ⟨_,z8f,?_⟩)
   simp only
   rw[z2g hi,z06 (by omega)]
   refine z0p (fun h=>qn (zvv hi h)) (fun h1=>z0e (fun h0=>?_) (fun h0=>inI hi' ⟨_,z6b,?_⟩))
   . have hw:w64 ((i:Int) - 1)=((i - 1:Nat):Int):=by rw[z1s (by omega) (by omega)];omega
     have hj:i - 1<s.1.length:=by omega
     rw[hw]
     refine inI hj ?_
     rw[z2g hj]
     refine z0e (fun h=>qn (zvl hi (by omega) h)) (fun h=>inI hi' ⟨_,z6b,?_⟩)
     rw[z2g hi']
     have e:=zf1 hi h1 (fun _=>by rw[z4r hj];omega)
     rw[z4r hi']at e
     exact z0p (fun h=>qn (e.trans h)) (fun h=>qy (e.trans h))
   . rw[z2g hi']
     have e:=zf1 hi h1 (fun _=>by omega)
     rw[z4r hi']at e
     exact z0p (fun h=>qn (e.trans h)) (fun h=>qy (e.trans h))
 . intro X h
   exact bcN (by rw[h])
 . rintro⟨i,hi,hp⟩;exact z06i hi (nt hp)
 . intro h;exact ztq hl fun i hi=>nf (h i hi))
theorem zpu {s:zah} {v:Int} (h:zgb s=false):zon s v=v:=by unfold zon;rw[h];rfl
theorem zpm {s:zah} {v:Int}:zbc s v (zon s v):=zou _ _ _ (by
 unfold zgl
 refine z9d s.1 (fun k=>decide (-1 - k=v)) (fun i=>((i:Int),())) (KT:=fun i=>zgb s=true->((iAt s.2.1 i,()):Int×Unit)=(zon s v,())) (KF:=zgb s=true->((v,()):Int×Unit)=(zon s v,())) ?_ ?_ ?_ ?_
 . intro i hi X h1 h2
   refine z0m fun _=>bcI hi ⟨_,z92,z1w (fun hv=>inI hi ⟨-1 - s.1[i],?_,?_⟩) (fun hv=>by rw[zpu hv])⟩
   . simp only
     rw[z2g hi]
     have:=z01e hv (List.getElem_mem hi)
     exact zgk (by omega) (by omega)
   . simp only
     rw[z06 (by omega)]
     have hl:=zzx hv
     have hi':i<s.2.1.length:=by omega
     refine z4a (fun h=>inI hi' ?_) (fun h=>h2 (decide_eq_false h))
     rw[z2g hi',<-z4r hi']
     exact h1 (decide_eq_true h) hv
 . intro X h
   refine z0m fun _=>bcN ?_
   by_cases hv:zgb s=true
   . exact h hv
   . rw[zpu (by simpa using hv)]
 . intro h hv;unfold zon;rw[hv,if_pos rfl,if_pos h]
 . intro h hv;unfold zon;rw[hv,if_pos rfl,if_neg (by omega)])
theorem zk3 {α:Type} {p q:α->Bool}:∀ {l:List α},(∀ a∈l,p a=q a)->z05 p l=z05 q l
 |[],_=>rfl
 | a::l,h=>by
   unfold z05
   rw[h a (by simp),zk3 (l:=l) fun b hb=>h b (by simp[hb])]
theorem zp2 {s:zah} {v:Int}:zbp s v (zon s v):=zpr _ _ _ (by
 unfold zh1
 refine⟨_,_,zap,_,zc0,z0p (fun hn=>?_) (fun hn=>?_)⟩
 . by_cases hv:zgb s=true
   . unfold zon
     rw[hv,if_pos rfl,if_neg]
     intro h
     have:=zaz h
     simp only[decide_eq_true_eq]at this
     have h2:=z01e hv (List.getElem_mem h)
     rw[isNul_iff.mpr ⟨by omega,by omega⟩]at hn;cases hn
   . rw[zpu (by simpa using hv)]
 . have hk:z6p v = -1 - v:=by unfold z6p;rw[if_pos hn]
   have e:z05 (fun k=>decide (-1 - k=v)) s.1=z05 (fun t=>z6p v == t) s.1:=zk3 fun k _=>by
    rw[hk,Bool.eq_iff_iff];simp;omega
   refine z0e (fun h=>?_) (fun h=>⟨_,z8z,z0p (fun hv=>by rw[zpu hv]) (fun hv=>?_)⟩)
   . by_cases hv:zgb s=true
     . unfold zon
       rw[hv,if_pos rfl,e]
       rw[if_neg]
       intro h'
       rw[if_pos h']at h
       omega
     . rw[zpu (by simpa using hv)]
   . have hl:=zzx hv
     have hlt:z05 (fun t=>z6p v == t) s.1<s.1.length:=by
      rcases Nat.lt_or_ge (z05 (fun t=>z6p v == t) s.1) s.1.length with h'|h'
      . exact h'
      . rw[if_neg (by omega)]at h;omega
     have hlt2:z05 (fun t=>z6p v == t) s.1<s.2.1.length:=by omega
     rw[if_pos hlt]
     refine inI hlt2 ?_
     rw[z2g hlt2,<-z4r hlt2]
     unfold zon
     rw[hv,if_pos rfl,e,if_pos hlt])
theorem zrj {s:zah} {f:z00} (hl:f.2.1.length<=1000):zd2 s f (zo9 s f):=zrf _ _ _ (by
 unfold zj4
 refine z0x f.2.1.length (fun i=>((i:Int),((f.1,((f.2.1.take i).map (zon s),())),()))) (by simp) ?_ ?_
 . intro i hi X hX
   refine z0m fun _=>bcI hi (inI hi ⟨_,zpm,?_,?_⟩)
   . simp only[z1p,List.length_map,List.length_take,List.length_cons,List.length_nil];omega
   . simp only
     rw[z2g hi,z06 (by omega)]
     rw[z08 hi,List.map_append]at hX
     exact hX
 . intro X
   refine z0m fun _=>bcN ?_
   simp only[List.take_length]
   rfl)
theorem z060 {α:Type} {g:α->α} {l:List α} {i:Nat} (hi:i<l.length):((l.take i).map g++l.drop i).set i (g l[i])=(l.take (i+1)).map g++l.drop (i+1):=by
 have h:((l.take i).map g).length=i:=by simp;omega
 rw[List.set_append,if_neg (by omega),h,Nat.sub_self,z56 hi,List.set_cons_zero,z08 hi,List.map_append,List.append_assoc];rfl
theorem zqy {s:zah} {f:z00} (hl:f.2.1.length<=1000):zcx s f (zo9 s f):=zrq _ _ _ (by
 unfold ziv
 refine⟨f,zoo (by omega),z0m fun _=>?_⟩
 refine z0x f.2.1.length (fun i=>((i:Int),((f.1,((f.2.1.take i).map (zon s)++f.2.1.drop i,())),()))) (by simp) ?_ ?_
 . intro i hi X hX
   refine bcI hi (inI hi ⟨_,zp2,⟨by omega,?_⟩,?_⟩)
   . simp only[List.length_append,List.length_map,List.length_take,List.length_drop];omega
   . simp only
     rw[z2g hi,z06 (by omega),Int.toNat_natCast,z060 hi]
     exact hX
 . intro X
   refine bcN ?_
   simp only[List.take_length,List.drop_length,List.append_nil]
   rfl)
theorem ztr {x:z02} {f:z00} (h1:x.2.1.length<=1000) (h2:f.2.1.length<=1000):zl6 x f (x.1,(znq x.2.1 f,())):=z08p _ _ _ (by
 unfold zzv
 refine⟨_,ztb,?_⟩
 rw[z000]
 refine z0e (fun h=>by unfold znq;rw[if_pos h]) (fun hn=>?_)
 have hle:zta x.2.1 f<=x.2.1.length:=zhz _ _
 have key:∀ i:Nat,i=zta x.2.1 f->((0:Int)<=(i:Int)/\(i:Int)<=(x.2.1.length:Int)/\(x.2.1.length:Int)<=(x.2.1.length:Int))/\((([f]:List z00)).length+(List.drop (Int.toNat (i:Int)) (List.take (Int.toNat (x.2.1.length:Int)) x.2.1)).length<=z1p)/\
   (([]:List z00)++List.drop (Int.toNat (0:Int)) (List.take (Int.toNat (i:Int)) x.2.1))++([f]++List.drop (Int.toNat (i:Int)) (List.take (Int.toNat (x.2.1.length:Int)) x.2.1))=znq x.2.1 f/\
   ([]:List z00).length+(List.drop (Int.toNat (0:Int)) (List.take (Int.toNat (i:Int)) x.2.1)).length<=z1p/\
   (([]:List z00)++List.drop (Int.toNat (0:Int)) (List.take (Int.toNat (i:Int)) x.2.1)).length+([f]++List.drop (Int.toNat (i:Int)) (List.take (Int.toNat (x.2.1.length:Int)) x.2.1)).length<=z1p:=by
  rintro i rfl
  simp only[Int.toNat_natCast,Int.toNat_zero,List.drop_zero,List.nil_append,List.take_length,z1p,List.length_cons,List.length_nil,List.length_append,List.length_drop,List.length_take]
  refine⟨⟨by omega,by omega,by omega⟩,by omega,?_,by omega,by omega⟩
  unfold znq
  rw[if_neg hn];rfl
 refine z9d x.2.1 (fun t=>!decide (z81 t f<0)) (fun i=>((i:Int),())) (KT:=fun i=>i=zta x.2.1 f) (KF:=zta x.2.1 f=x.2.1.length) ?_ ?_ (fun _=>rfl) (fun h=>by unfold zta;have:=zhz (fun t=>!decide (z81 t f<0)) x.2.1;omega)
 . intro i hi X q1 q2
   refine z0m fun _=>bcI hi (inI hi ⟨_,zbm,?_⟩)
   simp only
   rw[z2g hi,z06 (by omega)]
   refine z0e (fun h=>q2 (by rw[decide_eq_true h];rfl)) (fun h=>?_)
   obtain⟨k1,k2,k3,k4,k5⟩:=key i (q1 (by rw[decide_eq_false h];rfl))
   refine⟨k1,f,zov (by omega),k2,⟨by omega,by omega,by omega⟩,k4,k5,?_⟩
   show((x.1,((([]:List z00)++List.drop (Int.toNat (0:Int)) (List.take (Int.toNat (i:Int)) x.2.1))++([f]++List.drop (Int.toNat (i:Int)) (List.take (Int.toNat (x.2.1.length:Int)) x.2.1)),())),())=((x.1,(znq x.2.1 f,())),())
   rw[k3]
 . intro X h
   obtain⟨k1,k2,k3,k4,k5⟩:=key x.2.1.length h.symm
   refine z0m fun _=>bcN ⟨k1,f,zov (by omega),k2,⟨by omega,by simp only;omega,by simp only;omega⟩,k4,k5,?_⟩
   show((x.1,((([]:List z00)++List.drop (Int.toNat (0:Int)) (List.take (Int.toNat (x.2.1.length:Int)) x.2.1))++([f]++List.drop (Int.toNat (x.2.1.length:Int)) (List.take (Int.toNat (x.2.1.length:Int)) x.2.1)),())),())=((x.1,(znq x.2.1 f,())),())
   rw[k3])
theorem zcl {s:zah} {x:z02}:z5m s x (ztg s x) (zgb s&&z2r x):=zkg _ _ _ _ (by
 unfold zcf
 refine⟨_,z92,z0p (fun h=>by unfold ztg;rw[h];rfl) (fun h1=>⟨_,z3w,z0p (fun h=>by unfold ztg;rw[h1,h];rfl) (fun h2=>?_)⟩)⟩
 have hr:=zbl (z99 h2)
 have hf:=z9u h2
 refine⟨by simp only[z1p,List.length_nil];omega,?_⟩
 rw[List.nil_append]
 have hlen:∀ i,((x.2.1.take i).map (zo9 s)).foldl znq []=ztj ((x.2.1.take i).map (zo9 s)):=fun i=>rfl
 have hfl:∀ i,(ztj ((x.2.1.take i).map (zo9 s))).length<=30:=fun i=>by
  have:=z01g (l:=(x.2.1.take i).map (zo9 s))
  rw[List.length_map,List.length_take]at this
  omega
 have hrow:∀ f∈x.2.1,(zo9 s f).2.1.length<=3:=fun f hm=>by
  have:=(z2v (z6o h2 hm)).2.2.2.2.1
  unfold zo9;simpa using this
 refine z0x x.2.1.length (fun i=>((i:Int),((x.1,(ztj ((x.2.1.take i).map (zo9 s)),())),()))) (by simp[ztj]) ?_ ?_
 . intro i hi X hX
   have:=hfl i
   have h3:=hrow _ (List.getElem_mem hi)
   have h4:=(z2v (z6o h2 (List.getElem_mem hi))).2.2.2.2.1
   refine z0m fun _=>bcI hi (inI hi ⟨zo9 s x.2.1[i],?_,_,ztr (by simp only;omega) (by simp only;omega),?_⟩)
   . simp only;rw[z2g hi];exact zrj (by omega)
   . simp only
     rw[z06 (by omega)]
     rw[z08 hi,List.map_append]at hX
     unfold ztj at hX ⊢
     rw[List.foldl_append]at hX
     exact hX
 . intro X
   have h5:=hfl x.2.1.length
   refine z0m fun _=>bcN ⟨_,ze4 (by simp only;omega) (by simp only;omega) (fun f hm=>?_),?_⟩
   . have hm:f∈ztj ((x.2.1.take x.2.1.length).map (zo9 s)):=hm
     obtain⟨g,hg,rfl⟩:=List.mem_map.mp (facS_mem.mp hm)
     have:=hrow g (List.mem_of_mem_take hg)
     omega
   . simp only[List.take_length]
     unfold ztg subI
     rw[h1,h2];rfl)
theorem zya {x:z02}:zjm x (z2s x):=zza _ _ (by
 unfold zog
 have hf:=z00z x
 refine⟨_,zk7,z0m fun _=>z4a (fun h=>?_) (fun h=>z0m fun _=>?_)⟩
 . have:zf4 x=[]:=List.length_eq_zero_iff.mp (by omega)
   unfold z2s;rw[this];rfl
 . have hw:w64 ((zf4 x).length - 1:Int)=(((zf4 x).length - 1:Nat):Int):=by rw[z1s (by omega) (by omega)];omega
   rw[hw]
   have hlt:(zf4 x).length - 1<(zf4 x).length:=by omega
   refine inI hlt ?_
   rw[z2g hlt]
   have hne:zf4 x≠[]:=by intro e;rw[e]at h;simp at h
   have hr:0<=(zf4 x)[(zf4 x).length - 1]/\(zf4 x)[(zf4 x).length - 1]<0+(40:Nat):=by
    have:=zf5 (l:=x.2.1.flatMap (·.2.1)) ((zf4 x)[(zf4 x).length - 1]) (by rw[zb2];exact List.getElem_mem hlt)
    exact this
   rw[z1s (by omega) (by omega)]
   unfold z2s
   rw[List.getLast?_eq_some_getLast hne,List.getLast_eq_getElem])
abbrev zTF:zlf z00:=zTk (z0d (.pair (.int .i64) (.pair (.sl 3 (.int .i64)) .unit))) z09
def tkAt (l:List (zlf z00)) (i:Nat):zlf z00:=l.getD i zTF
theorem zic {l:List (zlf z00)} {i:Nat} (h:i<l.length):tkAt l i=l[i]:=z8q h
def ddT (l:List (zlf z00)):Nat->List (zlf z00)
 |0=>[]
 |n+1=>if n=0\/(tkAt l n).2≠(tkAt l (n - 1)).2 then ddT l n++[tkAt l n] else ddT l n
theorem ztw {l:List (zlf z00)}:∀ {n:Nat},n<=l.length->(∀ i,1<=i->i<n->(tkAt l i).2≠(tkAt l (i - 1)).2)->ddT l n=l.take n
 |0,_,_=>by simp[ddT]
 | n+1,h,hi=>by
   unfold ddT
   rw[ztw (n:=n) (by omega) fun i h1 h2=>hi i h1 (by omega),z08 (by omega)]
   rw[if_pos,zic (by omega)]
   rcases Nat.eq_zero_or_pos n with h0|h0
   . exact .inl h0
   . exact .inr (hi n (by omega) (by omega))
theorem z06p {l:List (zlf z00)}:∀ {n:Nat},n<=l.length->(ddT l n).Sublist (l.take n)
 |0,_=>by simp[ddT]
 | n+1,h=>by
   have:=z06p (l:=l) (n:=n) (by omega)
   unfold ddT
   rw[z08 (by omega)]
   split
   . rw[zic (by omega)];exact this.append_right _
   . exact this.trans (List.sublist_append_left _ _)
theorem zzt {l:List (zlf z00)} {i:Nat}:zcq (l.map (·.2)) i=(tkAt l i).2:=by
 unfold zcq tkAt
 rw[List.getD_eq_getElem?_getD,List.getD_eq_getElem?_getD,List.getElem?_map]
 cases l[i]?<;>rfl
theorem zyy {l:List (zlf z00)}:∀ {n:Nat},(ddT l n).map (·.2)=ddF (l.map (·.2)) n
 |0=>rfl
 | n+1=>by
   unfold ddT ddF
   rw[zzt,zzt]
   split
   . rw[List.map_append,zyy];rfl
   . exact zyy
theorem z0bm {l:List (zlf z00)} (hl:l.length<=1000):z1i l () (ddT l l.length):=z5k _ _ _ (by
 unfold z2k
 refine z0m fun _=>z0e (fun h=>?_) (fun h=>?_)
 . rw[ztw (Nat.le_refl _) (fun i h1 h2=>by omega),List.take_length]
 refine z1f (fun k a=>∃ i:Nat,i+k=l.length/\1<=i/\a=((i:Int),(l,()))/\∀ j,1<=j->j<i->(tkAt l j).2≠(tkAt l (j - 1)).2) ?_ ?_ (n:=l.length - 1) ⟨1,by omega,by omega,rfl,fun j h1 h2=>by omega⟩
 . rintro a ⟨i,hi,h1,rfl,hn⟩ X
   obtain rfl:i=l.length:=by omega
   refine z0m fun _=>bcN ?_
   rw[ztw (Nat.le_refl _) hn,List.take_length]
 . rintro k a ⟨i,hi,h1,rfl,hn⟩ X hX
   have hlt:i<l.length:=by omega
   have hw:w64 ((i:Int) - 1)=((i - 1:Nat):Int):=by rw[z1s (by omega) (by omega)];omega
   have hj:i - 1<l.length:=by omega
   refine z0m fun _=>bcI hlt (inI hlt ?_)
   simp only
   rw[hw]
   refine inI hj ⟨_,zgm _ _ _ zjr,?_⟩
   rw[z2g hlt,z2g hj,z06 (by omega)]
   refine z0e (fun h=>?_) (fun h=>hX _ ⟨i+1,by omega,by omega,rfl,fun j q1 q2=>?_⟩)
   . refine⟨⟨by omega,by omega,by omega,by omega⟩,?_⟩
     have hbase:ddT l (i+1)=l.take i:=by
      unfold ddT
      rw[if_neg,ztw (by omega) hn]
      rw[zic hlt,zic hj,h]
      rintro (h|h)
      . omega
      . exact h rfl
     simp only[Int.toNat_natCast]
     refine z1f (fun k a=>∃(p q:Nat) (L:List (zlf z00)),q+k=l.length - i/\1<=q/\a=((p:Int),((q:Int),(L,())))/\L.length=l.length/\p+1<=i+q/\L.take p=ddT l (i+q)/\L.drop (i+q - 1)=l.drop (i+q - 1)) ?_ ?_ (n:=l.length - i - 1) ⟨i,1,l,by omega,by omega,rfl,rfl,by omega,hbase.symm,rfl⟩
     . rintro a ⟨p,q,L,hq,hq1,rfl,hL,hp,e1,e2⟩ Y
       obtain rfl:q=l.length - i:=by omega
       rw[show i+(l.length - i)=l.length by omega]at e1
       have ht:(L.take p).length=p:=by rw[List.length_take];omega
       refine z0m fun _=>bcN ⟨⟨by omega,by simp only;omega,by omega,by simp only;omega⟩,by simp only[Int.toNat_natCast];omega,⟨by omega,by omega,?_,?_⟩,?_⟩
       . simp only[List.length_append,Int.toNat_natCast,ht];omega
       . simp only[List.length_append,List.length_replicate,Int.toNat_natCast,ht];omega
       . rw[Int.toNat_natCast,List.take_left' ht,e1]
     . rintro k a ⟨p,q,L,hq,hq1,rfl,hL,hp,e1,e2⟩ Y hY
       have hlq:i+q<l.length:=by omega
       have hg:∀ j,i+q - 1<=j->j<l.length->L.getD j zTF=tkAt l j:=by
        intro j g1 g2
        have e3:=congrArg (fun m=>m.getD (j - (i+q - 1)) zTF) e2
        simp only[List.getD_eq_getElem?_getD,List.getElem?_drop]at e3
        rw[show i+q - 1+(j - (i+q - 1))=j by omega]at e3
        unfold tkAt
        simpa [List.getD_eq_getElem?_getD]using e3
       have hwq:w64 ((q:Int) - 1)=((q - 1:Nat):Int):=by rw[z1s (by omega) (by omega)];omega
       have hdd:L.drop (i+q)=l.drop (i+q):=by
        have:=congrArg (List.drop 1) e2
        rw[List.drop_drop,List.drop_drop,show i+q - 1+1=i+q by omega]at this
        exact this
       refine z0m fun _=>bcI (by omega) (inI (by omega) ?_)
       simp only
       rw[hwq]
       refine inI (by omega) ⟨_,zgm _ _ _ zjr,?_⟩
       rw[Int.toNat_natCast,Int.toNat_natCast,hg (i+q) (by omega) hlq,show i+(q - 1)=i+q - 1 by omega,hg (i+q - 1) (by omega) (by omega),z06 (by omega),z06 (by omega)]
       refine z0av (fun h5=>inI (by omega) ⟨⟨by omega,by omega⟩,?_⟩) (fun h5=>?_)
       . refine hY _ ⟨p+1,q+1,_,by omega,by omega,rfl,by rw[List.length_set];exact hL,by omega,?_,?_⟩
         . rw[show i+(q+1)=(i+q)+1 by omega]
           unfold ddT
           rw[if_pos (.inr h5),<-e1,Int.toNat_natCast,List.take_set,z08 (show p<L.length by omega),List.set_append]
           simp[List.length_take,Nat.min_eq_left (show p<=L.length by omega)]
         . rw[show i+(q+1) - 1=i+q by omega,<-hdd,Int.toNat_natCast,List.drop_set_of_lt (by omega)]
       . refine hY _ ⟨p,q+1,L,by omega,by omega,rfl,hL,by omega,?_,by rw[show i+(q+1) - 1=i+q by omega];exact hdd⟩
         rw[show i+(q+1)=(i+q)+1 by omega]
         unfold ddT
         rw[if_neg,e1]
         rintro (h6|h6)
         . omega
         . exact h6 h5
   . by_cases hji:j=i
     . subst hji;rw[zic hlt,zic hj];exact h
     . exact hn j q1 (by omega))
theorem z097 {l:List z00} (hl:l.length<=1000):z15 l () (ddF l l.length):=z41 _ _ _ fun xs hx=>by
 subst hx
 rw[List.length_map]at hl ⊢
 refine⟨ddT xs xs.length,?_,zyy,z0bm hl⟩
 have:=z06p (l:=xs) (Nat.le_refl _)
 rwa [List.take_length]at this
theorem zwp {v:Int}:zjz v (decide (v<0)):=z064 _ _ (by unfold zwg;rfl)
theorem ltF {x y:z00}:Go.Proofs.ltOf z81 x y=decide (z81 x y<0):=rfl
theorem swoF:Go.Sort.SWO (Go.Proofs.ltOf z81):=by
 refine⟨fun x=>?_,fun x y z h1 h2=>?_,fun x y z h1 h2=>?_⟩
 . rw[ltF,cmpF_zero.mpr rfl];rfl
 . rw[ltF,decide_eq_true_eq]at h1 h2 ⊢;exact zb0 h1 h2
 . rw[ltF,decide_eq_false_iff_not]at h1 h2 ⊢
   intro h3
   by_cases h4:z81 x y=0
   . obtain rfl:=cmpF_zero.mp h4
     exact h2 h3
   . have h5:z81 y x<0:=by rw[z8c];omega
     exact h2 (zb0 h5 h3)
theorem totF {x y:z00} (h1:Go.Proofs.ltOf z81 x y=false) (h2:Go.Proofs.ltOf z81 y x=false):x=y:=by
 rw[ltF,decide_eq_false_iff_not]at h1 h2
 rw[z8c]at h2
 exact cmpF_zero.mp (by omega)
theorem z09o {l:List z00} (h:l.length<=1000):z0w l () (zb8 z81 l):=z01k (fun a b=>zba) swoF (fun _ _=>totF) (by omega)
theorem z09i (l:List z00):(zb8 z81 l).Pairwise fun a b=>z81 a b<=0:=by
 have:=List.pairwise_mergeSort (le:=fun a b=>!(decide (z81 b a<0))) (fun a b c h1 h2=>by
  simp only[Bool.not_eq_true',decide_eq_false_iff_not]at h1 h2 ⊢
  intro h3
  rw[z8c]at h1 h2
  by_cases h4:z81 a b=0
  . rw[cmpF_zero.mp h4]at h3;rw[z8c]at h3;omega
  . have:=zb0 h3 (by omega:z81 a b<0);rw[z8c]at this;omega) (fun a b=>by
  rw[z8c (x:=a) (y:=b)]
  simp
  omega) l
 refine List.Pairwise.imp (fun h=>?_) this
 simp only[Bool.not_eq_true',decide_eq_false_iff_not]at h
 rw[z8c]at h;omega
theorem z0b2 {l:List z00}:ddF (zb8 z81 l) l.length=ztj l:=by
 have hl:(zb8 z81 l).length=l.length:=by simp[zb8]
 obtain⟨h1,h2⟩:=z06g (z09i l) (n:=l.length) (by omega)
 refine z059 h1 fun y=>?_
 rw[h2,List.take_of_length_le (by omega)]
 simp[zb8]
theorem zph {l:List z00} (hl:l.length<=1000) (h:∀ f∈l,f.2.1.length<=1000):zfd l (ztj l):=zyd _ _ (by
 unfold zoy
 have hs:(zb8 z81 l).length=l.length:=by simp[zb8]
 refine⟨l,zms (by omega) (fun f hf=>by have:=h f hf;omega),_,z09o hl,_,z097 (by omega),?_⟩
 rw[hs,z0b2])
theorem zc7 {s:zah} {x:z02}:z5o s x (ztg s x) (zgb s&&z2r x):=zkz _ _ _ _ (by
 unfold zcn
 refine⟨_,z8z,z0p (fun h=>by unfold ztg;rw[h];rfl) (fun h1=>⟨_,z3y,z0p (fun h=>by unfold ztg;rw[h1,h];rfl) (fun h2=>?_)⟩)⟩
 have hr:=zbl (z99 h2)
 have hf:=z9u h2
 have hrow:∀ f∈x.2.1,f.2.1.length<=3:=fun f hm=>(z2v (z6o h2 hm)).2.2.2.2.1
 refine⟨x,z65 (by omega) (by omega) (fun f hf=>zpj h2 hf),z0m fun _=>?_⟩
 refine z0x x.2.1.length (fun i=>((i:Int),((x.1,((x.2.1.take i).map (zo9 s)++x.2.1.drop i,())),()))) (by simp) ?_ ?_
 . intro i hi X hX
   have h3:=hrow _ (List.getElem_mem hi)
   refine bcI hi (inI hi ⟨zo9 s x.2.1[i],?_,⟨by omega,?_⟩,?_⟩)
   . simp only;rw[z2g hi];exact zqy (by omega)
   . simp only[List.length_append,List.length_map,List.length_take,List.length_drop];omega
   . simp only
     rw[z06 (by omega),Int.toNat_natCast]
     show X (((i+1:Nat):Int),((x.1,(((x.2.1.take i).map (zo9 s)++x.2.1.drop i).set i (zo9 s x.2.1[i]),())),()))
     rw[z060 hi]
     exact hX
 . intro X
   refine bcN ⟨_,zph ?_ (fun f hm=>?_),?_⟩
   . simp only[List.take_length,List.drop_length,List.append_nil,List.length_map];omega
   . simp only[List.take_length,List.drop_length,List.append_nil]at hm
     obtain⟨g,hg,rfl⟩:=List.mem_map.mp hm
     have:=hrow g hg
     unfold zo9
     simp only[List.length_map];omega
   . simp only[List.take_length,List.drop_length,List.append_nil]
     unfold ztg subI
     rw[h1,h2];rfl)
theorem z02f {x:z02} {a b:Int} (h1:x.1.length<=1099511627776) (hl:x.2.1.length<=1073741824) (h:∀ f∈x.2.1,f.2.1.length<=1099511627776) :
  zmc x a b (if 0<=a/\0<=b then x else ztg ([z6p (zji a b)],([zni a b],())) x) (if 0<=a/\0<=b then 2 else 1):=z02d _ _ _ _ _ (by
 unfold zs4
 refine⟨_,zwp,z0p (fun ha=>⟨_,zwp,z0p (fun hb=>?_) (fun hb=>?_)⟩) (fun ha=>?_)⟩
 . simp only[decide_eq_false_iff_not]at ha hb
   rw[if_pos ⟨by omega,by omega⟩,if_pos ⟨by omega,by omega⟩]
   exact⟨_,z65 h1 hl h,rfl⟩
 . simp only[decide_eq_false_iff_not,decide_eq_true_eq]at ha hb
   rw[if_neg (by omega),if_neg (by omega)]
   exact⟨_,_,zap,_,_,zc7,rfl⟩
 . simp only[decide_eq_true_eq]at ha
   rw[if_neg (by omega),if_neg (by omega)]
   exact⟨_,_,zap,_,_,zc7,rfl⟩)
def zkj (d:z0f) (b:List Int):Bool:=(List.range b.length).all fun k=>decide ((k:Int)∈vars d.1) == !(iAt b k == 10)
def zew (x:z02) (d:z0f) (b:List Int):Bool:=d.1.all fun a=>z4z a b&&decide (zdg a b∈x.2.1)
def z5b (x:z02) (d:z0f) (b:List Int):Bool:=z2r x&&(zee x.1 d&&((b.length == 5)&&(zkj d b&&zew x d b)))
def zgg (x:z02) (l:List z00) (b:List Int):Bool:=mOk x l&&((b.length == 5)&&decide (0<(zbs x.2.1 l b).length))
def act (x:z02) (d:z0f) (b:List Int):Bool:=z5b x d b&&(if d.2.2.1 then !(iAt b d.2.2.2.1.toNat == iAt b d.2.2.2.2.1.toNat)else !(zgg x d.2.1 b))
theorem z7r {x:z02} {d:z0f} {b:List Int} (h:z5b x d b=true):z2r x=true/\zee x.1 d=true/\b.length=5:=by
 unfold z5b at h
 simp only[Bool.and_eq_true,beq_iff_eq]at h
 exact⟨h.1,h.2.1,h.2.2.1⟩
theorem zan {x:z02} {d:z0f} {b:List Int} (h:act x d b=true):z5b x d b=true:=by
 unfold act at h;rw[Bool.and_eq_true]at h;exact h.1
theorem zm6 {l:List z0s} {ats:List z00} (h:∀ a∈ats,z6u l a=true) {v:Int} (hv:v∈vars ats):0<=v/\v<5:=by
 unfold vars at hv
 have hv:=mem_sset.mp hv
 obtain⟨h1,h2⟩:=List.mem_filter.mp hv
 obtain⟨a,ha,hva⟩:=List.mem_flatMap.mp h1
 have:=inR_iff.mp ((z2v (h a ha)).2.2.2.2.2 v hva)
 have:0<=v:=by simpa using h2
 omega
theorem z6m {l:List z0s} {d:z0f} (h:zee l d=true) (he:d.2.2.1=true):(0<=d.2.2.2.1/\d.2.2.2.1<5)/\(0<=d.2.2.2.2.1/\d.2.2.2.2.1<5):=by
 have hs:=z4c h
 unfold zee at h
 rw[he]at h
 simp only[Bool.and_eq_true,if_pos,decide_eq_true_eq]at h
 exact⟨zm6 hs.2.2.1 h.2.1.1.2,zm6 hs.2.2.1 h.2.1.2⟩
def zf9:List Int->List Int->Int->List Int
 |b,[],_=>b
 |b,v::l,k=>zf9 (b.set v.toNat (-1 - k)) l (k+1)
theorem zez:∀ {l b:List Int} {k:Int},(zf9 b l k).length=b.length
 |[],b,k=>rfl
 |v::l,b,k=>by rw[zf9,zez,List.length_set]
theorem zpq:∀ {l b:List Int} {k v:Int},zf9 b (l++[v]) k=(zf9 b l k).set v.toNat (-1 - (k+l.length))
 |[],b,k,v=>by simp[zf9]
 | w::l,b,k,v=>by
   simp only[List.cons_append,zf9,zpq,List.length_cons]
   congr 1
   omega
def newF (x:z02) (d:z0f) (b:List Int):List z00:=ztj (x.2.1++d.2.1.map fun a=>zdg a (zf9 b (exV d) (z2s x)))
def zbf (x:z02) (d:z0f) (b:List Int):z02×Int:=
 if act x d b then
  (if d.2.2.1 then
    (if 0<=iAt b d.2.2.2.1.toNat/\0<=iAt b d.2.2.2.2.1.toNat then(x,2)
     else(ztg ([z6p (zji (iAt b d.2.2.2.1.toNat) (iAt b d.2.2.2.2.1.toNat))],([zni (iAt b d.2.2.2.1.toNat) (iAt b d.2.2.2.2.1.toNat)],())) x,1))
   else if 40<z2s x+(exV d).length\/30<(newF x d b).length then(x,3)else((x.1,(newF x d b,())),1))
 else(x,0)
theorem appT_code {x:z02} {d:z0f} {b:List Int}:(zbf x d b).2=0↔act x d b=false:=by
 unfold zbf
 constructor
 . intro h
   rw[Bool.eq_false_iff]
   intro ha
   rw[if_pos ha]at h
   revert h
   split<;>split<;>simp
 . intro h
   rw[h];rfl
theorem bb1:∀ u v:Bool,(u == v) = !(u == !v):=by decide
theorem bb2:∀ u v:Bool,(!((!v) == u)) = !(u == !v):=by decide
theorem place_neg {l:List z00} {f:z00}:place l f<0↔f∉l:=by
 have:=decide_eq_decide.mp (z000 (l:=l) (f:=f))
 constructor
 . intro h hm;have:=this.mpr hm;omega
 . intro h
   rcases Int.lt_or_le (place l f) 0 with h'|h'
   . exact h'
   . exact absurd (this.mp h') h
theorem zcj {l:List z0s} {a:z00} (h:z6u l a=true):a.2.1.length<=3/\∀ t∈a.2.1,-10<=t/\t<5:=by
 have:=z2v h
 exact⟨this.2.2.2.2.1,fun t ht=>by have:=inR_iff.mp (this.2.2.2.2.2 t ht);omega⟩
theorem zbr (x:z02):0<=z2s x/\z2s x<=40:=by
 have hk:∀ k∈zf4 x,0<=k/\k<40:=fun k hk=>by
  have:=zf5 (l:=x.2.1.flatMap (·.2.1)) k (by rw[zb2];exact hk)
  omega
 refine⟨?_,z013 (n:=40) |>.mpr fun k h=>(hk k h).2⟩
 unfold z2s
 cases h:(zf4 x).getLast? with
 |none=>exact Int.le_refl 0
 |some m=>have:=hk m (List.mem_of_getLast? h);simp only;omega
theorem z044 {l:List z0s} {d:z0f} (h:zee l d=true):(exV d).length<=6:=by
 have hd:=z4c h
 have h1:(exV d).length<=(vars d.2.1).length:=by unfold exV;exact List.length_filter_le _ _
 have h2:=zhw d.2.1
 omega
theorem zhh {l:List z0s} {d:z0f} (h:zee l d=true) {v:Int} (hv:v∈exV d):0<=v/\v<5:=by
 have hd:=z4c h
 unfold exV at hv
 exact zm6 hd.2.2.2.2.1 (List.mem_filter.mp hv).1
theorem z04v {x:z02} (h:z2r x=true) (l:List z00):l.foldl znq x.2.1=ztj (x.2.1++l):=z09e (z03y h)
theorem zxe {x:z02} {d:z0f} {b:List Int}:zgr x d b (z5b x d b):=zx6 _ _ _ _ (by
 unfold zn5
 refine⟨_,z3w,z0p (fun h=>by unfold z5b;rw[h];rfl) (fun h1=>⟨_,z73,z0p (fun h=>by unfold z5b;rw[h1,h];rfl) (fun h2=>z0m fun _=>z97 (fun h=>?_) (fun h3=>?_))⟩)⟩
 . unfold z5b
   rw[show(b.length == 5)=false from beq_eq_false_iff_ne.mpr (by omega),h1,h2];rfl
 have h3:b.length=5:=by omega
 have hd:=z4c h2
 have e:z5b x d b=(zkj d b&&zew x d b):=by unfold z5b;rw[h1,h2,h3];rfl
 rw[e]
 refine⟨_,z7t (by omega),?_⟩
 refine z7f b.length (fun k=>!(decide ((k:Int)∈vars d.1) == !(iAt b k == 10))) (fun i=>((i:Int),())) (KT:=zkj d b=false) (KF:=zkj d b=true) ?_ ?_ ?_ ?_
 . intro i hi X _ q1 q2
   refine z0m fun _=>bcI hi (inI hi ⟨_,zke,_,zm7,?_⟩)
   simp only
   rw[z2g hi,<-z4r hi,z06 (by omega),bb1]
   exact z1w (fun h=>by rw[q1 h];rfl) q2
 . intro X hB
   refine z0m fun _=>bcN ?_
   rw[hB,Bool.true_and]
   refine z9i d.1 (fun a=>!(z4z a b&&decide (zdg a b∈x.2.1))) (fun i=>((i:Int),())) (KT:=zew x d b=false) (KF:=zew x d b=true) ?_ ?_ ?_ ?_
   . intro i hi X q1 q2
     have hr:=zcj (hd.2.2.1 _ (List.getElem_mem hi))
     refine z0m fun _=>bcI hi (inI hi ⟨zdg d.1[i] b,z4z d.1[i] b,?_,?_⟩)
     . simp only;rw[z2g hi];exact zj6 (by omega) (by omega) hr.2
     . rw[z06 (by omega)]
       refine z0p (fun h=>by rw[q1 (by rw[h];rfl)]) (fun h=>⟨_,ztb,z0e (fun h4=>?_) (fun h4=>?_)⟩)
       . have h4:=place_neg.mp h4
         rw[q1 (by rw[h];simpa using h4)]
       . have h4:zdg d.1[i] b∈x.2.1:=Classical.byContradiction fun h5=>h4 (place_neg.mpr h5)
         exact q2 (by rw[h];simpa using h4)
   . intro X h;exact z0m fun _=>bcN (by rw[h])
   . intro h;rw[z4i]at h;unfold zew;exact nt h
   . intro h;rw[z4i]at h;unfold zew;exact nf h
 . rintro⟨i,hi,hp⟩
   unfold zkj
   rw[Bool.eq_false_iff]
   intro h
   have:=List.all_eq_true.mp h i (List.mem_range.mpr hi)
   rw[this]at hp;cases hp
 . intro h
   unfold zkj
   exact List.all_eq_true.mpr fun i hi=>nf (h i (List.mem_range.mp hi)))
theorem zwh {x:z02} {d:z0f} {b:List Int}:zgz x d b (z5b x d b):=zw9 _ _ _ _ (by
 unfold zn4
 refine⟨_,z3y,z0p (fun h=>by unfold z5b;rw[h];rfl) (fun h1=>⟨_,z75,z0p (fun h=>by unfold z5b;rw[h1,h];rfl) (fun h2=>z0m fun _=>z97 (fun h=>?_) (fun h3=>?_))⟩)⟩
 . unfold z5b
   rw[show(b.length == 5)=false from beq_eq_false_iff_ne.mpr (by omega),h1,h2];rfl
 have h3:b.length=5:=by omega
 have hd:=z4c h2
 have e:z5b x d b=(zkj d b&&zew x d b):=by unfold z5b;rw[h1,h2,h3];rfl
 rw[e]
 refine⟨_,zcm (by omega),z0m fun _=>?_⟩
 refine z7f b.length (fun k=>!(decide ((k:Int)∈vars d.1) == !(iAt b k == 10))) (fun i=>((i:Int),())) (KT:=zkj d b=false) (KF:=zkj d b=true) ?_ ?_ ?_ ?_
 . intro i hi X _ q1 q2
   refine bcI hi (inI hi ⟨_,z3p,?_⟩)
   simp only
   rw[z2g hi,<-z4r hi,z06 (by omega)]
   show z01 (!((!(iAt b i == 10)) == _)) _ _
   rw[bb2]
   exact z1w (fun h=>by rw[q1 h];rfl) q2
 . intro X hB
   refine bcN (z0m fun _=>?_)
   rw[hB,Bool.true_and]
   refine z9i d.1 (fun a=>!(z4z a b&&decide (zdg a b∈x.2.1))) (fun i=>((i:Int),())) (KT:=zew x d b=false) (KF:=zew x d b=true) ?_ ?_ ?_ ?_
   . intro i hi X q1 q2
     have hr:=zcj (hd.2.2.1 _ (List.getElem_mem hi))
     refine bcI hi (inI hi ⟨zdg d.1[i] b,z4z d.1[i] b,?_,?_⟩)
     . simp only;rw[z2g hi];exact ziu (by omega) (by omega) hr.2
     . rw[z06 (by omega)]
       refine z0p (fun h=>by rw[q1 (by rw[h];rfl)]) (fun h=>⟨_,z032,z0p (fun h4=>?_) (fun h4=>?_)⟩)
       . have h4:zdg d.1[i] b∉x.2.1:=of_decide_eq_false h4
         rw[q1 (by rw[h];simpa using h4)]
       . have h4:zdg d.1[i] b∈x.2.1:=of_decide_eq_true h4
         exact q2 (by rw[h];simpa using h4)
   . intro X h;exact bcN (by rw[h])
   . intro h;rw[z4i]at h;unfold zew;exact nt h
   . intro h;rw[z4i]at h;unfold zew;exact nf h
 . rintro⟨i,hi,hp⟩
   unfold zkj
   rw[Bool.eq_false_iff]
   intro h
   have:=List.all_eq_true.mp h i (List.mem_range.mpr hi)
   rw[this]at hp;cases hp
 . intro h
   unfold zkj
   exact List.all_eq_true.mpr fun i hi=>nf (h i (List.mem_range.mp hi)))
theorem zoj {x:z02} {l:List z00} {b:List Int}:zbb x l b (zgg x l b):=zpc _ _ _ _ (by
 unfold zgh
 refine⟨_,z01f,z1w (fun h=>z0m fun _=>z4a (fun hb=>?_) (fun hb=>?_)) (fun h=>by unfold zgg;rw[h];rfl)⟩
 . have hb:b.length=5:=by omega
   obtain⟨hw,hl⟩:=zhc h
   have g:=zm3 hw hl l.length 0 b (by omega) hb
   rw[List.drop_zero]at g
   refine⟨_,g,z0m fun _=>?_⟩
   unfold zgg
   rw[h,hb]
   have:decide (((zbs x.2.1 l b).length:Int) > 0)=decide (0<(zbs x.2.1 l b).length):=decide_eq_decide.mpr (by omega)
   rw[this];rfl
 . unfold zgg
   rw[show(b.length == 5)=false from beq_eq_false_iff_ne.mpr (by omega),h];rfl)
theorem zop {x:z02} {l:List z00} {b:List Int}:zbj x l b (zgg x l b):=zpa _ _ _ _ (by
 unfold zht
 refine⟨_,zgq,z1w (fun h=>z0m fun _=>z4a (fun hb=>?_) (fun hb=>?_)) (fun h=>by unfold zgg;rw[h];rfl)⟩
 . have hb:b.length=5:=by omega
   obtain⟨hw,hl⟩:=zhc h
   refine⟨b,z3r (by omega),_,zlt b hw hl hb,z0m fun _=>?_⟩
   unfold zgg
   rw[h,hb]
   have:decide (((zbs x.2.1 l b).length:Int) > 0)=decide (0<(zbs x.2.1 l b).length):=decide_eq_decide.mpr (by omega)
   rw[this];rfl
 . unfold zgg
   rw[show(b.length == 5)=false from beq_eq_false_iff_ne.mpr (by omega),h];rfl)
theorem z7v {x:z02} {d:z0f} {b:List Int}:z3x x d b (act x d b):=zl8 _ _ _ _ (by
 unfold zcr
 refine⟨_,zxe,z0p (fun h=>by unfold act;rw[h];rfl) (fun h=>?_)⟩
 obtain⟨_,hv,hb⟩:=z7r h
 refine z1w (fun he=>?_) (fun he=>⟨_,zoj,by unfold act;rw[h,he];rfl⟩)
 have hs:=z6m hv he
 exact⟨⟨by omega,by omega⟩,⟨by omega,by omega⟩,by unfold act;rw[h,he];rfl⟩)
theorem zc4 {x:z02} {d:z0f} {b:List Int}:z5n x d b (act x d b):=zk9 _ _ _ _ (by
 unfold zc8
 refine⟨_,zwh,z0p (fun h=>by unfold act;rw[h];rfl) (fun h=>?_)⟩
 obtain⟨_,hv,hb⟩:=z7r h
 refine z1w (fun he=>?_) (fun he=>⟨_,zop,by unfold act;rw[h,he];rfl⟩)
 have hs:=z6m hv he
 exact⟨⟨by omega,by omega⟩,⟨by omega,by omega⟩,by unfold act;rw[h,he];rfl⟩)
structure SmI (x:z02):Prop where
 rels:x.1.length<=6
 few:x.2.1.length<=30
 row:∀ f∈x.2.1,f.2.1.length<=3
theorem SmI.of {x:z02} (h:z2r x=true):SmI x:=⟨zbl (z99 h),z9u h,fun f hf=>(z2v (z6o h hf)).2.2.2.2.1⟩
theorem SmI.app {s:zah} {x:z02} (h:SmI x):SmI (ztg s x):=by
 unfold ztg
 split
 . refine⟨h.rels,Nat.le_trans z00h h.few,fun f hf=>?_⟩
   unfold subI at hf
   obtain⟨g,hg,rfl⟩:=List.mem_map.mp (facS_mem.mp hf)
   unfold zo9
   have:=h.row g hg
   simpa using this
 . exact⟨by simp,by simp,by simp⟩
theorem SmI.newF {x:z02} {d:z0f} {b:List Int} (h:SmI x) (hd:∀ a∈d.2.1,a.2.1.length<=3):∀ f∈newF x d b,f.2.1.length<=3:=by
 intro f hf
 unfold V.newF at hf
 rcases List.mem_append.mp (facS_mem.mp hf)with hf|hf
 . exact h.row f hf
 . obtain⟨a,ha,rfl⟩:=List.mem_map.mp hf
   exact Nat.le_trans zuj (hd a ha)
theorem SmI.step {x:z02} {d:z0f} {b:List Int} (h:SmI x):SmI (zbf x d b).1:=by
 unfold zbf
 split
 . rename_i ha
   have hp:=z7r (zan ha)
   have hd:=z4c hp.2.1
   split
   . split
     . exact h
     . exact h.app
   . split
     . exact h
     . rename_i hn
       exact ⟨h.rels, by have:¬ 30<(V.newF x d b).length:=fun h'=>hn (.inr h')
                         simp only;omega,h.newF fun a ha=>(z2v (hd.2.2.2.2.1 a ha)).2.2.2.2.1⟩
 . exact h
theorem z9y {x:z02} {d:z0f} {b:List Int} (h:act x d b=true):z2r x=true/\zee x.1 d=true/\b.length=5:=z7r (zan h)
theorem z04a {x:z02} {d:z0f} {b:List Int} (h:act x d b=false):zbf x d b=(x,0):=by unfold zbf;rw[h];rfl
theorem zi6 {x:z02} {d:z0f} {b:List Int} (h:act x d b=true) (he:d.2.2.1=true):zbf x d b=(if 0<=iAt b d.2.2.2.1.toNat/\0<=iAt b d.2.2.2.2.1.toNat then(x,2)
 else(ztg ([z6p (zji (iAt b d.2.2.2.1.toNat) (iAt b d.2.2.2.2.1.toNat))],([zni (iAt b d.2.2.2.1.toNat) (iAt b d.2.2.2.2.1.toNat)],())) x,1)):=by unfold zbf;rw[h,he];rfl
theorem zej {x:z02} {d:z0f} {b:List Int} (h:act x d b=true) (he:d.2.2.1=false):zbf x d b=(if 40<z2s x+(exV d).length\/30<(newF x d b).length then(x,3)else((x.1,(newF x d b,())),1)):=by unfold zbf;rw[h,he];rfl
theorem zh8 {x:z02} {d:z0f} {b:List Int} (hx:SmI x):z68 x d b (zbf x d b).1 (zbf x d b).2:=zpg _ _ _ _ _ (by
 unfold zhr
 have h1:=hx.rels
 have h2:=hx.few
 refine⟨x,ze4 (by omega) (by omega) (fun f hf=>by have:=hx.row f hf;omega),_,z7v,z0p (fun h=>by rw[z04a h]) (fun ha=>?_)⟩
 obtain⟨hv,hd,hb⟩:=z9y ha
 have hds:=z4c hd
 refine z1w (fun he=>?_) (fun he=>?_)
 . have hs:=z6m hd he
   have e1:b.getD d.2.2.2.1.toNat 0=iAt b d.2.2.2.1.toNat:=rfl
   have e2:b.getD d.2.2.2.2.1.toNat 0=iAt b d.2.2.2.2.1.toNat:=rfl
   rw[e1,e2,zi6 ha he]
   refine⟨⟨by omega,by omega⟩,⟨by omega,by omega⟩,z0e (fun hp=>z0e (fun hq=>?_) (fun hq=>?_)) (fun hp=>?_)⟩
   . rw[if_pos ⟨hp,hq⟩]
   . rw[if_neg (fun h=>hq h.2)]
     exact⟨_,_,zax,_,_,zcl,rfl⟩
   . rw[if_neg (fun h=>hp h.1)]
     exact⟨_,_,zax,_,_,zcl,rfl⟩
 . have hn:=zbr x
   have hl:=z044 hd
   rw[zej ha he]
   refine⟨by simp only[z1p,List.length_nil];omega,_,z83 (by omega) (by omega),?_⟩
   rw[List.nil_append]
   refine z7f (exV d).length (fun i=>decide (40<=z2s x+i)) (fun i=>((i:Int),(x,((([]:List z0s),(([]:List z00),())),(zf9 b ((exV d).take i) (z2s x),()))))) (KT:=40<z2s x+(exV d).length) (KF:=z2s x+(exV d).length<=40) ?_ ?_ ?_ ?_
   . intro i hi X _ q1 q2
     refine z0m fun _=>bcI hi ⟨_,zya,?_⟩
     simp only
     rw[z1s (n:=z2s x+i) (by omega) (by omega),z2g hi,z06 (by omega)]
     have hr:=zhh hd (List.getElem_mem hi)
     refine z0e (fun h=>?_) (fun h=>inI hi ⟨_,zgk (by omega) (by omega),⟨by omega,by rw[zez];omega⟩,?_⟩)
     . rw[if_pos (.inl (q1 (decide_eq_true h)))]
     . have q3:=q2 (decide_eq_false h)
       rw[z08 hi,zpq,List.length_take,Nat.min_eq_left (by omega)]at q3
       exact q3
   . intro X hk
     refine z0m fun _=>bcN ?_
     simp only[List.take_length]
     have hm:∀ i,(((d.2.1.take i).map fun a=>zdg a (zf9 b (exV d) (z2s x))).foldl znq x.2.1).length<=32:=fun i=>by
      have:=zp9 (l:=(d.2.1.take i).map fun a=>zdg a (zf9 b (exV d) (z2s x))) (m:=x.2.1)
      rw[List.length_map,List.length_take]at this
      omega
     refine z0x d.2.1.length (fun i=>((i:Int),((x.1,(((d.2.1.take i).map fun a=>zdg a (zf9 b (exV d) (z2s x))).foldl znq x.2.1,())),()))) (by simp) ?_ ?_
     . intro i hi Y hY
       have hr:=zcj (hds.2.2.2.2.1 _ (List.getElem_mem hi))
       have hmi:=hm i
       have hil:=zuj (a:=d.2.1[i]) (b:=zf9 b (exV d) (z2s x))
       refine z0m fun _=>bcI hi (inI hi ⟨zdg d.2.1[i] (zf9 b (exV d) (z2s x)),z4z d.2.1[i] (zf9 b (exV d) (z2s x)),?_,_,ztr (by simp only;omega) (by simp only;omega),?_⟩)
       . simp only;rw[z2g hi];exact zj6 (by omega) (by rw[zez];omega) hr.2
       . simp only
         rw[z06 (by omega)]
         rw[z08 hi,List.map_append,List.foldl_append]at hY
         exact hY
     . intro Y
       have hml:=hm d.2.1.length
       refine z0m fun _=>bcN ?_
       simp only[List.take_length]at hml ⊢
       have e:(d.2.1.map fun a=>zdg a (zf9 b (exV d) (z2s x))).foldl znq x.2.1=newF x d b:=z04v hv _
       rw[e]at hml ⊢
       refine z0m fun _=>z0e (fun h=>?_) (fun h=>?_)
       . rw[if_pos (.inr (by omega))]
       . rw[if_neg (by rintro (h'|h')<;>omega)]
         refine⟨_,ze4 (by simp only;omega) (by simp only;omega) (fun f hf=>?_),rfl⟩
         have:=hx.newF (d:=d) (b:=b) (fun a ha=>(zcj (hds.2.2.2.2.1 a ha)).1) f hf
         omega
   . rintro⟨i,hi,hp⟩
     have:=of_decide_eq_true hp
     omega
   . intro h
     rcases Nat.eq_zero_or_pos (exV d).length with h0|h0
     . rw[h0];omega
     . have:=of_decide_eq_false (h ((exV d).length - 1) (by omega))
       omega)
theorem zgy {x:z02} {d:z0f} {b:List Int} (hx:SmI x):z5w x d b (zbf x d b).1 (zbf x d b).2:=zp1 _ _ _ _ _ (by
 unfold zh5
 have h1:=hx.rels
 have h2:=hx.few
 have hcp:z1o x x:=z65 (by omega) (by omega) (fun f hf=>by have:=hx.row f hf;omega)
 refine⟨_,zc4,z0p (fun h=>by rw[z04a h];exact⟨x,hcp,rfl⟩) (fun ha=>?_)⟩
 obtain⟨hv,hd,hb⟩:=z9y ha
 have hds:=z4c hd
 refine z1w (fun he=>?_) (fun he=>?_)
 . have hs:=z6m hd he
   have e1:b.getD d.2.2.2.1.toNat 0=iAt b d.2.2.2.1.toNat:=rfl
   have e2:b.getD d.2.2.2.2.1.toNat 0=iAt b d.2.2.2.2.1.toNat:=rfl
   rw[e1,e2,zi6 ha he]
   refine⟨⟨by omega,by omega⟩,⟨by omega,by omega⟩,_,_,z02f (by omega) (by omega) (fun f hf=>by have:=hx.row f hf;omega),?_⟩
   by_cases h:0<=iAt b d.2.2.2.1.toNat/\0<=iAt b d.2.2.2.2.1.toNat
   . rw[if_pos h,if_pos h,if_pos h]
   . rw[if_neg h,if_neg h,if_neg h]
 . have hn:=zbr x
   have hl:=z044 hd
   have hvf:=zsd hv
   rw[zej ha he]
   refine⟨b,z3r (by omega),_,zyz (by omega),_,zfh (by omega) (by omega),z0m fun _=>?_⟩
   refine z0x (exV d).length (fun i=>(z2s x+i,((i:Int),(zf9 b ((exV d).take i) (z2s x),())))) (by simp[zf9]) ?_ ?_
   . intro i hi X hX
     have hr:=zhh hd (List.getElem_mem hi)
     refine bcI hi (inI hi ⟨_,zwx (by simp only;omega) (by simp only;omega),?_⟩)
     simp only
     rw[z2g hi,z06 (by omega),z1s (n:=z2s x+i+1) (by omega) (by omega)]
     refine⟨⟨by omega,by rw[zez];omega⟩,?_⟩
     rw[z08 hi,zpq,List.length_take,Nat.min_eq_left (by omega),show z2s x+((i+1:Nat):Int)=z2s x+i+1 by omega]at hX
     exact hX
   . intro X
     refine bcN ⟨x,hcp,z0m fun _=>?_⟩
     simp only[List.take_length]
     refine z0x d.2.1.length (fun i=>((i:Int),((x.1,(x.2.1++(d.2.1.take i).map fun a=>zdg a (zf9 b (exV d) (z2s x)),())),()))) (by simp) ?_ ?_
     . intro i hi Y hY
       have hr:=zcj (hds.2.2.2.2.1 _ (List.getElem_mem hi))
       refine bcI hi (inI hi ⟨zdg d.2.1[i] (zf9 b (exV d) (z2s x)),z4z d.2.1[i] (zf9 b (exV d) (z2s x)),?_,?_,?_⟩)
       . simp only;rw[z2g hi];exact ziu (by omega) (by rw[zez];omega) hr.2
       . simp only[z1p,List.length_append,List.length_map,List.length_take,List.length_cons,List.length_nil];omega
       . simp only
         rw[z06 (by omega),List.append_assoc]
         rw[z08 hi,List.map_append]at hY
         exact hY
     . intro Y
       have e:ztj (x.2.1++(d.2.1.map fun a=>zdg a (zf9 b (exV d) (z2s x))))=newF x d b:=rfl
       refine bcN ⟨newF x d b,?_,?_⟩
       . simp only[List.take_length]
         rw[<-e]
         refine zph (by simp only[List.length_append,List.length_map];omega) (fun f hf=>?_)
         rcases List.mem_append.mp hf with hf|hf
         . have:=hx.row f hf;omega
         . obtain⟨a,ha,rfl⟩:=List.mem_map.mp hf
           have h5:=(zcj (hds.2.2.2.2.1 a ha)).1
           have:=zuj (a:=a) (b:=zf9 b (exV d) (z2s x))
           omega
       . simp only
         refine z0e (fun h=>?_) (fun h=>z0m fun _=>z0e (fun h'=>?_) (fun h'=>?_))
         . rw[if_pos (.inl (by omega))];exact⟨x,hcp,rfl⟩
         . rw[if_pos (.inr (by omega))];exact⟨x,hcp,rfl⟩
         . rw[if_neg (by rintro (h''|h'')<;>omega)])
def z34 (ds:List z0f) (i:Int):z0f:=ds.getD i.toNat zdf
def zm5 (ds:List z0f) (st:z02×Int) (s:z00):Unit ⊕ (z02×Int):=
 if st.2=1 then(if inR s.1 0 ((ds.length:Int) - 1)then(if act st.1 (z34 ds s.1) s.2.1 then .inr (zbf st.1 (z34 ds s.1) s.2.1)else .inl ())else .inl ())else .inl ()
def z3h (x:z02) (ds:List z0f) (l:List z00):z02×Int×Bool:=if z2r x&&zgd x.1 ds then(match zbw (zm5 ds) l (x,1)with
 |.inl _=>(([],([],())),0,false)
 |.inr s=>(s.1,s.2,true))else(([],([],())),0,false)
def z7k (x:z02) (ds:List z0f) (l:List z00):Bool:=(z3h x ds l).2.2&&((z3h x ds l).2.1 == 2)
theorem zyn {ds:List z0f} {st st':z02×Int} {s:z00} (h:zm5 ds st s = .inr st'):st.2=1/\inR s.1 0 ((ds.length:Int) - 1)=true/\act st.1 (z34 ds s.1) s.2.1=true/\st'=zbf st.1 (z34 ds s.1) s.2.1:=by
 unfold zm5 at h
 split at h
 . rename_i h1
   split at h
   . rename_i h2
     split at h
     . rename_i h3
       exact⟨h1,h2,h3,(Sum.inr.inj h).symm⟩
     . cases h
   . cases h
 . cases h
theorem zlh {ds:List z0f}:∀ {l:List z00} {st st':z02×Int},SmI st.1->zbw (zm5 ds) l st = .inr st'->SmI st'.1
 |[],st,st',h,hr=>by simp only[zbw,Sum.inr.injEq]at hr;subst hr;exact h
 | s::l,st,st',h,hr=>by
   simp only[zbw]at hr
   cases e:zm5 ds st s with
   |inl _=>rw[e]at hr;simp at hr
   | inr q=>
     rw[e]at hr
     obtain⟨_,_,_,rfl⟩:=zyn e
     exact zlh (l:=l) h.step hr
theorem zrb {x:z02} {ds:List z0f} {l:List z00}:zcy x ds l (z3h x ds l).1 (z3h x ds l).2.1 (z3h x ds l).2.2:=zrr _ _ _ _ _ _ (by
 unfold zj7
 refine⟨_,z3w,z0p (fun h=>by unfold z3h;rw[h];rfl) (fun h1=>⟨_,z2d,z0p (fun h=>by unfold z3h;rw[h1,h];rfl) (fun h2=>?_)⟩)⟩
 have hx:=SmI.of h1
 have b1:=hx.rels
 have b2:=hx.few
 refine⟨x,ze4 (by omega) (by omega) (fun f hf=>by have:=hx.row f hf;omega),?_⟩
 have no:∀ r:Unit,zbw (zm5 ds) l (x,1) = .inl r->(((([]:List z0s),(([]:List z00),())),((0:Int),(false,()))):z02×Int×Bool×Unit)=((z3h x ds l).1,((z3h x ds l).2.1,((z3h x ds l).2.2,()))):=fun r hr=>by
  unfold z3h;rw[h1,h2,hr];rfl
 refine zo3 l (zm5 ds) (x,1) (fun i s=>(s.2,((i:Int),((([]:List z0s),(([]:List z00),())),(s.1,()))))) (KR:=fun _=>(((([]:List z0s),(([]:List z00),())),((0:Int),(false,()))):z02×Int×Bool×Unit)=((z3h x ds l).1,((z3h x ds l).2.1,((z3h x ds l).2.2,())))) ?_ ?_ no
 . intro i hi s X hr q1 q2
   have hs:=zlh hx hr
   refine z0m fun _=>bcI hi (z97 (fun h=>q1 () (by unfold zm5;rw[if_neg h])) (fun hc=>inI hi (z0m fun hl=>?_)))
   have hc:s.2=1:=hc
   simp only
   rw[z2g hi,z1s (n:=(ds.length:Int) - 1) (by omega) (by omega),z06 (by omega)]
   refine⟨_,z6d,z0p (fun h=>q1 () (by unfold zm5;rw[if_pos hc,h];rfl)) (fun hin=>inI hi (inI hi ?_))⟩
   have hr2:=inR_iff.mp hin
   refine⟨⟨by omega,by omega⟩,act s.1 (z34 ds l[i].1) l[i].2.1,z7v,z0p (fun h=>q1 () (by unfold zm5;rw[if_pos hc,hin,h];rfl)) (fun ha=>inI hi (inI hi ⟨⟨by omega,by omega⟩,(zbf s.1 (z34 ds l[i].1) l[i].2.1).1,(zbf s.1 (z34 ds l[i].1) l[i].2.1).2,zh8 hs,?_⟩))⟩
   exact q2 (zbf s.1 (z34 ds l[i].1) l[i].2.1) (by unfold zm5;rw[if_pos hc,hin,ha];rfl)
 . intro s X hr
   refine z0m fun _=>bcN ?_
   unfold z3h;rw[h1,h2,hr];rfl)
theorem zr3 {x:z02} {ds:List z0f} {l:List z00}:zd8 x ds l (z3h x ds l).1 (z3h x ds l).2.1 (z3h x ds l).2.2:=zqw _ _ _ _ _ _ (by
 unfold zio
 refine⟨_,z3y,z0p (fun h=>by unfold z3h;rw[h];rfl) (fun h1=>⟨_,z88,z0p (fun h=>by unfold z3h;rw[h1,h];rfl) (fun h2=>?_)⟩)⟩
 have hx:=SmI.of h1
 have b1:=hx.rels
 have b2:=hx.few
 refine⟨x,z65 (by omega) (by omega) (fun f hf=>by have:=hx.row f hf;omega),z0m fun _=>?_⟩
 have no:∀ r:Unit,zbw (zm5 ds) l (x,1) = .inl r->(((([]:List z0s),(([]:List z00),())),((0:Int),(false,()))):z02×Int×Bool×Unit)=((z3h x ds l).1,((z3h x ds l).2.1,((z3h x ds l).2.2,()))):=fun r hr=>by
  unfold z3h;rw[h1,h2,hr];rfl
 refine zo3 l (zm5 ds) (x,1) (fun i s=>(s.2,((i:Int),((([]:List z0s),(([]:List z00),())),(s.1,()))))) (KR:=fun _=>(((([]:List z0s),(([]:List z00),())),((0:Int),(false,()))):z02×Int×Bool×Unit)=((z3h x ds l).1,((z3h x ds l).2.1,((z3h x ds l).2.2,())))) ?_ ?_ no
 . intro i hi s X hr q1 q2
   have hs:=zlh hx hr
   refine bcI hi (inI hi (z97 (fun h=>q1 () (by unfold zm5;rw[if_neg h])) (fun hc=>z0m fun hl=>?_)))
   have hc:s.2=1:=hc
   simp only
   rw[z2g hi,z1s (n:=(ds.length:Int) - 1) (by omega) (by omega),z06 (by omega)]
   refine⟨_,z8f,z0p (fun h=>q1 () (by unfold zm5;rw[if_pos hc,h];rfl)) (fun hin=>?_)⟩
   have hr2:=inR_iff.mp hin
   refine⟨⟨by omega,by omega⟩,(zbf s.1 (z34 ds l[i].1) l[i].2.1).1,(zbf s.1 (z34 ds l[i].1) l[i].2.1).2,zgy hs,z4a (fun h=>q1 () ?_) (fun h=>?_)⟩
   . unfold zm5;rw[if_pos hc,hin,appT_code.mp h];rfl
   . have ha:act s.1 (z34 ds l[i].1) l[i].2.1=true:=by
      cases e:act s.1 (z34 ds l[i].1) l[i].2.1 with
      |true=>rfl
      |false=>exact absurd (appT_code.mpr e) h
     exact q2 (zbf s.1 (z34 ds l[i].1) l[i].2.1) (by unfold zm5;rw[if_pos hc,hin,ha];rfl)
 . intro s X hr
   refine bcN ?_
   unfold z3h;rw[h1,h2,hr];rfl)
theorem zdn {x:z02} {ds:List z0f} {l:List z00}:z6s x ds l (z7k x ds l):=zmm _ _ _ _ (by
 unfold ze7
 exact⟨_,_,_,zrb,z1w (fun h=>by unfold z7k;rw[h];rfl) (fun h=>by unfold z7k;rw[h];rfl)⟩)
theorem z4k {x:z02} {ds:List z0f} {l:List z00}:z1q x ds l (z7k x ds l):=zm1 _ _ _ _ (by
 unfold ze9
 exact⟨_,_,_,zr3,z1w (fun h=>by unfold z7k;rw[h];rfl) (fun h=>by unfold z7k;rw[h];rfl)⟩)
def zdc (l:List z00):z00:=l.getD (l.length - 1) z09
theorem zpx {x:z02} {ds:List z0f} {l:List z00} (h:z7k x ds l=true):l≠[]/\(0<=(zdc l).1/\(zdc l).1<ds.length)/\(zdc l).2.1.length=5/\
  (0<=(z34 ds (zdc l).1).2.2.2.1/\(z34 ds (zdc l).1).2.2.2.1<5)/\(0<=(z34 ds (zdc l).1).2.2.2.2.1/\(z34 ds (zdc l).1).2.2.2.2.1<5):=by
 unfold z7k z3h at h
 split at h
 . cases e:zbw (zm5 ds) l (x,1)with
   |inl r=>rw[e]at h;simp at h
   | inr s=>
     rw[e]at h
     have hs:s.2=2:=by simpa using h
     have hne:l≠[]:=by
      rintro rfl
      simp only[zbw,Sum.inr.injEq]at e
      subst e
      simp at hs
     have hn:l.length - 1<l.length:=by have:=List.length_pos_iff.mpr hne;omega
     have hl:l=l.take (l.length - 1)++[l[l.length - 1]]:=by
      rw[<-z08 hn,show l.length - 1+1=l.length by omega,List.take_length]
     have hlast:zdc l=l[l.length - 1]:=by unfold zdc;exact z8q hn
     rw[hl,zf8]at e
     cases e2:zbw (zm5 ds) (l.take (l.length - 1)) (x,1)with
     |inl r=>rw[e2]at e;simp at e
     | inr s0=>
       rw[e2]at e
       simp only[zbw]at e
       cases e3:zm5 ds s0 l[l.length - 1]with
       |inl r=>rw[e3]at e;simp at e
       | inr s1=>
         rw[e3]at e
         simp only[Sum.inr.injEq]at e
         subst e
         obtain⟨_,g2,g3,rfl⟩:=zyn e3
         rw[hlast]
         obtain⟨_,hd,hb⟩:=z9y g3
         have hr:=inR_iff.mp g2
         have he:(z34 ds l[l.length - 1].1).2.2.1=true:=by
          cases he:(z34 ds l[l.length - 1].1).2.2.1 with
          |true=>rfl
          | false=>
            rw[zej g3 he]at hs
            revert hs
            split<;>simp
         exact⟨hne,⟨hr.1,by omega⟩,hb,z6m hd he⟩
 . simp at h
def znk (x:z02) (ds:List z0f) (l:List z00):Int×Int×Bool:=if z7k x ds l then(iAt (zdc l).2.1 (z34 ds (zdc l).1).2.2.2.1.toNat,iAt (zdc l).2.1 (z34 ds (zdc l).1).2.2.2.2.1.toNat,true)else(0,0,false)
theorem z06q {l:List z00} (hne:l≠[]) (hl:(l.length:Int)<=9223372036854775807):w64 ((l.length:Int) - 1)=((l.length - 1:Nat):Int)/\l.length - 1<l.length:=by
 have:=List.length_pos_iff.mpr hne
 exact⟨by rw[z1s (by omega) (by omega)];omega,by omega⟩
theorem zf0 {x:z02} {ds:List z0f} {l:List z00}:z4p x ds l (znk x ds l).1 (znk x ds l).2.1 (znk x ds l).2.2:=zfm _ _ _ _ _ _ (by
 unfold z85
 refine⟨_,zdn,z0p (fun h=>by unfold znk;rw[h];rfl) (fun h=>z0m fun hl=>?_)⟩
 obtain⟨hne,⟨h1,h2⟩,h3,⟨h4,h5⟩,⟨h6,h7⟩⟩:=zpx h
 obtain⟨hw,hlt⟩:=z06q hne hl
 rw[hw]
 rw[show l.getD (Int.toNat ((l.length - 1:Nat):Int)) z09=zdc l by unfold zdc;rw[Int.toNat_natCast]]
 rw[show ds.getD (zdc l).1.toNat zdf=z34 ds (zdc l).1 from rfl]
 refine inI hlt ⟨⟨h1,h2⟩,⟨by omega,by omega⟩,⟨h1,h2⟩,⟨by omega,by omega⟩,?_⟩
 unfold znk;rw[h];rfl)
theorem zed {x:z02} {ds:List z0f} {l:List z00}:z4s x ds l (znk x ds l).1 (znk x ds l).2.1 (znk x ds l).2.2:=zem _ _ _ _ _ _ (by
 unfold z7y
 refine⟨_,z4k,z0p (fun h=>by unfold znk;rw[h];rfl) (fun h=>z0m fun hl=>?_)⟩
 obtain⟨hne,⟨h1,h2⟩,h3,⟨h4,h5⟩,⟨h6,h7⟩⟩:=zpx h
 obtain⟨hw,hlt⟩:=z06q hne hl
 rw[hw]
 rw[show l.getD (Int.toNat ((l.length - 1:Nat):Int)) z09=zdc l by unfold zdc;rw[Int.toNat_natCast]]
 rw[show ds.getD (zdc l).1.toNat zdf=z34 ds (zdc l).1 from rfl]
 refine inI hlt ⟨⟨h1,h2⟩,⟨by omega,by omega⟩,⟨by omega,by omega⟩,?_⟩
 unfold znk;rw[h];rfl)
theorem zf2 {l:List Int} {i j:Nat} {v:Int} (h:i<l.length):iAt (l.set i v) j=if j=i then v else iAt l j:=z078 h
def zhd (b c:List Int):Prop:=c.length=b.length/\∀ k,iAt b k≠10->iAt c k=iAt b k
theorem zps (b:List Int):zhd b b:=⟨rfl,fun _ _=>rfl⟩
theorem zwi {a b c:List Int} (h1:zhd a b) (h2:zhd b c):zhd a c:=⟨h2.1.trans h1.1,fun k hk=>by
 have e:=h1.2 k hk
 rw[h2.2 k (by rw[e];exact hk),e]⟩
def zja (c:List Int) (p:Int×Int):Prop:=if p.1<0 then p.2 = -1 - p.1 else iAt c p.1.toNat=p.2
theorem zxz:∀ {ts vs b:List Int},(zfk ts vs b).2=true->(∀ t∈ts,t<b.length)->(∀ v∈vs,v≠10)->ts.length=vs.length->
  zhd b (zfk ts vs b).1/\(∀ p∈ts.zip vs,zja (zfk ts vs b).1 p)/\∀ k:Nat,k<b.length->(iAt (zfk ts vs b).1 k≠10↔iAt b k≠10\/(k:Int)∈ts)
 |[],vs,b,_,_,_,_=>⟨zps b,by simp,by simp[zfk]⟩
 |t::ts,[],b,h,_,_,hl=>by simp at hl
 | t::ts,v::vs,b,h,h1,h2,hl=>by
   rw[zjx]at h ⊢
   have hv:v≠10:=h2 v (by simp)
   have hts:∀ t∈ts,t<b.length:=fun u hu=>h1 u (by simp[hu])
   have hvs:∀ v∈vs,v≠10:=fun u hu=>h2 u (by simp[hu])
   have hl':ts.length=vs.length:=by simpa using hl
   by_cases ht:t<0
   . rw [if_pos ht]at h ⊢
     by_cases hc : -1 - t=v
     . rw[if_pos hc]at h ⊢
       obtain⟨g1,g2,g3⟩:=zxz h hts hvs hl'
       refine⟨g1,fun p hp=>?_,fun k hk=>?_⟩
       . rw[List.zip_cons_cons]at hp
         rcases List.mem_cons.mp hp with rfl|hp
         . unfold zja;rw[if_pos ht];exact hc.symm
         . exact g2 p hp
       . rw[g3 k hk,List.mem_cons]
         have:¬ (k:Int)=t:=by omega
         simp[this]
     . rw[if_neg hc]at h;simp at h
   . rw [if_neg ht]at h ⊢
     have htb:t.toNat<b.length:=by have:=h1 t (by simp);omega
     by_cases hc:b.getD t.toNat 0=10\/b.getD t.toNat 0=v
     . rw [if_pos hc]at h ⊢
       have hlen:(b.set t.toNat v).length=b.length:=by simp
       obtain⟨g1,g2,g3⟩:=zxz h (by rw[hlen];exact hts) hvs hl'
       refine⟨⟨g1.1.trans hlen,fun k hk=>?_⟩,fun p hp=>?_,fun k hk=>?_⟩
       . by_cases hkt:k=t.toNat
         . subst hkt
           have hbv:iAt b t.toNat=v:=hc.resolve_left hk
           rw[g1.2 _ (by rw[zf2 htb,if_pos rfl];exact hv),zf2 htb,if_pos rfl,hbv]
         . have e:iAt (b.set t.toNat v) k=iAt b k:=by rw[zf2 htb,if_neg hkt]
           rw[g1.2 k (by rw[e];exact hk),e]
       . rw[List.zip_cons_cons]at hp
         rcases List.mem_cons.mp hp with rfl|hp
         . unfold zja;rw[if_neg ht]
           have e:iAt (b.set t.toNat v) t.toNat=v:=by rw[zf2 htb,if_pos rfl]
           rw[g1.2 _ (by rw[e];exact hv),e]
         . exact g2 p hp
       . rw[g3 k (by rw[hlen];exact hk),zf2 htb,List.mem_cons]
         by_cases hkt:k=t.toNat
         . have:(k:Int)=t:=by omega
           simp[hkt,hv]
           omega
         . have:¬ (k:Int)=t:=by omega
           simp[hkt,this]
     . rw[if_neg hc]at h;simp at h
theorem z07b {c c':List Int} {p:Int×Int} (hg:zhd c c') (h:zja c p) (hv:p.2≠10):zja c' p:=by
 unfold zja at h ⊢
 split
 . rename_i ht;rw[if_pos ht]at h;exact h
 . rename_i ht;rw[if_neg ht]at h;rw[hg.2 _ (by rw[h];exact hv),h]
theorem zor {v:Int} (h:zga v=true):v≠10:=by have:=inR_iff.mp h;omega
theorem z01d:∀ {ts vs c s:List Int},ts.length=vs.length->(∀ p∈ts.zip vs,zja c p)->(∀ v∈vs,zga v=true)->(∀ t∈ts,t<c.length)->zbw (zg1 c) ts s = .inr (s++vs)
 |[],[],c,s,_,_,_,_=>by simp[zbw]
 |[],v::vs,c,s,h,_,_,_=>by simp at h
 |t::ts,[],c,s,h,_,_,_=>by simp at h
 | t::ts,v::vs,c,s,h,h1,h2,h3=>by
   have hp:=h1 (t,v) (by simp)
   have hv:=h2 v (by simp)
   have e:zg1 c s t = .inr (s++[v]):=by
    unfold zg1 z039
    unfold zja at hp
    simp only at hp
    by_cases ht:t<0
    . rw[if_pos ht]at hp
      rw[if_neg (by omega),<-hp,if_pos hv]
    . rw[if_neg ht]at hp
      have hlt:=h3 t (by simp)
      have hp:c.getD t.toNat 0=v:=hp
      rw[if_pos (by omega),if_neg (by omega),hp,if_pos hv]
   simp only[zbw,e]
   rw[z01d (by simpa using h) (fun p hp=>h1 p (by simp[hp])) (fun v hv=>h2 v (by simp[hv])) (fun t ht=>h3 t (by simp[ht]))]
   simp
theorem z00g {a f:z00} {c:List Int} (h1:a.1=f.1) (hl:a.2.1.length=f.2.1.length) (hz:∀ p∈a.2.1.zip f.2.1,zja c p) (hv:∀ v∈f.2.1,zga v=true) (ht:∀ t∈a.2.1,t<c.length):z4z a c=true/\zdg a c=f:=by
 have:=z01d (s:=[]) hl hz hv ht
 unfold z4z zdg
 rw[this,List.nil_append,h1]
 exact⟨rfl,rfl⟩
theorem zvb {fs:List z00} {w:List Int->List (List Int)} {a:z00} {b c:List Int}:∀ {l:List z00} {out:List (List Int)},c∈l.foldl (zg4 fs w a b) out->c∈out\/∃ f∈l,a.1=f.1/\(zfk a.2.1 f.2.1 b).2=true/\c∈w (zfk a.2.1 f.2.1 b).1
 |[],out,h=>.inl h
 | f::l,out,h=>by
   rw[List.foldl_cons]at h
   rcases zvb h with h|⟨g,hg,h⟩
   . unfold zg4 at h
     split at h
     . rename_i hc
       rcases List.mem_append.mp h with h|h
       . exact .inl h
       . exact .inr ⟨f,by simp,hc.1,hc.2,h⟩
     . exact .inl h
   . exact .inr ⟨g,by simp[hg],h⟩
theorem zyj {fs:List z00} (hv:∀ f∈fs,∀ v∈f.2.1,zga v=true):∀ {ats:List z00} {b c:List Int},c∈zbs fs ats b->WOk fs ats->b.length=5->
  zhd b c/\(∀ a∈ats,z4z a c=true/\zdg a c∈fs)/\∀ k:Nat,k<5->(iAt c k≠10↔iAt b k≠10\/∃ a∈ats,(k:Int)∈a.2.1)
 | [],b,c,h,_,_=>by
   have:c=b:=by simpa [zbs]using h
   subst this
   exact⟨zps _,by simp,by simp⟩
 | a::ats,b,c,h,hw,hb=>by
   rcases zvb (show c∈fs.foldl (zg4 fs (zbs fs ats) a b) [] from h)with h|⟨f,hf,h1,h2,h3⟩
   . simp at h
   have hrow:=hw.row a (by simp)
   have hlen:=hw.fit a (by simp) f hf h1
   obtain⟨g1,g2,g3⟩:=zxz h2 (fun t ht=>by have:=(hrow.2 t ht).2;omega) (fun v hv'=>zor (hv f hf v hv')) hlen
   obtain⟨k1,k2,k3⟩:=zyj hv h3 hw.tail (by rw[zff];exact hb)
   have hcl:c.length=5:=by rw[k1.1,zff];exact hb
   refine⟨zwi g1 k1,fun a' ha=>?_,fun k hk=>?_⟩
   . rcases List.mem_cons.mp ha with rfl|ha
     . obtain⟨m1,m2⟩:=z00g (c:=c) h1 hlen (fun p hp=>z07b k1 (g2 p hp) (zor (hv f hf _ (List.of_mem_zip hp).2))) (hv f hf) (fun t ht=>by have:=(hrow.2 t ht).2;omega)
       exact⟨m1,m2 ▸ hf⟩
     . exact k2 a' ha
   . rw[k3 k hk,g3 k (by omega)]
     simp only[List.mem_cons,exists_eq_or_imp,or_assoc]
theorem zlo {x:z02} (h:z2r x=true):∀ f∈x.2.1,∀ v∈f.2.1,zga v=true:=fun f hf=>(z2v (z6o h hf)).2.2.2.2.2
theorem mem_vars {ats:List z00} {k:Nat}:(k:Int)∈vars ats↔∃ a∈ats,(k:Int)∈a.2.1:=by
 unfold vars
 rw[mem_sset,List.mem_filter,List.mem_flatMap]
 simp
theorem zxh {b:List Int}:∀ {ts s s':List Int},zbw (zg1 b) ts s = .inr s'->s'=s++ts.map (fun t=>if 0<=t then iAt b t.toNat else -1 - t)/\(∀ t∈ts,zga (if 0<=t then iAt b t.toNat else -1 - t)=true)
 |[],s,s',h=>by simp only[zbw,Sum.inr.injEq]at h;subst h;simp
 | t::ts,s,s',h=>by
   simp only[zbw]at h
   cases e:zg1 b s t with
   |inl _=>rw[e]at h;simp at h
   | inr s1=>
     rw[e]at h
     obtain⟨h1,h2⟩:=zxh h
     have h3:s1=s++[if 0<=t then iAt b t.toNat else -1 - t]/\zga (if 0<=t then iAt b t.toNat else -1 - t)=true:=by
      unfold zg1 z039 at e
      by_cases ht:0<=t
      . rw [if_pos ht]at e ⊢
        by_cases hl:(b.length:Int)<=t
        . rw[if_pos hl]at e;simp at e
        . rw[if_neg hl]at e
          by_cases hv:zga (b.getD t.toNat 0)=true
          . rw[if_pos hv]at e
            simp only[Sum.inr.injEq]at e
            exact⟨e.symm,hv⟩
          . rw[if_neg hv]at e;simp at e
      . rw[if_neg ht]at e ⊢
        by_cases hv:zga (-1 - t)=true
        . rw[if_pos hv]at e
          simp only[Sum.inr.injEq]at e
          exact⟨e.symm,hv⟩
        . rw[if_neg hv]at e;simp at e
     refine⟨by rw[h1,h3.1];simp,fun u hu=>?_⟩
     rcases List.mem_cons.mp hu with rfl|hu
     . exact h3.2
     . exact h2 u hu
theorem zly {a:z00} {b:List Int} (h:z4z a b=true):(zdg a b).1=a.1/\(zdg a b).2.1=a.2.1.map (fun t=>if 0<=t then iAt b t.toNat else -1 - t)/\∀ t∈a.2.1,zga (if 0<=t then iAt b t.toNat else -1 - t)=true:=by
 unfold z4z at h
 unfold zdg
 cases e:zbw (zg1 b) a.2.1 []with
 |inl r=>rw[e]at h;simp at h
 | inr s=>
   obtain⟨h1,h2⟩:=zxh e
   exact⟨rfl,by simpa using h1,h2⟩
theorem zpd {x:z02} {f:z00} (hf:f∈x.2.1) {v:Int} (hv:v∈f.2.1) (hn:zao v=true):z6p v<z2s x:=by
 have hr:=zbr x
 have hk:z6p v∈zf4 x:=by
  unfold zf4
  rw[mem_sset,List.mem_flatMap]
  refine⟨f,hf,mem_nulls.mpr ?_⟩
  have:=isNul_iff.mp hn
  have e:z6p v = -1 - v:=by unfold z6p;rw[if_pos hn]
  rw[e]
  exact⟨by omega,by omega,by rw[show -1 - (-1 - v)=v by omega];exact hv⟩
 have:=z013 (x:=x) (n:=(z2s x).toNat) |>.mp (by omega) _ hk
 omega
theorem zam {x:z02} {d:z0f} {b:List Int} (hF:zew x d b=true) {k:Nat} (hk:(k:Int)∈vars d.1):zga (iAt b k)=true/\(zao (iAt b k)=true->z6p (iAt b k)<z2s x):=by
 obtain⟨a,ha,hka⟩:=mem_vars.mp hk
 have:=List.all_eq_true.mp hF a ha
 rw[Bool.and_eq_true,decide_eq_true_eq]at this
 obtain⟨_,h2,h3⟩:=zly this.1
 have e:(if (0:Int)<=(k:Int)then iAt b (k:Int).toNat else -1 - (k:Int))=iAt b k:=by rw[if_pos (by omega),Int.toNat_natCast]
 have h4:=h3 _ hka
 rw[e]at h4
 refine⟨h4,fun hn=>zpd this.2 ?_ hn⟩
 rw[h2]
 exact List.mem_map.mpr ⟨_,hka,e⟩
theorem zzw {l:List z0s} {fs:List z00} (h1:z8s l=true) (h2:asc fs) (h3:fs.length<=30) (h4:∀ f∈fs,zm9 l f=true/\(z9a l f.1=true->zv0 f=[])):z2r (l,(fs,()))=true:=by
 rw[zq9 (x:=(l,(fs,()))) fun i hi=>?_]
 . simp only[h1,Bool.true_and];exact decide_eq_true h3
 . have hi:i<fs.length:=hi
   have hf:=h4 _ (List.getElem_mem hi)
   rw[z9n (x:=(l,(fs,()))) hi hf.1 (fun h0=>by simp only;rw[z24 (by omega)];exact h2 _ _ hi (by omega))]
   simp only
   cases hs:z9a l fs[i].1 with
   |false=>rfl
   |true=>rw[hf.2 hs];rfl
theorem zvw {x:z02} (h:z2r x=true) {f:z00} (hf:f∈x.2.1) (hs:z9a x.1 f.1=true):zv0 f=[]:=by
 unfold z2r at h
 rw[Bool.and_eq_true]at h
 obtain⟨i,hi,rfl⟩:=List.mem_iff_getElem.mp hf
 have:=List.all_eq_true.mp h.2 i (List.mem_range.mpr hi)
 unfold z7a at this
 rw[Bool.and_eq_true,z24 hi,hs,Bool.true_and]at this
 have h2:=this.2
 simp at h2
 exact h2
theorem zy8 {a:z00} {c:List Int} (h:∀ t∈a.2.1,zga (if 0<=t then iAt c t.toNat else -1 - t)=true) (ht:∀ t∈a.2.1,t<c.length):z4z a c=true/\zdg a c=(a.1,(a.2.1.map (fun t=>if 0<=t then iAt c t.toNat else -1 - t),())):=by
 refine z00g (a:=a) (c:=c) (f:=(a.1,(a.2.1.map (fun t=>if 0<=t then iAt c t.toNat else -1 - t),()))) rfl (by simp) (fun p hp=>?_) (fun v hv=>?_) ht
 . simp only at hp
   obtain⟨j,hj,rfl⟩:=List.mem_iff_getElem.mp hp
   rw[List.getElem_zip,List.getElem_map]
   unfold zja
   simp only
   split
   . rename_i h0;rw[if_neg (by omega)]
   . rename_i h0;rw[if_pos (by omega)]
 . obtain⟨t,ht',rfl⟩:=List.mem_map.mp hv
   exact h t ht'
theorem z02m {l:List z0s} {d:z0f} (h:zee l d=true) (he:d.2.2.1=false):∀ a∈d.2.1,z6u l a=true/\z9a l a.1=false:=by
 unfold zee at h
 rw[he]at h
 simp only[Bool.and_eq_true,Bool.false_eq_true,if_false]at h
 intro a ha
 have:=List.all_eq_true.mp h.2.1.1.1 a ha
 rw[Bool.and_eq_true]at this
 exact⟨this.1,by simpa using this.2⟩
def znw (x:z02) (d:z0f):List (List Int):=if zee x.1 d then(zbz x d.1).filter (fun b=>act x d b)else[]
theorem zwo {α:Type} {p:α->Bool} {l:List α} {i:Nat} (h:i<l.length):(l.take (i+1)).filter p=(l.take i).filter p++(if p l[i] then[l[i]] else[]):=by
 rw[z08 h,List.filter_append]
 congr 1
 cases hp:p l[i]<;>simp[hp]
theorem z00u {α:Type} {p:α->Bool} {l:List α} (i:Nat):((l.take i).filter p).length<=l.length:=by
 have h1:=List.length_filter_le p (l.take i)
 rw[List.length_take]at h1
 omega
theorem zm4 {x:z02} {d:z0f}:z93 x d (znw x d):=zmk _ _ _ (by
 unfold zec
 refine⟨_,z75,z0p (fun h=>by unfold znw;rw[h];rfl) (fun h=>⟨_,zqv,z0m fun _=>?_⟩)⟩
 have hl:=zk8 (x:=x) (l:=d.1)
 unfold znw
 rw[h,if_pos rfl]
 rw[show List.map (fun y=>(true,y)) (zbz x d.1)=mkd (zbz x d.1) 0 from rfl]
 refine z0x (zbz x d.1).length (fun i=>((i:Int),(((zbz x d.1).take i).filter (fun b=>act x d b),(mkd (zbz x d.1) i,())))) (by simp) ?_ ?_
 . intro i hi X hX
   have hf:=z00u (p:=fun b=>act x d b) (l:=zbz x d.1) i
   refine bcI hi (inI (by rw[zz9];exact hi) ?_)
   simp only[Int.toNat_natCast]
   rw[zzk hi]
   refine⟨rfl,_,zc4,?_⟩
   simp only
   rw[zzd hi,z06 (by omega)]
   rw[zwo hi]at hX
   refine z1w (fun h=>⟨by simp only[z1p,List.length_cons,List.length_nil];omega,?_⟩) (fun h=>?_)
   . rw[if_pos h]at hX;exact hX
   . rw[if_neg (by rw[h];simp),List.append_nil]at hX;exact hX
 . intro X
   refine bcN ?_
   simp only[List.take_length])
theorem zlr {x:z02} {d:z0f}:z9e x d (znw x d):=zm0 _ _ _ (by
 unfold ze0
 refine⟨_,z73,z0p (fun h=>by unfold znw;rw[h];rfl) (fun h=>⟨_,zru,?_⟩)⟩
 have hl:=zk8 (x:=x) (l:=d.1)
 unfold znw
 rw[h,if_pos rfl]
 refine z0x (zbz x d.1).length (fun i=>((i:Int),(((zbz x d.1).take i).filter (fun b=>act x d b),()))) (by simp) ?_ ?_
 . intro i hi X hX
   have hf:=z00u (p:=fun b=>act x d b) (l:=zbz x d.1) i
   refine z0m fun _=>bcI hi (inI hi ⟨_,z7v,?_⟩)
   simp only
   rw[z2g hi,z06 (by omega)]
   rw[zwo hi]at hX
   refine z1w (fun h=>inI hi ⟨by simp only[z1p,List.length_cons,List.length_nil];omega,?_⟩) (fun h=>?_)
   . rw[if_pos h]at hX;exact hX
   . rw[if_neg (by rw[h];simp),List.append_nil]at hX;exact hX
 . intro X
   refine z0m fun _=>bcN ?_
   simp only[List.take_length])
theorem z09p {x:z02} {d:z0f} {b:List Int} (hF:zew x d b=true) {k:Nat} (hk:(k:Int)∈vars d.1):∃ f∈x.2.1,iAt b k∈f.2.1:=by
 obtain⟨a,ha,hka⟩:=mem_vars.mp hk
 have:=List.all_eq_true.mp hF a ha
 rw[Bool.and_eq_true,decide_eq_true_eq]at this
 obtain⟨_,h2,_⟩:=zly this.1
 refine⟨_,this.2,?_⟩
 rw[h2]
 exact List.mem_map.mpr ⟨_,hka,by rw[if_pos (by omega),Int.toNat_natCast]⟩
theorem znz {l:List z0s} {d:z0f} (h:zee l d=true) (he:d.2.2.1=true):d.2.2.2.1∈vars d.1/\d.2.2.2.2.1∈vars d.1:=by
 unfold zee at h
 rw[he]at h
 simp only[Bool.and_eq_true,if_pos,decide_eq_true_eq]at h
 exact⟨h.2.1.1.2,h.2.1.2⟩
def trgG (x:z02) (ds:List z0f) (out:List z00) (i:Nat):List z00:=(znw x (ds.getD i zdf)).foldl (fun o b=>o++[((i:Int),(b,()))]) out
def zer (x:z02) (ds:List z0f):List z00:=(List.range ds.length).foldl (trgG x ds) []
theorem zuf {x:z02} {d:z0f}:(znw x d).length<=27000:=by
 unfold znw
 split
 . exact Nat.le_trans (List.length_filter_le ..) zk8
 . simp
theorem z04u {x:z02} {d:z0f} {b:List Int} (h:b∈znw x d):b.length=5:=by
 unfold znw at h
 split at h
 . exact z022 (List.mem_filter.mp h).1
 . simp at h
theorem zlp {x:z02} {ds:List z0f} {out:List z00} {i:Nat}:trgG x ds out i=out++(znw x (ds.getD i zdf)).map fun b=>((i:Int),(b,())):=zs7 _ _ _
theorem z00r {x:z02} {ds:List z0f} {out:List z00} {i:Nat}:(trgG x ds out i).length<=out.length+27000:=by
 have:=zuf (x:=x) (d:=ds.getD i zdf)
 rw[zlp,List.length_append,List.length_map]
 omega
theorem zv5 {x:z02} {ds:List z0f} {t:z00} (h:t∈zer x ds):∃ i:Nat,i<ds.length/\∃ b:List Int,b.length=5/\t=((i:Int),(b,())):=by
 have outer:∀(l:List Nat) (out:List z00),(∀ i∈l,i<ds.length)->(∀ t∈out,∃ i:Nat,i<ds.length/\∃ b:List Int,b.length=5/\t=((i:Int),(b,())))->
   ∀ t∈l.foldl (trgG x ds) out,∃ i:Nat,i<ds.length/\∃ b:List Int,b.length=5/\t=((i:Int),(b,())):=by
  intro l
  induction l with
  |nil=>intro out _ ho;exact ho
  | cons i l ih=>
    intro out hl ho
    rw[List.foldl_cons]
    refine ih _ (fun c hc=>hl c (by simp[hc])) fun t ht=>?_
    rw[zlp]at ht
    rcases List.mem_append.mp ht with ht|ht
    . exact ho t ht
    . obtain⟨b,hb,rfl⟩:=List.mem_map.mp ht
      exact⟨i,hl i (by simp),b,z04u hb,rfl⟩
 exact outer _ [] (fun i hi=>List.mem_range.mp hi) (by simp) t h
theorem zrc {x:z02} {ds:List z0f} (hds:ds.length<=5):zd5 x ds (zer x ds):=zra _ _ _ (by
 unfold ziy
 refine z0m fun _=>zod ds.length (trgG x ds) [] (fun i o=>((i:Int),(o,()))) List.length 27000 5 hds (fun o i _=>z00r) ?_ ?_
 . intro i hi o X ho hX
   unfold trgG at hX
   rw[z8q hi]at hX
   refine bcI hi (inI hi ⟨_,zm4,?_⟩)
   simp only
   rw[z2g hi,z06 (by omega)]
   refine z0m fun _=>?_
   rw[show List.map (fun y=>(true,y)) (znw x ds[i])=mkd (znw x ds[i]) 0 from rfl]
   refine z3a (znw x ds[i]) (fun o b=>o++[((i:Int),(b,()))]) o (fun j o=>((j:Int),(o,(mkd (znw x ds[i]) j,())))) List.length 1 27000 zuf (fun o b _=>by simp) ?_ ?_
   . intro j hj o' Y ho' hY
     simp only[List.length_nil]at ho
     refine bcI hj (inI (by rw[zz9];exact hj) ?_)
     simp only[Int.toNat_natCast]
     rw[zzk hj]
     refine⟨rfl,by simp only[z1p,List.length_cons,List.length_nil];omega,?_⟩
     simp only
     rw[zzd hj,z06 (by omega)]
     exact hY
   . intro Y _
     exact bcN hX
 . intro X _
   exact bcN rfl)
theorem z03t {x:z02} {ds:List z0f} (hds:ds.length<=5):zq2 x ds (zer x ds):=z05o _ _ _ (by
 unfold zvd
 refine zod ds.length (trgG x ds) [] (fun i o=>((i:Int),(o,()))) List.length 27000 5 hds (fun o i _=>z00r) ?_ ?_
 . intro i hi o X ho hX
   unfold trgG at hX
   rw[z8q hi]at hX
   refine z0m fun _=>bcI hi (inI hi ⟨_,zlr,?_⟩)
   simp only
   rw[z2g hi,z06 (by omega)]
   refine z3a (znw x ds[i]) (fun o b=>o++[((i:Int),(b,()))]) o (fun j o=>((j:Int),(o,()))) List.length 1 27000 zuf (fun o b _=>by simp) ?_ ?_
   . intro j hj o' Y ho' hY
     simp only[List.length_nil]at ho
     refine z0m fun _=>bcI hj (inI hj ⟨by simp only[z1p,List.length_cons,List.length_nil];omega,?_⟩)
     simp only
     rw[z2g hj,z06 (by omega)]
     exact hY
   . intro Y _
     exact z0m fun _=>bcN hX
 . intro X _
   exact z0m fun _=>bcN rfl)
def chK (ds:List z0f):Nat->z02->List z00->zv1
 |0,x,l=>(x,(3,(l,())))
 | n+1,x,l=>match zer x ds with
   |[]=>(x,(1,(l,())))
   | t::_=>if (zbf x (ds.getD t.1.toNat zdf) t.2.1).2=1 then chK ds n (zbf x (ds.getD t.1.toNat zdf) t.2.1).1 (l++[t])
     else((zbf x (ds.getD t.1.toNat zdf) t.2.1).1,((zbf x (ds.getD t.1.toNat zdf) t.2.1).2,(l++[t],())))
def chs (x:z02) (ds:List z0f):zv1×Bool:=if z2r x&&zgd x.1 ds then(chK ds 60 x [],true)else((([],([],())),(0,([],()))),false)
theorem zmh {x:z02} {ds:List z0f}:z98 x ds [] (chs x ds).1 (chs x ds).2:=zlw _ _ _ _ _ (by
 unfold zdp
 refine⟨_,z3y,z0p (fun h=>by unfold chs;rw[h];rfl) (fun h1=>⟨_,z88,z0p (fun h=>by unfold chs;rw[h1,h];rfl) (fun h2=>?_)⟩)⟩
 have hr:=zbl (z99 h1)
 have hf:=z9u h1
 have hdl:=zq6 h2
 have hR:chs x ds=(chK ds 60 x [],true):=by unfold chs;rw[h1,h2];rfl
 rw[hR]
 refine⟨x,z65 (by omega) (by omega) (fun f hf=>zpj h1 hf),?_⟩
 refine z1f (fun k a=>0<k/\∃(n:Nat) (y:z02) (c:Int) (l:List z00),a=((n:Int),((y,(c,(l,()))),()))/\SmI y/\l.length=n/\
  ((c=1/\n+(k - 1)=60/\chK ds (k - 1) y l=chK ds 60 x [])\/(¬ c=1/\(y,(c,(l,())))=chK ds 60 x []))) ?_ ?_ (n:=61) ⟨by omega,0,x,1,[],rfl,.of h1,rfl,.inl ⟨rfl,rfl,rfl⟩⟩
 . rintro a ⟨hk,_⟩ X
   omega
 . rintro k a ⟨_,n,y,c,l,rfl,hy,hl,⟨rfl,hn,he⟩|⟨hc,he⟩⟩ X hX
   . rw[Nat.add_sub_cancel]at hn he
     refine z4a (fun _=>?_) (fun h=>absurd rfl h)
     refine z4a (fun h=>?_) (fun h=>?_)
     . simp only at h
       obtain rfl:k=0:=by omega
       rw[<-he];rfl
     . simp only at h
       obtain⟨k,rfl⟩:∃ j,k=j+1:=⟨k - 1,by omega⟩
       refine⟨_,zrc hdl,z0m fun _=>?_⟩
       rw[<-he]at hX ⊢
       rw[chK]at hX ⊢
       cases ht:zer y ds with
       |nil=>exact z4a (fun _=>rfl) (fun h=>absurd rfl h)
       | cons t ts=>
         obtain⟨i,hi,b,hb,rfl⟩:=zv5 (x:=y) (ds:=ds) (t:=t) (by rw[ht];simp)
         rw[ht]at hX
         simp only at hX ⊢
         refine z4a (fun h=>by simp at h;omega) (fun _=>z0m fun _=>bcF ⟨⟨by omega,by simp⟩,rfl,⟨by show(0:Int)<=(i:Int);omega,by show(i:Int)<_;omega⟩,_,_,zgy hy,?_,?_⟩)
         . simp only[z1p,List.length_cons,List.length_nil];omega
         . by_cases h:(zbf y (ds.getD (Int.toNat (i:Int)) zdf) b).2=1
           . rw[if_pos h]at hX
             have:=hX ((n+1:Nat),(((zbf y (ds.getD (Int.toNat (i:Int)) zdf) b).1,(1,(l++[((i:Int),(b,()))],()))),())) ⟨by omega,n+1,_,1,_,rfl,hy.step,by simp;omega,.inl ⟨rfl,by omega,rfl⟩⟩
             rw[<-h,<-z06 (show n<9223372036854775807 by omega)]at this
             exact this
           . rw[if_neg h]at hX
             have:=hX ((n+1:Nat),(((zbf y (ds.getD (Int.toNat (i:Int)) zdf) b).1,((zbf y (ds.getD (Int.toNat (i:Int)) zdf) b).2,(l++[((i:Int),(b,()))],()))),())) ⟨by omega,n+1,_,_,_,rfl,hy.step,by simp;omega,.inr ⟨h,rfl⟩⟩
             rw[<-z06 (show n<9223372036854775807 by omega)]at this
             exact this
   . exact z4a (fun h=>absurd h hc) (fun _=>by rw[<-he])
 )
theorem z085 {x:z02} {ds:List z0f}:zul x ds (chs x ds).1 (chs x ds).2:=z08g _ _ _ _ (by
 unfold z006
 exact⟨_,_,zmh,rfl⟩)
def Rd {ρ:Type} (P:ρ->Prop) (A:Prop) (B:ρ->Prop):Prop:=A->∃ v,P v/\B v
section
variable {ρ:Type} {P:ρ->Prop}
theorem rk {x:ρ}:Rd P (P x) (fun v=>x=v):=fun h=>⟨x,h,rfl⟩
theorem rb {b:Bool} {A1 A2:Prop} {B1 B2:ρ->Prop} (h1:Rd P A1 B1) (h2:Rd P A2 B2):Rd P (z01 b A1 A2) (fun v=>z01 b (B1 v) (B2 v)):=by
 cases b
 . exact h2
 . exact h1
theorem ra {C A:Prop} {B:ρ->Prop} (h:Rd P A B):Rd P (C/\A) (fun v=>C/\B v):=fun⟨c,a⟩=>(h a).imp fun _ hv=>⟨hv.1,c,hv.2⟩
theorem re {α:Type} {A:α->Prop} {B:α->ρ->Prop} (h:∀ y,Rd P (A y) (B y)):Rd P (∃ y,A y) (fun v=>∃ y,B y v):=fun⟨y,a⟩=>(h y a).imp fun _ hv=>⟨hv.1,y,hv.2⟩
theorem rl (hi:∃ v,P v) {n:Int} {A:Prop} {B:ρ->Prop} (h:Rd P A B):Rd P (z0t n A) (fun v=>z0t n (B v)):=fun a=>by
 by_cases hn:n<=9223372036854775807
 . exact(h (a hn)).imp fun _ hv=>⟨hv.1,fun _=>hv.2⟩
 . exact hi.imp fun _ hv=>⟨hv,fun h=>absurd h hn⟩
theorem rp {σ:Type} {BP:(σ->Prop)->σ->Prop} {BV:ρ->(σ->Prop)->σ->Prop} {a0:σ}
  (h:∀(XP:σ->Prop) (XV:ρ->σ->Prop),(∀ b,Rd P (XP b) (fun v=>XV v b))->∀ a,Rd P (BP XP a) (fun v=>BV v (XV v) a)):Rd P (z0l BP a0) (fun v=>z0l (BV v) a0):=by
 rintro⟨n,hn⟩
 have key:∀ n a,Rd P (zwc BP n a) (fun v=>zwc (BV v) n a):=by
  intro n
  induction n with
  |zero=>intro a h;exact h.elim
  |succ n ih=>intro a;exact h _ (fun v=>zwc (BV v) n) ih a
 exact(key n a0 hn).imp fun _ hv=>⟨hv.1,n,hv.2⟩
theorem zll {S:(ρ->Prop)->Prop} (h:S P) (hi:∃ v,P v) (hr:(∃ v,P v)->Rd P (S P) (fun v=>S (fun q=>q=v))):∃ v,P v/\S (fun q=>q=v):=hr hi h
end
abbrev Src:=List Int×Int×Int×Unit
def Oks (s:Src):Prop:=0<=s.2.1/\s.1.length<=4611686018427387903
theorem z00p (x:Int):0<=z8w .and .i64 x 255/\z8w .and .i64 x 255<=255:=by
 show 0<=IntKind.i64.wrap ((BitVec.ofInt 64 x &&& BitVec.ofInt 64 255).toNat:Int)/\IntKind.i64.wrap ((BitVec.ofInt 64 x &&& BitVec.ofInt 64 255).toNat:Int)<=255
 have h:(BitVec.ofInt 64 x &&& BitVec.ofInt 64 255).toNat<=255:=by
  rw[BitVec.toNat_and]
  exact Nat.le_trans Nat.and_le_right (by decide)
 generalize (BitVec.ofInt 64 x &&& BitVec.ofInt 64 255).toNat=n at h
 have e:IntKind.i64.wrap (n:Int)=(n:Int):=z1s (by omega) (by omega)
 rw[e];omega
theorem z0d9 {s:Src} (h:Oks s):∃ y z,z4o s y z/\(0<=y/\y<=255)/\Oks z:=by
 have hl:=h.2
 have h0:=h.1
 have hs:z8b s (fun q=>(0<=q.1/\q.1<=255)/\Oks q.2.1):=by
  unfold z8b
  refine⟨by decide,by decide,z0m fun _=>z0e (fun hlt=>⟨⟨h0,hlt⟩,z00p _,?_,hl⟩) (fun _=>⟨z00p _,h⟩)⟩
  show 0<=w64 (s.2.1+1)
  rw[z1s (by omega) (by omega)];omega
 obtain⟨⟨y,z,_⟩,hq,hv⟩:=zll (S:=z8b s) hs ⟨(0,(s,())),⟨Int.le_refl (0:Int),(by decide:(0:Int)<=255)⟩,h⟩ fun hi=>by
  unfold z8b
  repeat' first|exact rk|apply_assumption|refine rb ?_ ?_|refine rl hi ?_|refine ra ?_|(refine rp ?_;intro _ _ _ _)|(refine re ?_;intro _)
 exact⟨y,z,zto _ _ _ hv,hq.1,hq.2⟩
theorem z6x {s:Src} {n:Int} (h:Oks s) (h1:0<n) (h2:n<=256):∃ y z,z0k s n y z/\(0<=y/\y<n)/\Oks z:=by
 obtain⟨y,z,g,y0,hz⟩:=z0d9 h
 refine⟨Int.tmod y n,z,zs0 _ _ _ _ ?_,⟨?_,?_⟩,hz⟩
 . unfold zj1
   rw[z0a2 (by omega)]
   exact z0e (fun _=>⟨y,z,g,by omega,rfl⟩) (fun h=>absurd h2 h)
 . exact Int.tmod_nonneg _ y0.1
 . exact Int.tmod_lt_of_pos _ h1
theorem zsw {s:Src} {n:Int} (h:Oks s) (h1:0<n) (h2:n<=256):∃ y z,z3n s n y z/\Oks z:=by
 obtain⟨y,z,g,_,hz⟩:=z6x h h1 h2
 exact⟨_,z,zuz _ _ _ _ ⟨y,z,g,rfl⟩,hz⟩
def sigs:List z0s:=[([97],(2,(true,()))),([98],(1,(true,()))),([112],(2,(false,()))),([113],(2,(false,()))),([114],(1,(false,())))]
theorem zgw:zb6 sigs:=z04g _ rfl
theorem zve (i:Nat) (h:i<sigs.length):1<=(sigs[i]).2.1/\(sigs[i]).2.1<=2:=by
 match i,h with
 |0,_|2,_|3,_=>exact⟨(by decide:(1:Int)<=2),(by decide:(2:Int)<=2)⟩
 |1,_|4,_=>exact⟨(by decide:(1:Int)<=1),(by decide:(1:Int)<=2)⟩
theorem z0br {s:Src} {n:Int} (h:Oks s) (h2:n<=40):∃ y z,zcz s n y z/\(-40<=y/\y<3)/\Oks z:=by
 have hs:z7g s n (fun q=>(-40<=q.1/\q.1<3)/\Oks q.2.1):=by
  unfold z7g
  refine z0e (fun hn=>?_) (fun hn=>?_)
  . obtain⟨b,z,g,hz⟩:=zsw h (n:=2) (by decide) (by decide)
    obtain⟨v,z1,g1,hv,hz1⟩:=z6x hz (n:=n) (by omega) (by omega)
    obtain⟨u,z2,g2,hu,hz2⟩:=z6x hz (n:=3) (by decide) (by decide)
    exact⟨b,z,g,z1w (fun _=>⟨v,z1,g1,_,zgk hv.1 (by omega),⟨by simp only;omega,by simp only;omega⟩,hz1⟩) (fun _=>⟨u,z2,g2,⟨by simp only;omega,hu.2⟩,hz2⟩)⟩
  . obtain⟨u,z2,g2,hu,hz2⟩:=z6x h (n:=3) (by decide) (by decide)
    exact⟨u,z2,g2,⟨by simp only;omega,hu.2⟩,hz2⟩
 obtain⟨⟨y,z,_⟩,hq,hv⟩:=zll (S:=z7g s n) hs ⟨(0,(s,())),⟨(by decide:(-40:Int)<=0),(by decide:(0:Int)<3)⟩,h⟩ fun hi=>by
  unfold z7g
  repeat' first|exact rk|apply_assumption|refine rb ?_ ?_|refine ra ?_|(refine rp ?_;intro _ _ _ _)|(refine re ?_;intro _)
 exact⟨y,z,zry _ _ _ _ hv,hq.1,hq.2⟩
def SmR (r:Int) (f:z00):Prop:=f.1=r/\1<=f.2.1.length/\f.2.1.length<=2
theorem z0cf {s:Src} {r n:Int} (h:Oks s) (h0:0<=r) (h1:r<5) (h2:n<=40):∃ y z,zf7 s r n y z/\SmR r y/\Oks z:=by
 obtain⟨i,rfl⟩:∃ i:Nat,r=(i:Int):=⟨r.toNat,by omega⟩
 have hi:i<sigs.length:=by show i<5;omega
 have ha:=zve i hi
 have hs:z87 s i n (fun q=>SmR i q.1/\Oks q.2.1):=by
  unfold z87
  refine⟨_,zgw,?_⟩
  refine z1f (fun k a=>∃(c:Src) (l:List Int),a=(c,(((i:Int),(l,())),()))/\Oks c/\l.length+k=(sigs[i]).2.1.toNat) ?_ ?_ (n:=(sigs[i]).2.1.toNat) ⟨s,[],rfl,h,by simp⟩
  . rintro a ⟨c,l,rfl,hc,hl⟩ X
    refine inI hi (z0m fun _=>?_)
    rw[z2g hi]
    exact z0e (fun h=>by simp only at h;omega) (fun _=>⟨⟨rfl,by simp only;omega,by simp only;omega⟩,hc⟩)
  . rintro k a ⟨c,l,rfl,hc,hl⟩ X hX
    obtain⟨v,z,g,_,hz⟩:=z0br hc h2
    refine inI hi (z0m fun _=>?_)
    rw[z2g hi]
    exact z0e (fun h=>⟨v,z,g,by simp only[z1p,List.length_cons,List.length_nil];omega,hX _ ⟨z,l++[v],rfl,hz,by simp;omega⟩⟩) (fun h=>by simp only at h;omega)
 obtain⟨⟨y,z,_⟩,hq,hv⟩:=zll (S:=z87 s i n) hs ⟨((i,([0],())),(s,())),⟨rfl,(by decide:1<=1),(by decide:1<=2)⟩,h⟩ fun hi=>by
  unfold z87
  repeat' first|exact rk|apply_assumption|refine rb ?_ ?_|refine rl hi ?_|refine ra ?_|(refine rp ?_;intro _ _ _ _)|(refine re ?_;intro _)
 exact⟨y,z,zu7 _ _ _ _ _ hv,hq.1,hq.2⟩
theorem z09t {s:Src} {r n:Int} (h:Oks s) (h0:0<=r) (h1:r<5) (hn0:0<n) (h2:n<=40):∃ y z,z6n s r n y z/\SmR r y/\Oks z:=by
 obtain⟨i,rfl⟩:∃ i:Nat,r=(i:Int):=⟨r.toNat,by omega⟩
 have hi:i<sigs.length:=by show i<5;omega
 have ha:=zve i hi
 have hs:z84 s i n (fun q=>SmR i q.1/\Oks q.2.1):=by
  unfold z84
  refine⟨_,zgw,?_⟩
  refine z1f (fun k a=>∃(c:Src) (l:List Int),a=(c,(((i:Int),(l,())),()))/\Oks c/\l.length+k=(sigs[i]).2.1.toNat) ?_ ?_ (n:=(sigs[i]).2.1.toNat) ⟨s,[],rfl,h,by simp⟩
  . rintro a ⟨c,l,rfl,hc,hl⟩ X
    refine inI hi (z0m fun _=>?_)
    rw[z2g hi]
    exact z0e (fun h=>by simp only at h;omega) (fun _=>⟨⟨rfl,by simp only;omega,by simp only;omega⟩,hc⟩)
  . rintro k a ⟨c,l,rfl,hc,hl⟩ X hX
    obtain⟨b,z,g,hz⟩:=zsw hc (n:=14) (by decide) (by decide)
    obtain⟨u,z1,g1,_,hz1⟩:=z6x hz (n:=3) (by decide) (by decide)
    obtain⟨v,z2,g2,_,hz2⟩:=z6x hz (n:=n) hn0 (by omega)
    refine inI hi (z0m fun _=>?_)
    rw[z2g hi]
    exact z0e (fun h=>⟨b,z,g,z1w (fun _=>⟨u,z1,g1,by simp only[z1p,List.length_cons,List.length_nil];omega,hX _ ⟨z1,_,rfl,hz1,by simp;omega⟩⟩)
     (fun _=>⟨v,z2,g2,by simp only[z1p,List.length_cons,List.length_nil];omega,hX _ ⟨z2,_,rfl,hz2,by simp;omega⟩⟩)⟩) (fun h=>by simp only at h;omega)
 obtain⟨⟨y,z,_⟩,hq,hv⟩:=zll (S:=z84 s i n) hs ⟨((i,([0],())),(s,())),⟨rfl,(by decide:1<=1),(by decide:1<=2)⟩,h⟩ fun hi=>by
  unfold z84
  repeat' first|exact rk|apply_assumption|refine rb ?_ ?_|refine rl hi ?_|refine ra ?_|(refine rp ?_;intro _ _ _ _)|(refine re ?_;intro _)
 exact⟨y,z,zty _ _ _ _ _ hv,hq.1,hq.2⟩
theorem zr9 {l:List z00} (hl:(l.flatMap (·.2.1)).length<=1073741824):z6g l (vars l) l:=zgs _ _ _ (by
 unfold za3
 refine z0x l.length (fun i=>((i:Int),(vars (l.take i),()))) (by simp[vars,zg2]) ?_ ?_
 . intro i hi X hX
   refine z0m fun hl1=>bcI hi ?_
   simp only
   rw[z2g hi]
   have hsub:((l.take i).flatMap (·.2.1)).length+l[i].2.1.length<=1073741824:=by
    have:=ze5 (·.2.1) hi
    omega
   have hset:∀ j,j<=l[i].2.1.length->(zg2 (((l.take i).flatMap (·.2.1)++l[i].2.1.take j).filter fun t=>decide (0<=t))).length<=1073741824:=by
    intro j hj
    refine Nat.le_trans (zu4 _) (Nat.le_trans (List.length_filter_le _ _) ?_)
    rw[List.length_append,List.length_take];omega
   refine z0x l[i].2.1.length (fun j=>(zg2 (((l.take i).flatMap (·.2.1)++l[i].2.1.take j).filter fun t=>decide (0<=t)),((j:Int),()))) (by simp[vars]) ?_ ?_
   . intro j hj Y hY
     refine inI hi (z0m fun _=>bcI hj (inI hi (inI hj ?_)))
     simp only
     rw[z2g hj,z06 (by omega)]
     have e:((l.take i).flatMap (·.2.1)++l[i].2.1.take (j+1)).filter (fun t=>decide (0<=t))=((l.take i).flatMap (·.2.1)++l[i].2.1.take j).filter (fun t=>decide (0<=t))++(if 0<=l[i].2.1[j] then[l[i].2.1[j]] else[]):=by
      rw[z08 hj,<-List.append_assoc,List.filter_append]
      by_cases h:0<=l[i].2.1[j]<;>simp[h]
     rw[e]at hY
     refine z0e (fun h=>inI hi (inI hj ⟨_,zo2 (hset j (by omega)),?_⟩)) (fun h=>?_)
     . have h:0<=l[i].2.1[j]:=h
       rw[if_pos h]at hY
       rw[zqf];exact hY
     . have h:¬ 0<=l[i].2.1[j]:=h
       rw[if_neg h,List.append_nil]at hY;exact hY
   . intro Y
     refine inI hi (z0m fun _=>bcN ?_)
     simp only
     rw[z06 (by omega),List.take_length]
     have:zg2 (((l.take i).flatMap (·.2.1)++l[i].2.1).filter fun t=>decide (0<=t))=vars (l.take (i+1)):=by
      unfold vars;rw[z08 hi,List.flatMap_append];simp
     rw[this];exact hX
 . intro X
   refine z0m fun _=>bcN ?_
   simp only[List.take_length])
def SmB (l:List z00):Prop:=∀ f∈l,1<=f.2.1.length/\f.2.1.length<=2
def SmD (n:Nat) (d:z0f):Prop:=(1<=d.1.length/\d.1.length<=2)/\d.2.1.length<=n/\SmB d.1/\SmB d.2.1
theorem SmD.ok {n:Nat} {d:z0f} (h:SmD n d) (hn:n<=1000):z0dv d:=
 ⟨⟨by have:=h.1.2;omega,fun f hf=>by have:=(h.2.2.1 f hf).2;omega⟩,⟨by have:=h.2.1;omega,fun f hf=>by have:=(h.2.2.2 f hf).2;omega⟩⟩
theorem SmB.snoc {l:List z00} {f:z00} (h:SmB l) (hf:1<=f.2.1.length/\f.2.1.length<=2):SmB (l++[f]):=fun g hg=>by
 rcases List.mem_append.mp hg with hg|hg
 . exact h g hg
 . obtain rfl:=List.mem_singleton.mp hg;exact hf
theorem SmB.flat {l:List z00} (h:SmB l):(l.flatMap (·.2.1)).length<=l.length * 2:=by
 induction l with
 |nil=>simp
 | cons a l ih=>
   have:=ih fun f hf=>h f (by simp[hf])
   have:=(h a (by simp)).2
   simp only[List.flatMap_cons,List.length_append,List.length_cons]
   omega
theorem smd0:SmD 2 ([(0,([0],()))],([],(false,(0,(0,()))))):=by unfold SmD SmB;decide
theorem both {b:Bool} {A B:Prop} (h1:A) (h2:B):z01 b A B:=by
 cases b
 . exact h2
 . exact h1
theorem zud {k:Nat} (h:k<=1000):w64 (((k+1:Nat):Int) - 1)=(k:Int):=by rw[z1s (by omega) (by omega)];omega
theorem z03u {s:Src} (h:Oks s):∃ y z,z9l s y z/\SmD 2 y/\Oks z:=by
 obtain⟨v,z,g,_,hz⟩:=z6x h (n:=9) (by decide) (by decide)
 have hs:z79 s (fun q=>SmD 2 q.1/\Oks q.2.1):=by
  unfold z79
  refine⟨v,z,g,?_⟩
  have hd:∀ {d:z0f},SmD 2 d->SmD 2 ((d,(z,())):z0f×Src×Unit).1/\Oks ((d,(z,())):z0f×Src×Unit).2.1:=fun h=>⟨h,hz⟩
  refine both (hd (by unfold SmD SmB;decide)) (both (hd (by unfold SmD SmB;decide)) (both (hd (by unfold SmD SmB;decide)) (both (hd (by unfold SmD SmB;decide)) (both (hd (by unfold SmD SmB;decide)) (both (hd (by unfold SmD SmB;decide)) (both (hd (by unfold SmD SmB;decide)) (both (hd (by unfold SmD SmB;decide)) (hd (by unfold SmD SmB;decide)))))))))
 obtain⟨⟨y,z,_⟩,hq,hv⟩:=zll (S:=z79 s) hs ⟨((([(0,([0],()))],([],(false,(0,(0,()))))):z0f),(s,())),smd0,h⟩ fun hi=>by
  unfold z79
  repeat' first|exact rk|apply_assumption|refine rb ?_ ?_|refine rl hi ?_|refine ra ?_|(refine rp ?_;intro _ _ _ _)|(refine re ?_;intro _)
 exact⟨y,z,zrd _ _ _ hv,hq.1,hq.2⟩
theorem z0ch {s:Src} (h:Oks s):∃ y z,zef s y z/\SmD 2 y/\Oks z:=by
 have hs:z8k s (fun q=>SmD 2 q.1/\Oks q.2.1):=by
  unfold z8k
  obtain⟨b,z,g,hz⟩:=zsw h (n:=3) (by decide) (by decide)
  refine⟨b,z,g,both ?_ ?_⟩
  . obtain⟨y,z1,g1,hy,hz1⟩:=z03u hz
    exact⟨y,z1,g1,hy,hz1⟩
  . obtain⟨v,z1,g1,hv,hz1⟩:=z6x hz (n:=2) (by decide) (by decide)
    obtain⟨N,hN⟩:∃ N:Nat,1+v=(N:Int):=⟨(1+v).toNat,by omega⟩
    refine⟨v,z1,g1,?_⟩
    rw[show w64 (1+v)=(N:Int) by rw[hN];exact z1s (by omega) (by omega)]
    refine z1f (fun k a=>∃(c:Src) (l:List z00),a=((k:Int),(c,((l,(([]:List z00),(false,((0:Int),((0:Int),()))))),())))/\Oks c/\l.length+k=N/\SmB l) ?_ ?_ (n:=N) ⟨z1,[],rfl,hz1,by simp,fun f hf=>by simp at hf⟩
    . rintro a ⟨c,l,rfl,hc,hl,hb⟩ X
      refine z0e (fun h=>by simp at h) (fun _=>?_)
      have hfl:=hb.flat
      refine⟨_,_,zr9 (l:=l) (by omega),z0m fun _=>?_⟩
      have head:∀ {c:Src},Oks c->∃ y17 y18,z0k c 2 y17 y18/\(0<=y17/\y17<2)/\Oks y18:=fun hc=>z6x hc (by decide) (by decide)
      have tail:∀ {u:Int} {c:Src},0<=u/\u<2->Oks c->z0l (fun(again20:Int×Src×z0f×Unit->Prop) (a19:Int×Src×z0f×Unit)=>z01 (decide (a19.1 > (0:Int))) (∃ y21:Int,∃ y22:Src,z0k a19.2.1 (3:Int) y21 y22/\(∃ y23:z00,∃ y24:Src,z6n y22 (w64 ((2:Int)+y21)) (4:Int) y23 y24/\(a19.2.2.1.2.1.length+([(y23.1,(y23.2.1,y23.2.2))]:List z00).length<=z1p/\(again20 (w64 (a19.1 - (1:Int)),(y24,((a19.2.2.1.1,(a19.2.2.1.2.1++([(y23.1,(y23.2.1,y23.2.2))]:List z00),a19.2.2.1.2.2)),()))))))) (SmD 2 ((a19.2.2.1.1,(a19.2.2.1.2.1,a19.2.2.1.2.2)):z0f)/\Oks a19.2.1)) (w64 ((1:Int)+u),(c,((l,(([]:List z00),(false,((0:Int),((0:Int),()))))),()))):=by
       intro u c hu hc
       obtain⟨M,hM⟩:∃ M:Nat,1+u=(M:Int):=⟨(1+u).toNat,by omega⟩
       rw[show w64 (1+u)=(M:Int) by rw[hM];exact z1s (by omega) (by omega)]
       refine z1f (fun k a=>∃(c:Src) (m:List z00),a=((k:Int),(c,((l,(m,(false,((0:Int),((0:Int),()))))),())))/\Oks c/\m.length+k=M/\SmB m) ?_ ?_ (n:=M) ⟨c,[],rfl,hc,by simp,fun f hf=>by simp at hf⟩
       . rintro a ⟨c,m,rfl,hc,hm,hb2⟩ X
         exact z0e (fun h=>by simp at h) (fun _=>⟨⟨⟨by simp only;omega,by simp only;omega⟩,by simp only;omega,hb,hb2⟩,hc⟩)
       . rintro k a ⟨c,m,rfl,hc,hm,hb2⟩ X hX
         obtain⟨u,z1,g1,hu,hz1⟩:=z6x hc (n:=3) (by decide) (by decide)
         obtain⟨f,z2,g2,hf,hz2⟩:=z09t hz1 (r:=2+u) (n:=4) (by omega) (by omega) (by decide) (by decide)
         refine z0e (fun _=>⟨u,z1,g1,f,z2,?_,?_,?_⟩) (fun h=>by simp at h<;>omega)
         . rw[z1s (by omega) (by omega)];exact g2
         . simp only[z1p,List.length_cons,List.length_nil];omega
         . simp only
           rw[zud (by omega)]
           exact hX _ ⟨z2,m++[f],rfl,hz2,by simp;omega,hb2.snoc hf.2⟩
      obtain⟨b2,z2,g2,hz2⟩:=zsw hc (n:=3) (by decide) (by decide)
      obtain⟨u,z3,g3,hu,hz3⟩:=head hz2
      obtain⟨u',z3',g3',hu',hz3'⟩:=head hc
      refine z0e (fun hgt=>⟨b2,z2,g2,both ⟨⟨by omega,by omega⟩,⟨by omega,by omega⟩,⟨⟨by simp only;omega,by simp only;omega⟩,by simp,hb,fun f hf=>by simp at hf⟩,hz2⟩ ⟨u,z3,g3,tail hu hz3⟩⟩) (fun _=>⟨u',z3',g3',tail hu' hz3'⟩)
    . rintro k a ⟨c,l,rfl,hc,hl,hb⟩ X hX
      obtain⟨r,z1,g1,hr,hz1⟩:=z6x hc (n:=5) (by decide) (by decide)
      obtain⟨f,z2,g2,hf,hz2⟩:=z09t hz1 (r:=r) (n:=3) hr.1 hr.2 (by decide) (by decide)
      refine z0e (fun _=>⟨r,z1,g1,f,z2,g2,?_,?_⟩) (fun h=>by simp at h<;>omega)
      . simp only[z1p,List.length_cons,List.length_nil];omega
      . simp only
        rw[zud (by omega)]
        exact hX _ ⟨z2,l++[f],rfl,hz2,by simp;omega,hb.snoc hf.2⟩
 obtain⟨⟨y,z,_⟩,hq,hv⟩:=zll (S:=z8k s) hs ⟨((([(0,([0],()))],([],(false,(0,(0,()))))):z0f),(s,())),smd0,h⟩ fun hi=>by
  unfold z8k
  repeat' first|exact rk|apply_assumption|refine rb ?_ ?_|refine rl hi ?_|refine ra ?_|(refine rp ?_;intro _ _ _ _)|(refine re ?_;intro _)
 exact⟨y,z,ztt _ _ _ hv,hq.1,hq.2⟩
theorem znt {k M:Int} (h0:0<=k) (h1:k<=39) (hM:zga M=true):zgb ([k],([M],()))=true:=by
 refine ztq rfl fun i hi=>?_
 have hi:i=0:=by have:i<1:=hi;omega
 subst hi
 have e1:iAt [k] 0=k:=rfl
 have e2:iAt [M] 0=M:=rfl
 unfold zg9
 simp only
 rw[e1,e2,hM,inR_iff.mpr ⟨h0,h1⟩];rfl
theorem zzb {k M:Int} (h0:0<=k) (h1:k<=39) (hM:zga M=true) {w:Int}:zon ([k],([M],())) w=if w = -1 - k then M else w:=by
 unfold zon
 rw[znt h0 h1 hM,if_pos rfl]
 by_cases h : -1 - k=w
 . have e:z05 (fun k=>decide (-1 - k=w)) [k]=0:=by unfold z05;rw[decide_eq_true h];rfl
   simp only[e]
   rw[if_pos h.symm];rfl
 . have e:z05 (fun k=>decide (-1 - k=w)) [k]=1:=by unfold z05 z05;rw[decide_eq_false h];rfl
   simp only[e]
   rw[if_neg (show ¬ 1<[k].length by simp),if_neg (fun h':w = -1 - k=>h h'.symm)]
theorem z042 {f:z00} (h:zv0 f=[]) {v:Int} (hv:v∈f.2.1):zao v=false:=by
 cases hn:zao v with
 |false=>rfl
 | true=>
   have h1:=isNul_iff.mp hn
   have:(-1 - v)∈zv0 f:=mem_sset.mpr (mem_nulls.mpr ⟨by omega,by omega,by rw[show -1 - (-1 - v)=v by omega];exact hv⟩)
   rw[h]at this;cases this
theorem z0ds {x:List Int} (h:x.length<=1048576):∃ z,zuo x z/\Oks z:=by
 have hs:zka x (fun q=>Oks q.1):=by
  unfold zka
  refine z0m fun _=>?_
  refine z1f (fun k a=>∃(v:Int) (i:Nat),a=(v,((i:Int),()))/\i+k=4000) ?_ ?_ (n:=4000) ⟨_,0,rfl,rfl⟩
  . rintro a ⟨v,i,rfl,hi⟩ X
    exact z0m fun _=>both (z0e (fun h=>by simp at h;omega) (fun _=>⟨Int.le_refl (0:Int),by show x.length<=_;omega⟩)) ⟨Int.le_refl (0:Int),by show x.length<=_;omega⟩
  . rintro k a ⟨v,i,rfl,hi⟩ X hX
    refine z0m fun _=>z0e (fun hlt=>both ⟨⟨by simp only;omega,hlt⟩,?_⟩ ⟨Int.le_refl (0:Int),by show x.length<=_;omega⟩) (fun _=>⟨Int.le_refl (0:Int),by show x.length<=_;omega⟩)
    simp only
    rw[z06 (by omega)]
    exact hX _ ⟨_,i+1,rfl,by omega⟩
 obtain⟨⟨z,_⟩,hq,hv⟩:=zll (S:=zka x) hs ⟨(([],(0,(0,()))),()),Int.le_refl (0:Int),by decide⟩ fun hi=>by
  unfold zka
  repeat' first|exact rk|apply_assumption|refine rb ?_ ?_|refine rl hi ?_|refine ra ?_|(refine rp ?_;intro _ _ _ _)|(refine re ?_;intro _)
 exact⟨z,z082 _ _ hv,hq⟩
theorem z0d6 {x:List Int}:z04e x (decide ((x.length:Int) > 1048576)):=z0cr _ _ (z0m fun _=>rfl)
def SmX2 (m:Nat) (x:z02):Prop:=x.1=sigs/\x.2.1.length<=m/\∀ f∈x.2.1,f.2.1.length<=2
theorem z08t {s:Src} {m:Int} (h:Oks s) (h0:0<=m) (h1:m<=30):∃ y z,zbe s m y z/\SmX2 m.toNat y/\Oks z:=by
 have hs:z67 s m (fun q=>SmX2 m.toNat q.1/\Oks q.2.1):=by
  unfold z67
  obtain⟨v,z,g,hv,hz⟩:=z6x h (n:=m+1) (by omega) (by omega)
  refine⟨_,zgw,v,z,by rw[z1s (by omega) (by omega)];exact g,?_⟩
  obtain⟨N,rfl⟩:∃ N:Nat,v=(N:Int):=⟨v.toNat,by omega⟩
  refine z1f (fun k a=>∃(c:Src) (x:z02),a=((k:Int),(c,(x,())))/\Oks c/\x.1=sigs/\x.2.1.length+k<=N/\∀ f∈x.2.1,f.2.1.length<=2) ?_ ?_ (n:=N) ⟨z,(sigs,([],())),rfl,hz,rfl,by simp,fun f hf=>by simp at hf⟩
  . rintro a ⟨c,x,rfl,hc,hx,hl,hf⟩ X
    refine z0e (fun h=>by simp at h) (fun _=>⟨x,ze4 (by rw[hx];decide) (by first|omega|(simp only;omega)) (fun f hm=>by have:=hf f hm;omega),⟨hx,by first|omega|(simp only;omega),hf⟩,hc⟩)
  . rintro k a ⟨c,x,rfl,hc,hx,hl,hf⟩ X hX
    obtain⟨u,z1,g1,hu,hz1⟩:=z6x hc (n:=2) (by decide) (by decide)
    obtain⟨f,z2,g2,hr,hz2⟩:=z0cf hz1 (r:=u) (n:=0) (by omega) (by omega) (by decide)
    have hr2:=hr.2.2
    refine z0e (fun _=>⟨u,z1,g1,f,z2,g2,_,ztr (x:=x) (f:=f) (by omega) (by omega),?_⟩) (fun h=>by simp at h<;>omega)
    simp only
    rw[zud (by omega)]
    refine hX _ ⟨z2,_,rfl,hz2,hx,?_,fun y hy=>?_⟩
    . have:=z00t (l:=x.2.1) (f:=f)
      show(znq x.2.1 f).length+k<=N
      omega
    . rcases putF_mem.mp hy with hy|rfl
      . exact hf y hy
      . exact hr2
 obtain⟨⟨y,z,_⟩,hq,hv⟩:=zll (S:=z67 s m) hs ⟨(((sigs,([],())):z02),(s,())),⟨rfl,by simp,fun f hf=>by simp at hf⟩,h⟩ fun hi=>by
  unfold z67
  repeat' first|exact rk|apply_assumption|refine rb ?_ ?_|refine rl hi ?_|refine ra ?_|(refine rp ?_;intro _ _ _ _)|(refine re ?_;intro _)
 exact⟨y,z,zp7 _ _ _ _ hv,hq.1,hq.2⟩
theorem z08d {s:Src} (h:Oks s):∃ y z,zd4 s y z/\(y.length<=4/\∀ d∈y,SmD 2 d)/\Oks z:=by
 have hs:z7i s (fun q=>(q.1.length<=4/\∀ d∈q.1,SmD 2 d)/\Oks q.2.1):=by
  unfold z7i
  obtain⟨v,z,g,hv,hz⟩:=z6x h (n:=4) (by decide) (by decide)
  obtain⟨N,hN⟩:∃ N:Nat,1+v=(N:Int):=⟨(1+v).toNat,by omega⟩
  refine⟨v,z,g,?_⟩
  rw[show w64 (1+v)=(N:Int) by rw[hN];exact z1s (by omega) (by omega)]
  refine z1f (fun k a=>∃(c:Src) (ds:List z0f),a=((k:Int),(ds,(c,())))/\Oks c/\ds.length+k<=4/\∀ d∈ds,SmD 2 d) ?_ ?_ (n:=N) ⟨z,[],rfl,hz,by simp;omega,fun d hd=>by simp at hd⟩
  . rintro a ⟨c,ds,rfl,hc,hl,hd⟩ X
    exact z0e (fun h=>by simp at h) (fun _=>⟨⟨by simp only;omega,hd⟩,hc⟩)
  . rintro k a ⟨c,ds,rfl,hc,hl,hd⟩ X hX
    obtain⟨d,z1,g1,hd1,hz1⟩:=z0ch hc
    refine z0e (fun _=>⟨d,z1,g1,?_,?_⟩) (fun h=>by simp at h<;>omega)
    . simp only[z1p,List.length_cons,List.length_nil];omega
    . simp only
      rw[zud (by omega)]
      refine hX _ ⟨z1,ds++[d],rfl,hz1,by simp only[List.length_append,List.length_cons,List.length_nil];omega,fun e he=>?_⟩
      rcases List.mem_append.mp he with he|he
      . exact hd e he
      . obtain rfl:=List.mem_singleton.mp he;exact hd1
 obtain⟨⟨y,z,_⟩,hq,hv⟩:=zll (S:=z7i s) hs ⟨(([]:List z0f),(s,())),⟨by simp,fun f hf=>by simp at hf⟩,h⟩ fun hi=>by
  unfold z7i
  repeat' first|exact rk|apply_assumption|refine rb ?_ ?_|refine rl hi ?_|refine ra ?_|(refine rp ?_;intro _ _ _ _)|(refine re ?_;intro _)
 exact⟨y,z,zr1 _ _ _ hv,hq.1,hq.2⟩
theorem z06o {x:z02} {ds:List z0f} {t:z00} (h:t∈zer x ds):inR t.1 0 ((ds.length:Int) - 1)=true/\act x (z34 ds t.1) t.2.1=true:=by
 have outer:∀(l:List Nat) (out:List z00),(∀ i∈l,i<ds.length)->(∀ t∈out,inR t.1 0 ((ds.length:Int) - 1)=true/\act x (z34 ds t.1) t.2.1=true)->
   ∀ t∈l.foldl (trgG x ds) out,inR t.1 0 ((ds.length:Int) - 1)=true/\act x (z34 ds t.1) t.2.1=true:=by
  intro l
  induction l with
  |nil=>intro out _ ho;exact ho
  | cons i l ih=>
    intro out hl ho
    rw[List.foldl_cons]
    refine ih _ (fun c hc=>hl c (by simp[hc])) fun t ht=>?_
    rw[zlp]at ht
    rcases List.mem_append.mp ht with ht|ht
    . exact ho t ht
    . obtain⟨b,hb,rfl⟩:=List.mem_map.mp ht
      have hi:=hl i (by simp)
      refine⟨inR_iff.mpr ⟨by simp only;omega,by simp only;omega⟩,?_⟩
      unfold znw at hb
      split at hb
      . have:=(List.mem_filter.mp hb).2
        unfold z34
        simpa using this
      . cases hb
 exact outer _ [] (fun i hi=>List.mem_range.mp hi) (by simp) t h
def zss (x:z02) (ds:List z0f) (out:List z00) (i:Nat):List z00:=if z7k x ds (out.take i++out.drop (i+1))then out.take i++out.drop (i+1)else out
def shG (x:z02) (ds:List z0f):Nat->List z00->List z00
 |0,out=>out
 |n+1,out=>shG x ds n (zss x ds out n)
def shF (x:z02) (ds:List z0f) (l:List z00):List z00:=if z7k x ds l then shG x ds (l.length - 1) l else l
theorem z0ap {l:List z00} {i:Nat} (h:i<l.length):(l.take i++l.drop (i+1)).length=l.length - 1:=by simp;omega
theorem z02k {x:z02} {ds:List z0f} {out:List z00} {i:Nat}:(zss x ds out i).length<=out.length/\out.length<=(zss x ds out i).length+1:=by
 unfold zss
 split
 . simp;omega
 . omega
theorem z0a0 {x:z02} {ds:List z0f}:∀(n:Nat) (out:List z00),z7k x ds out=true->z7k x ds (shG x ds n out)=true
 |0,out,h=>h
 | n+1,out,h=>by
   unfold shG
   refine z0a0 n _ ?_
   unfold zss
   split
   . assumption
   . exact h
theorem z04w {x:z02} {ds:List z0f}:∀(n:Nat) (out:List z00),(shG x ds n out).length<=out.length
 |0,out=>Nat.le_refl _
 |n+1,out=>by unfold shG;exact Nat.le_trans (z04w n _) z02k.1
theorem z094 {x:z02} {ds:List z0f} {l:List z00}:z7k x ds (shF x ds l)=z7k x ds l:=by
 unfold shF
 by_cases h:z7k x ds l=true
 . rw[if_pos h,z0a0 _ _ h,h]
 . rw[if_neg h]
theorem z0c0 {x:z02} {ds:List z0f} {l:List z00}:(shF x ds l).length<=l.length:=by
 unfold shF
 split
 . exact z04w _ _
 . exact Nat.le_refl _
theorem zz4 {t:z00} (h:t.2.1.length<=1048576):zjd t t:=zy2 _ _ (by unfold zqi;exact⟨_,z3r (by omega),rfl⟩)
theorem ze1 {l:List z00} (h:l.length<=1099511627776):z4j l l:=zdl _ _ (by
 unfold z7s
 refine z1w (fun he=>⟨?_,by simp only[z1p,List.length_nil];omega,by rw[List.nil_append]⟩) (fun _=>⟨by simp only[z1p,List.length_nil];omega,by rw[List.nil_append]⟩)
 have:l=[]:=List.isEmpty_iff.mp he
 rw[this])
theorem z01r {l:List z00} (hl:l.length<=1048576) (h:∀ t∈l,t.2.1.length<=1048576):zmg l l:=z02l _ _ (by
 unfold zsi
 refine z0x l.length (fun i=>((i:Int),(l.take i,()))) (by simp) ?_ ?_
 . intro i hi X hX
   have ht:=h l[i] (List.getElem_mem hi)
   rw[z08 hi]at hX
   refine z0m fun _=>bcI hi (inI hi (inI hi ?_))
   simp only
   rw[z2g hi,z06 (by omega)]
   refine⟨by simp only[z1p,List.length_nil];omega,by simp only[z1p,List.length_take,List.length_cons,List.length_nil];omega,?_⟩
   rw[List.nil_append]
   exact hX
 . intro X
   refine z0m fun _=>bcN ?_
   simp only[List.take_length])
theorem zg6 {x:z02} {ds:List z0f} {l:List z00} (hl:l.length<=1000) (h:∀ t∈l,t.2.1.length<=1000):z3f x ds l (shF x ds l):=zg7 _ _ _ _ (by
 unfold z91 shF
 refine z0m fun _=>z0x l.length (fun i=>((i:Int),(l.take i,()))) (by simp) ?_ ?_
 . intro i hi X hX
   have ht:=h l[i] (List.getElem_mem hi)
   rw[z08 hi]at hX
   refine bcI hi (inI hi ⟨l[i],?_,?_,?_⟩)
   . simp only;rw[z2g hi];exact zz4 (by omega)
   . simp only[z1p,List.length_take,List.length_cons,List.length_nil];omega
   . simp only
     rw[z06 (by omega)]
     exact hX
 . intro X
   refine bcN ?_
   simp only[List.take_length]
   refine⟨_,z4k,z0p (fun h=>by rw[h];rfl) (fun hf=>z0m fun _=>?_)⟩
   have hne:=List.length_pos_iff.mpr (zpx hf).1
   rw[hf,if_pos rfl,z1s (by omega) (by omega)]
   refine z1f (fun k a=>∃ out:List z00,a=((k:Int) - 1,(out,()))/\k+1<=out.length/\out.length<=1000/\shG x ds k out=shG x ds (l.length - 1) l) ?_ ?_ (n:=l.length - 1) ⟨l,by congr 1;omega,by omega,hl,rfl⟩
   . rintro a ⟨out,rfl,_,_,he⟩ Y
     refine z0e (fun h=>by simp at h) (fun _=>?_)
     simp only
     rw[<-he];rfl
   . rintro k a ⟨out,rfl,ho,hom,he⟩ Y hY
     have ek:((k+1:Nat):Int) - 1=(k:Int):=by omega
     refine z0e (fun _=>⟨out,ze1 (by simp only;omega),?_⟩) (fun h=>by simp only at h;omega)
     simp only
     rw[ek,z06 (by omega),z1s (n:=(k:Int) - 1) (by omega) (by omega)]
     refine⟨out.take k++out.drop (k+1),z8u (x:=out) (i:=k) (j:=k+1) (by omega) (by show k+1<=out.length;omega),_,z4k,?_⟩
     have hc:=z0ap (l:=out) (i:=k) (by omega)
     rw[shG]at he
     unfold zss at he
     refine z1w (fun hq=>hY _ ⟨_,rfl,by omega,by omega,?_⟩) (fun hq=>hY _ ⟨_,rfl,by omega,hom,?_⟩)
     . rw[<-he,if_pos hq]
     . rw[<-he,if_neg (by rw[hq];simp)])
theorem z043 {s:Src} (h:Oks s):∃ y z,z7z s y z/\(y.length<=4/\∀ d∈y,SmD 2 d)/\Oks z:=by
 have hs:z5u s (fun q=>(q.1.length<=4/\∀ d∈q.1,SmD 2 d)/\Oks q.2.1):=by
  unfold z5u
  obtain⟨ds,z,g,hds,hz⟩:=z08d h
  refine⟨ds,z,g,?_⟩
  refine z1f (fun k a=>∃ ds:List z0f,a=(ds,())/\ds.length=k/\k<=4/\∀ d∈ds,SmD 2 d) ?_ ?_ (n:=ds.length) ⟨ds,rfl,rfl,hds.1,hds.2⟩
  . rintro a ⟨ds,rfl,hl,h4,hd⟩ X
    exact z0m fun _=>z0e (fun h=>by simp only at h;omega) (fun _=>⟨⟨by simp only;omega,hd⟩,hz⟩)
  . rintro k a ⟨ds,rfl,hl,h4,hd⟩ X hX
    refine z0m fun _=>z0e (fun hp=>⟨_,zgw,_,zcs,z0p (fun _=>⟨⟨by omega,by simp only;omega,Int.le_refl _⟩,?_⟩) (fun _=>⟨⟨by simp only;omega,hd⟩,hz⟩)⟩) (fun _=>⟨⟨by simp only;omega,hd⟩,hz⟩)
    simp only
    rw[Int.toNat_natCast,List.take_length]
    exact hX _ ⟨_,rfl,by rw[List.length_drop];simp;omega,by omega,fun d hm=>hd d (List.mem_of_mem_drop hm)⟩
 obtain⟨⟨y,z,_⟩,hq,hv⟩:=zll (S:=z5u s) hs ⟨(([]:List z0f),(s,())),⟨by simp,fun f hf=>by simp at hf⟩,h⟩ fun hi=>by
  unfold z5u
  repeat' first|exact rk|apply_assumption|refine rb ?_ ?_|refine rl hi ?_|refine ra ?_|(refine rp ?_;intro _ _ _ _)|(refine re ?_;intro _)
 exact⟨y,z,zpo _ _ _ hv,hq.1,hq.2⟩
theorem z08x {x:List Int} (h:x.length<=1048576):∃ c y ds,zlj x c y ds/\Oks c:=by
 have hs:zdw x (fun q=>Oks q.1):=by
  unfold zdw
  obtain⟨z,g,hz⟩:=z0ds h
  obtain⟨y,z1,g1,hy,hz1⟩:=z08t hz (m:=3) (by decide) (by decide)
  obtain⟨d,z2,g2,hd,hz2⟩:=z03u hz1
  obtain⟨o,z3,g3,hz3⟩:=zsw hz2 (n:=4) (by decide) (by decide)
  obtain⟨rs,z4,g4,hrs,hz4⟩:=z043 hz3
  refine⟨z,g,y,z1,g1,d,z2,g2,o,z3,g3,z1w (fun _=>⟨rs,z4,g4,hz4⟩) (fun _=>⟨_,zgw,_,zcs,z0p (fun _=>⟨rs,z4,g4,hz4⟩) (fun _=>hz3)⟩)⟩
 obtain⟨⟨c,y,ds,_⟩,hq,hv⟩:=zll (S:=zdw x) hs ⟨((([],(0,(0,()))):Src),(([],([],())):z02),([]:List z0f),()),⟨Int.le_refl (0:Int),by decide⟩⟩ fun hi=>by
  unfold zdw
  repeat' first|exact rk|apply_assumption|refine rb ?_ ?_|refine rl hi ?_|refine ra ?_|(refine rp ?_;intro _ _ _ _)|(refine re ?_;intro _)
 exact⟨c,y,ds,z02q _ _ _ _ hv,hq⟩
theorem zu2:∀ {ts vs b c:List Int},zhd b c->(∀ p∈ts.zip vs,zja c p)->(∀ t∈ts,t<b.length)->ts.length=vs.length->(zfk ts vs b).2=true/\zhd (zfk ts vs b).1 c
 |[],vs,b,c,h,_,_,_=>⟨by simp[zfk],by simpa [zfk]using h⟩
 |t::ts,[],b,c,_,_,_,hl=>by simp at hl
 | t::ts,v::vs,b,c,h,hz,ht,hl=>by
   rw[zjx]
   have hp:=hz (t,v) (by rw[List.zip_cons_cons];simp)
   have hz':∀ p∈ts.zip vs,zja c p:=fun p hp=>hz p (by rw[List.zip_cons_cons];simp[hp])
   have ht':∀ t∈ts,t<b.length:=fun u hu=>ht u (by simp[hu])
   have hl':ts.length=vs.length:=by simpa using hl
   unfold zja at hp
   by_cases h0:t<0
   . rw[if_pos h0]at hp ⊢
     rw[if_pos (show -1 - t=v from hp.symm)]
     exact zu2 h hz' ht' hl'
   . rw[if_neg h0]at hp ⊢
     have hp:iAt c t.toNat=v:=hp
     have htb:t.toNat<b.length:=by have:=ht t (by simp);omega
     have hc:b.getD t.toNat 0=10\/b.getD t.toNat 0=v:=by
      by_cases e:iAt b t.toNat=10
      . exact .inl e
      . exact .inr ((h.2 _ e).symm.trans hp)
     rw[if_pos hc]
     refine zu2 ⟨by rw[h.1];simp,fun k hk=>?_⟩ hz' (by simpa using ht') hl'
     rw[zf2 htb]at hk ⊢
     by_cases e:k=t.toNat
     . rw[if_pos e,e];exact hp
     . rw[if_neg e]at hk ⊢
       exact h.2 k hk
theorem zsp {fs:List z00} {w:List Int->List (List Int)} {a:z00} {b c:List Int}:∀ {l:List z00} {out:List (List Int)},c∈out->c∈l.foldl (zg4 fs w a b) out
 |[],out,h=>h
 | f::l,out,h=>by
   rw[List.foldl_cons]
   refine zsp ?_
   unfold zg4
   split
   . exact List.mem_append_left _ h
   . exact h
theorem zvz {fs:List z00} {w:List Int->List (List Int)} {a f:z00} {b c:List Int} (h1:a.1=f.1) (h2:(zfk a.2.1 f.2.1 b).2=true) (h3:c∈w (zfk a.2.1 f.2.1 b).1):∀ {l:List z00} {out:List (List Int)},f∈l->c∈l.foldl (zg4 fs w a b) out
 |[],out,h=>by cases h
 | g::l,out,h=>by
   rw[List.foldl_cons]
   rcases List.mem_cons.mp h with rfl|h
   . refine zsp ?_
     unfold zg4
     rw[if_pos ⟨h1,h2⟩]
     exact List.mem_append_right _ h3
   . exact zvz h1 h2 h3 h
theorem z08o {a:z00} {c:List Int} (h:z4z a c=true):∀ p∈a.2.1.zip (zdg a c).2.1,zja c p:=by
 intro p hp
 obtain⟨_,e,_⟩:=zly h
 rw[e]at hp
 obtain⟨j,hj,rfl⟩:=List.mem_iff_getElem.mp hp
 rw[List.getElem_zip,List.getElem_map]
 unfold zja
 simp only
 split
 . rw[if_neg (by omega)]
 . rw[if_pos (by omega)]
theorem z00l {fs:List z00} {c:List Int} (hc:c.length=5):∀ {ats:List z00} {b:List Int},(∀ a∈ats,∀ t∈a.2.1,t<5)->zhd b c->(∀ a∈ats,z4z a c=true/\zdg a c∈fs)->∃ c'∈zbs fs ats b,zhd c' c
 |[],b,_,h,_=>⟨b,by simp[zbs],h⟩
 | a::ats,b,ht,h,hi=>by
   obtain⟨h1,h2⟩:=hi a (by simp)
   have hat:=zly h1
   have hbl:b.length=5:=by rw[<-h.1];exact hc
   obtain⟨g1,g2⟩:=zu2 h (z08o h1) (fun t h'=>by have:=ht a (by simp) t h';omega) (by rw[hat.2.1,List.length_map])
   obtain⟨c',h3,h4⟩:=z00l hc (ats:=ats) (fun a ha=>ht a (by simp[ha])) g2 (fun a ha=>hi a (by simp[ha]))
   refine⟨c',?_,h4⟩
   show c'∈fs.foldl (zg4 fs (zbs fs ats) a b) []
   exact zvz hat.1.symm g1 h3 h2
theorem zzu:∀ {l:List (List Int)} {out:List (List Int)} {b:List Int},b∈out\/b∈l->b∈l.foldl dedG out
 |[],out,b,h=>h.resolve_right (by simp)
 | a::l,out,b,h=>by
   rw[List.foldl_cons]
   refine zzu ?_
   unfold dedG
   rcases h with h|h
   . refine .inl ?_
     split
     . exact h
     . exact List.mem_append_left _ h
   . rcases List.mem_cons.mp h with rfl|h
     . refine .inl ?_
       split
       . assumption
       . simp
     . exact .inr h
theorem z00f {k:Nat} (hk:k<5):iAt z95 k=10:=by
 rcases k with _|_|_|_|_|k<;>first|rfl|omega
theorem z03v {x:z02} {d:z0f} {b:List Int} (hm:mOk x d.1=true) (h5:b.length=5) (hB:zkj d b=true) (hF:zew x d b=true):b∈zbz x d.1:=by
 have hw:=(zhc hm).1
 have hx:z2r x=true:=by unfold mOk at hm;simp only[Bool.and_eq_true]at hm;exact hm.2.1
 have hi:∀ a∈d.1,z4z a b=true/\zdg a b∈x.2.1:=fun a ha=>by
  have:=List.all_eq_true.mp hF a ha
  rw[Bool.and_eq_true]at this
  exact⟨this.1,by simpa using this.2⟩
 obtain⟨c',h1,h2⟩:=z00l (fs:=x.2.1) (c:=b) h5 (ats:=d.1) (b:=z95) (fun a ha t ht=>((hw.row a ha).2 t ht).2) ⟨by rw[h5];rfl,fun k hk=>by
  by_cases h:k<5
  . exact absurd (z00f h) hk
  . unfold iAt
    rw[List.getD_eq_getElem?_getD,List.getD_eq_getElem?_getD,List.getElem?_eq_none (by omega),List.getElem?_eq_none (by show 5<=k;omega)]⟩ hi
 obtain⟨q1,_,q3⟩:=zyj (zlo hx) h1 hw rfl
 have hcl:c'.length=5:=q1.1
 have e:c'=b:=by
  refine List.ext_getElem (by omega) fun k hk hk'=>?_
  have hk5:k<5:=by omega
  have hb:=List.all_eq_true.mp hB k (List.mem_range.mpr hk')
  have hq:=q3 k hk5
  rw[<-mem_vars,z00f hk5]at hq
  simp only[ne_eq,not_true,false_or]at hq
  rw[<-z4r hk,<-z4r hk']
  by_cases hv:(k:Int)∈vars d.1
  . exact(h2.2 k (hq.mpr hv)).symm
  . have hc10:iAt c' k=10:=Classical.byContradiction fun h=>hv (hq.mp h)
    rw[decide_eq_false hv]at hb
    have:iAt b k=10:=by
     cases h:(iAt b k == 10)with
     |true=>simpa using h
     |false=>rw[h]at hb;cases hb
    rw[hc10,this]
 unfold zbz
 rw[if_pos hm]
 exact zzu (.inr (e ▸ h1))
theorem z053 {x:z02} {ds:List z0f} {i:Nat} {b:List Int} (hi:i<ds.length) (hb:b∈znw x (ds.getD i zdf)):(((i:Int),(b,())):z00)∈zer x ds:=by
 have keep:∀(l:List Nat) (out:List z00) (t:z00),t∈out->t∈l.foldl (trgG x ds) out:=by
  intro l
  induction l with
  |nil=>intro out t h;exact h
  |cons j l ih=>intro out t h;rw[List.foldl_cons];refine ih _ t ?_;rw[zlp];exact List.mem_append_left _ h
 have add:∀(l:List Nat) (out:List z00),i∈l->(((i:Int),(b,())):z00)∈l.foldl (trgG x ds) out:=by
  intro l
  induction l with
  |nil=>intro out h;cases h
  | cons j l ih=>
    intro out h
    rw[List.foldl_cons]
    rcases List.mem_cons.mp h with rfl|h
    . refine keep _ _ _ ?_
      rw[zlp]
      exact List.mem_append_right _ (List.mem_map.mpr ⟨b,hb,rfl⟩)
    . exact ih _ h
 exact add _ _ (List.mem_range.mpr hi)
theorem z07r {x:z02} {ds:List z0f} (h:zer x ds=[]) {d:z0f} (hd:d∈ds) (b:List Int):act x d b=false:=by
 cases ha:act x d b with
 |false=>rfl
 | true=>
   obtain⟨i,hi,rfl⟩:=List.mem_iff_getElem.mp hd
   have ht:=zan ha
   obtain⟨hx,hv,h5⟩:=z7r ht
   unfold z5b at ht
   simp only[Bool.and_eq_true]at ht
   have hs:=z4c hv
   have hm:mOk x ds[i].1=true:=by
    unfold mOk
    rw[hx,List.all_eq_true.mpr hs.2.2.1,decide_eq_true (by omega)];rfl
   have hf:=z03v hm h5 ht.2.2.2.1 ht.2.2.2.2
   have hin:b∈znw x (ds.getD i zdf):=by
    rw[z8q hi]
    unfold znw
    rw[if_pos hv]
    exact List.mem_filter.mpr ⟨hf,ha⟩
   have:=z053 hi hin
   rw[h]at this;cases this
theorem zw1:∀ {l b:List Int} {k:Int},(∀ v∈l,0<=v/\v<5)->b.length=5->∀ j:Nat,j<5->((j:Int)∈l->∃ n:Nat,iAt (zf9 b l k) j = -1 - (k+n)/\n<l.length)/\((j:Int)∉l->iAt (zf9 b l k) j=iAt b j)
 |[],b,k,_,_,j,_=>⟨by simp,fun _=>rfl⟩
 | v::l,b,k,hv,h5,j,hj=>by
   have hvr:=hv v (by simp)
   have hset:(b.set v.toNat (-1 - k)).length=5:=by simpa using h5
   obtain⟨q1,q2⟩:=zw1 (l:=l) (b:=b.set v.toNat (-1 - k)) (k:=k+1) (fun u hu=>hv u (by simp[hu])) hset j hj
   show(_->∃ n:Nat,iAt (zf9 (b.set v.toNat (-1 - k)) l (k+1)) j=_/\_)/\(_->iAt (zf9 (b.set v.toNat (-1 - k)) l (k+1)) j=_)
   refine⟨fun hm=>?_,fun hm=>?_⟩
   . by_cases hl:(j:Int)∈l
     . obtain⟨n,e,hn⟩:=q1 hl
       exact⟨n+1,by rw[e];omega,by rw[List.length_cons];omega⟩
     . have hjv:(j:Int)=v:=(List.mem_cons.mp hm).resolve_right hl
       refine⟨0,?_,by rw[List.length_cons];omega⟩
       rw[q2 hl,zf2 (by omega),if_pos (by omega)]
       omega
   . have hl:(j:Int)∉l:=fun h=>hm (by simp[h])
     have hjv:¬ (j:Int)=v:=fun h=>hm (by simp[h])
     rw[q2 hl,zf2 (by omega),if_neg (by omega)]
theorem zvr {d:z0f} {a:z00} (ha:a∈d.2.1) {t:Int} (ht:t∈a.2.1) (h0:0<=t):t∈exV d\/(t∉exV d/\t∈vars d.1):=by
 have hm:t∈vars d.2.1:=by
  unfold vars
  rw[mem_sset,List.mem_filter,List.mem_flatMap]
  exact⟨⟨a,ha,ht⟩,decide_eq_true h0⟩
 by_cases hb:t∈vars d.1
 . refine .inr ⟨fun h=>?_,hb⟩
   unfold exV at h
   have:=(List.mem_filter.mp h).2
   rw[decide_eq_true hb]at this;cases this
 . refine .inl ?_
   unfold exV
   exact List.mem_filter.mpr ⟨hm,by rw[decide_eq_false hb];rfl⟩
theorem z05w {x:z02} {d:z0f} {b:List Int} (hd:zee x.1 d=true) (h5:b.length=5) (hF:zew x d b=true) (hn:z2s x+(exV d).length<=40) {a:z00} (ha:a∈d.2.1) {t:Int} (ht:t∈a.2.1) :
  zga (if 0<=t then iAt (zf9 b (exV d) (z2s x)) t.toNat else -1 - t)=true/\t<5:=by
 have hs:=z4c hd
 have hr:=(zcj (hs.2.2.2.2.1 a ha)).2 t ht
 have hN:=zbr x
 refine⟨?_,hr.2⟩
 by_cases h0:0<=t
 . rw[if_pos h0]
   obtain⟨j,rfl⟩:∃ j:Nat,t=(j:Int):=⟨t.toNat,by omega⟩
   rw[Int.toNat_natCast]
   obtain⟨q1,q2⟩:=zw1 (l:=exV d) (b:=b) (k:=z2s x) (fun v hv=>zhh hd hv) h5 j (by omega)
   rcases zvr ha ht h0 with h|⟨h,hv⟩
   . obtain⟨n,e,hn2⟩:=q1 h
     rw[e]
     exact inR_iff.mpr ⟨by omega,by omega⟩
   . rw[q2 h]
     exact(zam hF hv).1
 . rw[if_neg h0]
   exact inR_iff.mpr ⟨by omega,by omega⟩
theorem zi3 {x:z02} {d:z0f} {b:List Int} (h:act x d b=true) (hc:(zbf x d b).2=1):z2r (zbf x d b).1=true/\(zbf x d b).1.1=x.1:=by
 obtain⟨hx,hd,h5⟩:=z9y h
 have ht:=zan h
 unfold z5b at ht
 simp only[Bool.and_eq_true]at ht
 have hF:=ht.2.2.2.2
 cases he:d.2.2.1 with
 | false=>
   rw[zej h he]at hc ⊢
   split at hc
   . simp at hc
   . next hn=>
     rw[if_neg hn]
     have hn1:z2s x+(exV d).length<=40:=by omega
     have hn2:(newF x d b).length<=30:=by omega
     refine⟨zzw (z99 hx) (zuv _) hn2 fun f hf=>?_,rfl⟩
     rcases List.mem_append.mp (facS_mem.mp hf)with hf|hf
     . exact⟨z6o hx hf,zvw hx hf⟩
     . obtain⟨a,ha,rfl⟩:=List.mem_map.mp hf
       obtain⟨v1,v2⟩:=z02m hd he a ha
       have hval:=fun t (ht:t∈a.2.1)=>z05w hd h5 hF hn1 ha ht
       obtain⟨m1,m2⟩:=zy8 (a:=a) (c:=zf9 b (exV d) (z2s x)) (fun t ht=>(hval t ht).1) (fun t ht=>by rw[zez,h5];exact(hval t ht).2)
       rw[m2]
       refine⟨?_,fun hs=>by rw[v2]at hs;cases hs⟩
       unfold z6u at v1
       unfold zt1 at v1
       simp only[Bool.and_eq_true]at v1
       unfold zm9 zt1
       simp only[Bool.and_eq_true]
       refine⟨⟨v1.1.1,by rw[List.length_map];exact v1.1.2⟩,List.all_eq_true.mpr fun v hv=>?_⟩
       obtain⟨t,ht,rfl⟩:=List.mem_map.mp hv
       exact(hval t ht).1
 | true=>
   have hsd:=z6m hd he
   rw[zi6 h he]at hc ⊢
   split at hc
   . simp at hc
   . next hn=>
     rw[if_neg hn]
     obtain⟨e1,e2⟩:=znz hd he
     have w1:=zam hF (k:=d.2.2.2.1.toNat) (by rw[Int.toNat_of_nonneg hsd.1.1];exact e1)
     have w2:=zam hF (k:=d.2.2.2.2.1.toNat) (by rw[Int.toNat_of_nonneg hsd.2.1];exact e2)
     generalize iAt b d.2.2.2.1.toNat=p at hn w1 ⊢
     generalize iAt b d.2.2.2.2.1.toNat=q at hn w2 ⊢
     have r1:=inR_iff.mp w1.1
     have r2:=inR_iff.mp w2.1
     have hmin:zao (zji p q)=true:=by unfold zji;split<;>exact isNul_iff.mpr ⟨by omega,by omega⟩
     have hmax:zga (zni p q)=true:=by
      unfold zni
      split
      . exact w2.1
      . exact w1.1
     have hk:z6p (zji p q) = -1 - zji p q:=by unfold z6p;rw[if_pos hmin]
     have hmr:=isNul_iff.mp hmin
     generalize zji p q=m at hmin hk hmr ⊢
     generalize zni p q=M at hmax ⊢
     rw[hk]
     have hs:zgb ([-1 - m],([M],()))=true:=znt (by omega) (by omega) hmax
     have hsv:∀ w,zon ([-1 - m],([M],())) w=if w=m then M else w:=fun w=>by rw[zzb (by omega) (by omega) hmax,show -1 - (-1 - m)=m by omega]
     have e:ztg ([-1 - m],([M],())) x=subI ([-1 - m],([M],())) x:=by unfold ztg;rw[hs,hx];rfl
     rw[e]
     refine⟨zzw (z99 hx) (zuv _) (Nat.le_trans z00h (z9u hx)) fun f hf=>?_,rfl⟩
     obtain⟨f0,hf0,rfl⟩:=List.mem_map.mp (facS_mem.mp hf)
     have v1:=z6o hx hf0
     unfold zm9 zt1 at v1
     simp only[Bool.and_eq_true]at v1
     refine⟨?_,fun hsrc=>?_⟩
     . unfold zm9 zt1 zo9
       simp only[Bool.and_eq_true]
       refine⟨⟨v1.1.1,by rw[List.length_map];exact v1.1.2⟩,List.all_eq_true.mpr fun v hv=>?_⟩
       obtain⟨w,hw,rfl⟩:=List.mem_map.mp hv
       rw[hsv]
       split
       . exact hmax
       . exact List.all_eq_true.mp v1.2 w hw
     . have hn0:=zvw hx hf0 hsrc
       have:zo9 ([-1 - m],([M],())) f0=f0:=by
        unfold zo9
        have e2:f0.2.1.map (zon ([-1 - m],([M],())))=f0.2.1:=by
         conv=>rhs;rw[<-List.map_id f0.2.1]
         refine List.map_congr_left fun w hw=>?_
         have hnn:=z042 hn0 hw
         rw[hsv,if_neg (fun h=>by rw[h,hmin]at hnn;cases hnn)];rfl
        rw[e2]
       rw[this];exact hn0
def hmF (g:Int->Int) (f:z00):z00:=(f.1,(f.2.1.map g,()))
structure Hom (g:Int->Int) (y z:z02):Prop where
 rel:y.1=z.1
 con:∀ v,0<=v->g v=v
 fact:∀ f∈y.2.1,hmF g f∈z.2.1
theorem z0ac (f:z00):hmF id f=f:=by unfold hmF;rw[List.map_id]
theorem Hom.refl (y:z02):Hom id y y:=⟨rfl,fun _ _=>rfl,fun f hf=>by rw[z0ac];exact hf⟩
theorem Hom.comp {g h:Int->Int} {x y z:z02} (h1:Hom h x y) (h2:Hom g y z):Hom (fun v=>g (h v)) x z:=
 ⟨h1.rel.trans h2.rel,fun v hv=>by rw[h1.con v hv,h2.con v hv],fun f hf=>by
  have:=h2.fact _ (h1.fact f hf)
  unfold hmF at this ⊢
  simp only[List.map_map]at this
  exact this⟩
theorem z07o {x:z02} {d:z0f} {b:List Int} (h:act x d b=true) (hc:(zbf x d b).2=1):∃ g,Hom g x (zbf x d b).1:=by
 have hrel:=(zi3 h hc).2
 obtain⟨hx,hd,h5⟩:=z9y h
 have ht:=zan h
 unfold z5b at ht
 simp only[Bool.and_eq_true]at ht
 have hF:=ht.2.2.2.2
 cases he:d.2.2.1 with
 | false=>
   refine⟨id,hrel.symm,fun _ _=>rfl,fun f hf=>?_⟩
   rw[z0ac]
   rw[zej h he]at hc ⊢
   split at hc
   . simp at hc
   . next hn=>
     rw[if_neg hn]
     exact facS_mem.mpr (List.mem_append_left _ hf)
 | true=>
   rw[zi6 h he]at hc hrel ⊢
   split at hc
   . simp at hc
   . next hn=>
     rw[if_neg hn]at hrel ⊢
     have hsd:=z6m hd he
     obtain⟨e1,e2⟩:=znz hd he
     have w1:=zam hF (k:=d.2.2.2.1.toNat) (by rw[Int.toNat_of_nonneg hsd.1.1];exact e1)
     have w2:=zam hF (k:=d.2.2.2.2.1.toNat) (by rw[Int.toNat_of_nonneg hsd.2.1];exact e2)
     generalize iAt b d.2.2.2.1.toNat=p at hn w1 hrel ⊢
     generalize iAt b d.2.2.2.2.1.toNat=q at hn w2 hrel ⊢
     have r1:=inR_iff.mp w1.1
     have r2:=inR_iff.mp w2.1
     have hmin:zao (zji p q)=true:=by unfold zji;split<;>exact isNul_iff.mpr ⟨by omega,by omega⟩
     have hmax:zga (zni p q)=true:=by
      unfold zni
      split
      . exact w2.1
      . exact w1.1
     have hk:z6p (zji p q) = -1 - zji p q:=by unfold z6p;rw[if_pos hmin]
     have hmr:=isNul_iff.mp hmin
     generalize zji p q=m at hmin hk hmr hrel ⊢
     generalize zni p q=M at hmax hrel ⊢
     rw[hk]at hrel ⊢
     have hs:zgb ([-1 - m],([M],()))=true:=znt (by omega) (by omega) hmax
     have hsv:∀ w,zon ([-1 - m],([M],())) w=if w=m then M else w:=fun w=>by rw[zzb (by omega) (by omega) hmax,show -1 - (-1 - m)=m by omega]
     have e:ztg ([-1 - m],([M],())) x=subI ([-1 - m],([M],())) x:=by unfold ztg;rw[hs,hx];rfl
     rw[e]at hrel ⊢
     refine⟨zon ([-1 - m],([M],())),hrel.symm,fun v hv=>by rw[hsv,if_neg (by omega)],fun f hf=>?_⟩
     exact facS_mem.mpr (List.mem_map.mpr ⟨f,hf,rfl⟩)
theorem z06r {ds:List z0f}:∀(n:Nat) (x:z02) (l:List z00),z2r x=true->(chK ds n x l).2.1=1->(∃ g,Hom g x (chK ds n x l).1)/\zer (chK ds n x l).1 ds=[]/\z2r (chK ds n x l).1=true
 |0,x,l,_,h=>by simp[chK]at h
 | n+1,x,l,hx,h=>by
   unfold chK at h ⊢
   cases ht:zer x ds with
   |nil=>simp only;exact⟨⟨id,Hom.refl x⟩,ht,hx⟩
   | cons t ts=>
     rw[ht]at h
     simp only at h ⊢
     obtain⟨g1,g2⟩:=z06o (x:=x) (ds:=ds) (t:=t) (by rw[ht];simp)
     have hd:ds.getD t.1.toNat zdf=z34 ds t.1:=rfl
     rw[hd]at h ⊢
     by_cases hc:(zbf x (z34 ds t.1) t.2.1).2=1
     . rw[if_pos hc]at h ⊢
       obtain⟨⟨g,hg⟩,q2,q3⟩:=z06r n _ _ (zi3 g2 hc).1 h
       obtain⟨g',hg'⟩:=z07o g2 hc
       exact⟨⟨_,hg'.comp hg⟩,q2,q3⟩
     . rw[if_neg hc]at h
       exact absurd h hc
def bmG (g:Int->Int) (b:List Int):List Int:=b.map fun v=>if v=10 then 10 else g v
theorem z0a1 {g:Int->Int} {b:List Int} {k:Nat} (hk:k<b.length):iAt (bmG g b) k=if iAt b k=10 then 10 else g (iAt b k):=by
 unfold bmG
 rw[z4r (by simpa using hk),List.getElem_map,z4r hk]
section
variable {g:Int->Int} {y z:z02} {d:z0f} {b:List Int}
theorem Hom.val (h:Hom g y z) (hz:z2r z=true) {f:z00} (hf:f∈y.2.1) {v:Int} (hv:v∈f.2.1):zga (g v)=true:=zlo hz _ (h.fact f hf) _ (List.mem_map.mpr ⟨v,hv,rfl⟩)
theorem z0b7 (hF:zew y d b=true) {a:z00} (ha:a∈d.1):z4z a b=true/\zdg a b∈y.2.1:=by
 have:=List.all_eq_true.mp hF a ha
 rw[Bool.and_eq_true]at this
 exact⟨this.1,by simpa using this.2⟩
theorem Hom.trig (h:Hom g y z) (hz:z2r z=true) (ht:z5b y d b=true):z5b z d (bmG g b)=true/\∀ k:Nat,k<5->(k:Int)∈vars d.1->iAt b k≠10/\iAt (bmG g b) k=g (iAt b k)/\zga (g (iAt b k))=true:=by
 obtain⟨_,hd,h5⟩:=z7r ht
 unfold z5b at ht
 simp only[Bool.and_eq_true]at ht
 have hB:=ht.2.2.2.1
 have hF:=ht.2.2.2.2
 have hs:=z4c hd
 have hval:∀ k:Nat,k<5->(k:Int)∈vars d.1->iAt b k≠10/\iAt (bmG g b) k=g (iAt b k)/\zga (g (iAt b k))=true:=fun k hk hv=>by
  have h10:iAt b k≠10:=zor (zam hF hv).1
  obtain⟨f,hf,hm⟩:=z09p hF hv
  exact⟨h10,by rw[z0a1 (by omega),if_neg h10],h.val hz hf hm⟩
 refine⟨?_,hval⟩
 unfold z5b
 rw[hz,<-h.rel,hd]
 have hl:(bmG g b).length=5:=by unfold bmG;rw[List.length_map,h5]
 rw[hl]
 have t1:zkj d (bmG g b)=true:=by
  unfold zkj
  refine List.all_eq_true.mpr fun k hk=>?_
  have hk:k<5:=by rw[hl]at hk;exact List.mem_range.mp hk
  have hb:=List.all_eq_true.mp hB k (List.mem_range.mpr (by omega))
  by_cases hv:(k:Int)∈vars d.1
  . obtain⟨q1,q2,q3⟩:=hval k hk hv
    rw[decide_eq_true hv,show(iAt (bmG g b) k == 10)=false from beq_eq_false_iff_ne.mpr (by rw[q2];exact zor q3)];rfl
  . rw[decide_eq_false hv]at hb ⊢
    have e:iAt b k=10:=by
     cases h:(iAt b k == 10)with
     |true=>simpa using h
     |false=>rw[h]at hb;cases hb
    rw[z0a1 (by omega),if_pos e];rfl
 have t2:zew z d (bmG g b)=true:=by
  unfold zew
  refine List.all_eq_true.mpr fun a ha=>?_
  obtain⟨m1,m2⟩:=z0b7 hF ha
  obtain⟨i1,i2,i3⟩:=zly m1
  have hrow:=(zcj (hs.2.2.1 a ha)).2
  have hv:∀ t∈a.2.1,(if 0<=t then iAt (bmG g b) t.toNat else -1 - t)=g (if 0<=t then iAt b t.toNat else -1 - t):=fun t hm=>by
   have:=hrow t hm
   by_cases h0:0<=t
   . rw[if_pos h0,if_pos h0]
     have hvt:((t.toNat:Nat):Int)∈vars d.1:=by
      rw[Int.toNat_of_nonneg h0]
      unfold vars
      rw[mem_sset,List.mem_filter,List.mem_flatMap]
      exact⟨⟨a,ha,hm⟩,decide_eq_true h0⟩
     exact(hval t.toNat (by omega) hvt).2.1
   . rw[if_neg h0,if_neg h0,h.con _ (by omega)]
  have hfact:=h.fact _ m2
  have e:(zdg a b).2.1.map g=a.2.1.map fun t=>if 0<=t then iAt (bmG g b) t.toNat else -1 - t:=by
   rw[i2,List.map_map]
   exact List.map_congr_left fun t hm=>(hv t hm).symm
  obtain⟨n1,n2⟩:=zy8 (a:=a) (c:=bmG g b) (fun t hm=>by
   rw[hv t hm]
   exact h.val hz m2 (by rw[i2];exact List.mem_map.mpr ⟨t,hm,rfl⟩)) (fun t hm=>by rw[hl];exact(hrow t hm).2)
  rw[n1,n2]
  unfold hmF at hfact
  rw[i1,e]at hfact
  rw[decide_eq_true hfact];rfl
 rw[t1,t2];rfl
theorem Hom.egd (h:Hom g y z) (hz:z2r z=true) (ha:act y d b=true) (hno:act z d (bmG g b)=false) (he:d.2.2.1=true):g (iAt b d.2.2.2.1.toNat)=g (iAt b d.2.2.2.2.1.toNat):=by
 obtain⟨_,hd,h5⟩:=z9y ha
 obtain⟨q1,q2⟩:=h.trig hz (zan ha)
 have hsd:=z6m hd he
 obtain⟨e1,e2⟩:=znz hd he
 have w1:=(q2 d.2.2.2.1.toNat (by omega) (by rw[Int.toNat_of_nonneg hsd.1.1];exact e1)).2.1
 have w2:=(q2 d.2.2.2.2.1.toNat (by omega) (by rw[Int.toNat_of_nonneg hsd.2.1];exact e2)).2.1
 unfold act at hno
 rw[q1,he]at hno
 simp only[if_true,Bool.true_and]at hno
 rw[<-w1,<-w2]
 simpa using hno
theorem z055:∀ {l b:List Int} {k:Int},(∀ v∈l,0<=v/\v<5)->l.Nodup->b.length=5->∀ i j:Nat,i<5->j<5->(i:Int)∈l->(j:Int)∈l->iAt (zf9 b l k) i=iAt (zf9 b l k) j->i=j
 |[],b,k,_,_,_,i,j,_,_,hi,_,_=>by simp at hi
 | v::l,b,k,hv,hn,h5,i,j,hi,hj,mi,mj,e=>by
   have hn:=List.nodup_cons.mp hn
   have hvr:=hv v (by simp)
   have hvl:∀ u∈l,0<=u/\u<5:=fun u hu=>hv u (by simp[hu])
   have hset:(b.set v.toNat (-1 - k)).length=5:=by simpa using h5
   have e:iAt (zf9 (b.set v.toNat (-1 - k)) l (k+1)) i=iAt (zf9 (b.set v.toNat (-1 - k)) l (k+1)) j:=e
   obtain⟨a1,a2⟩:=zw1 (l:=l) (b:=b.set v.toNat (-1 - k)) (k:=k+1) hvl hset i hi
   obtain⟨c1,c2⟩:=zw1 (l:=l) (b:=b.set v.toNat (-1 - k)) (k:=k+1) hvl hset j hj
   have hat:∀ m:Nat,m<5->(m:Int)=v->iAt (b.set v.toNat (-1 - k)) m = -1 - k:=fun m hm h=>by rw[zf2 (by omega),if_pos (by omega)]
   by_cases hil:(i:Int)∈l<;>by_cases hjl:(j:Int)∈l
   . exact z055 hvl hn.2 hset i j hi hj hil hjl e
   . have hjv:(j:Int)=v:=(List.mem_cons.mp mj).resolve_right hjl
     obtain⟨n,q,_⟩:=a1 hil
     rw[q,c2 hjl,hat j hj hjv]at e;omega
   . have hiv:(i:Int)=v:=(List.mem_cons.mp mi).resolve_right hil
     obtain⟨n,q,_⟩:=c1 hjl
     rw[q,a2 hil,hat i hi hiv]at e;omega
   . have hiv:(i:Int)=v:=(List.mem_cons.mp mi).resolve_right hil
     have hjv:(j:Int)=v:=(List.mem_cons.mp mj).resolve_right hjl
     omega
theorem z067 (d:z0f):(exV d).Nodup:=by
 unfold exV vars
 exact(List.Pairwise.imp (fun h=>by omega) (zkw _)).filter _
theorem Hom.tgd (h:Hom g y z) (hz:z2r z=true) (ha:act y d b=true) (hno:act z d (bmG g b)=false) (he:d.2.2.1=false) (hc:(zbf y d b).2=1):∃ g',Hom g' (zbf y d b).1 z:=by
 classical
 obtain⟨hy,hd,h5⟩:=z9y ha
 obtain⟨q1,q2⟩:=h.trig hz (zan ha)
 have hrel:=(zi3 ha hc).2
 have ht:=zan ha
 unfold z5b at ht
 simp only[Bool.and_eq_true]at ht
 have hF:=ht.2.2.2.2
 have hs:=z4c hd
 have hext:zgg z d.2.1 (bmG g b)=true:=by
  unfold act at hno
  rw[q1,he]at hno
  simpa using hno
 unfold zgg at hext
 simp only[Bool.and_eq_true,decide_eq_true_eq]at hext
 obtain⟨c,hcw⟩:∃ c,c∈zbs z.2.1 d.2.1 (bmG g b):=List.exists_mem_of_length_pos hext.2.2
 obtain⟨k1,k2,_⟩:=zyj (zlo hz) hcw (zhc hext.1).1 (by simpa using hext.2.1)
 rw[zej ha he]at hc hrel ⊢
 split at hc
 . simp at hc
 . next hn=>
   rw[if_neg hn]at hrel ⊢
   have hn1:z2s y+(exV d).length<=40:=by omega
   have hN:=zbr y
   have hwv:=fun j (hj:j<5)=>zw1 (l:=exV d) (b:=b) (k:=z2s y) (fun v hv=>zhh hd hv) h5 j hj
   let P:Int->Nat->Prop:=fun v j=>j<5/\(j:Int)∈exV d/\iAt (zf9 b (exV d) (z2s y)) j=v
   let g':Int->Int:=fun v=>if h:∃ j,P v j then iAt c h.choose else g v
   have new:∀ j:Nat,j<5->(j:Int)∈exV d->g' (iAt (zf9 b (exV d) (z2s y)) j)=iAt c j:=fun j hj hm=>by
    have hex:∃ j',P (iAt (zf9 b (exV d) (z2s y)) j) j':=⟨j,hj,hm,rfl⟩
    show(if h:∃ j',P _ j' then iAt c h.choose else _)=_
    rw[dif_pos hex]
    obtain⟨p1,p2,p3⟩:=hex.choose_spec
    rw[z055 (fun v hv=>zhh hd hv) (z067 d) h5 _ j p1 hj p2 hm p3]
   have old:∀ v,(0<=v\/(zao v=true->z6p v<z2s y))->g' v=g v:=fun v hv=>by
    show(if h:∃ j',P v j' then iAt c h.choose else g v)=_
    rw[dif_neg]
    rintro⟨j,p1,p2,p3⟩
    obtain⟨n,e,hn2⟩:=(hwv j p1).1 p2
    rw[p3]at e
    have hnul:zao v=true:=isNul_iff.mpr ⟨by omega,by omega⟩
    rcases hv with hv|hv
    . omega
    . have:=hv hnul
      unfold z6p at this
      rw[if_pos hnul]at this
      omega
   refine⟨g',hrel.trans h.rel,fun v hv=>by rw[old v (.inl hv),h.con v hv],fun f hf=>?_⟩
   rcases List.mem_append.mp (facS_mem.mp hf)with hf|hf
   . have e:hmF g' f=hmF g f:=by
      unfold hmF
      rw[List.map_congr_left fun v hv=>old v (.inr fun hnul=>zpd hf hv hnul)]
     rw[e];exact h.fact f hf
   . obtain⟨a,hm,rfl⟩:=List.mem_map.mp hf
     have hval:=fun t (ht:t∈a.2.1)=>z05w hd h5 hF hn1 hm ht
     obtain⟨m1,m2⟩:=zy8 (a:=a) (c:=zf9 b (exV d) (z2s y)) (fun t ht=>(hval t ht).1) (fun t ht=>by rw[zez,h5];exact(hval t ht).2)
     obtain⟨c1,c2⟩:=k2 a hm
     obtain⟨i1,i2,_⟩:=zly c1
     have e:hmF g' (zdg a (zf9 b (exV d) (z2s y)))=zdg a c:=by
      rw[m2]
      unfold hmF
      refine Prod.ext i1.symm (Prod.ext ?_ rfl)
      show(a.2.1.map _).map g'=(zdg a c).2.1
      rw[i2,List.map_map]
      refine List.map_congr_left fun t ht=>?_
      show g' (if 0<=t then iAt (zf9 b (exV d) (z2s y)) t.toNat else -1 - t)=if 0<=t then iAt c t.toNat else -1 - t
      have ht5:=(hval t ht).2
      by_cases h0:0<=t
      . rw[if_pos h0,if_pos h0]
        obtain⟨j,rfl⟩:∃ j:Nat,t=(j:Int):=⟨t.toNat,by omega⟩
        rw[Int.toNat_natCast]
        rcases zvr hm ht h0 with hx|⟨hx,hv⟩
        . exact new j (by omega) hx
        . rw[(hwv j (by omega)).2 hx]
          obtain⟨b1,b2,b3⟩:=q2 j (by omega) hv
          obtain⟨tv1,tv2⟩:=zam hF hv
          rw[old _ (.inr tv2),<-b2]
          exact(k1.2 j (by rw[b2];exact zor b3)).symm
      . rw[if_neg h0,if_neg h0,old _ (.inl (by omega)),h.con _ (by omega)]
     rw[e];exact c2
end
theorem z06l {ds:List z0f} {y z:z02} {c:Int} (hc:¬ c=1):∀ {l:List z00} {k:Int},zbw (zm5 ds) l (y,c) = .inr (z,k)->k=c
 |[],k,h=>by simp only[zbw,Sum.inr.injEq,Prod.mk.injEq]at h;exact h.2.symm
 | s::l,k,h=>by
   simp only[zbw]at h
   have:zm5 ds (y,c) s = .inl ():=by unfold zm5;rw[if_neg hc]
   rw[this]at h;simp at h
theorem zxv {ds:List z0f} {w:z02} (hw:z2r w=true) (hno:∀ d∈ds,∀ b,act w d b=false):∀(l:List z00) (y z:z02),(∃ g,Hom g y w)->zbw (zm5 ds) l (y,1) = .inr (z,2)->False
 |[],y,z,_,h=>by simp[zbw]at h
 | s::l,y,z,⟨g,hg⟩,h=>by
   simp only[zbw]at h
   cases e:zm5 ds (y,1) s with
   |inl _=>rw[e]at h;simp at h
   | inr q=>
     rw[e]at h
     obtain⟨_,hin,ha,rfl⟩:=zyn e
     have ha:act y (z34 ds s.1) s.2.1=true:=ha
     have hr:=inR_iff.mp hin
     have hmem:z34 ds s.1∈ds:=by
      unfold z34
      rw[z8q (by omega)]
      exact List.getElem_mem _
     have hn:=hno _ hmem (bmG g s.2.1)
     have h:zbw (zm5 ds) l (zbf y (z34 ds s.1) s.2.1) = .inr (z,2):=h
     cases he:(z34 ds s.1).2.2.1 with
     | true=>
       have hq:=hg.egd hw ha hn he
       have hne:¬ iAt s.2.1 (z34 ds s.1).2.2.2.1.toNat=iAt s.2.1 (z34 ds s.1).2.2.2.2.1.toNat:=by
        have ha2:=ha
        unfold act at ha2
        rw[he]at ha2
        simp only[Bool.and_eq_true,if_true]at ha2
        have:=ha2.2
        intro e3
        rw[e3]at this
        simp at this
       by_cases hc:(zbf y (z34 ds s.1) s.2.1).2=1
       . obtain⟨hx,hd,h5⟩:=z9y ha
         have hrel:=(zi3 ha hc).2
         have hF:=(by have ht:=zan ha;unfold z5b at ht;simp only[Bool.and_eq_true]at ht;exact ht.2.2.2.2:zew y (z34 ds s.1) s.2.1=true)
         have hsd:=z6m hd he
         obtain⟨e1,e2⟩:=znz hd he
         have w1:=zam hF (k:=(z34 ds s.1).2.2.2.1.toNat) (by rw[Int.toNat_of_nonneg hsd.1.1];exact e1)
         have w2:=zam hF (k:=(z34 ds s.1).2.2.2.2.1.toNat) (by rw[Int.toNat_of_nonneg hsd.2.1];exact e2)
         have key:Hom g (zbf y (z34 ds s.1) s.2.1).1 w:=by
          refine⟨hrel.trans hg.rel,hg.con,fun f hf=>?_⟩
          rw[zi6 ha he]at hc hf
          generalize iAt s.2.1 (z34 ds s.1).2.2.2.1.toNat=p at hq hc hf w1 hne
          generalize iAt s.2.1 (z34 ds s.1).2.2.2.2.1.toNat=r at hq hc hf w2 hne
          split at hc
          . simp at hc
          . next hnn=>
            rw[if_neg hnn]at hf
            have r1:=inR_iff.mp w1.1
            have r2:=inR_iff.mp w2.1
            have hmin:zao (zji p r)=true:=by unfold zji;split<;>exact isNul_iff.mpr ⟨by omega,by omega⟩
            have hmax:zga (zni p r)=true:=by
             unfold zni
             split
             . exact w2.1
             . exact w1.1
            have hgm:g (zji p r)=g (zni p r):=by
             unfold zji zni
             by_cases hlt:r<p
             . rw[if_pos hlt,if_neg (by omega)];exact hq.symm
             . rw[if_neg hlt]
               by_cases hgt:r > p
               . rw[if_pos hgt];exact hq
               . rw[if_neg hgt]
            have hk:z6p (zji p r) = -1 - zji p r:=by unfold z6p;rw[if_pos hmin]
            have hmr:=isNul_iff.mp hmin
            generalize zji p r=m at hmin hk hmr hgm hf
            generalize zni p r=M at hmax hgm hf
            rw[hk]at hf
            have hs:zgb ([-1 - m],([M],()))=true:=znt (by omega) (by omega) hmax
            have hsv:∀ v,zon ([-1 - m],([M],())) v=if v=m then M else v:=fun v=>by rw[zzb (by omega) (by omega) hmax,show -1 - (-1 - m)=m by omega]
            have e:ztg ([-1 - m],([M],())) y=subI ([-1 - m],([M],())) y:=by unfold ztg;rw[hs,hx];rfl
            rw[e]at hf
            obtain⟨f0,hf0,rfl⟩:=List.mem_map.mp (facS_mem.mp hf)
            have e3:hmF g (zo9 ([-1 - m],([M],())) f0)=hmF g f0:=by
             unfold hmF zo9
             simp only[List.map_map]
             rw[List.map_congr_left fun v hv=>show(g ∘ zon ([-1 - m],([M],()))) v=g v by
              show g (zon ([-1 - m],([M],())) v)=g v
              rw[hsv]
              split
              . next ev=>rw[ev,hgm]
              . rfl]
            rw[e3];exact hg.fact f0 hf0
         refine zxv hw hno l (zbf y (z34 ds s.1) s.2.1).1 z ⟨g,key⟩ ?_
         rw[<-h,<-hc]
       . rw[zi6 ha he]at hc
         split at hc
         . next hpq=>
           rw[hg.con _ hpq.1,hg.con _ hpq.2]at hq
           exact hne hq
         . exact absurd rfl hc
     | false=>
       by_cases hc:(zbf y (z34 ds s.1) s.2.1).2=1
       . refine zxv hw hno l (zbf y (z34 ds s.1) s.2.1).1 z (hg.tgd hw ha hn he hc) ?_
         rw[<-h,<-hc]
       . have h2:(zbf y (z34 ds s.1) s.2.1).2=3:=by
          rw[zej ha he]at hc ⊢
          split at hc
          . next hx=>rw[if_pos hx]
          . exact absurd rfl hc
         have:=z06l (ds:=ds) (y:=(zbf y (z34 ds s.1) s.2.1).1) (z:=z) (c:=(zbf y (z34 ds s.1) s.2.1).2) hc (l:=l) (k:=2) h
         omega
theorem z0bc {x:z02} {ds:List z0f} {l:List z00} (h:z7k x ds l=true):(chs x ds).2=true/\¬ (chs x ds).1.2.1=1:=by
 unfold z7k z3h at h
 split at h
 . next hv=>
   cases e:zbw (zm5 ds) l (x,1)with
   |inl r=>rw[e]at h;simp at h
   | inr st=>
     rw[e]at h
     have hs:st.2=2:=by simpa using h
     have e2:chs x ds=(chK ds 60 x [],true):=by unfold chs;rw[if_pos hv]
     rw[e2]
     refine⟨rfl,fun h1=>?_⟩
     rw[Bool.and_eq_true]at hv
     obtain⟨hg,ht,hw⟩:=z06r 60 x [] hv.1 h1
     exact zxv hw (fun d hd b=>z07r ht hd b) l x st.1 hg (by rw[e,<-hs])
 . simp at h
theorem z06s {a n:Int} (h0:0<=a) (h1:0<n) (h2:n<=1000000000):zos a n (a % n):=z05y _ _ _ (by
 unfold zxi
 have hm:=Int.emod_nonneg a (show n≠0 by omega)
 have hl:=Int.emod_lt_of_pos a h1
 refine⟨by omega,by omega,?_⟩
 rw[Int.tmod_eq_emod_of_nonneg h0,z1s (by omega) (by omega),Int.tmod_eq_emod_of_nonneg (by omega),Int.add_emod_right,Int.emod_emod_of_dvd a (Int.dvd_refl n)])
theorem z05i {x:z02} {ds:List z0f} (h:ds.length<=5):(zer x ds).length<=135000:=by
 have:∀(l:List Nat) (out:List z00),(l.foldl (trgG x ds) out).length<=out.length+27000 * l.length:=by
  intro l
  induction l with
  |nil=>intro out;simp
  | cons i l ih=>
    intro out
    rw[List.foldl_cons]
    have h1:=ih (trgG x ds out i)
    have h2:(znw x (ds.getD i zdf)).length<=27000:=by
     unfold znw
     split
     . exact Nat.le_trans (List.length_filter_le _ _) zk8
     . simp
    have h3:(trgG x ds out i).length=out.length+(znw x (ds.getD i zdf)).length:=by rw[zlp,List.length_append,List.length_map]
    rw[List.length_cons]
    omega
 have:=this (List.range ds.length) []
 rw[List.length_range,List.length_nil]at this
 unfold zer
 omega
def zqc (l:List z00):Prop:=l.length<=60/\∀ t∈l,t.2.1.length=5
theorem d_go {x:z02} {ds:List z0f} {p q:Int} (hp:0<=p/\p<5) (hq:0<=q/\q<5):∃ r ok,zut x ds [p,q] r ok/\zqc r.2.2.1:=by
 have hs:zk1 x ds [p,q] (fun r=>zqc r.1.2.2.1):=by
  unfold zk1
  have nil:zqc []:=⟨by simp,by simp⟩
  refine⟨_,z3w,z0p (fun _=>nil) (fun h1=>⟨_,z2d,z0p (fun _=>nil) (fun h2=>?_)⟩)⟩
  have hr:=zbl (z99 h1)
  have hf:=z9u h1
  have hdl:=zq6 h2
  refine⟨x,ze4 (by omega) (by omega) (fun f hf=>zpj h1 hf),?_⟩
  refine z1f (fun k a=>∃(n:Nat) (y:z02) (c:Int) (l:List z00) (z:zv1),a=((n:Int),((y,(c,(l,()))),(z,())))/\SmI y/\l.length=n/\n+k=60/\∀ t∈l,t.2.1.length=5) ?_ ?_ (n:=60) ⟨0,x,_,[],_,rfl,.of h1,rfl,rfl,by simp⟩
  . rintro a ⟨n,y,c,l,z,rfl,hy,hl,hn,h5⟩ X
    exact z0e (fun h=>by simp only at h;omega) (fun _=>⟨by simp only;omega,h5⟩)
  . rintro k a ⟨n,y,c,l,z,rfl,hy,hl,hn,h5⟩ X hX
    refine z0e (fun _=>⟨_,z03t hdl,z0m fun hlen=>?_⟩) (fun h=>by simp only at h;omega)
    refine z4a (fun _=>⟨by simp only;omega,h5⟩) (fun hne=>z0m fun _=>?_)
    have hpos:0<(zer y ds).length:=by simp only at hne;omega
    refine z0e (fun _=>z0m fun _=>⟨by simp,?_⟩) (fun h=>by simp at h)
    have hm:=Int.emod_nonneg (n:Int) (show(2:Int)≠0 by omega)
    have hm2:=Int.emod_lt_of_pos (n:Int) (show(0:Int)<2 by omega)
    have e2:(([p,q]:List Int).length:Int)=2:=rfl
    rw[e2,Int.tmod_eq_emod_of_nonneg (show(0:Int)<=(n:Int) by omega)]
    refine⟨⟨hm,hm2⟩,z0m fun _=>?_⟩
    obtain⟨v,hv,hvr⟩:∃ v,([p,q]:List Int).getD (Int.toNat ((n:Int) % 2)) 0=v/\0<=v:=by
     rcases (show(n:Int) % 2=0\/(n:Int) % 2=1 by omega)with h|h
     . rw[h];exact⟨p,rfl,hp.1⟩
     . rw[h];exact⟨q,rfl,hq.1⟩
    rw[hv]
    have hbig:((zer y ds).length:Int)<=1000000000:=by
     have:=z05i (x:=y) hdl
     omega
    have y1:=Int.emod_nonneg v (show((zer y ds).length:Int)≠0 by omega)
    have y2:=Int.emod_lt_of_pos v (show 0<((zer y ds).length:Int) by omega)
    refine⟨_,z06s hvr (by omega) hbig,?_⟩
    generalize v % ((zer y ds).length:Int)=j at y1 y2 ⊢
    obtain⟨m,rfl⟩:∃ m:Nat,j=(m:Int):=⟨j.toNat,by omega⟩
    have hml:m<(zer y ds).length:=by omega
    simp only
    rw[z2g hml]
    obtain⟨i,hi,b,hb,e⟩:=zv5 (x:=y) (ds:=ds) (t:=(zer y ds)[m]) (List.getElem_mem hml)
    rw[e]
    refine⟨⟨y1,y2⟩,⟨y1,y2⟩,trivial,⟨by show(0:Int)<=(i:Int);omega,by show(i:Int)<_;omega⟩,_,_,zh8 hy,⟨y1,y2⟩,?_,?_⟩
    . simp only[z1p,List.length_cons,List.length_nil];omega
    . have h5':∀ t∈l++[(((i:Int),(b,())):z00)],t.2.1.length=5:=fun t ht=>by
       rcases List.mem_append.mp ht with ht|ht
       . exact h5 t ht
       . obtain rfl:=List.mem_singleton.mp ht;exact hb
      refine z97 (fun _=>⟨by simp only[List.length_append,List.length_cons,List.length_nil];omega,h5'⟩) (fun _=>?_)
      rw[z06 (by omega)]
      exact hX _ ⟨n+1,_,_,_,_,rfl,hy.step,by simp;omega,by omega,h5'⟩
 obtain⟨⟨r,ok,_⟩,hq,hv⟩:=zll (S:=zk1 x ds [p,q]) hs ⟨((([],([],())),(0,([],()))),(false,())),by simp,by simp⟩ fun hi=>by
  unfold zk1
  repeat' first|exact rk|apply_assumption|refine rb ?_ ?_|refine rl hi ?_|refine ra ?_|(refine rp ?_;intro _ _ _ _)|(refine re ?_;intro _)
 exact⟨r,ok,z07t _ _ _ _ _ hv,hq⟩
theorem z0c1 {c:Src} {x:z02} {ds:List z0f} (h:Oks c):∃ l z,zbn c x ds l z/\zqc l:=by
 have hs:z6e c x ds (fun r=>zqc r.1):=by
  unfold z6e
  obtain⟨p,c1,k1,hp,hc1⟩:=z6x h (n:=5) (by decide) (by decide)
  obtain⟨q,c2,k2,hq,hc2⟩:=z6x hc1 (n:=5) (by decide) (by decide)
  obtain⟨r,ok,hg,hr⟩:=d_go (x:=x) (ds:=ds) hp hq
  obtain⟨o,c3,k3,hc3⟩:=zsw hc2 (n:=5) (by decide) (by decide)
  refine⟨trivial,p,c1,k1,q,c2,k2,r,ok,zln _ _ _ _ _ ⟨r,ok,hg,rfl⟩,_,z01r (by have:=hr.1;omega) (fun t ht=>by have:=hr.2 t ht;omega),z0m fun _=>z0e (fun hp=>⟨o,c3,k3,z1w (fun _=>⟨⟨by omega,by omega,Int.le_refl _,by omega⟩,?_⟩) (fun _=>hr)⟩) (fun _=>hr)⟩
  refine⟨?_,fun t ht=>hr.2 t (List.mem_of_mem_drop (List.mem_of_mem_take ht))⟩
  have:=hr.1
  simp only[List.length_take,List.length_drop]
  omega
 obtain⟨⟨l,z,_⟩,hq,hv⟩:=zll (S:=z6e c x ds) hs ⟨([],(c,())),by simp,by simp⟩ fun hi=>by
  unfold z6e
  repeat' first|exact rk|apply_assumption|refine rb ?_ ?_|refine rl hi ?_|refine ra ?_|(refine rp ?_;intro _ _ _ _)|(refine re ?_;intro _)
 exact⟨l,z,zpi _ _ _ _ _ hv,hq⟩
theorem law {x0:List Int} (_:Bnd (.sl 5 (.int .u8)) x0):z59 x0 true:=za8 _ _ (by
 unfold z5f
 refine⟨_,z0d6,z0e (fun _=>rfl) (fun hb=>?_)⟩
 have hlen:x0.length<=1048576:=by omega
 obtain⟨c,x,ds,gb,hc⟩:=z08x hlen
 obtain⟨l,z,gf,hl,h5⟩:=z0c1 (x:=x) (ds:=ds) hc
 have hsh:z3f x ds l (shF x ds l):=zg6 (by omega) (fun t ht=>by have:=h5 t ht;omega)
 have hS:=z094 (x:=x) (ds:=ds) (l:=l)
 have hL:=z0c0 (x:=x) (ds:=ds) (l:=l)
 have hcf:(znk x ds l).2.2=z7k x ds l:=by
  unfold znk
  split
  . next h=>rw[h]
  . next h=>cases e:z7k x ds l with
    |false=>rfl
    |true=>exact absurd e h
 refine⟨x,ds,l,zgn _ _ _ _ ⟨c,x,ds,gb,l,z,gf,rfl⟩,_,z4k,_,_,_,zed,_,_,_,zf0,_,zdn,z0bn (fun h=>absurd rfl h) fun _=>z0bn (fun h=>absurd rfl h) fun _=>z97 (fun h=>absurd rfl h) fun _=>z97 (fun h=>absurd rfl h) fun _=>?_⟩
 refine z0bn (fun h=>absurd hcf h) fun _=>⟨_,_,z085,_,hsh,?_⟩
 have fin:∃ y:Bool,z1q x ds (shF x ds l) y/\(z01 (y == z7k x ds l) (z0t ((shF x ds l).length:Int) (z0t (l.length:Int) (((decide (((shF x ds l).length:Int)<=(l.length:Int)),()):Bool×Unit)=(true,())))) (((false,()):Bool×Unit)=(true,()))):=by
  refine⟨_,z4k,z4a (fun _=>z0m fun _=>z0m fun _=>?_) (fun h=>absurd hS h)⟩
  rw[decide_eq_true (by omega)]
 refine z0p (fun _=>fin) (fun hf=>?_)
 obtain⟨f1,f2⟩:=z0bc hf
 rw[f1]
 exact bcT (z97 (fun _=>fin) (fun h=>absurd h f2)))
end Go.V

