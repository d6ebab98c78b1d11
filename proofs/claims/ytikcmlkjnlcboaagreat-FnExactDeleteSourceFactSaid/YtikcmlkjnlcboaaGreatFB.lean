/-
  The functions that the law reaches: what each gives.
-/
import Derived.Test.YtikcmlkjnlcboaaGreatFF
import Derived.Test.YtikcmlkjnlcboaaGreatFP
set_option linter.unusedVariables false
set_option linter.unusedSimpArgs false
set_option maxRecDepth 1000000
set_option maxHeartbeats 4000000
set_option linter.unusedVariables false
set_option linter.unusedSimpArgs false
namespace Go.V
open Go
theorem zcj {x0:List Int} (h:x0.length<=1099511627776):z5d x0 (z4t x0):=z0ez h
theorem zag {x0:List Int}:z4a x0 (zfy x0):=z048
def cmpI (a b:Int):Int:=if a<b then -1 else if b<a then 1 else 0
def zm3:List Int->List Int->Int
 |[],[]=>0
 |[],_::_=>-1
 |_::_,[]=>1
 |a::x,b::y=>if a<b then -1 else if b<a then 1 else zm3 x y
def z9a (a b:z00):Int:=if a.1<b.1 then -1 else if b.1<a.1 then 1 else zm3 a.2.1 b.2.1
theorem cmpL_zero:∀ {x y:List Int},zm3 x y=0↔x=y
 |[],[]=>by simp[zm3]
 |[],b::y=>by simp[zm3]
 |a::x,[]=>by simp[zm3]
 | a::x,b::y=>by
   unfold zm3
   split
   . rename_i h;constructor
     . intro h';cases h'
     . intro h';cases h';omega
   . split
     . rename_i h;constructor
       . intro h';cases h'
       . intro h';cases h';omega
     . rw[cmpL_zero]
       have:a=b:=by omega
       simp[this]
theorem cmpF_zero {x y:z00}:z9a x y=0↔x=y:=by
 obtain⟨a,b,u⟩:=x;obtain⟨a',b',u'⟩:=y
 unfold z9a
 simp only
 split
 . rename_i h;constructor
   . intro h';cases h'
   . intro h';cases h';omega
 . split
   . rename_i h;constructor
     . intro h';cases h'
     . intro h';cases h';omega
   . rw[cmpL_zero]
     have:a=a':=by omega
     simp[this]
theorem z03x {x y:List Int} {i:Nat} (h:i<x.length) (h':i<y.length):zm3 (x.drop i) (y.drop i)=if x[i]<y[i] then -1 else if y[i]<x[i] then 1 else zm3 (x.drop (i+1)) (y.drop (i+1)):=by
 rw[z35 h,z35 h',zm3]
theorem z0a1 {x y:List Int} {i:Nat} (h:x.length<=i):zm3 (x.drop i) (y.drop i)=if i<y.length then -1 else 0:=by
 rw[List.drop_of_length_le h]
 by_cases h':i<y.length
 . rw[z35 h',if_pos h'];rfl
 . rw[List.drop_of_length_le (by omega),if_neg h'];rfl
theorem cmpL_end' {x y:List Int} {i:Nat} (h:i<x.length) (h':y.length<=i):zm3 (x.drop i) (y.drop i)=1:=by
 rw[List.drop_of_length_le h',z35 h];rfl
theorem zpz {x y:List Int}:zhb x y (zm3 x y):=z0df _ _ _ (by
 unfold z03i
 refine z1o (fun k a=>∃ i:Nat,i+k=x.length/\a=((i:Int),())/\i<=y.length/\zm3 (x.drop i) (y.drop i)=zm3 x y) ?_ ?_ (n:=x.length) ⟨0,by omega,rfl,by omega,by simp⟩
 . rintro a ⟨i,hi,rfl,hy,hc⟩ X
   obtain rfl:i=x.length:=by omega
   rw[z0a1 (Nat.le_refl _)]at hc
   refine z0h fun h1=>bcN (z0h fun _=>z0h fun h2=>z0l (fun h=>?_) (fun h=>z0h fun _=>z0h fun _=>z0l (fun h'=>by omega) (fun h'=>?_)))
   . rw[if_pos (by omega)]at hc;rw[<-hc]
   . rw[if_neg (by omega)]at hc;rw[<-hc]
 . rintro k a ⟨i,hi,rfl,hy,hc⟩ X hX
   have hlt:i<x.length:=by omega
   refine z0h fun h1=>bcI hlt (z0h fun h2=>z0l (fun h=>?_) (fun h=>?_))
   . have hlt':i<y.length:=by omega
     refine inI hlt (inI hlt' ?_)
     simp only
     rw[z2k hlt,z2k hlt']
     rw[z03x hlt hlt']at hc
     refine z0l (fun h=>?_) (fun h=>inI hlt (inI hlt' (z0l (fun h'=>?_) (fun h'=>?_))))
     . rw[if_pos h]at hc;rw[<-hc]
     . rw[if_neg h,if_pos h']at hc;rw[<-hc]
     . rw[if_neg h,if_neg (by omega)]at hc
       rw[z02 (by omega)]
       exact hX _ ⟨i+1,by omega,rfl,by omega,hc⟩
   . simp only at h
     rw[cmpL_end' hlt (by omega)]at hc
     refine z0h fun _=>z0h fun _=>z0l (fun h'=>by omega) (fun h'=>z0h fun _=>z0h fun _=>z0l (fun h''=>?_) (fun h''=>by omega))
     rw[<-hc])
theorem zav {x y:z00}:z6i x y (z9a x y):=zvo _ _ _ (by
 unfold zku z9a
 refine z0l (fun h=>by rw[if_pos h]) (fun h=>z0l (fun h'=>by rw[if_neg h,if_pos h']) (fun h'=>⟨_,zpz,by rw[if_neg h,if_neg (by omega)]⟩)))
theorem zjy {x:Int}:zap x false:=zuw _ _ (by unfold zl3;simp)
theorem zhg {x y:Int}:z94 x y (cmpI x y):=zqo _ _ _ (by
 unfold zhq cmpI
 refine⟨_,zjy,_,zjy,bcF (bcF (z0l (fun h=>by rw[if_pos h]) (fun h=>z0l (fun h'=>by rw[if_neg h,if_pos h']) (fun h'=>by rw[if_neg h,if_neg h']))))⟩)
theorem cmpI_zero {a b:Int}:cmpI a b=0↔a=b:=by unfold cmpI;split<;>(try split)<;>omega
theorem zmc {x y:List Int}:z9c x y (zm3 x y):=zmd _ _ _ (by
 unfold ze5
 refine z0h fun h1=>z1o (fun k a=>∃ i:Nat,i+k=x.length/\a=((i:Int),())/\zm3 (x.drop i) (y.drop i)=zm3 x y/\i<=y.length) ?_ ?_ (n:=x.length) ⟨0,by omega,rfl,by simp,by omega⟩
 . rintro a ⟨i,hi,rfl,hc,hy⟩ X
   obtain rfl:i=x.length:=by omega
   rw[z0a1 (Nat.le_refl _)]at hc
   refine bcN (z0h fun _=>z0h fun h2=>z0l (fun h=>?_) (fun h=>?_))
   . rw[if_pos (by omega)]at hc;rw[<-hc]
   . rw[if_neg (by omega)]at hc;rw[<-hc]
 . rintro k a ⟨i,hi,rfl,hc,hy⟩ X hX
   have hlt:i<x.length:=by omega
   refine bcI hlt (inI hlt (z0h fun h2=>z0l (fun h=>?_) (fun h=>?_)))
   . simp only at h
     rw[cmpL_end' hlt (by omega)]at hc
     rw[<-hc]
   . simp only at h
     have hlt':i<y.length:=by omega
     refine inI hlt' ⟨_,zhg,?_⟩
     simp only
     rw[z2k hlt,z2k hlt']
     rw[z03x hlt hlt']at hc
     refine z6u (fun h=>?_) (fun h=>?_)
     . have hne:x[i]≠y[i]:=fun e=>h (cmpI_zero.mpr e)
       rw[<-hc]
       unfold cmpI
       by_cases h3:x[i]<y[i]
       . rw[if_pos h3,if_pos h3]
       . rw[if_neg h3,if_neg h3,if_pos (by omega),if_pos (by omega)]
     . have he:=cmpI_zero.mp h
       rw[if_neg (by omega),if_neg (by omega)]at hc
       rw[z02 (by omega)]
       exact hX _ ⟨i+1,by omega,rfl,hc,by omega⟩)
def orL:List Int->Int
 |[]=>0
 |a::l=>if a=0 then orL l else a
theorem z04j {x:List Int}:zka x (orL x):=z05p _ _ (by
 unfold zs1
 have key:∀ l:List Int,orL l=if h:z03 (fun t=>t != 0) l<l.length then l[z03 (fun t=>t != 0) l] else 0:=by
  intro l
  induction l with
  |nil=>simp[orL,z03]
  | cons a l ih=>
    unfold orL
    by_cases ha:a=0
    . rw[if_pos ha,ih]
      simp only[z03,ha,bne_self_eq_false,Bool.false_eq_true,if_false,List.length_cons,Nat.add_lt_add_iff_right,List.getElem_cons_succ]
    . rw[if_neg ha]
      have:(a != 0)=true:=by simpa using ha
      simp[z03,this]
 refine z0h fun hl=>zep x (fun t=>t != 0) (fun i=>((i:Int),())) (KT:=fun i=>∀ h:i<x.length,((x[i],()):Int×Unit)=(orL x,())) (KF:=(((0:Int),()):Int×Unit)=(orL x,())) ?_ ?_ ?_ ?_
 . intro i hi X h1 h2
   refine bcI hi (inI hi ?_)
   simp only
   rw[z2k hi,z02 (by omega)]
   exact z1u (fun h=>h1 h hi) h2
 . intro X h;exact bcN h
 . intro h h';rw[key,dif_pos h]
 . intro h;rw[key,dif_neg (by omega)])
theorem z69 {x y:z00}:z4u x y (z9a x y):=zve _ _ _ (by
 unfold zjv
 refine⟨_,zhg,_,zmc,_,z04j,?_⟩
 have:orL [cmpI x.1 y.1,zm3 x.2.1 y.2.1]=z9a x y:=by
  unfold z9a
  by_cases h:x.1<y.1
  . have:cmpI x.1 y.1 = -1:=by unfold cmpI;rw[if_pos h]
    rw[if_pos h,this];rfl
  . rw[if_neg h]
    by_cases h':y.1<x.1
    . have:cmpI x.1 y.1=1:=by unfold cmpI;rw[if_neg h,if_pos h']
      rw[if_pos h',this];rfl
    . have:cmpI x.1 y.1=0:=by unfold cmpI;rw[if_neg h,if_neg h']
      rw[if_neg h',this]
      unfold orL
      rw[if_pos rfl]
      unfold orL
      by_cases h0:zm3 x.2.1 y.2.1=0
      . rw[if_pos h0,h0];rfl
      . rw[if_neg h0]
 rw[this])
theorem zim {x y:z00}:zew x y (decide (x=y)):=z07r _ _ _ (by
 unfold zwe
 refine⟨_,z69,?_⟩
 have:(z9a x y == (0:Int))=decide (x=y):=by
  by_cases h:x=y
  . rw[cmpF_zero.mpr h];simp[h]
  . have:z9a x y≠0:=fun e=>h (cmpF_zero.mp e)
    simp[h,this]
 rw[this])
def ins:List Int->Int->List Int
 |[],x=>[x]
 |a::l,x=>if a<x then a::ins l x else if a=x then a::l else x::a::l
def srt (l:List Int):Prop:=l.Pairwise (· < ·)
def zhx (l:List Int):List Int:=l.foldl ins []
theorem mem_put {y x:Int}:∀ {l:List Int},y∈ins l x↔y=x\/y∈l
 |[]=>by simp[ins]
 | a::l=>by
   unfold ins
   split
   . rw[List.mem_cons,mem_put,List.mem_cons]
     constructor
     . rintro (h|h|h)<;>simp[h]
     . rintro (h|h|h)<;>simp[h]
   . split
     . rename_i h;subst h;simp
     . simp
theorem z0gw {x:Int}:∀ {l:List Int},srt l->srt (ins l x)
 |[],_=>by simp[ins,srt]
 | a::l,h=>by
   obtain⟨h1,h2⟩:=List.pairwise_cons.mp h
   unfold ins
   split
   . rename_i hlt
     refine List.pairwise_cons.mpr ⟨fun y hy=>?_,z0gw h2⟩
     rcases mem_put.mp hy with rfl|hy
     . exact hlt
     . exact h1 y hy
   . split
     . exact h
     . refine List.pairwise_cons.mpr ⟨fun y hy=>?_,h⟩
       rcases List.mem_cons.mp hy with rfl|hy
       . omega
       . have:=h1 y hy;omega
theorem z06a {l:List Int}:∀ {s:List Int},srt s->srt (l.foldl ins s)/\∀ y,y∈l.foldl ins s↔y∈s\/y∈l:=by
 induction l with
 |nil=>intro s h;exact⟨h,by simp⟩
 | cons a l ih=>
   intro s h
   obtain⟨h1,h2⟩:=ih (z0gw (x:=a) h)
   refine⟨h1,fun y=>?_⟩
   rw[List.foldl_cons,h2,mem_put,List.mem_cons]
   constructor
   . rintro ((h|h)|h)<;>simp[h]
   . rintro (h|h|h)<;>simp[h]
theorem zp9 (l:List Int):srt (zhx l):=(z06a List.Pairwise.nil).1
theorem mem_sset {l:List Int} {y:Int}:y∈zhx l↔y∈l:=by have:=(z06a (l:=l) List.Pairwise.nil).2 y;simpa [zhx]using this
theorem z0dp:∀ {a b:List Int},srt a->srt b->(∀ y,y∈a↔y∈b)->a=b
 |[],[],_,_,_=>rfl
 |[],y::b,_,_,h=>by have:=(h y).mpr (by simp);simp at this
 |x::a,[],_,_,h=>by have:=(h x).mp (by simp);simp at this
 | x::a,y::b,ha,hb,h=>by
   obtain⟨ha1,ha2⟩:=List.pairwise_cons.mp ha
   obtain⟨hb1,hb2⟩:=List.pairwise_cons.mp hb
   have hxy:x=y:=by
    rcases List.mem_cons.mp ((h x).mp (by simp))with e|hx
    . exact e
    . rcases List.mem_cons.mp ((h y).mpr (by simp))with e|hy
      . exact e.symm
      . have:=ha1 y hy;have:=hb1 x hx;omega
   subst hxy
   congr 1
   refine z0dp ha2 hb2 fun z=>⟨fun hz=>?_,fun hz=>?_⟩
   . rcases List.mem_cons.mp ((h z).mp (by simp[hz]))with e|h'
     . have:=ha1 z hz;omega
     . exact h'
   . rcases List.mem_cons.mp ((h z).mpr (by simp[hz]))with e|h'
     . have:=hb1 z hz;omega
     . exact h'
theorem z0f3 {a l:List Int} (h1:srt a) (h2:∀ y,y∈a↔y∈l):a=zhx l:=z0dp h1 (zp9 l) fun y=>by rw[h2,mem_sset]
theorem z058 {l m:List Int}:(zhx m).foldl ins (zhx l)=zhx (l++m):=by
 obtain⟨h1,h2⟩:=z06a (l:=zhx m) (zp9 l)
 exact z0f3 h1 fun y=>by rw[h2,mem_sset,mem_sset,List.mem_append]
theorem z04v {l:List Int} {x:Int}:ins (zhx l) x=zhx (l++[x]):=by unfold zhx;rw[List.foldl_append];rfl
theorem z0gg (l:List Int) (x:Int):(ins l x).length<=l.length+1:=by
 induction l with
 |nil=>simp[ins]
 |cons a l ih=>unfold ins;split;simp;omega;split<;>simp
theorem z0aa (l:List Int):(zhx l).length<=l.length:=by
 have:∀(l s:List Int),(l.foldl ins s).length<=s.length+l.length:=by
  intro l
  induction l with
  |nil=>intro s;simp
  |cons a l ih=>intro s;have:=ih (ins s a);have:=z0gg s a;simp only[List.foldl_cons,List.length_cons];omega
 have:=this l []
 simpa [zhx]using this
theorem z04o {l:List Int} {a:Int}:∀ {n:Nat},srt l->(∀ y∈l,a<=y/\y<a+n)->l.length<=n:=by
 induction l generalizing a with
 |nil=>intro n _ _;simp
 | cons x l ih=>
   intro n h hr
   obtain⟨h1,h2⟩:=List.pairwise_cons.mp h
   have hx:=hr x (by simp)
   have:=ih (a:=x+1) (n:=(a+n - (x+1)).toNat) h2 fun y hy=>by
    have:=h1 y hy;have:=hr y (by simp[hy]);omega
   simp only[List.length_cons];omega
theorem z0il {l:List Int} (h:srt l) (hne:l≠[]):∀ y∈l,y<=l.getLast hne:=by
 intro y hy
 have hs:l=l.dropLast++[l.getLast hne]:=(List.dropLast_concat_getLast hne).symm
 rw[hs]at h hy
 unfold srt at h
 rw[List.pairwise_append]at h
 rcases List.mem_append.mp hy with hy|hy
 . have:=h.2.2 y hy (l.getLast hne) (by simp);omega
 . have:y=l.getLast hne:=by simpa using hy
   omega
theorem z0mv (l:List Int) (x:Int):ins l x=if h:z03 (fun a=>!decide (a<x)) l<l.length then(if l[z03 (fun a=>!decide (a<x)) l]=x then l else l.take (z03 (fun a=>!decide (a<x)) l)++x::l.drop (z03 (fun a=>!decide (a<x)) l))else l++[x]:=by
 induction l with
 |nil=>simp[ins,z03]
 | cons a l ih=>
   unfold ins
   by_cases ha:a<x
   . have e:z03 (fun a=>!decide (a<x)) (a::l)=z03 (fun a=>!decide (a<x)) l+1:=by simp[z03,ha]
     rw[if_pos ha,ih]
     by_cases hf:z03 (fun a=>!decide (a<x)) l<l.length
     . rw[dif_pos hf,dif_pos (by rw[e];simpa using hf)]
       simp only[e,List.getElem_cons_succ,List.take_succ_cons,List.drop_succ_cons]
       split
       . rfl
       . rfl
     . rw[dif_neg hf,dif_neg (by rw[e];simpa using hf)]
       rfl
   . have e:z03 (fun a=>!decide (a<x)) (a::l)=0:=by simp[z03,ha]
     rw[if_neg ha,dif_pos (by rw[e];simp)]
     simp only[e,List.getElem_cons_zero,List.take_zero,List.drop_zero,List.nil_append]
theorem z00r {l:List Int} {x:Int} (hl:l.length<=1073741824):zqf l x (ins l x):=z0je _ _ _ (by
 unfold z0ad
 have fin:∀(k:Nat),k<=l.length->((0<=(k:Int)/\(k:Int)<=(List.length l:Int)/\(List.length l:Int)<=(List.length l:Int))/\(([x]:List Int).length+(List.drop (Int.toNat (k:Int)) (List.take (Int.toNat (List.length l:Int)) l)).length<=z11/\((0<=(0:Int)/\(0:Int)<=(k:Int)/\(k:Int)<=(List.length l:Int))/\(([]:List Int).length+(List.drop (Int.toNat (0:Int)) (List.take (Int.toNat (k:Int)) l)).length<=z11/\((([]:List Int)++(List.drop (Int.toNat (0:Int)) (List.take (Int.toNat (k:Int)) l))).length+(([x]:List Int)++(List.drop (Int.toNat (k:Int)) (List.take (Int.toNat (List.length l:Int)) l))).length<=z11/\(((([]:List Int)++(List.drop (Int.toNat (0:Int)) (List.take (Int.toNat (k:Int)) l)))++(([x]:List Int)++(List.drop (Int.toNat (k:Int)) (List.take (Int.toNat (List.length l:Int)) l))),()):List Int×Unit)=(l.take k++x::l.drop k,()))))) ):=by
  intro k hk
  simp only[Int.toNat_natCast,List.take_length,Int.toNat_zero,List.drop_zero,List.nil_append,List.length_nil,List.length_cons,List.length_append,List.length_take,List.length_drop,z11,List.cons_append]
  refine⟨⟨by omega,by omega,by omega⟩,by omega,⟨by omega,by omega,by omega⟩,by omega,by omega,trivial⟩
 rw[z0mv]
 refine zep l (fun a=>!decide (a<x)) (fun i=>((i:Int),())) (KT:=fun i=>∀ h:i<l.length,∀ r:List Int×Unit,r=(if l[i]=x then l else l.take i++x::l.drop i,())->r=((if h:z03 (fun a=>!decide (a<x)) l<l.length then(if l[z03 (fun a=>!decide (a<x)) l]=x then l else l.take (z03 (fun a=>!decide (a<x)) l)++x::l.drop (z03 (fun a=>!decide (a<x)) l))else l++[x]),()))
  (KF:=∀ r:List Int×Unit,r=(l++[x],())->r=((if h:z03 (fun a=>!decide (a<x)) l<l.length then(if l[z03 (fun a=>!decide (a<x)) l]=x then l else l.take (z03 (fun a=>!decide (a<x)) l)++x::l.drop (z03 (fun a=>!decide (a<x)) l))else l++[x]),())) ?_ ?_ ?_ ?_
 . intro i hi X h1 h2
   refine z0h fun hl'=>bcI hi (inI hi ?_)
   simp only
   rw[z2k hi,z02 (by omega)]
   refine z0l (fun h=>h2 (by simpa using h)) (fun h=>?_)
   have h1:=h1 (by simpa using h) hi
   refine z0h fun _=>bcI hi (inI hi (z3e (fun he=>h1 _ (by rw[if_pos he])) (fun he=>?_)))
   rw[if_neg he]at h1
   have:=fin i (by omega)
   exact⟨this.1,this.2.1,this.2.2.1,this.2.2.2.1,this.2.2.2.2.1,h1 _ this.2.2.2.2.2⟩
 . intro X h
   refine z0h fun hl'=>bcN (z0h fun _=>bcN ?_)
   have:=fin l.length (by omega)
   refine⟨this.1,this.2.1,this.2.2.1,this.2.2.2.1,this.2.2.2.2.1,h _ (this.2.2.2.2.2.trans (by simp))⟩
 . intro h h' r hr;rw[hr,dif_pos h]
 . intro h r hr;rw[hr,dif_neg (by omega)])
theorem ztl {l:List Int} {x:Int}:zln l x (decide (x∈l)):=z0jl _ _ _ (by
 unfold z09p
 refine z8t l (fun a=>x == a) (fun i=>((i:Int),())) (KT:=((true,()):Bool×Unit)=(decide (x∈l),())) (KF:=((false,()):Bool×Unit)=(decide (x∈l),())) ?_ (fun X h=>z0h fun _=>bcN h) (fun h=>?_) (fun h=>?_)
 . intro i hi X h1 h2
   refine z0h fun _=>bcI hi (inI hi ?_)
   simp only
   rw[z2k hi,z02 (by omega)]
   exact z3e (fun h=>h1 (by simp[h])) (fun h=>h2 (by simpa using fun e=>h e.symm))
 . rw[zv8]at h;rw[h]
 . rw[zv8]at h;rw[h])
theorem z052 {l:List Int} {y:Int}:y∈z4t l↔y∈l:=by unfold z4t;simp
theorem z056 (l:List Int):(z4t l).Pairwise (·<=·):=by
 unfold z4t
 have:=List.pairwise_mergeSort (le:=fun a b:Int=>decide (a<=b)) (fun a b c h1 h2=>by simp at *;omega) (fun a b=>by simp;omega) l
 exact this.imp fun h=>by simpa using h
theorem z03w (l:List Int):zfy (z4t l)=zhx l:=by
 have hs:=z056 l
 have hget:∀ i j (hi:i<(z4t l).length) (hj:j<(z4t l).length),i<=j->(z4t l)[i]<=(z4t l)[j]:=by
  intro i j hi hj h
  rcases Nat.lt_or_ge i j with h|h
  . exact List.pairwise_iff_getElem.mp hs i j hi hj h
  . have:i=j:=by omega
    subst this;omega
 have ex:zfy (z4t l)=((List.range (z4t l).length).filter (Lib.keeps (z4t l).toArray)).map ((z4t l).toArray[·]!):=rfl
 refine z0f3 ?_ ?_
 . rw[ex]
   unfold srt
   rw[List.pairwise_map,List.pairwise_filter]
   refine List.Pairwise.imp_of_mem (R:=(· < ·)) ?_ List.pairwise_lt_range
   intro i j hi hj hij _ kj
   have hi:=List.mem_range.mp hi;have hj:=List.mem_range.mp hj
   have e1:(z4t l).toArray[i]! = (z4t l)[i]:=by simp[hi]
   have e2:(z4t l).toArray[j]! = (z4t l)[j]:=by simp[hj]
   have e3:(z4t l).toArray[j - 1]! = (z4t l)[j - 1]'(by omega):=by rw[getElem!_pos (z4t l).toArray (j - 1) (by simp;omega)];rfl
   rw[e1,e2]
   unfold Lib.keeps at kj
   rw[e2,e3]at kj
   have h1:=hget i (j - 1) hi (by omega) (by omega)
   have h2:=hget (j - 1) j (by omega) hj (by omega)
   rcases of_decide_eq_true kj with h|h
   . omega
   . omega
 . intro y
   rw[ex,List.mem_map]
   constructor
   . rintro⟨j,hj,rfl⟩
     have hj:=List.mem_range.mp (List.mem_filter.mp hj).1
     have e:(z4t l).toArray[j]! = (z4t l)[j]:=by simp[hj]
     rw[e,<-z052];exact List.getElem_mem hj
   . intro hy
     rw[<-z052]at hy
     have hf:z03 (fun t=>t == y) (z4t l)<(z4t l).length:=firstAt_any.mpr (List.any_eq_true.mpr ⟨y,hy,by simp⟩)
     have h2:=z8u hf
     have h3:(z4t l)[z03 (fun t=>t == y) (z4t l)]=y:=by simpa using h2
     refine⟨z03 (fun t=>t == y) (z4t l),List.mem_filter.mpr ⟨List.mem_range.mpr hf,?_⟩,by simp[hf,h3]⟩
     unfold Lib.keeps
     rw[decide_eq_true_iff]
     by_cases h0:z03 (fun t=>t == y) (z4t l)=0
     . exact .inl h0
     . right
       have hlt:z03 (fun t=>t == y) (z4t l) - 1<(z4t l).length:=by omega
       have h4:=z6b (p:=fun t=>t == y) (l:=z4t l) hlt (by omega)
       have e1:(z4t l).toArray[z03 (fun t=>t == y) (z4t l)]! = y:=by simp[hf,h3]
       have e2:(z4t l).toArray[z03 (fun t=>t == y) (z4t l) - 1]! = (z4t l)[z03 (fun t=>t == y) (z4t l) - 1]:=by simp[hlt]
       rw[e1,e2]
       intro e
       rw[<-e]at h4;simp at h4
def inR (x a b:Int):Bool:=decide (a<=x)&&decide (x<=b)
theorem z4n {α:Type} {p:α->Bool} {l:List α}:(l.any fun t=>!p t) = !(l.all p):=by
 induction l with
 |nil=>rfl
 |cons a l ih=>simp only[List.any_cons,List.all_cons,ih];cases p a<;>simp
theorem nt {b:Bool} (h:(!b)=true):b=false:=by simpa using h
theorem nf {b:Bool} (h:(!b)=false):b=true:=by simpa using h
theorem zqh {α β:Type} (f:α->List β) {l:List α} {i:Nat} (h:i<l.length):(l.flatMap f).length=((l.take i).flatMap f).length+((f l[i]).length+((l.drop (i+1)).flatMap f).length):=by
 have e:l=l.take i++l[i]::l.drop (i+1):=by rw[<-z35 h,List.take_append_drop]
 have:=congrArg (fun m=>(m.flatMap f).length) e
 simp only[List.flatMap_append,List.flatMap_cons,List.length_append]at this
 exact this
theorem inR_iff {x a b:Int}:inR x a b=true↔a<=x/\x<=b:=by simp[inR]
theorem z0k6:∀ {a b:List UInt8},(Op.bytesLess b a||b == a) = !(Op.bytesLess a b)
 |[],[]=>by decide
 |[],y::b=>by simp[Op.bytesLess]
 |x::a,[]=>by simp[Op.bytesLess]
 | x::a,y::b=>by
   have ih:=z0k6 (a:=a) (b:=b)
   simp only[Op.bytesLess]
   by_cases h:y<x
   . have h2:¬ x<y:=UInt8.lt_asymm h
     have h3:¬ x=y:=by rintro rfl;exact UInt8.lt_irrefl _ h
     simp[h,h2,h3]
   . by_cases h2:x<y
     . have h3:¬ y=x:=by rintro rfl;exact h h2
       simp[h,h2,h3]
     . have h3:x=y:=UInt8.le_antisymm (UInt8.not_lt.mp h) (UInt8.not_lt.mp h2)
       subst h3
       simp only[h,decide_false,beq_self_eq_true,Bool.true_and,Bool.false_or]
       rw[<-ih]
       by_cases h4:b=a<;>simp[h4]
def zx5 (r:z0p):Bool:=(r.1.length == 1)&&decide (97<=(r.1.getD 0 0).toNat)&&decide ((r.1.getD 0 0).toNat<=122)&&inR r.2.1 1 3
def zii (l:List z0p) (i:Nat):z0p:=l.getD i zel
def zdn (l:List z0p):Bool:=((List.range l.length).all fun i=>zx5 (zii l i)&&(i == 0||Op.bytesLess (zii l (i - 1)).1 (zii l i).1))&&decide (l.length<=6)
theorem zl6 {l:List z0p} {i:Nat} (h:i<l.length):zii l i=l[i]:=z0y h
theorem z0en {l:List z0p} (h:zdn l=true) {r:z0p} (hr:r∈l):zx5 r=true:=by
 unfold zdn at h
 rw[Bool.and_eq_true]at h
 obtain⟨i,hi,rfl⟩:=List.mem_iff_getElem.mp hr
 have:=List.all_eq_true.mp h.1 i (List.mem_range.mpr hi)
 rw[Bool.and_eq_true,zl6 hi]at this
 exact this.1
theorem zlg {l:List z0p} (h:zdn l=true):l.length<=6:=by
 unfold zdn at h;simp at h;exact h.2
theorem z0ca {r:z0p} (h:zx5 r=true):1<=r.2.1/\r.2.1<=3:=by
 unfold zx5 at h;simp[inR]at h;exact h.2
def z05o (l:List z0p) (i:Int):Int:=(l.getD (Int.toNat i) zel).2.1
def zai (l:List z0p) (i:Int):Bool:=(l.getD (Int.toNat i) zel).2.2.1
def vRow (ok:Int->Bool) (l:List z0p) (a:z00):Bool:=zdn l&&inR a.1 0 ((l.length:Int) - 1)&&((a.2.1.length:Int) == z05o l a.1)&&a.2.1.all ok
theorem z26 {ok:Int->Bool} {l:List z0p} {a:z00} (h:vRow ok l a=true):zdn l=true/\0<=a.1/\a.1<l.length/\(a.2.1.length:Int)=z05o l a.1/\a.2.1.length<=3/\∀ v∈a.2.1,ok v=true:=by
 unfold vRow at h
 simp only[Bool.and_eq_true,beq_iff_eq,List.all_eq_true]at h
 obtain⟨⟨⟨h1,h2⟩,h3⟩,h4⟩:=h
 have h2:=inR_iff.mp h2
 have hlt:a.1.toNat<l.length:=by omega
 have:=z0ca (z0en h1 (List.getElem_mem hlt))
 have e:z05o l a.1=l[a.1.toNat].2.1:=by unfold z05o;rw[z0y hlt]
 exact⟨h1,h2.1,by omega,h3,by omega,h4⟩
def z0b8 (t:Int):Bool:=inR t (-10) 4
def z80 (l:List z0p) (a:z00):Bool:=vRow z0b8 l a
def vars (l:List z00):List Int:=zhx ((l.flatMap (·.2.1)).filter fun t=>decide (0<=t))
def zm7 (l:List z0p) (d:z0a):Bool:=inR d.1.length 1 2&&d.1.all (z80 l) &&
 (if d.2.2.1 then decide (d.2.1=[])&&decide (d.2.2.2.1∈vars d.1)&&decide (d.2.2.2.2.1∈vars d.1)&&decide (d.2.2.2.1<d.2.2.2.2.1)
  else d.2.1.all (fun a=>z80 l a && !(zai l a.1))&&inR d.2.1.length 1 2&&(d.2.2.2.1 == 0)&&(d.2.2.2.2.1 == 0))
def zqr (l:List z0p) (ds:List z0a):Bool:=ds.all (zm7 l)&&zdn l&&decide (ds.length<=5)
def exV (d:z0a):List Int:=(vars d.2.1).filter fun v=>!decide (v∈vars d.1)
def frV (d:z0a):List Int:=(vars d.2.1).filter fun v=>decide (v∈vars d.1)
theorem zpa {l:List z0p} {ats:List z00} (h:ats.all (z80 l)=true):(ats.flatMap (·.2.1)).length<=3 * ats.length:=by
 induction ats with
 |nil=>simp
 | cons a ats ih=>
   simp only[List.all_cons,Bool.and_eq_true]at h
   have h1:=(z26 h.1).2.2.2.2.1
   have:=ih h.2
   simp only[List.flatMap_cons,List.length_append,List.length_cons]
   omega
theorem zlw (l:List z00):(vars l).length<=(l.flatMap (·.2.1)).length:=Nat.le_trans (z0aa _) (List.length_filter_le _ _)
theorem zgw {x a b:Int}:zdp x a b (inR x a b):=z0l3 _ _ _ _ (by
 unfold z0f9 inR
 refine z0l (fun h=>?_) (fun h=>?_)
 . rw[decide_eq_true (show a<=x from h),Bool.true_and]
 . rw[decide_eq_false (show ¬ a<=x from h),Bool.false_and])
theorem z9o {x a b:Int}:z7d x a b (inR x a b):=z0eh _ _ _ _ (by
 unfold z045 inR
 refine z0l (fun h=>?_) (fun h=>?_)
 . rw[decide_eq_true h,Bool.true_and]
 . rw[decide_eq_false h,Bool.false_and])
theorem zoz {r:z0p}:zbb r (zx5 r):=zoy _ _ (by
 unfold zg0
 have no:∀ {b:Bool},zx5 r=b->((b,()):Bool×Unit)=(zx5 r,()):=fun h=>by rw[h]
 refine z0h fun _=>z3e (fun h=>?_) (fun h=>no ?_)
 . have h1:r.1.length=1:=by omega
   refine⟨⟨by omega,by omega⟩,?_⟩
   refine z0l (fun h2=>⟨⟨by omega,by omega⟩,z0l (fun h3=>⟨_,zgw,no ?_⟩) (fun h3=>no ?_)⟩) (fun h2=>no ?_)
   . unfold zx5
     have a1:decide (97<=(r.1.getD 0 0).toNat)=true:=decide_eq_true (by have h2:(97:Int)<=((r.1.getD 0 0).toNat:Int):=h2;omega)
     have a2:decide ((r.1.getD 0 0).toNat<=122)=true:=decide_eq_true (by have h3:((r.1.getD 0 0).toNat:Int)<=122:=h3;omega)
     rw[a1,a2];simp[h1]
   . unfold zx5
     have a2:decide ((r.1.getD 0 0).toNat<=122)=false:=decide_eq_false (by have h3:¬ ((r.1.getD 0 0).toNat:Int)<=122:=h3;omega)
     rw[a2];simp
   . unfold zx5
     have a1:decide (97<=(r.1.getD 0 0).toNat)=false:=decide_eq_false (by have h2:¬ (97:Int)<=((r.1.getD 0 0).toNat:Int):=h2;omega)
     rw[a1];simp
 . unfold zx5
   have:(r.1.length == 1)=false:=by simp;omega
   rw[this];simp)
theorem z0ab {l:List z0p} {i:Nat} (h:i<l.length) (hp:(zx5 (zii l i)&&(i == 0||Op.bytesLess (zii l (i - 1)).1 (zii l i).1))=false):zdn l=false:=by
 unfold zdn
 rw[Bool.and_eq_false_iff];left
 rw[Bool.eq_false_iff];intro hall
 have:=List.all_eq_true.mp hall i (List.mem_range.mpr h)
 rw[hp]at this;cases this
theorem z05h {l:List z0p} (hp:∀ i,i<l.length->(!(zx5 (zii l i)&&(i == 0||Op.bytesLess (zii l (i - 1)).1 (zii l i).1)))=false):zdn l=decide (l.length<=6):=by
 unfold zdn
 have:((List.range l.length).all fun i=>zx5 (zii l i)&&(i == 0||Op.bytesLess (zii l (i - 1)).1 (zii l i).1))=true:=
  List.all_eq_true.mpr fun i hi=>by have:=hp i (List.mem_range.mp hi);rwa [Bool.not_eq_false']at this
 rw[this,Bool.true_and]
theorem z62 {l:List z0p}:z37 l (zdn l):=zml _ _ (by
 unfold zdw
 refine zcc l.length (fun i=>!(zx5 (zii l i)&&(i == 0||Op.bytesLess (zii l (i - 1)).1 (zii l i).1))) (fun i=>((i:Int),())) (KT:=((false,()):Bool×Unit)=(zdn l,())) (KF:=((decide ((List.length l:Int)<=6),()):Bool×Unit)=(zdn l,())) ?_ (fun X h=>z0h fun _=>bcN (z0h fun _=>h)) ?_ ?_
 . intro i hi X hb h1 h2
   refine z0h fun hl=>bcI hi (inI hi ⟨_,zoz,?_⟩)
   simp only
   rw[z2k hi,z02 (by omega)]
   rw[zl6 hi]at h1 h2
   refine z0t (fun h=>h1 (by simp[h])) (fun h=>z0l (fun h0=>?_) (fun h0=>h2 (by obtain rfl:i=0:=(by omega);simp[h])))
   have hi':i - 1<l.length:=by omega
   have hw:w64 ((i:Int) - 1)=((i - 1:Nat):Int):=by rw[z1w (by omega) (by omega)];omega
   rw[hw]
   refine inI hi' (inI hi ?_)
   rw[z2k hi']
   rw[zl6 hi']at h1 h2
   have hz:(i == 0)=false:=by simp;omega
   rw[hz,Bool.false_or,h,Bool.true_and]at h1 h2
   exact z1u (fun h=>h1 h) (fun h=>h2 h)
 . rintro⟨i,hi,hp⟩
   rw[z0ab hi (by rwa [Bool.not_eq_true']at hp)]
 . intro hp
   rw[z05h hp]
   congr 1
   exact decide_eq_decide.mpr (by omega))
theorem zpn {r:z0p}:zal r (zx5 r):=zpf _ _ (by
 unfold zgb
 have no:∀ {b:Bool},zx5 r=b->((b,()):Bool×Unit)=(zx5 r,()):=fun h=>by rw[h]
 refine z0h fun _=>z3e (fun h=>?_) (fun h=>no ?_)
 . have h1:r.1.length=1:=by omega
   obtain⟨c,hc⟩:∃ c,r.1=[c]:=List.length_eq_one_iff.mp h1
   rw[hc]
   have e1:(!(Op.bytesLess [c] [97]))=decide (97<=c.toNat):=by
    simp only[Op.bytesLess,Bool.and_false,Bool.or_false]
    by_cases h:c<97
    . have:c.toNat<97:=h
      simp[h];omega
    . have:¬ c.toNat<97:=h
      simp[h];omega
   have e2:(Op.bytesLess [c] [122]||[c] == [122])=decide (c.toNat<=122):=by
    simp only[Op.bytesLess,Bool.and_false,Bool.or_false]
    by_cases h:c<122
    . have:c.toNat<122:=h
      simp[h];omega
    . have:¬ c.toNat<122:=h
      by_cases h2:c=122
      . subst h2;simp
      . have h3:c.toNat≠122:=fun e=>h2 (UInt8.toNat_inj.mp e)
        have d2:([c] == [(122:UInt8)])=false:=by simp[h2]
        rw[decide_eq_false h,d2,decide_eq_false (by omega)];rfl
   rw[e1,e2]
   refine z0l (fun h2=>z0l (fun h3=>⟨_,z9o,no ?_⟩) (fun h3=>no ?_)) (fun h2=>no ?_)
   . unfold zx5;rw[hc];simp[h2,h3]
   . unfold zx5;rw[hc]
     show((1 == 1)&&decide (97<=c.toNat)&&decide (c.toNat<=122)&&inR r.2.1 1 3)=false
     rw[decide_eq_false h3];simp
   . unfold zx5;rw[hc]
     show((1 == 1)&&decide (97<=c.toNat)&&decide (c.toNat<=122)&&inR r.2.1 1 3)=false
     rw[decide_eq_false h2];simp
 . unfold zx5
   have:(r.1.length == 1)=false:=by simp;omega
   rw[this];simp)
theorem z63 {l:List z0p}:z3a l (zdn l):=zmm _ _ (by
 unfold ze2
 refine z0h fun hl=>zcc l.length (fun i=>!(zx5 (zii l i)&&(i == 0||Op.bytesLess (zii l (i - 1)).1 (zii l i).1))) (fun i=>((i:Int),())) (KT:=((false,()):Bool×Unit)=(zdn l,())) (KF:=((decide ((List.length l:Int)<=6),()):Bool×Unit)=(zdn l,())) ?_ (fun X h=>bcN (z0h fun _=>h)) ?_ ?_
 . intro i hi X hb h1 h2
   refine bcI hi (inI hi ⟨_,zpn,?_⟩)
   simp only
   rw[z2k hi,z02 (by omega)]
   rw[zl6 hi]at h1 h2
   refine z0t (fun h=>h1 (by simp[h])) (fun h=>z0l (fun h0=>?_) (fun h0=>h2 (by obtain rfl:i=0:=(by omega);simp[h])))
   have hi':i - 1<l.length:=by omega
   have hw:w64 ((i:Int) - 1)=((i - 1:Nat):Int):=by rw[z1w (by omega) (by omega)];omega
   rw[hw]
   refine inI hi' ?_
   rw[z2k hi']
   rw[zl6 hi']at h1 h2
   have hz:(i == 0)=false:=by simp;omega
   rw[hz,Bool.false_or,h,Bool.true_and]at h1 h2
   rw[z0k6]
   exact z1u (fun h=>h1 h) (fun h=>h2 h)
 . rintro⟨i,hi,hp⟩
   rw[z0ab hi (by rwa [Bool.not_eq_true']at hp)]
 . intro hp
   rw[z05h hp]
   congr 1
   exact decide_eq_decide.mpr (by omega))
theorem row_start {l:List z0p} {a:z00} (h:inR a.1 0 (w64 ((l.length:Int) - 1))=true) (hl:(l.length:Int)<=9223372036854775807):0<=a.1/\a.1<(l.length:Int):=by
 have:=inR_iff.mp h
 rw[z1w (by omega) (by omega)]at this
 omega
theorem row_range {l:List z0p} {a:z00} (hl:(l.length:Int)<=9223372036854775807):inR a.1 0 (w64 ((l.length:Int) - 1))=inR a.1 0 ((l.length:Int) - 1):=by
 rw[z1w (by omega) (by omega)]
theorem row_no1 {ok:Int->Bool} {l:List z0p} {a:z00} (h:zdn l=false):((false,()):Bool×Unit)=(vRow ok l a,()):=by unfold vRow;rw[h];simp
theorem row_no2 {ok:Int->Bool} {l:List z0p} {a:z00} (hl:(l.length:Int)<=9223372036854775807) (h:inR a.1 0 (w64 ((l.length:Int) - 1))=false):((false,()):Bool×Unit)=(vRow ok l a,()):=by
 rw[row_range hl]at h;unfold vRow;rw[h];simp
theorem row_no3 {ok:Int->Bool} {l:List z0p} {a:z00} (h:(a.2.1.length:Int)≠(l.getD (Int.toNat a.1) zel).2.1):((false,()):Bool×Unit)=(vRow ok l a,()):=by
 have:((a.2.1.length:Int) == z05o l a.1)=false:=by simpa [z05o]using h
 unfold vRow;rw[this];simp
theorem row_yes {ok:Int->Bool} {l:List z0p} {a:z00} {b:Bool} (hl:(l.length:Int)<=9223372036854775807) (h1:zdn l=true) (h2:inR a.1 0 (w64 ((l.length:Int) - 1))=true) (h3:(a.2.1.length:Int)=(l.getD (Int.toNat a.1) zel).2.1) (hb:b=a.2.1.all ok):((b,()):Bool×Unit)=(vRow ok l a,()):=by
 rw[row_range hl]at h2
 have:((a.2.1.length:Int) == z05o l a.1)=true:=by simpa [z05o]using h3
 unfold vRow;rw[h1,h2,this,hb];simp
theorem zgu {l:List z0p} {a:z00}:z9r l a (z80 l a):=zy8 _ _ _ (by
 unfold zn5 z80
 refine⟨_,z62,z0t (fun h=>row_no1 h) (fun h1=>z0h fun hl=>⟨_,zgw,z0t (fun h=>row_no2 hl h) (fun h2=>z0h fun hl2=>⟨row_start h2 hl,z6u (fun h=>row_no3 h) (fun h3=>?_)⟩)⟩)⟩
 refine z8t a.2.1 (fun t=>!z0b8 t) (fun i=>((i:Int),())) (KT:=((false,()):Bool×Unit)=(vRow z0b8 l a,())) (KF:=((true,()):Bool×Unit)=(vRow z0b8 l a,())) ?_ (fun X h=>z0h fun _=>bcN h) ?_ ?_
 . intro i hi X q1 q2
   refine z0h fun _=>bcI hi (inI hi ⟨_,zgw,?_⟩)
   simp only
   rw[z2k hi,z02 (by omega)]
   exact z1u (fun h=>q1 h) (fun h=>q2 h)
 . intro h;exact row_yes hl h1 h2 h3 (by rw[z4n]at h;exact(nt h).symm)
 . intro h;exact row_yes hl h1 h2 h3 (by rw[z4n]at h;exact(nf h).symm))
theorem zt0 {t:Int}:z56 t (!z0b8 t):=zt6 _ _ (by unfold zji;exact⟨_,z9o,rfl⟩)
theorem zyg {l:List z0p} {a:z00}:zh5 l a (z80 l a):=zxu _ _ _ (by
 unfold zn8 z80
 refine⟨_,z63,z0t (fun h=>row_no1 h) (fun h1=>z0h fun hl=>⟨_,z9o,z0t (fun h=>row_no2 hl h) (fun h2=>z0h fun hl2=>⟨row_start h2 hl,z6u (fun h=>row_no3 h) (fun h3=>?_)⟩)⟩)⟩
 exact⟨_,z71 (fun t=>!z0b8 t) (fun _ _=>zt0),row_yes hl h1 h2 h3 (by rw[z4n];simp)⟩)
theorem zcz {l:List z00} (hl:(l.flatMap (·.2.1)).length<=1073741824):z8i l (vars l):=z03q _ _ (by
 unfold zs5
 refine z1x l.length (fun i=>((i:Int),(vars (l.take i),()))) (by simp[vars,zhx]) ?_ ?_
 . intro i hi X hX
   refine z0h fun hl1=>bcI hi ?_
   simp only
   rw[z2k hi]
   have hsub:((l.take i).flatMap (·.2.1)).length+l[i].2.1.length<=1073741824:=by
    have:=zqh (·.2.1) hi
    omega
   have hset:∀ j,j<=l[i].2.1.length->(zhx (((l.take i).flatMap (·.2.1)++l[i].2.1.take j).filter fun t=>decide (0<=t))).length<=1073741824:=by
    intro j hj
    refine Nat.le_trans (z0aa _) (Nat.le_trans (List.length_filter_le _ _) ?_)
    rw[List.length_append,List.length_take];omega
   refine z1x l[i].2.1.length (fun j=>(zhx (((l.take i).flatMap (·.2.1)++l[i].2.1.take j).filter fun t=>decide (0<=t)),((j:Int),()))) (by simp[vars]) ?_ ?_
   . intro j hj Y hY
     refine inI hi (z0h fun _=>bcI hj (inI hi (inI hj ?_)))
     simp only
     rw[z2k hj,z02 (by omega)]
     have e:((l.take i).flatMap (·.2.1)++l[i].2.1.take (j+1)).filter (fun t=>decide (0<=t))=((l.take i).flatMap (·.2.1)++l[i].2.1.take j).filter (fun t=>decide (0<=t))++(if 0<=l[i].2.1[j] then[l[i].2.1[j]] else[]):=by
      rw[z07 hj,<-List.append_assoc,List.filter_append]
      by_cases h:0<=l[i].2.1[j]<;>simp[h]
     rw[e]at hY
     refine z0l (fun h=>inI hi (inI hj ⟨_,z00r (hset j (by omega)),?_⟩)) (fun h=>?_)
     . have h:0<=l[i].2.1[j]:=h
       rw[if_pos h]at hY
       rw[z04v];exact hY
     . have h:¬ 0<=l[i].2.1[j]:=h
       rw[if_neg h,List.append_nil]at hY;exact hY
   . intro Y
     refine inI hi (z0h fun _=>bcN ?_)
     simp only
     rw[z02 (by omega),List.take_length]
     have:zhx (((l.take i).flatMap (·.2.1)++l[i].2.1).filter fun t=>decide (0<=t))=vars (l.take (i+1)):=by
      unfold vars;rw[z07 hi,List.flatMap_append];simp
     rw[this];exact hX
 . intro X
   refine z0h fun _=>bcN ?_
   simp only[List.take_length])
theorem zge {l:List z00} (hl:(l.flatMap (·.2.1)).length<=1073741824):zae l (vars l):=z043 _ _ (by
 unfold zrz
 refine z0h fun hl1=>?_
 refine z1x l.length (fun i=>((i:Int),(((l.take i).flatMap (·.2.1)).filter (fun t=>decide (0<=t)),()))) (by simp) ?_ ?_
 . intro i hi X hX
   refine bcI hi (inI hi ?_)
   simp only
   rw[z2k hi,z02 (by omega)]
   have hsub:((l.take i).flatMap (·.2.1)).length+l[i].2.1.length<=1073741824:=by
    have:=zqh (·.2.1) hi
    omega
   refine z0h fun _=>z1x l[i].2.1.length (fun j=>((j:Int),(((l.take i).flatMap (·.2.1)++l[i].2.1.take j).filter (fun t=>decide (0<=t)),()))) (by simp) ?_ ?_
   . intro j hj Y hY
     refine bcI hj (inI hj ?_)
     simp only
     rw[z2k hj,z02 (by omega)]
     have e:((l.take i).flatMap (·.2.1)++l[i].2.1.take (j+1)).filter (fun t=>decide (0<=t))=((l.take i).flatMap (·.2.1)++l[i].2.1.take j).filter (fun t=>decide (0<=t))++(if 0<=l[i].2.1[j] then[l[i].2.1[j]] else[]):=by
      rw[z07 hj,<-List.append_assoc,List.filter_append]
      by_cases h:0<=l[i].2.1[j]<;>simp[h]
     rw[e]at hY
     have hb:=List.length_filter_le (fun t=>decide (0<=t)) ((l.take i).flatMap (·.2.1)++l[i].2.1.take j)
     rw[List.length_append,List.length_take]at hb
     refine z0l (fun h=>⟨by simp only[z11,List.length_cons,List.length_nil];omega,?_⟩) (fun h=>?_)
     . have h:0<=l[i].2.1[j]:=h
       rw[if_pos h]at hY;exact hY
     . have h:¬ 0<=l[i].2.1[j]:=h
       rw[if_neg h,List.append_nil]at hY;exact hY
   . intro Y
     refine bcN ?_
     simp only
     rw[List.take_length]
     have:((l.take i).flatMap (·.2.1)++l[i].2.1).filter (fun t=>decide (0<=t))=((l.take (i+1)).flatMap (·.2.1)).filter (fun t=>decide (0<=t)):=by
      rw[z07 hi,List.flatMap_append];simp
     rw[this];exact hX
 . intro X
   refine bcN ⟨_,zcj ?_,_,zag,?_⟩
   . simp only[List.take_length]
     have:=List.length_filter_le (fun t=>decide (0<=t)) (l.flatMap (·.2.1));omega
   . simp only[List.take_length]
     rw[z03w];rfl)
theorem z0hq {l:List z0p} {d:z0a} (h:inR d.1.length 1 2=false):((false,()):Bool×Unit)=(zm7 l d,()):=by unfold zm7;rw[h];simp
theorem z0iq {l:List z0p} {d:z0a} (h:d.1.all (z80 l)=false):((false,()):Bool×Unit)=(zm7 l d,()):=by unfold zm7;rw[h];simp
theorem zmn {l:List z0p} {d:z0a}:z9h l d (zm7 l d):=zmh _ _ _ (by
 unfold ze1
 refine z0h fun hl=>⟨_,zgw,z0t (fun h=>z0hq h) (fun h1=>?_)⟩
 refine z8t d.1 (fun a=>!z80 l a) (fun i=>((i:Int),())) (KT:=((false,()):Bool×Unit)=(zm7 l d,())) (KF:=d.1.all (z80 l)=true) ?_ ?_ ?_ ?_
 . intro i hi X q1 q2
   refine z0h fun _=>bcI hi (inI hi ⟨_,zgu,?_⟩)
   simp only
   rw[z2k hi,z02 (by omega)]
   exact z1u (fun h=>q1 h) (fun h=>q2 h)
 . intro X hall
   have hlen:=inR_iff.mp h1
   have hal:=zpa hall
   refine z0h fun _=>bcN (z1u (fun he=>?_) (fun he=>?_))
   . have ev:zm7 l d=(decide (d.2.1=[])&&decide (d.2.2.2.1∈vars d.1)&&decide (d.2.2.2.2.1∈vars d.1)&&decide (d.2.2.2.1<d.2.2.2.2.1)):=by
      unfold zm7;rw[h1,hall,he];simp
     rw[ev]
     refine⟨_,zcz (by omega),z0h fun _=>z3e (fun h=>⟨_,ztl,z0l (fun h2=>⟨_,ztl,z0l (fun h3=>?_) (fun h3=>?_)⟩) (fun h2=>?_)⟩) (fun h=>?_)⟩
     . have:d.2.1=[]:=List.length_eq_zero_iff.mp (by omega)
       simp[this,h2,h3]
     . simp[h3]
     . simp[h2]
     . have:d.2.1≠[]:=by intro e;rw[e]at h;simp at h
       simp[this]
   . have ev:zm7 l d=(d.2.1.all (fun a=>z80 l a && !(zai l a.1))&&inR d.2.1.length 1 2&&(d.2.2.2.1 == 0)&&(d.2.2.2.2.1 == 0)):=by
      unfold zm7;rw[h1,hall,he];simp
     rw[ev]
     refine z8t d.2.1 (fun a=>!(z80 l a && !(zai l a.1))) (fun i=>((i:Int),())) (KT:=d.2.1.all (fun a=>z80 l a && !(zai l a.1))=false) (KF:=d.2.1.all (fun a=>z80 l a && !(zai l a.1))=true) ?_ ?_ ?_ ?_
     . intro i hi X q1 q2
       refine z0h fun _=>bcI hi (inI hi ⟨_,zgu,?_⟩)
       simp only
       rw[z2k hi,z02 (by omega)]
       have no:d.2.1.all (fun a=>z80 l a && !(zai l a.1))=false->((false,()):Bool×Unit)=(d.2.1.all (fun a=>z80 l a && !(zai l a.1))&&inR d.2.1.length 1 2&&(d.2.2.2.1 == 0)&&(d.2.2.2.2.1 == 0),()):=fun h=>by rw[h];simp
       refine z0t (fun h=>no (q1 (by simp[h]))) (fun h=>inI hi ⟨?_,z1u (fun h'=>no (q1 ?_)) (fun h'=>q2 ?_)⟩)
       . have:=z26 h;exact⟨this.2.1,this.2.2.1⟩
       . have:zai l d.2.1[i].1=true:=h'
         simp[this]
       . have:zai l d.2.1[i].1=false:=h'
         simp[this,h]
     . intro X hh
       refine z0h fun _=>bcN (z0h fun _=>⟨_,zgw,?_⟩)
       rw[hh]
       refine z1u (fun h2=>z3e (fun h3=>?_) (fun h3=>?_)) (fun h2=>?_)
       . rw[h2,h3];simp
       . have:(d.2.2.2.1 == 0)=false:=by simpa using h3
         rw[this];simp
       . rw[h2];simp
     . intro h;rw[z4n]at h;exact nt h
     . intro h;rw[z4n]at h;exact nf h
 . intro h;rw[z4n]at h;exact z0iq (nt h)
 . intro h;rw[z4n]at h;exact nf h)
theorem z01h {l:List z0p} {a:z00}:z95 a l (!z80 l a):=z00v _ _ _ (by unfold zpd;exact⟨_,zyg,rfl⟩)
theorem zo3 {l:List z0p} {ats:List z00} {n:Int}:zf2 l ats n (inR ats.length 1 n&&ats.all (z80 l)):=z06b _ _ _ _ (by
 unfold zvb
 refine z0h fun _=>⟨_,z9o,z1u (fun h=>⟨_,z7y (fun a=>!z80 l a) (fun _ _=>z01h),?_⟩) (fun h=>?_)⟩
 . rw[h,Bool.true_and,z4n];simp
 . rw[h,Bool.false_and])
theorem zjp {l:List z0p} {a:z00} (h0:0<=a.1) (h1:a.1<l.length):z2l a l (zai l a.1):=zjm _ _ _ (by unfold zbn;exact⟨⟨h0,h1⟩,rfl⟩)
theorem zdy {l:List z0p} {d:z0a}:z61 l d (zm7 l d):=zmr _ _ _ (by
 unfold zdz
 refine⟨_,zo3,z0t (fun h=>?_) (fun h=>?_)⟩
 . unfold zm7;rw[h];simp
 . have h':=Bool.and_eq_true_iff.mp h
   have hlen:=inR_iff.mp h'.1
   have hal:=zpa h'.2
   refine z1u (fun he=>?_) (fun he=>?_)
   . have ev:zm7 l d=(decide (d.2.1=[])&&decide (d.2.2.2.1∈vars d.1)&&decide (d.2.2.2.2.1∈vars d.1)&&decide (d.2.2.2.1<d.2.2.2.2.1)):=by
      unfold zm7;rw[h'.1,h'.2,he];simp
     rw[ev]
     refine⟨_,zge (by omega),z0h fun _=>z3e (fun h0=>z0l (fun h1=>⟨_,z3x,z0l (fun h2=>⟨_,z3x,?_⟩) (fun h2=>?_)⟩) (fun h1=>?_)) (fun h0=>?_)⟩
     . have:d.2.1=[]:=List.length_eq_zero_iff.mp (by omega)
       simp[this,h1,h2]
     . simp[h2]
     . simp[h1]
     . have:d.2.1≠[]:=by intro e;rw[e]at h0;simp at h0
       simp[this]
   . have ev:zm7 l d=(d.2.1.all (fun a=>z80 l a && !(zai l a.1))&&inR d.2.1.length 1 2&&(d.2.2.2.1 == 0)&&(d.2.2.2.2.1 == 0)):=by
      unfold zm7;rw[h'.1,h'.2,he];simp
     rw[ev]
     have hand:d.2.1.all (fun a=>z80 l a && !(zai l a.1))=(d.2.1.all (z80 l)&&d.2.1.all fun a=>!(zai l a.1)):=by
      generalize d.2.1=m
      induction m with
      |nil=>rfl
      |cons a m ih=>simp only[List.all_cons,ih];cases z80 l a<;>cases zai l a.1<;>simp
     rw[hand]
     refine⟨_,zo3,z1u (fun h1=>z3e (fun h2=>z3e (fun h3=>?_) (fun h3=>?_)) (fun h2=>?_)) (fun h1=>?_)⟩
     . have h1:=Bool.and_eq_true_iff.mp h1
       refine⟨_,z4v (fun a=>zai l a.1) (fun a ha=>?_),?_⟩
       . have:=z26 (List.all_eq_true.mp h1.2 a ha)
         exact zjp this.2.1 this.2.2.1
       . rw[h1.1,h1.2,h2,h3,List.not_any_eq_all_not];simp
     . have:(d.2.2.2.2.1 == 0)=false:=by simpa using h3
       rw[this];simp
     . have:(d.2.2.2.1 == 0)=false:=by simpa using h2
       rw[this];simp
     . rcases Bool.and_eq_false_iff.mp h1 with h1|h1<;>rw[h1]<;>simp)
theorem zif {l:List z0p} {ds:List z0a}:z6y l ds (zqr l ds):=zi8 _ _ _ (by
 unfold zba
 refine z8t ds (fun d=>!zm7 l d) (fun i=>((i:Int),())) (KT:=ds.all (zm7 l)=false) (KF:=ds.all (zm7 l)=true) ?_ ?_ ?_ ?_
 . intro i hi X q1 q2
   refine z0h fun _=>bcI hi (inI hi ⟨_,zmn,?_⟩)
   simp only
   rw[z2k hi,z02 (by omega)]
   exact z1u (fun h=>by unfold zqr;rw[q1 h];simp) (fun h=>q2 h)
 . intro X h
   refine z0h fun _=>bcN ⟨_,z62,z1u (fun h1=>z0h fun _=>?_) (fun h1=>?_)⟩
   . unfold zqr;rw[h,h1]
     have:decide ((ds.length:Int)<=5)=decide (ds.length<=5):=decide_eq_decide.mpr (by omega)
     rw[this];simp
   . unfold zqr;rw[h1];simp
 . intro h;rw[z4n]at h;exact nt h
 . intro h;rw[z4n]at h;exact nf h)
theorem zgq {l:List z0p} {d:z0a}:z1n d l (!zm7 l d):=zh8 _ _ _ (by unfold z9u;exact⟨_,zdy,rfl⟩)
theorem zio {l:List z0p} {ds:List z0a}:z6v l ds (zqr l ds):=zi4 _ _ _ (by
 unfold zaj
 refine⟨_,z63,z1u (fun h1=>z0h fun _=>z0l (fun h2=>⟨_,z3u (fun d=>!zm7 l d) (fun _ _=>zgq),?_⟩) (fun h2=>?_)) (fun h1=>?_)⟩
 . have:decide (ds.length<=5)=true:=decide_eq_true (by omega)
   unfold zqr;rw[h1,this,z4n];simp
 . have:decide (ds.length<=5)=false:=decide_eq_false (by omega)
   unfold zqr;rw[this];simp
 . unfold zqr;rw[h1];simp)
theorem zay {d:z0a} (h1:(d.1.flatMap (·.2.1)).length<=1073741824) (h2:(d.2.1.flatMap (·.2.1)).length<=1073741824):z4k d (exV d):=zj3 _ _ (by
 unfold zbh
 have hv:=zlw d.2.1
 refine⟨_,zcz h1,_,zcz h2,?_⟩
 refine z1x (vars d.2.1).length (fun i=>((i:Int),(((vars d.2.1).take i).filter (fun v=>!decide (v∈vars d.1)),()))) (by simp) ?_ ?_
 . intro i hi X hX
   refine z0h fun _=>bcI hi (inI hi ⟨_,ztl,?_⟩)
   simp only
   rw[z2k hi,z02 (by omega)]
   have e:((vars d.2.1).take (i+1)).filter (fun v=>!decide (v∈vars d.1))=((vars d.2.1).take i).filter (fun v=>!decide (v∈vars d.1))++(if (vars d.2.1)[i]∈vars d.1 then[] else[(vars d.2.1)[i]]):=by
    rw[z07 hi,List.filter_append]
    by_cases h:(vars d.2.1)[i]∈vars d.1<;>simp[h]
   rw[e]at hX
   have hb:=List.length_filter_le (fun v=>!decide (v∈vars d.1)) ((vars d.2.1).take i)
   rw[List.length_take]at hb
   refine z1u (fun h=>inI hi ⟨by simp only[z11,List.length_cons,List.length_nil];omega,?_⟩) (fun h=>?_)
   . have h:¬ (vars d.2.1)[i]∈vars d.1:=by simpa using h
     rw[if_neg h]at hX;exact hX
   . have h:(vars d.2.1)[i]∈vars d.1:=by simpa using h
     rw[if_pos h,List.append_nil]at hX;exact hX
 . intro X
   refine z0h fun _=>bcN ?_
   simp only[List.take_length]
   rfl)
def hdV (d:z0a) (b:Bool):List Int:=(vars d.2.1).filter fun v=>decide (v∈vars d.1) == b
theorem zjj {d:z0a} {b:Bool} (h1:(d.1.flatMap (·.2.1)).length<=1073741824) (h2:(d.2.1.flatMap (·.2.1)).length<=1073741824):za5 d b (hdV d b):=zsp _ _ _ (by
 unfold zjl
 have hv:=zlw d.2.1
 refine⟨_,zge h1,_,zge h2,z0h fun _=>?_⟩
 refine z1x (vars d.2.1).length (fun i=>((i:Int),(((vars d.2.1).take i).filter (fun v=>decide (v∈vars d.1) == b),()))) (by simp) ?_ ?_
 . intro i hi X hX
   refine bcI hi (inI hi ⟨_,z3x,?_⟩)
   simp only
   rw[z2k hi,z02 (by omega)]
   have e:((vars d.2.1).take (i+1)).filter (fun v=>decide (v∈vars d.1) == b)=((vars d.2.1).take i).filter (fun v=>decide (v∈vars d.1) == b)++(if (decide ((vars d.2.1)[i]∈vars d.1) == b)=true then[(vars d.2.1)[i]] else[]):=by
    rw[z07 hi,List.filter_append]
    cases h:(decide ((vars d.2.1)[i]∈vars d.1) == b)<;>simp[h]
   rw[e]at hX
   have hb:=List.length_filter_le (fun v=>decide (v∈vars d.1) == b) ((vars d.2.1).take i)
   rw[List.length_take]at hb
   refine z1u (fun h=>⟨by simp only[z11,List.length_cons,List.length_nil];omega,?_⟩) (fun h=>?_)
   . rw[if_pos h]at hX;exact hX
   . rw[if_neg (by rw[h];simp),List.append_nil]at hX;exact hX
 . intro X
   refine bcN ?_
   simp only[List.take_length]
   rfl)
theorem z0gt (d:z0a):hdV d false=exV d:=by unfold hdV exV;congr 1;funext v;by_cases h:v∈vars d.1<;>simp[h]
theorem z0h8 (d:z0a):hdV d true=frV d:=by unfold hdV frV;congr 1;funext v;by_cases h:v∈vars d.1<;>simp[h]
theorem zb3 {d:z0a} (h1:(d.1.flatMap (·.2.1)).length<=1073741824) (h2:(d.2.1.flatMap (·.2.1)).length<=1073741824):z4m d (exV d):=ziq _ _ (by
 unfold zaz
 exact⟨_,zjj h1 h2,by rw[z0gt]⟩)
theorem z9l {l:List z0p} {d:z0a} (h:zm7 l d=true):1<=d.1.length/\d.1.length<=2/\(∀ a∈d.1,z80 l a=true)/\d.2.1.length<=2/\(∀ a∈d.2.1,z80 l a=true)/\(d.1.flatMap (·.2.1)).length<=6/\(d.2.1.flatMap (·.2.1)).length<=6:=by
 unfold zm7 at h
 rw[Bool.and_eq_true,Bool.and_eq_true]at h
 obtain⟨⟨h1,h2⟩,h3⟩:=h
 have h1:=inR_iff.mp h1
 have l1:=zpa h2
 cases he:d.2.2.1 with
 | true=>
   rw[if_pos he]at h3
   simp only[Bool.and_eq_true,decide_eq_true_eq]at h3
   have:=h3.1.1.1
   exact⟨by omega,by omega,List.all_eq_true.mp h2,by simp[this],by simp[this],by omega,by simp[this]⟩
 | false=>
   rw[if_neg (by simp[he])]at h3
   simp only[Bool.and_eq_true]at h3
   have hr:=inR_iff.mp h3.1.1.2
   have h4:d.2.1.all (z80 l)=true:=List.all_eq_true.mpr fun a ha=>by
    have:=List.all_eq_true.mp h3.1.1.1 a ha
    rw[Bool.and_eq_true]at this;exact this.1
   have l2:=zpa h4
   exact⟨by omega,by omega,List.all_eq_true.mp h2,by omega,List.all_eq_true.mp h4,by omega,by omega⟩
theorem z04a {l:List z0p} {ds:List z0a} (h:zqr l ds=true) {d:z0a} (hd:d∈ds):zm7 l d=true:=by
 unfold zqr at h
 rw[Bool.and_eq_true,Bool.and_eq_true]at h
 exact List.all_eq_true.mp h.1.1 d hd
theorem zpe {l:List z0p} {ds:List z0a} (h:zqr l ds=true):ds.length<=5:=by
 unfold zqr at h;simp at h;exact h.2
def z9n (v:Int):Bool:=inR v (-40) (-1)
def z5r (v:Int):Int:=if z9n v then -1 - v else 0
def zr9 (v:Int):Bool:=inR v (-40) 9
def z2z (l:List Int):List Int:=(l.filter z9n).map (fun v=>-1 - v)
def nulF (f:z00):List Int:=zhx (z2z f.2.1)
def zjr (x:z09):List Int:=zhx (x.2.1.flatMap fun f=>z2z f.2.1)
def zog (l:List z0p) (f:z00):Bool:=vRow zr9 l f
def zg1 (l:List z00) (i:Nat):z00:=l.getD i z0i
def z9s (x:z09) (i:Nat):Bool:=zog x.1 (zg1 x.2.1 i)&&(i == 0||decide (z9a (zg1 x.2.1 (i - 1)) (zg1 x.2.1 i)<0)) && !(zai x.1 (zg1 x.2.1 i).1&&(nulF (zg1 x.2.1 i)).length != 0)
def z3n (x:z09):Bool:=zdn x.1&&decide (x.2.1.length<=30)&&(List.range x.2.1.length).all (z9s x)
theorem isNul_iff {v:Int}:z9n v=true↔-40<=v/\v<=-1:=inR_iff
theorem mem_nulls {l:List Int} {k:Int}:k∈z2z l↔0<=k/\k<40/\(-1 - k)∈l:=by
 unfold z2z
 rw[List.mem_map]
 constructor
 . rintro⟨v,hv,rfl⟩
   obtain⟨h1,h2⟩:=List.mem_filter.mp hv
   have:=isNul_iff.mp h2
   exact ⟨by omega, by omega, by have e : -1 - (-1 - v)=v:=by omega
                                 rw[e];exact h1⟩
 . rintro⟨h1,h2,h3⟩
   exact⟨-1 - k,List.mem_filter.mpr ⟨h3,isNul_iff.mpr ⟨by omega,by omega⟩⟩,by omega⟩
theorem zgf (l m:List Int):z2z (l++m)=z2z l++z2z m:=by unfold z2z;rw[List.filter_append,List.map_append]
theorem zhr (l:List z00):z2z (l.flatMap (·.2.1))=l.flatMap fun f=>z2z f.2.1:=by
 induction l with
 |nil=>rfl
 |cons a l ih=>simp only[List.flatMap_cons];rw[zgf,ih]
theorem zo9 {l:List Int}:∀ k∈zhx (z2z l),0<=k/\k<0+(40:Nat):=fun k hk=>by
 have:=mem_nulls.mp (mem_sset.mp hk);omega
theorem zqb {l:List Int}:(zhx (z2z l)).length<=40:=z04o (zp9 _) zo9
theorem z08w (x:z09):(zjr x).length<=40:=by unfold zjr;rw[<-zhr];exact zqb
theorem z04n (l:List Int):(z2z l).length<=l.length:=by unfold z2z;rw[List.length_map];exact List.length_filter_le _ _
theorem z2v {l:List z00} {i:Nat} (h:i<l.length):zg1 l i=l[i]:=z0y h
theorem z3c {x:z09} (h:z3n x=true) {f:z00} (hf:f∈x.2.1):zog x.1 f=true:=by
 unfold z3n at h
 rw[Bool.and_eq_true]at h
 obtain⟨i,hi,rfl⟩:=List.mem_iff_getElem.mp hf
 have:=List.all_eq_true.mp h.2 i (List.mem_range.mpr hi)
 unfold z9s at this
 rw[Bool.and_eq_true,Bool.and_eq_true,z2v hi]at this
 exact this.1.1
theorem z3l {x:z09} (h:z3n x=true):x.2.1.length<=30:=by unfold z3n at h;simp at h;exact h.1.2
theorem zbr {x:z09} (h:z3n x=true):zdn x.1=true:=by unfold z3n at h;simp at h;exact h.1.1
theorem z08y {x:z09} {i:Nat} (hi:i<x.2.1.length) (h:z9s x i=false):z3n x=false:=by
 unfold z3n
 have:(List.range x.2.1.length).all (z9s x)=false:=by
  rw[Bool.eq_false_iff];intro hall
  have:=List.all_eq_true.mp hall i (List.mem_range.mpr hi);rw[h]at this;cases this
 rw[this];simp
theorem zvy {x:z09} (h1:∀ i,i<x.2.1.length->z9s x i=true):z3n x=(zdn x.1&&decide (x.2.1.length<=30)):=by
 unfold z3n
 rw[List.all_eq_true.mpr fun i hi=>h1 i (List.mem_range.mp hi)];simp
theorem zkm (v:Int):0<=z5r v:=by
 unfold z5r
 split
 . rename_i h;have:=isNul_iff.mp h;omega
 . omega
theorem zax {v:Int}:z4l v (z5r v) (z9n v):=z01k fun hb=>z02u _ _ _ (by
 have hb : -9223372036854775808<=v/\v<=9223372036854775807:=hb
 unfold zp8
 have no:z9n v=false->(((0:Int),(false,())):Int×Bool×Unit)=(z5r v,(z9n v,())):=fun h=>by unfold z5r;rw[h];rfl
 refine z0l (fun h=>no ?_) (fun h=>⟨_,zgw,?_⟩)
 . rw[Bool.eq_false_iff];intro h';have:=isNul_iff.mp h';omega
 . rw[z1w (by omega) (by omega)]
   refine z0t (fun h2=>no ?_) (fun h2=>?_)
   . rw[Bool.eq_false_iff]at h2 ⊢;intro h';have:=isNul_iff.mp h';exact h2 (inR_iff.mpr ⟨by omega,by omega⟩)
   . have:=inR_iff.mp h2
     have e:z9n v=true:=isNul_iff.mpr ⟨by omega,by omega⟩
     unfold z5r;rw[e];rfl)
theorem zp2 {v:Int}:z8v v (z5r v) (z9n v):=z02d fun hb=>z01w _ _ _ (by
 have hb : -9223372036854775808<=v/\v<=9223372036854775807:=hb
 unfold zop
 have no:z9n v=false->(((0:Int),(false,())):Int×Bool×Unit)=(z5r v,(z9n v,())):=fun h=>by unfold z5r;rw[h];rfl
 rw[z1w (by omega) (by omega)]
 refine⟨_,z9o,z0t (fun h2=>no ?_) (fun h2=>?_)⟩
 . rw[Bool.eq_false_iff]at h2 ⊢;intro h';have:=isNul_iff.mp h';exact h2 (inR_iff.mpr ⟨by omega,by omega⟩)
 . have:=inR_iff.mp h2
   have e:z9n v=true:=isNul_iff.mpr ⟨by omega,by omega⟩
   unfold z5r;rw[e];rfl)
theorem zbf {v:Int}:z6g v (zr9 v):=zwr _ _ (by
 unfold zjz
 refine⟨_,_,zax,z1u (fun h=>?_) (fun h=>⟨_,zgw,?_⟩)⟩
 . have:=isNul_iff.mp h
   have e:zr9 v=true:=inR_iff.mpr ⟨by omega,by omega⟩
   rw[e]
 . have:inR v 0 9=zr9 v:=by
    rw[Bool.eq_iff_iff]
    unfold zr9
    rw[inR_iff,inR_iff]
    constructor
    . omega
    . intro h'
      refine⟨?_,h'.2⟩
      rcases Int.lt_or_le v 0 with h0|h0
      . rw[isNul_iff.mpr ⟨by omega,by omega⟩]at h;cases h
      . exact h0
   rw[this])
theorem zar {v:Int}:z6a v (zr9 v):=zv2 _ _ (by unfold zk4;exact⟨_,z9o,rfl⟩)
theorem zn4 {f:z00}:z7i f (nulF f):=zyn _ _ (by
 unfold znf
 refine z1x f.2.1.length (fun i=>((i:Int),(zhx (z2z (f.2.1.take i)),()))) (by simp[z2z,zhx]) ?_ ?_
 . intro i hi X hX
   refine z0h fun _=>bcI hi (inI hi ⟨_,_,zax,?_⟩)
   simp only
   rw[z2k hi,z02 (by omega)]
   have e:z2z (f.2.1.take (i+1))=z2z (f.2.1.take i)++(if z9n f.2.1[i] then[-1 - f.2.1[i]] else[]):=by
    rw[z07 hi,zgf];congr 1
    unfold z2z
    cases h:z9n f.2.1[i]<;>simp[h]
   rw[e]at hX
   have hf:=zqb (l:=f.2.1.take i)
   refine z1u (fun h=>⟨_,z00r (by omega),?_⟩) (fun h=>?_)
   . rw[if_pos h]at hX
     have:z5r f.2.1[i] = -1 - f.2.1[i]:=by unfold z5r;rw[if_pos h]
     rw[this,z04v];exact hX
   . rw[if_neg (by rw[h];simp),List.append_nil]at hX;exact hX
 . intro X
   refine z0h fun _=>bcN ?_
   simp only[List.take_length]
   rfl)
theorem zrf {l:List Int} (hl:l.length<=1073741824):zhj l (zhx (z2z l)):=z0al _ _ (by
 unfold zzx
 refine z0h fun _=>z1x l.length (fun i=>((i:Int),(z2z (l.take i),()))) (by simp[z2z]) ?_ ?_
 . intro i hi X hX
   refine bcI hi (inI hi ⟨_,_,zp2,?_⟩)
   simp only
   rw[z2k hi,z02 (by omega)]
   have e:z2z (l.take (i+1))=z2z (l.take i)++(if z9n l[i] then[-1 - l[i]] else[]):=by
    rw[z07 hi,zgf];congr 1
    unfold z2z
    cases h:z9n l[i]<;>simp[h]
   rw[e]at hX
   have hb:=z04n (l.take i)
   rw[List.length_take]at hb
   refine z1u (fun h=>⟨by simp only[z11,List.length_cons,List.length_nil];omega,?_⟩) (fun h=>?_)
   . rw[if_pos h]at hX
     have:z5r l[i] = -1 - l[i]:=by unfold z5r;rw[if_pos h]
     rw[this];exact hX
   . rw[if_neg (by rw[h];simp),List.append_nil]at hX;exact hX
 . intro X
   refine bcN ⟨_,zcj ?_,_,zag,?_⟩
   . simp only[List.take_length];have:=z04n l;omega
   . simp only[List.take_length];rw[z03w])
theorem zy5 {f:z00} (h:f.2.1.length<=1073741824):z9t f (nulF f):=zym _ _ (by unfold zn6;exact⟨_,zrf h,rfl⟩)
theorem zq3 {x:z09}:zb6 x (zjr x):=zqe _ _ (by
 unfold zgg
 refine z1x x.2.1.length (fun i=>((i:Int),(zhx ((x.2.1.take i).flatMap fun f=>z2z f.2.1),()))) (by simp[zhx]) ?_ ?_
 . intro i hi X hX
   refine z0h fun _=>bcI hi (inI hi ⟨_,zn4,?_⟩)
   simp only
   rw[z2k hi]
   have hn:(nulF x.2.1[i]).length<=40:=zqb
   refine z1x (nulF x.2.1[i]).length (fun j=>(((nulF x.2.1[i]).take j).foldl ins (zhx ((x.2.1.take i).flatMap fun f=>z2z f.2.1)),((j:Int),()))) (by simp) ?_ ?_
   . intro j hj Y hY
     refine z0h fun _=>bcI hj (inI hj ⟨_,z00r ?_,?_⟩)
     . have h1:(zhx ((x.2.1.take i).flatMap fun f=>z2z f.2.1)).length<=40:=by rw[<-zhr];exact zqb
       have:∀(l s:List Int),(l.foldl ins s).length<=s.length+l.length:=by
        intro l
        induction l with
        |nil=>intro s;simp
        |cons a l ih=>intro s;have:=ih (ins s a);have:=z0gg s a;simp only[List.foldl_cons,List.length_cons];omega
       have:=this ((nulF x.2.1[i]).take j) (zhx ((x.2.1.take i).flatMap fun f=>z2z f.2.1))
       rw[List.length_take]at this
       simp only;omega
     . simp only
       rw[z2k hj,z02 (by omega)]
       rw[z07 hj,List.foldl_append]at hY
       exact hY
   . intro Y
     refine z0h fun _=>bcN ?_
     simp only[List.take_length]
     rw[z02 (by omega)]
     have:(nulF x.2.1[i]).foldl ins (zhx ((x.2.1.take i).flatMap fun f=>z2z f.2.1))=zhx ((x.2.1.take (i+1)).flatMap fun f=>z2z f.2.1):=by
      unfold nulF
      rw[z058,z07 hi,List.flatMap_append];simp
     rw[this];exact hX
 . intro X
   refine z0h fun _=>bcN ?_
   simp only[List.take_length]
   rfl)
theorem zpw {x:z09} (hl:(x.2.1.flatMap (·.2.1)).length<=1073741824):zbd x (zjr x):=zq1 _ _ (by
 unfold zg4
 refine z0h fun _=>z1x x.2.1.length (fun i=>((i:Int),((x.2.1.take i).flatMap (·.2.1),()))) (by simp) ?_ ?_
 . intro i hi X hX
   have hs:=zqh (fun f:z00=>f.2.1) hi
   refine bcI hi (inI hi ⟨?_,?_⟩)
   . simp only[z11];rw[z2k hi];omega
   . simp only
     rw[z2k hi,z02 (by omega)]
     rw[z07 hi,List.flatMap_append]at hX
     simpa using hX
 . intro X
   refine bcN ⟨_,zrf ?_,?_⟩
   . simp only[List.take_length];exact hl
   . simp only[List.take_length]
     rw[zhr];rfl)
theorem zyi {l:List z0p} {a:z00}:zgt l a (zog l a):=zxm _ _ _ (by
 unfold zn2 zog
 refine⟨_,z62,z0t (fun h=>row_no1 h) (fun h1=>z0h fun hl=>⟨_,zgw,z0t (fun h=>row_no2 hl h) (fun h2=>z0h fun hl2=>⟨row_start h2 hl,z6u (fun h=>row_no3 h) (fun h3=>?_)⟩)⟩)⟩
 refine z8t a.2.1 (fun t=>!zr9 t) (fun i=>((i:Int),())) (KT:=((false,()):Bool×Unit)=(vRow zr9 l a,())) (KF:=((true,()):Bool×Unit)=(vRow zr9 l a,())) ?_ (fun X h=>z0h fun _=>bcN h) ?_ ?_
 . intro i hi X q1 q2
   refine z0h fun _=>bcI hi (inI hi ⟨_,zbf,?_⟩)
   simp only
   rw[z2k hi,z02 (by omega)]
   exact z1u (fun h=>q1 h) (fun h=>q2 h)
 . intro h;exact row_yes hl h1 h2 h3 (by rw[z4n]at h;exact(nt h).symm)
 . intro h;exact row_yes hl h1 h2 h3 (by rw[z4n]at h;exact(nf h).symm))
theorem zsk {t:Int}:z52 t (!zr9 t):=zsy _ _ (by unfold zja;exact⟨_,zar,rfl⟩)
theorem zmz {l:List z0p} {a:z00}:zc3 l a (zog l a):=zxx _ _ _ (by
 unfold zna zog
 refine⟨_,z63,z0t (fun h=>row_no1 h) (fun h1=>z0h fun hl=>⟨_,z9o,z0t (fun h=>row_no2 hl h) (fun h2=>z0h fun hl2=>⟨row_start h2 hl,z6u (fun h=>row_no3 h) (fun h3=>?_)⟩)⟩)⟩
 exact⟨_,z7h (fun t=>!zr9 t) (fun _ _=>zsk),row_yes hl h1 h2 h3 (by rw[z4n];simp)⟩)
theorem zti {x:z09} {f:z00} (h:zog x.1 f=true):0<=f.1/\f.1<(x.1.length:Int):=by have:=z26 h;exact⟨this.2.1,this.2.2.1⟩
theorem zco {x:z09} {i:Nat} (hi:i<x.2.1.length) (h1:zog x.1 x.2.1[i]=true) (h2:0<i->z9a (zg1 x.2.1 (i - 1)) x.2.1[i]<0):z9s x i = !(zai x.1 x.2.1[i].1&&(nulF x.2.1[i]).length != 0):=by
 unfold z9s
 rw[z2v hi,h1]
 have:(i == 0||decide (z9a (zg1 x.2.1 (i - 1)) x.2.1[i]<0))=true:=by
  rcases Nat.eq_zero_or_pos i with h|h
  . simp[h]
  . rw[decide_eq_true (h2 h)];simp
 rw[this];rfl
theorem z7v {x:z09}:z4b x (z3n x):=zpk _ _ (by
 unfold zg6
 have no:z3n x=false->((false,()):Bool×Unit)=(z3n x,()):=fun h=>by rw[h]
 refine zcc x.2.1.length (fun i=>!z9s x i) (fun i=>((i:Int),())) (KT:=z3n x=false) (KF:=z3n x=(zdn x.1&&decide (x.2.1.length<=30))) ?_ ?_ ?_ ?_
 . intro i hi X hb q1 q2
   have qn:z9s x i=false->((false,()):Bool×Unit)=(z3n x,()):=fun h=>no (q1 (by rw[h];rfl))
   have qy:z9s x i=true->X (((i+1:Nat):Int),()):=fun h=>q2 (by rw[h];rfl)
   refine z0h fun hl=>bcI hi (inI hi ⟨_,zyi,?_⟩)
   simp only
   rw[z2k hi,z02 (by omega)]
   refine z0t (fun h=>qn (by unfold z9s;rw[z2v hi,h];simp)) (fun hv=>?_)
   have fin:z9s x i = !(zai x.1 x.2.1[i].1&&(nulF x.2.1[i]).length != 0)->((0<=x.2.1[i].1/\x.2.1[i].1<(x.1.length:Int))/\(z01 (((x.1.getD (Int.toNat x.2.1[i].1) zel).2).2).1 (∃ y5:List Int,z7i x.2.1[i] y5/\(z0m (List.length y5:Int) (z01 (decide ((List.length y5:Int) > (0:Int))) (((false,()):Bool×Unit)=(z3n x,())) (X (((i+1:Nat):Int),()))))) (X (((i+1:Nat):Int),())))):=by
    intro he
    refine⟨zti hv,z1u (fun hs=>⟨_,zn4,z0h fun _=>z0l (fun h=>qn ?_) (fun h=>qy ?_)⟩) (fun hs=>qy ?_)⟩
    . have hs:zai x.1 x.2.1[i].1=true:=hs
      rw[he,hs];simp;intro e;rw[e]at h;simp at h
    . have:(nulF x.2.1[i]).length=0:=by omega
      rw[he,this];simp
    . have hs:zai x.1 x.2.1[i].1=false:=hs
      rw[he,hs];rfl
   refine z0l (fun h0=>?_) (fun h0=>fin (zco hi hv (fun h=>by omega)))
   have hi':i - 1<x.2.1.length:=by omega
   have hw:w64 ((i:Int) - 1)=((i - 1:Nat):Int):=by rw[z1w (by omega) (by omega)];omega
   rw[hw]
   refine inI hi' ⟨_,zav,?_⟩
   rw[z2k hi']
   refine z0l (fun h=>qn ?_) (fun h=>fin (zco hi hv (fun _=>by rw[z2v hi'];omega)))
   unfold z9s
   rw[z2v hi,z2v hi',decide_eq_false (by omega)]
   have:(i == 0)=false:=by simp;omega
   rw[this];simp
 . intro X h
   refine z0h fun _=>bcN ⟨_,z62,z1u (fun h1=>z0h fun _=>?_) (fun h1=>no (by rw[h,h1];rfl))⟩
   rw[h,h1]
   have:decide ((x.2.1.length:Int)<=30)=decide (x.2.1.length<=30):=decide_eq_decide.mpr (by omega)
   rw[this];rfl
 . rintro⟨i,hi,hp⟩;exact z08y hi (nt hp)
 . intro h;exact zvy fun i hi=>nf (h i hi))
theorem z5c {x:z09}:z30 x (z3n x):=zos _ _ (by
 unfold zgj
 have no:z3n x=false->((false,()):Bool×Unit)=(z3n x,()):=fun h=>by rw[h]
 refine⟨_,z63,z0t (fun h=>no (by unfold z3n;rw[h];simp)) (fun hr=>z0h fun _=>z0l (fun h=>no (by unfold z3n;rw[decide_eq_false (show ¬ x.2.1.length<=30 by omega)];simp)) (fun hlen=>z0h fun _=>?_))⟩
 refine zcc x.2.1.length (fun i=>!z9s x i) (fun i=>((i:Int),())) (KT:=z3n x=false) (KF:=z3n x=(zdn x.1&&decide (x.2.1.length<=30))) ?_ ?_ ?_ ?_
 . intro i hi X hb q1 q2
   have qn:z9s x i=false->((false,()):Bool×Unit)=(z3n x,()):=fun h=>no (q1 (by rw[h];rfl))
   have qy:z9s x i=true->X (((i+1:Nat):Int),()):=fun h=>q2 (by rw[h];rfl)
   refine bcI hi (inI hi ⟨_,zmz,?_⟩)
   simp only
   rw[z2k hi,z02 (by omega)]
   refine z0t (fun h=>qn (by unfold z9s;rw[z2v hi,h];simp)) (fun hv=>?_)
   have hvl:=(z26 hv).2.2.2.2.1
   have fin:z9s x i = !(zai x.1 x.2.1[i].1&&(nulF x.2.1[i]).length != 0)->((0<=x.2.1[i].1/\x.2.1[i].1<(x.1.length:Int))/\(z01 (((x.1.getD (Int.toNat x.2.1[i].1) zel).2).2).1 (∃ y5:List Int,z9t x.2.1[i] y5/\(z0m (List.length y5:Int) (z01 (decide ((List.length y5:Int) > (0:Int))) (((false,()):Bool×Unit)=(z3n x,())) (X (((i+1:Nat):Int),()))))) (X (((i+1:Nat):Int),())))):=by
    intro he
    refine⟨zti hv,z1u (fun hs=>⟨_,zy5 (by omega),z0h fun _=>z0l (fun h=>qn ?_) (fun h=>qy ?_)⟩) (fun hs=>qy ?_)⟩
    . have hs:zai x.1 x.2.1[i].1=true:=hs
      rw[he,hs];simp;intro e;rw[e]at h;simp at h
    . have:(nulF x.2.1[i]).length=0:=by omega
      rw[he,this];simp
    . have hs:zai x.1 x.2.1[i].1=false:=hs
      rw[he,hs];rfl
   refine z0l (fun h0=>?_) (fun h0=>fin (zco hi hv (fun h=>by omega)))
   have hi':i - 1<x.2.1.length:=by omega
   have hw:w64 ((i:Int) - 1)=((i - 1:Nat):Int):=by rw[z1w (by omega) (by omega)];omega
   rw[hw]
   refine inI hi' ⟨_,z69,?_⟩
   rw[z2k hi']
   refine z0l (fun h=>qn ?_) (fun h=>fin (zco hi hv (fun _=>by rw[z2v hi'];omega)))
   unfold z9s
   rw[z2v hi,z2v hi',decide_eq_false (by omega)]
   have:(i == 0)=false:=by simp;omega
   rw[this];simp
 . intro X h
   refine bcN ?_
   rw[h,hr,decide_eq_true (show x.2.1.length<=30 by omega)];rfl
 . rintro⟨i,hi,hp⟩;exact z08y hi (nt hp)
 . intro h;exact zvy fun i hi=>nf (h i hi))
theorem zrd {x:z09} (h:z3n x=true):(x.2.1.flatMap (·.2.1)).length<=90:=by
 have h1:=z3l h
 have:∀ l:List z00,(∀ f∈l,zog x.1 f=true)->(l.flatMap (·.2.1)).length<=3 * l.length:=by
  intro l
  induction l with
  |nil=>intro _;simp
  | cons a l ih=>
    intro hl
    have h1:=(z26 (hl a (by simp))).2.2.2.2.1
    have:=ih fun f hf=>hl f (by simp[hf])
    simp only[List.flatMap_cons,List.length_append,List.length_cons];omega
 have:=this x.2.1 fun f hf=>z3c h hf
 omega
def zkz (x:z09):Int:=match (zjr x).getLast? with
 |some k=>k+1
 |none=>0
theorem nextN_le {x:z09} {n:Nat}:zkz x<=n↔∀ k∈zjr x,k<n:=by
 unfold zkz
 have hs:srt (zjr x):=zp9 _
 cases h:(zjr x).getLast? with
 | none=>
   have:zjr x=[]:=List.getLast?_eq_none_iff.mp h
   rw[this];simp
 | some m=>
   have hne:zjr x≠[]:=by intro e;rw[e]at h;simp at h
   have hm:(zjr x).getLast hne=m:=by rw[List.getLast?_eq_some_getLast hne]at h;exact Option.some.inj h
   have hlast:=z0il hs hne
   constructor
   . intro h' k hk
     have:=hlast k hk;rw[hm]at this;simp only at h';omega
   . intro h'
     have:=h' m (by rw[<-hm];exact List.getLast_mem hne)
     simp only;omega
theorem z069 {x:z09} (hl:(x.2.1.flatMap (·.2.1)).length<=1073741824):zni x (zkz x):=z08r _ _ (by
 unfold zvn
 have hf:=z08w x
 refine⟨_,zpw hl,z0h fun _=>z3e (fun h=>?_) (fun h=>z0h fun _=>?_)⟩
 . have:zjr x=[]:=List.length_eq_zero_iff.mp (by omega)
   unfold zkz;rw[this];rfl
 . have hw:w64 ((zjr x).length - 1:Int)=(((zjr x).length - 1:Nat):Int):=by rw[z1w (by omega) (by omega)];omega
   rw[hw]
   have hlt:(zjr x).length - 1<(zjr x).length:=by omega
   refine inI hlt ?_
   rw[z2k hlt]
   have hne:zjr x≠[]:=by intro e;rw[e]at h;simp at h
   have hr:0<=(zjr x)[(zjr x).length - 1]/\(zjr x)[(zjr x).length - 1]<0+(40:Nat):=by
    have:=zo9 (l:=x.2.1.flatMap (·.2.1)) ((zjr x)[(zjr x).length - 1]) (by rw[zhr];exact List.getElem_mem hlt)
    exact this
   rw[z1w (by omega) (by omega)]
   unfold zkz
   rw[List.getLast?_eq_some_getLast hne,List.getLast_eq_getElem])
def mx (f:Int->Int) (l:List Int):Int:=l.foldl (fun m k=>zkc m (f k)) 0
theorem z0ld {a b n:Int}:zkc a b<=n↔a<=n/\b<=n:=by unfold zkc;split<;>omega
theorem z0g4 {f:Int->Int} {n:Int}:∀ {l:List Int} {s:Int},l.foldl (fun m k=>zkc m (f k)) s<=n↔s<=n/\∀ k∈l,f k<=n
 |[],s=>by simp
 | a::l,s=>by
   rw[List.foldl_cons,z0g4,z0ld]
   simp only[List.mem_cons,forall_eq_or_imp,and_assoc]
theorem mx_le {f:Int->Int} {l:List Int} {n:Int}:mx f l<=n↔0<=n/\∀ k∈l,f k<=n:=z0g4
theorem zkt (f:Int->Int) (l:List Int):0<=mx f l:=(mx_le.mp (Int.le_refl _)).1
theorem z0ht {f:Int->Int} {l m:List Int} (h:∀ k,k∈l↔k∈m):mx f l=mx f m:=by
 have h1:mx f l<=mx f m:=mx_le.mpr ⟨zkt _ _,fun k hk=>(mx_le.mp (Int.le_refl (mx f m))).2 k ((h k).mp hk)⟩
 have h2:mx f m<=mx f l:=mx_le.mpr ⟨zkt _ _,fun k hk=>(mx_le.mp (Int.le_refl (mx f l))).2 k ((h k).mpr hk)⟩
 omega
theorem z0lf (f:Int->Int) (l:List Int) (k:Int):mx f (l++[k])=zkc (mx f l) (f k):=by unfold mx;rw[List.foldl_append];rfl
theorem z00o (a b:Int):zkc (a+1) (b+1)=zkc a b+1:=by unfold zkc;split<;>split<;>omega
def za0 (out:List Int) (args:List Int):Int:=mx (fun k=>out.getD k.toNat 0) (z2z args)+1
def z2f (ts:List z06):List Int:=ts.foldl (fun out t=>out++[za0 out t.2.2.1]) []
theorem z9x (ts:List z06) (t:z06):z2f (ts++[t])=z2f ts++[za0 (z2f ts) t.2.2.1]:=by unfold z2f;rw[List.foldl_append];rfl
theorem z07l (ts:List z06):(z2f ts).length=ts.length:=by
 have:∀(l:List z06) (s:List Int),(l.foldl (fun out t=>out++[za0 out t.2.2.1]) s).length=s.length+l.length:=by
  intro l
  induction l with
  |nil=>intro s;simp
  |cons a l ih=>intro s;rw[List.foldl_cons,ih];simp;omega
 have:=this ts []
 simpa [z2f]using this
def zh7 (ts:List z06) (i:Nat):z06:=ts.getD i z49
theorem z7k {ts:List z06} {i:Nat} (h:i<ts.length):zh7 ts i=ts[i]:=z0y h
def zcr (k:Nat) (v:Int):Bool:=zr9 v && !(z9n v&&decide ((k:Int)<=z5r v))
def z9q (ts:List z06) (k:Nat):Bool:=inR (zh7 ts k).1 0 4&&inR (zh7 ts k).2.1 0 4&&decide ((zh7 ts k).2.2.1.length<=5)&&(zh7 ts k).2.2.1.all (zcr k) && !(ts.take k).any (fun t=>decide (t=zh7 ts k))
def zme (ts:List z06):Bool:=decide (ts.length<=30)&&(List.range ts.length).all (z9q ts)&&(z2f ts).all fun d=>decide (d<=8)
def vSk (s:TSk):Bool:=z3n s.1&&decide (zkz s.1<=s.2.1.length)&&zme s.2.1
theorem zys {k:Nat} {args:List Int} (h:args.all (zcr k)=true):∀ n∈z2z args,0<=n/\n<k:=by
 intro n hn
 obtain⟨h1,h2,h3⟩:=mem_nulls.mp hn
 have:=List.all_eq_true.mp h _ h3
 unfold zcr at this
 rw[Bool.and_eq_true]at this
 have hi:z9n (-1 - n)=true:=isNul_iff.mpr ⟨by omega,by omega⟩
 have he:z5r (-1 - n)=n:=by unfold z5r;rw[if_pos hi];omega
 rw[hi,Bool.true_and,he]at this
 have h4:=this.2
 simp at h4
 exact⟨h1,h4⟩
theorem z0d9 {ts:List z06} (h:zme ts=true) {k:Nat} (hk:k<ts.length):z9q ts k=true:=by
 unfold zme at h
 simp only[Bool.and_eq_true]at h
 exact List.all_eq_true.mp h.1.2 k (List.mem_range.mpr hk)
theorem z74 {s:TSk} (h:vSk s=true):z3n s.1=true/\zkz s.1<=s.2.1.length/\zme s.2.1=true:=by
 unfold vSk at h;simp at h;exact⟨h.1.1,h.1.2,h.2⟩
theorem zg2 {ts:List z06} (h:zme ts=true):ts.length<=30:=by unfold zme at h;simp at h;exact h.1.1
theorem zre {g:Int->Int}:∀ {l:List Int} {s:Int},0<=s->l.foldl (fun m v=>zkc m (if z9n v then g (z5r v)else 0)) s=(z2z l).foldl (fun m k=>zkc m (g k)) s
 |[],_,_=>rfl
 | a::l,s,h=>by
   have hs:0<=zkc s (g (z5r a)):=by unfold zkc;split<;>omega
   have h0:zkc s 0=s:=by unfold zkc;split<;>omega
   rw[List.foldl_cons]
   cases hn:z9n a with
   | true=>
     have hno:z5r a = -1 - a:=by unfold z5r;rw[if_pos hn]
     have e:z2z (a::l)=(-1 - a)::z2z l:=by unfold z2z;simp[hn]
     rw[e,List.foldl_cons,if_pos rfl,zre hs,hno]
   | false=>
     have e:z2z (a::l)=z2z l:=by unfold z2z;simp[hn]
     rw[e,if_neg (by simp),h0];exact zre h
theorem z89 {s:TSk}:z41 s (vSk s):=zkk _ _ (by
 unfold zcn
 have no:vSk s=false->((false,()):Bool×Unit)=(vSk s,()):=fun h=>by rw[h]
 have na:zme s.2.1=false->((false,()):Bool×Unit)=(vSk s,()):=fun h=>no (by unfold vSk;rw[h];simp)
 refine z1o (fun k a=>∃ i:Nat,i+k=s.2.1.length/\a=((i:Int),(z2f (s.2.1.take i),()))/\i<=30/\(∀ j,j<i->z9q s.2.1 j=true)/\∀ d∈z2f (s.2.1.take i),d<=8) ?_ ?_ (n:=s.2.1.length) ⟨0,by omega,by simp[z2f],by omega,fun j hj=>by omega,by simp[z2f]⟩
 . rintro a ⟨i,hi,rfl,hi30,hok,hd⟩ X
   obtain rfl:i=s.2.1.length:=by omega
   rw[List.take_length]at hd
   refine z0h fun _=>bcN ?_
   have hT:zme s.2.1=true:=by
    unfold zme
    rw[decide_eq_true hi30,List.all_eq_true.mpr fun i hi=>hok i (List.mem_range.mp hi),List.all_eq_true.mpr fun d h=>decide_eq_true (hd d h)];rfl
   have hf:=z08w s.1
   refine⟨_,zq3,_,z7v,z1u (fun hv=>z0h fun _=>z0l (fun _=>z0h fun _=>?_) (fun h=>by omega)) (fun hv=>no (by unfold vSk;rw[hv];simp))⟩
   have ev:vSk s=decide (zkz s.1<=s.2.1.length):=by unfold vSk;rw[hv,hT];simp
   rw[ev]
   refine z3e (fun h=>?_) (fun h=>z0h fun _=>?_)
   . have:zjr s.1=[]:=List.length_eq_zero_iff.mp (by omega)
     rw[decide_eq_true (nextN_le.mpr (by rw[this];simp))]
   . have hw:w64 ((zjr s.1).length - 1:Int)=(((zjr s.1).length - 1:Nat):Int):=by rw[z1w (by omega) (by omega)];omega
     rw[hw]
     have hlt:(zjr s.1).length - 1<(zjr s.1).length:=by omega
     refine inI hlt (z0h fun _=>?_)
     rw[z2k hlt]
     have hne:zjr s.1≠[]:=by intro e;rw[e]at h;simp at h
     have e1:zkz s.1=(zjr s.1)[(zjr s.1).length - 1]+1:=by unfold zkz;rw[List.getLast?_eq_some_getLast hne,List.getLast_eq_getElem]
     rw[e1]
     exact congrArg (fun b=>(b,())) (decide_eq_decide.mpr (by omega))
 . rintro k a ⟨i,hi,rfl,hi30,hok,hd⟩ X hX
   have hlt:i<s.2.1.length:=by omega
   have hdl:(z2f (s.2.1.take i)).length=i:=by rw[z07l,List.length_take];omega
   have nt':z9q s.2.1 i=false->((false,()):Bool×Unit)=(vSk s,()):=fun h=>na (by
    unfold zme
    have:(List.range s.2.1.length).all (z9q s.2.1)=false:=by
     rw[Bool.eq_false_iff];intro hall
     have:=List.all_eq_true.mp hall i (List.mem_range.mpr hlt);rw[h]at this;cases this
    rw[this];simp)
   have hta:=z7k hlt
   refine z0h fun hl=>bcI hlt ?_
   simp only
   rw[z2k hlt]
   refine z1o (fun k a=>∃ j:Nat,j+k=s.2.1[i].2.2.1.length/\a=(mx (fun k=>(z2f (s.2.1.take i)).getD k.toNat 0) (z2z (s.2.1[i].2.2.1.take j)),((j:Int),()))/\(s.2.1[i].2.2.1.take j).all (zcr i)=true) ?_ ?_ (n:=s.2.1[i].2.2.1.length) ⟨0,by omega,by simp[z2z,mx],by simp⟩
   rotate_left
   . rintro k a ⟨j,hj,rfl,hall⟩ Y hY
     have hjl:j<s.2.1[i].2.2.1.length:=by omega
     refine inI hlt (z0h fun _=>bcI hjl (inI hlt (inI hjl ?_)))
     simp only
     rw[z2k hjl,z02 (by omega)]
     have bad:zcr i s.2.1[i].2.2.1[j]=false->((false,()):Bool×Unit)=(vSk s,()):=fun h=>nt' (by
      unfold z9q
      rw[hta]
      have:s.2.1[i].2.2.1.all (zcr i)=false:=by
       rw[Bool.eq_false_iff];intro hall
       have:=List.all_eq_true.mp hall _ (List.getElem_mem hjl);rw[h]at this;cases this
      rw[this];simp)
     have hnl:z2z (s.2.1[i].2.2.1.take (j+1))=z2z (s.2.1[i].2.2.1.take j)++(if z9n s.2.1[i].2.2.1[j] then[-1 - s.2.1[i].2.2.1[j]] else[]):=by
      rw[z07 hjl,zgf];congr 1
      unfold z2z
      cases h:z9n s.2.1[i].2.2.1[j]<;>simp[h]
     refine⟨_,_,zax,_,zbf,z0t (fun h=>bad (by unfold zcr;rw[h];rfl)) (fun hv=>?_)⟩
     have hnext:zcr i s.2.1[i].2.2.1[j]=true->(s.2.1[i].2.2.1.take (j+1)).all (zcr i)=true:=fun h=>by
      rw[z07 hjl,List.all_append,hall];simp[h]
     refine z1u (fun hn=>?_) (fun hn=>?_)
     . have hno:z5r s.2.1[i].2.2.1[j] = -1 - s.2.1[i].2.2.1[j]:=by unfold z5r;rw[if_pos hn]
       have hr:=isNul_iff.mp hn
       refine z0l (fun h=>bad ?_) (fun h=>?_)
       . unfold zcr;rw[hv,hn,decide_eq_true (show(i:Int)<=z5r s.2.1[i].2.2.1[j] from h)];rfl
       . rw[hn]
         refine bcT ⟨⟨by rw[hno];omega,by rw[hdl];omega⟩,hY _ ⟨j+1,by omega,?_,hnext ?_⟩⟩
         . rw[hnl,if_pos hn,z0lf,hno]
         . unfold zcr;rw[hv,hn,decide_eq_false (show ¬ (i:Int)<=z5r s.2.1[i].2.2.1[j] by omega)];rfl
     . rw[hn]
       refine bcF (hY _ ⟨j+1,by omega,?_,hnext ?_⟩)
       . rw[hnl,if_neg (by rw[hn];simp),List.append_nil]
       . unfold zcr;rw[hv,hn];rfl
   rintro a ⟨j,hj,rfl,hall⟩ Y
   obtain rfl:j=s.2.1[i].2.2.1.length:=by omega
   refine inI hlt (z0h fun _=>bcN ?_)
   simp only[List.take_length]at hall ⊢
   have hmx:=zkt (fun k=>(z2f (s.2.1.take i)).getD k.toNat 0) (z2z s.2.1[i].2.2.1)
   have hmx8:mx (fun k=>(z2f (s.2.1.take i)).getD k.toNat 0) (z2z s.2.1[i].2.2.1)<=8:=mx_le.mpr ⟨by omega,fun k hk=>by
    have hr:=zys hall k hk
    have hkl:k.toNat<(z2f (s.2.1.take i)).length:=by omega
    rw[z0y hkl];exact hd _ (List.getElem_mem hkl)⟩
   have hw:w64 (mx (fun k=>(z2f (s.2.1.take i)).getD k.toNat 0) (z2z s.2.1[i].2.2.1)+1)=za0 (z2f (s.2.1.take i)) s.2.1[i].2.2.1:=by rw[z1w (by omega) (by omega)];rfl
   rw[hw]
   refine⟨by simp only[z11,List.length_cons,List.length_nil];omega,?_⟩
   have hsn:z2f (s.2.1.take i)++[za0 (z2f (s.2.1.take i)) s.2.1[i].2.2.1]=z2f (s.2.1.take (i+1)):=by rw[z07 hlt,z9x]
   have hmem:za0 (z2f (s.2.1.take i)) s.2.1[i].2.2.1∈z2f s.2.1:=by
    have:∀(l m:List z06),∃ r,z2f (l++m)=z2f l++r:=by
     intro l m
     induction m generalizing l with
     |nil=>exact⟨[],by simp⟩
     | cons a m ih=>
       obtain⟨r,hr⟩:=ih (l++[a])
       rw[List.append_assoc,z9x,List.append_assoc]at hr
       exact⟨_,hr⟩
    obtain⟨r,hr⟩:=this (s.2.1.take (i+1)) (s.2.1.drop (i+1))
    rw[List.take_append_drop,<-hsn]at hr
    rw[hr];simp
   refine z0l (fun h=>na ?_) (fun h8=>inI hlt (z0h fun _=>z0l (fun h=>nt' ?_) (fun h5=>z0l (fun h=>na ?_) (fun h30=>?_))))
   . unfold zme
     have:((z2f s.2.1).all fun d=>decide (d<=8))=false:=by
      rw[Bool.eq_false_iff];intro hall'
      have:=List.all_eq_true.mp hall' _ hmem
      have:za0 (z2f (s.2.1.take i)) s.2.1[i].2.2.1<=8:=by simpa using this
      unfold za0 at this;omega
     rw[this];simp
   . unfold z9q;rw[hta,decide_eq_false (show ¬ s.2.1[i].2.2.1.length<=5 by omega)];simp
   . unfold zme;rw[decide_eq_false (show ¬ s.2.1.length<=30 by omega)];simp
   . refine zcc i (fun j=>decide (zh7 s.2.1 j=s.2.1[i])) (fun j=>((j:Int),())) (KT:=(s.2.1.take i).any (fun t=>decide (t=s.2.1[i]))=true) (KF:=(s.2.1.take i).any (fun t=>decide (t=s.2.1[i]))=false) ?_ ?_ ?_ ?_
     . intro j hj Z _ q1 q2
       have hjl:j<s.2.1.length:=by omega
       have bad:s.2.1[j]=s.2.1[i]->((false,()):Bool×Unit)=(vSk s,()):=fun h=>nt' (by
        have:=q1 (by rw[z7k hjl];exact decide_eq_true h)
        unfold z9q;rw[hta,this];simp)
       have good:s.2.1[j]≠s.2.1[i]->Z (((j+1:Nat):Int),()):=fun h=>q2 (by rw[z7k hjl];exact decide_eq_false h)
       refine bcI hj (inI hjl (inI hlt ?_))
       simp only
       rw[z2k hjl,z02 (by omega)]
       refine z3e (fun h1=>inI hjl (inI hlt (z3e (fun h2=>inI hjl (inI hlt ⟨_,zpz,z3e (fun h3=>bad (Prod.ext h1 (Prod.ext h2 (Prod.ext (cmpL_zero.mp h3) rfl)))) (fun h3=>good fun e=>h3 (cmpL_zero.mpr (by rw[e])))⟩)) (fun h=>good fun e=>h (by rw[e]))))) (fun h=>good fun e=>h (by rw[e]))
     . intro Z hany
       refine bcN (inI hlt ⟨_,zgw,z0t (fun h=>nt' (by unfold z9q;rw[hta,h];simp)) (fun hd1=>inI hlt ⟨_,zgw,z0t (fun h=>nt' (by unfold z9q;rw[hta,h];simp)) (fun hd2=>?_)⟩)⟩)
       rw[z02 (by omega)]
       refine hX _ ⟨i+1,by omega,by rw[hsn],by omega,fun j hj=>?_,fun d hdm=>?_⟩
       . by_cases hji:j=i
         . subst hji
           unfold z9q
           rw[hta,hd1,hd2,hall,hany,decide_eq_true (show s.2.1[j].2.2.1.length<=5 by omega)];rfl
         . exact hok j (by omega)
       . rw[<-hsn]at hdm
         rcases List.mem_append.mp hdm with hdm|hdm
         . exact hd d hdm
         . have:d=za0 (z2f (s.2.1.take i)) s.2.1[i].2.2.1:=by simpa using hdm
           rw[this];unfold za0;omega
     . rintro⟨j,hj,hp⟩
       have hjl:j<s.2.1.length:=by omega
       rw[z7k hjl]at hp
       refine List.any_eq_true.mpr ⟨s.2.1[j],?_,hp⟩
       have hjt:j<(s.2.1.take i).length:=by rw[List.length_take];omega
       have:(s.2.1.take i)[j]=s.2.1[j]:=by simp
       rw[<-this];exact List.getElem_mem hjt
     . intro h
       rw[Bool.eq_false_iff];intro hany
       obtain⟨t,ht,hp⟩:=List.any_eq_true.mp hany
       obtain⟨j,hj,rfl⟩:=List.mem_iff_getElem.mp ht
       rw[List.length_take]at hj
       have:=h j (by omega)
       rw[z7k (by omega)]at this
       have e:(s.2.1.take i)[j]'(by rw[List.length_take];omega)=s.2.1[j]'(by omega):=by simp
       rw[e]at hp
       rw[hp]at this;cases this)
theorem z02n {v:Int} {k:Nat}:z8w v k (!zcr k v):=z01o _ _ _ (by
 unfold zqd
 refine⟨_,_,zp2,_,zar,z0t (fun h=>by unfold zcr;rw[h];rfl) (fun hv=>z1u (fun hn=>?_) (fun hn=>by unfold zcr;rw[hv,hn];rfl))⟩
 unfold zcr
 rw[hv,hn]
 simp)
theorem z07q {t:z06} {k:Nat}:znp t k (inR t.1 0 4&&inR t.2.1 0 4&&decide (t.2.2.1.length<=5)&&t.2.2.1.all (zcr k)):=z08l _ _ _ (by
 unfold zu3
 refine⟨_,z9o,z0t (fun h=>by rw[h];rfl) (fun h1=>⟨_,z9o,z0t (fun h=>by rw[h];simp) (fun h2=>z0h fun _=>z0l (fun h=>?_) (fun h3=>⟨_,z8c (fun v=>!zcr k v) (fun _ _=>z02n),?_⟩))⟩)⟩
 . rw[decide_eq_false (show ¬ t.2.2.1.length<=5 by omega)];simp
 . rw[h1,h2,decide_eq_true (show t.2.2.1.length<=5 by omega),z4n];simp)
theorem z075 {x y:z06}:zfr x y (decide (x=y)):=z083 _ _ _ (by
 unfold zvf
 have no:¬ x=y->((false,()):Bool×Unit)=(decide (x=y),()):=fun h=>by rw[decide_eq_false h]
 refine z3e (fun h1=>z3e (fun h2=>⟨_,zga,?_⟩) (fun h=>no fun e=>h (by rw[e]))) (fun h=>no fun e=>h (by rw[e]))
 obtain⟨a,b,c,_⟩:=x;obtain⟨a',b',c',_⟩:=y
 simp only at h1 h2;simp[h1,h2])
def zcm (ts:List z06) (t:z06):Int:=if z03 (fun x=>decide (x=t)) ts<ts.length then(z03 (fun x=>decide (x=t)) ts:Int)else -1
theorem zu7 {ts:List z06} {t:z06}:zk5 ts t (zcm ts t):=z0d2 _ _ _ (by
 unfold z03n
 exact⟨_,z7n (fun x=>decide (x=t)) (fun _ _=>z075),rfl⟩)
theorem z05c {α:Type} {p:α->Bool} {l:List α} {i:Nat} (h:i<l.length) (hp:p l[i]=true):z03 p l=i↔(l.take i).any p=false:=by
 constructor
 . intro he
   rw[Bool.eq_false_iff];intro hany
   obtain⟨t,ht,hpt⟩:=List.any_eq_true.mp hany
   obtain⟨j,hj,rfl⟩:=List.mem_iff_getElem.mp ht
   rw[List.length_take]at hj
   have:=z6b (p:=p) (l:=l) (i:=j) (by omega) (by omega)
   have e:(l.take i)[j]'(by rw[List.length_take];omega)=l[j]'(by omega):=by simp
   rw[e]at hpt;rw[this]at hpt;cases hpt
 . intro hany
   rcases Nat.lt_trichotomy (z03 p l) i with h1|h1|h1
   . have h2:=z8u (p:=p) (l:=l) (by omega)
     have:(l.take i).any p=true:=List.any_eq_true.mpr ⟨l[z03 p l],by
      have hj:z03 p l<(l.take i).length:=by rw[List.length_take];omega
      have e:(l.take i)[z03 p l]=l[z03 p l]'(by omega):=by simp
      rw[<-e];exact List.getElem_mem hj,h2⟩
     rw[hany]at this;cases this
   . exact h1
   . have:=z6b (p:=p) h h1;rw[hp]at this;cases this
theorem z0eb {ts:List z06} (hl:ts.length<=30) (ha:∀ k (h:k<ts.length),ts[k].2.2.1.all (zcr k)=true/\ts[k].2.2.1.length<=5):zxj ts (z2f ts):=z0fn _ _ (by
 unfold z05r
 refine z0h fun _=>?_
 have hbnd0:∀(n:Nat) (l:List z06),l.length=n->∀ d∈z2f l,1<=d/\d<=l.length:=by
  intro n
  induction n with
  |zero=>intro l hl;obtain rfl:=List.length_eq_zero_iff.mp hl;simp[z2f]
  | succ n ih0=>
    intro l0 hl d hd
    have hne:l0≠[]:=by intro e;rw[e]at hl;simp at hl
    obtain⟨l,t,rfl⟩:∃ l t,l0=l++[t]:=⟨_,_,(List.dropLast_concat_getLast hne).symm⟩
    have ih:=ih0 l (by simpa using hl)
    rw[z9x]at hd
    rw[List.length_append]
    rcases List.mem_append.mp hd with hd|hd
    . have:=ih d hd;simp;omega
    . have e:d=za0 (z2f l) t.2.2.1:=by simpa using hd
      rw[e]
      unfold za0
      have h0:=zkt (fun k=>(z2f l).getD k.toNat 0) (z2z t.2.2.1)
      have:mx (fun k=>(z2f l).getD k.toNat 0) (z2z t.2.2.1)<=l.length:=mx_le.mpr ⟨by omega,fun k _=>by
       by_cases hk:k.toNat<(z2f l).length
       . rw[z0y hk];exact(ih _ (List.getElem_mem hk)).2
       . rw[List.getD_eq_getElem?_getD,List.getElem?_eq_none (by omega)];simp⟩
      simp only[List.length_cons,List.length_nil];omega
 have hbnd:=fun l=>hbnd0 _ l rfl
 refine z1x ts.length (fun i=>((i:Int),(z2f (ts.take i),()))) (by simp[z2f]) ?_ ?_
 . intro i hi X hX
   have hdl:(z2f (ts.take i)).length=i:=by rw[z07l,List.length_take];omega
   have hai:=ha i hi
   refine bcI hi (inI hi ⟨_,zrf (by simp only;rw[z2k hi];omega),z0h fun hsl=>?_⟩)
   simp only at hsl ⊢
   rw[z2k hi]at hsl ⊢
   refine z1x (zhx (z2z ts[i].2.2.1)).length (fun j=>(((zhx (z2z ts[i].2.2.1)).take j).foldl (fun m k=>zkc m ((z2f (ts.take i)).getD k.toNat 0)) 0+1,((j:Int),()))) (by simp) ?_ ?_
   . intro j hj Y hY
     have hm:=mem_sset.mp (List.getElem_mem hj)
     have hr:=zys hai.1 _ hm
     have hkl:(zhx (z2z ts[i].2.2.1))[j].toNat<(z2f (ts.take i)).length:=by omega
     refine bcI hj (inI hj ?_)
     simp only
     rw[z2k hj,z02 (by omega)]
     refine⟨⟨hr.1,by rw[hdl];exact hr.2⟩,?_⟩
     have hb:=hbnd (ts.take i) _ (List.getElem_mem hkl)
     rw[List.length_take]at hb
     have e:(z2f (ts.take i)).getD (zhx (z2z ts[i].2.2.1))[j].toNat 0=(z2f (ts.take i))[(zhx (z2z ts[i].2.2.1))[j].toNat]:=z0y hkl
     rw[z1w (by rw[e];omega) (by rw[e];omega)]
     rw[z07 hj,List.foldl_append]at hY
     rw[z00o]
     exact hY
   . intro Y
     refine bcN ?_
     simp only[List.take_length]
     have hmx:(zhx (z2z ts[i].2.2.1)).foldl (fun m k=>zkc m ((z2f (ts.take i)).getD k.toNat 0)) 0+1=za0 (z2f (ts.take i)) ts[i].2.2.1:=by
      unfold za0
      have:=z0ht (f:=fun k=>(z2f (ts.take i)).getD k.toNat 0) (l:=zhx (z2z ts[i].2.2.1)) (m:=z2z ts[i].2.2.1) (fun k=>mem_sset)
      rw[<-this];rfl
     rw[hmx,z02 (by omega)]
     refine⟨by simp only[z11,List.length_cons,List.length_nil];omega,?_⟩
     rw[z07 hi,z9x]at hX
     exact hX
 . intro X
   refine bcN ?_
   simp only[List.take_length])
theorem z00c {d:Int}:z8x d (decide (d > 8)):=z01p _ _ (by unfold zq5;rfl)
theorem z06h {ts:List z06}:zoc ts (zme ts):=z06c _ _ (by
 unfold zx3
 have no:zme ts=false->((false,()):Bool×Unit)=(zme ts,()):=fun h=>by rw[h]
 refine z0h fun _=>z0l (fun h=>no (by unfold zme;rw[decide_eq_false (show ¬ ts.length<=30 by omega)];simp)) (fun hl=>z0h fun _=>?_)
 have tOk:∀ k (h:k<ts.length),z9q ts k=((inR ts[k].1 0 4&&inR ts[k].2.1 0 4&&decide (ts[k].2.2.1.length<=5)&&ts[k].2.2.1.all (zcr k))&&decide (zcm ts ts[k]=k)):=by
  intro k h
  have e:(!(ts.take k).any (fun t=>decide (t=ts[k])))=decide (zcm ts ts[k]=k):=by
   have hf:=z05c (p:=fun t=>decide (t=ts[k])) h (by simp)
   cases hany:(ts.take k).any (fun t=>decide (t=ts[k]))with
   | false=>
     have:=hf.mpr hany
     unfold zcm
     rw[this,if_pos h];simp
   | true=>
     have hne:z03 (fun t=>decide (t=ts[k])) ts≠k:=fun e=>by rw[hf.mp e]at hany;cases hany
     unfold zcm
     split
     . rw[decide_eq_false (by omega)];rfl
     . rw[decide_eq_false (by omega)];rfl
  unfold z9q
  rw[z7k h,e]
 refine zcc ts.length (fun k=>!z9q ts k) (fun k=>((k:Int),())) (KT:=zme ts=false) (KF:=∀ k,k<ts.length->z9q ts k=true) ?_ ?_ ?_ ?_
 . intro i hi X _ q1 q2
   refine bcI hi (inI hi ⟨_,z07q,?_⟩)
   simp only
   rw[z2k hi,z02 (by omega)]
   rw[tOk i hi]at q1 q2
   refine z0t (fun h=>no (q1 (by rw[h];rfl))) (fun h=>⟨_,zu7,z6u (fun h2=>no (q1 (by rw[decide_eq_false h2];simp))) (fun h2=>q2 (by rw[h,decide_eq_true h2];rfl))⟩)
 . intro X hall
   refine bcN ⟨_,z0eb (by omega) (fun k hk=>?_),_,z8q (fun d=>decide (d > 8)) (fun _ _=>z00c),?_⟩
   . have:=hall k hk
     rw[tOk k hk]at this
     simp only[Bool.and_eq_true,decide_eq_true_eq]at this
     exact⟨this.1.2,this.1.1.2⟩
   . have e:(!(z2f ts).any fun d=>decide (d > 8))=(z2f ts).all fun d=>decide (d<=8):=by
      have h1:=z4n (p:=fun d:Int=>decide (d<=8)) (l:=z2f ts)
      have h2:(fun d:Int=>!decide (d<=8))=fun d=>decide (d > 8):=by funext d;by_cases h:d<=8<;>simp[h]<;>omega
      rw[h2]at h1;rw[h1];simp
     rw[e]
     unfold zme
     rw[decide_eq_true (show ts.length<=30 by omega),List.all_eq_true.mpr fun k hk=>hall k (List.mem_range.mp hk)];rfl
 . rintro⟨k,hk,hp⟩
   unfold zme
   have:(List.range ts.length).all (z9q ts)=false:=by
    rw[Bool.eq_false_iff];intro hall
    have:=List.all_eq_true.mp hall k (List.mem_range.mpr hk);rw[nt hp]at this;cases this
   rw[this];simp
 . intro h k hk;exact nf (h k hk))
theorem z43 {s:TSk}:z24 s (vSk s):=zle _ _ (by
 unfold zcs
 refine⟨_,z5c,z1u (fun h1=>z0h fun _=>⟨_,z069 (by have:=zrd h1;omega),z0l (fun h2=>⟨_,z06h,?_⟩) (fun h2=>?_)⟩) (fun h1=>?_)⟩
 . unfold vSk;rw[h1,decide_eq_true h2];rfl
 . unfold vSk;rw[decide_eq_false h2];simp
 . unfold vSk;rw[h1];rfl)
theorem ze4 {d:z0a} (h1:(d.1.flatMap (·.2.1)).length<=1073741824) (h2:(d.2.1.flatMap (·.2.1)).length<=1073741824):z64 d (frV d):=zmq _ _ (by
 unfold zdu
 have hv:=zlw d.2.1
 refine⟨_,zcz h1,_,zcz h2,?_⟩
 refine z1x (vars d.2.1).length (fun i=>((i:Int),(((vars d.2.1).take i).filter (fun v=>decide (v∈vars d.1)),()))) (by simp) ?_ ?_
 . intro i hi X hX
   refine z0h fun _=>bcI hi (inI hi ⟨_,ztl,?_⟩)
   simp only
   rw[z2k hi,z02 (by omega)]
   have e:((vars d.2.1).take (i+1)).filter (fun v=>decide (v∈vars d.1))=((vars d.2.1).take i).filter (fun v=>decide (v∈vars d.1))++(if (vars d.2.1)[i]∈vars d.1 then[(vars d.2.1)[i]] else[]):=by
    rw[z07 hi,List.filter_append]
    by_cases h:(vars d.2.1)[i]∈vars d.1<;>simp[h]
   rw[e]at hX
   have hb:=List.length_filter_le (fun v=>decide (v∈vars d.1)) ((vars d.2.1).take i)
   rw[List.length_take]at hb
   refine z1u (fun h=>inI hi ⟨by simp only[z11,List.length_cons,List.length_nil];omega,?_⟩) (fun h=>?_)
   . have h:(vars d.2.1)[i]∈vars d.1:=by simpa using h
     rw[if_pos h]at hX;exact hX
   . have h:¬ (vars d.2.1)[i]∈vars d.1:=by simpa using h
     rw[if_neg h,List.append_nil]at hX;exact hX
 . intro X
   refine z0h fun _=>bcN ?_
   simp only[List.take_length]
   rfl)
theorem zdt {d:z0a} (h1:(d.1.flatMap (·.2.1)).length<=1073741824) (h2:(d.2.1.flatMap (·.2.1)).length<=1073741824):z60 d (frV d):=zmj _ _ (by
 unfold ze3
 exact⟨_,zjj h1 h2,by rw[z0h8]⟩)
theorem ze7 {α σ:Type} {μ:σ->Nat} {g:σ->α->σ} {c:Nat}:∀ {l:List α} {s:σ},(∀ s,∀ a∈l,μ (g s a)<=μ s+c)->μ (l.foldl g s)<=μ s+l.length * c
 |[],s,_=>by simp
 | a::l,s,h=>by
   have h1:=h s a (by simp)
   have h2:=ze7 (s:=g s a) fun s b (hb:b∈l)=>h s b (by simp[hb])
   rw[List.foldl_cons,List.length_cons,Nat.add_mul];omega
theorem z38 {α σ τ:Type} {B:(τ->Prop)->τ->Prop} (l:List α) (g:σ->α->σ) (s0:σ) (e:Nat->σ->τ) (μ:σ->Nat) (c N:Nat) (hN:l.length<=N) (hg:∀ s,∀ a∈l,μ (g s a)<=μ s+c)
  (hs:∀ i (h:i<l.length) (s:σ) (X:τ->Prop),μ s<=μ s0+N * c->X (e (i+1) (g s l[i]))->B X (e i s))
  (hf:∀ X:τ->Prop,μ (l.foldl g s0)<=μ s0+N * c->B X (e l.length (l.foldl g s0))):z0f B (e 0 s0):=by
 have hb:∀ i,i<=l.length->μ ((l.take i).foldl g s0)<=μ s0+N * c:=fun i hi=>by
  have h1:=ze7 (μ:=μ) (g:=g) (c:=c) (l:=l.take i) (s:=s0) fun s a ha=>hg s a (List.mem_of_mem_take ha)
  rw[List.length_take,Nat.min_eq_left hi]at h1
  have:i * c<=N * c:=Nat.mul_le_mul_right c (by omega)
  omega
 refine zl2 l g s0 e (fun i hi X hX=>hs i hi _ X (hb i (by omega)) hX) (fun X=>hf X ?_)
 have:=hb l.length (Nat.le_refl _)
 rwa [List.take_length]at this
def z0ft (d:z0a):Prop:=(d.1.flatMap (·.2.1)).length<=6/\(d.2.1.flatMap (·.2.1)).length<=6
theorem z0hc {l:List z0p} {d:z0a} (h:zm7 l d=true):z0ft d:=by
 have:=z9l h;exact⟨this.2.2.2.2.2.1,this.2.2.2.2.2.2⟩
theorem z06t {d:z0a} (h:z0ft d):(exV d).length<=6:=Nat.le_trans (List.length_filter_le _ _) (Nat.le_trans (zlw _) h.2)
theorem z013 {d:z0a} (h:z0ft d):(frV d).length<=6:=Nat.le_trans (List.length_filter_le _ _) (Nat.le_trans (zlw _) h.2)
theorem z0a0 {α:Type} {p q:α->Bool}:∀ {l:List α},(∀ x∈l,p x=true->q x=true)->l.countP p<=l.countP q
 |[],_=>by simp
 | a::l,h=>by
   have ih:=z0a0 (l:=l) fun x hx=>h x (by simp[hx])
   have ha:=h a (by simp)
   rw[List.countP_cons,List.countP_cons]
   cases hp:p a with
   |false=>cases q a<;>simp<;>omega
   |true=>rw[ha hp];simp;exact ih
theorem z09w {α:Type} {p q:α->Bool}:∀ {l:List α},(∀ x∈l,p x=true->q x=true)->(∃ x∈l,q x=true/\p x=false)->l.countP p<l.countP q
 |[],_,⟨_,h,_⟩=>by cases h
 | a::l,h,⟨x,hx,hq,hp⟩=>by
   have ih:=z0a0 (l:=l) fun x hx=>h x (by simp[hx])
   rw[List.countP_cons,List.countP_cons]
   rcases List.mem_cons.mp hx with rfl|hx
   . rw[hp,hq];simp;omega
   . have:=z09w (l:=l) (fun x hx=>h x (by simp[hx])) ⟨x,hx,hq,hp⟩
     have ha:=h a (by simp)
     cases hpa:p a with
     |false=>cases q a<;>simp<;>omega
     |true=>rw[ha hpa];simp;exact this
theorem z090 {α:Type} {l:List α} {i j:Nat} {x d:α} (h:i<l.length):(l.set i x).getD j d=if j=i then x else l.getD j d:=by
 by_cases hj:j<l.length
 . rw[z0y (by simpa using hj),z0y hj,List.getElem_set]
   by_cases hij:i=j
   . subst hij;simp
   . rw[if_neg hij,if_neg (Ne.symm hij)]
 . have:j≠i:=by omega
   rw[if_neg this,List.getD_eq_getElem?_getD,List.getD_eq_getElem?_getD,List.getElem?_eq_none (by simpa using hj),List.getElem?_eq_none (by omega)]
theorem z095 {α:Type} {l m:List α} {d:α} (hl:l.length=m.length) (h:∀ i,i<l.length->l.getD i d=m.getD i d):l=m:=by
 refine List.ext_getElem hl fun i h1 h2=>?_
 have:=h i h1
 rwa [z0y h1,z0y h2]at this
def z5h (l:List z0p) (ds:List z0a):Bool:=zqr l ds && !ds.any fun d=>d.2.2.1
theorem zod {l:List z0p} {ds:List z0a}:zfi l ds (z5h l ds):=z06o _ _ _ (by
 unfold zvs
 refine z8t ds (fun d=>d.2.2.1) (fun i=>((i:Int),())) (KT:=ds.any (fun d=>d.2.2.1)=true) (KF:=ds.any (fun d=>d.2.2.1)=false) ?_ ?_ id id
 . intro i hi X h1 h2
   refine z0h fun _=>bcI hi (inI hi ?_)
   simp only
   rw[z2k hi,z02 (by omega)]
   refine z1u (fun h=>?_) (fun h=>h2 h)
   unfold z5h;rw[h1 h];simp
 . intro X h
   refine z0h fun _=>bcN ⟨_,zif,?_⟩
   unfold z5h;rw[h];simp)
theorem z028 {d:z0a}:z92 d d.2.2.1:=z02m _ _ (by unfold zq9;rfl)
theorem zil {l:List z0p} {ds:List z0a}:zbw l ds (z5h l ds):=z06u _ _ _ (by
 unfold zue z5h
 refine⟨_,zio,z1u (fun h=>⟨_,z5t (fun d=>d.2.2.1) (fun _ _=>z028),by rw[h];rfl⟩) (fun h=>by rw[h];rfl)⟩)
def srcF (l:List z0p) (f:z00):Bool:=zog l f&&zai l f.1
theorem zuh {l:List z0p} {f:z00}:zf4 l f (srcF l f):=zw9 _ _ _ (by
 unfold zkq srcF
 refine⟨_,zmz,z1u (fun h=>?_) (fun h=>by rw[h];rfl)⟩
 have:=z26 h
 exact⟨⟨this.2.1,this.2.2.1⟩,by rw[h];rfl⟩)
theorem z2j {l:List Int} (h:l.length<=1099511627776):z1b l l:=zpl _ _ (by
 unfold zg3
 refine z1u (fun he=>⟨?_,by simp only[z11,List.length_nil];omega,by rw[List.nil_append]⟩) (fun _=>⟨by simp only[z11,List.length_nil];omega,by rw[List.nil_append]⟩)
 have:l=[]:=List.isEmpty_iff.mp he
 rw[this])
theorem zi1 {l:List z0p} (h:l.length<=1099511627776):z6w l l:=zj2 _ _ (by
 unfold zan
 refine z1u (fun he=>⟨?_,by simp only[z11,List.length_nil];omega,by rw[List.nil_append]⟩) (fun _=>⟨by simp only[z11,List.length_nil];omega,by rw[List.nil_append]⟩)
 have:l=[]:=List.isEmpty_iff.mp he
 rw[this])
theorem zpm {f:z00} (h:f.2.1.length<=1099511627776):zhw f f:=z0gv _ _ (by
 unfold z04f
 try refine⟨trivial,?_⟩
 exact⟨by simp only[z11,List.length_nil];omega,by rw[List.nil_append]⟩)
theorem z079 {f:z00} (h:f.2.1.length<=1099511627776):zoe f f:=z07f _ _ (by
 unfold zvp
 exact⟨_,z2j h,rfl⟩)
theorem zqc {α τ:Type} {B:(τ->Prop)->τ->Prop} (l:List α) (e:Nat->List α->τ) (hl:l.length<=1073741824)
  (hs:∀ i (h:i<l.length) (s:List α) (X:τ->Prop),s.length<=1073741824->X (e (i+1) (s++[l[i]]))->B X (e i s))
  (hf:∀ X:τ->Prop,B X (e l.length l)):z0f B (e 0 []):=by
 refine z1x l.length (fun i=>e i (l.take i)) (by simp) ?_ ?_
 . intro i hi X hX
   rw[z07 hi]at hX
   exact hs i hi _ X (by rw[List.length_take];omega) hX
 . intro X;rw[List.take_length];exact hf X
theorem zrw {l:List z00} (hl:l.length<=1073741824) (h:∀ f∈l,f.2.1.length<=1099511627776):zg7 l l:=z04g _ _ (by
 unfold zrs
 refine z0h fun _=>zqc l (fun i s=>((i:Int),(s,()))) hl ?_ ?_
 . intro i hi s X hs hX
   refine bcI hi (inI hi ⟨l[i],?_,⟨by simp only[z11,List.length_cons,List.length_nil];omega,?_⟩⟩)
   . simp only;rw[z2k hi];exact z079 (h _ (List.getElem_mem hi))
   . simp only;rw[z02 (by omega)];exact hX
 . intro X;exact bcN rfl)
theorem znx:zbx 1 5 0 5:=zrg _ _ _ _ (by
 unfold zhe
 decide)
abbrev zcx:List Int:=[10,10,10,10,10]
theorem zkw:zab [10] 5 zcx:=znj _ _ _ (by
 unfold zf1
 refine bcF (z0h fun _=>⟨0,5,zui _ _ _ _ ⟨0,5,znx,rfl⟩,bcF (bcF ⟨by decide,by decide,?_⟩)⟩)
 refine z1x 3 (fun i=>match i with
  |0=>((1:Int),(([10,0,0,0,0]:List Int),()))
  |1=>((2:Int),(([10,10,0,0,0]:List Int),()))
  |2=>((4:Int),(([10,10,10,10,0]:List Int),()))
  |_=>((5:Int),(([10,10,10,10,10]:List Int),()))) (by decide) ?_ ?_
 . intro i hi X hX
   rcases i with _|_|_|i
   . exact z0h fun _=>bcT ⟨by decide,by decide,by decide,by rw[show ∀ z,w64 z=IntKind.i64.wrap z from fun _=>rfl];exact hX⟩
   . exact z0h fun _=>bcT ⟨by decide,by decide,by decide,by rw[show ∀ z,w64 z=IntKind.i64.wrap z from fun _=>rfl];exact hX⟩
   . exact z0h fun _=>bcT ⟨by decide,by decide,by decide,by rw[show ∀ z,w64 z=IntKind.i64.wrap z from fun _=>rfl];exact hX⟩
   . omega
 . intro X
   exact z0h fun _=>bcF rfl)
theorem zqy:zbu zcx:=zrm _ (by unfold zhs;exact⟨_,zkw,rfl⟩)
theorem z007:zlv 10:=z0bb _ (by unfold zzm;rfl)
theorem z06d:zoh [10,10,10,10,10]:=z06i _ (by
 unfold zu8
 refine z1x 5 (fun i=>(List.replicate i (10:Int),())) rfl ?_ ?_
 . intro i hi X hX
   refine z0h fun _=>z0l (fun _=>⟨_,z007,by simp only[z11,List.length_replicate,List.length_cons,List.length_nil];omega,?_⟩) (fun h=>by simp only[List.length_replicate]at h;omega)
   rw[List.replicate_succ']at hX;exact hX
 . intro X
   exact z0h fun _=>bcF rfl)
def zmp:List Int->List Int->List Int->List Int×Bool
 |[],_,b=>(b,true)
 | t::ts,v::vs,b=>if t<0 then(if -1 - t=v then zmp ts vs b else(b,false))
   else if b.getD t.toNat 0=10\/b.getD t.toNat 0=v then zmp ts vs (b.set t.toNat v)else(b,false)
 |_::_,[],b=>(b,false)
theorem zwn {t:Int} {ts:List Int} {v:Int} {vs b:List Int}:zmp (t::ts) (v::vs) b=if t<0 then(if -1 - t=v then zmp ts vs b else(b,false))
 else if b.getD t.toNat 0=10\/b.getD t.toNat 0=v then zmp ts vs (b.set t.toNat v)else(b,false):=rfl
theorem zic:∀ {ts vs b:List Int},(zmp ts vs b).1.length=b.length
 |[],vs,b=>by simp[zmp]
 |t::ts,[],b=>by simp[zmp]
 | t::ts,v::vs,b=>by
   unfold zmp
   split
   . split
     . exact zic
     . rfl
   . split
     . rw[zic,List.length_set]
     . rfl
theorem z0io {l:List Int} {i:Nat} {v:Int} (h:i<l.length) (hv:l.getD i 0=v):l.set i v=l:=by
 rw[z0y h]at hv
 subst hv
 exact List.set_getElem_self h
theorem z0ei {a f:z00} {b:List Int} (hl:a.2.1.length<=1000) (hb:b.length<=1000) (ht:∀ t∈a.2.1,-10<=t/\t<b.length) :
  zuq a f b (if a.1=f.1/\a.2.1.length=f.2.1.length then(zmp a.2.1 f.2.1 b).1 else b) (decide (a.1=f.1/\a.2.1.length=f.2.1.length)&&(zmp a.2.1 f.2.1 b).2):=z0f1 _ _ _ _ _ (by
 unfold z054
 refine⟨by simp only[z11,List.length_nil];omega,z6u (fun h=>by rw[if_neg (fun h'=>h h'.1)];simp[h]) (fun h1=>z0h fun _=>z0h fun _=>z6u (fun h=>?_) (fun h2=>?_))⟩
 . have h:¬ a.2.1.length=f.2.1.length:=by omega
   rw[if_neg (fun h'=>h h'.2)];simp[h]
 . have h2:a.2.1.length=f.2.1.length:=by omega
   rw[if_pos ⟨h1,h2⟩,decide_eq_true (And.intro h1 h2),Bool.true_and,List.nil_append]
   refine z1o (fun k s=>∃(i:Nat) (c:List Int),i+k=a.2.1.length/\s=((i:Int),(c,()))/\c.length=b.length/\zmp (a.2.1.drop i) (f.2.1.drop i) c=zmp a.2.1 f.2.1 b) ?_ ?_ (n:=a.2.1.length) ⟨0,b,by omega,rfl,rfl,by simp⟩
   . rintro s ⟨i,c,hi,rfl,hc,hf⟩ X
     obtain rfl:i=a.2.1.length:=by omega
     refine z0h fun _=>bcN ?_
     rw[<-hf];simp[zmp]
   . rintro k s ⟨i,c,hi,rfl,hc,hf⟩ X hX
     have hlt:i<a.2.1.length:=by omega
     have hlt':i<f.2.1.length:=by omega
     rw[z35 hlt,z35 hlt']at hf
     have htr:=ht _ (List.getElem_mem hlt)
     refine z0h fun _=>bcI hlt (inI hlt ?_)
     simp only
     rw[z2k hlt,z2k hlt',z02 (by omega)]
     rw[zwn]at hf
     refine z0l (fun h3=>inI hlt' ?_) (fun h3=>?_)
     . rw[if_pos h3]at hf
       rw[z1w (by omega) (by omega)]
       refine z6u (fun h4=>?_) (fun h4=>?_)
       . rw[if_neg h4]at hf;rw[<-hf]
       . rw[if_pos h4]at hf;exact hX _ ⟨i+1,c,by omega,rfl,hc,hf⟩
     . rw[if_neg h3]at hf
       have hin:a.2.1[i].toNat<c.length:=by omega
       refine⟨⟨by omega,by omega⟩,_,z007,z6u (fun h4=>⟨⟨by omega,by omega⟩,inI hlt' (z6u (fun h5=>?_) (fun h5=>inI hlt' ⟨⟨by omega,by omega⟩,?_⟩))⟩) (fun h4=>inI hlt' ⟨⟨by omega,by omega⟩,?_⟩)⟩
       . rw[if_neg (by rintro (h|h);exact h4 h;exact h5 h)]at hf;rw[<-hf]
       . rw[if_pos (.inr h5)]at hf;exact hX _ ⟨i+1,_,by omega,rfl,by rw[List.length_set];exact hc,hf⟩
       . rw[if_pos (.inl h4)]at hf;exact hX _ ⟨i+1,_,by omega,rfl,by rw[List.length_set];exact hc,hf⟩)
theorem z0li {a f:z00} {b:List Int} (hl:a.2.1.length<=1000) (hb:b.length<=1000) (ht:∀ t∈a.2.1,-10<=t/\t<b.length) (hr:a.1=f.1->a.2.1.length=f.2.1.length) :
  z061 b a f (if a.1=f.1/\(zmp a.2.1 f.2.1 b).2 then(zmp a.2.1 f.2.1 b).1 else[]) (decide (a.1=f.1)&&(zmp a.2.1 f.2.1 b).2):=z0kt _ _ _ _ _ (by
 unfold z0g5
 refine z6u (fun h=>by rw[if_neg (fun h'=>h h'.1)];simp[h]) (fun h1=>⟨_,z2j (by omega),z0h fun _=>?_⟩)
 have h2:=hr h1
 rw[decide_eq_true h1,Bool.true_and]
 refine z1o (fun k s=>∃(i:Nat) (c:List Int),i+k=a.2.1.length/\s=((i:Int),(c,()))/\c.length=b.length/\zmp (a.2.1.drop i) (f.2.1.drop i) c=zmp a.2.1 f.2.1 b) ?_ ?_ (n:=a.2.1.length) ⟨0,b,by omega,rfl,rfl,by simp⟩
 . rintro s ⟨i,c,hi,rfl,hc,hf⟩ X
   obtain rfl:i=a.2.1.length:=by omega
   refine bcN ?_
   rw[<-hf];simp[zmp,h1]
 . rintro k s ⟨i,c,hi,rfl,hc,hf⟩ X hX
   have hlt:i<a.2.1.length:=by omega
   have hlt':i<f.2.1.length:=by omega
   rw[z35 hlt,z35 hlt']at hf
   have htr:=ht _ (List.getElem_mem hlt)
   refine bcI hlt (inI hlt (inI hlt' ?_))
   simp only
   rw[z2k hlt,z2k hlt',z02 (by omega)]
   rw[zwn]at hf
   refine z0l (fun h3=>?_) (fun h3=>?_)
   . rw[if_pos h3]at hf
     rw[z1w (by omega) (by omega)]
     refine z6u (fun h4=>?_) (fun h4=>?_)
     . rw[if_neg (fun h=>h4 h.symm)]at hf;rw[<-hf];simp
     . rw[if_pos h4.symm]at hf;exact hX _ ⟨i+1,c,by omega,rfl,hc,hf⟩
   . rw[if_neg h3]at hf
     have hin:a.2.1[i].toNat<c.length:=by omega
     refine⟨⟨by omega,by omega⟩,z3e (fun h4=>⟨⟨by omega,by omega⟩,?_⟩) (fun h4=>⟨⟨by omega,by omega⟩,z6u (fun h5=>?_) (fun h5=>?_)⟩)⟩
     . rw[if_pos (.inl h4)]at hf;exact hX _ ⟨i+1,_,by omega,rfl,by rw[List.length_set];exact hc,hf⟩
     . rw[if_neg (by rintro (h|h);exact h4 h;exact h5 h)]at hf;rw[<-hf];simp
     . rw[if_pos (.inr h5),z0io hin h5]at hf;exact hX _ ⟨i+1,c,by omega,rfl,hc,hf⟩)
def zri (fs:List z00) (w:List Int->List (List Int)) (a:z00) (b:List Int) (out:List (List Int)) (f:z00):List (List Int):=if a.1=f.1/\(zmp a.2.1 f.2.1 b).2=true then out++w (zmp a.2.1 f.2.1 b).1 else out
def zje (fs:List z00):List z00->List Int->List (List Int)
 |[],b=>[b]
 |a::ats,b=>fs.foldl (zri fs (zje fs ats) a b) []
structure WOk (fs ats:List z00):Prop where
 few:fs.length<=30
 row:∀ a∈ats,a.2.1.length<=3/\∀ t∈a.2.1,-10<=t/\t<5
 fit:∀ a∈ats,∀ f∈fs,a.1=f.1->a.2.1.length=f.2.1.length
theorem WOk.tail {fs ats:List z00} {a:z00} (h:WOk fs (a::ats)):WOk fs ats:=⟨h.few,fun x hx=>h.row x (by simp[hx]),fun x hx=>h.fit x (by simp[hx])⟩
theorem zww {fs ats:List z00} {a:z00} {b:List Int} {n:Nat} (hw:∀ c,(zje fs ats c).length<=n) (out:List (List Int)) (f:z00):(zri fs (zje fs ats) a b out f).length<=out.length+n:=by
 unfold zri
 split
 . rw[List.length_append];have:=hw (zmp a.2.1 f.2.1 b).1;omega
 . omega
theorem zgh {fs:List z00} (h:fs.length<=30):∀ {ats:List z00} {b:List Int},(zje fs ats b).length<=30 ^ ats.length
 |[],b=>by simp[zje]
 | a::ats,b=>by
   have:=ze7 (l:=fs) (g:=zri fs (zje fs ats) a b) (s:=[]) (μ:=List.length) (c:=30 ^ ats.length) fun s f _=>zww (fun c=>zgh h) s f
   simp only[List.length_nil,Nat.zero_add]at this
   rw[List.length_cons,Nat.pow_succ,Nat.mul_comm]
   exact Nat.le_trans this (Nat.mul_le_mul_right _ h)
theorem z0ir {fs ats:List z00} {b c:List Int} (h:c∈zje fs ats b):c.length=b.length:=by
 induction ats generalizing b c with
 |nil=>simp[zje]at h;rw[h]
 | cons a ats ih=>
   have:∀(l:List z00) (out:List (List Int)),(∀ c∈out,c.length=b.length)->∀ c∈l.foldl (zri fs (zje fs ats) a b) out,c.length=b.length:=by
    intro l
    induction l with
    |nil=>intro out ho;exact ho
    | cons f l ihl=>
      intro out ho
      rw[List.foldl_cons]
      refine ihl _ fun c hc=>?_
      unfold zri at hc
      split at hc
      . rcases List.mem_append.mp hc with hc|hc
        . exact ho c hc
        . rw[ih hc,zic]
      . exact ho c hc
   exact this fs [] (by simp) c h
def mOk (x:z09) (l:List z00):Bool:=l.all (z80 x.1)&&(z3n x&&decide (l.length<=3))
theorem zxf {x:z09} {l:List z00} (h:mOk x l=true):WOk x.2.1 l/\l.length<=3:=by
 unfold mOk at h
 simp only[Bool.and_eq_true,decide_eq_true_eq]at h
 obtain⟨h1,h2,h3⟩:=h
 refine⟨⟨z3l h2,fun a ha=>?_,fun a ha f hf he=>?_⟩,h3⟩
 . have:=z26 (List.all_eq_true.mp h1 a ha)
   exact⟨this.2.2.2.2.1,fun t ht=>by have:=inR_iff.mp (this.2.2.2.2.2 t ht);omega⟩
 . have e1:=z26 (List.all_eq_true.mp h1 a ha)
   have e2:=z26 (z3c h2 hf)
   have:=e1.2.2.2.1
   have:=e2.2.2.2.1
   rw[he]at *
   omega
def dedG (out:List (List Int)) (b:List Int):List (List Int):=if b∈out then out else out++[b]
def zah (x:z09) (l:List z00):List (List Int):=if mOk x l then(zje x.2.1 l zcx).foldl dedG [] else[]
theorem z02r (out:List (List Int)) (b:List Int):(dedG out b).length<=out.length+1:=by unfold dedG;split<;>simp
theorem z01r:∀ {l:List (List Int)} {out:List (List Int)} {b:List Int},b∈l.foldl dedG out->b∈out\/b∈l
 |[],out,b,h=>.inl h
 | c::l,out,b,h=>by
   rw[List.foldl_cons]at h
   rcases z01r h with h|h
   . unfold dedG at h
     split at h
     . exact .inl h
     . rcases List.mem_append.mp h with h|h
       . exact .inl h
       . simp at h;exact .inr (by simp[h])
   . exact .inr (by simp[h])
theorem zlu {x:z09} {l:List z00} {b:List Int} (h:b∈zah x l):b.length=5:=by
 unfold zah at h
 split at h
 . rcases z01r h with h|h
   . simp at h
   . rw[z0ir h];rfl
 . simp at h
theorem z06l {n:Nat} (h:n<=3):30 ^ n<=27000:=Nat.le_trans (Nat.pow_le_pow_right (by omega) h) (by decide)
theorem zjw {x:z09} {l:List z00}:(zah x l).length<=27000:=by
 unfold zah
 split
 . rename_i h
   have:=ze7 (l:=zje x.2.1 l zcx) (g:=dedG) (s:=[]) (μ:=List.length) (c:=1) fun s f _=>z02r s f
   have h2:=zgh (zxf h).1.few (ats:=l) (b:=zcx)
   have:=z06l (zxf h).2
   simp at *
   omega
 . exact Nat.zero_le _
theorem z0jk {x:z09} {l:List z00}:z00z x l (mOk x l):=z0jm _ _ _ (by
 unfold z09z
 refine z8t l (fun a=>!z80 x.1 a) (fun i=>((i:Int),())) (KT:=((false,()):Bool×Unit)=(mOk x l,())) (KF:=l.any (fun a=>!z80 x.1 a)=false) ?_ ?_ ?_ (fun h=>h)
 . intro i hi X h1 h2
   refine z0h fun _=>bcI hi (inI hi ⟨_,zgu,?_⟩)
   simp only
   rw[z2k hi,z02 (by omega)]
   exact z1u h1 h2
 . intro X h
   refine z0h fun _=>bcN ⟨_,z7v,?_⟩
   rw[z4n]at h
   refine z1u (fun h1=>z0h fun _=>?_) (fun h1=>?_)
   . unfold mOk;rw[nf h,h1];simp;omega
   . unfold mOk;rw[h1];simp
 . intro h
   rw[z4n]at h
   unfold mOk;rw[nt h];rfl)
theorem zum {x:z09} {l:List z00}:zes x l (mOk x l):=ztx _ _ _ (by
 unfold zkv
 refine⟨_,z5c,z1u (fun h1=>z0h fun _=>z3e (fun h2=>?_) (fun h2=>⟨_,zo3,?_⟩)) (fun h1=>by unfold mOk;rw[h1];simp)⟩
 . have:l=[]:=List.eq_nil_of_length_eq_zero (by omega)
   unfold mOk;rw[this,h1];rfl
 . have:mOk x l=(inR l.length 1 3&&l.all (z80 x.1)):=by
    unfold mOk
    rw[h1,Bool.true_and,Bool.and_comm]
    congr 1
    have h0:1<=l.length:=by omega
    unfold inR
    rw[decide_eq_true (show(1:Int)<=(l.length:Int) by omega),Bool.true_and]
    exact decide_eq_decide.mpr (by omega)
   rw[this])
theorem zzu {x:z09} {l:List z00} (h:WOk x.2.1 l) (hl:l.length<=3):∀(k n:Nat) (b:List Int),n+k=l.length->b.length=5->zm9 x l n b (zje x.2.1 (l.drop n) b)
 | 0,n,b,hn,hb=>zzg _ _ _ _ _ (by
   unfold zr2
   obtain rfl:n=l.length:=by omega
   refine z0h fun _=>z3e (fun _=>⟨by simp only[z11,List.length_nil];omega,by rw[List.drop_length];rfl⟩) (fun h=>absurd rfl h))
 | k+1,n,b,hn,hb=>zzg _ _ _ _ _ (by
   unfold zr2
   have hlt:n<l.length:=by omega
   refine z0h fun _=>z3e (fun h=>by omega) (fun _=>?_)
   rw[z35 hlt]
   have hrow:=h.row _ (List.getElem_mem hlt)
   refine z38 x.2.1 (zri x.2.1 (zje x.2.1 (l.drop (n+1))) l[n] b) [] (fun i s=>((i:Int),(s,()))) List.length 27000 30 h.few (fun s f _=>zww (fun c=>Nat.le_trans (zgh h.few) (z06l (by rw[List.length_drop];omega))) s f) ?_ ?_
   . intro i hi s X hs hX
     have hfew:=h.few
     refine z0h fun _=>bcI hi (inI hlt (inI hi ⟨_,_,z0ei (a:=l.getD (Int.toNat (n:Int)) z0i) (f:=x.2.1.getD (Int.toNat (i:Int)) z0i) (b:=b) ?_ (by omega) ?_,?_⟩))
     . rw[z2k hlt];omega
     . rw[z2k hlt];intro t ht;have:=hrow.2 t ht;omega
     . simp only
       rw[z2k hlt,z2k hi,z02 (by omega),z02 (by omega)]
       have hfit:=h.fit _ (List.getElem_mem hlt) _ (List.getElem_mem hi)
       unfold zri at hX
       by_cases hc:l[n].1=x.2.1[i].1
       . rw[if_pos ⟨hc,hfit hc⟩,decide_eq_true (And.intro hc (hfit hc)),Bool.true_and]
         refine z1u (fun h4=>⟨_,zzu h hl k (n+1) _ (by omega) (by rw[zic];exact hb),?_,?_⟩) (fun h4=>?_)
         . have h5:(zje x.2.1 (l.drop (n+1)) (zmp l[n].2.1 x.2.1[i].2.1 b).1).length<=27000:=Nat.le_trans (zgh h.few) (z06l (by rw[List.length_drop];omega))
           simp only[z11,List.length_nil]at *
           omega
         . rw[if_pos ⟨hc,h4⟩]at hX;exact hX
         . rw[if_neg (by rintro⟨_,h5⟩;rw[h4]at h5;cases h5)]at hX;exact hX
       . rw[if_neg (fun h=>hc h.1),decide_eq_false (fun h=>hc h.1),Bool.false_and]
         rw[if_neg (fun h=>hc h.1)]at hX
         exact bcF hX
   . intro X _
     exact z0h fun _=>bcN rfl)
theorem zzh {fs:List z00}:∀ {l:List z00} (b:List Int),WOk fs l->l.length<=3->b.length=5->zmb fs l b (zje fs l b)
 |[],b,h,hl,hb=>zze _ _ _ _ (by unfold zqw;exact z0h fun _=>bcT rfl)
 | a::l,b,h,hl,hb=>zze _ _ _ _ (by
   unfold zqw
   have hrow:=h.row a (by simp)
   refine z0h fun _=>z3e (fun h=>by simp at h;omega) (fun _=>z0h fun _=>?_)
   have hd:List.drop (Int.toNat (1:Int)) (List.take (Int.toNat ((a::l).length:Int)) (a::l))=l:=by rw[Int.toNat_natCast,List.take_length];rfl
   rw[hd]
   refine z38 fs (zri fs (zje fs l) a b) [] (fun i s=>((i:Int),(s,()))) List.length 27000 30 h.few (fun s f _=>zww (fun c=>Nat.le_trans (zgh h.few) (z06l (by simp at hl;omega))) s f) ?_ ?_
   . intro i hi s X hs hX
     have hfew:=h.few
     refine bcI hi (inI hi ⟨⟨by omega,by simp only[List.length_cons];omega⟩,_,_,z0li (a:=a) (f:=fs.getD (Int.toNat (i:Int)) z0i) (b:=b) (by omega) (by omega) (fun t ht=>by have:=hrow.2 t ht;omega) ?_,?_⟩)
     . rw[z2k hi];exact h.fit a (by simp) _ (List.getElem_mem hi)
     . simp only
       rw[z2k hi,z02 (by omega)]
       unfold zri at hX
       by_cases hc:a.1=fs[i].1
       . rw[decide_eq_true hc,Bool.true_and]
         refine z1u (fun h4=>⟨⟨by omega,by simp;omega,by omega⟩,_,zzh _ h.tail (by simp at hl;omega) (by rw[if_pos ⟨hc,h4⟩,zic];exact hb),?_,?_⟩) (fun h4=>?_)
         . have h5:∀ c,(zje fs l c).length<=27000:=fun c=>Nat.le_trans (zgh h.few) (z06l (by simp at hl;omega))
           have:=h5 (if a.1=fs[i].1/\(zmp a.2.1 fs[i].2.1 b).2=true then(zmp a.2.1 fs[i].2.1 b).1 else[])
           simp only[z11,List.length_nil]at *
           omega
         . rw[if_pos ⟨hc,h4⟩]at hX ⊢;exact hX
         . rw[if_neg (by rintro⟨_,h5⟩;rw[h4]at h5;cases h5)]at hX;exact hX
       . rw[decide_eq_false hc,Bool.false_and]
         rw[if_neg (fun h=>hc h.1)]at hX
         exact bcF hX
   . intro X _
     exact bcN rfl)
theorem z02f {l:List (List Int)} {b:List Int}:zi5 l b (decide (b∈l)):=z01j _ _ _ (by
 unfold zpb
 refine⟨_,z7c (fun t=>decide (t=b)) (fun t _=>zw1 _ _ _ ⟨_,zga,rfl⟩),?_⟩
 have:(l.any fun t=>decide (t=b))=decide (b∈l):=by
  rw[<-zv8]
  congr 1;funext t
  by_cases h:t=b
  . simp[h]
  . have:¬ b=t:=fun e=>h e.symm
    simp[h,this]
 rw[this])
def mkd {α:Type} (w:List α) (i:Nat):List (Bool×α):=(w.take i).map (fun y=>(false,y))++(w.drop i).map (fun y=>(true,y))
theorem z0f6 {α:Type} {w:List α} {i:Nat}:(mkd w i).length=w.length:=by
 unfold mkd
 rw[List.length_append,List.length_map,List.length_map,<-List.length_append,List.take_append_drop]
theorem z0el {α:Type} {w:List α} {i:Nat} (h:i<w.length) {d:Bool×α}:List.getD (mkd w i) i d=(true,w[i]):=by
 have hl:((w.take i).map (fun y=>(false,y))).length=i:=by simp;omega
 unfold mkd
 rw[List.getD_eq_getElem?_getD,List.getElem?_append_right (by omega),hl,Nat.sub_self,List.getElem?_map,List.getElem?_drop,Nat.add_zero,List.getElem?_eq_getElem h]
 rfl
theorem z0ew {α:Type} {w:List α} {i:Nat} (h:i<w.length):List.set (mkd w i) i (false,w[i])=mkd w (i+1):=by
 have hl:((w.take i).map (fun y=>(false,y))).length=i:=by simp;omega
 unfold mkd
 rw[List.set_append,hl,if_neg (by omega),Nat.sub_self,List.drop_eq_getElem_cons h,List.map_cons,List.set_cons_zero,z07 h,List.map_append,List.append_assoc]
 rfl
theorem znb {x:z09} {l:List z00}:zca x l (zah x l):=zy9 _ _ _ (by
 unfold zmx
 refine⟨_,zum,z0t (fun h=>by unfold zah;rw[h];rfl) (fun h=>?_)⟩
 obtain⟨hw,hl⟩:=zxf h
 refine⟨_,zqy,_,zzh zcx hw hl rfl,z0h fun _=>?_⟩
 have hlen:(zje x.2.1 l zcx).length<=27000:=Nat.le_trans (zgh hw.few) (z06l hl)
 unfold zah
 rw[h,if_pos rfl]
 rw[show List.map (fun y=>(true,y)) (zje x.2.1 l zcx)=mkd (zje x.2.1 l zcx) 0 from rfl]
 refine z38 (zje x.2.1 l zcx) dedG [] (fun i s=>((i:Int),(s,(mkd (zje x.2.1 l zcx) i,())))) List.length 1 27000 hlen (fun s f _=>z02r s f) ?_ ?_
 . intro i hi s X hs hX
   refine bcI hi (inI (by rw[z0f6];exact hi) ?_)
   simp only[Int.toNat_natCast]
   rw[z0el hi]
   refine⟨rfl,_,z02f,?_⟩
   simp only
   rw[z0ew hi,z02 (by omega)]
   unfold dedG at hX
   refine zed (fun h4=>⟨by simp only[z11,List.length_nil,List.length_cons]at *;omega,?_⟩) (fun h4=>?_)
   . rw[if_neg h4]at hX;exact hX
   . rw[if_pos h4]at hX;exact hX
 . intro X _
   exact bcN rfl)
theorem zmy {x:z09} {l:List z00}:zc6 x l (zah x l):=zy3 _ _ _ (by
 unfold zn3
 refine⟨_,z0jk,z0t (fun h=>by unfold zah;rw[h];rfl) (fun h=>?_)⟩
 obtain⟨hw,hl⟩:=zxf h
 refine⟨_,z06d,_,zzu hw hl l.length 0 zcx (by omega) rfl,?_⟩
 rw[List.drop_zero]
 have hlen:(zje x.2.1 l zcx).length<=27000:=Nat.le_trans (zgh hw.few) (z06l hl)
 unfold zah
 rw[h,if_pos rfl]
 refine z38 (zje x.2.1 l zcx) dedG [] (fun i s=>((i:Int),(s,(zje x.2.1 l zcx,())))) List.length 1 27000 hlen (fun s f _=>z02r s f) ?_ ?_
 . intro i hi s X hs hX
   refine z0h fun _=>bcI hi ?_
   simp only
   rw[z02 (by omega)]
   refine zl2 s (fun(m:Bool) c=>m||decide (c=(zje x.2.1 l zcx)[i])) false (fun j m=>(m,((j:Int),()))) ?_ ?_
   . intro j hj Y hY
     refine z0h fun _=>bcI hj ?_
     simp only
     rw[z02 (by simp at hs;omega)]
     generalize (s.take j).foldl (fun(m:Bool) c=>m||decide (c=(zje x.2.1 l zcx)[i])) false=m at hY ⊢
     cases m with
     |true=>exact bcT hY
     | false=>
       refine bcF (inI hj (inI hi ⟨_,zpz,?_⟩))
       rw[z2k hj,z2k hi]
       have:(zm3 s[j] (zje x.2.1 l zcx)[i] == (0:Int))=decide (s[j]=(zje x.2.1 l zcx)[i]):=by
        by_cases he:s[j]=(zje x.2.1 l zcx)[i]
        . rw[cmpL_zero.mpr he];simp[he]
        . have:zm3 s[j] (zje x.2.1 l zcx)[i]≠0:=fun e=>he (cmpL_zero.mp e)
          simp[he,this]
       rw[this];simpa using hY
   . intro Y
     refine z0h fun _=>bcN ?_
     simp only
     have hm:∀(s:List (List Int)) (m:Bool),s.foldl (fun(m:Bool) c=>m||decide (c=(zje x.2.1 l zcx)[i])) m=(m||decide ((zje x.2.1 l zcx)[i]∈s)):=by
      intro s
      induction s with
      |nil=>intro m;simp
      | cons c s ih=>
        intro m
        rw[List.foldl_cons,ih,Bool.or_assoc]
        congr 1
        by_cases he:c=(zje x.2.1 l zcx)[i]
        . simp[he]
        . have:¬ (zje x.2.1 l zcx)[i]=c:=fun e=>he e.symm
          simp[he,this]
     rw[hm,Bool.false_or]
     unfold dedG at hX
     refine zed (fun h4=>inI hi ⟨by simp only[z11,List.length_nil,List.length_cons]at *;omega,?_⟩) (fun h4=>?_)
     . rw[z2k hi];rw[if_neg h4]at hX;exact hX
     . rw[if_pos h4]at hX;exact hX
 . intro X _
   exact z0h fun _=>bcN rfl)
def z0br (b:List Int) (t:Int):Option Int:=if 0<=t then(if (b.length:Int)<=t then none else if zr9 (b.getD t.toNat 0)then some (b.getD t.toNat 0)else none)else(if zr9 (-1 - t)then some (-1 - t)else none)
def zjo (b:List Int) (s:List Int) (t:Int):Unit ⊕ List Int:=match z0br b t with
 |none=>.inl ()
 |some v=>.inr (s++[v])
def inst (a:z00) (b:List Int):z00:=match zea (zjo b) a.2.1 []with
 |.inl _=>z0i
 |.inr s=>(a.1,(s,()))
def zbm (a:z00) (b:List Int):Bool:=match zea (zjo b) a.2.1 []with
 |.inl _=>false
 |.inr _=>true
theorem zp6 {b:List Int}:∀ {l:List Int} {s s':List Int},zea (zjo b) l s = .inr s'->s'.length=s.length+l.length
 |[],s,s',h=>by simp only[zea,Sum.inr.injEq]at h;subst h;simp
 | t::l,s,s',h=>by
   simp only[zea]at h
   unfold zjo at h
   cases e:z0br b t with
   |none=>rw[e]at h;simp at h
   | some v=>
     rw[e]at h
     have:=zp6 (b:=b) (l:=l) h
     simp at this ⊢
     omega
theorem z0j0 {a:z00} {b:List Int}:(inst a b).2.1.length<=a.2.1.length:=by
 unfold inst
 cases e:zea (zjo b) a.2.1 []with
 |inl _=>simp
 |inr s=>have:=zp6 e;simp at this ⊢;omega
theorem z0e8 {a:z00} {b:List Int} {r:Unit} (h:zea (zjo b) a.2.1 [] = .inl r):((z0i,(false,())):z00×Bool×Unit)=(inst a b,(zbm a b,())):=by unfold inst zbm;rw[h]
theorem z08v {a:z00} {b s:List Int} (h:zea (zjo b) a.2.1 [] = .inr s):(((a.1,(s,())),(true,())):z00×Bool×Unit)=(inst a b,(zbm a b,())):=by unfold inst zbm;rw[h]
theorem zc2 {a:z00} {b:List Int} (hl:a.2.1.length<=1000) (hb:b.length<=1000) (ht:∀ t∈a.2.1,-10<=t/\t<5):z7m a b (inst a b) (zbm a b):=zxq _ _ _ _ (by
 unfold zmv
 refine z0h fun _=>zgd a.2.1 (zjo b) [] (fun i s=>((i:Int),(z0i,((a.1,(s,())),())))) (KR:=fun _=>((z0i,(false,())):z00×Bool×Unit)=(inst a b,(zbm a b,()))) ?_ ?_ (fun r hr=>z0e8 hr)
 . intro i hi s X hr h1 h2
   have hs:=zp6 hr
   have htr:=ht _ (List.getElem_mem hi)
   refine bcI hi (inI hi ?_)
   simp only
   rw[z2k hi,z02 (by omega)]
   unfold zjo z0br at h1 h2
   rw[List.length_take,List.length_nil]at hs
   refine z0l (fun h3=>z0h fun _=>z0l (fun h4=>?_) (fun h4=>⟨⟨by omega,by omega⟩,_,zar,z0t (fun h5=>?_) (fun h5=>⟨by simp only[z11,List.length_cons,List.length_nil];omega,?_⟩)⟩)) (fun h3=>⟨_,zar,?_⟩)
   . exact h1 () (by rw[if_pos (by omega),if_pos (by omega)])
   . exact h1 () (by rw[if_pos (by omega),if_neg (by omega),h5];rfl)
   . exact h2 _ (by rw[if_pos (by omega),if_neg (by omega),h5];rfl)
   . rw[z1w (by omega) (by omega)]
     refine z0t (fun h5=>?_) (fun h5=>⟨by simp only[z11,List.length_cons,List.length_nil];omega,?_⟩)
     . exact h1 () (by rw[if_neg (by omega),h5];rfl)
     . exact h2 _ (by rw[if_neg (by omega),h5];rfl)
 . intro s X hr
   exact bcN (z08v hr))
theorem zgs {a:z00} {b:List Int} (hl:a.2.1.length<=1000) (hb:b.length<=1000) (ht:∀ t∈a.2.1,-10<=t/\t<5):z9y a b (inst a b) (zbm a b):=zy4 _ _ _ _ (by
 unfold zn7
 refine zgd a.2.1 (zjo b) [] (fun i s=>((i:Int),(z0i,((a.1,(s,())),())))) (KR:=fun _=>((z0i,(false,())):z00×Bool×Unit)=(inst a b,(zbm a b,()))) ?_ ?_ (fun r hr=>z0e8 hr)
 . intro i hi s X hr h1 h2
   have hs:=zp6 hr
   have htr:=ht _ (List.getElem_mem hi)
   refine z0h fun _=>bcI hi (inI hi (inI hi ?_))
   simp only
   rw[z2k hi,z02 (by omega)]
   unfold zjo z0br at h1 h2
   rw[List.length_take,List.length_nil]at hs
   refine z0l (fun h3=>inI hi (z0h fun _=>z0l (fun h4=>?_) (fun h4=>inI hi ⟨⟨by omega,by omega⟩,_,zbf,z0t (fun h5=>?_) (fun h5=>inI hi (z0l (fun h6=>by omega) (fun h6=>⟨by simp only[z11,List.length_cons,List.length_nil];omega,?_⟩)))⟩))) (fun h3=>⟨_,zbf,?_⟩)
   . exact h1 () (by rw[if_pos (by omega),if_pos (by omega)])
   . exact h1 () (by rw[if_pos (by omega),if_neg (by omega),h5];rfl)
   . exact h2 _ (by rw[if_pos (by omega),if_neg (by omega),h5];rfl)
   . rw[z1w (by omega) (by omega)]
     refine z0t (fun h5=>?_) (fun h5=>inI hi (z0l (fun _=>z0l (fun h6=>by omega) (fun _=>⟨by simp only[z11,List.length_cons,List.length_nil];omega,?_⟩)) (fun h6=>by omega)))
     . exact h1 () (by rw[if_neg (by omega),h5];rfl)
     . exact h2 _ (by rw[if_neg (by omega),h5];rfl)
 . intro s X hr
   exact z0h fun _=>bcN (z08v hr))
theorem zgi {k:Int} (h0:0<=k) (h1:k<=1000000):zaf k (-1 - k):=z040 _ _ (by unfold zru;rw[z1w (by omega) (by omega)])
theorem zjt {k:Int} (h0:0<=k) (h1:k<=1000000):zcy k (-1 - k):=z038 _ _ (by unfold zrq;rw[z1w (by omega) (by omega)])
theorem zfs {α:Type} [BEq α] [LawfulBEq α] [DecidableEq α] {l:List α} {b:α}:(l.any fun t=>decide (t=b))=decide (b∈l):=by
 rw[<-zv8]
 congr 1;funext t
 by_cases h:t=b
 . simp[h]
 . have:¬ b=t:=fun e=>h e.symm
   simp[h,this]
theorem zlp {l:List z00} {f:z00}:zek l f (decide (f∈l)):=z0ce _ _ _ (by
 unfold zz9
 refine⟨_,z8a (fun t=>decide (t=f)) (fun t _=>z03v _ _ _ ⟨_,zim,rfl⟩),?_⟩
 rw[zfs])
def place (l:List z00) (f:z00):Int:=if z03 (fun x=>decide (x=f)) l<l.length then(z03 (fun x=>decide (x=f)) l:Int)else -1
theorem z09o {l:List z00} {f:z00}:decide (place l f>=0)=decide (f∈l):=by
 have:=zhf (fun x=>decide (x=f)) l
 rw[zfs]at this
 exact this
theorem z02s {l:List z00} {f:z00} (h:f∈l):∃ p:Nat,place l f=p/\∃ hp:p<l.length,l[p]=f:=by
 have h1:z03 (fun x=>decide (x=f)) l<l.length:=firstAt_any.mpr (by rw[zfs];simpa using h)
 refine⟨_,by unfold place;rw[if_pos h1],h1,?_⟩
 simpa using z8u h1
theorem z0f0 {l:List z00} {f:z00} (h:f∉l):place l f = -1:=by
 unfold place
 rw[if_neg]
 intro h1
 have:=firstAt_any.mp h1
 rw[zfs]at this
 exact h (by simpa using this)
theorem z01b {x f:z00}:(z9a x f == (0:Int))=decide (x=f):=by
 by_cases h:x=f
 . rw[cmpF_zero.mpr h];simp[h]
 . have:z9a x f≠0:=fun e=>h (cmpF_zero.mp e)
   simp[h,this]
theorem zls {x:z09} {f:z00}:zem x f (place x.2.1 f):=z0ba _ _ _ (by
 unfold zzn
 refine zep x.2.1 (fun t=>decide (t=f)) (fun i=>((i:Int),())) (KT:=fun i=>(((i:Int),()):Int×Unit)=(place x.2.1 f,())) (KF:=(((-1:Int),()):Int×Unit)=(place x.2.1 f,())) ?_ ?_ ?_ ?_
 . intro i hi X h1 h2
   refine z0h fun _=>bcI hi (inI hi ⟨_,zav,?_⟩)
   simp only
   rw[z2k hi,z01b,z02 (by omega)]
   exact z1u h1 h2
 . intro X h;exact z0h fun _=>bcN h
 . intro h;unfold place;rw[if_pos h]
 . intro h;unfold place;rw[if_neg (by omega)])
theorem zbc {x:z09} {f:z00}:z82 x f (z3n x&&decide (f∈x.2.1)):=zwd _ _ _ (by
 unfold zlm
 refine⟨_,z7v,z1u (fun h=>⟨_,zls,?_⟩) (fun h=>by rw[h];rfl)⟩
 rw[z09o,h,Bool.true_and])
theorem zz2:∀ {x y z:List Int},zm3 x y<0->zm3 y z<0->zm3 x z<0
 |[],[],z,h,_=>by simp[zm3]at h
 |[],b::y,[],_,h=>by simp[zm3]at h
 |[],b::y,c::z,_,_=>by simp[zm3]
 |a::x,[],z,h,_=>by simp[zm3]at h
 |a::x,b::y,[],_,h=>by simp[zm3]at h
 | a::x,b::y,c::z,h1,h2=>by
   simp only[zm3]at h1 h2 ⊢
   have ih:=zz2 (x:=x) (y:=y) (z:=z)
   split at h1
   . split at h2
     . rw[if_pos (by omega)];omega
     . split at h2
       . omega
       . rw[if_pos (by omega)];omega
   . split at h1
     . omega
     . split at h2
       . rw[if_pos (by omega)];omega
       . split at h2
         . omega
         . rw[if_neg (by omega),if_neg (by omega)];exact ih h1 h2
theorem zc0 {x y z:z00} (h1:z9a x y<0) (h2:z9a y z<0):z9a x z<0:=by
 unfold z9a at *
 split at h1
 . split at h2
   . rw[if_pos (by omega)];omega
   . split at h2
     . omega
     . rw[if_pos (by omega)];omega
 . split at h1
   . omega
   . split at h2
     . rw[if_pos (by omega)];omega
     . split at h2
       . omega
       . rw[if_neg (by omega),if_neg (by omega)];exact zz2 h1 h2
def asc (l:List z00):Prop:=∀ i j (hj:j<l.length) (hij:i<j),z9a (l[i]'(by omega)) l[j]<0
theorem zpr {x:z09} (h:z3n x=true):asc x.2.1:=by
 have step:∀ i (hi:i+1<x.2.1.length),z9a (x.2.1[i]'(by omega)) x.2.1[i+1]<0:=by
  intro i hi
  unfold z3n at h
  simp only[Bool.and_eq_true]at h
  have:=List.all_eq_true.mp h.2 (i+1) (by simpa using hi)
  unfold z9s at this
  simp only[Bool.and_eq_true]at this
  have:=this.1.2
  rw[show(i+1 == 0)=false by simp,Bool.false_or]at this
  have h:=of_decide_eq_true this
  rw[Nat.add_sub_cancel,z2v (by omega),z2v hi]at h
  exact h
 have all:∀ k i (hk:i+1+k<x.2.1.length),z9a (x.2.1[i]'(by omega)) x.2.1[i+1+k]<0:=by
  intro k
  induction k with
  |zero=>intro i hk;exact step i hk
  |succ k ih=>intro i hk;exact zc0 (ih i (by omega)) (step (i+1+k) hk)
 intro i j hj hij
 obtain⟨k,rfl⟩:∃ k,j=i+1+k:=⟨j - i - 1,by omega⟩
 exact all k i hj
theorem midI {i j:Nat} (hi:i<=1000) (hj:j<=1000):w64 (Int.fdiv (IntKind.u64.wrap (w64 ((i:Int)+(j:Int)))) (2 ^ (min (Int.toNat (1:Int)) (IntKind.bits .u64))))=(((i+j) / 2:Nat):Int):=by
 rw[z1w (n:=(i:Int)+(j:Int)) (by omega) (by omega)]
 have e1:IntKind.u64.wrap ((i:Int)+(j:Int))=(i:Int)+(j:Int):=by
  simp only[IntKind.wrap,IntKind.signed,IntKind.bits]
  simp
  omega
 have e2:(2:Int) ^ (min (Int.toNat (1:Int)) (IntKind.bits .u64))=2:=by decide
 rw[e1,e2,Int.fdiv_eq_ediv_of_nonneg _ (by omega),z1w (by omega) (by omega)]
 omega
theorem z0ex {l:List z00} {f:z00} (hl:l.length<=30) (ha:asc l) :
  ∃ p:Nat,z15 l f () p (decide (f∈l))/\(f∈l->place l f=p/\p<l.length):=by
 suffices h:∃ p:Nat,p<=l.length/\(∀ j (h:j<l.length),j<p->z9a l[j] f<0)/\(∀ j (h:j<l.length),p<=j->¬ z9a l[j] f<0) by
  obtain⟨p,hp,h1,h2⟩:=h
  have key:∀ q (hq:q<l.length),l[q]=f->q=p:=by
   intro q hq he
   have hz:z9a l[q] f=0:=cmpF_zero.mpr he
   have hge:p<=q:=by
    rcases Nat.lt_or_ge q p with h|h
    . have:=h1 q hq h;omega
    . exact h
   rcases Nat.lt_or_ge p q with h|h
   . have:=ha p q hq h
     rw[he]at this
     exact absurd this (h2 p (by omega) (Nat.le_refl _))
   . omega
  refine⟨p,z5q _ _ _ _ _ ?_,fun hm=>?_⟩
  . unfold z2r
    refine z0h fun _=>?_
    refine z1o (fun k s=>∃ i j:Nat,s=((i:Int),((j:Int),()))/\j - i<=k/\i<=p/\p<=j/\j<=l.length) ?_ ?_ (n:=l.length) ⟨0,l.length,rfl,by omega,by omega,hp,by omega⟩
    . rintro s ⟨i,j,rfl,hk,hi,hj,hjl⟩ X
      obtain rfl:i=p:=by omega
      obtain rfl:j=i:=by omega
      refine z0l (fun h=>by simp only at h;omega) (fun _=>?_)
      have hfin:∀(h:j<l.length),(z9a l[j] f == (0:Int))=decide (f∈l):=by
       intro h
       rw[z01b]
       refine decide_eq_decide.mpr ⟨fun e=>e ▸ List.getElem_mem h,fun hm=>?_⟩
       obtain⟨q,hq,he⟩:=List.mem_iff_getElem.mp hm
       obtain rfl:=key q hq he
       exact he
      refine z0l (fun h=>?_) (fun h=>?_)
      . have h:j<l.length:=by simp only at h;omega
        refine inI h ⟨_,z69,?_⟩
        rw[z2k h,hfin h]
      . have h:l.length<=j:=by simp only at h;omega
        have:f∉l:=fun hm=>by
         obtain⟨q,hq,he⟩:=List.mem_iff_getElem.mp hm
         have:=key q hq he
         omega
        rw[decide_eq_false this]
    . rintro k s ⟨i,j,rfl,hk,hi,hj,hjl⟩ X hX
      by_cases hij:i<j
      . refine z0l (fun _=>?_) (fun h=>by simp only at h;omega)
        simp only
        rw[midI (by omega) (by omega)]
        have hm:(i+j) / 2<l.length:=by omega
        refine⟨by omega,⟨by omega,by omega⟩,_,z69,?_⟩
        rw[z2k hm]
        refine z0l (fun h=>?_) (fun h=>?_)
        . rw[z02 (by omega)]
          refine hX _ ⟨(i+j) / 2+1,j,rfl,by omega,?_,hj,hjl⟩
          rcases Nat.lt_or_ge ((i+j) / 2) p with h'|h'
          . omega
          . exact absurd h (h2 _ hm h')
        . refine hX _ ⟨i,(i+j) / 2,rfl,by omega,hi,?_,by omega⟩
          rcases Nat.lt_or_ge ((i+j) / 2) p with h'|h'
          . exact absurd (h1 _ hm h') h
          . exact h'
      . obtain rfl:i=p:=by omega
        obtain rfl:j=i:=by omega
        refine z0l (fun h=>by simp only at h;omega) (fun _=>?_)
        have hfin:∀(h:j<l.length),(z9a l[j] f == (0:Int))=decide (f∈l):=by
         intro h
         rw[z01b]
         refine decide_eq_decide.mpr ⟨fun e=>e ▸ List.getElem_mem h,fun hm=>?_⟩
         obtain⟨q,hq,he⟩:=List.mem_iff_getElem.mp hm
         obtain rfl:=key q hq he
         exact he
        refine z0l (fun h=>?_) (fun h=>?_)
        . have h:j<l.length:=by simp only at h;omega
          refine inI h ⟨_,z69,?_⟩
          rw[z2k h,hfin h]
        . have h:l.length<=j:=by simp only at h;omega
          have:f∉l:=fun hm=>by
           obtain⟨q,hq,he⟩:=List.mem_iff_getElem.mp hm
           have:=key q hq he
           omega
          rw[decide_eq_false this]
  . obtain⟨q,e1,hq,e2⟩:=z02s hm
    have:=key q hq e2
    subst this
    exact⟨e1,hq⟩
 refine⟨z03 (fun t=>!decide (z9a t f<0)) l,zhk _ _,fun j hj h=>?_,fun j hj h h3=>?_⟩
 . have:=z6b hj h
   simpa using this
 . have hp:z03 (fun t=>!decide (z9a t f<0)) l<l.length:=by omega
   have h4:=z8u hp
   simp only[Bool.not_eq_true',decide_eq_false_iff_not]at h4
   rcases Nat.lt_or_ge (z03 (fun t=>!decide (z9a t f<0)) l) j with h5|h5
   . exact h4 (zc0 (ha _ j hj h5) h3)
   . have:z03 (fun t=>!decide (z9a t f<0)) l=j:=by omega
     simp only[this]at h4
     exact h4 h3
theorem z0gk {l:List z0p} {ats:List z00} (h:∀ a∈ats,z80 l a=true) {v:Int} (hv:v∈vars ats):0<=v/\v<5:=by
 unfold vars at hv
 rw[mem_sset,List.mem_filter]at hv
 obtain⟨h1,h2⟩:=hv
 obtain⟨a,ha,h3⟩:=List.mem_flatMap.mp h1
 have:=inR_iff.mp ((z26 (h a ha)).2.2.2.2.2 v h3)
 have:0<=v:=by simpa using h2
 omega
structure DOk (d:z0a):Prop where
 sm:z0ft d
 ex:∀ v∈exV d,0<=v/\v<5
 fr:∀ v∈frV d,0<=v/\v<5
 hd:d.2.1.length<=2/\∀ a∈d.2.1,a.2.1.length<=3/\∀ t∈a.2.1,-10<=t/\t<5
 bd:d.1.length<=2/\∀ a∈d.1,a.2.1.length<=3/\∀ t∈a.2.1,-10<=t/\t<5
theorem z0k8 {l:List z0p} {d:z0a} (h:zm7 l d=true):DOk d:=by
 have hs:=z9l h
 have row:∀ ats:List z00,(∀ a∈ats,z80 l a=true)->∀ a∈ats,a.2.1.length<=3/\∀ t∈a.2.1,-10<=t/\t<5:=fun ats h a ha=>by
  have:=z26 (h a ha)
  exact⟨this.2.2.2.2.1,fun t ht=>by have:=inR_iff.mp (this.2.2.2.2.2 t ht);omega⟩
 exact⟨z0hc h,fun v hv=>z0gk hs.2.2.2.2.1 (List.mem_filter.mp hv).1,fun v hv=>z0gk hs.2.2.2.2.1 (List.mem_filter.mp hv).1,⟨hs.2.2.2.1,row _ hs.2.2.2.2.1⟩,⟨hs.2.1,row _ hs.2.2.1⟩⟩
def z8g (d:z0a) (b:List Int):List Int:=(frV d).foldl (fun s v=>s++[b.getD v.toNat 0]) []
theorem zrn {d:z0a} (h:z0ft d) (b:List Int):(z8g d b).length<=6:=by
 have:=ze7 (l:=frV d) (g:=fun s v=>s++[b.getD v.toNat 0]) (s:=[]) (μ:=List.length) (c:=1) fun s v _=>by simp
 have:=z013 h
 unfold z8g
 simp at *
 omega
def zjq (d:z0a) (i:Int) (b:List Int) (v:Int):z06:=(i,(v,(z8g d b,())))
theorem zwf {ts:List z06} {t:z06} (h:t∈ts):0<=zcm ts t/\zcm ts t<ts.length:=by
 have h1:z03 (fun x=>decide (x=t)) ts<ts.length:=firstAt_any.mpr (by rw[zfs];simpa using h)
 unfold zcm
 rw[if_pos h1];omega
theorem zzl {ts:List z06} {t:z06} (h:t∉ts):zcm ts t = -1:=by
 unfold zcm
 rw[if_neg]
 intro h1
 have:=firstAt_any.mp h1
 rw[zfs]at this
 exact h (by simpa using this)
def hdG (d:z0a) (i:Int) (b:List Int) (s:List z06×List Int) (v:Int):List z06×List Int:=
 if zjq d i b v∈s.1 then(s.1,s.2.set v.toNat (-1 - zcm s.1 (zjq d i b v)))else(s.1++[zjq d i b v],s.2.set v.toNat (-1 - (s.1.length:Int)))
def hdS (ts:List z06) (d:z0a) (i:Int) (b:List Int):List z06×List Int:=(exV d).foldl (hdG d i b) (ts,b)
def valG (ts:List z06) (d:z0a) (i:Int) (b:List Int) (vs:List Int) (v:Int):List Int:=vs.set v.toNat (-1 - zcm ts (zjq d i b v))
theorem z09g {d:z0a} {i:Int} {b:List Int}:∀ {l:List Int} {s:List z06×List Int},s.1.length<=(l.foldl (hdG d i b) s).1.length
 |[],s=>Nat.le_refl _
 | v::l,s=>by
   rw[List.foldl_cons]
   refine Nat.le_trans ?_ z09g
   unfold hdG
   split<;>simp
theorem z0f5 {d:z0a} {i:Int} {b:List Int} {ts:List z06}:∀ {l:List Int} {vs:List Int},(∀ v∈l,zjq d i b v∈ts)->l.foldl (hdG d i b) (ts,vs)=(ts,l.foldl (valG ts d i b) vs)
 |[],vs,_=>rfl
 | v::l,vs,h=>by
   rw[List.foldl_cons,List.foldl_cons]
   have:hdG d i b (ts,vs) v=(ts,valG ts d i b vs v):=by unfold hdG valG;rw[if_pos (h v (by simp))]
   rw[this]
   exact z0f5 fun v hv=>h v (by simp[hv])
theorem z0fj {d:z0a} {i:Int} {b:List Int} {ts:List z06}:∀ {l:List Int} {vs:List Int},(l.foldl (hdG d i b) (ts,vs)).1.length=ts.length->∀ v∈l,zjq d i b v∈ts
 |[],vs,_=>by simp
 | v::l,vs,h=>by
   rw[List.foldl_cons]at h
   by_cases hv:zjq d i b v∈ts
   . have:hdG d i b (ts,vs) v=(ts,valG ts d i b vs v):=by unfold hdG valG;rw[if_pos hv]
     rw[this]at h
     intro u hu
     rcases List.mem_cons.mp hu with rfl|hu
     . exact hv
     . exact z0fj h u hu
   . have h1:=z09g (d:=d) (i:=i) (b:=b) (l:=l) (s:=hdG d i b (ts,vs) v)
     have h2:(hdG d i b (ts,vs) v).1.length=ts.length+1:=by unfold hdG;rw[if_neg hv];simp
     omega
theorem z01f (d:z0a) (i:Int) (b:List Int) (s:List z06×List Int) (v:Int):(hdG d i b s v).2.length=s.2.length:=by unfold hdG;split<;>simp
theorem z01c (d:z0a) (i:Int) (b:List Int) (s:List z06×List Int) (v:Int):(hdG d i b s v).1.length<=s.1.length+1:=by unfold hdG;split<;>simp
def zbp (d:z0a) (vs:List Int):List z00:=d.2.1.foldl (fun out a=>out++[inst a vs]) []
theorem zlo {α β:Type} (f:α->β):∀(l:List α) (s:List β),l.foldl (fun out a=>out++[f a]) s=s++l.map f
 |[],s=>by simp
 |a::l,s=>by rw[List.foldl_cons,zlo f l];simp
def z07a (ts:List z06) (d:z0a) (i:Int) (b:List Int) (f:z00):Bool:=
 (exV d).all (fun v=>decide (zjq d i b v∈ts))&&d.2.1.any fun a=>decide (inst a ((exV d).foldl (valG ts d i b) b)=f)
theorem z9m {l:List z06} (h:l.length<=1099511627776):z3w l l:=zgm _ _ (by
 unfold za3
 refine z1u (fun he=>⟨?_,by simp only[z11,List.length_nil];omega,by rw[List.nil_append]⟩) (fun _=>⟨by simp only[z11,List.length_nil];omega,by rw[List.nil_append]⟩)
 have:l=[]:=List.isEmpty_iff.mp he
 rw[this])
theorem z05i {ts:List z06} {ds:List z0a} {i:Nat} {b:List Int} (hi:i<ds.length) (hd:DOk ds[i]) (hts:ts.length<=30) (hb:b.length=5) :
  zk6 ts ds i b (zbp ds[i] (hdS ts ds[i] i b).2) (hdS ts ds[i] i b).1:=z044 _ _ _ _ _ _ (by
 unfold zrr
 obtain⟨hs1,hs2⟩:=hd.sm
 have hfl:=z013 hd.sm
 have hel:=z06t hd.sm
 have hal:=zrn hd.sm b
 refine inI hi ⟨_,z2j (by omega),_,zdt (d:=ds.getD (Int.toNat (i:Int)) z36) (by rw[z2k hi];omega) (by rw[z2k hi];omega),?_⟩
 rw[z2k hi]
 refine z0h fun _=>z38 (frV ds[i]) (fun s v=>s++[b.getD v.toNat 0]) [] (fun j s=>((j:Int),(s,()))) List.length 1 6 hfl (fun s v _=>by simp) ?_ ?_
 . intro j hj s X hs hX
   have hv:=hd.fr _ (List.getElem_mem hj)
   refine bcI hj (inI hj ?_)
   simp only
   rw[z2k hj,z02 (by omega)]
   exact⟨⟨by omega,by omega⟩,by simp only[z11,List.length_cons,List.length_nil]at *;omega,hX⟩
 . intro X _
   refine bcN ⟨_,z9m (by omega),_,zb3 (by omega) (by omega),z0h fun _=>?_⟩
   refine z38 (exV ds[i]) (hdG ds[i] i b) (ts,b) (fun j s=>((j:Int),(s.1,(s.2,())))) (fun s=>s.1.length+(if s.2.length=5 then 0 else 1000000)) 1 6 hel (fun s v _=>by rw[z01f];have:=z01c ds[i] i b s v;omega) ?_ ?_
   . intro j hj s Y hs hY
     have hv:=hd.ex _ (List.getElem_mem hj)
     have h5:s.2.length=5/\s.1.length<=36:=by
      rw[if_pos hb]at hs
      by_cases h:s.2.length=5
      . rw[if_pos h]at hs;simp only at hs;omega
      . rw[if_neg h]at hs;simp only at hs;omega
     refine bcI hj (inI hj ⟨_,z2j (by show(z8g ds[i] b).length<=_;omega),_,zu7,?_⟩)
     simp only
     rw[z2k hj,z02 (by omega)]
     have e:(((i:Int),((exV ds[i])[j],((frV ds[i]).foldl (fun s v=>s++[b.getD v.toNat 0]) [],()))):z06)=zjq ds[i] i b (exV ds[i])[j]:=rfl
     rw[e]
     unfold hdG at hY
     by_cases hm:zjq ds[i] i b (exV ds[i])[j]∈s.1
     . have h6:=zwf hm
       rw[if_pos hm]at hY
       refine z0l (fun h=>by omega) (fun _=>⟨_,zgi h6.1 (by omega),⟨by omega,by omega⟩,hY⟩)
     . rw[zzl hm]
       rw[if_neg hm]at hY
       refine z0l (fun _=>z0h fun _=>⟨by simp only[z11,List.length_cons,List.length_nil];omega,_,zgi (by omega) (by omega),⟨by omega,by omega⟩,hY⟩) (fun h=>by omega)
   . intro Y hs
     have h5:(hdS ts ds[i] i b).2.length=5:=by
      rw[if_pos hb]at hs
      by_cases h:(hdS ts ds[i] i b).2.length=5
      . exact h
      . unfold hdS at h;rw[if_neg h]at hs;simp only at hs;omega
     refine bcN (z0h fun _=>?_)
     refine z38 ds[i].2.1 (fun out a=>out++[inst a (hdS ts ds[i] i b).2]) [] (fun j s=>((j:Int),(s,()))) List.length 1 2 hd.hd.1 (fun s a _=>by simp) ?_ ?_
     . intro j hj s Z hs hZ
       have ha:=hd.hd.2 _ (List.getElem_mem hj)
       refine bcI hj (inI hj ⟨_,_,zc2 (a:=(ds[i].2.1).getD (Int.toNat (j:Int)) z0i) (b:=(hdS ts ds[i] i b).2) (by rw[z2k hj];omega) (by omega) (by rw[z2k hj];exact ha.2),?_⟩)
       simp only
       rw[z2k hj,z02 (by omega)]
       exact⟨by simp only[z11,List.length_cons,List.length_nil]at *;omega,hZ⟩
     . intro Z _
       exact bcN rfl)
theorem zsc {ts:List z06} {ds:List z0a} {i:Nat} {b:List Int} (hi:i<ds.length) (hd:DOk ds[i]) (hts:ts.length<=30) (hb:b.length=5) :
  zd6 ts ds i b (zbp ds[i] (hdS ts ds[i] i b).2) (hdS ts ds[i] i b).1 b:=zsn _ _ _ _ _ _ _ (by
 unfold zjh
 obtain⟨hs1,hs2⟩:=hd.sm
 have hfl:=z013 hd.sm
 have hel:=z06t hd.sm
 have hal:=zrn hd.sm b
 refine inI hi ⟨_,z2j (by omega),_,zdt (d:=ds.getD (Int.toNat (i:Int)) z36) (by rw[z2k hi];omega) (by rw[z2k hi];omega),?_⟩
 rw[z2k hi]
 refine z0h fun _=>z38 (frV ds[i]) (fun s v=>s++[b.getD v.toNat 0]) [] (fun j s=>((j:Int),(s,()))) List.length 1 6 hfl (fun s v _=>by simp) ?_ ?_
 . intro j hj s X hs hX
   have hv:=hd.fr _ (List.getElem_mem hj)
   refine bcI hj (inI hj ?_)
   simp only
   rw[z2k hj,z02 (by omega)]
   exact⟨⟨by omega,by omega⟩,by simp only[z11,List.length_cons,List.length_nil]at *;omega,hX⟩
 . intro X _
   refine bcN ⟨_,z9m (by omega),_,zb3 (by omega) (by omega),z0h fun _=>?_⟩
   refine z38 (exV ds[i]) (hdG ds[i] i b) (ts,b) (fun j s=>((j:Int),(s.1,(s.2,())))) (fun s=>s.1.length+(if s.2.length=5 then 0 else 1000000)) 1 6 hel (fun s v _=>by rw[z01f];have:=z01c ds[i] i b s v;omega) ?_ ?_
   . intro j hj s Y hs hY
     have hv:=hd.ex _ (List.getElem_mem hj)
     have h5:s.2.length=5/\s.1.length<=36:=by
      rw[if_pos hb]at hs
      by_cases h:s.2.length=5
      . rw[if_pos h]at hs;simp only at hs;omega
      . rw[if_neg h]at hs;simp only at hs;omega
     refine bcI hj (inI hj ⟨_,z2j (by show(z8g ds[i] b).length<=_;omega),_,zu7,?_⟩)
     simp only
     rw[z2k hj,z02 (by omega)]
     have e:(((i:Int),((exV ds[i])[j],((frV ds[i]).foldl (fun s v=>s++[b.getD v.toNat 0]) [],()))):z06)=zjq ds[i] i b (exV ds[i])[j]:=rfl
     rw[e]
     unfold hdG at hY
     by_cases hm:zjq ds[i] i b (exV ds[i])[j]∈s.1
     . have h6:=zwf hm
       rw[if_pos hm]at hY
       refine z0l (fun h=>by omega) (fun _=>⟨_,zgi h6.1 (by omega),⟨by omega,by omega⟩,hY⟩)
     . rw[zzl hm]
       rw[if_neg hm]at hY
       refine z0l (fun _=>z0h fun _=>⟨by simp only[z11,List.length_cons,List.length_nil];omega,_,zgi (by omega) (by omega),⟨by omega,by omega⟩,hY⟩) (fun h=>by omega)
   . intro Y hs
     have h5:(hdS ts ds[i] i b).2.length=5:=by
      rw[if_pos hb]at hs
      by_cases h:(hdS ts ds[i] i b).2.length=5
      . exact h
      . unfold hdS at h;rw[if_neg h]at hs;simp only at hs;omega
     refine bcN (z0h fun _=>?_)
     refine z38 ds[i].2.1 (fun out a=>out++[inst a (hdS ts ds[i] i b).2]) [] (fun j s=>((j:Int),(s,()))) List.length 1 2 hd.hd.1 (fun s a _=>by simp) ?_ ?_
     . intro j hj s Z hs hZ
       have ha:=hd.hd.2 _ (List.getElem_mem hj)
       refine bcI hj (inI hj ⟨_,_,zc2 (a:=(ds[i].2.1).getD (Int.toNat (j:Int)) z0i) (b:=(hdS ts ds[i] i b).2) (by rw[z2k hj];omega) (by omega) (by rw[z2k hj];exact ha.2),?_⟩)
       simp only
       rw[z2k hj,z02 (by omega)]
       exact⟨by simp only[z11,List.length_cons,List.length_nil]at *;omega,hZ⟩
     . intro Z _
       exact bcN rfl)
def zxb (dp:List Int) (m v:Int):Int:=if z9n v then(if z5r v<(dp.length:Int)then zkc m (dp.getD (z5r v).toNat 0)else m)else m
def z07w (dp:List Int) (t:z06):List Int:=dp++[w64 (t.2.2.1.foldl (zxb dp) 0+1)]
theorem zup:∀(l:List z06) (s:List Int),(l.foldl z07w s).length=s.length+l.length
 |[],s=>by simp
 |t::l,s=>by rw[List.foldl_cons,zup];simp[z07w];omega
theorem zrv {s:TSk} {t:z06} (hl:s.2.1.length<=30):zer s t (((s.2.1++[t]).foldl z07w []).getD s.2.1.length 0):=by
 refine z0bl _ _ _ ?_
 unfold zyy
 refine z1x (s.2.1.length+1) (fun i=>((i:Int),(((s.2.1++[t]).take i).foldl z07w [],()))) rfl ?_ ?_
 . intro i hi X hX
   have hlen:=zup ((s.2.1++[t]).take i) []
   have hin:i<(s.2.1++[t]).length:=by simp;omega
   rw[z07 hin,List.foldl_append]at hX
   simp only[List.foldl_cons,List.foldl_nil]at hX
   rw[List.length_take,List.length_nil,Nat.min_eq_left (by omega)]at hlen
   simp only
   generalize ((s.2.1++[t]).take i).foldl z07w []=dp at hX hlen ⊢
   refine z0h fun _=>z0l (fun _=>z0h fun _=>z0l (fun h=>?_) (fun h=>?_)) (fun h=>by omega)
   . have hi':i<s.2.1.length:=by omega
     rw[List.getElem_append_left hi']at hX
     refine inI hi' ?_
     rw[z2k hi',z02 (by omega)]
     refine zl2 s.2.1[i].2.2.1 (zxb dp) 0 (fun j m=>(m,((j:Int),()))) ?_ ?_
     . intro j hj Y hY
       refine z0h fun _=>bcI hj (inI hj ⟨_,_,zax,?_⟩)
       simp only
       rw[z2k hj,z02 (by omega)]
       generalize (s.2.1[i].2.2.1.take j).foldl (zxb dp) 0=m at hY ⊢
       unfold zxb at hY
       refine z1u (fun h=>z0h fun _=>z0l (fun h2=>⟨⟨zkm _,h2⟩,?_⟩) (fun h2=>?_)) (fun h=>?_)
       . rw[if_pos h,if_pos h2]at hY;exact hY
       . rw[if_pos h,if_neg h2]at hY;exact hY
       . rw[h]at hY;simpa using hY
     . intro Y
       exact z0h fun _=>bcN ⟨by simp only[z11,List.length_cons,List.length_nil];omega,hX⟩
   . obtain rfl:i=s.2.1.length:=by omega
     rw[show(s.2.1++[t])[s.2.1.length]=t by simp]at hX
     rw[z02 (by omega)]
     refine zl2 t.2.2.1 (zxb dp) 0 (fun j m=>(m,((j:Int),()))) ?_ ?_
     . intro j hj Y hY
       refine z0h fun _=>bcI hj (inI hj ⟨_,_,zax,?_⟩)
       simp only
       rw[z2k hj,z02 (by omega)]
       generalize (t.2.2.1.take j).foldl (zxb dp) 0=m at hY ⊢
       unfold zxb at hY
       refine z1u (fun h=>z0h fun _=>z0l (fun h2=>⟨⟨zkm _,h2⟩,?_⟩) (fun h2=>?_)) (fun h=>?_)
       . rw[if_pos h,if_pos h2]at hY;exact hY
       . rw[if_pos h,if_neg h2]at hY;exact hY
       . rw[h]at hY;simpa using hY
     . intro Y
       exact z0h fun _=>bcN ⟨by simp only[z11,List.length_cons,List.length_nil];omega,hX⟩
 . intro X
   have hlen:=zup (s.2.1++[t]) []
   simp only[List.length_append,List.length_cons,List.length_nil]at hlen
   refine z0h fun _=>z0l (fun h=>by simp only at h;omega) (fun _=>z0h fun _=>?_)
   have e:(s.2.1++[t]).take (s.2.1.length+1)=s.2.1++[t]:=List.take_of_length_le (by simp)
   simp only[e,Int.toNat_natCast]
   exact⟨⟨by omega,by omega⟩,trivial⟩
theorem z0c3 {s:TSk} {t:z06} (hl:s.2.1.length<=30):∃ y,zer s t y:=⟨_,zrv hl⟩
theorem z0l4 (x y:z06):(x=y)↔x.1=y.1/\x.2.1=y.2.1/\x.2.2.1=y.2.2.1:=by
 obtain⟨a,b,c,u⟩:=x;obtain⟨a',b',c',u'⟩:=y
 simp
def z0n8 (s:TSk) (t:z06) (K:TSk×Int×Bool×Unit->Prop):Prop:=z0m (s.2.1.length:Int) (z01 ((s.2.1.length:Int) == (30:Int)) (K (s,((0:Int),(false,())))) (∃ y5:Int,zer s t y5/\
 z01 (decide (y5 > (8:Int))) (K (s,((0:Int),(false,())))) (True/\True/\([]:List z06).length+s.2.1.length<=z11/\(([]:List z06)++s.2.1).length+([t]:List z06).length<=z11/\
  z0m (List.length ((([]:List z06)++s.2.1)++([t]:List z06)):Int) (∃ y6:Int,zcy (w64 ((List.length ((([]:List z06)++s.2.1)++([t]:List z06)):Int) - (1:Int))) y6/\
   K ((s.1,((([]:List z06)++s.2.1)++([t]:List z06),s.2.2)),(y6,(true,())))))))
theorem zas {s:TSk} {t:z06} (hl:s.2.1.length<=30) (y1:TSk) (y2:Int) (y3:Bool) (h1:t∈s.2.1->y1=s/\y2 = -1 - zcm s.2.1 t/\y3=true) (h2:t∉s.2.1->z0n8 s t fun r=>r=(y1,(y2,(y3,())))):zbt s t y1 y2 y3:=by
 refine z0bf _ _ _ _ _ ?_
 unfold zzb
 refine zep s.2.1 (fun x=>decide (x=t)) (fun i=>((i:Int),(((([]:List z0p),(([]:List z00),())),(([]:List z06),())),()))) (KT:=fun i=>((s,(-1 - (i:Int),(true,()))):TSk×Int×Bool×Unit)=(y1,(y2,(y3,())))) (KF:=t∉s.2.1) ?_ ?_ ?_ ?_
 . intro i hi X g1 g2
   refine z0h fun _=>bcI hi (inI hi ?_)
   simp only
   rw[z2k hi,z02 (by omega)]
   have no:¬ s.2.1[i]=t->X (((i+1:Nat):Int),(((([]:List z0p),(([]:List z00),())),(([]:List z06),())),())):=fun h=>g2 (by simpa using h)
   refine z3e (fun e1=>inI hi (z3e (fun e2=>inI hi ⟨_,zpz,z3e (fun e3=>⟨_,zjt (by omega) (by omega),?_⟩) (fun e3=>no fun h=>e3 (by rw[h];exact cmpL_zero.mpr rfl))⟩) (fun e2=>no fun h=>e2 (by rw[h])))) (fun e1=>no fun h=>e1 (by rw[h]))
   exact g1 (by simpa using (z0l4 _ _).mpr ⟨e1,e2,cmpL_zero.mp e3⟩)
 . intro X h
   refine z0h fun _=>bcN ?_
   exact h2 h
 . intro h
   have hm:t∈s.2.1:=by
    have:=firstAt_any.mp h
    rw[zfs]at this
    simpa using this
   obtain⟨rfl,rfl,rfl⟩:=h1 hm
   unfold zcm;rw[if_pos h]
 . intro h hm
   have:=firstAt_any (p:=fun x=>decide (x=t)).mpr (by rw[zfs];simpa using hm)
   omega
theorem z0b3 {s:TSk} {t:z06} (hl:s.2.1.length<=30) :
  (t∈s.2.1->zbt s t s (-1 - zcm s.2.1 t) true)/\(t∉s.2.1->∃ y1 y2 y3,zbt s t y1 y2 y3/\(y3=false\/(y3=true/\y1.2.1.length≠s.2.1.length))):=by
 have main:=zas (s:=s) (t:=t) hl
 refine⟨fun hm=>main _ _ _ (fun _=>⟨rfl,rfl,rfl⟩) (fun h=>absurd hm h),fun hm=>?_⟩
 by_cases h30:s.2.1.length=30
 . exact⟨s,0,false,main _ _ _ (fun h=>absurd h hm) (fun _=>z0h fun _=>z3e (fun _=>rfl) (fun h=>by omega)),.inl rfl⟩
 . obtain⟨y,hy⟩:=z0c3 (s:=s) (t:=t) hl
   by_cases h8:y > 8
   . exact⟨s,0,false,main _ _ _ (fun h=>absurd h hm) (fun _=>z0h fun _=>z3e (fun h=>by omega) (fun _=>⟨y,hy,z0l (fun _=>rfl) (fun h=>absurd h8 h)⟩)),.inl rfl⟩
   . refine⟨(s.1,(s.2.1++[t],s.2.2)),-1 - (s.2.1.length:Int),true,main _ _ _ (fun h=>absurd h hm) (fun _=>z0h fun _=>z3e (fun h=>by omega) (fun _=>⟨y,hy,z0l (fun h=>absurd h h8) (fun _=>⟨trivial,trivial,by simp only[z11,List.length_nil];omega,by simp only[z11,List.length_append,List.length_cons,List.length_nil];omega,z0h fun _=>⟨-1 - (s.2.1.length:Int),?_,rfl⟩⟩)⟩)),.inr ⟨rfl,by simp⟩⟩
     have e:w64 ((List.length ((([]:List z06)++s.2.1)++([t]:List z06)):Int) - (1:Int))=(s.2.1.length:Int):=by
      rw[z1w]<;>simp<;>omega
     rw[e]
     exact zjt (by omega) (by omega)
theorem znu {σ τ:Type} {B:(τ->Prop)->τ->Prop} (n:Nat) (g:σ->Nat->σ) (s0:σ) (e:Nat->σ->τ) (μ:σ->Nat) (c N:Nat) (hN:n<=N) (hg:∀ s i,i<n->μ (g s i)<=μ s+c)
  (hs:∀ i (_:i<n) (s:σ) (X:τ->Prop),μ s<=μ s0+N * c->X (e (i+1) (g s i))->B X (e i s))
  (hf:∀ X:τ->Prop,μ ((List.range n).foldl g s0)<=μ s0+N * c->B X (e n ((List.range n).foldl g s0))):z0f B (e 0 s0):=
 z38 (List.range n) g s0 e μ c N (by simpa using hN) (fun s a ha=>hg s a (List.mem_range.mp ha)) (fun i h s X hs' hX=>hs i (by simpa using h) s X hs' (by simpa using hX)) (fun X h=>by simpa using hf X h)
def mkS (ts:List z06) (d:z0a) (i:Int) (b:List Int) (vs:List Int) (v:Int):Unit ⊕ List Int:=if zjq d i b v∈ts then .inr (valG ts d i b vs v)else .inl ()
theorem z07c {ts:List z06} {d:z0a} {i:Int} {b:List Int}:∀ {l vs vs':List Int},zea (mkS ts d i b) l vs = .inr vs'->(∀ v∈l,zjq d i b v∈ts)/\vs'=l.foldl (valG ts d i b) vs
 |[],vs,vs',h=>by simp only[zea,Sum.inr.injEq]at h;exact⟨by simp,h.symm⟩
 | v::l,vs,vs',h=>by
   simp only[zea]at h
   unfold mkS at h
   by_cases hv:zjq d i b v∈ts
   . rw[if_pos hv]at h
     obtain⟨h1,h2⟩:=z07c (ts:=ts) (d:=d) (i:=i) (b:=b) h
     exact⟨fun u hu=>(List.mem_cons.mp hu).elim (fun e=>e ▸ hv) (h1 u),by rw[List.foldl_cons];exact h2⟩
   . rw[if_neg hv]at h;simp at h
theorem z0gx {ts:List z06} {d:z0a} {i:Int} {b:List Int} {r:Unit}:∀ {l vs:List Int},zea (mkS ts d i b) l vs = .inl r->∃ v∈l,zjq d i b v∉ts
 |[],vs,h=>by simp[zea]at h
 | v::l,vs,h=>by
   by_cases hv:zjq d i b v∈ts
   . simp only[zea]at h
     unfold mkS at h
     rw[if_pos hv]at h
     obtain⟨u,hu,h1⟩:=z0gx (ts:=ts) (d:=d) (i:=i) (b:=b) h
     exact⟨u,by simp[hu],h1⟩
   . exact⟨v,by simp,hv⟩
theorem z01m {ts:List z06} {d:z0a} {i:Int} {b:List Int}:∀ {l vs:List Int},(l.foldl (valG ts d i b) vs).length=vs.length
 |[],vs=>rfl
 |v::l,vs=>by rw[List.foldl_cons,z01m];simp[valG]
theorem z0k5 {α:Type} {p:α->Bool} {l:List α} {x:α} (hx:x∈l) (h:p x=false):l.all p=false:=by
 rw[Bool.eq_false_iff];intro h'
 rw[List.all_eq_true.mp h' x hx]at h;cases h
theorem z0ho {ts:List z06} {d:z0a} {i:Int} {b:List Int} {f:z00}:z07a ts d i b f=(decide ((hdS ts d i b).1.length=ts.length)&&decide (f∈zbp d (hdS ts d i b).2)):=by
 unfold z07a
 by_cases h:∀ v∈exV d,zjq d i b v∈ts
 . have e:hdS ts d i b=(ts,(exV d).foldl (valG ts d i b) b):=z0f5 h
   have e2:(exV d).all (fun v=>decide (zjq d i b v∈ts))=true:=List.all_eq_true.mpr fun v hv=>by simpa using h v hv
   rw[e,e2]
   simp only[decide_true,Bool.true_and]
   unfold zbp
   rw[zlo,List.nil_append,<-zfs,List.any_map]
   rfl
 . have h1:¬ (hdS ts d i b).1.length=ts.length:=fun e=>h (z0fj e)
   rw[decide_eq_false h1,Bool.false_and]
   have:∃ v∈exV d,zjq d i b v∉ts:=Classical.byContradiction fun hn=>h fun v hv=>Classical.byContradiction fun hv'=>hn ⟨v,hv,hv'⟩
   obtain⟨v,hv,hv'⟩:=this
   rw[z0k5 hv (decide_eq_false hv'),Bool.false_and]
theorem z07i {s:TSk} {ds:List z0a} {i:Nat} {b:List Int} {f:z00} (hi:i<ds.length) (hd:DOk ds[i]) (hts:s.2.1.length<=30) (hb:b.length=5) :
  zo8 s ds i b f (z07a s.2.1 ds[i] i b f):=z070 _ _ _ _ _ _ (by
 unfold zwc
 obtain⟨hs1,hs2⟩:=hd.sm
 have hfl:=z013 hd.sm
 have hel:=z06t hd.sm
 have hal:=zrn hd.sm b
 refine inI hi ⟨_,ze4 (d:=ds.getD (Int.toNat (i:Int)) z36) (by rw[z2k hi];omega) (by rw[z2k hi];omega),?_⟩
 rw[z2k hi]
 refine z38 (frV ds[i]) (fun s v=>s++[b.getD v.toNat 0]) [] (fun j s=>((j:Int),(s,()))) List.length 1 6 hfl (fun s v _=>by simp) ?_ ?_
 . intro j hj s X hs hX
   have hv:=hd.fr _ (List.getElem_mem hj)
   refine z0h fun _=>bcI hj (inI hj ?_)
   simp only
   rw[z2k hj,z02 (by omega)]
   exact⟨⟨by omega,by omega⟩,by simp only[z11,List.length_cons,List.length_nil]at *;omega,hX⟩
 . intro X _
   refine z0h fun _=>bcN ⟨by simp only[z11,List.length_nil];omega,inI hi ⟨_,zay (by omega) (by omega),?_⟩⟩
   rw[List.nil_append]
   refine zgd (exV ds[i]) (mkS s.2.1 ds[i] i b) b (fun j vs=>((j:Int),(z8g ds[i] b,(vs,())))) (KR:=fun _=>((false,()):Bool×Unit)=(z07a s.2.1 ds[i] i b f,())) ?_ ?_ ?_
   . intro j hj vs Y hr h1 h2
     obtain⟨_,rfl⟩:=z07c hr
     have hvl:=z01m (ts:=s.2.1) (d:=ds[i]) (i:=i) (b:=b) (l:=(exV ds[i]).take j) (vs:=b)
     generalize ((exV ds[i]).take j).foldl (valG s.2.1 ds[i] i b) b=vs at h1 h2 hvl ⊢
     have hv:=hd.ex _ (List.getElem_mem hj)
     refine z0h fun _=>bcI hj (inI hj ⟨trivial,?_⟩)
     simp only
     rw[z2k hj,z02 (by omega)]
     have e:(((i:Int),((exV ds[i])[j],(z8g ds[i] b,()))):z06)=zjq ds[i] i b (exV ds[i])[j]:=rfl
     rw[e]
     unfold mkS at h1 h2
     have ht:=z0b3 (s:=s) (t:=zjq ds[i] i b (exV ds[i])[j]) hts
     by_cases hm:zjq ds[i] i b (exV ds[i])[j]∈s.2.1
     . refine⟨_,_,_,ht.1 hm,bcF (z0h fun _=>z0h fun _=>z6u (fun h=>absurd rfl h) (fun _=>inI hj ⟨⟨by omega,by omega⟩,h2 _ (by rw[if_pos hm];rfl)⟩))⟩
     . obtain⟨y1,y2,y3,hg,h3⟩:=ht.2 hm
       have hno:=h1 () (by rw[if_neg hm])
       rcases h3 with rfl|⟨rfl,h3⟩
       . exact⟨y1,y2,false,hg,bcT hno⟩
       . exact⟨y1,y2,true,hg,bcF (z0h fun _=>z0h fun _=>z6u (fun _=>hno) (fun h=>by omega))⟩
   . intro vs Y hr
     obtain⟨hall,rfl⟩:=z07c hr
     have hvl:=z01m (ts:=s.2.1) (d:=ds[i]) (i:=i) (b:=b) (l:=exV ds[i]) (vs:=b)
     have e2:(exV ds[i]).all (fun v=>decide (zjq ds[i] i b v∈s.2.1))=true:=List.all_eq_true.mpr fun v hv=>by simpa using hall v hv
     unfold z07a
     rw[e2,Bool.true_and]
     generalize (exV ds[i]).foldl (valG s.2.1 ds[i] i b) b=vs at hvl ⊢
     refine z0h fun _=>bcN ?_
     refine z8t ds[i].2.1 (fun a=>decide (inst a vs=f)) (fun j=>((j:Int),())) (KT:=((true,()):Bool×Unit)=(ds[i].2.1.any (fun a=>decide (inst a vs=f)),())) (KF:=((false,()):Bool×Unit)=(ds[i].2.1.any (fun a=>decide (inst a vs=f)),())) ?_ ?_ (fun h=>by rw[h]) (fun h=>by rw[h])
     . intro j hj Z h1 h2
       have ha:=hd.hd.2 _ (List.getElem_mem hj)
       refine inI hi (z0h fun _=>bcI hj (inI hi (inI hj ⟨_,_,zgs (a:=(ds[i].2.1).getD (Int.toNat (j:Int)) z0i) (b:=vs) (by rw[z2k hj];omega) (by omega) (by rw[z2k hj];exact ha.2),_,zav,?_⟩)))
       simp only
       rw[z2k hj,z02 (by omega),z01b]
       exact z1u h1 h2
     . intro Z h
       exact inI hi (z0h fun _=>bcN h)
   . intro r hr
     obtain⟨v,hv,hm⟩:=z0gx hr
     unfold z07a
     rw[z0k5 hv (decide_eq_false hm),Bool.false_and])
def derH (s:TSk) (d:z0a) (i:Nat) (f:z00) (out:List z00) (b:List Int):List z00:=if z07a s.2.1 d i b f then out++[((i:Int),(b,()))] else out
def derG (s:TSk) (ds:List z0a) (f:z00) (out:List z00) (i:Nat):List z00:=(zah s.1 (ds.getD i z36).1).foldl (derH s (ds.getD i z36) i f) out
def z7a (s:TSk) (ds:List z0a) (f:z00):List z00:=if vSk s&&(z5h s.1.1 ds&&decide (f∈s.1.2.1))then(List.range ds.length).foldl (derG s ds f) [] else[]
theorem z01x (s:TSk) (d:z0a) (i:Nat) (f:z00) (out:List z00) (b:List Int):(derH s d i f out b).length<=out.length+1:=by unfold derH;split<;>simp
theorem z00u (s:TSk) (ds:List z0a) (f:z00) (out:List z00) (i:Nat):(derG s ds f out i).length<=out.length+27000:=by
 have:=ze7 (l:=zah s.1 (ds.getD i z36).1) (g:=derH s (ds.getD i z36) i f) (s:=out) (μ:=List.length) (c:=1) fun o b _=>z01x s _ i f o b
 have:=zjw (x:=s.1) (l:=(ds.getD i z36).1)
 unfold derG
 omega
theorem zkl {l:List z0p} {ds:List z0a} (h:z5h l ds=true):ds.length<=5/\∀ d∈ds,DOk d:=by
 unfold z5h at h
 simp only[Bool.and_eq_true]at h
 exact⟨zpe h.1,fun d hd=>z0k8 (z04a h.1 hd)⟩
theorem zyw (s:TSk) (ds:List z0a) (f:z00):(z7a s ds f).length<=135000:=by
 unfold z7a
 split
 . rename_i h
   simp only[Bool.and_eq_true]at h
   have:=ze7 (l:=List.range ds.length) (g:=derG s ds f) (s:=[]) (μ:=List.length) (c:=27000) fun o i _=>z00u s ds f o i
   have h5:=(zkl h.2.1).1
   rw[List.length_range,List.length_nil]at this
   have:=Nat.mul_le_mul_right 27000 h5
   omega
 . exact Nat.zero_le _
theorem zzp {s:TSk} {ds:List z0a} {f t:z00} (h:t∈z7a s ds f):∃ i:Nat,i<ds.length/\∃ b:List Int,b.length=5/\t=((i:Int),(b,())):=by
 unfold z7a at h
 split at h
 . have z0o:∀(i:Nat),i<ds.length->∀(l:List (List Int)) (out:List z00),(∀ b∈l,b.length=5)->(∀ t∈out,∃ i:Nat,i<ds.length/\∃ b:List Int,b.length=5/\t=((i:Int),(b,())))->
     ∀ t∈l.foldl (derH s (ds.getD i z36) i f) out,∃ i:Nat,i<ds.length/\∃ b:List Int,b.length=5/\t=((i:Int),(b,())):=by
    intro i hi l
    induction l with
    |nil=>intro out _ ho;exact ho
    | cons b l ih=>
      intro out hl ho
      rw[List.foldl_cons]
      refine ih _ (fun c hc=>hl c (by simp[hc])) fun t ht=>?_
      unfold derH at ht
      split at ht
      . rcases List.mem_append.mp ht with ht|ht
        . exact ho t ht
        . simp only[List.mem_singleton]at ht;exact⟨i,hi,b,hl b (by simp),ht⟩
      . exact ho t ht
   have outer:∀(l:List Nat) (out:List z00),(∀ i∈l,i<ds.length)->(∀ t∈out,∃ i:Nat,i<ds.length/\∃ b:List Int,b.length=5/\t=((i:Int),(b,())))->
     ∀ t∈l.foldl (derG s ds f) out,∃ i:Nat,i<ds.length/\∃ b:List Int,b.length=5/\t=((i:Int),(b,())):=by
    intro l
    induction l with
    |nil=>intro out _ ho;exact ho
    | cons i l ih=>
      intro out hl ho
      rw[List.foldl_cons]
      exact ih _ (fun c hc=>hl c (by simp[hc])) (z0o i (hl i (by simp)) _ _ (fun b hb=>zlu hb) ho)
   exact outer _ [] (fun i hi=>List.mem_range.mp hi) (by simp) t h
 . simp at h
theorem z6p {s:TSk} (h:vSk s=true):z3n s.1=true/\s.2.1.length<=30:=⟨(z74 h).1,zg2 (z74 h).2.2⟩
theorem zz3 {s:TSk} {ds:List z0a} {f:z00} (h:(vSk s&&(z5h s.1.1 ds&&decide (f∈s.1.2.1)))=false):(([]:List z00),())=(z7a s ds f,()):=by unfold z7a;rw[h];rfl
theorem zxz {s:TSk} {ds:List z0a} {f:z00}:zgx s ds f (z7a s ds f):=zxy _ _ _ _ (by
 unfold zmu
 refine⟨_,z43,z0t (fun h=>zz3 (by rw[h];rfl)) (fun h1=>⟨_,zil,z0t (fun h=>zz3 (by rw[h];simp)) (fun h2=>⟨_,zlp,z0t (fun h=>zz3 (by rw[h];simp)) (fun h3=>?_)⟩)⟩)⟩
 obtain⟨hds,hdo⟩:=zkl h2
 obtain⟨hv,hts⟩:=z6p h1
 have e:z7a s ds f=(List.range ds.length).foldl (derG s ds f) []:=by unfold z7a;rw[h1,h2,h3];rfl
 rw[e]
 refine z0h fun _=>znu ds.length (derG s ds f) [] (fun i o=>((i:Int),(o,()))) List.length 27000 5 hds (fun o i _=>z00u s ds f o i) ?_ ?_
 . intro i hi o X ho hX
   unfold derG at hX
   rw[z0y hi]at hX
   have hd:=hdo _ (List.getElem_mem hi)
   refine bcI hi (inI hi ⟨_,znb,?_⟩)
   simp only
   rw[z2k hi,z02 (by omega)]
   refine z0h fun _=>?_
   rw[show List.map (fun y=>(true,y)) (zah s.1 ds[i].1)=mkd (zah s.1 ds[i].1) 0 from rfl]
   refine z38 (zah s.1 ds[i].1) (derH s ds[i] i f) o (fun j o=>((j:Int),(o,(mkd (zah s.1 ds[i].1) j,())))) List.length 1 27000 zjw (fun o b _=>z01x s _ i f o b) ?_ ?_
   . intro j hj o' Y ho' hY
     have hb:=zlu (List.getElem_mem hj)
     simp only[List.length_nil]at ho
     refine bcI hj (inI (by rw[z0f6];exact hj) ?_)
     simp only[Int.toNat_natCast]
     rw[z0el hj]
     refine⟨rfl,_,_,_,zsc hi hd hts hb,z0h fun _=>z0h fun _=>?_⟩
     simp only
     rw[z0ew hj,z02 (by omega)]
     unfold derH at hY
     rw[z0ho]at hY
     refine z3e (fun h=>⟨_,zlp,z1u (fun h4=>⟨by simp only[z11,List.length_cons,List.length_nil];omega,?_⟩) (fun h4=>?_)⟩) (fun h=>?_)
     . rw[decide_eq_true (show(hdS s.2.1 ds[i] i (zah s.1 ds[i].1)[j]).1.length=s.2.1.length by omega),h4]at hY;exact hY
     . rw[h4,Bool.and_false]at hY;exact hY
     . rw[decide_eq_false (show ¬ (hdS s.2.1 ds[i] i (zah s.1 ds[i].1)[j]).1.length=s.2.1.length by omega)]at hY;exact hY
   . intro Y _
     exact bcN hX
 . intro X _
   exact bcN rfl)
theorem zmw {s:TSk} {ds:List z0a} {f:z00}:zc8 s ds f (z7a s ds f):=zyc _ _ _ _ (by
 unfold znd
 refine⟨_,z89,z0t (fun h=>zz3 (by rw[h];rfl)) (fun h1=>⟨_,zod,z0t (fun h=>zz3 (by rw[h];simp)) (fun h2=>⟨_,zbc,?_⟩)⟩)⟩
 obtain⟨hds,hdo⟩:=zkl h2
 obtain⟨hv,hts⟩:=z6p h1
 rw[hv,Bool.true_and]
 refine z0t (fun h=>zz3 (by rw[h];simp)) (fun h3=>?_)
 have e:z7a s ds f=(List.range ds.length).foldl (derG s ds f) []:=by unfold z7a;rw[h1,h2,h3];rfl
 rw[e]
 refine znu ds.length (derG s ds f) [] (fun i o=>((i:Int),(o,()))) List.length 27000 5 hds (fun o i _=>z00u s ds f o i) ?_ ?_
 . intro i hi o X ho hX
   unfold derG at hX
   rw[z0y hi]at hX
   have hd:=hdo _ (List.getElem_mem hi)
   refine z0h fun _=>bcI hi (inI hi ⟨_,zmy,?_⟩)
   simp only
   rw[z2k hi,z02 (by omega)]
   refine z38 (zah s.1 ds[i].1) (derH s ds[i] i f) o (fun j o=>((j:Int),(o,()))) List.length 1 27000 zjw (fun o b _=>z01x s _ i f o b) ?_ ?_
   . intro j hj o' Y ho' hY
     have hb:=zlu (List.getElem_mem hj)
     simp only[List.length_nil]at ho
     refine z0h fun _=>bcI hj (inI hj ?_)
     simp only
     rw[z2k hj,z02 (by omega)]
     refine⟨_,z07i hi hd hts hb,?_⟩
     unfold derH at hY
     refine z1u (fun h4=>inI hj ⟨by simp only[z11,List.length_cons,List.length_nil];omega,?_⟩) (fun h4=>?_)
     . rw[h4]at hY;exact hY
     . rw[h4]at hY;exact hY
   . intro Y _
     exact z0h fun _=>bcN hX
 . intro X _
   exact z0h fun _=>bcN rfl)
def zsq (fs:List z00) (lev:List Int) (d:z0a) (b:List Int):Bool:=d.1.all fun a=>decide (inst a b∈fs)&&decide (0<=lev.getD (place fs (inst a b)).toNat 0)
def knS (s:TSk) (ds:List z0a) (lev:List Int) (t:z00):Bool:=zsq s.1.2.1 lev (ds.getD t.1.toNat z36) t.2.1
def knF (s:TSk) (ds:List z0a) (lev:List Int) (i:Nat):Bool:=(z7a s ds (s.1.2.1.getD i z0i)).any (knS s ds lev)
def zjn (s:TSk) (ds:List z0a) (lev:List Int) (i:Nat):Bool:=decide (lev.getD i 0<0)&&knF s ds lev i
def zfc (s:TSk) (ds:List z0a) (n:Int) (lev:List Int):List Int:=(List.range lev.length).map fun i=>if zjn s ds lev i then n else lev.getD i 0
def srcI (s:TSk) (i:Nat):Bool:=zai s.1.1 (s.1.2.1.getD i z0i).1
def zyu (s:TSk):List Int:=(List.range s.1.2.1.length).map fun i=>if srcI s i then 0 else -1
def zks (s:TSk) (ds:List z0a):Nat->List Int
 |0=>zyu s
 |k+1=>zfc s ds ((k+1:Nat):Int) (zks s ds k)
def levs (s:TSk) (ds:List z0a):List Int:=zks s ds s.1.2.1.length
theorem zbv (s:TSk) (ds:List z0a) (n:Int) (lev:List Int):(zfc s ds n lev).length=lev.length:=by simp[zfc]
theorem zc4 (s:TSk) (ds:List z0a):∀ k,(zks s ds k).length=s.1.2.1.length
 |0=>by simp[zks,zyu]
 |k+1=>by rw[zks,zbv,zc4]
theorem zbs {s:TSk} {ds:List z0a} {n:Int} {lev:List Int} {i:Nat} (hi:i<lev.length):(zfc s ds n lev).getD i 0=if zjn s ds lev i then n else lev.getD i 0:=by
 have h:i<(zfc s ds n lev).length:=by rw[zbv];exact hi
 rw[z0y h]
 simp[zfc]
theorem ztd {s:TSk} {i:Nat} (hi:i<s.1.2.1.length):(zyu s).getD i 0=if srcI s i then 0 else -1:=by
 have h:i<(zyu s).length:=by simp[zyu,hi]
 rw[z0y h]
 simp[zyu]
theorem z016 {s:TSk} {ds:List z0a}:∀(k:Nat) {i:Nat},i<s.1.2.1.length->-1<=(zks s ds k).getD i 0
 |0,i,hi=>by rw[zks,ztd hi];split<;>omega
 | k+1,i,hi=>by
   rw[zks,zbs (by rw[zc4];exact hi)]
   split
   . omega
   . exact z016 k hi
theorem z0a4 {s:TSk} {ds:List z0a}:∀(k:Nat) {i:Nat},i<s.1.2.1.length->(zks s ds k).getD i 0<0->srcI s i=false
 | 0,i,hi,h=>by
   rw[zks,ztd hi]at h
   split at h
   . omega
   . rename_i hs;simpa using hs
 | k+1,i,hi,h=>by
   rw[zks,zbs (by rw[zc4];exact hi)]at h
   split at h
   . omega
   . exact z0a4 k hi h
def z0dm (s:TSk) (ds:List z0a) (lev:List Int):Prop:=∀ i,i<lev.length->zjn s ds lev i=false
theorem z07j {s:TSk} {ds:List z0a} {lev:List Int} (h:z0dm s ds lev) (n:Int):zfc s ds n lev=lev:=by
 refine z095 (d:=0) (zbv _ _ _ _) fun i hi=>?_
 rw[zbv]at hi
 rw[zbs hi,h i hi];rfl
theorem zra {s:TSk} {ds:List z0a} {k:Nat} (h:z0dm s ds (zks s ds k)):∀ m,zks s ds (k+m)=zks s ds k
 |0=>rfl
 | m+1=>by
   rw[<-Nat.add_assoc,zks,zra h m]
   exact z07j h _
def negs (l:List Int):Nat:=(List.range l.length).countP fun i=>decide (l.getD i 0<0)
theorem z0le {s:TSk} {ds:List z0a} {n:Int} (hn:0<=n) {lev:List Int} {i:Nat} (hi:i<lev.length) (h:zjn s ds lev i=true):negs (zfc s ds n lev)<negs lev:=by
 unfold negs
 rw[zbv]
 refine z09w (fun j hj hp=>?_) ⟨i,by simpa using hi,?_,?_⟩
 . rw[zbs (by simpa using hj)]at hp
   split at hp
   . simp at hp;omega
   . exact hp
 . unfold zjn at h
   rw[Bool.and_eq_true]at h
   exact h.1
 . rw[zbs hi,if_pos h]
   simp;exact hn
theorem z0gj (l:List Int):negs l<=l.length:=by
 have:=List.countP_le_length (p:=fun i=>decide (l.getD i 0<0)) (l:=List.range l.length)
 simpa [negs]using this
theorem row3 {ats:List z00} {b:List Int} (h:∀ a∈ats,a.2.1.length<=3/\∀ t∈a.2.1,-10<=t/\t<5) {a:z00} (ha:a∈ats):a.2.1.length<=1000/\∀ t∈a.2.1,-10<=t/\t<5:=⟨by have:=(h a ha).1;omega,(h a ha).2⟩
theorem z03p {fs:List z00} {lev:List Int} {ds:List z0a} {i:Nat} {b:List Int} (hf:fs.length<=30) (ha:asc fs) (hl:lev.length=fs.length) (hm:∀ j,j<fs.length->-1<=lev.getD j 0) (hi:i<ds.length) (hd:DOk ds[i]) (hb:b.length=5) :
  zjx fs lev ds ((i:Int),(b,())) (zsq fs lev ds[i] b):=z04l _ _ _ _ _ (by
 unfold zry
 refine inI hi ?_
 simp only
 rw[z2k hi]
 refine z0h fun _=>z8t ds[i].1 (fun a=>!(decide (inst a b∈fs)&&decide (0<=lev.getD (place fs (inst a b)).toNat 0))) (fun j=>((j:Int),())) (KT:=((false,()):Bool×Unit)=(zsq fs lev ds[i] b,())) (KF:=((true,()):Bool×Unit)=(zsq fs lev ds[i] b,())) ?_ ?_ ?_ ?_
 . intro j hj X h1 h2
   obtain⟨p,hp,hp2⟩:=z0ex (f:=inst ds[i].1[j] b) hf ha
   refine bcI hj (inI hj ⟨_,_,zc2 (a:=(ds[i].1).getD (Int.toNat (j:Int)) z0i) (b:=b) ?_ (by omega) ?_,?_⟩)
   . rw[z2k hj];exact(row3 (b:=b) hd.bd.2 (List.getElem_mem hj)).1
   . rw[z2k hj];exact(row3 (b:=b) hd.bd.2 (List.getElem_mem hj)).2
   . simp only
     rw[z2k hj,z02 (by omega)]
     refine⟨p,_,hp,zed (fun h=>h1 (by simp[h])) (fun h=>?_)⟩
     obtain⟨e,hpl⟩:=hp2 h
     rw[e,Int.toNat_natCast]at h1 h2
     have:=hm p hpl
     refine⟨⟨by omega,by omega⟩,?_⟩
     rw[Int.toNat_natCast]
     refine z3e (fun h3=>h1 (by rw[decide_eq_true h,Bool.true_and,decide_eq_false (by omega)];rfl)) (fun h3=>h2 (by rw[decide_eq_true h,Bool.true_and,decide_eq_true (by omega)];rfl))
 . intro X h;exact bcN h
 . intro h;rw[z4n]at h;unfold zsq;rw[nt h]
 . intro h;rw[z4n]at h;unfold zsq;rw[nf h])
theorem z08d {s:TSk} {lev:List Int} {ds:List z0a} {i:Nat} {b:List Int} (hl:lev.length=s.1.2.1.length) (hi:i<ds.length) (hd:DOk ds[i]) (hb:b.length=5) :
  zob s ds ((i:Int),(b,())) lev (zsq s.1.2.1 lev ds[i] b):=z07m _ _ _ _ _ (by
 unfold zxg
 refine z8t ds[i].1 (fun a=>!(decide (inst a b∈s.1.2.1)&&decide (0<=lev.getD (place s.1.2.1 (inst a b)).toNat 0))) (fun j=>((j:Int),())) (KT:=((false,()):Bool×Unit)=(zsq s.1.2.1 lev ds[i] b,())) (KF:=((true,()):Bool×Unit)=(zsq s.1.2.1 lev ds[i] b,())) ?_ ?_ ?_ ?_
 . intro j hj X h1 h2
   have hbd:=hd.bd.1
   refine inI hi (z0h fun _=>?_)
   simp only
   rw[z2k hi]
   refine bcI hj ⟨trivial,inI hi (inI hj ⟨_,_,zgs (a:=(ds[i].1).getD (Int.toNat (j:Int)) z0i) (b:=b) ?_ (by omega) ?_,?_⟩)⟩
   . rw[z2k hj];exact(row3 (b:=b) hd.bd.2 (List.getElem_mem hj)).1
   . rw[z2k hj];exact(row3 (b:=b) hd.bd.2 (List.getElem_mem hj)).2
   . rw[z2k hj,z02 (by omega)]
     refine⟨_,zls,?_⟩
     by_cases h:inst ds[i].1[j] b∈s.1.2.1
     . obtain⟨p,e,hp,_⟩:=z02s h
       show z01 (decide (place s.1.2.1 (inst ds[i].1[j] b)<0)) _ _
       rw[e]at h1 h2 ⊢
       refine z0l (fun h=>by omega) (fun _=>⟨⟨by omega,by omega⟩,?_⟩)
       rw[Int.toNat_natCast]at h1 h2 ⊢
       exact z0l (fun h3=>h1 (by rw[decide_eq_true h,Bool.true_and,decide_eq_false (by omega)];rfl)) (fun h3=>h2 (by rw[decide_eq_true h,Bool.true_and,decide_eq_true (by omega)];rfl))
     . show z01 (decide (place s.1.2.1 (inst ds[i].1[j] b)<0)) _ _
       rw[z0f0 h]
       exact z0l (fun _=>h1 (by simp[h])) (fun h=>by omega)
 . intro X h
   refine inI hi (z0h fun _=>?_)
   simp only
   rw[z2k hi]
   exact bcN h
 . intro h;rw[z4n]at h;unfold zsq;rw[nt h]
 . intro h;rw[z4n]at h;unfold zsq;rw[nf h])
def z047 (s:TSk) (ds:List z0a) (lev:List Int) (i:Nat) (o:List Int) (t:z00):List Int:=if knS s ds lev t then o++[(i:Int)] else o
def zug (s:TSk) (ds:List z0a) (lev:List Int) (o:List Int) (i:Nat):List Int:=if lev.getD i 0<0 then(z7a s ds (s.1.2.1.getD i z0i)).foldl (z047 s ds lev i) o else o
theorem z036 (s:TSk) (ds:List z0a) (lev:List Int) (i:Nat) (o:List Int) (t:z00):(z047 s ds lev i o t).length<=o.length+1:=by unfold z047;split<;>simp
theorem z0ek (s:TSk) (ds:List z0a) (lev:List Int) (o:List Int) (i:Nat):(zug s ds lev o i).length<=o.length+135000:=by
 unfold zug
 split
 . have:=ze7 (l:=z7a s ds (s.1.2.1.getD i z0i)) (g:=z047 s ds lev i) (s:=o) (μ:=List.length) (c:=1) fun o t _=>z036 s ds lev i o t
   have:=zyw s ds (s.1.2.1.getD i z0i)
   omega
 . omega
theorem z05u {s:TSk} {ds:List z0a} {lev:List Int} {i:Nat} {x:Int}:∀ {l:List z00} {o:List Int},x∈l.foldl (z047 s ds lev i) o↔x∈o\/(x=(i:Int)/\l.any (knS s ds lev)=true)
 |[],o=>by simp
 | t::l,o=>by
   rw[List.foldl_cons,z05u,List.any_cons]
   unfold z047
   cases h:knS s ds lev t with
   | true=>
     rw[if_pos rfl,List.mem_append,List.mem_singleton,Bool.true_or]
     constructor
     . rintro ((h|h)|⟨h,_⟩)
       . exact .inl h
       . exact .inr ⟨h,rfl⟩
       . exact .inr ⟨h,rfl⟩
     . rintro (h|⟨h,_⟩)
       . exact .inl (.inl h)
       . exact .inl (.inr h)
   |false=>simp
theorem zl0 {s:TSk} {ds:List z0a} {lev:List Int} {x:Int}:∀ {l:List Nat} {o:List Int},x∈l.foldl (zug s ds lev) o↔x∈o\/∃ i∈l,x=(i:Int)/\zjn s ds lev i=true
 |[],o=>by simp
 | i::l,o=>by
   rw[List.foldl_cons,zl0]
   have:x∈zug s ds lev o i↔x∈o\/(x=(i:Int)/\zjn s ds lev i=true):=by
    unfold zug zjn
    by_cases h:lev.getD i 0<0
    . rw[if_pos h,z05u,decide_eq_true h,Bool.true_and];rfl
    . rw[if_neg h,decide_eq_false h,Bool.false_and];simp
   rw[this]
   constructor
   . rintro ((h|h)|⟨j,h1,h2⟩)
     . exact .inl h
     . exact .inr ⟨i,by simp,h⟩
     . exact .inr ⟨j,by simp[h1],h2⟩
   . rintro (h|⟨j,h1,h2⟩)
     . exact .inl (.inl h)
     . rcases List.mem_cons.mp h1 with rfl|h1
       . exact .inl (.inr h2)
       . exact .inr ⟨j,h1,h2⟩
theorem ztt {n:Int}:∀ {l lev:List Int},(l.foldl (fun v (k:Int)=>v.set k.toNat n) lev).length=lev.length
 |[],lev=>rfl
 |k::l,lev=>by rw[List.foldl_cons,ztt,List.length_set]
theorem z09j {n:Int} {j:Nat}:∀ {l lev:List Int},(∀ k∈l,0<=k/\k<lev.length)->(l.foldl (fun v (k:Int)=>v.set k.toNat n) lev).getD j 0=if (j:Int)∈l then n else lev.getD j 0
 |[],lev,_=>by simp
 | k::l,lev,h=>by
   have hk:=h k (by simp)
   rw[List.foldl_cons,z09j (fun u hu=>by rw[List.length_set];exact h u (by simp[hu])),z090 (by omega)]
   by_cases h1:(j:Int)∈l
   . rw[if_pos h1,if_pos (List.mem_cons_of_mem _ h1)]
   . by_cases h2:j=k.toNat
     . have hjk:(j:Int)=k:=by omega
       rw[if_neg h1,if_pos h2,if_pos (by rw[hjk];exact List.mem_cons_self ..)]
     . rw[if_neg h1,if_neg h2,if_neg]
       intro h3
       rcases List.mem_cons.mp h3 with h3|h3
       . omega
       . exact h1 h3
theorem z0b7 {s:TSk} {ds:List z0a} {lev:List Int} {n:Int}:((List.range lev.length).foldl (zug s ds lev) []).foldl (fun v (k:Int)=>v.set k.toNat n) lev=zfc s ds n lev:=by
 have hm:∀ k∈(List.range lev.length).foldl (zug s ds lev) [],0<=k/\k<lev.length:=by
  intro k hk
  rw[zl0]at hk
  rcases hk with hk|⟨i,hi,rfl,_⟩
  . simp at hk
  . have:=List.mem_range.mp hi;omega
 refine z095 (d:=0) (by rw[ztt,zbv]) fun j hj=>?_
 rw[ztt]at hj
 rw[z09j hm,zbs hj]
 by_cases h:zjn s ds lev j=true
 . rw[if_pos h,if_pos (by rw[zl0];exact .inr ⟨j,by simpa using hj,rfl,h⟩)]
 . rw[if_neg h,if_neg]
   rw[zl0]
   rintro (h'|⟨i,hi,he,hc⟩)
   . simp at h'
   . obtain rfl:j=i:=by omega
     exact h hc
theorem z04i {s:TSk} {ds:List z0a} (h1:vSk s=true) (h2:z5h s.1.1 ds=true):zke s ds (levs s ds):=z04h _ _ _ (by
 unfold zs3
 obtain⟨hds,hdo⟩:=zkl h2
 obtain⟨hv,hts⟩:=z6p h1
 have hfl:=z3l hv
 refine z1x s.1.2.1.length (fun i=>((i:Int),((zyu s).take i,((s.1.2.1.take i).map (z7a s ds),())))) (by simp) ?_ ?_
 . intro i hi X hX
   have hr:=zti (z3c hv (List.getElem_mem hi))
   have hi0:i<(zyu s).length:=by simp[zyu,hi]
   have e0:(zyu s)[i]=if srcI s i then 0 else -1:=by have:=ztd hi;rw[z0y hi0]at this;exact this
   rw[z07 hi0,z07 hi,List.map_append,e0]at hX
   have e1:srcI s i=(s.1.1.getD (Int.toNat s.1.2.1[i].1) zel).2.2.1:=by unfold srcI;rw[z0y hi];rfl
   have hl0:((zyu s).take i).length=i:=by rw[List.length_take];omega
   have hl1:((s.1.2.1.take i).map (z7a s ds)).length=i:=by rw[List.length_map,List.length_take];omega
   refine z0h fun _=>bcI hi (inI hi ?_)
   simp only
   rw[z2k hi,z02 (by omega)]
   refine⟨⟨hr.1,hr.2⟩,?_⟩
   rw[<-e1]
   refine z1u (fun h=>⟨by simp only[z11,List.length_cons,List.length_nil];omega,inI hi ⟨_,zmw,by simp only[z11,List.length_cons,List.length_nil];omega,?_⟩⟩) (fun h=>⟨by simp only[z11,List.length_cons,List.length_nil];omega,inI hi ⟨_,zmw,by simp only[z11,List.length_cons,List.length_nil];omega,?_⟩⟩)
   . rw[h]at hX;exact hX
   . rw[h]at hX;exact hX
 . intro X
   refine z0h fun _=>bcN ?_
   have e0:(zyu s).take s.1.2.1.length=zyu s:=List.take_of_length_le (by simp[zyu])
   simp only
   rw[e0,List.take_length]
   refine z1x s.1.2.1.length (fun k=>(((k+1:Nat):Int),(zks s ds k,()))) rfl ?_ ?_
   . intro k hk Y hY
     have hkl:=zc4 s ds k
     refine z0h fun _=>z0l (fun _=>?_) (fun h=>by simp only at h;omega)
     have hge:=fun {i} (hi:i<s.1.2.1.length)=>z016 (s:=s) (ds:=ds) k hi
     rw[zks,<-z0b7]at hY
     simp only
     generalize zks s ds k=lev at hY hkl hge ⊢
     rw[hkl]
     rw[hkl]at hY
     have hN:s.1.2.1.length<=30:=hfl
     refine znu s.1.2.1.length (zug s ds lev) [] (fun i o=>((i:Int),(o,()))) List.length 135000 30 hN (fun o i _=>z0ek s ds lev o i) ?_ ?_
     . intro i hi o Z ho hZ
       refine z0h fun _=>bcI hi ?_
       have hil:i<((s.1.2.1).map (z7a s ds)).length:=by rw[List.length_map];exact hi
       have eil:((s.1.2.1).map (z7a s ds))[i]=z7a s ds s.1.2.1[i]:=by simp
       have hfg:s.1.2.1.getD i z0i=s.1.2.1[i]:=z0y hi
       unfold zug at hZ
       rw[hfg]at hZ
       have hdl:=zyw s ds s.1.2.1[i]
       simp only[List.length_nil]at ho
       by_cases hneg:lev.getD i 0<0
       . rw [if_pos hneg]at hZ
         refine z38 (z7a s ds s.1.2.1[i]) (z047 s ds lev i) o (fun j o=>((j:Int),(o,()))) List.length 1 135000 hdl (fun o t _=>z036 s ds lev i o t) ?_ ?_
         . intro j hj o' W ho' hW
           refine inI hil ?_
           simp only
           rw[z2k hil,eil]
           refine z0h fun _=>bcI hj ⟨⟨by omega,by omega⟩,?_⟩
           rw[Int.toNat_natCast]
           refine z0l (fun _=>inI hil (inI hj ?_)) (fun h=>absurd hneg h)
           rw[z2k hj,z02 (by omega)]
           obtain⟨n,hn,b,hb,et⟩:=zzp (List.getElem_mem hj)
           have ek:knS s ds lev (z7a s ds s.1.2.1[i])[j]=zsq s.1.2.1 lev ds[n] b:=by
            unfold knS
            rw[et]
            simp only[Int.toNat_natCast]
            rw[z0y hn]
           unfold z047 at hW
           rw[ek]at hW
           rw[et]
           refine⟨_,z08d hkl hn (hdo _ (List.getElem_mem hn)) hb,z1u (fun h=>⟨by simp only[z11,List.length_cons,List.length_nil];omega,?_⟩) (fun h=>?_)⟩
           . rw[h]at hW;exact hW
           . rw[h]at hW;exact hW
         . intro W _
           refine inI hil ?_
           simp only
           rw[z2k hil,eil]
           refine z0h fun _=>bcN ?_
           rw[z02 (by omega)]
           exact hZ
       . rw[if_neg hneg]at hZ
         refine⟨1,inI hil ?_⟩
         simp only
         rw[z2k hil,eil]
         refine z0h fun _=>?_
         have out:Z (w64 ((i:Int)+1),(o,())):=by rw[z02 (by omega)];exact hZ
         refine z0l (fun _=>⟨⟨by omega,by omega⟩,?_⟩) (fun _=>out)
         rw[Int.toNat_natCast]
         exact z0l (fun h=>absurd h hneg) (fun _=>out)
     . intro Z hlenm
       refine z0h fun _=>bcN ?_
       have hm:∀ k∈(List.range s.1.2.1.length).foldl (zug s ds lev) [],0<=k/\k<s.1.2.1.length:=by
        intro k hk
        rw[zl0]at hk
        rcases hk with hk|⟨i,hi,rfl,_⟩
        . simp at hk
        . have:=List.mem_range.mp hi;omega
       simp only[List.length_nil]at hlenm
       simp only
       generalize (List.range s.1.2.1.length).foldl (zug s ds lev) []=more at hm hlenm hY ⊢
       refine zl2 more (fun v (q:Int)=>v.set q.toNat ((k+1:Nat):Int)) lev (fun j v=>((j:Int),(v,()))) ?_ ?_
       . intro j hj W hW
         have hml:=hm _ (List.getElem_mem hj)
         have hsl:=ztt (n:=((k+1:Nat):Int)) (l:=more.take j) (lev:=lev)
         refine z0h fun _=>bcI hj (inI hj ?_)
         simp only
         rw[z2k hj,z02 (by omega)]
         exact⟨⟨hml.1,by omega⟩,hW⟩
       . intro W
         refine z0h fun _=>bcN ?_
         simp only
         rw[z02 (by omega)]
         exact hY
   . intro Y
     have hkl:=zc4 s ds s.1.2.1.length
     exact z0h fun _=>z0l (fun h=>by simp only at h;omega) (fun _=>rfl))
def zzt {α:Type} (l m:List α) (i:Nat):List α:=l.take i++m.drop i
theorem z00k {α:Type} (l m:List α):zzt l m 0=m:=by simp[zzt]
theorem z077 {α:Type} {l m:List α} (h:l.length=m.length):zzt l m l.length=l:=by unfold zzt;rw[List.take_length,List.drop_eq_nil_of_le (by omega),List.append_nil]
theorem z062 {α:Type} {l m:List α} (h:l.length=m.length) {i:Nat} (hi:i<=l.length):(zzt l m i).length=l.length:=by simp[zzt];omega
theorem z011 {α:Type} {l m:List α} {i:Nat} (hi:i<m.length):zzt l m i=l.take i++m[i]::m.drop (i+1):=by unfold zzt;rw[z35 hi]
theorem z0a5 {α:Type} {l m:List α} {i:Nat} (hi:i<l.length):zzt l m (i+1)=l.take i++l[i]::m.drop (i+1):=by unfold zzt;rw[z07 hi,List.append_assoc];rfl
theorem z06k {α:Type} {l m:List α} (h:l.length=m.length) {i:Nat} (hi:i<l.length):(zzt l m i).set i l[i]=zzt l m (i+1):=by
 have hl:(l.take i).length=i:=by rw[List.length_take];omega
 rw[z011 (by omega),z0a5 hi,List.set_append_right _ _ (by omega),hl,Nat.sub_self]
 rfl
theorem z023 {α:Type} {l m:List α} (h:l.length=m.length) {i:Nat} (hi:i<l.length) (he:l[i]=m[i]'(by omega)):zzt l m i=zzt l m (i+1):=by
 rw[z011 (by omega),z0a5 hi,he]
theorem z0kl {α:Type} {l m:List α} (h:l.length=m.length) {i:Nat} (hi:i<l.length) {d:α}:(zzt l m i).getD i d=m[i]'(by omega):=by
 have hl:(l.take i).length=i:=by rw[List.length_take];omega
 rw[z011 (by omega),List.getD_eq_getElem?_getD,List.getElem?_append_right (by omega),hl,Nat.sub_self]
 rfl
def z00l (s:TSk) (ds:List z0a):List (List z00):=(List.range s.1.2.1.length).map fun i=>if srcI s i then[] else z7a s ds (s.1.2.1.getD i z0i)
theorem z042 {s:TSk} {ds:List z0a} {i:Nat} (hi:i<s.1.2.1.length) (h:i<(z00l s ds).length):(z00l s ds)[i]=if srcI s i then[] else z7a s ds s.1.2.1[i]:=by
 simp only[z00l,List.getElem_map,List.getElem_range]
 rw[z0y hi]
theorem z0dw {s:TSk} {ds:List z0a} (h1:vSk s=true) (h2:z5h s.1.1 ds=true):zw5 s ds (levs s ds):=z0gm _ _ _ (by
 unfold z04s
 obtain⟨hds,hdo⟩:=zkl h2
 obtain⟨hv,hts⟩:=z6p h1
 have hfl:=z3l hv
 have hN:(s.1.2.1.length:Int)<=z11:=by simp only[z11];omega
 have hz:0<=(s.1.2.1.length:Int)/\(s.1.2.1.length:Int)<=(s.1.2.1.length:Int)/\(s.1.2.1.length:Int)<=z11:=⟨by omega,by omega,hN⟩
 have hl0:(zyu s).length=s.1.2.1.length:=by simp[zyu]
 have hls:(z00l s ds).length=s.1.2.1.length:=by simp[z00l]
 refine z0h fun _=>z0h fun _=>⟨⟨hz,trivial⟩,⟨hz,trivial⟩,hz,hz,z0h fun _=>?_⟩
 rw[Int.toNat_natCast]
 have hr1:(zyu s).length=(List.replicate s.1.2.1.length (0:Int)).length:=by rw[hl0,List.length_replicate]
 have hr2:(z00l s ds).length=(List.replicate s.1.2.1.length ([]:List z00)).length:=by rw[hls,List.length_replicate]
 refine z1x s.1.2.1.length (fun i=>((i:Int),(zzt (zyu s) (List.replicate s.1.2.1.length (0:Int)) i,(zzt (z00l s ds) (List.replicate s.1.2.1.length ([]:List z00)) i,())))) (by rw[z00k,z00k];rfl) ?_ ?_
 . intro i hi X hX
   have hr:=zti (z3c hv (List.getElem_mem hi))
   have hi0:i<(zyu s).length:=by omega
   have his:i<(z00l s ds).length:=by omega
   have e0:(zyu s)[i]=if srcI s i then 0 else -1:=by have:=ztd hi;rw[z0y hi0]at this;exact this
   have e2:=z042 (ds:=ds) hi his
   have e1:srcI s i=(s.1.1.getD (Int.toNat s.1.2.1[i].1) zel).2.2.1:=by unfold srcI;rw[z0y hi];rfl
   have hm1:=z062 hr1 (i:=i) (by omega)
   have hm2:=z062 hr2 (i:=i) (by omega)
   refine bcI hi (inI hi ?_)
   simp only
   rw[z2k hi,z02 (by omega)]
   refine⟨⟨hr.1,hr.2⟩,?_⟩
   rw[<-e1]
   refine z0t (fun h=>⟨⟨by omega,by omega⟩,_,zxz,⟨by omega,by omega⟩,?_⟩) (fun h=>?_)
   . rw[Int.toNat_natCast]
     rw[h]at e0 e2
     have s1:=z06k hr1 hi0
     have s2:=z06k hr2 his
     rw[e0]at s1
     rw[e2]at s2
     simp only[Bool.false_eq_true,if_false]at s1 s2
     rw[s1,s2]
     exact hX
   . rw[h]at e0 e2
     have s1:=z023 hr1 hi0 (by rw[e0];simp)
     have s2:=z023 hr2 his (by rw[e2];simp)
     rw[s1,s2]
     exact hX
 . intro X
   refine bcN ?_
   have ee1:=z077 hr1
   have ee2:=z077 hr2
   rw[hl0]at ee1
   rw[hls]at ee2
   simp only
   rw[ee1,ee2]
   refine z1o (fun d a=>∃ k:Nat,(a=(((k+1:Nat):Int),(true,(zks s ds k,())))/\k+negs (zks s ds k)<=s.1.2.1.length/\negs (zks s ds k)+1<=d)\/(a=(((k+1:Nat):Int),(false,(zks s ds k,())))/\zks s ds k=levs s ds)) ?_ ?_ (n:=s.1.2.1.length+1) ⟨0,.inl ⟨rfl,by have:=z0gj (zks s ds 0);rw[zc4]at this;omega,by have:=z0gj (zks s ds 0);rw[zc4]at this;omega⟩⟩
   . rintro a ⟨k,⟨_,_,h⟩|⟨rfl,h⟩⟩ Y
     . omega
     . exact bcF (by rw[h])
   . rintro d a ⟨k,⟨rfl,hk,hd⟩|⟨rfl,h⟩⟩ Y hY
     . have hkl:=zc4 s ds k
       have hge:=fun {i} (hi:i<s.1.2.1.length)=>z016 (s:=s) (ds:=ds) k hi
       have hsrc:=fun {i} (hi:i<s.1.2.1.length)=>z0a4 (s:=s) (ds:=ds) k hi
       have next:Y (((k+1+1:Nat):Int),((List.range s.1.2.1.length).any (zjn s ds (zks s ds k)),(zks s ds (k+1),()))):=by
        refine hY _ ⟨k+1,?_⟩
        cases hc:(List.range s.1.2.1.length).any (zjn s ds (zks s ds k))with
        | true=>
          obtain⟨i,hi,hci⟩:=List.any_eq_true.mp hc
          have:=z0le (s:=s) (ds:=ds) (n:=((k+1:Nat):Int)) (by omega) (lev:=zks s ds k) (i:=i) (by rw[hkl];simpa using hi) hci
          rw[show zfc s ds ((k+1:Nat):Int) (zks s ds k)=zks s ds (k+1)from rfl]at this
          exact .inl ⟨rfl,by omega,by omega⟩
        | false=>
          have hst:z0dm s ds (zks s ds k):=fun i hi=>by
           rw[Bool.eq_false_iff];intro h
           have:=List.any_eq_true.mpr ⟨i,List.mem_range.mpr (by rw[hkl]at hi;exact hi),h⟩
           rw[hc]at this;cases this
          refine .inr ⟨rfl,?_⟩
          rw[zra hst 1]
          obtain⟨m,hm⟩:∃ m,s.1.2.1.length=k+m:=⟨s.1.2.1.length - k,by omega⟩
          unfold levs
          rw[hm,zra hst m]
       rw[zks]at next
       refine bcT ⟨_,z2j (by simp only;omega),z0h fun _=>?_⟩
       simp only
       generalize zks s ds k=lev at hkl hge hsrc next ⊢
       have hrl:=zbv s ds ((k+1:Nat):Int) lev
       refine z1x s.1.2.1.length (fun i=>((List.range i).any (zjn s ds lev),((i:Int),(zzt (zfc s ds ((k+1:Nat):Int) lev) lev i,())))) (by rw[z00k];rfl) ?_ ?_
       . intro i hi Z hZ
         have hir:i<(zfc s ds ((k+1:Nat):Int) lev).length:=by omega
         have hil:i<lev.length:=by omega
         have hml:=z062 hrl (i:=i) (by omega)
         have eg:(zzt (zfc s ds ((k+1:Nat):Int) lev) lev i).getD i 0=lev[i]:=z0kl hrl hir
         have er:(zfc s ds ((k+1:Nat):Int) lev)[i]=if zjn s ds lev i then((k+1:Nat):Int)else lev[i]:=by
          have:=zbs (s:=s) (ds:=ds) (n:=((k+1:Nat):Int)) hil
          rw[z0y hir,z0y hil]at this;exact this
         have g0:=hge hi
         rw[z0y hil]at g0
         have hsr:=hsrc hi
         rw[z0y hil]at hsr
         rw[List.range_succ,List.any_append]at hZ
         simp only[List.any_cons,List.any_nil,Bool.or_false]at hZ
         refine bcI hi ⟨⟨by simp only;omega,by simp only;omega⟩,?_⟩
         simp only
         rw[Int.toNat_natCast,eg,z02 (by omega)]
         have no:zjn s ds lev i=false->Z ((List.range i).any (zjn s ds lev),(((i+1:Nat):Int),(zzt (zfc s ds ((k+1:Nat):Int) lev) lev i,()))):=by
          intro h
          rw[h,Bool.or_false]at hZ
          rw[h]at er
          rw[z023 hrl hir (by rw[er];simp)]
          exact hZ
         have hc:zjn s ds lev i=(decide (lev[i]<0)&&knF s ds lev i):=by unfold zjn;rw[z0y hil]
         refine z3e (fun h=>?_) (fun h=>no (by rw[hc,decide_eq_false (by omega),Bool.false_and]))
         have his:i<(z00l s ds).length:=by omega
         have e2:=z042 (ds:=ds) hi his
         rw[hsr (by omega)]at e2
         simp only[Bool.false_eq_true,if_false]at e2
         refine⟨⟨by omega,by omega⟩,?_⟩
         rw[z0y his,e2]
         refine⟨_,z6n (x1:=(s.1.2.1,(lev,(ds,())))) (knS s ds lev) (fun t ht=>?_),?_⟩
         . obtain⟨n,hn,b,hb,rfl⟩:=zzp ht
           refine z06p _ _ _ _ _ ⟨_,z03p hfl (zpr hv) hkl (fun j hj=>hge hj) hn (hdo _ (List.getElem_mem hn)) hb,?_⟩
           unfold knS
           simp only[Int.toNat_natCast]
           rw[z0y hn]
         . have hkf:knF s ds lev i=(z7a s ds s.1.2.1[i]).any (knS s ds lev):=by unfold knF;rw[z0y hi]
           rw[<-hkf]
           refine z1u (fun h3=>⟨⟨by omega,by omega⟩,?_⟩) (fun h3=>no (by rw[hc,h3,Bool.and_false]))
           have hct:zjn s ds lev i=true:=by rw[hc,h3,decide_eq_true (by omega)];rfl
           rw[hct,Bool.or_true]at hZ
           rw[hct]at er
           simp only[if_true]at er
           have s1:=z06k hrl hir
           rw[er]at s1
           rw[s1]
           exact hZ
       . intro Z
         refine bcN ?_
         have ee:=z077 hrl
         rw[hrl,hkl]at ee
         simp only
         rw[ee,z02 (by omega)]
         exact next
     . exact bcF (by rw[h]))
def zyp (s:TSk) (ds:List z0a):Bool:=vSk s&&(z5h s.1.1 ds && !(levs s ds).any fun x=>decide (x<0))
theorem zst {s:TSk} {ds:List z0a}:zdm s ds (zyp s ds):=zt1 _ _ _ (by
 unfold zjc
 refine⟨_,z43,z1u (fun h1=>⟨_,zil,z1u (fun h2=>⟨_,z0dw h1 h2,_,z3x,?_⟩) (fun h=>by unfold zyp;rw[h];simp)⟩) (fun h=>by unfold zyp;rw[h];rfl)⟩
 unfold zyp
 rw[h1,h2,Bool.true_and,Bool.true_and]
 have:decide ((-1:Int)∈levs s ds)=(levs s ds).any fun x=>decide (x<0):=by
  rw[<-zfs]
  rw[Bool.eq_iff_iff,List.any_eq_true,List.any_eq_true]
  constructor
  . rintro⟨x,hx,h⟩
    have h:x = -1:=by simpa using h
    exact⟨x,hx,by simp[h]⟩
  . rintro⟨x,hx,h⟩
    have h:x<0:=by simpa using h
    obtain⟨i,hi,rfl⟩:=List.mem_iff_getElem.mp hx
    have hl:(levs s ds).length=s.1.2.1.length:=zc4 s ds _
    have:=z016 (s:=s) (ds:=ds) s.1.2.1.length (i:=i) (by omega)
    rw[show zks s ds s.1.2.1.length=levs s ds from rfl,z0y hi]at this
    exact⟨_,hx,by simp;omega⟩
 rw[this])
theorem zs7 {s:TSk} {ds:List z0a}:zd3 s ds (zyp s ds):=zta _ _ _ (by
 unfold zjb
 refine⟨_,z89,z0t (fun h=>by unfold zyp;rw[h];rfl) (fun h1=>⟨_,zod,z0t (fun h=>by unfold zyp;rw[h];simp) (fun h2=>⟨_,z04i h1 h2,?_⟩)⟩)⟩
 unfold zyp
 rw[h1,h2,Bool.true_and,Bool.true_and]
 have hl:(levs s ds).length=s.1.2.1.length:=zc4 s ds _
 have hfl:=z3l (z6p h1).1
 refine z8t (levs s ds) (fun x=>decide (x<0)) (fun i=>((i:Int),())) (KT:=((false,()):Bool×Unit)=(!((levs s ds).any fun x=>decide (x<0)),())) (KF:=((true,()):Bool×Unit)=(!((levs s ds).any fun x=>decide (x<0)),())) ?_ ?_ (fun h=>by rw[h];rfl) (fun h=>by rw[h];rfl)
 . intro i hi X g1 g2
   refine z0h fun _=>bcI hi (inI hi ?_)
   simp only
   rw[z2k hi,z02 (by omega)]
   exact z0l (fun h=>g1 (by simpa using h)) (fun h=>g2 (by simpa using h))
 . intro X h
   exact z0h fun _=>bcN h)
theorem z076 {f:z00}:∀ {l:List z00},f∈l->f.2.1.length<=(l.flatMap (·.2.1)).length
 | a::l,h=>by
   rw[List.flatMap_cons,List.length_append]
   rcases List.mem_cons.mp h with rfl|h
   . omega
   . have:=z076 h;omega
theorem z046 {x:z09} (h:z3n x=true) {f:z00} (hf:f∈x.2.1):f.2.1.length<=1099511627776:=by
 have:=zrd h
 have:=z076 hf
 omega
theorem z09k {s:TSk} (h:vSk s=true) {i:Nat} (hi:i<s.2.1.length):s.2.1[i].2.2.1.length<=5:=by
 have:=z0d9 (z74 h).2.2 hi
 unfold z9q at this
 rw[z7k hi]at this
 simp only[Bool.and_eq_true,decide_eq_true_eq]at this
 exact this.1.1.2
theorem ztw {x:z09} (h1:x.1.length<=1099511627776) (hl:x.2.1.length<=1073741824) (h:∀ f∈x.2.1,f.2.1.length<=1099511627776):zov x x:=z0eg _ _ (by
 unfold z05m
 refine⟨by simp only[z11,List.length_nil];omega,?_⟩
 rw[List.nil_append]
 refine zqc x.2.1 (fun i s=>((i:Int),((x.1,(s,())),()))) hl ?_ ?_
 . intro i hi s X hs hX
   refine z0h fun _=>bcI hi (inI hi ⟨x.2.1[i],?_,⟨by simp only[z11,List.length_cons,List.length_nil];omega,?_⟩⟩)
   . simp only;rw[z2k hi];exact zpm (h _ (List.getElem_mem hi))
   . simp only;rw[z02 (by omega)];exact hX
 . intro X;exact z0h fun _=>bcN rfl)
structure SmS (s:TSk):Prop where
 rels:s.1.1.length<=1048576
 few:s.1.2.1.length<=1048576
 row:∀ f∈s.1.2.1,f.2.1.length<=1048576
 terms:s.2.1.length<=1048576
 args:∀ t∈s.2.1,t.2.2.1.length<=1048576
theorem SmS.of {s:TSk} (h:vSk s=true):SmS s:=by
 have hi:=z6p h
 have hr:=zlg (zbr hi.1)
 have hf:=z3l hi.1
 refine⟨by omega,by omega,fun f hm=>?_,by omega,fun t ht=>?_⟩
 . have h1:=zrd hi.1
   have h2:=z076 hm
   omega
 . obtain⟨i,hi,rfl⟩:=List.mem_iff_getElem.mp ht
   have:=z09k h hi
   omega
theorem zl1 {s:TSk} (h:SmS s):zbq s s:=z0av _ _ (by
 unfold zz8
 have h1:=h.rels
 have h2:=h.few
 have h3:=h.terms
 refine⟨s.1,ztw (by omega) (by omega) (fun f hf=>by have:=h.row f hf;omega),?_⟩
 refine zqc s.2.1 (fun i t=>((i:Int),(((s.1.1,(s.1.2.1,s.1.2.2)),(t,())),()))) (by omega) ?_ ?_
 . intro i hi t X hs hX
   have ha:=h.args _ (List.getElem_mem hi)
   refine z0h fun _=>bcI hi (inI hi (inI hi (inI hi ?_)))
   simp only
   rw[z2k hi,z02 (by omega),List.nil_append]
   exact⟨by simp only[z11,List.length_nil];omega,by simp only[z11,List.length_cons,List.length_nil];omega,hX⟩
 . intro X;exact z0h fun _=>bcN rfl)
theorem z073 {t:z06} (h:t.2.2.1.length<=1099511627776):zom t t:=z07y _ _ (by
 unfold zwa
 exact⟨_,z2j h,rfl⟩)
theorem zfb {x:z09} (h1:x.1.length<=1099511627776) (hl:x.2.1.length<=1073741824) (h:∀ f∈x.2.1,f.2.1.length<=1099511627776):z85 x x:=zvw _ _ (by
 unfold zl4
 exact⟨_,zi1 h1,_,zrw hl h,rfl⟩)
theorem z3s {s:TSk} (h:SmS s):z0w s s:=z049 _ _ (by
 unfold zrx
 have h1:=h.rels
 have h2:=h.few
 have h3:=h.terms
 refine⟨s.1,zfb (by omega) (by omega) (fun f hf=>by have:=h.row f hf;omega),z0h fun _=>?_⟩
 refine zqc s.2.1 (fun i t=>((i:Int),(((s.1.1,(s.1.2.1,s.1.2.2)),(t,())),()))) (by omega) ?_ ?_
 . intro i hi t X hs hX
   have ha:=h.args _ (List.getElem_mem hi)
   refine bcI hi (inI hi ⟨s.2.1[i],?_,⟨by simp only[z11,List.length_cons,List.length_nil];omega,?_⟩⟩)
   . simp only;rw[z2k hi];exact z073 (by omega)
   . simp only;rw[z02 (by omega)];exact hX
 . intro X;exact bcN rfl)
theorem z05l {s:TSk} (h:vSk s=true):z0w s s:=z3s (.of h)
def delR (l:List z00) (f:z00):List z00:=l.filter fun t=>!decide (t=f)
theorem z0jz {l:List z00} (ha:asc l) {i j:Nat} (hi:i<l.length) (hj:j<l.length) (h:i≠j):l[i]≠l[j]:=by
 intro e
 rcases Nat.lt_or_ge i j with h'|h'
 . have:=ha i j hj h';rw[cmpF_zero.mpr e]at this;omega
 . have:=ha j i hi (by omega);rw[cmpF_zero.mpr e.symm]at this;omega
theorem z0mu {l:List z00} (ha:asc l) {p:Nat} (hp:p<l.length):l.take p++l.drop (p+1)=delR l l[p]:=by
 have e:delR l l[p]=delR (l.take p++l[p]::l.drop (p+1)) l[p]:=by rw[<-z35 hp,List.take_append_drop]
 rw[e]
 unfold delR
 rw[List.filter_append,List.filter_cons,decide_eq_true rfl]
 simp only[Bool.not_true,Bool.false_eq_true,if_false]
 rw[List.filter_eq_self.mpr,List.filter_eq_self.mpr]
 . intro a hm
   obtain⟨i,hi,rfl⟩:=List.mem_iff_getElem.mp hm
   rw[List.length_drop]at hi
   rw[List.getElem_drop]
   have:=z0jz ha (i:=p+1+i) (j:=p) (by omega) hp (by omega)
   simp[this]
 . intro a hm
   obtain⟨i,hi,rfl⟩:=List.mem_iff_getElem.mp hm
   rw[List.length_take]at hi
   rw[List.getElem_take]
   have:=z0jz ha (i:=i) (j:=p) (by omega) hp (by omega)
   simp[this]
def zxk (x:z09) (f:z00):z09:=(x.1,(delR x.2.1 f,()))
theorem zxe {x:z09} {f:z00}:zez x f (z3n x&&decide (f∈x.2.1)):=zw6 _ _ _ (by
 unfold zky
 refine⟨_,z5c,z1u (fun h=>⟨_,zlp,by rw[h];rfl⟩) (fun h=>by rw[h];rfl)⟩)
theorem z01v {x:z09} {f:z00} (h:z3n x=true) (hf:f∈x.2.1):zef x f (zxk x f) true:=zpt _ _ _ _ (by
 unfold zig
 have hr:=zlg (zbr h)
 have hl:=z3l h
 refine⟨_,ztw (by omega) (by omega) (fun f hf=>z046 h hf),_,zbc,?_⟩
 rw[h,decide_eq_true hf]
 obtain⟨p,e,hp,hpf⟩:=z02s hf
 have ed:=z0mu (zpr h) hp
 rw[hpf]at ed
 refine⟨_,zls,?_⟩
 simp only
 rw[e,z02 (by omega)]
 simp only[Int.toNat_natCast,Int.toNat_zero,Nat.sub_zero,List.drop_zero,List.nil_append]
 have e2:(x.2.1.drop (p+1)).take (x.2.1.length - (p+1))=x.2.1.drop (p+1):=List.take_of_length_le (by rw[List.length_drop];exact Nat.le_refl _)
 rw[e2,ed]
 refine⟨⟨by omega,by omega,by omega,by omega⟩,⟨by omega,by omega,by omega,by omega⟩,?_,?_,rfl⟩
 . simp only[z11,List.length_take,List.length_nil];omega
 . simp only[z11,List.length_take,List.length_drop];omega)
def iAt (l:List Int) (i:Nat):Int:=l.getD i 0
theorem z0lp {l:List Int} {i:Nat} (h:i<l.length):iAt l i=l[i]:=z0y h
theorem z04d:∀ {x y:List Int},zm3 y x = - zm3 x y
 |[],[]=>rfl
 |[],b::y=>rfl
 |a::x,[]=>rfl
 | a::x,b::y=>by
   simp only[zm3]
   have:=z04d (x:=x) (y:=y)
   split<;>split<;>first|omega|(rw[this])|skip
theorem zaw {x y:z00}:z9a y x = - z9a x y:=by
 unfold z9a
 have:=z04d (x:=x.2.1) (y:=y.2.1)
 split<;>split<;>first|omega|(rw[this])|skip
theorem asc_pw {l:List z00}:asc l↔l.Pairwise fun a b=>z9a a b<0:=by
 rw[List.pairwise_iff_getElem]
 exact⟨fun h i j hi hj hij=>h i j hj hij,fun h i j hj hij=>h i j (by omega) hj hij⟩
theorem z0k9:∀ {a b:List z00},(a.Pairwise fun a b=>z9a a b<0)->(b.Pairwise fun a b=>z9a a b<0)->(∀ y,y∈a↔y∈b)->a=b
 |[],[],_,_,_=>rfl
 |[],b::m,_,_,h=>absurd ((h b).mpr (by simp)) (by simp)
 |a::l,[],_,_,h=>absurd ((h a).mp (by simp)) (by simp)
 | a::l,b::m,h1,h2,h=>by
   rw[List.pairwise_cons]at h1 h2
   have hab:a=b:=by
    have ha:=(h a).mp (by simp)
    have hb:=(h b).mpr (by simp)
    rcases List.mem_cons.mp ha with e|ha
    . exact e
    . rcases List.mem_cons.mp hb with e|hb
      . exact e.symm
      . have q1:=h2.1 a ha
        have q2:=h1.1 b hb
        rw[zaw]at q1
        omega
   subst hab
   congr 1
   refine z0k9 h1.2 h2.2 fun y=>⟨fun hy=>?_,fun hy=>?_⟩
   . rcases List.mem_cons.mp ((h y).mp (by simp[hy]))with e|h'
     . subst e;have:=h1.1 y hy;rw[cmpF_zero.mpr rfl]at this;omega
     . exact h'
   . rcases List.mem_cons.mp ((h y).mpr (by simp[hy]))with e|h'
     . subst e;have:=h2.1 y hy;rw[cmpF_zero.mpr rfl]at this;omega
     . exact h'
theorem z0lr {a b:List z00} (h1:asc a) (h2:asc b) (h:∀ y,y∈a↔y∈b):a=b:=z0k9 (asc_pw.mp h1) (asc_pw.mp h2) h
def zz6 (l:List z00) (f:z00):Nat:=z03 (fun t=>!decide (z9a t f<0)) l
def zsz (l:List z00) (f:z00):List z00:=if f∈l then l else l.take (zz6 l f)++f::l.drop (zz6 l f)
theorem z0jc {l:List z00} {f y:z00}:y∈zsz l f↔y∈l\/y=f:=by
 unfold zsz
 split
 . rename_i h
   exact⟨.inl,fun h'=>h'.elim id fun e=>e ▸ h⟩
 . have:y∈l↔y∈l.take (zz6 l f)\/y∈l.drop (zz6 l f):=by rw[<-List.mem_append,List.take_append_drop]
   rw[this,List.mem_append,List.mem_cons]
   constructor
   . rintro (h|h|h)
     . exact .inl (.inl h)
     . exact .inr h
     . exact .inl (.inr h)
   . rintro ((h|h)|h)
     . exact .inl h
     . exact .inr (.inr h)
     . exact .inr (.inl h)
theorem z0h9 {l:List z00} {f:z00}:(zsz l f).length<=l.length+1:=by
 unfold zsz
 split
 . omega
 . simp only[List.length_append,List.length_cons,List.length_take,List.length_drop];omega
theorem z0hn {l:List z00} {f:z00} (h:asc l):asc (zsz l f):=by
 unfold zsz
 split
 . exact h
 rename_i hn
 have hp:=asc_pw.mp h
 rw[asc_pw]
 have e:l=l.take (zz6 l f)++l.drop (zz6 l f):=(List.take_append_drop _ _).symm
 rw[e]at hp
 rw[List.pairwise_append]at hp ⊢
 have h1:∀ a∈l.take (zz6 l f),z9a a f<0:=by
  intro a ha
  obtain⟨i,hi,rfl⟩:=List.mem_iff_getElem.mp ha
  rw[List.length_take]at hi
  have:=z6b (p:=fun t=>!decide (z9a t f<0)) (l:=l) (i:=i) (by omega) (show i<zz6 l f by omega)
  rw[List.getElem_take]
  simpa using this
 have h2:∀ a∈l.drop (zz6 l f),z9a f a<0:=by
  intro a ha
  have hin:zz6 l f<l.length:=by
   rcases Nat.lt_or_ge (zz6 l f) l.length with h'|h'
   . exact h'
   . rw[List.drop_of_length_le h']at ha;simp at ha
  have h3:z9a f l[zz6 l f]<0:=by
   have h4:=z8u (p:=fun t=>!decide (z9a t f<0)) (l:=l) hin
   have h4:¬ z9a l[zz6 l f] f<0:=by have h4:(!decide (z9a l[zz6 l f] f<0))=true:=h4;simpa using h4
   have h5:z9a l[zz6 l f] f≠0:=fun e=>hn ((cmpF_zero.mp e) ▸ List.getElem_mem hin)
   rw[zaw];omega
  obtain⟨i,hi,rfl⟩:=List.mem_iff_getElem.mp ha
  rw[List.getElem_drop]
  rcases Nat.eq_zero_or_pos i with rfl|h0
  . simpa using h3
  . rw[List.length_drop]at hi
    exact zc0 h3 (h _ _ (by omega) (by omega))
 refine⟨hp.1,List.pairwise_cons.mpr ⟨h2,hp.2.1⟩,fun a ha b hb=>?_⟩
 rcases List.mem_cons.mp hb with rfl|hb
 . exact h1 a ha
 . exact hp.2.2 a ha b hb
def facS (l:List z00):List z00:=l.foldl zsz []
theorem zwy:∀ {l m:List z00},asc m->asc (l.foldl zsz m)
 |[],m,h=>h
 |a::l,m,h=>zwy (l:=l) (z0hn h)
theorem zuy:∀ {l m:List z00} {y:z00},y∈l.foldl zsz m↔y∈m\/y∈l
 |[],m,y=>by simp
 | a::l,m,y=>by
   rw[List.foldl_cons,zuy (l:=l),z0jc,List.mem_cons]
   constructor
   . rintro ((h|h)|h)
     . exact .inl h
     . exact .inr (.inl h)
     . exact .inr (.inr h)
   . rintro (h|h|h)
     . exact .inl (.inl h)
     . exact .inl (.inr h)
     . exact .inr h
theorem z03t:∀ {l m:List z00},(l.foldl zsz m).length<=m.length+l.length
 |[],m=>by simp
 | a::l,m=>by
   have:=z03t (l:=l) (m:=zsz m a)
   have:=z0h9 (l:=m) (f:=a)
   rw[List.foldl_cons,List.length_cons];omega
theorem z0d7:asc []:=fun i j hj _=>by simp at hj
theorem z0af (l:List z00):asc (facS l):=zwy z0d7
theorem facS_mem {l:List z00} {y:z00}:y∈facS l↔y∈l:=by unfold facS;rw[zuy];simp
theorem z0gz {a l:List z00} (h1:asc a) (h2:∀ y,y∈a↔y∈l):a=facS l:=z0lr h1 (z0af l) fun y=>by rw[h2,facS_mem]
theorem z0js {l m:List z00} (h:asc l):m.foldl zsz l=facS (l++m):=z0gz (zwy h) fun y=>by rw[zuy,List.mem_append]
def ddF (l:List z00):Nat->List z00
 |0=>[]
 |n+1=>if n=0\/zg1 l n≠zg1 l (n - 1)then ddF l n++[zg1 l n] else ddF l n
theorem z0fh {l:List z00} (hs:l.Pairwise fun a b=>z9a a b<=0):∀ {n:Nat},n<=l.length->asc (ddF l n)/\∀ y,y∈ddF l n↔y∈l.take n
 |0,_=>⟨z0d7,fun y=>by simp[ddF]⟩
 | n+1,h=>by
   obtain⟨h1,h2⟩:=z0fh hs (n:=n) (by omega)
   have hn:n<l.length:=by omega
   unfold ddF
   rw[z07 hn,z2v hn]
   have hle:∀ i j (hj:j<l.length) (hij:i<j),z9a (l[i]'(by omega)) l[j]<=0:=fun i j hj hij=>List.pairwise_iff_getElem.mp hs i j (by omega) hj hij
   split
   . rename_i hc
     refine⟨?_,fun y=>by rw[List.mem_append,List.mem_append,h2]⟩
     rw[asc_pw,List.pairwise_append]
     refine⟨asc_pw.mp h1,by simp,fun a ha b hb=>?_⟩
     obtain rfl:b=l[n]:=by simpa using hb
     obtain⟨i,hi,rfl⟩:=List.mem_iff_getElem.mp ((h2 a).mp ha)
     rw[List.length_take]at hi
     rw[List.getElem_take]
     rcases hc with hc|hc
     . omega
     . rw[z2v (by omega)]at hc
       have g1:=hle (n - 1) n hn (by omega)
       have g2:z9a l[n - 1] l[n]≠0:=fun e=>hc (cmpF_zero.mp e).symm
       rcases Nat.lt_or_ge i (n - 1)with h'|h'
       . have g3:=hle i (n - 1) (by omega) h'
         by_cases h0:z9a l[i] l[n - 1]=0
         . rw[cmpF_zero.mp h0];omega
         . exact zc0 (by omega:z9a l[i] l[n - 1]<0) (by omega)
       . have:i=n - 1:=by omega
         subst this;omega
   . rename_i hc
     refine⟨h1,fun y=>?_⟩
     rw[h2,List.mem_append]
     refine⟨.inl,fun h'=>h'.elim id fun e=>?_⟩
     have h0:n≠0:=fun e=>hc (.inl e)
     have he:l[n]=zg1 l (n - 1):=Classical.byContradiction fun h=>hc (.inr h)
     rw[z2v (by omega)]at he
     have:y=l[n - 1]:=by simpa [he]using e
     subst this
     exact List.mem_iff_getElem.mpr ⟨n - 1,by rw[List.length_take];omega,by rw[List.getElem_take]⟩
theorem z0ih {x:z09} {f:z00} (h1:x.2.1.length<=1000) (h2:f.2.1.length<=1000):z00w x f (x.1,(zsz x.2.1 f,())):=z0ja _ _ _ (by
 unfold z09a
 refine⟨_,zls,?_⟩
 rw[z09o]
 refine z0l (fun h=>by unfold zsz;rw[if_pos h]) (fun hn=>?_)
 have hle:zz6 x.2.1 f<=x.2.1.length:=zhk _ _
 have key:∀ i:Nat,i=zz6 x.2.1 f->((0:Int)<=(i:Int)/\(i:Int)<=(x.2.1.length:Int)/\(x.2.1.length:Int)<=(x.2.1.length:Int))/\((([f]:List z00)).length+(List.drop (Int.toNat (i:Int)) (List.take (Int.toNat (x.2.1.length:Int)) x.2.1)).length<=z11)/\
   (([]:List z00)++List.drop (Int.toNat (0:Int)) (List.take (Int.toNat (i:Int)) x.2.1))++([f]++List.drop (Int.toNat (i:Int)) (List.take (Int.toNat (x.2.1.length:Int)) x.2.1))=zsz x.2.1 f/\
   ([]:List z00).length+(List.drop (Int.toNat (0:Int)) (List.take (Int.toNat (i:Int)) x.2.1)).length<=z11/\
   (([]:List z00)++List.drop (Int.toNat (0:Int)) (List.take (Int.toNat (i:Int)) x.2.1)).length+([f]++List.drop (Int.toNat (i:Int)) (List.take (Int.toNat (x.2.1.length:Int)) x.2.1)).length<=z11:=by
  rintro i rfl
  simp only[Int.toNat_natCast,Int.toNat_zero,List.drop_zero,List.nil_append,List.take_length,z11,List.length_cons,List.length_nil,List.length_append,List.length_drop,List.length_take]
  refine⟨⟨by omega,by omega,by omega⟩,by omega,?_,by omega,by omega⟩
  unfold zsz
  rw[if_neg hn];rfl
 refine zep x.2.1 (fun t=>!decide (z9a t f<0)) (fun i=>((i:Int),())) (KT:=fun i=>i=zz6 x.2.1 f) (KF:=zz6 x.2.1 f=x.2.1.length) ?_ ?_ (fun _=>rfl) (fun h=>by unfold zz6;have:=zhk (fun t=>!decide (z9a t f<0)) x.2.1;omega)
 . intro i hi X q1 q2
   refine z0h fun _=>bcI hi (inI hi ⟨_,zav,?_⟩)
   simp only
   rw[z2k hi,z02 (by omega)]
   refine z0l (fun h=>q2 (by rw[decide_eq_true h];rfl)) (fun h=>?_)
   obtain⟨k1,k2,k3,k4,k5⟩:=key i (q1 (by rw[decide_eq_false h];rfl))
   refine⟨k1,f,zpm (by omega),k2,⟨by omega,by omega,by omega⟩,k4,k5,?_⟩
   show((x.1,((([]:List z00)++List.drop (Int.toNat (0:Int)) (List.take (Int.toNat (i:Int)) x.2.1))++([f]++List.drop (Int.toNat (i:Int)) (List.take (Int.toNat (x.2.1.length:Int)) x.2.1)),())),())=((x.1,(zsz x.2.1 f,())),())
   rw[k3]
 . intro X h
   obtain⟨k1,k2,k3,k4,k5⟩:=key x.2.1.length h.symm
   refine z0h fun _=>bcN ⟨k1,f,zpm (by omega),k2,⟨by omega,by simp only;omega,by simp only;omega⟩,k4,k5,?_⟩
   show((x.1,((([]:List z00)++List.drop (Int.toNat (0:Int)) (List.take (Int.toNat (x.2.1.length:Int)) x.2.1))++([f]++List.drop (Int.toNat (x.2.1.length:Int)) (List.take (Int.toNat (x.2.1.length:Int)) x.2.1)),())),())=((x.1,(zsz x.2.1 f,())),())
   rw[k3])
abbrev zTF:z9b z00:=zTk (z0e (.pair (.int .i64) (.pair (.sl 3 (.int .i64)) .unit))) z0i
def tkAt (l:List (z9b z00)) (i:Nat):z9b z00:=l.getD i zTF
theorem zlz {l:List (z9b z00)} {i:Nat} (h:i<l.length):tkAt l i=l[i]:=z0y h
def ddT (l:List (z9b z00)):Nat->List (z9b z00)
 |0=>[]
 |n+1=>if n=0\/(tkAt l n).2≠(tkAt l (n - 1)).2 then ddT l n++[tkAt l n] else ddT l n
theorem z00q {l:List (z9b z00)}:∀ {n:Nat},n<=l.length->(∀ i,1<=i->i<n->(tkAt l i).2≠(tkAt l (i - 1)).2)->ddT l n=l.take n
 |0,_,_=>by simp[ddT]
 | n+1,h,hi=>by
   unfold ddT
   rw[z00q (n:=n) (by omega) fun i h1 h2=>hi i h1 (by omega),z07 (by omega)]
   rw[if_pos,zlz (by omega)]
   rcases Nat.eq_zero_or_pos n with h0|h0
   . exact .inl h0
   . exact .inr (hi n (by omega) (by omega))
theorem z0fi {l:List (z9b z00)}:∀ {n:Nat},n<=l.length->(ddT l n).Sublist (l.take n)
 |0,_=>by simp[ddT]
 | n+1,h=>by
   have:=z0fi (l:=l) (n:=n) (by omega)
   unfold ddT
   rw[z07 (by omega)]
   split
   . rw[zlz (by omega)];exact this.append_right _
   . exact this.trans (List.sublist_append_left _ _)
theorem z097 {l:List (z9b z00)} {i:Nat}:zg1 (l.map (·.2)) i=(tkAt l i).2:=by
 unfold zg1 tkAt
 rw[List.getD_eq_getElem?_getD,List.getD_eq_getElem?_getD,List.getElem?_map]
 cases l[i]?<;>rfl
theorem z089 {l:List (z9b z00)}:∀ {n:Nat},(ddT l n).map (·.2)=ddF (l.map (·.2)) n
 |0=>rfl
 | n+1=>by
   unfold ddT ddF
   rw[z097,z097]
   split
   . rw[List.map_append,z089];rfl
   . exact z089
theorem z0km {l:List (z9b z00)} (hl:l.length<=1000):z1q l () (ddT l l.length):=z7o _ _ _ (by
 unfold z3j
 refine z0h fun _=>z0l (fun h=>?_) (fun h=>?_)
 . rw[z00q (Nat.le_refl _) (fun i h1 h2=>by omega),List.take_length]
 refine z1o (fun k a=>∃ i:Nat,i+k=l.length/\1<=i/\a=((i:Int),(l,()))/\∀ j,1<=j->j<i->(tkAt l j).2≠(tkAt l (j - 1)).2) ?_ ?_ (n:=l.length - 1) ⟨1,by omega,by omega,rfl,fun j h1 h2=>by omega⟩
 . rintro a ⟨i,hi,h1,rfl,hn⟩ X
   obtain rfl:i=l.length:=by omega
   refine z0h fun _=>bcN ?_
   rw[z00q (Nat.le_refl _) hn,List.take_length]
 . rintro k a ⟨i,hi,h1,rfl,hn⟩ X hX
   have hlt:i<l.length:=by omega
   have hw:w64 ((i:Int) - 1)=((i - 1:Nat):Int):=by rw[z1w (by omega) (by omega)];omega
   have hj:i - 1<l.length:=by omega
   refine z0h fun _=>bcI hlt (inI hlt ?_)
   simp only
   rw[hw]
   refine inI hj ⟨_,zkx _ _ _ zim,?_⟩
   rw[z2k hlt,z2k hj,z02 (by omega)]
   refine z0l (fun h=>?_) (fun h=>hX _ ⟨i+1,by omega,by omega,rfl,fun j q1 q2=>?_⟩)
   . refine⟨⟨by omega,by omega,by omega,by omega⟩,?_⟩
     have hbase:ddT l (i+1)=l.take i:=by
      unfold ddT
      rw[if_neg,z00q (by omega) hn]
      rw[zlz hlt,zlz hj,h]
      rintro (h|h)
      . omega
      . exact h rfl
     simp only[Int.toNat_natCast]
     refine z1o (fun k a=>∃(p q:Nat) (L:List (z9b z00)),q+k=l.length - i/\1<=q/\a=((p:Int),((q:Int),(L,())))/\L.length=l.length/\p+1<=i+q/\L.take p=ddT l (i+q)/\L.drop (i+q - 1)=l.drop (i+q - 1)) ?_ ?_ (n:=l.length - i - 1) ⟨i,1,l,by omega,by omega,rfl,rfl,by omega,hbase.symm,rfl⟩
     . rintro a ⟨p,q,L,hq,hq1,rfl,hL,hp,e1,e2⟩ Y
       obtain rfl:q=l.length - i:=by omega
       rw[show i+(l.length - i)=l.length by omega]at e1
       have ht:(L.take p).length=p:=by rw[List.length_take];omega
       refine z0h fun _=>bcN ⟨⟨by omega,by simp only;omega,by omega,by simp only;omega⟩,by simp only[Int.toNat_natCast];omega,⟨by omega,by omega,?_,?_⟩,?_⟩
       . simp only[List.length_append,Int.toNat_natCast,ht];omega
       . simp only[List.length_append,List.length_replicate,Int.toNat_natCast,ht];omega
       . rw[Int.toNat_natCast,List.take_left' ht,e1]
     . rintro k a ⟨p,q,L,hq,hq1,rfl,hL,hp,e1,e2⟩ Y hY
       have hlq:i+q<l.length:=by omega
       have hg:∀ j,i+q - 1<=j->j<l.length->L.getD j zTF=tkAt l j:=by
        intro j g1 g2
        have e3:=congrArg (fun m=>m.getD (j - (i+q - 1)) zTF) e2
        simp only[List.getD_eq_getElem?_getD,List.getElem?_drop]at e3
        rw[show i+q - 1+(j - (i+q - 1))=j by omega]at e3
        unfold tkAt
        simpa [List.getD_eq_getElem?_getD]using e3
       have hwq:w64 ((q:Int) - 1)=((q - 1:Nat):Int):=by rw[z1w (by omega) (by omega)];omega
       have hdd:L.drop (i+q)=l.drop (i+q):=by
        have:=congrArg (List.drop 1) e2
        rw[List.drop_drop,List.drop_drop,show i+q - 1+1=i+q by omega]at this
        exact this
       refine z0h fun _=>bcI (by omega) (inI (by omega) ?_)
       simp only
       rw[hwq]
       refine inI (by omega) ⟨_,zkx _ _ _ zim,?_⟩
       rw[Int.toNat_natCast,Int.toNat_natCast,hg (i+q) (by omega) hlq,show i+(q - 1)=i+q - 1 by omega,hg (i+q - 1) (by omega) (by omega),z02 (by omega),z02 (by omega)]
       refine zed (fun h5=>inI (by omega) ⟨⟨by omega,by omega⟩,?_⟩) (fun h5=>?_)
       . refine hY _ ⟨p+1,q+1,_,by omega,by omega,rfl,by rw[List.length_set];exact hL,by omega,?_,?_⟩
         . rw[show i+(q+1)=(i+q)+1 by omega]
           unfold ddT
           rw[if_pos (.inr h5),<-e1,Int.toNat_natCast,List.take_set,z07 (show p<L.length by omega),List.set_append]
           simp[List.length_take,Nat.min_eq_left (show p<=L.length by omega)]
         . rw[show i+(q+1) - 1=i+q by omega,<-hdd,Int.toNat_natCast,List.drop_set_of_lt (by omega)]
       . refine hY _ ⟨p,q+1,L,by omega,by omega,rfl,hL,by omega,?_,by rw[show i+(q+1) - 1=i+q by omega];exact hdd⟩
         rw[show i+(q+1)=(i+q)+1 by omega]
         unfold ddT
         rw[if_neg,e1]
         rintro (h6|h6)
         . omega
         . exact h6 h5
   . by_cases hji:j=i
     . subst hji;rw[zlz hlt,zlz hj];exact h
     . exact hn j q1 (by omega))
theorem z0hu {l:List z00} (hl:l.length<=1000):z16 l () (ddF l l.length):=z5w _ _ _ fun xs hx=>by
 subst hx
 rw[List.length_map]at hl ⊢
 refine⟨ddT xs xs.length,?_,z089,z0km hl⟩
 have:=z0fi (l:=xs) (Nat.le_refl _)
 rwa [List.take_length]at this
theorem ltF {x y:z00}:Go.Proofs.ltOf z9a x y=decide (z9a x y<0):=rfl
theorem swoF:Go.Sort.SWO (Go.Proofs.ltOf z9a):=by
 refine⟨fun x=>?_,fun x y z h1 h2=>?_,fun x y z h1 h2=>?_⟩
 . rw[ltF,cmpF_zero.mpr rfl];rfl
 . rw[ltF,decide_eq_true_eq]at h1 h2 ⊢;exact zc0 h1 h2
 . rw[ltF,decide_eq_false_iff_not]at h1 h2 ⊢
   intro h3
   by_cases h4:z9a x y=0
   . obtain rfl:=cmpF_zero.mp h4
     exact h2 h3
   . have h5:z9a y x<0:=by rw[zaw];omega
     exact h2 (zc0 h5 h3)
theorem totF {x y:z00} (h1:Go.Proofs.ltOf z9a x y=false) (h2:Go.Proofs.ltOf z9a y x=false):x=y:=by
 rw[ltF,decide_eq_false_iff_not]at h1 h2
 rw[zaw]at h2
 exact cmpF_zero.mp (by omega)
theorem z0im {l:List z00} (h:l.length<=1000):z13 l () (zfj z9a l):=z0cl (fun a b=>z69) swoF (fun _ _=>totF) (by omega)
theorem z0ix (l:List z00):(zfj z9a l).Pairwise fun a b=>z9a a b<=0:=by
 have:=List.pairwise_mergeSort (le:=fun a b=>!(decide (z9a b a<0))) (fun a b c h1 h2=>by
  simp only[Bool.not_eq_true',decide_eq_false_iff_not]at h1 h2 ⊢
  intro h3
  rw[zaw]at h1 h2
  by_cases h4:z9a a b=0
  . rw[cmpF_zero.mp h4]at h3;rw[zaw]at h3;omega
  . have:=zc0 h3 (by omega:z9a a b<0);rw[zaw]at this;omega) (fun a b=>by
  rw[zaw (x:=a) (y:=b)]
  simp
  omega) l
 refine List.Pairwise.imp (fun h=>?_) this
 simp only[Bool.not_eq_true',decide_eq_false_iff_not]at h
 rw[zaw]at h;omega
theorem z0m1 {l:List z00}:ddF (zfj z9a l) l.length=facS l:=by
 have hl:(zfj z9a l).length=l.length:=by simp[zfj]
 obtain⟨h1,h2⟩:=z0fh (z0ix l) (n:=l.length) (by omega)
 refine z0gz h1 fun y=>?_
 rw[h2,List.take_of_length_le (by omega)]
 simp[zfj]
theorem z06s {l:List z00} (hl:l.length<=1000) (h:∀ f∈l,f.2.1.length<=1000):zo5 l (facS l):=z06v _ _ (by
 unfold zw8
 have hs:(zfj z9a l).length=l.length:=by simp[zfj]
 refine⟨l,zrw (by omega) (fun f hf=>by have:=h f hf;omega),_,z0im hl,_,z0hu (by omega),?_⟩
 rw[hs,z0m1])
def z01y (d:z0a) (b:List Int):Bool:=(List.range b.length).all fun k=>decide ((k:Int)∈vars d.1) == !(iAt b k == 10)
def zqp (x:z09) (d:z0a) (b:List Int):Bool:=d.1.all fun a=>zbm a b&&decide (inst a b∈x.2.1)
def zrp (x:z09) (d:z0a) (b:List Int):Bool:=z3n x&&(zm7 x.1 d&&((b.length == 5)&&(z01y d b&&zqp x d b)))
theorem zlr {l:List z0p} {ats:List z00} (h:∀ a∈ats,z80 l a=true) {v:Int} (hv:v∈vars ats):0<=v/\v<5:=by
 unfold vars at hv
 have hv:=mem_sset.mp hv
 obtain⟨h1,h2⟩:=List.mem_filter.mp hv
 obtain⟨a,ha,hva⟩:=List.mem_flatMap.mp h1
 have:=inR_iff.mp ((z26 (h a ha)).2.2.2.2.2 v hva)
 have:0<=v:=by simpa using h2
 omega
theorem bb2:∀ u v:Bool,(!((!v) == u)) = !(u == !v):=by decide
theorem zth {l:List z0p} {a:z00} (h:z80 l a=true):a.2.1.length<=3/\∀ t∈a.2.1,-10<=t/\t<5:=by
 have:=z26 h
 exact⟨this.2.2.2.2.1,fun t ht=>by have:=inR_iff.mp (this.2.2.2.2.2 t ht);omega⟩
theorem z06q (x:z09):0<=zkz x/\zkz x<=40:=by
 have hk:∀ k∈zjr x,0<=k/\k<40:=fun k hk=>by
  have:=zo9 (l:=x.2.1.flatMap (·.2.1)) k (by rw[zhr];exact hk)
  omega
 refine⟨?_,nextN_le (n:=40) |>.mpr fun k h=>(hk k h).2⟩
 unfold zkz
 cases h:(zjr x).getLast? with
 |none=>exact Int.le_refl 0
 |some m=>have:=hk m (List.mem_of_getLast? h);simp only;omega
theorem z0la {l:List z0p} {d:z0a} (h:zm7 l d=true):(exV d).length<=6:=by
 have hd:=z9l h
 have h1:(exV d).length<=(vars d.2.1).length:=by unfold exV;exact List.length_filter_le _ _
 have h2:=zlw d.2.1
 omega
theorem zho {l:List z0p} {d:z0a} (h:zm7 l d=true) {v:Int} (hv:v∈exV d):0<=v/\v<5:=by
 have hd:=z9l h
 unfold exV at hv
 exact zlr hd.2.2.2.2.1 (List.mem_filter.mp hv).1
theorem z03b {x:z09} (h:z3n x=true) (l:List z00):l.foldl zsz x.2.1=facS (x.2.1++l):=z0js (zpr h)
theorem z04z {x:z09} {d:z0a} {b:List Int}:zki x d b (zrp x d b):=z05w _ _ _ _ (by
 unfold zs2
 refine⟨_,z5c,z0t (fun h=>by unfold zrp;rw[h];rfl) (fun h1=>⟨_,zdy,z0t (fun h=>by unfold zrp;rw[h1,h];rfl) (fun h2=>z0h fun _=>z6u (fun h=>?_) (fun h3=>?_))⟩)⟩
 . unfold zrp
   rw[show(b.length == 5)=false from beq_eq_false_iff_ne.mpr (by omega),h1,h2];rfl
 have h3:b.length=5:=by omega
 have hd:=z9l h2
 have e:zrp x d b=(z01y d b&&zqp x d b):=by unfold zrp;rw[h1,h2,h3];rfl
 rw[e]
 refine⟨_,zge (by omega),z0h fun _=>?_⟩
 refine zcc b.length (fun k=>!(decide ((k:Int)∈vars d.1) == !(iAt b k == 10))) (fun i=>((i:Int),())) (KT:=z01y d b=false) (KF:=z01y d b=true) ?_ ?_ ?_ ?_
 . intro i hi X _ q1 q2
   refine bcI hi (inI hi ⟨_,z3x,?_⟩)
   simp only
   rw[z2k hi,<-z0lp hi,z02 (by omega)]
   show z01 (!((!(iAt b i == 10)) == _)) _ _
   rw[bb2]
   exact z1u (fun h=>by rw[q1 h];rfl) q2
 . intro X hB
   refine bcN (z0h fun _=>?_)
   rw[hB,Bool.true_and]
   refine z8t d.1 (fun a=>!(zbm a b&&decide (inst a b∈x.2.1))) (fun i=>((i:Int),())) (KT:=zqp x d b=false) (KF:=zqp x d b=true) ?_ ?_ ?_ ?_
   . intro i hi X q1 q2
     have hr:=zth (hd.2.2.1 _ (List.getElem_mem hi))
     refine bcI hi (inI hi ⟨inst d.1[i] b,zbm d.1[i] b,?_,?_⟩)
     . simp only;rw[z2k hi];exact zc2 (by omega) (by omega) hr.2
     . rw[z02 (by omega)]
       refine z0t (fun h=>by rw[q1 (by rw[h];rfl)]) (fun h=>⟨_,zlp,z0t (fun h4=>?_) (fun h4=>?_)⟩)
       . have h4:inst d.1[i] b∉x.2.1:=of_decide_eq_false h4
         rw[q1 (by rw[h];simpa using h4)]
       . have h4:inst d.1[i] b∈x.2.1:=of_decide_eq_true h4
         exact q2 (by rw[h];simpa using h4)
   . intro X h;exact bcN (by rw[h])
   . intro h;rw[z4n]at h;unfold zqp;exact nt h
   . intro h;rw[z4n]at h;unfold zqp;exact nf h
 . rintro⟨i,hi,hp⟩
   unfold z01y
   rw[Bool.eq_false_iff]
   intro h
   have:=List.all_eq_true.mp h i (List.mem_range.mpr hi)
   rw[this]at hp;cases hp
 . intro h
   unfold z01y
   exact List.all_eq_true.mpr fun i hi=>nf (h i (List.mem_range.mp hi)))
theorem zon {l:List Int} {i j:Nat} {v:Int} (h:i<l.length):iAt (l.set i v) j=if j=i then v else iAt l j:=z090 h
def zvz (b c:List Int):Prop:=c.length=b.length/\∀ k,iAt b k≠10->iAt c k=iAt b k
theorem zxa (b:List Int):zvz b b:=⟨rfl,fun _ _=>rfl⟩
theorem z04k {a b c:List Int} (h1:zvz a b) (h2:zvz b c):zvz a c:=⟨h2.1.trans h1.1,fun k hk=>by
 have e:=h1.2 k hk
 rw[h2.2 k (by rw[e];exact hk),e]⟩
def zyf (c:List Int) (p:Int×Int):Prop:=if p.1<0 then p.2 = -1 - p.1 else iAt c p.1.toNat=p.2
theorem z07p:∀ {ts vs b:List Int},(zmp ts vs b).2=true->(∀ t∈ts,t<b.length)->(∀ v∈vs,v≠10)->ts.length=vs.length->
  zvz b (zmp ts vs b).1/\(∀ p∈ts.zip vs,zyf (zmp ts vs b).1 p)/\∀ k:Nat,k<b.length->(iAt (zmp ts vs b).1 k≠10↔iAt b k≠10\/(k:Int)∈ts)
 |[],vs,b,_,_,_,_=>⟨zxa b,by simp,by simp[zmp]⟩
 |t::ts,[],b,h,_,_,hl=>by simp at hl
 | t::ts,v::vs,b,h,h1,h2,hl=>by
   rw[zwn]at h ⊢
   have hv:v≠10:=h2 v (by simp)
   have hts:∀ t∈ts,t<b.length:=fun u hu=>h1 u (by simp[hu])
   have hvs:∀ v∈vs,v≠10:=fun u hu=>h2 u (by simp[hu])
   have hl':ts.length=vs.length:=by simpa using hl
   by_cases ht:t<0
   . rw [if_pos ht]at h ⊢
     by_cases hc : -1 - t=v
     . rw[if_pos hc]at h ⊢
       obtain⟨g1,g2,g3⟩:=z07p h hts hvs hl'
       refine⟨g1,fun p hp=>?_,fun k hk=>?_⟩
       . rw[List.zip_cons_cons]at hp
         rcases List.mem_cons.mp hp with rfl|hp
         . unfold zyf;rw[if_pos ht];exact hc.symm
         . exact g2 p hp
       . rw[g3 k hk,List.mem_cons]
         have:¬ (k:Int)=t:=by omega
         simp[this]
     . rw[if_neg hc]at h;simp at h
   . rw [if_neg ht]at h ⊢
     have htb:t.toNat<b.length:=by have:=h1 t (by simp);omega
     by_cases hc:b.getD t.toNat 0=10\/b.getD t.toNat 0=v
     . rw [if_pos hc]at h ⊢
       have hlen:(b.set t.toNat v).length=b.length:=by simp
       obtain⟨g1,g2,g3⟩:=z07p h (by rw[hlen];exact hts) hvs hl'
       refine⟨⟨g1.1.trans hlen,fun k hk=>?_⟩,fun p hp=>?_,fun k hk=>?_⟩
       . by_cases hkt:k=t.toNat
         . subst hkt
           have hbv:iAt b t.toNat=v:=hc.resolve_left hk
           rw[g1.2 _ (by rw[zon htb,if_pos rfl];exact hv),zon htb,if_pos rfl,hbv]
         . have e:iAt (b.set t.toNat v) k=iAt b k:=by rw[zon htb,if_neg hkt]
           rw[g1.2 k (by rw[e];exact hk),e]
       . rw[List.zip_cons_cons]at hp
         rcases List.mem_cons.mp hp with rfl|hp
         . unfold zyf;rw[if_neg ht]
           have e:iAt (b.set t.toNat v) t.toNat=v:=by rw[zon htb,if_pos rfl]
           rw[g1.2 _ (by rw[e];exact hv),e]
         . exact g2 p hp
       . rw[g3 k (by rw[hlen];exact hk),zon htb,List.mem_cons]
         by_cases hkt:k=t.toNat
         . have:(k:Int)=t:=by omega
           simp[hkt,hv]
           omega
         . have:¬ (k:Int)=t:=by omega
           simp[hkt,this]
     . rw[if_neg hc]at h;simp at h
theorem z0jp {c c':List Int} {p:Int×Int} (hg:zvz c c') (h:zyf c p) (hv:p.2≠10):zyf c' p:=by
 unfold zyf at h ⊢
 split
 . rename_i ht;rw[if_pos ht]at h;exact h
 . rename_i ht;rw[if_neg ht]at h;rw[hg.2 _ (by rw[h];exact hv),h]
theorem z0fa {v:Int} (h:zr9 v=true):v≠10:=by have:=inR_iff.mp h;omega
theorem z09n:∀ {ts vs c s:List Int},ts.length=vs.length->(∀ p∈ts.zip vs,zyf c p)->(∀ v∈vs,zr9 v=true)->(∀ t∈ts,t<c.length)->zea (zjo c) ts s = .inr (s++vs)
 |[],[],c,s,_,_,_,_=>by simp[zea]
 |[],v::vs,c,s,h,_,_,_=>by simp at h
 |t::ts,[],c,s,h,_,_,_=>by simp at h
 | t::ts,v::vs,c,s,h,h1,h2,h3=>by
   have hp:=h1 (t,v) (by simp)
   have hv:=h2 v (by simp)
   have e:zjo c s t = .inr (s++[v]):=by
    unfold zjo z0br
    unfold zyf at hp
    simp only at hp
    by_cases ht:t<0
    . rw[if_pos ht]at hp
      rw[if_neg (by omega),<-hp,if_pos hv]
    . rw[if_neg ht]at hp
      have hlt:=h3 t (by simp)
      have hp:c.getD t.toNat 0=v:=hp
      rw[if_pos (by omega),if_neg (by omega),hp,if_pos hv]
   simp only[zea,e]
   rw[z09n (by simpa using h) (fun p hp=>h1 p (by simp[hp])) (fun v hv=>h2 v (by simp[hv])) (fun t ht=>h3 t (by simp[ht]))]
   simp
theorem z09h {a f:z00} {c:List Int} (h1:a.1=f.1) (hl:a.2.1.length=f.2.1.length) (hz:∀ p∈a.2.1.zip f.2.1,zyf c p) (hv:∀ v∈f.2.1,zr9 v=true) (ht:∀ t∈a.2.1,t<c.length):zbm a c=true/\inst a c=f:=by
 have:=z09n (s:=[]) hl hz hv ht
 unfold zbm inst
 rw[this,List.nil_append,h1]
 exact⟨rfl,rfl⟩
theorem z04w {fs:List z00} {w:List Int->List (List Int)} {a:z00} {b c:List Int}:∀ {l:List z00} {out:List (List Int)},c∈l.foldl (zri fs w a b) out->c∈out\/∃ f∈l,a.1=f.1/\(zmp a.2.1 f.2.1 b).2=true/\c∈w (zmp a.2.1 f.2.1 b).1
 |[],out,h=>.inl h
 | f::l,out,h=>by
   rw[List.foldl_cons]at h
   rcases z04w h with h|⟨g,hg,h⟩
   . unfold zri at h
     split at h
     . rename_i hc
       rcases List.mem_append.mp h with h|h
       . exact .inl h
       . exact .inr ⟨f,by simp,hc.1,hc.2,h⟩
     . exact .inl h
   . exact .inr ⟨g,by simp[hg],h⟩
theorem z0fe {fs:List z00} (hv:∀ f∈fs,∀ v∈f.2.1,zr9 v=true):∀ {ats:List z00} {b c:List Int},c∈zje fs ats b->WOk fs ats->b.length=5->
  zvz b c/\(∀ a∈ats,zbm a c=true/\inst a c∈fs)/\∀ k:Nat,k<5->(iAt c k≠10↔iAt b k≠10\/∃ a∈ats,(k:Int)∈a.2.1)
 | [],b,c,h,_,_=>by
   have:c=b:=by simpa [zje]using h
   subst this
   exact⟨zxa _,by simp,by simp⟩
 | a::ats,b,c,h,hw,hb=>by
   rcases z04w (show c∈fs.foldl (zri fs (zje fs ats) a b) [] from h)with h|⟨f,hf,h1,h2,h3⟩
   . simp at h
   have hrow:=hw.row a (by simp)
   have hlen:=hw.fit a (by simp) f hf h1
   obtain⟨g1,g2,g3⟩:=z07p h2 (fun t ht=>by have:=(hrow.2 t ht).2;omega) (fun v hv'=>z0fa (hv f hf v hv')) hlen
   obtain⟨k1,k2,k3⟩:=z0fe hv h3 hw.tail (by rw[zic];exact hb)
   have hcl:c.length=5:=by rw[k1.1,zic];exact hb
   refine⟨z04k g1 k1,fun a' ha=>?_,fun k hk=>?_⟩
   . rcases List.mem_cons.mp ha with rfl|ha
     . obtain⟨m1,m2⟩:=z09h (c:=c) h1 hlen (fun p hp=>z0jp k1 (g2 p hp) (z0fa (hv f hf _ (List.of_mem_zip hp).2))) (hv f hf) (fun t ht=>by have:=(hrow.2 t ht).2;omega)
       exact⟨m1,m2 ▸ hf⟩
     . exact k2 a' ha
   . rw[k3 k hk,g3 k (by omega)]
     simp only[List.mem_cons,exists_eq_or_imp,or_assoc]
theorem z0bt {x:z09} (h:z3n x=true):∀ f∈x.2.1,∀ v∈f.2.1,zr9 v=true:=fun f hf=>(z26 (z3c h hf)).2.2.2.2.2
theorem mem_vars {ats:List z00} {k:Nat}:(k:Int)∈vars ats↔∃ a∈ats,(k:Int)∈a.2.1:=by
 unfold vars
 rw[mem_sset,List.mem_filter,List.mem_flatMap]
 simp
theorem z0c5 {x:z09} {d:z0a} {b:List Int} (h:b∈zah x d.1):b.length=5/\z01y d b=true/\zqp x d b=true:=by
 have hb:=zlu h
 unfold zah at h
 split at h
 . rename_i hm
   have hw:=(zxf hm).1
   have hx:z3n x=true:=by unfold mOk at hm;simp only[Bool.and_eq_true]at hm;exact hm.2.1
   rcases z01r h with h|h
   . simp at h
   obtain⟨_,h2,h3⟩:=z0fe (z0bt hx) h hw rfl
   refine⟨hb,?_,?_⟩
   . unfold z01y
     refine List.all_eq_true.mpr fun k hk=>?_
     have hk:k<5:=by rw[hb]at hk;exact List.mem_range.mp hk
     have e:=h3 k hk
     have hbl:iAt zcx k=10:=by
      rcases k with _|_|_|_|_|k<;>first|rfl|omega
     rw[<-mem_vars]at e
     simp only[hbl,ne_eq,not_true,false_or]at e
     by_cases hm:(k:Int)∈vars d.1
     . rw[decide_eq_true hm,show(iAt b k == 10)=false from beq_eq_false_iff_ne.mpr (e.mpr hm)];rfl
     . have:iAt b k=10:=Classical.byContradiction fun h'=>hm (e.mp h')
       rw[decide_eq_false hm,this];rfl
   . unfold zqp
     refine List.all_eq_true.mpr fun a ha=>?_
     obtain⟨m1,m2⟩:=h2 a ha
     rw[m1,decide_eq_true m2];rfl
 . simp at h
theorem z0ag {x y:z09} {d:z0a} {b:List Int} (hxy:∀ f∈x.2.1,f∈y.2.1) (h:zqp x d b=true):zqp y d b=true:=by
 unfold zqp at h ⊢
 refine List.all_eq_true.mpr fun a ha=>?_
 have:=List.all_eq_true.mp h a ha
 rw[Bool.and_eq_true,decide_eq_true_eq]at this
 rw[this.1,decide_eq_true (hxy _ this.2)];rfl
theorem z03y {b:List Int}:∀ {ts s s':List Int},zea (zjo b) ts s = .inr s'->s'=s++ts.map (fun t=>if 0<=t then iAt b t.toNat else -1 - t)/\(∀ t∈ts,zr9 (if 0<=t then iAt b t.toNat else -1 - t)=true)
 |[],s,s',h=>by simp only[zea,Sum.inr.injEq]at h;subst h;simp
 | t::ts,s,s',h=>by
   simp only[zea]at h
   cases e:zjo b s t with
   |inl _=>rw[e]at h;simp at h
   | inr s1=>
     rw[e]at h
     obtain⟨h1,h2⟩:=z03y h
     have h3:s1=s++[if 0<=t then iAt b t.toNat else -1 - t]/\zr9 (if 0<=t then iAt b t.toNat else -1 - t)=true:=by
      unfold zjo z0br at e
      by_cases ht:0<=t
      . rw [if_pos ht]at e ⊢
        by_cases hl:(b.length:Int)<=t
        . rw[if_pos hl]at e;simp at e
        . rw[if_neg hl]at e
          by_cases hv:zr9 (b.getD t.toNat 0)=true
          . rw[if_pos hv]at e
            simp only[Sum.inr.injEq]at e
            exact⟨e.symm,hv⟩
          . rw[if_neg hv]at e;simp at e
      . rw[if_neg ht]at e ⊢
        by_cases hv:zr9 (-1 - t)=true
        . rw[if_pos hv]at e
          simp only[Sum.inr.injEq]at e
          exact⟨e.symm,hv⟩
        . rw[if_neg hv]at e;simp at e
     refine⟨by rw[h1,h3.1];simp,fun u hu=>?_⟩
     rcases List.mem_cons.mp hu with rfl|hu
     . exact h3.2
     . exact h2 u hu
theorem z0ke {a:z00} {b:List Int} (h:zbm a b=true):(inst a b).1=a.1/\(inst a b).2.1=a.2.1.map (fun t=>if 0<=t then iAt b t.toNat else -1 - t)/\∀ t∈a.2.1,zr9 (if 0<=t then iAt b t.toNat else -1 - t)=true:=by
 unfold zbm at h
 unfold inst
 cases e:zea (zjo b) a.2.1 []with
 |inl r=>rw[e]at h;simp at h
 | inr s=>
   obtain⟨h1,h2⟩:=z03y e
   exact⟨rfl,by simpa using h1,h2⟩
theorem zx2 {x:z09} {f:z00} (hf:f∈x.2.1) {v:Int} (hv:v∈f.2.1) (hn:z9n v=true):z5r v<zkz x:=by
 have hr:=z06q x
 have hk:z5r v∈zjr x:=by
  unfold zjr
  rw[mem_sset,List.mem_flatMap]
  refine⟨f,hf,mem_nulls.mpr ?_⟩
  have:=isNul_iff.mp hn
  have e:z5r v = -1 - v:=by unfold z5r;rw[if_pos hn]
  rw[e]
  exact⟨by omega,by omega,by rw[show -1 - (-1 - v)=v by omega];exact hv⟩
 have:=nextN_le (x:=x) (n:=(zkz x).toNat) |>.mp (by omega) _ hk
 omega
theorem z09t {x:z09} {d:z0a} {b:List Int} (hF:zqp x d b=true) {k:Nat} (hk:(k:Int)∈vars d.1):zr9 (iAt b k)=true/\(z9n (iAt b k)=true->z5r (iAt b k)<zkz x):=by
 obtain⟨a,ha,hka⟩:=mem_vars.mp hk
 have:=List.all_eq_true.mp hF a ha
 rw[Bool.and_eq_true,decide_eq_true_eq]at this
 obtain⟨_,h2,h3⟩:=z0ke this.1
 have e:(if (0:Int)<=(k:Int)then iAt b (k:Int).toNat else -1 - (k:Int))=iAt b k:=by rw[if_pos (by omega),Int.toNat_natCast]
 have h4:=h3 _ hka
 rw[e]at h4
 refine⟨h4,fun hn=>zx2 this.2 ?_ hn⟩
 rw[h2]
 exact List.mem_map.mpr ⟨_,hka,e⟩
theorem z05a {m:Int} (h:0<=m):zkc m 0=m:=by unfold zkc;split<;>omega
theorem z0lj {m n:Int}:m<=zkc m n:=by unfold zkc;split<;>omega
theorem z0hb {dp:List Int} {m v:Int} (h:0<=m):zxb dp m v=zkc m (if z9n v then dp.getD (z5r v).toNat 0 else 0):=by
 unfold zxb
 have hn:=zkm v
 split
 . split
   . rfl
   . rename_i h2
     rw[List.getD_eq_getElem?_getD,List.getElem?_eq_none (by omega)]
     exact(z05a h).symm
 . exact(z05a h).symm
theorem zz7 {dp:List Int}:∀ {l:List Int} {m:Int},0<=m->l.foldl (zxb dp) m=l.foldl (fun m v=>zkc m (if z9n v then dp.getD (z5r v).toNat 0 else 0)) m
 |[],m,_=>rfl
 | v::l,m,h=>by
   rw[List.foldl_cons,List.foldl_cons,z0hb h]
   exact zz7 (Int.le_trans h z0lj)
theorem z0ie {dp:List Int} {l:List Int}:l.foldl (zxb dp) 0+1=za0 dp l:=by
 rw[zz7 (Int.le_refl 0),zre (g:=fun k=>dp.getD k.toNat 0) (Int.le_refl 0)]
 rfl
theorem z0ji (l m:List z06):∃ r,z2f (l++m)=z2f l++r:=by
 induction m generalizing l with
 |nil=>exact⟨[],by simp⟩
 | cons a m ih=>
   obtain⟨r,hr⟩:=ih (l++[a])
   rw[List.append_assoc,z9x,List.append_assoc]at hr
   exact⟨_,hr⟩
theorem z05n {out args:List Int} {n:Nat} (h:∀ d∈out,0<=d/\d<=n):0<=za0 out args/\za0 out args<=n+1:=by
 unfold za0
 have h0:=zkt (fun k=>out.getD k.toNat 0) (z2z args)
 have:mx (fun k=>out.getD k.toNat 0) (z2z args)<=n:=mx_le.mpr ⟨by omega,fun k _=>by
  by_cases hk:k.toNat<out.length
  . rw[z0y hk];exact(h _ (List.getElem_mem hk)).2
  . rw[List.getD_eq_getElem?_getD,List.getElem?_eq_none (by omega)];simp⟩
 omega
theorem z0hh (n:Nat):∀(l:List z06),l.length=n->∀ d∈z2f l,0<=d/\d<=l.length:=by
 induction n with
 |zero=>intro l hl;obtain rfl:=List.length_eq_zero_iff.mp hl;simp[z2f]
 | succ n ih0=>
   intro l0 hl d hd
   have hne:l0≠[]:=by intro e;rw[e]at hl;simp at hl
   obtain⟨l,t,rfl⟩:∃ l t,l0=l++[t]:=⟨_,_,(List.dropLast_concat_getLast hne).symm⟩
   have ih:=ih0 l (by simpa using hl)
   rw[z9x]at hd
   rw[List.length_append]
   simp only[List.length_cons,List.length_nil]
   rcases List.mem_append.mp hd with hd|hd
   . have:=ih d hd;omega
   . have e:d=za0 (z2f l) t.2.2.1:=by simpa using hd
     rw[e]
     have:=z05n (args:=t.2.2.1) ih
     omega
theorem z0jj (n:Nat):∀(l:List z06),l.length=n->n<=1000->l.foldl z07w []=z2f l:=by
 induction n with
 |zero=>intro l hl _;obtain rfl:=List.length_eq_zero_iff.mp hl;rfl
 | succ n ih0=>
   intro l0 hl h31
   have hne:l0≠[]:=by intro e;rw[e]at hl;simp at hl
   obtain⟨l,t,rfl⟩:∃ l t,l0=l++[t]:=⟨_,_,(List.dropLast_concat_getLast hne).symm⟩
   have hln:l.length=n:=by simpa using hl
   rw[List.foldl_append,ih0 l hln (by omega),z9x]
   simp only[List.foldl_cons,List.foldl_nil]
   unfold z07w
   rw[z0ie]
   have:=z05n (args:=t.2.2.1) (z0hh _ l rfl)
   rw[z1w (by omega) (by omega)]
theorem z051 {s:TSk} {t:z06} (hl:s.2.1.length<=30):zer s t (za0 (z2f s.2.1) t.2.2.1):=by
 have:=zrv (s:=s) (t:=t) hl
 rw[z0jj _ _ rfl (by simp;omega),z9x]at this
 have e:(z2f s.2.1++[za0 (z2f s.2.1) t.2.2.1]).getD s.2.1.length 0=za0 (z2f s.2.1) t.2.2.1:=by
  have hd:=z07l s.2.1
  rw[List.getD_eq_getElem?_getD,List.getElem?_append_right (by omega),hd]
  simp
 rw[e]at this
 exact this
def zt4 (s:TSk) (t:z06):TSk×Int×Bool:=if t∈s.2.1 then(s,-1 - zcm s.2.1 t,true)else if s.2.1.length=30\/8<za0 (z2f s.2.1) t.2.2.1 then(s,0,false)else((s.1,(s.2.1++[t],s.2.2)),-1 - (s.2.1.length:Int),true)
theorem z059 {s:TSk} {t:z06} (hl:s.2.1.length<=30):zbt s t (zt4 s t).1 (zt4 s t).2.1 (zt4 s t).2.2:=by
 by_cases hm:t∈s.2.1
 . have e:zt4 s t=(s,-1 - zcm s.2.1 t,true):=by unfold zt4;rw[if_pos hm]
   rw[e]
   exact zas hl _ _ _ (fun _=>⟨rfl,rfl,rfl⟩) (fun h=>absurd hm h)
 . have hy:=z051 (s:=s) (t:=t) hl
   by_cases h30:s.2.1.length=30
   . have e:zt4 s t=(s,0,false):=by unfold zt4;rw[if_neg hm,if_pos (.inl h30)]
     rw[e]
     exact zas hl _ _ _ (fun h=>absurd h hm) (fun _=>z0h fun _=>z3e (fun _=>rfl) (fun h=>by omega))
   . by_cases h8:za0 (z2f s.2.1) t.2.2.1 > 8
     . have e:zt4 s t=(s,0,false):=by unfold zt4;rw[if_neg hm,if_pos (.inr h8)]
       rw[e]
       exact zas hl _ _ _ (fun h=>absurd h hm) (fun _=>z0h fun _=>z3e (fun h=>by omega) (fun _=>⟨_,hy,z0l (fun _=>rfl) (fun h=>absurd h8 h)⟩))
     . have e:zt4 s t=((s.1,(s.2.1++[t],s.2.2)),-1 - (s.2.1.length:Int),true):=by unfold zt4;rw[if_neg hm,if_neg (by rintro (h|h);exact h30 h;exact h8 h)]
       rw[e]
       refine zas hl _ _ _ (fun h=>absurd h hm) (fun _=>z0h fun _=>z3e (fun h=>by omega) (fun _=>⟨_,hy,z0l (fun h=>absurd h h8) (fun _=>⟨trivial,trivial,by simp only[z11,List.length_nil];omega,by simp only[z11,List.length_append,List.length_cons,List.length_nil];omega,z0h fun _=>⟨-1 - (s.2.1.length:Int),?_,rfl⟩⟩)⟩))
       have e:w64 ((List.length ((([]:List z06)++s.2.1)++([t]:List z06)):Int) - (1:Int))=(s.2.1.length:Int):=by
        rw[z1w]<;>simp<;>omega
       rw[e]
       exact zjt (by omega) (by omega)
theorem z07z {l m:List z06} {k:Nat} (hk:k<l.length):z9q (l++m) k=z9q l k:=by
 have e:zh7 (l++m) k=zh7 l k:=by rw[z7k (by rw[List.length_append];omega),z7k hk,List.getElem_append_left hk]
 unfold z9q
 rw[e,List.take_append_of_le_length (by omega)]
theorem z0dr {ts:List z06} {t:z06} (h:zme ts=true) (hl:ts.length<30) (h1:inR t.1 0 4=true) (h2:inR t.2.1 0 4=true) (h3:t.2.2.1.length<=5) (h4:t.2.2.1.all (zcr ts.length)=true) (h5:t∉ts) (h8:za0 (z2f ts) t.2.2.1<=8):zme (ts++[t])=true:=by
 unfold zme at h ⊢
 simp only[Bool.and_eq_true,decide_eq_true_eq]at h ⊢
 obtain⟨⟨_,g2⟩,g3⟩:=h
 refine⟨⟨by simp;omega,List.all_eq_true.mpr fun k hk=>?_⟩,?_⟩
 . have hk:k<ts.length+1:=by simpa using hk
   by_cases hkl:k<ts.length
   . rw[z07z hkl];exact List.all_eq_true.mp g2 k (List.mem_range.mpr hkl)
   . obtain rfl:k=ts.length:=by omega
     unfold z9q
     have e:zh7 (ts++[t]) ts.length=t:=by rw[z7k (by simp)];simp
     rw[e,h1,h2,h4,decide_eq_true h3,List.take_append_of_le_length (Nat.le_refl _),List.take_length,zfs,decide_eq_false h5];rfl
 . rw[z9x,List.all_append,g3]
   simpa using h8
theorem z0dd {d:z0a} {i:Int} {b:List Int}:∀ {l:List Int} {s:List z06×List Int},∃ r,(l.foldl (hdG d i b) s).1=s.1++r
 |[],s=>⟨[],by simp⟩
 | v::l,s=>by
   rw[List.foldl_cons]
   obtain⟨r,hr⟩:=z0dd (d:=d) (i:=i) (b:=b) (l:=l) (s:=hdG d i b s v)
   rw[hr]
   unfold hdG
   split
   . exact⟨r,rfl⟩
   . exact⟨_,by rw[List.append_assoc]⟩
def zmg (d:z0a) (i:Int) (b:List Int) (st:List z06×List Int) (v:Int):Unit ⊕ (List z06×List Int):=
 if zjq d i b v∈st.1 then .inr (hdG d i b st v)else if st.1.length=30\/8<za0 (z2f st.1) (z8g d b)then .inl ()else .inr (hdG d i b st v)
theorem zwo {d:z0a} {i:Int} {b:List Int} {st st':List z06×List Int} {v:Int} (h:zmg d i b st v = .inr st'):st'=hdG d i b st v:=by
 unfold zmg at h
 split at h
 . exact(Sum.inr.inj h).symm
 . split at h
   . cases h
   . exact(Sum.inr.inj h).symm
theorem ztu {d:z0a} {i:Int} {b:List Int}:∀ {l:List Int} {st st':List z06×List Int},zea (zmg d i b) l st = .inr st'->st'=l.foldl (hdG d i b) st
 |[],st,st',h=>by simp only[zea,Sum.inr.injEq]at h;exact h.symm
 | v::l,st,st',h=>by
   simp only[zea]at h
   cases e:zmg d i b st v with
   |inl _=>rw[e]at h;simp at h
   |inr s1=>rw[e]at h;rw[List.foldl_cons,<-zwo e];exact ztu h
theorem z00m {d:z0a} {i:Int} {b:List Int} (hi:inR i 0 4=true) (hfr:(z8g d b).length<=5):∀ {l:List Int} {st st':List z06×List Int},(∀ v∈l,inR v 0 4=true)->(z8g d b).all (zcr st.1.length)=true->zme st.1=true->zea (zmg d i b) l st = .inr st'->zme st'.1=true
 |[],st,st',_,_,h,hr=>by simp only[zea,Sum.inr.injEq]at hr;subst hr;exact h
 | v::l,st,st',hv,ha,h,hr=>by
   simp only[zea]at hr
   cases e:zmg d i b st v with
   |inl _=>rw[e]at hr;simp at hr
   | inr s1=>
     rw[e]at hr
     have e1:=zwo e
     have hlt:=zg2 h
     have key:zme s1.1=true/\st.1.length<=s1.1.length:=by
      unfold zmg at e
      by_cases hm:zjq d i b v∈st.1
      . have:s1.1=st.1:=by rw[e1];unfold hdG;rw[if_pos hm]
        rw[this];exact⟨h,Nat.le_refl _⟩
      . rw[if_neg hm]at e
        by_cases hc:st.1.length=30\/8<za0 (z2f st.1) (z8g d b)
        . rw[if_pos hc]at e;cases e
        . have:s1.1=st.1++[zjq d i b v]:=by rw[e1];unfold hdG;rw[if_neg hm]
          rw[this]
          have h30:¬ st.1.length=30:=fun h'=>hc (.inl h')
          have h8:¬ 8<za0 (z2f st.1) (z8g d b):=fun h'=>hc (.inr h')
          exact⟨z0dr h (by omega) hi (hv v (by simp)) hfr ha hm (by unfold zjq;simp only;omega),by simp⟩
     refine z00m hi hfr (fun u hu=>hv u (by simp[hu])) (List.all_eq_true.mpr fun w hw=>?_) key.1 hr
     have:=List.all_eq_true.mp ha w hw
     unfold zcr at this ⊢
     rw[Bool.and_eq_true]at this
     rw[this.1,Bool.true_and]
     have h2:=this.2
     cases hn:z9n w with
     |false=>rfl
     | true=>
       rw[hn,Bool.true_and]at h2
       have h2:¬ (st.1.length:Int)<=z5r w:=by simpa using h2
       have:¬ (s1.1.length:Int)<=z5r w:=by omega
       simp[this]
theorem z09x {d:z0a} {i:Int} {b:List Int} {r:Unit}:∀ {l:List Int} {st:List z06×List Int},zea (zmg d i b) l st = .inl r->zme (l.foldl (hdG d i b) st).1=false
 |[],st,h=>by simp[zea]at h
 | v::l,st,h=>by
   simp only[zea]at h
   rw[List.foldl_cons]
   cases e:zmg d i b st v with
   |inr s1=>rw[e]at h;rw[<-zwo e];exact z09x h
   | inl _=>
     obtain⟨r',hr⟩:=z0dd (d:=d) (i:=i) (b:=b) (l:=l) (s:=hdG d i b st v)
     rw[hr]
     unfold zmg at e
     by_cases hm:zjq d i b v∈st.1
     . rw[if_pos hm]at e;cases e
     . rw [if_neg hm]at e
       by_cases hc:st.1.length=30\/8<za0 (z2f st.1) (z8g d b)
       . have:(hdG d i b st v).1=st.1++[zjq d i b v]:=by unfold hdG;rw[if_neg hm]
         rw[this,Bool.eq_false_iff]
         intro ha
         rcases hc with hc|hc
         . have:=zg2 ha
           simp only[List.length_append,List.length_cons,List.length_nil]at this
           omega
         . unfold zme at ha
           simp only[Bool.and_eq_true]at ha
           obtain⟨r2,hr2⟩:=z0ji (st.1++[zjq d i b v]) r'
           rw[hr2,z9x]at ha
           have:=List.all_eq_true.mp ha.2 (za0 (z2f st.1) (zjq d i b v).2.2.1) (by simp)
           have:za0 (z2f st.1) (z8g d b)<=8:=of_decide_eq_true this
           omega
       . rw[if_neg hc]at e;cases e
theorem ztn {d:z0a} {i:Int} {b:List Int}:∀ {l:List Int} {st:List z06×List Int},(∀ v∈l,0<=v/\v<5)->st.2.length=5->
  (l.foldl (hdG d i b) st).2.length=5/\∀ k:Nat,k<5->((k:Int)∈l->∃ n:Int,iAt (l.foldl (hdG d i b) st).2 k = -1 - n/\0<=n/\n<((l.foldl (hdG d i b) st).1.length:Int))/\((k:Int)∉l->iAt (l.foldl (hdG d i b) st).2 k=iAt st.2 k)
 |[],st,_,h5=>⟨h5,fun k _=>⟨by simp,by simp⟩⟩
 | v::l,st,hv,h5=>by
   rw[List.foldl_cons]
   have hvr:=hv v (by simp)
   have hset:∃ n:Int,(hdG d i b st v).2=st.2.set v.toNat (-1 - n)/\0<=n/\n<((hdG d i b st v).1.length:Int):=by
    unfold hdG
    split
    . rename_i hm
      have:=zwf hm
      exact⟨_,rfl,this.1,this.2⟩
    . exact⟨_,rfl,by omega,by simp;omega⟩
   obtain⟨n,e1,e2,e3⟩:=hset
   have h5':(hdG d i b st v).2.length=5:=by rw[z01f];exact h5
   obtain⟨g1,g2⟩:=ztn (d:=d) (i:=i) (b:=b) (l:=l) (st:=hdG d i b st v) (fun u hu=>hv u (by simp[hu])) h5'
   have hge:=z09g (d:=d) (i:=i) (b:=b) (l:=l) (s:=hdG d i b st v)
   refine⟨g1,fun k hk=>?_⟩
   obtain⟨q1,q2⟩:=g2 k hk
   refine⟨fun hm=>?_,fun hm=>?_⟩
   . by_cases hkl:(k:Int)∈l
     . exact q1 hkl
     . have hkv:(k:Int)=v:=(List.mem_cons.mp hm).resolve_right hkl
       refine⟨n,?_,e2,by omega⟩
       rw[q2 hkl,e1,zon (by omega),if_pos (by omega)]
   . have hkl:(k:Int)∉l:=fun h=>hm (by simp[h])
     have hkv:¬ (k:Int)=v:=fun h=>hm (by simp[h])
     rw[q2 hkl,e1,zon (by omega),if_neg (by omega)]
def zb7 (s:TSk) (d:z0a) (i:Int) (b:List Int):TSk:=((s.1.1,(facS (s.1.2.1++zbp d (hdS s.2.1 d i b).2),())),((hdS s.2.1 d i b).1,()))
theorem znw (d:z0a) (vs:List Int):zbp d vs=d.2.1.map fun a=>inst a vs:=by unfold zbp;rw[zlo,List.nil_append]
theorem z0a3 {l:List z0p} {fs:List z00} (h1:zdn l=true) (h2:asc fs) (h3:fs.length<=30) (h4:∀ f∈fs,zog l f=true/\(zai l f.1=true->nulF f=[])):z3n (l,(fs,()))=true:=by
 rw[zvy (x:=(l,(fs,()))) fun i hi=>?_]
 . simp only[h1,Bool.true_and];exact decide_eq_true h3
 . have hi:i<fs.length:=hi
   have hf:=h4 _ (List.getElem_mem hi)
   rw[zco (x:=(l,(fs,()))) hi hf.1 (fun h0=>by simp only;rw[z2v (by omega)];exact h2 _ _ hi (by omega))]
   simp only
   cases hs:zai l fs[i].1 with
   |false=>rfl
   |true=>rw[hf.2 hs];rfl
theorem z039 {x:z09} (h:z3n x=true) {f:z00} (hf:f∈x.2.1) (hs:zai x.1 f.1=true):nulF f=[]:=by
 unfold z3n at h
 rw[Bool.and_eq_true]at h
 obtain⟨i,hi,rfl⟩:=List.mem_iff_getElem.mp hf
 have:=List.all_eq_true.mp h.2 i (List.mem_range.mpr hi)
 unfold z9s at this
 rw[Bool.and_eq_true,z2v hi,hs,Bool.true_and]at this
 have h2:=this.2
 simp at h2
 exact h2
theorem z0lm {a:z00} {c:List Int} (h:∀ t∈a.2.1,zr9 (if 0<=t then iAt c t.toNat else -1 - t)=true) (ht:∀ t∈a.2.1,t<c.length):zbm a c=true/\inst a c=(a.1,(a.2.1.map (fun t=>if 0<=t then iAt c t.toNat else -1 - t),())):=by
 refine z09h (a:=a) (c:=c) (f:=(a.1,(a.2.1.map (fun t=>if 0<=t then iAt c t.toNat else -1 - t),()))) rfl (by simp) (fun p hp=>?_) (fun v hv=>?_) ht
 . simp only at hp
   obtain⟨j,hj,rfl⟩:=List.mem_iff_getElem.mp hp
   rw[List.getElem_zip,List.getElem_map]
   unfold zyf
   simp only
   split
   . rename_i h0;rw[if_neg (by omega)]
   . rename_i h0;rw[if_pos (by omega)]
 . obtain⟨t,ht',rfl⟩:=List.mem_map.mp hv
   exact h t ht'
structure FireOk (s:TSk) (ds:List z0a) (d:z0a) (i:Nat) (b:List Int):Prop where
 sk:vSk s=true
 pl:z5h s.1.1 ds=true
 at_:ds[i]? = some d
 b5:b.length=5
 tB:z01y d b=true
 tF:zqp s.1 d b=true
theorem zcq {l:List z0p} {ds:List z0a} (h:z5h l ds=true) {d:z0a} (hd:d∈ds):zm7 l d=true/\d.2.2.1=false/\ds.length<=5:=by
 unfold z5h at h
 rw[Bool.and_eq_true]at h
 refine⟨z04a h.1 hd,?_,zpe h.1⟩
 cases he:d.2.2.1 with
 |false=>rfl
 | true=>
   have:(ds.any fun d=>d.2.2.1)=true:=List.any_eq_true.mpr ⟨d,hd,he⟩
   rw[this]at h;simp at h
theorem z0c1 {l:List z0p} {d:z0a} (h:zm7 l d=true) (he:d.2.2.1=false):∀ a∈d.2.1,z80 l a=true/\zai l a.1=false:=by
 unfold zm7 at h
 rw[he]at h
 simp only[Bool.and_eq_true,Bool.false_eq_true,if_false]at h
 intro a ha
 have:=List.all_eq_true.mp h.2.1.1.1 a ha
 rw[Bool.and_eq_true]at this
 exact⟨this.1,by simpa using this.2⟩
theorem z0ah {l:List Int} (p:Int->Bool) (h:srt l):srt (l.filter p):=List.Pairwise.filter p h
theorem z099 {l:List z0p} {d:z0a} (h:zm7 l d=true):(frV d).length<=5:=by
 have hs:=z9l h
 refine z04o (a:=0) (n:=5) (z0ah _ (zp9 _)) fun y hy=>?_
 have:=zlr hs.2.2.2.2.1 (List.mem_filter.mp hy).1
 omega
theorem z0c8 (d:z0a) (b:List Int):z8g d b=(frV d).map fun v=>b.getD v.toNat 0:=by unfold z8g;rw[zlo,List.nil_append]
section
variable {s:TSk} {ds:List z0a} {d:z0a} {i:Nat} {b:List Int}
theorem FireOk.lt (h:FireOk s ds d i b):i<ds.length/\d∈ds:=by
 have:=h.at_
 obtain⟨hi,e⟩:=List.getElem?_eq_some_iff.mp this
 exact⟨hi,e ▸ List.getElem_mem hi⟩
theorem FireOk.args (h:FireOk s ds d i b):(z8g d b).length<=5/\(z8g d b).all (zcr s.2.1.length)=true:=by
 obtain⟨hd,_,_⟩:=zcq h.pl h.lt.2
 have hs:=z9l hd
 rw[z0c8]
 refine⟨by rw[List.length_map];exact z099 hd,List.all_eq_true.mpr fun w hw=>?_⟩
 obtain⟨v,hv,rfl⟩:=List.mem_map.mp hw
 have h1:=List.mem_filter.mp hv
 have h2:v∈vars d.1:=of_decide_eq_true h1.2
 have h3:=zlr hs.2.2.1 h2
 have:=z09t (k:=v.toNat) h.tF (by rw[show((v.toNat:Nat):Int)=v by omega];exact h2)
 have hn:=(z74 h.sk).2.1
 show zcr s.2.1.length (iAt b v.toNat)=true
 unfold zcr
 rw[this.1,Bool.true_and]
 cases hz:z9n (iAt b v.toNat)with
 |false=>rfl
 | true=>
   have:=this.2 hz
   have:¬ (s.2.1.length:Int)<=z5r (iAt b v.toNat):=by omega
   simp[this]
theorem FireOk.hdLen (h:FireOk s ds d i b):(hdS s.2.1 d i b).2.length=5/\(hdS s.2.1 d i b).1.length<=36/\s.2.1.length<=(hdS s.2.1 d i b).1.length:=by
 obtain⟨hd,_,_⟩:=zcq h.pl h.lt.2
 have h6:=z0la hd
 have ht:=zg2 (z74 h.sk).2.2
 have h1:=(ztn (d:=d) (i:=i) (b:=b) (l:=exV d) (st:=(s.2.1,b)) (fun v hv=>zho hd hv) h.b5).1
 have h2:=ze7 (l:=exV d) (g:=hdG d i b) (s:=(s.2.1,b)) (μ:=fun st=>st.1.length) (c:=1) fun st v _=>z01c d i b st v
 have h3:=z09g (d:=d) (i:=i) (b:=b) (l:=exV d) (s:=(s.2.1,b))
 simp only at h2 h3
 exact⟨h1,by unfold hdS;omega,h3⟩
theorem FireOk.vals (h:FireOk s ds d i b) {a:z00} (ha:a∈d.2.1) {t:Int} (ht:t∈a.2.1) :
  zr9 (if 0<=t then iAt (hdS s.2.1 d i b).2 t.toNat else -1 - t)=true/\(z9n (if 0<=t then iAt (hdS s.2.1 d i b).2 t.toNat else -1 - t)=true->z5r (if 0<=t then iAt (hdS s.2.1 d i b).2 t.toNat else -1 - t)<(hdS s.2.1 d i b).1.length):=by
 obtain⟨hd,he,_⟩:=zcq h.pl h.lt.2
 have hs:=z9l hd
 have hrow:=zth (hs.2.2.2.2.1 a ha)
 have htr:=hrow.2 t ht
 obtain⟨_,hl2,hl3⟩:=h.hdLen
 by_cases h0:0<=t
 . rw[if_pos h0]
   obtain⟨g1,g2⟩:=(ztn (d:=d) (i:=i) (b:=b) (l:=exV d) (st:=(s.2.1,b)) (fun v hv=>zho hd hv) h.b5).2 t.toNat (by omega)
   rw[show((t.toNat:Nat):Int)=t by omega]at g1 g2
   by_cases hx:t∈exV d
   . obtain⟨n,e1,e2,e3⟩:=g1 hx
     have e1:iAt (hdS s.2.1 d i b).2 t.toNat = -1 - n:=e1
     have e3:n<((hdS s.2.1 d i b).1.length:Int):=e3
     rw[e1]
     have hn:z9n (-1 - n)=true:=isNul_iff.mpr ⟨by omega,by omega⟩
     refine⟨inR_iff.mpr ⟨by omega,by omega⟩,fun _=>?_⟩
     unfold z5r;rw[if_pos hn];omega
   . have e1:iAt (hdS s.2.1 d i b).2 t.toNat=iAt b t.toNat:=g2 hx
     rw[e1]
     have htv:t∈vars d.2.1:=by
      rw[show t=((t.toNat:Nat):Int) by omega,mem_vars]
      exact⟨a,ha,by rw[show((t.toNat:Nat):Int)=t by omega];exact ht⟩
     have htb:t∈vars d.1:=by
      refine Classical.byContradiction fun hn=>hx ?_
      unfold exV
      exact List.mem_filter.mpr ⟨htv,by simp[hn]⟩
     have:=z09t (k:=t.toNat) h.tF (by rw[show((t.toNat:Nat):Int)=t by omega];exact htb)
     have hn:=(z74 h.sk).2.1
     exact⟨this.1,fun hz=>by have:=this.2 hz;omega⟩
 . rw[if_neg h0]
   refine⟨inR_iff.mpr ⟨by omega,by omega⟩,fun hn=>?_⟩
   have:=isNul_iff.mp hn
   omega
theorem FireOk.head (h:FireOk s ds d i b) {f:z00} (hf:f∈zbp d (hdS s.2.1 d i b).2):zog s.1.1 f=true/\(zai s.1.1 f.1=true->nulF f=[])/\(∀ v∈f.2.1,z9n v=true->z5r v<(hdS s.2.1 d i b).1.length)/\f.2.1.length<=3:=by
 obtain⟨hd,he,_⟩:=zcq h.pl h.lt.2
 rw[znw]at hf
 obtain⟨a,ha,rfl⟩:=List.mem_map.mp hf
 obtain⟨hva,hsrc⟩:=z0c1 hd he a ha
 have hrow:=zth hva
 obtain⟨hl1,_,_⟩:=h.hdLen
 obtain⟨_,e⟩:=z0lm (a:=a) (c:=(hdS s.2.1 d i b).2) (fun t ht=>(h.vals ha ht).1) (fun t ht=>by have:=(hrow.2 t ht).2;omega)
 rw[e]
 refine⟨?_,fun hs=>?_,fun v hv hn=>?_,by simpa using hrow.1⟩
 . unfold zog vRow
   have hva':=hva
   unfold z80 vRow at hva'
   simp only[Bool.and_eq_true]at hva' ⊢
   refine⟨⟨⟨hva'.1.1.1,hva'.1.1.2⟩,by simpa using hva'.1.2⟩,List.all_eq_true.mpr fun v hv=>?_⟩
   obtain⟨t,ht,rfl⟩:=List.mem_map.mp hv
   exact(h.vals ha ht).1
 . rw[hsrc]at hs;cases hs
 . obtain⟨t,ht,rfl⟩:=List.mem_map.mp hv
   exact(h.vals ha ht).2 hn
theorem FireOk.inst (h:FireOk s ds d i b):z3n (zb7 s d i b).1=decide ((zb7 s d i b).1.2.1.length<=30)/\zkz (zb7 s d i b).1<=(hdS s.2.1 d i b).1.length/\∀ f∈(zb7 s d i b).1.2.1,f.2.1.length<=3:=by
 have hx:=(z6p h.sk).1
 have hmem:∀ f∈(zb7 s d i b).1.2.1,f∈s.1.2.1\/f∈zbp d (hdS s.2.1 d i b).2:=fun f hf=>List.mem_append.mp (facS_mem.mp hf)
 refine⟨?_,?_,fun f hf=>?_⟩
 . by_cases hl:(zb7 s d i b).1.2.1.length<=30
   . rw[decide_eq_true hl]
     refine z0a3 (zbr hx) (z0af _) hl fun f hf=>?_
     rcases hmem f hf with hf|hf
     . exact⟨z3c hx hf,z039 hx hf⟩
     . exact⟨(h.head hf).1,(h.head hf).2.1⟩
   . rw[decide_eq_false hl,Bool.eq_false_iff]
     exact fun h'=>hl (z3l h')
 . refine nextN_le.mpr fun k hk=>?_
   unfold zjr at hk
   rw[mem_sset,List.mem_flatMap]at hk
   obtain⟨f,hf,hk⟩:=hk
   obtain⟨k1,k2,k3⟩:=mem_nulls.mp hk
   have hn:z9n (-1 - k)=true:=isNul_iff.mpr ⟨by omega,by omega⟩
   have hno:z5r (-1 - k)=k:=by unfold z5r;rw[if_pos hn];omega
   rcases hmem f hf with hf|hf
   . have h1:=zx2 hf k3 hn
     have h2:=(z74 h.sk).2.1
     have h3:=h.hdLen.2.2
     omega
   . have:=(h.head hf).2.2.1 _ k3 hn
     omega
 . rcases hmem f hf with hf|hf
   . exact(z26 (z3c hx hf)).2.2.2.2.1
   . exact(h.head hf).2.2.2
theorem FireOk.next (h:FireOk s ds d i b):vSk (zb7 s d i b)=(zme (hdS s.2.1 d i b).1&&decide ((zb7 s d i b).1.2.1.length<=30)):=by
 obtain⟨h1,h2,_⟩:=h.inst
 unfold vSk
 have e:(zb7 s d i b).2.1=(hdS s.2.1 d i b).1:=rfl
 rw[h1,e,decide_eq_true h2,Bool.and_true,Bool.and_comm]
theorem FireOk.run (h:FireOk s ds d i b):(∀ st,zea (zmg d i b) (exV d) (s.2.1,b) = .inr st->st=hdS s.2.1 d i b/\zme (hdS s.2.1 d i b).1=true)/\(∀ r,zea (zmg d i b) (exV d) (s.2.1,b) = .inl r->zme (hdS s.2.1 d i b).1=false):=by
 obtain⟨hd,_,h5⟩:=zcq h.pl h.lt.2
 have hi:=h.lt.1
 refine⟨fun st hr=>?_,fun r hr=>z09x hr⟩
 have e:=ztu hr
 refine⟨e,?_⟩
 have:=z00m (inR_iff.mpr ⟨by omega,by omega⟩) h.args.1 (fun v hv=>by have:=zho hd hv;exact inR_iff.mpr ⟨by omega,by omega⟩) h.args.2 (z74 h.sk).2.2 hr
 rw[e]at this
 exact this
end
def zwh (s:TSk) (d:z0a) (i:Nat) (b:List Int):TSk×Bool:=if zme (hdS s.2.1 d i b).1 then(zb7 s d i b,decide ((zb7 s d i b).1.2.1.length<=30))else(s,false)
section
variable {s:TSk} {ds:List z0a} {d:z0a} {i:Nat} {b:List Int}
theorem FireOk.res (h:FireOk s ds d i b):(zwh s d i b).2=vSk (zb7 s d i b)/\(vSk (zb7 s d i b)=true->(zwh s d i b).1=zb7 s d i b):=by
 rw[h.next]
 unfold zwh
 cases zme (hdS s.2.1 d i b).1 with
 |true=>exact⟨rfl,fun _=>rfl⟩
 |false=>exact⟨rfl,fun h=>by cases h⟩
theorem FireOk.getD_ (h:FireOk s ds d i b):ds.getD (Int.toNat (i:Int)) z36=d:=by
 rw[Int.toNat_natCast,List.getD_eq_getElem?_getD,h.at_];rfl
theorem z0bw (h:FireOk s ds d i b):zr7 s ds i b (zwh s d i b).1 (zwh s d i b).2:=z0bc _ _ _ _ _ _ (by
 unfold zzk
 obtain⟨hd,he,_⟩:=zcq h.pl h.lt.2
 have hs:=z9l hd
 have hil:=h.lt.1
 have hb:=h.b5
 have hts:=zg2 (z74 h.sk).2.2
 have hfl:=z099 hd
 have hx:=(z6p h.sk).1
 have hxl:=z3l hx
 rw[h.getD_]
 refine inI hil ⟨_,ze4 (by omega) (by omega),?_⟩
 refine z38 (frV d) (fun s v=>s++[b.getD v.toNat 0]) [] (fun j s=>((j:Int),(s,()))) List.length 1 5 hfl (fun s v _=>by simp) ?_ ?_
 . intro j hj a X hs' hX
   have hv:=zlr hs.2.2.2.2.1 (List.mem_filter.mp (List.getElem_mem hj)).1
   refine z0h fun _=>bcI hj (inI hj ?_)
   simp only
   rw[z2k hj,z02 (by omega)]
   exact⟨⟨by omega,by omega⟩,by simp only[z11,List.length_cons,List.length_nil]at *;omega,hX⟩
 . intro X _
   have efr:(frV d).foldl (fun s v=>s++[b.getD v.toNat 0]) []=z8g d b:=rfl
   rw[efr]
   have hal:=h.args.1
   refine z0h fun _=>bcN ⟨by simp only[z11,List.length_nil];omega,?_⟩
   refine inI hil ⟨_,zay (by omega) (by omega),?_⟩
   simp only[List.nil_append]
   refine zgd (exV d) (zmg d i b) (s.2.1,b) (fun j st=>((j:Int),(((([]:List z0p),(([]:List z00),())),(([]:List z06),())),((s.1,(st.1,())),(st.2,()))))) (KR:=fun _=>((s,(false,())):TSk×Bool×Unit)=((zwh s d i b).1,((zwh s d i b).2,()))) ?_ ?_ ?_
   . intro j hj st Y hr q1 q2
     have hv:=zho hd (List.getElem_mem hj)
     have e0:=ztu hr
     have h5:st.2.length=5:=by
      rw[e0]
      exact(ztn (d:=d) (i:=i) (b:=b) (l:=(exV d).take j) (st:=(s.2.1,b)) (fun v hv=>zho hd (List.mem_of_mem_take hv)) hb).1
     have hta:zme st.1=true:=z00m (inR_iff.mpr ⟨by omega,by have:=(zcq h.pl h.lt.2).2.2;omega⟩) hal (fun v hv=>by have:=zho hd (List.mem_of_mem_take hv);exact inR_iff.mpr ⟨by omega,by omega⟩) h.args.2 (z74 h.sk).2.2 hr
     have htl:=zg2 hta
     refine z0h fun _=>bcI hj (inI hj ⟨trivial,trivial,by simp only[z11,List.length_nil];omega,?_⟩)
     simp only
     rw[z2k hj,z02 (by omega)]
     have et:(((i:Int),((exV d)[j],(z8g d b,()))):z06)=zjq d i b (exV d)[j]:=rfl
     rw[et]
     refine⟨_,_,_,z059 htl,?_⟩
     unfold zt4
     simp only
     by_cases hm:zjq d i b (exV d)[j]∈st.1
     . rw[if_pos hm]
       refine z0t (fun h=>by cases h) (fun _=>inI hj ⟨⟨by omega,by omega⟩,?_⟩)
       have:=q2 (hdG d i b st (exV d)[j]) (by unfold zmg;rw[if_pos hm])
       unfold hdG at this
       rw[if_pos hm]at this
       exact this
     . rw[if_neg hm]
       have ea:(zjq d i b (exV d)[j]).2.2.1=z8g d b:=rfl
       rw[ea]
       by_cases hc:st.1.length=30\/8<za0 (z2f st.1) (z8g d b)
       . rw[if_pos hc]
         exact z0t (fun _=>q1 () (by unfold zmg;rw[if_neg hm,if_pos hc])) (fun h=>by cases h)
       . rw[if_neg hc]
         refine z0t (fun h=>by cases h) (fun _=>inI hj ⟨⟨by omega,by omega⟩,?_⟩)
         have:=q2 (hdG d i b st (exV d)[j]) (by unfold zmg;rw[if_neg hm,if_neg hc])
         unfold hdG at this
         rw[if_neg hm]at this
         exact this
   . intro st Y hr
     obtain⟨rfl,hta⟩:=h.run.1 st hr
     refine z0h fun _=>bcN ?_
     obtain⟨hl1,hl2,hl3⟩:=h.hdLen
     simp only
     generalize hvs:(hdS s.2.1 d i b).2=vs at hl1 ⊢
     have hm:∀ k,(((d.2.1.take k).map fun a=>inst a vs).foldl zsz s.1.2.1).length<=32:=fun k=>by
      have:=z03t (l:=(d.2.1.take k).map fun a=>inst a vs) (m:=s.1.2.1)
      rw[List.length_map,List.length_take]at this
      omega
     refine z1x d.2.1.length (fun k=>((k:Int),(((s.1.1,(((d.2.1.take k).map fun a=>inst a vs).foldl zsz s.1.2.1,())),((hdS s.2.1 d i b).1,())),()))) (by simp) ?_ ?_
     . intro k hk Z hZ
       have hr:=zth (hs.2.2.2.2.1 _ (List.getElem_mem hk))
       have hmk:=hm k
       have hil2:=z0j0 (a:=d.2.1[k]) (b:=vs)
       refine inI hil (z0h fun _=>bcI hk (inI hil (inI hk ⟨inst d.2.1[k] vs,zbm d.2.1[k] vs,?_,_,z0ih (by simp only;omega) (by simp only;omega),?_⟩)))
       . simp only;rw[z2k hk];exact zgs (by omega) (by omega) hr.2
       . simp only
         rw[z02 (by omega)]
         rw[z07 hk,List.map_append,List.foldl_append]at hZ
         exact hZ
     . intro Z
       refine inI hil (z0h fun _=>bcN (z0h fun _=>?_))
       simp only[List.take_length]
       have e:(d.2.1.map fun a=>inst a vs).foldl zsz s.1.2.1=facS (s.1.2.1++zbp d (hdS s.2.1 d i b).2):=by
        rw[hvs,znw];exact z03b hx _
       rw[e]
       unfold zwh
       rw[hta,if_pos rfl]
       have e2:decide (((facS (s.1.2.1++zbp d (hdS s.2.1 d i b).2)).length:Int)<=30)=decide ((zb7 s d i b).1.2.1.length<=30):=decide_eq_decide.mpr (by unfold zb7;simp only;omega)
       rw[e2];rfl
   . intro r hr
     have:=h.run.2 r hr
     unfold zwh
     rw[this];rfl)
end
theorem zxs {s:TSk} {ds:List z0a} {d:z0a} {i:Nat} {b:List Int} (h:FireOk s ds d i b):zgv s ds i b (if vSk (zb7 s d i b)then zb7 s d i b else s) (vSk (zb7 s d i b)):=zy6 _ _ _ _ _ _ (by
 unfold zn0
 obtain⟨hd,he,h5⟩:=zcq h.pl h.lt.2
 have hs:=z9l hd
 have hil:=h.lt.1
 have hts:=zg2 (z74 h.sk).2.2
 have hx:=(z6p h.sk).1
 have hxl:=z3l hx
 have hcp:z0w s s:=z05l h.sk
 have hsm:=SmS.of h.sk
 have no:vSk (zb7 s d i b)=false->((s,(false,())):TSk×Bool×Unit)=(if vSk (zb7 s d i b)then zb7 s d i b else s,(vSk (zb7 s d i b),())):=fun h=>by rw[h];rfl
 refine⟨_,z43,z0t (fun h'=>by rw[h.sk]at h';cases h') (fun _=>⟨_,zil,z0t (fun h'=>by rw[h.pl]at h';cases h') (fun _=>z0h fun hl=>?_)⟩)⟩
 rw[z1w (n:=(ds.length:Int) - 1) (by omega) (by omega)]
 have hin:inR (i:Int) 0 ((ds.length:Int) - 1)=true:=inR_iff.mpr ⟨by omega,by omega⟩
 refine⟨_,z9o,z0t (fun h'=>by rw[hin]at h';cases h') (fun _=>inI hil ?_)⟩
 rw[h.getD_]
 have htr:zrp s.1 d b=true:=by unfold zrp;rw[hx,hd,h.tB,h.tF,h.b5];rfl
 refine⟨_,z04z,z0t (fun h'=>by rw[htr]at h';cases h') (fun _=>?_)⟩
 have hdi:ds[i]=d:=by have:=h.at_;rw[List.getElem?_eq_getElem hil]at this;exact Option.some.inj this
 have hg:=z05i (ts:=s.2.1) (b:=b) hil (by rw[hdi];exact z0k8 hd) hts h.b5
 rw[hdi]at hg
 refine⟨_,_,hg,?_⟩
 obtain⟨hl1,hl2,hl3⟩:=h.hdLen
 have hal:=h.args.1
 have hhl:(zbp d (hdS s.2.1 d i b).2).length<=2:=by rw[znw,List.length_map];exact hs.2.2.2.1
 have hta:∀ t∈(hdS s.2.1 d i b).1,t.2.2.1.length<=1048576:=by
  have:∀(l:List Int) (st:List z06×List Int),(∀ t∈st.1,t.2.2.1.length<=1048576)->∀ t∈(l.foldl (hdG d i b) st).1,t.2.2.1.length<=1048576:=by
   intro l
   induction l with
   |nil=>intro st h;exact h
   | cons v l ih=>
     intro st hst
     rw[List.foldl_cons]
     refine ih _ fun t ht=>?_
     unfold hdG at ht
     split at ht
     . exact hst t ht
     . rcases List.mem_append.mp ht with ht|ht
       . exact hst t ht
       . obtain rfl:t=zjq d i b v:=by simpa using ht
         show(z8g d b).length<=_
         omega
  exact this (exV d) (s.2.1,b) hsm.args
 refine⟨_,z3s (s:=(s.1,((hdS s.2.1 d i b).1,()))) ⟨hsm.rels,hsm.few,hsm.row,by simp only;omega,hta⟩,by simp only[z11];omega,_,z06s (by simp only[List.length_append];omega) (fun f hf=>?_),_,z43,?_⟩
 . rcases List.mem_append.mp hf with hf|hf
   . have:=(z26 (z3c hx hf)).2.2.2.2.1;omega
   . have:=(h.head hf).2.2.2;omega
 . have e:(((s.1.1,(facS (s.1.2.1++zbp d (hdS s.2.1 d i b).2),s.1.2.2)),((hdS s.2.1 d i b).1,())):TSk)=zb7 s d i b:=rfl
   simp only
   rw[e]
   exact z0t (fun hv=>⟨s,hcp,no hv⟩) (fun hv=>by rw[hv];rfl))
def zpq (d:z0a) (i:Nat) (st:TSk) (b:List Int):Unit ⊕ TSk:=if vSk (zb7 st d i b)then .inr (zb7 st d i b)else .inl ()
def depE (ds:List z0a) (st:TSk) (i:Nat):Unit ⊕ TSk:=zea (zpq (ds.getD i z36) i) (zah st.1 (ds.getD i z36).1) st
def zu4 (ds:List z0a) (st:TSk):Unit ⊕ TSk:=zea (depE ds) (List.range ds.length) st
def zbj (ds:List z0a):Nat->TSk->Unit ⊕ TSk
 |0,st=>.inr st
 | n+1,st=>match zu4 ds st with
   |.inl _=>.inl ()
   |.inr st'=>if st'.1.2.1.length=st.1.2.1.length then .inr st' else zbj ds n st'
def skc (s:TSk) (ds:List z0a):TSk×Bool:=if vSk s&&z5h s.1.1 ds then(match zbj ds 31 s with
 |.inl _=>(s,false)
 |.inr y=>(y,true))else(s,false)
structure Goes (a b:TSk):Prop where
 sk:vSk b=true
 rels:b.1.1=a.1.1
 sub:∀ f∈a.1.2.1,f∈b.1.2.1
 len:a.1.2.1.length<=b.1.2.1.length
theorem Goes.refl {a:TSk} (h:vSk a=true):Goes a a:=⟨h,rfl,fun _ h=>h,Nat.le_refl _⟩
theorem Goes.trans {a b c:TSk} (h1:Goes a b) (h2:Goes b c):Goes a c:=⟨h2.sk,h2.rels.trans h1.rels,fun f hf=>h2.sub f (h1.sub f hf),Nat.le_trans h1.len h2.len⟩
theorem z0kh {l:List z00} {f:z00}:l.length<=(zsz l f).length:=by
 unfold zsz
 split
 . exact Nat.le_refl _
 . simp only[List.length_append,List.length_cons,List.length_take,List.length_drop];omega
theorem z09m:∀ {l m:List z00},m.length<=(l.foldl zsz m).length
 |[],m=>Nat.le_refl _
 |a::l,m=>by rw[List.foldl_cons];exact Nat.le_trans z0kh (z09m (l:=l))
theorem znk {d:z0a} {i:Nat} {st st':TSk} {b:List Int} (hv:vSk st=true) (h:zpq d i st b = .inr st'):Goes st st':=by
 unfold zpq at h
 split at h
 . rename_i hn
   obtain rfl:=Sum.inr.inj h
   refine⟨hn,rfl,fun f hf=>facS_mem.mpr (List.mem_append_left _ hf),?_⟩
   show st.1.2.1.length<=(facS (st.1.2.1++_)).length
   rw[<-z03b (z6p hv).1]
   exact z09m
 . cases h
theorem zfd {α:Type} {g:TSk->α->Unit ⊕ TSk} (hg:∀ st a st',vSk st=true->g st a = .inr st'->Goes st st'):∀ {l:List α} {st st':TSk},vSk st=true->zea g l st = .inr st'->Goes st st'
 |[],st,st',hv,h=>by simp only[zea,Sum.inr.injEq]at h;subst h;exact .refl hv
 | a::l,st,st',hv,h=>by
   simp only[zea]at h
   cases e:g st a with
   |inl _=>rw[e]at h;simp at h
   | inr s1=>
     rw[e]at h
     have h1:=hg st a s1 hv e
     exact h1.trans (zfd hg h1.sk h)
theorem zv6 {ds:List z0a} {st st':TSk} {i:Nat} (hv:vSk st=true) (h:depE ds st i = .inr st'):Goes st st':=zfd (fun st b st' hv h=>znk hv h) hv h
theorem znh {ds:List z0a} {st st':TSk} (hv:vSk st=true) (h:zu4 ds st = .inr st'):Goes st st':=zfd (fun st b st' hv h=>zv6 hv h) hv h
theorem z0ev {ds:List z0a} {st0 st:TSk} {i:Nat} (hi:i<ds.length) (hp:z5h st0.1.1 ds=true) (hg:Goes st0 st) {b:List Int} (hb:b∈zah st0.1 (ds.getD i z36).1):FireOk st ds (ds.getD i z36) i b:=by
 obtain⟨h5,hB,hF⟩:=z0c5 hb
 exact⟨hg.sk,by rw[hg.rels];exact hp,by rw[List.getD_eq_getElem?_getD,List.getElem?_eq_getElem hi];rfl,h5,hB,z0ag hg.sub hF⟩
theorem z0d1 {s:TSk} (h:vSk s=true):s.1.2.1.length<=30:=z3l (z6p h).1
theorem z05k {s:TSk} {ds:List z0a} (h:(vSk s&&z5h s.1.1 ds)=false):skc s ds=(s,false):=by unfold skc;rw[h];rfl
theorem z07h {s:TSk} {ds:List z0a} {r:Unit} (h:(vSk s&&z5h s.1.1 ds)=true) (hr:zbj ds 31 s = .inl r):skc s ds=(s,false):=by unfold skc;rw[h,hr];rfl
theorem z01t {s y:TSk} {ds:List z0a} (h:(vSk s&&z5h s.1.1 ds)=true) (hr:zbj ds 31 s = .inr y):skc s ds=(y,true):=by unfold skc;rw[h,hr];rfl
theorem zne {s:TSk} {ds:List z0a} (hsm:SmS s):zc5 s ds (skc s ds).1 (skc s ds).2:=zy0 _ _ _ _ (by
 unfold zmt
 have hcp:zbq s s:=zl1 hsm
 refine⟨s,hcp,_,z89,z0t (fun h=>by rw[z05k (by rw[h];rfl)]) (fun h1=>⟨_,zod,z0t (fun h=>by rw[z05k (by rw[h1,h];rfl)]) (fun h2=>?_)⟩)⟩
 have h12:(vSk s&&z5h s.1.1 ds)=true:=by rw[h1,h2];rfl
 have h5:ds.length<=5:=by have h3:=h2;unfold z5h at h3;rw[Bool.and_eq_true]at h3;exact zpe h3.1
 refine z1o (fun k a=>∃ st:TSk,a=(st,(((([]:List z0p),(([]:List z00),())),(([]:List z06),())),()))/\Goes s st/\30<st.1.2.1.length+k/\zbj ds k st=zbj ds 31 s) ?_ ?_ (n:=31) ⟨s,rfl,.refl h1,by omega,rfl⟩
 . rintro a ⟨st,rfl,hg,hk,_⟩ X
   have:=z0d1 hg.sk
   omega
 . rintro k a ⟨st,rfl,hg,hk,hc⟩ X hX
   have hpl:z5h st.1.1 ds=true:=by rw[hg.rels];exact h2
   have bad:∀ r:Unit,zu4 ds st = .inl r->((s,(false,())):TSk×Bool×Unit)=((skc s ds).1,((skc s ds).2,())):=fun r hr=>by rw[z07h (r:=()) h12 (by rw[<-hc,zbj,hr])]
   refine z0h fun _=>?_
   simp only
   refine zgd (List.range ds.length) (depE ds) st (fun i q=>((i:Int),(((([]:List z0p),(([]:List z00),())),(([]:List z06),())),(q,())))) (KR:=fun _=>((s,(false,())):TSk×Bool×Unit)=((skc s ds).1,((skc s ds).2,()))) ?_ ?_ bad
   . intro i hi q Y hr q1 q2
     have hi:i<ds.length:=by simpa using hi
     rw[List.getElem_range]at q1 q2
     have hq:Goes st q:=zfd (fun st b st' hv h=>zv6 hv h) hg.sk hr
     have hpq:z5h q.1.1 ds=true:=by rw[hq.rels];exact hpl
     refine z0h fun _=>bcI hi (inI hi ⟨_,zmy,?_⟩)
     simp only
     rw[Int.toNat_natCast,z02 (by omega)]
     have hM:=zjw (x:=q.1) (l:=(ds.getD i z36).1)
     refine zgd (zah q.1 (ds.getD i z36).1) (zpq (ds.getD i z36) i) q (fun j p=>((j:Int),(((([]:List z0p),(([]:List z00),())),(([]:List z06),())),(p,())))) (KR:=fun _=>((s,(false,())):TSk×Bool×Unit)=((skc s ds).1,((skc s ds).2,()))) ?_ ?_ q1
     . intro j hj p Z hr2 p1 p2
       have hp:Goes q p:=zfd (fun st b st' hv h=>znk hv h) hq.sk hr2
       have hf:=z0ev hi hpq hp (List.getElem_mem hj)
       obtain⟨r1,r2⟩:=hf.res
       refine z0h fun _=>bcI hj (inI hj ⟨trivial,(zwh p (ds.getD i z36) i (zah q.1 (ds.getD i z36).1)[j]).1,(zwh p (ds.getD i z36) i (zah q.1 (ds.getD i z36).1)[j]).2,?_,?_⟩)
       . simp only
         rw[z2k hj]
         exact z0bw hf
       . simp only
         rw[z02 (by omega),r1]
         refine z0t (fun hv=>⟨s,hcp,p1 () (by unfold zpq;rw[hv];rfl)⟩) (fun hv=>?_)
         rw[r2 hv]
         exact p2 _ (by unfold zpq;rw[hv];rfl)
     . intro p Z hr2
       exact z0h fun _=>bcN (q2 p hr2)
   . intro q Y hr
     have hr:zu4 ds st = .inr q:=hr
     have hq:Goes st q:=znh hg.sk hr
     simp only[List.length_range]
     refine z0h fun _=>bcN (z0h fun _=>z3e (fun h=>?_) (fun h=>?_))
     . have h:q.1.2.1.length=st.1.2.1.length:=by omega
       rw[z01t (y:=q) h12 (by rw[<-hc,zbj,hr];simp only;rw[if_pos h])]
     . have h:¬ q.1.2.1.length=st.1.2.1.length:=by omega
       have:=hq.len
       exact hX _ ⟨q,rfl,hg.trans hq,by omega,by rw[<-hc,zbj,hr];simp only;rw[if_neg h]⟩)
theorem zh3 {s:TSk} {ds:List z0a} (hsm:SmS s):zc9 s ds (skc s ds).1 (skc s ds).2:=zyd _ _ _ _ (by
 unfold znc
 have hcp:z0w s s:=z3s hsm
 refine⟨_,z43,z0t (fun h=>⟨s,hcp,by rw[z05k (by rw[h];rfl)]⟩) (fun h1=>⟨_,zil,z0t (fun h=>⟨s,hcp,by rw[z05k (by rw[h1,h];rfl)]⟩) (fun h2=>⟨s,hcp,?_⟩)⟩)⟩
 have h12:(vSk s&&z5h s.1.1 ds)=true:=by rw[h1,h2];rfl
 have h5:ds.length<=5:=by have h3:=h2;unfold z5h at h3;rw[Bool.and_eq_true]at h3;exact zpe h3.1
 refine z1o (fun k a=>∃(st:TSk) (b:Int),a=(b,(st,(((([]:List z0p),(([]:List z00),())),(([]:List z06),())),())))/\Goes s st/\((b=(st.1.2.1.length:Int)/\zbj ds 31 s = .inr st)\/(b≠(st.1.2.1.length:Int)/\30<st.1.2.1.length+k/\zbj ds k st=zbj ds 31 s))) ?_ ?_ (n:=31) ⟨s,-1,rfl,.refl h1,.inr ⟨by omega,by omega,rfl⟩⟩
 . rintro a ⟨st,b,rfl,hg,hk⟩ X
   have:=z0d1 hg.sk
   rcases hk with⟨hb,hc⟩|⟨hb,hk,_⟩
   . refine z0h fun _=>z6u (fun h=>absurd hb h) (fun _=>?_)
     rw[z01t h12 hc]
   . omega
 . rintro k a ⟨st,b,rfl,hg,hk⟩ X hX
   rcases hk with⟨hb,hc⟩|⟨hb,hk,hc⟩
   . refine z0h fun _=>z6u (fun h=>absurd hb h) (fun _=>?_)
     rw[z01t h12 hc]
   have hpl:z5h st.1.1 ds=true:=by rw[hg.rels];exact h2
   have bad:∀ r:Unit,zu4 ds st = .inl r->((s,(false,())):TSk×Bool×Unit)=((skc s ds).1,((skc s ds).2,())):=fun r hr=>by rw[z07h (r:=()) h12 (by rw[<-hc,zbj,hr])]
   refine z0h fun _=>z6u (fun _=>z0h fun _=>z0h fun _=>?_) (fun h=>absurd h hb)
   simp only
   refine zgd (List.range ds.length) (depE ds) st (fun i q=>((i:Int),(q,(((([]:List z0p),(([]:List z00),())),(([]:List z06),())),())))) (KR:=fun _=>((s,(false,())):TSk×Bool×Unit)=((skc s ds).1,((skc s ds).2,()))) ?_ ?_ bad
   . intro i hi q Y hr q1 q2
     have hi:i<ds.length:=by simpa using hi
     rw[List.getElem_range]at q1 q2
     have hq:Goes st q:=zfd (fun st b st' hv h=>zv6 hv h) hg.sk hr
     have hpq:z5h q.1.1 ds=true:=by rw[hq.rels];exact hpl
     refine bcI hi (inI hi ⟨_,znb,z0h fun _=>?_⟩)
     simp only
     rw[Int.toNat_natCast,z02 (by omega)]
     have hM:=zjw (x:=q.1) (l:=(ds.getD i z36).1)
     refine zgd (zah q.1 (ds.getD i z36).1) (zpq (ds.getD i z36) i) q (fun j p=>((j:Int),(p,(((([]:List z0p),(([]:List z00),())),(([]:List z06),())),())))) (KR:=fun _=>((s,(false,())):TSk×Bool×Unit)=((skc s ds).1,((skc s ds).2,()))) ?_ ?_ q1
     . intro j hj p Z hr2 p1 p2
       have hp:Goes q p:=zfd (fun st b st' hv h=>znk hv h) hq.sk hr2
       have hf:=z0ev hi hpq hp (List.getElem_mem hj)
       refine bcI hj (inI hj ⟨if vSk (zb7 p (ds.getD i z36) i (zah q.1 (ds.getD i z36).1)[j])then zb7 p (ds.getD i z36) i (zah q.1 (ds.getD i z36).1)[j] else p,vSk (zb7 p (ds.getD i z36) i (zah q.1 (ds.getD i z36).1)[j]),?_,?_⟩)
       . simp only
         rw[z2k hj]
         exact zxs hf
       . simp only
         rw[z02 (by omega)]
         refine z0t (fun hv=>⟨s,hcp,p1 () (by unfold zpq;rw[hv];rfl)⟩) (fun hv=>?_)
         rw[if_pos hv]
         exact p2 _ (by unfold zpq;rw[hv];rfl)
     . intro p Z hr2
       exact bcN (q2 p hr2)
   . intro q Y hr
     have hr:zu4 ds st = .inr q:=hr
     have hq:Goes st q:=znh hg.sk hr
     simp only[List.length_range]
     refine bcN (hX _ ⟨q,_,rfl,hg.trans hq,?_⟩)
     by_cases h:q.1.2.1.length=st.1.2.1.length
     . exact .inl ⟨by omega,by rw[<-hc,zbj,hr];simp only;rw[if_pos h]⟩
     . have:=hq.len
       exact .inr ⟨by omega,by omega,by rw[<-hc,zbj,hr];simp only;rw[if_neg h]⟩)
def zul (s:TSk) (ds:List z0a):Bool:=(skc s ds).2&&(zyp s ds&&((skc s ds).1.1.2.1.length == s.1.2.1.length))
theorem z02x {s:TSk} {ds:List z0a} (hsm:SmS s):zhz s ds (zul s ds):=z00x _ _ _ (by
 unfold zps
 refine⟨_,_,zne hsm,z1u (fun h1=>⟨_,zs7,z1u (fun h2=>z0h fun _=>z0h fun _=>?_) (fun h2=>by unfold zul;rw[h1,h2];rfl)⟩) (fun h1=>by unfold zul;rw[h1];rfl)⟩
 unfold zul
 rw[h1,h2]
 have:(((skc s ds).1.1.2.1.length:Int) == (s.1.2.1.length:Int))=((skc s ds).1.1.2.1.length == s.1.2.1.length):=by rw[Bool.eq_iff_iff];simp;omega
 rw[this];rfl)
theorem z02t {s:TSk} {ds:List z0a} (hsm:SmS s):zik s ds (zul s ds):=z01a _ _ _ (by
 unfold zpp
 refine⟨_,_,zh3 hsm,z1u (fun h1=>⟨_,zst,z1u (fun h2=>z0h fun _=>z0h fun _=>?_) (fun h2=>by unfold zul;rw[h1,h2];rfl)⟩) (fun h1=>by unfold zul;rw[h1];rfl)⟩
 unfold zul
 rw[h1,h2]
 have:(((skc s ds).1.1.2.1.length:Int) == (s.1.2.1.length:Int))=((skc s ds).1.1.2.1.length == s.1.2.1.length):=by rw[Bool.eq_iff_iff];simp;omega
 rw[this];rfl)
theorem z08k {α:Type} {f:α->Nat}:∀ {l:List α} {a:α},a∈l->f a<=(l.map f).sum
 | b::l,a,h=>by
   rw[List.map_cons,List.sum_cons]
   rcases List.mem_cons.mp h with rfl|h
   . omega
   . have:=z08k (f:=f) h;omega
theorem z02h {s:TSk} (h:z0c (.pair (.pair (.sl 0 (.pair .str (.pair (.int .i64) (.pair .bool .unit)))) (.pair (.sl 0 (.pair (.int .i64) (.pair (.sl 0 (.int .i64)) .unit))) .unit)) (.pair (.sl 0 (.pair (.int .i64) (.pair (.int .i64) (.pair (.sl 0 (.int .i64)) .unit)))) .unit)) s<=1048576):SmS s:=by
 have h:((List.length s.1.1+(s.1.1.map (z0c (.pair .str (.pair (.int .i64) (.pair .bool .unit))))).sum)+((List.length s.1.2.1+(s.1.2.1.map (z0c (.pair (.int .i64) (.pair (.sl 0 (.int .i64)) .unit)))).sum)+0))+((List.length s.2.1+(s.2.1.map (z0c (.pair (.int .i64) (.pair (.int .i64) (.pair (.sl 0 (.int .i64)) .unit))))).sum)+0)<=1048576:=h
 refine⟨by omega,by omega,fun f hf=>?_,by omega,fun t ht=>?_⟩
 . have h1:=z08k (f:=z0c (.pair (.int .i64) (.pair (.sl 0 (.int .i64)) .unit))) hf
   have h2:f.2.1.length<=z0c (.pair (.int .i64) (.pair (.sl 0 (.int .i64)) .unit)) f:=by
    show f.2.1.length<=0+((f.2.1.length+_)+0)
    omega
   omega
 . have h1:=z08k (f:=z0c (.pair (.int .i64) (.pair (.int .i64) (.pair (.sl 0 (.int .i64)) .unit)))) ht
   have h2:t.2.2.1.length<=z0c (.pair (.int .i64) (.pair (.int .i64) (.pair (.sl 0 (.int .i64)) .unit))) t:=by
    show t.2.2.1.length<=0+(0+((t.2.2.1.length+_)+0))
    omega
   omega
theorem z0fd {α:Type} {p:α->Bool} {l:List α} {i:Nat} (h:i<l.length):(l.take (i+1)).filter p=(l.take i).filter p++(if p l[i] then[l[i]] else[]):=by
 rw[z07 h,List.filter_append]
 congr 1
 cases hp:p l[i]<;>simp[hp]
theorem z0ip {α:Type} {p:α->Bool} {l:List α} (i:Nat):((l.take i).filter p).length<=l.length:=by
 have h1:=List.length_filter_le p (l.take i)
 rw[List.length_take]at h1
 omega
abbrev z025:Sh:=.pair (.int .i64) (.pair (.sl 0 (.int .i64)) .unit)
abbrev z015:Sh:=.pair (.int .i64) (.pair (.int .i64) (.pair (.sl 0 (.int .i64)) .unit))
abbrev z0g0:Sh:=.sl 0 (.pair .str (.pair (.int .i64) (.pair .bool .unit)))
abbrev qSk:Sh:=.pair (.pair z0g0 (.pair (.sl 0 z025) .unit)) (.pair (.sl 0 z015) .unit)
theorem zw2 {α:Type} {f:α->Nat} {c:Nat}:∀ {l:List α},(∀ a∈l,f a<=c)->(l.map f).sum<=l.length * c
 |[],_=>by simp
 | a::l,h=>by
   have h1:=h a (by simp)
   have h2:=zw2 (l:=l) fun b hb=>h b (by simp[hb])
   rw[List.map_cons,List.sum_cons,List.length_cons,Nat.succ_mul]
   omega
theorem z03r (l:List Int):z0c (.sl 0 (.int .i64)) l=l.length:=by
 have h:∀ l:List (Sh.den (.int .i64)),(l.map (z0c (.int .i64))).sum=0:=by
  intro l
  induction l with
  |nil=>rfl
  |cons a l ih=>rw[List.map_cons,List.sum_cons,ih];rfl
 exact congrArg (l.length + ·) (h l)
theorem z0fu (f:z00):z0c z025 f=f.2.1.length:=by
 have h:=z03r f.2.1
 have e:z0c z025 f=0+(z0c (.sl 0 (.int .i64)) f.2.1+0):=rfl
 omega
theorem z0ej (t:z06):z0c z015 t=t.2.2.1.length:=by
 have h:=z03r t.2.2.1
 have e:z0c z015 t=0+(0+(z0c (.sl 0 (.int .i64)) t.2.2.1+0)):=rfl
 omega
theorem zzj {l:List z00} {c:Nat} (h:∀ f∈l,f.2.1.length<=c):z0c (.sl 0 z025) l<=l.length+l.length * c:=
 Nat.add_le_add_left (zw2 (f:=z0c z025) (c:=c) (l:=l) fun f hf=>Nat.le_trans (Nat.le_of_eq (z0fu f)) (h f hf)) _
theorem z0bu {l:List z06} {c:Nat} (h:∀ f∈l,f.2.2.1.length<=c):z0c (.sl 0 z015) l<=l.length+l.length * c:=
 Nat.add_le_add_left (zw2 (f:=z0c z015) (c:=c) (l:=l) fun f hf=>Nat.le_trans (Nat.le_of_eq (z0ej f)) (h f hf)) _
theorem z0h7 {a b:TSk} (h:vSk b=true) (hr:b.1.1=a.1.1):z0c qSk b<=z0c qSk a+400:=by
 have hf:=z0d1 h
 have ht:=zg2 (z74 h).2.2
 have h1:=zzj (l:=b.1.2.1) (c:=3) fun f hf=>(z26 (z3c (z6p h).1 hf)).2.2.2.2.1
 have h2:=z0bu (l:=b.2.1) (c:=5) fun t hm=>by
  obtain⟨i,hi,rfl⟩:=List.mem_iff_getElem.mp hm
  exact z09k h hi
 have e1:z0c qSk b=(z0c z0g0 b.1.1+(z0c (.sl 0 z025) b.1.2.1+0))+(z0c (.sl 0 z015) b.2.1+0):=rfl
 have e2:z0c qSk a=(z0c z0g0 a.1.1+(z0c (.sl 0 z025) a.1.2.1+0))+(z0c (.sl 0 z015) a.2.1+0):=rfl
 rw[hr]at e1
 omega
theorem zuo {ds:List z0a}:∀ {n:Nat} {st st':TSk},vSk st=true->zbj ds n st = .inr st'->Goes st st'
 |0,st,st',hv,h=>by simp only[zbj,Sum.inr.injEq]at h;subst h;exact .refl hv
 | n+1,st,st',hv,h=>by
   simp only[zbj]at h
   cases e:zu4 ds st with
   |inl _=>rw[e]at h;simp at h
   | inr s1=>
     rw[e]at h
     have h1:=znh hv e
     simp only at h
     split at h
     . obtain rfl:=Sum.inr.inj h;exact h1
     . exact h1.trans (zuo h1.sk h)
theorem z0iy {s:TSk} {ds:List z0a}:z0c qSk (skc s ds).1<=z0c qSk s+400:=by
 by_cases h:(vSk s&&z5h s.1.1 ds)=true
 . cases e:zbj ds 31 s with
   |inl r=>rw[z07h h e];exact Nat.le_add_right _ _
   | inr y=>
     rw[z01t h e]
     have hv:vSk s=true:=by rw[Bool.and_eq_true]at h;exact h.1
     have hg:=zuo hv e
     exact z0h7 hg.sk hg.rels
 . rw[z05k (by simpa using h)];exact Nat.le_add_right _ _
theorem zmo {l:List (z9b z00)} {cx:z00×Unit} (p:z9b z00->Bool) (hl:l.length<=1000) (hg:∀ t∈l,z3m t cx.1 (p t)):z1c l cx (l.filter fun t=>!p t):=z6j _ _ _ (by
 unfold z2y
 refine⟨_,z86 p (fun t ht=>hg t ht),?_⟩
 by_cases hf:z03 p l<l.length
 . rw[if_pos hf]
   generalize hp:z03 p l=q at hf
   have hpf:p l[q]=true:=by have:=z8u (p:=p) (l:=l) (by omega);simp only[hp]at this;exact this
   have hpl:∀ i (h:i<q),p (l[i]'(by omega))=false:=fun i h=>z6b (by omega) (by omega)
   refine z3e (fun h=>by omega) fun _=>?_
   rw[z02 (by omega)]
   refine z1o (fun k a=>∃(i j:Nat) (L:List (z9b z00)),j+k=l.length/\a=((i:Int),((j:Int),(L,())))/\L.length=l.length/\i<j/\L.take i=(l.take j).filter (fun t=>!p t)/\L.drop j=l.drop j) ?_ ?_ (n:=l.length - (q+1)) ⟨q,q+1,l,by omega,rfl,rfl,by omega,?_,rfl⟩
   . rintro a ⟨i,j,L,hj,rfl,hL,hij,h1,h2⟩ X
     obtain rfl:j=l.length:=by omega
     rw[List.take_length]at h1
     refine z0h fun _=>?_
     simp only
     rw[hL]
     have ht:(L.take i).length=i:=by rw[List.length_take];omega
     refine bcN ⟨⟨by omega,by omega,by omega,by omega⟩,by omega,⟨by omega,by omega,?_,?_⟩,?_⟩
     . simp only[List.length_append,Int.toNat_natCast,ht];omega
     . simp only[List.length_append,List.length_replicate,Int.toNat_natCast,ht];omega
     . rw[Int.toNat_natCast,List.take_left' ht,h1]
   . rintro k a ⟨i,j,L,hj,rfl,hL,hij,h1,h2⟩ X hX
     have hjl:j<l.length:=by omega
     have hjL:j<L.length:=by omega
     have hget:L[j]=l[j]:=by
      have:=congrArg List.head? h2
      rw[z35 hjL,z35 hjl]at this
      exact Option.some.inj this
     have hdrop:L.drop (j+1)=l.drop (j+1):=by
      have:=congrArg (List.drop 1) h2
      rw[List.drop_drop,List.drop_drop]at this
      exact this
     refine z0h fun _=>?_
     simp only
     refine bcI hjL (inI hjL ⟨p l[j],?_,?_⟩)
     . rw[z2k hjL,hget];exact hg _ (List.getElem_mem hjl)
     have htk:(l.take (j+1)).filter (fun t=>!p t)=(l.take j).filter (fun t=>!p t)++(if p l[j] then[] else[l[j]]):=by
      rw[z07 hjl,List.filter_append]
      congr 1
      cases h:p l[j]<;>simp[h]
     refine z0t (fun h=>?_) (fun h=>?_)
     . rw[if_neg (by rw[h];simp)]at htk
       refine⟨⟨by omega,by omega⟩,?_⟩
       rw[z2k hjL,hget,z02 (by omega),z02 (by omega),Int.toNat_natCast]
       refine hX _ ⟨i+1,j+1,_,by omega,rfl,by rw[List.length_set];exact hL,by omega,?_,?_⟩
       . rw[htk,<-h1,List.take_set,z07 (show i<L.length by omega),List.set_append]
         simp[List.length_take,Nat.min_eq_left (show i<=L.length by omega)]
       . rw[<-hdrop,List.drop_set_of_lt (by omega)]
     . rw[if_pos h,List.append_nil]at htk
       rw[z02 (by omega)]
       exact hX _ ⟨i,j+1,L,by omega,rfl,hL,by omega,by rw[htk,h1],hdrop⟩
   . rw[z07 hf,List.filter_append,List.filter_cons,hpf]
     simp only[Bool.not_true,Bool.false_eq_true,if_false,List.filter_nil,List.append_nil]
     rw[List.filter_eq_self.mpr]
     intro a hm
     obtain⟨i,hi,rfl⟩:=List.mem_iff_getElem.mp hm
     rw[List.length_take]at hi
     rw[List.getElem_take,hpl i (by omega)];rfl
 . rw[if_neg hf]
   refine z3e (fun _=>?_) (fun h=>absurd rfl h)
   rw[List.filter_eq_self.mpr]
   intro a ha
   obtain⟨i,hi,rfl⟩:=List.mem_iff_getElem.mp ha
   have h:=z6b (p:=p) hi (by omega)
   rw[h];rfl)
theorem zo0 {l:List z00} {cx:z00×Unit} (p:z00->Bool) (hl:l.length<=1000) (hg:∀ t∈l,zf9 t cx.1 (p t)):z10 l cx (l.filter fun t=>!p t):=z4y _ _ _ fun xs hx=>by
 subst hx
 rw[List.length_map]at hl
 refine⟨xs.filter (fun t=>!p t.2),List.filter_sublist,?_,zmo (fun t=>p t.2) hl fun t ht=>znl _ _ _ (hg _ (List.mem_map_of_mem ht))⟩
 rw[List.filter_map];rfl
theorem zq4 {l:List (z9b z00)} {cx:(List z0p×(Bool×List z00)×Unit)×Bool×Unit} (p:z9b z00->Bool) (hl:l.length<=1000) (hg:∀ t∈l,z4r t cx.1 cx.2.1 (p t)):z1l l cx (l.filter fun t=>!p t):=z73 _ _ _ (by
 unfold z3f
 refine⟨_,z9f p (fun t ht=>hg t ht),?_⟩
 by_cases hf:z03 p l<l.length
 . rw[if_pos hf]
   generalize hp:z03 p l=q at hf
   have hpf:p l[q]=true:=by have:=z8u (p:=p) (l:=l) (by omega);simp only[hp]at this;exact this
   have hpl:∀ i (h:i<q),p (l[i]'(by omega))=false:=fun i h=>z6b (by omega) (by omega)
   refine z3e (fun h=>by omega) fun _=>?_
   rw[z02 (by omega)]
   refine z1o (fun k a=>∃(i j:Nat) (L:List (z9b z00)),j+k=l.length/\a=((i:Int),((j:Int),(L,())))/\L.length=l.length/\i<j/\L.take i=(l.take j).filter (fun t=>!p t)/\L.drop j=l.drop j) ?_ ?_ (n:=l.length - (q+1)) ⟨q,q+1,l,by omega,rfl,rfl,by omega,?_,rfl⟩
   . rintro a ⟨i,j,L,hj,rfl,hL,hij,h1,h2⟩ X
     obtain rfl:j=l.length:=by omega
     rw[List.take_length]at h1
     refine z0h fun _=>?_
     simp only
     rw[hL]
     have ht:(L.take i).length=i:=by rw[List.length_take];omega
     refine bcN ⟨⟨by omega,by omega,by omega,by omega⟩,by omega,⟨by omega,by omega,?_,?_⟩,?_⟩
     . simp only[List.length_append,Int.toNat_natCast,ht];omega
     . simp only[List.length_append,List.length_replicate,Int.toNat_natCast,ht];omega
     . rw[Int.toNat_natCast,List.take_left' ht,h1]
   . rintro k a ⟨i,j,L,hj,rfl,hL,hij,h1,h2⟩ X hX
     have hjl:j<l.length:=by omega
     have hjL:j<L.length:=by omega
     have hget:L[j]=l[j]:=by
      have:=congrArg List.head? h2
      rw[z35 hjL,z35 hjl]at this
      exact Option.some.inj this
     have hdrop:L.drop (j+1)=l.drop (j+1):=by
      have:=congrArg (List.drop 1) h2
      rw[List.drop_drop,List.drop_drop]at this
      exact this
     refine z0h fun _=>?_
     simp only
     refine bcI hjL (inI hjL ⟨p l[j],?_,?_⟩)
     . rw[z2k hjL,hget];exact hg _ (List.getElem_mem hjl)
     have htk:(l.take (j+1)).filter (fun t=>!p t)=(l.take j).filter (fun t=>!p t)++(if p l[j] then[] else[l[j]]):=by
      rw[z07 hjl,List.filter_append]
      congr 1
      cases h:p l[j]<;>simp[h]
     refine z0t (fun h=>?_) (fun h=>?_)
     . rw[if_neg (by rw[h];simp)]at htk
       refine⟨⟨by omega,by omega⟩,?_⟩
       rw[z2k hjL,hget,z02 (by omega),z02 (by omega),Int.toNat_natCast]
       refine hX _ ⟨i+1,j+1,_,by omega,rfl,by rw[List.length_set];exact hL,by omega,?_,?_⟩
       . rw[htk,<-h1,List.take_set,z07 (show i<L.length by omega),List.set_append]
         simp[List.length_take,Nat.min_eq_left (show i<=L.length by omega)]
       . rw[<-hdrop,List.drop_set_of_lt (by omega)]
     . rw[if_pos h,List.append_nil]at htk
       rw[z02 (by omega)]
       exact hX _ ⟨i,j+1,L,by omega,rfl,hL,by omega,by rw[htk,h1],hdrop⟩
   . rw[z07 hf,List.filter_append,List.filter_cons,hpf]
     simp only[Bool.not_true,Bool.false_eq_true,if_false,List.filter_nil,List.append_nil]
     rw[List.filter_eq_self.mpr]
     intro a hm
     obtain⟨i,hi,rfl⟩:=List.mem_iff_getElem.mp hm
     rw[List.length_take]at hi
     rw[List.getElem_take,hpl i (by omega)];rfl
 . rw[if_neg hf]
   refine z3e (fun _=>?_) (fun h=>absurd rfl h)
   rw[List.filter_eq_self.mpr]
   intro a ha
   obtain⟨i,hi,rfl⟩:=List.mem_iff_getElem.mp ha
   have h:=z6b (p:=p) hi (by omega)
   rw[h];rfl)
theorem zrj {l:List z00} {cx:(List z0p×(Bool×List z00)×Unit)×Bool×Unit} (p:z00->Bool) (hl:l.length<=1000) (hg:∀ t∈l,zi0 t cx.1 cx.2.1 (p t)):z14 l cx (l.filter fun t=>!p t):=z5k _ _ _ fun xs hx=>by
 subst hx
 rw[List.length_map]at hl
 refine⟨xs.filter (fun t=>!p t.2),List.filter_sublist,?_,zq4 (fun t=>p t.2) hl fun t ht=>zqt _ _ _ _ (hg _ (List.mem_map_of_mem ht))⟩
 rw[List.filter_map];rfl
def delF (x:z09) (f:z00):z09×Bool:=if z3n x&&decide (f∈x.2.1)then(zxk x f,true)else(x,false)
def zk3 (r:List z0p) (f:z00):Bool:=(r.getD f.1.toNat zel).2.2.1
def z1v (x:z09) (b:Bool):z09:=if z3n x then(x.1,(x.2.1.filter (fun f=>zk3 x.1 f == b),()))else([],([],()))
structure SmJ (x:z09):Prop where
 rels:x.1.length<=1048576
 few:x.2.1.length<=1048576
 row:∀ f∈x.2.1,f.2.1.length<=1048576
theorem zye {x:z09} {f:z00} (hs:SmJ x):zef x f (delF x f).1 (delF x f).2:=by
 by_cases h:(z3n x&&decide (f∈x.2.1))=true
 . have e:delF x f=(zxk x f,true):=by unfold delF;rw[if_pos h]
   rw[Bool.and_eq_true,decide_eq_true_eq]at h
   rw[e]
   exact z01v h.1 h.2
 . have e:delF x f=(x,false):=by unfold delF;rw[if_neg h]
   rw[e]
   refine zpt _ _ _ _ ?_
   unfold zig
   have h1:=hs.rels
   have h2:=hs.few
   refine⟨_,ztw (by omega) (by omega) (fun f hf=>by have:=hs.row f hf;omega),_,zbc,?_⟩
   rw[show(z3n x&&decide (f∈x.2.1))=false by simpa using h]
   exact bcT rfl
theorem zn1 {x:z09} {f:z00} (hs:SmJ x):zir x f (delF x f).1 (delF x f).2:=z02o _ _ _ _ (by
 unfold zox
 have h1:=hs.rels
 have h2:=hs.few
 refine⟨_,zfb (by omega) (by omega) (fun f hf=>by have:=hs.row f hf;omega),_,zxe,?_⟩
 refine z0t (fun h=>by unfold delF;rw[h];rfl) (fun h=>?_)
 have h':=h
 rw[Bool.and_eq_true]at h'
 have hl:=z3l h'.1
 refine⟨_,zo0 (fun t=>decide (t=f)) (by omega) (fun t _=>zu1 _ _ _ ⟨_,zim,rfl⟩),?_⟩
 unfold delF
 rw[h];rfl)
theorem zvv {x:z09} {b:Bool}:zoa x b (z1v x b):=z080 _ _ _ (by
 unfold zuz
 refine⟨_,z5c,z0t (fun h=>by unfold z1v;rw[h];rfl) (fun h=>?_)⟩
 have hr:=zlg (zbr h)
 have hl:=z3l h
 refine⟨x,zfb (by omega) (by omega) (fun f hf=>z046 h hf),_,zrj (fun t=>!(zk3 x.1 t == b)) (by omega) (fun t ht=>z02b _ _ _ _ ?_),?_⟩
 . have hv:=z26 (z3c h ht)
   unfold zpg
   exact⟨⟨hv.2.1,hv.2.2.1⟩,rfl⟩
 . unfold z1v
   rw[h]
   simp only[Bool.not_not]
   rfl)
theorem z06e {x:z09} {b:Bool}:zo1 x b (z1v x b):=z08e _ _ _ (by
 unfold zwu
 refine⟨_,z7v,z0t (fun h=>by unfold z1v;rw[h];rfl) (fun h=>?_)⟩
 have hr:=zlg (zbr h)
 have hl:=z3l h
 refine⟨by simp only[z11,List.length_nil];omega,?_⟩
 refine z1x x.2.1.length (fun i=>((i:Int),((x.1,((x.2.1.take i).filter (fun f=>zk3 x.1 f == b),())),()))) (by simp) ?_ ?_
 . intro i hi X hX
   have hv:=z26 (z3c h (List.getElem_mem hi))
   have hf:=z0ip (p:=fun f=>zk3 x.1 f == b) (l:=x.2.1) i
   refine z0h fun _=>bcI hi (inI hi ?_)
   simp only
   rw[z2k hi,z02 (by omega)]
   refine⟨⟨hv.2.1,hv.2.2.1⟩,?_⟩
   rw[z0fd hi]at hX
   refine z1u (fun h=>inI hi ⟨_,zpm (by omega),by simp only[z11,List.length_cons,List.length_nil];omega,?_⟩) (fun h=>?_)
   . rw[if_pos (show(zk3 x.1 x.2.1[i] == b)=true from h)]at hX;exact hX
   . rw[if_neg (by rw[show(zk3 x.1 x.2.1[i] == b)=false from h];simp),List.append_nil]at hX;exact hX
 . intro X
   refine z0h fun _=>bcN ?_
   unfold z1v
   rw[h]
   simp only[List.take_length]
   rfl)
theorem zno {s:TSk} {ds:List z0a} (h:zul s ds=true):vSk s=true:=by
 unfold zul zyp at h
 simp only[Bool.and_eq_true]at h
 exact h.2.1.1
def dsOk (s:TSk) (ds:List z0a) (f:z00):Bool:=zul s ds&&(decide (f∈s.1.2.1)&&(zk3 s.1.1 f&&(skc (zxk (z1v s.1 true) f,s.2) ds).2))
def dsf (s:TSk) (ds:List z0a) (f:z00):TSk×Bool:=if dsOk s ds f then((skc (zxk (z1v s.1 true) f,s.2) ds).1,true)else(s,false)
theorem zqa {s:TSk} {ds:List z0a} {f:z00} (h:dsOk s ds f=false):dsf s ds f=(s,false):=by unfold dsf;rw[h];rfl
theorem z06g {s:TSk} {ds:List z0a} {f:z00} (h:dsOk s ds f=true):dsf s ds f=((skc (zxk (z1v s.1 true) f,s.2) ds).1,true):=by unfold dsf;rw[h];rfl
theorem z03h {x:z09} {b:Bool} {f:z00} (h:f∈(z1v x b).2.1):f∈x.2.1:=by
 unfold z1v at h
 split at h
 . exact(List.mem_filter.mp h).1
 . simp at h
theorem zpc {x:z09} {b:Bool} (h:z3n x=true):SmJ (z1v x b):=by
 have hr:=zlg (zbr h)
 have hl:=z3l h
 refine⟨?_,?_,fun f hf=>by have:=(z26 (z3c h (z03h hf))).2.2.2.2.1;omega⟩
 . unfold z1v;rw[h];simp only[if_true];omega
 . unfold z1v
   rw[h]
   have:=List.length_filter_le (fun f=>zk3 x.1 f == b) x.2.1
   simp only[if_true];omega
theorem z08z {x:z09} {f g:z00} (h:g∈(zxk x f).2.1):g∈x.2.1:=(List.mem_filter.mp h).1
theorem z0jw {s:TSk} {f:z00} (h:SmS s) (hv:z3n s.1=true):SmS (zxk (z1v s.1 true) f,s.2):=by
 have hj:=zpc (b:=true) hv
 have:=List.length_filter_le (fun t=>!decide (t=f)) (z1v s.1 true).2.1
 exact⟨hj.rels,Nat.le_trans this hj.few,fun g hg=>hj.row g (z08z hg),h.terms,h.args⟩
theorem z05f {x:z09} (h:z3n x=true) (p:z00->Bool):z3n (x.1,(x.2.1.filter p,()))=true:=by
 have hl:=List.length_filter_le p x.2.1
 have h3:=z3l h
 refine z0a3 (zbr h) (asc_pw.mpr ((asc_pw.mp (zpr h)).filter p)) (by omega) fun f hf=>?_
 have hm:=(List.mem_filter.mp hf).1
 exact⟨z3c h hm,z039 h hm⟩
theorem zw3 {x:z09} {b:Bool} (h:z3n x=true):z3n (z1v x b)=true:=by
 unfold z1v
 rw[h]
 exact z05f h _
theorem z0j4 {s:TSk} {ds:List z0a} {f:z00}:z0c qSk (dsf s ds f).1<=z0c qSk s+600:=by
 by_cases h:dsOk s ds f=true
 . rw[z06g h]
   unfold dsOk at h
   simp only[Bool.and_eq_true]at h
   obtain⟨h1,h2,h3,h4⟩:=h
   have hv:=(z6p (zno h1)).1
   have hb:=z0iy (s:=(zxk (z1v s.1 true) f,s.2)) (ds:=ds)
   have hl:=z3l hv
   have hl2:(zxk (z1v s.1 true) f).2.1.length<=30:=by
    have h1:=List.length_filter_le (fun t=>!decide (t=f)) (z1v s.1 true).2.1
    have h2:=List.length_filter_le (fun f=>zk3 s.1.1 f == true) s.1.2.1
    have h3:(z1v s.1 true).2.1=s.1.2.1.filter (fun f=>zk3 s.1.1 f == true):=by unfold z1v;rw[hv];rfl
    rw[h3]at h1
    unfold zxk delR
    rw[h3];simp only;omega
   have h6:=zzj (l:=(zxk (z1v s.1 true) f).2.1) (c:=3) fun g hg=>(z26 (z3c hv (z03h (z08z hg)))).2.2.2.2.1
   have e1:z0c qSk ((zxk (z1v s.1 true) f,s.2):TSk)=(z0c z0g0 (zxk (z1v s.1 true) f).1+(z0c (.sl 0 z025) (zxk (z1v s.1 true) f).2.1+0))+(z0c (.sl 0 z015) s.2.1+0):=rfl
   have e2:z0c qSk s=(z0c z0g0 s.1.1+(z0c (.sl 0 z025) s.1.2.1+0))+(z0c (.sl 0 z015) s.2.1+0):=rfl
   have e3:(zxk (z1v s.1 true) f).1=s.1.1:=by unfold zxk z1v;rw[hv];rfl
   rw[e3]at e1
   show z0c qSk (skc (zxk (z1v s.1 true) f,s.2) ds).1<=_
   omega
 . rw[zqa (by simpa using h)];exact Nat.le_add_right _ _
theorem zev {s:TSk} {ds:List z0a} {f:z00} (hsm:SmS s):z6t s ds f (dsf s ds f).1 (dsf s ds f).2:=znq _ _ _ _ _ (by
 unfold zfe
 refine⟨_,z02t hsm,z0t (fun h=>⟨s,z3s hsm,by rw[zqa (by unfold dsOk;rw[h];rfl)]⟩) (fun h1=>⟨_,zuh,?_⟩)⟩
 have hv:=zno h1
 obtain⟨hi,_⟩:=z6p hv
 have hl:=z3l hi
 refine z0t (fun h=>⟨s,z3s hsm,?_⟩) (fun h2=>?_)
 . rw [zqa (by
    unfold dsOk
    by_cases hm:f∈s.1.2.1
    . have h5:=z3c hi hm
      have h:(zog s.1.1 f&&zk3 s.1.1 f)=false:=h
      rw[h5,Bool.true_and]at h
      rw[h];simp
    . rw[decide_eq_false hm];simp)]
 have h2:(zog s.1.1 f&&zk3 s.1.1 f)=true:=h2
 rw[Bool.and_eq_true]at h2
 have hrv:=zw3 (b:=true) hi
 have hmem:∀ g,g∈(z1v s.1 true).2.1↔g∈s.1.2.1/\zk3 s.1.1 g=true:=by
  intro g
  have e:(z1v s.1 true).2.1=s.1.2.1.filter (fun f=>zk3 s.1.1 f == true):=by unfold z1v;rw[hi];rfl
  rw[e,List.mem_filter];simp
 by_cases hm:f∈s.1.2.1
 . have e:delF (z1v s.1 true) f=(zxk (z1v s.1 true) f,true):=by
    unfold delF
    rw[hrv,decide_eq_true ((hmem f).mpr ⟨hm,h2.2⟩)];rfl
   have hg:=zn1 (x:=z1v s.1 true) (f:=f) (zpc hi)
   rw[e]at hg
   refine⟨s,z3s hsm,_,zvv,_,_,hg,_,_,zh3 (s:=(zxk (z1v s.1 true) f,s.2)) (z0jw hsm hi),bcF ?_⟩
   refine z0t (fun h=>⟨s,z3s hsm,by rw[zqa (by unfold dsOk;rw[h1,decide_eq_true hm,h2.2,h];rfl)]⟩) (fun h4=>?_)
   rw[z06g (by unfold dsOk;rw[h1,decide_eq_true hm,h2.2,h4];rfl)]
 . have e:delF (z1v s.1 true) f=(z1v s.1 true,false):=by
    unfold delF
    rw[decide_eq_false (fun h=>hm ((hmem f).mp h).1)];simp
   have hg:=zn1 (x:=z1v s.1 true) (f:=f) (zpc hi)
   rw[e]at hg
   have hj:=zpc (b:=true) hi
   refine⟨s,z3s hsm,_,zvv,_,_,hg,_,_,zh3 (s:=(z1v s.1 true,s.2)) ⟨hj.rels,hj.few,hj.row,hsm.terms,hsm.args⟩,bcT ⟨s,z3s hsm,?_⟩⟩
   rw[zqa (by unfold dsOk;rw[decide_eq_false hm];simp)])
theorem zo2 {s:TSk} {ds:List z0a} {f:z00} (hsm:SmS s):zaa s ds f (dsf s ds f).1 (dsf s ds f).2:=znz _ _ _ _ _ (by
 unfold zf6
 refine⟨s,zl1 hsm,_,z02x hsm,z0t (fun h=>by rw[zqa (by unfold dsOk;rw[h];rfl)]) (fun h1=>⟨_,zbc,?_⟩)⟩
 have hv:=zno h1
 obtain⟨hi,_⟩:=z6p hv
 rw[hi,Bool.true_and]
 refine z0t (fun h=>by rw[zqa (by unfold dsOk;rw[h1,h];rfl)]) (fun h2=>?_)
 have hm:f∈s.1.2.1:=by simpa using h2
 have hr:=z26 (z3c hi hm)
 refine⟨⟨hr.2.1,hr.2.2.1⟩,z0t (fun h=>by rw[zqa (by unfold dsOk;rw[h1,h2,show zk3 s.1.1 f=false from h];rfl)]) (fun h3=>?_)⟩
 have h3:zk3 s.1.1 f=true:=h3
 have e:delF (z1v s.1 true) f=(zxk (z1v s.1 true) f,true):=by
  unfold delF
  have hq:f∈(z1v s.1 true).2.1:=by
   have e:(z1v s.1 true).2.1=s.1.2.1.filter (fun f=>zk3 s.1.1 f == true):=by unfold z1v;rw[hi];rfl
   rw[e,List.mem_filter];exact⟨hm,by simpa using h3⟩
  rw[zw3 hi,decide_eq_true hq];rfl
 have hg:=zye (x:=z1v s.1 true) (f:=f) (zpc hi)
 rw[e]at hg
 refine⟨trivial,_,z06e,_,_,hg,_,_,zne (s:=(zxk (z1v s.1 true) f,s.2)) (z0jw hsm hi),?_⟩
 refine z0t (fun h=>⟨s,zl1 hsm,by rw[zqa (by unfold dsOk;rw[h1,h2,h3,h];rfl)]⟩) (fun h4=>?_)
 rw[z06g (by unfold dsOk;rw[h1,h2,h3,h4];rfl)])
theorem law {x0:TSk} {x1:List z0a} {x2:z00} (_:Bnd (h18) x0) (_:Bnd (h25) x1) (_:Bnd (h11) x2):z97 x0 x1 x2 true:=zfw _ _ _ _ (by
 unfold z96
 refine⟨_,zs8 (by omega) (by omega),zkp (by omega) (fun _=>rfl) fun h1=>?_⟩
 try rw[z2b h1]
 have hB0:z0c k13 x0<=1099511627776:=by omega
 have hS0:z0c k13 x0<=1048576:=by omega
 refine⟨_,zse (by omega) (by omega),zkp (by omega) (fun _=>rfl) fun h2=>?_⟩
 try rw[z2b h2]
 have hB1:z0c k19 x1<=1099511627776:=by omega
 have hS1:z0c k19 x1<=1048576:=by omega
 refine⟨_,z03u (by omega) (by omega),zkp (by omega) (fun _=>rfl) fun h3=>?_⟩
 try rw[z2b h3]
 have hB2:z0c k6 x2<=1099511627776:=by omega
 have hS2:z0c k6 x2<=1048576:=by omega
 refine⟨trivial,?_⟩
 have hn:z0c k13 (dsf x0 x1 x2).1<=z0c k13 x0+600:=z0j4
 refine⟨_,za6 (hB0),?_⟩
 refine⟨_,za8 (hB1),?_⟩
 refine⟨_,zk8 (hB2),?_⟩
 refine⟨_,_,(zo2 (z02h hS0)),?_⟩
 refine⟨_,za6 (hB0),?_⟩
 refine⟨_,za8 (hB1),?_⟩
 refine⟨_,zk8 (hB2),?_⟩
 refine⟨_,_,(zev (z02h hS0)),?_⟩
 refine⟨_,za7,zed (fun h=>absurd rfl h) fun _=>?_⟩
 refine z05q (fun h=>absurd rfl h) fun _=>?_
 refine⟨_,za6 (hB0),?_⟩
 refine⟨_,za7,zed (fun h=>absurd rfl h) fun _=>?_⟩
 refine⟨_,za8 (hB1),?_⟩
 refine⟨_,zsi,zed (fun h=>absurd rfl h) fun _=>?_⟩
 refine⟨_,zk8 (hB2),?_⟩
 refine⟨_,z03j,zed (fun h=>absurd rfl h) fun _=>?_⟩
 have w0:=z08t k13 x0
 have q0:zyo k13=8:=rfl
 rw[q0]at w0
 have p0_0:z0c k13 x0=((z0c k3 x0.1.1+(z0c k7 x0.1.2.1+0))+(z0c k11 x0.2.1+0)):=rfl
 have p0_1:wt k13 x0=((wt k3 x0.1.1+(wt k7 x0.1.2.1+0))+(wt k11 x0.2.1+0)):=rfl
 have r0_0:z0c k9 x0.1=(z0c k3 x0.1.1+(z0c k7 x0.1.2.1+0)):=rfl
 have r0_1:wt k9 x0.1=(wt k3 x0.1.1+(wt k7 x0.1.2.1+0)):=rfl
 refine⟨_,_,z2x (x0:=x0) (x1:=1) (by omega) (by omega) (by omega),?_⟩
 have w1:=z08t k19 x1
 have q1:zyo k19=7:=rfl
 rw[q1]at w1
 have p1_0:z0c k19 x1=x1.length+(x1.map (z0c k18)).sum:=rfl
 refine⟨_,_,z90 (x0:=x1) (x1:=_) (by omega) (by omega) (by omega),?_⟩
 have w2:=z08t k6 x2
 have q2:zyo k6=2:=rfl
 rw[q2]at w2
 have p2_0:z0c k6 x2=(0+(z0c k4 x2.2.1+0)):=rfl
 have p2_1:wt k6 x2=(1+(wt k4 x2.2.1+0)):=rfl
 refine⟨_,_,znv (x0:=x2) (x1:=_) (by omega) (by omega) (by omega),?_⟩
 rw[z32 (by omega)]
 refine⟨_,za7,zed (fun h=>absurd rfl h) fun _=>?_⟩
 refine z05q (fun h=>absurd rfl h) fun _=>?_
 have w3:=z08t k13 (dsf x0 x1 x2).1
 have q3:zyo k13=8:=rfl
 rw[q3]at w3
 have p3_0:z0c k13 (dsf x0 x1 x2).1=((z0c k3 (dsf x0 x1 x2).1.1.1+(z0c k7 (dsf x0 x1 x2).1.1.2.1+0))+(z0c k11 (dsf x0 x1 x2).1.2.1+0)):=rfl
 have p3_1:wt k13 (dsf x0 x1 x2).1=((wt k3 (dsf x0 x1 x2).1.1.1+(wt k7 (dsf x0 x1 x2).1.1.2.1+0))+(wt k11 (dsf x0 x1 x2).1.2.1+0)):=rfl
 have r3_0:z0c k9 (dsf x0 x1 x2).1.1=(z0c k3 (dsf x0 x1 x2).1.1.1+(z0c k7 (dsf x0 x1 x2).1.1.2.1+0)):=rfl
 have r3_1:wt k9 (dsf x0 x1 x2).1.1=(wt k3 (dsf x0 x1 x2).1.1.1+(wt k7 (dsf x0 x1 x2).1.1.2.1+0)):=rfl
 refine⟨_,_,z2x (x0:=(dsf x0 x1 x2).1) (x1:=1) (by omega) (by omega) (by omega),?_⟩
 refine⟨_,zg9 (x0:=(dsf x0 x1 x2).1) (x1:=1) (by omega) (by omega) (by omega),?_⟩
 rw[z32 (by omega)]
 refine z6u (fun h=>absurd rfl h) fun _=>?_
 refine⟨trivial,?_⟩
 refine⟨_,za6 (hB0),?_⟩
 refine⟨_,za8 (hB1),?_⟩
 refine⟨_,zk8 (hB2),?_⟩
 refine⟨_,_,(zev (z02h hS0)),?_⟩
 refine⟨_,za7,zed (fun h=>absurd rfl h) fun _=>?_⟩
 refine z05q (fun h=>absurd rfl h) fun _=>?_
 refine⟨_,zg9 (x0:=(dsf x0 x1 x2).1) (x1:=1) (by omega) (by omega) (by omega),?_⟩
 rw[z32 (by omega)]
 refine z6u (fun h=>absurd rfl h) fun _=>?_
 rfl)
end Go.V

