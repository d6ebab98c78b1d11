/-
  The functions that the law reaches: what each gives.
-/
import Derived.Test.YtnklahcbckihjaaGreatDoorZF
import Derived.Test.YtnklahcbckihjaaGreatDoorZP
set_option linter.unusedVariables false
set_option linter.unusedSimpArgs false
set_option maxRecDepth 1000000
set_option maxHeartbeats 4000000
set_option linter.unusedVariables false
set_option linter.unusedSimpArgs false
namespace Go.V
open Go
theorem zaj {x0:List Int} (h:x0.length<=1099511627776):z4c x0 (z3y x0):=z07n h
theorem z8v {x0:List Int}:z3i x0 (zct x0):=zyf
def cmpI (a b:Int):Int:=if a<b then -1 else if b<a then 1 else 0
def zhz:List Int->List Int->Int
 |[],[]=>0
 |[],_::_=>-1
 |_::_,[]=>1
 |a::x,b::y=>if a<b then -1 else if b<a then 1 else zhz x y
def z94 (a b:z00):Int:=if a.1<b.1 then -1 else if b.1<a.1 then 1 else zhz a.2.1 b.2.1
theorem cmpL_zero:∀ {x y:List Int},zhz x y=0↔x=y
 |[],[]=>by simp[zhz]
 |[],b::y=>by simp[zhz]
 |a::x,[]=>by simp[zhz]
 | a::x,b::y=>by
   unfold zhz
   split
   . rename_i h;constructor
     . intro h';cases h'
     . intro h';cases h';omega
   . split
     . rename_i h;constructor
       . intro h';cases h'
       . intro h';cases h';omega
     . rw[cmpL_zero]
       have:a=b:=by omega
       simp[this]
theorem cmpF_zero {x y:z00}:z94 x y=0↔x=y:=by
 obtain⟨a,b,u⟩:=x;obtain⟨a',b',u'⟩:=y
 unfold z94
 simp only
 split
 . rename_i h;constructor
   . intro h';cases h'
   . intro h';cases h';omega
 . split
   . rename_i h;constructor
     . intro h';cases h'
     . intro h';cases h';omega
   . rw[cmpL_zero]
     have:a=a':=by omega
     simp[this]
theorem zxm {x y:List Int} {i:Nat} (h:i<x.length) (h':i<y.length):zhz (x.drop i) (y.drop i)=if x[i]<y[i] then -1 else if y[i]<x[i] then 1 else zhz (x.drop (i+1)) (y.drop (i+1)):=by
 rw[z9h h,z9h h',zhz]
theorem z02z {x y:List Int} {i:Nat} (h:x.length<=i):zhz (x.drop i) (y.drop i)=if i<y.length then -1 else 0:=by
 rw[List.drop_of_length_le h]
 by_cases h':i<y.length
 . rw[z9h h',if_pos h'];rfl
 . rw[List.drop_of_length_le (by omega),if_neg h'];rfl
theorem cmpL_end' {x y:List Int} {i:Nat} (h:i<x.length) (h':y.length<=i):zhz (x.drop i) (y.drop i)=1:=by
 rw[List.drop_of_length_le h',z9h h];rfl
theorem zlf {x y:List Int}:zeq x y (zhz x y):=z08h _ _ _ (by
 unfold zwl
 refine z0v (fun k a=>∃ i:Nat,i+k=x.length/\a=((i:Int),())/\i<=y.length/\zhz (x.drop i) (y.drop i)=zhz x y) ?_ ?_ (n:=x.length) ⟨0,by omega,rfl,by omega,by simp⟩
 . rintro a ⟨i,hi,rfl,hy,hc⟩ X
   obtain rfl:i=x.length:=by omega
   rw[z02z (Nat.le_refl _)]at hc
   refine z0l fun h1=>bcN (z0l fun _=>z0l fun h2=>z0b (fun h=>?_) (fun h=>z0l fun _=>z0l fun _=>z0b (fun h'=>by omega) (fun h'=>?_)))
   . rw[if_pos (by omega)]at hc;rw[<-hc]
   . rw[if_neg (by omega)]at hc;rw[<-hc]
 . rintro k a ⟨i,hi,rfl,hy,hc⟩ X hX
   have hlt:i<x.length:=by omega
   refine z0l fun h1=>bcI hlt (z0l fun h2=>z0b (fun h=>?_) (fun h=>?_))
   . have hlt':i<y.length:=by omega
     refine inI hlt (inI hlt' ?_)
     simp only
     rw[z2o hlt,z2o hlt']
     rw[zxm hlt hlt']at hc
     refine z0b (fun h=>?_) (fun h=>inI hlt (inI hlt' (z0b (fun h'=>?_) (fun h'=>?_))))
     . rw[if_pos h]at hc;rw[<-hc]
     . rw[if_neg h,if_pos h']at hc;rw[<-hc]
     . rw[if_neg h,if_neg (by omega)]at hc
       rw[z07 (by omega)]
       exact hX _ ⟨i+1,by omega,rfl,by omega,hc⟩
   . simp only at h
     rw[cmpL_end' hlt (by omega)]at hc
     refine z0l fun _=>z0l fun _=>z0b (fun h'=>by omega) (fun h'=>z0l fun _=>z0l fun _=>z0b (fun h''=>?_) (fun h''=>by omega))
     rw[<-hc])
theorem z9q {x y:z00}:z3x x y (z94 x y):=zpa _ _ _ (by
 unfold zhk z94
 refine z0b (fun h=>by rw[if_pos h]) (fun h=>z0b (fun h'=>by rw[if_neg h,if_pos h']) (fun h'=>⟨_,zlf,by rw[if_neg h,if_neg (by omega)]⟩)))
theorem zhe {x:Int}:z91 x false:=zqv _ _ (by unfold zgs;simp)
theorem ze8 {x y:Int}:z7m x y (cmpI x y):=zms _ _ _ (by
 unfold zeh cmpI
 refine⟨_,zhe,_,zhe,bcF (bcF (z0b (fun h=>by rw[if_pos h]) (fun h=>z0b (fun h'=>by rw[if_neg h,if_pos h']) (fun h'=>by rw[if_neg h,if_neg h']))))⟩)
theorem cmpI_zero {a b:Int}:cmpI a b=0↔a=b:=by unfold cmpI;split<;>(try split)<;>omega
theorem zil {x y:List Int}:z7u x y (zhz x y):=zix _ _ _ (by
 unfold zbj
 refine z0l fun h1=>z0v (fun k a=>∃ i:Nat,i+k=x.length/\a=((i:Int),())/\zhz (x.drop i) (y.drop i)=zhz x y/\i<=y.length) ?_ ?_ (n:=x.length) ⟨0,by omega,rfl,by simp,by omega⟩
 . rintro a ⟨i,hi,rfl,hc,hy⟩ X
   obtain rfl:i=x.length:=by omega
   rw[z02z (Nat.le_refl _)]at hc
   refine bcN (z0l fun _=>z0l fun h2=>z0b (fun h=>?_) (fun h=>?_))
   . rw[if_pos (by omega)]at hc;rw[<-hc]
   . rw[if_neg (by omega)]at hc;rw[<-hc]
 . rintro k a ⟨i,hi,rfl,hc,hy⟩ X hX
   have hlt:i<x.length:=by omega
   refine bcI hlt (inI hlt (z0l fun h2=>z0b (fun h=>?_) (fun h=>?_)))
   . simp only at h
     rw[cmpL_end' hlt (by omega)]at hc
     rw[<-hc]
   . simp only at h
     have hlt':i<y.length:=by omega
     refine inI hlt' ⟨_,ze8,?_⟩
     simp only
     rw[z2o hlt,z2o hlt']
     rw[zxm hlt hlt']at hc
     refine zby (fun h=>?_) (fun h=>?_)
     . have hne:x[i]≠y[i]:=fun e=>h (cmpI_zero.mpr e)
       rw[<-hc]
       unfold cmpI
       by_cases h3:x[i]<y[i]
       . rw[if_pos h3,if_pos h3]
       . rw[if_neg h3,if_neg h3,if_pos (by omega),if_pos (by omega)]
     . have he:=cmpI_zero.mp h
       rw[if_neg (by omega),if_neg (by omega)]at hc
       rw[z07 (by omega)]
       exact hX _ ⟨i+1,by omega,rfl,hc,by omega⟩)
def orL:List Int->Int
 |[]=>0
 |a::l=>if a=0 then orL l else a
theorem zy9 {x:List Int}:zhn x (orL x):=zwy _ _ (by
 unfold zn3
 have key:∀ l:List Int,orL l=if h:z03 (fun t=>t != 0) l<l.length then l[z03 (fun t=>t != 0) l] else 0:=by
  intro l
  induction l with
  |nil=>simp[orL,z03]
  | cons a l ih=>
    unfold orL
    by_cases ha:a=0
    . rw[if_pos ha,ih]
      simp only[z03,ha,bne_self_eq_false,Bool.false_eq_true,if_false,List.length_cons,Nat.add_lt_add_iff_right,List.getElem_cons_succ]
    . rw[if_neg ha]
      have:(a != 0)=true:=by simpa using ha
      simp[z03,this]
 refine z0l fun hl=>za8 x (fun t=>t != 0) (fun i=>((i:Int),())) (KT:=fun i=>∀ h:i<x.length,((x[i],()):Int×Unit)=(orL x,())) (KF:=(((0:Int),()):Int×Unit)=(orL x,())) ?_ ?_ ?_ ?_
 . intro i hi X h1 h2
   refine bcI hi (inI hi ?_)
   simp only
   rw[z2o hi,z07 (by omega)]
   exact z1y (fun h=>h1 h hi) h2
 . intro X h;exact bcN h
 . intro h h';rw[key,dif_pos h]
 . intro h;rw[key,dif_neg (by omega)])
theorem zcq {x y:z00}:z6w x y (z94 x y):=zp3 _ _ _ (by
 unfold zht
 refine⟨_,ze8,_,zil,_,zy9,?_⟩
 have:orL [cmpI x.1 y.1,zhz x.2.1 y.2.1]=z94 x y:=by
  unfold z94
  by_cases h:x.1<y.1
  . have:cmpI x.1 y.1 = -1:=by unfold cmpI;rw[if_pos h]
    rw[if_pos h,this];rfl
  . rw[if_neg h]
    by_cases h':y.1<x.1
    . have:cmpI x.1 y.1=1:=by unfold cmpI;rw[if_neg h,if_pos h']
      rw[if_pos h',this];rfl
    . have:cmpI x.1 y.1=0:=by unfold cmpI;rw[if_neg h,if_neg h']
      rw[if_neg h',this]
      unfold orL
      rw[if_pos rfl]
      unfold orL
      by_cases h0:zhz x.2.1 y.2.1=0
      . rw[if_pos h0,h0];rfl
      . rw[if_neg h0]
 rw[this])
theorem zk7 {x y:z00}:zfu x y (decide (x=y)):=z00y _ _ _ (by
 unfold zpw
 refine⟨_,zcq,?_⟩
 have:(z94 x y == (0:Int))=decide (x=y):=by
  by_cases h:x=y
  . rw[cmpF_zero.mpr h];simp[h]
  . have:z94 x y≠0:=fun e=>h (cmpF_zero.mp e)
    simp[h,this]
 rw[this])
theorem z05x {x y:List z0o}:zpp x y (decide (x=y)):=z05y _ _ _ (by
 unfold zyl
 exact z0f3 (α:=z0o) (fun r=>((r,()):Bool×Unit)=(decide (x=y),())) (fun(t u:z0o) A B=>z01 (!(eqD (.pair .str (.pair (.int .i64) (.pair .bool .unit))) t u)) A B) (fun(t:z0o) ht (u:z0o) hu A B h1 h2=>by
  rw[z0dm t u];exact z0q (fun h=>h1 (by simpa using h)) (fun h=>h2 (by simpa using h))) rfl)
theorem za9 {x y:z0c}:z57 x y (decide (x=y)):=zmi _ _ _ (by
 unfold zep
 refine⟨_,z05x,z0q (fun h=>?_) (fun h=>?_)⟩
 . rw[decide_eq_false];rintro rfl;simp at h
 . have h1:x.1=y.1:=by simpa using h
   have e:decide (x=y)=decide (x.2.1=y.2.1):=by
    obtain⟨a,b,_⟩:=x;obtain⟨a',b',_⟩:=y
    simp only at h1;simp[h1]
   rw[e]
   exact z0f3 (fun r=>((r,()):Bool×Unit)=(decide (x.2.1=y.2.1),())) (fun t u A B=>∃ c,z3x t u c/\z01 (c != (0:Int)) A B) (fun t ht u hu A B h1 h2=>⟨_,z9q,zby (fun h=>h1 fun e=>h (cmpF_zero.mpr e)) (fun h=>h2 (cmpF_zero.mp h))⟩) rfl)
def ins:List Int->Int->List Int
 |[],x=>[x]
 |a::l,x=>if a<x then a::ins l x else if a=x then a::l else x::a::l
def srt (l:List Int):Prop:=l.Pairwise (· < ·)
def zdc (l:List Int):List Int:=l.foldl ins []
theorem mem_put {y x:Int}:∀ {l:List Int},y∈ins l x↔y=x\/y∈l
 |[]=>by simp[ins]
 | a::l=>by
   unfold ins
   split
   . rw[List.mem_cons,mem_put,List.mem_cons]
     constructor
     . rintro (h|h|h)<;>simp[h]
     . rintro (h|h|h)<;>simp[h]
   . split
     . rename_i h;subst h;simp
     . simp
theorem z05j {x:Int}:∀ {l:List Int},srt l->srt (ins l x)
 |[],_=>by simp[ins,srt]
 | a::l,h=>by
   obtain⟨h1,h2⟩:=List.pairwise_cons.mp h
   unfold ins
   split
   . rename_i hlt
     refine List.pairwise_cons.mpr ⟨fun y hy=>?_,z05j h2⟩
     rcases mem_put.mp hy with rfl|hy
     . exact hlt
     . exact h1 y hy
   . split
     . exact h
     . refine List.pairwise_cons.mpr ⟨fun y hy=>?_,h⟩
       rcases List.mem_cons.mp hy with rfl|hy
       . omega
       . have:=h1 y hy;omega
theorem zz6 {l:List Int}:∀ {s:List Int},srt s->srt (l.foldl ins s)/\∀ y,y∈l.foldl ins s↔y∈s\/y∈l:=by
 induction l with
 |nil=>intro s h;exact⟨h,by simp⟩
 | cons a l ih=>
   intro s h
   obtain⟨h1,h2⟩:=ih (z05j (x:=a) h)
   refine⟨h1,fun y=>?_⟩
   rw[List.foldl_cons,h2,mem_put,List.mem_cons]
   constructor
   . rintro ((h|h)|h)<;>simp[h]
   . rintro (h|h|h)<;>simp[h]
theorem zlw (l:List Int):srt (zdc l):=(zz6 List.Pairwise.nil).1
theorem mem_sset {l:List Int} {y:Int}:y∈zdc l↔y∈l:=by have:=(zz6 (l:=l) List.Pairwise.nil).2 y;simpa [zdc]using this
theorem z07g:∀ {a b:List Int},srt a->srt b->(∀ y,y∈a↔y∈b)->a=b
 |[],[],_,_,_=>rfl
 |[],y::b,_,_,h=>by have:=(h y).mpr (by simp);simp at this
 |x::a,[],_,_,h=>by have:=(h x).mp (by simp);simp at this
 | x::a,y::b,ha,hb,h=>by
   obtain⟨ha1,ha2⟩:=List.pairwise_cons.mp ha
   obtain⟨hb1,hb2⟩:=List.pairwise_cons.mp hb
   have hxy:x=y:=by
    rcases List.mem_cons.mp ((h x).mp (by simp))with e|hx
    . exact e
    . rcases List.mem_cons.mp ((h y).mpr (by simp))with e|hy
      . exact e.symm
      . have:=ha1 y hy;have:=hb1 x hx;omega
   subst hxy
   congr 1
   refine z07g ha2 hb2 fun z=>⟨fun hz=>?_,fun hz=>?_⟩
   . rcases List.mem_cons.mp ((h z).mp (by simp[hz]))with e|h'
     . have:=ha1 z hz;omega
     . exact h'
   . rcases List.mem_cons.mp ((h z).mpr (by simp[hz]))with e|h'
     . have:=hb1 z hz;omega
     . exact h'
theorem z085 {a l:List Int} (h1:srt a) (h2:∀ y,y∈a↔y∈l):a=zdc l:=z07g h1 (zlw l) fun y=>by rw[h2,mem_sset]
theorem zw0 {l m:List Int}:(zdc m).foldl ins (zdc l)=zdc (l++m):=by
 obtain⟨h1,h2⟩:=zz6 (l:=zdc m) (zlw l)
 exact z085 h1 fun y=>by rw[h2,mem_sset,mem_sset,List.mem_append]
theorem zq7 {l:List Int} {x:Int}:ins (zdc l) x=zdc (l++[x]):=by unfold zdc;rw[List.foldl_append];rfl
theorem z06w (l:List Int) (x:Int):(ins l x).length<=l.length+1:=by
 induction l with
 |nil=>simp[ins]
 |cons a l ih=>unfold ins;split;simp;omega;split<;>simp
theorem zu1 (l:List Int):(zdc l).length<=l.length:=by
 have:∀(l s:List Int),(l.foldl ins s).length<=s.length+l.length:=by
  intro l
  induction l with
  |nil=>intro s;simp
  |cons a l ih=>intro s;have:=ih (ins s a);have:=z06w s a;simp only[List.foldl_cons,List.length_cons];omega
 have:=this l []
 simpa [zdc]using this
theorem zy4 {l:List Int} {a:Int}:∀ {n:Nat},srt l->(∀ y∈l,a<=y/\y<a+n)->l.length<=n:=by
 induction l generalizing a with
 |nil=>intro n _ _;simp
 | cons x l ih=>
   intro n h hr
   obtain⟨h1,h2⟩:=List.pairwise_cons.mp h
   have hx:=hr x (by simp)
   have:=ih (a:=x+1) (n:=(a+n - (x+1)).toNat) h2 fun y hy=>by
    have:=h1 y hy;have:=hr y (by simp[hy]);omega
   simp only[List.length_cons];omega
theorem z09y {l:List Int} (h:srt l) (hne:l≠[]):∀ y∈l,y<=l.getLast hne:=by
 intro y hy
 have hs:l=l.dropLast++[l.getLast hne]:=(List.dropLast_concat_getLast hne).symm
 rw[hs]at h hy
 unfold srt at h
 rw[List.pairwise_append]at h
 rcases List.mem_append.mp hy with hy|hy
 . have:=h.2.2 y hy (l.getLast hne) (by simp);omega
 . have:y=l.getLast hne:=by simpa using hy
   omega
theorem z0eq (l:List Int) (x:Int):ins l x=if h:z03 (fun a=>!decide (a<x)) l<l.length then(if l[z03 (fun a=>!decide (a<x)) l]=x then l else l.take (z03 (fun a=>!decide (a<x)) l)++x::l.drop (z03 (fun a=>!decide (a<x)) l))else l++[x]:=by
 induction l with
 |nil=>simp[ins,z03]
 | cons a l ih=>
   unfold ins
   by_cases ha:a<x
   . have e:z03 (fun a=>!decide (a<x)) (a::l)=z03 (fun a=>!decide (a<x)) l+1:=by simp[z03,ha]
     rw[if_pos ha,ih]
     by_cases hf:z03 (fun a=>!decide (a<x)) l<l.length
     . rw[dif_pos hf,dif_pos (by rw[e];simpa using hf)]
       simp only[e,List.getElem_cons_succ,List.take_succ_cons,List.drop_succ_cons]
       split
       . rfl
       . rfl
     . rw[dif_neg hf,dif_neg (by rw[e];simpa using hf)]
       rfl
   . have e:z03 (fun a=>!decide (a<x)) (a::l)=0:=by simp[z03,ha]
     rw[if_neg ha,dif_pos (by rw[e];simp)]
     simp only[e,List.getElem_cons_zero,List.take_zero,List.drop_zero,List.nil_append]
theorem zoj {l:List Int} {x:Int} (hl:l.length<=1073741824):zi7 l x (ins l x):=z0ae _ _ _ (by
 unfold z01m
 have fin:∀(k:Nat),k<=l.length->((0<=(k:Int)/\(k:Int)<=(List.length l:Int)/\(List.length l:Int)<=(List.length l:Int))/\(([x]:List Int).length+(List.drop (Int.toNat (k:Int)) (List.take (Int.toNat (List.length l:Int)) l)).length<=z0t/\((0<=(0:Int)/\(0:Int)<=(k:Int)/\(k:Int)<=(List.length l:Int))/\(([]:List Int).length+(List.drop (Int.toNat (0:Int)) (List.take (Int.toNat (k:Int)) l)).length<=z0t/\((([]:List Int)++(List.drop (Int.toNat (0:Int)) (List.take (Int.toNat (k:Int)) l))).length+(([x]:List Int)++(List.drop (Int.toNat (k:Int)) (List.take (Int.toNat (List.length l:Int)) l))).length<=z0t/\(((([]:List Int)++(List.drop (Int.toNat (0:Int)) (List.take (Int.toNat (k:Int)) l)))++(([x]:List Int)++(List.drop (Int.toNat (k:Int)) (List.take (Int.toNat (List.length l:Int)) l))),()):List Int×Unit)=(l.take k++x::l.drop k,()))))) ):=by
  intro k hk
  simp only[Int.toNat_natCast,List.take_length,Int.toNat_zero,List.drop_zero,List.nil_append,List.length_nil,List.length_cons,List.length_append,List.length_take,List.length_drop,z0t,List.cons_append]
  refine⟨⟨by omega,by omega,by omega⟩,by omega,⟨by omega,by omega,by omega⟩,by omega,by omega,trivial⟩
 rw[z0eq]
 refine za8 l (fun a=>!decide (a<x)) (fun i=>((i:Int),())) (KT:=fun i=>∀ h:i<l.length,∀ r:List Int×Unit,r=(if l[i]=x then l else l.take i++x::l.drop i,())->r=((if h:z03 (fun a=>!decide (a<x)) l<l.length then(if l[z03 (fun a=>!decide (a<x)) l]=x then l else l.take (z03 (fun a=>!decide (a<x)) l)++x::l.drop (z03 (fun a=>!decide (a<x)) l))else l++[x]),()))
  (KF:=∀ r:List Int×Unit,r=(l++[x],())->r=((if h:z03 (fun a=>!decide (a<x)) l<l.length then(if l[z03 (fun a=>!decide (a<x)) l]=x then l else l.take (z03 (fun a=>!decide (a<x)) l)++x::l.drop (z03 (fun a=>!decide (a<x)) l))else l++[x]),())) ?_ ?_ ?_ ?_
 . intro i hi X h1 h2
   refine z0l fun hl'=>bcI hi (inI hi ?_)
   simp only
   rw[z2o hi,z07 (by omega)]
   refine z0b (fun h=>h2 (by simpa using h)) (fun h=>?_)
   have h1:=h1 (by simpa using h) hi
   refine z0l fun _=>bcI hi (inI hi (z4m (fun he=>h1 _ (by rw[if_pos he])) (fun he=>?_)))
   rw[if_neg he]at h1
   have:=fin i (by omega)
   exact⟨this.1,this.2.1,this.2.2.1,this.2.2.2.1,this.2.2.2.2.1,h1 _ this.2.2.2.2.2⟩
 . intro X h
   refine z0l fun hl'=>bcN (z0l fun _=>bcN ?_)
   have:=fin l.length (by omega)
   refine⟨this.1,this.2.1,this.2.2.1,this.2.2.2.1,this.2.2.2.2.1,h _ (this.2.2.2.2.2.trans (by simp))⟩
 . intro h h' r hr;rw[hr,dif_pos h]
 . intro h r hr;rw[hr,dif_neg (by omega)])
theorem zkk {l:List Int} {x:Int}:zfc l x (decide (x∈l)):=z096 _ _ _ (by
 unfold z026
 refine z9i l (fun a=>x == a) (fun i=>((i:Int),())) (KT:=((true,()):Bool×Unit)=(decide (x∈l),())) (KF:=((false,()):Bool×Unit)=(decide (x∈l),())) ?_ (fun X h=>z0l fun _=>bcN h) (fun h=>?_) (fun h=>?_)
 . intro i hi X h1 h2
   refine z0l fun _=>bcI hi (inI hi ?_)
   simp only
   rw[z2o hi,z07 (by omega)]
   exact z4m (fun h=>h1 (by simp[h])) (fun h=>h2 (by simpa using fun e=>h e.symm))
 . rw[ztw]at h;rw[h]
 . rw[ztw]at h;rw[h])
theorem zxc {l:List Int} {y:Int}:y∈z3y l↔y∈l:=by unfold z3y;simp
theorem zxb (l:List Int):(z3y l).Pairwise (·<=·):=by
 unfold z3y
 have:=List.pairwise_mergeSort (le:=fun a b:Int=>decide (a<=b)) (fun a b c h1 h2=>by simp at *;omega) (fun a b=>by simp;omega) l
 exact this.imp fun h=>by simpa using h
theorem zx6 (l:List Int):zct (z3y l)=zdc l:=by
 have hs:=zxb l
 have hget:∀ i j (hi:i<(z3y l).length) (hj:j<(z3y l).length),i<=j->(z3y l)[i]<=(z3y l)[j]:=by
  intro i j hi hj h
  rcases Nat.lt_or_ge i j with h|h
  . exact List.pairwise_iff_getElem.mp hs i j hi hj h
  . have:i=j:=by omega
    subst this;omega
 have ex:zct (z3y l)=((List.range (z3y l).length).filter (Lib.keeps (z3y l).toArray)).map ((z3y l).toArray[·]!):=rfl
 refine z085 ?_ ?_
 . rw[ex]
   unfold srt
   rw[List.pairwise_map,List.pairwise_filter]
   refine List.Pairwise.imp_of_mem (R:=(· < ·)) ?_ List.pairwise_lt_range
   intro i j hi hj hij _ kj
   have hi:=List.mem_range.mp hi;have hj:=List.mem_range.mp hj
   have e1:(z3y l).toArray[i]! = (z3y l)[i]:=by simp[hi]
   have e2:(z3y l).toArray[j]! = (z3y l)[j]:=by simp[hj]
   have e3:(z3y l).toArray[j - 1]! = (z3y l)[j - 1]'(by omega):=by rw[getElem!_pos (z3y l).toArray (j - 1) (by simp;omega)];rfl
   rw[e1,e2]
   unfold Lib.keeps at kj
   rw[e2,e3]at kj
   have h1:=hget i (j - 1) hi (by omega) (by omega)
   have h2:=hget (j - 1) j (by omega) hj (by omega)
   rcases of_decide_eq_true kj with h|h
   . omega
   . omega
 . intro y
   rw[ex,List.mem_map]
   constructor
   . rintro⟨j,hj,rfl⟩
     have hj:=List.mem_range.mp (List.mem_filter.mp hj).1
     have e:(z3y l).toArray[j]! = (z3y l)[j]:=by simp[hj]
     rw[e,<-zxc];exact List.getElem_mem hj
   . intro hy
     rw[<-zxc]at hy
     have hf:z03 (fun t=>t == y) (z3y l)<(z3y l).length:=firstAt_any.mpr (List.any_eq_true.mpr ⟨y,hy,by simp⟩)
     have h2:=zc0 hf
     have h3:(z3y l)[z03 (fun t=>t == y) (z3y l)]=y:=by simpa using h2
     refine⟨z03 (fun t=>t == y) (z3y l),List.mem_filter.mpr ⟨List.mem_range.mpr hf,?_⟩,by simp[hf,h3]⟩
     unfold Lib.keeps
     rw[decide_eq_true_iff]
     by_cases h0:z03 (fun t=>t == y) (z3y l)=0
     . exact .inl h0
     . right
       have hlt:z03 (fun t=>t == y) (z3y l) - 1<(z3y l).length:=by omega
       have h4:=za2 (p:=fun t=>t == y) (l:=z3y l) hlt (by omega)
       have e1:(z3y l).toArray[z03 (fun t=>t == y) (z3y l)]! = y:=by simp[hf,h3]
       have e2:(z3y l).toArray[z03 (fun t=>t == y) (z3y l) - 1]! = (z3y l)[z03 (fun t=>t == y) (z3y l) - 1]:=by simp[hlt]
       rw[e1,e2]
       intro e
       rw[<-e]at h4;simp at h4
def inR (x a b:Int):Bool:=decide (a<=x)&&decide (x<=b)
theorem z3z {α:Type} {p:α->Bool} {l:List α}:(l.any fun t=>!p t) = !(l.all p):=by
 induction l with
 |nil=>rfl
 |cons a l ih=>simp only[List.any_cons,List.all_cons,ih];cases p a<;>simp
theorem nt {b:Bool} (h:(!b)=true):b=false:=by simpa using h
theorem nf {b:Bool} (h:(!b)=false):b=true:=by simpa using h
theorem zeo {α β:Type} (f:α->List β) {l:List α} {i:Nat} (h:i<l.length):(l.flatMap f).length=((l.take i).flatMap f).length+((f l[i]).length+((l.drop (i+1)).flatMap f).length):=by
 have e:l=l.take i++l[i]::l.drop (i+1):=by rw[<-z9h h,List.take_append_drop]
 have:=congrArg (fun m=>(m.flatMap f).length) e
 simp only[List.flatMap_append,List.flatMap_cons,List.length_append]at this
 exact this
theorem inR_iff {x a b:Int}:inR x a b=true↔a<=x/\x<=b:=by simp[inR]
theorem z0bs:∀ {a b:List UInt8},(Op.bytesLess b a||b == a) = !(Op.bytesLess a b)
 |[],[]=>by decide
 |[],y::b=>by simp[Op.bytesLess]
 |x::a,[]=>by simp[Op.bytesLess]
 | x::a,y::b=>by
   have ih:=z0bs (a:=a) (b:=b)
   simp only[Op.bytesLess]
   by_cases h:y<x
   . have h2:¬ x<y:=UInt8.lt_asymm h
     have h3:¬ x=y:=by rintro rfl;exact UInt8.lt_irrefl _ h
     simp[h,h2,h3]
   . by_cases h2:x<y
     . have h3:¬ y=x:=by rintro rfl;exact h h2
       simp[h,h2,h3]
     . have h3:x=y:=UInt8.le_antisymm (UInt8.not_lt.mp h) (UInt8.not_lt.mp h2)
       subst h3
       simp only[h,decide_false,beq_self_eq_true,Bool.true_and,Bool.false_or]
       rw[<-ih]
       by_cases h4:b=a<;>simp[h4]
def zo9 (r:z0o):Bool:=(r.1.length == 1)&&decide (97<=(r.1.getD 0 0).toNat)&&decide ((r.1.getD 0 0).toNat<=122)&&inR r.2.1 1 3
def zfr (l:List z0o) (i:Nat):z0o:=l.getD i zjj
def z9u (l:List z0o):Bool:=((List.range l.length).all fun i=>zo9 (zfr l i)&&(i == 0||Op.bytesLess (zfr l (i - 1)).1 (zfr l i).1))&&decide (l.length<=6)
theorem zhq {l:List z0o} {i:Nat} (h:i<l.length):zfr l i=l[i]:=z71 h
theorem zhi {l:List z0o} (h:z9u l=true) {r:z0o} (hr:r∈l):zo9 r=true:=by
 unfold z9u at h
 rw[Bool.and_eq_true]at h
 obtain⟨i,hi,rfl⟩:=List.mem_iff_getElem.mp hr
 have:=List.all_eq_true.mp h.1 i (List.mem_range.mpr hi)
 rw[Bool.and_eq_true,zhq hi]at this
 exact this.1
theorem zlu {l:List z0o} (h:z9u l=true):l.length<=6:=by
 unfold z9u at h;simp at h;exact h.2
theorem zig {r:z0o} (h:zo9 r=true):1<=r.2.1/\r.2.1<=3:=by
 unfold zo9 at h;simp[inR]at h;exact h.2
def zpl (l:List z0o) (i:Int):Int:=(l.getD (Int.toNat i) zjj).2.1
def z9x (l:List z0o) (i:Int):Bool:=(l.getD (Int.toNat i) zjj).2.2.1
def zvq (ok:Int->Bool) (l:List z0o) (a:z00):Bool:=z9u l&&inR a.1 0 ((l.length:Int) - 1)&&((a.2.1.length:Int) == zpl l a.1)&&a.2.1.all ok
theorem z3n {ok:Int->Bool} {l:List z0o} {a:z00} (h:zvq ok l a=true):z9u l=true/\0<=a.1/\a.1<l.length/\(a.2.1.length:Int)=zpl l a.1/\a.2.1.length<=3/\∀ v∈a.2.1,ok v=true:=by
 unfold zvq at h
 simp only[Bool.and_eq_true,beq_iff_eq,List.all_eq_true]at h
 obtain⟨⟨⟨h1,h2⟩,h3⟩,h4⟩:=h
 have h2:=inR_iff.mp h2
 have hlt:a.1.toNat<l.length:=by omega
 have:=zig (zhi h1 (List.getElem_mem hlt))
 have e:zpl l a.1=l[a.1.toNat].2.1:=by unfold zpl;rw[z71 hlt]
 exact⟨h1,h2.1,by omega,h3,by omega,h4⟩
def z03i (t:Int):Bool:=inR t (-10) 4
def z6m (l:List z0o) (a:z00):Bool:=zvq z03i l a
def vars (l:List z00):List Int:=zdc ((l.flatMap (·.2.1)).filter fun t=>decide (0<=t))
def zhx (l:List z0o) (d:z0k):Bool:=inR d.1.length 1 2&&d.1.all (z6m l) &&
 (if d.2.2.1 then decide (d.2.1=[])&&decide (d.2.2.2.1∈vars d.1)&&decide (d.2.2.2.2.1∈vars d.1)&&decide (d.2.2.2.1<d.2.2.2.2.1)
  else d.2.1.all (fun a=>z6m l a && !(z9x l a.1))&&inR d.2.1.length 1 2&&(d.2.2.2.1 == 0)&&(d.2.2.2.2.1 == 0))
def zik (l:List z0o) (ds:List z0k):Bool:=ds.all (zhx l)&&z9u l&&decide (ds.length<=5)
def exV (d:z0k):List Int:=(vars d.2.1).filter fun v=>!decide (v∈vars d.1)
def frV (d:z0k):List Int:=(vars d.2.1).filter fun v=>decide (v∈vars d.1)
theorem zl1 {l:List z0o} {ats:List z00} (h:ats.all (z6m l)=true):(ats.flatMap (·.2.1)).length<=3 * ats.length:=by
 induction ats with
 |nil=>simp
 | cons a ats ih=>
   simp only[List.all_cons,Bool.and_eq_true]at h
   have h1:=(z3n h.1).2.2.2.2.1
   have:=ih h.2
   simp only[List.flatMap_cons,List.length_append,List.length_cons]
   omega
theorem zhv (l:List z00):(vars l).length<=(l.flatMap (·.2.1)).length:=Nat.le_trans (zu1 _) (List.length_filter_le _ _)
theorem z4j {x a b:Int}:z40 x a b (inR x a b):=z0cm _ _ _ _ (by
 unfold z06s inR
 refine z0b (fun h=>?_) (fun h=>?_)
 . rw[decide_eq_true (show a<=x from h),Bool.true_and]
 . rw[decide_eq_false (show ¬ a<=x from h),Bool.false_and])
theorem z54 {x a b:Int}:z4f x a b (inR x a b):=z08g _ _ _ _ (by
 unfold zwn inR
 refine z0b (fun h=>?_) (fun h=>?_)
 . rw[decide_eq_true h,Bool.true_and]
 . rw[decide_eq_false h,Bool.false_and])
theorem zkt {r:z0o}:z9j r (zo9 r):=zkz _ _ (by
 unfold zcv
 have no:∀ {b:Bool},zo9 r=b->((b,()):Bool×Unit)=(zo9 r,()):=fun h=>by rw[h]
 refine z0l fun _=>z4m (fun h=>?_) (fun h=>no ?_)
 . have h1:r.1.length=1:=by omega
   refine⟨⟨by omega,by omega⟩,?_⟩
   refine z0b (fun h2=>⟨⟨by omega,by omega⟩,z0b (fun h3=>⟨_,z4j,no ?_⟩) (fun h3=>no ?_)⟩) (fun h2=>no ?_)
   . unfold zo9
     have a1:decide (97<=(r.1.getD 0 0).toNat)=true:=decide_eq_true (by have h2:(97:Int)<=((r.1.getD 0 0).toNat:Int):=h2;omega)
     have a2:decide ((r.1.getD 0 0).toNat<=122)=true:=decide_eq_true (by have h3:((r.1.getD 0 0).toNat:Int)<=122:=h3;omega)
     rw[a1,a2];simp[h1]
   . unfold zo9
     have a2:decide ((r.1.getD 0 0).toNat<=122)=false:=decide_eq_false (by have h3:¬ ((r.1.getD 0 0).toNat:Int)<=122:=h3;omega)
     rw[a2];simp
   . unfold zo9
     have a1:decide (97<=(r.1.getD 0 0).toNat)=false:=decide_eq_false (by have h2:¬ (97:Int)<=((r.1.getD 0 0).toNat:Int):=h2;omega)
     rw[a1];simp
 . unfold zo9
   have:(r.1.length == 1)=false:=by simp;omega
   rw[this];simp)
theorem z01t {l:List z0o} {i:Nat} (h:i<l.length) (hp:(zo9 (zfr l i)&&(i == 0||Op.bytesLess (zfr l (i - 1)).1 (zfr l i).1))=false):z9u l=false:=by
 unfold z9u
 rw[Bool.and_eq_false_iff];left
 rw[Bool.eq_false_iff];intro hall
 have:=List.all_eq_true.mp hall i (List.mem_range.mpr h)
 rw[hp]at this;cases this
theorem zyo {l:List z0o} (hp:∀ i,i<l.length->(!(zo9 (zfr l i)&&(i == 0||Op.bytesLess (zfr l (i - 1)).1 (zfr l i).1)))=false):z9u l=decide (l.length<=6):=by
 unfold z9u
 have:((List.range l.length).all fun i=>zo9 (zfr l i)&&(i == 0||Op.bytesLess (zfr l (i - 1)).1 (zfr l i).1))=true:=
  List.all_eq_true.mpr fun i hi=>by have:=hp i (List.mem_range.mp hi);rwa [Bool.not_eq_false']at this
 rw[this,Bool.true_and]
theorem z27 {l:List z0o}:z1m l (z9u l):=ziu _ _ (by
 unfold zbm
 refine z90 l.length (fun i=>!(zo9 (zfr l i)&&(i == 0||Op.bytesLess (zfr l (i - 1)).1 (zfr l i).1))) (fun i=>((i:Int),())) (KT:=((false,()):Bool×Unit)=(z9u l,())) (KF:=((decide ((List.length l:Int)<=6),()):Bool×Unit)=(z9u l,())) ?_ (fun X h=>z0l fun _=>bcN (z0l fun _=>h)) ?_ ?_
 . intro i hi X hb h1 h2
   refine z0l fun hl=>bcI hi (inI hi ⟨_,zkt,?_⟩)
   simp only
   rw[z2o hi,z07 (by omega)]
   rw[zhq hi]at h1 h2
   refine z0q (fun h=>h1 (by simp[h])) (fun h=>z0b (fun h0=>?_) (fun h0=>h2 (by obtain rfl:i=0:=(by omega);simp[h])))
   have hi':i - 1<l.length:=by omega
   have hw:w64 ((i:Int) - 1)=((i - 1:Nat):Int):=by rw[z0w (by omega) (by omega)];omega
   rw[hw]
   refine inI hi' (inI hi ?_)
   rw[z2o hi']
   rw[zhq hi']at h1 h2
   have hz:(i == 0)=false:=by simp;omega
   rw[hz,Bool.false_or,h,Bool.true_and]at h1 h2
   exact z1y (fun h=>h1 h) (fun h=>h2 h)
 . rintro⟨i,hi,hp⟩
   rw[z01t hi (by rwa [Bool.not_eq_true']at hp)]
 . intro hp
   rw[zyo hp]
   congr 1
   exact decide_eq_decide.mpr (by omega))
theorem zkw {r:z0o}:z9f r (zo9 r):=zl8 _ _ (by
 unfold zcy
 have no:∀ {b:Bool},zo9 r=b->((b,()):Bool×Unit)=(zo9 r,()):=fun h=>by rw[h]
 refine z0l fun _=>z4m (fun h=>?_) (fun h=>no ?_)
 . have h1:r.1.length=1:=by omega
   obtain⟨c,hc⟩:∃ c,r.1=[c]:=List.length_eq_one_iff.mp h1
   rw[hc]
   have e1:(!(Op.bytesLess [c] [97]))=decide (97<=c.toNat):=by
    simp only[Op.bytesLess,Bool.and_false,Bool.or_false]
    by_cases h:c<97
    . have:c.toNat<97:=h
      simp[h];omega
    . have:¬ c.toNat<97:=h
      simp[h];omega
   have e2:(Op.bytesLess [c] [122]||[c] == [122])=decide (c.toNat<=122):=by
    simp only[Op.bytesLess,Bool.and_false,Bool.or_false]
    by_cases h:c<122
    . have:c.toNat<122:=h
      simp[h];omega
    . have:¬ c.toNat<122:=h
      by_cases h2:c=122
      . subst h2;simp
      . have h3:c.toNat≠122:=fun e=>h2 (UInt8.toNat_inj.mp e)
        have d2:([c] == [(122:UInt8)])=false:=by simp[h2]
        rw[decide_eq_false h,d2,decide_eq_false (by omega)];rfl
   rw[e1,e2]
   refine z0b (fun h2=>z0b (fun h3=>⟨_,z54,no ?_⟩) (fun h3=>no ?_)) (fun h2=>no ?_)
   . unfold zo9;rw[hc];simp[h2,h3]
   . unfold zo9;rw[hc]
     show((1 == 1)&&decide (97<=c.toNat)&&decide (c.toNat<=122)&&inR r.2.1 1 3)=false
     rw[decide_eq_false h3];simp
   . unfold zo9;rw[hc]
     show((1 == 1)&&decide (97<=c.toNat)&&decide (c.toNat<=122)&&inR r.2.1 1 3)=false
     rw[decide_eq_false h2];simp
 . unfold zo9
   have:(r.1.length == 1)=false:=by simp;omega
   rw[this];simp)
theorem z4y {l:List z0o}:z2u l (z9u l):=ziy _ _ (by
 unfold zbf
 refine z0l fun hl=>z90 l.length (fun i=>!(zo9 (zfr l i)&&(i == 0||Op.bytesLess (zfr l (i - 1)).1 (zfr l i).1))) (fun i=>((i:Int),())) (KT:=((false,()):Bool×Unit)=(z9u l,())) (KF:=((decide ((List.length l:Int)<=6),()):Bool×Unit)=(z9u l,())) ?_ (fun X h=>bcN (z0l fun _=>h)) ?_ ?_
 . intro i hi X hb h1 h2
   refine bcI hi (inI hi ⟨_,zkw,?_⟩)
   simp only
   rw[z2o hi,z07 (by omega)]
   rw[zhq hi]at h1 h2
   refine z0q (fun h=>h1 (by simp[h])) (fun h=>z0b (fun h0=>?_) (fun h0=>h2 (by obtain rfl:i=0:=(by omega);simp[h])))
   have hi':i - 1<l.length:=by omega
   have hw:w64 ((i:Int) - 1)=((i - 1:Nat):Int):=by rw[z0w (by omega) (by omega)];omega
   rw[hw]
   refine inI hi' ?_
   rw[z2o hi']
   rw[zhq hi']at h1 h2
   have hz:(i == 0)=false:=by simp;omega
   rw[hz,Bool.false_or,h,Bool.true_and]at h1 h2
   rw[z0bs]
   exact z1y (fun h=>h1 h) (fun h=>h2 h)
 . rintro⟨i,hi,hp⟩
   rw[z01t hi (by rwa [Bool.not_eq_true']at hp)]
 . intro hp
   rw[zyo hp]
   congr 1
   exact decide_eq_decide.mpr (by omega))
theorem row_start {l:List z0o} {a:z00} (h:inR a.1 0 (w64 ((l.length:Int) - 1))=true) (hl:(l.length:Int)<=9223372036854775807):0<=a.1/\a.1<(l.length:Int):=by
 have:=inR_iff.mp h
 rw[z0w (by omega) (by omega)]at this
 omega
theorem row_range {l:List z0o} {a:z00} (hl:(l.length:Int)<=9223372036854775807):inR a.1 0 (w64 ((l.length:Int) - 1))=inR a.1 0 ((l.length:Int) - 1):=by
 rw[z0w (by omega) (by omega)]
theorem row_no1 {ok:Int->Bool} {l:List z0o} {a:z00} (h:z9u l=false):((false,()):Bool×Unit)=(zvq ok l a,()):=by unfold zvq;rw[h];simp
theorem row_no2 {ok:Int->Bool} {l:List z0o} {a:z00} (hl:(l.length:Int)<=9223372036854775807) (h:inR a.1 0 (w64 ((l.length:Int) - 1))=false):((false,()):Bool×Unit)=(zvq ok l a,()):=by
 rw[row_range hl]at h;unfold zvq;rw[h];simp
theorem row_no3 {ok:Int->Bool} {l:List z0o} {a:z00} (h:(a.2.1.length:Int)≠(l.getD (Int.toNat a.1) zjj).2.1):((false,()):Bool×Unit)=(zvq ok l a,()):=by
 have:((a.2.1.length:Int) == zpl l a.1)=false:=by simpa [zpl]using h
 unfold zvq;rw[this];simp
theorem row_yes {ok:Int->Bool} {l:List z0o} {a:z00} {b:Bool} (hl:(l.length:Int)<=9223372036854775807) (h1:z9u l=true) (h2:inR a.1 0 (w64 ((l.length:Int) - 1))=true) (h3:(a.2.1.length:Int)=(l.getD (Int.toNat a.1) zjj).2.1) (hb:b=a.2.1.all ok):((b,()):Bool×Unit)=(zvq ok l a,()):=by
 rw[row_range hl]at h2
 have:((a.2.1.length:Int) == zpl l a.1)=true:=by simpa [zpl]using h3
 unfold zvq;rw[h1,h2,this,hb];simp
theorem zdt {l:List z0o} {a:z00}:z8g l a (z6m l a):=zrf _ _ _ (by
 unfold zj3 z6m
 refine⟨_,z27,z0q (fun h=>row_no1 h) (fun h1=>z0l fun hl=>⟨_,z4j,z0q (fun h=>row_no2 hl h) (fun h2=>z0l fun hl2=>⟨row_start h2 hl,zby (fun h=>row_no3 h) (fun h3=>?_)⟩)⟩)⟩
 refine z9i a.2.1 (fun t=>!z03i t) (fun i=>((i:Int),())) (KT:=((false,()):Bool×Unit)=(zvq z03i l a,())) (KF:=((true,()):Bool×Unit)=(zvq z03i l a,())) ?_ (fun X h=>z0l fun _=>bcN h) ?_ ?_
 . intro i hi X q1 q2
   refine z0l fun _=>bcI hi (inI hi ⟨_,z4j,?_⟩)
   simp only
   rw[z2o hi,z07 (by omega)]
   exact z1y (fun h=>q1 h) (fun h=>q2 h)
 . intro h;exact row_yes hl h1 h2 h3 (by rw[z3z]at h;exact(nt h).symm)
 . intro h;exact row_yes hl h1 h2 h3 (by rw[z3z]at h;exact(nf h).symm))
theorem znv {t:Int}:z48 t (!z03i t):=znr _ _ (by unfold zfy;exact⟨_,z54,rfl⟩)
theorem zrt {l:List z0o} {a:z00}:ze0 l a (z6m l a):=zrj _ _ _ (by
 unfold zjn z6m
 refine⟨_,z4y,z0q (fun h=>row_no1 h) (fun h1=>z0l fun hl=>⟨_,z54,z0q (fun h=>row_no2 hl h) (fun h2=>z0l fun hl2=>⟨row_start h2 hl,zby (fun h=>row_no3 h) (fun h3=>?_)⟩)⟩)⟩
 exact⟨_,z5u (fun t=>!z03i t) (fun _ _=>znv),row_yes hl h1 h2 h3 (by rw[z3z];simp)⟩)
theorem z8s {l:List z00} (hl:(l.flatMap (·.2.1)).length<=1073741824):z5g l (vars l):=zyp _ _ (by
 unfold znc
 refine z1k l.length (fun i=>((i:Int),(vars (l.take i),()))) (by simp[vars,zdc]) ?_ ?_
 . intro i hi X hX
   refine z0l fun hl1=>bcI hi ?_
   simp only
   rw[z2o hi]
   have hsub:((l.take i).flatMap (·.2.1)).length+l[i].2.1.length<=1073741824:=by
    have:=zeo (·.2.1) hi
    omega
   have hset:∀ j,j<=l[i].2.1.length->(zdc (((l.take i).flatMap (·.2.1)++l[i].2.1.take j).filter fun t=>decide (0<=t))).length<=1073741824:=by
    intro j hj
    refine Nat.le_trans (zu1 _) (Nat.le_trans (List.length_filter_le _ _) ?_)
    rw[List.length_append,List.length_take];omega
   refine z1k l[i].2.1.length (fun j=>(zdc (((l.take i).flatMap (·.2.1)++l[i].2.1.take j).filter fun t=>decide (0<=t)),((j:Int),()))) (by simp[vars]) ?_ ?_
   . intro j hj Y hY
     refine inI hi (z0l fun _=>bcI hj (inI hi (inI hj ?_)))
     simp only
     rw[z2o hj,z07 (by omega)]
     have e:((l.take i).flatMap (·.2.1)++l[i].2.1.take (j+1)).filter (fun t=>decide (0<=t))=((l.take i).flatMap (·.2.1)++l[i].2.1.take j).filter (fun t=>decide (0<=t))++(if 0<=l[i].2.1[j] then[l[i].2.1[j]] else[]):=by
      rw[z08 hj,<-List.append_assoc,List.filter_append]
      by_cases h:0<=l[i].2.1[j]<;>simp[h]
     rw[e]at hY
     refine z0b (fun h=>inI hi (inI hj ⟨_,zoj (hset j (by omega)),?_⟩)) (fun h=>?_)
     . have h:0<=l[i].2.1[j]:=h
       rw[if_pos h]at hY
       rw[zq7];exact hY
     . have h:¬ 0<=l[i].2.1[j]:=h
       rw[if_neg h,List.append_nil]at hY;exact hY
   . intro Y
     refine inI hi (z0l fun _=>bcN ?_)
     simp only
     rw[z07 (by omega),List.take_length]
     have:zdc (((l.take i).flatMap (·.2.1)++l[i].2.1).filter fun t=>decide (0<=t))=vars (l.take (i+1)):=by
      unfold vars;rw[z08 hi,List.flatMap_append];simp
     rw[this];exact hX
 . intro X
   refine z0l fun _=>bcN ?_
   simp only[List.take_length])
theorem zd8 {l:List z00} (hl:(l.flatMap (·.2.1)).length<=1073741824):z8q l (vars l):=zxu _ _ (by
 unfold zna
 refine z0l fun hl1=>?_
 refine z1k l.length (fun i=>((i:Int),(((l.take i).flatMap (·.2.1)).filter (fun t=>decide (0<=t)),()))) (by simp) ?_ ?_
 . intro i hi X hX
   refine bcI hi (inI hi ?_)
   simp only
   rw[z2o hi,z07 (by omega)]
   have hsub:((l.take i).flatMap (·.2.1)).length+l[i].2.1.length<=1073741824:=by
    have:=zeo (·.2.1) hi
    omega
   refine z0l fun _=>z1k l[i].2.1.length (fun j=>((j:Int),(((l.take i).flatMap (·.2.1)++l[i].2.1.take j).filter (fun t=>decide (0<=t)),()))) (by simp) ?_ ?_
   . intro j hj Y hY
     refine bcI hj (inI hj ?_)
     simp only
     rw[z2o hj,z07 (by omega)]
     have e:((l.take i).flatMap (·.2.1)++l[i].2.1.take (j+1)).filter (fun t=>decide (0<=t))=((l.take i).flatMap (·.2.1)++l[i].2.1.take j).filter (fun t=>decide (0<=t))++(if 0<=l[i].2.1[j] then[l[i].2.1[j]] else[]):=by
      rw[z08 hj,<-List.append_assoc,List.filter_append]
      by_cases h:0<=l[i].2.1[j]<;>simp[h]
     rw[e]at hY
     have hb:=List.length_filter_le (fun t=>decide (0<=t)) ((l.take i).flatMap (·.2.1)++l[i].2.1.take j)
     rw[List.length_append,List.length_take]at hb
     refine z0b (fun h=>⟨by simp only[z0t,List.length_cons,List.length_nil];omega,?_⟩) (fun h=>?_)
     . have h:0<=l[i].2.1[j]:=h
       rw[if_pos h]at hY;exact hY
     . have h:¬ 0<=l[i].2.1[j]:=h
       rw[if_neg h,List.append_nil]at hY;exact hY
   . intro Y
     refine bcN ?_
     simp only
     rw[List.take_length]
     have:((l.take i).flatMap (·.2.1)++l[i].2.1).filter (fun t=>decide (0<=t))=((l.take (i+1)).flatMap (·.2.1)).filter (fun t=>decide (0<=t)):=by
      rw[z08 hi,List.flatMap_append];simp
     rw[this];exact hX
 . intro X
   refine bcN ⟨_,zaj ?_,_,z8v,?_⟩
   . simp only[List.take_length]
     have:=List.length_filter_le (fun t=>decide (0<=t)) (l.flatMap (·.2.1));omega
   . simp only[List.take_length]
     rw[zx6];rfl)
theorem z0b1 {l:List z0o} {d:z0k} (h:inR d.1.length 1 2=false):((false,()):Bool×Unit)=(zhx l d,()):=by unfold zhx;rw[h];simp
theorem z09p {l:List z0o} {d:z0k} (h:d.1.all (z6m l)=false):((false,()):Bool×Unit)=(zhx l d,()):=by unfold zhx;rw[h];simp
theorem zbc {l:List z0o} {d:z0k}:z4x l d (zhx l d):=ziw _ _ _ (by
 unfold zbh
 refine z0l fun hl=>⟨_,z4j,z0q (fun h=>z0b1 h) (fun h1=>?_)⟩
 refine z9i d.1 (fun a=>!z6m l a) (fun i=>((i:Int),())) (KT:=((false,()):Bool×Unit)=(zhx l d,())) (KF:=d.1.all (z6m l)=true) ?_ ?_ ?_ ?_
 . intro i hi X q1 q2
   refine z0l fun _=>bcI hi (inI hi ⟨_,zdt,?_⟩)
   simp only
   rw[z2o hi,z07 (by omega)]
   exact z1y (fun h=>q1 h) (fun h=>q2 h)
 . intro X hall
   have hlen:=inR_iff.mp h1
   have hal:=zl1 hall
   refine z0l fun _=>bcN (z1y (fun he=>?_) (fun he=>?_))
   . have ev:zhx l d=(decide (d.2.1=[])&&decide (d.2.2.2.1∈vars d.1)&&decide (d.2.2.2.2.1∈vars d.1)&&decide (d.2.2.2.1<d.2.2.2.2.1)):=by
      unfold zhx;rw[h1,hall,he];simp
     rw[ev]
     refine⟨_,z8s (by omega),z0l fun _=>z4m (fun h=>⟨_,zkk,z0b (fun h2=>⟨_,zkk,z0b (fun h3=>?_) (fun h3=>?_)⟩) (fun h2=>?_)⟩) (fun h=>?_)⟩
     . have:d.2.1=[]:=List.length_eq_zero_iff.mp (by omega)
       simp[this,h2,h3]
     . simp[h3]
     . simp[h2]
     . have:d.2.1≠[]:=by intro e;rw[e]at h;simp at h
       simp[this]
   . have ev:zhx l d=(d.2.1.all (fun a=>z6m l a && !(z9x l a.1))&&inR d.2.1.length 1 2&&(d.2.2.2.1 == 0)&&(d.2.2.2.2.1 == 0)):=by
      unfold zhx;rw[h1,hall,he];simp
     rw[ev]
     refine z9i d.2.1 (fun a=>!(z6m l a && !(z9x l a.1))) (fun i=>((i:Int),())) (KT:=d.2.1.all (fun a=>z6m l a && !(z9x l a.1))=false) (KF:=d.2.1.all (fun a=>z6m l a && !(z9x l a.1))=true) ?_ ?_ ?_ ?_
     . intro i hi X q1 q2
       refine z0l fun _=>bcI hi (inI hi ⟨_,zdt,?_⟩)
       simp only
       rw[z2o hi,z07 (by omega)]
       have no:d.2.1.all (fun a=>z6m l a && !(z9x l a.1))=false->((false,()):Bool×Unit)=(d.2.1.all (fun a=>z6m l a && !(z9x l a.1))&&inR d.2.1.length 1 2&&(d.2.2.2.1 == 0)&&(d.2.2.2.2.1 == 0),()):=fun h=>by rw[h];simp
       refine z0q (fun h=>no (q1 (by simp[h]))) (fun h=>inI hi ⟨?_,z1y (fun h'=>no (q1 ?_)) (fun h'=>q2 ?_)⟩)
       . have:=z3n h;exact⟨this.2.1,this.2.2.1⟩
       . have:z9x l d.2.1[i].1=true:=h'
         simp[this]
       . have:z9x l d.2.1[i].1=false:=h'
         simp[this,h]
     . intro X hh
       refine z0l fun _=>bcN (z0l fun _=>⟨_,z4j,?_⟩)
       rw[hh]
       refine z1y (fun h2=>z4m (fun h3=>?_) (fun h3=>?_)) (fun h2=>?_)
       . rw[h2,h3];simp
       . have:(d.2.2.2.1 == 0)=false:=by simpa using h3
         rw[this];simp
       . rw[h2];simp
     . intro h;rw[z3z]at h;exact nt h
     . intro h;rw[z3z]at h;exact nf h
 . intro h;rw[z3z]at h;exact z09p (nt h)
 . intro h;rw[z3z]at h;exact nf h)
theorem zuc {l:List z0o} {a:z00}:z7j a l (!z6m l a):=zu7 _ _ _ (by unfold zlo;exact⟨_,zrt,rfl⟩)
theorem zqf {l:List z0o} {ats:List z00} {n:Int}:zez l ats n (inR ats.length 1 n&&ats.all (z6m l)):=zzj _ _ _ _ (by
 unfold zr2
 refine z0l fun _=>⟨_,z54,z1y (fun h=>⟨_,z6h (fun a=>!z6m l a) (fun _ _=>zuc),?_⟩) (fun h=>?_)⟩
 . rw[h,Bool.true_and,z3z];simp
 . rw[h,Bool.false_and])
theorem zgf {l:List z0o} {a:z00} (h0:0<=a.1) (h1:a.1<l.length):z29 a l (z9x l a.1):=zgg _ _ _ (by unfold z9y;exact⟨⟨h0,h1⟩,rfl⟩)
theorem zbb {l:List z0o} {d:z0k}:z4u l d (zhx l d):=zij _ _ _ (by
 unfold zb8
 refine⟨_,zqf,z0q (fun h=>?_) (fun h=>?_)⟩
 . unfold zhx;rw[h];simp
 . have h':=Bool.and_eq_true_iff.mp h
   have hlen:=inR_iff.mp h'.1
   have hal:=zl1 h'.2
   refine z1y (fun he=>?_) (fun he=>?_)
   . have ev:zhx l d=(decide (d.2.1=[])&&decide (d.2.2.2.1∈vars d.1)&&decide (d.2.2.2.2.1∈vars d.1)&&decide (d.2.2.2.1<d.2.2.2.2.1)):=by
      unfold zhx;rw[h'.1,h'.2,he];simp
     rw[ev]
     refine⟨_,zd8 (by omega),z0l fun _=>z4m (fun h0=>z0b (fun h1=>⟨_,z4g,z0b (fun h2=>⟨_,z4g,?_⟩) (fun h2=>?_)⟩) (fun h1=>?_)) (fun h0=>?_)⟩
     . have:d.2.1=[]:=List.length_eq_zero_iff.mp (by omega)
       simp[this,h1,h2]
     . simp[h2]
     . simp[h1]
     . have:d.2.1≠[]:=by intro e;rw[e]at h0;simp at h0
       simp[this]
   . have ev:zhx l d=(d.2.1.all (fun a=>z6m l a && !(z9x l a.1))&&inR d.2.1.length 1 2&&(d.2.2.2.1 == 0)&&(d.2.2.2.2.1 == 0)):=by
      unfold zhx;rw[h'.1,h'.2,he];simp
     rw[ev]
     have hand:d.2.1.all (fun a=>z6m l a && !(z9x l a.1))=(d.2.1.all (z6m l)&&d.2.1.all fun a=>!(z9x l a.1)):=by
      generalize d.2.1=m
      induction m with
      |nil=>rfl
      |cons a m ih=>simp only[List.all_cons,ih];cases z6m l a<;>cases z9x l a.1<;>simp
     rw[hand]
     refine⟨_,zqf,z1y (fun h1=>z4m (fun h2=>z4m (fun h3=>?_) (fun h3=>?_)) (fun h2=>?_)) (fun h1=>?_)⟩
     . have h1:=Bool.and_eq_true_iff.mp h1
       refine⟨_,z44 (fun a=>z9x l a.1) (fun a ha=>?_),?_⟩
       . have:=z3n (List.all_eq_true.mp h1.2 a ha)
         exact zgf this.2.1 this.2.2.1
       . rw[h1.1,h1.2,h2,h3,List.not_any_eq_all_not];simp
     . have:(d.2.2.2.2.1 == 0)=false:=by simpa using h3
       rw[this];simp
     . have:(d.2.2.2.1 == 0)=false:=by simpa using h2
       rw[this];simp
     . rcases Bool.and_eq_false_iff.mp h1 with h1|h1<;>rw[h1]<;>simp)
theorem z3q {l:List z0o} {ds:List z0k}:z2s l ds (zik l ds):=zey _ _ _ (by
 unfold z9k
 refine z9i ds (fun d=>!zhx l d) (fun i=>((i:Int),())) (KT:=ds.all (zhx l)=false) (KF:=ds.all (zhx l)=true) ?_ ?_ ?_ ?_
 . intro i hi X q1 q2
   refine z0l fun _=>bcI hi (inI hi ⟨_,zbc,?_⟩)
   simp only
   rw[z2o hi,z07 (by omega)]
   exact z1y (fun h=>by unfold zik;rw[q1 h];simp) (fun h=>q2 h)
 . intro X h
   refine z0l fun _=>bcN ⟨_,z27,z1y (fun h1=>z0l fun _=>?_) (fun h1=>?_)⟩
   . unfold zik;rw[h,h1]
     have:decide ((ds.length:Int)<=5)=decide (ds.length<=5):=decide_eq_decide.mpr (by omega)
     rw[this];simp
   . unfold zik;rw[h1];simp
 . intro h;rw[z3z]at h;exact nt h
 . intro h;rw[z3z]at h;exact nf h)
theorem zdp {l:List z0o} {d:z0k}:z1l d l (!zhx l d):=ze4 _ _ _ (by unfold z8b;exact⟨_,zbb,rfl⟩)
theorem zfs {l:List z0o} {ds:List z0k}:z5l l ds (zik l ds):=zfk _ _ _ (by
 unfold z9r
 refine⟨_,z4y,z1y (fun h1=>z0l fun _=>z0b (fun h2=>⟨_,z36 (fun d=>!zhx l d) (fun _ _=>zdp),?_⟩) (fun h2=>?_)) (fun h1=>?_)⟩
 . have:decide (ds.length<=5)=true:=decide_eq_true (by omega)
   unfold zik;rw[h1,this,z3z];simp
 . have:decide (ds.length<=5)=false:=decide_eq_false (by omega)
   unfold zik;rw[this];simp
 . unfold zik;rw[h1];simp)
theorem z5r {d:z0k} (h1:(d.1.flatMap (·.2.1)).length<=1073741824) (h2:(d.2.1.flatMap (·.2.1)).length<=1073741824):z2r d (exV d):=zfi _ _ (by
 unfold z9o
 have hv:=zhv d.2.1
 refine⟨_,z8s h1,_,z8s h2,?_⟩
 refine z1k (vars d.2.1).length (fun i=>((i:Int),(((vars d.2.1).take i).filter (fun v=>!decide (v∈vars d.1)),()))) (by simp) ?_ ?_
 . intro i hi X hX
   refine z0l fun _=>bcI hi (inI hi ⟨_,zkk,?_⟩)
   simp only
   rw[z2o hi,z07 (by omega)]
   have e:((vars d.2.1).take (i+1)).filter (fun v=>!decide (v∈vars d.1))=((vars d.2.1).take i).filter (fun v=>!decide (v∈vars d.1))++(if (vars d.2.1)[i]∈vars d.1 then[] else[(vars d.2.1)[i]]):=by
    rw[z08 hi,List.filter_append]
    by_cases h:(vars d.2.1)[i]∈vars d.1<;>simp[h]
   rw[e]at hX
   have hb:=List.length_filter_le (fun v=>!decide (v∈vars d.1)) ((vars d.2.1).take i)
   rw[List.length_take]at hb
   refine z1y (fun h=>inI hi ⟨by simp only[z0t,List.length_cons,List.length_nil];omega,?_⟩) (fun h=>?_)
   . have h:¬ (vars d.2.1)[i]∈vars d.1:=by simpa using h
     rw[if_neg h]at hX;exact hX
   . have h:(vars d.2.1)[i]∈vars d.1:=by simpa using h
     rw[if_pos h,List.append_nil]at hX;exact hX
 . intro X
   refine z0l fun _=>bcN ?_
   simp only[List.take_length]
   rfl)
def hdV (d:z0k) (b:Bool):List Int:=(vars d.2.1).filter fun v=>decide (v∈vars d.1) == b
theorem zg6 {d:z0k} {b:Bool} (h1:(d.1.flatMap (·.2.1)).length<=1073741824) (h2:(d.2.1.flatMap (·.2.1)).length<=1073741824):z8l d b (hdV d b):=zni _ _ _ (by
 unfold zg2
 have hv:=zhv d.2.1
 refine⟨_,zd8 h1,_,zd8 h2,z0l fun _=>?_⟩
 refine z1k (vars d.2.1).length (fun i=>((i:Int),(((vars d.2.1).take i).filter (fun v=>decide (v∈vars d.1) == b),()))) (by simp) ?_ ?_
 . intro i hi X hX
   refine bcI hi (inI hi ⟨_,z4g,?_⟩)
   simp only
   rw[z2o hi,z07 (by omega)]
   have e:((vars d.2.1).take (i+1)).filter (fun v=>decide (v∈vars d.1) == b)=((vars d.2.1).take i).filter (fun v=>decide (v∈vars d.1) == b)++(if (decide ((vars d.2.1)[i]∈vars d.1) == b)=true then[(vars d.2.1)[i]] else[]):=by
    rw[z08 hi,List.filter_append]
    cases h:(decide ((vars d.2.1)[i]∈vars d.1) == b)<;>simp[h]
   rw[e]at hX
   have hb:=List.length_filter_le (fun v=>decide (v∈vars d.1) == b) ((vars d.2.1).take i)
   rw[List.length_take]at hb
   refine z1y (fun h=>⟨by simp only[z0t,List.length_cons,List.length_nil];omega,?_⟩) (fun h=>?_)
   . rw[if_pos h]at hX;exact hX
   . rw[if_neg (by rw[h];simp),List.append_nil]at hX;exact hX
 . intro X
   refine bcN ?_
   simp only[List.take_length]
   rfl)
theorem z07q (d:z0k):hdV d false=exV d:=by unfold hdV exV;congr 1;funext v;by_cases h:v∈vars d.1<;>simp[h]
theorem z09j (d:z0k):hdV d true=frV d:=by unfold hdV frV;congr 1;funext v;by_cases h:v∈vars d.1<;>simp[h]
theorem zfh {d:z0k} (h1:(d.1.flatMap (·.2.1)).length<=1073741824) (h2:(d.2.1.flatMap (·.2.1)).length<=1073741824):z5s d (exV d):=zfj _ _ (by
 unfold z9s
 exact⟨_,zg6 h1 h2,by rw[z07q]⟩)
theorem z6s {l:List z0o} {d:z0k} (h:zhx l d=true):1<=d.1.length/\d.1.length<=2/\(∀ a∈d.1,z6m l a=true)/\d.2.1.length<=2/\(∀ a∈d.2.1,z6m l a=true)/\(d.1.flatMap (·.2.1)).length<=6/\(d.2.1.flatMap (·.2.1)).length<=6:=by
 unfold zhx at h
 rw[Bool.and_eq_true,Bool.and_eq_true]at h
 obtain⟨⟨h1,h2⟩,h3⟩:=h
 have h1:=inR_iff.mp h1
 have l1:=zl1 h2
 cases he:d.2.2.1 with
 | true=>
   rw[if_pos he]at h3
   simp only[Bool.and_eq_true,decide_eq_true_eq]at h3
   have:=h3.1.1.1
   exact⟨by omega,by omega,List.all_eq_true.mp h2,by simp[this],by simp[this],by omega,by simp[this]⟩
 | false=>
   rw[if_neg (by simp[he])]at h3
   simp only[Bool.and_eq_true]at h3
   have hr:=inR_iff.mp h3.1.1.2
   have h4:d.2.1.all (z6m l)=true:=List.all_eq_true.mpr fun a ha=>by
    have:=List.all_eq_true.mp h3.1.1.1 a ha
    rw[Bool.and_eq_true]at this;exact this.1
   have l2:=zl1 h4
   exact⟨by omega,by omega,List.all_eq_true.mp h2,by omega,List.all_eq_true.mp h4,by omega,by omega⟩
theorem zqo {l:List z0o} {ds:List z0k} (h:zik l ds=true) {d:z0k} (hd:d∈ds):zhx l d=true:=by
 unfold zik at h
 rw[Bool.and_eq_true,Bool.and_eq_true]at h
 exact List.all_eq_true.mp h.1.1 d hd
theorem zq6 {l:List z0o} {ds:List z0k} (h:zik l ds=true):ds.length<=5:=by
 unfold zik at h;simp at h;exact h.2
def z3a (v:Int):Bool:=inR v (-40) (-1)
def z16 (v:Int):Int:=if z3a v then -1 - v else 0
def zml (v:Int):Bool:=inR v (-40) 9
def z2h (l:List Int):List Int:=(l.filter z3a).map (fun v=>-1 - v)
def zx7 (f:z00):List Int:=zdc (z2h f.2.1)
def zgb (x:z0c):List Int:=zdc (x.2.1.flatMap fun f=>z2h f.2.1)
def znt (l:List z0o) (f:z00):Bool:=zvq zml l f
def zcw (l:List z00) (i:Nat):z00:=l.getD i z0y
def z8e (x:z0c) (i:Nat):Bool:=znt x.1 (zcw x.2.1 i)&&(i == 0||decide (z94 (zcw x.2.1 (i - 1)) (zcw x.2.1 i)<0)) && !(z9x x.1 (zcw x.2.1 i).1&&(zx7 (zcw x.2.1 i)).length != 0)
def z5d (x:z0c):Bool:=z9u x.1&&decide (x.2.1.length<=30)&&(List.range x.2.1.length).all (z8e x)
theorem isNul_iff {v:Int}:z3a v=true↔-40<=v/\v<=-1:=inR_iff
theorem mem_nulls {l:List Int} {k:Int}:k∈z2h l↔0<=k/\k<40/\(-1 - k)∈l:=by
 unfold z2h
 rw[List.mem_map]
 constructor
 . rintro⟨v,hv,rfl⟩
   obtain⟨h1,h2⟩:=List.mem_filter.mp hv
   have:=isNul_iff.mp h2
   exact ⟨by omega, by omega, by have e : -1 - (-1 - v)=v:=by omega
                                 rw[e];exact h1⟩
 . rintro⟨h1,h2,h3⟩
   exact⟨-1 - k,List.mem_filter.mpr ⟨h3,isNul_iff.mpr ⟨by omega,by omega⟩⟩,by omega⟩
theorem zd4 (l m:List Int):z2h (l++m)=z2h l++z2h m:=by unfold z2h;rw[List.filter_append,List.map_append]
theorem zed (l:List z00):z2h (l.flatMap (·.2.1))=l.flatMap fun f=>z2h f.2.1:=by
 induction l with
 |nil=>rfl
 |cons a l ih=>simp only[List.flatMap_cons];rw[zd4,ih]
theorem zke {l:List Int}:∀ k∈zdc (z2h l),0<=k/\k<0+(40:Nat):=fun k hk=>by
 have:=mem_nulls.mp (mem_sset.mp hk);omega
theorem zkg {l:List Int}:(zdc (z2h l)).length<=40:=zy4 (zlw _) zke
theorem z01a (x:z0c):(zgb x).length<=40:=by unfold zgb;rw[<-zed];exact zkg
theorem zvx (l:List Int):(z2h l).length<=l.length:=by unfold z2h;rw[List.length_map];exact List.length_filter_le _ _
theorem z2k {l:List z00} {i:Nat} (h:i<l.length):zcw l i=l[i]:=z71 h
theorem zc1 {x:z0c} (h:z5d x=true) {f:z00} (hf:f∈x.2.1):znt x.1 f=true:=by
 unfold z5d at h
 rw[Bool.and_eq_true]at h
 obtain⟨i,hi,rfl⟩:=List.mem_iff_getElem.mp hf
 have:=List.all_eq_true.mp h.2 i (List.mem_range.mpr hi)
 unfold z8e at this
 rw[Bool.and_eq_true,Bool.and_eq_true,z2k hi]at this
 exact this.1.1
theorem zb4 {x:z0c} (h:z5d x=true):x.2.1.length<=30:=by unfold z5d at h;simp at h;exact h.1.2
theorem zmf {x:z0c} (h:z5d x=true):z9u x.1=true:=by unfold z5d at h;simp at h;exact h.1.1
theorem z01i {x:z0c} {i:Nat} (hi:i<x.2.1.length) (h:z8e x i=false):z5d x=false:=by
 unfold z5d
 have:(List.range x.2.1.length).all (z8e x)=false:=by
  rw[Bool.eq_false_iff];intro hall
  have:=List.all_eq_true.mp hall i (List.mem_range.mpr hi);rw[h]at this;cases this
 rw[this];simp
theorem zpd {x:z0c} (h1:∀ i,i<x.2.1.length->z8e x i=true):z5d x=(z9u x.1&&decide (x.2.1.length<=30)):=by
 unfold z5d
 rw[List.all_eq_true.mpr fun i hi=>h1 i (List.mem_range.mp hi)];simp
theorem z4e (v:Int):0<=z16 v:=by
 unfold z16
 split
 . rename_i h;have:=isNul_iff.mp h;omega
 . omega
theorem z5n {v:Int}:z2p v (z16 v) (z3a v):=zuz fun hb=>ztp _ _ _ (by
 have hb : -9223372036854775808<=v/\v<=9223372036854775807:=hb
 unfold zlb
 have no:z3a v=false->(((0:Int),(false,())):Int×Bool×Unit)=(z16 v,(z3a v,())):=fun h=>by unfold z16;rw[h];rfl
 refine z0b (fun h=>no ?_) (fun h=>⟨_,z4j,?_⟩)
 . rw[Bool.eq_false_iff];intro h';have:=isNul_iff.mp h';omega
 . rw[z0w (by omega) (by omega)]
   refine z0q (fun h2=>no ?_) (fun h2=>?_)
   . rw[Bool.eq_false_iff]at h2 ⊢;intro h';have:=isNul_iff.mp h';exact h2 (inR_iff.mpr ⟨by omega,by omega⟩)
   . have:=inR_iff.mp h2
     have e:z3a v=true:=isNul_iff.mpr ⟨by omega,by omega⟩
     unfold z16;rw[e];rfl)
theorem zf8 {v:Int}:z5j v (z16 v) (z3a v):=zub fun hb=>ztr _ _ _ (by
 have hb : -9223372036854775808<=v/\v<=9223372036854775807:=hb
 unfold zle
 have no:z3a v=false->(((0:Int),(false,())):Int×Bool×Unit)=(z16 v,(z3a v,())):=fun h=>by unfold z16;rw[h];rfl
 rw[z0w (by omega) (by omega)]
 refine⟨_,z54,z0q (fun h2=>no ?_) (fun h2=>?_)⟩
 . rw[Bool.eq_false_iff]at h2 ⊢;intro h';have:=isNul_iff.mp h';exact h2 (inR_iff.mpr ⟨by omega,by omega⟩)
 . have:=inR_iff.mp h2
   have e:z3a v=true:=isNul_iff.mpr ⟨by omega,by omega⟩
   unfold z16;rw[e];rfl)
theorem z99 {v:Int}:z56 v (zml v):=zqb _ _ (by
 unfold zgo
 refine⟨_,_,z5n,z1y (fun h=>?_) (fun h=>⟨_,z4j,?_⟩)⟩
 . have:=isNul_iff.mp h
   have e:zml v=true:=inR_iff.mpr ⟨by omega,by omega⟩
   rw[e]
 . have:inR v 0 9=zml v:=by
    rw[Bool.eq_iff_iff]
    unfold zml
    rw[inR_iff,inR_iff]
    constructor
    . omega
    . intro h'
      refine⟨?_,h'.2⟩
      rcases Int.lt_or_le v 0 with h0|h0
      . rw[isNul_iff.mpr ⟨by omega,by omega⟩]at h;cases h
      . exact h0
   rw[this])
theorem z6r {v:Int}:z41 v (zml v):=zp6 _ _ (by unfold zhh;exact⟨_,z54,rfl⟩)
theorem zjh {f:z00}:z64 f (zx7 f):=zra _ _ (by
 unfold zjk
 refine z1k f.2.1.length (fun i=>((i:Int),(zdc (z2h (f.2.1.take i)),()))) (by simp[z2h,zdc]) ?_ ?_
 . intro i hi X hX
   refine z0l fun _=>bcI hi (inI hi ⟨_,_,z5n,?_⟩)
   simp only
   rw[z2o hi,z07 (by omega)]
   have e:z2h (f.2.1.take (i+1))=z2h (f.2.1.take i)++(if z3a f.2.1[i] then[-1 - f.2.1[i]] else[]):=by
    rw[z08 hi,zd4];congr 1
    unfold z2h
    cases h:z3a f.2.1[i]<;>simp[h]
   rw[e]at hX
   have hf:=zkg (l:=f.2.1.take i)
   refine z1y (fun h=>⟨_,zoj (by omega),?_⟩) (fun h=>?_)
   . rw[if_pos h]at hX
     have:z16 f.2.1[i] = -1 - f.2.1[i]:=by unfold z16;rw[if_pos h]
     rw[this,zq7];exact hX
   . rw[if_neg (by rw[h];simp),List.append_nil]at hX;exact hX
 . intro X
   refine z0l fun _=>bcN ?_
   simp only[List.take_length]
   rfl)
theorem zmb {l:List Int} (hl:l.length<=1073741824):zel l (zdc (z2h l)):=z037 _ _ (by
 unfold zsj
 refine z0l fun _=>z1k l.length (fun i=>((i:Int),(z2h (l.take i),()))) (by simp[z2h]) ?_ ?_
 . intro i hi X hX
   refine bcI hi (inI hi ⟨_,_,zf8,?_⟩)
   simp only
   rw[z2o hi,z07 (by omega)]
   have e:z2h (l.take (i+1))=z2h (l.take i)++(if z3a l[i] then[-1 - l[i]] else[]):=by
    rw[z08 hi,zd4];congr 1
    unfold z2h
    cases h:z3a l[i]<;>simp[h]
   rw[e]at hX
   have hb:=zvx (l.take i)
   rw[List.length_take]at hb
   refine z1y (fun h=>⟨by simp only[z0t,List.length_cons,List.length_nil];omega,?_⟩) (fun h=>?_)
   . rw[if_pos h]at hX
     have:z16 l[i] = -1 - l[i]:=by unfold z16;rw[if_pos h]
     rw[this];exact hX
   . rw[if_neg (by rw[h];simp),List.append_nil]at hX;exact hX
 . intro X
   refine bcN ⟨_,zaj ?_,_,z8v,?_⟩
   . simp only[List.take_length];have:=zvx l;omega
   . simp only[List.take_length];rw[zx6])
theorem zrw {f:z00} (h:f.2.1.length<=1073741824):z84 f (zx7 f):=zrq _ _ (by unfold zj5;exact⟨_,zmb h,rfl⟩)
theorem zd7 {x:z0c}:z6e x (zgb x):=zks _ _ (by
 unfold zcx
 refine z1k x.2.1.length (fun i=>((i:Int),(zdc ((x.2.1.take i).flatMap fun f=>z2h f.2.1),()))) (by simp[zdc]) ?_ ?_
 . intro i hi X hX
   refine z0l fun _=>bcI hi (inI hi ⟨_,zjh,?_⟩)
   simp only
   rw[z2o hi]
   have hn:(zx7 x.2.1[i]).length<=40:=zkg
   refine z1k (zx7 x.2.1[i]).length (fun j=>(((zx7 x.2.1[i]).take j).foldl ins (zdc ((x.2.1.take i).flatMap fun f=>z2h f.2.1)),((j:Int),()))) (by simp) ?_ ?_
   . intro j hj Y hY
     refine z0l fun _=>bcI hj (inI hj ⟨_,zoj ?_,?_⟩)
     . have h1:(zdc ((x.2.1.take i).flatMap fun f=>z2h f.2.1)).length<=40:=by rw[<-zed];exact zkg
       have:∀(l s:List Int),(l.foldl ins s).length<=s.length+l.length:=by
        intro l
        induction l with
        |nil=>intro s;simp
        |cons a l ih=>intro s;have:=ih (ins s a);have:=z06w s a;simp only[List.foldl_cons,List.length_cons];omega
       have:=this ((zx7 x.2.1[i]).take j) (zdc ((x.2.1.take i).flatMap fun f=>z2h f.2.1))
       rw[List.length_take]at this
       simp only;omega
     . simp only
       rw[z2o hj,z07 (by omega)]
       rw[z08 hj,List.foldl_append]at hY
       exact hY
   . intro Y
     refine z0l fun _=>bcN ?_
     simp only[List.take_length]
     rw[z07 (by omega)]
     have:(zx7 x.2.1[i]).foldl ins (zdc ((x.2.1.take i).flatMap fun f=>z2h f.2.1))=zdc ((x.2.1.take (i+1)).flatMap fun f=>z2h f.2.1):=by
      unfold zx7
      rw[zw0,z08 hi,List.flatMap_append];simp
     rw[this];exact hX
 . intro X
   refine z0l fun _=>bcN ?_
   simp only[List.take_length]
   rfl)
theorem zlk {x:z0c} (hl:(x.2.1.flatMap (·.2.1)).length<=1073741824):z9d x (zgb x):=zln _ _ (by
 unfold zd3
 refine z0l fun _=>z1k x.2.1.length (fun i=>((i:Int),((x.2.1.take i).flatMap (·.2.1),()))) (by simp) ?_ ?_
 . intro i hi X hX
   have hs:=zeo (fun f:z00=>f.2.1) hi
   refine bcI hi (inI hi ⟨?_,?_⟩)
   . simp only[z0t];rw[z2o hi];omega
   . simp only
     rw[z2o hi,z07 (by omega)]
     rw[z08 hi,List.flatMap_append]at hX
     simpa using hX
 . intro X
   refine bcN ⟨_,zmb ?_,?_⟩
   . simp only[List.take_length];exact hl
   . simp only[List.take_length]
     rw[zed];rfl)
theorem zre {l:List z0o} {a:z00}:ze5 l a (znt l a):=zr6 _ _ _ (by
 unfold zji znt
 refine⟨_,z27,z0q (fun h=>row_no1 h) (fun h1=>z0l fun hl=>⟨_,z4j,z0q (fun h=>row_no2 hl h) (fun h2=>z0l fun hl2=>⟨row_start h2 hl,zby (fun h=>row_no3 h) (fun h3=>?_)⟩)⟩)⟩
 refine z9i a.2.1 (fun t=>!zml t) (fun i=>((i:Int),())) (KT:=((false,()):Bool×Unit)=(zvq zml l a,())) (KF:=((true,()):Bool×Unit)=(zvq zml l a,())) ?_ (fun X h=>z0l fun _=>bcN h) ?_ ?_
 . intro i hi X q1 q2
   refine z0l fun _=>bcI hi (inI hi ⟨_,z99,?_⟩)
   simp only
   rw[z2o hi,z07 (by omega)]
   exact z1y (fun h=>q1 h) (fun h=>q2 h)
 . intro h;exact row_yes hl h1 h2 h3 (by rw[z3z]at h;exact(nt h).symm)
 . intro h;exact row_yes hl h1 h2 h3 (by rw[z3z]at h;exact(nf h).symm))
theorem znp {t:Int}:z47 t (!zml t):=znu _ _ (by unfold zfx;exact⟨_,z6r,rfl⟩)
theorem zs0 {l:List z0o} {a:z00}:zdy l a (znt l a):=zrc _ _ _ (by
 unfold zj8 znt
 refine⟨_,z4y,z0q (fun h=>row_no1 h) (fun h1=>z0l fun hl=>⟨_,z54,z0q (fun h=>row_no2 hl h) (fun h2=>z0l fun hl2=>⟨row_start h2 hl,zby (fun h=>row_no3 h) (fun h3=>?_)⟩)⟩)⟩
 exact⟨_,z5w (fun t=>!zml t) (fun _ _=>znp),row_yes hl h1 h2 h3 (by rw[z3z];simp)⟩)
theorem z02d {x:z0c} {f:z00} (h:znt x.1 f=true):0<=f.1/\f.1<(x.1.length:Int):=by have:=z3n h;exact⟨this.2.1,this.2.2.1⟩
theorem zaw {x:z0c} {i:Nat} (hi:i<x.2.1.length) (h1:znt x.1 x.2.1[i]=true) (h2:0<i->z94 (zcw x.2.1 (i - 1)) x.2.1[i]<0):z8e x i = !(z9x x.1 x.2.1[i].1&&(zx7 x.2.1[i]).length != 0):=by
 unfold z8e
 rw[z2k hi,h1]
 have:(i == 0||decide (z94 (zcw x.2.1 (i - 1)) x.2.1[i]<0))=true:=by
  rcases Nat.eq_zero_or_pos i with h|h
  . simp[h]
  . rw[decide_eq_true (h2 h)];simp
 rw[this];rfl
theorem z6c {x:z0c}:z3j x (z5d x):=zko _ _ (by
 unfold zdd
 have no:z5d x=false->((false,()):Bool×Unit)=(z5d x,()):=fun h=>by rw[h]
 refine z90 x.2.1.length (fun i=>!z8e x i) (fun i=>((i:Int),())) (KT:=z5d x=false) (KF:=z5d x=(z9u x.1&&decide (x.2.1.length<=30))) ?_ ?_ ?_ ?_
 . intro i hi X hb q1 q2
   have qn:z8e x i=false->((false,()):Bool×Unit)=(z5d x,()):=fun h=>no (q1 (by rw[h];rfl))
   have qy:z8e x i=true->X (((i+1:Nat):Int),()):=fun h=>q2 (by rw[h];rfl)
   refine z0l fun hl=>bcI hi (inI hi ⟨_,zre,?_⟩)
   simp only
   rw[z2o hi,z07 (by omega)]
   refine z0q (fun h=>qn (by unfold z8e;rw[z2k hi,h];simp)) (fun hv=>?_)
   have fin:z8e x i = !(z9x x.1 x.2.1[i].1&&(zx7 x.2.1[i]).length != 0)->((0<=x.2.1[i].1/\x.2.1[i].1<(x.1.length:Int))/\(z01 (((x.1.getD (Int.toNat x.2.1[i].1) zjj).2).2).1 (∃ y5:List Int,z64 x.2.1[i] y5/\(z0r (List.length y5:Int) (z01 (decide ((List.length y5:Int) > (0:Int))) (((false,()):Bool×Unit)=(z5d x,())) (X (((i+1:Nat):Int),()))))) (X (((i+1:Nat):Int),())))):=by
    intro he
    refine⟨z02d hv,z1y (fun hs=>⟨_,zjh,z0l fun _=>z0b (fun h=>qn ?_) (fun h=>qy ?_)⟩) (fun hs=>qy ?_)⟩
    . have hs:z9x x.1 x.2.1[i].1=true:=hs
      rw[he,hs];simp;intro e;rw[e]at h;simp at h
    . have:(zx7 x.2.1[i]).length=0:=by omega
      rw[he,this];simp
    . have hs:z9x x.1 x.2.1[i].1=false:=hs
      rw[he,hs];rfl
   refine z0b (fun h0=>?_) (fun h0=>fin (zaw hi hv (fun h=>by omega)))
   have hi':i - 1<x.2.1.length:=by omega
   have hw:w64 ((i:Int) - 1)=((i - 1:Nat):Int):=by rw[z0w (by omega) (by omega)];omega
   rw[hw]
   refine inI hi' ⟨_,z9q,?_⟩
   rw[z2o hi']
   refine z0b (fun h=>qn ?_) (fun h=>fin (zaw hi hv (fun _=>by rw[z2k hi'];omega)))
   unfold z8e
   rw[z2k hi,z2k hi',decide_eq_false (by omega)]
   have:(i == 0)=false:=by simp;omega
   rw[this];simp
 . intro X h
   refine z0l fun _=>bcN ⟨_,z27,z1y (fun h1=>z0l fun _=>?_) (fun h1=>no (by rw[h,h1];rfl))⟩
   rw[h,h1]
   have:decide ((x.2.1.length:Int)<=30)=decide (x.2.1.length<=30):=decide_eq_decide.mpr (by omega)
   rw[this];rfl
 . rintro⟨i,hi,hp⟩;exact z01i hi (nt hp)
 . intro h;exact zpd fun i hi=>nf (h i hi))
theorem zde {x:z0c}:z6b x (z5d x):=zlr _ _ (by
 unfold zd5
 have no:z5d x=false->((false,()):Bool×Unit)=(z5d x,()):=fun h=>by rw[h]
 refine⟨_,z4y,z0q (fun h=>no (by unfold z5d;rw[h];simp)) (fun hr=>z0l fun _=>z0b (fun h=>no (by unfold z5d;rw[decide_eq_false (show ¬ x.2.1.length<=30 by omega)];simp)) (fun hlen=>z0l fun _=>?_))⟩
 refine z90 x.2.1.length (fun i=>!z8e x i) (fun i=>((i:Int),())) (KT:=z5d x=false) (KF:=z5d x=(z9u x.1&&decide (x.2.1.length<=30))) ?_ ?_ ?_ ?_
 . intro i hi X hb q1 q2
   have qn:z8e x i=false->((false,()):Bool×Unit)=(z5d x,()):=fun h=>no (q1 (by rw[h];rfl))
   have qy:z8e x i=true->X (((i+1:Nat):Int),()):=fun h=>q2 (by rw[h];rfl)
   refine bcI hi (inI hi ⟨_,zs0,?_⟩)
   simp only
   rw[z2o hi,z07 (by omega)]
   refine z0q (fun h=>qn (by unfold z8e;rw[z2k hi,h];simp)) (fun hv=>?_)
   have hvl:=(z3n hv).2.2.2.2.1
   have fin:z8e x i = !(z9x x.1 x.2.1[i].1&&(zx7 x.2.1[i]).length != 0)->((0<=x.2.1[i].1/\x.2.1[i].1<(x.1.length:Int))/\(z01 (((x.1.getD (Int.toNat x.2.1[i].1) zjj).2).2).1 (∃ y5:List Int,z84 x.2.1[i] y5/\(z0r (List.length y5:Int) (z01 (decide ((List.length y5:Int) > (0:Int))) (((false,()):Bool×Unit)=(z5d x,())) (X (((i+1:Nat):Int),()))))) (X (((i+1:Nat):Int),())))):=by
    intro he
    refine⟨z02d hv,z1y (fun hs=>⟨_,zrw (by omega),z0l fun _=>z0b (fun h=>qn ?_) (fun h=>qy ?_)⟩) (fun hs=>qy ?_)⟩
    . have hs:z9x x.1 x.2.1[i].1=true:=hs
      rw[he,hs];simp;intro e;rw[e]at h;simp at h
    . have:(zx7 x.2.1[i]).length=0:=by omega
      rw[he,this];simp
    . have hs:z9x x.1 x.2.1[i].1=false:=hs
      rw[he,hs];rfl
   refine z0b (fun h0=>?_) (fun h0=>fin (zaw hi hv (fun h=>by omega)))
   have hi':i - 1<x.2.1.length:=by omega
   have hw:w64 ((i:Int) - 1)=((i - 1:Nat):Int):=by rw[z0w (by omega) (by omega)];omega
   rw[hw]
   refine inI hi' ⟨_,zcq,?_⟩
   rw[z2o hi']
   refine z0b (fun h=>qn ?_) (fun h=>fin (zaw hi hv (fun _=>by rw[z2k hi'];omega)))
   unfold z8e
   rw[z2k hi,z2k hi',decide_eq_false (by omega)]
   have:(i == 0)=false:=by simp;omega
   rw[this];simp
 . intro X h
   refine bcN ?_
   rw[h,hr,decide_eq_true (show x.2.1.length<=30 by omega)];rfl
 . rintro⟨i,hi,hp⟩;exact z01i hi (nt hp)
 . intro h;exact zpd fun i hi=>nf (h i hi))
theorem ztl {x:z0c} (h:z5d x=true):(x.2.1.flatMap (·.2.1)).length<=90:=by
 have h1:=zb4 h
 have:∀ l:List z00,(∀ f∈l,znt x.1 f=true)->(l.flatMap (·.2.1)).length<=3 * l.length:=by
  intro l
  induction l with
  |nil=>intro _;simp
  | cons a l ih=>
    intro hl
    have h1:=(z3n (hl a (by simp))).2.2.2.2.1
    have:=ih fun f hf=>hl f (by simp[hf])
    simp only[List.flatMap_cons,List.length_append,List.length_cons];omega
 have:=this x.2.1 fun f hf=>zc1 h hf
 omega
def zhp (x:z0c):Int:=match (zgb x).getLast? with
 |some k=>k+1
 |none=>0
theorem nextN_le {x:z0c} {n:Nat}:zhp x<=n↔∀ k∈zgb x,k<n:=by
 unfold zhp
 have hs:srt (zgb x):=zlw _
 cases h:(zgb x).getLast? with
 | none=>
   have:zgb x=[]:=List.getLast?_eq_none_iff.mp h
   rw[this];simp
 | some m=>
   have hne:zgb x≠[]:=by intro e;rw[e]at h;simp at h
   have hm:(zgb x).getLast hne=m:=by rw[List.getLast?_eq_some_getLast hne]at h;exact Option.some.inj h
   have hlast:=z09y hs hne
   constructor
   . intro h' k hk
     have:=hlast k hk;rw[hm]at this;simp only at h';omega
   . intro h'
     have:=h' m (by rw[<-hm];exact List.getLast_mem hne)
     simp only;omega
theorem z00i {x:z0c} (hl:(x.2.1.flatMap (·.2.1)).length<=1073741824):zkd x (zhp x):=zzx _ _ (by
 unfold zor
 have hf:=z01a x
 refine⟨_,zlk hl,z0l fun _=>z4m (fun h=>?_) (fun h=>z0l fun _=>?_)⟩
 . have:zgb x=[]:=List.length_eq_zero_iff.mp (by omega)
   unfold zhp;rw[this];rfl
 . have hw:w64 ((zgb x).length - 1:Int)=(((zgb x).length - 1:Nat):Int):=by rw[z0w (by omega) (by omega)];omega
   rw[hw]
   have hlt:(zgb x).length - 1<(zgb x).length:=by omega
   refine inI hlt ?_
   rw[z2o hlt]
   have hne:zgb x≠[]:=by intro e;rw[e]at h;simp at h
   have hr:0<=(zgb x)[(zgb x).length - 1]/\(zgb x)[(zgb x).length - 1]<0+(40:Nat):=by
    have:=zke (l:=x.2.1.flatMap (·.2.1)) ((zgb x)[(zgb x).length - 1]) (by rw[zed];exact List.getElem_mem hlt)
    exact this
   rw[z0w (by omega) (by omega)]
   unfold zhp
   rw[List.getLast?_eq_some_getLast hne,List.getLast_eq_getElem])
def mx (f:Int->Int) (l:List Int):Int:=l.foldl (fun m k=>zh7 m (f k)) 0
theorem z0cc {a b n:Int}:zh7 a b<=n↔a<=n/\b<=n:=by unfold zh7;split<;>omega
theorem z06z {f:Int->Int} {n:Int}:∀ {l:List Int} {s:Int},l.foldl (fun m k=>zh7 m (f k)) s<=n↔s<=n/\∀ k∈l,f k<=n
 |[],s=>by simp
 | a::l,s=>by
   rw[List.foldl_cons,z06z,z0cc]
   simp only[List.mem_cons,forall_eq_or_imp,and_assoc]
theorem mx_le {f:Int->Int} {l:List Int} {n:Int}:mx f l<=n↔0<=n/\∀ k∈l,f k<=n:=z06z
theorem zhg (f:Int->Int) (l:List Int):0<=mx f l:=(mx_le.mp (Int.le_refl _)).1
theorem z0bc {f:Int->Int} {l m:List Int} (h:∀ k,k∈l↔k∈m):mx f l=mx f m:=by
 have h1:mx f l<=mx f m:=mx_le.mpr ⟨zhg _ _,fun k hk=>(mx_le.mp (Int.le_refl (mx f m))).2 k ((h k).mp hk)⟩
 have h2:mx f m<=mx f l:=mx_le.mpr ⟨zhg _ _,fun k hk=>(mx_le.mp (Int.le_refl (mx f l))).2 k ((h k).mpr hk)⟩
 omega
theorem z0d6 (f:Int->Int) (l:List Int) (k:Int):mx f (l++[k])=zh7 (mx f l) (f k):=by unfold mx;rw[List.foldl_append];rfl
theorem zv2 (a b:Int):zh7 (a+1) (b+1)=zh7 a b+1:=by unfold zh7;split<;>split<;>omega
def z6g (out:List Int) (args:List Int):Int:=mx (fun k=>out.getD k.toNat 0) (z2h args)+1
def z18 (ts:List z09):List Int:=ts.foldl (fun out t=>out++[z6g out t.2.2.1]) []
theorem z6x (ts:List z09) (t:z09):z18 (ts++[t])=z18 ts++[z6g (z18 ts) t.2.2.1]:=by unfold z18;rw[List.foldl_append];rfl
theorem zmh (ts:List z09):(z18 ts).length=ts.length:=by
 have:∀(l:List z09) (s:List Int),(l.foldl (fun out t=>out++[z6g out t.2.2.1]) s).length=s.length+l.length:=by
  intro l
  induction l with
  |nil=>intro s;simp
  |cons a l ih=>intro s;rw[List.foldl_cons,ih];simp;omega
 have:=this ts []
 simpa [z18]using this
def z7v (ts:List z09) (i:Nat):z09:=ts.getD i z3r
theorem z2g {ts:List z09} {i:Nat} (h:i<ts.length):z7v ts i=ts[i]:=z71 h
def za6 (k:Nat) (v:Int):Bool:=zml v && !(z3a v&&decide ((k:Int)<=z16 v))
def z5h (ts:List z09) (k:Nat):Bool:=inR (z7v ts k).1 0 4&&inR (z7v ts k).2.1 0 4&&decide ((z7v ts k).2.2.1.length<=5)&&(z7v ts k).2.2.1.all (za6 k) && !(ts.take k).any (fun t=>decide (t=z7v ts k))
def zfn (ts:List z09):Bool:=decide (ts.length<=30)&&(List.range ts.length).all (z5h ts)&&(z18 ts).all fun d=>decide (d<=8)
def vSk (s:TSk):Bool:=z5d s.1&&decide (zhp s.1<=s.2.1.length)&&zfn s.2.1
theorem z009 {ts:List z09} {k:Nat} (h:z5h ts k=true) {v:Int} (hv:v∈(z7v ts k).2.2.1):zml v=true/\(z3a v=true->z16 v<k):=by
 unfold z5h at h
 simp only[Bool.and_eq_true]at h
 have:=List.all_eq_true.mp h.1.2 v hv
 unfold za6 at this
 rw[Bool.and_eq_true]at this
 refine⟨this.1,fun hn=>?_⟩
 have h2:=this.2
 rw[hn,Bool.true_and]at h2
 simp at h2;exact h2
theorem zt3 {k:Nat} {args:List Int} (h:args.all (za6 k)=true):∀ n∈z2h args,0<=n/\n<k:=by
 intro n hn
 obtain⟨h1,h2,h3⟩:=mem_nulls.mp hn
 have:=List.all_eq_true.mp h _ h3
 unfold za6 at this
 rw[Bool.and_eq_true]at this
 have hi:z3a (-1 - n)=true:=isNul_iff.mpr ⟨by omega,by omega⟩
 have he:z16 (-1 - n)=n:=by unfold z16;rw[if_pos hi];omega
 rw[hi,Bool.true_and,he]at this
 have h4:=this.2
 simp at h4
 exact⟨h1,h4⟩
theorem zhb {ts:List z09} (h:zfn ts=true) {k:Nat} (hk:k<ts.length):z5h ts k=true:=by
 unfold zfn at h
 simp only[Bool.and_eq_true]at h
 exact List.all_eq_true.mp h.1.2 k (List.mem_range.mpr hk)
theorem z4h {s:TSk} (h:vSk s=true):z5d s.1=true/\zhp s.1<=s.2.1.length/\zfn s.2.1=true:=by
 unfold vSk at h;simp at h;exact⟨h.1.1,h.1.2,h.2⟩
theorem zbq {ts:List z09} (h:zfn ts=true):ts.length<=30:=by unfold zfn at h;simp at h;exact h.1.1
theorem zm4 {g:Int->Int}:∀ {l:List Int} {s:Int},0<=s->l.foldl (fun m v=>zh7 m (if z3a v then g (z16 v)else 0)) s=(z2h l).foldl (fun m k=>zh7 m (g k)) s
 |[],_,_=>rfl
 | a::l,s,h=>by
   have hs:0<=zh7 s (g (z16 a)):=by unfold zh7;split<;>omega
   have h0:zh7 s 0=s:=by unfold zh7;split<;>omega
   rw[List.foldl_cons]
   cases hn:z3a a with
   | true=>
     have hno:z16 a = -1 - a:=by unfold z16;rw[if_pos hn]
     have e:z2h (a::l)=(-1 - a)::z2h l:=by unfold z2h;simp[hn]
     rw[e,List.foldl_cons,if_pos rfl,zm4 hs,hno]
   | false=>
     have e:z2h (a::l)=z2h l:=by unfold z2h;simp[hn]
     rw[e,if_neg (by simp),h0];exact zm4 h
theorem zap {s:TSk}:z4a s (vSk s):=zgm _ _ (by
 unfold zaz
 have no:vSk s=false->((false,()):Bool×Unit)=(vSk s,()):=fun h=>by rw[h]
 have na:zfn s.2.1=false->((false,()):Bool×Unit)=(vSk s,()):=fun h=>no (by unfold vSk;rw[h];simp)
 refine z0v (fun k a=>∃ i:Nat,i+k=s.2.1.length/\a=((i:Int),(z18 (s.2.1.take i),()))/\i<=30/\(∀ j,j<i->z5h s.2.1 j=true)/\∀ d∈z18 (s.2.1.take i),d<=8) ?_ ?_ (n:=s.2.1.length) ⟨0,by omega,by simp[z18],by omega,fun j hj=>by omega,by simp[z18]⟩
 . rintro a ⟨i,hi,rfl,hi30,hok,hd⟩ X
   obtain rfl:i=s.2.1.length:=by omega
   rw[List.take_length]at hd
   refine z0l fun _=>bcN ?_
   have hT:zfn s.2.1=true:=by
    unfold zfn
    rw[decide_eq_true hi30,List.all_eq_true.mpr fun i hi=>hok i (List.mem_range.mp hi),List.all_eq_true.mpr fun d h=>decide_eq_true (hd d h)];rfl
   have hf:=z01a s.1
   refine⟨_,zd7,_,z6c,z1y (fun hv=>z0l fun _=>z0b (fun _=>z0l fun _=>?_) (fun h=>by omega)) (fun hv=>no (by unfold vSk;rw[hv];simp))⟩
   have ev:vSk s=decide (zhp s.1<=s.2.1.length):=by unfold vSk;rw[hv,hT];simp
   rw[ev]
   refine z4m (fun h=>?_) (fun h=>z0l fun _=>?_)
   . have:zgb s.1=[]:=List.length_eq_zero_iff.mp (by omega)
     rw[decide_eq_true (nextN_le.mpr (by rw[this];simp))]
   . have hw:w64 ((zgb s.1).length - 1:Int)=(((zgb s.1).length - 1:Nat):Int):=by rw[z0w (by omega) (by omega)];omega
     rw[hw]
     have hlt:(zgb s.1).length - 1<(zgb s.1).length:=by omega
     refine inI hlt (z0l fun _=>?_)
     rw[z2o hlt]
     have hne:zgb s.1≠[]:=by intro e;rw[e]at h;simp at h
     have e1:zhp s.1=(zgb s.1)[(zgb s.1).length - 1]+1:=by unfold zhp;rw[List.getLast?_eq_some_getLast hne,List.getLast_eq_getElem]
     rw[e1]
     exact congrArg (fun b=>(b,())) (decide_eq_decide.mpr (by omega))
 . rintro k a ⟨i,hi,rfl,hi30,hok,hd⟩ X hX
   have hlt:i<s.2.1.length:=by omega
   have hdl:(z18 (s.2.1.take i)).length=i:=by rw[zmh,List.length_take];omega
   have nt':z5h s.2.1 i=false->((false,()):Bool×Unit)=(vSk s,()):=fun h=>na (by
    unfold zfn
    have:(List.range s.2.1.length).all (z5h s.2.1)=false:=by
     rw[Bool.eq_false_iff];intro hall
     have:=List.all_eq_true.mp hall i (List.mem_range.mpr hlt);rw[h]at this;cases this
    rw[this];simp)
   have hta:=z2g hlt
   refine z0l fun hl=>bcI hlt ?_
   simp only
   rw[z2o hlt]
   refine z0v (fun k a=>∃ j:Nat,j+k=s.2.1[i].2.2.1.length/\a=(mx (fun k=>(z18 (s.2.1.take i)).getD k.toNat 0) (z2h (s.2.1[i].2.2.1.take j)),((j:Int),()))/\(s.2.1[i].2.2.1.take j).all (za6 i)=true) ?_ ?_ (n:=s.2.1[i].2.2.1.length) ⟨0,by omega,by simp[z2h,mx],by simp⟩
   rotate_left
   . rintro k a ⟨j,hj,rfl,hall⟩ Y hY
     have hjl:j<s.2.1[i].2.2.1.length:=by omega
     refine inI hlt (z0l fun _=>bcI hjl (inI hlt (inI hjl ?_)))
     simp only
     rw[z2o hjl,z07 (by omega)]
     have bad:za6 i s.2.1[i].2.2.1[j]=false->((false,()):Bool×Unit)=(vSk s,()):=fun h=>nt' (by
      unfold z5h
      rw[hta]
      have:s.2.1[i].2.2.1.all (za6 i)=false:=by
       rw[Bool.eq_false_iff];intro hall
       have:=List.all_eq_true.mp hall _ (List.getElem_mem hjl);rw[h]at this;cases this
      rw[this];simp)
     have hnl:z2h (s.2.1[i].2.2.1.take (j+1))=z2h (s.2.1[i].2.2.1.take j)++(if z3a s.2.1[i].2.2.1[j] then[-1 - s.2.1[i].2.2.1[j]] else[]):=by
      rw[z08 hjl,zd4];congr 1
      unfold z2h
      cases h:z3a s.2.1[i].2.2.1[j]<;>simp[h]
     refine⟨_,_,z5n,_,z99,z0q (fun h=>bad (by unfold za6;rw[h];rfl)) (fun hv=>?_)⟩
     have hnext:za6 i s.2.1[i].2.2.1[j]=true->(s.2.1[i].2.2.1.take (j+1)).all (za6 i)=true:=fun h=>by
      rw[z08 hjl,List.all_append,hall];simp[h]
     refine z1y (fun hn=>?_) (fun hn=>?_)
     . have hno:z16 s.2.1[i].2.2.1[j] = -1 - s.2.1[i].2.2.1[j]:=by unfold z16;rw[if_pos hn]
       have hr:=isNul_iff.mp hn
       refine z0b (fun h=>bad ?_) (fun h=>?_)
       . unfold za6;rw[hv,hn,decide_eq_true (show(i:Int)<=z16 s.2.1[i].2.2.1[j] from h)];rfl
       . rw[hn]
         refine bcT ⟨⟨by rw[hno];omega,by rw[hdl];omega⟩,hY _ ⟨j+1,by omega,?_,hnext ?_⟩⟩
         . rw[hnl,if_pos hn,z0d6,hno]
         . unfold za6;rw[hv,hn,decide_eq_false (show ¬ (i:Int)<=z16 s.2.1[i].2.2.1[j] by omega)];rfl
     . rw[hn]
       refine bcF (hY _ ⟨j+1,by omega,?_,hnext ?_⟩)
       . rw[hnl,if_neg (by rw[hn];simp),List.append_nil]
       . unfold za6;rw[hv,hn];rfl
   rintro a ⟨j,hj,rfl,hall⟩ Y
   obtain rfl:j=s.2.1[i].2.2.1.length:=by omega
   refine inI hlt (z0l fun _=>bcN ?_)
   simp only[List.take_length]at hall ⊢
   have hmx:=zhg (fun k=>(z18 (s.2.1.take i)).getD k.toNat 0) (z2h s.2.1[i].2.2.1)
   have hmx8:mx (fun k=>(z18 (s.2.1.take i)).getD k.toNat 0) (z2h s.2.1[i].2.2.1)<=8:=mx_le.mpr ⟨by omega,fun k hk=>by
    have hr:=zt3 hall k hk
    have hkl:k.toNat<(z18 (s.2.1.take i)).length:=by omega
    rw[z71 hkl];exact hd _ (List.getElem_mem hkl)⟩
   have hw:w64 (mx (fun k=>(z18 (s.2.1.take i)).getD k.toNat 0) (z2h s.2.1[i].2.2.1)+1)=z6g (z18 (s.2.1.take i)) s.2.1[i].2.2.1:=by rw[z0w (by omega) (by omega)];rfl
   rw[hw]
   refine⟨by simp only[z0t,List.length_cons,List.length_nil];omega,?_⟩
   have hsn:z18 (s.2.1.take i)++[z6g (z18 (s.2.1.take i)) s.2.1[i].2.2.1]=z18 (s.2.1.take (i+1)):=by rw[z08 hlt,z6x]
   have hmem:z6g (z18 (s.2.1.take i)) s.2.1[i].2.2.1∈z18 s.2.1:=by
    have:∀(l m:List z09),∃ r,z18 (l++m)=z18 l++r:=by
     intro l m
     induction m generalizing l with
     |nil=>exact⟨[],by simp⟩
     | cons a m ih=>
       obtain⟨r,hr⟩:=ih (l++[a])
       rw[List.append_assoc,z6x,List.append_assoc]at hr
       exact⟨_,hr⟩
    obtain⟨r,hr⟩:=this (s.2.1.take (i+1)) (s.2.1.drop (i+1))
    rw[List.take_append_drop,<-hsn]at hr
    rw[hr];simp
   refine z0b (fun h=>na ?_) (fun h8=>inI hlt (z0l fun _=>z0b (fun h=>nt' ?_) (fun h5=>z0b (fun h=>na ?_) (fun h30=>?_))))
   . unfold zfn
     have:((z18 s.2.1).all fun d=>decide (d<=8))=false:=by
      rw[Bool.eq_false_iff];intro hall'
      have:=List.all_eq_true.mp hall' _ hmem
      have:z6g (z18 (s.2.1.take i)) s.2.1[i].2.2.1<=8:=by simpa using this
      unfold z6g at this;omega
     rw[this];simp
   . unfold z5h;rw[hta,decide_eq_false (show ¬ s.2.1[i].2.2.1.length<=5 by omega)];simp
   . unfold zfn;rw[decide_eq_false (show ¬ s.2.1.length<=30 by omega)];simp
   . refine z90 i (fun j=>decide (z7v s.2.1 j=s.2.1[i])) (fun j=>((j:Int),())) (KT:=(s.2.1.take i).any (fun t=>decide (t=s.2.1[i]))=true) (KF:=(s.2.1.take i).any (fun t=>decide (t=s.2.1[i]))=false) ?_ ?_ ?_ ?_
     . intro j hj Z _ q1 q2
       have hjl:j<s.2.1.length:=by omega
       have bad:s.2.1[j]=s.2.1[i]->((false,()):Bool×Unit)=(vSk s,()):=fun h=>nt' (by
        have:=q1 (by rw[z2g hjl];exact decide_eq_true h)
        unfold z5h;rw[hta,this];simp)
       have good:s.2.1[j]≠s.2.1[i]->Z (((j+1:Nat):Int),()):=fun h=>q2 (by rw[z2g hjl];exact decide_eq_false h)
       refine bcI hj (inI hjl (inI hlt ?_))
       simp only
       rw[z2o hjl,z07 (by omega)]
       refine z4m (fun h1=>inI hjl (inI hlt (z4m (fun h2=>inI hjl (inI hlt ⟨_,zlf,z4m (fun h3=>bad (Prod.ext h1 (Prod.ext h2 (Prod.ext (cmpL_zero.mp h3) rfl)))) (fun h3=>good fun e=>h3 (cmpL_zero.mpr (by rw[e])))⟩)) (fun h=>good fun e=>h (by rw[e]))))) (fun h=>good fun e=>h (by rw[e]))
     . intro Z hany
       refine bcN (inI hlt ⟨_,z4j,z0q (fun h=>nt' (by unfold z5h;rw[hta,h];simp)) (fun hd1=>inI hlt ⟨_,z4j,z0q (fun h=>nt' (by unfold z5h;rw[hta,h];simp)) (fun hd2=>?_)⟩)⟩)
       rw[z07 (by omega)]
       refine hX _ ⟨i+1,by omega,by rw[hsn],by omega,fun j hj=>?_,fun d hdm=>?_⟩
       . by_cases hji:j=i
         . subst hji
           unfold z5h
           rw[hta,hd1,hd2,hall,hany,decide_eq_true (show s.2.1[j].2.2.1.length<=5 by omega)];rfl
         . exact hok j (by omega)
       . rw[<-hsn]at hdm
         rcases List.mem_append.mp hdm with hdm|hdm
         . exact hd d hdm
         . have:d=z6g (z18 (s.2.1.take i)) s.2.1[i].2.2.1:=by simpa using hdm
           rw[this];unfold z6g;omega
     . rintro⟨j,hj,hp⟩
       have hjl:j<s.2.1.length:=by omega
       rw[z2g hjl]at hp
       refine List.any_eq_true.mpr ⟨s.2.1[j],?_,hp⟩
       have hjt:j<(s.2.1.take i).length:=by rw[List.length_take];omega
       have:(s.2.1.take i)[j]=s.2.1[j]:=by simp
       rw[<-this];exact List.getElem_mem hjt
     . intro h
       rw[Bool.eq_false_iff];intro hany
       obtain⟨t,ht,hp⟩:=List.any_eq_true.mp hany
       obtain⟨j,hj,rfl⟩:=List.mem_iff_getElem.mp ht
       rw[List.length_take]at hj
       have:=h j (by omega)
       rw[z2g (by omega)]at this
       have e:(s.2.1.take i)[j]'(by rw[List.length_take];omega)=s.2.1[j]'(by omega):=by simp
       rw[e]at hp
       rw[hp]at this;cases this)
theorem zvm {v:Int} {k:Nat}:z7i v k (!za6 k v):=ztu _ _ _ (by
 unfold zl3
 refine⟨_,_,zf8,_,z6r,z0q (fun h=>by unfold za6;rw[h];rfl) (fun hv=>z1y (fun hn=>?_) (fun hn=>by unfold za6;rw[hv,hn];rfl))⟩
 unfold za6
 rw[hv,hn]
 simp)
theorem z00f {t:z09} {k:Nat}:zkf t k (inR t.1 0 4&&inR t.2.1 0 4&&decide (t.2.2.1.length<=5)&&t.2.2.1.all (za6 k)):=z00n _ _ _ (by
 unfold zqy
 refine⟨_,z54,z0q (fun h=>by rw[h];rfl) (fun h1=>⟨_,z54,z0q (fun h=>by rw[h];simp) (fun h2=>z0l fun _=>z0b (fun h=>?_) (fun h3=>⟨_,z6q (fun v=>!za6 k v) (fun _ _=>zvm),?_⟩))⟩)⟩
 . rw[decide_eq_false (show ¬ t.2.2.1.length<=5 by omega)];simp
 . rw[h1,h2,decide_eq_true (show t.2.2.1.length<=5 by omega),z3z];simp)
theorem z014 {x y:z09}:zcn x y (decide (x=y)):=z006 _ _ _ (by
 unfold zqx
 have no:¬ x=y->((false,()):Bool×Unit)=(decide (x=y),()):=fun h=>by rw[decide_eq_false h]
 refine z4m (fun h1=>z4m (fun h2=>⟨_,zlx,?_⟩) (fun h=>no fun e=>h (by rw[e]))) (fun h=>no fun e=>h (by rw[e]))
 obtain⟨a,b,c,_⟩:=x;obtain⟨a',b',c',_⟩:=y
 simp only at h1 h2;simp[h1,h2])
def z8d (ts:List z09) (t:z09):Int:=if z03 (fun x=>decide (x=t)) ts<ts.length then(z03 (fun x=>decide (x=t)) ts:Int)else -1
theorem zxr {ts:List z09} {t:z09}:zlg ts t (z8d ts t):=z05b _ _ _ (by
 unfold zyb
 exact⟨_,z65 (fun x=>decide (x=t)) (fun _ _=>z014),rfl⟩)
theorem zyh {α:Type} {p:α->Bool} {l:List α} {i:Nat} (h:i<l.length) (hp:p l[i]=true):z03 p l=i↔(l.take i).any p=false:=by
 constructor
 . intro he
   rw[Bool.eq_false_iff];intro hany
   obtain⟨t,ht,hpt⟩:=List.any_eq_true.mp hany
   obtain⟨j,hj,rfl⟩:=List.mem_iff_getElem.mp ht
   rw[List.length_take]at hj
   have:=za2 (p:=p) (l:=l) (i:=j) (by omega) (by omega)
   have e:(l.take i)[j]'(by rw[List.length_take];omega)=l[j]'(by omega):=by simp
   rw[e]at hpt;rw[this]at hpt;cases hpt
 . intro hany
   rcases Nat.lt_trichotomy (z03 p l) i with h1|h1|h1
   . have h2:=zc0 (p:=p) (l:=l) (by omega)
     have:(l.take i).any p=true:=List.any_eq_true.mpr ⟨l[z03 p l],by
      have hj:z03 p l<(l.take i).length:=by rw[List.length_take];omega
      have e:(l.take i)[z03 p l]=l[z03 p l]'(by omega):=by simp
      rw[<-e];exact List.getElem_mem hj,h2⟩
     rw[hany]at this;cases this
   . exact h1
   . have:=za2 (p:=p) h h1;rw[hp]at this;cases this
theorem z088 {ts:List z09} (hl:ts.length<=30) (ha:∀ k (h:k<ts.length),ts[k].2.2.1.all (za6 k)=true/\ts[k].2.2.1.length<=5):zq9 ts (z18 ts):=z079 _ _ (by
 unfold zwp
 refine z0l fun _=>?_
 have hbnd0:∀(n:Nat) (l:List z09),l.length=n->∀ d∈z18 l,1<=d/\d<=l.length:=by
  intro n
  induction n with
  |zero=>intro l hl;obtain rfl:=List.length_eq_zero_iff.mp hl;simp[z18]
  | succ n ih0=>
    intro l0 hl d hd
    have hne:l0≠[]:=by intro e;rw[e]at hl;simp at hl
    obtain⟨l,t,rfl⟩:∃ l t,l0=l++[t]:=⟨_,_,(List.dropLast_concat_getLast hne).symm⟩
    have ih:=ih0 l (by simpa using hl)
    rw[z6x]at hd
    rw[List.length_append]
    rcases List.mem_append.mp hd with hd|hd
    . have:=ih d hd;simp;omega
    . have e:d=z6g (z18 l) t.2.2.1:=by simpa using hd
      rw[e]
      unfold z6g
      have h0:=zhg (fun k=>(z18 l).getD k.toNat 0) (z2h t.2.2.1)
      have:mx (fun k=>(z18 l).getD k.toNat 0) (z2h t.2.2.1)<=l.length:=mx_le.mpr ⟨by omega,fun k _=>by
       by_cases hk:k.toNat<(z18 l).length
       . rw[z71 hk];exact(ih _ (List.getElem_mem hk)).2
       . rw[List.getD_eq_getElem?_getD,List.getElem?_eq_none (by omega)];simp⟩
      simp only[List.length_cons,List.length_nil];omega
 have hbnd:=fun l=>hbnd0 _ l rfl
 refine z1k ts.length (fun i=>((i:Int),(z18 (ts.take i),()))) (by simp[z18]) ?_ ?_
 . intro i hi X hX
   have hdl:(z18 (ts.take i)).length=i:=by rw[zmh,List.length_take];omega
   have hai:=ha i hi
   refine bcI hi (inI hi ⟨_,zmb (by simp only;rw[z2o hi];omega),z0l fun hsl=>?_⟩)
   simp only at hsl ⊢
   rw[z2o hi]at hsl ⊢
   refine z1k (zdc (z2h ts[i].2.2.1)).length (fun j=>(((zdc (z2h ts[i].2.2.1)).take j).foldl (fun m k=>zh7 m ((z18 (ts.take i)).getD k.toNat 0)) 0+1,((j:Int),()))) (by simp) ?_ ?_
   . intro j hj Y hY
     have hm:=mem_sset.mp (List.getElem_mem hj)
     have hr:=zt3 hai.1 _ hm
     have hkl:(zdc (z2h ts[i].2.2.1))[j].toNat<(z18 (ts.take i)).length:=by omega
     refine bcI hj (inI hj ?_)
     simp only
     rw[z2o hj,z07 (by omega)]
     refine⟨⟨hr.1,by rw[hdl];exact hr.2⟩,?_⟩
     have hb:=hbnd (ts.take i) _ (List.getElem_mem hkl)
     rw[List.length_take]at hb
     have e:(z18 (ts.take i)).getD (zdc (z2h ts[i].2.2.1))[j].toNat 0=(z18 (ts.take i))[(zdc (z2h ts[i].2.2.1))[j].toNat]:=z71 hkl
     rw[z0w (by rw[e];omega) (by rw[e];omega)]
     rw[z08 hj,List.foldl_append]at hY
     rw[zv2]
     exact hY
   . intro Y
     refine bcN ?_
     simp only[List.take_length]
     have hmx:(zdc (z2h ts[i].2.2.1)).foldl (fun m k=>zh7 m ((z18 (ts.take i)).getD k.toNat 0)) 0+1=z6g (z18 (ts.take i)) ts[i].2.2.1:=by
      unfold z6g
      have:=z0bc (f:=fun k=>(z18 (ts.take i)).getD k.toNat 0) (l:=zdc (z2h ts[i].2.2.1)) (m:=z2h ts[i].2.2.1) (fun k=>mem_sset)
      rw[<-this];rfl
     rw[hmx,z07 (by omega)]
     refine⟨by simp only[z0t,List.length_cons,List.length_nil];omega,?_⟩
     rw[z08 hi,z6x]at hX
     exact hX
 . intro X
   refine bcN ?_
   simp only[List.take_length])
theorem zun {d:Int}:z7k d (decide (d > 8)):=zvn _ _ (by unfold zm0;rfl)
theorem z00r {ts:List z09}:zk5 ts (zfn ts):=z002 _ _ (by
 unfold zpv
 have no:zfn ts=false->((false,()):Bool×Unit)=(zfn ts,()):=fun h=>by rw[h]
 refine z0l fun _=>z0b (fun h=>no (by unfold zfn;rw[decide_eq_false (show ¬ ts.length<=30 by omega)];simp)) (fun hl=>z0l fun _=>?_)
 have tOk:∀ k (h:k<ts.length),z5h ts k=((inR ts[k].1 0 4&&inR ts[k].2.1 0 4&&decide (ts[k].2.2.1.length<=5)&&ts[k].2.2.1.all (za6 k))&&decide (z8d ts ts[k]=k)):=by
  intro k h
  have e:(!(ts.take k).any (fun t=>decide (t=ts[k])))=decide (z8d ts ts[k]=k):=by
   have hf:=zyh (p:=fun t=>decide (t=ts[k])) h (by simp)
   cases hany:(ts.take k).any (fun t=>decide (t=ts[k]))with
   | false=>
     have:=hf.mpr hany
     unfold z8d
     rw[this,if_pos h];simp
   | true=>
     have hne:z03 (fun t=>decide (t=ts[k])) ts≠k:=fun e=>by rw[hf.mp e]at hany;cases hany
     unfold z8d
     split
     . rw[decide_eq_false (by omega)];rfl
     . rw[decide_eq_false (by omega)];rfl
  unfold z5h
  rw[z2g h,e]
 refine z90 ts.length (fun k=>!z5h ts k) (fun k=>((k:Int),())) (KT:=zfn ts=false) (KF:=∀ k,k<ts.length->z5h ts k=true) ?_ ?_ ?_ ?_
 . intro i hi X _ q1 q2
   refine bcI hi (inI hi ⟨_,z00f,?_⟩)
   simp only
   rw[z2o hi,z07 (by omega)]
   rw[tOk i hi]at q1 q2
   refine z0q (fun h=>no (q1 (by rw[h];rfl))) (fun h=>⟨_,zxr,zby (fun h2=>no (q1 (by rw[decide_eq_false h2];simp))) (fun h2=>q2 (by rw[h,decide_eq_true h2];rfl))⟩)
 . intro X hall
   refine bcN ⟨_,z088 (by omega) (fun k hk=>?_),_,z6n (fun d=>decide (d > 8)) (fun _ _=>zun),?_⟩
   . have:=hall k hk
     rw[tOk k hk]at this
     simp only[Bool.and_eq_true,decide_eq_true_eq]at this
     exact⟨this.1.2,this.1.1.2⟩
   . have e:(!(z18 ts).any fun d=>decide (d > 8))=(z18 ts).all fun d=>decide (d<=8):=by
      have h1:=z3z (p:=fun d:Int=>decide (d<=8)) (l:=z18 ts)
      have h2:(fun d:Int=>!decide (d<=8))=fun d=>decide (d > 8):=by funext d;by_cases h:d<=8<;>simp[h]<;>omega
      rw[h2]at h1;rw[h1];simp
     rw[e]
     unfold zfn
     rw[decide_eq_true (show ts.length<=30 by omega),List.all_eq_true.mpr fun k hk=>hall k (List.mem_range.mp hk)];rfl
 . rintro⟨k,hk,hp⟩
   unfold zfn
   have:(List.range ts.length).all (z5h ts)=false:=by
    rw[Bool.eq_false_iff];intro hall
    have:=List.all_eq_true.mp hall k (List.mem_range.mpr hk);rw[nt hp]at this;cases this
   rw[this];simp
 . intro h k hk;exact nf (h k hk))
theorem z3h {s:TSk}:z2j s (vSk s):=zh0 _ _ (by
 unfold zam
 refine⟨_,zde,z1y (fun h1=>z0l fun _=>⟨_,z00i (by have:=ztl h1;omega),z0b (fun h2=>⟨_,z00r,?_⟩) (fun h2=>?_)⟩) (fun h1=>?_)⟩
 . unfold vSk;rw[h1,decide_eq_true h2];rfl
 . unfold vSk;rw[decide_eq_false h2];simp
 . unfold vSk;rw[h1];rfl)
theorem zpq (v:Int):0<=z16 v/\z16 v<=39:=by
 unfold z16
 split
 . rename_i h;have:=isNul_iff.mp h;omega
 . omega
def sumA (l:List z0o):Int:=l.foldl (fun a r=>a+r.2.1) 0
theorem zu9:∀ {l:List z0o} {a:Int},(∀ r∈l,zo9 r=true)->a<=l.foldl (fun a r=>a+r.2.1) a/\l.foldl (fun a r=>a+r.2.1) a<=a+3 * l.length
 |[],a,_=>by simp
 | x::l,a,h=>by
   have h1:=zig (h x (by simp))
   have h2:=zu9 (l:=l) (a:=a+x.2.1) fun r hr=>h r (by simp[hr])
   rw[List.foldl_cons,List.length_cons];omega
def z03b (l:List z0o) (r p:Int):Int:=if z9u l&&inR r 0 ((l.length:Int) - 1)&&inR p 0 (zpl l r - 1)then sumA (l.take r.toNat)+p else -1
theorem znn {l:List z0o} {r p:Int}:zb7 l r p (z03b l r p):=znk _ _ _ _ (by
 unfold zg3
 refine⟨_,z27,z0q (fun h=>by unfold z03b;rw[h];rfl) (fun hv=>z0l fun _=>⟨_,z4j,?_⟩)⟩
 have hl:=zlu hv
 rw[z0w (by omega) (by omega)]
 refine z0q (fun h=>by unfold z03b;rw[h];simp) (fun h1=>?_)
 have hr:=inR_iff.mp h1
 obtain⟨n,rfl⟩:∃ n:Nat,r=n:=⟨r.toNat,by omega⟩
 have hn:n<l.length:=by omega
 have ha:=zig (zhi hv (List.getElem_mem hn))
 refine inI hn ⟨_,z4j,?_⟩
 rw[z2o hn,z0w (by omega) (by omega)]
 have har:zpl l n=l[n].2.1:=by unfold zpl;rw[z2o hn]
 refine z0q (fun h=>by unfold z03b;rw[har,h];simp) (fun h2=>?_)
 have hp:=inR_iff.mp h2
 have hb:=fun i=>zu9 (l:=l.take i) (a:=0) fun r hr=>zhi hv (List.mem_of_mem_take hr)
 refine z1k n (fun i=>(sumA (l.take i),((i:Int),()))) (by simp[sumA]) ?_ ?_
 . intro i hi X hX
   have hil:i<l.length:=by omega
   have hbi:=hb (i+1)
   refine bcI hi (inI hil ?_)
   simp only
   rw[z08 hil]at hX hbi
   unfold sumA at hX ⊢
   rw[List.foldl_append]at hX hbi
   simp only[List.foldl_cons,List.foldl_nil,List.length_append,List.length_take,List.length_cons,List.length_nil]at hX hbi
   rw[z2o hil,z07 (by omega),z0w (by omega) (by omega)]
   exact hX
 . intro X
   have hbi:=hb n
   rw[List.length_take]at hbi
   refine bcN ?_
   unfold z03b
   rw[hv,h1,har,h2]
   simp only
   unfold sumA
   rw[z0w (by omega) (by omega)];rfl)
theorem zbg {d:z0k} (h1:(d.1.flatMap (·.2.1)).length<=1073741824) (h2:(d.2.1.flatMap (·.2.1)).length<=1073741824):z4z d (frV d):=zir _ _ (by
 unfold zbl
 have hv:=zhv d.2.1
 refine⟨_,z8s h1,_,z8s h2,?_⟩
 refine z1k (vars d.2.1).length (fun i=>((i:Int),(((vars d.2.1).take i).filter (fun v=>decide (v∈vars d.1)),()))) (by simp) ?_ ?_
 . intro i hi X hX
   refine z0l fun _=>bcI hi (inI hi ⟨_,zkk,?_⟩)
   simp only
   rw[z2o hi,z07 (by omega)]
   have e:((vars d.2.1).take (i+1)).filter (fun v=>decide (v∈vars d.1))=((vars d.2.1).take i).filter (fun v=>decide (v∈vars d.1))++(if (vars d.2.1)[i]∈vars d.1 then[(vars d.2.1)[i]] else[]):=by
    rw[z08 hi,List.filter_append]
    by_cases h:(vars d.2.1)[i]∈vars d.1<;>simp[h]
   rw[e]at hX
   have hb:=List.length_filter_le (fun v=>decide (v∈vars d.1)) ((vars d.2.1).take i)
   rw[List.length_take]at hb
   refine z1y (fun h=>inI hi ⟨by simp only[z0t,List.length_cons,List.length_nil];omega,?_⟩) (fun h=>?_)
   . have h:(vars d.2.1)[i]∈vars d.1:=by simpa using h
     rw[if_pos h]at hX;exact hX
   . have h:¬ (vars d.2.1)[i]∈vars d.1:=by simpa using h
     rw[if_neg h,List.append_nil]at hX;exact hX
 . intro X
   refine z0l fun _=>bcN ?_
   simp only[List.take_length]
   rfl)
theorem zio {d:z0k} (h1:(d.1.flatMap (·.2.1)).length<=1073741824) (h2:(d.2.1.flatMap (·.2.1)).length<=1073741824):z7w d (frV d):=zih _ _ (by
 unfold zbe
 exact⟨_,zg6 h1 h2,by rw[z09j]⟩)
def placeG (l:List z0o) (a:z00) (v:Int) (out:List Int) (j:Nat):List Int:=if a.2.1.getD j 0 == v then out++[z03b l a.1 j] else out
def zoz (l:List z0o) (v:Int) (out:List Int) (a:z00):List Int:=(List.range a.2.1.length).foldl (placeG l a v) out
def places (l:List z0o) (ats:List z00) (v:Int):List Int:=ats.foldl (zoz l v) []
theorem zm5 (l:List z0o) (a:z00) (v:Int) (out:List Int):∀ n:Nat,((List.range n).foldl (placeG l a v) out).length<=out.length+n
 |0=>by simp
 | n+1=>by
   have:=zm5 l a v out n
   rw[List.range_succ,List.foldl_append,List.foldl_cons,List.foldl_nil]
   unfold placeG at this ⊢
   split
   . rw[List.length_append];simp only[List.length_cons,List.length_nil];omega
   . omega
theorem z04x (l:List z0o) (v:Int) (out:List Int) (a:z00):(zoz l v out a).length<=out.length+a.2.1.length:=zm5 l a v out _
theorem zjt (l:List z0o) (v:Int):∀(ats:List z00) (out:List Int),(ats.foldl (zoz l v) out).length<=out.length+(ats.flatMap (·.2.1)).length
 |[],out=>by simp
 | a::ats,out=>by
   have h1:=zjt l v ats (zoz l v out a)
   have h2:=z04x l v out a
   rw[List.foldl_cons,List.flatMap_cons,List.length_append];omega
theorem za0 (l:List z0o) (ats:List z00) (v:Int):(places l ats v).length<=(ats.flatMap (·.2.1)).length:=by
 have:=zjt l v ats []
 simpa [places]using this
theorem zhs {l:List z0o} {ats:List z00} {v:Int} (hb:(ats.flatMap (·.2.1)).length<=1073741824):zau l ats v (places l ats v):=zwu _ _ _ _ (by
 unfold zn1
 refine zce ats (zoz l v) [] (fun i m=>((i:Int),(m,()))) ?_ ?_
 . intro i hi X hX
   have hs:=zeo (fun a:z00=>a.2.1) hi
   have hm:=zjt l v (ats.take i) []
   rw[List.length_nil]at hm
   refine z0l fun _=>bcI hi ?_
   simp only
   rw[z2o hi]
   generalize (ats.take i).foldl (zoz l v) []=m0 at hX hm ⊢
   unfold zoz at hX
   refine z1k ats[i].2.1.length (fun j=>((j:Int),((List.range j).foldl (placeG l ats[i] v) m0,()))) (by simp) ?_ ?_
   . intro j hj Y hY
     have hl:=zm5 l ats[i] v m0 j
     refine inI hi (z0l fun _=>bcI hj (inI hi (inI hj ?_)))
     simp only
     rw[z07 (by omega)]
     rw[List.range_succ,List.foldl_append,List.foldl_cons,List.foldl_nil]at hY
     rw[placeG.eq_def]at hY
     refine z1y (fun h=>inI hi ⟨_,znn,⟨by simp only[z0t,List.length_cons,List.length_nil];omega,?_⟩⟩) (fun h=>?_)
     . rw[if_pos (show(ats[i].2.1.getD j 0 == v)=true from h)]at hY;exact hY
     . rw[show(ats[i].2.1.getD j 0 == v)=false from h]at hY;exact hY
   . intro Y
     refine inI hi (z0l fun _=>bcN ?_)
     simp only
     rw[z07 (by omega)];exact hX
 . intro X
   exact z0l fun _=>bcN rfl)
theorem zaf {α σ:Type} {μ:σ->Nat} {g:σ->α->σ} {c:Nat}:∀ {l:List α} {s:σ},(∀ s,∀ a∈l,μ (g s a)<=μ s+c)->μ (l.foldl g s)<=μ s+l.length * c
 |[],s,_=>by simp
 | a::l,s,h=>by
   have h1:=h s a (by simp)
   have h2:=zaf (s:=g s a) fun s b (hb:b∈l)=>h s b (by simp[hb])
   rw[List.foldl_cons,List.length_cons,Nat.add_mul];omega
theorem z49 {α σ τ:Type} {B:(τ->Prop)->τ->Prop} (l:List α) (g:σ->α->σ) (s0:σ) (e:Nat->σ->τ) (μ:σ->Nat) (c N:Nat) (hN:l.length<=N) (hg:∀ s,∀ a∈l,μ (g s a)<=μ s+c)
  (hs:∀ i (h:i<l.length) (s:σ) (X:τ->Prop),μ s<=μ s0+N * c->X (e (i+1) (g s l[i]))->B X (e i s))
  (hf:∀ X:τ->Prop,μ (l.foldl g s0)<=μ s0+N * c->B X (e l.length (l.foldl g s0))):z0i B (e 0 s0):=by
 have hb:∀ i,i<=l.length->μ ((l.take i).foldl g s0)<=μ s0+N * c:=fun i hi=>by
  have h1:=zaf (μ:=μ) (g:=g) (c:=c) (l:=l.take i) (s:=s0) fun s a ha=>hg s a (List.mem_of_mem_take ha)
  rw[List.length_take,Nat.min_eq_left hi]at h1
  have:i * c<=N * c:=Nat.mul_le_mul_right c (by omega)
  omega
 refine zce l g s0 e (fun i hi X hX=>hs i hi _ X (hb i (by omega)) hX) (fun X=>hf X ?_)
 have:=hb l.length (Nat.le_refl _)
 rwa [List.take_length]at this
def zur (d:z0k):Prop:=(d.1.flatMap (·.2.1)).length<=6/\(d.2.1.flatMap (·.2.1)).length<=6
theorem z027 {l:List z0o} {d:z0k} (h:zhx l d=true):zur d:=by
 have:=z6s h;exact⟨this.2.2.2.2.2.1,this.2.2.2.2.2.2⟩
theorem z00o {d:z0k} (h:zur d):(exV d).length<=6:=Nat.le_trans (List.length_filter_le _ _) (Nat.le_trans (zhv _) h.2)
theorem zvl {d:z0k} (h:zur d):(frV d).length<=6:=Nat.le_trans (List.length_filter_le _ _) (Nat.le_trans (zhv _) h.2)
def putE (e:List z2m) (x:z2m):List z2m:=if x∈e then e else e++[x]
def ed (f:Int) (b:Bool) (ps:List Int) (out:List z2m):List z2m:=ps.foldl (fun out t=>putE out (f,t,b,())) out
def z05c (l:List z0o) (d:z0k) (v:Int) (out:List z2m) (f:Int):List z2m:=(exV d).foldl (fun out n=>ed f true (places l d.2.1 n) out) (ed f false (places l d.2.1 v) out)
def gVar (l:List z0o) (d:z0k) (out:List z2m) (v:Int):List z2m:=(places l d.1 v).foldl (z05c l d v) out
def gDep (l:List z0o) (out:List z2m) (d:z0k):List z2m:=(frV d).foldl (gVar l d) out
def zrv (l:List z0o) (ds:List z0k):List z2m:=if zik l ds then ds.foldl (gDep l) [] else[]
theorem zts (e:List z2m) (x:z2m):(putE e x).length<=e.length+1:=by unfold putE;split<;>simp
theorem z02p (f:Int) (b:Bool) (ps:List Int) (out:List z2m):(ed f b ps out).length<=out.length+ps.length:=by
 have:=zaf (μ:=List.length) (g:=fun out t=>putE out (f,t,b,())) (c:=1) (l:=ps) (s:=out) fun s a _=>zts _ _
 unfold ed;omega
theorem zx9 {l:List z0o} {d:z0k} (h:zur d) (v:Int) (out:List z2m) (f:Int):(z05c l d v out f).length<=out.length+42:=by
 have h1:=z02p f false (places l d.2.1 v) out
 have h2:=za0 l d.2.1 v
 have h3:=zaf (μ:=List.length) (g:=fun out n=>ed f true (places l d.2.1 n) out) (c:=6) (l:=exV d) (s:=ed f false (places l d.2.1 v) out) fun s a _=>by
  have h1:=z02p f true (places l d.2.1 a) s
  have h2:=za0 l d.2.1 a
  have:=h.2;omega
 have h4:=z00o h
 have:=h.2
 unfold z05c;omega
theorem z01p {l:List z0o} {d:z0k} (h:zur d) (out:List z2m) (v:Int):(gVar l d out v).length<=out.length+252:=by
 have h1:=zaf (μ:=List.length) (g:=z05c l d v) (c:=42) (l:=places l d.1 v) (s:=out) fun s a _=>zx9 h v s a
 have h2:=za0 l d.1 v
 have:=h.1
 unfold gVar;omega
theorem z09f {l:List z0o} {d:z0k} (h:zur d) (out:List z2m):(gDep l out d).length<=out.length+1512:=by
 have h1:=zaf (μ:=List.length) (g:=gVar l d) (c:=252) (l:=frV d) (s:=out) fun s a _=>z01p h s a
 have h2:=zvl h
 unfold gDep;omega
theorem z09a (x y:z2m):eqD (.pair (.int .i64) (.pair (.int .i64) (.pair .bool .unit))) x y=decide (x=y):=by
 obtain⟨a,b,c,_⟩:=x;obtain⟨a',b',c',_⟩:=y
 show((a == a')&&((b == b')&&((c == c')&&true)))=_
 by_cases h1:a=a'<;>by_cases h2:b=b'<;>by_cases h3:c=c'<;>simp[h1,h2,h3]
theorem zlv {e:List z2m} {x:z2m} (h:e.length<=1073741824):zbs e x (putE e x):=zuf _ _ _ (by
 unfold zl9
 refine z9i e (fun y=>decide (y=x)) (fun i=>((i:Int),())) (KT:=x∈e) (KF:=¬ x∈e) ?_ ?_ ?_ ?_
 . intro i hi X h1 h2
   refine z0l fun _=>bcI hi (inI hi ?_)
   simp only
   rw[z2o hi,z07 (by omega)]
   rw[z09a]
   refine z1y (fun h=>?_) (fun h=>h2 h)
   have:=h1 h
   unfold putE;rw[if_pos this]
 . intro X hn
   refine z0l fun _=>bcN ⟨by simp only[z0t,List.length_cons,List.length_nil];omega,?_⟩
   unfold putE;rw[if_neg hn]
 . intro h
   obtain⟨y,hy,hp⟩:=List.any_eq_true.mp h
   have:y=x:=by simpa using hp
   rw[<-this];exact hy
 . intro h hm
   have:e.any (fun y=>decide (y=x))=true:=List.any_eq_true.mpr ⟨x,hm,by simp⟩
   rw[h]at this;cases this)
theorem zny {l:List z0o} {ds:List z0k}:zb5 l ds (zrv l ds):=znx _ _ _ (by
 unfold zg1 zrv
 cases hv:zik l ds with
 | false=>
   refine z1k 0 (fun _=>((0:Int),(([]:List z2m),()))) rfl (fun i hi=>by omega) fun X=>?_
   refine z0l fun _=>z0b (fun _=>⟨_,z3q,?_⟩) (fun _=>?_)
   . rw[hv];exact bcF (by simp)
   . simp
 | true=>
   rw[if_pos rfl]
   have hdl:=zq6 hv
   have hsm:∀ d∈ds,zur d:=fun d hd=>z027 (zqo hv hd)
   refine z49 ds (gDep l) [] (fun i m=>((i:Int),(m,()))) List.length 1512 5 hdl (fun s a ha=>z09f (hsm a ha) s) ?_ ?_
   . intro i hi s X hs hX
     rw[List.length_nil]at hs
     have hd:=hsm _ (List.getElem_mem hi)
     have hd1:=hd.1
     have hd2:=hd.2
     have hfl:=zvl hd
     have hel:=z00o hd
     refine z0l fun _=>bcI hi ⟨_,z3q,?_⟩
     rw[hv]
     refine bcT (inI hi ⟨_,zbg (by simp only;rw[z2o hi];omega) (by simp only;rw[z2o hi];omega),inI hi ⟨_,z5r (by simp only;rw[z2o hi];omega) (by simp only;rw[z2o hi];omega),?_⟩⟩)
     simp only
     rw[z2o hi,z07 (by omega)]
     refine z49 (frV ds[i]) (gVar l ds[i]) s (fun i m=>((i:Int),(m,()))) List.length 252 6 hfl (fun s a _=>z01p hd s a) ?_ ?_
     . intro j hj s2 Y hs2 hY
       have hpl:=za0 l ds[i].1 (frV ds[i])[j]
       have hpl2:=za0 l ds[i].2.1 (frV ds[i])[j]
       refine z0l fun _=>bcI hj (inI hi (inI hj ⟨_,zhs (by omega),inI hi (inI hj ⟨_,zhs (by omega),?_⟩)⟩))
       simp only
       rw[z2o hj,z07 (by omega)]
       refine z49 (places l ds[i].1 (frV ds[i])[j]) (z05c l ds[i] (frV ds[i])[j]) s2 (fun i m=>((i:Int),(m,()))) List.length 42 6 (by omega) (fun s a _=>zx9 hd _ s a) ?_ ?_
       . intro k hk s3 Z hs3 hZ
         refine z0l fun _=>bcI hk ?_
         simp only
         rw[z2o hk,z07 (by omega)]
         have he1:=z02p (places l ds[i].1 (frV ds[i])[j])[k] false (places l ds[i].2.1 (frV ds[i])[j]) s3
         refine z49 (places l ds[i].2.1 (frV ds[i])[j]) (fun out t=>putE out ((places l ds[i].1 (frV ds[i])[j])[k],t,false,())) s3 (fun i m=>((i:Int),(m,()))) List.length 1 6 (by omega) (fun s a _=>zts _ _) ?_ ?_
         . intro m hm s4 W hs4 hW
           refine z0l fun _=>bcI hm (inI hk (inI hm ⟨_,zlv (by simp only;omega),?_⟩))
           simp only
           rw[z2o hm,z07 (by omega)];exact hW
         . intro W hs4
           refine z0l fun _=>bcN ?_
           simp only
           refine z49 (exV ds[i]) (fun out n=>ed (places l ds[i].1 (frV ds[i])[j])[k] true (places l ds[i].2.1 n) out) (ed (places l ds[i].1 (frV ds[i])[j])[k] false (places l ds[i].2.1 (frV ds[i])[j]) s3) (fun i m=>((i:Int),(m,()))) List.length 6 6 hel (fun s a _=>by
            have h1:=z02p (places l ds[i].1 (frV ds[i])[j])[k] true (places l ds[i].2.1 a) s
            have h2:=za0 l ds[i].2.1 a
            omega) ?_ ?_
           . intro m hm s4 V hs4 hV
             have hpl3:=za0 l ds[i].2.1 (exV ds[i])[m]
             refine z0l fun _=>bcI hm (inI hi (inI hm ⟨_,zhs (by omega),?_⟩))
             simp only
             rw[z2o hm,z07 (by omega)]
             refine z49 (places l ds[i].2.1 (exV ds[i])[m]) (fun out t=>putE out ((places l ds[i].1 (frV ds[i])[j])[k],t,true,())) s4 (fun i m=>((i:Int),(m,()))) List.length 1 6 (by omega) (fun s a _=>zts _ _) ?_ ?_
             . intro p hp s5 V5 hs5 hV5
               refine z0l fun _=>bcI hp (inI hk (inI hp ⟨_,zlv (by simp only;omega),?_⟩))
               simp only
               rw[z2o hp,z07 (by omega)];exact hV5
             . intro V5 _
               exact z0l fun _=>bcN hV
           . intro V _
             exact z0l fun _=>bcN hZ
       . intro Z _
         exact z0l fun _=>bcN hY
     . intro Y _
       exact z0l fun _=>bcN hX
   . intro X _
     exact z0l fun _=>bcN rfl)
def cntP (l:List z0o):Int:=if z9u l then sumA l else 0
theorem znq {l:List z0o}:zb6 l (cntP l):=znz _ _ (by
 unfold zg4 cntP
 cases hv:z9u l with
 | false=>
   refine z1k 0 (fun _=>((0:Int),((0:Int),()))) rfl (fun i hi=>by omega) fun X=>?_
   refine z0l fun _=>z0b (fun _=>⟨_,z27,?_⟩) (fun _=>?_)
   . rw[hv];exact bcF (by simp)
   . simp
 | true=>
   rw[if_pos rfl]
   have hl:=zlu hv
   refine zce l (fun a r=>a+r.2.1) 0 (fun i m=>(m,((i:Int),()))) ?_ ?_
   . intro i hi X hX
     have hb:=zu9 (l:=l.take i) (a:=0) fun r hr=>zhi hv (List.mem_of_mem_take hr)
     rw[List.length_take]at hb
     have ha:=zig (zhi hv (List.getElem_mem hi))
     refine z0l fun _=>bcI hi ⟨_,z27,?_⟩
     rw[hv]
     refine bcT (inI hi ?_)
     simp only
     rw[z2o hi,z07 (by omega),z0w (by omega) (by omega)]
     exact hX
   . intro X
     exact z0l fun _=>bcN rfl)
def zr3 {α:Type} (f:α->α):Nat->α->α
 |0,a=>a
 |n+1,a=>zr3 f n (f a)
theorem zsu {α:Type} {f:α->α}:∀ {n:Nat} {a:α},zr3 f (n+1) a=f (zr3 f n a)
 |0,_=>rfl
 |n+1,a=>by rw[zr3,zsu];rfl
theorem zws {α:Type} {f:α->α} {I:α->Prop} (h:∀ a,I a->I (f a)):∀ {n:Nat} {a:α},I a->I (zr3 f n a)
 |0,_,ha=>ha
 |n+1,_,ha=>zws h (n:=n) (h _ ha)
theorem z0b2 {α:Type} {l:List α} {i j:Nat} {x d:α} (h:i<l.length):(l.set i x).getD j d=if j=i then x else l.getD j d:=by
 by_cases hj:j<l.length
 . rw[z71 (by simpa using hj),z71 hj,List.getElem_set]
   by_cases hij:i=j
   . subst hij;simp
   . rw[if_neg hij,if_neg (Ne.symm hij)]
 . have:j≠i:=by omega
   rw[if_neg this,List.getD_eq_getElem?_getD,List.getD_eq_getElem?_getD,List.getElem?_eq_none (by simpa using hj),List.getElem?_eq_none (by omega)]
def zzn (n:Int) (met:List Bool) (e:z2m):List Bool:=if inR e.1 0 (n - 1)&&inR e.2.1 0 (n - 1)&&met.getD e.1.toNat false then met.set e.2.1.toNat true else met
def zpu (n:Int) (es:List z2m) (met:List Bool):List Bool:=es.foldl (zzn n) met
def z01h (n:Int) (es:List z2m) (a:Int):List Bool:=zr3 (zpu n es) n.toNat ((List.replicate n.toNat false).set a.toNat true)
def z04h (n:Int) (es:List z2m) (a b:Int):Bool:=inR n 0 30&&inR a 0 (n - 1)&&inR b 0 (n - 1)&&(z01h n es a).getD b.toNat false
theorem z07v (n:Int) (met:List Bool) (e:z2m):(zzn n met e).length=met.length:=by unfold zzn;split<;>simp
theorem zp4 (n:Int):∀(es:List z2m) (met:List Bool),(es.foldl (zzn n) met).length=met.length
 |[],_=>rfl
 |e::es,met=>by rw[List.foldl_cons,zp4 n es];exact z07v n met e
theorem z075 (n:Int) (es:List z2m) (k:Nat) (met:List Bool):(zr3 (zpu n es) k met).length=met.length:=
 zws (I:=fun m:List Bool=>m.length=met.length) (fun m hm=>by unfold zpu;rw[zp4];exact hm) rfl
theorem zrg {n:Int} {es:List z2m} {a b:Int}:zdw n es a b (z04h n es a b):=zrs _ _ _ _ _ (by
 unfold zjd
 refine⟨_,z4j,z0q (fun h=>by unfold z04h;rw[h];rfl) (fun h1=>⟨_,z4j,?_⟩)⟩
 have hn:=inR_iff.mp h1
 rw[z0w (by omega) (by omega)]
 refine z0q (fun h=>by unfold z04h;rw[h];simp) (fun h2=>⟨_,z4j,z0q (fun h=>by unfold z04h;rw[h];simp) (fun h3=>?_)⟩)
 have ha:=inR_iff.mp h2
 have hb:=inR_iff.mp h3
 refine⟨⟨by omega,by omega,by simp only[z0t];omega⟩,⟨by omega,by rw[List.length_replicate];omega⟩,?_⟩
 have hlen:∀ k,(zr3 (zpu n es) k ((List.replicate n.toNat false).set a.toNat true)).length=n.toNat:=fun k=>by rw[z075];simp
 refine z1k n.toNat (fun i=>((i:Int),(zr3 (zpu n es) i ((List.replicate n.toNat false).set a.toNat true),()))) (by simp[zr3]) ?_ ?_
 . intro i hi X hX
   refine z0b (fun _=>?_) (fun h=>by omega)
   rw[zsu]at hX
   have hli:=hlen i
   simp only
   generalize zr3 (zpu n es) i ((List.replicate n.toNat false).set a.toNat true)=m0 at hX hli ⊢
   unfold zpu at hX
   refine zce es (zzn n) m0 (fun i m=>((i:Int),(m,()))) ?_ ?_
   . intro j hj Y hY
     have hlm:=zp4 n (es.take j) m0
     rw[hli]at hlm
     generalize (es.take j).foldl (zzn n) m0=m1 at hY hlm ⊢
     unfold zzn at hY
     refine z0l fun _=>bcI hj (inI hj ⟨_,z4j,?_⟩)
     simp only
     rw[z2o hj,z07 (by omega)]
     refine z1y (fun h4=>inI hj ⟨_,z4j,z1y (fun h5=>inI hj ?_) (fun h5=>by rw[h5]at hY;simpa using hY)⟩) (fun h4=>by rw[h4]at hY;simpa using hY)
     have e1:=inR_iff.mp h4
     have e2:=inR_iff.mp h5
     refine⟨⟨by omega,by omega⟩,z1y (fun h6=>inI hj ⟨⟨by omega,by omega⟩,?_⟩) (fun h6=>?_)⟩
     . rw[h4,h5,h6]at hY;simpa using hY
     . rw[h6]at hY;simpa using hY
   . intro Y
     refine z0l fun _=>bcN ?_
     simp only
     rw[z07 (by omega)];exact hX
 . intro X
   refine z0b (fun h=>by omega) (fun _=>⟨⟨by omega,by rw[hlen];omega⟩,?_⟩)
   unfold z04h z01h
   rw[h1,h2,h3];rfl)
def cycP (l:List z0o) (ds:List z0k) (e:z2m):Bool:=e.2.2.1&&z04h (cntP l) (zrv l ds) e.2.1 e.1
def cyc (l:List z0o) (ds:List z0k):Bool:=(zrv l ds).any (cycP l ds)
def cycE (l:List z0o) (ds:List z0k):z2m:=if z03 (cycP l ds) (zrv l ds)<(zrv l ds).length then(zrv l ds).getD (z03 (cycP l ds) (zrv l ds)) zf6 else zf6
theorem zyj {α:Type} {p:α->Bool} {l:List α}:l.any p=decide (z03 p l<l.length):=by
 rcases Nat.lt_or_ge (z03 p l) l.length with h|h
 . rw[decide_eq_true h]
   exact List.any_eq_true.mpr ⟨_,List.getElem_mem h,zc0 h⟩
 . rw[decide_eq_false (by omega),Bool.eq_false_iff]
   intro hany
   obtain⟨x,hx,hp⟩:=List.any_eq_true.mp hany
   obtain⟨i,hi,rfl⟩:=List.mem_iff_getElem.mp hx
   have:=za2 (p:=p) hi (by omega)
   rw[hp]at this;cases this
def wac (l:List z0o) (ds:List z0k):Bool:=zik l ds && !cyc l ds
theorem zka {l:List z0o} {ds:List z0k}:z8o l ds (cycE l ds) (cyc l ds):=zjx _ _ _ _ (by
 unfold zcb
 refine⟨_,zny,za8 (zrv l ds) (cycP l ds) (fun i=>((i:Int),(zf6,()))) (KT:=fun i=>((zrv l ds).getD i zf6,(true,()))=(cycE l ds,(cyc l ds,()))) (KF:=(zf6,(false,()))=(cycE l ds,(cyc l ds,()))) ?_ ?_ ?_ ?_⟩
 . intro i hi X h1 h2
   refine z0l fun _=>bcI hi (inI hi ?_)
   simp only
   rw[z07 (by omega)]
   have hg:=z2o (d:=zf6) hi
   rw[hg]
   unfold cycP at h1 h2
   refine z1y (fun h=>inI hi (inI hi ⟨_,znq,_,zrg,z1y (fun h3=>inI hi ?_) (fun h3=>?_)⟩)) (fun h=>h2 (by rw[h];rfl))
   . have:=h1 (by rw[h,h3];rfl)
     rw[z71 hi]at this;exact this
   . exact h2 (by rw[h,h3];rfl)
 . intro X h
   exact z0l fun _=>bcN h
 . intro h
   unfold cycE cyc
   rw[if_pos h,zyj,decide_eq_true h]
 . intro h
   unfold cycE cyc
   rw[if_neg (by omega),zyj,decide_eq_false (by omega)])
theorem zll {l:List z0o} {ds:List z0k}:z93 l ds (wac l ds):=zla _ _ _ (by
 unfold zd6 wac
 refine⟨_,_,zka,_,z3q,z1y (fun h=>by rw[h];rfl) (fun h=>by rw[h];rfl)⟩)
def hgt (n:Int) (es:List z2m) (p:Nat):Nat:=(List.range n.toNat).countP fun(q:Nat)=>(z01h n es (q:Int)).getD p false && !(z01h n es (p:Int)).getD q false
def zcl (l:List z0o) (ds:List z0k):Bool:=zik l ds && !ds.any fun d=>d.2.2.1
theorem zzv {l:List z0o} {ds:List z0k}:zkc l ds (zcl l ds):=zyy _ _ _ (by
 unfold zp7
 refine z9i ds (fun d=>d.2.2.1) (fun i=>((i:Int),())) (KT:=ds.any (fun d=>d.2.2.1)=true) (KF:=ds.any (fun d=>d.2.2.1)=false) ?_ ?_ id id
 . intro i hi X h1 h2
   refine z0l fun _=>bcI hi (inI hi ?_)
   simp only
   rw[z2o hi,z07 (by omega)]
   refine z1y (fun h=>?_) (fun h=>h2 h)
   unfold zcl;rw[h1 h];simp
 . intro X h
   refine z0l fun _=>bcN ⟨_,z3q,?_⟩
   unfold zcl;rw[h];simp)
theorem zu3 {d:z0k}:z7g d d.2.2.1:=zuy _ _ (by unfold zkv;rfl)
theorem zqw {l:List z0o} {ds:List z0k}:zkb l ds (zcl l ds):=zzw _ _ _ (by
 unfold zpk zcl
 refine⟨_,zfs,z1y (fun h=>⟨_,z4n (fun d=>d.2.2.1) (fun _ _=>zu3),by rw[h];rfl⟩) (fun h=>by rw[h];rfl)⟩)
theorem z6d {l:List Int} (h:l.length<=1099511627776):z3k l l:=zky _ _ (by
 unfold zd2
 refine z1y (fun he=>⟨?_,by simp only[z0t,List.length_nil];omega,by rw[List.nil_append]⟩) (fun _=>⟨by simp only[z0t,List.length_nil];omega,by rw[List.nil_append]⟩)
 have:l=[]:=List.isEmpty_iff.mp he
 rw[this])
theorem zfb {l:List z0o} (h:l.length<=1099511627776):z5t l l:=zfm _ _ (by
 unfold z9l
 refine z1y (fun he=>⟨?_,by simp only[z0t,List.length_nil];omega,by rw[List.nil_append]⟩) (fun _=>⟨by simp only[z0t,List.length_nil];omega,by rw[List.nil_append]⟩)
 have:l=[]:=List.isEmpty_iff.mp he
 rw[this])
theorem zpz {f:z00} (h:f.2.1.length<=1099511627776):zgi f f:=z06d _ _ (by
 unfold zx1
 try refine⟨trivial,?_⟩
 exact⟨by simp only[z0t,List.length_nil];omega,by rw[List.nil_append]⟩)
theorem z00b {f:z00} (h:f.2.1.length<=1099511627776):zjp f f:=zzy _ _ (by
 unfold zqm
 exact⟨_,z6d h,rfl⟩)
theorem zlz {α τ:Type} {B:(τ->Prop)->τ->Prop} (l:List α) (e:Nat->List α->τ) (hl:l.length<=1073741824)
  (hs:∀ i (h:i<l.length) (s:List α) (X:τ->Prop),s.length<=1073741824->X (e (i+1) (s++[l[i]]))->B X (e i s))
  (hf:∀ X:τ->Prop,B X (e l.length l)):z0i B (e 0 []):=by
 refine z1k l.length (fun i=>e i (l.take i)) (by simp) ?_ ?_
 . intro i hi X hX
   rw[z08 hi]at hX
   exact hs i hi _ X (by rw[List.length_take];omega) hX
 . intro X;rw[List.take_length];exact hf X
theorem znf {l:List z00} (hl:l.length<=1073741824) (h:∀ f∈l,f.2.1.length<=1099511627776):zcz l l:=zwa _ _ (by
 unfold zn2
 refine z0l fun _=>zlz l (fun i s=>((i:Int),(s,()))) hl ?_ ?_
 . intro i hi s X hs hX
   refine bcI hi (inI hi ⟨l[i],?_,⟨by simp only[z0t,List.length_cons,List.length_nil];omega,?_⟩⟩)
   . simp only;rw[z2o hi];exact z00b (h _ (List.getElem_mem hi))
   . simp only;rw[z07 (by omega)];exact hX
 . intro X;exact bcN rfl)
def z0ft (d:z0k):Prop:=(d.1.length<=1073741824/\∀ f∈d.1,f.2.1.length<=1099511627776)/\(d.2.1.length<=1073741824/\∀ f∈d.2.1,f.2.1.length<=1099511627776)
abbrev zgq:List Int:=[10,10,10,10,10]
theorem zm7:zec 10:=z03h _ (by unfold zsq;rfl)
theorem zp0:zfl [10,10,10,10,10]:=z011 _ (by
 unfold zp5
 refine z1k 5 (fun i=>(List.replicate i (10:Int),())) rfl ?_ ?_
 . intro i hi X hX
   refine z0l fun _=>z0b (fun _=>⟨_,zm7,by simp only[z0t,List.length_replicate,List.length_cons,List.length_nil];omega,?_⟩) (fun h=>by simp only[List.length_replicate]at h;omega)
   rw[List.replicate_succ']at hX;exact hX
 . intro X
   exact z0l fun _=>bcF rfl)
def zvr:List Int->List Int->List Int->List Int×Bool
 |[],_,b=>(b,true)
 | t::ts,v::vs,b=>if t<0 then(if -1 - t=v then zvr ts vs b else(b,false))
   else if b.getD t.toNat 0=10\/b.getD t.toNat 0=v then zvr ts vs (b.set t.toNat v)else(b,false)
 |_::_,[],b=>(b,false)
theorem z07a {t:Int} {ts:List Int} {v:Int} {vs b:List Int}:zvr (t::ts) (v::vs) b=if t<0 then(if -1 - t=v then zvr ts vs b else(b,false))
 else if b.getD t.toNat 0=10\/b.getD t.toNat 0=v then zvr ts vs (b.set t.toNat v)else(b,false):=rfl
theorem zup:∀ {ts vs b:List Int},(zvr ts vs b).1.length=b.length
 |[],vs,b=>by simp[zvr]
 |t::ts,[],b=>by simp[zvr]
 | t::ts,v::vs,b=>by
   unfold zvr
   split
   . split
     . exact zup
     . rfl
   . split
     . rw[zup,List.length_set]
     . rfl
theorem z05z {a f:z00} {b:List Int} (hl:a.2.1.length<=1000) (hb:b.length<=1000) (ht:∀ t∈a.2.1,-10<=t/\t<b.length) :
  zp1 a f b (if a.1=f.1/\a.2.1.length=f.2.1.length then(zvr a.2.1 f.2.1 b).1 else b) (decide (a.1=f.1/\a.2.1.length=f.2.1.length)&&(zvr a.2.1 f.2.1 b).2):=z05e _ _ _ _ _ (by
 unfold zwq
 refine⟨by simp only[z0t,List.length_nil];omega,zby (fun h=>by rw[if_neg (fun h'=>h h'.1)];simp[h]) (fun h1=>z0l fun _=>z0l fun _=>zby (fun h=>?_) (fun h2=>?_))⟩
 . have h:¬ a.2.1.length=f.2.1.length:=by omega
   rw[if_neg (fun h'=>h h'.2)];simp[h]
 . have h2:a.2.1.length=f.2.1.length:=by omega
   rw[if_pos ⟨h1,h2⟩,decide_eq_true (And.intro h1 h2),Bool.true_and,List.nil_append]
   refine z0v (fun k s=>∃(i:Nat) (c:List Int),i+k=a.2.1.length/\s=((i:Int),(c,()))/\c.length=b.length/\zvr (a.2.1.drop i) (f.2.1.drop i) c=zvr a.2.1 f.2.1 b) ?_ ?_ (n:=a.2.1.length) ⟨0,b,by omega,rfl,rfl,by simp⟩
   . rintro s ⟨i,c,hi,rfl,hc,hf⟩ X
     obtain rfl:i=a.2.1.length:=by omega
     refine z0l fun _=>bcN ?_
     rw[<-hf];simp[zvr]
   . rintro k s ⟨i,c,hi,rfl,hc,hf⟩ X hX
     have hlt:i<a.2.1.length:=by omega
     have hlt':i<f.2.1.length:=by omega
     rw[z9h hlt,z9h hlt']at hf
     have htr:=ht _ (List.getElem_mem hlt)
     refine z0l fun _=>bcI hlt (inI hlt ?_)
     simp only
     rw[z2o hlt,z2o hlt',z07 (by omega)]
     rw[z07a]at hf
     refine z0b (fun h3=>inI hlt' ?_) (fun h3=>?_)
     . rw[if_pos h3]at hf
       rw[z0w (by omega) (by omega)]
       refine zby (fun h4=>?_) (fun h4=>?_)
       . rw[if_neg h4]at hf;rw[<-hf]
       . rw[if_pos h4]at hf;exact hX _ ⟨i+1,c,by omega,rfl,hc,hf⟩
     . rw[if_neg h3]at hf
       have hin:a.2.1[i].toNat<c.length:=by omega
       refine⟨⟨by omega,by omega⟩,_,zm7,zby (fun h4=>⟨⟨by omega,by omega⟩,inI hlt' (zby (fun h5=>?_) (fun h5=>inI hlt' ⟨⟨by omega,by omega⟩,?_⟩))⟩) (fun h4=>inI hlt' ⟨⟨by omega,by omega⟩,?_⟩)⟩
       . rw[if_neg (by rintro (h|h);exact h4 h;exact h5 h)]at hf;rw[<-hf]
       . rw[if_pos (.inr h5)]at hf;exact hX _ ⟨i+1,_,by omega,rfl,by rw[List.length_set];exact hc,hf⟩
       . rw[if_pos (.inl h4)]at hf;exact hX _ ⟨i+1,_,by omega,rfl,by rw[List.length_set];exact hc,hf⟩)
def z040 (fs:List z00) (w:List Int->List (List Int)) (a:z00) (b:List Int) (out:List (List Int)) (f:z00):List (List Int):=if a.1=f.1/\(zvr a.2.1 f.2.1 b).2=true then out++w (zvr a.2.1 f.2.1 b).1 else out
def zo8 (fs:List z00):List z00->List Int->List (List Int)
 |[],b=>[b]
 |a::ats,b=>fs.foldl (z040 fs (zo8 fs ats) a b) []
structure WOk (fs ats:List z00):Prop where
 few:fs.length<=30
 row:∀ a∈ats,a.2.1.length<=3/\∀ t∈a.2.1,-10<=t/\t<5
 fit:∀ a∈ats,∀ f∈fs,a.1=f.1->a.2.1.length=f.2.1.length
theorem WOk.tail {fs ats:List z00} {a:z00} (h:WOk fs (a::ats)):WOk fs ats:=⟨h.few,fun x hx=>h.row x (by simp[hx]),fun x hx=>h.fit x (by simp[hx])⟩
theorem zx5 {fs ats:List z00} {a:z00} {b:List Int} {n:Nat} (hw:∀ c,(zo8 fs ats c).length<=n) (out:List (List Int)) (f:z00):(z040 fs (zo8 fs ats) a b out f).length<=out.length+n:=by
 unfold z040
 split
 . rw[List.length_append];have:=hw (zvr a.2.1 f.2.1 b).1;omega
 . omega
theorem zlj {fs:List z00} (h:fs.length<=30):∀ {ats:List z00} {b:List Int},(zo8 fs ats b).length<=30 ^ ats.length
 |[],b=>by simp[zo8]
 | a::ats,b=>by
   have:=zaf (l:=fs) (g:=z040 fs (zo8 fs ats) a b) (s:=[]) (μ:=List.length) (c:=30 ^ ats.length) fun s f _=>zx5 (fun c=>zlj h) s f
   simp only[List.length_nil,Nat.zero_add]at this
   rw[List.length_cons,Nat.pow_succ,Nat.mul_comm]
   exact Nat.le_trans this (Nat.mul_le_mul_right _ h)
def mOk (x:z0c) (l:List z00):Bool:=l.all (z6m x.1)&&(z5d x&&decide (l.length<=3))
theorem z00x {x:z0c} {l:List z00} (h:mOk x l=true):WOk x.2.1 l/\l.length<=3:=by
 unfold mOk at h
 simp only[Bool.and_eq_true,decide_eq_true_eq]at h
 obtain⟨h1,h2,h3⟩:=h
 refine⟨⟨zb4 h2,fun a ha=>?_,fun a ha f hf he=>?_⟩,h3⟩
 . have:=z3n (List.all_eq_true.mp h1 a ha)
   exact⟨this.2.2.2.2.1,fun t ht=>by have:=inR_iff.mp (this.2.2.2.2.2 t ht);omega⟩
 . have e1:=z3n (List.all_eq_true.mp h1 a ha)
   have e2:=z3n (zc1 h2 hf)
   have:=e1.2.2.2.1
   have:=e2.2.2.2.1
   rw[he]at *
   omega
def dedG (out:List (List Int)) (b:List Int):List (List Int):=if b∈out then out else out++[b]
def zxk (x:z0c) (l:List z00):List (List Int):=if mOk x l then(zo8 x.2.1 l zgq).foldl dedG [] else[]
theorem z02n (out:List (List Int)) (b:List Int):(dedG out b).length<=out.length+1:=by unfold dedG;split<;>simp
theorem z08u {n:Nat} (h:n<=3):30 ^ n<=27000:=Nat.le_trans (Nat.pow_le_pow_right (by omega) h) (by decide)
theorem zvz {x:z0c} {l:List z00}:(zxk x l).length<=27000:=by
 unfold zxk
 split
 . rename_i h
   have:=zaf (l:=zo8 x.2.1 l zgq) (g:=dedG) (s:=[]) (μ:=List.length) (c:=1) fun s f _=>z02n s f
   have h2:=zlj (z00x h).1.few (ats:=l) (b:=zgq)
   have:=z08u (z00x h).2
   simp at *
   omega
 . exact Nat.zero_le _
theorem z0ax {x:z0c} {l:List z00}:zuu x l (mOk x l):=z0ai _ _ _ (by
 unfold z02r
 refine z9i l (fun a=>!z6m x.1 a) (fun i=>((i:Int),())) (KT:=((false,()):Bool×Unit)=(mOk x l,())) (KF:=l.any (fun a=>!z6m x.1 a)=false) ?_ ?_ ?_ (fun h=>h)
 . intro i hi X h1 h2
   refine z0l fun _=>bcI hi (inI hi ⟨_,zdt,?_⟩)
   simp only
   rw[z2o hi,z07 (by omega)]
   exact z1y h1 h2
 . intro X h
   refine z0l fun _=>bcN ⟨_,z6c,?_⟩
   rw[z3z]at h
   refine z1y (fun h1=>z0l fun _=>?_) (fun h1=>?_)
   . unfold mOk;rw[nf h,h1];simp;omega
   . unfold mOk;rw[h1];simp
 . intro h
   rw[z3z]at h
   unfold mOk;rw[nt h];rfl)
theorem zth {x:z0c} {l:List z00} (h:WOk x.2.1 l) (hl:l.length<=3):∀(k n:Nat) (b:List Int),n+k=l.length->b.length=5->zi6 x l n b (zo8 x.2.1 (l.drop n) b)
 | 0,n,b,hn,hb=>zt1 _ _ _ _ _ (by
   unfold zmj
   obtain rfl:n=l.length:=by omega
   refine z0l fun _=>z4m (fun _=>⟨by simp only[z0t,List.length_nil];omega,by rw[List.drop_length];rfl⟩) (fun h=>absurd rfl h))
 | k+1,n,b,hn,hb=>zt1 _ _ _ _ _ (by
   unfold zmj
   have hlt:n<l.length:=by omega
   refine z0l fun _=>z4m (fun h=>by omega) (fun _=>?_)
   rw[z9h hlt]
   have hrow:=h.row _ (List.getElem_mem hlt)
   refine z49 x.2.1 (z040 x.2.1 (zo8 x.2.1 (l.drop (n+1))) l[n] b) [] (fun i s=>((i:Int),(s,()))) List.length 27000 30 h.few (fun s f _=>zx5 (fun c=>Nat.le_trans (zlj h.few) (z08u (by rw[List.length_drop];omega))) s f) ?_ ?_
   . intro i hi s X hs hX
     have hfew:=h.few
     refine z0l fun _=>bcI hi (inI hlt (inI hi ⟨_,_,z05z (a:=l.getD (Int.toNat (n:Int)) z0y) (f:=x.2.1.getD (Int.toNat (i:Int)) z0y) (b:=b) ?_ (by omega) ?_,?_⟩))
     . rw[z2o hlt];omega
     . rw[z2o hlt];intro t ht;have:=hrow.2 t ht;omega
     . simp only
       rw[z2o hlt,z2o hi,z07 (by omega),z07 (by omega)]
       have hfit:=h.fit _ (List.getElem_mem hlt) _ (List.getElem_mem hi)
       unfold z040 at hX
       by_cases hc:l[n].1=x.2.1[i].1
       . rw[if_pos ⟨hc,hfit hc⟩,decide_eq_true (And.intro hc (hfit hc)),Bool.true_and]
         refine z1y (fun h4=>⟨_,zth h hl k (n+1) _ (by omega) (by rw[zup];exact hb),?_,?_⟩) (fun h4=>?_)
         . have h5:(zo8 x.2.1 (l.drop (n+1)) (zvr l[n].2.1 x.2.1[i].2.1 b).1).length<=27000:=Nat.le_trans (zlj h.few) (z08u (by rw[List.length_drop];omega))
           simp only[z0t,List.length_nil]at *
           omega
         . rw[if_pos ⟨hc,h4⟩]at hX;exact hX
         . rw[if_neg (by rintro⟨_,h5⟩;rw[h4]at h5;cases h5)]at hX;exact hX
       . rw[if_neg (fun h=>hc h.1),decide_eq_false (fun h=>hc h.1),Bool.false_and]
         rw[if_neg (fun h=>hc h.1)]at hX
         exact bcF hX
   . intro X _
     exact z0l fun _=>bcN rfl)
theorem zj0 {x:z0c} {l:List z00}:zag x l (zxk x l):=zry _ _ _ (by
 unfold zjl
 refine⟨_,z0ax,z0q (fun h=>by unfold zxk;rw[h];rfl) (fun h=>?_)⟩
 obtain⟨hw,hl⟩:=z00x h
 refine⟨_,zp0,_,zth hw hl l.length 0 zgq (by omega) rfl,?_⟩
 rw[List.drop_zero]
 have hlen:(zo8 x.2.1 l zgq).length<=27000:=Nat.le_trans (zlj hw.few) (z08u hl)
 unfold zxk
 rw[h,if_pos rfl]
 refine z49 (zo8 x.2.1 l zgq) dedG [] (fun i s=>((i:Int),(s,(zo8 x.2.1 l zgq,())))) List.length 1 27000 hlen (fun s f _=>z02n s f) ?_ ?_
 . intro i hi s X hs hX
   refine z0l fun _=>bcI hi ?_
   simp only
   rw[z07 (by omega)]
   refine zce s (fun(m:Bool) c=>m||decide (c=(zo8 x.2.1 l zgq)[i])) false (fun j m=>(m,((j:Int),()))) ?_ ?_
   . intro j hj Y hY
     refine z0l fun _=>bcI hj ?_
     simp only
     rw[z07 (by simp at hs;omega)]
     generalize (s.take j).foldl (fun(m:Bool) c=>m||decide (c=(zo8 x.2.1 l zgq)[i])) false=m at hY ⊢
     cases m with
     |true=>exact bcT hY
     | false=>
       refine bcF (inI hj (inI hi ⟨_,zlf,?_⟩))
       rw[z2o hj,z2o hi]
       have:(zhz s[j] (zo8 x.2.1 l zgq)[i] == (0:Int))=decide (s[j]=(zo8 x.2.1 l zgq)[i]):=by
        by_cases he:s[j]=(zo8 x.2.1 l zgq)[i]
        . rw[cmpL_zero.mpr he];simp[he]
        . have:zhz s[j] (zo8 x.2.1 l zgq)[i]≠0:=fun e=>he (cmpL_zero.mp e)
          simp[he,this]
       rw[this];simpa using hY
   . intro Y
     refine z0l fun _=>bcN ?_
     simp only
     have hm:∀(s:List (List Int)) (m:Bool),s.foldl (fun(m:Bool) c=>m||decide (c=(zo8 x.2.1 l zgq)[i])) m=(m||decide ((zo8 x.2.1 l zgq)[i]∈s)):=by
      intro s
      induction s with
      |nil=>intro m;simp
      | cons c s ih=>
        intro m
        rw[List.foldl_cons,ih,Bool.or_assoc]
        congr 1
        by_cases he:c=(zo8 x.2.1 l zgq)[i]
        . simp[he]
        . have:¬ (zo8 x.2.1 l zgq)[i]=c:=fun e=>he e.symm
          simp[he,this]
     rw[hm,Bool.false_or]
     unfold dedG at hX
     refine z0dd (fun h4=>inI hi ⟨by simp only[z0t,List.length_nil,List.length_cons]at *;omega,?_⟩) (fun h4=>?_)
     . rw[z2o hi];rw[if_neg h4]at hX;exact hX
     . rw[if_pos h4]at hX;exact hX
 . intro X _
   exact z0l fun _=>bcN rfl)
def z03x (b:List Int) (t:Int):Option Int:=if 0<=t then(if (b.length:Int)<=t then none else if zml (b.getD t.toNat 0)then some (b.getD t.toNat 0)else none)else(if zml (-1 - t)then some (-1 - t)else none)
def zge (b:List Int) (s:List Int) (t:Int):Unit ⊕ List Int:=match z03x b t with
 |none=>.inl ()
 |some v=>.inr (s++[v])
def inst (a:z00) (b:List Int):z00:=match zg0 (zge b) a.2.1 []with
 |.inl _=>z0y
 |.inr s=>(a.1,(s,()))
def z9m (a:z00) (b:List Int):Bool:=match zg0 (zge b) a.2.1 []with
 |.inl _=>false
 |.inr _=>true
theorem zlh {b:List Int}:∀ {l:List Int} {s s':List Int},zg0 (zge b) l s = .inr s'->s'.length=s.length+l.length
 |[],s,s',h=>by simp only[zg0,Sum.inr.injEq]at h;subst h;simp
 | t::l,s,s',h=>by
   simp only[zg0]at h
   unfold zge at h
   cases e:z03x b t with
   |none=>rw[e]at h;simp at h
   | some v=>
     rw[e]at h
     have:=zlh (b:=b) (l:=l) h
     simp at this ⊢
     omega
theorem z098 {a:z00} {b:List Int}:(inst a b).2.1.length<=a.2.1.length:=by
 unfold inst
 cases e:zg0 (zge b) a.2.1 []with
 |inl _=>simp
 |inr s=>have:=zlh e;simp at this ⊢;omega
theorem z05o {a:z00} {b:List Int} {r:Unit} (h:zg0 (zge b) a.2.1 [] = .inl r):((z0y,(false,())):z00×Bool×Unit)=(inst a b,(z9m a b,())):=by unfold inst z9m;rw[h]
theorem z02q {a:z00} {b s:List Int} (h:zg0 (zge b) a.2.1 [] = .inr s):(((a.1,(s,())),(true,())):z00×Bool×Unit)=(inst a b,(z9m a b,())):=by unfold inst z9m;rw[h]
theorem zjg {a:z00} {b:List Int} (hl:a.2.1.length<=1000) (hb:b.length<=1000) (ht:∀ t∈a.2.1,-10<=t/\t<5):zae a b (inst a b) (z9m a b):=zrz _ _ _ _ (by
 unfold zj4
 refine z0l fun _=>zuj a.2.1 (zge b) [] (fun i s=>((i:Int),(z0y,((a.1,(s,())),())))) (KR:=fun _=>((z0y,(false,())):z00×Bool×Unit)=(inst a b,(z9m a b,()))) ?_ ?_ (fun r hr=>z05o hr)
 . intro i hi s X hr h1 h2
   have hs:=zlh hr
   have htr:=ht _ (List.getElem_mem hi)
   refine bcI hi (inI hi ?_)
   simp only
   rw[z2o hi,z07 (by omega)]
   unfold zge z03x at h1 h2
   rw[List.length_take,List.length_nil]at hs
   refine z0b (fun h3=>z0l fun _=>z0b (fun h4=>?_) (fun h4=>⟨⟨by omega,by omega⟩,_,z6r,z0q (fun h5=>?_) (fun h5=>⟨by simp only[z0t,List.length_cons,List.length_nil];omega,?_⟩)⟩)) (fun h3=>⟨_,z6r,?_⟩)
   . exact h1 () (by rw[if_pos (by omega),if_pos (by omega)])
   . exact h1 () (by rw[if_pos (by omega),if_neg (by omega),h5];rfl)
   . exact h2 _ (by rw[if_pos (by omega),if_neg (by omega),h5];rfl)
   . rw[z0w (by omega) (by omega)]
     refine z0q (fun h5=>?_) (fun h5=>⟨by simp only[z0t,List.length_cons,List.length_nil];omega,?_⟩)
     . exact h1 () (by rw[if_neg (by omega),h5];rfl)
     . exact h2 _ (by rw[if_neg (by omega),h5];rfl)
 . intro s X hr
   exact bcN (z02q hr))
theorem zj2 {a:z00} {b:List Int} (hl:a.2.1.length<=1000) (hb:b.length<=1000) (ht:∀ t∈a.2.1,-10<=t/\t<5):zab a b (inst a b) (z9m a b):=zru _ _ _ _ (by
 unfold zj7
 refine zuj a.2.1 (zge b) [] (fun i s=>((i:Int),(z0y,((a.1,(s,())),())))) (KR:=fun _=>((z0y,(false,())):z00×Bool×Unit)=(inst a b,(z9m a b,()))) ?_ ?_ (fun r hr=>z05o hr)
 . intro i hi s X hr h1 h2
   have hs:=zlh hr
   have htr:=ht _ (List.getElem_mem hi)
   refine z0l fun _=>bcI hi (inI hi (inI hi ?_))
   simp only
   rw[z2o hi,z07 (by omega)]
   unfold zge z03x at h1 h2
   rw[List.length_take,List.length_nil]at hs
   refine z0b (fun h3=>inI hi (z0l fun _=>z0b (fun h4=>?_) (fun h4=>inI hi ⟨⟨by omega,by omega⟩,_,z99,z0q (fun h5=>?_) (fun h5=>inI hi (z0b (fun h6=>by omega) (fun h6=>⟨by simp only[z0t,List.length_cons,List.length_nil];omega,?_⟩)))⟩))) (fun h3=>⟨_,z99,?_⟩)
   . exact h1 () (by rw[if_pos (by omega),if_pos (by omega)])
   . exact h1 () (by rw[if_pos (by omega),if_neg (by omega),h5];rfl)
   . exact h2 _ (by rw[if_pos (by omega),if_neg (by omega),h5];rfl)
   . rw[z0w (by omega) (by omega)]
     refine z0q (fun h5=>?_) (fun h5=>inI hi (z0b (fun _=>z0b (fun h6=>by omega) (fun _=>⟨by simp only[z0t,List.length_cons,List.length_nil];omega,?_⟩)) (fun h6=>by omega)))
     . exact h1 () (by rw[if_neg (by omega),h5];rfl)
     . exact h2 _ (by rw[if_neg (by omega),h5];rfl)
 . intro s X hr
   exact z0l fun _=>bcN (z02q hr))
theorem znh {k:Int} (h0:0<=k) (h1:k<=1000000):zdi k (-1 - k):=zxw _ _ (by unfold zn4;rw[z0w (by omega) (by omega)])
theorem zh6 {k:Int} (h0:0<=k) (h1:k<=1000000):z8w k (-1 - k):=zww _ _ (by unfold zn6;rw[z0w (by omega) (by omega)])
theorem zfa {α:Type} [BEq α] [LawfulBEq α] [DecidableEq α] {l:List α} {b:α}:(l.any fun t=>decide (t=b))=decide (b∈l):=by
 rw[<-ztw]
 congr 1;funext t
 by_cases h:t=b
 . simp[h]
 . have:¬ b=t:=fun e=>h e.symm
   simp[h,this]
theorem zt2 {l:List z00} {f:z00}:zi0 l f (decide (f∈l)):=z03n _ _ _ (by
 unfold zsl
 refine⟨_,z73 (fun t=>decide (t=f)) (fun t _=>zym _ _ _ ⟨_,zk7,rfl⟩),?_⟩
 rw[zfa])
def place (l:List z00) (f:z00):Int:=if z03 (fun x=>decide (x=f)) l<l.length then(z03 (fun x=>decide (x=f)) l:Int)else -1
theorem z01u {l:List z00} {f:z00}:decide (place l f>=0)=decide (f∈l):=by
 have:=zfw (fun x=>decide (x=f)) l
 rw[zfa]at this
 exact this
theorem z0dj {x f:z00}:(z94 x f == (0:Int))=decide (x=f):=by
 by_cases h:x=f
 . rw[cmpF_zero.mpr h];simp[h]
 . have:z94 x f≠0:=fun e=>h (cmpF_zero.mp e)
   simp[h,this]
theorem zs8 {x:z0c} {f:z00}:zia x f (place x.2.1 f):=z03l _ _ _ (by
 unfold zsf
 refine za8 x.2.1 (fun t=>decide (t=f)) (fun i=>((i:Int),())) (KT:=fun i=>(((i:Int),()):Int×Unit)=(place x.2.1 f,())) (KF:=(((-1:Int),()):Int×Unit)=(place x.2.1 f,())) ?_ ?_ ?_ ?_
 . intro i hi X h1 h2
   refine z0l fun _=>bcI hi (inI hi ⟨_,z9q,?_⟩)
   simp only
   rw[z2o hi,z0dj,z07 (by omega)]
   exact z1y h1 h2
 . intro X h;exact z0l fun _=>bcN h
 . intro h;unfold place;rw[if_pos h]
 . intro h;unfold place;rw[if_neg (by omega)])
theorem zsb:∀ {x y z:List Int},zhz x y<0->zhz y z<0->zhz x z<0
 |[],[],z,h,_=>by simp[zhz]at h
 |[],b::y,[],_,h=>by simp[zhz]at h
 |[],b::y,c::z,_,_=>by simp[zhz]
 |a::x,[],z,h,_=>by simp[zhz]at h
 |a::x,b::y,[],_,h=>by simp[zhz]at h
 | a::x,b::y,c::z,h1,h2=>by
   simp only[zhz]at h1 h2 ⊢
   have ih:=zsb (x:=x) (y:=y) (z:=z)
   split at h1
   . split at h2
     . rw[if_pos (by omega)];omega
     . split at h2
       . omega
       . rw[if_pos (by omega)];omega
   . split at h1
     . omega
     . split at h2
       . rw[if_pos (by omega)];omega
       . split at h2
         . omega
         . rw[if_neg (by omega),if_neg (by omega)];exact ih h1 h2
theorem zc7 {x y z:z00} (h1:z94 x y<0) (h2:z94 y z<0):z94 x z<0:=by
 unfold z94 at *
 split at h1
 . split at h2
   . rw[if_pos (by omega)];omega
   . split at h2
     . omega
     . rw[if_pos (by omega)];omega
 . split at h1
   . omega
   . split at h2
     . rw[if_pos (by omega)];omega
     . split at h2
       . omega
       . rw[if_neg (by omega),if_neg (by omega)];exact zsb h1 h2
def asc (l:List z00):Prop:=∀ i j (hj:j<l.length) (hij:i<j),z94 (l[i]'(by omega)) l[j]<0
theorem z06o {x:z0c} (h:z5d x=true):asc x.2.1:=by
 have step:∀ i (hi:i+1<x.2.1.length),z94 (x.2.1[i]'(by omega)) x.2.1[i+1]<0:=by
  intro i hi
  unfold z5d at h
  simp only[Bool.and_eq_true]at h
  have:=List.all_eq_true.mp h.2 (i+1) (by simpa using hi)
  unfold z8e at this
  simp only[Bool.and_eq_true]at this
  have:=this.1.2
  rw[show(i+1 == 0)=false by simp,Bool.false_or]at this
  have h:=of_decide_eq_true this
  rw[Nat.add_sub_cancel,z2k (by omega),z2k hi]at h
  exact h
 have all:∀ k i (hk:i+1+k<x.2.1.length),z94 (x.2.1[i]'(by omega)) x.2.1[i+1+k]<0:=by
  intro k
  induction k with
  |zero=>intro i hk;exact step i hk
  |succ k ih=>intro i hk;exact zc7 (ih i (by omega)) (step (i+1+k) hk)
 intro i j hj hij
 obtain⟨k,rfl⟩:∃ k,j=i+1+k:=⟨j - i - 1,by omega⟩
 exact all k i hj
theorem z05q {l:List z0o} {ats:List z00} (h:∀ a∈ats,z6m l a=true) {v:Int} (hv:v∈vars ats):0<=v/\v<5:=by
 unfold vars at hv
 rw[mem_sset,List.mem_filter]at hv
 obtain⟨h1,h2⟩:=hv
 obtain⟨a,ha,h3⟩:=List.mem_flatMap.mp h1
 have:=inR_iff.mp ((z3n (h a ha)).2.2.2.2.2 v h3)
 have:0<=v:=by simpa using h2
 omega
structure DOk (d:z0k):Prop where
 sm:zur d
 ex:∀ v∈exV d,0<=v/\v<5
 fr:∀ v∈frV d,0<=v/\v<5
 hd:d.2.1.length<=2/\∀ a∈d.2.1,a.2.1.length<=3/\∀ t∈a.2.1,-10<=t/\t<5
 bd:d.1.length<=2/\∀ a∈d.1,a.2.1.length<=3/\∀ t∈a.2.1,-10<=t/\t<5
theorem z0bi {l:List z0o} {d:z0k} (h:zhx l d=true):DOk d:=by
 have hs:=z6s h
 have row:∀ ats:List z00,(∀ a∈ats,z6m l a=true)->∀ a∈ats,a.2.1.length<=3/\∀ t∈a.2.1,-10<=t/\t<5:=fun ats h a ha=>by
  have:=z3n (h a ha)
  exact⟨this.2.2.2.2.1,fun t ht=>by have:=inR_iff.mp (this.2.2.2.2.2 t ht);omega⟩
 exact⟨z027 h,fun v hv=>z05q hs.2.2.2.2.1 (List.mem_filter.mp hv).1,fun v hv=>z05q hs.2.2.2.2.1 (List.mem_filter.mp hv).1,⟨hs.2.2.2.1,row _ hs.2.2.2.2.1⟩,⟨hs.2.1,row _ hs.2.2.1⟩⟩
def z8x (d:z0k) (b:List Int):List Int:=(frV d).foldl (fun s v=>s++[b.getD v.toNat 0]) []
theorem z03g {d:z0k} (h:zur d) (b:List Int):(z8x d b).length<=6:=by
 have:=zaf (l:=frV d) (g:=fun s v=>s++[b.getD v.toNat 0]) (s:=[]) (μ:=List.length) (c:=1) fun s v _=>by simp
 have:=zvl h
 unfold z8x
 simp at *
 omega
def zr5 (d:z0k) (i:Int) (b:List Int) (v:Int):z09:=(i,(v,(z8x d b,())))
theorem zwv {ts:List z09} {t:z09} (h:t∈ts):0<=z8d ts t/\z8d ts t<ts.length:=by
 have h1:z03 (fun x=>decide (x=t)) ts<ts.length:=firstAt_any.mpr (by rw[zfa];simpa using h)
 unfold z8d
 rw[if_pos h1];omega
theorem z04m {ts:List z09} {t:z09} (h:t∉ts):z8d ts t = -1:=by
 unfold z8d
 rw[if_neg]
 intro h1
 have:=firstAt_any.mp h1
 rw[zfa]at this
 exact h (by simpa using this)
def hdG (d:z0k) (i:Int) (b:List Int) (s:List z09×List Int) (v:Int):List z09×List Int:=
 if zr5 d i b v∈s.1 then(s.1,s.2.set v.toNat (-1 - z8d s.1 (zr5 d i b v)))else(s.1++[zr5 d i b v],s.2.set v.toNat (-1 - (s.1.length:Int)))
def hdS (ts:List z09) (d:z0k) (i:Int) (b:List Int):List z09×List Int:=(exV d).foldl (hdG d i b) (ts,b)
def valG (ts:List z09) (d:z0k) (i:Int) (b:List Int) (vs:List Int) (v:Int):List Int:=vs.set v.toNat (-1 - z8d ts (zr5 d i b v))
theorem z07i {d:z0k} {i:Int} {b:List Int}:∀ {l:List Int} {s:List z09×List Int},s.1.length<=(l.foldl (hdG d i b) s).1.length
 |[],s=>Nat.le_refl _
 | v::l,s=>by
   rw[List.foldl_cons]
   refine Nat.le_trans ?_ z07i
   unfold hdG
   split<;>simp
theorem z05n {d:z0k} {i:Int} {b:List Int} {ts:List z09}:∀ {l:List Int} {vs:List Int},(∀ v∈l,zr5 d i b v∈ts)->l.foldl (hdG d i b) (ts,vs)=(ts,l.foldl (valG ts d i b) vs)
 |[],vs,_=>rfl
 | v::l,vs,h=>by
   rw[List.foldl_cons,List.foldl_cons]
   have:hdG d i b (ts,vs) v=(ts,valG ts d i b vs v):=by unfold hdG valG;rw[if_pos (h v (by simp))]
   rw[this]
   exact z05n fun v hv=>h v (by simp[hv])
theorem z01l (d:z0k) (i:Int) (b:List Int) (s:List z09×List Int) (v:Int):(hdG d i b s v).2.length=s.2.length:=by unfold hdG;split<;>simp
theorem zv9 (d:z0k) (i:Int) (b:List Int) (s:List z09×List Int) (v:Int):(hdG d i b s v).1.length<=s.1.length+1:=by unfold hdG;split<;>simp
def z8n (d:z0k) (vs:List Int):List z00:=d.2.1.foldl (fun out a=>out++[inst a vs]) []
theorem zm8 {α β:Type} (f:α->β):∀(l:List α) (s:List β),l.foldl (fun out a=>out++[f a]) s=s++l.map f
 |[],s=>by simp
 |a::l,s=>by rw[List.foldl_cons,zm8 f l];simp
theorem zdv {l:List z09} (h:l.length<=1099511627776):z4k l l:=zdx _ _ (by
 unfold z8h
 refine z1y (fun he=>⟨?_,by simp only[z0t,List.length_nil];omega,by rw[List.nil_append]⟩) (fun _=>⟨by simp only[z0t,List.length_nil];omega,by rw[List.nil_append]⟩)
 have:l=[]:=List.isEmpty_iff.mp he
 rw[this])
theorem zxx {ts:List z09} {ds:List z0k} {i:Nat} {b:List Int} (hi:i<ds.length) (hd:DOk ds[i]) (hts:ts.length<=30) (hb:b.length=5) :
  zhm ts ds i b (z8n ds[i] (hdS ts ds[i] i b).2) (hdS ts ds[i] i b).1:=zxt _ _ _ _ _ _ (by
 unfold zmx
 obtain⟨hs1,hs2⟩:=hd.sm
 have hfl:=zvl hd.sm
 have hel:=z00o hd.sm
 have hal:=z03g hd.sm b
 refine inI hi ⟨_,z6d (by omega),_,zio (d:=ds.getD (Int.toNat (i:Int)) zdm) (by rw[z2o hi];omega) (by rw[z2o hi];omega),?_⟩
 rw[z2o hi]
 refine z0l fun _=>z49 (frV ds[i]) (fun s v=>s++[b.getD v.toNat 0]) [] (fun j s=>((j:Int),(s,()))) List.length 1 6 hfl (fun s v _=>by simp) ?_ ?_
 . intro j hj s X hs hX
   have hv:=hd.fr _ (List.getElem_mem hj)
   refine bcI hj (inI hj ?_)
   simp only
   rw[z2o hj,z07 (by omega)]
   exact⟨⟨by omega,by omega⟩,by simp only[z0t,List.length_cons,List.length_nil]at *;omega,hX⟩
 . intro X _
   refine bcN ⟨_,zdv (by omega),_,zfh (by omega) (by omega),z0l fun _=>?_⟩
   refine z49 (exV ds[i]) (hdG ds[i] i b) (ts,b) (fun j s=>((j:Int),(s.1,(s.2,())))) (fun s=>s.1.length+(if s.2.length=5 then 0 else 1000000)) 1 6 hel (fun s v _=>by rw[z01l];have:=zv9 ds[i] i b s v;omega) ?_ ?_
   . intro j hj s Y hs hY
     have hv:=hd.ex _ (List.getElem_mem hj)
     have h5:s.2.length=5/\s.1.length<=36:=by
      rw[if_pos hb]at hs
      by_cases h:s.2.length=5
      . rw[if_pos h]at hs;simp only at hs;omega
      . rw[if_neg h]at hs;simp only at hs;omega
     refine bcI hj (inI hj ⟨_,z6d (by show(z8x ds[i] b).length<=_;omega),_,zxr,?_⟩)
     simp only
     rw[z2o hj,z07 (by omega)]
     have e:(((i:Int),((exV ds[i])[j],((frV ds[i]).foldl (fun s v=>s++[b.getD v.toNat 0]) [],()))):z09)=zr5 ds[i] i b (exV ds[i])[j]:=rfl
     rw[e]
     unfold hdG at hY
     by_cases hm:zr5 ds[i] i b (exV ds[i])[j]∈s.1
     . have h6:=zwv hm
       rw[if_pos hm]at hY
       refine z0b (fun h=>by omega) (fun _=>⟨_,znh h6.1 (by omega),⟨by omega,by omega⟩,hY⟩)
     . rw[z04m hm]
       rw[if_neg hm]at hY
       refine z0b (fun _=>z0l fun _=>⟨by simp only[z0t,List.length_cons,List.length_nil];omega,_,znh (by omega) (by omega),⟨by omega,by omega⟩,hY⟩) (fun h=>by omega)
   . intro Y hs
     have h5:(hdS ts ds[i] i b).2.length=5:=by
      rw[if_pos hb]at hs
      by_cases h:(hdS ts ds[i] i b).2.length=5
      . exact h
      . unfold hdS at h;rw[if_neg h]at hs;simp only at hs;omega
     refine bcN (z0l fun _=>?_)
     refine z49 ds[i].2.1 (fun out a=>out++[inst a (hdS ts ds[i] i b).2]) [] (fun j s=>((j:Int),(s,()))) List.length 1 2 hd.hd.1 (fun s a _=>by simp) ?_ ?_
     . intro j hj s Z hs hZ
       have ha:=hd.hd.2 _ (List.getElem_mem hj)
       refine bcI hj (inI hj ⟨_,_,zjg (a:=(ds[i].2.1).getD (Int.toNat (j:Int)) z0y) (b:=(hdS ts ds[i] i b).2) (by rw[z2o hj];omega) (by omega) (by rw[z2o hj];exact ha.2),?_⟩)
       simp only
       rw[z2o hj,z07 (by omega)]
       exact⟨by simp only[z0t,List.length_cons,List.length_nil]at *;omega,hZ⟩
     . intro Z _
       exact bcN rfl)
def zps (dp:List Int) (m v:Int):Int:=if z3a v then(if z16 v<(dp.length:Int)then zh7 m (dp.getD (z16 v).toNat 0)else m)else m
def zys (dp:List Int) (t:z09):List Int:=dp++[w64 (t.2.2.1.foldl (zps dp) 0+1)]
theorem zp8:∀(l:List z09) (s:List Int),(l.foldl zys s).length=s.length+l.length
 |[],s=>by simp
 |t::l,s=>by rw[List.foldl_cons,zp8];simp[zys];omega
theorem zwi {s:TSk} {t:z09} (hl:s.2.1.length<=30):zea s t (((s.2.1++[t]).foldl zys []).getD s.2.1.length 0):=by
 refine z03o _ _ _ ?_
 unfold ztb
 refine z1k (s.2.1.length+1) (fun i=>((i:Int),(((s.2.1++[t]).take i).foldl zys [],()))) rfl ?_ ?_
 . intro i hi X hX
   have hlen:=zp8 ((s.2.1++[t]).take i) []
   have hin:i<(s.2.1++[t]).length:=by simp;omega
   rw[z08 hin,List.foldl_append]at hX
   simp only[List.foldl_cons,List.foldl_nil]at hX
   rw[List.length_take,List.length_nil,Nat.min_eq_left (by omega)]at hlen
   simp only
   generalize ((s.2.1++[t]).take i).foldl zys []=dp at hX hlen ⊢
   refine z0l fun _=>z0b (fun _=>z0l fun _=>z0b (fun h=>?_) (fun h=>?_)) (fun h=>by omega)
   . have hi':i<s.2.1.length:=by omega
     rw[List.getElem_append_left hi']at hX
     refine inI hi' ?_
     rw[z2o hi',z07 (by omega)]
     refine zce s.2.1[i].2.2.1 (zps dp) 0 (fun j m=>(m,((j:Int),()))) ?_ ?_
     . intro j hj Y hY
       refine z0l fun _=>bcI hj (inI hj ⟨_,_,z5n,?_⟩)
       simp only
       rw[z2o hj,z07 (by omega)]
       generalize (s.2.1[i].2.2.1.take j).foldl (zps dp) 0=m at hY ⊢
       unfold zps at hY
       refine z1y (fun h=>z0l fun _=>z0b (fun h2=>⟨⟨z4e _,h2⟩,?_⟩) (fun h2=>?_)) (fun h=>?_)
       . rw[if_pos h,if_pos h2]at hY;exact hY
       . rw[if_pos h,if_neg h2]at hY;exact hY
       . rw[h]at hY;simpa using hY
     . intro Y
       exact z0l fun _=>bcN ⟨by simp only[z0t,List.length_cons,List.length_nil];omega,hX⟩
   . obtain rfl:i=s.2.1.length:=by omega
     rw[show(s.2.1++[t])[s.2.1.length]=t by simp]at hX
     rw[z07 (by omega)]
     refine zce t.2.2.1 (zps dp) 0 (fun j m=>(m,((j:Int),()))) ?_ ?_
     . intro j hj Y hY
       refine z0l fun _=>bcI hj (inI hj ⟨_,_,z5n,?_⟩)
       simp only
       rw[z2o hj,z07 (by omega)]
       generalize (t.2.2.1.take j).foldl (zps dp) 0=m at hY ⊢
       unfold zps at hY
       refine z1y (fun h=>z0l fun _=>z0b (fun h2=>⟨⟨z4e _,h2⟩,?_⟩) (fun h2=>?_)) (fun h=>?_)
       . rw[if_pos h,if_pos h2]at hY;exact hY
       . rw[if_pos h,if_neg h2]at hY;exact hY
       . rw[h]at hY;simpa using hY
     . intro Y
       exact z0l fun _=>bcN ⟨by simp only[z0t,List.length_cons,List.length_nil];omega,hX⟩
 . intro X
   have hlen:=zp8 (s.2.1++[t]) []
   simp only[List.length_append,List.length_cons,List.length_nil]at hlen
   refine z0l fun _=>z0b (fun h=>by simp only at h;omega) (fun _=>z0l fun _=>?_)
   have e:(s.2.1++[t]).take (s.2.1.length+1)=s.2.1++[t]:=List.take_of_length_le (by simp)
   simp only[e,Int.toNat_natCast]
   exact⟨⟨by omega,by omega⟩,trivial⟩
end Go.V

