/-
  The functions that the law reaches: what each gives.
-/
import Derived.Test.YtikcmlkjnlcboaaGreatEF
import Derived.Test.YtikcmlkjnlcboaaGreatEP
set_option linter.unusedVariables false
set_option linter.unusedSimpArgs false
set_option maxRecDepth 1000000
set_option maxHeartbeats 4000000
set_option linter.unusedVariables false
set_option linter.unusedSimpArgs false
namespace Go.V
open Go
theorem zbd {x0:List Int} (h:x0.length≤1099511627776):z4i x0 (z40 x0):=z0da h
theorem z90 {x0:List Int}:z3i x0 (ze8 x0):=z01v
def cmpI (a b:Int):Int:=if a<b then -1 else if b<a then 1 else 0
def cmpL:List Int→List Int→Int
 |[],[]=>0
 |[],_::_=>-1
 |_::_,[]=>1
 |a::x,b::y=>if a<b then -1 else if b<a then 1 else cmpL x y
def cmpF (a b:z00):Int:=if a.1<b.1 then -1 else if b.1<a.1 then 1 else cmpL a.2.1 b.2.1
theorem cmpL_zero:∀ {x y:List Int},cmpL x y=0↔x=y
 |[],[]=>by simp[cmpL]
 |[],b::y=>by simp[cmpL]
 |a::x,[]=>by simp[cmpL]
 | a::x,b::y=>by
   unfold cmpL
   split
   · rename_i h;constructor
     · intro h';cases h'
     · intro h';cases h';omega
   · split
     · rename_i h;constructor
       · intro h';cases h'
       · intro h';cases h';omega
     · rw[cmpL_zero]
       have:a=b:=by omega
       simp[this]
theorem cmpF_zero {x y:z00}:cmpF x y=0↔x=y:=by
 obtain⟨a,b,u⟩:=x;obtain⟨a',b',u'⟩:=y
 unfold cmpF
 simp only
 split
 · rename_i h;constructor
   · intro h';cases h'
   · intro h';cases h';omega
 · split
   · rename_i h;constructor
     · intro h';cases h'
     · intro h';cases h';omega
   · rw[cmpL_zero]
     have:a=a':=by omega
     simp[this]
theorem z01t {x y:List Int} {i:Nat} (h:i<x.length) (h':i<y.length):cmpL (x.drop i) (y.drop i)=if x[i]<y[i] then -1 else if y[i]<x[i] then 1 else cmpL (x.drop (i+1)) (y.drop (i+1)):=by
 rw[z4e h,z4e h',cmpL]
theorem z063 {x y:List Int} {i:Nat} (h:x.length≤i):cmpL (x.drop i) (y.drop i)=if i<y.length then -1 else 0:=by
 rw[List.drop_of_length_le h]
 by_cases h':i<y.length
 · rw[z4e h',if_pos h'];rfl
 · rw[List.drop_of_length_le (by omega),if_neg h'];rfl
theorem cmpL_end' {x y:List Int} {i:Nat} (h:i<x.length) (h':y.length≤i):cmpL (x.drop i) (y.drop i)=1:=by
 rw[List.drop_of_length_le h',z4e h];rfl
theorem zmv {x y:List Int}:zfw x y (cmpL x y):=z0bx _ _ _ (by
 unfold z012
 refine z1v (fun k a=>∃ i:Nat,i+k=x.length∧a=((i:Int),())∧i≤y.length∧cmpL (x.drop i) (y.drop i)=cmpL x y) ?_ ?_ (n:=x.length) ⟨0,by omega,rfl,by omega,by simp⟩
 · rintro a ⟨i,hi,rfl,hy,hc⟩ X
   obtain rfl:i=x.length:=by omega
   rw[z063 (Nat.le_refl _)]at hc
   refine lenI fun h1=>bcN (lenI fun _=>lenI fun h2=>z0e (fun h=>?_) (fun h=>lenI fun _=>lenI fun _=>z0e (fun h'=>by omega) (fun h'=>?_)))
   · rw[if_pos (by omega)]at hc;rw[←hc]
   · rw[if_neg (by omega)]at hc;rw[←hc]
 · rintro k a ⟨i,hi,rfl,hy,hc⟩ X hX
   have hlt:i<x.length:=by omega
   refine lenI fun h1=>bcI hlt (lenI fun h2=>z0e (fun h=>?_) (fun h=>?_))
   · have hlt':i<y.length:=by omega
     refine inI hlt (inI hlt' ?_)
     simp only
     rw[getI hlt,getI hlt']
     rw[z01t hlt hlt']at hc
     refine z0e (fun h=>?_) (fun h=>inI hlt (inI hlt' (z0e (fun h'=>?_) (fun h'=>?_))))
     · rw[if_pos h]at hc;rw[←hc]
     · rw[if_neg h,if_pos h']at hc;rw[←hc]
     · rw[if_neg h,if_neg (by omega)]at hc
       rw[z03 (by omega)]
       exact hX _ ⟨i+1,by omega,rfl,by omega,hc⟩
   · simp only at h
     rw[cmpL_end' hlt (by omega)]at hc
     refine lenI fun _=>lenI fun _=>z0e (fun h'=>by omega) (fun h'=>lenI fun _=>lenI fun _=>z0e (fun h''=>?_) (fun h''=>by omega))
     rw[←hc])
theorem z96 {x y:z00}:z5f x y (cmpF x y):=ztm _ _ _ (by
 unfold zik cmpF
 refine z0e (fun h=>by rw[if_pos h]) (fun h=>z0e (fun h'=>by rw[if_neg h,if_pos h']) (fun h'=>⟨_,zmv,by rw[if_neg h,if_neg (by omega)]⟩)))
theorem zig {x:Int}:z9b x false:=zs8 _ _ (by unfold zib;simp)
theorem zfq {x y:Int}:z7l x y (cmpI x y):=zob _ _ _ (by
 unfold zg5 cmpI
 refine⟨_,zig,_,zig,bcF (bcF (z0e (fun h=>by rw[if_pos h]) (fun h=>z0e (fun h'=>by rw[if_neg h,if_pos h']) (fun h'=>by rw[if_neg h,if_neg h']))))⟩)
theorem cmpI_zero {a b:Int}:cmpI a b=0↔a=b:=by unfold cmpI;split<;>(try split)<;>omega
theorem zki {x y:List Int}:z85 x y (cmpL x y):=zkf _ _ _ (by
 unfold zcn
 refine lenI fun h1=>z1v (fun k a=>∃ i:Nat,i+k=x.length∧a=((i:Int),())∧cmpL (x.drop i) (y.drop i)=cmpL x y∧i≤y.length) ?_ ?_ (n:=x.length) ⟨0,by omega,rfl,by simp,by omega⟩
 · rintro a ⟨i,hi,rfl,hc,hy⟩ X
   obtain rfl:i=x.length:=by omega
   rw[z063 (Nat.le_refl _)]at hc
   refine bcN (lenI fun _=>lenI fun h2=>z0e (fun h=>?_) (fun h=>?_))
   · rw[if_pos (by omega)]at hc;rw[←hc]
   · rw[if_neg (by omega)]at hc;rw[←hc]
 · rintro k a ⟨i,hi,rfl,hc,hy⟩ X hX
   have hlt:i<x.length:=by omega
   refine bcI hlt (inI hlt (lenI fun h2=>z0e (fun h=>?_) (fun h=>?_)))
   · simp only at h
     rw[cmpL_end' hlt (by omega)]at hc
     rw[←hc]
   · simp only at h
     have hlt':i<y.length:=by omega
     refine inI hlt' ⟨_,zfq,?_⟩
     simp only
     rw[getI hlt,getI hlt']
     rw[z01t hlt hlt']at hc
     refine z5y (fun h=>?_) (fun h=>?_)
     · have hne:x[i]≠y[i]:=fun e=>h (cmpI_zero.mpr e)
       rw[←hc]
       unfold cmpI
       by_cases h3:x[i]<y[i]
       · rw[if_pos h3,if_pos h3]
       · rw[if_neg h3,if_neg h3,if_pos (by omega),if_pos (by omega)]
     · have he:=cmpI_zero.mp h
       rw[if_neg (by omega),if_neg (by omega)]at hc
       rw[z03 (by omega)]
       exact hX _ ⟨i+1,by omega,rfl,hc,by omega⟩)
def orL:List Int→Int
 |[]=>0
 |a::l=>if a=0 then orL l else a
theorem z00x {x:List Int}:zjf x (orL x):=z01b _ _ (by
 unfold zpn
 have key:∀ l:List Int,orL l=if h:z04 (fun t=>t != 0) l<l.length then l[z04 (fun t=>t != 0) l] else 0:=by
  intro l
  induction l with
  |nil=>simp[orL,z04]
  | cons a l ih=>
    unfold orL
    by_cases ha:a=0
    · rw[if_pos ha,ih]
      simp only[z04,ha,bne_self_eq_false,Bool.false_eq_true,if_false,List.length_cons,Nat.add_lt_add_iff_right,List.getElem_cons_succ]
    · rw[if_neg ha]
      have:(a != 0)=true:=by simpa using ha
      simp[z04,this]
 refine lenI fun hl=>zd4 x (fun t=>t != 0) (fun i=>((i:Int),())) (KT:=fun i=>∀ h:i<x.length,((x[i],()):Int×Unit)=(orL x,())) (KF:=(((0:Int),()):Int×Unit)=(orL x,())) ?_ ?_ ?_ ?_
 · intro i hi X h1 h2
   refine bcI hi (inI hi ?_)
   simp only
   rw[getI hi,z03 (by omega)]
   exact z1r (fun h=>h1 h hi) h2
 · intro X h;exact bcN h
 · intro h h';rw[key,dif_pos h]
 · intro h;rw[key,dif_neg (by omega)])
theorem z5h {x y:z00}:z3z x y (cmpF x y):=zt0 _ _ _ (by
 unfold zjm
 refine⟨_,zfq,_,zki,_,z00x,?_⟩
 have:orL [cmpI x.1 y.1,cmpL x.2.1 y.2.1]=cmpF x y:=by
  unfold cmpF
  by_cases h:x.1<y.1
  · have:cmpI x.1 y.1 = -1:=by unfold cmpI;rw[if_pos h]
    rw[if_pos h,this];rfl
  · rw[if_neg h]
    by_cases h':y.1<x.1
    · have:cmpI x.1 y.1=1:=by unfold cmpI;rw[if_neg h,if_pos h']
      rw[if_pos h',this];rfl
    · have:cmpI x.1 y.1=0:=by unfold cmpI;rw[if_neg h,if_neg h']
      rw[if_neg h',this]
      unfold orL
      rw[if_pos rfl]
      unfold orL
      by_cases h0:cmpL x.2.1 y.2.1=0
      · rw[if_pos h0,h0];rfl
      · rw[if_neg h0]
 rw[this])
theorem zly {x y:z00}:zgy x y (decide (x=y)):=z04z _ _ _ (by
 unfold zs1
 refine⟨_,z5h,?_⟩
 have:(cmpF x y == (0:Int))=decide (x=y):=by
  by_cases h:x=y
  · rw[cmpF_zero.mpr h];simp[h]
  · have:cmpF x y≠0:=fun e=>h (cmpF_zero.mp e)
    simp[h,this]
 rw[this])
def ins:List Int→Int→List Int
 |[],x=>[x]
 |a::l,x=>if a<x then a::ins l x else if a=x then a::l else x::a::l
def srt (l:List Int):Prop:=l.Pairwise (· < ·)
def sset (l:List Int):List Int:=l.foldl ins []
theorem mem_put {y x:Int}:∀ {l:List Int},y∈ins l x↔y=x∨y∈l
 |[]=>by simp[ins]
 | a::l=>by
   unfold ins
   split
   · rw[List.mem_cons,mem_put,List.mem_cons]
     constructor
     · rintro (h|h|h)<;>simp[h]
     · rintro (h|h|h)<;>simp[h]
   · split
     · rename_i h;subst h;simp
     · simp
theorem z0ck {x:Int}:∀ {l:List Int},srt l→srt (ins l x)
 |[],_=>by simp[ins,srt]
 | a::l,h=>by
   obtain⟨h1,h2⟩:=List.pairwise_cons.mp h
   unfold ins
   split
   · rename_i hlt
     refine List.pairwise_cons.mpr ⟨fun y hy=>?_,z0ck h2⟩
     rcases mem_put.mp hy with rfl|hy
     · exact hlt
     · exact h1 y hy
   · split
     · exact h
     · refine List.pairwise_cons.mpr ⟨fun y hy=>?_,h⟩
       rcases List.mem_cons.mp hy with rfl|hy
       · omega
       · have:=h1 y hy;omega
theorem z03l {l:List Int}:∀ {s:List Int},srt s→srt (l.foldl ins s)∧∀ y,y∈l.foldl ins s↔y∈s∨y∈l:=by
 induction l with
 |nil=>intro s h;exact⟨h,by simp⟩
 | cons a l ih=>
   intro s h
   obtain⟨h1,h2⟩:=ih (z0ck (x:=a) h)
   refine⟨h1,fun y=>?_⟩
   rw[List.foldl_cons,h2,mem_put,List.mem_cons]
   constructor
   · rintro ((h|h)|h)<;>simp[h]
   · rintro (h|h|h)<;>simp[h]
theorem zn1 (l:List Int):srt (sset l):=(z03l List.Pairwise.nil).1
theorem mem_sset {l:List Int} {y:Int}:y∈sset l↔y∈l:=by have:=(z03l (l:=l) List.Pairwise.nil).2 y;simpa [sset]using this
theorem z09r:∀ {a b:List Int},srt a→srt b→(∀ y,y∈a↔y∈b)→a=b
 |[],[],_,_,_=>rfl
 |[],y::b,_,_,h=>by have:=(h y).mpr (by simp);simp at this
 |x::a,[],_,_,h=>by have:=(h x).mp (by simp);simp at this
 | x::a,y::b,ha,hb,h=>by
   obtain⟨ha1,ha2⟩:=List.pairwise_cons.mp ha
   obtain⟨hb1,hb2⟩:=List.pairwise_cons.mp hb
   have hxy:x=y:=by
    rcases List.mem_cons.mp ((h x).mp (by simp))with e|hx
    · exact e
    · rcases List.mem_cons.mp ((h y).mpr (by simp))with e|hy
      · exact e.symm
      · have:=ha1 y hy;have:=hb1 x hx;omega
   subst hxy
   congr 1
   refine z09r ha2 hb2 fun z=>⟨fun hz=>?_,fun hz=>?_⟩
   · rcases List.mem_cons.mp ((h z).mp (by simp[hz]))with e|h'
     · have:=ha1 z hz;omega
     · exact h'
   · rcases List.mem_cons.mp ((h z).mpr (by simp[hz]))with e|h'
     · have:=hb1 z hz;omega
     · exact h'
theorem z0b3 {a l:List Int} (h1:srt a) (h2:∀ y,y∈a↔y∈l):a=sset l:=z09r h1 (zn1 l) fun y=>by rw[h2,mem_sset]
theorem z00e {l m:List Int}:(sset m).foldl ins (sset l)=sset (l++m):=by
 obtain⟨h1,h2⟩:=z03l (l:=sset m) (zn1 l)
 exact z0b3 h1 fun y=>by rw[h2,mem_sset,mem_sset,List.mem_append]
theorem z02s {l:List Int} {x:Int}:ins (sset l) x=sset (l++[x]):=by unfold sset;rw[List.foldl_append];rfl
theorem z0bc (l:List Int) (x:Int):(ins l x).length≤l.length+1:=by
 induction l with
 |nil=>simp[ins]
 |cons a l ih=>unfold ins;split;simp;omega;split<;>simp
theorem z05f (l:List Int):(sset l).length≤l.length:=by
 have:∀(l s:List Int),(l.foldl ins s).length≤s.length+l.length:=by
  intro l
  induction l with
  |nil=>intro s;simp
  |cons a l ih=>intro s;have:=ih (ins s a);have:=z0bc s a;simp only[List.foldl_cons,List.length_cons];omega
 have:=this l []
 simpa [sset]using this
theorem z01z {l:List Int} {a:Int}:∀ {n:Nat},srt l→(∀ y∈l,a≤y∧y<a+n)→l.length≤n:=by
 induction l generalizing a with
 |nil=>intro n _ _;simp
 | cons x l ih=>
   intro n h hr
   obtain⟨h1,h2⟩:=List.pairwise_cons.mp h
   have hx:=hr x (by simp)
   have:=ih (a:=x+1) (n:=(a+n - (x+1)).toNat) h2 fun y hy=>by
    have:=h1 y hy;have:=hr y (by simp[hy]);omega
   simp only[List.length_cons];omega
theorem z0fg {l:List Int} (h:srt l) (hne:l≠[]):∀ y∈l,y≤l.getLast hne:=by
 intro y hy
 have hs:l=l.dropLast++[l.getLast hne]:=(List.dropLast_concat_getLast hne).symm
 rw[hs]at h hy
 unfold srt at h
 rw[List.pairwise_append]at h
 rcases List.mem_append.mp hy with hy|hy
 · have:=h.2.2 y hy (l.getLast hne) (by simp);omega
 · have:y=l.getLast hne:=by simpa using hy
   omega
theorem z0ip (l:List Int) (x:Int):ins l x=if h:z04 (fun a=>!decide (a<x)) l<l.length then(if l[z04 (fun a=>!decide (a<x)) l]=x then l else l.take (z04 (fun a=>!decide (a<x)) l)++x::l.drop (z04 (fun a=>!decide (a<x)) l))else l++[x]:=by
 induction l with
 |nil=>simp[ins,z04]
 | cons a l ih=>
   unfold ins
   by_cases ha:a<x
   · have e:z04 (fun a=>!decide (a<x)) (a::l)=z04 (fun a=>!decide (a<x)) l+1:=by simp[z04,ha]
     rw[if_pos ha,ih]
     by_cases hf:z04 (fun a=>!decide (a<x)) l<l.length
     · rw[dif_pos hf,dif_pos (by rw[e];simpa using hf)]
       simp only[e,List.getElem_cons_succ,List.take_succ_cons,List.drop_succ_cons]
       split
       · rfl
       · rfl
     · rw[dif_neg hf,dif_neg (by rw[e];simpa using hf)]
       rfl
   · have e:z04 (fun a=>!decide (a<x)) (a::l)=0:=by simp[z04,ha]
     rw[if_neg ha,dif_pos (by rw[e];simp)]
     simp only[e,List.getElem_cons_zero,List.take_zero,List.drop_zero,List.nil_append]
theorem zzx {l:List Int} {x:Int} (hl:l.length≤1073741824):zmz l x (ins l x):=z0fx _ _ _ (by
 unfold z05k
 have fin:∀(k:Nat),k≤l.length→((0≤(k:Int)∧(k:Int)≤(List.length l:Int)∧(List.length l:Int)≤(List.length l:Int))∧(([x]:List Int).length+(List.drop (Int.toNat (k:Int)) (List.take (Int.toNat (List.length l:Int)) l)).length≤maxL∧((0≤(0:Int)∧(0:Int)≤(k:Int)∧(k:Int)≤(List.length l:Int))∧(([]:List Int).length+(List.drop (Int.toNat (0:Int)) (List.take (Int.toNat (k:Int)) l)).length≤maxL∧((([]:List Int)++(List.drop (Int.toNat (0:Int)) (List.take (Int.toNat (k:Int)) l))).length+(([x]:List Int)++(List.drop (Int.toNat (k:Int)) (List.take (Int.toNat (List.length l:Int)) l))).length≤maxL∧(((([]:List Int)++(List.drop (Int.toNat (0:Int)) (List.take (Int.toNat (k:Int)) l)))++(([x]:List Int)++(List.drop (Int.toNat (k:Int)) (List.take (Int.toNat (List.length l:Int)) l))),()):List Int×Unit)=(l.take k++x::l.drop k,()))))) ):=by
  intro k hk
  simp only[Int.toNat_natCast,List.take_length,Int.toNat_zero,List.drop_zero,List.nil_append,List.length_nil,List.length_cons,List.length_append,List.length_take,List.length_drop,maxL,List.cons_append]
  refine⟨⟨by omega,by omega,by omega⟩,by omega,⟨by omega,by omega,by omega⟩,by omega,by omega,trivial⟩
 rw[z0ip]
 refine zd4 l (fun a=>!decide (a<x)) (fun i=>((i:Int),())) (KT:=fun i=>∀ h:i<l.length,∀ r:List Int×Unit,r=(if l[i]=x then l else l.take i++x::l.drop i,())→r=((if h:z04 (fun a=>!decide (a<x)) l<l.length then(if l[z04 (fun a=>!decide (a<x)) l]=x then l else l.take (z04 (fun a=>!decide (a<x)) l)++x::l.drop (z04 (fun a=>!decide (a<x)) l))else l++[x]),()))
  (KF:=∀ r:List Int×Unit,r=(l++[x],())→r=((if h:z04 (fun a=>!decide (a<x)) l<l.length then(if l[z04 (fun a=>!decide (a<x)) l]=x then l else l.take (z04 (fun a=>!decide (a<x)) l)++x::l.drop (z04 (fun a=>!decide (a<x)) l))else l++[x]),())) ?_ ?_ ?_ ?_
 · intro i hi X h1 h2
   refine lenI fun hl'=>bcI hi (inI hi ?_)
   simp only
   rw[getI hi,z03 (by omega)]
   refine z0e (fun h=>h2 (by simpa using h)) (fun h=>?_)
   have h1:=h1 (by simpa using h) hi
   refine lenI fun _=>bcI hi (inI hi (z3j (fun he=>h1 _ (by rw[if_pos he])) (fun he=>?_)))
   rw[if_neg he]at h1
   have:=fin i (by omega)
   exact⟨this.1,this.2.1,this.2.2.1,this.2.2.2.1,this.2.2.2.2.1,h1 _ this.2.2.2.2.2⟩
 · intro X h
   refine lenI fun hl'=>bcN (lenI fun _=>bcN ?_)
   have:=fin l.length (by omega)
   refine⟨this.1,this.2.1,this.2.2.1,this.2.2.2.1,this.2.2.2.2.1,h _ (this.2.2.2.2.2.trans (by simp))⟩
 · intro h h' r hr;rw[hr,dif_pos h]
 · intro h r hr;rw[hr,dif_neg (by omega)])
theorem zrc {l:List Int} {x:Int}:zjz l x (decide (x∈l)):=z0f1 _ _ _ (by
 unfold z06s
 refine z7u l (fun a=>x == a) (fun i=>((i:Int),())) (KT:=((true,()):Bool×Unit)=(decide (x∈l),())) (KF:=((false,()):Bool×Unit)=(decide (x∈l),())) ?_ (fun X h=>lenI fun _=>bcN h) (fun h=>?_) (fun h=>?_)
 · intro i hi X h1 h2
   refine lenI fun _=>bcI hi (inI hi ?_)
   simp only
   rw[getI hi,z03 (by omega)]
   exact z3j (fun h=>h1 (by simp[h])) (fun h=>h2 (by simpa using fun e=>h e.symm))
 · rw[zt1]at h;rw[h]
 · rw[zt1]at h;rw[h])
theorem z00y {l:List Int} {y:Int}:y∈z40 l↔y∈l:=by unfold z40;simp
theorem z01r (l:List Int):(z40 l).Pairwise (·≤·):=by
 unfold z40
 have:=List.pairwise_mergeSort (le:=fun a b:Int=>decide (a≤b)) (fun a b c h1 h2=>by simp at *;omega) (fun a b=>by simp;omega) l
 exact this.imp fun h=>by simpa using h
theorem z008 (l:List Int):ze8 (z40 l)=sset l:=by
 have hs:=z01r l
 have hget:∀ i j (hi:i<(z40 l).length) (hj:j<(z40 l).length),i≤j→(z40 l)[i]≤(z40 l)[j]:=by
  intro i j hi hj h
  rcases Nat.lt_or_ge i j with h|h
  · exact List.pairwise_iff_getElem.mp hs i j hi hj h
  · have:i=j:=by omega
    subst this;omega
 have ex:ze8 (z40 l)=((List.range (z40 l).length).filter (Lib.keeps (z40 l).toArray)).map ((z40 l).toArray[·]!):=rfl
 refine z0b3 ?_ ?_
 · rw[ex]
   unfold srt
   rw[List.pairwise_map,List.pairwise_filter]
   refine List.Pairwise.imp_of_mem (R:=(· < ·)) ?_ List.pairwise_lt_range
   intro i j hi hj hij _ kj
   have hi:=List.mem_range.mp hi;have hj:=List.mem_range.mp hj
   have e1:(z40 l).toArray[i]! = (z40 l)[i]:=by simp[hi]
   have e2:(z40 l).toArray[j]! = (z40 l)[j]:=by simp[hj]
   have e3:(z40 l).toArray[j - 1]! = (z40 l)[j - 1]'(by omega):=by rw[getElem!_pos (z40 l).toArray (j - 1) (by simp;omega)];rfl
   rw[e1,e2]
   unfold Lib.keeps at kj
   rw[e2,e3]at kj
   have h1:=hget i (j - 1) hi (by omega) (by omega)
   have h2:=hget (j - 1) j (by omega) hj (by omega)
   rcases of_decide_eq_true kj with h|h
   · omega
   · omega
 · intro y
   rw[ex,List.mem_map]
   constructor
   · rintro⟨j,hj,rfl⟩
     have hj:=List.mem_range.mp (List.mem_filter.mp hj).1
     have e:(z40 l).toArray[j]! = (z40 l)[j]:=by simp[hj]
     rw[e,←z00y];exact List.getElem_mem hj
   · intro hy
     rw[←z00y]at hy
     have hf:z04 (fun t=>t == y) (z40 l)<(z40 l).length:=firstAt_any.mpr (List.any_eq_true.mpr ⟨y,hy,by simp⟩)
     have h2:=zae hf
     have h3:(z40 l)[z04 (fun t=>t == y) (z40 l)]=y:=by simpa using h2
     refine⟨z04 (fun t=>t == y) (z40 l),List.mem_filter.mpr ⟨List.mem_range.mpr hf,?_⟩,by simp[hf,h3]⟩
     unfold Lib.keeps
     rw[decide_eq_true_iff]
     by_cases h0:z04 (fun t=>t == y) (z40 l)=0
     · exact .inl h0
     · right
       have hlt:z04 (fun t=>t == y) (z40 l) - 1<(z40 l).length:=by omega
       have h4:=zan (p:=fun t=>t == y) (l:=z40 l) hlt (by omega)
       have e1:(z40 l).toArray[z04 (fun t=>t == y) (z40 l)]! = y:=by simp[hf,h3]
       have e2:(z40 l).toArray[z04 (fun t=>t == y) (z40 l) - 1]! = (z40 l)[z04 (fun t=>t == y) (z40 l) - 1]:=by simp[hlt]
       rw[e1,e2]
       intro e
       rw[←e]at h4;simp at h4
def inR (x a b:Int):Bool:=decide (a≤x)&&decide (x≤b)
theorem z3t {α:Type} {p:α→Bool} {l:List α}:(l.any fun t=>!p t) = !(l.all p):=by
 induction l with
 |nil=>rfl
 |cons a l ih=>simp only[List.any_cons,List.all_cons,ih];cases p a<;>simp
theorem nt {b:Bool} (h:(!b)=true):b=false:=by simpa using h
theorem nf {b:Bool} (h:(!b)=false):b=true:=by simpa using h
theorem zoa {α β:Type} (f:α→List β) {l:List α} {i:Nat} (h:i<l.length):(l.flatMap f).length=((l.take i).flatMap f).length+((f l[i]).length+((l.drop (i+1)).flatMap f).length):=by
 have e:l=l.take i++l[i]::l.drop (i+1):=by rw[←z4e h,List.take_append_drop]
 have:=congrArg (fun m=>(m.flatMap f).length) e
 simp only[List.flatMap_append,List.flatMap_cons,List.length_append]at this
 exact this
theorem inR_iff {x a b:Int}:inR x a b=true↔a≤x∧x≤b:=by simp[inR]
theorem z0ga:∀ {a b:List UInt8},(Op.bytesLess b a||b == a) = !(Op.bytesLess a b)
 |[],[]=>by decide
 |[],y::b=>by simp[Op.bytesLess]
 |x::a,[]=>by simp[Op.bytesLess]
 | x::a,y::b=>by
   have ih:=z0ga (a:=a) (b:=b)
   simp only[Op.bytesLess]
   by_cases h:y<x
   · have h2:¬ x<y:=UInt8.lt_asymm h
     have h3:¬ x=y:=by rintro rfl;exact UInt8.lt_irrefl _ h
     simp[h,h2,h3]
   · by_cases h2:x<y
     · have h3:¬ y=x:=by rintro rfl;exact h h2
       simp[h,h2,h3]
     · have h3:x=y:=UInt8.le_antisymm (UInt8.not_lt.mp h) (UInt8.not_lt.mp h2)
       subst h3
       simp only[h,decide_false,beq_self_eq_true,Bool.true_and,Bool.false_or]
       rw[←ih]
       by_cases h4:b=a<;>simp[h4]
def vRel (r:TRel):Bool:=(r.1.length == 1)&&decide (97≤(r.1.getD 0 0).toNat)&&decide ((r.1.getD 0 0).toNat≤122)&&inR r.2.1 1 3
def zgv (l:List TRel) (i:Nat):TRel:=l.getD i zRel
def zcc (l:List TRel):Bool:=((List.range l.length).all fun i=>vRel (zgv l i)&&(i == 0||Op.bytesLess (zgv l (i - 1)).1 (zgv l i).1))&&decide (l.length≤6)
theorem zht {l:List TRel} {i:Nat} (h:i<l.length):zgv l i=l[i]:=z0r h
theorem z0ae {l:List TRel} (h:zcc l=true) {r:TRel} (hr:r∈l):vRel r=true:=by
 unfold zcc at h
 rw[Bool.and_eq_true]at h
 obtain⟨i,hi,rfl⟩:=List.mem_iff_getElem.mp hr
 have:=List.all_eq_true.mp h.1 i (List.mem_range.mpr hi)
 rw[Bool.and_eq_true,zht hi]at this
 exact this.1
theorem zu5 {l:List TRel} (h:zcc l=true):l.length≤6:=by
 unfold zcc at h;simp at h;exact h.2
theorem z07l {r:TRel} (h:vRel r=true):1≤r.2.1∧r.2.1≤3:=by
 unfold vRel at h;simp[inR]at h;exact h.2
def z01j (l:List TRel) (i:Int):Int:=(l.getD (Int.toNat i) zRel).2.1
def z94 (l:List TRel) (i:Int):Bool:=(l.getD (Int.toNat i) zRel).2.2.1
def vRow (ok:Int→Bool) (l:List TRel) (a:z00):Bool:=zcc l&&inR a.1 0 ((l.length:Int) - 1)&&((a.2.1.length:Int) == z01j l a.1)&&a.2.1.all ok
theorem z1j {ok:Int→Bool} {l:List TRel} {a:z00} (h:vRow ok l a=true):zcc l=true∧0≤a.1∧a.1<l.length∧(a.2.1.length:Int)=z01j l a.1∧a.2.1.length≤3∧∀ v∈a.2.1,ok v=true:=by
 unfold vRow at h
 simp only[Bool.and_eq_true,beq_iff_eq,List.all_eq_true]at h
 obtain⟨⟨⟨h1,h2⟩,h3⟩,h4⟩:=h
 have h2:=inR_iff.mp h2
 have hlt:a.1.toNat<l.length:=by omega
 have:=z07l (z0ae h1 (List.getElem_mem hlt))
 have e:z01j l a.1=l[a.1.toNat].2.1:=by unfold z01j;rw[z0r hlt]
 exact⟨h1,h2.1,by omega,h3,by omega,h4⟩
def z07a (t:Int):Bool:=inR t (-10) 4
def z6s (l:List TRel) (a:z00):Bool:=vRow z07a l a
def vars (l:List z00):List Int:=sset ((l.flatMap (·.2.1)).filter fun t=>decide (0≤t))
def vDep (l:List TRel) (d:TDep):Bool:=inR d.1.length 1 2&&d.1.all (z6s l) &&
 (if d.2.2.1 then decide (d.2.1=[])&&decide (d.2.2.2.1∈vars d.1)&&decide (d.2.2.2.2.1∈vars d.1)&&decide (d.2.2.2.1<d.2.2.2.2.1)
  else d.2.1.all (fun a=>z6s l a && !(z94 l a.1))&&inR d.2.1.length 1 2&&(d.2.2.2.1 == 0)&&(d.2.2.2.2.1 == 0))
def zp5 (l:List TRel) (ds:List TDep):Bool:=ds.all (vDep l)&&zcc l&&decide (ds.length≤5)
def exV (d:TDep):List Int:=(vars d.2.1).filter fun v=>!decide (v∈vars d.1)
def frV (d:TDep):List Int:=(vars d.2.1).filter fun v=>decide (v∈vars d.1)
theorem znf {l:List TRel} {ats:List z00} (h:ats.all (z6s l)=true):(ats.flatMap (·.2.1)).length≤3 * ats.length:=by
 induction ats with
 |nil=>simp
 | cons a ats ih=>
   simp only[List.all_cons,Bool.and_eq_true]at h
   have h1:=(z1j h.1).2.2.2.2.1
   have:=ih h.2
   simp only[List.flatMap_cons,List.length_append,List.length_cons]
   omega
theorem zk9 (l:List z00):(vars l).length≤(l.flatMap (·.2.1)).length:=Nat.le_trans (z05f _) (List.length_filter_le _ _)
theorem zf9 {x a b:Int}:zc9 x a b (inR x a b):=z0gt _ _ _ _ (by
 unfold z0df inR
 refine z0e (fun h=>?_) (fun h=>?_)
 · rw[decide_eq_true (show a≤x from h),Bool.true_and]
 · rw[decide_eq_false (show ¬ a≤x from h),Bool.false_and])
theorem z88 {x a b:Int}:z6b x a b (inR x a b):=z0b1 _ _ _ _ (by
 unfold z01y inR
 refine z0e (fun h=>?_) (fun h=>?_)
 · rw[decide_eq_true h,Bool.true_and]
 · rw[decide_eq_false h,Bool.false_and])
theorem zmh {r:TRel}:za0 r (vRel r):=znn _ _ (by
 unfold zer
 have no:∀ {b:Bool},vRel r=b→((b,()):Bool×Unit)=(vRel r,()):=fun h=>by rw[h]
 refine lenI fun _=>z3j (fun h=>?_) (fun h=>no ?_)
 · have h1:r.1.length=1:=by omega
   refine⟨⟨by omega,by omega⟩,?_⟩
   refine z0e (fun h2=>⟨⟨by omega,by omega⟩,z0e (fun h3=>⟨_,zf9,no ?_⟩) (fun h3=>no ?_)⟩) (fun h2=>no ?_)
   · unfold vRel
     have a1:decide (97≤(r.1.getD 0 0).toNat)=true:=decide_eq_true (by have h2:(97:Int)≤((r.1.getD 0 0).toNat:Int):=h2;omega)
     have a2:decide ((r.1.getD 0 0).toNat≤122)=true:=decide_eq_true (by have h3:((r.1.getD 0 0).toNat:Int)≤122:=h3;omega)
     rw[a1,a2];simp[h1]
   · unfold vRel
     have a2:decide ((r.1.getD 0 0).toNat≤122)=false:=decide_eq_false (by have h3:¬ ((r.1.getD 0 0).toNat:Int)≤122:=h3;omega)
     rw[a2];simp
   · unfold vRel
     have a1:decide (97≤(r.1.getD 0 0).toNat)=false:=decide_eq_false (by have h2:¬ (97:Int)≤((r.1.getD 0 0).toNat:Int):=h2;omega)
     rw[a1];simp
 · unfold vRel
   have:(r.1.length == 1)=false:=by simp;omega
   rw[this];simp)
theorem z067 {l:List TRel} {i:Nat} (h:i<l.length) (hp:(vRel (zgv l i)&&(i == 0||Op.bytesLess (zgv l (i - 1)).1 (zgv l i).1))=false):zcc l=false:=by
 unfold zcc
 rw[Bool.and_eq_false_iff];left
 rw[Bool.eq_false_iff];intro hall
 have:=List.all_eq_true.mp hall i (List.mem_range.mpr h)
 rw[hp]at this;cases this
theorem z00l {l:List TRel} (hp:∀ i,i<l.length→(!(vRel (zgv l i)&&(i == 0||Op.bytesLess (zgv l (i - 1)).1 (zgv l i).1)))=false):zcc l=decide (l.length≤6):=by
 unfold zcc
 have:((List.range l.length).all fun i=>vRel (zgv l i)&&(i == 0||Op.bytesLess (zgv l (i - 1)).1 (zgv l i).1))=true:=
  List.all_eq_true.mpr fun i hi=>by have:=hp i (List.mem_range.mp hi);rwa [Bool.not_eq_false']at this
 rw[this,Bool.true_and]
theorem z4w {l:List TRel}:z2o l (zcc l):=zkn _ _ (by
 unfold zcl
 refine zb6 l.length (fun i=>!(vRel (zgv l i)&&(i == 0||Op.bytesLess (zgv l (i - 1)).1 (zgv l i).1))) (fun i=>((i:Int),())) (KT:=((false,()):Bool×Unit)=(zcc l,())) (KF:=((decide ((List.length l:Int)≤6),()):Bool×Unit)=(zcc l,())) ?_ (fun X h=>lenI fun _=>bcN (lenI fun _=>h)) ?_ ?_
 · intro i hi X hb h1 h2
   refine lenI fun hl=>bcI hi (inI hi ⟨_,zmh,?_⟩)
   simp only
   rw[getI hi,z03 (by omega)]
   rw[zht hi]at h1 h2
   refine z0m (fun h=>h1 (by simp[h])) (fun h=>z0e (fun h0=>?_) (fun h0=>h2 (by obtain rfl:i=0:=(by omega);simp[h])))
   have hi':i - 1<l.length:=by omega
   have hw:w64 ((i:Int) - 1)=((i - 1:Nat):Int):=by rw[z1g (by omega) (by omega)];omega
   rw[hw]
   refine inI hi' (inI hi ?_)
   rw[getI hi']
   rw[zht hi']at h1 h2
   have hz:(i == 0)=false:=by simp;omega
   rw[hz,Bool.false_or,h,Bool.true_and]at h1 h2
   exact z1r (fun h=>h1 h) (fun h=>h2 h)
 · rintro⟨i,hi,hp⟩
   rw[z067 hi (by rwa [Bool.not_eq_true']at hp)]
 · intro hp
   rw[z00l hp]
   congr 1
   exact decide_eq_decide.mpr (by omega))
theorem zn6 {r:TRel}:z9y r (vRel r):=znk _ _ (by
 unfold zes
 have no:∀ {b:Bool},vRel r=b→((b,()):Bool×Unit)=(vRel r,()):=fun h=>by rw[h]
 refine lenI fun _=>z3j (fun h=>?_) (fun h=>no ?_)
 · have h1:r.1.length=1:=by omega
   obtain⟨c,hc⟩:∃ c,r.1=[c]:=List.length_eq_one_iff.mp h1
   rw[hc]
   have e1:(!(Op.bytesLess [c] [97]))=decide (97≤c.toNat):=by
    simp only[Op.bytesLess,Bool.and_false,Bool.or_false]
    by_cases h:c<97
    · have:c.toNat<97:=h
      simp[h];omega
    · have:¬ c.toNat<97:=h
      simp[h];omega
   have e2:(Op.bytesLess [c] [122]||[c] == [122])=decide (c.toNat≤122):=by
    simp only[Op.bytesLess,Bool.and_false,Bool.or_false]
    by_cases h:c<122
    · have:c.toNat<122:=h
      simp[h];omega
    · have:¬ c.toNat<122:=h
      by_cases h2:c=122
      · subst h2;simp
      · have h3:c.toNat≠122:=fun e=>h2 (UInt8.toNat_inj.mp e)
        have d2:([c] == [(122:UInt8)])=false:=by simp[h2]
        rw[decide_eq_false h,d2,decide_eq_false (by omega)];rfl
   rw[e1,e2]
   refine z0e (fun h2=>z0e (fun h3=>⟨_,z88,no ?_⟩) (fun h3=>no ?_)) (fun h2=>no ?_)
   · unfold vRel;rw[hc];simp[h2,h3]
   · unfold vRel;rw[hc]
     show((1 == 1)&&decide (97≤c.toNat)&&decide (c.toNat≤122)&&inR r.2.1 1 3)=false
     rw[decide_eq_false h3];simp
   · unfold vRel;rw[hc]
     show((1 == 1)&&decide (97≤c.toNat)&&decide (c.toNat≤122)&&inR r.2.1 1 3)=false
     rw[decide_eq_false h2];simp
 · unfold vRel
   have:(r.1.length == 1)=false:=by simp;omega
   rw[this];simp)
theorem z4x {l:List TRel}:z2q l (zcc l):=zkm _ _ (by
 unfold zci
 refine lenI fun hl=>zb6 l.length (fun i=>!(vRel (zgv l i)&&(i == 0||Op.bytesLess (zgv l (i - 1)).1 (zgv l i).1))) (fun i=>((i:Int),())) (KT:=((false,()):Bool×Unit)=(zcc l,())) (KF:=((decide ((List.length l:Int)≤6),()):Bool×Unit)=(zcc l,())) ?_ (fun X h=>bcN (lenI fun _=>h)) ?_ ?_
 · intro i hi X hb h1 h2
   refine bcI hi (inI hi ⟨_,zn6,?_⟩)
   simp only
   rw[getI hi,z03 (by omega)]
   rw[zht hi]at h1 h2
   refine z0m (fun h=>h1 (by simp[h])) (fun h=>z0e (fun h0=>?_) (fun h0=>h2 (by obtain rfl:i=0:=(by omega);simp[h])))
   have hi':i - 1<l.length:=by omega
   have hw:w64 ((i:Int) - 1)=((i - 1:Nat):Int):=by rw[z1g (by omega) (by omega)];omega
   rw[hw]
   refine inI hi' ?_
   rw[getI hi']
   rw[zht hi']at h1 h2
   have hz:(i == 0)=false:=by simp;omega
   rw[hz,Bool.false_or,h,Bool.true_and]at h1 h2
   rw[z0ga]
   exact z1r (fun h=>h1 h) (fun h=>h2 h)
 · rintro⟨i,hi,hp⟩
   rw[z067 hi (by rwa [Bool.not_eq_true']at hp)]
 · intro hp
   rw[z00l hp]
   congr 1
   exact decide_eq_decide.mpr (by omega))
theorem row_start {l:List TRel} {a:z00} (h:inR a.1 0 (w64 ((l.length:Int) - 1))=true) (hl:(l.length:Int)≤9223372036854775807):0≤a.1∧a.1<(l.length:Int):=by
 have:=inR_iff.mp h
 rw[z1g (by omega) (by omega)]at this
 omega
theorem row_range {l:List TRel} {a:z00} (hl:(l.length:Int)≤9223372036854775807):inR a.1 0 (w64 ((l.length:Int) - 1))=inR a.1 0 ((l.length:Int) - 1):=by
 rw[z1g (by omega) (by omega)]
theorem row_no1 {ok:Int→Bool} {l:List TRel} {a:z00} (h:zcc l=false):((false,()):Bool×Unit)=(vRow ok l a,()):=by unfold vRow;rw[h];simp
theorem row_no2 {ok:Int→Bool} {l:List TRel} {a:z00} (hl:(l.length:Int)≤9223372036854775807) (h:inR a.1 0 (w64 ((l.length:Int) - 1))=false):((false,()):Bool×Unit)=(vRow ok l a,()):=by
 rw[row_range hl]at h;unfold vRow;rw[h];simp
theorem row_no3 {ok:Int→Bool} {l:List TRel} {a:z00} (h:(a.2.1.length:Int)≠(l.getD (Int.toNat a.1) zRel).2.1):((false,()):Bool×Unit)=(vRow ok l a,()):=by
 have:((a.2.1.length:Int) == z01j l a.1)=false:=by simpa [z01j]using h
 unfold vRow;rw[this];simp
theorem row_yes {ok:Int→Bool} {l:List TRel} {a:z00} {b:Bool} (hl:(l.length:Int)≤9223372036854775807) (h1:zcc l=true) (h2:inR a.1 0 (w64 ((l.length:Int) - 1))=true) (h3:(a.2.1.length:Int)=(l.getD (Int.toNat a.1) zRel).2.1) (hb:b=a.2.1.all ok):((b,()):Bool×Unit)=(vRow ok l a,()):=by
 rw[row_range hl]at h2
 have:((a.2.1.length:Int) == z01j l a.1)=true:=by simpa [z01j]using h3
 unfold vRow;rw[h1,h2,this,hb];simp
theorem zfh {l:List TRel} {a:z00}:z8o l a (z6s l a):=zvo _ _ _ (by
 unfold zla z6s
 refine⟨_,z4w,z0m (fun h=>row_no1 h) (fun h1=>lenI fun hl=>⟨_,zf9,z0m (fun h=>row_no2 hl h) (fun h2=>lenI fun hl2=>⟨row_start h2 hl,z5y (fun h=>row_no3 h) (fun h3=>?_)⟩)⟩)⟩
 refine z7u a.2.1 (fun t=>!z07a t) (fun i=>((i:Int),())) (KT:=((false,()):Bool×Unit)=(vRow z07a l a,())) (KF:=((true,()):Bool×Unit)=(vRow z07a l a,())) ?_ (fun X h=>lenI fun _=>bcN h) ?_ ?_
 · intro i hi X q1 q2
   refine lenI fun _=>bcI hi (inI hi ⟨_,zf9,?_⟩)
   simp only
   rw[getI hi,z03 (by omega)]
   exact z1r (fun h=>q1 h) (fun h=>q2 h)
 · intro h;exact row_yes hl h1 h2 h3 (by rw[z3t]at h;exact(nt h).symm)
 · intro h;exact row_yes hl h1 h2 h3 (by rw[z3t]at h;exact(nf h).symm))
theorem zqt {t:Int}:z48 t (!z07a t):=zqj _ _ (by unfold zhg;exact⟨_,z88,rfl⟩)
theorem zvw {l:List TRel} {a:z00}:zf2 l a (z6s l a):=zvs _ _ _ (by
 unfold zkw z6s
 refine⟨_,z4x,z0m (fun h=>row_no1 h) (fun h1=>lenI fun hl=>⟨_,z88,z0m (fun h=>row_no2 hl h) (fun h2=>lenI fun hl2=>⟨row_start h2 hl,z5y (fun h=>row_no3 h) (fun h3=>?_)⟩)⟩)⟩
 exact⟨_,z69 (fun t=>!z07a t) (fun _ _=>zqt),row_yes hl h1 h2 h3 (by rw[z3t];simp)⟩)
theorem zbh {l:List z00} (hl:(l.flatMap (·.2.1)).length≤1073741824):z78 l (vars l):=z00a _ _ (by
 unfold zp8
 refine z1t l.length (fun i=>((i:Int),(vars (l.take i),()))) (by simp[vars,sset]) ?_ ?_
 · intro i hi X hX
   refine lenI fun hl1=>bcI hi ?_
   simp only
   rw[getI hi]
   have hsub:((l.take i).flatMap (·.2.1)).length+l[i].2.1.length≤1073741824:=by
    have:=zoa (·.2.1) hi
    omega
   have hset:∀ j,j≤l[i].2.1.length→(sset (((l.take i).flatMap (·.2.1)++l[i].2.1.take j).filter fun t=>decide (0≤t))).length≤1073741824:=by
    intro j hj
    refine Nat.le_trans (z05f _) (Nat.le_trans (List.length_filter_le _ _) ?_)
    rw[List.length_append,List.length_take];omega
   refine z1t l[i].2.1.length (fun j=>(sset (((l.take i).flatMap (·.2.1)++l[i].2.1.take j).filter fun t=>decide (0≤t)),((j:Int),()))) (by simp[vars]) ?_ ?_
   · intro j hj Y hY
     refine inI hi (lenI fun _=>bcI hj (inI hi (inI hj ?_)))
     simp only
     rw[getI hj,z03 (by omega)]
     have e:((l.take i).flatMap (·.2.1)++l[i].2.1.take (j+1)).filter (fun t=>decide (0≤t))=((l.take i).flatMap (·.2.1)++l[i].2.1.take j).filter (fun t=>decide (0≤t))++(if 0≤l[i].2.1[j] then[l[i].2.1[j]] else[]):=by
      rw[z07 hj,←List.append_assoc,List.filter_append]
      by_cases h:0≤l[i].2.1[j]<;>simp[h]
     rw[e]at hY
     refine z0e (fun h=>inI hi (inI hj ⟨_,zzx (hset j (by omega)),?_⟩)) (fun h=>?_)
     · have h:0≤l[i].2.1[j]:=h
       rw[if_pos h]at hY
       rw[z02s];exact hY
     · have h:¬ 0≤l[i].2.1[j]:=h
       rw[if_neg h,List.append_nil]at hY;exact hY
   · intro Y
     refine inI hi (lenI fun _=>bcN ?_)
     simp only
     rw[z03 (by omega),List.take_length]
     have:sset (((l.take i).flatMap (·.2.1)++l[i].2.1).filter fun t=>decide (0≤t))=vars (l.take (i+1)):=by
      unfold vars;rw[z07 hi,List.flatMap_append];simp
     rw[this];exact hX
 · intro X
   refine lenI fun _=>bcN ?_
   simp only[List.take_length])
theorem zeo {l:List z00} (hl:(l.flatMap (·.2.1)).length≤1073741824):z93 l (vars l):=z01q _ _ (by
 unfold zpc
 refine lenI fun hl1=>?_
 refine z1t l.length (fun i=>((i:Int),(((l.take i).flatMap (·.2.1)).filter (fun t=>decide (0≤t)),()))) (by simp) ?_ ?_
 · intro i hi X hX
   refine bcI hi (inI hi ?_)
   simp only
   rw[getI hi,z03 (by omega)]
   have hsub:((l.take i).flatMap (·.2.1)).length+l[i].2.1.length≤1073741824:=by
    have:=zoa (·.2.1) hi
    omega
   refine lenI fun _=>z1t l[i].2.1.length (fun j=>((j:Int),(((l.take i).flatMap (·.2.1)++l[i].2.1.take j).filter (fun t=>decide (0≤t)),()))) (by simp) ?_ ?_
   · intro j hj Y hY
     refine bcI hj (inI hj ?_)
     simp only
     rw[getI hj,z03 (by omega)]
     have e:((l.take i).flatMap (·.2.1)++l[i].2.1.take (j+1)).filter (fun t=>decide (0≤t))=((l.take i).flatMap (·.2.1)++l[i].2.1.take j).filter (fun t=>decide (0≤t))++(if 0≤l[i].2.1[j] then[l[i].2.1[j]] else[]):=by
      rw[z07 hj,←List.append_assoc,List.filter_append]
      by_cases h:0≤l[i].2.1[j]<;>simp[h]
     rw[e]at hY
     have hb:=List.length_filter_le (fun t=>decide (0≤t)) ((l.take i).flatMap (·.2.1)++l[i].2.1.take j)
     rw[List.length_append,List.length_take]at hb
     refine z0e (fun h=>⟨by simp only[maxL,List.length_cons,List.length_nil];omega,?_⟩) (fun h=>?_)
     · have h:0≤l[i].2.1[j]:=h
       rw[if_pos h]at hY;exact hY
     · have h:¬ 0≤l[i].2.1[j]:=h
       rw[if_neg h,List.append_nil]at hY;exact hY
   · intro Y
     refine bcN ?_
     simp only
     rw[List.take_length]
     have:((l.take i).flatMap (·.2.1)++l[i].2.1).filter (fun t=>decide (0≤t))=((l.take (i+1)).flatMap (·.2.1)).filter (fun t=>decide (0≤t)):=by
      rw[z07 hi,List.flatMap_append];simp
     rw[this];exact hX
 · intro X
   refine bcN ⟨_,zbd ?_,_,z90,?_⟩
   · simp only[List.take_length]
     have:=List.length_filter_le (fun t=>decide (0≤t)) (l.flatMap (·.2.1));omega
   · simp only[List.take_length]
     rw[z008];rfl)
theorem z0fi {l:List TRel} {d:TDep} (h:inR d.1.length 1 2=false):((false,()):Bool×Unit)=(vDep l d,()):=by unfold vDep;rw[h];simp
theorem z0eb {l:List TRel} {d:TDep} (h:d.1.all (z6s l)=false):((false,()):Bool×Unit)=(vDep l d,()):=by unfold vDep;rw[h];simp
theorem zkh {l:List TRel} {d:TDep}:z84 l d (vDep l d):=zkd _ _ _ (by
 unfold zcq
 refine lenI fun hl=>⟨_,zf9,z0m (fun h=>z0fi h) (fun h1=>?_)⟩
 refine z7u d.1 (fun a=>!z6s l a) (fun i=>((i:Int),())) (KT:=((false,()):Bool×Unit)=(vDep l d,())) (KF:=d.1.all (z6s l)=true) ?_ ?_ ?_ ?_
 · intro i hi X q1 q2
   refine lenI fun _=>bcI hi (inI hi ⟨_,zfh,?_⟩)
   simp only
   rw[getI hi,z03 (by omega)]
   exact z1r (fun h=>q1 h) (fun h=>q2 h)
 · intro X hall
   have hlen:=inR_iff.mp h1
   have hal:=znf hall
   refine lenI fun _=>bcN (z1r (fun he=>?_) (fun he=>?_))
   · have ev:vDep l d=(decide (d.2.1=[])&&decide (d.2.2.2.1∈vars d.1)&&decide (d.2.2.2.2.1∈vars d.1)&&decide (d.2.2.2.1<d.2.2.2.2.1)):=by
      unfold vDep;rw[h1,hall,he];simp
     rw[ev]
     refine⟨_,zbh (by omega),lenI fun _=>z3j (fun h=>⟨_,zrc,z0e (fun h2=>⟨_,zrc,z0e (fun h3=>?_) (fun h3=>?_)⟩) (fun h2=>?_)⟩) (fun h=>?_)⟩
     · have:d.2.1=[]:=List.length_eq_zero_iff.mp (by omega)
       simp[this,h2,h3]
     · simp[h3]
     · simp[h2]
     · have:d.2.1≠[]:=by intro e;rw[e]at h;simp at h
       simp[this]
   · have ev:vDep l d=(d.2.1.all (fun a=>z6s l a && !(z94 l a.1))&&inR d.2.1.length 1 2&&(d.2.2.2.1 == 0)&&(d.2.2.2.2.1 == 0)):=by
      unfold vDep;rw[h1,hall,he];simp
     rw[ev]
     refine z7u d.2.1 (fun a=>!(z6s l a && !(z94 l a.1))) (fun i=>((i:Int),())) (KT:=d.2.1.all (fun a=>z6s l a && !(z94 l a.1))=false) (KF:=d.2.1.all (fun a=>z6s l a && !(z94 l a.1))=true) ?_ ?_ ?_ ?_
     · intro i hi X q1 q2
       refine lenI fun _=>bcI hi (inI hi ⟨_,zfh,?_⟩)
       simp only
       rw[getI hi,z03 (by omega)]
       have no:d.2.1.all (fun a=>z6s l a && !(z94 l a.1))=false→((false,()):Bool×Unit)=(d.2.1.all (fun a=>z6s l a && !(z94 l a.1))&&inR d.2.1.length 1 2&&(d.2.2.2.1 == 0)&&(d.2.2.2.2.1 == 0),()):=fun h=>by rw[h];simp
       refine z0m (fun h=>no (q1 (by simp[h]))) (fun h=>inI hi ⟨?_,z1r (fun h'=>no (q1 ?_)) (fun h'=>q2 ?_)⟩)
       · have:=z1j h;exact⟨this.2.1,this.2.2.1⟩
       · have:z94 l d.2.1[i].1=true:=h'
         simp[this]
       · have:z94 l d.2.1[i].1=false:=h'
         simp[this,h]
     · intro X hh
       refine lenI fun _=>bcN (lenI fun _=>⟨_,zf9,?_⟩)
       rw[hh]
       refine z1r (fun h2=>z3j (fun h3=>?_) (fun h3=>?_)) (fun h2=>?_)
       · rw[h2,h3];simp
       · have:(d.2.2.2.1 == 0)=false:=by simpa using h3
         rw[this];simp
       · rw[h2];simp
     · intro h;rw[z3t]at h;exact nt h
     · intro h;rw[z3t]at h;exact nf h
 · intro h;rw[z3t]at h;exact z0eb (nt h)
 · intro h;rw[z3t]at h;exact nf h)
theorem z001 {l:List TRel} {a:z00}:z7o a l (!z6s l a):=zy0 _ _ _ (by unfold zni;exact⟨_,zvw,rfl⟩)
theorem zm7 {l:List TRel} {ats:List z00} {n:Int}:zde l ats n (inR ats.length 1 n&&ats.all (z6s l)):=z03i _ _ _ _ (by
 unfold zui
 refine lenI fun _=>⟨_,z88,z1r (fun h=>⟨_,z6r (fun a=>!z6s l a) (fun _ _=>z001),?_⟩) (fun h=>?_)⟩
 · rw[h,Bool.true_and,z3t];simp
 · rw[h,Bool.false_and])
theorem zhp {l:List TRel} {a:z00} (h0:0≤a.1) (h1:a.1<l.length):z23 a l (z94 l a.1):=zhr _ _ _ (by unfold zaa;exact⟨⟨h0,h1⟩,rfl⟩)
theorem zcj {l:List TRel} {d:TDep}:z4z l d (vDep l d):=zke _ _ _ (by
 unfold zcm
 refine⟨_,zm7,z0m (fun h=>?_) (fun h=>?_)⟩
 · unfold vDep;rw[h];simp
 · have h':=Bool.and_eq_true_iff.mp h
   have hlen:=inR_iff.mp h'.1
   have hal:=znf h'.2
   refine z1r (fun he=>?_) (fun he=>?_)
   · have ev:vDep l d=(decide (d.2.1=[])&&decide (d.2.2.2.1∈vars d.1)&&decide (d.2.2.2.2.1∈vars d.1)&&decide (d.2.2.2.1<d.2.2.2.2.1)):=by
      unfold vDep;rw[h'.1,h'.2,he];simp
     rw[ev]
     refine⟨_,zeo (by omega),lenI fun _=>z3j (fun h0=>z0e (fun h1=>⟨_,z3g,z0e (fun h2=>⟨_,z3g,?_⟩) (fun h2=>?_)⟩) (fun h1=>?_)) (fun h0=>?_)⟩
     · have:d.2.1=[]:=List.length_eq_zero_iff.mp (by omega)
       simp[this,h1,h2]
     · simp[h2]
     · simp[h1]
     · have:d.2.1≠[]:=by intro e;rw[e]at h0;simp at h0
       simp[this]
   · have ev:vDep l d=(d.2.1.all (fun a=>z6s l a && !(z94 l a.1))&&inR d.2.1.length 1 2&&(d.2.2.2.1 == 0)&&(d.2.2.2.2.1 == 0)):=by
      unfold vDep;rw[h'.1,h'.2,he];simp
     rw[ev]
     have hand:d.2.1.all (fun a=>z6s l a && !(z94 l a.1))=(d.2.1.all (z6s l)&&d.2.1.all fun a=>!(z94 l a.1)):=by
      generalize d.2.1=m
      induction m with
      |nil=>rfl
      |cons a m ih=>simp only[List.all_cons,ih];cases z6s l a<;>cases z94 l a.1<;>simp
     rw[hand]
     refine⟨_,zm7,z1r (fun h1=>z3j (fun h2=>z3j (fun h3=>?_) (fun h3=>?_)) (fun h2=>?_)) (fun h1=>?_)⟩
     · have h1:=Bool.and_eq_true_iff.mp h1
       refine⟨_,z42 (fun a=>z94 l a.1) (fun a ha=>?_),?_⟩
       · have:=z1j (List.all_eq_true.mp h1.2 a ha)
         exact zhp this.2.1 this.2.2.1
       · rw[h1.1,h1.2,h2,h3,List.not_any_eq_all_not];simp
     · have:(d.2.2.2.2.1 == 0)=false:=by simpa using h3
       rw[this];simp
     · have:(d.2.2.2.1 == 0)=false:=by simpa using h2
       rw[this];simp
     · rcases Bool.and_eq_false_iff.mp h1 with h1|h1<;>rw[h1]<;>simp)
theorem zgz {l:List TRel} {ds:List TDep}:z5s l ds (zp5 l ds):=zgh _ _ _ (by
 unfold z9f
 refine z7u ds (fun d=>!vDep l d) (fun i=>((i:Int),())) (KT:=ds.all (vDep l)=false) (KF:=ds.all (vDep l)=true) ?_ ?_ ?_ ?_
 · intro i hi X q1 q2
   refine lenI fun _=>bcI hi (inI hi ⟨_,zkh,?_⟩)
   simp only
   rw[getI hi,z03 (by omega)]
   exact z1r (fun h=>by unfold zp5;rw[q1 h];simp) (fun h=>q2 h)
 · intro X h
   refine lenI fun _=>bcN ⟨_,z4w,z1r (fun h1=>lenI fun _=>?_) (fun h1=>?_)⟩
   · unfold zp5;rw[h,h1]
     have:decide ((ds.length:Int)≤5)=decide (ds.length≤5):=decide_eq_decide.mpr (by omega)
     rw[this];simp
   · unfold zp5;rw[h1];simp
 · intro h;rw[z3t]at h;exact nt h
 · intro h;rw[z3t]at h;exact nf h)
theorem zfd {l:List TRel} {d:TDep}:z1a d l (!vDep l d):=zf3 _ _ _ (by unfold z8f;exact⟨_,zcj,rfl⟩)
theorem zh2 {l:List TRel} {ds:List TDep}:z5p l ds (zp5 l ds):=zg7 _ _ _ (by
 unfold z9w
 refine⟨_,z4x,z1r (fun h1=>lenI fun _=>z0e (fun h2=>⟨_,z30 (fun d=>!vDep l d) (fun _ _=>zfd),?_⟩) (fun h2=>?_)) (fun h1=>?_)⟩
 · have:decide (ds.length≤5)=true:=decide_eq_true (by omega)
   unfold zp5;rw[h1,this,z3t];simp
 · have:decide (ds.length≤5)=false:=decide_eq_false (by omega)
   unfold zp5;rw[this];simp
 · unfold zp5;rw[h1];simp)
theorem z9g {d:TDep} (h1:(d.1.flatMap (·.2.1)).length≤1073741824) (h2:(d.2.1.flatMap (·.2.1)).length≤1073741824):z3u d (exV d):=zh3 _ _ (by
 unfold z97
 have hv:=zk9 d.2.1
 refine⟨_,zbh h1,_,zbh h2,?_⟩
 refine z1t (vars d.2.1).length (fun i=>((i:Int),(((vars d.2.1).take i).filter (fun v=>!decide (v∈vars d.1)),()))) (by simp) ?_ ?_
 · intro i hi X hX
   refine lenI fun _=>bcI hi (inI hi ⟨_,zrc,?_⟩)
   simp only
   rw[getI hi,z03 (by omega)]
   have e:((vars d.2.1).take (i+1)).filter (fun v=>!decide (v∈vars d.1))=((vars d.2.1).take i).filter (fun v=>!decide (v∈vars d.1))++(if (vars d.2.1)[i]∈vars d.1 then[] else[(vars d.2.1)[i]]):=by
    rw[z07 hi,List.filter_append]
    by_cases h:(vars d.2.1)[i]∈vars d.1<;>simp[h]
   rw[e]at hX
   have hb:=List.length_filter_le (fun v=>!decide (v∈vars d.1)) ((vars d.2.1).take i)
   rw[List.length_take]at hb
   refine z1r (fun h=>inI hi ⟨by simp only[maxL,List.length_cons,List.length_nil];omega,?_⟩) (fun h=>?_)
   · have h:¬ (vars d.2.1)[i]∈vars d.1:=by simpa using h
     rw[if_neg h]at hX;exact hX
   · have h:(vars d.2.1)[i]∈vars d.1:=by simpa using h
     rw[if_pos h,List.append_nil]at hX;exact hX
 · intro X
   refine lenI fun _=>bcN ?_
   simp only[List.take_length]
   rfl)
def hdV (d:TDep) (b:Bool):List Int:=(vars d.2.1).filter fun v=>decide (v∈vars d.1) == b
theorem zhi {d:TDep} {b:Bool} (h1:(d.1.flatMap (·.2.1)).length≤1073741824) (h2:(d.2.1.flatMap (·.2.1)).length≤1073741824):z8t d b (hdV d b):=zqa _ _ _ (by
 unfold zhh
 have hv:=zk9 d.2.1
 refine⟨_,zeo h1,_,zeo h2,lenI fun _=>?_⟩
 refine z1t (vars d.2.1).length (fun i=>((i:Int),(((vars d.2.1).take i).filter (fun v=>decide (v∈vars d.1) == b),()))) (by simp) ?_ ?_
 · intro i hi X hX
   refine bcI hi (inI hi ⟨_,z3g,?_⟩)
   simp only
   rw[getI hi,z03 (by omega)]
   have e:((vars d.2.1).take (i+1)).filter (fun v=>decide (v∈vars d.1) == b)=((vars d.2.1).take i).filter (fun v=>decide (v∈vars d.1) == b)++(if (decide ((vars d.2.1)[i]∈vars d.1) == b)=true then[(vars d.2.1)[i]] else[]):=by
    rw[z07 hi,List.filter_append]
    cases h:(decide ((vars d.2.1)[i]∈vars d.1) == b)<;>simp[h]
   rw[e]at hX
   have hb:=List.length_filter_le (fun v=>decide (v∈vars d.1) == b) ((vars d.2.1).take i)
   rw[List.length_take]at hb
   refine z1r (fun h=>⟨by simp only[maxL,List.length_cons,List.length_nil];omega,?_⟩) (fun h=>?_)
   · rw[if_pos h]at hX;exact hX
   · rw[if_neg (by rw[h];simp),List.append_nil]at hX;exact hX
 · intro X
   refine bcN ?_
   simp only[List.take_length]
   rfl)
theorem z0bj (d:TDep):hdV d false=exV d:=by unfold hdV exV;congr 1;funext v;by_cases h:v∈vars d.1<;>simp[h]
theorem z0ea (d:TDep):hdV d true=frV d:=by unfold hdV frV;congr 1;funext v;by_cases h:v∈vars d.1<;>simp[h]
theorem z9c {d:TDep} (h1:(d.1.flatMap (·.2.1)).length≤1073741824) (h2:(d.2.1.flatMap (·.2.1)).length≤1073741824):z3s d (exV d):=zh1 _ _ (by
 unfold za1
 exact⟨_,zhi h1 h2,by rw[z0bj]⟩)
theorem z8m {l:List TRel} {d:TDep} (h:vDep l d=true):1≤d.1.length∧d.1.length≤2∧(∀ a∈d.1,z6s l a=true)∧d.2.1.length≤2∧(∀ a∈d.2.1,z6s l a=true)∧(d.1.flatMap (·.2.1)).length≤6∧(d.2.1.flatMap (·.2.1)).length≤6:=by
 unfold vDep at h
 rw[Bool.and_eq_true,Bool.and_eq_true]at h
 obtain⟨⟨h1,h2⟩,h3⟩:=h
 have h1:=inR_iff.mp h1
 have l1:=znf h2
 cases he:d.2.2.1 with
 | true=>
   rw[if_pos he]at h3
   simp only[Bool.and_eq_true,decide_eq_true_eq]at h3
   have:=h3.1.1.1
   exact⟨by omega,by omega,List.all_eq_true.mp h2,by simp[this],by simp[this],by omega,by simp[this]⟩
 | false=>
   rw[if_neg (by simp[he])]at h3
   simp only[Bool.and_eq_true]at h3
   have hr:=inR_iff.mp h3.1.1.2
   have h4:d.2.1.all (z6s l)=true:=List.all_eq_true.mpr fun a ha=>by
    have:=List.all_eq_true.mp h3.1.1.1 a ha
    rw[Bool.and_eq_true]at this;exact this.1
   have l2:=znf h4
   exact⟨by omega,by omega,List.all_eq_true.mp h2,by omega,List.all_eq_true.mp h4,by omega,by omega⟩
theorem z029 {l:List TRel} {ds:List TDep} (h:zp5 l ds=true) {d:TDep} (hd:d∈ds):vDep l d=true:=by
 unfold zp5 at h
 rw[Bool.and_eq_true,Bool.and_eq_true]at h
 exact List.all_eq_true.mp h.1.1 d hd
theorem zmf {l:List TRel} {ds:List TDep} (h:zp5 l ds=true):ds.length≤5:=by
 unfold zp5 at h;simp at h;exact h.2
def z8d (v:Int):Bool:=inR v (-40) (-1)
def z4v (v:Int):Int:=if z8d v then -1 - v else 0
def vVal (v:Int):Bool:=inR v (-40) 9
def z2h (l:List Int):List Int:=(l.filter z8d).map (fun v=>-1 - v)
def nulF (f:z00):List Int:=sset (z2h f.2.1)
def nulI (x:z09):List Int:=sset (x.2.1.flatMap fun f=>z2h f.2.1)
def zia (l:List TRel) (f:z00):Bool:=vRow vVal l f
def zeh (l:List z00) (i:Nat):z00:=l.getD i z0h
def z8j (x:z09) (i:Nat):Bool:=zia x.1 (zeh x.2.1 i)&&(i == 0||decide (cmpF (zeh x.2.1 (i - 1)) (zeh x.2.1 i)<0)) && !(z94 x.1 (zeh x.2.1 i).1&&(nulF (zeh x.2.1 i)).length != 0)
def z36 (x:z09):Bool:=zcc x.1&&decide (x.2.1.length≤30)&&(List.range x.2.1.length).all (z8j x)
theorem isNul_iff {v:Int}:z8d v=true↔-40≤v∧v≤-1:=inR_iff
theorem mem_nulls {l:List Int} {k:Int}:k∈z2h l↔0≤k∧k<40∧(-1 - k)∈l:=by
 unfold z2h
 rw[List.mem_map]
 constructor
 · rintro⟨v,hv,rfl⟩
   obtain⟨h1,h2⟩:=List.mem_filter.mp hv
   have:=isNul_iff.mp h2
   exact ⟨by omega, by omega, by have e : -1 - (-1 - v)=v:=by omega
                                 rw[e];exact h1⟩
 · rintro⟨h1,h2,h3⟩
   exact⟨-1 - k,List.mem_filter.mpr ⟨h3,isNul_iff.mpr ⟨by omega,by omega⟩⟩,by omega⟩
theorem zeq (l m:List Int):z2h (l++m)=z2h l++z2h m:=by unfold z2h;rw[List.filter_append,List.map_append]
theorem zg2 (l:List z00):z2h (l.flatMap (·.2.1))=l.flatMap fun f=>z2h f.2.1:=by
 induction l with
 |nil=>rfl
 |cons a l ih=>simp only[List.flatMap_cons];rw[zeq,ih]
theorem zle {l:List Int}:∀ k∈sset (z2h l),0≤k∧k<0+(40:Nat):=fun k hk=>by
 have:=mem_nulls.mp (mem_sset.mp hk);omega
theorem zn5 {l:List Int}:(sset (z2h l)).length≤40:=z01z (zn1 _) zle
theorem z06j (x:z09):(nulI x).length≤40:=by unfold nulI;rw[←zg2];exact zn5
theorem z00z (l:List Int):(z2h l).length≤l.length:=by unfold z2h;rw[List.length_map];exact List.length_filter_le _ _
theorem z2e {l:List z00} {i:Nat} (h:i<l.length):zeh l i=l[i]:=z0r h
theorem z5g {x:z09} (h:z36 x=true) {f:z00} (hf:f∈x.2.1):zia x.1 f=true:=by
 unfold z36 at h
 rw[Bool.and_eq_true]at h
 obtain⟨i,hi,rfl⟩:=List.mem_iff_getElem.mp hf
 have:=List.all_eq_true.mp h.2 i (List.mem_range.mpr hi)
 unfold z8j at this
 rw[Bool.and_eq_true,Bool.and_eq_true,z2e hi]at this
 exact this.1.1
theorem z41 {x:z09} (h:z36 x=true):x.2.1.length≤30:=by unfold z36 at h;simp at h;exact h.1.2
theorem zk0 {x:z09} (h:z36 x=true):zcc x.1=true:=by unfold z36 at h;simp at h;exact h.1.1
theorem z068 {x:z09} {i:Nat} (hi:i<x.2.1.length) (h:z8j x i=false):z36 x=false:=by
 unfold z36
 have:(List.range x.2.1.length).all (z8j x)=false:=by
  rw[Bool.eq_false_iff];intro hall
  have:=List.all_eq_true.mp hall i (List.mem_range.mpr hi);rw[h]at this;cases this
 rw[this];simp
theorem zsp {x:z09} (h1:∀ i,i<x.2.1.length→z8j x i=true):z36 x=(zcc x.1&&decide (x.2.1.length≤30)):=by
 unfold z36
 rw[List.all_eq_true.mpr fun i hi=>h1 i (List.mem_range.mp hi)];simp
theorem zhx (v:Int):0≤z4v v:=by
 unfold z4v
 split
 · rename_i h;have:=isNul_iff.mp h;omega
 · omega
theorem za2 {v:Int}:z3r v (z4v v) (z8d v):=z004 fun hb=>zz2 _ _ _ (by
 have hb : -9223372036854775808≤v∧v≤9223372036854775807:=hb
 unfold zn7
 have no:z8d v=false→(((0:Int),(false,())):Int×Bool×Unit)=(z4v v,(z8d v,())):=fun h=>by unfold z4v;rw[h];rfl
 refine z0e (fun h=>no ?_) (fun h=>⟨_,zf9,?_⟩)
 · rw[Bool.eq_false_iff];intro h';have:=isNul_iff.mp h';omega
 · rw[z1g (by omega) (by omega)]
   refine z0m (fun h2=>no ?_) (fun h2=>?_)
   · rw[Bool.eq_false_iff]at h2 ⊢;intro h';have:=isNul_iff.mp h';exact h2 (inR_iff.mpr ⟨by omega,by omega⟩)
   · have:=inR_iff.mp h2
     have e:z8d v=true:=isNul_iff.mpr ⟨by omega,by omega⟩
     unfold z4v;rw[e];rfl)
theorem zmp {v:Int}:z7q v (z4v v) (z8d v):=z002 fun hb=>z000 _ _ _ (by
 have hb : -9223372036854775808≤v∧v≤9223372036854775807:=hb
 unfold zms
 have no:z8d v=false→(((0:Int),(false,())):Int×Bool×Unit)=(z4v v,(z8d v,())):=fun h=>by unfold z4v;rw[h];rfl
 rw[z1g (by omega) (by omega)]
 refine⟨_,z88,z0m (fun h2=>no ?_) (fun h2=>?_)⟩
 · rw[Bool.eq_false_iff]at h2 ⊢;intro h';have:=isNul_iff.mp h';exact h2 (inR_iff.mpr ⟨by omega,by omega⟩)
 · have:=inR_iff.mp h2
   have e:z8d v=true:=isNul_iff.mpr ⟨by omega,by omega⟩
   unfold z4v;rw[e];rfl)
theorem z9i {v:Int}:z5b v (vVal v):=zu2 _ _ (by
 unfold zir
 refine⟨_,_,za2,z1r (fun h=>?_) (fun h=>⟨_,zf9,?_⟩)⟩
 · have:=isNul_iff.mp h
   have e:vVal v=true:=inR_iff.mpr ⟨by omega,by omega⟩
   rw[e]
 · have:inR v 0 9=vVal v:=by
    rw[Bool.eq_iff_iff]
    unfold vVal
    rw[inR_iff,inR_iff]
    constructor
    · omega
    · intro h'
      refine⟨?_,h'.2⟩
      rcases Int.lt_or_le v 0 with h0|h0
      · rw[isNul_iff.mpr ⟨by omega,by omega⟩]at h;cases h
      · exact h0
   rw[this])
theorem z9s {v:Int}:z5e v (vVal v):=zs6 _ _ (by unfold zj4;exact⟨_,z88,rfl⟩)
theorem zld {f:z00}:z6d f (nulF f):=zv0 _ _ (by
 unfold zkv
 refine z1t f.2.1.length (fun i=>((i:Int),(sset (z2h (f.2.1.take i)),()))) (by simp[z2h,sset]) ?_ ?_
 · intro i hi X hX
   refine lenI fun _=>bcI hi (inI hi ⟨_,_,za2,?_⟩)
   simp only
   rw[getI hi,z03 (by omega)]
   have e:z2h (f.2.1.take (i+1))=z2h (f.2.1.take i)++(if z8d f.2.1[i] then[-1 - f.2.1[i]] else[]):=by
    rw[z07 hi,zeq];congr 1
    unfold z2h
    cases h:z8d f.2.1[i]<;>simp[h]
   rw[e]at hX
   have hf:=zn5 (l:=f.2.1.take i)
   refine z1r (fun h=>⟨_,zzx (by omega),?_⟩) (fun h=>?_)
   · rw[if_pos h]at hX
     have:z4v f.2.1[i] = -1 - f.2.1[i]:=by unfold z4v;rw[if_pos h]
     rw[this,z02s];exact hX
   · rw[if_neg (by rw[h];simp),List.append_nil]at hX;exact hX
 · intro X
   refine lenI fun _=>bcN ?_
   simp only[List.take_length]
   rfl)
theorem zo6 {l:List Int} (hl:l.length≤1073741824):zfv l (sset (z2h l)):=z08p _ _ (by
 unfold zwt
 refine lenI fun _=>z1t l.length (fun i=>((i:Int),(z2h (l.take i),()))) (by simp[z2h]) ?_ ?_
 · intro i hi X hX
   refine bcI hi (inI hi ⟨_,_,zmp,?_⟩)
   simp only
   rw[getI hi,z03 (by omega)]
   have e:z2h (l.take (i+1))=z2h (l.take i)++(if z8d l[i] then[-1 - l[i]] else[]):=by
    rw[z07 hi,zeq];congr 1
    unfold z2h
    cases h:z8d l[i]<;>simp[h]
   rw[e]at hX
   have hb:=z00z (l.take i)
   rw[List.length_take]at hb
   refine z1r (fun h=>⟨by simp only[maxL,List.length_cons,List.length_nil];omega,?_⟩) (fun h=>?_)
   · rw[if_pos h]at hX
     have:z4v l[i] = -1 - l[i]:=by unfold z4v;rw[if_pos h]
     rw[this];exact hX
   · rw[if_neg (by rw[h];simp),List.append_nil]at hX;exact hX
 · intro X
   refine bcN ⟨_,zbd ?_,_,z90,?_⟩
   · simp only[List.take_length];have:=z00z l;omega
   · simp only[List.take_length];rw[z008])
theorem zvk {f:z00} (h:f.2.1.length≤1073741824):z8q f (nulF f):=zvh _ _ (by unfold zl0;exact⟨_,zo6 h,rfl⟩)
theorem zmi {x:z09}:z9t x (nulI x):=zna _ _ (by
 unfold zet
 refine z1t x.2.1.length (fun i=>((i:Int),(sset ((x.2.1.take i).flatMap fun f=>z2h f.2.1),()))) (by simp[sset]) ?_ ?_
 · intro i hi X hX
   refine lenI fun _=>bcI hi (inI hi ⟨_,zld,?_⟩)
   simp only
   rw[getI hi]
   have hn:(nulF x.2.1[i]).length≤40:=zn5
   refine z1t (nulF x.2.1[i]).length (fun j=>(((nulF x.2.1[i]).take j).foldl ins (sset ((x.2.1.take i).flatMap fun f=>z2h f.2.1)),((j:Int),()))) (by simp) ?_ ?_
   · intro j hj Y hY
     refine lenI fun _=>bcI hj (inI hj ⟨_,zzx ?_,?_⟩)
     · have h1:(sset ((x.2.1.take i).flatMap fun f=>z2h f.2.1)).length≤40:=by rw[←zg2];exact zn5
       have:∀(l s:List Int),(l.foldl ins s).length≤s.length+l.length:=by
        intro l
        induction l with
        |nil=>intro s;simp
        |cons a l ih=>intro s;have:=ih (ins s a);have:=z0bc s a;simp only[List.foldl_cons,List.length_cons];omega
       have:=this ((nulF x.2.1[i]).take j) (sset ((x.2.1.take i).flatMap fun f=>z2h f.2.1))
       rw[List.length_take]at this
       simp only;omega
     · simp only
       rw[getI hj,z03 (by omega)]
       rw[z07 hj,List.foldl_append]at hY
       exact hY
   · intro Y
     refine lenI fun _=>bcN ?_
     simp only[List.take_length]
     rw[z03 (by omega)]
     have:(nulF x.2.1[i]).foldl ins (sset ((x.2.1.take i).flatMap fun f=>z2h f.2.1))=sset ((x.2.1.take (i+1)).flatMap fun f=>z2h f.2.1):=by
      unfold nulF
      rw[z00e,z07 hi,List.flatMap_append];simp
     rw[this];exact hX
 · intro X
   refine lenI fun _=>bcN ?_
   simp only[List.take_length]
   rfl)
theorem zmn {x:z09} (hl:(x.2.1.flatMap (·.2.1)).length≤1073741824):z9e x (nulI x):=znr _ _ (by
 unfold zef
 refine lenI fun _=>z1t x.2.1.length (fun i=>((i:Int),((x.2.1.take i).flatMap (·.2.1),()))) (by simp) ?_ ?_
 · intro i hi X hX
   have hs:=zoa (fun f:z00=>f.2.1) hi
   refine bcI hi (inI hi ⟨?_,?_⟩)
   · simp only[maxL];rw[getI hi];omega
   · simp only
     rw[getI hi,z03 (by omega)]
     rw[z07 hi,List.flatMap_append]at hX
     simpa using hX
 · intro X
   refine bcN ⟨_,zo6 ?_,?_⟩
   · simp only[List.take_length];exact hl
   · simp only[List.take_length]
     rw[zg2];rfl)
theorem zl7 {l:List TRel} {a:z00}:zax l a (zia l a):=zvf _ _ _ (by
 unfold zkr zia
 refine⟨_,z4w,z0m (fun h=>row_no1 h) (fun h1=>lenI fun hl=>⟨_,zf9,z0m (fun h=>row_no2 hl h) (fun h2=>lenI fun hl2=>⟨row_start h2 hl,z5y (fun h=>row_no3 h) (fun h3=>?_)⟩)⟩)⟩
 refine z7u a.2.1 (fun t=>!vVal t) (fun i=>((i:Int),())) (KT:=((false,()):Bool×Unit)=(vRow vVal l a,())) (KF:=((true,()):Bool×Unit)=(vRow vVal l a,())) ?_ (fun X h=>lenI fun _=>bcN h) ?_ ?_
 · intro i hi X q1 q2
   refine lenI fun _=>bcI hi (inI hi ⟨_,z9i,?_⟩)
   simp only
   rw[getI hi,z03 (by omega)]
   exact z1r (fun h=>q1 h) (fun h=>q2 h)
 · intro h;exact row_yes hl h1 h2 h3 (by rw[z3t]at h;exact(nt h).symm)
 · intro h;exact row_yes hl h1 h2 h3 (by rw[z3t]at h;exact(nf h).symm))
theorem zqk {t:Int}:z4b t (!vVal t):=zpt _ _ (by unfold zhc;exact⟨_,z9s,rfl⟩)
theorem zkt {l:List TRel} {a:z00}:zar l a (zia l a):=zvi _ _ _ (by
 unfold zl9 zia
 refine⟨_,z4x,z0m (fun h=>row_no1 h) (fun h1=>lenI fun hl=>⟨_,z88,z0m (fun h=>row_no2 hl h) (fun h2=>lenI fun hl2=>⟨row_start h2 hl,z5y (fun h=>row_no3 h) (fun h3=>?_)⟩)⟩)⟩
 exact⟨_,z60 (fun t=>!vVal t) (fun _ _=>zqk),row_yes hl h1 h2 h3 (by rw[z3t];simp)⟩)
theorem zrb {x:z09} {f:z00} (h:zia x.1 f=true):0≤f.1∧f.1<(x.1.length:Int):=by have:=z1j h;exact⟨this.2.1,this.2.2.1⟩
theorem zb8 {x:z09} {i:Nat} (hi:i<x.2.1.length) (h1:zia x.1 x.2.1[i]=true) (h2:0<i→cmpF (zeh x.2.1 (i - 1)) x.2.1[i]<0):z8j x i = !(z94 x.1 x.2.1[i].1&&(nulF x.2.1[i]).length != 0):=by
 unfold z8j
 rw[z2e hi,h1]
 have:(i == 0||decide (cmpF (zeh x.2.1 (i - 1)) x.2.1[i]<0))=true:=by
  rcases Nat.eq_zero_or_pos i with h|h
  · simp[h]
  · rw[decide_eq_true (h2 h)];simp
 rw[this];rfl
theorem z4g {x:z09}:z2l x (z36 x):=zmt _ _ (by
 unfold zem
 have no:z36 x=false→((false,()):Bool×Unit)=(z36 x,()):=fun h=>by rw[h]
 refine zb6 x.2.1.length (fun i=>!z8j x i) (fun i=>((i:Int),())) (KT:=z36 x=false) (KF:=z36 x=(zcc x.1&&decide (x.2.1.length≤30))) ?_ ?_ ?_ ?_
 · intro i hi X hb q1 q2
   have qn:z8j x i=false→((false,()):Bool×Unit)=(z36 x,()):=fun h=>no (q1 (by rw[h];rfl))
   have qy:z8j x i=true→X (((i+1:Nat):Int),()):=fun h=>q2 (by rw[h];rfl)
   refine lenI fun hl=>bcI hi (inI hi ⟨_,zl7,?_⟩)
   simp only
   rw[getI hi,z03 (by omega)]
   refine z0m (fun h=>qn (by unfold z8j;rw[z2e hi,h];simp)) (fun hv=>?_)
   have fin:z8j x i = !(z94 x.1 x.2.1[i].1&&(nulF x.2.1[i]).length != 0)→((0≤x.2.1[i].1∧x.2.1[i].1<(x.1.length:Int))∧(z01 (((x.1.getD (Int.toNat x.2.1[i].1) zRel).2).2).1 (∃ y5:List Int,z6d x.2.1[i] y5∧(lenA (List.length y5:Int) (z01 (decide ((List.length y5:Int) > (0:Int))) (((false,()):Bool×Unit)=(z36 x,())) (X (((i+1:Nat):Int),()))))) (X (((i+1:Nat):Int),())))):=by
    intro he
    refine⟨zrb hv,z1r (fun hs=>⟨_,zld,lenI fun _=>z0e (fun h=>qn ?_) (fun h=>qy ?_)⟩) (fun hs=>qy ?_)⟩
    · have hs:z94 x.1 x.2.1[i].1=true:=hs
      rw[he,hs];simp;intro e;rw[e]at h;simp at h
    · have:(nulF x.2.1[i]).length=0:=by omega
      rw[he,this];simp
    · have hs:z94 x.1 x.2.1[i].1=false:=hs
      rw[he,hs];rfl
   refine z0e (fun h0=>?_) (fun h0=>fin (zb8 hi hv (fun h=>by omega)))
   have hi':i - 1<x.2.1.length:=by omega
   have hw:w64 ((i:Int) - 1)=((i - 1:Nat):Int):=by rw[z1g (by omega) (by omega)];omega
   rw[hw]
   refine inI hi' ⟨_,z96,?_⟩
   rw[getI hi']
   refine z0e (fun h=>qn ?_) (fun h=>fin (zb8 hi hv (fun _=>by rw[z2e hi'];omega)))
   unfold z8j
   rw[z2e hi,z2e hi',decide_eq_false (by omega)]
   have:(i == 0)=false:=by simp;omega
   rw[this];simp
 · intro X h
   refine lenI fun _=>bcN ⟨_,z4w,z1r (fun h1=>lenI fun _=>?_) (fun h1=>no (by rw[h,h1];rfl))⟩
   rw[h,h1]
   have:decide ((x.2.1.length:Int)≤30)=decide (x.2.1.length≤30):=decide_eq_decide.mpr (by omega)
   rw[this];rfl
 · rintro⟨i,hi,hp⟩;exact z068 hi (nt hp)
 · intro h;exact zsp fun i hi=>nf (h i hi))
theorem z4j {x:z09}:z2k x (z36 x):=zmw _ _ (by
 unfold zed
 have no:z36 x=false→((false,()):Bool×Unit)=(z36 x,()):=fun h=>by rw[h]
 refine⟨_,z4x,z0m (fun h=>no (by unfold z36;rw[h];simp)) (fun hr=>lenI fun _=>z0e (fun h=>no (by unfold z36;rw[decide_eq_false (show ¬ x.2.1.length≤30 by omega)];simp)) (fun hlen=>lenI fun _=>?_))⟩
 refine zb6 x.2.1.length (fun i=>!z8j x i) (fun i=>((i:Int),())) (KT:=z36 x=false) (KF:=z36 x=(zcc x.1&&decide (x.2.1.length≤30))) ?_ ?_ ?_ ?_
 · intro i hi X hb q1 q2
   have qn:z8j x i=false→((false,()):Bool×Unit)=(z36 x,()):=fun h=>no (q1 (by rw[h];rfl))
   have qy:z8j x i=true→X (((i+1:Nat):Int),()):=fun h=>q2 (by rw[h];rfl)
   refine bcI hi (inI hi ⟨_,zkt,?_⟩)
   simp only
   rw[getI hi,z03 (by omega)]
   refine z0m (fun h=>qn (by unfold z8j;rw[z2e hi,h];simp)) (fun hv=>?_)
   have hvl:=(z1j hv).2.2.2.2.1
   have fin:z8j x i = !(z94 x.1 x.2.1[i].1&&(nulF x.2.1[i]).length != 0)→((0≤x.2.1[i].1∧x.2.1[i].1<(x.1.length:Int))∧(z01 (((x.1.getD (Int.toNat x.2.1[i].1) zRel).2).2).1 (∃ y5:List Int,z8q x.2.1[i] y5∧(lenA (List.length y5:Int) (z01 (decide ((List.length y5:Int) > (0:Int))) (((false,()):Bool×Unit)=(z36 x,())) (X (((i+1:Nat):Int),()))))) (X (((i+1:Nat):Int),())))):=by
    intro he
    refine⟨zrb hv,z1r (fun hs=>⟨_,zvk (by omega),lenI fun _=>z0e (fun h=>qn ?_) (fun h=>qy ?_)⟩) (fun hs=>qy ?_)⟩
    · have hs:z94 x.1 x.2.1[i].1=true:=hs
      rw[he,hs];simp;intro e;rw[e]at h;simp at h
    · have:(nulF x.2.1[i]).length=0:=by omega
      rw[he,this];simp
    · have hs:z94 x.1 x.2.1[i].1=false:=hs
      rw[he,hs];rfl
   refine z0e (fun h0=>?_) (fun h0=>fin (zb8 hi hv (fun h=>by omega)))
   have hi':i - 1<x.2.1.length:=by omega
   have hw:w64 ((i:Int) - 1)=((i - 1:Nat):Int):=by rw[z1g (by omega) (by omega)];omega
   rw[hw]
   refine inI hi' ⟨_,z5h,?_⟩
   rw[getI hi']
   refine z0e (fun h=>qn ?_) (fun h=>fin (zb8 hi hv (fun _=>by rw[z2e hi'];omega)))
   unfold z8j
   rw[z2e hi,z2e hi',decide_eq_false (by omega)]
   have:(i == 0)=false:=by simp;omega
   rw[this];simp
 · intro X h
   refine bcN ?_
   rw[h,hr,decide_eq_true (show x.2.1.length≤30 by omega)];rfl
 · rintro⟨i,hi,hp⟩;exact z068 hi (nt hp)
 · intro h;exact zsp fun i hi=>nf (h i hi))
theorem zox {x:z09} (h:z36 x=true):(x.2.1.flatMap (·.2.1)).length≤90:=by
 have h1:=z41 h
 have:∀ l:List z00,(∀ f∈l,zia x.1 f=true)→(l.flatMap (·.2.1)).length≤3 * l.length:=by
  intro l
  induction l with
  |nil=>intro _;simp
  | cons a l ih=>
    intro hl
    have h1:=(z1j (hl a (by simp))).2.2.2.2.1
    have:=ih fun f hf=>hl f (by simp[hf])
    simp only[List.flatMap_cons,List.length_append,List.length_cons];omega
 have:=this x.2.1 fun f hf=>z5g h hf
 omega
def zif (x:z09):Int:=match (nulI x).getLast? with
 |some k=>k+1
 |none=>0
theorem nextN_le {x:z09} {n:Nat}:zif x≤n↔∀ k∈nulI x,k<n:=by
 unfold zif
 have hs:srt (nulI x):=zn1 _
 cases h:(nulI x).getLast? with
 | none=>
   have:nulI x=[]:=List.getLast?_eq_none_iff.mp h
   rw[this];simp
 | some m=>
   have hne:nulI x≠[]:=by intro e;rw[e]at h;simp at h
   have hm:(nulI x).getLast hne=m:=by rw[List.getLast?_eq_some_getLast hne]at h;exact Option.some.inj h
   have hlast:=z0fg hs hne
   constructor
   · intro h' k hk
     have:=hlast k hk;rw[hm]at this;simp only at h';omega
   · intro h'
     have:=h' m (by rw[←hm];exact List.getLast_mem hne)
     simp only;omega
theorem z03w {x:z09} (hl:(x.2.1.flatMap (·.2.1)).length≤1073741824):zlq x (zif x):=z042 _ _ (by
 unfold ztf
 have hf:=z06j x
 refine⟨_,zmn hl,lenI fun _=>z3j (fun h=>?_) (fun h=>lenI fun _=>?_)⟩
 · have:nulI x=[]:=List.length_eq_zero_iff.mp (by omega)
   unfold zif;rw[this];rfl
 · have hw:w64 ((nulI x).length - 1:Int)=(((nulI x).length - 1:Nat):Int):=by rw[z1g (by omega) (by omega)];omega
   rw[hw]
   have hlt:(nulI x).length - 1<(nulI x).length:=by omega
   refine inI hlt ?_
   rw[getI hlt]
   have hne:nulI x≠[]:=by intro e;rw[e]at h;simp at h
   have hr:0≤(nulI x)[(nulI x).length - 1]∧(nulI x)[(nulI x).length - 1]<0+(40:Nat):=by
    have:=zle (l:=x.2.1.flatMap (·.2.1)) ((nulI x)[(nulI x).length - 1]) (by rw[zg2];exact List.getElem_mem hlt)
    exact this
   rw[z1g (by omega) (by omega)]
   unfold zif
   rw[List.getLast?_eq_some_getLast hne,List.getLast_eq_getElem])
def mx (f:Int→Int) (l:List Int):Int:=l.foldl (fun m k=>maxI m (f k)) 0
theorem z0gm {a b n:Int}:maxI a b≤n↔a≤n∧b≤n:=by unfold maxI;split<;>omega
theorem z0ag {f:Int→Int} {n:Int}:∀ {l:List Int} {s:Int},l.foldl (fun m k=>maxI m (f k)) s≤n↔s≤n∧∀ k∈l,f k≤n
 |[],s=>by simp
 | a::l,s=>by
   rw[List.foldl_cons,z0ag,z0gm]
   simp only[List.mem_cons,forall_eq_or_imp,and_assoc]
theorem mx_le {f:Int→Int} {l:List Int} {n:Int}:mx f l≤n↔0≤n∧∀ k∈l,f k≤n:=z0ag
theorem ziq (f:Int→Int) (l:List Int):0≤mx f l:=(mx_le.mp (Int.le_refl _)).1
theorem z0fy {f:Int→Int} {l m:List Int} (h:∀ k,k∈l↔k∈m):mx f l=mx f m:=by
 have h1:mx f l≤mx f m:=mx_le.mpr ⟨ziq _ _,fun k hk=>(mx_le.mp (Int.le_refl (mx f m))).2 k ((h k).mp hk)⟩
 have h2:mx f m≤mx f l:=mx_le.mpr ⟨ziq _ _,fun k hk=>(mx_le.mp (Int.le_refl (mx f l))).2 k ((h k).mpr hk)⟩
 omega
theorem z0hk (f:Int→Int) (l:List Int) (k:Int):mx f (l++[k])=maxI (mx f l) (f k):=by unfold mx;rw[List.foldl_append];rfl
theorem zyo (a b:Int):maxI (a+1) (b+1)=maxI a b+1:=by unfold maxI;split<;>split<;>omega
def z89 (out:List Int) (args:List Int):Int:=mx (fun k=>out.getD k.toNat 0) (z2h args)+1
def z1y (ts:List z05):List Int:=ts.foldl (fun out t=>out++[z89 out t.2.2.1]) []
theorem z8k (ts:List z05) (t:z05):z1y (ts++[t])=z1y ts++[z89 (z1y ts) t.2.2.1]:=by unfold z1y;rw[List.foldl_append];rfl
theorem z03h (ts:List z05):(z1y ts).length=ts.length:=by
 have:∀(l:List z05) (s:List Int),(l.foldl (fun out t=>out++[z89 out t.2.2.1]) s).length=s.length+l.length:=by
  intro l
  induction l with
  |nil=>intro s;simp
  |cons a l ih=>intro s;rw[List.foldl_cons,ih];simp;omega
 have:=this ts []
 simpa [z1y]using this
def zex (ts:List z05) (i:Nat):z05:=ts.getD i z37
theorem z6e {ts:List z05} {i:Nat} (h:i<ts.length):zex ts i=ts[i]:=z0r h
def zb5 (k:Nat) (v:Int):Bool:=vVal v && !(z8d v&&decide ((k:Int)≤z4v v))
def z8c (ts:List z05) (k:Nat):Bool:=inR (zex ts k).1 0 4&&inR (zex ts k).2.1 0 4&&decide ((zex ts k).2.2.1.length≤5)&&(zex ts k).2.2.1.all (zb5 k) && !(ts.take k).any (fun t=>decide (t=zex ts k))
def areT (ts:List z05):Bool:=decide (ts.length≤30)&&(List.range ts.length).all (z8c ts)&&(z1y ts).all fun d=>decide (d≤8)
def vSk (s:TSk):Bool:=z36 s.1&&decide (zif s.1≤s.2.1.length)&&areT s.2.1
theorem zxi {k:Nat} {args:List Int} (h:args.all (zb5 k)=true):∀ n∈z2h args,0≤n∧n<k:=by
 intro n hn
 obtain⟨h1,h2,h3⟩:=mem_nulls.mp hn
 have:=List.all_eq_true.mp h _ h3
 unfold zb5 at this
 rw[Bool.and_eq_true]at this
 have hi:z8d (-1 - n)=true:=isNul_iff.mpr ⟨by omega,by omega⟩
 have he:z4v (-1 - n)=n:=by unfold z4v;rw[if_pos hi];omega
 rw[hi,Bool.true_and,he]at this
 have h4:=this.2
 simp at h4
 exact⟨h1,h4⟩
theorem z09m {ts:List z05} (h:areT ts=true) {k:Nat} (hk:k<ts.length):z8c ts k=true:=by
 unfold areT at h
 simp only[Bool.and_eq_true]at h
 exact List.all_eq_true.mp h.1.2 k (List.mem_range.mpr hk)
theorem z61 {s:TSk} (h:vSk s=true):z36 s.1=true∧zif s.1≤s.2.1.length∧areT s.2.1=true:=by
 unfold vSk at h;simp at h;exact⟨h.1.1,h.1.2,h.2⟩
theorem zen {ts:List z05} (h:areT ts=true):ts.length≤30:=by unfold areT at h;simp at h;exact h.1.1
theorem zop {g:Int→Int}:∀ {l:List Int} {s:Int},0≤s→l.foldl (fun m v=>maxI m (if z8d v then g (z4v v)else 0)) s=(z2h l).foldl (fun m k=>maxI m (g k)) s
 |[],_,_=>rfl
 | a::l,s,h=>by
   have hs:0≤maxI s (g (z4v a)):=by unfold maxI;split<;>omega
   have h0:maxI s 0=s:=by unfold maxI;split<;>omega
   rw[List.foldl_cons]
   cases hn:z8d a with
   | true=>
     have hno:z4v a = -1 - a:=by unfold z4v;rw[if_pos hn]
     have e:z2h (a::l)=(-1 - a)::z2h l:=by unfold z2h;simp[hn]
     rw[e,List.foldl_cons,if_pos rfl,zop hs,hno]
   | false=>
     have e:z2h (a::l)=z2h l:=by unfold z2h;simp[hn]
     rw[e,if_neg (by simp),h0];exact zop h
theorem z72 {s:TSk}:z3a s (vSk s):=zih _ _ (by
 unfold zbg
 have no:vSk s=false→((false,()):Bool×Unit)=(vSk s,()):=fun h=>by rw[h]
 have na:areT s.2.1=false→((false,()):Bool×Unit)=(vSk s,()):=fun h=>no (by unfold vSk;rw[h];simp)
 refine z1v (fun k a=>∃ i:Nat,i+k=s.2.1.length∧a=((i:Int),(z1y (s.2.1.take i),()))∧i≤30∧(∀ j,j<i→z8c s.2.1 j=true)∧∀ d∈z1y (s.2.1.take i),d≤8) ?_ ?_ (n:=s.2.1.length) ⟨0,by omega,by simp[z1y],by omega,fun j hj=>by omega,by simp[z1y]⟩
 · rintro a ⟨i,hi,rfl,hi30,hok,hd⟩ X
   obtain rfl:i=s.2.1.length:=by omega
   rw[List.take_length]at hd
   refine lenI fun _=>bcN ?_
   have hT:areT s.2.1=true:=by
    unfold areT
    rw[decide_eq_true hi30,List.all_eq_true.mpr fun i hi=>hok i (List.mem_range.mp hi),List.all_eq_true.mpr fun d h=>decide_eq_true (hd d h)];rfl
   have hf:=z06j s.1
   refine⟨_,zmi,_,z4g,z1r (fun hv=>lenI fun _=>z0e (fun _=>lenI fun _=>?_) (fun h=>by omega)) (fun hv=>no (by unfold vSk;rw[hv];simp))⟩
   have ev:vSk s=decide (zif s.1≤s.2.1.length):=by unfold vSk;rw[hv,hT];simp
   rw[ev]
   refine z3j (fun h=>?_) (fun h=>lenI fun _=>?_)
   · have:nulI s.1=[]:=List.length_eq_zero_iff.mp (by omega)
     rw[decide_eq_true (nextN_le.mpr (by rw[this];simp))]
   · have hw:w64 ((nulI s.1).length - 1:Int)=(((nulI s.1).length - 1:Nat):Int):=by rw[z1g (by omega) (by omega)];omega
     rw[hw]
     have hlt:(nulI s.1).length - 1<(nulI s.1).length:=by omega
     refine inI hlt (lenI fun _=>?_)
     rw[getI hlt]
     have hne:nulI s.1≠[]:=by intro e;rw[e]at h;simp at h
     have e1:zif s.1=(nulI s.1)[(nulI s.1).length - 1]+1:=by unfold zif;rw[List.getLast?_eq_some_getLast hne,List.getLast_eq_getElem]
     rw[e1]
     exact congrArg (fun b=>(b,())) (decide_eq_decide.mpr (by omega))
 · rintro k a ⟨i,hi,rfl,hi30,hok,hd⟩ X hX
   have hlt:i<s.2.1.length:=by omega
   have hdl:(z1y (s.2.1.take i)).length=i:=by rw[z03h,List.length_take];omega
   have nt':z8c s.2.1 i=false→((false,()):Bool×Unit)=(vSk s,()):=fun h=>na (by
    unfold areT
    have:(List.range s.2.1.length).all (z8c s.2.1)=false:=by
     rw[Bool.eq_false_iff];intro hall
     have:=List.all_eq_true.mp hall i (List.mem_range.mpr hlt);rw[h]at this;cases this
    rw[this];simp)
   have hta:=z6e hlt
   refine lenI fun hl=>bcI hlt ?_
   simp only
   rw[getI hlt]
   refine z1v (fun k a=>∃ j:Nat,j+k=s.2.1[i].2.2.1.length∧a=(mx (fun k=>(z1y (s.2.1.take i)).getD k.toNat 0) (z2h (s.2.1[i].2.2.1.take j)),((j:Int),()))∧(s.2.1[i].2.2.1.take j).all (zb5 i)=true) ?_ ?_ (n:=s.2.1[i].2.2.1.length) ⟨0,by omega,by simp[z2h,mx],by simp⟩
   rotate_left
   · rintro k a ⟨j,hj,rfl,hall⟩ Y hY
     have hjl:j<s.2.1[i].2.2.1.length:=by omega
     refine inI hlt (lenI fun _=>bcI hjl (inI hlt (inI hjl ?_)))
     simp only
     rw[getI hjl,z03 (by omega)]
     have bad:zb5 i s.2.1[i].2.2.1[j]=false→((false,()):Bool×Unit)=(vSk s,()):=fun h=>nt' (by
      unfold z8c
      rw[hta]
      have:s.2.1[i].2.2.1.all (zb5 i)=false:=by
       rw[Bool.eq_false_iff];intro hall
       have:=List.all_eq_true.mp hall _ (List.getElem_mem hjl);rw[h]at this;cases this
      rw[this];simp)
     have hnl:z2h (s.2.1[i].2.2.1.take (j+1))=z2h (s.2.1[i].2.2.1.take j)++(if z8d s.2.1[i].2.2.1[j] then[-1 - s.2.1[i].2.2.1[j]] else[]):=by
      rw[z07 hjl,zeq];congr 1
      unfold z2h
      cases h:z8d s.2.1[i].2.2.1[j]<;>simp[h]
     refine⟨_,_,za2,_,z9i,z0m (fun h=>bad (by unfold zb5;rw[h];rfl)) (fun hv=>?_)⟩
     have hnext:zb5 i s.2.1[i].2.2.1[j]=true→(s.2.1[i].2.2.1.take (j+1)).all (zb5 i)=true:=fun h=>by
      rw[z07 hjl,List.all_append,hall];simp[h]
     refine z1r (fun hn=>?_) (fun hn=>?_)
     · have hno:z4v s.2.1[i].2.2.1[j] = -1 - s.2.1[i].2.2.1[j]:=by unfold z4v;rw[if_pos hn]
       have hr:=isNul_iff.mp hn
       refine z0e (fun h=>bad ?_) (fun h=>?_)
       · unfold zb5;rw[hv,hn,decide_eq_true (show(i:Int)≤z4v s.2.1[i].2.2.1[j] from h)];rfl
       · rw[hn]
         refine bcT ⟨⟨by rw[hno];omega,by rw[hdl];omega⟩,hY _ ⟨j+1,by omega,?_,hnext ?_⟩⟩
         · rw[hnl,if_pos hn,z0hk,hno]
         · unfold zb5;rw[hv,hn,decide_eq_false (show ¬ (i:Int)≤z4v s.2.1[i].2.2.1[j] by omega)];rfl
     · rw[hn]
       refine bcF (hY _ ⟨j+1,by omega,?_,hnext ?_⟩)
       · rw[hnl,if_neg (by rw[hn];simp),List.append_nil]
       · unfold zb5;rw[hv,hn];rfl
   rintro a ⟨j,hj,rfl,hall⟩ Y
   obtain rfl:j=s.2.1[i].2.2.1.length:=by omega
   refine inI hlt (lenI fun _=>bcN ?_)
   simp only[List.take_length]at hall ⊢
   have hmx:=ziq (fun k=>(z1y (s.2.1.take i)).getD k.toNat 0) (z2h s.2.1[i].2.2.1)
   have hmx8:mx (fun k=>(z1y (s.2.1.take i)).getD k.toNat 0) (z2h s.2.1[i].2.2.1)≤8:=mx_le.mpr ⟨by omega,fun k hk=>by
    have hr:=zxi hall k hk
    have hkl:k.toNat<(z1y (s.2.1.take i)).length:=by omega
    rw[z0r hkl];exact hd _ (List.getElem_mem hkl)⟩
   have hw:w64 (mx (fun k=>(z1y (s.2.1.take i)).getD k.toNat 0) (z2h s.2.1[i].2.2.1)+1)=z89 (z1y (s.2.1.take i)) s.2.1[i].2.2.1:=by rw[z1g (by omega) (by omega)];rfl
   rw[hw]
   refine⟨by simp only[maxL,List.length_cons,List.length_nil];omega,?_⟩
   have hsn:z1y (s.2.1.take i)++[z89 (z1y (s.2.1.take i)) s.2.1[i].2.2.1]=z1y (s.2.1.take (i+1)):=by rw[z07 hlt,z8k]
   have hmem:z89 (z1y (s.2.1.take i)) s.2.1[i].2.2.1∈z1y s.2.1:=by
    have:∀(l m:List z05),∃ r,z1y (l++m)=z1y l++r:=by
     intro l m
     induction m generalizing l with
     |nil=>exact⟨[],by simp⟩
     | cons a m ih=>
       obtain⟨r,hr⟩:=ih (l++[a])
       rw[List.append_assoc,z8k,List.append_assoc]at hr
       exact⟨_,hr⟩
    obtain⟨r,hr⟩:=this (s.2.1.take (i+1)) (s.2.1.drop (i+1))
    rw[List.take_append_drop,←hsn]at hr
    rw[hr];simp
   refine z0e (fun h=>na ?_) (fun h8=>inI hlt (lenI fun _=>z0e (fun h=>nt' ?_) (fun h5=>z0e (fun h=>na ?_) (fun h30=>?_))))
   · unfold areT
     have:((z1y s.2.1).all fun d=>decide (d≤8))=false:=by
      rw[Bool.eq_false_iff];intro hall'
      have:=List.all_eq_true.mp hall' _ hmem
      have:z89 (z1y (s.2.1.take i)) s.2.1[i].2.2.1≤8:=by simpa using this
      unfold z89 at this;omega
     rw[this];simp
   · unfold z8c;rw[hta,decide_eq_false (show ¬ s.2.1[i].2.2.1.length≤5 by omega)];simp
   · unfold areT;rw[decide_eq_false (show ¬ s.2.1.length≤30 by omega)];simp
   · refine zb6 i (fun j=>decide (zex s.2.1 j=s.2.1[i])) (fun j=>((j:Int),())) (KT:=(s.2.1.take i).any (fun t=>decide (t=s.2.1[i]))=true) (KF:=(s.2.1.take i).any (fun t=>decide (t=s.2.1[i]))=false) ?_ ?_ ?_ ?_
     · intro j hj Z _ q1 q2
       have hjl:j<s.2.1.length:=by omega
       have bad:s.2.1[j]=s.2.1[i]→((false,()):Bool×Unit)=(vSk s,()):=fun h=>nt' (by
        have:=q1 (by rw[z6e hjl];exact decide_eq_true h)
        unfold z8c;rw[hta,this];simp)
       have good:s.2.1[j]≠s.2.1[i]→Z (((j+1:Nat):Int),()):=fun h=>q2 (by rw[z6e hjl];exact decide_eq_false h)
       refine bcI hj (inI hjl (inI hlt ?_))
       simp only
       rw[getI hjl,z03 (by omega)]
       refine z3j (fun h1=>inI hjl (inI hlt (z3j (fun h2=>inI hjl (inI hlt ⟨_,zmv,z3j (fun h3=>bad (Prod.ext h1 (Prod.ext h2 (Prod.ext (cmpL_zero.mp h3) rfl)))) (fun h3=>good fun e=>h3 (cmpL_zero.mpr (by rw[e])))⟩)) (fun h=>good fun e=>h (by rw[e]))))) (fun h=>good fun e=>h (by rw[e]))
     · intro Z hany
       refine bcN (inI hlt ⟨_,zf9,z0m (fun h=>nt' (by unfold z8c;rw[hta,h];simp)) (fun hd1=>inI hlt ⟨_,zf9,z0m (fun h=>nt' (by unfold z8c;rw[hta,h];simp)) (fun hd2=>?_)⟩)⟩)
       rw[z03 (by omega)]
       refine hX _ ⟨i+1,by omega,by rw[hsn],by omega,fun j hj=>?_,fun d hdm=>?_⟩
       · by_cases hji:j=i
         · subst hji
           unfold z8c
           rw[hta,hd1,hd2,hall,hany,decide_eq_true (show s.2.1[j].2.2.1.length≤5 by omega)];rfl
         · exact hok j (by omega)
       · rw[←hsn]at hdm
         rcases List.mem_append.mp hdm with hdm|hdm
         · exact hd d hdm
         · have:d=z89 (z1y (s.2.1.take i)) s.2.1[i].2.2.1:=by simpa using hdm
           rw[this];unfold z89;omega
     · rintro⟨j,hj,hp⟩
       have hjl:j<s.2.1.length:=by omega
       rw[z6e hjl]at hp
       refine List.any_eq_true.mpr ⟨s.2.1[j],?_,hp⟩
       have hjt:j<(s.2.1.take i).length:=by rw[List.length_take];omega
       have:(s.2.1.take i)[j]=s.2.1[j]:=by simp
       rw[←this];exact List.getElem_mem hjt
     · intro h
       rw[Bool.eq_false_iff];intro hany
       obtain⟨t,ht,hp⟩:=List.any_eq_true.mp hany
       obtain⟨j,hj,rfl⟩:=List.mem_iff_getElem.mp ht
       rw[List.length_take]at hj
       have:=h j (by omega)
       rw[z6e (by omega)]at this
       have e:(s.2.1.take i)[j]'(by rw[List.length_take];omega)=s.2.1[j]'(by omega):=by simp
       rw[e]at hp
       rw[hp]at this;cases this)
theorem zzi {v:Int} {k:Nat}:z7t v k (!zb5 k v):=zy3 _ _ _ (by
 unfold zml
 refine⟨_,_,zmp,_,z9s,z0m (fun h=>by unfold zb5;rw[h];rfl) (fun hv=>z1r (fun hn=>?_) (fun hn=>by unfold zb5;rw[hv,hn];rfl))⟩
 unfold zb5
 rw[hv,hn]
 simp)
theorem z04p {t:z05} {k:Nat}:zm2 t k (inR t.1 0 4&&inR t.2.1 0 4&&decide (t.2.2.1.length≤5)&&t.2.2.1.all (zb5 k)):=z04l _ _ _ (by
 unfold zsa
 refine⟨_,z88,z0m (fun h=>by rw[h];rfl) (fun h1=>⟨_,z88,z0m (fun h=>by rw[h];simp) (fun h2=>lenI fun _=>z0e (fun h=>?_) (fun h3=>⟨_,z6y (fun v=>!zb5 k v) (fun _ _=>zzi),?_⟩))⟩)⟩
 · rw[decide_eq_false (show ¬ t.2.2.1.length≤5 by omega)];simp
 · rw[h1,h2,decide_eq_true (show t.2.2.1.length≤5 by omega),z3t];simp)
theorem z050 {x y:z05}:zdt x y (decide (x=y)):=z04x _ _ _ (by
 unfold zs2
 have no:¬ x=y→((false,()):Bool×Unit)=(decide (x=y),()):=fun h=>by rw[decide_eq_false h]
 refine z3j (fun h1=>z3j (fun h2=>⟨_,zei,?_⟩) (fun h=>no fun e=>h (by rw[e]))) (fun h=>no fun e=>h (by rw[e]))
 obtain⟨a,b,c,_⟩:=x;obtain⟨a',b',c',_⟩:=y
 simp only at h1 h2;simp[h1,h2])
def zb4 (ts:List z05) (t:z05):Int:=if z04 (fun x=>decide (x=t)) ts<ts.length then(z04 (fun x=>decide (x=t)) ts:Int)else -1
theorem zri {ts:List z05} {t:z05}:zjk ts t (zb4 ts t):=z0b4 _ _ _ (by
 unfold z00m
 exact⟨_,z6k (fun x=>decide (x=t)) (fun _ _=>z050),rfl⟩)
theorem z02l {α:Type} {p:α→Bool} {l:List α} {i:Nat} (h:i<l.length) (hp:p l[i]=true):z04 p l=i↔(l.take i).any p=false:=by
 constructor
 · intro he
   rw[Bool.eq_false_iff];intro hany
   obtain⟨t,ht,hpt⟩:=List.any_eq_true.mp hany
   obtain⟨j,hj,rfl⟩:=List.mem_iff_getElem.mp ht
   rw[List.length_take]at hj
   have:=zan (p:=p) (l:=l) (i:=j) (by omega) (by omega)
   have e:(l.take i)[j]'(by rw[List.length_take];omega)=l[j]'(by omega):=by simp
   rw[e]at hpt;rw[this]at hpt;cases hpt
 · intro hany
   rcases Nat.lt_trichotomy (z04 p l) i with h1|h1|h1
   · have h2:=zae (p:=p) (l:=l) (by omega)
     have:(l.take i).any p=true:=List.any_eq_true.mpr ⟨l[z04 p l],by
      have hj:z04 p l<(l.take i).length:=by rw[List.length_take];omega
      have e:(l.take i)[z04 p l]=l[z04 p l]'(by omega):=by simp
      rw[←e];exact List.getElem_mem hj,h2⟩
     rw[hany]at this;cases this
   · exact h1
   · have:=zan (p:=p) h h1;rw[hp]at this;cases this
theorem z0d1 {ts:List z05} (hl:ts.length≤30) (ha:∀ k (h:k<ts.length),ts[k].2.2.1.all (zb5 k)=true∧ts[k].2.2.1.length≤5):zt3 ts (z1y ts):=z0bb _ _ (by
 unfold z01l
 refine lenI fun _=>?_
 have hbnd0:∀(n:Nat) (l:List z05),l.length=n→∀ d∈z1y l,1≤d∧d≤l.length:=by
  intro n
  induction n with
  |zero=>intro l hl;obtain rfl:=List.length_eq_zero_iff.mp hl;simp[z1y]
  | succ n ih0=>
    intro l0 hl d hd
    have hne:l0≠[]:=by intro e;rw[e]at hl;simp at hl
    obtain⟨l,t,rfl⟩:∃ l t,l0=l++[t]:=⟨_,_,(List.dropLast_concat_getLast hne).symm⟩
    have ih:=ih0 l (by simpa using hl)
    rw[z8k]at hd
    rw[List.length_append]
    rcases List.mem_append.mp hd with hd|hd
    · have:=ih d hd;simp;omega
    · have e:d=z89 (z1y l) t.2.2.1:=by simpa using hd
      rw[e]
      unfold z89
      have h0:=ziq (fun k=>(z1y l).getD k.toNat 0) (z2h t.2.2.1)
      have:mx (fun k=>(z1y l).getD k.toNat 0) (z2h t.2.2.1)≤l.length:=mx_le.mpr ⟨by omega,fun k _=>by
       by_cases hk:k.toNat<(z1y l).length
       · rw[z0r hk];exact(ih _ (List.getElem_mem hk)).2
       · rw[List.getD_eq_getElem?_getD,List.getElem?_eq_none (by omega)];simp⟩
      simp only[List.length_cons,List.length_nil];omega
 have hbnd:=fun l=>hbnd0 _ l rfl
 refine z1t ts.length (fun i=>((i:Int),(z1y (ts.take i),()))) (by simp[z1y]) ?_ ?_
 · intro i hi X hX
   have hdl:(z1y (ts.take i)).length=i:=by rw[z03h,List.length_take];omega
   have hai:=ha i hi
   refine bcI hi (inI hi ⟨_,zo6 (by simp only;rw[getI hi];omega),lenI fun hsl=>?_⟩)
   simp only at hsl ⊢
   rw[getI hi]at hsl ⊢
   refine z1t (sset (z2h ts[i].2.2.1)).length (fun j=>(((sset (z2h ts[i].2.2.1)).take j).foldl (fun m k=>maxI m ((z1y (ts.take i)).getD k.toNat 0)) 0+1,((j:Int),()))) (by simp) ?_ ?_
   · intro j hj Y hY
     have hm:=mem_sset.mp (List.getElem_mem hj)
     have hr:=zxi hai.1 _ hm
     have hkl:(sset (z2h ts[i].2.2.1))[j].toNat<(z1y (ts.take i)).length:=by omega
     refine bcI hj (inI hj ?_)
     simp only
     rw[getI hj,z03 (by omega)]
     refine⟨⟨hr.1,by rw[hdl];exact hr.2⟩,?_⟩
     have hb:=hbnd (ts.take i) _ (List.getElem_mem hkl)
     rw[List.length_take]at hb
     have e:(z1y (ts.take i)).getD (sset (z2h ts[i].2.2.1))[j].toNat 0=(z1y (ts.take i))[(sset (z2h ts[i].2.2.1))[j].toNat]:=z0r hkl
     rw[z1g (by rw[e];omega) (by rw[e];omega)]
     rw[z07 hj,List.foldl_append]at hY
     rw[zyo]
     exact hY
   · intro Y
     refine bcN ?_
     simp only[List.take_length]
     have hmx:(sset (z2h ts[i].2.2.1)).foldl (fun m k=>maxI m ((z1y (ts.take i)).getD k.toNat 0)) 0+1=z89 (z1y (ts.take i)) ts[i].2.2.1:=by
      unfold z89
      have:=z0fy (f:=fun k=>(z1y (ts.take i)).getD k.toNat 0) (l:=sset (z2h ts[i].2.2.1)) (m:=z2h ts[i].2.2.1) (fun k=>mem_sset)
      rw[←this];rfl
     rw[hmx,z03 (by omega)]
     refine⟨by simp only[maxL,List.length_cons,List.length_nil];omega,?_⟩
     rw[z07 hi,z8k]at hX
     exact hX
 · intro X
   refine bcN ?_
   simp only[List.take_length])
theorem zzu {d:Int}:z7p d (decide (d > 8)):=zzg _ _ (by unfold zn8;rfl)
theorem z03o {ts:List z05}:zlv ts (areT ts):=z05d _ _ (by
 unfold zt2
 have no:areT ts=false→((false,()):Bool×Unit)=(areT ts,()):=fun h=>by rw[h]
 refine lenI fun _=>z0e (fun h=>no (by unfold areT;rw[decide_eq_false (show ¬ ts.length≤30 by omega)];simp)) (fun hl=>lenI fun _=>?_)
 have tOk:∀ k (h:k<ts.length),z8c ts k=((inR ts[k].1 0 4&&inR ts[k].2.1 0 4&&decide (ts[k].2.2.1.length≤5)&&ts[k].2.2.1.all (zb5 k))&&decide (zb4 ts ts[k]=k)):=by
  intro k h
  have e:(!(ts.take k).any (fun t=>decide (t=ts[k])))=decide (zb4 ts ts[k]=k):=by
   have hf:=z02l (p:=fun t=>decide (t=ts[k])) h (by simp)
   cases hany:(ts.take k).any (fun t=>decide (t=ts[k]))with
   | false=>
     have:=hf.mpr hany
     unfold zb4
     rw[this,if_pos h];simp
   | true=>
     have hne:z04 (fun t=>decide (t=ts[k])) ts≠k:=fun e=>by rw[hf.mp e]at hany;cases hany
     unfold zb4
     split
     · rw[decide_eq_false (by omega)];rfl
     · rw[decide_eq_false (by omega)];rfl
  unfold z8c
  rw[z6e h,e]
 refine zb6 ts.length (fun k=>!z8c ts k) (fun k=>((k:Int),())) (KT:=areT ts=false) (KF:=∀ k,k<ts.length→z8c ts k=true) ?_ ?_ ?_ ?_
 · intro i hi X _ q1 q2
   refine bcI hi (inI hi ⟨_,z04p,?_⟩)
   simp only
   rw[getI hi,z03 (by omega)]
   rw[tOk i hi]at q1 q2
   refine z0m (fun h=>no (q1 (by rw[h];rfl))) (fun h=>⟨_,zri,z5y (fun h2=>no (q1 (by rw[decide_eq_false h2];simp))) (fun h2=>q2 (by rw[h,decide_eq_true h2];rfl))⟩)
 · intro X hall
   refine bcN ⟨_,z0d1 (by omega) (fun k hk=>?_),_,z7e (fun d=>decide (d > 8)) (fun _ _=>zzu),?_⟩
   · have:=hall k hk
     rw[tOk k hk]at this
     simp only[Bool.and_eq_true,decide_eq_true_eq]at this
     exact⟨this.1.2,this.1.1.2⟩
   · have e:(!(z1y ts).any fun d=>decide (d > 8))=(z1y ts).all fun d=>decide (d≤8):=by
      have h1:=z3t (p:=fun d:Int=>decide (d≤8)) (l:=z1y ts)
      have h2:(fun d:Int=>!decide (d≤8))=fun d=>decide (d > 8):=by funext d;by_cases h:d≤8<;>simp[h]<;>omega
      rw[h2]at h1;rw[h1];simp
     rw[e]
     unfold areT
     rw[decide_eq_true (show ts.length≤30 by omega),List.all_eq_true.mpr fun k hk=>hall k (List.mem_range.mp hk)];rfl
 · rintro⟨k,hk,hp⟩
   unfold areT
   have:(List.range ts.length).all (z8c ts)=false:=by
    rw[Bool.eq_false_iff];intro hall
    have:=List.all_eq_true.mp hall k (List.mem_range.mpr hk);rw[nt hp]at this;cases this
   rw[this];simp
 · intro h k hk;exact nf (h k hk))
theorem z3b {s:TSk}:z1o s (vSk s):=zit _ _ (by
 unfold zbn
 refine⟨_,z4j,z1r (fun h1=>lenI fun _=>⟨_,z03w (by have:=zox h1;omega),z0e (fun h2=>⟨_,z03o,?_⟩) (fun h2=>?_)⟩) (fun h1=>?_)⟩
 · unfold vSk;rw[h1,decide_eq_true h2];rfl
 · unfold vSk;rw[decide_eq_false h2];simp
 · unfold vSk;rw[h1];rfl)
theorem zco {d:TDep} (h1:(d.1.flatMap (·.2.1)).length≤1073741824) (h2:(d.2.1.flatMap (·.2.1)).length≤1073741824):z52 d (frV d):=zko _ _ (by
 unfold zcs
 have hv:=zk9 d.2.1
 refine⟨_,zbh h1,_,zbh h2,?_⟩
 refine z1t (vars d.2.1).length (fun i=>((i:Int),(((vars d.2.1).take i).filter (fun v=>decide (v∈vars d.1)),()))) (by simp) ?_ ?_
 · intro i hi X hX
   refine lenI fun _=>bcI hi (inI hi ⟨_,zrc,?_⟩)
   simp only
   rw[getI hi,z03 (by omega)]
   have e:((vars d.2.1).take (i+1)).filter (fun v=>decide (v∈vars d.1))=((vars d.2.1).take i).filter (fun v=>decide (v∈vars d.1))++(if (vars d.2.1)[i]∈vars d.1 then[(vars d.2.1)[i]] else[]):=by
    rw[z07 hi,List.filter_append]
    by_cases h:(vars d.2.1)[i]∈vars d.1<;>simp[h]
   rw[e]at hX
   have hb:=List.length_filter_le (fun v=>decide (v∈vars d.1)) ((vars d.2.1).take i)
   rw[List.length_take]at hb
   refine z1r (fun h=>inI hi ⟨by simp only[maxL,List.length_cons,List.length_nil];omega,?_⟩) (fun h=>?_)
   · have h:(vars d.2.1)[i]∈vars d.1:=by simpa using h
     rw[if_pos h]at hX;exact hX
   · have h:¬ (vars d.2.1)[i]∈vars d.1:=by simpa using h
     rw[if_neg h,List.append_nil]at hX;exact hX
 · intro X
   refine lenI fun _=>bcN ?_
   simp only[List.take_length]
   rfl)
theorem zch {d:TDep} (h1:(d.1.flatMap (·.2.1)).length≤1073741824) (h2:(d.2.1.flatMap (·.2.1)).length≤1073741824):z54 d (frV d):=zkb _ _ (by
 unfold zck
 exact⟨_,zhi h1 h2,by rw[z0ea]⟩)
theorem zcu {α σ:Type} {μ:σ→Nat} {g:σ→α→σ} {c:Nat}:∀ {l:List α} {s:σ},(∀ s,∀ a∈l,μ (g s a)≤μ s+c)→μ (l.foldl g s)≤μ s+l.length * c
 |[],s,_=>by simp
 | a::l,s,h=>by
   have h1:=h s a (by simp)
   have h2:=zcu (s:=g s a) fun s b (hb:b∈l)=>h s b (by simp[hb])
   rw[List.foldl_cons,List.length_cons,Nat.add_mul];omega
theorem z2p {α σ τ:Type} {B:(τ→Prop)→τ→Prop} (l:List α) (g:σ→α→σ) (s0:σ) (e:Nat→σ→τ) (μ:σ→Nat) (c N:Nat) (hN:l.length≤N) (hg:∀ s,∀ a∈l,μ (g s a)≤μ s+c)
  (hs:∀ i (h:i<l.length) (s:σ) (X:τ→Prop),μ s≤μ s0+N * c→X (e (i+1) (g s l[i]))→B X (e i s))
  (hf:∀ X:τ→Prop,μ (l.foldl g s0)≤μ s0+N * c→B X (e l.length (l.foldl g s0))):z0a B (e 0 s0):=by
 have hb:∀ i,i≤l.length→μ ((l.take i).foldl g s0)≤μ s0+N * c:=fun i hi=>by
  have h1:=zcu (μ:=μ) (g:=g) (c:=c) (l:=l.take i) (s:=s0) fun s a ha=>hg s a (List.mem_of_mem_take ha)
  rw[List.length_take,Nat.min_eq_left hi]at h1
  have:i * c≤N * c:=Nat.mul_le_mul_right c (by omega)
  omega
 refine zjb l g s0 e (fun i hi X hX=>hs i hi _ X (hb i (by omega)) hX) (fun X=>hf X ?_)
 have:=hb l.length (Nat.le_refl _)
 rwa [List.take_length]at this
def z0cq (d:TDep):Prop:=(d.1.flatMap (·.2.1)).length≤6∧(d.2.1.flatMap (·.2.1)).length≤6
theorem z0e6 {l:List TRel} {d:TDep} (h:vDep l d=true):z0cq d:=by
 have:=z8m h;exact⟨this.2.2.2.2.2.1,this.2.2.2.2.2.2⟩
theorem z03k {d:TDep} (h:z0cq d):(exV d).length≤6:=Nat.le_trans (List.length_filter_le _ _) (Nat.le_trans (zk9 _) h.2)
theorem zyu {d:TDep} (h:z0cq d):(frV d).length≤6:=Nat.le_trans (List.length_filter_le _ _) (Nat.le_trans (zk9 _) h.2)
theorem z05q {α:Type} {p q:α→Bool}:∀ {l:List α},(∀ x∈l,p x=true→q x=true)→l.countP p≤l.countP q
 |[],_=>by simp
 | a::l,h=>by
   have ih:=z05q (l:=l) fun x hx=>h x (by simp[hx])
   have ha:=h a (by simp)
   rw[List.countP_cons,List.countP_cons]
   cases hp:p a with
   |false=>cases q a<;>simp<;>omega
   |true=>rw[ha hp];simp;exact ih
theorem z06b {α:Type} {p q:α→Bool}:∀ {l:List α},(∀ x∈l,p x=true→q x=true)→(∃ x∈l,q x=true∧p x=false)→l.countP p<l.countP q
 |[],_,⟨_,h,_⟩=>by cases h
 | a::l,h,⟨x,hx,hq,hp⟩=>by
   have ih:=z05q (l:=l) fun x hx=>h x (by simp[hx])
   rw[List.countP_cons,List.countP_cons]
   rcases List.mem_cons.mp hx with rfl|hx
   · rw[hp,hq];simp;omega
   · have:=z06b (l:=l) (fun x hx=>h x (by simp[hx])) ⟨x,hx,hq,hp⟩
     have ha:=h a (by simp)
     cases hpa:p a with
     |false=>cases q a<;>simp<;>omega
     |true=>rw[ha hpa];simp;exact this
theorem z05v {α:Type} {l:List α} {i j:Nat} {x d:α} (h:i<l.length):(l.set i x).getD j d=if j=i then x else l.getD j d:=by
 by_cases hj:j<l.length
 · rw[z0r (by simpa using hj),z0r hj,List.getElem_set]
   by_cases hij:i=j
   · subst hij;simp
   · rw[if_neg hij,if_neg (Ne.symm hij)]
 · have:j≠i:=by omega
   rw[if_neg this,List.getD_eq_getElem?_getD,List.getD_eq_getElem?_getD,List.getElem?_eq_none (by simpa using hj),List.getElem?_eq_none (by omega)]
theorem z06o {α:Type} {l m:List α} {d:α} (hl:l.length=m.length) (h:∀ i,i<l.length→l.getD i d=m.getD i d):l=m:=by
 refine List.ext_getElem hl fun i h1 h2=>?_
 have:=h i h1
 rwa [z0r h1,z0r h2]at this
def z4f (l:List TRel) (ds:List TDep):Bool:=zp5 l ds && !ds.any fun d=>d.2.2.1
theorem zlm {l:List TRel} {ds:List TDep}:zdq l ds (z4f l ds):=z040 _ _ _ (by
 unfold zt8
 refine z7u ds (fun d=>d.2.2.1) (fun i=>((i:Int),())) (KT:=ds.any (fun d=>d.2.2.1)=true) (KF:=ds.any (fun d=>d.2.2.1)=false) ?_ ?_ id id
 · intro i hi X h1 h2
   refine lenI fun _=>bcI hi (inI hi ?_)
   simp only
   rw[getI hi,z03 (by omega)]
   refine z1r (fun h=>?_) (fun h=>h2 h)
   unfold z4f;rw[h1 h];simp
 · intro X h
   refine lenI fun _=>bcN ⟨_,zgz,?_⟩
   unfold z4f;rw[h];simp)
theorem z003 {d:TDep}:z7w d d.2.2.1:=zyg _ _ (by unfold znh;rfl)
theorem zgs {l:List TRel} {ds:List TDep}:zac l ds (z4f l ds):=z045 _ _ _ (by
 unfold zuy z4f
 refine⟨_,zh2,z1r (fun h=>⟨_,z4t (fun d=>d.2.2.1) (fun _ _=>z003),by rw[h];rfl⟩) (fun h=>by rw[h];rfl)⟩)
def srcF (l:List TRel) (f:z00):Bool:=zia l f&&z94 l f.1
theorem zs4 {l:List TRel} {f:z00}:zdg l f (srcF l f):=zrl _ _ _ (by
 unfold zj2 srcF
 refine⟨_,zkt,z1r (fun h=>?_) (fun h=>by rw[h];rfl)⟩
 have:=z1j h
 exact⟨⟨this.2.1,this.2.2.1⟩,by rw[h];rfl⟩)
theorem z21 {l:List Int} (h:l.length≤1099511627776):z0z l l:=zne _ _ (by
 unfold zec
 refine z1r (fun he=>⟨?_,by simp only[maxL,List.length_nil];omega,by rw[List.nil_append]⟩) (fun _=>⟨by simp only[maxL,List.length_nil];omega,by rw[List.nil_append]⟩)
 have:l=[]:=List.isEmpty_iff.mp he
 rw[this])
theorem zh5 {l:List TRel} (h:l.length≤1099511627776):z5o l l:=zh8 _ _ (by
 unfold z9r
 refine z1r (fun he=>⟨?_,by simp only[maxL,List.length_nil];omega,by rw[List.nil_append]⟩) (fun _=>⟨by simp only[maxL,List.length_nil];omega,by rw[List.nil_append]⟩)
 have:l=[]:=List.isEmpty_iff.mp he
 rw[this])
theorem zss {f:z00} (h:f.2.1.length≤1099511627776):ziz f f:=z09f _ _ (by
 unfold z02i
 try refine⟨trivial,?_⟩
 exact⟨by simp only[maxL,List.length_nil];omega,by rw[List.nil_append]⟩)
theorem z02y {f:z00} (h:f.2.1.length≤1099511627776):zlu f f:=z04h _ _ (by
 unfold zsn
 exact⟨_,z21 h,rfl⟩)
theorem zn3 {α τ:Type} {B:(τ→Prop)→τ→Prop} (l:List α) (e:Nat→List α→τ) (hl:l.length≤1073741824)
  (hs:∀ i (h:i<l.length) (s:List α) (X:τ→Prop),s.length≤1073741824→X (e (i+1) (s++[l[i]]))→B X (e i s))
  (hf:∀ X:τ→Prop,B X (e l.length l)):z0a B (e 0 []):=by
 refine z1t l.length (fun i=>e i (l.take i)) (by simp) ?_ ?_
 · intro i hi X hX
   rw[z07 hi]at hX
   exact hs i hi _ X (by rw[List.length_take];omega) hX
 · intro X;rw[List.take_length];exact hf X
theorem zp7 {l:List z00} (hl:l.length≤1073741824) (h:∀ f∈l,f.2.1.length≤1099511627776):zek l l:=z00f _ _ (by
 unfold zph
 refine lenI fun _=>zn3 l (fun i s=>((i:Int),(s,()))) hl ?_ ?_
 · intro i hi s X hs hX
   refine bcI hi (inI hi ⟨l[i],?_,⟨by simp only[maxL,List.length_cons,List.length_nil];omega,?_⟩⟩)
   · simp only;rw[getI hi];exact z02y (h _ (List.getElem_mem hi))
   · simp only;rw[z03 (by omega)];exact hX
 · intro X;exact bcN rfl)
theorem zlp:zam 1 5 0 5:=zoh _ _ _ _ (by
 unfold zfz
 decide)
abbrev zbe:List Int:=[10,10,10,10,10]
theorem zi1:z8w [10] 5 zbe:=zm9 _ _ _ (by
 unfold zdh
 refine bcF (lenI fun _=>⟨0,5,zrz _ _ _ _ ⟨0,5,zlp,rfl⟩,bcF (bcF ⟨by decide,by decide,?_⟩)⟩)
 refine z1t 3 (fun i=>match i with
  |0=>((1:Int),(([10,0,0,0,0]:List Int),()))
  |1=>((2:Int),(([10,10,0,0,0]:List Int),()))
  |2=>((4:Int),(([10,10,10,10,0]:List Int),()))
  |_=>((5:Int),(([10,10,10,10,10]:List Int),()))) (by decide) ?_ ?_
 · intro i hi X hX
   rcases i with _|_|_|i
   · exact lenI fun _=>bcT ⟨by decide,by decide,by decide,by rw[show ∀ z,w64 z=IntKind.i64.wrap z from fun _=>rfl];exact hX⟩
   · exact lenI fun _=>bcT ⟨by decide,by decide,by decide,by rw[show ∀ z,w64 z=IntKind.i64.wrap z from fun _=>rfl];exact hX⟩
   · exact lenI fun _=>bcT ⟨by decide,by decide,by decide,by rw[show ∀ z,w64 z=IntKind.i64.wrap z from fun _=>rfl];exact hX⟩
   · omega
 · intro X
   exact lenI fun _=>bcF rfl)
theorem zos:zag zbe:=zon _ (by unfold zfo;exact⟨_,zi1,rfl⟩)
theorem zwh:zjv 10:=z097 _ (by unfold zwi;rfl)
theorem z04u:zlw [10,10,10,10,10]:=z04b _ (by
 unfold zti
 refine z1t 5 (fun i=>(List.replicate i (10:Int),())) rfl ?_ ?_
 · intro i hi X hX
   refine lenI fun _=>z0e (fun _=>⟨_,zwh,by simp only[maxL,List.length_replicate,List.length_cons,List.length_nil];omega,?_⟩) (fun h=>by simp only[List.length_replicate]at h;omega)
   rw[List.replicate_succ']at hX;exact hX
 · intro X
   exact lenI fun _=>bcF rfl)
def fitP:List Int→List Int→List Int→List Int×Bool
 |[],_,b=>(b,true)
 | t::ts,v::vs,b=>if t<0 then(if -1 - t=v then fitP ts vs b else(b,false))
   else if b.getD t.toNat 0=10∨b.getD t.toNat 0=v then fitP ts vs (b.set t.toNat v)else(b,false)
 |_::_,[],b=>(b,false)
theorem zsx {t:Int} {ts:List Int} {v:Int} {vs b:List Int}:fitP (t::ts) (v::vs) b=if t<0 then(if -1 - t=v then fitP ts vs b else(b,false))
 else if b.getD t.toNat 0=10∨b.getD t.toNat 0=v then fitP ts vs (b.set t.toNat v)else(b,false):=rfl
theorem zgl:∀ {ts vs b:List Int},(fitP ts vs b).1.length=b.length
 |[],vs,b=>by simp[fitP]
 |t::ts,[],b=>by simp[fitP]
 | t::ts,v::vs,b=>by
   unfold fitP
   split
   · split
     · exact zgl
     · rfl
   · split
     · rw[zgl,List.length_set]
     · rfl
theorem z0fl {l:List Int} {i:Nat} {v:Int} (h:i<l.length) (hv:l.getD i 0=v):l.set i v=l:=by
 rw[z0r h]at hv
 subst hv
 exact List.set_getElem_self h
theorem z0ax {a f:z00} {b:List Int} (hl:a.2.1.length≤1000) (hb:b.length≤1000) (ht:∀ t∈a.2.1,-10≤t∧t<b.length) :
  zrp a f b (if a.1=f.1∧a.2.1.length=f.2.1.length then(fitP a.2.1 f.2.1 b).1 else b) (decide (a.1=f.1∧a.2.1.length=f.2.1.length)&&(fitP a.2.1 f.2.1 b).2):=z09k _ _ _ _ _ (by
 unfold z01n
 refine⟨by simp only[maxL,List.length_nil];omega,z5y (fun h=>by rw[if_neg (fun h'=>h h'.1)];simp[h]) (fun h1=>lenI fun _=>lenI fun _=>z5y (fun h=>?_) (fun h2=>?_))⟩
 · have h:¬ a.2.1.length=f.2.1.length:=by omega
   rw[if_neg (fun h'=>h h'.2)];simp[h]
 · have h2:a.2.1.length=f.2.1.length:=by omega
   rw[if_pos ⟨h1,h2⟩,decide_eq_true (And.intro h1 h2),Bool.true_and,List.nil_append]
   refine z1v (fun k s=>∃(i:Nat) (c:List Int),i+k=a.2.1.length∧s=((i:Int),(c,()))∧c.length=b.length∧fitP (a.2.1.drop i) (f.2.1.drop i) c=fitP a.2.1 f.2.1 b) ?_ ?_ (n:=a.2.1.length) ⟨0,b,by omega,rfl,rfl,by simp⟩
   · rintro s ⟨i,c,hi,rfl,hc,hf⟩ X
     obtain rfl:i=a.2.1.length:=by omega
     refine lenI fun _=>bcN ?_
     rw[←hf];simp[fitP]
   · rintro k s ⟨i,c,hi,rfl,hc,hf⟩ X hX
     have hlt:i<a.2.1.length:=by omega
     have hlt':i<f.2.1.length:=by omega
     rw[z4e hlt,z4e hlt']at hf
     have htr:=ht _ (List.getElem_mem hlt)
     refine lenI fun _=>bcI hlt (inI hlt ?_)
     simp only
     rw[getI hlt,getI hlt',z03 (by omega)]
     rw[zsx]at hf
     refine z0e (fun h3=>inI hlt' ?_) (fun h3=>?_)
     · rw[if_pos h3]at hf
       rw[z1g (by omega) (by omega)]
       refine z5y (fun h4=>?_) (fun h4=>?_)
       · rw[if_neg h4]at hf;rw[←hf]
       · rw[if_pos h4]at hf;exact hX _ ⟨i+1,c,by omega,rfl,hc,hf⟩
     · rw[if_neg h3]at hf
       have hin:a.2.1[i].toNat<c.length:=by omega
       refine⟨⟨by omega,by omega⟩,_,zwh,z5y (fun h4=>⟨⟨by omega,by omega⟩,inI hlt' (z5y (fun h5=>?_) (fun h5=>inI hlt' ⟨⟨by omega,by omega⟩,?_⟩))⟩) (fun h4=>inI hlt' ⟨⟨by omega,by omega⟩,?_⟩)⟩
       · rw[if_neg (by rintro (h|h);exact h4 h;exact h5 h)]at hf;rw[←hf]
       · rw[if_pos (.inr h5)]at hf;exact hX _ ⟨i+1,_,by omega,rfl,by rw[List.length_set];exact hc,hf⟩
       · rw[if_pos (.inl h4)]at hf;exact hX _ ⟨i+1,_,by omega,rfl,by rw[List.length_set];exact hc,hf⟩)
theorem z0gi {a f:z00} {b:List Int} (hl:a.2.1.length≤1000) (hb:b.length≤1000) (ht:∀ t∈a.2.1,-10≤t∧t<b.length) (hr:a.1=f.1→a.2.1.length=f.2.1.length) :
  z04n b a f (if a.1=f.1∧(fitP a.2.1 f.2.1 b).2 then(fitP a.2.1 f.2.1 b).1 else[]) (decide (a.1=f.1)&&(fitP a.2.1 f.2.1 b).2):=z0hh _ _ _ _ _ (by
 unfold z0be
 refine z5y (fun h=>by rw[if_neg (fun h'=>h h'.1)];simp[h]) (fun h1=>⟨_,z21 (by omega),lenI fun _=>?_⟩)
 have h2:=hr h1
 rw[decide_eq_true h1,Bool.true_and]
 refine z1v (fun k s=>∃(i:Nat) (c:List Int),i+k=a.2.1.length∧s=((i:Int),(c,()))∧c.length=b.length∧fitP (a.2.1.drop i) (f.2.1.drop i) c=fitP a.2.1 f.2.1 b) ?_ ?_ (n:=a.2.1.length) ⟨0,b,by omega,rfl,rfl,by simp⟩
 · rintro s ⟨i,c,hi,rfl,hc,hf⟩ X
   obtain rfl:i=a.2.1.length:=by omega
   refine bcN ?_
   rw[←hf];simp[fitP,h1]
 · rintro k s ⟨i,c,hi,rfl,hc,hf⟩ X hX
   have hlt:i<a.2.1.length:=by omega
   have hlt':i<f.2.1.length:=by omega
   rw[z4e hlt,z4e hlt']at hf
   have htr:=ht _ (List.getElem_mem hlt)
   refine bcI hlt (inI hlt (inI hlt' ?_))
   simp only
   rw[getI hlt,getI hlt',z03 (by omega)]
   rw[zsx]at hf
   refine z0e (fun h3=>?_) (fun h3=>?_)
   · rw[if_pos h3]at hf
     rw[z1g (by omega) (by omega)]
     refine z5y (fun h4=>?_) (fun h4=>?_)
     · rw[if_neg (fun h=>h4 h.symm)]at hf;rw[←hf];simp
     · rw[if_pos h4.symm]at hf;exact hX _ ⟨i+1,c,by omega,rfl,hc,hf⟩
   · rw[if_neg h3]at hf
     have hin:a.2.1[i].toNat<c.length:=by omega
     refine⟨⟨by omega,by omega⟩,z3j (fun h4=>⟨⟨by omega,by omega⟩,?_⟩) (fun h4=>⟨⟨by omega,by omega⟩,z5y (fun h5=>?_) (fun h5=>?_)⟩)⟩
     · rw[if_pos (.inl h4)]at hf;exact hX _ ⟨i+1,_,by omega,rfl,by rw[List.length_set];exact hc,hf⟩
     · rw[if_neg (by rintro (h|h);exact h4 h;exact h5 h)]at hf;rw[←hf];simp
     · rw[if_pos (.inr h5),z0fl hin h5]at hf;exact hX _ ⟨i+1,c,by omega,rfl,hc,hf⟩)
def zo1 (fs:List z00) (w:List Int→List (List Int)) (a:z00) (b:List Int) (out:List (List Int)) (f:z00):List (List Int):=if a.1=f.1∧(fitP a.2.1 f.2.1 b).2=true then out++w (fitP a.2.1 f.2.1 b).1 else out
def walk (fs:List z00):List z00→List Int→List (List Int)
 |[],b=>[b]
 |a::ats,b=>fs.foldl (zo1 fs (walk fs ats) a b) []
structure WOk (fs ats:List z00):Prop where
 few:fs.length≤30
 row:∀ a∈ats,a.2.1.length≤3∧∀ t∈a.2.1,-10≤t∧t<5
 fit:∀ a∈ats,∀ f∈fs,a.1=f.1→a.2.1.length=f.2.1.length
theorem WOk.tail {fs ats:List z00} {a:z00} (h:WOk fs (a::ats)):WOk fs ats:=⟨h.few,fun x hx=>h.row x (by simp[hx]),fun x hx=>h.fit x (by simp[hx])⟩
theorem zuk {fs ats:List z00} {a:z00} {b:List Int} {n:Nat} (hw:∀ c,(walk fs ats c).length≤n) (out:List (List Int)) (f:z00):(zo1 fs (walk fs ats) a b out f).length≤out.length+n:=by
 unfold zo1
 split
 · rw[List.length_append];have:=hw (fitP a.2.1 f.2.1 b).1;omega
 · omega
theorem zep {fs:List z00} (h:fs.length≤30):∀ {ats:List z00} {b:List Int},(walk fs ats b).length≤30 ^ ats.length
 |[],b=>by simp[walk]
 | a::ats,b=>by
   have:=zcu (l:=fs) (g:=zo1 fs (walk fs ats) a b) (s:=[]) (μ:=List.length) (c:=30 ^ ats.length) fun s f _=>zuk (fun c=>zep h) s f
   simp only[List.length_nil,Nat.zero_add]at this
   rw[List.length_cons,Nat.pow_succ,Nat.mul_comm]
   exact Nat.le_trans this (Nat.mul_le_mul_right _ h)
theorem z0eu {fs ats:List z00} {b c:List Int} (h:c∈walk fs ats b):c.length=b.length:=by
 induction ats generalizing b c with
 |nil=>simp[walk]at h;rw[h]
 | cons a ats ih=>
   have:∀(l:List z00) (out:List (List Int)),(∀ c∈out,c.length=b.length)→∀ c∈l.foldl (zo1 fs (walk fs ats) a b) out,c.length=b.length:=by
    intro l
    induction l with
    |nil=>intro out ho;exact ho
    | cons f l ihl=>
      intro out ho
      rw[List.foldl_cons]
      refine ihl _ fun c hc=>?_
      unfold zo1 at hc
      split at hc
      · rcases List.mem_append.mp hc with hc|hc
        · exact ho c hc
        · rw[ih hc,zgl]
      · exact ho c hc
   exact this fs [] (by simp) c h
def mOk (x:z09) (l:List z00):Bool:=l.all (z6s x.1)&&(z36 x&&decide (l.length≤3))
theorem zry {x:z09} {l:List z00} (h:mOk x l=true):WOk x.2.1 l∧l.length≤3:=by
 unfold mOk at h
 simp only[Bool.and_eq_true,decide_eq_true_eq]at h
 obtain⟨h1,h2,h3⟩:=h
 refine⟨⟨z41 h2,fun a ha=>?_,fun a ha f hf he=>?_⟩,h3⟩
 · have:=z1j (List.all_eq_true.mp h1 a ha)
   exact⟨this.2.2.2.2.1,fun t ht=>by have:=inR_iff.mp (this.2.2.2.2.2 t ht);omega⟩
 · have e1:=z1j (List.all_eq_true.mp h1 a ha)
   have e2:=z1j (z5g h2 hf)
   have:=e1.2.2.2.1
   have:=e2.2.2.2.1
   rw[he]at *
   omega
def dedG (out:List (List Int)) (b:List Int):List (List Int):=if b∈out then out else out++[b]
def z95 (x:z09) (l:List z00):List (List Int):=if mOk x l then(walk x.2.1 l zbe).foldl dedG [] else[]
theorem zzj (out:List (List Int)) (b:List Int):(dedG out b).length≤out.length+1:=by unfold dedG;split<;>simp
theorem zzc:∀ {l:List (List Int)} {out:List (List Int)} {b:List Int},b∈l.foldl dedG out→b∈out∨b∈l
 |[],out,b,h=>.inl h
 | c::l,out,b,h=>by
   rw[List.foldl_cons]at h
   rcases zzc h with h|h
   · unfold dedG at h
     split at h
     · exact .inl h
     · rcases List.mem_append.mp h with h|h
       · exact .inl h
       · simp at h;exact .inr (by simp[h])
   · exact .inr (by simp[h])
theorem zjx {x:z09} {l:List z00} {b:List Int} (h:b∈z95 x l):b.length=5:=by
 unfold z95 at h
 split at h
 · rcases zzc h with h|h
   · simp at h
   · rw[z0eu h];rfl
 · simp at h
theorem z04w {n:Nat} (h:n≤3):30 ^ n≤27000:=Nat.le_trans (Nat.pow_le_pow_right (by omega) h) (by decide)
theorem zj8 {x:z09} {l:List z00}:(z95 x l).length≤27000:=by
 unfold z95
 split
 · rename_i h
   have:=zcu (l:=walk x.2.1 l zbe) (g:=dedG) (s:=[]) (μ:=List.length) (c:=1) fun s f _=>zzj s f
   have h2:=zep (zry h).1.few (ats:=l) (b:=zbe)
   have:=z04w (zry h).2
   simp at *
   omega
 · exact Nat.zero_le _
theorem z0ez {x:z09} {l:List z00}:zyj x l (mOk x l):=z0fd _ _ _ (by
 unfold z05h
 refine z7u l (fun a=>!z6s x.1 a) (fun i=>((i:Int),())) (KT:=((false,()):Bool×Unit)=(mOk x l,())) (KF:=l.any (fun a=>!z6s x.1 a)=false) ?_ ?_ ?_ (fun h=>h)
 · intro i hi X h1 h2
   refine lenI fun _=>bcI hi (inI hi ⟨_,zfh,?_⟩)
   simp only
   rw[getI hi,z03 (by omega)]
   exact z1r h1 h2
 · intro X h
   refine lenI fun _=>bcN ⟨_,z4g,?_⟩
   rw[z3t]at h
   refine z1r (fun h1=>lenI fun _=>?_) (fun h1=>?_)
   · unfold mOk;rw[nf h,h1];simp;omega
   · unfold mOk;rw[h1];simp
 · intro h
   rw[z3t]at h
   unfold mOk;rw[nt h];rfl)
theorem zsw {x:z09} {l:List z00}:zdo x l (mOk x l):=zrn _ _ _ (by
 unfold ziw
 refine⟨_,z4j,z1r (fun h1=>lenI fun _=>z3j (fun h2=>?_) (fun h2=>⟨_,zm7,?_⟩)) (fun h1=>by unfold mOk;rw[h1];simp)⟩
 · have:l=[]:=List.eq_nil_of_length_eq_zero (by omega)
   unfold mOk;rw[this,h1];rfl
 · have:mOk x l=(inR l.length 1 3&&l.all (z6s x.1)):=by
    unfold mOk
    rw[h1,Bool.true_and,Bool.and_comm]
    congr 1
    have h0:1≤l.length:=by omega
    unfold inR
    rw[decide_eq_true (show(1:Int)≤(l.length:Int) by omega),Bool.true_and]
    exact decide_eq_decide.mpr (by omega)
   rw[this])
theorem zx2 {x:z09} {l:List z00} (h:WOk x.2.1 l) (hl:l.length≤3):∀(k n:Nat) (b:List Int),n+k=l.length→b.length=5→zjt x l n b (walk x.2.1 (l.drop n) b)
 | 0,n,b,hn,hb=>zx3 _ _ _ _ _ (by
   unfold zp6
   obtain rfl:n=l.length:=by omega
   refine lenI fun _=>z3j (fun _=>⟨by simp only[maxL,List.length_nil];omega,by rw[List.drop_length];rfl⟩) (fun h=>absurd rfl h))
 | k+1,n,b,hn,hb=>zx3 _ _ _ _ _ (by
   unfold zp6
   have hlt:n<l.length:=by omega
   refine lenI fun _=>z3j (fun h=>by omega) (fun _=>?_)
   rw[z4e hlt]
   have hrow:=h.row _ (List.getElem_mem hlt)
   refine z2p x.2.1 (zo1 x.2.1 (walk x.2.1 (l.drop (n+1))) l[n] b) [] (fun i s=>((i:Int),(s,()))) List.length 27000 30 h.few (fun s f _=>zuk (fun c=>Nat.le_trans (zep h.few) (z04w (by rw[List.length_drop];omega))) s f) ?_ ?_
   · intro i hi s X hs hX
     have hfew:=h.few
     refine lenI fun _=>bcI hi (inI hlt (inI hi ⟨_,_,z0ax (a:=l.getD (Int.toNat (n:Int)) z0h) (f:=x.2.1.getD (Int.toNat (i:Int)) z0h) (b:=b) ?_ (by omega) ?_,?_⟩))
     · rw[getI hlt];omega
     · rw[getI hlt];intro t ht;have:=hrow.2 t ht;omega
     · simp only
       rw[getI hlt,getI hi,z03 (by omega),z03 (by omega)]
       have hfit:=h.fit _ (List.getElem_mem hlt) _ (List.getElem_mem hi)
       unfold zo1 at hX
       by_cases hc:l[n].1=x.2.1[i].1
       · rw[if_pos ⟨hc,hfit hc⟩,decide_eq_true (And.intro hc (hfit hc)),Bool.true_and]
         refine z1r (fun h4=>⟨_,zx2 h hl k (n+1) _ (by omega) (by rw[zgl];exact hb),?_,?_⟩) (fun h4=>?_)
         · have h5:(walk x.2.1 (l.drop (n+1)) (fitP l[n].2.1 x.2.1[i].2.1 b).1).length≤27000:=Nat.le_trans (zep h.few) (z04w (by rw[List.length_drop];omega))
           simp only[maxL,List.length_nil]at *
           omega
         · rw[if_pos ⟨hc,h4⟩]at hX;exact hX
         · rw[if_neg (by rintro⟨_,h5⟩;rw[h4]at h5;cases h5)]at hX;exact hX
       · rw[if_neg (fun h=>hc h.1),decide_eq_false (fun h=>hc h.1),Bool.false_and]
         rw[if_neg (fun h=>hc h.1)]at hX
         exact bcF hX
   · intro X _
     exact lenI fun _=>bcN rfl)
theorem zwl {fs:List z00}:∀ {l:List z00} (b:List Int),WOk fs l→l.length≤3→b.length=5→zjr fs l b (walk fs l b)
 |[],b,h,hl,hb=>zx8 _ _ _ _ (by unfold zo0;exact lenI fun _=>bcT rfl)
 | a::l,b,h,hl,hb=>zx8 _ _ _ _ (by
   unfold zo0
   have hrow:=h.row a (by simp)
   refine lenI fun _=>z3j (fun h=>by simp at h;omega) (fun _=>lenI fun _=>?_)
   have hd:List.drop (Int.toNat (1:Int)) (List.take (Int.toNat ((a::l).length:Int)) (a::l))=l:=by rw[Int.toNat_natCast,List.take_length];rfl
   rw[hd]
   refine z2p fs (zo1 fs (walk fs l) a b) [] (fun i s=>((i:Int),(s,()))) List.length 27000 30 h.few (fun s f _=>zuk (fun c=>Nat.le_trans (zep h.few) (z04w (by simp at hl;omega))) s f) ?_ ?_
   · intro i hi s X hs hX
     have hfew:=h.few
     refine bcI hi (inI hi ⟨⟨by omega,by simp only[List.length_cons];omega⟩,_,_,z0gi (a:=a) (f:=fs.getD (Int.toNat (i:Int)) z0h) (b:=b) (by omega) (by omega) (fun t ht=>by have:=hrow.2 t ht;omega) ?_,?_⟩)
     · rw[getI hi];exact h.fit a (by simp) _ (List.getElem_mem hi)
     · simp only
       rw[getI hi,z03 (by omega)]
       unfold zo1 at hX
       by_cases hc:a.1=fs[i].1
       · rw[decide_eq_true hc,Bool.true_and]
         refine z1r (fun h4=>⟨⟨by omega,by simp;omega,by omega⟩,_,zwl _ h.tail (by simp at hl;omega) (by rw[if_pos ⟨hc,h4⟩,zgl];exact hb),?_,?_⟩) (fun h4=>?_)
         · have h5:∀ c,(walk fs l c).length≤27000:=fun c=>Nat.le_trans (zep h.few) (z04w (by simp at hl;omega))
           have:=h5 (if a.1=fs[i].1∧(fitP a.2.1 fs[i].2.1 b).2=true then(fitP a.2.1 fs[i].2.1 b).1 else[])
           simp only[maxL,List.length_nil]at *
           omega
         · rw[if_pos ⟨hc,h4⟩]at hX ⊢;exact hX
         · rw[if_neg (by rintro⟨_,h5⟩;rw[h4]at h5;cases h5)]at hX;exact hX
       · rw[decide_eq_false hc,Bool.false_and]
         rw[if_neg (fun h=>hc h.1)]at hX
         exact bcF hX
   · intro X _
     exact bcN rfl)
theorem zzo {l:List (List Int)} {b:List Int}:zgi l b (decide (b∈l)):=zzd _ _ _ (by
 unfold zmx
 refine⟨_,z65 (fun t=>decide (t=b)) (fun t _=>zus _ _ _ ⟨_,zei,rfl⟩),?_⟩
 have:(l.any fun t=>decide (t=b))=decide (b∈l):=by
  rw[←zt1]
  congr 1;funext t
  by_cases h:t=b
  · simp[h]
  · have:¬ b=t:=fun e=>h e.symm
    simp[h,this]
 rw[this])
def mkd {α:Type} (w:List α) (i:Nat):List (Bool×α):=(w.take i).map (fun y=>(false,y))++(w.drop i).map (fun y=>(true,y))
theorem z0an {α:Type} {w:List α} {i:Nat}:(mkd w i).length=w.length:=by
 unfold mkd
 rw[List.length_append,List.length_map,List.length_map,←List.length_append,List.take_append_drop]
theorem z0b8 {α:Type} {w:List α} {i:Nat} (h:i<w.length) {d:Bool×α}:List.getD (mkd w i) i d=(true,w[i]):=by
 have hl:((w.take i).map (fun y=>(false,y))).length=i:=by simp;omega
 unfold mkd
 rw[List.getD_eq_getElem?_getD,List.getElem?_append_right (by omega),hl,Nat.sub_self,List.getElem?_map,List.getElem?_drop,Nat.add_zero,List.getElem?_eq_getElem h]
 rfl
theorem z0b9 {α:Type} {w:List α} {i:Nat} (h:i<w.length):List.set (mkd w i) i (false,w[i])=mkd w (i+1):=by
 have hl:((w.take i).map (fun y=>(false,y))).length=i:=by simp;omega
 unfold mkd
 rw[List.set_append,hl,if_neg (by omega),Nat.sub_self,List.drop_eq_getElem_cons h,List.map_cons,List.set_cons_zero,z07 h,List.map_append,List.append_assoc]
 rfl
theorem zl5 {x:z09} {l:List z00}:zav x l (z95 x l):=zvt _ _ _ (by
 unfold zl2
 refine⟨_,zsw,z0m (fun h=>by unfold z95;rw[h];rfl) (fun h=>?_)⟩
 obtain⟨hw,hl⟩:=zry h
 refine⟨_,zos,_,zwl zbe hw hl rfl,lenI fun _=>?_⟩
 have hlen:(walk x.2.1 l zbe).length≤27000:=Nat.le_trans (zep hw.few) (z04w hl)
 unfold z95
 rw[h,if_pos rfl]
 rw[show List.map (fun y=>(true,y)) (walk x.2.1 l zbe)=mkd (walk x.2.1 l zbe) 0 from rfl]
 refine z2p (walk x.2.1 l zbe) dedG [] (fun i s=>((i:Int),(s,(mkd (walk x.2.1 l zbe) i,())))) List.length 1 27000 hlen (fun s f _=>zzj s f) ?_ ?_
 · intro i hi s X hs hX
   refine bcI hi (inI (by rw[z0an];exact hi) ?_)
   simp only[Int.toNat_natCast]
   rw[z0b8 hi]
   refine⟨rfl,_,zzo,?_⟩
   simp only
   rw[z0b9 hi,z03 (by omega)]
   unfold dedG at hX
   refine zd1 (fun h4=>⟨by simp only[maxL,List.length_nil,List.length_cons]at *;omega,?_⟩) (fun h4=>?_)
   · rw[if_neg h4]at hX;exact hX
   · rw[if_pos h4]at hX;exact hX
 · intro X _
   exact bcN rfl)
theorem zl4 {x:z09} {l:List z00}:zaq x l (z95 x l):=zw0 _ _ _ (by
 unfold zkq
 refine⟨_,z0ez,z0m (fun h=>by unfold z95;rw[h];rfl) (fun h=>?_)⟩
 obtain⟨hw,hl⟩:=zry h
 refine⟨_,z04u,_,zx2 hw hl l.length 0 zbe (by omega) rfl,?_⟩
 rw[List.drop_zero]
 have hlen:(walk x.2.1 l zbe).length≤27000:=Nat.le_trans (zep hw.few) (z04w hl)
 unfold z95
 rw[h,if_pos rfl]
 refine z2p (walk x.2.1 l zbe) dedG [] (fun i s=>((i:Int),(s,(walk x.2.1 l zbe,())))) List.length 1 27000 hlen (fun s f _=>zzj s f) ?_ ?_
 · intro i hi s X hs hX
   refine lenI fun _=>bcI hi ?_
   simp only
   rw[z03 (by omega)]
   refine zjb s (fun(m:Bool) c=>m||decide (c=(walk x.2.1 l zbe)[i])) false (fun j m=>(m,((j:Int),()))) ?_ ?_
   · intro j hj Y hY
     refine lenI fun _=>bcI hj ?_
     simp only
     rw[z03 (by simp at hs;omega)]
     generalize (s.take j).foldl (fun(m:Bool) c=>m||decide (c=(walk x.2.1 l zbe)[i])) false=m at hY ⊢
     cases m with
     |true=>exact bcT hY
     | false=>
       refine bcF (inI hj (inI hi ⟨_,zmv,?_⟩))
       rw[getI hj,getI hi]
       have:(cmpL s[j] (walk x.2.1 l zbe)[i] == (0:Int))=decide (s[j]=(walk x.2.1 l zbe)[i]):=by
        by_cases he:s[j]=(walk x.2.1 l zbe)[i]
        · rw[cmpL_zero.mpr he];simp[he]
        · have:cmpL s[j] (walk x.2.1 l zbe)[i]≠0:=fun e=>he (cmpL_zero.mp e)
          simp[he,this]
       rw[this];simpa using hY
   · intro Y
     refine lenI fun _=>bcN ?_
     simp only
     have hm:∀(s:List (List Int)) (m:Bool),s.foldl (fun(m:Bool) c=>m||decide (c=(walk x.2.1 l zbe)[i])) m=(m||decide ((walk x.2.1 l zbe)[i]∈s)):=by
      intro s
      induction s with
      |nil=>intro m;simp
      | cons c s ih=>
        intro m
        rw[List.foldl_cons,ih,Bool.or_assoc]
        congr 1
        by_cases he:c=(walk x.2.1 l zbe)[i]
        · simp[he]
        · have:¬ (walk x.2.1 l zbe)[i]=c:=fun e=>he e.symm
          simp[he,this]
     rw[hm,Bool.false_or]
     unfold dedG at hX
     refine zd1 (fun h4=>inI hi ⟨by simp only[maxL,List.length_nil,List.length_cons]at *;omega,?_⟩) (fun h4=>?_)
     · rw[getI hi];rw[if_neg h4]at hX;exact hX
     · rw[if_pos h4]at hX;exact hX
 · intro X _
   exact lenI fun _=>bcN rfl)
def z08j (b:List Int) (t:Int):Option Int:=if 0≤t then(if (b.length:Int)≤t then none else if vVal (b.getD t.toNat 0)then some (b.getD t.toNat 0)else none)else(if vVal (-1 - t)then some (-1 - t)else none)
def zhs (b:List Int) (s:List Int) (t:Int):Unit ⊕ List Int:=match z08j b t with
 |none=>.inl ()
 |some v=>.inr (s++[v])
def inst (a:z00) (b:List Int):z00:=match runE (zhs b) a.2.1 []with
 |.inl _=>z0h
 |.inr s=>(a.1,(s,()))
def zab (a:z00) (b:List Int):Bool:=match runE (zhs b) a.2.1 []with
 |.inl _=>false
 |.inr _=>true
theorem znq {b:List Int}:∀ {l:List Int} {s s':List Int},runE (zhs b) l s = .inr s'→s'.length=s.length+l.length
 |[],s,s',h=>by simp only[runE,Sum.inr.injEq]at h;subst h;simp
 | t::l,s,s',h=>by
   simp only[runE]at h
   unfold zhs at h
   cases e:z08j b t with
   |none=>rw[e]at h;simp at h
   | some v=>
     rw[e]at h
     have:=znq (b:=b) (l:=l) h
     simp at this ⊢
     omega
theorem z0fu {a:z00} {b:List Int}:(inst a b).2.1.length≤a.2.1.length:=by
 unfold inst
 cases e:runE (zhs b) a.2.1 []with
 |inl _=>simp
 |inr s=>have:=znq e;simp at this ⊢;omega
theorem z0bl {a:z00} {b:List Int} {r:Unit} (h:runE (zhs b) a.2.1 [] = .inl r):((z0h,(false,())):z00×Bool×Unit)=(inst a b,(zab a b,())):=by unfold inst zab;rw[h]
theorem z06v {a:z00} {b s:List Int} (h:runE (zhs b) a.2.1 [] = .inr s):(((a.1,(s,())),(true,())):z00×Bool×Unit)=(inst a b,(zab a b,())):=by unfold inst zab;rw[h]
theorem zau {a:z00} {b:List Int} (hl:a.2.1.length≤1000) (hb:b.length≤1000) (ht:∀ t∈a.2.1,-10≤t∧t<5):z6g a b (inst a b) (zab a b):=zvy _ _ _ _ (by
 unfold zks
 refine lenI fun _=>zej a.2.1 (zhs b) [] (fun i s=>((i:Int),(z0h,((a.1,(s,())),())))) (KR:=fun _=>((z0h,(false,())):z00×Bool×Unit)=(inst a b,(zab a b,()))) ?_ ?_ (fun r hr=>z0bl hr)
 · intro i hi s X hr h1 h2
   have hs:=znq hr
   have htr:=ht _ (List.getElem_mem hi)
   refine bcI hi (inI hi ?_)
   simp only
   rw[getI hi,z03 (by omega)]
   unfold zhs z08j at h1 h2
   rw[List.length_take,List.length_nil]at hs
   refine z0e (fun h3=>lenI fun _=>z0e (fun h4=>?_) (fun h4=>⟨⟨by omega,by omega⟩,_,z9s,z0m (fun h5=>?_) (fun h5=>⟨by simp only[maxL,List.length_cons,List.length_nil];omega,?_⟩)⟩)) (fun h3=>⟨_,z9s,?_⟩)
   · exact h1 () (by rw[if_pos (by omega),if_pos (by omega)])
   · exact h1 () (by rw[if_pos (by omega),if_neg (by omega),h5];rfl)
   · exact h2 _ (by rw[if_pos (by omega),if_neg (by omega),h5];rfl)
   · rw[z1g (by omega) (by omega)]
     refine z0m (fun h5=>?_) (fun h5=>⟨by simp only[maxL,List.length_cons,List.length_nil];omega,?_⟩)
     · exact h1 () (by rw[if_neg (by omega),h5];rfl)
     · exact h2 _ (by rw[if_neg (by omega),h5];rfl)
 · intro s X hr
   exact bcN (z06v hr))
theorem zf6 {a:z00} {b:List Int} (hl:a.2.1.length≤1000) (hb:b.length≤1000) (ht:∀ t∈a.2.1,-10≤t∧t<5):z8g a b (inst a b) (zab a b):=zv8 _ _ _ _ (by
 unfold zkx
 refine zej a.2.1 (zhs b) [] (fun i s=>((i:Int),(z0h,((a.1,(s,())),())))) (KR:=fun _=>((z0h,(false,())):z00×Bool×Unit)=(inst a b,(zab a b,()))) ?_ ?_ (fun r hr=>z0bl hr)
 · intro i hi s X hr h1 h2
   have hs:=znq hr
   have htr:=ht _ (List.getElem_mem hi)
   refine lenI fun _=>bcI hi (inI hi (inI hi ?_))
   simp only
   rw[getI hi,z03 (by omega)]
   unfold zhs z08j at h1 h2
   rw[List.length_take,List.length_nil]at hs
   refine z0e (fun h3=>inI hi (lenI fun _=>z0e (fun h4=>?_) (fun h4=>inI hi ⟨⟨by omega,by omega⟩,_,z9i,z0m (fun h5=>?_) (fun h5=>inI hi (z0e (fun h6=>by omega) (fun h6=>⟨by simp only[maxL,List.length_cons,List.length_nil];omega,?_⟩)))⟩))) (fun h3=>⟨_,z9i,?_⟩)
   · exact h1 () (by rw[if_pos (by omega),if_pos (by omega)])
   · exact h1 () (by rw[if_pos (by omega),if_neg (by omega),h5];rfl)
   · exact h2 _ (by rw[if_pos (by omega),if_neg (by omega),h5];rfl)
   · rw[z1g (by omega) (by omega)]
     refine z0m (fun h5=>?_) (fun h5=>inI hi (z0e (fun _=>z0e (fun h6=>by omega) (fun _=>⟨by simp only[maxL,List.length_cons,List.length_nil];omega,?_⟩)) (fun h6=>by omega)))
     · exact h1 () (by rw[if_neg (by omega),h5];rfl)
     · exact h2 _ (by rw[if_neg (by omega),h5];rfl)
 · intro s X hr
   exact lenI fun _=>bcN (z06v hr))
theorem zev {k:Int} (h0:0≤k) (h1:k≤1000000):z91 k (-1 - k):=z024 _ _ (by unfold zpb;rw[z1g (by omega) (by omega)])
theorem zhy {k:Int} (h0:0≤k) (h1:k≤1000000):zba k (-1 - k):=z01o _ _ (by unfold zp9;rw[z1g (by omega) (by omega)])
theorem ze7 {α:Type} [BEq α] [LawfulBEq α] [DecidableEq α] {l:List α} {b:α}:(l.any fun t=>decide (t=b))=decide (b∈l):=by
 rw[←zt1]
 congr 1;funext t
 by_cases h:t=b
 · simp[h]
 · have:¬ b=t:=fun e=>h e.symm
   simp[h,this]
theorem zk2 {l:List z00} {f:z00}:zd7 l f (decide (f∈l)):=z08a _ _ _ (by
 unfold zwc
 refine⟨_,z6x (fun t=>decide (t=f)) (fun t _=>z01k _ _ _ ⟨_,zly,rfl⟩),?_⟩
 rw[ze7])
def za8 (l:List z00) (f:z00):Int:=if z04 (fun x=>decide (x=f)) l<l.length then(z04 (fun x=>decide (x=f)) l:Int)else -1
theorem z06l {l:List z00} {f:z00}:decide (za8 l f≥0)=decide (f∈l):=by
 have:=zg6 (fun x=>decide (x=f)) l
 rw[ze7]at this
 exact this
theorem z072 {l:List z00} {f:z00} (h:f∈l):∃ p:Nat,za8 l f=p∧∃ hp:p<l.length,l[p]=f:=by
 have h1:z04 (fun x=>decide (x=f)) l<l.length:=firstAt_any.mpr (by rw[ze7];simpa using h)
 refine⟨_,by unfold za8;rw[if_pos h1],h1,?_⟩
 simpa using zae h1
theorem z09i {l:List z00} {f:z00} (h:f∉l):za8 l f = -1:=by
 unfold za8
 rw[if_neg]
 intro h1
 have:=firstAt_any.mp h1
 rw[ze7]at this
 exact h (by simpa using this)
theorem zyi {x f:z00}:(cmpF x f == (0:Int))=decide (x=f):=by
 by_cases h:x=f
 · rw[cmpF_zero.mpr h];simp[h]
 · have:cmpF x f≠0:=fun e=>h (cmpF_zero.mp e)
   simp[h,this]
theorem zod {x:z09} {f:z00}:zg3 x f (za8 x.2.1 f):=z094 _ _ _ (by
 unfold zxb
 refine zd4 x.2.1 (fun t=>decide (t=f)) (fun i=>((i:Int),())) (KT:=fun i=>(((i:Int),()):Int×Unit)=(za8 x.2.1 f,())) (KF:=(((-1:Int),()):Int×Unit)=(za8 x.2.1 f,())) ?_ ?_ ?_ ?_
 · intro i hi X h1 h2
   refine lenI fun _=>bcI hi (inI hi ⟨_,z96,?_⟩)
   simp only
   rw[getI hi,zyi,z03 (by omega)]
   exact z1r h1 h2
 · intro X h;exact lenI fun _=>bcN h
 · intro h;unfold za8;rw[if_pos h]
 · intro h;unfold za8;rw[if_neg (by omega)])
theorem zix {x:z09} {f:z00}:z9l x f (z36 x&&decide (f∈x.2.1)):=zso _ _ _ (by
 unfold zj3
 refine⟨_,z4g,z1r (fun h=>⟨_,zod,?_⟩) (fun h=>by rw[h];rfl)⟩
 rw[z06l,h,Bool.true_and])
theorem zwj:∀ {x y z:List Int},cmpL x y<0→cmpL y z<0→cmpL x z<0
 |[],[],z,h,_=>by simp[cmpL]at h
 |[],b::y,[],_,h=>by simp[cmpL]at h
 |[],b::y,c::z,_,_=>by simp[cmpL]
 |a::x,[],z,h,_=>by simp[cmpL]at h
 |a::x,b::y,[],_,h=>by simp[cmpL]at h
 | a::x,b::y,c::z,h1,h2=>by
   simp only[cmpL]at h1 h2 ⊢
   have ih:=zwj (x:=x) (y:=y) (z:=z)
   split at h1
   · split at h2
     · rw[if_pos (by omega)];omega
     · split at h2
       · omega
       · rw[if_pos (by omega)];omega
   · split at h1
     · omega
     · split at h2
       · rw[if_pos (by omega)];omega
       · split at h2
         · omega
         · rw[if_neg (by omega),if_neg (by omega)];exact ih h1 h2
theorem zak {x y z:z00} (h1:cmpF x y<0) (h2:cmpF y z<0):cmpF x z<0:=by
 unfold cmpF at *
 split at h1
 · split at h2
   · rw[if_pos (by omega)];omega
   · split at h2
     · omega
     · rw[if_pos (by omega)];omega
 · split at h1
   · omega
   · split at h2
     · rw[if_pos (by omega)];omega
     · split at h2
       · omega
       · rw[if_neg (by omega),if_neg (by omega)];exact zwj h1 h2
def asc (l:List z00):Prop:=∀ i j (hj:j<l.length) (hij:i<j),cmpF (l[i]'(by omega)) l[j]<0
theorem zs5 {x:z09} (h:z36 x=true):asc x.2.1:=by
 have step:∀ i (hi:i+1<x.2.1.length),cmpF (x.2.1[i]'(by omega)) x.2.1[i+1]<0:=by
  intro i hi
  unfold z36 at h
  simp only[Bool.and_eq_true]at h
  have:=List.all_eq_true.mp h.2 (i+1) (by simpa using hi)
  unfold z8j at this
  simp only[Bool.and_eq_true]at this
  have:=this.1.2
  rw[show(i+1 == 0)=false by simp,Bool.false_or]at this
  have h:=of_decide_eq_true this
  rw[Nat.add_sub_cancel,z2e (by omega),z2e hi]at h
  exact h
 have all:∀ k i (hk:i+1+k<x.2.1.length),cmpF (x.2.1[i]'(by omega)) x.2.1[i+1+k]<0:=by
  intro k
  induction k with
  |zero=>intro i hk;exact step i hk
  |succ k ih=>intro i hk;exact zak (ih i (by omega)) (step (i+1+k) hk)
 intro i j hj hij
 obtain⟨k,rfl⟩:∃ k,j=i+1+k:=⟨j - i - 1,by omega⟩
 exact all k i hj
theorem midI {i j:Nat} (hi:i≤1000) (hj:j≤1000):w64 (Int.fdiv (IntKind.u64.wrap (w64 ((i:Int)+(j:Int)))) (2 ^ (min (Int.toNat (1:Int)) (IntKind.bits .u64))))=(((i+j) / 2:Nat):Int):=by
 rw[z1g (n:=(i:Int)+(j:Int)) (by omega) (by omega)]
 have e1:IntKind.u64.wrap ((i:Int)+(j:Int))=(i:Int)+(j:Int):=by
  simp only[IntKind.wrap,IntKind.signed,IntKind.bits]
  simp
  omega
 have e2:(2:Int) ^ (min (Int.toNat (1:Int)) (IntKind.bits .u64))=2:=by decide
 rw[e1,e2,Int.fdiv_eq_ediv_of_nonneg _ (by omega),z1g (by omega) (by omega)]
 omega
theorem z0ch {l:List z00} {f:z00} (hl:l.length≤30) (ha:asc l) :
  ∃ p:Nat,z0x l f () p (decide (f∈l))∧(f∈l→za8 l f=p∧p<l.length):=by
 suffices h:∃ p:Nat,p≤l.length∧(∀ j (h:j<l.length),j<p→cmpF l[j] f<0)∧(∀ j (h:j<l.length),p≤j→¬ cmpF l[j] f<0) by
  obtain⟨p,hp,h1,h2⟩:=h
  have key:∀ q (hq:q<l.length),l[q]=f→q=p:=by
   intro q hq he
   have hz:cmpF l[q] f=0:=cmpF_zero.mpr he
   have hge:p≤q:=by
    rcases Nat.lt_or_ge q p with h|h
    · have:=h1 q hq h;omega
    · exact h
   rcases Nat.lt_or_ge p q with h|h
   · have:=ha p q hq h
     rw[he]at this
     exact absurd this (h2 p (by omega) (Nat.le_refl _))
   · omega
  refine⟨p,z4o _ _ _ _ _ ?_,fun hm=>?_⟩
  · unfold z29
    refine lenI fun _=>?_
    refine z1v (fun k s=>∃ i j:Nat,s=((i:Int),((j:Int),()))∧j - i≤k∧i≤p∧p≤j∧j≤l.length) ?_ ?_ (n:=l.length) ⟨0,l.length,rfl,by omega,by omega,hp,by omega⟩
    · rintro s ⟨i,j,rfl,hk,hi,hj,hjl⟩ X
      obtain rfl:i=p:=by omega
      obtain rfl:j=i:=by omega
      refine z0e (fun h=>by simp only at h;omega) (fun _=>?_)
      have hfin:∀(h:j<l.length),(cmpF l[j] f == (0:Int))=decide (f∈l):=by
       intro h
       rw[zyi]
       refine decide_eq_decide.mpr ⟨fun e=>e ▸ List.getElem_mem h,fun hm=>?_⟩
       obtain⟨q,hq,he⟩:=List.mem_iff_getElem.mp hm
       obtain rfl:=key q hq he
       exact he
      refine z0e (fun h=>?_) (fun h=>?_)
      · have h:j<l.length:=by simp only at h;omega
        refine inI h ⟨_,z5h,?_⟩
        rw[getI h,hfin h]
      · have h:l.length≤j:=by simp only at h;omega
        have:f∉l:=fun hm=>by
         obtain⟨q,hq,he⟩:=List.mem_iff_getElem.mp hm
         have:=key q hq he
         omega
        rw[decide_eq_false this]
    · rintro k s ⟨i,j,rfl,hk,hi,hj,hjl⟩ X hX
      by_cases hij:i<j
      · refine z0e (fun _=>?_) (fun h=>by simp only at h;omega)
        simp only
        rw[midI (by omega) (by omega)]
        have hm:(i+j) / 2<l.length:=by omega
        refine⟨by omega,⟨by omega,by omega⟩,_,z5h,?_⟩
        rw[getI hm]
        refine z0e (fun h=>?_) (fun h=>?_)
        · rw[z03 (by omega)]
          refine hX _ ⟨(i+j) / 2+1,j,rfl,by omega,?_,hj,hjl⟩
          rcases Nat.lt_or_ge ((i+j) / 2) p with h'|h'
          · omega
          · exact absurd h (h2 _ hm h')
        · refine hX _ ⟨i,(i+j) / 2,rfl,by omega,hi,?_,by omega⟩
          rcases Nat.lt_or_ge ((i+j) / 2) p with h'|h'
          · exact absurd (h1 _ hm h') h
          · exact h'
      · obtain rfl:i=p:=by omega
        obtain rfl:j=i:=by omega
        refine z0e (fun h=>by simp only at h;omega) (fun _=>?_)
        have hfin:∀(h:j<l.length),(cmpF l[j] f == (0:Int))=decide (f∈l):=by
         intro h
         rw[zyi]
         refine decide_eq_decide.mpr ⟨fun e=>e ▸ List.getElem_mem h,fun hm=>?_⟩
         obtain⟨q,hq,he⟩:=List.mem_iff_getElem.mp hm
         obtain rfl:=key q hq he
         exact he
        refine z0e (fun h=>?_) (fun h=>?_)
        · have h:j<l.length:=by simp only at h;omega
          refine inI h ⟨_,z5h,?_⟩
          rw[getI h,hfin h]
        · have h:l.length≤j:=by simp only at h;omega
          have:f∉l:=fun hm=>by
           obtain⟨q,hq,he⟩:=List.mem_iff_getElem.mp hm
           have:=key q hq he
           omega
          rw[decide_eq_false this]
  · obtain⟨q,e1,hq,e2⟩:=z072 hm
    have:=key q hq e2
    subst this
    exact⟨e1,hq⟩
 refine⟨z04 (fun t=>!decide (cmpF t f<0)) l,zft _ _,fun j hj h=>?_,fun j hj h h3=>?_⟩
 · have:=zan hj h
   simpa using this
 · have hp:z04 (fun t=>!decide (cmpF t f<0)) l<l.length:=by omega
   have h4:=zae hp
   simp only[Bool.not_eq_true',decide_eq_false_iff_not]at h4
   rcases Nat.lt_or_ge (z04 (fun t=>!decide (cmpF t f<0)) l) j with h5|h5
   · exact h4 (zak (ha _ j hj h5) h3)
   · have:z04 (fun t=>!decide (cmpF t f<0)) l=j:=by omega
     simp only[this]at h4
     exact h4 h3
theorem z0c6 {l:List TRel} {ats:List z00} (h:∀ a∈ats,z6s l a=true) {v:Int} (hv:v∈vars ats):0≤v∧v<5:=by
 unfold vars at hv
 rw[mem_sset,List.mem_filter]at hv
 obtain⟨h1,h2⟩:=hv
 obtain⟨a,ha,h3⟩:=List.mem_flatMap.mp h1
 have:=inR_iff.mp ((z1j (h a ha)).2.2.2.2.2 v h3)
 have:0≤v:=by simpa using h2
 omega
structure DOk (d:TDep):Prop where
 sm:z0cq d
 ex:∀ v∈exV d,0≤v∧v<5
 fr:∀ v∈frV d,0≤v∧v<5
 hd:d.2.1.length≤2∧∀ a∈d.2.1,a.2.1.length≤3∧∀ t∈a.2.1,-10≤t∧t<5
 bd:d.1.length≤2∧∀ a∈d.1,a.2.1.length≤3∧∀ t∈a.2.1,-10≤t∧t<5
theorem z0g3 {l:List TRel} {d:TDep} (h:vDep l d=true):DOk d:=by
 have hs:=z8m h
 have row:∀ ats:List z00,(∀ a∈ats,z6s l a=true)→∀ a∈ats,a.2.1.length≤3∧∀ t∈a.2.1,-10≤t∧t<5:=fun ats h a ha=>by
  have:=z1j (h a ha)
  exact⟨this.2.2.2.2.1,fun t ht=>by have:=inR_iff.mp (this.2.2.2.2.2 t ht);omega⟩
 exact⟨z0e6 h,fun v hv=>z0c6 hs.2.2.2.2.1 (List.mem_filter.mp hv).1,fun v hv=>z0c6 hs.2.2.2.2.1 (List.mem_filter.mp hv).1,⟨hs.2.2.2.1,row _ hs.2.2.2.2.1⟩,⟨hs.2.1,row _ hs.2.2.1⟩⟩
def z7b (d:TDep) (b:List Int):List Int:=(frV d).foldl (fun s v=>s++[b.getD v.toNat 0]) []
theorem zp3 {d:TDep} (h:z0cq d) (b:List Int):(z7b d b).length≤6:=by
 have:=zcu (l:=frV d) (g:=fun s v=>s++[b.getD v.toNat 0]) (s:=[]) (μ:=List.length) (c:=1) fun s v _=>by simp
 have:=zyu h
 unfold z7b
 simp at *
 omega
def tmOf (d:TDep) (i:Int) (b:List Int) (v:Int):z05:=(i,(v,(z7b d b,())))
theorem zug {ts:List z05} {t:z05} (h:t∈ts):0≤zb4 ts t∧zb4 ts t<ts.length:=by
 have h1:z04 (fun x=>decide (x=t)) ts<ts.length:=firstAt_any.mpr (by rw[ze7];simpa using h)
 unfold zb4
 rw[if_pos h1];omega
theorem zwx {ts:List z05} {t:z05} (h:t∉ts):zb4 ts t = -1:=by
 unfold zb4
 rw[if_neg]
 intro h1
 have:=firstAt_any.mp h1
 rw[ze7]at this
 exact h (by simpa using this)
def hdG (d:TDep) (i:Int) (b:List Int) (s:List z05×List Int) (v:Int):List z05×List Int:=
 if tmOf d i b v∈s.1 then(s.1,s.2.set v.toNat (-1 - zb4 s.1 (tmOf d i b v)))else(s.1++[tmOf d i b v],s.2.set v.toNat (-1 - (s.1.length:Int)))
def hdS (ts:List z05) (d:TDep) (i:Int) (b:List Int):List z05×List Int:=(exV d).foldl (hdG d i b) (ts,b)
def valG (ts:List z05) (d:TDep) (i:Int) (b:List Int) (vs:List Int) (v:Int):List Int:=vs.set v.toNat (-1 - zb4 ts (tmOf d i b v))
theorem z06e {d:TDep} {i:Int} {b:List Int}:∀ {l:List Int} {s:List z05×List Int},s.1.length≤(l.foldl (hdG d i b) s).1.length
 |[],s=>Nat.le_refl _
 | v::l,s=>by
   rw[List.foldl_cons]
   refine Nat.le_trans ?_ z06e
   unfold hdG
   split<;>simp
theorem z0a5 {d:TDep} {i:Int} {b:List Int} {ts:List z05}:∀ {l:List Int} {vs:List Int},(∀ v∈l,tmOf d i b v∈ts)→l.foldl (hdG d i b) (ts,vs)=(ts,l.foldl (valG ts d i b) vs)
 |[],vs,_=>rfl
 | v::l,vs,h=>by
   rw[List.foldl_cons,List.foldl_cons]
   have:hdG d i b (ts,vs) v=(ts,valG ts d i b vs v):=by unfold hdG valG;rw[if_pos (h v (by simp))]
   rw[this]
   exact z0a5 fun v hv=>h v (by simp[hv])
theorem z0d7 {d:TDep} {i:Int} {b:List Int} {ts:List z05}:∀ {l:List Int} {vs:List Int},(l.foldl (hdG d i b) (ts,vs)).1.length=ts.length→∀ v∈l,tmOf d i b v∈ts
 |[],vs,_=>by simp
 | v::l,vs,h=>by
   rw[List.foldl_cons]at h
   by_cases hv:tmOf d i b v∈ts
   · have:hdG d i b (ts,vs) v=(ts,valG ts d i b vs v):=by unfold hdG valG;rw[if_pos hv]
     rw[this]at h
     intro u hu
     rcases List.mem_cons.mp hu with rfl|hu
     · exact hv
     · exact z0d7 h u hu
   · have h1:=z06e (d:=d) (i:=i) (b:=b) (l:=l) (s:=hdG d i b (ts,vs) v)
     have h2:(hdG d i b (ts,vs) v).1.length=ts.length+1:=by unfold hdG;rw[if_neg hv];simp
     omega
theorem z005 (d:TDep) (i:Int) (b:List Int) (s:List z05×List Int) (v:Int):(hdG d i b s v).2.length=s.2.length:=by unfold hdG;split<;>simp
theorem zy8 (d:TDep) (i:Int) (b:List Int) (s:List z05×List Int) (v:Int):(hdG d i b s v).1.length≤s.1.length+1:=by unfold hdG;split<;>simp
def zaj (d:TDep) (vs:List Int):List z00:=d.2.1.foldl (fun out a=>out++[inst a vs]) []
theorem zk3 {α β:Type} (f:α→β):∀(l:List α) (s:List β),l.foldl (fun out a=>out++[f a]) s=s++l.map f
 |[],s=>by simp
 |a::l,s=>by rw[List.foldl_cons,zk3 f l];simp
def z034 (ts:List z05) (d:TDep) (i:Int) (b:List Int) (f:z00):Bool:=
 (exV d).all (fun v=>decide (tmOf d i b v∈ts))&&d.2.1.any fun a=>decide (inst a ((exV d).foldl (valG ts d i b) b)=f)
theorem z8h {l:List z05} (h:l.length≤1099511627776):z33 l l:=zfb _ _ (by
 unfold z8i
 refine z1r (fun he=>⟨?_,by simp only[maxL,List.length_nil];omega,by rw[List.nil_append]⟩) (fun _=>⟨by simp only[maxL,List.length_nil];omega,by rw[List.nil_append]⟩)
 have:l=[]:=List.isEmpty_iff.mp he
 rw[this])
theorem z00h {ts:List z05} {ds:List TDep} {i:Nat} {b:List Int} (hi:i<ds.length) (hd:DOk ds[i]) (hts:ts.length≤30) (hb:b.length=5) :
  zji ts ds i b (zaj ds[i] (hdS ts ds[i] i b).2) (hdS ts ds[i] i b).1:=z02f _ _ _ _ _ _ (by
 unfold zpo
 obtain⟨hs1,hs2⟩:=hd.sm
 have hfl:=zyu hd.sm
 have hel:=z03k hd.sm
 have hal:=zp3 hd.sm b
 refine inI hi ⟨_,z21 (by omega),_,zch (d:=ds.getD (Int.toNat (i:Int)) zDep) (by rw[getI hi];omega) (by rw[getI hi];omega),?_⟩
 rw[getI hi]
 refine lenI fun _=>z2p (frV ds[i]) (fun s v=>s++[b.getD v.toNat 0]) [] (fun j s=>((j:Int),(s,()))) List.length 1 6 hfl (fun s v _=>by simp) ?_ ?_
 · intro j hj s X hs hX
   have hv:=hd.fr _ (List.getElem_mem hj)
   refine bcI hj (inI hj ?_)
   simp only
   rw[getI hj,z03 (by omega)]
   exact⟨⟨by omega,by omega⟩,by simp only[maxL,List.length_cons,List.length_nil]at *;omega,hX⟩
 · intro X _
   refine bcN ⟨_,z8h (by omega),_,z9c (by omega) (by omega),lenI fun _=>?_⟩
   refine z2p (exV ds[i]) (hdG ds[i] i b) (ts,b) (fun j s=>((j:Int),(s.1,(s.2,())))) (fun s=>s.1.length+(if s.2.length=5 then 0 else 1000000)) 1 6 hel (fun s v _=>by rw[z005];have:=zy8 ds[i] i b s v;omega) ?_ ?_
   · intro j hj s Y hs hY
     have hv:=hd.ex _ (List.getElem_mem hj)
     have h5:s.2.length=5∧s.1.length≤36:=by
      rw[if_pos hb]at hs
      by_cases h:s.2.length=5
      · rw[if_pos h]at hs;simp only at hs;omega
      · rw[if_neg h]at hs;simp only at hs;omega
     refine bcI hj (inI hj ⟨_,z21 (by show(z7b ds[i] b).length≤_;omega),_,zri,?_⟩)
     simp only
     rw[getI hj,z03 (by omega)]
     have e:(((i:Int),((exV ds[i])[j],((frV ds[i]).foldl (fun s v=>s++[b.getD v.toNat 0]) [],()))):z05)=tmOf ds[i] i b (exV ds[i])[j]:=rfl
     rw[e]
     unfold hdG at hY
     by_cases hm:tmOf ds[i] i b (exV ds[i])[j]∈s.1
     · have h6:=zug hm
       rw[if_pos hm]at hY
       refine z0e (fun h=>by omega) (fun _=>⟨_,zev h6.1 (by omega),⟨by omega,by omega⟩,hY⟩)
     · rw[zwx hm]
       rw[if_neg hm]at hY
       refine z0e (fun _=>lenI fun _=>⟨by simp only[maxL,List.length_cons,List.length_nil];omega,_,zev (by omega) (by omega),⟨by omega,by omega⟩,hY⟩) (fun h=>by omega)
   · intro Y hs
     have h5:(hdS ts ds[i] i b).2.length=5:=by
      rw[if_pos hb]at hs
      by_cases h:(hdS ts ds[i] i b).2.length=5
      · exact h
      · unfold hdS at h;rw[if_neg h]at hs;simp only at hs;omega
     refine bcN (lenI fun _=>?_)
     refine z2p ds[i].2.1 (fun out a=>out++[inst a (hdS ts ds[i] i b).2]) [] (fun j s=>((j:Int),(s,()))) List.length 1 2 hd.hd.1 (fun s a _=>by simp) ?_ ?_
     · intro j hj s Z hs hZ
       have ha:=hd.hd.2 _ (List.getElem_mem hj)
       refine bcI hj (inI hj ⟨_,_,zau (a:=(ds[i].2.1).getD (Int.toNat (j:Int)) z0h) (b:=(hdS ts ds[i] i b).2) (by rw[getI hj];omega) (by omega) (by rw[getI hj];exact ha.2),?_⟩)
       simp only
       rw[getI hj,z03 (by omega)]
       exact⟨by simp only[maxL,List.length_cons,List.length_nil]at *;omega,hZ⟩
     · intro Z _
       exact bcN rfl)
theorem zpz {ts:List z05} {ds:List TDep} {i:Nat} {b:List Int} (hi:i<ds.length) (hd:DOk ds[i]) (hts:ts.length≤30) (hb:b.length=5) :
  zbw ts ds i b (zaj ds[i] (hdS ts ds[i] i b).2) (hdS ts ds[i] i b).1 b:=zps _ _ _ _ _ _ _ (by
 unfold zhj
 obtain⟨hs1,hs2⟩:=hd.sm
 have hfl:=zyu hd.sm
 have hel:=z03k hd.sm
 have hal:=zp3 hd.sm b
 refine inI hi ⟨_,z21 (by omega),_,zch (d:=ds.getD (Int.toNat (i:Int)) zDep) (by rw[getI hi];omega) (by rw[getI hi];omega),?_⟩
 rw[getI hi]
 refine lenI fun _=>z2p (frV ds[i]) (fun s v=>s++[b.getD v.toNat 0]) [] (fun j s=>((j:Int),(s,()))) List.length 1 6 hfl (fun s v _=>by simp) ?_ ?_
 · intro j hj s X hs hX
   have hv:=hd.fr _ (List.getElem_mem hj)
   refine bcI hj (inI hj ?_)
   simp only
   rw[getI hj,z03 (by omega)]
   exact⟨⟨by omega,by omega⟩,by simp only[maxL,List.length_cons,List.length_nil]at *;omega,hX⟩
 · intro X _
   refine bcN ⟨_,z8h (by omega),_,z9c (by omega) (by omega),lenI fun _=>?_⟩
   refine z2p (exV ds[i]) (hdG ds[i] i b) (ts,b) (fun j s=>((j:Int),(s.1,(s.2,())))) (fun s=>s.1.length+(if s.2.length=5 then 0 else 1000000)) 1 6 hel (fun s v _=>by rw[z005];have:=zy8 ds[i] i b s v;omega) ?_ ?_
   · intro j hj s Y hs hY
     have hv:=hd.ex _ (List.getElem_mem hj)
     have h5:s.2.length=5∧s.1.length≤36:=by
      rw[if_pos hb]at hs
      by_cases h:s.2.length=5
      · rw[if_pos h]at hs;simp only at hs;omega
      · rw[if_neg h]at hs;simp only at hs;omega
     refine bcI hj (inI hj ⟨_,z21 (by show(z7b ds[i] b).length≤_;omega),_,zri,?_⟩)
     simp only
     rw[getI hj,z03 (by omega)]
     have e:(((i:Int),((exV ds[i])[j],((frV ds[i]).foldl (fun s v=>s++[b.getD v.toNat 0]) [],()))):z05)=tmOf ds[i] i b (exV ds[i])[j]:=rfl
     rw[e]
     unfold hdG at hY
     by_cases hm:tmOf ds[i] i b (exV ds[i])[j]∈s.1
     · have h6:=zug hm
       rw[if_pos hm]at hY
       refine z0e (fun h=>by omega) (fun _=>⟨_,zev h6.1 (by omega),⟨by omega,by omega⟩,hY⟩)
     · rw[zwx hm]
       rw[if_neg hm]at hY
       refine z0e (fun _=>lenI fun _=>⟨by simp only[maxL,List.length_cons,List.length_nil];omega,_,zev (by omega) (by omega),⟨by omega,by omega⟩,hY⟩) (fun h=>by omega)
   · intro Y hs
     have h5:(hdS ts ds[i] i b).2.length=5:=by
      rw[if_pos hb]at hs
      by_cases h:(hdS ts ds[i] i b).2.length=5
      · exact h
      · unfold hdS at h;rw[if_neg h]at hs;simp only at hs;omega
     refine bcN (lenI fun _=>?_)
     refine z2p ds[i].2.1 (fun out a=>out++[inst a (hdS ts ds[i] i b).2]) [] (fun j s=>((j:Int),(s,()))) List.length 1 2 hd.hd.1 (fun s a _=>by simp) ?_ ?_
     · intro j hj s Z hs hZ
       have ha:=hd.hd.2 _ (List.getElem_mem hj)
       refine bcI hj (inI hj ⟨_,_,zau (a:=(ds[i].2.1).getD (Int.toNat (j:Int)) z0h) (b:=(hdS ts ds[i] i b).2) (by rw[getI hj];omega) (by omega) (by rw[getI hj];exact ha.2),?_⟩)
       simp only
       rw[getI hj,z03 (by omega)]
       exact⟨by simp only[maxL,List.length_cons,List.length_nil]at *;omega,hZ⟩
     · intro Z _
       exact bcN rfl)
def zuw (dp:List Int) (m v:Int):Int:=if z8d v then(if z4v v<(dp.length:Int)then maxI m (dp.getD (z4v v).toNat 0)else m)else m
def z04o (dp:List Int) (t:z05):List Int:=dp++[w64 (t.2.2.1.foldl (zuw dp) 0+1)]
theorem zu0:∀(l:List z05) (s:List Int),(l.foldl z04o s).length=s.length+l.length
 |[],s=>by simp
 |t::l,s=>by rw[List.foldl_cons,zu0];simp[z04o];omega
theorem zpi {s:TSk} {t:z05} (hl:s.2.1.length≤30):zd8 s t (((s.2.1++[t]).foldl z04o []).getD s.2.1.length 0):=by
 refine z07w _ _ _ ?_
 unfold zw3
 refine z1t (s.2.1.length+1) (fun i=>((i:Int),(((s.2.1++[t]).take i).foldl z04o [],()))) rfl ?_ ?_
 · intro i hi X hX
   have hlen:=zu0 ((s.2.1++[t]).take i) []
   have hin:i<(s.2.1++[t]).length:=by simp;omega
   rw[z07 hin,List.foldl_append]at hX
   simp only[List.foldl_cons,List.foldl_nil]at hX
   rw[List.length_take,List.length_nil,Nat.min_eq_left (by omega)]at hlen
   simp only
   generalize ((s.2.1++[t]).take i).foldl z04o []=dp at hX hlen ⊢
   refine lenI fun _=>z0e (fun _=>lenI fun _=>z0e (fun h=>?_) (fun h=>?_)) (fun h=>by omega)
   · have hi':i<s.2.1.length:=by omega
     rw[List.getElem_append_left hi']at hX
     refine inI hi' ?_
     rw[getI hi',z03 (by omega)]
     refine zjb s.2.1[i].2.2.1 (zuw dp) 0 (fun j m=>(m,((j:Int),()))) ?_ ?_
     · intro j hj Y hY
       refine lenI fun _=>bcI hj (inI hj ⟨_,_,za2,?_⟩)
       simp only
       rw[getI hj,z03 (by omega)]
       generalize (s.2.1[i].2.2.1.take j).foldl (zuw dp) 0=m at hY ⊢
       unfold zuw at hY
       refine z1r (fun h=>lenI fun _=>z0e (fun h2=>⟨⟨zhx _,h2⟩,?_⟩) (fun h2=>?_)) (fun h=>?_)
       · rw[if_pos h,if_pos h2]at hY;exact hY
       · rw[if_pos h,if_neg h2]at hY;exact hY
       · rw[h]at hY;simpa using hY
     · intro Y
       exact lenI fun _=>bcN ⟨by simp only[maxL,List.length_cons,List.length_nil];omega,hX⟩
   · obtain rfl:i=s.2.1.length:=by omega
     rw[show(s.2.1++[t])[s.2.1.length]=t by simp]at hX
     rw[z03 (by omega)]
     refine zjb t.2.2.1 (zuw dp) 0 (fun j m=>(m,((j:Int),()))) ?_ ?_
     · intro j hj Y hY
       refine lenI fun _=>bcI hj (inI hj ⟨_,_,za2,?_⟩)
       simp only
       rw[getI hj,z03 (by omega)]
       generalize (t.2.2.1.take j).foldl (zuw dp) 0=m at hY ⊢
       unfold zuw at hY
       refine z1r (fun h=>lenI fun _=>z0e (fun h2=>⟨⟨zhx _,h2⟩,?_⟩) (fun h2=>?_)) (fun h=>?_)
       · rw[if_pos h,if_pos h2]at hY;exact hY
       · rw[if_pos h,if_neg h2]at hY;exact hY
       · rw[h]at hY;simpa using hY
     · intro Y
       exact lenI fun _=>bcN ⟨by simp only[maxL,List.length_cons,List.length_nil];omega,hX⟩
 · intro X
   have hlen:=zu0 (s.2.1++[t]) []
   simp only[List.length_append,List.length_cons,List.length_nil]at hlen
   refine lenI fun _=>z0e (fun h=>by simp only at h;omega) (fun _=>lenI fun _=>?_)
   have e:(s.2.1++[t]).take (s.2.1.length+1)=s.2.1++[t]:=List.take_of_length_le (by simp)
   simp only[e,Int.toNat_natCast]
   exact⟨⟨by omega,by omega⟩,trivial⟩
theorem z09d {s:TSk} {t:z05} (hl:s.2.1.length≤30):∃ y,zd8 s t y:=⟨_,zpi hl⟩
theorem z0h0 (x y:z05):(x=y)↔x.1=y.1∧x.2.1=y.2.1∧x.2.2.1=y.2.2.1:=by
 obtain⟨a,b,c,u⟩:=x;obtain⟨a',b',c',u'⟩:=y
 simp
def z0iv (s:TSk) (t:z05) (K:TSk×Int×Bool×Unit→Prop):Prop:=lenA (s.2.1.length:Int) (z01 ((s.2.1.length:Int) == (30:Int)) (K (s,((0:Int),(false,())))) (∃ y5:Int,zd8 s t y5∧
 z01 (decide (y5 > (8:Int))) (K (s,((0:Int),(false,())))) (True∧True∧([]:List z05).length+s.2.1.length≤maxL∧(([]:List z05)++s.2.1).length+([t]:List z05).length≤maxL∧
  lenA (List.length ((([]:List z05)++s.2.1)++([t]:List z05)):Int) (∃ y6:Int,zba (w64 ((List.length ((([]:List z05)++s.2.1)++([t]:List z05)):Int) - (1:Int))) y6∧
   K ((s.1,((([]:List z05)++s.2.1)++([t]:List z05),s.2.2)),(y6,(true,())))))))
theorem za4 {s:TSk} {t:z05} (hl:s.2.1.length≤30) (y1:TSk) (y2:Int) (y3:Bool) (h1:t∈s.2.1→y1=s∧y2 = -1 - zb4 s.2.1 t∧y3=true) (h2:t∉s.2.1→z0iv s t fun r=>r=(y1,(y2,(y3,())))):zao s t y1 y2 y3:=by
 refine z079 _ _ _ _ _ ?_
 unfold zw6
 refine zd4 s.2.1 (fun x=>decide (x=t)) (fun i=>((i:Int),(((([]:List TRel),(([]:List z00),())),(([]:List z05),())),()))) (KT:=fun i=>((s,(-1 - (i:Int),(true,()))):TSk×Int×Bool×Unit)=(y1,(y2,(y3,())))) (KF:=t∉s.2.1) ?_ ?_ ?_ ?_
 · intro i hi X g1 g2
   refine lenI fun _=>bcI hi (inI hi ?_)
   simp only
   rw[getI hi,z03 (by omega)]
   have no:¬ s.2.1[i]=t→X (((i+1:Nat):Int),(((([]:List TRel),(([]:List z00),())),(([]:List z05),())),())):=fun h=>g2 (by simpa using h)
   refine z3j (fun e1=>inI hi (z3j (fun e2=>inI hi ⟨_,zmv,z3j (fun e3=>⟨_,zhy (by omega) (by omega),?_⟩) (fun e3=>no fun h=>e3 (by rw[h];exact cmpL_zero.mpr rfl))⟩) (fun e2=>no fun h=>e2 (by rw[h])))) (fun e1=>no fun h=>e1 (by rw[h]))
   exact g1 (by simpa using (z0h0 _ _).mpr ⟨e1,e2,cmpL_zero.mp e3⟩)
 · intro X h
   refine lenI fun _=>bcN ?_
   exact h2 h
 · intro h
   have hm:t∈s.2.1:=by
    have:=firstAt_any.mp h
    rw[ze7]at this
    simpa using this
   obtain⟨rfl,rfl,rfl⟩:=h1 hm
   unfold zb4;rw[if_pos h]
 · intro h hm
   have:=firstAt_any (p:=fun x=>decide (x=t)).mpr (by rw[ze7];simpa using hm)
   omega
theorem z098 {s:TSk} {t:z05} (hl:s.2.1.length≤30) :
  (t∈s.2.1→zao s t s (-1 - zb4 s.2.1 t) true)∧(t∉s.2.1→∃ y1 y2 y3,zao s t y1 y2 y3∧(y3=false∨(y3=true∧y1.2.1.length≠s.2.1.length))):=by
 have main:=za4 (s:=s) (t:=t) hl
 refine⟨fun hm=>main _ _ _ (fun _=>⟨rfl,rfl,rfl⟩) (fun h=>absurd hm h),fun hm=>?_⟩
 by_cases h30:s.2.1.length=30
 · exact⟨s,0,false,main _ _ _ (fun h=>absurd h hm) (fun _=>lenI fun _=>z3j (fun _=>rfl) (fun h=>by omega)),.inl rfl⟩
 · obtain⟨y,hy⟩:=z09d (s:=s) (t:=t) hl
   by_cases h8:y > 8
   · exact⟨s,0,false,main _ _ _ (fun h=>absurd h hm) (fun _=>lenI fun _=>z3j (fun h=>by omega) (fun _=>⟨y,hy,z0e (fun _=>rfl) (fun h=>absurd h8 h)⟩)),.inl rfl⟩
   · refine⟨(s.1,(s.2.1++[t],s.2.2)),-1 - (s.2.1.length:Int),true,main _ _ _ (fun h=>absurd h hm) (fun _=>lenI fun _=>z3j (fun h=>by omega) (fun _=>⟨y,hy,z0e (fun h=>absurd h h8) (fun _=>⟨trivial,trivial,by simp only[maxL,List.length_nil];omega,by simp only[maxL,List.length_append,List.length_cons,List.length_nil];omega,lenI fun _=>⟨-1 - (s.2.1.length:Int),?_,rfl⟩⟩)⟩)),.inr ⟨rfl,by simp⟩⟩
     have e:w64 ((List.length ((([]:List z05)++s.2.1)++([t]:List z05)):Int) - (1:Int))=(s.2.1.length:Int):=by
      rw[z1g]<;>simp<;>omega
     rw[e]
     exact zhy (by omega) (by omega)
theorem zlt {σ τ:Type} {B:(τ→Prop)→τ→Prop} (n:Nat) (g:σ→Nat→σ) (s0:σ) (e:Nat→σ→τ) (μ:σ→Nat) (c N:Nat) (hN:n≤N) (hg:∀ s i,i<n→μ (g s i)≤μ s+c)
  (hs:∀ i (_:i<n) (s:σ) (X:τ→Prop),μ s≤μ s0+N * c→X (e (i+1) (g s i))→B X (e i s))
  (hf:∀ X:τ→Prop,μ ((List.range n).foldl g s0)≤μ s0+N * c→B X (e n ((List.range n).foldl g s0))):z0a B (e 0 s0):=
 z2p (List.range n) g s0 e μ c N (by simpa using hN) (fun s a ha=>hg s a (List.mem_range.mp ha)) (fun i h s X hs' hX=>hs i (by simpa using h) s X hs' (by simpa using hX)) (fun X h=>by simpa using hf X h)
def mkS (ts:List z05) (d:TDep) (i:Int) (b:List Int) (vs:List Int) (v:Int):Unit ⊕ List Int:=if tmOf d i b v∈ts then .inr (valG ts d i b vs v)else .inl ()
theorem z03p {ts:List z05} {d:TDep} {i:Int} {b:List Int}:∀ {l vs vs':List Int},runE (mkS ts d i b) l vs = .inr vs'→(∀ v∈l,tmOf d i b v∈ts)∧vs'=l.foldl (valG ts d i b) vs
 |[],vs,vs',h=>by simp only[runE,Sum.inr.injEq]at h;exact⟨by simp,h.symm⟩
 | v::l,vs,vs',h=>by
   simp only[runE]at h
   unfold mkS at h
   by_cases hv:tmOf d i b v∈ts
   · rw[if_pos hv]at h
     obtain⟨h1,h2⟩:=z03p (ts:=ts) (d:=d) (i:=i) (b:=b) h
     exact⟨fun u hu=>(List.mem_cons.mp hu).elim (fun e=>e ▸ hv) (h1 u),by rw[List.foldl_cons];exact h2⟩
   · rw[if_neg hv]at h;simp at h
theorem z0d4 {ts:List z05} {d:TDep} {i:Int} {b:List Int} {r:Unit}:∀ {l vs:List Int},runE (mkS ts d i b) l vs = .inl r→∃ v∈l,tmOf d i b v∉ts
 |[],vs,h=>by simp[runE]at h
 | v::l,vs,h=>by
   by_cases hv:tmOf d i b v∈ts
   · simp only[runE]at h
     unfold mkS at h
     rw[if_pos hv]at h
     obtain⟨u,hu,h1⟩:=z0d4 (ts:=ts) (d:=d) (i:=i) (b:=b) h
     exact⟨u,by simp[hu],h1⟩
   · exact⟨v,by simp,hv⟩
theorem zyl {ts:List z05} {d:TDep} {i:Int} {b:List Int}:∀ {l vs:List Int},(l.foldl (valG ts d i b) vs).length=vs.length
 |[],vs=>rfl
 |v::l,vs=>by rw[List.foldl_cons,zyl];simp[valG]
theorem z0gc {α:Type} {p:α→Bool} {l:List α} {x:α} (hx:x∈l) (h:p x=false):l.all p=false:=by
 rw[Bool.eq_false_iff];intro h'
 rw[List.all_eq_true.mp h' x hx]at h;cases h
theorem z0f4 {ts:List z05} {d:TDep} {i:Int} {b:List Int} {f:z00}:z034 ts d i b f=(decide ((hdS ts d i b).1.length=ts.length)&&decide (f∈zaj d (hdS ts d i b).2)):=by
 unfold z034
 by_cases h:∀ v∈exV d,tmOf d i b v∈ts
 · have e:hdS ts d i b=(ts,(exV d).foldl (valG ts d i b) b):=z0a5 h
   have e2:(exV d).all (fun v=>decide (tmOf d i b v∈ts))=true:=List.all_eq_true.mpr fun v hv=>by simpa using h v hv
   rw[e,e2]
   simp only[decide_true,Bool.true_and]
   unfold zaj
   rw[zk3,List.nil_append,←ze7,List.any_map]
   rfl
 · have h1:¬ (hdS ts d i b).1.length=ts.length:=fun e=>h (z0d7 e)
   rw[decide_eq_false h1,Bool.false_and]
   have:∃ v∈exV d,tmOf d i b v∉ts:=Classical.byContradiction fun hn=>h fun v hv=>Classical.byContradiction fun hv'=>hn ⟨v,hv,hv'⟩
   obtain⟨v,hv,hv'⟩:=this
   rw[z0gc hv (decide_eq_false hv'),Bool.false_and]
theorem z03a {s:TSk} {ds:List TDep} {i:Nat} {b:List Int} {f:z00} (hi:i<ds.length) (hd:DOk ds[i]) (hts:s.2.1.length≤30) (hb:b.length=5) :
  zmd s ds i b f (z034 s.2.1 ds[i] i b f):=z04j _ _ _ _ _ _ (by
 unfold zrh
 obtain⟨hs1,hs2⟩:=hd.sm
 have hfl:=zyu hd.sm
 have hel:=z03k hd.sm
 have hal:=zp3 hd.sm b
 refine inI hi ⟨_,zco (d:=ds.getD (Int.toNat (i:Int)) zDep) (by rw[getI hi];omega) (by rw[getI hi];omega),?_⟩
 rw[getI hi]
 refine z2p (frV ds[i]) (fun s v=>s++[b.getD v.toNat 0]) [] (fun j s=>((j:Int),(s,()))) List.length 1 6 hfl (fun s v _=>by simp) ?_ ?_
 · intro j hj s X hs hX
   have hv:=hd.fr _ (List.getElem_mem hj)
   refine lenI fun _=>bcI hj (inI hj ?_)
   simp only
   rw[getI hj,z03 (by omega)]
   exact⟨⟨by omega,by omega⟩,by simp only[maxL,List.length_cons,List.length_nil]at *;omega,hX⟩
 · intro X _
   refine lenI fun _=>bcN ⟨by simp only[maxL,List.length_nil];omega,inI hi ⟨_,z9g (by omega) (by omega),?_⟩⟩
   rw[List.nil_append]
   refine zej (exV ds[i]) (mkS s.2.1 ds[i] i b) b (fun j vs=>((j:Int),(z7b ds[i] b,(vs,())))) (KR:=fun _=>((false,()):Bool×Unit)=(z034 s.2.1 ds[i] i b f,())) ?_ ?_ ?_
   · intro j hj vs Y hr h1 h2
     obtain⟨_,rfl⟩:=z03p hr
     have hvl:=zyl (ts:=s.2.1) (d:=ds[i]) (i:=i) (b:=b) (l:=(exV ds[i]).take j) (vs:=b)
     generalize ((exV ds[i]).take j).foldl (valG s.2.1 ds[i] i b) b=vs at h1 h2 hvl ⊢
     have hv:=hd.ex _ (List.getElem_mem hj)
     refine lenI fun _=>bcI hj (inI hj ⟨trivial,?_⟩)
     simp only
     rw[getI hj,z03 (by omega)]
     have e:(((i:Int),((exV ds[i])[j],(z7b ds[i] b,()))):z05)=tmOf ds[i] i b (exV ds[i])[j]:=rfl
     rw[e]
     unfold mkS at h1 h2
     have ht:=z098 (s:=s) (t:=tmOf ds[i] i b (exV ds[i])[j]) hts
     by_cases hm:tmOf ds[i] i b (exV ds[i])[j]∈s.2.1
     · refine⟨_,_,_,ht.1 hm,bcF (lenI fun _=>lenI fun _=>z5y (fun h=>absurd rfl h) (fun _=>inI hj ⟨⟨by omega,by omega⟩,h2 _ (by rw[if_pos hm];rfl)⟩))⟩
     · obtain⟨y1,y2,y3,hg,h3⟩:=ht.2 hm
       have hno:=h1 () (by rw[if_neg hm])
       rcases h3 with rfl|⟨rfl,h3⟩
       · exact⟨y1,y2,false,hg,bcT hno⟩
       · exact⟨y1,y2,true,hg,bcF (lenI fun _=>lenI fun _=>z5y (fun _=>hno) (fun h=>by omega))⟩
   · intro vs Y hr
     obtain⟨hall,rfl⟩:=z03p hr
     have hvl:=zyl (ts:=s.2.1) (d:=ds[i]) (i:=i) (b:=b) (l:=exV ds[i]) (vs:=b)
     have e2:(exV ds[i]).all (fun v=>decide (tmOf ds[i] i b v∈s.2.1))=true:=List.all_eq_true.mpr fun v hv=>by simpa using hall v hv
     unfold z034
     rw[e2,Bool.true_and]
     generalize (exV ds[i]).foldl (valG s.2.1 ds[i] i b) b=vs at hvl ⊢
     refine lenI fun _=>bcN ?_
     refine z7u ds[i].2.1 (fun a=>decide (inst a vs=f)) (fun j=>((j:Int),())) (KT:=((true,()):Bool×Unit)=(ds[i].2.1.any (fun a=>decide (inst a vs=f)),())) (KF:=((false,()):Bool×Unit)=(ds[i].2.1.any (fun a=>decide (inst a vs=f)),())) ?_ ?_ (fun h=>by rw[h]) (fun h=>by rw[h])
     · intro j hj Z h1 h2
       have ha:=hd.hd.2 _ (List.getElem_mem hj)
       refine inI hi (lenI fun _=>bcI hj (inI hi (inI hj ⟨_,_,zf6 (a:=(ds[i].2.1).getD (Int.toNat (j:Int)) z0h) (b:=vs) (by rw[getI hj];omega) (by omega) (by rw[getI hj];exact ha.2),_,z96,?_⟩)))
       simp only
       rw[getI hj,z03 (by omega),zyi]
       exact z1r h1 h2
     · intro Z h
       exact inI hi (lenI fun _=>bcN h)
   · intro r hr
     obtain⟨v,hv,hm⟩:=z0d4 hr
     unfold z034
     rw[z0gc hv (decide_eq_false hm),Bool.false_and])
def derH (s:TSk) (d:TDep) (i:Nat) (f:z00) (out:List z00) (b:List Int):List z00:=if z034 s.2.1 d i b f then out++[((i:Int),(b,()))] else out
def derG (s:TSk) (ds:List TDep) (f:z00) (out:List z00) (i:Nat):List z00:=(z95 s.1 (ds.getD i zDep).1).foldl (derH s (ds.getD i zDep) i f) out
def z62 (s:TSk) (ds:List TDep) (f:z00):List z00:=if vSk s&&(z4f s.1.1 ds&&decide (f∈s.1.2.1))then(List.range ds.length).foldl (derG s ds f) [] else[]
theorem zzb (s:TSk) (d:TDep) (i:Nat) (f:z00) (out:List z00) (b:List Int):(derH s d i f out b).length≤out.length+1:=by unfold derH;split<;>simp
theorem zz3 (s:TSk) (ds:List TDep) (f:z00) (out:List z00) (i:Nat):(derG s ds f out i).length≤out.length+27000:=by
 have:=zcu (l:=z95 s.1 (ds.getD i zDep).1) (g:=derH s (ds.getD i zDep) i f) (s:=out) (μ:=List.length) (c:=1) fun o b _=>zzb s _ i f o b
 have:=zj8 (x:=s.1) (l:=(ds.getD i zDep).1)
 unfold derG
 omega
theorem zjg {l:List TRel} {ds:List TDep} (h:z4f l ds=true):ds.length≤5∧∀ d∈ds,DOk d:=by
 unfold z4f at h
 simp only[Bool.and_eq_true]at h
 exact⟨zmf h.1,fun d hd=>z0g3 (z029 h.1 hd)⟩
theorem zx1 (s:TSk) (ds:List TDep) (f:z00):(z62 s ds f).length≤135000:=by
 unfold z62
 split
 · rename_i h
   simp only[Bool.and_eq_true]at h
   have:=zcu (l:=List.range ds.length) (g:=derG s ds f) (s:=[]) (μ:=List.length) (c:=27000) fun o i _=>zz3 s ds f o i
   have h5:=(zjg h.2.1).1
   rw[List.length_range,List.length_nil]at this
   have:=Nat.mul_le_mul_right 27000 h5
   omega
 · exact Nat.zero_le _
theorem zwd {s:TSk} {ds:List TDep} {f t:z00} (h:t∈z62 s ds f):∃ i:Nat,i<ds.length∧∃ b:List Int,b.length=5∧t=((i:Int),(b,())):=by
 unfold z62 at h
 split at h
 · have z0g:∀(i:Nat),i<ds.length→∀(l:List (List Int)) (out:List z00),(∀ b∈l,b.length=5)→(∀ t∈out,∃ i:Nat,i<ds.length∧∃ b:List Int,b.length=5∧t=((i:Int),(b,())))→
     ∀ t∈l.foldl (derH s (ds.getD i zDep) i f) out,∃ i:Nat,i<ds.length∧∃ b:List Int,b.length=5∧t=((i:Int),(b,())):=by
    intro i hi l
    induction l with
    |nil=>intro out _ ho;exact ho
    | cons b l ih=>
      intro out hl ho
      rw[List.foldl_cons]
      refine ih _ (fun c hc=>hl c (by simp[hc])) fun t ht=>?_
      unfold derH at ht
      split at ht
      · rcases List.mem_append.mp ht with ht|ht
        · exact ho t ht
        · simp only[List.mem_singleton]at ht;exact⟨i,hi,b,hl b (by simp),ht⟩
      · exact ho t ht
   have outer:∀(l:List Nat) (out:List z00),(∀ i∈l,i<ds.length)→(∀ t∈out,∃ i:Nat,i<ds.length∧∃ b:List Int,b.length=5∧t=((i:Int),(b,())))→
     ∀ t∈l.foldl (derG s ds f) out,∃ i:Nat,i<ds.length∧∃ b:List Int,b.length=5∧t=((i:Int),(b,())):=by
    intro l
    induction l with
    |nil=>intro out _ ho;exact ho
    | cons i l ih=>
      intro out hl ho
      rw[List.foldl_cons]
      exact ih _ (fun c hc=>hl c (by simp[hc])) (z0g i (hl i (by simp)) _ _ (fun b hb=>zjx hb) ho)
   exact outer _ [] (fun i hi=>List.mem_range.mp hi) (by simp) t h
 · simp at h
theorem z5m {s:TSk} (h:vSk s=true):z36 s.1=true∧s.2.1.length≤30:=⟨(z61 h).1,zen (z61 h).2.2⟩
theorem zwv {s:TSk} {ds:List TDep} {f:z00} (h:(vSk s&&(z4f s.1.1 ds&&decide (f∈s.1.2.1)))=false):(([]:List z00),())=(z62 s ds f,()):=by unfold z62;rw[h];rfl
theorem zv5 {s:TSk} {ds:List TDep} {f:z00}:zew s ds f (z62 s ds f):=zv3 _ _ _ _ (by
 unfold zku
 refine⟨_,z3b,z0m (fun h=>zwv (by rw[h];rfl)) (fun h1=>⟨_,zgs,z0m (fun h=>zwv (by rw[h];simp)) (fun h2=>⟨_,zk2,z0m (fun h=>zwv (by rw[h];simp)) (fun h3=>?_)⟩)⟩)⟩
 obtain⟨hds,hdo⟩:=zjg h2
 obtain⟨hv,hts⟩:=z5m h1
 have e:z62 s ds f=(List.range ds.length).foldl (derG s ds f) []:=by unfold z62;rw[h1,h2,h3];rfl
 rw[e]
 refine lenI fun _=>zlt ds.length (derG s ds f) [] (fun i o=>((i:Int),(o,()))) List.length 27000 5 hds (fun o i _=>zz3 s ds f o i) ?_ ?_
 · intro i hi o X ho hX
   unfold derG at hX
   rw[z0r hi]at hX
   have hd:=hdo _ (List.getElem_mem hi)
   refine bcI hi (inI hi ⟨_,zl5,?_⟩)
   simp only
   rw[getI hi,z03 (by omega)]
   refine lenI fun _=>?_
   rw[show List.map (fun y=>(true,y)) (z95 s.1 ds[i].1)=mkd (z95 s.1 ds[i].1) 0 from rfl]
   refine z2p (z95 s.1 ds[i].1) (derH s ds[i] i f) o (fun j o=>((j:Int),(o,(mkd (z95 s.1 ds[i].1) j,())))) List.length 1 27000 zj8 (fun o b _=>zzb s _ i f o b) ?_ ?_
   · intro j hj o' Y ho' hY
     have hb:=zjx (List.getElem_mem hj)
     simp only[List.length_nil]at ho
     refine bcI hj (inI (by rw[z0an];exact hj) ?_)
     simp only[Int.toNat_natCast]
     rw[z0b8 hj]
     refine⟨rfl,_,_,_,zpz hi hd hts hb,lenI fun _=>lenI fun _=>?_⟩
     simp only
     rw[z0b9 hj,z03 (by omega)]
     unfold derH at hY
     rw[z0f4]at hY
     refine z3j (fun h=>⟨_,zk2,z1r (fun h4=>⟨by simp only[maxL,List.length_cons,List.length_nil];omega,?_⟩) (fun h4=>?_)⟩) (fun h=>?_)
     · rw[decide_eq_true (show(hdS s.2.1 ds[i] i (z95 s.1 ds[i].1)[j]).1.length=s.2.1.length by omega),h4]at hY;exact hY
     · rw[h4,Bool.and_false]at hY;exact hY
     · rw[decide_eq_false (show ¬ (hdS s.2.1 ds[i] i (z95 s.1 ds[i].1)[j]).1.length=s.2.1.length by omega)]at hY;exact hY
   · intro Y _
     exact bcN hX
 · intro X _
   exact bcN rfl)
theorem zl3 {s:TSk} {ds:List TDep} {f:z00}:zap s ds f (z62 s ds f):=zvr _ _ _ _ (by
 unfold zkp
 refine⟨_,z72,z0m (fun h=>zwv (by rw[h];rfl)) (fun h1=>⟨_,zlm,z0m (fun h=>zwv (by rw[h];simp)) (fun h2=>⟨_,zix,?_⟩)⟩)⟩
 obtain⟨hds,hdo⟩:=zjg h2
 obtain⟨hv,hts⟩:=z5m h1
 rw[hv,Bool.true_and]
 refine z0m (fun h=>zwv (by rw[h];simp)) (fun h3=>?_)
 have e:z62 s ds f=(List.range ds.length).foldl (derG s ds f) []:=by unfold z62;rw[h1,h2,h3];rfl
 rw[e]
 refine zlt ds.length (derG s ds f) [] (fun i o=>((i:Int),(o,()))) List.length 27000 5 hds (fun o i _=>zz3 s ds f o i) ?_ ?_
 · intro i hi o X ho hX
   unfold derG at hX
   rw[z0r hi]at hX
   have hd:=hdo _ (List.getElem_mem hi)
   refine lenI fun _=>bcI hi (inI hi ⟨_,zl4,?_⟩)
   simp only
   rw[getI hi,z03 (by omega)]
   refine z2p (z95 s.1 ds[i].1) (derH s ds[i] i f) o (fun j o=>((j:Int),(o,()))) List.length 1 27000 zj8 (fun o b _=>zzb s _ i f o b) ?_ ?_
   · intro j hj o' Y ho' hY
     have hb:=zjx (List.getElem_mem hj)
     simp only[List.length_nil]at ho
     refine lenI fun _=>bcI hj (inI hj ?_)
     simp only
     rw[getI hj,z03 (by omega)]
     refine⟨_,z03a hi hd hts hb,?_⟩
     unfold derH at hY
     refine z1r (fun h4=>inI hj ⟨by simp only[maxL,List.length_cons,List.length_nil];omega,?_⟩) (fun h4=>?_)
     · rw[h4]at hY;exact hY
     · rw[h4]at hY;exact hY
   · intro Y _
     exact lenI fun _=>bcN hX
 · intro X _
   exact lenI fun _=>bcN rfl)
def zqi (fs:List z00) (lev:List Int) (d:TDep) (b:List Int):Bool:=d.1.all fun a=>decide (inst a b∈fs)&&decide (0≤lev.getD (za8 fs (inst a b)).toNat 0)
def knS (s:TSk) (ds:List TDep) (lev:List Int) (t:z00):Bool:=zqi s.1.2.1 lev (ds.getD t.1.toNat zDep) t.2.1
def knF (s:TSk) (ds:List TDep) (lev:List Int) (i:Nat):Bool:=(z62 s ds (s.1.2.1.getD i z0h)).any (knS s ds lev)
def zhq (s:TSk) (ds:List TDep) (lev:List Int) (i:Nat):Bool:=decide (lev.getD i 0<0)&&knF s ds lev i
def zdv (s:TSk) (ds:List TDep) (n:Int) (lev:List Int):List Int:=(List.range lev.length).map fun i=>if zhq s ds lev i then n else lev.getD i 0
def srcI (s:TSk) (i:Nat):Bool:=z94 s.1.1 (s.1.2.1.getD i z0h).1
def lev0 (s:TSk):List Int:=(List.range s.1.2.1.length).map fun i=>if srcI s i then 0 else -1
def levK (s:TSk) (ds:List TDep):Nat→List Int
 |0=>lev0 s
 |k+1=>zdv s ds ((k+1:Nat):Int) (levK s ds k)
def levs (s:TSk) (ds:List TDep):List Int:=levK s ds s.1.2.1.length
theorem zaf (s:TSk) (ds:List TDep) (n:Int) (lev:List Int):(zdv s ds n lev).length=lev.length:=by simp[zdv]
theorem zaw (s:TSk) (ds:List TDep):∀ k,(levK s ds k).length=s.1.2.1.length
 |0=>by simp[levK,lev0]
 |k+1=>by rw[levK,zaf,zaw]
theorem zal {s:TSk} {ds:List TDep} {n:Int} {lev:List Int} {i:Nat} (hi:i<lev.length):(zdv s ds n lev).getD i 0=if zhq s ds lev i then n else lev.getD i 0:=by
 have h:i<(zdv s ds n lev).length:=by rw[zaf];exact hi
 rw[z0r h]
 simp[zdv]
theorem zr4 {s:TSk} {i:Nat} (hi:i<s.1.2.1.length):(lev0 s).getD i 0=if srcI s i then 0 else -1:=by
 have h:i<(lev0 s).length:=by simp[lev0,hi]
 rw[z0r h]
 simp[lev0]
theorem zyy {s:TSk} {ds:List TDep}:∀(k:Nat) {i:Nat},i<s.1.2.1.length→-1≤(levK s ds k).getD i 0
 |0,i,hi=>by rw[levK,zr4 hi];split<;>omega
 | k+1,i,hi=>by
   rw[levK,zal (by rw[zaw];exact hi)]
   split
   · omega
   · exact zyy k hi
theorem z06f {s:TSk} {ds:List TDep}:∀(k:Nat) {i:Nat},i<s.1.2.1.length→(levK s ds k).getD i 0<0→srcI s i=false
 | 0,i,hi,h=>by
   rw[levK,zr4 hi]at h
   split at h
   · omega
   · rename_i hs;simpa using hs
 | k+1,i,hi,h=>by
   rw[levK,zal (by rw[zaw];exact hi)]at h
   split at h
   · omega
   · exact z06f k hi h
def z0dc (s:TSk) (ds:List TDep) (lev:List Int):Prop:=∀ i,i<lev.length→zhq s ds lev i=false
theorem z043 {s:TSk} {ds:List TDep} {lev:List Int} (h:z0dc s ds lev) (n:Int):zdv s ds n lev=lev:=by
 refine z06o (d:=0) (zaf _ _ _ _) fun i hi=>?_
 rw[zaf]at hi
 rw[zal hi,h i hi];rfl
theorem zoi {s:TSk} {ds:List TDep} {k:Nat} (h:z0dc s ds (levK s ds k)):∀ m,levK s ds (k+m)=levK s ds k
 |0=>rfl
 | m+1=>by
   rw[←Nat.add_assoc,levK,zoi h m]
   exact z043 h _
def negs (l:List Int):Nat:=(List.range l.length).countP fun i=>decide (l.getD i 0<0)
theorem z0gz {s:TSk} {ds:List TDep} {n:Int} (hn:0≤n) {lev:List Int} {i:Nat} (hi:i<lev.length) (h:zhq s ds lev i=true):negs (zdv s ds n lev)<negs lev:=by
 unfold negs
 rw[zaf]
 refine z06b (fun j hj hp=>?_) ⟨i,by simpa using hi,?_,?_⟩
 · rw[zal (by simpa using hj)]at hp
   split at hp
   · simp at hp;omega
   · exact hp
 · unfold zhq at h
   rw[Bool.and_eq_true]at h
   exact h.1
 · rw[zal hi,if_pos h]
   simp;exact hn
theorem z0ah (l:List Int):negs l≤l.length:=by
 have:=List.countP_le_length (p:=fun i=>decide (l.getD i 0<0)) (l:=List.range l.length)
 simpa [negs]using this
theorem row3 {ats:List z00} {b:List Int} (h:∀ a∈ats,a.2.1.length≤3∧∀ t∈a.2.1,-10≤t∧t<5) {a:z00} (ha:a∈ats):a.2.1.length≤1000∧∀ t∈a.2.1,-10≤t∧t<5:=⟨by have:=(h a ha).1;omega,(h a ha).2⟩
theorem z00s {fs:List z00} {lev:List Int} {ds:List TDep} {i:Nat} {b:List Int} (hf:fs.length≤30) (ha:asc fs) (hl:lev.length=fs.length) (hm:∀ j,j<fs.length→-1≤lev.getD j 0) (hi:i<ds.length) (hd:DOk ds[i]) (hb:b.length=5) :
  zid fs lev ds ((i:Int),(b,())) (zqi fs lev ds[i] b):=z00u _ _ _ _ _ (by
 unfold zpj
 refine inI hi ?_
 simp only
 rw[getI hi]
 refine lenI fun _=>z7u ds[i].1 (fun a=>!(decide (inst a b∈fs)&&decide (0≤lev.getD (za8 fs (inst a b)).toNat 0))) (fun j=>((j:Int),())) (KT:=((false,()):Bool×Unit)=(zqi fs lev ds[i] b,())) (KF:=((true,()):Bool×Unit)=(zqi fs lev ds[i] b,())) ?_ ?_ ?_ ?_
 · intro j hj X h1 h2
   obtain⟨p,hp,hp2⟩:=z0ch (f:=inst ds[i].1[j] b) hf ha
   refine bcI hj (inI hj ⟨_,_,zau (a:=(ds[i].1).getD (Int.toNat (j:Int)) z0h) (b:=b) ?_ (by omega) ?_,?_⟩)
   · rw[getI hj];exact(row3 (b:=b) hd.bd.2 (List.getElem_mem hj)).1
   · rw[getI hj];exact(row3 (b:=b) hd.bd.2 (List.getElem_mem hj)).2
   · simp only
     rw[getI hj,z03 (by omega)]
     refine⟨p,_,hp,zd1 (fun h=>h1 (by simp[h])) (fun h=>?_)⟩
     obtain⟨e,hpl⟩:=hp2 h
     rw[e,Int.toNat_natCast]at h1 h2
     have:=hm p hpl
     refine⟨⟨by omega,by omega⟩,?_⟩
     rw[Int.toNat_natCast]
     refine z3j (fun h3=>h1 (by rw[decide_eq_true h,Bool.true_and,decide_eq_false (by omega)];rfl)) (fun h3=>h2 (by rw[decide_eq_true h,Bool.true_and,decide_eq_true (by omega)];rfl))
 · intro X h;exact bcN h
 · intro h;rw[z3t]at h;unfold zqi;rw[nt h]
 · intro h;rw[z3t]at h;unfold zqi;rw[nf h])
theorem z058 {s:TSk} {lev:List Int} {ds:List TDep} {i:Nat} {b:List Int} (hl:lev.length=s.1.2.1.length) (hi:i<ds.length) (hd:DOk ds[i]) (hb:b.length=5) :
  zll s ds ((i:Int),(b,())) lev (zqi s.1.2.1 lev ds[i] b):=z04e _ _ _ _ _ (by
 unfold zsl
 refine z7u ds[i].1 (fun a=>!(decide (inst a b∈s.1.2.1)&&decide (0≤lev.getD (za8 s.1.2.1 (inst a b)).toNat 0))) (fun j=>((j:Int),())) (KT:=((false,()):Bool×Unit)=(zqi s.1.2.1 lev ds[i] b,())) (KF:=((true,()):Bool×Unit)=(zqi s.1.2.1 lev ds[i] b,())) ?_ ?_ ?_ ?_
 · intro j hj X h1 h2
   have hbd:=hd.bd.1
   refine inI hi (lenI fun _=>?_)
   simp only
   rw[getI hi]
   refine bcI hj ⟨trivial,inI hi (inI hj ⟨_,_,zf6 (a:=(ds[i].1).getD (Int.toNat (j:Int)) z0h) (b:=b) ?_ (by omega) ?_,?_⟩)⟩
   · rw[getI hj];exact(row3 (b:=b) hd.bd.2 (List.getElem_mem hj)).1
   · rw[getI hj];exact(row3 (b:=b) hd.bd.2 (List.getElem_mem hj)).2
   · rw[getI hj,z03 (by omega)]
     refine⟨_,zod,?_⟩
     by_cases h:inst ds[i].1[j] b∈s.1.2.1
     · obtain⟨p,e,hp,_⟩:=z072 h
       show z01 (decide (za8 s.1.2.1 (inst ds[i].1[j] b)<0)) _ _
       rw[e]at h1 h2 ⊢
       refine z0e (fun h=>by omega) (fun _=>⟨⟨by omega,by omega⟩,?_⟩)
       rw[Int.toNat_natCast]at h1 h2 ⊢
       exact z0e (fun h3=>h1 (by rw[decide_eq_true h,Bool.true_and,decide_eq_false (by omega)];rfl)) (fun h3=>h2 (by rw[decide_eq_true h,Bool.true_and,decide_eq_true (by omega)];rfl))
     · show z01 (decide (za8 s.1.2.1 (inst ds[i].1[j] b)<0)) _ _
       rw[z09i h]
       exact z0e (fun _=>h1 (by simp[h])) (fun h=>by omega)
 · intro X h
   refine inI hi (lenI fun _=>?_)
   simp only
   rw[getI hi]
   exact bcN h
 · intro h;rw[z3t]at h;unfold zqi;rw[nt h]
 · intro h;rw[z3t]at h;unfold zqi;rw[nf h])
def z009 (s:TSk) (ds:List TDep) (lev:List Int) (i:Nat) (o:List Int) (t:z00):List Int:=if knS s ds lev t then o++[(i:Int)] else o
def zrf (s:TSk) (ds:List TDep) (lev:List Int) (o:List Int) (i:Nat):List Int:=if lev.getD i 0<0 then(z62 s ds (s.1.2.1.getD i z0h)).foldl (z009 s ds lev i) o else o
theorem z02r (s:TSk) (ds:List TDep) (lev:List Int) (i:Nat) (o:List Int) (t:z00):(z009 s ds lev i o t).length≤o.length+1:=by unfold z009;split<;>simp
theorem z0bz (s:TSk) (ds:List TDep) (lev:List Int) (o:List Int) (i:Nat):(zrf s ds lev o i).length≤o.length+135000:=by
 unfold zrf
 split
 · have:=zcu (l:=z62 s ds (s.1.2.1.getD i z0h)) (g:=z009 s ds lev i) (s:=o) (μ:=List.length) (c:=1) fun o t _=>z02r s ds lev i o t
   have:=zx1 s ds (s.1.2.1.getD i z0h)
   omega
 · omega
theorem z00q {s:TSk} {ds:List TDep} {lev:List Int} {i:Nat} {x:Int}:∀ {l:List z00} {o:List Int},x∈l.foldl (z009 s ds lev i) o↔x∈o∨(x=(i:Int)∧l.any (knS s ds lev)=true)
 |[],o=>by simp
 | t::l,o=>by
   rw[List.foldl_cons,z00q,List.any_cons]
   unfold z009
   cases h:knS s ds lev t with
   | true=>
     rw[if_pos rfl,List.mem_append,List.mem_singleton,Bool.true_or]
     constructor
     · rintro ((h|h)|⟨h,_⟩)
       · exact .inl h
       · exact .inr ⟨h,rfl⟩
       · exact .inr ⟨h,rfl⟩
     · rintro (h|⟨h,_⟩)
       · exact .inl (.inl h)
       · exact .inl (.inr h)
   |false=>simp
theorem zio {s:TSk} {ds:List TDep} {lev:List Int} {x:Int}:∀ {l:List Nat} {o:List Int},x∈l.foldl (zrf s ds lev) o↔x∈o∨∃ i∈l,x=(i:Int)∧zhq s ds lev i=true
 |[],o=>by simp
 | i::l,o=>by
   rw[List.foldl_cons,zio]
   have:x∈zrf s ds lev o i↔x∈o∨(x=(i:Int)∧zhq s ds lev i=true):=by
    unfold zrf zhq
    by_cases h:lev.getD i 0<0
    · rw[if_pos h,z00q,decide_eq_true h,Bool.true_and];rfl
    · rw[if_neg h,decide_eq_false h,Bool.false_and];simp
   rw[this]
   constructor
   · rintro ((h|h)|⟨j,h1,h2⟩)
     · exact .inl h
     · exact .inr ⟨i,by simp,h⟩
     · exact .inr ⟨j,by simp[h1],h2⟩
   · rintro (h|⟨j,h1,h2⟩)
     · exact .inl (.inl h)
     · rcases List.mem_cons.mp h1 with rfl|h1
       · exact .inl (.inr h2)
       · exact .inr ⟨j,h1,h2⟩
theorem zr7 {n:Int}:∀ {l lev:List Int},(l.foldl (fun v (k:Int)=>v.set k.toNat n) lev).length=lev.length
 |[],lev=>rfl
 |k::l,lev=>by rw[List.foldl_cons,zr7,List.length_set]
theorem z05u {n:Int} {j:Nat}:∀ {l lev:List Int},(∀ k∈l,0≤k∧k<lev.length)→(l.foldl (fun v (k:Int)=>v.set k.toNat n) lev).getD j 0=if (j:Int)∈l then n else lev.getD j 0
 |[],lev,_=>by simp
 | k::l,lev,h=>by
   have hk:=h k (by simp)
   rw[List.foldl_cons,z05u (fun u hu=>by rw[List.length_set];exact h u (by simp[hu])),z05v (by omega)]
   by_cases h1:(j:Int)∈l
   · rw[if_pos h1,if_pos (List.mem_cons_of_mem _ h1)]
   · by_cases h2:j=k.toNat
     · have hjk:(j:Int)=k:=by omega
       rw[if_neg h1,if_pos h2,if_pos (by rw[hjk];exact List.mem_cons_self ..)]
     · rw[if_neg h1,if_neg h2,if_neg]
       intro h3
       rcases List.mem_cons.mp h3 with h3|h3
       · omega
       · exact h1 h3
theorem z08d {s:TSk} {ds:List TDep} {lev:List Int} {n:Int}:((List.range lev.length).foldl (zrf s ds lev) []).foldl (fun v (k:Int)=>v.set k.toNat n) lev=zdv s ds n lev:=by
 have hm:∀ k∈(List.range lev.length).foldl (zrf s ds lev) [],0≤k∧k<lev.length:=by
  intro k hk
  rw[zio]at hk
  rcases hk with hk|⟨i,hi,rfl,_⟩
  · simp at hk
  · have:=List.mem_range.mp hi;omega
 refine z06o (d:=0) (by rw[zr7,zaf]) fun j hj=>?_
 rw[zr7]at hj
 rw[z05u hm,zal hj]
 by_cases h:zhq s ds lev j=true
 · rw[if_pos h,if_pos (by rw[zio];exact .inr ⟨j,by simpa using hj,rfl,h⟩)]
 · rw[if_neg h,if_neg]
   rw[zio]
   rintro (h'|⟨i,hi,he,hc⟩)
   · simp at h'
   · obtain rfl:j=i:=by omega
     exact h hc
theorem z021 {s:TSk} {ds:List TDep} (h1:vSk s=true) (h2:z4f s.1.1 ds=true):zjd s ds (levs s ds):=z02m _ _ _ (by
 unfold zpk
 obtain⟨hds,hdo⟩:=zjg h2
 obtain⟨hv,hts⟩:=z5m h1
 have hfl:=z41 hv
 refine z1t s.1.2.1.length (fun i=>((i:Int),((lev0 s).take i,((s.1.2.1.take i).map (z62 s ds),())))) (by simp) ?_ ?_
 · intro i hi X hX
   have hr:=zrb (z5g hv (List.getElem_mem hi))
   have hi0:i<(lev0 s).length:=by simp[lev0,hi]
   have e0:(lev0 s)[i]=if srcI s i then 0 else -1:=by have:=zr4 hi;rw[z0r hi0]at this;exact this
   rw[z07 hi0,z07 hi,List.map_append,e0]at hX
   have e1:srcI s i=(s.1.1.getD (Int.toNat s.1.2.1[i].1) zRel).2.2.1:=by unfold srcI;rw[z0r hi];rfl
   have hl0:((lev0 s).take i).length=i:=by rw[List.length_take];omega
   have hl1:((s.1.2.1.take i).map (z62 s ds)).length=i:=by rw[List.length_map,List.length_take];omega
   refine lenI fun _=>bcI hi (inI hi ?_)
   simp only
   rw[getI hi,z03 (by omega)]
   refine⟨⟨hr.1,hr.2⟩,?_⟩
   rw[←e1]
   refine z1r (fun h=>⟨by simp only[maxL,List.length_cons,List.length_nil];omega,inI hi ⟨_,zl3,by simp only[maxL,List.length_cons,List.length_nil];omega,?_⟩⟩) (fun h=>⟨by simp only[maxL,List.length_cons,List.length_nil];omega,inI hi ⟨_,zl3,by simp only[maxL,List.length_cons,List.length_nil];omega,?_⟩⟩)
   · rw[h]at hX;exact hX
   · rw[h]at hX;exact hX
 · intro X
   refine lenI fun _=>bcN ?_
   have e0:(lev0 s).take s.1.2.1.length=lev0 s:=List.take_of_length_le (by simp[lev0])
   simp only
   rw[e0,List.take_length]
   refine z1t s.1.2.1.length (fun k=>(((k+1:Nat):Int),(levK s ds k,()))) rfl ?_ ?_
   · intro k hk Y hY
     have hkl:=zaw s ds k
     refine lenI fun _=>z0e (fun _=>?_) (fun h=>by simp only at h;omega)
     have hge:=fun {i} (hi:i<s.1.2.1.length)=>zyy (s:=s) (ds:=ds) k hi
     rw[levK,←z08d]at hY
     simp only
     generalize levK s ds k=lev at hY hkl hge ⊢
     rw[hkl]
     rw[hkl]at hY
     have hN:s.1.2.1.length≤30:=hfl
     refine zlt s.1.2.1.length (zrf s ds lev) [] (fun i o=>((i:Int),(o,()))) List.length 135000 30 hN (fun o i _=>z0bz s ds lev o i) ?_ ?_
     · intro i hi o Z ho hZ
       refine lenI fun _=>bcI hi ?_
       have hil:i<((s.1.2.1).map (z62 s ds)).length:=by rw[List.length_map];exact hi
       have eil:((s.1.2.1).map (z62 s ds))[i]=z62 s ds s.1.2.1[i]:=by simp
       have hfg:s.1.2.1.getD i z0h=s.1.2.1[i]:=z0r hi
       unfold zrf at hZ
       rw[hfg]at hZ
       have hdl:=zx1 s ds s.1.2.1[i]
       simp only[List.length_nil]at ho
       by_cases hneg:lev.getD i 0<0
       · rw [if_pos hneg]at hZ
         refine z2p (z62 s ds s.1.2.1[i]) (z009 s ds lev i) o (fun j o=>((j:Int),(o,()))) List.length 1 135000 hdl (fun o t _=>z02r s ds lev i o t) ?_ ?_
         · intro j hj o' W ho' hW
           refine inI hil ?_
           simp only
           rw[getI hil,eil]
           refine lenI fun _=>bcI hj ⟨⟨by omega,by omega⟩,?_⟩
           rw[Int.toNat_natCast]
           refine z0e (fun _=>inI hil (inI hj ?_)) (fun h=>absurd hneg h)
           rw[getI hj,z03 (by omega)]
           obtain⟨n,hn,b,hb,et⟩:=zwd (List.getElem_mem hj)
           have ek:knS s ds lev (z62 s ds s.1.2.1[i])[j]=zqi s.1.2.1 lev ds[n] b:=by
            unfold knS
            rw[et]
            simp only[Int.toNat_natCast]
            rw[z0r hn]
           unfold z009 at hW
           rw[ek]at hW
           rw[et]
           refine⟨_,z058 hkl hn (hdo _ (List.getElem_mem hn)) hb,z1r (fun h=>⟨by simp only[maxL,List.length_cons,List.length_nil];omega,?_⟩) (fun h=>?_)⟩
           · rw[h]at hW;exact hW
           · rw[h]at hW;exact hW
         · intro W _
           refine inI hil ?_
           simp only
           rw[getI hil,eil]
           refine lenI fun _=>bcN ?_
           rw[z03 (by omega)]
           exact hZ
       · rw[if_neg hneg]at hZ
         refine⟨1,inI hil ?_⟩
         simp only
         rw[getI hil,eil]
         refine lenI fun _=>?_
         have out:Z (w64 ((i:Int)+1),(o,())):=by rw[z03 (by omega)];exact hZ
         refine z0e (fun _=>⟨⟨by omega,by omega⟩,?_⟩) (fun _=>out)
         rw[Int.toNat_natCast]
         exact z0e (fun h=>absurd h hneg) (fun _=>out)
     · intro Z hlenm
       refine lenI fun _=>bcN ?_
       have hm:∀ k∈(List.range s.1.2.1.length).foldl (zrf s ds lev) [],0≤k∧k<s.1.2.1.length:=by
        intro k hk
        rw[zio]at hk
        rcases hk with hk|⟨i,hi,rfl,_⟩
        · simp at hk
        · have:=List.mem_range.mp hi;omega
       simp only[List.length_nil]at hlenm
       simp only
       generalize (List.range s.1.2.1.length).foldl (zrf s ds lev) []=more at hm hlenm hY ⊢
       refine zjb more (fun v (q:Int)=>v.set q.toNat ((k+1:Nat):Int)) lev (fun j v=>((j:Int),(v,()))) ?_ ?_
       · intro j hj W hW
         have hml:=hm _ (List.getElem_mem hj)
         have hsl:=zr7 (n:=((k+1:Nat):Int)) (l:=more.take j) (lev:=lev)
         refine lenI fun _=>bcI hj (inI hj ?_)
         simp only
         rw[getI hj,z03 (by omega)]
         exact⟨⟨hml.1,by omega⟩,hW⟩
       · intro W
         refine lenI fun _=>bcN ?_
         simp only
         rw[z03 (by omega)]
         exact hY
   · intro Y
     have hkl:=zaw s ds s.1.2.1.length
     exact lenI fun _=>z0e (fun h=>by simp only at h;omega) (fun _=>rfl))
def mixP {α:Type} (l m:List α) (i:Nat):List α:=l.take i++m.drop i
theorem zzq {α:Type} (l m:List α):mixP l m 0=m:=by simp[mixP]
theorem z03x {α:Type} {l m:List α} (h:l.length=m.length):mixP l m l.length=l:=by unfold mixP;rw[List.take_length,List.drop_eq_nil_of_le (by omega),List.append_nil]
theorem z04m {α:Type} {l m:List α} (h:l.length=m.length) {i:Nat} (hi:i≤l.length):(mixP l m i).length=l.length:=by simp[mixP];omega
theorem zys {α:Type} {l m:List α} {i:Nat} (hi:i<m.length):mixP l m i=l.take i++m[i]::m.drop (i+1):=by unfold mixP;rw[z4e hi]
theorem z05n {α:Type} {l m:List α} {i:Nat} (hi:i<l.length):mixP l m (i+1)=l.take i++l[i]::m.drop (i+1):=by unfold mixP;rw[z07 hi,List.append_assoc];rfl
theorem z04k {α:Type} {l m:List α} (h:l.length=m.length) {i:Nat} (hi:i<l.length):(mixP l m i).set i l[i]=mixP l m (i+1):=by
 have hl:(l.take i).length=i:=by rw[List.length_take];omega
 rw[zys (by omega),z05n hi,List.set_append_right _ _ (by omega),hl,Nat.sub_self]
 rfl
theorem zz0 {α:Type} {l m:List α} (h:l.length=m.length) {i:Nat} (hi:i<l.length) (he:l[i]=m[i]'(by omega)):mixP l m i=mixP l m (i+1):=by
 rw[zys (by omega),z05n hi,he]
theorem z0hf {α:Type} {l m:List α} (h:l.length=m.length) {i:Nat} (hi:i<l.length) {d:α}:(mixP l m i).getD i d=m[i]'(by omega):=by
 have hl:(l.take i).length=i:=by rw[List.length_take];omega
 rw[zys (by omega),List.getD_eq_getElem?_getD,List.getElem?_append_right (by omega),hl,Nat.sub_self]
 rfl
def zy6 (s:TSk) (ds:List TDep):List (List z00):=(List.range s.1.2.1.length).map fun i=>if srcI s i then[] else z62 s ds (s.1.2.1.getD i z0h)
theorem z016 {s:TSk} {ds:List TDep} {i:Nat} (hi:i<s.1.2.1.length) (h:i<(zy6 s ds).length):(zy6 s ds)[i]=if srcI s i then[] else z62 s ds s.1.2.1[i]:=by
 simp only[zy6,List.getElem_map,List.getElem_range]
 rw[z0r hi]
theorem z0bo {s:TSk} {ds:List TDep} (h1:vSk s=true) (h2:z4f s.1.1 ds=true):zuc s ds (levs s ds):=z0b2 _ _ _ (by
 unfold z01u
 obtain⟨hds,hdo⟩:=zjg h2
 obtain⟨hv,hts⟩:=z5m h1
 have hfl:=z41 hv
 have hN:(s.1.2.1.length:Int)≤maxL:=by simp only[maxL];omega
 have hz:0≤(s.1.2.1.length:Int)∧(s.1.2.1.length:Int)≤(s.1.2.1.length:Int)∧(s.1.2.1.length:Int)≤maxL:=⟨by omega,by omega,hN⟩
 have hl0:(lev0 s).length=s.1.2.1.length:=by simp[lev0]
 have hls:(zy6 s ds).length=s.1.2.1.length:=by simp[zy6]
 refine lenI fun _=>lenI fun _=>⟨⟨hz,trivial⟩,⟨hz,trivial⟩,hz,hz,lenI fun _=>?_⟩
 rw[Int.toNat_natCast]
 have hr1:(lev0 s).length=(List.replicate s.1.2.1.length (0:Int)).length:=by rw[hl0,List.length_replicate]
 have hr2:(zy6 s ds).length=(List.replicate s.1.2.1.length ([]:List z00)).length:=by rw[hls,List.length_replicate]
 refine z1t s.1.2.1.length (fun i=>((i:Int),(mixP (lev0 s) (List.replicate s.1.2.1.length (0:Int)) i,(mixP (zy6 s ds) (List.replicate s.1.2.1.length ([]:List z00)) i,())))) (by rw[zzq,zzq];rfl) ?_ ?_
 · intro i hi X hX
   have hr:=zrb (z5g hv (List.getElem_mem hi))
   have hi0:i<(lev0 s).length:=by omega
   have his:i<(zy6 s ds).length:=by omega
   have e0:(lev0 s)[i]=if srcI s i then 0 else -1:=by have:=zr4 hi;rw[z0r hi0]at this;exact this
   have e2:=z016 (ds:=ds) hi his
   have e1:srcI s i=(s.1.1.getD (Int.toNat s.1.2.1[i].1) zRel).2.2.1:=by unfold srcI;rw[z0r hi];rfl
   have hm1:=z04m hr1 (i:=i) (by omega)
   have hm2:=z04m hr2 (i:=i) (by omega)
   refine bcI hi (inI hi ?_)
   simp only
   rw[getI hi,z03 (by omega)]
   refine⟨⟨hr.1,hr.2⟩,?_⟩
   rw[←e1]
   refine z0m (fun h=>⟨⟨by omega,by omega⟩,_,zv5,⟨by omega,by omega⟩,?_⟩) (fun h=>?_)
   · rw[Int.toNat_natCast]
     rw[h]at e0 e2
     have s1:=z04k hr1 hi0
     have s2:=z04k hr2 his
     rw[e0]at s1
     rw[e2]at s2
     simp only[Bool.false_eq_true,if_false]at s1 s2
     rw[s1,s2]
     exact hX
   · rw[h]at e0 e2
     have s1:=zz0 hr1 hi0 (by rw[e0];simp)
     have s2:=zz0 hr2 his (by rw[e2];simp)
     rw[s1,s2]
     exact hX
 · intro X
   refine bcN ?_
   have ee1:=z03x hr1
   have ee2:=z03x hr2
   rw[hl0]at ee1
   rw[hls]at ee2
   simp only
   rw[ee1,ee2]
   refine z1v (fun d a=>∃ k:Nat,(a=(((k+1:Nat):Int),(true,(levK s ds k,())))∧k+negs (levK s ds k)≤s.1.2.1.length∧negs (levK s ds k)+1≤d)∨(a=(((k+1:Nat):Int),(false,(levK s ds k,())))∧levK s ds k=levs s ds)) ?_ ?_ (n:=s.1.2.1.length+1) ⟨0,.inl ⟨rfl,by have:=z0ah (levK s ds 0);rw[zaw]at this;omega,by have:=z0ah (levK s ds 0);rw[zaw]at this;omega⟩⟩
   · rintro a ⟨k,⟨_,_,h⟩|⟨rfl,h⟩⟩ Y
     · omega
     · exact bcF (by rw[h])
   · rintro d a ⟨k,⟨rfl,hk,hd⟩|⟨rfl,h⟩⟩ Y hY
     · have hkl:=zaw s ds k
       have hge:=fun {i} (hi:i<s.1.2.1.length)=>zyy (s:=s) (ds:=ds) k hi
       have hsrc:=fun {i} (hi:i<s.1.2.1.length)=>z06f (s:=s) (ds:=ds) k hi
       have next:Y (((k+1+1:Nat):Int),((List.range s.1.2.1.length).any (zhq s ds (levK s ds k)),(levK s ds (k+1),()))):=by
        refine hY _ ⟨k+1,?_⟩
        cases hc:(List.range s.1.2.1.length).any (zhq s ds (levK s ds k))with
        | true=>
          obtain⟨i,hi,hci⟩:=List.any_eq_true.mp hc
          have:=z0gz (s:=s) (ds:=ds) (n:=((k+1:Nat):Int)) (by omega) (lev:=levK s ds k) (i:=i) (by rw[hkl];simpa using hi) hci
          rw[show zdv s ds ((k+1:Nat):Int) (levK s ds k)=levK s ds (k+1)from rfl]at this
          exact .inl ⟨rfl,by omega,by omega⟩
        | false=>
          have hst:z0dc s ds (levK s ds k):=fun i hi=>by
           rw[Bool.eq_false_iff];intro h
           have:=List.any_eq_true.mpr ⟨i,List.mem_range.mpr (by rw[hkl]at hi;exact hi),h⟩
           rw[hc]at this;cases this
          refine .inr ⟨rfl,?_⟩
          rw[zoi hst 1]
          obtain⟨m,hm⟩:∃ m,s.1.2.1.length=k+m:=⟨s.1.2.1.length - k,by omega⟩
          unfold levs
          rw[hm,zoi hst m]
       rw[levK]at next
       refine bcT ⟨_,z21 (by simp only;omega),lenI fun _=>?_⟩
       simp only
       generalize levK s ds k=lev at hkl hge hsrc next ⊢
       have hrl:=zaf s ds ((k+1:Nat):Int) lev
       refine z1t s.1.2.1.length (fun i=>((List.range i).any (zhq s ds lev),((i:Int),(mixP (zdv s ds ((k+1:Nat):Int) lev) lev i,())))) (by rw[zzq];rfl) ?_ ?_
       · intro i hi Z hZ
         have hir:i<(zdv s ds ((k+1:Nat):Int) lev).length:=by omega
         have hil:i<lev.length:=by omega
         have hml:=z04m hrl (i:=i) (by omega)
         have eg:(mixP (zdv s ds ((k+1:Nat):Int) lev) lev i).getD i 0=lev[i]:=z0hf hrl hir
         have er:(zdv s ds ((k+1:Nat):Int) lev)[i]=if zhq s ds lev i then((k+1:Nat):Int)else lev[i]:=by
          have:=zal (s:=s) (ds:=ds) (n:=((k+1:Nat):Int)) hil
          rw[z0r hir,z0r hil]at this;exact this
         have g0:=hge hi
         rw[z0r hil]at g0
         have hsr:=hsrc hi
         rw[z0r hil]at hsr
         rw[List.range_succ,List.any_append]at hZ
         simp only[List.any_cons,List.any_nil,Bool.or_false]at hZ
         refine bcI hi ⟨⟨by simp only;omega,by simp only;omega⟩,?_⟩
         simp only
         rw[Int.toNat_natCast,eg,z03 (by omega)]
         have no:zhq s ds lev i=false→Z ((List.range i).any (zhq s ds lev),(((i+1:Nat):Int),(mixP (zdv s ds ((k+1:Nat):Int) lev) lev i,()))):=by
          intro h
          rw[h,Bool.or_false]at hZ
          rw[h]at er
          rw[zz0 hrl hir (by rw[er];simp)]
          exact hZ
         have hc:zhq s ds lev i=(decide (lev[i]<0)&&knF s ds lev i):=by unfold zhq;rw[z0r hil]
         refine z3j (fun h=>?_) (fun h=>no (by rw[hc,decide_eq_false (by omega),Bool.false_and]))
         have his:i<(zy6 s ds).length:=by omega
         have e2:=z016 (ds:=ds) hi his
         rw[hsr (by omega)]at e2
         simp only[Bool.false_eq_true,if_false]at e2
         refine⟨⟨by omega,by omega⟩,?_⟩
         rw[z0r his,e2]
         refine⟨_,z5v (x1:=(s.1.2.1,(lev,(ds,())))) (knS s ds lev) (fun t ht=>?_),?_⟩
         · obtain⟨n,hn,b,hb,rfl⟩:=zwd ht
           refine z047 _ _ _ _ _ ⟨_,z00s hfl (zs5 hv) hkl (fun j hj=>hge hj) hn (hdo _ (List.getElem_mem hn)) hb,?_⟩
           unfold knS
           simp only[Int.toNat_natCast]
           rw[z0r hn]
         · have hkf:knF s ds lev i=(z62 s ds s.1.2.1[i]).any (knS s ds lev):=by unfold knF;rw[z0r hi]
           rw[←hkf]
           refine z1r (fun h3=>⟨⟨by omega,by omega⟩,?_⟩) (fun h3=>no (by rw[hc,h3,Bool.and_false]))
           have hct:zhq s ds lev i=true:=by rw[hc,h3,decide_eq_true (by omega)];rfl
           rw[hct,Bool.or_true]at hZ
           rw[hct]at er
           simp only[if_true]at er
           have s1:=z04k hrl hir
           rw[er]at s1
           rw[s1]
           exact hZ
       · intro Z
         refine bcN ?_
         have ee:=z03x hrl
         rw[hrl,hkl]at ee
         simp only
         rw[ee,z03 (by omega)]
         exact next
     · exact bcF (by rw[h]))
def zve (s:TSk) (ds:List TDep):Bool:=vSk s&&(z4f s.1.1 ds && !(levs s ds).any fun x=>decide (x<0))
theorem zqs {s:TSk} {ds:List TDep}:zc5 s ds (zve s ds):=zqo _ _ _ (by
 unfold zhm
 refine⟨_,z3b,z1r (fun h1=>⟨_,zgs,z1r (fun h2=>⟨_,z0bo h1 h2,_,z3g,?_⟩) (fun h=>by unfold zve;rw[h];simp)⟩) (fun h=>by unfold zve;rw[h];rfl)⟩
 unfold zve
 rw[h1,h2,Bool.true_and,Bool.true_and]
 have:decide ((-1:Int)∈levs s ds)=(levs s ds).any fun x=>decide (x<0):=by
  rw[←ze7]
  rw[Bool.eq_iff_iff,List.any_eq_true,List.any_eq_true]
  constructor
  · rintro⟨x,hx,h⟩
    have h:x = -1:=by simpa using h
    exact⟨x,hx,by simp[h]⟩
  · rintro⟨x,hx,h⟩
    have h:x<0:=by simpa using h
    obtain⟨i,hi,rfl⟩:=List.mem_iff_getElem.mp hx
    have hl:(levs s ds).length=s.1.2.1.length:=zaw s ds _
    have:=zyy (s:=s) (ds:=ds) s.1.2.1.length (i:=i) (by omega)
    rw[show levK s ds s.1.2.1.length=levs s ds from rfl,z0r hi]at this
    exact⟨_,hx,by simp;omega⟩
 rw[this])
theorem zqp {s:TSk} {ds:List TDep}:zce s ds (zve s ds):=zq9 _ _ _ (by
 unfold zhk
 refine⟨_,z72,z0m (fun h=>by unfold zve;rw[h];rfl) (fun h1=>⟨_,zlm,z0m (fun h=>by unfold zve;rw[h];simp) (fun h2=>⟨_,z021 h1 h2,?_⟩)⟩)⟩
 unfold zve
 rw[h1,h2,Bool.true_and,Bool.true_and]
 have hl:(levs s ds).length=s.1.2.1.length:=zaw s ds _
 have hfl:=z41 (z5m h1).1
 refine z7u (levs s ds) (fun x=>decide (x<0)) (fun i=>((i:Int),())) (KT:=((false,()):Bool×Unit)=(!((levs s ds).any fun x=>decide (x<0)),())) (KF:=((true,()):Bool×Unit)=(!((levs s ds).any fun x=>decide (x<0)),())) ?_ ?_ (fun h=>by rw[h];rfl) (fun h=>by rw[h];rfl)
 · intro i hi X g1 g2
   refine lenI fun _=>bcI hi (inI hi ?_)
   simp only
   rw[getI hi,z03 (by omega)]
   exact z0e (fun h=>g1 (by simpa using h)) (fun h=>g2 (by simpa using h))
 · intro X h
   exact lenI fun _=>bcN h)
theorem z032 {f:z00}:∀ {l:List z00},f∈l→f.2.1.length≤(l.flatMap (·.2.1)).length
 | a::l,h=>by
   rw[List.flatMap_cons,List.length_append]
   rcases List.mem_cons.mp h with rfl|h
   · omega
   · have:=z032 h;omega
theorem zrr {x:z09} (h:z36 x=true) {f:z00} (hf:f∈x.2.1):f.2.1.length≤1099511627776:=by
 have:=zox h
 have:=z032 hf
 omega
theorem z05m {s:TSk} (h:vSk s=true) {i:Nat} (hi:i<s.2.1.length):s.2.1[i].2.2.1.length≤5:=by
 have:=z09m (z61 h).2.2 hi
 unfold z8c at this
 rw[z6e hi]at this
 simp only[Bool.and_eq_true,decide_eq_true_eq]at this
 exact this.1.1.2
theorem zsq {x:z09} (h1:x.1.length≤1099511627776) (hl:x.2.1.length≤1073741824) (h:∀ f∈x.2.1,f.2.1.length≤1099511627776):zj0 x x:=z0d2 _ _ (by
 unfold z00k
 refine⟨by simp only[maxL,List.length_nil];omega,?_⟩
 rw[List.nil_append]
 refine zn3 x.2.1 (fun i s=>((i:Int),((x.1,(s,())),()))) hl ?_ ?_
 · intro i hi s X hs hX
   refine lenI fun _=>bcI hi (inI hi ⟨x.2.1[i],?_,⟨by simp only[maxL,List.length_cons,List.length_nil];omega,?_⟩⟩)
   · simp only;rw[getI hi];exact zss (h _ (List.getElem_mem hi))
   · simp only;rw[z03 (by omega)];exact hX
 · intro X;exact lenI fun _=>bcN rfl)
structure SmS (s:TSk):Prop where
 rels:s.1.1.length≤1048576
 few:s.1.2.1.length≤1048576
 row:∀ f∈s.1.2.1,f.2.1.length≤1048576
 terms:s.2.1.length≤1048576
 args:∀ t∈s.2.1,t.2.2.1.length≤1048576
theorem SmS.of {s:TSk} (h:vSk s=true):SmS s:=by
 have hi:=z5m h
 have hr:=zu5 (zk0 hi.1)
 have hf:=z41 hi.1
 refine⟨by omega,by omega,fun f hm=>?_,by omega,fun t ht=>?_⟩
 · have h1:=zox hi.1
   have h2:=z032 hm
   omega
 · obtain⟨i,hi,rfl⟩:=List.mem_iff_getElem.mp ht
   have:=z05m h hi
   omega
theorem zbm {s:TSk} (h:SmS s):z7m s s:=z07e _ _ (by
 unfold zw5
 have h1:=h.rels
 have h2:=h.few
 have h3:=h.terms
 refine⟨s.1,zsq (by omega) (by omega) (fun f hf=>by have:=h.row f hf;omega),?_⟩
 refine zn3 s.2.1 (fun i t=>((i:Int),(((s.1.1,(s.1.2.1,s.1.2.2)),(t,())),()))) (by omega) ?_ ?_
 · intro i hi t X hs hX
   have ha:=h.args _ (List.getElem_mem hi)
   refine lenI fun _=>bcI hi (inI hi (inI hi (inI hi ?_)))
   simp only
   rw[getI hi,z03 (by omega),List.nil_append]
   exact⟨by simp only[maxL,List.length_nil];omega,by simp only[maxL,List.length_cons,List.length_nil];omega,hX⟩
 · intro X;exact lenI fun _=>bcN rfl)
theorem z039 {t:z05} (h:t.2.2.1.length≤1099511627776):zmb t t:=z02u _ _ (by
 unfold ztc
 exact⟨_,z21 h,rfl⟩)
theorem zjj {x:z09} (h1:x.1.length≤1099511627776) (hl:x.2.1.length≤1073741824) (h:∀ f∈x.2.1,f.2.1.length≤1099511627776):z3h x x:=zs3 _ _ (by
 unfold zil
 exact⟨_,zh5 h1,_,zp7 hl h,rfl⟩)
theorem z3x {s:TSk} (h:SmS s):z0p s s:=z01a _ _ (by
 unfold zpe
 have h1:=h.rels
 have h2:=h.few
 have h3:=h.terms
 refine⟨s.1,zjj (by omega) (by omega) (fun f hf=>by have:=h.row f hf;omega),lenI fun _=>?_⟩
 refine zn3 s.2.1 (fun i t=>((i:Int),(((s.1.1,(s.1.2.1,s.1.2.2)),(t,())),()))) (by omega) ?_ ?_
 · intro i hi t X hs hX
   have ha:=h.args _ (List.getElem_mem hi)
   refine bcI hi (inI hi ⟨s.2.1[i],?_,⟨by simp only[maxL,List.length_cons,List.length_nil];omega,?_⟩⟩)
   · simp only;rw[getI hi];exact z039 (by omega)
   · simp only;rw[z03 (by omega)];exact hX
 · intro X;exact bcN rfl)
theorem z011 {s:TSk} (h:vSk s=true):z0p s s:=z3x (.of h)
def iAt (l:List Int) (i:Nat):Int:=l.getD i 0
theorem z0i8 {l:List Int} {i:Nat} (h:i<l.length):iAt l i=l[i]:=z0r h
theorem z01m:∀ {x y:List Int},cmpL y x = - cmpL x y
 |[],[]=>rfl
 |[],b::y=>rfl
 |a::x,[]=>rfl
 | a::x,b::y=>by
   simp only[cmpL]
   have:=z01m (x:=x) (y:=y)
   split<;>split<;>first|omega|(rw[this])|skip
theorem za3 {x y:z00}:cmpF y x = - cmpF x y:=by
 unfold cmpF
 have:=z01m (x:=x.2.1) (y:=y.2.1)
 split<;>split<;>first|omega|(rw[this])|skip
theorem asc_pw {l:List z00}:asc l↔l.Pairwise fun a b=>cmpF a b<0:=by
 rw[List.pairwise_iff_getElem]
 exact⟨fun h i j hi hj hij=>h i j hj hij,fun h i j hj hij=>h i j (by omega) hj hij⟩
theorem z0g5:∀ {a b:List z00},(a.Pairwise fun a b=>cmpF a b<0)→(b.Pairwise fun a b=>cmpF a b<0)→(∀ y,y∈a↔y∈b)→a=b
 |[],[],_,_,_=>rfl
 |[],b::m,_,_,h=>absurd ((h b).mpr (by simp)) (by simp)
 |a::l,[],_,_,h=>absurd ((h a).mp (by simp)) (by simp)
 | a::l,b::m,h1,h2,h=>by
   rw[List.pairwise_cons]at h1 h2
   have hab:a=b:=by
    have ha:=(h a).mp (by simp)
    have hb:=(h b).mpr (by simp)
    rcases List.mem_cons.mp ha with e|ha
    · exact e
    · rcases List.mem_cons.mp hb with e|hb
      · exact e.symm
      · have q1:=h2.1 a ha
        have q2:=h1.1 b hb
        rw[za3]at q1
        omega
   subst hab
   congr 1
   refine z0g5 h1.2 h2.2 fun y=>⟨fun hy=>?_,fun hy=>?_⟩
   · rcases List.mem_cons.mp ((h y).mp (by simp[hy]))with e|h'
     · subst e;have:=h1.1 y hy;rw[cmpF_zero.mpr rfl]at this;omega
     · exact h'
   · rcases List.mem_cons.mp ((h y).mpr (by simp[hy]))with e|h'
     · subst e;have:=h2.1 y hy;rw[cmpF_zero.mpr rfl]at this;omega
     · exact h'
theorem z0hn {a b:List z00} (h1:asc a) (h2:asc b) (h:∀ y,y∈a↔y∈b):a=b:=z0g5 (asc_pw.mp h1) (asc_pw.mp h2) h
def putK (l:List z00) (f:z00):Nat:=z04 (fun t=>!decide (cmpF t f<0)) l
def putF (l:List z00) (f:z00):List z00:=if f∈l then l else l.take (putK l f)++f::l.drop (putK l f)
theorem z0e2 {l:List z00} {f y:z00}:y∈putF l f↔y∈l∨y=f:=by
 unfold putF
 split
 · rename_i h
   exact⟨.inl,fun h'=>h'.elim id fun e=>e ▸ h⟩
 · have:y∈l↔y∈l.take (putK l f)∨y∈l.drop (putK l f):=by rw[←List.mem_append,List.take_append_drop]
   rw[this,List.mem_append,List.mem_cons]
   constructor
   · rintro (h|h|h)
     · exact .inl (.inl h)
     · exact .inr h
     · exact .inl (.inr h)
   · rintro ((h|h)|h)
     · exact .inl h
     · exact .inr (.inr h)
     · exact .inr (.inl h)
theorem z0dh {l:List z00} {f:z00}:(putF l f).length≤l.length+1:=by
 unfold putF
 split
 · omega
 · simp only[List.length_append,List.length_cons,List.length_take,List.length_drop];omega
theorem z0f2 {l:List z00} {f:z00} (h:asc l):asc (putF l f):=by
 unfold putF
 split
 · exact h
 rename_i hn
 have hp:=asc_pw.mp h
 rw[asc_pw]
 have e:l=l.take (putK l f)++l.drop (putK l f):=(List.take_append_drop _ _).symm
 rw[e]at hp
 rw[List.pairwise_append]at hp ⊢
 have h1:∀ a∈l.take (putK l f),cmpF a f<0:=by
  intro a ha
  obtain⟨i,hi,rfl⟩:=List.mem_iff_getElem.mp ha
  rw[List.length_take]at hi
  have:=zan (p:=fun t=>!decide (cmpF t f<0)) (l:=l) (i:=i) (by omega) (show i<putK l f by omega)
  rw[List.getElem_take]
  simpa using this
 have h2:∀ a∈l.drop (putK l f),cmpF f a<0:=by
  intro a ha
  have hin:putK l f<l.length:=by
   rcases Nat.lt_or_ge (putK l f) l.length with h'|h'
   · exact h'
   · rw[List.drop_of_length_le h']at ha;simp at ha
  have h3:cmpF f l[putK l f]<0:=by
   have h4:=zae (p:=fun t=>!decide (cmpF t f<0)) (l:=l) hin
   have h4:¬ cmpF l[putK l f] f<0:=by have h4:(!decide (cmpF l[putK l f] f<0))=true:=h4;simpa using h4
   have h5:cmpF l[putK l f] f≠0:=fun e=>hn ((cmpF_zero.mp e) ▸ List.getElem_mem hin)
   rw[za3];omega
  obtain⟨i,hi,rfl⟩:=List.mem_iff_getElem.mp ha
  rw[List.getElem_drop]
  rcases Nat.eq_zero_or_pos i with rfl|h0
  · simpa using h3
  · rw[List.length_drop]at hi
    exact zak h3 (h _ _ (by omega) (by omega))
 refine⟨hp.1,List.pairwise_cons.mpr ⟨h2,hp.2.1⟩,fun a ha b hb=>?_⟩
 rcases List.mem_cons.mp hb with rfl|hb
 · exact h1 a ha
 · exact hp.2.2 a ha b hb
def facS (l:List z00):List z00:=l.foldl putF []
theorem zrx:∀ {l m:List z00},asc m→asc (l.foldl putF m)
 |[],m,h=>h
 |a::l,m,h=>zrx (l:=l) (z0f2 h)
theorem zt9:∀ {l m:List z00} {y:z00},y∈l.foldl putF m↔y∈m∨y∈l
 |[],m,y=>by simp
 | a::l,m,y=>by
   rw[List.foldl_cons,zt9 (l:=l),z0e2,List.mem_cons]
   constructor
   · rintro ((h|h)|h)
     · exact .inl h
     · exact .inr (.inl h)
     · exact .inr (.inr h)
   · rintro (h|h|h)
     · exact .inl (.inl h)
     · exact .inl (.inr h)
     · exact .inr h
theorem ztp:∀ {l m:List z00},(l.foldl putF m).length≤m.length+l.length
 |[],m=>by simp
 | a::l,m=>by
   have:=ztp (l:=l) (m:=putF m a)
   have:=z0dh (l:=m) (f:=a)
   rw[List.foldl_cons,List.length_cons];omega
theorem z0cp:asc []:=fun i j hj _=>by simp at hj
theorem z06t (l:List z00):asc (facS l):=zrx z0cp
theorem facS_mem {l:List z00} {y:z00}:y∈facS l↔y∈l:=by unfold facS;rw[zt9];simp
theorem z0az {a l:List z00} (h1:asc a) (h2:∀ y,y∈a↔y∈l):a=facS l:=z0hn h1 (z06t l) fun y=>by rw[h2,facS_mem]
theorem z06z {l m:List z00} (h:asc l):m.foldl putF l=facS (l++m):=z0az (zrx h) fun y=>by rw[zt9,List.mem_append]
theorem z061 {l:List z00}:(facS l).length≤l.length:=by have:=ztp (l:=l) (m:=[]);simpa [facS]using this
def ddF (l:List z00):Nat→List z00
 |0=>[]
 |n+1=>if n=0∨zeh l n≠zeh l (n - 1)then ddF l n++[zeh l n] else ddF l n
theorem z0al {l:List z00} (hs:l.Pairwise fun a b=>cmpF a b≤0):∀ {n:Nat},n≤l.length→asc (ddF l n)∧∀ y,y∈ddF l n↔y∈l.take n
 |0,_=>⟨z0cp,fun y=>by simp[ddF]⟩
 | n+1,h=>by
   obtain⟨h1,h2⟩:=z0al hs (n:=n) (by omega)
   have hn:n<l.length:=by omega
   unfold ddF
   rw[z07 hn,z2e hn]
   have hle:∀ i j (hj:j<l.length) (hij:i<j),cmpF (l[i]'(by omega)) l[j]≤0:=fun i j hj hij=>List.pairwise_iff_getElem.mp hs i j (by omega) hj hij
   split
   · rename_i hc
     refine⟨?_,fun y=>by rw[List.mem_append,List.mem_append,h2]⟩
     rw[asc_pw,List.pairwise_append]
     refine⟨asc_pw.mp h1,by simp,fun a ha b hb=>?_⟩
     obtain rfl:b=l[n]:=by simpa using hb
     obtain⟨i,hi,rfl⟩:=List.mem_iff_getElem.mp ((h2 a).mp ha)
     rw[List.length_take]at hi
     rw[List.getElem_take]
     rcases hc with hc|hc
     · omega
     · rw[z2e (by omega)]at hc
       have g1:=hle (n - 1) n hn (by omega)
       have g2:cmpF l[n - 1] l[n]≠0:=fun e=>hc (cmpF_zero.mp e).symm
       rcases Nat.lt_or_ge i (n - 1)with h'|h'
       · have g3:=hle i (n - 1) (by omega) h'
         by_cases h0:cmpF l[i] l[n - 1]=0
         · rw[cmpF_zero.mp h0];omega
         · exact zak (by omega:cmpF l[i] l[n - 1]<0) (by omega)
       · have:i=n - 1:=by omega
         subst this;omega
   · rename_i hc
     refine⟨h1,fun y=>?_⟩
     rw[h2,List.mem_append]
     refine⟨.inl,fun h'=>h'.elim id fun e=>?_⟩
     have h0:n≠0:=fun e=>hc (.inl e)
     have he:l[n]=zeh l (n - 1):=Classical.byContradiction fun h=>hc (.inr h)
     rw[z2e (by omega)]at he
     have:y=l[n - 1]:=by simpa [he]using e
     subst this
     exact List.mem_iff_getElem.mpr ⟨n - 1,by rw[List.length_take];omega,by rw[List.getElem_take]⟩
theorem z05s {x:z09} {f:z00} (h1:x.2.1.length≤1000) (h2:f.2.1.length≤1000):zqx x f (x.1,(putF x.2.1 f,())):=z0fk _ _ _ (by
 unfold z062
 refine⟨_,zod,?_⟩
 rw[z06l]
 refine z0e (fun h=>by unfold putF;rw[if_pos h]) (fun hn=>?_)
 have hle:putK x.2.1 f≤x.2.1.length:=zft _ _
 have key:∀ i:Nat,i=putK x.2.1 f→((0:Int)≤(i:Int)∧(i:Int)≤(x.2.1.length:Int)∧(x.2.1.length:Int)≤(x.2.1.length:Int))∧((([f]:List z00)).length+(List.drop (Int.toNat (i:Int)) (List.take (Int.toNat (x.2.1.length:Int)) x.2.1)).length≤maxL)∧
   (([]:List z00)++List.drop (Int.toNat (0:Int)) (List.take (Int.toNat (i:Int)) x.2.1))++([f]++List.drop (Int.toNat (i:Int)) (List.take (Int.toNat (x.2.1.length:Int)) x.2.1))=putF x.2.1 f∧
   ([]:List z00).length+(List.drop (Int.toNat (0:Int)) (List.take (Int.toNat (i:Int)) x.2.1)).length≤maxL∧
   (([]:List z00)++List.drop (Int.toNat (0:Int)) (List.take (Int.toNat (i:Int)) x.2.1)).length+([f]++List.drop (Int.toNat (i:Int)) (List.take (Int.toNat (x.2.1.length:Int)) x.2.1)).length≤maxL:=by
  rintro i rfl
  simp only[Int.toNat_natCast,Int.toNat_zero,List.drop_zero,List.nil_append,List.take_length,maxL,List.length_cons,List.length_nil,List.length_append,List.length_drop,List.length_take]
  refine⟨⟨by omega,by omega,by omega⟩,by omega,?_,by omega,by omega⟩
  unfold putF
  rw[if_neg hn];rfl
 refine zd4 x.2.1 (fun t=>!decide (cmpF t f<0)) (fun i=>((i:Int),())) (KT:=fun i=>i=putK x.2.1 f) (KF:=putK x.2.1 f=x.2.1.length) ?_ ?_ (fun _=>rfl) (fun h=>by unfold putK;have:=zft (fun t=>!decide (cmpF t f<0)) x.2.1;omega)
 · intro i hi X q1 q2
   refine lenI fun _=>bcI hi (inI hi ⟨_,z96,?_⟩)
   simp only
   rw[getI hi,z03 (by omega)]
   refine z0e (fun h=>q2 (by rw[decide_eq_true h];rfl)) (fun h=>?_)
   obtain⟨k1,k2,k3,k4,k5⟩:=key i (q1 (by rw[decide_eq_false h];rfl))
   refine⟨k1,f,zss (by omega),k2,⟨by omega,by omega,by omega⟩,k4,k5,?_⟩
   show((x.1,((([]:List z00)++List.drop (Int.toNat (0:Int)) (List.take (Int.toNat (i:Int)) x.2.1))++([f]++List.drop (Int.toNat (i:Int)) (List.take (Int.toNat (x.2.1.length:Int)) x.2.1)),())),())=((x.1,(putF x.2.1 f,())),())
   rw[k3]
 · intro X h
   obtain⟨k1,k2,k3,k4,k5⟩:=key x.2.1.length h.symm
   refine lenI fun _=>bcN ⟨k1,f,zss (by omega),k2,⟨by omega,by simp only;omega,by simp only;omega⟩,k4,k5,?_⟩
   show((x.1,((([]:List z00)++List.drop (Int.toNat (0:Int)) (List.take (Int.toNat (x.2.1.length:Int)) x.2.1))++([f]++List.drop (Int.toNat (x.2.1.length:Int)) (List.take (Int.toNat (x.2.1.length:Int)) x.2.1)),())),())=((x.1,(putF x.2.1 f,())),())
   rw[k3])
abbrev zTF:TTok z00:=zTk (z0b (.pair (.int .i64) (.pair (.sl 3 (.int .i64)) .unit))) z0h
def tkAt (l:List (TTok z00)) (i:Nat):TTok z00:=l.getD i zTF
theorem zjq {l:List (TTok z00)} {i:Nat} (h:i<l.length):tkAt l i=l[i]:=z0r h
def ddT (l:List (TTok z00)):Nat→List (TTok z00)
 |0=>[]
 |n+1=>if n=0∨(tkAt l n).2≠(tkAt l (n - 1)).2 then ddT l n++[tkAt l n] else ddT l n
theorem zxr {l:List (TTok z00)}:∀ {n:Nat},n≤l.length→(∀ i,1≤i→i<n→(tkAt l i).2≠(tkAt l (i - 1)).2)→ddT l n=l.take n
 |0,_,_=>by simp[ddT]
 | n+1,h,hi=>by
   unfold ddT
   rw[zxr (n:=n) (by omega) fun i h1 h2=>hi i h1 (by omega),z07 (by omega)]
   rw[if_pos,zjq (by omega)]
   rcases Nat.eq_zero_or_pos n with h0|h0
   · exact .inl h0
   · exact .inr (hi n (by omega) (by omega))
theorem z09s {l:List (TTok z00)}:∀ {n:Nat},n≤l.length→(ddT l n).Sublist (l.take n)
 |0,_=>by simp[ddT]
 | n+1,h=>by
   have:=z09s (l:=l) (n:=n) (by omega)
   unfold ddT
   rw[z07 (by omega)]
   split
   · rw[zjq (by omega)];exact this.append_right _
   · exact this.trans (List.sublist_append_left _ _)
theorem z06r {l:List (TTok z00)} {i:Nat}:zeh (l.map (·.2)) i=(tkAt l i).2:=by
 unfold zeh tkAt
 rw[List.getD_eq_getElem?_getD,List.getD_eq_getElem?_getD,List.getElem?_map]
 cases l[i]?<;>rfl
theorem z033 {l:List (TTok z00)}:∀ {n:Nat},(ddT l n).map (·.2)=ddF (l.map (·.2)) n
 |0=>rfl
 | n+1=>by
   unfold ddT ddF
   rw[z06r,z06r]
   split
   · rw[List.map_append,z033];rfl
   · exact z033
theorem z0gl {l:List (TTok z00)} (hl:l.length≤1000):z1c l () (ddT l l.length):=z6j _ _ _ (by
 unfold z2v
 refine lenI fun _=>z0e (fun h=>?_) (fun h=>?_)
 · rw[zxr (Nat.le_refl _) (fun i h1 h2=>by omega),List.take_length]
 refine z1v (fun k a=>∃ i:Nat,i+k=l.length∧1≤i∧a=((i:Int),(l,()))∧∀ j,1≤j→j<i→(tkAt l j).2≠(tkAt l (j - 1)).2) ?_ ?_ (n:=l.length - 1) ⟨1,by omega,by omega,rfl,fun j h1 h2=>by omega⟩
 · rintro a ⟨i,hi,h1,rfl,hn⟩ X
   obtain rfl:i=l.length:=by omega
   refine lenI fun _=>bcN ?_
   rw[zxr (Nat.le_refl _) hn,List.take_length]
 · rintro k a ⟨i,hi,h1,rfl,hn⟩ X hX
   have hlt:i<l.length:=by omega
   have hw:w64 ((i:Int) - 1)=((i - 1:Nat):Int):=by rw[z1g (by omega) (by omega)];omega
   have hj:i - 1<l.length:=by omega
   refine lenI fun _=>bcI hlt (inI hlt ?_)
   simp only
   rw[hw]
   refine inI hj ⟨_,zhv _ _ _ zly,?_⟩
   rw[getI hlt,getI hj,z03 (by omega)]
   refine z0e (fun h=>?_) (fun h=>hX _ ⟨i+1,by omega,by omega,rfl,fun j q1 q2=>?_⟩)
   · refine⟨⟨by omega,by omega,by omega,by omega⟩,?_⟩
     have hbase:ddT l (i+1)=l.take i:=by
      unfold ddT
      rw[if_neg,zxr (by omega) hn]
      rw[zjq hlt,zjq hj,h]
      rintro (h|h)
      · omega
      · exact h rfl
     simp only[Int.toNat_natCast]
     refine z1v (fun k a=>∃(p q:Nat) (L:List (TTok z00)),q+k=l.length - i∧1≤q∧a=((p:Int),((q:Int),(L,())))∧L.length=l.length∧p+1≤i+q∧L.take p=ddT l (i+q)∧L.drop (i+q - 1)=l.drop (i+q - 1)) ?_ ?_ (n:=l.length - i - 1) ⟨i,1,l,by omega,by omega,rfl,rfl,by omega,hbase.symm,rfl⟩
     · rintro a ⟨p,q,L,hq,hq1,rfl,hL,hp,e1,e2⟩ Y
       obtain rfl:q=l.length - i:=by omega
       rw[show i+(l.length - i)=l.length by omega]at e1
       have ht:(L.take p).length=p:=by rw[List.length_take];omega
       refine lenI fun _=>bcN ⟨⟨by omega,by simp only;omega,by omega,by simp only;omega⟩,by simp only[Int.toNat_natCast];omega,⟨by omega,by omega,?_,?_⟩,?_⟩
       · simp only[List.length_append,Int.toNat_natCast,ht];omega
       · simp only[List.length_append,List.length_replicate,Int.toNat_natCast,ht];omega
       · rw[Int.toNat_natCast,List.take_left' ht,e1]
     · rintro k a ⟨p,q,L,hq,hq1,rfl,hL,hp,e1,e2⟩ Y hY
       have hlq:i+q<l.length:=by omega
       have hg:∀ j,i+q - 1≤j→j<l.length→L.getD j zTF=tkAt l j:=by
        intro j g1 g2
        have e3:=congrArg (fun m=>m.getD (j - (i+q - 1)) zTF) e2
        simp only[List.getD_eq_getElem?_getD,List.getElem?_drop]at e3
        rw[show i+q - 1+(j - (i+q - 1))=j by omega]at e3
        unfold tkAt
        simpa [List.getD_eq_getElem?_getD]using e3
       have hwq:w64 ((q:Int) - 1)=((q - 1:Nat):Int):=by rw[z1g (by omega) (by omega)];omega
       have hdd:L.drop (i+q)=l.drop (i+q):=by
        have:=congrArg (List.drop 1) e2
        rw[List.drop_drop,List.drop_drop,show i+q - 1+1=i+q by omega]at this
        exact this
       refine lenI fun _=>bcI (by omega) (inI (by omega) ?_)
       simp only
       rw[hwq]
       refine inI (by omega) ⟨_,zhv _ _ _ zly,?_⟩
       rw[Int.toNat_natCast,Int.toNat_natCast,hg (i+q) (by omega) hlq,show i+(q - 1)=i+q - 1 by omega,hg (i+q - 1) (by omega) (by omega),z03 (by omega),z03 (by omega)]
       refine zd1 (fun h5=>inI (by omega) ⟨⟨by omega,by omega⟩,?_⟩) (fun h5=>?_)
       · refine hY _ ⟨p+1,q+1,_,by omega,by omega,rfl,by rw[List.length_set];exact hL,by omega,?_,?_⟩
         · rw[show i+(q+1)=(i+q)+1 by omega]
           unfold ddT
           rw[if_pos (.inr h5),←e1,Int.toNat_natCast,List.take_set,z07 (show p<L.length by omega),List.set_append]
           simp[List.length_take,Nat.min_eq_left (show p≤L.length by omega)]
         · rw[show i+(q+1) - 1=i+q by omega,←hdd,Int.toNat_natCast,List.drop_set_of_lt (by omega)]
       · refine hY _ ⟨p,q+1,L,by omega,by omega,rfl,hL,by omega,?_,by rw[show i+(q+1) - 1=i+q by omega];exact hdd⟩
         rw[show i+(q+1)=(i+q)+1 by omega]
         unfold ddT
         rw[if_neg,e1]
         rintro (h6|h6)
         · omega
         · exact h6 h5
   · by_cases hji:j=i
     · subst hji;rw[zjq hlt,zjq hj];exact h
     · exact hn j q1 (by omega))
theorem z0dw {l:List z00} (hl:l.length≤1000):z0u l () (ddF l l.length):=z4n _ _ _ fun xs hx=>by
 subst hx
 rw[List.length_map]at hl ⊢
 refine⟨ddT xs xs.length,?_,z033,z0gl hl⟩
 have:=z09s (l:=xs) (Nat.le_refl _)
 rwa [List.take_length]at this
theorem ltF {x y:z00}:Go.Proofs.ltOf cmpF x y=decide (cmpF x y<0):=rfl
theorem swoF:Go.Sort.SWO (Go.Proofs.ltOf cmpF):=by
 refine⟨fun x=>?_,fun x y z h1 h2=>?_,fun x y z h1 h2=>?_⟩
 · rw[ltF,cmpF_zero.mpr rfl];rfl
 · rw[ltF,decide_eq_true_eq]at h1 h2 ⊢;exact zak h1 h2
 · rw[ltF,decide_eq_false_iff_not]at h1 h2 ⊢
   intro h3
   by_cases h4:cmpF x y=0
   · obtain rfl:=cmpF_zero.mp h4
     exact h2 h3
   · have h5:cmpF y x<0:=by rw[za3];omega
     exact h2 (zak h5 h3)
theorem totF {x y:z00} (h1:Go.Proofs.ltOf cmpF x y=false) (h2:Go.Proofs.ltOf cmpF y x=false):x=y:=by
 rw[ltF,decide_eq_false_iff_not]at h1 h2
 rw[za3]at h2
 exact cmpF_zero.mp (by omega)
theorem z0fh {l:List z00} (h:l.length≤1000):z0t l () (zdp cmpF l):=z07q (fun a b=>z5h) swoF (fun _ _=>totF) (by omega)
theorem z0dy (l:List z00):(zdp cmpF l).Pairwise fun a b=>cmpF a b≤0:=by
 have:=List.pairwise_mergeSort (le:=fun a b=>!(decide (cmpF b a<0))) (fun a b c h1 h2=>by
  simp only[Bool.not_eq_true',decide_eq_false_iff_not]at h1 h2 ⊢
  intro h3
  rw[za3]at h1 h2
  by_cases h4:cmpF a b=0
  · rw[cmpF_zero.mp h4]at h3;rw[za3]at h3;omega
  · have:=zak h3 (by omega:cmpF a b<0);rw[za3]at this;omega) (fun a b=>by
  rw[za3 (x:=a) (y:=b)]
  simp
  omega) l
 refine List.Pairwise.imp (fun h=>?_) this
 simp only[Bool.not_eq_true',decide_eq_false_iff_not]at h
 rw[za3]at h;omega
theorem z0hq {l:List z00}:ddF (zdp cmpF l) l.length=facS l:=by
 have hl:(zdp cmpF l).length=l.length:=by simp[zdp]
 obtain⟨h1,h2⟩:=z0al (z0dy l) (n:=l.length) (by omega)
 refine z0az h1 fun y=>?_
 rw[h2,List.take_of_length_le (by omega)]
 simp[zdp]
theorem zrj {l:List z00} (hl:l.length≤1000) (h:∀ f∈l,f.2.1.length≤1000):zgd l (facS l):=z036 _ _ (by
 unfold zto
 have hs:(zdp cmpF l).length=l.length:=by simp[zdp]
 refine⟨l,zp7 (by omega) (fun f hf=>by have:=h f hf;omega),_,z0fh hl,_,z0dw (by omega),?_⟩
 rw[hs,z0hq])
def zya (d:TDep) (b:List Int):Bool:=(List.range b.length).all fun k=>decide ((k:Int)∈vars d.1) == !(iAt b k == 10)
def zoq (x:z09) (d:TDep) (b:List Int):Bool:=d.1.all fun a=>zab a b&&decide (inst a b∈x.2.1)
def zpm (x:z09) (d:TDep) (b:List Int):Bool:=z36 x&&(vDep x.1 d&&((b.length == 5)&&(zya d b&&zoq x d b)))
theorem zk7 {l:List TRel} {ats:List z00} (h:∀ a∈ats,z6s l a=true) {v:Int} (hv:v∈vars ats):0≤v∧v<5:=by
 unfold vars at hv
 have hv:=mem_sset.mp hv
 obtain⟨h1,h2⟩:=List.mem_filter.mp hv
 obtain⟨a,ha,hva⟩:=List.mem_flatMap.mp h1
 have:=inR_iff.mp ((z1j (h a ha)).2.2.2.2.2 v hva)
 have:0≤v:=by simpa using h2
 omega
theorem bb2:∀ u v:Bool,(!((!v) == u)) = !(u == !v):=by decide
theorem zr0 {l:List TRel} {a:z00} (h:z6s l a=true):a.2.1.length≤3∧∀ t∈a.2.1,-10≤t∧t<5:=by
 have:=z1j h
 exact⟨this.2.2.2.2.1,fun t ht=>by have:=inR_iff.mp (this.2.2.2.2.2 t ht);omega⟩
theorem z03z (x:z09):0≤zif x∧zif x≤40:=by
 have hk:∀ k∈nulI x,0≤k∧k<40:=fun k hk=>by
  have:=zle (l:=x.2.1.flatMap (·.2.1)) k (by rw[zg2];exact hk)
  omega
 refine⟨?_,nextN_le (n:=40) |>.mpr fun k h=>(hk k h).2⟩
 unfold zif
 cases h:(nulI x).getLast? with
 |none=>exact Int.le_refl 0
 |some m=>have:=hk m (List.mem_of_getLast? h);simp only;omega
theorem z0gv {l:List TRel} {d:TDep} (h:vDep l d=true):(exV d).length≤6:=by
 have hd:=z8m h
 have h1:(exV d).length≤(vars d.2.1).length:=by unfold exV;exact List.length_filter_le _ _
 have h2:=zk9 d.2.1
 omega
theorem zfy {l:List TRel} {d:TDep} (h:vDep l d=true) {v:Int} (hv:v∈exV d):0≤v∧v<5:=by
 have hd:=z8m h
 unfold exV at hv
 exact zk7 hd.2.2.2.2.1 (List.mem_filter.mp hv).1
theorem z022 {x:z09} (h:z36 x=true) (l:List z00):l.foldl putF x.2.1=facS (x.2.1++l):=z06z (zs5 h)
theorem z02a {x:z09} {d:TDep} {b:List Int}:zii x d b (zpm x d b):=z006 _ _ _ _ (by
 unfold zpa
 refine⟨_,z4j,z0m (fun h=>by unfold zpm;rw[h];rfl) (fun h1=>⟨_,zcj,z0m (fun h=>by unfold zpm;rw[h1,h];rfl) (fun h2=>lenI fun _=>z5y (fun h=>?_) (fun h3=>?_))⟩)⟩
 · unfold zpm
   rw[show(b.length == 5)=false from beq_eq_false_iff_ne.mpr (by omega),h1,h2];rfl
 have h3:b.length=5:=by omega
 have hd:=z8m h2
 have e:zpm x d b=(zya d b&&zoq x d b):=by unfold zpm;rw[h1,h2,h3];rfl
 rw[e]
 refine⟨_,zeo (by omega),lenI fun _=>?_⟩
 refine zb6 b.length (fun k=>!(decide ((k:Int)∈vars d.1) == !(iAt b k == 10))) (fun i=>((i:Int),())) (KT:=zya d b=false) (KF:=zya d b=true) ?_ ?_ ?_ ?_
 · intro i hi X _ q1 q2
   refine bcI hi (inI hi ⟨_,z3g,?_⟩)
   simp only
   rw[getI hi,←z0i8 hi,z03 (by omega)]
   show z01 (!((!(iAt b i == 10)) == _)) _ _
   rw[bb2]
   exact z1r (fun h=>by rw[q1 h];rfl) q2
 · intro X hB
   refine bcN (lenI fun _=>?_)
   rw[hB,Bool.true_and]
   refine z7u d.1 (fun a=>!(zab a b&&decide (inst a b∈x.2.1))) (fun i=>((i:Int),())) (KT:=zoq x d b=false) (KF:=zoq x d b=true) ?_ ?_ ?_ ?_
   · intro i hi X q1 q2
     have hr:=zr0 (hd.2.2.1 _ (List.getElem_mem hi))
     refine bcI hi (inI hi ⟨inst d.1[i] b,zab d.1[i] b,?_,?_⟩)
     · simp only;rw[getI hi];exact zau (by omega) (by omega) hr.2
     · rw[z03 (by omega)]
       refine z0m (fun h=>by rw[q1 (by rw[h];rfl)]) (fun h=>⟨_,zk2,z0m (fun h4=>?_) (fun h4=>?_)⟩)
       · have h4:inst d.1[i] b∉x.2.1:=of_decide_eq_false h4
         rw[q1 (by rw[h];simpa using h4)]
       · have h4:inst d.1[i] b∈x.2.1:=of_decide_eq_true h4
         exact q2 (by rw[h];simpa using h4)
   · intro X h;exact bcN (by rw[h])
   · intro h;rw[z3t]at h;unfold zoq;exact nt h
   · intro h;rw[z3t]at h;unfold zoq;exact nf h
 · rintro⟨i,hi,hp⟩
   unfold zya
   rw[Bool.eq_false_iff]
   intro h
   have:=List.all_eq_true.mp h i (List.mem_range.mpr hi)
   rw[this]at hp;cases hp
 · intro h
   unfold zya
   exact List.all_eq_true.mpr fun i hi=>nf (h i (List.mem_range.mp hi)))
theorem zme {l:List Int} {i j:Nat} {v:Int} (h:i<l.length):iAt (l.set i v) j=if j=i then v else iAt l j:=z05v h
def zru (b c:List Int):Prop:=c.length=b.length∧∀ k,iAt b k≠10→iAt c k=iAt b k
theorem zuo (b:List Int):zru b b:=⟨rfl,fun _ _=>rfl⟩
theorem z015 {a b c:List Int} (h1:zru a b) (h2:zru b c):zru a c:=⟨h2.1.trans h1.1,fun k hk=>by
 have e:=h1.2 k hk
 rw[h2.2 k (by rw[e];exact hk),e]⟩
def zv1 (c:List Int) (p:Int×Int):Prop:=if p.1<0 then p.2 = -1 - p.1 else iAt c p.1.toNat=p.2
theorem z052:∀ {ts vs b:List Int},(fitP ts vs b).2=true→(∀ t∈ts,t<b.length)→(∀ v∈vs,v≠10)→ts.length=vs.length→
  zru b (fitP ts vs b).1∧(∀ p∈ts.zip vs,zv1 (fitP ts vs b).1 p)∧∀ k:Nat,k<b.length→(iAt (fitP ts vs b).1 k≠10↔iAt b k≠10∨(k:Int)∈ts)
 |[],vs,b,_,_,_,_=>⟨zuo b,by simp,by simp[fitP]⟩
 |t::ts,[],b,h,_,_,hl=>by simp at hl
 | t::ts,v::vs,b,h,h1,h2,hl=>by
   rw[zsx]at h ⊢
   have hv:v≠10:=h2 v (by simp)
   have hts:∀ t∈ts,t<b.length:=fun u hu=>h1 u (by simp[hu])
   have hvs:∀ v∈vs,v≠10:=fun u hu=>h2 u (by simp[hu])
   have hl':ts.length=vs.length:=by simpa using hl
   by_cases ht:t<0
   · rw [if_pos ht]at h ⊢
     by_cases hc : -1 - t=v
     · rw[if_pos hc]at h ⊢
       obtain⟨g1,g2,g3⟩:=z052 h hts hvs hl'
       refine⟨g1,fun p hp=>?_,fun k hk=>?_⟩
       · rw[List.zip_cons_cons]at hp
         rcases List.mem_cons.mp hp with rfl|hp
         · unfold zv1;rw[if_pos ht];exact hc.symm
         · exact g2 p hp
       · rw[g3 k hk,List.mem_cons]
         have:¬ (k:Int)=t:=by omega
         simp[this]
     · rw[if_neg hc]at h;simp at h
   · rw [if_neg ht]at h ⊢
     have htb:t.toNat<b.length:=by have:=h1 t (by simp);omega
     by_cases hc:b.getD t.toNat 0=10∨b.getD t.toNat 0=v
     · rw [if_pos hc]at h ⊢
       have hlen:(b.set t.toNat v).length=b.length:=by simp
       obtain⟨g1,g2,g3⟩:=z052 h (by rw[hlen];exact hts) hvs hl'
       refine⟨⟨g1.1.trans hlen,fun k hk=>?_⟩,fun p hp=>?_,fun k hk=>?_⟩
       · by_cases hkt:k=t.toNat
         · subst hkt
           have hbv:iAt b t.toNat=v:=hc.resolve_left hk
           rw[g1.2 _ (by rw[zme htb,if_pos rfl];exact hv),zme htb,if_pos rfl,hbv]
         · have e:iAt (b.set t.toNat v) k=iAt b k:=by rw[zme htb,if_neg hkt]
           rw[g1.2 k (by rw[e];exact hk),e]
       · rw[List.zip_cons_cons]at hp
         rcases List.mem_cons.mp hp with rfl|hp
         · unfold zv1;rw[if_neg ht]
           have e:iAt (b.set t.toNat v) t.toNat=v:=by rw[zme htb,if_pos rfl]
           rw[g1.2 _ (by rw[e];exact hv),e]
         · exact g2 p hp
       · rw[g3 k (by rw[hlen];exact hk),zme htb,List.mem_cons]
         by_cases hkt:k=t.toNat
         · have:(k:Int)=t:=by omega
           simp[hkt,hv]
           omega
         · have:¬ (k:Int)=t:=by omega
           simp[hkt,this]
     · rw[if_neg hc]at h;simp at h
theorem z0f6 {c c':List Int} {p:Int×Int} (hg:zru c c') (h:zv1 c p) (hv:p.2≠10):zv1 c' p:=by
 unfold zv1 at h ⊢
 split
 · rename_i ht;rw[if_pos ht]at h;exact h
 · rename_i ht;rw[if_neg ht]at h;rw[hg.2 _ (by rw[h];exact hv),h]
theorem z0av {v:Int} (h:vVal v=true):v≠10:=by have:=inR_iff.mp h;omega
theorem z06p:∀ {ts vs c s:List Int},ts.length=vs.length→(∀ p∈ts.zip vs,zv1 c p)→(∀ v∈vs,vVal v=true)→(∀ t∈ts,t<c.length)→runE (zhs c) ts s = .inr (s++vs)
 |[],[],c,s,_,_,_,_=>by simp[runE]
 |[],v::vs,c,s,h,_,_,_=>by simp at h
 |t::ts,[],c,s,h,_,_,_=>by simp at h
 | t::ts,v::vs,c,s,h,h1,h2,h3=>by
   have hp:=h1 (t,v) (by simp)
   have hv:=h2 v (by simp)
   have e:zhs c s t = .inr (s++[v]):=by
    unfold zhs z08j
    unfold zv1 at hp
    simp only at hp
    by_cases ht:t<0
    · rw[if_pos ht]at hp
      rw[if_neg (by omega),←hp,if_pos hv]
    · rw[if_neg ht]at hp
      have hlt:=h3 t (by simp)
      have hp:c.getD t.toNat 0=v:=hp
      rw[if_pos (by omega),if_neg (by omega),hp,if_pos hv]
   simp only[runE,e]
   rw[z06p (by simpa using h) (fun p hp=>h1 p (by simp[hp])) (fun v hv=>h2 v (by simp[hv])) (fun t ht=>h3 t (by simp[ht]))]
   simp
theorem z06d {a f:z00} {c:List Int} (h1:a.1=f.1) (hl:a.2.1.length=f.2.1.length) (hz:∀ p∈a.2.1.zip f.2.1,zv1 c p) (hv:∀ v∈f.2.1,vVal v=true) (ht:∀ t∈a.2.1,t<c.length):zab a c=true∧inst a c=f:=by
 have:=z06p (s:=[]) hl hz hv ht
 unfold zab inst
 rw[this,List.nil_append,h1]
 exact⟨rfl,rfl⟩
theorem z02n {fs:List z00} {w:List Int→List (List Int)} {a:z00} {b c:List Int}:∀ {l:List z00} {out:List (List Int)},c∈l.foldl (zo1 fs w a b) out→c∈out∨∃ f∈l,a.1=f.1∧(fitP a.2.1 f.2.1 b).2=true∧c∈w (fitP a.2.1 f.2.1 b).1
 |[],out,h=>.inl h
 | f::l,out,h=>by
   rw[List.foldl_cons]at h
   rcases z02n h with h|⟨g,hg,h⟩
   · unfold zo1 at h
     split at h
     · rename_i hc
       rcases List.mem_append.mp h with h|h
       · exact .inl h
       · exact .inr ⟨f,by simp,hc.1,hc.2,h⟩
     · exact .inl h
   · exact .inr ⟨g,by simp[hg],h⟩
theorem z0cf {fs:List z00} (hv:∀ f∈fs,∀ v∈f.2.1,vVal v=true):∀ {ats:List z00} {b c:List Int},c∈walk fs ats b→WOk fs ats→b.length=5→
  zru b c∧(∀ a∈ats,zab a c=true∧inst a c∈fs)∧∀ k:Nat,k<5→(iAt c k≠10↔iAt b k≠10∨∃ a∈ats,(k:Int)∈a.2.1)
 | [],b,c,h,_,_=>by
   have:c=b:=by simpa [walk]using h
   subst this
   exact⟨zuo _,by simp,by simp⟩
 | a::ats,b,c,h,hw,hb=>by
   rcases z02n (show c∈fs.foldl (zo1 fs (walk fs ats) a b) [] from h)with h|⟨f,hf,h1,h2,h3⟩
   · simp at h
   have hrow:=hw.row a (by simp)
   have hlen:=hw.fit a (by simp) f hf h1
   obtain⟨g1,g2,g3⟩:=z052 h2 (fun t ht=>by have:=(hrow.2 t ht).2;omega) (fun v hv'=>z0av (hv f hf v hv')) hlen
   obtain⟨k1,k2,k3⟩:=z0cf hv h3 hw.tail (by rw[zgl];exact hb)
   have hcl:c.length=5:=by rw[k1.1,zgl];exact hb
   refine⟨z015 g1 k1,fun a' ha=>?_,fun k hk=>?_⟩
   · rcases List.mem_cons.mp ha with rfl|ha
     · obtain⟨m1,m2⟩:=z06d (c:=c) h1 hlen (fun p hp=>z0f6 k1 (g2 p hp) (z0av (hv f hf _ (List.of_mem_zip hp).2))) (hv f hf) (fun t ht=>by have:=(hrow.2 t ht).2;omega)
       exact⟨m1,m2 ▸ hf⟩
     · exact k2 a' ha
   · rw[k3 k hk,g3 k (by omega)]
     simp only[List.mem_cons,exists_eq_or_imp,or_assoc]
theorem z076 {x:z09} (h:z36 x=true):∀ f∈x.2.1,∀ v∈f.2.1,vVal v=true:=fun f hf=>(z1j (z5g h hf)).2.2.2.2.2
theorem mem_vars {ats:List z00} {k:Nat}:(k:Int)∈vars ats↔∃ a∈ats,(k:Int)∈a.2.1:=by
 unfold vars
 rw[mem_sset,List.mem_filter,List.mem_flatMap]
 simp
theorem z08v {x:z09} {d:TDep} {b:List Int} (h:b∈z95 x d.1):b.length=5∧zya d b=true∧zoq x d b=true:=by
 have hb:=zjx h
 unfold z95 at h
 split at h
 · rename_i hm
   have hw:=(zry hm).1
   have hx:z36 x=true:=by unfold mOk at hm;simp only[Bool.and_eq_true]at hm;exact hm.2.1
   rcases zzc h with h|h
   · simp at h
   obtain⟨_,h2,h3⟩:=z0cf (z076 hx) h hw rfl
   refine⟨hb,?_,?_⟩
   · unfold zya
     refine List.all_eq_true.mpr fun k hk=>?_
     have hk:k<5:=by rw[hb]at hk;exact List.mem_range.mp hk
     have e:=h3 k hk
     have hbl:iAt zbe k=10:=by
      rcases k with _|_|_|_|_|k<;>first|rfl|omega
     rw[←mem_vars]at e
     simp only[hbl,ne_eq,not_true,false_or]at e
     by_cases hm:(k:Int)∈vars d.1
     · rw[decide_eq_true hm,show(iAt b k == 10)=false from beq_eq_false_iff_ne.mpr (e.mpr hm)];rfl
     · have:iAt b k=10:=Classical.byContradiction fun h'=>hm (e.mp h')
       rw[decide_eq_false hm,this];rfl
   · unfold zoq
     refine List.all_eq_true.mpr fun a ha=>?_
     obtain⟨m1,m2⟩:=h2 a ha
     rw[m1,decide_eq_true m2];rfl
 · simp at h
theorem z083 {x y:z09} {d:TDep} {b:List Int} (hxy:∀ f∈x.2.1,f∈y.2.1) (h:zoq x d b=true):zoq y d b=true:=by
 unfold zoq at h ⊢
 refine List.all_eq_true.mpr fun a ha=>?_
 have:=List.all_eq_true.mp h a ha
 rw[Bool.and_eq_true,decide_eq_true_eq]at this
 rw[this.1,decide_eq_true (hxy _ this.2)];rfl
theorem z019 {b:List Int}:∀ {ts s s':List Int},runE (zhs b) ts s = .inr s'→s'=s++ts.map (fun t=>if 0≤t then iAt b t.toNat else -1 - t)∧(∀ t∈ts,vVal (if 0≤t then iAt b t.toNat else -1 - t)=true)
 |[],s,s',h=>by simp only[runE,Sum.inr.injEq]at h;subst h;simp
 | t::ts,s,s',h=>by
   simp only[runE]at h
   cases e:zhs b s t with
   |inl _=>rw[e]at h;simp at h
   | inr s1=>
     rw[e]at h
     obtain⟨h1,h2⟩:=z019 h
     have h3:s1=s++[if 0≤t then iAt b t.toNat else -1 - t]∧vVal (if 0≤t then iAt b t.toNat else -1 - t)=true:=by
      unfold zhs z08j at e
      by_cases ht:0≤t
      · rw [if_pos ht]at e ⊢
        by_cases hl:(b.length:Int)≤t
        · rw[if_pos hl]at e;simp at e
        · rw[if_neg hl]at e
          by_cases hv:vVal (b.getD t.toNat 0)=true
          · rw[if_pos hv]at e
            simp only[Sum.inr.injEq]at e
            exact⟨e.symm,hv⟩
          · rw[if_neg hv]at e;simp at e
      · rw[if_neg ht]at e ⊢
        by_cases hv:vVal (-1 - t)=true
        · rw[if_pos hv]at e
          simp only[Sum.inr.injEq]at e
          exact⟨e.symm,hv⟩
        · rw[if_neg hv]at e;simp at e
     refine⟨by rw[h1,h3.1];simp,fun u hu=>?_⟩
     rcases List.mem_cons.mp hu with rfl|hu
     · exact h3.2
     · exact h2 u hu
theorem z0hd {a:z00} {b:List Int} (h:zab a b=true):(inst a b).1=a.1∧(inst a b).2.1=a.2.1.map (fun t=>if 0≤t then iAt b t.toNat else -1 - t)∧∀ t∈a.2.1,vVal (if 0≤t then iAt b t.toNat else -1 - t)=true:=by
 unfold zab at h
 unfold inst
 cases e:runE (zhs b) a.2.1 []with
 |inl r=>rw[e]at h;simp at h
 | inr s=>
   obtain⟨h1,h2⟩:=z019 e
   exact⟨rfl,by simpa using h1,h2⟩
theorem zu6 {x:z09} {f:z00} (hf:f∈x.2.1) {v:Int} (hv:v∈f.2.1) (hn:z8d v=true):z4v v<zif x:=by
 have hr:=z03z x
 have hk:z4v v∈nulI x:=by
  unfold nulI
  rw[mem_sset,List.mem_flatMap]
  refine⟨f,hf,mem_nulls.mpr ?_⟩
  have:=isNul_iff.mp hn
  have e:z4v v = -1 - v:=by unfold z4v;rw[if_pos hn]
  rw[e]
  exact⟨by omega,by omega,by rw[show -1 - (-1 - v)=v by omega];exact hv⟩
 have:=nextN_le (x:=x) (n:=(zif x).toNat) |>.mp (by omega) _ hk
 omega
theorem z05z {x:z09} {d:TDep} {b:List Int} (hF:zoq x d b=true) {k:Nat} (hk:(k:Int)∈vars d.1):vVal (iAt b k)=true∧(z8d (iAt b k)=true→z4v (iAt b k)<zif x):=by
 obtain⟨a,ha,hka⟩:=mem_vars.mp hk
 have:=List.all_eq_true.mp hF a ha
 rw[Bool.and_eq_true,decide_eq_true_eq]at this
 obtain⟨_,h2,h3⟩:=z0hd this.1
 have e:(if (0:Int)≤(k:Int)then iAt b (k:Int).toNat else -1 - (k:Int))=iAt b k:=by rw[if_pos (by omega),Int.toNat_natCast]
 have h4:=h3 _ hka
 rw[e]at h4
 refine⟨h4,fun hn=>zu6 this.2 ?_ hn⟩
 rw[h2]
 exact List.mem_map.mpr ⟨_,hka,e⟩
theorem z02g {m:Int} (h:0≤m):maxI m 0=m:=by unfold maxI;split<;>omega
theorem z0h9 {m n:Int}:m≤maxI m n:=by unfold maxI;split<;>omega
theorem z0dk {dp:List Int} {m v:Int} (h:0≤m):zuw dp m v=maxI m (if z8d v then dp.getD (z4v v).toNat 0 else 0):=by
 unfold zuw
 have hn:=zhx v
 split
 · split
   · rfl
   · rename_i h2
     rw[List.getD_eq_getElem?_getD,List.getElem?_eq_none (by omega)]
     exact(z02g h).symm
 · exact(z02g h).symm
theorem zwg {dp:List Int}:∀ {l:List Int} {m:Int},0≤m→l.foldl (zuw dp) m=l.foldl (fun m v=>maxI m (if z8d v then dp.getD (z4v v).toNat 0 else 0)) m
 |[],m,_=>rfl
 | v::l,m,h=>by
   rw[List.foldl_cons,List.foldl_cons,z0dk h]
   exact zwg (Int.le_trans h z0h9)
theorem z0fr {dp:List Int} {l:List Int}:l.foldl (zuw dp) 0+1=z89 dp l:=by
 rw[zwg (Int.le_refl 0),zop (g:=fun k=>dp.getD k.toNat 0) (Int.le_refl 0)]
 rfl
theorem z0f0 (l m:List z05):∃ r,z1y (l++m)=z1y l++r:=by
 induction m generalizing l with
 |nil=>exact⟨[],by simp⟩
 | cons a m ih=>
   obtain⟨r,hr⟩:=ih (l++[a])
   rw[List.append_assoc,z8k,List.append_assoc]at hr
   exact⟨_,hr⟩
theorem z00n {out args:List Int} {n:Nat} (h:∀ d∈out,0≤d∧d≤n):0≤z89 out args∧z89 out args≤n+1:=by
 unfold z89
 have h0:=ziq (fun k=>out.getD k.toNat 0) (z2h args)
 have:mx (fun k=>out.getD k.toNat 0) (z2h args)≤n:=mx_le.mpr ⟨by omega,fun k _=>by
  by_cases hk:k.toNat<out.length
  · rw[z0r hk];exact(h _ (List.getElem_mem hk)).2
  · rw[List.getD_eq_getElem?_getD,List.getElem?_eq_none (by omega)];simp⟩
 omega
theorem z0fq (n:Nat):∀(l:List z05),l.length=n→∀ d∈z1y l,0≤d∧d≤l.length:=by
 induction n with
 |zero=>intro l hl;obtain rfl:=List.length_eq_zero_iff.mp hl;simp[z1y]
 | succ n ih0=>
   intro l0 hl d hd
   have hne:l0≠[]:=by intro e;rw[e]at hl;simp at hl
   obtain⟨l,t,rfl⟩:∃ l t,l0=l++[t]:=⟨_,_,(List.dropLast_concat_getLast hne).symm⟩
   have ih:=ih0 l (by simpa using hl)
   rw[z8k]at hd
   rw[List.length_append]
   simp only[List.length_cons,List.length_nil]
   rcases List.mem_append.mp hd with hd|hd
   · have:=ih d hd;omega
   · have e:d=z89 (z1y l) t.2.2.1:=by simpa using hd
     rw[e]
     have:=z00n (args:=t.2.2.1) ih
     omega
theorem z0dz (n:Nat):∀(l:List z05),l.length=n→n≤1000→l.foldl z04o []=z1y l:=by
 induction n with
 |zero=>intro l hl _;obtain rfl:=List.length_eq_zero_iff.mp hl;rfl
 | succ n ih0=>
   intro l0 hl h31
   have hne:l0≠[]:=by intro e;rw[e]at hl;simp at hl
   obtain⟨l,t,rfl⟩:∃ l t,l0=l++[t]:=⟨_,_,(List.dropLast_concat_getLast hne).symm⟩
   have hln:l.length=n:=by simpa using hl
   rw[List.foldl_append,ih0 l hln (by omega),z8k]
   simp only[List.foldl_cons,List.foldl_nil]
   unfold z04o
   rw[z0fr]
   have:=z00n (args:=t.2.2.1) (z0fq _ l rfl)
   rw[z1g (by omega) (by omega)]
theorem z007 {s:TSk} {t:z05} (hl:s.2.1.length≤30):zd8 s t (z89 (z1y s.2.1) t.2.2.1):=by
 have:=zpi (s:=s) (t:=t) hl
 rw[z0dz _ _ rfl (by simp;omega),z8k]at this
 have e:(z1y s.2.1++[z89 (z1y s.2.1) t.2.2.1]).getD s.2.1.length 0=z89 (z1y s.2.1) t.2.2.1:=by
  have hd:=z03h s.2.1
  rw[List.getD_eq_getElem?_getD,List.getElem?_append_right (by omega),hd]
  simp
 rw[e]at this
 exact this
def zq0 (s:TSk) (t:z05):TSk×Int×Bool:=if t∈s.2.1 then(s,-1 - zb4 s.2.1 t,true)else if s.2.1.length=30∨8<z89 (z1y s.2.1) t.2.2.1 then(s,0,false)else((s.1,(s.2.1++[t],s.2.2)),-1 - (s.2.1.length:Int),true)
theorem z02q {s:TSk} {t:z05} (hl:s.2.1.length≤30):zao s t (zq0 s t).1 (zq0 s t).2.1 (zq0 s t).2.2:=by
 by_cases hm:t∈s.2.1
 · have e:zq0 s t=(s,-1 - zb4 s.2.1 t,true):=by unfold zq0;rw[if_pos hm]
   rw[e]
   exact za4 hl _ _ _ (fun _=>⟨rfl,rfl,rfl⟩) (fun h=>absurd hm h)
 · have hy:=z007 (s:=s) (t:=t) hl
   by_cases h30:s.2.1.length=30
   · have e:zq0 s t=(s,0,false):=by unfold zq0;rw[if_neg hm,if_pos (.inl h30)]
     rw[e]
     exact za4 hl _ _ _ (fun h=>absurd h hm) (fun _=>lenI fun _=>z3j (fun _=>rfl) (fun h=>by omega))
   · by_cases h8:z89 (z1y s.2.1) t.2.2.1 > 8
     · have e:zq0 s t=(s,0,false):=by unfold zq0;rw[if_neg hm,if_pos (.inr h8)]
       rw[e]
       exact za4 hl _ _ _ (fun h=>absurd h hm) (fun _=>lenI fun _=>z3j (fun h=>by omega) (fun _=>⟨_,hy,z0e (fun _=>rfl) (fun h=>absurd h8 h)⟩))
     · have e:zq0 s t=((s.1,(s.2.1++[t],s.2.2)),-1 - (s.2.1.length:Int),true):=by unfold zq0;rw[if_neg hm,if_neg (by rintro (h|h);exact h30 h;exact h8 h)]
       rw[e]
       refine za4 hl _ _ _ (fun h=>absurd h hm) (fun _=>lenI fun _=>z3j (fun h=>by omega) (fun _=>⟨_,hy,z0e (fun h=>absurd h h8) (fun _=>⟨trivial,trivial,by simp only[maxL,List.length_nil];omega,by simp only[maxL,List.length_append,List.length_cons,List.length_nil];omega,lenI fun _=>⟨-1 - (s.2.1.length:Int),?_,rfl⟩⟩)⟩))
       have e:w64 ((List.length ((([]:List z05)++s.2.1)++([t]:List z05)):Int) - (1:Int))=(s.2.1.length:Int):=by
        rw[z1g]<;>simp<;>omega
       rw[e]
       exact zhy (by omega) (by omega)
theorem z03j {l m:List z05} {k:Nat} (hk:k<l.length):z8c (l++m) k=z8c l k:=by
 have e:zex (l++m) k=zex l k:=by rw[z6e (by rw[List.length_append];omega),z6e hk,List.getElem_append_left hk]
 unfold z8c
 rw[e,List.take_append_of_le_length (by omega)]
theorem z0cw {ts:List z05} {t:z05} (h:areT ts=true) (hl:ts.length<30) (h1:inR t.1 0 4=true) (h2:inR t.2.1 0 4=true) (h3:t.2.2.1.length≤5) (h4:t.2.2.1.all (zb5 ts.length)=true) (h5:t∉ts) (h8:z89 (z1y ts) t.2.2.1≤8):areT (ts++[t])=true:=by
 unfold areT at h ⊢
 simp only[Bool.and_eq_true,decide_eq_true_eq]at h ⊢
 obtain⟨⟨_,g2⟩,g3⟩:=h
 refine⟨⟨by simp;omega,List.all_eq_true.mpr fun k hk=>?_⟩,?_⟩
 · have hk:k<ts.length+1:=by simpa using hk
   by_cases hkl:k<ts.length
   · rw[z03j hkl];exact List.all_eq_true.mp g2 k (List.mem_range.mpr hkl)
   · obtain rfl:k=ts.length:=by omega
     unfold z8c
     have e:zex (ts++[t]) ts.length=t:=by rw[z6e (by simp)];simp
     rw[e,h1,h2,h4,decide_eq_true h3,List.take_append_of_le_length (Nat.le_refl _),List.take_length,ze7,decide_eq_false h5];rfl
 · rw[z8k,List.all_append,g3]
   simpa using h8
theorem z09x {d:TDep} {i:Int} {b:List Int}:∀ {l:List Int} {s:List z05×List Int},∃ r,(l.foldl (hdG d i b) s).1=s.1++r
 |[],s=>⟨[],by simp⟩
 | v::l,s=>by
   rw[List.foldl_cons]
   obtain⟨r,hr⟩:=z09x (d:=d) (i:=i) (b:=b) (l:=l) (s:=hdG d i b s v)
   rw[hr]
   unfold hdG
   split
   · exact⟨r,rfl⟩
   · exact⟨_,by rw[List.append_assoc]⟩
def zkc (d:TDep) (i:Int) (b:List Int) (st:List z05×List Int) (v:Int):Unit ⊕ (List z05×List Int):=
 if tmOf d i b v∈st.1 then .inr (hdG d i b st v)else if st.1.length=30∨8<z89 (z1y st.1) (z7b d b)then .inl ()else .inr (hdG d i b st v)
theorem zsv {d:TDep} {i:Int} {b:List Int} {st st':List z05×List Int} {v:Int} (h:zkc d i b st v = .inr st'):st'=hdG d i b st v:=by
 unfold zkc at h
 split at h
 · exact(Sum.inr.inj h).symm
 · split at h
   · cases h
   · exact(Sum.inr.inj h).symm
theorem ztd {d:TDep} {i:Int} {b:List Int}:∀ {l:List Int} {st st':List z05×List Int},runE (zkc d i b) l st = .inr st'→st'=l.foldl (hdG d i b) st
 |[],st,st',h=>by simp only[runE,Sum.inr.injEq]at h;exact h.symm
 | v::l,st,st',h=>by
   simp only[runE]at h
   cases e:zkc d i b st v with
   |inl _=>rw[e]at h;simp at h
   |inr s1=>rw[e]at h;rw[List.foldl_cons,←zsv e];exact ztd h
theorem zy5 {d:TDep} {i:Int} {b:List Int} (hi:inR i 0 4=true) (hfr:(z7b d b).length≤5):∀ {l:List Int} {st st':List z05×List Int},(∀ v∈l,inR v 0 4=true)→(z7b d b).all (zb5 st.1.length)=true→areT st.1=true→runE (zkc d i b) l st = .inr st'→areT st'.1=true
 |[],st,st',_,_,h,hr=>by simp only[runE,Sum.inr.injEq]at hr;subst hr;exact h
 | v::l,st,st',hv,ha,h,hr=>by
   simp only[runE]at hr
   cases e:zkc d i b st v with
   |inl _=>rw[e]at hr;simp at hr
   | inr s1=>
     rw[e]at hr
     have e1:=zsv e
     have hlt:=zen h
     have key:areT s1.1=true∧st.1.length≤s1.1.length:=by
      unfold zkc at e
      by_cases hm:tmOf d i b v∈st.1
      · have:s1.1=st.1:=by rw[e1];unfold hdG;rw[if_pos hm]
        rw[this];exact⟨h,Nat.le_refl _⟩
      · rw[if_neg hm]at e
        by_cases hc:st.1.length=30∨8<z89 (z1y st.1) (z7b d b)
        · rw[if_pos hc]at e;cases e
        · have:s1.1=st.1++[tmOf d i b v]:=by rw[e1];unfold hdG;rw[if_neg hm]
          rw[this]
          have h30:¬ st.1.length=30:=fun h'=>hc (.inl h')
          have h8:¬ 8<z89 (z1y st.1) (z7b d b):=fun h'=>hc (.inr h')
          exact⟨z0cw h (by omega) hi (hv v (by simp)) hfr ha hm (by unfold tmOf;simp only;omega),by simp⟩
     refine zy5 hi hfr (fun u hu=>hv u (by simp[hu])) (List.all_eq_true.mpr fun w hw=>?_) key.1 hr
     have:=List.all_eq_true.mp ha w hw
     unfold zb5 at this ⊢
     rw[Bool.and_eq_true]at this
     rw[this.1,Bool.true_and]
     have h2:=this.2
     cases hn:z8d w with
     |false=>rfl
     | true=>
       rw[hn,Bool.true_and]at h2
       have h2:¬ (st.1.length:Int)≤z4v w:=by simpa using h2
       have:¬ (s1.1.length:Int)≤z4v w:=by omega
       simp[this]
theorem z05i {d:TDep} {i:Int} {b:List Int} {r:Unit}:∀ {l:List Int} {st:List z05×List Int},runE (zkc d i b) l st = .inl r→areT (l.foldl (hdG d i b) st).1=false
 |[],st,h=>by simp[runE]at h
 | v::l,st,h=>by
   simp only[runE]at h
   rw[List.foldl_cons]
   cases e:zkc d i b st v with
   |inr s1=>rw[e]at h;rw[←zsv e];exact z05i h
   | inl _=>
     obtain⟨r',hr⟩:=z09x (d:=d) (i:=i) (b:=b) (l:=l) (s:=hdG d i b st v)
     rw[hr]
     unfold zkc at e
     by_cases hm:tmOf d i b v∈st.1
     · rw[if_pos hm]at e;cases e
     · rw [if_neg hm]at e
       by_cases hc:st.1.length=30∨8<z89 (z1y st.1) (z7b d b)
       · have:(hdG d i b st v).1=st.1++[tmOf d i b v]:=by unfold hdG;rw[if_neg hm]
         rw[this,Bool.eq_false_iff]
         intro ha
         rcases hc with hc|hc
         · have:=zen ha
           simp only[List.length_append,List.length_cons,List.length_nil]at this
           omega
         · unfold areT at ha
           simp only[Bool.and_eq_true]at ha
           obtain⟨r2,hr2⟩:=z0f0 (st.1++[tmOf d i b v]) r'
           rw[hr2,z8k]at ha
           have:=List.all_eq_true.mp ha.2 (z89 (z1y st.1) (tmOf d i b v).2.2.1) (by simp)
           have:z89 (z1y st.1) (z7b d b)≤8:=of_decide_eq_true this
           omega
       · rw[if_neg hc]at e;cases e
theorem zr1 {d:TDep} {i:Int} {b:List Int}:∀ {l:List Int} {st:List z05×List Int},(∀ v∈l,0≤v∧v<5)→st.2.length=5→
  (l.foldl (hdG d i b) st).2.length=5∧∀ k:Nat,k<5→((k:Int)∈l→∃ n:Int,iAt (l.foldl (hdG d i b) st).2 k = -1 - n∧0≤n∧n<((l.foldl (hdG d i b) st).1.length:Int))∧((k:Int)∉l→iAt (l.foldl (hdG d i b) st).2 k=iAt st.2 k)
 |[],st,_,h5=>⟨h5,fun k _=>⟨by simp,by simp⟩⟩
 | v::l,st,hv,h5=>by
   rw[List.foldl_cons]
   have hvr:=hv v (by simp)
   have hset:∃ n:Int,(hdG d i b st v).2=st.2.set v.toNat (-1 - n)∧0≤n∧n<((hdG d i b st v).1.length:Int):=by
    unfold hdG
    split
    · rename_i hm
      have:=zug hm
      exact⟨_,rfl,this.1,this.2⟩
    · exact⟨_,rfl,by omega,by simp;omega⟩
   obtain⟨n,e1,e2,e3⟩:=hset
   have h5':(hdG d i b st v).2.length=5:=by rw[z005];exact h5
   obtain⟨g1,g2⟩:=zr1 (d:=d) (i:=i) (b:=b) (l:=l) (st:=hdG d i b st v) (fun u hu=>hv u (by simp[hu])) h5'
   have hge:=z06e (d:=d) (i:=i) (b:=b) (l:=l) (s:=hdG d i b st v)
   refine⟨g1,fun k hk=>?_⟩
   obtain⟨q1,q2⟩:=g2 k hk
   refine⟨fun hm=>?_,fun hm=>?_⟩
   · by_cases hkl:(k:Int)∈l
     · exact q1 hkl
     · have hkv:(k:Int)=v:=(List.mem_cons.mp hm).resolve_right hkl
       refine⟨n,?_,e2,by omega⟩
       rw[q2 hkl,e1,zme (by omega),if_pos (by omega)]
   · have hkl:(k:Int)∉l:=fun h=>hm (by simp[h])
     have hkv:¬ (k:Int)=v:=fun h=>hm (by simp[h])
     rw[q2 hkl,e1,zme (by omega),if_neg (by omega)]
def za6 (s:TSk) (d:TDep) (i:Int) (b:List Int):TSk:=((s.1.1,(facS (s.1.2.1++zaj d (hdS s.2.1 d i b).2),())),((hdS s.2.1 d i b).1,()))
theorem zlh (d:TDep) (vs:List Int):zaj d vs=d.2.1.map fun a=>inst a vs:=by unfold zaj;rw[zk3,List.nil_append]
theorem z0ds {l:List TRel} {fs:List z00} (h1:zcc l=true) (h2:asc fs) (h3:fs.length≤30) (h4:∀ f∈fs,zia l f=true∧(z94 l f.1=true→nulF f=[])):z36 (l,(fs,()))=true:=by
 rw[zsp (x:=(l,(fs,()))) fun i hi=>?_]
 · simp only[h1,Bool.true_and];exact decide_eq_true h3
 · have hi:i<fs.length:=hi
   have hf:=h4 _ (List.getElem_mem hi)
   rw[zb8 (x:=(l,(fs,()))) hi hf.1 (fun h0=>by simp only;rw[z2e (by omega)];exact h2 _ _ hi (by omega))]
   simp only
   cases hs:z94 l fs[i].1 with
   |false=>rfl
   |true=>rw[hf.2 hs];rfl
theorem z0cc {x:z09} (h:z36 x=true) {f:z00} (hf:f∈x.2.1) (hs:z94 x.1 f.1=true):nulF f=[]:=by
 unfold z36 at h
 rw[Bool.and_eq_true]at h
 obtain⟨i,hi,rfl⟩:=List.mem_iff_getElem.mp hf
 have:=List.all_eq_true.mp h.2 i (List.mem_range.mpr hi)
 unfold z8j at this
 rw[Bool.and_eq_true,z2e hi,hs,Bool.true_and]at this
 have h2:=this.2
 simp at h2
 exact h2
theorem z0hg {a:z00} {c:List Int} (h:∀ t∈a.2.1,vVal (if 0≤t then iAt c t.toNat else -1 - t)=true) (ht:∀ t∈a.2.1,t<c.length):zab a c=true∧inst a c=(a.1,(a.2.1.map (fun t=>if 0≤t then iAt c t.toNat else -1 - t),())):=by
 refine z06d (a:=a) (c:=c) (f:=(a.1,(a.2.1.map (fun t=>if 0≤t then iAt c t.toNat else -1 - t),()))) rfl (by simp) (fun p hp=>?_) (fun v hv=>?_) ht
 · simp only at hp
   obtain⟨j,hj,rfl⟩:=List.mem_iff_getElem.mp hp
   rw[List.getElem_zip,List.getElem_map]
   unfold zv1
   simp only
   split
   · rename_i h0;rw[if_neg (by omega)]
   · rename_i h0;rw[if_pos (by omega)]
 · obtain⟨t,ht',rfl⟩:=List.mem_map.mp hv
   exact h t ht'
structure FireOk (s:TSk) (ds:List TDep) (d:TDep) (i:Nat) (b:List Int):Prop where
 sk:vSk s=true
 pl:z4f s.1.1 ds=true
 at_:ds[i]? = some d
 b5:b.length=5
 tB:zya d b=true
 tF:zoq s.1 d b=true
theorem zb1 {l:List TRel} {ds:List TDep} (h:z4f l ds=true) {d:TDep} (hd:d∈ds):vDep l d=true∧d.2.2.1=false∧ds.length≤5:=by
 unfold z4f at h
 rw[Bool.and_eq_true]at h
 refine⟨z029 h.1 hd,?_,zmf h.1⟩
 cases he:d.2.2.1 with
 |false=>rfl
 | true=>
   have:(ds.any fun d=>d.2.2.1)=true:=List.any_eq_true.mpr ⟨d,hd,he⟩
   rw[this]at h;simp at h
theorem z07n {l:List TRel} {d:TDep} (h:vDep l d=true) (he:d.2.2.1=false):∀ a∈d.2.1,z6s l a=true∧z94 l a.1=false:=by
 unfold vDep at h
 rw[he]at h
 simp only[Bool.and_eq_true,Bool.false_eq_true,if_false]at h
 intro a ha
 have:=List.all_eq_true.mp h.2.1.1.1 a ha
 rw[Bool.and_eq_true]at this
 exact⟨this.1,by simpa using this.2⟩
theorem z089 {l:List Int} (p:Int→Bool) (h:srt l):srt (l.filter p):=List.Pairwise.filter p h
theorem z06m {l:List TRel} {d:TDep} (h:vDep l d=true):(frV d).length≤5:=by
 have hs:=z8m h
 refine z01z (a:=0) (n:=5) (z089 _ (zn1 _)) fun y hy=>?_
 have:=zk7 hs.2.2.2.2.1 (List.mem_filter.mp hy).1
 omega
theorem z07c (d:TDep) (b:List Int):z7b d b=(frV d).map fun v=>b.getD v.toNat 0:=by unfold z7b;rw[zk3,List.nil_append]
section
variable {s:TSk} {ds:List TDep} {d:TDep} {i:Nat} {b:List Int}
theorem FireOk.lt (h:FireOk s ds d i b):i<ds.length∧d∈ds:=by
 have:=h.at_
 obtain⟨hi,e⟩:=List.getElem?_eq_some_iff.mp this
 exact⟨hi,e ▸ List.getElem_mem hi⟩
theorem FireOk.args (h:FireOk s ds d i b):(z7b d b).length≤5∧(z7b d b).all (zb5 s.2.1.length)=true:=by
 obtain⟨hd,_,_⟩:=zb1 h.pl h.lt.2
 have hs:=z8m hd
 rw[z07c]
 refine⟨by rw[List.length_map];exact z06m hd,List.all_eq_true.mpr fun w hw=>?_⟩
 obtain⟨v,hv,rfl⟩:=List.mem_map.mp hw
 have h1:=List.mem_filter.mp hv
 have h2:v∈vars d.1:=of_decide_eq_true h1.2
 have h3:=zk7 hs.2.2.1 h2
 have:=z05z (k:=v.toNat) h.tF (by rw[show((v.toNat:Nat):Int)=v by omega];exact h2)
 have hn:=(z61 h.sk).2.1
 show zb5 s.2.1.length (iAt b v.toNat)=true
 unfold zb5
 rw[this.1,Bool.true_and]
 cases hz:z8d (iAt b v.toNat)with
 |false=>rfl
 | true=>
   have:=this.2 hz
   have:¬ (s.2.1.length:Int)≤z4v (iAt b v.toNat):=by omega
   simp[this]
theorem FireOk.hdLen (h:FireOk s ds d i b):(hdS s.2.1 d i b).2.length=5∧(hdS s.2.1 d i b).1.length≤36∧s.2.1.length≤(hdS s.2.1 d i b).1.length:=by
 obtain⟨hd,_,_⟩:=zb1 h.pl h.lt.2
 have h6:=z0gv hd
 have ht:=zen (z61 h.sk).2.2
 have h1:=(zr1 (d:=d) (i:=i) (b:=b) (l:=exV d) (st:=(s.2.1,b)) (fun v hv=>zfy hd hv) h.b5).1
 have h2:=zcu (l:=exV d) (g:=hdG d i b) (s:=(s.2.1,b)) (μ:=fun st=>st.1.length) (c:=1) fun st v _=>zy8 d i b st v
 have h3:=z06e (d:=d) (i:=i) (b:=b) (l:=exV d) (s:=(s.2.1,b))
 simp only at h2 h3
 exact⟨h1,by unfold hdS;omega,h3⟩
theorem FireOk.vals (h:FireOk s ds d i b) {a:z00} (ha:a∈d.2.1) {t:Int} (ht:t∈a.2.1) :
  vVal (if 0≤t then iAt (hdS s.2.1 d i b).2 t.toNat else -1 - t)=true∧(z8d (if 0≤t then iAt (hdS s.2.1 d i b).2 t.toNat else -1 - t)=true→z4v (if 0≤t then iAt (hdS s.2.1 d i b).2 t.toNat else -1 - t)<(hdS s.2.1 d i b).1.length):=by
 obtain⟨hd,he,_⟩:=zb1 h.pl h.lt.2
 have hs:=z8m hd
 have hrow:=zr0 (hs.2.2.2.2.1 a ha)
 have htr:=hrow.2 t ht
 obtain⟨_,hl2,hl3⟩:=h.hdLen
 by_cases h0:0≤t
 · rw[if_pos h0]
   obtain⟨g1,g2⟩:=(zr1 (d:=d) (i:=i) (b:=b) (l:=exV d) (st:=(s.2.1,b)) (fun v hv=>zfy hd hv) h.b5).2 t.toNat (by omega)
   rw[show((t.toNat:Nat):Int)=t by omega]at g1 g2
   by_cases hx:t∈exV d
   · obtain⟨n,e1,e2,e3⟩:=g1 hx
     have e1:iAt (hdS s.2.1 d i b).2 t.toNat = -1 - n:=e1
     have e3:n<((hdS s.2.1 d i b).1.length:Int):=e3
     rw[e1]
     have hn:z8d (-1 - n)=true:=isNul_iff.mpr ⟨by omega,by omega⟩
     refine⟨inR_iff.mpr ⟨by omega,by omega⟩,fun _=>?_⟩
     unfold z4v;rw[if_pos hn];omega
   · have e1:iAt (hdS s.2.1 d i b).2 t.toNat=iAt b t.toNat:=g2 hx
     rw[e1]
     have htv:t∈vars d.2.1:=by
      rw[show t=((t.toNat:Nat):Int) by omega,mem_vars]
      exact⟨a,ha,by rw[show((t.toNat:Nat):Int)=t by omega];exact ht⟩
     have htb:t∈vars d.1:=by
      refine Classical.byContradiction fun hn=>hx ?_
      unfold exV
      exact List.mem_filter.mpr ⟨htv,by simp[hn]⟩
     have:=z05z (k:=t.toNat) h.tF (by rw[show((t.toNat:Nat):Int)=t by omega];exact htb)
     have hn:=(z61 h.sk).2.1
     exact⟨this.1,fun hz=>by have:=this.2 hz;omega⟩
 · rw[if_neg h0]
   refine⟨inR_iff.mpr ⟨by omega,by omega⟩,fun hn=>?_⟩
   have:=isNul_iff.mp hn
   omega
theorem FireOk.head (h:FireOk s ds d i b) {f:z00} (hf:f∈zaj d (hdS s.2.1 d i b).2):zia s.1.1 f=true∧(z94 s.1.1 f.1=true→nulF f=[])∧(∀ v∈f.2.1,z8d v=true→z4v v<(hdS s.2.1 d i b).1.length)∧f.2.1.length≤3:=by
 obtain⟨hd,he,_⟩:=zb1 h.pl h.lt.2
 rw[zlh]at hf
 obtain⟨a,ha,rfl⟩:=List.mem_map.mp hf
 obtain⟨hva,hsrc⟩:=z07n hd he a ha
 have hrow:=zr0 hva
 obtain⟨hl1,_,_⟩:=h.hdLen
 obtain⟨_,e⟩:=z0hg (a:=a) (c:=(hdS s.2.1 d i b).2) (fun t ht=>(h.vals ha ht).1) (fun t ht=>by have:=(hrow.2 t ht).2;omega)
 rw[e]
 refine⟨?_,fun hs=>?_,fun v hv hn=>?_,by simpa using hrow.1⟩
 · unfold zia vRow
   have hva':=hva
   unfold z6s vRow at hva'
   simp only[Bool.and_eq_true]at hva' ⊢
   refine⟨⟨⟨hva'.1.1.1,hva'.1.1.2⟩,by simpa using hva'.1.2⟩,List.all_eq_true.mpr fun v hv=>?_⟩
   obtain⟨t,ht,rfl⟩:=List.mem_map.mp hv
   exact(h.vals ha ht).1
 · rw[hsrc]at hs;cases hs
 · obtain⟨t,ht,rfl⟩:=List.mem_map.mp hv
   exact(h.vals ha ht).2 hn
theorem FireOk.inst (h:FireOk s ds d i b):z36 (za6 s d i b).1=decide ((za6 s d i b).1.2.1.length≤30)∧zif (za6 s d i b).1≤(hdS s.2.1 d i b).1.length∧∀ f∈(za6 s d i b).1.2.1,f.2.1.length≤3:=by
 have hx:=(z5m h.sk).1
 have hmem:∀ f∈(za6 s d i b).1.2.1,f∈s.1.2.1∨f∈zaj d (hdS s.2.1 d i b).2:=fun f hf=>List.mem_append.mp (facS_mem.mp hf)
 refine⟨?_,?_,fun f hf=>?_⟩
 · by_cases hl:(za6 s d i b).1.2.1.length≤30
   · rw[decide_eq_true hl]
     refine z0ds (zk0 hx) (z06t _) hl fun f hf=>?_
     rcases hmem f hf with hf|hf
     · exact⟨z5g hx hf,z0cc hx hf⟩
     · exact⟨(h.head hf).1,(h.head hf).2.1⟩
   · rw[decide_eq_false hl,Bool.eq_false_iff]
     exact fun h'=>hl (z41 h')
 · refine nextN_le.mpr fun k hk=>?_
   unfold nulI at hk
   rw[mem_sset,List.mem_flatMap]at hk
   obtain⟨f,hf,hk⟩:=hk
   obtain⟨k1,k2,k3⟩:=mem_nulls.mp hk
   have hn:z8d (-1 - k)=true:=isNul_iff.mpr ⟨by omega,by omega⟩
   have hno:z4v (-1 - k)=k:=by unfold z4v;rw[if_pos hn];omega
   rcases hmem f hf with hf|hf
   · have h1:=zu6 hf k3 hn
     have h2:=(z61 h.sk).2.1
     have h3:=h.hdLen.2.2
     omega
   · have:=(h.head hf).2.2.1 _ k3 hn
     omega
 · rcases hmem f hf with hf|hf
   · exact(z1j (z5g hx hf)).2.2.2.2.1
   · exact(h.head hf).2.2.2
theorem FireOk.next (h:FireOk s ds d i b):vSk (za6 s d i b)=(areT (hdS s.2.1 d i b).1&&decide ((za6 s d i b).1.2.1.length≤30)):=by
 obtain⟨h1,h2,_⟩:=h.inst
 unfold vSk
 have e:(za6 s d i b).2.1=(hdS s.2.1 d i b).1:=rfl
 rw[h1,e,decide_eq_true h2,Bool.and_true,Bool.and_comm]
theorem FireOk.run (h:FireOk s ds d i b):(∀ st,runE (zkc d i b) (exV d) (s.2.1,b) = .inr st→st=hdS s.2.1 d i b∧areT (hdS s.2.1 d i b).1=true)∧(∀ r,runE (zkc d i b) (exV d) (s.2.1,b) = .inl r→areT (hdS s.2.1 d i b).1=false):=by
 obtain⟨hd,_,h5⟩:=zb1 h.pl h.lt.2
 have hi:=h.lt.1
 refine⟨fun st hr=>?_,fun r hr=>z05i hr⟩
 have e:=ztd hr
 refine⟨e,?_⟩
 have:=zy5 (inR_iff.mpr ⟨by omega,by omega⟩) h.args.1 (fun v hv=>by have:=zfy hd hv;exact inR_iff.mpr ⟨by omega,by omega⟩) h.args.2 (z61 h.sk).2.2 hr
 rw[e]at this
 exact this
end
def zup (s:TSk) (d:TDep) (i:Nat) (b:List Int):TSk×Bool:=if areT (hdS s.2.1 d i b).1 then(za6 s d i b,decide ((za6 s d i b).1.2.1.length≤30))else(s,false)
section
variable {s:TSk} {ds:List TDep} {d:TDep} {i:Nat} {b:List Int}
theorem FireOk.res (h:FireOk s ds d i b):(zup s d i b).2=vSk (za6 s d i b)∧(vSk (za6 s d i b)=true→(zup s d i b).1=za6 s d i b):=by
 rw[h.next]
 unfold zup
 cases areT (hdS s.2.1 d i b).1 with
 |true=>exact⟨rfl,fun _=>rfl⟩
 |false=>exact⟨rfl,fun h=>by cases h⟩
theorem FireOk.getD_ (h:FireOk s ds d i b):ds.getD (Int.toNat (i:Int)) zDep=d:=by
 rw[Int.toNat_natCast,List.getD_eq_getElem?_getD,h.at_];rfl
theorem z07z (h:FireOk s ds d i b):zoy s ds i b (zup s d i b).1 (zup s d i b).2:=z07x _ _ _ _ _ _ (by
 unfold zwu
 obtain⟨hd,he,_⟩:=zb1 h.pl h.lt.2
 have hs:=z8m hd
 have hil:=h.lt.1
 have hb:=h.b5
 have hts:=zen (z61 h.sk).2.2
 have hfl:=z06m hd
 have hx:=(z5m h.sk).1
 have hxl:=z41 hx
 rw[h.getD_]
 refine inI hil ⟨_,zco (by omega) (by omega),?_⟩
 refine z2p (frV d) (fun s v=>s++[b.getD v.toNat 0]) [] (fun j s=>((j:Int),(s,()))) List.length 1 5 hfl (fun s v _=>by simp) ?_ ?_
 · intro j hj a X hs' hX
   have hv:=zk7 hs.2.2.2.2.1 (List.mem_filter.mp (List.getElem_mem hj)).1
   refine lenI fun _=>bcI hj (inI hj ?_)
   simp only
   rw[getI hj,z03 (by omega)]
   exact⟨⟨by omega,by omega⟩,by simp only[maxL,List.length_cons,List.length_nil]at *;omega,hX⟩
 · intro X _
   have efr:(frV d).foldl (fun s v=>s++[b.getD v.toNat 0]) []=z7b d b:=rfl
   rw[efr]
   have hal:=h.args.1
   refine lenI fun _=>bcN ⟨by simp only[maxL,List.length_nil];omega,?_⟩
   refine inI hil ⟨_,z9g (by omega) (by omega),?_⟩
   simp only[List.nil_append]
   refine zej (exV d) (zkc d i b) (s.2.1,b) (fun j st=>((j:Int),(((([]:List TRel),(([]:List z00),())),(([]:List z05),())),((s.1,(st.1,())),(st.2,()))))) (KR:=fun _=>((s,(false,())):TSk×Bool×Unit)=((zup s d i b).1,((zup s d i b).2,()))) ?_ ?_ ?_
   · intro j hj st Y hr q1 q2
     have hv:=zfy hd (List.getElem_mem hj)
     have e0:=ztd hr
     have h5:st.2.length=5:=by
      rw[e0]
      exact(zr1 (d:=d) (i:=i) (b:=b) (l:=(exV d).take j) (st:=(s.2.1,b)) (fun v hv=>zfy hd (List.mem_of_mem_take hv)) hb).1
     have hta:areT st.1=true:=zy5 (inR_iff.mpr ⟨by omega,by have:=(zb1 h.pl h.lt.2).2.2;omega⟩) hal (fun v hv=>by have:=zfy hd (List.mem_of_mem_take hv);exact inR_iff.mpr ⟨by omega,by omega⟩) h.args.2 (z61 h.sk).2.2 hr
     have htl:=zen hta
     refine lenI fun _=>bcI hj (inI hj ⟨trivial,trivial,by simp only[maxL,List.length_nil];omega,?_⟩)
     simp only
     rw[getI hj,z03 (by omega)]
     have et:(((i:Int),((exV d)[j],(z7b d b,()))):z05)=tmOf d i b (exV d)[j]:=rfl
     rw[et]
     refine⟨_,_,_,z02q htl,?_⟩
     unfold zq0
     simp only
     by_cases hm:tmOf d i b (exV d)[j]∈st.1
     · rw[if_pos hm]
       refine z0m (fun h=>by cases h) (fun _=>inI hj ⟨⟨by omega,by omega⟩,?_⟩)
       have:=q2 (hdG d i b st (exV d)[j]) (by unfold zkc;rw[if_pos hm])
       unfold hdG at this
       rw[if_pos hm]at this
       exact this
     · rw[if_neg hm]
       have ea:(tmOf d i b (exV d)[j]).2.2.1=z7b d b:=rfl
       rw[ea]
       by_cases hc:st.1.length=30∨8<z89 (z1y st.1) (z7b d b)
       · rw[if_pos hc]
         exact z0m (fun _=>q1 () (by unfold zkc;rw[if_neg hm,if_pos hc])) (fun h=>by cases h)
       · rw[if_neg hc]
         refine z0m (fun h=>by cases h) (fun _=>inI hj ⟨⟨by omega,by omega⟩,?_⟩)
         have:=q2 (hdG d i b st (exV d)[j]) (by unfold zkc;rw[if_neg hm,if_neg hc])
         unfold hdG at this
         rw[if_neg hm]at this
         exact this
   · intro st Y hr
     obtain⟨rfl,hta⟩:=h.run.1 st hr
     refine lenI fun _=>bcN ?_
     obtain⟨hl1,hl2,hl3⟩:=h.hdLen
     simp only
     generalize hvs:(hdS s.2.1 d i b).2=vs at hl1 ⊢
     have hm:∀ k,(((d.2.1.take k).map fun a=>inst a vs).foldl putF s.1.2.1).length≤32:=fun k=>by
      have:=ztp (l:=(d.2.1.take k).map fun a=>inst a vs) (m:=s.1.2.1)
      rw[List.length_map,List.length_take]at this
      omega
     refine z1t d.2.1.length (fun k=>((k:Int),(((s.1.1,(((d.2.1.take k).map fun a=>inst a vs).foldl putF s.1.2.1,())),((hdS s.2.1 d i b).1,())),()))) (by simp) ?_ ?_
     · intro k hk Z hZ
       have hr:=zr0 (hs.2.2.2.2.1 _ (List.getElem_mem hk))
       have hmk:=hm k
       have hil2:=z0fu (a:=d.2.1[k]) (b:=vs)
       refine inI hil (lenI fun _=>bcI hk (inI hil (inI hk ⟨inst d.2.1[k] vs,zab d.2.1[k] vs,?_,_,z05s (by simp only;omega) (by simp only;omega),?_⟩)))
       · simp only;rw[getI hk];exact zf6 (by omega) (by omega) hr.2
       · simp only
         rw[z03 (by omega)]
         rw[z07 hk,List.map_append,List.foldl_append]at hZ
         exact hZ
     · intro Z
       refine inI hil (lenI fun _=>bcN (lenI fun _=>?_))
       simp only[List.take_length]
       have e:(d.2.1.map fun a=>inst a vs).foldl putF s.1.2.1=facS (s.1.2.1++zaj d (hdS s.2.1 d i b).2):=by
        rw[hvs,zlh];exact z022 hx _
       rw[e]
       unfold zup
       rw[hta,if_pos rfl]
       have e2:decide (((facS (s.1.2.1++zaj d (hdS s.2.1 d i b).2)).length:Int)≤30)=decide ((za6 s d i b).1.2.1.length≤30):=decide_eq_decide.mpr (by unfold za6;simp only;omega)
       rw[e2];rfl
   · intro r hr
     have:=h.run.2 r hr
     unfold zup
     rw[this];rfl)
end
theorem zv2 {s:TSk} {ds:List TDep} {d:TDep} {i:Nat} {b:List Int} (h:FireOk s ds d i b):zfe s ds i b (if vSk (za6 s d i b)then za6 s d i b else s) (vSk (za6 s d i b)):=zvz _ _ _ _ _ _ (by
 unfold zlb
 obtain⟨hd,he,h5⟩:=zb1 h.pl h.lt.2
 have hs:=z8m hd
 have hil:=h.lt.1
 have hts:=zen (z61 h.sk).2.2
 have hx:=(z5m h.sk).1
 have hxl:=z41 hx
 have hcp:z0p s s:=z011 h.sk
 have hsm:=SmS.of h.sk
 have no:vSk (za6 s d i b)=false→((s,(false,())):TSk×Bool×Unit)=(if vSk (za6 s d i b)then za6 s d i b else s,(vSk (za6 s d i b),())):=fun h=>by rw[h];rfl
 refine⟨_,z3b,z0m (fun h'=>by rw[h.sk]at h';cases h') (fun _=>⟨_,zgs,z0m (fun h'=>by rw[h.pl]at h';cases h') (fun _=>lenI fun hl=>?_)⟩)⟩
 rw[z1g (n:=(ds.length:Int) - 1) (by omega) (by omega)]
 have hin:inR (i:Int) 0 ((ds.length:Int) - 1)=true:=inR_iff.mpr ⟨by omega,by omega⟩
 refine⟨_,z88,z0m (fun h'=>by rw[hin]at h';cases h') (fun _=>inI hil ?_)⟩
 rw[h.getD_]
 have htr:zpm s.1 d b=true:=by unfold zpm;rw[hx,hd,h.tB,h.tF,h.b5];rfl
 refine⟨_,z02a,z0m (fun h'=>by rw[htr]at h';cases h') (fun _=>?_)⟩
 have hdi:ds[i]=d:=by have:=h.at_;rw[List.getElem?_eq_getElem hil]at this;exact Option.some.inj this
 have hg:=z00h (ts:=s.2.1) (b:=b) hil (by rw[hdi];exact z0g3 hd) hts h.b5
 rw[hdi]at hg
 refine⟨_,_,hg,?_⟩
 obtain⟨hl1,hl2,hl3⟩:=h.hdLen
 have hal:=h.args.1
 have hhl:(zaj d (hdS s.2.1 d i b).2).length≤2:=by rw[zlh,List.length_map];exact hs.2.2.2.1
 have hta:∀ t∈(hdS s.2.1 d i b).1,t.2.2.1.length≤1048576:=by
  have:∀(l:List Int) (st:List z05×List Int),(∀ t∈st.1,t.2.2.1.length≤1048576)→∀ t∈(l.foldl (hdG d i b) st).1,t.2.2.1.length≤1048576:=by
   intro l
   induction l with
   |nil=>intro st h;exact h
   | cons v l ih=>
     intro st hst
     rw[List.foldl_cons]
     refine ih _ fun t ht=>?_
     unfold hdG at ht
     split at ht
     · exact hst t ht
     · rcases List.mem_append.mp ht with ht|ht
       · exact hst t ht
       · obtain rfl:t=tmOf d i b v:=by simpa using ht
         show(z7b d b).length≤_
         omega
  exact this (exV d) (s.2.1,b) hsm.args
 refine⟨_,z3x (s:=(s.1,((hdS s.2.1 d i b).1,()))) ⟨hsm.rels,hsm.few,hsm.row,by simp only;omega,hta⟩,by simp only[maxL];omega,_,zrj (by simp only[List.length_append];omega) (fun f hf=>?_),_,z3b,?_⟩
 · rcases List.mem_append.mp hf with hf|hf
   · have:=(z1j (z5g hx hf)).2.2.2.2.1;omega
   · have:=(h.head hf).2.2.2;omega
 · have e:(((s.1.1,(facS (s.1.2.1++zaj d (hdS s.2.1 d i b).2),s.1.2.2)),((hdS s.2.1 d i b).1,())):TSk)=za6 s d i b:=rfl
   simp only
   rw[e]
   exact z0m (fun hv=>⟨s,hcp,no hv⟩) (fun hv=>by rw[hv];rfl))
def zmg (d:TDep) (i:Nat) (st:TSk) (b:List Int):Unit ⊕ TSk:=if vSk (za6 st d i b)then .inr (za6 st d i b)else .inl ()
def depE (ds:List TDep) (st:TSk) (i:Nat):Unit ⊕ TSk:=runE (zmg (ds.getD i zDep) i) (z95 st.1 (ds.getD i zDep).1) st
def zsh (ds:List TDep) (st:TSk):Unit ⊕ TSk:=runE (depE ds) (List.range ds.length) st
def z9z (ds:List TDep):Nat→TSk→Unit ⊕ TSk
 |0,st=>.inr st
 | n+1,st=>match zsh ds st with
   |.inl _=>.inl ()
   |.inr st'=>if st'.1.2.1.length=st.1.2.1.length then .inr st' else z9z ds n st'
def skc (s:TSk) (ds:List TDep):TSk×Bool:=if vSk s&&z4f s.1.1 ds then(match z9z ds 31 s with
 |.inl _=>(s,false)
 |.inr y=>(y,true))else(s,false)
structure Goes (a b:TSk):Prop where
 sk:vSk b=true
 rels:b.1.1=a.1.1
 sub:∀ f∈a.1.2.1,f∈b.1.2.1
 len:a.1.2.1.length≤b.1.2.1.length
theorem Goes.refl {a:TSk} (h:vSk a=true):Goes a a:=⟨h,rfl,fun _ h=>h,Nat.le_refl _⟩
theorem Goes.trans {a b c:TSk} (h1:Goes a b) (h2:Goes b c):Goes a c:=⟨h2.sk,h2.rels.trans h1.rels,fun f hf=>h2.sub f (h1.sub f hf),Nat.le_trans h1.len h2.len⟩
theorem z0h6 {l:List z00} {f:z00}:l.length≤(putF l f).length:=by
 unfold putF
 split
 · exact Nat.le_refl _
 · simp only[List.length_append,List.length_cons,List.length_take,List.length_drop];omega
theorem z06q:∀ {l m:List z00},m.length≤(l.foldl putF m).length
 |[],m=>Nat.le_refl _
 |a::l,m=>by rw[List.foldl_cons];exact Nat.le_trans z0h6 (z06q (l:=l))
theorem zln {d:TDep} {i:Nat} {st st':TSk} {b:List Int} (hv:vSk st=true) (h:zmg d i st b = .inr st'):Goes st st':=by
 unfold zmg at h
 split at h
 · rename_i hn
   obtain rfl:=Sum.inr.inj h
   refine⟨hn,rfl,fun f hf=>facS_mem.mpr (List.mem_append_left _ hf),?_⟩
   show st.1.2.1.length≤(facS (st.1.2.1++_)).length
   rw[←z022 (z5m hv).1]
   exact z06q
 · cases h
theorem zdr {α:Type} {g:TSk→α→Unit ⊕ TSk} (hg:∀ st a st',vSk st=true→g st a = .inr st'→Goes st st'):∀ {l:List α} {st st':TSk},vSk st=true→runE g l st = .inr st'→Goes st st'
 |[],st,st',hv,h=>by simp only[runE,Sum.inr.injEq]at h;subst h;exact .refl hv
 | a::l,st,st',hv,h=>by
   simp only[runE]at h
   cases e:g st a with
   |inl _=>rw[e]at h;simp at h
   | inr s1=>
     rw[e]at h
     have h1:=hg st a s1 hv e
     exact h1.trans (zdr hg h1.sk h)
theorem zrv {ds:List TDep} {st st':TSk} {i:Nat} (hv:vSk st=true) (h:depE ds st i = .inr st'):Goes st st':=zdr (fun st b st' hv h=>zln hv h) hv h
theorem zm5 {ds:List TDep} {st st':TSk} (hv:vSk st=true) (h:zsh ds st = .inr st'):Goes st st':=zdr (fun st b st' hv h=>zrv hv h) hv h
theorem z0a9 {ds:List TDep} {st0 st:TSk} {i:Nat} (hi:i<ds.length) (hp:z4f st0.1.1 ds=true) (hg:Goes st0 st) {b:List Int} (hb:b∈z95 st0.1 (ds.getD i zDep).1):FireOk st ds (ds.getD i zDep) i b:=by
 obtain⟨h5,hB,hF⟩:=z08v hb
 exact⟨hg.sk,by rw[hg.rels];exact hp,by rw[List.getD_eq_getElem?_getD,List.getElem?_eq_getElem hi];rfl,h5,hB,z083 hg.sub hF⟩
theorem z0cv {s:TSk} (h:vSk s=true):s.1.2.1.length≤30:=z41 (z5m h).1
theorem z028 {s:TSk} {ds:List TDep} (h:(vSk s&&z4f s.1.1 ds)=false):skc s ds=(s,false):=by unfold skc;rw[h];rfl
theorem z054 {s:TSk} {ds:List TDep} {r:Unit} (h:(vSk s&&z4f s.1.1 ds)=true) (hr:z9z ds 31 s = .inl r):skc s ds=(s,false):=by unfold skc;rw[h,hr];rfl
theorem zyr {s y:TSk} {ds:List TDep} (h:(vSk s&&z4f s.1.1 ds)=true) (hr:z9z ds 31 s = .inr y):skc s ds=(y,true):=by unfold skc;rw[h,hr];rfl
theorem zl8 {s:TSk} {ds:List TDep} (hsm:SmS s):zay s ds (skc s ds).1 (skc s ds).2:=zva _ _ _ _ (by
 unfold zlc
 have hcp:z7m s s:=zbm hsm
 refine⟨s,hcp,_,z72,z0m (fun h=>by rw[z028 (by rw[h];rfl)]) (fun h1=>⟨_,zlm,z0m (fun h=>by rw[z028 (by rw[h1,h];rfl)]) (fun h2=>?_)⟩)⟩
 have h12:(vSk s&&z4f s.1.1 ds)=true:=by rw[h1,h2];rfl
 have h5:ds.length≤5:=by have h3:=h2;unfold z4f at h3;rw[Bool.and_eq_true]at h3;exact zmf h3.1
 refine z1v (fun k a=>∃ st:TSk,a=(st,(((([]:List TRel),(([]:List z00),())),(([]:List z05),())),()))∧Goes s st∧30<st.1.2.1.length+k∧z9z ds k st=z9z ds 31 s) ?_ ?_ (n:=31) ⟨s,rfl,.refl h1,by omega,rfl⟩
 · rintro a ⟨st,rfl,hg,hk,_⟩ X
   have:=z0cv hg.sk
   omega
 · rintro k a ⟨st,rfl,hg,hk,hc⟩ X hX
   have hpl:z4f st.1.1 ds=true:=by rw[hg.rels];exact h2
   have bad:∀ r:Unit,zsh ds st = .inl r→((s,(false,())):TSk×Bool×Unit)=((skc s ds).1,((skc s ds).2,())):=fun r hr=>by rw[z054 (r:=()) h12 (by rw[←hc,z9z,hr])]
   refine lenI fun _=>?_
   simp only
   refine zej (List.range ds.length) (depE ds) st (fun i q=>((i:Int),(((([]:List TRel),(([]:List z00),())),(([]:List z05),())),(q,())))) (KR:=fun _=>((s,(false,())):TSk×Bool×Unit)=((skc s ds).1,((skc s ds).2,()))) ?_ ?_ bad
   · intro i hi q Y hr q1 q2
     have hi:i<ds.length:=by simpa using hi
     rw[List.getElem_range]at q1 q2
     have hq:Goes st q:=zdr (fun st b st' hv h=>zrv hv h) hg.sk hr
     have hpq:z4f q.1.1 ds=true:=by rw[hq.rels];exact hpl
     refine lenI fun _=>bcI hi (inI hi ⟨_,zl4,?_⟩)
     simp only
     rw[Int.toNat_natCast,z03 (by omega)]
     have hM:=zj8 (x:=q.1) (l:=(ds.getD i zDep).1)
     refine zej (z95 q.1 (ds.getD i zDep).1) (zmg (ds.getD i zDep) i) q (fun j p=>((j:Int),(((([]:List TRel),(([]:List z00),())),(([]:List z05),())),(p,())))) (KR:=fun _=>((s,(false,())):TSk×Bool×Unit)=((skc s ds).1,((skc s ds).2,()))) ?_ ?_ q1
     · intro j hj p Z hr2 p1 p2
       have hp:Goes q p:=zdr (fun st b st' hv h=>zln hv h) hq.sk hr2
       have hf:=z0a9 hi hpq hp (List.getElem_mem hj)
       obtain⟨r1,r2⟩:=hf.res
       refine lenI fun _=>bcI hj (inI hj ⟨trivial,(zup p (ds.getD i zDep) i (z95 q.1 (ds.getD i zDep).1)[j]).1,(zup p (ds.getD i zDep) i (z95 q.1 (ds.getD i zDep).1)[j]).2,?_,?_⟩)
       · simp only
         rw[getI hj]
         exact z07z hf
       · simp only
         rw[z03 (by omega),r1]
         refine z0m (fun hv=>⟨s,hcp,p1 () (by unfold zmg;rw[hv];rfl)⟩) (fun hv=>?_)
         rw[r2 hv]
         exact p2 _ (by unfold zmg;rw[hv];rfl)
     · intro p Z hr2
       exact lenI fun _=>bcN (q2 p hr2)
   · intro q Y hr
     have hr:zsh ds st = .inr q:=hr
     have hq:Goes st q:=zm5 hg.sk hr
     simp only[List.length_range]
     refine lenI fun _=>bcN (lenI fun _=>z3j (fun h=>?_) (fun h=>?_))
     · have h:q.1.2.1.length=st.1.2.1.length:=by omega
       rw[zyr (y:=q) h12 (by rw[←hc,z9z,hr];simp only;rw[if_pos h])]
     · have h:¬ q.1.2.1.length=st.1.2.1.length:=by omega
       have:=hq.len
       exact hX _ ⟨q,rfl,hg.trans hq,by omega,by rw[←hc,z9z,hr];simp only;rw[if_neg h]⟩)
theorem zl6 {s:TSk} {ds:List TDep} (hsm:SmS s):zas s ds (skc s ds).1 (skc s ds).2:=zvp _ _ _ _ (by
 unfold zkz
 have hcp:z0p s s:=z3x hsm
 refine⟨_,z3b,z0m (fun h=>⟨s,hcp,by rw[z028 (by rw[h];rfl)]⟩) (fun h1=>⟨_,zgs,z0m (fun h=>⟨s,hcp,by rw[z028 (by rw[h1,h];rfl)]⟩) (fun h2=>⟨s,hcp,?_⟩)⟩)⟩
 have h12:(vSk s&&z4f s.1.1 ds)=true:=by rw[h1,h2];rfl
 have h5:ds.length≤5:=by have h3:=h2;unfold z4f at h3;rw[Bool.and_eq_true]at h3;exact zmf h3.1
 refine z1v (fun k a=>∃(st:TSk) (b:Int),a=(b,(st,(((([]:List TRel),(([]:List z00),())),(([]:List z05),())),())))∧Goes s st∧((b=(st.1.2.1.length:Int)∧z9z ds 31 s = .inr st)∨(b≠(st.1.2.1.length:Int)∧30<st.1.2.1.length+k∧z9z ds k st=z9z ds 31 s))) ?_ ?_ (n:=31) ⟨s,-1,rfl,.refl h1,.inr ⟨by omega,by omega,rfl⟩⟩
 · rintro a ⟨st,b,rfl,hg,hk⟩ X
   have:=z0cv hg.sk
   rcases hk with⟨hb,hc⟩|⟨hb,hk,_⟩
   · refine lenI fun _=>z5y (fun h=>absurd hb h) (fun _=>?_)
     rw[zyr h12 hc]
   · omega
 · rintro k a ⟨st,b,rfl,hg,hk⟩ X hX
   rcases hk with⟨hb,hc⟩|⟨hb,hk,hc⟩
   · refine lenI fun _=>z5y (fun h=>absurd hb h) (fun _=>?_)
     rw[zyr h12 hc]
   have hpl:z4f st.1.1 ds=true:=by rw[hg.rels];exact h2
   have bad:∀ r:Unit,zsh ds st = .inl r→((s,(false,())):TSk×Bool×Unit)=((skc s ds).1,((skc s ds).2,())):=fun r hr=>by rw[z054 (r:=()) h12 (by rw[←hc,z9z,hr])]
   refine lenI fun _=>z5y (fun _=>lenI fun _=>lenI fun _=>?_) (fun h=>absurd h hb)
   simp only
   refine zej (List.range ds.length) (depE ds) st (fun i q=>((i:Int),(q,(((([]:List TRel),(([]:List z00),())),(([]:List z05),())),())))) (KR:=fun _=>((s,(false,())):TSk×Bool×Unit)=((skc s ds).1,((skc s ds).2,()))) ?_ ?_ bad
   · intro i hi q Y hr q1 q2
     have hi:i<ds.length:=by simpa using hi
     rw[List.getElem_range]at q1 q2
     have hq:Goes st q:=zdr (fun st b st' hv h=>zrv hv h) hg.sk hr
     have hpq:z4f q.1.1 ds=true:=by rw[hq.rels];exact hpl
     refine bcI hi (inI hi ⟨_,zl5,lenI fun _=>?_⟩)
     simp only
     rw[Int.toNat_natCast,z03 (by omega)]
     have hM:=zj8 (x:=q.1) (l:=(ds.getD i zDep).1)
     refine zej (z95 q.1 (ds.getD i zDep).1) (zmg (ds.getD i zDep) i) q (fun j p=>((j:Int),(p,(((([]:List TRel),(([]:List z00),())),(([]:List z05),())),())))) (KR:=fun _=>((s,(false,())):TSk×Bool×Unit)=((skc s ds).1,((skc s ds).2,()))) ?_ ?_ q1
     · intro j hj p Z hr2 p1 p2
       have hp:Goes q p:=zdr (fun st b st' hv h=>zln hv h) hq.sk hr2
       have hf:=z0a9 hi hpq hp (List.getElem_mem hj)
       refine bcI hj (inI hj ⟨if vSk (za6 p (ds.getD i zDep) i (z95 q.1 (ds.getD i zDep).1)[j])then za6 p (ds.getD i zDep) i (z95 q.1 (ds.getD i zDep).1)[j] else p,vSk (za6 p (ds.getD i zDep) i (z95 q.1 (ds.getD i zDep).1)[j]),?_,?_⟩)
       · simp only
         rw[getI hj]
         exact zv2 hf
       · simp only
         rw[z03 (by omega)]
         refine z0m (fun hv=>⟨s,hcp,p1 () (by unfold zmg;rw[hv];rfl)⟩) (fun hv=>?_)
         rw[if_pos hv]
         exact p2 _ (by unfold zmg;rw[hv];rfl)
     · intro p Z hr2
       exact bcN (q2 p hr2)
   · intro q Y hr
     have hr:zsh ds st = .inr q:=hr
     have hq:Goes st q:=zm5 hg.sk hr
     simp only[List.length_range]
     refine bcN (hX _ ⟨q,_,rfl,hg.trans hq,?_⟩)
     by_cases h:q.1.2.1.length=st.1.2.1.length
     · exact .inl ⟨by omega,by rw[←hc,z9z,hr];simp only;rw[if_pos h]⟩
     · have:=hq.len
       exact .inr ⟨by omega,by omega,by rw[←hc,z9z,hr];simp only;rw[if_neg h]⟩)
def zqu (s:TSk) (ds:List TDep):Bool:=(skc s ds).2&&(zve s ds&&((skc s ds).1.1.2.1.length == s.1.2.1.length))
theorem zyf {s:TSk} {ds:List TDep} (hsm:SmS s):zh9 s ds (zqu s ds):=zzk _ _ _ (by
 unfold zmo
 refine⟨_,_,zl8 hsm,z1r (fun h1=>⟨_,zqp,z1r (fun h2=>lenI fun _=>lenI fun _=>?_) (fun h2=>by unfold zqu;rw[h1,h2];rfl)⟩) (fun h1=>by unfold zqu;rw[h1];rfl)⟩
 unfold zqu
 rw[h1,h2]
 have:(((skc s ds).1.1.2.1.length:Int) == (s.1.2.1.length:Int))=((skc s ds).1.1.2.1.length == s.1.2.1.length):=by rw[Bool.eq_iff_iff];simp;omega
 rw[this];rfl)
theorem zxn {s:TSk} {ds:List TDep} (hsm:SmS s):zg8 s ds (zqu s ds):=zzf _ _ _ (by
 unfold znl
 refine⟨_,_,zl6 hsm,z1r (fun h1=>⟨_,zqs,z1r (fun h2=>lenI fun _=>lenI fun _=>?_) (fun h2=>by unfold zqu;rw[h1,h2];rfl)⟩) (fun h1=>by unfold zqu;rw[h1];rfl)⟩
 unfold zqu
 rw[h1,h2]
 have:(((skc s ds).1.1.2.1.length:Int) == (s.1.2.1.length:Int))=((skc s ds).1.1.2.1.length == s.1.2.1.length):=by rw[Bool.eq_iff_iff];simp;omega
 rw[this];rfl)
theorem z03y {α:Type} {f:α→Nat}:∀ {l:List α} {a:α},a∈l→f a≤(l.map f).sum
 | b::l,a,h=>by
   rw[List.map_cons,List.sum_cons]
   rcases List.mem_cons.mp h with rfl|h
   · omega
   · have:=z03y (f:=f) h;omega
theorem zy7 {s:TSk} (h:bulk (.pair (.pair (.sl 0 (.pair .str (.pair (.int .i64) (.pair .bool .unit)))) (.pair (.sl 0 (.pair (.int .i64) (.pair (.sl 0 (.int .i64)) .unit))) .unit)) (.pair (.sl 0 (.pair (.int .i64) (.pair (.int .i64) (.pair (.sl 0 (.int .i64)) .unit)))) .unit)) s≤1048576):SmS s:=by
 have h:((List.length s.1.1+(s.1.1.map (bulk (.pair .str (.pair (.int .i64) (.pair .bool .unit))))).sum)+((List.length s.1.2.1+(s.1.2.1.map (bulk (.pair (.int .i64) (.pair (.sl 0 (.int .i64)) .unit)))).sum)+0))+((List.length s.2.1+(s.2.1.map (bulk (.pair (.int .i64) (.pair (.int .i64) (.pair (.sl 0 (.int .i64)) .unit))))).sum)+0)≤1048576:=h
 refine⟨by omega,by omega,fun f hf=>?_,by omega,fun t ht=>?_⟩
 · have h1:=z03y (f:=bulk (.pair (.int .i64) (.pair (.sl 0 (.int .i64)) .unit))) hf
   have h2:f.2.1.length≤bulk (.pair (.int .i64) (.pair (.sl 0 (.int .i64)) .unit)) f:=by
    show f.2.1.length≤0+((f.2.1.length+_)+0)
    omega
   omega
 · have h1:=z03y (f:=bulk (.pair (.int .i64) (.pair (.int .i64) (.pair (.sl 0 (.int .i64)) .unit)))) ht
   have h2:t.2.2.1.length≤bulk (.pair (.int .i64) (.pair (.int .i64) (.pair (.sl 0 (.int .i64)) .unit))) t:=by
    show t.2.2.1.length≤0+(0+((t.2.2.1.length+_)+0))
    omega
   omega
abbrev zy4:Sh:=.pair (.int .i64) (.pair (.sl 0 (.int .i64)) .unit)
abbrev zzz:Sh:=.pair (.int .i64) (.pair (.int .i64) (.pair (.sl 0 (.int .i64)) .unit))
abbrev z09z:Sh:=.sl 0 (.pair .str (.pair (.int .i64) (.pair .bool .unit)))
abbrev qSk:Sh:=.pair (.pair z09z (.pair (.sl 0 zy4) .unit)) (.pair (.sl 0 zzz) .unit)
theorem zsz {α:Type} {f:α→Nat} {c:Nat}:∀ {l:List α},(∀ a∈l,f a≤c)→(l.map f).sum≤l.length * c
 |[],_=>by simp
 | a::l,h=>by
   have h1:=h a (by simp)
   have h2:=zsz (l:=l) fun b hb=>h b (by simp[hb])
   rw[List.map_cons,List.sum_cons,List.length_cons,Nat.succ_mul]
   omega
theorem z018 (l:List Int):bulk (.sl 0 (.int .i64)) l=l.length:=by
 have h:∀ l:List (Sh.den (.int .i64)),(l.map (bulk (.int .i64))).sum=0:=by
  intro l
  induction l with
  |nil=>rfl
  |cons a l ih=>rw[List.map_cons,List.sum_cons,ih];rfl
 exact congrArg (l.length + ·) (h l)
theorem z0as (f:z00):bulk zy4 f=f.2.1.length:=by
 have h:=z018 f.2.1
 have e:bulk zy4 f=0+(bulk (.sl 0 (.int .i64)) f.2.1+0):=rfl
 omega
theorem z0cx (t:z05):bulk zzz t=t.2.2.1.length:=by
 have h:=z018 t.2.2.1
 have e:bulk zzz t=0+(0+(bulk (.sl 0 (.int .i64)) t.2.2.1+0)):=rfl
 omega
theorem zwf {l:List z00} {c:Nat} (h:∀ f∈l,f.2.1.length≤c):bulk (.sl 0 zy4) l≤l.length+l.length * c:=
 Nat.add_le_add_left (zsz (f:=bulk zy4) (c:=c) (l:=l) fun f hf=>Nat.le_trans (Nat.le_of_eq (z0as f)) (h f hf)) _
theorem z08o {l:List z05} {c:Nat} (h:∀ f∈l,f.2.2.1.length≤c):bulk (.sl 0 zzz) l≤l.length+l.length * c:=
 Nat.add_le_add_left (zsz (f:=bulk zzz) (c:=c) (l:=l) fun f hf=>Nat.le_trans (Nat.le_of_eq (z0cx f)) (h f hf)) _
theorem z0e4 {a b:TSk} (h:vSk b=true) (hr:b.1.1=a.1.1):bulk qSk b≤bulk qSk a+400:=by
 have hf:=z0cv h
 have ht:=zen (z61 h).2.2
 have h1:=zwf (l:=b.1.2.1) (c:=3) fun f hf=>(z1j (z5g (z5m h).1 hf)).2.2.2.2.1
 have h2:=z08o (l:=b.2.1) (c:=5) fun t hm=>by
  obtain⟨i,hi,rfl⟩:=List.mem_iff_getElem.mp hm
  exact z05m h hi
 have e1:bulk qSk b=(bulk z09z b.1.1+(bulk (.sl 0 zy4) b.1.2.1+0))+(bulk (.sl 0 zzz) b.2.1+0):=rfl
 have e2:bulk qSk a=(bulk z09z a.1.1+(bulk (.sl 0 zy4) a.1.2.1+0))+(bulk (.sl 0 zzz) a.2.1+0):=rfl
 rw[hr]at e1
 omega
theorem zts {ds:List TDep}:∀ {n:Nat} {st st':TSk},vSk st=true→z9z ds n st = .inr st'→Goes st st'
 |0,st,st',hv,h=>by simp only[z9z,Sum.inr.injEq]at h;subst h;exact .refl hv
 | n+1,st,st',hv,h=>by
   simp only[z9z]at h
   cases e:zsh ds st with
   |inl _=>rw[e]at h;simp at h
   | inr s1=>
     rw[e]at h
     have h1:=zm5 hv e
     simp only at h
     split at h
     · obtain rfl:=Sum.inr.inj h;exact h1
     · exact h1.trans (zts h1.sk h)
theorem z0eq {s:TSk} {ds:List TDep}:bulk qSk (skc s ds).1≤bulk qSk s+400:=by
 by_cases h:(vSk s&&z4f s.1.1 ds)=true
 · cases e:z9z ds 31 s with
   |inl r=>rw[z054 h e];exact Nat.le_add_right _ _
   | inr y=>
     rw[zyr h e]
     have hv:vSk s=true:=by rw[Bool.and_eq_true]at h;exact h.1
     have hg:=zts hv e
     exact z0e4 hg.sk hg.rels
 · rw[z028 (by simpa using h)];exact Nat.le_add_right _ _
def z0ct (r:List TRel) (f:z00):Bool:=(r.getD f.1.toNat zRel).2.2.1
def insF (x:z09) (f:z00):z09×Bool:=if z36 x&&(!decide (f∈x.2.1)&&z36 (x.1,(facS (x.2.1++[f]),())))then((x.1,(facS (x.2.1++[f]),())),true)else(x,false)
theorem zz9 {x:z09} {f:z00} (h:z36 x=true) (hf:f.2.1.length≤3):zh6 x f (insF x f).1 (insF x f).2:=zxt _ _ _ _ (by
 unfold znm
 have hr:=zu5 (zk0 h)
 have hl:=z41 h
 have hp:putF x.2.1 f=facS (x.2.1++[f]):=z06z (l:=x.2.1) (m:=[f]) (zs5 h)
 refine⟨x,zsq (by omega) (by omega) (fun f hf=>zrr h hf),_,z4g,?_⟩
 rw[h]
 refine bcF ⟨_,zix,?_⟩
 rw[h,Bool.true_and]
 refine z1r (fun hm=>by unfold insF;rw[hm];simp) (fun hm=>⟨_,z05s (x:=x) (by omega) (by omega),?_⟩)
 rw[hp]
 have hn:(facS (x.2.1++[f])).length≤31:=by have:=z061 (l:=x.2.1++[f]);simp only[List.length_append,List.length_cons,List.length_nil]at this;omega
 refine⟨_,zsq (x:=(x.1,(facS (x.2.1++[f]),()))) (by simp only;omega) (by simp only;omega) (fun g hg=>?_),_,z4g,?_⟩
 · have hg:g∈facS (x.2.1++[f]):=hg
   rcases List.mem_append.mp (facS_mem.mp hg)with hg|hg
   · exact zrr h hg
   · obtain rfl:=List.mem_singleton.mp hg;omega
 · refine z0m (fun hv=>by unfold insF;rw[h,hm,show z36 (x.1,(facS (x.2.1++[f]),()))=false from hv];rfl) (fun hv=>?_)
   unfold insF
   rw[h,hm,show z36 (x.1,(facS (x.2.1++[f]),()))=true from hv];rfl)
theorem zyn {x:z09} {f:z00} (h:z36 x=true) (hf:f.2.1.length≤3):zh0 x f (insF x f).1 (insF x f).2:=zxu _ _ _ _ (by
 unfold zmu
 have hr:=zu5 (zk0 h)
 have hl:=z41 h
 have hcp:z3h x x:=zjj (by omega) (by omega) (fun f hf=>zrr h hf)
 have hrow:∀ g∈x.2.1,g.2.1.length≤3:=fun g hg=>(z1j (z5g h hg)).2.2.2.2.1
 refine⟨_,z4j,?_⟩
 rw[h]
 refine bcF ⟨_,zk2,z1r (fun hm=>⟨x,hcp,by unfold insF;rw[hm];simp⟩) (fun hm=>⟨x,hcp,by simp only[maxL,List.length_cons,List.length_nil];omega,_,zrj (by simp only[List.length_append,List.length_cons,List.length_nil];omega) (fun g hg=>?_),_,z4j,?_⟩)⟩
 · rcases List.mem_append.mp hg with hg|hg
   · have:=hrow g hg;omega
   · obtain rfl:=List.mem_singleton.mp hg;omega
 · refine z0m (fun hv=>⟨x,hcp,by unfold insF;rw[h,hm,show z36 (x.1,(facS (x.2.1++[f]),()))=false from hv];rfl⟩) (fun hv=>?_)
   unfold insF
   rw[h,hm,show z36 (x.1,(facS (x.2.1++[f]),()))=true from hv];rfl)
theorem zm6 {s:TSk} {ds:List TDep} (h:zqu s ds=true):vSk s=true:=by
 unfold zqu zve at h
 simp only[Bool.and_eq_true]at h
 exact h.2.1.1
theorem z0ci {s:TSk} {f:z00} (h:SmS s) (hf:f.2.1.length≤3) (hl:s.1.2.1.length≤30):SmS ((insF s.1 f).1,s.2):=by
 unfold insF
 split
 · have hn:=z061 (l:=s.1.2.1++[f])
   simp only[List.length_append,List.length_cons,List.length_nil]at hn
   refine⟨h.rels,by simp only;omega,fun g hg=>?_,h.terms,h.args⟩
   have hg:g∈facS (s.1.2.1++[f]):=hg
   rcases List.mem_append.mp (facS_mem.mp hg)with hg|hg
   · exact h.row g hg
   · obtain rfl:=List.mem_singleton.mp hg;omega
 · exact h
def zkg (s:TSk) (ds:List TDep) (f:z00):Bool:=zqu s ds&&(zia s.1.1 f&&(z0ct s.1.1 f&&((insF s.1 f).2&&(skc ((insF s.1 f).1,s.2) ds).2)))
def isf (s:TSk) (ds:List TDep) (f:z00):TSk×Bool:=if zkg s ds f then((skc ((insF s.1 f).1,s.2) ds).1,true)else(s,false)
theorem zky {s:TSk} {ds:List TDep} {f:z00} (h:zkg s ds f=false):isf s ds f=(s,false):=by unfold isf;rw[h];rfl
theorem z05e {s:TSk} {ds:List TDep} {f:z00} (h:zkg s ds f=true):isf s ds f=((skc ((insF s.1 f).1,s.2) ds).1,true):=by unfold isf;rw[h];rfl
theorem z0el {s:TSk} {ds:List TDep} {f:z00}:bulk qSk (isf s ds f).1≤bulk qSk s+600:=by
 by_cases h:zkg s ds f=true
 · rw[z05e h]
   unfold zkg at h
   simp only[Bool.and_eq_true]at h
   obtain⟨h1,h2,h3,h4,h5⟩:=h
   have hv:=(z5m (zm6 h1)).1
   have hb:=z0eq (s:=((insF s.1 f).1,s.2)) (ds:=ds)
   by_cases hi:(z36 s.1&&(!decide (f∈s.1.2.1)&&z36 (s.1.1,(facS (s.1.2.1++[f]),()))))=true
   · have e:insF s.1 f=((s.1.1,(facS (s.1.2.1++[f]),())),true):=by unfold insF;rw[if_pos hi]
     rw[e]at hb ⊢
     simp only at hb ⊢
     simp only[Bool.and_eq_true]at hi
     have hl:=z41 hi.2.2
     have h6:=zwf (l:=facS (s.1.2.1++[f])) (c:=3) fun g hg=>(z1j (z5g hi.2.2 hg)).2.2.2.2.1
     have e1:bulk qSk (((s.1.1,(facS (s.1.2.1++[f]),())),s.2):TSk)=(bulk z09z s.1.1+(bulk (.sl 0 zy4) (facS (s.1.2.1++[f]))+0))+(bulk (.sl 0 zzz) s.2.1+0):=rfl
     have e2:bulk qSk s=(bulk z09z s.1.1+(bulk (.sl 0 zy4) s.1.2.1+0))+(bulk (.sl 0 zzz) s.2.1+0):=rfl
     simp only at hl
     omega
   · unfold insF at h4
     rw[if_neg hi]at h4
     cases h4
 · rw[zky (by simpa using h)];exact Nat.le_add_right _ _
theorem zdf {s:TSk} {ds:List TDep} {f:z00} (hsm:SmS s):z5n s ds f (isf s ds f).1 (isf s ds f).2:=zm1 _ _ _ _ _ (by
 unfold zds
 refine⟨_,zxn hsm,z0m (fun h=>⟨s,z3x hsm,by rw[zky (by unfold zkg;rw[h];rfl)]⟩) (fun h1=>⟨_,zs4,z0m (fun h=>⟨s,z3x hsm,by rw[zky (by unfold zkg;rw[h1,Bool.true_and,←Bool.and_assoc,show(zia s.1.1 f&&z0ct s.1.1 f)=false from h];rfl)]⟩) (fun h2=>?_)⟩)⟩
 have hv:=zm6 h1
 obtain⟨hi,_⟩:=z5m hv
 have hl:=z41 hi
 have h2':(zia s.1.1 f&&z0ct s.1.1 f)=true:=h2
 rw[Bool.and_eq_true]at h2'
 have hrow:=(z1j h2'.1).2.2.2.2.1
 refine⟨s,z3x hsm,_,_,zyn hi hrow,_,_,zl6 (s:=((insF s.1 f).1,s.2)) (z0ci hsm hrow hl),?_⟩
 refine z0m (fun h=>⟨s,z3x hsm,by rw[zky (by unfold zkg;rw[h1,h2'.1,h2'.2,h];rfl)]⟩) (fun h3=>z0m (fun h=>⟨s,z3x hsm,by rw[zky (by unfold zkg;rw[h1,h2'.1,h2'.2,h3,h];rfl)]⟩) (fun h4=>?_))
 rw[z05e (by unfold zkg;rw[h1,h2'.1,h2'.2,h3,h4];rfl)])
theorem z09p {s:TSk} {ds:List TDep} {f:z00} (hsm:SmS s) (h1:zqu s ds=true) (h2:zia s.1.1 f=true) (h3:z0ct s.1.1 f=true):zul s ds f (isf s ds f).1 (isf s ds f).2:=z0ba _ _ _ _ _ (by
 unfold z01d
 have hv:=zm6 h1
 obtain⟨hi,_⟩:=z5m hv
 have hl:=z41 hi
 have hrow:=(z1j h2).2.2.2.2.1
 refine⟨_,_,zz9 hi hrow,z0m (fun h=>⟨s,zbm hsm,by rw[zky (by unfold zkg;rw[h1,h2,h3,h];rfl)]⟩) (fun h4=>⟨trivial,s,zbm hsm,_,_,zl8 (s:=((insF s.1 f).1,s.2)) (z0ci hsm hrow hl),?_⟩)⟩
 refine z0m (fun h=>⟨s,zbm hsm,by rw[zky (by unfold zkg;rw[h1,h2,h3,h4,h];rfl)]⟩) (fun h5=>?_)
 rw[z05e (by unfold zkg;rw[h1,h2,h3,h4,h5];rfl)])
theorem zlf {s:TSk} {ds:List TDep} {f:z00} (hsm:SmS s):z8x s ds f (isf s ds f).1 (isf s ds f).2:=zm8 _ _ _ _ _ (by
 unfold ze3
 refine⟨s,zbm hsm,_,zyf hsm,z0m (fun h=>by rw[zky (by unfold zkg;rw[h];rfl)]) (fun h1=>⟨_,zl7,z0m (fun h=>by rw[zky (by unfold zkg;rw[h1,h];rfl)]) (fun h2=>?_)⟩)⟩
 have hr:=z1j h2
 refine⟨⟨hr.2.1,hr.2.2.1⟩,z0m (fun h=>by rw[zky (by unfold zkg;rw[h1,h2,show z0ct s.1.1 f=false from h];rfl)]) (fun h3=>⟨_,_,z09p hsm h1 h2 h3,rfl⟩)⟩)
theorem law {x0:TSk} {x1:List TDep} {x2:z00} (_:Bnd (h18) x0) (_:Bnd (h25) x1) (_:Bnd (h11) x2):z7z x0 x1 x2 true:=ze9 _ _ _ _ (by
 unfold z81
 refine⟨_,zq8 (by omega) (by omega),zj5 (by omega) (fun _=>rfl) fun h1=>?_⟩
 try rw[z1w h1]
 have hB0:bulk k13 x0≤1099511627776:=by omega
 have hS0:bulk k13 x0≤1048576:=by omega
 refine⟨_,zq3 (by omega) (by omega),zj5 (by omega) (fun _=>rfl) fun h2=>?_⟩
 try rw[z1w h2]
 have hB1:bulk k19 x1≤1099511627776:=by omega
 have hS1:bulk k19 x1≤1048576:=by omega
 refine⟨_,z00b (by omega) (by omega),zj5 (by omega) (fun _=>rfl) fun h3=>?_⟩
 try rw[z1w h3]
 have hB2:bulk k6 x2≤1099511627776:=by omega
 have hS2:bulk k6 x2≤1048576:=by omega
 refine⟨trivial,?_⟩
 have hn:bulk k13 (isf x0 x1 x2).1≤bulk k13 x0+600:=z0el
 refine⟨_,z8s (hB0),?_⟩
 refine⟨_,z8v (hB1),?_⟩
 refine⟨_,zi2 (hB2),?_⟩
 refine⟨_,_,(zlf (zy7 hS0)),?_⟩
 refine⟨_,z8s (hB0),?_⟩
 refine⟨_,z8v (hB1),?_⟩
 refine⟨_,zi2 (hB2),?_⟩
 refine⟨_,_,(zdf (zy7 hS0)),?_⟩
 refine⟨_,z8u,zd1 (fun h=>absurd rfl h) fun _=>?_⟩
 refine z02j (fun h=>absurd rfl h) fun _=>?_
 refine⟨_,z8s (hB0),?_⟩
 refine⟨_,z8u,zd1 (fun h=>absurd rfl h) fun _=>?_⟩
 refine⟨_,z8v (hB1),?_⟩
 refine⟨_,zpw,zd1 (fun h=>absurd rfl h) fun _=>?_⟩
 refine⟨_,zi2 (hB2),?_⟩
 refine⟨_,z02t,zd1 (fun h=>absurd rfl h) fun _=>?_⟩
 have w0:=z049 k13 x0
 have q0:scal k13=8:=rfl
 rw[q0]at w0
 have p0_0:bulk k13 x0=((bulk k3 x0.1.1+(bulk k7 x0.1.2.1+0))+(bulk k11 x0.2.1+0)):=rfl
 have p0_1:wt k13 x0=((wt k3 x0.1.1+(wt k7 x0.1.2.1+0))+(wt k11 x0.2.1+0)):=rfl
 have r0_0:bulk k9 x0.1=(bulk k3 x0.1.1+(bulk k7 x0.1.2.1+0)):=rfl
 have r0_1:wt k9 x0.1=(wt k3 x0.1.1+(wt k7 x0.1.2.1+0)):=rfl
 refine⟨_,_,z2g (x0:=x0) (x1:=1) (by omega) (by omega) (by omega),?_⟩
 have w1:=z049 k19 x1
 have q1:scal k19=7:=rfl
 rw[q1]at w1
 have p1_0:bulk k19 x1=x1.length+(x1.map (bulk k18)).sum:=rfl
 refine⟨_,_,z7n (x0:=x1) (x1:=_) (by omega) (by omega) (by omega),?_⟩
 have w2:=z049 k6 x2
 have q2:scal k6=2:=rfl
 rw[q2]at w2
 have p2_0:bulk k6 x2=(0+(bulk k4 x2.2.1+0)):=rfl
 have p2_1:wt k6 x2=(1+(wt k4 x2.2.1+0)):=rfl
 refine⟨_,_,zlk (x0:=x2) (x1:=_) (by omega) (by omega) (by omega),?_⟩
 rw[z2j (by omega)]
 refine⟨_,z8u,zd1 (fun h=>absurd rfl h) fun _=>?_⟩
 refine z02j (fun h=>absurd rfl h) fun _=>?_
 have w3:=z049 k13 (isf x0 x1 x2).1
 have q3:scal k13=8:=rfl
 rw[q3]at w3
 have p3_0:bulk k13 (isf x0 x1 x2).1=((bulk k3 (isf x0 x1 x2).1.1.1+(bulk k7 (isf x0 x1 x2).1.1.2.1+0))+(bulk k11 (isf x0 x1 x2).1.2.1+0)):=rfl
 have p3_1:wt k13 (isf x0 x1 x2).1=((wt k3 (isf x0 x1 x2).1.1.1+(wt k7 (isf x0 x1 x2).1.1.2.1+0))+(wt k11 (isf x0 x1 x2).1.2.1+0)):=rfl
 have r3_0:bulk k9 (isf x0 x1 x2).1.1=(bulk k3 (isf x0 x1 x2).1.1.1+(bulk k7 (isf x0 x1 x2).1.1.2.1+0)):=rfl
 have r3_1:wt k9 (isf x0 x1 x2).1.1=(wt k3 (isf x0 x1 x2).1.1.1+(wt k7 (isf x0 x1 x2).1.1.2.1+0)):=rfl
 refine⟨_,_,z2g (x0:=(isf x0 x1 x2).1) (x1:=1) (by omega) (by omega) (by omega),?_⟩
 refine⟨_,zeb (x0:=(isf x0 x1 x2).1) (x1:=1) (by omega) (by omega) (by omega),?_⟩
 rw[z2j (by omega)]
 refine z5y (fun h=>absurd rfl h) fun _=>?_
 refine⟨trivial,?_⟩
 refine⟨_,z8s (hB0),?_⟩
 refine⟨_,z8v (hB1),?_⟩
 refine⟨_,zi2 (hB2),?_⟩
 refine⟨_,_,(zdf (zy7 hS0)),?_⟩
 refine⟨_,z8u,zd1 (fun h=>absurd rfl h) fun _=>?_⟩
 refine z02j (fun h=>absurd rfl h) fun _=>?_
 refine⟨_,zeb (x0:=(isf x0 x1 x2).1) (x1:=1) (by omega) (by omega) (by omega),?_⟩
 rw[z2j (by omega)]
 refine z5y (fun h=>absurd rfl h) fun _=>?_
 rfl)
end Go.V

