/-
  The functions that the law reaches: what each gives.
-/
import Derived.Test.YtoapopjcpgmfkaaGreatHF
import Derived.Test.YtoapopjcpgmfkaaGreatHP
set_option linter.unusedVariables false
set_option linter.unusedSimpArgs false
set_option maxRecDepth 1000000
set_option maxHeartbeats 4000000
set_option linter.unusedVariables false
set_option linter.unusedSimpArgs false
namespace Go.V
open Go
theorem g_slices_Sort_int_ooz {x0:List Int} (h:x0.length≤1099511627776):G_slices_Sort_int_ooz x0 (sortI x0):=prim_sort h
theorem g_slices_Compact_int_ooz {x0:List Int}:G_slices_Compact_int_ooz x0 (compI x0):=prim_compact
def cmpI (a b:Int):Int:=if a<b then -1 else if b<a then 1 else 0
def cmpL:List Int→List Int→Int
 |[],[]=>0
 |[],_::_=>-1
 |_::_,[]=>1
 |a::x,b::y=>if a<b then -1 else if b<a then 1 else cmpL x y
def cmpF (a b:TFact):Int:=if a.1<b.1 then -1 else if b.1<a.1 then 1 else cmpL a.2.1 b.2.1
theorem cmpL_zero:∀ {x y:List Int},cmpL x y=0↔x=y
 |[],[]=>by simp[cmpL]
 |[],b::y=>by simp[cmpL]
 |a::x,[]=>by simp[cmpL]
 | a::x,b::y=>by
   unfold cmpL
   split
   · rename_i h;constructor
     · intro h';cases h'
     · intro h';cases h';omega
   · split
     · rename_i h;constructor
       · intro h';cases h'
       · intro h';cases h';omega
     · rw[cmpL_zero]
       have:a=b:=by omega
       simp[this]
theorem cmpF_zero {x y:TFact}:cmpF x y=0↔x=y:=by
 obtain⟨a,b,u⟩:=x;obtain⟨a',b',u'⟩:=y
 unfold cmpF
 simp only
 split
 · rename_i h;constructor
   · intro h';cases h'
   · intro h';cases h';omega
 · split
   · rename_i h;constructor
     · intro h';cases h'
     · intro h';cases h';omega
   · rw[cmpL_zero]
     have:a=a':=by omega
     simp[this]
theorem cmpL_step {x y:List Int} {i:Nat} (h:i<x.length) (h':i<y.length):cmpL (x.drop i) (y.drop i)=if x[i]<y[i] then -1 else if y[i]<x[i] then 1 else cmpL (x.drop (i+1)) (y.drop (i+1)):=by
 rw[drop_cons h,drop_cons h',cmpL]
theorem cmpL_end {x y:List Int} {i:Nat} (h:x.length≤i):cmpL (x.drop i) (y.drop i)=if i<y.length then -1 else 0:=by
 rw[List.drop_of_length_le h]
 by_cases h':i<y.length
 · rw[drop_cons h',if_pos h'];rfl
 · rw[List.drop_of_length_le (by omega),if_neg h'];rfl
theorem cmpL_end' {x y:List Int} {i:Nat} (h:i<x.length) (h':y.length≤i):cmpL (x.drop i) (y.drop i)=1:=by
 rw[List.drop_of_length_le h',drop_cons h];rfl
theorem g_sl4Ints {x y:List Int}:G_sl4Ints x y (cmpL x y):=M_sl4Ints _ _ _ (by
 unfold S_sl4Ints
 refine loopP_down (fun k a=>∃ i:Nat,i+k=x.length∧a=((i:Int),())∧i≤y.length∧cmpL (x.drop i) (y.drop i)=cmpL x y) ?_ ?_ (n:=x.length) ⟨0,by omega,rfl,by omega,by simp⟩
 · rintro a ⟨i,hi,rfl,hy,hc⟩ X
   obtain rfl:i=x.length:=by omega
   rw[cmpL_end (Nat.le_refl _)]at hc
   refine lenI fun h1=>bcN (lenI fun _=>lenI fun h2=>bc_dec (fun h=>?_) (fun h=>lenI fun _=>lenI fun _=>bc_dec (fun h'=>by omega) (fun h'=>?_)))
   · rw[if_pos (by omega)]at hc;rw[←hc]
   · rw[if_neg (by omega)]at hc;rw[←hc]
 · rintro k a ⟨i,hi,rfl,hy,hc⟩ X hX
   have hlt:i<x.length:=by omega
   refine lenI fun h1=>bcI hlt (lenI fun h2=>bc_dec (fun h=>?_) (fun h=>?_))
   · have hlt':i<y.length:=by omega
     refine inI hlt (inI hlt' ?_)
     simp only
     rw[getI hlt,getI hlt']
     rw[cmpL_step hlt hlt']at hc
     refine bc_dec (fun h=>?_) (fun h=>inI hlt (inI hlt' (bc_dec (fun h'=>?_) (fun h'=>?_))))
     · rw[if_pos h]at hc;rw[←hc]
     · rw[if_neg h,if_pos h']at hc;rw[←hc]
     · rw[if_neg h,if_neg (by omega)]at hc
       rw[w64_succ (by omega)]
       exact hX _ ⟨i+1,by omega,rfl,by omega,hc⟩
   · simp only at h
     rw[cmpL_end' hlt (by omega)]at hc
     refine lenI fun _=>lenI fun _=>bc_dec (fun h'=>by omega) (fun h'=>lenI fun _=>lenI fun _=>bc_dec (fun h''=>?_) (fun h''=>by omega))
     rw[←hc])
theorem g_sCompareFacts {x y:TFact}:G_sCompareFacts x y (cmpF x y):=M_sCompareFacts _ _ _ (by
 unfold S_sCompareFacts cmpF
 refine bc_dec (fun h=>by rw[if_pos h]) (fun h=>bc_dec (fun h'=>by rw[if_neg h,if_pos h']) (fun h'=>⟨_,g_sl4Ints,by rw[if_neg h,if_neg (by omega)]⟩)))
theorem g_cmp_isNaN_int {x:Int}:G_cmp_isNaN_int x false:=M_cmp_isNaN_int _ _ (by unfold S_cmp_isNaN_int;simp)
theorem g_cmp_Compare_int {x y:Int}:G_cmp_Compare_int x y (cmpI x y):=M_cmp_Compare_int _ _ _ (by
 unfold S_cmp_Compare_int cmpI
 refine⟨_,g_cmp_isNaN_int,_,g_cmp_isNaN_int,bcF (bcF (bc_dec (fun h=>by rw[if_pos h]) (fun h=>bc_dec (fun h'=>by rw[if_neg h,if_pos h']) (fun h'=>by rw[if_neg h,if_neg h']))))⟩)
theorem cmpI_zero {a b:Int}:cmpI a b=0↔a=b:=by unfold cmpI;split<;>(try split)<;>omega
theorem g_slices_Compare_int {x y:List Int}:G_slices_Compare_int x y (cmpL x y):=M_slices_Compare_int _ _ _ (by
 unfold S_slices_Compare_int
 refine lenI fun h1=>loopP_down (fun k a=>∃ i:Nat,i+k=x.length∧a=((i:Int),())∧cmpL (x.drop i) (y.drop i)=cmpL x y∧i≤y.length) ?_ ?_ (n:=x.length) ⟨0,by omega,rfl,by simp,by omega⟩
 · rintro a ⟨i,hi,rfl,hc,hy⟩ X
   obtain rfl:i=x.length:=by omega
   rw[cmpL_end (Nat.le_refl _)]at hc
   refine bcN (lenI fun _=>lenI fun h2=>bc_dec (fun h=>?_) (fun h=>?_))
   · rw[if_pos (by omega)]at hc;rw[←hc]
   · rw[if_neg (by omega)]at hc;rw[←hc]
 · rintro k a ⟨i,hi,rfl,hc,hy⟩ X hX
   have hlt:i<x.length:=by omega
   refine bcI hlt (inI hlt (lenI fun h2=>bc_dec (fun h=>?_) (fun h=>?_)))
   · simp only at h
     rw[cmpL_end' hlt (by omega)]at hc
     rw[←hc]
   · simp only at h
     have hlt':i<y.length:=by omega
     refine inI hlt' ⟨_,g_cmp_Compare_int,?_⟩
     simp only
     rw[getI hlt,getI hlt']
     rw[cmpL_step hlt hlt']at hc
     refine bc_ne (fun h=>?_) (fun h=>?_)
     · have hne:x[i]≠y[i]:=fun e=>h (cmpI_zero.mpr e)
       rw[←hc]
       unfold cmpI
       by_cases h3:x[i]<y[i]
       · rw[if_pos h3,if_pos h3]
       · rw[if_neg h3,if_neg h3,if_pos (by omega),if_pos (by omega)]
     · have he:=cmpI_zero.mp h
       rw[if_neg (by omega),if_neg (by omega)]at hc
       rw[w64_succ (by omega)]
       exact hX _ ⟨i+1,by omega,rfl,hc,by omega⟩)
def orL:List Int→Int
 |[]=>0
 |a::l=>if a=0 then orL l else a
theorem g_cmp_Or_int {x:List Int}:G_cmp_Or_int x (orL x):=M_cmp_Or_int _ _ (by
 unfold S_cmp_Or_int
 have key:∀ l:List Int,orL l=if h:firstAt (fun t=>t != 0) l<l.length then l[firstAt (fun t=>t != 0) l] else 0:=by
  intro l
  induction l with
  |nil=>simp[orL,firstAt]
  | cons a l ih=>
    unfold orL
    by_cases ha:a=0
    · rw[if_pos ha,ih]
      simp only[firstAt,ha,bne_self_eq_false,Bool.false_eq_true,if_false,List.length_cons,Nat.add_lt_add_iff_right,List.getElem_cons_succ]
    · rw[if_neg ha]
      have:(a != 0)=true:=by simpa using ha
      simp[firstAt,this]
 refine lenI fun hl=>loop_first x (fun t=>t != 0) (fun i=>((i:Int),())) (KT:=fun i=>∀ h:i<x.length,((x[i],()):Int×Unit)=(orL x,())) (KF:=(((0:Int),()):Int×Unit)=(orL x,())) ?_ ?_ ?_ ?_
 · intro i hi X h1 h2
   refine bcI hi (inI hi ?_)
   simp only
   rw[getI hi,w64_succ (by omega)]
   exact bc_if (fun h=>h1 h hi) h2
 · intro X h;exact bcN h
 · intro h h';rw[key,dif_pos h]
 · intro h;rw[key,dif_neg (by omega)])
theorem g_iCompareFacts {x y:TFact}:G_iCompareFacts x y (cmpF x y):=M_iCompareFacts _ _ _ (by
 unfold S_iCompareFacts
 refine⟨_,g_cmp_Compare_int,_,g_slices_Compare_int,_,g_cmp_Or_int,?_⟩
 have:orL [cmpI x.1 y.1,cmpL x.2.1 y.2.1]=cmpF x y:=by
  unfold cmpF
  by_cases h:x.1<y.1
  · have:cmpI x.1 y.1 = -1:=by unfold cmpI;rw[if_pos h]
    rw[if_pos h,this];rfl
  · rw[if_neg h]
    by_cases h':y.1<x.1
    · have:cmpI x.1 y.1=1:=by unfold cmpI;rw[if_neg h,if_pos h']
      rw[if_pos h',this];rfl
    · have:cmpI x.1 y.1=0:=by unfold cmpI;rw[if_neg h,if_neg h']
      rw[if_neg h',this]
      unfold orL
      rw[if_pos rfl]
      unfold orL
      by_cases h0:cmpL x.2.1 y.2.1=0
      · rw[if_pos h0,h0];rfl
      · rw[if_neg h0]
 rw[this])
theorem g_isameFact {x y:TFact}:G_isameFact x y (decide (x=y)):=M_isameFact _ _ _ (by
 unfold S_isameFact
 refine⟨_,g_iCompareFacts,?_⟩
 have:(cmpF x y == (0:Int))=decide (x=y):=by
  by_cases h:x=y
  · rw[cmpF_zero.mpr h];simp[h]
  · have:cmpF x y≠0:=fun e=>h (cmpF_zero.mp e)
    simp[h,this]
 rw[this])
theorem g_sl5Sigs {x y:List TRel}:G_sl5Sigs x y (decide (x=y)):=M_sl5Sigs _ _ _ (by
 unfold S_sl5Sigs
 exact eqRow (α:=TRel) (fun r=>((r,()):Bool×Unit)=(decide (x=y),())) (fun(t u:TRel) A B=>bcase (!(eqD (.pair .str (.pair (.int .i64) (.pair .bool .unit))) t u)) A B) (fun(t:TRel) ht (u:TRel) hu A B h1 h2=>by
  rw[eqD_rel t u];exact bc_not (fun h=>h1 (by simpa using h)) (fun h=>h2 (by simpa using h))) rfl)
def ins:List Int→Int→List Int
 |[],x=>[x]
 |a::l,x=>if a<x then a::ins l x else if a=x then a::l else x::a::l
def srt (l:List Int):Prop:=l.Pairwise (· < ·)
def sset (l:List Int):List Int:=l.foldl ins []
theorem mem_put {y x:Int}:∀ {l:List Int},y∈ins l x↔y=x∨y∈l
 |[]=>by simp[ins]
 | a::l=>by
   unfold ins
   split
   · rw[List.mem_cons,mem_put,List.mem_cons]
     constructor
     · rintro (h|h|h)<;>simp[h]
     · rintro (h|h|h)<;>simp[h]
   · split
     · rename_i h;subst h;simp
     · simp
theorem srt_put {x:Int}:∀ {l:List Int},srt l→srt (ins l x)
 |[],_=>by simp[ins,srt]
 | a::l,h=>by
   obtain⟨h1,h2⟩:=List.pairwise_cons.mp h
   unfold ins
   split
   · rename_i hlt
     refine List.pairwise_cons.mpr ⟨fun y hy=>?_,srt_put h2⟩
     rcases mem_put.mp hy with rfl|hy
     · exact hlt
     · exact h1 y hy
   · split
     · exact h
     · refine List.pairwise_cons.mpr ⟨fun y hy=>?_,h⟩
       rcases List.mem_cons.mp hy with rfl|hy
       · omega
       · have:=h1 y hy;omega
theorem foldput {l:List Int}:∀ {s:List Int},srt s→srt (l.foldl ins s)∧∀ y,y∈l.foldl ins s↔y∈s∨y∈l:=by
 induction l with
 |nil=>intro s h;exact⟨h,by simp⟩
 | cons a l ih=>
   intro s h
   obtain⟨h1,h2⟩:=ih (srt_put (x:=a) h)
   refine⟨h1,fun y=>?_⟩
   rw[List.foldl_cons,h2,mem_put,List.mem_cons]
   constructor
   · rintro ((h|h)|h)<;>simp[h]
   · rintro (h|h|h)<;>simp[h]
theorem srt_sset (l:List Int):srt (sset l):=(foldput List.Pairwise.nil).1
theorem mem_sset {l:List Int} {y:Int}:y∈sset l↔y∈l:=by have:=(foldput (l:=l) List.Pairwise.nil).2 y;simpa [sset]using this
theorem srt_ext:∀ {a b:List Int},srt a→srt b→(∀ y,y∈a↔y∈b)→a=b
 |[],[],_,_,_=>rfl
 |[],y::b,_,_,h=>by have:=(h y).mpr (by simp);simp at this
 |x::a,[],_,_,h=>by have:=(h x).mp (by simp);simp at this
 | x::a,y::b,ha,hb,h=>by
   obtain⟨ha1,ha2⟩:=List.pairwise_cons.mp ha
   obtain⟨hb1,hb2⟩:=List.pairwise_cons.mp hb
   have hxy:x=y:=by
    rcases List.mem_cons.mp ((h x).mp (by simp))with e|hx
    · exact e
    · rcases List.mem_cons.mp ((h y).mpr (by simp))with e|hy
      · exact e.symm
      · have:=ha1 y hy;have:=hb1 x hx;omega
   subst hxy
   congr 1
   refine srt_ext ha2 hb2 fun z=>⟨fun hz=>?_,fun hz=>?_⟩
   · rcases List.mem_cons.mp ((h z).mp (by simp[hz]))with e|h'
     · have:=ha1 z hz;omega
     · exact h'
   · rcases List.mem_cons.mp ((h z).mpr (by simp[hz]))with e|h'
     · have:=hb1 z hz;omega
     · exact h'
theorem sset_of {a l:List Int} (h1:srt a) (h2:∀ y,y∈a↔y∈l):a=sset l:=srt_ext h1 (srt_sset l) fun y=>by rw[h2,mem_sset]
theorem foldput_sset {l m:List Int}:(sset m).foldl ins (sset l)=sset (l++m):=by
 obtain⟨h1,h2⟩:=foldput (l:=sset m) (srt_sset l)
 exact sset_of h1 fun y=>by rw[h2,mem_sset,mem_sset,List.mem_append]
theorem sset_snoc {l:List Int} {x:Int}:ins (sset l) x=sset (l++[x]):=by unfold sset;rw[List.foldl_append];rfl
theorem put_len (l:List Int) (x:Int):(ins l x).length≤l.length+1:=by
 induction l with
 |nil=>simp[ins]
 |cons a l ih=>unfold ins;split;simp;omega;split<;>simp
theorem sset_len (l:List Int):(sset l).length≤l.length:=by
 have:∀(l s:List Int),(l.foldl ins s).length≤s.length+l.length:=by
  intro l
  induction l with
  |nil=>intro s;simp
  |cons a l ih=>intro s;have:=ih (ins s a);have:=put_len s a;simp only[List.foldl_cons,List.length_cons];omega
 have:=this l []
 simpa [sset]using this
theorem srt_range {l:List Int} {a:Int}:∀ {n:Nat},srt l→(∀ y∈l,a≤y∧y<a+n)→l.length≤n:=by
 induction l generalizing a with
 |nil=>intro n _ _;simp
 | cons x l ih=>
   intro n h hr
   obtain⟨h1,h2⟩:=List.pairwise_cons.mp h
   have hx:=hr x (by simp)
   have:=ih (a:=x+1) (n:=(a+n - (x+1)).toNat) h2 fun y hy=>by
    have:=h1 y hy;have:=hr y (by simp[hy]);omega
   simp only[List.length_cons];omega
theorem srt_last {l:List Int} (h:srt l) (hne:l≠[]):∀ y∈l,y≤l.getLast hne:=by
 intro y hy
 have hs:l=l.dropLast++[l.getLast hne]:=(List.dropLast_concat_getLast hne).symm
 rw[hs]at h hy
 unfold srt at h
 rw[List.pairwise_append]at h
 rcases List.mem_append.mp hy with hy|hy
 · have:=h.2.2 y hy (l.getLast hne) (by simp);omega
 · have:y=l.getLast hne:=by simpa using hy
   omega
theorem put_eq (l:List Int) (x:Int):ins l x=if h:firstAt (fun a=>!decide (a<x)) l<l.length then(if l[firstAt (fun a=>!decide (a<x)) l]=x then l else l.take (firstAt (fun a=>!decide (a<x)) l)++x::l.drop (firstAt (fun a=>!decide (a<x)) l))else l++[x]:=by
 induction l with
 |nil=>simp[ins,firstAt]
 | cons a l ih=>
   unfold ins
   by_cases ha:a<x
   · have e:firstAt (fun a=>!decide (a<x)) (a::l)=firstAt (fun a=>!decide (a<x)) l+1:=by simp[firstAt,ha]
     rw[if_pos ha,ih]
     by_cases hf:firstAt (fun a=>!decide (a<x)) l<l.length
     · rw[dif_pos hf,dif_pos (by rw[e];simpa using hf)]
       simp only[e,List.getElem_cons_succ,List.take_succ_cons,List.drop_succ_cons]
       split
       · rfl
       · rfl
     · rw[dif_neg hf,dif_neg (by rw[e];simpa using hf)]
       rfl
   · have e:firstAt (fun a=>!decide (a<x)) (a::l)=0:=by simp[firstAt,ha]
     rw[if_neg ha,dif_pos (by rw[e];simp)]
     simp only[e,List.getElem_cons_zero,List.take_zero,List.drop_zero,List.nil_append]
theorem g_sl4Put {l:List Int} {x:Int} (hl:l.length≤1073741824):G_sl4Put l x (ins l x):=M_sl4Put _ _ _ (by
 unfold S_sl4Put
 have fin:∀(k:Nat),k≤l.length→((0≤(k:Int)∧(k:Int)≤(List.length l:Int)∧(List.length l:Int)≤(List.length l:Int))∧(([x]:List Int).length+(List.drop (Int.toNat (k:Int)) (List.take (Int.toNat (List.length l:Int)) l)).length≤maxL∧((0≤(0:Int)∧(0:Int)≤(k:Int)∧(k:Int)≤(List.length l:Int))∧(([]:List Int).length+(List.drop (Int.toNat (0:Int)) (List.take (Int.toNat (k:Int)) l)).length≤maxL∧((([]:List Int)++(List.drop (Int.toNat (0:Int)) (List.take (Int.toNat (k:Int)) l))).length+(([x]:List Int)++(List.drop (Int.toNat (k:Int)) (List.take (Int.toNat (List.length l:Int)) l))).length≤maxL∧(((([]:List Int)++(List.drop (Int.toNat (0:Int)) (List.take (Int.toNat (k:Int)) l)))++(([x]:List Int)++(List.drop (Int.toNat (k:Int)) (List.take (Int.toNat (List.length l:Int)) l))),()):List Int×Unit)=(l.take k++x::l.drop k,()))))) ):=by
  intro k hk
  simp only[Int.toNat_natCast,List.take_length,Int.toNat_zero,List.drop_zero,List.nil_append,List.length_nil,List.length_cons,List.length_append,List.length_take,List.length_drop,maxL,List.cons_append]
  refine⟨⟨by omega,by omega,by omega⟩,by omega,⟨by omega,by omega,by omega⟩,by omega,by omega,trivial⟩
 rw[put_eq]
 refine loop_first l (fun a=>!decide (a<x)) (fun i=>((i:Int),())) (KT:=fun i=>∀ h:i<l.length,∀ r:List Int×Unit,r=(if l[i]=x then l else l.take i++x::l.drop i,())→r=((if h:firstAt (fun a=>!decide (a<x)) l<l.length then(if l[firstAt (fun a=>!decide (a<x)) l]=x then l else l.take (firstAt (fun a=>!decide (a<x)) l)++x::l.drop (firstAt (fun a=>!decide (a<x)) l))else l++[x]),()))
  (KF:=∀ r:List Int×Unit,r=(l++[x],())→r=((if h:firstAt (fun a=>!decide (a<x)) l<l.length then(if l[firstAt (fun a=>!decide (a<x)) l]=x then l else l.take (firstAt (fun a=>!decide (a<x)) l)++x::l.drop (firstAt (fun a=>!decide (a<x)) l))else l++[x]),())) ?_ ?_ ?_ ?_
 · intro i hi X h1 h2
   refine lenI fun hl'=>bcI hi (inI hi ?_)
   simp only
   rw[getI hi,w64_succ (by omega)]
   refine bc_dec (fun h=>h2 (by simpa using h)) (fun h=>?_)
   have h1:=h1 (by simpa using h) hi
   refine lenI fun _=>bcI hi (inI hi (bc_beq (fun he=>h1 _ (by rw[if_pos he])) (fun he=>?_)))
   rw[if_neg he]at h1
   have:=fin i (by omega)
   exact⟨this.1,this.2.1,this.2.2.1,this.2.2.2.1,this.2.2.2.2.1,h1 _ this.2.2.2.2.2⟩
 · intro X h
   refine lenI fun hl'=>bcN (lenI fun _=>bcN ?_)
   have:=fin l.length (by omega)
   refine⟨this.1,this.2.1,this.2.2.1,this.2.2.2.1,this.2.2.2.2.1,h _ (this.2.2.2.2.2.trans (by simp))⟩
 · intro h h' r hr;rw[hr,dif_pos h]
 · intro h r hr;rw[hr,dif_neg (by omega)])
theorem g_sl4Has {l:List Int} {x:Int}:G_sl4Has l x (decide (x∈l)):=M_sl4Has _ _ _ (by
 unfold S_sl4Has
 refine loop_any l (fun a=>x == a) (fun i=>((i:Int),())) (KT:=((true,()):Bool×Unit)=(decide (x∈l),())) (KF:=((false,()):Bool×Unit)=(decide (x∈l),())) ?_ (fun X h=>lenI fun _=>bcN h) (fun h=>?_) (fun h=>?_)
 · intro i hi X h1 h2
   refine lenI fun _=>bcI hi (inI hi ?_)
   simp only
   rw[getI hi,w64_succ (by omega)]
   exact bc_beq (fun h=>h1 (by simp[h])) (fun h=>h2 (by simpa using fun e=>h e.symm))
 · rw[any_mem]at h;rw[h]
 · rw[any_mem]at h;rw[h])
theorem sortI_mem {l:List Int} {y:Int}:y∈sortI l↔y∈l:=by unfold sortI;simp
theorem sortI_sorted (l:List Int):(sortI l).Pairwise (·≤·):=by
 unfold sortI
 have:=List.pairwise_mergeSort (le:=fun a b:Int=>decide (a≤b)) (fun a b c h1 h2=>by simp at *;omega) (fun a b=>by simp;omega) l
 exact this.imp fun h=>by simpa using h
theorem comp_sort (l:List Int):compI (sortI l)=sset l:=by
 have hs:=sortI_sorted l
 have hget:∀ i j (hi:i<(sortI l).length) (hj:j<(sortI l).length),i≤j→(sortI l)[i]≤(sortI l)[j]:=by
  intro i j hi hj h
  rcases Nat.lt_or_ge i j with h|h
  · exact List.pairwise_iff_getElem.mp hs i j hi hj h
  · have:i=j:=by omega
    subst this;omega
 have ex:compI (sortI l)=((List.range (sortI l).length).filter (Lib.keeps (sortI l).toArray)).map ((sortI l).toArray[·]!):=rfl
 refine sset_of ?_ ?_
 · rw[ex]
   unfold srt
   rw[List.pairwise_map,List.pairwise_filter]
   refine List.Pairwise.imp_of_mem (R:=(· < ·)) ?_ List.pairwise_lt_range
   intro i j hi hj hij _ kj
   have hi:=List.mem_range.mp hi;have hj:=List.mem_range.mp hj
   have e1:(sortI l).toArray[i]! = (sortI l)[i]:=by simp[hi]
   have e2:(sortI l).toArray[j]! = (sortI l)[j]:=by simp[hj]
   have e3:(sortI l).toArray[j - 1]! = (sortI l)[j - 1]'(by omega):=by rw[getElem!_pos (sortI l).toArray (j - 1) (by simp;omega)];rfl
   rw[e1,e2]
   unfold Lib.keeps at kj
   rw[e2,e3]at kj
   have h1:=hget i (j - 1) hi (by omega) (by omega)
   have h2:=hget (j - 1) j (by omega) hj (by omega)
   rcases of_decide_eq_true kj with h|h
   · omega
   · omega
 · intro y
   rw[ex,List.mem_map]
   constructor
   · rintro⟨j,hj,rfl⟩
     have hj:=List.mem_range.mp (List.mem_filter.mp hj).1
     have e:(sortI l).toArray[j]! = (sortI l)[j]:=by simp[hj]
     rw[e,←sortI_mem];exact List.getElem_mem hj
   · intro hy
     rw[←sortI_mem]at hy
     have hf:firstAt (fun t=>t == y) (sortI l)<(sortI l).length:=firstAt_any.mpr (List.any_eq_true.mpr ⟨y,hy,by simp⟩)
     have h2:=firstAt_at hf
     have h3:(sortI l)[firstAt (fun t=>t == y) (sortI l)]=y:=by simpa using h2
     refine⟨firstAt (fun t=>t == y) (sortI l),List.mem_filter.mpr ⟨List.mem_range.mpr hf,?_⟩,by simp[hf,h3]⟩
     unfold Lib.keeps
     rw[decide_eq_true_iff]
     by_cases h0:firstAt (fun t=>t == y) (sortI l)=0
     · exact .inl h0
     · right
       have hlt:firstAt (fun t=>t == y) (sortI l) - 1<(sortI l).length:=by omega
       have h4:=firstAt_lt (p:=fun t=>t == y) (l:=sortI l) hlt (by omega)
       have e1:(sortI l).toArray[firstAt (fun t=>t == y) (sortI l)]! = y:=by simp[hf,h3]
       have e2:(sortI l).toArray[firstAt (fun t=>t == y) (sortI l) - 1]! = (sortI l)[firstAt (fun t=>t == y) (sortI l) - 1]:=by simp[hlt]
       rw[e1,e2]
       intro e
       rw[←e]at h4;simp at h4
def inR (x a b:Int):Bool:=decide (a≤x)&&decide (x≤b)
theorem any_not {α:Type} {p:α→Bool} {l:List α}:(l.any fun t=>!p t) = !(l.all p):=by
 induction l with
 |nil=>rfl
 |cons a l ih=>simp only[List.any_cons,List.all_cons,ih];cases p a<;>simp
theorem nt {b:Bool} (h:(!b)=true):b=false:=by simpa using h
theorem nf {b:Bool} (h:(!b)=false):b=true:=by simpa using h
theorem flat_split {α β:Type} (f:α→List β) {l:List α} {i:Nat} (h:i<l.length):(l.flatMap f).length=((l.take i).flatMap f).length+((f l[i]).length+((l.drop (i+1)).flatMap f).length):=by
 have e:l=l.take i++l[i]::l.drop (i+1):=by rw[←drop_cons h,List.take_append_drop]
 have:=congrArg (fun m=>(m.flatMap f).length) e
 simp only[List.flatMap_append,List.flatMap_cons,List.length_append]at this
 exact this
theorem inR_iff {x a b:Int}:inR x a b=true↔a≤x∧x≤b:=by simp[inR]
theorem bl_tri:∀ {a b:List UInt8},(Op.bytesLess b a||b == a) = !(Op.bytesLess a b)
 |[],[]=>by decide
 |[],y::b=>by simp[Op.bytesLess]
 |x::a,[]=>by simp[Op.bytesLess]
 | x::a,y::b=>by
   have ih:=bl_tri (a:=a) (b:=b)
   simp only[Op.bytesLess]
   by_cases h:y<x
   · have h2:¬ x<y:=UInt8.lt_asymm h
     have h3:¬ x=y:=by rintro rfl;exact UInt8.lt_irrefl _ h
     simp[h,h2,h3]
   · by_cases h2:x<y
     · have h3:¬ y=x:=by rintro rfl;exact h h2
       simp[h,h2,h3]
     · have h3:x=y:=UInt8.le_antisymm (UInt8.not_lt.mp h) (UInt8.not_lt.mp h2)
       subst h3
       simp only[h,decide_false,beq_self_eq_true,Bool.true_and,Bool.false_or]
       rw[←ih]
       by_cases h4:b=a<;>simp[h4]
def vRel (r:TRel):Bool:=(r.1.length == 1)&&decide (97≤(r.1.getD 0 0).toNat)&&decide ((r.1.getD 0 0).toNat≤122)&&inR r.2.1 1 3
def relAt (l:List TRel) (i:Nat):TRel:=l.getD i zRel
def vRels (l:List TRel):Bool:=((List.range l.length).all fun i=>vRel (relAt l i)&&(i == 0||Op.bytesLess (relAt l (i - 1)).1 (relAt l i).1))&&decide (l.length≤6)
theorem relAt_get {l:List TRel} {i:Nat} (h:i<l.length):relAt l i=l[i]:=getD_at h
theorem vRels_mem {l:List TRel} (h:vRels l=true) {r:TRel} (hr:r∈l):vRel r=true:=by
 unfold vRels at h
 rw[Bool.and_eq_true]at h
 obtain⟨i,hi,rfl⟩:=List.mem_iff_getElem.mp hr
 have:=List.all_eq_true.mp h.1 i (List.mem_range.mpr hi)
 rw[Bool.and_eq_true,relAt_get hi]at this
 exact this.1
theorem vRels_len {l:List TRel} (h:vRels l=true):l.length≤6:=by
 unfold vRels at h;simp at h;exact h.2
theorem vRel_arity {r:TRel} (h:vRel r=true):1≤r.2.1∧r.2.1≤3:=by
 unfold vRel at h;simp[inR]at h;exact h.2
def arity (l:List TRel) (i:Int):Int:=(l.getD (Int.toNat i) zRel).2.1
def srcAt (l:List TRel) (i:Int):Bool:=(l.getD (Int.toNat i) zRel).2.2.1
def vRow (ok:Int→Bool) (l:List TRel) (a:TFact):Bool:=vRels l&&inR a.1 0 ((l.length:Int) - 1)&&((a.2.1.length:Int) == arity l a.1)&&a.2.1.all ok
theorem vRow_spec {ok:Int→Bool} {l:List TRel} {a:TFact} (h:vRow ok l a=true):vRels l=true∧0≤a.1∧a.1<l.length∧(a.2.1.length:Int)=arity l a.1∧a.2.1.length≤3∧∀ v∈a.2.1,ok v=true:=by
 unfold vRow at h
 simp only[Bool.and_eq_true,beq_iff_eq,List.all_eq_true]at h
 obtain⟨⟨⟨h1,h2⟩,h3⟩,h4⟩:=h
 have h2:=inR_iff.mp h2
 have hlt:a.1.toNat<l.length:=by omega
 have:=vRel_arity (vRels_mem h1 (List.getElem_mem hlt))
 have e:arity l a.1=l[a.1.toNat].2.1:=by unfold arity;rw[getD_at hlt]
 exact⟨h1,h2.1,by omega,h3,by omega,h4⟩
def vTerm (t:Int):Bool:=inR t (-10) 4
def vAtom (l:List TRel) (a:TFact):Bool:=vRow vTerm l a
def vars (l:List TFact):List Int:=sset ((l.flatMap (·.2.1)).filter fun t=>decide (0≤t))
def vDep (l:List TRel) (d:TDep):Bool:=inR d.1.length 1 2&&d.1.all (vAtom l) &&
 (if d.2.2.1 then decide (d.2.1=[])&&decide (d.2.2.2.1∈vars d.1)&&decide (d.2.2.2.2.1∈vars d.1)&&decide (d.2.2.2.1<d.2.2.2.2.1)
  else d.2.1.all (fun a=>vAtom l a && !(srcAt l a.1))&&inR d.2.1.length 1 2&&(d.2.2.2.1 == 0)&&(d.2.2.2.2.1 == 0))
def vDeps (l:List TRel) (ds:List TDep):Bool:=ds.all (vDep l)&&vRels l&&decide (ds.length≤5)
def exV (d:TDep):List Int:=(vars d.2.1).filter fun v=>!decide (v∈vars d.1)
theorem atoms_len {l:List TRel} {ats:List TFact} (h:ats.all (vAtom l)=true):(ats.flatMap (·.2.1)).length≤3 * ats.length:=by
 induction ats with
 |nil=>simp
 | cons a ats ih=>
   simp only[List.all_cons,Bool.and_eq_true]at h
   have h1:=(vRow_spec h.1).2.2.2.2.1
   have:=ih h.2
   simp only[List.flatMap_cons,List.length_append,List.length_cons]
   omega
theorem vars_len (l:List TFact):(vars l).length≤(l.flatMap (·.2.1)).length:=Nat.le_trans (sset_len _) (List.length_filter_le _ _)
theorem g_sl1In {x a b:Int}:G_sl1In x a b (inR x a b):=M_sl1In _ _ _ _ (by
 unfold S_sl1In inR
 refine bc_dec (fun h=>?_) (fun h=>?_)
 · rw[decide_eq_true (show a≤x from h),Bool.true_and]
 · rw[decide_eq_false (show ¬ a≤x from h),Bool.false_and])
theorem g_iwithin {x a b:Int}:G_iwithin x a b (inR x a b):=M_iwithin _ _ _ _ (by
 unfold S_iwithin inR
 refine bc_dec (fun h=>?_) (fun h=>?_)
 · rw[decide_eq_true h,Bool.true_and]
 · rw[decide_eq_false h,Bool.false_and])
theorem g_sIsValidRelation {r:TRel}:G_sIsValidRelation r (vRel r):=M_sIsValidRelation _ _ (by
 unfold S_sIsValidRelation
 have no:∀ {b:Bool},vRel r=b→((b,()):Bool×Unit)=(vRel r,()):=fun h=>by rw[h]
 refine lenI fun _=>bc_beq (fun h=>?_) (fun h=>no ?_)
 · have h1:r.1.length=1:=by omega
   refine⟨⟨by omega,by omega⟩,?_⟩
   refine bc_dec (fun h2=>⟨⟨by omega,by omega⟩,bc_dec (fun h3=>⟨_,g_sl1In,no ?_⟩) (fun h3=>no ?_)⟩) (fun h2=>no ?_)
   · unfold vRel
     have a1:decide (97≤(r.1.getD 0 0).toNat)=true:=decide_eq_true (by have h2:(97:Int)≤((r.1.getD 0 0).toNat:Int):=h2;omega)
     have a2:decide ((r.1.getD 0 0).toNat≤122)=true:=decide_eq_true (by have h3:((r.1.getD 0 0).toNat:Int)≤122:=h3;omega)
     rw[a1,a2];simp[h1]
   · unfold vRel
     have a2:decide ((r.1.getD 0 0).toNat≤122)=false:=decide_eq_false (by have h3:¬ ((r.1.getD 0 0).toNat:Int)≤122:=h3;omega)
     rw[a2];simp
   · unfold vRel
     have a1:decide (97≤(r.1.getD 0 0).toNat)=false:=decide_eq_false (by have h2:¬ (97:Int)≤((r.1.getD 0 0).toNat:Int):=h2;omega)
     rw[a1];simp
 · unfold vRel
   have:(r.1.length == 1)=false:=by simp;omega
   rw[this];simp)
theorem vRels_no {l:List TRel} {i:Nat} (h:i<l.length) (hp:(vRel (relAt l i)&&(i == 0||Op.bytesLess (relAt l (i - 1)).1 (relAt l i).1))=false):vRels l=false:=by
 unfold vRels
 rw[Bool.and_eq_false_iff];left
 rw[Bool.eq_false_iff];intro hall
 have:=List.all_eq_true.mp hall i (List.mem_range.mpr h)
 rw[hp]at this;cases this
theorem vRels_yes {l:List TRel} (hp:∀ i,i<l.length→(!(vRel (relAt l i)&&(i == 0||Op.bytesLess (relAt l (i - 1)).1 (relAt l i).1)))=false):vRels l=decide (l.length≤6):=by
 unfold vRels
 have:((List.range l.length).all fun i=>vRel (relAt l i)&&(i == 0||Op.bytesLess (relAt l (i - 1)).1 (relAt l i).1))=true:=
  List.all_eq_true.mpr fun i hi=>by have:=hp i (List.mem_range.mp hi);rwa [Bool.not_eq_false']at this
 rw[this,Bool.true_and]
theorem g_sAreValidRelations {l:List TRel}:G_sAreValidRelations l (vRels l):=M_sAreValidRelations _ _ (by
 unfold S_sAreValidRelations
 refine loop_anyI l.length (fun i=>!(vRel (relAt l i)&&(i == 0||Op.bytesLess (relAt l (i - 1)).1 (relAt l i).1))) (fun i=>((i:Int),())) (KT:=((false,()):Bool×Unit)=(vRels l,())) (KF:=((decide ((List.length l:Int)≤6),()):Bool×Unit)=(vRels l,())) ?_ (fun X h=>lenI fun _=>bcN (lenI fun _=>h)) ?_ ?_
 · intro i hi X hb h1 h2
   refine lenI fun hl=>bcI hi (inI hi ⟨_,g_sIsValidRelation,?_⟩)
   simp only
   rw[getI hi,w64_succ (by omega)]
   rw[relAt_get hi]at h1 h2
   refine bc_not (fun h=>h1 (by simp[h])) (fun h=>bc_dec (fun h0=>?_) (fun h0=>h2 (by obtain rfl:i=0:=(by omega);simp[h])))
   have hi':i - 1<l.length:=by omega
   have hw:w64 ((i:Int) - 1)=((i - 1:Nat):Int):=by rw[w64_id (by omega) (by omega)];omega
   rw[hw]
   refine inI hi' (inI hi ?_)
   rw[getI hi']
   rw[relAt_get hi']at h1 h2
   have hz:(i == 0)=false:=by simp;omega
   rw[hz,Bool.false_or,h,Bool.true_and]at h1 h2
   exact bc_if (fun h=>h1 h) (fun h=>h2 h)
 · rintro⟨i,hi,hp⟩
   rw[vRels_no hi (by rwa [Bool.not_eq_true']at hp)]
 · intro hp
   rw[vRels_yes hp]
   congr 1
   exact decide_eq_decide.mpr (by omega))
theorem g_iIsValidRelation {r:TRel}:G_iIsValidRelation r (vRel r):=M_iIsValidRelation _ _ (by
 unfold S_iIsValidRelation
 have no:∀ {b:Bool},vRel r=b→((b,()):Bool×Unit)=(vRel r,()):=fun h=>by rw[h]
 refine lenI fun _=>bc_beq (fun h=>?_) (fun h=>no ?_)
 · have h1:r.1.length=1:=by omega
   obtain⟨c,hc⟩:∃ c,r.1=[c]:=List.length_eq_one_iff.mp h1
   rw[hc]
   have e1:(!(Op.bytesLess [c] [97]))=decide (97≤c.toNat):=by
    simp only[Op.bytesLess,Bool.and_false,Bool.or_false]
    by_cases h:c<97
    · have:c.toNat<97:=h
      simp[h];omega
    · have:¬ c.toNat<97:=h
      simp[h];omega
   have e2:(Op.bytesLess [c] [122]||[c] == [122])=decide (c.toNat≤122):=by
    simp only[Op.bytesLess,Bool.and_false,Bool.or_false]
    by_cases h:c<122
    · have:c.toNat<122:=h
      simp[h];omega
    · have:¬ c.toNat<122:=h
      by_cases h2:c=122
      · subst h2;simp
      · have h3:c.toNat≠122:=fun e=>h2 (UInt8.toNat_inj.mp e)
        have d2:([c] == [(122:UInt8)])=false:=by simp[h2]
        rw[decide_eq_false h,d2,decide_eq_false (by omega)];rfl
   rw[e1,e2]
   refine bc_dec (fun h2=>bc_dec (fun h3=>⟨_,g_iwithin,no ?_⟩) (fun h3=>no ?_)) (fun h2=>no ?_)
   · unfold vRel;rw[hc];simp[h2,h3]
   · unfold vRel;rw[hc]
     show((1 == 1)&&decide (97≤c.toNat)&&decide (c.toNat≤122)&&inR r.2.1 1 3)=false
     rw[decide_eq_false h3];simp
   · unfold vRel;rw[hc]
     show((1 == 1)&&decide (97≤c.toNat)&&decide (c.toNat≤122)&&inR r.2.1 1 3)=false
     rw[decide_eq_false h2];simp
 · unfold vRel
   have:(r.1.length == 1)=false:=by simp;omega
   rw[this];simp)
theorem g_iAreValidRelations {l:List TRel}:G_iAreValidRelations l (vRels l):=M_iAreValidRelations _ _ (by
 unfold S_iAreValidRelations
 refine lenI fun hl=>loop_anyI l.length (fun i=>!(vRel (relAt l i)&&(i == 0||Op.bytesLess (relAt l (i - 1)).1 (relAt l i).1))) (fun i=>((i:Int),())) (KT:=((false,()):Bool×Unit)=(vRels l,())) (KF:=((decide ((List.length l:Int)≤6),()):Bool×Unit)=(vRels l,())) ?_ (fun X h=>bcN (lenI fun _=>h)) ?_ ?_
 · intro i hi X hb h1 h2
   refine bcI hi (inI hi ⟨_,g_iIsValidRelation,?_⟩)
   simp only
   rw[getI hi,w64_succ (by omega)]
   rw[relAt_get hi]at h1 h2
   refine bc_not (fun h=>h1 (by simp[h])) (fun h=>bc_dec (fun h0=>?_) (fun h0=>h2 (by obtain rfl:i=0:=(by omega);simp[h])))
   have hi':i - 1<l.length:=by omega
   have hw:w64 ((i:Int) - 1)=((i - 1:Nat):Int):=by rw[w64_id (by omega) (by omega)];omega
   rw[hw]
   refine inI hi' ?_
   rw[getI hi']
   rw[relAt_get hi']at h1 h2
   have hz:(i == 0)=false:=by simp;omega
   rw[hz,Bool.false_or,h,Bool.true_and]at h1 h2
   rw[bl_tri]
   exact bc_if (fun h=>h1 h) (fun h=>h2 h)
 · rintro⟨i,hi,hp⟩
   rw[vRels_no hi (by rwa [Bool.not_eq_true']at hp)]
 · intro hp
   rw[vRels_yes hp]
   congr 1
   exact decide_eq_decide.mpr (by omega))
theorem row_start {l:List TRel} {a:TFact} (h:inR a.1 0 (w64 ((l.length:Int) - 1))=true) (hl:(l.length:Int)≤9223372036854775807):0≤a.1∧a.1<(l.length:Int):=by
 have:=inR_iff.mp h
 rw[w64_id (by omega) (by omega)]at this
 omega
theorem row_range {l:List TRel} {a:TFact} (hl:(l.length:Int)≤9223372036854775807):inR a.1 0 (w64 ((l.length:Int) - 1))=inR a.1 0 ((l.length:Int) - 1):=by
 rw[w64_id (by omega) (by omega)]
theorem row_no1 {ok:Int→Bool} {l:List TRel} {a:TFact} (h:vRels l=false):((false,()):Bool×Unit)=(vRow ok l a,()):=by unfold vRow;rw[h];simp
theorem row_no2 {ok:Int→Bool} {l:List TRel} {a:TFact} (hl:(l.length:Int)≤9223372036854775807) (h:inR a.1 0 (w64 ((l.length:Int) - 1))=false):((false,()):Bool×Unit)=(vRow ok l a,()):=by
 rw[row_range hl]at h;unfold vRow;rw[h];simp
theorem row_no3 {ok:Int→Bool} {l:List TRel} {a:TFact} (h:(a.2.1.length:Int)≠(l.getD (Int.toNat a.1) zRel).2.1):((false,()):Bool×Unit)=(vRow ok l a,()):=by
 have:((a.2.1.length:Int) == arity l a.1)=false:=by simpa [arity]using h
 unfold vRow;rw[this];simp
theorem row_yes {ok:Int→Bool} {l:List TRel} {a:TFact} {b:Bool} (hl:(l.length:Int)≤9223372036854775807) (h1:vRels l=true) (h2:inR a.1 0 (w64 ((l.length:Int) - 1))=true) (h3:(a.2.1.length:Int)=(l.getD (Int.toNat a.1) zRel).2.1) (hb:b=a.2.1.all ok):((b,()):Bool×Unit)=(vRow ok l a,()):=by
 rw[row_range hl]at h2
 have:((a.2.1.length:Int) == arity l a.1)=true:=by simpa [arity]using h3
 unfold vRow;rw[h1,h2,this,hb];simp
theorem g_sIsValidAtom {l:List TRel} {a:TFact}:G_sIsValidAtom l a (vAtom l a):=M_sIsValidAtom _ _ _ (by
 unfold S_sIsValidAtom vAtom
 refine⟨_,g_sAreValidRelations,bc_not (fun h=>row_no1 h) (fun h1=>lenI fun hl=>⟨_,g_sl1In,bc_not (fun h=>row_no2 hl h) (fun h2=>lenI fun hl2=>⟨row_start h2 hl,bc_ne (fun h=>row_no3 h) (fun h3=>?_)⟩)⟩)⟩
 refine loop_any a.2.1 (fun t=>!vTerm t) (fun i=>((i:Int),())) (KT:=((false,()):Bool×Unit)=(vRow vTerm l a,())) (KF:=((true,()):Bool×Unit)=(vRow vTerm l a,())) ?_ (fun X h=>lenI fun _=>bcN h) ?_ ?_
 · intro i hi X q1 q2
   refine lenI fun _=>bcI hi (inI hi ⟨_,g_sl1In,?_⟩)
   simp only
   rw[getI hi,w64_succ (by omega)]
   exact bc_if (fun h=>q1 h) (fun h=>q2 h)
 · intro h;exact row_yes hl h1 h2 h3 (by rw[any_not]at h;exact(nt h).symm)
 · intro h;exact row_yes hl h1 h2 h3 (by rw[any_not]at h;exact(nf h).symm))
theorem g_iIsValidAtom_1 {t:Int}:G_iIsValidAtom_1 t (!vTerm t):=M_iIsValidAtom_1 _ _ (by unfold S_iIsValidAtom_1;exact⟨_,g_iwithin,rfl⟩)
theorem g_iIsValidAtom {l:List TRel} {a:TFact}:G_iIsValidAtom l a (vAtom l a):=M_iIsValidAtom _ _ _ (by
 unfold S_iIsValidAtom vAtom
 refine⟨_,g_iAreValidRelations,bc_not (fun h=>row_no1 h) (fun h1=>lenI fun hl=>⟨_,g_iwithin,bc_not (fun h=>row_no2 hl h) (fun h2=>lenI fun hl2=>⟨row_start h2 hl,bc_ne (fun h=>row_no3 h) (fun h3=>?_)⟩)⟩)⟩
 exact⟨_,g_slices_ContainsFunc_int_c_iIsValidAtom_1 (fun t=>!vTerm t) (fun _ _=>g_iIsValidAtom_1),row_yes hl h1 h2 h3 (by rw[any_not];simp)⟩)
theorem g_sVariables {l:List TFact} (hl:(l.flatMap (·.2.1)).length≤1073741824):G_sVariables l (vars l):=M_sVariables _ _ (by
 unfold S_sVariables
 refine loopP_of l.length (fun i=>((i:Int),(vars (l.take i),()))) (by simp[vars,sset]) ?_ ?_
 · intro i hi X hX
   refine lenI fun hl1=>bcI hi ?_
   simp only
   rw[getI hi]
   have hsub:((l.take i).flatMap (·.2.1)).length+l[i].2.1.length≤1073741824:=by
    have:=flat_split (·.2.1) hi
    omega
   have hset:∀ j,j≤l[i].2.1.length→(sset (((l.take i).flatMap (·.2.1)++l[i].2.1.take j).filter fun t=>decide (0≤t))).length≤1073741824:=by
    intro j hj
    refine Nat.le_trans (sset_len _) (Nat.le_trans (List.length_filter_le _ _) ?_)
    rw[List.length_append,List.length_take];omega
   refine loopP_of l[i].2.1.length (fun j=>(sset (((l.take i).flatMap (·.2.1)++l[i].2.1.take j).filter fun t=>decide (0≤t)),((j:Int),()))) (by simp[vars]) ?_ ?_
   · intro j hj Y hY
     refine inI hi (lenI fun _=>bcI hj (inI hi (inI hj ?_)))
     simp only
     rw[getI hj,w64_succ (by omega)]
     have e:((l.take i).flatMap (·.2.1)++l[i].2.1.take (j+1)).filter (fun t=>decide (0≤t))=((l.take i).flatMap (·.2.1)++l[i].2.1.take j).filter (fun t=>decide (0≤t))++(if 0≤l[i].2.1[j] then[l[i].2.1[j]] else[]):=by
      rw[take_succ_snoc hj,←List.append_assoc,List.filter_append]
      by_cases h:0≤l[i].2.1[j]<;>simp[h]
     rw[e]at hY
     refine bc_dec (fun h=>inI hi (inI hj ⟨_,g_sl4Put (hset j (by omega)),?_⟩)) (fun h=>?_)
     · have h:0≤l[i].2.1[j]:=h
       rw[if_pos h]at hY
       rw[sset_snoc];exact hY
     · have h:¬ 0≤l[i].2.1[j]:=h
       rw[if_neg h,List.append_nil]at hY;exact hY
   · intro Y
     refine inI hi (lenI fun _=>bcN ?_)
     simp only
     rw[w64_succ (by omega),List.take_length]
     have:sset (((l.take i).flatMap (·.2.1)++l[i].2.1).filter fun t=>decide (0≤t))=vars (l.take (i+1)):=by
      unfold vars;rw[take_succ_snoc hi,List.flatMap_append];simp
     rw[this];exact hX
 · intro X
   refine lenI fun _=>bcN ?_
   simp only[List.take_length])
theorem g_iVariables {l:List TFact} (hl:(l.flatMap (·.2.1)).length≤1073741824):G_iVariables l (vars l):=M_iVariables _ _ (by
 unfold S_iVariables
 refine lenI fun hl1=>?_
 refine loopP_of l.length (fun i=>((i:Int),(((l.take i).flatMap (·.2.1)).filter (fun t=>decide (0≤t)),()))) (by simp) ?_ ?_
 · intro i hi X hX
   refine bcI hi (inI hi ?_)
   simp only
   rw[getI hi,w64_succ (by omega)]
   have hsub:((l.take i).flatMap (·.2.1)).length+l[i].2.1.length≤1073741824:=by
    have:=flat_split (·.2.1) hi
    omega
   refine lenI fun _=>loopP_of l[i].2.1.length (fun j=>((j:Int),(((l.take i).flatMap (·.2.1)++l[i].2.1.take j).filter (fun t=>decide (0≤t)),()))) (by simp) ?_ ?_
   · intro j hj Y hY
     refine bcI hj (inI hj ?_)
     simp only
     rw[getI hj,w64_succ (by omega)]
     have e:((l.take i).flatMap (·.2.1)++l[i].2.1.take (j+1)).filter (fun t=>decide (0≤t))=((l.take i).flatMap (·.2.1)++l[i].2.1.take j).filter (fun t=>decide (0≤t))++(if 0≤l[i].2.1[j] then[l[i].2.1[j]] else[]):=by
      rw[take_succ_snoc hj,←List.append_assoc,List.filter_append]
      by_cases h:0≤l[i].2.1[j]<;>simp[h]
     rw[e]at hY
     have hb:=List.length_filter_le (fun t=>decide (0≤t)) ((l.take i).flatMap (·.2.1)++l[i].2.1.take j)
     rw[List.length_append,List.length_take]at hb
     refine bc_dec (fun h=>⟨by simp only[maxL,List.length_cons,List.length_nil];omega,?_⟩) (fun h=>?_)
     · have h:0≤l[i].2.1[j]:=h
       rw[if_pos h]at hY;exact hY
     · have h:¬ 0≤l[i].2.1[j]:=h
       rw[if_neg h,List.append_nil]at hY;exact hY
   · intro Y
     refine bcN ?_
     simp only
     rw[List.take_length]
     have:((l.take i).flatMap (·.2.1)++l[i].2.1).filter (fun t=>decide (0≤t))=((l.take (i+1)).flatMap (·.2.1)).filter (fun t=>decide (0≤t)):=by
      rw[take_succ_snoc hi,List.flatMap_append];simp
     rw[this];exact hX
 · intro X
   refine bcN ⟨_,g_slices_Sort_int_ooz ?_,_,g_slices_Compact_int_ooz,?_⟩
   · simp only[List.take_length]
     have:=List.length_filter_le (fun t=>decide (0≤t)) (l.flatMap (·.2.1));omega
   · simp only[List.take_length]
     rw[comp_sort];rfl)
theorem vDep_no1 {l:List TRel} {d:TDep} (h:inR d.1.length 1 2=false):((false,()):Bool×Unit)=(vDep l d,()):=by unfold vDep;rw[h];simp
theorem vDep_no2 {l:List TRel} {d:TDep} (h:d.1.all (vAtom l)=false):((false,()):Bool×Unit)=(vDep l d,()):=by unfold vDep;rw[h];simp
theorem g_sIsValidDependency {l:List TRel} {d:TDep}:G_sIsValidDependency l d (vDep l d):=M_sIsValidDependency _ _ _ (by
 unfold S_sIsValidDependency
 refine lenI fun hl=>⟨_,g_sl1In,bc_not (fun h=>vDep_no1 h) (fun h1=>?_)⟩
 refine loop_any d.1 (fun a=>!vAtom l a) (fun i=>((i:Int),())) (KT:=((false,()):Bool×Unit)=(vDep l d,())) (KF:=d.1.all (vAtom l)=true) ?_ ?_ ?_ ?_
 · intro i hi X q1 q2
   refine lenI fun _=>bcI hi (inI hi ⟨_,g_sIsValidAtom,?_⟩)
   simp only
   rw[getI hi,w64_succ (by omega)]
   exact bc_if (fun h=>q1 h) (fun h=>q2 h)
 · intro X hall
   have hlen:=inR_iff.mp h1
   have hal:=atoms_len hall
   refine lenI fun _=>bcN (bc_if (fun he=>?_) (fun he=>?_))
   · have ev:vDep l d=(decide (d.2.1=[])&&decide (d.2.2.2.1∈vars d.1)&&decide (d.2.2.2.2.1∈vars d.1)&&decide (d.2.2.2.1<d.2.2.2.2.1)):=by
      unfold vDep;rw[h1,hall,he];simp
     rw[ev]
     refine⟨_,g_sVariables (by omega),lenI fun _=>bc_beq (fun h=>⟨_,g_sl4Has,bc_dec (fun h2=>⟨_,g_sl4Has,bc_dec (fun h3=>?_) (fun h3=>?_)⟩) (fun h2=>?_)⟩) (fun h=>?_)⟩
     · have:d.2.1=[]:=List.length_eq_zero_iff.mp (by omega)
       simp[this,h2,h3]
     · simp[h3]
     · simp[h2]
     · have:d.2.1≠[]:=by intro e;rw[e]at h;simp at h
       simp[this]
   · have ev:vDep l d=(d.2.1.all (fun a=>vAtom l a && !(srcAt l a.1))&&inR d.2.1.length 1 2&&(d.2.2.2.1 == 0)&&(d.2.2.2.2.1 == 0)):=by
      unfold vDep;rw[h1,hall,he];simp
     rw[ev]
     refine loop_any d.2.1 (fun a=>!(vAtom l a && !(srcAt l a.1))) (fun i=>((i:Int),())) (KT:=d.2.1.all (fun a=>vAtom l a && !(srcAt l a.1))=false) (KF:=d.2.1.all (fun a=>vAtom l a && !(srcAt l a.1))=true) ?_ ?_ ?_ ?_
     · intro i hi X q1 q2
       refine lenI fun _=>bcI hi (inI hi ⟨_,g_sIsValidAtom,?_⟩)
       simp only
       rw[getI hi,w64_succ (by omega)]
       have no:d.2.1.all (fun a=>vAtom l a && !(srcAt l a.1))=false→((false,()):Bool×Unit)=(d.2.1.all (fun a=>vAtom l a && !(srcAt l a.1))&&inR d.2.1.length 1 2&&(d.2.2.2.1 == 0)&&(d.2.2.2.2.1 == 0),()):=fun h=>by rw[h];simp
       refine bc_not (fun h=>no (q1 (by simp[h]))) (fun h=>inI hi ⟨?_,bc_if (fun h'=>no (q1 ?_)) (fun h'=>q2 ?_)⟩)
       · have:=vRow_spec h;exact⟨this.2.1,this.2.2.1⟩
       · have:srcAt l d.2.1[i].1=true:=h'
         simp[this]
       · have:srcAt l d.2.1[i].1=false:=h'
         simp[this,h]
     · intro X hh
       refine lenI fun _=>bcN (lenI fun _=>⟨_,g_sl1In,?_⟩)
       rw[hh]
       refine bc_if (fun h2=>bc_beq (fun h3=>?_) (fun h3=>?_)) (fun h2=>?_)
       · rw[h2,h3];simp
       · have:(d.2.2.2.1 == 0)=false:=by simpa using h3
         rw[this];simp
       · rw[h2];simp
     · intro h;rw[any_not]at h;exact nt h
     · intro h;rw[any_not]at h;exact nf h
 · intro h;rw[any_not]at h;exact vDep_no2 (nt h)
 · intro h;rw[any_not]at h;exact nf h)
theorem g_iareAtoms_1 {l:List TRel} {a:TFact}:G_iareAtoms_1 a l (!vAtom l a):=M_iareAtoms_1 _ _ _ (by unfold S_iareAtoms_1;exact⟨_,g_iIsValidAtom,rfl⟩)
theorem g_iareAtoms {l:List TRel} {ats:List TFact} {n:Int}:G_iareAtoms l ats n (inR ats.length 1 n&&ats.all (vAtom l)):=M_iareAtoms _ _ _ _ (by
 unfold S_iareAtoms
 refine lenI fun _=>⟨_,g_iwithin,bc_if (fun h=>⟨_,g_slices_ContainsFunc_Atom_c_iareAtoms_1 (fun a=>!vAtom l a) (fun _ _=>g_iareAtoms_1),?_⟩) (fun h=>?_)⟩
 · rw[h,Bool.true_and,any_not];simp
 · rw[h,Bool.false_and])
theorem g_iIsValidDependency_1 {l:List TRel} {a:TFact} (h0:0≤a.1) (h1:a.1<l.length):G_iIsValidDependency_1 a l (srcAt l a.1):=M_iIsValidDependency_1 _ _ _ (by unfold S_iIsValidDependency_1;exact⟨⟨h0,h1⟩,rfl⟩)
theorem g_iIsValidDependency {l:List TRel} {d:TDep}:G_iIsValidDependency l d (vDep l d):=M_iIsValidDependency _ _ _ (by
 unfold S_iIsValidDependency
 refine⟨_,g_iareAtoms,bc_not (fun h=>?_) (fun h=>?_)⟩
 · unfold vDep;rw[h];simp
 · have h':=Bool.and_eq_true_iff.mp h
   have hlen:=inR_iff.mp h'.1
   have hal:=atoms_len h'.2
   refine bc_if (fun he=>?_) (fun he=>?_)
   · have ev:vDep l d=(decide (d.2.1=[])&&decide (d.2.2.2.1∈vars d.1)&&decide (d.2.2.2.2.1∈vars d.1)&&decide (d.2.2.2.1<d.2.2.2.2.1)):=by
      unfold vDep;rw[h'.1,h'.2,he];simp
     rw[ev]
     refine⟨_,g_iVariables (by omega),lenI fun _=>bc_beq (fun h0=>bc_dec (fun h1=>⟨_,g_slices_Contains_int,bc_dec (fun h2=>⟨_,g_slices_Contains_int,?_⟩) (fun h2=>?_)⟩) (fun h1=>?_)) (fun h0=>?_)⟩
     · have:d.2.1=[]:=List.length_eq_zero_iff.mp (by omega)
       simp[this,h1,h2]
     · simp[h2]
     · simp[h1]
     · have:d.2.1≠[]:=by intro e;rw[e]at h0;simp at h0
       simp[this]
   · have ev:vDep l d=(d.2.1.all (fun a=>vAtom l a && !(srcAt l a.1))&&inR d.2.1.length 1 2&&(d.2.2.2.1 == 0)&&(d.2.2.2.2.1 == 0)):=by
      unfold vDep;rw[h'.1,h'.2,he];simp
     rw[ev]
     have hand:d.2.1.all (fun a=>vAtom l a && !(srcAt l a.1))=(d.2.1.all (vAtom l)&&d.2.1.all fun a=>!(srcAt l a.1)):=by
      generalize d.2.1=m
      induction m with
      |nil=>rfl
      |cons a m ih=>simp only[List.all_cons,ih];cases vAtom l a<;>cases srcAt l a.1<;>simp
     rw[hand]
     refine⟨_,g_iareAtoms,bc_if (fun h1=>bc_beq (fun h2=>bc_beq (fun h3=>?_) (fun h3=>?_)) (fun h2=>?_)) (fun h1=>?_)⟩
     · have h1:=Bool.and_eq_true_iff.mp h1
       refine⟨_,g_slices_ContainsFunc_Atom_c_iIsValidDependency_1 (fun a=>srcAt l a.1) (fun a ha=>?_),?_⟩
       · have:=vRow_spec (List.all_eq_true.mp h1.2 a ha)
         exact g_iIsValidDependency_1 this.2.1 this.2.2.1
       · rw[h1.1,h1.2,h2,h3,List.not_any_eq_all_not];simp
     · have:(d.2.2.2.2.1 == 0)=false:=by simpa using h3
       rw[this];simp
     · have:(d.2.2.2.1 == 0)=false:=by simpa using h2
       rw[this];simp
     · rcases Bool.and_eq_false_iff.mp h1 with h1|h1<;>rw[h1]<;>simp)
theorem g_sAreValidDependencies {l:List TRel} {ds:List TDep}:G_sAreValidDependencies l ds (vDeps l ds):=M_sAreValidDependencies _ _ _ (by
 unfold S_sAreValidDependencies
 refine loop_any ds (fun d=>!vDep l d) (fun i=>((i:Int),())) (KT:=ds.all (vDep l)=false) (KF:=ds.all (vDep l)=true) ?_ ?_ ?_ ?_
 · intro i hi X q1 q2
   refine lenI fun _=>bcI hi (inI hi ⟨_,g_sIsValidDependency,?_⟩)
   simp only
   rw[getI hi,w64_succ (by omega)]
   exact bc_if (fun h=>by unfold vDeps;rw[q1 h];simp) (fun h=>q2 h)
 · intro X h
   refine lenI fun _=>bcN ⟨_,g_sAreValidRelations,bc_if (fun h1=>lenI fun _=>?_) (fun h1=>?_)⟩
   · unfold vDeps;rw[h,h1]
     have:decide ((ds.length:Int)≤5)=decide (ds.length≤5):=decide_eq_decide.mpr (by omega)
     rw[this];simp
   · unfold vDeps;rw[h1];simp
 · intro h;rw[any_not]at h;exact nt h
 · intro h;rw[any_not]at h;exact nf h)
theorem g_iAreValidDependencies_1 {l:List TRel} {d:TDep}:G_iAreValidDependencies_1 d l (!vDep l d):=M_iAreValidDependencies_1 _ _ _ (by unfold S_iAreValidDependencies_1;exact⟨_,g_iIsValidDependency,rfl⟩)
theorem g_iAreValidDependencies {l:List TRel} {ds:List TDep}:G_iAreValidDependencies l ds (vDeps l ds):=M_iAreValidDependencies _ _ _ (by
 unfold S_iAreValidDependencies
 refine⟨_,g_iAreValidRelations,bc_if (fun h1=>lenI fun _=>bc_dec (fun h2=>⟨_,g_slices_ContainsFunc_Dependency_c_iAreValidDependencies_1 (fun d=>!vDep l d) (fun _ _=>g_iAreValidDependencies_1),?_⟩) (fun h2=>?_)) (fun h1=>?_)⟩
 · have:decide (ds.length≤5)=true:=decide_eq_true (by omega)
   unfold vDeps;rw[h1,this,any_not];simp
 · have:decide (ds.length≤5)=false:=decide_eq_false (by omega)
   unfold vDeps;rw[this];simp
 · unfold vDeps;rw[h1];simp)
theorem g_sExistentialVariables {d:TDep} (h1:(d.1.flatMap (·.2.1)).length≤1073741824) (h2:(d.2.1.flatMap (·.2.1)).length≤1073741824):G_sExistentialVariables d (exV d):=M_sExistentialVariables _ _ (by
 unfold S_sExistentialVariables
 have hv:=vars_len d.2.1
 refine⟨_,g_sVariables h1,_,g_sVariables h2,?_⟩
 refine loopP_of (vars d.2.1).length (fun i=>((i:Int),(((vars d.2.1).take i).filter (fun v=>!decide (v∈vars d.1)),()))) (by simp) ?_ ?_
 · intro i hi X hX
   refine lenI fun _=>bcI hi (inI hi ⟨_,g_sl4Has,?_⟩)
   simp only
   rw[getI hi,w64_succ (by omega)]
   have e:((vars d.2.1).take (i+1)).filter (fun v=>!decide (v∈vars d.1))=((vars d.2.1).take i).filter (fun v=>!decide (v∈vars d.1))++(if (vars d.2.1)[i]∈vars d.1 then[] else[(vars d.2.1)[i]]):=by
    rw[take_succ_snoc hi,List.filter_append]
    by_cases h:(vars d.2.1)[i]∈vars d.1<;>simp[h]
   rw[e]at hX
   have hb:=List.length_filter_le (fun v=>!decide (v∈vars d.1)) ((vars d.2.1).take i)
   rw[List.length_take]at hb
   refine bc_if (fun h=>inI hi ⟨by simp only[maxL,List.length_cons,List.length_nil];omega,?_⟩) (fun h=>?_)
   · have h:¬ (vars d.2.1)[i]∈vars d.1:=by simpa using h
     rw[if_neg h]at hX;exact hX
   · have h:(vars d.2.1)[i]∈vars d.1:=by simpa using h
     rw[if_pos h,List.append_nil]at hX;exact hX
 · intro X
   refine lenI fun _=>bcN ?_
   simp only[List.take_length]
   rfl)
theorem vDep_spec {l:List TRel} {d:TDep} (h:vDep l d=true):1≤d.1.length∧d.1.length≤2∧(∀ a∈d.1,vAtom l a=true)∧d.2.1.length≤2∧(∀ a∈d.2.1,vAtom l a=true)∧(d.1.flatMap (·.2.1)).length≤6∧(d.2.1.flatMap (·.2.1)).length≤6:=by
 unfold vDep at h
 rw[Bool.and_eq_true,Bool.and_eq_true]at h
 obtain⟨⟨h1,h2⟩,h3⟩:=h
 have h1:=inR_iff.mp h1
 have l1:=atoms_len h2
 cases he:d.2.2.1 with
 | true=>
   rw[if_pos he]at h3
   simp only[Bool.and_eq_true,decide_eq_true_eq]at h3
   have:=h3.1.1.1
   exact⟨by omega,by omega,List.all_eq_true.mp h2,by simp[this],by simp[this],by omega,by simp[this]⟩
 | false=>
   rw[if_neg (by simp[he])]at h3
   simp only[Bool.and_eq_true]at h3
   have hr:=inR_iff.mp h3.1.1.2
   have h4:d.2.1.all (vAtom l)=true:=List.all_eq_true.mpr fun a ha=>by
    have:=List.all_eq_true.mp h3.1.1.1 a ha
    rw[Bool.and_eq_true]at this;exact this.1
   have l2:=atoms_len h4
   exact⟨by omega,by omega,List.all_eq_true.mp h2,by omega,List.all_eq_true.mp h4,by omega,by omega⟩
theorem vDeps_mem {l:List TRel} {ds:List TDep} (h:vDeps l ds=true) {d:TDep} (hd:d∈ds):vDep l d=true:=by
 unfold vDeps at h
 rw[Bool.and_eq_true,Bool.and_eq_true]at h
 exact List.all_eq_true.mp h.1.1 d hd
theorem vDeps_len {l:List TRel} {ds:List TDep} (h:vDeps l ds=true):ds.length≤5:=by
 unfold vDeps at h;simp at h;exact h.2
def isNul (v:Int):Bool:=inR v (-40) (-1)
def nulNo (v:Int):Int:=if isNul v then -1 - v else 0
def vVal (v:Int):Bool:=inR v (-40) 9
def nulls (l:List Int):List Int:=(l.filter isNul).map (fun v=>-1 - v)
def nulF (f:TFact):List Int:=sset (nulls f.2.1)
def nulI (x:TInst):List Int:=sset (x.2.1.flatMap fun f=>nulls f.2.1)
def vFact (l:List TRel) (f:TFact):Bool:=vRow vVal l f
def factAt (l:List TFact) (i:Nat):TFact:=l.getD i zFact
def factOk (x:TInst) (i:Nat):Bool:=vFact x.1 (factAt x.2.1 i)&&(i == 0||decide (cmpF (factAt x.2.1 (i - 1)) (factAt x.2.1 i)<0)) && !(srcAt x.1 (factAt x.2.1 i).1&&(nulF (factAt x.2.1 i)).length != 0)
def vInst (x:TInst):Bool:=vRels x.1&&decide (x.2.1.length≤30)&&(List.range x.2.1.length).all (factOk x)
theorem isNul_iff {v:Int}:isNul v=true↔-40≤v∧v≤-1:=inR_iff
theorem mem_nulls {l:List Int} {k:Int}:k∈nulls l↔0≤k∧k<40∧(-1 - k)∈l:=by
 unfold nulls
 rw[List.mem_map]
 constructor
 · rintro⟨v,hv,rfl⟩
   obtain⟨h1,h2⟩:=List.mem_filter.mp hv
   have:=isNul_iff.mp h2
   exact ⟨by omega, by omega, by have e : -1 - (-1 - v)=v:=by omega
                                 rw[e];exact h1⟩
 · rintro⟨h1,h2,h3⟩
   exact⟨-1 - k,List.mem_filter.mpr ⟨h3,isNul_iff.mpr ⟨by omega,by omega⟩⟩,by omega⟩
theorem nulls_append (l m:List Int):nulls (l++m)=nulls l++nulls m:=by unfold nulls;rw[List.filter_append,List.map_append]
theorem nulls_flat (l:List TFact):nulls (l.flatMap (·.2.1))=l.flatMap fun f=>nulls f.2.1:=by
 induction l with
 |nil=>rfl
 |cons a l ih=>simp only[List.flatMap_cons];rw[nulls_append,ih]
theorem nulls_range {l:List Int}:∀ k∈sset (nulls l),0≤k∧k<0+(40:Nat):=fun k hk=>by
 have:=mem_nulls.mp (mem_sset.mp hk);omega
theorem nulls_few {l:List Int}:(sset (nulls l)).length≤40:=srt_range (srt_sset _) nulls_range
theorem nulI_few (x:TInst):(nulI x).length≤40:=by unfold nulI;rw[←nulls_flat];exact nulls_few
theorem nulls_len (l:List Int):(nulls l).length≤l.length:=by unfold nulls;rw[List.length_map];exact List.length_filter_le _ _
theorem factAt_get {l:List TFact} {i:Nat} (h:i<l.length):factAt l i=l[i]:=getD_at h
theorem vInst_fact {x:TInst} (h:vInst x=true) {f:TFact} (hf:f∈x.2.1):vFact x.1 f=true:=by
 unfold vInst at h
 rw[Bool.and_eq_true]at h
 obtain⟨i,hi,rfl⟩:=List.mem_iff_getElem.mp hf
 have:=List.all_eq_true.mp h.2 i (List.mem_range.mpr hi)
 unfold factOk at this
 rw[Bool.and_eq_true,Bool.and_eq_true,factAt_get hi]at this
 exact this.1.1
theorem vInst_len {x:TInst} (h:vInst x=true):x.2.1.length≤30:=by unfold vInst at h;simp at h;exact h.1.2
theorem vInst_rels {x:TInst} (h:vInst x=true):vRels x.1=true:=by unfold vInst at h;simp at h;exact h.1.1
theorem vInst_no {x:TInst} {i:Nat} (hi:i<x.2.1.length) (h:factOk x i=false):vInst x=false:=by
 unfold vInst
 have:(List.range x.2.1.length).all (factOk x)=false:=by
  rw[Bool.eq_false_iff];intro hall
  have:=List.all_eq_true.mp hall i (List.mem_range.mpr hi);rw[h]at this;cases this
 rw[this];simp
theorem vInst_yes {x:TInst} (h1:∀ i,i<x.2.1.length→factOk x i=true):vInst x=(vRels x.1&&decide (x.2.1.length≤30)):=by
 unfold vInst
 rw[List.all_eq_true.mpr fun i hi=>h1 i (List.mem_range.mp hi)];simp
theorem nulNo_nonneg (v:Int):0≤nulNo v:=by
 unfold nulNo
 split
 · rename_i h;have:=isNul_iff.mp h;omega
 · omega
theorem g_sNullNumber {v:Int}:G_sNullNumber v (nulNo v) (isNul v):=R_sNullNumber fun hb=>M_sNullNumber _ _ _ (by
 have hb : -9223372036854775808≤v∧v≤9223372036854775807:=hb
 unfold S_sNullNumber
 have no:isNul v=false→(((0:Int),(false,())):Int×Bool×Unit)=(nulNo v,(isNul v,())):=fun h=>by unfold nulNo;rw[h];rfl
 refine bc_dec (fun h=>no ?_) (fun h=>⟨_,g_sl1In,?_⟩)
 · rw[Bool.eq_false_iff];intro h';have:=isNul_iff.mp h';omega
 · rw[w64_id (by omega) (by omega)]
   refine bc_not (fun h2=>no ?_) (fun h2=>?_)
   · rw[Bool.eq_false_iff]at h2 ⊢;intro h';have:=isNul_iff.mp h';exact h2 (inR_iff.mpr ⟨by omega,by omega⟩)
   · have:=inR_iff.mp h2
     have e:isNul v=true:=isNul_iff.mpr ⟨by omega,by omega⟩
     unfold nulNo;rw[e];rfl)
theorem g_iNullNumber {v:Int}:G_iNullNumber v (nulNo v) (isNul v):=R_iNullNumber fun hb=>M_iNullNumber _ _ _ (by
 have hb : -9223372036854775808≤v∧v≤9223372036854775807:=hb
 unfold S_iNullNumber
 have no:isNul v=false→(((0:Int),(false,())):Int×Bool×Unit)=(nulNo v,(isNul v,())):=fun h=>by unfold nulNo;rw[h];rfl
 rw[w64_id (by omega) (by omega)]
 refine⟨_,g_iwithin,bc_not (fun h2=>no ?_) (fun h2=>?_)⟩
 · rw[Bool.eq_false_iff]at h2 ⊢;intro h';have:=isNul_iff.mp h';exact h2 (inR_iff.mpr ⟨by omega,by omega⟩)
 · have:=inR_iff.mp h2
   have e:isNul v=true:=isNul_iff.mpr ⟨by omega,by omega⟩
   unfold nulNo;rw[e];rfl)
theorem g_sIsValidValue {v:Int}:G_sIsValidValue v (vVal v):=M_sIsValidValue _ _ (by
 unfold S_sIsValidValue
 refine⟨_,_,g_sNullNumber,bc_if (fun h=>?_) (fun h=>⟨_,g_sl1In,?_⟩)⟩
 · have:=isNul_iff.mp h
   have e:vVal v=true:=inR_iff.mpr ⟨by omega,by omega⟩
   rw[e]
 · have:inR v 0 9=vVal v:=by
    rw[Bool.eq_iff_iff]
    unfold vVal
    rw[inR_iff,inR_iff]
    constructor
    · omega
    · intro h'
      refine⟨?_,h'.2⟩
      rcases Int.lt_or_le v 0 with h0|h0
      · rw[isNul_iff.mpr ⟨by omega,by omega⟩]at h;cases h
      · exact h0
   rw[this])
theorem g_iIsValidValue {v:Int}:G_iIsValidValue v (vVal v):=M_iIsValidValue _ _ (by unfold S_iIsValidValue;exact⟨_,g_iwithin,rfl⟩)
theorem g_sNullsOfFact {f:TFact}:G_sNullsOfFact f (nulF f):=M_sNullsOfFact _ _ (by
 unfold S_sNullsOfFact
 refine loopP_of f.2.1.length (fun i=>((i:Int),(sset (nulls (f.2.1.take i)),()))) (by simp[nulls,sset]) ?_ ?_
 · intro i hi X hX
   refine lenI fun _=>bcI hi (inI hi ⟨_,_,g_sNullNumber,?_⟩)
   simp only
   rw[getI hi,w64_succ (by omega)]
   have e:nulls (f.2.1.take (i+1))=nulls (f.2.1.take i)++(if isNul f.2.1[i] then[-1 - f.2.1[i]] else[]):=by
    rw[take_succ_snoc hi,nulls_append];congr 1
    unfold nulls
    cases h:isNul f.2.1[i]<;>simp[h]
   rw[e]at hX
   have hf:=nulls_few (l:=f.2.1.take i)
   refine bc_if (fun h=>⟨_,g_sl4Put (by omega),?_⟩) (fun h=>?_)
   · rw[if_pos h]at hX
     have:nulNo f.2.1[i] = -1 - f.2.1[i]:=by unfold nulNo;rw[if_pos h]
     rw[this,sset_snoc];exact hX
   · rw[if_neg (by rw[h];simp),List.append_nil]at hX;exact hX
 · intro X
   refine lenI fun _=>bcN ?_
   simp only[List.take_length]
   rfl)
theorem g_inullsOf {l:List Int} (hl:l.length≤1073741824):G_inullsOf l (sset (nulls l)):=M_inullsOf _ _ (by
 unfold S_inullsOf
 refine lenI fun _=>loopP_of l.length (fun i=>((i:Int),(nulls (l.take i),()))) (by simp[nulls]) ?_ ?_
 · intro i hi X hX
   refine bcI hi (inI hi ⟨_,_,g_iNullNumber,?_⟩)
   simp only
   rw[getI hi,w64_succ (by omega)]
   have e:nulls (l.take (i+1))=nulls (l.take i)++(if isNul l[i] then[-1 - l[i]] else[]):=by
    rw[take_succ_snoc hi,nulls_append];congr 1
    unfold nulls
    cases h:isNul l[i]<;>simp[h]
   rw[e]at hX
   have hb:=nulls_len (l.take i)
   rw[List.length_take]at hb
   refine bc_if (fun h=>⟨by simp only[maxL,List.length_cons,List.length_nil];omega,?_⟩) (fun h=>?_)
   · rw[if_pos h]at hX
     have:nulNo l[i] = -1 - l[i]:=by unfold nulNo;rw[if_pos h]
     rw[this];exact hX
   · rw[if_neg (by rw[h];simp),List.append_nil]at hX;exact hX
 · intro X
   refine bcN ⟨_,g_slices_Sort_int_ooz ?_,_,g_slices_Compact_int_ooz,?_⟩
   · simp only[List.take_length];have:=nulls_len l;omega
   · simp only[List.take_length];rw[comp_sort])
theorem g_iNullsOfFact {f:TFact} (h:f.2.1.length≤1073741824):G_iNullsOfFact f (nulF f):=M_iNullsOfFact _ _ (by unfold S_iNullsOfFact;exact⟨_,g_inullsOf h,rfl⟩)
theorem g_sNullsOfInstance {x:TInst}:G_sNullsOfInstance x (nulI x):=M_sNullsOfInstance _ _ (by
 unfold S_sNullsOfInstance
 refine loopP_of x.2.1.length (fun i=>((i:Int),(sset ((x.2.1.take i).flatMap fun f=>nulls f.2.1),()))) (by simp[sset]) ?_ ?_
 · intro i hi X hX
   refine lenI fun _=>bcI hi (inI hi ⟨_,g_sNullsOfFact,?_⟩)
   simp only
   rw[getI hi]
   have hn:(nulF x.2.1[i]).length≤40:=nulls_few
   refine loopP_of (nulF x.2.1[i]).length (fun j=>(((nulF x.2.1[i]).take j).foldl ins (sset ((x.2.1.take i).flatMap fun f=>nulls f.2.1)),((j:Int),()))) (by simp) ?_ ?_
   · intro j hj Y hY
     refine lenI fun _=>bcI hj (inI hj ⟨_,g_sl4Put ?_,?_⟩)
     · have h1:(sset ((x.2.1.take i).flatMap fun f=>nulls f.2.1)).length≤40:=by rw[←nulls_flat];exact nulls_few
       have:∀(l s:List Int),(l.foldl ins s).length≤s.length+l.length:=by
        intro l
        induction l with
        |nil=>intro s;simp
        |cons a l ih=>intro s;have:=ih (ins s a);have:=put_len s a;simp only[List.foldl_cons,List.length_cons];omega
       have:=this ((nulF x.2.1[i]).take j) (sset ((x.2.1.take i).flatMap fun f=>nulls f.2.1))
       rw[List.length_take]at this
       simp only;omega
     · simp only
       rw[getI hj,w64_succ (by omega)]
       rw[take_succ_snoc hj,List.foldl_append]at hY
       exact hY
   · intro Y
     refine lenI fun _=>bcN ?_
     simp only[List.take_length]
     rw[w64_succ (by omega)]
     have:(nulF x.2.1[i]).foldl ins (sset ((x.2.1.take i).flatMap fun f=>nulls f.2.1))=sset ((x.2.1.take (i+1)).flatMap fun f=>nulls f.2.1):=by
      unfold nulF
      rw[foldput_sset,take_succ_snoc hi,List.flatMap_append];simp
     rw[this];exact hX
 · intro X
   refine lenI fun _=>bcN ?_
   simp only[List.take_length]
   rfl)
theorem g_iNullsOfInstance {x:TInst} (hl:(x.2.1.flatMap (·.2.1)).length≤1073741824):G_iNullsOfInstance x (nulI x):=M_iNullsOfInstance _ _ (by
 unfold S_iNullsOfInstance
 refine lenI fun _=>loopP_of x.2.1.length (fun i=>((i:Int),((x.2.1.take i).flatMap (·.2.1),()))) (by simp) ?_ ?_
 · intro i hi X hX
   have hs:=flat_split (fun f:TFact=>f.2.1) hi
   refine bcI hi (inI hi ⟨?_,?_⟩)
   · simp only[maxL];rw[getI hi];omega
   · simp only
     rw[getI hi,w64_succ (by omega)]
     rw[take_succ_snoc hi,List.flatMap_append]at hX
     simpa using hX
 · intro X
   refine bcN ⟨_,g_inullsOf ?_,?_⟩
   · simp only[List.take_length];exact hl
   · simp only[List.take_length]
     rw[nulls_flat];rfl)
theorem g_sIsValidFact {l:List TRel} {a:TFact}:G_sIsValidFact l a (vFact l a):=M_sIsValidFact _ _ _ (by
 unfold S_sIsValidFact vFact
 refine⟨_,g_sAreValidRelations,bc_not (fun h=>row_no1 h) (fun h1=>lenI fun hl=>⟨_,g_sl1In,bc_not (fun h=>row_no2 hl h) (fun h2=>lenI fun hl2=>⟨row_start h2 hl,bc_ne (fun h=>row_no3 h) (fun h3=>?_)⟩)⟩)⟩
 refine loop_any a.2.1 (fun t=>!vVal t) (fun i=>((i:Int),())) (KT:=((false,()):Bool×Unit)=(vRow vVal l a,())) (KF:=((true,()):Bool×Unit)=(vRow vVal l a,())) ?_ (fun X h=>lenI fun _=>bcN h) ?_ ?_
 · intro i hi X q1 q2
   refine lenI fun _=>bcI hi (inI hi ⟨_,g_sIsValidValue,?_⟩)
   simp only
   rw[getI hi,w64_succ (by omega)]
   exact bc_if (fun h=>q1 h) (fun h=>q2 h)
 · intro h;exact row_yes hl h1 h2 h3 (by rw[any_not]at h;exact(nt h).symm)
 · intro h;exact row_yes hl h1 h2 h3 (by rw[any_not]at h;exact(nf h).symm))
theorem g_iIsValidFact_1 {t:Int}:G_iIsValidFact_1 t (!vVal t):=M_iIsValidFact_1 _ _ (by unfold S_iIsValidFact_1;exact⟨_,g_iIsValidValue,rfl⟩)
theorem g_iIsValidFact {l:List TRel} {a:TFact}:G_iIsValidFact l a (vFact l a):=M_iIsValidFact _ _ _ (by
 unfold S_iIsValidFact vFact
 refine⟨_,g_iAreValidRelations,bc_not (fun h=>row_no1 h) (fun h1=>lenI fun hl=>⟨_,g_iwithin,bc_not (fun h=>row_no2 hl h) (fun h2=>lenI fun hl2=>⟨row_start h2 hl,bc_ne (fun h=>row_no3 h) (fun h3=>?_)⟩)⟩)⟩
 exact⟨_,g_slices_ContainsFunc_int_c_iIsValidFact_1 (fun t=>!vVal t) (fun _ _=>g_iIsValidFact_1),row_yes hl h1 h2 h3 (by rw[any_not];simp)⟩)
theorem fact_rel {x:TInst} {f:TFact} (h:vFact x.1 f=true):0≤f.1∧f.1<(x.1.length:Int):=by have:=vRow_spec h;exact⟨this.2.1,this.2.2.1⟩
theorem factOk_split {x:TInst} {i:Nat} (hi:i<x.2.1.length) (h1:vFact x.1 x.2.1[i]=true) (h2:0<i→cmpF (factAt x.2.1 (i - 1)) x.2.1[i]<0):factOk x i = !(srcAt x.1 x.2.1[i].1&&(nulF x.2.1[i]).length != 0):=by
 unfold factOk
 rw[factAt_get hi,h1]
 have:(i == 0||decide (cmpF (factAt x.2.1 (i - 1)) x.2.1[i]<0))=true:=by
  rcases Nat.eq_zero_or_pos i with h|h
  · simp[h]
  · rw[decide_eq_true (h2 h)];simp
 rw[this];rfl
theorem g_sIsValidInstance {x:TInst}:G_sIsValidInstance x (vInst x):=M_sIsValidInstance _ _ (by
 unfold S_sIsValidInstance
 have no:vInst x=false→((false,()):Bool×Unit)=(vInst x,()):=fun h=>by rw[h]
 refine loop_anyI x.2.1.length (fun i=>!factOk x i) (fun i=>((i:Int),())) (KT:=vInst x=false) (KF:=vInst x=(vRels x.1&&decide (x.2.1.length≤30))) ?_ ?_ ?_ ?_
 · intro i hi X hb q1 q2
   have qn:factOk x i=false→((false,()):Bool×Unit)=(vInst x,()):=fun h=>no (q1 (by rw[h];rfl))
   have qy:factOk x i=true→X (((i+1:Nat):Int),()):=fun h=>q2 (by rw[h];rfl)
   refine lenI fun hl=>bcI hi (inI hi ⟨_,g_sIsValidFact,?_⟩)
   simp only
   rw[getI hi,w64_succ (by omega)]
   refine bc_not (fun h=>qn (by unfold factOk;rw[factAt_get hi,h];simp)) (fun hv=>?_)
   have fin:factOk x i = !(srcAt x.1 x.2.1[i].1&&(nulF x.2.1[i]).length != 0)→((0≤x.2.1[i].1∧x.2.1[i].1<(x.1.length:Int))∧(bcase (((x.1.getD (Int.toNat x.2.1[i].1) zRel).2).2).1 (∃ y5:List Int,G_sNullsOfFact x.2.1[i] y5∧(lenA (List.length y5:Int) (bcase (decide ((List.length y5:Int) > (0:Int))) (((false,()):Bool×Unit)=(vInst x,())) (X (((i+1:Nat):Int),()))))) (X (((i+1:Nat):Int),())))):=by
    intro he
    refine⟨fact_rel hv,bc_if (fun hs=>⟨_,g_sNullsOfFact,lenI fun _=>bc_dec (fun h=>qn ?_) (fun h=>qy ?_)⟩) (fun hs=>qy ?_)⟩
    · have hs:srcAt x.1 x.2.1[i].1=true:=hs
      rw[he,hs];simp;intro e;rw[e]at h;simp at h
    · have:(nulF x.2.1[i]).length=0:=by omega
      rw[he,this];simp
    · have hs:srcAt x.1 x.2.1[i].1=false:=hs
      rw[he,hs];rfl
   refine bc_dec (fun h0=>?_) (fun h0=>fin (factOk_split hi hv (fun h=>by omega)))
   have hi':i - 1<x.2.1.length:=by omega
   have hw:w64 ((i:Int) - 1)=((i - 1:Nat):Int):=by rw[w64_id (by omega) (by omega)];omega
   rw[hw]
   refine inI hi' ⟨_,g_sCompareFacts,?_⟩
   rw[getI hi']
   refine bc_dec (fun h=>qn ?_) (fun h=>fin (factOk_split hi hv (fun _=>by rw[factAt_get hi'];omega)))
   unfold factOk
   rw[factAt_get hi,factAt_get hi',decide_eq_false (by omega)]
   have:(i == 0)=false:=by simp;omega
   rw[this];simp
 · intro X h
   refine lenI fun _=>bcN ⟨_,g_sAreValidRelations,bc_if (fun h1=>lenI fun _=>?_) (fun h1=>no (by rw[h,h1];rfl))⟩
   rw[h,h1]
   have:decide ((x.2.1.length:Int)≤30)=decide (x.2.1.length≤30):=decide_eq_decide.mpr (by omega)
   rw[this];rfl
 · rintro⟨i,hi,hp⟩;exact vInst_no hi (nt hp)
 · intro h;exact vInst_yes fun i hi=>nf (h i hi))
theorem g_iIsValidInstance {x:TInst}:G_iIsValidInstance x (vInst x):=M_iIsValidInstance _ _ (by
 unfold S_iIsValidInstance
 have no:vInst x=false→((false,()):Bool×Unit)=(vInst x,()):=fun h=>by rw[h]
 refine⟨_,g_iAreValidRelations,bc_not (fun h=>no (by unfold vInst;rw[h];simp)) (fun hr=>lenI fun _=>bc_dec (fun h=>no (by unfold vInst;rw[decide_eq_false (show ¬ x.2.1.length≤30 by omega)];simp)) (fun hlen=>lenI fun _=>?_))⟩
 refine loop_anyI x.2.1.length (fun i=>!factOk x i) (fun i=>((i:Int),())) (KT:=vInst x=false) (KF:=vInst x=(vRels x.1&&decide (x.2.1.length≤30))) ?_ ?_ ?_ ?_
 · intro i hi X hb q1 q2
   have qn:factOk x i=false→((false,()):Bool×Unit)=(vInst x,()):=fun h=>no (q1 (by rw[h];rfl))
   have qy:factOk x i=true→X (((i+1:Nat):Int),()):=fun h=>q2 (by rw[h];rfl)
   refine bcI hi (inI hi ⟨_,g_iIsValidFact,?_⟩)
   simp only
   rw[getI hi,w64_succ (by omega)]
   refine bc_not (fun h=>qn (by unfold factOk;rw[factAt_get hi,h];simp)) (fun hv=>?_)
   have hvl:=(vRow_spec hv).2.2.2.2.1
   have fin:factOk x i = !(srcAt x.1 x.2.1[i].1&&(nulF x.2.1[i]).length != 0)→((0≤x.2.1[i].1∧x.2.1[i].1<(x.1.length:Int))∧(bcase (((x.1.getD (Int.toNat x.2.1[i].1) zRel).2).2).1 (∃ y5:List Int,G_iNullsOfFact x.2.1[i] y5∧(lenA (List.length y5:Int) (bcase (decide ((List.length y5:Int) > (0:Int))) (((false,()):Bool×Unit)=(vInst x,())) (X (((i+1:Nat):Int),()))))) (X (((i+1:Nat):Int),())))):=by
    intro he
    refine⟨fact_rel hv,bc_if (fun hs=>⟨_,g_iNullsOfFact (by omega),lenI fun _=>bc_dec (fun h=>qn ?_) (fun h=>qy ?_)⟩) (fun hs=>qy ?_)⟩
    · have hs:srcAt x.1 x.2.1[i].1=true:=hs
      rw[he,hs];simp;intro e;rw[e]at h;simp at h
    · have:(nulF x.2.1[i]).length=0:=by omega
      rw[he,this];simp
    · have hs:srcAt x.1 x.2.1[i].1=false:=hs
      rw[he,hs];rfl
   refine bc_dec (fun h0=>?_) (fun h0=>fin (factOk_split hi hv (fun h=>by omega)))
   have hi':i - 1<x.2.1.length:=by omega
   have hw:w64 ((i:Int) - 1)=((i - 1:Nat):Int):=by rw[w64_id (by omega) (by omega)];omega
   rw[hw]
   refine inI hi' ⟨_,g_iCompareFacts,?_⟩
   rw[getI hi']
   refine bc_dec (fun h=>qn ?_) (fun h=>fin (factOk_split hi hv (fun _=>by rw[factAt_get hi'];omega)))
   unfold factOk
   rw[factAt_get hi,factAt_get hi',decide_eq_false (by omega)]
   have:(i == 0)=false:=by simp;omega
   rw[this];simp
 · intro X h
   refine bcN ?_
   rw[h,hr,decide_eq_true (show x.2.1.length≤30 by omega)];rfl
 · rintro⟨i,hi,hp⟩;exact vInst_no hi (nt hp)
 · intro h;exact vInst_yes fun i hi=>nf (h i hi))
theorem vInst_flat {x:TInst} (h:vInst x=true):(x.2.1.flatMap (·.2.1)).length≤90:=by
 have h1:=vInst_len h
 have:∀ l:List TFact,(∀ f∈l,vFact x.1 f=true)→(l.flatMap (·.2.1)).length≤3 * l.length:=by
  intro l
  induction l with
  |nil=>intro _;simp
  | cons a l ih=>
    intro hl
    have h1:=(vRow_spec (hl a (by simp))).2.2.2.2.1
    have:=ih fun f hf=>hl f (by simp[hf])
    simp only[List.flatMap_cons,List.length_append,List.length_cons];omega
 have:=this x.2.1 fun f hf=>vInst_fact h hf
 omega
def nextN (x:TInst):Int:=match (nulI x).getLast? with
 |some k=>k+1
 |none=>0
theorem nextN_le {x:TInst} {n:Nat}:nextN x≤n↔∀ k∈nulI x,k<n:=by
 unfold nextN
 have hs:srt (nulI x):=srt_sset _
 cases h:(nulI x).getLast? with
 | none=>
   have:nulI x=[]:=List.getLast?_eq_none_iff.mp h
   rw[this];simp
 | some m=>
   have hne:nulI x≠[]:=by intro e;rw[e]at h;simp at h
   have hm:(nulI x).getLast hne=m:=by rw[List.getLast?_eq_some_getLast hne]at h;exact Option.some.inj h
   have hlast:=srt_last hs hne
   constructor
   · intro h' k hk
     have:=hlast k hk;rw[hm]at this;simp only at h';omega
   · intro h'
     have:=h' m (by rw[←hm];exact List.getLast_mem hne)
     simp only;omega
theorem g_iNextNull {x:TInst} (hl:(x.2.1.flatMap (·.2.1)).length≤1073741824):G_iNextNull x (nextN x):=M_iNextNull _ _ (by
 unfold S_iNextNull
 have hf:=nulI_few x
 refine⟨_,g_iNullsOfInstance hl,lenI fun _=>bc_beq (fun h=>?_) (fun h=>lenI fun _=>?_)⟩
 · have:nulI x=[]:=List.length_eq_zero_iff.mp (by omega)
   unfold nextN;rw[this];rfl
 · have hw:w64 ((nulI x).length - 1:Int)=(((nulI x).length - 1:Nat):Int):=by rw[w64_id (by omega) (by omega)];omega
   rw[hw]
   have hlt:(nulI x).length - 1<(nulI x).length:=by omega
   refine inI hlt ?_
   rw[getI hlt]
   have hne:nulI x≠[]:=by intro e;rw[e]at h;simp at h
   have hr:0≤(nulI x)[(nulI x).length - 1]∧(nulI x)[(nulI x).length - 1]<0+(40:Nat):=by
    have:=nulls_range (l:=x.2.1.flatMap (·.2.1)) ((nulI x)[(nulI x).length - 1]) (by rw[nulls_flat];exact List.getElem_mem hlt)
    exact this
   rw[w64_id (by omega) (by omega)]
   unfold nextN
   rw[List.getLast?_eq_some_getLast hne,List.getLast_eq_getElem])
theorem fold_len {α σ:Type} {μ:σ→Nat} {g:σ→α→σ} {c:Nat}:∀ {l:List α} {s:σ},(∀ s,∀ a∈l,μ (g s a)≤μ s+c)→μ (l.foldl g s)≤μ s+l.length * c
 |[],s,_=>by simp
 | a::l,s,h=>by
   have h1:=h s a (by simp)
   have h2:=fold_len (s:=g s a) fun s b (hb:b∈l)=>h s b (by simp[hb])
   rw[List.foldl_cons,List.length_cons,Nat.add_mul];omega
theorem loop_foldB {α σ τ:Type} {B:(τ→Prop)→τ→Prop} (l:List α) (g:σ→α→σ) (s0:σ) (e:Nat→σ→τ) (μ:σ→Nat) (c N:Nat) (hN:l.length≤N) (hg:∀ s,∀ a∈l,μ (g s a)≤μ s+c)
  (hs:∀ i (h:i<l.length) (s:σ) (X:τ→Prop),μ s≤μ s0+N * c→X (e (i+1) (g s l[i]))→B X (e i s))
  (hf:∀ X:τ→Prop,μ (l.foldl g s0)≤μ s0+N * c→B X (e l.length (l.foldl g s0))):LoopP B (e 0 s0):=by
 have hb:∀ i,i≤l.length→μ ((l.take i).foldl g s0)≤μ s0+N * c:=fun i hi=>by
  have h1:=fold_len (μ:=μ) (g:=g) (c:=c) (l:=l.take i) (s:=s0) fun s a ha=>hg s a (List.mem_of_mem_take ha)
  rw[List.length_take,Nat.min_eq_left hi]at h1
  have:i * c≤N * c:=Nat.mul_le_mul_right c (by omega)
  omega
 refine loop_fold l g s0 e (fun i hi X hX=>hs i hi _ X (hb i (by omega)) hX) (fun X=>hf X ?_)
 have:=hb l.length (Nat.le_refl _)
 rwa [List.take_length]at this
theorem getD_set {α:Type} {l:List α} {i j:Nat} {x d:α} (h:i<l.length):(l.set i x).getD j d=if j=i then x else l.getD j d:=by
 by_cases hj:j<l.length
 · rw[getD_at (by simpa using hj),getD_at hj,List.getElem_set]
   by_cases hij:i=j
   · subst hij;simp
   · rw[if_neg hij,if_neg (Ne.symm hij)]
 · have:j≠i:=by omega
   rw[if_neg this,List.getD_eq_getElem?_getD,List.getD_eq_getElem?_getD,List.getElem?_eq_none (by simpa using hj),List.getElem?_eq_none (by omega)]
theorem g_slices_Clone_int {l:List Int} (h:l.length≤1099511627776):G_slices_Clone_int l l:=M_slices_Clone_int _ _ (by
 unfold S_slices_Clone_int
 refine bc_if (fun he=>⟨?_,by simp only[maxL,List.length_nil];omega,by rw[List.nil_append]⟩) (fun _=>⟨by simp only[maxL,List.length_nil];omega,by rw[List.nil_append]⟩)
 have:l=[]:=List.isEmpty_iff.mp he
 rw[this])
theorem g_slices_Clone_Relation {l:List TRel} (h:l.length≤1099511627776):G_slices_Clone_Relation l l:=M_slices_Clone_Relation _ _ (by
 unfold S_slices_Clone_Relation
 refine bc_if (fun he=>⟨?_,by simp only[maxL,List.length_nil];omega,by rw[List.nil_append]⟩) (fun _=>⟨by simp only[maxL,List.length_nil];omega,by rw[List.nil_append]⟩)
 have:l=[]:=List.isEmpty_iff.mp he
 rw[this])
theorem g_sl5Fact {f:TFact} (h:f.2.1.length≤1099511627776):G_sl5Fact f f:=M_sl5Fact _ _ (by
 unfold S_sl5Fact
 try refine⟨trivial,?_⟩
 exact⟨by simp only[maxL,List.length_nil];omega,by rw[List.nil_append]⟩)
theorem g_ifactCopy {f:TFact} (h:f.2.1.length≤1099511627776):G_ifactCopy f f:=M_ifactCopy _ _ (by
 unfold S_ifactCopy
 exact⟨_,g_slices_Clone_int h,rfl⟩)
theorem loop_copy {α τ:Type} {B:(τ→Prop)→τ→Prop} (l:List α) (e:Nat→List α→τ) (hl:l.length≤1073741824)
  (hs:∀ i (h:i<l.length) (s:List α) (X:τ→Prop),s.length≤1073741824→X (e (i+1) (s++[l[i]]))→B X (e i s))
  (hf:∀ X:τ→Prop,B X (e l.length l)):LoopP B (e 0 []):=by
 refine loopP_of l.length (fun i=>e i (l.take i)) (by simp) ?_ ?_
 · intro i hi X hX
   rw[take_succ_snoc hi]at hX
   exact hs i hi _ X (by rw[List.length_take];omega) hX
 · intro X;rw[List.take_length];exact hf X
theorem g_ifactsCopy {l:List TFact} (hl:l.length≤1073741824) (h:∀ f∈l,f.2.1.length≤1099511627776):G_ifactsCopy l l:=M_ifactsCopy _ _ (by
 unfold S_ifactsCopy
 refine lenI fun _=>loop_copy l (fun i s=>((i:Int),(s,()))) hl ?_ ?_
 · intro i hi s X hs hX
   refine bcI hi (inI hi ⟨l[i],?_,⟨by simp only[maxL,List.length_cons,List.length_nil];omega,?_⟩⟩)
   · simp only;rw[getI hi];exact g_ifactCopy (h _ (List.getElem_mem hi))
   · simp only;rw[w64_succ (by omega)];exact hX
 · intro X;exact bcN rfl)
def okDep (d:TDep):Prop:=(d.1.length≤1073741824∧∀ f∈d.1,f.2.1.length≤1099511627776)∧(d.2.1.length≤1073741824∧∀ f∈d.2.1,f.2.1.length≤1099511627776)
theorem mem_flat_le {f:TFact}:∀ {l:List TFact},f∈l→f.2.1.length≤(l.flatMap (·.2.1)).length
 | a::l,h=>by
   rw[List.flatMap_cons,List.length_append]
   rcases List.mem_cons.mp h with rfl|h
   · omega
   · have:=mem_flat_le h;omega
theorem okDep_of {l:List TRel} {d:TDep} (h:vDep l d=true):okDep d:=by
 have hs:=vDep_spec h
 have h1:=hs.2.2.2.2.2.1
 have h2:=hs.2.2.2.2.2.2
 refine⟨⟨by have:=hs.2.1;omega,fun f hf=>?_⟩,⟨by have:=hs.2.2.2.1;omega,fun f hf=>?_⟩⟩
 · have:=mem_flat_le hf;omega
 · have:=mem_flat_le hf;omega
theorem g_idependencyCopy_1 {l:List TFact} (hl:l.length≤1073741824) (h:∀ f∈l,f.2.1.length≤1099511627776):G_idependencyCopy_1 l l:=M_idependencyCopy_1 _ _ (by
 unfold S_idependencyCopy_1
 refine lenI fun _=>loop_copy l (fun i s=>((i:Int),(s,()))) hl ?_ ?_
 · intro i hi s X hs hX
   refine bcI hi (inI hi ⟨l[i].2.1,?_,⟨by simp only[maxL,List.length_cons,List.length_nil];omega,?_⟩⟩)
   · simp only;rw[getI hi];exact g_slices_Clone_int (h _ (List.getElem_mem hi))
   · simp only;rw[getI hi,w64_succ (by omega)];exact hX
 · intro X;exact bcN rfl)
theorem g_idependencyCopy {d:TDep} (h:okDep d):G_idependencyCopy d d:=M_idependencyCopy _ _ (by
 unfold S_idependencyCopy
 exact⟨_,g_idependencyCopy_1 h.1.1 h.1.2,_,g_idependencyCopy_1 h.2.1 h.2.2,rfl⟩)
theorem g_sl9Copy {d:TDep} (h:okDep d):G_sl9Copy d d:=M_sl9Copy _ _ (by
 unfold S_sl9Copy
 refine loop_copy d.1 (fun i s=>((i:Int),((s,(([]:List TFact),d.2.2)),()))) h.1.1 ?_ ?_
 · intro i hi s X hs hX
   have hb:=h.1.2 _ (List.getElem_mem hi)
   refine lenI fun _=>bcI hi ?_
   simp only
   rw[getI hi,w64_succ (by omega)]
   rw[List.nil_append]
   exact inI hi (inI hi ⟨by simp only[maxL,List.length_nil];omega,by simp only[maxL,List.length_cons,List.length_nil];omega,hX⟩)
 · intro X
   refine lenI fun _=>bcN ?_
   simp only
   refine loop_copy d.2.1 (fun i s=>((i:Int),((d.1,(s,d.2.2)),()))) h.2.1 ?_ ?_
   · intro i hi s Y hs hY
     have hb:=h.2.2 _ (List.getElem_mem hi)
     refine lenI fun _=>bcI hi ?_
     simp only
     rw[getI hi,w64_succ (by omega)]
     rw[List.nil_append]
     exact inI hi (inI hi ⟨by simp only[maxL,List.length_nil];omega,by simp only[maxL,List.length_cons,List.length_nil];omega,hY⟩)
   · intro Y
     exact lenI fun _=>bcN rfl)
theorem g_math_bits_Mul64_5:G_math_bits_Mul64 1 5 0 5:=M_math_bits_Mul64 _ _ _ _ (by
 unfold S_math_bits_Mul64
 decide)
abbrev blank:List Int:=[10,10,10,10,10]
theorem g_slices_Repeat_int_5:G_slices_Repeat_int [10] 5 blank:=M_slices_Repeat_int _ _ _ (by
 unfold S_slices_Repeat_int
 refine bcF (lenI fun _=>⟨0,5,M_math_bits_Mul _ _ _ _ ⟨0,5,g_math_bits_Mul64_5,rfl⟩,bcF (bcF ⟨by decide,by decide,?_⟩)⟩)
 refine loopP_of 3 (fun i=>match i with
  |0=>((1:Int),(([10,0,0,0,0]:List Int),()))
  |1=>((2:Int),(([10,10,0,0,0]:List Int),()))
  |2=>((4:Int),(([10,10,10,10,0]:List Int),()))
  |_=>((5:Int),(([10,10,10,10,10]:List Int),()))) (by decide) ?_ ?_
 · intro i hi X hX
   rcases i with _|_|_|i
   · exact lenI fun _=>bcT ⟨by decide,by decide,by decide,by rw[show ∀ z,w64 z=IntKind.i64.wrap z from fun _=>rfl];exact hX⟩
   · exact lenI fun _=>bcT ⟨by decide,by decide,by decide,by rw[show ∀ z,w64 z=IntKind.i64.wrap z from fun _=>rfl];exact hX⟩
   · exact lenI fun _=>bcT ⟨by decide,by decide,by decide,by rw[show ∀ z,w64 z=IntKind.i64.wrap z from fun _=>rfl];exact hX⟩
   · omega
 · intro X
   exact lenI fun _=>bcF rfl)
theorem g_iunboundBinding:G_iunboundBinding blank:=M_iunboundBinding _ (by unfold S_iunboundBinding;exact⟨_,g_slices_Repeat_int_5,rfl⟩)
theorem g_sl11None:G_sl11None 10:=M_sl11None _ (by unfold S_sl11None;rfl)
theorem g_sl11Blank:G_sl11Blank [10,10,10,10,10]:=M_sl11Blank _ (by
 unfold S_sl11Blank
 refine loopP_of 5 (fun i=>(List.replicate i (10:Int),())) rfl ?_ ?_
 · intro i hi X hX
   refine lenI fun _=>bc_dec (fun _=>⟨_,g_sl11None,by simp only[maxL,List.length_replicate,List.length_cons,List.length_nil];omega,?_⟩) (fun h=>by simp only[List.length_replicate]at h;omega)
   rw[List.replicate_succ']at hX;exact hX
 · intro X
   exact lenI fun _=>bcF rfl)
def fitP:List Int→List Int→List Int→List Int×Bool
 |[],_,b=>(b,true)
 | t::ts,v::vs,b=>if t<0 then(if -1 - t=v then fitP ts vs b else(b,false))
   else if b.getD t.toNat 0=10∨b.getD t.toNat 0=v then fitP ts vs (b.set t.toNat v)else(b,false)
 |_::_,[],b=>(b,false)
theorem fitP_cons {t:Int} {ts:List Int} {v:Int} {vs b:List Int}:fitP (t::ts) (v::vs) b=if t<0 then(if -1 - t=v then fitP ts vs b else(b,false))
 else if b.getD t.toNat 0=10∨b.getD t.toNat 0=v then fitP ts vs (b.set t.toNat v)else(b,false):=rfl
theorem fitP_len:∀ {ts vs b:List Int},(fitP ts vs b).1.length=b.length
 |[],vs,b=>by simp[fitP]
 |t::ts,[],b=>by simp[fitP]
 | t::ts,v::vs,b=>by
   unfold fitP
   split
   · split
     · exact fitP_len
     · rfl
   · split
     · rw[fitP_len,List.length_set]
     · rfl
theorem set_same {l:List Int} {i:Nat} {v:Int} (h:i<l.length) (hv:l.getD i 0=v):l.set i v=l:=by
 rw[getD_at h]at hv
 subst hv
 exact List.set_getElem_self h
theorem g_sl11Fit {a f:TFact} {b:List Int} (hl:a.2.1.length≤1000) (hb:b.length≤1000) (ht:∀ t∈a.2.1,-10≤t∧t<b.length) :
  G_sl11Fit a f b (if a.1=f.1∧a.2.1.length=f.2.1.length then(fitP a.2.1 f.2.1 b).1 else b) (decide (a.1=f.1∧a.2.1.length=f.2.1.length)&&(fitP a.2.1 f.2.1 b).2):=M_sl11Fit _ _ _ _ _ (by
 unfold S_sl11Fit
 refine⟨by simp only[maxL,List.length_nil];omega,bc_ne (fun h=>by rw[if_neg (fun h'=>h h'.1)];simp[h]) (fun h1=>lenI fun _=>lenI fun _=>bc_ne (fun h=>?_) (fun h2=>?_))⟩
 · have h:¬ a.2.1.length=f.2.1.length:=by omega
   rw[if_neg (fun h'=>h h'.2)];simp[h]
 · have h2:a.2.1.length=f.2.1.length:=by omega
   rw[if_pos ⟨h1,h2⟩,decide_eq_true (And.intro h1 h2),Bool.true_and,List.nil_append]
   refine loopP_down (fun k s=>∃(i:Nat) (c:List Int),i+k=a.2.1.length∧s=((i:Int),(c,()))∧c.length=b.length∧fitP (a.2.1.drop i) (f.2.1.drop i) c=fitP a.2.1 f.2.1 b) ?_ ?_ (n:=a.2.1.length) ⟨0,b,by omega,rfl,rfl,by simp⟩
   · rintro s ⟨i,c,hi,rfl,hc,hf⟩ X
     obtain rfl:i=a.2.1.length:=by omega
     refine lenI fun _=>bcN ?_
     rw[←hf];simp[fitP]
   · rintro k s ⟨i,c,hi,rfl,hc,hf⟩ X hX
     have hlt:i<a.2.1.length:=by omega
     have hlt':i<f.2.1.length:=by omega
     rw[drop_cons hlt,drop_cons hlt']at hf
     have htr:=ht _ (List.getElem_mem hlt)
     refine lenI fun _=>bcI hlt (inI hlt ?_)
     simp only
     rw[getI hlt,getI hlt',w64_succ (by omega)]
     rw[fitP_cons]at hf
     refine bc_dec (fun h3=>inI hlt' ?_) (fun h3=>?_)
     · rw[if_pos h3]at hf
       rw[w64_id (by omega) (by omega)]
       refine bc_ne (fun h4=>?_) (fun h4=>?_)
       · rw[if_neg h4]at hf;rw[←hf]
       · rw[if_pos h4]at hf;exact hX _ ⟨i+1,c,by omega,rfl,hc,hf⟩
     · rw[if_neg h3]at hf
       have hin:a.2.1[i].toNat<c.length:=by omega
       refine⟨⟨by omega,by omega⟩,_,g_sl11None,bc_ne (fun h4=>⟨⟨by omega,by omega⟩,inI hlt' (bc_ne (fun h5=>?_) (fun h5=>inI hlt' ⟨⟨by omega,by omega⟩,?_⟩))⟩) (fun h4=>inI hlt' ⟨⟨by omega,by omega⟩,?_⟩)⟩
       · rw[if_neg (by rintro (h|h);exact h4 h;exact h5 h)]at hf;rw[←hf]
       · rw[if_pos (.inr h5)]at hf;exact hX _ ⟨i+1,_,by omega,rfl,by rw[List.length_set];exact hc,hf⟩
       · rw[if_pos (.inl h4)]at hf;exact hX _ ⟨i+1,_,by omega,rfl,by rw[List.length_set];exact hc,hf⟩)
theorem g_ibind {a f:TFact} {b:List Int} (hl:a.2.1.length≤1000) (hb:b.length≤1000) (ht:∀ t∈a.2.1,-10≤t∧t<b.length) (hr:a.1=f.1→a.2.1.length=f.2.1.length) :
  G_ibind b a f (if a.1=f.1∧(fitP a.2.1 f.2.1 b).2 then(fitP a.2.1 f.2.1 b).1 else[]) (decide (a.1=f.1)&&(fitP a.2.1 f.2.1 b).2):=M_ibind _ _ _ _ _ (by
 unfold S_ibind
 refine bc_ne (fun h=>by rw[if_neg (fun h'=>h h'.1)];simp[h]) (fun h1=>⟨_,g_slices_Clone_int (by omega),lenI fun _=>?_⟩)
 have h2:=hr h1
 rw[decide_eq_true h1,Bool.true_and]
 refine loopP_down (fun k s=>∃(i:Nat) (c:List Int),i+k=a.2.1.length∧s=((i:Int),(c,()))∧c.length=b.length∧fitP (a.2.1.drop i) (f.2.1.drop i) c=fitP a.2.1 f.2.1 b) ?_ ?_ (n:=a.2.1.length) ⟨0,b,by omega,rfl,rfl,by simp⟩
 · rintro s ⟨i,c,hi,rfl,hc,hf⟩ X
   obtain rfl:i=a.2.1.length:=by omega
   refine bcN ?_
   rw[←hf];simp[fitP,h1]
 · rintro k s ⟨i,c,hi,rfl,hc,hf⟩ X hX
   have hlt:i<a.2.1.length:=by omega
   have hlt':i<f.2.1.length:=by omega
   rw[drop_cons hlt,drop_cons hlt']at hf
   have htr:=ht _ (List.getElem_mem hlt)
   refine bcI hlt (inI hlt (inI hlt' ?_))
   simp only
   rw[getI hlt,getI hlt',w64_succ (by omega)]
   rw[fitP_cons]at hf
   refine bc_dec (fun h3=>?_) (fun h3=>?_)
   · rw[if_pos h3]at hf
     rw[w64_id (by omega) (by omega)]
     refine bc_ne (fun h4=>?_) (fun h4=>?_)
     · rw[if_neg (fun h=>h4 h.symm)]at hf;rw[←hf];simp
     · rw[if_pos h4.symm]at hf;exact hX _ ⟨i+1,c,by omega,rfl,hc,hf⟩
   · rw[if_neg h3]at hf
     have hin:a.2.1[i].toNat<c.length:=by omega
     refine⟨⟨by omega,by omega⟩,bc_beq (fun h4=>⟨⟨by omega,by omega⟩,?_⟩) (fun h4=>⟨⟨by omega,by omega⟩,bc_ne (fun h5=>?_) (fun h5=>?_)⟩)⟩
     · rw[if_pos (.inl h4)]at hf;exact hX _ ⟨i+1,_,by omega,rfl,by rw[List.length_set];exact hc,hf⟩
     · rw[if_neg (by rintro (h|h);exact h4 h;exact h5 h)]at hf;rw[←hf];simp
     · rw[if_pos (.inr h5),set_same hin h5]at hf;exact hX _ ⟨i+1,c,by omega,rfl,hc,hf⟩)
def walkG (fs:List TFact) (w:List Int→List (List Int)) (a:TFact) (b:List Int) (out:List (List Int)) (f:TFact):List (List Int):=if a.1=f.1∧(fitP a.2.1 f.2.1 b).2=true then out++w (fitP a.2.1 f.2.1 b).1 else out
def walk (fs:List TFact):List TFact→List Int→List (List Int)
 |[],b=>[b]
 |a::ats,b=>fs.foldl (walkG fs (walk fs ats) a b) []
structure WOk (fs ats:List TFact):Prop where
 few:fs.length≤30
 row:∀ a∈ats,a.2.1.length≤3∧∀ t∈a.2.1,-10≤t∧t<5
 fit:∀ a∈ats,∀ f∈fs,a.1=f.1→a.2.1.length=f.2.1.length
theorem WOk.tail {fs ats:List TFact} {a:TFact} (h:WOk fs (a::ats)):WOk fs ats:=⟨h.few,fun x hx=>h.row x (by simp[hx]),fun x hx=>h.fit x (by simp[hx])⟩
theorem walkG_len {fs ats:List TFact} {a:TFact} {b:List Int} {n:Nat} (hw:∀ c,(walk fs ats c).length≤n) (out:List (List Int)) (f:TFact):(walkG fs (walk fs ats) a b out f).length≤out.length+n:=by
 unfold walkG
 split
 · rw[List.length_append];have:=hw (fitP a.2.1 f.2.1 b).1;omega
 · omega
theorem walk_len {fs:List TFact} (h:fs.length≤30):∀ {ats:List TFact} {b:List Int},(walk fs ats b).length≤30 ^ ats.length
 |[],b=>by simp[walk]
 | a::ats,b=>by
   have:=fold_len (l:=fs) (g:=walkG fs (walk fs ats) a b) (s:=[]) (μ:=List.length) (c:=30 ^ ats.length) fun s f _=>walkG_len (fun c=>walk_len h) s f
   simp only[List.length_nil,Nat.zero_add]at this
   rw[List.length_cons,Nat.pow_succ,Nat.mul_comm]
   exact Nat.le_trans this (Nat.mul_le_mul_right _ h)
theorem walk_mem {fs ats:List TFact} {b c:List Int} (h:c∈walk fs ats b):c.length=b.length:=by
 induction ats generalizing b c with
 |nil=>simp[walk]at h;rw[h]
 | cons a ats ih=>
   have:∀(l:List TFact) (out:List (List Int)),(∀ c∈out,c.length=b.length)→∀ c∈l.foldl (walkG fs (walk fs ats) a b) out,c.length=b.length:=by
    intro l
    induction l with
    |nil=>intro out ho;exact ho
    | cons f l ihl=>
      intro out ho
      rw[List.foldl_cons]
      refine ihl _ fun c hc=>?_
      unfold walkG at hc
      split at hc
      · rcases List.mem_append.mp hc with hc|hc
        · exact ho c hc
        · rw[ih hc,fitP_len]
      · exact ho c hc
   exact this fs [] (by simp) c h
def mOk (x:TInst) (l:List TFact):Bool:=l.all (vAtom x.1)&&(vInst x&&decide (l.length≤3))
theorem mOk_wok {x:TInst} {l:List TFact} (h:mOk x l=true):WOk x.2.1 l∧l.length≤3:=by
 unfold mOk at h
 simp only[Bool.and_eq_true,decide_eq_true_eq]at h
 obtain⟨h1,h2,h3⟩:=h
 refine⟨⟨vInst_len h2,fun a ha=>?_,fun a ha f hf he=>?_⟩,h3⟩
 · have:=vRow_spec (List.all_eq_true.mp h1 a ha)
   exact⟨this.2.2.2.2.1,fun t ht=>by have:=inR_iff.mp (this.2.2.2.2.2 t ht);omega⟩
 · have e1:=vRow_spec (List.all_eq_true.mp h1 a ha)
   have e2:=vRow_spec (vInst_fact h2 hf)
   have:=e1.2.2.2.1
   have:=e2.2.2.2.1
   rw[he]at *
   omega
def dedG (out:List (List Int)) (b:List Int):List (List Int):=if b∈out then out else out++[b]
def finds (x:TInst) (l:List TFact):List (List Int):=if mOk x l then(walk x.2.1 l blank).foldl dedG [] else[]
theorem dedG_len (out:List (List Int)) (b:List Int):(dedG out b).length≤out.length+1:=by unfold dedG;split<;>simp
theorem dedF_mem:∀ {l:List (List Int)} {out:List (List Int)} {b:List Int},b∈l.foldl dedG out→b∈out∨b∈l
 |[],out,b,h=>.inl h
 | c::l,out,b,h=>by
   rw[List.foldl_cons]at h
   rcases dedF_mem h with h|h
   · unfold dedG at h
     split at h
     · exact .inl h
     · rcases List.mem_append.mp h with h|h
       · exact .inl h
       · simp at h;exact .inr (by simp[h])
   · exact .inr (by simp[h])
theorem finds_len5 {x:TInst} {l:List TFact} {b:List Int} (h:b∈finds x l):b.length=5:=by
 unfold finds at h
 split at h
 · rcases dedF_mem h with h|h
   · simp at h
   · rw[walk_mem h];rfl
 · simp at h
theorem pow30 {n:Nat} (h:n≤3):30 ^ n≤27000:=Nat.le_trans (Nat.pow_le_pow_right (by omega) h) (by decide)
theorem finds_len {x:TInst} {l:List TFact}:(finds x l).length≤27000:=by
 unfold finds
 split
 · rename_i h
   have:=fold_len (l:=walk x.2.1 l blank) (g:=dedG) (s:=[]) (μ:=List.length) (c:=1) fun s f _=>dedG_len s f
   have h2:=walk_len (mOk_wok h).1.few (ats:=l) (b:=blank)
   have:=pow30 (mOk_wok h).2
   simp at *
   omega
 · exact Nat.zero_le _
theorem g_sl11Ok {x:TInst} {l:List TFact}:G_sl11Ok x l (mOk x l):=M_sl11Ok _ _ _ (by
 unfold S_sl11Ok
 refine loop_any l (fun a=>!vAtom x.1 a) (fun i=>((i:Int),())) (KT:=((false,()):Bool×Unit)=(mOk x l,())) (KF:=l.any (fun a=>!vAtom x.1 a)=false) ?_ ?_ ?_ (fun h=>h)
 · intro i hi X h1 h2
   refine lenI fun _=>bcI hi (inI hi ⟨_,g_sIsValidAtom,?_⟩)
   simp only
   rw[getI hi,w64_succ (by omega)]
   exact bc_if h1 h2
 · intro X h
   refine lenI fun _=>bcN ⟨_,g_sIsValidInstance,?_⟩
   rw[any_not]at h
   refine bc_if (fun h1=>lenI fun _=>?_) (fun h1=>?_)
   · unfold mOk;rw[nf h,h1];simp;omega
   · unfold mOk;rw[h1];simp
 · intro h
   rw[any_not]at h
   unfold mOk;rw[nt h];rfl)
theorem g_iareMatchable {x:TInst} {l:List TFact}:G_iareMatchable x l (mOk x l):=M_iareMatchable _ _ _ (by
 unfold S_iareMatchable
 refine⟨_,g_iIsValidInstance,bc_if (fun h1=>lenI fun _=>bc_beq (fun h2=>?_) (fun h2=>⟨_,g_iareAtoms,?_⟩)) (fun h1=>by unfold mOk;rw[h1];simp)⟩
 · have:l=[]:=List.eq_nil_of_length_eq_zero (by omega)
   unfold mOk;rw[this,h1];rfl
 · have:mOk x l=(inR l.length 1 3&&l.all (vAtom x.1)):=by
    unfold mOk
    rw[h1,Bool.true_and,Bool.and_comm]
    congr 1
    have h0:1≤l.length:=by omega
    unfold inR
    rw[decide_eq_true (show(1:Int)≤(l.length:Int) by omega),Bool.true_and]
    exact decide_eq_decide.mpr (by omega)
   rw[this])
theorem g_sl11Walk {x:TInst} {l:List TFact} (h:WOk x.2.1 l) (hl:l.length≤3):∀(k n:Nat) (b:List Int),n+k=l.length→b.length=5→G_sl11Walk x l n b (walk x.2.1 (l.drop n) b)
 | 0,n,b,hn,hb=>M_sl11Walk _ _ _ _ _ (by
   unfold S_sl11Walk
   obtain rfl:n=l.length:=by omega
   refine lenI fun _=>bc_beq (fun _=>⟨by simp only[maxL,List.length_nil];omega,by rw[List.drop_length];rfl⟩) (fun h=>absurd rfl h))
 | k+1,n,b,hn,hb=>M_sl11Walk _ _ _ _ _ (by
   unfold S_sl11Walk
   have hlt:n<l.length:=by omega
   refine lenI fun _=>bc_beq (fun h=>by omega) (fun _=>?_)
   rw[drop_cons hlt]
   have hrow:=h.row _ (List.getElem_mem hlt)
   refine loop_foldB x.2.1 (walkG x.2.1 (walk x.2.1 (l.drop (n+1))) l[n] b) [] (fun i s=>((i:Int),(s,()))) List.length 27000 30 h.few (fun s f _=>walkG_len (fun c=>Nat.le_trans (walk_len h.few) (pow30 (by rw[List.length_drop];omega))) s f) ?_ ?_
   · intro i hi s X hs hX
     have hfew:=h.few
     refine lenI fun _=>bcI hi (inI hlt (inI hi ⟨_,_,g_sl11Fit (a:=l.getD (Int.toNat (n:Int)) zFact) (f:=x.2.1.getD (Int.toNat (i:Int)) zFact) (b:=b) ?_ (by omega) ?_,?_⟩))
     · rw[getI hlt];omega
     · rw[getI hlt];intro t ht;have:=hrow.2 t ht;omega
     · simp only
       rw[getI hlt,getI hi,w64_succ (by omega),w64_succ (by omega)]
       have hfit:=h.fit _ (List.getElem_mem hlt) _ (List.getElem_mem hi)
       unfold walkG at hX
       by_cases hc:l[n].1=x.2.1[i].1
       · rw[if_pos ⟨hc,hfit hc⟩,decide_eq_true (And.intro hc (hfit hc)),Bool.true_and]
         refine bc_if (fun h4=>⟨_,g_sl11Walk h hl k (n+1) _ (by omega) (by rw[fitP_len];exact hb),?_,?_⟩) (fun h4=>?_)
         · have h5:(walk x.2.1 (l.drop (n+1)) (fitP l[n].2.1 x.2.1[i].2.1 b).1).length≤27000:=Nat.le_trans (walk_len h.few) (pow30 (by rw[List.length_drop];omega))
           simp only[maxL,List.length_nil]at *
           omega
         · rw[if_pos ⟨hc,h4⟩]at hX;exact hX
         · rw[if_neg (by rintro⟨_,h5⟩;rw[h4]at h5;cases h5)]at hX;exact hX
       · rw[if_neg (fun h=>hc h.1),decide_eq_false (fun h=>hc h.1),Bool.false_and]
         rw[if_neg (fun h=>hc h.1)]at hX
         exact bcF hX
   · intro X _
     exact lenI fun _=>bcN rfl)
theorem g_imatches {fs:List TFact}:∀ {l:List TFact} (b:List Int),WOk fs l→l.length≤3→b.length=5→G_imatches fs l b (walk fs l b)
 |[],b,h,hl,hb=>M_imatches _ _ _ _ (by unfold S_imatches;exact lenI fun _=>bcT rfl)
 | a::l,b,h,hl,hb=>M_imatches _ _ _ _ (by
   unfold S_imatches
   have hrow:=h.row a (by simp)
   refine lenI fun _=>bc_beq (fun h=>by simp at h;omega) (fun _=>lenI fun _=>?_)
   have hd:List.drop (Int.toNat (1:Int)) (List.take (Int.toNat ((a::l).length:Int)) (a::l))=l:=by rw[Int.toNat_natCast,List.take_length];rfl
   rw[hd]
   refine loop_foldB fs (walkG fs (walk fs l) a b) [] (fun i s=>((i:Int),(s,()))) List.length 27000 30 h.few (fun s f _=>walkG_len (fun c=>Nat.le_trans (walk_len h.few) (pow30 (by simp at hl;omega))) s f) ?_ ?_
   · intro i hi s X hs hX
     have hfew:=h.few
     refine bcI hi (inI hi ⟨⟨by omega,by simp only[List.length_cons];omega⟩,_,_,g_ibind (a:=a) (f:=fs.getD (Int.toNat (i:Int)) zFact) (b:=b) (by omega) (by omega) (fun t ht=>by have:=hrow.2 t ht;omega) ?_,?_⟩)
     · rw[getI hi];exact h.fit a (by simp) _ (List.getElem_mem hi)
     · simp only
       rw[getI hi,w64_succ (by omega)]
       unfold walkG at hX
       by_cases hc:a.1=fs[i].1
       · rw[decide_eq_true hc,Bool.true_and]
         refine bc_if (fun h4=>⟨⟨by omega,by simp;omega,by omega⟩,_,g_imatches _ h.tail (by simp at hl;omega) (by rw[if_pos ⟨hc,h4⟩,fitP_len];exact hb),?_,?_⟩) (fun h4=>?_)
         · have h5:∀ c,(walk fs l c).length≤27000:=fun c=>Nat.le_trans (walk_len h.few) (pow30 (by simp at hl;omega))
           have:=h5 (if a.1=fs[i].1∧(fitP a.2.1 fs[i].2.1 b).2=true then(fitP a.2.1 fs[i].2.1 b).1 else[])
           simp only[maxL,List.length_nil]at *
           omega
         · rw[if_pos ⟨hc,h4⟩]at hX ⊢;exact hX
         · rw[if_neg (by rintro⟨_,h5⟩;rw[h4]at h5;cases h5)]at hX;exact hX
       · rw[decide_eq_false hc,Bool.false_and]
         rw[if_neg (fun h=>hc h.1)]at hX
         exact bcF hX
   · intro X _
     exact bcN rfl)
theorem g_ihasBinding {l:List (List Int)} {b:List Int}:G_ihasBinding l b (decide (b∈l)):=M_ihasBinding _ _ _ (by
 unfold S_ihasBinding
 refine⟨_,g_slices_ContainsFunc_Sint_c_ihasBinding_1 (fun t=>decide (t=b)) (fun t _=>M_ihasBinding_1 _ _ _ ⟨_,g_slices_Equal_int,rfl⟩),?_⟩
 have:(l.any fun t=>decide (t=b))=decide (b∈l):=by
  rw[←any_mem]
  congr 1;funext t
  by_cases h:t=b
  · simp[h]
  · have:¬ b=t:=fun e=>h e.symm
    simp[h,this]
 rw[this])
def mkd {α:Type} (w:List α) (i:Nat):List (Bool×α):=(w.take i).map (fun y=>(false,y))++(w.drop i).map (fun y=>(true,y))
theorem mkd_len {α:Type} {w:List α} {i:Nat}:(mkd w i).length=w.length:=by
 unfold mkd
 rw[List.length_append,List.length_map,List.length_map,←List.length_append,List.take_append_drop]
theorem mkd_get {α:Type} {w:List α} {i:Nat} (h:i<w.length) {d:Bool×α}:List.getD (mkd w i) i d=(true,w[i]):=by
 have hl:((w.take i).map (fun y=>(false,y))).length=i:=by simp;omega
 unfold mkd
 rw[List.getD_eq_getElem?_getD,List.getElem?_append_right (by omega),hl,Nat.sub_self,List.getElem?_map,List.getElem?_drop,Nat.add_zero,List.getElem?_eq_getElem h]
 rfl
theorem mkd_set {α:Type} {w:List α} {i:Nat} (h:i<w.length):List.set (mkd w i) i (false,w[i])=mkd w (i+1):=by
 have hl:((w.take i).map (fun y=>(false,y))).length=i:=by simp;omega
 unfold mkd
 rw[List.set_append,hl,if_neg (by omega),Nat.sub_self,List.drop_eq_getElem_cons h,List.map_cons,List.set_cons_zero,take_succ_snoc h,List.map_append,List.append_assoc]
 rfl
theorem g_iFindMatches {x:TInst} {l:List TFact}:G_iFindMatches x l (finds x l):=M_iFindMatches _ _ _ (by
 unfold S_iFindMatches
 refine⟨_,g_iareMatchable,bc_not (fun h=>by unfold finds;rw[h];rfl) (fun h=>?_)⟩
 obtain⟨hw,hl⟩:=mOk_wok h
 refine⟨_,g_iunboundBinding,_,g_imatches blank hw hl rfl,lenI fun _=>?_⟩
 have hlen:(walk x.2.1 l blank).length≤27000:=Nat.le_trans (walk_len hw.few) (pow30 hl)
 unfold finds
 rw[h,if_pos rfl]
 rw[show List.map (fun y=>(true,y)) (walk x.2.1 l blank)=mkd (walk x.2.1 l blank) 0 from rfl]
 refine loop_foldB (walk x.2.1 l blank) dedG [] (fun i s=>((i:Int),(s,(mkd (walk x.2.1 l blank) i,())))) List.length 1 27000 hlen (fun s f _=>dedG_len s f) ?_ ?_
 · intro i hi s X hs hX
   refine bcI hi (inI (by rw[mkd_len];exact hi) ?_)
   simp only[Int.toNat_natCast]
   rw[mkd_get hi]
   refine⟨rfl,_,g_ihasBinding,?_⟩
   simp only
   rw[mkd_set hi,w64_succ (by omega)]
   unfold dedG at hX
   refine bc_nd (fun h4=>⟨by simp only[maxL,List.length_nil,List.length_cons]at *;omega,?_⟩) (fun h4=>?_)
   · rw[if_neg h4]at hX;exact hX
   · rw[if_pos h4]at hX;exact hX
 · intro X _
   exact bcN rfl)
theorem g_sFindMatches {x:TInst} {l:List TFact}:G_sFindMatches x l (finds x l):=M_sFindMatches _ _ _ (by
 unfold S_sFindMatches
 refine⟨_,g_sl11Ok,bc_not (fun h=>by unfold finds;rw[h];rfl) (fun h=>?_)⟩
 obtain⟨hw,hl⟩:=mOk_wok h
 refine⟨_,g_sl11Blank,_,g_sl11Walk hw hl l.length 0 blank (by omega) rfl,?_⟩
 rw[List.drop_zero]
 have hlen:(walk x.2.1 l blank).length≤27000:=Nat.le_trans (walk_len hw.few) (pow30 hl)
 unfold finds
 rw[h,if_pos rfl]
 refine loop_foldB (walk x.2.1 l blank) dedG [] (fun i s=>((i:Int),(s,(walk x.2.1 l blank,())))) List.length 1 27000 hlen (fun s f _=>dedG_len s f) ?_ ?_
 · intro i hi s X hs hX
   refine lenI fun _=>bcI hi ?_
   simp only
   rw[w64_succ (by omega)]
   refine loop_fold s (fun(m:Bool) c=>m||decide (c=(walk x.2.1 l blank)[i])) false (fun j m=>(m,((j:Int),()))) ?_ ?_
   · intro j hj Y hY
     refine lenI fun _=>bcI hj ?_
     simp only
     rw[w64_succ (by simp at hs;omega)]
     generalize (s.take j).foldl (fun(m:Bool) c=>m||decide (c=(walk x.2.1 l blank)[i])) false=m at hY ⊢
     cases m with
     |true=>exact bcT hY
     | false=>
       refine bcF (inI hj (inI hi ⟨_,g_sl4Ints,?_⟩))
       rw[getI hj,getI hi]
       have:(cmpL s[j] (walk x.2.1 l blank)[i] == (0:Int))=decide (s[j]=(walk x.2.1 l blank)[i]):=by
        by_cases he:s[j]=(walk x.2.1 l blank)[i]
        · rw[cmpL_zero.mpr he];simp[he]
        · have:cmpL s[j] (walk x.2.1 l blank)[i]≠0:=fun e=>he (cmpL_zero.mp e)
          simp[he,this]
       rw[this];simpa using hY
   · intro Y
     refine lenI fun _=>bcN ?_
     simp only
     have hm:∀(s:List (List Int)) (m:Bool),s.foldl (fun(m:Bool) c=>m||decide (c=(walk x.2.1 l blank)[i])) m=(m||decide ((walk x.2.1 l blank)[i]∈s)):=by
      intro s
      induction s with
      |nil=>intro m;simp
      | cons c s ih=>
        intro m
        rw[List.foldl_cons,ih,Bool.or_assoc]
        congr 1
        by_cases he:c=(walk x.2.1 l blank)[i]
        · simp[he]
        · have:¬ (walk x.2.1 l blank)[i]=c:=fun e=>he e.symm
          simp[he,this]
     rw[hm,Bool.false_or]
     unfold dedG at hX
     refine bc_nd (fun h4=>inI hi ⟨by simp only[maxL,List.length_nil,List.length_cons]at *;omega,?_⟩) (fun h4=>?_)
     · rw[getI hi];rw[if_neg h4]at hX;exact hX
     · rw[if_pos h4]at hX;exact hX
 · intro X _
   exact lenI fun _=>bcN rfl)
def instG (b:List Int) (t:Int):Option Int:=if 0≤t then(if (b.length:Int)≤t then none else if vVal (b.getD t.toNat 0)then some (b.getD t.toNat 0)else none)else(if vVal (-1 - t)then some (-1 - t)else none)
def instS (b:List Int) (s:List Int) (t:Int):Unit ⊕ List Int:=match instG b t with
 |none=>.inl ()
 |some v=>.inr (s++[v])
def inst (a:TFact) (b:List Int):TFact:=match runE (instS b) a.2.1 []with
 |.inl _=>zFact
 |.inr s=>(a.1,(s,()))
def instOk (a:TFact) (b:List Int):Bool:=match runE (instS b) a.2.1 []with
 |.inl _=>false
 |.inr _=>true
theorem instS_len {b:List Int}:∀ {l:List Int} {s s':List Int},runE (instS b) l s = .inr s'→s'.length=s.length+l.length
 |[],s,s',h=>by simp only[runE,Sum.inr.injEq]at h;subst h;simp
 | t::l,s,s',h=>by
   simp only[runE]at h
   unfold instS at h
   cases e:instG b t with
   |none=>rw[e]at h;simp at h
   | some v=>
     rw[e]at h
     have:=instS_len (b:=b) (l:=l) h
     simp at this ⊢
     omega
theorem inst_len {a:TFact} {b:List Int}:(inst a b).2.1.length≤a.2.1.length:=by
 unfold inst
 cases e:runE (instS b) a.2.1 []with
 |inl _=>simp
 |inr s=>have:=instS_len e;simp at this ⊢;omega
theorem inst_no {a:TFact} {b:List Int} {r:Unit} (h:runE (instS b) a.2.1 [] = .inl r):((zFact,(false,())):TFact×Bool×Unit)=(inst a b,(instOk a b,())):=by unfold inst instOk;rw[h]
theorem inst_yes {a:TFact} {b s:List Int} (h:runE (instS b) a.2.1 [] = .inr s):(((a.1,(s,())),(true,())):TFact×Bool×Unit)=(inst a b,(instOk a b,())):=by unfold inst instOk;rw[h]
theorem g_iInstantiate {a:TFact} {b:List Int} (hl:a.2.1.length≤1000) (hb:b.length≤1000) (ht:∀ t∈a.2.1,-10≤t∧t<5):G_iInstantiate a b (inst a b) (instOk a b):=M_iInstantiate _ _ _ _ (by
 unfold S_iInstantiate
 refine lenI fun _=>loop_run a.2.1 (instS b) [] (fun i s=>((i:Int),(zFact,((a.1,(s,())),())))) (KR:=fun _=>((zFact,(false,())):TFact×Bool×Unit)=(inst a b,(instOk a b,()))) ?_ ?_ (fun r hr=>inst_no hr)
 · intro i hi s X hr h1 h2
   have hs:=instS_len hr
   have htr:=ht _ (List.getElem_mem hi)
   refine bcI hi (inI hi ?_)
   simp only
   rw[getI hi,w64_succ (by omega)]
   unfold instS instG at h1 h2
   rw[List.length_take,List.length_nil]at hs
   refine bc_dec (fun h3=>lenI fun _=>bc_dec (fun h4=>?_) (fun h4=>⟨⟨by omega,by omega⟩,_,g_iIsValidValue,bc_not (fun h5=>?_) (fun h5=>⟨by simp only[maxL,List.length_cons,List.length_nil];omega,?_⟩)⟩)) (fun h3=>⟨_,g_iIsValidValue,?_⟩)
   · exact h1 () (by rw[if_pos (by omega),if_pos (by omega)])
   · exact h1 () (by rw[if_pos (by omega),if_neg (by omega),h5];rfl)
   · exact h2 _ (by rw[if_pos (by omega),if_neg (by omega),h5];rfl)
   · rw[w64_id (by omega) (by omega)]
     refine bc_not (fun h5=>?_) (fun h5=>⟨by simp only[maxL,List.length_cons,List.length_nil];omega,?_⟩)
     · exact h1 () (by rw[if_neg (by omega),h5];rfl)
     · exact h2 _ (by rw[if_neg (by omega),h5];rfl)
 · intro s X hr
   exact bcN (inst_yes hr))
theorem g_sInstantiate {a:TFact} {b:List Int} (hl:a.2.1.length≤1000) (hb:b.length≤1000) (ht:∀ t∈a.2.1,-10≤t∧t<5):G_sInstantiate a b (inst a b) (instOk a b):=M_sInstantiate _ _ _ _ (by
 unfold S_sInstantiate
 refine loop_run a.2.1 (instS b) [] (fun i s=>((i:Int),(zFact,((a.1,(s,())),())))) (KR:=fun _=>((zFact,(false,())):TFact×Bool×Unit)=(inst a b,(instOk a b,()))) ?_ ?_ (fun r hr=>inst_no hr)
 · intro i hi s X hr h1 h2
   have hs:=instS_len hr
   have htr:=ht _ (List.getElem_mem hi)
   refine lenI fun _=>bcI hi (inI hi (inI hi ?_))
   simp only
   rw[getI hi,w64_succ (by omega)]
   unfold instS instG at h1 h2
   rw[List.length_take,List.length_nil]at hs
   refine bc_dec (fun h3=>inI hi (lenI fun _=>bc_dec (fun h4=>?_) (fun h4=>inI hi ⟨⟨by omega,by omega⟩,_,g_sIsValidValue,bc_not (fun h5=>?_) (fun h5=>inI hi (bc_dec (fun h6=>by omega) (fun h6=>⟨by simp only[maxL,List.length_cons,List.length_nil];omega,?_⟩)))⟩))) (fun h3=>⟨_,g_sIsValidValue,?_⟩)
   · exact h1 () (by rw[if_pos (by omega),if_pos (by omega)])
   · exact h1 () (by rw[if_pos (by omega),if_neg (by omega),h5];rfl)
   · exact h2 _ (by rw[if_pos (by omega),if_neg (by omega),h5];rfl)
   · rw[w64_id (by omega) (by omega)]
     refine bc_not (fun h5=>?_) (fun h5=>inI hi (bc_dec (fun _=>bc_dec (fun h6=>by omega) (fun _=>⟨by simp only[maxL,List.length_cons,List.length_nil];omega,?_⟩)) (fun h6=>by omega)))
     · exact h1 () (by rw[if_neg (by omega),h5];rfl)
     · exact h2 _ (by rw[if_neg (by omega),h5];rfl)
 · intro s X hr
   exact lenI fun _=>bcN (inst_yes hr))
theorem g_iNullValue {k:Int} (h0:0≤k) (h1:k≤1000000):G_iNullValue k (-1 - k):=M_iNullValue _ _ (by unfold S_iNullValue;rw[w64_id (by omega) (by omega)])
theorem g_sNullValue {k:Int} (h0:0≤k) (h1:k≤1000000):G_sNullValue k (-1 - k):=M_sNullValue _ _ (by unfold S_sNullValue;rw[w64_id (by omega) (by omega)])
theorem any_dec {α:Type} [BEq α] [LawfulBEq α] [DecidableEq α] {l:List α} {b:α}:(l.any fun t=>decide (t=b))=decide (b∈l):=by
 rw[←any_mem]
 congr 1;funext t
 by_cases h:t=b
 · simp[h]
 · have:¬ b=t:=fun e=>h e.symm
   simp[h,this]
theorem g_ihasFact {l:List TFact} {f:TFact}:G_ihasFact l f (decide (f∈l)):=M_ihasFact _ _ _ (by
 unfold S_ihasFact
 refine⟨_,g_slices_ContainsFunc_Fact_c_ihasFact_1 (fun t=>decide (t=f)) (fun t _=>M_ihasFact_1 _ _ _ ⟨_,g_isameFact,rfl⟩),?_⟩
 rw[any_dec])
def place (l:List TFact) (f:TFact):Int:=if firstAt (fun x=>decide (x=f)) l<l.length then(firstAt (fun x=>decide (x=f)) l:Int)else -1
theorem place_ge {l:List TFact} {f:TFact}:decide (place l f≥0)=decide (f∈l):=by
 have:=idx_ge (fun x=>decide (x=f)) l
 rw[any_dec]at this
 exact this
theorem cmp_dec {x f:TFact}:(cmpF x f == (0:Int))=decide (x=f):=by
 by_cases h:x=f
 · rw[cmpF_zero.mpr h];simp[h]
 · have:cmpF x f≠0:=fun e=>h (cmpF_zero.mp e)
   simp[h,this]
theorem g_sl5Place {x:TInst} {f:TFact}:G_sl5Place x f (place x.2.1 f):=M_sl5Place _ _ _ (by
 unfold S_sl5Place
 refine loop_first x.2.1 (fun t=>decide (t=f)) (fun i=>((i:Int),())) (KT:=fun i=>(((i:Int),()):Int×Unit)=(place x.2.1 f,())) (KF:=(((-1:Int),()):Int×Unit)=(place x.2.1 f,())) ?_ ?_ ?_ ?_
 · intro i hi X h1 h2
   refine lenI fun _=>bcI hi (inI hi ⟨_,g_sCompareFacts,?_⟩)
   simp only
   rw[getI hi,cmp_dec,w64_succ (by omega)]
   exact bc_if h1 h2
 · intro X h;exact lenI fun _=>bcN h
 · intro h;unfold place;rw[if_pos h]
 · intro h;unfold place;rw[if_neg (by omega)])
theorem cmpL_trans:∀ {x y z:List Int},cmpL x y<0→cmpL y z<0→cmpL x z<0
 |[],[],z,h,_=>by simp[cmpL]at h
 |[],b::y,[],_,h=>by simp[cmpL]at h
 |[],b::y,c::z,_,_=>by simp[cmpL]
 |a::x,[],z,h,_=>by simp[cmpL]at h
 |a::x,b::y,[],_,h=>by simp[cmpL]at h
 | a::x,b::y,c::z,h1,h2=>by
   simp only[cmpL]at h1 h2 ⊢
   have ih:=cmpL_trans (x:=x) (y:=y) (z:=z)
   split at h1
   · split at h2
     · rw[if_pos (by omega)];omega
     · split at h2
       · omega
       · rw[if_pos (by omega)];omega
   · split at h1
     · omega
     · split at h2
       · rw[if_pos (by omega)];omega
       · split at h2
         · omega
         · rw[if_neg (by omega),if_neg (by omega)];exact ih h1 h2
theorem cmpF_trans {x y z:TFact} (h1:cmpF x y<0) (h2:cmpF y z<0):cmpF x z<0:=by
 unfold cmpF at *
 split at h1
 · split at h2
   · rw[if_pos (by omega)];omega
   · split at h2
     · omega
     · rw[if_pos (by omega)];omega
 · split at h1
   · omega
   · split at h2
     · rw[if_pos (by omega)];omega
     · split at h2
       · omega
       · rw[if_neg (by omega),if_neg (by omega)];exact cmpL_trans h1 h2
def asc (l:List TFact):Prop:=∀ i j (hj:j<l.length) (hij:i<j),cmpF (l[i]'(by omega)) l[j]<0
theorem vInst_asc {x:TInst} (h:vInst x=true):asc x.2.1:=by
 have step:∀ i (hi:i+1<x.2.1.length),cmpF (x.2.1[i]'(by omega)) x.2.1[i+1]<0:=by
  intro i hi
  unfold vInst at h
  simp only[Bool.and_eq_true]at h
  have:=List.all_eq_true.mp h.2 (i+1) (by simpa using hi)
  unfold factOk at this
  simp only[Bool.and_eq_true]at this
  have:=this.1.2
  rw[show(i+1 == 0)=false by simp,Bool.false_or]at this
  have h:=of_decide_eq_true this
  rw[Nat.add_sub_cancel,factAt_get (by omega),factAt_get hi]at h
  exact h
 have all:∀ k i (hk:i+1+k<x.2.1.length),cmpF (x.2.1[i]'(by omega)) x.2.1[i+1+k]<0:=by
  intro k
  induction k with
  |zero=>intro i hk;exact step i hk
  |succ k ih=>intro i hk;exact cmpF_trans (ih i (by omega)) (step (i+1+k) hk)
 intro i j hj hij
 obtain⟨k,rfl⟩:∃ k,j=i+1+k:=⟨j - i - 1,by omega⟩
 exact all k i hj
theorem foldl_snoc {α β:Type} (f:α→β):∀(l:List α) (s:List β),l.foldl (fun out a=>out++[f a]) s=s++l.map f
 |[],s=>by simp
 |a::l,s=>by rw[List.foldl_cons,foldl_snoc f l];simp
theorem loop_rangeB {σ τ:Type} {B:(τ→Prop)→τ→Prop} (n:Nat) (g:σ→Nat→σ) (s0:σ) (e:Nat→σ→τ) (μ:σ→Nat) (c N:Nat) (hN:n≤N) (hg:∀ s i,i<n→μ (g s i)≤μ s+c)
  (hs:∀ i (_:i<n) (s:σ) (X:τ→Prop),μ s≤μ s0+N * c→X (e (i+1) (g s i))→B X (e i s))
  (hf:∀ X:τ→Prop,μ ((List.range n).foldl g s0)≤μ s0+N * c→B X (e n ((List.range n).foldl g s0))):LoopP B (e 0 s0):=
 loop_foldB (List.range n) g s0 e μ c N (by simpa using hN) (fun s a ha=>hg s a (List.mem_range.mp ha)) (fun i h s X hs' hX=>hs i (by simpa using h) s X hs' (by simpa using hX)) (fun X h=>by simpa using hf X h)
theorem flat_le {f:TFact}:∀ {l:List TFact},f∈l→f.2.1.length≤(l.flatMap (·.2.1)).length
 | a::l,h=>by
   rw[List.flatMap_cons,List.length_append]
   rcases List.mem_cons.mp h with rfl|h
   · omega
   · have:=flat_le h;omega
theorem fact_args {x:TInst} (h:vInst x=true) {f:TFact} (hf:f∈x.2.1):f.2.1.length≤1099511627776:=by
 have:=vInst_flat h
 have:=flat_le hf
 omega
theorem g_sl5Copy {x:TInst} (h1:x.1.length≤1099511627776) (hl:x.2.1.length≤1073741824) (h:∀ f∈x.2.1,f.2.1.length≤1099511627776):G_sl5Copy x x:=M_sl5Copy _ _ (by
 unfold S_sl5Copy
 refine⟨by simp only[maxL,List.length_nil];omega,?_⟩
 rw[List.nil_append]
 refine loop_copy x.2.1 (fun i s=>((i:Int),((x.1,(s,())),()))) hl ?_ ?_
 · intro i hi s X hs hX
   refine lenI fun _=>bcI hi (inI hi ⟨x.2.1[i],?_,⟨by simp only[maxL,List.length_cons,List.length_nil];omega,?_⟩⟩)
   · simp only;rw[getI hi];exact g_sl5Fact (h _ (List.getElem_mem hi))
   · simp only;rw[w64_succ (by omega)];exact hX
 · intro X;exact lenI fun _=>bcN rfl)
theorem g_iinstanceCopy {x:TInst} (h1:x.1.length≤1099511627776) (hl:x.2.1.length≤1073741824) (h:∀ f∈x.2.1,f.2.1.length≤1099511627776):G_iinstanceCopy x x:=M_iinstanceCopy _ _ (by
 unfold S_iinstanceCopy
 exact⟨_,g_slices_Clone_Relation h1,_,g_ifactsCopy hl h,rfl⟩)
def iAt (l:List Int) (i:Nat):Int:=l.getD i 0
theorem iAt_get {l:List Int} {i:Nat} (h:i<l.length):iAt l i=l[i]:=getD_at h
theorem cmpL_anti:∀ {x y:List Int},cmpL y x = - cmpL x y
 |[],[]=>rfl
 |[],b::y=>rfl
 |a::x,[]=>rfl
 | a::x,b::y=>by
   simp only[cmpL]
   have:=cmpL_anti (x:=x) (y:=y)
   split<;>split<;>first|omega|(rw[this])|skip
theorem cmpF_anti {x y:TFact}:cmpF y x = - cmpF x y:=by
 unfold cmpF
 have:=cmpL_anti (x:=x.2.1) (y:=y.2.1)
 split<;>split<;>first|omega|(rw[this])|skip
theorem asc_pw {l:List TFact}:asc l↔l.Pairwise fun a b=>cmpF a b<0:=by
 rw[List.pairwise_iff_getElem]
 exact⟨fun h i j hi hj hij=>h i j hj hij,fun h i j hj hij=>h i j (by omega) hj hij⟩
theorem pw_ext:∀ {a b:List TFact},(a.Pairwise fun a b=>cmpF a b<0)→(b.Pairwise fun a b=>cmpF a b<0)→(∀ y,y∈a↔y∈b)→a=b
 |[],[],_,_,_=>rfl
 |[],b::m,_,_,h=>absurd ((h b).mpr (by simp)) (by simp)
 |a::l,[],_,_,h=>absurd ((h a).mp (by simp)) (by simp)
 | a::l,b::m,h1,h2,h=>by
   rw[List.pairwise_cons]at h1 h2
   have hab:a=b:=by
    have ha:=(h a).mp (by simp)
    have hb:=(h b).mpr (by simp)
    rcases List.mem_cons.mp ha with e|ha
    · exact e
    · rcases List.mem_cons.mp hb with e|hb
      · exact e.symm
      · have q1:=h2.1 a ha
        have q2:=h1.1 b hb
        rw[cmpF_anti]at q1
        omega
   subst hab
   congr 1
   refine pw_ext h1.2 h2.2 fun y=>⟨fun hy=>?_,fun hy=>?_⟩
   · rcases List.mem_cons.mp ((h y).mp (by simp[hy]))with e|h'
     · subst e;have:=h1.1 y hy;rw[cmpF_zero.mpr rfl]at this;omega
     · exact h'
   · rcases List.mem_cons.mp ((h y).mpr (by simp[hy]))with e|h'
     · subst e;have:=h2.1 y hy;rw[cmpF_zero.mpr rfl]at this;omega
     · exact h'
theorem asc_ext {a b:List TFact} (h1:asc a) (h2:asc b) (h:∀ y,y∈a↔y∈b):a=b:=pw_ext (asc_pw.mp h1) (asc_pw.mp h2) h
def putK (l:List TFact) (f:TFact):Nat:=firstAt (fun t=>!decide (cmpF t f<0)) l
def putF (l:List TFact) (f:TFact):List TFact:=if f∈l then l else l.take (putK l f)++f::l.drop (putK l f)
theorem putF_mem {l:List TFact} {f y:TFact}:y∈putF l f↔y∈l∨y=f:=by
 unfold putF
 split
 · rename_i h
   exact⟨.inl,fun h'=>h'.elim id fun e=>e ▸ h⟩
 · have:y∈l↔y∈l.take (putK l f)∨y∈l.drop (putK l f):=by rw[←List.mem_append,List.take_append_drop]
   rw[this,List.mem_append,List.mem_cons]
   constructor
   · rintro (h|h|h)
     · exact .inl (.inl h)
     · exact .inr h
     · exact .inl (.inr h)
   · rintro ((h|h)|h)
     · exact .inl h
     · exact .inr (.inr h)
     · exact .inr (.inl h)
theorem putF_len {l:List TFact} {f:TFact}:(putF l f).length≤l.length+1:=by
 unfold putF
 split
 · omega
 · simp only[List.length_append,List.length_cons,List.length_take,List.length_drop];omega
theorem putF_asc {l:List TFact} {f:TFact} (h:asc l):asc (putF l f):=by
 unfold putF
 split
 · exact h
 rename_i hn
 have hp:=asc_pw.mp h
 rw[asc_pw]
 have e:l=l.take (putK l f)++l.drop (putK l f):=(List.take_append_drop _ _).symm
 rw[e]at hp
 rw[List.pairwise_append]at hp ⊢
 have h1:∀ a∈l.take (putK l f),cmpF a f<0:=by
  intro a ha
  obtain⟨i,hi,rfl⟩:=List.mem_iff_getElem.mp ha
  rw[List.length_take]at hi
  have:=firstAt_lt (p:=fun t=>!decide (cmpF t f<0)) (l:=l) (i:=i) (by omega) (show i<putK l f by omega)
  rw[List.getElem_take]
  simpa using this
 have h2:∀ a∈l.drop (putK l f),cmpF f a<0:=by
  intro a ha
  have hin:putK l f<l.length:=by
   rcases Nat.lt_or_ge (putK l f) l.length with h'|h'
   · exact h'
   · rw[List.drop_of_length_le h']at ha;simp at ha
  have h3:cmpF f l[putK l f]<0:=by
   have h4:=firstAt_at (p:=fun t=>!decide (cmpF t f<0)) (l:=l) hin
   have h4:¬ cmpF l[putK l f] f<0:=by have h4:(!decide (cmpF l[putK l f] f<0))=true:=h4;simpa using h4
   have h5:cmpF l[putK l f] f≠0:=fun e=>hn ((cmpF_zero.mp e) ▸ List.getElem_mem hin)
   rw[cmpF_anti];omega
  obtain⟨i,hi,rfl⟩:=List.mem_iff_getElem.mp ha
  rw[List.getElem_drop]
  rcases Nat.eq_zero_or_pos i with rfl|h0
  · simpa using h3
  · rw[List.length_drop]at hi
    exact cmpF_trans h3 (h _ _ (by omega) (by omega))
 refine⟨hp.1,List.pairwise_cons.mpr ⟨h2,hp.2.1⟩,fun a ha b hb=>?_⟩
 rcases List.mem_cons.mp hb with rfl|hb
 · exact h1 a ha
 · exact hp.2.2 a ha b hb
def facS (l:List TFact):List TFact:=l.foldl putF []
theorem foldF_asc:∀ {l m:List TFact},asc m→asc (l.foldl putF m)
 |[],m,h=>h
 |a::l,m,h=>foldF_asc (l:=l) (putF_asc h)
theorem foldF_mem:∀ {l m:List TFact} {y:TFact},y∈l.foldl putF m↔y∈m∨y∈l
 |[],m,y=>by simp
 | a::l,m,y=>by
   rw[List.foldl_cons,foldF_mem (l:=l),putF_mem,List.mem_cons]
   constructor
   · rintro ((h|h)|h)
     · exact .inl h
     · exact .inr (.inl h)
     · exact .inr (.inr h)
   · rintro (h|h|h)
     · exact .inl (.inl h)
     · exact .inl (.inr h)
     · exact .inr h
theorem foldF_len:∀ {l m:List TFact},(l.foldl putF m).length≤m.length+l.length
 |[],m=>by simp
 | a::l,m=>by
   have:=foldF_len (l:=l) (m:=putF m a)
   have:=putF_len (l:=m) (f:=a)
   rw[List.foldl_cons,List.length_cons];omega
theorem asc_nil:asc []:=fun i j hj _=>by simp at hj
theorem facS_asc (l:List TFact):asc (facS l):=foldF_asc asc_nil
theorem facS_mem {l:List TFact} {y:TFact}:y∈facS l↔y∈l:=by unfold facS;rw[foldF_mem];simp
theorem facS_of {a l:List TFact} (h1:asc a) (h2:∀ y,y∈a↔y∈l):a=facS l:=asc_ext h1 (facS_asc l) fun y=>by rw[h2,facS_mem]
theorem facS_app {l m:List TFact} (h:asc l):m.foldl putF l=facS (l++m):=facS_of (foldF_asc h) fun y=>by rw[foldF_mem,List.mem_append]
theorem facS_len {l:List TFact}:(facS l).length≤l.length:=by have:=foldF_len (l:=l) (m:=[]);simpa [facS]using this
def ddF (l:List TFact):Nat→List TFact
 |0=>[]
 |n+1=>if n=0∨factAt l n≠factAt l (n - 1)then ddF l n++[factAt l n] else ddF l n
theorem ddF_set {l:List TFact} (hs:l.Pairwise fun a b=>cmpF a b≤0):∀ {n:Nat},n≤l.length→asc (ddF l n)∧∀ y,y∈ddF l n↔y∈l.take n
 |0,_=>⟨asc_nil,fun y=>by simp[ddF]⟩
 | n+1,h=>by
   obtain⟨h1,h2⟩:=ddF_set hs (n:=n) (by omega)
   have hn:n<l.length:=by omega
   unfold ddF
   rw[take_succ_snoc hn,factAt_get hn]
   have hle:∀ i j (hj:j<l.length) (hij:i<j),cmpF (l[i]'(by omega)) l[j]≤0:=fun i j hj hij=>List.pairwise_iff_getElem.mp hs i j (by omega) hj hij
   split
   · rename_i hc
     refine⟨?_,fun y=>by rw[List.mem_append,List.mem_append,h2]⟩
     rw[asc_pw,List.pairwise_append]
     refine⟨asc_pw.mp h1,by simp,fun a ha b hb=>?_⟩
     obtain rfl:b=l[n]:=by simpa using hb
     obtain⟨i,hi,rfl⟩:=List.mem_iff_getElem.mp ((h2 a).mp ha)
     rw[List.length_take]at hi
     rw[List.getElem_take]
     rcases hc with hc|hc
     · omega
     · rw[factAt_get (by omega)]at hc
       have g1:=hle (n - 1) n hn (by omega)
       have g2:cmpF l[n - 1] l[n]≠0:=fun e=>hc (cmpF_zero.mp e).symm
       rcases Nat.lt_or_ge i (n - 1)with h'|h'
       · have g3:=hle i (n - 1) (by omega) h'
         by_cases h0:cmpF l[i] l[n - 1]=0
         · rw[cmpF_zero.mp h0];omega
         · exact cmpF_trans (by omega:cmpF l[i] l[n - 1]<0) (by omega)
       · have:i=n - 1:=by omega
         subst this;omega
   · rename_i hc
     refine⟨h1,fun y=>?_⟩
     rw[h2,List.mem_append]
     refine⟨.inl,fun h'=>h'.elim id fun e=>?_⟩
     have h0:n≠0:=fun e=>hc (.inl e)
     have he:l[n]=factAt l (n - 1):=Classical.byContradiction fun h=>hc (.inr h)
     rw[factAt_get (by omega)]at he
     have:y=l[n - 1]:=by simpa [he]using e
     subst this
     exact List.mem_iff_getElem.mpr ⟨n - 1,by rw[List.length_take];omega,by rw[List.getElem_take]⟩
def subAt (s:TSub) (i:Nat):Bool:=inR (iAt s.1 i) 0 39&&(i == 0||decide (iAt s.1 (i - 1)<iAt s.1 i))&&vVal (iAt s.2.1 i)
def vSub (s:TSub):Bool:=(s.1.length == s.2.1.length)&&(List.range s.1.length).all (subAt s)
theorem vSub_len {s:TSub} (h:vSub s=true):s.1.length=s.2.1.length:=by unfold vSub at h;simp only[Bool.and_eq_true,beq_iff_eq]at h;exact h.1
theorem vSub_at {s:TSub} (h:vSub s=true) {i:Nat} (hi:i<s.1.length):subAt s i=true:=by
 unfold vSub at h
 rw[Bool.and_eq_true]at h
 exact List.all_eq_true.mp h.2 i (List.mem_range.mpr hi)
theorem vSub_nul {s:TSub} (h:vSub s=true) {k:Int} (hk:k∈s.1):0≤k∧k≤39:=by
 obtain⟨i,hi,rfl⟩:=List.mem_iff_getElem.mp hk
 have:=vSub_at h hi
 unfold subAt at this
 rw[iAt_get hi]at this
 simp only[Bool.and_eq_true]at this
 exact inR_iff.mp this.1.1
theorem vSub_no {s:TSub} {i:Nat} (hi:i<s.1.length) (h:subAt s i=false):vSub s=false:=by
 rw[Bool.eq_false_iff]
 intro h'
 rw[vSub_at h' hi]at h;cases h
theorem vSub_yes {s:TSub} (hl:s.1.length=s.2.1.length) (h:∀ i,i<s.1.length→subAt s i=true):vSub s=true:=by
 unfold vSub
 rw[List.all_eq_true.mpr fun i hi=>h i (List.mem_range.mp hi)]
 simp[hl]
def subV (s:TSub) (v:Int):Int:=if vSub s then(if firstAt (fun k=>decide (-1 - k=v)) s.1<s.1.length then iAt s.2.1 (firstAt (fun k=>decide (-1 - k=v)) s.1)else v)else v
def subF (s:TSub) (f:TFact):TFact:=(f.1,(f.2.1.map (subV s),()))
def subI (s:TSub) (x:TInst):TInst:=(x.1,(facS (x.2.1.map (subF s)),()))
def appI (s:TSub) (x:TInst):TInst:=if vSub s&&vInst x then subI s x else([],([],()))
theorem subI_len {s:TSub} {x:TInst}:(subI s x).2.1.length≤x.2.1.length:=by
 unfold subI
 have:=facS_len (l:=x.2.1.map (subF s))
 simpa using this
theorem subAt_split {s:TSub} {i:Nat} (hi:i<s.1.length) (h1:inR s.1[i] 0 39=true) (h2:0<i→iAt s.1 (i - 1)<s.1[i]):subAt s i=vVal (iAt s.2.1 i):=by
 unfold subAt
 rw[iAt_get hi,h1]
 have:(i == 0||decide (iAt s.1 (i - 1)<s.1[i]))=true:=by
  rcases Nat.eq_zero_or_pos i with h|h
  · simp[h]
  · rw[decide_eq_true (h2 h)];simp
 rw[this];rfl
theorem subAt_no1 {s:TSub} {i:Nat} (hi:i<s.1.length) (h:inR s.1[i] 0 39=false):subAt s i=false:=by
 unfold subAt;rw[iAt_get hi,h];rfl
theorem subAt_no2 {s:TSub} {i:Nat} (hi:i<s.1.length) (h0:0<i) (h:s.1[i]≤s.1[i - 1]):subAt s i=false:=by
 unfold subAt
 rw[iAt_get hi,iAt_get (by omega),decide_eq_false (by omega)]
 have:(i == 0)=false:=by simp;omega
 rw[this];simp
theorem g_sIsValidSubstitution {s:TSub}:G_sIsValidSubstitution s (vSub s):=M_sIsValidSubstitution _ _ (by
 unfold S_sIsValidSubstitution
 have no:vSub s=false→((false,()):Bool×Unit)=(vSub s,()):=fun h=>by rw[h]
 refine lenI fun _=>lenI fun _=>bc_ne (fun h=>no (by unfold vSub;rw[beq_eq_false_iff_ne.mpr (by omega)];rfl)) (fun hl=>?_)
 have hl:s.1.length=s.2.1.length:=by omega
 refine loop_anyI s.1.length (fun i=>!subAt s i) (fun i=>((i:Int),())) (KT:=vSub s=false) (KF:=vSub s=true) ?_ ?_ ?_ ?_
 · intro i hi X hb q1 q2
   have qn:subAt s i=false→((false,()):Bool×Unit)=(vSub s,()):=fun h=>no (q1 (by rw[h];rfl))
   have qy:subAt s i=true→X (((i+1:Nat):Int),()):=fun h=>q2 (by rw[h];rfl)
   have hi':i<s.2.1.length:=by omega
   refine lenI fun hlen=>bcI hi (inI hi ⟨_,g_sl1In,?_⟩)
   simp only
   rw[getI hi,w64_succ (by omega)]
   refine bc_not (fun h=>qn (subAt_no1 hi h)) (fun h1=>bc_dec (fun h0=>?_) (fun h0=>inI hi' ⟨_,g_sIsValidValue,?_⟩))
   · have hw:w64 ((i:Int) - 1)=((i - 1:Nat):Int):=by rw[w64_id (by omega) (by omega)];omega
     have hj:i - 1<s.1.length:=by omega
     rw[hw]
     refine inI hi (inI hj ?_)
     rw[getI hj]
     refine bc_dec (fun h=>qn (subAt_no2 hi (by omega) h)) (fun h=>inI hi' ⟨_,g_sIsValidValue,?_⟩)
     rw[getI hi']
     have e:=subAt_split hi h1 (fun _=>by rw[iAt_get hj];omega)
     rw[iAt_get hi']at e
     exact bc_not (fun h=>qn (e.trans h)) (fun h=>qy (e.trans h))
   · rw[getI hi']
     have e:=subAt_split hi h1 (fun _=>by omega)
     rw[iAt_get hi']at e
     exact bc_not (fun h=>qn (e.trans h)) (fun h=>qy (e.trans h))
 · intro X h
   exact lenI fun _=>bcN (by rw[h])
 · rintro⟨i,hi,hp⟩;exact vSub_no hi (nt hp)
 · intro h;exact vSub_yes hl fun i hi=>nf (h i hi))
theorem g_iIsValidSubstitution {s:TSub}:G_iIsValidSubstitution s (vSub s):=M_iIsValidSubstitution _ _ (by
 unfold S_iIsValidSubstitution
 have no:vSub s=false→((false,()):Bool×Unit)=(vSub s,()):=fun h=>by rw[h]
 refine lenI fun _=>lenI fun _=>bc_ne (fun h=>no (by unfold vSub;rw[beq_eq_false_iff_ne.mpr (by omega)];rfl)) (fun hl=>lenI fun _=>?_)
 have hl:s.1.length=s.2.1.length:=by omega
 refine loop_anyI s.1.length (fun i=>!subAt s i) (fun i=>((i:Int),())) (KT:=vSub s=false) (KF:=vSub s=true) ?_ ?_ ?_ ?_
 · intro i hi X hb q1 q2
   have qn:subAt s i=false→((false,()):Bool×Unit)=(vSub s,()):=fun h=>no (q1 (by rw[h];rfl))
   have qy:subAt s i=true→X (((i+1:Nat):Int),()):=fun h=>q2 (by rw[h];rfl)
   have hi':i<s.2.1.length:=by omega
   refine bcI hi (inI hi ⟨_,g_iwithin,?_⟩)
   simp only
   rw[getI hi,w64_succ (by omega)]
   refine bc_not (fun h=>qn (subAt_no1 hi h)) (fun h1=>bc_dec (fun h0=>?_) (fun h0=>inI hi' ⟨_,g_iIsValidValue,?_⟩))
   · have hw:w64 ((i:Int) - 1)=((i - 1:Nat):Int):=by rw[w64_id (by omega) (by omega)];omega
     have hj:i - 1<s.1.length:=by omega
     rw[hw]
     refine inI hj ?_
     rw[getI hj]
     refine bc_dec (fun h=>qn (subAt_no2 hi (by omega) h)) (fun h=>inI hi' ⟨_,g_iIsValidValue,?_⟩)
     rw[getI hi']
     have e:=subAt_split hi h1 (fun _=>by rw[iAt_get hj];omega)
     rw[iAt_get hi']at e
     exact bc_not (fun h=>qn (e.trans h)) (fun h=>qy (e.trans h))
   · rw[getI hi']
     have e:=subAt_split hi h1 (fun _=>by omega)
     rw[iAt_get hi']at e
     exact bc_not (fun h=>qn (e.trans h)) (fun h=>qy (e.trans h))
 · intro X h
   exact bcN (by rw[h])
 · rintro⟨i,hi,hp⟩;exact vSub_no hi (nt hp)
 · intro h;exact vSub_yes hl fun i hi=>nf (h i hi))
theorem subV_no {s:TSub} {v:Int} (h:vSub s=false):subV s v=v:=by unfold subV;rw[h];rfl
theorem g_sApplyToValue {s:TSub} {v:Int}:G_sApplyToValue s v (subV s v):=M_sApplyToValue _ _ _ (by
 unfold S_sApplyToValue
 refine loop_first s.1 (fun k=>decide (-1 - k=v)) (fun i=>((i:Int),())) (KT:=fun i=>vSub s=true→((iAt s.2.1 i,()):Int×Unit)=(subV s v,())) (KF:=vSub s=true→((v,()):Int×Unit)=(subV s v,())) ?_ ?_ ?_ ?_
 · intro i hi X h1 h2
   refine lenI fun _=>bcI hi ⟨_,g_sIsValidSubstitution,bc_if (fun hv=>inI hi ⟨-1 - s.1[i],?_,?_⟩) (fun hv=>by rw[subV_no hv])⟩
   · simp only
     rw[getI hi]
     have:=vSub_nul hv (List.getElem_mem hi)
     exact g_sNullValue (by omega) (by omega)
   · simp only
     rw[w64_succ (by omega)]
     have hl:=vSub_len hv
     have hi':i<s.2.1.length:=by omega
     refine bc_beq (fun h=>inI hi' ?_) (fun h=>h2 (decide_eq_false h))
     rw[getI hi',←iAt_get hi']
     exact h1 (decide_eq_true h) hv
 · intro X h
   refine lenI fun _=>bcN ?_
   by_cases hv:vSub s=true
   · exact h hv
   · rw[subV_no (by simpa using hv)]
 · intro h hv;unfold subV;rw[hv,if_pos rfl,if_pos h]
 · intro h hv;unfold subV;rw[hv,if_pos rfl,if_neg (by omega)])
theorem firstAt_congr {α:Type} {p q:α→Bool}:∀ {l:List α},(∀ a∈l,p a=q a)→firstAt p l=firstAt q l
 |[],_=>rfl
 | a::l,h=>by
   unfold firstAt
   rw[h a (by simp),firstAt_congr (l:=l) fun b hb=>h b (by simp[hb])]
theorem g_iApplyToValue {s:TSub} {v:Int}:G_iApplyToValue s v (subV s v):=M_iApplyToValue _ _ _ (by
 unfold S_iApplyToValue
 refine⟨_,_,g_iNullNumber,_,g_slices_Index_int,bc_not (fun hn=>?_) (fun hn=>?_)⟩
 · by_cases hv:vSub s=true
   · unfold subV
     rw[hv,if_pos rfl,if_neg]
     intro h
     have:=firstAt_at h
     simp only[decide_eq_true_eq]at this
     have h2:=vSub_nul hv (List.getElem_mem h)
     rw[isNul_iff.mpr ⟨by omega,by omega⟩]at hn;cases hn
   · rw[subV_no (by simpa using hv)]
 · have hk:nulNo v = -1 - v:=by unfold nulNo;rw[if_pos hn]
   have e:firstAt (fun k=>decide (-1 - k=v)) s.1=firstAt (fun t=>nulNo v == t) s.1:=firstAt_congr fun k _=>by
    rw[hk,Bool.eq_iff_iff];simp;omega
   refine bc_dec (fun h=>?_) (fun h=>⟨_,g_iIsValidSubstitution,bc_not (fun hv=>by rw[subV_no hv]) (fun hv=>?_)⟩)
   · by_cases hv:vSub s=true
     · unfold subV
       rw[hv,if_pos rfl,e]
       rw[if_neg]
       intro h'
       rw[if_pos h']at h
       omega
     · rw[subV_no (by simpa using hv)]
   · have hl:=vSub_len hv
     have hlt:firstAt (fun t=>nulNo v == t) s.1<s.1.length:=by
      rcases Nat.lt_or_ge (firstAt (fun t=>nulNo v == t) s.1) s.1.length with h'|h'
      · exact h'
      · rw[if_neg (by omega)]at h;omega
     have hlt2:firstAt (fun t=>nulNo v == t) s.1<s.2.1.length:=by omega
     rw[if_pos hlt]
     refine inI hlt2 ?_
     rw[getI hlt2,←iAt_get hlt2]
     unfold subV
     rw[hv,if_pos rfl,e,if_pos hlt])
theorem g_sApplyToFact {s:TSub} {f:TFact} (hl:f.2.1.length≤1000):G_sApplyToFact s f (subF s f):=M_sApplyToFact _ _ _ (by
 unfold S_sApplyToFact
 refine loopP_of f.2.1.length (fun i=>((i:Int),((f.1,((f.2.1.take i).map (subV s),())),()))) (by simp) ?_ ?_
 · intro i hi X hX
   refine lenI fun _=>bcI hi (inI hi ⟨_,g_sApplyToValue,?_,?_⟩)
   · simp only[maxL,List.length_map,List.length_take,List.length_cons,List.length_nil];omega
   · simp only
     rw[getI hi,w64_succ (by omega)]
     rw[take_succ_snoc hi,List.map_append]at hX
     exact hX
 · intro X
   refine lenI fun _=>bcN ?_
   simp only[List.take_length]
   rfl)
theorem map_set {α:Type} {g:α→α} {l:List α} {i:Nat} (hi:i<l.length):((l.take i).map g++l.drop i).set i (g l[i])=(l.take (i+1)).map g++l.drop (i+1):=by
 have h:((l.take i).map g).length=i:=by simp;omega
 rw[List.set_append,if_neg (by omega),h,Nat.sub_self,drop_cons hi,List.set_cons_zero,take_succ_snoc hi,List.map_append,List.append_assoc];rfl
theorem g_iApplyToFact {s:TSub} {f:TFact} (hl:f.2.1.length≤1000):G_iApplyToFact s f (subF s f):=M_iApplyToFact _ _ _ (by
 unfold S_iApplyToFact
 refine⟨f,g_ifactCopy (by omega),lenI fun _=>?_⟩
 refine loopP_of f.2.1.length (fun i=>((i:Int),((f.1,((f.2.1.take i).map (subV s)++f.2.1.drop i,())),()))) (by simp) ?_ ?_
 · intro i hi X hX
   refine bcI hi (inI hi ⟨_,g_iApplyToValue,⟨by omega,?_⟩,?_⟩)
   · simp only[List.length_append,List.length_map,List.length_take,List.length_drop];omega
   · simp only
     rw[getI hi,w64_succ (by omega),Int.toNat_natCast,map_set hi]
     exact hX
 · intro X
   refine bcN ?_
   simp only[List.take_length,List.drop_length,List.append_nil]
   rfl)
theorem g_sl5Put {x:TInst} {f:TFact} (h1:x.2.1.length≤1000) (h2:f.2.1.length≤1000):G_sl5Put x f (x.1,(putF x.2.1 f,())):=M_sl5Put _ _ _ (by
 unfold S_sl5Put
 refine⟨_,g_sl5Place,?_⟩
 rw[place_ge]
 refine bc_dec (fun h=>by unfold putF;rw[if_pos h]) (fun hn=>?_)
 have hle:putK x.2.1 f≤x.2.1.length:=firstAt_le _ _
 have key:∀ i:Nat,i=putK x.2.1 f→((0:Int)≤(i:Int)∧(i:Int)≤(x.2.1.length:Int)∧(x.2.1.length:Int)≤(x.2.1.length:Int))∧((([f]:List TFact)).length+(List.drop (Int.toNat (i:Int)) (List.take (Int.toNat (x.2.1.length:Int)) x.2.1)).length≤maxL)∧
   (([]:List TFact)++List.drop (Int.toNat (0:Int)) (List.take (Int.toNat (i:Int)) x.2.1))++([f]++List.drop (Int.toNat (i:Int)) (List.take (Int.toNat (x.2.1.length:Int)) x.2.1))=putF x.2.1 f∧
   ([]:List TFact).length+(List.drop (Int.toNat (0:Int)) (List.take (Int.toNat (i:Int)) x.2.1)).length≤maxL∧
   (([]:List TFact)++List.drop (Int.toNat (0:Int)) (List.take (Int.toNat (i:Int)) x.2.1)).length+([f]++List.drop (Int.toNat (i:Int)) (List.take (Int.toNat (x.2.1.length:Int)) x.2.1)).length≤maxL:=by
  rintro i rfl
  simp only[Int.toNat_natCast,Int.toNat_zero,List.drop_zero,List.nil_append,List.take_length,maxL,List.length_cons,List.length_nil,List.length_append,List.length_drop,List.length_take]
  refine⟨⟨by omega,by omega,by omega⟩,by omega,?_,by omega,by omega⟩
  unfold putF
  rw[if_neg hn];rfl
 refine loop_first x.2.1 (fun t=>!decide (cmpF t f<0)) (fun i=>((i:Int),())) (KT:=fun i=>i=putK x.2.1 f) (KF:=putK x.2.1 f=x.2.1.length) ?_ ?_ (fun _=>rfl) (fun h=>by unfold putK;have:=firstAt_le (fun t=>!decide (cmpF t f<0)) x.2.1;omega)
 · intro i hi X q1 q2
   refine lenI fun _=>bcI hi (inI hi ⟨_,g_sCompareFacts,?_⟩)
   simp only
   rw[getI hi,w64_succ (by omega)]
   refine bc_dec (fun h=>q2 (by rw[decide_eq_true h];rfl)) (fun h=>?_)
   obtain⟨k1,k2,k3,k4,k5⟩:=key i (q1 (by rw[decide_eq_false h];rfl))
   refine⟨k1,f,g_sl5Fact (by omega),k2,⟨by omega,by omega,by omega⟩,k4,k5,?_⟩
   show((x.1,((([]:List TFact)++List.drop (Int.toNat (0:Int)) (List.take (Int.toNat (i:Int)) x.2.1))++([f]++List.drop (Int.toNat (i:Int)) (List.take (Int.toNat (x.2.1.length:Int)) x.2.1)),())),())=((x.1,(putF x.2.1 f,())),())
   rw[k3]
 · intro X h
   obtain⟨k1,k2,k3,k4,k5⟩:=key x.2.1.length h.symm
   refine lenI fun _=>bcN ⟨k1,f,g_sl5Fact (by omega),k2,⟨by omega,by simp only;omega,by simp only;omega⟩,k4,k5,?_⟩
   show((x.1,((([]:List TFact)++List.drop (Int.toNat (0:Int)) (List.take (Int.toNat (x.2.1.length:Int)) x.2.1))++([f]++List.drop (Int.toNat (x.2.1.length:Int)) (List.take (Int.toNat (x.2.1.length:Int)) x.2.1)),())),())=((x.1,(putF x.2.1 f,())),())
   rw[k3])
theorem g_sApplyToInstance {s:TSub} {x:TInst}:G_sApplyToInstance s x (appI s x) (vSub s&&vInst x):=M_sApplyToInstance _ _ _ _ (by
 unfold S_sApplyToInstance
 refine⟨_,g_sIsValidSubstitution,bc_not (fun h=>by unfold appI;rw[h];rfl) (fun h1=>⟨_,g_sIsValidInstance,bc_not (fun h=>by unfold appI;rw[h1,h];rfl) (fun h2=>?_)⟩)⟩
 have hr:=vRels_len (vInst_rels h2)
 have hf:=vInst_len h2
 refine⟨by simp only[maxL,List.length_nil];omega,?_⟩
 rw[List.nil_append]
 have hlen:∀ i,((x.2.1.take i).map (subF s)).foldl putF []=facS ((x.2.1.take i).map (subF s)):=fun i=>rfl
 have hfl:∀ i,(facS ((x.2.1.take i).map (subF s))).length≤30:=fun i=>by
  have:=facS_len (l:=(x.2.1.take i).map (subF s))
  rw[List.length_map,List.length_take]at this
  omega
 have hrow:∀ f∈x.2.1,(subF s f).2.1.length≤3:=fun f hm=>by
  have:=(vRow_spec (vInst_fact h2 hm)).2.2.2.2.1
  unfold subF;simpa using this
 refine loopP_of x.2.1.length (fun i=>((i:Int),((x.1,(facS ((x.2.1.take i).map (subF s)),())),()))) (by simp[facS]) ?_ ?_
 · intro i hi X hX
   have:=hfl i
   have h3:=hrow _ (List.getElem_mem hi)
   have h4:=(vRow_spec (vInst_fact h2 (List.getElem_mem hi))).2.2.2.2.1
   refine lenI fun _=>bcI hi (inI hi ⟨subF s x.2.1[i],?_,_,g_sl5Put (by simp only;omega) (by simp only;omega),?_⟩)
   · simp only;rw[getI hi];exact g_sApplyToFact (by omega)
   · simp only
     rw[w64_succ (by omega)]
     rw[take_succ_snoc hi,List.map_append]at hX
     unfold facS at hX ⊢
     rw[List.foldl_append]at hX
     exact hX
 · intro X
   have h5:=hfl x.2.1.length
   refine lenI fun _=>bcN ⟨_,g_sl5Copy (by simp only;omega) (by simp only;omega) (fun f hm=>?_),?_⟩
   · have hm:f∈facS ((x.2.1.take x.2.1.length).map (subF s)):=hm
     obtain⟨g,hg,rfl⟩:=List.mem_map.mp (facS_mem.mp hm)
     have:=hrow g (List.mem_of_mem_take hg)
     omega
   · simp only[List.take_length]
     unfold appI subI
     rw[h1,h2];rfl)
theorem g_sNextNull {x:TInst}:G_sNextNull x (nextN x):=M_sNextNull _ _ (by
 unfold S_sNextNull
 have hf:=nulI_few x
 refine⟨_,g_sNullsOfInstance,lenI fun _=>bc_beq (fun h=>?_) (fun h=>lenI fun _=>?_)⟩
 · have:nulI x=[]:=List.length_eq_zero_iff.mp (by omega)
   unfold nextN;rw[this];rfl
 · have hw:w64 ((nulI x).length - 1:Int)=(((nulI x).length - 1:Nat):Int):=by rw[w64_id (by omega) (by omega)];omega
   rw[hw]
   have hlt:(nulI x).length - 1<(nulI x).length:=by omega
   refine inI hlt ?_
   rw[getI hlt]
   have hne:nulI x≠[]:=by intro e;rw[e]at h;simp at h
   have hr:0≤(nulI x)[(nulI x).length - 1]∧(nulI x)[(nulI x).length - 1]<0+(40:Nat):=by
    have:=nulls_range (l:=x.2.1.flatMap (·.2.1)) ((nulI x)[(nulI x).length - 1]) (by rw[nulls_flat];exact List.getElem_mem hlt)
    exact this
   rw[w64_id (by omega) (by omega)]
   unfold nextN
   rw[List.getLast?_eq_some_getLast hne,List.getLast_eq_getElem])
abbrev zTF:TTok TFact:=zTk (zcells (.pair (.int .i64) (.pair (.sl 3 (.int .i64)) .unit))) zFact
def tkAt (l:List (TTok TFact)) (i:Nat):TTok TFact:=l.getD i zTF
theorem tkAt_get {l:List (TTok TFact)} {i:Nat} (h:i<l.length):tkAt l i=l[i]:=getD_at h
def ddT (l:List (TTok TFact)):Nat→List (TTok TFact)
 |0=>[]
 |n+1=>if n=0∨(tkAt l n).2≠(tkAt l (n - 1)).2 then ddT l n++[tkAt l n] else ddT l n
theorem ddT_all {l:List (TTok TFact)}:∀ {n:Nat},n≤l.length→(∀ i,1≤i→i<n→(tkAt l i).2≠(tkAt l (i - 1)).2)→ddT l n=l.take n
 |0,_,_=>by simp[ddT]
 | n+1,h,hi=>by
   unfold ddT
   rw[ddT_all (n:=n) (by omega) fun i h1 h2=>hi i h1 (by omega),take_succ_snoc (by omega)]
   rw[if_pos,tkAt_get (by omega)]
   rcases Nat.eq_zero_or_pos n with h0|h0
   · exact .inl h0
   · exact .inr (hi n (by omega) (by omega))
theorem ddT_sub {l:List (TTok TFact)}:∀ {n:Nat},n≤l.length→(ddT l n).Sublist (l.take n)
 |0,_=>by simp[ddT]
 | n+1,h=>by
   have:=ddT_sub (l:=l) (n:=n) (by omega)
   unfold ddT
   rw[take_succ_snoc (by omega)]
   split
   · rw[tkAt_get (by omega)];exact this.append_right _
   · exact this.trans (List.sublist_append_left _ _)
theorem tkAt_map {l:List (TTok TFact)} {i:Nat}:factAt (l.map (·.2)) i=(tkAt l i).2:=by
 unfold factAt tkAt
 rw[List.getD_eq_getElem?_getD,List.getD_eq_getElem?_getD,List.getElem?_map]
 cases l[i]?<;>rfl
theorem ddT_map {l:List (TTok TFact)}:∀ {n:Nat},(ddT l n).map (·.2)=ddF (l.map (·.2)) n
 |0=>rfl
 | n+1=>by
   unfold ddT ddF
   rw[tkAt_map,tkAt_map]
   split
   · rw[List.map_append,ddT_map];rfl
   · exact ddT_map
theorem g_tcomp {l:List (TTok TFact)} (hl:l.length≤1000):G_slices_CompactFunc_Fact_tok_c_isameFact l () (ddT l l.length):=M_slices_CompactFunc_Fact_tok_c_isameFact _ _ _ (by
 unfold S_slices_CompactFunc_Fact_tok_c_isameFact
 refine lenI fun _=>bc_dec (fun h=>?_) (fun h=>?_)
 · rw[ddT_all (Nat.le_refl _) (fun i h1 h2=>by omega),List.take_length]
 refine loopP_down (fun k a=>∃ i:Nat,i+k=l.length∧1≤i∧a=((i:Int),(l,()))∧∀ j,1≤j→j<i→(tkAt l j).2≠(tkAt l (j - 1)).2) ?_ ?_ (n:=l.length - 1) ⟨1,by omega,by omega,rfl,fun j h1 h2=>by omega⟩
 · rintro a ⟨i,hi,h1,rfl,hn⟩ X
   obtain rfl:i=l.length:=by omega
   refine lenI fun _=>bcN ?_
   rw[ddT_all (Nat.le_refl _) hn,List.take_length]
 · rintro k a ⟨i,hi,h1,rfl,hn⟩ X hX
   have hlt:i<l.length:=by omega
   have hw:w64 ((i:Int) - 1)=((i - 1:Nat):Int):=by rw[w64_id (by omega) (by omega)];omega
   have hj:i - 1<l.length:=by omega
   refine lenI fun _=>bcI hlt (inI hlt ?_)
   simp only
   rw[hw]
   refine inI hj ⟨_,K_isameFact_tok _ _ _ g_isameFact,?_⟩
   rw[getI hlt,getI hj,w64_succ (by omega)]
   refine bc_dec (fun h=>?_) (fun h=>hX _ ⟨i+1,by omega,by omega,rfl,fun j q1 q2=>?_⟩)
   · refine⟨⟨by omega,by omega,by omega,by omega⟩,?_⟩
     have hbase:ddT l (i+1)=l.take i:=by
      unfold ddT
      rw[if_neg,ddT_all (by omega) hn]
      rw[tkAt_get hlt,tkAt_get hj,h]
      rintro (h|h)
      · omega
      · exact h rfl
     simp only[Int.toNat_natCast]
     refine loopP_down (fun k a=>∃(p q:Nat) (L:List (TTok TFact)),q+k=l.length - i∧1≤q∧a=((p:Int),((q:Int),(L,())))∧L.length=l.length∧p+1≤i+q∧L.take p=ddT l (i+q)∧L.drop (i+q - 1)=l.drop (i+q - 1)) ?_ ?_ (n:=l.length - i - 1) ⟨i,1,l,by omega,by omega,rfl,rfl,by omega,hbase.symm,rfl⟩
     · rintro a ⟨p,q,L,hq,hq1,rfl,hL,hp,e1,e2⟩ Y
       obtain rfl:q=l.length - i:=by omega
       rw[show i+(l.length - i)=l.length by omega]at e1
       have ht:(L.take p).length=p:=by rw[List.length_take];omega
       refine lenI fun _=>bcN ⟨⟨by omega,by simp only;omega,by omega,by simp only;omega⟩,by simp only[Int.toNat_natCast];omega,⟨by omega,by omega,?_,?_⟩,?_⟩
       · simp only[List.length_append,Int.toNat_natCast,ht];omega
       · simp only[List.length_append,List.length_replicate,Int.toNat_natCast,ht];omega
       · rw[Int.toNat_natCast,List.take_left' ht,e1]
     · rintro k a ⟨p,q,L,hq,hq1,rfl,hL,hp,e1,e2⟩ Y hY
       have hlq:i+q<l.length:=by omega
       have hg:∀ j,i+q - 1≤j→j<l.length→L.getD j zTF=tkAt l j:=by
        intro j g1 g2
        have e3:=congrArg (fun m=>m.getD (j - (i+q - 1)) zTF) e2
        simp only[List.getD_eq_getElem?_getD,List.getElem?_drop]at e3
        rw[show i+q - 1+(j - (i+q - 1))=j by omega]at e3
        unfold tkAt
        simpa [List.getD_eq_getElem?_getD]using e3
       have hwq:w64 ((q:Int) - 1)=((q - 1:Nat):Int):=by rw[w64_id (by omega) (by omega)];omega
       have hdd:L.drop (i+q)=l.drop (i+q):=by
        have:=congrArg (List.drop 1) e2
        rw[List.drop_drop,List.drop_drop,show i+q - 1+1=i+q by omega]at this
        exact this
       refine lenI fun _=>bcI (by omega) (inI (by omega) ?_)
       simp only
       rw[hwq]
       refine inI (by omega) ⟨_,K_isameFact_tok _ _ _ g_isameFact,?_⟩
       rw[Int.toNat_natCast,Int.toNat_natCast,hg (i+q) (by omega) hlq,show i+(q - 1)=i+q - 1 by omega,hg (i+q - 1) (by omega) (by omega),w64_succ (by omega),w64_succ (by omega)]
       refine bc_nd (fun h5=>inI (by omega) ⟨⟨by omega,by omega⟩,?_⟩) (fun h5=>?_)
       · refine hY _ ⟨p+1,q+1,_,by omega,by omega,rfl,by rw[List.length_set];exact hL,by omega,?_,?_⟩
         · rw[show i+(q+1)=(i+q)+1 by omega]
           unfold ddT
           rw[if_pos (.inr h5),←e1,Int.toNat_natCast,List.take_set,take_succ_snoc (show p<L.length by omega),List.set_append]
           simp[List.length_take,Nat.min_eq_left (show p≤L.length by omega)]
         · rw[show i+(q+1) - 1=i+q by omega,←hdd,Int.toNat_natCast,List.drop_set_of_lt (by omega)]
       · refine hY _ ⟨p,q+1,L,by omega,by omega,rfl,hL,by omega,?_,by rw[show i+(q+1) - 1=i+q by omega];exact hdd⟩
         rw[show i+(q+1)=(i+q)+1 by omega]
         unfold ddT
         rw[if_neg,e1]
         rintro (h6|h6)
         · omega
         · exact h6 h5
   · by_cases hji:j=i
     · subst hji;rw[tkAt_get hlt,tkAt_get hj];exact h
     · exact hn j q1 (by omega))
theorem g_icompF {l:List TFact} (hl:l.length≤1000):G_slices_CompactFunc_Fact_oopzpozz_c_isameFact l () (ddF l l.length):=K_slices_CompactFunc_Fact_oopzpozz_c_isameFact _ _ _ fun xs hx=>by
 subst hx
 rw[List.length_map]at hl ⊢
 refine⟨ddT xs xs.length,?_,ddT_map,g_tcomp hl⟩
 have:=ddT_sub (l:=xs) (Nat.le_refl _)
 rwa [List.take_length]at this
theorem g_iIsNull {v:Int}:G_iIsNull v (decide (v<0)):=M_iIsNull _ _ (by unfold S_iIsNull;rfl)
theorem ltF {x y:TFact}:Go.Proofs.ltOf cmpF x y=decide (cmpF x y<0):=rfl
theorem swoF:Go.Sort.SWO (Go.Proofs.ltOf cmpF):=by
 refine⟨fun x=>?_,fun x y z h1 h2=>?_,fun x y z h1 h2=>?_⟩
 · rw[ltF,cmpF_zero.mpr rfl];rfl
 · rw[ltF,decide_eq_true_eq]at h1 h2 ⊢;exact cmpF_trans h1 h2
 · rw[ltF,decide_eq_false_iff_not]at h1 h2 ⊢
   intro h3
   by_cases h4:cmpF x y=0
   · obtain rfl:=cmpF_zero.mp h4
     exact h2 h3
   · have h5:cmpF y x<0:=by rw[cmpF_anti];omega
     exact h2 (cmpF_trans h5 h3)
theorem totF {x y:TFact} (h1:Go.Proofs.ltOf cmpF x y=false) (h2:Go.Proofs.ltOf cmpF y x=false):x=y:=by
 rw[ltF,decide_eq_false_iff_not]at h1 h2
 rw[cmpF_anti]at h2
 exact cmpF_zero.mp (by omega)
theorem g_isortF {l:List TFact} (h:l.length≤1000):G_slices_SortFunc_Fact_oopzpozz_c_iCompareFacts l () (sortL cmpF l):=prim_sortF (fun a b=>g_iCompareFacts) swoF (fun _ _=>totF) (by omega)
theorem sortF_pw (l:List TFact):(sortL cmpF l).Pairwise fun a b=>cmpF a b≤0:=by
 have:=List.pairwise_mergeSort (le:=fun a b=>!(decide (cmpF b a<0))) (fun a b c h1 h2=>by
  simp only[Bool.not_eq_true',decide_eq_false_iff_not]at h1 h2 ⊢
  intro h3
  rw[cmpF_anti]at h1 h2
  by_cases h4:cmpF a b=0
  · rw[cmpF_zero.mp h4]at h3;rw[cmpF_anti]at h3;omega
  · have:=cmpF_trans h3 (by omega:cmpF a b<0);rw[cmpF_anti]at this;omega) (fun a b=>by
  rw[cmpF_anti (x:=a) (y:=b)]
  simp
  omega) l
 refine List.Pairwise.imp (fun h=>?_) this
 simp only[Bool.not_eq_true',decide_eq_false_iff_not]at h
 rw[cmpF_anti]at h;omega
theorem dd_sort {l:List TFact}:ddF (sortL cmpF l) l.length=facS l:=by
 have hl:(sortL cmpF l).length=l.length:=by simp[sortL]
 obtain⟨h1,h2⟩:=ddF_set (sortF_pw l) (n:=l.length) (by omega)
 refine facS_of h1 fun y=>?_
 rw[h2,List.take_of_length_le (by omega)]
 simp[sortL]
theorem g_ifactsSet {l:List TFact} (hl:l.length≤1000) (h:∀ f∈l,f.2.1.length≤1000):G_ifactsSet l (facS l):=M_ifactsSet _ _ (by
 unfold S_ifactsSet
 have hs:(sortL cmpF l).length=l.length:=by simp[sortL]
 refine⟨l,g_ifactsCopy (by omega) (fun f hf=>by have:=h f hf;omega),_,g_isortF hl,_,g_icompF (by omega),?_⟩
 rw[hs,dd_sort])
theorem g_iApplyToInstance {s:TSub} {x:TInst}:G_iApplyToInstance s x (appI s x) (vSub s&&vInst x):=M_iApplyToInstance _ _ _ _ (by
 unfold S_iApplyToInstance
 refine⟨_,g_iIsValidSubstitution,bc_not (fun h=>by unfold appI;rw[h];rfl) (fun h1=>⟨_,g_iIsValidInstance,bc_not (fun h=>by unfold appI;rw[h1,h];rfl) (fun h2=>?_)⟩)⟩
 have hr:=vRels_len (vInst_rels h2)
 have hf:=vInst_len h2
 have hrow:∀ f∈x.2.1,f.2.1.length≤3:=fun f hm=>(vRow_spec (vInst_fact h2 hm)).2.2.2.2.1
 refine⟨x,g_iinstanceCopy (by omega) (by omega) (fun f hf=>fact_args h2 hf),lenI fun _=>?_⟩
 refine loopP_of x.2.1.length (fun i=>((i:Int),((x.1,((x.2.1.take i).map (subF s)++x.2.1.drop i,())),()))) (by simp) ?_ ?_
 · intro i hi X hX
   have h3:=hrow _ (List.getElem_mem hi)
   refine bcI hi (inI hi ⟨subF s x.2.1[i],?_,⟨by omega,?_⟩,?_⟩)
   · simp only;rw[getI hi];exact g_iApplyToFact (by omega)
   · simp only[List.length_append,List.length_map,List.length_take,List.length_drop];omega
   · simp only
     rw[w64_succ (by omega),Int.toNat_natCast]
     show X (((i+1:Nat):Int),((x.1,(((x.2.1.take i).map (subF s)++x.2.1.drop i).set i (subF s x.2.1[i]),())),()))
     rw[map_set hi]
     exact hX
 · intro X
   refine bcN ⟨_,g_ifactsSet ?_ (fun f hm=>?_),?_⟩
   · simp only[List.take_length,List.drop_length,List.append_nil,List.length_map];omega
   · simp only[List.take_length,List.drop_length,List.append_nil]at hm
     obtain⟨g,hg,rfl⟩:=List.mem_map.mp hm
     have:=hrow g hg
     unfold subF
     simp only[List.length_map];omega
   · simp only[List.take_length,List.drop_length,List.append_nil]
     unfold appI subI
     rw[h1,h2];rfl)
def trigB (d:TDep) (b:List Int):Bool:=(List.range b.length).all fun k=>decide ((k:Int)∈vars d.1) == !(iAt b k == 10)
def trigF (x:TInst) (d:TDep) (b:List Int):Bool:=d.1.all fun a=>instOk a b&&decide (inst a b∈x.2.1)
def isTrig (x:TInst) (d:TDep) (b:List Int):Bool:=vInst x&&(vDep x.1 d&&((b.length == 5)&&(trigB d b&&trigF x d b)))
def hasExt (x:TInst) (l:List TFact) (b:List Int):Bool:=mOk x l&&((b.length == 5)&&decide (0<(walk x.2.1 l b).length))
def act (x:TInst) (d:TDep) (b:List Int):Bool:=isTrig x d b&&(if d.2.2.1 then !(iAt b d.2.2.2.1.toNat == iAt b d.2.2.2.2.1.toNat)else !(hasExt x d.2.1 b))
theorem isTrig_parts {x:TInst} {d:TDep} {b:List Int} (h:isTrig x d b=true):vInst x=true∧vDep x.1 d=true∧b.length=5:=by
 unfold isTrig at h
 simp only[Bool.and_eq_true,beq_iff_eq]at h
 exact⟨h.1,h.2.1,h.2.2.1⟩
theorem act_trig {x:TInst} {d:TDep} {b:List Int} (h:act x d b=true):isTrig x d b=true:=by
 unfold act at h;rw[Bool.and_eq_true]at h;exact h.1
theorem vars_range {l:List TRel} {ats:List TFact} (h:∀ a∈ats,vAtom l a=true) {v:Int} (hv:v∈vars ats):0≤v∧v<5:=by
 unfold vars at hv
 have hv:=mem_sset.mp hv
 obtain⟨h1,h2⟩:=List.mem_filter.mp hv
 obtain⟨a,ha,hva⟩:=List.mem_flatMap.mp h1
 have:=inR_iff.mp ((vRow_spec (h a ha)).2.2.2.2.2 v hva)
 have:0≤v:=by simpa using h2
 omega
theorem vDep_sides {l:List TRel} {d:TDep} (h:vDep l d=true) (he:d.2.2.1=true):(0≤d.2.2.2.1∧d.2.2.2.1<5)∧(0≤d.2.2.2.2.1∧d.2.2.2.2.1<5):=by
 have hs:=vDep_spec h
 unfold vDep at h
 rw[he]at h
 simp only[Bool.and_eq_true,if_pos,decide_eq_true_eq]at h
 exact⟨vars_range hs.2.2.1 h.2.1.1.2,vars_range hs.2.2.1 h.2.1.2⟩
def witB:List Int→List Int→Int→List Int
 |b,[],_=>b
 |b,v::l,k=>witB (b.set v.toNat (-1 - k)) l (k+1)
theorem witB_len:∀ {l b:List Int} {k:Int},(witB b l k).length=b.length
 |[],b,k=>rfl
 |v::l,b,k=>by rw[witB,witB_len,List.length_set]
theorem witB_snoc:∀ {l b:List Int} {k v:Int},witB b (l++[v]) k=(witB b l k).set v.toNat (-1 - (k+l.length))
 |[],b,k,v=>by simp[witB]
 | w::l,b,k,v=>by
   simp only[List.cons_append,witB,witB_snoc,List.length_cons]
   congr 1
   omega
def newF (x:TInst) (d:TDep) (b:List Int):List TFact:=facS (x.2.1++d.2.1.map fun a=>inst a (witB b (exV d) (nextN x)))
def appT (x:TInst) (d:TDep) (b:List Int):TInst×Int:=
 if act x d b then
  (if d.2.2.1 then
    (if 0≤iAt b d.2.2.2.1.toNat∧0≤iAt b d.2.2.2.2.1.toNat then(x,2)
     else(appI ([nulNo (minI (iAt b d.2.2.2.1.toNat) (iAt b d.2.2.2.2.1.toNat))],([maxI (iAt b d.2.2.2.1.toNat) (iAt b d.2.2.2.2.1.toNat)],())) x,1))
   else if 40<nextN x+(exV d).length∨30<(newF x d b).length then(x,3)else((x.1,(newF x d b,())),1))
 else(x,0)
theorem bb1:∀ u v:Bool,(u == v) = !(u == !v):=by decide
theorem bb2:∀ u v:Bool,(!((!v) == u)) = !(u == !v):=by decide
theorem place_neg {l:List TFact} {f:TFact}:place l f<0↔f∉l:=by
 have:=decide_eq_decide.mp (place_ge (l:=l) (f:=f))
 constructor
 · intro h hm;have:=this.mpr hm;omega
 · intro h
   rcases Int.lt_or_le (place l f) 0 with h'|h'
   · exact h'
   · exact absurd (this.mp h') h
theorem term_row {l:List TRel} {a:TFact} (h:vAtom l a=true):a.2.1.length≤3∧∀ t∈a.2.1,-10≤t∧t<5:=by
 have:=vRow_spec h
 exact⟨this.2.2.2.2.1,fun t ht=>by have:=inR_iff.mp (this.2.2.2.2.2 t ht);omega⟩
theorem nextN_range (x:TInst):0≤nextN x∧nextN x≤40:=by
 have hk:∀ k∈nulI x,0≤k∧k<40:=fun k hk=>by
  have:=nulls_range (l:=x.2.1.flatMap (·.2.1)) k (by rw[nulls_flat];exact hk)
  omega
 refine⟨?_,nextN_le (n:=40) |>.mpr fun k h=>(hk k h).2⟩
 unfold nextN
 cases h:(nulI x).getLast? with
 |none=>exact Int.le_refl 0
 |some m=>have:=hk m (List.mem_of_getLast? h);simp only;omega
theorem exV_le6 {l:List TRel} {d:TDep} (h:vDep l d=true):(exV d).length≤6:=by
 have hd:=vDep_spec h
 have h1:(exV d).length≤(vars d.2.1).length:=by unfold exV;exact List.length_filter_le _ _
 have h2:=vars_len d.2.1
 omega
theorem exV_range {l:List TRel} {d:TDep} (h:vDep l d=true) {v:Int} (hv:v∈exV d):0≤v∧v<5:=by
 have hd:=vDep_spec h
 unfold exV at hv
 exact vars_range hd.2.2.2.2.1 (List.mem_filter.mp hv).1
theorem heads_asc {x:TInst} (h:vInst x=true) (l:List TFact):l.foldl putF x.2.1=facS (x.2.1++l):=facS_app (vInst_asc h)
theorem g_sIsTrigger {x:TInst} {d:TDep} {b:List Int}:G_sIsTrigger x d b (isTrig x d b):=M_sIsTrigger _ _ _ _ (by
 unfold S_sIsTrigger
 refine⟨_,g_sIsValidInstance,bc_not (fun h=>by unfold isTrig;rw[h];rfl) (fun h1=>⟨_,g_sIsValidDependency,bc_not (fun h=>by unfold isTrig;rw[h1,h];rfl) (fun h2=>lenI fun _=>bc_ne (fun h=>?_) (fun h3=>?_))⟩)⟩
 · unfold isTrig
   rw[show(b.length == 5)=false from beq_eq_false_iff_ne.mpr (by omega),h1,h2];rfl
 have h3:b.length=5:=by omega
 have hd:=vDep_spec h2
 have e:isTrig x d b=(trigB d b&&trigF x d b):=by unfold isTrig;rw[h1,h2,h3];rfl
 rw[e]
 refine⟨_,g_sVariables (by omega),?_⟩
 refine loop_anyI b.length (fun k=>!(decide ((k:Int)∈vars d.1) == !(iAt b k == 10))) (fun i=>((i:Int),())) (KT:=trigB d b=false) (KF:=trigB d b=true) ?_ ?_ ?_ ?_
 · intro i hi X _ q1 q2
   refine lenI fun _=>bcI hi (inI hi ⟨_,g_sl4Has,_,g_sl11None,?_⟩)
   simp only
   rw[getI hi,←iAt_get hi,w64_succ (by omega),bb1]
   exact bc_if (fun h=>by rw[q1 h];rfl) q2
 · intro X hB
   refine lenI fun _=>bcN ?_
   rw[hB,Bool.true_and]
   refine loop_any d.1 (fun a=>!(instOk a b&&decide (inst a b∈x.2.1))) (fun i=>((i:Int),())) (KT:=trigF x d b=false) (KF:=trigF x d b=true) ?_ ?_ ?_ ?_
   · intro i hi X q1 q2
     have hr:=term_row (hd.2.2.1 _ (List.getElem_mem hi))
     refine lenI fun _=>bcI hi (inI hi ⟨inst d.1[i] b,instOk d.1[i] b,?_,?_⟩)
     · simp only;rw[getI hi];exact g_sInstantiate (by omega) (by omega) hr.2
     · rw[w64_succ (by omega)]
       refine bc_not (fun h=>by rw[q1 (by rw[h];rfl)]) (fun h=>⟨_,g_sl5Place,bc_dec (fun h4=>?_) (fun h4=>?_)⟩)
       · have h4:=place_neg.mp h4
         rw[q1 (by rw[h];simpa using h4)]
       · have h4:inst d.1[i] b∈x.2.1:=Classical.byContradiction fun h5=>h4 (place_neg.mpr h5)
         exact q2 (by rw[h];simpa using h4)
   · intro X h;exact lenI fun _=>bcN (by rw[h])
   · intro h;rw[any_not]at h;unfold trigF;exact nt h
   · intro h;rw[any_not]at h;unfold trigF;exact nf h
 · rintro⟨i,hi,hp⟩
   unfold trigB
   rw[Bool.eq_false_iff]
   intro h
   have:=List.all_eq_true.mp h i (List.mem_range.mpr hi)
   rw[this]at hp;cases hp
 · intro h
   unfold trigB
   exact List.all_eq_true.mpr fun i hi=>nf (h i (List.mem_range.mp hi)))
theorem g_iIsTrigger {x:TInst} {d:TDep} {b:List Int}:G_iIsTrigger x d b (isTrig x d b):=M_iIsTrigger _ _ _ _ (by
 unfold S_iIsTrigger
 refine⟨_,g_iIsValidInstance,bc_not (fun h=>by unfold isTrig;rw[h];rfl) (fun h1=>⟨_,g_iIsValidDependency,bc_not (fun h=>by unfold isTrig;rw[h1,h];rfl) (fun h2=>lenI fun _=>bc_ne (fun h=>?_) (fun h3=>?_))⟩)⟩
 · unfold isTrig
   rw[show(b.length == 5)=false from beq_eq_false_iff_ne.mpr (by omega),h1,h2];rfl
 have h3:b.length=5:=by omega
 have hd:=vDep_spec h2
 have e:isTrig x d b=(trigB d b&&trigF x d b):=by unfold isTrig;rw[h1,h2,h3];rfl
 rw[e]
 refine⟨_,g_iVariables (by omega),lenI fun _=>?_⟩
 refine loop_anyI b.length (fun k=>!(decide ((k:Int)∈vars d.1) == !(iAt b k == 10))) (fun i=>((i:Int),())) (KT:=trigB d b=false) (KF:=trigB d b=true) ?_ ?_ ?_ ?_
 · intro i hi X _ q1 q2
   refine bcI hi (inI hi ⟨_,g_slices_Contains_int,?_⟩)
   simp only
   rw[getI hi,←iAt_get hi,w64_succ (by omega)]
   show bcase (!((!(iAt b i == 10)) == _)) _ _
   rw[bb2]
   exact bc_if (fun h=>by rw[q1 h];rfl) q2
 · intro X hB
   refine bcN (lenI fun _=>?_)
   rw[hB,Bool.true_and]
   refine loop_any d.1 (fun a=>!(instOk a b&&decide (inst a b∈x.2.1))) (fun i=>((i:Int),())) (KT:=trigF x d b=false) (KF:=trigF x d b=true) ?_ ?_ ?_ ?_
   · intro i hi X q1 q2
     have hr:=term_row (hd.2.2.1 _ (List.getElem_mem hi))
     refine bcI hi (inI hi ⟨inst d.1[i] b,instOk d.1[i] b,?_,?_⟩)
     · simp only;rw[getI hi];exact g_iInstantiate (by omega) (by omega) hr.2
     · rw[w64_succ (by omega)]
       refine bc_not (fun h=>by rw[q1 (by rw[h];rfl)]) (fun h=>⟨_,g_ihasFact,bc_not (fun h4=>?_) (fun h4=>?_)⟩)
       · have h4:inst d.1[i] b∉x.2.1:=of_decide_eq_false h4
         rw[q1 (by rw[h];simpa using h4)]
       · have h4:inst d.1[i] b∈x.2.1:=of_decide_eq_true h4
         exact q2 (by rw[h];simpa using h4)
   · intro X h;exact bcN (by rw[h])
   · intro h;rw[any_not]at h;unfold trigF;exact nt h
   · intro h;rw[any_not]at h;unfold trigF;exact nf h
 · rintro⟨i,hi,hp⟩
   unfold trigB
   rw[Bool.eq_false_iff]
   intro h
   have:=List.all_eq_true.mp h i (List.mem_range.mpr hi)
   rw[this]at hp;cases hp
 · intro h
   unfold trigB
   exact List.all_eq_true.mpr fun i hi=>nf (h i (List.mem_range.mp hi)))
theorem g_sHasExtension {x:TInst} {l:List TFact} {b:List Int}:G_sHasExtension x l b (hasExt x l b):=M_sHasExtension _ _ _ _ (by
 unfold S_sHasExtension
 refine⟨_,g_sl11Ok,bc_if (fun h=>lenI fun _=>bc_beq (fun hb=>?_) (fun hb=>?_)) (fun h=>by unfold hasExt;rw[h];rfl)⟩
 · have hb:b.length=5:=by omega
   obtain⟨hw,hl⟩:=mOk_wok h
   have g:=g_sl11Walk hw hl l.length 0 b (by omega) hb
   rw[List.drop_zero]at g
   refine⟨_,g,lenI fun _=>?_⟩
   unfold hasExt
   rw[h,hb]
   have:decide (((walk x.2.1 l b).length:Int) > 0)=decide (0<(walk x.2.1 l b).length):=decide_eq_decide.mpr (by omega)
   rw[this];rfl
 · unfold hasExt
   rw[show(b.length == 5)=false from beq_eq_false_iff_ne.mpr (by omega),h];rfl)
theorem g_iHasExtension {x:TInst} {l:List TFact} {b:List Int}:G_iHasExtension x l b (hasExt x l b):=M_iHasExtension _ _ _ _ (by
 unfold S_iHasExtension
 refine⟨_,g_iareMatchable,bc_if (fun h=>lenI fun _=>bc_beq (fun hb=>?_) (fun hb=>?_)) (fun h=>by unfold hasExt;rw[h];rfl)⟩
 · have hb:b.length=5:=by omega
   obtain⟨hw,hl⟩:=mOk_wok h
   refine⟨b,g_slices_Clone_int (by omega),_,g_imatches b hw hl hb,lenI fun _=>?_⟩
   unfold hasExt
   rw[h,hb]
   have:decide (((walk x.2.1 l b).length:Int) > 0)=decide (0<(walk x.2.1 l b).length):=decide_eq_decide.mpr (by omega)
   rw[this];rfl
 · unfold hasExt
   rw[show(b.length == 5)=false from beq_eq_false_iff_ne.mpr (by omega),h];rfl)
theorem g_sIsActiveTrigger {x:TInst} {d:TDep} {b:List Int}:G_sIsActiveTrigger x d b (act x d b):=M_sIsActiveTrigger _ _ _ _ (by
 unfold S_sIsActiveTrigger
 refine⟨_,g_sIsTrigger,bc_not (fun h=>by unfold act;rw[h];rfl) (fun h=>?_)⟩
 obtain⟨_,hv,hb⟩:=isTrig_parts h
 refine bc_if (fun he=>?_) (fun he=>⟨_,g_sHasExtension,by unfold act;rw[h,he];rfl⟩)
 have hs:=vDep_sides hv he
 exact⟨⟨by omega,by omega⟩,⟨by omega,by omega⟩,by unfold act;rw[h,he];rfl⟩)
theorem g_iIsActiveTrigger {x:TInst} {d:TDep} {b:List Int}:G_iIsActiveTrigger x d b (act x d b):=M_iIsActiveTrigger _ _ _ _ (by
 unfold S_iIsActiveTrigger
 refine⟨_,g_iIsTrigger,bc_not (fun h=>by unfold act;rw[h];rfl) (fun h=>?_)⟩
 obtain⟨_,hv,hb⟩:=isTrig_parts h
 refine bc_if (fun he=>?_) (fun he=>⟨_,g_iHasExtension,by unfold act;rw[h,he];rfl⟩)
 have hs:=vDep_sides hv he
 exact⟨⟨by omega,by omega⟩,⟨by omega,by omega⟩,by unfold act;rw[h,he];rfl⟩)
structure SmI (x:TInst):Prop where
 rels:x.1.length≤6
 few:x.2.1.length≤30
 row:∀ f∈x.2.1,f.2.1.length≤3
theorem SmI.of {x:TInst} (h:vInst x=true):SmI x:=⟨vRels_len (vInst_rels h),vInst_len h,fun f hf=>(vRow_spec (vInst_fact h hf)).2.2.2.2.1⟩
theorem SmI.app {s:TSub} {x:TInst} (h:SmI x):SmI (appI s x):=by
 unfold appI
 split
 · refine⟨h.rels,Nat.le_trans subI_len h.few,fun f hf=>?_⟩
   unfold subI at hf
   obtain⟨g,hg,rfl⟩:=List.mem_map.mp (facS_mem.mp hf)
   unfold subF
   have:=h.row g hg
   simpa using this
 · exact⟨by simp,by simp,by simp⟩
theorem SmI.newF {x:TInst} {d:TDep} {b:List Int} (h:SmI x) (hd:∀ a∈d.2.1,a.2.1.length≤3):∀ f∈newF x d b,f.2.1.length≤3:=by
 intro f hf
 unfold V.newF at hf
 rcases List.mem_append.mp (facS_mem.mp hf)with hf|hf
 · exact h.row f hf
 · obtain⟨a,ha,rfl⟩:=List.mem_map.mp hf
   exact Nat.le_trans inst_len (hd a ha)
theorem SmI.step {x:TInst} {d:TDep} {b:List Int} (h:SmI x):SmI (appT x d b).1:=by
 unfold appT
 split
 · rename_i ha
   have hp:=isTrig_parts (act_trig ha)
   have hd:=vDep_spec hp.2.1
   split
   · split
     · exact h
     · exact h.app
   · split
     · exact h
     · rename_i hn
       exact ⟨h.rels, by have:¬ 30<(V.newF x d b).length:=fun h'=>hn (.inr h')
                         simp only;omega,h.newF fun a ha=>(vRow_spec (hd.2.2.2.2.1 a ha)).2.2.2.2.1⟩
 · exact h
theorem act_valid {x:TInst} {d:TDep} {b:List Int} (h:act x d b=true):vInst x=true∧vDep x.1 d=true∧b.length=5:=isTrig_parts (act_trig h)
theorem appT_no {x:TInst} {d:TDep} {b:List Int} (h:act x d b=false):appT x d b=(x,0):=by unfold appT;rw[h];rfl
theorem appT_egd {x:TInst} {d:TDep} {b:List Int} (h:act x d b=true) (he:d.2.2.1=true):appT x d b=(if 0≤iAt b d.2.2.2.1.toNat∧0≤iAt b d.2.2.2.2.1.toNat then(x,2)
 else(appI ([nulNo (minI (iAt b d.2.2.2.1.toNat) (iAt b d.2.2.2.2.1.toNat))],([maxI (iAt b d.2.2.2.1.toNat) (iAt b d.2.2.2.2.1.toNat)],())) x,1)):=by unfold appT;rw[h,he];rfl
theorem appT_tgd {x:TInst} {d:TDep} {b:List Int} (h:act x d b=true) (he:d.2.2.1=false):appT x d b=(if 40<nextN x+(exV d).length∨30<(newF x d b).length then(x,3)else((x.1,(newF x d b,())),1)):=by unfold appT;rw[h,he];rfl
theorem g_sApplyTrigger {x:TInst} {d:TDep} {b:List Int} (hx:SmI x):G_sApplyTrigger x d b (appT x d b).1 (appT x d b).2:=M_sApplyTrigger _ _ _ _ _ (by
 unfold S_sApplyTrigger
 have h1:=hx.rels
 have h2:=hx.few
 refine⟨x,g_sl5Copy (by omega) (by omega) (fun f hf=>by have:=hx.row f hf;omega),_,g_sIsActiveTrigger,bc_not (fun h=>by rw[appT_no h]) (fun ha=>?_)⟩
 obtain⟨hv,hd,hb⟩:=act_valid ha
 have hds:=vDep_spec hd
 refine bc_if (fun he=>?_) (fun he=>?_)
 · have hs:=vDep_sides hd he
   have e1:b.getD d.2.2.2.1.toNat 0=iAt b d.2.2.2.1.toNat:=rfl
   have e2:b.getD d.2.2.2.2.1.toNat 0=iAt b d.2.2.2.2.1.toNat:=rfl
   rw[e1,e2,appT_egd ha he]
   refine⟨⟨by omega,by omega⟩,⟨by omega,by omega⟩,bc_dec (fun hp=>bc_dec (fun hq=>?_) (fun hq=>?_)) (fun hp=>?_)⟩
   · rw[if_pos ⟨hp,hq⟩]
   · rw[if_neg (fun h=>hq h.2)]
     exact⟨_,_,g_sNullNumber,_,_,g_sApplyToInstance,rfl⟩
   · rw[if_neg (fun h=>hp h.1)]
     exact⟨_,_,g_sNullNumber,_,_,g_sApplyToInstance,rfl⟩
 · have hn:=nextN_range x
   have hl:=exV_le6 hd
   rw[appT_tgd ha he]
   refine⟨by simp only[maxL,List.length_nil];omega,_,g_sExistentialVariables (by omega) (by omega),?_⟩
   rw[List.nil_append]
   refine loop_anyI (exV d).length (fun i=>decide (40≤nextN x+i)) (fun i=>((i:Int),(x,((([]:List TRel),(([]:List TFact),())),(witB b ((exV d).take i) (nextN x),()))))) (KT:=40<nextN x+(exV d).length) (KF:=nextN x+(exV d).length≤40) ?_ ?_ ?_ ?_
   · intro i hi X _ q1 q2
     refine lenI fun _=>bcI hi ⟨_,g_sNextNull,?_⟩
     simp only
     rw[w64_id (n:=nextN x+i) (by omega) (by omega),getI hi,w64_succ (by omega)]
     have hr:=exV_range hd (List.getElem_mem hi)
     refine bc_dec (fun h=>?_) (fun h=>inI hi ⟨_,g_sNullValue (by omega) (by omega),⟨by omega,by rw[witB_len];omega⟩,?_⟩)
     · rw[if_pos (.inl (q1 (decide_eq_true h)))]
     · have q3:=q2 (decide_eq_false h)
       rw[take_succ_snoc hi,witB_snoc,List.length_take,Nat.min_eq_left (by omega)]at q3
       exact q3
   · intro X hk
     refine lenI fun _=>bcN ?_
     simp only[List.take_length]
     have hm:∀ i,(((d.2.1.take i).map fun a=>inst a (witB b (exV d) (nextN x))).foldl putF x.2.1).length≤32:=fun i=>by
      have:=foldF_len (l:=(d.2.1.take i).map fun a=>inst a (witB b (exV d) (nextN x))) (m:=x.2.1)
      rw[List.length_map,List.length_take]at this
      omega
     refine loopP_of d.2.1.length (fun i=>((i:Int),((x.1,(((d.2.1.take i).map fun a=>inst a (witB b (exV d) (nextN x))).foldl putF x.2.1,())),()))) (by simp) ?_ ?_
     · intro i hi Y hY
       have hr:=term_row (hds.2.2.2.2.1 _ (List.getElem_mem hi))
       have hmi:=hm i
       have hil:=inst_len (a:=d.2.1[i]) (b:=witB b (exV d) (nextN x))
       refine lenI fun _=>bcI hi (inI hi ⟨inst d.2.1[i] (witB b (exV d) (nextN x)),instOk d.2.1[i] (witB b (exV d) (nextN x)),?_,_,g_sl5Put (by simp only;omega) (by simp only;omega),?_⟩)
       · simp only;rw[getI hi];exact g_sInstantiate (by omega) (by rw[witB_len];omega) hr.2
       · simp only
         rw[w64_succ (by omega)]
         rw[take_succ_snoc hi,List.map_append,List.foldl_append]at hY
         exact hY
     · intro Y
       have hml:=hm d.2.1.length
       refine lenI fun _=>bcN ?_
       simp only[List.take_length]at hml ⊢
       have e:(d.2.1.map fun a=>inst a (witB b (exV d) (nextN x))).foldl putF x.2.1=newF x d b:=heads_asc hv _
       rw[e]at hml ⊢
       refine lenI fun _=>bc_dec (fun h=>?_) (fun h=>?_)
       · rw[if_pos (.inr (by omega))]
       · rw[if_neg (by rintro (h'|h')<;>omega)]
         refine⟨_,g_sl5Copy (by simp only;omega) (by simp only;omega) (fun f hf=>?_),rfl⟩
         have:=hx.newF (d:=d) (b:=b) (fun a ha=>(term_row (hds.2.2.2.2.1 a ha)).1) f hf
         omega
   · rintro⟨i,hi,hp⟩
     have:=of_decide_eq_true hp
     omega
   · intro h
     rcases Nat.eq_zero_or_pos (exV d).length with h0|h0
     · rw[h0];omega
     · have:=of_decide_eq_false (h ((exV d).length - 1) (by omega))
       omega)
def depAt (ds:List TDep) (i:Int):TDep:=ds.getD i.toNat zDep
theorem iAt_set {l:List Int} {i j:Nat} {v:Int} (h:i<l.length):iAt (l.set i v) j=if j=i then v else iAt l j:=getD_set h
def goesOn (b c:List Int):Prop:=c.length=b.length∧∀ k,iAt b k≠10→iAt c k=iAt b k
theorem goesOn_refl (b:List Int):goesOn b b:=⟨rfl,fun _ _=>rfl⟩
theorem goesOn_trans {a b c:List Int} (h1:goesOn a b) (h2:goesOn b c):goesOn a c:=⟨h2.1.trans h1.1,fun k hk=>by
 have e:=h1.2 k hk
 rw[h2.2 k (by rw[e];exact hk),e]⟩
def termV (c:List Int) (p:Int×Int):Prop:=if p.1<0 then p.2 = -1 - p.1 else iAt c p.1.toNat=p.2
theorem fitP_ok:∀ {ts vs b:List Int},(fitP ts vs b).2=true→(∀ t∈ts,t<b.length)→(∀ v∈vs,v≠10)→ts.length=vs.length→
  goesOn b (fitP ts vs b).1∧(∀ p∈ts.zip vs,termV (fitP ts vs b).1 p)∧∀ k:Nat,k<b.length→(iAt (fitP ts vs b).1 k≠10↔iAt b k≠10∨(k:Int)∈ts)
 |[],vs,b,_,_,_,_=>⟨goesOn_refl b,by simp,by simp[fitP]⟩
 |t::ts,[],b,h,_,_,hl=>by simp at hl
 | t::ts,v::vs,b,h,h1,h2,hl=>by
   rw[fitP_cons]at h ⊢
   have hv:v≠10:=h2 v (by simp)
   have hts:∀ t∈ts,t<b.length:=fun u hu=>h1 u (by simp[hu])
   have hvs:∀ v∈vs,v≠10:=fun u hu=>h2 u (by simp[hu])
   have hl':ts.length=vs.length:=by simpa using hl
   by_cases ht:t<0
   · rw [if_pos ht]at h ⊢
     by_cases hc : -1 - t=v
     · rw[if_pos hc]at h ⊢
       obtain⟨g1,g2,g3⟩:=fitP_ok h hts hvs hl'
       refine⟨g1,fun p hp=>?_,fun k hk=>?_⟩
       · rw[List.zip_cons_cons]at hp
         rcases List.mem_cons.mp hp with rfl|hp
         · unfold termV;rw[if_pos ht];exact hc.symm
         · exact g2 p hp
       · rw[g3 k hk,List.mem_cons]
         have:¬ (k:Int)=t:=by omega
         simp[this]
     · rw[if_neg hc]at h;simp at h
   · rw [if_neg ht]at h ⊢
     have htb:t.toNat<b.length:=by have:=h1 t (by simp);omega
     by_cases hc:b.getD t.toNat 0=10∨b.getD t.toNat 0=v
     · rw [if_pos hc]at h ⊢
       have hlen:(b.set t.toNat v).length=b.length:=by simp
       obtain⟨g1,g2,g3⟩:=fitP_ok h (by rw[hlen];exact hts) hvs hl'
       refine⟨⟨g1.1.trans hlen,fun k hk=>?_⟩,fun p hp=>?_,fun k hk=>?_⟩
       · by_cases hkt:k=t.toNat
         · subst hkt
           have hbv:iAt b t.toNat=v:=hc.resolve_left hk
           rw[g1.2 _ (by rw[iAt_set htb,if_pos rfl];exact hv),iAt_set htb,if_pos rfl,hbv]
         · have e:iAt (b.set t.toNat v) k=iAt b k:=by rw[iAt_set htb,if_neg hkt]
           rw[g1.2 k (by rw[e];exact hk),e]
       · rw[List.zip_cons_cons]at hp
         rcases List.mem_cons.mp hp with rfl|hp
         · unfold termV;rw[if_neg ht]
           have e:iAt (b.set t.toNat v) t.toNat=v:=by rw[iAt_set htb,if_pos rfl]
           rw[g1.2 _ (by rw[e];exact hv),e]
         · exact g2 p hp
       · rw[g3 k (by rw[hlen];exact hk),iAt_set htb,List.mem_cons]
         by_cases hkt:k=t.toNat
         · have:(k:Int)=t:=by omega
           simp[hkt,hv]
           omega
         · have:¬ (k:Int)=t:=by omega
           simp[hkt,this]
     · rw[if_neg hc]at h;simp at h
theorem termV_on {c c':List Int} {p:Int×Int} (hg:goesOn c c') (h:termV c p) (hv:p.2≠10):termV c' p:=by
 unfold termV at h ⊢
 split
 · rename_i ht;rw[if_pos ht]at h;exact h
 · rename_i ht;rw[if_neg ht]at h;rw[hg.2 _ (by rw[h];exact hv),h]
theorem vVal_ne {v:Int} (h:vVal v=true):v≠10:=by have:=inR_iff.mp h;omega
theorem inst_run:∀ {ts vs c s:List Int},ts.length=vs.length→(∀ p∈ts.zip vs,termV c p)→(∀ v∈vs,vVal v=true)→(∀ t∈ts,t<c.length)→runE (instS c) ts s = .inr (s++vs)
 |[],[],c,s,_,_,_,_=>by simp[runE]
 |[],v::vs,c,s,h,_,_,_=>by simp at h
 |t::ts,[],c,s,h,_,_,_=>by simp at h
 | t::ts,v::vs,c,s,h,h1,h2,h3=>by
   have hp:=h1 (t,v) (by simp)
   have hv:=h2 v (by simp)
   have e:instS c s t = .inr (s++[v]):=by
    unfold instS instG
    unfold termV at hp
    simp only at hp
    by_cases ht:t<0
    · rw[if_pos ht]at hp
      rw[if_neg (by omega),←hp,if_pos hv]
    · rw[if_neg ht]at hp
      have hlt:=h3 t (by simp)
      have hp:c.getD t.toNat 0=v:=hp
      rw[if_pos (by omega),if_neg (by omega),hp,if_pos hv]
   simp only[runE,e]
   rw[inst_run (by simpa using h) (fun p hp=>h1 p (by simp[hp])) (fun v hv=>h2 v (by simp[hv])) (fun t ht=>h3 t (by simp[ht]))]
   simp
theorem inst_fit {a f:TFact} {c:List Int} (h1:a.1=f.1) (hl:a.2.1.length=f.2.1.length) (hz:∀ p∈a.2.1.zip f.2.1,termV c p) (hv:∀ v∈f.2.1,vVal v=true) (ht:∀ t∈a.2.1,t<c.length):instOk a c=true∧inst a c=f:=by
 have:=inst_run (s:=[]) hl hz hv ht
 unfold instOk inst
 rw[this,List.nil_append,h1]
 exact⟨rfl,rfl⟩
theorem walkF_mem {fs:List TFact} {w:List Int→List (List Int)} {a:TFact} {b c:List Int}:∀ {l:List TFact} {out:List (List Int)},c∈l.foldl (walkG fs w a b) out→c∈out∨∃ f∈l,a.1=f.1∧(fitP a.2.1 f.2.1 b).2=true∧c∈w (fitP a.2.1 f.2.1 b).1
 |[],out,h=>.inl h
 | f::l,out,h=>by
   rw[List.foldl_cons]at h
   rcases walkF_mem h with h|⟨g,hg,h⟩
   · unfold walkG at h
     split at h
     · rename_i hc
       rcases List.mem_append.mp h with h|h
       · exact .inl h
       · exact .inr ⟨f,by simp,hc.1,hc.2,h⟩
     · exact .inl h
   · exact .inr ⟨g,by simp[hg],h⟩
theorem walk_ok {fs:List TFact} (hv:∀ f∈fs,∀ v∈f.2.1,vVal v=true):∀ {ats:List TFact} {b c:List Int},c∈walk fs ats b→WOk fs ats→b.length=5→
  goesOn b c∧(∀ a∈ats,instOk a c=true∧inst a c∈fs)∧∀ k:Nat,k<5→(iAt c k≠10↔iAt b k≠10∨∃ a∈ats,(k:Int)∈a.2.1)
 | [],b,c,h,_,_=>by
   have:c=b:=by simpa [walk]using h
   subst this
   exact⟨goesOn_refl _,by simp,by simp⟩
 | a::ats,b,c,h,hw,hb=>by
   rcases walkF_mem (show c∈fs.foldl (walkG fs (walk fs ats) a b) [] from h)with h|⟨f,hf,h1,h2,h3⟩
   · simp at h
   have hrow:=hw.row a (by simp)
   have hlen:=hw.fit a (by simp) f hf h1
   obtain⟨g1,g2,g3⟩:=fitP_ok h2 (fun t ht=>by have:=(hrow.2 t ht).2;omega) (fun v hv'=>vVal_ne (hv f hf v hv')) hlen
   obtain⟨k1,k2,k3⟩:=walk_ok hv h3 hw.tail (by rw[fitP_len];exact hb)
   have hcl:c.length=5:=by rw[k1.1,fitP_len];exact hb
   refine⟨goesOn_trans g1 k1,fun a' ha=>?_,fun k hk=>?_⟩
   · rcases List.mem_cons.mp ha with rfl|ha
     · obtain⟨m1,m2⟩:=inst_fit (c:=c) h1 hlen (fun p hp=>termV_on k1 (g2 p hp) (vVal_ne (hv f hf _ (List.of_mem_zip hp).2))) (hv f hf) (fun t ht=>by have:=(hrow.2 t ht).2;omega)
       exact⟨m1,m2 ▸ hf⟩
     · exact k2 a' ha
   · rw[k3 k hk,g3 k (by omega)]
     simp only[List.mem_cons,exists_eq_or_imp,or_assoc]
theorem vInst_vals {x:TInst} (h:vInst x=true):∀ f∈x.2.1,∀ v∈f.2.1,vVal v=true:=fun f hf=>(vRow_spec (vInst_fact h hf)).2.2.2.2.2
theorem mem_vars {ats:List TFact} {k:Nat}:(k:Int)∈vars ats↔∃ a∈ats,(k:Int)∈a.2.1:=by
 unfold vars
 rw[mem_sset,List.mem_filter,List.mem_flatMap]
 simp
theorem finds_trig {x:TInst} {d:TDep} {b:List Int} (h:b∈finds x d.1):b.length=5∧trigB d b=true∧trigF x d b=true:=by
 have hb:=finds_len5 h
 unfold finds at h
 split at h
 · rename_i hm
   have hw:=(mOk_wok hm).1
   have hx:vInst x=true:=by unfold mOk at hm;simp only[Bool.and_eq_true]at hm;exact hm.2.1
   rcases dedF_mem h with h|h
   · simp at h
   obtain⟨_,h2,h3⟩:=walk_ok (vInst_vals hx) h hw rfl
   refine⟨hb,?_,?_⟩
   · unfold trigB
     refine List.all_eq_true.mpr fun k hk=>?_
     have hk:k<5:=by rw[hb]at hk;exact List.mem_range.mp hk
     have e:=h3 k hk
     have hbl:iAt blank k=10:=by
      rcases k with _|_|_|_|_|k<;>first|rfl|omega
     rw[←mem_vars]at e
     simp only[hbl,ne_eq,not_true,false_or]at e
     by_cases hm:(k:Int)∈vars d.1
     · rw[decide_eq_true hm,show(iAt b k == 10)=false from beq_eq_false_iff_ne.mpr (e.mpr hm)];rfl
     · have:iAt b k=10:=Classical.byContradiction fun h'=>hm (e.mp h')
       rw[decide_eq_false hm,this];rfl
   · unfold trigF
     refine List.all_eq_true.mpr fun a ha=>?_
     obtain⟨m1,m2⟩:=h2 a ha
     rw[m1,decide_eq_true m2];rfl
 · simp at h
theorem inst_vals {b:List Int}:∀ {ts s s':List Int},runE (instS b) ts s = .inr s'→s'=s++ts.map (fun t=>if 0≤t then iAt b t.toNat else -1 - t)∧(∀ t∈ts,vVal (if 0≤t then iAt b t.toNat else -1 - t)=true)
 |[],s,s',h=>by simp only[runE,Sum.inr.injEq]at h;subst h;simp
 | t::ts,s,s',h=>by
   simp only[runE]at h
   cases e:instS b s t with
   |inl _=>rw[e]at h;simp at h
   | inr s1=>
     rw[e]at h
     obtain⟨h1,h2⟩:=inst_vals h
     have h3:s1=s++[if 0≤t then iAt b t.toNat else -1 - t]∧vVal (if 0≤t then iAt b t.toNat else -1 - t)=true:=by
      unfold instS instG at e
      by_cases ht:0≤t
      · rw [if_pos ht]at e ⊢
        by_cases hl:(b.length:Int)≤t
        · rw[if_pos hl]at e;simp at e
        · rw[if_neg hl]at e
          by_cases hv:vVal (b.getD t.toNat 0)=true
          · rw[if_pos hv]at e
            simp only[Sum.inr.injEq]at e
            exact⟨e.symm,hv⟩
          · rw[if_neg hv]at e;simp at e
      · rw[if_neg ht]at e ⊢
        by_cases hv:vVal (-1 - t)=true
        · rw[if_pos hv]at e
          simp only[Sum.inr.injEq]at e
          exact⟨e.symm,hv⟩
        · rw[if_neg hv]at e;simp at e
     refine⟨by rw[h1,h3.1];simp,fun u hu=>?_⟩
     rcases List.mem_cons.mp hu with rfl|hu
     · exact h3.2
     · exact h2 u hu
theorem inst_at {a:TFact} {b:List Int} (h:instOk a b=true):(inst a b).1=a.1∧(inst a b).2.1=a.2.1.map (fun t=>if 0≤t then iAt b t.toNat else -1 - t)∧∀ t∈a.2.1,vVal (if 0≤t then iAt b t.toNat else -1 - t)=true:=by
 unfold instOk at h
 unfold inst
 cases e:runE (instS b) a.2.1 []with
 |inl r=>rw[e]at h;simp at h
 | inr s=>
   obtain⟨h1,h2⟩:=inst_vals e
   exact⟨rfl,by simpa using h1,h2⟩
theorem nulls_nextN {x:TInst} {f:TFact} (hf:f∈x.2.1) {v:Int} (hv:v∈f.2.1) (hn:isNul v=true):nulNo v<nextN x:=by
 have hr:=nextN_range x
 have hk:nulNo v∈nulI x:=by
  unfold nulI
  rw[mem_sset,List.mem_flatMap]
  refine⟨f,hf,mem_nulls.mpr ?_⟩
  have:=isNul_iff.mp hn
  have e:nulNo v = -1 - v:=by unfold nulNo;rw[if_pos hn]
  rw[e]
  exact⟨by omega,by omega,by rw[show -1 - (-1 - v)=v by omega];exact hv⟩
 have:=nextN_le (x:=x) (n:=(nextN x).toNat) |>.mp (by omega) _ hk
 omega
theorem trig_val {x:TInst} {d:TDep} {b:List Int} (hF:trigF x d b=true) {k:Nat} (hk:(k:Int)∈vars d.1):vVal (iAt b k)=true∧(isNul (iAt b k)=true→nulNo (iAt b k)<nextN x):=by
 obtain⟨a,ha,hka⟩:=mem_vars.mp hk
 have:=List.all_eq_true.mp hF a ha
 rw[Bool.and_eq_true,decide_eq_true_eq]at this
 obtain⟨_,h2,h3⟩:=inst_at this.1
 have e:(if (0:Int)≤(k:Int)then iAt b (k:Int).toNat else -1 - (k:Int))=iAt b k:=by rw[if_pos (by omega),Int.toNat_natCast]
 have h4:=h3 _ hka
 rw[e]at h4
 refine⟨h4,fun hn=>nulls_nextN this.2 ?_ hn⟩
 rw[h2]
 exact List.mem_map.mpr ⟨_,hka,e⟩
theorem vInst_mk {l:List TRel} {fs:List TFact} (h1:vRels l=true) (h2:asc fs) (h3:fs.length≤30) (h4:∀ f∈fs,vFact l f=true∧(srcAt l f.1=true→nulF f=[])):vInst (l,(fs,()))=true:=by
 rw[vInst_yes (x:=(l,(fs,()))) fun i hi=>?_]
 · simp only[h1,Bool.true_and];exact decide_eq_true h3
 · have hi:i<fs.length:=hi
   have hf:=h4 _ (List.getElem_mem hi)
   rw[factOk_split (x:=(l,(fs,()))) hi hf.1 (fun h0=>by simp only;rw[factAt_get (by omega)];exact h2 _ _ hi (by omega))]
   simp only
   cases hs:srcAt l fs[i].1 with
   |false=>rfl
   |true=>rw[hf.2 hs];rfl
theorem vInst_src {x:TInst} (h:vInst x=true) {f:TFact} (hf:f∈x.2.1) (hs:srcAt x.1 f.1=true):nulF f=[]:=by
 unfold vInst at h
 rw[Bool.and_eq_true]at h
 obtain⟨i,hi,rfl⟩:=List.mem_iff_getElem.mp hf
 have:=List.all_eq_true.mp h.2 i (List.mem_range.mpr hi)
 unfold factOk at this
 rw[Bool.and_eq_true,factAt_get hi,hs,Bool.true_and]at this
 have h2:=this.2
 simp at h2
 exact h2
def actT (x:TInst) (d:TDep):List (List Int):=if vDep x.1 d then(finds x d.1).filter (fun b=>act x d b)else[]
def hasA (x:TInst) (d:TDep):Bool:=!(actT x d).isEmpty
def viol (x:TInst) (ds:List TDep):Int×List Int×Bool:=if vInst x&&vDeps x.1 ds then(if firstAt (hasA x) ds<ds.length then((firstAt (hasA x) ds:Int),((actT x (ds.getD (firstAt (hasA x) ds) zDep)).getD 0 [],true))else(0,([],false)))else(0,([],false))
theorem filt_snoc {α:Type} {p:α→Bool} {l:List α} {i:Nat} (h:i<l.length):(l.take (i+1)).filter p=(l.take i).filter p++(if p l[i] then[l[i]] else[]):=by
 rw[take_succ_snoc h,List.filter_append]
 congr 1
 cases hp:p l[i]<;>simp[hp]
theorem filt_len {α:Type} {p:α→Bool} {l:List α} (i:Nat):((l.take i).filter p).length≤l.length:=by
 have h1:=List.length_filter_le p (l.take i)
 rw[List.length_take]at h1
 omega
theorem hasA_pos {x:TInst} {d:TDep}:decide (((actT x d).length:Int) > 0)=hasA x d:=by
 unfold hasA
 cases actT x d with
 |nil=>rfl
 |cons a l=>simp
theorem viol_no {x:TInst} {ds:List TDep} (h:(vInst x&&vDeps x.1 ds)=false):viol x ds=(0,([],false)):=by unfold viol;rw[h];rfl
theorem g_iActiveTriggers {x:TInst} {d:TDep}:G_iActiveTriggers x d (actT x d):=M_iActiveTriggers _ _ _ (by
 unfold S_iActiveTriggers
 refine⟨_,g_iIsValidDependency,bc_not (fun h=>by unfold actT;rw[h];rfl) (fun h=>⟨_,g_iFindMatches,lenI fun _=>?_⟩)⟩
 have hl:=finds_len (x:=x) (l:=d.1)
 unfold actT
 rw[h,if_pos rfl]
 rw[show List.map (fun y=>(true,y)) (finds x d.1)=mkd (finds x d.1) 0 from rfl]
 refine loopP_of (finds x d.1).length (fun i=>((i:Int),(((finds x d.1).take i).filter (fun b=>act x d b),(mkd (finds x d.1) i,())))) (by simp) ?_ ?_
 · intro i hi X hX
   have hf:=filt_len (p:=fun b=>act x d b) (l:=finds x d.1) i
   refine bcI hi (inI (by rw[mkd_len];exact hi) ?_)
   simp only[Int.toNat_natCast]
   rw[mkd_get hi]
   refine⟨rfl,_,g_iIsActiveTrigger,?_⟩
   simp only
   rw[mkd_set hi,w64_succ (by omega)]
   rw[filt_snoc hi]at hX
   refine bc_if (fun h=>⟨by simp only[maxL,List.length_cons,List.length_nil];omega,?_⟩) (fun h=>?_)
   · rw[if_pos h]at hX;exact hX
   · rw[if_neg (by rw[h];simp),List.append_nil]at hX;exact hX
 · intro X
   refine bcN ?_
   simp only[List.take_length])
theorem g_sActiveTriggers {x:TInst} {d:TDep}:G_sActiveTriggers x d (actT x d):=M_sActiveTriggers _ _ _ (by
 unfold S_sActiveTriggers
 refine⟨_,g_sIsValidDependency,bc_not (fun h=>by unfold actT;rw[h];rfl) (fun h=>⟨_,g_sFindMatches,?_⟩)⟩
 have hl:=finds_len (x:=x) (l:=d.1)
 unfold actT
 rw[h,if_pos rfl]
 refine loopP_of (finds x d.1).length (fun i=>((i:Int),(((finds x d.1).take i).filter (fun b=>act x d b),()))) (by simp) ?_ ?_
 · intro i hi X hX
   have hf:=filt_len (p:=fun b=>act x d b) (l:=finds x d.1) i
   refine lenI fun _=>bcI hi (inI hi ⟨_,g_sIsActiveTrigger,?_⟩)
   simp only
   rw[getI hi,w64_succ (by omega)]
   rw[filt_snoc hi]at hX
   refine bc_if (fun h=>inI hi ⟨by simp only[maxL,List.length_cons,List.length_nil];omega,?_⟩) (fun h=>?_)
   · rw[if_pos h]at hX;exact hX
   · rw[if_neg (by rw[h];simp),List.append_nil]at hX;exact hX
 · intro X
   refine lenI fun _=>bcN ?_
   simp only[List.take_length])
theorem g_iFirstViolation {x:TInst} {ds:List TDep}:G_iFirstViolation x ds (viol x ds).1 (viol x ds).2.1 (viol x ds).2.2:=M_iFirstViolation _ _ _ _ _ (by
 unfold S_iFirstViolation
 refine⟨_,g_iIsValidInstance,bc_not (fun h=>by rw[viol_no (by rw[h];rfl)]) (fun h1=>⟨_,g_iAreValidDependencies,bc_not (fun h=>by rw[viol_no (by rw[h1,h];rfl)]) (fun h2=>lenI fun _=>?_)⟩)⟩
 unfold viol
 rw[h1,h2]
 simp only[Bool.and_self,if_true]
 refine loop_first ds (hasA x) (fun i=>((i:Int),())) (KT:=fun i=>i=firstAt (hasA x) ds∧i<ds.length) (KF:=¬ firstAt (hasA x) ds<ds.length) ?_ ?_ (fun h=>⟨rfl,h⟩) (fun h=>by omega)
 · intro i hi X q1 q2
   refine bcI hi (inI hi ⟨_,g_iActiveTriggers,lenI fun _=>?_⟩)
   simp only
   rw[hasA_pos,getI hi,w64_succ (by omega)]
   refine bc_if (fun h=>?_) (fun h=>q2 h)
   obtain⟨e,hlt⟩:=q1 h
   have hp:0<(actT x ds[i]).length:=by
    unfold hasA at h
    cases ha:actT x ds[i]with
    |nil=>rw[ha]at h;simp at h
    |cons a l=>simp
   refine⟨⟨by omega,by omega⟩,?_⟩
   rw[if_pos (by omega),←e,getD_at hi]
   rfl
 · intro X h
   refine bcN ?_
   rw[if_neg h])
theorem g_sFirstViolation {x:TInst} {ds:List TDep}:G_sFirstViolation x ds (viol x ds).1 (viol x ds).2.1 (viol x ds).2.2:=M_sFirstViolation _ _ _ _ _ (by
 unfold S_sFirstViolation
 refine loop_first ds (hasA x) (fun i=>((i:Int),())) (KT:=fun i=>i=firstAt (hasA x) ds∧i<ds.length) (KF:=¬ firstAt (hasA x) ds<ds.length) ?_ ?_ (fun h=>⟨rfl,h⟩) (fun h=>by omega)
 · intro i hi X q1 q2
   refine lenI fun _=>bcI hi ⟨_,g_sAreValidDependencies,bc_if (fun h2=>⟨_,g_sIsValidInstance,bc_if (fun h1=>inI hi ⟨_,g_sActiveTriggers,lenI fun _=>?_⟩) (fun h1=>by rw[viol_no (by rw[h1];rfl)])⟩) (fun h2=>by rw[viol_no (by rw[h2];simp)])⟩
   simp only
   rw[hasA_pos,getI hi,w64_succ (by omega)]
   refine bc_if (fun h=>?_) (fun h=>q2 h)
   obtain⟨e,hlt⟩:=q1 h
   have hp:0<(actT x ds[i]).length:=by
    unfold hasA at h
    cases ha:actT x ds[i]with
    |nil=>rw[ha]at h;simp at h
    |cons a l=>simp
   refine⟨⟨by omega,by omega⟩,?_⟩
   unfold viol
   rw[h1,h2]
   simp only[Bool.and_self,if_true]
   rw[if_pos (by omega),←e,getD_at hi]
   rfl
 · intro X h
   refine lenI fun _=>bcN ?_
   unfold viol
   split
   · first|rfl|rw[if_neg h]
   · rfl)
def egdF (ds:List TDep):List TDep:=ds.filter fun d=>d.2.2.1
theorem g_iEqualityDependencies {ds:List TDep} (hl:ds.length≤1000) (h:∀ d∈ds,okDep d):G_iEqualityDependencies ds (egdF ds):=M_iEqualityDependencies _ _ (by
 unfold S_iEqualityDependencies egdF
 refine lenI fun _=>loopP_of ds.length (fun i=>((i:Int),((ds.take i).filter (fun d=>d.2.2.1),()))) (by simp) ?_ ?_
 · intro i hi X hX
   have hf:=filt_len (p:=fun d:TDep=>d.2.2.1) (l:=ds) i
   refine bcI hi (inI hi ?_)
   simp only
   rw[getI hi,w64_succ (by omega)]
   rw[filt_snoc hi]at hX
   refine bc_if (fun he=>⟨_,g_idependencyCopy (h _ (List.getElem_mem hi)),by simp only[maxL,List.length_cons,List.length_nil];omega,?_⟩) (fun he=>?_)
   · rw[if_pos he]at hX;exact hX
   · rw[if_neg (by rw[he];simp),List.append_nil]at hX;exact hX
 · intro X
   refine bcN ?_
   simp only[List.take_length])
theorem g_sEqualityDependencies {ds:List TDep} (hl:ds.length≤1000) (h:∀ d∈ds,okDep d):G_sEqualityDependencies ds (egdF ds):=M_sEqualityDependencies _ _ (by
 unfold S_sEqualityDependencies egdF
 refine loopP_of ds.length (fun i=>((i:Int),((ds.take i).filter (fun d=>d.2.2.1),()))) (by simp) ?_ ?_
 · intro i hi X hX
   have hf:=filt_len (p:=fun d:TDep=>d.2.2.1) (l:=ds) i
   refine lenI fun _=>bcI hi (inI hi ?_)
   simp only
   rw[getI hi,w64_succ (by omega)]
   rw[filt_snoc hi]at hX
   refine bc_if (fun he=>inI hi ⟨_,g_sl9Copy (h _ (List.getElem_mem hi)),by simp only[maxL,List.length_cons,List.length_nil];omega,?_⟩) (fun he=>?_)
   · rw[if_pos he]at hX;exact hX
   · rw[if_neg (by rw[he];simp),List.append_nil]at hX;exact hX
 · intro X
   refine lenI fun _=>bcN ?_
   simp only[List.take_length])
def ufAt (u:List Int) (k:Nat):Bool:=vVal (iAt u k)&&(!isNul (iAt u k)||(decide (nulNo (iAt u k)≤k)&&(iAt u (nulNo (iAt u k)).toNat == iAt u k)))
def ufOk (u:TUf):Bool:=(List.range u.1.length).all (ufAt u.1)&&decide (u.1.length≤40)
def findU (u:TUf) (v:Int):Int:=if isNul v&&(decide (nulNo v<u.1.length)&&ufOk u)then iAt u.1 (nulNo v).toNat else v
def memU (u:TUf) (v:Int):Bool:=vVal v&&(!isNul v||decide (nulNo v<u.1.length))
def repU (a b w:Int):Int:=if w=minI a b then maxI a b else w
def unionU (u:TUf) (a b:Int):TUf×Int:=
 if ufOk u&&(memU u a&&memU u b)then(if findU u a=findU u b then(u,0)else if 0≤findU u a∧0≤findU u b then(u,2)else((u.1.map (repU (findU u a) (findU u b)),()),1))else(u,2)
def subL (u:List Int) (n:Nat):List Nat:=(List.range n).filter fun k=>!(iAt u k == -1 - (k:Int))
def subU (u:TUf):TSub:=if ufOk u then((subL u.1 u.1.length).map (fun k:Nat=>(k:Int)),((subL u.1 u.1.length).map (fun k:Nat=>iAt u.1 k),()))else([],([],()))
def idU (n:Nat):List Int:=(List.range n).map fun k:Nat=>-1 - (k:Int)
theorem idU_at {n k:Nat} (h:k<n):iAt (idU n) k = -1 - (k:Int):=by
 unfold idU;rw[iAt_get (by simpa using h)];simp
theorem idU_len (n:Nat):(idU n).length=n:=by simp[idU]
theorem ufOk_no {u:TUf} {k:Nat} (hk:k<u.1.length) (h:ufAt u.1 k=false):ufOk u=false:=by
 rw[Bool.eq_false_iff]
 intro h'
 unfold ufOk at h'
 rw[Bool.and_eq_true]at h'
 have:=List.all_eq_true.mp h'.1 k (List.mem_range.mpr hk)
 rw[h]at this;cases this
theorem ufOk_yes {u:TUf} (h:∀ k,k<u.1.length→ufAt u.1 k=true):ufOk u=decide (u.1.length≤40):=by
 unfold ufOk
 rw[List.all_eq_true.mpr fun k hk=>h k (List.mem_range.mp hk),Bool.true_and]
theorem ufOk_at {u:TUf} (h:ufOk u=true) {k:Nat} (hk:k<u.1.length):vVal (iAt u.1 k)=true∧(isNul (iAt u.1 k)=true→nulNo (iAt u.1 k)≤k∧iAt u.1 (nulNo (iAt u.1 k)).toNat=iAt u.1 k):=by
 unfold ufOk at h
 rw[Bool.and_eq_true]at h
 have:=List.all_eq_true.mp h.1 k (List.mem_range.mpr hk)
 unfold ufAt at this
 rw[Bool.and_eq_true]at this
 refine⟨this.1,fun hn=>?_⟩
 have h2:=this.2
 rw[hn]at h2
 simpa using h2
theorem ufOk_len {u:TUf} (h:ufOk u=true):u.1.length≤40:=by
 unfold ufOk at h;rw[Bool.and_eq_true]at h;simpa using h.2
theorem g_iNewUnionFind {n:Nat} (h:n≤40):G_iNewUnionFind n (idU n,()):=M_iNewUnionFind _ _ (by
 unfold S_iNewUnionFind
 have hin:inR (n:Int) 0 40=true:=inR_iff.mpr ⟨by omega,by omega⟩
 refine⟨_,g_iwithin,bc_not (fun h'=>by rw[hin]at h';cases h') (fun _=>?_)⟩
 refine loopP_of n (fun i=>((i:Int),((idU i,()),()))) rfl ?_ ?_
 · intro i hi X hX
   refine bc_dec (fun _=>⟨_,g_iNullValue (by simp only;omega) (by simp only;omega),by simp only[maxL,idU_len,List.length_cons,List.length_nil];omega,?_⟩) (fun h'=>by simp only at h';omega)
   simp only
   rw[w64_succ (by omega)]
   have e:idU (i+1)=idU i++[-1 - (i:Int)]:=by unfold idU;rw[List.range_succ,List.map_append];rfl
   rw[e]at hX
   exact hX
 · intro X
   exact bcN rfl)
theorem g_sNewUnionFind {n:Nat} (h:n≤40):G_sNewUnionFind n (idU n,()):=M_sNewUnionFind _ _ (by
 unfold S_sNewUnionFind
 have hin:inR (n:Int) 0 40=true:=inR_iff.mpr ⟨by omega,by omega⟩
 refine loopP_of n (fun i=>((i:Int),((idU i,()),()))) rfl ?_ ?_
 · intro i hi X hX
   refine bc_dec (fun _=>⟨_,g_sl1In,bc_if (fun _=>⟨_,g_sNullValue (by simp only;omega) (by simp only;omega),by simp only[maxL,idU_len,List.length_cons,List.length_nil];omega,?_⟩) (fun h'=>by rw[hin]at h';cases h')⟩) (fun h'=>by simp only at h';omega)
   simp only
   rw[w64_succ (by omega)]
   have e:idU (i+1)=idU i++[-1 - (i:Int)]:=by unfold idU;rw[List.range_succ,List.map_append];rfl
   rw[e]at hX
   exact hX
 · intro X
   exact bcN rfl)
theorem g_iIsValidUnionFind {u:TUf}:G_iIsValidUnionFind u (ufOk u):=M_iIsValidUnionFind _ _ (by
 unfold S_iIsValidUnionFind
 have no:ufOk u=false→((false,()):Bool×Unit)=(ufOk u,()):=fun h=>by rw[h]
 refine lenI fun _=>loop_anyI u.1.length (fun k=>!ufAt u.1 k) (fun i=>((i:Int),())) (KT:=ufOk u=false) (KF:=ufOk u=decide (u.1.length≤40)) ?_ ?_ ?_ ?_
 · intro i hi X _ q1 q2
   have qn:ufAt u.1 i=false→((false,()):Bool×Unit)=(ufOk u,()):=fun h=>no (q1 (by rw[h];rfl))
   have qy:ufAt u.1 i=true→X (((i+1:Nat):Int),()):=fun h=>q2 (by rw[h];rfl)
   refine bcI hi (inI hi ⟨_,_,g_iNullNumber,_,g_iIsValidValue,?_⟩)
   simp only
   rw[getI hi,←iAt_get hi,w64_succ (by omega)]
   unfold ufAt at qn qy
   refine bc_not (fun h=>qn (by rw[h];rfl)) (fun hv=>bc_if (fun hn=>?_) (fun hn=>qy (by rw[hv,hn];rfl)))
   have h0:=nulNo_nonneg (iAt u.1 i)
   refine bc_dec (fun h=>qn (by rw[hv,hn,decide_eq_false (by omega)];rfl)) (fun h=>⟨⟨h0,by omega⟩,?_⟩)
   have hd:decide (nulNo (iAt u.1 i)≤i)=true:=decide_eq_true (by omega)
   refine bc_ne (fun h'=>qn ?_) (fun h'=>qy ?_)
   · have h':¬ iAt u.1 (nulNo (iAt u.1 i)).toNat=iAt u.1 i:=h'
     rw[hv,hn,hd,beq_eq_false_iff_ne.mpr h'];rfl
   · have h':iAt u.1 (nulNo (iAt u.1 i)).toNat=iAt u.1 i:=h'
     rw[hv,hn,hd,h'];simp
 · intro X h
   refine bcN (lenI fun _=>?_)
   have:decide ((u.1.length:Int)≤40)=decide (u.1.length≤40):=decide_eq_decide.mpr (by omega)
   rw[this,h]
 · rintro⟨i,hi,hp⟩;exact ufOk_no hi (nt hp)
 · intro h;exact ufOk_yes fun i hi=>nf (h i hi))
theorem nul_val {v:Int} (h:isNul v=true):vVal v=true:=by have:=isNul_iff.mp h;exact inR_iff.mpr ⟨by omega,by omega⟩
theorem const_val {v:Int} (h:isNul v=false):inR v 0 9=vVal v:=by
 rw[Bool.eq_iff_iff]
 unfold vVal
 rw[inR_iff,inR_iff]
 constructor
 · omega
 · intro h'
   refine⟨?_,h'.2⟩
   rcases Int.lt_or_le v 0 with h0|h0
   · rw[isNul_iff.mpr ⟨by omega,by omega⟩]at h;cases h
   · exact h0
theorem g_sIsValidUnionFind {u:TUf}:G_sIsValidUnionFind u (ufOk u):=M_sIsValidUnionFind _ _ (by
 unfold S_sIsValidUnionFind
 have no:ufOk u=false→((false,()):Bool×Unit)=(ufOk u,()):=fun h=>by rw[h]
 refine loop_anyI u.1.length (fun k=>!ufAt u.1 k) (fun i=>((i:Int),())) (KT:=ufOk u=false) (KF:=ufOk u=decide (u.1.length≤40)) ?_ ?_ ?_ ?_
 · intro i hi X _ q1 q2
   have qn:ufAt u.1 i=false→((false,()):Bool×Unit)=(ufOk u,()):=fun h=>no (q1 (by rw[h];rfl))
   have qy:ufAt u.1 i=true→X (((i+1:Nat):Int),()):=fun h=>q2 (by rw[h];rfl)
   refine lenI fun _=>bcI hi (inI hi ⟨_,_,g_sNullNumber,?_⟩)
   simp only
   rw[getI hi,←iAt_get hi,w64_succ (by omega)]
   unfold ufAt at qn qy
   refine bc_not (fun hn=>inI hi ⟨_,g_sl1In,?_⟩) (fun hn=>?_)
   · rw[const_val hn]
     refine bc_not (fun h=>qn (by rw[h];rfl)) (fun hv=>bc_if (fun h=>by rw[hn]at h;cases h) (fun _=>qy (by rw[hv,hn];rfl)))
   · have hv:=nul_val hn
     have h0:=nulNo_nonneg (iAt u.1 i)
     have h40:=isNul_iff.mp hn
     have hno:nulNo (iAt u.1 i) = -1 - iAt u.1 i:=by unfold nulNo;rw[if_pos hn]
     refine bc_if (fun _=>?_) (fun h=>by rw[hn]at h;cases h)
     refine bc_dec (fun h=>qn (by rw[hv,hn,decide_eq_false (by omega)];rfl)) (fun h=>⟨⟨h0,by omega⟩,_,g_sNullValue h0 (by omega),?_⟩)
     have hd:decide (nulNo (iAt u.1 i)≤i)=true:=decide_eq_true (by omega)
     have hb : -1 - nulNo (iAt u.1 i)=iAt u.1 i:=by omega
     rw[hb]
     refine bc_ne (fun h'=>qn ?_) (fun h'=>qy ?_)
     · have h':¬ iAt u.1 (nulNo (iAt u.1 i)).toNat=iAt u.1 i:=h'
       rw[hv,hn,hd,beq_eq_false_iff_ne.mpr h'];rfl
     · have h':iAt u.1 (nulNo (iAt u.1 i)).toNat=iAt u.1 i:=h'
       rw[hv,hn,hd,h'];simp
 · intro X h
   refine lenI fun _=>bcN (lenI fun _=>?_)
   have:decide ((u.1.length:Int)≤40)=decide (u.1.length≤40):=decide_eq_decide.mpr (by omega)
   rw[this,h]
 · rintro⟨i,hi,hp⟩;exact ufOk_no hi (nt hp)
 · intro h;exact ufOk_yes fun i hi=>nf (h i hi))
theorem findU_no {u:TUf} {v:Int} (h:(isNul v&&(decide (nulNo v<u.1.length)&&ufOk u))=false):findU u v=v:=by unfold findU;rw[h];rfl
theorem findU_yes {u:TUf} {v:Int} (h1:isNul v=true) (h2:nulNo v<u.1.length) (h3:ufOk u=true):findU u v=iAt u.1 (nulNo v).toNat:=by unfold findU;rw[h1,h3,decide_eq_true h2];rfl
theorem g_iFind {u:TUf} {v:Int}:G_iFind u v (findU u v):=M_iFind _ _ _ (by
 unfold S_iFind
 refine⟨_,_,g_iNullNumber,bc_not (fun h=>by rw[findU_no (by rw[h];rfl)]) (fun h1=>lenI fun _=>bc_dec (fun h=>?_) (fun h2=>⟨_,g_iIsValidUnionFind,bc_not (fun h=>by rw[findU_no (by rw[h];simp)]) (fun h3=>⟨⟨nulNo_nonneg v,by omega⟩,?_⟩)⟩))⟩
 · rw[findU_no (by rw[decide_eq_false (by omega)];simp)]
 · rw[findU_yes h1 (by omega) h3];rfl)
theorem g_sFind {u:TUf} {v:Int}:G_sFind u v (findU u v):=M_sFind _ _ _ (by
 unfold S_sFind
 refine⟨_,_,g_sNullNumber,bc_not (fun h=>by rw[findU_no (by rw[h];rfl)]) (fun h1=>⟨_,g_sIsValidUnionFind,bc_not (fun h=>by rw[findU_no (by rw[h];simp)]) (fun h3=>lenI fun _=>bc_dec (fun h=>?_) (fun h2=>⟨⟨nulNo_nonneg v,by omega⟩,?_⟩))⟩)⟩
 · rw[findU_no (by rw[decide_eq_false (by omega)];simp)]
 · rw[findU_yes h1 (by omega) h3];rfl)
theorem g_iisMember {u:TUf} {v:Int}:G_iisMember u v (memU u v):=M_iisMember _ _ _ (by
 unfold S_iisMember
 refine⟨_,_,g_iNullNumber,_,g_iIsValidValue,bc_if (fun h=>bc_not (fun h2=>by unfold memU;rw[h,h2];rfl) (fun h2=>lenI fun _=>by unfold memU;rw[h,h2];rfl)) (fun h=>by unfold memU;rw[h];rfl)⟩)
theorem unionU_bad {u:TUf} {a b:Int} (h:(ufOk u&&(memU u a&&memU u b))=false):unionU u a b=(u,2):=by unfold unionU;rw[h];rfl
theorem unionU_ok {u:TUf} {a b:Int} (h:(ufOk u&&(memU u a&&memU u b))=true):unionU u a b=(if findU u a=findU u b then(u,0)else if 0≤findU u a∧0≤findU u b then(u,2)else((u.1.map (repU (findU u a) (findU u b)),()),1)):=by unfold unionU;rw[h];rfl
theorem map_same {l:List Int} {g:Int→Int} {i:Nat} (hi:i<l.length) (h:g l[i]=l[i]):(l.take (i+1)).map g++l.drop (i+1)=(l.take i).map g++l.drop i:=by
 rw[take_succ_snoc hi,List.map_append,List.append_assoc,drop_cons hi]
 simp[h]
theorem mix_at {l:List Int} {g:Int→Int} {i:Nat} (hi:i<l.length):((l.take i).map g++l.drop i).getD i 0=l[i]:=by
 rw[List.getD_eq_getElem?_getD,List.getElem?_append_right (by simp;omega)]
 simp[Nat.min_eq_left (Nat.le_of_lt hi),hi]
theorem mix_all {l:List Int} {g:Int→Int} {i:Nat} (hi:i≤l.length):((l.take i).map g++l.drop i).length=l.length:=by simp;omega
theorem repU_min (a b:Int):repU a b (minI a b)=maxI a b:=by unfold repU;rw[if_pos rfl]
theorem repU_ne {a b w:Int} (h:w≠minI a b):repU a b w=w:=by unfold repU;rw[if_neg h]
theorem g_iUnion {u:TUf} {a b:Int} (hl:u.1.length≤1000000):G_iUnion u a b (unionU u a b).1 (unionU u a b).2:=M_iUnion _ _ _ _ _ (by
 unfold S_iUnion
 refine⟨u.1,g_slices_Clone_int (by omega),_,g_iFind,_,g_iFind,_,g_iIsValidUnionFind,bc_not (fun h=>by rw[unionU_bad (by rw[h];rfl)]) (fun h1=>⟨_,g_iisMember,bc_not (fun h=>by rw[unionU_bad (by rw[h];simp)]) (fun h2=>⟨_,g_iisMember,bc_not (fun h=>by rw[unionU_bad (by rw[h];simp)]) (fun h3=>?_)⟩)⟩)⟩
 rw[unionU_ok (by rw[h1,h2,h3];rfl)]
 refine bc_beq (fun h=>by rw[if_pos h]) (fun hne=>?_)
 rw[if_neg hne]
 have fin:¬ (0≤findU u a∧0≤findU u b)→∀(KK:TUf×Int×Unit→Prop),KK=(fun r=>r=((if 0≤findU u a∧0≤findU u b then(u,(2:Int))else((u.1.map (repU (findU u a) (findU u b)),()),1)).1,((if 0≤findU u a∧0≤findU u b then(u,(2:Int))else((u.1.map (repU (findU u a) (findU u b)),()),1)).2,())))→
   LoopP (fun(again:Int×TUf×Unit→Prop) (s:Int×TUf×Unit)=>bcase (decide (s.1<(List.length u.1:Int))) ((0≤s.1∧s.1<(List.length s.2.1.1:Int))∧(bcase ((s.2.1.1.getD (Int.toNat s.1) (0:Int)) == (minI (findU u a) (findU u b))) ((0≤s.1∧s.1<(List.length s.2.1.1:Int))∧(again (w64 (s.1+(1:Int)),((s.2.1.1.set (Int.toNat s.1) (maxI (findU u a) (findU u b)),s.2.1.2),())))) (again (w64 (s.1+(1:Int)),(s.2.1,()))))) (KK ((s.2.1.1,s.2.1.2),((1:Int),())))) ((0:Int),((u.1,()),())):=by
  intro hc KK hK
  refine loopP_of u.1.length (fun i=>((i:Int),(((u.1.take i).map (repU (findU u a) (findU u b))++u.1.drop i,()),()))) (by simp) ?_ ?_
  · intro i hi X hX
    have hm:=mix_all (g:=repU (findU u a) (findU u b)) (Nat.le_of_lt hi)
    refine bcI hi ⟨⟨by simp only;omega,by simp only;omega⟩,?_⟩
    simp only
    rw[Int.toNat_natCast,mix_at hi,w64_succ (by omega)]
    refine bc_beq (fun h=>⟨⟨by omega,by omega⟩,?_⟩) (fun h=>?_)
    · have e:=map_set (g:=repU (findU u a) (findU u b)) hi
      rw[h,repU_min]at e
      rw[e];exact hX
    · rw[←map_same hi (repU_ne h)];exact hX
  · intro X
    refine bcN ?_
    rw[hK]
    simp only[List.take_length,List.drop_length,List.append_nil]
    rw[if_neg hc]
 refine⟨_,g_iIsNull,bc_not (fun ha=>⟨_,g_iIsNull,bc_not (fun hb=>?_) (fun hb=>?_)⟩) (fun ha=>?_)⟩
 · simp only[decide_eq_false_iff_not]at ha hb
   rw[if_pos ⟨by omega,by omega⟩]
 · simp only[decide_eq_false_iff_not,decide_eq_true_eq]at ha hb
   exact lenI fun _=>fin (by omega) _ rfl
 · simp only[decide_eq_true_eq]at ha
   exact lenI fun _=>fin (by omega) _ rfl)
theorem g_sUnion {u:TUf} {a b:Int} (hl:u.1.length≤1000000):G_sUnion u a b (unionU u a b).1 (unionU u a b).2:=M_sUnion _ _ _ _ _ (by
 unfold S_sUnion
 simp only[List.nil_append]
 refine⟨by simp only[maxL,List.length_nil];omega,_,_,g_sNullNumber,_,_,g_sNullNumber,_,g_sIsValidUnionFind,bc_not (fun h=>by rw[unionU_bad (by rw[h];rfl)]) (fun h1=>⟨_,g_sIsValidValue,bc_not (fun h=>by rw[unionU_bad (by unfold memU;rw[h];simp)]) (fun h2=>⟨_,g_sIsValidValue,bc_not (fun h=>by rw[unionU_bad (by unfold memU;rw[h];simp)]) (fun h3=>?_)⟩)⟩)⟩
 have fin:memU u a=true→memU u b=true→∃ y1:Int,G_sFind u a y1∧(∃ y2:Int,G_sFind u b y2∧(bcase (y1 == y2) (((u.1,()),((0:Int),()))=((unionU u a b).1,((unionU u a b).2,()))) (bcase (decide (y1≥(0:Int))) (bcase (decide (y2≥(0:Int))) (((u.1,()),((2:Int),()))=((unionU u a b).1,((unionU u a b).2,())))
   (LoopP (fun(again:Int×TUf×Unit→Prop) (s:Int×TUf×Unit)=>lenA (List.length s.2.1.1:Int) (bcase (decide (s.1<(List.length s.2.1.1:Int))) ((0≤s.1∧s.1<(List.length s.2.1.1:Int))∧(bcase ((s.2.1.1.getD (Int.toNat s.1) (0:Int)) == (minI y1 y2)) ((0≤s.1∧s.1<(List.length s.2.1.1:Int))∧(again (w64 (s.1+(1:Int)),((s.2.1.1.set (Int.toNat s.1) (maxI y1 y2),s.2.1.2),())))) (again (w64 (s.1+(1:Int)),(s.2.1,()))))) (((s.2.1.1,s.2.1.2),((1:Int),()))=((unionU u a b).1,((unionU u a b).2,()))))) ((0:Int),((u.1,()),()))))
   (LoopP (fun(again:Int×TUf×Unit→Prop) (s:Int×TUf×Unit)=>lenA (List.length s.2.1.1:Int) (bcase (decide (s.1<(List.length s.2.1.1:Int))) ((0≤s.1∧s.1<(List.length s.2.1.1:Int))∧(bcase ((s.2.1.1.getD (Int.toNat s.1) (0:Int)) == (minI y1 y2)) ((0≤s.1∧s.1<(List.length s.2.1.1:Int))∧(again (w64 (s.1+(1:Int)),((s.2.1.1.set (Int.toNat s.1) (maxI y1 y2),s.2.1.2),())))) (again (w64 (s.1+(1:Int)),(s.2.1,()))))) (((s.2.1.1,s.2.1.2),((1:Int),()))=((unionU u a b).1,((unionU u a b).2,()))))) ((0:Int),((u.1,()),())))))):=by
  intro ha hb
  rw[unionU_ok (by rw[h1,ha,hb];rfl)]
  have lp:findU u a≠findU u b→¬ (0≤findU u a∧0≤findU u b)→
   LoopP (fun(again:Int×TUf×Unit→Prop) (s:Int×TUf×Unit)=>lenA (List.length s.2.1.1:Int) (bcase (decide (s.1<(List.length s.2.1.1:Int))) ((0≤s.1∧s.1<(List.length s.2.1.1:Int))∧(bcase ((s.2.1.1.getD (Int.toNat s.1) (0:Int)) == (minI (findU u a) (findU u b))) ((0≤s.1∧s.1<(List.length s.2.1.1:Int))∧(again (w64 (s.1+(1:Int)),((s.2.1.1.set (Int.toNat s.1) (maxI (findU u a) (findU u b)),s.2.1.2),())))) (again (w64 (s.1+(1:Int)),(s.2.1,()))))) (((s.2.1.1,s.2.1.2),((1:Int),()))=((if findU u a=findU u b then(u,(0:Int))else if 0≤findU u a∧0≤findU u b then(u,2)else((u.1.map (repU (findU u a) (findU u b)),()),1)).1,((if findU u a=findU u b then(u,(0:Int))else if 0≤findU u a∧0≤findU u b then(u,2)else((u.1.map (repU (findU u a) (findU u b)),()),1)).2,()))))) ((0:Int),((u.1,()),())):=by
   intro hne hc
   refine loopP_of u.1.length (fun i=>((i:Int),(((u.1.take i).map (repU (findU u a) (findU u b))++u.1.drop i,()),()))) (by simp) ?_ ?_
   · intro i hi X hX
     have hm:=mix_all (g:=repU (findU u a) (findU u b)) (Nat.le_of_lt hi)
     simp only
     rw[hm]
     refine lenI fun _=>bcI hi (inI hi ?_)
     rw[Int.toNat_natCast,mix_at hi,w64_succ (by omega)]
     refine bc_beq (fun h=>inI hi ?_) (fun h=>?_)
     · have e:=map_set (g:=repU (findU u a) (findU u b)) hi
       rw[h,repU_min]at e
       rw[e];exact hX
     · rw[←map_same hi (repU_ne h)];exact hX
   · intro X
     have hm:=mix_all (l:=u.1) (g:=repU (findU u a) (findU u b)) (Nat.le_refl _)
     simp only
     rw[hm]
     refine lenI fun _=>bcN ?_
     simp only[List.take_length,List.drop_length,List.append_nil]
     rw[if_neg hne,if_neg hc]
  refine⟨_,g_sFind,_,g_sFind,bc_beq (fun h=>by rw[if_pos h]) (fun hne=>bc_dec (fun hp=>bc_dec (fun hq=>?_) (fun hq=>?_)) (fun hp=>?_))⟩
  · rw[if_neg hne,if_pos ⟨hp,hq⟩]
  · exact lp hne (fun h=>hq h.2)
  · exact lp hne (fun h=>hp h.1)
 refine bc_if (fun n1=>lenI fun _=>bc_dec (fun h=>?_) (fun h=>bc_if (fun n2=>lenI fun _=>bc_dec (fun h'=>?_) (fun h'=>?_)) (fun n2=>?_))) (fun n1=>bc_if (fun n2=>lenI fun _=>bc_dec (fun h'=>?_) (fun h'=>?_)) (fun n2=>?_))
 · rw[unionU_bad (by unfold memU;rw[n1,decide_eq_false (show ¬ nulNo a<u.1.length by omega)];simp)]
 · rw[unionU_bad (by unfold memU;rw[n2,decide_eq_false (show ¬ nulNo b<u.1.length by omega)];simp)]
 · exact fin (by unfold memU;rw[h2,n1,decide_eq_true (show nulNo a<u.1.length by omega)];rfl) (by unfold memU;rw[h3,n2,decide_eq_true (show nulNo b<u.1.length by omega)];rfl)
 · exact fin (by unfold memU;rw[h2,n1,decide_eq_true (show nulNo a<u.1.length by omega)];rfl) (by unfold memU;rw[h3,n2];rfl)
 · rw[unionU_bad (by unfold memU;rw[n2,decide_eq_false (show ¬ nulNo b<u.1.length by omega)];simp)]
 · exact fin (by unfold memU;rw[h2,n1];rfl) (by unfold memU;rw[h3,n2,decide_eq_true (show nulNo b<u.1.length by omega)];rfl)
 · exact fin (by unfold memU;rw[h2,n1];rfl) (by unfold memU;rw[h3,n2];rfl))
theorem subL_snoc {u:List Int} {n:Nat}:subL u (n+1)=subL u n++(if iAt u n = -1 - (n:Int)then[] else[n]):=by
 unfold subL
 rw[List.range_succ,List.filter_append]
 congr 1
 by_cases h:iAt u n = -1 - (n:Int)
 · simp[h]
 · simp[h]
theorem subL_len {u:List Int} {n:Nat}:(subL u n).length≤n:=by
 have:=List.length_filter_le (fun k=>!(iAt u k == -1 - (k:Int))) (List.range n)
 simpa [subL]using this
theorem g_iUnionSubstitution {u:TUf}:G_iUnionSubstitution u (subU u):=M_iUnionSubstitution _ _ (by
 unfold S_iUnionSubstitution subU
 refine⟨_,g_iIsValidUnionFind,bc_not (fun h=>by rw[h];rfl) (fun h=>lenI fun _=>?_)⟩
 have hl:=ufOk_len h
 rw[h,if_pos rfl]
 refine loopP_of u.1.length (fun i=>((i:Int),(((subL u.1 i).map (fun k:Nat=>(k:Int)),((subL u.1 i).map (fun k:Nat=>iAt u.1 k),())),()))) rfl ?_ ?_
 · intro i hi X hX
   have hs:=subL_len (u:=u.1) (n:=i)
   refine bcI hi (inI hi ⟨_,g_iNullValue (by simp only;omega) (by simp only;omega),?_⟩)
   simp only
   rw[getI hi,←iAt_get hi,w64_succ (by omega)]
   rw[subL_snoc]at hX
   refine bc_ne (fun h'=>⟨trivial,trivial,by simp only[maxL,List.length_map,List.length_cons,List.length_nil];omega,by simp only[maxL,List.length_map,List.length_cons,List.length_nil];omega,?_⟩) (fun h'=>?_)
   · rw[if_neg h',List.map_append,List.map_append]at hX;exact hX
   · rw[if_pos h',List.append_nil]at hX;exact hX
 · intro X
   exact bcN rfl)
theorem g_sUnionSubstitution {u:TUf}:G_sUnionSubstitution u (subU u):=M_sUnionSubstitution _ _ (by
 unfold S_sUnionSubstitution
 by_cases h:ufOk u=true
 · have hl:=ufOk_len h
   unfold subU
   rw[h,if_pos rfl]
   refine loopP_of u.1.length (fun i=>((i:Int),(((subL u.1 i).map (fun k:Nat=>(k:Int)),((subL u.1 i).map (fun k:Nat=>iAt u.1 k),())),()))) rfl ?_ ?_
   · intro i hi X hX
     have hs:=subL_len (u:=u.1) (n:=i)
     refine lenI fun _=>bcI hi ⟨_,g_sIsValidUnionFind,bc_if (fun _=>inI hi ⟨_,g_sNullValue (by simp only;omega) (by simp only;omega),?_⟩) (fun h'=>by rw[h]at h';cases h')⟩
     simp only
     rw[getI hi,←iAt_get hi,w64_succ (by omega)]
     rw[subL_snoc]at hX
     refine bc_ne (fun h'=>⟨by simp only[maxL,List.length_map,List.length_cons,List.length_nil];omega,⟨by omega,by omega⟩,by simp only[maxL,List.length_map,List.length_cons,List.length_nil];omega,?_⟩) (fun h'=>?_)
     · rw[if_neg h',List.map_append,List.map_append]at hX;exact hX
     · rw[if_pos h',List.append_nil]at hX;exact hX
   · intro X
     exact lenI fun _=>bcN rfl
 · have h:ufOk u=false:=by simpa using h
   unfold subU
   rw[h]
   refine loopP_down (fun k a=>a=((0:Int),((([]:List Int),(([]:List Int),())),()))) ?_ ?_ (n:=0) rfl
   · rintro a rfl X
     exact lenI fun _=>bc_dec (fun _=>⟨_,g_sIsValidUnionFind,bc_if (fun h'=>by rw[h]at h';cases h') (fun _=>rfl)⟩) (fun _=>rfl)
   · rintro k a rfl X hX
     exact lenI fun _=>bc_dec (fun _=>⟨_,g_sIsValidUnionFind,bc_if (fun h'=>by rw[h]at h';cases h') (fun _=>rfl)⟩) (fun _=>rfl))
theorem countP_lt {p q:Nat→Bool}:∀ {l:List Nat},(∀ k∈l,q k=true→p k=true)→(∃ k∈l,p k=true∧q k=false)→l.countP q<l.countP p
 |[],_,h=>by obtain⟨k,hk,_⟩:=h;simp at hk
 | a::l,h1,h2=>by
   rw[List.countP_cons,List.countP_cons]
   have hle:l.countP q≤l.countP p:=List.countP_mono_left fun k hk=>h1 k (by simp[hk])
   obtain⟨k,hk,hp,hq⟩:=h2
   rcases List.mem_cons.mp hk with rfl|hk
   · rw[hp,hq];simp;omega
   · have ih:=countP_lt (l:=l) (fun k hk=>h1 k (by simp[hk])) ⟨k,hk,hp,hq⟩
     have:=h1 a (by simp)
     cases hqa:q a with
     |false=>cases p a<;>simp<;>omega
     |true=>rw[this hqa];simp;omega
def rootsU (u:List Int):Nat:=(List.range u.length).countP fun k=>iAt u k == -1 - (k:Int)
theorem rootsU_le (u:List Int):rootsU u≤u.length:=by
 have:=List.countP_le_length (p:=fun k:Nat=>iAt u k == -1 - (k:Int)) (l:=List.range u.length)
 simpa [rootsU]using this
def Reps (n:Nat) (u:List Int) (y:TInst):Prop:=∀ f∈y.2.1,∀ v∈f.2.1,isNul v=true→nulNo v<n∧iAt u (nulNo v).toNat=v
theorem trig_occ {x:TInst} {d:TDep} {b:List Int} (hF:trigF x d b=true) {k:Nat} (hk:(k:Int)∈vars d.1):∃ f∈x.2.1,iAt b k∈f.2.1:=by
 obtain⟨a,ha,hka⟩:=mem_vars.mp hk
 have:=List.all_eq_true.mp hF a ha
 rw[Bool.and_eq_true,decide_eq_true_eq]at this
 obtain⟨_,h2,_⟩:=inst_at this.1
 refine⟨_,this.2,?_⟩
 rw[h2]
 exact List.mem_map.mpr ⟨_,hka,by rw[if_pos (by omega),Int.toNat_natCast]⟩
theorem vDep_egd {l:List TRel} {d:TDep} (h:vDep l d=true) (he:d.2.2.1=true):d.2.2.2.1∈vars d.1∧d.2.2.2.2.1∈vars d.1:=by
 unfold vDep at h
 rw[he]at h
 simp only[Bool.and_eq_true,if_pos,decide_eq_true_eq]at h
 exact⟨h.2.1.1.2,h.2.1.2⟩
theorem viol_yes {y:TInst} {e:List TDep} (h:(viol y e).2.2=true):∃ i:Nat,(viol y e).1=i∧i<e.length∧vInst y=true∧vDep y.1 (depAt e i)=true∧(depAt e i)∈e∧(viol y e).2.1∈finds y (depAt e i).1∧act y (depAt e i) (viol y e).2.1=true:=by
 unfold viol at h ⊢
 by_cases hc:(vInst y&&vDeps y.1 e)=true
 · rw [if_pos hc]at h ⊢
   rw[Bool.and_eq_true]at hc
   by_cases hf:firstAt (hasA y) e<e.length
   · rw [if_pos hf]at h ⊢
     have hd:depAt e (firstAt (hasA y) e:Int)=e[firstAt (hasA y) e]:=by unfold depAt;rw[Int.toNat_natCast];exact getD_at hf
     have hd2:e.getD (firstAt (hasA y) e) zDep=e[firstAt (hasA y) e]:=getD_at hf
     have hm:e[firstAt (hasA y) e]∈e:=List.getElem_mem hf
     refine⟨_,rfl,hf,hc.1,?_,by rw[hd];exact hm,?_⟩
     · rw[hd];exact vDeps_mem hc.2 hm
     · have hA:=firstAt_at hf
       simp only
       rw[hd,hd2]
       generalize e[firstAt (hasA y) e]=d at hA
       have hb:(actT y d).getD 0 []∈actT y d:=by
        unfold hasA at hA
        cases hl:actT y d with
        |nil=>rw[hl]at hA;simp at hA
        |cons a l=>simp
       unfold actT at hb
       by_cases hv:vDep y.1 d=true
       · rw[if_pos hv]at hb
         have:=List.mem_filter.mp hb
         have e2:actT y d=(finds y d.1).filter (fun b=>act y d b):=by unfold actT;rw[if_pos hv]
         rw[e2]
         exact this
       · rw[if_neg hv]at hb;simp at hb
   · rw[if_neg hf]at h;simp at h
 · rw[if_neg hc]at h;simp at h
def ceA (y:TInst) (e:List TDep):Int:=iAt (viol y e).2.1 (depAt e (viol y e).1).2.2.2.1.toNat
def ceB (y:TInst) (e:List TDep):Int:=iAt (viol y e).2.1 (depAt e (viol y e).1).2.2.2.2.1.toNat
def ceK (x:TInst) (e:List TDep):Nat→TInst→List Int→TInst×TUf×Int
 |0,y,u=>(y,(u,()),1)
 |k+1,y,u=>if (viol y e).2.2 then(if (unionU (u,()) (ceA y e) (ceB y e)).2=2 then(y,(u,()),2)else ceK x e k (appI (subU (unionU (u,()) (ceA y e) (ceB y e)).1) x) (unionU (u,()) (ceA y e) (ceB y e)).1.1)else(y,(u,()),1)
structure CeOk (n:Nat) (x:TInst) (e:List TDep) (y:TInst) (u:List Int):Prop where
 uf:ufOk (u,())=true
 len:u.length=n
 reps:Reps n u y
 src:∀ f∈x.2.1,∀ v∈f.2.1,isNul v=true→nulNo v<n
 egd:∀ d∈e,d.2.2.1=true
section
variable {n:Nat} {x y:TInst} {e:List TDep} {u:List Int}
theorem CeOk.pair (h:CeOk n x e y u) (hv:(viol y e).2.2=true):∃(i:Nat) (d:TDep),(viol y e).1=i∧i<e.length∧e.getD (Int.toNat (viol y e).1) zDep=d∧(viol y e).2.1.length=5∧(0≤d.2.2.2.1∧d.2.2.2.1<5)∧(0≤d.2.2.2.2.1∧d.2.2.2.2.1<5)∧
  ceA y e=iAt (viol y e).2.1 d.2.2.2.1.toNat∧ceB y e=iAt (viol y e).2.1 d.2.2.2.2.1.toNat∧ceA y e≠ceB y e∧
  (vVal (ceA y e)=true∧(isNul (ceA y e)=true→nulNo (ceA y e)<n∧iAt u (nulNo (ceA y e)).toNat=ceA y e))∧(vVal (ceB y e)=true∧(isNul (ceB y e)=true→nulNo (ceB y e)<n∧iAt u (nulNo (ceB y e)).toNat=ceB y e)):=by
 obtain⟨i,hi,hlt,hy,hd,hm,hf,ha⟩:=viol_yes hv
 have he:=h.egd _ hm
 obtain⟨h5,_,hF⟩:=finds_trig hf
 obtain⟨hs1,hs2⟩:=vDep_sides hd he
 obtain⟨hv1,hv2⟩:=vDep_egd hd he
 have hne:iAt (viol y e).2.1 (depAt e i).2.2.2.1.toNat≠iAt (viol y e).2.1 (depAt e i).2.2.2.2.1.toNat:=by
  unfold act at ha
  rw[he,Bool.and_eq_true]at ha
  simpa using ha.2
 have val:∀ k:Int,0≤k→k∈vars (depAt e i).1→vVal (iAt (viol y e).2.1 k.toNat)=true∧(isNul (iAt (viol y e).2.1 k.toNat)=true→nulNo (iAt (viol y e).2.1 k.toNat)<n∧iAt u (nulNo (iAt (viol y e).2.1 k.toNat)).toNat=iAt (viol y e).2.1 k.toNat):=by
  intro k h0 hk
  have hk':((k.toNat:Nat):Int)∈vars (depAt e i).1:=by rw[show((k.toNat:Nat):Int)=k by omega];exact hk
  obtain⟨f,hf,hvf⟩:=trig_occ hF hk'
  exact⟨(trig_val hF hk').1,h.reps f hf _ hvf⟩
 have hce:depAt e (viol y e).1=depAt e i:=by rw[hi]
 refine⟨i,depAt e i,hi,hlt,?_,h5,hs1,hs2,?_,?_,?_,?_,?_⟩
 · rw[hi];rfl
 · unfold ceA;rw[hce]
 · unfold ceB;rw[hce]
 · unfold ceA ceB;rw[hce];exact hne
 · unfold ceA;rw[hce];exact val _ hs1.1 hv1
 · unfold ceB;rw[hce];exact val _ hs2.1 hv2
theorem CeOk.un (h:CeOk n x e y u) (hv:(viol y e).2.2=true):unionU (u,()) (ceA y e) (ceB y e)=if 0≤ceA y e∧0≤ceB y e then((u,()),2)else((u.map (repU (ceA y e) (ceB y e)),()),1):=by
 obtain⟨_,_,_,_,_,_,_,_,_,_,hne,⟨a1,a2⟩,⟨b1,b2⟩⟩:=h.pair hv
 have fd:∀ v:Int,vVal v=true→(isNul v=true→nulNo v<n∧iAt u (nulNo v).toNat=v)→findU (u,()) v=v∧memU (u,()) v=true:=by
  intro v h1 h2
  cases hn:isNul v with
  |false=>exact⟨findU_no (by rw[hn];rfl),by unfold memU;rw[h1,hn];rfl⟩
  | true=>
    obtain⟨q1,q2⟩:=h2 hn
    have hl:nulNo v<((u,()):TUf).1.length:=by rw[show((u,()):TUf).1=u from rfl,h.len];exact q1
    exact⟨by rw[findU_yes hn hl h.uf];exact q2,by unfold memU;rw[h1,hn,decide_eq_true hl];rfl⟩
 obtain⟨fa,ma⟩:=fd _ a1 a2
 obtain⟨fb,mb⟩:=fd _ b1 b2
 rw[unionU_ok (by rw[h.uf,ma,mb];rfl),fa,fb,if_neg hne]
theorem iAt_map {l:List Int} {g:Int→Int} {k:Nat} (h:k<l.length):iAt (l.map g) k=g (iAt l k):=by
 rw[iAt_get (by simpa using h),iAt_get h,List.getElem_map]
theorem CeOk.step (h:CeOk n x e y u) (hv:(viol y e).2.2=true) (hc:¬ (0≤ceA y e∧0≤ceB y e)) :
  CeOk n x e (appI (subU (u.map (repU (ceA y e) (ceB y e)),())) x) (u.map (repU (ceA y e) (ceB y e)))∧rootsU (u.map (repU (ceA y e) (ceB y e)))<rootsU u:=by
 obtain⟨_,_,_,_,_,_,_,_,_,_,hne,⟨a1,a2⟩,⟨b1,b2⟩⟩:=h.pair hv
 generalize ceA y e=a at hne a1 a2 hc ⊢
 generalize ceB y e=b at hne b1 b2 hc ⊢
 have hlen:=h.len
 have hn40:=ufOk_len h.uf
 have hn40:n≤40:=by rw[←hlen];exact hn40
 have hra:=inR_iff.mp a1
 have hrb:=inR_iff.mp b1
 have hfr:isNul (minI a b)=true∧nulNo (minI a b)<n∧iAt u (nulNo (minI a b)).toNat=minI a b∧minI a b<maxI a b:=by
  unfold minI maxI
  by_cases hba:b<a
  · rw[if_pos hba,if_neg (by omega)]
    have hnl:isNul b=true:=isNul_iff.mpr ⟨by omega,by omega⟩
    exact⟨hnl,(b2 hnl).1,(b2 hnl).2,hba⟩
  · rw[if_neg hba,if_pos (by omega)]
    have hnl:isNul a=true:=isNul_iff.mpr ⟨by omega,by omega⟩
    exact⟨hnl,(a2 hnl).1,(a2 hnl).2,by omega⟩
 have hto:vVal (maxI a b)=true∧(isNul (maxI a b)=true→nulNo (maxI a b)<n∧iAt u (nulNo (maxI a b)).toNat=maxI a b):=by
  unfold maxI
  split
  · exact⟨b1,b2⟩
  · exact⟨a1,a2⟩
 obtain⟨f1,f2,f3,f4⟩:=hfr
 have hnf:nulNo (minI a b) = -1 - minI a b:=by unfold nulNo;rw[if_pos f1]
 have f0:=nulNo_nonneg (minI a b)
 have hat:∀ k,k<n→iAt (u.map (repU a b)) k=repU a b (iAt u k):=fun k hk=>iAt_map (by omega)
 have huf:ufOk (u.map (repU a b),())=true:=by
  rw[ufOk_yes fun k hk=>?_]
  · simp only[List.length_map];exact decide_eq_true (by omega)
  · have hk:k<n:=by rw[←hlen];simpa using hk
    obtain⟨w1,w2⟩:=ufOk_at h.uf (k:=k) (by show k<u.length;omega)
    have w1:vVal (iAt u k)=true:=w1
    have w2:isNul (iAt u k)=true→nulNo (iAt u k)≤k∧iAt u (nulNo (iAt u k)).toNat=iAt u k:=w2
    unfold ufAt
    simp only
    rw[hat k hk]
    by_cases hw:iAt u k=minI a b
    · rw[hw,repU_min,hto.1,Bool.true_and]
      cases hz:isNul (maxI a b)with
      |false=>rfl
      | true=>
        obtain⟨t1,t2⟩:=hto.2 hz
        have t0:=nulNo_nonneg (maxI a b)
        have hnt:nulNo (maxI a b) = -1 - maxI a b:=by unfold nulNo;rw[if_pos hz]
        rw[hw]at w2
        have:=(w2 f1).1
        rw[hat _ (by omega),t2,repU_ne (by omega),decide_eq_true (by omega)]
        simp
    · rw[repU_ne hw,w1,Bool.true_and]
      cases hz:isNul (iAt u k)with
      |false=>rfl
      | true=>
        obtain⟨t1,t2⟩:=w2 hz
        have t0:=nulNo_nonneg (iAt u k)
        rw[hat _ (by omega),t2,repU_ne hw,decide_eq_true t1]
        simp
 refine⟨⟨huf,by simpa using hlen,?_,h.src,h.egd⟩,?_⟩
 · intro f hf v hvf hn
   unfold appI at hf
   split at hf
   case isFalse=>simp at hf
   rename_i hvs
   rw[Bool.and_eq_true]at hvs
   unfold subI at hf
   obtain⟨g,hg,rfl⟩:=List.mem_map.mp (facS_mem.mp hf)
   unfold subF at hvf
   obtain⟨w,hw,rfl⟩:=List.mem_map.mp hvf
   generalize hU:u.map (repU a b)=U at huf hat hvs hn ⊢
   have hUl:U.length=n:=by rw[←hU];simpa using hlen
   have key:(isNul w=true∧subV (subU (U,())) w=iAt U (nulNo w).toNat)∨(isNul w=false∧subV (subU (U,())) w=w):=by
    unfold subV
    rw[hvs.1,if_pos rfl]
    have es:subU (U,())=((subL U U.length).map (fun k:Nat=>(k:Int)),((subL U U.length).map (fun k:Nat=>iAt U k),())):=by unfold subU;rw[if_pos huf]
    rw[es]
    simp only
    have hmem:∀ k,k∈subL U U.length→k<n:=fun k hk=>by
     have:=(List.mem_filter.mp hk).1
     rw[List.mem_range]at this;omega
    by_cases hfa:firstAt (fun k=>decide (-1 - k=w)) ((subL U U.length).map (fun k:Nat=>(k:Int)))<((subL U U.length).map (fun k:Nat=>(k:Int))).length
    · rw[if_pos hfa]
      have hp:=firstAt_at hfa
      generalize hj:firstAt (fun k=>decide (-1 - k=w)) ((subL U U.length).map (fun k:Nat=>(k:Int)))=j at hfa hp ⊢
      have hjl:j<(subL U U.length).length:=by simpa using hfa
      rw[List.getElem_map]at hp
      have hp : -1 - ((subL U U.length)[j]:Int)=w:=of_decide_eq_true hp
      have hkn:=hmem _ (List.getElem_mem hjl)
      have hnw:isNul w=true:=isNul_iff.mpr ⟨by omega,by omega⟩
      have hno:nulNo w=((subL U U.length)[j]:Int):=by unfold nulNo;rw[if_pos hnw];omega
      refine .inl ⟨hnw,?_⟩
      rw[iAt_get (by simpa using hjl),List.getElem_map,hno,Int.toNat_natCast]
    · rw[if_neg hfa]
      cases hnw:isNul w with
      |false=>exact .inr ⟨rfl,rfl⟩
      | true=>
        refine .inl ⟨rfl,?_⟩
        have hlt:=h.src g hg w hw hnw
        have h0:=nulNo_nonneg w
        have hno:nulNo w = -1 - w:=by unfold nulNo;rw[if_pos hnw]
        refine Classical.byContradiction fun hne'=>hfa ?_
        refine firstAt_any.mpr (List.any_eq_true.mpr ⟨((nulNo w).toNat:Int),?_,by simp;omega⟩)
        refine List.mem_map.mpr ⟨(nulNo w).toNat,?_,rfl⟩
        unfold subL
        refine List.mem_filter.mpr ⟨List.mem_range.mpr (by omega),?_⟩
        have:¬ iAt U (nulNo w).toNat = -1 - ((nulNo w).toNat:Int):=fun h'=>hne' (by rw[h'];omega)
        simp only[Bool.not_eq_true',beq_eq_false_iff_ne]
        exact this
   rcases key with⟨hnw,e1⟩|⟨hnw,e1⟩
   · rw[e1]at hn ⊢
     have hlt:=h.src g hg w hw hnw
     have h0:=nulNo_nonneg w
     have:=(ufOk_at huf (k:=(nulNo w).toNat) (by show _<U.length;omega)).2 hn
     exact⟨by have h3:=this.1;simp only at h3;omega,this.2⟩
   · rw[e1,hnw]at hn;cases hn
 · unfold rootsU
   rw[List.length_map]
   refine countP_lt (fun k hk hq=>?_) ⟨(nulNo (minI a b)).toNat,List.mem_range.mpr (by omega),?_,?_⟩
   · have hk:k<n:=by rw[List.mem_range]at hk;omega
     simp only[beq_iff_eq]at hq ⊢
     rw[hat k hk]at hq
     by_cases hw:iAt u k=minI a b
     · exfalso
       rw[hw,repU_min]at hq
       have hz:isNul (maxI a b)=true:=isNul_iff.mpr ⟨by omega,by omega⟩
       have hnt:nulNo (maxI a b)=k:=by unfold nulNo;rw[if_pos hz];omega
       have:=(hto.2 hz).2
       rw[hnt,Int.toNat_natCast,hw]at this
       omega
     · rw[repU_ne hw]at hq;exact hq
   · simp only[beq_iff_eq];rw[f3];omega
   · rw[hat _ (by omega),f3,repU_min]
     simp only[beq_eq_false_iff_ne]
     omega
end
def chaseE (x:TInst) (ds:List TDep):TInst×TUf×Int:=if vInst x&&vDeps x.1 ds then ceK x (egdF ds) 41 x (idU (nextN x).toNat)else(([],([],())),([],()),0)
theorem ce_start {x:TInst} {ds:List TDep} (h:vInst x=true):CeOk (nextN x).toNat x (egdF ds) x (idU (nextN x).toNat):=by
 have hr:=nextN_range x
 have hsrc:∀ f∈x.2.1,∀ v∈f.2.1,isNul v=true→nulNo v<(nextN x).toNat:=fun f hf v hv hn=>by
  have:=nulls_nextN hf hv hn
  omega
 refine⟨?_,idU_len _,fun f hf v hv hn=>?_,hsrc,fun d hd=>(List.mem_filter.mp hd).2⟩
 · rw[ufOk_yes fun k hk=>?_]
   · simp only[idU_len];exact decide_eq_true (by omega)
   · have hk:k<(nextN x).toNat:=by simpa [idU_len]using hk
     unfold ufAt
     simp only
     have hn:isNul (-1 - (k:Int))=true:=isNul_iff.mpr ⟨by omega,by omega⟩
     have hno:nulNo (-1 - (k:Int))=k:=by unfold nulNo;rw[if_pos hn];omega
     rw[idU_at hk,nul_val hn,hn,hno,Int.toNat_natCast,idU_at hk]
     simp
 · have hlt:=hsrc f hf v hv hn
   have h0:=nulNo_nonneg v
   have hno:nulNo v = -1 - v:=by unfold nulNo;rw[if_pos hn]
   exact⟨hlt,by rw[idU_at (by omega)];omega⟩
theorem g_iChaseEqualities {x:TInst} {ds:List TDep}:G_iChaseEqualities x ds (chaseE x ds).1 (chaseE x ds).2.1 (chaseE x ds).2.2:=M_iChaseEqualities _ _ _ _ _ (by
 unfold S_iChaseEqualities
 refine⟨_,g_iIsValidInstance,bc_not (fun h=>by unfold chaseE;rw[h];rfl) (fun h1=>⟨_,g_iAreValidDependencies,bc_not (fun h=>by unfold chaseE;rw[h1,h];rfl) (fun h2=>?_)⟩)⟩
 have hr:=vRels_len (vInst_rels h1)
 have hf:=vInst_len h1
 have hfl:=vInst_flat h1
 have hdl:=vDeps_len h2
 obtain⟨n,hn,hn40⟩:∃ n:Nat,nextN x=n∧n≤40:=⟨(nextN x).toNat,by have:=nextN_range x;omega,by have:=nextN_range x;omega⟩
 have hs:=ce_start (ds:=ds) h1
 have hR:chaseE x ds=ceK x (egdF ds) 41 x (idU n):=by unfold chaseE;rw[h1,h2,hn,Int.toNat_natCast];rfl
 rw[hn,Int.toNat_natCast]at hs
 rw[hR]
 refine⟨_,g_iEqualityDependencies (by omega) (fun d hd=>okDep_of (vDeps_mem h2 hd)),trivial,trivial,x,g_iinstanceCopy (by omega) (by omega) (fun f hf=>fact_args h1 hf),n,by rw[←hn];exact g_iNextNull (by omega),_,g_iNewUnionFind hn40,?_⟩
 refine loopP_down (fun k a=>∃(y:TInst) (u:List Int),a=(y,((([]:List TRel),(([]:List TFact),())),((u,()),((([]:List Int),()),()))))∧CeOk n x (egdF ds) y u∧rootsU u<k∧ceK x (egdF ds) k y u=ceK x (egdF ds) 41 x (idU n)) ?_ ?_ (n:=41) ⟨x,idU n,rfl,hs,by have:=rootsU_le (idU n);rw[idU_len]at this;omega,rfl⟩
 · rintro a ⟨y,u,rfl,_,hk,_⟩ X
   omega
 · rintro k a ⟨y,u,rfl,hc,hk,he⟩ X hX
   refine⟨(viol y (egdF ds)).1,(viol y (egdF ds)).2.1,(viol y (egdF ds)).2.2,g_iFirstViolation,bc_not (fun hv=>?_) (fun hv=>?_)⟩
   · rw[←he,ceK]
     have hv:(viol y (egdF ds)).2.2=false:=hv
     rw[if_neg (by rw[hv];simp)]
   · have hv:(viol y (egdF ds)).2.2=true:=hv
     obtain⟨i,d,q1,q2,q3,q4,q5,q6,q7,q8,_,_,_⟩:=hc.pair hv
     have hul:=ufOk_len hc.uf
     have hul:u.length≤40:=hul
     simp only
     rw[q3]
     have e1:(viol y (egdF ds)).2.1.getD d.2.2.2.1.toNat 0=ceA y (egdF ds):=q7.symm
     have e2:(viol y (egdF ds)).2.1.getD d.2.2.2.2.1.toNat 0=ceB y (egdF ds):=q8.symm
     rw[e1,e2]
     refine⟨⟨by omega,by omega⟩,⟨by omega,by omega⟩,trivial,⟨by omega,by omega⟩,⟨by omega,by omega⟩,_,_,g_iUnion (by show u.length≤_;omega),?_⟩
     have hu:=hc.un hv
     rw[ceK,if_pos hv]at he
     refine bc_beq (fun h=>?_) (fun h=>?_)
     · rw[if_pos h]at he
       rw[←he]
     · rw[if_neg h]at he
       have hcc:¬ (0≤ceA y (egdF ds)∧0≤ceB y (egdF ds)):=fun h'=>h (by rw[hu,if_pos h'])
       have hst:=hc.step hv hcc
       rw[hu,if_neg hcc]at he ⊢
       refine⟨_,g_iUnionSubstitution,_,_,g_iApplyToInstance,hX _ ⟨_,_,rfl,hst.1,Nat.lt_of_lt_of_le hst.2 (Nat.le_of_lt_succ hk),he⟩⟩)
theorem g_sChaseEqualities {x:TInst} {ds:List TDep}:G_sChaseEqualities x ds (chaseE x ds).1 (chaseE x ds).2.1 (chaseE x ds).2.2:=M_sChaseEqualities _ _ _ _ _ (by
 unfold S_sChaseEqualities
 refine⟨_,g_sIsValidInstance,bc_not (fun h=>by unfold chaseE;rw[h];rfl) (fun h1=>⟨_,g_sAreValidDependencies,bc_not (fun h=>by unfold chaseE;rw[h1,h];rfl) (fun h2=>?_)⟩)⟩
 have hr:=vRels_len (vInst_rels h1)
 have hf:=vInst_len h1
 have hdl:=vDeps_len h2
 obtain⟨n,hn,hn40⟩:∃ n:Nat,nextN x=n∧n≤40:=⟨(nextN x).toNat,by have:=nextN_range x;omega,by have:=nextN_range x;omega⟩
 have hs:=ce_start (ds:=ds) h1
 have hR:chaseE x ds=ceK x (egdF ds) 41 x (idU n):=by unfold chaseE;rw[h1,h2,hn,Int.toNat_natCast];rfl
 rw[hn,Int.toNat_natCast]at hs
 rw[hR]
 refine⟨x,g_sl5Copy (by omega) (by omega) (fun f hf=>fact_args h1 hf),n,by rw[←hn];exact g_sNextNull,_,g_sNewUnionFind hn40,_,g_sEqualityDependencies (by omega) (fun d hd=>okDep_of (vDeps_mem h2 hd)),?_⟩
 refine loopP_down (fun k a=>∃(y:TInst) (u:List Int),a=(egdF ds,(y,((([]:List TRel),(([]:List TFact),())),((u,()),((([]:List Int),()),())))))∧CeOk n x (egdF ds) y u∧rootsU u<k∧ceK x (egdF ds) k y u=ceK x (egdF ds) 41 x (idU n)) ?_ ?_ (n:=41) ⟨x,idU n,rfl,hs,by have:=rootsU_le (idU n);rw[idU_len]at this;omega,rfl⟩
 · rintro a ⟨y,u,rfl,_,hk,_⟩ X
   omega
 · rintro k a ⟨y,u,rfl,hc,hk,he⟩ X hX
   refine⟨(viol y (egdF ds)).1,(viol y (egdF ds)).2.1,(viol y (egdF ds)).2.2,g_sFirstViolation,bc_not (fun hv=>?_) (fun hv=>?_)⟩
   · rw[←he,ceK]
     have hv:(viol y (egdF ds)).2.2=false:=hv
     rw[if_neg (by rw[hv];simp)]
   · have hv:(viol y (egdF ds)).2.2=true:=hv
     obtain⟨i,d,q1,q2,q3,q4,q5,q6,q7,q8,_,_,_⟩:=hc.pair hv
     have hul:=ufOk_len hc.uf
     have hul:u.length≤40:=hul
     simp only
     rw[q3]
     have e1:(viol y (egdF ds)).2.1.getD d.2.2.2.1.toNat 0=ceA y (egdF ds):=q7.symm
     have e2:(viol y (egdF ds)).2.1.getD d.2.2.2.2.1.toNat 0=ceB y (egdF ds):=q8.symm
     rw[e1,e2]
     refine⟨⟨by omega,by omega⟩,⟨by omega,by omega⟩,trivial,⟨by omega,by omega⟩,⟨by omega,by omega⟩,_,_,g_sUnion (by show u.length≤_;omega),?_⟩
     have hu:=hc.un hv
     rw[ceK,if_pos hv]at he
     refine bc_beq (fun h=>?_) (fun h=>?_)
     · rw[if_pos h]at he
       rw[←he]
     · rw[if_neg h]at he
       have hcc:¬ (0≤ceA y (egdF ds)∧0≤ceB y (egdF ds)):=fun h'=>h (by rw[hu,if_pos h'])
       have hst:=hc.step hv hcc
       rw[hu,if_neg hcc]at he ⊢
       refine⟨_,g_sUnionSubstitution,_,_,g_sApplyToInstance,hX _ ⟨_,_,rfl,hst.1,Nat.lt_of_lt_of_le hst.2 (Nat.le_of_lt_succ hk),he⟩⟩)
def mustE (x:TInst) (ds:List TDep) (a b:Int):Bool:=((chaseE x ds).2.2 == 1)&&(findU (chaseE x ds).2.1 a == findU (chaseE x ds).2.1 b)
theorem g_iMustBeEqual {x:TInst} {ds:List TDep} {a b:Int}:G_iMustBeEqual x ds a b (mustE x ds a b):=M_iMustBeEqual _ _ _ _ _ (by
 unfold S_iMustBeEqual mustE
 refine⟨_,_,_,g_iChaseEqualities,bc_beq (fun h=>⟨_,g_iFind,_,g_iFind,by rw[h];rfl⟩) (fun h=>by rw[show((chaseE x ds).2.2 == 1)=false from beq_eq_false_iff_ne.mpr h];rfl)⟩)
theorem g_sMustBeEqual {x:TInst} {ds:List TDep} {a b:Int}:G_sMustBeEqual x ds a b (mustE x ds a b):=M_sMustBeEqual _ _ _ _ _ (by
 unfold S_sMustBeEqual mustE
 refine⟨_,_,_,g_sChaseEqualities,bc_beq (fun h=>⟨_,g_sFind,_,g_sFind,by rw[h];rfl⟩) (fun h=>by rw[show((chaseE x ds).2.2 == 1)=false from beq_eq_false_iff_ne.mpr h];rfl)⟩)
theorem g_iNullValue_x {k:Int}:G_iNullValue k (-1 - k):=R_iNullValue fun hb=>M_iNullValue _ _ (by
 have hb : -9223372036854775808≤k∧k≤9223372036854775807:=hb
 unfold S_iNullValue;rw[w64_id (by omega) (by omega)])
theorem g_sNullValue_x {k:Int}:G_sNullValue k (-1 - k):=R_sNullValue fun hb=>M_sNullValue _ _ (by
 have hb : -9223372036854775808≤k∧k≤9223372036854775807:=hb
 unfold S_sNullValue;rw[w64_id (by omega) (by omega)])
def forcOk (x:TInst) (ds:List TDep) (k:Int):Bool:=((chaseE x ds).2.2 == 1)&&(!decide (k<0) && !decide (findU (chaseE x ds).2.1 (-1 - k)<0))
def forcV (x:TInst) (ds:List TDep) (k:Int):Int:=if forcOk x ds k then findU (chaseE x ds).2.1 (-1 - k)else 0
theorem forc_no {x:TInst} {ds:List TDep} {k:Int} (h:forcOk x ds k=false):((0,(false,())):Int×Bool×Unit)=(forcV x ds k,(forcOk x ds k,())):=by unfold forcV;rw[h];rfl
theorem g_iForcedConstant {x:TInst} {ds:List TDep} {k:Int}:G_iForcedConstant x ds k (forcV x ds k) (forcOk x ds k):=M_iForcedConstant _ _ _ _ _ (by
 unfold S_iForcedConstant
 refine⟨_,_,_,g_iChaseEqualities,_,g_iNullValue_x,_,g_iFind,bc_ne (fun h=>forc_no (by unfold forcOk;rw[show((chaseE x ds).2.2 == 1)=false from beq_eq_false_iff_ne.mpr h];rfl)) (fun h=>bc_dec (fun h2=>forc_no (by unfold forcOk;rw[decide_eq_true h2];simp)) (fun h2=>⟨_,g_iIsNull,bc_if (fun h3=>forc_no ?_) (fun h3=>?_)⟩))⟩
 · unfold forcOk
   have h3:decide (findU (chaseE x ds).2.1 (-1 - k)<0)=true:=h3
   rw[h3];simp
 · have h3:decide (findU (chaseE x ds).2.1 (-1 - k)<0)=false:=h3
   have e:forcOk x ds k=true:=by unfold forcOk;rw[h,h3,decide_eq_false h2];rfl
   unfold forcV;rw[e];rfl)
theorem g_sForcedConstant {x:TInst} {ds:List TDep} {k:Int}:G_sForcedConstant x ds k (forcV x ds k) (forcOk x ds k):=M_sForcedConstant _ _ _ _ _ (by
 unfold S_sForcedConstant
 refine⟨_,_,_,g_sChaseEqualities,_,g_sNullValue_x,_,g_sFind,bc_ne (fun h=>forc_no (by unfold forcOk;rw[show((chaseE x ds).2.2 == 1)=false from beq_eq_false_iff_ne.mpr h];rfl)) (fun h=>bc_dec (fun h3=>forc_no ?_) (fun h3=>bc_dec (fun h2=>forc_no (by unfold forcOk;rw[decide_eq_true h2];simp)) (fun h2=>?_)))⟩
 · unfold forcOk
   have h3:findU (chaseE x ds).2.1 (-1 - k)<0:=h3
   rw[decide_eq_true h3];simp
 · have h3:¬ findU (chaseE x ds).2.1 (-1 - k)<0:=h3
   have e:forcOk x ds k=true:=by unfold forcOk;rw[h,decide_eq_false h3,decide_eq_false h2];rfl
   unfold forcV;rw[e];rfl)
def trgG (x:TInst) (ds:List TDep) (out:List TFact) (i:Nat):List TFact:=(actT x (ds.getD i zDep)).foldl (fun o b=>o++[((i:Int),(b,()))]) out
def trigs (x:TInst) (ds:List TDep):List TFact:=(List.range ds.length).foldl (trgG x ds) []
theorem actT_len {x:TInst} {d:TDep}:(actT x d).length≤27000:=by
 unfold actT
 split
 · exact Nat.le_trans (List.length_filter_le ..) finds_len
 · simp
theorem actT_len5 {x:TInst} {d:TDep} {b:List Int} (h:b∈actT x d):b.length=5:=by
 unfold actT at h
 split at h
 · exact finds_len5 (List.mem_filter.mp h).1
 · simp at h
theorem trgG_eq {x:TInst} {ds:List TDep} {out:List TFact} {i:Nat}:trgG x ds out i=out++(actT x (ds.getD i zDep)).map fun b=>((i:Int),(b,())):=foldl_snoc _ _ _
theorem trgG_len {x:TInst} {ds:List TDep} {out:List TFact} {i:Nat}:(trgG x ds out i).length≤out.length+27000:=by
 have:=actT_len (x:=x) (d:=ds.getD i zDep)
 rw[trgG_eq,List.length_append,List.length_map]
 omega
theorem trigs_mem {x:TInst} {ds:List TDep} {t:TFact} (h:t∈trigs x ds):∃ i:Nat,i<ds.length∧∃ b:List Int,b.length=5∧t=((i:Int),(b,())):=by
 have outer:∀(l:List Nat) (out:List TFact),(∀ i∈l,i<ds.length)→(∀ t∈out,∃ i:Nat,i<ds.length∧∃ b:List Int,b.length=5∧t=((i:Int),(b,())))→
   ∀ t∈l.foldl (trgG x ds) out,∃ i:Nat,i<ds.length∧∃ b:List Int,b.length=5∧t=((i:Int),(b,())):=by
  intro l
  induction l with
  |nil=>intro out _ ho;exact ho
  | cons i l ih=>
    intro out hl ho
    rw[List.foldl_cons]
    refine ih _ (fun c hc=>hl c (by simp[hc])) fun t ht=>?_
    rw[trgG_eq]at ht
    rcases List.mem_append.mp ht with ht|ht
    · exact ho t ht
    · obtain⟨b,hb,rfl⟩:=List.mem_map.mp ht
      exact⟨i,hl i (by simp),b,actT_len5 hb,rfl⟩
 exact outer _ [] (fun i hi=>List.mem_range.mp hi) (by simp) t h
theorem g_sl16All {x:TInst} {ds:List TDep} (hds:ds.length≤5):G_sl16All x ds (trigs x ds):=M_sl16All _ _ _ (by
 unfold S_sl16All
 refine loop_rangeB ds.length (trgG x ds) [] (fun i o=>((i:Int),(o,()))) List.length 27000 5 hds (fun o i _=>trgG_len) ?_ ?_
 · intro i hi o X ho hX
   unfold trgG at hX
   rw[getD_at hi]at hX
   refine lenI fun _=>bcI hi (inI hi ⟨_,g_sActiveTriggers,?_⟩)
   simp only
   rw[getI hi,w64_succ (by omega)]
   refine loop_foldB (actT x ds[i]) (fun o b=>o++[((i:Int),(b,()))]) o (fun j o=>((j:Int),(o,()))) List.length 1 27000 actT_len (fun o b _=>by simp) ?_ ?_
   · intro j hj o' Y ho' hY
     simp only[List.length_nil]at ho
     refine lenI fun _=>bcI hj (inI hj ⟨by simp only[maxL,List.length_cons,List.length_nil];omega,?_⟩)
     simp only
     rw[getI hj,w64_succ (by omega)]
     exact hY
   · intro Y _
     exact lenI fun _=>bcN hX
 · intro X _
   exact lenI fun _=>bcN rfl)
def chK (ds:List TDep):Nat→TInst→List TFact→TRes
 |0,x,l=>(x,(3,(l,())))
 | n+1,x,l=>match trigs x ds with
   |[]=>(x,(1,(l,())))
   | t::_=>if (appT x (ds.getD t.1.toNat zDep) t.2.1).2=1 then chK ds n (appT x (ds.getD t.1.toNat zDep) t.2.1).1 (l++[t])
     else((appT x (ds.getD t.1.toNat zDep) t.2.1).1,((appT x (ds.getD t.1.toNat zDep) t.2.1).2,(l++[t],())))
def chs (x:TInst) (ds:List TDep):TRes×Bool:=if vInst x&&vDeps x.1 ds then(chK ds 60 x [],true)else((([],([],())),(0,([],()))),false)
theorem g_sl16Go {x:TInst} {ds:List TDep}:G_sl16Go x ds [] (chs x ds).1 (chs x ds).2:=M_sl16Go _ _ _ _ _ (by
 unfold S_sl16Go
 refine⟨_,g_sIsValidInstance,bc_not (fun h=>by unfold chs;rw[h];rfl) (fun h1=>⟨_,g_sAreValidDependencies,bc_not (fun h=>by unfold chs;rw[h1,h];rfl) (fun h2=>?_)⟩)⟩
 have hr:=vRels_len (vInst_rels h1)
 have hf:=vInst_len h1
 have hdl:=vDeps_len h2
 have hR:chs x ds=(chK ds 60 x [],true):=by unfold chs;rw[h1,h2];rfl
 rw[hR]
 refine⟨x,g_sl5Copy (by omega) (by omega) (fun f hf=>fact_args h1 hf),?_⟩
 refine loopP_down (fun k a=>∃(n:Nat) (y:TInst) (l:List TFact) (z:TRes),a=((n:Int),((y,(0,(l,()))),(z,())))∧SmI y∧l.length=n∧n+k=60∧chK ds k y l=chK ds 60 x []) ?_ ?_ (n:=60) ⟨0,x,[],_,rfl,.of h1,rfl,rfl,rfl⟩
 · rintro a ⟨n,y,l,z,rfl,hy,hl,hn,he⟩ X
   rw[←he]
   exact bc_dec (fun h=>by simp only at h;omega) (fun _=>rfl)
 · rintro k a ⟨n,y,l,z,rfl,hy,hl,hn,he⟩ X hX
   refine bc_dec (fun _=>⟨_,g_sl16All hdl,lenI fun _=>?_⟩) (fun h=>by simp only at h;omega)
   rw[←he]at hX ⊢
   rw[chK]at hX ⊢
   cases ht:trigs y ds with
   |nil=>rw[ht]at hX;exact bc_beq (fun _=>rfl) (fun h=>absurd rfl h)
   | cons t ts=>
     obtain⟨i,hi,b,hb,rfl⟩:=trigs_mem (x:=y) (ds:=ds) (t:=t) (by rw[ht];simp)
     rw[ht]at hX
     simp only at hX ⊢
     refine bc_beq (fun h=>by simp at h;omega) (fun _=>lenI fun _=>bcF ⟨⟨by omega,by simp⟩,⟨by omega,by simp⟩,trivial,⟨by show(0:Int)≤(i:Int);omega,by show(i:Int)<_;omega⟩,_,_,g_sApplyTrigger hy,⟨by omega,by simp⟩,?_,?_⟩)
     · simp only[maxL,List.length_cons,List.length_nil];omega
     · refine bc_ne (fun h=>?_) (fun h=>?_)
       · have h:¬ (appT y (ds.getD (Int.toNat (i:Int)) zDep) b).2=1:=h
         rw[if_neg h];rfl
       · have h:(appT y (ds.getD (Int.toNat (i:Int)) zDep) b).2=1:=h
         rw[if_pos h]at hX
         rw[w64_succ (by omega)]
         exact hX _ ⟨n+1,_,_,_,rfl,hy.step,by simp;omega,by omega,rfl⟩)
theorem g_sChase {x:TInst} {ds:List TDep}:G_sChase x ds (chs x ds).1 (chs x ds).2:=M_sChase _ _ _ _ (by
 unfold S_sChase
 exact⟨_,_,g_sl16Go,rfl⟩)
def Rd {ρ:Type} (P:ρ→Prop) (A:Prop) (B:ρ→Prop):Prop:=A→∃ v,P v∧B v
section
variable {ρ:Type} {P:ρ→Prop}
theorem rk {x:ρ}:Rd P (P x) (fun v=>x=v):=fun h=>⟨x,h,rfl⟩
theorem rb {b:Bool} {A1 A2:Prop} {B1 B2:ρ→Prop} (h1:Rd P A1 B1) (h2:Rd P A2 B2):Rd P (bcase b A1 A2) (fun v=>bcase b (B1 v) (B2 v)):=by
 cases b
 · exact h2
 · exact h1
theorem ra {C A:Prop} {B:ρ→Prop} (h:Rd P A B):Rd P (C∧A) (fun v=>C∧B v):=fun⟨c,a⟩=>(h a).imp fun _ hv=>⟨hv.1,c,hv.2⟩
theorem re {α:Type} {A:α→Prop} {B:α→ρ→Prop} (h:∀ y,Rd P (A y) (B y)):Rd P (∃ y,A y) (fun v=>∃ y,B y v):=fun⟨y,a⟩=>(h y a).imp fun _ hv=>⟨hv.1,y,hv.2⟩
theorem rl (hi:∃ v,P v) {n:Int} {A:Prop} {B:ρ→Prop} (h:Rd P A B):Rd P (lenA n A) (fun v=>lenA n (B v)):=fun a=>by
 by_cases hn:n≤9223372036854775807
 · exact(h (a hn)).imp fun _ hv=>⟨hv.1,fun _=>hv.2⟩
 · exact hi.imp fun _ hv=>⟨hv,fun h=>absurd h hn⟩
theorem rp {σ:Type} {BP:(σ→Prop)→σ→Prop} {BV:ρ→(σ→Prop)→σ→Prop} {a0:σ}
  (h:∀(XP:σ→Prop) (XV:ρ→σ→Prop),(∀ b,Rd P (XP b) (fun v=>XV v b))→∀ a,Rd P (BP XP a) (fun v=>BV v (XV v) a)):Rd P (LoopP BP a0) (fun v=>LoopP (BV v) a0):=by
 rintro⟨n,hn⟩
 have key:∀ n a,Rd P (iterP BP n a) (fun v=>iterP (BV v) n a):=by
  intro n
  induction n with
  |zero=>intro a h;exact h.elim
  |succ n ih=>intro a;exact h _ (fun v=>iterP (BV v) n) ih a
 exact(key n a0 hn).imp fun _ hv=>⟨hv.1,n,hv.2⟩
theorem rd_of {S:(ρ→Prop)→Prop} (h:S P) (hi:∃ v,P v) (hr:(∃ v,P v)→Rd P (S P) (fun v=>S (fun q=>q=v))):∃ v,P v∧S (fun q=>q=v):=hr hi h
end
abbrev Src:=List Int×Int×Int×Unit
def Oks (s:Src):Prop:=0≤s.2.1∧s.1.length≤4611686018427387903
theorem low_byte (x:Int):0≤bitsK .and .i64 x 255∧bitsK .and .i64 x 255≤255:=by
 show 0≤IntKind.i64.wrap ((BitVec.ofInt 64 x &&& BitVec.ofInt 64 255).toNat:Int)∧IntKind.i64.wrap ((BitVec.ofInt 64 x &&& BitVec.ofInt 64 255).toNat:Int)≤255
 have h:(BitVec.ofInt 64 x &&& BitVec.ofInt 64 255).toNat≤255:=by
  rw[BitVec.toNat_and]
  exact Nat.le_trans Nat.and_le_right (by decide)
 generalize (BitVec.ofInt 64 x &&& BitVec.ofInt 64 255).toNat=n at h
 have e:IntKind.i64.wrap (n:Int)=(n:Int):=w64_id (by omega) (by omega)
 rw[e];omega
theorem d_byte {s:Src} (h:Oks s):∃ y z,G_sl1Byte_poz s y z∧(0≤y∧y≤255)∧Oks z:=by
 have hl:=h.2
 have h0:=h.1
 have hs:S_sl1Byte_poz s (fun q=>(0≤q.1∧q.1≤255)∧Oks q.2.1):=by
  unfold S_sl1Byte_poz
  refine⟨by decide,by decide,lenI fun _=>bc_dec (fun hlt=>⟨⟨h0,hlt⟩,low_byte _,?_,hl⟩) (fun _=>⟨low_byte _,h⟩)⟩
  show 0≤w64 (s.2.1+1)
  rw[w64_id (by omega) (by omega)];omega
 obtain⟨⟨y,z,_⟩,hq,hv⟩:=rd_of (S:=S_sl1Byte_poz s) hs ⟨(0,(s,())),⟨Int.le_refl (0:Int),(by decide:(0:Int)≤255)⟩,h⟩ fun hi=>by
  unfold S_sl1Byte_poz
  repeat' first|exact rk|apply_assumption|refine rb ?_ ?_|refine rl hi ?_|refine ra ?_|(refine rp ?_;intro _ _ _ _)|(refine re ?_;intro _)
 exact⟨y,z,M_sl1Byte_poz _ _ _ hv,hq.1,hq.2⟩
theorem d_below {s:Src} {n:Int} (h:Oks s) (h1:0<n) (h2:n≤256):∃ y z,G_sl1Below_poz s n y z∧(0≤y∧y<n)∧Oks z:=by
 obtain⟨y,z,g,y0,hz⟩:=d_byte h
 refine⟨Int.tmod y n,z,M_sl1Below_poz _ _ _ _ ?_,⟨?_,?_⟩,hz⟩
 · unfold S_sl1Below_poz
   rw[bc_neg (by omega)]
   exact bc_dec (fun _=>⟨y,z,g,by omega,rfl⟩) (fun h=>absurd h2 h)
 · exact Int.tmod_nonneg _ y0.1
 · exact Int.tmod_lt_of_pos _ h1
theorem d_once {s:Src} {n:Int} (h:Oks s) (h1:0<n) (h2:n≤256):∃ y z,G_sl1Once_poz s n y z∧Oks z:=by
 obtain⟨y,z,g,_,hz⟩:=d_below h h1 h2
 exact⟨_,z,M_sl1Once_poz _ _ _ _ ⟨y,z,g,rfl⟩,hz⟩
theorem d_pickInt {s:Src} {l:List Int} (h:Oks s) (h1:0<l.length) (h2:l.length≤256):∃ y z,G_sl1PickInt_poz s l y z∧Oks z:=by
 obtain⟨y,z,g,hy,hz⟩:=d_below (n:=(l.length:Int)) h (by omega) (by omega)
 exact⟨_,z,M_sl1PickInt_poz _ _ _ _ (lenI fun _=>⟨y,z,g,⟨hy.1,hy.2⟩,rfl⟩),hz⟩
def sigs:List TRel:=[([97],(2,(true,()))),([98],(1,(true,()))),([112],(2,(false,()))),([113],(2,(false,()))),([114],(1,(false,())))]
theorem g_sl3Sigs:G_sl3Sigs sigs:=M_sl3Sigs _ rfl
theorem sig_arity (i:Nat) (h:i<sigs.length):1≤(sigs[i]).2.1∧(sigs[i]).2.1≤2:=by
 match i,h with
 |0,_|2,_|3,_=>exact⟨(by decide:(1:Int)≤2),(by decide:(2:Int)≤2)⟩
 |1,_|4,_=>exact⟨(by decide:(1:Int)≤1),(by decide:(1:Int)≤2)⟩
theorem d_value {s:Src} {n:Int} (h:Oks s) (h2:n≤40):∃ y z,G_sl4Value_poz s n y z∧(-40≤y∧y<3)∧Oks z:=by
 have hs:S_sl4Value_poz s n (fun q=>(-40≤q.1∧q.1<3)∧Oks q.2.1):=by
  unfold S_sl4Value_poz
  refine bc_dec (fun hn=>?_) (fun hn=>?_)
  · obtain⟨b,z,g,hz⟩:=d_once h (n:=2) (by decide) (by decide)
    obtain⟨v,z1,g1,hv,hz1⟩:=d_below hz (n:=n) (by omega) (by omega)
    obtain⟨u,z2,g2,hu,hz2⟩:=d_below hz (n:=3) (by decide) (by decide)
    exact⟨b,z,g,bc_if (fun _=>⟨v,z1,g1,_,g_sNullValue hv.1 (by omega),⟨by simp only;omega,by simp only;omega⟩,hz1⟩) (fun _=>⟨u,z2,g2,⟨by simp only;omega,hu.2⟩,hz2⟩)⟩
  · obtain⟨u,z2,g2,hu,hz2⟩:=d_below h (n:=3) (by decide) (by decide)
    exact⟨u,z2,g2,⟨by simp only;omega,hu.2⟩,hz2⟩
 obtain⟨⟨y,z,_⟩,hq,hv⟩:=rd_of (S:=S_sl4Value_poz s n) hs ⟨(0,(s,())),⟨(by decide:(-40:Int)≤0),(by decide:(0:Int)<3)⟩,h⟩ fun hi=>by
  unfold S_sl4Value_poz
  repeat' first|exact rk|apply_assumption|refine rb ?_ ?_|refine ra ?_|(refine rp ?_;intro _ _ _ _)|(refine re ?_;intro _)
 exact⟨y,z,M_sl4Value_poz _ _ _ _ hv,hq.1,hq.2⟩
def SmR (r:Int) (f:TFact):Prop:=f.1=r∧1≤f.2.1.length∧f.2.1.length≤2
theorem d_fact {s:Src} {r n:Int} (h:Oks s) (h0:0≤r) (h1:r<5) (h2:n≤40):∃ y z,G_sl4Fact_poz s r n y z∧SmR r y∧Oks z:=by
 obtain⟨i,rfl⟩:∃ i:Nat,r=(i:Int):=⟨r.toNat,by omega⟩
 have hi:i<sigs.length:=by show i<5;omega
 have ha:=sig_arity i hi
 have hs:S_sl4Fact_poz s i n (fun q=>SmR i q.1∧Oks q.2.1):=by
  unfold S_sl4Fact_poz
  refine⟨_,g_sl3Sigs,?_⟩
  refine loopP_down (fun k a=>∃(c:Src) (l:List Int),a=(c,(((i:Int),(l,())),()))∧Oks c∧l.length+k=(sigs[i]).2.1.toNat) ?_ ?_ (n:=(sigs[i]).2.1.toNat) ⟨s,[],rfl,h,by simp⟩
  · rintro a ⟨c,l,rfl,hc,hl⟩ X
    refine inI hi (lenI fun _=>?_)
    rw[getI hi]
    exact bc_dec (fun h=>by simp only at h;omega) (fun _=>⟨⟨rfl,by simp only;omega,by simp only;omega⟩,hc⟩)
  · rintro k a ⟨c,l,rfl,hc,hl⟩ X hX
    obtain⟨v,z,g,_,hz⟩:=d_value hc h2
    refine inI hi (lenI fun _=>?_)
    rw[getI hi]
    exact bc_dec (fun h=>⟨v,z,g,by simp only[maxL,List.length_cons,List.length_nil];omega,hX _ ⟨z,l++[v],rfl,hz,by simp;omega⟩⟩) (fun h=>by simp only at h;omega)
 obtain⟨⟨y,z,_⟩,hq,hv⟩:=rd_of (S:=S_sl4Fact_poz s i n) hs ⟨((i,([0],())),(s,())),⟨rfl,(by decide:1≤1),(by decide:1≤2)⟩,h⟩ fun hi=>by
  unfold S_sl4Fact_poz
  repeat' first|exact rk|apply_assumption|refine rb ?_ ?_|refine rl hi ?_|refine ra ?_|(refine rp ?_;intro _ _ _ _)|(refine re ?_;intro _)
 exact⟨y,z,M_sl4Fact_poz _ _ _ _ _ hv,hq.1,hq.2⟩
theorem d_atom {s:Src} {r n:Int} (h:Oks s) (h0:0≤r) (h1:r<5) (hn0:0<n) (h2:n≤40):∃ y z,G_sl9Atom_poz s r n y z∧SmR r y∧Oks z:=by
 obtain⟨i,rfl⟩:∃ i:Nat,r=(i:Int):=⟨r.toNat,by omega⟩
 have hi:i<sigs.length:=by show i<5;omega
 have ha:=sig_arity i hi
 have hs:S_sl9Atom_poz s i n (fun q=>SmR i q.1∧Oks q.2.1):=by
  unfold S_sl9Atom_poz
  refine⟨_,g_sl3Sigs,?_⟩
  refine loopP_down (fun k a=>∃(c:Src) (l:List Int),a=(c,(((i:Int),(l,())),()))∧Oks c∧l.length+k=(sigs[i]).2.1.toNat) ?_ ?_ (n:=(sigs[i]).2.1.toNat) ⟨s,[],rfl,h,by simp⟩
  · rintro a ⟨c,l,rfl,hc,hl⟩ X
    refine inI hi (lenI fun _=>?_)
    rw[getI hi]
    exact bc_dec (fun h=>by simp only at h;omega) (fun _=>⟨⟨rfl,by simp only;omega,by simp only;omega⟩,hc⟩)
  · rintro k a ⟨c,l,rfl,hc,hl⟩ X hX
    obtain⟨b,z,g,hz⟩:=d_once hc (n:=14) (by decide) (by decide)
    obtain⟨u,z1,g1,_,hz1⟩:=d_below hz (n:=3) (by decide) (by decide)
    obtain⟨v,z2,g2,_,hz2⟩:=d_below hz (n:=n) hn0 (by omega)
    refine inI hi (lenI fun _=>?_)
    rw[getI hi]
    exact bc_dec (fun h=>⟨b,z,g,bc_if (fun _=>⟨u,z1,g1,by simp only[maxL,List.length_cons,List.length_nil];omega,hX _ ⟨z1,_,rfl,hz1,by simp;omega⟩⟩)
     (fun _=>⟨v,z2,g2,by simp only[maxL,List.length_cons,List.length_nil];omega,hX _ ⟨z2,_,rfl,hz2,by simp;omega⟩⟩)⟩) (fun h=>by simp only at h;omega)
 obtain⟨⟨y,z,_⟩,hq,hv⟩:=rd_of (S:=S_sl9Atom_poz s i n) hs ⟨((i,([0],())),(s,())),⟨rfl,(by decide:1≤1),(by decide:1≤2)⟩,h⟩ fun hi=>by
  unfold S_sl9Atom_poz
  repeat' first|exact rk|apply_assumption|refine rb ?_ ?_|refine rl hi ?_|refine ra ?_|(refine rp ?_;intro _ _ _ _)|(refine re ?_;intro _)
 exact⟨y,z,M_sl9Atom_poz _ _ _ _ _ hv,hq.1,hq.2⟩
theorem g_sVariables_o {l:List TFact} (hl:(l.flatMap (·.2.1)).length≤1073741824):G_sVariables_oopzpozz l (vars l) l:=M_sVariables_oopzpozz _ _ _ (by
 unfold S_sVariables_oopzpozz
 refine loopP_of l.length (fun i=>((i:Int),(vars (l.take i),()))) (by simp[vars,sset]) ?_ ?_
 · intro i hi X hX
   refine lenI fun hl1=>bcI hi ?_
   simp only
   rw[getI hi]
   have hsub:((l.take i).flatMap (·.2.1)).length+l[i].2.1.length≤1073741824:=by
    have:=flat_split (·.2.1) hi
    omega
   have hset:∀ j,j≤l[i].2.1.length→(sset (((l.take i).flatMap (·.2.1)++l[i].2.1.take j).filter fun t=>decide (0≤t))).length≤1073741824:=by
    intro j hj
    refine Nat.le_trans (sset_len _) (Nat.le_trans (List.length_filter_le _ _) ?_)
    rw[List.length_append,List.length_take];omega
   refine loopP_of l[i].2.1.length (fun j=>(sset (((l.take i).flatMap (·.2.1)++l[i].2.1.take j).filter fun t=>decide (0≤t)),((j:Int),()))) (by simp[vars]) ?_ ?_
   · intro j hj Y hY
     refine inI hi (lenI fun _=>bcI hj (inI hi (inI hj ?_)))
     simp only
     rw[getI hj,w64_succ (by omega)]
     have e:((l.take i).flatMap (·.2.1)++l[i].2.1.take (j+1)).filter (fun t=>decide (0≤t))=((l.take i).flatMap (·.2.1)++l[i].2.1.take j).filter (fun t=>decide (0≤t))++(if 0≤l[i].2.1[j] then[l[i].2.1[j]] else[]):=by
      rw[take_succ_snoc hj,←List.append_assoc,List.filter_append]
      by_cases h:0≤l[i].2.1[j]<;>simp[h]
     rw[e]at hY
     refine bc_dec (fun h=>inI hi (inI hj ⟨_,g_sl4Put (hset j (by omega)),?_⟩)) (fun h=>?_)
     · have h:0≤l[i].2.1[j]:=h
       rw[if_pos h]at hY
       rw[sset_snoc];exact hY
     · have h:¬ 0≤l[i].2.1[j]:=h
       rw[if_neg h,List.append_nil]at hY;exact hY
   · intro Y
     refine inI hi (lenI fun _=>bcN ?_)
     simp only
     rw[w64_succ (by omega),List.take_length]
     have:sset (((l.take i).flatMap (·.2.1)++l[i].2.1).filter fun t=>decide (0≤t))=vars (l.take (i+1)):=by
      unfold vars;rw[take_succ_snoc hi,List.flatMap_append];simp
     rw[this];exact hX
 · intro X
   refine lenI fun _=>bcN ?_
   simp only[List.take_length])
def SmB (l:List TFact):Prop:=∀ f∈l,1≤f.2.1.length∧f.2.1.length≤2
def SmD (n:Nat) (d:TDep):Prop:=(1≤d.1.length∧d.1.length≤2)∧d.2.1.length≤n∧SmB d.1∧SmB d.2.1
theorem SmD.mono {n m:Nat} {d:TDep} (h:SmD n d) (hm:n≤m):SmD m d:=⟨h.1,Nat.le_trans h.2.1 hm,h.2.2⟩
theorem SmD.ok {n:Nat} {d:TDep} (h:SmD n d) (hn:n≤1000):okDep d:=
 ⟨⟨by have:=h.1.2;omega,fun f hf=>by have:=(h.2.2.1 f hf).2;omega⟩,⟨by have:=h.2.1;omega,fun f hf=>by have:=(h.2.2.2 f hf).2;omega⟩⟩
theorem SmB.snoc {l:List TFact} {f:TFact} (h:SmB l) (hf:1≤f.2.1.length∧f.2.1.length≤2):SmB (l++[f]):=fun g hg=>by
 rcases List.mem_append.mp hg with hg|hg
 · exact h g hg
 · obtain rfl:=List.mem_singleton.mp hg;exact hf
theorem SmB.flat {l:List TFact} (h:SmB l):(l.flatMap (·.2.1)).length≤l.length * 2:=by
 induction l with
 |nil=>simp
 | cons a l ih=>
   have:=ih fun f hf=>h f (by simp[hf])
   have:=(h a (by simp)).2
   simp only[List.flatMap_cons,List.length_append,List.length_cons]
   omega
theorem smd0:SmD 2 ([(0,([0],()))],([],(false,(0,(0,()))))):=by unfold SmD SmB;decide
theorem both {b:Bool} {A B:Prop} (h1:A) (h2:B):bcase b A B:=by
 cases b
 · exact h2
 · exact h1
theorem w64_dec {k:Nat} (h:k≤1000):w64 (((k+1:Nat):Int) - 1)=(k:Int):=by rw[w64_id (by omega) (by omega)];omega
theorem d_known {s:Src} (h:Oks s):∃ y z,G_sl9Known_poz s y z∧SmD 2 y∧Oks z:=by
 obtain⟨v,z,g,_,hz⟩:=d_below h (n:=9) (by decide) (by decide)
 have hs:S_sl9Known_poz s (fun q=>SmD 2 q.1∧Oks q.2.1):=by
  unfold S_sl9Known_poz
  refine⟨v,z,g,?_⟩
  have hd:∀ {d:TDep},SmD 2 d→SmD 2 ((d,(z,())):TDep×Src×Unit).1∧Oks ((d,(z,())):TDep×Src×Unit).2.1:=fun h=>⟨h,hz⟩
  refine both (hd (by unfold SmD SmB;decide)) (both (hd (by unfold SmD SmB;decide)) (both (hd (by unfold SmD SmB;decide)) (both (hd (by unfold SmD SmB;decide)) (both (hd (by unfold SmD SmB;decide)) (both (hd (by unfold SmD SmB;decide)) (both (hd (by unfold SmD SmB;decide)) (both (hd (by unfold SmD SmB;decide)) (hd (by unfold SmD SmB;decide)))))))))
 obtain⟨⟨y,z,_⟩,hq,hv⟩:=rd_of (S:=S_sl9Known_poz s) hs ⟨((([(0,([0],()))],([],(false,(0,(0,()))))):TDep),(s,())),smd0,h⟩ fun hi=>by
  unfold S_sl9Known_poz
  repeat' first|exact rk|apply_assumption|refine rb ?_ ?_|refine rl hi ?_|refine ra ?_|(refine rp ?_;intro _ _ _ _)|(refine re ?_;intro _)
 exact⟨y,z,M_sl9Known_poz _ _ _ hv,hq.1,hq.2⟩
theorem d_rule {s:Src} (h:Oks s):∃ y z,G_sl9Rule_poz s y z∧SmD 2 y∧Oks z:=by
 have hs:S_sl9Rule_poz s (fun q=>SmD 2 q.1∧Oks q.2.1):=by
  unfold S_sl9Rule_poz
  obtain⟨b,z,g,hz⟩:=d_once h (n:=3) (by decide) (by decide)
  refine⟨b,z,g,both ?_ ?_⟩
  · obtain⟨y,z1,g1,hy,hz1⟩:=d_known hz
    exact⟨y,z1,g1,hy,hz1⟩
  · obtain⟨v,z1,g1,hv,hz1⟩:=d_below hz (n:=2) (by decide) (by decide)
    obtain⟨N,hN⟩:∃ N:Nat,1+v=(N:Int):=⟨(1+v).toNat,by omega⟩
    refine⟨v,z1,g1,?_⟩
    rw[show w64 (1+v)=(N:Int) by rw[hN];exact w64_id (by omega) (by omega)]
    refine loopP_down (fun k a=>∃(c:Src) (l:List TFact),a=((k:Int),(c,((l,(([]:List TFact),(false,((0:Int),((0:Int),()))))),())))∧Oks c∧l.length+k=N∧SmB l) ?_ ?_ (n:=N) ⟨z1,[],rfl,hz1,by simp,fun f hf=>by simp at hf⟩
    · rintro a ⟨c,l,rfl,hc,hl,hb⟩ X
      refine bc_dec (fun h=>by simp at h) (fun _=>?_)
      have hfl:=hb.flat
      refine⟨_,_,g_sVariables_o (l:=l) (by omega),lenI fun _=>?_⟩
      have head:∀ {c:Src},Oks c→∃ y17 y18,G_sl1Below_poz c 2 y17 y18∧(0≤y17∧y17<2)∧Oks y18:=fun hc=>d_below hc (by decide) (by decide)
      have tail:∀ {u:Int} {c:Src},0≤u∧u<2→Oks c→LoopP (fun(again20:Int×Src×TDep×Unit→Prop) (a19:Int×Src×TDep×Unit)=>bcase (decide (a19.1 > (0:Int))) (∃ y21:Int,∃ y22:Src,G_sl1Below_poz a19.2.1 (3:Int) y21 y22∧(∃ y23:TFact,∃ y24:Src,G_sl9Atom_poz y22 (w64 ((2:Int)+y21)) (4:Int) y23 y24∧(a19.2.2.1.2.1.length+([(y23.1,(y23.2.1,y23.2.2))]:List TFact).length≤maxL∧(again20 (w64 (a19.1 - (1:Int)),(y24,((a19.2.2.1.1,(a19.2.2.1.2.1++([(y23.1,(y23.2.1,y23.2.2))]:List TFact),a19.2.2.1.2.2)),()))))))) (SmD 2 ((a19.2.2.1.1,(a19.2.2.1.2.1,a19.2.2.1.2.2)):TDep)∧Oks a19.2.1)) (w64 ((1:Int)+u),(c,((l,(([]:List TFact),(false,((0:Int),((0:Int),()))))),()))):=by
       intro u c hu hc
       obtain⟨M,hM⟩:∃ M:Nat,1+u=(M:Int):=⟨(1+u).toNat,by omega⟩
       rw[show w64 (1+u)=(M:Int) by rw[hM];exact w64_id (by omega) (by omega)]
       refine loopP_down (fun k a=>∃(c:Src) (m:List TFact),a=((k:Int),(c,((l,(m,(false,((0:Int),((0:Int),()))))),())))∧Oks c∧m.length+k=M∧SmB m) ?_ ?_ (n:=M) ⟨c,[],rfl,hc,by simp,fun f hf=>by simp at hf⟩
       · rintro a ⟨c,m,rfl,hc,hm,hb2⟩ X
         exact bc_dec (fun h=>by simp at h) (fun _=>⟨⟨⟨by simp only;omega,by simp only;omega⟩,by simp only;omega,hb,hb2⟩,hc⟩)
       · rintro k a ⟨c,m,rfl,hc,hm,hb2⟩ X hX
         obtain⟨u,z1,g1,hu,hz1⟩:=d_below hc (n:=3) (by decide) (by decide)
         obtain⟨f,z2,g2,hf,hz2⟩:=d_atom hz1 (r:=2+u) (n:=4) (by omega) (by omega) (by decide) (by decide)
         refine bc_dec (fun _=>⟨u,z1,g1,f,z2,?_,?_,?_⟩) (fun h=>by simp at h<;>omega)
         · rw[w64_id (by omega) (by omega)];exact g2
         · simp only[maxL,List.length_cons,List.length_nil];omega
         · simp only
           rw[w64_dec (by omega)]
           exact hX _ ⟨z2,m++[f],rfl,hz2,by simp;omega,hb2.snoc hf.2⟩
      obtain⟨b2,z2,g2,hz2⟩:=d_once hc (n:=3) (by decide) (by decide)
      obtain⟨u,z3,g3,hu,hz3⟩:=head hz2
      obtain⟨u',z3',g3',hu',hz3'⟩:=head hc
      refine bc_dec (fun hgt=>⟨b2,z2,g2,both ⟨⟨by omega,by omega⟩,⟨by omega,by omega⟩,⟨⟨by simp only;omega,by simp only;omega⟩,by simp,hb,fun f hf=>by simp at hf⟩,hz2⟩ ⟨u,z3,g3,tail hu hz3⟩⟩) (fun _=>⟨u',z3',g3',tail hu' hz3'⟩)
    · rintro k a ⟨c,l,rfl,hc,hl,hb⟩ X hX
      obtain⟨r,z1,g1,hr,hz1⟩:=d_below hc (n:=5) (by decide) (by decide)
      obtain⟨f,z2,g2,hf,hz2⟩:=d_atom hz1 (r:=r) (n:=3) hr.1 hr.2 (by decide) (by decide)
      refine bc_dec (fun _=>⟨r,z1,g1,f,z2,g2,?_,?_⟩) (fun h=>by simp at h<;>omega)
      · simp only[maxL,List.length_cons,List.length_nil];omega
      · simp only
        rw[w64_dec (by omega)]
        exact hX _ ⟨z2,l++[f],rfl,hz2,by simp;omega,hb.snoc hf.2⟩
 obtain⟨⟨y,z,_⟩,hq,hv⟩:=rd_of (S:=S_sl9Rule_poz s) hs ⟨((([(0,([0],()))],([],(false,(0,(0,()))))):TDep),(s,())),smd0,h⟩ fun hi=>by
  unfold S_sl9Rule_poz
  repeat' first|exact rk|apply_assumption|refine rb ?_ ?_|refine rl hi ?_|refine ra ?_|(refine rp ?_;intro _ _ _ _)|(refine re ?_;intro _)
 exact⟨y,z,M_sl9Rule_poz _ _ _ hv,hq.1,hq.2⟩
theorem d_any {s:Src} (h:Oks s):∃ y z,G_sl9Any_poz s y z∧SmD 3 y∧Oks z:=by
 have hs:S_sl9Any_poz s (fun q=>SmD 3 q.1∧Oks q.2.1):=by
  unfold S_sl9Any_poz
  obtain⟨d,z,g,hd,hz⟩:=d_rule h
  obtain⟨v,z1,g1,hv,hz1⟩:=d_below hz (n:=12) (by decide) (by decide)
  obtain⟨u,z2,g2,hu,hz2⟩:=d_below hz1 (n:=7) (by decide) (by decide)
  obtain⟨w,z3,g3,hz3⟩:=d_pickInt hz1 (l:=[5,-11,4]) (by decide) (by decide)
  obtain⟨t,z4,g4,ht,hz4⟩:=d_below hz1 (n:=4) (by decide) (by decide)
  obtain⟨r,z5,g5,hr,hz5⟩:=d_below hz1 (n:=5) (by decide) (by decide)
  obtain⟨f,z6,g6,hf,hz6⟩:=d_atom hz5 (r:=r) (n:=3) hr.1 hr.2 (by decide) (by decide)
  have hd3:=hd.mono (show 2≤3 by decide)
  have h0:0<d.1.length:=hd.1.1
  have hb0:=hd.2.2.1 _ (List.getElem_mem h0)
  have hset:∀ {g:TFact},1≤g.2.1.length∧g.2.1.length≤2→SmD 3 (d.1.set (Int.toNat (0:Int)) g,d.2):=by
   intro g hg
   refine⟨⟨by simp only[List.length_set];exact hd.1.1,by simp only[List.length_set];exact hd.1.2⟩,hd3.2.1,fun x hx=>?_,hd.2.2.2⟩
   rcases List.mem_or_eq_of_mem_set hx with hx|rfl
   · exact hd.2.2.1 x hx
   · exact hg
  have e0:d.1.getD (Int.toNat (0:Int)) zFact=d.1[0]:=getI h0
  refine⟨d,z,g,v,z1,g1,?_⟩
  rw[e0]
  refine both ⟨u,z2,g2,⟨by omega,by omega⟩,hset hb0,hz2⟩ (both ⟨⟨by omega,by omega⟩,w,z3,g3,⟨by omega,by omega⟩,hset (by simp only[List.length_set];exact hb0),hz3⟩ (both ⟨t,z4,g4,hd3,hz4⟩ (both ⟨hd3,hz1⟩ (both ⟨r,z5,g5,f,z6,g6,?_,⟨hd.1,?_,hd.2.2.1,hd.2.2.2.snoc hf.2⟩,hz6⟩ ⟨hd3,hz1⟩))))
  · have:=hd.2.1
    simp only[maxL,List.length_cons,List.length_nil];omega
  · have:=hd.2.1
    simp only[List.length_append,List.length_cons,List.length_nil];omega
 obtain⟨⟨y,z,_⟩,hq,hv⟩:=rd_of (S:=S_sl9Any_poz s) hs ⟨((([(0,([0],()))],([],(false,(0,(0,()))))):TDep),(s,())),smd0.mono (by decide),h⟩ fun hi=>by
  unfold S_sl9Any_poz
  repeat' first|exact rk|apply_assumption|refine rb ?_ ?_|refine rl hi ?_|refine ra ?_|(refine rp ?_;intro _ _ _ _)|(refine re ?_;intro _)
 exact⟨y,z,M_sl9Any_poz _ _ _ hv,hq.1,hq.2⟩
def SmX (x:TInst):Prop:=x.1=sigs∧x.2.1.length≤40∧∀ f∈x.2.1,f.2.1.length≤2
theorem d_target {s:Src} {m n:Int} (h:Oks s) (h0:0≤m) (h1:m≤30) (h2:n≤40):∃ y z,G_sl5Target_poz s m n y z∧SmX y∧Oks z:=by
 have hs:S_sl5Target_poz s m n (fun q=>SmX q.1∧Oks q.2.1):=by
  unfold S_sl5Target_poz
  obtain⟨v,z,g,hv,hz⟩:=d_below h (n:=m+1) (by omega) (by omega)
  refine⟨_,g_sl3Sigs,v,z,by rw[w64_id (by omega) (by omega)];exact g,?_⟩
  obtain⟨N,rfl⟩:∃ N:Nat,v=(N:Int):=⟨v.toNat,by omega⟩
  refine loopP_down (fun k a=>∃(c:Src) (x:TInst),a=((k:Int),(c,(x,())))∧Oks c∧x.1=sigs∧x.2.1.length+k≤N∧∀ f∈x.2.1,f.2.1.length≤2) ?_ ?_ (n:=N) ⟨z,(sigs,([],())),rfl,hz,rfl,by simp,fun f hf=>by simp at hf⟩
  · rintro a ⟨c,x,rfl,hc,hx,hl,hf⟩ X
    refine bc_dec (fun h=>by simp at h) (fun _=>⟨x,g_sl5Copy (by rw[hx];decide) (by first|omega|(simp only;omega)) (fun f hm=>by have:=hf f hm;omega),⟨hx,by first|omega|(simp only;omega),hf⟩,hc⟩)
  · rintro k a ⟨c,x,rfl,hc,hx,hl,hf⟩ X hX
    obtain⟨u,z1,g1,hu,hz1⟩:=d_below hc (n:=3) (by decide) (by decide)
    obtain⟨f,z2,g2,hr,hz2⟩:=d_fact hz1 (r:=2+u) (n:=n) (by omega) (by omega) h2
    have hr2:=hr.2.2
    refine bc_dec (fun _=>⟨u,z1,g1,f,z2,by rw[w64_id (by omega) (by omega)];exact g2,_,g_sl5Put (x:=x) (f:=f) (by omega) (by omega),?_⟩) (fun h=>by simp at h<;>omega)
    simp only
    rw[w64_dec (by omega)]
    refine hX _ ⟨z2,_,rfl,hz2,hx,?_,fun y hy=>?_⟩
    · have:=putF_len (l:=x.2.1) (f:=f)
      show(putF x.2.1 f).length+k≤N
      omega
    · rcases putF_mem.mp hy with hy|rfl
      · exact hf y hy
      · exact hr2
 obtain⟨⟨y,z,_⟩,hq,hv⟩:=rd_of (S:=S_sl5Target_poz s m n) hs ⟨(((sigs,([],())):TInst),(s,())),⟨rfl,by simp,fun f hf=>by simp at hf⟩,h⟩ fun hi=>by
  unfold S_sl5Target_poz
  repeat' first|exact rk|apply_assumption|refine rb ?_ ?_|refine rl hi ?_|refine ra ?_|(refine rp ?_;intro _ _ _ _)|(refine re ?_;intro _)
 exact⟨y,z,M_sl5Target_poz _ _ _ _ _ hv,hq.1,hq.2⟩
def repA (u:List Int) (w:Int):Int:=if isNul w then iAt u (nulNo w).toNat else w
def stI (x:TInst) (u:List Int):TInst:=(x.1,(facS (x.2.1.map fun f=>(f.1,(f.2.1.map (repA u),()))),()))
theorem subU_eq {U:List Int} (h:ufOk (U,())=true):subU (U,())=((subL U U.length).map (fun k:Nat=>(k:Int)),((subL U U.length).map (fun k:Nat=>iAt U k),())):=by unfold subU;rw[if_pos h]
theorem subL_mem {U:List Int} {n k:Nat}:k∈subL U n↔k<n∧¬ iAt U k = -1 - (k:Int):=by
 unfold subL
 rw[List.mem_filter,List.mem_range]
 simp
theorem subU_vSub {U:List Int} (h:ufOk (U,())=true):vSub (subU (U,()))=true:=by
 rw[subU_eq h]
 have hl:U.length≤40:=ufOk_len h
 have hpw:(subL U U.length).Pairwise (· < ·):=List.Pairwise.filter _ List.pairwise_lt_range
 refine vSub_yes (by simp) fun i hi=>?_
 have hi:i<(subL U U.length).length:=by simpa using hi
 have hm:=(subL_mem.mp (List.getElem_mem hi)).1
 have e1:iAt ((subL U U.length).map (fun k:Nat=>(k:Int))) i=(((subL U U.length)[i]:Nat):Int):=by rw[iAt_get (by simpa using hi),List.getElem_map]
 have e2:iAt ((subL U U.length).map (fun k:Nat=>iAt U k)) i=iAt U (subL U U.length)[i]:=by rw[iAt_get (by simpa using hi),List.getElem_map]
 unfold subAt
 simp only
 rw[e1,e2]
 have h1:inR (((subL U U.length)[i]:Nat):Int) 0 39=true:=inR_iff.mpr ⟨by omega,by omega⟩
 have h3:vVal (iAt U (subL U U.length)[i])=true:=(ufOk_at h (k:=(subL U U.length)[i]) hm).1
 rw[h1,h3,Bool.true_and,Bool.and_true]
 by_cases h0:i=0
 · subst h0;rfl
 · have hi1:i - 1<(subL U U.length).length:=by omega
   rw[iAt_get (by simpa using hi1),List.getElem_map]
   have:=List.pairwise_iff_getElem.mp hpw (i - 1) i hi1 hi (by omega)
   rw[decide_eq_true (show(((subL U U.length)[i - 1]:Nat):Int)<(((subL U U.length)[i]:Nat):Int) by omega)]
   simp
theorem rep_sub {U:List Int} (huf:ufOk (U,())=true) {w:Int} (hlt:isNul w=true→nulNo w<U.length):subV (subU (U,())) w=repA U w:=by
 unfold subV repA
 rw[subU_vSub huf,if_pos rfl,subU_eq huf]
 simp only
 by_cases hfa:firstAt (fun k=>decide (-1 - k=w)) ((subL U U.length).map (fun k:Nat=>(k:Int)))<((subL U U.length).map (fun k:Nat=>(k:Int))).length
 · rw[if_pos hfa]
   have hp:=firstAt_at hfa
   generalize hj:firstAt (fun k=>decide (-1 - k=w)) ((subL U U.length).map (fun k:Nat=>(k:Int)))=j at hfa hp ⊢
   have hjl:j<(subL U U.length).length:=by simpa using hfa
   rw[List.getElem_map]at hp
   have hp : -1 - ((subL U U.length)[j]:Int)=w:=of_decide_eq_true hp
   have hkn:=(subL_mem.mp (List.getElem_mem hjl)).1
   have hl:U.length≤40:=ufOk_len huf
   have hnw:isNul w=true:=isNul_iff.mpr ⟨by omega,by omega⟩
   have hno:nulNo w=((subL U U.length)[j]:Int):=by unfold nulNo;rw[if_pos hnw];omega
   rw[if_pos hnw,iAt_get (by simpa using hjl),List.getElem_map,hno,Int.toNat_natCast]
 · rw[if_neg hfa]
   cases hnw:isNul w with
   |false=>rfl
   | true=>
     rw[if_pos rfl]
     have hlt:=hlt hnw
     have h0:=nulNo_nonneg w
     have hno:nulNo w = -1 - w:=by unfold nulNo;rw[if_pos hnw]
     refine Classical.byContradiction fun hne'=>hfa ?_
     refine firstAt_any.mpr (List.any_eq_true.mpr ⟨((nulNo w).toNat:Int),?_,by simp;omega⟩)
     exact List.mem_map.mpr ⟨(nulNo w).toNat,subL_mem.mpr ⟨by omega,fun h'=>hne' (by rw[h'];omega)⟩,rfl⟩
theorem one_vSub {k M:Int} (h0:0≤k) (h1:k≤39) (hM:vVal M=true):vSub ([k],([M],()))=true:=by
 refine vSub_yes rfl fun i hi=>?_
 have hi:i=0:=by have:i<1:=hi;omega
 subst hi
 have e1:iAt [k] 0=k:=rfl
 have e2:iAt [M] 0=M:=rfl
 unfold subAt
 simp only
 rw[e1,e2,hM,inR_iff.mpr ⟨h0,h1⟩];rfl
theorem one_sub {k M:Int} (h0:0≤k) (h1:k≤39) (hM:vVal M=true) {w:Int}:subV ([k],([M],())) w=if w = -1 - k then M else w:=by
 unfold subV
 rw[one_vSub h0 h1 hM,if_pos rfl]
 by_cases h : -1 - k=w
 · have e:firstAt (fun k=>decide (-1 - k=w)) [k]=0:=by unfold firstAt;rw[decide_eq_true h];rfl
   simp only[e]
   rw[if_pos h.symm];rfl
 · have e:firstAt (fun k=>decide (-1 - k=w)) [k]=1:=by unfold firstAt firstAt;rw[decide_eq_false h];rfl
   simp only[e]
   rw[if_neg (show ¬ 1<[k].length by simp),if_neg (fun h':w = -1 - k=>h h'.symm)]
section
variable {n:Nat} {x:TInst} {e:List TDep} {u:List Int}
theorem stI_id (h:vInst x=true) (hs:∀ f∈x.2.1,∀ v∈f.2.1,isNul v=true→nulNo v<n):stI x (idU n)=x:=by
 have e1:(x.2.1.map fun f=>((f.1,(f.2.1.map (repA (idU n)),())):TFact))=x.2.1:=by
  refine(List.map_congr_left fun f hf=>?_).trans (List.map_id _)
  have:f.2.1.map (repA (idU n))=f.2.1:=by
   refine(List.map_congr_left fun v hv=>?_).trans (List.map_id _)
   unfold repA
   cases hn:isNul v with
   |false=>rfl
   | true=>
     have hlt:=hs f hf v hv hn
     have h0:=nulNo_nonneg v
     have hno:nulNo v = -1 - v:=by unfold nulNo;rw[if_pos hn]
     rw[if_pos rfl]
     unfold idU
     rw[iAt_get (by simp;omega),List.getElem_map,List.getElem_range]
     show -1 - ((nulNo v).toNat:Int)=v
     omega
  show(f.1,(f.2.1.map (repA (idU n)),()))=f
  rw[this]
 unfold stI
 rw[e1,←facS_of (vInst_asc h) fun _=>Iff.rfl]
theorem stI_app (h:vInst x=true) (hu:ufOk (u,())=true) (hs:∀ f∈x.2.1,∀ v∈f.2.1,isNul v=true→nulNo v<u.length):appI (subU (u,())) x=stI x u:=by
 unfold appI
 rw[subU_vSub hu,h]
 unfold subI stI
 have:x.2.1.map (subF (subU (u,())))=x.2.1.map fun f=>((f.1,(f.2.1.map (repA u),())):TFact):=List.map_congr_left fun f hf=>by
  unfold subF
  rw[List.map_congr_left fun v hv=>rep_sub hu (hs f hf v hv)]
 rw[show(true&&true)=true from rfl,if_pos rfl,this]
theorem rep_val (hu:ufOk (u,())=true) {w:Int} (hw:vVal w=true) (hl:isNul w=true→nulNo w<u.length):vVal (repA u w)=true:=by
 unfold repA
 cases hn:isNul w with
 |false=>exact hw
 | true=>
   have h0:=nulNo_nonneg w
   have:=hl hn
   exact(ufOk_at hu (k:=(nulNo w).toNat) (by show _<u.length;omega)).1
theorem nulF_none {f:TFact} (h:nulF f=[]) {v:Int} (hv:v∈f.2.1):isNul v=false:=by
 cases hn:isNul v with
 |false=>rfl
 | true=>
   have h1:=isNul_iff.mp hn
   have:(-1 - v)∈nulF f:=mem_sset.mpr (mem_nulls.mpr ⟨by omega,by omega,by rw[show -1 - (-1 - v)=v by omega];exact hv⟩)
   rw[h]at this;cases this
theorem stI_valid (h:vInst x=true) (hu:ufOk (u,())=true) (hs:∀ f∈x.2.1,∀ v∈f.2.1,isNul v=true→nulNo v<u.length):vInst (stI x u)=true:=by
 have hl:=vInst_len h
 refine vInst_mk (vInst_rels h) (facS_asc _) ?_ fun f hf=>?_
 · have:=facS_len (l:=x.2.1.map fun f=>((f.1,(f.2.1.map (repA u),())):TFact))
   rw[List.length_map]at this
   omega
 · obtain⟨g,hg,rfl⟩:=List.mem_map.mp (facS_mem.mp hf)
   have hv:=vInst_fact h hg
   have hsp:=vRow_spec hv
   refine⟨?_,fun hsrc=>?_⟩
   · unfold vFact vRow at hv ⊢
     simp only[Bool.and_eq_true,List.length_map]at hv ⊢
     refine⟨hv.1,List.all_eq_true.mpr fun v hm=>?_⟩
     obtain⟨w,hw,rfl⟩:=List.mem_map.mp hm
     exact rep_val hu (hsp.2.2.2.2.2 w hw) (hs g hg w hw)
   · have hn:=vInst_src h hg hsrc
     have:g.2.1.map (repA u)=g.2.1:=by
      refine(List.map_congr_left fun v hv=>?_).trans (List.map_id _)
      unfold repA
      rw[nulF_none hn hv];rfl
     rw[this];exact hn
theorem stI_step (hx:vInst x=true) (h:CeOk n x e (stI x u) u) (hv:(viol (stI x u) e).2.2=true) (hc:¬ (0≤ceA (stI x u) e∧0≤ceB (stI x u) e)) :
  appI ([nulNo (minI (ceA (stI x u) e) (ceB (stI x u) e))],([maxI (ceA (stI x u) e) (ceB (stI x u) e)],())) (stI x u)=stI x (u.map (repU (ceA (stI x u) e) (ceB (stI x u) e))):=by
 obtain⟨_,_,_,_,_,_,_,_,_,_,hne,⟨a1,a2⟩,⟨b1,b2⟩⟩:=h.pair hv
 have hsl:∀ f∈x.2.1,∀ v∈f.2.1,isNul v=true→nulNo v<u.length:=fun f hf v hm hn=>by rw[h.len];exact h.src f hf v hm hn
 have hval:=stI_valid hx h.uf hsl
 generalize ceA (stI x u) e=a at hne a1 a2 hc ⊢
 generalize ceB (stI x u) e=b at hne b1 b2 hc ⊢
 have hra:=inR_iff.mp a1
 have hrb:=inR_iff.mp b1
 have hlen:=h.len
 have hn40:=ufOk_len h.uf
 have hn40:n≤40:=by rw[←hlen];exact hn40
 have hfr:isNul (minI a b)=true∧nulNo (minI a b)<n:=by
  unfold minI
  by_cases hba:b<a
  · rw[if_pos hba]
    have hnl:isNul b=true:=isNul_iff.mpr ⟨by omega,by omega⟩
    exact⟨hnl,(b2 hnl).1⟩
  · rw[if_neg hba]
    have hnl:isNul a=true:=isNul_iff.mpr ⟨by omega,by omega⟩
    exact⟨hnl,(a2 hnl).1⟩
 have hto:vVal (maxI a b)=true:=by
  unfold maxI
  split
  · exact b1
  · exact a1
 have f0:=nulNo_nonneg (minI a b)
 have hnf:nulNo (minI a b) = -1 - minI a b:=by unfold nulNo;rw[if_pos hfr.1]
 have hsub:∀ w,subV ([nulNo (minI a b)],([maxI a b],())) w=repU a b w:=fun w=>by
  rw[one_sub f0 (by omega) hto,hnf,show -1 - (-1 - minI a b)=minI a b by omega];rfl
 unfold appI
 rw[one_vSub f0 (by omega) hto,hval,show(true&&true)=true from rfl,if_pos rfl]
 unfold subI stI
 simp only
 congr 2
 refine facS_of (facS_asc _) fun z=>?_
 rw[facS_mem]
 have key:∀ f∈x.2.1,subF ([nulNo (minI a b)],([maxI a b],())) ((f.1,(f.2.1.map (repA u),())):TFact)=((f.1,(f.2.1.map (repA (u.map (repU a b))),())):TFact):=by
  intro f hf
  unfold subF
  simp only[List.map_map]
  congr 2
  refine List.map_congr_left fun w hw=>?_
  show subV _ (repA u w)=repA (u.map (repU a b)) w
  rw[hsub]
  unfold repA
  cases hn:isNul w with
  | false=>
    have:w≠minI a b:=fun e=>by rw[e,hfr.1]at hn;cases hn
    show repU a b w=w
    unfold repU;rw[if_neg this]
  | true=>
    have h0:=nulNo_nonneg w
    have:=hsl f hf w hw hn
    rw[if_pos rfl,if_pos rfl,iAt_map (by omega)]
 constructor
 · intro hz
   obtain⟨g,hg,rfl⟩:=List.mem_map.mp hz
   obtain⟨f,hf,rfl⟩:=List.mem_map.mp (facS_mem.mp hg)
   rw[key f hf]
   exact List.mem_map.mpr ⟨f,hf,rfl⟩
 · intro hz
   obtain⟨f,hf,rfl⟩:=List.mem_map.mp hz
   rw[←key f hf]
   exact List.mem_map.mpr ⟨_,facS_mem.mpr (List.mem_map.mpr ⟨f,hf,rfl⟩),rfl⟩
end
theorem trgF_head {y:TInst} {e:List TDep}:∀(l:List Nat) (t:TFact) (ts:List TFact),∃ ts',l.foldl (trgG y e) (t::ts)=t::ts'
 |[],t,ts=>⟨ts,rfl⟩
 |i::l,t,ts=>by rw[List.foldl_cons,trgG_eq];exact trgF_head l t _
theorem trigs_none {y:TInst} {e:List TDep}:∀ n,(∀ i (hi:i<e.length),i<n→actT y e[i]=[])→n≤e.length→(List.range n).foldl (trgG y e) []=[]
 |0,_,_=>rfl
 | n+1,h,hn=>by
   rw[List.range_succ,List.foldl_append,trigs_none n (fun i hi hlt=>h i hi (by omega)) (by omega)]
   simp only[List.foldl_cons,List.foldl_nil]
   rw[trgG_eq,getD_at (show n<e.length by omega),h n (by omega) (by omega)];rfl
theorem trigs_some {y:TInst} {e:List TDep} {j:Nat} {b:List Int} {bs:List (List Int)} (hj:j<e.length) (h0:∀ i (hi:i<e.length),i<j→actT y e[i]=[]) (hb:actT y e[j]=b::bs):∃ ts,trigs y e=((j:Int),(b,()))::ts:=by
 have key:∀ m,j+1+m≤e.length→∃ ts,(List.range (j+1+m)).foldl (trgG y e) []=((j:Int),(b,()))::ts:=by
  intro m
  induction m with
  | zero=>
    intro _
    rw[Nat.add_zero,List.range_succ,List.foldl_append,trigs_none j h0 (by omega)]
    simp only[List.foldl_cons,List.foldl_nil]
    rw[trgG_eq,getD_at hj,hb]
    exact⟨_,rfl⟩
  | succ m ih=>
    intro hm
    obtain⟨ts,hts⟩:=ih (by omega)
    rw[show j+1+(m+1)=(j+1+m)+1 by omega,List.range_succ,List.foldl_append,hts]
    exact trgF_head _ _ _
 obtain⟨ts,h⟩:=key (e.length - (j+1)) (by omega)
 rw[show j+1+(e.length - (j+1))=e.length by omega]at h
 exact⟨ts,h⟩
theorem hasA_no {y:TInst} {d:TDep} (h:hasA y d=false):actT y d=[]:=by
 unfold hasA at h
 cases hl:actT y d with
 |nil=>rfl
 |cons a l=>rw[hl]at h;simp at h
theorem trigs_viol {y:TInst} {e:List TDep} (h:(vInst y&&vDeps y.1 e)=true):((viol y e).2.2=false→trigs y e=[])∧((viol y e).2.2=true→∃ ts,trigs y e=((viol y e).1,((viol y e).2.1,()))::ts):=by
 unfold viol
 rw[if_pos h]
 by_cases hf:firstAt (hasA y) e<e.length
 · rw[if_pos hf]
   refine⟨fun h=>by simp at h,fun _=>?_⟩
   have hA:=firstAt_at hf
   rw[getD_at hf]
   have h0:∀ i (hi:i<e.length),i<firstAt (hasA y) e→actT y e[i]=[]:=fun i hi hlt=>hasA_no (firstAt_lt hi hlt)
   cases hl:actT y e[firstAt (hasA y) e]with
   | nil=>
     have hA2:(!(actT y e[firstAt (hasA y) e]).isEmpty)=true:=hA
     rw[hl]at hA2;simp at hA2
   |cons b bs=>exact trigs_some hf h0 hl
 · rw[if_neg hf]
   refine⟨fun _=>trigs_none e.length (fun i hi _=>hasA_no (firstAt_lt hi (by have:=firstAt_le (hasA y) e;omega))) (Nat.le_refl _),fun h=>by simp at h⟩
structure CoEnd (x:TInst) (e:List TDep) (r:TRes) (q:TInst×TUf×Int):Prop where
 code:r.2.1=q.2.2
 done:q.2.2=1→r.1=q.1∧(viol q.1 e).2.2=false∧vInst q.1=true∧ufOk q.2.1=true∧q.1.1=x.1
theorem chase_co {n:Nat} {x:TInst} {e:List TDep} (hx:vInst x=true) (he:vDeps x.1 e=true):∀(j k:Nat) (u:List Int) (l:List TFact),CeOk n x e (stI x u) u→rootsU u<j→j≤k→
  CoEnd x e (chK e k (stI x u) l) (ceK x e j (stI x u) u)
 |0,_,_,_,_,h,_=>by omega
 |j+1,0,_,_,_,_,h=>by omega
 | j+1,k+1,u,l,hc,hr,hjk=>by
   have hsl:∀ f∈x.2.1,∀ v∈f.2.1,isNul v=true→nulNo v<u.length:=fun f hf v hm hn=>by rw[hc.len];exact hc.src f hf v hm hn
   have hval:=stI_valid hx hc.uf hsl
   obtain⟨t1,t2⟩:=trigs_viol (y:=stI x u) (e:=e) (by rw[hval];exact he)
   unfold chK ceK
   cases hv:(viol (stI x u) e).2.2 with
   | false=>
     rw[t1 hv]
     exact⟨rfl,fun _=>⟨rfl,hv,hval,hc.uf,rfl⟩⟩
   | true=>
     obtain⟨ts,ht⟩:=t2 hv
     obtain⟨i,hi,hlt,_,_,hm,_,ha⟩:=viol_yes hv
     have hegd:=hc.egd _ hm
     rw[ht,if_pos rfl,hc.un hv]
     have hap:appT (stI x u) (e.getD (viol (stI x u) e).1.toNat zDep) (viol (stI x u) e).2.1=(if 0≤ceA (stI x u) e∧0≤ceB (stI x u) e then(stI x u,2)
       else(appI ([nulNo (minI (ceA (stI x u) e) (ceB (stI x u) e))],([maxI (ceA (stI x u) e) (ceB (stI x u) e)],())) (stI x u),1)):=by
      have ed:e.getD (viol (stI x u) e).1.toNat zDep=depAt e i:=by rw[hi];rfl
      have e2:depAt e (viol (stI x u) e).1=depAt e i:=by rw[hi]
      rw[ed,appT_egd ha hegd]
      unfold ceA ceB
      rw[e2]
     by_cases hcc:0≤ceA (stI x u) e∧0≤ceB (stI x u) e
     · rw[if_pos hcc]at hap
       simp only[hap,if_pos hcc]
       refine⟨rfl,fun h=>by simp at h⟩
     · rw[if_neg hcc,stI_step hx hc hv hcc]at hap
       obtain⟨hs1,hs2⟩:=hc.step hv hcc
       have hU:=hs1.uf
       have hL:=hs1.len
       have hst:appI (subU (u.map (repU (ceA (stI x u) e) (ceB (stI x u) e)),())) x=stI x (u.map (repU (ceA (stI x u) e) (ceB (stI x u) e))):=
        stI_app hx hU (fun f hf v hm hn=>by rw[hL];exact hc.src f hf v hm hn)
       rw[hst]at hs1
       simp only[hap,if_neg hcc]
       rw[if_pos trivial,if_neg (by decide),hst]
       exact chase_co hx he j k _ _ hs1 (by omega) (by omega)
theorem vDeps_egd {l:List TRel} {ds:List TDep} (h:vDeps l ds=true):vDeps l (egdF ds)=true:=by
 unfold vDeps at h ⊢
 simp only[Bool.and_eq_true,decide_eq_true_eq]at h ⊢
 refine⟨⟨List.all_eq_true.mpr fun d hd=>List.all_eq_true.mp h.1.1 d (List.mem_filter.mp hd).1,h.1.2⟩,Nat.le_trans (List.length_filter_le _ _) h.2⟩
theorem chase_eq {x:TInst} {ds:List TDep} (hx:vInst x=true) (hd:vDeps x.1 ds=true):(chs x (egdF ds)).2=true∧CoEnd x (egdF ds) (chs x (egdF ds)).1 (chaseE x ds):=by
 have he:=vDeps_egd hd
 have hs:=ce_start (ds:=ds) hx
 have hn:=nextN_range x
 have hid:=stI_id (n:=(nextN x).toNat) hx hs.src
 have h1:chs x (egdF ds)=(chK (egdF ds) 60 x [],true):=by unfold chs;rw[hx,he];rfl
 have h2:chaseE x ds=ceK x (egdF ds) 41 x (idU (nextN x).toNat):=by unfold chaseE;rw[hx,hd];rfl
 rw[h1,h2]
 refine⟨rfl,?_⟩
 have hr:=rootsU_le (idU (nextN x).toNat)
 rw[idU_len]at hr
 have:=chase_co (n:=(nextN x).toNat) hx he 41 60 (idU (nextN x).toNat) [] (by rw[hid];exact hs) (by omega) (by omega)
 rw[hid]at this
 exact this
theorem ceK_code {x:TInst} {e:List TDep}:∀(k:Nat) (y:TInst) (u:List Int),(ceK x e k y u).2.2=1∨(ceK x e k y u).2.2=2
 |0,_,_=>.inl rfl
 | k+1,y,u=>by
   unfold ceK
   split
   · split
     · exact .inr rfl
     · exact ceK_code k _ _
   · exact .inl rfl
theorem chaseE_code {x:TInst} {ds:List TDep} (h:(vInst x&&vDeps x.1 ds)=true):(chaseE x ds).2.2=1∨(chaseE x ds).2.2=2:=by
 unfold chaseE
 rw[if_pos h]
 exact ceK_code _ _ _
theorem d_new {x:List Int} (h:x.length≤1048576):∃ z,G_sl1New x z∧Oks z:=by
 have hs:S_sl1New x (fun q=>Oks q.1):=by
  unfold S_sl1New
  refine lenI fun _=>?_
  refine loopP_down (fun k a=>∃(v:Int) (i:Nat),a=(v,((i:Int),()))∧i+k=4000) ?_ ?_ (n:=4000) ⟨_,0,rfl,rfl⟩
  · rintro a ⟨v,i,rfl,hi⟩ X
    exact lenI fun _=>both (bc_dec (fun h=>by simp at h;omega) (fun _=>⟨Int.le_refl (0:Int),by show x.length≤_;omega⟩)) ⟨Int.le_refl (0:Int),by show x.length≤_;omega⟩
  · rintro k a ⟨v,i,rfl,hi⟩ X hX
    refine lenI fun _=>bc_dec (fun hlt=>both ⟨⟨by simp only;omega,hlt⟩,?_⟩ ⟨Int.le_refl (0:Int),by show x.length≤_;omega⟩) (fun _=>⟨Int.le_refl (0:Int),by show x.length≤_;omega⟩)
    simp only
    rw[w64_succ (by omega)]
    exact hX _ ⟨_,i+1,rfl,by omega⟩
 obtain⟨⟨z,_⟩,hq,hv⟩:=rd_of (S:=S_sl1New x) hs ⟨(([],(0,(0,()))),()),Int.le_refl (0:Int),by decide⟩ fun hi=>by
  unfold S_sl1New
  repeat' first|exact rk|apply_assumption|refine rb ?_ ?_|refine rl hi ?_|refine ra ?_|(refine rp ?_;intro _ _ _ _)|(refine re ?_;intro _)
 exact⟨z,M_sl1New _ _ hv,hq⟩
theorem d_both {x:List Int} (h:x.length≤1048576):∃ z y ds,G_sl30Both x z y ds∧Oks z∧SmX y∧ds.length≤10∧∀ d∈ds,SmD 3 d:=by
 have hs:S_sl30Both x (fun q=>Oks q.1∧SmX q.2.1∧q.2.2.1.length≤10∧∀ d∈q.2.2.1,SmD 3 d):=by
  unfold S_sl30Both
  obtain⟨z,g,hz⟩:=d_new h
  obtain⟨y,z1,g1,hy,hz1⟩:=d_target hz (m:=6) (n:=5) (by decide) (by decide) (by decide)
  obtain⟨v,z2,g2,hv,hz2⟩:=d_below hz1 (n:=3) (by decide) (by decide)
  obtain⟨N,rfl⟩:∃ N:Nat,v=(N:Int):=⟨v.toNat,by omega⟩
  refine⟨z,g,y,z1,g1,_,z2,g2,?_⟩
  refine loopP_down (fun k a=>∃(c:Src) (ds:List TDep),a=((k:Int),(ds,(c,())))∧Oks c∧ds.length+k≤1+N∧∀ d∈ds,SmD 3 d) ?_ ?_ (n:=N) ⟨z2,_,rfl,hz2,by simp,fun d hd=>?_⟩
  · rintro a ⟨c,ds,rfl,hc,hl,hd⟩ X
    obtain⟨b,z3,g3,hz3⟩:=d_once hc (n:=16) (by decide) (by decide)
    obtain⟨d,z4,g4,hd4,hz4⟩:=d_any hz3
    refine bc_dec (fun h=>by simp at h) (fun _=>⟨b,z3,g3,both ⟨d,z4,g4,?_,hz4,hy,?_,fun q hq=>?_⟩ ⟨hz3,hy,by simp only;omega,hd⟩⟩)
    · simp only[maxL,List.length_cons,List.length_nil];omega
    · simp only[List.length_append,List.length_cons,List.length_nil];omega
    · rcases List.mem_append.mp hq with hq|hq
      · exact hd q hq
      · obtain rfl:=List.mem_singleton.mp hq;exact hd4
  · rintro k a ⟨c,ds,rfl,hc,hl,hd⟩ X hX
    obtain⟨d,z4,g4,hd4,hz4⟩:=d_rule hc
    refine bc_dec (fun _=>⟨d,z4,g4,?_,?_⟩) (fun h=>by simp at h<;>omega)
    · simp only[maxL,List.length_cons,List.length_nil];omega
    · simp only
      rw[w64_dec (by omega)]
      refine hX _ ⟨z4,_,rfl,hz4,by simp;omega,fun q hq=>?_⟩
      rcases List.mem_append.mp hq with hq|hq
      · exact hd q hq
      · obtain rfl:=List.mem_singleton.mp hq;exact hd4.mono (by decide)
  · obtain rfl:=List.mem_singleton.mp hd
    unfold SmD SmB;decide
 obtain⟨⟨z,y,ds,_⟩,hq,hv⟩:=rd_of (S:=S_sl30Both x) hs ⟨((([],(0,(0,()))):Src),(((sigs,([],())):TInst),(([]:List TDep),()))),⟨Int.le_refl (0:Int),by decide⟩,⟨rfl,by simp,fun f hf=>by simp at hf⟩,by simp,fun d hd=>by simp at hd⟩ fun hi=>by
  unfold S_sl30Both
  repeat' first|exact rk|apply_assumption|refine rb ?_ ?_|refine rl hi ?_|refine ra ?_|(refine rp ?_;intro _ _ _ _)|(refine re ?_;intro _)
 exact⟨z,y,ds,M_sl30Both _ _ _ _ hv,hq⟩
theorem g_sigs_self {l:List TRel}:G_sl5Sigs l l true:=by
 have h:=g_sl5Sigs (x:=l) (y:=l)
 rw[decide_eq_true rfl]at h
 exact h
theorem g_inst_self {x:TInst}:G_sEqualInstances x x true:=M_sEqualInstances _ _ _ (by
 unfold S_sEqualInstances
 refine⟨_,g_sigs_self,bcF (lenI fun _=>lenI fun hl=>bc_ne (fun h=>absurd rfl h) (fun _=>?_))⟩
 refine loopP_of x.2.1.length (fun i=>((i:Int),())) rfl ?_ ?_
 · intro i hi X hX
   refine lenI fun _=>bcI hi (inI hi (inI hi ⟨_,g_sCompareFacts,?_⟩))
   simp only
   rw[getI hi,w64_succ (by omega),cmpF_zero.mpr rfl]
   exact bc_ne (fun h=>absurd rfl h) (fun _=>hX)
 · intro X
   exact lenI fun _=>bcN rfl)
theorem g_uf_self {u:TUf}:G_sEqualUnionFinds u u true:=M_sEqualUnionFinds _ _ _ (by
 unfold S_sEqualUnionFinds
 exact⟨_,g_sl4Ints,by rw[cmpL_zero.mpr rfl];rfl⟩)
theorem g_iSatisfies {x:TInst} {ds:List TDep}:G_iSatisfies x ds (!(viol x ds).2.2&&(vInst x&&vDeps x.1 ds)):=M_iSatisfies _ _ _ (by
 unfold S_iSatisfies
 refine⟨_,_,_,g_iFirstViolation,bc_not (fun h=>?_) (fun h=>?_)⟩
 · rw[h]
   exact⟨_,g_iIsValidInstance,bc_if (fun h=>⟨_,g_iAreValidDependencies,by rw[h];rfl⟩) (fun h=>by rw[h];rfl)⟩
 · rw[h];rfl)
theorem g_lbig {x:List Int}:G_lbig x (decide ((x.length:Int) > 1048576)):=M_lbig _ _ (lenI fun _=>rfl)
theorem law {x0:List Int} (_:Bnd (.sl 5 (.int .u8)) x0):G_lFnEqualityChase x0 true:=M_lFnEqualityChase _ _ (by
 unfold S_lFnEqualityChase
 refine⟨_,g_lbig,bc_dec (fun _=>rfl) (fun hb=>?_)⟩
 have hlen:x0.length≤1048576:=by omega
 obtain⟨c1,y,ds,gb,hc1,hy,hl,hd⟩:=d_both hlen
 obtain⟨p,c2,gp,_,hc2⟩:=d_value hc1 (n:=5) (by decide)
 obtain⟨q,c3,gq,_,_⟩:=d_value hc2 (n:=5) (by decide)
 obtain⟨r,c4,gr,_,_⟩:=d_below hc1 (n:=7) (by decide) (by decide)
 refine⟨y,ds,M_sDrawChaseEqualities _ _ _ ⟨c1,y,ds,gb,rfl⟩,_,_,_,g_iChaseEqualities,_,_,_,g_sChaseEqualities,_,g_iEqualityDependencies (by omega) (fun d h=>(hd d h).ok (by decide)),?_⟩
 refine bc_ne (fun h=>absurd rfl h) fun _=>⟨_,g_inst_self,bcF ⟨_,g_uf_self,bcF (lenI fun _=>⟨_,g_sEqualityDependencies (by omega) (fun d h=>(hd d h).ok (by decide)),lenI fun _=>bc_ne (fun h=>absurd rfl h) fun _=>?_⟩)⟩⟩
 by_cases hv:(vInst y&&vDeps y.1 ds)=true
 · have hv':=hv
   rw[Bool.and_eq_true]at hv'
   obtain⟨he1,he2⟩:=chase_eq hv'.1 hv'.2
   have hc:=he2.code
   have hcode:(chaseE y ds).2.2=1∨(chaseE y ds).2.2=2:=chaseE_code hv
   refine bc_beq (fun h=>by have h:(chaseE y ds).2.2=0:=h;omega) fun _=>⟨_,_,g_sChase,y,ds,p,q,M_sDrawMustBeEqual _ _ _ _ _ ⟨c1,y,ds,gb,p,c2,gp,q,c3,gq,rfl⟩,y,ds,_,M_sDrawForcedConstant _ _ _ _ ⟨c1,y,ds,gb,r,c4,gr,rfl⟩,_,_,g_iForcedConstant,_,_,g_sForcedConstant,?_⟩
   rw[he1]
   refine bcF (bc_ne (fun h=>absurd hc h) fun _=>⟨_,g_iMustBeEqual,_,g_sMustBeEqual,bc_nb (fun h=>absurd rfl h) fun _=>bc_ne (fun h=>absurd rfl h) fun _=>bc_nb (fun h=>absurd rfl h) fun _=>bc_ne (fun _=>rfl) fun h1=>?_⟩)
   obtain⟨k1,k2,k3,k4,k5⟩:=he2.done h1
   refine⟨true,by rw[k1];exact g_inst_self,bcT ⟨_,g_iSatisfies,?_⟩⟩
   have hsat:(!(viol (chaseE y ds).1 (egdF ds)).2.2&&(vInst (chaseE y ds).1&&vDeps (chaseE y ds).1.1 (egdF ds)))=true:=by
    rw[k2,k3,k5,vDeps_egd hv'.2];rfl
   refine bc_if (fun _=>⟨_,g_iIsValidUnionFind,?_⟩) (fun h=>absurd (hsat.symm.trans h) (by decide))
   exact congrArg (fun b=>(b,())) k4
 · have hv:(vInst y&&vDeps y.1 ds)=false:=by simpa using hv
   have e:(chaseE y ds).2.2=0:=by unfold chaseE;rw[hv];rfl
   refine bc_beq (fun _=>⟨_,g_sIsValidInstance,bc_not (fun _=>rfl) fun h=>⟨_,g_sAreValidDependencies,?_⟩⟩) fun h=>absurd e h
   have h:vInst y=true:=h
   rw[h,Bool.true_and]at hv
   rw[hv];rfl)
end Go.V

