/-
  The functions that the law reaches: what each gives.
-/
import Derived.Test.YtnklahcbckihjaaGreatDoorZB0
set_option linter.unusedVariables false
set_option linter.unusedSimpArgs false
set_option maxRecDepth 1000000
set_option maxHeartbeats 4000000
set_option linter.unusedVariables false
set_option linter.unusedSimpArgs false
namespace Go.V
open Go
theorem z0cj (x y:z09):(x=y)↔x.1=y.1/\x.2.1=y.2.1/\x.2.2.1=y.2.2.1:=by
 obtain⟨a,b,c,u⟩:=x;obtain⟨a',b',c',u'⟩:=y
 simp
def z0eu (s:TSk) (t:z09) (K:TSk×Int×Bool×Unit->Prop):Prop:=z0r (s.2.1.length:Int) (z01 ((s.2.1.length:Int) == (30:Int)) (K (s,((0:Int),(false,())))) (∃ y5:Int,zea s t y5/\
 z01 (decide (y5 > (8:Int))) (K (s,((0:Int),(false,())))) (True/\True/\([]:List z09).length+s.2.1.length<=z0t/\(([]:List z09)++s.2.1).length+([t]:List z09).length<=z0t/\
  z0r (List.length ((([]:List z09)++s.2.1)++([t]:List z09)):Int) (∃ y6:Int,z8w (w64 ((List.length ((([]:List z09)++s.2.1)++([t]:List z09)):Int) - (1:Int))) y6/\
   K ((s.1,((([]:List z09)++s.2.1)++([t]:List z09),s.2.2)),(y6,(true,())))))))
theorem zbt {s:TSk} {t:z09} (hl:s.2.1.length<=30) (y1:TSk) (y2:Int) (y3:Bool) (h1:t∈s.2.1->y1=s/\y2 = -1 - z8d s.2.1 t/\y3=true) (h2:t∉s.2.1->z0eu s t fun r=>r=(y1,(y2,(y3,())))):zhu s t y1 y2 y3:=by
 refine z04w _ _ _ _ _ ?_
 unfold zte
 refine za8 s.2.1 (fun x=>decide (x=t)) (fun i=>((i:Int),(((([]:List z0o),(([]:List z00),())),(([]:List z09),())),()))) (KT:=fun i=>((s,(-1 - (i:Int),(true,()))):TSk×Int×Bool×Unit)=(y1,(y2,(y3,())))) (KF:=t∉s.2.1) ?_ ?_ ?_ ?_
 . intro i hi X g1 g2
   refine z0l fun _=>bcI hi (inI hi ?_)
   simp only
   rw[z2o hi,z07 (by omega)]
   have no:¬ s.2.1[i]=t->X (((i+1:Nat):Int),(((([]:List z0o),(([]:List z00),())),(([]:List z09),())),())):=fun h=>g2 (by simpa using h)
   refine z4m (fun e1=>inI hi (z4m (fun e2=>inI hi ⟨_,zlf,z4m (fun e3=>⟨_,zh6 (by omega) (by omega),?_⟩) (fun e3=>no fun h=>e3 (by rw[h];exact cmpL_zero.mpr rfl))⟩) (fun e2=>no fun h=>e2 (by rw[h])))) (fun e1=>no fun h=>e1 (by rw[h]))
   exact g1 (by simpa using (z0cj _ _).mpr ⟨e1,e2,cmpL_zero.mp e3⟩)
 . intro X h
   refine z0l fun _=>bcN ?_
   exact h2 h
 . intro h
   have hm:t∈s.2.1:=by
    have:=firstAt_any.mp h
    rw[zfa]at this
    simpa using this
   obtain⟨rfl,rfl,rfl⟩:=h1 hm
   unfold z8d;rw[if_pos h]
 . intro h hm
   have:=firstAt_any (p:=fun x=>decide (x=t)).mpr (by rw[zfa];simpa using hm)
   omega
theorem zxg {l:List z0o} {ds:List z0k} (h:zcl l ds=true):ds.length<=5/\∀ d∈ds,DOk d:=by
 unfold zcl at h
 simp only[Bool.and_eq_true]at h
 exact⟨zq6 h.1,fun d hd=>z0bi (zqo h.1 hd)⟩
theorem zbw {s:TSk} (h:vSk s=true):z5d s.1=true/\s.2.1.length<=30:=⟨(z4h h).1,zbq (z4h h).2.2⟩
theorem z05d {f:z00}:∀ {l:List z00},f∈l->f.2.1.length<=(l.flatMap (·.2.1)).length
 | a::l,h=>by
   rw[List.flatMap_cons,List.length_append]
   rcases List.mem_cons.mp h with rfl|h
   . omega
   . have:=z05d h;omega
theorem z02l {s:TSk} (h:vSk s=true) {i:Nat} (hi:i<s.2.1.length):s.2.1[i].2.2.1.length<=5:=by
 have:=zhb (z4h h).2.2 hi
 unfold z5h at this
 rw[z2g hi]at this
 simp only[Bool.and_eq_true,decide_eq_true_eq]at this
 exact this.1.1.2
theorem zgu {x:z0c} (h1:x.1.length<=1099511627776) (hl:x.2.1.length<=1073741824) (h:∀ f∈x.2.1,f.2.1.length<=1099511627776):zcg x x:=z066 _ _ (by
 unfold zx0
 refine⟨by simp only[z0t,List.length_nil];omega,?_⟩
 rw[List.nil_append]
 refine zlz x.2.1 (fun i s=>((i:Int),((x.1,(s,())),()))) hl ?_ ?_
 . intro i hi s X hs hX
   refine z0l fun _=>bcI hi (inI hi ⟨x.2.1[i],?_,⟨by simp only[z0t,List.length_cons,List.length_nil];omega,?_⟩⟩)
   . simp only;rw[z2o hi];exact zpz (h _ (List.getElem_mem hi))
   . simp only;rw[z07 (by omega)];exact hX
 . intro X;exact z0l fun _=>bcN rfl)
structure SmS (s:TSk):Prop where
 rels:s.1.1.length<=1048576
 few:s.1.2.1.length<=1048576
 row:∀ f∈s.1.2.1,f.2.1.length<=1048576
 terms:s.2.1.length<=1048576
 args:∀ t∈s.2.1,t.2.2.1.length<=1048576
theorem SmS.of {s:TSk} (h:vSk s=true):SmS s:=by
 have hi:=zbw h
 have hr:=zlu (zmf hi.1)
 have hf:=zb4 hi.1
 refine⟨by omega,by omega,fun f hm=>?_,by omega,fun t ht=>?_⟩
 . have h1:=ztl hi.1
   have h2:=z05d hm
   omega
 . obtain⟨i,hi,rfl⟩:=List.mem_iff_getElem.mp ht
   have:=z02l h hi
   omega
theorem zmy {s:TSk} (h:SmS s):zc8 s s:=z031 _ _ (by
 unfold zsc
 have h1:=h.rels
 have h2:=h.few
 have h3:=h.terms
 refine⟨s.1,zgu (by omega) (by omega) (fun f hf=>by have:=h.row f hf;omega),?_⟩
 refine zlz s.2.1 (fun i t=>((i:Int),(((s.1.1,(s.1.2.1,s.1.2.2)),(t,())),()))) (by omega) ?_ ?_
 . intro i hi t X hs hX
   have ha:=h.args _ (List.getElem_mem hi)
   refine z0l fun _=>bcI hi (inI hi (inI hi (inI hi ?_)))
   simp only
   rw[z2o hi,z07 (by omega),List.nil_append]
   exact⟨by simp only[z0t,List.length_nil];omega,by simp only[z0t,List.length_cons,List.length_nil];omega,hX⟩
 . intro X;exact z0l fun _=>bcN rfl)
theorem zsg {s:TSk} (h:vSk s=true):zc8 s s:=zmy (.of h)
theorem z015 {t:z09} (h:t.2.2.1.length<=1099511627776):zju t t:=zyu _ _ (by
 unfold zos
 exact⟨_,z6d h,rfl⟩)
theorem zr1 {x:z0c} (h1:x.1.length<=1099511627776) (hl:x.2.1.length<=1073741824) (h:∀ f∈x.2.1,f.2.1.length<=1099511627776):zck x x:=zou _ _ (by
 unfold zh9
 exact⟨_,zfb h1,_,znf hl h,rfl⟩)
theorem ze2 {s:TSk} (h:SmS s):z3f s s:=zxh _ _ (by
 unfold zn7
 have h1:=h.rels
 have h2:=h.few
 have h3:=h.terms
 refine⟨s.1,zr1 (by omega) (by omega) (fun f hf=>by have:=h.row f hf;omega),z0l fun _=>?_⟩
 refine zlz s.2.1 (fun i t=>((i:Int),(((s.1.1,(s.1.2.1,s.1.2.2)),(t,())),()))) (by omega) ?_ ?_
 . intro i hi t X hs hX
   have ha:=h.args _ (List.getElem_mem hi)
   refine bcI hi (inI hi ⟨s.2.1[i],?_,⟨by simp only[z0t,List.length_cons,List.length_nil];omega,?_⟩⟩)
   . simp only;rw[z2o hi];exact z015 (by omega)
   . simp only;rw[z07 (by omega)];exact hX
 . intro X;exact bcN rfl)
theorem zx8 {s:TSk} (h:vSk s=true):z3f s s:=ze2 (.of h)
def iAt (l:List Int) (i:Nat):Int:=l.getD i 0
theorem z07z {l:List Int} {i:Nat} (h:i<l.length):iAt l i=l[i]:=z71 h
theorem zxl:∀ {x y:List Int},zhz y x = - zhz x y
 |[],[]=>rfl
 |[],b::y=>rfl
 |a::x,[]=>rfl
 | a::x,b::y=>by
   simp only[zhz]
   have:=zxl (x:=x) (y:=y)
   split<;>split<;>first|omega|(rw[this])|skip
theorem z8z {x y:z00}:z94 y x = - z94 x y:=by
 unfold z94
 have:=zxl (x:=x.2.1) (y:=y.2.1)
 split<;>split<;>first|omega|(rw[this])|skip
theorem asc_pw {l:List z00}:asc l↔l.Pairwise fun a b=>z94 a b<0:=by
 rw[List.pairwise_iff_getElem]
 exact⟨fun h i j hi hj hij=>h i j hj hij,fun h i j hj hij=>h i j (by omega) hj hij⟩
theorem z0bv:∀ {a b:List z00},(a.Pairwise fun a b=>z94 a b<0)->(b.Pairwise fun a b=>z94 a b<0)->(∀ y,y∈a↔y∈b)->a=b
 |[],[],_,_,_=>rfl
 |[],b::m,_,_,h=>absurd ((h b).mpr (by simp)) (by simp)
 |a::l,[],_,_,h=>absurd ((h a).mp (by simp)) (by simp)
 | a::l,b::m,h1,h2,h=>by
   rw[List.pairwise_cons]at h1 h2
   have hab:a=b:=by
    have ha:=(h a).mp (by simp)
    have hb:=(h b).mpr (by simp)
    rcases List.mem_cons.mp ha with e|ha
    . exact e
    . rcases List.mem_cons.mp hb with e|hb
      . exact e.symm
      . have q1:=h2.1 a ha
        have q2:=h1.1 b hb
        rw[z8z]at q1
        omega
   subst hab
   congr 1
   refine z0bv h1.2 h2.2 fun y=>⟨fun hy=>?_,fun hy=>?_⟩
   . rcases List.mem_cons.mp ((h y).mp (by simp[hy]))with e|h'
     . subst e;have:=h1.1 y hy;rw[cmpF_zero.mpr rfl]at this;omega
     . exact h'
   . rcases List.mem_cons.mp ((h y).mpr (by simp[hy]))with e|h'
     . subst e;have:=h2.1 y hy;rw[cmpF_zero.mpr rfl]at this;omega
     . exact h'
theorem z0dt {a b:List z00} (h1:asc a) (h2:asc b) (h:∀ y,y∈a↔y∈b):a=b:=z0bv (asc_pw.mp h1) (asc_pw.mp h2) h
def zss (l:List z00) (f:z00):Nat:=z03 (fun t=>!decide (z94 t f<0)) l
def zoi (l:List z00) (f:z00):List z00:=if f∈l then l else l.take (zss l f)++f::l.drop (zss l f)
theorem putF_mem {l:List z00} {f y:z00}:y∈zoi l f↔y∈l\/y=f:=by
 unfold zoi
 split
 . rename_i h
   exact⟨.inl,fun h'=>h'.elim id fun e=>e ▸ h⟩
 . have:y∈l↔y∈l.take (zss l f)\/y∈l.drop (zss l f):=by rw[<-List.mem_append,List.take_append_drop]
   rw[this,List.mem_append,List.mem_cons]
   constructor
   . rintro (h|h|h)
     . exact .inl (.inl h)
     . exact .inr h
     . exact .inl (.inr h)
   . rintro ((h|h)|h)
     . exact .inl h
     . exact .inr (.inr h)
     . exact .inr (.inl h)
theorem zo7 {l:List z00} {f:z00}:(zoi l f).length<=l.length+1:=by
 unfold zoi
 split
 . omega
 . simp only[List.length_append,List.length_cons,List.length_take,List.length_drop];omega
theorem z097 {l:List z00} {f:z00} (h:asc l):asc (zoi l f):=by
 unfold zoi
 split
 . exact h
 rename_i hn
 have hp:=asc_pw.mp h
 rw[asc_pw]
 have e:l=l.take (zss l f)++l.drop (zss l f):=(List.take_append_drop _ _).symm
 rw[e]at hp
 rw[List.pairwise_append]at hp ⊢
 have h1:∀ a∈l.take (zss l f),z94 a f<0:=by
  intro a ha
  obtain⟨i,hi,rfl⟩:=List.mem_iff_getElem.mp ha
  rw[List.length_take]at hi
  have:=za2 (p:=fun t=>!decide (z94 t f<0)) (l:=l) (i:=i) (by omega) (show i<zss l f by omega)
  rw[List.getElem_take]
  simpa using this
 have h2:∀ a∈l.drop (zss l f),z94 f a<0:=by
  intro a ha
  have hin:zss l f<l.length:=by
   rcases Nat.lt_or_ge (zss l f) l.length with h'|h'
   . exact h'
   . rw[List.drop_of_length_le h']at ha;simp at ha
  have h3:z94 f l[zss l f]<0:=by
   have h4:=zc0 (p:=fun t=>!decide (z94 t f<0)) (l:=l) hin
   have h4:¬ z94 l[zss l f] f<0:=by have h4:(!decide (z94 l[zss l f] f<0))=true:=h4;simpa using h4
   have h5:z94 l[zss l f] f≠0:=fun e=>hn ((cmpF_zero.mp e) ▸ List.getElem_mem hin)
   rw[z8z];omega
  obtain⟨i,hi,rfl⟩:=List.mem_iff_getElem.mp ha
  rw[List.getElem_drop]
  rcases Nat.eq_zero_or_pos i with rfl|h0
  . simpa using h3
  . rw[List.length_drop]at hi
    exact zc7 h3 (h _ _ (by omega) (by omega))
 refine⟨hp.1,List.pairwise_cons.mpr ⟨h2,hp.2.1⟩,fun a ha b hb=>?_⟩
 rcases List.mem_cons.mp hb with rfl|hb
 . exact h1 a ha
 . exact hp.2.2 a ha b hb
def zyq (l:List z00):List z00:=l.foldl zoi []
theorem zq4:∀ {l m:List z00},asc m->asc (l.foldl zoi m)
 |[],m,h=>h
 |a::l,m,h=>zq4 (l:=l) (z097 h)
theorem zqg:∀ {l m:List z00} {y:z00},y∈l.foldl zoi m↔y∈m\/y∈l
 |[],m,y=>by simp
 | a::l,m,y=>by
   rw[List.foldl_cons,zqg (l:=l),putF_mem,List.mem_cons]
   constructor
   . rintro ((h|h)|h)
     . exact .inl h
     . exact .inr (.inl h)
     . exact .inr (.inr h)
   . rintro (h|h|h)
     . exact .inl (.inl h)
     . exact .inl (.inr h)
     . exact .inr h
theorem zwh:∀ {l m:List z00},(l.foldl zoi m).length<=m.length+l.length
 |[],m=>by simp
 | a::l,m=>by
   have:=zwh (l:=l) (m:=zoi m a)
   have:=zo7 (l:=m) (f:=a)
   rw[List.foldl_cons,List.length_cons];omega
theorem z07y:asc []:=fun i j hj _=>by simp at hj
theorem zvk (l:List z00):asc (zyq l):=zq4 z07y
theorem facS_mem {l:List z00} {y:z00}:y∈zyq l↔y∈l:=by unfold zyq;rw[zqg];simp
theorem z00d {a l:List z00} (h1:asc a) (h2:∀ y,y∈a↔y∈l):a=zyq l:=z0dt h1 (zvk l) fun y=>by rw[h2,facS_mem]
theorem z0b0 {l m:List z00} (h:asc l):m.foldl zoi l=zyq (l++m):=z00d (zq4 h) fun y=>by rw[zqg,List.mem_append]
def ddF (l:List z00):Nat->List z00
 |0=>[]
 |n+1=>if n=0\/zcw l n≠zcw l (n - 1)then ddF l n++[zcw l n] else ddF l n
theorem z06q {l:List z00} (hs:l.Pairwise fun a b=>z94 a b<=0):∀ {n:Nat},n<=l.length->asc (ddF l n)/\∀ y,y∈ddF l n↔y∈l.take n
 |0,_=>⟨z07y,fun y=>by simp[ddF]⟩
 | n+1,h=>by
   obtain⟨h1,h2⟩:=z06q hs (n:=n) (by omega)
   have hn:n<l.length:=by omega
   unfold ddF
   rw[z08 hn,z2k hn]
   have hle:∀ i j (hj:j<l.length) (hij:i<j),z94 (l[i]'(by omega)) l[j]<=0:=fun i j hj hij=>List.pairwise_iff_getElem.mp hs i j (by omega) hj hij
   split
   . rename_i hc
     refine⟨?_,fun y=>by rw[List.mem_append,List.mem_append,h2]⟩
     rw[asc_pw,List.pairwise_append]
     refine⟨asc_pw.mp h1,by simp,fun a ha b hb=>?_⟩
     obtain rfl:b=l[n]:=by simpa using hb
     obtain⟨i,hi,rfl⟩:=List.mem_iff_getElem.mp ((h2 a).mp ha)
     rw[List.length_take]at hi
     rw[List.getElem_take]
     rcases hc with hc|hc
     . omega
     . rw[z2k (by omega)]at hc
       have g1:=hle (n - 1) n hn (by omega)
       have g2:z94 l[n - 1] l[n]≠0:=fun e=>hc (cmpF_zero.mp e).symm
       rcases Nat.lt_or_ge i (n - 1)with h'|h'
       . have g3:=hle i (n - 1) (by omega) h'
         by_cases h0:z94 l[i] l[n - 1]=0
         . rw[cmpF_zero.mp h0];omega
         . exact zc7 (by omega:z94 l[i] l[n - 1]<0) (by omega)
       . have:i=n - 1:=by omega
         subst this;omega
   . rename_i hc
     refine⟨h1,fun y=>?_⟩
     rw[h2,List.mem_append]
     refine⟨.inl,fun h'=>h'.elim id fun e=>?_⟩
     have h0:n≠0:=fun e=>hc (.inl e)
     have he:l[n]=zcw l (n - 1):=Classical.byContradiction fun h=>hc (.inr h)
     rw[z2k (by omega)]at he
     have:y=l[n - 1]:=by simpa [he]using e
     subst this
     exact List.mem_iff_getElem.mpr ⟨n - 1,by rw[List.length_take];omega,by rw[List.getElem_take]⟩
theorem zom {x:z0c} {f:z00} (h1:x.2.1.length<=1000) (h2:f.2.1.length<=1000):zi9 x f (x.1,(zoi x.2.1 f,())):=z08t _ _ _ (by
 unfold z01j
 refine⟨_,zs8,?_⟩
 rw[z01u]
 refine z0b (fun h=>by unfold zoi;rw[if_pos h]) (fun hn=>?_)
 have hle:zss x.2.1 f<=x.2.1.length:=zhy _ _
 have key:∀ i:Nat,i=zss x.2.1 f->((0:Int)<=(i:Int)/\(i:Int)<=(x.2.1.length:Int)/\(x.2.1.length:Int)<=(x.2.1.length:Int))/\((([f]:List z00)).length+(List.drop (Int.toNat (i:Int)) (List.take (Int.toNat (x.2.1.length:Int)) x.2.1)).length<=z0t)/\
   (([]:List z00)++List.drop (Int.toNat (0:Int)) (List.take (Int.toNat (i:Int)) x.2.1))++([f]++List.drop (Int.toNat (i:Int)) (List.take (Int.toNat (x.2.1.length:Int)) x.2.1))=zoi x.2.1 f/\
   ([]:List z00).length+(List.drop (Int.toNat (0:Int)) (List.take (Int.toNat (i:Int)) x.2.1)).length<=z0t/\
   (([]:List z00)++List.drop (Int.toNat (0:Int)) (List.take (Int.toNat (i:Int)) x.2.1)).length+([f]++List.drop (Int.toNat (i:Int)) (List.take (Int.toNat (x.2.1.length:Int)) x.2.1)).length<=z0t:=by
  rintro i rfl
  simp only[Int.toNat_natCast,Int.toNat_zero,List.drop_zero,List.nil_append,List.take_length,z0t,List.length_cons,List.length_nil,List.length_append,List.length_drop,List.length_take]
  refine⟨⟨by omega,by omega,by omega⟩,by omega,?_,by omega,by omega⟩
  unfold zoi
  rw[if_neg hn];rfl
 refine za8 x.2.1 (fun t=>!decide (z94 t f<0)) (fun i=>((i:Int),())) (KT:=fun i=>i=zss x.2.1 f) (KF:=zss x.2.1 f=x.2.1.length) ?_ ?_ (fun _=>rfl) (fun h=>by unfold zss;have:=zhy (fun t=>!decide (z94 t f<0)) x.2.1;omega)
 . intro i hi X q1 q2
   refine z0l fun _=>bcI hi (inI hi ⟨_,z9q,?_⟩)
   simp only
   rw[z2o hi,z07 (by omega)]
   refine z0b (fun h=>q2 (by rw[decide_eq_true h];rfl)) (fun h=>?_)
   obtain⟨k1,k2,k3,k4,k5⟩:=key i (q1 (by rw[decide_eq_false h];rfl))
   refine⟨k1,f,zpz (by omega),k2,⟨by omega,by omega,by omega⟩,k4,k5,?_⟩
   show((x.1,((([]:List z00)++List.drop (Int.toNat (0:Int)) (List.take (Int.toNat (i:Int)) x.2.1))++([f]++List.drop (Int.toNat (i:Int)) (List.take (Int.toNat (x.2.1.length:Int)) x.2.1)),())),())=((x.1,(zoi x.2.1 f,())),())
   rw[k3]
 . intro X h
   obtain⟨k1,k2,k3,k4,k5⟩:=key x.2.1.length h.symm
   refine z0l fun _=>bcN ⟨k1,f,zpz (by omega),k2,⟨by omega,by simp only;omega,by simp only;omega⟩,k4,k5,?_⟩
   show((x.1,((([]:List z00)++List.drop (Int.toNat (0:Int)) (List.take (Int.toNat (x.2.1.length:Int)) x.2.1))++([f]++List.drop (Int.toNat (x.2.1.length:Int)) (List.take (Int.toNat (x.2.1.length:Int)) x.2.1)),())),())=((x.1,(zoi x.2.1 f,())),())
   rw[k3])
abbrev zTF:zm1 z00:=zTk (z0e (.pair (.int .i64) (.pair (.sl 3 (.int .i64)) .unit))) z0y
def tkAt (l:List (zm1 z00)) (i:Nat):zm1 z00:=l.getD i zTF
theorem zi8 {l:List (zm1 z00)} {i:Nat} (h:i<l.length):tkAt l i=l[i]:=z71 h
def ddT (l:List (zm1 z00)):Nat->List (zm1 z00)
 |0=>[]
 |n+1=>if n=0\/(tkAt l n).2≠(tkAt l (n - 1)).2 then ddT l n++[tkAt l n] else ddT l n
theorem zvc {l:List (zm1 z00)}:∀ {n:Nat},n<=l.length->(∀ i,1<=i->i<n->(tkAt l i).2≠(tkAt l (i - 1)).2)->ddT l n=l.take n
 |0,_,_=>by simp[ddT]
 | n+1,h,hi=>by
   unfold ddT
   rw[zvc (n:=n) (by omega) fun i h1 h2=>hi i h1 (by omega),z08 (by omega)]
   rw[if_pos,zi8 (by omega)]
   rcases Nat.eq_zero_or_pos n with h0|h0
   . exact .inl h0
   . exact .inr (hi n (by omega) (by omega))
theorem z07o {l:List (zm1 z00)}:∀ {n:Nat},n<=l.length->(ddT l n).Sublist (l.take n)
 |0,_=>by simp[ddT]
 | n+1,h=>by
   have:=z07o (l:=l) (n:=n) (by omega)
   unfold ddT
   rw[z08 (by omega)]
   split
   . rw[zi8 (by omega)];exact this.append_right _
   . exact this.trans (List.sublist_append_left _ _)
theorem z02k {l:List (zm1 z00)} {i:Nat}:zcw (l.map (·.2)) i=(tkAt l i).2:=by
 unfold zcw tkAt
 rw[List.getD_eq_getElem?_getD,List.getD_eq_getElem?_getD,List.getElem?_map]
 cases l[i]?<;>rfl
theorem zzh {l:List (zm1 z00)}:∀ {n:Nat},(ddT l n).map (·.2)=ddF (l.map (·.2)) n
 |0=>rfl
 | n+1=>by
   unfold ddT ddF
   rw[z02k,z02k]
   split
   . rw[List.map_append,zzh];rfl
   . exact zzh
theorem z0dh {l:List (zm1 z00)} (hl:l.length<=1000):z1p l () (ddT l l.length):=z67 _ _ _ (by
 unfold z2z
 refine z0l fun _=>z0b (fun h=>?_) (fun h=>?_)
 . rw[zvc (Nat.le_refl _) (fun i h1 h2=>by omega),List.take_length]
 refine z0v (fun k a=>∃ i:Nat,i+k=l.length/\1<=i/\a=((i:Int),(l,()))/\∀ j,1<=j->j<i->(tkAt l j).2≠(tkAt l (j - 1)).2) ?_ ?_ (n:=l.length - 1) ⟨1,by omega,by omega,rfl,fun j h1 h2=>by omega⟩
 . rintro a ⟨i,hi,h1,rfl,hn⟩ X
   obtain rfl:i=l.length:=by omega
   refine z0l fun _=>bcN ?_
   rw[zvc (Nat.le_refl _) hn,List.take_length]
 . rintro k a ⟨i,hi,h1,rfl,hn⟩ X hX
   have hlt:i<l.length:=by omega
   have hw:w64 ((i:Int) - 1)=((i - 1:Nat):Int):=by rw[z0w (by omega) (by omega)];omega
   have hj:i - 1<l.length:=by omega
   refine z0l fun _=>bcI hlt (inI hlt ?_)
   simp only
   rw[hw]
   refine inI hj ⟨_,zh1 _ _ _ zk7,?_⟩
   rw[z2o hlt,z2o hj,z07 (by omega)]
   refine z0b (fun h=>?_) (fun h=>hX _ ⟨i+1,by omega,by omega,rfl,fun j q1 q2=>?_⟩)
   . refine⟨⟨by omega,by omega,by omega,by omega⟩,?_⟩
     have hbase:ddT l (i+1)=l.take i:=by
      unfold ddT
      rw[if_neg,zvc (by omega) hn]
      rw[zi8 hlt,zi8 hj,h]
      rintro (h|h)
      . omega
      . exact h rfl
     simp only[Int.toNat_natCast]
     refine z0v (fun k a=>∃(p q:Nat) (L:List (zm1 z00)),q+k=l.length - i/\1<=q/\a=((p:Int),((q:Int),(L,())))/\L.length=l.length/\p+1<=i+q/\L.take p=ddT l (i+q)/\L.drop (i+q - 1)=l.drop (i+q - 1)) ?_ ?_ (n:=l.length - i - 1) ⟨i,1,l,by omega,by omega,rfl,rfl,by omega,hbase.symm,rfl⟩
     . rintro a ⟨p,q,L,hq,hq1,rfl,hL,hp,e1,e2⟩ Y
       obtain rfl:q=l.length - i:=by omega
       rw[show i+(l.length - i)=l.length by omega]at e1
       have ht:(L.take p).length=p:=by rw[List.length_take];omega
       refine z0l fun _=>bcN ⟨⟨by omega,by simp only;omega,by omega,by simp only;omega⟩,by simp only[Int.toNat_natCast];omega,⟨by omega,by omega,?_,?_⟩,?_⟩
       . simp only[List.length_append,Int.toNat_natCast,ht];omega
       . simp only[List.length_append,List.length_replicate,Int.toNat_natCast,ht];omega
       . rw[Int.toNat_natCast,List.take_left' ht,e1]
     . rintro k a ⟨p,q,L,hq,hq1,rfl,hL,hp,e1,e2⟩ Y hY
       have hlq:i+q<l.length:=by omega
       have hg:∀ j,i+q - 1<=j->j<l.length->L.getD j zTF=tkAt l j:=by
        intro j g1 g2
        have e3:=congrArg (fun m=>m.getD (j - (i+q - 1)) zTF) e2
        simp only[List.getD_eq_getElem?_getD,List.getElem?_drop]at e3
        rw[show i+q - 1+(j - (i+q - 1))=j by omega]at e3
        unfold tkAt
        simpa [List.getD_eq_getElem?_getD]using e3
       have hwq:w64 ((q:Int) - 1)=((q - 1:Nat):Int):=by rw[z0w (by omega) (by omega)];omega
       have hdd:L.drop (i+q)=l.drop (i+q):=by
        have:=congrArg (List.drop 1) e2
        rw[List.drop_drop,List.drop_drop,show i+q - 1+1=i+q by omega]at this
        exact this
       refine z0l fun _=>bcI (by omega) (inI (by omega) ?_)
       simp only
       rw[hwq]
       refine inI (by omega) ⟨_,zh1 _ _ _ zk7,?_⟩
       rw[Int.toNat_natCast,Int.toNat_natCast,hg (i+q) (by omega) hlq,show i+(q - 1)=i+q - 1 by omega,hg (i+q - 1) (by omega) (by omega),z07 (by omega),z07 (by omega)]
       refine z0dd (fun h5=>inI (by omega) ⟨⟨by omega,by omega⟩,?_⟩) (fun h5=>?_)
       . refine hY _ ⟨p+1,q+1,_,by omega,by omega,rfl,by rw[List.length_set];exact hL,by omega,?_,?_⟩
         . rw[show i+(q+1)=(i+q)+1 by omega]
           unfold ddT
           rw[if_pos (.inr h5),<-e1,Int.toNat_natCast,List.take_set,z08 (show p<L.length by omega),List.set_append]
           simp[List.length_take,Nat.min_eq_left (show p<=L.length by omega)]
         . rw[show i+(q+1) - 1=i+q by omega,<-hdd,Int.toNat_natCast,List.drop_set_of_lt (by omega)]
       . refine hY _ ⟨p,q+1,L,by omega,by omega,rfl,hL,by omega,?_,by rw[show i+(q+1) - 1=i+q by omega];exact hdd⟩
         rw[show i+(q+1)=(i+q)+1 by omega]
         unfold ddT
         rw[if_neg,e1]
         rintro (h6|h6)
         . omega
         . exact h6 h5
   . by_cases hji:j=i
     . subst hji;rw[zi8 hlt,zi8 hj];exact h
     . exact hn j q1 (by omega))
theorem z0ag {l:List z00} (hl:l.length<=1000):z1c l () (ddF l l.length):=z4s _ _ _ fun xs hx=>by
 subst hx
 rw[List.length_map]at hl ⊢
 refine⟨ddT xs xs.length,?_,zzh,z0dh hl⟩
 have:=z07o (l:=xs) (Nat.le_refl _)
 rwa [List.take_length]at this
theorem z082 {v:Int}:zpt v (decide (v<0)):=z05s _ _ (by unfold zx3;rfl)
theorem ltF {x y:z00}:Go.Proofs.ltOf z94 x y=decide (z94 x y<0):=rfl
theorem swoF:Go.Sort.SWO (Go.Proofs.ltOf z94):=by
 refine⟨fun x=>?_,fun x y z h1 h2=>?_,fun x y z h1 h2=>?_⟩
 . rw[ltF,cmpF_zero.mpr rfl];rfl
 . rw[ltF,decide_eq_true_eq]at h1 h2 ⊢;exact zc7 h1 h2
 . rw[ltF,decide_eq_false_iff_not]at h1 h2 ⊢
   intro h3
   by_cases h4:z94 x y=0
   . obtain rfl:=cmpF_zero.mp h4
     exact h2 h3
   . have h5:z94 y x<0:=by rw[z8z];omega
     exact h2 (zc7 h5 h3)
theorem totF {x y:z00} (h1:Go.Proofs.ltOf z94 x y=false) (h2:Go.Proofs.ltOf z94 y x=false):x=y:=by
 rw[ltF,decide_eq_false_iff_not]at h1 h2
 rw[z8z]at h2
 exact cmpF_zero.mp (by omega)
theorem z090 {l:List z00} (h:l.length<=1000):z17 l () (zcj z94 l):=z043 (fun a b=>zcq) swoF (fun _ _=>totF) (by omega)
theorem z0ab (l:List z00):(zcj z94 l).Pairwise fun a b=>z94 a b<=0:=by
 have:=List.pairwise_mergeSort (le:=fun a b=>!(decide (z94 b a<0))) (fun a b c h1 h2=>by
  simp only[Bool.not_eq_true',decide_eq_false_iff_not]at h1 h2 ⊢
  intro h3
  rw[z8z]at h1 h2
  by_cases h4:z94 a b=0
  . rw[cmpF_zero.mp h4]at h3;rw[z8z]at h3;omega
  . have:=zc7 h3 (by omega:z94 a b<0);rw[z8z]at this;omega) (fun a b=>by
  rw[z8z (x:=a) (y:=b)]
  simp
  omega) l
 refine List.Pairwise.imp (fun h=>?_) this
 simp only[Bool.not_eq_true',decide_eq_false_iff_not]at h
 rw[z8z]at h;omega
theorem z0cw {l:List z00}:ddF (zcj z94 l) l.length=zyq l:=by
 have hl:(zcj z94 l).length=l.length:=by simp[zcj]
 obtain⟨h1,h2⟩:=z06q (z0ab l) (n:=l.length) (by omega)
 refine z00d h1 fun y=>?_
 rw[h2,List.take_of_length_le (by omega)]
 simp[zcj]
theorem z00c {l:List z00} (hl:l.length<=1000) (h:∀ f∈l,f.2.1.length<=1000):zk4 l (zyq l):=z00u _ _ (by
 unfold zqq
 have hs:(zcj z94 l).length=l.length:=by simp[zcj]
 refine⟨l,znf (by omega) (fun f hf=>by have:=h f hf;omega),_,z090 hl,_,z0ag (by omega),?_⟩
 rw[hs,z0cw])
def zmu (d:z0k) (b:List Int):Bool:=(List.range b.length).all fun k=>decide ((k:Int)∈vars d.1) == !(iAt b k == 10)
def zho (x:z0c) (d:z0k) (b:List Int):Bool:=d.1.all fun a=>z9m a b&&decide (inst a b∈x.2.1)
def z78 (x:z0c) (d:z0k) (b:List Int):Bool:=z5d x&&(zhx x.1 d&&((b.length == 5)&&(zmu d b&&zho x d b)))
theorem zie {l:List z0o} {ats:List z00} (h:∀ a∈ats,z6m l a=true) {v:Int} (hv:v∈vars ats):0<=v/\v<5:=by
 unfold vars at hv
 have hv:=mem_sset.mp hv
 obtain⟨h1,h2⟩:=List.mem_filter.mp hv
 obtain⟨a,ha,hva⟩:=List.mem_flatMap.mp h1
 have:=inR_iff.mp ((z3n (h a ha)).2.2.2.2.2 v hva)
 have:0<=v:=by simpa using h2
 omega
theorem bb1:∀ u v:Bool,(u == v) = !(u == !v):=by decide
theorem bb2:∀ u v:Bool,(!((!v) == u)) = !(u == !v):=by decide
theorem place_neg {l:List z00} {f:z00}:place l f<0↔f∉l:=by
 have:=decide_eq_decide.mp (z01u (l:=l) (f:=f))
 constructor
 . intro h hm;have:=this.mpr hm;omega
 . intro h
   rcases Int.lt_or_le (place l f) 0 with h'|h'
   . exact h'
   . exact absurd (this.mp h') h
theorem zl5 {l:List z0o} {a:z00} (h:z6m l a=true):a.2.1.length<=3/\∀ t∈a.2.1,-10<=t/\t<5:=by
 have:=z3n h
 exact⟨this.2.2.2.2.1,fun t ht=>by have:=inR_iff.mp (this.2.2.2.2.2 t ht);omega⟩
theorem zzu (x:z0c):0<=zhp x/\zhp x<=40:=by
 have hk:∀ k∈zgb x,0<=k/\k<40:=fun k hk=>by
  have:=zke (l:=x.2.1.flatMap (·.2.1)) k (by rw[zed];exact hk)
  omega
 refine⟨?_,nextN_le (n:=40) |>.mpr fun k h=>(hk k h).2⟩
 unfold zhp
 cases h:(zgb x).getLast? with
 |none=>exact Int.le_refl 0
 |some m=>have:=hk m (List.mem_of_getLast? h);simp only;omega
theorem z06b {l:List z0o} {d:z0k} (h:zhx l d=true):(exV d).length<=6:=by
 have hd:=z6s h
 have h1:(exV d).length<=(vars d.2.1).length:=by unfold exV;exact List.length_filter_le _ _
 have h2:=zhv d.2.1
 omega
theorem zev {l:List z0o} {d:z0k} (h:zhx l d=true) {v:Int} (hv:v∈exV d):0<=v/\v<5:=by
 have hd:=z6s h
 unfold exV at hv
 exact zie hd.2.2.2.2.1 (List.mem_filter.mp hv).1
theorem z06p {x:z0c} (h:z5d x=true) (l:List z00):l.foldl zoi x.2.1=zyq (x.2.1++l):=z0b0 (z06o h)
theorem zy6 {x:z0c} {d:z0k} {b:List Int}:zgy x d b (z78 x d b):=zw6 _ _ _ _ (by
 unfold zn8
 refine⟨_,z6c,z0q (fun h=>by unfold z78;rw[h];rfl) (fun h1=>⟨_,zbc,z0q (fun h=>by unfold z78;rw[h1,h];rfl) (fun h2=>z0l fun _=>zby (fun h=>?_) (fun h3=>?_))⟩)⟩
 . unfold z78
   rw[show(b.length == 5)=false from beq_eq_false_iff_ne.mpr (by omega),h1,h2];rfl
 have h3:b.length=5:=by omega
 have hd:=z6s h2
 have e:z78 x d b=(zmu d b&&zho x d b):=by unfold z78;rw[h1,h2,h3];rfl
 rw[e]
 refine⟨_,z8s (by omega),?_⟩
 refine z90 b.length (fun k=>!(decide ((k:Int)∈vars d.1) == !(iAt b k == 10))) (fun i=>((i:Int),())) (KT:=zmu d b=false) (KF:=zmu d b=true) ?_ ?_ ?_ ?_
 . intro i hi X _ q1 q2
   refine z0l fun _=>bcI hi (inI hi ⟨_,zkk,_,zm7,?_⟩)
   simp only
   rw[z2o hi,<-z07z hi,z07 (by omega),bb1]
   exact z1y (fun h=>by rw[q1 h];rfl) q2
 . intro X hB
   refine z0l fun _=>bcN ?_
   rw[hB,Bool.true_and]
   refine z9i d.1 (fun a=>!(z9m a b&&decide (inst a b∈x.2.1))) (fun i=>((i:Int),())) (KT:=zho x d b=false) (KF:=zho x d b=true) ?_ ?_ ?_ ?_
   . intro i hi X q1 q2
     have hr:=zl5 (hd.2.2.1 _ (List.getElem_mem hi))
     refine z0l fun _=>bcI hi (inI hi ⟨inst d.1[i] b,z9m d.1[i] b,?_,?_⟩)
     . simp only;rw[z2o hi];exact zj2 (by omega) (by omega) hr.2
     . rw[z07 (by omega)]
       refine z0q (fun h=>by rw[q1 (by rw[h];rfl)]) (fun h=>⟨_,zs8,z0b (fun h4=>?_) (fun h4=>?_)⟩)
       . have h4:=place_neg.mp h4
         rw[q1 (by rw[h];simpa using h4)]
       . have h4:inst d.1[i] b∈x.2.1:=Classical.byContradiction fun h5=>h4 (place_neg.mpr h5)
         exact q2 (by rw[h];simpa using h4)
   . intro X h;exact z0l fun _=>bcN (by rw[h])
   . intro h;rw[z3z]at h;unfold zho;exact nt h
   . intro h;rw[z3z]at h;unfold zho;exact nf h
 . rintro⟨i,hi,hp⟩
   unfold zmu
   rw[Bool.eq_false_iff]
   intro h
   have:=List.all_eq_true.mp h i (List.mem_range.mpr hi)
   rw[this]at hp;cases hp
 . intro h
   unfold zmu
   exact List.all_eq_true.mpr fun i hi=>nf (h i (List.mem_range.mp hi)))
theorem znd {x:z0c} {d:z0k} {b:List Int}:zh2 x d b (z78 x d b):=zxa _ _ _ _ (by
 unfold zne
 refine⟨_,zde,z0q (fun h=>by unfold z78;rw[h];rfl) (fun h1=>⟨_,zbb,z0q (fun h=>by unfold z78;rw[h1,h];rfl) (fun h2=>z0l fun _=>zby (fun h=>?_) (fun h3=>?_))⟩)⟩
 . unfold z78
   rw[show(b.length == 5)=false from beq_eq_false_iff_ne.mpr (by omega),h1,h2];rfl
 have h3:b.length=5:=by omega
 have hd:=z6s h2
 have e:z78 x d b=(zmu d b&&zho x d b):=by unfold z78;rw[h1,h2,h3];rfl
 rw[e]
 refine⟨_,zd8 (by omega),z0l fun _=>?_⟩
 refine z90 b.length (fun k=>!(decide ((k:Int)∈vars d.1) == !(iAt b k == 10))) (fun i=>((i:Int),())) (KT:=zmu d b=false) (KF:=zmu d b=true) ?_ ?_ ?_ ?_
 . intro i hi X _ q1 q2
   refine bcI hi (inI hi ⟨_,z4g,?_⟩)
   simp only
   rw[z2o hi,<-z07z hi,z07 (by omega)]
   show z01 (!((!(iAt b i == 10)) == _)) _ _
   rw[bb2]
   exact z1y (fun h=>by rw[q1 h];rfl) q2
 . intro X hB
   refine bcN (z0l fun _=>?_)
   rw[hB,Bool.true_and]
   refine z9i d.1 (fun a=>!(z9m a b&&decide (inst a b∈x.2.1))) (fun i=>((i:Int),())) (KT:=zho x d b=false) (KF:=zho x d b=true) ?_ ?_ ?_ ?_
   . intro i hi X q1 q2
     have hr:=zl5 (hd.2.2.1 _ (List.getElem_mem hi))
     refine bcI hi (inI hi ⟨inst d.1[i] b,z9m d.1[i] b,?_,?_⟩)
     . simp only;rw[z2o hi];exact zjg (by omega) (by omega) hr.2
     . rw[z07 (by omega)]
       refine z0q (fun h=>by rw[q1 (by rw[h];rfl)]) (fun h=>⟨_,zt2,z0q (fun h4=>?_) (fun h4=>?_)⟩)
       . have h4:inst d.1[i] b∉x.2.1:=of_decide_eq_false h4
         rw[q1 (by rw[h];simpa using h4)]
       . have h4:inst d.1[i] b∈x.2.1:=of_decide_eq_true h4
         exact q2 (by rw[h];simpa using h4)
   . intro X h;exact bcN (by rw[h])
   . intro h;rw[z3z]at h;unfold zho;exact nt h
   . intro h;rw[z3z]at h;unfold zho;exact nf h
 . rintro⟨i,hi,hp⟩
   unfold zmu
   rw[Bool.eq_false_iff]
   intro h
   have:=List.all_eq_true.mp h i (List.mem_range.mpr hi)
   rw[this]at hp;cases hp
 . intro h
   unfold zmu
   exact List.all_eq_true.mpr fun i hi=>nf (h i (List.mem_range.mp hi)))
theorem z08b {l:List Int} {i j:Nat} {v:Int} (h:i<l.length):iAt (l.set i v) j=if j=i then v else iAt l j:=z0b2 h
def z0a0 (c:List Int) (p:Int×Int):Prop:=if p.1<0 then p.2 = -1 - p.1 else iAt c p.1.toNat=p.2
theorem z01z:∀ {ts vs c s:List Int},ts.length=vs.length->(∀ p∈ts.zip vs,z0a0 c p)->(∀ v∈vs,zml v=true)->(∀ t∈ts,t<c.length)->zg0 (zge c) ts s = .inr (s++vs)
 |[],[],c,s,_,_,_,_=>by simp[zg0]
 |[],v::vs,c,s,h,_,_,_=>by simp at h
 |t::ts,[],c,s,h,_,_,_=>by simp at h
 | t::ts,v::vs,c,s,h,h1,h2,h3=>by
   have hp:=h1 (t,v) (by simp)
   have hv:=h2 v (by simp)
   have e:zge c s t = .inr (s++[v]):=by
    unfold zge z03x
    unfold z0a0 at hp
    simp only at hp
    by_cases ht:t<0
    . rw[if_pos ht]at hp
      rw[if_neg (by omega),<-hp,if_pos hv]
    . rw[if_neg ht]at hp
      have hlt:=h3 t (by simp)
      have hp:c.getD t.toNat 0=v:=hp
      rw[if_pos (by omega),if_neg (by omega),hp,if_pos hv]
   simp only[zg0,e]
   rw[z01z (by simpa using h) (fun p hp=>h1 p (by simp[hp])) (fun v hv=>h2 v (by simp[hv])) (fun t ht=>h3 t (by simp[ht]))]
   simp
theorem z0aq {a f:z00} {c:List Int} (h1:a.1=f.1) (hl:a.2.1.length=f.2.1.length) (hz:∀ p∈a.2.1.zip f.2.1,z0a0 c p) (hv:∀ v∈f.2.1,zml v=true) (ht:∀ t∈a.2.1,t<c.length):z9m a c=true/\inst a c=f:=by
 have:=z01z (s:=[]) hl hz hv ht
 unfold z9m inst
 rw[this,List.nil_append,h1]
 exact⟨rfl,rfl⟩
theorem mem_vars {ats:List z00} {k:Nat}:(k:Int)∈vars ats↔∃ a∈ats,(k:Int)∈a.2.1:=by
 unfold vars
 rw[mem_sset,List.mem_filter,List.mem_flatMap]
 simp
theorem z055 {x y:z0c} {d:z0k} {b:List Int} (hxy:∀ f∈x.2.1,f∈y.2.1) (h:zho x d b=true):zho y d b=true:=by
 unfold zho at h ⊢
 refine List.all_eq_true.mpr fun a ha=>?_
 have:=List.all_eq_true.mp h a ha
 rw[Bool.and_eq_true,decide_eq_true_eq]at this
 rw[this.1,decide_eq_true (hxy _ this.2)];rfl
theorem zwg {b:List Int}:∀ {ts s s':List Int},zg0 (zge b) ts s = .inr s'->s'=s++ts.map (fun t=>if 0<=t then iAt b t.toNat else -1 - t)/\(∀ t∈ts,zml (if 0<=t then iAt b t.toNat else -1 - t)=true)
 |[],s,s',h=>by simp only[zg0,Sum.inr.injEq]at h;subst h;simp
 | t::ts,s,s',h=>by
   simp only[zg0]at h
   cases e:zge b s t with
   |inl _=>rw[e]at h;simp at h
   | inr s1=>
     rw[e]at h
     obtain⟨h1,h2⟩:=zwg h
     have h3:s1=s++[if 0<=t then iAt b t.toNat else -1 - t]/\zml (if 0<=t then iAt b t.toNat else -1 - t)=true:=by
      unfold zge z03x at e
      by_cases ht:0<=t
      . rw [if_pos ht]at e ⊢
        by_cases hl:(b.length:Int)<=t
        . rw[if_pos hl]at e;simp at e
        . rw[if_neg hl]at e
          by_cases hv:zml (b.getD t.toNat 0)=true
          . rw[if_pos hv]at e
            simp only[Sum.inr.injEq]at e
            exact⟨e.symm,hv⟩
          . rw[if_neg hv]at e;simp at e
      . rw[if_neg ht]at e ⊢
        by_cases hv:zml (-1 - t)=true
        . rw[if_pos hv]at e
          simp only[Sum.inr.injEq]at e
          exact⟨e.symm,hv⟩
        . rw[if_neg hv]at e;simp at e
     refine⟨by rw[h1,h3.1];simp,fun u hu=>?_⟩
     rcases List.mem_cons.mp hu with rfl|hu
     . exact h3.2
     . exact h2 u hu
theorem z0ci {a:z00} {b:List Int} (h:z9m a b=true):(inst a b).1=a.1/\(inst a b).2.1=a.2.1.map (fun t=>if 0<=t then iAt b t.toNat else -1 - t)/\∀ t∈a.2.1,zml (if 0<=t then iAt b t.toNat else -1 - t)=true:=by
 unfold z9m at h
 unfold inst
 cases e:zg0 (zge b) a.2.1 []with
 |inl r=>rw[e]at h;simp at h
 | inr s=>
   obtain⟨h1,h2⟩:=zwg e
   exact⟨rfl,by simpa using h1,h2⟩
theorem zr0 {x:z0c} {f:z00} (hf:f∈x.2.1) {v:Int} (hv:v∈f.2.1) (hn:z3a v=true):z16 v<zhp x:=by
 have hr:=zzu x
 have hk:z16 v∈zgb x:=by
  unfold zgb
  rw[mem_sset,List.mem_flatMap]
  refine⟨f,hf,mem_nulls.mpr ?_⟩
  have:=isNul_iff.mp hn
  have e:z16 v = -1 - v:=by unfold z16;rw[if_pos hn]
  rw[e]
  exact⟨by omega,by omega,by rw[show -1 - (-1 - v)=v by omega];exact hv⟩
 have:=nextN_le (x:=x) (n:=(zhp x).toNat) |>.mp (by omega) _ hk
 omega
theorem z02u {x:z0c} {d:z0k} {b:List Int} (hF:zho x d b=true) {k:Nat} (hk:(k:Int)∈vars d.1):zml (iAt b k)=true/\(z3a (iAt b k)=true->z16 (iAt b k)<zhp x):=by
 obtain⟨a,ha,hka⟩:=mem_vars.mp hk
 have:=List.all_eq_true.mp hF a ha
 rw[Bool.and_eq_true,decide_eq_true_eq]at this
 obtain⟨_,h2,h3⟩:=z0ci this.1
 have e:(if (0:Int)<=(k:Int)then iAt b (k:Int).toNat else -1 - (k:Int))=iAt b k:=by rw[if_pos (by omega),Int.toNat_natCast]
 have h4:=h3 _ hka
 rw[e]at h4
 refine⟨h4,fun hn=>zr0 this.2 ?_ hn⟩
 rw[h2]
 exact List.mem_map.mpr ⟨_,hka,e⟩
theorem zxz {m:Int} (h:0<=m):zh7 m 0=m:=by unfold zh7;split<;>omega
theorem z0cl {m n:Int}:m<=zh7 m n:=by unfold zh7;split<;>omega
theorem z0a3 {dp:List Int} {m v:Int} (h:0<=m):zps dp m v=zh7 m (if z3a v then dp.getD (z16 v).toNat 0 else 0):=by
 unfold zps
 have hn:=z4e v
 split
 . split
   . rfl
   . rename_i h2
     rw[List.getD_eq_getElem?_getD,List.getElem?_eq_none (by omega)]
     exact(zxz h).symm
 . exact(zxz h).symm
theorem zsr {dp:List Int}:∀ {l:List Int} {m:Int},0<=m->l.foldl (zps dp) m=l.foldl (fun m v=>zh7 m (if z3a v then dp.getD (z16 v).toNat 0 else 0)) m
 |[],m,_=>rfl
 | v::l,m,h=>by
   rw[List.foldl_cons,List.foldl_cons,z0a3 h]
   exact zsr (Int.le_trans h z0cl)
theorem z0az {dp:List Int} {l:List Int}:l.foldl (zps dp) 0+1=z6g dp l:=by
 rw[zsr (Int.le_refl 0),zm4 (g:=fun k=>dp.getD k.toNat 0) (Int.le_refl 0)]
 rfl
theorem z01q (l m:List z09):∃ r,z18 (l++m)=z18 l++r:=by
 induction m generalizing l with
 |nil=>exact⟨[],by simp⟩
 | cons a m ih=>
   obtain⟨r,hr⟩:=ih (l++[a])
   rw[List.append_assoc,z6x,List.append_assoc]at hr
   exact⟨_,hr⟩
theorem zwo {out args:List Int} {n:Nat} (h:∀ d∈out,0<=d/\d<=n):0<=z6g out args/\z6g out args<=n+1:=by
 unfold z6g
 have h0:=zhg (fun k=>out.getD k.toNat 0) (z2h args)
 have:mx (fun k=>out.getD k.toNat 0) (z2h args)<=n:=mx_le.mpr ⟨by omega,fun k _=>by
  by_cases hk:k.toNat<out.length
  . rw[z71 hk];exact(h _ (List.getElem_mem hk)).2
  . rw[List.getD_eq_getElem?_getD,List.getElem?_eq_none (by omega)];simp⟩
 omega
theorem z01x (n:Nat):∀(l:List z09),l.length=n->∀ d∈z18 l,0<=d/\d<=l.length:=by
 induction n with
 |zero=>intro l hl;obtain rfl:=List.length_eq_zero_iff.mp hl;simp[z18]
 | succ n ih0=>
   intro l0 hl d hd
   have hne:l0≠[]:=by intro e;rw[e]at hl;simp at hl
   obtain⟨l,t,rfl⟩:∃ l t,l0=l++[t]:=⟨_,_,(List.dropLast_concat_getLast hne).symm⟩
   have ih:=ih0 l (by simpa using hl)
   rw[z6x]at hd
   rw[List.length_append]
   simp only[List.length_cons,List.length_nil]
   rcases List.mem_append.mp hd with hd|hd
   . have:=ih d hd;omega
   . have e:d=z6g (z18 l) t.2.2.1:=by simpa using hd
     rw[e]
     have:=zwo (args:=t.2.2.1) ih
     omega
theorem z0b4 (n:Nat):∀(l:List z09),l.length=n->n<=1000->l.foldl zys []=z18 l:=by
 induction n with
 |zero=>intro l hl _;obtain rfl:=List.length_eq_zero_iff.mp hl;rfl
 | succ n ih0=>
   intro l0 hl h31
   have hne:l0≠[]:=by intro e;rw[e]at hl;simp at hl
   obtain⟨l,t,rfl⟩:∃ l t,l0=l++[t]:=⟨_,_,(List.dropLast_concat_getLast hne).symm⟩
   have hln:l.length=n:=by simpa using hl
   rw[List.foldl_append,ih0 l hln (by omega),z6x]
   simp only[List.foldl_cons,List.foldl_nil]
   unfold zys
   rw[z0az]
   have:=zwo (args:=t.2.2.1) (z01x _ l rfl)
   rw[z0w (by omega) (by omega)]
theorem zxi {s:TSk} {t:z09} (hl:s.2.1.length<=30):zea s t (z6g (z18 s.2.1) t.2.2.1):=by
 have:=zwi (s:=s) (t:=t) hl
 rw[z0b4 _ _ rfl (by simp;omega),z6x]at this
 have e:(z18 s.2.1++[z6g (z18 s.2.1) t.2.2.1]).getD s.2.1.length 0=z6g (z18 s.2.1) t.2.2.1:=by
  have hd:=zmh s.2.1
  rw[List.getD_eq_getElem?_getD,List.getElem?_append_right (by omega),hd]
  simp
 rw[e]at this
 exact this
def zno (s:TSk) (t:z09):TSk×Int×Bool:=if t∈s.2.1 then(s,-1 - z8d s.2.1 t,true)else if s.2.1.length=30\/8<z6g (z18 s.2.1) t.2.2.1 then(s,0,false)else((s.1,(s.2.1++[t],s.2.2)),-1 - (s.2.1.length:Int),true)
theorem zwz {s:TSk} {t:z09} (hl:s.2.1.length<=30):zhu s t (zno s t).1 (zno s t).2.1 (zno s t).2.2:=by
 by_cases hm:t∈s.2.1
 . have e:zno s t=(s,-1 - z8d s.2.1 t,true):=by unfold zno;rw[if_pos hm]
   rw[e]
   exact zbt hl _ _ _ (fun _=>⟨rfl,rfl,rfl⟩) (fun h=>absurd hm h)
 . have hy:=zxi (s:=s) (t:=t) hl
   by_cases h30:s.2.1.length=30
   . have e:zno s t=(s,0,false):=by unfold zno;rw[if_neg hm,if_pos (.inl h30)]
     rw[e]
     exact zbt hl _ _ _ (fun h=>absurd h hm) (fun _=>z0l fun _=>z4m (fun _=>rfl) (fun h=>by omega))
   . by_cases h8:z6g (z18 s.2.1) t.2.2.1 > 8
     . have e:zno s t=(s,0,false):=by unfold zno;rw[if_neg hm,if_pos (.inr h8)]
       rw[e]
       exact zbt hl _ _ _ (fun h=>absurd h hm) (fun _=>z0l fun _=>z4m (fun h=>by omega) (fun _=>⟨_,hy,z0b (fun _=>rfl) (fun h=>absurd h8 h)⟩))
     . have e:zno s t=((s.1,(s.2.1++[t],s.2.2)),-1 - (s.2.1.length:Int),true):=by unfold zno;rw[if_neg hm,if_neg (by rintro (h|h);exact h30 h;exact h8 h)]
       rw[e]
       refine zbt hl _ _ _ (fun h=>absurd h hm) (fun _=>z0l fun _=>z4m (fun h=>by omega) (fun _=>⟨_,hy,z0b (fun h=>absurd h h8) (fun _=>⟨trivial,trivial,by simp only[z0t,List.length_nil];omega,by simp only[z0t,List.length_append,List.length_cons,List.length_nil];omega,z0l fun _=>⟨-1 - (s.2.1.length:Int),?_,rfl⟩⟩)⟩))
       have e:w64 ((List.length ((([]:List z09)++s.2.1)++([t]:List z09)):Int) - (1:Int))=(s.2.1.length:Int):=by
        rw[z0w]<;>simp<;>omega
       rw[e]
       exact zh6 (by omega) (by omega)
theorem zyw {l m:List z09} {k:Nat} (hk:k<l.length):z5h (l++m) k=z5h l k:=by
 have e:z7v (l++m) k=z7v l k:=by rw[z2g (by rw[List.length_append];omega),z2g hk,List.getElem_append_left hk]
 unfold z5h
 rw[e,List.take_append_of_le_length (by omega)]
theorem z07p {ts:List z09} {t:z09} (h:zfn ts=true) (hl:ts.length<30) (h1:inR t.1 0 4=true) (h2:inR t.2.1 0 4=true) (h3:t.2.2.1.length<=5) (h4:t.2.2.1.all (za6 ts.length)=true) (h5:t∉ts) (h8:z6g (z18 ts) t.2.2.1<=8):zfn (ts++[t])=true:=by
 unfold zfn at h ⊢
 simp only[Bool.and_eq_true,decide_eq_true_eq]at h ⊢
 obtain⟨⟨_,g2⟩,g3⟩:=h
 refine⟨⟨by simp;omega,List.all_eq_true.mpr fun k hk=>?_⟩,?_⟩
 . have hk:k<ts.length+1:=by simpa using hk
   by_cases hkl:k<ts.length
   . rw[zyw hkl];exact List.all_eq_true.mp g2 k (List.mem_range.mpr hkl)
   . obtain rfl:k=ts.length:=by omega
     unfold z5h
     have e:z7v (ts++[t]) ts.length=t:=by rw[z2g (by simp)];simp
     rw[e,h1,h2,h4,decide_eq_true h3,List.take_append_of_le_length (Nat.le_refl _),List.take_length,zfa,decide_eq_false h5];rfl
 . rw[z6x,List.all_append,g3]
   simpa using h8
theorem z00g {d:z0k} {i:Int} {b:List Int}:∀ {l:List Int} {s:List z09×List Int},∃ r,(l.foldl (hdG d i b) s).1=s.1++r
 |[],s=>⟨[],by simp⟩
 | v::l,s=>by
   rw[List.foldl_cons]
   obtain⟨r,hr⟩:=z00g (d:=d) (i:=i) (b:=b) (l:=l) (s:=hdG d i b s v)
   rw[hr]
   unfold hdG
   split
   . exact⟨r,rfl⟩
   . exact⟨_,by rw[List.append_assoc]⟩
def zit (d:z0k) (i:Int) (b:List Int) (st:List z09×List Int) (v:Int):Unit ⊕ (List z09×List Int):=
 if zr5 d i b v∈st.1 then .inr (hdG d i b st v)else if st.1.length=30\/8<z6g (z18 st.1) (z8x d b)then .inl ()else .inr (hdG d i b st v)
theorem zqs {d:z0k} {i:Int} {b:List Int} {st st':List z09×List Int} {v:Int} (h:zit d i b st v = .inr st'):st'=hdG d i b st v:=by
 unfold zit at h
 split at h
 . exact(Sum.inr.inj h).symm
 . split at h
   . cases h
   . exact(Sum.inr.inj h).symm
theorem zow {d:z0k} {i:Int} {b:List Int}:∀ {l:List Int} {st st':List z09×List Int},zg0 (zit d i b) l st = .inr st'->st'=l.foldl (hdG d i b) st
 |[],st,st',h=>by simp only[zg0,Sum.inr.injEq]at h;exact h.symm
 | v::l,st,st',h=>by
   simp only[zg0]at h
   cases e:zit d i b st v with
   |inl _=>rw[e]at h;simp at h
   |inr s1=>rw[e]at h;rw[List.foldl_cons,<-zqs e];exact zow h
theorem zut {d:z0k} {i:Int} {b:List Int} (hi:inR i 0 4=true) (hfr:(z8x d b).length<=5):∀ {l:List Int} {st st':List z09×List Int},(∀ v∈l,inR v 0 4=true)->(z8x d b).all (za6 st.1.length)=true->zfn st.1=true->zg0 (zit d i b) l st = .inr st'->zfn st'.1=true
 |[],st,st',_,_,h,hr=>by simp only[zg0,Sum.inr.injEq]at hr;subst hr;exact h
 | v::l,st,st',hv,ha,h,hr=>by
   simp only[zg0]at hr
   cases e:zit d i b st v with
   |inl _=>rw[e]at hr;simp at hr
   | inr s1=>
     rw[e]at hr
     have e1:=zqs e
     have hlt:=zbq h
     have key:zfn s1.1=true/\st.1.length<=s1.1.length:=by
      unfold zit at e
      by_cases hm:zr5 d i b v∈st.1
      . have:s1.1=st.1:=by rw[e1];unfold hdG;rw[if_pos hm]
        rw[this];exact⟨h,Nat.le_refl _⟩
      . rw[if_neg hm]at e
        by_cases hc:st.1.length=30\/8<z6g (z18 st.1) (z8x d b)
        . rw[if_pos hc]at e;cases e
        . have:s1.1=st.1++[zr5 d i b v]:=by rw[e1];unfold hdG;rw[if_neg hm]
          rw[this]
          have h30:¬ st.1.length=30:=fun h'=>hc (.inl h')
          have h8:¬ 8<z6g (z18 st.1) (z8x d b):=fun h'=>hc (.inr h')
          exact⟨z07p h (by omega) hi (hv v (by simp)) hfr ha hm (by unfold zr5;simp only;omega),by simp⟩
     refine zut hi hfr (fun u hu=>hv u (by simp[hu])) (List.all_eq_true.mpr fun w hw=>?_) key.1 hr
     have:=List.all_eq_true.mp ha w hw
     unfold za6 at this ⊢
     rw[Bool.and_eq_true]at this
     rw[this.1,Bool.true_and]
     have h2:=this.2
     cases hn:z3a w with
     |false=>rfl
     | true=>
       rw[hn,Bool.true_and]at h2
       have h2:¬ (st.1.length:Int)<=z16 w:=by simpa using h2
       have:¬ (s1.1.length:Int)<=z16 w:=by omega
       simp[this]
theorem z02f {d:z0k} {i:Int} {b:List Int} {r:Unit}:∀ {l:List Int} {st:List z09×List Int},zg0 (zit d i b) l st = .inl r->zfn (l.foldl (hdG d i b) st).1=false
 |[],st,h=>by simp[zg0]at h
 | v::l,st,h=>by
   simp only[zg0]at h
   rw[List.foldl_cons]
   cases e:zit d i b st v with
   |inr s1=>rw[e]at h;rw[<-zqs e];exact z02f h
   | inl _=>
     obtain⟨r',hr⟩:=z00g (d:=d) (i:=i) (b:=b) (l:=l) (s:=hdG d i b st v)
     rw[hr]
     unfold zit at e
     by_cases hm:zr5 d i b v∈st.1
     . rw[if_pos hm]at e;cases e
     . rw [if_neg hm]at e
       by_cases hc:st.1.length=30\/8<z6g (z18 st.1) (z8x d b)
       . have:(hdG d i b st v).1=st.1++[zr5 d i b v]:=by unfold hdG;rw[if_neg hm]
         rw[this,Bool.eq_false_iff]
         intro ha
         rcases hc with hc|hc
         . have:=zbq ha
           simp only[List.length_append,List.length_cons,List.length_nil]at this
           omega
         . unfold zfn at ha
           simp only[Bool.and_eq_true]at ha
           obtain⟨r2,hr2⟩:=z01q (st.1++[zr5 d i b v]) r'
           rw[hr2,z6x]at ha
           have:=List.all_eq_true.mp ha.2 (z6g (z18 st.1) (zr5 d i b v).2.2.1) (by simp)
           have:z6g (z18 st.1) (z8x d b)<=8:=of_decide_eq_true this
           omega
       . rw[if_neg hc]at e;cases e
theorem zo2 {d:z0k} {i:Int} {b:List Int}:∀ {l:List Int} {st:List z09×List Int},(∀ v∈l,0<=v/\v<5)->st.2.length=5->
  (l.foldl (hdG d i b) st).2.length=5/\∀ k:Nat,k<5->((k:Int)∈l->∃ n:Int,iAt (l.foldl (hdG d i b) st).2 k = -1 - n/\0<=n/\n<((l.foldl (hdG d i b) st).1.length:Int))/\((k:Int)∉l->iAt (l.foldl (hdG d i b) st).2 k=iAt st.2 k)
 |[],st,_,h5=>⟨h5,fun k _=>⟨by simp,by simp⟩⟩
 | v::l,st,hv,h5=>by
   rw[List.foldl_cons]
   have hvr:=hv v (by simp)
   have hset:∃ n:Int,(hdG d i b st v).2=st.2.set v.toNat (-1 - n)/\0<=n/\n<((hdG d i b st v).1.length:Int):=by
    unfold hdG
    split
    . rename_i hm
      have:=zwv hm
      exact⟨_,rfl,this.1,this.2⟩
    . exact⟨_,rfl,by omega,by simp;omega⟩
   obtain⟨n,e1,e2,e3⟩:=hset
   have h5':(hdG d i b st v).2.length=5:=by rw[z01l];exact h5
   obtain⟨g1,g2⟩:=zo2 (d:=d) (i:=i) (b:=b) (l:=l) (st:=hdG d i b st v) (fun u hu=>hv u (by simp[hu])) h5'
   have hge:=z07i (d:=d) (i:=i) (b:=b) (l:=l) (s:=hdG d i b st v)
   refine⟨g1,fun k hk=>?_⟩
   obtain⟨q1,q2⟩:=g2 k hk
   refine⟨fun hm=>?_,fun hm=>?_⟩
   . by_cases hkl:(k:Int)∈l
     . exact q1 hkl
     . have hkv:(k:Int)=v:=(List.mem_cons.mp hm).resolve_right hkl
       refine⟨n,?_,e2,by omega⟩
       rw[q2 hkl,e1,z08b (by omega),if_pos (by omega)]
   . have hkl:(k:Int)∉l:=fun h=>hm (by simp[h])
     have hkv:¬ (k:Int)=v:=fun h=>hm (by simp[h])
     rw[q2 hkl,e1,z08b (by omega),if_neg (by omega)]
def z2v (s:TSk) (d:z0k) (i:Int) (b:List Int):TSk:=((s.1.1,(zyq (s.1.2.1++z8n d (hdS s.2.1 d i b).2),())),((hdS s.2.1 d i b).1,()))
theorem zjq (d:z0k) (vs:List Int):z8n d vs=d.2.1.map fun a=>inst a vs:=by unfold z8n;rw[zm8,List.nil_append]
theorem z0a7 {l:List z0o} {fs:List z00} (h1:z9u l=true) (h2:asc fs) (h3:fs.length<=30) (h4:∀ f∈fs,znt l f=true/\(z9x l f.1=true->zx7 f=[])):z5d (l,(fs,()))=true:=by
 rw[zpd (x:=(l,(fs,()))) fun i hi=>?_]
 . simp only[h1,Bool.true_and];exact decide_eq_true h3
 . have hi:i<fs.length:=hi
   have hf:=h4 _ (List.getElem_mem hi)
   rw[zaw (x:=(l,(fs,()))) hi hf.1 (fun h0=>by simp only;rw[z2k (by omega)];exact h2 _ _ hi (by omega))]
   simp only
   cases hs:z9x l fs[i].1 with
   |false=>rfl
   |true=>rw[hf.2 hs];rfl
theorem z083 {x:z0c} (h:z5d x=true) {f:z00} (hf:f∈x.2.1) (hs:z9x x.1 f.1=true):zx7 f=[]:=by
 unfold z5d at h
 rw[Bool.and_eq_true]at h
 obtain⟨i,hi,rfl⟩:=List.mem_iff_getElem.mp hf
 have:=List.all_eq_true.mp h.2 i (List.mem_range.mpr hi)
 unfold z8e at this
 rw[Bool.and_eq_true,z2k hi,hs,Bool.true_and]at this
 have h2:=this.2
 simp at h2
 exact h2
theorem z0dl {a:z00} {c:List Int} (h:∀ t∈a.2.1,zml (if 0<=t then iAt c t.toNat else -1 - t)=true) (ht:∀ t∈a.2.1,t<c.length):z9m a c=true/\inst a c=(a.1,(a.2.1.map (fun t=>if 0<=t then iAt c t.toNat else -1 - t),())):=by
 refine z0aq (a:=a) (c:=c) (f:=(a.1,(a.2.1.map (fun t=>if 0<=t then iAt c t.toNat else -1 - t),()))) rfl (by simp) (fun p hp=>?_) (fun v hv=>?_) ht
 . simp only at hp
   obtain⟨j,hj,rfl⟩:=List.mem_iff_getElem.mp hp
   rw[List.getElem_zip,List.getElem_map]
   unfold z0a0
   simp only
   split
   . rename_i h0;rw[if_neg (by omega)]
   . rename_i h0;rw[if_pos (by omega)]
 . obtain⟨t,ht',rfl⟩:=List.mem_map.mp hv
   exact h t ht'
structure FireOk (s:TSk) (ds:List z0k) (d:z0k) (i:Nat) (b:List Int):Prop where
 sk:vSk s=true
 pl:zcl s.1.1 ds=true
 at_:ds[i]? = some d
 b5:b.length=5
 tB:zmu d b=true
 tF:zho s.1 d b=true
theorem z8c {l:List z0o} {ds:List z0k} (h:zcl l ds=true) {d:z0k} (hd:d∈ds):zhx l d=true/\d.2.2.1=false/\ds.length<=5:=by
 unfold zcl at h
 rw[Bool.and_eq_true]at h
 refine⟨zqo h.1 hd,?_,zq6 h.1⟩
 cases he:d.2.2.1 with
 |false=>rfl
 | true=>
   have:(ds.any fun d=>d.2.2.1)=true:=List.any_eq_true.mpr ⟨d,hd,he⟩
   rw[this]at h;simp at h
theorem z04f {l:List z0o} {d:z0k} (h:zhx l d=true) (he:d.2.2.1=false):∀ a∈d.2.1,z6m l a=true/\z9x l a.1=false:=by
 unfold zhx at h
 rw[he]at h
 simp only[Bool.and_eq_true,Bool.false_eq_true,if_false]at h
 intro a ha
 have:=List.all_eq_true.mp h.2.1.1.1 a ha
 rw[Bool.and_eq_true]at this
 exact⟨this.1,by simpa using this.2⟩
theorem z045 {l:List Int} (p:Int->Bool) (h:srt l):srt (l.filter p):=List.Pairwise.filter p h
theorem z01n {l:List z0o} {d:z0k} (h:zhx l d=true):(frV d).length<=5:=by
 have hs:=z6s h
 refine zy4 (a:=0) (n:=5) (z045 _ (zlw _)) fun y hy=>?_
 have:=zie hs.2.2.2.2.1 (List.mem_filter.mp hy).1
 omega
theorem z03c (d:z0k) (b:List Int):z8x d b=(frV d).map fun v=>b.getD v.toNat 0:=by unfold z8x;rw[zm8,List.nil_append]
section
variable {s:TSk} {ds:List z0k} {d:z0k} {i:Nat} {b:List Int}
theorem FireOk.lt (h:FireOk s ds d i b):i<ds.length/\d∈ds:=by
 have:=h.at_
 obtain⟨hi,e⟩:=List.getElem?_eq_some_iff.mp this
 exact⟨hi,e ▸ List.getElem_mem hi⟩
theorem FireOk.args (h:FireOk s ds d i b):(z8x d b).length<=5/\(z8x d b).all (za6 s.2.1.length)=true:=by
 obtain⟨hd,_,_⟩:=z8c h.pl h.lt.2
 have hs:=z6s hd
 rw[z03c]
 refine⟨by rw[List.length_map];exact z01n hd,List.all_eq_true.mpr fun w hw=>?_⟩
 obtain⟨v,hv,rfl⟩:=List.mem_map.mp hw
 have h1:=List.mem_filter.mp hv
 have h2:v∈vars d.1:=of_decide_eq_true h1.2
 have h3:=zie hs.2.2.1 h2
 have:=z02u (k:=v.toNat) h.tF (by rw[show((v.toNat:Nat):Int)=v by omega];exact h2)
 have hn:=(z4h h.sk).2.1
 show za6 s.2.1.length (iAt b v.toNat)=true
 unfold za6
 rw[this.1,Bool.true_and]
 cases hz:z3a (iAt b v.toNat)with
 |false=>rfl
 | true=>
   have:=this.2 hz
   have:¬ (s.2.1.length:Int)<=z16 (iAt b v.toNat):=by omega
   simp[this]
theorem FireOk.hdLen (h:FireOk s ds d i b):(hdS s.2.1 d i b).2.length=5/\(hdS s.2.1 d i b).1.length<=36/\s.2.1.length<=(hdS s.2.1 d i b).1.length:=by
 obtain⟨hd,_,_⟩:=z8c h.pl h.lt.2
 have h6:=z06b hd
 have ht:=zbq (z4h h.sk).2.2
 have h1:=(zo2 (d:=d) (i:=i) (b:=b) (l:=exV d) (st:=(s.2.1,b)) (fun v hv=>zev hd hv) h.b5).1
 have h2:=zaf (l:=exV d) (g:=hdG d i b) (s:=(s.2.1,b)) (μ:=fun st=>st.1.length) (c:=1) fun st v _=>zv9 d i b st v
 have h3:=z07i (d:=d) (i:=i) (b:=b) (l:=exV d) (s:=(s.2.1,b))
 simp only at h2 h3
 exact⟨h1,by unfold hdS;omega,h3⟩
theorem FireOk.vals (h:FireOk s ds d i b) {a:z00} (ha:a∈d.2.1) {t:Int} (ht:t∈a.2.1) :
  zml (if 0<=t then iAt (hdS s.2.1 d i b).2 t.toNat else -1 - t)=true/\(z3a (if 0<=t then iAt (hdS s.2.1 d i b).2 t.toNat else -1 - t)=true->z16 (if 0<=t then iAt (hdS s.2.1 d i b).2 t.toNat else -1 - t)<(hdS s.2.1 d i b).1.length):=by
 obtain⟨hd,he,_⟩:=z8c h.pl h.lt.2
 have hs:=z6s hd
 have hrow:=zl5 (hs.2.2.2.2.1 a ha)
 have htr:=hrow.2 t ht
 obtain⟨_,hl2,hl3⟩:=h.hdLen
 by_cases h0:0<=t
 . rw[if_pos h0]
   obtain⟨g1,g2⟩:=(zo2 (d:=d) (i:=i) (b:=b) (l:=exV d) (st:=(s.2.1,b)) (fun v hv=>zev hd hv) h.b5).2 t.toNat (by omega)
   rw[show((t.toNat:Nat):Int)=t by omega]at g1 g2
   by_cases hx:t∈exV d
   . obtain⟨n,e1,e2,e3⟩:=g1 hx
     have e1:iAt (hdS s.2.1 d i b).2 t.toNat = -1 - n:=e1
     have e3:n<((hdS s.2.1 d i b).1.length:Int):=e3
     rw[e1]
     have hn:z3a (-1 - n)=true:=isNul_iff.mpr ⟨by omega,by omega⟩
     refine⟨inR_iff.mpr ⟨by omega,by omega⟩,fun _=>?_⟩
     unfold z16;rw[if_pos hn];omega
   . have e1:iAt (hdS s.2.1 d i b).2 t.toNat=iAt b t.toNat:=g2 hx
     rw[e1]
     have htv:t∈vars d.2.1:=by
      rw[show t=((t.toNat:Nat):Int) by omega,mem_vars]
      exact⟨a,ha,by rw[show((t.toNat:Nat):Int)=t by omega];exact ht⟩
     have htb:t∈vars d.1:=by
      refine Classical.byContradiction fun hn=>hx ?_
      unfold exV
      exact List.mem_filter.mpr ⟨htv,by simp[hn]⟩
     have:=z02u (k:=t.toNat) h.tF (by rw[show((t.toNat:Nat):Int)=t by omega];exact htb)
     have hn:=(z4h h.sk).2.1
     exact⟨this.1,fun hz=>by have:=this.2 hz;omega⟩
 . rw[if_neg h0]
   refine⟨inR_iff.mpr ⟨by omega,by omega⟩,fun hn=>?_⟩
   have:=isNul_iff.mp hn
   omega
theorem FireOk.head (h:FireOk s ds d i b) {f:z00} (hf:f∈z8n d (hdS s.2.1 d i b).2):znt s.1.1 f=true/\(z9x s.1.1 f.1=true->zx7 f=[])/\(∀ v∈f.2.1,z3a v=true->z16 v<(hdS s.2.1 d i b).1.length)/\f.2.1.length<=3:=by
 obtain⟨hd,he,_⟩:=z8c h.pl h.lt.2
 rw[zjq]at hf
 obtain⟨a,ha,rfl⟩:=List.mem_map.mp hf
 obtain⟨hva,hsrc⟩:=z04f hd he a ha
 have hrow:=zl5 hva
 obtain⟨hl1,_,_⟩:=h.hdLen
 obtain⟨_,e⟩:=z0dl (a:=a) (c:=(hdS s.2.1 d i b).2) (fun t ht=>(h.vals ha ht).1) (fun t ht=>by have:=(hrow.2 t ht).2;omega)
 rw[e]
 refine⟨?_,fun hs=>?_,fun v hv hn=>?_,by simpa using hrow.1⟩
 . unfold znt zvq
   have hva':=hva
   unfold z6m zvq at hva'
   simp only[Bool.and_eq_true]at hva' ⊢
   refine⟨⟨⟨hva'.1.1.1,hva'.1.1.2⟩,by simpa using hva'.1.2⟩,List.all_eq_true.mpr fun v hv=>?_⟩
   obtain⟨t,ht,rfl⟩:=List.mem_map.mp hv
   exact(h.vals ha ht).1
 . rw[hsrc]at hs;cases hs
 . obtain⟨t,ht,rfl⟩:=List.mem_map.mp hv
   exact(h.vals ha ht).2 hn
theorem FireOk.inst (h:FireOk s ds d i b):z5d (z2v s d i b).1=decide ((z2v s d i b).1.2.1.length<=30)/\zhp (z2v s d i b).1<=(hdS s.2.1 d i b).1.length/\∀ f∈(z2v s d i b).1.2.1,f.2.1.length<=3:=by
 have hx:=(zbw h.sk).1
 have hmem:∀ f∈(z2v s d i b).1.2.1,f∈s.1.2.1\/f∈z8n d (hdS s.2.1 d i b).2:=fun f hf=>List.mem_append.mp (facS_mem.mp hf)
 refine⟨?_,?_,fun f hf=>?_⟩
 . by_cases hl:(z2v s d i b).1.2.1.length<=30
   . rw[decide_eq_true hl]
     refine z0a7 (zmf hx) (zvk _) hl fun f hf=>?_
     rcases hmem f hf with hf|hf
     . exact⟨zc1 hx hf,z083 hx hf⟩
     . exact⟨(h.head hf).1,(h.head hf).2.1⟩
   . rw[decide_eq_false hl,Bool.eq_false_iff]
     exact fun h'=>hl (zb4 h')
 . refine nextN_le.mpr fun k hk=>?_
   unfold zgb at hk
   rw[mem_sset,List.mem_flatMap]at hk
   obtain⟨f,hf,hk⟩:=hk
   obtain⟨k1,k2,k3⟩:=mem_nulls.mp hk
   have hn:z3a (-1 - k)=true:=isNul_iff.mpr ⟨by omega,by omega⟩
   have hno:z16 (-1 - k)=k:=by unfold z16;rw[if_pos hn];omega
   rcases hmem f hf with hf|hf
   . have h1:=zr0 hf k3 hn
     have h2:=(z4h h.sk).2.1
     have h3:=h.hdLen.2.2
     omega
   . have:=(h.head hf).2.2.1 _ k3 hn
     omega
 . rcases hmem f hf with hf|hf
   . exact(z3n (zc1 hx hf)).2.2.2.2.1
   . exact(h.head hf).2.2.2
theorem FireOk.next (h:FireOk s ds d i b):vSk (z2v s d i b)=(zfn (hdS s.2.1 d i b).1&&decide ((z2v s d i b).1.2.1.length<=30)):=by
 obtain⟨h1,h2,_⟩:=h.inst
 unfold vSk
 have e:(z2v s d i b).2.1=(hdS s.2.1 d i b).1:=rfl
 rw[h1,e,decide_eq_true h2,Bool.and_true,Bool.and_comm]
theorem FireOk.run (h:FireOk s ds d i b):(∀ st,zg0 (zit d i b) (exV d) (s.2.1,b) = .inr st->st=hdS s.2.1 d i b/\zfn (hdS s.2.1 d i b).1=true)/\(∀ r,zg0 (zit d i b) (exV d) (s.2.1,b) = .inl r->zfn (hdS s.2.1 d i b).1=false):=by
 obtain⟨hd,_,h5⟩:=z8c h.pl h.lt.2
 have hi:=h.lt.1
 refine⟨fun st hr=>?_,fun r hr=>z02f hr⟩
 have e:=zow hr
 refine⟨e,?_⟩
 have:=zut (inR_iff.mpr ⟨by omega,by omega⟩) h.args.1 (fun v hv=>by have:=zev hd hv;exact inR_iff.mpr ⟨by omega,by omega⟩) h.args.2 (z4h h.sk).2.2 hr
 rw[e]at this
 exact this
end
def zui (s:TSk) (d:z0k) (i:Nat) (b:List Int):TSk×Bool:=if zfn (hdS s.2.1 d i b).1 then(z2v s d i b,decide ((z2v s d i b).1.2.1.length<=30))else(s,false)
section
variable {s:TSk} {ds:List z0k} {d:z0k} {i:Nat} {b:List Int}
theorem FireOk.res (h:FireOk s ds d i b):(zui s d i b).2=vSk (z2v s d i b)/\(vSk (z2v s d i b)=true->(zui s d i b).1=z2v s d i b):=by
 rw[h.next]
 unfold zui
 cases zfn (hdS s.2.1 d i b).1 with
 |true=>exact⟨rfl,fun _=>rfl⟩
 |false=>exact⟨rfl,fun h=>by cases h⟩
theorem FireOk.getD_ (h:FireOk s ds d i b):ds.getD (Int.toNat (i:Int)) zdm=d:=by
 rw[Int.toNat_natCast,List.getD_eq_getElem?_getD,h.at_];rfl
theorem z049 (h:FireOk s ds d i b):zm2 s ds i b (zui s d i b).1 (zui s d i b).2:=z03w _ _ _ _ _ _ (by
 unfold ztf
 obtain⟨hd,he,_⟩:=z8c h.pl h.lt.2
 have hs:=z6s hd
 have hil:=h.lt.1
 have hb:=h.b5
 have hts:=zbq (z4h h.sk).2.2
 have hfl:=z01n hd
 have hx:=(zbw h.sk).1
 have hxl:=zb4 hx
 rw[h.getD_]
 refine inI hil ⟨_,zbg (by omega) (by omega),?_⟩
 refine z49 (frV d) (fun s v=>s++[b.getD v.toNat 0]) [] (fun j s=>((j:Int),(s,()))) List.length 1 5 hfl (fun s v _=>by simp) ?_ ?_
 . intro j hj a X hs' hX
   have hv:=zie hs.2.2.2.2.1 (List.mem_filter.mp (List.getElem_mem hj)).1
   refine z0l fun _=>bcI hj (inI hj ?_)
   simp only
   rw[z2o hj,z07 (by omega)]
   exact⟨⟨by omega,by omega⟩,by simp only[z0t,List.length_cons,List.length_nil]at *;omega,hX⟩
 . intro X _
   have efr:(frV d).foldl (fun s v=>s++[b.getD v.toNat 0]) []=z8x d b:=rfl
   rw[efr]
   have hal:=h.args.1
   refine z0l fun _=>bcN ⟨by simp only[z0t,List.length_nil];omega,?_⟩
   refine inI hil ⟨_,z5r (by omega) (by omega),?_⟩
   simp only[List.nil_append]
   refine zuj (exV d) (zit d i b) (s.2.1,b) (fun j st=>((j:Int),(((([]:List z0o),(([]:List z00),())),(([]:List z09),())),((s.1,(st.1,())),(st.2,()))))) (KR:=fun _=>((s,(false,())):TSk×Bool×Unit)=((zui s d i b).1,((zui s d i b).2,()))) ?_ ?_ ?_
   . intro j hj st Y hr q1 q2
     have hv:=zev hd (List.getElem_mem hj)
     have e0:=zow hr
     have h5:st.2.length=5:=by
      rw[e0]
      exact(zo2 (d:=d) (i:=i) (b:=b) (l:=(exV d).take j) (st:=(s.2.1,b)) (fun v hv=>zev hd (List.mem_of_mem_take hv)) hb).1
     have hta:zfn st.1=true:=zut (inR_iff.mpr ⟨by omega,by have:=(z8c h.pl h.lt.2).2.2;omega⟩) hal (fun v hv=>by have:=zev hd (List.mem_of_mem_take hv);exact inR_iff.mpr ⟨by omega,by omega⟩) h.args.2 (z4h h.sk).2.2 hr
     have htl:=zbq hta
     refine z0l fun _=>bcI hj (inI hj ⟨trivial,trivial,by simp only[z0t,List.length_nil];omega,?_⟩)
     simp only
     rw[z2o hj,z07 (by omega)]
     have et:(((i:Int),((exV d)[j],(z8x d b,()))):z09)=zr5 d i b (exV d)[j]:=rfl
     rw[et]
     refine⟨_,_,_,zwz htl,?_⟩
     unfold zno
     simp only
     by_cases hm:zr5 d i b (exV d)[j]∈st.1
     . rw[if_pos hm]
       refine z0q (fun h=>by cases h) (fun _=>inI hj ⟨⟨by omega,by omega⟩,?_⟩)
       have:=q2 (hdG d i b st (exV d)[j]) (by unfold zit;rw[if_pos hm])
       unfold hdG at this
       rw[if_pos hm]at this
       exact this
     . rw[if_neg hm]
       have ea:(zr5 d i b (exV d)[j]).2.2.1=z8x d b:=rfl
       rw[ea]
       by_cases hc:st.1.length=30\/8<z6g (z18 st.1) (z8x d b)
       . rw[if_pos hc]
         exact z0q (fun _=>q1 () (by unfold zit;rw[if_neg hm,if_pos hc])) (fun h=>by cases h)
       . rw[if_neg hc]
         refine z0q (fun h=>by cases h) (fun _=>inI hj ⟨⟨by omega,by omega⟩,?_⟩)
         have:=q2 (hdG d i b st (exV d)[j]) (by unfold zit;rw[if_neg hm,if_neg hc])
         unfold hdG at this
         rw[if_neg hm]at this
         exact this
   . intro st Y hr
     obtain⟨rfl,hta⟩:=h.run.1 st hr
     refine z0l fun _=>bcN ?_
     obtain⟨hl1,hl2,hl3⟩:=h.hdLen
     simp only
     generalize hvs:(hdS s.2.1 d i b).2=vs at hl1 ⊢
     have hm:∀ k,(((d.2.1.take k).map fun a=>inst a vs).foldl zoi s.1.2.1).length<=32:=fun k=>by
      have:=zwh (l:=(d.2.1.take k).map fun a=>inst a vs) (m:=s.1.2.1)
      rw[List.length_map,List.length_take]at this
      omega
     refine z1k d.2.1.length (fun k=>((k:Int),(((s.1.1,(((d.2.1.take k).map fun a=>inst a vs).foldl zoi s.1.2.1,())),((hdS s.2.1 d i b).1,())),()))) (by simp) ?_ ?_
     . intro k hk Z hZ
       have hr:=zl5 (hs.2.2.2.2.1 _ (List.getElem_mem hk))
       have hmk:=hm k
       have hil2:=z098 (a:=d.2.1[k]) (b:=vs)
       refine inI hil (z0l fun _=>bcI hk (inI hil (inI hk ⟨inst d.2.1[k] vs,z9m d.2.1[k] vs,?_,_,zom (by simp only;omega) (by simp only;omega),?_⟩)))
       . simp only;rw[z2o hk];exact zj2 (by omega) (by omega) hr.2
       . simp only
         rw[z07 (by omega)]
         rw[z08 hk,List.map_append,List.foldl_append]at hZ
         exact hZ
     . intro Z
       refine inI hil (z0l fun _=>bcN (z0l fun _=>?_))
       simp only[List.take_length]
       have e:(d.2.1.map fun a=>inst a vs).foldl zoi s.1.2.1=zyq (s.1.2.1++z8n d (hdS s.2.1 d i b).2):=by
        rw[hvs,zjq];exact z06p hx _
       rw[e]
       unfold zui
       rw[hta,if_pos rfl]
       have e2:decide (((zyq (s.1.2.1++z8n d (hdS s.2.1 d i b).2)).length:Int)<=30)=decide ((z2v s d i b).1.2.1.length<=30):=decide_eq_decide.mpr (by unfold z2v;simp only;omega)
       rw[e2];rfl
   . intro r hr
     have:=h.run.2 r hr
     unfold zui
     rw[this];rfl)
end
theorem zs1 {s:TSk} {ds:List z0k} {d:z0k} {i:Nat} {b:List Int} (h:FireOk s ds d i b):z81 s ds i b (if vSk (z2v s d i b)then z2v s d i b else s) (vSk (z2v s d i b)):=zjc _ _ _ _ _ _ (by
 unfold zdu
 obtain⟨hd,he,h5⟩:=z8c h.pl h.lt.2
 have hs:=z6s hd
 have hil:=h.lt.1
 have hts:=zbq (z4h h.sk).2.2
 have hx:=(zbw h.sk).1
 have hxl:=zb4 hx
 have hcp:z3f s s:=zx8 h.sk
 have hsm:=SmS.of h.sk
 have no:vSk (z2v s d i b)=false->((s,(false,())):TSk×Bool×Unit)=(if vSk (z2v s d i b)then z2v s d i b else s,(vSk (z2v s d i b),())):=fun h=>by rw[h];rfl
 refine⟨_,z3h,z0q (fun h'=>by rw[h.sk]at h';cases h') (fun _=>⟨_,zqw,z0q (fun h'=>by rw[h.pl]at h';cases h') (fun _=>z0l fun hl=>?_)⟩)⟩
 rw[z0w (n:=(ds.length:Int) - 1) (by omega) (by omega)]
 have hin:inR (i:Int) 0 ((ds.length:Int) - 1)=true:=inR_iff.mpr ⟨by omega,by omega⟩
 refine⟨_,z54,z0q (fun h'=>by rw[hin]at h';cases h') (fun _=>inI hil ?_)⟩
 rw[h.getD_]
 have htr:z78 s.1 d b=true:=by unfold z78;rw[hx,hd,h.tB,h.tF,h.b5];rfl
 refine⟨_,znd,z0q (fun h'=>by rw[htr]at h';cases h') (fun _=>?_)⟩
 have hdi:ds[i]=d:=by have:=h.at_;rw[List.getElem?_eq_getElem hil]at this;exact Option.some.inj this
 have hg:=zxx (ts:=s.2.1) (b:=b) hil (by rw[hdi];exact z0bi hd) hts h.b5
 rw[hdi]at hg
 refine⟨_,_,hg,?_⟩
 obtain⟨hl1,hl2,hl3⟩:=h.hdLen
 have hal:=h.args.1
 have hhl:(z8n d (hdS s.2.1 d i b).2).length<=2:=by rw[zjq,List.length_map];exact hs.2.2.2.1
 have hta:∀ t∈(hdS s.2.1 d i b).1,t.2.2.1.length<=1048576:=by
  have:∀(l:List Int) (st:List z09×List Int),(∀ t∈st.1,t.2.2.1.length<=1048576)->∀ t∈(l.foldl (hdG d i b) st).1,t.2.2.1.length<=1048576:=by
   intro l
   induction l with
   |nil=>intro st h;exact h
   | cons v l ih=>
     intro st hst
     rw[List.foldl_cons]
     refine ih _ fun t ht=>?_
     unfold hdG at ht
     split at ht
     . exact hst t ht
     . rcases List.mem_append.mp ht with ht|ht
       . exact hst t ht
       . obtain rfl:t=zr5 d i b v:=by simpa using ht
         show(z8x d b).length<=_
         omega
  exact this (exV d) (s.2.1,b) hsm.args
 refine⟨_,ze2 (s:=(s.1,((hdS s.2.1 d i b).1,()))) ⟨hsm.rels,hsm.few,hsm.row,by simp only;omega,hta⟩,by simp only[z0t];omega,_,z00c (by simp only[List.length_append];omega) (fun f hf=>?_),_,z3h,?_⟩
 . rcases List.mem_append.mp hf with hf|hf
   . have:=(z3n (zc1 hx hf)).2.2.2.2.1;omega
   . have:=(h.head hf).2.2.2;omega
 . have e:(((s.1.1,(zyq (s.1.2.1++z8n d (hdS s.2.1 d i b).2),s.1.2.2)),((hdS s.2.1 d i b).1,())):TSk)=z2v s d i b:=rfl
   simp only
   rw[e]
   exact z0q (fun hv=>⟨s,hcp,no hv⟩) (fun hv=>by rw[hv];rfl))
structure SmJ (x:z0c):Prop where
 rels:x.1.length<=1048576
 few:x.2.1.length<=1048576
 row:∀ f∈x.2.1,f.2.1.length<=1048576
def Rd {ρ:Type} (P:ρ->Prop) (A:Prop) (B:ρ->Prop):Prop:=A->∃ v,P v/\B v
section
variable {ρ:Type} {P:ρ->Prop}
theorem rk {x:ρ}:Rd P (P x) (fun v=>x=v):=fun h=>⟨x,h,rfl⟩
theorem rb {b:Bool} {A1 A2:Prop} {B1 B2:ρ->Prop} (h1:Rd P A1 B1) (h2:Rd P A2 B2):Rd P (z01 b A1 A2) (fun v=>z01 b (B1 v) (B2 v)):=by
 cases b
 . exact h2
 . exact h1
theorem ra {C A:Prop} {B:ρ->Prop} (h:Rd P A B):Rd P (C/\A) (fun v=>C/\B v):=fun⟨c,a⟩=>(h a).imp fun _ hv=>⟨hv.1,c,hv.2⟩
theorem re {α:Type} {A:α->Prop} {B:α->ρ->Prop} (h:∀ y,Rd P (A y) (B y)):Rd P (∃ y,A y) (fun v=>∃ y,B y v):=fun⟨y,a⟩=>(h y a).imp fun _ hv=>⟨hv.1,y,hv.2⟩
theorem rl (hi:∃ v,P v) {n:Int} {A:Prop} {B:ρ->Prop} (h:Rd P A B):Rd P (z0r n A) (fun v=>z0r n (B v)):=fun a=>by
 by_cases hn:n<=9223372036854775807
 . exact(h (a hn)).imp fun _ hv=>⟨hv.1,fun _=>hv.2⟩
 . exact hi.imp fun _ hv=>⟨hv,fun h=>absurd h hn⟩
theorem rp {σ:Type} {BP:(σ->Prop)->σ->Prop} {BV:ρ->(σ->Prop)->σ->Prop} {a0:σ}
  (h:∀(XP:σ->Prop) (XV:ρ->σ->Prop),(∀ b,Rd P (XP b) (fun v=>XV v b))->∀ a,Rd P (BP XP a) (fun v=>BV v (XV v) a)):Rd P (z0i BP a0) (fun v=>z0i (BV v) a0):=by
 rintro⟨n,hn⟩
 have key:∀ n a,Rd P (zvu BP n a) (fun v=>zvu (BV v) n a):=by
  intro n
  induction n with
  |zero=>intro a h;exact h.elim
  |succ n ih=>intro a;exact h _ (fun v=>zvu (BV v) n) ih a
 exact(key n a0 hn).imp fun _ hv=>⟨hv.1,n,hv.2⟩
theorem zjy {S:(ρ->Prop)->Prop} (h:S P) (hi:∃ v,P v) (hr:(∃ v,P v)->Rd P (S P) (fun v=>S (fun q=>q=v))):∃ v,P v/\S (fun q=>q=v):=hr hi h
end
abbrev Src:=List Int×Int×Int×Unit
def Oks (s:Src):Prop:=0<=s.2.1/\s.1.length<=4611686018427387903
theorem z01g (x:Int):0<=ze7 .and .i64 x 255/\ze7 .and .i64 x 255<=255:=by
 show 0<=IntKind.i64.wrap ((BitVec.ofInt 64 x &&& BitVec.ofInt 64 255).toNat:Int)/\IntKind.i64.wrap ((BitVec.ofInt 64 x &&& BitVec.ofInt 64 255).toNat:Int)<=255
 have h:(BitVec.ofInt 64 x &&& BitVec.ofInt 64 255).toNat<=255:=by
  rw[BitVec.toNat_and]
  exact Nat.le_trans Nat.and_le_right (by decide)
 generalize (BitVec.ofInt 64 x &&& BitVec.ofInt 64 255).toNat=n at h
 have e:IntKind.i64.wrap (n:Int)=(n:Int):=z0w (by omega) (by omega)
 rw[e];omega
theorem zyd {s:Src} (h:Oks s):∃ y z,z5q s y z/\(0<=y/\y<=255)/\Oks z:=by
 have hl:=h.2
 have h0:=h.1
 have hs:z96 s (fun q=>(0<=q.1/\q.1<=255)/\Oks q.2.1):=by
  unfold z96
  refine⟨by decide,by decide,z0l fun _=>z0b (fun hlt=>⟨⟨h0,hlt⟩,z01g _,?_,hl⟩) (fun _=>⟨z01g _,h⟩)⟩
  show 0<=w64 (s.2.1+1)
  rw[z0w (by omega) (by omega)];omega
 obtain⟨⟨y,z,_⟩,hq,hv⟩:=zjy (S:=z96 s) hs ⟨(0,(s,())),⟨Int.le_refl (0:Int),(by decide:(0:Int)<=255)⟩,h⟩ fun hi=>by
  unfold z96
  repeat' first|exact rk|apply_assumption|refine rb ?_ ?_|refine rl hi ?_|refine ra ?_|(refine rp ?_;intro _ _ _ _)|(refine re ?_;intro _)
 exact⟨y,z,zvg _ _ _ hv,hq.1,hq.2⟩
theorem z1x {s:Src} {n:Int} (h:Oks s) (h1:0<n) (h2:n<=256):∃ y z,z05 s n y z/\(0<=y/\y<n)/\Oks z:=by
 obtain⟨y,z,g,y0,hz⟩:=zyd h
 refine⟨Int.tmod y n,z,zje _ _ _ _ ?_,⟨?_,?_⟩,hz⟩
 . unfold zdk
   rw[z01o (by omega)]
   exact z0b (fun _=>⟨y,z,g,by omega,rfl⟩) (fun h=>absurd h2 h)
 . exact Int.tmod_nonneg _ y0.1
 . exact Int.tmod_lt_of_pos _ h1
theorem zpr {s:Src} {n:Int} (h:Oks s) (h1:0<n) (h2:n<=256):∃ y z,z3s s n y z/\Oks z:=by
 obtain⟨y,z,g,_,hz⟩:=z1x h h1 h2
 exact⟨_,z,zty _ _ _ _ ⟨y,z,g,rfl⟩,hz⟩
theorem zph {s:Src} {l:List Int} (h:Oks s) (h1:0<l.length) (h2:l.length<=256):∃ y z,z60 s l y z/\Oks z:=by
 obtain⟨y,z,g,hy,hz⟩:=z1x (n:=(l.length:Int)) h (by omega) (by omega)
 exact⟨_,z,zns _ _ _ _ (z0l fun _=>⟨y,z,g,⟨hy.1,hy.2⟩,rfl⟩),hz⟩
def sigs:List z0o:=[([97],(2,(true,()))),([98],(1,(true,()))),([112],(2,(false,()))),([113],(2,(false,()))),([114],(1,(false,())))]
theorem zgn:zcf sigs:=z072 _ rfl
theorem zyk (i:Nat) (h:i<sigs.length):1<=(sigs[i]).2.1/\(sigs[i]).2.1<=2:=by
 match i,h with
 |0,_|2,_|3,_=>exact⟨(by decide:(1:Int)<=2),(by decide:(2:Int)<=2)⟩
 |1,_|4,_=>exact⟨(by decide:(1:Int)<=1),(by decide:(1:Int)<=2)⟩
theorem z013 {s:Src} {n:Int} (h:Oks s) (h2:n<=40):∃ y z,z86 s n y z/\(-40<=y/\y<3)/\Oks z:=by
 have hs:z83 s n (fun q=>(-40<=q.1/\q.1<3)/\Oks q.2.1):=by
  unfold z83
  refine z0b (fun hn=>?_) (fun hn=>?_)
  . obtain⟨b,z,g,hz⟩:=zpr h (n:=2) (by decide) (by decide)
    obtain⟨v,z1,g1,hv,hz1⟩:=z1x hz (n:=n) (by omega) (by omega)
    obtain⟨u,z2,g2,hu,hz2⟩:=z1x hz (n:=3) (by decide) (by decide)
    exact⟨b,z,g,z1y (fun _=>⟨v,z1,g1,_,zh6 hv.1 (by omega),⟨by simp only;omega,by simp only;omega⟩,hz1⟩) (fun _=>⟨u,z2,g2,⟨by simp only;omega,hu.2⟩,hz2⟩)⟩
  . obtain⟨u,z2,g2,hu,hz2⟩:=z1x h (n:=3) (by decide) (by decide)
    exact⟨u,z2,g2,⟨by simp only;omega,hu.2⟩,hz2⟩
 obtain⟨⟨y,z,_⟩,hq,hv⟩:=zjy (S:=z83 s n) hs ⟨(0,(s,())),⟨(by decide:(-40:Int)<=0),(by decide:(0:Int)<3)⟩,h⟩ fun hi=>by
  unfold z83
  repeat' first|exact rk|apply_assumption|refine rb ?_ ?_|refine ra ?_|(refine rp ?_;intro _ _ _ _)|(refine re ?_;intro _)
 exact⟨y,z,zrm _ _ _ _ hv,hq.1,hq.2⟩
def SmR (r:Int) (f:z00):Prop:=f.1=r/\1<=f.2.1.length/\f.2.1.length<=2
theorem z08a {s:Src} {r n:Int} (h:Oks s) (h0:0<=r) (h1:r<5) (h2:n<=40):∃ y z,z98 s r n y z/\SmR r y/\Oks z:=by
 obtain⟨i,rfl⟩:∃ i:Nat,r=(i:Int):=⟨r.toNat,by omega⟩
 have hi:i<sigs.length:=by show i<5;omega
 have ha:=zyk i hi
 have hs:z9n s i n (fun q=>SmR i q.1/\Oks q.2.1):=by
  unfold z9n
  refine⟨_,zgn,?_⟩
  refine z0v (fun k a=>∃(c:Src) (l:List Int),a=(c,(((i:Int),(l,())),()))/\Oks c/\l.length+k=(sigs[i]).2.1.toNat) ?_ ?_ (n:=(sigs[i]).2.1.toNat) ⟨s,[],rfl,h,by simp⟩
  . rintro a ⟨c,l,rfl,hc,hl⟩ X
    refine inI hi (z0l fun _=>?_)
    rw[z2o hi]
    exact z0b (fun h=>by simp only at h;omega) (fun _=>⟨⟨rfl,by simp only;omega,by simp only;omega⟩,hc⟩)
  . rintro k a ⟨c,l,rfl,hc,hl⟩ X hX
    obtain⟨v,z,g,_,hz⟩:=z013 hc h2
    refine inI hi (z0l fun _=>?_)
    rw[z2o hi]
    exact z0b (fun h=>⟨v,z,g,by simp only[z0t,List.length_cons,List.length_nil];omega,hX _ ⟨z,l++[v],rfl,hz,by simp;omega⟩⟩) (fun h=>by simp only at h;omega)
 obtain⟨⟨y,z,_⟩,hq,hv⟩:=zjy (S:=z9n s i n) hs ⟨((i,([0],())),(s,())),⟨rfl,(by decide:1<=1),(by decide:1<=2)⟩,h⟩ fun hi=>by
  unfold z9n
  repeat' first|exact rk|apply_assumption|refine rb ?_ ?_|refine rl hi ?_|refine ra ?_|(refine rp ?_;intro _ _ _ _)|(refine re ?_;intro _)
 exact⟨y,z,zv6 _ _ _ _ _ hv,hq.1,hq.2⟩
theorem z0c0 {s:Src} {r n:Int} (h:Oks s) (h0:0<=r) (h1:r<5) (hn0:0<n) (h2:n<=40):∃ y z,z7l s r n y z/\SmR r y/\Oks z:=by
 obtain⟨i,rfl⟩:∃ i:Nat,r=(i:Int):=⟨r.toNat,by omega⟩
 have hi:i<sigs.length:=by show i<5;omega
 have ha:=zyk i hi
 have hs:z97 s i n (fun q=>SmR i q.1/\Oks q.2.1):=by
  unfold z97
  refine⟨_,zgn,?_⟩
  refine z0v (fun k a=>∃(c:Src) (l:List Int),a=(c,(((i:Int),(l,())),()))/\Oks c/\l.length+k=(sigs[i]).2.1.toNat) ?_ ?_ (n:=(sigs[i]).2.1.toNat) ⟨s,[],rfl,h,by simp⟩
  . rintro a ⟨c,l,rfl,hc,hl⟩ X
    refine inI hi (z0l fun _=>?_)
    rw[z2o hi]
    exact z0b (fun h=>by simp only at h;omega) (fun _=>⟨⟨rfl,by simp only;omega,by simp only;omega⟩,hc⟩)
  . rintro k a ⟨c,l,rfl,hc,hl⟩ X hX
    obtain⟨b,z,g,hz⟩:=zpr hc (n:=14) (by decide) (by decide)
    obtain⟨u,z1,g1,_,hz1⟩:=z1x hz (n:=3) (by decide) (by decide)
    obtain⟨v,z2,g2,_,hz2⟩:=z1x hz (n:=n) hn0 (by omega)
    refine inI hi (z0l fun _=>?_)
    rw[z2o hi]
    exact z0b (fun h=>⟨b,z,g,z1y (fun _=>⟨u,z1,g1,by simp only[z0t,List.length_cons,List.length_nil];omega,hX _ ⟨z1,_,rfl,hz1,by simp;omega⟩⟩)
     (fun _=>⟨v,z2,g2,by simp only[z0t,List.length_cons,List.length_nil];omega,hX _ ⟨z2,_,rfl,hz2,by simp;omega⟩⟩)⟩) (fun h=>by simp only at h;omega)
 obtain⟨⟨y,z,_⟩,hq,hv⟩:=zjy (S:=z97 s i n) hs ⟨((i,([0],())),(s,())),⟨rfl,(by decide:1<=1),(by decide:1<=2)⟩,h⟩ fun hi=>by
  unfold z97
  repeat' first|exact rk|apply_assumption|refine rb ?_ ?_|refine rl hi ?_|refine ra ?_|(refine rp ?_;intro _ _ _ _)|(refine re ?_;intro _)
 exact⟨y,z,zuo _ _ _ _ _ hv,hq.1,hq.2⟩
theorem zrh {l:List z00} (hl:(l.flatMap (·.2.1)).length<=1073741824):z7c l (vars l) l:=zh4 _ _ _ (by
 unfold zas
 refine z1k l.length (fun i=>((i:Int),(vars (l.take i),()))) (by simp[vars,zdc]) ?_ ?_
 . intro i hi X hX
   refine z0l fun hl1=>bcI hi ?_
   simp only
   rw[z2o hi]
   have hsub:((l.take i).flatMap (·.2.1)).length+l[i].2.1.length<=1073741824:=by
    have:=zeo (·.2.1) hi
    omega
   have hset:∀ j,j<=l[i].2.1.length->(zdc (((l.take i).flatMap (·.2.1)++l[i].2.1.take j).filter fun t=>decide (0<=t))).length<=1073741824:=by
    intro j hj
    refine Nat.le_trans (zu1 _) (Nat.le_trans (List.length_filter_le _ _) ?_)
    rw[List.length_append,List.length_take];omega
   refine z1k l[i].2.1.length (fun j=>(zdc (((l.take i).flatMap (·.2.1)++l[i].2.1.take j).filter fun t=>decide (0<=t)),((j:Int),()))) (by simp[vars]) ?_ ?_
   . intro j hj Y hY
     refine inI hi (z0l fun _=>bcI hj (inI hi (inI hj ?_)))
     simp only
     rw[z2o hj,z07 (by omega)]
     have e:((l.take i).flatMap (·.2.1)++l[i].2.1.take (j+1)).filter (fun t=>decide (0<=t))=((l.take i).flatMap (·.2.1)++l[i].2.1.take j).filter (fun t=>decide (0<=t))++(if 0<=l[i].2.1[j] then[l[i].2.1[j]] else[]):=by
      rw[z08 hj,<-List.append_assoc,List.filter_append]
      by_cases h:0<=l[i].2.1[j]<;>simp[h]
     rw[e]at hY
     refine z0b (fun h=>inI hi (inI hj ⟨_,zoj (hset j (by omega)),?_⟩)) (fun h=>?_)
     . have h:0<=l[i].2.1[j]:=h
       rw[if_pos h]at hY
       rw[zq7];exact hY
     . have h:¬ 0<=l[i].2.1[j]:=h
       rw[if_neg h,List.append_nil]at hY;exact hY
   . intro Y
     refine inI hi (z0l fun _=>bcN ?_)
     simp only
     rw[z07 (by omega),List.take_length]
     have:zdc (((l.take i).flatMap (·.2.1)++l[i].2.1).filter fun t=>decide (0<=t))=vars (l.take (i+1)):=by
      unfold vars;rw[z08 hi,List.flatMap_append];simp
     rw[this];exact hX
 . intro X
   refine z0l fun _=>bcN ?_
   simp only[List.take_length])
def SmB (l:List z00):Prop:=∀ f∈l,1<=f.2.1.length/\f.2.1.length<=2
def SmD (n:Nat) (d:z0k):Prop:=(1<=d.1.length/\d.1.length<=2)/\d.2.1.length<=n/\SmB d.1/\SmB d.2.1
theorem SmD.ok {n:Nat} {d:z0k} (h:SmD n d) (hn:n<=1000):z0ft d:=
 ⟨⟨by have:=h.1.2;omega,fun f hf=>by have:=(h.2.2.1 f hf).2;omega⟩,⟨by have:=h.2.1;omega,fun f hf=>by have:=(h.2.2.2 f hf).2;omega⟩⟩
theorem SmB.snoc {l:List z00} {f:z00} (h:SmB l) (hf:1<=f.2.1.length/\f.2.1.length<=2):SmB (l++[f]):=fun g hg=>by
 rcases List.mem_append.mp hg with hg|hg
 . exact h g hg
 . obtain rfl:=List.mem_singleton.mp hg;exact hf
theorem SmB.flat {l:List z00} (h:SmB l):(l.flatMap (·.2.1)).length<=l.length * 2:=by
 induction l with
 |nil=>simp
 | cons a l ih=>
   have:=ih fun f hf=>h f (by simp[hf])
   have:=(h a (by simp)).2
   simp only[List.flatMap_cons,List.length_append,List.length_cons]
   omega
theorem smd0:SmD 2 ([(0,([0],()))],([],(false,(0,(0,()))))):=by unfold SmD SmB;decide
theorem zob {b:Bool} {A B:Prop} (h1:A) (h2:B):z01 b A B:=by
 cases b
 . exact h2
 . exact h1
theorem zgt {k:Nat} (h:k<=1000):w64 (((k+1:Nat):Int) - 1)=(k:Int):=by rw[z0w (by omega) (by omega)];omega
theorem z0ce {s:Src} (h:Oks s):∃ y z,zdz s y z/\SmD 2 y/\Oks z:=by
 obtain⟨v,z,g,_,hz⟩:=z1x h (n:=9) (by decide) (by decide)
 have hs:z89 s (fun q=>SmD 2 q.1/\Oks q.2.1):=by
  unfold z89
  refine⟨v,z,g,?_⟩
  have hd:∀ {d:z0k},SmD 2 d->SmD 2 ((d,(z,())):z0k×Src×Unit).1/\Oks ((d,(z,())):z0k×Src×Unit).2.1:=fun h=>⟨h,hz⟩
  refine zob (hd (by unfold SmD SmB;decide)) (zob (hd (by unfold SmD SmB;decide)) (zob (hd (by unfold SmD SmB;decide)) (zob (hd (by unfold SmD SmB;decide)) (zob (hd (by unfold SmD SmB;decide)) (zob (hd (by unfold SmD SmB;decide)) (zob (hd (by unfold SmD SmB;decide)) (zob (hd (by unfold SmD SmB;decide)) (hd (by unfold SmD SmB;decide)))))))))
 obtain⟨⟨y,z,_⟩,hq,hv⟩:=zjy (S:=z89 s) hs ⟨((([(0,([0],()))],([],(false,(0,(0,()))))):z0k),(s,())),smd0,h⟩ fun hi=>by
  unfold z89
  repeat' first|exact rk|apply_assumption|refine rb ?_ ?_|refine rl hi ?_|refine ra ?_|(refine rp ?_;intro _ _ _ _)|(refine re ?_;intro _)
 exact⟨y,z,zrn _ _ _ hv,hq.1,hq.2⟩
theorem z0bt {s:Src} (h:Oks s):∃ y z,zbz s y z/\SmD 2 y/\Oks z:=by
 have hs:z92 s (fun q=>SmD 2 q.1/\Oks q.2.1):=by
  unfold z92
  obtain⟨b,z,g,hz⟩:=zpr h (n:=3) (by decide) (by decide)
  refine⟨b,z,g,zob ?_ ?_⟩
  . obtain⟨y,z1,g1,hy,hz1⟩:=z0ce hz
    exact⟨y,z1,g1,hy,hz1⟩
  . obtain⟨v,z1,g1,hv,hz1⟩:=z1x hz (n:=2) (by decide) (by decide)
    obtain⟨N,hN⟩:∃ N:Nat,1+v=(N:Int):=⟨(1+v).toNat,by omega⟩
    refine⟨v,z1,g1,?_⟩
    rw[show w64 (1+v)=(N:Int) by rw[hN];exact z0w (by omega) (by omega)]
    refine z0v (fun k a=>∃(c:Src) (l:List z00),a=((k:Int),(c,((l,(([]:List z00),(false,((0:Int),((0:Int),()))))),())))/\Oks c/\l.length+k=N/\SmB l) ?_ ?_ (n:=N) ⟨z1,[],rfl,hz1,by simp,fun f hf=>by simp at hf⟩
    . rintro a ⟨c,l,rfl,hc,hl,hb⟩ X
      refine z0b (fun h=>by simp at h) (fun _=>?_)
      have hfl:=hb.flat
      refine⟨_,_,zrh (l:=l) (by omega),z0l fun _=>?_⟩
      have head:∀ {c:Src},Oks c->∃ y17 y18,z05 c 2 y17 y18/\(0<=y17/\y17<2)/\Oks y18:=fun hc=>z1x hc (by decide) (by decide)
      have tail:∀ {u:Int} {c:Src},0<=u/\u<2->Oks c->z0i (fun(again20:Int×Src×z0k×Unit->Prop) (a19:Int×Src×z0k×Unit)=>z01 (decide (a19.1 > (0:Int))) (∃ y21:Int,∃ y22:Src,z05 a19.2.1 (3:Int) y21 y22/\(∃ y23:z00,∃ y24:Src,z7l y22 (w64 ((2:Int)+y21)) (4:Int) y23 y24/\(a19.2.2.1.2.1.length+([(y23.1,(y23.2.1,y23.2.2))]:List z00).length<=z0t/\(again20 (w64 (a19.1 - (1:Int)),(y24,((a19.2.2.1.1,(a19.2.2.1.2.1++([(y23.1,(y23.2.1,y23.2.2))]:List z00),a19.2.2.1.2.2)),()))))))) (SmD 2 ((a19.2.2.1.1,(a19.2.2.1.2.1,a19.2.2.1.2.2)):z0k)/\Oks a19.2.1)) (w64 ((1:Int)+u),(c,((l,(([]:List z00),(false,((0:Int),((0:Int),()))))),()))):=by
       intro u c hu hc
       obtain⟨M,hM⟩:∃ M:Nat,1+u=(M:Int):=⟨(1+u).toNat,by omega⟩
       rw[show w64 (1+u)=(M:Int) by rw[hM];exact z0w (by omega) (by omega)]
       refine z0v (fun k a=>∃(c:Src) (m:List z00),a=((k:Int),(c,((l,(m,(false,((0:Int),((0:Int),()))))),())))/\Oks c/\m.length+k=M/\SmB m) ?_ ?_ (n:=M) ⟨c,[],rfl,hc,by simp,fun f hf=>by simp at hf⟩
       . rintro a ⟨c,m,rfl,hc,hm,hb2⟩ X
         exact z0b (fun h=>by simp at h) (fun _=>⟨⟨⟨by simp only;omega,by simp only;omega⟩,by simp only;omega,hb,hb2⟩,hc⟩)
       . rintro k a ⟨c,m,rfl,hc,hm,hb2⟩ X hX
         obtain⟨u,z1,g1,hu,hz1⟩:=z1x hc (n:=3) (by decide) (by decide)
         obtain⟨f,z2,g2,hf,hz2⟩:=z0c0 hz1 (r:=2+u) (n:=4) (by omega) (by omega) (by decide) (by decide)
         refine z0b (fun _=>⟨u,z1,g1,f,z2,?_,?_,?_⟩) (fun h=>by simp at h<;>omega)
         . rw[z0w (by omega) (by omega)];exact g2
         . simp only[z0t,List.length_cons,List.length_nil];omega
         . simp only
           rw[zgt (by omega)]
           exact hX _ ⟨z2,m++[f],rfl,hz2,by simp;omega,hb2.snoc hf.2⟩
      obtain⟨b2,z2,g2,hz2⟩:=zpr hc (n:=3) (by decide) (by decide)
      obtain⟨u,z3,g3,hu,hz3⟩:=head hz2
      obtain⟨u',z3',g3',hu',hz3'⟩:=head hc
      refine z0b (fun hgt=>⟨b2,z2,g2,zob ⟨⟨by omega,by omega⟩,⟨by omega,by omega⟩,⟨⟨by simp only;omega,by simp only;omega⟩,by simp,hb,fun f hf=>by simp at hf⟩,hz2⟩ ⟨u,z3,g3,tail hu hz3⟩⟩) (fun _=>⟨u',z3',g3',tail hu' hz3'⟩)
    . rintro k a ⟨c,l,rfl,hc,hl,hb⟩ X hX
      obtain⟨r,z1,g1,hr,hz1⟩:=z1x hc (n:=5) (by decide) (by decide)
      obtain⟨f,z2,g2,hf,hz2⟩:=z0c0 hz1 (r:=r) (n:=3) hr.1 hr.2 (by decide) (by decide)
      refine z0b (fun _=>⟨r,z1,g1,f,z2,g2,?_,?_⟩) (fun h=>by simp at h<;>omega)
      . simp only[z0t,List.length_cons,List.length_nil];omega
      . simp only
        rw[zgt (by omega)]
        exact hX _ ⟨z2,l++[f],rfl,hz2,by simp;omega,hb.snoc hf.2⟩
 obtain⟨⟨y,z,_⟩,hq,hv⟩:=zjy (S:=z92 s) hs ⟨((([(0,([0],()))],([],(false,(0,(0,()))))):z0k),(s,())),smd0,h⟩ fun hi=>by
  unfold z92
  repeat' first|exact rk|apply_assumption|refine rb ?_ ?_|refine rl hi ?_|refine ra ?_|(refine rp ?_;intro _ _ _ _)|(refine re ?_;intro _)
 exact⟨y,z,ztt _ _ _ hv,hq.1,hq.2⟩
def SmX (x:z0c):Prop:=x.1=sigs/\x.2.1.length<=40/\∀ f∈x.2.1,f.2.1.length<=2
theorem z0a9 {s:Src} {m n:Int} (h:Oks s) (h0:0<=m) (h1:m<=30) (h2:n<=40):∃ y z,zco s m n y z/\SmX y/\Oks z:=by
 have hs:z6u s m n (fun q=>SmX q.1/\Oks q.2.1):=by
  unfold z6u
  obtain⟨v,z,g,hv,hz⟩:=z1x h (n:=m+1) (by omega) (by omega)
  refine⟨_,zgn,v,z,by rw[z0w (by omega) (by omega)];exact g,?_⟩
  obtain⟨N,rfl⟩:∃ N:Nat,v=(N:Int):=⟨v.toNat,by omega⟩
  refine z0v (fun k a=>∃(c:Src) (x:z0c),a=((k:Int),(c,(x,())))/\Oks c/\x.1=sigs/\x.2.1.length+k<=N/\∀ f∈x.2.1,f.2.1.length<=2) ?_ ?_ (n:=N) ⟨z,(sigs,([],())),rfl,hz,rfl,by simp,fun f hf=>by simp at hf⟩
  . rintro a ⟨c,x,rfl,hc,hx,hl,hf⟩ X
    refine z0b (fun h=>by simp at h) (fun _=>⟨x,zgu (by rw[hx];decide) (by first|omega|(simp only;omega)) (fun f hm=>by have:=hf f hm;omega),⟨hx,by first|omega|(simp only;omega),hf⟩,hc⟩)
  . rintro k a ⟨c,x,rfl,hc,hx,hl,hf⟩ X hX
    obtain⟨u,z1,g1,hu,hz1⟩:=z1x hc (n:=3) (by decide) (by decide)
    obtain⟨f,z2,g2,hr,hz2⟩:=z08a hz1 (r:=2+u) (n:=n) (by omega) (by omega) h2
    have hr2:=hr.2.2
    refine z0b (fun _=>⟨u,z1,g1,f,z2,by rw[z0w (by omega) (by omega)];exact g2,_,zom (x:=x) (f:=f) (by omega) (by omega),?_⟩) (fun h=>by simp at h<;>omega)
    simp only
    rw[zgt (by omega)]
    refine hX _ ⟨z2,_,rfl,hz2,hx,?_,fun y hy=>?_⟩
    . have:=zo7 (l:=x.2.1) (f:=f)
      show(zoi x.2.1 f).length+k<=N
      omega
    . rcases putF_mem.mp hy with hy|rfl
      . exact hf y hy
      . exact hr2
 obtain⟨⟨y,z,_⟩,hq,hv⟩:=zjy (S:=z6u s m n) hs ⟨(((sigs,([],())):z0c),(s,())),⟨rfl,by simp,fun f hf=>by simp at hf⟩,h⟩ fun hi=>by
  unfold z6u
  repeat' first|exact rk|apply_assumption|refine rb ?_ ?_|refine rl hi ?_|refine ra ?_|(refine rp ?_;intro _ _ _ _)|(refine re ?_;intro _)
 exact⟨y,z,zqe _ _ _ _ _ hv,hq.1,hq.2⟩
theorem z0fx {x:List Int} (h:x.length<=1048576):∃ z,zvh x z/\Oks z:=by
 have hs:zlq x (fun q=>Oks q.1):=by
  unfold zlq
  refine z0l fun _=>?_
  refine z0v (fun k a=>∃(v:Int) (i:Nat),a=(v,((i:Int),()))/\i+k=4000) ?_ ?_ (n:=4000) ⟨_,0,rfl,rfl⟩
  . rintro a ⟨v,i,rfl,hi⟩ X
    exact z0l fun _=>zob (z0b (fun h=>by simp at h;omega) (fun _=>⟨Int.le_refl (0:Int),by show x.length<=_;omega⟩)) ⟨Int.le_refl (0:Int),by show x.length<=_;omega⟩
  . rintro k a ⟨v,i,rfl,hi⟩ X hX
    refine z0l fun _=>z0b (fun hlt=>zob ⟨⟨by simp only;omega,hlt⟩,?_⟩ ⟨Int.le_refl (0:Int),by show x.length<=_;omega⟩) (fun _=>⟨Int.le_refl (0:Int),by show x.length<=_;omega⟩)
    simp only
    rw[z07 (by omega)]
    exact hX _ ⟨_,i+1,rfl,by omega⟩
 obtain⟨⟨z,_⟩,hq,hv⟩:=zjy (S:=zlq x) hs ⟨(([],(0,(0,()))),()),Int.le_refl (0:Int),by decide⟩ fun hi=>by
  unfold zlq
  repeat' first|exact rk|apply_assumption|refine rb ?_ ?_|refine rl hi ?_|refine ra ?_|(refine rp ?_;intro _ _ _ _)|(refine re ?_;intro _)
 exact⟨z,z09i _ _ hv,hq⟩
theorem z0et {x:List Int}:z05m x (decide ((x.length:Int) > 1048576)):=z0es _ _ (z0l fun _=>rfl)
def SmX2 (m:Nat) (x:z0c):Prop:=x.1=sigs/\x.2.1.length<=m/\∀ f∈x.2.1,f.2.1.length<=2
theorem z01b {s:Src} {m:Int} (h:Oks s) (h0:0<=m) (h1:m<=30):∃ y z,z9t s m y z/\SmX2 m.toNat y/\Oks z:=by
 have hs:z6z s m (fun q=>SmX2 m.toNat q.1/\Oks q.2.1):=by
  unfold z6z
  obtain⟨v,z,g,hv,hz⟩:=z1x h (n:=m+1) (by omega) (by omega)
  refine⟨_,zgn,v,z,by rw[z0w (by omega) (by omega)];exact g,?_⟩
  obtain⟨N,rfl⟩:∃ N:Nat,v=(N:Int):=⟨v.toNat,by omega⟩
  refine z0v (fun k a=>∃(c:Src) (x:z0c),a=((k:Int),(c,(x,())))/\Oks c/\x.1=sigs/\x.2.1.length+k<=N/\∀ f∈x.2.1,f.2.1.length<=2) ?_ ?_ (n:=N) ⟨z,(sigs,([],())),rfl,hz,rfl,by simp,fun f hf=>by simp at hf⟩
  . rintro a ⟨c,x,rfl,hc,hx,hl,hf⟩ X
    refine z0b (fun h=>by simp at h) (fun _=>⟨x,zgu (by rw[hx];decide) (by first|omega|(simp only;omega)) (fun f hm=>by have:=hf f hm;omega),⟨hx,by first|omega|(simp only;omega),hf⟩,hc⟩)
  . rintro k a ⟨c,x,rfl,hc,hx,hl,hf⟩ X hX
    obtain⟨u,z1,g1,hu,hz1⟩:=z1x hc (n:=2) (by decide) (by decide)
    obtain⟨f,z2,g2,hr,hz2⟩:=z08a hz1 (r:=u) (n:=0) (by omega) (by omega) (by decide)
    have hr2:=hr.2.2
    refine z0b (fun _=>⟨u,z1,g1,f,z2,g2,_,zom (x:=x) (f:=f) (by omega) (by omega),?_⟩) (fun h=>by simp at h<;>omega)
    simp only
    rw[zgt (by omega)]
    refine hX _ ⟨z2,_,rfl,hz2,hx,?_,fun y hy=>?_⟩
    . have:=zo7 (l:=x.2.1) (f:=f)
      show(zoi x.2.1 f).length+k<=N
      omega
    . rcases putF_mem.mp hy with hy|rfl
      . exact hf y hy
      . exact hr2
 obtain⟨⟨y,z,_⟩,hq,hv⟩:=zjy (S:=z6z s m) hs ⟨(((sigs,([],())):z0c),(s,())),⟨rfl,by simp,fun f hf=>by simp at hf⟩,h⟩ fun hi=>by
  unfold z6z
  repeat' first|exact rk|apply_assumption|refine rb ?_ ?_|refine rl hi ?_|refine ra ?_|(refine rp ?_;intro _ _ _ _)|(refine re ?_;intro _)
 exact⟨y,z,zq1 _ _ _ _ hv,hq.1,hq.2⟩
theorem z0du {s:Src} (h:Oks s):∃ y z,zcm s y z/\(y.length<=3/\∀ d∈y,SmD 2 d)/\Oks z:=by
 have hs:z6y s (fun q=>(q.1.length<=3/\∀ d∈q.1,SmD 2 d)/\Oks q.2.1):=by
  unfold z6y
  obtain⟨v,z,g,hv,hz⟩:=z1x h (n:=3) (by decide) (by decide)
  obtain⟨N,hN⟩:∃ N:Nat,1+v=(N:Int):=⟨(1+v).toNat,by omega⟩
  refine⟨v,z,g,?_⟩
  rw[show w64 (1+v)=(N:Int) by rw[hN];exact z0w (by omega) (by omega)]
  refine z0v (fun k a=>∃(c:Src) (ds:List z0k),a=((k:Int),(ds,(c,())))/\Oks c/\ds.length+k<=3/\∀ d∈ds,SmD 2 d) ?_ ?_ (n:=N) ⟨z,[],rfl,hz,by simp;omega,fun d hd=>by simp at hd⟩
  . rintro a ⟨c,ds,rfl,hc,hl,hd⟩ X
    exact z0b (fun h=>by simp at h) (fun _=>⟨⟨by simp only;omega,hd⟩,hc⟩)
  . rintro k a ⟨c,ds,rfl,hc,hl,hd⟩ X hX
    obtain⟨d,z1,g1,hd1,hz1⟩:=z0bt hc
    have old:X (w64 (((k+1:Nat):Int) - 1),(ds,(z1,()))):=by
     rw[zgt (by omega)]
     exact hX _ ⟨z1,ds,rfl,hz1,by omega,hd⟩
    refine z0b (fun _=>⟨d,z1,g1,zob ⟨trivial,trivial,_,zgn,?_,?_,_,zll,zob ⟨?_,?_⟩ old⟩ old⟩) (fun h=>by simp at h<;>omega)
    . simp only[z0t,List.length_nil];omega
    . simp only[z0t,List.length_append,List.length_cons,List.length_nil];omega
    . simp only[z0t,List.length_cons,List.length_nil];omega
    . simp only
      rw[zgt (by omega)]
      refine hX _ ⟨z1,ds++[d],rfl,hz1,by simp only[List.length_append,List.length_cons,List.length_nil];omega,fun e he=>?_⟩
      rcases List.mem_append.mp he with he|he
      . exact hd e he
      . obtain rfl:=List.mem_singleton.mp he;exact hd1
 obtain⟨⟨y,z,_⟩,hq,hv⟩:=zjy (S:=z6y s) hs ⟨(([]:List z0k),(s,())),⟨by simp,fun f hf=>by simp at hf⟩,h⟩ fun hi=>by
  unfold z6y
  repeat' first|exact rk|apply_assumption|refine rb ?_ ?_|refine rl hi ?_|refine ra ?_|(refine rp ?_;intro _ _ _ _)|(refine re ?_;intro _)
 exact⟨y,z,zoy _ _ _ hv,hq.1,hq.2⟩
theorem z0f5 {s:Src} (h:Oks s):∃ y z,zao s y z/\y.2.1.length<=3/\Oks z:=by
 have hs:zaq s (fun q=>q.1.2.1.length<=3/\Oks q.2.1):=by
  unfold zaq
  obtain⟨r,z,g,hr,hz⟩:=z1x h (n:=5) (by decide) (by decide)
  obtain⟨f,z1,g1,hf,hz1⟩:=z08a hz (r:=r) (n:=4) hr.1 hr.2 (by decide)
  obtain⟨v,z2,g2,hv,hz2⟩:=z1x hz1 (n:=10) (by decide) (by decide)
  obtain⟨u,z3,g3,hu,hz3⟩:=z1x hz2 (n:=7) (by decide) (by decide)
  obtain⟨w,z4,g4,hz4⟩:=zph hz2 (l:=[10,-41,9]) (by decide) (by decide)
  have hl:=hf.2
  refine⟨r,z,g,f,z1,g1,v,z2,g2,zob ⟨u,z3,g3,?_,hz3⟩ (zob ⟨?_,?_,hz2⟩ (zob ⟨w,z4,g4,⟨by omega,by omega⟩,?_,hz4⟩ ⟨?_,hz2⟩))⟩
  . show f.2.1.length<=3;omega
  . simp only[z0t,List.length_cons,List.length_nil];omega
  . simp only[List.length_append,List.length_cons,List.length_nil];omega
  . simp only[List.length_set];omega
  . show f.2.1.length<=3;omega
 obtain⟨⟨y,z,_⟩,hq,hv⟩:=zjy (S:=zaq s) hs ⟨(((0,([],())):z00),(s,())),by simp,h⟩ fun hi=>by
  unfold zaq
  repeat' first|exact rk|apply_assumption|refine rb ?_ ?_|refine rl hi ?_|refine ra ?_|(refine rp ?_;intro _ _ _ _)|(refine re ?_;intro _)
 exact⟨y,z,zyg _ _ _ hv,hq.1,hq.2⟩
structure SkD (s:TSk):Prop where
 rels:s.1.1.length<=1000
 few:s.1.2.1.length<=100
 row:∀ f∈s.1.2.1,f.2.1.length<=3
 terms:s.2.1.length<=31
 args:∀ t∈s.2.1,t.2.2.1.length<=5
theorem SkD.of {s:TSk} (h:vSk s=true):SkD s:=by
 have hi:=zbw h
 have hr:=zlu (zmf hi.1)
 have hf:=zb4 hi.1
 have ht:=zbq (z4h h).2.2
 refine⟨by omega,by omega,fun f hm=>(z3n (zc1 hi.1 hm)).2.2.2.2.1,by omega,fun t ht=>?_⟩
 obtain⟨i,hi,rfl⟩:=List.mem_iff_getElem.mp ht
 exact z02l h hi
theorem SkD.sm {s:TSk} (h:SkD s):SmS s:=⟨by have:=h.rels;omega,by have:=h.few;omega,fun f hf=>by have:=h.row f hf;omega,by have:=h.terms;omega,fun t ht=>by have:=h.args t ht;omega⟩
theorem SkD.j {s:TSk} (h:SkD s):SmJ s.1:=⟨h.sm.rels,h.sm.few,h.sm.row⟩
theorem z0dw {x:z0c} {m:Nat} (h:SmX2 m x) (hm:m<=50):∃ s b,zaa x s b/\SkD s/\s.1.2.1.length<=m/\s.2.1.length=0:=by
 have hl:x.1.length<=1000:=by rw[h.1];decide
 have h2:=h.2.1
 have hb:zjw x (z5d x&&((zgb x).length:Int) == 0):=z00q _ _ (by
  unfold zr4
  refine⟨_,z6c,z1y (fun h=>⟨_,zd7,z0l fun _=>by rw[h];rfl⟩) (fun h=>by rw[h];rfl)⟩)
 cases hv:(z5d x&&((zgb x).length:Int) == 0)with
 | false=>
   refine⟨(([],([],())),([],())),false,zee _ _ _ ?_,⟨by simp,by simp,fun f hf=>by simp at hf,by simp,fun f hf=>by simp at hf⟩,by simp,rfl⟩
   unfold za5
   refine⟨_,hb,?_⟩
   rw[hv]
   exact bcT rfl
 | true=>
   refine⟨(x,([],())),true,zee _ _ _ ?_,⟨hl,by simp only;omega,fun f hf=>by have:=h.2.2 f hf;omega,by simp,fun f hf=>by simp at hf⟩,h2,rfl⟩
   unfold za5
   refine⟨_,hb,?_⟩
   rw[hv]
   exact bcF ⟨x,zgu (by omega) (by omega) (fun f hf=>by have:=h.2.2 f hf;omega),rfl⟩
theorem z02t {s:Src} {n:Int} (h:Oks s) (h1:0<n) (h2:n<=1000000):∃ y z,z05 s n y z/\(0<=y/\y<n)/\Oks z:=by
 by_cases hn:n<=256
 . exact z1x h h1 hn
 . obtain⟨a,z1,g1,a0,hz1⟩:=zyd h
   obtain⟨b,z2,g2,b0,hz2⟩:=zyd hz1
   obtain⟨c,z3,g3,c0,hz3⟩:=zyd hz2
   obtain⟨e,z4,g4,e0,hz4⟩:=zyd hz3
   have w1:w64 (a * 16777216)=a * 16777216:=z0w (by omega) (by omega)
   have w2:w64 (b * 65536)=b * 65536:=z0w (by omega) (by omega)
   have w3:w64 (a * 16777216+b * 65536)=a * 16777216+b * 65536:=z0w (by omega) (by omega)
   have w4:w64 (c * 256)=c * 256:=z0w (by omega) (by omega)
   have w5:w64 (a * 16777216+b * 65536+c * 256)=a * 16777216+b * 65536+c * 256:=z0w (by omega) (by omega)
   have w6:w64 (a * 16777216+b * 65536+c * 256+e)=a * 16777216+b * 65536+c * 256+e:=z0w (by omega) (by omega)
   refine⟨Int.tmod (a * 16777216+b * 65536+c * 256+e) n,z4,zje _ _ _ _ ?_,⟨Int.tmod_nonneg _ (by omega),Int.tmod_lt_of_pos _ h1⟩,hz4⟩
   unfold zdk
   rw[z01o (by omega)]
   refine z0b (fun h=>absurd h hn) (fun _=>⟨a,z1,g1,b,z2,g2,c,z3,g3,e,z4,g4,?_⟩)
   rw[w1,w2,w3,w4,w5,w6]
   first|exact rfl|exact⟨by omega,rfl⟩
theorem z0ex {s:Src} {l:List (List UInt8)} (h:Oks s) (h1:0<l.length) (h2:l.length<=256):∃ y z,zf1 s l y z/\Oks z:=by
 obtain⟨y,z,g,hy,hz⟩:=z1x (n:=(l.length:Int)) h (by omega) (by omega)
 exact⟨_,z,ztn _ _ _ _ (z0l fun _=>⟨y,z,g,⟨hy.1,hy.2⟩,rfl⟩),hz⟩
theorem z0fq {s:Src} (h:Oks s):∃ y z,zb1 s y z/\Oks z:=by
 obtain⟨a,z1,g1,hz1⟩:=z0ex (l:=[[97],[122],[],[65],[97,98],[112]]) h (by decide) (by decide)
 obtain⟨v,z2,g2,_,hz2⟩:=z1x hz1 (n:=6) (by decide) (by decide)
 obtain⟨b,z3,g3,hz3⟩:=zpr hz2 (n:=2) (by decide) (by decide)
 exact⟨_,z3,zw7 _ _ _ ⟨a,z1,g1,v,z2,g2,b,z3,g3,rfl⟩,hz3⟩
theorem z08r {s:Src} (h:Oks s):∃ y z,zdr s y z/\(y.length<=4/\∀ d∈y,SmD 2 d)/\Oks z:=by
 have hs:z87 s (fun q=>(q.1.length<=4/\∀ d∈q.1,SmD 2 d)/\Oks q.2.1):=by
  unfold z87
  obtain⟨v,z,g,hv,hz⟩:=z1x h (n:=4) (by decide) (by decide)
  obtain⟨N,hN⟩:∃ N:Nat,1+v=(N:Int):=⟨(1+v).toNat,by omega⟩
  refine⟨v,z,g,?_⟩
  rw[show w64 (1+v)=(N:Int) by rw[hN];exact z0w (by omega) (by omega)]
  refine z0v (fun k a=>∃(c:Src) (ds:List z0k),a=((k:Int),(ds,(c,())))/\Oks c/\ds.length+k<=4/\∀ d∈ds,SmD 2 d) ?_ ?_ (n:=N) ⟨z,[],rfl,hz,by simp;omega,fun d hd=>by simp at hd⟩
  . rintro a ⟨c,ds,rfl,hc,hl,hd⟩ X
    exact z0b (fun h=>by simp at h) (fun _=>⟨⟨by simp only;omega,hd⟩,hc⟩)
  . rintro k a ⟨c,ds,rfl,hc,hl,hd⟩ X hX
    obtain⟨d,z1,g1,hd1,hz1⟩:=z0bt hc
    refine z0b (fun _=>⟨d,z1,g1,?_,?_⟩) (fun h=>by simp at h<;>omega)
    . simp only[z0t,List.length_cons,List.length_nil];omega
    . simp only
      rw[zgt (by omega)]
      refine hX _ ⟨z1,ds++[d],rfl,hz1,by simp only[List.length_append,List.length_cons,List.length_nil];omega,fun e he=>?_⟩
      rcases List.mem_append.mp he with he|he
      . exact hd e he
      . obtain rfl:=List.mem_singleton.mp he;exact hd1
 obtain⟨⟨y,z,_⟩,hq,hv⟩:=zjy (S:=z87 s) hs ⟨(([]:List z0k),(s,())),⟨by simp,fun f hf=>by simp at hf⟩,h⟩ fun hi=>by
  unfold z87
  repeat' first|exact rk|apply_assumption|refine rb ?_ ?_|refine rl hi ?_|refine ra ?_|(refine rp ?_;intro _ _ _ _)|(refine re ?_;intro _)
 exact⟨y,z,zr9 _ _ _ hv,hq.1,hq.2⟩
def AnyX (x:z0c):Prop:=x.1.length<=5/\x.2.1.length<=50/\∀ f∈x.2.1,f.2.1.length<=3
theorem z0f1 {s:Src} (h:Oks s):∃ y z,zgj s y z/\AnyX y/\Oks z:=by
 have hs:zb3 s (fun q=>AnyX q.1/\Oks q.2.1):=by
  unfold zb3
  have tail:∀ {c:Src} {x:z0c},Oks c->x.1=sigs->x.2.1.length<=45->(∀ f∈x.2.1,f.2.1.length<=3)->(∃ y19:Int,∃ y20:Src,z05 c (14:Int) y19 y20/\(z01 (y19 == (0:Int)) (∃ y21:z00,∃ y22:Src,zao y20 y21 y22/\(x.2.1.length+([(y21.1,(y21.2.1,y21.2.2))]:List z00).length<=z0t/\(AnyX (x.1,(x.2.1++([(y21.1,(y21.2.1,y21.2.2))]:List z00),x.2.2))/\Oks y22))) (z01 (y19 == (1:Int)) ((0<=(1:Int)/\(1:Int)<=(List.length x.1:Int)/\(List.length x.1:Int)<=(List.length x.1:Int)/\0<(List.length x.1:Int))/\(AnyX (List.take ((Int.toNat (List.length x.1:Int)) - (Int.toNat (1:Int))) (List.drop (Int.toNat (1:Int)) x.1),(x.2.1,x.2.2))/\Oks y20)) (z01 (y19 == (2:Int)) (∃ y23:Int,∃ y24:Src,z05 y20 (5:Int) y23 y24/\(∃ y25:z0o,∃ y26:Src,zb1 y24 y25 y26/\((0<=y23/\y23<(List.length x.1:Int))/\(AnyX (x.1.set (Int.toNat y23) y25,(x.2.1,x.2.2))/\Oks y26)))) (AnyX (x.1,(x.2.1,x.2.2))/\Oks y20))))):=by
   intro c x hc hx hl hf
   have h5:x.1.length=5:=by rw[hx];rfl
   obtain⟨v,c1,k1,hv,hc1⟩:=z1x hc (n:=14) (by decide) (by decide)
   obtain⟨f,c2,k2,hf2,hc2⟩:=z0f5 hc1
   obtain⟨u,c3,k3,hu,hc3⟩:=z1x hc1 (n:=5) (by decide) (by decide)
   obtain⟨r,c4,k4,hc4⟩:=z0fq hc3
   refine⟨v,c1,k1,zob ⟨f,c2,k2,?_,⟨by simp only;omega,?_,fun g hg=>?_⟩,hc2⟩ (zob ⟨⟨by omega,by omega,by omega,by omega⟩,⟨?_,by simp only;omega,hf⟩,hc1⟩ (zob ⟨u,c3,k3,r,c4,k4,⟨by omega,by omega⟩,⟨?_,by simp only;omega,hf⟩,hc4⟩ ⟨⟨by simp only;omega,by simp only;omega,hf⟩,hc1⟩))⟩
   . simp only[z0t,List.length_cons,List.length_nil];omega
   . simp only[List.length_append,List.length_cons,List.length_nil];omega
   . rcases List.mem_append.mp hg with hg|hg
     . exact hf g hg
     . obtain rfl:=List.mem_singleton.mp hg;exact hf2
   . simp only[List.length_take,List.length_drop];omega
   . simp only[List.length_set];omega
  obtain⟨x,z,g,hx,hz⟩:=z0a9 h (m:=5) (n:=3) (by decide) (by decide) (by decide)
  obtain⟨b,z1,g1,hz1⟩:=zpr hz (n:=2) (by decide) (by decide)
  obtain⟨y,z2,g2,hy,hz2⟩:=z01b hz1 (m:=3) (by decide) (by decide)
  have hy3:y.2.1.length<=3:=hy.2.1
  have hx40:=hx.2.1
  refine⟨x,z,g,b,z1,g1,zob ⟨y,z2,g2,?_⟩ (tail hz1 hx.1 (by omega) fun f hf=>by have:=hx.2.2 f hf;omega)⟩
  refine z0v (fun k a=>∃(i:Nat) (x':z0c),i+k=y.2.1.length/\a=((i:Int),(x',(y,())))/\x'.1=sigs/\x'.2.1.length<=40+i/\∀ f∈x'.2.1,f.2.1.length<=2) ?_ ?_ (n:=y.2.1.length) ⟨0,x,by omega,rfl,hx.1,by omega,hx.2.2⟩
  . rintro a ⟨i,x',hi,rfl,h1,h2,h3⟩ X
    obtain rfl:i=y.2.1.length:=by omega
    exact z0l fun _=>bcN ⟨x',zgu (by rw[h1];decide) (by simp only;omega) (fun f hm=>by have:=h3 f hm;omega),tail hz2 h1 (by omega) fun f hf=>by have:=h3 f hf;omega⟩
  . rintro k a ⟨i,x',hi,rfl,h1,h2,h3⟩ X hX
    have hil:i<y.2.1.length:=by omega
    have hyr:=hy.2.2 _ (List.getElem_mem hil)
    refine z0l fun _=>bcI hil (inI hil ⟨_,zom (x:=x') (f:=y.2.1.getD (Int.toNat (i:Int)) z0y) (by omega) (by rw[z2o hil];omega),?_⟩)
    simp only
    rw[z2o hil,z07 (by omega)]
    refine hX _ ⟨i+1,_,by omega,rfl,h1,?_,fun g hg=>?_⟩
    . have:=zo7 (l:=x'.2.1) (f:=y.2.1[i])
      simp only;omega
    . rcases putF_mem.mp hg with hg|rfl
      . exact h3 g hg
      . exact hyr
 obtain⟨⟨y,z,_⟩,hq,hv⟩:=zjy (S:=zb3 s) hs ⟨(((([]:List z0o),(([]:List z00),())):z0c),(s,())),⟨by simp,by simp,fun f hf=>by simp at hf⟩,h⟩ fun hi=>by
  unfold zb3
  repeat' first|exact rk|apply_assumption|refine rb ?_ ?_|refine rl hi ?_|refine ra ?_|(refine rp ?_;intro _ _ _ _)|(refine re ?_;intro _)
 exact⟨y,z,zwf _ _ _ hv,hq.1,hq.2⟩
def apS (s:TSk) (ds:List z0k) (i:Nat) (b:List Int):TSk×Bool:=if vSk s&&(zcl s.1.1 ds&&(decide (i<ds.length)&&(z78 s.1 (ds.getD i zdm) b&&vSk (z2v s (ds.getD i zdm) i b))))then(z2v s (ds.getD i zdm) i b,true)else(s,false)
theorem z0br {s:TSk} {ds:List z0k} {i:Nat} {b:List Int} (h:(vSk s&&(zcl s.1.1 ds&&(decide (i<ds.length)&&(z78 s.1 (ds.getD i zdm) b&&vSk (z2v s (ds.getD i zdm) i b)))))=false):apS s ds i b=(s,false):=by unfold apS;rw[h];rfl
theorem zox {x:z0c} {d:z0k} {b:List Int} (h:z78 x d b=true):b.length=5/\zmu d b=true/\zho x d b=true:=by
 unfold z78 at h
 simp only[Bool.and_eq_true]at h
 exact⟨by simpa using h.2.2.1,h.2.2.2.1,h.2.2.2.2⟩
theorem zjo {s:TSk} {ds:List z0k} {i:Nat} {b:List Int} (hsm:SmS s):zah s ds i b (apS s ds i b).1 (apS s ds i b).2:=zrl _ _ _ _ _ _ (by
 unfold zj1
 have no:∀ {p:Prop},(vSk s&&(zcl s.1.1 ds&&(decide (i<ds.length)&&(z78 s.1 (ds.getD i zdm) b&&vSk (z2v s (ds.getD i zdm) i b)))))=false->((s,(false,())):TSk×Bool×Unit)=((apS s ds i b).1,((apS s ds i b).2,())):=fun h=>by rw[z0br h]
 refine⟨s,zmy hsm,_,zap,z0q (fun h=>no (p:=True) (by rw[h];rfl)) (fun h1=>⟨_,zzv,z0q (fun h=>no (p:=True) (by rw[h];simp)) (fun h2=>z0l fun _=>⟨_,z4j,?_⟩)⟩)⟩
 have h5:=(zxg h2).1
 rw[z0w (by omega) (by omega)]
 refine z0q (fun h=>no (p:=True) ?_) (fun h3=>?_)
 . have:¬ i<ds.length:=fun hi=>by
    have:inR (i:Int) 0 ((ds.length:Int) - 1)=true:=inR_iff.mpr ⟨by omega,by omega⟩
    rw[this]at h;cases h
   rw[decide_eq_false this];simp
 . have hi:i<ds.length:=by have:=inR_iff.mp h3;omega
   refine inI hi ⟨_,zy6,?_⟩
   rw[z2o hi]
   have eg:ds.getD i zdm=ds[i]:=z71 hi
   refine z0q (fun h=>no (p:=True) (by rw[eg,h];simp)) (fun h4=>?_)
   obtain⟨b5,tB,tF⟩:=zox h4
   have hfire:FireOk s ds ds[i] i b:=⟨h1,h2,List.getElem?_eq_getElem hi,b5,tB,tF⟩
   obtain⟨r1,r2⟩:=hfire.res
   refine⟨s,zsg h1,_,_,z049 hfire,?_⟩
   rw[r1]
   refine z0q (fun h=>no (p:=True) (by rw[eg,h];simp)) (fun h6=>⟨z2v s ds[i] i b,?_,?_⟩)
   . rw[r2 h6];exact zsg h6
   . unfold apS
     rw[eg,h1,h2,decide_eq_true hi,h4,h6]
     rfl)
theorem z0df {s:TSk} {ds:List z0k} {i:Nat} {b:List Int} (h:SkD s) (ht:s.2.1.length<=30):SkD (apS s ds i b).1/\(apS s ds i b).1.2.1.length<=30:=by
 unfold apS
 split
 . rename_i hc
   simp only[Bool.and_eq_true]at hc
   exact⟨.of hc.2.2.2.2,(zbw hc.2.2.2.2).2⟩
 . exact⟨h,ht⟩
def SkQ3 (c:Src) (s:TSk) (ds:List z0k):Prop:=Oks c/\SkD s/\ds.length<=4/\∀ d∈ds,SmD 2 d
theorem z094 {x:List Int} (h:x.length<=1048576):∃ c s ds,zi4 x c s ds/\SkQ3 c s ds:=by
 have hs:zet x (fun q=>SkQ3 q.1 q.2.1 q.2.2.1):=by
  unfold zet
  obtain⟨z,g,hz⟩:=z0fx h
  obtain⟨y,z1,g1,hy,hz1⟩:=z01b hz (m:=3) (by decide) (by decide)
  obtain⟨s,b,g2,hS,hS2,hS3⟩:=z0dw hy (by decide)
  obtain⟨ds,z3,g3,hds,hz3⟩:=z0du hz1
  obtain⟨v,z4,g4,hv,hz4⟩:=z1x hz3 (n:=3) (by decide) (by decide)
  obtain⟨N,rfl⟩:∃ N:Nat,v=(N:Int):=⟨v.toNat,by omega⟩
  have hds4:ds.length<=4:=by omega
  refine⟨z,g,y,z1,g1,s,b,g2,ds,z3,g3,_,z4,g4,?_⟩
  refine z0v (fun k a=>∃(c:Src) (st:TSk),a=((k:Int),(st,(c,())))/\Oks c/\SkD st/\st.2.1.length<=30/\k<=N) ?_ ?_ (n:=N) ⟨z4,s,rfl,hz4,hS,by omega,Nat.le_refl _⟩
  . rintro a ⟨c,st,rfl,hc,hst,ht,_⟩ X
    obtain⟨v1,c1,k1,hv1,hc1⟩:=z1x hc (n:=20) (by decide) (by decide)
    obtain⟨v2,c2,k2,hv2,hc2⟩:=z1x hc1 (n:=6) (by decide) (by decide)
    obtain⟨v3,c3,k3,hv3,hc3⟩:=z013 hc2 (n:=4) (by decide)
    obtain⟨x5,c5,k5,hx5,hc5⟩:=z0f1 hc1
    obtain⟨rs,c6,k6,hrs,hc6⟩:=z08r hc1
    have same:SkQ3 c1 st ds:=⟨hc1,hst,hds4,hds.2⟩
    refine z0b (fun h=>by simp at h) (fun _=>⟨v1,c1,k1,zob ⟨v2,c2,k2,v3,c3,k3,?_,hc3,⟨hst.rels,hst.few,hst.row,?_,fun t hm=>?_⟩,hds4,hds.2⟩ (zob ⟨x5,c5,k5,hc5,⟨?_,?_,hx5.2.2,hst.terms,hst.args⟩,hds4,hds.2⟩ (zob ⟨rs,c6,k6,hc6,hst,hrs.1,hrs.2⟩ same))⟩)
    . simp only[z0t,List.length_cons,List.length_nil];omega
    . show(st.2.1++[_]).length<=31
      simp only[List.length_append,List.length_cons,List.length_nil];omega
    . rcases List.mem_append.mp hm with hm|hm
      . exact hst.args t hm
      . obtain rfl:=List.mem_singleton.mp hm
        show[v3].length<=5
        simp
    . have:=hx5.1
      show x5.1.length<=1000;omega
    . have:=hx5.2.1
      show x5.2.1.length<=100;omega
  . rintro k a ⟨c,st,rfl,hc,hst,ht,hk⟩ X hX
    refine z0b (fun _=>?_) (fun h=>by simp at h<;>omega)
    refine z0v (fun j a=>∃(i:Nat) (c:Src) (st:TSk),i+j=ds.length/\a=((i:Int),(c,(st,())))/\Oks c/\SkD st/\st.2.1.length<=30) ?_ ?_ (n:=ds.length) ⟨0,c,st,by omega,rfl,hc,hst,ht⟩
    . rintro a ⟨i,c,st,hi,rfl,hc,hst,ht⟩ Y
      obtain rfl:i=ds.length:=by omega
      refine z0l fun _=>bcN ?_
      simp only
      rw[zgt (by omega)]
      exact hX _ ⟨c,st,rfl,hc,hst,ht,by omega⟩
    . rintro j a ⟨i,c,st,hi,rfl,hc,hst,ht⟩ Y hY
      have hil:i<ds.length:=by omega
      have hfl:=zvz (x:=st.1) (l:=ds[i].1)
      refine z0l fun _=>bcI hil (inI hil ⟨_,zj0,?_⟩)
      simp only
      rw[z2o hil,z07 (by omega)]
      refine z0l fun _=>z0b (fun hp=>z0l fun _=>?_) (fun _=>hY _ ⟨i+1,c,st,by omega,rfl,hc,hst,ht⟩)
      obtain⟨u,c1,k1,hu,hc1⟩:=z02t hc (n:=((zxk st.1 ds[i].1).length:Int)) (by omega) (by omega)
      have ha:=z0df (ds:=ds) (i:=i) (b:=(zxk st.1 ds[i].1).getD (Int.toNat u) []) hst ht
      exact⟨u,c1,k1,⟨hu.1,hu.2⟩,_,_,zjo hst.sm,hY _ ⟨i+1,c1,_,by omega,rfl,hc1,ha.1,ha.2⟩⟩
 obtain⟨⟨c,s,ds,_⟩,hq,hv⟩:=zjy (S:=zet x) hs ⟨((([],(0,(0,()))):Src),((((([],([],())):z0c),(([],()):List z09×Unit)):TSk),(([]:List z0k),()))),⟨Int.le_refl (0:Int),by decide⟩,⟨by simp,by simp,fun f hf=>by simp at hf,by simp,fun f hf=>by simp at hf⟩,by simp,fun f hf=>by simp at hf⟩ fun hi=>by
  unfold zet
  repeat' first|exact rk|apply_assumption|refine rb ?_ ?_|refine rl hi ?_|refine ra ?_|(refine rp ?_;intro _ _ _ _)|(refine re ?_;intro _)
 exact⟨c,s,ds,z03k _ _ _ _ hv,hq⟩
theorem z06f {x:List UInt8} {r:List (List UInt8)} {a s:List UInt8}:Go.Lib.join ((x::r)++[a]) s=Go.Lib.join (x::r) s++s++a:=by
 rw[List.cons_append,Go.Lib.join_cons,Go.Lib.join_cons]
 unfold Go.Lib.joinTail
 simp[List.append_assoc]
theorem ztv {s:List UInt8} {k:Nat}:∀ {l:List (List UInt8)},(∀ a∈l,a.length<=k)->(Go.Lib.join l s).length<=l.length * (k+s.length)
 |[],_=>by simp[Go.Lib.join_nil]
 | x::r,h=>by
   rw[Go.Lib.join_cons]
   have h1:=h x (by simp)
   have h2:(Go.Lib.joinTail s r).length<=r.length * (k+s.length):=by
    unfold Go.Lib.joinTail
    have hr:∀ a∈r,a.length<=k:=fun a ha=>h a (by simp[ha])
    clear h
    induction r with
    |nil=>simp
    | cons a r ih=>
      have h3:=hr a (by simp)
      have h4:=ih fun b hb=>hr b (by simp[hb])
      simp only[List.map_cons,List.flatten_cons,List.length_append,List.length_cons,Nat.succ_mul]
      omega
   rw[List.length_append,List.length_cons,Nat.succ_mul]
   omega
def zvv (n:Int):List UInt8:=Go.Lib.decDigits n.toNat
theorem zdj {n:Int} (h:n<100):(zvv n).length<=2:=by
 unfold zvv
 by_cases h1:n.toNat<10
 . rw[Go.Lib.decDigits_one h1];simp
 . rw[Go.Lib.decDigits_two h1 (by omega)];simp
theorem zda {n:Int} (h0:0<=n) (h1:n<100):z8r n (zvv n):=zw9 _ _ (by unfold zmw;exact⟨_,z076 h0 h1,rfl⟩)
theorem z0b5:∀ i:Fin 10,bytesOf [IntKind.u8.wrap (w64 ((48:Int)+((i.val:Nat):Int)))]=[UInt8.ofNat (48+i.val)]:=by decide
theorem byte_dec' {i:Nat} (h:i<10):bytesOf [IntKind.u8.wrap (w64 ((48:Int)+(i:Int)))]=[UInt8.ofNat (48+i)]:=z0b5 ⟨i,h⟩
theorem zd0 {n:Int} (h0:0<=n) (h1:n<100):z8u n (zvv n):=zvs _ _ (by
 obtain⟨k,rfl⟩:∃ k:Nat,n=(k:Int):=⟨n.toNat,by omega⟩
 have hk:k<100:=by omega
 clear h0 h1
 unfold zmz
 have e10:Int.tmod (k:Int) 10=((k % 10:Nat):Int):=by rw[Int.tmod_eq_emod_of_nonneg (by omega)];omega
 have d10:Int.tdiv (k:Int) 10=((k / 10:Nat):Int):=by rw[Int.tdiv_eq_ediv_of_nonneg (by omega)];omega
 refine z4m (fun h=>?_) (fun h=>?_)
 . have:k=0:=by omega
   subst this
   have:zvv ((0:Nat):Int)=[48]:=by unfold zvv;rw[Go.Lib.decDigits_one (by decide)];rfl
   rw[this]
 . have hk0:k≠0:=by omega
   by_cases h9:k<10
   . have hd:zvv (k:Int)=[UInt8.ofNat (48+k)]:=by unfold zvv;rw[Int.toNat_natCast,Go.Lib.decDigits_one h9]
     refine z1k 1 (fun i=>if i=0 then((k:Int),(([]:List UInt8),()))else((0:Int),([UInt8.ofNat (48+k)],()))) rfl ?_ ?_
     . intro i hi X hX
       have:i=0:=by omega
       subst this
       simp only[if_true]at hX ⊢
       rw[if_neg (by omega)]at hX
       refine zby (fun h'=>⟨by omega,z0b (fun h'=>by rw[e10]at h';omega) (fun _=>?_)⟩) (fun h'=>by exfalso;omega)
       rw[e10,d10,Nat.mod_eq_of_lt h9,byte_dec' h9,Nat.div_eq_of_lt h9]
       refine⟨by simp[z0t],by omega,?_⟩
       rw[z0w (by omega) (by omega),List.append_nil]
       exact hX
     . intro X
       simp only[show ¬ (1=0) by omega,if_false]
       refine zby (fun h'=>absurd rfl h') (fun _=>z0b (fun h'=>by omega) (fun _=>?_))
       rw[hd]
   . have hd:zvv (k:Int)=[UInt8.ofNat (48+k / 10),UInt8.ofNat (48+k % 10)]:=by unfold zvv;rw[Int.toNat_natCast,Go.Lib.decDigits_two h9 hk]
     have q9:k / 10<10:=by omega
     have m9:k % 10<10:=by omega
     refine z1k 2 (fun i=>if i=0 then((k:Int),(([]:List UInt8),()))else if i=1 then(((k / 10:Nat):Int),([UInt8.ofNat (48+k % 10)],()))else((0:Int),([UInt8.ofNat (48+k / 10),UInt8.ofNat (48+k % 10)],()))) rfl ?_ ?_
     . intro i hi X hX
       rcases (show i=0\/i=1 by omega)with rfl|rfl
       . simp only[if_true]at hX ⊢
         refine zby (fun h'=>⟨by omega,z0b (fun h'=>by rw[e10]at h';omega) (fun _=>?_)⟩) (fun h'=>by exfalso;omega)
         rw[e10,d10,byte_dec' m9]
         refine⟨by simp[z0t],by omega,?_⟩
         rw[z0w (by omega) (by omega),List.append_nil]
         exact hX
       . simp only[show ¬ (1=0) by omega,show ¬ (1+1=0) by omega,show ¬ (1+1=1) by omega,if_true,if_false]at hX ⊢
         have e10:Int.tmod ((k / 10:Nat):Int) 10=((k / 10:Nat):Int):=by rw[Int.tmod_eq_emod_of_nonneg (by omega)];omega
         have d10:Int.tdiv ((k / 10:Nat):Int) 10=0:=by rw[Int.tdiv_eq_ediv_of_nonneg (by omega)];omega
         refine zby (fun h'=>⟨by omega,z0b (fun h'=>by rw[e10]at h';omega) (fun _=>?_)⟩) (fun h'=>by exfalso;omega)
         rw[e10,d10,byte_dec' q9]
         refine⟨by simp[z0t],by omega,?_⟩
         rw[z0w (by omega) (by omega)]
         exact hX
     . intro X
       simp only[show ¬ (2=0) by omega,show ¬ (2=1) by omega,if_false]
       refine zby (fun h'=>absurd rfl h') (fun _=>z0b (fun h'=>by omega) (fun _=>?_))
       rw[hd])
def zwm (v:Int):List UInt8:=if z3a v then[110]++zvv (z16 v)else if inR v 0 9 then zvv v else[]
def zls (t:Int):List UInt8:=if inR t (-10) (-1)then zvv (-1 - t)else if inR t 0 4 then List.drop t.toNat (List.take (t+1).toNat [120,121,122,117,118])else[]
theorem z029 (v:Int):(zwm v).length<=3:=by
 unfold zwm
 split
 . next h=>
   have h1:=isNul_iff.mp h
   have h2:z16 v<100:=by unfold z16;rw[if_pos h];omega
   have:=zdj h2
   rw[List.length_append]
   simp only[List.length_cons,List.length_nil]
   omega
 . split
   . next h=>have:=inR_iff.mp h;have:=zdj (n:=v) (by omega);omega
   . simp
theorem zqh (t:Int):(zls t).length<=5:=by
 unfold zls
 split
 . next h=>have:=inR_iff.mp h;have:=zdj (n:=-1 - t) (by omega);omega
 . split
   . rw[List.length_drop,List.length_take];simp only[List.length_cons,List.length_nil];omega
   . simp
theorem zj6 {v:Int}:zac v (zwm v):=zrr _ _ (by
 unfold zjb
 refine⟨_,z6r,z0q (fun h=>?_) (fun h=>⟨_,z082,z0b (fun hn=>?_) (fun hn=>?_)⟩)⟩
 . have h1:¬ z3a v=true:=fun h'=>by
    have:=isNul_iff.mp h'
    have:zml v=true:=inR_iff.mpr ⟨by omega,by omega⟩
    rw[this]at h;cases h
   have h2:¬ inR v 0 9=true:=fun h'=>by
    have:=inR_iff.mp h'
    have:zml v=true:=inR_iff.mpr ⟨by omega,by omega⟩
    rw[this]at h;cases h
   unfold zwm;rw[if_neg h1,if_neg h2]
 . have hr:=inR_iff.mp h
   have h1:z3a v=true:=isNul_iff.mpr ⟨by omega,by omega⟩
   have e:z16 v = -1 - v:=by unfold z16;rw[if_pos h1]
   rw[z0w (by omega) (by omega)]
   have hd:=zdj (n:=-1 - v) (by omega)
   refine⟨_,zda (by omega) (by omega),by simp only[z0t,List.length_cons,List.length_nil];omega,?_⟩
   unfold zwm;rw[if_pos h1,e]
 . have hr:=inR_iff.mp h
   have h1:¬ z3a v=true:=fun h'=>by have:=isNul_iff.mp h';omega
   refine⟨_,zda (by omega) (by omega),?_⟩
   unfold zwm;rw[if_neg h1,if_pos (inR_iff.mpr ⟨by omega,by omega⟩)])
theorem zdl {v:Int}:z8f v (zwm v):=zri _ _ (by
 unfold ziz
 have hr:=zpq v
 have hd:=zdj (n:=z16 v) (by omega)
 refine⟨_,_,z5n,z1y (fun h=>⟨_,zd0 (by omega) (by omega),by simp only[z0t,List.length_cons,List.length_nil];omega,?_⟩) (fun h=>⟨_,z4j,z0q (fun h2=>?_) (fun h2=>?_)⟩)⟩
 . unfold zwm;rw[if_pos h]
 . unfold zwm;rw[h,h2];rfl
 . have:=inR_iff.mp h2
   refine⟨_,zd0 (by omega) (by omega),?_⟩
   unfold zwm;rw[h,h2];rfl)
theorem zto {t:Int}:zfe t (zls t):=zua _ _ (by
 unfold zkh
 refine⟨_,z54,z1y (fun h=>?_) (fun h=>⟨_,z54,z1y (fun h2=>?_) (fun h2=>?_)⟩)⟩
 . have hr:=inR_iff.mp h
   have h1:¬ inR t (-10) (-1)=true:=fun h'=>by have:=inR_iff.mp h';omega
   rw[z0w (by omega) (by omega)]
   refine⟨⟨by omega,by omega,by simp;omega⟩,?_⟩
   unfold zls;rw[if_neg h1,if_pos h]
 . have hr:=inR_iff.mp h2
   rw[z0w (by omega) (by omega)]
   refine⟨_,zda (by omega) (by omega),?_⟩
   unfold zls;rw[if_pos h2]
 . unfold zls;rw[h2,h];rfl)
theorem zvo {t:Int}:zf0 t (zls t):=zv7 _ _ (by
 unfold zl7
 refine⟨_,z4j,z1y (fun h2=>?_) (fun h2=>⟨_,z4j,z0q (fun h=>?_) (fun h=>?_)⟩)⟩
 . have hr:=inR_iff.mp h2
   rw[z0w (by omega) (by omega)]
   refine⟨_,zd0 (by omega) (by omega),?_⟩
   unfold zls;rw[if_pos h2]
 . unfold zls;rw[h2,h];rfl
 . have hr:=inR_iff.mp h
   rw[z0w (by omega) (by omega)]
   refine⟨⟨by omega,by omega,by simp;omega⟩,?_⟩
   unfold zls;rw[h2,h];rfl)
def zdq (ts:List z09):Nat->Int->List UInt8
 |0,v=>zwm v
 | n+1,v=>if z3a v&&decide (z16 v<ts.length)then
    [102]++zvv (z7v ts (z16 v).toNat).1++zls (z7v ts (z16 v).toNat).2.1++([40]++Go.Lib.join ((z7v ts (z16 v).toNat).2.2.1.map (zdq ts n)) [44]++[41])
   else zwm v
def dpv (ts:List z09) (v:Int):Int:=if z3a v then(z18 ts).getD (z16 v).toNat 0 else 0
theorem zt6 {ts:List z09} {i:Nat} (h:i<=ts.length):z18 (ts.take i)=(z18 ts).take i:=by
 obtain⟨r,hr⟩:=z01q (ts.take i) (ts.drop i)
 rw[List.take_append_drop]at hr
 rw[hr,List.take_left' (by rw[zmh,List.length_take];omega)]
theorem z0d4 {ts:List z09} {n:Nat} (h:n<ts.length):(z18 ts).getD n 0=z6g (z18 (ts.take n)) ts[n].2.2.1:=by
 have e:z18 (ts.take (n+1))=z18 (ts.take n)++[z6g (z18 (ts.take n)) ts[n].2.2.1]:=by rw[z08 h,z6x]
 have h1:(z18 (ts.take (n+1))).getD n 0=z6g (z18 (ts.take n)) ts[n].2.2.1:=by
  rw[e,List.getD_eq_getElem?_getD,List.getElem?_append_right (by rw[zmh,List.length_take];omega),zmh,List.length_take,Nat.min_eq_left (by omega),Nat.sub_self];rfl
 rw[<-h1,zt6 (by omega),List.getD_eq_getElem?_getD,List.getD_eq_getElem?_getD,List.getElem?_take,if_pos (by omega)]
theorem zot {ts:List z09} (hA:zfn ts=true) {n:Nat} (hn:n<ts.length) {w:Int} (hw:w∈ts[n].2.2.1):dpv ts w+1<=(z18 ts).getD n 0/\(z3a w=true->z16 w<n)/\0<=dpv ts w:=by
 have hT:=zhb hA hn
 have hwk:=z009 hT (v:=w) (by rw[z2g hn];exact hw)
 rw[z0d4 hn]
 unfold z6g
 have hm:=mx_le.mp (Int.le_refl (mx (fun k=>(z18 (ts.take n)).getD k.toNat 0) (z2h ts[n].2.2.1)))
 refine⟨?_,hwk.2,?_⟩
 . unfold dpv
   split
   . next hnul=>
     have hlt:=hwk.2 hnul
     have h0:=z4e w
     have hin:z16 w∈z2h ts[n].2.2.1:=by
      have hi:=isNul_iff.mp hnul
      have e:z16 w = -1 - w:=by unfold z16;rw[if_pos hnul]
      refine mem_nulls.mpr ⟨h0,by omega,?_⟩
      rw[e,show -1 - (-1 - w)=w by omega];exact hw
     have:=hm.2 _ hin
     have e:(z18 (ts.take n)).getD (z16 w).toNat 0=(z18 ts).getD (z16 w).toNat 0:=by
      rw[zt6 (by omega),List.getD_eq_getElem?_getD,List.getD_eq_getElem?_getD,List.getElem?_take,if_pos (by omega)]
     rw[e]at this
     omega
   . have:=hm.1;omega
 . unfold dpv
   split
   . by_cases h:(z16 w).toNat<(z18 ts).length
     . rw[List.getD_eq_getElem?_getD,List.getElem?_eq_getElem h]
       exact(z01x ts.length ts rfl _ (List.getElem_mem h)).1
     . rw[List.getD_eq_getElem?_getD,List.getElem?_eq_none (by omega)];exact Int.le_refl _
   . exact Int.le_refl _
theorem pow6 (n:Nat):1<=6 ^ n:=Nat.one_le_pow _ _ (by decide)
theorem z02s {ts:List z09} (hA:zfn ts=true):∀(n D:Nat) (v:Int),dpv ts v<=D->(zdq ts n v).length<=16 * 6 ^ D
 |0,D,v,_=>by have:=z029 v;have:=pow6 D;show(zwm v).length<=_;omega
 | n+1,D,v,h=>by
   unfold zdq
   have hp:=pow6 D
   split
   . next hc=>
     rw[Bool.and_eq_true,decide_eq_true_eq]at hc
     have h0:=z4e v
     have hlt:(z16 v).toNat<ts.length:=by omega
     have hT:=zhb hA hlt
     unfold z5h at hT
     simp only[Bool.and_eq_true,decide_eq_true_eq]at hT
     have hd1:=inR_iff.mp hT.1.1.1.1
     have hl1:=zdj (n:=(z7v ts (z16 v).toNat).1) (by omega)
     have hl2:=zqh (z7v ts (z16 v).toNat).2.1
     have hl5:=hT.1.1.2
     rw[z2g hlt]at hl1 hl2 hl5 ⊢
     have hdv:dpv ts v=(z18 ts).getD (z16 v).toNat 0:=by unfold dpv;rw[if_pos hc.1]
     match D,h,hp with
     | 0,h,_=>
       cases ha:ts[(z16 v).toNat].2.2.1 with
       | nil=>
         rw[List.map_nil,Go.Lib.join_nil]
         simp only[List.length_append,List.length_cons,List.length_nil]
         omega
       | cons w l=>
         have:=zot hA hlt (w:=w) (by rw[ha];simp)
         omega
     | D+1,h,_=>
       have hp:=pow6 D
       have hj:=ztv (s:=[44]) (k:=16 * 6 ^ D) (l:=ts[(z16 v).toNat].2.2.1.map (zdq ts n)) (by
        intro a ha
        obtain⟨w,hw,rfl⟩:=List.mem_map.mp ha
        have:=zot hA hlt hw
        exact z02s hA n D w (by omega))
       rw[List.length_map]at hj
       have hj2:ts[(z16 v).toNat].2.2.1.length * (16 * 6 ^ D+([44]:List UInt8).length)<=5 * (16 * 6 ^ D+1):=Nat.mul_le_mul hl5 (Nat.le_refl _)
       simp only[List.length_append,List.length_cons,List.length_nil]
       rw[Nat.pow_succ]
       omega
   . have:=z029 v;omega
theorem zof {ts:List z09} (hA:zfn ts=true) (n:Nat) (v:Int):(zdq ts n v).length<=30000000:=by
 have h8:dpv ts v<=(8:Nat):=by
  unfold dpv
  split
  . unfold zfn at hA
    simp only[Bool.and_eq_true]at hA
    by_cases h:(z16 v).toNat<(z18 ts).length
    . have:=List.all_eq_true.mp hA.2 _ (List.getElem_mem h)
      rw[List.getD_eq_getElem?_getD,List.getElem?_eq_getElem h]
      simpa using this
    . rw[List.getD_eq_getElem?_getD,List.getElem?_eq_none (by omega)];simp
  . simp
 have:=z02s hA n 8 v h8
 have e:16 * 6 ^ 8<=30000000:=by decide
 omega
theorem zqn {ts:List z09} (hA:zfn ts=true):∀(n:Nat) (v:Int),(z3a v=true->z16 v<n)->∀ m,n<=m->zdq ts m v=zdq ts n v
 | 0,v,h,m,_=>by
   have hn:z3a v=false:=by
    cases e:z3a v with
    |false=>rfl
    |true=>have:=h e;have:=z4e v;omega
   cases m with
   |zero=>rfl
   |succ m=>unfold zdq;rw[hn];rfl
 | n+1,v,h,m,hm=>by
   cases m with
   |zero=>omega
   | succ m=>
     unfold zdq
     by_cases hc:(z3a v&&decide (z16 v<ts.length))=true
     . rw[if_pos hc,if_pos hc]
       rw[Bool.and_eq_true,decide_eq_true_eq]at hc
       have h0:=z4e v
       have hlt:(z16 v).toNat<ts.length:=by omega
       have hvn:=h hc.1
       rw[z2g hlt]
       have:ts[(z16 v).toNat].2.2.1.map (zdq ts m)=ts[(z16 v).toNat].2.2.1.map (zdq ts n):=List.map_congr_left fun w hw=>by
        have:=(zot hA hlt hw).2.1
        exact zqn hA n w (fun hnw=>by have:=this hnw;omega) m (by omega)
       rw[this]
     . rw[if_neg hc,if_neg hc]
def zrp (s:TSk) (v:Int):List UInt8:=if vSk s then zdq s.2.1 40 v else zwm v
def parK (ts:List z09) (n:Nat) (l:List Int):List UInt8:=[40]++Go.Lib.join (l.map (zdq ts n)) [44]++[41]
theorem znj {s:TSk} (hA:zfn s.2.1=true):∀(n:Nat) (l:List Int),l.length<=5->(∀ v∈l,z3a v=true->z16 v<n)->z62 s l (parK s.2.1 n l):=by
 have main:∀(n:Nat) (l:List Int),l.length<=5->(∀ v∈l,z3a v=true->z16 v<n)->(∀(j:Nat),j<n->∀(k:List Int),k.length<=5->(∀ v∈k,z3a v=true->z16 v<j)->z62 s k (parK s.2.1 j k))->z62 s l (parK s.2.1 n l):=by
  intro n l hl hv ih
  have hts:=zbq hA
  refine zs2 _ _ _ ?_
  unfold zjf
  refine z0l fun _=>z1k l.length (fun i=>((i:Int),((l.take i).map (zdq s.2.1 n),()))) (by simp) ?_ ?_
  . intro i hi X hX
    rw[z08 hi,List.map_append,List.map_cons,List.map_nil]at hX
    have h0:=z4e l[i]
    refine bcI hi (inI hi ⟨zwm l[i],by simp only;rw[z2o hi];exact zj6,z16 l[i],z3a l[i],by simp only;rw[z2o hi];exact zf8,?_⟩)
    simp only
    rw[z07 (by omega)]
    have hlen:((l.take i).map (zdq s.2.1 n)).length+([zdq s.2.1 n l[i]]:List (List UInt8)).length<=z0t:=by
     simp only[z0t,List.length_map,List.length_take,List.length_cons,List.length_nil];omega
    have flat:¬ (z3a l[i]&&decide (z16 l[i]<s.2.1.length))=true->zdq s.2.1 n l[i]=zwm l[i]:=fun hc=>by
     cases n with
     |zero=>rfl
     |succ n=>unfold zdq;rw[if_neg hc]
    refine z1y (fun hn=>z0l fun _=>z0b (fun hlt=>?_) (fun hlt=>?_)) (fun hn=>?_)
    . obtain⟨k,hk⟩:∃ k:Nat,z16 l[i]=k:=⟨(z16 l[i]).toNat,by omega⟩
      have hkl:k<s.2.1.length:=by omega
      have hkn:=hv l[i] (List.getElem_mem hi) hn
      rw[hk]
      have hT:=zhb hA hkl
      unfold z5h at hT
      simp only[Bool.and_eq_true,decide_eq_true_eq]at hT
      rw[z2g hkl]at hT
      have hd1:=inR_iff.mp hT.1.1.1.1
      have hl1:=zdj (n:=s.2.1[k].1) (by omega)
      have hl2:=zqh s.2.1[k].2.1
      have hl5:=hT.1.1.2
      have harg:∀ v∈s.2.1[k].2.2.1,z3a v=true->z16 v<k:=fun v hv=>(zot hA hkl hv).2.1
      obtain⟨m,rfl⟩:∃ m,n=m+1:=⟨n - 1,by omega⟩
      have hpar:parK s.2.1 k s.2.1[k].2.2.1=[40]++Go.Lib.join (s.2.1[k].2.2.1.map (zdq s.2.1 m)) [44]++[41]:=by
       unfold parK
       rw[List.map_congr_left fun w hw=>(zqn hA k w (harg w hw) m (by omega)).symm]
      have e:zdq s.2.1 (m+1) l[i]=[102]++zvv s.2.1[k].1++zls s.2.1[k].2.1++parK s.2.1 k s.2.1[k].2.2.1:=by
       rw[hpar]
       conv=>lhs;unfold zdq
       rw[hn,hk,decide_eq_true (by omega)]
       simp only[Bool.and_self,if_true,Int.toNat_natCast]
       rw[z2g hkl]
      have hbig:=zof hA (m+1) l[i]
      rw[e]at hX hlen hbig
      simp only[List.length_append,List.length_cons,List.length_nil]at hbig
      refine inI hkl ?_
      rw[z2o hkl]
      refine⟨_,zda hd1.1 (by omega),by simp only[z0t,List.length_cons,List.length_nil];omega,_,zto,by simp only[z0t,List.length_append,List.length_cons,List.length_nil];omega,_,ih k (by omega) _ hl5 harg,by simp only[z0t,List.length_append,List.length_cons,List.length_nil];omega,hlen,hX⟩
    . rw[flat (by rw[hn,decide_eq_false hlt];decide)]at hX hlen;exact⟨hlen,hX⟩
    . rw[flat (by rw[hn];simp)]at hX hlen;exact⟨hlen,hX⟩
  . intro X
    simp only[List.take_length]
    have hj:=ztv (s:=[44]) (k:=30000000) (l:=l.map (zdq s.2.1 n)) (by
     intro a ha
     obtain⟨w,_,rfl⟩:=List.mem_map.mp ha
     exact zof hA n w)
    rw[List.length_map]at hj
    have hj2:l.length * (30000000+([44]:List UInt8).length)<=5 * (30000000+1):=Nat.mul_le_mul hl (Nat.le_refl _)
    refine bcN ⟨_,z07s (by rw[List.length_map];omega) (by omega),by simp only[z0t,List.length_cons,List.length_nil];omega,by simp only[z0t,List.length_append,List.length_cons,List.length_nil];omega,rfl⟩
 intro n
 induction n using Nat.strongRecOn with
 |_ n ih=>exact fun l hl hv=>main n l hl hv ih
theorem ziq {s:TSk} {ds:List z0k} {v:Int}:z7y s ds v (zrp s v):=zii _ _ _ _ (by
 unfold zbk zrp
 refine⟨_,z3h,z0q (fun h=>⟨_,zj6,by rw[h];rfl⟩) (fun h=>?_)⟩
 have hA:=(z4h h).2.2
 have hb:=zof hA 40 v
 have hr:=zpq v
 refine⟨_,znj hA 40 [v] (by simp) (fun w hw _=>by obtain rfl:=List.mem_singleton.mp hw;omega),?_⟩
 have e:parK s.2.1 40 [v]=[40]++zdq s.2.1 40 v++[41]:=by unfold parK;rw[List.map_cons,List.map_nil,Go.Lib.join_one]
 rw[e,if_pos h]
 generalize zdq s.2.1 40 v=y at hb
 have hl:(([40]++y++[41]:List UInt8)).length=y.length+2:=by simp
 refine z0l fun _=>?_
 rw[hl,z0w (by omega) (by omega)]
 refine⟨⟨by omega,by omega,by omega⟩,?_⟩
 have e2:List.drop (Int.toNat (1:Int)) (List.take (Int.toNat (((y.length+2:Nat):Int) - 1)) ([40]++y++[41]))=y:=by
  rw[show Int.toNat (((y.length+2:Nat):Int) - 1)=([40]++y).length by simp;omega,List.take_left' rfl];rfl
 rw[e2])
theorem z9z {s:TSk} {ds:List z0k}:∀(n:Nat) (v:Int),(z3a v=true->z16 v<n)->n<=40->z23 s ds v (zrp s v)
 | n,v,hn,h40=>by
   refine ziv _ _ _ _ ?_
   unfold zbd
   have h0:=z4e v
   have flat:¬ (z3a v&&decide (z16 v<s.2.1.length))=true->zrp s v=zwm v:=fun hc=>by
    unfold zrp
    split
    . show zdq s.2.1 (39+1) v=_
      unfold zdq;rw[if_neg hc]
    . rfl
   refine⟨_,_,z5n,z0q (fun h=>⟨_,zdl,by rw[flat (by rw[h];simp)]⟩) (fun hnul=>⟨_,zap,z0q (fun h=>⟨_,zdl,by unfold zrp;rw[h];rfl⟩) (fun hv=>z0l fun _=>z0b (fun h=>⟨_,zdl,by rw[flat (by rw[decide_eq_false (by omega)];simp)]⟩) (fun h=>?_))⟩)⟩
   have hA:=(z4h hv).2.2
   obtain⟨k,hk⟩:∃ k:Nat,z16 v=k:=⟨(z16 v).toNat,by omega⟩
   have hkl:k<s.2.1.length:=by omega
   have hkn:=hn hnul
   rw[hk]
   have hT:=zhb hA hkl
   unfold z5h at hT
   simp only[Bool.and_eq_true,decide_eq_true_eq]at hT
   rw[z2g hkl]at hT
   have hd1:=inR_iff.mp hT.1.1.1.1
   have hl1:=zdj (n:=s.2.1[k].1) (by omega)
   have hl2:=zqh s.2.1[k].2.1
   have hl5:=hT.1.1.2
   have harg:∀ v∈s.2.1[k].2.2.1,z3a v=true->z16 v<k:=fun v hv=>(zot hA hkl hv).2.1
   have hrec:∀ w∈s.2.1[k].2.2.1,z23 s ds w (zdq s.2.1 39 w):=fun w hw=>by
    have:=z9z (s:=s) (ds:=ds) k w (harg w hw) (by omega)
    unfold zrp at this
    rw[if_pos hv,zqn hA 39 w (fun h=>by have:=harg w hw h;omega) 40 (by omega)]at this
    exact this
   have e:zrp s v=[102]++zvv s.2.1[k].1++zls s.2.1[k].2.1++([40]++Go.Lib.join (s.2.1[k].2.2.1.map (zdq s.2.1 39)) [44]++[41]):=by
    unfold zrp
    rw[if_pos hv]
    show zdq s.2.1 (39+1) v=_
    conv=>lhs;unfold zdq
    rw[hnul,hk,decide_eq_true (by omega)]
    simp only[Bool.and_self,if_true,Int.toNat_natCast]
    rw[z2g hkl]
   rw[e]
   refine inI hkl (inI hkl ?_)
   rw[z2o hkl]
   generalize s.2.1[k].2.2.1=l at hl5 hrec ⊢
   have hfew:∀ w,(zdq s.2.1 39 w).length<=30000000:=fun w=>zof hA 39 w
   have hjl:∀ i,(Go.Lib.join ((l.take i).map (zdq s.2.1 39)) [44]).length<=150000005:=fun i=>by
    have hj:=ztv (s:=[44]) (k:=30000000) (l:=(l.take i).map (zdq s.2.1 39)) (by
     intro a ha
     obtain⟨w,_,rfl⟩:=List.mem_map.mp ha
     exact hfew w)
    rw[List.length_map,List.length_take]at hj
    have hj2:min i l.length * (30000000+([44]:List UInt8).length)<=5 * (30000000+1):=Nat.mul_le_mul (by omega) (Nat.le_refl _)
    omega
   refine⟨_,zd0 hd1.1 (by omega),by simp only[z0t,List.length_cons,List.length_nil];omega,_,zvo,by simp only[z0t,List.length_append,List.length_cons,List.length_nil];omega,by simp only[z0t,List.length_append,List.length_cons,List.length_nil];omega,?_⟩
   generalize hpre:(([102]:List UInt8)++zvv s.2.1[k].1)++zls s.2.1[k].2.1=pre
   have hpl:pre.length<=8:=by rw[<-hpre];simp only[List.length_append,List.length_cons,List.length_nil];omega
   refine z1k l.length (fun i=>((pre++[40])++Go.Lib.join ((l.take i).map (zdq s.2.1 39)) [44],((i:Int),()))) (by simp[Go.Lib.join_nil]) ?_ ?_
   . intro i hi X hX
     have hw:=hrec l[i] (List.getElem_mem hi)
     have hwl:=hfew l[i]
     have hj:=hjl i
     rw[z08 hi,List.map_append,List.map_cons,List.map_nil]at hX
     refine inI hkl (z0l fun _=>bcI hi ?_)
     simp only
     rw[z2o hi,z07 (by omega)]
     refine z0b (fun hp=>⟨by simp only[z0t,List.length_append,List.length_cons,List.length_nil];omega,inI hkl (inI hi ⟨_,hw,by simp only[z0t,List.length_append,List.length_cons,List.length_nil];omega,?_⟩)⟩) (fun hp=>inI hkl (inI hi ⟨_,hw,by simp only[z0t,List.length_append,List.length_cons,List.length_nil];omega,?_⟩))
     . have ej:Go.Lib.join ((l.take i).map (zdq s.2.1 39)++[zdq s.2.1 39 l[i]]) [44]=Go.Lib.join ((l.take i).map (zdq s.2.1 39)) [44]++[44]++zdq s.2.1 39 l[i]:=by
        cases ht:(l.take i).map (zdq s.2.1 39)with
        | nil=>
          have:=congrArg List.length ht
          rw[List.length_map,List.length_take,List.length_nil]at this
          omega
        |cons a r=>exact z06f
       rw[ej]at hX
       simpa only[List.append_assoc]using hX
     . have:i=0:=by omega
       subst this
       have ej:Go.Lib.join ((l.take 0).map (zdq s.2.1 39)++[zdq s.2.1 39 l[0]]) [44]=Go.Lib.join ((l.take 0).map (zdq s.2.1 39)) [44]++zdq s.2.1 39 l[0]:=by simp[Go.Lib.join_nil,Go.Lib.join_one]
       rw[ej]at hX
       simpa only[List.append_assoc]using hX
   . intro X
     have hj:=hjl l.length
     rw[List.take_length]at hj
     refine inI hkl (z0l fun _=>bcN ?_)
     simp only[List.take_length]
     refine⟨by simp only[z0t,List.length_append,List.length_cons,List.length_nil];omega,?_⟩
     simp only[List.append_assoc]
termination_by n v=>n
decreasing_by omega
theorem zis {s:TSk} {ds:List z0k} {v:Int}:z23 s ds v (zrp s v):=z9z 40 v (fun _=>by have:=zpq v;omega) (Nat.le_refl _)
theorem zv3 {f:z00} {y:z0c}:z7h f y (!decide (f∈y.2.1)):=zu4 _ _ _ (by unfold zlm;exact⟨_,zt2,rfl⟩)
theorem zz1 {x y:z0c}:zjs x y (x.2.1.all fun f=>decide (f∈y.2.1)):=z004 _ _ _ (by
 unfold zp2
 refine⟨_,z6i (fun f=>!decide (f∈y.2.1)) (fun _ _=>zv3),?_⟩
 rw[z3z];simp)
theorem zqi {α:Type} {p:α->Bool}:∀ {l r:List α},z03 p l<l.length->z03 p (l++r)=z03 p l
 |[],r,h=>by simp at h
 | a::l,r,h=>by
   rw[List.cons_append]
   unfold z03 at h ⊢
   by_cases hp:p a=true
   . rw[if_pos hp,if_pos hp]
   . rw[if_neg hp]at h ⊢
     rw[if_neg hp,zqi (l:=l) (r:=r) (by simp at h;omega)]
theorem zn0 {α:Type} {p:α->Bool}:∀ {l r:List α},l.any p=false->z03 p (l++r)=l.length+z03 p r
 |[],r,_=>by simp
 | a::l,r,h=>by
   rw[List.any_cons,Bool.or_eq_false_iff]at h
   rw[List.cons_append]
   conv=>lhs;unfold z03
   rw[if_neg (by rw[h.1];simp),zn0 h.2,List.length_cons];omega
theorem z03t {l r:List z09} {t:z09} (h:t∈l):z8d (l++r) t=z8d l t:=by
 have h1:z03 (fun x=>decide (x=t)) l<l.length:=firstAt_any.mpr (by rw[zfa];simpa using h)
 unfold z8d
 rw[zqi h1,if_pos h1,if_pos (by rw[List.length_append];omega)]
theorem z03e {l r:List z09} {t:z09} (h:t∉l):z8d (l++[t]++r) t=l.length:=by
 have h0:l.any (fun x=>decide (x=t))=false:=by rw[zfa];simpa using h
 have h1:z03 (fun x=>decide (x=t)) (l++([t]++r))=l.length:=by
  rw[zn0 h0,List.cons_append]
  unfold z03
  rw[if_pos (by simp)];rfl
 unfold z8d
 rw[List.append_assoc,h1,if_pos (by simp)]
theorem z02w {d:z0k} {i:Int} {b:List Int}:∀ {l:List Int} {st:List z09×List Int} {q:List z09},l.foldl (valG ((l.foldl (hdG d i b) st).1++q) d i b) st.2=(l.foldl (hdG d i b) st).2/\∀ v∈l,zr5 d i b v∈(l.foldl (hdG d i b) st).1++q
 |[],st,q=>⟨rfl,by simp⟩
 | v::l,st,q=>by
   rw[List.foldl_cons,List.foldl_cons]
   obtain⟨h1,h2⟩:=z02w (d:=d) (i:=i) (b:=b) (l:=l) (st:=hdG d i b st v) (q:=q)
   obtain⟨r,hr⟩:=z00g (d:=d) (i:=i) (b:=b) (l:=l) (s:=hdG d i b st v)
   have key:valG ((l.foldl (hdG d i b) (hdG d i b st v)).1++q) d i b st.2 v=(hdG d i b st v).2/\zr5 d i b v∈(hdG d i b st v).1:=by
    rw[hr]
    unfold valG hdG
    by_cases hm:zr5 d i b v∈st.1
    . rw[if_pos hm]
      simp only
      rw[List.append_assoc,z03t hm]
      exact⟨rfl,hm⟩
    . rw[if_neg hm]
      simp only
      rw[List.append_assoc,z03e hm]
      exact⟨rfl,by simp⟩
   refine⟨by rw[key.1];exact h1,fun u hu=>?_⟩
   rcases List.mem_cons.mp hu with rfl|hu
   . rw[hr];exact List.mem_append_left _ (List.mem_append_left _ key.2)
   . exact h2 u hu
theorem z024 {d:z0k} {i:Int} {b:List Int}:∀ {l:List Int} {st:List z09×List Int},(l.foldl (hdG d i b) st).1.length<=st.1.length+l.length
 |[],st=>Nat.le_refl _
 | v::l,st=>by
   rw[List.foldl_cons]
   have h1:=z024 (d:=d) (i:=i) (b:=b) (l:=l) (st:=hdG d i b st v)
   have h2:=zv9 d i b st v
   rw[List.length_cons];omega
theorem z00t {s:TSk} {d:z0k} {i:Int} {b:List Int}:z2v (z2v s d i b) d i b=z2v s d i b:=by
 obtain⟨h1,h2⟩:=z02w (d:=d) (i:=i) (b:=b) (l:=exV d) (st:=(s.2.1,b)) (q:=[])
 rw[List.append_nil]at h1 h2
 have e:hdS (z2v s d i b).2.1 d i b=hdS s.2.1 d i b:=by
  show(exV d).foldl (hdG d i b) ((hdS s.2.1 d i b).1,b)=_
  rw[z05n (ts:=(hdS s.2.1 d i b).1) (l:=exV d) (vs:=b) (by exact h2)]
  exact Prod.ext rfl h1
 have e0:z2v (z2v s d i b) d i b=((s.1.1,(zyq ((z2v s d i b).1.2.1++z8n d (hdS (z2v s d i b).2.1 d i b).2),())),((hdS (z2v s d i b).2.1 d i b).1,())):=rfl
 rw[e0,e]
 have e2:zyq ((z2v s d i b).1.2.1++z8n d (hdS s.2.1 d i b).2)=zyq (s.1.2.1++z8n d (hdS s.2.1 d i b).2):=by
  refine(z00d (zvk _) fun y=>?_).symm
  rw[facS_mem]
  show _↔y∈zyq (s.1.2.1++z8n d (hdS s.2.1 d i b).2)++z8n d (hdS s.2.1 d i b).2
  rw[List.mem_append,List.mem_append,facS_mem,List.mem_append]
  constructor
  . intro h;exact .inl h
  . rintro (h|h)
    . exact h
    . exact .inr h
 rw[e2]
 rfl
theorem z06g {s:TSk} {ds:List z0k} {i:Nat} {b:List Int} (h:(apS s ds i b).2=true):∃ hi:i<ds.length,FireOk s ds ds[i] i b/\vSk (z2v s ds[i] i b)=true/\apS s ds i b=(z2v s ds[i] i b,true):=by
 unfold apS at h ⊢
 split at h
 . next hc=>
   rw[if_pos hc]
   simp only[Bool.and_eq_true,decide_eq_true_eq]at hc
   obtain⟨h1,h2,hi,h4,h6⟩:=hc
   have eg:ds.getD i zdm=ds[i]:=z71 hi
   rw[eg]at h4 h6 ⊢
   obtain⟨b5,tB,tF⟩:=zox h4
   exact⟨hi,⟨h1,h2,List.getElem?_eq_getElem hi,b5,tB,tF⟩,h6,rfl⟩
 . cases h
theorem z0ds {s:TSk} {ds:List z0k} {i:Nat} {b:List Int} (h:(apS s ds i b).2=false):apS s ds i b=(s,false):=by
 unfold apS at h ⊢
 split at h
 . cases h
 . next hc=>rw[if_neg hc]
theorem z01v {s:TSk} {ds:List z0k} {d:z0k} {i:Nat} {b:List Int} (h:FireOk s ds d i b):apS s ds i b=(if vSk (z2v s d i b)then z2v s d i b else s,vSk (z2v s d i b)):=by
 have hil:=h.lt.1
 have hdi:ds.getD i zdm=d:=by
  have:=h.at_
  rw[List.getElem?_eq_getElem hil]at this
  rw[z71 hil];exact Option.some.inj this
 have htr:z78 s.1 d b=true:=by unfold z78;rw[(zbw h.sk).1,(z8c h.pl h.lt.2).1,h.tB,h.tF,h.b5];rfl
 unfold apS
 rw[hdi,h.sk,h.pl,decide_eq_true hil,htr]
 cases vSk (z2v s d i b)<;>rfl
theorem z06n {s:TSk} {ds:List z0k} {i:Nat} {b:List Int} (h:(apS s ds i b).2=true):apS (apS s ds i b).1 ds i b=((apS s ds i b).1,true):=by
 obtain⟨hi,hf,hv,e⟩:=z06g h
 rw[e]
 have hf2:FireOk (z2v s ds[i] i b) ds ds[i] i b:=⟨hv,hf.pl,hf.at_,hf.b5,hf.tB,z055 (fun f hm=>facS_mem.mpr (List.mem_append_left _ hm)) hf.tF⟩
 rw[z01v hf2,z00t,hv];rfl
theorem zgv {s:TSk} {ds:List z0k} {i:Nat} {b:List Int} (hsm:SmS s):z81 s ds i b (apS s ds i b).1 (apS s ds i b).2:=by
 by_cases hc:(vSk s&&(zcl s.1.1 ds&&(decide (i<ds.length)&&z78 s.1 (ds.getD i zdm) b)))=true
 . simp only[Bool.and_eq_true,decide_eq_true_eq]at hc
   obtain⟨h1,h2,hi,h4⟩:=hc
   have eg:ds.getD i zdm=ds[i]:=z71 hi
   rw[eg]at h4
   obtain⟨b5,tB,tF⟩:=zox h4
   have hf:FireOk s ds ds[i] i b:=⟨h1,h2,List.getElem?_eq_getElem hi,b5,tB,tF⟩
   rw[z01v hf]
   exact zs1 hf
 . refine zjc _ _ _ _ _ _ ?_
   have e:apS s ds i b=(s,false):=by
    refine z0br ?_
    cases h:(vSk s&&(zcl s.1.1 ds&&(decide (i<ds.length)&&(z78 s.1 (ds.getD i zdm) b&&vSk (z2v s (ds.getD i zdm) i b)))))with
    |false=>rfl
    | true=>
      simp only[Bool.and_eq_true,decide_eq_true_eq]at h hc
      exact absurd ⟨h.1,h.2.1,h.2.2.1,h.2.2.2.1⟩ hc
   rw[e]
   have hcp:z3f s s:=ze2 hsm
   unfold zdu
   refine⟨_,z3h,z0q (fun _=>⟨s,hcp,rfl⟩) (fun h1=>⟨_,zqw,z0q (fun _=>⟨s,hcp,rfl⟩) (fun h2=>z0l fun _=>?_)⟩)⟩
   have h5:=(zxg h2).1
   rw[z0w (by omega) (by omega)]
   refine⟨_,z54,z0q (fun _=>⟨s,hcp,rfl⟩) (fun h3=>?_)⟩
   have hi:i<ds.length:=by have:=inR_iff.mp h3;omega
   refine inI hi ⟨_,znd,z0q (fun _=>⟨s,hcp,rfl⟩) (fun h4=>?_)⟩
   rw[Int.toNat_natCast]at h4
   exact absurd (by rw[h1,h2,decide_eq_true hi,h4];rfl) hc
theorem z0fg {c:Src} {x:z0c} {ats:List z00} (h:Oks c):∃ b z,zds c x ats b z/\Oks z:=by
 have hs:z8a c x ats (fun q=>Oks q.2.1):=by
  unfold z8a
  have hfl:=zvz (x:=x) (l:=ats)
  have cond:∀ {v:Int},0<=v/\v<12->w64 ((5:Int) - w64 (Int.tdiv v 11))=5 - v / 11/\0<=v / 11/\v / 11<=1:=fun {v} hv=>by
   rw[Int.tdiv_eq_ediv_of_nonneg hv.1]
   have h1:0<=v / 11/\v / 11<=1:=by omega
   rw[z0w (n:=v / 11) (by omega) (by omega),z0w (by omega) (by omega)]
   exact⟨rfl,h1⟩
  refine⟨_,zj0,z0l fun _=>z0b (fun hp=>?_) (fun _=>?_)⟩
  . obtain⟨o,c1,k1,hc1⟩:=zpr h (n:=4) (by decide) (by decide)
    refine⟨o,c1,k1,z0q (fun _=>z0l fun _=>?_) (fun _=>?_)⟩
    . obtain⟨u,c2,k2,hu,hc2⟩:=z02t hc1 (n:=((zxk x ats).length:Int)) (by omega) (by omega)
      exact⟨u,c2,k2,⟨hu.1,hu.2⟩,hc2⟩
    . refine z0v (fun k a=>∃(l:List Int) (c:Src),a=(l,(c,()))/\Oks c/\l.length+k=5) ?_ ?_ (n:=5) ⟨[],c1,rfl,hc1,rfl⟩
      . rintro a ⟨l,c,rfl,hc,hl⟩ X
        obtain⟨v,c2,k2,hv,hc2⟩:=z1x hc (n:=12) (by decide) (by decide)
        obtain⟨e1,e2,e3⟩:=cond hv
        refine z0l fun _=>⟨v,c2,k2,by decide,?_⟩
        rw[e1]
        exact z0b (fun h=>by simp only at h;omega) (fun _=>hc2)
      . rintro k a ⟨l,c,rfl,hc,hl⟩ X hX
        obtain⟨v,c2,k2,hv,hc2⟩:=z1x hc (n:=12) (by decide) (by decide)
        obtain⟨e1,e2,e3⟩:=cond hv
        obtain⟨y,c3,k3,hc3⟩:=zph hc2 (l:=[10,10,0,1,2,-1,-2]) (by decide) (by decide)
        refine z0l fun _=>⟨v,c2,k2,by decide,?_⟩
        rw[e1]
        exact z0b (fun _=>⟨y,c3,k3,by simp only[z0t,List.length_cons,List.length_nil];omega,hX _ ⟨l++[y],c3,rfl,hc3,by rw[List.length_append];simp;omega⟩⟩) (fun _=>hc2)
  . refine z0v (fun k a=>∃(l:List Int) (c:Src),a=(l,(c,()))/\Oks c/\l.length+k=5) ?_ ?_ (n:=5) ⟨[],c,rfl,h,rfl⟩
    . rintro a ⟨l,c,rfl,hc,hl⟩ X
      obtain⟨v,c2,k2,hv,hc2⟩:=z1x hc (n:=12) (by decide) (by decide)
      obtain⟨e1,e2,e3⟩:=cond hv
      refine z0l fun _=>⟨v,c2,k2,by decide,?_⟩
      rw[e1]
      exact z0b (fun h=>by simp only at h;omega) (fun _=>hc2)
    . rintro k a ⟨l,c,rfl,hc,hl⟩ X hX
      obtain⟨v,c2,k2,hv,hc2⟩:=z1x hc (n:=12) (by decide) (by decide)
      obtain⟨e1,e2,e3⟩:=cond hv
      obtain⟨y,c3,k3,hc3⟩:=zph hc2 (l:=[10,10,0,1,2,-1,-2]) (by decide) (by decide)
      refine z0l fun _=>⟨v,c2,k2,by decide,?_⟩
      rw[e1]
      exact z0b (fun _=>⟨y,c3,k3,by simp only[z0t,List.length_cons,List.length_nil];omega,hX _ ⟨l++[y],c3,rfl,hc3,by rw[List.length_append];simp;omega⟩⟩) (fun _=>hc2)
 obtain⟨⟨y,z,_⟩,hq,hv⟩:=zjy (S:=z8a c x ats) hs ⟨(([]:List Int),(c,())),h⟩ fun hi=>by
  unfold z8a
  repeat' first|exact rk|apply_assumption|refine rb ?_ ?_|refine rl hi ?_|refine ra ?_|(refine rp ?_;intro _ _ _ _)|(refine re ?_;intro _)
 exact⟨y,z,zs4 _ _ _ _ _ hv,hq⟩
theorem law {x0:List Int} (_:Bnd (.sl 5 (.int .u8)) x0):zgx x0 true:=zpj _ _ (by
 unfold zgr
 refine⟨_,z0et,z0b (fun _=>rfl) (fun hb=>?_)⟩
 have hlen:x0.length<=1048576:=by omega
 obtain⟨c,s,ds,gb,hc,hS,h4,hd⟩:=z094 hlen
 have htl:=hS.terms
 obtain⟨v,c1,g1,_,_⟩:=z013 hc (n:=(s.2.1.length:Int)+1) (by omega)
 obtain⟨i,b,gd⟩:∃(i:Nat) (b:List Int),z9p x0 s ds i b:=by
  by_cases h0:ds.length=0
  . exact⟨0,[10,10,10,10,10],zd9 _ _ _ _ _ ⟨c,s,ds,gb,z0l fun _=>z4m (fun _=>⟨_,zp0,rfl⟩) (fun h=>absurd (by omega) h)⟩⟩
  . obtain⟨u,c2,k2,hu,hc2⟩:=z1x hc (n:=(ds.length:Int)) (by omega) (by omega)
    obtain⟨i,rfl⟩:∃ i:Nat,u=(i:Int):=⟨u.toNat,by omega⟩
    obtain⟨b,c3,k3,_⟩:=z0fg (x:=s.1) (ats:=(ds.getD (Int.toNat (i:Int)) zdm).1) hc2
    exact⟨i,b,zd9 _ _ _ _ _ ⟨c,s,ds,gb,z0l fun _=>z4m (fun h=>absurd h (by omega)) (fun _=>z0l fun _=>⟨_,c2,k2,⟨hu.1,hu.2⟩,b,c3,k3,rfl⟩)⟩⟩
 refine⟨s,ds,i,b,gd,_,_,zgv hS.sm,_,_,zjo hS.sm,z0ff (fun h=>absurd rfl h) fun _=>⟨_,za9,z0dd (fun h=>absurd rfl h) fun _=>z0l fun _=>z0l fun _=>zby (fun h=>absurd rfl h) fun _=>?_⟩⟩
 refine⟨s,ds,v,zej _ _ _ _ ⟨c,s,ds,gb,z0l fun _=>⟨v,c1,?_,rfl⟩⟩,_,ziq,_,zis,z0ff (fun h=>absurd rfl h) fun _=>z0q (fun hno=>?_) (fun hyes=>?_)⟩
 . rw[z0w (by omega) (by omega)];exact g1
 . rw[z0ds hno]
   exact⟨_,za9,by rw[decide_eq_true rfl]⟩
 . have htw:=z06n hyes
   obtain⟨hi,hf,hv,e⟩:=z06g hyes
   have hsm:SmS (apS s ds i b).1:=by rw[e];exact SmS.of hv
   have g2:=zgv (s:=(apS s ds i b).1) (ds:=ds) (i:=i) (b:=b) hsm
   rw[htw]at g2
   rw[e]at g2 ⊢
   simp only at g2 ⊢
   have hx:=zb4 (zbw hv).1
   have ht:=(zbw hv).2
   have hsub:(s.1.2.1.all fun f=>decide (f∈(z2v s ds[i] i b).1.2.1))=true:=List.all_eq_true.mpr fun f hm=>decide_eq_true (facS_mem.mpr (List.mem_append_left _ hm))
   refine⟨_,_,g2,bcT ⟨_,za9,?_⟩⟩
   rw[decide_eq_true rfl]
   refine bcT (z0l fun _=>z0l fun _=>z4m (fun _=>⟨_,z3h,?_⟩) (fun h=>absurd rfl h))
   rw[show vSk (((z2v s ds[i] i b).1.1,((z2v s ds[i] i b).1.2.1,(z2v s ds[i] i b).1.2.2)),((z2v s ds[i] i b).2.1,(z2v s ds[i] i b).2.2))=true from hv]
   refine bcT ⟨_,zz1,?_⟩
   rw[show(s.1.2.1.all fun f=>decide (f∈((((z2v s ds[i] i b).1.1,((z2v s ds[i] i b).1.2.1,(z2v s ds[i] i b).1.2.2))):z0c).2.1))=true from hsub]
   have hD:=hd ds[i] (List.getElem_mem hi)
   have f1:=hD.2.2.1.flat
   have f2:=hD.2.2.2.flat
   have q1:=hD.1.2
   have q2:=hD.2.1
   refine bcT (inI hi (z0l fun _=>z0l fun _=>⟨_,by rw[z2o hi];exact z5r (by omega) (by omega),z0l fun _=>?_⟩))
   have hm:(z2v s ds[i] i b).2.1.length<=s.2.1.length+(exV ds[i]).length:=z024 (d:=ds[i]) (i:=i) (b:=b) (l:=exV ds[i]) (st:=(s.2.1,b))
   have hm2:(z2v (s.1,(s.2.1,s.2.2)) ds[i] i b).2.1.length<=s.2.1.length+(exV ds[i]).length:=hm
   have he:=z06b (z8c hf.pl (List.getElem_mem hi)).1
   rw[z0w (by omega) (by omega),decide_eq_true (by omega)])
end Go.V

