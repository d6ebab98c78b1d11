/-
  A part is lent and comes back behind the same header.
-/
import Derived.Test.YtfjdciagpcgpkaaGreatDoorVA
import Derived.Test.YtfjdciagpcgpkaaGreatDoorVB
set_option linter.unusedVariables false
set_option linter.unusedSimpArgs false
namespace Go.V
open Go
theorem perm_mid {x y r:List Nat} {l:List Nat} (h:y.Perm (x++r)):(l++y).Perm (x++(l++r)):=by
 refine(h.append_left l).trans ?_
 rw[←List.append_assoc,←List.append_assoc]
 exact List.Perm.append_right _ List.perm_append_comm
theorem Rep.part {w:World} {fz:Nat→Prop}:∀ {p:List Step} {s:Sh} {o:O} {x:s.den} {cs bs} {s':Sh} {x':s'.den} {o':O},
  Rep w fz s o x cs bs→InB s x p→getP s x p=some ⟨s',x'⟩→oP o p=some o'→
  ∃ cs' bs' rest,cellsP w s cs p=some cs'∧Rep w fz s' o' x' cs' bs'∧bs.Perm (bs'++rest)∧
   ∀(w1:World) (fz1:Nat→Prop) (x2:s'.den) (bs2:List Nat),(∀ b,fz b→fz1 b∧w1.heap[b]? = w.heap[b]?)→(∀ b∈rest,w1.heap[b]? = w.heap[b]?)→Rep w1 fz1 s' o' x2 cs' bs2→
    ∃ x3 bsn,setP s x p ⟨s',x2⟩=some x3∧Rep w1 fz1 s o x3 cs bsn∧bsn.Perm (bs2++rest):=by
 intro p
 induction p with
 | nil=>
   intro s o x cs bs s' x' o' h _ hg ho
   have hg':(⟨s,x⟩:TV)=⟨s',x'⟩:=by cases s<;>simpa [getP]using hg
   have ho':o=o':=by cases o<;>simpa [oP]using ho
   cases hg'
   subst ho'
   refine⟨cs,bs,[],by cases s<;>rfl,h,by simp,fun w1 fz1 x2 bs2 _ _ hr=>⟨x2,bs2,?_,hr,by simp⟩⟩
   cases s<;>simp[setP,castD_self]
 | cons q p ih=>
   intro s o x cs bs s' x' o' h hin hg ho
   cases q with
   | f=>
     cases s<;>try (simp[getP]at hg;done)
     rename_i a b
     have hd:o≠.dead:=by rintro rfl;simp[oP]at ho
     obtain⟨oa,ob,c1,c2,b1,b2,hoo,rfl,rfl,h1,h2⟩:=h.pair hd
     have hoa:oP oa p=some o':=by rcases hoo with⟨rfl,rfl,rfl⟩|rfl<;>simpa [oP]using ho
     obtain⟨cs',bs',rest,e1,e2,e3,e4⟩:=ih h1 hin hg hoa
     refine⟨cs',bs',rest++b2,by simp only[cellsP];rw[List.take_left' h1.len];exact e1,e2,by rw[←List.append_assoc];exact e3.append_right b2,fun w1 fz1 x2 bs2 hf hr hp=>?_⟩
     obtain⟨x3,bsn,g1,g2,g3⟩:=e4 w1 fz1 x2 bs2 hf (fun i hi=>hr i (by simp[hi])) hp
     have h2':=h2.stable hf fun i hi=>hr i (by simp[hi])
     refine⟨(x3,x.2),bsn++b2,by simp only[setP,g1];rfl,?_,by rw[←List.append_assoc];exact g3.append_right b2⟩
     rcases hoo with⟨rfl,rfl,rfl⟩|rfl
     · have e1:=g2.z_nil;have e2:=h2'.z_nil;subst e1;subst e2
       exact⟨c1,c2,rfl,rfl,g2,h2'⟩
     · exact⟨c1,c2,bsn,b2,rfl,rfl,g2,h2'⟩
   | s=>
     cases s<;>try (simp[getP]at hg;done)
     rename_i a b
     have hd:o≠.dead:=by rintro rfl;simp[oP]at ho
     obtain⟨oa,ob,c1,c2,b1,b2,hoo,rfl,rfl,h1,h2⟩:=h.pair hd
     have hob:oP ob p=some o':=by rcases hoo with⟨rfl,rfl,rfl⟩|rfl<;>simpa [oP]using ho
     obtain⟨cs',bs',rest,e1,e2,e3,e4⟩:=ih h2 hin hg hob
     refine⟨cs',bs',b1++rest,by simp only[cellsP];rw[List.drop_left' h1.len];exact e1,e2,perm_mid e3,fun w1 fz1 x2 bs2 hf hr hp=>?_⟩
     obtain⟨x3,bsn,g1,g2,g3⟩:=e4 w1 fz1 x2 bs2 hf (fun i hi=>hr i (by simp[hi])) hp
     have h1':=h1.stable hf fun i hi=>hr i (by simp[hi])
     refine⟨(x.1,x3),b1++bsn,by simp only[setP,g1];rfl,?_,perm_mid g3⟩
     rcases hoo with⟨rfl,rfl,rfl⟩|rfl
     · have e1:=g2.z_nil;have e2:=h1'.z_nil;subst e1;subst e2
       exact⟨c1,c2,rfl,rfl,h1',g2⟩
     · exact⟨c1,c2,b1,bsn,rfl,rfl,h1',g2⟩
   | i n=>
     cases s<;>try (simp[getP]at hg;done)
     rename_i e a
     obtain⟨hn,hin⟩:=hin
     cases o with
     | z=>
       obtain⟨A,cap,es,rfl,rfl,h2,h3,h4,h5⟩:=h
       rcases h5 with rfl|⟨b,off,rfl,hz,hc⟩
       · simp at hn
       · have hlen:=h4.len fun _ _ _ hr=>hr.len
         obtain⟨f1,cn,f2,d1,bn,d2,rfl,hnil,k1,k2,k3⟩:=h4.split a.zv hn fun _ _ _ hr=>hr.len
         obtain⟨hx1,rfl⟩:=List.append_eq_nil_iff.mp hnil.symm
         obtain⟨rfl,rfl⟩:=List.append_eq_nil_iff.mp hx1
         have hcn:=k2.len
         obtain⟨cs',bs',rest,e1,e2,e3,e4⟩:=ih k2 hin hg (by simpa [oP]using ho)
         obtain⟨rfl,rfl⟩:=List.append_eq_nil_iff.mp (List.nil_perm.mp e3)
         have hread:readC w b (off+n * a.size) a.size=some cn:=by
          rw[hc.read (by rw[hlen];calc n * a.size+a.size=(n+1) * a.size:=by rw[Nat.add_mul];omega
           _≤_:=Nat.mul_le_mul_right _ hn)]
          rw[←k1,List.append_assoc,List.drop_left,←hcn,List.take_left]
         refine⟨cs',[],[],by simp only[cellsP,hread];exact e1,e2,by simp,fun w1 fz1 x2 bs2 hf hr hp=>?_⟩
         obtain⟨x3,bsn,g1,g2,g3⟩:=e4 w1 fz1 x2 bs2 hf (fun i hi=>by simp at hi) hp
         have hbn:=g2.z_nil
         subst hbn
         refine⟨List.set x n x3,[],by simp only[setP,g1];rfl,?_,g3⟩
         have hk:=k3 (Rep w1 fz1 a .z) x3 cn [] g2 fun z c b hb hr=>hr.stable hf fun i hi=>by have:=hb i hi;simp at this
         exact⟨_,cap,_,by rw[show List.length (List.set x n x3)=List.length x from lset _ _ _],rfl,by rw[show List.length (List.set x n x3)=List.length x from lset _ _ _];exact h2,h3,by simpa using hk,.inr ⟨b,off,rfl,(hf b hz).1,hc.stable (hf b hz).2⟩⟩
     | own oa=>
       obtain⟨v,es,ebs,rfl,h1,h2⟩:=h
       rcases h2 with⟨_,rfl,_⟩|⟨g0,cap,cur0,rfl,h3,h4,h5,h6,h7,rfl⟩
       · simp at hn
       · obtain⟨f1,cn,f2,d1,bn,d2,rfl,rfl,k1,k2,k3⟩:=h1.split a.zv hn fun _ _ _ hr=>hr.len
         have hcn:=k2.len
         obtain⟨cs',bs',rest,e1,e2,e3,e4⟩:=ih k2 hin hg (by simpa [oP]using ho)
         have hle:n * a.size+a.size≤List.length x * a.size:=by
          calc n * a.size+a.size=(n+1) * a.size:=by rw[Nat.add_mul];omega
           _≤_:=Nat.mul_le_mul_right _ hn
         have hsz:List.length x * a.size≤cur0.size:=by rw[h6];exact Nat.mul_le_mul_right _ h4
         have hread:readC w g0 (0+n * a.size) a.size=some cn:=by
          rw[readC_of h3 (by omega)]
          congr 1
          have:(cur0.toList.drop (0+n * a.size)).take a.size=((f1++cn++f2).drop (n * a.size)).take a.size:=by
           rw[←h7,List.drop_take,List.take_take,Nat.min_eq_left (by omega),Nat.zero_add]
          rw[this,←k1,List.append_assoc,List.drop_left,←hcn,List.take_left]
         have perm:∀ {y z:List Nat},y.Perm (z++rest)→(g0::(d1++y++d2)).Perm (z++(g0::(d1++rest++d2))):=by
          intro y z hp
          refine(List.Perm.cons g0 ((hp.append_left d1).append_right d2)).trans ?_
          refine .trans ?_ List.perm_middle.symm
          refine List.Perm.cons _ ?_
          simp only[List.append_assoc]
          rw[←List.append_assoc,←List.append_assoc z]
          exact List.Perm.append_right _ List.perm_append_comm
         refine⟨cs',bs',g0::(d1++rest++d2),by simp only[cellsP,hread];exact e1,e2,perm e3,fun w1 fz1 x2 bs2 hf hr hp=>?_⟩
         obtain⟨x3,bsn,g1,g2,g3⟩:=e4 w1 fz1 x2 bs2 hf (fun i hi=>hr i (by simp[hi])) hp
         refine⟨List.set x n x3,g0::(d1++bsn++d2),by simp only[setP,g1];rfl,?_,perm g3⟩
         refine⟨_,f1++cn++f2,_,rfl,k3 _ x3 cn bsn g2 fun z c b hb hr'=>hr'.stable hf fun i hi=>hr i (by have:=hb i hi;simp;rcases this with h|h<;>simp[h]),
          .inr ⟨g0,cap,cur0,by rw[show List.length (List.set x n x3)=List.length x from lset _ _ _],by rw[hr g0 (by simp),h3],by rw[show List.length (List.set x n x3)=List.length x from lset _ _ _];exact h4,h5,h6,by rw[show List.length (List.set x n x3)=List.length x from lset _ _ _];exact h7,rfl⟩⟩
     |dead=>simp[oP]at ho
     |pr _ _=>exact h.elim
end Go.V
namespace Go.V
open Go
structure Back where
 k:Nat
 r:Root
 q:RC
section
variable {P:Program} {C s:St} {X:Fr} {w0 w:World} {a:Act} {rc:Nat→RC}
def oldB (C s:St) (rc:Nat→RC) (k:Nat):List Nat:=match getR C s k with
 |some r=>blocks r (rc k)
 |none=>[]
structure PutBack (C s:St) (rc:Nat→RC) (w1:World) (fz1:Nat→Prop) (st st1:St) (ups:List Back):Prop where
 roots:st1.roots=ups.foldl (fun l e=>upd e.k e.r l) st.roots
 tmps:st1.tmps.Sublist st.tmps
 each:∀ e∈ups,RootOk w1 fz1 e.r e.q∧∃ r,getR C s e.k=some r∧e.r.s=r.s∧e.r.box=r.box∧e.q.blk=(rc e.k).blk∧
  ((∀ t v,(t,v)∈st1.tmps++C.tmps→refs false e.k v=false)∨
    (e.q.cs=(rc e.k).cs∧(∀ t v,(t,v)∈st1.tmps++C.tmps→∀ p,refsAt e.k p v→inner p=false)∧
     ∀ q e' a',inner q=false→shP r.s q=some (.sl e' a')→(∃ x,oP r.o q=some x)→∃ x,oP e.r.o q=some x))
 inn:∀ e∈ups,e.r.inn=true→∃ r,getR C s e.k=some r∧r.inn=true∧r.box=e.r.box∧(e.r.box=false→e.q.cs=(rc e.k).cs)
 csx:∀ e∈ups,e.r.box=false→e.q.cs=(rc e.k).cs
structure Lent (C s:St) (rc:Nat→RC) (w:World) (fz fzc:Nat→Prop) (o:O) (v:Val) (u:OV) (cells:List Value) (ls kept:List Nat):Prop where
 rep:Rep w fzc u.s u.o u.x cells ls
 own:∀ k∈lentK o v,(∃ r,getR C s k=some r)∧look k C.roots=none
 perm:((lentK o v).flatMap (oldB C s rc)).Perm (ls++kept)
 back:∀(w1:World) (fz1:Nat→Prop) (out:OV) (l2:List Nat) (st st1:St),out.s=u.s→(∀ b,fz b→fz1 b∧w1.heap[b]? = w.heap[b]?)→(∀ b∈kept,w1.heap[b]? = w.heap[b]?)→
  Rep w1 fz1 out.s out.o out.x cells l2→(∀ k∈lentK o v,getR C st k=getR C s k)→giveBack C st o out v=some st1→
  ∃ ups:List Back,∃ drop:List Nat,ups.map (·.k)=lentK o v∧PutBack C s rc w1 fz1 st st1 ups∧((ups.flatMap fun e=>blocks e.r e.q)++drop).Perm (l2++kept)
theorem oP_setO_sl:∀ {p p':List Step} {s:Sh} {o o1 o2:O} {e e':TypeId} {a a':Sh},inner p=false→shP s p=some (.sl e a)→inner p'=false→shP s p'=some (.sl e' a')→setO o p o2=some o1→(∃ x,oP o p'=some x)→∃ x,oP o1 p'=some x:=by
 intro p
 have prf:∀ {x y:O} {p':List Step},(∃ o',oP x p'=some o')→∃ o',oP (prz x y) (.f::p')=some o':=by
  intro x y p' h
  cases x<;>cases y<;>first|exact h|exact⟨_,oP_zz⟩
 have prs:∀ {x y:O} {p':List Step},(∃ o',oP y p'=some o')→∃ o',oP (prz x y) (.s::p')=some o':=by
  intro x y p' h
  cases x<;>cases y<;>first|exact h|exact⟨_,oP_zz⟩
 induction p with
 | nil=>
   intro p' s o o1 o2 e e' a a' _ h1 h2 h3 _ _
   have:s = .sl e a:=by cases s<;>(simp[shP]at h1;try (obtain⟨x1,x2⟩:=h1;subst x1;subst x2;rfl))
   subst this
   cases p' with
   |nil=>exact⟨o1,by cases o1<;>rfl⟩
   |cons q p'=>cases q<;>first|(simp[shP]at h3;done)|(simp[inner]at h2)
 | cons q p ih=>
   intro p' s o o1 o2 e e' a a' hi h1 h2 h3 h4 h5
   cases q with
   |i n=>simp[inner]at hi
   | f=>
     cases s<;>try (simp[shP]at h1;done)
     have hi':inner p=false:=by simpa [inner]using hi
     cases p' with
     |nil=>simp[shP]at h3
     | cons q' p'=>
       cases o<;>try (simp[setO]at h4;done)
       · simp only[setO,Option.map_eq_some_iff]at h4
         obtain⟨y,hy,rfl⟩:=h4
         cases q' with
         |f=>exact prf (ih hi' h1 (by simpa [inner]using h2) h3 hy ⟨_,oP_zz⟩)
         |s=>exact prs ⟨_,oP_zz⟩
         |i n=>simp[shP]at h3
       · simp only[setO,Option.map_eq_some_iff]at h4
         obtain⟨y,hy,rfl⟩:=h4
         cases q' with
         |f=>exact prf (ih hi' h1 (by simpa [inner]using h2) h3 hy h5)
         |s=>exact prs h5
         |i n=>simp[shP]at h3
   | s=>
     cases s<;>try (simp[shP]at h1;done)
     have hi':inner p=false:=by simpa [inner]using hi
     cases p' with
     |nil=>simp[shP]at h3
     | cons q' p'=>
       cases o<;>try (simp[setO]at h4;done)
       · simp only[setO,Option.map_eq_some_iff]at h4
         obtain⟨y,hy,rfl⟩:=h4
         cases q' with
         |s=>exact prs (ih hi' h1 (by simpa [inner]using h2) h3 hy ⟨_,oP_zz⟩)
         |f=>exact prf ⟨_,oP_zz⟩
         |i n=>simp[shP]at h3
       · simp only[setO,Option.map_eq_some_iff]at h4
         obtain⟨y,hy,rfl⟩:=h4
         cases q' with
         |s=>exact prs (ih hi' h1 (by simpa [inner]using h2) h3 hy h5)
         |f=>exact prf h5
         |i n=>simp[shP]at h3
theorem reRoot_eq {k:Nat} {r:Root} {s1:St} (h:reRoot C s k r=some s1):look k C.roots=none∧anyRef false k C.tmps=false∧s1=⟨killT false k s.tmps,upd k r s.roots⟩:=by
 unfold reRoot at h
 split at h
 · rename_i h1 h2;cases h;exact⟨h1,h2,rfl⟩
 · simp at h
theorem Rep.lendP {fz:Nat→Prop} {p:List Step} {sh:Sh} {o:O} {x:sh.den} {cs bs} {s':Sh} {x':s'.den} {o':O}
  (h:Rep w fz sh o x cs bs) (hin:InB sh x p) (hg:getP sh x p=some ⟨s',x'⟩) (ho:oP o p=some o') :
  ∃ cs' bs' rest,cellsP w sh cs p=some cs'∧Rep w fz s' o' x' cs' bs'∧bs.Perm (bs'++rest)∧
   ∀(w1:World) (fz1:Nat→Prop) (oo:O) (x2:s'.den) (bs2:List Nat) (o2:O),backO o p oo=some o2→(∀ b,fz b→fz1 b∧w1.heap[b]? = w.heap[b]?)→(∀ b∈rest,w1.heap[b]? = w.heap[b]?)→Rep w1 fz1 s' oo x2 cs' bs2→
    ∃ x3 bsn,setP sh x p ⟨s',x2⟩=some x3∧Rep w1 fz1 sh o2 x3 cs bsn∧bsn.Perm (bs2++rest):=by
 have hback:∀ {oo o2:O},backO o p oo=some o2→(oo=o'∧o2=o)∨setO o p oo=some o2:=by
  intro oo o2 hb
  unfold backO at hb
  rw[ho]at hb
  simp only at hb
  split at hb
  · rename_i e _;exact .inl ⟨e.symm,(Option.some.inj hb).symm⟩
  · exact .inr hb
 cases hi:inner p with
 | false=>
   obtain⟨off,cs',bs',rest,e1,e2,e3,e4,e5,e6,e7⟩:=h.setField hi hg ho
   have hl:=e5.len
   refine⟨cs',bs',rest,e2,e5,e6,fun w1 fz1 oo x2 bs2 o2 hb hf hr hp=>?_⟩
   rcases hback hb with⟨rfl,rfl⟩|hs
   · obtain⟨o3,k1,k2⟩:=setO_same hi hg ho
     obtain⟨x3,bsn,g1,g2,g3⟩:=e7 w1 fz1 oo x2 cs' bs2 o3 hf hr hp k1
     rw[repl_self (by rw[hl];exact e4) (by rw[hl];exact e3)]at g2
     exact⟨x3,bsn,g1,k2 _ _ _ _ _ g2,g3⟩
   · obtain⟨x3,bsn,g1,g2,g3⟩:=e7 w1 fz1 oo x2 cs' bs2 o2 hf hr hp hs
     rw[repl_self (by rw[hl];exact e4) (by rw[hl];exact e3)]at g2
     exact⟨x3,bsn,g1,g2,g3⟩
 | true=>
   obtain⟨cs',bs',rest,e1,e2,e3,e4⟩:=h.part hin hg ho
   refine⟨cs',bs',rest,e1,e2,e3,fun w1 fz1 oo x2 bs2 o2 hb hf hr hp=>?_⟩
   rcases hback hb with⟨rfl,rfl⟩|hs
   · exact e4 w1 fz1 x2 bs2 hf hr hp
   · rw[setO_inner hs]at hi;simp at hi
theorem backO_oP {p:List Step} {sh:Sh} {o o' oo o2:O} {e:TypeId} {sa:Sh} (ho:oP o p=some o') (hs:shP sh p=some (.sl e sa)) (hb:backO o p oo=some o2) :
  ∀ q e' a',inner q=false→shP sh q=some (.sl e' a')→(∃ x,oP o q=some x)→∃ x,oP o2 q=some x:=by
 intro q e' a' hq hq2 hx
 unfold backO at hb
 rw[ho]at hb
 simp only at hb
 split at hb
 · cases hb;exact hx
 · exact oP_setO_sl (setO_inner hb) hs hq hq2 hb hx
theorem lent_own (h:Rel rc [] C s X w0 a w) {fzc:Nat→Prop} (hfc:∀ b,fzOf X w ([]++allB rc (s.roots++C.roots)) b→fzc b) {o:O} {key:Nat} {p:List Step} {u:OV} {cells:List Value}
  (hv:VCells w (fzOf X w ([]++allB rc (s.roots++C.roots))) (getR C s) rc (.own key p) cells) (ho:o≠.z) (hl:lend C s o (.own key p)=some u) :
  (∃ ls kept,Lent C s rc w (fzOf X w ([]++allB rc (s.roots++C.roots))) fzc o (.own key p) u cells ls kept)∧∃ e sa,u.s = .sl e sa:=by
 have hl':(match getR C s key,look key C.roots with
  | some r,none=>match oP r.o p,getP r.s r.x p with
    | some o',some ⟨sh,x⟩=>match decEq o' o,inner p with
      |.isTrue _,_=>some (⟨sh,o,x⟩:OV)
      |_,_=>none
    |_,_=>none
  |_,_=>none)=some u:=by
  cases o<;>first|exact absurd rfl ho|exact hl
 clear hl
 cases hr:getR C s key with
 |none=>rw[hr]at hl';simp at hl'
 | some r=>
   cases hC:look key C.roots with
   |some _=>rw[hr,hC]at hl';simp at hl'
   | none=>
     rw[hr,hC]at hl'
     simp only at hl'
     cases hoo:oP r.o p with
     |none=>rw[hoo]at hl';simp at hl'
     | some o'=>
       cases hg:getP r.s r.x p with
       |none=>rw[hoo,hg]at hl';simp at hl'
       | some tv=>
         obtain⟨sh,x⟩:=tv
         rw[hoo,hg]at hl'
         simp only at hl'
         cases hd:decEq o' o with
         |isFalse _=>rw[hd]at hl';simp at hl'
         | isTrue e=>
           rw[hd]at hl'
           simp only[Option.some.injEq]at hl'
           subst hl'
           subst e
           obtain⟨hin,_,hc,et,sa,hsl⟩:=hv r hr
           have hok:=h.root hr
           have hsh:=getP_shP hg
           rw[hsl]at hsh;cases hsh
           obtain⟨cs',bs',rest,e1,e2,e3,e4⟩:=hok.1.lendP hin hg hoo
           rw[hc]at e1;cases e1
           have hlk:lentK o' (.own key p)=[key]:=by cases o'<;>first|exact absurd rfl ho|rfl
           refine⟨⟨bs',(if r.box then[(rc key).blk] else[])++rest,e2.stable (fun b hb=>⟨hfc b hb,rfl⟩) fun _ _=>rfl,?_,?_,?_⟩,et,sa,rfl⟩
           · rw[hlk];intro k hk;obtain rfl:k=key:=by simpa using hk
             exact⟨⟨r,hr⟩,hC⟩
           · rw[hlk]
             simp only[List.flatMap_cons,List.flatMap_nil,List.append_nil,oldB,hr]
             rw[blocks_box]
             exact perm_mid e3
           · intro w1 fz1 out l2 st st1 hos hf hk hrep hst hgb
             rw[hlk]at hst
             have hr':getR C st key=some r:=by rw[hst key (by simp),hr]
             have hgb:giveOne C st out (.own key p)=some st1:=by
              cases o'<;>first|exact absurd rfl ho|exact hgb
             have hbox:r.box=true→∃ cur e,w1.heap[(rc key).blk]? = some (.cells cur e (0,0))∧cur.toList=(rc key).cs:=by
              intro hb
              obtain⟨cur,e,k1,k2⟩:=hok.2 hb
              exact⟨cur,e,by rw[hk (rc key).blk (by simp[hb])];exact k1,k2⟩
             have hkr:∀ b∈rest,w1.heap[b]? = w.heap[b]?:=fun b hb=>hk b (by simp[hb])
             obtain⟨os,oo,ox⟩:=out
             simp only at hos hrep
             subst hos
             simp only[giveOne,hr']at hgb
             cases hbo:backO r.o p oo with
             |none=>rw[hbo]at hgb;simp at hgb
             | some o2=>
               cases hsx:setP r.s r.x p ⟨.sl et sa,ox⟩with
               |none=>rw[hbo,hsx]at hgb;simp at hgb
               | some x2=>
                 rw[hbo,hsx]at hgb
                 have hoP:=backO_oP hoo hsl hbo
                 have fin:∀(bsn:List Nat) (x3:r.s.den) (inn':Bool),(inn'=true→r.inn=true)→Rep w1 fz1 r.s o2 x3 (rc key).cs bsn→bsn.Perm (l2++rest)→st1.roots=upd key ⟨r.box,inn',r.s,o2,x3⟩ st.roots→st1.tmps.Sublist st.tmps→
                   (∀ t v,(t,v)∈st1.tmps++C.tmps→∀ p,refsAt key p v→inner p=false)→
                   ∃ ups:List Back,∃ drop:List Nat,ups.map (·.k)=lentK o' (.own key p)∧PutBack C s rc w1 fz1 st st1 ups∧((ups.flatMap fun e=>blocks e.r e.q)++drop).Perm (l2++((if r.box then[(rc key).blk] else[])++rest)):=by
                  intro bsn x3 inn' hinn g1 g2 g3 g4 g5
                  refine⟨[⟨key,⟨r.box,inn',r.s,o2,x3⟩,⟨(rc key).cs,bsn,(rc key).blk⟩⟩],[],by rw[hlk];rfl,⟨g3,g4,?_,fun e he hi=>by obtain rfl:=List.mem_singleton.mp he;exact⟨r,hr,hinn hi,rfl,fun _=>rfl⟩,fun e he _=>by obtain rfl:=List.mem_singleton.mp he;rfl⟩,?_⟩
                  · intro e he
                    obtain rfl:=List.mem_singleton.mp he
                    exact⟨⟨g1,hbox⟩,r,hr,rfl,rfl,rfl,.inr ⟨rfl,g5,hoP⟩⟩
                  · simp only[List.flatMap_cons,List.flatMap_nil,List.append_nil]
                    rw[blocks_box]
                    exact perm_mid g2
                 by_cases hdd:oo = .dead
                 · subst hdd
                   simp only at hgb
                   cases hi:inner p with
                   |true=>rw[hi]at hgb;simp at hgb
                   | false=>
                     rw[hi]at hgb
                     obtain⟨hC',hA',rfl⟩:=reRoot_eq hgb
                     have hl2:l2=[]:=hrep.1
                     subst hl2
                     have hrep':Rep w1 fz1 (.sl et sa) .dead x cells []:=Rep.dead x hrep.len hrep.one
                     obtain⟨x3,bsn,g1,g2,g3⟩:=e4 w1 fz1 .dead x [] o2 hbo hf hkr hrep'
                     rw[setP_get hi hg]at g1;cases g1
                     refine fin bsn r.x _ (fun h=>by simp at h;exact h.2) g2 g3 rfl (killT_sub _ _ _) ?_
                     intro t v htv q hq
                     have:refs false key v=false:=by
                      rcases List.mem_append.mp htv with h'|h'
                      · exact(killT_mem h').2
                      · exact anyRef_false hA' h'
                     rw[refsAt_refs hq]at this;simp at this
                 · have hgb:reRootI C st key ⟨r.box,r.inn,r.s,o2,x2⟩=some st1:=by
                    cases oo<;>first|exact absurd rfl hdd|exact hgb
                   obtain⟨hC',hA',rfl⟩:=reRootI_eq hgb
                   obtain⟨x3,bsn,g1,g2,g3⟩:=e4 w1 fz1 oo ox l2 o2 hbo hf hkr hrep
                   rw[hsx]at g1;cases g1
                   refine fin bsn x2 _ (fun h=>h) g2 g3 rfl (killI_sub _ _) ?_
                   intro t v htv q hq
                   rcases List.mem_append.mp htv with h'|h'
                   · exact refsAt_I hq (killI_mem h').2
                   · exact refsAt_I hq (anyI_false hA' h')
end
end Go.V
namespace Go.V
open Go
section
variable {P:Program} {C s:St} {X:Fr} {w0 w:World} {a:Act} {rc:Nat→RC}
theorem foldl_getR:∀ {ups:List Back} {l:List (Nat×Root)} {ts ts':List (Nat×Val)} {k:Nat},k∉ups.map (·.k)→
  getR C ⟨ts',ups.foldl (fun l e=>upd e.k e.r l) l⟩ k=getR C ⟨ts,l⟩ k:=by
 intro ups
 induction ups with
 |nil=>intro l ts ts' k _;rfl
 | cons e ups ih=>
   intro l ts ts' k hk
   simp only[List.map_cons,List.mem_cons,not_or]at hk
   rw[List.foldl_cons,ih (ts:=ts) hk.2,getR_upd (ts:=ts)]
   simp[hk.1]
theorem PutBack.getR {w1:World} {fz1:Nat→Prop} {st st1:St} {ups:List Back} (h:PutBack C s rc w1 fz1 st st1 ups) {k:Nat} (hk:k∉ups.map (·.k)):getR C st1 k=getR C st k:=by
 have e:=h.roots
 obtain⟨t1,r1⟩:=st1
 simp only at e
 subst e
 exact foldl_getR hk
theorem PutBack.append {w1:World} {fz1:Nat→Prop} {st st1 st2:St} {u1 u2:List Back} (h1:PutBack C s rc w1 fz1 st st1 u1) (h2:PutBack C s rc w1 fz1 st1 st2 u2) :
  PutBack C s rc w1 fz1 st st2 (u1++u2):=by
 refine⟨by rw[h2.roots,h1.roots,List.foldl_append],h2.tmps.trans h1.tmps,fun e he=>?_,fun e he=>(List.mem_append.mp he).elim (h1.inn e) (h2.inn e),fun e he=>(List.mem_append.mp he).elim (h1.csx e) (h2.csx e)⟩
 rcases List.mem_append.mp he with he|he
 · obtain⟨g1,r,g2,g3,g4,g5,g6⟩:=h1.each e he
   have hsub:∀ t v,(t,v)∈st2.tmps++C.tmps→(t,v)∈st1.tmps++C.tmps:=by
    intro t v htv
    rcases List.mem_append.mp htv with h|h
    · exact List.mem_append_left _ (h2.tmps.subset h)
    · exact List.mem_append_right _ h
   refine⟨g1,r,g2,g3,g4,g5,?_⟩
   rcases g6 with g6|⟨g6,g7,g8⟩
   · exact .inl fun t v htv=>g6 t v (hsub t v htv)
   · exact .inr ⟨g6,fun t v htv=>g7 t v (hsub t v htv),g8⟩
 · exact h2.each e he
theorem PutBack.nil {w1:World} {fz1:Nat→Prop} {st:St}:PutBack C s rc w1 fz1 st st []:=⟨rfl,List.Sublist.refl _,by simp,by simp,by simp⟩
theorem lent_t {fz fzc:Nat→Prop} (hfc:∀ b,fz b→fzc b) {o oo:O} {sh:Sh} {x:sh.den} {cells:List Value} (ho:o≠.z) (hv:Rep w fz sh oo x cells []) (hl:le oo o=true) :
  Lent C s rc w fz fzc o (.t sh oo x) ⟨sh,o,x⟩ cells [] []:=by
 have hk:lentK o (.t sh oo x)=[]:=by cases o<;>first|exact absurd rfl ho|rfl
 obtain⟨p,r,g1,g2⟩:=hv.weak hl
 obtain⟨rfl,rfl⟩:=List.append_eq_nil_iff.mp (List.nil_perm.mp g1)
 refine⟨g2 w fzc (fun b hb=>⟨hfc b hb,rfl⟩) (by simp) (by simp),by rw[hk];simp,by rw[hk];simp,?_⟩
 intro w1 fz1 out l2 st st1 _ _ _ _ _ hgb
 have:some st=some st1:=by cases o<;>first|exact absurd rfl ho|exact hgb
 cases this
 exact⟨[],l2,by rw[hk];rfl,.nil,by simp⟩
theorem lent_z (h:Rel rc [] C s X w0 a w) {fzc:Nat→Prop} (hfc:∀ b,fzOf X w ([]++allB rc (s.roots++C.roots)) b→fzc b) {v:Val} {cells:List Value} {sh:Sh} {x:sh.den}
  (hv:VCells w (fzOf X w ([]++allB rc (s.roots++C.roots))) (getR C s) rc v cells) (hw:view C s v=some ⟨sh,x⟩) (hk:∀ k∈keys v,∀ r,getR C s k=some r→∀ b∈(rc k).bs,fzc b) (hkb:∀ k∈boxKeys v,∀ r,getR C s k=some r→r.box=true→fzc (rc k).blk) :
  Lent C s rc w (fzOf X w ([]++allB rc (s.roots++C.roots))) fzc .z v ⟨sh,.z,x⟩ cells [] []:=by
 have hlk:lentK .z v=[]:=by cases v<;>rfl
 refine⟨view_ok h hfc hv.vc0 hw hk hkb,by rw[hlk];simp,by rw[hlk];simp,?_⟩
 intro w1 fz1 out l2 st st1 _ _ _ _ _ hgb
 have:some st=some st1:=by cases v<;>exact hgb
 cases this
 exact⟨[],l2,by rw[hlk];rfl,.nil,by simp⟩
theorem lent_box (h:Rel rc [] C s X w0 a w) {fzc:Nat→Prop} (hfc:∀ b,fzOf X w ([]++allB rc (s.roots++C.roots)) b→fzc b) {key:Nat} {r:Root} (hr:getR C s key=some r) (hC:look key C.roots=none) (hb:r.box=true)
  {cells:List Value} (hv:VCells w (fzOf X w ([]++allB rc (s.roots++C.roots))) (getR C s) rc (.baddr key []) cells) :
  Lent C s rc w (fzOf X w ([]++allB rc (s.roots++C.roots))) fzc (.own r.o) (.baddr key []) ⟨.ptr r.s,.own r.o,r.x⟩ cells (blocks r (rc key)) []:=by
 have hlk:lentK (.own r.o) (.baddr key [])=[key]:=rfl
 have hok:=h.root hr
 obtain⟨off,hoff,rfl⟩:=hv r hr hb
 have:off=0:=by cases hs:r.s<;>simp[hs,locP]at hoff<;>exact hoff.symm
 subst this
 obtain⟨cur,e,k1,k2⟩:=hok.2 hb
 refine⟨⟨(rc key).blk,cur,e,(rc key).bs,rfl,k1,?_,by simp[blocks,hb]⟩,?_,?_,?_⟩
 · rw[k2];exact hok.1.stable (fun b hb=>⟨hfc b hb,rfl⟩) fun _ _=>rfl
 · rw[hlk];intro k hk;obtain rfl:k=key:=by simpa using hk
   exact⟨⟨r,hr⟩,hC⟩
 · rw[hlk];simp[oldB,hr]
 · intro w1 fz1 out l2 st st1 hos hf hk hrep hst hgb
   rw[hlk]at hst
   have hr':getR C st key=some r:=by rw[hst key (by simp),hr]
   obtain⟨os,oo,ox⟩:=out
   simp only at hos hrep
   subst hos
   have hgb:giveOne C st ⟨.ptr r.s,oo,ox⟩ (.baddr key [])=some st1:=hgb
   simp only[giveOne,hr']at hgb
   cases oo with
   | own o2=>
     have hgb:(match castD r.s r.s (show r.s.den from ox)with
      |some x'=>reRoot C st key ⟨r.box,r.box&&r.inn,r.s,o2,x'⟩
      |none=>none)=some st1:=hgb
     rw[castD_self]at hgb
     simp only at hgb
     obtain⟨hC',hA',rfl⟩:=reRoot_eq hgb
     obtain⟨g,cu,e2,ebs,q1,q2,q3,rfl⟩:=hrep
     have hg:g=(rc key).blk:=by simpa using q1.symm
     subst hg
     refine⟨[⟨key,⟨r.box,r.box&&r.inn,r.s,o2,ox⟩,⟨cu.toList,ebs,(rc key).blk⟩⟩],[],rfl,⟨rfl,killT_sub _ _ _,?_,fun e he hi=>by obtain rfl:=List.mem_singleton.mp he;simp at hi;exact⟨r,hr,hi.2,rfl,fun h=>by simp[hb]at h⟩,fun e he h=>by obtain rfl:=List.mem_singleton.mp he;simp[hb]at h⟩,by simp[blocks,hb]⟩
     intro e he
     obtain rfl:=List.mem_singleton.mp he
     refine⟨⟨q3,fun _=>⟨cu,e2,q2,rfl⟩⟩,r,hr,rfl,rfl,rfl,.inl fun t v htv=>?_⟩
     rcases List.mem_append.mp htv with h'|h'
     · exact(killT_mem h').2
     · exact anyRef_false hA' h'
   |_=>simp at hgb
theorem Rep.halves {fz:Nat→Prop} {sa sb:Sh} {o:O} {x:(Sh.pair sa sb).den} {c1 c2:List Value} {l:List Nat} (h:Rep w fz (.pair sa sb) o x (c1++c2) l) (h1:c1.length=sa.size) :
  ∃ d1 d2,l=d1++d2∧Rep w fz sa (halfO true o) x.1 c1 d1∧Rep w fz sb (halfO false o) x.2 c2 d2:=by
 cases o with
 | z=>
   obtain⟨e1,e2,he,rfl,g1,g2⟩:=h
   obtain⟨rfl,rfl⟩:=List.append_inj he (by rw[h1,g1.len])
   exact⟨[],[],rfl,g1,g2⟩
 | pr oa ob=>
   obtain⟨e1,e2,b1,b2,he,rfl,g1,g2⟩:=h
   obtain⟨rfl,rfl⟩:=List.append_inj he (by rw[h1,g1.len])
   exact⟨b1,b2,rfl,g1,g2⟩
 | dead=>
   obtain⟨rfl,hl,ho⟩:=h
   rw[List.length_append]at hl
   exact⟨[],[],rfl,Rep.dead x.1 h1 fun v hv=>ho v (by simp[hv]),Rep.dead x.2 (by omega) fun v hv=>ho v (by simp[hv])⟩
 |own _=>exact h.elim
theorem lent_pair {fz fzc:Nat→Prop} {oa ob:O} {v v':Val} {ua ub:OV} {c1 c2:List Value} {l1 l2 k1 k2:List Nat}
  (ha:Lent C s rc w fz fzc oa v ua c1 l1 k1) (hb:Lent C s rc w fz fzc ob v' ub c2 l2 k2) (hd:∀ k∈lentK oa v,k∉lentK ob v') (ho:halfO true (O.pr oa ob)=oa) :
  Lent C s rc w fz fzc (.pr oa ob) (.pair v v') ⟨.pair ua.s ub.s,.pr ua.o ub.o,(ua.x,ub.x)⟩ (c1++c2) (l1++l2) (k1++k2):=by
 have hlk:lentK (.pr oa ob) (.pair v v')=lentK oa v++lentK ob v':=rfl
 refine⟨⟨c1,c2,l1,l2,rfl,rfl,ha.rep,hb.rep⟩,?_,?_,?_⟩
 · rw[hlk];intro k hk
   rcases List.mem_append.mp hk with hk|hk
   · exact ha.own k hk
   · exact hb.own k hk
 · rw[hlk,List.flatMap_append]
   refine(ha.perm.append hb.perm).trans ?_
   simp only[List.append_assoc]
   exact List.Perm.append_left _ (List.perm_append_comm_assoc _ _ _)
 · intro w1 fz1 out m st st2 hos hf hk hrep hst hgb
   obtain⟨os,oo,ox⟩:=out
   simp only at hos hrep
   subst hos
   obtain⟨d1,d2,rfl,r1,r2⟩:=hrep.halves ha.rep.len
   rw[hlk]at hst
   have hgb:(match giveBack C st oa ⟨ua.s,halfO true oo,ox.1⟩ v with
    |some s1=>giveBack C s1 ob ⟨ub.s,halfO false oo,ox.2⟩ v'
    |none=>none)=some st2:=hgb
   cases h1:giveBack C st oa ⟨ua.s,halfO true oo,ox.1⟩ v with
   |none=>rw[h1]at hgb;simp at hgb
   | some st1=>
     rw[h1]at hgb
     simp only at hgb
     obtain⟨u1,e1,p1,p2,p3⟩:=ha.back w1 fz1 ⟨ua.s,halfO true oo,ox.1⟩ d1 st st1 rfl hf (fun b hb=>hk b (by simp[hb])) r1 (fun k hk=>hst k (by simp[hk])) h1
     obtain⟨u2,e2,q1,q2,q3⟩:=hb.back w1 fz1 ⟨ub.s,halfO false oo,ox.2⟩ d2 st1 st2 rfl hf (fun b hb=>hk b (by simp[hb])) r2
      (fun k hk=>by rw[p2.getR (by rw[p1];exact fun hm=>hd k hm hk)];exact hst k (by simp[hk])) hgb
     refine⟨u1++u2,e1++e2,by rw[List.map_append,p1,q1];rfl,p2.append q2,?_⟩
     rw[List.flatMap_append]
     have:=p3.append q3
     refine List.Perm.trans ?_ (this.trans ?_)
     · simp only[List.append_assoc];exact List.Perm.append_left _ (List.perm_append_comm_assoc _ _ _)
     · simp only[List.append_assoc];exact List.Perm.append_left _ (List.perm_append_comm_assoc _ _ _)
end
end Go.V
namespace Go.V
open Go
theorem memN_iff {k:Nat}:∀ {l:List Nat},memN k l=true↔k∈l:=by
 intro l
 induction l with
 |nil=>simp[memN]
 | cons j l ih=>
   simp only[memN,Bool.or_eq_true,List.mem_cons,ih]
   constructor
   · rintro (h|h)
     · exact .inl (Nat.eq_of_beq_eq_true h).symm
     · exact .inr h
   · rintro (rfl|h)
     · exact .inl (Nat.beq_refl _)
     · exact .inr h
theorem nodupN_iff:∀ {l:List Nat},nodupN l=true→l.Nodup:=by
 intro l
 induction l with
 |nil=>intro _;exact List.nodup_nil
 | cons j l ih=>
   intro h
   simp only[nodupN,Bool.and_eq_true,Bool.not_eq_true']at h
   exact List.nodup_cons.mpr ⟨fun hm=>by rw[memN_iff.mpr hm]at h;simp at h,ih h.2⟩
theorem apartN_iff {l:List Nat}:∀ {m:List Nat},apartN l m=true→∀ k∈m,k∉l:=by
 intro m
 induction m with
 |nil=>intro _ k hk;simp at hk
 | cons j m ih=>
   intro h k hk
   simp only[apartN,Bool.and_eq_true,Bool.not_eq_true']at h
   rcases List.mem_cons.mp hk with rfl|hk
   · intro hm;rw[memN_iff.mpr hm]at h;simp at h
   · exact ih h.2 k hk
section
variable {P:Program} {C s:St} {X:Fr} {w0 w:World} {a:Act} {rc:Nat→RC}
theorem getP_nil (s:Sh) (x:s.den):getP s x []=some ⟨s,x⟩:=by cases s<;>rfl
theorem lend_ok (h:Rel rc [] C s X w0 a w) {fzc:Nat→Prop} (hfc:∀ b,fzOf X w ([]++allB rc (s.roots++C.roots)) b→fzc b):∀ {v:Val} {o:O} {u:OV} {cells:List Value},
  VCells w (fzOf X w ([]++allB rc (s.roots++C.roots))) (getR C s) rc v cells→lend C s o v=some u→(lentK o v).Nodup→(∀ k∈readK o v,∀ r,getR C s k=some r→∀ b∈(rc k).bs,fzc b)→(∀ k∈readB o v,∀ r,getR C s k=some r→r.box=true→fzc (rc k).blk)→
  (∃ ls kept,Lent C s rc w (fzOf X w ([]++allB rc (s.roots++C.roots))) fzc o v u cells ls kept)∧aggV v=aggS u.s:=by
 intro v
 have hz:∀ {v:Val} {u:OV} {cells:List Value},VCells w (fzOf X w ([]++allB rc (s.roots++C.roots))) (getR C s) rc v cells→lend C s .z v=some u→(∀ k∈readK .z v,∀ r,getR C s k=some r→∀ b∈(rc k).bs,fzc b)→(∀ k∈readB .z v,∀ r,getR C s k=some r→r.box=true→fzc (rc k).blk)→
   (∃ ls kept,Lent C s rc w (fzOf X w ([]++allB rc (s.roots++C.roots))) fzc .z v u cells ls kept)∧aggV v=aggS u.s:=by
  intro v u cells hv hl hk hkb
  have hl:(match view C s v with|some ⟨sh,x⟩=>some (⟨sh,.z,x⟩:OV)|none=>none)=some u:=by cases v<;>exact hl
  cases hw:view C s v with
  |none=>rw[hw]at hl;simp at hl
  | some tv=>
    obtain⟨sh,x⟩:=tv
    rw[hw]at hl
    simp only[Option.some.injEq]at hl
    subst hl
    refine⟨⟨[],[],lent_z h hfc hv hw (by cases v<;>exact hk) (by cases v<;>exact hkb)⟩,?_⟩
    cases v with
    | t sh0 oo x0=>
      simp only[view]at hw
      split at hw
      · cases hw;rfl
      · simp at hw
    | own k p=>
      simp only[view]at hw
      split at hw
      · rename_i r hr
        split at hw
        · split at hw
          · obtain⟨_,_,_,e,sa,hs⟩:=hv r hr
            have:=getP_shP hw
            rw[hs]at this;cases this;rfl
          · simp at hw
        · simp at hw
      · simp at hw
    |pair x y=>simp only[view]at hw;split at hw<;>first|(cases hw;rfl)|(simp at hw;done)
    | baddr k p=>
      simp only[view]at hw
      split at hw
      · split at hw
        · split at hw
          · split at hw
            · cases hw;rfl
            · simp at hw
          · split at hw
            · generalize hole _ _ _=z at hw
              obtain⟨sh1,x1⟩:=z
              cases hw;rfl
            · simp at hw
        · simp at hw
      · simp at hw
    |faddr sh0 x0=>simp only[view,Option.some.injEq]at hw;cases hw;rfl
    |clo f c=>simp only[view]at hw;split at hw<;>first|(cases hw;rfl)|(simp at hw;done)
    |_=>simp[view]at hw
 induction v with
 | t sh oo x=>
   intro o u cells hv hl hn hk hkb
   by_cases ho:o = .z
   · subst ho;exact hz hv hl hk hkb
   · have hl:(match le oo o with|true=>some (⟨sh,o,x⟩:OV)|false=>none)=some u:=by cases o<;>first|exact absurd rfl ho|exact hl
     split at hl
     · rename_i hle;cases hl;exact⟨⟨[],[],lent_t hfc ho hv hle⟩,rfl⟩
     · simp at hl
 | own k p=>
   intro o u cells hv hl hn hk hkb
   by_cases ho:o = .z
   · subst ho;exact hz hv hl hk hkb
   · obtain⟨g1,e,sa,g2⟩:=lent_own h hfc hv ho hl
     exact⟨g1,by rw[g2];rfl⟩
 | baddr k p=>
   intro o u cells hv hl hn hk hkb
   by_cases ho:o = .z
   · subst ho;exact hz hv hl hk hkb
   · cases o with
     |z=>exact absurd rfl ho
     | own o1=>
       cases hr:getR C s k with
       |none=>simp[lend,hr]at hl
       | some r=>
         cases hC:look k C.roots with
         |some _=>simp[lend,hr,hC]at hl
         | none=>
           cases p with
           | cons q p=>
             simp only[lend,hr,hC]at hl
             split at hl
             · split at hl
               · simp at *
               · simp at hl
             · simp at hl
           | nil=>
             have e1:oP r.o []=some r.o:=by cases r.o<;>rfl
             simp only[lend,hr,hC,e1,getP_nil]at hl
             cases hb:r.box with
             |false=>rw[hb]at hl;simp at hl
             | true=>
               rw[hb]at hl
               cases hd:decEq r.o o1 with
               |isFalse _=>rw[hd]at hl;simp at hl
               | isTrue e=>
                 rw[hd]at hl
                 simp only[Option.some.injEq]at hl
                 subst hl;subst e
                 exact⟨⟨_,_,lent_box h hfc hr hC hb hv⟩,rfl⟩
     |_=>simp[lend]at hl
 | pair v v' iha ihb=>
   intro o u cells hv hl hn hk hkb
   by_cases ho:o = .z
   · subst ho;exact hz hv hl hk hkb
   · cases o with
     |z=>exact absurd rfl ho
     | pr oa ob=>
       obtain⟨c1,c2,rfl,h1,h2⟩:=hv
       simp only[lend]at hl
       split at hl
       · rename_i x y e1 e2
         simp only[Option.some.injEq]at hl
         subst hl
         have hn':(lentK oa v++lentK ob v').Nodup:=hn
         obtain⟨n1,n2,n3⟩:=List.nodup_append.mp hn'
         obtain⟨⟨l1,k1,g1⟩,_⟩:=iha h1 e1 n1 (fun k hk'=>hk k (by simp[readK,hk'])) fun k hk'=>hkb k (by simp[readB,hk'])
         obtain⟨⟨l2,k2,g2⟩,_⟩:=ihb h2 e2 n2 (fun k hk'=>hk k (by simp[readK,hk'])) fun k hk'=>hkb k (by simp[readB,hk'])
         exact⟨⟨_,_,lent_pair g1 g2 (fun k hk1 hk2=>n3 k hk1 k hk2 rfl) rfl⟩,rfl⟩
       · simp at hl
     |_=>simp[lend]at hl
 | _=>
   intro o u cells hv hl hn hk hkb
   by_cases ho:o = .z
   · subst ho;exact hz hv hl hk hkb
   · cases o<;>first|exact absurd rfl ho|(simp[lend]at hl)
end
end Go.V
namespace Go.V
open Go
def ArgsRep (w:World) (fz:Nat→Prop):List OV→List Value→List Nat→Prop
 |[],cs,ls=>cs=[]∧ls=[]
 |u::us,cs,ls=>∃ c cs' cells l1 l2,cs=c::cs'∧ls=l1++l2∧c=packV (aggS u.s) cells∧Rep w fz u.s u.o u.x cells l1∧ArgsRep w fz us cs' l2
def OutsRep (w:World) (fz:Nat→Prop):List OV→List OV→List Value→List Nat→Prop
 |[],[],cs,ls=>cs=[]∧ls=[]
 |u::us,out::outs,cs,ls=>∃ c cs' cells l1 l2,cs=c::cs'∧ls=l1++l2∧c=packV (aggS u.s) cells∧out.s=u.s∧cells.length=u.s.size∧(∀ v∈cells,v.oneCell'=true)∧
  (u.o≠.z→Rep w fz out.s out.o out.x cells l1)∧OutsRep w fz us outs cs' l2
 |_,_,_,_=>False
def fzAfter (fz:Nat→Prop) (ls:List Nat) (w w':World) (l:List Nat) (b:Nat):Prop:=(fz b∨b∈ls∨w.heap.size≤b)∧b<w'.heap.size∧b∉l
def tupleOf:List Value→Value
 |[v]=>v
 |vs=>.tuple vs.toArray
def Entered (P : Program) (f : FuncId) : Prop := ∃ fn, P.funcs[f]? = some fn ∧ (fn.name == "runtime.NumGoroutine") = false ∧ fn.body.isNone = false
def GivesS (P:Program) (f:FuncId) (us rs outs:List OV):Prop:=
 Entered P f∧∀(w:World) (fz:Nat→Prop) (args:List Value) (ls:List Nat),ArgsRep w fz us args ls→ls.Nodup→(∀ b∈ls,b<w.heap.size∧¬ fz b)→(∀ b,fz b→b<w.heap.size)→
  Calls P f args.toArray w fun e w'=>∃ c cs l1 l2,e = .returned c∧c=tupleOf cs∧Ext ls w w'∧ArgsRep w' (fzAfter fz ls w w' (l1++l2)) rs cs l1∧
   OutsRep w' (fzAfter fz ls w w' (l1++l2)) us outs args l2∧(l1++l2).Nodup∧∀ b∈l1++l2,b<w'.heap.size∧(b∈ls∨w.heap.size≤b)
theorem packV_inj {sh:Sh} {c1 c2:List Value} (h:packV (aggS sh) c1=packV (aggS sh) c2) (l1:c1.length=sh.size) (l2:c2.length=sh.size) (o1:∀ v∈c1,v.oneCell'=true) (o2:∀ v∈c2,v.oneCell'=true):c1=c2:=by
 rw[←cells_pack l1 o1,←cells_pack l2 o2,h]
section
variable {P:Program} {C s:St} {X:Fr} {w0 w:World} {a:Act} {rc:Nat→RC}
structure LentAll (C s:St) (rc:Nat→RC) (w:World) (fz fzc:Nat→Prop) (os:List O) (vs:List Val) (us:List OV) (cvals:List Value) (ls kept:List Nat):Prop where
 rep:ArgsRep w fzc us cvals ls
 own:∀ k∈lentKeys os vs,(∃ r,getR C s k=some r)∧look k C.roots=none
 perm:((lentKeys os vs).flatMap (oldB C s rc)).Perm (ls++kept)
 back:∀(w1:World) (fz1:Nat→Prop) (outs:List OV) (l2:List Nat) (st st1:St),(∀ b,fz b→fz1 b∧w1.heap[b]? = w.heap[b]?)→(∀ b∈kept,w1.heap[b]? = w.heap[b]?)→
  OutsRep w1 fz1 us outs cvals l2→(∀ k∈lentKeys os vs,getR C st k=getR C s k)→giveAll C st os outs vs=some st1→
  ∃ ups:List Back,∃ drop:List Nat,ups.map (·.k)=lentKeys os vs∧PutBack C s rc w1 fz1 st st1 ups∧((ups.flatMap fun e=>blocks e.r e.q)++drop).Perm (l2++kept)
theorem lend_ne {o:O} {v:Val} {u:OV} (h:lend C s o v=some u) (ho:o≠.z):u.o≠.z:=by
 have fin:∀ {sh:Sh} {x:sh.den},some (⟨sh,o,x⟩:OV)=some u→u.o≠.z:=by intro sh x h;cases h;exact ho
 cases v with
 | t sh oo x=>
   have hl:(match le oo o with|true=>some (⟨sh,o,x⟩:OV)|false=>none)=some u:=by cases o<;>first|exact absurd rfl ho|exact h
   split at hl
   · exact fin hl
   · simp at hl
 | own k p=>
   have hl:(match getR C s k,look k C.roots with
    | some r,none=>match oP r.o p,getP r.s r.x p with
      | some o',some ⟨sh,x⟩=>match decEq o' o,inner p with
        |.isTrue _,_=>some (⟨sh,o,x⟩:OV)
        |_,_=>none
      |_,_=>none
    |_,_=>none)=some u:=by cases o<;>first|exact absurd rfl ho|exact h
   split at hl<;>try (simp at hl;done)
   split at hl<;>try (simp at hl;done)
   split at hl<;>try (simp at hl;done)
   exact fin hl
 | baddr k p=>
   cases o with
   |z=>exact absurd rfl ho
   | own o1=>
     simp only[lend]at h
     split at h<;>try (simp at h;done)
     split at h<;>try (simp at h;done)
     split at h<;>try (simp at h;done)
     cases h;simp
   |_=>simp[lend]at h
 | pair x y=>
   cases o with
   |z=>exact absurd rfl ho
   | pr a b=>
     simp only[lend]at h
     split at h
     · cases h;simp
     · simp at h
   |_=>simp[lend]at h
 |_=>cases o<;>first|exact absurd rfl ho|(simp[lend]at h)
theorem lendAll_ok (h:Rel rc [] C s X w0 a w) {fzc:Nat→Prop} (hfc:∀ b,fzOf X w ([]++allB rc (s.roots++C.roots)) b→fzc b):∀ {vs:List Val} {os:List O} {us:List OV} {cvals:List Value},
  AllOk w (fzOf X w ([]++allB rc (s.roots++C.roots))) (getR C s) rc vs cvals→lendAll C s os vs=some us→(lentKeys os vs).Nodup→(∀ k∈readKeys os vs,∀ r,getR C s k=some r→∀ b∈(rc k).bs,fzc b)→(∀ k∈readBox os vs,∀ r,getR C s k=some r→r.box=true→fzc (rc k).blk)→
  ∃ ls kept,LentAll C s rc w (fzOf X w ([]++allB rc (s.roots++C.roots))) fzc os vs us cvals ls kept:=by
 intro vs
 induction vs with
 | nil=>
   intro os us cvals hv hl hn hk hkb
   cases os with
   |cons _ _=>simp[lendAll]at hl
   | nil=>
     simp only[lendAll,Option.some.injEq]at hl
     subst hl
     obtain rfl:=hv
     refine⟨[],[],⟨rfl,rfl⟩,by simp[lentKeys],by simp[lentKeys],?_⟩
     intro w1 fz1 outs l2 st st1 _ _ ho _ hg
     cases outs with
     |cons _ _=>exact ho.elim
     | nil=>
       obtain⟨_,rfl⟩:=ho
       simp only[giveAll,Option.some.injEq]at hg
       subst hg
       exact⟨[],[],rfl,.nil,by simp⟩
 | cons v vs ih=>
   intro os us cvals hv hl hn hk hkb
   cases os with
   |nil=>simp[lendAll]at hl
   | cons o os=>
     obtain⟨c,cvs,rfl,hv1,hv2⟩:=hv
     simp only[lendAll]at hl
     split at hl
     · rename_i u us' e1 e2
       simp only[Option.some.injEq]at hl
       subst hl
       have hn':(lentK o v++lentKeys os vs).Nodup:=hn
       obtain⟨n1,n2,n3⟩:=List.nodup_append.mp hn'
       have hne:(∀ a b,v≠.tup a b)∧v≠.tnil∧v≠.undef:=by
        refine⟨fun a b=>?_,?_,?_⟩<;>rintro rfl<;>cases o<;>simp[lend,view]at e1
       obtain⟨cells,hc1,rfl⟩:=hv1.cells hne.1 hne.2.1 hne.2.2
       obtain⟨⟨l1,k1,g1⟩,hag⟩:=lend_ok h hfc hc1 e1 n1 (fun k hk'=>hk k (by simp[readKeys,hk'])) fun k hk'=>hkb k (by simp[readBox,hk'])
       obtain⟨l2,k2,g2⟩:=ih hv2 e2 n2 (fun k hk'=>hk k (by simp[readKeys,hk'])) fun k hk'=>hkb k (by simp[readBox,hk'])
       rw[hag]
       refine⟨l1++l2,k1++k2,⟨_,_,cells,l1,l2,rfl,rfl,rfl,g1.rep,g2.rep⟩,?_,?_,?_⟩
       · intro k hk'
         rcases List.mem_append.mp (show k∈lentK o v++lentKeys os vs from hk')with h'|h'
         · exact g1.own k h'
         · exact g2.own k h'
       · show((lentK o v++lentKeys os vs).flatMap _).Perm _
         rw[List.flatMap_append]
         refine(g1.perm.append g2.perm).trans ?_
         simp only[List.append_assoc]
         exact List.Perm.append_left _ (List.perm_append_comm_assoc _ _ _)
       · intro w1 fz1 outs m st st2 hf hkp ho hst hg
         cases outs with
         |nil=>exact ho.elim
         | cons out outs=>
           obtain⟨c',cs',cells',d1,d2,he,rfl,hp,hos,hlen,hone,hr,ho2⟩:=ho
           simp only[List.cons.injEq]at he
           obtain⟨rfl,rfl⟩:=he
           obtain rfl:=packV_inj hp g1.rep.len hlen g1.rep.one hone
           by_cases hoz:o = .z
           · subst hoz
             have hg:giveAll C st os outs vs=some st2:=hg
             have hlk:lentK .z v=[]:=by cases v<;>rfl
             obtain⟨ups,drop,p1,p2,p3⟩:=g2.back w1 fz1 outs d2 st st2 hf (fun b hb=>hkp b (by simp[hb])) ho2 (fun k hk'=>hst k (by show k∈lentK .z v++lentKeys os vs;simp[hk'])) hg
             have hnil:=g1.perm
             rw[hlk]at hnil
             obtain⟨rfl,rfl⟩:=List.append_eq_nil_iff.mp (List.nil_perm.mp hnil)
             refine⟨ups,d1++drop,by rw[p1];show _=lentK .z v++lentKeys os vs;rw[hlk];rfl,p2,?_⟩
             simp only[List.nil_append,List.append_assoc]
             refine(List.perm_append_comm_assoc _ _ _).trans ?_
             exact List.Perm.append_left d1 p3
           · have hg:(match giveBack C st o out v with|some s1=>giveAll C s1 os outs vs|none=>none)=some st2:=by
              cases o<;>first|exact absurd rfl hoz|exact hg
             cases h1:giveBack C st o out v with
             |none=>rw[h1]at hg;simp at hg
             | some st1=>
               rw[h1]at hg
               simp only at hg
               have huz:u.o≠.z:=lend_ne e1 hoz
               obtain⟨u1,e1',p1,p2,p3⟩:=g1.back w1 fz1 out d1 st st1 hos hf (fun b hb=>hkp b (by simp[hb])) (hr huz) (fun k hk'=>hst k (by show k∈lentK o v++lentKeys os vs;simp[hk'])) h1
               obtain⟨u2,e2',q1,q2,q3⟩:=g2.back w1 fz1 outs d2 st1 st2 hf (fun b hb=>hkp b (by simp[hb])) ho2
                (fun k hk'=>by rw[p2.getR (by rw[p1];exact fun hm=>n3 k hm k hk' rfl)];exact hst k (by show k∈lentK o v++lentKeys os vs;simp[hk'])) hg
               refine⟨u1++u2,e1'++e2',by rw[List.map_append,p1,q1];rfl,p2.append q2,?_⟩
               rw[List.flatMap_append]
               refine List.Perm.trans ?_ ((p3.append q3).trans ?_)
               · simp only[List.append_assoc];exact List.Perm.append_left _ (List.perm_append_comm_assoc _ _ _)
               · simp only[List.append_assoc];exact List.Perm.append_left _ (List.perm_append_comm_assoc _ _ _)
     · simp at hl
end
end Go.V
namespace Go.V
open Go
section
variable {P:Program} {C s:St} {X:Fr} {w0 w:World} {a:Act} {rc:Nat→RC}
theorem frz_one (h:Rel rc [] C s X w0 a w) {k:Nat} {r:Root} (hl:look k s.roots=some r) (hC:look k C.roots=none) (hf:frzOk r.o=true) :
  ∃ q:RC,(q.bs=[]∧q.cs=(rc k).cs)∧Rel (setRc rc k q) [] C ⟨s.tmps,upd k ⟨r.box,r.inn,r.s,frzO r.o,r.x⟩ s.roots⟩ X w0 a w∧
   (∀ b,b∈[]++allB (setRc rc k q) (upd k ⟨r.box,r.inn,r.s,frzO r.o,r.x⟩ s.roots++C.roots)→b∈[]++allB rc (s.roots++C.roots))∧
   ∀ v c,VOk w (fzOf X w ([]++allB rc (s.roots++C.roots))) (getR C s) rc v c→
    VOk w (fzOf X w ([]++allB (setRc rc k q) (upd k ⟨r.box,r.inn,r.s,frzO r.o,r.x⟩ s.roots++C.roots))) (getR C ⟨s.tmps,upd k ⟨r.box,r.inn,r.s,frzO r.o,r.x⟩ s.roots⟩) (setRc rc k q) v c:=by
 have hr:getR C s k=some r:=by unfold getR;rw[hl]
 have hok:=h.root hr
 obtain⟨bw,rest,hp,hw⟩:=hok.1.weak (le_frz hf)
 have hbw:bw=[]:=frz_nil (hw w (fun b=>fzOf X w ([]++allB rc (s.roots++C.roots)) b∨b∈rest) (fun b hb=>⟨.inl hb,rfl⟩) (fun _ _=>rfl) fun b hb=>.inr hb)
 subst hbw
 have hmem:∀ b∈blocks r (rc k),b∈[]++allB rc (s.roots++C.roots):=fun b hb=>List.mem_append_right _ (mem_allB.mpr ⟨k,r,(mem_getR h.keys).mp hr,hb⟩)
 have hnb:=h.blocks_nodup hr
 have hnew:∀ b,b∈blocks ⟨r.box,r.inn,r.s,frzO r.o,r.x⟩ ⟨(rc k).cs,[],(rc k).blk⟩→r.box=true∧b=(rc k).blk:=by
  intro b hb
  rw[blocks_box]at hb
  simp only[List.append_nil]at hb
  split at hb
  · rename_i hbx;exact⟨hbx,by simpa using hb⟩
  · simp at hb
 have hsub:∀ b∈blocks ⟨r.box,r.inn,r.s,frzO r.o,r.x⟩ ⟨(rc k).cs,[],(rc k).blk⟩,b∈blocks r (rc k):=by
  intro b hb
  obtain⟨h1,rfl⟩:=hnew b hb
  simp[blocks,h1]
 have hHS:∀ p,HS w w (getR C s) (getR C ⟨s.tmps,upd k ⟨r.box,r.inn,r.s,frzO r.o,r.x⟩ s.roots⟩) rc (setRc rc k ⟨(rc k).cs,[],(rc k).blk⟩) k p:=by
  intro p r1 hr1
  rw[getR_upd (ts:=s.tmps)]at hr1
  simp at hr1;subst hr1
  exact⟨r,hr,rfl,fun c e a q1 q2 _ q4=>⟨q1,frz_oP q2,by simpa [setRc]using q4⟩⟩
 have hBS:BS (getR C s) (getR C ⟨s.tmps,upd k ⟨r.box,r.inn,r.s,frzO r.o,r.x⟩ s.roots⟩) rc (setRc rc k ⟨(rc k).cs,[],(rc k).blk⟩) k:=by
  intro r1 hr1 hb1
  rw[getR_upd (ts:=s.tmps)]at hr1
  simp at hr1;subst hr1
  exact⟨r,hr,hb1,rfl,by simp[setRc]⟩
 have hrel:=Rel.setRoot (ls:=[]) (ex:=[]) (r:=⟨r.box,r.inn,r.s,frzO r.o,r.x⟩) (q:=⟨(rc k).cs,[],(rc k).blk⟩) (ts:=s.tmps) (w1:=w) h (blocks r (rc k)) [] hC (fun hi=>⟨r,look_mem hl,hi,rfl,fun _=>rfl,fun _=>rfl⟩)
  (fun b hb=>.inr ⟨r,look_mem hl,hb⟩) (Nat.le_refl _) rfl rfl rfl (fun _ _ _=>rfl)
  (by simp only[List.nil_append];rw[blocks_box];simp only[List.append_nil];split<;>simp) (by simp)
  (fun b hb=>⟨(h.bnd b (hmem b (hsub b hb))).1,.inl (hsub b hb)⟩)
  (fun fz1 hf1 hf2=>by
   refine⟨hw w fz1 (fun b hb=>⟨hf1 b (by simpa using hb),rfl⟩) (fun _ _=>rfl) fun b hb=>?_,hok.2⟩
   have hbb:b∈(rc k).bs:=hp.mem_iff.mpr (by simp[hb])
   refine hf2 b (by rw[blocks_box];simp[hbb]) (fun hm=>?_) (by simp)
   obtain⟨hbx,rfl⟩:=hnew b hm
   rw[blocks_box,hbx]at hnb
   exact(List.nodup_cons.mp (by simpa using hnb)).1 hbb)
  (List.Sublist.refl _)
  (fun t v _=>⟨fun p _=>hHS p,fun _=>hBS⟩)
 have hset:∀ b,b∈[]++allB (setRc rc k ⟨(rc k).cs,[],(rc k).blk⟩) (upd k ⟨r.box,r.inn,r.s,frzO r.o,r.x⟩ s.roots++C.roots)→b∈[]++allB rc (s.roots++C.roots):=by
  intro b hb
  simp only[List.nil_append]at hb
  rcases mem_allB.mp hb with⟨j,u,hj,hb⟩
  by_cases hjk:j=k
  · subst hjk
    have hu:=(mem_getR (s:=⟨s.tmps,upd j ⟨r.box,r.inn,r.s,frzO r.o,r.x⟩ s.roots⟩) hrel.keys).mpr hj
    rw[getR_upd (ts:=s.tmps)]at hu
    simp at hu;subst hu
    rw[show setRc rc j ⟨(rc j).cs,[],(rc j).blk⟩ j=⟨(rc j).cs,[],(rc j).blk⟩ by simp[setRc]]at hb
    exact hmem b (hsub b hb)
  · rw[show setRc rc k ⟨(rc k).cs,[],(rc k).blk⟩ j=rc j by simp[setRc,hjk]]at hb
    refine List.mem_append_right _ (mem_allB.mpr ⟨j,u,?_,hb⟩)
    have:=(mem_getR (s:=⟨s.tmps,upd k ⟨r.box,r.inn,r.s,frzO r.o,r.x⟩ s.roots⟩) hrel.keys).mpr hj
    rw[getR_upd (ts:=s.tmps)]at this
    simp only[hjk,if_false]at this
    exact(mem_getR h.keys).mp this
 refine⟨⟨(rc k).cs,[],(rc k).blk⟩,⟨rfl,rfl⟩,by simpa using hrel,hset,fun v c hv=>?_⟩
 refine hv.stable (fun b hb=>⟨⟨hb.1,fun hm=>hb.2 (hset b hm),hb.3⟩,rfl⟩) (fun j p _=>?_) fun j _=>?_
 · by_cases hjk:j=k
   · subst hjk;exact hHS p
   · have hR:getR C ⟨s.tmps,upd k ⟨r.box,r.inn,r.s,frzO r.o,r.x⟩ s.roots⟩ j=getR C s j:=by rw[getR_upd (ts:=s.tmps)];simp[hjk]
     exact HS.same (fz:=fun _=>True) hR (by simp[setRc,hjk]) (fun r hr=>⟨(h.root hr).stable (fun b _=>⟨trivial,rfl⟩) fun _ _=>rfl,fun _ _=>rfl⟩) fun _ _=>rfl
 · by_cases hjk:j=k
   · subst hjk;exact hBS
   · exact BS.same (by rw[getR_upd (ts:=s.tmps)];simp[hjk]) (by simp[setRc,hjk])
theorem frzAll_ok:∀ {ks:List Nat} {s s0:St} {rc:Nat→RC},Rel rc [] C s X w0 a w→frzAll C s ks=some s0→
  ∃ rc0,(Rel rc0 [] C s0 X w0 a w∧(∀ k,(rc0 k).cs=(rc k).cs)∧∀ k r,getR C s k=some r→∃ r0,getR C s0 k=some r0∧r0.s=r.s∧r0.box=r.box)∧(∀ k∈ks,∀ r,getR C s0 k=some r→(rc0 k).bs=[])∧(∀ k,(rc k).bs=[]→(rc0 k).bs=[])∧
   (∀ b,b∈[]++allB rc0 (s0.roots++C.roots)→b∈[]++allB rc (s.roots++C.roots))∧
   ∀ v c,VOk w (fzOf X w ([]++allB rc (s.roots++C.roots))) (getR C s) rc v c→VOk w (fzOf X w ([]++allB rc0 (s0.roots++C.roots))) (getR C s0) rc0 v c:=by
 intro ks
 induction ks with
 | nil=>
   intro s s0 rc h hf
   simp only[frzAll,Option.some.injEq]at hf
   subst hf
   exact⟨rc,⟨h,fun _=>rfl,fun _ r0 hr=>⟨r0,hr,rfl,rfl⟩⟩,by simp,fun _ h=>h,fun _ h=>h,fun _ _ h=>h⟩
 | cons k ks ih=>
   intro s s0 rc h hf
   simp only[frzAll]at hf
   cases hl:look k s.roots with
   | some r=>
     cases hC:look k C.roots with
     |some _=>rw[hl,hC]at hf;simp at hf
     | none=>
       rw[hl,hC]at hf
       simp only at hf
       cases hk:frzOk r.o with
       |false=>rw[hk]at hf;simp at hf
       | true=>
         rw[hk]at hf
         simp only at hf
         obtain⟨q,⟨q1,q5⟩,q2,q3,q4⟩:=frz_one h hl hC hk
         obtain⟨rc0,⟨g1,g6,g7⟩,g2,g3,g4,g5⟩:=ih q2 hf
         have g8:∀ j,(setRc rc k q j).cs=(rc j).cs:=by
          intro j
          by_cases hj:j=k
          · subst hj;simp only[setRc,if_true];exact q5
          · simp only[setRc,hj,if_false]
         refine⟨rc0,⟨g1,fun j=>(g6 j).trans (g8 j),fun j r0 hr0=>?_⟩,fun j hj r' hr'=>?_,fun j hj=>g3 j ?_,fun b hb=>q3 b (g4 b hb),fun v c hv=>g5 v c (q4 v c hv)⟩
         · have hj:getR C ⟨s.tmps,upd k ⟨r.box,r.inn,r.s,frzO r.o,r.x⟩ s.roots⟩ j=if j=k then some ⟨r.box,r.inn,r.s,frzO r.o,r.x⟩ else getR C s j:=getR_upd (ts:=s.tmps)
           by_cases hjk:j=k
           · subst hjk
             have:getR C s j=some r:=by unfold getR;rw[hl]
             rw[this]at hr0;cases hr0
             simp only[if_true]at hj
             obtain⟨r1,m1,m2,m3⟩:=g7 j ⟨r.box,r.inn,r.s,frzO r.o,r.x⟩ hj
             exact⟨r1,m1,m2,m3⟩
           · simp only[hjk,if_false]at hj
             exact g7 j r0 (hj.trans hr0)
         · rcases List.mem_cons.mp hj with rfl|hj
           · exact g3 j (by simp[setRc,q1])
           · exact g2 j hj r' hr'
         · simp only[setRc];split
           · exact q1
           · exact hj
   | none=>
     cases hC:look k C.roots with
     |none=>rw[hl,hC]at hf;simp at hf
     | some r=>
       rw[hl,hC]at hf
       simp only at hf
       cases hk:r.o.still with
       |false=>rw[hk]at hf;simp at hf
       | true=>
         rw[hk]at hf
         simp only at hf
         have hr:getR C s k=some r:=by unfold getR;rw[hl,hC]
         have hb:=(h.root hr).1.still_nil hk
         obtain⟨rc0,g1,g2,g3,g4,g5⟩:=ih h hf
         refine⟨rc0,g1,fun j hj r' hr'=>?_,g3,g4,g5⟩
         rcases List.mem_cons.mp hj with rfl|hj
         · exact g3 j hb
         · exact g2 j hj r' hr'
end
end Go.V
namespace Go.V
open Go
theorem Rep.noalias {w:World} {fz fz1:Nat→Prop}:∀ {s:Sh} {o:O} {x:s.den} {cs bs},mayAlias s o=false→Rep w fz s o x cs bs→Rep w fz1 s o x cs bs:=by
 have flatz:∀ {s:Sh} {x:s.den} {cs bs},s.flat=true→Rep w fz s .z x cs bs→Rep w fz1 s .z x cs bs:=by
  intro s
  induction s with
  |int k=>intro x cs bs _ h;exact h
  |bool=>intro x cs bs _ h;exact h
  |str=>intro x cs bs _ h;exact h
  |unit=>intro x cs bs _ h;exact h
  | pair a b iha ihb=>
    intro x cs bs hf h
    simp only[Sh.flat,Bool.and_eq_true]at hf
    obtain⟨c1,c2,rfl,rfl,h1,h2⟩:=h
    exact⟨c1,c2,rfl,rfl,iha hf.1 h1,ihb hf.2 h2⟩
  |_=>intro x cs bs hf;simp[Sh.flat]at hf
 have zz:∀ {s:Sh} {x:s.den} {cs bs},mayAlias s .z=false→Rep w fz s .z x cs bs→Rep w fz1 s .z x cs bs:=by
  intro s x cs bs hm h
  have:s.flat=true:=by cases s<;>simpa [mayAlias]using hm
  exact flatz this h
 have dd:∀ {s:Sh} {x:s.den} {cs bs},Rep w fz s .dead x cs bs→Rep w fz1 s .dead x cs bs:=by
  intro s x cs bs h
  have:=dead_nil h
  subst this
  exact Rep.dead x h.len h.one
 intro s
 induction s with
 | pair a b iha ihb=>
   intro o x cs bs hm h
   cases o with
   |z=>exact zz hm h
   |dead=>exact dd h
   |own _=>exact h.elim
   | pr oa ob=>
     simp only[mayAlias,Bool.or_eq_false_iff]at hm
     obtain⟨c1,c2,b1,b2,rfl,rfl,h1,h2⟩:=h
     exact⟨c1,c2,b1,b2,rfl,rfl,iha hm.1 h1,ihb hm.2 h2⟩
 | sl e a ih=>
   intro o x cs bs hm h
   cases o with
   |z=>exact zz hm h
   |dead=>exact dd h
   |pr _ _=>exact h.elim
   | own oa=>
     obtain⟨v,es,ebs,rfl,h1,h2⟩:=h
     exact⟨v,es,ebs,rfl,h1.mono fun y _ c b _ hr=>ih (by simpa [mayAlias]using hm) hr,h2⟩
 | ptr a ih=>
   intro o x cs bs hm h
   cases o with
   |z=>exact zz hm h
   |dead=>exact dd h
   |pr _ _=>exact h.elim
   | own oa=>
     obtain⟨g,cur,e,ebs,rfl,h1,h2,rfl⟩:=h
     exact⟨g,cur,e,ebs,rfl,h1,ih (by simpa [mayAlias]using hm) h2,rfl⟩
 | fn f c ih=>
   intro o x cs bs hm h
   cases o with
   |z=>exact zz hm h
   |dead=>exact dd h
   |_=>obtain⟨ccs,rfl,h1⟩:=h;exact⟨ccs,rfl,ih (by simpa [mayAlias]using hm) h1⟩
 | tok a b _ _=>
   intro o x cs bs hm h
   cases o with
   |dead=>exact dd h
   |z=>exact zz hm h
   |_=>simp[mayAlias]at hm
 | md a ih=>
   intro o x cs bs hm h
   obtain⟨b,y⟩:=x
   cases b with
   |false=>exact h
   | true=>
     cases o with
     |dead=>exact dd h
     |z=>exact zz hm h
     |_=>exact ih (by simpa [mayAlias]using hm) h
 |_=>intro o x cs bs _ h;exact h
theorem ArgsRep.mono {w:World} {fz fz1:Nat→Prop} (hf:∀ b,fz b→fz1 b):∀ {us:List OV} {cs ls},ArgsRep w fz us cs ls→ArgsRep w fz1 us cs ls:=by
 intro us
 induction us with
 |nil=>intro cs ls h;exact h
 |cons u us ih=>rintro cs ls ⟨c,cs',cells,l1,l2,rfl,rfl,h1,h2,h3⟩;exact⟨c,cs',cells,l1,l2,rfl,rfl,h1,h2.stable (fun b hb=>⟨hf b hb,rfl⟩) fun _ _=>rfl,ih h3⟩
theorem ArgsRep.noalias {w:World} {fz fz1:Nat→Prop}:∀ {us:List OV} {cs ls},(∀ u∈us,mayAlias u.s u.o=false)→ArgsRep w fz us cs ls→ArgsRep w fz1 us cs ls:=by
 intro us
 induction us with
 |nil=>intro cs ls _ h;exact h
 |cons u us ih=>rintro cs ls hm ⟨c,cs',cells,l1,l2,rfl,rfl,h1,h2,h3⟩;exact⟨c,cs',cells,l1,l2,rfl,rfl,h1,h2.noalias (hm u (by simp)),ih (fun v hv=>hm v (by simp[hv])) h3⟩
theorem OutsRep.mono {w:World} {fz fz1:Nat→Prop} (hf:∀ b,fz b→fz1 b):∀ {us outs:List OV} {cs ls},OutsRep w fz us outs cs ls→OutsRep w fz1 us outs cs ls:=by
 intro us
 induction us with
 |nil=>intro outs cs ls h;cases outs<;>exact h
 | cons u us ih=>
   intro outs cs ls h
   cases outs with
   |nil=>exact h.elim
   | cons o outs=>
     obtain⟨c,cs',cells,l1,l2,rfl,rfl,h1,h2,h3,h4,h5,h6⟩:=h
     exact⟨c,cs',cells,l1,l2,rfl,rfl,h1,h2,h3,h4,fun hz=>(h5 hz).stable (fun b hb=>⟨hf b hb,rfl⟩) fun _ _=>rfl,ih h6⟩
theorem OutsRep.noalias {w:World} {fz fz1:Nat→Prop}:∀ {us outs:List OV} {cs ls},(∀(i:Nat) (u o:OV),us[i]? = some u→outs[i]? = some o→u.o≠.z→mayAlias o.s o.o=false)→OutsRep w fz us outs cs ls→OutsRep w fz1 us outs cs ls:=by
 intro us
 induction us with
 |nil=>intro outs cs ls _ h;cases outs<;>exact h
 | cons u us ih=>
   intro outs cs ls hm h
   cases outs with
   |nil=>exact h.elim
   | cons o outs=>
     obtain⟨c,cs',cells,l1,l2,rfl,rfl,h1,h2,h3,h4,h5,h6⟩:=h
     exact⟨c,cs',cells,l1,l2,rfl,rfl,h1,h2,h3,h4,fun hz=>(h5 hz).noalias (hm 0 u o rfl rfl hz),ih (fun i u' o' h1 h2=>hm (i+1) u' o' h1 h2) h6⟩
end Go.V
namespace Go.V
open Go
section
variable {C s:St} {rc:Nat→RC}
theorem foldl_keys:∀ {ups:List Back} {l m:List (Nat×Root)},((l++m).map (·.1)).Nodup→(∀ e∈ups,∀ u,(e.k,u)∉m)→((ups.foldl (fun l e=>upd e.k e.r l) l++m).map (·.1)).Nodup:=by
 intro ups
 induction ups with
 |nil=>intro l m h _;exact h
 |cons e ups ih=>intro l m h hk;exact ih (upd_keys_nodup h (hk e (by simp))) fun e' he=>hk e' (by simp[he])
theorem foldl_in:∀ {ups:List Back} {l:List (Nat×Root)} {ts:List (Nat×Val)},(ups.map (·.k)).Nodup→∀ e∈ups,getR C ⟨ts,ups.foldl (fun l e=>upd e.k e.r l) l⟩ e.k=some e.r:=by
 intro ups
 induction ups with
 |nil=>intro l ts _ e he;simp at he
 | cons e0 ups ih=>
   intro l ts hn e he
   simp only[List.map_cons,List.nodup_cons]at hn
   rcases List.mem_cons.mp he with rfl|he
   · rw[List.foldl_cons,foldl_getR (ts:=ts) hn.1,getR_upd (ts:=ts)];simp
   · exact ih hn.2 e he
theorem nodup_of_keys {α:Type} {l:List (Nat×α)} (h:(l.map (·.1)).Nodup):l.Nodup:=by
 induction l with
 |nil=>exact List.nodup_nil
 | cons x l ih=>
   simp only[List.map_cons,List.nodup_cons]at h
   exact List.nodup_cons.mpr ⟨fun hm=>h.1 (List.mem_map.mpr ⟨x,hm,rfl⟩),ih h.2⟩
theorem back_perm {ups:List Back} {s1:St} (hk:((s.roots++C.roots).map (·.1)).Nodup) (hn:(ups.map (·.k)).Nodup) (hC:∀ e∈ups,look e.k C.roots=none) (hr:s1.roots=ups.foldl (fun l e=>upd e.k e.r l) s.roots) :
  ((s1.roots++C.roots).map (·.1)).Nodup∧
    (s1.roots++C.roots).Perm (ups.map (fun e=>(e.k,e.r))++(s.roots++C.roots).filter (fun p=>!memN p.1 (ups.map (·.k)))):=by
 have h1:((s1.roots++C.roots).map (·.1)).Nodup:=by rw[hr];exact foldl_keys hk fun e he u hm=>look_none.mp (hC e he) u hm
 refine⟨h1,(List.perm_ext_iff_of_nodup (nodup_of_keys h1) ?_).mpr ?_⟩
 · refine List.nodup_append.mpr ⟨?_,(nodup_of_keys hk).filter _,?_⟩
   · exact nodup_of_keys (by rw[List.map_map];exact hn)
   · rintro⟨j,u⟩ h2 ⟨j',u'⟩ h3 he
     cases he
     obtain⟨e,he,h4⟩:=List.mem_map.mp h2
     cases h4
     have:=(List.mem_filter.mp h3).2
     simp only[Bool.not_eq_true',Bool.eq_false_iff,ne_eq,memN_iff]at this
     exact this (List.mem_map.mpr ⟨e,he,rfl⟩)
 · rintro⟨j,u⟩
   have e1:(j,u)∈s1.roots++C.roots↔getR C s1 j=some u:=(mem_getR h1).symm
   rw[e1]
   have hg:∀ j,getR C s1 j=getR C ⟨s1.tmps,ups.foldl (fun l e=>upd e.k e.r l) s.roots⟩ j:=by
    intro j
    unfold getR
    rw[hr]
   by_cases hj:j∈ups.map (·.k)
   · obtain⟨e,he,rfl⟩:=List.mem_map.mp hj
     rw[hg,foldl_in hn e he]
     constructor
     · intro h;cases h;exact List.mem_append_left _ (List.mem_map.mpr ⟨e,he,rfl⟩)
     · intro h
       rcases List.mem_append.mp h with h|h
       · obtain⟨e',he',h'⟩:=List.mem_map.mp h
         simp only[Prod.mk.injEq]at h'
         have:=foldl_in (C:=C) (l:=s.roots) (ts:=s1.tmps) hn e' he'
         rw[h'.1,foldl_in hn e he]at this
         rw[←h'.2];exact this
       · have:=(List.mem_filter.mp h).2
         simp only[Bool.not_eq_true',Bool.eq_false_iff,ne_eq,memN_iff]at this
         exact absurd hj this
   · rw [hg,foldl_getR (ts:=s.tmps) hj]
     have e2:getR C ⟨s.tmps,s.roots⟩ j=some u↔(j,u)∈s.roots++C.roots:=mem_getR (s:=s) hk
     rw[e2]
     constructor
     · intro h
       refine List.mem_append_right _ (List.mem_filter.mpr ⟨h,?_⟩)
       simp only[Bool.not_eq_true',Bool.eq_false_iff,ne_eq,memN_iff]
       exact hj
     · intro h
       rcases List.mem_append.mp h with h|h
       · obtain⟨e',he',h'⟩:=List.mem_map.mp h
         cases h'
         exact absurd (List.mem_map.mpr ⟨e',he',rfl⟩) hj
       · exact(List.mem_filter.mp h).1
end
end Go.V
namespace Go.V
open Go
section
variable {C s:St} {X:Fr} {w0 w:World} {a:Act} {rc:Nat→RC}
theorem foldl_self:∀ {ups:List Back} {l:List (Nat×Root)},(l.map (·.1)).Nodup→(∀ e∈ups,(e.k,e.r)∈l)→ups.foldl (fun l e=>upd e.k e.r l) l=l:=by
 intro ups
 induction ups with
 |nil=>intro l _ _;rfl
 | cons e ups ih=>
   intro l hn h
   rw[List.foldl_cons,upd_self hn (h e (by simp))]
   exact ih hn fun e' he=>h e' (by simp[he])
theorem old_perm (hk:((s.roots++C.roots).map (·.1)).Nodup) {ks:List Nat} (hn:ks.Nodup) (ho:∀ k∈ks,(∃ r,getR C s k=some r)∧look k C.roots=none) :
  (allB rc (s.roots++C.roots)).Perm (ks.flatMap (oldB C s rc)++allB rc ((s.roots++C.roots).filter (fun p=>!memN p.1 ks))):=by
 let f:Nat→Root:=fun k=>(getR C s k).getD ⟨false,false,.unit,.z,()⟩
 have hf:∀ k∈ks,getR C s k=some (f k):=by
  intro k hk
  obtain⟨⟨r,hr⟩,_⟩:=ho k hk
  simp[f,hr]
 let ups:List Back:=ks.map fun k=>⟨k,f k,rc k⟩
 have hks:ups.map (·.k)=ks:=by
  show(ks.map fun k=>(⟨k,f k,rc k⟩:Back)).map (·.k)=ks
  rw[List.map_map];exact List.map_id ks
 have hsn:(s.roots.map (·.1)).Nodup:=by rw[List.map_append]at hk;exact(List.nodup_append.mp hk).1
 have hself:ups.foldl (fun l e=>upd e.k e.r l) s.roots=s.roots:=by
  refine foldl_self hsn fun e he=>?_
  obtain⟨k,hk',rfl⟩:=List.mem_map.mp he
  exact getR_s (ho k hk').2 (hf k hk')
 obtain⟨_,hp⟩:=back_perm (s1:=s) hk (by rw[hks];exact hn) (ups:=ups) (by
  intro e he
  obtain⟨k,hk',rfl⟩:=List.mem_map.mp he
  exact(ho k hk').2) hself.symm
 refine(allB_perm hp).trans ?_
 rw[allB_append,hks]
 refine List.Perm.append_right _ ?_
 have:allB rc (ups.map fun e=>(e.k,e.r))=ks.flatMap (oldB C s rc):=by
  unfold allB
  rw[List.flatMap_map]
  show(ks.map fun k=>(⟨k,f k,rc k⟩:Back)).flatMap _=_
  rw[List.flatMap_map]
  have:∀ l:List Nat,(∀ k∈l,k∈ks)→l.flatMap (fun k=>blocks (f k) (rc k))=l.flatMap (oldB C s rc):=by
   intro l
   induction l with
   |nil=>intro _;rfl
   | cons k l ih=>
     intro hl
     simp only[List.flatMap_cons]
     rw[ih fun j hj=>hl j (by simp[hj])]
     congr 1
     simp[oldB,hf k (hl k (by simp))]
  exact this ks fun k hk=>hk
 rw[this]
def upRc (rc:Nat→RC):List Back→Nat→RC
 |[],j=>rc j
 |e::ups,j=>if j=e.k then e.q else upRc rc ups j
theorem upRc_in:∀ {ups:List Back},(ups.map (·.k)).Nodup→∀ e∈ups,upRc rc ups e.k=e.q:=by
 intro ups
 induction ups with
 |nil=>intro _ e he;simp at he
 | cons e0 ups ih=>
   intro hn e he
   simp only[List.map_cons,List.nodup_cons]at hn
   rcases List.mem_cons.mp he with rfl|he
   · simp[upRc]
   · have:e.k≠e0.k:=fun h=>hn.1 (h ▸ List.mem_map.mpr ⟨e,he,rfl⟩)
     simp only[upRc,this,if_false]
     exact ih hn.2 e he
theorem upRc_out:∀ {ups:List Back} {j:Nat},j∉ups.map (·.k)→upRc rc ups j=rc j:=by
 intro ups
 induction ups with
 |nil=>intro j _;rfl
 | cons e0 ups ih=>
   intro j hj
   simp only[List.map_cons,List.mem_cons,not_or]at hj
   simp only[upRc,hj.1,if_false]
   exact ih hj.2
theorem new_perm {ups:List Back} {s1:St} (hk:((s.roots++C.roots).map (·.1)).Nodup) (hn:(ups.map (·.k)).Nodup) (hC:∀ e∈ups,look e.k C.roots=none) (hr:s1.roots=ups.foldl (fun l e=>upd e.k e.r l) s.roots) :
  (allB (upRc rc ups) (s1.roots++C.roots)).Perm ((ups.flatMap fun e=>blocks e.r e.q)++allB rc ((s.roots++C.roots).filter (fun p=>!memN p.1 (ups.map (·.k))))):=by
 refine(allB_perm (back_perm hk hn hC hr).2).trans ?_
 rw[allB_append]
 have e1:allB (upRc rc ups) (ups.map fun e=>(e.k,e.r))=ups.flatMap fun e=>blocks e.r e.q:=by
  unfold allB
  rw[List.flatMap_map]
  have:∀ l:List Back,(∀ e∈l,e∈ups)→(l.flatMap fun e=>blocks e.r (upRc rc ups e.k))=l.flatMap fun e=>blocks e.r e.q:=by
   intro l
   induction l with
   |nil=>intro _;rfl
   | cons e l ih=>
     intro hl
     simp only[List.flatMap_cons]
     rw[ih fun j hj=>hl j (by simp[hj]),upRc_in hn e (hl e (by simp))]
  exact this ups fun e he=>he
 have e2:allB (upRc rc ups) ((s.roots++C.roots).filter (fun p=>!memN p.1 (ups.map (·.k))))=allB rc ((s.roots++C.roots).filter (fun p=>!memN p.1 (ups.map (·.k)))):=by
  refine allB_congr fun k r hkr=>upRc_out fun hm=>?_
  have:=(List.mem_filter.mp hkr).2
  simp only[Bool.not_eq_true',Bool.eq_false_iff,ne_eq,memN_iff]at this
  exact this hm
 rw[e1,e2]
end
end Go.V
namespace Go.V
open Go
section
variable {C s:St} {X:Fr} {w0 w:World} {a:Act} {rc:Nat→RC}
theorem after_give (h:Rel rc [] C s X w0 a w) {fzc:Nat→Prop} {os:List O} {vs:List Val} {us outs:List OV} {cvals:List Value} {ls kept l1 l2:List Nat} {w':World} {s1:St}
  (hL:LentAll C s rc w (fzOf X w ([]++allB rc (s.roots++C.roots))) fzc os vs us cvals ls kept) (hn:(lentKeys os vs).Nodup)
  (hext:Ext ls w w') (hnd:(l1++l2).Nodup) (hb:∀ b∈l1++l2,b<w'.heap.size∧(b∈ls∨w.heap.size≤b))
  (hout:∀ fz1:Nat→Prop,(∀ b,fzOf X w ([]++allB rc (s.roots++C.roots)) b→fz1 b)→(∀ b,(b∈ls∨w.heap.size≤b)→b<w'.heap.size→b∉l1++l2→fz1 b)→OutsRep w' fz1 us outs cvals l2)
  (hg:giveAll C s os outs vs=some s1) :
  ∃ rc1,(Rel rc1 l1 C s1 X w0 a w'∧(∀ k,(k∈lentKeys os vs→∃ r,getR C s k=some r∧r.box=false)→(rc1 k).cs=(rc k).cs)∧∀ k,k∉lentKeys os vs→getR C s1 k=getR C s k)∧∀ b,b∈l1++allB rc1 (s1.roots++C.roots)→b∈l1++l2∨(b∈allB rc (s.roots++C.roots)∧b∉ls):=by
 let D:=(s.roots++C.roots).filter (fun p=>!memN p.1 (lentKeys os vs))
 have hold:(allB rc (s.roots++C.roots)).Perm ((ls++kept)++allB rc D):=(old_perm h.keys hn hL.own).trans (hL.perm.append_right _)
 have hex:(allB rc (s.roots++C.roots)).Nodup:=by simpa using h.excl
 have hon:((ls++kept)++allB rc D).Nodup:=hold.nodup_iff.mp hex
 have hlt:∀ b∈allB rc (s.roots++C.roots),b<w.heap.size:=fun b hb=>(h.bnd b (by simpa using hb)).1
 have hin:∀ b∈(ls++kept)++allB rc D,b∈allB rc (s.roots++C.roots):=fun b hb=>hold.mem_iff.mpr hb
 have hls:∀ b∈ls,b∉kept++allB rc D:=by
  intro b hb1 hb2
  rw[List.append_assoc]at hon
  exact(List.nodup_append.mp hon).2.2 b hb1 b hb2 rfl
 have hstay:∀ b,b<w.heap.size→b∉ls→w'.heap[b]? = w.heap[b]?:=hext.block
 have hkept:∀ b∈kept++allB rc D,b<w.heap.size∧b∉ls∧b∈allB rc (s.roots++C.roots):=by
  intro b hb1
  have hm:b∈allB rc (s.roots++C.roots):=hin b (by rw[List.append_assoc];exact List.mem_append_right _ hb1)
  exact⟨hlt b hm,fun hl=>hls b hl hb1,hm⟩
 let fz1:Nat→Prop:=fun b=>fzOf X w ([]++allB rc (s.roots++C.roots)) b∨((b∈ls∨w.heap.size≤b)∧b<w'.heap.size∧b∉l1++l2)
 have hlsin:∀ b∈ls,b∈allB rc (s.roots++C.roots):=fun b hb=>hin b (by simp[hb])
 have hf1:∀ b,fzOf X w ([]++allB rc (s.roots++C.roots)) b→fz1 b∧w'.heap[b]? = w.heap[b]?:=by
  intro b hb1
  exact⟨.inl hb1,hstay b hb1.1 fun hl=>hb1.2 (by simpa using hlsin b hl)⟩
 obtain⟨ups,drop,p1,p2,p3⟩:=hL.back w' fz1 outs l2 s s1 hf1 (fun b hb1=>hstay b (hkept b (by simp[hb1])).1 (hkept b (by simp[hb1])).2.1)
  (hout fz1 (fun b hb1=>.inl hb1) fun b h1 h2 h3=>.inr ⟨h1,h2,h3⟩) (fun _ _=>rfl) hg
 have hun:(ups.map (·.k)).Nodup:=by rw[p1];exact hn
 have huC:∀ e∈ups,look e.k C.roots=none:=fun e he=>(hL.own e.k (by rw[←p1];exact List.mem_map.mpr ⟨e,he,rfl⟩)).2
 obtain⟨k1,kp⟩:=back_perm h.keys hun huC p2.roots
 have hnew:=new_perm (rc:=rc) h.keys hun huC p2.roots
 rw[p1]at hnew kp
 have hnew:(allB (upRc rc ups) (s1.roots++C.roots)).Perm ((ups.flatMap fun e=>blocks e.r e.q)++allB rc D):=hnew
 have hbig:(l1++(l2++kept)++allB rc D).Nodup:=by
  have:(l1++(l2++kept)++allB rc D)=(l1++l2)++(kept++allB rc D):=by simp
  rw[this]
  refine List.nodup_append.mpr ⟨hnd,?_,?_⟩
  · rw[List.append_assoc]at hon;exact(List.nodup_append.mp hon).2.1
  · rintro b hb1 c hb2 rfl
    obtain⟨q1,q2,_⟩:=hkept b hb2
    rcases (hb b hb1).2 with hh|hh
    · exact q2 hh
    · omega
 have hU:∀ b∈ups.flatMap (fun e=>blocks e.r e.q),b∈l2++kept:=fun b hb1=>p3.mem_iff.mp (List.mem_append_left _ hb1)
 have hall:∀ b,b∈l1++allB (upRc rc ups) (s1.roots++C.roots)→b∈l1++l2∨b∈kept++allB rc D:=by
  intro b hb1
  rcases List.mem_append.mp hb1 with hb1|hb1
  · exact .inl (by simp[hb1])
  · rcases List.mem_append.mp (hnew.mem_iff.mp hb1)with hb1|hb1
    · rcases List.mem_append.mp (hU b hb1)with hb1|hb1
      · exact .inl (by simp[hb1])
      · exact .inr (by simp[hb1])
    · exact .inr (by simp[hb1])
 have hfin:∀ b,fz1 b→fzOf X w' (l1++allB (upRc rc ups) (s1.roots++C.roots)) b:=by
  intro b hb1
  rcases hb1 with hb1|⟨q1,q2,q3⟩
  · refine⟨Nat.lt_of_lt_of_le hb1.1 hext.size,fun hm=>?_,hb1.3⟩
    rcases hall b hm with hm|hm
    · rcases (hb b hm).2 with hh|hh
      · exact hb1.2 (by simpa using hlsin b hh)
      · have:=hb1.1;omega
    · exact hb1.2 (by simpa using (hkept b hm).2.2)
  · refine⟨q2,fun hm=>?_,?_⟩
    · rcases hall b hm with hm|hm
      · exact q3 hm
      · obtain⟨g1,g2,_⟩:=hkept b hm
        rcases q1 with hh|hh
        · exact g2 hh
        · omega
    · rcases q1 with hh|hh
      · exact(h.bnd b (by simpa using hlsin b hh)).2.elim (h.zok.1 b) (h.zok.2 b)
      · exact h.zok.1 b (Nat.le_trans h.ext.size hh)
 have hff:∀ b,fzOf X w ([]++allB rc (s.roots++C.roots)) b→fzOf X w' (l1++allB (upRc rc ups) (s1.roots++C.roots)) b∧w'.heap[b]? = w.heap[b]?:=
  fun b hb1=>⟨hfin b (hf1 b hb1).1,(hf1 b hb1).2⟩
 have hDin:∀ k r,(k,r)∈D→(k,r)∈s.roots++C.roots∧k∉ups.map (·.k):=by
  intro k r hkr
  have hm:=List.mem_filter.mp hkr
  refine⟨hm.1,?_⟩
  have:=hm.2
  simp only[Bool.not_eq_true',Bool.eq_false_iff,ne_eq,memN_iff]at this
  rw[p1];exact this
 have hDb:∀ k r,(k,r)∈D→∀ b∈blocks r (rc k),w'.heap[b]? = w.heap[b]?:=by
  intro k r hkr b hb1
  have hbD:b∈kept++allB rc D:=List.mem_append_right _ (mem_allB.mpr ⟨k,r,hkr,hb1⟩)
  exact hstay b (hkept b hbD).1 (hkept b hbD).2.1
 have hgR:∀ k,k∉ups.map (·.k)→getR C s1 k=getR C s k:=fun k hk=>p2.getR hk
 have hcfx:∀ k b,X.c k b→(∃ r,(k,r)∈C.roots∧b∈blocks r (upRc rc ups k))∧w'.heap[b]? = w0.heap[b]?:=by
  intro k b hb1
  obtain⟨⟨r,hkr,hb2⟩,g2⟩:=h.cfx k b hb1
  have hk:k∉ups.map (·.k):=by
   intro hm
   obtain⟨e,he,rfl⟩:=List.mem_map.mp hm
   exact look_none.mp (huC e he) r hkr
  have hD:(k,r)∈D:=by
   refine List.mem_filter.mpr ⟨List.mem_append_right _ hkr,?_⟩
   simp only[Bool.not_eq_true',Bool.eq_false_iff,ne_eq,memN_iff]
   rw[←p1];exact hk
  exact⟨⟨r,hkr,by rw[upRc_out hk];exact hb2⟩,(hDb k r hD b hb2).trans g2⟩
 have hinn:∀ k r,(k,r)∈s1.roots++C.roots→r.inn=true→(r.box=false→(upRc rc ups k).cs=X.ic k)∧(r.box=true→(upRc rc ups k).blk=X.ib k):=by
  intro k r hkr hi
  rcases List.mem_append.mp (kp.mem_iff.mp hkr)with hkr|hkr
  · obtain⟨e,he,he2⟩:=List.mem_map.mp hkr
    cases he2
    obtain⟨r0,g1,g2,g3,g4⟩:=p2.inn e he hi
    obtain⟨_,r1,q1,_,_,q4,_⟩:=p2.each e he
    obtain⟨k1,k2⟩:=h.inn e.k r0 ((mem_getR h.keys).mp g1) g2
    rw[upRc_in hun e he]
    exact⟨fun hb=>(g4 hb).trans (k1 (g3.trans hb)),fun hb=>q4.trans (k2 (g3.trans hb))⟩
  · obtain⟨g1,g2⟩:=hDin k r hkr
    rw[upRc_out g2]
    exact h.inn k r g1 hi
 have hcsx:∀ k,(k∈lentKeys os vs→∃ r,getR C s k=some r∧r.box=false)→(upRc rc ups k).cs=(rc k).cs:=by
  intro k hk
  by_cases hm:k∈ups.map (·.k)
  · obtain⟨e,he,rfl⟩:=List.mem_map.mp hm
    rw[upRc_in hun e he]
    obtain⟨r,g1,g2⟩:=hk (by rw[←p1];exact hm)
    obtain⟨_,r1,q1,_,q3,_⟩:=p2.each e he
    rw[g1]at q1;cases q1
    exact p2.csx e he (q3.trans g2)
  · rw[upRc_out hm]
 refine⟨upRc rc ups,⟨⟨k1,?_,?_,?_,?_,?_,?_,?_,h.nd,h.zok,hcfx,h.tsz,hinn⟩,hcsx,fun k hk=>hgR k (by rw[p1];exact hk)⟩,?_⟩
 · refine(((hnew.append_left l1).trans ?_).nodup_iff).mpr (List.Nodup.sublist (l₁:=l1++((ups.flatMap fun e=>blocks e.r e.q)++allB rc D)) ?_ ((((p3.symm.append_left l1).append_right (allB rc D)).nodup_iff).mp hbig))
   · exact .refl _
   · rw[List.append_assoc]
     refine List.Sublist.append_left ?_ _
     exact List.Sublist.append_right (List.sublist_append_left _ _) _
 · intro b hb1
   rcases hall b hb1 with hb1|hb1
   · refine⟨(hb b hb1).1,?_⟩
     rcases (hb b hb1).2 with hh|hh
     · exact(h.bnd b (by simpa using hlsin b hh)).2
     · exact .inl (Nat.le_trans h.ext.size hh)
   · exact⟨Nat.lt_of_lt_of_le (hkept b hb1).1 hext.size,(h.bnd b (by simpa using (hkept b hb1).2.2)).2⟩
 · intro k r hkr
   rcases List.mem_append.mp (kp.mem_iff.mp hkr)with hkr|hkr
   · obtain⟨e,he,he2⟩:=List.mem_map.mp hkr
     cases he2
     rw[upRc_in hun e he]
     exact(p2.each e he).1.stable (fun b hb1=>⟨hfin b hb1,rfl⟩) fun _ _=>rfl
   · obtain⟨g1,g2⟩:=hDin k r hkr
     rw[upRc_out g2]
     exact(h.roots k r g1).stable hff (hDb k r hkr)
 · exact List.Nodup.sublist (p2.tmps.map _) h.tn
 · intro t v htv;exact h.td t v (p2.tmps.subset htv)
 · intro t v htv
   have hold':(t,v)∈s.tmps++C.tmps:=by
    rcases List.mem_append.mp htv with h'|h'
    · exact List.mem_append_left _ (p2.tmps.subset h')
    · exact List.mem_append_right _ h'
   obtain⟨c,g1,g2⟩:=h.tm t v hold'
   have same:∀ k,k∉ups.map (·.k)→∀ r,getR C s k=some r→(k,r)∈D:=by
    intro k hk r hr
    refine List.mem_filter.mpr ⟨(mem_getR h.keys).mp hr,?_⟩
    simp only[Bool.not_eq_true',Bool.eq_false_iff,ne_eq,memN_iff]
    rw[←p1];exact hk
   refine⟨c,g1,g2.stable hff (fun k p hp=>?_) fun k _=>?_⟩
   · by_cases hk:k∈ups.map (·.k)
     · obtain⟨e,he,rfl⟩:=List.mem_map.mp hk
       obtain⟨_,r,q1,q2,q3,q4,q5⟩:=p2.each e he
       rcases q5 with q5|⟨q5,q6,q7⟩
       · have:=q5 t v htv;rw[refsAt_refs hp]at this;simp at this
       · have hi:=q6 t v htv p hp
         intro r1 hr1
         have:getR C s1 e.k=some e.r:=(mem_getR k1).mpr (kp.mem_iff.mpr (List.mem_append_left _ (List.mem_map.mpr ⟨e,he,rfl⟩)))
         rw[hr1]at this;cases this
         refine⟨r,q1,q2,fun c e' a' m1 m2 m3 m4=>⟨InB_fields _ hi (by rw[q2];exact m3),q7 p e' a' hi m3 m2,?_⟩⟩
         rw[upRc_in hun e he,q5,q2,cellsP_fields (w:=w) hi]
         exact m4
     · exact HS.same (hgR k hk) (upRc_out hk) (fun r hr=>⟨h.root hr,hDb k r (same k hk r hr)⟩) fun b hb1=>(hff b hb1).2
   · by_cases hk:k∈ups.map (·.k)
     · obtain⟨e,he,rfl⟩:=List.mem_map.mp hk
       obtain⟨_,r,q1,q2,q3,q4,q5⟩:=p2.each e he
       intro r1 hr1 hb1
       have:getR C s1 e.k=some e.r:=(mem_getR k1).mpr (kp.mem_iff.mpr (List.mem_append_left _ (List.mem_map.mpr ⟨e,he,rfl⟩)))
       rw[hr1]at this;cases this
       exact⟨r,q1,by rw[←q3];exact hb1,q2,by rw[upRc_in hun e he];exact q4⟩
     · exact BS.same (hgR k hk) (upRc_out hk)
 · refine⟨hext.os.trans h.ext.os,hext.tape.trans h.ext.tape,hext.output.trans h.ext.output,Nat.le_trans h.ext.size hext.size,fun b hb1 hx=>?_,Nat.le_trans h.ext.drawn hext.drawn⟩
   have hlt':=Nat.lt_of_lt_of_le hb1 h.ext.size
   refine(hstay b hlt' fun hl=>?_).trans (h.ext.block b hb1 hx)
   rcases (h.bnd b (by simpa using hlsin b hl)).2 with hh|hh
   · omega
   · exact hx hh
 · intro b hb1
   rcases hall b hb1 with hb1|hb1
   · exact .inl hb1
   · exact .inr ⟨(hkept b hb1).2.2,(hkept b hb1).2.1⟩
end
end Go.V
namespace Go.V
open Go
section
variable {C s:St} {X:Fr} {w0 w:World} {a:Act} {rc:Nat→RC}
theorem lay_ok {ls ex:List Nat} (h:Rel rc (ls++ex) C s X w0 a w) {k:Nat} {sh:Sh} {o:O} {x:sh.den} {cells:List Value} {s1:St}
  (hr:Rep w (fzOf X w (ls++ex++allB rc (s.roots++C.roots))) sh o x cells ls) (hn:newRoot C s k ⟨false,false,sh,o,x⟩=some s1) :
  Rel (setRc rc k ⟨cells,ls,0⟩) ex C s1 X w0 a w∧
   VOk w (fzOf X w (ex++allB (setRc rc k ⟨cells,ls,0⟩) (s1.roots++C.roots))) (getR C s1) (setRc rc k ⟨cells,ls,0⟩) (mkRef k sh o x []) (packV (aggS sh) cells):=by
 have hrel:=Rel.new (q:=⟨cells,ls,0⟩) (w1:=w) h hn (Nat.le_refl _) rfl rfl rfl (fun _ _ _=>rfl) (by simpa [blocks]using h.ls_nodup)
  (fun b hb=>⟨h.ls_lt (by simpa [blocks]using hb),.inl (by simpa [blocks]using hb)⟩)
  (fun fz1 h1 _=>⟨hr.stable (fun b hb=>⟨h1 b hb,rfl⟩) fun _ _=>rfl,by simp⟩)
 have hg:=getR_new hn
 have hok:=hrel.root hg
 refine⟨hrel,mkRef_vok (mkRef_ok hg hok.1 (fun r' h'=>by rw[hg]at h';cases h';rfl) ?_ ?_ ?_ ?_)⟩
 · cases sh<;>rfl
 · cases o<;>rfl
 · cases sh<;>trivial
 · rw[show setRc rc k ⟨cells,ls,0⟩ k=⟨cells,ls,0⟩ by simp[setRc]]
   cases sh<;>rfl
theorem layBox_ok {ls ex:List Nat} (h:Rel rc (ls++ex) C s X w0 a w) {k:Nat} {sh:Sh} {o:O} {x:sh.den} {cells:List Value} {s1:St}
  (hr:Rep w (fzOf X w (ls++ex++allB rc (s.roots++C.roots))) (.ptr sh) (.own o) x cells ls) (hn:newRoot C s k ⟨true,false,sh,o,x⟩=some s1) :
  ∃ rc1,Rel rc1 ex C s1 X w0 a w∧(∀ j,j≠k→rc1 j=rc j)∧(∀ b∈blocks ⟨true,false,sh,o,x⟩ (rc1 k),b∈ls)∧VOk w (fzOf X w (ex++allB rc1 (s1.roots++C.roots))) (getR C s1) rc1 (.baddr k []) (packV false cells):=by
 obtain⟨g,cur,e,ebs,rfl,h1,h2,rfl⟩:=hr
 have hrel:=Rel.new (ls:=g::ebs) (q:=⟨cur.toList,ebs,g⟩) (w1:=w) h hn (Nat.le_refl _) rfl rfl rfl (fun _ _ _=>rfl) (by simpa [blocks]using h.ls_nodup)
  (fun b hb=>⟨h.ls_lt (by simpa [blocks]using hb),.inl (by simpa [blocks]using hb)⟩)
  (fun fz1 f1 _=>⟨h2.stable (fun b hb=>⟨f1 b hb,rfl⟩) fun _ _=>rfl,fun _=>⟨cur,e,h1,rfl⟩⟩)
 refine⟨_,hrel,fun j hj=>by simp[setRc,hj],fun b hb=>by simpa [setRc,blocks]using hb,?_⟩
 have:=baddr_vok (w:=w) (rc:=setRc rc k ⟨cur.toList,ebs,g⟩) (R:=getR C s1) (k:=k) (fz:=fzOf X w (ex++allB (setRc rc k ⟨cur.toList,ebs,g⟩) (s1.roots++C.roots)))
 simpa [setRc,packV]using this
theorem refs_mkRef {k j:Nat}:∀ {sh:Sh} {o:O} {x:sh.den} {p:List Step},refs true j (mkRef k sh o x p)=true→j=k:=by
 intro sh
 induction sh with
 | pair a b iha ihb=>
   intro o x p h
   cases o<;>simp only[mkRef,refs]at h<;>try (simp at h;done)
   simp only[Bool.or_eq_true]at h
   rcases h with h|h
   · exact iha h
   · exact ihb h
 | sl e a _=>
   intro o x p h
   cases o<;>simp only[mkRef,refs]at h<;>try (simp at h;done)
   exact(Nat.eq_of_beq_eq_true h).symm
 |_=>intro o x p h;cases o<;>simp[mkRef,refs]at h
theorem stay_new {ls ex:List Nat} (h:Rel rc (ls++ex) C s X w0 a w) {k:Nat} {r:Root} {s1:St} {rc1:Nat→RC} (hn:newRoot C s k r=some s1) (h1:Rel rc1 ex C s1 X w0 a w) (hq:∀ j,j≠k→rc1 j=rc j)
  (hsub:∀ b,b∈ex++allB rc1 (s1.roots++C.roots)→b∈ls++ex++allB rc (s.roots++C.roots)) {v:Val} {c:Value} (hv:VOk w (fzOf X w (ls++ex++allB rc (s.roots++C.roots))) (getR C s) rc v c)
  (hk:∀ j,refs true j v=true→j≠k):VOk w (fzOf X w (ex++allB rc1 (s1.roots++C.roots))) (getR C s1) rc1 v c:=by
 obtain⟨_,_,rfl⟩:=newRoot_eq hn
 have hR:∀ j,j≠k→getR C ⟨killT true k s.tmps,upd k r s.roots⟩ j=getR C s j:=by
  intro j hj;rw[getR_upd (ts:=s.tmps)];simp[hj]
 have hne:∀ j,refs false j v=true∨brefs j v=true→j≠k:=by
  intro j hj he
  subst he
  cases hr:refs true j v with
  |true=>exact hk j hr rfl
  |false=>have:=refs_true_of hr;rcases hj with hj|hj<;>simp_all
 refine hv.stable (fun b hb=>⟨⟨hb.1,fun hm=>hb.2 (hsub b hm),hb.3⟩,rfl⟩) (fun j p hp=>?_) fun j hp=>?_
 · have hj:=hne j (.inl (refsAt_refs hp))
   exact HS.same (fz:=fun _=>True) (hR j hj) (hq j hj) (fun r hr=>⟨(h.root hr).stable (fun b _=>⟨trivial,rfl⟩) fun _ _=>rfl,fun _ _=>rfl⟩) fun _ _=>rfl
 · have hj:=hne j (.inr hp)
   exact BS.same (hR j hj) (hq j hj)
theorem new_sub {ls ex:List Nat} (h:Rel rc (ls++ex) C s X w0 a w) {k:Nat} {r:Root} {s1:St} {rc1:Nat→RC} (hn:newRoot C s k r=some s1) (h1:Rel rc1 ex C s1 X w0 a w) (hq:∀ j,j≠k→rc1 j=rc j)
  (hb:∀ b∈blocks r (rc1 k),b∈ls):∀ b,b∈ex++allB rc1 (s1.roots++C.roots)→b∈ls++ex++allB rc (s.roots++C.roots):=by
 intro b hm
 rcases List.mem_append.mp hm with hm|hm
 · simp[hm]
 · obtain⟨j,u,hj,hbu⟩:=mem_allB.mp hm
   have hg:=(mem_getR h1.keys).mpr hj
   by_cases hjk:j=k
   · subst hjk
     rw[getR_new hn]at hg;cases hg
     have:=hb b hbu
     simp[this]
   · rw[hq j hjk]at hbu
     obtain⟨_,_,rfl⟩:=newRoot_eq hn
     rw[getR_upd (ts:=s.tmps)]at hg
     simp only[hjk,if_false]at hg
     exact List.mem_append_right _ (mem_allB.mpr ⟨j,u,(mem_getR h.keys).mp hg,hbu⟩)
theorem bring_ok {ls ex:List Nat} (h:Rel rc (ls++ex) C s X w0 a w) {k:Nat} {u:OV} {cells:List Value} (hr:Rep w (fzOf X w (ls++ex++allB rc (s.roots++C.roots))) u.s u.o u.x cells ls) :
  (∀ v,bring k u=(v,none)→ls=[]∧v = .t u.s .z u.x∧u.o = .z)∧
  ∀ v r s1,bring k u=(v,some r)→newRoot C s k r=some s1→∃ rc1,Rel rc1 ex C s1 X w0 a w∧(∀ j,j≠k→rc1 j=rc j)∧(∀ b∈blocks r (rc1 k),b∈ls)∧
   VOk w (fzOf X w (ex++allB rc1 (s1.roots++C.roots))) (getR C s1) rc1 v (packV (aggS u.s) cells)∧∀ j,refs true j v=true→j=k:=by
 obtain⟨sh,o,x⟩:=u
 simp only at hr
 have lay:∀ s1,newRoot C s k ⟨false,false,sh,o,x⟩=some s1→∃ rc1,Rel rc1 ex C s1 X w0 a w∧(∀ j,j≠k→rc1 j=rc j)∧(∀ b∈blocks ⟨false,false,sh,o,x⟩ (rc1 k),b∈ls)∧
   VOk w (fzOf X w (ex++allB rc1 (s1.roots++C.roots))) (getR C s1) rc1 (mkRef k sh o x []) (packV (aggS sh) cells)∧∀ j,refs true j (mkRef k sh o x [])=true→j=k:=by
  intro s1 hn
  obtain⟨g1,g2⟩:=lay_ok h hr hn
  exact⟨_,g1,fun j hj=>by simp[setRc,hj],fun b hb=>by simpa [setRc,blocks]using hb,g2,fun j hj=>refs_mkRef hj⟩
 cases o with
 | z=>
   refine⟨fun v hv=>?_,fun v r s1 hv=>by simp[bring]at hv⟩
   simp only[bring,Prod.mk.injEq,and_true]at hv
   exact⟨hr.z_nil,hv.symm,rfl⟩
 | own o1=>
   cases sh with
   | ptr sa=>
     refine⟨fun v hv=>by simp[bring]at hv,fun v r s1 hv hn=>?_⟩
     simp only[bring,Prod.mk.injEq,Option.some.injEq]at hv
     obtain⟨rfl,rfl⟩:=hv
     obtain⟨rc1,g1,g2,g3,g4⟩:=layBox_ok h hr hn
     exact⟨rc1,g1,g2,g3,g4,fun j hj=>(Nat.eq_of_beq_eq_true (by simpa [refs]using hj)).symm⟩
   | _=>
     refine⟨fun v hv=>by simp[bring]at hv,fun v r s1 hv hn=>?_⟩
     simp only[bring,Prod.mk.injEq,Option.some.injEq]at hv
     obtain⟨rfl,rfl⟩:=hv
     exact lay s1 hn
 | _=>
   refine⟨fun v hv=>by simp[bring]at hv,fun v r s1 hv hn=>?_⟩
   simp only[bring,Prod.mk.injEq,Option.some.injEq]at hv
   obtain⟨rfl,rfl⟩:=hv
   exact lay s1 hn
end
end Go.V
namespace Go.V
open Go
section
variable {C:St} {X:Fr} {w0 w:World} {a:Act}
theorem bringAll_ok:∀ {rs:List OV} {k:Nat} {s s2:St} {rc:Nat→RC} {l ex:List Nat} {ws:List Val} {cs:List Value},Rel rc (l++ex) C s X w0 a w→
  ArgsRep w (fzOf X w (l++ex++allB rc (s.roots++C.roots))) rs cs l→bringAll C s k rs=some (ws,s2)→
  ∃ rc2,Rel rc2 ex C s2 X w0 a w∧AllOk w (fzOf X w (ex++allB rc2 (s2.roots++C.roots))) (getR C s2) rc2 ws cs∧
   ∀ v c,(∀ j,refs true j v=true→j<k)→VOk w (fzOf X w (l++ex++allB rc (s.roots++C.roots))) (getR C s) rc v c→VOk w (fzOf X w (ex++allB rc2 (s2.roots++C.roots))) (getR C s2) rc2 v c:=by
 intro rs
 induction rs with
 | nil=>
   intro k s s2 rc l ex ws cs h hr hb
   simp only[bringAll,Option.some.injEq,Prod.mk.injEq]at hb
   obtain⟨rfl,rfl⟩:=hb
   obtain⟨rfl,rfl⟩:=hr
   exact⟨rc,h,rfl,fun v c _ hv=>hv⟩
 | cons u us ih=>
   intro k s s2 rc l ex ws cs h hr hb
   obtain⟨c,cs',cells,l1,l2,rfl,rfl,rfl,hr1,hr2⟩:=hr
   have h':Rel rc (l1++(l2++ex)) C s X w0 a w:=by simpa using h
   have hr1':Rep w (fzOf X w (l1++(l2++ex)++allB rc (s.roots++C.roots))) u.s u.o u.x cells l1:=by simpa using hr1
   obtain⟨b1,b2⟩:=bring_ok h' hr1' (k:=k)
   simp only[bringAll]at hb
   cases hbr:bring k u with
   | mk v ro=>
     rw[hbr]at hb
     cases ro with
     | none=>
       simp only at hb
       obtain⟨rfl,rfl,huz⟩:=b1 v hbr
       cases hb2:bringAll C s (k+1000) us with
       |none=>rw[hb2]at hb;simp at hb
       | some q=>
         obtain⟨vs,s2'⟩:=q
         rw[hb2]at hb
         simp only[Option.some.injEq,Prod.mk.injEq]at hb
         obtain⟨rfl,rfl⟩:=hb
         obtain⟨rc2,g1,g2,g3⟩:=ih (by simpa using h) (by simpa using hr2) hb2
         refine⟨rc2,g1,⟨_,_,rfl,?_,g2⟩,fun v c hv hvo=>g3 v c (fun j hj=>Nat.lt_of_lt_of_le (hv j hj) (by omega)) (by simpa using hvo)⟩
         refine g3 (.t u.s .z u.x) (packV (aggS u.s) cells) (by simp[refs]) ⟨cells,?_,rfl⟩
         rw[huz]at hr1
         show Rep _ _ _ _ _ _ _
         simpa using hr1
     | some r=>
       simp only at hb
       cases hn:newRoot C s k r with
       |none=>rw[hn]at hb;simp at hb
       | some s1=>
         rw[hn]at hb
         simp only at hb
         cases hb2:bringAll C s1 (k+1000) us with
         |none=>rw[hb2]at hb;simp at hb
         | some q=>
           obtain⟨vs,s2'⟩:=q
           rw[hb2]at hb
           simp only[Option.some.injEq,Prod.mk.injEq]at hb
           obtain⟨rfl,rfl⟩:=hb
           obtain⟨rc1,q1,q2,q3,q4,q5⟩:=b2 v r s1 hbr hn
           have hsub:=new_sub h' hn q1 q2 q3
           have hr2':ArgsRep w (fzOf X w (l2++ex++allB rc1 (s1.roots++C.roots))) us cs' l2:=
            hr2.mono fun b hb=>⟨hb.1,fun hm=>hb.2 (by simpa using hsub b hm),hb.3⟩
           obtain⟨rc2,g1,g2,g3⟩:=ih q1 hr2' hb2
           refine⟨rc2,g1,⟨_,_,rfl,g3 v _ (fun j hj=>by rw[q5 j hj];omega) q4,g2⟩,fun v' c' hv' hvo=>?_⟩
           refine g3 v' c' (fun j hj=>Nat.lt_of_lt_of_le (hv' j hj) (by omega)) ?_
           exact stay_new h' hn q1 q2 hsub (by simpa using hvo) fun j hj=>Nat.ne_of_lt (hv' j hj)
end
end Go.V
namespace Go.V
open Go
section
variable {C s:St} {X:Fr} {w0 w:World} {a:Act} {rc:Nat→RC}
theorem capsT_ok {fz:Nat→Prop} {R:Nat→Option Root}:∀ {sh:Sh} {x:sh.den} {cs:List Value} {l:List Val},Rep w fz sh .z x cs []→capsT sh x=some l→AllOk w fz R rc l cs:=by
 intro sh
 induction sh with
 |unit=>intro x cs l h hc;simp only[capsT,Option.some.injEq]at hc;subst hc;exact h.2
 | pair p q _ ihq=>
   intro x cs l h hc
   simp only[capsT]at hc
   split at hc
   · rename_i l' ha hl
     cases hc
     obtain⟨c1,c2,rfl,_,h1,h2⟩:=h
     have hlen:=h1.len
     rw[aggS_size (show aggS p=false from ha)]at hlen
     obtain⟨c,rfl⟩:=List.length_eq_one_iff.mp hlen
     refine⟨c,c2,rfl,⟨[c],h1,?_⟩,ihq h2 hl⟩
     have:aggV (.t p .z x.1)=false:=ha
     rw[this];rfl
   · simp at hc
 |_=>intro x cs l h hc;simp[capsT]at hc
theorem capsOf_ok (h:Rel rc [] C s X w0 a w):∀ {v:Val} {cs:List Value} {l:List Val},VCells w (fzOf X w ([]++allB rc (s.roots++C.roots))) (getR C s) rc v cs→capsOf C s v=some l→
  AllOk w (fzOf X w ([]++allB rc (s.roots++C.roots))) (getR C s) rc l cs:=by
 intro v
 induction v with
 | pair p q _ ihq=>
   intro cs l hv hc
   obtain⟨c1,c2,rfl,h1,h2⟩:=hv
   simp only[capsOf]at hc
   split at hc
   · rename_i l' ha hl
     cases hc
     obtain⟨g1,c,rfl⟩:=capOk_one h h1 ha
     refine⟨c,c2,rfl,?_,ihq h2 hl⟩
     have:=h1.vok
     rw[g1]at this;exact this
   · simp at hc
 | t sh o x=>
   intro cs l hv hc
   simp only[capsOf]at hc
   split at hc
   · exact capsT_ok hv hc
   · simp at hc
 |_=>intro cs l hv hc;simp[capsOf]at hc
theorem calleeOf_ok (h:Rel rc [] C s X w0 a w) {v:Val} {c:Value} {f:FuncId} {l:List Val} (hv:VOk w (fzOf X w ([]++allB rc (s.roots++C.roots))) (getR C s) rc v c) (hc:calleeOf C s v=some (f,l)) :
  ∃ ccs,c = .func (.func f) #[] (List.toArray ccs)∧AllOk w (fzOf X w ([]++allB rc (s.roots++C.roots))) (getR C s) rc l ccs:=by
 cases v with
 | clo g q=>
   simp only[calleeOf,Option.map_eq_some_iff,Prod.mk.injEq]at hc
   obtain⟨l',hl,rfl,rfl⟩:=hc
   obtain⟨cs,⟨ccs,rfl,h1⟩,rfl⟩:=hv
   exact⟨ccs,rfl,capsOf_ok h h1 hl⟩
 | t sh o x=>
   cases sh<;>try (simp[calleeOf]at hc;done)
   rename_i g q
   cases o<;>try (simp[calleeOf]at hc;done)
   simp only[calleeOf,Option.map_eq_some_iff,Prod.mk.injEq]at hc
   obtain⟨l',hl,rfl,rfl⟩:=hc
   obtain⟨cs,h0,rfl⟩:=hv
   obtain⟨ccs,rfl,h1⟩:=h0
   exact⟨ccs,rfl,capsT_ok h1 hl⟩
 |_=>simp[calleeOf]at hc
theorem AllOk.append {fz:Nat→Prop} {R:Nat→Option Root}:∀ {l m:List Val} {cs ds:List Value},AllOk w fz R rc l cs→AllOk w fz R rc m ds→AllOk w fz R rc (l++m) (cs++ds):=by
 intro l
 induction l with
 |nil=>intro m cs ds h1 h2;obtain rfl:=h1;exact h2
 |cons v l ih=>rintro m cs ds ⟨c,cs',rfl,h1,h2⟩ h3;exact⟨c,cs'++ds,rfl,h1,ih h2 h3⟩
end
end Go.V
namespace Go.V
open Go
section
variable {C s:St} {X:Fr} {w0 w:World} {a:Act} {rc:Nat→RC} {ex:List Nat}
theorem soft_take (h:Rel rc ex C s X w0 a w) {key:Nat} {p:List Step} {r:Root} (hr:getR C s key=some r) (hC:look key C.roots=none) (hI:anyRef false key C.tmps=false) {o:O} {sh:Sh} {x:sh.den} {cs:List Value}
  (hin2:inner p=false) (ho:oP r.o p=some o) (hg:getP r.s r.x p=some ⟨sh,x⟩) (hc:cellsP w r.s (rc key).cs p=some cs) {o':O} (hs2:setO r.o p .dead=some o') (hsl:∃ e sa,shP r.s p=some (.sl e sa)) :
  ∃ bsn ls,Rel (setRc rc key ⟨(rc key).cs,bsn,(rc key).blk⟩) (ls++ex) C ⟨killI key s.tmps,upd key ⟨r.box,r.inn,r.s,o',r.x⟩ s.roots⟩ X w0 a w∧
   Rep w (fzOf X w (ls++ex++allB (setRc rc key ⟨(rc key).cs,bsn,(rc key).blk⟩) (upd key ⟨r.box,r.inn,r.s,o',r.x⟩ s.roots++C.roots))) sh o x cs ls∧
   (∀ b,b∈ls++ex++allB (setRc rc key ⟨(rc key).cs,bsn,(rc key).blk⟩) (upd key ⟨r.box,r.inn,r.s,o',r.x⟩ s.roots++C.roots)→b∈ex++allB rc (s.roots++C.roots))∧
   ∀ q,inner q=false→HS w w (getR C s) (getR C ⟨killI key s.tmps,upd key ⟨r.box,r.inn,r.s,o',r.x⟩ s.roots⟩) rc (setRc rc key ⟨(rc key).cs,bsn,(rc key).blk⟩) key q:=by
 obtain⟨e0,sa0,hsl⟩:=hsl
 have hok:=h.root hr
 obtain⟨off,cs',bs',rest,e1,e2,e3,e4,e5,e6,e7⟩:=hok.1.setField hin2 hg ho
 rw[hc]at e2;cases e2
 have hl:=e5.len
 have hnb:=h.blocks_nodup hr
 obtain⟨x3,bsn,k1,k2,k3⟩:=e7 w (fzOf X w (ex++allB rc (s.roots++C.roots))) .dead x cs [] o' (fun b hb=>⟨hb,rfl⟩) (fun b hb=>rfl) (Rep.dead x hl e5.one) hs2
 rw[setP_get hin2 hg]at k1
 cases k1
 rw[repl_self (by rw[hl];exact e4) (by rw[hl];exact e3)]at k2
 have hbl:(bs'++blocks ⟨r.box,r.inn,r.s,o',r.x⟩ ⟨(rc key).cs,bsn,(rc key).blk⟩).Perm (blocks r (rc key)):=by
  rw[blocks_box,blocks_box]
  simp only
  refine((k3.append_left _).append_left bs').trans ?_
  refine .trans ?_ (e6.symm.append_left _)
  simp only[List.nil_append]
  rw[←List.append_assoc,←List.append_assoc]
  exact List.Perm.append_right _ List.perm_append_comm
 have hHS:∀ q,inner q=false→HS w w (getR C s) (getR C ⟨killI key s.tmps,upd key ⟨r.box,r.inn,r.s,o',r.x⟩ s.roots⟩) rc (setRc rc key ⟨(rc key).cs,bsn,(rc key).blk⟩) key q:=by
  intro q hqi r1 hr1
  rw[getR_upd (ts:=s.tmps)]at hr1
  simp at hr1
  subst hr1
  exact⟨r,hr,rfl,fun c e sa hin hoq hsq hcq=>⟨hin,oP_setO_sl hin2 hsl hqi hsq hs2 hoq,by simpa [setRc]using hcq⟩⟩
 have hrel:=Rel.setRoot (ls:=[]) (ex:=ex) (r:=⟨r.box,r.inn,r.s,o',r.x⟩) (q:=⟨(rc key).cs,bsn,(rc key).blk⟩) (ts:=killI key s.tmps) (w1:=w)
  (by simpa using h) (blocks r (rc key)) bs' hC (fun hi=>⟨r,getR_s hC hr,hi,rfl,fun _=>rfl,fun _=>rfl⟩) (fun b hb=>.inr ⟨r,getR_s hC hr,hb⟩) (Nat.le_refl _) rfl rfl rfl (fun _ _ _=>rfl)
  (hbl.nodup_iff.mpr hnb) (fun b hb=>hbl.mem_iff.mp (by simp[hb]))
  (fun b hb=>⟨(h.bnd b (List.mem_append_right _ (mem_allB.mpr ⟨key,r,(mem_getR h.keys).mp hr,hbl.mem_iff.mp (by simp[hb])⟩))).1,.inl (hbl.mem_iff.mp (by simp[hb]))⟩)
  (fun fz1 hz1 _=>⟨k2.stable (fun b hb=>⟨hz1 b (by simpa using hb),rfl⟩) fun _ _=>rfl,hok.2⟩)
  (killI_sub _ _)
  (fun t v htv=>by
   refine⟨fun q hq=>hHS q ?_,fun _ r1 hr1 hb1=>?_⟩
   · rcases List.mem_append.mp htv with h'|h'
     · exact refsAt_I hq (killI_mem h').2
     · have:=anyRef_false hI h'
       rw[refsAt_refs hq]at this;cases this
   · rw[getR_upd (ts:=s.tmps)]at hr1
     simp at hr1
     subst hr1
     exact⟨r,hr,hb1,rfl,by simp[setRc]⟩)
 have hsub:∀ b,b∈bs'++ex++allB (setRc rc key ⟨(rc key).cs,bsn,(rc key).blk⟩) (upd key ⟨r.box,r.inn,r.s,o',r.x⟩ s.roots++C.roots)→b∈ex++allB rc (s.roots++C.roots):=by
  have hbm:∀ b∈blocks r (rc key),b∈ex++allB rc (s.roots++C.roots):=fun b hb=>List.mem_append_right _ (mem_allB.mpr ⟨key,r,(mem_getR h.keys).mp hr,hb⟩)
  intro b hm
  simp only[List.mem_append]at hm
  rcases hm with (hb|hb)|hb
  · exact hbm b (hbl.mem_iff.mp (by simp[hb]))
  · simp[hb]
  · rcases allB_upd (ts:=killI key s.tmps) h.keys hrel.keys hb with hb|hb
    · exact hbm b (hbl.mem_iff.mp (by simp[hb]))
    · exact List.mem_append_right _ hb
 exact⟨bsn,bs',hrel,e5.stable (fun b hb=>⟨⟨hb.1,fun hm=>hb.2 (hsub b hm),hb.3⟩,rfl⟩) (fun _ _=>rfl),hsub,hHS⟩
theorem rep_dead_nil {w:World} {fz:Nat→Prop} {s:Sh} {x:s.den} {cs:List Value} {bs:List Nat} (h:Rep w fz s .dead x cs bs):bs=[]:=by
 exact dead_nil h
theorem soft_give {ls:List Nat} (h:Rel rc (ls++ex) C s X w0 a w) {key:Nat} {p:List Step} {r:Root} (hr:getR C s key=some r) (hC:look key C.roots=none) (hI:anyRef false key C.tmps=false) {sh:Sh} {x x1:sh.den} {o1:O} {cs:List Value}
  (hin2:inner p=false) (ho:oP r.o p=some .dead) (hg:getP r.s r.x p=some ⟨sh,x⟩) (hc:cellsP w r.s (rc key).cs p=some cs) (hrep:Rep w (fzOf X w (ls++ex++allB rc (s.roots++C.roots))) sh o1 x1 cs ls)
  {o':O} (hs2:setO r.o p o1=some o') (hsl:∃ e sa,shP r.s p=some (.sl e sa)) :
  ∃ bsn x3,setP r.s r.x p ⟨sh,x1⟩=some x3∧(∀ b,b∈ex++allB (setRc rc key ⟨(rc key).cs,bsn,(rc key).blk⟩) (upd key ⟨r.box,r.inn,r.s,o',x3⟩ s.roots++C.roots)→b∈ls++ex++allB rc (s.roots++C.roots))∧Rel (setRc rc key ⟨(rc key).cs,bsn,(rc key).blk⟩) ex C ⟨killI key s.tmps,upd key ⟨r.box,r.inn,r.s,o',x3⟩ s.roots⟩ X w0 a w:=by
 obtain⟨e0,sa0,hsl⟩:=hsl
 have hok:=h.root hr
 obtain⟨off,cs',bs',rest,e1,e2,e3,e4,e5,e6,e7⟩:=hok.1.setField hin2 hg ho
 rw[hc]at e2;cases e2
 have hl:=e5.len
 have hz:bs'=[]:=by
  exact rep_dead_nil e5
 subst hz
 have hnb:=h.blocks_nodup hr
 have hex:=h.excl
 obtain⟨x3,bsn,k1,k2,k3⟩:=e7 w (fzOf X w (ls++ex++allB rc (s.roots++C.roots))) o1 x1 cs ls o' (fun b hb=>⟨hb,rfl⟩) (fun b hb=>rfl) hrep hs2
 rw[repl_self (by rw[hl];exact e4) (by rw[hl];exact e3)]at k2
 have hbl:(blocks ⟨r.box,r.inn,r.s,o',x3⟩ ⟨(rc key).cs,bsn,(rc key).blk⟩).Perm (ls++blocks r (rc key)):=by
  rw[blocks_box,blocks_box]
  simp only
  refine(k3.append_left _).trans ?_
  refine .trans ?_ ((e6.symm.append_left _).append_left ls)
  simp only[List.nil_append]
  rw[←List.append_assoc,←List.append_assoc]
  exact List.Perm.append_right _ List.perm_append_comm
 have hmr:=(mem_getR h.keys).mp hr
 have hnd:(ls++blocks r (rc key)).Nodup:=by
  rw[List.append_assoc]at hex
  refine List.nodup_append.mpr ⟨(List.nodup_append.mp hex).1,hnb,fun b hb c hc hbc=>?_⟩
  exact(List.nodup_append.mp hex).2.2 b hb c (List.mem_append_right _ (mem_allB.mpr ⟨key,r,hmr,hc⟩)) hbc
 have hrel:=Rel.setRoot (ls:=ls) (ex:=ex) (r:=⟨r.box,r.inn,r.s,o',x3⟩) (q:=⟨(rc key).cs,bsn,(rc key).blk⟩) (ts:=killI key s.tmps) (w1:=w)
  h (ls++blocks r (rc key)) [] hC (fun hi=>⟨r,getR_s hC hr,hi,rfl,fun _=>rfl,fun _=>rfl⟩) (fun b hb=>(List.mem_append.mp hb).elim .inl fun hb=>.inr ⟨r,getR_s hC hr,hb⟩) (Nat.le_refl _) rfl rfl rfl (fun _ _ _=>rfl)
  (by simpa using hbl.nodup_iff.mpr hnd) (by simp)
  (fun b hb=>by
   have hm:=hbl.mem_iff.mp hb
   refine⟨(h.bnd b ?_).1,.inl hm⟩
   rcases List.mem_append.mp hm with hm|hm
   · simp[hm]
   · exact List.mem_append_right _ (mem_allB.mpr ⟨key,r,hmr,hm⟩))
  (fun fz1 hz1 _=>⟨k2.stable (fun b hb=>⟨hz1 b hb,rfl⟩) fun _ _=>rfl,hok.2⟩)
  (killI_sub _ _)
  (fun t v htv=>by
   refine⟨fun q hq r1 hr1=>?_,fun _ r1 hr1 hb1=>?_⟩
   · rw [getR_upd (ts:=s.tmps)]at hr1
     simp at hr1
     subst hr1
     have hqi:inner q=false:=by
      rcases List.mem_append.mp htv with h'|h'
      · exact refsAt_I hq (killI_mem h').2
      · have:=anyRef_false hI h'
        rw[refsAt_refs hq]at this;cases this
     exact⟨r,hr,rfl,fun c e sa hin hoq hsq hcq=>⟨InB_fields _ hqi hsq,oP_setO_sl hin2 hsl hqi hsq hs2 hoq,by simpa [setRc]using hcq⟩⟩
   · rw[getR_upd (ts:=s.tmps)]at hr1
     simp at hr1
     subst hr1
     exact⟨r,hr,hb1,rfl,by simp[setRc]⟩)
 have hrel:Rel (setRc rc key ⟨(rc key).cs,bsn,(rc key).blk⟩) ex C ⟨killI key s.tmps,upd key ⟨r.box,r.inn,r.s,o',x3⟩ s.roots⟩ X w0 a w:=by simpa using hrel
 refine⟨bsn,x3,k1,fun b hm=>?_,hrel⟩
 simp only[List.mem_append]at hm
 rcases hm with hb|hb
 · simp[hb]
 · rcases allB_upd (ts:=killI key s.tmps) h.keys hrel.keys hb with hb|hb
   · rcases List.mem_append.mp (hbl.mem_iff.mp hb)with hb|hb
     · simp[hb]
     · exact List.mem_append_right _ (mem_allB.mpr ⟨key,r,hmr,hb⟩)
   · exact List.mem_append_right _ hb
def Grow (R:Nat→Option Root) (rc:Nat→RC) (R1:Nat→Option Root) (rc1:Nat→RC):Prop:=∀ j r,R j=some r→(rc1 j).cs=(rc j).cs∧∃ r1,R1 j=some r1∧r1.s=r.s∧r1.box=r.box
theorem Grow.trans {R R1 R2:Nat→Option Root} {rc rc1 rc2:Nat→RC} (h:Grow R rc R1 rc1) (h1:Grow R1 rc1 R2 rc2):Grow R rc R2 rc2:=by
 intro j r hr
 obtain⟨e1,r1,e2,e3,e4⟩:=h j r hr
 obtain⟨g1,r2,g2,g3,g4⟩:=h1 j r1 e2
 exact⟨g1.trans e1,r2,g2,g3.trans e3,g4.trans e4⟩
theorem Grow.refl {R:Nat→Option Root} {rc:Nat→RC}:Grow R rc R rc:=fun _ r hr=>⟨rfl,r,hr,rfl,rfl⟩
def PartOk (R:Nat→Option Root) (rc:Nat→RC) (q:Prt):Prop:=
 ∃ r u,R q.key=some r∧R q.k=some u∧u.box=false∧(∃ e sa,shP r.s q.p=some (.sl e sa))∧∀ w,cellsP w r.s (rc q.key).cs q.p=some (rc q.k).cs
theorem PartOk.grow {R R1:Nat→Option Root} {rc rc1:Nat→RC} {q:Prt} (h:PartOk R rc q) (hg:Grow R rc R1 rc1):PartOk R1 rc1 q:=by
 obtain⟨r,u,h1,h2,h3,h4,h5⟩:=h
 obtain⟨e1,r1,e2,e3,e4⟩:=hg _ _ h1
 obtain⟨g1,u1,g2,g3,g4⟩:=hg _ _ h2
 exact⟨r1,u1,e2,g2,g4.trans h3,by rw[e3];exact h4,fun w=>by rw[e3,e1,g1];exact h5 w⟩
def JoinI (R:Nat→Option Root) (rc:Nat→RC) (q:Prt):Prop:=∀ r,R q.key=some r→(∃ e sa,shP r.s q.p=some (.sl e sa))∧∀ w,cellsP w r.s (rc q.key).cs q.p=some (rc q.k).cs
def Carry (w:World) (fz:Nat→Prop) (R:Nat→Option Root) (rc:Nat→RC) (fz1:Nat→Prop) (R1:Nat→Option Root) (rc1:Nat→RC) (l:List Prt):Prop:=
 ∀ v,clearP l v=true→(∀ cs,VCells w fz R rc v cs→VCells w fz1 R1 rc1 v cs)∧∀ c,VOk w fz R rc v c→VOk w fz1 R1 rc1 v c
theorem clearP_append {l m:List Prt} {v:Val}:clearP (l++m) v=true↔clearP l v=true∧clearP m v=true:=by simp[clearP,List.all_append]
theorem Carry.trans {fz fz1 fz2:Nat→Prop} {R R1 R2:Nat→Option Root} {rc rc1 rc2:Nat→RC} {l m:List Prt} (h:Carry w fz R rc fz1 R1 rc1 l) (h1:Carry w fz1 R1 rc1 fz2 R2 rc2 m):Carry w fz R rc fz2 R2 rc2 (l++m):=by
 intro v hv
 obtain⟨e1,e2⟩:=clearP_append.mp hv
 exact⟨fun cs hc=>(h1 v e2).1 cs ((h v e1).1 cs hc),fun c hc=>(h1 v e2).2 c ((h v e1).2 c hc)⟩
theorem Carry.nil {fz:Nat→Prop} {R:Nat→Option Root} {rc:Nat→RC}:Carry w fz R rc fz R rc []:=fun _ _=>⟨fun _ h=>h,fun _ h=>h⟩
theorem splitOne_ok (h:Rel rc ex C s X w0 a w) {key:Nat} {p:List Step} {k:Nat} {s1:St} (hs:splitOne C s key p k=some s1) {cs:List Value}
  (hv:VCells w (fzOf X w (ex++allB rc (s.roots++C.roots))) (getR C s) rc (.own key p) cs) :
  ∃ rc1,Rel rc1 ex C s1 X w0 a w∧Grow (getR C s) rc (getR C s1) rc1∧PartOk (getR C s1) rc1 ⟨key,p,k⟩∧VCells w (fzOf X w (ex++allB rc1 (s1.roots++C.roots))) (getR C s1) rc1 (.own k []) cs∧
   Carry w (fzOf X w (ex++allB rc (s.roots++C.roots))) (getR C s) rc (fzOf X w (ex++allB rc1 (s1.roots++C.roots))) (getR C s1) rc1 [⟨key,p,k⟩]:=by
 unfold splitOne at hs
 split at hs<;>try (simp at hs;done)
 rename_i r hr hC hI hin hk hkn
 split at hs<;>try (simp at hs;done)
 rename_i o sh x o' ho hg hs2
 obtain⟨hinb,_,hc,e,sa,hsl⟩:=hv r hr
 have hsh:shP r.s p=some sh:=getP_shP hg
 rw[hsl]at hsh;cases hsh
 obtain⟨bsn,ls,h1,g1,g2,g3⟩:=soft_take h hr hC hI hin ho hg hc hs2 ⟨e,sa,hsl⟩
 have hne:key≠k:=fun he=>by subst he;simp at hk
 have hnew:=Rel.new (q:=⟨cs,ls,0⟩) (w1:=w) h1 hs (Nat.le_refl _) rfl rfl rfl (fun _ _ _=>rfl) (by simpa [blocks]using h1.ls_nodup)
  (fun b hb=>⟨h1.ls_lt (by simpa [blocks]using hb),.inl (by simpa [blocks]using hb)⟩)
  (fun fz1 hz _=>⟨g1.stable (fun b hb=>⟨hz b hb,rfl⟩) fun _ _=>rfl,by simp⟩)
 have hsub:=new_sub h1 hs hnew (fun j hj=>by simp[setRc,hj]) (fun b hb=>by simpa [blocks,setRc]using hb)
 have hgn:=getR_new hs
 obtain⟨_,_,rfl⟩:=newRoot_eq hs
 have hR:∀ j,j≠k→getR C ⟨killT true k (killI key s.tmps),upd k ⟨false,false,.sl e sa,o,x⟩ (upd key ⟨r.box,r.inn,r.s,o',r.x⟩ s.roots)⟩ j=getR C ⟨killI key s.tmps,upd key ⟨r.box,r.inn,r.s,o',r.x⟩ s.roots⟩ j:=by
  intro j hj;rw[getR_upd (ts:=killI key s.tmps)];simp[hj]
 have hR1:∀ j,j≠key→getR C ⟨killI key s.tmps,upd key ⟨r.box,r.inn,r.s,o',r.x⟩ s.roots⟩ j=getR C s j:=by
  intro j hj;rw[getR_upd (ts:=s.tmps)];simp[hj]
 have hRk:getR C ⟨killI key s.tmps,upd key ⟨r.box,r.inn,r.s,o',r.x⟩ s.roots⟩ key=some ⟨r.box,r.inn,r.s,o',r.x⟩:=by
  rw[getR_upd (ts:=s.tmps)];simp
 have hkR:∀ j r',getR C s j=some r'→j≠k:=fun j r' hj he=>by subst he;rw[hkn]at hj;cases hj
 have hfz:∀ b,fzOf X w (ex++allB rc (s.roots++C.roots)) b→fzOf X w (ex++allB (setRc (setRc rc key ⟨(rc key).cs,bsn,(rc key).blk⟩) k ⟨cs,ls,0⟩) (upd k ⟨false,false,.sl e sa,o,x⟩ (upd key ⟨r.box,r.inn,r.s,o',r.x⟩ s.roots)++C.roots)) b∧w.heap[b]? = w.heap[b]?:=
  fun b hb=>⟨⟨hb.1,fun hm=>hb.2 (g2 b (hsub b hm)),hb.3⟩,rfl⟩
 have hcsk:∀ w',cellsP w' r.s (rc key).cs p=some cs:=fun w'=>by rw[cellsP_fields hin];exact hc
 refine⟨_,hnew,?_,?_,?_,?_⟩
 · intro j r' hj
   have hjk:=hkR j r' hj
   refine⟨?_,?_⟩
   · by_cases hjy:j=key
     · subst hjy;simp[setRc,hjk]
     · simp[setRc,hjk,hjy]
   · rw[hR j hjk]
     by_cases hjy:j=key
     · subst hjy;rw[hr]at hj;cases hj;exact⟨_,hRk,rfl,rfl⟩
     · rw[hR1 j hjy];exact⟨r',hj,rfl,rfl⟩
 · refine⟨⟨r.box,r.inn,r.s,o',r.x⟩,_,by rw[hR key hne];exact hRk,hgn,rfl,⟨e,sa,hsl⟩,fun w'=>?_⟩
   simp only[setRc,hne,if_false,if_true]
   exact hcsk w'
 · intro r' hr'
   rw[hgn]at hr';cases hr'
   refine⟨trivial,⟨o,by cases o<;>rfl⟩,?_,e,sa,rfl⟩
   simp[setRc,cellsP]
 · intro v hv
   simp only[clearP,List.all_cons,List.all_nil,Bool.and_true,Bool.and_eq_true,Bool.not_eq_true']at hv
   have hrt:=refs_true_of hv.2
   have hHS:∀ j q,refsAt j q v→HS w w (getR C s) (getR C ⟨killT true k (killI key s.tmps),upd k ⟨false,false,.sl e sa,o,x⟩ (upd key ⟨r.box,r.inn,r.s,o',r.x⟩ s.roots)⟩) rc (setRc (setRc rc key ⟨(rc key).cs,bsn,(rc key).blk⟩) k ⟨cs,ls,0⟩) j q:=by
    intro j q hq
    have hjk:j≠k:=fun he=>by subst he;rw[refsAt_refs hq]at hrt;simp at hrt
    by_cases hjy:j=key
    · subst hjy
      intro r1 hr1
      rw[hR j hjk]at hr1
      obtain⟨r2,m1,m2,m3⟩:=g3 q (refsAt_I hq hv.1) r1 hr1
      exact⟨r2,m1,m2,fun c e a n1 n2 n3 n4=>by
       have:=m3 c e a n1 n2 n3 n4
       rw[show setRc (setRc rc j ⟨(rc j).cs,bsn,(rc j).blk⟩) k ⟨cs,ls,0⟩ j=setRc rc j ⟨(rc j).cs,bsn,(rc j).blk⟩ j by simp[setRc,hjk]]
       exact this⟩
    · exact HS.same (fz:=fun _=>True) ((hR j hjk).trans (hR1 j hjy)) (by simp[setRc,hjk,hjy]) (fun r hr=>⟨(h.root hr).stable (fun b _=>⟨trivial,rfl⟩) fun _ _=>rfl,fun _ _=>rfl⟩) fun _ _=>rfl
   have hBS:∀ j,brefs j v=true→BS (getR C s) (getR C ⟨killT true k (killI key s.tmps),upd k ⟨false,false,.sl e sa,o,x⟩ (upd key ⟨r.box,r.inn,r.s,o',r.x⟩ s.roots)⟩) rc (setRc (setRc rc key ⟨(rc key).cs,bsn,(rc key).blk⟩) k ⟨cs,ls,0⟩) j:=by
    intro j hj
    have hjk:j≠k:=fun he=>by subst he;rw[hrt.2]at hj;cases hj
    by_cases hjy:j=key
    · subst hjy
      intro r1 hr1 hb1
      rw[hR j hjk,hRk]at hr1
      cases hr1
      exact⟨r,hr,hb1,rfl,by simp[setRc,hjk]⟩
    · exact BS.same ((hR j hjk).trans (hR1 j hjy)) (by simp[setRc,hjk,hjy])
   exact⟨fun cs hc=>hc.stable hfz hHS hBS,fun c hc=>hc.stable hfz hHS hBS⟩
theorem splitV_ok {dup:List Nat}:∀ {v:Val} {o:O} {n:Nat} {s:St} {rc:Nat→RC} {v1:Val} {l:List Prt} {n1:Nat} {s1:St} {cs:List Value},Rel rc ex C s X w0 a w→splitV C dup o v n s=some (v1,l,n1,s1)→
  VCells w (fzOf X w (ex++allB rc (s.roots++C.roots))) (getR C s) rc v cs→
  ∃ rc1,Rel rc1 ex C s1 X w0 a w∧Grow (getR C s) rc (getR C s1) rc1∧(∀ q∈l,PartOk (getR C s1) rc1 q)∧VCells w (fzOf X w (ex++allB rc1 (s1.roots++C.roots))) (getR C s1) rc1 v1 cs∧aggV v1=aggV v∧
   Carry w (fzOf X w (ex++allB rc (s.roots++C.roots))) (getR C s) rc (fzOf X w (ex++allB rc1 (s1.roots++C.roots))) (getR C s1) rc1 l:=by
 intro v
 have triv:∀ {v:Val} {n:Nat} {s:St} {rc:Nat→RC} {v1:Val} {l:List Prt} {n1:Nat} {s1:St} {cs:List Value},Rel rc ex C s X w0 a w→some (v,([]:List Prt),n,s)=some (v1,l,n1,s1)→
   VCells w (fzOf X w (ex++allB rc (s.roots++C.roots))) (getR C s) rc v cs→
   ∃ rc1,Rel rc1 ex C s1 X w0 a w∧Grow (getR C s) rc (getR C s1) rc1∧(∀ q∈l,PartOk (getR C s1) rc1 q)∧VCells w (fzOf X w (ex++allB rc1 (s1.roots++C.roots))) (getR C s1) rc1 v1 cs∧aggV v1=aggV v∧
    Carry w (fzOf X w (ex++allB rc (s.roots++C.roots))) (getR C s) rc (fzOf X w (ex++allB rc1 (s1.roots++C.roots))) (getR C s1) rc1 l:=by
  intro v n s rc v1 l n1 s1 cs h e hv
  simp only[Option.some.injEq,Prod.mk.injEq]at e
  obtain⟨rfl,rfl,rfl,rfl⟩:=e
  exact⟨rc,h,.refl,by simp,hv,rfl,.nil⟩
 induction v with
 | own key p=>
   intro o n s rc v1 l n1 s1 cs h hs hv
   by_cases ho:o = .z
   · subst ho;exact triv h hs hv
   · have hs:(match memN key dup with
      | true=>match splitOne C s key p n with
        |some s'=>some (Val.own n [],[(⟨key,p,n⟩:Prt)],n+1000,s')
        |none=>none
      |false=>some (.own key p,[],n,s))=some (v1,l,n1,s1):=by
      cases o<;>first|exact absurd rfl ho|exact hs
     split at hs
     · split at hs
       · rename_i s' e
         simp only[Option.some.injEq,Prod.mk.injEq]at hs
         obtain⟨rfl,rfl,rfl,rfl⟩:=hs
         obtain⟨rc1,h1,g1,g2,g3,g4⟩:=splitOne_ok h e hv
         exact⟨rc1,h1,g1,by simpa using g2,g3,rfl,g4⟩
       · simp at hs
     · exact triv h hs hv
 | pair a b iha ihb=>
   intro o n s rc v1 l n1 s1 cs h hs hv
   cases o with
   | pr oa ob=>
     simp only[splitV]at hs
     split at hs<;>try (simp at hs;done)
     rename_i v' l1 m1 s2 e1
     split at hs<;>try (simp at hs;done)
     rename_i w' l2 m2 s3 e2 e3
     split at hs<;>try (simp at hs;done)
     rename_i e4
     simp only[Option.some.injEq,Prod.mk.injEq]at hs
     obtain⟨rfl,rfl,rfl,rfl⟩:=hs
     obtain⟨c1,c2,rfl,hv1,hv2⟩:=hv
     obtain⟨rc1,h1,g1,g2,g3,g4,g5⟩:=iha h e1 hv1
     obtain⟨rc2,h2,k1,k2,k3,k4,k5⟩:=ihb h1 e2 ((g5 b e3).1 _ hv2)
     refine⟨rc2,h2,g1.trans k1,fun q hq=>?_,⟨c1,c2,rfl,(k5 _ e4).1 _ g3,k3⟩,rfl,g5.trans k5⟩
     rcases List.mem_append.mp hq with hq|hq
     · exact(g2 q hq).grow k1
     · exact k2 q hq
   |_=>exact triv h hs hv
 |_=>intro o n s rc v1 l n1 s1 cs h hs hv;cases o<;>exact triv h hs hv
theorem splitW_ok {dup:List Nat} {v:Val} {o:O} {n:Nat} {v1:Val} {l:List Prt} {n1:Nat} {s1:St} {c:Value} (h:Rel rc ex C s X w0 a w) (hs:splitV C dup o v n s=some (v1,l,n1,s1))
  (hv:VOk w (fzOf X w (ex++allB rc (s.roots++C.roots))) (getR C s) rc v c) :
  ∃ rc1,Rel rc1 ex C s1 X w0 a w∧Grow (getR C s) rc (getR C s1) rc1∧(∀ q∈l,PartOk (getR C s1) rc1 q)∧VOk w (fzOf X w (ex++allB rc1 (s1.roots++C.roots))) (getR C s1) rc1 v1 c∧
   Carry w (fzOf X w (ex++allB rc (s.roots++C.roots))) (getR C s) rc (fzOf X w (ex++allB rc1 (s1.roots++C.roots))) (getR C s1) rc1 l:=by
 have triv:some (v,([]:List Prt),n,s)=some (v1,l,n1,s1)→∃ rc1,Rel rc1 ex C s1 X w0 a w∧Grow (getR C s) rc (getR C s1) rc1∧(∀ q∈l,PartOk (getR C s1) rc1 q)∧VOk w (fzOf X w (ex++allB rc1 (s1.roots++C.roots))) (getR C s1) rc1 v1 c∧
   Carry w (fzOf X w (ex++allB rc (s.roots++C.roots))) (getR C s) rc (fzOf X w (ex++allB rc1 (s1.roots++C.roots))) (getR C s1) rc1 l:=by
  intro e
  simp only[Option.some.injEq,Prod.mk.injEq]at e
  obtain⟨rfl,rfl,rfl,rfl⟩:=e
  exact⟨rc,h,.refl,by simp,hv,.nil⟩
 have main:(∀ a b,v≠.tup a b)→v≠.tnil→v≠.undef→∃ rc1,Rel rc1 ex C s1 X w0 a w∧Grow (getR C s) rc (getR C s1) rc1∧(∀ q∈l,PartOk (getR C s1) rc1 q)∧VOk w (fzOf X w (ex++allB rc1 (s1.roots++C.roots))) (getR C s1) rc1 v1 c∧
   Carry w (fzOf X w (ex++allB rc (s.roots++C.roots))) (getR C s) rc (fzOf X w (ex++allB rc1 (s1.roots++C.roots))) (getR C s1) rc1 l:=by
  intro n1 n2 n3
  obtain⟨cs,hc,rfl⟩:=hv.cells n1 n2 n3
  obtain⟨rc1,h1,g1,g2,g3,g4,g5⟩:=splitV_ok h hs hc
  exact⟨rc1,h1,g1,g2,by rw[←g4];exact g3.vok,g5⟩
 cases v with
 |tup a b=>cases o<;>exact triv hs
 |tnil=>cases o<;>exact triv hs
 |undef=>cases o<;>exact triv hs
 |_=>exact main (by simp) (by simp) (by simp)
theorem splitAll_ok {dup:List Nat}:∀ {vs:List Val} {os:List O} {n:Nat} {s:St} {rc:Nat→RC} {vs1:List Val} {l:List Prt} {n1:Nat} {s1:St} {cs:List Value},Rel rc ex C s X w0 a w→splitAll C dup os vs n s=some (vs1,l,n1,s1)→
  AllOk w (fzOf X w (ex++allB rc (s.roots++C.roots))) (getR C s) rc vs cs→
  ∃ rc1,Rel rc1 ex C s1 X w0 a w∧Grow (getR C s) rc (getR C s1) rc1∧(∀ q∈l,PartOk (getR C s1) rc1 q)∧AllOk w (fzOf X w (ex++allB rc1 (s1.roots++C.roots))) (getR C s1) rc1 vs1 cs∧
   Carry w (fzOf X w (ex++allB rc (s.roots++C.roots))) (getR C s) rc (fzOf X w (ex++allB rc1 (s1.roots++C.roots))) (getR C s1) rc1 l:=by
 intro vs
 have triv:∀ {vs:List Val} {n:Nat} {s:St} {rc:Nat→RC} {vs1:List Val} {l:List Prt} {n1:Nat} {s1:St} {cs:List Value},Rel rc ex C s X w0 a w→some (vs,([]:List Prt),n,s)=some (vs1,l,n1,s1)→
   AllOk w (fzOf X w (ex++allB rc (s.roots++C.roots))) (getR C s) rc vs cs→
   ∃ rc1,Rel rc1 ex C s1 X w0 a w∧Grow (getR C s) rc (getR C s1) rc1∧(∀ q∈l,PartOk (getR C s1) rc1 q)∧AllOk w (fzOf X w (ex++allB rc1 (s1.roots++C.roots))) (getR C s1) rc1 vs1 cs∧
    Carry w (fzOf X w (ex++allB rc (s.roots++C.roots))) (getR C s) rc (fzOf X w (ex++allB rc1 (s1.roots++C.roots))) (getR C s1) rc1 l:=by
  intro vs n s rc v1 l n1 s1 cs h e hv
  simp only[Option.some.injEq,Prod.mk.injEq]at e
  obtain⟨rfl,rfl,rfl,rfl⟩:=e
  exact⟨rc,h,.refl,by simp,hv,.nil⟩
 induction vs with
 |nil=>intro os n s rc vs1 l n1 s1 cs h hs hv;cases os<;>exact triv h hs hv
 | cons v vs ih=>
   intro os n s rc vs1 l n1 s1 cs h hs hv
   cases os with
   |nil=>exact triv h hs hv
   | cons o os=>
     simp only[splitAll]at hs
     split at hs<;>try (simp at hs;done)
     rename_i v' l1 m1 s2 e1
     split at hs<;>try (simp at hs;done)
     rename_i w' l2 m2 s3 e2 e3
     split at hs<;>try (simp at hs;done)
     rename_i e4
     simp only[Option.some.injEq,Prod.mk.injEq]at hs
     obtain⟨rfl,rfl,rfl,rfl⟩:=hs
     obtain⟨c,cs',rfl,hv1,hv2⟩:=hv
     obtain⟨rc1,h1,g1,g2,g3,g5⟩:=splitW_ok h e1 hv1
     have hall:∀ {us:List Val} {ds:List Value},us.all (clearP l1)=true→AllOk w (fzOf X w (ex++allB rc (s.roots++C.roots))) (getR C s) rc us ds→AllOk w (fzOf X w (ex++allB rc1 (s2.roots++C.roots))) (getR C s2) rc1 us ds:=by
      intro us
      induction us with
      |nil=>intro ds _ h;exact h
      | cons u us ihu=>
        rintro ds hc ⟨c,ds',rfl,h1,h2⟩
        simp only[List.all_cons,Bool.and_eq_true]at hc
        exact⟨c,ds',rfl,(g5 u hc.1).2 _ h1,ihu hc.2 h2⟩
     obtain⟨rc2,h2,k1,k2,k3,k5⟩:=ih h1 e2 (hall e3 hv2)
     refine⟨rc2,h2,g1.trans k1,fun q hq=>?_,⟨c,cs',rfl,(k5 _ e4).2 _ g3,k3⟩,g5.trans k5⟩
     rcases List.mem_append.mp hq with hq|hq
     · exact(g2 q hq).grow k1
     · exact k2 q hq
theorem joinOne_ok (h:Rel rc ex C s X w0 a w) {q:Prt} {s1:St} (hs:joinOne C s q=some s1) (hj:JoinI (getR C s) rc q) :
  ∃ rc1,Rel rc1 ex C s1 X w0 a w∧(∀ j,(rc1 j).cs=(rc j).cs)∧(∀ j r1,getR C s1 j=some r1→∃ r,getR C s j=some r∧r.s=r1.s)∧∀ b,b∈ex++allB rc1 (s1.roots++C.roots)→b∈ex++allB rc (s.roots++C.roots):=by
 unfold joinOne at hs
 split at hs<;>try (simp at hs;done)
 rename_i r u hr hu hC hCk hI hA hne
 split at hs<;>try (simp at hs;done)
 rename_i sh y ho hg hb
 split at hs<;>try (simp at hs;done)
 rename_i x1 hsl hx
 split at hs<;>try (simp at hs;done)
 rename_i o' x' hso hsx
 simp only[Option.some.injEq]at hs
 subst hs
 have hin:=setO_inner hso
 have hkn:q.key≠q.k:=fun he=>by rw[he]at hne;simp at hne
 obtain⟨hsp,hhd⟩:=hj r hr
 obtain⟨h1,hiff,hnone⟩:=h.dropRoot hu hCk hA
 have hR1:∀ j,j≠q.k→getR C ⟨killT true q.k s.tmps,del q.k s.roots⟩ j=getR C s j:=by
  intro j hj;unfold getR;simp only[look_del hj]
 have hr1:getR C ⟨killT true q.k s.tmps,del q.k s.roots⟩ q.key=some r:=by rw[hR1 _ hkn];exact hr
 have hok:=h.root hu
 have hlb:blocks u (rc q.k)=(rc q.k).bs:=by simp[blocks,hb]
 have hrep:Rep w (fzOf X w (blocks u (rc q.k)++ex++allB rc (del q.k s.roots++C.roots))) u.s u.o u.x (rc q.k).cs (blocks u (rc q.k)):=by
  rw[hlb]
  exact hok.1.stable (fun b hb'=>⟨⟨hb'.1,fun hm=>hb'.2 ((hiff b).mp (by rw[hlb];exact hm)),hb'.3⟩,rfl⟩) fun _ _=>rfl
 have hus:u.s=sh:=by
  unfold castD at hx
  split at hx
  · assumption
  · simp at hx
 subst hus
 rw[castD_self]at hx
 simp only[Option.some.injEq]at hx
 subst hx
 obtain⟨bsn,x3,k1,k2,h2⟩:=soft_give h1 hr1 hC hI hin ho hg (hhd w) hrep hso hsp
 rw[hsx]at k1
 cases k1
 refine⟨_,h2,fun j=>?_,fun j r1 hj1=>?_,fun b hb'=>(hiff b).mp (k2 b hb')⟩
 · by_cases hjk:j=q.key
   · subst hjk;simp[setRc]
   · simp[setRc,hjk]
 · rw[getR_upd (ts:=killT true q.k s.tmps)]at hj1
   by_cases hjk:j=q.key
   · subst hjk
     simp only[if_true,Option.some.injEq]at hj1
     subst hj1
     exact⟨r,hr,rfl⟩
   · simp only[hjk,if_false]at hj1
     by_cases hjk2:j=q.k
     · subst hjk2;rw[hnone]at hj1;cases hj1
     · rw[hR1 j hjk2]at hj1;exact⟨r1,hj1,rfl⟩
theorem joinAll_ok:∀ {l:List Prt} {s:St} {rc:Nat→RC} {s1:St},Rel rc ex C s X w0 a w→joinAll C s l=some s1→(∀ q∈l,JoinI (getR C s) rc q)→
  ∃ rc1,Rel rc1 ex C s1 X w0 a w∧∀ b,b∈ex++allB rc1 (s1.roots++C.roots)→b∈ex++allB rc (s.roots++C.roots):=by
 intro l
 induction l with
 |nil=>intro s rc s1 h hs _;simp only[joinAll,Option.some.injEq]at hs;subst hs;exact⟨rc,h,fun _ h=>h⟩
 | cons q l ih=>
   intro s rc s1 h hs hj
   simp only[joinAll]at hs
   split at hs
   · rename_i s2 e
     obtain⟨rc1,h1,g1,g2,g3⟩:=joinOne_ok h e (hj q (by simp))
     obtain⟨rc2,h2,k⟩:=ih h1 hs fun q2 hq2 r1 hr1=>by
      obtain⟨r,m1,m2⟩:=g2 _ _ hr1
      obtain⟨n1,n2⟩:=hj q2 (by simp[hq2]) r m1
      rw[m2]at n1 n2
      exact⟨n1,fun w=>by rw[g1,g1];exact n2 w⟩
     exact⟨rc2,h2,fun b hb=>g3 b (k b hb)⟩
   · simp at hs
theorem softOne_ok (h:Rel rc ex C s X w0 a w) {o:O} {v:Val} {c:Value} {s1:St} (hs:softOne C s o v=some s1) (hv:VOk w (fzOf X w (ex++allB rc (s.roots++C.roots))) (getR C s) rc v c) :
  ∃ rc1,Rel rc1 ex C s1 X w0 a w∧∀ v c,VOk w (fzOf X w (ex++allB rc (s.roots++C.roots))) (getR C s) rc v c→VOk w (fzOf X w (ex++allB rc1 (s1.roots++C.roots))) (getR C s1) rc1 v c:=by
 have same:some s=some s1→∃ rc1,Rel rc1 ex C s1 X w0 a w∧∀ v c,VOk w (fzOf X w (ex++allB rc (s.roots++C.roots))) (getR C s) rc v c→VOk w (fzOf X w (ex++allB rc1 (s1.roots++C.roots))) (getR C s1) rc1 v c:=by
  intro e;cases e;exact⟨rc,h,fun _ _ h=>h⟩
 cases v with
 | own key p=>
   simp only[softOne]at hs
   split at hs<;>try (simp at hs;done)
   rename_i r hr hC hin
   split at hs<;>try (simp at hs;done)
   rename_i o' ho
   split at hs
   · exact same hs
   · split at hs<;>try (simp at hs;done)
     rename_i o1
     split at hs<;>try (simp at hs;done)
     rename_i o2 hal hs2
     obtain⟨cs,hvc,_⟩:=hv
     unfold inRoot at hs
     split at hs<;>try (simp at hs;done)
     cases hs
     obtain⟨rc1,q1,q2,_⟩:=weaken_ok h hr hC hin ho hal hs2 (let ⟨_,_,_,e,sa,hsl⟩:=hvc r hr;⟨e,sa,hsl⟩)
     exact⟨rc1,q1,q2⟩
 |_=>exact same hs
theorem softAll_ok:∀ {vs:List Val} {os:List O} {s s1:St} {rc:Nat→RC} {cs:List Value},Rel rc ex C s X w0 a w→softAll C os vs s=some s1→AllOk w (fzOf X w (ex++allB rc (s.roots++C.roots))) (getR C s) rc vs cs→
  ∃ rc1,Rel rc1 ex C s1 X w0 a w∧∀ v c,VOk w (fzOf X w (ex++allB rc (s.roots++C.roots))) (getR C s) rc v c→VOk w (fzOf X w (ex++allB rc1 (s1.roots++C.roots))) (getR C s1) rc1 v c:=by
 intro vs
 induction vs with
 |nil=>intro os s s1 rc cs h hs hv;cases os<;>(simp only[softAll,Option.some.injEq]at hs;subst hs;exact⟨rc,h,fun _ _ h=>h⟩)
 | cons v vs ih=>
   intro os s s1 rc cs h hs hv
   cases os with
   |nil=>simp only[softAll,Option.some.injEq]at hs;subst hs;exact⟨rc,h,fun _ _ h=>h⟩
   | cons o os=>
     simp only[softAll]at hs
     split at hs
     · rename_i s2 e
       obtain⟨c,cs',rfl,hv1,hv2⟩:=hv
       obtain⟨rc1,h1,g1⟩:=softOne_ok h e hv1
       have hall:∀ {us:List Val} {ds:List Value},AllOk w (fzOf X w (ex++allB rc (s.roots++C.roots))) (getR C s) rc us ds→AllOk w (fzOf X w (ex++allB rc1 (s2.roots++C.roots))) (getR C s2) rc1 us ds:=by
        intro us
        induction us with
        |nil=>intro ds h;exact h
        |cons u us ihu=>rintro ds ⟨c,ds',rfl,q1,q2⟩;exact⟨c,ds',rfl,g1 _ _ q1,ihu q2⟩
       obtain⟨rc2,h2,g2⟩:=ih h1 hs (hall hv2)
       exact⟨rc2,h2,fun v c hv=>g2 v c (g1 v c hv)⟩
     · simp at hs
end
end Go.V
namespace Go.V
open Go
section
variable {P:Program} {C s:St} {X:Fr} {w0 w:World} {a:Act} {rc:Nat→RC}
theorem Rel.exDrop {rest ex:List Nat} (h:Rel rc (rest++ex) C s X w0 a w):Rel rc ex C s X w0 a w∧∀ b∈rest,fzOf X w (ex++allB rc (s.roots++C.roots)) b:=by
 have hnd:(rest++(ex++allB rc (s.roots++C.roots))).Nodup:=by rw[←List.append_assoc];exact h.excl
 have hin:∀ b∈ex++allB rc (s.roots++C.roots),b∈rest++ex++allB rc (s.roots++C.roots):=fun b hb=>by rw[List.append_assoc];exact List.mem_append_right _ hb
 have hf:∀ b,fzOf X w (rest++ex++allB rc (s.roots++C.roots)) b→fzOf X w (ex++allB rc (s.roots++C.roots)) b:=fun b hb=>⟨hb.1,fun hm=>hb.2 (hin b hm),hb.3⟩
 refine⟨⟨h.keys,(List.nodup_append.mp hnd).2.1,fun b hb=>h.bnd b (hin b hb),fun k r hk=>(h.roots k r hk).stable (fun b hb=>⟨hf b hb,rfl⟩) fun _ _=>rfl,h.tn,h.td,fun t v htv=>?_,h.ext,h.nd,h.zok,h.cfx,h.tsz,h.inn⟩,fun b hb=>?_⟩
 · obtain⟨c,h1,h2⟩:=h.tm t v htv
   refine⟨c,h1,h2.stable (fun b hb=>⟨hf b hb,rfl⟩) (fun k _ _=>HS.same (fz:=fun _=>True) rfl rfl (fun r hr=>⟨?_,fun _ _=>rfl⟩) fun _ _=>rfl) fun k _=>BS.same rfl rfl⟩
   exact(h.root hr).stable (fun b _=>⟨trivial,rfl⟩) fun _ _=>rfl
 · have hm:b∈rest++ex++allB rc (s.roots++C.roots):=by simp[hb]
   exact⟨(h.bnd b hm).1,fun hm2=>(List.nodup_append.mp hnd).2.2 b hb b hm2 rfl,(h.bnd b hm).2.elim (h.zok.1 b) (h.zok.2 b)⟩
theorem fixB_cells {fz fz1:Nat→Prop} {R R1:Nat→Option Root} {k blk:Nat} {sh:Sh} {x:sh.den} (hf:∀ b,fz b→fz1 b)
  (hS:∀ v cs,refs true k v=false→VCells w fz R rc v cs→VCells w fz1 R1 rc v cs) (hP:Rep w fz1 (.ptr sh) .z x [.pointer (some ⟨blk,0,none⟩)] [])
  (hB:∀ cs,VCells w fz R rc (.baddr k []) cs→cs=[.pointer (some ⟨blk,0,none⟩)]):∀ {v:Val} {cs:List Value},refs true k (fixB k sh x v)=false→VCells w fz R rc v cs→VCells w fz1 R1 rc (fixB k sh x v) cs:=by
 intro v
 induction v with
 | baddr key p=>
   intro cs hr h
   simp only[fixB]at hr ⊢
   cases e:Nat.beq key k with
   |false=>rw[e]at hr;exact hS _ _ hr h
   | true=>
     cases p with
     |cons t p=>rw[e]at hr;exact hS _ _ hr h
     | nil=>
       have:=Nat.eq_of_beq_eq_true e
       subst this
       rw[hB _ h]
       exact hP
 | pair a b iha ihb=>
   rintro cs hr ⟨c1,c2,rfl,h1,h2⟩
   simp only[fixB,refs,Bool.or_eq_false_iff]at hr
   exact⟨c1,c2,rfl,iha hr.1 h1,ihb hr.2 h2⟩
 |clo f c ih=>rintro cs hr ⟨ccs,rfl,h1⟩;exact⟨ccs,rfl,ih hr h1⟩
 |vbox c ih=>rintro cs hr ⟨b,off,cur,e,pre,ccs,post,rfl,h1,h2,h3,h4,h5⟩;exact⟨b,off,cur,e,pre,ccs,post,rfl,hf _ h1,h2,h3,h4,ih hr h5⟩
 |tup a b iha ihb=>intro cs _ h;exact h.elim
 |_=>intro cs hr h;exact hS _ _ hr h
theorem fixB_agg {k:Nat} {sh:Sh} {x:sh.den} {v:Val}:aggV (fixB k sh x v)=aggV v:=by
 cases v<;>try rfl
 rename_i key p
 simp only[fixB]
 split<;>rfl
theorem fixB_ok {fz fz1:Nat→Prop} {R R1:Nat→Option Root} {k blk:Nat} {sh:Sh} {x:sh.den} (hf:∀ b,fz b→fz1 b)
  (hS:∀ v cs,refs true k v=false→VCells w fz R rc v cs→VCells w fz1 R1 rc v cs) (hP:Rep w fz1 (.ptr sh) .z x [.pointer (some ⟨blk,0,none⟩)] [])
  (hB:∀ cs,VCells w fz R rc (.baddr k []) cs→cs=[.pointer (some ⟨blk,0,none⟩)]):∀ {v:Val} {c:Value},refs true k (fixB k sh x v)=false→VOk w fz R rc v c→VOk w fz1 R1 rc (fixB k sh x v) c:=by
 intro v
 induction v with
 | tup a b iha ihb=>
   rintro c hr ⟨v,vs,rfl,h1,h2⟩
   simp only[fixB,refs,Bool.or_eq_false_iff]at hr
   exact⟨v,vs,rfl,iha hr.1 h1,ihb hr.2 h2⟩
 |tnil=>intro c _ h;exact h
 |undef=>intro c _ _;trivial
 | baddr key p=>
   rintro c hr ⟨cs,h,rfl⟩
   have h':=fixB_cells hf hS hP hB hr h
   have ha:aggV (fixB k sh x (.baddr key p))=false:=fixB_agg
   simp only[fixB]at h' ha ⊢
   cases e:Nat.beq key k with
   |false=>rw[e]at h';exact⟨cs,h',rfl⟩
   | true=>cases p with
     |nil=>rw[e]at h';exact⟨cs,h',rfl⟩
     |cons t p=>rw[e]at h';exact⟨cs,h',rfl⟩
 |_=>rintro c hr ⟨cs,h,rfl⟩;exact⟨cs,fixB_cells hf hS hP hB hr h,rfl⟩
theorem boxOne_ok (h:Rel rc [] C s X w0 a w) {vs vs1:List Val} {cs:List Value} {k:Nat} {s1:St} (hb:boxOne C s vs k=some (s1,vs1)) (hv:AllOk w (fzOf X w ([]++allB rc (s.roots++C.roots))) (getR C s) rc vs cs) :
  Rel rc [] C s1 X w0 a w∧AllOk w (fzOf X w ([]++allB rc (s1.roots++C.roots))) (getR C s1) rc vs1 cs:=by
 unfold boxOne at hb
 split at hb<;>try (simp at hb;done)
 rename_i r hr hC hA
 split at hb<;>try (simp at hb;done)
 rename_i hbox hal hany
 simp only[Option.some.injEq,Prod.mk.injEq]at hb
 obtain⟨rfl,rfl⟩:=hb
 obtain⟨g1,g2,g3⟩:=h.dropRoot hr hC hA
 obtain⟨g4,g5⟩:=g1.exDrop
 refine⟨g4,?_⟩
 have hok:=h.root hr
 obtain⟨cur,e,hcur,hcl⟩:=hok.2 hbox
 have hf:∀ b,fzOf X w ([]++allB rc (s.roots++C.roots)) b→fzOf X w ([]++allB rc (del k s.roots++C.roots)) b:=
  fun b hb=>⟨hb.1,fun hm=>hb.2 ((g2 b).mp (by simp only[List.append_nil,List.nil_append,List.mem_append]at hm ⊢;exact .inr hm)),hb.3⟩
 have hbl:∀ b∈blocks r (rc k),fzOf X w ([]++allB rc (del k s.roots++C.roots)) b:=g5
 have hP:Rep w (fzOf X w ([]++allB rc (del k s.roots++C.roots))) (.ptr r.s) .z r.x [.pointer (some ⟨(rc k).blk,0,none⟩)] []:=by
  have h1:Rep w (fun b=>fzOf X w ([]++allB rc (s.roots++C.roots)) b∨b∈(rc k).bs) r.s .z r.x (rc k).cs []:=hok.1.freeze (fun b hb=>.inl hb) hal fun b hb=>.inr hb
  have h2:=h1.stable (w':=w) (fz':=fzOf X w ([]++allB rc (del k s.roots++C.roots))) (fun b hb=>⟨hb.elim (hf b) fun hb=>hbl b (by simp[blocks,hbox,hb]),rfl⟩) (by simp)
  refine⟨(rc k).blk,0,(rc k).cs,rfl,rfl,hbl _ (by simp[blocks,hbox]),h2,cur,e,_,hcur,?_,?_⟩
  · rw[←hcl];simp
  · rw[hcl];simp
 have hR:∀ j,j≠k→getR C ⟨killT true k s.tmps,del k s.roots⟩ j=getR C s j:=by intro j hjk;unfold getR;simp only[look_del hjk]
 have hS:∀ v cs,refs true k v=false→VCells w (fzOf X w ([]++allB rc (s.roots++C.roots))) (getR C s) rc v cs→VCells w (fzOf X w ([]++allB rc (del k s.roots++C.roots))) (getR C ⟨killT true k s.tmps,del k s.roots⟩) rc v cs:=by
  intro v cs hrf hv
  have hrt:=refs_true_of hrf
  refine hv.stable (fun b hb=>⟨hf b hb,rfl⟩) (fun j p hj=>?_) (fun j hj=>?_)
  · have hjk:j≠k:=by rintro rfl;rw[refsAt_refs hj]at hrt;simp at hrt
    exact HS.same (fz:=fun _=>True) (hR j hjk) rfl (fun r hr=>⟨(h.root hr).stable (fun b _=>⟨trivial,rfl⟩) fun _ _=>rfl,fun _ _=>rfl⟩) fun _ _=>rfl
  · have hjk:j≠k:=by rintro rfl;rw[hj]at hrt;simp at hrt
    exact BS.same (hR j hjk) rfl
 have hB:∀ cs,VCells w (fzOf X w ([]++allB rc (s.roots++C.roots))) (getR C s) rc (.baddr k []) cs→cs=[.pointer (some ⟨(rc k).blk,0,none⟩)]:=by
  intro cs hc
  obtain⟨off,h1,rfl⟩:=hc r hr hbox
  have:off=0:=by
   have h1:locP r.s []=some off:=h1
   unfold locP at h1
   simpa using h1.symm
  rw[this]
 revert cs
 induction vs with
 |nil=>intro cs hv;exact hv
 | cons v vs ih=>
   rintro cs ⟨c,l,rfl,h1,h2⟩
   simp only[List.map_cons,List.any_cons,Bool.or_eq_false_iff]at hany
   exact⟨c,l,rfl,fixB_ok hf hS hP hB hany.1 h1,ih hany.2 h2⟩
theorem boxAll_ok:∀ {l:List Nat} {s s1:St} {vs vs1:List Val} {cs:List Value},Rel rc [] C s X w0 a w→boxAll C l s vs=some (s1,vs1)→AllOk w (fzOf X w ([]++allB rc (s.roots++C.roots))) (getR C s) rc vs cs→
  Rel rc [] C s1 X w0 a w∧AllOk w (fzOf X w ([]++allB rc (s1.roots++C.roots))) (getR C s1) rc vs1 cs:=by
 intro l
 induction l with
 |nil=>intro s s1 vs vs1 cs h hb hv;simp only[boxAll,Option.some.injEq,Prod.mk.injEq]at hb;obtain⟨rfl,rfl⟩:=hb;exact⟨h,hv⟩
 | cons k l ih=>
   intro s s1 vs vs1 cs h hb hv
   simp only[boxAll]at hb
   split at hb
   · rename_i s2 vs2 e
     obtain⟨g1,g2⟩:=boxOne_ok h e hv
     exact ih g1 hb g2
   · simp at hb
end
end Go.V
namespace Go.V
open Go
section
variable {P:Program} {C s:St} {X:Fr} {w0 w:World} {a:Act} {rc:Nat→RC}
theorem cells_of_vok {w w1:World} {fz fz1:Nat→Prop} {R R1:Nat→Option Root} {rc rc1:Nat→RC} (H:∀ v c,VOk w fz R rc v c→VOk w1 fz1 R1 rc1 v c) {v:Val} {cs:List Value} (h:VCells w fz R rc v cs):VCells w1 fz1 R1 rc1 v cs:=by
 obtain⟨ds,h1,h2⟩:=H (.clo 0 v) (.func (.func 0) #[] (List.toArray cs)) ⟨[.func (.func 0) #[] (List.toArray cs)],⟨cs,rfl,h⟩,rfl⟩
 obtain⟨ccs,rfl,h3⟩:=h1
 have h2:Value.func (.func 0) #[] (List.toArray cs)=Value.func (.func 0) #[] (List.toArray ccs):=h2
 have h2:cs=ccs:=by simpa using h2
 subst h2;exact h3
theorem thin1_ok {v v1:Val} {s1:St} {cs:List Value} (h:Rel rc [] C s X w0 a w) (hs:thin1 C s v=some (s1,v1)) (hv:VCells w (fzOf X w ([]++allB rc (s.roots++C.roots))) (getR C s) rc v cs) :
  ∃ rc1,Rel rc1 [] C s1 X w0 a w∧(∀ v c,VOk w (fzOf X w ([]++allB rc (s.roots++C.roots))) (getR C s) rc v c→VOk w (fzOf X w ([]++allB rc1 (s1.roots++C.roots))) (getR C s1) rc1 v c)∧VCells w (fzOf X w ([]++allB rc1 (s1.roots++C.roots))) (getR C s1) rc1 v1 cs∧aggV v1=aggV v:=by
 unfold thin1 at hs
 split at hs<;>try (simp at hs;done)
 rename_i key q p
 split at hs<;>try (simp at hs;done)
 rename_i r hr hC hin
 split at hs<;>try (simp at hs;done)
 rename_i o1 e sa x o2 ho hg hs2
 split at hs<;>try (simp at hs;done)
 rename_i hal _ hz
 simp only[Option.some.injEq,Prod.mk.injEq]at hs
 obtain⟨rfl,rfl⟩:=hs
 obtain⟨rc1,h1,hvs,_,_⟩:=thin_ok h hr hC hin ho hal hs2 ⟨e,sa,getP_shP hg⟩
 refine⟨rc1,h1,hvs,?_,rfl⟩
 have hvc:=cells_of_vok hvs hv
 have hr1:getR C ⟨s.tmps,upd key ⟨r.box,r.inn,r.s,o2,r.x⟩ s.roots⟩ key=some ⟨r.box,r.inn,r.s,o2,r.x⟩:=by rw[getR_upd (ts:=s.tmps)];simp
 obtain⟨hib,_,hc,_⟩:=hvc _ hr1
 exact mkRef_ok hr1 (h1.root hr1).1 (fun r' h'=>by rw[hr1]at h';cases h';rfl) (sh:=.sl e sa) (o:=.z) hg hz hib hc
theorem thinZ_ok:∀ {v v1:Val} {s s1:St} {rc:Nat→RC} {cs:List Value},Rel rc [] C s X w0 a w→thinZ C v s=some (s1,v1)→VCells w (fzOf X w ([]++allB rc (s.roots++C.roots))) (getR C s) rc v cs→
  ∃ rc1,Rel rc1 [] C s1 X w0 a w∧(∀ v c,VOk w (fzOf X w ([]++allB rc (s.roots++C.roots))) (getR C s) rc v c→VOk w (fzOf X w ([]++allB rc1 (s1.roots++C.roots))) (getR C s1) rc1 v c)∧VCells w (fzOf X w ([]++allB rc1 (s1.roots++C.roots))) (getR C s1) rc1 v1 cs∧aggV v1=aggV v:=by
 intro v
 induction v with
 | pair x y ihx ihy=>
   rintro v1 s s1 rc cs h hs ⟨c1,c2,rfl,h1,h2⟩
   simp only[thinZ]at hs
   cases hx:thinZ C x s with
   | some q=>
     obtain⟨s2,x1⟩:=q
     obtain⟨rc2,g1,g2,g3,_⟩:=ihx h hx h1
     rw[hx]at hs
     simp only at hs
     cases hy:thinZ C y s2 with
     | some q=>
       obtain⟨s3,y1⟩:=q
       obtain⟨rc3,k1,k2,k3,_⟩:=ihy g1 hy (cells_of_vok g2 h2)
       rw[hy]at hs
       simp only[Option.some.injEq,Prod.mk.injEq]at hs
       obtain⟨rfl,rfl⟩:=hs
       exact⟨rc3,k1,fun v c h=>k2 v c (g2 v c h),⟨c1,c2,rfl,cells_of_vok k2 g3,k3⟩,rfl⟩
     | none=>
       rw[hy]at hs
       simp only[Option.some.injEq,Prod.mk.injEq]at hs
       obtain⟨rfl,rfl⟩:=hs
       exact⟨rc2,g1,g2,⟨c1,c2,rfl,g3,cells_of_vok g2 h2⟩,rfl⟩
   | none=>
     rw[hx]at hs
     simp only at hs
     cases hy:thinZ C y s with
     | some q=>
       obtain⟨s3,y1⟩:=q
       obtain⟨rc3,k1,k2,k3,_⟩:=ihy h hy h2
       rw[hy]at hs
       simp only[Option.some.injEq,Prod.mk.injEq]at hs
       obtain⟨rfl,rfl⟩:=hs
       exact⟨rc3,k1,k2,⟨c1,c2,rfl,cells_of_vok k2 h1,k3⟩,rfl⟩
     |none=>rw[hy]at hs;simp at hs
 |_=>intro v1 s s1 rc cs h hs hv;exact thin1_ok h hs hv
theorem thinZ_plain {v:Val} {q:St×Val} (hs:thinZ C v s=some q):(∀ a b,v≠.tup a b)∧v≠.tnil∧v≠.undef:=by
 refine⟨fun a b=>?_,?_,?_⟩<;>rintro rfl<;>simp[thinZ,thin1]at hs
theorem thinV_ok {o:O} {v v1:Val} {s1:St} {c:Value} (h:Rel rc [] C s X w0 a w) (hs:thinV C s o v=some (s1,v1)) (hv:VOk w (fzOf X w ([]++allB rc (s.roots++C.roots))) (getR C s) rc v c) :
  ∃ rc1,Rel rc1 [] C s1 X w0 a w∧(∀ v c,VOk w (fzOf X w ([]++allB rc (s.roots++C.roots))) (getR C s) rc v c→VOk w (fzOf X w ([]++allB rc1 (s1.roots++C.roots))) (getR C s1) rc1 v c)∧VOk w (fzOf X w ([]++allB rc1 (s1.roots++C.roots))) (getR C s1) rc1 v1 c:=by
 unfold thinV at hs
 split at hs<;>try (simp at hs;done)
 have hne:=thinZ_plain hs
 obtain⟨cs,hc,rfl⟩:=hv.cells hne.1 hne.2.1 hne.2.2
 obtain⟨rc1,g1,g2,g3,g4⟩:=thinZ_ok h hs hc
 refine⟨rc1,g1,g2,?_⟩
 rw[←g4]
 cases v1 with
 |tup _ _=>exact g3.elim
 |tnil=>exact g3.elim
 |undef=>trivial
 |_=>exact⟨cs,g3,rfl⟩
theorem AllOk.imp' {w w1:World} {fz fz1:Nat→Prop} {R R1:Nat→Option Root} {rc rc1:Nat→RC} (H:∀ v c,VOk w fz R rc v c→VOk w1 fz1 R1 rc1 v c):∀ {vs:List Val} {cs:List Value},AllOk w fz R rc vs cs→AllOk w1 fz1 R1 rc1 vs cs:=by
 intro vs
 induction vs with
 |nil=>intro cs h;exact h
 |cons v vs ih=>rintro cs ⟨c,l,rfl,h1,h2⟩;exact⟨c,l,rfl,H v c h1,ih h2⟩
theorem thinAll_ok:∀ {os:List O} {vs:List Val} {s:St} {rc:Nat→RC} {cs:List Value},Rel rc [] C s X w0 a w→AllOk w (fzOf X w ([]++allB rc (s.roots++C.roots))) (getR C s) rc vs cs→
  ∃ rc1,Rel rc1 [] C (thinAll C os vs s).1 X w0 a w∧(∀ v c,VOk w (fzOf X w ([]++allB rc (s.roots++C.roots))) (getR C s) rc v c→VOk w (fzOf X w ([]++allB rc1 ((thinAll C os vs s).1.roots++C.roots))) (getR C (thinAll C os vs s).1) rc1 v c)∧
   AllOk w (fzOf X w ([]++allB rc1 ((thinAll C os vs s).1.roots++C.roots))) (getR C (thinAll C os vs s).1) rc1 (thinAll C os vs s).2.1 cs:=by
 intro os
 induction os with
 |nil=>intro vs s rc cs h hv;exact⟨rc,h,fun _ _ h=>h,hv⟩
 | cons o os ih=>
   intro vs s rc cs h hv
   cases vs with
   |nil=>exact⟨rc,h,fun _ _ h=>h,hv⟩
   | cons v vs=>
     obtain⟨c,l,rfl,h1,h2⟩:=hv
     cases ht:thinV C s o v with
     | none=>
       obtain⟨rc1,g1,g2,g3⟩:=ih (vs:=vs) h h2
       have e:thinAll C (o::os) (v::vs) s=((thinAll C os vs s).1,v::(thinAll C os vs s).2.1,(thinAll C os vs s).2.2):=by simp only[thinAll,ht]
       rw[e]
       exact⟨rc1,g1,g2,c,l,rfl,g2 _ _ h1,g3⟩
     | some q=>
       obtain⟨s1,v1⟩:=q
       obtain⟨rc1,g1,g2,g3⟩:=thinV_ok h ht h1
       obtain⟨rc2,k1,k2,k3⟩:=ih (vs:=vs) g1 (AllOk.imp' g2 h2)
       have e:thinAll C (o::os) (v::vs) s=((thinAll C os vs s1).1,v1::(thinAll C os vs s1).2.1,true):=by simp only[thinAll,ht]
       rw[e]
       exact⟨rc2,k1,fun v c h=>k2 v c (g2 v c h),c,l,rfl,k2 _ _ g3,k3⟩
end
end Go.V
namespace Go.V
open Go
section
variable {P:Program} {C s:St} {X:Fr} {w0 w:World} {a:Act} {rc:Nat→RC}
theorem pickSig_ok {vs:List Val}:∀ {l:List Sig} {g:Sig} {us:List OV},pickSig C s vs l=some (g,us)→
  lendAll C s g.args vs=some us∧(lentKeys g.args vs).Nodup∧∀ k∈readKeys g.args vs,k∉lentKeys g.args vs:=by
 intro l
 induction l with
 |nil=>intro g us h;simp[pickSig]at h
 | cons q l ih=>
   intro g us h
   simp only[pickSig]at h
   split at h
   · rename_i us' e
     split at h
     · rename_i hb
       simp only[Option.some.injEq,Prod.mk.injEq]at h
       obtain⟨rfl,rfl⟩:=h
       rw[Bool.and_eq_true]at hb
       exact⟨e,nodupN_iff hb.1,apartN_iff hb.2⟩
     · simp at h
   · exact ih h
theorem pickSoft_ok {vs:List Val}:∀ {l:List Sig} {g:Sig} {s':St} {us:List OV},pickSoft C s vs l=some (g,s',us)→softAll C g.args vs s=some s'∧lendAll C s' g.args vs=some us:=by
 intro l
 induction l with
 |nil=>intro g s' us h;simp[pickSoft]at h
 | cons q l ih=>
   intro g s' us h
   simp only[pickSoft]at h
   split at h
   · rename_i s2 e
     split at h
     · rename_i us2 e2
       simp only[Option.some.injEq,Prod.mk.injEq]at h
       obtain⟨rfl,rfl,rfl⟩:=h
       exact⟨e,e2⟩
     · exact ih h
   · exact ih h
theorem anyRes_ok:∀ {l:List (Sh×O)} {K:List OV→Prop},anyRes l K→∃ rs,K rs∧rs.map (fun u=>(u.s,u.o))=l:=by
 intro l
 induction l with
 |nil=>intro K h;exact⟨[],h,rfl⟩
 | cons q l ih=>
   obtain⟨sh,o⟩:=q
   rintro K ⟨x,h⟩
   obtain⟨rs,h1,h2⟩:=ih h
   exact⟨_,h1,by simp[h2]⟩
def OutsFit:List OV→List O→List OV→Prop
 |[],_,outs=>outs=[]
 |u::us,o::os,outs=>∃ v vs,outs=v::vs∧v.s=u.s∧(u.o≠.z→v.o=o)∧OutsFit us os vs
 |_::_,[],_=>False
theorem anyOut_ok:∀ {us:List OV} {os:List O} {K:List OV→Prop},anyOut us os K→∃ outs,K outs∧OutsFit us os outs:=by
 intro us
 induction us with
 |nil=>intro os K h;cases os<;>exact⟨[],h,rfl⟩
 | cons u us ih=>
   intro os K h
   cases os with
   |nil=>exact h.elim
   | cons o os=>
     simp only[anyOut]at h
     cases hu:u.o with
     | z=>
       rw[hu]at h
       obtain⟨outs,h1,h2⟩:=ih h
       exact⟨_,h1,_,_,rfl,rfl,fun h=>absurd rfl (by rw[hu]at h;exact h),h2⟩
     | _=>
       rw[hu]at h
       cases o with
       | dead=>
         obtain⟨outs,h1,h2⟩:=ih h
         exact⟨_,h1,_,_,rfl,rfl,fun _=>rfl,h2⟩
       | _=>
         obtain⟨y,h⟩:=h
         obtain⟨outs,h1,h2⟩:=ih h
         exact⟨_,h1,_,_,rfl,rfl,fun _=>rfl,h2⟩
theorem noalias_res {g:Sig}:∀ {us:List OV} {os:List O},aliasOf g us os=false→∀ r∈g.res,mayAlias r.1 r.2=false:=by
 intro us
 induction us with
 |nil=>intro os h r hr;simp only[aliasOf,List.any_eq_false]at h;simpa using h r hr
 | cons u us ih=>
   intro os h
   cases os with
   |nil=>intro r hr;simp only[aliasOf,List.any_eq_false]at h;simpa using h r hr
   | cons o os=>
     simp only[aliasOf,Bool.or_eq_false_iff]at h
     exact ih h.2
theorem noalias_outs {g:Sig}:∀ {us:List OV} {os:List O} {outs:List OV},aliasOf g us os=false→OutsFit us os outs→
  ∀(i:Nat) (u o:OV),us[i]? = some u→outs[i]? = some o→u.o≠.z→mayAlias o.s o.o=false:=by
 intro us
 induction us with
 |nil=>intro os outs _ _ i u o h;simp at h
 | cons u us ih=>
   intro os outs h hf i u' o' h1 h2 hz
   cases os with
   |nil=>exact hf.elim
   | cons o os=>
     obtain⟨v,vs,rfl,e1,e2,hf⟩:=hf
     simp only[aliasOf,Bool.or_eq_false_iff]at h
     cases i with
     | zero=>
       simp only[List.getElem?_cons_zero,Option.some.injEq]at h1 h2
       subst h1 h2
       have h0:=h.1
       have e2':=e2 hz
       have:ownAlias ⟨u.s,o,u.x⟩=false:=by
        cases hu:u.o with
        |z=>exact absurd hu hz
        |_=>rw[hu]at h0;exact h0
       rw[e1,e2']
       exact this
     |succ i=>exact ih h.2 hf i u' o' h1 h2 hz
theorem AllOk.imp {w w1:World} {fz fz1:Nat→Prop} {R R1:Nat→Option Root} {rc rc1:Nat→RC} (H:∀ v c,VOk w fz R rc v c→VOk w1 fz1 R1 rc1 v c):∀ {vs:List Val} {cs:List Value},AllOk w fz R rc vs cs→AllOk w1 fz1 R1 rc1 vs cs:=by
 intro vs
 induction vs with
 |nil=>intro cs h;exact h
 |cons v vs ih=>rintro cs ⟨c,l,rfl,h1,h2⟩;exact⟨c,l,rfl,H v c h1,ih h2⟩
theorem AllOk.tup {fz:Nat→Prop} {R:Nat→Option Root}:∀ {vs:List Val} {cs:List Value},AllOk w fz R rc vs cs→VOk w fz R rc (tupOf vs) (.tuple cs.toArray):=by
 intro vs
 induction vs with
 |nil=>intro cs h;obtain rfl:=h;rfl
 |cons v vs ih=>rintro cs ⟨c,l,rfl,h1,h2⟩;exact⟨c,l,rfl,h1,ih h2⟩
theorem AllOk.res {fz:Nat→Prop} {R:Nat→Option Root} {vs:List Val} {cs:List Value} (h:AllOk w fz R rc vs cs):VOk w fz R rc (resVal vs) (tupleOf cs):=by
 cases vs with
 |nil=>obtain rfl:=h;rfl
 | cons v vs=>
   cases vs with
   |nil=>obtain⟨c,l,rfl,h1,h2⟩:=h;obtain rfl:=h2;exact h1
   | cons u us=>
     have h':=h.tup
     obtain⟨c,l,rfl,h1,c',l',rfl,h2⟩:=h
     exact h'
theorem readB_K:∀ {v:Val} {o:O} {k:Nat},k∈readB o v→k∈readK o v:=by
 intro v
 induction v with
 | pair a b iha ihb=>
   intro o k h
   cases o with
   |z=>exact keys_box h
   |pr x y=>simp only[readB,readK,List.mem_append]at *;exact h.imp iha ihb
   |_=>simp[readB]at h
 |_=>intro o k h;cases o<;>first|exact keys_box h|(simp[readB]at h)
theorem readBox_keys:∀ {os:List O} {vs:List Val} {k:Nat},k∈readBox os vs→k∈readKeys os vs:=by
 intro os
 induction os with
 |nil=>intro vs k h;simp[readBox]at h
 | cons o os ih=>
   intro vs k h
   cases vs with
   |nil=>simp[readBox]at h
   |cons v vs=>simp only[readBox,readKeys,List.mem_append]at *;exact h.imp readB_K ih
theorem callSt_ok (h:Rel rc [] C s X w0 a w) {g:Sig} {us0 us:List OV} {vs:List Val} {cvals:List Value} {s0:St} (hv:AllOk w (fzOf X w ([]++allB rc (s.roots++C.roots))) (getR C s) rc vs cvals)
  (hs:callSt C s g us0 vs=some s0) (hl:lendAll C s0 g.args vs=some us) (hn:(lentKeys g.args vs).Nodup) (ha:∀ k∈readKeys g.args vs,k∉lentKeys g.args vs) :
  ∃ rc0 fzc ls kept,Rel rc0 [] C s0 X w0 a w∧LentAll C s0 rc0 w (fzOf X w ([]++allB rc0 (s0.roots++C.roots))) fzc g.args vs us cvals ls kept∧
   (∀ b,fzc b→b<w.heap.size∧b∉ls)∧(aliasOf g us0 g.outs=true→fzc=fzOf X w ([]++allB rc0 (s0.roots++C.roots)))∧Grow (getR C s) rc (getR C s0) rc0:=by
 have hls:∀ {rc0:Nat→RC} {s0:St} {fzc:Nat→Prop} {us:List OV} {ls kept:List Nat},Rel rc0 [] C s0 X w0 a w→LentAll C s0 rc0 w (fzOf X w ([]++allB rc0 (s0.roots++C.roots))) fzc g.args vs us cvals ls kept→
   ∀ b∈ls,b∈allB rc0 (s0.roots++C.roots)∧∀ k∈readKeys g.args vs,∀ r,getR C s0 k=some r→b∉blocks r (rc0 k):=by
  intro rc0 s0 fzc us ls kept h0 hL b hb
  have hold:=(old_perm h0.keys hn hL.own).trans (hL.perm.append_right _)
  have hex:(allB rc0 (s0.roots++C.roots)).Nodup:=by simpa using h0.excl
  refine⟨hold.mem_iff.mpr (by simp[hb]),fun k hk r hr hbr=>?_⟩
  have hon:=hold.nodup_iff.mp hex
  refine(List.nodup_append.mp hon).2.2 b (by simp[hb]) b (mem_allB.mpr ⟨k,r,List.mem_filter.mpr ⟨(mem_getR h0.keys).mp hr,?_⟩,hbr⟩) rfl
  have:=ha k hk
  rw[←memN_iff]at this
  simpa using this
 unfold callSt at hs
 cases hal:aliasOf g us0 g.outs with
 | true=>
   rw[hal]at hs
   simp only at hs
   cases hb:readBox g.args vs with
   |cons _ _=>rw[hb]at hs;simp at hs
   | nil=>
     rw[hb]at hs
     simp only at hs
     obtain⟨rc0,⟨h0,q5,q6⟩,q1,_,_,q2⟩:=frzAll_ok h hs
     obtain⟨ls,kept,hL⟩:=lendAll_ok h0 (fzc:=fzOf X w ([]++allB rc0 (s0.roots++C.roots))) (fun _ h=>h) (hv.imp q2) hl hn
      (fun k hk r hr b hb'=>by rw[q1 k hk r hr]at hb';simp at hb') (by rw[hb];simp)
     exact⟨rc0,_,ls,kept,h0,hL,fun b hb'=>⟨hb'.1,fun hm=>hb'.2 (by simpa using (hls h0 hL b hm).1)⟩,fun _=>rfl,fun j r hr=>⟨q5 j,q6 j r hr⟩⟩
 | false=>
   rw[hal]at hs
   simp only[Option.some.injEq]at hs
   subst hs
   obtain⟨ls,kept,hL⟩:=lendAll_ok h (fzc:=fun b=>fzOf X w ([]++allB rc (s.roots++C.roots)) b∨∃ k∈readKeys g.args vs,∃ r,getR C s k=some r∧b∈blocks r (rc k)) (fun _ h=>.inl h) hv hl hn
    (fun k hk r hr b hb=>.inr ⟨k,hk,r,hr,by rw[blocks_box];simp[hb]⟩) (fun k hk r hr hbox=>.inr ⟨k,readBox_keys hk,r,hr,by simp[blocks,hbox]⟩)
   refine⟨rc,_,ls,kept,h,hL,fun b hb=>?_,fun h=>by simp at h,.refl⟩
   rcases hb with hb|⟨k,hk,r,hr,hb⟩
   · exact⟨hb.1,fun hm=>hb.2 (by simpa using (hls h hL b hm).1)⟩
   · exact⟨(h.bnd b (by simp;exact mem_allB.mpr ⟨k,r,(mem_getR h.keys).mp hr,hb⟩)).1,fun hm=>(hls h hL b hm).2 k hk r hr hb⟩
theorem callG_ok {E:Env} {d:Nat} {f:FuncId} {g:Sig} {us0:List OV} {vs:List Val} {ps:List Prt} {cvals:List Value} {K:Val×St→Prop} (hG:∀ f us rs outs,E.gives f us rs outs→GivesS P f us rs outs)
  (h:Rel rc [] C s X w0 a w) (hv:AllOk w (fzOf X w ([]++allB rc (s.roots++C.roots))) (getR C s) rc vs cvals) (hl0:lendAll C s g.args vs=some us0) (hn:(lentKeys g.args vs).Nodup) (ha:∀ k∈readKeys g.args vs,k∉lentKeys g.args vs)
  (hps:∀ q∈ps,PartOk (getR C s) rc q) (hpk:∀ q∈ps,q.key∉lentKeys g.args vs) (hk:callG E C s f g us0 vs ps d K) :
  Entered P f∧Calls P f cvals.toArray w fun e w'=>∃ c,e = .returned c∧OpPost C X w0 a K c w':=by
 simp only[callG]at hk
 cases hs0:callSt C s g us0 vs with
 |none=>rw[hs0]at hk;exact hk.elim
 |some s0=>
 rw[hs0]at hk
 simp only at hk
 cases hl:lendAll C s0 g.args vs with
 |none=>rw[hl]at hk;exact hk.elim
 |some us=>
 rw[hl]at hk
 simp only at hk
 obtain⟨rs,hk,hres⟩:=anyRes_ok hk
 obtain⟨outs,⟨hg,hk⟩,hfit⟩:=anyOut_ok hk
 cases hgv:giveAll C s0 g.args outs vs with
 |none=>rw[hgv]at hk;exact hk.elim
 |some s1'=>
 rw[hgv]at hk
 simp only at hk
 cases hjn:joinAll C s1' ps with
 |none=>rw[hjn]at hk;exact hk.elim
 |some s1=>
 rw[hjn]at hk
 simp only at hk
 cases hbr:bringAll C s1 d rs with
 |none=>rw[hbr]at hk;exact hk.elim
 |some q=>
 obtain⟨ws,s2⟩:=q
 rw[hbr]at hk
 simp only at hk
 obtain⟨rc0,fzc,ls,kept,h0,hL,hfc,hal,hgr⟩:=callSt_ok h hv hs0 hl hn ha
 obtain⟨hent,hcall⟩:=hG f us rs outs hg
 have hold:=(old_perm h0.keys hn hL.own).trans (hL.perm.append_right _)
 have hex:(allB rc0 (s0.roots++C.roots)).Nodup:=by simpa using h0.excl
 have hlsin:∀ b∈ls,b∈allB rc0 (s0.roots++C.roots):=fun b hb=>hold.mem_iff.mpr (by simp[hb])
 have hlsn:ls.Nodup:=(List.nodup_append.mp (List.nodup_append.mp (hold.nodup_iff.mp hex)).1).1
 have hlslt:∀ b∈ls,b<w.heap.size:=fun b hb=>(h0.bnd b (by simpa using hlsin b hb)).1
 refine⟨hent,(hcall w fzc cvals ls hL.rep hlsn (fun b hb=>⟨hlslt b hb,fun hz=>(hfc b hz).2 hb⟩) fun b hb=>(hfc b hb).1).mono ?_⟩
 rintro e w' ⟨c,cs,l1,l2,rfl,rfl,hext,hres',hout,hnd,hlb⟩
 refine⟨_,rfl,?_⟩
 have hag:aliasOf g us0 g.outs=false→aliasOf g us g.outs=false:=by
  intro hb
  unfold callSt at hs0
  rw[hb]at hs0
  simp only[Option.some.injEq]at hs0
  subst hs0
  rw[hl0]at hl
  simp only[Option.some.injEq]at hl
  subst hl
  exact hb
 obtain⟨rc1',⟨h1',hcs1,hgR1⟩,hsub'⟩:=after_give h0 hL hn hext hnd hlb (fun fz1 hf1 hf2=>by
  cases hb:aliasOf g us0 g.outs with
  | true=>
    rw[hal hb]at hout
    exact hout.mono fun b hb'=>hb'.1.elim (hf1 b) fun hb1=>hf2 b hb1 hb'.2.1 hb'.2.2
  |false=>exact hout.noalias (noalias_outs (hag hb) hfit)) hgv
 obtain⟨rc1,h1,hjs⟩:=joinAll_ok h1' hjn fun q hq r hr=>by
  obtain⟨r0,u0,e1,e2,e3,e4,e5⟩:=(hps q hq).grow hgr
  have hk1:=hpk q hq
  rw[hgR1 q.key hk1]at hr
  rw[e1]at hr;cases hr
  refine⟨e4,fun w=>?_⟩
  rw[hcs1 q.key fun hm=>absurd hm hk1,hcs1 q.k fun _=>⟨u0,e2,e3⟩]
  exact e5 w
 have hsub:∀ b,b∈l1++allB rc1 (s1.roots++C.roots)→b∈l1++l2∨(b∈allB rc0 (s0.roots++C.roots)∧b∉ls):=fun b hb=>hsub' b (hjs b hb)
 have hres1:ArgsRep w' (fzOf X w' (l1++[]++allB rc1 (s1.roots++C.roots))) rs cs l1:=by
  cases hb:aliasOf g us0 g.outs with
  | true=>
    rw[hal hb]at hres'
    refine hres'.mono fun b hb'=>?_
    obtain⟨q1,q2,q3⟩:=hb'
    have hz:X.z b∧¬ (b∈allB rc0 (s0.roots++C.roots)∧b∉ls):=by
     rcases q1 with q1|q1|q1
     · exact⟨q1.3,fun hm=>q1.2 (by simpa using hm.1)⟩
     · refine⟨?_,fun hm=>hm.2 q1⟩
       rcases (h0.bnd b (by simpa using hlsin b q1)).2 with hh|hh
       · exact h0.zok.1 b hh
       · exact h0.zok.2 b hh
     · refine⟨h0.zok.1 b (Nat.le_trans h0.ext.size q1),fun hm=>?_⟩
       have:=(h0.bnd b (by simpa using hm.1)).1
       omega
    refine⟨q2,fun hm=>?_,hz.1⟩
    rcases hsub b (by simpa using hm)with hm|hm
    · exact q3 hm
    · exact hz.2 hm
  | false=>
    refine hres'.noalias fun u hu=>?_
    have:=noalias_res hb (u.s,u.o) (by rw[←hres];exact List.mem_map.mpr ⟨u,hu,rfl⟩)
    exact this
 obtain⟨rc2,h2,hv2,_⟩:=bringAll_ok (l:=l1) (ex:=[]) (by simpa using h1) hres1 hbr
 exact⟨_,_,rc2,hk,h2,hv2.res⟩
theorem callF_ok {E:Env} {d:Nat} {f:FuncId} {vs:List Val} {cvals:List Value} {K:Val×St→Prop} (hG:∀ f us rs outs,E.gives f us rs outs→GivesS P f us rs outs)
  (h:Rel rc [] C s X w0 a w) (hv:AllOk w (fzOf X w ([]++allB rc (s.roots++C.roots))) (getR C s) rc vs cvals) (hk:callF E C s f vs d K) :
  Entered P f∧Calls P f cvals.toArray w fun e w'=>∃ c,e = .returned c∧OpPost C X w0 a K c w':=by
 simp only[callF]at hk
 cases hp:pickSig C s vs (E.sigs f)with
 | some q=>
   obtain⟨g,us0⟩:=q
   rw[hp]at hk
   simp only at hk
   obtain⟨hl0,hn,ha⟩:=pickSig_ok hp
   obtain⟨rc1,h1,_,v1⟩:=thinAll_ok (os:=g.args) h hv
   generalize thinAll C g.args vs s=q at hk h1 v1
   obtain⟨s',vs',b⟩:=q
   cases hal:aliasOf g us0 g.outs with
   | false=>
     rw[hal]at hk
     exact callG_ok hG h hv hl0 hn ha (by simp) (by simp) hk
   | true=>
     rw[hal]at hk
     cases b with
     |false=>exact callG_ok hG h hv hl0 hn ha (by simp) (by simp) hk
     | true=>
       simp only at hk h1 v1
       cases hl:lendAll C s' g.args vs' with
       |none=>rw[hl]at hk;exact hk.elim
       | some us1=>
         rw[hl]at hk
         simp only at hk
         cases hb:nodupN (lentKeys g.args vs')&&apartN (lentKeys g.args vs') (readKeys g.args vs')with
         |false=>rw[hb]at hk;exact hk.elim
         | true=>
           rw[hb]at hk
           simp only[Bool.and_eq_true]at hb
           exact callG_ok hG h1 v1 hl (nodupN_iff hb.1) (apartN_iff hb.2) (by simp) (by simp) hk
 | none=>
   rw[hp]at hk
   simp only at hk
   cases hd:pickDup C s vs (E.sigs f)with
   | none=>
     rw[hd]at hk
     simp only at hk
     cases hf:pickSoft C s vs (E.sigs f)with
     |none=>rw[hf]at hk;exact hk.elim
     | some q=>
       obtain⟨g,s',us0⟩:=q
       rw[hf]at hk
       simp only at hk
       obtain⟨q1,q2⟩:=pickSoft_ok hf
       obtain⟨rc1,h1,g1⟩:=softAll_ok h q1 hv
       cases hx:boxAll C (boxesOf g us0 vs) s' vs with
       |none=>rw[hx]at hk;exact hk.elim
       |some q=>
       obtain⟨s'',vs'⟩:=q
       rw[hx]at hk
       simp only at hk
       cases hl:lendAll C s'' g.args vs' with
       |none=>rw[hl]at hk;exact hk.elim
       |some us1=>
       rw[hl]at hk
       simp only at hk
       cases hb:nodupN (lentKeys g.args vs')&&apartN (lentKeys g.args vs') (readKeys g.args vs')with
       |false=>rw[hb]at hk;exact hk.elim
       | true=>
         rw[hb]at hk
         simp only[Bool.and_eq_true]at hb
         obtain⟨h2,v2⟩:=boxAll_ok h1 hx (hv.imp g1)
         exact callG_ok hG h2 v2 hl (nodupN_iff hb.1) (apartN_iff hb.2) (by simp) (by simp) hk
   |some g=>
   rw[hd]at hk
   simp only at hk
   cases hs:splitAll C (dups (lentKeys g.args vs) (readKeys g.args vs)) g.args vs (d+100000) s with
   |none=>rw[hs]at hk;exact hk.elim
   |some q=>
   obtain⟨vs',ps,n1,s'⟩:=q
   rw[hs]at hk
   simp only at hk
   cases hl:lendAll C s' g.args vs' with
   |none=>rw[hl]at hk;exact hk.elim
   |some us0=>
   rw[hl]at hk
   simp only at hk
   cases hb:nodupN (lentKeys g.args vs')&&apartN (lentKeys g.args vs') (readKeys g.args vs')&&apartN (lentKeys g.args vs') (ps.map (·.key))with
   |false=>rw[hb]at hk;exact hk.elim
   | true=>
     rw[hb]at hk
     simp only[Bool.and_eq_true]at hb
     obtain⟨rc1,h1,_,g2,g3,_⟩:=splitAll_ok h hs hv
     exact callG_ok hG h1 g3 hl (nodupN_iff hb.1.1) (apartN_iff hb.1.2) g2 (fun q hq=>apartN_iff hb.2 _ (List.mem_map.mpr ⟨q,hq,rfl⟩)) hk
end
end Go.V
namespace Go.V
open Go
section
variable {P:Program} {E:Env} {C s:St} {X:Fr} {w0 w:World} {a:Act} {rc:Nat→RC} {o:Oper} {d:Nat} {K:Val×St→Prop}
theorem call_ok (hG:∀ f us rs outs,E.gives f us rs outs→GivesS P f us rs outs) (h:Rel rc [] C s X w0 a w) {c:Call} {x:Operand} (ho:o.op = .call c) (hc:c.callee = .value x) (hk:opV E C o d s K) :
  Runs P o a w (OpPost C X w0 a K):=by
 simp only[opV,ho,hc]at hk
 cases e1:evalV C s none x with
 |none=>rw[e1]at hk;exact hk.elim
 |some fv=>
 rw[e1]at hk
 simp only at hk
 cases e2:calleeOf C s fv with
 |none=>rw[e2]at hk;exact hk.elim
 |some q=>
 obtain⟨f,caps⟩:=q
 rw[e2]at hk
 simp only at hk
 cases e3:evalAll C s (E.params f) c.args.toList with
 |none=>rw[e3]at hk;exact hk.elim
 |some vs=>
 rw[e3]at hk
 simp only at hk
 obtain⟨ccs,hf,hcap⟩:=calleeOf_ok h (evalV_ok h e1) e2
 obtain⟨⟨fn,h1,h2,h3⟩,hcall⟩:=callF_ok hG h ((evalAll_ok h e3).append hcap) hk
 have hr:(execOp a.eval o).run P w = .ok (.enter f (c.args.toList.map a.eval++ccs).toArray) w:=by
  have e:(#[]++c.args.map a.eval++ccs.toArray:Array Value)=(c.args.toList.map a.eval++ccs).toArray:=by
   apply Array.toList_inj.mp;simp
  rw[←e]
  have h2' : fn.name ≠ "runtime.NumGoroutine" := by simpa using h2
  have h3':fn.body≠none:=by intro hn;rw[hn]at h3;simp at h3
  simp[execOp,ho,resolve,hc,hf,Deferred.ofValue,invoke,callFunc,h1,h2',h3']
 unfold Runs
 rw[hr]
 exact hcall
theorem tmp_ok (hE:∀ t s,E.sh t=some s→ShOk P s none t) (h:Rel rc [] C s X w0 a w) (ht:tmpOp o.op=true) (hk:opV E C o d s K):PureOk P o C s X w a rc K (fun _=>True):=by
 cases ho:o.op with
 |move x=>exact move_ok h (.inl ho) hk
 |assign x=>exact move_ok h (.inr ho) hk
 |pick c x y=>exact pick_ok h ho hk
 |build t parts=>exact build_ok hE h ho hk
 |nilCheck x=>exact nilCheck_ok h ho hk
 |binOp op t x y z=>exact binOp_ok hE h ho hk
 |unOp op t x=>exact unOp_ok h ho hk
 | makeFunc fn first caps=>
   cases fn with
   |func f=>exact makeFunc_ok h ho hk
   |_=>simp only[opV,ho]at hk;exact hk.elim
 |slice t x lo hi mx=>exact slice_ok hE h ho hk
 |fieldAddr t x n=>exact fieldAddr_ok hE h ho hk
 |field t x n=>exact field_ok hE h ho hk
 |indexAddr t x i=>exact indexAddr_ok hE h ho hk
 |index t x i=>exact index_runs hE h ho hk
 |extract x n=>exact extract_ok h ho hk
 | call c=>
   cases hc:c.callee with
   | builtin b=>
     refine builtin_pure hE h ho hc ?_ ?_ ?_ hk
     · rintro rfl
       simp[tmpOp,ho,hc]at ht
     · rintro rfl
       simp[tmpOp,ho,hc]at ht
     · rintro rfl
       simp[tmpOp,ho,hc]at ht
   |_=>simp[tmpOp,ho,hc]at ht
 |_=>simp[tmpOp,ho]at ht
theorem mem_ok (hE:∀ t s,E.sh t=some s→ShOk P s none t) (h:Rel rc [] C s X w0 a w) {x:Operand} (ht:memOp o.op=some x) (hk:opV E C o d s K) {F:Nat→Prop} (hF:∀ b,fzOf X w ([]++allB rc (s.roots++C.roots)) b→F b)
  (hF2:∀ v,evalV C s none x=some v→∀ k∈keys v,∀ r,getR C s k=some r→∀ b∈blocks r (rc k),F b):PureOk P o C s X w a rc K (fun w'=>∀ b,F b→w'.heap[b]? = w.heap[b]?):=by
 cases ho:o.op with
 |load t y=>simp only[memOp,ho,Option.some.injEq]at ht;subst ht;exact load_ok hE h ho hk hF hF2
 |convert u t y=>simp only[memOp,ho,Option.some.injEq]at ht;subst ht;exact convert_ok hE h ho hk hF hF2
 |_=>simp[memOp,ho]at ht
theorem opV_ok (hE:∀ t s,E.sh t=some s→ShOk P s none t) (hG:∀ f us rs outs,E.gives f us rs outs→GivesS P f us rs outs) (h:Rel rc [] C s X w0 a w) (hk:opV E C o d s K) :
  Runs P o a w (OpPost C X w0 a K):=by
 cases ht:tmpOp o.op with
 |true=>exact(tmp_ok hE h ht hk).runs h trivial
 |false=>
 cases hm:memOp o.op with
 |some x=>exact(mem_ok hE h hm hk (F:=fun _=>True) (fun _ _=>trivial) fun _ _ _ _ _ _ _ _=>trivial).runs h fun _ _=>rfl
 |none=>
 cases ho:o.op with
 |alloc t=>exact alloc_ok hE h ho hk
 |box t x=>exact box_ok h ho hk
 |buildSlice t n parts=>exact buildSlice_ok hE h ho hk
 |store t x y=>exact store_ok hE h ho hk
 | makeFunc fn first caps=>
   cases fn with
   |func f=>simp[tmpOp,ho]at ht
   |_=>simp only[opV,ho]at hk;exact hk.elim
 |makeSlice t n c=>exact makeSlice_ok hE h ho hk
 | call c=>
   cases hc:c.callee with
   | builtin b=>
     cases b with
     |append=>exact append_ok hE h ho hc hk
     |copy=>exact copy_ok hE h ho hc hk
     |clear=>exact clear_ok hE h ho hc hk
     |_=>simp[tmpOp,ho,hc]at ht
   |value x=>exact call_ok hG h ho hc hk
   |_=>simp only[opV,ho,hc]at hk;exact hk.elim
 |load t y=>simp[memOp,ho]at hm
 |convert u t y=>simp[memOp,ho]at hm
 |_=>first|(simp only[opV,ho]at hk;exact hk.elim)|(simp[tmpOp,ho]at ht;done)
end
end Go.V
namespace Go.V
open Go
theorem Rep.md {w:World} {fz:Nat→Prop} {e:TypeId} {a:Sh} {oa:O} {x:List a.den} {cs:List Value} {bs:List Nat} (h:Rep w fz (.sl e a) (.own oa) x cs bs) :
  Rep w fz (.sl e (.md a)) (.own oa) (List.map (fun y=>(true,y)) x) cs bs:=by
 obtain⟨v,es,ebs,rfl,h1,h2⟩:=h
 have hm:∀ {x:List a.den} {es:List Value} {ebs:List Nat},RepL (Rep w fz a oa) x es ebs→RepL (α:=Bool×a.den) (Rep w fz (.md a) oa) (x.map fun y=>(true,y)) es ebs:=by
  intro x
  induction x with
  |nil=>intro es ebs h;exact h
  |cons y l ih=>rintro es ebs ⟨c1,c2,b1,b2,rfl,rfl,g1,g2⟩;exact⟨c1,c2,b1,b2,rfl,rfl,g1,ih g2⟩
 have hl:(x.map fun y=>(true,y)).length=x.length:=List.length_map ..
 refine⟨v,es,ebs,rfl,hm h1,?_⟩
 rcases h2 with⟨rfl,hx,rfl⟩|⟨g,cap,cur,rfl,q1,q2,q3,q4,q5,rfl⟩
 · have hx:x=[]:=hx
   subst hx
   exact .inl ⟨rfl,rfl,rfl⟩
 · refine .inr ⟨g,cap,cur,?_,q1,?_,q3,q4,?_,rfl⟩
   · show Value.slice _ (List.length x) cap=Value.slice _ (List.length (x.map fun y=>(true,y))) cap
     rw[hl]
   · show List.length (x.map fun y=>(true,y))≤cap
     rw[hl];exact q2
   · show cur.toList.take (List.length (x.map fun y=>(true,y)) * a.size)=es
     rw[hl];exact q5
theorem md_true {w:World} {fz:Nat→Prop} {sa:Sh} {oa:O} {z:(Sh.md sa).den} {cs:List Value} {bs:List Nat} (h:Rep w fz (.md sa) oa z cs bs) (ht:z.1=true):Rep w fz sa oa z.2 cs bs:=by
 obtain⟨zb,zx⟩:=z
 simp only at ht
 subst ht
 exact h
section
variable {P:Program} {E:Env} {C s:St} {X:Fr} {w0 w:World} {a:Act} {rc:Nat→RC} {o:Oper} {d:Nat} {K:Val×St→Prop}
theorem mdLoad_ok (hE:∀ t s,E.sh t=some s→ShOk P s none t) (h:Rel rc [] C s X w0 a w) {m:M (Val×St)} (hm:mdLoad E C o d s=some m) (hk:m K):o.guard=none∧Runs P o a w (OpPost C X w0 a K):=by
 unfold mdLoad at hm
 split at hm
 case h_2=>simp at hm
 rename_i t x hgu ho
 refine⟨hgu,?_⟩
 split at hm
 case h_2=>simp at hm
 rename_i key n hv
 split at hm
 case h_2=>simp at hm
 rename_i inn e sa oa y hlk
 split at hm
 case h_2=>simp at hm
 rename_i s1 hsa hre
 have hty:=hE t _ (same_eq hsa)
 obtain⟨cs,hvc,hcx⟩:=evalV_ok h hv
 have hin:=look_mem hlk
 have hr:getR C s key=some ⟨false,inn,.sl e (.md sa),.own oa,y⟩:=(mem_getR h.keys).mpr (List.mem_append_left _ hin)
 obtain⟨g,n',cap,e',a',off,_,_,hc,hsp,hn,hloc,rfl⟩:=hvc _ hr
 have hc:(rc key).cs=[.slice (some ⟨g,0,none⟩) n' cap]:=by simpa [cellsP]using hc
 simp only[shP,Option.some.injEq,Sh.sl.injEq]at hsp
 obtain⟨rfl,rfl⟩:=hsp
 obtain rfl:off=0:=by simp[locP]at hloc;exact hloc.symm
 have hok:=h.root hr
 obtain⟨v,es,ebs,e1,hL,h2⟩:=hok.1
 have e1:(rc key).cs=[v]:=e1
 rw[hc]at e1
 simp only[List.cons.injEq,and_true]at e1
 subst e1
 rcases h2 with⟨h2,_⟩|⟨g',cap',cur,h2,hg,hle,hcap,hsz,htk,hbs⟩
 · cases h2
 simp only[Value.slice.injEq,Option.some.injEq,Addr.mk.injEq,and_true]at h2
 obtain⟨rfl,hlen,rfl⟩:=h2
 have hbs:(rc key).bs=g::ebs:=hbs
 have hlen:n'=List.length (y:List (Bool×sa.den)):=hlen
 subst hlen
 obtain⟨e1,cn,e2,b1,bn,b2,rfl,rfl,k1,k2,k3⟩:=RepL.split (α:=Bool×sa.den) (true,sa.zv) hL hn (fun _ _ _ hr=>Rep.len (s:=.md sa) hr)
 have k1:e1.length=n * sa.size:=k1
 have hcn:cn.length=sa.size:=Rep.len (s:=.md sa) k2
 have hrd:readC w g (n * sa.size) sa.size=some cn:=by
  have h1:=readC_all hg
  have hcur:cur.toList=(e1++cn++e2)++cur.toList.drop (List.length (y:List (Bool×sa.den)) * sa.size):=by
   rw[←htk];exact(List.take_append_drop _ _).symm
  have hl:n * sa.size+sa.size≤cur.size:=by
   have:cur.size=cur.toList.length:=by simp
   rw[this,hcur]
   simp only[List.length_append,k1,hcn]
   omega
  have h2:=readC_part h1 (off:=n * sa.size) (m:=sa.size) (by simpa using hl)
  rw[Nat.zero_add]at h2
  rw[h2,hcur]
  simp only[List.append_assoc]
  rw[←k1,List.drop_left,←hcn,List.take_left]
 have hx:a.eval x = .pointer (some ⟨g,n * sa.size,none⟩):=by
  rw[hcx]
  show Value.pointer (some ⟨g,n * (Sh.md sa).size+0,none⟩)=_
  rfl
 have hrun:(execOp a.eval o).run P w = .ok (.value (packV (aggS sa) cn)) w:=by
  rw[execOp];simp only[ho]
  refine val_run ?_
  rw[hx]
  exact run_loadAt hty hrd
 obtain⟨hC,hA,rfl⟩:=reRootI_eq hre
 have hnb:=h.blocks_nodup hr
 have hbl0:blocks (⟨false,inn,.sl e (.md sa),.own oa,y⟩:Root) (rc key)=(rc key).bs:=rfl
 rw[hbl0,hbs]at hnb
 let r1:Root:=⟨false,inn,.sl e (.md sa),.own oa,List.set (y:List (Bool×sa.den)) n (false,(List.getD (y:List (Bool×sa.den)) n (true,sa.zv)).2)⟩
 let q:RC:=⟨(rc key).cs,g::(b1++b2),(rc key).blk⟩
 have hbl:(bn++blocks r1 q).Perm (rc key).bs:=by
  rw[hbs]
  show(bn++(g::(b1++b2))).Perm (g::(b1++bn++b2))
  refine List.perm_middle.trans (List.Perm.cons _ ?_)
  rw[←List.append_assoc]
  exact List.Perm.append_right _ List.perm_append_comm
 have hmem:∀ b∈(rc key).bs,b∈[]++allB rc (s.roots++C.roots):=fun b hb=>by
  simpa using mem_allB.mpr ⟨key,_,(mem_getR h.keys).mp hr,hb⟩
 have hls:List.length (α:=Bool×sa.den) (List.set (α:=Bool×sa.den) y n (false,(List.getD (y:List (Bool×sa.den)) n (true,sa.zv)).2))=List.length (α:=Bool×sa.den) y:=List.length_set ..
 have hrow:∀ fz1:Nat→Prop,(∀ b,fzOf X w ([]++allB rc (s.roots++C.roots)) b→fz1 b)→RootOk w fz1 r1 q:=by
  intro fz1 hf
  refine⟨?_,fun hb=>by simp[r1]at hb⟩
  refine⟨_,e1++cn++e2,b1++[]++b2,hc,k3 (Rep w fz1 (.md sa) oa) (false,(List.getD (y:List (Bool×sa.den)) n (true,sa.zv)).2) cn [] ⟨rfl,hcn,Rep.one (s:=.md sa) k2⟩ (fun _ _ _ _ hr=>hr.stable (fun b hb=>⟨hf b hb,rfl⟩) fun _ _=>rfl),.inr ⟨g,cap,cur,?_,hg,?_,hcap,hsz,?_,by simp[q]⟩⟩
  · exact congrArg (fun l=>Value.slice (some ⟨g,0,none⟩) l cap) hls.symm
  · exact Nat.le_trans (Nat.le_of_eq hls) hle
  · exact(congrArg (fun l=>cur.toList.take (l * sa.size)) hls).trans htk
 have hrel:=Rel.setRoot (ls:=[]) (ex:=[]) (r:=r1) (q:=q) (ts:=killI key s.tmps) (w1:=w) (by simpa using h) (rc key).bs bn hC
  (fun hi=>⟨_,getR_s hC hr,hi,rfl,fun _=>rfl,fun _=>rfl⟩) (fun b hb=>.inr ⟨_,getR_s hC hr,hb⟩) (Nat.le_refl _) rfl rfl rfl (fun _ _ _=>rfl)
  (hbl.nodup_iff.mpr (by rw[hbs];exact hnb)) (fun b hb=>hbl.mem_iff.mp (by simp[hb]))
  (fun b hb=>⟨(h.bnd b (hmem b (hbl.mem_iff.mp (by simp[hb])))).1,.inl (hbl.mem_iff.mp (by simp[hb]))⟩)
  (fun fz1 hf _=>hrow fz1 fun b hb=>hf b (by simpa using hb))
  (killI_sub _ _)
  (by
   intro t' v' htv
   refine⟨fun p' hrf=>?_,fun _ r2 hr2 hb2=>?_⟩
   · have hin':inner p'=false:=by
      rcases List.mem_append.mp htv with h'|h'
      · exact refsAt_I hrf (killI_mem h').2
      · exact refsAt_I hrf (anyI_false hA h')
     intro r2 hr2
     rw[getR_upd (ts:=s.tmps)]at hr2
     simp at hr2;subst hr2
     refine⟨_,hr,rfl,fun c e' a' q1 q2 q3 q4=>⟨InB_fields _ hin' q3,q2,?_⟩⟩
     simp only[setRc,if_true]
     exact q4
   · rw[getR_upd (ts:=s.tmps)]at hr2
     simp at hr2;subst hr2
     simp[r1]at hb2)
 have hset:∀ b,b∈bn++[]++allB (setRc rc key q) (upd key r1 s.roots++C.roots)→b∈[]++allB rc (s.roots++C.roots):=by
  intro b hb
  simp only[List.append_nil,List.mem_append]at hb
  rcases hb with hb|hb
  · exact hmem b (hbl.mem_iff.mp (by simp[hb]))
  · rcases mem_allB.mp hb with⟨j,u,hj,hb⟩
    have hj':=(mem_getR (s:=⟨killI key s.tmps,upd key r1 s.roots⟩) hrel.keys).mpr hj
    rw[getR_upd (ts:=s.tmps)]at hj'
    by_cases hjk:j=key
    · subst hjk
      simp only[if_true,Option.some.injEq]at hj'
      subst hj'
      rw[show setRc rc j q j=q by simp[setRc]]at hb
      exact hmem b (hbl.mem_iff.mp (by simp[hb]))
    · simp only[hjk,if_false]at hj'
      rw[show setRc rc key q j=rc j by simp[setRc,hjk]]at hb
      simpa using mem_allB.mpr ⟨j,u,(mem_getR h.keys).mp hj',hb⟩
 have hel:∀(_:(List.getD (y:List (Bool×sa.den)) n (true,sa.zv)).1=true),Rep w (fzOf X w (bn++[]++allB (setRc rc key q) (upd key r1 s.roots++C.roots))) sa oa (List.getD (y:List (Bool×sa.den)) n (true,sa.zv)).2 cn bn:=by
  intro ht
  exact Rep.stable (s:=sa) (fun b hb=>⟨⟨hb.1,fun hm=>hb.2 (hset b hm),hb.3⟩,rfl⟩) (md_true k2 ht) fun _ _=>rfl
 split at hm
 · rename_i v hbr
   cases hm
   obtain⟨ht,hk⟩:=hk
   obtain⟨g1,g2,_⟩:=(bring_ok hrel (k:=d) (u:=⟨sa,oa,(List.getD (y:List (Bool×sa.den)) n (true,sa.zv)).2⟩) (hel ht)).1 v hbr
   subst g1
   obtain rfl:oa = .z:=by assumption
   subst g2
   refine Runs.value hrun ⟨_,_,_,hk,hrel,?_⟩
   exact⟨cn,by have:=hel ht;simp only[List.nil_append]at this;exact this,rfl⟩
 · rename_i v r hbr
   split at hm
   · rename_i s2 hnr
     cases hm
     obtain⟨ht,hk⟩:=hk
     obtain⟨rc2,g1,_,_,g2,_⟩:=(bring_ok hrel (k:=d) (u:=⟨sa,oa,(List.getD (y:List (Bool×sa.den)) n (true,sa.zv)).2⟩) (hel ht)).2 v r s2 hbr hnr
     exact Runs.value hrun ⟨_,_,_,hk,g1,g2⟩
   · simp at hm
end
end Go.V

