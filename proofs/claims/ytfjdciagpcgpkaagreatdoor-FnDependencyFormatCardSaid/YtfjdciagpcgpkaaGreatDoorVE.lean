/-
  A function: its parameters come in.
-/
import Derived.Test.YtfjdciagpcgpkaaGreatDoorVD
import Derived.ChangeArms
import Derived.ChangeSame
import Derived.WideKeyArgs
import Derived.WideShapes
import Derived.RowKit
import Derived.RowKit3
import Derived.ChangeOld
import Derived.Test.YtfjdciagpcgpkaaGreatDoorVA
set_option linter.unusedVariables false
set_option linter.unusedSimpArgs false
namespace Go.V
open Go
def LinkOk (ic:Nat→List Value) (ib:Nat→Nat):Nat→List OV→List Value→Prop
 |_,[],args=>args=[]
 |i,u::us,args=>∃ c cs cells,args=c::cs∧c=packV (aggS u.s) cells∧cells.length=u.s.size∧(∀ v∈cells,v.oneCell'=true)∧
  (u.o≠.z→(∃ a o,u.s = .ptr a∧u.o = .own o∧cells=[.pointer (some ⟨ib i,0,none⟩)])∨((∀ a o,u.s = .ptr a→u.o = .own o→False)∧ic i=cells))∧LinkOk ic ib (i+1) us cs
theorem LinkOk.congr {ic ic':Nat→List Value} {ib ib':Nat→Nat}:∀ {us:List OV} {i:Nat} {args:List Value},(∀ k,i≤k→ic' k=ic k∧ib' k=ib k)→LinkOk ic ib i us args→LinkOk ic' ib' i us args:=by
 intro us
 induction us with
 |nil=>intro i args _ h;exact h
 | cons u us ih=>
   rintro i args hc ⟨c,cs,cells,h1,h2,h3,h4,h5,h6⟩
   obtain⟨e1,e2⟩:=hc i (Nat.le_refl _)
   refine⟨c,cs,cells,h1,h2,h3,h4,fun hz=>?_,ih (fun k hk=>hc k (by omega)) h6⟩
   rcases h5 hz with⟨a,o,q1,q2,q3⟩|⟨q1,q2⟩
   · exact .inl ⟨a,o,q1,q2,by rw[e2];exact q3⟩
   · exact .inr ⟨q1,by rw[e1];exact q2⟩
structure InitOk (w:World) (fz:Nat→Prop) (i:Nat) (us:List OV) (args:List Value) (ls:List Nat) (s:St) (rc:Nat→RC):Prop where
 rk:(s.roots.map (·.1)).Nodup∧∀ k r,(k,r)∈s.roots→i≤k
 tk:(s.tmps.map (·.1)).Nodup∧∀ t v,(t,v)∈s.tmps→i≤t
 bs:allB rc s.roots=ls
 ok:∀ k r,(k,r)∈s.roots→RootOk w fz r (rc k)
 tm:∀ t v,(t,v)∈s.tmps→(∀ k,refs true k v=true→k=t)∧∃ j c,t=i+j∧args[j]? = some c∧VOk w fz (fun k=>look k s.roots) rc v c
 link:LinkOk (fun k=>(rc k).cs) (fun k=>(rc k).blk) i us args
theorem initS_eq {i:Nat} {u:OV} {us:List OV} {s:St} (h:initS i (u::us)=some s) :
  ∃ s0,initS (i+1) us=some s0∧
   ((u.o = .z∧s=⟨(i,.t u.s .z u.x)::s0.tmps,s0.roots⟩)∨
    (∃ a o x,u=⟨.ptr a,.own o,x⟩∧s=⟨(i,.baddr i [])::s0.tmps,(i,⟨true,true,a,o,x⟩)::s0.roots⟩)∨
    (u.o≠.z∧(∀ a o,u.s = .ptr a→u.o = .own o→False)∧s=⟨(i,mkRef i u.s u.o u.x [])::s0.tmps,(i,⟨false,true,u.s,u.o,u.x⟩)::s0.roots⟩)):=by
 simp only[initS]at h
 cases h0:initS (i+1) us with
 |none=>rw[h0]at h;simp at h
 | some s0=>
   rw[h0]at h
   refine⟨s0,rfl,?_⟩
   obtain⟨us,uo,ux⟩:=u
   cases uo with
   |z=>simp only[Option.some.injEq]at h;exact .inl ⟨rfl,h.symm⟩
   | own o=>
     cases us with
     |ptr a=>simp only[Option.some.injEq]at h;exact .inr (.inl ⟨a,o,ux,rfl,h.symm⟩)
     |_=>simp only[Option.some.injEq]at h;exact .inr (.inr ⟨by simp,by simp,h.symm⟩)
   |_=>simp only[Option.some.injEq]at h;exact .inr (.inr ⟨by simp,by simp,h.symm⟩)
theorem init_ok {w:World} {fz:Nat→Prop}:∀ {us:List OV} {i:Nat} {args:List Value} {ls:List Nat} {s:St},initS i us=some s→ArgsRep w fz us args ls→∃ rc,InitOk w fz i us args ls s rc:=by
 intro us
 induction us with
 | nil=>
   intro i args ls s h ha
   simp only[initS,Option.some.injEq]at h
   subst h
   obtain⟨rfl,rfl⟩:=ha
   exact⟨fun _=>⟨[],[],0⟩,⟨by simp,by simp⟩,⟨by simp,by simp⟩,rfl,by simp,by simp,rfl⟩
 | cons u us ih=>
   rintro i args ls s h ⟨c,cs,cells,l1,l2,rfl,rfl,rfl,hr,ha⟩
   obtain⟨s0,h0,hs⟩:=initS_eq h
   obtain⟨rc,H⟩:=ih h0 ha
   have hlen:=hr.len
   have hone:=hr.one
   have htl:∀ {rts:List (Nat×Root)} {rc':Nat→RC},(∀ k,i<k→look k rts=look k s0.roots∧rc' k=rc k)→∀ t v,(t,v)∈s0.tmps→(∀ k,refs true k v=true→k=t)∧∃ j c',t=i+j∧(packV (aggS u.s) cells::cs)[j]? = some c'∧VOk w fz (fun k=>look k rts) rc' v c':=by
    intro rts rc' hk t v htv
    obtain⟨q1,j,c',q2,q3,q4⟩:=H.tm t v htv
    refine⟨q1,j+1,c',by omega,by simpa using q3,?_⟩
    have hlt:=H.tk.2 t v htv
    have same:∀ k,refs true k v=true→look k rts=look k s0.roots∧rc' k=rc k:=by
     intro k hk'
     have:=q1 k hk'
     subst this
     exact hk k (by omega)
    refine q4.stable (fun b hb=>⟨hb,rfl⟩) (fun k p hp=>?_) fun k hkb=>?_
    · have hrf:refs true k v=true:=by
       have:=refsAt_refs hp
       cases hb:refs true k v with
       |true=>rfl
       |false=>have:=(refs_true_of hb).1;simp_all
      obtain⟨e1,e2⟩:=same k hrf
      intro r1 hr1
      simp only[e1]at hr1
      exact⟨r1,hr1,rfl,fun c e a m1 m2 _ m4=>⟨m1,m2,by rw[e2];exact m4⟩⟩
    · have hrf:refs true k v=true:=by
       cases hb:refs true k v with
       |true=>rfl
       |false=>have:=(refs_true_of hb).2;simp_all
      obtain⟨e1,e2⟩:=same k hrf
      intro r1 hr1 hbx
      simp only[e1]at hr1
      exact⟨r1,hr1,hbx,rfl,by rw[e2]⟩
   have hit:∀ t v,(t,v)∈s0.tmps→t≠i:=by intro t v htv;have:=H.tk.2 t v htv;omega
   have hir:∀ k r,(k,r)∈s0.roots→k≠i:=by intro k r hk;have:=H.rk.2 k r hk;omega
   have htk:∀ v,(((i,v)::s0.tmps).map (·.1)).Nodup∧∀ t v',(t,v')∈(i,v)::s0.tmps→i≤t:=by
    intro v
    refine⟨?_,?_⟩
    · rw[List.map_cons]
      refine List.nodup_cons.mpr ⟨fun hm=>?_,H.tk.1⟩
      obtain⟨⟨t,v'⟩,hm,e⟩:=List.mem_map.mp hm
      exact hit t v' hm e
    · intro t v' hm
      rcases List.mem_cons.mp hm with hm|hm
      · cases hm;exact Nat.le_refl _
      · have:=H.tk.2 t v' hm;omega
   have hrk:∀ r,(((i,r)::s0.roots).map (·.1)).Nodup∧∀ k r',(k,r')∈(i,r)::s0.roots→i≤k:=by
    intro r
    refine⟨?_,?_⟩
    · rw[List.map_cons]
      refine List.nodup_cons.mpr ⟨fun hm=>?_,H.rk.1⟩
      obtain⟨⟨k,r'⟩,hm,e⟩:=List.mem_map.mp hm
      exact hir k r' hm e
    · intro k r' hm
      rcases List.mem_cons.mp hm with hm|hm
      · cases hm;exact Nat.le_refl _
      · have:=H.rk.2 k r' hm;omega
   have hlook:∀ r k,i<k→look k ((i,r)::s0.roots)=look k s0.roots:=by
    intro r k hk
    have:Nat.beq i k=false:=by rw[Bool.eq_false_iff];intro hb;have:=Nat.eq_of_beq_eq_true hb;omega
    simp[look,this]
   have hnb:∀ {q:RC},allB (setRc rc i q) s0.roots=allB rc s0.roots:=fun {q}=>allB_congr fun k r hk=>by simp[setRc,hir k r hk]
   rcases hs with⟨hz,rfl⟩|⟨a,o,x,rfl,rfl⟩|⟨hz,hnp,rfl⟩
   · rw[hz]at hr
     obtain rfl:=hr.z_nil
     refine⟨rc,⟨H.rk.1,fun k r hk=>by have:=H.rk.2 k r hk;omega⟩,htk _,by simpa using H.bs,H.ok,fun t v htv=>?_,_,_,cells,rfl,rfl,hlen,hone,fun h=>absurd hz h,H.link⟩
     rcases List.mem_cons.mp htv with htv|htv
     · cases htv
       exact⟨fun k hk=>by simp[refs]at hk,0,_,rfl,rfl,cells,hr,rfl⟩
     · exact htl (fun k _=>⟨rfl,rfl⟩) t v htv
   · obtain⟨g,cur,e,ebs,rfl,h1,h2,rfl⟩:=hr
     let q:RC:=⟨cur.toList,ebs,g⟩
     refine⟨setRc rc i q,hrk _,htk _,?_,?_,fun t v htv=>?_,_,_,[.pointer (some ⟨g,0,none⟩)],rfl,rfl,hlen,hone,fun _=>.inl ⟨a,o,rfl,rfl,by simp[setRc,q]⟩,H.link.congr fun k hk=>?_⟩
     · simp only[allB_cons];rw[hnb,H.bs];simp[setRc,blocks,q]
     · intro k r hk
       rcases List.mem_cons.mp hk with hk|hk
       · cases hk
         refine⟨by simp only[setRc,if_true];exact h2,fun _=>⟨cur,e,by simp only[setRc,if_true];exact h1,by simp[setRc,q]⟩⟩
       · rw[show setRc rc i q k=rc k by simp[setRc,hir k r hk]];exact H.ok k r hk
     · rcases List.mem_cons.mp htv with htv|htv
       · cases htv
         refine⟨fun k hk=>by simp[refs]at hk;exact hk.symm,0,_,rfl,rfl,?_⟩
         have:=baddr_vok (w:=w) (fz:=fz) (R:=fun k=>look k ((i,(⟨true,true,a,o,x⟩:Root))::s0.roots)) (rc:=setRc rc i q) (k:=i)
         rw[show(setRc rc i q i).blk=g by simp[setRc,q]]at this
         exact this
       · exact htl (fun k hk=>⟨hlook _ k hk,by simp[setRc,show k≠i by omega]⟩) t v htv
     · simp[setRc,show k≠i by omega]
   · let q:RC:=⟨cells,l1,0⟩
     refine⟨setRc rc i q,hrk _,htk _,?_,?_,fun t v htv=>?_,_,_,cells,rfl,rfl,hlen,hone,fun _=>.inr ⟨hnp,by simp[setRc,q]⟩,H.link.congr fun k hk=>?_⟩
     · simp only[allB_cons];rw[hnb,H.bs];simp[setRc,blocks,q]
     · intro k r hk
       rcases List.mem_cons.mp hk with hk|hk
       · cases hk
         exact⟨by simp only[setRc,if_true];exact hr,fun hb=>by simp at hb⟩
       · rw[show setRc rc i q k=rc k by simp[setRc,hir k r hk]];exact H.ok k r hk
     · rcases List.mem_cons.mp htv with htv|htv
       · cases htv
         refine⟨fun k hk=>refs_mkRef hk,0,_,rfl,rfl,?_⟩
         refine mkRef_vok (mkRef_ok (r:=⟨false,true,u.s,u.o,u.x⟩) (by simp[look]) (by simp only[setRc,if_true];exact hr) (fun r' hr'=>by simpa [look]using hr'.symm) (getP_nil _ _) (by cases u.o<;>rfl) (InB_nil _ _) ?_)
         simp only[setRc,if_true,q]
         cases u.s<;>rfl
       · exact htl (fun k hk=>⟨hlook _ k hk,by simp[setRc,show k≠i by omega]⟩) t v htv
     · simp[setRc,show k≠i by omega]
end Go.V
namespace Go.V
open Go
section
variable {P:Program} {E:Env} {C s:St} {X:Fr} {w0 w:World} {a:Act} {rc:Nat→RC}
def resRun (a:Act):ResultVar→Sem Value
 |.tmp t=>pure (a.tmps.getD t undef)
 |.cell b t=>do loadVar t (← asAddr (a.tmps.getD b undef))
def ResAll (P:Program) (a:Act) (w:World):List ResultVar→List Value→Prop
 |[],cs=>cs=[]
 |r::rs,cs=>∃ c l,cs=c::l∧(resRun a r).run P w = .ok c w∧ResAll P a w rs l
theorem loadAt_var {t:TypeId} {c v:Value} (h:(Instr.loadAt t c).run P w = .ok v w):(do loadVar t (← asAddr c):Sem Value).run P w = .ok v w:=by
 cases c with
 | pointer p=>
   cases p with
   |some p=>exact h
   |none=>simp[Instr.loadAt,Instr.sureAddr,stuck,Sem.run]at h
 |_=>simp[Instr.loadAt,Instr.sureAddr,stuck,Sem.run]at h
theorem takeEnd_ok {ex:List Nat} (h:Rel rc ex C s X w0 a w) {v:Val} {c:Value} {s1:St} {u:OV} (hv:VOk w (fzOf X w (ex++allB rc (s.roots++C.roots))) (getR C s) rc v c) (ht:takeEnd C s v=some (u,s1)) :
  ∃ rc1 ls cs,Rel rc1 (ls++ex) C s1 X w0 a w∧Rep w (fzOf X w (ls++ex++allB rc1 (s1.roots++C.roots))) u.s u.o u.x cs ls∧c=packV (aggS u.s) cs∧
   (∀ b,b∈ls++ex++allB rc1 (s1.roots++C.roots)→b∈ex++allB rc (s.roots++C.roots)):=by
 have old:takeV C s v=some (u,s1)→∃ rc1 ls cs,Rel rc1 (ls++ex) C s1 X w0 a w∧Rep w (fzOf X w (ls++ex++allB rc1 (s1.roots++C.roots))) u.s u.o u.x cs ls∧c=packV (aggS u.s) cs∧
   (∀ b,b∈ls++ex++allB rc1 (s1.roots++C.roots)→b∈ex++allB rc (s.roots++C.roots)):=fun ht=>by
  obtain⟨rc1,ls,cs,g1,g2,g3,_,_,g6⟩:=take_whole h hv ht
  exact⟨rc1,ls,cs,g1,g2,g3,g6⟩
 unfold takeEnd at ht
 split at ht
 · rename_i key p
   split at ht
   · rename_i r hin hlk hC hA
     split at ht
     · rename_i o e sa x hbi ho hg
       simp only[Option.some.injEq,Prod.mk.injEq]at ht
       obtain⟨rfl,rfl⟩:=ht
       rw[Bool.or_eq_false_iff]at hbi
       have hr:getR C s key=some r:=(mem_getR h.keys).mpr (List.mem_append_left _ (look_mem hlk))
       obtain⟨cs,hvc,rfl⟩:=hv
       obtain⟨hib,_,hc,_⟩:=hvc r hr
       have hok:=h.root hr
       obtain⟨cs',bs',rest,k1,k2,k3,_⟩:=hok.1.lendP hib hg ho
       rw[hc]at k1;cases k1
       obtain⟨g1,g2,_⟩:=h.dropRoot hr hC hA
       have hbl:blocks r (rc key)=(rc key).bs:=by unfold blocks;rw[hbi.1]
       rw[hbl]at g1 g2
       have hp:(rc key).bs.Perm (rest++bs'):=k3.trans List.perm_append_comm
       have g3:Rel rc (rest++(bs'++ex)) C ⟨killT true key s.tmps,del key s.roots⟩ X w0 a w:=g1.exPerm (by rw[←List.append_assoc];exact hp.append_right _)
       obtain⟨g4,g5⟩:=g3.exDrop
       have hsub:∀ b,b∈bs'++ex++allB rc (del key s.roots++C.roots)→b∈ex++allB rc (s.roots++C.roots):=by
        intro b hb
        refine(g2 b).mp ?_
        rcases List.mem_append.mp hb with hb|hb
        · rcases List.mem_append.mp hb with hb|hb
          · exact List.mem_append_left _ (List.mem_append_left _ (hp.mem_iff.mpr (by simp[hb])))
          · exact List.mem_append_left _ (List.mem_append_right _ hb)
        · exact List.mem_append_right _ hb
       exact⟨rc,bs',cs,g4,k2.stable (fun b hb=>⟨⟨hb.1,fun hm=>hb.2 (hsub b hm),hb.3⟩,rfl⟩) (fun _ _=>rfl),rfl,hsub⟩
     · exact old ht
   · exact old ht
 · exact old ht
theorem res_ok (hE:∀ t s,E.sh t=some s→ShOk P s none t):∀ {rs:List ResultVar} {gs:List (Sh×O)} {s s2:St} {l:List OV} {rc:Nat→RC} {ex:List Nat},Rel rc ex C s X w0 a w→resOf E C s rs gs=some (l,s2)→
  ∃ rc2 l1 cs,Rel rc2 (l1++ex) C s2 X w0 a w∧ArgsRep w (fzOf X w (l1++ex++allB rc2 (s2.roots++C.roots))) l cs l1∧ResAll P a w rs cs∧
   ∀ b,b∈l1++ex++allB rc2 (s2.roots++C.roots)→b∈ex++allB rc (s.roots++C.roots):=by
 intro rs
 induction rs with
 | nil=>
   intro gs s s2 l rc ex h hr
   cases gs with
   |cons _ _=>simp[resOf]at hr
   | nil=>
     simp only[resOf,Option.some.injEq,Prod.mk.injEq]at hr
     obtain⟨rfl,rfl⟩:=hr
     exact⟨rc,[],[],h,⟨rfl,rfl⟩,rfl,fun b hb=>hb⟩
 | cons r rs ih=>
   intro gs s s2 l rc ex h hr
   cases gs with
   |nil=>simp[resOf]at hr
   | cons g gs=>
     obtain⟨sh,o⟩:=g
     simp only[resOf]at hr
     have key:∀ v,(match r with
       |.tmp t=>getT C s t
       | .cell t ty=>match getT C s t with
         |some v=>loadV C s (E.sh ty) v
         |none=>none)=some v→∃ c,(resRun a r).run P w = .ok c w∧VOk w (fzOf X w (ex++allB rc (s.roots++C.roots))) (getR C s) rc v c:=by
      intro v hv
      cases r with
      | tmp t=>
        obtain⟨c,hc,hvo⟩:=h.getT hv
        exact⟨c,by simp[resRun,hc],hvo⟩
      | cell t ty=>
        simp only at hv
        cases hg:getT C s t with
        |none=>rw[hg]at hv;simp at hv
        | some ad=>
          rw[hg]at hv
          simp only at hv
          obtain⟨c,hc,hvo⟩:=h.getT hg
          have hne:(∀ a b,ad≠.tup a b)∧ad≠.tnil∧ad≠.undef:=by
           refine⟨fun a b=>?_,?_,?_⟩<;>rintro rfl<;>simp[loadV]at hv
          obtain⟨cs,h1,rfl⟩:=hvo.cells hne.1 hne.2.1 hne.2.2
          obtain⟨c',g1,g2⟩:=loadV_ok (P:=P) h (hE ty) h1 hv (F:=fun _=>True) (fun _ _=>trivial) fun _ _ _ _ _ _=>trivial
          refine⟨c',?_,g2⟩
          have:=loadAt_var (g1 w fun _ _=>rfl)
          simpa [resRun,hc]using this
     split at hr
     case h_2=>simp at hr
     rename_i v hv
     obtain⟨c,hc,hvo⟩:=key v hv
     cases ht:takeEnd C s v with
     |none=>rw[ht]at hr;simp at hr
     | some q=>
       obtain⟨u,s1⟩:=q
       rw[ht]at hr
       simp only at hr
       split at hr
       case h_2=>simp at hr
       rename_i x l' s2' hcd hle hrest
       simp only[Option.some.injEq,Prod.mk.injEq]at hr
       obtain⟨rfl,rfl⟩:=hr
       obtain⟨rc1,ls,cells,g1,g2,g3,g6⟩:=takeEnd_ok h hvo ht
       obtain⟨us,uo,ux⟩:=u
       simp only at hcd hle g2 g3
       obtain⟨rfl,rfl⟩:=castD_some hcd
       obtain⟨bs',rest,p1,p2⟩:=g2.weak hle
       have g1':Rel rc1 (rest++(bs'++ex)) C s1 X w0 a w:=g1.exPerm (by
        rw[←List.append_assoc];exact(p1.trans List.perm_append_comm).append_right _)
       obtain⟨k1,k2⟩:=g1'.exDrop
       obtain⟨rc2,l1,cs,m1,m2,m3,m4⟩:=ih k1 hrest
       have hfz:∀ b,fzOf X w (ls++ex++allB rc1 (s1.roots++C.roots)) b→fzOf X w (l1++(bs'++ex)++allB rc2 (s2'.roots++C.roots)) b:=by
        intro b hb
        refine⟨hb.1,fun hm=>hb.2 ?_,hb.3⟩
        have:=m4 b hm
        rcases List.mem_append.mp this with h'|h'
        · rcases List.mem_append.mp h' with h'|h'
          · exact List.mem_append_left _ (List.mem_append_left _ (p1.mem_iff.mpr (by simp[h'])))
          · exact List.mem_append_left _ (List.mem_append_right _ h')
        · exact List.mem_append_right _ h'
       have hfr:∀ b∈rest,fzOf X w (l1++(bs'++ex)++allB rc2 (s2'.roots++C.roots)) b:=by
        intro b hb
        have:=k2 b hb
        exact⟨this.1,fun hm=>this.2 (m4 b hm),this.3⟩
       have hrep:=p2 w _ (fun b hb=>⟨hfz b hb,rfl⟩) (fun _ _=>rfl) hfr
       have hmem:∀ b,b∈(bs'++l1)++ex++allB rc2 (s2'.roots++C.roots)↔b∈l1++(bs'++ex)++allB rc2 (s2'.roots++C.roots):=by
        intro b;simp only[List.mem_append,or_assoc,or_left_comm]
       have e:=fz_congr (X:=X) (X':=X) (w:=w) rfl hmem
       refine⟨rc2,bs'++l1,c::cs,m1.exPerm (by
        rw[←List.append_assoc];exact List.perm_append_comm.append_right _),⟨c,cs,cells,bs',l1,rfl,rfl,g3,?_,?_⟩,⟨c,cs,rfl,hc,m3⟩,fun b hb=>?_⟩
       · rw[e];exact hrep
       · rw[e];exact m2
       · have:=m4 b ((hmem b).mp hb)
         refine g6 b ?_
         rcases List.mem_append.mp this with h'|h'
         · rcases List.mem_append.mp h' with h'|h'
           · exact List.mem_append_left _ (List.mem_append_left _ (p1.mem_iff.mpr (by simp[h'])))
           · exact List.mem_append_left _ (List.mem_append_right _ h')
         · exact List.mem_append_right _ h'
theorem results_ok {fn:Func} {cs:List Value} (h:ResAll P a w fn.results.toList cs):(results fn a.tmps).run P w = .ok (tupleOf cs) w:=by
 have h1:∀ {rs:List ResultVar} {cs:List Value},ResAll P a w rs cs→(rs.mapM (resRun a)).run P w = .ok cs w:=by
  intro rs
  induction rs with
  |nil=>intro cs h;obtain rfl:=h;rfl
  | cons r rs ih=>
    rintro cs ⟨c,l,rfl,h1,h2⟩
    simp[List.mapM_cons,Sem.run_bind,h1,ih h2]
 have h2:(fn.results.mapM (resRun a)).run P w = .ok cs.toArray w:=by
  rw[Array.mapM_eq_mapM_toList]
  simp[h1 h]
 have h3:results fn a.tmps=(do
  let vs ←fn.results.mapM (resRun a)
  pure (if h:vs.size=1 then vs[0] else .tuple vs)):=rfl
 rw[h3]
 simp only[Sem.run_bind,h2,Result.andThen_ok,Sem.run_pure]
 cases cs with
 |nil=>rfl
 | cons c cs=>
   cases cs with
   |nil=>rfl
   |cons c' cs=>simp[tupleOf]
end
end Go.V
namespace Go.V
open Go
section
variable {P:Program} {E:Env} {C s:St} {X:Fr} {w0 w:World} {a:Act} {rc:Nat→RC}
theorem outOne_spec {u v:OV} {o:O} {r:Root} (h:outOne u o r=some v):r.inn=true∧
  ((r.box=true∧∃(a:Sh) (o':O) (x:a.den),u.s = .ptr a∧castD a r.s r.x=some x∧le r.o o'=true∧outRow u=false∧o = .own o'∧v=⟨.ptr a,.own o',x⟩)∨
    (r.box=false∧∃ x,castD u.s r.s r.x=some x∧le r.o o=true∧outRow u=true∧v=⟨u.s,o,x⟩)):=by
 obtain⟨us,uo,ux⟩:=u
 obtain⟨rbox,rinn,rs,ro,rx⟩:=r
 unfold outOne at h
 cases rinn with
 |false=>simp at h
 | true=>
   refine⟨rfl,?_⟩
   cases rbox with
   | true=>
     left
     refine⟨rfl,?_⟩
     simp only at h
     cases o<;>try (simp at h;done)
     rename_i o'
     cases us<;>try (simp at h;done)
     rename_i a
     simp only at h
     split at h
     · rename_i x hcd hb
       rw[Bool.and_eq_true,Bool.not_eq_true']at hb
       cases h
       exact⟨a,o',x,rfl,hcd,hb.1,hb.2,rfl,rfl⟩
     · simp at h
   | false=>
     right
     refine⟨rfl,?_⟩
     simp only at h
     split at h
     · rename_i x hcd hb
       rw[Bool.and_eq_true]at hb
       cases h
       exact⟨x,hcd,hb.1,hb.2,rfl⟩
     · simp at h
theorem outs_ok {ex:List Nat} (h:Rel rc ex C s X w0 a w):∀ {us:List OV} {i:Nat} {os:List O} {outs:List OV} {args:List Value},outsOf s i us os=some outs→LinkOk X.ic X.ib i us args→
  ∃(T:List (Nat×Root)) (l2 rest:List Nat),(∀ k r,(k,r)∈T→look k s.roots=some r∧i≤k)∧(T.map (·.1)).Nodup∧(allB rc T).Perm (l2++rest)∧
   ∀ fz1:Nat→Prop,(∀ b,fzOf X w (ex++allB rc (s.roots++C.roots)) b→fz1 b)→(∀ b∈rest,fz1 b)→OutsRep w fz1 us outs args l2:=by
 intro us
 induction us with
 | nil=>
   intro i os outs args ho hl
   cases os with
   |cons _ _=>simp[outsOf]at ho
   | nil=>
     simp only[outsOf,Option.some.injEq]at ho
     subst ho
     exact⟨[],[],[],by simp,by simp,by simp[allB],fun _ _ _=>⟨hl,rfl⟩⟩
 | cons u us ih=>
   rintro i os outs args ho ⟨c,cs,cells,rfl,rfl,hlen,hone,hlink,hl⟩
   cases os with
   |nil=>simp[outsOf]at ho
   | cons o os=>
     have weak:∀ {l:List OV},outsOf s (i+1) us os=some l→∀(oo:O) (x:u.s.den),(∀ fz1:Nat→Prop,u.o≠.z→Rep w fz1 u.s oo x cells [])→outs=⟨u.s,oo,x⟩::l→
       ∃(T:List (Nat×Root)) (l2 rest:List Nat),(∀ k r,(k,r)∈T→look k s.roots=some r∧i≤k)∧(T.map (·.1)).Nodup∧(allB rc T).Perm (l2++rest)∧
        ∀ fz1:Nat→Prop,(∀ b,fzOf X w (ex++allB rc (s.roots++C.roots)) b→fz1 b)→(∀ b∈rest,fz1 b)→OutsRep w fz1 (u::us) outs (packV (aggS u.s) cells::cs) l2:=by
      rintro l h1 oo x hr rfl
      obtain⟨T,l2,rest,g1,g2,g3,g4⟩:=ih h1 hl
      exact⟨T,l2,rest,fun k r hk=>⟨(g1 k r hk).1,by have:=(g1 k r hk).2;omega⟩,g2,g3,fun fz1 hf hr'=>⟨_,_,cells,[],l2,rfl,rfl,rfl,rfl,hlen,hone,hr fz1,g4 fz1 hf hr'⟩⟩
     have dead:∀ {l:List OV},outsOf s (i+1) us os=some l→outs=⟨u.s,.dead,u.x⟩::l→_:=fun h1 h2=>weak h1 .dead u.x (fun _ _=>Rep.dead _ hlen hone) h2
     have row:∀ {l:List OV} {r:Root},look i s.roots=some r→outsOf s (i+1) us os=some l→u.o≠.z→(match outOne u o r with|some v=>some (v::l)|none=>none)=some outs→
       ∃(T:List (Nat×Root)) (l2 rest:List Nat),(∀ k r,(k,r)∈T→look k s.roots=some r∧i≤k)∧(T.map (·.1)).Nodup∧(allB rc T).Perm (l2++rest)∧
        ∀ fz1:Nat→Prop,(∀ b,fzOf X w (ex++allB rc (s.roots++C.roots)) b→fz1 b)→(∀ b∈rest,fz1 b)→OutsRep w fz1 (u::us) outs (packV (aggS u.s) cells::cs) l2:=by
      intro l r hr h1 huz h2
      obtain⟨T,l2,rest,g1,g2,g3,g4⟩:=ih h1 hl
      obtain⟨rbox,rinn,rs,ro,rx⟩:=r
      have hrm:=look_mem hr
      have hok:=h.roots i _ (List.mem_append_left _ hrm)
      have hT:(((i,(⟨rbox,rinn,rs,ro,rx⟩:Root))::T).map (·.1)).Nodup:=by
       rw[List.map_cons]
       refine List.nodup_cons.mpr ⟨fun hm=>?_,g2⟩
       obtain⟨⟨k,r⟩,hm,e⟩:=List.mem_map.mp hm
       have:=(g1 k r hm).2
       simp only at e;omega
      have hT2:∀ k r,(k,r)∈(i,(⟨rbox,rinn,rs,ro,rx⟩:Root))::T→look k s.roots=some r∧i≤k:=by
       intro k r hk
       rcases List.mem_cons.mp hk with hk|hk
       · cases hk;exact⟨hr,Nat.le_refl _⟩
       · exact⟨(g1 k r hk).1,by have:=(g1 k r hk).2;omega⟩
      cases hone':outOne u o ⟨rbox,rinn,rs,ro,rx⟩with
      |none=>rw[hone']at h2;simp at h2
      | some v=>
        rw[hone']at h2
        simp only[Option.some.injEq]at h2
        subst h2
        obtain⟨hinn,hcase⟩:=outOne_spec hone'
        obtain⟨hi1,hi2⟩:=h.inn i _ (List.mem_append_left _ hrm) hinn
        rcases hcase with⟨hbx,a',o',x,hsa,hcd,hle,hor,_,rfl⟩|⟨hbx,x,hcd,hle,hor,rfl⟩
        · have hblk:=hi2 hbx
          simp only at hcd hle hbx
          obtain⟨e1,e2⟩:=castD_some hcd
          subst e1
          simp only at e2
          subst e2
          have hcells:cells=[.pointer (some ⟨X.ib i,0,none⟩)]:=by
           rcases hlink huz with⟨_,_,_,_,q⟩|⟨q,_⟩
           · exact q
           · unfold outRow at hor
             split at hor
             · rename_i q1 q2;exact absurd q2 (fun h=>q _ _ q1 h)
             · simp at hor
          obtain⟨cur,e,k1,k2⟩:=hok.2 hbx
          obtain⟨bs',rest',p1,p2⟩:=hok.1.weak hle
          refine⟨_,(rc i).blk::bs'++l2,rest'++rest,hT2,hT,?_,fun fz1 hf hr'=>?_⟩
          · rw[allB_cons]
            subst hbx
            simp only[blocks]
            refine((p1.cons _).append g3).trans ?_
            refine List.perm_iff_count.mpr fun x=>?_
            simp only[List.count_append,List.count_cons]
            omega
          · refine⟨_,_,cells,(rc i).blk::bs',l2,rfl,rfl,rfl,hsa.symm,hlen,hone,fun _=>?_,g4 fz1 hf fun b hb=>hr' b (by simp[hb])⟩
            rw[hcells,←hblk]
            exact⟨_,cur,e,bs',rfl,k1,by rw[k2];exact p2 w fz1 (fun b hb=>⟨hf b hb,rfl⟩) (fun _ _=>rfl) (fun b hb=>hr' b (by simp[hb])),rfl⟩
        · have hic:=hi1 hbx
          simp only at hcd hle hbx
          obtain⟨e1,e2⟩:=castD_some hcd
          subst e1
          simp only at e2
          subst e2
          have hcells:X.ic i=cells:=by
           rcases hlink huz with⟨_,_,q1,q2,_⟩|⟨_,q⟩
           · simp[outRow,q1,q2]at hor
           · exact q
          obtain⟨bs',rest',p1,p2⟩:=hok.1.weak hle
          refine⟨_,bs'++l2,rest'++rest,hT2,hT,?_,fun fz1 hf hr'=>?_⟩
          · rw[allB_cons]
            subst hbx
            simp only[blocks]
            refine(p1.append g3).trans ?_
            refine List.perm_iff_count.mpr fun x=>?_
            simp only[List.count_append]
            omega
          · refine⟨_,_,cells,bs',l2,rfl,rfl,rfl,rfl,hlen,hone,fun _=>?_,g4 fz1 hf fun b hb=>hr' b (by simp[hb])⟩
            rw[←hcells,←hic]
            exact p2 w fz1 (fun b hb=>⟨hf b hb,rfl⟩) (fun _ _=>rfl) (fun b hb=>hr' b (by simp[hb]))
     cases huo:u.o with
     | z=>
       simp only[outsOf,huo]at ho
       cases h1:outsOf s (i+1) us os with
       |none=>rw[h1]at ho;simp at ho
       | some l=>
         rw[h1]at ho
         exact weak h1 .z u.x (fun _ hz=>absurd huo hz) (by simpa using ho.symm)
     | _=>
       cases o with
       | dead=>
         simp only[outsOf,huo]at ho
         cases h1:outsOf s (i+1) us os with
         |none=>rw[h1]at ho;simp at ho
         | some l=>
           rw[h1]at ho
           exact dead h1 (by simpa using ho.symm)
       | _=>
         simp only[outsOf,huo]at ho
         cases hr:look i s.roots with
         |none=>rw[hr]at ho;simp at ho
         | some r=>
           rw[hr]at ho
           simp only at ho
           cases h1:outsOf s (i+1) us os with
           |none=>rw[h1]at ho;simp at ho
           | some l=>
             rw[h1]at ho
             exact row hr h1 (by rw[huo];simp) ho
end
end Go.V
namespace Go.V
open Go
section
variable {P:Program} {E:Env} {L:Nat→Option Loop} {pl:Nat→Option Pl}
theorem ArgsRep.length {w:World} {fz:Nat→Prop}:∀ {us:List OV} {args:List Value} {ls:List Nat},ArgsRep w fz us args ls→args.length=us.length:=by
 intro us
 induction us with
 |nil=>rintro args ls ⟨rfl,_⟩;rfl
 |cons u us ih=>rintro args ls ⟨c,cs,_,_,_,rfl,_,_,_,h⟩;simp[ih h]
def FitX:List OV→List O→List OV→Prop
 |[],_,outs=>outs=[]
 |u::us,o::os,outs=>∃ v vs,outs=v::vs∧(u.o = .z→v=⟨u.s,.z,u.x⟩)∧(u.o≠.z→o = .dead→v=⟨u.s,.dead,u.x⟩)∧(u.o≠.z→o≠.dead→v.o=o)∧FitX us os vs
 |_::_,[],_=>False
theorem outsOf_fit {s:St}:∀ {us:List OV} {i:Nat} {os:List O} {outs:List OV},outsOf s i us os=some outs→FitX us os outs:=by
 intro us
 induction us with
 |nil=>intro i os outs h;cases os<;>simp[outsOf]at h;exact h.symm ▸ rfl
 | cons u us ih=>
   intro i os outs h
   cases os with
   |nil=>simp[outsOf]at h
   | cons o os=>
     cases huo:u.o with
     | z=>
       simp only[outsOf,huo]at h
       cases h1:outsOf s (i+1) us os with
       |none=>rw[h1]at h;simp at h
       | some l=>
         rw[h1]at h
         simp only[Option.some.injEq]at h
         exact⟨_,_,h.symm,fun _=>rfl,fun hz=>absurd huo hz,fun hz=>absurd huo hz,ih h1⟩
     | _=>
       cases o with
       | dead=>
         simp only[outsOf,huo]at h
         cases h1:outsOf s (i+1) us os with
         |none=>rw[h1]at h;simp at h
         | some l=>
           rw[h1]at h
           simp only[Option.some.injEq]at h
           exact⟨_,_,h.symm,fun hz=>absurd (huo.symm.trans hz) (by simp),fun _ _=>rfl,fun _ hd=>absurd rfl hd,ih h1⟩
       | _=>
         simp only[outsOf,huo]at h
         cases hr:look i s.roots with
         |none=>rw[hr]at h;simp at h
         | some r=>
           rw[hr]at h
           simp only at h
           cases h1:outsOf s (i+1) us os with
           |none=>rw[h1]at h;simp at h
           | some l=>
             rw[h1]at h
             simp only at h
             cases h2:outOne u _ r with
             |none=>rw[h2]at h;simp at h
             | some v=>
               rw[h2]at h
               simp only[Option.some.injEq]at h
               refine⟨_,_,h.symm,fun hz=>absurd (huo.symm.trans hz) (by simp),fun _ hd=>absurd hd (by simp),fun _ _=>?_,ih h1⟩
               obtain⟨_,hcase⟩:=outOne_spec h2
               rcases hcase with⟨_,_,_,_,_,_,_,_,ho,rfl⟩|⟨_,_,_,_,_,rfl⟩
               · first|exact ho.symm|(cases ho;done)
               · rfl
theorem resOf_shape {C:St}:∀ {rs:List ResultVar} {gs:List (Sh×O)} {s s2:St} {l:List OV},resOf E C s rs gs=some (l,s2)→l.map (fun u=>(u.s,u.o))=gs:=by
 intro rs
 induction rs with
 |nil=>intro gs s s2 l h;cases gs<;>simp[resOf]at h;obtain⟨rfl,_⟩:=h;rfl
 | cons r rs ih=>
   intro gs s s2 l h
   cases gs with
   |nil=>simp[resOf]at h
   | cons g gs=>
     obtain⟨sh,o⟩:=g
     simp only[resOf]at h
     split at h
     case h_2=>simp at h
     split at h
     case h_2=>simp at h
     split at h
     case h_2=>simp at h
     rename_i h1
     simp only[Option.some.injEq,Prod.mk.injEq]at h
     obtain⟨rfl,rfl⟩:=h
     simp[ih h1]
theorem fn_ok (hE:∀ t s,E.sh t=some s→ShOk P s none t) (hG:∀ f us rs outs,E.gives f us rs outs→GivesS P f us rs outs) (hm:P.follows .mixedOrders=true)
  {f : FuncId} {fn : Func} (hf : P.funcs[f]? = some fn) (hname : (fn.name == "runtime.NumGoroutine") = false) {g : Sig} {us rs outs : List OV} {K : List OV → List OV → Prop}
  (hK:∀ a b,a.map (fun u=>(u.s,u.o))=g.res→FitX us g.outs b→K a b→a=rs∧b=outs) (hv:fnV E L pl fn g us K):GivesS P f us rs outs:=by
 unfold fnV at hv
 cases hb:fn.body with
 |none=>rw[hb]at hv;exact hv.elim
 |some c=>
 rw[hb]at hv
 cases hs:initS 0 us with
 |none=>rw[hs]at hv;exact hv.elim
 |some s=>
 rw[hs]at hv
 simp only at hv
 split at hv
 case h_2=>exact hv.elim
 rename_i hslots
 rw[Bool.and_eq_true]at hslots
 obtain⟨hsl,hlen⟩:=hslots
 have hlen:=Nat.le_of_ble_eq_true hlen
 refine⟨⟨fn,hf,hname,by rw[hb];rfl⟩,?_⟩
 intro w fz args ls ha hn hls hfz
 obtain⟨rc0,I⟩:=init_ok hs ha
 have hal:=ha.length
 let X:Fr:=⟨ls,fun b=>fz b∨b∈ls∨w.heap.size≤b,fun _ _=>False,fn.ntmps,fun k=>(rc0 k).cs,fun k=>(rc0 k).blk⟩
 let a:Act:={ tmps:=args.toArray++Array.replicate (fn.ntmps - args.toArray.size) undef,defers:=[] }
 have hfz0:∀ b,fz b→fzOf X w ([]++allB rc0 (s.roots++(⟨[],[]⟩:St).roots)) b:=by
  intro b hb
  refine⟨hfz b hb,fun hm=>?_,.inl hb⟩
  simp only[List.append_nil,List.nil_append]at hm
  rw[I.bs]at hm
  exact(hls b hm).2 hb
 have hgR:∀ k,getR ⟨[],[]⟩ s k=look k s.roots:=by
  intro k;unfold getR;cases look k s.roots<;>rfl
 have hRel:Rel rc0 [] ⟨[],[]⟩ s X w a w:=by
  refine⟨by simpa using I.rk.1,by simp only[List.append_nil,List.nil_append];rw[I.bs];exact hn,?_,?_,I.tk.1,fun _ _ _=>rfl,?_,Ext.refl' _ _,rfl,⟨fun b hb=>.inr (.inr hb),fun b hb=>.inr (.inl hb)⟩,fun _ _ h=>h.elim,?_,fun k r _ _=>⟨fun _=>rfl,fun _=>rfl⟩⟩
  · intro b hb
    simp only[List.append_nil,List.nil_append]at hb
    rw[I.bs]at hb
    exact⟨(hls b hb).1,.inr hb⟩
  · intro k r hk
    exact(I.ok k r (by simpa using hk)).stable (fun b hb=>⟨hfz0 b hb,rfl⟩) fun _ _=>rfl
  · intro t v htv
    obtain⟨_,j,c,rfl,hc,hvo⟩:=I.tm t v (by simpa using htv)
    refine⟨c,?_,?_⟩
    · have hj:j<args.length:=by
       rcases Nat.lt_or_ge j args.length with h'|h'
       · exact h'
       · simp[List.getElem?_eq_none h']at hc
      show(args.toArray++Array.replicate (fn.ntmps - args.toArray.size) undef)[0+j]? = some c
      rw[Nat.zero_add,Array.getElem?_append_left (by simpa using hj)]
      simpa using hc
    · have:=hvo.stable (fz1:=fzOf X w ([]++allB rc0 (s.roots++(⟨[],[]⟩:St).roots))) (w1:=w) (R1:=getR ⟨[],[]⟩ s) (rc1:=rc0) (fun b hb=>⟨hfz0 b hb,rfl⟩)
       (fun k p _=>fun r1 hr1=>⟨r1,(hgR k).symm.trans hr1,rfl,fun _ _ _ m1 m2 _ m4=>⟨m1,m2,m4⟩⟩) (fun k _=>fun r1 hr1 hbx=>⟨r1,(hgR k).symm.trans hr1,hbx,rfl,rfl⟩)
      exact this
  · show(args.toArray++Array.replicate (fn.ntmps - args.toArray.size) undef).size=fn.ntmps
    simp
    omega
 refine calls_of_wp hf hb (wp_mono (ev_ok hE hG hm (fun _ _ h=>h) hRel hsl hv) ?_)
 have fin:∀(e:Ex) (a':Act) (w':World) (s1:St) (rc1:Nat→RC),(∀ id,e≠.exit id)→retK E fn.results.toList g us K e s1→Rel rc1 [] ⟨[],[]⟩ s1 X w a' w'→
   a'.defers=[]∧∃ v,(results fn a'.tmps).run P w' = .ok v w'∧∃ c cs l1 l2,Ending.returned v = .returned c∧c=tupleOf cs∧Ext ls w w'∧ArgsRep w' (fzAfter fz ls w w' (l1++l2)) rs cs l1∧
    OutsRep w' (fzAfter fz ls w w' (l1++l2)) us outs args l2∧(l1++l2).Nodup∧∀ b∈l1++l2,b<w'.heap.size∧(b∈ls∨w.heap.size≤b):=by
  intro e a' w' s1 rc1 he hr h1
  refine⟨h1.nd,?_⟩
  have hr:(match resOf E ⟨[],[]⟩ s1 fn.results.toList g.res with
   | some (l,s1)=>match outsOf s1 0 us g.outs with
     |some l'=>K l l'
     |none=>False
   |none=>False):=by
   cases e with
   |exit id=>exact absurd rfl (he id)
   |normal=>exact hr
   |ret=>exact hr
  split at hr
  case h_2=>exact hr.elim
  rename_i l s2 hres
  split at hr
  case h_2=>exact hr.elim
  rename_i l' houts
  obtain⟨rfl,rfl⟩:=hK l l' (resOf_shape hres) (outsOf_fit houts) hr
  obtain⟨rc2,l1,cs,h2,hargs,hrun,_⟩:=res_ok hE h1 hres
  obtain⟨T,l2,rest,t1,t2,t3,t4⟩:=outs_ok h2 houts I.link
  have hk:(s2.roots.map (·.1)).Nodup:=by have:=h2.keys;simpa using this
  have hperm:=consts_perm (constsR_of fun k r hkr=>(t1 k r hkr).1) t2 hk
  have hall:(allB rc2 (s2.roots++(⟨[],[]⟩:St).roots)).Perm (allB rc2 (delKeys (T.map (·.1)) s2.roots)++(l2++rest)):=by
   simp only[List.append_nil]
   refine(allB_perm hperm).trans ?_
   rw[allB_append]
   exact t3.append_left _
  have hnd:(l1++(allB rc2 (delKeys (T.map (·.1)) s2.roots)++(l2++rest))).Nodup:=by
   refine((hall.append_left l1).nodup_iff).mp ?_
   have:=h2.excl
   simpa using this
  have hmem:∀ b,b∈l1++(l2++rest)→b∈l1++[]++allB rc2 (s2.roots++(⟨[],[]⟩:St).roots):=by
   intro b hb
   rcases List.mem_append.mp hb with hb|hb
   · simp[hb]
   · exact List.mem_append_right _ (hall.mem_iff.mpr (List.mem_append_right _ hb))
  have hbnd:∀ b∈l1++(l2++rest),b<w'.heap.size∧(b∈ls∨w.heap.size≤b):=by
   intro b hb
   obtain⟨q1,q2⟩:=h2.bnd b (hmem b hb)
   exact⟨q1,q2.symm⟩
  have hn2:(l1++(l2++rest)).Nodup:=by
   refine List.Nodup.sublist ?_ hnd
   exact List.Sublist.append_left (List.sublist_append_right _ _) _
  have hfa:∀ b,fzOf X w' (l1++[]++allB rc2 (s2.roots++(⟨[],[]⟩:St).roots)) b→fzAfter fz ls w w' (l1++l2) b:=by
   intro b hb
   refine⟨hb.3,hb.1,fun hm=>hb.2 (hmem b ?_)⟩
   rcases List.mem_append.mp hm with hm|hm<;>simp[hm]
  have hfr:∀ b∈rest,fzAfter fz ls w w' (l1++l2) b:=by
   intro b hb
   obtain⟨q1,q2⟩:=hbnd b (by simp[hb])
   refine⟨.inr q2,q1,fun hm=>?_⟩
   rw[←List.append_assoc]at hn2
   exact(List.nodup_append.mp hn2).2.2 b hm b hb rfl
  refine⟨tupleOf cs,results_ok hrun,_,cs,l1,l2,rfl,rfl,h2.ext,hargs.mono hfa,t4 _ hfa hfr,?_,fun b hb=>hbnd b ?_⟩
  · rw[←List.append_assoc]at hn2;exact(List.nodup_append.mp hn2).1
  · rcases List.mem_append.mp hb with hb|hb<;>simp[hb]
 intro e a' w' he
 cases e with
 |normal=>obtain⟨s1,rc1,hr,h1⟩:=he;exact fin .normal a' w' s1 rc1 (by simp) hr h1
 |ret=>obtain⟨s1,rc1,hr,h1⟩:=he;exact fin .ret a' w' s1 rc1 (by simp) hr h1
 |exit id=>obtain⟨s1,rc1,hr,h1⟩:=he;exact hr.elim
 |_=>exact he.elim
end
end Go.V
namespace Go.V
open Go
def encR {tail:Type}:(l:List (Sh×O))→resD tail l→List OV×tail
 |[],t=>([],t)
 |(sh,o)::l,r=>(⟨sh,o,r.1⟩::(encR l r.2).1,(encR l r.2).2)
def outFit:List OV→List (Sh×O)→Bool
 |[],[]=>true
 | u::us,(_,o)::m=>(match u.o with
   | .z=>(match o with
     |.z=>true
     |_=>false)
   | _=>(match o with
     |.z=>false
     |_=>true))&&outFit us m
 |_,_=>false
def encO:List OV→(m:List (Sh×O))→outD m→List OV
 |[],_,_=>[]
 |_::_,[],_=>[]
 | u::us,(sh,o)::m,t=>match o,t with
   |.z,t=>⟨u.s,.z,u.x⟩::encO us m t
   |.dead,t=>⟨u.s,.dead,u.x⟩::encO us m t
   |.own a,t=>⟨sh,.own a,t.1⟩::encO us m t.2
   |.pr a b,t=>⟨sh,.pr a b,t.1⟩::encO us m t.2
theorem outK_enc:∀ {us:List OV} {m:List (Sh×O)} {K:outD m→Prop} {b:List OV},outFit us m=true→outK m K b→FitX us (m.map (·.2)) b→∃ v,K v∧b=encO us m v:=by
 intro us
 induction us with
 | nil=>
   intro m K b hf h hx
   cases m with
   |nil=>obtain rfl:=hx;exact⟨(),h,rfl⟩
   |cons _ _=>simp[outFit]at hf
 | cons u us ih=>
   intro m K b hf h hx
   cases m with
   |nil=>simp[outFit]at hf
   | cons e m=>
     obtain⟨sh,o⟩:=e
     obtain⟨v,vs,rfl,f1,f2,f3,f4⟩:=hx
     simp only[outFit,Bool.and_eq_true]at hf
     obtain⟨hf1,hf2⟩:=hf
     cases huo:u.o with
     | z=>
       cases o with
       | z=>
         obtain⟨x,k1,k2⟩:=ih hf2 (show outK m K vs from h) f4
         exact⟨x,k1,by rw[f1 huo,k2];rfl⟩
       |_=>rw[huo]at hf1;simp at hf1
     | _=>
       have hz:u.o≠.z:=by rw[huo];simp
       cases o with
       |z=>rw[huo]at hf1;simp at hf1
       | dead=>
         obtain⟨x,k1,k2⟩:=ih hf2 (show outK m K vs from h) f4
         exact⟨x,k1,by rw[f2 hz rfl,k2];rfl⟩
       | own a=>
         have h:(match castD sh v.s v.x with|some x=>outK m (fun r=>K (x,r)) vs|none=>False):=h
         split at h
         · rename_i x hcd
           obtain⟨y,k1,k2⟩:=ih hf2 h f4
           have ho:=f3 hz (by simp)
           obtain⟨vs',vo,vx⟩:=v
           obtain⟨e1,e2⟩:=castD_some hcd
           simp only at e1 ho
           subst e1;subst ho
           simp only at e2
           subst e2
           exact⟨(x,y),k1,by rw[k2];rfl⟩
         · exact h.elim
       | pr a b=>
         have h:(match castD sh v.s v.x with|some x=>outK m (fun r=>K (x,r)) vs|none=>False):=h
         split at h
         · rename_i x hcd
           obtain⟨y,k1,k2⟩:=ih hf2 h f4
           have ho:=f3 hz (by simp)
           obtain⟨vs',vo,vx⟩:=v
           obtain⟨e1,e2⟩:=castD_some hcd
           simp only at e1 ho
           subst e1;subst ho
           simp only at e2
           subst e2
           exact⟨(x,y),k1,by rw[k2];rfl⟩
         · exact h.elim
theorem resK_enc {tail:Type} {T:(tail→Prop)→List OV→Prop}:∀ {l:List (Sh×O)} {K:resD tail l→Prop} {a b:List OV},resK T l K a b→a.map (fun u=>(u.s,u.o))=l→
  ∃(K':tail→Prop),T K' b∧∀ t,K' t→∃ v,K v∧encR l v=(a,t):=by
 intro l
 induction l with
 | nil=>
   intro K a b h hs
   cases a with
   |nil=>exact⟨K,h,fun t ht=>⟨t,ht,rfl⟩⟩
   |cons _ _=>simp at hs
 | cons e l ih=>
   obtain⟨sh,o⟩:=e
   intro K a b h hs
   cases a with
   |nil=>simp at hs
   | cons u a=>
     simp only[List.map_cons,List.cons.injEq,Prod.mk.injEq]at hs
     have h:(match castD sh u.s u.x with|some x=>resK T l (fun r=>K (x,r)) a b|none=>False):=h
     split at h
     · rename_i x hcd
       obtain⟨K',h1,h2⟩:=ih h hs.2
       obtain⟨us,uo,ux⟩:=u
       obtain⟨e1,e2⟩:=castD_some hcd
       obtain⟨⟨g1,g2⟩,_⟩:=hs
       simp only at e1 g2
       subst e1;subst g2
       simp only at e2
       subst e2
       refine⟨K',h1,fun t ht=>?_⟩
       obtain⟨v,k1,k2⟩:=h2 t ht
       exact⟨(x,v),k1,by simp[encR,k2]⟩
     · exact h.elim
section
variable {P:Program} {E:Env} {L:Nat→Option Loop} {pl:Nat→Option Pl}
theorem fn_gives (hE:∀ t s,E.sh t=some s→ShOk P s none t) (hG:∀ f us rs outs,E.gives f us rs outs→GivesS P f us rs outs) (hm:P.follows .mixedOrders=true)
  {f : FuncId} {fn : Func} (hf : P.funcs[f]? = some fn) (hname : (fn.name == "runtime.NumGoroutine") = false) {g : Sig} {us : List OV} {l m : List (Sh × O)} (hl : g.res = l) (hmo : g.outs = m.map (·.2)) (hfit : outFit us m = true)
  {val:resD (outD m) l} (hv:fnV E L pl fn g us (ansK l m fun r=>r=val)):GivesS P f us (encR l val).1 (encO us m (encR l val).2):=by
 refine fn_ok hE hG hm hf hname (fun a b h1 h2 h3=>?_) hv
 obtain⟨K',k1,k2⟩:=resK_enc h3 (by rw[h1,hl])
 rw[hmo]at h2
 obtain⟨t,t1,t2⟩:=outK_enc hfit k1 h2
 obtain⟨v,rfl,v2⟩:=k2 t t1
 rw[v2]
 exact⟨rfl,t2⟩
end
def infoB (P:Program) (s:Sh) (t:TypeId):Bool:=match P.info? t with
 | some i=>Nat.beq i.size s.size&&(match i.zero with
   |some z=>valB z (packV (aggS s) (zcells s))
   | none => false) && (!leafS s || (!P.stoodInHeld t && !P.eqGuardType P.depth t && (P.fieldsOf t).toList.all fun f => decide (f.name ≠ "_")))
 |none=>false
 where
 valB (a b:Value):Bool:=match a,b with
  |.agg x,.agg y=>vsB x.toList y.toList
  |a,b=>oneB a b
 vsB:List Value→List Value→Bool
  |[],[]=>true
  |a::l,b::m=>oneB a b&&vsB l m
  |_,_=>false
 oneB:Value→Value→Bool
  |.int k n,.int j m=>decide (k=j)&&decide (n=m)
  |.bool a,.bool b=>a == b
  |.string a,.string b=>decide (a.data.toList=b.data.toList)
  |.slice none 0 0,.slice none 0 0=>true
  |.pointer none,.pointer none=>true
  |.nilFunc,.nilFunc=>true
  |_,_=>false
theorem infoB.one {a b:Value} (h:infoB.oneB a b=true):a=b:=by
 unfold infoB.oneB at h
 split at h
 · rw[Bool.and_eq_true,decide_eq_true_eq,decide_eq_true_eq]at h;rw[h.1,h.2]
 · rw[beq_iff_eq]at h;rw[h]
 · rw[decide_eq_true_eq]at h
   congr 1
   exact ByteArray.ext (Array.ext' h)
 · rfl
 · rfl
 · rfl
 · simp at h
theorem infoB.vs:∀ {l m:List Value},infoB.vsB l m=true→l=m:=by
 intro l
 induction l with
 |nil=>intro m h;cases m<;>first|rfl|simp[infoB.vsB]at h
 | cons a l ih=>
   intro m h
   cases m with
   |nil=>simp[infoB.vsB]at h
   | cons b m=>
     simp only[infoB.vsB,Bool.and_eq_true]at h
     rw[infoB.one h.1,ih h.2]
theorem infoB.val {a b:Value} (h:infoB.valB a b=true):a=b:=by
 unfold infoB.valB at h
 split at h
 · exact congrArg Value.agg (Array.ext' (infoB.vs h))
 · exact infoB.one h
theorem infoB.ok {P:Program} {s:Sh} {t:TypeId} (h:infoB P s t=true):InfoOk P s t:=by
 unfold infoB at h
 split at h
 · rename_i i hi
   rw[Bool.and_eq_true,Bool.and_eq_true]at h
   obtain⟨⟨h1,h2⟩,h3⟩:=h
   refine⟨i,hi,Nat.eq_of_beq_eq_true h1,?_,fun hl=>?_⟩
   · split at h2
     · rename_i z hz
       rw[hz]
       congr 1
       exact infoB.val h2
     · simp at h2
   · rw[hl]at h3
     simp only[Bool.not_true,Bool.false_or,Bool.and_eq_true,Bool.not_eq_true',List.all_eq_true,decide_eq_true_eq]at h3
     exact⟨h3.1.1,h3.1.2,h3.2⟩
 · simp at h
def shOkB (P:Program):Sh→Option (List Field×Nat)→TypeId→Bool
 | .int k,none,t=>(match P.underlying t with
   |some (.int j)=>decide (j=k)
   |_=>false)&&infoB P (.int k) t
 | .bool,none,t=>(match P.underlying t with
   |some .bool=>true
   |_=>false)&&infoB P .bool t
 | .str,none,t=>(match P.underlying t with
   |some .string=>true
   |_=>false)&&infoB P .str t
 | .unit,none,t=>(match P.underlying t with
   |some (.struct fs)=>fs.toList.isEmpty
   |_=>false)&&infoB P .unit t
 | .pair a b,none,t=>(match P.underlying t with
   | some (.struct fs)=>match fs.toList with
     |f::l=>Nat.beq f.offset 0&&Nat.blt 0 a.size&&shOkB P a none f.type&&shOkB P b (some (l,a.size)) t
     |_=>false
   |_=>false)&&infoB P (.pair a b) t
 | .tok a b,none,t=>(match P.underlying t with
   | some (.struct fs)=>match fs.toList with
     |f::l=>Nat.beq f.offset 0&&Nat.blt 0 a.size&&shOkB P a none f.type&&shOkB P b (some (l,a.size)) t
     |_=>false
   |_=>false)&&infoB P (.tok a b) t
 | .sl e a,none,t=>(match P.underlying t with
   |some (.slice e')=>Nat.beq e' e
   |_=>false)&&infoB P (.sl e a) t&&Nat.blt 0 a.size&&shOkB P a none e&&Nat.ble (P.bytesOf e) 128
 | .ptr a,none,t=>(match P.underlying t with
   |some (.pointer e)=>shOkB P a none e
   |_=>false)&&infoB P (.ptr a) t
 |.unit,some (l,_),_=>l.isEmpty
 | .pair a b,some (l,off),t=>match l with
   |f::l'=>Nat.beq f.offset off&&Nat.blt 0 a.size&&shOkB P a none f.type&&shOkB P b (some (l',off+a.size)) t
   |[]=>false
 |_,_,_=>false
theorem shOkB_ok {P:Program}:∀ {s:Sh} {q:Option (List Field×Nat)} {t:TypeId},shOkB P s q t=true→ShOk P s q t:=by
 intro s
 induction s with
 | int k=>
   intro q t h
   cases q with
   |some _=>simp[shOkB]at h
   | none=>
     simp only[shOkB,Bool.and_eq_true]at h
     obtain⟨h1,h2⟩:=h
     split at h1
     · rename_i j hu;rw[decide_eq_true_eq]at h1;subst h1;exact⟨hu,infoB.ok h2⟩
     · simp at h1
 | bool=>
   intro q t h
   cases q with
   |some _=>simp[shOkB]at h
   | none=>
     simp only[shOkB,Bool.and_eq_true]at h
     obtain⟨h1,h2⟩:=h
     split at h1
     · rename_i hu;exact⟨hu,infoB.ok h2⟩
     · simp at h1
 | str=>
   intro q t h
   cases q with
   |some _=>simp[shOkB]at h
   | none=>
     simp only[shOkB,Bool.and_eq_true]at h
     obtain⟨h1,h2⟩:=h
     split at h1
     · rename_i hu;exact⟨hu,infoB.ok h2⟩
     · simp at h1
 | unit=>
   intro q t h
   cases q with
   |some q=>obtain⟨l,off⟩:=q;simp only[shOkB,List.isEmpty_iff]at h;exact h
   | none=>
     simp only[shOkB,Bool.and_eq_true]at h
     obtain⟨h1,h2⟩:=h
     split at h1
     · rename_i fs hu;exact⟨fs,hu,List.isEmpty_iff.mp h1,infoB.ok h2⟩
     · simp at h1
 | pair a b iha ihb=>
   intro q t h
   cases q with
   | some q=>
     obtain⟨l,off⟩:=q
     simp only[shOkB]at h
     split at h
     · rename_i f l'
       simp only[Bool.and_eq_true]at h
       obtain⟨⟨⟨h1,h2⟩,h3⟩,h4⟩:=h
       exact⟨f,l',rfl,Nat.eq_of_beq_eq_true h1,Nat.blt_eq.mp h2,iha h3,ihb h4⟩
     · simp at h
   | none=>
     simp only[shOkB,Bool.and_eq_true]at h
     obtain⟨h1,h2⟩:=h
     split at h1
     · rename_i fs hu
       split at h1
       · rename_i f l hfs
         simp only[Bool.and_eq_true]at h1
         obtain⟨⟨⟨g1,g2⟩,g3⟩,g4⟩:=h1
         exact⟨fs,f,l,hu,infoB.ok h2,hfs,Nat.eq_of_beq_eq_true g1,Nat.blt_eq.mp g2,iha g3,ihb g4⟩
       · simp at h1
     · simp at h1
 | sl e a ih=>
   intro q t h
   cases q with
   |some _=>simp[shOkB]at h
   | none=>
     simp only[shOkB,Bool.and_eq_true]at h
     obtain⟨⟨⟨⟨h1,h2⟩,h3⟩,h4⟩,h5⟩:=h
     split at h1
     · rename_i e' hu
       have:=Nat.eq_of_beq_eq_true h1
       subst this
       exact⟨hu,infoB.ok h2,Nat.blt_eq.mp h3,ih h4,Nat.le_of_ble_eq_true h5⟩
     · simp at h1
 | ptr a ih=>
   intro q t h
   cases q with
   |some _=>simp[shOkB]at h
   | none=>
     simp only[shOkB,Bool.and_eq_true]at h
     obtain⟨h1,h2⟩:=h
     split at h1
     · rename_i e hu;exact⟨e,hu,infoB.ok h2,ih h1⟩
     · simp at h1
 |fn f c _=>intro q t h;cases q<;>simp[shOkB]at h
 |md a _=>intro q t h;cases q<;>simp[shOkB]at h
 | tok a b iha ihb=>
   intro q t h
   cases q with
   |some q=>simp[shOkB]at h
   | none=>
     simp only[shOkB,Bool.and_eq_true]at h
     obtain⟨h1,h2⟩:=h
     split at h1
     · rename_i fs hu
       split at h1
       · rename_i f l hfs
         simp only[Bool.and_eq_true]at h1
         obtain⟨⟨⟨g1,g2⟩,g3⟩,g4⟩:=h1
         exact⟨fs,f,l,hu,infoB.ok h2,hfs,Nat.eq_of_beq_eq_true g1,Nat.blt_eq.mp g2,iha g3,ihb g4⟩
       · simp at h1
     · simp at h1
def tabB (P:Program):List (TypeId×Sh)→Bool
 |[]=>true
 |(t,s)::l=>shOkB P s none t&&tabB P l
theorem tab_ok {P:Program}:∀ {l:List (TypeId×Sh)},tabB P l=true→∀ t s,look t l=some s→ShOk P s none t:=by
 intro l
 induction l with
 |nil=>intro _ t s h;simp[look]at h
 | cons q l ih=>
   obtain⟨u,sh⟩:=q
   intro h t s hl
   simp only[tabB,Bool.and_eq_true]at h
   simp only[look]at hl
   split at hl
   · rename_i hb
     have:=Nat.eq_of_beq_eq_true hb
     subst this
     cases hl
     exact shOkB_ok h.1
   · exact ih h.2 t s hl
end Go.V
namespace Go.V
open Go
def Sh.data:Sh→Bool
 |.pair a b=>a.data&&b.data
 |.sl _ a=>a.data
 |.ptr _=>false
 |.fn _ _=>false
 |.tok _ _=>false
 |.md _=>false
 |_=>true
section
variable {P:Program} {H:Type} {enc:TypeId×Value→H} {W:World} {sp:Nat→Bool} {hd:Bool}
abbrev oldB' (W:World):Nat→Prop:=fun b=>b<W.heap.size
theorem info_cells {s:Sh} {t:TypeId} (h:InfoOk P s t):P.cellsOf t=s.size:=by
 obtain⟨i,h1,h2,_⟩:=h
 simp[Program.cellsOf,h1,h2]
theorem cell_at {a:Addr} {j:Nat} {v:Value} (h:W.cell? (a.add j)=some v) (h0:W.cell? a≠none):a.spot=none∧W.cell? ⟨a.block,a.off+j,none⟩=some v:=by
 have hs:a.spot=none:=by
  unfold World.cell? at h0
  split at h0
  · cases hsp:a.spot with
    |none=>rfl
    |some x=>rw[hsp]at h0;simp at h0
  · exact absurd rfl h0
 refine⟨hs,?_⟩
 unfold Addr.add at h
 split at h
 · rename_i hj
   subst hj
   obtain⟨b,o,s⟩:=a
   simp only at hs
   subst hs
   simpa using h
 · exact h
theorem cellsAt_of {b off:Nat} {es:List Value} (h:∀ j,j<es.length→W.cell? ⟨b,off+j,none⟩=es[j]?) (h0:0<es.length):CellsAt W b off es:=by
 have hb:=h 0 h0
 rw[List.getElem?_eq_getElem h0]at hb
 cases hh:W.heap[b]? with
 |none=>simp[World.cell?,hh]at hb
 | some o=>
   cases o with
   | cells cur e fr=>
     have hc:∀ j,j<es.length→cur[off+j]? = es[j]?:=by
      intro j hj
      have:=h j hj
      simpa [World.cell?,hh]using this
     have hsz:off+es.length≤cur.size:=by
      have:=hc (es.length - 1) (by omega)
      rw[List.getElem?_eq_getElem (by omega)]at this
      have:=(Array.getElem?_eq_some_iff.1 this).1
      omega
     refine⟨cur,e,fr,hh,hsz,?_⟩
     apply List.ext_getElem?
     intro j
     rcases Nat.lt_or_ge j es.length with hj|hj
     · rw[List.getElem?_take_of_lt hj,List.getElem?_drop,Array.getElem?_toList];exact hc j hj
     · rw[List.getElem?_eq_none (by simp;omega),List.getElem?_eq_none hj]
   |_=>simp[World.cell?,hh]at hb
theorem trod_rep:∀(n:Nat) {sh:Sh} {t:TypeId} {cs:List Value} {x:DataW H×List MemPlace},ShOk P sh none t→sh.data=true→DataW.trod enc P W 0 sp hd n t cs=some x→
  ∃ y:sh.den,Rep W (oldB' W) sh .z y cs []:=by
 intro n
 induction n with
 |zero=>intro sh t cs x _ _ h;simp[DataW.trod]at h
 | succ n ih=>
   intro sh t cs x hsh hdt h
   have fields:∀ {s:Sh} {l:List Field} {off:Nat} {c2:List Value},ShOk P s (some (l,off)) t→s.data=true→c2.length=s.size→
     (∀(i:Nat) (f:Field),l[i]? = some f→∃ x,DataW.trod enc P W 0 sp hd n f.type ((c2.drop (f.offset - off)).take (P.cellsOf f.type))=some x)→∃ y:s.den,Rep W (oldB' W) s .z y c2 []:=by
    intro s
    induction s with
    |unit=>intro l off c2 _ _ hl _;exact⟨(),rfl,List.eq_nil_of_length_eq_zero hl⟩
    | pair a b _ ihb=>
      rintro l off c2 ⟨f,l',rfl,h1,h2,h3,h4⟩ hdd hl hall
      simp only[Sh.data,Bool.and_eq_true]at hdd
      have hl:c2.length=a.size+b.size:=hl
      obtain⟨x0,hx0⟩:=hall 0 f (by simp)
      rw[h1,Nat.sub_self,List.drop_zero,info_cells h3.info]at hx0
      obtain⟨y1,r1⟩:=ih h3 hdd.1 hx0
      have hoff:∀ {s:Sh} {l:List Field} {off:Nat},ShOk P s (some (l,off)) t→∀(i:Nat) (f:Field),l[i]? = some f→off≤f.offset:=by
       intro s
       induction s with
       |unit=>intro l off hl i f hf;obtain rfl:l=[]:=hl;simp at hf
       | pair a b _ ihb=>
         rintro l off ⟨g,l',rfl,e1,_,_,e4⟩ i f hf
         cases i with
         |zero=>simp at hf;subst hf;omega
         |succ i=>have:=ihb e4 i f (by simpa using hf);omega
       |_=>intro l off hl;exact hl.elim
      obtain⟨y2,r2⟩:=ihb (c2:=c2.drop a.size) h4 hdd.2 (by simp;omega) (fun i f' hf'=>by
       obtain⟨x1,hx1⟩:=hall (i+1) f' (by simpa using hf')
       refine⟨x1,?_⟩
       rw[List.drop_drop]
       have:=hoff h4 i f' hf'
       rw[show a.size+(f'.offset - (off+a.size))=f'.offset - off by omega]
       exact hx1)
      exact⟨(y1,y2),c2.take a.size,c2.drop a.size,(List.take_append_drop _ _).symm,rfl,r1,r2⟩
    |_=>intro l off c2 hl;exact hl.elim
   cases sh with
   | int k=>
     obtain⟨hu,_⟩:=hsh
     obtain⟨m,rfl,_,hw⟩:=DataW.trod_int hu h
     have:k.min≤m∧m≤k.max:=by simpa [Lit.wf]using hw
     exact⟨m,rfl,⟨rfl,by simp[Value.oneCell']⟩,fun _=>⟨rfl,this.1,this.2⟩⟩
   | bool=>
     obtain⟨hu,_⟩:=hsh
     obtain⟨b,rfl,_⟩:=DataW.trod_bool hu h
     exact⟨b,rfl,⟨rfl,by simp[Value.oneCell']⟩,fun _=>rfl⟩
   | str=>
     obtain⟨hu,_⟩:=hsh
     obtain⟨s,rfl,_,hl⟩:=DataW.trod_string hu h
     exact⟨s.data.toList,rfl,⟨rfl,by simp[Value.oneCell']⟩,fun _=>⟨rfl,show s.data.toList.length≤maxLen by rw[Array.length_toList];exact hl⟩⟩
   | unit=>
     obtain⟨fs,hu,hfs,hi⟩:=hsh
     obtain⟨xs,m,_,_,hl,_⟩:=DataW.trod_struct hu h
     rw[info_cells hi]at hl
     exact⟨(),rfl,List.eq_nil_of_length_eq_zero hl⟩
   | pair a b=>
     obtain⟨fs,f,l,hu,hi,hfs,h2,h3,h4,h5⟩:=hsh
     obtain⟨xs,m,hm,_,hl,hxl,hall⟩:=DataW.trod_struct hu h
     cases hm
     rw[info_cells hi]at hl
     refine fields (s:=.pair a b) (l:=fs.toList) (off:=0) (by rw[hfs];exact⟨f,l,rfl,h2,h3,h4,by simpa using h5⟩) hdt hl ?_
     intro i f' hf'
     have hf2:fs[i]? = some f':=by rw[←Array.getElem?_toList];exact hf'
     have:=hall i f' hf2
     have hlt:i<xs.length:=by rw[hxl];exact(Array.getElem?_eq_some_iff.1 hf2).1
     rw[List.getElem?_eq_getElem hlt]at this
     exact⟨_,by rw[Nat.sub_zero];exact this⟩
   | sl e a=>
     obtain⟨hu,_,hpos,hse,_⟩:=hsh
     have hdt:a.data=true:=hdt
     have hce:=info_cells hse.info
     rcases DataW.trod_slice hu h with⟨rfl,_⟩|⟨A,len,cap,elems,rest,m,hm,rfl,_,_,hlc,hcm,hel,hall,_⟩
     · exact⟨([]:List a.den),none,0,[],rfl,rfl,Nat.le_refl _,Nat.zero_le _,⟨rfl,rfl⟩,.inl rfl⟩
     · cases hm
       rw[hce]at hall
       by_cases h0:len=0
       · subst h0
         exact⟨([]:List a.den),some A,cap,[],rfl,rfl,Nat.zero_le _,hcm,⟨rfl,rfl⟩,.inl rfl⟩
       · have each:∀ i,i<len→∃ cs',cs'.length=a.size∧(∀ j,j<a.size→W.cell? ((A.add (i * a.size)).add j)=cs'[j]?)∧∃ y:a.den,Rep W (oldB' W) a .z y cs' []:=by
          intro i hi
          have:=hall i hi
          rw[List.getElem?_eq_getElem (by omega)]at this
          obtain⟨cs',g1,g2⟩:=Option.bind_eq_some_iff.mp this
          obtain⟨_,g3,g4⟩:=World.cells?_some g1
          exact⟨cs',g3,fun j hj=>g4 j hj,ih hse hdt g2⟩
         have hspot:A.spot=none∧∀ i,i<len→∀ j,j<a.size→∀ v,W.cell? ((A.add (i * a.size)).add j)=some v→W.cell? ⟨A.block,A.off+(i * a.size+j),none⟩=some v:=by
          obtain⟨cs',g1,g2,_⟩:=each 0 (by omega)
          have h00:=g2 0 hpos
          rw[List.getElem?_eq_getElem (by omega)]at h00
          have ha0:W.cell? A≠none:=by
           have e:(A.add (0 * a.size)).add 0=A:=by simp[Addr.add]
           rw[e]at h00;rw[h00];simp
          have hs:A.spot=none:=(cell_at (j:=0) (v:=cs'[0]) (by
           have e:(A.add (0 * a.size)).add 0=A.add 0:=by simp[Addr.add]
           rw[e]at h00;exact h00) ha0).1
          refine⟨hs,fun i hi j hj v hv=>?_⟩
          have e:(A.add (i * a.size)).add j=⟨A.block,A.off+(i * a.size+j),none⟩:=by
           obtain⟨b,o,s⟩:=A
           simp only at hs
           subst hs
           rw[add_none,add_none,Nat.add_assoc]
          rw[←e];exact hv
         have build:∀ m,m≤len→∃(ys:List a.den) (es:List Value),ys.length=m∧RepL (Rep W (oldB' W) a .z) ys es []∧es.length=m * a.size∧∀ j,j<es.length→W.cell? ⟨A.block,A.off+j,none⟩=es[j]?:=by
          intro m
          induction m with
          |zero=>intro _;exact⟨[],[],rfl,⟨rfl,rfl⟩,by simp,by simp⟩
          | succ m ihm=>
            intro hm
            obtain⟨ys,es,q1,q2,q3,q4⟩:=ihm (by omega)
            obtain⟨cs',g1,g2,y,g3⟩:=each m (by omega)
            refine⟨ys++[y],es++cs',by simp[q1],?_,by rw[List.length_append,q3,g1,Nat.add_mul];omega,?_⟩
            · have:=RepL.app (w:=W) (fz:=oldB' W) (sh:=a) (oo:=.z) q2 (show RepL (Rep W (oldB' W) a .z) [y] cs' [] from⟨cs',[],[],[],by simp,rfl,g3,rfl,rfl⟩)
              simpa using this
            · intro j hj
              rw[List.length_append,q3,g1]at hj
              rcases Nat.lt_or_ge j es.length with hj'|hj'
              · rw[List.getElem?_append_left hj'];exact q4 j hj'
              · rw[List.getElem?_append_right hj']
                have hj2:j - es.length<a.size:=by omega
                have:=g2 (j - es.length) hj2
                rw[List.getElem?_eq_getElem (by omega)]at this ⊢
                have:=hspot.2 m (by omega) (j - es.length) hj2 _ this
                rw[show A.off+(m * a.size+(j - es.length))=A.off+j by omega]at this
                exact this
         obtain⟨ys,es,q1,q2,q3,q4⟩:=build len (Nat.le_refl _)
         have hes:0<es.length:=by rw[q3];exact Nat.mul_pos (by omega) hpos
         have hca:=cellsAt_of q4 hes
         refine⟨ys,some A,cap,es,by rw[q1],rfl,by rw[q1];exact hlc,hcm,q2,.inr ⟨A.block,A.off,?_,?_,hca⟩⟩
         · obtain⟨b,o,s⟩:=A
           have:=hspot.1
           simp only at this
           subst this;rfl
         · obtain⟨cur,e',fr,hh,_⟩:=hca
           rcases Nat.lt_or_ge A.block W.heap.size with h'|h'
           · exact h'
           · simp[Array.getElem?_eq_none h']at hh
   |ptr a=>simp[Sh.data]at hdt
   |fn f c=>simp[Sh.data]at hdt
   |tok a b=>simp[Sh.data]at hdt
   |md a=>simp[Sh.data]at hdt
end
end Go.V
namespace Go.V
open Go Go.WideShapes Go.ChangeShapes
section
variable {P:Program} {H:Type} {enc:TypeId×Value→H} {W W':World}
theorem okWide_pack {base:Nat} {sh:Sh} {t:TypeId} {v:Value} (hsh:ShOk P sh none t) (hd:sh.data=true) (h:Value.okWide P W .any base t v):v=packV (aggS sh) v.cells.toList:=by
 have agg:∀ {fs:Array Field},P.underlying t=some (.struct fs)→aggS sh=true→v=packV (aggS sh) v.cells.toList:=by
  intro fs hu ha
  unfold Value.okWide at h
  rw[hu]at h
  obtain⟨cs,rfl,_⟩:=h
  rw[ha];simp[packV,Value.cells]
 cases sh with
 |int k=>obtain⟨n,rfl⟩:=okWide_int hsh.1 h;rfl
 |bool=>obtain⟨n,rfl⟩:=okWide_bool hsh.1 h;rfl
 |str=>obtain⟨n,rfl⟩:=okWide_string hsh.1 h;rfl
 |unit=>obtain⟨fs,hu,_⟩:=hsh;exact agg hu rfl
 |pair a b=>obtain⟨fs,f,l,hu,_⟩:=hsh;exact agg hu rfl
 |sl e a=>obtain⟨A,l,c,rfl⟩:=okWide_slice hsh.1 h;rfl
 |ptr a=>simp[Sh.data]at hd
 |fn f c=>simp[Sh.data]at hd
 |tok a b=>simp[Sh.data]at hd
 |md a=>simp[Sh.data]at hd
theorem args_rep {base:Nat}:∀ {shs:List Sh} {ts:List TypeId} {vs:List Value} {ds:List (DataW H)} {ps:List MemPlace},DataW.TrodAll enc P W 0 (fun _=>true) true ts vs ds ps→
  shs.length=ts.length→(∀(i:Nat) sh t,shs[i]? = some sh→ts[i]? = some t→ShOk P sh none t∧sh.data=true)→(∀(i:Nat) t v,ts[i]? = some t→vs[i]? = some v→Value.okWide P W .any base t v)→
  ∃ us:List OV,us.map (·.s)=shs∧(∀ u∈us,u.o = .z)∧ArgsRep W (oldB' W) us vs []:=by
 intro shs
 induction shs with
 | nil=>
   intro ts vs ds ps h hl _ _
   cases ts with
   |cons _ _=>simp at hl
   | nil=>
     cases vs with
     |cons _ _=>exact h.elim
     |nil=>exact⟨[],rfl,by simp,rfl,rfl⟩
 | cons sh shs ih=>
   intro ts vs ds ps h hl hsh hok
   cases ts with
   |nil=>simp at hl
   | cons t ts=>
     cases vs with
     |nil=>exact h.elim
     | cons v vs=>
       cases ds with
       |nil=>exact h.elim
       | cons d ds=>
         obtain⟨p,q,⟨n,hn⟩,h2,_⟩:=h
         obtain⟨s1,s2⟩:=hsh 0 sh t rfl rfl
         obtain⟨y,hr⟩:=trod_rep n s1 s2 hn
         obtain⟨us,g1,g2,g3⟩:=ih h2 (by simpa using hl) (fun i sh' t' a b=>hsh (i+1) sh' t' (by simpa using a) (by simpa using b)) (fun i t' v' a b=>hok (i+1) t' v' (by simpa using a) (by simpa using b))
         refine⟨⟨sh,.z,y⟩::us,by simp[g1],fun u hu=>?_,v,vs,v.cells.toList,[],[],rfl,rfl,?_,hr,g3⟩
         · rcases List.mem_cons.mp hu with rfl|hu
           · rfl
           · exact g2 u hu
         · exact okWide_pack s1 s2 (hok 0 t v rfl rfl)
theorem trod_again (hl:laidOutB P=true) (hext:Ext [] W W') {sp:Nat→Bool}:∀ {ts:List TypeId} {vs:List Value} {ds:List (DataW H)} {ps:List MemPlace},DataW.TrodAll enc P W 0 (fun _=>true) true ts vs ds ps→
  (∀ t∈ts,P.readableRec t=true∧t<P.types.size)→(∀ p∈ps,p.block<W.heap.size)→(∀ p∈ps,sp p.block=true)→DataW.TrodAll enc P W' 0 sp true ts vs ds ps:=by
 intro ts
 induction ts with
 | nil=>
   intro vs ds ps h _ _ _
   cases vs with
   |cons _ _=>exact h.elim
   | nil=>cases ds with
     |cons _ _=>exact h.elim
     |nil=>exact h
 | cons t ts ih=>
   intro vs ds ps h ht hlt hsp
   cases vs with
   |nil=>exact h.elim
   | cons v vs=>
     cases ds with
     |nil=>exact h.elim
     | cons d ds=>
       obtain⟨p,q,h1,h2,rfl⟩:=h
       obtain⟨r1,r2⟩:=ht t (by simp)
       refine⟨p,q,WideElems.Trod_stays hl r1 r2 h1 (fun x hx=>?_) fun x hx=>hsp x (by simp[hx]),ih h2 (fun t' ht'=>ht t' (by simp[ht'])) (fun x hx=>hlt x (by simp[hx])) fun x hx=>hsp x (by simp[hx]),rfl⟩
       have hb:=hext.block x.block (hlt x (by simp[hx])) (by simp)
       cases x with
       |cell b off=>simp only[MemPlace.block]at hb;simp only[World.sameAt,World.cell?,hb]
       |map b=>exact hb
theorem frozen_same (hext:Ext [] W W') {a:Addr} (ha:a.block<W.heap.size):W'.frozen? a=W.frozen? a:=by
 unfold World.frozen?
 rw[hext.block a.block ha (by simp)]
theorem keptBut_ext (hext:Ext [] W W') (may:MemPlace→Prop):W.keptBut W' may:=by
 refine⟨hext.os,hext.output,fun i hi=>?_⟩
 rw[hext.block i hi (by simp)]
 cases W.heap[i]? with
 |none=>rfl
 |some o=>cases o<;>first|rfl|exact⟨rfl,rfl,rfl,fun _ _=>rfl⟩|exact .inr ⟨rfl,rfl⟩
def Bnd:(s:Sh)→s.den→Prop
 |.int k,x=>k.min≤(show Int from x)∧(show Int from x)≤k.max
 |.str,x=>List.length x≤maxLen
 |.pair a b,x=>Bnd a x.1∧Bnd b x.2
 |.sl _ a,x=>List.length x≤maxLen∧∀ y∈(show List a.den from x),Bnd a y
 |_,_=>True
theorem repL_all {α:Type} {R:α→List Value→List Nat→Prop} {Q:α→Prop} (H:∀ x c b,R x c b→Q x):∀ {l:List α} {cs bs},RepL R l cs bs→∀ x∈l,Q x:=by
 intro l
 induction l with
 |nil=>intro cs bs _ x hx;simp at hx
 | cons y l ih=>
   rintro cs bs ⟨c1,c2,b1,b2,rfl,rfl,h1,h2⟩ x hx
   rcases List.mem_cons.mp hx with rfl|hx
   · exact H _ _ _ h1
   · exact ih h2 x hx
theorem Rep.bnd {fz:Nat→Prop}:∀ {s:Sh} {x:s.den} {cs bs},Rep W fz s .z x cs bs→Bnd s x:=by
 intro s
 induction s with
 |int k=>intro x cs bs h;exact(h.2.2 (by simp)).2
 |str=>intro x cs bs h;exact(h.2.2 (by simp)).2
 |pair a b iha ihb=>rintro x cs bs ⟨c1,c2,_,_,h1,h2⟩;exact⟨iha h1,ihb h2⟩
 | sl e a ih=>
   rintro x cs bs ⟨A,cap,es,_,_,h1,h2,h3,_⟩
   exact⟨Nat.le_trans h1 h2,repL_all (fun _ _ _ h=>ih h) h3⟩
 |_=>intro x cs bs _;trivial
theorem ArgsRep.bnd {fz:Nat→Prop}:∀ {us:List OV} {args:List Value} {ls:List Nat},(∀ u∈us,u.o = .z)→ArgsRep W fz us args ls→∀ u∈us,Bnd u.s u.x:=by
 intro us
 induction us with
 |nil=>intro args ls _ _ u hu;simp at hu
 | cons v us ih=>
   rintro args ls hz ⟨c,cs,cells,l1,l2,_,_,_,h1,h2⟩ u hu
   have hv:=hz v (by simp)
   rw[hv]at h1
   rcases List.mem_cons.mp hu with rfl|hu
   · exact h1.bnd
   · exact ih (fun u hu=>hz u (by simp[hu])) h2 u hu
theorem law_contract {f:FuncId} {fn:Func} {s:ChangeSpec} {shs:List Sh} {tb:TypeId} (hlaid:laidOutB P=true) (hvars:s.vars=[])
  (hres:fn.resultTypes = #[tb]) (hb:P.underlying tb=some .bool)
  (hlen:shs.length=fn.params.toList.length) (hsh:∀(i:Nat) sh t,shs[i]? = some sh→fn.params.toList[i]? = some t→ShOk P sh none t∧sh.data=true)
  (hread:∀ t∈fn.params.toList,P.readableRec t=true∧t<P.types.size)
  (hspec:∀(H:Type) (ds:List (DataW H)),ds.length=fn.params.toList.length→s.fn H ds = { results:=[.lit (.bool true)],args:=ds })
  (hlaw:∀ us:List OV,us.map (·.s)=shs→(∀ u∈us,u.o = .z)→(∀ u∈us,Bnd u.s u.x)→∃ outs,GivesS P f us [⟨.bool,.z,true⟩] outs)
  {W:World} {base:Nat} {args:Array Value} {ds gs:List (DataW H)} {before:List MemPlace} {apart fresh handsOn again:Bool}
  (hval:∀(j:Nat) t v,fn.params[j]? = some t→args[j]? = some v→Value.okWide P W .any base t v)
  (hW:DataW.Whole enc P fn.params.toList s.vars apart W args.toList ds gs before) :
  Calls P f args W fun e W'=>∃ v,e = .returned v∧s.post enc P fn apart fresh handsOn again W args v W':=by
 have hW':=hW
 obtain⟨p,q,hA,hV,rfl,hfz,hnd⟩:=hW
 rw[hvars]at hV
 have hgq:gs=[]∧q=[]:=by
  cases gs with
  |nil=>exact⟨rfl,hV⟩
  |cons _ _=>exact hV.elim
 obtain⟨rfl,rfl⟩:=hgq
 obtain⟨us,g1,g2,g3⟩:=args_rep (base:=base) hA hlen hsh (fun i t v a b=>hval i t v (by rw[←Array.getElem?_toList];exact a) (by rw[←Array.getElem?_toList];exact b))
 obtain⟨outs,_,hcall⟩:=hlaw us g1 g2 (g3.bnd g2)
 have hcall:=hcall W (oldB' W) args.toList [] g3 List.nodup_nil (by simp) (fun b hb=>hb)
 simp only[Array.toArray_toList]at hcall
 refine hcall.mono ?_
 rintro e W' ⟨c,cs,l1,l2,rfl,rfl,hext,hr,_⟩
 obtain⟨c,cs',cells,m1,m2,rfl,rfl,rfl,hrep,hr2⟩:=hr
 obtain⟨rfl,_⟩:=hr2
 obtain⟨_,_,hcells⟩:=hrep
 obtain rfl:=hcells (by simp)
 have hv:tupleOf [packV (aggS .bool) [.bool true]] = .bool true:=rfl
 rw[hv]
 refine⟨_,rfl,?_⟩
 have hdl:ds.length=fn.params.toList.length:=by
  have:∀ {ts:List TypeId} {vs:List Value} {ds:List (DataW H)} {ps:List MemPlace},DataW.TrodAll enc P W 0 (fun _=>true) true ts vs ds ps→ds.length=ts.length:=by
   intro ts
   induction ts with
   |nil=>intro vs ds ps h;cases vs<;>cases ds<;>first|rfl|exact h.elim
   | cons t ts ih=>
     intro vs ds ps h
     cases vs with
     |nil=>exact h.elim
     | cons v vs=>cases ds with
       |nil=>exact h.elim
       |cons d ds=>obtain⟨_,_,_,h2,_⟩:=h;simp[ih h2]
  exact this hA
 have hsp:=hspec H (ds++[]) (by simpa using hdl)
 have hlt:∀ x∈p,x.block<W.heap.size:=fun x hx=>hA.lt x hx
 have hargs:∀ sp:Nat→Bool,(∀ x∈p++[],sp x.block=true)→DataW.TrodAll enc P W' 0 sp true fn.params.toList args.toList (s.fn H (ds++[])).args p:=by
  intro sp hspp
  rw[hsp]
  simp only[List.append_nil]
  exact trod_again hlaid hext hA hread hlt fun x hx=>hspp x (by simp[hx])
 have hresT:∀(b:Nat) (sp:Nat→Bool) (hd:Bool),DataW.TrodAll enc P W' b sp hd fn.resultTypes.toList ((Value.bool true).resultList fn.resultTypes.size) (s.fn H (ds++[])).results []:=by
  intro b sp hd
  rw[hsp,hres]
  exact trodAll_mk1 (shut_bool' hb true)
 have hvarsT:∀ sp:Nat→Bool,DataW.TrodVars enc P W' sp s.vars (s.fn H (ds++[])).vars []:=by
  intro sp
  rw[hsp,hvars];rfl
 have hold:∀ x∈p++[],(fun b=>decide (b<W.heap.size)) x.block=true:=fun x hx=>by simpa using hlt x (by simpa using hx)
 refine⟨ds,[],p++[],[],p,[],hW',hresT _ _ _,hargs _ hold,hvarsT _,World.keptBut_mono (fun x hx=>⟨hx,?_⟩) (keptBut_ext hext (·∈p++[])),fun _=>?_⟩
 · exact Or.inr (Or.inl (by simpa using hx))
 · refine⟨RowKit.ok_one hres rfl (RowKit.okWide_bool_mk hb true),_,_,([]++p)++[],⟨[]++p,[],trodAll_append (hargs _ (fun _ _=>rfl)) (hresT _ _ _),hvarsT _,rfl,?_,?_⟩,?_⟩
   · intro b off hp
     have hp':MemPlace.cell b off∈p++[]:=by simpa using hp
     rw[frozen_same hext (hlt _ (by simpa using hp'))]
     exact hfz b off hp'
   · intro ha
     have:=hnd ha
     simpa using this
   · intro x hx _
     simpa using hx
 where
 shut_bool' {P:Program} {w:World} {base:Nat} {spare:Nat→Bool} {held:Bool} {t:TypeId} (ht:P.underlying t=some .bool) (b:Bool):DataW.Trod enc P w base spare held t (.bool b) (.lit (.bool b)) []:=
  ⟨1,by simp[DataW.trod,Value.cells,ht]⟩
end
end Go.V
namespace Go.V
end Go.V
namespace Go.V
open Go
structure El (w:World) (fz:Nat→Prop) (sh:Sh) (oa:O) (g:Nat) where
 x:sh.den
 cs:List Value
 bs:List Nat
 rep:Rep w fz sh oa x cs bs
 nb:∀ b∈bs,b≠g∧b<w.heap.size
section
variable {w:World} {fz:Nat→Prop} {sh:Sh} {oa:O} {g:Nat}
end
section
variable {P:Program}
abbrev TTok (α:Type):Type:=(List Value×List Nat)×α
def zTk {α:Type} (cs:List Value) (v:α):TTok α:=((cs,[]),v)
def tvl {a b:Sh} (t:(Sh.tok a b).den):(Sh.pair a b).den:=t.2
def tcs {a b:Sh} (t:(Sh.tok a b).den):List Value:=t.1.1
def tbs {a b:Sh} (t:(Sh.tok a b).den):List Nat:=t.1.2
def tz {a b:Sh} (v:(Sh.pair a b).den):(Sh.tok a b).den:=(([],[]),v)
def tmk {w:World} {fz:Nat→Prop} {a b:Sh} {oa:O} {g:Nat} (e:El w fz (.pair a b) oa g):(Sh.tok a b).den:=((e.cs,e.bs),e.x)
end
end Go.V
namespace Go.V
open Go
theorem bc_pos {p:Prop} [Decidable p] {x y:Prop} (h:p):bcase (decide p) x y=x:=by rw[decide_eq_true h];rfl
theorem bc_neg {p:Prop} [Decidable p] {x y:Prop} (h:¬ p):bcase (decide p) x y=y:=by rw[decide_eq_false h];rfl
theorem bc_true {b:Bool} {x y:Prop} (h:b=true):bcase b x y=x:=by rw[h];rfl
theorem bc_false {b:Bool} {x y:Prop} (h:b=false):bcase b x y=y:=by rw[h];rfl
theorem bc_intro {b:Bool} {x y:Prop} (h1:b=true→x) (h2:b=false→y):bcase b x y:=by cases b;exact h2 rfl;exact h1 rfl
theorem w64_id {n:Int} (h1 : -9223372036854775808≤n) (h2:n≤9223372036854775807):w64 n=n:=by
 unfold w64
 simp only[IntKind.wrap,IntKind.signed,IntKind.bits]
 simp
 omega
theorem maxLen_eq:maxLen=9223372036854775807:=by unfold maxLen;rfl
theorem loopP_of {α:Type} {B:(α→Prop)→α→Prop} {a0:α} (n:Nat) (f:Nat→α) (h0:f 0=a0) (hs:∀ i,i<n→∀ X:α→Prop,X (f (i+1))→B X (f i)) (he:∀ X,B X (f n)):LoopP B a0:=by
 refine⟨n+1,?_⟩
 rw[←h0]
 have:∀ d i,i+d=n→iterP B (d+1) (f i):=by
  intro d
  induction d with
  | zero => intro i hi;obtain rfl:i=n:=by omega
            exact he _
  |succ d ih=>intro i hi;exact hs i (by omega) _ (ih (i+1) (by omega))
 exact this n 0 (by omega)
theorem loopP_down {α:Type} {B:(α→Prop)→α→Prop} (Inv:Nat→α→Prop) (hz:∀ a,Inv 0 a→∀ X:α→Prop,B X a) (hs:∀ d a,Inv (d+1) a→∀ X:α→Prop,(∀ b,Inv d b→X b)→B X a) {n:Nat} {a0:α} (h0:Inv n a0):LoopP B a0:=by
 refine⟨n+1,?_⟩
 have:∀ d a,Inv d a→iterP B (d+1) a:=by
  intro d
  induction d with
  |zero=>intro a ha;exact hz a ha _
  |succ d ih=>intro a ha;exact hs d a ha _ fun b hb=>ih b hb
 exact this n a0 h0
theorem getD_nat {α:Type} {l:List α} {i:Nat} {d:α} (h:i<l.length):l.getD (Int.toNat (i:Int)) d=l[i]:=by
 rw[Int.toNat_natCast,List.getD_eq_getElem?_getD,List.getElem?_eq_getElem h];rfl
theorem w64_succ {i:Nat} (h:i<9223372036854775807):w64 ((i:Int)+1)=((i+1:Nat):Int):=by rw[w64_id (by omega) (by omega)];omega
def firstAt {α:Type} (p:α→Bool):List α→Nat
 |[]=>0
 |x::l=>if p x then 0 else firstAt p l+1
theorem firstAt_le {α:Type} (p:α→Bool):∀ l:List α,firstAt p l≤l.length
 |[]=>Nat.le_refl _
 |x::l=>by unfold firstAt;split;simp;have:=firstAt_le p l;simp;omega
theorem firstAt_lt {α:Type} {p:α→Bool}:∀ {l:List α} {i:Nat} (h:i<l.length),i<firstAt p l→p l[i]=false
 |x::l,0,_,hi=>by unfold firstAt at hi;split at hi;omega;rename_i hp;simpa using hp
 | x::l,i+1,h,hi=>by
   unfold firstAt at hi;split at hi;omega
   exact firstAt_lt (l:=l) (by simpa using h) (by omega)
theorem firstAt_at {α:Type} {p:α→Bool}:∀ {l:List α} (h:firstAt p l<l.length),p (l[firstAt p l])=true
 | x::l,h=>by
   by_cases hp:p x=true
   · have e:firstAt p (x::l)=0:=by simp[firstAt,hp]
     simp[e,hp]
   · have e:firstAt p (x::l)=firstAt p l+1:=by simp[firstAt,hp]
     rw[e]at h
     simp only[e,List.getElem_cons_succ]
     exact firstAt_at (by simpa using h)
theorem firstAt_any {α:Type} {p:α→Bool}:∀ {l:List α},(firstAt p l<l.length)↔l.any p=true
 |[]=>by simp[firstAt]
 | x::l=>by
   by_cases hp:p x=true
   · simp[firstAt,hp]
   · simp only[firstAt,hp,Bool.false_eq_true,if_false,List.length_cons,List.any_cons,Bool.false_or]
     rw[←firstAt_any (l:=l)];omega
theorem drop_cons {α:Type} {l:List α} {i:Nat} (h:i<l.length):l.drop i=l[i]::l.drop (i+1):=List.drop_eq_getElem_cons h
end Go.V
namespace Go.V
open Go
def bulk:(s:Sh)→s.den→Nat
 |.str,x=>List.length x
 |.pair a b,x=>bulk a x.1+bulk b x.2
 |.sl _ a,x=>List.length x+((show List a.den from x).map (bulk a)).sum
 |_,_=>0
def fits (l:Int) (b:Nat):Int:=if l<(b:Int)then -1 else l - (b:Int)
theorem lenI {n:Int} {p:Prop} (h:n≤9223372036854775807→p):lenA n p:=h
theorem bc_ne {α:Type} [BEq α] [LawfulBEq α] {x y:α} {A B:Prop} (hA:x≠y→A) (hB:x=y→B):bcase (x != y) A B:=by
 by_cases h:x=y
 · rw[bc_false (by simp[h])];exact hB h
 · rw[bc_true (by simpa using h)];exact hA h
theorem bc_nb {α:Type} [BEq α] [LawfulBEq α] {x y:α} {A B:Prop} (hA:x≠y→A) (hB:x=y→B):bcase (!(x == y)) A B:=bc_ne hA hB
def wt:(s:Sh)→s.den→Nat
 |.int _,_=>1
 |.bool,_=>1
 |.str,_=>1
 |.pair a b,x=>wt a x.1+wt b x.2
 |.sl _ a,x=>((show List a.den from x).map (wt a)).sum
 |_,_=>0
def mkRow {α:Type} (m:α→Int→α) (w:α→Nat):List α→Int→List α
 |[],_=>[]
 |t::l,k=>m t k::mkRow m w l (k+(w t:Int))
def mk (mt:Int→List UInt8):(s:Sh)→s.den→Int→s.den
 |.int _,_,j=>(show Int from j)
 |.bool,_,j=>Int.tmod j 3 == 0
 |.str,_,j=>mt j
 |.pair a b,x,j=>(mk mt a x.1 j,mk mt b x.2 (j+(wt a x.1:Int)))
 |.sl _ a,x,j=>mkRow (mk mt a) (wt a) x j
 |_,x,_=>x
def scal:Sh→Nat
 |.int _=>1
 |.bool=>1
 |.str=>1
 |.pair a b=>scal a+scal b
 |.sl _ a=>scal a
 |_=>0
theorem take_succ_snoc {α:Type} {l:List α} {i:Nat} (h:i<l.length):l.take (i+1)=l.take i++[l[i]]:=List.take_succ_eq_append_getElem h
theorem getD_at {α:Type} {l:List α} {i:Nat} {d:α} (h:i<l.length):l.getD i d=l[i]:=by
 rw[List.getD_eq_getElem?_getD,List.getElem?_eq_getElem h];rfl
end Go.V
namespace Go.V
abbrev TRel:=List UInt8×Int×Bool×Unit
abbrev TFact:=Int×List Int×Unit
abbrev TInst:=List TRel×List TFact×Unit
abbrev TSub:=List Int×List Int×Unit
abbrev TUf:=List Int×Unit
abbrev TDep:=List TFact×List TFact×Bool×Int×Int×Unit
abbrev TEdge:=Int×Int×Bool×Unit
abbrev TRes:=TInst×Int×List TFact×Unit
abbrev TQuery:=List Int×List TFact×Unit
abbrev TIq:=TQuery×Int×Int×Unit
abbrev TTerm:=Int×Int×List Int×Unit
abbrev TSk:=TInst×List TTerm×Unit
abbrev TLoader:=TSk×List TDep×List TFact×Int×Int×Unit
abbrev TScript:=TInst×List TDep×TQuery×Bool×Unit
abbrev zRel:TRel:=(([]:List UInt8),((0:Int),(false,())))
abbrev zFact:TFact:=((0:Int),(([]:List Int),()))
abbrev zEdge:TEdge:=((0:Int),((0:Int),(false,())))
abbrev zTerm:TTerm:=((0:Int),((0:Int),(([]:List Int),())))
abbrev zInst:TInst:=(([]:List TRel),(([]:List TFact),()))
abbrev zSub:TSub:=(([]:List Int),(([]:List Int),()))
abbrev zDep:TDep:=(([]:List TFact),(([]:List TFact),(false,((0:Int),((0:Int),())))))
abbrev zQuery:TQuery:=(([]:List Int),(([]:List TFact),()))
end Go.V
namespace Go.V
open Go
theorem bc_if {b:Bool} {A B:Prop} (h1:b=true→A) (h2:b=false→B):bcase b A B:=bc_intro h1 h2
theorem bc_dec {p:Prop} [Decidable p] {A B:Prop} (h1:p→A) (h2:¬ p→B):bcase (decide p) A B:=bc_intro (fun h=>h1 (by simpa using h)) (fun h=>h2 (by simpa using h))
theorem bc_not {b:Bool} {A B:Prop} (h1:b=false→A) (h2:b=true→B):bcase (!b) A B:=bc_intro (fun h=>h1 (by simpa using h)) (fun h=>h2 (by simpa using h))
theorem bc_beq {α:Type} [BEq α] [LawfulBEq α] {x y:α} {A B:Prop} (h1:x=y→A) (h2:x≠y→B):bcase (x == y) A B:=bc_intro (fun h=>h1 (by simpa using h)) (fun h=>h2 (by simpa using h))
theorem inI {i n:Nat} {p:Prop} (h:i<n) (hp:p):((0≤(i:Int)∧(i:Int)<(n:Int))∧p):=⟨⟨by omega,by omega⟩,hp⟩
theorem bcI {i n:Nat} {A B:Prop} (h:i<n) (hp:A):bcase (decide ((i:Int)<(n:Int))) A B:=by rw[bc_pos (by omega)];exact hp
theorem bcN {n:Nat} {A B:Prop} (hp:B):bcase (decide ((n:Int)<(n:Int))) A B:=by rw[bc_neg (by omega)];exact hp
theorem getI {α:Type} {l:List α} {i:Nat} {d:α} (h:i<l.length):l.getD (Int.toNat (i:Int)) d=l[i]:=getD_nat h
theorem loop_any {α τ:Type} {B:(τ→Prop)→τ→Prop} (l:List α) (p:α→Bool) (e:Nat→τ) {KT KF:Prop}
  (hs:∀ i (h:i<l.length) (X:τ→Prop),(p l[i]=true→KT)→(p l[i]=false→X (e (i+1)))→B X (e i))
  (hf:∀ X:τ→Prop,KF→B X (e l.length)) (h1:l.any p=true→KT) (h2:l.any p=false→KF):LoopP B (e 0):=by
 refine loopP_down (fun k a=>∃ i,i+k=l.length∧a=e i∧(l.take i).any p=false) ?_ ?_ (n:=l.length) ⟨0,by omega,rfl,by simp⟩
 · rintro a ⟨i,hi,rfl,hp⟩ X
   obtain rfl:i=l.length:=by omega
   rw[List.take_length]at hp
   exact hf X (h2 hp)
 · rintro k a ⟨i,hi,rfl,hp⟩ X hX
   have hlt:i<l.length:=by omega
   refine hs i hlt X (fun h=>h1 ?_) (fun h=>hX _ ⟨i+1,by omega,rfl,?_⟩)
   · exact List.any_eq_true.mpr ⟨_,List.getElem_mem hlt,h⟩
   · rw[take_succ_snoc hlt,List.any_append,hp];simp[h]
theorem loop_anyI {τ:Type} {B:(τ→Prop)→τ→Prop} (n:Nat) (p:Nat→Bool) (e:Nat→τ) {KT KF:Prop}
  (hs:∀ i (_:i<n) (X:τ→Prop),(∀ j,j<i→p j=false)→(p i=true→KT)→(p i=false→X (e (i+1)))→B X (e i))
  (hf:∀ X:τ→Prop,KF→B X (e n)) (h1:(∃ i,i<n∧p i=true)→KT) (h2:(∀ i,i<n→p i=false)→KF):LoopP B (e 0):=by
 refine loopP_down (fun k a=>∃ i,i+k=n∧a=e i∧∀ j,j<i→p j=false) ?_ ?_ (n:=n) ⟨0,by omega,rfl,fun j hj=>by omega⟩
 · rintro a ⟨i,hi,rfl,hp⟩ X
   obtain rfl:i=n:=by omega
   exact hf X (h2 hp)
 · rintro k a ⟨i,hi,rfl,hp⟩ X hX
   refine hs i (by omega) X hp (fun h=>h1 ⟨i,by omega,h⟩) (fun h=>hX _ ⟨i+1,by omega,rfl,fun j hj=>?_⟩)
   by_cases hji:j=i
   · subst hji;exact h
   · exact hp j (by omega)
theorem loop_first {α τ:Type} {B:(τ→Prop)→τ→Prop} (l:List α) (p:α→Bool) (e:Nat→τ) {KT:Nat→Prop} {KF:Prop}
  (hs:∀ i (h:i<l.length) (X:τ→Prop),(p l[i]=true→KT i)→(p l[i]=false→X (e (i+1)))→B X (e i))
  (hf:∀ X:τ→Prop,KF→B X (e l.length)) (h1:firstAt p l<l.length→KT (firstAt p l)) (h2:firstAt p l=l.length→KF):LoopP B (e 0):=by
 refine loopP_down (fun k a=>∃ i,i+k=l.length∧a=e i∧i≤firstAt p l) ?_ ?_ (n:=l.length) ⟨0,by omega,rfl,by omega⟩
 · rintro a ⟨i,hi,rfl,hp⟩ X
   obtain rfl:i=l.length:=by omega
   have:=firstAt_le p l
   exact hf X (h2 (by omega))
 · rintro k a ⟨i,hi,rfl,hp⟩ X hX
   have hlt:i<l.length:=by omega
   refine hs i hlt X (fun h=>?_) (fun h=>hX _ ⟨i+1,by omega,rfl,?_⟩)
   · have:firstAt p l=i:=by
      rcases Nat.lt_or_ge i (firstAt p l)with h'|h'
      · have:=firstAt_lt hlt h';rw[h]at this;cases this
      · omega
     rw[this]at h1;exact h1 hlt
   · rcases Nat.lt_or_ge i (firstAt p l)with h'|h'
     · exact h'
     · have hi':firstAt p l=i:=by omega
       have:=firstAt_at (p:=p) (l:=l) (by omega)
       simp only[hi']at this
       rw[this]at h;cases h
def runE {α σ ρ:Type} (g:σ→α→ρ ⊕ σ):List α→σ→ρ ⊕ σ
 |[],s=>.inr s
 | a::l,s=>match g s a with
   |.inl r=>.inl r
   |.inr s'=>runE g l s'
theorem idxRow {α:Type} {d:α} {x:List α} (p:α→Bool) (K:Int→Prop) (P:α→Prop→Prop→Prop) (hP:∀ t∈x,∀ A B:Prop,(p t=true→A)→(p t=false→B)→P t A B)
  (hK:K (if firstAt p x<x.length then(firstAt p x:Int)else -1)) :
  lenA (x.length:Int) (LoopP (fun(again:Int×Unit→Prop) (a:Int×Unit)=>bcase (decide (a.1<(x.length:Int))) ((0≤a.1∧a.1<(x.length:Int))∧P (x.getD (Int.toNat a.1) d) (K a.1) (again (w64 (a.1+(1:Int)),()))) (K (-1))) ((0:Int),())):=by
 refine lenI fun hl=>loop_first x p (fun i=>((i:Int),())) (KT:=fun i=>K (i:Int)) (KF:=K (-1)) ?_ ?_ ?_ ?_
 · intro i hi X h1 h2
   refine bcI hi (inI hi ?_)
   simp only
   rw[getI hi,w64_succ (by omega)]
   exact hP _ (List.getElem_mem hi) _ _ h1 h2
 · intro X h;exact bcN h
 · intro h;rw[if_pos h]at hK;exact hK
 · intro h;rw[if_neg (by omega)]at hK;exact hK
theorem idx_ge {α:Type} (p:α→Bool) (x:List α):(decide ((if firstAt p x<x.length then(firstAt p x:Int)else -1)≥(0:Int)))=x.any p:=by
 by_cases h:firstAt p x<x.length
 · rw[if_pos h,firstAt_any.mp h];simp
 · rw[if_neg h]
   have:x.any p=false:=by
    rw[Bool.eq_false_iff];intro h';exact h (firstAt_any.mpr h')
   rw[this];simp
theorem eqRowB {α:Type} {d e:α} (q:α→α→Bool) {x y:List α} (K:Bool→Prop) (P:α→α→Prop→Prop→Prop)
  (hP:∀ t∈x,∀ u∈y,∀ A B:Prop,(q t u=false→A)→(q t u=true→B)→P t u A B) (hK:K (x.length == y.length&&(x.zip y).all fun t=>q t.1 t.2)) (hl:(x.length:Int)≤9223372036854775807) :
  (bcase ((x.length:Int) != (y.length:Int)) (K false) (LoopP (fun(again:Int×Unit→Prop) (a:Int×Unit)=>bcase (decide (a.1<(x.length:Int))) ((0≤a.1∧a.1<(x.length:Int))∧((0≤a.1∧a.1<(y.length:Int))∧P (x.getD (Int.toNat a.1) d) (y.getD (Int.toNat a.1) e) (K false) (again (w64 (a.1+(1:Int)),())))) (K true)) ((0:Int),()))):=by
 refine bc_ne (fun h=>?_) (fun h=>?_)
 · have:(x.length == y.length)=false:=by simp;omega
   rw[this]at hK;exact hK
 · have he:x.length=y.length:=by omega
   refine loop_anyI x.length (fun i=>!(if h:i<x.length then if h':i<y.length then q x[i] y[i] else true else true)) (fun i=>((i:Int),())) (KT:=K false) (KF:=K true) ?_ (fun X h=>bcN h) ?_ ?_
   · intro i hi X _ h1 h2
     have hi':i<y.length:=by omega
     refine bcI hi (inI hi (inI hi' ?_))
     simp only
     rw[getI hi,getI hi',w64_succ (by omega)]
     simp only[hi,hi',dif_pos]at h1 h2
     exact hP _ (List.getElem_mem hi) _ (List.getElem_mem hi') _ _ (fun h=>h1 (by simp[h])) (fun h=>h2 (by simp[h]))
   · rintro⟨i,hi,hp⟩
     have hi':i<y.length:=by omega
     simp only[hi,hi',dif_pos,Bool.not_eq_true']at hp
     have:((x.zip y).all fun t=>q t.1 t.2)=false:=by
      rw[Bool.eq_false_iff]
      intro hall
      have:=List.all_eq_true.mp hall (x[i],y[i]) (by
       have hz:i<(x.zip y).length:=by simp;omega
       have e:(x.zip y)[i]=(x[i],y[i]):=by simp
       rw[←e];exact List.getElem_mem hz)
      simp[hp]at this
     rw[this,Bool.and_false]at hK;exact hK
   · intro hall
     have:(x.length == y.length&&(x.zip y).all fun t=>q t.1 t.2)=true:=by
      rw[Bool.and_eq_true]
      refine⟨by simp[he],List.all_eq_true.mpr fun t ht=>?_⟩
      obtain⟨i,hz,rfl⟩:=List.mem_iff_getElem.mp ht
      have hi:i<x.length:=by simp at hz;omega
      have hi':i<y.length:=by omega
      have:=hall i hi
      simp only[hi,hi',dif_pos,Bool.not_eq_false']at this
      simpa using this
     rw[this]at hK;exact hK
theorem zip_all_eq {α:Type} [DecidableEq α] (q:α→α→Bool) (hq:∀ a b,q a b=decide (a=b)):∀ x y:List α,(x.length == y.length&&(x.zip y).all fun t=>q t.1 t.2)=decide (x=y)
 |[],[]=>by simp
 |[],b::y=>by simp
 |a::x,[]=>by simp
 | a::x,b::y=>by
   have ih:=zip_all_eq q hq x y
   simp only[List.zip_cons_cons,List.all_cons,List.length_cons]
   by_cases h:a=b
   · subst h
     have:(x.length+1 == y.length+1)=(x.length == y.length):=by by_cases h:x.length=y.length<;>simp[h]
     rw[this,hq]
     simp only[decide_true,Bool.true_and]
     rw[ih];simp
   · rw[hq];simp[h]
end Go.V
namespace Go.V
theorem any_mem {α:Type} [BEq α] [LawfulBEq α] [DecidableEq α] {x:α} {l:List α}:(l.any fun t=>x == t)=decide (x∈l):=by
 induction l with
 |nil=>simp
 |cons a l ih=>simp only[List.any_cons,ih,List.mem_cons];by_cases h:x=a<;>simp[h]
end Go.V

