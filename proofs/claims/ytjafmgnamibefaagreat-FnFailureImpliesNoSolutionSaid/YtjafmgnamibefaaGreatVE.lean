/-
  A function: its parameters come in.
-/
import Derived.Test.YtjafmgnamibefaaGreatVD
import Derived.ChangeArms
import Derived.ChangeSame
import Derived.WideKeyArgs
import Derived.WideShapes
import Derived.RowKit
import Derived.RowKit3
import Derived.ChangeOld
import Derived.Test.YtjafmgnamibefaaGreatVA
set_option linter.unusedVariables false
set_option linter.unusedSimpArgs false
namespace Go.V
open Go
def LinkOk (ic:Nat->List Value) (ib:Nat->Nat):Nat->List OV->List Value->Prop
 |_,[],args=>args=[]
 |i,u::us,args=>∃ c cs cells,args=c::cs/\c=z0z (z4y u.s) cells/\cells.length=u.s.size/\(∀ v∈cells,v.oneCell'=true)/\
  (u.o≠.z->(∃ a o,u.s = .ptr a/\u.o = .own o/\cells=[.pointer (some ⟨ib i,0,none⟩)])\/((∀ a o,u.s = .ptr a->u.o = .own o->False)/\ic i=cells))/\LinkOk ic ib (i+1) us cs
theorem LinkOk.congr {ic ic':Nat->List Value} {ib ib':Nat->Nat}:∀ {us:List OV} {i:Nat} {args:List Value},(∀ k,i<=k->ic' k=ic k/\ib' k=ib k)->LinkOk ic ib i us args->LinkOk ic' ib' i us args:=by
 intro us
 induction us with
 |nil=>intro i args _ h;exact h
 | cons u us ih=>
   rintro i args hc ⟨c,cs,cells,h1,h2,h3,h4,h5,h6⟩
   obtain⟨e1,e2⟩:=hc i (Nat.le_refl _)
   refine⟨c,cs,cells,h1,h2,h3,h4,fun hz=>?_,ih (fun k hk=>hc k (by omega)) h6⟩
   rcases h5 hz with⟨a,o,q1,q2,q3⟩|⟨q1,q2⟩
   . exact .inl ⟨a,o,q1,q2,by rw[e2];exact q3⟩
   . exact .inr ⟨q1,by rw[e1];exact q2⟩
structure InitOk (w:World) (fz:Nat->Prop) (i:Nat) (us:List OV) (args:List Value) (ls:List Nat) (s:St) (rc:Nat->RC):Prop where
 rk:(s.roots.map (·.1)).Nodup/\∀ k r,(k,r)∈s.roots->i<=k
 tk:(s.tmps.map (·.1)).Nodup/\∀ t v,(t,v)∈s.tmps->i<=t
 bs:z04 rc s.roots=ls
 ok:∀ k r,(k,r)∈s.roots->RootOk w fz r (rc k)
 tm:∀ t v,(t,v)∈s.tmps->(∀ k,refs true k v=true->k=t)/\∃ j c,t=i+j/\args[j]? = some c/\VOk w fz (fun k=>z0b k s.roots) rc v c
 link:LinkOk (fun k=>(rc k).cs) (fun k=>(rc k).blk) i us args
theorem z07d {i:Nat} {u:OV} {us:List OV} {s:St} (h:zum i (u::us)=some s) :
  ∃ s0,zum (i+1) us=some s0/\
   ((u.o = .z/\s=⟨(i,.t u.s .z u.x)::s0.tmps,s0.roots⟩)\/
    (∃ a o x,u=⟨.ptr a,.own o,x⟩/\s=⟨(i,.baddr i [])::s0.tmps,(i,⟨true,true,a,o,x⟩)::s0.roots⟩)\/
    (u.o≠.z/\(∀ a o,u.s = .ptr a->u.o = .own o->False)/\s=⟨(i,z9t i u.s u.o u.x [])::s0.tmps,(i,⟨false,true,u.s,u.o,u.x⟩)::s0.roots⟩)):=by
 simp only[zum]at h
 cases h0:zum (i+1) us with
 |none=>rw[h0]at h;simp at h
 | some s0=>
   rw[h0]at h
   refine⟨s0,rfl,?_⟩
   obtain⟨us,uo,ux⟩:=u
   cases uo with
   |z=>simp only[Option.some.injEq]at h;exact .inl ⟨rfl,h.symm⟩
   | own o=>
     cases us with
     |ptr a=>simp only[Option.some.injEq]at h;exact .inr (.inl ⟨a,o,ux,rfl,h.symm⟩)
     |_=>simp only[Option.some.injEq]at h;exact .inr (.inr ⟨by simp,by simp,h.symm⟩)
   |_=>simp only[Option.some.injEq]at h;exact .inr (.inr ⟨by simp,by simp,h.symm⟩)
theorem z0c3 {w:World} {fz:Nat->Prop}:∀ {us:List OV} {i:Nat} {args:List Value} {ls:List Nat} {s:St},zum i us=some s->ArgsRep w fz us args ls->∃ rc,InitOk w fz i us args ls s rc:=by
 intro us
 induction us with
 | nil=>
   intro i args ls s h ha
   simp only[zum,Option.some.injEq]at h
   subst h
   obtain⟨rfl,rfl⟩:=ha
   exact⟨fun _=>⟨[],[],0⟩,⟨by simp,by simp⟩,⟨by simp,by simp⟩,rfl,by simp,by simp,rfl⟩
 | cons u us ih=>
   rintro i args ls s h ⟨c,cs,cells,l1,l2,rfl,rfl,rfl,hr,ha⟩
   obtain⟨s0,h0,hs⟩:=z07d h
   obtain⟨rc,H⟩:=ih h0 ha
   have hlen:=hr.len
   have hone:=hr.one
   have htl:∀ {rts:List (Nat×Root)} {rc':Nat->RC},(∀ k,i<k->z0b k rts=z0b k s0.roots/\rc' k=rc k)->∀ t v,(t,v)∈s0.tmps->(∀ k,refs true k v=true->k=t)/\∃ j c',t=i+j/\(z0z (z4y u.s) cells::cs)[j]? = some c'/\VOk w fz (fun k=>z0b k rts) rc' v c':=by
    intro rts rc' hk t v htv
    obtain⟨q1,j,c',q2,q3,q4⟩:=H.tm t v htv
    refine⟨q1,j+1,c',by omega,by simpa using q3,?_⟩
    have hlt:=H.tk.2 t v htv
    have same:∀ k,refs true k v=true->z0b k rts=z0b k s0.roots/\rc' k=rc k:=by
     intro k hk'
     have:=q1 k hk'
     subst this
     exact hk k (by omega)
    refine q4.stable (fun b hb=>⟨hb,rfl⟩) (fun k p hp=>?_) fun k hkb=>?_
    . have hrf:refs true k v=true:=by
       have:=z2l hp
       cases hb:refs true k v with
       |true=>rfl
       |false=>have:=(z4m hb).1;simp_all
      obtain⟨e1,e2⟩:=same k hrf
      intro r1 hr1
      simp only[e1]at hr1
      exact⟨r1,hr1,rfl,fun c e a m1 m2 _ m4=>⟨m1,m2,by rw[e2];exact m4⟩⟩
    . have hrf:refs true k v=true:=by
       cases hb:refs true k v with
       |true=>rfl
       |false=>have:=(z4m hb).2;simp_all
      obtain⟨e1,e2⟩:=same k hrf
      intro r1 hr1 hbx
      simp only[e1]at hr1
      exact⟨r1,hr1,hbx,rfl,by rw[e2]⟩
   have hit:∀ t v,(t,v)∈s0.tmps->t≠i:=by intro t v htv;have:=H.tk.2 t v htv;omega
   have hir:∀ k r,(k,r)∈s0.roots->k≠i:=by intro k r hk;have:=H.rk.2 k r hk;omega
   have htk:∀ v,(((i,v)::s0.tmps).map (·.1)).Nodup/\∀ t v',(t,v')∈(i,v)::s0.tmps->i<=t:=by
    intro v
    refine⟨?_,?_⟩
    . rw[List.map_cons]
      refine List.nodup_cons.mpr ⟨fun hm=>?_,H.tk.1⟩
      obtain⟨⟨t,v'⟩,hm,e⟩:=List.mem_map.mp hm
      exact hit t v' hm e
    . intro t v' hm
      rcases List.mem_cons.mp hm with hm|hm
      . cases hm;exact Nat.le_refl _
      . have:=H.tk.2 t v' hm;omega
   have hrk:∀ r,(((i,r)::s0.roots).map (·.1)).Nodup/\∀ k r',(k,r')∈(i,r)::s0.roots->i<=k:=by
    intro r
    refine⟨?_,?_⟩
    . rw[List.map_cons]
      refine List.nodup_cons.mpr ⟨fun hm=>?_,H.rk.1⟩
      obtain⟨⟨k,r'⟩,hm,e⟩:=List.mem_map.mp hm
      exact hir k r' hm e
    . intro k r' hm
      rcases List.mem_cons.mp hm with hm|hm
      . cases hm;exact Nat.le_refl _
      . have:=H.rk.2 k r' hm;omega
   have hlook:∀ r k,i<k->z0b k ((i,r)::s0.roots)=z0b k s0.roots:=by
    intro r k hk
    have:Nat.beq i k=false:=by rw[Bool.eq_false_iff];intro hb;have:=Nat.eq_of_beq_eq_true hb;omega
    simp[z0b,this]
   have hnb:∀ {q:RC},z04 (z07 rc i q) s0.roots=z04 rc s0.roots:=fun {q}=>zb5 fun k r hk=>by simp[z07,hir k r hk]
   rcases hs with⟨hz,rfl⟩|⟨a,o,x,rfl,rfl⟩|⟨hz,hnp,rfl⟩
   . rw[hz]at hr
     obtain rfl:=hr.z_nil
     refine⟨rc,⟨H.rk.1,fun k r hk=>by have:=H.rk.2 k r hk;omega⟩,htk _,by simpa using H.bs,H.ok,fun t v htv=>?_,_,_,cells,rfl,rfl,hlen,hone,fun h=>absurd hz h,H.link⟩
     rcases List.mem_cons.mp htv with htv|htv
     . cases htv
       exact⟨fun k hk=>by simp[refs]at hk,0,_,rfl,rfl,cells,hr,rfl⟩
     . exact htl (fun k _=>⟨rfl,rfl⟩) t v htv
   . obtain⟨g,cur,e,ebs,rfl,h1,h2,rfl⟩:=hr
     let q:RC:=⟨cur.toList,ebs,g⟩
     refine⟨z07 rc i q,hrk _,htk _,?_,?_,fun t v htv=>?_,_,_,[.pointer (some ⟨g,0,none⟩)],rfl,rfl,hlen,hone,fun _=>.inl ⟨a,o,rfl,rfl,by simp[z07,q]⟩,H.link.congr fun k hk=>?_⟩
     . simp only[z4b];rw[hnb,H.bs];simp[z07,z03,q]
     . intro k r hk
       rcases List.mem_cons.mp hk with hk|hk
       . cases hk
         refine⟨by simp only[z07,if_true];exact h2,fun _=>⟨cur,e,by simp only[z07,if_true];exact h1,by simp[z07,q]⟩⟩
       . rw[show z07 rc i q k=rc k by simp[z07,hir k r hk]];exact H.ok k r hk
     . rcases List.mem_cons.mp htv with htv|htv
       . cases htv
         refine⟨fun k hk=>by simp[refs]at hk;exact hk.symm,0,_,rfl,rfl,?_⟩
         have:=zhi (w:=w) (fz:=fz) (R:=fun k=>z0b k ((i,(⟨true,true,a,o,x⟩:Root))::s0.roots)) (rc:=z07 rc i q) (k:=i)
         rw[show(z07 rc i q i).blk=g by simp[z07,q]]at this
         exact this
       . exact htl (fun k hk=>⟨hlook _ k hk,by simp[z07,show k≠i by omega]⟩) t v htv
     . simp[z07,show k≠i by omega]
   . let q:RC:=⟨cells,l1,0⟩
     refine⟨z07 rc i q,hrk _,htk _,?_,?_,fun t v htv=>?_,_,_,cells,rfl,rfl,hlen,hone,fun _=>.inr ⟨hnp,by simp[z07,q]⟩,H.link.congr fun k hk=>?_⟩
     . simp only[z4b];rw[hnb,H.bs];simp[z07,z03,q]
     . intro k r hk
       rcases List.mem_cons.mp hk with hk|hk
       . cases hk
         exact⟨by simp only[z07,if_true];exact hr,fun hb=>by simp at hb⟩
       . rw[show z07 rc i q k=rc k by simp[z07,hir k r hk]];exact H.ok k r hk
     . rcases List.mem_cons.mp htv with htv|htv
       . cases htv
         refine⟨fun k hk=>zsq hk,0,_,rfl,rfl,?_⟩
         refine zhp (zia (r:=⟨false,true,u.s,u.o,u.x⟩) (by simp[z0b]) (by simp only[z07,if_true];exact hr) (fun r' hr'=>by simpa [z0b]using hr'.symm) (zzs _ _) (by cases u.o<;>rfl) (zmb _ _) ?_)
         simp only[z07,if_true,q]
         cases u.s<;>rfl
       . exact htl (fun k hk=>⟨hlook _ k hk,by simp[z07,show k≠i by omega]⟩) t v htv
     . simp[z07,show k≠i by omega]
end Go.V
namespace Go.V
open Go
section
variable {P:Program} {E:Env} {C s:St} {X:Fr} {w0 w:World} {a:Act} {rc:Nat->RC}
def zoh (a:Act):ResultVar->Sem Value
 |.tmp t=>pure (a.tmps.getD t undef)
 |.cell b t=>do loadVar t (<- asAddr (a.tmps.getD b undef))
def z015 (P:Program) (a:Act) (w:World):List ResultVar->List Value->Prop
 |[],cs=>cs=[]
 |r::rs,cs=>∃ c l,cs=c::l/\(zoh a r).run P w = .ok c w/\z015 P a w rs l
theorem z02w {t:TypeId} {c v:Value} (h:(Instr.loadAt t c).run P w = .ok v w):(do loadVar t (<- asAddr c):Sem Value).run P w = .ok v w:=by
 cases c with
 | pointer p=>
   cases p with
   |some p=>exact h
   |none=>simp[Instr.loadAt,Instr.sureAddr,stuck,Sem.run]at h
 |_=>simp[Instr.loadAt,Instr.sureAddr,stuck,Sem.run]at h
theorem z02i {ex:List Nat} (h:Rel rc ex C s X w0 a w) {v:Val} {c:Value} {s1:St} {u:OV} (hv:VOk w (fzOf X w (ex++z04 rc (s.roots++C.roots))) (getR C s) rc v c) (ht:zth C s v=some (u,s1)) :
  ∃ rc1 ls cs,Rel rc1 (ls++ex) C s1 X w0 a w/\Rep w (fzOf X w (ls++ex++z04 rc1 (s1.roots++C.roots))) u.s u.o u.x cs ls/\c=z0z (z4y u.s) cs/\
   (∀ b,b∈ls++ex++z04 rc1 (s1.roots++C.roots)->b∈ex++z04 rc (s.roots++C.roots)):=by
 have old:z54 C s v=some (u,s1)->∃ rc1 ls cs,Rel rc1 (ls++ex) C s1 X w0 a w/\Rep w (fzOf X w (ls++ex++z04 rc1 (s1.roots++C.roots))) u.s u.o u.x cs ls/\c=z0z (z4y u.s) cs/\
   (∀ b,b∈ls++ex++z04 rc1 (s1.roots++C.roots)->b∈ex++z04 rc (s.roots++C.roots)):=fun ht=>by
  obtain⟨rc1,ls,cs,g1,g2,g3,_,_,g6⟩:=z7q h hv ht
  exact⟨rc1,ls,cs,g1,g2,g3,g6⟩
 unfold zth at ht
 split at ht
 . rename_i key p
   split at ht
   . rename_i r hin hlk hC hA
     split at ht
     . rename_i o e sa x hbi ho hg
       simp only[Option.some.injEq,Prod.mk.injEq]at ht
       obtain⟨rfl,rfl⟩:=ht
       rw[Bool.or_eq_false_iff]at hbi
       have hr:getR C s key=some r:=(z0a h.keys).mpr (List.mem_append_left _ (z19 hlk))
       obtain⟨cs,hvc,rfl⟩:=hv
       obtain⟨hib,_,hc,_⟩:=hvc r hr
       have hok:=h.root hr
       obtain⟨cs',bs',rest,k1,k2,k3,_⟩:=hok.1.lendP hib hg ho
       rw[hc]at k1;cases k1
       obtain⟨g1,g2,_⟩:=h.dropRoot hr hC hA
       have hbl:z03 r (rc key)=(rc key).bs:=by unfold z03;rw[hbi.1]
       rw[hbl]at g1 g2
       have hp:(rc key).bs.Perm (rest++bs'):=k3.trans List.perm_append_comm
       have g3:Rel rc (rest++(bs'++ex)) C ⟨z4e true key s.tmps,del key s.roots⟩ X w0 a w:=g1.exPerm (by rw[<-List.append_assoc];exact hp.append_right _)
       obtain⟨g4,g5⟩:=g3.exDrop
       have hsub:∀ b,b∈bs'++ex++z04 rc (del key s.roots++C.roots)->b∈ex++z04 rc (s.roots++C.roots):=by
        intro b hb
        refine(g2 b).mp ?_
        rcases List.mem_append.mp hb with hb|hb
        . rcases List.mem_append.mp hb with hb|hb
          . exact List.mem_append_left _ (List.mem_append_left _ (hp.mem_iff.mpr (by simp[hb])))
          . exact List.mem_append_left _ (List.mem_append_right _ hb)
        . exact List.mem_append_right _ hb
       exact⟨rc,bs',cs,g4,k2.stable (fun b hb=>⟨⟨hb.1,fun hm=>hb.2 (hsub b hm),hb.3⟩,rfl⟩) (fun _ _=>rfl),rfl,hsub⟩
     . exact old ht
   . exact old ht
 . exact old ht
theorem z0cg (hE:∀ t s,E.sh t=some s->ShOk P s none t):∀ {rs:List ResultVar} {gs:List (Sh×O)} {s s2:St} {l:List OV} {rc:Nat->RC} {ex:List Nat},Rel rc ex C s X w0 a w->zn6 E C s rs gs=some (l,s2)->
  ∃ rc2 l1 cs,Rel rc2 (l1++ex) C s2 X w0 a w/\ArgsRep w (fzOf X w (l1++ex++z04 rc2 (s2.roots++C.roots))) l cs l1/\z015 P a w rs cs/\
   ∀ b,b∈l1++ex++z04 rc2 (s2.roots++C.roots)->b∈ex++z04 rc (s.roots++C.roots):=by
 intro rs
 induction rs with
 | nil=>
   intro gs s s2 l rc ex h hr
   cases gs with
   |cons _ _=>simp[zn6]at hr
   | nil=>
     simp only[zn6,Option.some.injEq,Prod.mk.injEq]at hr
     obtain⟨rfl,rfl⟩:=hr
     exact⟨rc,[],[],h,⟨rfl,rfl⟩,rfl,fun b hb=>hb⟩
 | cons r rs ih=>
   intro gs s s2 l rc ex h hr
   cases gs with
   |nil=>simp[zn6]at hr
   | cons g gs=>
     obtain⟨sh,o⟩:=g
     simp only[zn6]at hr
     have key:∀ v,(match r with
       |.tmp t=>getT C s t
       | .cell t ty=>match getT C s t with
         |some v=>zjo C s (E.sh ty) v
         |none=>none)=some v->∃ c,(zoh a r).run P w = .ok c w/\VOk w (fzOf X w (ex++z04 rc (s.roots++C.roots))) (getR C s) rc v c:=by
      intro v hv
      cases r with
      | tmp t=>
        obtain⟨c,hc,hvo⟩:=h.getT hv
        exact⟨c,by simp[zoh,hc],hvo⟩
      | cell t ty=>
        simp only at hv
        cases hg:getT C s t with
        |none=>rw[hg]at hv;simp at hv
        | some ad=>
          rw[hg]at hv
          simp only at hv
          obtain⟨c,hc,hvo⟩:=h.getT hg
          have hne:(∀ a b,ad≠.tup a b)/\ad≠.tnil/\ad≠.undef:=by
           refine⟨fun a b=>?_,?_,?_⟩<;>rintro rfl<;>simp[zjo]at hv
          obtain⟨cs,h1,rfl⟩:=hvo.cells hne.1 hne.2.1 hne.2.2
          obtain⟨c',g1,g2⟩:=z01a (P:=P) h (hE ty) h1 hv (F:=fun _=>True) (fun _ _=>trivial) fun _ _ _ _ _ _=>trivial
          refine⟨c',?_,g2⟩
          have:=z02w (g1 w fun _ _=>rfl)
          simpa [zoh,hc]using this
     split at hr
     case h_2=>simp at hr
     rename_i v hv
     obtain⟨c,hc,hvo⟩:=key v hv
     cases ht:zth C s v with
     |none=>rw[ht]at hr;simp at hr
     | some q=>
       obtain⟨u,s1⟩:=q
       rw[ht]at hr
       simp only at hr
       split at hr
       case h_2=>simp at hr
       rename_i x l' s2' hcd hle hrest
       simp only[Option.some.injEq,Prod.mk.injEq]at hr
       obtain⟨rfl,rfl⟩:=hr
       obtain⟨rc1,ls,cells,g1,g2,g3,g6⟩:=z02i h hvo ht
       obtain⟨us,uo,ux⟩:=u
       simp only at hcd hle g2 g3
       obtain⟨rfl,rfl⟩:=z2f hcd
       obtain⟨bs',rest,p1,p2⟩:=g2.weak hle
       have g1':Rel rc1 (rest++(bs'++ex)) C s1 X w0 a w:=g1.exPerm (by
        rw[<-List.append_assoc];exact(p1.trans List.perm_append_comm).append_right _)
       obtain⟨k1,k2⟩:=g1'.exDrop
       obtain⟨rc2,l1,cs,m1,m2,m3,m4⟩:=ih k1 hrest
       have hfz:∀ b,fzOf X w (ls++ex++z04 rc1 (s1.roots++C.roots)) b->fzOf X w (l1++(bs'++ex)++z04 rc2 (s2'.roots++C.roots)) b:=by
        intro b hb
        refine⟨hb.1,fun hm=>hb.2 ?_,hb.3⟩
        have:=m4 b hm
        rcases List.mem_append.mp this with h'|h'
        . rcases List.mem_append.mp h' with h'|h'
          . exact List.mem_append_left _ (List.mem_append_left _ (p1.mem_iff.mpr (by simp[h'])))
          . exact List.mem_append_left _ (List.mem_append_right _ h')
        . exact List.mem_append_right _ h'
       have hfr:∀ b∈rest,fzOf X w (l1++(bs'++ex)++z04 rc2 (s2'.roots++C.roots)) b:=by
        intro b hb
        have:=k2 b hb
        exact⟨this.1,fun hm=>this.2 (m4 b hm),this.3⟩
       have hrep:=p2 w _ (fun b hb=>⟨hfz b hb,rfl⟩) (fun _ _=>rfl) hfr
       have hmem:∀ b,b∈(bs'++l1)++ex++z04 rc2 (s2'.roots++C.roots)↔b∈l1++(bs'++ex)++z04 rc2 (s2'.roots++C.roots):=by
        intro b;simp only[List.mem_append,or_assoc,or_left_comm]
       have e:=z00b (X:=X) (X':=X) (w:=w) rfl hmem
       refine⟨rc2,bs'++l1,c::cs,m1.exPerm (by
        rw[<-List.append_assoc];exact List.perm_append_comm.append_right _),⟨c,cs,cells,bs',l1,rfl,rfl,g3,?_,?_⟩,⟨c,cs,rfl,hc,m3⟩,fun b hb=>?_⟩
       . rw[e];exact hrep
       . rw[e];exact m2
       . have:=m4 b ((hmem b).mp hb)
         refine g6 b ?_
         rcases List.mem_append.mp this with h'|h'
         . rcases List.mem_append.mp h' with h'|h'
           . exact List.mem_append_left _ (List.mem_append_left _ (p1.mem_iff.mpr (by simp[h'])))
           . exact List.mem_append_left _ (List.mem_append_right _ h')
         . exact List.mem_append_right _ h'
theorem z02g {fn:Func} {cs:List Value} (h:z015 P a w fn.results.toList cs):(results fn a.tmps).run P w = .ok (zgo cs) w:=by
 have h1:∀ {rs:List ResultVar} {cs:List Value},z015 P a w rs cs->(rs.mapM (zoh a)).run P w = .ok cs w:=by
  intro rs
  induction rs with
  |nil=>intro cs h;obtain rfl:=h;rfl
  | cons r rs ih=>
    rintro cs ⟨c,l,rfl,h1,h2⟩
    simp[List.mapM_cons,Sem.run_bind,h1,ih h2]
 have h2:(fn.results.mapM (zoh a)).run P w = .ok cs.toArray w:=by
  rw[Array.mapM_eq_mapM_toList]
  simp[h1 h]
 have h3:results fn a.tmps=(do
  let vs <-fn.results.mapM (zoh a)
  pure (if h:vs.size=1 then vs[0] else .tuple vs)):=rfl
 rw[h3]
 simp only[Sem.run_bind,h2,Result.andThen_ok,Sem.run_pure]
 cases cs with
 |nil=>rfl
 | cons c cs=>
   cases cs with
   |nil=>rfl
   |cons c' cs=>simp[zgo]
end
end Go.V
namespace Go.V
open Go
section
variable {P:Program} {E:Env} {C s:St} {X:Fr} {w0 w:World} {a:Act} {rc:Nat->RC}
theorem zqa {u v:OV} {o:O} {r:Root} (h:zsf u o r=some v):r.inn=true/\
  ((r.box=true/\∃(a:Sh) (o':O) (x:a.den),u.s = .ptr a/\z6t a r.s r.x=some x/\le r.o o'=true/\ztd u=false/\o = .own o'/\v=⟨.ptr a,.own o',x⟩)\/
    (r.box=false/\∃ x,z6t u.s r.s r.x=some x/\le r.o o=true/\ztd u=true/\v=⟨u.s,o,x⟩)):=by
 obtain⟨us,uo,ux⟩:=u
 obtain⟨rbox,rinn,rs,ro,rx⟩:=r
 unfold zsf at h
 cases rinn with
 |false=>simp at h
 | true=>
   refine⟨rfl,?_⟩
   cases rbox with
   | true=>
     left
     refine⟨rfl,?_⟩
     simp only at h
     cases o<;>try (simp at h;done)
     rename_i o'
     cases us<;>try (simp at h;done)
     rename_i a
     simp only at h
     split at h
     . rename_i x hcd hb
       rw[Bool.and_eq_true,Bool.not_eq_true']at hb
       cases h
       exact⟨a,o',x,rfl,hcd,hb.1,hb.2,rfl,rfl⟩
     . simp at h
   | false=>
     right
     refine⟨rfl,?_⟩
     simp only at h
     split at h
     . rename_i x hcd hb
       rw[Bool.and_eq_true]at hb
       cases h
       exact⟨x,hcd,hb.1,hb.2,rfl⟩
     . simp at h
theorem z0an {ex:List Nat} (h:Rel rc ex C s X w0 a w):∀ {us:List OV} {i:Nat} {os:List O} {outs:List OV} {args:List Value},z4l s i us os=some outs->LinkOk X.ic X.ib i us args->
  ∃(T:List (Nat×Root)) (l2 rest:List Nat),(∀ k r,(k,r)∈T->z0b k s.roots=some r/\i<=k)/\(T.map (·.1)).Nodup/\(z04 rc T).Perm (l2++rest)/\
   ∀ fz1:Nat->Prop,(∀ b,fzOf X w (ex++z04 rc (s.roots++C.roots)) b->fz1 b)->(∀ b∈rest,fz1 b)->OutsRep w fz1 us outs args l2:=by
 intro us
 induction us with
 | nil=>
   intro i os outs args ho hl
   cases os with
   |cons _ _=>simp[z4l]at ho
   | nil=>
     simp only[z4l,Option.some.injEq]at ho
     subst ho
     exact⟨[],[],[],by simp,by simp,by simp[z04],fun _ _ _=>⟨hl,rfl⟩⟩
 | cons u us ih=>
   rintro i os outs args ho ⟨c,cs,cells,rfl,rfl,hlen,hone,hlink,hl⟩
   cases os with
   |nil=>simp[z4l]at ho
   | cons o os=>
     have weak:∀ {l:List OV},z4l s (i+1) us os=some l->∀(oo:O) (x:u.s.den),(∀ fz1:Nat->Prop,u.o≠.z->Rep w fz1 u.s oo x cells [])->outs=⟨u.s,oo,x⟩::l->
       ∃(T:List (Nat×Root)) (l2 rest:List Nat),(∀ k r,(k,r)∈T->z0b k s.roots=some r/\i<=k)/\(T.map (·.1)).Nodup/\(z04 rc T).Perm (l2++rest)/\
        ∀ fz1:Nat->Prop,(∀ b,fzOf X w (ex++z04 rc (s.roots++C.roots)) b->fz1 b)->(∀ b∈rest,fz1 b)->OutsRep w fz1 (u::us) outs (z0z (z4y u.s) cells::cs) l2:=by
      rintro l h1 oo x hr rfl
      obtain⟨T,l2,rest,g1,g2,g3,g4⟩:=ih h1 hl
      exact⟨T,l2,rest,fun k r hk=>⟨(g1 k r hk).1,by have:=(g1 k r hk).2;omega⟩,g2,g3,fun fz1 hf hr'=>⟨_,_,cells,[],l2,rfl,rfl,rfl,rfl,hlen,hone,hr fz1,g4 fz1 hf hr'⟩⟩
     have dead:∀ {l:List OV},z4l s (i+1) us os=some l->outs=⟨u.s,.dead,u.x⟩::l->_:=fun h1 h2=>weak h1 .dead u.x (fun _ _=>Rep.dead _ hlen hone) h2
     have row:∀ {l:List OV} {r:Root},z0b i s.roots=some r->z4l s (i+1) us os=some l->u.o≠.z->(match zsf u o r with|some v=>some (v::l)|none=>none)=some outs->
       ∃(T:List (Nat×Root)) (l2 rest:List Nat),(∀ k r,(k,r)∈T->z0b k s.roots=some r/\i<=k)/\(T.map (·.1)).Nodup/\(z04 rc T).Perm (l2++rest)/\
        ∀ fz1:Nat->Prop,(∀ b,fzOf X w (ex++z04 rc (s.roots++C.roots)) b->fz1 b)->(∀ b∈rest,fz1 b)->OutsRep w fz1 (u::us) outs (z0z (z4y u.s) cells::cs) l2:=by
      intro l r hr h1 huz h2
      obtain⟨T,l2,rest,g1,g2,g3,g4⟩:=ih h1 hl
      obtain⟨rbox,rinn,rs,ro,rx⟩:=r
      have hrm:=z19 hr
      have hok:=h.roots i _ (List.mem_append_left _ hrm)
      have hT:(((i,(⟨rbox,rinn,rs,ro,rx⟩:Root))::T).map (·.1)).Nodup:=by
       rw[List.map_cons]
       refine List.nodup_cons.mpr ⟨fun hm=>?_,g2⟩
       obtain⟨⟨k,r⟩,hm,e⟩:=List.mem_map.mp hm
       have:=(g1 k r hm).2
       simp only at e;omega
      have hT2:∀ k r,(k,r)∈(i,(⟨rbox,rinn,rs,ro,rx⟩:Root))::T->z0b k s.roots=some r/\i<=k:=by
       intro k r hk
       rcases List.mem_cons.mp hk with hk|hk
       . cases hk;exact⟨hr,Nat.le_refl _⟩
       . exact⟨(g1 k r hk).1,by have:=(g1 k r hk).2;omega⟩
      cases hone':zsf u o ⟨rbox,rinn,rs,ro,rx⟩with
      |none=>rw[hone']at h2;simp at h2
      | some v=>
        rw[hone']at h2
        simp only[Option.some.injEq]at h2
        subst h2
        obtain⟨hinn,hcase⟩:=zqa hone'
        obtain⟨hi1,hi2⟩:=h.inn i _ (List.mem_append_left _ hrm) hinn
        rcases hcase with⟨hbx,a',o',x,hsa,hcd,hle,hor,_,rfl⟩|⟨hbx,x,hcd,hle,hor,rfl⟩
        . have hblk:=hi2 hbx
          simp only at hcd hle hbx
          obtain⟨e1,e2⟩:=z2f hcd
          subst e1
          simp only at e2
          subst e2
          have hcells:cells=[.pointer (some ⟨X.ib i,0,none⟩)]:=by
           rcases hlink huz with⟨_,_,_,_,q⟩|⟨q,_⟩
           . exact q
           . unfold ztd at hor
             split at hor
             . rename_i q1 q2;exact absurd q2 (fun h=>q _ _ q1 h)
             . simp at hor
          obtain⟨cur,e,k1,k2⟩:=hok.2 hbx
          obtain⟨bs',rest',p1,p2⟩:=hok.1.weak hle
          refine⟨_,(rc i).blk::bs'++l2,rest'++rest,hT2,hT,?_,fun fz1 hf hr'=>?_⟩
          . rw[z4b]
            subst hbx
            simp only[z03]
            refine((p1.cons _).append g3).trans ?_
            refine List.perm_iff_count.mpr fun x=>?_
            simp only[List.count_append,List.count_cons]
            omega
          . refine⟨_,_,cells,(rc i).blk::bs',l2,rfl,rfl,rfl,hsa.symm,hlen,hone,fun _=>?_,g4 fz1 hf fun b hb=>hr' b (by simp[hb])⟩
            rw[hcells,<-hblk]
            exact⟨_,cur,e,bs',rfl,k1,by rw[k2];exact p2 w fz1 (fun b hb=>⟨hf b hb,rfl⟩) (fun _ _=>rfl) (fun b hb=>hr' b (by simp[hb])),rfl⟩
        . have hic:=hi1 hbx
          simp only at hcd hle hbx
          obtain⟨e1,e2⟩:=z2f hcd
          subst e1
          simp only at e2
          subst e2
          have hcells:X.ic i=cells:=by
           rcases hlink huz with⟨_,_,q1,q2,_⟩|⟨_,q⟩
           . simp[ztd,q1,q2]at hor
           . exact q
          obtain⟨bs',rest',p1,p2⟩:=hok.1.weak hle
          refine⟨_,bs'++l2,rest'++rest,hT2,hT,?_,fun fz1 hf hr'=>?_⟩
          . rw[z4b]
            subst hbx
            simp only[z03]
            refine(p1.append g3).trans ?_
            refine List.perm_iff_count.mpr fun x=>?_
            simp only[List.count_append]
            omega
          . refine⟨_,_,cells,bs',l2,rfl,rfl,rfl,rfl,hlen,hone,fun _=>?_,g4 fz1 hf fun b hb=>hr' b (by simp[hb])⟩
            rw[<-hcells,<-hic]
            exact p2 w fz1 (fun b hb=>⟨hf b hb,rfl⟩) (fun _ _=>rfl) (fun b hb=>hr' b (by simp[hb]))
     cases huo:u.o with
     | z=>
       simp only[z4l,huo]at ho
       cases h1:z4l s (i+1) us os with
       |none=>rw[h1]at ho;simp at ho
       | some l=>
         rw[h1]at ho
         exact weak h1 .z u.x (fun _ hz=>absurd huo hz) (by simpa using ho.symm)
     | _=>
       cases o with
       | dead=>
         simp only[z4l,huo]at ho
         cases h1:z4l s (i+1) us os with
         |none=>rw[h1]at ho;simp at ho
         | some l=>
           rw[h1]at ho
           exact dead h1 (by simpa using ho.symm)
       | _=>
         simp only[z4l,huo]at ho
         cases hr:z0b i s.roots with
         |none=>rw[hr]at ho;simp at ho
         | some r=>
           rw[hr]at ho
           simp only at ho
           cases h1:z4l s (i+1) us os with
           |none=>rw[h1]at ho;simp at ho
           | some l=>
             rw[h1]at ho
             exact row hr h1 (by rw[huo];simp) ho
end
end Go.V
namespace Go.V
open Go
section
variable {P:Program} {E:Env} {L:Nat->Option Loop} {pl:Nat->Option Pl}
theorem ArgsRep.length {w:World} {fz:Nat->Prop}:∀ {us:List OV} {args:List Value} {ls:List Nat},ArgsRep w fz us args ls->args.length=us.length:=by
 intro us
 induction us with
 |nil=>rintro args ls ⟨rfl,_⟩;rfl
 |cons u us ih=>rintro args ls ⟨c,cs,_,_,_,rfl,_,_,_,h⟩;simp[ih h]
def FitX:List OV->List O->List OV->Prop
 |[],_,outs=>outs=[]
 |u::us,o::os,outs=>∃ v vs,outs=v::vs/\(u.o = .z->v=⟨u.s,.z,u.x⟩)/\(u.o≠.z->o = .dead->v=⟨u.s,.dead,u.x⟩)/\(u.o≠.z->o≠.dead->v.o=o)/\FitX us os vs
 |_::_,[],_=>False
theorem z033 {s:St}:∀ {us:List OV} {i:Nat} {os:List O} {outs:List OV},z4l s i us os=some outs->FitX us os outs:=by
 intro us
 induction us with
 |nil=>intro i os outs h;cases os<;>simp[z4l]at h;exact h.symm ▸ rfl
 | cons u us ih=>
   intro i os outs h
   cases os with
   |nil=>simp[z4l]at h
   | cons o os=>
     cases huo:u.o with
     | z=>
       simp only[z4l,huo]at h
       cases h1:z4l s (i+1) us os with
       |none=>rw[h1]at h;simp at h
       | some l=>
         rw[h1]at h
         simp only[Option.some.injEq]at h
         exact⟨_,_,h.symm,fun _=>rfl,fun hz=>absurd huo hz,fun hz=>absurd huo hz,ih h1⟩
     | _=>
       cases o with
       | dead=>
         simp only[z4l,huo]at h
         cases h1:z4l s (i+1) us os with
         |none=>rw[h1]at h;simp at h
         | some l=>
           rw[h1]at h
           simp only[Option.some.injEq]at h
           exact⟨_,_,h.symm,fun hz=>absurd (huo.symm.trans hz) (by simp),fun _ _=>rfl,fun _ hd=>absurd rfl hd,ih h1⟩
       | _=>
         simp only[z4l,huo]at h
         cases hr:z0b i s.roots with
         |none=>rw[hr]at h;simp at h
         | some r=>
           rw[hr]at h
           simp only at h
           cases h1:z4l s (i+1) us os with
           |none=>rw[h1]at h;simp at h
           | some l=>
             rw[h1]at h
             simp only at h
             cases h2:zsf u _ r with
             |none=>rw[h2]at h;simp at h
             | some v=>
               rw[h2]at h
               simp only[Option.some.injEq]at h
               refine⟨_,_,h.symm,fun hz=>absurd (huo.symm.trans hz) (by simp),fun _ hd=>absurd hd (by simp),fun _ _=>?_,ih h1⟩
               obtain⟨_,hcase⟩:=zqa h2
               rcases hcase with⟨_,_,_,_,_,_,_,_,ho,rfl⟩|⟨_,_,_,_,_,rfl⟩
               . first|exact ho.symm|(cases ho;done)
               . rfl
theorem zy9 {C:St}:∀ {rs:List ResultVar} {gs:List (Sh×O)} {s s2:St} {l:List OV},zn6 E C s rs gs=some (l,s2)->l.map (fun u=>(u.s,u.o))=gs:=by
 intro rs
 induction rs with
 |nil=>intro gs s s2 l h;cases gs<;>simp[zn6]at h;obtain⟨rfl,_⟩:=h;rfl
 | cons r rs ih=>
   intro gs s s2 l h
   cases gs with
   |nil=>simp[zn6]at h
   | cons g gs=>
     obtain⟨sh,o⟩:=g
     simp only[zn6]at h
     split at h
     case h_2=>simp at h
     split at h
     case h_2=>simp at h
     split at h
     case h_2=>simp at h
     rename_i h1
     simp only[Option.some.injEq,Prod.mk.injEq]at h
     obtain⟨rfl,rfl⟩:=h
     simp[ih h1]
theorem z0do (hE:∀ t s,E.sh t=some s->ShOk P s none t) (hG:∀ f us rs outs,E.gives f us rs outs->z16 P f us rs outs) (hm:P.follows .mixedOrders=true)
  {f : FuncId} {fn : Func} (hf : P.funcs[f]? = some fn) (hname : (fn.name == "runtime.NumGoroutine") = false) {g : Sig} {us rs outs : List OV} {K : List OV -> List OV -> Prop}
  (hK:∀ a b,a.map (fun u=>(u.s,u.o))=g.res->FitX us g.outs b->K a b->a=rs/\b=outs) (hv:fnV E L pl fn g us K):z16 P f us rs outs:=by
 unfold fnV at hv
 cases hb:fn.body with
 |none=>rw[hb]at hv;exact hv.elim
 |some c=>
 rw[hb]at hv
 cases hs:zum 0 us with
 |none=>rw[hs]at hv;exact hv.elim
 |some s=>
 rw[hs]at hv
 simp only at hv
 split at hv
 case h_2=>exact hv.elim
 rename_i hslots
 rw[Bool.and_eq_true]at hslots
 obtain⟨hsl,hlen⟩:=hslots
 have hlen:=Nat.le_of_ble_eq_true hlen
 refine⟨⟨fn,hf,hname,by rw[hb];rfl⟩,?_⟩
 intro w fz args ls ha hn hls hfz
 obtain⟨rc0,I⟩:=z0c3 hs ha
 have hal:=ha.length
 let X:Fr:=⟨ls,fun b=>fz b\/b∈ls\/w.heap.size<=b,fun _ _=>False,fn.ntmps,fun k=>(rc0 k).cs,fun k=>(rc0 k).blk⟩
 let a:Act:={ tmps:=args.toArray++Array.replicate (fn.ntmps - args.toArray.size) undef,defers:=[] }
 have hfz0:∀ b,fz b->fzOf X w ([]++z04 rc0 (s.roots++(⟨[],[]⟩:St).roots)) b:=by
  intro b hb
  refine⟨hfz b hb,fun hm=>?_,.inl hb⟩
  simp only[List.append_nil,List.nil_append]at hm
  rw[I.bs]at hm
  exact(hls b hm).2 hb
 have hgR:∀ k,getR ⟨[],[]⟩ s k=z0b k s.roots:=by
  intro k;unfold getR;cases z0b k s.roots<;>rfl
 have hRel:Rel rc0 [] ⟨[],[]⟩ s X w a w:=by
  refine⟨by simpa using I.rk.1,by simp only[List.append_nil,List.nil_append];rw[I.bs];exact hn,?_,?_,I.tk.1,fun _ _ _=>rfl,?_,Ext.refl' _ _,rfl,⟨fun b hb=>.inr (.inr hb),fun b hb=>.inr (.inl hb)⟩,fun _ _ h=>h.elim,?_,fun k r _ _=>⟨fun _=>rfl,fun _=>rfl⟩⟩
  . intro b hb
    simp only[List.append_nil,List.nil_append]at hb
    rw[I.bs]at hb
    exact⟨(hls b hb).1,.inr hb⟩
  . intro k r hk
    exact(I.ok k r (by simpa using hk)).stable (fun b hb=>⟨hfz0 b hb,rfl⟩) fun _ _=>rfl
  . intro t v htv
    obtain⟨_,j,c,rfl,hc,hvo⟩:=I.tm t v (by simpa using htv)
    refine⟨c,?_,?_⟩
    . have hj:j<args.length:=by
       rcases Nat.lt_or_ge j args.length with h'|h'
       . exact h'
       . simp[List.getElem?_eq_none h']at hc
      show(args.toArray++Array.replicate (fn.ntmps - args.toArray.size) undef)[0+j]? = some c
      rw[Nat.zero_add,Array.getElem?_append_left (by simpa using hj)]
      simpa using hc
    . have:=hvo.stable (fz1:=fzOf X w ([]++z04 rc0 (s.roots++(⟨[],[]⟩:St).roots))) (w1:=w) (R1:=getR ⟨[],[]⟩ s) (rc1:=rc0) (fun b hb=>⟨hfz0 b hb,rfl⟩)
       (fun k p _=>fun r1 hr1=>⟨r1,(hgR k).symm.trans hr1,rfl,fun _ _ _ m1 m2 _ m4=>⟨m1,m2,m4⟩⟩) (fun k _=>fun r1 hr1 hbx=>⟨r1,(hgR k).symm.trans hr1,hbx,rfl,rfl⟩)
      exact this
  . show(args.toArray++Array.replicate (fn.ntmps - args.toArray.size) undef).size=fn.ntmps
    simp
    omega
 refine calls_of_wp hf hb (wp_mono (z0dn hE hG hm (fun _ _ h=>h) hRel hsl hv) ?_)
 have fin:∀(e:Ex) (a':Act) (w':World) (s1:St) (rc1:Nat->RC),(∀ id,e≠.exit id)->retK E fn.results.toList g us K e s1->Rel rc1 [] ⟨[],[]⟩ s1 X w a' w'->
   a'.defers=[]/\∃ v,(results fn a'.tmps).run P w' = .ok v w'/\∃ c cs l1 l2,Ending.returned v = .returned c/\c=zgo cs/\Ext ls w w'/\ArgsRep w' (z8g fz ls w w' (l1++l2)) rs cs l1/\
    OutsRep w' (z8g fz ls w w' (l1++l2)) us outs args l2/\(l1++l2).Nodup/\∀ b∈l1++l2,b<w'.heap.size/\(b∈ls\/w.heap.size<=b):=by
  intro e a' w' s1 rc1 he hr h1
  refine⟨h1.nd,?_⟩
  have hr:(match zn6 E ⟨[],[]⟩ s1 fn.results.toList g.res with
   | some (l,s1)=>match z4l s1 0 us g.outs with
     |some l'=>K l l'
     |none=>False
   |none=>False):=by
   cases e with
   |exit id=>exact absurd rfl (he id)
   |normal=>exact hr
   |ret=>exact hr
  split at hr
  case h_2=>exact hr.elim
  rename_i l s2 hres
  split at hr
  case h_2=>exact hr.elim
  rename_i l' houts
  obtain⟨rfl,rfl⟩:=hK l l' (zy9 hres) (z033 houts) hr
  obtain⟨rc2,l1,cs,h2,hargs,hrun,_⟩:=z0cg hE h1 hres
  obtain⟨T,l2,rest,t1,t2,t3,t4⟩:=z0an h2 houts I.link
  have hk:(s2.roots.map (·.1)).Nodup:=by have:=h2.keys;simpa using this
  have hperm:=zey (zs5 fun k r hkr=>(t1 k r hkr).1) t2 hk
  have hall:(z04 rc2 (s2.roots++(⟨[],[]⟩:St).roots)).Perm (z04 rc2 (z5j (T.map (·.1)) s2.roots)++(l2++rest)):=by
   simp only[List.append_nil]
   refine(z60 hperm).trans ?_
   rw[z4q]
   exact t3.append_left _
  have hnd:(l1++(z04 rc2 (z5j (T.map (·.1)) s2.roots)++(l2++rest))).Nodup:=by
   refine((hall.append_left l1).nodup_iff).mp ?_
   have:=h2.excl
   simpa using this
  have hmem:∀ b,b∈l1++(l2++rest)->b∈l1++[]++z04 rc2 (s2.roots++(⟨[],[]⟩:St).roots):=by
   intro b hb
   rcases List.mem_append.mp hb with hb|hb
   . simp[hb]
   . exact List.mem_append_right _ (hall.mem_iff.mpr (List.mem_append_right _ hb))
  have hbnd:∀ b∈l1++(l2++rest),b<w'.heap.size/\(b∈ls\/w.heap.size<=b):=by
   intro b hb
   obtain⟨q1,q2⟩:=h2.bnd b (hmem b hb)
   exact⟨q1,q2.symm⟩
  have hn2:(l1++(l2++rest)).Nodup:=by
   refine List.Nodup.sublist ?_ hnd
   exact List.Sublist.append_left (List.sublist_append_right _ _) _
  have hfa:∀ b,fzOf X w' (l1++[]++z04 rc2 (s2.roots++(⟨[],[]⟩:St).roots)) b->z8g fz ls w w' (l1++l2) b:=by
   intro b hb
   refine⟨hb.3,hb.1,fun hm=>hb.2 (hmem b ?_)⟩
   rcases List.mem_append.mp hm with hm|hm<;>simp[hm]
  have hfr:∀ b∈rest,z8g fz ls w w' (l1++l2) b:=by
   intro b hb
   obtain⟨q1,q2⟩:=hbnd b (by simp[hb])
   refine⟨.inr q2,q1,fun hm=>?_⟩
   rw[<-List.append_assoc]at hn2
   exact(List.nodup_append.mp hn2).2.2 b hm b hb rfl
  refine⟨zgo cs,z02g hrun,_,cs,l1,l2,rfl,rfl,h2.ext,hargs.mono hfa,t4 _ hfa hfr,?_,fun b hb=>hbnd b ?_⟩
  . rw[<-List.append_assoc]at hn2;exact(List.nodup_append.mp hn2).1
  . rcases List.mem_append.mp hb with hb|hb<;>simp[hb]
 intro e a' w' he
 cases e with
 |normal=>obtain⟨s1,rc1,hr,h1⟩:=he;exact fin .normal a' w' s1 rc1 (by simp) hr h1
 |ret=>obtain⟨s1,rc1,hr,h1⟩:=he;exact fin .ret a' w' s1 rc1 (by simp) hr h1
 |exit id=>obtain⟨s1,rc1,hr,h1⟩:=he;exact hr.elim
 |_=>exact he.elim
end
end Go.V
namespace Go.V
open Go
def encR {tail:Type}:(l:List (Sh×O))->resD tail l->List OV×tail
 |[],t=>([],t)
 |(sh,o)::l,r=>(⟨sh,o,r.1⟩::(encR l r.2).1,(encR l r.2).2)
def zj2:List OV->List (Sh×O)->Bool
 |[],[]=>true
 | u::us,(_,o)::m=>(match u.o with
   | .z=>(match o with
     |.z=>true
     |_=>false)
   | _=>(match o with
     |.z=>false
     |_=>true))&&zj2 us m
 |_,_=>false
def encO:List OV->(m:List (Sh×O))->outD m->List OV
 |[],_,_=>[]
 |_::_,[],_=>[]
 | u::us,(sh,o)::m,t=>match o,t with
   |.z,t=>⟨u.s,.z,u.x⟩::encO us m t
   |.dead,t=>⟨u.s,.dead,u.x⟩::encO us m t
   |.own a,t=>⟨sh,.own a,t.1⟩::encO us m t.2
   |.pr a b,t=>⟨sh,.pr a b,t.1⟩::encO us m t.2
theorem z07n:∀ {us:List OV} {m:List (Sh×O)} {K:outD m->Prop} {b:List OV},zj2 us m=true->outK m K b->FitX us (m.map (·.2)) b->∃ v,K v/\b=encO us m v:=by
 intro us
 induction us with
 | nil=>
   intro m K b hf h hx
   cases m with
   |nil=>obtain rfl:=hx;exact⟨(),h,rfl⟩
   |cons _ _=>simp[zj2]at hf
 | cons u us ih=>
   intro m K b hf h hx
   cases m with
   |nil=>simp[zj2]at hf
   | cons e m=>
     obtain⟨sh,o⟩:=e
     obtain⟨v,vs,rfl,f1,f2,f3,f4⟩:=hx
     simp only[zj2,Bool.and_eq_true]at hf
     obtain⟨hf1,hf2⟩:=hf
     cases huo:u.o with
     | z=>
       cases o with
       | z=>
         obtain⟨x,k1,k2⟩:=ih hf2 (show outK m K vs from h) f4
         exact⟨x,k1,by rw[f1 huo,k2];rfl⟩
       |_=>rw[huo]at hf1;simp at hf1
     | _=>
       have hz:u.o≠.z:=by rw[huo];simp
       cases o with
       |z=>rw[huo]at hf1;simp at hf1
       | dead=>
         obtain⟨x,k1,k2⟩:=ih hf2 (show outK m K vs from h) f4
         exact⟨x,k1,by rw[f2 hz rfl,k2];rfl⟩
       | own a=>
         have h:(match z6t sh v.s v.x with|some x=>outK m (fun r=>K (x,r)) vs|none=>False):=h
         split at h
         . rename_i x hcd
           obtain⟨y,k1,k2⟩:=ih hf2 h f4
           have ho:=f3 hz (by simp)
           obtain⟨vs',vo,vx⟩:=v
           obtain⟨e1,e2⟩:=z2f hcd
           simp only at e1 ho
           subst e1;subst ho
           simp only at e2
           subst e2
           exact⟨(x,y),k1,by rw[k2];rfl⟩
         . exact h.elim
       | pr a b=>
         have h:(match z6t sh v.s v.x with|some x=>outK m (fun r=>K (x,r)) vs|none=>False):=h
         split at h
         . rename_i x hcd
           obtain⟨y,k1,k2⟩:=ih hf2 h f4
           have ho:=f3 hz (by simp)
           obtain⟨vs',vo,vx⟩:=v
           obtain⟨e1,e2⟩:=z2f hcd
           simp only at e1 ho
           subst e1;subst ho
           simp only at e2
           subst e2
           exact⟨(x,y),k1,by rw[k2];rfl⟩
         . exact h.elim
theorem z08f {tail:Type} {T:(tail->Prop)->List OV->Prop}:∀ {l:List (Sh×O)} {K:resD tail l->Prop} {a b:List OV},resK T l K a b->a.map (fun u=>(u.s,u.o))=l->
  ∃(K':tail->Prop),T K' b/\∀ t,K' t->∃ v,K v/\encR l v=(a,t):=by
 intro l
 induction l with
 | nil=>
   intro K a b h hs
   cases a with
   |nil=>exact⟨K,h,fun t ht=>⟨t,ht,rfl⟩⟩
   |cons _ _=>simp at hs
 | cons e l ih=>
   obtain⟨sh,o⟩:=e
   intro K a b h hs
   cases a with
   |nil=>simp at hs
   | cons u a=>
     simp only[List.map_cons,List.cons.injEq,Prod.mk.injEq]at hs
     have h:(match z6t sh u.s u.x with|some x=>resK T l (fun r=>K (x,r)) a b|none=>False):=h
     split at h
     . rename_i x hcd
       obtain⟨K',h1,h2⟩:=ih h hs.2
       obtain⟨us,uo,ux⟩:=u
       obtain⟨e1,e2⟩:=z2f hcd
       obtain⟨⟨g1,g2⟩,_⟩:=hs
       simp only at e1 g2
       subst e1;subst g2
       simp only at e2
       subst e2
       refine⟨K',h1,fun t ht=>?_⟩
       obtain⟨v,k1,k2⟩:=h2 t ht
       exact⟨(x,v),k1,by simp[encR,k2]⟩
     . exact h.elim
section
variable {P:Program} {E:Env} {L:Nat->Option Loop} {pl:Nat->Option Pl}
theorem zo1 (hE:∀ t s,E.sh t=some s->ShOk P s none t) (hG:∀ f us rs outs,E.gives f us rs outs->z16 P f us rs outs) (hm:P.follows .mixedOrders=true)
  {f : FuncId} {fn : Func} (hf : P.funcs[f]? = some fn) (hname : (fn.name == "runtime.NumGoroutine") = false) {g : Sig} {us : List OV} {l m : List (Sh × O)} (hl : g.res = l) (hmo : g.outs = m.map (·.2)) (hfit : zj2 us m = true)
  {val:resD (outD m) l} (hv:fnV E L pl fn g us (ansK l m fun r=>r=val)):z16 P f us (encR l val).1 (encO us m (encR l val).2):=by
 refine z0do hE hG hm hf hname (fun a b h1 h2 h3=>?_) hv
 obtain⟨K',k1,k2⟩:=z08f h3 (by rw[h1,hl])
 rw[hmo]at h2
 obtain⟨t,t1,t2⟩:=z07n hfit k1 h2
 obtain⟨v,rfl,v2⟩:=k2 t t1
 rw[v2]
 exact⟨rfl,t2⟩
end
def infoB (P:Program) (s:Sh) (t:TypeId):Bool:=match P.info? t with
 | some i=>Nat.beq i.size s.size&&(match i.zero with
   |some z=>valB z (z0z (z4y s) (z0d s))
   | none => false) && (!z03m s || (!P.stoodInHeld t && !P.eqGuardType P.depth t && (P.fieldsOf t).toList.all fun f => decide (f.name ≠ "_")))
 |none=>false
 where
 valB (a b:Value):Bool:=match a,b with
  |.agg x,.agg y=>vsB x.toList y.toList
  |a,b=>oneB a b
 vsB:List Value->List Value->Bool
  |[],[]=>true
  |a::l,b::m=>oneB a b&&vsB l m
  |_,_=>false
 oneB:Value->Value->Bool
  |.int k n,.int j m=>decide (k=j)&&decide (n=m)
  |.bool a,.bool b=>a == b
  |.string a,.string b=>decide (a.data.toList=b.data.toList)
  |.slice none 0 0,.slice none 0 0=>true
  |.pointer none,.pointer none=>true
  |.nilFunc,.nilFunc=>true
  |_,_=>false
theorem infoB.one {a b:Value} (h:infoB.oneB a b=true):a=b:=by
 unfold infoB.oneB at h
 split at h
 . rw[Bool.and_eq_true,decide_eq_true_eq,decide_eq_true_eq]at h;rw[h.1,h.2]
 . rw[beq_iff_eq]at h;rw[h]
 . rw[decide_eq_true_eq]at h
   congr 1
   exact ByteArray.ext (Array.ext' h)
 . rfl
 . rfl
 . rfl
 . simp at h
theorem infoB.vs:∀ {l m:List Value},infoB.vsB l m=true->l=m:=by
 intro l
 induction l with
 |nil=>intro m h;cases m<;>first|rfl|simp[infoB.vsB]at h
 | cons a l ih=>
   intro m h
   cases m with
   |nil=>simp[infoB.vsB]at h
   | cons b m=>
     simp only[infoB.vsB,Bool.and_eq_true]at h
     rw[infoB.one h.1,ih h.2]
theorem infoB.val {a b:Value} (h:infoB.valB a b=true):a=b:=by
 unfold infoB.valB at h
 split at h
 . exact congrArg Value.agg (Array.ext' (infoB.vs h))
 . exact infoB.one h
theorem infoB.ok {P:Program} {s:Sh} {t:TypeId} (h:infoB P s t=true):zgj P s t:=by
 unfold infoB at h
 split at h
 . rename_i i hi
   rw[Bool.and_eq_true,Bool.and_eq_true]at h
   obtain⟨⟨h1,h2⟩,h3⟩:=h
   refine⟨i,hi,Nat.eq_of_beq_eq_true h1,?_,fun hl=>?_⟩
   . split at h2
     . rename_i z hz
       rw[hz]
       congr 1
       exact infoB.val h2
     . simp at h2
   . rw[hl]at h3
     simp only[Bool.not_true,Bool.false_or,Bool.and_eq_true,Bool.not_eq_true',List.all_eq_true,decide_eq_true_eq]at h3
     exact⟨h3.1.1,h3.1.2,h3.2⟩
 . simp at h
def z8t (P:Program):Sh->Option (List Field×Nat)->TypeId->Bool
 | .int k,none,t=>(match P.underlying t with
   |some (.int j)=>decide (j=k)
   |_=>false)&&infoB P (.int k) t
 | .bool,none,t=>(match P.underlying t with
   |some .bool=>true
   |_=>false)&&infoB P .bool t
 | .str,none,t=>(match P.underlying t with
   |some .string=>true
   |_=>false)&&infoB P .str t
 | .unit,none,t=>(match P.underlying t with
   |some (.struct fs)=>fs.toList.isEmpty
   |_=>false)&&infoB P .unit t
 | .pair a b,none,t=>(match P.underlying t with
   | some (.struct fs)=>match fs.toList with
     |f::l=>Nat.beq f.offset 0&&Nat.blt 0 a.size&&z8t P a none f.type&&z8t P b (some (l,a.size)) t
     |_=>false
   |_=>false)&&infoB P (.pair a b) t
 | .tok a b,none,t=>(match P.underlying t with
   | some (.struct fs)=>match fs.toList with
     |f::l=>Nat.beq f.offset 0&&Nat.blt 0 a.size&&z8t P a none f.type&&z8t P b (some (l,a.size)) t
     |_=>false
   |_=>false)&&infoB P (.tok a b) t
 | .sl e a,none,t=>(match P.underlying t with
   |some (.slice e')=>Nat.beq e' e
   |_=>false)&&infoB P (.sl e a) t&&Nat.blt 0 a.size&&z8t P a none e&&Nat.ble (P.bytesOf e) 128
 | .ptr a,none,t=>(match P.underlying t with
   |some (.pointer e)=>z8t P a none e
   |_=>false)&&infoB P (.ptr a) t
 |.unit,some (l,_),_=>l.isEmpty
 | .pair a b,some (l,off),t=>match l with
   |f::l'=>Nat.beq f.offset off&&Nat.blt 0 a.size&&z8t P a none f.type&&z8t P b (some (l',off+a.size)) t
   |[]=>false
 |_,_,_=>false
theorem z07y {P:Program}:∀ {s:Sh} {q:Option (List Field×Nat)} {t:TypeId},z8t P s q t=true->ShOk P s q t:=by
 intro s
 induction s with
 | int k=>
   intro q t h
   cases q with
   |some _=>simp[z8t]at h
   | none=>
     simp only[z8t,Bool.and_eq_true]at h
     obtain⟨h1,h2⟩:=h
     split at h1
     . rename_i j hu;rw[decide_eq_true_eq]at h1;subst h1;exact⟨hu,infoB.ok h2⟩
     . simp at h1
 | bool=>
   intro q t h
   cases q with
   |some _=>simp[z8t]at h
   | none=>
     simp only[z8t,Bool.and_eq_true]at h
     obtain⟨h1,h2⟩:=h
     split at h1
     . rename_i hu;exact⟨hu,infoB.ok h2⟩
     . simp at h1
 | str=>
   intro q t h
   cases q with
   |some _=>simp[z8t]at h
   | none=>
     simp only[z8t,Bool.and_eq_true]at h
     obtain⟨h1,h2⟩:=h
     split at h1
     . rename_i hu;exact⟨hu,infoB.ok h2⟩
     . simp at h1
 | unit=>
   intro q t h
   cases q with
   |some q=>obtain⟨l,off⟩:=q;simp only[z8t,List.isEmpty_iff]at h;exact h
   | none=>
     simp only[z8t,Bool.and_eq_true]at h
     obtain⟨h1,h2⟩:=h
     split at h1
     . rename_i fs hu;exact⟨fs,hu,List.isEmpty_iff.mp h1,infoB.ok h2⟩
     . simp at h1
 | pair a b iha ihb=>
   intro q t h
   cases q with
   | some q=>
     obtain⟨l,off⟩:=q
     simp only[z8t]at h
     split at h
     . rename_i f l'
       simp only[Bool.and_eq_true]at h
       obtain⟨⟨⟨h1,h2⟩,h3⟩,h4⟩:=h
       exact⟨f,l',rfl,Nat.eq_of_beq_eq_true h1,Nat.blt_eq.mp h2,iha h3,ihb h4⟩
     . simp at h
   | none=>
     simp only[z8t,Bool.and_eq_true]at h
     obtain⟨h1,h2⟩:=h
     split at h1
     . rename_i fs hu
       split at h1
       . rename_i f l hfs
         simp only[Bool.and_eq_true]at h1
         obtain⟨⟨⟨g1,g2⟩,g3⟩,g4⟩:=h1
         exact⟨fs,f,l,hu,infoB.ok h2,hfs,Nat.eq_of_beq_eq_true g1,Nat.blt_eq.mp g2,iha g3,ihb g4⟩
       . simp at h1
     . simp at h1
 | sl e a ih=>
   intro q t h
   cases q with
   |some _=>simp[z8t]at h
   | none=>
     simp only[z8t,Bool.and_eq_true]at h
     obtain⟨⟨⟨⟨h1,h2⟩,h3⟩,h4⟩,h5⟩:=h
     split at h1
     . rename_i e' hu
       have:=Nat.eq_of_beq_eq_true h1
       subst this
       exact⟨hu,infoB.ok h2,Nat.blt_eq.mp h3,ih h4,Nat.le_of_ble_eq_true h5⟩
     . simp at h1
 | ptr a ih=>
   intro q t h
   cases q with
   |some _=>simp[z8t]at h
   | none=>
     simp only[z8t,Bool.and_eq_true]at h
     obtain⟨h1,h2⟩:=h
     split at h1
     . rename_i e hu;exact⟨e,hu,infoB.ok h2,ih h1⟩
     . simp at h1
 |fn f c _=>intro q t h;cases q<;>simp[z8t]at h
 |md a _=>intro q t h;cases q<;>simp[z8t]at h
 | tok a b iha ihb=>
   intro q t h
   cases q with
   |some q=>simp[z8t]at h
   | none=>
     simp only[z8t,Bool.and_eq_true]at h
     obtain⟨h1,h2⟩:=h
     split at h1
     . rename_i fs hu
       split at h1
       . rename_i f l hfs
         simp only[Bool.and_eq_true]at h1
         obtain⟨⟨⟨g1,g2⟩,g3⟩,g4⟩:=h1
         exact⟨fs,f,l,hu,infoB.ok h2,hfs,Nat.eq_of_beq_eq_true g1,Nat.blt_eq.mp g2,iha g3,ihb g4⟩
       . simp at h1
     . simp at h1
def tabB (P:Program):List (TypeId×Sh)->Bool
 |[]=>true
 |(t,s)::l=>z8t P s none t&&tabB P l
theorem z09x {P:Program}:∀ {l:List (TypeId×Sh)},tabB P l=true->∀ t s,z0b t l=some s->ShOk P s none t:=by
 intro l
 induction l with
 |nil=>intro _ t s h;simp[z0b]at h
 | cons q l ih=>
   obtain⟨u,sh⟩:=q
   intro h t s hl
   simp only[tabB,Bool.and_eq_true]at h
   simp only[z0b]at hl
   split at hl
   . rename_i hb
     have:=Nat.eq_of_beq_eq_true hb
     subst this
     cases hl
     exact z07y h.1
   . exact ih h.2 t s hl
end Go.V
namespace Go.V
open Go
def Sh.data:Sh->Bool
 |.pair a b=>a.data&&b.data
 |.sl _ a=>a.data
 |.ptr _=>false
 |.fn _ _=>false
 |.tok _ _=>false
 |.md _=>false
 |_=>true
section
variable {P:Program} {H:Type} {enc:TypeId×Value->H} {W:World} {sp:Nat->Bool} {hd:Bool}
abbrev oldB' (W:World):Nat->Prop:=fun b=>b<W.heap.size
theorem zi5 {s:Sh} {t:TypeId} (h:zgj P s t):P.cellsOf t=s.size:=by
 obtain⟨i,h1,h2,_⟩:=h
 simp[Program.cellsOf,h1,h2]
theorem z0b9 {a:Addr} {j:Nat} {v:Value} (h:W.cell? (a.add j)=some v) (h0:W.cell? a≠none):a.spot=none/\W.cell? ⟨a.block,a.off+j,none⟩=some v:=by
 have hs:a.spot=none:=by
  unfold World.cell? at h0
  split at h0
  . cases hsp:a.spot with
    |none=>rfl
    |some x=>rw[hsp]at h0;simp at h0
  . exact absurd rfl h0
 refine⟨hs,?_⟩
 unfold Addr.add at h
 split at h
 . rename_i hj
   subst hj
   obtain⟨b,o,s⟩:=a
   simp only at hs
   subst hs
   simpa using h
 . exact h
theorem z034 {b off:Nat} {es:List Value} (h:∀ j,j<es.length->W.cell? ⟨b,off+j,none⟩=es[j]?) (h0:0<es.length):CellsAt W b off es:=by
 have hb:=h 0 h0
 rw[List.getElem?_eq_getElem h0]at hb
 cases hh:W.heap[b]? with
 |none=>simp[World.cell?,hh]at hb
 | some o=>
   cases o with
   | cells cur e fr=>
     have hc:∀ j,j<es.length->cur[off+j]? = es[j]?:=by
      intro j hj
      have:=h j hj
      simpa [World.cell?,hh]using this
     have hsz:off+es.length<=cur.size:=by
      have:=hc (es.length - 1) (by omega)
      rw[List.getElem?_eq_getElem (by omega)]at this
      have:=(Array.getElem?_eq_some_iff.1 this).1
      omega
     refine⟨cur,e,fr,hh,hsz,?_⟩
     apply List.ext_getElem?
     intro j
     rcases Nat.lt_or_ge j es.length with hj|hj
     . rw[List.getElem?_take_of_lt hj,List.getElem?_drop,Array.getElem?_toList];exact hc j hj
     . rw[List.getElem?_eq_none (by simp;omega),List.getElem?_eq_none hj]
   |_=>simp[World.cell?,hh]at hb
theorem z07j:∀(n:Nat) {sh:Sh} {t:TypeId} {cs:List Value} {x:DataW H×List MemPlace},ShOk P sh none t->sh.data=true->DataW.trod enc P W 0 sp hd n t cs=some x->
  ∃ y:sh.den,Rep W (oldB' W) sh .z y cs []:=by
 intro n
 induction n with
 |zero=>intro sh t cs x _ _ h;simp[DataW.trod]at h
 | succ n ih=>
   intro sh t cs x hsh hdt h
   have fields:∀ {s:Sh} {l:List Field} {off:Nat} {c2:List Value},ShOk P s (some (l,off)) t->s.data=true->c2.length=s.size->
     (∀(i:Nat) (f:Field),l[i]? = some f->∃ x,DataW.trod enc P W 0 sp hd n f.type ((c2.drop (f.offset - off)).take (P.cellsOf f.type))=some x)->∃ y:s.den,Rep W (oldB' W) s .z y c2 []:=by
    intro s
    induction s with
    |unit=>intro l off c2 _ _ hl _;exact⟨(),rfl,List.eq_nil_of_length_eq_zero hl⟩
    | pair a b _ ihb=>
      rintro l off c2 ⟨f,l',rfl,h1,h2,h3,h4⟩ hdd hl hall
      simp only[Sh.data,Bool.and_eq_true]at hdd
      have hl:c2.length=a.size+b.size:=hl
      obtain⟨x0,hx0⟩:=hall 0 f (by simp)
      rw[h1,Nat.sub_self,List.drop_zero,zi5 h3.info]at hx0
      obtain⟨y1,r1⟩:=ih h3 hdd.1 hx0
      have hoff:∀ {s:Sh} {l:List Field} {off:Nat},ShOk P s (some (l,off)) t->∀(i:Nat) (f:Field),l[i]? = some f->off<=f.offset:=by
       intro s
       induction s with
       |unit=>intro l off hl i f hf;obtain rfl:l=[]:=hl;simp at hf
       | pair a b _ ihb=>
         rintro l off ⟨g,l',rfl,e1,_,_,e4⟩ i f hf
         cases i with
         |zero=>simp at hf;subst hf;omega
         |succ i=>have:=ihb e4 i f (by simpa using hf);omega
       |_=>intro l off hl;exact hl.elim
      obtain⟨y2,r2⟩:=ihb (c2:=c2.drop a.size) h4 hdd.2 (by simp;omega) (fun i f' hf'=>by
       obtain⟨x1,hx1⟩:=hall (i+1) f' (by simpa using hf')
       refine⟨x1,?_⟩
       rw[List.drop_drop]
       have:=hoff h4 i f' hf'
       rw[show a.size+(f'.offset - (off+a.size))=f'.offset - off by omega]
       exact hx1)
      exact⟨(y1,y2),c2.take a.size,c2.drop a.size,(List.take_append_drop _ _).symm,rfl,r1,r2⟩
    |_=>intro l off c2 hl;exact hl.elim
   cases sh with
   | int k=>
     obtain⟨hu,_⟩:=hsh
     obtain⟨m,rfl,_,hw⟩:=DataW.trod_int hu h
     have:k.min<=m/\m<=k.max:=by simpa [Lit.wf]using hw
     exact⟨m,rfl,⟨rfl,by simp[Value.oneCell']⟩,fun _=>⟨rfl,this.1,this.2⟩⟩
   | bool=>
     obtain⟨hu,_⟩:=hsh
     obtain⟨b,rfl,_⟩:=DataW.trod_bool hu h
     exact⟨b,rfl,⟨rfl,by simp[Value.oneCell']⟩,fun _=>rfl⟩
   | str=>
     obtain⟨hu,_⟩:=hsh
     obtain⟨s,rfl,_,hl⟩:=DataW.trod_string hu h
     exact⟨s.data.toList,rfl,⟨rfl,by simp[Value.oneCell']⟩,fun _=>⟨rfl,show s.data.toList.length<=maxLen by rw[Array.length_toList];exact hl⟩⟩
   | unit=>
     obtain⟨fs,hu,hfs,hi⟩:=hsh
     obtain⟨xs,m,_,_,hl,_⟩:=DataW.trod_struct hu h
     rw[zi5 hi]at hl
     exact⟨(),rfl,List.eq_nil_of_length_eq_zero hl⟩
   | pair a b=>
     obtain⟨fs,f,l,hu,hi,hfs,h2,h3,h4,h5⟩:=hsh
     obtain⟨xs,m,hm,_,hl,hxl,hall⟩:=DataW.trod_struct hu h
     cases hm
     rw[zi5 hi]at hl
     refine fields (s:=.pair a b) (l:=fs.toList) (off:=0) (by rw[hfs];exact⟨f,l,rfl,h2,h3,h4,by simpa using h5⟩) hdt hl ?_
     intro i f' hf'
     have hf2:fs[i]? = some f':=by rw[<-Array.getElem?_toList];exact hf'
     have:=hall i f' hf2
     have hlt:i<xs.length:=by rw[hxl];exact(Array.getElem?_eq_some_iff.1 hf2).1
     rw[List.getElem?_eq_getElem hlt]at this
     exact⟨_,by rw[Nat.sub_zero];exact this⟩
   | sl e a=>
     obtain⟨hu,_,hpos,hse,_⟩:=hsh
     have hdt:a.data=true:=hdt
     have hce:=zi5 hse.info
     rcases DataW.trod_slice hu h with⟨rfl,_⟩|⟨A,len,cap,elems,rest,m,hm,rfl,_,_,hlc,hcm,hel,hall,_⟩
     . exact⟨([]:List a.den),none,0,[],rfl,rfl,Nat.le_refl _,Nat.zero_le _,⟨rfl,rfl⟩,.inl rfl⟩
     . cases hm
       rw[hce]at hall
       by_cases h0:len=0
       . subst h0
         exact⟨([]:List a.den),some A,cap,[],rfl,rfl,Nat.zero_le _,hcm,⟨rfl,rfl⟩,.inl rfl⟩
       . have each:∀ i,i<len->∃ cs',cs'.length=a.size/\(∀ j,j<a.size->W.cell? ((A.add (i * a.size)).add j)=cs'[j]?)/\∃ y:a.den,Rep W (oldB' W) a .z y cs' []:=by
          intro i hi
          have:=hall i hi
          rw[List.getElem?_eq_getElem (by omega)]at this
          obtain⟨cs',g1,g2⟩:=Option.bind_eq_some_iff.mp this
          obtain⟨_,g3,g4⟩:=World.cells?_some g1
          exact⟨cs',g3,fun j hj=>g4 j hj,ih hse hdt g2⟩
         have hspot:A.spot=none/\∀ i,i<len->∀ j,j<a.size->∀ v,W.cell? ((A.add (i * a.size)).add j)=some v->W.cell? ⟨A.block,A.off+(i * a.size+j),none⟩=some v:=by
          obtain⟨cs',g1,g2,_⟩:=each 0 (by omega)
          have h00:=g2 0 hpos
          rw[List.getElem?_eq_getElem (by omega)]at h00
          have ha0:W.cell? A≠none:=by
           have e:(A.add (0 * a.size)).add 0=A:=by simp[Addr.add]
           rw[e]at h00;rw[h00];simp
          have hs:A.spot=none:=(z0b9 (j:=0) (v:=cs'[0]) (by
           have e:(A.add (0 * a.size)).add 0=A.add 0:=by simp[Addr.add]
           rw[e]at h00;exact h00) ha0).1
          refine⟨hs,fun i hi j hj v hv=>?_⟩
          have e:(A.add (i * a.size)).add j=⟨A.block,A.off+(i * a.size+j),none⟩:=by
           obtain⟨b,o,s⟩:=A
           simp only at hs
           subst hs
           rw[zaq,zaq,Nat.add_assoc]
          rw[<-e];exact hv
         have build:∀ m,m<=len->∃(ys:List a.den) (es:List Value),ys.length=m/\RepL (Rep W (oldB' W) a .z) ys es []/\es.length=m * a.size/\∀ j,j<es.length->W.cell? ⟨A.block,A.off+j,none⟩=es[j]?:=by
          intro m
          induction m with
          |zero=>intro _;exact⟨[],[],rfl,⟨rfl,rfl⟩,by simp,by simp⟩
          | succ m ihm=>
            intro hm
            obtain⟨ys,es,q1,q2,q3,q4⟩:=ihm (by omega)
            obtain⟨cs',g1,g2,y,g3⟩:=each m (by omega)
            refine⟨ys++[y],es++cs',by simp[q1],?_,by rw[List.length_append,q3,g1,Nat.add_mul];omega,?_⟩
            . have:=RepL.app (w:=W) (fz:=oldB' W) (sh:=a) (oo:=.z) q2 (show RepL (Rep W (oldB' W) a .z) [y] cs' [] from⟨cs',[],[],[],by simp,rfl,g3,rfl,rfl⟩)
              simpa using this
            . intro j hj
              rw[List.length_append,q3,g1]at hj
              rcases Nat.lt_or_ge j es.length with hj'|hj'
              . rw[List.getElem?_append_left hj'];exact q4 j hj'
              . rw[List.getElem?_append_right hj']
                have hj2:j - es.length<a.size:=by omega
                have:=g2 (j - es.length) hj2
                rw[List.getElem?_eq_getElem (by omega)]at this ⊢
                have:=hspot.2 m (by omega) (j - es.length) hj2 _ this
                rw[show A.off+(m * a.size+(j - es.length))=A.off+j by omega]at this
                exact this
         obtain⟨ys,es,q1,q2,q3,q4⟩:=build len (Nat.le_refl _)
         have hes:0<es.length:=by rw[q3];exact Nat.mul_pos (by omega) hpos
         have hca:=z034 q4 hes
         refine⟨ys,some A,cap,es,by rw[q1],rfl,by rw[q1];exact hlc,hcm,q2,.inr ⟨A.block,A.off,?_,?_,hca⟩⟩
         . obtain⟨b,o,s⟩:=A
           have:=hspot.1
           simp only at this
           subst this;rfl
         . obtain⟨cur,e',fr,hh,_⟩:=hca
           rcases Nat.lt_or_ge A.block W.heap.size with h'|h'
           . exact h'
           . simp[Array.getElem?_eq_none h']at hh
   |ptr a=>simp[Sh.data]at hdt
   |fn f c=>simp[Sh.data]at hdt
   |tok a b=>simp[Sh.data]at hdt
   |md a=>simp[Sh.data]at hdt
end
end Go.V
namespace Go.V
open Go Go.WideShapes Go.ChangeShapes
section
variable {P:Program} {H:Type} {enc:TypeId×Value->H} {W W':World}
theorem zys {base:Nat} {sh:Sh} {t:TypeId} {v:Value} (hsh:ShOk P sh none t) (hd:sh.data=true) (h:Value.okWide P W .any base t v):v=z0z (z4y sh) v.cells.toList:=by
 have agg:∀ {fs:Array Field},P.underlying t=some (.struct fs)->z4y sh=true->v=z0z (z4y sh) v.cells.toList:=by
  intro fs hu ha
  unfold Value.okWide at h
  rw[hu]at h
  obtain⟨cs,rfl,_⟩:=h
  rw[ha];simp[z0z,Value.cells]
 cases sh with
 |int k=>obtain⟨n,rfl⟩:=okWide_int hsh.1 h;rfl
 |bool=>obtain⟨n,rfl⟩:=okWide_bool hsh.1 h;rfl
 |str=>obtain⟨n,rfl⟩:=okWide_string hsh.1 h;rfl
 |unit=>obtain⟨fs,hu,_⟩:=hsh;exact agg hu rfl
 |pair a b=>obtain⟨fs,f,l,hu,_⟩:=hsh;exact agg hu rfl
 |sl e a=>obtain⟨A,l,c,rfl⟩:=okWide_slice hsh.1 h;rfl
 |ptr a=>simp[Sh.data]at hd
 |fn f c=>simp[Sh.data]at hd
 |tok a b=>simp[Sh.data]at hd
 |md a=>simp[Sh.data]at hd
theorem z09m {base:Nat}:∀ {shs:List Sh} {ts:List TypeId} {vs:List Value} {ds:List (DataW H)} {ps:List MemPlace},DataW.TrodAll enc P W 0 (fun _=>true) true ts vs ds ps->
  shs.length=ts.length->(∀(i:Nat) sh t,shs[i]? = some sh->ts[i]? = some t->ShOk P sh none t/\sh.data=true)->(∀(i:Nat) t v,ts[i]? = some t->vs[i]? = some v->Value.okWide P W .any base t v)->
  ∃ us:List OV,us.map (·.s)=shs/\(∀ u∈us,u.o = .z)/\ArgsRep W (oldB' W) us vs []:=by
 intro shs
 induction shs with
 | nil=>
   intro ts vs ds ps h hl _ _
   cases ts with
   |cons _ _=>simp at hl
   | nil=>
     cases vs with
     |cons _ _=>exact h.elim
     |nil=>exact⟨[],rfl,by simp,rfl,rfl⟩
 | cons sh shs ih=>
   intro ts vs ds ps h hl hsh hok
   cases ts with
   |nil=>simp at hl
   | cons t ts=>
     cases vs with
     |nil=>exact h.elim
     | cons v vs=>
       cases ds with
       |nil=>exact h.elim
       | cons d ds=>
         obtain⟨p,q,⟨n,hn⟩,h2,_⟩:=h
         obtain⟨s1,s2⟩:=hsh 0 sh t rfl rfl
         obtain⟨y,hr⟩:=z07j n s1 s2 hn
         obtain⟨us,g1,g2,g3⟩:=ih h2 (by simpa using hl) (fun i sh' t' a b=>hsh (i+1) sh' t' (by simpa using a) (by simpa using b)) (fun i t' v' a b=>hok (i+1) t' v' (by simpa using a) (by simpa using b))
         refine⟨⟨sh,.z,y⟩::us,by simp[g1],fun u hu=>?_,v,vs,v.cells.toList,[],[],rfl,rfl,?_,hr,g3⟩
         . rcases List.mem_cons.mp hu with rfl|hu
           . rfl
           . exact g2 u hu
         . exact zys s1 s2 (hok 0 t v rfl rfl)
theorem z02c (hl:laidOutB P=true) (hext:Ext [] W W') {sp:Nat->Bool}:∀ {ts:List TypeId} {vs:List Value} {ds:List (DataW H)} {ps:List MemPlace},DataW.TrodAll enc P W 0 (fun _=>true) true ts vs ds ps->
  (∀ t∈ts,P.readableRec t=true/\t<P.types.size)->(∀ p∈ps,p.block<W.heap.size)->(∀ p∈ps,sp p.block=true)->DataW.TrodAll enc P W' 0 sp true ts vs ds ps:=by
 intro ts
 induction ts with
 | nil=>
   intro vs ds ps h _ _ _
   cases vs with
   |cons _ _=>exact h.elim
   | nil=>cases ds with
     |cons _ _=>exact h.elim
     |nil=>exact h
 | cons t ts ih=>
   intro vs ds ps h ht hlt hsp
   cases vs with
   |nil=>exact h.elim
   | cons v vs=>
     cases ds with
     |nil=>exact h.elim
     | cons d ds=>
       obtain⟨p,q,h1,h2,rfl⟩:=h
       obtain⟨r1,r2⟩:=ht t (by simp)
       refine⟨p,q,WideElems.Trod_stays hl r1 r2 h1 (fun x hx=>?_) fun x hx=>hsp x (by simp[hx]),ih h2 (fun t' ht'=>ht t' (by simp[ht'])) (fun x hx=>hlt x (by simp[hx])) fun x hx=>hsp x (by simp[hx]),rfl⟩
       have hb:=hext.block x.block (hlt x (by simp[hx])) (by simp)
       cases x with
       |cell b off=>simp only[MemPlace.block]at hb;simp only[World.sameAt,World.cell?,hb]
       |map b=>exact hb
theorem zyh (hext:Ext [] W W') {a:Addr} (ha:a.block<W.heap.size):W'.frozen? a=W.frozen? a:=by
 unfold World.frozen?
 rw[hext.block a.block ha (by simp)]
theorem zz3 (hext:Ext [] W W') (may:MemPlace->Prop):W.keptBut W' may:=by
 refine⟨hext.os,hext.output,fun i hi=>?_⟩
 rw[hext.block i hi (by simp)]
 cases W.heap[i]? with
 |none=>rfl
 |some o=>cases o<;>first|rfl|exact⟨rfl,rfl,rfl,fun _ _=>rfl⟩|exact .inr ⟨rfl,rfl⟩
def Bnd:(s:Sh)->s.den->Prop
 |.int k,x=>k.min<=(show Int from x)/\(show Int from x)<=k.max
 |.str,x=>List.length x<=maxLen
 |.pair a b,x=>Bnd a x.1/\Bnd b x.2
 |.sl _ a,x=>List.length x<=maxLen/\∀ y∈(show List a.den from x),Bnd a y
 |_,_=>True
theorem z07u {α:Type} {R:α->List Value->List Nat->Prop} {Q:α->Prop} (H:∀ x c b,R x c b->Q x):∀ {l:List α} {cs bs},RepL R l cs bs->∀ x∈l,Q x:=by
 intro l
 induction l with
 |nil=>intro cs bs _ x hx;simp at hx
 | cons y l ih=>
   rintro cs bs ⟨c1,c2,b1,b2,rfl,rfl,h1,h2⟩ x hx
   rcases List.mem_cons.mp hx with rfl|hx
   . exact H _ _ _ h1
   . exact ih h2 x hx
theorem Rep.bnd {fz:Nat->Prop}:∀ {s:Sh} {x:s.den} {cs bs},Rep W fz s .z x cs bs->Bnd s x:=by
 intro s
 induction s with
 |int k=>intro x cs bs h;exact(h.2.2 (by simp)).2
 |str=>intro x cs bs h;exact(h.2.2 (by simp)).2
 |pair a b iha ihb=>rintro x cs bs ⟨c1,c2,_,_,h1,h2⟩;exact⟨iha h1,ihb h2⟩
 | sl e a ih=>
   rintro x cs bs ⟨A,cap,es,_,_,h1,h2,h3,_⟩
   exact⟨Nat.le_trans h1 h2,z07u (fun _ _ _ h=>ih h) h3⟩
 |_=>intro x cs bs _;trivial
theorem ArgsRep.bnd {fz:Nat->Prop}:∀ {us:List OV} {args:List Value} {ls:List Nat},(∀ u∈us,u.o = .z)->ArgsRep W fz us args ls->∀ u∈us,Bnd u.s u.x:=by
 intro us
 induction us with
 |nil=>intro args ls _ _ u hu;simp at hu
 | cons v us ih=>
   rintro args ls hz ⟨c,cs,cells,l1,l2,_,_,_,h1,h2⟩ u hu
   have hv:=hz v (by simp)
   rw[hv]at h1
   rcases List.mem_cons.mp hu with rfl|hu
   . exact h1.bnd
   . exact ih (fun u hu=>hz u (by simp[hu])) h2 u hu
theorem zwt {f:FuncId} {fn:Func} {s:ChangeSpec} {shs:List Sh} {tb:TypeId} (hlaid:laidOutB P=true) (hvars:s.vars=[])
  (hres:fn.resultTypes = #[tb]) (hb:P.underlying tb=some .bool)
  (hlen:shs.length=fn.params.toList.length) (hsh:∀(i:Nat) sh t,shs[i]? = some sh->fn.params.toList[i]? = some t->ShOk P sh none t/\sh.data=true)
  (hread:∀ t∈fn.params.toList,P.readableRec t=true/\t<P.types.size)
  (hspec:∀(H:Type) (ds:List (DataW H)),ds.length=fn.params.toList.length->s.fn H ds = { results:=[.lit (.bool true)],args:=ds })
  (hlaw:∀ us:List OV,us.map (·.s)=shs->(∀ u∈us,u.o = .z)->(∀ u∈us,Bnd u.s u.x)->∃ outs,z16 P f us [⟨.bool,.z,true⟩] outs)
  {W:World} {base:Nat} {args:Array Value} {ds gs:List (DataW H)} {before:List MemPlace} {apart fresh handsOn again:Bool}
  (hval:∀(j:Nat) t v,fn.params[j]? = some t->args[j]? = some v->Value.okWide P W .any base t v)
  (hW:DataW.Whole enc P fn.params.toList s.vars apart W args.toList ds gs before) :
  Calls P f args W fun e W'=>∃ v,e = .returned v/\s.post enc P fn apart fresh handsOn again W args v W':=by
 have hW':=hW
 obtain⟨p,q,hA,hV,rfl,hfz,hnd⟩:=hW
 rw[hvars]at hV
 have hgq:gs=[]/\q=[]:=by
  cases gs with
  |nil=>exact⟨rfl,hV⟩
  |cons _ _=>exact hV.elim
 obtain⟨rfl,rfl⟩:=hgq
 obtain⟨us,g1,g2,g3⟩:=z09m (base:=base) hA hlen hsh (fun i t v a b=>hval i t v (by rw[<-Array.getElem?_toList];exact a) (by rw[<-Array.getElem?_toList];exact b))
 obtain⟨outs,_,hcall⟩:=hlaw us g1 g2 (g3.bnd g2)
 have hcall:=hcall W (oldB' W) args.toList [] g3 List.nodup_nil (by simp) (fun b hb=>hb)
 simp only[Array.toArray_toList]at hcall
 refine hcall.mono ?_
 rintro e W' ⟨c,cs,l1,l2,rfl,rfl,hext,hr,_⟩
 obtain⟨c,cs',cells,m1,m2,rfl,rfl,rfl,hrep,hr2⟩:=hr
 obtain⟨rfl,_⟩:=hr2
 obtain⟨_,_,hcells⟩:=hrep
 obtain rfl:=hcells (by simp)
 have hv:zgo [z0z (z4y .bool) [.bool true]] = .bool true:=rfl
 rw[hv]
 refine⟨_,rfl,?_⟩
 have hdl:ds.length=fn.params.toList.length:=by
  have:∀ {ts:List TypeId} {vs:List Value} {ds:List (DataW H)} {ps:List MemPlace},DataW.TrodAll enc P W 0 (fun _=>true) true ts vs ds ps->ds.length=ts.length:=by
   intro ts
   induction ts with
   |nil=>intro vs ds ps h;cases vs<;>cases ds<;>first|rfl|exact h.elim
   | cons t ts ih=>
     intro vs ds ps h
     cases vs with
     |nil=>exact h.elim
     | cons v vs=>cases ds with
       |nil=>exact h.elim
       |cons d ds=>obtain⟨_,_,_,h2,_⟩:=h;simp[ih h2]
  exact this hA
 have hsp:=hspec H (ds++[]) (by simpa using hdl)
 have hlt:∀ x∈p,x.block<W.heap.size:=fun x hx=>hA.lt x hx
 have hargs:∀ sp:Nat->Bool,(∀ x∈p++[],sp x.block=true)->DataW.TrodAll enc P W' 0 sp true fn.params.toList args.toList (s.fn H (ds++[])).args p:=by
  intro sp hspp
  rw[hsp]
  simp only[List.append_nil]
  exact z02c hlaid hext hA hread hlt fun x hx=>hspp x (by simp[hx])
 have hresT:∀(b:Nat) (sp:Nat->Bool) (hd:Bool),DataW.TrodAll enc P W' b sp hd fn.resultTypes.toList ((Value.bool true).resultList fn.resultTypes.size) (s.fn H (ds++[])).results []:=by
  intro b sp hd
  rw[hsp,hres]
  exact trodAll_mk1 (shut_bool' hb true)
 have hvarsT:∀ sp:Nat->Bool,DataW.TrodVars enc P W' sp s.vars (s.fn H (ds++[])).vars []:=by
  intro sp
  rw[hsp,hvars];rfl
 have hold:∀ x∈p++[],(fun b=>decide (b<W.heap.size)) x.block=true:=fun x hx=>by simpa using hlt x (by simpa using hx)
 refine⟨ds,[],p++[],[],p,[],hW',hresT _ _ _,hargs _ hold,hvarsT _,World.keptBut_mono (fun x hx=>⟨hx,?_⟩) (zz3 hext (·∈p++[])),fun _=>?_⟩
 . exact Or.inr (Or.inl (by simpa using hx))
 . refine⟨RowKit.ok_one hres rfl (RowKit.okWide_bool_mk hb true),_,_,([]++p)++[],⟨[]++p,[],trodAll_append (hargs _ (fun _ _=>rfl)) (hresT _ _ _),hvarsT _,rfl,?_,?_⟩,?_⟩
   . intro b off hp
     have hp':MemPlace.cell b off∈p++[]:=by simpa using hp
     rw[zyh hext (hlt _ (by simpa using hp'))]
     exact hfz b off hp'
   . intro ha
     have:=hnd ha
     simpa using this
   . intro x hx _
     simpa using hx
 where
 shut_bool' {P:Program} {w:World} {base:Nat} {spare:Nat->Bool} {held:Bool} {t:TypeId} (ht:P.underlying t=some .bool) (b:Bool):DataW.Trod enc P w base spare held t (.bool b) (.lit (.bool b)) []:=
  ⟨1,by simp[DataW.trod,Value.cells,ht]⟩
end
end Go.V
namespace Go.V
theorem zxl {P:Program} {f:FuncId} {us rs outs:List OV} (hz:us.all (fun u=>decide (u.o = .z))=true) (he:zh2 P f) (h:(∀ u∈us,Bnd u.s u.x)->z16 P f us rs outs):z16 P f us rs outs:=
 ⟨he,fun w fz args ls ha=>(h (ha.bnd fun u hu=>by simpa using List.all_eq_true.mp hz u hu)).2 w fz args ls ha⟩
end Go.V
namespace Go.V
open Go
structure El (w:World) (fz:Nat->Prop) (sh:Sh) (oa:O) (g:Nat) where
 x:sh.den
 cs:List Value
 bs:List Nat
 rep:Rep w fz sh oa x cs bs
 nb:∀ b∈bs,b≠g/\b<w.heap.size
section
variable {w:World} {fz:Nat->Prop} {sh:Sh} {oa:O} {g:Nat}
theorem z05l:∀ {x:List sh.den} {es:List Value} {ebs:List Nat},RepL (Rep w fz sh oa) x es ebs->(∀ b∈ebs,b≠g/\b<w.heap.size)->
  ∃ d:List (El w fz sh oa g),d.map (·.x)=x/\d.flatMap (·.cs)=es/\d.flatMap (·.bs)=ebs:=by
 intro x
 induction x with
 |nil=>rintro es ebs ⟨rfl,rfl⟩ _;exact⟨[],rfl,rfl,rfl⟩
 | cons a l ih=>
   rintro es ebs ⟨c1,c2,b1,b2,rfl,rfl,h1,h2⟩ hb
   obtain⟨d,rfl,rfl,rfl⟩:=ih h2 fun b h=>hb b (by simp[h])
   exact⟨⟨a,c1,b1,h1,fun b h=>hb b (by simp[h])⟩::d,rfl,rfl,rfl⟩
theorem zno {w1:World} {fz1:Nat->Prop} (hf:∀ b,fz b->fz1 b/\w1.heap[b]? = w.heap[b]?) (hs:∀ b,b≠g->b<w.heap.size->w1.heap[b]? = w.heap[b]?):∀(d:List (El w fz sh oa g)),
  RepL (Rep w1 fz1 sh oa) (d.map (·.x)) (d.flatMap (·.cs)) (d.flatMap (·.bs))
 |[]=>⟨rfl,rfl⟩
 |a::d=>⟨_,_,_,_,rfl,rfl,a.rep.stable hf fun b hb=>hs b (a.nb b hb).1 (a.nb b hb).2,zno hf hs d⟩
end
section
variable {P:Program}
theorem Rep.ofTok {w:World} {fz:Nat->Prop} {a b:Sh} {t:(Sh.tok a b).den} {cs:List Value} (h:Rep w fz (.tok a b) .z t cs []):Rep w fz (.pair a b) .z t.2 cs []:=by
 obtain⟨_,c1,c2,e,h1,h2⟩:=h.2.2 (by simp)
 exact⟨c1,c2,e,rfl,h1,h2⟩
theorem z08m {gf:FuncId} {a b:Sh} {x y:(Sh.tok a b).den} {rs:List OV} (h:z16 P gf [⟨.pair a b,.z,x.2⟩,⟨.pair a b,.z,y.2⟩] rs [⟨.pair a b,.z,x.2⟩,⟨.pair a b,.z,y.2⟩]) :
  z16 P gf [⟨.tok a b,.z,x⟩,⟨.tok a b,.z,y⟩] rs [⟨.tok a b,.z,x⟩,⟨.tok a b,.z,y⟩]:=by
 refine⟨h.1,?_⟩
 rintro w fz args ls ⟨c,cs',cells,l1,l2,rfl,rfl,rfl,h1,c2,cs2,cells2,l3,l4,rfl,rfl,rfl,h2,rfl,rfl⟩ hnd hls hfz
 have e1:=h1.z_nil
 have e2:=h2.z_nil
 subst e1 e2
 refine(h.2 w fz _ [] ⟨_,_,cells,[],[],rfl,rfl,rfl,h1.ofTok,_,_,cells2,[],[],rfl,rfl,rfl,h2.ofTok,rfl,rfl⟩ .nil (by simp) hfz).mono ?_
 rintro e w' ⟨c,cs,k1,k2,he,hc,hE,hA,hO,hn,hb⟩
 refine⟨c,cs,k1,k2,he,hc,hE,hA,?_,hn,hb⟩
 obtain⟨_,_,d1,m1,m2,q1,q2,q3,q4,q5,q6,q7,_,_,d2,m3,m4,p1,p2,p3,p4,p5,p6,p7,p8⟩:=hO
 exact⟨_,_,d1,m1,m2,q1,q2,q3,rfl,q5,q6,fun h=>absurd rfl h,_,_,d2,m3,m4,p1,p2,p3,rfl,p5,p6,fun h=>absurd rfl h,p8⟩
abbrev zlf (α:Type):Type:=(List Value×List Nat)×α
def zTk {α:Type} (cs:List Value) (v:α):zlf α:=((cs,[]),v)
def tvl {a b:Sh} (t:(Sh.tok a b).den):(Sh.pair a b).den:=t.2
def tcs {a b:Sh} (t:(Sh.tok a b).den):List Value:=t.1.1
def tbs {a b:Sh} (t:(Sh.tok a b).den):List Nat:=t.1.2
def tz {a b:Sh} (v:(Sh.pair a b).den):(Sh.tok a b).den:=(([],[]),v)
def tmk {w:World} {fz:Nat->Prop} {a b:Sh} {oa:O} {g:Nat} (e:El w fz (.pair a b) oa g):(Sh.tok a b).den:=((e.cs,e.bs),e.x)
theorem z076 {w:World} {fz:Nat->Prop} {a b:Sh}:∀ {ys:List (Sh.tok a b).den} {es:List Value} {bs:List Nat},RepL (Rep w fz (.tok a b) .z) ys es bs->es=ys.flatMap tcs/\bs=[]:=by
 intro ys
 induction ys with
 |nil=>rintro es bs ⟨rfl,rfl⟩;exact⟨rfl,rfl⟩
 | cons y l ih=>
   rintro es bs ⟨c1,c2,b1,b2,rfl,rfl,h1,h2⟩
   obtain⟨e1,e2⟩:=ih h2
   exact⟨by rw[(h1.2.2 (by simp)).1,e1];rfl,by rw[h1.1,e2];rfl⟩
theorem z07l {w:World} {fz fz0:Nat->Prop} {e:TypeId} {a b:Sh} {oa:O} {ys:List (Sh.tok a b).den} {cells:List Value} {k ebs:List Nat} (h:Rep w fz0 (.sl e (.tok a b)) (.own .z) ys cells k) (h0:ys=[]->ebs=[])
  (hL:RepL (Rep w fz (.pair a b) oa) (ys.map tvl) (ys.flatMap tcs) ebs):Rep w fz (.sl e (.pair a b)) (.own oa) (ys.map tvl) cells (k++ebs):=by
 obtain⟨v,es,bs,rfl,h1,h2⟩:=h
 obtain⟨rfl,rfl⟩:=z076 h1
 refine⟨v,_,ebs,rfl,hL,?_⟩
 have hl:(ys.map tvl).length=ys.length:=List.length_map ..
 rcases h2 with⟨rfl,hx,rfl⟩|⟨g,cap,cur,rfl,q1,q2,q3,q4,q5,rfl⟩
 . have hx:ys=[]:=hx
   subst hx
   exact .inl ⟨rfl,rfl,by rw[h0 rfl];rfl⟩
 . refine .inr ⟨g,cap,cur,?_,q1,?_,q3,q4,?_,rfl⟩
   . show Value.slice _ (List.length ys) cap=Value.slice _ (List.length (ys.map tvl)) cap
     rw[hl]
   . show List.length (ys.map tvl)<=cap
     rw[hl];exact q2
   . show cur.toList.take (List.length (ys.map tvl) * _)=_
     rw[hl];exact q5
theorem z065 {w:World} {fz fz1:Nat->Prop} {a b:Sh} {oa:O} {g:Nat} (hal:oa.alive=true) (hf:∀ b,fz b->fz1 b):∀(d:List (El w fz (.pair a b) oa g)),(∀ b∈d.flatMap (·.bs),fz1 b)->
  RepL (Rep w fz1 (.tok a b) .z) (d.map tmk) (d.flatMap (·.cs)) []
 |[],_=>⟨rfl,rfl⟩
 | y::d,h=>by
   refine⟨y.cs,d.flatMap (·.cs),[],[],by simp,rfl,?_,z065 hal hf d fun b hb=>h b (by simp only[List.flatMap_cons,List.mem_append];exact .inr hb)⟩
   have hr:Rep w fz1 (.pair a b) .z y.x y.cs []:=y.rep.freeze hf hal fun b hb=>h b (by simp only[List.flatMap_cons,List.mem_append];exact .inl hb)
   refine⟨rfl,⟨hr.len,hr.one⟩,fun _=>⟨rfl,?_⟩⟩
   obtain⟨c1,c2,e1,_,r1,r2⟩:=hr
   exact⟨c1,c2,e1,r1,r2⟩
theorem z018 {α β:Type} {f:α->List β} {l m:List α} (h:l.Sublist m):(l.flatMap f).Sublist (m.flatMap f):=by
 induction h with
 |slnil=>exact .refl _
 |cons a _ ih=>exact ih.trans (List.sublist_append_right _ _)
 |cons_cons a _ ih=>exact ih.append_left _
theorem z0c4 {f gf:FuncId} {e:TypeId} {a b c:Sh} {oa:O} {cx:c.den} {x y:List (Sh.pair a b).den} (hal:oa.alive=true)
  (H:∀ xs:List (Sh.tok a b).den,xs.map tvl=x->∃ ys:List (Sh.tok a b).den,ys.Sublist xs/\ys.map tvl=y/\
   z16 P f [⟨.sl e (.tok a b),.own .z,xs⟩,⟨.fn gf c,.z,cx⟩] [⟨.sl e (.tok a b),.own .z,ys⟩] [⟨.sl e (.tok a b),.dead,xs⟩,⟨.fn gf c,.z,cx⟩]) :
  z16 P f [⟨.sl e (.pair a b),.own oa,x⟩,⟨.fn gf c,.z,cx⟩] [⟨.sl e (.pair a b),.own oa,y⟩] [⟨.sl e (.pair a b),.dead,x⟩,⟨.fn gf c,.z,cx⟩]:=by
 refine⟨(H (x.map tz) (by rw[List.map_map];exact List.map_id _)).choose_spec.2.2.1,?_⟩
 rintro w fz args ls ⟨c1,cs1,cells,l1,l2,rfl,rfl,rfl,hrep,c2,cs2,cells2,l3,l4,rfl,rfl,rfl,hfn,rfl,rfl⟩ hnd hls hfz
 have e3:=hfn.z_nil
 subst e3
 have hnd:l1.Nodup:=by simpa using hnd
 have hls:∀ b∈l1,b<w.heap.size/\¬ fz b:=fun b hb=>hls b (by simp[hb])
 obtain⟨g,d,hdx,hd1,hsub,hg⟩:∃(g:Nat) (d:List (El w fz (.pair a b) oa g)) ,d.map (·.x)=x/\(∃ k,l1=k++d.flatMap (·.bs)/\(∀ b∈k,b=g)/\
   ∀ fz1:Nat->Prop,(∀ b,fz b->fz1 b)->(∀ b∈d.flatMap (·.bs),fz1 b)->Rep w fz1 (.sl e (.tok a b)) (.own .z) (d.map tmk) cells k)/\cells.length=1/\True:=by
  obtain⟨v,es,ebs,rfl,h1,h2⟩:=hrep
  rcases h2 with⟨rfl,hx,rfl⟩|⟨g,cap,cur,rfl,q1,q2,q3,q4,q5,rfl⟩
  . have hx:x=[]:=hx
    subst hx
    exact⟨0,[],rfl,⟨[],rfl,by simp,fun fz1 _ _=>⟨_,[],[],rfl,⟨rfl,rfl⟩,.inl ⟨rfl,rfl,rfl⟩⟩⟩,rfl,trivial⟩
  . obtain⟨d,rfl,rfl,rfl⟩:=z05l (g:=g) h1 fun b hb=>⟨fun e=>(List.nodup_cons.mp hnd).1 (e ▸ hb),(hls b (by simp[hb])).1⟩
    refine⟨g,d,rfl,⟨[g],rfl,by simp,fun fz1 hf hb=>⟨_,d.flatMap (·.cs),[],rfl,z065 hal hf d hb,.inr ⟨g,cap,cur,?_,q1,?_,q3,q4,?_,rfl⟩⟩⟩,rfl,trivial⟩
    . show Value.slice _ (List.length (d.map (·.x))) cap=Value.slice _ (List.length (d.map tmk)) cap
      rw[List.length_map,List.length_map]
    . have:List.length (d.map (·.x))<=cap:=q2
      show List.length (d.map tmk)<=cap
      rw[List.length_map]at this ⊢
      exact this
    . show cur.toList.take (List.length (d.map tmk) * (Sh.tok a b).size)=_
      have:cur.toList.take (List.length (d.map (·.x)) * (Sh.pair a b).size)=d.flatMap (·.cs):=q5
      rw[List.length_map]at this ⊢
      exact this
 obtain⟨k,rfl,hk,hrow⟩:=hd1
 obtain⟨ys,hs,rfl,hG⟩:=H (d.map tmk) (by rw[List.map_map];exact hdx)
 obtain⟨d',hd',rfl⟩:=List.sublist_map_iff.mp hs
 have hnb:∀ b∈d.flatMap (·.bs),b≠g/\b<w.heap.size:=fun b hb=>by
  obtain⟨y,_,hy⟩:=List.mem_flatMap.mp hb
  exact y.nb b hy
 have hnd2:=List.nodup_append.mp hnd
 have hfz1:∀ b,fz b\/b∈d.flatMap (·.bs)->b<w.heap.size:=fun b hb=>hb.elim (hfz b) fun h=>(hnb b h).2
 refine(hG.2 w (fun b=>fz b\/b∈d.flatMap (·.bs)) _ (k++[]) ⟨_,_,cells,k,[],rfl,rfl,rfl,hrow _ (fun b h=>.inl h) (fun b h=>.inr h),_,_,cells2,[],[],rfl,rfl,rfl,hfn.stable (fun b h=>⟨.inl h,rfl⟩) (by simp),rfl,rfl⟩ (by simpa using hnd2.1)
  (fun b hb=>by
   have hb:b∈k:=by simpa using hb
   refine⟨(hls b (by simp[hb])).1,?_⟩
   rintro (h|h)
   . exact(hls b (by simp[hb])).2 h
   . exact(hnb b h).1 (hk b hb)) hfz1).mono ?_
 rintro en w' ⟨cc,rs,k1,k2,rfl,rfl,hE,⟨_,_,rcells,m1,m2,rfl,rfl,rfl,hr,rfl,rfl⟩,hO,hn,hb⟩
 obtain⟨_,_,d1,n1,n2,q1,q2,q3,q4,q5,q6,q7,_,_,d2,n3,n4,p1,p2,p3,p4,p5,p6,p7,p8⟩:=hO
 have hn:(m1++k2).Nodup:=by simpa using hn
 have hb:∀ b∈m1++k2,b<w'.heap.size/\(b∈k\/w.heap.size<=b):=by simpa using hb
 have hout:∀ b∈m1++k2,b=g\/w.heap.size<=b:=fun b h=>(hb b h).2.elim (fun h=>.inl (hk b h)) .inr
 have hkb:∀ b,b∈k->¬ fz b:=fun b h=>(hls b (by simp[h])).2
 have hsame:∀ b,b<w.heap.size->b∉k->w'.heap[b]? = w.heap[b]?:=fun b h1 h2=>hE.block b h1 (by simpa using h2)
 have hd'm:∀ b∈d'.flatMap (·.bs),b∈d.flatMap (·.bs):=fun b h=>by
  obtain⟨y,hy,hy2⟩:=List.mem_flatMap.mp h
  exact List.mem_flatMap.mpr ⟨y,hd'.subset hy,hy2⟩
 have hd'n:(d'.flatMap (·.bs)).Nodup:=(z018 hd').nodup hnd2.2.1
 have hapart:∀ b∈d.flatMap (·.bs),b∉m1++k2:=fun b h1 h2=>(hout b h2).elim (hnb b h1).1 fun h=>absurd (hnb b h1).2 (by omega)
 have hkd:∀ b∈d.flatMap (·.bs),b∉k:=fun b h1 h2=>(hnb b h1).1 (hk b h2)
 have hfzout:∀ b,fz b->b∉m1++k2:=fun b h1 h2=>(hb b h2).2.elim (fun h=>hkb b h h1) fun h=>absurd (hfz b h1) (by omega)
 have hfzd:∀ b,fz b->b∉d.flatMap (·.bs):=fun b h1 h2=>(hls b (by simp only[List.mem_append];exact .inr h2)).2 h1
 refine⟨_,_,(m1++d'.flatMap (·.bs))++[],k2,rfl,rfl,⟨hE.os,hE.tape,hE.output,hE.size,fun b h1 h2=>hsame b h1 fun h=>h2 (by simp[h]),hE.drawn⟩,⟨_,[],rcells,m1++d'.flatMap (·.bs),[],rfl,rfl,rfl,?_,rfl,rfl⟩,
  ⟨_,_,d1,n1,n2,q1,q2,q3,rfl,q5,q6,fun _=>?_,_,_,d2,n3,n4,p1,p2,p3,p4,p5,p6,fun h=>absurd rfl h,p8⟩,?_,fun b h=>?_⟩
 . refine z07l hr (fun h=>?_) ?_
   . obtain rfl:d'=[]:=List.map_eq_nil_iff.mp h
     rfl
   . rw[List.map_map,List.flatMap_map]
     refine zno (fun b h=>⟨⟨.inl h,Nat.lt_of_lt_of_le (hfz b h) hE.size,fun hm=>?_⟩,hsame b (hfz b h) fun hm=>hkb b hm h⟩) (fun b h1 h2=>hsame b h2 fun hm=>h1 (hk b hm)) d'
     simp only[List.append_nil,List.append_assoc,List.mem_append]at hm
     rcases hm with hm|hm|hm
     . exact hfzout b h (by simp[hm])
     . exact hfzd b h (hd'm b hm)
     . exact hfzout b h (by simp[hm])
 . have hd:Rep w' (z8g (fun b=>fz b\/b∈d.flatMap (·.bs)) (k++[]) w w' (m1++[]++k2)) (.sl e (.tok a b)) .dead (d.map tmk) d1 n1:=q7 (by simp)
   have h1:=zo7 hd
   subst h1
   exact Rep.dead (s:=.sl e (.pair a b)) _ hd.len hd.one
 . rw[List.append_nil,List.append_assoc]
   have hn2:=List.nodup_append.mp hn
   refine List.nodup_append.mpr ⟨hn2.1,List.nodup_append.mpr ⟨hd'n,hn2.2.1,fun u h1 v h2 e=>hapart u (hd'm u h1) (e ▸ List.mem_append.mpr (.inr h2))⟩,fun u h1 v h2 e=>?_⟩
   subst e
   rcases List.mem_append.mp h2 with h2|h2
   . exact hapart u (hd'm u h2) (List.mem_append.mpr (.inl h1))
   . exact hn2.2.2 u h1 u h2 rfl
 . simp only[List.append_nil,List.append_assoc,List.mem_append]at h
   rcases h with h|h|h
   . obtain⟨h1,h2⟩:=hb b (by simp[h])
     exact⟨h1,h2.imp (fun h=>by simp[h]) id⟩
   . exact⟨Nat.lt_of_lt_of_le (hnb b (hd'm b h)).2 hE.size,.inl (by simp only[List.append_nil,List.mem_append];exact .inr (hd'm b h))⟩
   . obtain⟨h1,h2⟩:=hb b (by simp[h])
     exact⟨h1,h2.imp (fun h=>by simp[h]) id⟩
end
end Go.V
namespace Go.V
open Go
theorem z0co {p:Prop} [Decidable p] {x y:Prop} (h:p):z01 (decide p) x y=x:=by rw[decide_eq_true h];rfl
theorem z0a2 {p:Prop} [Decidable p] {x y:Prop} (h:¬ p):z01 (decide p) x y=y:=by rw[decide_eq_false h];rfl
theorem z045 {b:Bool} {x y:Prop} (h:b=true):z01 b x y=x:=by rw[h];rfl
theorem z00n {b:Bool} {x y:Prop} (h:b=false):z01 b x y=y:=by rw[h];rfl
theorem zob {b:Bool} {x y:Prop} (h1:b=true->x) (h2:b=false->y):z01 b x y:=by cases b;exact h2 rfl;exact h1 rfl
theorem z1s {n:Int} (h1 : -9223372036854775808<=n) (h2:n<=9223372036854775807):w64 n=n:=by
 unfold w64
 simp only[IntKind.wrap,IntKind.signed,IntKind.bits]
 simp
 omega
theorem zlb:maxLen=9223372036854775807:=by unfold maxLen;rfl
theorem z0x {α:Type} {B:(α->Prop)->α->Prop} {a0:α} (n:Nat) (f:Nat->α) (h0:f 0=a0) (hs:∀ i,i<n->∀ X:α->Prop,X (f (i+1))->B X (f i)) (he:∀ X,B X (f n)):z0l B a0:=by
 refine⟨n+1,?_⟩
 rw[<-h0]
 have:∀ d i,i+d=n->zwc B (d+1) (f i):=by
  intro d
  induction d with
  | zero => intro i hi;obtain rfl:i=n:=by omega
            exact he _
  |succ d ih=>intro i hi;exact hs i (by omega) _ (ih (i+1) (by omega))
 exact this n 0 (by omega)
theorem z1f {α:Type} {B:(α->Prop)->α->Prop} (Inv:Nat->α->Prop) (hz:∀ a,Inv 0 a->∀ X:α->Prop,B X a) (hs:∀ d a,Inv (d+1) a->∀ X:α->Prop,(∀ b,Inv d b->X b)->B X a) {n:Nat} {a0:α} (h0:Inv n a0):z0l B a0:=by
 refine⟨n+1,?_⟩
 have:∀ d a,Inv d a->zwc B (d+1) a:=by
  intro d
  induction d with
  |zero=>intro a ha;exact hz a ha _
  |succ d ih=>intro a ha;exact hs d a ha _ fun b hb=>ih b hb
 exact this n a0 h0
theorem z08w {α:Type} {l:List α} {i:Nat} {d:α} (h:i<l.length):l.getD (Int.toNat (i:Int)) d=l[i]:=by
 rw[Int.toNat_natCast,List.getD_eq_getElem?_getD,List.getElem?_eq_getElem h];rfl
theorem z06 {i:Nat} (h:i<9223372036854775807):w64 ((i:Int)+1)=((i+1:Nat):Int):=by rw[z1s (by omega) (by omega)];omega
def z05 {α:Type} (p:α->Bool):List α->Nat
 |[]=>0
 |x::l=>if p x then 0 else z05 p l+1
theorem zhz {α:Type} (p:α->Bool):∀ l:List α,z05 p l<=l.length
 |[]=>Nat.le_refl _
 |x::l=>by unfold z05;split;simp;have:=zhz p l;simp;omega
theorem ze3 {α:Type} {p:α->Bool}:∀ {l:List α} {i:Nat} (h:i<l.length),i<z05 p l->p l[i]=false
 |x::l,0,_,hi=>by unfold z05 at hi;split at hi;omega;rename_i hp;simpa using hp
 | x::l,i+1,h,hi=>by
   unfold z05 at hi;split at hi;omega
   exact ze3 (l:=l) (by simpa using h) (by omega)
theorem zaz {α:Type} {p:α->Bool}:∀ {l:List α} (h:z05 p l<l.length),p (l[z05 p l])=true
 | x::l,h=>by
   by_cases hp:p x=true
   . have e:z05 p (x::l)=0:=by simp[z05,hp]
     simp[e,hp]
   . have e:z05 p (x::l)=z05 p l+1:=by simp[z05,hp]
     rw[e]at h
     simp only[e,List.getElem_cons_succ]
     exact zaz (by simpa using h)
theorem firstAt_any {α:Type} {p:α->Bool}:∀ {l:List α},(z05 p l<l.length)↔l.any p=true
 |[]=>by simp[z05]
 | x::l=>by
   by_cases hp:p x=true
   . simp[z05,hp]
   . simp only[z05,hp,Bool.false_eq_true,if_false,List.length_cons,List.any_cons,Bool.false_or]
     rw[<-firstAt_any (l:=l)];omega
theorem z56 {α:Type} {l:List α} {i:Nat} (h:i<l.length):l.drop i=l[i]::l.drop (i+1):=List.drop_eq_getElem_cons h
end Go.V
namespace Go.V
open Go
def bulk:(s:Sh)->s.den->Nat
 |.str,x=>List.length x
 |.pair a b,x=>bulk a x.1+bulk b x.2
 |.sl _ a,x=>List.length x+((show List a.den from x).map (bulk a)).sum
 |_,_=>0
def fits (l:Int) (b:Nat):Int:=if l<(b:Int)then -1 else l - (b:Int)
theorem z0m {n:Int} {p:Prop} (h:n<=9223372036854775807->p):z0t n p:=h
theorem z97 {α:Type} [BEq α] [LawfulBEq α] {x y:α} {A B:Prop} (hA:x≠y->A) (hB:x=y->B):z01 (x != y) A B:=by
 by_cases h:x=y
 . rw[z00n (by simp[h])];exact hB h
 . rw[z045 (by simpa using h)];exact hA h
theorem z0bn {α:Type} [BEq α] [LawfulBEq α] {x y:α} {A B:Prop} (hA:x≠y->A) (hB:x=y->B):z01 (!(x == y)) A B:=z97 hA hB
theorem z0av {p:Prop} [Decidable p] {A B:Prop} (hA:¬ p->A) (hB:p->B):z01 (!decide p) A B:=by
 by_cases h:p
 . rw[z00n (by simp[h])];exact hB h
 . rw[z045 (by simp[h])];exact hA h
def wt:(s:Sh)->s.den->Nat
 |.int _,_=>1
 |.bool,_=>1
 |.str,_=>1
 |.pair a b,x=>wt a x.1+wt b x.2
 |.sl _ a,x=>((show List a.den from x).map (wt a)).sum
 |_,_=>0
def z0cu {α:Type} (m:α->Int->α) (w:α->Nat):List α->Int->List α
 |[],_=>[]
 |t::l,k=>m t k::z0cu m w l (k+(w t:Int))
def mk (mt:Int->List UInt8):(s:Sh)->s.den->Int->s.den
 |.int _,_,j=>(show Int from j)
 |.bool,_,j=>Int.tmod j 3 == 0
 |.str,_,j=>mt j
 |.pair a b,x,j=>(mk mt a x.1 j,mk mt b x.2 (j+(wt a x.1:Int)))
 |.sl _ a,x,j=>z0cu (mk mt a) (wt a) x j
 |_,x,_=>x
def scal:Sh->Nat
 |.int _=>1
 |.bool=>1
 |.str=>1
 |.pair a b=>scal a+scal b
 |.sl _ a=>scal a
 |_=>0
theorem z08 {α:Type} {l:List α} {i:Nat} (h:i<l.length):l.take (i+1)=l.take i++[l[i]]:=List.take_succ_eq_append_getElem h
theorem z8q {α:Type} {l:List α} {i:Nat} {d:α} (h:i<l.length):l.getD i d=l[i]:=by
 rw[List.getD_eq_getElem?_getD,List.getElem?_eq_getElem h];rfl
end Go.V
namespace Go.V
abbrev z0s:=List UInt8×Int×Bool×Unit
abbrev z00:=Int×List Int×Unit
abbrev z02:=List z0s×List z00×Unit
abbrev zah:=List Int×List Int×Unit
abbrev TUf:=List Int×Unit
abbrev z0f:=List z00×List z00×Bool×Int×Int×Unit
abbrev z29:=Int×Int×Bool×Unit
abbrev zv1:=z02×Int×List z00×Unit
abbrev z03j:=List Int×List z00×Unit
abbrev TIq:=z03j×Int×Int×Unit
abbrev z0cl:=Int×Int×List Int×Unit
abbrev TSk:=z02×List z0cl×Unit
abbrev z0dq:=TSk×List z0f×List z00×Int×Int×Unit
abbrev z0dk:=z02×List z0f×z03j×Bool×Unit
abbrev zjv:z0s:=(([]:List UInt8),((0:Int),(false,())))
abbrev z09:z00:=((0:Int),(([]:List Int),()))
abbrev zf3:z29:=((0:Int),((0:Int),(false,())))
abbrev z0e2:z0cl:=((0:Int),((0:Int),(([]:List Int),())))
abbrev z0e5:z02:=(([]:List z0s),(([]:List z00),()))
abbrev zSub:zah:=(([]:List Int),(([]:List Int),()))
abbrev zdf:z0f:=(([]:List z00),(([]:List z00),(false,((0:Int),((0:Int),())))))
abbrev z0dy:z03j:=(([]:List Int),(([]:List z00),()))
end Go.V
namespace Go.V
open Go
theorem bcT {A B:Prop} (h:A):z01 true A B:=h
theorem bcF {A B:Prop} (h:B):z01 false A B:=h
theorem z1w {b:Bool} {A B:Prop} (h1:b=true->A) (h2:b=false->B):z01 b A B:=zob h1 h2
theorem z0e {p:Prop} [Decidable p] {A B:Prop} (h1:p->A) (h2:¬ p->B):z01 (decide p) A B:=zob (fun h=>h1 (by simpa using h)) (fun h=>h2 (by simpa using h))
theorem z0p {b:Bool} {A B:Prop} (h1:b=false->A) (h2:b=true->B):z01 (!b) A B:=zob (fun h=>h1 (by simpa using h)) (fun h=>h2 (by simpa using h))
theorem z4a {α:Type} [BEq α] [LawfulBEq α] {x y:α} {A B:Prop} (h1:x=y->A) (h2:x≠y->B):z01 (x == y) A B:=zob (fun h=>h1 (by simpa using h)) (fun h=>h2 (by simpa using h))
theorem inI {i n:Nat} {p:Prop} (h:i<n) (hp:p):((0<=(i:Int)/\(i:Int)<(n:Int))/\p):=⟨⟨by omega,by omega⟩,hp⟩
theorem bcI {i n:Nat} {A B:Prop} (h:i<n) (hp:A):z01 (decide ((i:Int)<(n:Int))) A B:=by rw[z0co (by omega)];exact hp
theorem bcN {n:Nat} {A B:Prop} (hp:B):z01 (decide ((n:Int)<(n:Int))) A B:=by rw[z0a2 (by omega)];exact hp
theorem z2g {α:Type} {l:List α} {i:Nat} {d:α} (h:i<l.length):l.getD (Int.toNat (i:Int)) d=l[i]:=z08w h
theorem z9i {α τ:Type} {B:(τ->Prop)->τ->Prop} (l:List α) (p:α->Bool) (e:Nat->τ) {KT KF:Prop}
  (hs:∀ i (h:i<l.length) (X:τ->Prop),(p l[i]=true->KT)->(p l[i]=false->X (e (i+1)))->B X (e i))
  (hf:∀ X:τ->Prop,KF->B X (e l.length)) (h1:l.any p=true->KT) (h2:l.any p=false->KF):z0l B (e 0):=by
 refine z1f (fun k a=>∃ i,i+k=l.length/\a=e i/\(l.take i).any p=false) ?_ ?_ (n:=l.length) ⟨0,by omega,rfl,by simp⟩
 . rintro a ⟨i,hi,rfl,hp⟩ X
   obtain rfl:i=l.length:=by omega
   rw[List.take_length]at hp
   exact hf X (h2 hp)
 . rintro k a ⟨i,hi,rfl,hp⟩ X hX
   have hlt:i<l.length:=by omega
   refine hs i hlt X (fun h=>h1 ?_) (fun h=>hX _ ⟨i+1,by omega,rfl,?_⟩)
   . exact List.any_eq_true.mpr ⟨_,List.getElem_mem hlt,h⟩
   . rw[z08 hlt,List.any_append,hp];simp[h]
theorem z7f {τ:Type} {B:(τ->Prop)->τ->Prop} (n:Nat) (p:Nat->Bool) (e:Nat->τ) {KT KF:Prop}
  (hs:∀ i (_:i<n) (X:τ->Prop),(∀ j,j<i->p j=false)->(p i=true->KT)->(p i=false->X (e (i+1)))->B X (e i))
  (hf:∀ X:τ->Prop,KF->B X (e n)) (h1:(∃ i,i<n/\p i=true)->KT) (h2:(∀ i,i<n->p i=false)->KF):z0l B (e 0):=by
 refine z1f (fun k a=>∃ i,i+k=n/\a=e i/\∀ j,j<i->p j=false) ?_ ?_ (n:=n) ⟨0,by omega,rfl,fun j hj=>by omega⟩
 . rintro a ⟨i,hi,rfl,hp⟩ X
   obtain rfl:i=n:=by omega
   exact hf X (h2 hp)
 . rintro k a ⟨i,hi,rfl,hp⟩ X hX
   refine hs i (by omega) X hp (fun h=>h1 ⟨i,by omega,h⟩) (fun h=>hX _ ⟨i+1,by omega,rfl,fun j hj=>?_⟩)
   by_cases hji:j=i
   . subst hji;exact h
   . exact hp j (by omega)
theorem z9d {α τ:Type} {B:(τ->Prop)->τ->Prop} (l:List α) (p:α->Bool) (e:Nat->τ) {KT:Nat->Prop} {KF:Prop}
  (hs:∀ i (h:i<l.length) (X:τ->Prop),(p l[i]=true->KT i)->(p l[i]=false->X (e (i+1)))->B X (e i))
  (hf:∀ X:τ->Prop,KF->B X (e l.length)) (h1:z05 p l<l.length->KT (z05 p l)) (h2:z05 p l=l.length->KF):z0l B (e 0):=by
 refine z1f (fun k a=>∃ i,i+k=l.length/\a=e i/\i<=z05 p l) ?_ ?_ (n:=l.length) ⟨0,by omega,rfl,by omega⟩
 . rintro a ⟨i,hi,rfl,hp⟩ X
   obtain rfl:i=l.length:=by omega
   have:=zhz p l
   exact hf X (h2 (by omega))
 . rintro k a ⟨i,hi,rfl,hp⟩ X hX
   have hlt:i<l.length:=by omega
   refine hs i hlt X (fun h=>?_) (fun h=>hX _ ⟨i+1,by omega,rfl,?_⟩)
   . have:z05 p l=i:=by
      rcases Nat.lt_or_ge i (z05 p l)with h'|h'
      . have:=ze3 hlt h';rw[h]at this;cases this
      . omega
     rw[this]at h1;exact h1 hlt
   . rcases Nat.lt_or_ge i (z05 p l)with h'|h'
     . exact h'
     . have hi':z05 p l=i:=by omega
       have:=zaz (p:=p) (l:=l) (by omega)
       simp only[hi']at this
       rw[this]at h;cases h
theorem zhu {α σ τ:Type} {B:(τ->Prop)->τ->Prop} (l:List α) (g:σ->α->σ) (s0:σ) (e:Nat->σ->τ)
  (hs:∀ i (h:i<l.length) (X:τ->Prop),X (e (i+1) (g ((l.take i).foldl g s0) l[i]))->B X (e i ((l.take i).foldl g s0)))
  (hf:∀ X:τ->Prop,B X (e l.length (l.foldl g s0))):z0l B (e 0 s0):=by
 refine z0x l.length (fun i=>e i ((l.take i).foldl g s0)) (by simp) ?_ ?_
 . intro i hi X hX
   refine hs i hi X ?_
   rw[z08 hi,List.foldl_append]at hX
   exact hX
 . intro X;rw[List.take_length];exact hf X
def zbw {α σ ρ:Type} (g:σ->α->ρ ⊕ σ):List α->σ->ρ ⊕ σ
 |[],s=>.inr s
 | a::l,s=>match g s a with
   |.inl r=>.inl r
   |.inr s'=>zbw g l s'
theorem zf8 {α σ ρ:Type} (g:σ->α->ρ ⊕ σ):∀(l m:List α) (s:σ),zbw g (l++m) s=match zbw g l s with
  |.inl r=>.inl r
  |.inr s'=>zbw g m s'
 |[],m,s=>rfl
 | a::l,m,s=>by
   simp only[List.cons_append,zbw]
   cases g s a with
   |inl r=>rfl
   |inr s'=>exact zf8 g l m s'
theorem zo3 {α σ ρ τ:Type} {B:(τ->Prop)->τ->Prop} (l:List α) (g:σ->α->ρ ⊕ σ) (s0:σ) (e:Nat->σ->τ) {KR:ρ->Prop}
  (hs:∀ i (h:i<l.length) (s:σ) (X:τ->Prop),zbw g (l.take i) s0 = .inr s->(∀ r,g s l[i] = .inl r->KR r)->(∀ s',g s l[i] = .inr s'->X (e (i+1) s'))->B X (e i s))
  (hf:∀(s:σ) (X:τ->Prop),zbw g l s0 = .inr s->B X (e l.length s)) (hR:∀ r,zbw g l s0 = .inl r->KR r):z0l B (e 0 s0):=by
 refine z1f (fun k a=>∃ i s,i+k=l.length/\a=e i s/\zbw g (l.take i) s0 = .inr s) ?_ ?_ (n:=l.length) ⟨0,s0,by omega,rfl,by simp[zbw]⟩
 . rintro a ⟨i,s,hi,rfl,hp⟩ X
   obtain rfl:i=l.length:=by omega
   rw[List.take_length]at hp
   exact hf s X hp
 . rintro k a ⟨i,s,hi,rfl,hp⟩ X hX
   have hlt:i<l.length:=by omega
   refine hs i hlt s X hp (fun r hr=>hR r ?_) (fun s' hs'=>hX _ ⟨i+1,s',by omega,rfl,?_⟩)
   . have hsplit:l=l.take i++l[i]::l.drop (i+1):=by rw[<-z56 hlt,List.take_append_drop]
     rw[hsplit,zf8,hp]
     simp only[zbw,hr]
   . rw[z08 hlt,zf8,hp]
     simp only[zbw,hs']
theorem zmx {α:Type} {d:α} {x:List α} (p:α->Bool) (K:Int->Prop) (P:α->Prop->Prop->Prop) (hP:∀ t∈x,∀ A B:Prop,(p t=true->A)->(p t=false->B)->P t A B)
  (hK:K (if z05 p x<x.length then(z05 p x:Int)else -1)) :
  z0t (x.length:Int) (z0l (fun(again:Int×Unit->Prop) (a:Int×Unit)=>z01 (decide (a.1<(x.length:Int))) ((0<=a.1/\a.1<(x.length:Int))/\P (x.getD (Int.toNat a.1) d) (K a.1) (again (w64 (a.1+(1:Int)),()))) (K (-1))) ((0:Int),())):=by
 refine z0m fun hl=>z9d x p (fun i=>((i:Int),())) (KT:=fun i=>K (i:Int)) (KF:=K (-1)) ?_ ?_ ?_ ?_
 . intro i hi X h1 h2
   refine bcI hi (inI hi ?_)
   simp only
   rw[z2g hi,z06 (by omega)]
   exact hP _ (List.getElem_mem hi) _ _ h1 h2
 . intro X h;exact bcN h
 . intro h;rw[if_pos h]at hK;exact hK
 . intro h;rw[if_neg (by omega)]at hK;exact hK
theorem zkh {α:Type} (p:α->Bool) (x:List α):(decide ((if z05 p x<x.length then(z05 p x:Int)else -1)>=(0:Int)))=x.any p:=by
 by_cases h:z05 p x<x.length
 . rw[if_pos h,firstAt_any.mp h];simp
 . rw[if_neg h]
   have:x.any p=false:=by
    rw[Bool.eq_false_iff];intro h';exact h (firstAt_any.mpr h')
   rw[this];simp
theorem z0d0 {α:Type} {d e:α} (q:α->α->Bool) {x y:List α} (K:Bool->Prop) (P:α->α->Prop->Prop->Prop)
  (hP:∀ t∈x,∀ u∈y,∀ A B:Prop,(q t u=false->A)->(q t u=true->B)->P t u A B) (hK:K (x.length == y.length&&(x.zip y).all fun t=>q t.1 t.2)) (hl:(x.length:Int)<=9223372036854775807) :
  (z01 ((x.length:Int) != (y.length:Int)) (K false) (z0l (fun(again:Int×Unit->Prop) (a:Int×Unit)=>z01 (decide (a.1<(x.length:Int))) ((0<=a.1/\a.1<(x.length:Int))/\((0<=a.1/\a.1<(y.length:Int))/\P (x.getD (Int.toNat a.1) d) (y.getD (Int.toNat a.1) e) (K false) (again (w64 (a.1+(1:Int)),())))) (K true)) ((0:Int),()))):=by
 refine z97 (fun h=>?_) (fun h=>?_)
 . have:(x.length == y.length)=false:=by simp;omega
   rw[this]at hK;exact hK
 . have he:x.length=y.length:=by omega
   refine z7f x.length (fun i=>!(if h:i<x.length then if h':i<y.length then q x[i] y[i] else true else true)) (fun i=>((i:Int),())) (KT:=K false) (KF:=K true) ?_ (fun X h=>bcN h) ?_ ?_
   . intro i hi X _ h1 h2
     have hi':i<y.length:=by omega
     refine bcI hi (inI hi (inI hi' ?_))
     simp only
     rw[z2g hi,z2g hi',z06 (by omega)]
     simp only[hi,hi',dif_pos]at h1 h2
     exact hP _ (List.getElem_mem hi) _ (List.getElem_mem hi') _ _ (fun h=>h1 (by simp[h])) (fun h=>h2 (by simp[h]))
   . rintro⟨i,hi,hp⟩
     have hi':i<y.length:=by omega
     simp only[hi,hi',dif_pos,Bool.not_eq_true']at hp
     have:((x.zip y).all fun t=>q t.1 t.2)=false:=by
      rw[Bool.eq_false_iff]
      intro hall
      have:=List.all_eq_true.mp hall (x[i],y[i]) (by
       have hz:i<(x.zip y).length:=by simp;omega
       have e:(x.zip y)[i]=(x[i],y[i]):=by simp
       rw[<-e];exact List.getElem_mem hz)
      simp[hp]at this
     rw[this,Bool.and_false]at hK;exact hK
   . intro hall
     have:(x.length == y.length&&(x.zip y).all fun t=>q t.1 t.2)=true:=by
      rw[Bool.and_eq_true]
      refine⟨by simp[he],List.all_eq_true.mpr fun t ht=>?_⟩
      obtain⟨i,hz,rfl⟩:=List.mem_iff_getElem.mp ht
      have hi:i<x.length:=by simp at hz;omega
      have hi':i<y.length:=by omega
      have:=hall i hi
      simp only[hi,hi',dif_pos,Bool.not_eq_false']at this
      simpa using this
     rw[this]at hK;exact hK
theorem zt2 {α:Type} [DecidableEq α] (q:α->α->Bool) (hq:∀ a b,q a b=decide (a=b)):∀ x y:List α,(x.length == y.length&&(x.zip y).all fun t=>q t.1 t.2)=decide (x=y)
 |[],[]=>by simp
 |[],b::y=>by simp
 |a::x,[]=>by simp
 | a::x,b::y=>by
   have ih:=zt2 q hq x y
   simp only[List.zip_cons_cons,List.all_cons,List.length_cons]
   by_cases h:a=b
   . subst h
     have:(x.length+1 == y.length+1)=(x.length == y.length):=by by_cases h:x.length=y.length<;>simp[h]
     rw[this,hq]
     simp only[decide_true,Bool.true_and]
     rw[ih];simp
   . rw[hq];simp[h]
end Go.V
namespace Go.V
theorem zqm {α:Type} [BEq α] [LawfulBEq α] [DecidableEq α] {x:α} {l:List α}:(l.any fun t=>x == t)=decide (x∈l):=by
 induction l with
 |nil=>simp
 |cons a l ih=>simp only[List.any_cons,ih,List.mem_cons];by_cases h:x=a<;>simp[h]
end Go.V

