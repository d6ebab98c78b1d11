/-
  Regions whose order is open: what may be taken first.
-/
import Derived.Test.YtfjdciagpcgpkaaGreatDoorVC
import Derived.OrdersHeld
import Derived.Test.YtfjdciagpcgpkaaGreatDoorVB
set_option linter.unusedVariables false
set_option linter.unusedSimpArgs false
namespace Go.V
open Go
section
variable {P:Program} {ops:Array Oper} {Q:Exit→Act→World→Prop} {md:Region.Mode} {S:Array Bool→World→Prop}
def wpAnyS (P:Program) (md:Region.Mode) (ops:Array Oper) (Q:Exit→Act→World→Prop) (S:Array Bool→World→Prop):Nat→Array Bool→Act→World→Prop
 |0,listed,a,w=>Region.ready md ops listed=[]∧Q .normal a w
 | fuel+1,listed,a,w=>
   (Region.ready md ops listed=[]→Q .normal a w)∧
   ∀ i∈Region.ready md ops listed,wpOp P ops Q i (fun a' w'=>S (listed.setIfInBounds i true) w'∧wpAnyS P md ops Q S fuel (listed.setIfInBounds i true) a' w') a w
theorem wpAny_of_S:∀(fuel:Nat) (listed:Array Bool) (a:Act) (w:World),wpAnyS P md ops Q S fuel listed a w→wpAny P md ops Q fuel listed a w
 |0,_,_,_,h=>h
 |fuel+1,_,_,_,h=>⟨h.1,fun i hi=>wpOp_mono (fun a' w' h'=>wpAny_of_S fuel _ a' w' h'.2) (h.2 i hi)⟩
theorem wpAnyS_first {i:Nat} {oi:Oper} {v:Value} {Si:World→Prop} {D:Nat→Prop} (hi:ops[i]? = some oi) (hsel:∀(j:Nat) (o:Oper) cs b,ops[j]? = some o→o.op≠.select cs b)
  (hQ:∀ c a w,Q (.panic c) (a.put oi.dst v) w→Q (.panic c) a w)
  (hD:∀ j o,ops[j]? = some o→D j→∃ e∈o.after,Region.binds md e=true∧(e.on=i∨D e.on))
  (hSi:∀ L w',(∀ j,D j→L.getD j false=false)→S L w'→Si w') (hSm:∀ L w',(∀ j,D j→L.getD j false=false)→S (L.setIfInBounds i true) w'→S L w') :
  ∀(fuel:Nat) (listed:Array Bool) (a:Act) (w:World),
   (∀ j oj,ops[j]? = some oj→j≠i→listed.getD j true=false→(∀ e∈oj.after,Region.binds md e=true→e.on≠i)→oi.apart ops oj=true)→
   i∈Region.ready md ops listed→(∀ j,D j→listed.getD j false=false)→YieldsIf P ops Si oi v a→Si w→S (listed.setIfInBounds i true) w→
   wpAnyS P md ops Q S fuel (listed.setIfInBounds i true) (a.put oi.dst v) w→wpAnyS P md ops Q S (fuel+1) listed a w:=by
 intro fuel
 induction fuel with
 | zero=>
   intro listed a w hfree hr hd hy hS hS' H
   refine⟨fun h=>(by rw[h]at hr;cases hr),fun j hj=>?_⟩
   by_cases hji:j=i
   · subst hji;exact hy.wpOp hi hS ⟨hS',H⟩
   · have:=ready_mono hj hji
     rw[H.1]at this
     cases this
 | succ fuel ih=>
   intro listed a w hfree hr hd hy hS hS' H
   refine⟨fun h=>(by rw[h]at hr;cases hr),fun j hj=>?_⟩
   by_cases hji:j=i
   · subst hji;exact hy.wpOp hi hS ⟨hS',H⟩
   · have h1:=H.2 j (ready_mono hj hji)
     obtain⟨hjun,oj,hoj,hall⟩:=mem_ready.1 hj
     have hiun:listed.getD i true=false:=(mem_ready.1 hr).1
     have hifalse:listed.getD i false=false:=by
      rcases Nat.lt_or_ge i listed.size with h'|h'
      · simp[h']at hiun ⊢;exact hiun
      · simp[Array.getElem?_eq_none h']
     have hnot:∀ e∈oj.after,Region.binds md e=true→e.on≠i:=fun e he hb heq=>by
      have h1:=hall e he hb
      rw[heq,hifalse]at h1
      cases h1
     have hDj:¬ D j:=by
      intro hDj
      obtain⟨e,he,hb,h'⟩:=hD j oj hoj hDj
      rcases h' with h'|h'
      · exact hnot e he hb h'
      · have:=hall e he hb;rw[hd _ h']at this;cases this
     have hd':∀ k,D k→(listed.setIfInBounds j true).getD k false=false:=by
      intro k hk
      have hjk:j≠k:=by rintro rfl;exact hDj hk
      rw[getD_set_ne false hjk];exact hd k hk
     have h2:=wpOp_putIf hoj (hfree j oj hoj hji hjun hnot) (fun cs b=>hsel i oi cs b hi) (fun cs b=>hsel j oj cs b hoj) hQ hy h1
     have hfree':∀ k ok,ops[k]? = some ok→k≠i→(listed.setIfInBounds j true).getD k true=false→
       (∀ e∈ok.after,Region.binds md e=true→e.on≠i)→oi.apart ops ok=true:=fun k ok hk hki hun hno=>by
      refine hfree k ok hk hki ?_ hno
      by_cases hjk:j=k
      · subst hjk;exact hjun
      · rw[getD_set_ne true hjk]at hun;exact hun
     refine wpOp_mono (fun a' w' h3=>?_) h2
     obtain⟨h3,h4,h5⟩:=h3
     rw[Array.setIfInBounds_comm _ _ (Ne.symm hji)]at h4 h5
     have h6:=hSm _ w' hd' h4
     exact⟨h6,ih (listed.setIfInBounds j true) a' w' hfree' (ready_mono hr (Ne.symm hji)) hd' h3 (hSi _ w' hd' h6) h4 h5⟩
end
end Go.V
namespace Go.V
open Go
theorem mem_delKeys {pk:List Nat} {k:Nat} {r:Root}:∀ {l:List (Nat×Root)},(k,r)∈delKeys pk l↔(k,r)∈l∧k∉pk:=by
 intro l
 induction l with
 |nil=>simp[delKeys]
 | cons q l ih=>
   obtain⟨j,u⟩:=q
   simp only[delKeys]
   cases hm:memN j pk with
   | true=>
     simp only[ih,List.mem_cons,Prod.mk.injEq]
     have:=memN_iff.mp hm
     constructor
     · rintro⟨h1,h2⟩;exact⟨.inr h1,h2⟩
     · rintro⟨⟨rfl,rfl⟩|h1,h2⟩
       · exact absurd this h2
       · exact⟨h1,h2⟩
   | false=>
     simp only[List.mem_cons,Prod.mk.injEq,ih]
     have:j∉pk:=by rw[←memN_iff,hm];simp
     constructor
     · rintro (⟨rfl,rfl⟩|⟨h1,h2⟩)
       · exact⟨.inl ⟨rfl,rfl⟩,this⟩
       · exact⟨.inr h1,h2⟩
     · rintro⟨⟨rfl,rfl⟩|h1,h2⟩
       · exact .inl ⟨rfl,rfl⟩
       · exact .inr ⟨h1,h2⟩
theorem delKeys_sub (pk:List Nat) (l:List (Nat×Root)):(delKeys pk l).Sublist l:=by
 induction l with
 |nil=>exact List.Sublist.refl _
 | cons q l ih=>
   obtain⟨j,u⟩:=q
   simp only[delKeys]
   split
   · exact ih.cons _
   · exact ih.cons_cons _
theorem constsR_spec {s:St}:∀ {pk:List Nat} {cr:List (Nat×Root)},constsR s pk=some cr→cr.map (·.1)=pk∧∀ k r,(k,r)∈cr→look k s.roots=some r:=by
 intro pk
 induction pk with
 |nil=>intro cr h;simp only[constsR,Option.some.injEq]at h;subst h;simp
 | cons k pk ih=>
   intro cr h
   simp only[constsR]at h
   split at h
   · rename_i r rs h1 h2
     simp only[Option.some.injEq]at h
     subst h
     obtain⟨g1,g2⟩:=ih h2
     refine⟨by simp[g1],fun j u hj=>?_⟩
     rcases List.mem_cons.mp hj with hj|hj
     · cases hj;exact h1
     · exact g2 j u hj
   · simp at h
theorem consts_perm {s:St} {pk:List Nat} {cr:List (Nat×Root)} (h:constsR s pk=some cr) (hn:pk.Nodup) (hk:(s.roots.map (·.1)).Nodup):s.roots.Perm (delKeys pk s.roots++cr):=by
 obtain⟨g1,g2⟩:=constsR_spec h
 refine(List.perm_ext_iff_of_nodup (nodup_of_keys hk) ?_).mpr ?_
 · refine List.nodup_append.mpr ⟨List.Nodup.sublist (delKeys_sub _ _) (nodup_of_keys hk),nodup_of_keys (by rw[g1];exact hn),?_⟩
   rintro⟨k,r⟩ h1 _ h2 rfl
   exact(mem_delKeys.mp h1).2 (by rw[←g1];exact List.mem_map.mpr ⟨_,h2,rfl⟩)
 · rintro⟨k,r⟩
   rw[List.mem_append,mem_delKeys]
   constructor
   · intro h1
     by_cases hm:k∈pk
     · right
       rw[←g1]at hm
       obtain⟨⟨j,u⟩,h2,rfl⟩:=List.mem_map.mp hm
       have:=g2 _ _ h2
       rw[mem_look hk h1]at this
       cases this;exact h2
     · exact .inl ⟨h1,hm⟩
   · rintro (⟨h1,_⟩|h1)
     · exact h1
     · exact look_mem (g2 _ _ h1)
theorem fz_congr {X X':Fr} {w:World} {l l':List Nat} (hz:X'.z=X.z) (hl:∀ b,b∈l'↔b∈l):fzOf X' w l'=fzOf X w l:=by
 funext b
 apply propext
 constructor
 · rintro⟨h1,h2,h3⟩;exact⟨h1,fun hm=>h2 ((hl b).mpr hm),by rw[←hz];exact h3⟩
 · rintro⟨h1,h2,h3⟩;exact⟨h1,fun hm=>h2 ((hl b).mp hm),by rw[hz];exact h3⟩
theorem getR_congr {C s C' s':St} (hk:((s.roots++C.roots).map (·.1)).Nodup) (hp:(s'.roots++C'.roots).Perm (s.roots++C.roots)):getR C' s'=getR C s:=by
 have hk':((s'.roots++C'.roots).map (·.1)).Nodup:=(hp.map _).nodup_iff.mpr hk
 funext k
 apply Option.ext
 intro r
 rw[mem_getR hk,mem_getR hk',hp.mem_iff]
section
variable {C s C' s':St} {X X':Fr} {w0 w0' w:World} {a:Act} {rc:Nat→RC}
theorem Rel.turn (h:Rel rc [] C s X w0 a w) (hp:(s'.roots++C'.roots).Perm (s.roots++C.roots)) (ht:s'.tmps=s.tmps) (hct:C'.tmps=C.tmps) (hz:X'.z=X.z) (hn:X'.n=X.n)
  (hb:∀ b∈allB rc (s.roots++C.roots),w0'.heap.size≤b∨b∈X'.x) (he:Ext X'.x w0' w)
  (hic:X'.ic=X.ic) (hib:X'.ib=X.ib) (hzo:(∀ b,w0'.heap.size≤b→X'.z b)∧∀ b∈X'.x,X'.z b) (hc:∀ k b,X'.c k b→(∃ r,(k,r)∈C'.roots∧b∈blocks r (rc k))∧w.heap[b]? = w0'.heap[b]?) :
  Rel rc [] C' s' X' w0' a w:=by
 have hP:(allB rc (s'.roots++C'.roots)).Perm (allB rc (s.roots++C.roots)):=allB_perm hp
 have hfz:fzOf X' w ([]++allB rc (s'.roots++C'.roots))=fzOf X w ([]++allB rc (s.roots++C.roots)):=fz_congr hz fun b=>by simpa using hP.mem_iff
 have hR:getR C' s'=getR C s:=getR_congr h.keys hp
 refine⟨(hp.map _).nodup_iff.mpr h.keys,?_,?_,?_,by rw[ht];exact h.tn,?_,?_,he,h.nd,hzo,hc,by rw[hn];exact h.tsz,fun k r hk=>by rw[hic,hib];exact h.inn k r (hp.mem_iff.mp hk)⟩
 · simpa using hP.nodup_iff.mpr (by simpa using h.excl)
 · intro b hb'
   have hm:b∈allB rc (s.roots++C.roots):=hP.mem_iff.mp (by simpa using hb')
   exact⟨(h.bnd b (by simpa using hm)).1,hb b hm⟩
 · intro k r hk;rw[hfz];exact h.roots k r (hp.mem_iff.mp hk)
 · intro t v htv;rw[hct];exact h.td t v (by rw[←ht];exact htv)
 · intro t v htv
   rw[hfz,hR]
   exact h.tm t v (by rw[←ht,←hct];exact htv)
def innerFr (X:Fr) (rc:Nat→RC) (C s:St) (cr:List (Nat×Root)):Fr:=
 ⟨allB rc (s.roots++C.roots),X.z,fun k b=>∃ r,(k,r)∈cr++C.roots∧b∈blocks r (rc k),X.n,X.ic,X.ib⟩
theorem Ext.refl' (l:List Nat) (w:World):Ext l w w:=⟨rfl,rfl,rfl,Nat.le_refl _,fun _ _ _=>rfl,Nat.le_refl _⟩
theorem Rel.into (h:Rel rc [] C s X w0 a w) {pk:List Nat} {cr:List (Nat×Root)} (hc:constsR s pk=some cr) (hn:pk.Nodup) :
  Rel rc [] ⟨C.tmps,cr++C.roots⟩ ⟨s.tmps,delKeys pk s.roots⟩ (innerFr X rc C s cr) w a w:=by
 have hk:(s.roots.map (·.1)).Nodup:=by have:=h.keys;rw[List.map_append]at this;exact(List.nodup_append.mp this).1
 have hp:(delKeys pk s.roots++(cr++C.roots)).Perm (s.roots++C.roots):=by
  rw[←List.append_assoc];exact(consts_perm hc hn hk).symm.append_right _
 refine h.turn (s':=⟨s.tmps,delKeys pk s.roots⟩) (C':=⟨C.tmps,cr++C.roots⟩) hp rfl rfl rfl rfl (fun b hb=>.inr hb) (Ext.refl' _ _) rfl rfl ⟨fun b hb=>h.zok.1 b (Nat.le_trans h.ext.size hb),fun b hb=>?_⟩ ?_
 · exact(h.bnd b (by simpa [innerFr]using hb)).2.elim (h.zok.1 b) (h.zok.2 b)
 · rintro k b ⟨r,h1,h2⟩;exact⟨⟨r,h1,h2⟩,rfl⟩
end
end Go.V
namespace Go.V
open Go
section
variable {P:Program} {E:Env} {C s:St} {X:Fr} {w0 w:World} {a:Act} {rc:Nat→RC} {o:Oper} {ops:Array Oper} {K:St→Prop} {Q:Exit→Act→World→Prop}
theorem put_same {t:Nat} {c:Value} (h:a.tmps[t]? = some c):a.put (some t) c=a:=by
 obtain⟨tm,df⟩:=a
 have:tm.setIfInBounds t c=tm:=by
  have h1:t<tm.size:=by
   rcases Nat.lt_or_ge t tm.size with h'|h'
   · exact h'
   · simp[Array.getElem?_eq_none h']at h
  have h2:tm[t]=c:=by simpa [h1]using h
  apply Array.ext'
  rw[Array.toList_setIfInBounds,←h2]
  exact(List.set_getElem_self (as:=tm.toList) (i:=t) (h:=by simpa using h1))
 simp[Act.put,this]
theorem put_roots {d:Nat} {v:Val} {s1:St} (h:put C s d v=some s1):s1.roots=s.roots:=by
 unfold put at h
 split at h
 · cases h;rfl
 · simp at h
theorem put_keys {t:Nat} {b:Bool} {s1:St} (h:put C s t (.t .bool .z b)=some s1):∀ x v,evalV C s1 none x=some v→evalV C s none x=some v∨keys v=[]:=by
 have e:s1=⟨upd t (.t .bool .z b) s.tmps,s.roots⟩:=by
  unfold put at h
  split at h
  · cases h;rfl
  · simp at h
 subst e
 intro x v hv
 cases x with
 | tmp j=>
   have hv:(match look j (upd t (.t .bool .z b) s.tmps)with|some v=>some v|none=>look j C.tmps)=some v:=hv
   rw[look_upd]at hv
   by_cases hj:j=t
   · rw[if_pos hj]at hv
     cases hv
     exact .inr rfl
   · rw[if_neg hj]at hv
     exact .inl hv
 |const c=>exact .inl hv
 |func f=>exact .inl hv
 |global g=>exact .inl hv
theorem Rel.reput (h:Rel rc [] C s X w0 a w) {t:Nat} {v:Val} {c:Value} {s1:St} (hp:Go.V.put C s t v=some s1) (hc:a.tmps[t]? = some c)
  (hv:VOk w (fzOf X w ([]++allB rc (s.roots++C.roots))) (getR C s) rc v c):Rel rc [] C s1 X w0 a w:=by
 have hd:t<a.tmps.size:=by
  rcases Nat.lt_or_ge t a.tmps.size with h'|h'
  · exact h'
  · simp[Array.getElem?_eq_none h']at hc
 have:=h.put hv hp hd
 rwa [put_same hc]at this
theorem dstOf_toList (j:Nat):dstOf ops.toList j=(ops[j]?).bind (·.dst):=by
 unfold dstOf
 rw[Array.getElem?_toList]
 cases ops[j]?<;>rfl
theorem opM_cases (h:Rel rc [] C s X w0 a w) (hk:opM E C ops.toList o s K) :
  (Region.wanted o (yielded ops a.tmps)=true∧∃ s1,s1.roots=s.roots∧(∀ x v,evalV C s1 none x=some v→evalV C s none x=some v∨keys v=[])∧Rel rc [] C s1 X w0 a w∧(opV E C o (o.dst.getD 999) s1).bind (putM C o.dst) K)∨
  (Region.wanted o (yielded ops a.tmps)=false∧∃ s1,s1.roots=s.roots∧Rel rc [] C s1 X w0 a w∧skipM C o.dst s1 K):=by
 unfold opM at hk
 cases hg:o.guard with
 | none=>
   rw[hg]at hk
   exact .inl ⟨by simp[Region.wanted,hg],s,rfl,fun _ _ h=>.inl h,h,hk⟩
 | some q=>
   obtain⟨j,want⟩:=q
   rw[hg]at hk
   simp only at hk
   cases hd:dstOf ops.toList j with
   |none=>rw[hd]at hk;exact hk.elim
   | some t=>
     rw[hd]at hk
     simp only[Option.bind_some]at hk
     cases hv:getT C s t with
     |none=>rw[hv]at hk;exact hk.elim
     | some v=>
       rw[hv]at hk
       simp only[Option.map_some]at hk
       cases v with
       | t sh oo b=>
         cases sh<;>try (exact hk.elim)
         cases oo<;>try (exact hk.elim)
         obtain⟨c,hc,hvo⟩:=h.getT hv
         obtain⟨b,rfl⟩:∃ b':Bool,b'=b:=⟨b,rfl⟩
         have hcb:=VOk.bool hvo
         subst hcb
         have hy:yielded ops a.tmps j=some b:=by
          unfold yielded
          rw[←dstOf_toList,hd]
          simp[hc]
         have hw:Region.wanted o (yielded ops a.tmps)=(some b == some want):=by simp[Region.wanted,hg,hy]
         rw[hw]
         simp only at hk
         cases b with
         | true=>
           simp only[bcase]at hk
           cases hp:put C s t (.t .bool .z true)with
           |none=>rw[hp]at hk;exact hk.elim
           | some s1=>
             rw[hp]at hk
             simp only at hk
             have h1:=h.reput hp hc vok_bool
             cases want with
             |true=>exact .inl ⟨rfl,s1,put_roots hp,put_keys hp,h1,hk⟩
             |false=>exact .inr ⟨rfl,s1,put_roots hp,h1,hk⟩
         | false=>
           simp only[bcase]at hk
           cases hp:put C s t (.t .bool .z false)with
           |none=>rw[hp]at hk;exact hk.elim
           | some s1=>
             rw[hp]at hk
             simp only at hk
             have h1:=h.reput hp hc vok_bool
             cases want with
             |true=>exact .inr ⟨rfl,s1,put_roots hp,h1,hk⟩
             |false=>exact .inl ⟨rfl,s1,put_roots hp,put_keys hp,h1,hk⟩
       | tnil=>
         obtain⟨c,hc,rfl⟩:=h.getT hv
         have hy:yielded ops a.tmps j=none:=by
          unfold yielded
          rw[←dstOf_toList,hd]
          simp[hc]
         exact .inr ⟨by simp[Region.wanted,hg,hy],s,rfl,h,hk⟩
       |_=>exact hk.elim
theorem skipM_ok (h:Rel rc [] C s X w0 a w) {d:Option Tmp} (hd:∀ t,d=some t→t<X.n) (hk:skipM C d s K):∃ s1,K s1∧s1.roots=s.roots∧Rel rc [] C s1 X w0 (a.put d undef) w:=by
 cases d with
 |none=>exact⟨s,hk,rfl,h⟩
 | some t=>
   simp only[skipM]at hk
   cases hp:put C s t .tnil with
   |none=>rw[hp]at hk;exact hk.elim
   | some s1=>
     rw[hp]at hk
     exact⟨s1,hk,put_roots hp,h.put (v:=.tnil) rfl hp (by rw[h.tsz];exact hd t rfl)⟩
theorem putM_ok {a:Act} (h:Rel rc [] C s X w0 a w) {d:Option Tmp} (hd:∀ t,d=some t→t<X.n) {v:Val} {c:Value} (hv:VOk w (fzOf X w ([]++allB rc (s.roots++C.roots))) (getR C s) rc v c) (hk:putM C d (v,s) K) :
  ∃ s1,K s1∧s1.roots=s.roots∧Rel rc [] C s1 X w0 (a.put d c) w:=by
 cases d with
 |none=>exact⟨s,hk,rfl,h⟩
 | some t=>
   simp only[putM]at hk
   cases hp:put C s t v with
   |none=>rw[hp]at hk;exact hk.elim
   | some s1=>
     rw[hp]at hk
     exact⟨s1,hk,put_roots hp,h.put hv hp (by rw[h.tsz];exact hd t rfl)⟩
theorem opM_any (hE:∀ t s,E.sh t=some s→ShOk P s none t) (hG:∀ f us rs outs,E.gives f us rs outs→GivesS P f us rs outs) (h:Rel rc [] C s X w0 a w) {i:Nat} (hi:ops[i]? = some o)
  (hd:∀ t,o.dst=some t→t<X.n) (hk:opM E C ops.toList o s K):wpOp P ops Q i (fun a' w'=>∃ c s1 rc1,a'=a.put o.dst c∧K s1∧Rel rc1 [] C s1 X w0 a' w') a w:=by
 unfold wpOp
 rw[hi]
 simp only
 rcases opM_cases h hk with⟨hw,s1,_,_,h1,hk⟩|⟨hw,s1,_,h1,hk⟩
 · rw[hw]
   simp only[if_true]
   refine .inl ((opV_ok hE hG h1 hk).wp fun c w' hp=>?_)
   obtain⟨v,s2,rc1,hk2,h2,hv⟩:=hp
   obtain⟨s3,hk3,_,h3⟩:=putM_ok h2 hd hv hk2
   exact⟨c,s3,rc1,rfl,hk3,h3⟩
 · rw[hw]
   simp only[Bool.false_eq_true,if_false]
   obtain⟨s2,hk2,_,h2⟩:=skipM_ok h1 hd hk
   exact⟨undef,s2,rc,rfl,hk2,h2⟩
theorem opM_tmp (hE:∀ t s,E.sh t=some s→ShOk P s none t) (h:Rel rc [] C s X w0 a w) (hd:∀ t,o.dst=some t→t<X.n) (ht:tmpOp o.op=true) (hk:opM E C ops.toList o s K) :
  ∃ c s1,YieldsIf P ops (fun _=>True) o c a∧K s1∧s1.roots=s.roots∧Rel rc [] C s1 X w0 (a.put o.dst c) w:=by
 rcases opM_cases h hk with⟨hw,s1,hr,_,h1,hk⟩|⟨hw,s1,hr,h1,hk⟩
 · obtain⟨c,v,g1,g2,g3⟩:=tmp_ok hE h1 ht hk
   obtain⟨s2,k1,k2,k3⟩:=putM_ok h1 hd g3 g2
   exact⟨c,s2,.inl ⟨hw,g1⟩,k1,k2.trans hr,k3⟩
 · obtain⟨s2,k1,k2,k3⟩:=skipM_ok h1 hd hk
   exact⟨undef,s2,.inr ⟨hw,rfl⟩,k1,k2.trans hr,k3⟩
theorem opM_mem (hE:∀ t s,E.sh t=some s→ShOk P s none t) (h:Rel rc [] C s X w0 a w) (hd:∀ t,o.dst=some t→t<X.n) {x:Operand} (ht:memOp o.op=some x) (hk:opM E C ops.toList o s K)
  {F:Nat→Prop} (hF:∀ b,fzOf X w ([]++allB rc (s.roots++C.roots)) b→F b)
  (hF2:∀ v,evalV C s none x=some v→∀ k∈keys v,∀ r,getR C s k=some r→∀ b∈blocks r (rc k),F b) :
  ∃ c s1,YieldsIf P ops (fun w'=>∀ b,F b→w'.heap[b]? = w.heap[b]?) o c a∧K s1∧s1.roots=s.roots∧Rel rc [] C s1 X w0 (a.put o.dst c) w:=by
 rcases opM_cases h hk with⟨hw,s1,hr,hkey,h1,hk⟩|⟨hw,s1,hr,h1,hk⟩
 · have hR:getR C s1=getR C s:=by funext k;unfold getR;rw[hr]
   obtain⟨c,v,g1,g2,g3⟩:=mem_ok hE h1 ht hk (F:=F) (by rw[hr];exact hF) (fun v hv k hkv r hgr b hb=>by
    rcases hkey x v hv with hv|hv
    · exact hF2 v hv k hkv r (by rw[←hR];exact hgr) b hb
    · rw[hv]at hkv;simp at hkv)
   obtain⟨s2,k1,k2,k3⟩:=putM_ok h1 hd g3 g2
   exact⟨c,s2,.inl ⟨hw,g1⟩,k1,k2.trans hr,k3⟩
 · obtain⟨s2,k1,k2,k3⟩:=skipM_ok h1 hd hk
   exact⟨undef,s2,.inr ⟨hw,rfl⟩,k1,k2.trans hr,k3⟩
theorem stepM_any (hE:∀ t s,E.sh t=some s→ShOk P s none t) (hG:∀ f us rs outs,E.gives f us rs outs→GivesS P f us rs outs) (h:Rel rc [] C s X w0 a w) {i:Nat} (hi:ops[i]? = some o)
  (hd:∀ t,o.dst=some t→t<X.n) (hk:stepM E C ops.toList o s K):wpOp P ops Q i (fun a' w'=>∃ c s1 rc1,a'=a.put o.dst c∧K s1∧Rel rc1 [] C s1 X w0 a' w') a w:=by
 unfold stepM at hk
 cases hm:mdLoad E C o (o.dst.getD 999) s with
 | some m=>
   rw[hm]at hk
   unfold wpOp
   rw[hi]
   simp only
   obtain⟨hg,hr⟩:=mdLoad_ok (K:=fun x=>putM C o.dst x K) hE h hm hk
   have hw:Region.wanted o (yielded ops a.tmps)=true:=by simp[Region.wanted,hg]
   rw[hw]
   simp only[if_true]
   refine .inl (hr.wp fun c w' hp=>?_)
   obtain⟨v,s2,rc1,hk2,h2,hv⟩:=hp
   obtain⟨s3,hk3,_,h3⟩:=putM_ok h2 hd hv hk2
   exact⟨c,s3,rc1,rfl,hk3,h3⟩
 | none=>
   rw[hm]at hk
   exact opM_any hE hG h hi hd hk
theorem opsM_ok (hE:∀ t s,E.sh t=some s→ShOk P s none t) (hG:∀ f us rs outs,E.gives f us rs outs→GivesS P f us rs outs) (hd:∀ o∈ops.toList,∀ t,o.dst=some t→t<X.n) :
  ∀ {l:List Nat} {s:St} {a:Act} {w:World} {rc:Nat→RC},Rel rc [] C s X w0 a w→opsM E C ops.toList l s K→(∀ s1 rc1 a1 w1,K s1→Rel rc1 [] C s1 X w0 a1 w1→Q .normal a1 w1)→wpOps P ops Q l a w:=by
 intro l
 induction l with
 |nil=>intro s a w rc h hk hQ;exact hQ s rc a w hk h
 | cons i l ih=>
   intro s a w rc h hk hQ
   rw[wpOps_cons]
   simp only[opsM,Array.getElem?_toList]at hk
   cases hi:ops[i]? with
   |none=>rw[hi]at hk;exact hk.elim
   | some o=>
     rw[hi]at hk
     refine wpOp_mono ?_ (stepM_any hE hG h hi (hd o (Array.mem_toList_iff.mpr (Array.mem_of_getElem? hi))) hk)
     rintro a' w' ⟨_,s1,rc1,_,k1,k2⟩
     exact ih k2 k1 hQ
theorem countUp_eq:∀(n i:Nat),countUp i n=List.range' i n:=by
 intro n
 induction n with
 |zero=>intro i;rfl
 |succ n ih=>intro i;simp[countUp,ih,List.range'_succ]
end
end Go.V
namespace Go.V
open Go
theorem readyP_eq (ops:Array Oper) (L:Array Bool):readyP ops L=Region.ready .any ops L:=rfl
theorem freeP_eq (ops:Array Oper) (L:Array Bool) (i:Nat):freeP ops L i=Region.free .any ops L i:=rfl
theorem deps_pre (i:Nat):∀(l:List Oper) (acc:List Bool),∃ r,deps i l acc=acc++r:=by
 intro l
 induction l with
 |nil=>intro acc;exact⟨[],by simp[deps]⟩
 |cons o l ih=>intro acc;obtain⟨r,h⟩:=ih (acc++[o.after.toList.any fun e=>Region.binds .any e&&(Nat.beq e.on i||acc.getD e.on false)]);exact⟨_,by rw[deps,h,List.append_assoc]⟩
theorem deps_spec (i:Nat):∀(l:List Oper) (acc:List Bool) (k:Nat) (o:Oper),l[k]? = some o→(deps i l acc).getD (acc.length+k) false=true→
  ∃ e∈o.after,Region.binds .any e=true∧(e.on=i∨(e.on<acc.length+k∧(deps i l acc).getD e.on false=true)):=by
 intro l
 induction l with
 |nil=>intro acc k o h;simp at h
 | cons q l ih=>
   intro acc k o h hd
   cases k with
   | zero=>
     simp only[List.getElem?_cons_zero,Option.some.injEq]at h
     subst h
     rw[deps]at hd ⊢
     obtain⟨r,hr⟩:=deps_pre i l (acc++[q.after.toList.any fun e=>Region.binds .any e&&(Nat.beq e.on i||acc.getD e.on false)])
     rw[hr]at hd ⊢
     simp only[Nat.add_zero,List.getD_eq_getElem?_getD,List.append_assoc,List.getElem?_append_right (Nat.le_refl _),Nat.sub_self,List.cons_append,List.getElem?_cons_zero,Option.getD_some]at hd
     obtain⟨e,he,hb⟩:=List.any_eq_true.mp hd
     rw[Bool.and_eq_true,Bool.or_eq_true]at hb
     refine⟨e,Array.mem_toList_iff.mp he,hb.1,?_⟩
     rcases hb.2 with h'|h'
     · exact .inl (Nat.eq_of_beq_eq_true h')
     · right
       have hlt:e.on<acc.length:=by
        rcases Nat.lt_or_ge e.on acc.length with h2|h2
        · exact h2
        · simp[List.getElem?_eq_none h2]at h'
       refine⟨by omega,?_⟩
       rw[List.append_assoc,List.getD_eq_getElem?_getD,List.getElem?_append_left hlt]
       exact h'
   | succ k=>
     simp only[List.getElem?_cons_succ]at h
     rw[deps]at hd ⊢
     have:=ih (acc++[q.after.toList.any fun e=>Region.binds .any e&&(Nat.beq e.on i||acc.getD e.on false)]) k o h
     simp only[List.length_append,List.length_cons,List.length_nil,Nat.zero_add,Nat.add_assoc,Nat.add_comm 1 k]at this
     exact this hd
section
variable {P:Program} {E:Env} {ops:Array Oper} {Q:Exit→Act→World→Prop}
def Dep (ops:Array Oper) (i j:Nat):Prop:=(deps i ops.toList []).getD j false=true
theorem Dep.spec {i j:Nat} {o:Oper} (ho:ops[j]? = some o) (h:Dep ops i j):∃ e∈o.after,Region.binds .any e=true∧(e.on=i∨(e.on<j∧Dep ops i e.on)):=by
 have:=deps_spec i ops.toList [] j o (by rw[Array.getElem?_toList];exact ho)
 simp only[List.length_nil,Nat.zero_add]at this
 exact this h
theorem deps_len (i:Nat):∀(l:List Oper) (acc:List Bool),(deps i l acc).length=acc.length+l.length:=by
 intro l
 induction l with
 |nil=>intro acc;simp[deps]
 |cons o l ih=>intro acc;rw[deps,ih];simp;omega
theorem Dep.lt {i j:Nat} (h:Dep ops i j):j<ops.size:=by
 unfold Dep at h
 rcases Nat.lt_or_ge j ops.size with h'|h'
 · exact h'
 · have:=deps_len i ops.toList []
   simp only[List.length_nil,Nat.zero_add,Array.length_toList]at this
   rw[List.getD_eq_getElem?_getD,List.getElem?_eq_none (by omega)]at h;simp at h
def Closed (ops:Array Oper) (L:Array Bool):Prop:=L.size=ops.size∧∀ j o,L.getD j false=true→ops[j]? = some o→∀ e∈o.after,Region.binds .any e=true→L.getD e.on false=true
theorem getD_ft {L:Array Bool} {j:Nat} (h:L.getD j true=false):L.getD j false=false:=by
 rcases Nat.lt_or_ge j L.size with h'|h'
 · simp[h']at h ⊢;exact h
 · simp[Array.getElem?_eq_none h']
theorem getD_size {L:Array Bool} {j:Nat} (h:L.getD j true=false):j<L.size:=by
 rcases Nat.lt_or_ge j L.size with h'|h'
 · exact h'
 · simp[Array.getElem?_eq_none h']at h
theorem Dep.unlisted {L:Array Bool} (hc:Closed ops L) {i:Nat} (hi:L.getD i true=false):∀(j:Nat),Dep ops i j→L.getD j false=false:=by
 intro j
 induction j using Nat.strongRecOn with
 | _ j ih=>
   intro h
   cases hl:L.getD j false with
   |false=>rfl
   | true=>
     have hlt:=h.lt
     obtain⟨e,he,hb,h'⟩:=h.spec (o:=ops[j]) (by simp[hlt])
     have:=hc.2 j ops[j] hl (by simp[hlt]) e he hb
     rcases h' with rfl|⟨h1,h2⟩
     · rw[getD_ft hi]at this;cases this
     · rw[ih _ h1 h2]at this;cases this
theorem Closed.add {L:Array Bool} (hc:Closed ops L) {i:Nat} (hi:i∈Region.ready .any ops L):Closed ops (L.setIfInBounds i true)∧(L.setIfInBounds i true).getD i false=true:=by
 obtain⟨h0,o,ho,ha⟩:=mem_ready.1 hi
 have hs:=getD_size h0
 refine⟨⟨by simp[hc.1],fun j o' hj ho' e he hb=>?_⟩,by simp[hs]⟩
 by_cases hij:i=j
 · subst hij
   rw[ho]at ho';cases ho'
   exact getD_set_true (ha e he hb)
 · rw[getD_set_ne false hij]at hj
   exact getD_set_true (hc.2 j o' hj ho' e he hb)
def plOps:Pl→List Nat
 |.nil=>[]
 |.op i r=>i::plOps r
 |.mem i r=>i::plOps r
 |.chk _ b r=>plOps b++plOps r
 |.late _ r=>plOps r
 |.now _ r=>plOps r
 |.soft _ _ r=>plOps r
 |.frz _ r=>plOps r
 |.drain _ r=>plOps r
 |.skip i r=>i::plOps r
 |.br _ a b=>plOps a++plOps b
 |.memL i _ _ _ r=>i::plOps r
theorem only_eq {i:Nat} {l:List Nat} (h:only i l=true):l=[i]:=by
 unfold only at h
 split at h
 · rw[Nat.eq_of_beq_eq_true h]
 · simp at h
theorem mem_remN {i k:Nat}:∀ {l:List Nat},k∈remN i l↔k∈l∧k≠i:=by
 intro l
 induction l with
 |nil=>simp[remN]
 | cons j l ih=>
   simp only[remN]
   split
   · rename_i hj
     have:=Nat.eq_of_beq_eq_true hj
     subst this
     rw[ih,List.mem_cons]
     exact⟨fun⟨h1,h2⟩=>⟨.inr h1,h2⟩,fun⟨h1,h2⟩=>⟨h1.resolve_left h2,h2⟩⟩
   · rename_i hj
     have hne:j≠i:=fun h=>by rw[h,Nat.beq_refl]at hj;cases hj
     rw[List.mem_cons,List.mem_cons,ih]
     constructor
     · rintro (rfl|⟨h1,h2⟩)
       · exact⟨.inl rfl,hne⟩
       · exact⟨.inr h1,h2⟩
     · rintro⟨rfl|h1,h2⟩
       · exact .inl rfl
       · exact .inr ⟨h1,h2⟩
theorem noneIn_spec {o:Oper} {G:List Nat} (h:noneIn o G=true):∀ e∈o.after,Region.binds .any e=true→e.on∉G:=by
 intro e he hb hm
 have:=List.all_eq_true.mp h e (Array.mem_toList_iff.mpr he)
 rw[hb,memN_iff.mpr hm]at this
 cases this
theorem apG_spec {o:Oper} {G:List Nat} (h:apG ops o G=true) {k:Nat} {ok:Oper} (hk:k∈G) (ho:ops[k]? = some ok):o.apart ops ok=true:=by
 have:=List.all_eq_true.mp h k hk
 rw[ho]at this
 exact this
theorem wrOk_spec {i:Nat} {o:Oper} {L:Array Bool} {G:List Nat} (h:wrOk ops i o L G=true) {j:Nat} {oj:Oper} {t:Nat} (hj:ops[j]? = some oj) (hji:j≠i) (hl:L.getD j false=false∨j∈G) (ht:oj.dst=some t) :
  t∉o.looksAt ops∧o.dst≠some t:=by
 have hlt:j<ops.size:=(Array.getElem?_eq_some_iff.1 hj).1
 have:=List.all_eq_true.mp h j (List.mem_range.mpr hlt)
 rw[hj]at this
 simp only[ht,Bool.or_eq_true,Bool.and_eq_true]at this
 rcases this with (h1|h1)|h1
 · exact absurd (Nat.eq_of_beq_eq_true h1) hji
 · rcases hl with hl|hl
   · rw[hl]at h1;cases h1.1
   · have:=h1.2;rw[memN_iff.mpr hl]at this;cases this
 · refine⟨fun hm=>?_,fun hd=>?_⟩
   · have h2:=h1.1
     rw[Bool.not_eq_true',←Bool.not_eq_true]at h2
     exact h2 (List.contains_iff_mem.mpr hm)
   · have h2:=h1.2
     rw[hd]at h2;simp at h2
theorem ownOk_spec {o:Oper} (h:ownOk ops o=true):∃ d,o.dst=some d∧d∉o.looksAt ops:=by
 unfold ownOk at h
 split at h
 · rename_i d hd
   refine⟨d,hd,fun hm=>?_⟩
   rw[Bool.not_eq_true',←Bool.not_eq_true]at h
   exact h (List.contains_iff_mem.mpr hm)
 · cases h
theorem waits_spec {i k:Nat} (h:waits ops i k=true):∃ ok,ops[k]? = some ok∧∃ e∈ok.after,Region.binds .any e=true∧e.on=i:=by
 unfold waits at h
 split at h
 · rename_i ok ho
   obtain⟨e,he,hb⟩:=List.any_eq_true.mp h
   rw[Bool.and_eq_true]at hb
   exact⟨ok,ho,e,Array.mem_toList_iff.mp he,hb.1,Nat.eq_of_beq_eq_true hb.2⟩
 · simp at h
theorem rokP_op {i:Nat} {r:Pl} {head:Bool} {L L':Array Bool} {G:List Nat} (h:rokP ops (.op i r) head L G=some L') :
  ∃ o,ops[i]? = some o∧noneIn o G=true∧i∈Region.ready .any ops L∧((tmpOp o.op=true∧Region.free .any ops L i=true∧apG ops o G=true∧rokP ops r head (L.setIfInBounds i true) G=some L')∨
   (Region.ready .any ops L=[i]∧rokP ops r false (L.setIfInBounds i true) G=some L')):=by
 simp only[rokP]at h
 cases ho:ops[i]? with
 |none=>rw[ho]at h;simp at h
 | some o=>
   rw[ho]at h
   simp only at h
   split at h
   · rename_i hc0
     rw[Bool.and_eq_true]at hc0
     refine⟨o,rfl,hc0.1,by rw[←readyP_eq];exact memN_iff.mp hc0.2,?_⟩
     split at h
     · rename_i hc
       rw[Bool.and_eq_true,Bool.and_eq_true]at hc
       exact .inl ⟨hc.1.1,by rw[←freeP_eq];exact hc.1.2,hc.2,h⟩
     · split at h
       · rename_i hc
         exact .inr ⟨by rw[←readyP_eq];exact only_eq hc,h⟩
       · simp at h
   · simp at h
theorem rokP_mem {i:Nat} {r:Pl} {head:Bool} {L L':Array Bool} {G:List Nat} (h:rokP ops (.mem i r) head L G=some L') :
  ∃ o,ops[i]? = some o∧head=true∧i∈Region.ready .any ops L∧Region.free .any ops L i=true∧noneIn o G=true∧apG ops o G=true∧rokP ops r head (L.setIfInBounds i true) G=some L':=by
 simp only[rokP]at h
 cases ho:ops[i]? with
 |none=>rw[ho]at h;simp at h
 | some o=>
   rw[ho]at h
   simp only at h
   split at h
   · rename_i hc
     simp only[Bool.and_eq_true]at hc
     exact⟨o,rfl,hc.1.1.1.1,by rw[←readyP_eq];exact memN_iff.mp hc.1.1.1.2,by rw[←freeP_eq];exact hc.1.1.2,hc.1.2,hc.2,h⟩
   · simp at h
theorem rokP_memL {i k k':Nat} {p:List Step} {r:Pl} {head:Bool} {L L':Array Bool} {G:List Nat} (h:rokP ops (.memL i k p k' r) head L G=some L') :
  ∃ o,ops[i]? = some o∧head=true∧i∈Region.ready .any ops L∧Region.free .any ops L i=true∧noneIn o G=true∧apG ops o G=true∧rokP ops r head (L.setIfInBounds i true) G=some L':=by
 simp only[rokP]at h
 cases ho:ops[i]? with
 |none=>rw[ho]at h;simp at h
 | some o=>
   rw[ho]at h
   simp only at h
   split at h
   · rename_i hc
     simp only[Bool.and_eq_true]at hc
     exact⟨o,rfl,hc.1.1.1.1,by rw[←readyP_eq];exact memN_iff.mp hc.1.1.1.2,by rw[←freeP_eq];exact hc.1.1.2,hc.1.2,hc.2,h⟩
   · simp at h
theorem rokP_late {i:Nat} {r:Pl} {head:Bool} {L L':Array Bool} {G:List Nat} (h:rokP ops (.late i r) head L G=some L') :
  ∃ o,ops[i]? = some o∧lateOp o.op=true∧i∈Region.ready .any ops L∧i∉G∧noneIn o G=true∧(∃ d,o.dst=some d∧d∉o.looksAt ops)∧wrOk ops i o L G=true∧rokP ops r head (L.setIfInBounds i true) (i::G)=some L':=by
 simp only[rokP]at h
 cases ho:ops[i]? with
 |none=>rw[ho]at h;simp at h
 | some o=>
   rw[ho]at h
   simp only at h
   split at h
   · rename_i hc
     simp only[Bool.and_eq_true]at hc
     refine⟨o,rfl,hc.1.1.1.1.1,by rw[←readyP_eq];exact memN_iff.mp hc.1.1.1.1.2,fun hm=>?_,hc.1.1.2,ownOk_spec hc.1.2,hc.2,h⟩
     have:=hc.1.1.1.2
     rw[memN_iff.mpr hm]at this;cases this
   · simp at h
theorem rokP_now {i:Nat} {r:Pl} {head:Bool} {L L':Array Bool} {G:List Nat} (h:rokP ops (.now i r) head L G=some L') :
  i∈G∧(∀ k∈Region.ready .any ops L,waits ops i k=true)∧rokP ops r false L (remN i G)=some L':=by
 simp only[rokP]at h
 split at h
 · rename_i hc
   rw[Bool.and_eq_true]at hc
   exact⟨memN_iff.mp hc.1,fun k hk=>List.all_eq_true.mp hc.2 k hk,h⟩
 · simp at h
theorem rokP_chk {pk:List Nat} {b r:Pl} {head:Bool} {L L':Array Bool} {G:List Nat} (h:rokP ops (.chk pk b r) head L G=some L') :
  ∃ L1,rokP ops b true L G=some L1∧(∀ i∈mems b,∀ j,j<ops.size→L1.getD j true=false→Dep ops i j)∧rokP ops r false L1 (gOf b G)=some L':=by
 simp only[rokP]at h
 split at h
 · rename_i L1 h1
   split at h
   · rename_i hc
     refine⟨L1,h1,fun i hi j hj hu=>?_,h⟩
     have:=List.all_eq_true.mp (List.all_eq_true.mp hc i hi) j (List.mem_range.mpr hj)
     rw[hu]at this
     simpa [Dep]using this
   · simp at h
 · simp at h
theorem rokP_skip {i:Nat} {r:Pl} {head:Bool} {L L':Array Bool} {G:List Nat} (h:rokP ops (.skip i r) head L G=some L') :
  ∃ o,ops[i]? = some o∧noneIn o G=true∧i∈Region.ready .any ops L∧Region.free .any ops L i=true∧apG ops o G=true∧rokP ops r head (L.setIfInBounds i true) G=some L':=by
 simp only[rokP]at h
 cases ho:ops[i]? with
 |none=>rw[ho]at h;simp at h
 | some o=>
   rw[ho]at h
   simp only at h
   split at h
   · rename_i hc
     simp only[Bool.and_eq_true]at hc
     exact⟨o,rfl,hc.1.1.1,by rw[←readyP_eq];exact memN_iff.mp hc.1.1.2,by rw[←freeP_eq];exact hc.1.2,hc.2,h⟩
   · simp at h
theorem eqN_ok:∀ {a b:List Nat},eqN a b=true→a=b
 |[],[],_=>rfl
 | a::l,b::m,h=>by
   simp only[eqN,Bool.and_eq_true]at h
   rw[Nat.eq_of_beq_eq_true h.1,eqN_ok h.2]
 |[],_::_,h=>by simp[eqN]at h
 |_::_,[],h=>by simp[eqN]at h
theorem eqB_ok:∀ {a b:List Bool},eqB a b=true→a=b
 |[],[],_=>rfl
 | a::l,b::m,h=>by
   simp only[eqB,Bool.and_eq_true]at h
   have h1:a=b:=by cases a<;>cases b<;>first|rfl|(simp at h;done)
   rw[h1,eqB_ok h.2]
 |[],_::_,h=>by simp[eqB]at h
 |_::_,[],h=>by simp[eqB]at h
theorem rokP_br {j:Nat} {a b:Pl} {head:Bool} {L L':Array Bool} {G:List Nat} (h:rokP ops (.br j a b) head L G=some L') :
  head=false∧plen a=plen b∧gOf a G=gOf b G∧rokP ops a false L G=some L'∧rokP ops b false L G=some L':=by
 simp only[rokP]at h
 split at h
 · rename_i L1 L2 hc h1 h2
   rw[Bool.and_eq_true]at hc
   split at h
   · rename_i he
     cases h
     have:=eqB_ok he
     have:L'=L2:=Array.ext' this
     subst this
     exact⟨rfl,Nat.eq_of_beq_eq_true hc.1,eqN_ok hc.2,h1,h2⟩
   · simp at h
 · simp at h
theorem wpAnyS_weak {S S':Array Bool→World→Prop} (h:∀ L w,S' L w→S L w):∀(fuel:Nat) (listed:Array Bool) (a:Act) (w:World),wpAnyS P .any ops Q S' fuel listed a w→wpAnyS P .any ops Q S fuel listed a w
 |0,_,_,_,hw=>hw
 |fuel+1,_,_,_,hw=>⟨hw.1,fun i hi=>wpOp_mono (fun _ _ h'=>⟨h _ _ h'.1,wpAnyS_weak h fuel _ _ _ h'.2⟩) (hw.2 i hi)⟩
end
end Go.V
namespace Go.V
open Go
section
variable {P:Program} {E:Env} {ops:Array Oper} {Q:Exit→Act→World→Prop}
def Sx (X:Fr) (w0 w':World):Prop:=Ext X.x w0 w'∧∀ k b,X.c k b→w'.heap[b]? = w0.heap[b]?
structure Over (X1:Fr) (w1:World) (X:Fr) (w0:World):Prop where
 n:X1.n=X.n
 ic:X1.ic=X.ic
 ib:X1.ib=X.ib
 z:∀ b,X1.z b→X.z b
 x:∀ b∈X1.x,w0.heap.size≤b∨b∈X.x
 ext:Ext X.x w0 w1
 c:∀ k b,X.c k b→X1.c k b∧w1.heap[b]? = w0.heap[b]?
 zok:(∀ b,w0.heap.size≤b→X.z b)∧∀ b∈X.x,X.z b
section
variable {rc:Nat→RC} {C s:St} {X X1:Fr} {w0 w1 w:World} {a:Act}
theorem Over.refl (h:Rel rc [] C s X w0 a w):Over X w0 X w0:=⟨rfl,rfl,rfl,fun _ h=>h,fun _ h=>.inr h,Ext.refl' _ _,fun _ _ h=>⟨h,rfl⟩,h.zok⟩
theorem Rel.vok_same {ex:List Nat} (h:Rel rc ex C s X w0 a w) {fz:Nat→Prop} (hf:∀ b,fzOf X w (ex++allB rc (s.roots++C.roots)) b→fz b) {v:Val} {c:Value}
  (hv:VOk w (fzOf X w (ex++allB rc (s.roots++C.roots))) (getR C s) rc v c):VOk w fz (getR C s) rc v c:=
 hv.stable (fun b hb=>⟨hf b hb,rfl⟩) (fun k p _=>HS.same rfl rfl (fun r hr=>⟨h.roots k r ((mem_getR h.keys).mp hr),fun _ _=>rfl⟩) (fun _ _=>rfl)) (fun k _=>BS.same rfl rfl)
theorem Over.back (ho:Over X1 w1 X w0) (h:Rel rc [] C s X1 w1 a w):Rel rc [] C s X w0 a w:=by
 have hf:∀ b,fzOf X1 w ([]++allB rc (s.roots++C.roots)) b→fzOf X w ([]++allB rc (s.roots++C.roots)) b:=fun b hb=>⟨hb.1,hb.2,ho.z b hb.3⟩
 refine⟨h.keys,h.excl,fun b hb=>⟨(h.bnd b hb).1,?_⟩,fun k r hk=>(h.roots k r hk).stable (fun b hb=>⟨hf b hb,rfl⟩) (fun _ _=>rfl),h.tn,h.td,?_,?_,h.nd,ho.zok,?_,by rw[←ho.n];exact h.tsz,fun k r hk hi=>by rw[←ho.ic,←ho.ib];exact h.inn k r hk hi⟩
 · rcases (h.bnd b hb).2 with h'|h'
   · exact .inl (Nat.le_trans ho.ext.size h')
   · exact ho.x b h'
 · intro t v htv
   obtain⟨c,h1,h2⟩:=h.tm t v htv
   exact⟨c,h1,h.vok_same hf h2⟩
 · refine⟨h.ext.os.trans ho.ext.os,h.ext.tape.trans ho.ext.tape,h.ext.output.trans ho.ext.output,Nat.le_trans ho.ext.size h.ext.size,fun b hb hx=>?_,Nat.le_trans ho.ext.drawn h.ext.drawn⟩
   refine(h.ext.block b (Nat.lt_of_lt_of_le hb ho.ext.size) fun hm=>?_).trans (ho.ext.block b hb hx)
   rcases ho.x b hm with hh|hh
   · omega
   · exact hx hh
 · intro k b hk
   exact⟨(h.cfx k b (ho.c k b hk).1).1,((h.cfx k b (ho.c k b hk).1).2).trans (ho.c k b hk).2⟩
def freshFr (X1:Fr) (rc:Nat→RC) (C s:St) (l:List Nat):Fr:=
 ⟨l++allB rc (s.roots++C.roots),fun b=>X1.z b∨b∈l,fun k b=>∃ r,(k,r)∈C.roots∧b∈blocks r (rc k),X1.n,X1.ic,X1.ib⟩
theorem Rel.zin (h:Rel rc [] C s X1 w1 a w) {b:Nat} (hb:b∈allB rc (s.roots++C.roots)):X1.z b:=by
 rcases (h.bnd b (by simpa using hb)).2 with h'|h'
 · exact h.zok.1 b h'
 · exact h.zok.2 b h'
theorem Rel.fresh (h:Rel rc [] C s X1 w1 a w) {l:List Nat} (hl:∀ b∈l,b<w.heap.size∧¬ X1.z b) (hn:l.Nodup):Rel rc l C s (freshFr X1 rc C s l) w a w:=by
 have hf:∀ b,fzOf X1 w ([]++allB rc (s.roots++C.roots)) b→fzOf (freshFr X1 rc C s l) w (l++allB rc (s.roots++C.roots)) b:=fun b hb=>by
  refine⟨hb.1,fun hm=>?_,.inl hb.3⟩
  rcases List.mem_append.mp hm with hm|hm
  · exact(hl b hm).2 hb.3
  · exact hb.2 (by simpa using hm)
 refine⟨h.keys,?_,fun b hb=>?_,fun k r hk=>(h.roots k r hk).stable (fun b hb=>⟨hf b hb,rfl⟩) (fun _ _=>rfl),h.tn,h.td,?_,Ext.refl' _ _,h.nd,⟨fun b hb=>.inl (h.zok.1 b (Nat.le_trans h.ext.size hb)),fun b hb=>?_⟩,fun k b hk=>⟨hk,rfl⟩,h.tsz,h.inn⟩
 · refine List.nodup_append.mpr ⟨hn,by simpa using h.excl,?_⟩
   rintro b hb _ hb' rfl
   exact(hl b hb).2 (h.zin hb')
 · refine⟨?_,.inr hb⟩
   rcases List.mem_append.mp hb with hb|hb
   · exact(hl b hb).1
   · exact(h.bnd b (by simpa using hb)).1
 · intro t v htv
   obtain⟨c,h1,h2⟩:=h.tm t v htv
   exact⟨c,h1,h.vok_same hf h2⟩
 · rcases List.mem_append.mp hb with hb|hb
   · exact .inr hb
   · exact .inl (h.zin hb)
theorem Over.fresh (ho:Over X1 w1 X w0) (h:Rel rc [] C s X1 w1 a w) {l:List Nat} (hl:∀ b∈l,w0.heap.size≤b∨b∈X.x):Over (freshFr X1 rc C s l) w X w0:=by
 refine⟨ho.n,ho.ic,ho.ib,fun b hb=>?_,fun b hb=>?_,(ho.back h).ext,fun k b hk=>⟨?_,?_⟩,ho.zok⟩
 · rcases hb with hb|hb
   · exact ho.z b hb
   · exact(hl b hb).elim (ho.zok.1 b) (ho.zok.2 b)
 · rcases List.mem_append.mp hb with hb|hb
   · exact hl b hb
   · exact((ho.back h).bnd b (by simpa using hb)).2
 · exact(h.cfx k b (ho.c k b hk).1).1
 · exact((ho.back h).cfx k b hk).2
theorem Rel.stale {ex:List Nat} (h:Rel rc ex C s X w0 a w) {d:Nat} {c:Value} (h1:look d s.tmps=none) (h2:look d C.tmps=none):Rel rc ex C s X w0 (a.put (some d) c) w:=by
 refine⟨h.keys,h.excl,h.bnd,h.roots,h.tn,h.td,fun t v htv=>?_,h.ext,h.nd,h.zok,h.cfx,by simp[Act.put,h.tsz],h.inn⟩
 obtain⟨c',g1,g2⟩:=h.tm t v htv
 have hne:d≠t:=by
  rintro rfl
  have hn:(s.tmps.map (·.1)).Nodup:=h.tn
  rcases List.mem_append.mp htv with hm|hm
  · rw[mem_look hn hm]at h1;cases h1
  · exact absurd h2 (by
     intro h2
     have:∀ l:List (Nat×Val),(d,v)∈l→look d l≠none:=by
      intro l
      induction l with
      |nil=>intro hm;cases hm
      | cons q l ih=>
        obtain⟨j,u⟩:=q
        intro hm
        simp only[look]
        split
        · simp
        · rename_i hj
          rcases List.mem_cons.mp hm with hm|hm
          · cases hm;simp at hj
          · exact ih hm
     exact this _ hm h2)
 exact⟨c',by simp only[Act.put];rw[Array.getElem?_setIfInBounds_ne hne];exact g1,g2⟩
theorem mem_dropT {d t:Nat} {v:Val}:∀ {l:List (Nat×Val)},(t,v)∈dropT d l→(t,v)∈l∧t≠d:=by
 intro l
 induction l with
 |nil=>intro h;cases h
 | cons q l ih=>
   obtain⟨j,u⟩:=q
   intro h
   simp only[dropT]at h
   split at h
   · have:=ih h;exact⟨List.mem_cons_of_mem _ this.1,this.2⟩
   · rename_i hj
     rcases List.mem_cons.mp h with h|h
     · cases h
       exact⟨by simp,fun e=>by subst e;simp at hj⟩
     · have:=ih h;exact⟨List.mem_cons_of_mem _ this.1,this.2⟩
theorem dropT_sub (d:Nat) (l:List (Nat×Val)):(dropT d l).Sublist l:=by
 induction l with
 |nil=>exact List.Sublist.refl _
 | cons q l ih=>
   obtain⟨j,u⟩:=q
   simp only[dropT]
   split
   · exact ih.cons _
   · exact ih.cons_cons _
theorem look_dropT {d t:Nat}:∀ {l:List (Nat×Val)},look t (dropT d l)=if t=d then none else look t l:=by
 intro l
 induction l with
 |nil=>simp[dropT,look]
 | cons q l ih=>
   obtain⟨j,u⟩:=q
   simp only[dropT]
   by_cases hj:j=d
   · subst hj
     simp only[Nat.beq_refl]
     rw[ih]
     by_cases ht:t=j
     · simp[ht]
     · rw[if_neg ht,if_neg ht]
       simp only[look]
       have:Nat.beq j t=false:=by
        cases hb:Nat.beq j t with
        |false=>rfl
        |true=>exact absurd (Nat.eq_of_beq_eq_true hb).symm ht
       rw[this]
   · have:Nat.beq j d=false:=by
      cases hb:Nat.beq j d with
      |false=>rfl
      |true=>exact absurd (Nat.eq_of_beq_eq_true hb) hj
     rw[this]
     simp only[look]
     by_cases htj:j=t
     · subst htj;simp[hj]
     · have:Nat.beq j t=false:=by
        cases hb:Nat.beq j t with
        |false=>rfl
        |true=>exact absurd (Nat.eq_of_beq_eq_true hb) htj
       rw[this];exact ih
theorem Rel.dropT {ex:List Nat} (h:Rel rc ex C s X w0 a w) (d:Nat):Rel rc ex C ⟨Go.V.dropT d s.tmps,s.roots⟩ X w0 a w:=by
 refine⟨h.keys,h.excl,h.bnd,h.roots,((dropT_sub d s.tmps).map _).nodup h.tn,fun t v htv=>h.td t v (mem_dropT htv).1,fun t v htv=>?_,h.ext,h.nd,h.zok,h.cfx,h.tsz,h.inn⟩
 refine h.tm t v ?_
 rcases List.mem_append.mp htv with hm|hm
 · exact List.mem_append_left _ (mem_dropT hm).1
 · exact List.mem_append_right _ hm
theorem clearG_spec {all:List Oper}:∀ {G:List Nat},clearG all s G=true→∀ i∈G,∃ d,dstOf all i=some d∧look d s.tmps=none:=by
 intro G
 induction G with
 |nil=>intro _ i hi;cases hi
 | cons k G ih=>
   intro h i hi
   simp only[clearG]at h
   split at h
   · rename_i d hd
     split at h
     · rename_i hl
       rcases List.mem_cons.mp hi with rfl|hi
       · exact⟨d,hd,hl⟩
       · exact ih h i hi
     · cases h
   · cases h
theorem clearG_of {all:List Oper}:∀ {G:List Nat},(∀ i∈G,∃ d,dstOf all i=some d∧look d s.tmps=none)→clearG all s G=true:=by
 intro G
 induction G with
 |nil=>intro _;rfl
 | cons k G ih=>
   intro h
   obtain⟨d,hd,hl⟩:=h k (by simp)
   simp only[clearG,hd,hl]
   exact ih fun i hi=>h i (by simp[hi])
end
theorem guardB_ok {rc:Nat→RC} {C s:St} {X:Fr} {w0 w:World} {a:Act} {o:Oper} {b:Bool} (h:Rel rc [] C s X w0 a w) (hg:guardB ops.toList C s o b=true):Region.wanted o (yielded ops a.tmps)=b:=by
 unfold guardB at hg
 cases hgd:o.guard with
 |none=>rw[hgd]at hg;simp only at hg;rw[hg];simp[Region.wanted,hgd]
 | some q=>
   obtain⟨j,want⟩:=q
   rw[hgd]at hg
   simp only at hg
   cases hd:dstOf ops.toList j with
   |none=>rw[hd]at hg;simp at hg
   | some t=>
     rw[hd]at hg
     simp only[Option.bind_some]at hg
     cases hv:getT C s t with
     |none=>rw[hv]at hg;simp at hg
     | some v=>
       rw[hv]at hg
       cases v with
       | t sh oo x=>
         cases sh<;>try (simp at hg;done)
         cases oo<;>try (simp at hg;done)
         obtain⟨c,hc,hvo⟩:=h.getT hv
         obtain⟨x,rfl⟩:∃ b':Bool,b'=x:=⟨x,rfl⟩
         have hcb:=VOk.bool hvo
         subst hcb
         have hy:yielded ops a.tmps j=some x:=by
          unfold yielded
          rw[←dstOf_toList,hd]
          simp[hc]
         have hw:Region.wanted o (yielded ops a.tmps)=(some x == some want):=by simp[Region.wanted,hgd,hy]
         rw[hw]
         cases x<;>cases want<;>cases b<;>first|rfl|(simp at hg;done)
       |_=>simp at hg
def PendE (P:Program) (ops:Array Oper) (C:St) (X:Fr) (w0:World) (X1:Fr) (w1:World) (a:Act) (Lr:Array Bool) (i:Nat) (t:Option Nat):Prop:=
 ∃ o d ob f,ops[i]? = some o∧o.dst=some d∧Region.wanted o (yielded ops a.tmps)=true∧lateOp o.op=true∧Lays P o a ob f∧d∉o.looksAt ops∧look d C.tmps=none∧d<X1.n∧
  (∀ j oj u,ops[j]? = some oj→j≠i→Lr.getD j true=false→oj.dst=some u→u∉o.looksAt ops∧d≠u)∧
  match t with
  |none=>Lr.getD i true=false∧∀ e∈o.after,Region.binds .any e=true→Lr.getD e.on false=true
  |some r=>Lr.getD i false=true∧a.tmps[d]? = some (f r)∧w1.heap[r]? = some ob∧r∉X1.x∧¬ X1.z r∧(w0.heap.size≤r∨r∈X.x)
structure Pends (P:Program) (ops:Array Oper) (C:St) (X:Fr) (w0:World) (X1:Fr) (w1:World) (a:Act) (L Lr:Array Bool) (G:List Nat) (st:Nat→Option Nat):Prop where
 cl:Closed ops Lr
 same:∀ j,¬ (j∈G∧st j=none)→∀ b,Lr.getD j b=L.getD j b
 lst:∀ j∈G,L.getD j false=true
 e:∀ i∈G,PendE P ops C X w0 X1 w1 a Lr i (st i)
 inj:∀ i∈G,∀ j∈G,∀ r,st i=some r→st j=some r→i=j
 nd:G.Nodup
 sz:L.size=ops.size
def und (G:List Nat) (st:Nat→Option Nat):Nat:=(G.filter fun i=>(st i).isNone).length
section
variable {C s:St} {X X1:Fr} {w0 w1 w:World} {a:Act} {L Lr:Array Bool} {G:List Nat} {st:Nat→Option Nat}
theorem getD_tf {L:Array Bool} {j:Nat} (h:L.getD j false=true):L.getD j true=true:=by
 rcases Nat.lt_or_ge j L.size with h'|h'
 · simp[h']at h ⊢;exact h
 · simp[Array.getElem?_eq_none h']
theorem Pends.ready (hp:Pends P ops C X w0 X1 w1 a L Lr G st) {i:Nat} {o:Oper} (hi:i∈Region.ready .any ops L) (ho:ops[i]? = some o) (hn:noneIn o G=true):i∈Region.ready .any ops Lr:=by
 obtain⟨h0,o',ho',ha⟩:=mem_ready.1 hi
 rw[ho]at ho';cases ho'
 have hiG:i∉G:=fun hm=>by have:=getD_tf (hp.lst i hm);rw[h0]at this;cases this
 refine mem_ready.2 ⟨by rw[hp.same i (fun h=>hiG h.1)];exact h0,o,ho,fun e he hb=>?_⟩
 rw[hp.same e.on (fun h=>noneIn_spec hn e he hb h.1)]
 exact ha e he hb
theorem Pends.ready_or (hp:Pends P ops C X w0 X1 w1 a L Lr G st) {k:Nat} (hk:k∈Region.ready .any ops Lr):(k∈Region.ready .any ops L∧¬ (k∈G∧st k=none))∨(k∈G∧st k=none):=by
 by_cases hc:k∈G∧st k=none
 · exact .inr hc
 · left
   obtain⟨h0,o,ho,ha⟩:=mem_ready.1 hk
   refine⟨mem_ready.2 ⟨by rw[←hp.same k hc];exact h0,o,ho,fun e he hb=>?_⟩,hc⟩
   by_cases hc2:e.on∈G∧st e.on=none
   · exact hp.lst _ hc2.1
   · rw[←hp.same e.on hc2];exact ha e he hb
theorem Pends.put (hp:Pends P ops C X w0 X1 w1 a L Lr G st) (hsel:∀(j:Nat) (o:Oper) cs b,ops[j]? = some o→o.op≠.select cs b) {j:Nat} {oj:Oper} {c:Value} (hj:j∈Region.ready .any ops Lr) (hoj:ops[j]? = some oj) (hjG:j∉G) :
  Pends P ops C X w0 X1 w1 (a.put oj.dst c) (L.setIfInBounds j true) (Lr.setIfInBounds j true) G st:=by
 have hjun:Lr.getD j true=false:=(mem_ready.1 hj).1
 have hLs:L.getD j true=false:=by rw[←hp.same j (fun h=>hjG h.1)];exact hjun
 refine⟨(hp.cl.add hj).1,fun k hk b=>?_,fun k hk=>getD_set_true (hp.lst k hk),fun i hi=>?_,hp.inj,hp.nd,by simp[hp.sz]⟩
 · by_cases hkj:j=k
   · subst hkj
     have h1:=getD_size hjun;have h2:=getD_size hLs
     simp[h1,h2]
   · rw[getD_set_ne b hkj,getD_set_ne b hkj];exact hp.same k hk b
 · obtain⟨o,d,ob,f,e1,e2,e3,e4,e5,e6,e6',e6'',e7,e8⟩:=hp.e i hi
   have hji:j≠i:=by rintro rfl;exact hjG hi
   have hw:∀ u,oj.dst=some u→u∉o.looksAt ops∧d≠u:=fun u hu=>e7 j oj u hoj hji hjun hu
   refine⟨o,d,ob,f,e1,e2,by rw[wanted_put (ops:=ops) o a oj.dst c (fun u hu=>(hw u hu).1)];exact e3,e4,fun w=>?_,e6,e6',e6'',fun k ok u hk hki hun hu=>e7 k ok u hk hki ?_ hu,?_⟩
   · rw[execOp_put (ops:=ops) o (fun cs b=>hsel i o cs b e1) a oj.dst c (fun u hu=>(hw u hu).1)];exact e5 w
   · by_cases hkj:j=k
     · subst hkj;exact hjun
     · rw[getD_set_ne true hkj]at hun;exact hun
   · cases hst:st i with
     | none=>
       rw[hst]at e8
       exact⟨by rw[getD_set_ne true hji];exact e8.1,fun e he hb=>getD_set_true (e8.2 e he hb)⟩
     | some r=>
       rw[hst]at e8
       refine⟨getD_set_true e8.1,?_,e8.2.2⟩
       have h2:=e8.2.1
       cases hd:oj.dst with
       |none=>exact h2
       | some u=>
         simp only[Act.put]
         rw[Array.getElem?_setIfInBounds_ne (fun h=>(hw u hd).2 h.symm)];exact h2
theorem Pends.reframe (hp:Pends P ops C X w0 X1 w1 a L Lr G st) {X2:Fr} {w2:World} {C':St} {X':Fr} {w0':World} (hC:C'.tmps=C.tmps) (hn:X2.n=X1.n)
  (hh:∀ i∈G,∀ r,st i=some r→∀ ob,w1.heap[r]? = some ob→r∉X1.x→¬ X1.z r→(w0.heap.size≤r∨r∈X.x)→w2.heap[r]? = some ob∧r∉X2.x∧¬ X2.z r∧(w0'.heap.size≤r∨r∈X'.x)) :
  Pends P ops C' X' w0' X2 w2 a L Lr G st:=by
 refine⟨hp.cl,hp.same,hp.lst,fun i hi=>?_,hp.inj,hp.nd,hp.sz⟩
 obtain⟨o,d,ob,f,e1,e2,e3,e4,e5,e6,e6',e6'',e7,e8⟩:=hp.e i hi
 refine⟨o,d,ob,f,e1,e2,e3,e4,e5,e6,by rw[hC];exact e6',by rw[hn];exact e6'',e7,?_⟩
 cases hst:st i with
 |none=>rw[hst]at e8;exact e8
 | some r=>
   rw[hst]at e8
   exact⟨e8.1,e8.2.1,hh i hi r hst ob e8.2.2.1 e8.2.2.2.1 e8.2.2.2.2.1 e8.2.2.2.2.2⟩
theorem und_le {st':Nat→Option Nat} {i:Nat} (hi:i∈G) (hn:G.Nodup) (h1:st i=none) (h2:(st' i).isSome) (h3:∀ j,j≠i→st' j=st j):und G st=und G st'+1:=by
 unfold und
 induction G with
 |nil=>cases hi
 | cons k G ih=>
   rw[List.nodup_cons]at hn
   rcases List.mem_cons.mp hi with rfl|hi
   · have e:G.filter (fun j=>(st j).isNone)=G.filter fun j=>(st' j).isNone:=List.filter_congr fun j hj=>by rw[h3 j (by rintro rfl;exact hn.1 hj)]
     have h4:(st' i).isNone=false:=by cases h:st' i<;>rw[h]at h2<;>simp at h2 ⊢
     rw[List.filter_cons,List.filter_cons,h1,e,h4];simp
   · have hki:k≠i:=by rintro rfl;exact hn.1 hi
     have:=ih hi hn.2
     rw[List.filter_cons,List.filter_cons,h3 k hki]
     split
     · simp only[List.length_cons];omega
     · exact this
theorem wpOp_lays {i:Nat} {o:Oper} {ob:Obj} {f:Nat→Value} {K:Act→World→Prop} (hi:ops[i]? = some o) (hg:Region.wanted o (yielded ops a.tmps)=true) (hl:Lays P o a ob f) (h:K (a.put o.dst (f w.heap.size)) (w.alloc ob)):wpOp P ops Q i K a w:=by
 unfold wpOp
 rw[hi]
 simp only
 rw[hg]
 simp only[if_true]
 refine .inl ?_
 unfold Oper.wp
 rw[hl w]
 exact h
theorem wpOp_lays_inv {i:Nat} {o:Oper} {ob:Obj} {f:Nat→Value} {K:Act→World→Prop} (hi:ops[i]? = some o) (hg:Region.wanted o (yielded ops a.tmps)=true) (hl:Lays P o a ob f) (h:wpOp P ops Q i K a w) :
  K (a.put o.dst (f w.heap.size)) (w.alloc ob)∨∀ K',wpOp P ops Q i K' a w:=by
 unfold wpOp at h
 rw[hi]at h
 simp only at h
 have hw:=hg
 rw[hw]at h
 simp only[if_true]at h
 rcases h with h|h
 · left
   unfold Oper.wp at h
   rw[hl w]at h
   exact h
 · right
   intro K'
   unfold wpOp
   rw[hi]
   simp only[hw,if_true]
   exact .inr h
theorem alloc_step {rc:Nat→RC} (h:Rel rc [] C s X1 w1 a w) (ho:Over X1 w1 X w0) (hsel:∀(j:Nat) (o:Oper) cs b,ops[j]? = some o→o.op≠.select cs b) (hp:Pends P ops C X w0 X1 w1 a L Lr G st) (hc:clearG ops.toList s G=true)
  {i:Nat} (hi:i∈G) (hst:st i=none) {K:Act→World→Prop}
  (cont:∀ X2 w2 a2 st2,Rel rc [] C s X2 w2 a2 w2→Over X2 w2 X w0→Pends P ops C X w0 X2 w2 a2 L (Lr.setIfInBounds i true) G st2→und G st=und G st2+1→K a2 w2):wpOp P ops Q i K a w:=by
 obtain⟨o,d,ob,f,e1,e2,e3,e4,e5,e6,e6',e6'',e7,e8⟩:=hp.e i hi
 rw[hst]at e8
 refine wpOp_lays e1 e3 e5 ?_
 obtain⟨d',hd',hcl⟩:=clearG_spec hc i hi
 have hdd:d'=d:=by
  unfold dstOf at hd'
  rw[Array.getElem?_toList,e1]at hd'
  simp only[Option.bind_some]at hd'
  rw[e2]at hd';cases hd';rfl
 subst hdd
 have hb:=ho.back h
 have hr:i∈Region.ready .any ops Lr:=mem_ready.2 ⟨e8.1,o,e1,e8.2⟩
 let r:=w.heap.size
 let X2:Fr:=⟨allB rc (s.roots++C.roots),fun b=>X1.z b∧b≠r,fun k b=>∃ q,(k,q)∈C.roots∧b∈blocks q (rc k),X1.n,X1.ic,X1.ib⟩
 have hzr:X1.z r:=h.zok.1 r h.ext.size
 have hf:∀ b,fzOf X1 w ([]++allB rc (s.roots++C.roots)) b→fzOf X2 (w.alloc ob) ([]++allB rc (s.roots++C.roots)) b:=fun b hb=>
  ⟨by rw[alloc_size];exact Nat.lt_succ_of_lt hb.1,hb.2,hb.3,Nat.ne_of_lt hb.1⟩
 have hold:∀ b,b<w.heap.size→(w.alloc ob).heap[b]? = w.heap[b]?:=fun b hb=>alloc_old w ob hb
 have hbl:∀ b∈allB rc (s.roots++C.roots),b<w.heap.size:=fun b hb=>(h.bnd b (by simpa using hb)).1
 have hrel:Rel rc [] C s X2 (w.alloc ob) a (w.alloc ob):=by
  refine⟨h.keys,h.excl,fun b hb=>?_,fun k q hk=>(h.roots k q hk).stable (fun b hb=>⟨hf b hb,hold b hb.1⟩) (fun b hb=>hold b (hbl b (mem_allB.mpr ⟨k,q,hk,hb⟩))),h.tn,h.td,?_,Ext.refl' _ _,h.nd,⟨fun b hb=>?_,fun b hb=>⟨h.zin hb,?_⟩⟩,fun k b hk=>⟨hk,rfl⟩,h.tsz,h.inn⟩
  · have hb':b∈allB rc (s.roots++C.roots):=by simpa using hb
    exact⟨by rw[alloc_size];exact Nat.lt_succ_of_lt (hbl b hb'),.inr hb'⟩
  · intro t v htv
    obtain⟨c,h1,h2⟩:=h.tm t v htv
    refine⟨c,h1,h2.stable (fun b hb=>⟨hf b hb,hold b hb.1⟩) (fun k p _=>HS.same rfl rfl (fun q hq=>⟨h.roots k q ((mem_getR h.keys).mp hq),fun b hb=>hold b (hbl b (mem_allB.mpr ⟨k,q,(mem_getR h.keys).mp hq,hb⟩))⟩) (fun b hb=>hold b hb.1)) (fun k _=>BS.same rfl rfl)⟩
  · rw[alloc_size]at hb
    exact⟨h.zok.1 b (by have:=h.ext.size;omega),by show b≠w.heap.size;omega⟩
  · have:=hbl b hb;show b≠w.heap.size;omega
 have hext:Ext X.x w0 (w.alloc ob):=⟨hb.ext.os,hb.ext.tape,hb.ext.output,by rw[alloc_size];exact Nat.le_succ_of_le hb.ext.size,fun b hlt hx=>by rw[hold b (Nat.lt_of_lt_of_le hlt hb.ext.size)];exact hb.ext.block b hlt hx,hb.ext.drawn⟩
 have hover:Over X2 (w.alloc ob) X w0:=by
  refine⟨ho.n,ho.ic,ho.ib,fun b hz=>ho.z b hz.1,fun b hx=>(hb.bnd b (by simpa using hx)).2,hext,fun k b hk=>⟨(hb.cfx k b hk).1,?_⟩,ho.zok⟩
  obtain⟨⟨q,g1,g2⟩,g3⟩:=hb.cfx k b hk
  rw[hold b (hbl b (mem_allB.mpr ⟨k,q,List.mem_append_right _ g1,g2⟩))];exact g3
 have hdn:d'<a.tmps.size:=by rw[h.tsz];exact e6''
 refine cont X2 (w.alloc ob) (a.put o.dst (f w.heap.size)) (fun k=>if k=i then some r else st k) (by rw[e2];exact hrel.stale hcl e6') hover ?_ ?_
 · refine⟨(hp.cl.add hr).1,fun k hk b=>?_,hp.lst,fun k hk=>?_,fun x hx y hy q h1 h2=>?_,hp.nd,hp.sz⟩
   · by_cases hki:i=k
     · subst hki
       have h1:=getD_size e8.1
       have h2:=hp.lst i hi
       have h3:i<L.size:=by
        rcases Nat.lt_or_ge i L.size with h'|h'
        · exact h'
        · simp[Array.getElem?_eq_none h']at h2
       simp[h1,h3]at h2 ⊢;exact h2
     · rw[getD_set_ne b hki]
       exact hp.same k (fun hh=>hk ⟨hh.1,by rw[if_neg (fun e=>hki e.symm)];exact hh.2⟩) b
   · by_cases hki:k=i
     · subst hki
       refine⟨o,d',ob,f,e1,e2,by rw[wanted_put (ops:=ops) o a o.dst _ (fun u hu=>by rw[e2]at hu;cases hu;exact e6)];exact e3,e4,fun w'=>?_,e6,e6',e6'',fun j oj u hj hji hun hu=>e7 j oj u hj hji ?_ hu,?_⟩
       · rw[execOp_put (ops:=ops) o (fun cs b=>hsel k o cs b e1) a o.dst _ (fun u hu=>by rw[e2]at hu;cases hu;exact e6)];exact e5 w'
       · rw[getD_set_ne true (Ne.symm hji)]at hun;exact hun
       · simp only[if_true]
         refine⟨?_,?_,alloc_get w ob,fun hm=>?_,fun hz=>hz.2 rfl,.inl hb.ext.size⟩
         · have h1:=getD_size e8.1
           simp[h1]
         · rw[e2];simp[Act.put,hdn,r]
         · exact absurd (hbl _ hm) (Nat.lt_irrefl _)
     · obtain⟨o2,d2,ob2,f2,k1,k2,k3,k4,k5,k6,k6',k6'',k7,k8⟩:=hp.e k hk
       have hw:=k7 i o d' e1 (Ne.symm hki) e8.1 e2
       refine⟨o2,d2,ob2,f2,k1,k2,by rw[wanted_put (ops:=ops) o2 a o.dst _ (fun u hu=>by rw[e2]at hu;cases hu;exact hw.1)];exact k3,k4,fun w'=>?_,k6,k6',k6'',fun j oj u hj hjk hun hu=>k7 j oj u hj hjk ?_ hu,?_⟩
       · rw[execOp_put (ops:=ops) o2 (fun cs b=>hsel k o2 cs b k1) a o.dst _ (fun u hu=>by rw[e2]at hu;cases hu;exact hw.1)];exact k5 w'
       · by_cases hij:i=j
         · subst hij;exact e8.1
         · rw[getD_set_ne true hij]at hun;exact hun
       · simp only[if_neg hki]
         cases hsk:st k with
         | none=>
           rw[hsk]at k8
           exact⟨by rw[getD_set_ne true (Ne.symm hki)];exact k8.1,fun e he hb=>getD_set_true (k8.2 e he hb)⟩
         | some q=>
           rw[hsk]at k8
           obtain⟨q1,q2,q3,q4,q5,q6⟩:=k8
           have hq1:q<w1.heap.size:=by
            rcases Nat.lt_or_ge q w1.heap.size with h'|h'
            · exact h'
            · rw[Array.getElem?_eq_none h']at q3;cases q3
           have hqw:q<w.heap.size:=Nat.lt_of_lt_of_le hq1 h.ext.size
           refine⟨getD_set_true q1,?_,?_,fun hm=>?_,fun hz=>q5 hz.1,q6⟩
           · rw[e2];simp only[Act.put];rw[Array.getElem?_setIfInBounds_ne (Ne.symm hw.2)];exact q2
           · rw[hold q hqw,h.ext.block q hq1 q4];exact q3
           · exact q5 (h.zin hm)
   · by_cases hx':x=i
     · by_cases hy':y=i
       · rw[hx',hy']
       · rw[if_pos hx']at h1;rw[if_neg hy']at h2
         cases h1
         obtain⟨o2,d2,ob2,f2,_,_,_,_,_,_,_,_,_,k8⟩:=hp.e y hy
         rw[h2]at k8
         exact absurd hzr k8.2.2.2.2.1
     · by_cases hy':y=i
       · rw[if_neg hx']at h1;rw[if_pos hy']at h2
         cases h2
         obtain⟨o2,d2,ob2,f2,_,_,_,_,_,_,_,_,_,k8⟩:=hp.e x hx
         rw[h1]at k8
         exact absurd hzr k8.2.2.2.2.1
       · rw[if_neg hx']at h1;rw[if_neg hy']at h2
         exact hp.inj x hx y hy q h1 h2
 · exact und_le hi hp.nd hst (by simp) fun j hj=>by simp[hj]
end
end
end Go.V
namespace Go.V
open Go
section
variable {P:Program} {E:Env} {ops:Array Oper} {Q:Exit→Act→World→Prop}
theorem wpAnyS_more' {S:Array Bool→World→Prop} {S0:World→Prop} {U:Nat→Prop} {G:List Nat} (hst:∀ w ob,S0 w→S0 (w.alloc ob)) (hsel:∀(j:Nat) (o:Oper) cs b,ops[j]? = some o→o.op≠.select cs b) :
  ∀(fuel:Nat) (Lr:Array Bool) (a:Act) (w:World),(∀ j,Lr.getD j true=false→U j∨j∈G)→
   ((∃ k,U k∧Lr.getD k false=true)∨(S0 w∧∀ j∈G,Lr.getD j true=false→∃ o ob f,ops[j]? = some o∧Region.wanted o (yielded ops a.tmps)=true∧Lays P o a ob f∧∀ k ok u,ops[k]? = some ok→k≠j→Lr.getD k true=false→ok.dst=some u→u∉o.looksAt ops))→
   wpAnyS P .any ops Q S fuel Lr a w→wpAnyS P .any ops Q (fun L w'=>S L w'∧((∀ j,U j→L.getD j false=false)→S0 w')) fuel Lr a w
 |0,_,_,_,_,_,h=>h
 | fuel+1,Lr,a,w,hU,hd,h=>by
   refine⟨h.1,fun i hi=>?_⟩
   have hun:=(mem_ready.1 hi).1
   have hset:(Lr.setIfInBounds i true).getD i false=true:=by simp[getD_size hun]
   have next:∀ j,(Lr.setIfInBounds i true).getD j true=false→U j∨j∈G:=fun j hj=>hU j (by
    by_cases hij:i=j
    · subst hij;exact hun
    · rw[getD_set_ne true hij]at hj;exact hj)
   by_cases hUi:U i
   · refine wpOp_mono (fun a' w' h'=>⟨⟨h'.1,fun hn=>?_⟩,wpAnyS_more' hst hsel fuel _ a' w' next (.inl ⟨i,hUi,hset⟩) h'.2⟩) (h.2 i hi)
     have:=hn i hUi;rw[hset]at this;cases this
   · rcases hd with⟨k,hk1,hk2⟩|⟨hS0,hG⟩
     · refine wpOp_mono (fun a' w' h'=>⟨⟨h'.1,fun hn=>?_⟩,wpAnyS_more' hst hsel fuel _ a' w' next (.inl ⟨k,hk1,getD_set_true hk2⟩) h'.2⟩) (h.2 i hi)
       have:=hn k hk1;rw[getD_set_true hk2]at this;cases this
     · have hiG:=(hU i hun).resolve_left hUi
       obtain⟨o,ob,f,e1,e2,e3,e4⟩:=hG i hiG hun
       rcases wpOp_lays_inv e1 e2 e3 (h.2 i hi)with hk|hall
       · refine wpOp_lays e1 e2 e3 ⟨⟨hk.1,fun _=>hst w ob hS0⟩,wpAnyS_more' hst hsel fuel _ _ _ next (.inr ⟨hst w ob hS0,fun j hj hju=>?_⟩) hk.2⟩
         have hij:i≠j:=by rintro rfl;have:=getD_tf hset;rw[hju]at this;cases this
         have hju':Lr.getD j true=false:=by rw[getD_set_ne true hij]at hju;exact hju
         obtain⟨o2,ob2,f2,k1,k2,k3,k4⟩:=hG j hj hju'
         refine⟨o2,ob2,f2,k1,by rw[wanted_put (ops:=ops) o2 a o.dst _ (fun u hu=>k4 i o u e1 hij hun hu)];exact k2,fun w'=>?_,fun k ok u hk1 hk2 hk3 hk4=>k4 k ok u hk1 hk2 ?_ hk4⟩
         · rw[execOp_put (ops:=ops) o2 (fun cs b=>hsel j o2 cs b k1) a o.dst _ (fun u hu=>k4 i o u e1 hij hun hu)];exact k3 w'
         · by_cases hik:i=k
           · subst hik;exact hun
           · rw[getD_set_ne true hik]at hk3;exact hk3
       · exact hall _
theorem pathEq_ok:∀ {p q:List Step},pathEq p q=true→p=q∧inner p=false
 |[],[],_=>⟨rfl,rfl⟩
 |.f::p,.f::q,h=>by obtain⟨rfl,h2⟩:=pathEq_ok (p:=p) (q:=q) (by simpa [pathEq]using h);exact⟨rfl,by simpa [inner]using h2⟩
 |.s::p,.s::q,h=>by obtain⟨rfl,h2⟩:=pathEq_ok (p:=p) (q:=q) (by simpa [pathEq]using h);exact⟨rfl,by simpa [inner]using h2⟩
 |[],.f::_,h=>by simp[pathEq]at h
 |[],.s::_,h=>by simp[pathEq]at h
 |[],.i _::_,h=>by simp[pathEq]at h
 |.f::_,[],h=>by simp[pathEq]at h
 |.f::_,.s::_,h=>by simp[pathEq]at h
 |.f::_,.i _::_,h=>by simp[pathEq]at h
 |.s::_,[],h=>by simp[pathEq]at h
 |.s::_,.f::_,h=>by simp[pathEq]at h
 |.s::_,.i _::_,h=>by simp[pathEq]at h
 |.i _::_,_,h=>by simp[pathEq]at h
theorem InB_nil (sh:Sh) (x:sh.den):InB sh x []:=by cases sh<;>trivial
theorem splitLs_ok {C:St} {X:Fr} {w0 w:World} {a:Act}:∀ {l:List Prt} {s s1:St} {rc:Nat→RC},Rel rc [] C s X w0 a w→splitLs C s l=some s1→
  ∃ rc1,Rel rc1 [] C s1 X w0 a w∧Grow (getR C s) rc (getR C s1) rc1∧∀ q∈l,PartOk (getR C s1) rc1 q:=by
 intro l
 induction l with
 |nil=>intro s s1 rc h hs;simp only[splitLs,Option.some.injEq]at hs;subst hs;exact⟨rc,h,.refl,by simp⟩
 | cons q l ih=>
   obtain⟨key,p,k⟩:=q
   intro s s1 rc h hs
   simp only[splitLs]at hs
   split at hs<;>try (simp at hs;done)
   rename_i r hr
   split at hs<;>try (simp at hs;done)
   rename_i e sa hsl
   split at hs<;>try (simp at hs;done)
   rename_i s2 h2
   have hcells:∃ cs,VCells w (fzOf X w ([]++allB rc (s.roots++C.roots))) (getR C s) rc (.own key p) cs:=by
    have h3:=h2
    unfold splitOne at h3
    split at h3<;>try (simp at h3;done)
    rename_i r' hr' _ _ hin _ _
    have hr'':some r=some r':=hr.symm.trans hr'
    cases hr''
    split at h3<;>try (simp at h3;done)
    rename_i o sh x o' ho hg _
    have hib:=InB_fields r.x hin hsl
    obtain⟨cs',bs',g1,_,_⟩:=(h.root hr).1.get hg ho hib
    exact⟨cs',fun r2 hr2=>by rw[hr]at hr2;cases hr2;exact⟨hib,⟨o,ho⟩,g1,e,sa,hsl⟩⟩
   obtain⟨cs,hv⟩:=hcells
   obtain⟨rc1,g1,g2,g3,_⟩:=splitOne_ok h h2 hv
   obtain⟨rc2,k1,k2,k3⟩:=ih g1 hs
   refine⟨rc2,k1,g2.trans k2,fun q hq=>?_⟩
   rcases List.mem_cons.mp hq with rfl|hq
   · exact g3.grow k2
   · exact k3 q hq
theorem rowS_iff {s:Sh} (h:rowS s=true):∃ e a,s = .sl e a:=by cases s<;>first|exact⟨_,_,rfl⟩|(simp[rowS]at h;done)
theorem memL_ok {C s:St} {X:Fr} {w0 w:World} {a:Act} {rc:Nat→RC} {o:Oper} (hE:∀ t s,E.sh t=some s→ShOk P s none t) (h:Rel rc [] C s X w0 a w) (hd:∀ t,o.dst=some t→t<X.n) {k k':Nat} {p:List Step}
  (hp:PartOk (getR C s) rc ⟨k,p,k'⟩) (hm:memLOk E C s o k p k'=true) {K:St→Prop} (hk:putM C o.dst (.own k' [],s) K) :
  ∃ c s1,YieldsIf P ops (fun w'=>w'.heap[(rc k).blk]? = w.heap[(rc k).blk]?) o c a∧(∃ r,(k,r)∈C.roots∧(rc k).blk∈blocks r (rc k))∧K s1∧s1.roots=s.roots∧Rel rc [] C s1 X w0 (a.put o.dst c) w:=by
 unfold memLOk at hm
 split at hm<;>try (simp at hm;done)
 rename_i t x hg ho
 split at hm<;>try (simp at hm;done)
 rename_i j q r e sa u hv hl ht hu
 simp only[Bool.and_eq_true]at hm
 obtain⟨⟨⟨⟨h1,h2⟩,h3⟩,h4⟩,h5⟩:=hm
 obtain rfl:=Nat.eq_of_beq_eq_true h1
 obtain⟨rfl,hin⟩:=pathEq_ok h2
 have hmr:=look_mem hl
 have hr:getR C s j=some r:=(mem_getR h.keys).mpr (List.mem_append_right _ hmr)
 obtain⟨r0,u0,p1,p2,_,⟨e',sa',p4⟩,p5⟩:=hp
 have p1:getR C s j=some r0:=p1
 have p2:getR C s k'=some u0:=p2
 rw[hr]at p1;cases p1
 rw[hu]at p2;cases p2
 have hok:=h.root hr
 obtain⟨cur,e2,k1,k2⟩:=hok.2 h3
 obtain⟨x',hgp⟩:=getP_of_shP r.x p4
 obtain⟨oo,hoo⟩:=Option.isSome_iff_exists.mp h4
 have hx:=evalV_ok h hv
 obtain⟨cs0,hv0,hc0⟩:=hx
 obtain⟨off,q1,rfl⟩:=hv0 r hr h3
 obtain⟨g1,g2⟩:=hok.1.loc q1 hgp hoo
 have hrd:readC w (rc j).blk (0+off) (Sh.sl e' sa').size=some (((rc j).cs.drop off).take (Sh.sl e' sa').size):=by
  have:=readC_all k1
  rw[k2]at this
  exact readC_part this g2
 rw[Nat.zero_add]at hrd
 have hcs:((rc j).cs.drop off).take (Sh.sl e' sa').size=(rc k').cs:=Option.some.inj (g1.symm.trans (p5 w))
 rw[hcs]at hrd
 obtain⟨e3,a3,hus⟩:=rowS_iff h5
 have hvk:VOk w (fzOf X w ([]++allB rc (s.roots++C.roots))) (getR C s) rc (.own k' []) (packV false (rc k').cs):=by
  refine⟨(rc k').cs,fun r' hr'=>?_,rfl⟩
  rw[hu]at hr';cases hr'
  refine⟨InB_nil _ _,⟨u.o,by cases u.o<;>rfl⟩,by cases u.s<;>rfl,e3,a3,?_⟩
  rw[hus];rfl
 obtain⟨s1,m1,m2,m3⟩:=putM_ok h hd hvk hk
 refine⟨_,s1,.inl ⟨by simp[Region.wanted,hg],fun w' hw=>?_⟩,⟨r,hmr,by simp[blocks,h3]⟩,m1,m2,m3⟩
 rw[execOp];simp only[ho]
 rw[hc0]
 exact val_run (run_loadAt (hE t _ ht) (readC_same hw hrd))
structure HeadOk (ops:Array Oper) (C s:St) (X:Fr) (w0:World) (X1:Fr) (rc:Nat→RC) (w:World) (S:Array Bool→World→Prop) (U:Nat→Prop) (p:Pl):Prop where
 w:w=w0
 x:∀ b∈X.x,b∈allB rc (s.roots++C.roots)∨¬ X1.z b
 c:∀ k r,(k,r)∈C.roots→∀ b∈blocks r (rc k),X.c k b
 S:∀ L w',(∀ j,U j→L.getD j false=false)→S L w'→Sx X w0 w'
 D:∀ i∈mems p,∀ j,U j→Dep ops i j
 lk:∀ q∈links p,PartOk (getR C s) rc q
theorem yields_imp {S S':World→Prop} (h:∀ w,S' w→S w) {o:Oper} {v:Value} {a:Act} (hy:YieldsIf P ops S o v a):YieldsIf P ops S' o v a:=
 hy.imp (fun⟨h1,h2⟩=>⟨h1,fun w hw=>h2 w (h w hw)⟩) id
theorem Ext.alloc {l:List Nat} {w0 w:World} (h:Ext l w0 w) (ob:Obj):Ext l w0 (w.alloc ob):=
 ⟨h.os,h.tape,h.output,by rw[alloc_size];exact Nat.le_succ_of_le h.size,fun b hlt hx=>by rw[alloc_old w ob (Nat.lt_of_lt_of_le hlt h.size)];exact h.block b hlt hx,h.drawn⟩
theorem Sx.alloc {X:Fr} {w0 w:World} (hb:∀ k b,X.c k b→b<w0.heap.size) (h:Sx X w0 w) (ob:Obj):Sx X w0 (w.alloc ob):=
 ⟨h.1.alloc ob,fun k b hk=>by rw[alloc_old w ob (Nat.lt_of_lt_of_le (hb k b hk) h.1.size)];exact h.2 k b hk⟩
theorem rokP_size:∀ {p:Pl} {head:Bool} {L L':Array Bool} {G:List Nat},rokP ops p head L G=some L'→
  L'.size=L.size∧(∀ j,L.getD j false=true→L'.getD j false=true)∧∀ i∈plOps p,L'.getD i false=true:=by
 have step:∀ {i:Nat} {L:Array Bool},i∈Region.ready .any ops L→(L.setIfInBounds i true).getD i false=true:=fun hi=>by
  have:=getD_size (mem_ready.1 hi).1
  simp[this]
 intro p
 induction p with
 |nil=>intro head L L' G h;simp only[rokP,Option.some.injEq]at h;subst h;exact⟨rfl,fun _ h=>h,by simp[plOps]⟩
 | op i r ih=>
   intro head L L' G h
   obtain⟨o,ho,_,hi,h'⟩:=rokP_op h
   obtain⟨g1,g2,g3⟩:L'.size=(L.setIfInBounds i true).size∧(∀ j,(L.setIfInBounds i true).getD j false=true→L'.getD j false=true)∧∀ k∈plOps r,L'.getD k false=true:=by
    rcases h' with h'|h'
    · exact ih h'.2.2.2
    · exact ih h'.2
   refine⟨by simpa using g1,fun j hj=>g2 j (getD_set_true hj),fun k hk=>?_⟩
   rcases List.mem_cons.mp hk with rfl|hk
   · exact g2 _ (step hi)
   · exact g3 k hk
 | mem i r ih=>
   intro head L L' G h
   obtain⟨_,_,_,hi,_,_,_,h'⟩:=rokP_mem h
   obtain⟨g1,g2,g3⟩:=ih h'
   refine⟨by simpa using g1,fun j hj=>g2 j (getD_set_true hj),fun k hk=>?_⟩
   rcases List.mem_cons.mp hk with rfl|hk
   · exact g2 _ (step hi)
   · exact g3 k hk
 | chk pk b r ihb ihr=>
   intro head L L' G h
   obtain⟨L1,h1,_,h2⟩:=rokP_chk h
   obtain⟨g1,g2,g3⟩:=ihb h1
   obtain⟨k1,k2,k3⟩:=ihr h2
   refine⟨k1.trans g1,fun j hj=>k2 j (g2 j hj),fun i hi=>?_⟩
   rcases List.mem_append.mp hi with hi|hi
   · exact k2 i (g3 i hi)
   · exact k3 i hi
 | late i r ih=>
   intro head L L' G h
   obtain⟨_,_,_,hi,_,_,_,_,h'⟩:=rokP_late h
   obtain⟨g1,g2,g3⟩:=ih h'
   exact⟨by simpa using g1,fun j hj=>g2 j (getD_set_true hj),fun k hk=>g3 k hk⟩
 | now i r ih=>
   intro head L L' G h
   exact ih (rokP_now h).2.2
 |soft k p r ih=>intro head L L' G h;simp[rokP]at h
 |frz k r ih=>intro head L L' G h;simp[rokP]at h
 |drain t r ih=>intro head L L' G h;simp[rokP]at h
 | skip i r ih=>
   intro head L L' G h
   obtain⟨_,_,_,hi,_,_,h'⟩:=rokP_skip h
   obtain⟨g1,g2,g3⟩:=ih h'
   refine⟨by simpa using g1,fun j hj=>g2 j (getD_set_true hj),fun k hk=>?_⟩
   rcases List.mem_cons.mp hk with rfl|hk
   · exact g2 _ (step hi)
   · exact g3 k hk
 | br j a b iha ihb=>
   intro head L L' G h
   obtain⟨_,_,_,ha,hb⟩:=rokP_br h
   obtain⟨g1,g2,g3⟩:=iha ha
   obtain⟨_,_,k3⟩:=ihb hb
   refine⟨g1,g2,fun k hk=>?_⟩
   rcases List.mem_append.mp hk with hk|hk
   · exact g3 k hk
   · exact k3 k hk
 | memL i k p k' r ih=>
   intro head L L' G h
   obtain⟨_,_,_,hi,_,_,_,h'⟩:=rokP_memL h
   obtain⟨g1,g2,g3⟩:=ih h'
   refine⟨by simpa using g1,fun j hj=>g2 j (getD_set_true hj),fun k hk=>?_⟩
   rcases List.mem_cons.mp hk with rfl|hk
   · exact g2 _ (step hi)
   · exact g3 k hk
theorem out_frame {rc:Nat→RC} {C s:St} {X X1:Fr} {w0 w1 w:World} {a:Act} {cr:List (Nat×Root)} {pk rs:List Nat} (h:Rel rc [] C s X1 w1 a w) (hov:Over X1 w1 X w0) (_hcr:constsR s pk=some cr) (_hnd:pk.Nodup)
  (hrs:∀ q∈rs,w0.heap.size≤q∨q∈X.x) {rc1:Nat→RC} {s1:St} {a1:Act} {w2:World} {X2:Fr} {w3:World}
  (h1:Rel rc1 [] ⟨C.tmps,cr++C.roots⟩ s1 X2 w3 a1 w2)
  (ho1:Over X2 w3 ⟨rs++(innerFr X1 rc C s cr).x,fun b=>(innerFr X1 rc C s cr).z b∨b∈rs,(innerFr X1 rc C s cr).c,(innerFr X1 rc C s cr).n,(innerFr X1 rc C s cr).ic,(innerFr X1 rc C s cr).ib⟩ w) :
  Rel rc1 [] C ⟨s1.tmps,s1.roots++cr⟩ (freshFr X2 rc1 C ⟨s1.tmps,s1.roots++cr⟩ []) w2 a1 w2∧Over (freshFr X2 rc1 C ⟨s1.tmps,s1.roots++cr⟩ []) w2 X w0:=by
 have hf:=h1.fresh (l:=[]) (by simp) (by simp)
 have hP:(allB rc1 ((s1.roots++cr)++C.roots)).Perm (allB rc1 (s1.roots++(cr++C.roots))):=allB_perm (by rw[List.append_assoc])
 have hb:=hov.back h
 have hb1:=ho1.back h1
 refine⟨hf.turn (s':=⟨s1.tmps,s1.roots++cr⟩) (C':=C) (by rw[List.append_assoc]) rfl rfl rfl rfl (fun b hb=>.inr (by
  show b∈[]++allB rc1 ((s1.roots++cr)++C.roots)
  rw[List.nil_append];exact hP.mem_iff.mpr hb)) (Ext.refl' _ _) rfl rfl ⟨hf.zok.1,fun b hb=>hf.zok.2 b (by
  have hb':b∈[]++allB rc1 ((s1.roots++cr)++C.roots):=hb
  rw[List.nil_append]at hb'
  show b∈[]++allB rc1 (s1.roots++(cr++C.roots))
  rw[List.nil_append];exact hP.mem_iff.mp hb')⟩ (fun k b hk=>⟨hk,rfl⟩),?_⟩
 refine⟨ho1.n.trans hov.n,ho1.ic.trans hov.ic,ho1.ib.trans hov.ib,fun b hz=>?_,fun b hx=>?_,?_,fun k b hkb=>?_,hov.zok⟩
 · rcases hz with hz|hz
   · rcases ho1.z b hz with hz|hz
     · exact hov.z b hz
     · exact(hrs b hz).elim (hov.zok.1 b) (hov.zok.2 b)
   · cases hz
 · have hx':b∈allB rc1 (s1.roots++(cr++C.roots)):=by
    have hb':b∈[]++allB rc1 ((s1.roots++cr)++C.roots):=hx
    rw[List.nil_append]at hb'
    exact hP.mem_iff.mp hb'
   rcases (hb1.bnd b (by simpa using hx')).2 with h'|h'
   · exact .inl (Nat.le_trans hb.ext.size h')
   · rcases List.mem_append.mp h' with h'|h'
     · exact hrs b h'
     · exact(hb.bnd b (by simpa [innerFr]using h')).2
 · refine⟨hb1.ext.os.trans hb.ext.os,hb1.ext.tape.trans hb.ext.tape,hb1.ext.output.trans hb.ext.output,Nat.le_trans hb.ext.size hb1.ext.size,fun b hlt hx=>?_,Nat.le_trans hb.ext.drawn hb1.ext.drawn⟩
   refine(hb1.ext.block b (Nat.lt_of_lt_of_le hlt hb.ext.size) fun hm=>?_).trans (hb.ext.block b hlt hx)
   rcases List.mem_append.mp hm with hm|hm
   · rcases hrs b hm with h'|h'
     · omega
     · exact hx h'
   · rcases (hb.bnd b (by simpa [innerFr]using hm)).2 with h'|h'
     · omega
     · exact hx h'
 · obtain⟨⟨r,g1,g2⟩,g3⟩:=hb.cfx k b hkb
   obtain⟨⟨r',k1,k2⟩,k3⟩:=hb1.cfx k b ⟨r,List.mem_append_right _ g1,g2⟩
   have:(k,r')∈C.roots:=by
    rcases List.mem_append.mp k1 with k1'|k1'
    · have hn2:=h1.keys
      simp only[List.map_append]at hn2
      have:=(List.nodup_append.mp (List.nodup_append.mp hn2).2.1).2.2 k (List.mem_map.mpr ⟨_,k1',rfl⟩) k (List.mem_map.mpr ⟨_,g1,rfl⟩)
      exact absurd rfl this
    · exact k1'
   exact⟨⟨r',this,k2⟩,k3.trans g3⟩
theorem opsP_ok (hE:∀ t s,E.sh t=some s→ShOk P s none t) (hG:∀ f us rs outs,E.gives f us rs outs→GivesS P f us rs outs) (hsel:∀(j:Nat) (o:Oper) cs b,ops[j]? = some o→o.op≠.select cs b)
  (hQ:∀ c a w,¬ Q (.panic c) a w) {n:Nat} (hd:∀ o∈ops.toList,∀ t,o.dst=some t→t<n) :
  ∀ {p:Pl} {C s:St} {X:Fr} {w0:World} {rc:Nat→RC} {a:Act} {w:World} {L Lr L':Array Bool} {G:List Nat} {st:Nat→Option Nat} {head:Bool} {S:Array Bool→World→Prop} {U:Nat→Prop} {m:Nat} {K:St→Prop} {X1:Fr} {w1:World},
   Rel rc [] C s X1 w1 a w→Over X1 w1 X w0→X1.n=n→Pends P ops C X w0 X1 w1 a L Lr G st→clearG ops.toList s G=true→rokP ops p head L G=some L'→opsP E ops.toList p G C s K→
   (∀ {rc s a w'} L,Rel rc [] C s X w0 a w'→S L w')→(∀ i∈plOps p,∀ L w',S (L.setIfInBounds i true) w'→S L w')→(head=true→HeadOk ops C s X w0 X1 rc w S U p)→
   (∀ s1 rc1 a1 w2 X2 w3 Lr' st',K s1→Rel rc1 [] C s1 X2 w3 a1 w2→Over X2 w3 X w0→X2.n=n→Pends P ops C X w0 X2 w3 a1 L' Lr' (gOf p G) st'→clearG ops.toList s1 (gOf p G)=true→
    wpAnyS P .any ops Q S (und (gOf p G) st'+m) Lr' a1 w2)→
   wpAnyS P .any ops Q S (plen p+(und G st+m)) Lr a w:=by
 intro p
 induction p with
 | nil=>
   intro C s X w0 rc a w L Lr L' G st head S U m K X1 w1 h hov hn hp hc hr hk hS hSm hH cont
   simp only[rokP,Option.some.injEq]at hr
   subst hr
   simp only[plen,Nat.zero_add]
   exact cont s rc a w X1 w1 Lr st hk h hov hn hp hc
 | op i r ih=>
   intro C s X w0 rc a w L Lr L' G st head S U m K X1 w1 h hov hn hp hc hr hk hS hSm hH cont
   obtain⟨o,ho,hno,hi,hr⟩:=rokP_op hr
   simp only[opsP,Array.getElem?_toList,ho]at hk
   have hiG:i∉G:=fun hm=>by have:=getD_tf (hp.lst i hm);rw[(mem_ready.1 hi).1]at this;cases this
   rcases hr with⟨ht,hf,hap,hr⟩|⟨hi1,hr⟩
   · have hdo:∀ t,o.dst=some t→t<X1.n:=by rw[hn];exact hd o (Array.mem_toList_iff.mpr (Array.mem_of_getElem? ho))
     have hfu:plen (.op i r)+(und G st+m)=(plen r+(und G st+m))+1:=by simp only[plen];omega
     rw[hfu]
     have hir:=hp.ready hi ho hno
     obtain⟨c,s1,hy,hk1,hr1,h1⟩:=opM_tmp (ops:=ops) hE h hdo ht hk
     split at hk1
     case h_2=>exact hk1.elim
     rename_i hc1
     refine wpAnyS_first (D:=fun _=>False) (Si:=fun _=>True) ho hsel (fun c a w hq=>absurd hq (hQ _ _ _)) (fun _ _ _ h=>h.elim) (fun _ _ _ _=>trivial) (fun L w' _ hs=>hSm i (by simp[plOps]) L w' hs)
      (plen r+(und G st+m)) Lr a w (fun j oj hj hji hun hno'=>?_) hir (fun _ h=>h.elim) hy trivial (hS _ (hov.back h)) ?_
     · by_cases hjG:j∈G∧st j=none
       · exact apG_spec hap hjG.1 hj
       · exact Region.free_spec ho hf j oj hj hji (by rw[←hp.same j hjG];exact hun) hno'
     · refine ih (U:=U) h1 hov hn (hp.put hsel hir ho hiG) hc1 hr hk1 hS (fun k hk=>hSm k (by simp[plOps,hk])) (fun hh=>?_) cont
       have:=hH hh
       exact⟨this.w,by rw[hr1];exact this.x,this.c,this.S,this.D,by rw[show getR C s1=getR C s by funext k;unfold getR;rw[hr1]];exact this.lk⟩
   · have key:∀(u:Nat) {rc:Nat→RC} {a:Act} {w:World} {Lr:Array Bool} {st:Nat→Option Nat} {X1:Fr} {w1:World},und G st=u→Rel rc [] C s X1 w1 a w→Over X1 w1 X w0→X1.n=n→Pends P ops C X w0 X1 w1 a L Lr G st→
       wpAnyS P .any ops Q S (plen (.op i r)+(u+m)) Lr a w:=by
      intro u
      induction u with
      | zero=>
        intro rc a w Lr st X1 w1 hu h hov hn hp
        have hdo:∀ t,o.dst=some t→t<X1.n:=by rw[hn];exact hd o (Array.mem_toList_iff.mpr (Array.mem_of_getElem? ho))
        have hir:=hp.ready hi ho hno
        have hfu:plen (.op i r)+(0+m)=(plen r+(und G st+m))+1:=by simp only[plen];omega
        rw[hfu]
        refine⟨fun h0=>(by rw[h0]at hir;cases hir),fun j hj=>?_⟩
        rcases hp.ready_or hj with⟨hj1,_⟩|⟨hj1,hj2⟩
        · rw[hi1]at hj1
          obtain rfl:=List.mem_singleton.mp hj1
          refine wpOp_mono ?_ (opM_any hE hG h ho hdo hk)
          rintro a' w' ⟨c,s1,rc1,rfl,hk1,h1⟩
          split at hk1
          case h_2=>exact hk1.elim
          rename_i hc1
          exact⟨hS _ (hov.back h1),ih (U:=U) h1 hov hn (hp.put hsel hir ho hiG) hc1 hr hk1 hS (fun k hk=>hSm k (by simp[plOps,hk])) (fun hh=>by cases hh) cont⟩
        · refine alloc_step h hov hsel hp hc hj1 hj2 ?_
          intro X2 w2 a2 st2 _ _ _ hu2
          omega
      | succ u ihu=>
        intro rc a w Lr st X1 w1 hu h hov hn hp
        have hdo:∀ t,o.dst=some t→t<X1.n:=by rw[hn];exact hd o (Array.mem_toList_iff.mpr (Array.mem_of_getElem? ho))
        have hir:=hp.ready hi ho hno
        have hfu:plen (.op i r)+(u+1+m)=(plen r+(und G st+m))+1:=by simp only[plen];omega
        rw[hfu]
        refine⟨fun h0=>(by rw[h0]at hir;cases hir),fun j hj=>?_⟩
        rcases hp.ready_or hj with⟨hj1,_⟩|⟨hj1,hj2⟩
        · rw[hi1]at hj1
          obtain rfl:=List.mem_singleton.mp hj1
          refine wpOp_mono ?_ (opM_any hE hG h ho hdo hk)
          rintro a' w' ⟨c,s1,rc1,rfl,hk1,h1⟩
          split at hk1
          case h_2=>exact hk1.elim
          rename_i hc1
          exact⟨hS _ (hov.back h1),ih (U:=U) h1 hov hn (hp.put hsel hir ho hiG) hc1 hr hk1 hS (fun k hk=>hSm k (by simp[plOps,hk])) (fun hh=>by cases hh) cont⟩
        · refine alloc_step h hov hsel hp hc hj1 hj2 ?_
          intro X2 w2 a2 st2 h2 hov2 hp2 hu2
          refine⟨hS _ (hov2.back h2),?_⟩
          have hfu2:plen r+(und G st+m)=plen (.op i r)+(u+m):=by simp only[plen];omega
          rw[hfu2]
          exact ihu (by omega) h2 hov2 (by rw[hov2.n,←hov.n];exact hn) hp2
     exact key _ rfl h hov hn hp
 | mem i r ih=>
   intro C s X w0 rc a w L Lr L' G st head S U m K X1 w1 h hov hn hp hc hr hk hS hSm hH cont
   obtain⟨o,ho,hh,hi,hf,hno,hap,hr⟩:=rokP_mem hr
   have H:=hH hh
   simp only[opsP,Array.getElem?_toList,ho]at hk
   have hiG:i∉G:=fun hm=>by have:=getD_tf (hp.lst i hm);rw[(mem_ready.1 hi).1]at this;cases this
   have hdo:∀ t,o.dst=some t→t<X1.n:=by rw[hn];exact hd o (Array.mem_toList_iff.mpr (Array.mem_of_getElem? ho))
   have hfu:plen (.mem i r)+(und G st+m)=(plen r+(und G st+m))+1:=by simp only[plen];omega
   rw[hfu]
   have hir:=hp.ready hi ho hno
   split at hk
   · rename_i hmk
     unfold memKeys at hmk
     cases hx:memOp o.op with
     |none=>rw[hx]at hmk;simp at hmk
     | some x=>
       rw[hx]at hmk
       simp only at hmk
       let F:Nat→Prop:=fun b=>b<w0.heap.size∧(b∉X.x∨∃ k,X.c k b)
       obtain⟨c,s1,hy,hk1,hr1,h1⟩:=opM_mem (ops:=ops) hE h hdo hx hk (F:=F)
        (fun b hb=>⟨by rw[←H.w];exact hb.1,.inl fun hm=>(H.x b hm).elim (fun hm=>hb.2 (by simpa using hm)) (fun hm=>hm hb.3)⟩)
        (fun v hv k hkv r hr b hb=>by
         rw[hv]at hmk
         simp only at hmk
         have h2:=List.all_eq_true.mp hmk k hkv
         obtain⟨r',hr'⟩:=Option.isSome_iff_exists.mp h2
         have hm:=(mem_getR h.keys).mp hr
         have hm':=look_mem hr'
         have:r=r':=by
          have e1:=mem_look h.keys hm
          have e2:=mem_look h.keys (List.mem_append_right s.roots hm')
          rw[e1]at e2;cases e2;rfl
         subst this
         refine⟨?_,.inr ⟨k,H.c k r hm' b hb⟩⟩
         rw[←H.w]
         exact(h.bnd b (by simp;exact mem_allB.mpr ⟨k,r,hm,hb⟩)).1)
       split at hk1
       case h_2=>exact hk1.elim
       rename_i hc1
       have hyS:YieldsIf P ops (Sx X w0) o c a:=yields_imp (S:=fun w'=>∀ b,F b→w'.heap[b]? = w.heap[b]?) (fun w' hs b hb=>by
        rcases hb with⟨hb1,hb2|⟨k,hb2⟩⟩
        · rw[hs.1.block b hb1 hb2,H.w]
        · rw[hs.2 k b hb2,H.w]) hy
       have hdep:=fun j=>Dep.unlisted hp.cl (mem_ready.1 hir).1 j
       have hb:=hov.back h
       refine wpAnyS_first (D:=Dep ops i) (Si:=Sx X w0) ho hsel (fun c a w hq=>absurd hq (hQ _ _ _)) (fun j oj hj hD=>?_) (fun L w' hn hs=>H.S L w' (fun j hj=>hn j (H.D i (by simp[mems]) j hj)) hs)
        (fun L w' _ hs=>hSm i (by simp[plOps]) L w' hs) (plen r+(und G st+m)) Lr a w (fun j oj hj hji hun hno'=>?_) hir hdep hyS ⟨hb.ext,fun k b hkb=>(hb.cfx k b hkb).2⟩ (hS _ hb) ?_
       · obtain⟨e,he,hb,h'⟩:=hD.spec hj
         exact⟨e,he,hb,h'.imp id (·.2)⟩
       · by_cases hjG:j∈G∧st j=none
         · exact apG_spec hap hjG.1 hj
         · exact Region.free_spec ho hf j oj hj hji (by rw[←hp.same j hjG];exact hun) hno'
       · refine ih (U:=U) h1 hov hn (hp.put hsel hir ho hiG) hc1 hr hk1 hS (fun k hk=>hSm k (by simp[plOps,hk])) (fun _=>?_) cont
         exact⟨H.w,by rw[hr1];exact H.x,H.c,H.S,fun j hj=>H.D j (by simp[mems,hj]),by rw[show getR C s1=getR C s by funext k;unfold getR;rw[hr1]];exact H.lk⟩
   · exact hk.elim
 | skip i r ih=>
   intro C s X w0 rc a w L Lr L' G st head S U m K X1 w1 h hov hn hp hc hr hk hS hSm hH cont
   obtain⟨o,ho,hno,hi,hf,hap,hr⟩:=rokP_skip hr
   simp only[opsP,Array.getElem?_toList,ho]at hk
   have hiG:i∉G:=fun hm=>by have:=getD_tf (hp.lst i hm);rw[(mem_ready.1 hi).1]at this;cases this
   split at hk
   case h_2=>exact hk.elim
   rename_i hgb
   have hw:=guardB_ok h hgb
   have hdo:∀ t,o.dst=some t→t<X1.n:=by rw[hn];exact hd o (Array.mem_toList_iff.mpr (Array.mem_of_getElem? ho))
   have hfu:plen (.skip i r)+(und G st+m)=(plen r+(und G st+m))+1:=by simp only[plen];omega
   rw[hfu]
   have hir:=hp.ready hi ho hno
   obtain⟨s1,hk1,hr1,h1⟩:=skipM_ok h hdo hk
   have hy:YieldsIf P ops (fun _=>True) o undef a:=.inr ⟨hw,rfl⟩
   split at hk1
   case h_2=>exact hk1.elim
   rename_i hc1
   refine wpAnyS_first (D:=fun _=>False) (Si:=fun _=>True) ho hsel (fun c a w hq=>absurd hq (hQ _ _ _)) (fun _ _ _ h=>h.elim) (fun _ _ _ _=>trivial) (fun L w' _ hs=>hSm i (by simp[plOps]) L w' hs)
    (plen r+(und G st+m)) Lr a w (fun j oj hj hji hun hno'=>?_) hir (fun _ h=>h.elim) hy trivial (hS _ (hov.back h)) ?_
   · by_cases hjG:j∈G∧st j=none
     · exact apG_spec hap hjG.1 hj
     · exact Region.free_spec ho hf j oj hj hji (by rw[←hp.same j hjG];exact hun) hno'
   · refine ih (U:=U) h1 hov hn (hp.put hsel hir ho hiG) hc1 hr hk1 hS (fun k hk=>hSm k (by simp[plOps,hk])) (fun hh=>?_) cont
     have:=hH hh
     exact⟨this.w,by rw[hr1];exact this.x,this.c,this.S,this.D,by rw[show getR C s1=getR C s by funext k;unfold getR;rw[hr1]];exact this.lk⟩
 | br j pa pb iha ihb=>
   intro C s X w0 rc a w L Lr L' G st head S U m K X1 w1 h hov hn hp hc hr hk hS hSm hH cont
   obtain⟨hh0,hpl,hgo,hra,hrb⟩:=rokP_br hr
   simp only[opsP]at hk
   cases hd0:dstOf ops.toList j with
   |none=>rw[hd0]at hk;exact hk.elim
   | some t=>
     rw[hd0]at hk
     simp only[Option.bind_some]at hk
     cases hv:getT C s t with
     |none=>rw[hv]at hk;exact hk.elim
     | some v=>
       rw[hv]at hk
       simp only[Option.map_some]at hk
       cases v with
       | t sh oo x=>
         cases sh<;>try (exact hk.elim)
         cases oo<;>try (exact hk.elim)
         obtain⟨c,hcv,hvo⟩:=h.getT hv
         obtain⟨x,rfl⟩:∃ b':Bool,b'=x:=⟨x,rfl⟩
         have hcb:=VOk.bool hvo
         subst hcb
         simp only at hk
         cases x with
         | true=>
           simp only[bcase]at hk
           cases hpt:put C s t (.t .bool .z true)with
           |none=>rw[hpt]at hk;exact hk.elim
           | some s1=>
             rw[hpt]at hk
             simp only at hk
             split at hk
             case h_2=>exact hk.elim
             rename_i hc1
             have h1:=h.reput hpt hcv vok_bool
             exact iha (U:=U) (head:=false) h1 hov hn hp hc1 hra hk hS (fun k hk=>hSm k (by simp[plOps,hk])) (fun hh=>by cases hh) cont
         | false=>
           simp only[bcase]at hk
           cases hpt:put C s t (.t .bool .z false)with
           |none=>rw[hpt]at hk;exact hk.elim
           | some s1=>
             rw[hpt]at hk
             simp only at hk
             split at hk
             case h_2=>exact hk.elim
             rename_i hc1
             have h1:=h.reput hpt hcv vok_bool
             have:=ihb (U:=U) (head:=false) (K:=K) h1 hov hn hp hc1 hrb hk hS (fun k hk=>hSm k (by simp[plOps,hk])) (fun hh=>by cases hh) (by rw[←hgo];exact cont)
             rw[show plen (.br j pa pb)=plen pb by simp only[plen];exact hpl]
             exact this
       |_=>exact hk.elim
 | memL i k p k' r ih=>
   intro C s X w0 rc a w L Lr L' G st head S U m K X1 w1 h hov hn hp hc hr hk hS hSm hH cont
   obtain⟨o,ho,hh,hi,hf,hno,hap,hr⟩:=rokP_memL hr
   have H:=hH hh
   simp only[opsP,Array.getElem?_toList,ho]at hk
   have hiG:i∉G:=fun hm=>by have:=getD_tf (hp.lst i hm);rw[(mem_ready.1 hi).1]at this;cases this
   have hdo:∀ t,o.dst=some t→t<X1.n:=by rw[hn];exact hd o (Array.mem_toList_iff.mpr (Array.mem_of_getElem? ho))
   have hfu:plen (.memL i k p k' r)+(und G st+m)=(plen r+(und G st+m))+1:=by simp only[plen];omega
   rw[hfu]
   have hir:=hp.ready hi ho hno
   split at hk
   · rename_i hmk
     obtain⟨c,s1,hy,⟨r0,hmr,hmb⟩,hk1,hr1,h1⟩:=memL_ok (ops:=ops) hE h hdo (H.lk _ (by simp[links])) hmk hk
     split at hk1
     case h_2=>exact hk1.elim
     rename_i hc1
     have hyS:YieldsIf P ops (Sx X w0) o c a:=yields_imp (S:=fun w'=>w'.heap[(rc k).blk]? = w.heap[(rc k).blk]?) (fun w' hs=>by
      rw[hs.2 k _ (H.c k r0 hmr _ hmb),H.w]) hy
     have hdep:=fun j=>Dep.unlisted hp.cl (mem_ready.1 hir).1 j
     have hb:=hov.back h
     refine wpAnyS_first (D:=Dep ops i) (Si:=Sx X w0) ho hsel (fun c a w hq=>absurd hq (hQ _ _ _)) (fun j oj hj hD=>?_) (fun L w' hn hs=>H.S L w' (fun j hj=>hn j (H.D i (by simp[mems]) j hj)) hs)
      (fun L w' _ hs=>hSm i (by simp[plOps]) L w' hs) (plen r+(und G st+m)) Lr a w (fun j oj hj hji hun hno'=>?_) hir hdep hyS ⟨hb.ext,fun k b hkb=>(hb.cfx k b hkb).2⟩ (hS _ hb) ?_
     · obtain⟨e,he,hb,h'⟩:=hD.spec hj
       exact⟨e,he,hb,h'.imp id (·.2)⟩
     · by_cases hjG:j∈G∧st j=none
       · exact apG_spec hap hjG.1 hj
       · exact Region.free_spec ho hf j oj hj hji (by rw[←hp.same j hjG];exact hun) hno'
     · refine ih (U:=U) h1 hov hn (hp.put hsel hir ho hiG) hc1 hr hk1 hS (fun k hk=>hSm k (by simp[plOps,hk])) (fun _=>?_) cont
       exact⟨H.w,by rw[hr1];exact H.x,H.c,H.S,fun j hj=>H.D j (by simp[mems,hj]),by rw[show getR C s1=getR C s by funext k;unfold getR;rw[hr1]];exact fun q hq=>H.lk q (by simp[links,hq])⟩
   · exact hk.elim
 | chk pk b r ihb ihr=>
   intro C s X w0 rc a w L Lr L' G st head S U m K X1 w1 h hov hn hp hc hr hk hS hSm hH cont
   obtain⟨L1,hrb,hD,hrr⟩:=rokP_chk hr
   simp only[opsP]at hk
   split at hk
   case h_2=>exact hk.elim
   rename_i s0 hspl
   split at hk
   case h_2=>exact hk.elim
   rename_i hc0
   obtain⟨rc0,h0,_,hlk0⟩:=splitLs_ok h hspl
   clear hH hc hspl
   revert h0 hlk0 hk hc0
   generalize s0=s,rc0=rc
   intro hc hk h hlk0
   split at hk
   · rename_i cr hcr hnd
     have hnd:=nodupN_iff hnd
     have hin:=h.into hcr hnd
     let rs:List Nat:=G.filterMap st
     let Xi:=innerFr X1 rc C s cr
     let X':Fr:=⟨rs++Xi.x,fun b=>Xi.z b∨b∈rs,Xi.c,Xi.n,Xi.ic,Xi.ib⟩
     have hperm:=consts_perm hcr hnd (by have:=h.keys;rw[List.map_append]at this;exact(List.nodup_append.mp this).1)
     have hpe:∀ i∈G,∀ q,st i=some q→∃ ob,w1.heap[q]? = some ob∧q∉X1.x∧¬ X1.z q∧(w0.heap.size≤q∨q∈X.x):=fun i hi q hq=>by
      obtain⟨_,_,ob,_,_,_,_,_,_,_,_,_,_,e8⟩:=hp.e i hi
      rw[hq]at e8
      exact⟨ob,e8.2.2⟩
     have hlt:∀ q ob,w1.heap[q]? = some ob→q<w1.heap.size:=fun q ob hq=>by
      rcases Nat.lt_or_ge q w1.heap.size with h'|h'
      · exact h'
      · rw[Array.getElem?_eq_none h']at hq;cases hq
     have hov':Over Xi w X' w:=by
      refine⟨rfl,rfl,rfl,fun b hb=>.inl hb,fun b hb=>.inr (List.mem_append_right _ hb),Ext.refl' _ _,fun _ _ h=>⟨h,rfl⟩,⟨fun b hb=>.inl (hin.zok.1 b hb),fun b hb=>?_⟩⟩
      rcases List.mem_append.mp hb with hb|hb
      · exact .inr hb
      · exact .inl (hin.zok.2 b hb)
     have hp':Pends P ops ⟨C.tmps,cr++C.roots⟩ X' w Xi w a L Lr G st:=hp.reframe rfl rfl fun i hi q hq ob h1 h2 h3 h4=>by
      refine⟨by rw[h.ext.block q (hlt q ob h1) h2];exact h1,fun hm=>h3 (h.zin hm),h3,.inr (List.mem_append_left _ (List.mem_filterMap.mpr ⟨i,hi,hq⟩))⟩
     have hfu:plen (.chk pk b r)+(und G st+m)=plen b+(und G st+(plen r+m)):=by simp only[plen];omega
     rw[hfu]
     let U':Nat→Prop:=fun j=>L1.getD j true=false
     let S':Array Bool→World→Prop:=fun L w'=>S L w'∧((∀ j,U' j→L.getD j false=false)→Sx X' w w')
     obtain⟨hm0,_,hl1⟩:=rokP_size hrb
     have hm1:L1.size=ops.size:=hm0.trans hp.sz
     have hrs:∀ q∈rs,w0.heap.size≤q∨q∈X.x:=fun q hq=>by
      obtain⟨i,hi,hq⟩:=List.mem_filterMap.mp hq
      obtain⟨_,_,_,_,h4⟩:=hpe i hi q hq
      exact h4
     have hout:=fun {rc1 s1 a1 w2 X2 w3} h1 ho1=>out_frame (rs:=rs) (cr:=cr) (rc1:=rc1) (s1:=s1) (a1:=a1) (w2:=w2) (X2:=X2) (w3:=w3) h hov hcr hnd hrs h1 ho1
     refine wpAnyS_weak (S':=S') (fun _ _ h=>h.1) _ _ _ _ (ihb (U:=U') (X:=X') (w0:=w) (S:=S') (X1:=Xi) (w1:=w) hin hov' hn hp' (clearG_of fun i hi=>clearG_spec hc i hi) hrb hk ?_ ?_ ?_ ?_)
     · intro rc1 s1 a1 w1' L h1
       obtain⟨g1,g2⟩:=hout h1 (Over.refl h1)
       exact⟨hS L (g2.back g1),fun _=>⟨h1.ext,fun k b hkb=>(h1.cfx k b hkb).2⟩⟩
     · intro i hi L w' hs
       refine⟨hSm i (by simp[plOps,hi]) L w' hs.1,fun hn=>hs.2 fun j hj=>?_⟩
       have hij:i≠j:=by
        rintro rfl
        have:=hl1 i hi
        rw[getD_ft hj]at this;cases this
       rw[getD_set_ne false hij];exact hn j hj
     · intro _
       refine⟨rfl,fun b' hb'=>?_,fun k r' hk' b' hb'=>⟨r',hk',hb'⟩,fun L w' hn hs=>hs.2 hn,fun i hi j hj=>hD i hi j (by have:=getD_size hj;rw[hm1]at this;exact this) hj,fun q hq=>?_⟩
       rotate_left
       · obtain⟨r1,u1,n1,n2,n3⟩:=hlk0 q hq
         have hpm:∀ j r',getR C s j=some r'→getR ⟨C.tmps,cr++C.roots⟩ ⟨s.tmps,delKeys pk s.roots⟩ j=some r':=fun j r' hj=>by
          refine(mem_getR hin.keys).mpr ?_
          have hpp:(delKeys pk s.roots++(cr++C.roots)).Perm (s.roots++C.roots):=by rw[←List.append_assoc];exact hperm.symm.append_right _
          exact hpp.mem_iff.mpr ((mem_getR h.keys).mp hj)
         exact⟨r1,u1,hpm _ _ n1,hpm _ _ n2,n3⟩
       rcases List.mem_append.mp hb' with hb'|hb'
       · right
         obtain⟨i,hi,hq⟩:=List.mem_filterMap.mp hb'
         obtain⟨_,_,_,h3,_⟩:=hpe i hi b' hq
         exact h3
       · left
         have:(allB rc (delKeys pk s.roots++(cr++C.roots))).Perm (allB rc (s.roots++C.roots)):=allB_perm (by rw[←List.append_assoc];exact hperm.symm.append_right _)
         exact this.mem_iff.mpr hb'
     · intro s1 rc1 a1 w2 X2 w3 Lr' st' hk1 h1 hov1 hn1 hp1 hc1
       have hb1:=hov1.back h1
       refine wpAnyS_more' (S0:=Sx X' w) (U:=U') (G:=gOf b G) (fun w' ob hs=>hs.alloc (fun k b' hk'=>?_) ob) hsel _ _ _ _ (fun j hj=>?_) (.inr ⟨⟨hb1.ext,fun k b hkb=>(hb1.cfx k b hkb).2⟩,fun j hj hju=>?_⟩) ?_
       · obtain⟨q,g1,g2⟩:=hk'
         exact(hin.bnd b' (by simpa using mem_allB.mpr ⟨k,q,List.mem_append_right _ g1,g2⟩)).1
       · by_cases hjG:j∈gOf b G∧st' j=none
         · exact .inr hjG.1
         · left;show L1.getD j true=false;rw[←hp1.same j hjG];exact hj
       · obtain⟨o,d,ob,f,e1,e2,e3,e4,e5,e6,e6',e6'',e7,e8⟩:=hp1.e j hj
         exact⟨o,ob,f,e1,e3,e5,fun k ok u k1 k2 k3 k4=>(e7 k ok u k1 k2 k3 k4).1⟩
       · obtain⟨g1,g2⟩:=hout h1 hov1
         have hfu2:und (gOf b G) st'+(plen r+m)=plen r+(und (gOf b G) st'+m):=by omega
         rw[hfu2]
         refine ihr (U:=U) (head:=false) g1 g2 (by rw[←hn1];rfl) ?_ (clearG_of fun i hi=>clearG_spec hc1 i hi) hrr hk1 hS (fun k hk=>hSm k (by simp[plOps,hk])) (fun hh=>by cases hh) cont
         refine hp1.reframe rfl rfl fun i hi q hq ob k1 k2 k3 k4=>?_
         have hq3:q<w3.heap.size:=by
          rcases Nat.lt_or_ge q w3.heap.size with h'|h'
          · exact h'
          · rw[Array.getElem?_eq_none h']at k1;cases k1
         refine⟨by rw[h1.ext.block q hq3 k2];exact k1,fun hm=>k3 ?_,fun hz=>?_,?_⟩
         · have hP:(allB rc1 ((s1.roots++cr)++C.roots)).Perm (allB rc1 (s1.roots++(cr++C.roots))):=allB_perm (by rw[List.append_assoc])
           exact h1.zin (hP.mem_iff.mp hm)
         · rcases hz with hz|hz
           · exact k3 hz
           · cases hz
         · rcases k4 with k4|k4
           · exact .inl (Nat.le_trans (hov.back h).ext.size k4)
           · rcases List.mem_append.mp k4 with k4|k4
             · exact hrs q k4
             · have k5:q∈allB rc (s.roots++C.roots):=k4
               exact((hov.back h).bnd q (by simpa using k5)).2
   · exact hk.elim
 | late i r ih=>
   intro C s X w0 rc a w L Lr L' G st head S U m K X1 w1 h hov hn hp hc hr hk hS hSm hH cont
   obtain⟨o,ho,hlo,hi,hiG,hno,⟨d,hdst,hdl⟩,hwr,hr⟩:=rokP_late hr
   simp only[opsP,Array.getElem?_toList,ho]at hk
   split at hk
   · rename_i hlc
     unfold lateC at hlc
     rw[Bool.and_eq_true,Bool.and_eq_true,hdst]at hlc
     obtain⟨⟨_,hcd⟩,hg⟩:=hlc
     have hg:=guardB_ok h hg
     have hcd:look d C.tmps=none:=by
      simp only at hcd
      split at hcd
      · assumption
      · cases hcd
     rw[hdst]at hk
     simp only[Option.getD_some]at hk
     obtain⟨hk0,hk⟩:=hk
     obtain⟨ob,f,hlay,_⟩:=late_ok hE h hlo hk0
     have hir:=hp.ready hi ho hno
     obtain⟨hiu,o',ho',hia⟩:=mem_ready.1 hir
     rw[ho]at ho';cases ho'
     have hdn:d<X1.n:=by rw[hn];exact hd o (Array.mem_toList_iff.mpr (Array.mem_of_getElem? ho)) d hdst
     let st':Nat→Option Nat:=fun k=>if k=i then none else st k
     have hs':∀ k,k≠i→st' k=st k:=fun k hk=>if_neg hk
     have hun:und (i::G) st'=und G st+1:=by
      unfold und
      have e:G.filter (fun j=>(st' j).isNone)=G.filter fun j=>(st j).isNone:=List.filter_congr fun j hj=>by rw[hs' j (by rintro rfl;exact hiG hj)]
      rw[List.filter_cons,e]
      have:(st' i).isNone=true:=by simp[st']
      rw[this];simp
     have hfu:plen (.late i r)+(und G st+m)=plen r+(und (i::G) st'+m):=by rw[hun];simp only[plen];omega
     rw[hfu]
     refine ih (U:=U) (s:=⟨dropT d s.tmps,s.roots⟩) (rc:=rc) (L:=L.setIfInBounds i true) (G:=i::G) (h.dropT d) hov hn ?_ ?_ hr hk hS (fun k hk=>hSm k (by simpa [plOps]using hk)) (fun hh=>?_) cont
     · refine ⟨hp.cl,fun j hj b=>?_,fun j hj=>?_,fun j hj=>?_,fun x hx y hy q h1 h2=>?_,List.nodup_cons.mpr ⟨hiG,hp.nd⟩,by rw[Array.size_setIfInBounds];exact hp.sz⟩
       · have hji:j≠i:=by rintro rfl;exact hj ⟨by simp,by simp[st']⟩
         rw[getD_set_ne b (Ne.symm hji)]
         exact hp.same j (fun hh=>hj ⟨List.mem_cons_of_mem _ hh.1,by rw[hs' j hji];exact hh.2⟩) b
       · rcases List.mem_cons.mp hj with rfl|hj
         · have h0:=(mem_ready.1 hi).1
           simp[getD_size h0]
         · exact getD_set_true (hp.lst j hj)
       · by_cases hji:j=i
         · subst hji
           refine⟨o,d,ob,f,ho,hdst,hg,hlo,hlay,hdl,hcd,hdn,fun k ok u hk1 hk2 hk3 hk4=>?_,?_⟩
           · have:=wrOk_spec hwr hk1 hk2 (by
              by_cases hkG:k∈G∧st k=none
              · exact .inr hkG.1
              · rw[hp.same k hkG]at hk3;exact .inl (getD_ft hk3)) hk4
             exact⟨this.1,fun e=>this.2 (by rw[hdst,e])⟩
           · simp only[st',if_true]
             exact⟨hiu,hia⟩
         · rw[hs' j hji]
           rcases List.mem_cons.mp hj with rfl|hj
           · exact absurd rfl hji
           · exact hp.e j hj
       · have hx':x≠i:=by rintro rfl;simp[st']at h1
         have hy':y≠i:=by rintro rfl;simp[st']at h2
         rw[hs' x hx']at h1;rw[hs' y hy']at h2
         exact hp.inj x ((List.mem_cons.mp hx).resolve_left hx') y ((List.mem_cons.mp hy).resolve_left hy') q h1 h2
     · refine clearG_of fun j hj=>?_
       rcases List.mem_cons.mp hj with rfl|hj
       · refine⟨d,?_,by show look d (dropT d s.tmps)=none;rw[look_dropT,if_pos rfl]⟩
         unfold dstOf
         rw[Array.getElem?_toList,ho]
         exact hdst
       · obtain⟨d2,g1,g2⟩:=clearG_spec hc j hj
         refine⟨d2,g1,?_⟩
         show look d2 (dropT d s.tmps)=none
         rw[look_dropT,g2];simp
     · have:=hH hh
       exact⟨this.w,this.x,this.c,this.S,this.D,this.lk⟩
   · exact hk.elim
 | soft k p r ih=>
   intro C s X w0 rc a w L Lr L' G st head S U m K X1 w1 h hov hn hp hc hr hk hS hSm hH cont
   simp[rokP]at hr
 | frz k r ih=>
   intro C s X w0 rc a w L Lr L' G st head S U m K X1 w1 h hov hn hp hc hr hk hS hSm hH cont
   simp[rokP]at hr
 | drain t r ih=>
   intro C s X w0 rc a w L Lr L' G st head S U m K X1 w1 h hov hn hp hc hr hk hS hSm hH cont
   simp[rokP]at hr
 | now i r ih=>
   intro C s X w0 rc a w L Lr L' G st head S U m K X1 w1 h hov hn hp hc hr hk hS hSm hH cont
   obtain⟨hiG,hwt,hr⟩:=rokP_now hr
   have key:∀(u:Nat) {rc:Nat→RC} {a:Act} {w:World} {Lr:Array Bool} {st:Nat→Option Nat} {X1:Fr} {w1:World},und G st=u→Rel rc [] C s X1 w1 a w→Over X1 w1 X w0→X1.n=n→Pends P ops C X w0 X1 w1 a L Lr G st→
     wpAnyS P .any ops Q S (plen (.now i r)+(u+m)) Lr a w:=by
    have done:∀ {rc:Nat→RC} {a:Act} {w:World} {Lr:Array Bool} {st:Nat→Option Nat} {X1:Fr} {w1:World} {q:Nat},st i=some q→Rel rc [] C s X1 w1 a w→Over X1 w1 X w0→X1.n=n→Pends P ops C X w0 X1 w1 a L Lr G st→
      wpAnyS P .any ops Q S (plen (.now i r)+(und G st+m)) Lr a w:=by
     intro rc a w Lr st X1 w1 q hst h hov hn hp
     obtain⟨o,d,ob,f,e1,e2,e3,e4,e5,e6,e6',e6'',e7,e8⟩:=hp.e i hiG
     rw[hst]at e8
     obtain⟨q1,q2,q3,q4,q5,q6⟩:=e8
     simp only[opsP,Array.getElem?_toList,e1]at hk
     split at hk
     case h_2=>exact hk.elim
     have hq1:q<w1.heap.size:=by
      rcases Nat.lt_or_ge q w1.heap.size with h'|h'
      · exact h'
      · rw[Array.getElem?_eq_none h']at q3;cases q3
     have hqw:q<w.heap.size:=Nat.lt_of_lt_of_le hq1 h.ext.size
     have hfr:=h.fresh (l:=[q]) (by intro b hb;obtain rfl:=List.mem_singleton.mp hb;exact⟨hqw,q5⟩) (by simp)
     have hov2:=hov.fresh h (l:=[q]) (by intro b hb;obtain rfl:=List.mem_singleton.mp hb;exact q6)
     obtain⟨ob',f',l1,l2⟩:=late_ok hE hfr e4 hk
     have hob:ob'=ob∧f' q=f q:=by
      let w':World:={ w with heap:=w.heap.extract 0 q }
      have hs:w'.heap.size=q:=by simp[w'];omega
      have g1:=e5 w';have g2:=l1 w'
      rw[g1]at g2
      have hv:f w'.heap.size=f' w'.heap.size:=by
       injection g2 with g3 g4
       injection g3
      have hw:w'.alloc ob=w'.alloc ob':=by
       injection g2
      refine⟨?_,by rw[hs]at hv;exact hv.symm⟩
      have h1:=alloc_get w' ob;have h2:=alloc_get w' ob'
      rw[hw,h2]at h1
      cases h1;rfl
     obtain⟨v,s1,rc1,hk1,h1,hv⟩:=l2 q rfl (by rw[hob.1,h.ext.block q hq1 q4];exact q3)
     rw[hob.2]at hv
     obtain⟨s2,hk2,_,h2⟩:=putM_ok h1 (fun t ht=>by rw[e2]at ht;cases ht;exact e6'') hv hk1
     have hput:a.put o.dst (f q)=a:=by rw[e2];exact put_same q2
     rw[hput]at h2
     split at hk2
     case h_2=>exact hk2.elim
     rename_i hc2
     have hun:und (remN i G) st=und G st:=by
      unfold und
      have:∀ l:List Nat,((remN i l).filter fun j=>(st j).isNone)=l.filter fun j=>(st j).isNone:=by
       intro l
       induction l with
       |nil=>rfl
       | cons k l ih=>
         simp only[remN]
         split
         · rename_i hki
           have:=Nat.eq_of_beq_eq_true hki
           subst this
           rw[ih,List.filter_cons,hst];simp
         · rw[List.filter_cons,List.filter_cons,ih]
      rw[this]
     have hfu:plen (.now i r)+(und G st+m)=plen r+(und (remN i G) st+m):=by rw[hun];simp only[plen]
     rw[hfu]
     refine ih (U:=U) (head:=false) h2 hov2 hn ?_ hc2 hr hk2 hS (fun k hk=>hSm k (by simpa [plOps]using hk)) (fun hh=>by cases hh) cont
     have hp2:Pends P ops C X w0 X1 w1 a L Lr (remN i G) st:=by
      refine⟨hp.cl,fun j hj b=>hp.same j (fun hh=>hj ⟨mem_remN.mpr ⟨hh.1,?_⟩,hh.2⟩) b,fun j hj=>hp.lst j (mem_remN.mp hj).1,fun j hj=>hp.e j (mem_remN.mp hj).1,fun x hx y hy=>hp.inj x (mem_remN.mp hx).1 y (mem_remN.mp hy).1,?_,hp.sz⟩
      · rintro rfl;rw[hst]at hh;cases hh.2
      · have:∀ l:List Nat,(remN i l).Sublist l:=by
         intro l
         induction l with
         |nil=>exact List.Sublist.refl _
         | cons k l ih=>
           simp only[remN]
           split
           · exact ih.cons _
           · exact ih.cons_cons _
        exact(this G).nodup hp.nd
     refine hp2.reframe rfl rfl fun j hj q' hq' ob' k1 k2 k3 k4=>?_
     have hji:=(mem_remN.mp hj).2
     have hne:q'≠q:=by
      rintro rfl
      exact hji (hp.inj j (mem_remN.mp hj).1 i hiG _ hq' hst)
     have hk1:q'<w1.heap.size:=by
      rcases Nat.lt_or_ge q' w1.heap.size with h'|h'
      · exact h'
      · rw[Array.getElem?_eq_none h']at k1;cases k1
     refine⟨by rw[h.ext.block q' hk1 k2];exact k1,fun hm=>?_,fun hz=>?_,k4⟩
     · rcases List.mem_append.mp hm with hm|hm
       · exact hne (List.mem_singleton.mp hm)
       · exact k3 (h.zin hm)
     · rcases hz with hz|hz
       · exact k3 hz
       · exact hne (List.mem_singleton.mp hz)
    intro u
    induction u with
    | zero=>
      intro rc a w Lr st X1 w1 hu h hov hn hp
      cases hst:st i with
      |some q=>rw[←hu];exact done hst h hov hn hp
      | none=>
        exfalso
        unfold und at hu
        have:=List.length_eq_zero_iff.mp hu
        have hm:i∈G.filter fun i=>(st i).isNone:=List.mem_filter.mpr ⟨hiG,by rw[hst];rfl⟩
        rw[this]at hm;cases hm
    | succ u ihu=>
      intro rc a w Lr st X1 w1 hu h hov hn hp
      cases hst:st i with
      |some q=>rw[←hu];exact done hst h hov hn hp
      | none=>
        have hfu:plen (.now i r)+(u+1+m)=(plen (.now i r)+(u+m))+1:=by omega
        rw[hfu]
        obtain⟨o,d,ob,f,e1,e2,e3,e4,e5,e6,e6',e6'',e7,e8⟩:=hp.e i hiG
        rw[hst]at e8
        have hir:i∈Region.ready .any ops Lr:=mem_ready.2 ⟨e8.1,o,e1,e8.2⟩
        refine⟨fun h0=>(by rw[h0]at hir;cases hir),fun j hj=>?_⟩
        rcases hp.ready_or hj with⟨hj1,_⟩|⟨hj1,hj2⟩
        · exfalso
          obtain⟨oj,hoj,e,he,hb,hon⟩:=waits_spec (hwt j hj1)
          obtain⟨_,oj',hoj',hall⟩:=mem_ready.1 hj
          rw[hoj]at hoj';cases hoj'
          have:=hall e he hb
          rw[hon,getD_ft e8.1]at this;cases this
        · refine alloc_step h hov hsel hp hc hj1 hj2 ?_
          intro X2 w2 a2 st2 h2 hov2 hp2 hu2
          exact⟨hS _ (hov2.back h2),ihu (by omega) h2 hov2 (by rw[hov2.n,←hov.n];exact hn) hp2⟩
   exact key _ rfl h hov hn hp
theorem region_ok (hE:∀ t s,E.sh t=some s→ShOk P s none t) (hG:∀ f us rs outs,E.gives f us rs outs→GivesS P f us rs outs) (hm:P.follows .mixedOrders=true)
  (hQ:∀ c a w,¬ Q (.panic c) a w) {p:Pl} {C s:St} {X:Fr} {w0:World} {rc:Nat→RC} {a:Act} {w:World} {K:St→Prop} (hd:∀ o∈ops.toList,∀ t,o.dst=some t→t<X.n)
  (h:Rel rc [] C s X w0 a { w with drawn:=w.drawn+1 }) (hr:rok ops p=true) (hk:opsP E ops.toList p [] C s K) (cont:∀ s1 rc1 a1 w1,K s1→Rel rc1 [] C s1 X w0 a1 w1→Q .normal a1 w1) {id:Nat} :
  (Code.region id ops true).wp P Q a w:=by
 unfold rok at hr
 split at hr
 · rename_i L hL
   rw[Bool.and_eq_true,Bool.and_eq_true,Bool.and_eq_true]at hr
   obtain⟨⟨⟨hr1,hr2⟩,hr3⟩,hr4⟩:=hr
   have hg0:gOf p []=[]:=List.isEmpty_iff.mp hr4
   have hlen:=Nat.eq_of_beq_eq_true hr1
   have hsel:∀(j:Nat) (o:Oper) cs b,ops[j]? = some o→o.op≠.select cs b:=by
    intro j o cs b ho e
    have:=List.all_eq_true.mp hr3 o (Array.mem_toList_iff.mpr (Array.mem_of_getElem? ho))
    rw[e]at this;simp at this
   have hcl:Closed ops (Array.replicate ops.size false):=by
    refine⟨by simp,fun j o hj=>?_⟩
    rcases Nat.lt_or_ge j ops.size with h'|h'<;>simp[h']at hj
   have hready:∀ Lr:Array Bool,(∀ j,Lr.getD j true=L.getD j true)→Region.ready .any ops Lr=[]:=by
    intro Lr hs
    apply List.eq_nil_iff_forall_not_mem.mpr
    intro j hj
    obtain⟨h0,o,ho,_⟩:=mem_ready.1 hj
    have hlt:j<ops.size:=(Array.getElem?_eq_some_iff.1 ho).1
    have:=List.all_eq_true.mp hr2 j (List.mem_range.mpr hlt)
    rw[hs]at h0
    rw[h0]at this;cases this
   refine wp_region_any hm (wpAny_of_S (S:=fun _ _=>True) _ _ _ _ ?_)
   have:=opsP_ok (Q:=Q) (S:=fun _ _=>True) (U:=fun _=>False) (m:=0) (n:=X.n) (G:=[]) (st:=fun _=>none) (Lr:=Array.replicate ops.size false) hE hG hsel hQ hd h (Over.refl h) rfl
    ⟨hcl,fun _ _ _=>rfl,by simp,by simp,by simp,List.nodup_nil,by simp⟩ rfl hL hk (fun _ _=>trivial) (fun _ _ _ _ _=>trivial) (fun hh=>by cases hh)
    (fun s1 rc1 a1 w2 X2 w3 Lr' st' hk1 h1 hov1 hn1 hp1 hc1=>by
     rw[hg0]at hp1 ⊢
     exact⟨hready Lr' fun j=>hp1.same j (by simp) true,cont s1 rc1 a1 w2 hk1 (hov1.back h1)⟩)
   have hu:und [] (fun _=>(none:Option Nat))=0:=rfl
   rw[hu,Nat.add_zero,Nat.add_zero,hlen]at this
   exact this
 · simp at hr
end
end Go.V
namespace Go.V
open Go
section
variable {P:Program} {C s:St} {X:Fr} {w0 w:World} {a:Act} {rc:Nat→RC}
def ShipOk (s:St) (rc:Nat→RC) (a:Act) (l:List (Nat×Nat)):Prop:=
 ∀ t k,(t,k)∈l→∃ c,a.tmps[t]? = some c∧∀ r,look k s.roots=some r→c=packV (aggS r.s) (rc k).cs
def Keeps (s s1:St) (rc rc1:Nat→RC) (ks:List Nat):Prop:=
 ∀ k r1,k∉ks→look k s1.roots=some r1→∃ r,look k s.roots=some r∧r1.s=r.s∧(rc1 k).cs=(rc k).cs
theorem drainOne_ok (h:Rel rc [] C s X w0 a w) {t:Nat} {s1:St} (hs:drainOne C s t=some s1):∃ rc1,Rel rc1 [] C s1 X w0 a w:=by
 unfold drainOne at hs
 split at hs<;>try (simp at hs;done)
 rename_i key hv
 split at hs<;>try (simp at hs;done)
 rename_i e sa oa x hlk hC hA
 simp only[Option.some.injEq]at hs
 subst hs
 have hin:=look_mem hlk
 have hr:getR C s key=some ⟨false,false,.sl e sa,.own oa,x⟩:=(mem_getR h.keys).mpr (List.mem_append_left _ hin)
 obtain⟨c,hc,hvk⟩:=h.tm t _ (List.mem_append_left _ (look_mem hv))
 have hok:=h.root hr
 let r1:Root:=⟨false,false,.sl e (.md sa),.own oa,List.map (fun y=>(true,y)) x⟩
 have hq:setRc rc key (rc key)=rc:=by
  funext j
  by_cases hj:j=key
  · subst hj;simp[setRc]
  · simp[setRc,hj]
 have hrel:=Rel.setRoot (ls:=[]) (ex:=[]) (r:=r1) (q:=rc key) (ts:=killT true key s.tmps) (w1:=w) (by simpa using h) (rc key).bs [] hC
  (fun hi=>by simp[r1]at hi) (fun b hb=>.inr ⟨_,getR_s hC hr,hb⟩) (Nat.le_refl _) rfl rfl rfl (fun _ _ _=>rfl)
  (by have:=h.blocks_nodup hr;exact this) (by simp)
  (fun b hb=>⟨(h.bnd b (by simpa using mem_allB.mpr ⟨key,_,(mem_getR h.keys).mp hr,hb⟩)).1,.inl hb⟩)
  (fun fz1 hf _=>⟨Rep.md (hok.1.stable (fun b hb=>⟨hf b (by simpa using hb),rfl⟩) fun _ _=>rfl),fun hb=>by simp[r1]at hb⟩)
  (killT_sub _ _ _)
  (by
   intro t' v' htv
   have hrf:refs true key v'=false:=by
    rcases List.mem_append.mp htv with h'|h'
    · exact(killT_mem h').2
    · exact anyRef_false hA h'
   have:=refs_true_of hrf
   exact⟨fun p hp=>by rw[refsAt_refs hp]at this;simp at this,by simp[this.2]⟩)
 rw[hq]at hrel
 have hR1:getR C ⟨killT true key s.tmps,upd key r1 s.roots⟩ key=some r1:=by rw[getR_upd (ts:=s.tmps)];simp
 refine⟨rc,Rel.reput (t:=t) (v:=.own key []) (c:=c) (by simpa using hrel) ?_ hc ?_⟩
 · unfold Go.V.put
   rw[h.td t _ (look_mem hv)]
 · obtain⟨cs,hvc,hcp⟩:=hvk
   obtain⟨_,_,hcs,_⟩:=hvc _ hr
   refine⟨cs,fun r' hr'=>?_,hcp⟩
   rw[hR1]at hr';cases hr'
   exact⟨InB_nil _ _,⟨_,rfl⟩,by simpa [cellsP]using hcs,e,.md sa,rfl⟩
theorem drain_ok:∀ {l:List Nat} {s s1:St} {rc:Nat→RC},Rel rc [] C s X w0 a w→drain C s l=some s1→∃ rc1,Rel rc1 [] C s1 X w0 a w:=by
 intro l
 induction l with
 |nil=>intro s s1 rc h hs;cases hs;exact⟨rc,h⟩
 | cons t l ih=>
   intro s s1 rc h hs
   simp only[drain]at hs
   split at hs<;>try (simp at hs;done)
   rename_i s2 h1
   obtain⟨rc2,g1⟩:=drainOne_ok h h1
   exact ih g1 hs
theorem shipOne_ok (h:Rel rc [] C s X w0 a w) {t k:Nat} {s1:St} (hs:shipOne C s t k=some s1) :
  ∃ rc1,Rel rc1 [] C s1 X w0 a w∧(∃ c,a.tmps[t]? = some c∧∀ r,look k s1.roots=some r→c=packV (aggS r.s) (rc1 k).cs)∧Keeps s s1 rc rc1 [k]:=by
 unfold shipOne at hs
 split at hs<;>try (simp at hs;done)
 rename_i v hv
 split at hs<;>try (simp at hs;done)
 rename_i u s2 ht
 split at hs<;>try (simp at hs;done)
 rename_i s3 hn
 obtain⟨c,hc,hvk⟩:=h.tm t v (List.mem_append_left _ (look_mem hv))
 obtain⟨rc1,ls,cs,h1,hr,hcp,_,htr,_⟩:=take_whole h hvk ht
 obtain⟨h2,h3⟩:=lay_ok h1 hr hn
 rw[←hcp]at h3
 have h4:=h2.reput hs hc h3
 have hrt:=put_roots hs
 obtain⟨_,_,rfl⟩:=newRoot_eq hn
 refine⟨_,h4,⟨c,hc,fun r hr'=>?_⟩,fun j r1 hj hr1=>?_⟩
 · rw[hrt]at hr'
   rw[show(⟨killT true k s2.tmps,upd k ⟨false,false,u.s,u.o,u.x⟩ s2.roots⟩:St).roots=upd k ⟨false,false,u.s,u.o,u.x⟩ s2.roots from rfl,look_upd,if_pos rfl]at hr'
   cases hr'
   rw[hcp]
   simp[setRc]
 · have hjk:j≠k:=by simpa using hj
   rw[hrt]at hr1
   rw[show(⟨killT true k s2.tmps,upd k ⟨false,false,u.s,u.o,u.x⟩ s2.roots⟩:St).roots=upd k ⟨false,false,u.s,u.o,u.x⟩ s2.roots from rfl,look_upd,if_neg hjk]at hr1
   obtain⟨r,k1,k2,k3,_⟩:=htr j r1 (by unfold getR;rw[hr1])
   refine⟨r,?_,by rw[k2],by simp[setRc,hjk,k3]⟩
   cases hl:look j s.roots with
   |some r'=>unfold getR at k1;rw[hl]at k1;exact k1
   | none=>
     unfold getR at k1
     rw[hl]at k1
     have hk:=h1.keys
     rw[List.map_append]at hk
     exact absurd rfl ((List.nodup_append.mp hk).2.2 j (List.mem_map.mpr ⟨_,look_mem hr1,rfl⟩) j (List.mem_map.mpr ⟨_,look_mem k1,rfl⟩))
theorem ship_ok:∀ {l:List (Nat×Nat)} {s s1:St} {rc:Nat→RC},Rel rc [] C s X w0 a w→(l.map (·.2)).Nodup→ship C s l=some s1→
  ∃ rc1,Rel rc1 [] C s1 X w0 a w∧ShipOk s1 rc1 a l∧Keeps s s1 rc rc1 (l.map (·.2)):=by
 intro l
 induction l with
 |nil=>intro s s1 rc h _ hs;cases hs;exact⟨rc,h,fun _ _ h=>by simp at h,fun k r1 _ h=>⟨r1,h,rfl,rfl⟩⟩
 | cons q l ih=>
   obtain⟨t,k⟩:=q
   intro s s1 rc h hn hs
   obtain⟨hn1,hn2⟩:=List.nodup_cons.mp (show(k::l.map (·.2)).Nodup from hn)
   simp only[ship]at hs
   split at hs<;>try (simp at hs;done)
   rename_i s2 h1
   obtain⟨rc2,g1,⟨c,g2,g3⟩,g4⟩:=shipOne_ok h h1
   obtain⟨rc1,k1,k2,k3⟩:=ih g1 hn2 hs
   refine⟨rc1,k1,fun u j hm=>?_,fun j r1 hj hr=>?_⟩
   · rcases List.mem_cons.mp hm with hm|hm
     · cases hm
       refine⟨c,g2,fun r hr=>?_⟩
       obtain⟨r2,m1,m2,m3⟩:=k3 k r hn1 hr
       rw[g3 r2 m1,m2,m3]
     · exact k2 u j hm
   · simp only[List.map_cons,List.mem_cons,not_or]at hj
     obtain⟨r2,m1,m2,m3⟩:=k3 j r1 hj.2 hr
     obtain⟨r3,n1,n2,n3⟩:=g4 j r2 (by simpa using hj.1) m1
     exact⟨r3,n1,m2.trans n2,m3.trans n3⟩
end
end Go.V
namespace Go.V
open Go
section
variable {P:Program} {C s:St} {X:Fr} {w0 w:World} {a:Act} {rc:Nat→RC} {refs:List (Nat×Nat)}
def srcP (C s:St) (refs:List (Nat×Nat)):List (Nat×Bool×Bool×Sh×O)→List (Nat×Root)
 |[]=>[]
 | (k,_)::l=>match getNil C s refs k with
   |some _=>srcP C s refs l
   | none=>match srcKey C s refs k with
     | some j=>match look j s.roots with
       |some r=>(j,r)::srcP C s refs l
       |none=>srcP C s refs l
     |none=>srcP C s refs l
def HdOk (C s:St) (rc:Nat→RC) (a:Act) (refs:List (Nat×Nat)) (k:Nat) (r1:Root) (q:RC):Prop:=
 (∃ t sh o x c,getNil C s refs k=some ⟨sh,o,x⟩∧getT C s t=some (.t sh o x)∧(t,k)∈refs∧a.tmps[t]? = some c∧q.cs=[c]∧isSl sh=true∧r1.s=sh∧r1.box=false∧r1.inn=false)∨
 (∃ j r,getNil C s refs k=none∧srcKey C s refs k=some j∧look j s.roots=some r∧r1.s=r.s∧r1.box=r.box∧q.cs=(rc j).cs∧q.blk=(rc j).blk∧(r1.box=true→j=k)∧(r1.inn=true→r.inn=true∧j=k))
theorem getNil_spec {k:Nat} {u:OV}:∀ {refs:List (Nat×Nat)},getNil C s refs k=some u→∃ t,(t,k)∈refs∧getT C s t=some (.t u.s u.o u.x):=by
 intro refs
 induction refs with
 |nil=>intro h;simp[getNil]at h
 | cons q l ih=>
   obtain⟨t,j⟩:=q
   intro h
   simp only[getNil]at h
   split at h
   · rename_i hj
     have:=Nat.eq_of_beq_eq_true hj
     subst this
     split at h
     · rename_i e;cases h;exact⟨t,by simp,e⟩
     · simp at h
   · obtain⟨t',h1,h2⟩:=ih h
     exact⟨t',by simp[h1],h2⟩
theorem packR_ok (h:Rel rc [] C s X w0 a w):∀ {l:List (Nat×Bool×Bool×Sh×O)} {y:denR l},packR C s refs l=some y→(l.map (·.1)).Nodup→
  ∃(rc1:Nat→RC) (rest:List Nat),(∀ k,k∉l.map (·.1)→rc1 k=rc k)∧(unpackR l y).map (·.1)=l.map (·.1)∧(allB rc (srcP C s refs l)).Perm (allB rc1 (unpackR l y)++rest)∧
   (∀ fz1:Nat→Prop,(∀ b,fzOf X w ([]++allB rc (s.roots++C.roots)) b→fz1 b)→(∀ b∈rest,fz1 b)→∀ k r,(k,r)∈unpackR l y→RootOk w fz1 r (rc1 k))∧
   ∀ k r,(k,r)∈unpackR l y→HdOk C s rc a refs k r (rc1 k):=by
 intro l
 induction l with
 |nil=>intro y _ _;exact⟨rc,[],fun _ _=>rfl,rfl,by simp[srcP,unpackR,allB],by simp[unpackR],by simp[unpackR]⟩
 | cons e l ih=>
   obtain⟨k,box,inn,sh,o⟩:=e
   intro y hp hn
   obtain⟨hkn,hn2⟩:=List.nodup_cons.mp (show(k::l.map (·.1)).Nodup from hn)
   simp only[packR]at hp
   cases hg:getNil C s refs k with
   | some u=>
     obtain⟨sh',o',x⟩:=u
     rw[hg]at hp
     simp only at hp
     split at hp
     · rename_i y0 ys hb hcd hps
       cases hp
       rw[Bool.and_eq_true,Bool.and_eq_true,Bool.and_eq_true,Bool.not_eq_true',Bool.not_eq_true']at hb
       obtain⟨⟨⟨rfl,rfl⟩,hsl⟩,hle⟩:=hb
       obtain⟨rfl,rfl⟩:=castD_some hcd
       obtain⟨rc1,rest,g0,g1,g2,g3,g4⟩:=ih hps hn2
       obtain⟨t,ht1,ht2⟩:=getNil_spec hg
       obtain⟨c,hc,hv⟩:=h.getT ht2
       obtain⟨cs,hv,rfl⟩:=hv
       have hv:Rep w (fzOf X w ([]++allB rc (s.roots++C.roots))) sh' o' y0 cs []:=hv
       obtain⟨bs',rest',p1,p2⟩:=hv.weak hle
       obtain⟨rfl,rfl⟩:=List.append_eq_nil_iff.mp (List.nil_perm.mp p1)
       have hlen:=hv.len
       have hone:∃ v,cs=[v]:=by
        cases sh'<;>try (simp[isSl]at hsl;done)
        exact List.length_eq_one_iff.mp hlen
       obtain⟨v,rfl⟩:=hone
       have hag:aggV (.t sh' o' y0)=false:=by cases sh'<;>first|rfl|(simp[isSl]at hsl;done)
       let q:RC:=⟨[v],[],0⟩
       have hk1:∀ j u,(j,u)∈unpackR l ys→j≠k:=by
        rintro j u hj rfl
        exact hkn (by rw[←g1];exact List.mem_map.mpr ⟨_,hj,rfl⟩)
       refine⟨setRc rc1 k q,rest,?_,?_,?_,?_,?_⟩
       · intro j hj
         simp only[List.map_cons,List.mem_cons,not_or]at hj
         simp[setRc,hj.1,g0 j hj.2]
       · simp[unpackR,g1]
       · simp only[srcP,hg,unpackR,allB_cons]
         rw[allB_congr (rc:=rc1) (rc1:=setRc rc1 k q) (fun j u hj=>by simp[setRc,hk1 j u hj])]
         simpa [setRc,blocks,q]using g2
       · intro fz1 hf hr j r hj
         simp only[unpackR,List.mem_cons]at hj
         rcases hj with hj|hj
         · cases hj
           refine⟨?_,fun hb=>by simp at hb⟩
           simp only[setRc,if_true]
           exact p2 w fz1 (fun b hb=>⟨hf b hb,rfl⟩) (fun _ _=>rfl) (by simp)
         · simp only[setRc,hk1 j r hj,if_false]
           exact g3 fz1 hf hr j r hj
       · intro j r hj
         simp only[unpackR,List.mem_cons]at hj
         rcases hj with hj|hj
         · cases hj
           left
           refine⟨t,sh',o',y0,_,hg,ht2,ht1,hc,?_,hsl,rfl,rfl,rfl⟩
           rw[hag];simp[setRc,packV,q]
         · simp only[setRc,hk1 j r hj,if_false]
           exact g4 j r hj
     · simp at hp
   | none=>
     rw[hg]at hp
     simp only at hp
     cases hs:srcKey C s refs k with
     |none=>rw[hs]at hp;simp at hp
     | some j=>
       rw[hs]at hp
       simp only at hp
       cases hr:look j s.roots with
       |none=>rw[hr]at hp;simp at hp
       | some r=>
         rw[hr]at hp
         simp only at hp
         split at hp
         · rename_i y0 ys hb hcd hps
           cases hp
           rw[Bool.and_eq_true,Bool.and_eq_true,Bool.and_eq_true,beq_iff_eq,beq_iff_eq,Bool.or_eq_true,Bool.not_eq_true']at hb
           obtain⟨⟨⟨hbox,hinn⟩,hbk⟩,hle⟩:=hb
           obtain⟨rbox,rinn,rs,ro,rx⟩:=r
           simp only at hbox hinn hle hcd
           subst hbox
           obtain⟨rfl,rfl⟩:=castD_some hcd
           obtain⟨rc1,rest,g0,g1,g2,g3,g4⟩:=ih hps hn2
           have hok:=h.roots j _ (List.mem_append_left _ (look_mem hr))
           obtain⟨bs',rest',p1,p2⟩:=hok.1.weak hle
           let q:RC:=⟨(rc j).cs,bs',(rc j).blk⟩
           have hk1:∀ j u,(j,u)∈unpackR l ys→j≠k:=by
            rintro j u hj rfl
            exact hkn (by rw[←g1];exact List.mem_map.mpr ⟨_,hj,rfl⟩)
           refine⟨setRc rc1 k q,rest'++rest,?_,?_,?_,?_,?_⟩
           · intro i hi
             simp only[List.map_cons,List.mem_cons,not_or]at hi
             simp[setRc,hi.1,g0 i hi.2]
           · simp[unpackR,g1]
           · simp only[srcP,hg,hs,hr,unpackR,allB_cons]
             rw[allB_congr (rc:=rc1) (rc1:=setRc rc1 k q) (fun j u hj=>by simp[setRc,hk1 j u hj])]
             rw[show setRc rc1 k q k=q by simp[setRc],blocks_box,blocks_box]
             simp only[q]
             refine((p1.append_left _).append g2).trans ?_
             simp only[List.append_assoc]
             refine List.Perm.append_left _ (List.Perm.append_left _ ?_)
             exact List.perm_append_comm_assoc _ _ _
           · intro fz1 hf hrr i u hi
             simp only[unpackR,List.mem_cons]at hi
             rcases hi with hi|hi
             · cases hi
               simp only[setRc,if_true]
               refine⟨p2 w fz1 (fun b hb=>⟨hf b hb,rfl⟩) (fun _ _=>rfl) (fun b hb=>hrr b (by simp[hb])),fun hb=>?_⟩
               exact hok.2 hb
             · simp only[setRc,hk1 i u hi,if_false]
               exact g3 fz1 hf (fun b hb=>hrr b (by simp[hb])) i u hi
           · intro i u hi
             simp only[unpackR,List.mem_cons]at hi
             rcases hi with hi|hi
             · cases hi
               right
               refine⟨j,_,hg,hs,hr,rfl,rfl,by simp[setRc,q],by simp[setRc,q],fun hb=>?_,fun hi=>?_⟩
               · rcases hbk with hbk|hbk
                 · simp only at hb;rw[hb]at hbk;cases hbk
                 · exact Nat.eq_of_beq_eq_true hbk
               · simp only at hi
                 rw[hi,Bool.and_eq_true]at hinn
                 exact⟨hinn.1,Nat.eq_of_beq_eq_true hinn.2⟩
             · simp only[setRc,hk1 i u hi,if_false]
               exact g4 i u hi
         · simp at hp
end
end Go.V
namespace Go.V
open Go
section
variable {P:Program} {C s:St} {X:Fr} {w0 w:World} {a:Act} {rc:Nat→RC}
theorem srcP_look {refs:List (Nat×Nat)}:∀ {l:List (Nat×Bool×Bool×Sh×O)} {j:Nat} {r:Root},(j,r)∈srcP C s refs l→look j s.roots=some r:=by
 intro l
 induction l with
 |nil=>intro j r h;simp[srcP]at h
 | cons e l ih=>
   obtain⟨k,_⟩:=e
   intro j r h
   simp only[srcP]at h
   split at h
   · exact ih h
   · split at h
     · split at h
       · rename_i e
         rcases List.mem_cons.mp h with h|h
         · cases h;exact e
         · exact ih h
       · exact ih h
     · exact ih h
theorem srcP_keys {refs:List (Nat×Nat)}:∀ {l:List (Nat×Bool×Bool×Sh×O)},((srcP C s refs l).map (·.1)).Sublist (l.map fun r=>(srcKey C s refs r.1).getD r.1):=by
 intro l
 induction l with
 |nil=>simp[srcP]
 | cons e l ih=>
   obtain⟨k,e'⟩:=e
   simp only[srcP,List.map_cons]
   split
   · exact ih.cons _
   · split
     · rename_i j hj
       split
       · rw[hj];exact ih.cons_cons _
       · exact ih.cons _
     · exact ih.cons _
theorem constsR_of {s:St}:∀ {l:List (Nat×Root)},(∀ k r,(k,r)∈l→look k s.roots=some r)→constsR s (l.map (·.1))=some l:=by
 intro l
 induction l with
 |nil=>intro _;rfl
 | cons e l ih=>
   obtain⟨k,r⟩:=e
   intro h
   simp only[List.map_cons,constsR,h k r (by simp),ih fun k r hk=>h k r (by simp[hk])]
theorem packT_ok {α:Type} {tail:Option α} (f:α→St):∀ {l:List (Nat×Sh)} {y:denT α l},packT C s tail l=some y→
  ∃ b,tail=some b∧(unpackT f l y).roots=(f b).roots∧(unpackT f l y).tmps.map (·.1)=l.map (·.1)++(f b).tmps.map (·.1)∧
   ∀ t v,(t,v)∈(unpackT f l y).tmps→(t,v)∈(f b).tmps∨∃ sh v0 x,(t,sh)∈l∧getT C s t=some v0∧view C s v0=some ⟨sh,x⟩∧v = .t sh .z x:=by
 intro l
 induction l with
 |nil=>intro y h;exact⟨y,h,rfl,rfl,fun t v h=>.inl h⟩
 | cons e l ih=>
   obtain⟨t,sh⟩:=e
   intro y h
   simp only[packT]at h
   split at h
   · rename_i v hv
     split at h
     · rename_i sh' x hw
       split at h
       · rename_i y0 ys hcd hps
         cases h
         obtain⟨rfl,rfl⟩:=castD_some hcd
         obtain⟨b,g1,g2,g3,g4⟩:=ih hps
         refine⟨b,g1,g2,by simp[unpackT,g3],fun t' v' h'=>?_⟩
         simp only[unpackT,List.mem_cons]at h'
         rcases h' with h'|h'
         · cases h'
           exact .inr ⟨_,v,_,by simp,hv,hw,rfl⟩
         · rcases g4 t' v' h' with h2|⟨q1,q2,q3,q4,q5⟩
           · exact .inl h2
           · exact .inr ⟨q1,q2,q3,by simp[q4],q5⟩
       · simp at h
     · simp at h
   · simp at h
theorem mem_refsT {t:Nat} {v:Val}:∀ {l:List (Nat×Nat)},(t,v)∈refsT l→∃ k,(t,k)∈l∧v = .own k []:=by
 intro l
 induction l with
 |nil=>intro h;simp[refsT]at h
 | cons q l ih=>
   obtain⟨u,k⟩:=q
   intro h
   simp only[refsT,List.mem_cons]at h
   rcases h with h|h
   · cases h;exact⟨k,by simp,rfl⟩
   · obtain⟨k',h1,h2⟩:=ih h;exact⟨k',by simp[h1],h2⟩
theorem refsT_keys:∀ {l:List (Nat×Nat)},(refsT l).map (·.1)=l.map (·.1):=by
 intro l
 induction l with
 |nil=>rfl
 |cons q l ih=>obtain⟨u,k⟩:=q;simp[refsT,ih]
theorem agree_spec {refs:List (Nat×Nat)}:∀ {l:List (Nat×Nat)},agree C s refs l=true→∀ t k,(t,k)∈l→
  (∃ u,getNil C s refs k=some u∧∀ q∈refs,q.2=k→q.1=t)∨(getNil C s refs k=none∧∃ j,getT C s t=some (.own j [])∧srcKey C s refs k=some j):=by
 intro l
 induction l with
 |nil=>intro _ t k h;simp at h
 | cons q l ih=>
   obtain⟨u,i⟩:=q
   intro h t k hm
   simp only[agree,Bool.and_eq_true]at h
   rcases List.mem_cons.mp hm with hm|hm
   · cases hm
     have h1:=h.1
     split at h1
     · rename_i u' hu
       refine .inl ⟨u',hu,fun q hq hqk=>?_⟩
       have:=List.all_eq_true.mp h1 q hq
       rw[Bool.or_eq_true,Bool.not_eq_true',hqk]at this
       rcases this with this|this
       · simp at this
       · exact Nat.eq_of_beq_eq_true this
     · rename_i hu
       split at h1
       · rename_i i' j' hi hj
         have:=Nat.eq_of_beq_eq_true h1
         subst this
         refine .inr ⟨hu,i',?_,hj⟩
         unfold keyOf at hi
         split at hi
         · rename_i hg;cases hi;exact hg
         · simp at hi
       · simp at h1
   · exact ih h.2 t k hm
theorem view_row {v:Val} {c:Value} {sh:Sh} {x:sh.den} (h:Rel rc [] C s X w0 a w) {fz1:Nat→Prop} (hf:∀ b,fzOf X w ([]++allB rc (s.roots++C.roots)) b→fz1 b)
  (hv:VOk w (fzOf X w ([]++allB rc (s.roots++C.roots))) (getR C s) rc v c) (hw:view C s v=some ⟨sh,x⟩) (hk:∀ k∈keys v,∀ r,getR C s k=some r→∀ b∈blocks r (rc k),fz1 b)
  {R1:Nat→Option Root} {rc1:Nat→RC}:VOk w fz1 R1 rc1 (.t sh .z x) c:=by
 have hne:=view_plain hw
 obtain⟨cells,hc,rfl⟩:=hv.cells hne.1 hne.2.1 hne.2.2
 have hl:lend C s .z v=some ⟨sh,.z,x⟩:=by
  cases v<;>(simp only[lend,hw])
 obtain⟨⟨ls,kept,g⟩,hag⟩:=lend_ok h hf hc hl (by cases v<;>exact List.nodup_nil)
  (fun k hk' r hr b hb=>hk k (by cases v<;>exact hk') r hr b (by unfold blocks;split<;>simp[hb]))
  (fun k hk' r hr hbx=>hk k (keys_box (by cases v<;>exact hk')) r hr _ (by simp[blocks,hbx]))
 have hperm:=g.perm
 have hlk:lentK .z v=[]:=by cases v<;>rfl
 rw[hlk]at hperm
 obtain⟨rfl,rfl⟩:=List.append_eq_nil_iff.mp (List.nil_perm.mp hperm)
 rw[hag]
 exact⟨cells,g.rep,rfl⟩
end
end Go.V
namespace Go.V
open Go
section
variable {P:Program} {C s:St} {X:Fr} {w0 w:World} {a:Act} {rc:Nat→RC}
theorem unpackR_mem:∀ {l:List (Nat×Bool×Bool×Sh×O)} {y:denR l} {k:Nat} {r:Root},(k,r)∈unpackR l y→∃ e∈l,e.1=k∧e.2.1=r.box∧e.2.2.1=r.inn∧e.2.2.2.2=r.o:=by
 intro l
 induction l with
 |nil=>intro y k r h;simp[unpackR]at h
 | cons e l ih=>
   obtain⟨k0,box,inn,sh,o⟩:=e
   intro y k r h
   simp only[unpackR,List.mem_cons]at h
   rcases h with h|h
   · cases h;exact⟨_,List.mem_cons_self,rfl,rfl,rfl,rfl⟩
   · obtain⟨e,he,hh⟩:=ih h
     exact⟨e,List.mem_cons_of_mem _ he,hh⟩
theorem badRefs_false {ok:Bool} {k t:Nat} {v:Val} {l:List (Nat×Val)} (h:badRefs ok k l=false) (hm:(t,v)∈l):badRef ok k v=false:=by
 induction l with
 |nil=>simp at hm
 | cons q l ih=>
   obtain⟨j,u⟩:=q
   simp only[badRefs,Bool.or_eq_false_iff]at h
   rcases List.mem_cons.mp hm with hm|hm
   · cases hm;exact h.1
   · exact ih h.2 hm
theorem badRef_cases {ok:Bool} {k:Nat} {p:List Step}:∀ {v:Val},refsAt k p v→badRef ok k v=false→ok=true∧p=[]:=by
 intro v
 induction v with
 |own key q=>rintro⟨rfl,rfl⟩ h;simp[badRef]at h
 |eaddr key q i fp=>rintro⟨rfl,rfl⟩ h;simp[badRef]at h
 |sub key q lo hi=>rintro⟨rfl,rfl⟩ h;simpa [badRef]using h
 |pair a b iha ihb=>rintro (h|h) h1<;>simp only[badRef,Bool.or_eq_false_iff]at h1;exact iha h h1.1;exact ihb h h1.2
 |tup a b iha ihb=>rintro (h|h) h1<;>simp only[badRef,Bool.or_eq_false_iff]at h1;exact iha h h1.1;exact ihb h h1.2
 |clo f c ih=>intro h h1;exact ih h (by simpa [badRef]using h1)
 |vbox c ih=>intro h h1;exact ih h (by simpa [badRef]using h1)
 |_=>intro h;exact h.elim
theorem agreeI_spec {refs:List (Nat×Nat)} {roots:List (Nat×Bool×Bool×Sh×O)}:∀ {l:List (Nat×Nat×List Step)},agreeI C s refs roots l=true→∀ t k p,(t,k,p)∈l→
  getT C s t=some (.own k p)∧inner p=false∧getNil C s refs k=none∧srcKey C s refs k=some k∧∀ e∈roots,e.1=k→∃ o,oP e.2.2.2.2 p=some o:=by
 intro l
 induction l with
 |nil=>intro _ t k p h;simp at h
 | cons q l ih=>
   obtain⟨u,i,pp⟩:=q
   intro h t k p hm
   simp only[agreeI,Bool.and_eq_true]at h
   obtain⟨⟨⟨h1,h2⟩,h3⟩,h4⟩:=h
   rcases List.mem_cons.mp hm with hm|hm
   · cases hm
     split at h1
     case h_2=>simp at h1
     rename_i j q hg
     rw[Bool.and_eq_true]at h1
     obtain rfl:=Nat.eq_of_beq_eq_true h1.1
     obtain⟨rfl,hin⟩:=pathEq_ok h1.2
     split at h2
     · simp at h2
     rename_i hn
     split at h2
     case h_2=>simp at h2
     rename_i j' hj
     obtain rfl:=Nat.eq_of_beq_eq_true h2
     refine⟨hg,hin,hn,hj,fun e he hk=>?_⟩
     have:=List.all_eq_true.mp h3 e he
     rw[hk,Nat.beq_refl]at this
     simpa using Option.isSome_iff_exists.mp (by simpa using this)
   · exact ih h4 t k p hm
theorem agreeS_spec {refs:List (Nat×Nat)} {roots:List (Nat×Bool×Bool×Sh×O)}:∀ {l:List (Nat×Nat)},agreeS C s refs roots l=true→∀ t k,(t,k)∈l→
  getNil C s refs k=none∧srcKey C s refs k=some k:=by
 intro l
 induction l with
 |nil=>intro _ t k h;simp at h
 | cons q l ih=>
   obtain⟨u,i⟩:=q
   intro h t k hm
   simp only[agreeS,Bool.and_eq_true]at h
   obtain⟨⟨h2,h3⟩,h4⟩:=h
   rcases List.mem_cons.mp hm with hm|hm
   · cases hm
     split at h2
     · simp at h2
     rename_i hn
     split at h2
     case h_2=>simp at h2
     rename_i j' hj
     obtain rfl:=Nat.eq_of_beq_eq_true h2
     exact⟨hn,hj⟩
   · exact ih h4 t k hm
theorem getP_here {sh:Sh} {x:sh.den}:getP sh x []=some ⟨sh,x⟩:=by cases sh<;>rfl
theorem oP_here {o:O}:oP o []=some o:=by cases o<;>rfl
theorem cellsP_here {sh:Sh} {cs:List Value}:cellsP w sh cs []=some cs:=by cases sh<;>rfl
theorem mem_srefsT {t:Nat} {v:Val} {rs:List (Nat×Root)}:∀ {l:List (Nat×Nat)},(t,v)∈srefsT rs l→∃ k,(t,k)∈l∧v=(match look k rs with
  |some r=>mkRef k r.s r.o r.x []
  |none=>.undef):=by
 intro l
 induction l with
 |nil=>intro h;simp[srefsT]at h
 | cons q l ih=>
   obtain⟨u,k⟩:=q
   intro h
   simp only[srefsT,List.mem_cons]at h
   rcases h with h|h
   · cases h;exact⟨k,by simp,rfl⟩
   · obtain⟨k',h1,h2⟩:=ih h;exact⟨k',by simp[h1],h2⟩
theorem srefsT_keys {rs:List (Nat×Root)}:∀ {l:List (Nat×Nat)},(srefsT rs l).map (·.1)=l.map (·.1):=by
 intro l
 induction l with
 |nil=>rfl
 |cons q l ih=>obtain⟨u,k⟩:=q;simp[srefsT,ih]
theorem mem_irefsT {t:Nat} {v:Val}:∀ {l:List (Nat×Nat×List Step)},(t,v)∈irefsT l→∃ k p,(t,k,p)∈l∧v = .own k p:=by
 intro l
 induction l with
 |nil=>intro h;simp[irefsT]at h
 | cons q l ih=>
   obtain⟨u,k,p⟩:=q
   intro h
   simp only[irefsT,List.mem_cons]at h
   rcases h with h|h
   · cases h;exact⟨k,p,by simp,rfl⟩
   · obtain⟨k',p',h1,h2⟩:=ih h;exact⟨k',p',by simp[h1],h2⟩
theorem irefsT_keys:∀ {l:List (Nat×Nat×List Step)},(irefsT l).map (·.1)=l.map (·.1):=by
 intro l
 induction l with
 |nil=>rfl
 |cons q l ih=>obtain⟨u,k,p⟩:=q;simp[irefsT,ih]
theorem pack_ok (h:Rel rc [] C s X w0 a w) {L:Loop} {a0:L.den} {C':St} {cr:List (Nat×Root)} (hXc:∀ k b,¬ X.c k b)
  (hCr:C'.roots=cr++C.roots) (hcr:∀ k r,(k,r)∈cr→look k s.roots=some r) (hcrk:∀ k∈cr.map (·.1),k∈L.croots) (hcrn:(cr.map (·.1)).Nodup)
  (hCt:∀ t v,(t,v)∈C'.tmps→(t,v)∈s.tmps++C.tmps) (hp:L.pack C s=some a0) (ha:apart C s L=true) (hk:okL C' L=true) (hS:ShipOk s rc a L.srefs) :
  ∃ rc1,Rel rc1 [] C' (L.unpack a0) X w0 a w:=by
 unfold Loop.pack at hp
 split at hp
 case h_2=>simp at hp
 rename_i hag
 rw[Bool.and_eq_true,Bool.and_eq_true]at hag
 obtain⟨⟨hag,hai⟩,has⟩:=hag
 unfold okL at hk
 simp only[Bool.and_eq_true]at hk
 obtain⟨⟨⟨⟨⟨⟨⟨_,hk2⟩,hk3⟩,hk4⟩,hk5⟩,hk6⟩,hk7⟩,_⟩:=hk
 have hk2:=nodupN_iff hk2
 have hk3:=nodupN_iff hk3
 obtain⟨b,hb,hsr,hst,hsm⟩:=packT_ok (fun b=>(⟨refsT L.refs++irefsT L.irefs++srefsT (unpackR L.roots b) L.srefs,unpackR L.roots b⟩:St)) hp
 have hroots:(L.unpack a0).roots=unpackR L.roots b:=hsr
 have hkeysT:(L.unpack a0).tmps.map (·.1)=L.tmps.map (·.1)++(L.refs.map (·.1)++L.irefs.map (·.1)++L.srefs.map (·.1)):=by rw[←refsT_keys,←irefsT_keys,←srefsT_keys (rs:=unpackR L.roots b),←List.map_append,←List.map_append];exact hst
 have hmemT:∀ t v,(t,v)∈(L.unpack a0).tmps→(t,v)∈refsT L.refs++irefsT L.irefs++srefsT (unpackR L.roots b) L.srefs∨∃ sh v0 x,(t,sh)∈L.tmps∧getT C s t=some v0∧view C s v0=some ⟨sh,x⟩∧v = .t sh .z x:=hsm
 obtain⟨rc1,rest,g0,g1,g2,g3,g4⟩:=packR_ok h hb hk2
 unfold apart at ha
 simp only[Bool.and_eq_true]at ha
 obtain⟨ha1,ha2⟩:=ha
 have ha2:=nodupN_iff ha2
 let srcs:=srcP C s L.refs L.roots
 have hsrc:∀ k r,(k,r)∈srcs++cr→look k s.roots=some r:=by
  intro k r hm
  rcases List.mem_append.mp hm with hm|hm
  · exact srcP_look hm
  · exact hcr k r hm
 have hpk:((srcs++cr).map (·.1)).Nodup:=by
  rw[List.map_append]
  refine List.nodup_append.mpr ⟨List.Nodup.sublist srcP_keys (List.nodup_append.mp ha2).1,hcrn,?_⟩
  rintro j hj _ hj2 rfl
  exact(List.nodup_append.mp ha2).2.2 j (srcP_keys.subset hj) j (hcrk j hj2) rfl
 have hsn:(s.roots.map (·.1)).Nodup:=by have:=h.keys;rw[List.map_append]at this;exact(List.nodup_append.mp this).1
 have hperm:=consts_perm (constsR_of hsrc) hpk hsn
 let dk:=delKeys ((srcs++cr).map (·.1)) s.roots
 have hC'key:∀ k∈L.roots.map (·.1),∀ r,(k,r)∉C'.roots:=by
  intro k hk' r hm
  obtain⟨e,he,rfl⟩:=List.mem_map.mp hk'
  have:=List.all_eq_true.mp hk4 e he
  rw[Bool.and_eq_true,Option.isNone_iff_eq_none]at this
  exact look_none.mp this.2 r hm
 have hrcC:∀ k r,(k,r)∈C'.roots→rc1 k=rc k:=fun k r hm=>g0 k fun hk'=>hC'key k hk' r hm
 have hCold:∀ k r,(k,r)∈C'.roots→(k,r)∈s.roots++C.roots:=by
  intro k r hm
  rw[hCr]at hm
  rcases List.mem_append.mp hm with hm|hm
  · exact List.mem_append_left _ (look_mem (hcr k r hm))
  · exact List.mem_append_right _ hm
 have hold:(allB rc (s.roots++C.roots)).Perm (allB rc1 (unpackR L.roots b++C'.roots)++(rest++allB rc dk)):=by
  have e1:allB rc1 C'.roots=allB rc C'.roots:=allB_congr hrcC
  have e3:allB rc1 (unpackR L.roots b++C'.roots)=allB rc1 (unpackR L.roots b)++(allB rc cr++allB rc C.roots):=by rw[allB_append,e1,hCr,allB_append]
  rw[e3,allB_append]
  have e2:(allB rc s.roots).Perm (allB rc dk++(allB rc srcs++allB rc cr)):=by
   refine(allB_perm hperm).trans ?_
   rw[allB_append,allB_append]
  refine(e2.append_right _).trans ?_
  refine((((g2.append_right (allB rc cr)).append_left (allB rc dk))).append_right _).trans ?_
  refine List.perm_iff_count.mpr fun x=>?_
  simp only[List.count_append]
  omega
 have hex:(allB rc (s.roots++C.roots)).Nodup:=by simpa using h.excl
 have hnd:=hold.nodup_iff.mp hex
 have hnew:∀ b',b'∈allB rc1 (unpackR L.roots b++C'.roots)→b'∈allB rc (s.roots++C.roots):=fun b' hb'=>hold.mem_iff.mpr (List.mem_append_left _ hb')
 let fz1:=fzOf X w ([]++allB rc1 (unpackR L.roots b++C'.roots))
 have hf:∀ b',fzOf X w ([]++allB rc (s.roots++C.roots)) b'→fz1 b':=fun b' hb'=>⟨hb'.1,fun hm=>hb'.2 (by simpa using hnew b' (by simpa using hm)),hb'.3⟩
 have hfd:∀ b'∈rest++allB rc dk,fz1 b':=by
  intro b' hb'
  have hm:b'∈allB rc (s.roots++C.roots):=hold.mem_iff.mpr (List.mem_append_right _ hb')
  refine⟨(h.bnd b' (by simpa using hm)).1,fun hn=>?_,(h.bnd b' (by simpa using hm)).2.elim (h.zok.1 b') (h.zok.2 b')⟩
  exact(List.nodup_append.mp hnd).2.2 b' (by simpa using hn) b' hb' rfl
 have hnk:∀ k r,(k,r)∈unpackR L.roots b→k∈L.roots.map (·.1):=fun k r hm=>by rw[←g1];exact List.mem_map.mpr ⟨_,hm,rfl⟩
 have hkeys:((unpackR L.roots b++C'.roots).map (·.1)).Nodup:=by
  rw[List.map_append,g1]
  refine List.nodup_append.mpr ⟨hk2,?_,?_⟩
  · rw[hCr,List.map_append]
    have hk0:=h.keys
    rw[List.map_append]at hk0
    refine List.nodup_append.mpr ⟨hcrn,(List.nodup_append.mp hk0).2.1,?_⟩
    rintro j hj _ hj2 rfl
    obtain⟨⟨j',r⟩,hm,rfl⟩:=List.mem_map.mp hj
    exact(List.nodup_append.mp hk0).2.2 j' (List.mem_map.mpr ⟨_,look_mem (hcr _ _ hm),rfl⟩) j' hj2 rfl
  · rintro j hj _ hj2 rfl
    obtain⟨⟨j',r⟩,hm,rfl⟩:=List.mem_map.mp hj2
    exact hC'key j' hj r hm
 have hR1:∀ {k r},getR C' (L.unpack a0) k=some r↔(k,r)∈unpackR L.roots b++C'.roots:=by
  intro k r
  rw[←hroots]
  exact mem_getR (by rw[hroots];exact hkeys)
 refine⟨rc1,?_,?_,?_,?_,?_,?_,?_,h.ext,h.nd,h.zok,fun k b' hkb=>absurd hkb (hXc k b'),h.tsz,?_⟩
 · rw[hroots];exact hkeys
 · rw[hroots];simpa using (List.nodup_append.mp hnd).1
 · rw[hroots]
   intro b' hb'
   exact h.bnd b' (by simpa using hnew b' (by simpa using hb'))
 · rw[hroots]
   intro k r hm
   rcases List.mem_append.mp hm with hm|hm
   · exact g3 fz1 hf (fun b' hb'=>hfd b' (List.mem_append_left _ hb')) k r hm
   · rw[hrcC k r hm]
     exact(h.roots k r (hCold k r hm)).stable (fun b' hb'=>⟨hf b' hb',rfl⟩) fun _ _=>rfl
 · rw[hkeysT];exact hk3
 · intro t v htv
   have:t∈L.tmps.map (·.1)++(L.refs.map (·.1)++L.irefs.map (·.1)++L.srefs.map (·.1)):=by rw[←hkeysT];exact List.mem_map.mpr ⟨_,htv,rfl⟩
   have:=List.all_eq_true.mp hk5 t this
   exact Option.isNone_iff_eq_none.mp this
 · rw [hroots]
   intro t v htv
   rcases List.mem_append.mp htv with htv|htv
   · rcases hmemT t v htv with htv|⟨sh,v0,x,e1,e2,e3,rfl⟩
     · rcases List.mem_append.mp htv with htv|htv
       rotate_left
       ·
        obtain⟨k,hk',rfl⟩:=mem_srefsT htv
        obtain⟨i3,i4⟩:=agreeS_spec has t k hk'
        obtain⟨c,hc,hcp⟩:=hS t k hk'
        cases hl:look k (unpackR L.roots b)with
        |none=>exact⟨c,hc,trivial⟩
        | some r1=>
          have hm1:=look_mem hl
          have hRk:getR C' (L.unpack a0) k=some r1:=hR1.mpr (List.mem_append_left _ hm1)
          rcases g4 k r1 hm1 with⟨_,_,_,_,_,q1,_⟩|⟨j',r,_,q2,q3,q4,_,q6,_⟩
          · rw[i3]at q1;cases q1
          · rw[i4]at q2;cases q2
            refine⟨c,hc,?_⟩
            rw[hcp r q3,←q4,←q6]
            have hok:=g3 fz1 hf (fun b' hb'=>hfd b' (List.mem_append_left _ hb')) k r1 hm1
            refine mkRef_vok (mkRef_ok hRk hok.1 (fun r' h'=>by rw[hRk]at h';cases h';rfl) ?_ ?_ ?_ ?_)
            · exact getP_here
            · exact oP_here
            · exact InB_nil _ _
            · exact cellsP_here
       rcases List.mem_append.mp htv with htv|htv
       rotate_left
       ·
        obtain⟨k,p,hk',rfl⟩:=mem_irefsT htv
        obtain⟨i1,i2,i3,i4,i5⟩:=agreeI_spec hai t k p hk'
        have hkr:k∈L.roots.map (·.1):=memN_iff.mp (List.all_eq_true.mp hk7 _ hk')
        rw[←g1]at hkr
        obtain⟨⟨k',r1⟩,hm1,rfl⟩:=List.mem_map.mp hkr
        have hRk:getR C' (L.unpack a0) k'=some r1:=hR1.mpr (List.mem_append_left _ hm1)
        obtain⟨e,he,he1,_,_,he4⟩:=unpackR_mem hm1
        obtain⟨o',ho'⟩:=i5 e he he1
        rw[he4]at ho'
        obtain⟨c,hc,hv⟩:=h.getT i1
        obtain⟨cs,hv,rfl⟩:=hv
        rcases g4 k' r1 hm1 with⟨_,_,_,_,_,q1,_⟩|⟨j',r,_,q2,q3,q4,_,q6,_⟩
        · have i3:getNil C s L.refs k'=none:=i3
          rw[i3]at q1;cases q1
        · have i4:srcKey C s L.refs k'=some k':=i4
          rw[i4]at q2;cases q2
          obtain⟨_,_,m2,e,sa,m3⟩:=hv r ((mem_getR h.keys).mpr (List.mem_append_left _ (look_mem q3)))
          refine⟨_,hc,cs,fun r2 hr2=>?_,rfl⟩
          rw[hRk]at hr2;cases hr2
          rw[←q4]at m3
          refine⟨InB_fields _ i2 m3,⟨_,ho'⟩,?_,e,sa,m3⟩
          rw[q6,q4];exact m2
       obtain⟨k,hk',rfl⟩:=mem_refsT htv
       have hkr:k∈L.roots.map (·.1):=memN_iff.mp (List.all_eq_true.mp hk6 _ hk')
       rw[←g1]at hkr
       obtain⟨⟨k',r1⟩,hm1,rfl⟩:=List.mem_map.mp hkr
       have hRk:getR C' (L.unpack a0) k'=some r1:=hR1.mpr (List.mem_append_left _ hm1)
       have fin:∀(c v:Value),a.tmps[t]? = some c→(rc1 k').cs=[v]→c=v→(∃ e sa,r1.s = .sl e sa)→
         ∃ c,a.tmps[t]? = some c∧VOk w fz1 (getR C' (L.unpack a0)) rc1 (.own k' []) c:=by
        rintro c v hc hq rfl ⟨e,sa,hs⟩
        refine⟨c,hc,[c],fun r hr=>?_,rfl⟩
        rw[hRk]at hr;cases hr
        refine⟨?_,⟨r1.o,by cases r1.o<;>rfl⟩,?_,e,sa,?_⟩
        · exact InB_nil _ _
        · rw[hq];cases r1.s<;>rfl
        · rw[hs];rfl
       rcases agree_spec hag t k' hk' with⟨u,hu,hall⟩|⟨hu,j,hg,hj⟩
       · rcases g4 k' r1 hm1 with⟨t',sh,o,x,c,_,_,q3,q4,q5,q6,q7,_⟩|⟨_,_,q1,_⟩
         · have:t'=t:=hall (t',k') q3 rfl
           subst this
           refine fin c c q4 q5 rfl ?_
           cases sh<;>first|(simp[isSl]at q6;done)|exact⟨_,_,q7⟩
         · rw[hu]at q1;cases q1
       · rcases g4 k' r1 hm1 with⟨_,_,_,_,_,q1,_⟩|⟨j',r,_,q2,q3,q4,_,q6,_⟩
         · rw[hu]at q1;cases q1
         · rw[hj]at q2;cases q2
           obtain⟨c,hc,hv⟩:=h.getT hg
           obtain⟨cs,hv,rfl⟩:=hv
           obtain⟨_,_,m2,e,sa,m3⟩:=hv r ((mem_getR h.keys).mpr (List.mem_append_left _ (look_mem q3)))
           have hrs:r.s = .sl e sa:=by cases hs:r.s<;>rw[hs]at m3<;>simp[shP]at m3<;>simp[m3]
           have hcs:(rc j).cs=cs:=by rw[hrs]at m2;simpa [cellsP]using m2
           have hok:=(h.roots j r (List.mem_append_left _ (look_mem q3))).1.len
           rw[hrs,hcs]at hok
           obtain⟨v,rfl⟩:=List.length_eq_one_iff.mp hok
           exact fin _ v hc (by rw[q6,hcs]) rfl ⟨e,sa,by rw[q4,hrs]⟩
     ·
      obtain⟨c,hc,hv⟩:=h.getT e2
      refine⟨c,hc,view_row h hf hv e3 fun k hk' r hr b' hb'=>?_⟩
      have hfr:k∈L.tmps.flatMap (fun(t,_)=>match getT C s t with|some v=>keys v|none=>[]):=List.mem_flatMap.mpr ⟨_,e1,by simp only[e2];exact hk'⟩
      have h2:=List.all_eq_true.mp ha1 k hfr
      rw[Bool.and_eq_true,Bool.not_eq_true',Option.isNone_iff_eq_none]at h2
      have hnm:k∉(L.roots.map fun r=>(srcKey C s L.refs r.1).getD r.1)++L.croots:=by rw[←memN_iff,h2.1];simp
      have hm:=(mem_getR h.keys).mp hr
      rcases List.mem_append.mp hm with hm|hm
      · refine hfd b' (List.mem_append_right _ (mem_allB.mpr ⟨k,r,mem_delKeys.mpr ⟨hm,fun hmm=>?_⟩,hb'⟩))
        rw[List.map_append]at hmm
        rcases List.mem_append.mp hmm with hmm|hmm
        · exact hnm (List.mem_append_left _ (srcP_keys.subset hmm))
        · exact hnm (List.mem_append_right _ (hcrk k hmm))
      · exact absurd hm (look_none.mp h2.2 r)
   · obtain⟨c,hc,hv⟩:=h.tm t v (hCt t v htv)
     refine⟨c,hc,hv.stable (fun b' hb'=>⟨hf b' hb',rfl⟩) (fun k p hkp=>?_) fun k hkb=>?_⟩
     · intro r1 hr1
       have hm1:=hR1.mp hr1
       rcases List.mem_append.mp hm1 with hm1|hm1
       · have hkk:=hnk k r1 hm1
         obtain⟨e,he,rfl,he2,he3,_⟩:=unpackR_mem hm1
         have:=List.all_eq_true.mp hk4 e he
         rw[Bool.and_eq_true,Bool.not_eq_true']at this
         obtain⟨h3,rfl⟩:=badRef_cases hkp (badRefs_false this.1 htv)
         rw[he2,he3,Bool.and_eq_true]at h3
         rcases g4 _ r1 hm1 with⟨_,_,_,_,_,_,_,_,_,_,_,_,_,q9⟩|⟨j,r,_,_,q3,q4,q5,q6,q7,_,q9⟩
         · rw[q9]at h3;cases h3.1
         · obtain⟨m1,rfl⟩:=q9 h3.1
           refine⟨r,(mem_getR h.keys).mpr (List.mem_append_left _ (look_mem q3)),q4,fun c e' a _ _ _ q4'=>⟨InB_nil _ _,⟨r1.o,by cases r1.o<;>rfl⟩,?_⟩⟩
           rw[q6]
           rw[q4];exact q4'
       · refine⟨r1,(mem_getR h.keys).mpr (hCold k r1 hm1),rfl,fun c e a q1 q2 _ q4=>⟨q1,q2,by rw[hrcC k r1 hm1];exact q4⟩⟩
     · intro r1 hr1 hbx
       have hm1:=hR1.mp hr1
       rcases List.mem_append.mp hm1 with hm1|hm1
       · rcases g4 k r1 hm1 with⟨_,_,_,_,_,_,_,_,_,_,_,_,q8,_⟩|⟨j,r,_,_,q3,q4,q5,_,q7,q8,_⟩
         · rw[q8]at hbx;cases hbx
         · have:=q8 hbx
           subst this
           exact⟨r,(mem_getR h.keys).mpr (List.mem_append_left _ (look_mem q3)),by rw[←q5];exact hbx,q4,q7⟩
       · exact⟨r1,(mem_getR h.keys).mpr (hCold k r1 hm1),hbx,rfl,by rw[hrcC k r1 hm1]⟩
 · rw [hroots]
   intro k r hm hi
   rcases List.mem_append.mp hm with hm|hm
   · rcases g4 k r hm with⟨_,_,_,_,_,_,_,_,_,_,_,_,_,q9⟩|⟨j,r0,_,_,q3,_,q5,q6,q7,_,q9⟩
     · rw[q9]at hi;cases hi
     · obtain⟨m1,rfl⟩:=q9 hi
       obtain⟨k1,k2⟩:=h.inn j r0 (List.mem_append_left _ (look_mem q3)) m1
       exact⟨fun hb=>q6.trans (k1 (q5.symm.trans hb)),fun hb=>q7.trans (k2 (q5.symm.trans hb))⟩
   · rw[hrcC k r hm];exact h.inn k r (hCold k r hm) hi
end
end Go.V
namespace Go.V
open Go
def QK (K:Ex→St→Prop) (C:St) (X:Fr) (w0:World):Exit→Act→World→Prop
 |.normal,a,w=>∃ s rc,K .normal s∧Rel rc [] C s X w0 a w
 |.exit id,a,w=>∃ s rc,K (.exit id) s∧Rel rc [] C s X w0 a w
 |.ret,a,w=>∃ s rc,K .ret s∧Rel rc [] C s X w0 a w
 |_,_,_=>False
section
variable {P:Program} {E:Env} {C s:St} {X:Fr} {w0 w:World} {a:Act} {rc:Nat→RC}
theorem Rel.drew (h:Rel rc [] C s X w0 a w):Rel rc [] C s X w0 a { w with drawn:=w.drawn+1 }:=by
 refine h.step h.keys h.excl (fun b hb=>⟨(h.bnd b hb).1,.inl hb⟩) (Nat.le_refl _) rfl rfl rfl (fun _ _ _=>rfl) (fun k r hk=>.inl ⟨hk,rfl,fun _ _=>rfl⟩) (fun _ _ _=>⟨rfl,fun _ _=>rfl⟩) h.tn (fun _ _ h=>h) ?_
 intro t v _ k
 refine⟨fun p _=>HS.same (fz:=fun _=>True) rfl rfl (fun r hr=>⟨(h.root hr).stable (fun b _=>⟨trivial,rfl⟩) fun _ _=>rfl,fun _ _=>rfl⟩) fun _ _=>rfl,fun _=>BS.same rfl rfl⟩
theorem Rel.merge (h:Rel rc [] C s X w0 a w) {ct:List (Nat×Val)} {cr:List (Nat×Root)} {rc1:Nat→RC} {s1:St} {a1:Act} {w1:World} (hXc:∀ k b,¬ X.c k b)
  (hct:∀ t v,(t,v)∈ct→(t,v)∈s.tmps) (hctn:(ct.map (·.1)).Nodup)
  (h1:Rel rc1 [] ⟨ct++C.tmps,cr++C.roots⟩ s1 X w0 a1 w1):Rel rc1 [] C (merge ⟨ct,cr⟩ s1) X w0 a1 w1:=by
 have hl:(s1.roots++(cr++C.roots))=((s1.roots++cr)++C.roots):=by simp
 have hR:getR C (Go.V.merge ⟨ct,cr⟩ s1)=getR ⟨ct++C.tmps,cr++C.roots⟩ s1:=getR_congr h1.keys (by show((s1.roots++cr)++C.roots).Perm _;rw[←hl])
 refine⟨?_,?_,?_,?_,?_,?_,?_,h1.ext,h1.nd,h1.zok,fun k b hkb=>absurd hkb (hXc k b),h1.tsz,?_⟩
 · show(((s1.roots++cr)++C.roots).map (·.1)).Nodup
   rw[←hl];exact h1.keys
 · show([]++allB rc1 ((s1.roots++cr)++C.roots)).Nodup
   rw[←hl];exact h1.excl
 · show ∀ b∈[]++allB rc1 ((s1.roots++cr)++C.roots),_
   rw[←hl];exact h1.bnd
 · show ∀ k r,(k,r)∈(s1.roots++cr)++C.roots→RootOk w1 (fzOf X w1 ([]++allB rc1 ((s1.roots++cr)++C.roots))) r (rc1 k)
   rw[←hl];exact h1.roots
 · show((s1.tmps++ct).map (·.1)).Nodup
   rw[List.map_append]
   refine List.nodup_append.mpr ⟨h1.tn,hctn,?_⟩
   rintro t ht _ ht2 rfl
   obtain⟨⟨t',v⟩,hm,rfl⟩:=List.mem_map.mp ht
   obtain⟨⟨t2,v2⟩,hm2,rfl⟩:=List.mem_map.mp ht2
   exact look_none.mp (h1.td _ _ hm) v2 (List.mem_append_left _ hm2)
 · intro t v htv
   rcases List.mem_append.mp (show(t,v)∈s1.tmps++ct from htv)with htv|htv
   · have:=look_none.mp (h1.td t v htv)
     exact look_none.mpr fun v' hv'=>this v' (List.mem_append_right _ hv')
   · exact h.td t v (hct t v htv)
 · show ∀ t v,(t,v)∈(s1.tmps++ct)++C.tmps→∃ c,a1.tmps[t]? = some c∧VOk w1 (fzOf X w1 ([]++allB rc1 ((s1.roots++cr)++C.roots))) (getR C (Go.V.merge ⟨ct,cr⟩ s1)) rc1 v c
   rw[←hl,hR]
   intro t v htv
   exact h1.tm t v (by rw[List.append_assoc]at htv;exact htv)
 · show ∀ k r,(k,r)∈(s1.roots++cr)++C.roots→_
   rw[←hl];exact h1.inn
theorem constsT_spec {roots:List (Nat×Root)}:∀ {l:List Nat} {ct:List (Nat×Val)},constsT C s roots l=some ct→ct.map (·.1)=l∧∀ t v,(t,v)∈ct→(t,v)∈s.tmps:=by
 intro l
 induction l with
 |nil=>intro ct h;simp only[constsT,Option.some.injEq]at h;subst h;simp
 | cons t l ih=>
   intro ct h
   simp only[constsT]at h
   split at h
   · rename_i v vs h1 h2
     split at h
     · cases h
       obtain⟨g1,g2⟩:=ih h2
       refine⟨by simp[g1],fun t' v' h'=>?_⟩
       rcases List.mem_cons.mp h' with h'|h'
       · cases h';exact look_mem h1
       · exact g2 t' v' h'
     · simp at h
   · simp at h
theorem wp_rounds {c:Code} {Q:Exit→Act→World→Prop} (I:Nat→Act→World→Prop) (h0:∀ a w,¬ I 0 a w)
  (round:∀ n a w,I (n+1) a w→c.wp P (Exit.then (I n) Q) a w):∀(n:Nat) (a:Act) (w:World),I n a w→(Code.loop c).wp P Q a w:=by
 intro n a w h
 have h':∃ n,I n a w:=⟨n,h⟩
 classical
 let μ:Act→World→Nat:=fun a w=>if h:∃ n,I n a w then Classical.choose (p:=fun n=>I n a w∧∀ m,m<n→¬ I m a w) (by
  obtain⟨n,hn⟩:=h
  induction n using Nat.strongRecOn with
  | _ n ih=>
    by_cases hx:∃ m,m<n∧I m a w
    · obtain⟨m,h1,h2⟩:=hx;exact ih m h1 h2
    · exact⟨n,hn,fun m hm hi=>hx ⟨m,hm,hi⟩⟩)else 0
 have hμ:∀ a w,(∃ n,I n a w)→I (μ a w) a w∧∀ m,m<μ a w→¬ I m a w:=by
  intro a w h
  simp only[μ,h,dif_pos]
  exact Classical.choose_spec (p:=fun n=>I n a w∧∀ m,m<n→¬ I m a w) _
 refine wp_loop (fun a w=>∃ n,I n a w) μ h' fun a w hI=>?_
 obtain⟨g1,g2⟩:=hμ a w hI
 cases hm:μ a w with
 |zero=>rw[hm]at g1;exact absurd g1 (h0 a w)
 | succ n=>
   rw[hm]at g1
   refine wp_mono (round n a w g1) fun e a' w' he=>?_
   cases e with
   | normal=>
     refine⟨⟨n,he⟩,?_⟩
     obtain⟨k1,k2⟩:=hμ a' w' ⟨n,he⟩
     rcases Nat.lt_or_ge n (μ a' w')with h'|h'
     · exact absurd he (k2 n h')
     · omega
   |_=>exact he
end
end Go.V
namespace Go.V
open Go
section
variable {P:Program} {E:Env} {X:Fr} {w0:World} {L:Nat→Option Loop} {pl:Nat→Option Pl}
theorem softL_ok {C:St} {a:Act} {w:World}:∀ {l l1:Pl} {s s1:St} {rc:Nat→RC},Rel rc [] C s X w0 a w→softL C s l=some (s1,l1)→∃ rc1,Rel rc1 [] C s1 X w0 a w:=by
 intro l
 induction l with
 | soft k p r ih=>
   intro l1 s s1 rc h hs
   simp only[softL]at hs
   split at hs
   · rename_i s2 hk
     have:∃ rc1,Rel rc1 [] C s2 X w0 a w:=by
      unfold softK at hk
      split at hk<;>try (simp at hk;done)
      rename_i rt hr hC hin
      split at hk<;>try (simp at hk;done)
      rename_i o1 e sa ho hsl
      split at hk<;>try (simp at hk;done)
      rename_i o2 hal hs2
      unfold inRoot at hk
      split at hk<;>try (simp at hk;done)
      cases hk
      obtain⟨rc1,q1,_⟩:=weaken_ok h hr hC hin ho hal hs2 ⟨_,_,hsl⟩
      exact⟨rc1,q1⟩
     obtain⟨rc1,h1⟩:=this
     exact ih h1 hs
   · simp at hs
 | frz k r ih=>
   intro l1 s s1 rc h hs
   simp only[softL]at hs
   split at hs
   · rename_i s2 hk
     obtain⟨rc1,⟨h1,_⟩,_⟩:=frzAll_ok h hk
     exact ih h1 hs
   · simp at hs
 | drain t r ih=>
   intro l1 s s1 rc h hs
   simp only[softL]at hs
   split at hs
   · rename_i s2 hk
     obtain⟨rc1,h1⟩:=drainOne_ok h hk
     exact ih h1 hs
   · simp at hs
 |_=>intro l1 s s1 rc h hs;simp only[softL,Option.some.injEq,Prod.mk.injEq]at hs;obtain⟨rfl,rfl⟩:=hs;exact⟨rc,h⟩
theorem ev_ok (hE:∀ t s,E.sh t=some s→ShOk P s none t) (hG:∀ f us rs outs,E.gives f us rs outs→GivesS P f us rs outs) (hm:P.follows .mixedOrders=true) (hXc:∀ k b,¬ X.c k b) :
  ∀ {c:Code} {cur:Nat} {C s:St} {K:Ex→St→Prop} {a:Act} {w:World} {rc:Nat→RC},Rel rc [] C s X w0 a w→slotsOk X.n c=true→ev E L pl c cur C K s→c.wp P (QK K C X w0) a w:=by
 intro c
 induction c with
 |skip=>intro cur C s K a w rc h _ hk;exact wp_skip ⟨s,rc,hk,h⟩
 |exit id=>intro cur C s K a w rc h _ hk;exact wp_exit ⟨s,rc,hk,h⟩
 |ret=>intro cur C s K a w rc h _ hk;exact wp_ret ⟨s,rc,hk,h⟩
 | region id ops draw=>
   intro cur C s K a w rc h hs hk
   have hd:∀ o∈ops.toList,∀ t,o.dst=some t→t<X.n:=by
    intro o ho t ht
    have:=List.all_eq_true.mp hs o ho
    rw[ht]at this
    exact Nat.blt_eq.mp this
   cases draw with
   | false=>
     refine wp_region ?_
     simp only[ev]at hk
     split at hk
     · rename_i p _
       split at hk
       · rename_i s1 hsf
         obtain⟨rc',hrel⟩:=softL_ok h hsf
         rw[countUp_eq,←List.range_eq_range']at hk
         exact opsM_ok hE hG hd hrel hk fun s1 rc1 a1 w1 hk1 h1=>⟨s1,rc1,hk1,h1⟩
       · exact hk.elim
     · rw[countUp_eq,←List.range_eq_range']at hk
       exact opsM_ok hE hG hd h hk fun s1 rc1 a1 w1 hk1 h1=>⟨s1,rc1,hk1,h1⟩
   | true=>
     simp only[ev]at hk
     split at hk
     · rename_i p _
       split at hk
       · rename_i s1 p1 hsf
         obtain⟨rc',hrel⟩:=softL_ok h.drew hsf
         split at hk
         · rename_i hr
           exact region_ok hE hG hm (fun c a w hq=>hq) hd hrel hr hk fun s1 rc1 a1 w1 hk1 h1=>⟨s1,rc1,hk1,h1⟩
         · exact hk.elim
       · exact hk.elim
     · exact hk.elim
 | seq x y ihx ihy=>
   intro cur C s K a w rc h hs hk
   simp only[slotsOk,Bool.and_eq_true]at hs
   refine wp_seq (wp_mono (ihx h hs.1 hk) ?_)
   intro e a' w' he
   cases e with
   |normal=>obtain⟨s1,rc1,hk1,h1⟩:=he;exact ihy h1 hs.2 hk1
   |exit id=>exact he
   |ret=>exact he
   |_=>exact he.elim
 | cond c x y ihx ihy=>
   intro cur C s K a w rc h hs hk
   simp only[slotsOk,Bool.and_eq_true]at hs
   simp only[ev]at hk
   cases hv:evalV C s none c with
   |none=>rw[hv]at hk;exact hk.elim
   | some v=>
     rw[hv]at hk
     cases v with
     | t sh oo b=>
       cases sh<;>try (exact hk.elim)
       cases oo<;>try (exact hk.elim)
       have hc:=VOk.bool (evalV_ok h hv)
       obtain⟨b,rfl⟩:∃ b':Bool,b'=b:=⟨b,rfl⟩
       simp only at hk
       cases b with
       |true=>exact wp_cond_true hc (ihx h hs.1 hk)
       |false=>exact wp_cond_false hc (ihy h hs.2 hk)
     |_=>exact hk.elim
 | block id c ih=>
   intro cur C s K a w rc h hs hk
   refine wp_block (wp_mono (ih h hs hk) ?_)
   intro e a' w' he
   cases e with
   |normal=>exact he
   | exit j=>
     obtain⟨s1,rc1,hk1,h1⟩:=he
     simp only[Exit.inBlock]
     by_cases hj:j=id
     · subst hj
       simp only[Nat.beq_refl]at hk1
       simp only[if_true]
       exact⟨s1,rc1,hk1,h1⟩
     · rw[if_neg hj]
       have:Nat.beq j id=false:=by rw[Bool.eq_false_iff];exact fun h=>hj (Nat.eq_of_beq_eq_true h)
       simp only[this]at hk1
       exact⟨s1,rc1,hk1,h1⟩
   |ret=>exact he
   |_=>exact he.elim
 | loop c ih=>
   intro cur C s K a w rc h hs hk
   simp only[ev]at hk
   split at hk
   · exact hk.elim
   rename_i l _
   split at hk
   · exact hk.elim
   rename_i s0 hship
   split at hk
   · exact hk.elim
   rename_i cr hcr
   split at hk
   case h_2=>exact hk.elim
   rename_i ct a0 hct hp ha
   split at hk
   case h_2=>exact hk.elim
   rename_i hok
   obtain⟨k1,k2⟩:=constsR_spec hcr
   obtain⟨t1,t2⟩:=constsT_spec hct
   have hok':=hok
   unfold okL at hok'
   simp only[Bool.and_eq_true]at hok'
   have hsn:=nodupN_iff hok'.2
   obtain⟨sd,hdr,hship⟩:=Option.bind_eq_some_iff.mp hship
   obtain⟨rcd,h⟩:=drain_ok h hdr
   obtain⟨rcs,h,hS,_⟩:=ship_ok h hsn hship
   have hctn:(ct.map (·.1)).Nodup:=by rw[t1];exact nodupN_iff hok'.1.1.1.1.1.1.1
   have hcrn:(cr.map (·.1)).Nodup:=by
    rw[k1]
    unfold apart at ha
    simp only[Bool.and_eq_true]at ha
    exact(List.nodup_append.mp (nodupN_iff ha.2)).2.1
   obtain⟨rc0,h0⟩:=pack_ok (C':=⟨ct++C.tmps,cr++C.roots⟩) h hXc rfl k2 (by rw[k1];exact fun _ h=>h) hcrn
    (fun t v htv=>by
     rcases List.mem_append.mp htv with htv|htv
     · exact List.mem_append_left _ (t2 t v htv)
     · exact List.mem_append_right _ htv) hp ha hok hS
   obtain⟨n,hn⟩:=hk
   let B:(l.den→Prop)→l.den→Prop:=fun again a=>ev E L pl c cur ⟨ct++C.tmps,cr++C.roots⟩ (fun e s'=>match e with
    | .normal=>match ship ⟨ct++C.tmps,cr++C.roots⟩ s' l.srefs with
      | some s''=>match l.pack ⟨ct++C.tmps,cr++C.roots⟩ s'',apart ⟨ct++C.tmps,cr++C.roots⟩ s'' l with
        |some a',true=>again a'
        |_,_=>False
      |none=>False
    |e=>K e (merge ⟨ct,cr⟩ s')) (l.unpack a)
   refine wp_rounds (fun n a' w'=>∃(x:l.den) (rc':Nat→RC),iterP B n x∧Rel rc' [] ⟨ct++C.tmps,cr++C.roots⟩ (l.unpack x) X w0 a' w') ?_ ?_ n a w ⟨a0,rc0,hn,h0⟩
   · rintro a' w' ⟨x,rc',hx,_⟩;exact hx
   · rintro m a' w' ⟨x,rc',hx,hr⟩
     refine wp_mono (ih hr hs hx) ?_
     intro e a2 w2 he
     cases e with
     | normal=>
       obtain⟨s2,rc2,hk2,h2⟩:=he
       simp only at hk2
       split at hk2
       case h_2=>exact hk2.elim
       rename_i s3 hsh
       obtain⟨rc2',h2,hS2,_⟩:=ship_ok h2 hsn hsh
       split at hk2
       · rename_i a3 hp3 ha3
         obtain⟨rc3,h3⟩:=pack_ok (C':=⟨ct++C.tmps,cr++C.roots⟩) (cr:=[]) h2 hXc rfl (by simp) (by simp) (by simp) (fun t v htv=>List.mem_append_right _ htv) hp3 ha3 hok hS2
         exact⟨a3,rc3,hk2,h3⟩
       · exact hk2.elim
     | exit id=>
       obtain⟨s2,rc2,hk2,h2⟩:=he
       exact⟨_,rc2,hk2,h.merge hXc t2 hctn h2⟩
     | ret=>
       obtain⟨s2,rc2,hk2,h2⟩:=he
       exact⟨_,rc2,hk2,h.merge hXc t2 hctn h2⟩
     |_=>exact he.elim
 |_=>intro cur C s K a w rc h hs hk;exact hk.elim
end
end Go.V

