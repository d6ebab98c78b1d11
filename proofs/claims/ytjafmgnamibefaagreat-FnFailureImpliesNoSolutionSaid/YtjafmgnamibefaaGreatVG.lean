/-
  The sort of a row of structs by a comparison of the program, by the library's contract.
-/
import Derived.Test.YtjafmgnamibefaaGreatVF
import Derived.Test.YtjafmgnamibefaaGreatVE
import Derived.Shelf.SlSortCmp.WholeK
import Derived.Shelf.SlSortCmp.NoneTotal
set_option linter.unusedVariables false
set_option linter.unusedSimpArgs false
namespace Go.V
open Go Go.Proofs Go.Shelf Go.Sort Go.Lib Go.RowKit
section
variable {w:World} {fz:Nat->Prop} {sh:Sh} {oa:O} {g:Nat}
theorem z005 {α:Type} [Inhabited α] {enc:α->List Value} {k:Nat} (hk:∀ x,(enc x).length=k):∀(d:List α) (t:Nat),t<d.length * k->(d.flatMap enc)[t]? = some ((enc (d.getD (t / k) default)).getD (t % k) default)
 |[],t,h=>by simp at h
 | a::l,t,h=>by
   have k0:0<k:=by
    rcases Nat.eq_zero_or_pos k with rfl|h0
    . simp at h
    . exact h0
   rw[List.flatMap_cons]
   by_cases ht:t<k
   . rw[List.getElem?_append_left (by rw[hk];exact ht),Nat.div_eq_of_lt ht,Nat.mod_eq_of_lt ht]
     rw[List.getElem?_eq_getElem (by rw[hk];exact ht)]
     simp[List.getD,hk,ht]
   . have ht:k<=t:=by omega
     rw[List.getElem?_append_right (by rw[hk];exact ht),hk]
     have hl:t - k<l.length * k:=by rw[List.length_cons,Nat.succ_mul]at h;omega
     rw[z005 hk l (t - k) hl]
     have h1:t / k=(t - k) / k+1:=by rw[Nat.div_eq_sub_div k0 ht]
     have h2:t % k=(t - k) % k:=Nat.mod_eq_sub_mod ht
     rw[h1,h2]
     simp
theorem zsn {α:Type} [Inhabited α] {enc:α->List Value} {k:Nat} (hk:∀ x,(enc x).length=k) (d:List α):(flatK enc k d.toArray).toList=d.flatMap enc:=by
 have hl:(d.flatMap enc).length=d.length * k:=by
  induction d with
  |nil=>simp
  |cons a l ih=>rw[List.flatMap_cons,List.length_append,ih,hk,List.length_cons,Nat.succ_mul];omega
 apply List.ext_getElem?
 intro t
 by_cases ht:t<d.length * k
 . rw[z005 hk d t ht]
   have h1:=get_flatK enc k d.toArray t (by simpa using ht)
   have hs:t<(flatK enc k d.toArray).toList.length:=by rw[Array.length_toList,size_flatK];simpa using ht
   rw[List.getElem?_eq_getElem hs]
   rw[getElem!_pos _ t (by rw[size_flatK];simpa using ht)]at h1
   rw[Array.getElem_toList,h1]
   simp[List.getD,getElem!_def]
   try rfl
 . rw[List.getElem?_eq_none (by rw[Array.length_toList,size_flatK];simp;omega),List.getElem?_eq_none (by omega)]
theorem z09b {w w':World} (h:Ext [] w w'):∃ q os,w'=grow (w.drewN q) os:=by
 refine⟨w'.drawn - w.drawn,w'.heap.extract w.heap.size w'.heap.size,?_⟩
 obtain⟨heap',tape',drawn',os',output'⟩:=w'
 have e1:os'=w.os:=h.os
 have e2:tape'=w.tape:=h.tape
 have e3:output'=w.output:=h.output
 have hs:w.heap.size<=heap'.size:=h.size
 have hd:w.drawn<=drawn':=h.drawn
 have hb:∀ k,k<w.heap.size->heap'[k]? = w.heap[k]?:=fun k hk=>h.block k hk (by simp)
 subst e1 e2 e3
 have eh:heap'=w.heap++heap'.extract w.heap.size heap'.size:=by
  apply Array.ext_getElem?
  intro k
  by_cases hk:k<w.heap.size
  . rw[Array.getElem?_append_left hk];exact hb k hk
  . rw[Array.getElem?_append_right (by omega),Array.getElem?_extract]
    by_cases hk2:k<heap'.size
    . rw[if_pos (by omega)];congr 1;omega
    . rw[if_neg (by omega),Array.getElem?_eq_none (by omega)]
 have ed:w.drawn+(drawn' - w.drawn)=drawn':=by omega
 show World.mk heap' w.tape drawn' w.os w.output=World.mk (w.heap++heap'.extract w.heap.size heap'.size) w.tape (w.drawn+(drawn' - w.drawn)) w.os w.output
 rw[ed,<-eh]
theorem zri {P:Program} {f:FuncId} (h:zh2 P f):∀ args w,(callFunc f args).run P w = .ok (.enter f args) w:=by
 obtain⟨fn,h1,h2,h3⟩:=h
 cases hb:fn.body with
 |none=>rw[hb]at h3;cases h3
 |some c=>exact enters_of h1 h2 hb
theorem z077 {P:Program} {gf:FuncId} {cf:sh.den->sh.den->Int} [Inhabited (El w fz sh oa g)] (hG:∀ a b:sh.den,z16 P gf [⟨sh,.z,a⟩,⟨sh,.z,b⟩] [⟨.int .i64,.z,cf a b⟩] [⟨sh,.z,a⟩,⟨sh,.z,b⟩])
  (hag:zdz sh=true) (hal:oa.alive=true) (hfz:∀ b,fz b->b≠g/\b<w.heap.size) {size:Nat}:CmpLays P gf #[] (fun y:El w fz sh oa g=>y.cs) sh.size (fun x y=>cf x.x y.x) g 0 size w:=by
 intro m os dk _ x y
 have hE:Ext [g] w (sortWorldK (fun y:El w fz sh oa g=>y.cs) sh.size w g 0 m dk os):=zdu (enc:=id)
 have hW:∀ b,b≠g/\b<w.heap.size->(sortWorldK (fun y:El w fz sh oa g=>y.cs) sh.size w g 0 m dk os).heap[b]? = w.heap[b]?:=fun b h=>hE.block b h.2 (by simp[h.1])
 have hr:∀ e:El w fz sh oa g,Rep (sortWorldK (fun y:El w fz sh oa g=>y.cs) sh.size w g 0 m dk os) (fun b=>b≠g/\b<w.heap.size) sh .z e.x e.cs []:=fun e=>
  (e.rep.freeze (fz1:=fun b=>b≠g/\b<w.heap.size) hfz hal e.nb).stable (fun b hb=>⟨hb,hW b hb⟩) (by simp)
 obtain⟨_,hc⟩:=hG x.x y.x
 have hc:=hc (sortWorldK (fun y:El w fz sh oa g=>y.cs) sh.size w g 0 m dk os) (fun b=>b≠g/\b<w.heap.size) [z0z (z4y sh) x.cs,z0z (z4y sh) y.cs] []
  ⟨_,_,x.cs,[],[],rfl,rfl,rfl,hr x,⟨_,_,y.cs,[],[],rfl,rfl,rfl,hr y,rfl,rfl⟩⟩ List.nodup_nil (by simp) (fun b hb=>Nat.lt_of_lt_of_le hb.2 hE.size)
 rw[show z4y sh=true from hag]at hc
 refine hc.mono ?_
 rintro e w' ⟨c,cs,l1,l2,rfl,rfl,hext,⟨_,_,cells,_,_,rfl,_,rfl,hrep,rfl,_⟩,_⟩
 obtain⟨q,os',rfl⟩:=z09b hext
 have h2:=(hrep.2.2 (by simp)).1
 refine⟨?_,q,os',rfl⟩
 rw[h2];rfl
def zb8 {α:Type} (cf:α->α->Int) (x:List α):List α:=x.mergeSort fun a b=>!(ltOf cf) b a
theorem z023 {α β:Type} [Inhabited α] [Inhabited β] {f:α->β} {d d':Array α} (h:PermIn 0 d.size d d'):PermIn 0 (d.map f).size (d.map f) (d'.map f):=by
 obtain⟨h1,_,h3⟩:=h
 refine⟨by simp[h1],fun i hi=>?_,?_⟩
 . rw[getElem!_neg _ i (by simp at hi ⊢;omega),getElem!_neg _ i (by simp at hi ⊢;omega)]
 . rw[show(d.map f).size=d.size by simp]
   have e1:d'.extract 0 d.size=d':=by rw[<-h1];exact Array.extract_size
   have e2:d.extract 0 d.size=d:=Array.extract_size
   have e3:(d'.map f).extract 0 d.size=d'.map f:=by rw[<-h1,show d'.size=(d'.map f).size by simp];exact Array.extract_size
   have e4:(d.map f).extract 0 d.size=d.map f:=by rw[show d.size=(d.map f).size by simp];exact Array.extract_size
   rw[e1,e2]at h3
   rw[e3,e4,Array.toList_map,Array.toList_map]
   exact h3.map f
theorem z030 {α β:Type} [Inhabited α] [Inhabited β] {f:α->β} {lt:β->β->Bool} {n:Nat} {d:Array α} (hn:n=d.size) (h:SortedIn (fun x y=>lt (f x) (f y)) 0 n d):SortedIn lt 0 n (d.map f):=by
 intro i j h1 h2 h3
 have:=h i j h1 h2 h3
 rw[getElem!_pos _ i (by omega),getElem!_pos _ j (by omega)]at this
 rw[getElem!_pos _ i (by simp;omega),getElem!_pos _ j (by simp;omega),Array.getElem_map,Array.getElem_map]
 exact this
theorem zuh {P:Program} {ρ:Ren} (L:SlLaysF0.n6 P ρ) (hEnt:zh2 P (ρ.f 6)) {e:TypeId} {gf:FuncId} {cf:sh.den->sh.den->Int} [Inhabited sh.den] (aE:∀ w,(isAgg (ρ.t 24)).run P w = .ok true w) (zE:∀ w,(Go.sizeOf (ρ.t 24)).run P w = .ok sh.size w)
  (hG:∀ a b:sh.den,z16 P gf [⟨sh,.z,a⟩,⟨sh,.z,b⟩] [⟨.int .i64,.z,cf a b⟩] [⟨sh,.z,a⟩,⟨sh,.z,b⟩]) (hag:zdz sh=true) (hal:oa.alive=true)
  (hO:SWO (ltOf cf)) (hT:∀ x y,ltOf cf x y=false->ltOf cf y x=false->x=y) {x:List sh.den} (hx:x.length<4611686018427387904) :
  z16 P (ρ.f 6) [⟨.sl e sh,.own oa,x⟩,⟨.fn gf .unit,.z,()⟩] [] [⟨.sl e sh,.own oa,zb8 cf x⟩,⟨.fn gf .unit,.z,()⟩]:=by
 refine⟨hEnt,?_⟩
 rintro w fz args ls ⟨c,cs',cells,l1,l2,rfl,rfl,rfl,hrep,c2,cs2,cells2,l3,l4,rfl,rfl,rfl,⟨ccs,rfl,hu⟩,rfl,rfl⟩ hnd hls hfz
 obtain⟨rfl,rfl⟩:l3=[]/\ccs=[]:=hu
 obtain⟨v,es,ebs,rfl,hL,hcase⟩:=hrep
 have nilcase:∀(A:Option Addr) (cap:Nat),x=[]->v = .slice A 0 cap->(l1.Nodup)->(∀ b∈l1,b<w.heap.size)->(∀ y:List sh.den,y=[]->Rep w (z8g fz (l1++[]) w w ([]++(l1++[]))) (.sl e sh) (.own oa) y [v] l1)->
   Calls P (ρ.f 6) [z0z (z4y (.sl e sh)) [v],z0z (z4y (.fn gf .unit)) [.func (.func gf) #[] (List.toArray [])]].toArray w fun en w'=>∃ c cs k1 k2,en = .returned c/\c=zgo cs/\Ext (l1++([]++[])) w w'/\ArgsRep w' (z8g fz (l1++([]++[])) w w' (k1++k2)) [] cs k1/\
    OutsRep w' (z8g fz (l1++([]++[])) w w' (k1++k2)) [⟨.sl e sh,.own oa,x⟩,⟨.fn gf .unit,.z,()⟩] [⟨.sl e sh,.own oa,zb8 cf x⟩,⟨.fn gf .unit,.z,()⟩] [z0z (z4y (.sl e sh)) [v],z0z (z4y (.fn gf .unit)) [.func (.func gf) #[] (List.toArray [])]] k2/\
    (k1++k2).Nodup/\∀ b∈k1++k2,b<w'.heap.size/\(b∈l1++([]++[])\/w.heap.size<=b):=by
  intro A cap h0 hv hn hb hr
  subst hv
  refine(AnyF.slices_SortFunc_none L A cap (.func (.func gf) #[] #[]) w).mono ?_
  rintro en w' ⟨rfl,rfl⟩
  refine⟨_,[],[],l1++[],rfl,rfl,Ext.refl' _ _,⟨rfl,rfl⟩,⟨_,_,_,l1,[],rfl,rfl,rfl,rfl,rfl,by simp[Value.oneCell'],fun _=>by simpa using hr (zb8 cf x) (by rw[h0];simp[zb8]),⟨_,_,_,[],[],rfl,rfl,rfl,rfl,rfl,by simp[Value.oneCell'],fun h=>absurd rfl h,rfl,rfl⟩⟩,by simpa using hn,fun b h=>?_⟩
  have h:b∈l1:=by simpa using h
  exact⟨hb b h,.inl (by simp[h])⟩
 have hn1:l1.Nodup:=by simpa using hnd
 have hb1:∀ b∈l1,b<w.heap.size/\¬ fz b:=fun b h=>hls b (by simp[h])
 have hself:∀ b,fz b->z8g fz (l1++[]) w w ([]++(l1++[])) b/\w.heap[b]? = w.heap[b]?:=fun b h=>⟨⟨.inl h,hfz b h,fun hm=>(hb1 b (by simpa using hm)).2 h⟩,rfl⟩
 rcases hcase with⟨rfl,h0,rfl⟩|⟨g,cap,cur,rfl,hg,hle,hcap,hsz,htake,rfl⟩
 . have h0:x=[]:=h0
   subst h0
   exact nilcase none 0 rfl rfl hn1 (fun b h=>(hb1 b h).1) (by rintro y rfl;exact⟨_,[],[],rfl,⟨rfl,rfl⟩,.inl ⟨rfl,rfl,rfl⟩⟩)
 . have hL:RepL (Rep w fz sh oa) x es ebs:=hL
   have hle:x.length<=cap:=hle
   have htake:cur.toList.take (x.length * sh.size)=es:=htake
   have hgl:=hb1 g (by simp)
   have hebs:∀ b∈ebs,b≠g/\b<w.heap.size:=fun b hb=>⟨fun e=>(List.nodup_cons.mp hn1).1 (e ▸ hb),(hb1 b (by simp[hb])).1⟩
   obtain⟨d,hdx,hdc,hdb⟩:=z05l (g:=g) hL hebs
   cases d with
   | nil=>
     have h0:x=[]:=by rw[<-hdx];rfl
     subst h0
     obtain⟨rfl,rfl⟩:es=[]/\ebs=[]:=hL
     refine nilcase (some ⟨g,0,none⟩) cap rfl rfl hn1 (fun b h=>(hb1 b h).1) ?_
     rintro y rfl
     exact⟨_,[],[],rfl,⟨rfl,rfl⟩,.inr ⟨g,cap,cur,rfl,hg,hle,hcap,hsz,htake,rfl⟩⟩
   | cons a0 d0=>
     haveI:Inhabited (El w fz sh oa g):=⟨a0⟩
     generalize hd:a0::d0=d at hdx hdc hdb
     clear nilcase
     have hfzg:∀ b,fz b->b≠g/\b<w.heap.size:=fun b h=>⟨fun e=>hgl.2 (e ▸ h),hfz b h⟩
     have hk:∀ y:El w fz sh oa g,y.cs.length=sh.size:=fun y=>y.rep.len
     have hdl:d.length=x.length:=by rw[<-hdx,List.length_map]
     have hH:HoldsK (fun y:El w fz sh oa g=>y.cs) sh.size w g 0 d.toArray:=by
      intro j hj
      have hj':j<d.length * sh.size:=by simpa using hj
      have hcj:j<cur.size:=by
       rw[hsz]
       exact Nat.lt_of_lt_of_le hj' (Nat.mul_le_mul_right _ (by omega))
      constructor
      . simp only[World.cell?,hg,Nat.zero_add,Option.isSome_none,Bool.false_eq_true,if_false]
        have h1:(flatK (fun y:El w fz sh oa g=>y.cs) sh.size d.toArray).toList=cur.toList.take (x.length * sh.size):=by rw[zsn hk,hdc,htake]
        have h2:(cur.toList.take (x.length * sh.size))[j]? = cur.toList[j]?:=by rw[List.getElem?_take,if_pos (by rw[<-hdl];exact hj')]
        rw[<-Array.getElem?_toList,<-h2,<-h1,Array.getElem?_toList,Array.getElem?_eq_getElem hj,getElem!_pos _ j hj]
        rfl
      . simp[World.frozen?,hg]
     have hcall:=AnyQ.slices_SortFunc (α:=El w fz sh oa g) L sh.size aE zE (fun y=>y.cs) hk (fun y v hv=>y.rep.one v hv) (fun a b=>cf a.x b.x)
      ⟨fun a=>hO.irrefl a.x,fun a b c=>hO.trans a.x b.x c.x,fun a b c=>hO.ntrans a.x b.x c.x⟩ gf #[] g 0 cap d.toArray w (zri (hG a0.x a0.x).1) (z077 hG hag hal hfzg) hH hgl.1 (by simpa [hdl]using hx)
     rw[show d.toArray.size=x.length by simpa using hdl]at hcall
     refine hcall.mono ?_
     rintro en w' ⟨rfl,D,n,os,hp,hs,rfl⟩
     rw[show x.length=d.toArray.size by simp[hdl]]at hp hs
     have hDx:D.toList.map (·.x)=zb8 cf x:=by
      have:=sorted_unique_holds hO hT (d.toArray.map (·.x)) (D.map (·.x)) (z023 hp) (by
       rw[show(d.toArray.map (·.x)).size=d.toArray.size by simp]
       exact z030 (f:=fun y:El w fz sh oa g=>y.x) (lt:=ltOf cf) hp.1.symm hs)
      rw[Array.toList_map,Array.toList_map]at this
      rw[this]
      unfold zb8
      rw[<-hdx]
     have hDl:D.toList.length=d.length:=by have:=hp.1;simpa using this
     have hperm:D.toList.Perm d:=by
      have h3:=hp.2.2
      have e1:D.extract 0 d.toArray.size=D:=by rw[<-hp.1];exact Array.extract_size
      have e2:d.toArray.extract 0 d.toArray.size=d.toArray:=Array.extract_size
      rw[e1,e2]at h3
      simpa using h3
     have hE:Ext [g] w (sortWorldK (fun y:El w fz sh oa g=>y.cs) sh.size w g 0 n D os):=zdu (enc:=id)
     have hbp:(D.toList.flatMap (·.bs)).Perm ebs:=by rw[<-hdb];exact hperm.flatMap_right _
     have hlp:(g::D.toList.flatMap (·.bs)).Perm (g::ebs):=hbp.cons g
     refine⟨_,[],[],g::D.toList.flatMap (·.bs),rfl,rfl,⟨hE.os,hE.tape,hE.output,hE.size,fun b h1 h2=>hE.block b h1 (by simp at h2 ⊢;exact h2.1),hE.drawn⟩,⟨rfl,rfl⟩,
      ⟨_,_,_,g::D.toList.flatMap (·.bs),[],rfl,by simp,rfl,rfl,rfl,by simp[Value.oneCell'],fun _=>?_,⟨_,_,_,[],[],rfl,rfl,rfl,rfl,rfl,by simp[Value.oneCell'],fun h=>absurd rfl h,rfl,rfl⟩⟩,?_,fun b hb=>?_⟩
     . refine⟨_,D.toList.flatMap (·.cs),D.toList.flatMap (·.bs),rfl,?_,.inr ⟨g,cap,putCells id 0 (flatK (fun y:El w fz sh oa g=>y.cs) sh.size D) cur,?_,zc1 hg,?_,hcap,by simp[putCells,hsz],?_,rfl⟩⟩
       . have:=zno (w1:=sortWorldK (fun y:El w fz sh oa g=>y.cs) sh.size w g 0 n D os) (fz1:=z8g fz (g::ebs++([]++[])) w (sortWorldK (fun y:El w fz sh oa g=>y.cs) sh.size w g 0 n D os) ([]++g::D.toList.flatMap (·.bs)))
          (fun b h=>⟨⟨.inl h,Nat.lt_of_lt_of_le (hfz b h) hE.size,fun hm=>(hb1 b (hlp.mem_iff.mp (by simpa using hm))).2 h⟩,hE.block b (hfz b h) (by simp[(hfzg b h).1])⟩) (fun b h1 h2=>hE.block b h2 (by simp[h1])) D.toList
         rw[hDx]at this
         exact this
       . show Value.slice _ _ _=Value.slice _ _ _
         rw[show List.length (zb8 cf x)=x.length by simp[zb8]]
       . show List.length (zb8 cf x)<=cap
         rw[show List.length (zb8 cf x)=x.length by simp[zb8]];exact hle
       . show(putCells id 0 (flatK (fun y:El w fz sh oa g=>y.cs) sh.size D) cur).toList.take (List.length (zb8 cf x) * sh.size)=D.toList.flatMap (·.cs)
         have h1:=zaw (enc:=id) (cur:=cur) (d:=(flatK (fun y:El w fz sh oa g=>y.cs) sh.size D).toList) (by
          rw[Array.length_toList,size_flatK,hsz]
          exact Nat.mul_le_mul_right _ (by have:=hp.1;simp at this;omega))
         rw[Array.toArray_toList,Array.length_toList,size_flatK,List.map_id]at h1
         rw[show List.length (zb8 cf x)=D.size by simp[zb8];have:=hp.1;simp at this;omega,h1]
         exact zsn hk D.toList
     . simpa using hlp.nodup_iff.mpr hn1
     . have hb:b∈g::ebs:=hlp.mem_iff.mp (by simpa using hb)
       exact⟨Nat.lt_of_lt_of_le (hb1 b hb).1 hE.size,.inl (by simpa using hb)⟩
end
end Go.V

