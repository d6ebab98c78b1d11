/-
  The sort of a row of values of one cell by a comparison of the program, by the library's contract.
-/
import Derived.Test.YtohcpefohbhigaaGreatDoorVG
import Derived.Shelf.SlSortCmp.Whole1
set_option linter.unusedVariables false
set_option linter.unusedSimpArgs false
namespace Go.V
open Go Go.Proofs Go.Shelf Go.Sort Go.Lib Go.RowKit
section
variable {w:World} {fz:Nat→Prop} {sh:Sh} {oa:O} {g:Nat}
def El.one (y:El w fz sh oa g):Value:=y.cs.headD undef
theorem El.cs_one (h1:sh.size=1) (y:El w fz sh oa g):y.cs=[y.one]:=by
 have:=y.rep.len
 rw[h1]at this
 match hc:y.cs,this with
 |[v],_=>simp[El.one,hc]
theorem flat_one (h1:sh.size=1) (d:List (El w fz sh oa g)):d.flatMap (·.cs)=d.map El.one:=by
 induction d with
 |nil=>rfl
 |cons a l ih=>rw[List.flatMap_cons,ih,a.cs_one h1];rfl
theorem cmp_lays1 {P:Program} {gf:FuncId} {cf:sh.den→sh.den→Int} [Inhabited (El w fz sh oa g)] (hG:∀ a b:sh.den,GivesS P gf [⟨sh,.z,a⟩,⟨sh,.z,b⟩] [⟨.int .i64,.z,cf a b⟩] [⟨sh,.z,a⟩,⟨sh,.z,b⟩])
  (hag:aggSh sh=false) (hal:oa.alive=true) (hfz:∀ b,fz b→b≠g∧b<w.heap.size) {size:Nat}:CmpLays1 P gf #[] (El.one (w:=w) (fz:=fz) (sh:=sh) (oa:=oa) (g:=g)) (fun x y=>cf x.x y.x) g 0 size w:=by
 intro m os dk _ x y
 have hE:Ext [g] w (sortWorld (El.one (w:=w) (fz:=fz) (sh:=sh) (oa:=oa) (g:=g)) w g 0 m dk os):=putRow_ext
 have hW:∀ b,b≠g∧b<w.heap.size→(sortWorld (El.one (w:=w) (fz:=fz) (sh:=sh) (oa:=oa) (g:=g)) w g 0 m dk os).heap[b]? = w.heap[b]?:=fun b h=>hE.block b h.2 (by simp[h.1])
 have hr:∀ e:El w fz sh oa g,Rep (sortWorld (El.one (w:=w) (fz:=fz) (sh:=sh) (oa:=oa) (g:=g)) w g 0 m dk os) (fun b=>b≠g∧b<w.heap.size) sh .z e.x e.cs []:=fun e=>
  (e.rep.freeze (fz1:=fun b=>b≠g∧b<w.heap.size) hfz hal e.nb).stable (fun b hb=>⟨hb,hW b hb⟩) (by simp)
 obtain⟨_,hc⟩:=hG x.x y.x
 have hc:=hc (sortWorld (El.one (w:=w) (fz:=fz) (sh:=sh) (oa:=oa) (g:=g)) w g 0 m dk os) (fun b=>b≠g∧b<w.heap.size) [packV (aggS sh) x.cs,packV (aggS sh) y.cs] []
  ⟨_,_,x.cs,[],[],rfl,rfl,rfl,hr x,⟨_,_,y.cs,[],[],rfl,rfl,rfl,hr y,rfl,rfl⟩⟩ List.nodup_nil (by simp) (fun b hb=>Nat.lt_of_lt_of_le hb.2 hE.size)
 rw[show aggS sh=false from hag]at hc
 refine hc.mono ?_
 rintro e w' ⟨c,cs,l1,l2,rfl,rfl,hext,⟨_,_,cells,_,_,rfl,_,rfl,hrep,rfl,_⟩,_⟩
 obtain⟨q,os',rfl⟩:=ext_grow hext
 have h2:=(hrep.2.2 (by simp)).1
 refine⟨?_,q,os',rfl⟩
 rw[h2];rfl
theorem sortFunc_one {P:Program} {ρ:Ren} (L:SlLaysF.n6 P ρ) (hEnt:Entered P (ρ.f 6)) {e:TypeId} {gf:FuncId} {cf:sh.den→sh.den→Int} [Inhabited sh.den] (h1s:sh.size=1)
  (hG:∀ a b:sh.den,GivesS P gf [⟨sh,.z,a⟩,⟨sh,.z,b⟩] [⟨.int .i64,.z,cf a b⟩] [⟨sh,.z,a⟩,⟨sh,.z,b⟩]) (hag:aggSh sh=false) (hal:oa.alive=true)
  (hO:SWO (ltOf cf)) (hT:∀ x y,ltOf cf x y=false→ltOf cf y x=false→x=y) {x:List sh.den} (hx:x.length<4611686018427387904) :
  GivesS P (ρ.f 6) [⟨.sl e sh,.own oa,x⟩,⟨.fn gf .unit,.z,()⟩] [] [⟨.sl e sh,.own oa,sortL cf x⟩,⟨.fn gf .unit,.z,()⟩]:=by
 refine⟨hEnt,?_⟩
 rintro w fz args ls ⟨c,cs',cells,l1,l2,rfl,rfl,rfl,hrep,c2,cs2,cells2,l3,l4,rfl,rfl,rfl,⟨ccs,rfl,hu⟩,rfl,rfl⟩ hnd hls hfz
 obtain⟨rfl,rfl⟩:l3=[]∧ccs=[]:=hu
 obtain⟨v,es,ebs,rfl,hL,hcase⟩:=hrep
 have nilcase:∀(A:Option Addr) (cap:Nat),x=[]→v = .slice A 0 cap→(l1.Nodup)→(∀ b∈l1,b<w.heap.size)→(∀ y:List sh.den,y=[]→Rep w (fzAfter fz (l1++[]) w w ([]++(l1++[]))) (.sl e sh) (.own oa) y [v] l1)→
   Calls P (ρ.f 6) [packV (aggS (.sl e sh)) [v],packV (aggS (.fn gf .unit)) [.func (.func gf) #[] (List.toArray [])]].toArray w fun en w'=>∃ c cs k1 k2,en = .returned c∧c=tupleOf cs∧Ext (l1++([]++[])) w w'∧ArgsRep w' (fzAfter fz (l1++([]++[])) w w' (k1++k2)) [] cs k1∧
    OutsRep w' (fzAfter fz (l1++([]++[])) w w' (k1++k2)) [⟨.sl e sh,.own oa,x⟩,⟨.fn gf .unit,.z,()⟩] [⟨.sl e sh,.own oa,sortL cf x⟩,⟨.fn gf .unit,.z,()⟩] [packV (aggS (.sl e sh)) [v],packV (aggS (.fn gf .unit)) [.func (.func gf) #[] (List.toArray [])]] k2∧
    (k1++k2).Nodup∧∀ b∈k1++k2,b<w'.heap.size∧(b∈l1++([]++[])∨w.heap.size≤b):=by
  intro A cap h0 hv hn hb hr
  subst hv
  refine(AnyF.slices_SortFunc_none { L with } A cap (.func (.func gf) #[] #[]) w).mono ?_
  rintro en w' ⟨rfl,rfl⟩
  refine⟨_,[],[],l1++[],rfl,rfl,Ext.refl' _ _,⟨rfl,rfl⟩,⟨_,_,_,l1,[],rfl,rfl,rfl,rfl,rfl,by simp[Value.oneCell'],fun _=>by simpa using hr (sortL cf x) (by rw[h0];simp[sortL]),⟨_,_,_,[],[],rfl,rfl,rfl,rfl,rfl,by simp[Value.oneCell'],fun h=>absurd rfl h,rfl,rfl⟩⟩,by simpa using hn,fun b h=>?_⟩
  have h:b∈l1:=by simpa using h
  exact⟨hb b h,.inl (by simp[h])⟩
 have hn1:l1.Nodup:=by simpa using hnd
 have hb1:∀ b∈l1,b<w.heap.size∧¬ fz b:=fun b h=>hls b (by simp[h])
 rcases hcase with⟨rfl,h0,rfl⟩|⟨g,cap,cur,rfl,hg,hle,hcap,hsz,htake,rfl⟩
 · have h0:x=[]:=h0
   subst h0
   exact nilcase none 0 rfl rfl hn1 (fun b h=>(hb1 b h).1) (by rintro y rfl;exact⟨_,[],[],rfl,⟨rfl,rfl⟩,.inl ⟨rfl,rfl,rfl⟩⟩)
 · have hL:RepL (Rep w fz sh oa) x es ebs:=hL
   have hle:x.length≤cap:=hle
   have htake:cur.toList.take (x.length * sh.size)=es:=htake
   have hsz:cur.size=cap * sh.size:=hsz
   have hgl:=hb1 g (by simp)
   have hebs:∀ b∈ebs,b≠g∧b<w.heap.size:=fun b hb=>⟨fun e=>(List.nodup_cons.mp hn1).1 (e ▸ hb),(hb1 b (by simp[hb])).1⟩
   obtain⟨d,hdx,hdc,hdb⟩:=els_of (g:=g) hL hebs
   cases d with
   | nil=>
     have h0:x=[]:=by rw[←hdx];rfl
     subst h0
     obtain⟨rfl,rfl⟩:es=[]∧ebs=[]:=hL
     refine nilcase (some ⟨g,0,none⟩) cap rfl rfl hn1 (fun b h=>(hb1 b h).1) ?_
     rintro y rfl
     exact⟨_,[],[],rfl,⟨rfl,rfl⟩,.inr ⟨g,cap,cur,rfl,hg,hle,hcap,hsz,htake,rfl⟩⟩
   | cons a0 d0=>
     haveI:Inhabited (El w fz sh oa g):=⟨a0⟩
     generalize hd:a0::d0=d at hdx hdc hdb
     clear nilcase
     have hfzg:∀ b,fz b→b≠g∧b<w.heap.size:=fun b h=>⟨fun e=>hgl.2 (e ▸ h),hfz b h⟩
     have hdl:d.length=x.length:=by rw[←hdx,List.length_map]
     rw[h1s,Nat.mul_one]at htake hsz
     have hdo:d.map El.one=cur.toList.take x.length:=by rw[←flat_one h1s,hdc,htake]
     have hH:Holds (El.one (w:=w) (fz:=fz) (sh:=sh) (oa:=oa) (g:=g)) w g 0 d.toArray:=by
      intro j hj
      have hj':j<d.length:=by simpa using hj
      constructor
      · simp only[World.cell?,hg,Nat.zero_add,Option.isSome_none,Bool.false_eq_true,if_false]
        have h2:(cur.toList.take x.length)[j]? = cur.toList[j]?:=by rw[List.getElem?_take,if_pos (by omega)]
        rw[←Array.getElem?_toList,←h2,←hdo,List.getElem?_map,List.getElem?_eq_getElem hj',getElem!_pos d.toArray j hj]
        rfl
      · simp[World.frozen?,hg]
     have hcall:=Any.slices_SortFunc (α:=El w fz sh oa g) L El.one (fun y=>y.rep.one _ (by rw[y.cs_one h1s];simp)) (fun a b=>cf a.x b.x)
      ⟨fun a=>hO.irrefl a.x,fun a b c=>hO.trans a.x b.x c.x,fun a b c=>hO.ntrans a.x b.x c.x⟩ gf #[] g 0 cap d.toArray w (enters_entered (hG a0.x a0.x).1) (cmp_lays1 hG hag hal hfzg) hH hgl.1 (by simpa [hdl]using hx)
     rw[show d.toArray.size=x.length by simpa using hdl]at hcall
     refine hcall.mono ?_
     rintro en w' ⟨rfl,D,n,os,hp,hs,rfl⟩
     rw[show x.length=d.toArray.size by simp[hdl]]at hp hs
     have hDx:D.toList.map (·.x)=sortL cf x:=by
      have:=sorted_unique_holds hO hT (d.toArray.map (·.x)) (D.map (·.x)) (permIn_map hp) (by
       rw[show(d.toArray.map (·.x)).size=d.toArray.size by simp]
       exact sorted_map (f:=fun y:El w fz sh oa g=>y.x) (lt:=ltOf cf) hp.1.symm hs)
      rw[Array.toList_map,Array.toList_map]at this
      rw[this]
      unfold sortL
      rw[←hdx]
     have hDl:D.toList.length=d.length:=by have:=hp.1;simpa using this
     have hperm:D.toList.Perm d:=by
      have h3:=hp.2.2
      have e1:D.extract 0 d.toArray.size=D:=by rw[←hp.1];exact Array.extract_size
      have e2:d.toArray.extract 0 d.toArray.size=d.toArray:=Array.extract_size
      rw[e1,e2]at h3
      simpa using h3
     have hE:Ext [g] w (sortWorld (El.one (w:=w) (fz:=fz) (sh:=sh) (oa:=oa) (g:=g)) w g 0 n D os):=putRow_ext
     have hbp:(D.toList.flatMap (·.bs)).Perm ebs:=by rw[←hdb];exact hperm.flatMap_right _
     have hlp:(g::D.toList.flatMap (·.bs)).Perm (g::ebs):=hbp.cons g
     refine⟨_,[],[],g::D.toList.flatMap (·.bs),rfl,rfl,⟨hE.os,hE.tape,hE.output,hE.size,fun b h1 h2=>hE.block b h1 (by simp at h2 ⊢;exact h2.1),hE.drawn⟩,⟨rfl,rfl⟩,
      ⟨_,_,_,g::D.toList.flatMap (·.bs),[],rfl,by simp,rfl,rfl,rfl,by simp[Value.oneCell'],fun _=>?_,⟨_,_,_,[],[],rfl,rfl,rfl,rfl,rfl,by simp[Value.oneCell'],fun h=>absurd rfl h,rfl,rfl⟩⟩,?_,fun b hb=>?_⟩
     · refine⟨_,D.toList.flatMap (·.cs),D.toList.flatMap (·.bs),rfl,?_,.inr ⟨g,cap,putCells El.one 0 D cur,?_,putRow_block hg,?_,hcap,by simp[putCells,hsz,h1s],?_,rfl⟩⟩
       · have:=els_back (w1:=sortWorld (El.one (w:=w) (fz:=fz) (sh:=sh) (oa:=oa) (g:=g)) w g 0 n D os) (fz1:=fzAfter fz (g::ebs++([]++[])) w (sortWorld (El.one (w:=w) (fz:=fz) (sh:=sh) (oa:=oa) (g:=g)) w g 0 n D os) ([]++g::D.toList.flatMap (·.bs)))
          (fun b h=>⟨⟨.inl h,Nat.lt_of_lt_of_le (hfz b h) hE.size,fun hm=>(hb1 b (hlp.mem_iff.mp (by simpa using hm))).2 h⟩,hE.block b (hfz b h) (by simp[(hfzg b h).1])⟩) (fun b h1 h2=>hE.block b h2 (by simp[h1])) D.toList
         rw[hDx]at this
         exact this
       · show Value.slice _ _ _=Value.slice _ _ _
         rw[show List.length (sortL cf x)=x.length by simp[sortL]]
       · show List.length (sortL cf x)≤cap
         rw[show List.length (sortL cf x)=x.length by simp[sortL]];exact hle
       · show(putCells El.one 0 D cur).toList.take (List.length (sortL cf x) * sh.size)=D.toList.flatMap (·.cs)
         have h1:=putCells_take (enc:=El.one (w:=w) (fz:=fz) (sh:=sh) (oa:=oa) (g:=g)) (cur:=cur) (d:=D.toList) (by rw[hDl,hdl,hsz];exact hle)
         rw[Array.toArray_toList]at h1
         rw[h1s,Nat.mul_one,show List.length (sortL cf x)=D.toList.length by simp only[sortL,List.length_mergeSort];omega,h1,flat_one h1s]
     · simpa using hlp.nodup_iff.mpr hn1
     · have hb:b∈g::ebs:=hlp.mem_iff.mp (by simpa using hb)
       exact⟨Nat.lt_of_lt_of_le (hb1 b hb).1 hE.size,.inl (by simpa using hb)⟩
end
end Go.V

