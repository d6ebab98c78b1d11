/-
  A piece of a row of structs cut out (slices.Delete), over the library's own text.
-/
import Derived.Test.YtjafmgnamibefaaGreatVG
import Derived.Shelf.RegionOpenPlain
import Derived.WalkKit
import Derived.Deep.LoopGhost
import Derived.Deep.RegionLaw
import Derived.Lib.Walk
import Derived.Sort.WalkB12
import Derived.Lib.SliceRun
import Derived.Lib.SlicesDelete
import Derived.Shelf.SlBodiesN
set_option linter.unusedVariables false
set_option linter.unusedSimpArgs false
namespace Go.Proofs
open Go.Shelf Go.RowKit Go.Lib Go.Sort
variable {P:Program} {ρ:Ren}
structure DelLays (P:Program) (ρ:Ren):Prop where
 mixed:P.follows .mixedOrders=true
 f45:Bears P (ρ.f 45) (SlBodyN.n45 ρ)
 t0:P.underlying (ρ.t 0)=some (TypeDesc.tuple #[])
 a0:∀ w,(isAgg (ρ.t 0)).run P w = .ok false w
 z0:∀ w,(Go.sizeOf (ρ.t 0)).run P w = .ok 1 w
 v0:∀ w,(zeroValue (ρ.t 0)).run P w = .ok (Value.tuple #[]) w
 t3:P.underlying (ρ.t 3)=some (TypeDesc.int IntKind.i64)
 a3:∀ w,(isAgg (ρ.t 3)).run P w = .ok false w
 z3:∀ w,(Go.sizeOf (ρ.t 3)).run P w = .ok 1 w
 v3:∀ w,(zeroValue (ρ.t 3)).run P w = .ok (Value.int IntKind.i64 0) w
 t4:P.underlying (ρ.t 4)=some (TypeDesc.bool)
 a4:∀ w,(isAgg (ρ.t 4)).run P w = .ok false w
 z4:∀ w,(Go.sizeOf (ρ.t 4)).run P w = .ok 1 w
 v4:∀ w,(zeroValue (ρ.t 4)).run P w = .ok (Value.bool false) w
 t22:P.underlying (ρ.t 22)=some (TypeDesc.slice (ρ.t 23))
 a22:∀ w,(isAgg (ρ.t 22)).run P w = .ok false w
 z22:∀ w,(Go.sizeOf (ρ.t 22)).run P w = .ok 1 w
 v22:∀ w,(zeroValue (ρ.t 22)).run P w = .ok (Value.slice none 0 0) w
theorem zeg {z:Array Value} {n:Nat}:(Builtin.zeroCells z n).toList.length=n * z.size:=by simp[Builtin.zeroCells]
theorem zte {z:Array Value} {n:Nat} (h:∀ v∈z.toList,v.oneCell'=true):∀ v∈(Builtin.zeroCells z n).toList,v.oneCell'=true:=by
 intro v hv
 simp only[Builtin.zeroCells,Array.toList_map,Array.toList_range,List.mem_map,List.mem_range]at hv
 obtain⟨i,hi,rfl⟩:=hv
 have hz:0<z.size:=by
  rcases Nat.eq_zero_or_pos z.size with h0|h0
  . rw[h0]at hi;simp at hi
  . exact h0
 have hm:i % z.size<z.size:=Nat.mod_lt _ hz
 rw[getElem!_pos z _ hm]
 exact h _ (Array.getElem_mem_toList hm)
theorem znm (w:World) (t e ty:TypeId) (z:Value) (ht:P.underlying t=some (.slice e)) (hv:∀ w,(zeroValue e).run P w = .ok z w) (hz:∀ v∈z.cells.toList,v.oneCell'=true) (b o n c:Nat) (hn:0<n)
  (hc:∀ j,j<n * z.cells.size->(w.cell? ⟨b,o+j,none⟩).isSome=true) (hf:∀ j,j<n * z.cells.size->w.frozen? ⟨b,o+j,none⟩=false) :
  (Builtin.clear_ #[t] ty #[.slice (some ⟨b,o,none⟩) n c]).run P w = .ok (.tuple #[]) (w.setCells b o (Builtin.zeroCells z.cells n).toList):=by
 have hst:=run_storeCells_cells (P:=P) b o (Builtin.zeroCells z.cells n).toList 0 w (by intro j hj;rw[zeg]at hj;have h:=hc j hj;simpa only[Nat.add_zero]using h) (by intro j hj;rw[zeg]at hj;have h:=hf j hj;simpa only[Nat.add_zero]using h) (zte hz)
 simp only[Nat.add_zero]at hst
 obtain⟨m,rfl⟩:∃ m,n=m+1:=⟨n - 1,by omega⟩
 simp[Builtin.clear_,run_underlying ht,hv,hst]
def z8e (F:Array Value) (k i j n:Nat) (zs:List Value):Array Value:=lay (lay F (i * k) (F.toList.drop (j * k))) ((i+(n - j)) * k) zs
set_option maxHeartbeats 4000000 in
set_option maxRecDepth 1000000 in
theorem zxt (L:DelLays P ρ) (z:Value) (k:Nat) (v23:∀ w,(zeroValue (ρ.t 23)).run P w = .ok z w) (hzk:z.cells.size=k) (hz1:∀ v∈z.cells.toList,v.oneCell'=true) (i0:TypeInfo) (hi0:P.info? (ρ.t 23)=some i0) (hk:i0.size=k) (hzK:∀ w,(Go.sizeOf (ρ.t 23)).run P w = .ok k w)
  (blk off n cap i j:Nat) (F:Array Value) (w:World) (hF:F.size=n * k) (hF1:∀ v∈F.toList,v.oneCell'=true) (hH:Holds id w blk off F) (hcap:n<=cap) (hm:cap<=9223372036854775807) (hlt:i<j) (hj:j<=n) :
  Calls P (ρ.f 45) #[.slice (some ⟨blk,off,none⟩) n cap,.int .i64 i,.int .i64 j] w fun e w'=>e = .returned (.slice (some ⟨blk,off,none⟩) (n - (j - i)) cap)/\∃ q zs,zs.length=(j - i) * k/\w'=putRow id (Sort.ahead w q) blk off (z8e F k i j n zs):=by
 have mixed:=L.mixed;have t0:=L.t0;have a0:=L.a0;have z0:=L.z0;have v0:=L.v0;have t3:=L.t3;have a3:=L.a3;have z3:=L.z3;have v3:=L.v3;have t4:=L.t4;have a4:=L.a4;have z4:=L.z4;have v4:=L.v4;have t22:=L.t22;have a22:=L.a22;have z22:=L.z22;have v22:=L.v22
 have m1:i * k+(n - j) * k<=n * k:=by rw[<-Nat.add_mul];exact Nat.mul_le_mul_right k (by omega)
 have m2:j * k<=n * k:=Nat.mul_le_mul_right k hj
 have m3:(n - j) * k=n * k - j * k:=Nat.sub_mul n j k
 have m4:(i+(n - j)) * k=i * k+(n - j) * k:=Nat.add_mul _ _ _
 have m5:(n - (i+(n - j))) * k+(i+(n - j)) * k=n * k:=by rw[<-Nat.add_mul];congr 1;omega
 obtain⟨news,hnews⟩:∃ news,news=F.toList.drop (j * k):=⟨_,rfl⟩
 have hlen:news.length=(n - j) * k:=by rw[hnews];simp;omega
 have hget:∀ t,t<(n - j) * k->news[t]? = some F[j * k+t]!:=by
  intro t ht
  rw[hnews,List.getElem?_drop,Array.getElem?_toList,getElem!_pos F (j * k+t) (by omega),Array.getElem?_eq_getElem (by omega)]
 obtain⟨A,hA,hsrc⟩:∃ A:Addr,(if cap=j then some (⟨blk,off,none⟩:Addr)else some ⟨blk,off+j * k,none⟩)=some A/\Hid (∀ t u,news[t]? = some u->w.drew.cell? (A.add t)=some u):=by
  by_cases h:cap=j
  . refine⟨⟨blk,off,none⟩,by simp[h],fun t u hu=>?_⟩
    have h0:news.length=0:=by rw[hlen,show n - j=0 by omega];simp
    rw[List.length_eq_zero_iff.1 h0]at hu
    simp at hu
  . refine⟨⟨blk,off+j * k,none⟩,by simp[h],fun t u hu=>?_⟩
    have ht:t<(n - j) * k:=by
     have:=(List.getElem?_eq_some_iff.1 hu).1
     rwa [hlen]at this
    rw[hget t ht]at hu
    rw[Addr.add_lit,show off+j * k+t=off+(j * k+t) by omega]
    exact(hH (j * k+t) (by omega)).1.trans hu
 have s1:Hid (news.length=(n - j) * k):=hlen
 have s2:Hid (∀ u∈news,u.oneCell'=true):=by
  intro u hu
  rw[hnews]at hu
  exact hF1 u (List.mem_of_mem_drop hu)
 have s3:Hid (∀ t,t<news.length->(w.drew.cell? ⟨blk,off+i * k+t,none⟩).isSome=true/\w.drew.frozen? ⟨blk,off+i * k+t,none⟩=false):=by
  intro t ht
  rw[hlen]at ht
  rw[Nat.add_assoc]
  exact⟨by show(w.cell? _).isSome=true;rw[(hH (i * k+t) (by omega)).1];rfl,(hH (i * k+t) (by omega)).2⟩
 obtain⟨W1,hW1⟩:∃ W1,W1=w.drew.setCells blk (off+i * k) news:=⟨_,rfl⟩
 have hW1':W1=putRow id (Sort.ahead w 1) blk off (lay F (i * k) (F.toList.drop (j * k))):=by
  have e:=putRow_setCells id (Sort.ahead w 1) blk off (F.toList.drop (j * k)) F (i * k) (by simp;omega)
  rw[List.map_id,putRow_self id (Sort.ahead w 1) blk off F (holds_ahead id w 1 blk off F hH)]at e
  rw[hW1,hnews,<-e]
  rfl
 have hH1:Holds id W1 blk off (lay F (i * k) (F.toList.drop (j * k))):=by rw[hW1'];exact holds_putRow id _ blk off F _ (holds_ahead id w 1 blk off F hH) (lay_size _ _ _)
 have hcl:∀ ty,(Builtin.clear_ #[ρ.t 22] ty #[.slice (some ⟨blk,off+(i+(n - j)) * k,none⟩) (n - (i+(n - j))) (cap - (i+(n - j)))]).run P W1 = .ok (.tuple #[]) (W1.setCells blk (off+(i+(n - j)) * k) (Builtin.zeroCells z.cells (n - (i+(n - j)))).toList):=
  fun ty=>znm W1 _ _ ty _ t22 v23 hz1 blk (off+(i+(n - j)) * k) _ _ (by omega) (fun t ht=>by rw[hzk]at ht;rw[show off+(i+(n - j)) * k+t=off+((i+(n - j)) * k+t) by omega,(hH1 _ (by rw[lay_size];omega)).1];rfl) (fun t ht=>by rw[hzk]at ht;rw[show off+(i+(n - j)) * k+t=off+((i+(n - j)) * k+t) by omega];exact(hH1 _ (by rw[lay_size];omega)).2)
 have hzl:(Builtin.zeroCells z.cells (n - (i+(n - j)))).toList.length=(j - i) * k:=by rw[zeg,hzk];congr 1;omega
 have hfin:W1.setCells blk (off+(i+(n - j)) * k) (Builtin.zeroCells z.cells (n - (i+(n - j)))).toList=putRow id (Sort.ahead w 1) blk off (z8e F k i j n (Builtin.zeroCells z.cells (n - (i+(n - j)))).toList):=by
  have e:=putRow_setCells id (Sort.ahead w 1) blk off (Builtin.zeroCells z.cells (n - (i+(n - j)))).toList (lay F (i * k) (F.toList.drop (j * k))) ((i+(n - j)) * k) (by
   rw[lay_size,hzl]
   have:(j - i) * k=(n - (i+(n - j))) * k:=by congr 1;omega
   omega)
  rw[List.map_id,<-hW1']at e
  exact e
 generalize (Builtin.zeroCells z.cells (n - (i+(n - j)))).toList=zs at hcl hzl hfin
 have X:Aside (W1.setCells blk (off+(i+(n - j)) * k) zs=putRow id (Sort.ahead w 1) blk off (z8e F k i j n zs)):=hfin
 have Y:Hid (zs.length=(j - i) * k):=hzl
 have hW:Hid (W1=w.drew.setCells blk (off+i * k) news):=hW1
 have hic:i<=cap:=by omega
 have hjc:j<=cap:=by omega
 have S1:Hid (i0.size=k):=hk
 clear hW1 hW1' hH1 hH hget hnews hlen hfin hzl m1 m2 m3 m4 m5 hk
 obtain⟨_,_,FG⟩:=L.f45
 go_enter FG,SlBodyN.n45_ntmps ρ
 go_wp2_with fail
 go_region_law_o (refine step_append_room rfl (.tmp 22) (.tmp 25) (ρ.t 22) rfl (ρ.t 23) i0 k t22 hi0 S1.out blk off i cap (by simp[Act.eval,Act.put]) A (n - j) (cap - j) news (by simp[Act.eval,Act.put]) s1.out hsrc.out s2.out (by omega) s3.out ?_;rw[<-hW.out])
 go_wp2
 go_ret
 exact⟨by rw[show n - (j - i)=i+(n - j) by omega];rfl,1,zs,Y.out,X.out⟩
end Go.Proofs
namespace Go.V
open Go Go.Proofs Go.Shelf Go.Sort Go.Lib Go.RowKit
theorem zwa {α:Type} {f:α->List Value} {k:Nat} (hk:∀ x,(f x).length=k):∀(d:List α) (i:Nat),(d.flatMap f).take (i * k)=(d.take i).flatMap f
 |[],i=>by simp
 |a::l,0=>by simp
 | a::l,i+1=>by
   rw[List.flatMap_cons,List.take_succ_cons,List.flatMap_cons,List.take_append,hk,Nat.succ_mul,show i * k+k - k=i * k by omega,zwa hk l i,List.take_of_length_le (by rw[hk];omega)]
theorem zwl {α:Type} {f:α->List Value} {k:Nat} (hk:∀ x,(f x).length=k):∀(d:List α) (i:Nat),(d.flatMap f).drop (i * k)=(d.drop i).flatMap f
 |[],i=>by simp
 |a::l,0=>by simp
 | a::l,i+1=>by
   rw[List.flatMap_cons,List.drop_succ_cons,List.drop_append,hk,Nat.succ_mul,show i * k+k - k=i * k by omega,zwl hk l i,List.drop_of_length_le (by rw[hk];omega),List.nil_append]
theorem zn2 {F:Array Value} {k i j n:Nat} {zs:List Value}:(z8e F k i j n zs).size=F.size:=by unfold z8e;rw[lay_size,lay_size]
theorem zvo {F:Array Value} {k i j n:Nat} {zs:List Value} (hF:F.size=n * k) (hij:i<=j) (hj:j<=n) (hz:zs.length=(j - i) * k):(z8e F k i j n zs).toList.take ((i+(n - j)) * k)=F.toList.take (i * k)++F.toList.drop (j * k):=by
 have m0:i * k<=j * k:=Nat.mul_le_mul_right k hij
 have m1:i * k+(n - j) * k<=n * k:=by rw[<-Nat.add_mul];exact Nat.mul_le_mul_right k (by omega)
 have m2:j * k<=n * k:=Nat.mul_le_mul_right k hj
 have m3:(n - j) * k=n * k - j * k:=Nat.sub_mul n j k
 have m4:(i+(n - j)) * k=i * k+(n - j) * k:=Nat.add_mul _ _ _
 have m5:(j - i) * k=j * k - i * k:=Nat.sub_mul j i k
 have l2:(F.toList.drop (j * k)).length=(n - j) * k:=by simp;omega
 have l1:(F.toList.take (i * k)).length=i * k:=by simp;omega
 apply List.ext_getElem?
 intro t
 rw[List.getElem?_take]
 by_cases ht:t<(i+(n - j)) * k
 . rw[if_pos ht,Array.getElem?_toList]
   unfold z8e
   rw[lay_get? _ _ _ _ (by rw[lay_size];omega),if_neg (by omega),lay_get? _ _ _ _ (by omega)]
   by_cases h1:t<i * k
   . rw[if_neg (by omega),List.getElem?_append_left (by omega),List.getElem?_take,if_pos h1,Array.getElem?_toList]
   . rw[if_pos (by omega),List.getElem?_append_right (by omega),l1]
 . rw[if_neg ht,List.getElem?_eq_none (by rw[List.length_append,l1,l2];omega)]
theorem zyo {P:Program} {ρ:Ren} (L:DelLays P ρ) (hEnt:zh2 P (ρ.f 45)) {e:TypeId} {sh:Sh} {oa:O} (z:Value) (v23:∀ w,(zeroValue (ρ.t 23)).run P w = .ok z w) (hzk:z.cells.size=sh.size) (hz1:∀ v∈z.cells.toList,v.oneCell'=true)
  (i0:TypeInfo) (hi0:P.info? (ρ.t 23)=some i0) (hk:i0.size=sh.size) (hzK:∀ w,(Go.sizeOf (ρ.t 23)).run P w = .ok sh.size w) {x:List sh.den} {i j:Nat} (hlt:i<j) (hj:j<=x.length) :
  z16 P (ρ.f 45) [⟨.sl e sh,.own oa,x⟩,⟨.int .i64,.z,(i:Int)⟩,⟨.int .i64,.z,(j:Int)⟩] [⟨.sl e sh,.own oa,x.take i++x.drop j⟩] [⟨.sl e sh,.dead,x⟩,⟨.int .i64,.z,(i:Int)⟩,⟨.int .i64,.z,(j:Int)⟩]:=by
 refine⟨hEnt,?_⟩
 rintro w fz args ls ⟨c,cs',cells,l1,l2,rfl,rfl,rfl,hrep,c2,cs2,cells2,l3,l4,rfl,rfl,rfl,hi2,c3,cs3,cells3,l5,l6,rfl,rfl,rfl,hj2,rfl,rfl⟩ hnd hls hfz
 have hi2:l3=[]/\zp8 1 cells2/\(O.z≠.dead->cells2=[.int .i64 (i:Int)]/\IntKind.i64.min<=(i:Int)/\(i:Int)<=IntKind.i64.max):=hi2
 have hj2:l5=[]/\zp8 1 cells3/\(O.z≠.dead->cells3=[.int .i64 (j:Int)]/\IntKind.i64.min<=(j:Int)/\(j:Int)<=IntKind.i64.max):=hj2
 obtain⟨rfl,_,hi2⟩:=hi2
 obtain⟨rfl,_,hj2⟩:=hj2
 obtain⟨rfl,_,_⟩:=hi2 (by simp)
 obtain⟨rfl,_,_⟩:=hj2 (by simp)
 obtain⟨v,es,ebs,rfl,hL,hcase⟩:=hrep
 have hn1:l1.Nodup:=by simpa using hnd
 have hb1:∀ b∈l1,b<w.heap.size/\¬ fz b:=fun b h=>hls b (by simp[h])
 rcases hcase with⟨_,h0,_⟩|⟨g,cap,cur,rfl,hg,hle,hcap,hsz,htake,rfl⟩
 . have h0:x=[]:=h0
   rw[h0]at hj;simp at hj;omega
 have hL:RepL (Rep w fz sh oa) x es ebs:=hL
 have hle:x.length<=cap:=hle
 have hcap:cap<=maxLen:=hcap
 rw[zlb]at hcap
 have hsz:cur.size=cap * sh.size:=hsz
 have htake:cur.toList.take (x.length * sh.size)=es:=htake
 have hgl:=hb1 g (by simp)
 have hebs:∀ b∈ebs,b≠g/\b<w.heap.size:=fun b hb=>⟨fun e=>(List.nodup_cons.mp hn1).1 (e ▸ hb),(hb1 b (by simp[hb])).1⟩
 obtain⟨d,hdx,hdc,hdb⟩:=z05l (g:=g) hL hebs
 have hkk:∀ y:El w fz sh oa g,y.cs.length=sh.size:=fun y=>y.rep.len
 have hdl:d.length=x.length:=by rw[<-hdx,List.length_map]
 have hle2:x.length * sh.size<=cur.size:=by rw[hsz];exact Nat.mul_le_mul_right _ hle
 have hel:es.length=x.length * sh.size:=by rw[<-htake,List.length_take,show cur.toList.length=cur.size from Array.length_toList];omega
 have hH:Holds id w g 0 es.toArray:=by
  intro t ht
  have ht':t<es.length:=by simpa using ht
  constructor
  . simp only[World.cell?,hg,Nat.zero_add,Option.isSome_none,Bool.false_eq_true,if_false]
    have h2:(cur.toList.take (x.length * sh.size))[t]? = cur.toList[t]?:=by rw[List.getElem?_take,if_pos (by omega)]
    rw[<-Array.getElem?_toList,<-h2,htake,List.getElem?_eq_getElem ht',getElem!_pos es.toArray t ht]
    rfl
  . simp[World.frozen?,hg]
 have hF1:∀ v∈es.toArray.toList,v.oneCell'=true:=by
  intro v hv
  have hv:v∈es:=by simpa using hv
  rw[<-hdc,List.mem_flatMap]at hv
  obtain⟨y,_,hy⟩:=hv
  exact y.rep.one v hy
 have hcall:=zxt L z sh.size v23 hzk hz1 i0 hi0 hk hzK g 0 x.length cap i j es.toArray w (by simpa using hel) hF1 hH hle (by omega) hlt hj
 refine hcall.mono ?_
 rintro en w' ⟨rfl,q,zs,hzl,rfl⟩
 have hgr:putRow id (Sort.ahead w q) g 0 (z8e es.toArray sh.size i j x.length zs)=grow (putRow id (Sort.ahead w q) g 0 (z8e es.toArray sh.size i j x.length zs)) #[]:=(grow_empty _).symm
 rw[hgr]
 have hE:Ext [g] w (grow (putRow id (Sort.ahead w q) g 0 (z8e es.toArray sh.size i j x.length zs)) #[]):=zdu
 have hblk:=zc1 (n:=q) (enc:=id) (d:=z8e es.toArray sh.size i j x.length zs) (os:=#[]) hg
 generalize hW:grow (putRow id (Sort.ahead w q) g 0 (z8e es.toArray sh.size i j x.length zs)) #[]=W at hE hblk ⊢
 have hyl:(x.take i++x.drop j).length=x.length - (j - i):=by rw[List.length_append,List.length_take,List.length_drop];omega
 have hyd:(d.take i++d.drop j).map (·.x)=x.take i++x.drop j:=by rw[List.map_append,List.map_take,List.map_drop,hdx]
 have hsub:(d.take i++d.drop j).Sublist d:=by
  have h1:(d.drop j).Sublist (d.drop i):=by
   have:d.drop j=(d.drop i).drop (j - i):=by rw[List.drop_drop];congr 1;omega
   rw[this];exact List.drop_sublist _ _
  have h2:=(List.Sublist.refl (d.take i)).append h1
  rwa [List.take_append_drop]at h2
 have hbs:((d.take i++d.drop j).flatMap (·.bs)).Sublist ebs:=by rw[<-hdb];exact z018 hsub
 have hlb:∀ b∈g::(d.take i++d.drop j).flatMap (·.bs),b∈g::ebs:=fun b hb=>by
  rcases List.mem_cons.mp hb with rfl|hb
  . simp
  . exact List.mem_cons_of_mem _ (hbs.subset hb)
 have hfzg:∀ b,fz b->b≠g/\b<w.heap.size:=fun b h=>⟨fun e=>hgl.2 (e ▸ h),hfz b h⟩
 refine⟨_,[.slice (some ⟨g,0,none⟩) (x.length - (j - i)) cap],g::(d.take i++d.drop j).flatMap (·.bs),[],rfl,rfl,⟨hE.os,hE.tape,hE.output,hE.size,fun b h1 h2=>hE.block b h1 (by simp at h2 ⊢;exact h2.1),hE.drawn⟩,
  ⟨_,_,[.slice (some ⟨g,0,none⟩) (x.length - (j - i)) cap],g::(d.take i++d.drop j).flatMap (·.bs),[],rfl,by simp,rfl,?_,rfl,rfl⟩,
  ⟨_,_,_,[],[],rfl,rfl,rfl,rfl,rfl,by simp[Value.oneCell'],fun _=>?_,_,_,[.int .i64 (i:Int)],[],[],rfl,rfl,rfl,rfl,rfl,by simp[Value.oneCell'],fun h=>absurd rfl h,_,_,[.int .i64 (j:Int)],[],[],rfl,rfl,rfl,rfl,rfl,by simp[Value.oneCell'],fun h=>absurd rfl h,rfl,rfl⟩,?_,fun b hb=>?_⟩
 . refine⟨_,(d.take i++d.drop j).flatMap (·.cs),(d.take i++d.drop j).flatMap (·.bs),rfl,?_,.inr ⟨g,cap,_,?_,hblk,?_,by rw[zlb];exact hcap,by simp[putCells,hsz],?_,rfl⟩⟩
   . have:=zno (w1:=W) (fz1:=z8g fz (g::ebs++([]++([]++[]))) w W (g::(d.take i++d.drop j).flatMap (·.bs)++[]))
      (fun b h=>⟨⟨.inl h,Nat.lt_of_lt_of_le (hfz b h) hE.size,fun hm=>(hb1 b (hlb b (by simpa using hm))).2 h⟩,hE.block b (hfz b h) (by simp[(hfzg b h).1])⟩) (fun b h1 h2=>hE.block b h2 (by simp[h1])) (d.take i++d.drop j)
     rw[hyd]at this
     exact this
   . show Value.slice _ _ _=Value.slice _ _ _
     rw[show List.length (x.take i++x.drop j)=x.length - (j - i)from hyl]
   . show List.length (x.take i++x.drop j)<=cap
     rw[hyl];omega
   . show(putCells id 0 (z8e es.toArray sh.size i j x.length zs) cur).toList.take (List.length (x.take i++x.drop j) * sh.size)=_
     have h1:=zaw (enc:=(id:Value->Value)) (cur:=cur) (d:=(z8e es.toArray sh.size i j x.length zs).toList) (by rw[Array.length_toList,zn2];simp;omega)
     rw[Array.toArray_toList,List.map_id,Array.length_toList,zn2]at h1
     have h2:=congrArg (List.take ((i+(x.length - j)) * sh.size)) h1
     rw[List.take_take,zvo (by simpa using hel) (by omega) hj hzl]at h2
     rw[hyl,show x.length - (j - i)=i+(x.length - j) by omega]
     have hmin:min ((i+(x.length - j)) * sh.size) es.toArray.size=(i+(x.length - j)) * sh.size:=by
      refine Nat.min_eq_left ?_
      simp only[List.size_toArray,hel]
      exact Nat.mul_le_mul_right _ (by omega)
     rw[hmin]at h2
     rw[h2,List.flatMap_append,<-zwa hkk,<-zwl hkk,hdc]
 . exact⟨rfl,rfl,by simp[Value.oneCell']⟩
 . simp only[List.append_nil]
   exact List.Nodup.sublist (hbs.cons_cons g) hn1
 . have hb:b∈g::ebs:=hlb b (by simpa using hb)
   exact⟨Nat.lt_of_lt_of_le (hb1 b hb).1 hE.size,.inl (by simpa using hb)⟩
end Go.V

