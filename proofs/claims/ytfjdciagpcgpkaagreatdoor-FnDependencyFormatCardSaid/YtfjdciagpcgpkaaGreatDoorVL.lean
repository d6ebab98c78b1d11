/-
  Strings searched and cut at one byte, by the library's contracts.
-/
import Derived.Test.YtfjdciagpcgpkaaGreatDoorVJ
import Derived.Shelf.Small.Strs
import Derived.Shelf.Strings.Cut
import Derived.Shelf.Strings.Split
set_option linter.unusedVariables false
set_option linter.unusedSimpArgs false
namespace Go.V
open Go Go.Proofs Go.Shelf Go.Lib Go.RowKit
theorem rep_str {w:World} {fz:Nat→Prop} {s:List UInt8} {cells:List Value} {l:List Nat} (h:Rep w fz .str .z s cells l):l=[]∧cells=[.string ⟨s.toArray⟩]∧s.length≤maxLen:=by
 have h:l=[]∧Deads 1 cells∧(O.z≠.dead→cells=[.string ⟨List.toArray s⟩]∧List.length s≤maxLen):=h
 exact⟨h.1,(h.2.2 (by simp)).1,(h.2.2 (by simp)).2⟩
theorem str_rep {w:World} {fz:Nat→Prop} {s:List UInt8} (h:s.length≤maxLen):Rep w fz .str .z s [.string ⟨s.toArray⟩] []:=
 ⟨rfl,⟨rfl,by simp[Value.oneCell']⟩,fun _=>⟨rfl,h⟩⟩
theorem indexByte_rng (s:List UInt8) (c:UInt8) : -1≤indexByte s c∧indexByte s c<(s.length:Int)∨indexByte s c = -1:=by
 by_cases h:indexByte s c = -1
 · exact .inr h
 · have h0:=indexByte_ge s c
   obtain⟨o,ho⟩:∃ o:Nat,indexByte s c=(o:Int):=⟨(indexByte s c).toNat,by omega⟩
   have h1:=(List.getElem?_eq_some_iff.mp (indexByte_some ho).1).1
   exact .inl (by omega)
theorem index_byte {P:Program} {ρ:Ren} (L:Lays.n137 P ρ) (hEnt:Entered P (ρ.f 137)) {s:List UInt8} {c:Int} :
  GivesS P (ρ.f 137) [⟨.str,.z,s⟩,⟨.int .u8,.z,c⟩] [⟨.int .i64,.z,indexByte s c.toNat.toUInt8⟩] [⟨.str,.z,s⟩,⟨.int .u8,.z,c⟩]:=by
 refine⟨hEnt,?_⟩
 rintro w fz args ls ⟨c1,cs',cells,l1,l2,rfl,rfl,rfl,hrep,c2,cs2,cells2,l3,l4,rfl,rfl,rfl,hrep2,rfl,rfl⟩ hnd hls hfz
 obtain⟨rfl,rfl,hs⟩:=rep_str hrep
 have hrep2:l3=[]∧Deads 1 cells2∧(O.z≠.dead→cells2=[.int .u8 c]∧IntKind.u8.min≤c∧c≤IntKind.u8.max):=hrep2
 obtain⟨rfl,_,h2⟩:=hrep2
 obtain⟨rfl,_⟩:=h2 (by simp)
 refine(Any.strings_IndexByte L ⟨s.toArray⟩ c w).mono ?_
 rintro en w' ⟨rfl,rfl⟩
 refine⟨_,[.int .i64 (indexByte s c.toNat.toUInt8)],[],[],rfl,rfl,Ext.refl' _ _,⟨_,_,[.int .i64 (indexByte s c.toNat.toUInt8)],[],[],rfl,rfl,rfl,?_,rfl,rfl⟩,
  ⟨_,_,[.string ⟨s.toArray⟩],[],[],rfl,rfl,rfl,rfl,rfl,by simp[Value.oneCell'],fun h=>absurd rfl h,_,_,[.int .u8 c],[],[],rfl,rfl,rfl,rfl,rfl,by simp[Value.oneCell'],fun h=>absurd rfl h,rfl,rfl⟩,by simp,by simp⟩
 refine⟨rfl,⟨rfl,by simp[Value.oneCell']⟩,fun _=>⟨rfl,?_⟩⟩
 have h:=indexByte_rng s c.toNat.toUInt8
 have hm:=maxLen_eq
 have e1:IntKind.i64.min = -9223372036854775808:=by decide
 have e2:IntKind.i64.max=9223372036854775807:=by decide
 rw[e1,e2]
 have hs:s.length≤maxLen:=hs
 show -9223372036854775808≤indexByte s c.toNat.toUInt8∧indexByte s c.toNat.toUInt8≤9223372036854775807
 omega
set_option maxHeartbeats 2000000 in
set_option maxRecDepth 100000 in
theorem slite_cut {P:Program} {ρ:Ren} (L:Lays.n220 P ρ) (s:ByteArray) (c:UInt8) (w:World) (hs:s.size<4294967281) :
  Calls P (ρ.f 220) #[.string s,.string ⟨#[c]⟩] w fun e w'=>e = .returned (.tuple #[.string ⟨(Lib.cut s.data.toList [c]).1.toArray⟩,.string ⟨(Lib.cut s.data.toList [c]).2.1.toArray⟩,.bool (Lib.cut s.data.toList [c]).2.2])∧∃ n,w'=w.drewN n:=by
 have hone:indexB s ⟨#[c]⟩=indexByte s.data.toList c:=index_one s.data.toList c
 rcases Lib.indexB_cases s ⟨#[c]⟩with hix|⟨i,hix,hroom⟩
 · obtain⟨e1,e2,e3⟩:=Lib.cutB_miss s ⟨#[c]⟩ hix
   rw[e1,e2,e3]
   rw[hone]at hix
   have t3:=L.t3;have t4:=L.t4;have t9:=L.t9
   have a3:∀ w,(isAgg (ρ.t 3)).run P w = .ok false w:=run_isAgg_plain L.t3 rfl;have a4:∀ w,(isAgg (ρ.t 4)).run P w = .ok false w:=run_isAgg_plain L.t4 rfl;have a9:∀ w,(isAgg (ρ.t 9)).run P w = .ok false w:=run_isAgg_plain L.t9 rfl
   have e219:∀ args w,(callFunc (ρ.f 219) args).run P w = .ok (.enter (ρ.f 219) args) w:=enters_of L.f219 (by kernel_rfl) rfl
   have mixed:=L.mixed;have z3:=L.z3;have v3:=L.v3;have z4:=L.z4;have v4:=L.v4;have z9:=L.z9;have v9:=L.v9
   go_enter L.f220,Body.n220_ntmps ρ
   go_wp2_with (go_at_fn (ρ.f 219);refine(Any.stringslite_Index_one { L with } _ _ _).mono ?_;rintro e w' ⟨rfl,rfl⟩;rw[hix])
   go_ret3
   exact⟨rfl,0,rfl⟩
 · obtain⟨e1,e2,e3⟩:=Lib.cutB_hit s ⟨#[c]⟩ i hix
   rw[e1,e2,e3]
   rw[hone]at hix
   have hz:(⟨#[c]⟩:ByteArray).size=1:=rfl
   have c1:(0:Int)≤↑i:=by omega
   have c2:(↑i:Int)≤↑s.size:=by omega
   have c3:(0:Int)≤↑i + ↑(⟨#[c]⟩:ByteArray).size:=by omega
   have c4:(↑i + ↑(⟨#[c]⟩:ByteArray).size:Int)≤↑s.size:=by omega
   have t3:=L.t3;have t4:=L.t4;have t9:=L.t9
   have a3:∀ w,(isAgg (ρ.t 3)).run P w = .ok false w:=run_isAgg_plain L.t3 rfl;have a4:∀ w,(isAgg (ρ.t 4)).run P w = .ok false w:=run_isAgg_plain L.t4 rfl;have a9:∀ w,(isAgg (ρ.t 9)).run P w = .ok false w:=run_isAgg_plain L.t9 rfl
   have e219:∀ args w,(callFunc (ρ.f 219) args).run P w = .ok (.enter (ρ.f 219) args) w:=enters_of L.f219 (by kernel_rfl) rfl
   have mixed:=L.mixed;have z3:=L.z3;have v3:=L.v3;have z4:=L.z4;have v4:=L.v4;have z9:=L.z9;have v9:=L.v9
   go_enter L.f220,Body.n220_ntmps ρ
   go_wp2_with (go_at_fn (ρ.f 219);refine(Any.stringslite_Index_one { L with } _ _ _).mono ?_;rintro e w' ⟨rfl,rfl⟩;rw[hix])
   go_region_o
   go_wp2
   go_ret3
   exact⟨rfl,1,rfl⟩
set_option maxHeartbeats 1000000 in
theorem str_cut {P:Program} {ρ:Ren} (L:Lays.n145 P ρ) (s:ByteArray) (c:UInt8) (w:World) (hs:s.size<4294967281) :
  Calls P (ρ.f 145) #[.string s,.string ⟨#[c]⟩] w fun e w'=>e = .returned (.tuple #[.string ⟨(Lib.cut s.data.toList [c]).1.toArray⟩,.string ⟨(Lib.cut s.data.toList [c]).2.1.toArray⟩,.bool (Lib.cut s.data.toList [c]).2.2])∧∃ n,w'=w.drewN n:=by
 have t4:=L.t4;have t9:=L.t9;have t59:=L.t59
 have a4:∀ w,(isAgg (ρ.t 4)).run P w = .ok false w:=run_isAgg_plain L.t4 rfl;have a9:∀ w,(isAgg (ρ.t 9)).run P w = .ok false w:=run_isAgg_plain L.t9 rfl;have a59:∀ w,(isAgg (ρ.t 59)).run P w = .ok false w:=run_isAgg_plain L.t59 rfl
 have e220:∀ args w,(callFunc (ρ.f 220) args).run P w = .ok (.enter (ρ.f 220) args) w:=enters_of L.f220 (by kernel_rfl) rfl
 have mixed:=L.mixed;have z4:=L.z4;have v4:=L.v4;have z9:=L.z9;have v9:=L.v9;have z59:=L.z59;have v59:=L.v59
 go_enter L.f145,Body.n145_ntmps ρ
 go_wp2_with (go_at_fn (ρ.f 220);refine(slite_cut { L with } _ _ _ hs).mono ?_;rintro e w' ⟨rfl,n,rfl⟩)
 go_ret3
 exact⟨rfl,n,rfl⟩
theorem cut_len (s:List UInt8) (c:UInt8):(Lib.cut s [c]).1.length≤s.length∧(Lib.cut s [c]).2.1.length≤s.length:=by
 unfold Lib.cut
 split
 · simp;omega
 · simp
theorem cut_one {P:Program} {ρ:Ren} (L:Lays.n145 P ρ) (hEnt:Entered P (ρ.f 145)) {s:List UInt8} {c:UInt8} (hs:s.length<4294967281) :
  GivesS P (ρ.f 145) [⟨.str,.z,s⟩,⟨.str,.z,[c]⟩] [⟨.str,.z,(Lib.cut s [c]).1⟩,⟨.str,.z,(Lib.cut s [c]).2.1⟩,⟨.bool,.z,(Lib.cut s [c]).2.2⟩] [⟨.str,.z,s⟩,⟨.str,.z,[c]⟩]:=by
 refine⟨hEnt,?_⟩
 rintro w fz args ls ⟨c1,cs',cells,l1,l2,rfl,rfl,rfl,hrep,c2,cs2,cells2,l3,l4,rfl,rfl,rfl,hrep2,rfl,rfl⟩ hnd hls hfz
 obtain⟨rfl,rfl,hm⟩:=rep_str hrep
 obtain⟨rfl,rfl,_⟩:=rep_str hrep2
 refine(str_cut L ⟨s.toArray⟩ c w hs).mono ?_
 rintro en w' ⟨rfl,n,rfl⟩
 have hl:=cut_len s c
 have hE:Ext [] w (w.drewN n):=⟨rfl,rfl,rfl,Nat.le_refl _,fun b _ _=>rfl,Nat.le_add_right _ _⟩
 refine⟨_,[.string ⟨(Lib.cut s [c]).1.toArray⟩,.string ⟨(Lib.cut s [c]).2.1.toArray⟩,.bool (Lib.cut s [c]).2.2],[],[],rfl,rfl,hE,
  ⟨_,_,[.string ⟨(Lib.cut s [c]).1.toArray⟩],[],[],rfl,rfl,rfl,str_rep (Nat.le_trans hl.1 hm),_,_,[.string ⟨(Lib.cut s [c]).2.1.toArray⟩],[],[],rfl,rfl,rfl,str_rep (Nat.le_trans hl.2 hm),_,_,[.bool (Lib.cut s [c]).2.2],[],[],rfl,rfl,rfl,⟨rfl,⟨rfl,by simp[Value.oneCell']⟩,fun _=>rfl⟩,rfl,rfl⟩,
  ⟨_,_,[.string ⟨s.toArray⟩],[],[],rfl,rfl,rfl,rfl,rfl,by simp[Value.oneCell'],fun h=>absurd rfl h,_,_,[.string ⟨#[c]⟩],[],[],rfl,rfl,rfl,rfl,rfl,by simp[Value.oneCell'],fun h=>absurd rfl h,rfl,rfl⟩,by simp,by simp⟩
set_option maxHeartbeats 1000000 in
theorem str_split {P:Program} {ρ:Ren} (L:Lays.n146 P ρ) (hi9:(P.info? (ρ.t 9)).map (fun i=>(i.zero,i.size,i.bytes))=some (some (.string ByteArray.empty),1,16)) (s:ByteArray) (c:UInt8) (w:World)
  (hs:s.size<4294967281) :
  Calls P (ρ.f 146) #[.string s,.string ⟨#[c]⟩] w fun e w'=>
   e = .returned (.slice (some ⟨w.heap.size,0,none⟩) (Lib.countB s ⟨#[c]⟩+1) (Lib.countB s ⟨#[c]⟩+1))∧w'=w.alloc (.cells ((Lib.splitB ⟨#[c]⟩ 0 (Lib.countB s ⟨#[c]⟩) s).map Value.string).toArray (ρ.t 9)):=by
 have h1:1≤(⟨#[c]⟩:ByteArray).size:=Nat.le_refl 1
 have hle:=Lib.countB_le ⟨#[c]⟩ h1 s.size s (Nat.le_refl _)
 have hlen:=Lib.splitB_all ⟨#[c]⟩ h1 0 _ s rfl
 have cc:=Any.strings_genSplit_core (P:=P) (ρ:=ρ) { L with } hi9 s ⟨#[c]⟩ 0 (-1) (Lib.countB s ⟨#[c]⟩+1) w hs h1 (Nat.zero_le _)
  (fun x cv hx=>(Any.strings_Index_one { L with } x c _).mono fun e w' ⟨he,hw⟩=>⟨by rw[he];show _=Ending.returned (Value.int .i64 (Lib.index x.data.toList [c]));rw[index_one],hw⟩)
  ((Any.strings_Count_one { L with } s c w).mono fun e w' ⟨he,hw⟩=>⟨by rw[he];show _=Ending.returned (Value.int .i64 ((Lib.count s.data.toList [c]:Nat):Int));rw[Lib.count_one];rfl,hw⟩)
  (by decide) (by decide) (by rw[if_pos (by decide)];omega)
 rw[Nat.add_sub_cancel,hlen]at cc
 have e2:Lib.cellsOf (Lib.splitB ⟨#[c]⟩ 0 (Lib.countB s ⟨#[c]⟩) s) (Lib.countB s ⟨#[c]⟩+1)=((Lib.splitB ⟨#[c]⟩ 0 (Lib.countB s ⟨#[c]⟩) s).map Value.string).toArray:=by rw[←hlen];exact Lib.cellsOf_full _
 rw[e2]at cc
 have t3:=L.t3;have t9:=L.t9;have t31:=L.t31
 have a3:=L.a3;have a9:=L.a9;have a31:=L.a31
 have z3:=L.z3;have v3:=L.v3;have z9:=L.z9;have v9:=L.v9;have z31:=L.z31;have v31:=L.v31
 have e221:∀ args w,(callFunc (ρ.f 221) args).run P w = .ok (.enter (ρ.f 221) args) w:=enters_of L.f221 (by kernel_rfl) rfl
 go_enter L.f146,Body.n146_ntmps ρ
 go_wp2_with (go_at_fn (ρ.f 221);refine cc.mono ?_;rintro e w' ⟨rfl,hw⟩;rw[hw])
 go_ret
 exact⟨rfl,rfl⟩
theorem split_eq (s:List UInt8) (c:UInt8):(Lib.splitB ⟨#[c]⟩ 0 (Lib.countB ⟨s.toArray⟩ ⟨#[c]⟩) ⟨s.toArray⟩).map (·.data.toList)=Lib.split s [c]:=
 Lib.splitB_data ⟨#[c]⟩ 0 _ ⟨s.toArray⟩
theorem splitK_len {c:UInt8} {m:Nat}:∀(k:Nat) (s:List UInt8),s.length≤m→∀ x∈Lib.splitK [c] 0 k s,x.length≤m
 | 0,s,h,x,hx=>by
   have:x=s:=List.mem_singleton.mp hx
   exact this ▸ h
 | k+1,s,h,x,hx=>by
   unfold Lib.splitK at hx
   split at hx
   · have:x=s:=List.mem_singleton.mp hx
     exact this ▸ h
   · rcases List.mem_cons.mp hx with rfl|hx
     · rw[List.length_take];omega
     · exact splitK_len k _ (by rw[List.length_drop];omega) x hx
theorem repL_strs {w:World} {fz:Nat→Prop} {o:O}:∀ {x:List (List UInt8)},(∀ s∈x,s.length≤maxLen)→RepL (Rep w fz .str o) x (x.map fun s=>.string ⟨s.toArray⟩) []
 |[],_=>⟨rfl,rfl⟩
 |a::l,h=>⟨[.string ⟨a.toArray⟩],_,[],[],rfl,rfl,⟨rfl,⟨rfl,by simp[Value.oneCell']⟩,fun _=>⟨rfl,h a (by simp)⟩⟩,repL_strs fun s hs=>h s (by simp[hs])⟩
theorem split_one {P:Program} {ρ:Ren} (L:Lays.n146 P ρ) (hEnt:Entered P (ρ.f 146)) (hi9:(P.info? (ρ.t 9)).map (fun i=>(i.zero,i.size,i.bytes))=some (some (.string ByteArray.empty),1,16)) {s:List UInt8} {c:UInt8} (hs:s.length<4294967281) :
  GivesS P (ρ.f 146) [⟨.str,.z,s⟩,⟨.str,.z,[c]⟩] [⟨.sl (ρ.t 9) .str,.own .z,Lib.split s [c]⟩] [⟨.str,.z,s⟩,⟨.str,.z,[c]⟩]:=by
 refine⟨hEnt,?_⟩
 rintro w fz args ls ⟨c1,cs',cells,l1,l2,rfl,rfl,rfl,hrep,c2,cs2,cells2,l3,l4,rfl,rfl,rfl,hrep2,rfl,rfl⟩ hnd hls hfz
 obtain⟨rfl,rfl,hm⟩:=rep_str hrep
 obtain⟨rfl,rfl,_⟩:=rep_str hrep2
 have hlen:=Lib.splitB_all ⟨#[c]⟩ (Nat.le_refl 1) 0 _ ⟨s.toArray⟩ rfl
 have hcle:=Lib.countB_le ⟨#[c]⟩ (Nat.le_refl 1) (⟨s.toArray⟩:ByteArray).size ⟨s.toArray⟩ (Nat.le_refl _)
 have hsz:(⟨s.toArray⟩:ByteArray).size=s.length:=rfl
 refine(str_split L hi9 ⟨s.toArray⟩ c w hs).mono ?_
 rintro en w' ⟨rfl,rfl⟩
 generalize hq:Lib.splitB ⟨#[c]⟩ 0 (Lib.countB ⟨s.toArray⟩ ⟨#[c]⟩) ⟨s.toArray⟩=q at hlen
 have hx:q.map (·.data.toList)=Lib.split s [c]:=by rw[←hq];exact split_eq s c
 have hes:q.map Value.string=(Lib.split s [c]).map fun s=>.string ⟨s.toArray⟩:=by
  rw[←hx,List.map_map]
  exact List.map_congr_left fun a _=>rfl
 have hl2:(Lib.split s [c]).length=Lib.countB ⟨s.toArray⟩ ⟨#[c]⟩+1:=by rw[←hx,List.length_map,hlen]
 rw[hes,←hl2]
 have hE:Ext [] w (w.alloc (.cells ((Lib.split s [c]).map fun s=>Value.string ⟨s.toArray⟩).toArray (ρ.t 9))):=
  ⟨rfl,rfl,rfl,by simp,fun b hb _=>alloc_old _ _ hb,Nat.le_refl _⟩
 refine⟨_,[.slice (some ⟨w.heap.size,0,none⟩) (Lib.split s [c]).length (Lib.split s [c]).length],[w.heap.size],[],rfl,rfl,hE,
  ⟨_,_,[.slice (some ⟨w.heap.size,0,none⟩) (Lib.split s [c]).length (Lib.split s [c]).length],[w.heap.size],[],rfl,rfl,rfl,?_,rfl,rfl⟩,
  ⟨_,_,[.string ⟨s.toArray⟩],[],[],rfl,rfl,rfl,rfl,rfl,by simp[Value.oneCell'],fun h=>absurd rfl h,_,_,[.string ⟨#[c]⟩],[],[],rfl,rfl,rfl,rfl,rfl,by simp[Value.oneCell'],fun h=>absurd rfl h,rfl,rfl⟩,by simp,by simp⟩
 generalize hcs:(Lib.split s [c]).map (fun s=>Value.string ⟨s.toArray⟩)=cs
 have hcl:cs.length=(Lib.split s [c]).length:=by rw[←hcs,List.length_map]
 refine⟨_,cs,[],rfl,hcs ▸ repL_strs fun x hx=>Nat.le_trans (splitK_len _ _ (Nat.le_refl _) x hx) hm,.inr ⟨w.heap.size,(Lib.split s [c]).length,cs.toArray,rfl,alloc_get _ _,Nat.le_refl _,?_,?_,?_,rfl⟩⟩
 · rw[hl2,maxLen_eq];omega
 · show cs.toArray.size=(Lib.split s [c]).length * 1
   rw[List.size_toArray,hcl,Nat.mul_one]
 · show cs.toArray.toList.take ((Lib.split s [c]).length * 1)=cs
   rw[List.toList_toArray,Nat.mul_one,←hcl,List.take_length]
end Go.V

