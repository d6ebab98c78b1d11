/-
  Numerals and joined strings, by the library's contracts.
-/
import Derived.Test.YtfjdciagpcgpkaaGreatDoorVF
import Derived.Test.YtfjdciagpcgpkaaGreatDoorVI
import Derived.Shelf.Strconv.Itoa3
import Derived.Shelf.Strings.OnBuilder
set_option linter.unusedVariables false
set_option linter.unusedSimpArgs false
namespace Go.V
open Go Go.Proofs Go.Shelf Go.Lib Go.RowKit
theorem itoa_small {P:Program} {ρ:Ren} (L:Lays.n171 P ρ) (hEnt:Entered P (ρ.f 171)) {n:Int} (h0:0≤n) (h1:n<100) :
  GivesS P (ρ.f 171) [⟨.int .i64,.z,n⟩] [⟨.str,.z,decDigits n.toNat⟩] [⟨.int .i64,.z,n⟩]:=by
 refine⟨hEnt,?_⟩
 rintro w fz args ls ⟨c,cs',cells,l1,l2,rfl,rfl,rfl,hrep,rfl,rfl⟩ hnd hls hfz
 have hrep:l1=[]∧Deads 1 cells∧(O.z≠.dead→cells=[.int .i64 n]∧IntKind.i64.min≤n∧n≤IntKind.i64.max):=hrep
 obtain⟨rfl,_,h⟩:=hrep
 obtain⟨rfl,_,_⟩:=h (by simp)
 obtain⟨i,rfl⟩:∃ i:Nat,n=(i:Int):=⟨n.toNat,by omega⟩
 refine(Any.strconv_Itoa_small L i (by omega) w).mono ?_
 rintro en w' ⟨rfl,rfl⟩
 have hlen:(decDigits i).length≤maxLen:=by
  rw[maxLen_eq]
  by_cases h:i<10
  · rw[decDigits_one h];simp
  · rw[decDigits_two h (by omega)];simp
 refine⟨_,[.string ⟨(decDigits i).toArray⟩],[],[],rfl,rfl,Ext.refl' _ _,⟨_,_,[.string ⟨(decDigits i).toArray⟩],[],[],rfl,rfl,rfl,?_,rfl,rfl⟩,⟨_,_,_,[],[],rfl,rfl,rfl,rfl,rfl,by simp[Value.oneCell'],fun h=>absurd rfl h,rfl,rfl⟩,by simp,by simp⟩
 exact⟨rfl,⟨rfl,by simp[Value.oneCell']⟩,fun _=>⟨rfl,hlen⟩⟩
theorem strs_cells {w:World} {fz:Nat→Prop}:∀ {x:List (List UInt8)} {es:List Value} {bs:List Nat},RepL (Rep w fz .str .z) x es bs→es=x.map fun s=>.string ⟨s.toArray⟩
 |[],es,bs,h=>h.1
 | a::l,es,bs,⟨c1,c2,b1,b2,h1,_,h3,h4⟩=>by
   have h3:b1=[]∧Deads 1 c1∧(O.z≠.dead→c1=[.string ⟨List.toArray a⟩]∧List.length a≤maxLen):=h3
   rw[h1,(h3.2.2 (by simp)).1,strs_cells h4];rfl
theorem join_strs {P:Program} {ρ:Ren} (L:Lays.n156 P ρ) (X:Builder.Extra P ρ) (hEnt:Entered P (ρ.f 156)) {e:TypeId} {x:List (List UInt8)} {sep:List UInt8} (hx:x.length≤1099511627776) (hl:(Lib.join x sep).length≤1099511627776) :
  GivesS P (ρ.f 156) [⟨.sl e .str,.z,x⟩,⟨.str,.z,sep⟩] [⟨.str,.z,Lib.join x sep⟩] [⟨.sl e .str,.z,x⟩,⟨.str,.z,sep⟩]:=by
 refine⟨hEnt,?_⟩
 rintro w fz args ls ⟨c,cs',cells,l1,l2,rfl,rfl,rfl,hrep,c2,cs2,cells2,l3,l4,rfl,rfl,rfl,hrep2,rfl,rfl⟩ hnd hls hfz
 have hrep2:l3=[]∧Deads 1 cells2∧(O.z≠.dead→cells2=[.string ⟨List.toArray sep⟩]∧List.length sep≤maxLen):=hrep2
 obtain⟨rfl,_,h2⟩:=hrep2
 obtain⟨rfl,_⟩:=h2 (by simp)
 obtain⟨A,cap,es,rfl,rfl,hle,hcap,hL,hc⟩:=hrep
 have hle:x.length≤cap:=hle
 have hes:es=x.map fun s=>.string ⟨s.toArray⟩:=strs_cells hL
 have hm:(x.map fun s=>(⟨s.toArray⟩:ByteArray)).map (·.data.toList)=x:=by rw[List.map_map];exact(List.map_congr_left fun s _=>rfl).trans (List.map_id x)
 have hcall:Calls P (ρ.f 156) #[.slice A x.length cap,.string ⟨sep.toArray⟩] w fun en w'=>en = .returned (.string ⟨(Lib.join x sep).toArray⟩)∧Below w.heap.size w w':=by
  have hc:x=[]∨∃ b off,A=some ⟨b,off,none⟩∧fz b∧CellsAt w b off es:=hc
  rcases hc with rfl|⟨b,off,rfl,hb,hat⟩
  · exact(Any.strings_Join_none L X A cap _ w).mono fun en w' ⟨he,hw⟩=>⟨he,hw ▸ Below.refl _ _⟩
  · have:=Any.strings_Join L X b off cap (x.map fun s=>(⟨s.toArray⟩:ByteArray)) ⟨sep.toArray⟩ w ?_ (hfz b hb) (by rw[List.length_map];omega) (by rw[List.length_map];exact hle) (by rw[hm];exact Nat.le_trans hl (by decide))
    · rw[hm,List.length_map]at this;exact this
    · intro j v hj
      obtain⟨cur,ty,fr,hh,hlen,htake⟩:=hat
      rw[List.getElem?_map]at hj
      obtain⟨s,hs,rfl⟩:=Option.map_eq_some_iff.mp hj
      have hjl:j<x.length:=(List.getElem?_eq_some_iff.mp hs).1
      have hel:es.length=x.length:=by rw[hes,List.length_map]
      have h3:es[j]? = some (.string ⟨s.toArray⟩):=by rw[hes,List.getElem?_map,hs];rfl
      rw[←htake,List.getElem?_take,if_pos (by omega),List.getElem?_drop,Array.getElem?_toList]at h3
      simp only[World.cell?,hh,Option.isSome_none,Bool.false_eq_true,if_false]
      exact h3
 refine(calls_drawn hcall (fun en w' h=>⟨_,h.1⟩)).mono ?_
 rintro en w' ⟨⟨rfl,hB⟩,hd⟩
 have hE:Ext [] w w':=⟨hB.os,hB.tape,hB.output,hB.size,fun b h _=>hB.block b h,hd⟩
 refine⟨_,[.string ⟨(Lib.join x sep).toArray⟩],[],[],rfl,rfl,hE,⟨_,_,[.string ⟨(Lib.join x sep).toArray⟩],[],[],rfl,rfl,rfl,?_,rfl,rfl⟩,
  ⟨_,_,[.slice A x.length cap],[],[],rfl,rfl,rfl,rfl,rfl,by simp[Value.oneCell'],fun h=>absurd rfl h,_,_,[.string ⟨sep.toArray⟩],[],[],rfl,rfl,rfl,rfl,rfl,by simp[Value.oneCell'],fun h=>absurd rfl h,rfl,rfl⟩,by simp,by simp⟩
 exact⟨rfl,⟨rfl,by simp[Value.oneCell']⟩,fun _=>⟨rfl,by rw[maxLen_eq];exact Nat.le_trans hl (by decide)⟩⟩
end Go.V

