/-
  The functions that the law reaches: what each gives.
-/
import Derived.Test.YtaipbjannlhhdaaGreatJB0
set_option linter.unusedVariables false
set_option linter.unusedSimpArgs false
set_option maxRecDepth 1000000
set_option maxHeartbeats 4000000
set_option linter.unusedVariables false
set_option linter.unusedSimpArgs false
namespace Go.V
open Go
theorem z9p {s:TSk} {t:z08} (hl:s.2.1.length<=30) (y1:TSk) (y2:Int) (y3:Bool) (h1:t∈s.2.1->y1=s/\y2 = -1 - zbi s.2.1 t/\y3=true) (h2:t∉s.2.1->z0go s t fun r=>r=(y1,(y2,(y3,())))):zao s t y1 y2 y3:=by
 refine z06f _ _ _ _ _ ?_
 unfold zum
 refine zas s.2.1 (fun x=>decide (x=t)) (fun i=>((i:Int),(((([]:List z0s),(([]:List z00),())),(([]:List z08),())),()))) (KT:=fun i=>((s,(-1 - (i:Int),(true,()))):TSk×Int×Bool×Unit)=(y1,(y2,(y3,())))) (KF:=t∉s.2.1) ?_ ?_ ?_ ?_
 . intro i hi X g1 g2
   refine z0g fun _=>bcI hi (inI hi ?_)
   simp only
   rw[z1m hi,z02 (by omega)]
   have no:¬ s.2.1[i]=t->X (((i+1:Nat):Int),(((([]:List z0s),(([]:List z00),())),(([]:List z08),())),())):=fun h=>g2 (by simpa using h)
   refine z3t (fun e1=>inI hi (z3t (fun e2=>inI hi ⟨_,zlr,z3t (fun e3=>⟨_,zdw (by omega) (by omega),?_⟩) (fun e3=>no fun h=>e3 (by rw[h];exact cmpL_zero.mpr rfl))⟩) (fun e2=>no fun h=>e2 (by rw[h])))) (fun e1=>no fun h=>e1 (by rw[h]))
   exact g1 (by simpa using (z0f9 _ _).mpr ⟨e1,e2,cmpL_zero.mp e3⟩)
 . intro X h
   refine z0g fun _=>bcN ?_
   exact h2 h
 . intro h
   have hm:t∈s.2.1:=by
    have:=firstAt_any.mp h
    rw[zcy]at this
    simpa using this
   obtain⟨rfl,rfl,rfl⟩:=h1 hm
   unfold zbi;rw[if_pos h]
 . intro h hm
   have:=firstAt_any (p:=fun x=>decide (x=t)).mpr (by rw[zcy];simpa using hm)
   omega
theorem z06y {s:TSk} {t:z08} (hl:s.2.1.length<=30) :
  (t∈s.2.1->zao s t s (-1 - zbi s.2.1 t) true)/\(t∉s.2.1->∃ y1 y2 y3,zao s t y1 y2 y3/\(y3=false\/(y3=true/\y1.2.1.length≠s.2.1.length))):=by
 have main:=z9p (s:=s) (t:=t) hl
 refine⟨fun hm=>main _ _ _ (fun _=>⟨rfl,rfl,rfl⟩) (fun h=>absurd hm h),fun hm=>?_⟩
 by_cases h30:s.2.1.length=30
 . exact⟨s,0,false,main _ _ _ (fun h=>absurd h hm) (fun _=>z0g fun _=>z3t (fun _=>rfl) (fun h=>by omega)),.inl rfl⟩
 . obtain⟨y,hy⟩:=z06s (s:=s) (t:=t) hl
   by_cases h8:y > 8
   . exact⟨s,0,false,main _ _ _ (fun h=>absurd h hm) (fun _=>z0g fun _=>z3t (fun h=>by omega) (fun _=>⟨y,hy,z09 (fun _=>rfl) (fun h=>absurd h8 h)⟩)),.inl rfl⟩
   . refine⟨(s.1,(s.2.1++[t],s.2.2)),-1 - (s.2.1.length:Int),true,main _ _ _ (fun h=>absurd h hm) (fun _=>z0g fun _=>z3t (fun h=>by omega) (fun _=>⟨y,hy,z09 (fun h=>absurd h h8) (fun _=>⟨trivial,trivial,by simp only[z0v,List.length_nil];omega,by simp only[z0v,List.length_append,List.length_cons,List.length_nil];omega,z0g fun _=>⟨-1 - (s.2.1.length:Int),?_,rfl⟩⟩)⟩)),.inr ⟨rfl,by simp⟩⟩
     have e:w64 ((List.length ((([]:List z08)++s.2.1)++([t]:List z08)):Int) - (1:Int))=(s.2.1.length:Int):=by
      rw[z2l]<;>simp<;>omega
     rw[e]
     exact zdw (by omega) (by omega)
theorem zl3 {σ τ:Type} {B:(τ->Prop)->τ->Prop} (n:Nat) (g:σ->Nat->σ) (s0:σ) (e:Nat->σ->τ) (μ:σ->Nat) (c N:Nat) (hN:n<=N) (hg:∀ s i,i<n->μ (g s i)<=μ s+c)
  (hs:∀ i (_:i<n) (s:σ) (X:τ->Prop),μ s<=μ s0+N * c->X (e (i+1) (g s i))->B X (e i s))
  (hf:∀ X:τ->Prop,μ ((List.range n).foldl g s0)<=μ s0+N * c->B X (e n ((List.range n).foldl g s0))):z0f B (e 0 s0):=
 z1g (List.range n) g s0 e μ c N (by simpa using hN) (fun s a ha=>hg s a (List.mem_range.mp ha)) (fun i h s X hs' hX=>hs i (by simpa using h) s X hs' (by simpa using hX)) (fun X h=>by simpa using hf X h)
def mkS (ts:List z08) (d:z0b) (i:Int) (b:List Int) (vs:List Int) (v:Int):Unit ⊕ List Int:=if zhh d i b v∈ts then .inr (valG ts d i b vs v)else .inl ()
theorem z00x {ts:List z08} {d:z0b} {i:Int} {b:List Int}:∀ {l vs vs':List Int},zcm (mkS ts d i b) l vs = .inr vs'->(∀ v∈l,zhh d i b v∈ts)/\vs'=l.foldl (valG ts d i b) vs
 |[],vs,vs',h=>by simp only[zcm,Sum.inr.injEq]at h;exact⟨by simp,h.symm⟩
 | v::l,vs,vs',h=>by
   simp only[zcm]at h
   unfold mkS at h
   by_cases hv:zhh d i b v∈ts
   . rw[if_pos hv]at h
     obtain⟨h1,h2⟩:=z00x (ts:=ts) (d:=d) (i:=i) (b:=b) h
     exact⟨fun u hu=>(List.mem_cons.mp hu).elim (fun e=>e ▸ hv) (h1 u),by rw[List.foldl_cons];exact h2⟩
   . rw[if_neg hv]at h;simp at h
theorem z09f {ts:List z08} {d:z0b} {i:Int} {b:List Int} {r:Unit}:∀ {l vs:List Int},zcm (mkS ts d i b) l vs = .inl r->∃ v∈l,zhh d i b v∉ts
 |[],vs,h=>by simp[zcm]at h
 | v::l,vs,h=>by
   by_cases hv:zhh d i b v∈ts
   . simp only[zcm]at h
     unfold mkS at h
     rw[if_pos hv]at h
     obtain⟨u,hu,h1⟩:=z09f (ts:=ts) (d:=d) (i:=i) (b:=b) h
     exact⟨u,by simp[hu],h1⟩
   . exact⟨v,by simp,hv⟩
theorem zvt {ts:List z08} {d:z0b} {i:Int} {b:List Int}:∀ {l vs:List Int},(l.foldl (valG ts d i b) vs).length=vs.length
 |[],vs=>rfl
 |v::l,vs=>by rw[List.foldl_cons,zvt];simp[valG]
theorem z0dk {α:Type} {p:α->Bool} {l:List α} {x:α} (hx:x∈l) (h:p x=false):l.all p=false:=by
 rw[Bool.eq_false_iff];intro h'
 rw[List.all_eq_true.mp h' x hx]at h;cases h
theorem z049 {ts:List z08} {d:z0b} {i:Int} {b:List Int} {f:z00}:zst ts d i b f=(decide ((hdS ts d i b).1.length=ts.length)&&decide (f∈z8j d (hdS ts d i b).2)):=by
 unfold zst
 by_cases h:∀ v∈exV d,zhh d i b v∈ts
 . have e:hdS ts d i b=(ts,(exV d).foldl (valG ts d i b) b):=z024 h
   have e2:(exV d).all (fun v=>decide (zhh d i b v∈ts))=true:=List.all_eq_true.mpr fun v hv=>by simpa using h v hv
   rw[e,e2]
   simp only[decide_true,Bool.true_and]
   unfold z8j
   rw[zj1,List.nil_append,<-zcy,List.any_map]
   rfl
 . have h1:¬ (hdS ts d i b).1.length=ts.length:=fun e=>h (z02f e)
   rw[decide_eq_false h1,Bool.false_and]
   have:∃ v∈exV d,zhh d i b v∉ts:=Classical.byContradiction fun hn=>h fun v hv=>Classical.byContradiction fun hv'=>hn ⟨v,hv,hv'⟩
   obtain⟨v,hv,hv'⟩:=this
   rw[z0dk hv (decide_eq_false hv'),Bool.false_and]
theorem z00o {s:TSk} {ds:List z0b} {i:Nat} {b:List Int} {f:z00} (hi:i<ds.length) (hd:DOk ds[i]) (hts:s.2.1.length<=30) (hb:b.length=5) :
  zky s ds i b f (zst s.2.1 ds[i] i b f):=z014 _ _ _ _ _ _ (by
 unfold zrn
 obtain⟨hs1,hs2⟩:=hd.sm
 have hfl:=znr hd.sm
 have hel:=zs2 hd.sm
 have hal:=zny hd.sm b
 refine inI hi ⟨_,z8f (d:=ds.getD (Int.toNat (i:Int)) z67) (by rw[z1m hi];omega) (by rw[z1m hi];omega),?_⟩
 rw[z1m hi]
 refine z1g (frV ds[i]) (fun s v=>s++[b.getD v.toNat 0]) [] (fun j s=>((j:Int),(s,()))) List.length 1 6 hfl (fun s v _=>by simp) ?_ ?_
 . intro j hj s X hs hX
   have hv:=hd.fr _ (List.getElem_mem hj)
   refine z0g fun _=>bcI hj (inI hj ?_)
   simp only
   rw[z1m hj,z02 (by omega)]
   exact⟨⟨by omega,by omega⟩,by simp only[z0v,List.length_cons,List.length_nil]at *;omega,hX⟩
 . intro X _
   refine z0g fun _=>bcN ⟨by simp only[z0v,List.length_nil];omega,inI hi ⟨_,z63 (by omega) (by omega),?_⟩⟩
   rw[List.nil_append]
   refine zjf (exV ds[i]) (mkS s.2.1 ds[i] i b) b (fun j vs=>((j:Int),(z7g ds[i] b,(vs,())))) (KR:=fun _=>((false,()):Bool×Unit)=(zst s.2.1 ds[i] i b f,())) ?_ ?_ ?_
   . intro j hj vs Y hr h1 h2
     obtain⟨_,rfl⟩:=z00x hr
     have hvl:=zvt (ts:=s.2.1) (d:=ds[i]) (i:=i) (b:=b) (l:=(exV ds[i]).take j) (vs:=b)
     generalize ((exV ds[i]).take j).foldl (valG s.2.1 ds[i] i b) b=vs at h1 h2 hvl ⊢
     have hv:=hd.ex _ (List.getElem_mem hj)
     refine z0g fun _=>bcI hj (inI hj ⟨trivial,?_⟩)
     simp only
     rw[z1m hj,z02 (by omega)]
     have e:(((i:Int),((exV ds[i])[j],(z7g ds[i] b,()))):z08)=zhh ds[i] i b (exV ds[i])[j]:=rfl
     rw[e]
     unfold mkS at h1 h2
     have ht:=z06y (s:=s) (t:=zhh ds[i] i b (exV ds[i])[j]) hts
     by_cases hm:zhh ds[i] i b (exV ds[i])[j]∈s.2.1
     . refine⟨_,_,_,ht.1 hm,bcF (z0g fun _=>z0g fun _=>zbt (fun h=>absurd rfl h) (fun _=>inI hj ⟨⟨by omega,by omega⟩,h2 _ (by rw[if_pos hm];rfl)⟩))⟩
     . obtain⟨y1,y2,y3,hg,h3⟩:=ht.2 hm
       have hno:=h1 () (by rw[if_neg hm])
       rcases h3 with rfl|⟨rfl,h3⟩
       . exact⟨y1,y2,false,hg,bcT hno⟩
       . exact⟨y1,y2,true,hg,bcF (z0g fun _=>z0g fun _=>zbt (fun _=>hno) (fun h=>by omega))⟩
   . intro vs Y hr
     obtain⟨hall,rfl⟩:=z00x hr
     have hvl:=zvt (ts:=s.2.1) (d:=ds[i]) (i:=i) (b:=b) (l:=exV ds[i]) (vs:=b)
     have e2:(exV ds[i]).all (fun v=>decide (zhh ds[i] i b v∈s.2.1))=true:=List.all_eq_true.mpr fun v hv=>by simpa using hall v hv
     unfold zst
     rw[e2,Bool.true_and]
     generalize (exV ds[i]).foldl (valG s.2.1 ds[i] i b) b=vs at hvl ⊢
     refine z0g fun _=>bcN ?_
     refine z71 ds[i].2.1 (fun a=>decide (inst a vs=f)) (fun j=>((j:Int),())) (KT:=((true,()):Bool×Unit)=(ds[i].2.1.any (fun a=>decide (inst a vs=f)),())) (KF:=((false,()):Bool×Unit)=(ds[i].2.1.any (fun a=>decide (inst a vs=f)),())) ?_ ?_ (fun h=>by rw[h]) (fun h=>by rw[h])
     . intro j hj Z h1 h2
       have ha:=hd.hd.2 _ (List.getElem_mem hj)
       refine inI hi (z0g fun _=>bcI hj (inI hi (inI hj ⟨_,_,zb0 (a:=(ds[i].2.1).getD (Int.toNat (j:Int)) z0h) (b:=vs) (by rw[z1m hj];omega) (by omega) (by rw[z1m hj];exact ha.2),_,za3,?_⟩)))
       simp only
       rw[z1m hj,z02 (by omega),zw0]
       exact z1e h1 h2
     . intro Z h
       exact inI hi (z0g fun _=>bcN h)
   . intro r hr
     obtain⟨v,hv,hm⟩:=z09f hr
     unfold zst
     rw[z0dk hv (decide_eq_false hm),Bool.false_and])
def derH (s:TSk) (d:z0b) (i:Nat) (f:z00) (out:List z00) (b:List Int):List z00:=if zst s.2.1 d i b f then out++[((i:Int),(b,()))] else out
def derG (s:TSk) (ds:List z0b) (f:z00) (out:List z00) (i:Nat):List z00:=(z9t s.1 (ds.getD i z67).1).foldl (derH s (ds.getD i z67) i f) out
def z4c (s:TSk) (ds:List z0b) (f:z00):List z00:=if vSk s&&(z4b s.1.1 ds&&decide (f∈s.1.2.1))then(List.range ds.length).foldl (derG s ds f) [] else[]
theorem zwa (s:TSk) (d:z0b) (i:Nat) (f:z00) (out:List z00) (b:List Int):(derH s d i f out b).length<=out.length+1:=by unfold derH;split<;>simp
theorem zwq (s:TSk) (ds:List z0b) (f:z00) (out:List z00) (i:Nat):(derG s ds f out i).length<=out.length+27000:=by
 have:=z88 (l:=z9t s.1 (ds.getD i z67).1) (g:=derH s (ds.getD i z67) i f) (s:=out) (μ:=List.length) (c:=1) fun o b _=>zwa s _ i f o b
 have:=zmf (x:=s.1) (l:=(ds.getD i z67).1)
 unfold derG
 omega
theorem zi3 {l:List z0s} {ds:List z0b} (h:z4b l ds=true):ds.length<=5/\∀ d∈ds,DOk d:=by
 unfold z4b at h
 simp only[Bool.and_eq_true]at h
 exact⟨zmo h.1,fun d hd=>z091 (zr7 h.1 hd)⟩
theorem znz (s:TSk) (ds:List z0b) (f:z00):(z4c s ds f).length<=135000:=by
 unfold z4c
 split
 . rename_i h
   simp only[Bool.and_eq_true]at h
   have:=z88 (l:=List.range ds.length) (g:=derG s ds f) (s:=[]) (μ:=List.length) (c:=27000) fun o i _=>zwq s ds f o i
   have h5:=(zi3 h.2.1).1
   rw[List.length_range,List.length_nil]at this
   have:=Nat.mul_le_mul_right 27000 h5
   omega
 . exact Nat.zero_le _
theorem zu5 {s:TSk} {ds:List z0b} {f t:z00} (h:t∈z4c s ds f):∃ i:Nat,i<ds.length/\∃ b:List Int,b.length=5/\t=((i:Int),(b,())):=by
 unfold z4c at h
 split at h
 . have z0n:∀(i:Nat),i<ds.length->∀(l:List (List Int)) (out:List z00),(∀ b∈l,b.length=5)->(∀ t∈out,∃ i:Nat,i<ds.length/\∃ b:List Int,b.length=5/\t=((i:Int),(b,())))->
     ∀ t∈l.foldl (derH s (ds.getD i z67) i f) out,∃ i:Nat,i<ds.length/\∃ b:List Int,b.length=5/\t=((i:Int),(b,())):=by
    intro i hi l
    induction l with
    |nil=>intro out _ ho;exact ho
    | cons b l ih=>
      intro out hl ho
      rw[List.foldl_cons]
      refine ih _ (fun c hc=>hl c (by simp[hc])) fun t ht=>?_
      unfold derH at ht
      split at ht
      . rcases List.mem_append.mp ht with ht|ht
        . exact ho t ht
        . simp only[List.mem_singleton]at ht;exact⟨i,hi,b,hl b (by simp),ht⟩
      . exact ho t ht
   have outer:∀(l:List Nat) (out:List z00),(∀ i∈l,i<ds.length)->(∀ t∈out,∃ i:Nat,i<ds.length/\∃ b:List Int,b.length=5/\t=((i:Int),(b,())))->
     ∀ t∈l.foldl (derG s ds f) out,∃ i:Nat,i<ds.length/\∃ b:List Int,b.length=5/\t=((i:Int),(b,())):=by
    intro l
    induction l with
    |nil=>intro out _ ho;exact ho
    | cons i l ih=>
      intro out hl ho
      rw[List.foldl_cons]
      exact ih _ (fun c hc=>hl c (by simp[hc])) (z0n i (hl i (by simp)) _ _ (fun b hb=>zf9 hb) ho)
   exact outer _ [] (fun i hi=>List.mem_range.mp hi) (by simp) t h
 . simp at h
theorem z5y {s:TSk} (h:vSk s=true):z3a s.1=true/\s.2.1.length<=30:=⟨(z5g h).1,zdz (z5g h).2.2⟩
theorem zux {s:TSk} {ds:List z0b} {f:z00} (h:(vSk s&&(z4b s.1.1 ds&&decide (f∈s.1.2.1)))=false):(([]:List z00),())=(z4c s ds f,()):=by unfold z4c;rw[h];rfl
theorem zkf {s:TSk} {ds:List z0b} {f:z00}:zb1 s ds f (z4c s ds f):=ztj _ _ _ _ (by
 unfold zkg
 refine⟨_,z3k,z0u (fun h=>zux (by rw[h];rfl)) (fun h1=>⟨_,zg8,z0u (fun h=>zux (by rw[h];simp)) (fun h2=>⟨_,ziy,z0u (fun h=>zux (by rw[h];simp)) (fun h3=>?_)⟩)⟩)⟩
 obtain⟨hds,hdo⟩:=zi3 h2
 obtain⟨hv,hts⟩:=z5y h1
 have e:z4c s ds f=(List.range ds.length).foldl (derG s ds f) []:=by unfold z4c;rw[h1,h2,h3];rfl
 rw[e]
 refine z0g fun _=>zl3 ds.length (derG s ds f) [] (fun i o=>((i:Int),(o,()))) List.length 27000 5 hds (fun o i _=>zwq s ds f o i) ?_ ?_
 . intro i hi o X ho hX
   unfold derG at hX
   rw[z1a hi]at hX
   have hd:=hdo _ (List.getElem_mem hi)
   refine bcI hi (inI hi ⟨_,ztm,?_⟩)
   simp only
   rw[z1m hi,z02 (by omega)]
   refine z0g fun _=>?_
   rw[show List.map (fun y=>(true,y)) (z9t s.1 ds[i].1)=mkd (z9t s.1 ds[i].1) 0 from rfl]
   refine z1g (z9t s.1 ds[i].1) (derH s ds[i] i f) o (fun j o=>((j:Int),(o,(mkd (z9t s.1 ds[i].1) j,())))) List.length 1 27000 zmf (fun o b _=>zwa s _ i f o b) ?_ ?_
   . intro j hj o' Y ho' hY
     have hb:=zf9 (List.getElem_mem hj)
     simp only[List.length_nil]at ho
     refine bcI hj (inI (by rw[z0ac];exact hj) ?_)
     simp only[Int.toNat_natCast]
     rw[z08l hj]
     refine⟨rfl,_,_,_,zp5 hi hd hts hb,z0g fun _=>z0g fun _=>?_⟩
     simp only
     rw[z086 hj,z02 (by omega)]
     unfold derH at hY
     rw[z049]at hY
     refine z3t (fun h=>⟨_,ziy,z1e (fun h4=>⟨by simp only[z0v,List.length_cons,List.length_nil];omega,?_⟩) (fun h4=>?_)⟩) (fun h=>?_)
     . rw[decide_eq_true (show(hdS s.2.1 ds[i] i (z9t s.1 ds[i].1)[j]).1.length=s.2.1.length by omega),h4]at hY;exact hY
     . rw[h4,Bool.and_false]at hY;exact hY
     . rw[decide_eq_false (show ¬ (hdS s.2.1 ds[i] i (z9t s.1 ds[i].1)[j]).1.length=s.2.1.length by omega)]at hY;exact hY
   . intro Y _
     exact bcN hX
 . intro X _
   exact bcN rfl)
theorem zet {s:TSk} {ds:List z0b} {f:z00}:z8q s ds f (z4c s ds f):=ztp _ _ _ _ (by
 unfold zk1
 refine⟨_,z4i,z0u (fun h=>zux (by rw[h];rfl)) (fun h1=>⟨_,zge,z0u (fun h=>zux (by rw[h];simp)) (fun h2=>⟨_,z7k,?_⟩)⟩)⟩
 obtain⟨hds,hdo⟩:=zi3 h2
 obtain⟨hv,hts⟩:=z5y h1
 rw[hv,Bool.true_and]
 refine z0u (fun h=>zux (by rw[h];simp)) (fun h3=>?_)
 have e:z4c s ds f=(List.range ds.length).foldl (derG s ds f) []:=by unfold z4c;rw[h1,h2,h3];rfl
 rw[e]
 refine zl3 ds.length (derG s ds f) [] (fun i o=>((i:Int),(o,()))) List.length 27000 5 hds (fun o i _=>zwq s ds f o i) ?_ ?_
 . intro i hi o X ho hX
   unfold derG at hX
   rw[z1a hi]at hX
   have hd:=hdo _ (List.getElem_mem hi)
   refine z0g fun _=>bcI hi (inI hi ⟨_,zke,?_⟩)
   simp only
   rw[z1m hi,z02 (by omega)]
   refine z1g (z9t s.1 ds[i].1) (derH s ds[i] i f) o (fun j o=>((j:Int),(o,()))) List.length 1 27000 zmf (fun o b _=>zwa s _ i f o b) ?_ ?_
   . intro j hj o' Y ho' hY
     have hb:=zf9 (List.getElem_mem hj)
     simp only[List.length_nil]at ho
     refine z0g fun _=>bcI hj (inI hj ?_)
     simp only
     rw[z1m hj,z02 (by omega)]
     refine⟨_,z00o hi hd hts hb,?_⟩
     unfold derH at hY
     refine z1e (fun h4=>inI hj ⟨by simp only[z0v,List.length_cons,List.length_nil];omega,?_⟩) (fun h4=>?_)
     . rw[h4]at hY;exact hY
     . rw[h4]at hY;exact hY
   . intro Y _
     exact z0g fun _=>bcN hX
 . intro X _
   exact z0g fun _=>bcN rfl)
def zns (fs:List z00) (lev:List Int) (d:z0b) (b:List Int):Bool:=d.1.all fun a=>decide (inst a b∈fs)&&decide (0<=lev.getD (place fs (inst a b)).toNat 0)
def knS (s:TSk) (ds:List z0b) (lev:List Int) (t:z00):Bool:=zns s.1.2.1 lev (ds.getD t.1.toNat z67) t.2.1
def knF (s:TSk) (ds:List z0b) (lev:List Int) (i:Nat):Bool:=(z4c s ds (s.1.2.1.getD i z0h)).any (knS s ds lev)
def zel (s:TSk) (ds:List z0b) (lev:List Int) (i:Nat):Bool:=decide (lev.getD i 0<0)&&knF s ds lev i
def zdc (s:TSk) (ds:List z0b) (n:Int) (lev:List Int):List Int:=(List.range lev.length).map fun i=>if zel s ds lev i then n else lev.getD i 0
def srcI (s:TSk) (i:Nat):Bool:=zaa s.1.1 (s.1.2.1.getD i z0h).1
def zuv (s:TSk):List Int:=(List.range s.1.2.1.length).map fun i=>if srcI s i then 0 else -1
def zdb (s:TSk) (ds:List z0b):Nat->List Int
 |0=>zuv s
 |k+1=>zdc s ds ((k+1:Nat):Int) (zdb s ds k)
def zu9 (s:TSk) (ds:List z0b):List Int:=zdb s ds s.1.2.1.length
theorem zar (s:TSk) (ds:List z0b) (n:Int) (lev:List Int):(zdc s ds n lev).length=lev.length:=by simp[zdc]
theorem z5u (s:TSk) (ds:List z0b):∀ k,(zdb s ds k).length=s.1.2.1.length
 |0=>by simp[zdb,zuv]
 |k+1=>by rw[zdb,zar,z5u]
theorem z6r {s:TSk} {ds:List z0b} {n:Int} {lev:List Int} {i:Nat} (hi:i<lev.length):(zdc s ds n lev).getD i 0=if zel s ds lev i then n else lev.getD i 0:=by
 have h:i<(zdc s ds n lev).length:=by rw[zar];exact hi
 rw[z1a h]
 simp[zdc]
theorem ziv {s:TSk} {i:Nat} (hi:i<s.1.2.1.length):(zuv s).getD i 0=if srcI s i then 0 else -1:=by
 have h:i<(zuv s).length:=by simp[zuv,hi]
 rw[z1a h]
 simp[zuv]
theorem zwz {s:TSk} {ds:List z0b}:∀(k:Nat) {i:Nat},i<s.1.2.1.length->-1<=(zdb s ds k).getD i 0
 |0,i,hi=>by rw[zdb,ziv hi];split<;>omega
 | k+1,i,hi=>by
   rw[zdb,z6r (by rw[z5u];exact hi)]
   split
   . omega
   . exact zwz k hi
theorem z03z {s:TSk} {ds:List z0b}:∀(k:Nat) {i:Nat},i<s.1.2.1.length->(zdb s ds k).getD i 0<0->srcI s i=false
 | 0,i,hi,h=>by
   rw[zdb,ziv hi]at h
   split at h
   . omega
   . rename_i hs;simpa using hs
 | k+1,i,hi,h=>by
   rw[zdb,z6r (by rw[z5u];exact hi)]at h
   split at h
   . omega
   . exact z03z k hi h
def z0ab (s:TSk) (ds:List z0b) (lev:List Int):Prop:=∀ i,i<lev.length->zel s ds lev i=false
theorem z01c {s:TSk} {ds:List z0b} {lev:List Int} (h:z0ab s ds lev) (n:Int):zdc s ds n lev=lev:=by
 refine z042 (d:=0) (zar _ _ _ _) fun i hi=>?_
 rw[zar]at hi
 rw[z6r hi,h i hi];rfl
theorem znn {s:TSk} {ds:List z0b} {k:Nat} (h:z0ab s ds (zdb s ds k)):∀ m,zdb s ds (k+m)=zdb s ds k
 |0=>rfl
 | m+1=>by
   rw[<-Nat.add_assoc,zdb,znn h m]
   exact z01c h _
def negs (l:List Int):Nat:=(List.range l.length).countP fun i=>decide (l.getD i 0<0)
theorem z0e9 {s:TSk} {ds:List z0b} {n:Int} (hn:0<=n) {lev:List Int} {i:Nat} (hi:i<lev.length) (h:zel s ds lev i=true):negs (zdc s ds n lev)<negs lev:=by
 unfold negs
 rw[zar]
 refine z04p (fun j hj hp=>?_) ⟨i,by simpa using hi,?_,?_⟩
 . rw[z6r (by simpa using hj)]at hp
   split at hp
   . simp at hp;omega
   . exact hp
 . unfold zel at h
   rw[Bool.and_eq_true]at h
   exact h.1
 . rw[z6r hi,if_pos h]
   simp;exact hn
theorem z095 (l:List Int):negs l<=l.length:=by
 have:=List.countP_le_length (p:=fun i=>decide (l.getD i 0<0)) (l:=List.range l.length)
 simpa [negs]using this
theorem row3 {ats:List z00} {b:List Int} (h:∀ a∈ats,a.2.1.length<=3/\∀ t∈a.2.1,-10<=t/\t<5) {a:z00} (ha:a∈ats):a.2.1.length<=1000/\∀ t∈a.2.1,-10<=t/\t<5:=⟨by have:=(h a ha).1;omega,(h a ha).2⟩
theorem z00i {fs:List z00} {lev:List Int} {ds:List z0b} {i:Nat} {b:List Int} (hf:fs.length<=30) (ha:asc fs) (hl:lev.length=fs.length) (hm:∀ j,j<fs.length->-1<=lev.getD j 0) (hi:i<ds.length) (hd:DOk ds[i]) (hb:b.length=5) :
  zit fs lev ds ((i:Int),(b,())) (zns fs lev ds[i] b):=zzs _ _ _ _ _ (by
 unfold zof
 refine inI hi ?_
 simp only
 rw[z1m hi]
 refine z0g fun _=>z71 ds[i].1 (fun a=>!(decide (inst a b∈fs)&&decide (0<=lev.getD (place fs (inst a b)).toNat 0))) (fun j=>((j:Int),())) (KT:=((false,()):Bool×Unit)=(zns fs lev ds[i] b,())) (KF:=((true,()):Bool×Unit)=(zns fs lev ds[i] b,())) ?_ ?_ ?_ ?_
 . intro j hj X h1 h2
   obtain⟨p,hp,hp2⟩:=z09o (f:=inst ds[i].1[j] b) hf ha
   refine bcI hj (inI hj ⟨_,_,zb2 (a:=(ds[i].1).getD (Int.toNat (j:Int)) z0h) (b:=b) ?_ (by omega) ?_,?_⟩)
   . rw[z1m hj];exact(row3 (b:=b) hd.bd.2 (List.getElem_mem hj)).1
   . rw[z1m hj];exact(row3 (b:=b) hd.bd.2 (List.getElem_mem hj)).2
   . simp only
     rw[z1m hj,z02 (by omega)]
     refine⟨p,_,hp,z0ck (fun h=>h1 (by simp[h])) (fun h=>?_)⟩
     obtain⟨e,hpl⟩:=hp2 h
     rw[e,Int.toNat_natCast]at h1 h2
     have:=hm p hpl
     refine⟨⟨by omega,by omega⟩,?_⟩
     rw[Int.toNat_natCast]
     refine z3t (fun h3=>h1 (by rw[decide_eq_true h,Bool.true_and,decide_eq_false (by omega)];rfl)) (fun h3=>h2 (by rw[decide_eq_true h,Bool.true_and,decide_eq_true (by omega)];rfl))
 . intro X h;exact bcN h
 . intro h;rw[z3y]at h;unfold zns;rw[nt h]
 . intro h;rw[z3y]at h;unfold zns;rw[nf h])
theorem z01r {s:TSk} {lev:List Int} {ds:List z0b} {i:Nat} {b:List Int} (hl:lev.length=s.1.2.1.length) (hi:i<ds.length) (hd:DOk ds[i]) (hb:b.length=5) :
  zl4 s ds ((i:Int),(b,())) lev (zns s.1.2.1 lev ds[i] b):=z019 _ _ _ _ _ (by
 unfold zqs
 refine z71 ds[i].1 (fun a=>!(decide (inst a b∈s.1.2.1)&&decide (0<=lev.getD (place s.1.2.1 (inst a b)).toNat 0))) (fun j=>((j:Int),())) (KT:=((false,()):Bool×Unit)=(zns s.1.2.1 lev ds[i] b,())) (KF:=((true,()):Bool×Unit)=(zns s.1.2.1 lev ds[i] b,())) ?_ ?_ ?_ ?_
 . intro j hj X h1 h2
   have hbd:=hd.bd.1
   refine inI hi (z0g fun _=>?_)
   simp only
   rw[z1m hi]
   refine bcI hj ⟨trivial,inI hi (inI hj ⟨_,_,zb0 (a:=(ds[i].1).getD (Int.toNat (j:Int)) z0h) (b:=b) ?_ (by omega) ?_,?_⟩)⟩
   . rw[z1m hj];exact(row3 (b:=b) hd.bd.2 (List.getElem_mem hj)).1
   . rw[z1m hj];exact(row3 (b:=b) hd.bd.2 (List.getElem_mem hj)).2
   . rw[z1m hj,z02 (by omega)]
     refine⟨_,zfs,?_⟩
     by_cases h:inst ds[i].1[j] b∈s.1.2.1
     . obtain⟨p,e,hp,_⟩:=zgm h
       show z01 (decide (place s.1.2.1 (inst ds[i].1[j] b)<0)) _ _
       rw[e]at h1 h2 ⊢
       refine z09 (fun h=>by omega) (fun _=>⟨⟨by omega,by omega⟩,?_⟩)
       rw[Int.toNat_natCast]at h1 h2 ⊢
       exact z09 (fun h3=>h1 (by rw[decide_eq_true h,Bool.true_and,decide_eq_false (by omega)];rfl)) (fun h3=>h2 (by rw[decide_eq_true h,Bool.true_and,decide_eq_true (by omega)];rfl))
     . show z01 (decide (place s.1.2.1 (inst ds[i].1[j] b)<0)) _ _
       rw[zyc h]
       exact z09 (fun _=>h1 (by simp[h])) (fun h=>by omega)
 . intro X h
   refine inI hi (z0g fun _=>?_)
   simp only
   rw[z1m hi]
   exact bcN h
 . intro h;rw[z3y]at h;unfold zns;rw[nt h]
 . intro h;rw[z3y]at h;unfold zns;rw[nf h])
def zz0 (s:TSk) (ds:List z0b) (lev:List Int) (i:Nat) (o:List Int) (t:z00):List Int:=if knS s ds lev t then o++[(i:Int)] else o
def zr1 (s:TSk) (ds:List z0b) (lev:List Int) (o:List Int) (i:Nat):List Int:=if lev.getD i 0<0 then(z4c s ds (s.1.2.1.getD i z0h)).foldl (zz0 s ds lev i) o else o
theorem zzi (s:TSk) (ds:List z0b) (lev:List Int) (i:Nat) (o:List Int) (t:z00):(zz0 s ds lev i o t).length<=o.length+1:=by unfold zz0;split<;>simp
theorem z083 (s:TSk) (ds:List z0b) (lev:List Int) (o:List Int) (i:Nat):(zr1 s ds lev o i).length<=o.length+135000:=by
 unfold zr1
 split
 . have:=z88 (l:=z4c s ds (s.1.2.1.getD i z0h)) (g:=zz0 s ds lev i) (s:=o) (μ:=List.length) (c:=1) fun o t _=>zzi s ds lev i o t
   have:=znz s ds (s.1.2.1.getD i z0h)
   omega
 . omega
theorem zzq {s:TSk} {ds:List z0b} {lev:List Int} {i:Nat} {x:Int}:∀ {l:List z00} {o:List Int},x∈l.foldl (zz0 s ds lev i) o↔x∈o\/(x=(i:Int)/\l.any (knS s ds lev)=true)
 |[],o=>by simp
 | t::l,o=>by
   rw[List.foldl_cons,zzq,List.any_cons]
   unfold zz0
   cases h:knS s ds lev t with
   | true=>
     rw[if_pos rfl,List.mem_append,List.mem_singleton,Bool.true_or]
     constructor
     . rintro ((h|h)|⟨h,_⟩)
       . exact .inl h
       . exact .inr ⟨h,rfl⟩
       . exact .inr ⟨h,rfl⟩
     . rintro (h|⟨h,_⟩)
       . exact .inl (.inl h)
       . exact .inl (.inr h)
   |false=>simp
theorem zim {s:TSk} {ds:List z0b} {lev:List Int} {x:Int}:∀ {l:List Nat} {o:List Int},x∈l.foldl (zr1 s ds lev) o↔x∈o\/∃ i∈l,x=(i:Int)/\zel s ds lev i=true
 |[],o=>by simp
 | i::l,o=>by
   rw[List.foldl_cons,zim]
   have:x∈zr1 s ds lev o i↔x∈o\/(x=(i:Int)/\zel s ds lev i=true):=by
    unfold zr1 zel
    by_cases h:lev.getD i 0<0
    . rw[if_pos h,zzq,decide_eq_true h,Bool.true_and];rfl
    . rw[if_neg h,decide_eq_false h,Bool.false_and];simp
   rw[this]
   constructor
   . rintro ((h|h)|⟨j,h1,h2⟩)
     . exact .inl h
     . exact .inr ⟨i,by simp,h⟩
     . exact .inr ⟨j,by simp[h1],h2⟩
   . rintro (h|⟨j,h1,h2⟩)
     . exact .inl (.inl h)
     . rcases List.mem_cons.mp h1 with rfl|h1
       . exact .inl (.inr h2)
       . exact .inr ⟨j,h1,h2⟩
theorem zps {n:Int}:∀ {l lev:List Int},(l.foldl (fun v (k:Int)=>v.set k.toNat n) lev).length=lev.length
 |[],lev=>rfl
 |k::l,lev=>by rw[List.foldl_cons,zps,List.length_set]
theorem z036 {n:Int} {j:Nat}:∀ {l lev:List Int},(∀ k∈l,0<=k/\k<lev.length)->(l.foldl (fun v (k:Int)=>v.set k.toNat n) lev).getD j 0=if (j:Int)∈l then n else lev.getD j 0
 |[],lev,_=>by simp
 | k::l,lev,h=>by
   have hk:=h k (by simp)
   rw[List.foldl_cons,z036 (fun u hu=>by rw[List.length_set];exact h u (by simp[hu])),z04e (by omega)]
   by_cases h1:(j:Int)∈l
   . rw[if_pos h1,if_pos (List.mem_cons_of_mem _ h1)]
   . by_cases h2:j=k.toNat
     . have hjk:(j:Int)=k:=by omega
       rw[if_neg h1,if_pos h2,if_pos (by rw[hjk];exact List.mem_cons_self ..)]
     . rw[if_neg h1,if_neg h2,if_neg]
       intro h3
       rcases List.mem_cons.mp h3 with h3|h3
       . omega
       . exact h1 h3
theorem z05o {s:TSk} {ds:List z0b} {lev:List Int} {n:Int}:((List.range lev.length).foldl (zr1 s ds lev) []).foldl (fun v (k:Int)=>v.set k.toNat n) lev=zdc s ds n lev:=by
 have hm:∀ k∈(List.range lev.length).foldl (zr1 s ds lev) [],0<=k/\k<lev.length:=by
  intro k hk
  rw[zim]at hk
  rcases hk with hk|⟨i,hi,rfl,_⟩
  . simp at hk
  . have:=List.mem_range.mp hi;omega
 refine z042 (d:=0) (by rw[zps,zar]) fun j hj=>?_
 rw[zps]at hj
 rw[z036 hm,z6r hj]
 by_cases h:zel s ds lev j=true
 . rw[if_pos h,if_pos (by rw[zim];exact .inr ⟨j,by simpa using hj,rfl,h⟩)]
 . rw[if_neg h,if_neg]
   rw[zim]
   rintro (h'|⟨i,hi,he,hc⟩)
   . simp at h'
   . obtain rfl:j=i:=by omega
     exact h hc
theorem zo6 {s:TSk} {ds:List z0b} (h1:vSk s=true) (h2:z4b s.1.1 ds=true):ze8 s ds (zu9 s ds):=zyj _ _ _ (by
 unfold zoi
 obtain⟨hds,hdo⟩:=zi3 h2
 obtain⟨hv,hts⟩:=z5y h1
 have hfl:=z4k hv
 refine z0x s.1.2.1.length (fun i=>((i:Int),((zuv s).take i,((s.1.2.1.take i).map (z4c s ds),())))) (by simp) ?_ ?_
 . intro i hi X hX
   have hr:=zpn (z6o hv (List.getElem_mem hi))
   have hi0:i<(zuv s).length:=by simp[zuv,hi]
   have e0:(zuv s)[i]=if srcI s i then 0 else -1:=by have:=ziv hi;rw[z1a hi0]at this;exact this
   rw[z07 hi0,z07 hi,List.map_append,e0]at hX
   have e1:srcI s i=(s.1.1.getD (Int.toNat s.1.2.1[i].1) zj4).2.2.1:=by unfold srcI;rw[z1a hi];rfl
   have hl0:((zuv s).take i).length=i:=by rw[List.length_take];omega
   have hl1:((s.1.2.1.take i).map (z4c s ds)).length=i:=by rw[List.length_map,List.length_take];omega
   refine z0g fun _=>bcI hi (inI hi ?_)
   simp only
   rw[z1m hi,z02 (by omega)]
   refine⟨⟨hr.1,hr.2⟩,?_⟩
   rw[<-e1]
   refine z1e (fun h=>⟨by simp only[z0v,List.length_cons,List.length_nil];omega,inI hi ⟨_,zet,by simp only[z0v,List.length_cons,List.length_nil];omega,?_⟩⟩) (fun h=>⟨by simp only[z0v,List.length_cons,List.length_nil];omega,inI hi ⟨_,zet,by simp only[z0v,List.length_cons,List.length_nil];omega,?_⟩⟩)
   . rw[h]at hX;exact hX
   . rw[h]at hX;exact hX
 . intro X
   refine z0g fun _=>bcN ?_
   have e0:(zuv s).take s.1.2.1.length=zuv s:=List.take_of_length_le (by simp[zuv])
   simp only
   rw[e0,List.take_length]
   refine z0x s.1.2.1.length (fun k=>(((k+1:Nat):Int),(zdb s ds k,()))) rfl ?_ ?_
   . intro k hk Y hY
     have hkl:=z5u s ds k
     refine z0g fun _=>z09 (fun _=>?_) (fun h=>by simp only at h;omega)
     have hge:=fun {i} (hi:i<s.1.2.1.length)=>zwz (s:=s) (ds:=ds) k hi
     rw[zdb,<-z05o]at hY
     simp only
     generalize zdb s ds k=lev at hY hkl hge ⊢
     rw[hkl]
     rw[hkl]at hY
     have hN:s.1.2.1.length<=30:=hfl
     refine zl3 s.1.2.1.length (zr1 s ds lev) [] (fun i o=>((i:Int),(o,()))) List.length 135000 30 hN (fun o i _=>z083 s ds lev o i) ?_ ?_
     . intro i hi o Z ho hZ
       refine z0g fun _=>bcI hi ?_
       have hil:i<((s.1.2.1).map (z4c s ds)).length:=by rw[List.length_map];exact hi
       have eil:((s.1.2.1).map (z4c s ds))[i]=z4c s ds s.1.2.1[i]:=by simp
       have hfg:s.1.2.1.getD i z0h=s.1.2.1[i]:=z1a hi
       unfold zr1 at hZ
       rw[hfg]at hZ
       have hdl:=znz s ds s.1.2.1[i]
       simp only[List.length_nil]at ho
       by_cases hneg:lev.getD i 0<0
       . rw [if_pos hneg]at hZ
         refine z1g (z4c s ds s.1.2.1[i]) (zz0 s ds lev i) o (fun j o=>((j:Int),(o,()))) List.length 1 135000 hdl (fun o t _=>zzi s ds lev i o t) ?_ ?_
         . intro j hj o' W ho' hW
           refine inI hil ?_
           simp only
           rw[z1m hil,eil]
           refine z0g fun _=>bcI hj ⟨⟨by omega,by omega⟩,?_⟩
           rw[Int.toNat_natCast]
           refine z09 (fun _=>inI hil (inI hj ?_)) (fun h=>absurd hneg h)
           rw[z1m hj,z02 (by omega)]
           obtain⟨n,hn,b,hb,et⟩:=zu5 (List.getElem_mem hj)
           have ek:knS s ds lev (z4c s ds s.1.2.1[i])[j]=zns s.1.2.1 lev ds[n] b:=by
            unfold knS
            rw[et]
            simp only[Int.toNat_natCast]
            rw[z1a hn]
           unfold zz0 at hW
           rw[ek]at hW
           rw[et]
           refine⟨_,z01r hkl hn (hdo _ (List.getElem_mem hn)) hb,z1e (fun h=>⟨by simp only[z0v,List.length_cons,List.length_nil];omega,?_⟩) (fun h=>?_)⟩
           . rw[h]at hW;exact hW
           . rw[h]at hW;exact hW
         . intro W _
           refine inI hil ?_
           simp only
           rw[z1m hil,eil]
           refine z0g fun _=>bcN ?_
           rw[z02 (by omega)]
           exact hZ
       . rw[if_neg hneg]at hZ
         refine⟨1,inI hil ?_⟩
         simp only
         rw[z1m hil,eil]
         refine z0g fun _=>?_
         have out:Z (w64 ((i:Int)+1),(o,())):=by rw[z02 (by omega)];exact hZ
         refine z09 (fun _=>⟨⟨by omega,by omega⟩,?_⟩) (fun _=>out)
         rw[Int.toNat_natCast]
         exact z09 (fun h=>absurd h hneg) (fun _=>out)
     . intro Z hlenm
       refine z0g fun _=>bcN ?_
       have hm:∀ k∈(List.range s.1.2.1.length).foldl (zr1 s ds lev) [],0<=k/\k<s.1.2.1.length:=by
        intro k hk
        rw[zim]at hk
        rcases hk with hk|⟨i,hi,rfl,_⟩
        . simp at hk
        . have:=List.mem_range.mp hi;omega
       simp only[List.length_nil]at hlenm
       simp only
       generalize (List.range s.1.2.1.length).foldl (zr1 s ds lev) []=more at hm hlenm hY ⊢
       refine zbg more (fun v (q:Int)=>v.set q.toNat ((k+1:Nat):Int)) lev (fun j v=>((j:Int),(v,()))) ?_ ?_
       . intro j hj W hW
         have hml:=hm _ (List.getElem_mem hj)
         have hsl:=zps (n:=((k+1:Nat):Int)) (l:=more.take j) (lev:=lev)
         refine z0g fun _=>bcI hj (inI hj ?_)
         simp only
         rw[z1m hj,z02 (by omega)]
         exact⟨⟨hml.1,by omega⟩,hW⟩
       . intro W
         refine z0g fun _=>bcN ?_
         simp only
         rw[z02 (by omega)]
         exact hY
   . intro Y
     have hkl:=z5u s ds s.1.2.1.length
     exact z0g fun _=>z09 (fun h=>by simp only at h;omega) (fun _=>rfl))
def zv2 {α:Type} (l m:List α) (i:Nat):List α:=l.take i++m.drop i
theorem zx3 {α:Type} (l m:List α):zv2 l m 0=m:=by simp[zv2]
theorem z02i {α:Type} {l m:List α} (h:l.length=m.length):zv2 l m l.length=l:=by unfold zv2;rw[List.take_length,List.drop_eq_nil_of_le (by omega),List.append_nil]
theorem z00p {α:Type} {l m:List α} (h:l.length=m.length) {i:Nat} (hi:i<=l.length):(zv2 l m i).length=l.length:=by simp[zv2];omega
theorem zwn {α:Type} {l m:List α} {i:Nat} (hi:i<m.length):zv2 l m i=l.take i++m[i]::m.drop (i+1):=by unfold zv2;rw[z5e hi]
theorem z038 {α:Type} {l m:List α} {i:Nat} (hi:i<l.length):zv2 l m (i+1)=l.take i++l[i]::m.drop (i+1):=by unfold zv2;rw[z07 hi,List.append_assoc];rfl
theorem z02t {α:Type} {l m:List α} (h:l.length=m.length) {i:Nat} (hi:i<l.length):(zv2 l m i).set i l[i]=zv2 l m (i+1):=by
 have hl:(l.take i).length=i:=by rw[List.length_take];omega
 rw[zwn (by omega),z038 hi,List.set_append_right _ _ (by omega),hl,Nat.sub_self]
 rfl
theorem zxb {α:Type} {l m:List α} (h:l.length=m.length) {i:Nat} (hi:i<l.length) (he:l[i]=m[i]'(by omega)):zv2 l m i=zv2 l m (i+1):=by
 rw[zwn (by omega),z038 hi,he]
theorem z0fc {α:Type} {l m:List α} (h:l.length=m.length) {i:Nat} (hi:i<l.length) {d:α}:(zv2 l m i).getD i d=m[i]'(by omega):=by
 have hl:(l.take i).length=i:=by rw[List.length_take];omega
 rw[zwn (by omega),List.getD_eq_getElem?_getD,List.getElem?_append_right (by omega),hl,Nat.sub_self]
 rfl
def zvv (s:TSk) (ds:List z0b):List (List z00):=(List.range s.1.2.1.length).map fun i=>if srcI s i then[] else z4c s ds (s.1.2.1.getD i z0h)
theorem zxu {s:TSk} {ds:List z0b} {i:Nat} (hi:i<s.1.2.1.length) (h:i<(zvv s ds).length):(zvv s ds)[i]=if srcI s i then[] else z4c s ds s.1.2.1[i]:=by
 simp only[zvv,List.getElem_map,List.getElem_range]
 rw[z1a hi]
theorem zzx {s:TSk} {ds:List z0b} (h1:vSk s=true) (h2:z4b s.1.1 ds=true):zmd s ds (zu9 s ds):=z090 _ _ _ (by
 unfold zzf
 obtain⟨hds,hdo⟩:=zi3 h2
 obtain⟨hv,hts⟩:=z5y h1
 have hfl:=z4k hv
 have hN:(s.1.2.1.length:Int)<=z0v:=by simp only[z0v];omega
 have hz:0<=(s.1.2.1.length:Int)/\(s.1.2.1.length:Int)<=(s.1.2.1.length:Int)/\(s.1.2.1.length:Int)<=z0v:=⟨by omega,by omega,hN⟩
 have hl0:(zuv s).length=s.1.2.1.length:=by simp[zuv]
 have hls:(zvv s ds).length=s.1.2.1.length:=by simp[zvv]
 refine z0g fun _=>z0g fun _=>⟨⟨hz,trivial⟩,⟨hz,trivial⟩,hz,hz,z0g fun _=>?_⟩
 rw[Int.toNat_natCast]
 have hr1:(zuv s).length=(List.replicate s.1.2.1.length (0:Int)).length:=by rw[hl0,List.length_replicate]
 have hr2:(zvv s ds).length=(List.replicate s.1.2.1.length ([]:List z00)).length:=by rw[hls,List.length_replicate]
 refine z0x s.1.2.1.length (fun i=>((i:Int),(zv2 (zuv s) (List.replicate s.1.2.1.length (0:Int)) i,(zv2 (zvv s ds) (List.replicate s.1.2.1.length ([]:List z00)) i,())))) (by rw[zx3,zx3];rfl) ?_ ?_
 . intro i hi X hX
   have hr:=zpn (z6o hv (List.getElem_mem hi))
   have hi0:i<(zuv s).length:=by omega
   have his:i<(zvv s ds).length:=by omega
   have e0:(zuv s)[i]=if srcI s i then 0 else -1:=by have:=ziv hi;rw[z1a hi0]at this;exact this
   have e2:=zxu (ds:=ds) hi his
   have e1:srcI s i=(s.1.1.getD (Int.toNat s.1.2.1[i].1) zj4).2.2.1:=by unfold srcI;rw[z1a hi];rfl
   have hm1:=z00p hr1 (i:=i) (by omega)
   have hm2:=z00p hr2 (i:=i) (by omega)
   refine bcI hi (inI hi ?_)
   simp only
   rw[z1m hi,z02 (by omega)]
   refine⟨⟨hr.1,hr.2⟩,?_⟩
   rw[<-e1]
   refine z0u (fun h=>⟨⟨by omega,by omega⟩,_,zkf,⟨by omega,by omega⟩,?_⟩) (fun h=>?_)
   . rw[Int.toNat_natCast]
     rw[h]at e0 e2
     have s1:=z02t hr1 hi0
     have s2:=z02t hr2 his
     rw[e0]at s1
     rw[e2]at s2
     simp only[Bool.false_eq_true,if_false]at s1 s2
     rw[s1,s2]
     exact hX
   . rw[h]at e0 e2
     have s1:=zxb hr1 hi0 (by rw[e0];simp)
     have s2:=zxb hr2 his (by rw[e2];simp)
     rw[s1,s2]
     exact hX
 . intro X
   refine bcN ?_
   have ee1:=z02i hr1
   have ee2:=z02i hr2
   rw[hl0]at ee1
   rw[hls]at ee2
   simp only
   rw[ee1,ee2]
   refine z1i (fun d a=>∃ k:Nat,(a=(((k+1:Nat):Int),(true,(zdb s ds k,())))/\k+negs (zdb s ds k)<=s.1.2.1.length/\negs (zdb s ds k)+1<=d)\/(a=(((k+1:Nat):Int),(false,(zdb s ds k,())))/\zdb s ds k=zu9 s ds)) ?_ ?_ (n:=s.1.2.1.length+1) ⟨0,.inl ⟨rfl,by have:=z095 (zdb s ds 0);rw[z5u]at this;omega,by have:=z095 (zdb s ds 0);rw[z5u]at this;omega⟩⟩
   . rintro a ⟨k,⟨_,_,h⟩|⟨rfl,h⟩⟩ Y
     . omega
     . exact bcF (by rw[h])
   . rintro d a ⟨k,⟨rfl,hk,hd⟩|⟨rfl,h⟩⟩ Y hY
     . have hkl:=z5u s ds k
       have hge:=fun {i} (hi:i<s.1.2.1.length)=>zwz (s:=s) (ds:=ds) k hi
       have hsrc:=fun {i} (hi:i<s.1.2.1.length)=>z03z (s:=s) (ds:=ds) k hi
       have next:Y (((k+1+1:Nat):Int),((List.range s.1.2.1.length).any (zel s ds (zdb s ds k)),(zdb s ds (k+1),()))):=by
        refine hY _ ⟨k+1,?_⟩
        cases hc:(List.range s.1.2.1.length).any (zel s ds (zdb s ds k))with
        | true=>
          obtain⟨i,hi,hci⟩:=List.any_eq_true.mp hc
          have:=z0e9 (s:=s) (ds:=ds) (n:=((k+1:Nat):Int)) (by omega) (lev:=zdb s ds k) (i:=i) (by rw[hkl];simpa using hi) hci
          rw[show zdc s ds ((k+1:Nat):Int) (zdb s ds k)=zdb s ds (k+1)from rfl]at this
          exact .inl ⟨rfl,by omega,by omega⟩
        | false=>
          have hst:z0ab s ds (zdb s ds k):=fun i hi=>by
           rw[Bool.eq_false_iff];intro h
           have:=List.any_eq_true.mpr ⟨i,List.mem_range.mpr (by rw[hkl]at hi;exact hi),h⟩
           rw[hc]at this;cases this
          refine .inr ⟨rfl,?_⟩
          rw[znn hst 1]
          obtain⟨m,hm⟩:∃ m,s.1.2.1.length=k+m:=⟨s.1.2.1.length - k,by omega⟩
          unfold zu9
          rw[hm,znn hst m]
       rw[zdb]at next
       refine bcT ⟨_,z2f (by simp only;omega),z0g fun _=>?_⟩
       simp only
       generalize zdb s ds k=lev at hkl hge hsrc next ⊢
       have hrl:=zar s ds ((k+1:Nat):Int) lev
       refine z0x s.1.2.1.length (fun i=>((List.range i).any (zel s ds lev),((i:Int),(zv2 (zdc s ds ((k+1:Nat):Int) lev) lev i,())))) (by rw[zx3];rfl) ?_ ?_
       . intro i hi Z hZ
         have hir:i<(zdc s ds ((k+1:Nat):Int) lev).length:=by omega
         have hil:i<lev.length:=by omega
         have hml:=z00p hrl (i:=i) (by omega)
         have eg:(zv2 (zdc s ds ((k+1:Nat):Int) lev) lev i).getD i 0=lev[i]:=z0fc hrl hir
         have er:(zdc s ds ((k+1:Nat):Int) lev)[i]=if zel s ds lev i then((k+1:Nat):Int)else lev[i]:=by
          have:=z6r (s:=s) (ds:=ds) (n:=((k+1:Nat):Int)) hil
          rw[z1a hir,z1a hil]at this;exact this
         have g0:=hge hi
         rw[z1a hil]at g0
         have hsr:=hsrc hi
         rw[z1a hil]at hsr
         rw[List.range_succ,List.any_append]at hZ
         simp only[List.any_cons,List.any_nil,Bool.or_false]at hZ
         refine bcI hi ⟨⟨by simp only;omega,by simp only;omega⟩,?_⟩
         simp only
         rw[Int.toNat_natCast,eg,z02 (by omega)]
         have no:zel s ds lev i=false->Z ((List.range i).any (zel s ds lev),(((i+1:Nat):Int),(zv2 (zdc s ds ((k+1:Nat):Int) lev) lev i,()))):=by
          intro h
          rw[h,Bool.or_false]at hZ
          rw[h]at er
          rw[zxb hrl hir (by rw[er];simp)]
          exact hZ
         have hc:zel s ds lev i=(decide (lev[i]<0)&&knF s ds lev i):=by unfold zel;rw[z1a hil]
         refine z3t (fun h=>?_) (fun h=>no (by rw[hc,decide_eq_false (by omega),Bool.false_and]))
         have his:i<(zvv s ds).length:=by omega
         have e2:=zxu (ds:=ds) hi his
         rw[hsr (by omega)]at e2
         simp only[Bool.false_eq_true,if_false]at e2
         refine⟨⟨by omega,by omega⟩,?_⟩
         rw[z1a his,e2]
         refine⟨_,z5x (x1:=(s.1.2.1,(lev,(ds,())))) (knS s ds lev) (fun t ht=>?_),?_⟩
         . obtain⟨n,hn,b,hb,rfl⟩:=zu5 ht
           refine z031 _ _ _ _ _ ⟨_,z00i hfl (zlo hv) hkl (fun j hj=>hge hj) hn (hdo _ (List.getElem_mem hn)) hb,?_⟩
           unfold knS
           simp only[Int.toNat_natCast]
           rw[z1a hn]
         . have hkf:knF s ds lev i=(z4c s ds s.1.2.1[i]).any (knS s ds lev):=by unfold knF;rw[z1a hi]
           rw[<-hkf]
           refine z1e (fun h3=>⟨⟨by omega,by omega⟩,?_⟩) (fun h3=>no (by rw[hc,h3,Bool.and_false]))
           have hct:zel s ds lev i=true:=by rw[hc,h3,decide_eq_true (by omega)];rfl
           rw[hct,Bool.or_true]at hZ
           rw[hct]at er
           simp only[if_true]at er
           have s1:=z02t hrl hir
           rw[er]at s1
           rw[s1]
           exact hZ
       . intro Z
         refine bcN ?_
         have ee:=z02i hrl
         rw[hrl,hkl]at ee
         simp only
         rw[ee,z02 (by omega)]
         exact next
     . exact bcF (by rw[h]))
def lvl (s:TSk) (ds:List z0b) (f:z00):Int:=if vSk s&&(z4b s.1.1 ds&&decide (f∈s.1.2.1))then(zu9 s ds).getD (place s.1.2.1 f).toNat 0 else -1
theorem zuo {s:TSk} {ds:List z0b} {f:z00} (h:(vSk s&&(z4b s.1.1 ds&&decide (f∈s.1.2.1)))=false):(((-1:Int),()):Int×Unit)=(lvl s ds f,()):=by unfold lvl;rw[h];rfl
def zz1 (s:TSk) (ds:List z0b):Bool:=vSk s&&(z4b s.1.1 ds && !(zu9 s ds).any fun x=>decide (x<0))
theorem zdt {s:TSk} {ds:List z0b} {f:z00}:z6z s ds f (lvl s ds f):=zm3 _ _ _ _ (by
 unfold ze3
 refine⟨place s.1.2.1 f,z5n (fun t=>decide (t=f)) (fun t _=>zjo _ _ _ ⟨_,zgi,rfl⟩),?_⟩
 by_cases hm:f∈s.1.2.1
 . obtain⟨p,e,hp,_⟩:=zgm hm
   rw[e]
   refine z09 (fun h=>by omega) (fun _=>⟨_,z3k,z0u (fun h=>zuo (by rw[h];rfl)) (fun h1=>⟨_,zg8,z0u (fun h=>zuo (by rw[h];simp)) (fun h2=>⟨_,zzx h1 h2,?_⟩)⟩)⟩)
   have hl:(zu9 s ds).length=s.1.2.1.length:=z5u s ds _
   refine⟨⟨by omega,by omega⟩,?_⟩
   unfold lvl
   rw[h1,h2,decide_eq_true hm,e];rfl
 . rw[zyc hm]
   exact z09 (fun _=>zuo (by rw[decide_eq_false hm];simp)) (fun h=>by omega))
theorem zn2 {s:TSk} {ds:List z0b} {f:z00}:za9 s ds f (lvl s ds f):=zm2 _ _ _ _ (by
 unfold zed
 refine⟨_,z4i,z0u (fun h=>zuo (by rw[h];rfl)) (fun h1=>⟨_,zge,z0u (fun h=>zuo (by rw[h];simp)) (fun h2=>⟨_,z7k,?_⟩)⟩)⟩
 rw[(z5y h1).1,Bool.true_and]
 refine z0u (fun h=>zuo (by rw[h];simp)) (fun h3=>⟨_,zo6 h1 h2,_,zfs,?_⟩)
 have hm:f∈s.1.2.1:=by simpa using h3
 obtain⟨p,e,hp,_⟩:=zgm hm
 have hl:(zu9 s ds).length=s.1.2.1.length:=z5u s ds _
 have e2:lvl s ds f=(zu9 s ds).getD (place s.1.2.1 f).toNat 0:=by unfold lvl;rw[h1,h2,h3];rfl
 rw[e2,e]
 exact⟨⟨by omega,by omega⟩,rfl⟩)
theorem zos {s:TSk} {ds:List z0b}:zbw s ds (zz1 s ds):=zpd _ _ _ (by
 unfold zhc
 refine⟨_,z3k,z1e (fun h1=>⟨_,zg8,z1e (fun h2=>⟨_,zzx h1 h2,_,z3n,?_⟩) (fun h=>by unfold zz1;rw[h];simp)⟩) (fun h=>by unfold zz1;rw[h];rfl)⟩
 unfold zz1
 rw[h1,h2,Bool.true_and,Bool.true_and]
 have:decide ((-1:Int)∈zu9 s ds)=(zu9 s ds).any fun x=>decide (x<0):=by
  rw[<-zcy]
  rw[Bool.eq_iff_iff,List.any_eq_true,List.any_eq_true]
  constructor
  . rintro⟨x,hx,h⟩
    have h:x = -1:=by simpa using h
    exact⟨x,hx,by simp[h]⟩
  . rintro⟨x,hx,h⟩
    have h:x<0:=by simpa using h
    obtain⟨i,hi,rfl⟩:=List.mem_iff_getElem.mp hx
    have hl:(zu9 s ds).length=s.1.2.1.length:=z5u s ds _
    have:=zwz (s:=s) (ds:=ds) s.1.2.1.length (i:=i) (by omega)
    rw[show zdb s ds s.1.2.1.length=zu9 s ds from rfl,z1a hi]at this
    exact⟨_,hx,by simp;omega⟩
 rw[this])
theorem zp4 {s:TSk} {ds:List z0b}:zbz s ds (zz1 s ds):=zp0 _ _ _ (by
 unfold zh1
 refine⟨_,z4i,z0u (fun h=>by unfold zz1;rw[h];rfl) (fun h1=>⟨_,zge,z0u (fun h=>by unfold zz1;rw[h];simp) (fun h2=>⟨_,zo6 h1 h2,?_⟩)⟩)⟩
 unfold zz1
 rw[h1,h2,Bool.true_and,Bool.true_and]
 have hl:(zu9 s ds).length=s.1.2.1.length:=z5u s ds _
 have hfl:=z4k (z5y h1).1
 refine z71 (zu9 s ds) (fun x=>decide (x<0)) (fun i=>((i:Int),())) (KT:=((false,()):Bool×Unit)=(!((zu9 s ds).any fun x=>decide (x<0)),())) (KF:=((true,()):Bool×Unit)=(!((zu9 s ds).any fun x=>decide (x<0)),())) ?_ ?_ (fun h=>by rw[h];rfl) (fun h=>by rw[h];rfl)
 . intro i hi X g1 g2
   refine z0g fun _=>bcI hi (inI hi ?_)
   simp only
   rw[z1m hi,z02 (by omega)]
   exact z09 (fun h=>g1 (by simpa using h)) (fun h=>g2 (by simpa using h))
 . intro X h
   exact z0g fun _=>bcN h)
theorem z02e {f:z00}:∀ {l:List z00},f∈l->f.2.1.length<=(l.flatMap (·.2.1)).length
 | a::l,h=>by
   rw[List.flatMap_cons,List.length_append]
   rcases List.mem_cons.mp h with rfl|h
   . omega
   . have:=z02e h;omega
theorem zsp {x:z0e} (h:z3a x=true) {f:z00} (hf:f∈x.2.1):f.2.1.length<=1099511627776:=by
 have:=znq h
 have:=z02e hf
 omega
theorem z044 {s:TSk} (h:vSk s=true) {i:Nat} (hi:i<s.2.1.length):s.2.1[i].2.2.1.length<=5:=by
 have:=z07x (z5g h).2.2 hi
 unfold z8u at this
 rw[z6p hi]at this
 simp only[Bool.and_eq_true,decide_eq_true_eq]at this
 exact this.1.1.2
theorem zb7 {x:z0e} (h1:x.1.length<=1099511627776) (hl:x.2.1.length<=1073741824) (h:∀ f∈x.2.1,f.2.1.length<=1099511627776):zbu x x:=z0a7 _ _ (by
 unfold zyz
 refine⟨by simp only[z0v,List.length_nil];omega,?_⟩
 rw[List.nil_append]
 refine zln x.2.1 (fun i s=>((i:Int),((x.1,(s,())),()))) hl ?_ ?_
 . intro i hi s X hs hX
   refine z0g fun _=>bcI hi (inI hi ⟨x.2.1[i],?_,⟨by simp only[z0v,List.length_cons,List.length_nil];omega,?_⟩⟩)
   . simp only;rw[z1m hi];exact zry (h _ (List.getElem_mem hi))
   . simp only;rw[z02 (by omega)];exact hX
 . intro X;exact z0g fun _=>bcN rfl)
structure SmS (s:TSk):Prop where
 rels:s.1.1.length<=1048576
 few:s.1.2.1.length<=1048576
 row:∀ f∈s.1.2.1,f.2.1.length<=1048576
 terms:s.2.1.length<=1048576
 args:∀ t∈s.2.1,t.2.2.1.length<=1048576
theorem SmS.of {s:TSk} (h:vSk s=true):SmS s:=by
 have hi:=z5y h
 have hr:=zfp (zfo hi.1)
 have hf:=z4k hi.1
 refine⟨by omega,by omega,fun f hm=>?_,by omega,fun t ht=>?_⟩
 . have h1:=znq hi.1
   have h2:=z02e hm
   omega
 . obtain⟨i,hi,rfl⟩:=List.mem_iff_getElem.mp ht
   have:=z044 h hi
   omega
theorem zz2 {s:TSk} (h:SmS s):zfh s s:=z050 _ _ (by
 unfold zub
 have h1:=h.rels
 have h2:=h.few
 have h3:=h.terms
 refine⟨s.1,zb7 (by omega) (by omega) (fun f hf=>by have:=h.row f hf;omega),?_⟩
 refine zln s.2.1 (fun i t=>((i:Int),(((s.1.1,(s.1.2.1,s.1.2.2)),(t,())),()))) (by omega) ?_ ?_
 . intro i hi t X hs hX
   have ha:=h.args _ (List.getElem_mem hi)
   refine z0g fun _=>bcI hi (inI hi (inI hi (inI hi ?_)))
   simp only
   rw[z1m hi,z02 (by omega),List.nil_append]
   exact⟨by simp only[z0v,List.length_nil];omega,by simp only[z0v,List.length_cons,List.length_nil];omega,hX⟩
 . intro X;exact z0g fun _=>bcN rfl)
theorem z01x {t:z08} (h:t.2.2.1.length<=1099511627776):zlb t t:=z00y _ _ (by
 unfold zs4
 exact⟨_,z2f h,rfl⟩)
theorem zsc {x:z0e} (h1:x.1.length<=1099511627776) (hl:x.2.1.length<=1073741824) (h:∀ f∈x.2.1,f.2.1.length<=1099511627776):zd7 x x:=zqp _ _ (by
 unfold zir
 exact⟨_,zfx h1,_,zol hl h,rfl⟩)
theorem zk6 {s:TSk} (h:SmS s):z44 s s:=zzb _ _ (by
 unfold zoa
 have h1:=h.rels
 have h2:=h.few
 have h3:=h.terms
 refine⟨s.1,zsc (by omega) (by omega) (fun f hf=>by have:=h.row f hf;omega),z0g fun _=>?_⟩
 refine zln s.2.1 (fun i t=>((i:Int),(((s.1.1,(s.1.2.1,s.1.2.2)),(t,())),()))) (by omega) ?_ ?_
 . intro i hi t X hs hX
   have ha:=h.args _ (List.getElem_mem hi)
   refine bcI hi (inI hi ⟨s.2.1[i],?_,⟨by simp only[z0v,List.length_cons,List.length_nil];omega,?_⟩⟩)
   . simp only;rw[z1m hi];exact z01x (by omega)
   . simp only;rw[z02 (by omega)];exact hX
 . intro X;exact bcN rfl)
theorem zxw {s:TSk} (h:vSk s=true):z44 s s:=zk6 (.of h)
def delR (l:List z00) (f:z00):List z00:=l.filter fun t=>!decide (t=f)
theorem z0dr {l:List z00} (ha:asc l) {i j:Nat} (hi:i<l.length) (hj:j<l.length) (h:i≠j):l[i]≠l[j]:=by
 intro e
 rcases Nat.lt_or_ge i j with h'|h'
 . have:=ha i j hj h';rw[cmpF_zero.mpr e]at this;omega
 . have:=ha j i hi (by omega);rw[cmpF_zero.mpr e.symm]at this;omega
theorem z0gp {l:List z00} (ha:asc l) {p:Nat} (hp:p<l.length):l.take p++l.drop (p+1)=delR l l[p]:=by
 have e:delR l l[p]=delR (l.take p++l[p]::l.drop (p+1)) l[p]:=by rw[<-z5e hp,List.take_append_drop]
 rw[e]
 unfold delR
 rw[List.filter_append,List.filter_cons,decide_eq_true rfl]
 simp only[Bool.not_true,Bool.false_eq_true,if_false]
 rw[List.filter_eq_self.mpr,List.filter_eq_self.mpr]
 . intro a hm
   obtain⟨i,hi,rfl⟩:=List.mem_iff_getElem.mp hm
   rw[List.length_drop]at hi
   rw[List.getElem_drop]
   have:=z0dr ha (i:=p+1+i) (j:=p) (by omega) hp (by omega)
   simp[this]
 . intro a hm
   obtain⟨i,hi,rfl⟩:=List.mem_iff_getElem.mp hm
   rw[List.length_take]at hi
   rw[List.getElem_take]
   have:=z0dr ha (i:=i) (j:=p) (by omega) hp (by omega)
   simp[this]
def delI (x:z0e) (f:z00):z0e:=(x.1,(delR x.2.1 f,()))
theorem zq4 {x:z0e} {f:z00}:zd2 x f (z3a x&&decide (f∈x.2.1)):=zrq _ _ _ (by
 unfold zho
 refine⟨_,z72,z1e (fun h=>⟨_,ziy,by rw[h];rfl⟩) (fun h=>by rw[h];rfl)⟩)
theorem zvq {x:z0e} {f:z00} (h:z3a x=true) (hf:f∈x.2.1):z5q x f (delI x f) true:=zm5 _ _ _ _ (by
 unfold zg6
 have hr:=zfp (zfo h)
 have hl:=z4k h
 refine⟨_,zb7 (by omega) (by omega) (fun f hf=>zsp h hf),_,z7k,?_⟩
 rw[h,decide_eq_true hf]
 obtain⟨p,e,hp,hpf⟩:=zgm hf
 have ed:=z0gp (zlo h) hp
 rw[hpf]at ed
 refine⟨_,zfs,?_⟩
 simp only
 rw[e,z02 (by omega)]
 simp only[Int.toNat_natCast,Int.toNat_zero,Nat.sub_zero,List.drop_zero,List.nil_append]
 have e2:(x.2.1.drop (p+1)).take (x.2.1.length - (p+1))=x.2.1.drop (p+1):=List.take_of_length_le (by rw[List.length_drop];exact Nat.le_refl _)
 rw[e2,ed]
 refine⟨⟨by omega,by omega,by omega,by omega⟩,⟨by omega,by omega,by omega,by omega⟩,?_,?_,rfl⟩
 . simp only[z0v,List.length_take,List.length_nil];omega
 . simp only[z0v,List.length_take,List.length_drop];omega)
theorem z0ga {s:TSk} {ds:List z0b} {f:z00} (h:¬ lvl s ds f<0):vSk s=true/\z4b s.1.1 ds=true/\f∈s.1.2.1:=by
 unfold lvl at h
 by_cases h':(vSk s&&(z4b s.1.1 ds&&decide (f∈s.1.2.1)))=true
 . simp only[Bool.and_eq_true,decide_eq_true_eq]at h';exact⟨h'.1,h'.2.1,h'.2.2⟩
 . rw[if_neg h']at h;omega
def iAt (l:List Int) (i:Nat):Int:=l.getD i 0
theorem z0ep {l:List Int} {i:Nat} (h:i<l.length):iAt l i=l[i]:=z1a h
theorem zzl:∀ {x y:List Int},zjc y x = - zjc x y
 |[],[]=>rfl
 |[],b::y=>rfl
 |a::x,[]=>rfl
 | a::x,b::y=>by
   simp only[zjc]
   have:=zzl (x:=x) (y:=y)
   split<;>split<;>first|omega|(rw[this])|skip
theorem z9r {x y:z00}:z8b y x = - z8b x y:=by
 unfold z8b
 have:=zzl (x:=x.2.1) (y:=y.2.1)
 split<;>split<;>first|omega|(rw[this])|skip
theorem asc_pw {l:List z00}:asc l↔l.Pairwise fun a b=>z8b a b<0:=by
 rw[List.pairwise_iff_getElem]
 exact⟨fun h i j hi hj hij=>h i j hj hij,fun h i j hj hij=>h i j (by omega) hj hij⟩
theorem z0dc:∀ {a b:List z00},(a.Pairwise fun a b=>z8b a b<0)->(b.Pairwise fun a b=>z8b a b<0)->(∀ y,y∈a↔y∈b)->a=b
 |[],[],_,_,_=>rfl
 |[],b::m,_,_,h=>absurd ((h b).mpr (by simp)) (by simp)
 |a::l,[],_,_,h=>absurd ((h a).mp (by simp)) (by simp)
 | a::l,b::m,h1,h2,h=>by
   rw[List.pairwise_cons]at h1 h2
   have hab:a=b:=by
    have ha:=(h a).mp (by simp)
    have hb:=(h b).mpr (by simp)
    rcases List.mem_cons.mp ha with e|ha
    . exact e
    . rcases List.mem_cons.mp hb with e|hb
      . exact e.symm
      . have q1:=h2.1 a ha
        have q2:=h1.1 b hb
        rw[z9r]at q1
        omega
   subst hab
   congr 1
   refine z0dc h1.2 h2.2 fun y=>⟨fun hy=>?_,fun hy=>?_⟩
   . rcases List.mem_cons.mp ((h y).mp (by simp[hy]))with e|h'
     . subst e;have:=h1.1 y hy;rw[cmpF_zero.mpr rfl]at this;omega
     . exact h'
   . rcases List.mem_cons.mp ((h y).mpr (by simp[hy]))with e|h'
     . subst e;have:=h2.1 y hy;rw[cmpF_zero.mpr rfl]at this;omega
     . exact h'
theorem z0ej {a b:List z00} (h1:asc a) (h2:asc b) (h:∀ y,y∈a↔y∈b):a=b:=z0dc (asc_pw.mp h1) (asc_pw.mp h2) h
def zvf (l:List z00) (f:z00):Nat:=z03 (fun t=>!decide (z8b t f<0)) l
def zo2 (l:List z00) (f:z00):List z00:=if f∈l then l else l.take (zvf l f)++f::l.drop (zvf l f)
theorem putF_mem {l:List z00} {f y:z00}:y∈zo2 l f↔y∈l\/y=f:=by
 unfold zo2
 split
 . rename_i h
   exact⟨.inl,fun h'=>h'.elim id fun e=>e ▸ h⟩
 . have:y∈l↔y∈l.take (zvf l f)\/y∈l.drop (zvf l f):=by rw[<-List.mem_append,List.take_append_drop]
   rw[this,List.mem_append,List.mem_cons]
   constructor
   . rintro (h|h|h)
     . exact .inl (.inl h)
     . exact .inr h
     . exact .inl (.inr h)
   . rintro ((h|h)|h)
     . exact .inl h
     . exact .inr (.inr h)
     . exact .inr (.inl h)
theorem z046 {l:List z00} {f:z00}:(zo2 l f).length<=l.length+1:=by
 unfold zo2
 split
 . omega
 . simp only[List.length_append,List.length_cons,List.length_take,List.length_drop];omega
theorem z0bq {l:List z00} {f:z00} (h:asc l):asc (zo2 l f):=by
 unfold zo2
 split
 . exact h
 rename_i hn
 have hp:=asc_pw.mp h
 rw[asc_pw]
 have e:l=l.take (zvf l f)++l.drop (zvf l f):=(List.take_append_drop _ _).symm
 rw[e]at hp
 rw[List.pairwise_append]at hp ⊢
 have h1:∀ a∈l.take (zvf l f),z8b a f<0:=by
  intro a ha
  obtain⟨i,hi,rfl⟩:=List.mem_iff_getElem.mp ha
  rw[List.length_take]at hi
  have:=z9g (p:=fun t=>!decide (z8b t f<0)) (l:=l) (i:=i) (by omega) (show i<zvf l f by omega)
  rw[List.getElem_take]
  simpa using this
 have h2:∀ a∈l.drop (zvf l f),z8b f a<0:=by
  intro a ha
  have hin:zvf l f<l.length:=by
   rcases Nat.lt_or_ge (zvf l f) l.length with h'|h'
   . exact h'
   . rw[List.drop_of_length_le h']at ha;simp at ha
  have h3:z8b f l[zvf l f]<0:=by
   have h4:=z9c (p:=fun t=>!decide (z8b t f<0)) (l:=l) hin
   have h4:¬ z8b l[zvf l f] f<0:=by have h4:(!decide (z8b l[zvf l f] f<0))=true:=h4;simpa using h4
   have h5:z8b l[zvf l f] f≠0:=fun e=>hn ((cmpF_zero.mp e) ▸ List.getElem_mem hin)
   rw[z9r];omega
  obtain⟨i,hi,rfl⟩:=List.mem_iff_getElem.mp ha
  rw[List.getElem_drop]
  rcases Nat.eq_zero_or_pos i with rfl|h0
  . simpa using h3
  . rw[List.length_drop]at hi
    exact zaq h3 (h _ _ (by omega) (by omega))
 refine⟨hp.1,List.pairwise_cons.mpr ⟨h2,hp.2.1⟩,fun a ha b hb=>?_⟩
 rcases List.mem_cons.mp hb with rfl|hb
 . exact h1 a ha
 . exact hp.2.2 a ha b hb
def zpo (l:List z00):List z00:=l.foldl zo2 []
theorem zro:∀ {l m:List z00},asc m->asc (l.foldl zo2 m)
 |[],m,h=>h
 |a::l,m,h=>zro (l:=l) (z0bq h)
theorem zqr:∀ {l m:List z00} {y:z00},y∈l.foldl zo2 m↔y∈m\/y∈l
 |[],m,y=>by simp
 | a::l,m,y=>by
   rw[List.foldl_cons,zqr (l:=l),putF_mem,List.mem_cons]
   constructor
   . rintro ((h|h)|h)
     . exact .inl h
     . exact .inr (.inl h)
     . exact .inr (.inr h)
   . rintro (h|h|h)
     . exact .inl (.inl h)
     . exact .inl (.inr h)
     . exact .inr h
theorem zr4:∀ {l m:List z00},(l.foldl zo2 m).length<=m.length+l.length
 |[],m=>by simp
 | a::l,m=>by
   have:=zr4 (l:=l) (m:=zo2 m a)
   have:=z046 (l:=m) (f:=a)
   rw[List.foldl_cons,List.length_cons];omega
theorem z09y:asc []:=fun i j hj _=>by simp at hj
theorem z04a (l:List z00):asc (zpo l):=zro z09y
theorem facS_mem {l:List z00} {y:z00}:y∈zpo l↔y∈l:=by unfold zpo;rw[zqr];simp
theorem z07f {a l:List z00} (h1:asc a) (h2:∀ y,y∈a↔y∈l):a=zpo l:=z0ej h1 (z04a l) fun y=>by rw[h2,facS_mem]
theorem z04g {l m:List z00} (h:asc l):m.foldl zo2 l=zpo (l++m):=z07f (zro h) fun y=>by rw[zqr,List.mem_append]
theorem zwp {l:List z00}:(zpo l).length<=l.length:=by have:=zr4 (l:=l) (m:=[]);simpa [zpo]using this
def ddF (l:List z00):Nat->List z00
 |0=>[]
 |n+1=>if n=0\/zds l n≠zds l (n - 1)then ddF l n++[zds l n] else ddF l n
theorem z08n {l:List z00} (hs:l.Pairwise fun a b=>z8b a b<=0):∀ {n:Nat},n<=l.length->asc (ddF l n)/\∀ y,y∈ddF l n↔y∈l.take n
 |0,_=>⟨z09y,fun y=>by simp[ddF]⟩
 | n+1,h=>by
   obtain⟨h1,h2⟩:=z08n hs (n:=n) (by omega)
   have hn:n<l.length:=by omega
   unfold ddF
   rw[z07 hn,z2p hn]
   have hle:∀ i j (hj:j<l.length) (hij:i<j),z8b (l[i]'(by omega)) l[j]<=0:=fun i j hj hij=>List.pairwise_iff_getElem.mp hs i j (by omega) hj hij
   split
   . rename_i hc
     refine⟨?_,fun y=>by rw[List.mem_append,List.mem_append,h2]⟩
     rw[asc_pw,List.pairwise_append]
     refine⟨asc_pw.mp h1,by simp,fun a ha b hb=>?_⟩
     obtain rfl:b=l[n]:=by simpa using hb
     obtain⟨i,hi,rfl⟩:=List.mem_iff_getElem.mp ((h2 a).mp ha)
     rw[List.length_take]at hi
     rw[List.getElem_take]
     rcases hc with hc|hc
     . omega
     . rw[z2p (by omega)]at hc
       have g1:=hle (n - 1) n hn (by omega)
       have g2:z8b l[n - 1] l[n]≠0:=fun e=>hc (cmpF_zero.mp e).symm
       rcases Nat.lt_or_ge i (n - 1)with h'|h'
       . have g3:=hle i (n - 1) (by omega) h'
         by_cases h0:z8b l[i] l[n - 1]=0
         . rw[cmpF_zero.mp h0];omega
         . exact zaq (by omega:z8b l[i] l[n - 1]<0) (by omega)
       . have:i=n - 1:=by omega
         subst this;omega
   . rename_i hc
     refine⟨h1,fun y=>?_⟩
     rw[h2,List.mem_append]
     refine⟨.inl,fun h'=>h'.elim id fun e=>?_⟩
     have h0:n≠0:=fun e=>hc (.inl e)
     have he:l[n]=zds l (n - 1):=Classical.byContradiction fun h=>hc (.inr h)
     rw[z2p (by omega)]at he
     have:y=l[n - 1]:=by simpa [he]using e
     subst this
     exact List.mem_iff_getElem.mpr ⟨n - 1,by rw[List.length_take];omega,by rw[List.getElem_take]⟩
theorem zw2 {x:z0e} {f:z00} (h1:x.2.1.length<=1000) (h2:f.2.1.length<=1000):zm8 x f (x.1,(zo2 x.2.1 f,())):=z0c7 _ _ _ (by
 unfold z04q
 refine⟨_,zfs,?_⟩
 rw[z04d]
 refine z09 (fun h=>by unfold zo2;rw[if_pos h]) (fun hn=>?_)
 have hle:zvf x.2.1 f<=x.2.1.length:=zfe _ _
 have key:∀ i:Nat,i=zvf x.2.1 f->((0:Int)<=(i:Int)/\(i:Int)<=(x.2.1.length:Int)/\(x.2.1.length:Int)<=(x.2.1.length:Int))/\((([f]:List z00)).length+(List.drop (Int.toNat (i:Int)) (List.take (Int.toNat (x.2.1.length:Int)) x.2.1)).length<=z0v)/\
   (([]:List z00)++List.drop (Int.toNat (0:Int)) (List.take (Int.toNat (i:Int)) x.2.1))++([f]++List.drop (Int.toNat (i:Int)) (List.take (Int.toNat (x.2.1.length:Int)) x.2.1))=zo2 x.2.1 f/\
   ([]:List z00).length+(List.drop (Int.toNat (0:Int)) (List.take (Int.toNat (i:Int)) x.2.1)).length<=z0v/\
   (([]:List z00)++List.drop (Int.toNat (0:Int)) (List.take (Int.toNat (i:Int)) x.2.1)).length+([f]++List.drop (Int.toNat (i:Int)) (List.take (Int.toNat (x.2.1.length:Int)) x.2.1)).length<=z0v:=by
  rintro i rfl
  simp only[Int.toNat_natCast,Int.toNat_zero,List.drop_zero,List.nil_append,List.take_length,z0v,List.length_cons,List.length_nil,List.length_append,List.length_drop,List.length_take]
  refine⟨⟨by omega,by omega,by omega⟩,by omega,?_,by omega,by omega⟩
  unfold zo2
  rw[if_neg hn];rfl
 refine zas x.2.1 (fun t=>!decide (z8b t f<0)) (fun i=>((i:Int),())) (KT:=fun i=>i=zvf x.2.1 f) (KF:=zvf x.2.1 f=x.2.1.length) ?_ ?_ (fun _=>rfl) (fun h=>by unfold zvf;have:=zfe (fun t=>!decide (z8b t f<0)) x.2.1;omega)
 . intro i hi X q1 q2
   refine z0g fun _=>bcI hi (inI hi ⟨_,za3,?_⟩)
   simp only
   rw[z1m hi,z02 (by omega)]
   refine z09 (fun h=>q2 (by rw[decide_eq_true h];rfl)) (fun h=>?_)
   obtain⟨k1,k2,k3,k4,k5⟩:=key i (q1 (by rw[decide_eq_false h];rfl))
   refine⟨k1,f,zry (by omega),k2,⟨by omega,by omega,by omega⟩,k4,k5,?_⟩
   show((x.1,((([]:List z00)++List.drop (Int.toNat (0:Int)) (List.take (Int.toNat (i:Int)) x.2.1))++([f]++List.drop (Int.toNat (i:Int)) (List.take (Int.toNat (x.2.1.length:Int)) x.2.1)),())),())=((x.1,(zo2 x.2.1 f,())),())
   rw[k3]
 . intro X h
   obtain⟨k1,k2,k3,k4,k5⟩:=key x.2.1.length h.symm
   refine z0g fun _=>bcN ⟨k1,f,zry (by omega),k2,⟨by omega,by simp only;omega,by simp only;omega⟩,k4,k5,?_⟩
   show((x.1,((([]:List z00)++List.drop (Int.toNat (0:Int)) (List.take (Int.toNat (x.2.1.length:Int)) x.2.1))++([f]++List.drop (Int.toNat (x.2.1.length:Int)) (List.take (Int.toNat (x.2.1.length:Int)) x.2.1)),())),())=((x.1,(zo2 x.2.1 f,())),())
   rw[k3])
abbrev zTF:zn3 z00:=zTk (z0i (.pair (.int .i64) (.pair (.sl 3 (.int .i64)) .unit))) z0h
def tkAt (l:List (zn3 z00)) (i:Nat):zn3 z00:=l.getD i zTF
theorem ziw {l:List (zn3 z00)} {i:Nat} (h:i<l.length):tkAt l i=l[i]:=z1a h
def ddT (l:List (zn3 z00)):Nat->List (zn3 z00)
 |0=>[]
 |n+1=>if n=0\/(tkAt l n).2≠(tkAt l (n - 1)).2 then ddT l n++[tkAt l n] else ddT l n
theorem zxc {l:List (zn3 z00)}:∀ {n:Nat},n<=l.length->(∀ i,1<=i->i<n->(tkAt l i).2≠(tkAt l (i - 1)).2)->ddT l n=l.take n
 |0,_,_=>by simp[ddT]
 | n+1,h,hi=>by
   unfold ddT
   rw[zxc (n:=n) (by omega) fun i h1 h2=>hi i h1 (by omega),z07 (by omega)]
   rw[if_pos,ziw (by omega)]
   rcases Nat.eq_zero_or_pos n with h0|h0
   . exact .inl h0
   . exact .inr (hi n (by omega) (by omega))
theorem z08p {l:List (zn3 z00)}:∀ {n:Nat},n<=l.length->(ddT l n).Sublist (l.take n)
 |0,_=>by simp[ddT]
 | n+1,h=>by
   have:=z08p (l:=l) (n:=n) (by omega)
   unfold ddT
   rw[z07 (by omega)]
   split
   . rw[ziw (by omega)];exact this.append_right _
   . exact this.trans (List.sublist_append_left _ _)
theorem z03i {l:List (zn3 z00)} {i:Nat}:zds (l.map (·.2)) i=(tkAt l i).2:=by
 unfold zds tkAt
 rw[List.getD_eq_getElem?_getD,List.getD_eq_getElem?_getD,List.getElem?_map]
 cases l[i]?<;>rfl
theorem z02g {l:List (zn3 z00)}:∀ {n:Nat},(ddT l n).map (·.2)=ddF (l.map (·.2)) n
 |0=>rfl
 | n+1=>by
   unfold ddT ddF
   rw[z03i,z03i]
   split
   . rw[List.map_append,z02g];rfl
   . exact z02g
theorem z0fp {l:List (zn3 z00)} (hl:l.length<=1000):z1t l () (ddT l l.length):=z6v _ _ _ (by
 unfold z36
 refine z0g fun _=>z09 (fun h=>?_) (fun h=>?_)
 . rw[zxc (Nat.le_refl _) (fun i h1 h2=>by omega),List.take_length]
 refine z1i (fun k a=>∃ i:Nat,i+k=l.length/\1<=i/\a=((i:Int),(l,()))/\∀ j,1<=j->j<i->(tkAt l j).2≠(tkAt l (j - 1)).2) ?_ ?_ (n:=l.length - 1) ⟨1,by omega,by omega,rfl,fun j h1 h2=>by omega⟩
 . rintro a ⟨i,hi,h1,rfl,hn⟩ X
   obtain rfl:i=l.length:=by omega
   refine z0g fun _=>bcN ?_
   rw[zxc (Nat.le_refl _) hn,List.take_length]
 . rintro k a ⟨i,hi,h1,rfl,hn⟩ X hX
   have hlt:i<l.length:=by omega
   have hw:w64 ((i:Int) - 1)=((i - 1:Nat):Int):=by rw[z2l (by omega) (by omega)];omega
   have hj:i - 1<l.length:=by omega
   refine z0g fun _=>bcI hlt (inI hlt ?_)
   simp only
   rw[hw]
   refine inI hj ⟨_,zig _ _ _ zgi,?_⟩
   rw[z1m hlt,z1m hj,z02 (by omega)]
   refine z09 (fun h=>?_) (fun h=>hX _ ⟨i+1,by omega,by omega,rfl,fun j q1 q2=>?_⟩)
   . refine⟨⟨by omega,by omega,by omega,by omega⟩,?_⟩
     have hbase:ddT l (i+1)=l.take i:=by
      unfold ddT
      rw[if_neg,zxc (by omega) hn]
      rw[ziw hlt,ziw hj,h]
      rintro (h|h)
      . omega
      . exact h rfl
     simp only[Int.toNat_natCast]
     refine z1i (fun k a=>∃(p q:Nat) (L:List (zn3 z00)),q+k=l.length - i/\1<=q/\a=((p:Int),((q:Int),(L,())))/\L.length=l.length/\p+1<=i+q/\L.take p=ddT l (i+q)/\L.drop (i+q - 1)=l.drop (i+q - 1)) ?_ ?_ (n:=l.length - i - 1) ⟨i,1,l,by omega,by omega,rfl,rfl,by omega,hbase.symm,rfl⟩
     . rintro a ⟨p,q,L,hq,hq1,rfl,hL,hp,e1,e2⟩ Y
       obtain rfl:q=l.length - i:=by omega
       rw[show i+(l.length - i)=l.length by omega]at e1
       have ht:(L.take p).length=p:=by rw[List.length_take];omega
       refine z0g fun _=>bcN ⟨⟨by omega,by simp only;omega,by omega,by simp only;omega⟩,by simp only[Int.toNat_natCast];omega,⟨by omega,by omega,?_,?_⟩,?_⟩
       . simp only[List.length_append,Int.toNat_natCast,ht];omega
       . simp only[List.length_append,List.length_replicate,Int.toNat_natCast,ht];omega
       . rw[Int.toNat_natCast,List.take_left' ht,e1]
     . rintro k a ⟨p,q,L,hq,hq1,rfl,hL,hp,e1,e2⟩ Y hY
       have hlq:i+q<l.length:=by omega
       have hg:∀ j,i+q - 1<=j->j<l.length->L.getD j zTF=tkAt l j:=by
        intro j g1 g2
        have e3:=congrArg (fun m=>m.getD (j - (i+q - 1)) zTF) e2
        simp only[List.getD_eq_getElem?_getD,List.getElem?_drop]at e3
        rw[show i+q - 1+(j - (i+q - 1))=j by omega]at e3
        unfold tkAt
        simpa [List.getD_eq_getElem?_getD]using e3
       have hwq:w64 ((q:Int) - 1)=((q - 1:Nat):Int):=by rw[z2l (by omega) (by omega)];omega
       have hdd:L.drop (i+q)=l.drop (i+q):=by
        have:=congrArg (List.drop 1) e2
        rw[List.drop_drop,List.drop_drop,show i+q - 1+1=i+q by omega]at this
        exact this
       refine z0g fun _=>bcI (by omega) (inI (by omega) ?_)
       simp only
       rw[hwq]
       refine inI (by omega) ⟨_,zig _ _ _ zgi,?_⟩
       rw[Int.toNat_natCast,Int.toNat_natCast,hg (i+q) (by omega) hlq,show i+(q - 1)=i+q - 1 by omega,hg (i+q - 1) (by omega) (by omega),z02 (by omega),z02 (by omega)]
       refine z0ck (fun h5=>inI (by omega) ⟨⟨by omega,by omega⟩,?_⟩) (fun h5=>?_)
       . refine hY _ ⟨p+1,q+1,_,by omega,by omega,rfl,by rw[List.length_set];exact hL,by omega,?_,?_⟩
         . rw[show i+(q+1)=(i+q)+1 by omega]
           unfold ddT
           rw[if_pos (.inr h5),<-e1,Int.toNat_natCast,List.take_set,z07 (show p<L.length by omega),List.set_append]
           simp[List.length_take,Nat.min_eq_left (show p<=L.length by omega)]
         . rw[show i+(q+1) - 1=i+q by omega,<-hdd,Int.toNat_natCast,List.drop_set_of_lt (by omega)]
       . refine hY _ ⟨p,q+1,L,by omega,by omega,rfl,hL,by omega,?_,by rw[show i+(q+1) - 1=i+q by omega];exact hdd⟩
         rw[show i+(q+1)=(i+q)+1 by omega]
         unfold ddT
         rw[if_neg,e1]
         rintro (h6|h6)
         . omega
         . exact h6 h5
   . by_cases hji:j=i
     . subst hji;rw[ziw hlt,ziw hj];exact h
     . exact hn j q1 (by omega))
theorem z0d4 {l:List z00} (hl:l.length<=1000):z16 l () (ddF l l.length):=z4p _ _ _ fun xs hx=>by
 subst hx
 rw[List.length_map]at hl ⊢
 refine⟨ddT xs xs.length,?_,z02g,z0fp hl⟩
 have:=z08p (l:=xs) (Nat.le_refl _)
 rwa [List.take_length]at this
theorem ltF {x y:z00}:Go.Proofs.ltOf z8b x y=decide (z8b x y<0):=rfl
theorem swoF:Go.Sort.SWO (Go.Proofs.ltOf z8b):=by
 refine⟨fun x=>?_,fun x y z h1 h2=>?_,fun x y z h1 h2=>?_⟩
 . rw[ltF,cmpF_zero.mpr rfl];rfl
 . rw[ltF,decide_eq_true_eq]at h1 h2 ⊢;exact zaq h1 h2
 . rw[ltF,decide_eq_false_iff_not]at h1 h2 ⊢
   intro h3
   by_cases h4:z8b x y=0
   . obtain rfl:=cmpF_zero.mp h4
     exact h2 h3
   . have h5:z8b y x<0:=by rw[z9r];omega
     exact h2 (zaq h5 h3)
theorem totF {x y:z00} (h1:Go.Proofs.ltOf z8b x y=false) (h2:Go.Proofs.ltOf z8b y x=false):x=y:=by
 rw[ltF,decide_eq_false_iff_not]at h1 h2
 rw[z9r]at h2
 exact cmpF_zero.mp (by omega)
theorem z0bv {l:List z00} (h:l.length<=1000):z0z l () (zcu z8b l):=z062 (fun a b=>z58) swoF (fun _ _=>totF) (by omega)
theorem z0ap (l:List z00):(zcu z8b l).Pairwise fun a b=>z8b a b<=0:=by
 have:=List.pairwise_mergeSort (le:=fun a b=>!(decide (z8b b a<0))) (fun a b c h1 h2=>by
  simp only[Bool.not_eq_true',decide_eq_false_iff_not]at h1 h2 ⊢
  intro h3
  rw[z9r]at h1 h2
  by_cases h4:z8b a b=0
  . rw[cmpF_zero.mp h4]at h3;rw[z9r]at h3;omega
  . have:=zaq h3 (by omega:z8b a b<0);rw[z9r]at this;omega) (fun a b=>by
  rw[z9r (x:=a) (y:=b)]
  simp
  omega) l
 refine List.Pairwise.imp (fun h=>?_) this
 simp only[Bool.not_eq_true',decide_eq_false_iff_not]at h
 rw[z9r]at h;omega
theorem z0e1 {l:List z00}:ddF (zcu z8b l) l.length=zpo l:=by
 have hl:(zcu z8b l).length=l.length:=by simp[zcu]
 obtain⟨h1,h2⟩:=z08n (z0ap l) (n:=l.length) (by omega)
 refine z07f h1 fun y=>?_
 rw[h2,List.take_of_length_le (by omega)]
 simp[zcu]
theorem z01o {l:List z00} (hl:l.length<=1000) (h:∀ f∈l,f.2.1.length<=1000):zl1 l (zpo l):=z01m _ _ (by
 unfold zqc
 have hs:(zcu z8b l).length=l.length:=by simp[zcu]
 refine⟨l,zol (by omega) (fun f hf=>by have:=h f hf;omega),_,z0bv hl,_,z0d4 (by omega),?_⟩
 rw[hs,z0e1])
def zvp (d:z0b) (b:List Int):Bool:=(List.range b.length).all fun k=>decide ((k:Int)∈vars d.1) == !(iAt b k == 10)
def znt (x:z0e) (d:z0b) (b:List Int):Bool:=d.1.all fun a=>zai a b&&decide (inst a b∈x.2.1)
def zkh (x:z0e) (d:z0b) (b:List Int):Bool:=z3a x&&(ziz x.1 d&&((b.length == 5)&&(zvp d b&&znt x d b)))
theorem zj6 {l:List z0s} {ats:List z00} (h:∀ a∈ats,z74 l a=true) {v:Int} (hv:v∈vars ats):0<=v/\v<5:=by
 unfold vars at hv
 have hv:=mem_sset.mp hv
 obtain⟨h1,h2⟩:=List.mem_filter.mp hv
 obtain⟨a,ha,hva⟩:=List.mem_flatMap.mp h1
 have:=inR_iff.mp ((z37 (h a ha)).2.2.2.2.2 v hva)
 have:0<=v:=by simpa using h2
 omega
theorem bb2:∀ u v:Bool,(!((!v) == u)) = !(u == !v):=by decide
theorem zpp {l:List z0s} {a:z00} (h:z74 l a=true):a.2.1.length<=3/\∀ t∈a.2.1,-10<=t/\t<5:=by
 have:=z37 h
 exact⟨this.2.2.2.2.1,fun t ht=>by have:=inR_iff.mp (this.2.2.2.2.2 t ht);omega⟩
theorem z02a (x:z0e):0<=zi5 x/\zi5 x<=40:=by
 have hk:∀ k∈zhd x,0<=k/\k<40:=fun k hk=>by
  have:=zlc (l:=x.2.1.flatMap (·.2.1)) k (by rw[zfq];exact hk)
  omega
 refine⟨?_,nextN_le (n:=40) |>.mpr fun k h=>(hk k h).2⟩
 unfold zi5
 cases h:(zhd x).getLast? with
 |none=>exact Int.le_refl 0
 |some m=>have:=hk m (List.mem_of_getLast? h);simp only;omega
theorem z0ev {l:List z0s} {d:z0b} (h:ziz l d=true):(exV d).length<=6:=by
 have hd:=z6a h
 have h1:(exV d).length<=(vars d.2.1).length:=by unfold exV;exact List.length_filter_le _ _
 have h2:=zj7 d.2.1
 omega
theorem zf2 {l:List z0s} {d:z0b} (h:ziz l d=true) {v:Int} (hv:v∈exV d):0<=v/\v<5:=by
 have hd:=z6a h
 unfold exV at hv
 exact zj6 hd.2.2.2.2.1 (List.mem_filter.mp hv).1
theorem z00j {x:z0e} (h:z3a x=true) (l:List z00):l.foldl zo2 x.2.1=zpo (x.2.1++l):=z04g (zlo h)
theorem zoj {x:z0e} {d:z0b} {b:List Int}:zea x d b (zkh x d b):=zxx _ _ _ _ (by
 unfold zom
 refine⟨_,z72,z0u (fun h=>by unfold zkh;rw[h];rfl) (fun h1=>⟨_,zcb,z0u (fun h=>by unfold zkh;rw[h1,h];rfl) (fun h2=>z0g fun _=>zbt (fun h=>?_) (fun h3=>?_))⟩)⟩
 . unfold zkh
   rw[show(b.length == 5)=false from beq_eq_false_iff_ne.mpr (by omega),h1,h2];rfl
 have h3:b.length=5:=by omega
 have hd:=z6a h2
 have e:zkh x d b=(zvp d b&&znt x d b):=by unfold zkh;rw[h1,h2,h3];rfl
 rw[e]
 refine⟨_,ze1 (by omega),z0g fun _=>?_⟩
 refine zbf b.length (fun k=>!(decide ((k:Int)∈vars d.1) == !(iAt b k == 10))) (fun i=>((i:Int),())) (KT:=zvp d b=false) (KF:=zvp d b=true) ?_ ?_ ?_ ?_
 . intro i hi X _ q1 q2
   refine bcI hi (inI hi ⟨_,z3n,?_⟩)
   simp only
   rw[z1m hi,<-z0ep hi,z02 (by omega)]
   show z01 (!((!(iAt b i == 10)) == _)) _ _
   rw[bb2]
   exact z1e (fun h=>by rw[q1 h];rfl) q2
 . intro X hB
   refine bcN (z0g fun _=>?_)
   rw[hB,Bool.true_and]
   refine z71 d.1 (fun a=>!(zai a b&&decide (inst a b∈x.2.1))) (fun i=>((i:Int),())) (KT:=znt x d b=false) (KF:=znt x d b=true) ?_ ?_ ?_ ?_
   . intro i hi X q1 q2
     have hr:=zpp (hd.2.2.1 _ (List.getElem_mem hi))
     refine bcI hi (inI hi ⟨inst d.1[i] b,zai d.1[i] b,?_,?_⟩)
     . simp only;rw[z1m hi];exact zb2 (by omega) (by omega) hr.2
     . rw[z02 (by omega)]
       refine z0u (fun h=>by rw[q1 (by rw[h];rfl)]) (fun h=>⟨_,ziy,z0u (fun h4=>?_) (fun h4=>?_)⟩)
       . have h4:inst d.1[i] b∉x.2.1:=of_decide_eq_false h4
         rw[q1 (by rw[h];simpa using h4)]
       . have h4:inst d.1[i] b∈x.2.1:=of_decide_eq_true h4
         exact q2 (by rw[h];simpa using h4)
   . intro X h;exact bcN (by rw[h])
   . intro h;rw[z3y]at h;unfold znt;exact nt h
   . intro h;rw[z3y]at h;unfold znt;exact nf h
 . rintro⟨i,hi,hp⟩
   unfold zvp
   rw[Bool.eq_false_iff]
   intro h
   have:=List.all_eq_true.mp h i (List.mem_range.mpr hi)
   rw[this]at hp;cases hp
 . intro h
   unfold zvp
   exact List.all_eq_true.mpr fun i hi=>nf (h i (List.mem_range.mp hi)))
theorem zkp {l:List Int} {i j:Nat} {v:Int} (h:i<l.length):iAt (l.set i v) j=if j=i then v else iAt l j:=z04e h
def zq5 (b c:List Int):Prop:=c.length=b.length/\∀ k,iAt b k≠10->iAt c k=iAt b k
theorem zs0 (b:List Int):zq5 b b:=⟨rfl,fun _ _=>rfl⟩
theorem zy4 {a b c:List Int} (h1:zq5 a b) (h2:zq5 b c):zq5 a c:=⟨h2.1.trans h1.1,fun k hk=>by
 have e:=h1.2 k hk
 rw[h2.2 k (by rw[e];exact hk),e]⟩
def zsx (c:List Int) (p:Int×Int):Prop:=if p.1<0 then p.2 = -1 - p.1 else iAt c p.1.toNat=p.2
theorem z02l:∀ {ts vs b:List Int},(zjq ts vs b).2=true->(∀ t∈ts,t<b.length)->(∀ v∈vs,v≠10)->ts.length=vs.length->
  zq5 b (zjq ts vs b).1/\(∀ p∈ts.zip vs,zsx (zjq ts vs b).1 p)/\∀ k:Nat,k<b.length->(iAt (zjq ts vs b).1 k≠10↔iAt b k≠10\/(k:Int)∈ts)
 |[],vs,b,_,_,_,_=>⟨zs0 b,by simp,by simp[zjq]⟩
 |t::ts,[],b,h,_,_,hl=>by simp at hl
 | t::ts,v::vs,b,h,h1,h2,hl=>by
   rw[zs7]at h ⊢
   have hv:v≠10:=h2 v (by simp)
   have hts:∀ t∈ts,t<b.length:=fun u hu=>h1 u (by simp[hu])
   have hvs:∀ v∈vs,v≠10:=fun u hu=>h2 u (by simp[hu])
   have hl':ts.length=vs.length:=by simpa using hl
   by_cases ht:t<0
   . rw [if_pos ht]at h ⊢
     by_cases hc : -1 - t=v
     . rw[if_pos hc]at h ⊢
       obtain⟨g1,g2,g3⟩:=z02l h hts hvs hl'
       refine⟨g1,fun p hp=>?_,fun k hk=>?_⟩
       . rw[List.zip_cons_cons]at hp
         rcases List.mem_cons.mp hp with rfl|hp
         . unfold zsx;rw[if_pos ht];exact hc.symm
         . exact g2 p hp
       . rw[g3 k hk,List.mem_cons]
         have:¬ (k:Int)=t:=by omega
         simp[this]
     . rw[if_neg hc]at h;simp at h
   . rw [if_neg ht]at h ⊢
     have htb:t.toNat<b.length:=by have:=h1 t (by simp);omega
     by_cases hc:b.getD t.toNat 0=10\/b.getD t.toNat 0=v
     . rw [if_pos hc]at h ⊢
       have hlen:(b.set t.toNat v).length=b.length:=by simp
       obtain⟨g1,g2,g3⟩:=z02l h (by rw[hlen];exact hts) hvs hl'
       refine⟨⟨g1.1.trans hlen,fun k hk=>?_⟩,fun p hp=>?_,fun k hk=>?_⟩
       . by_cases hkt:k=t.toNat
         . subst hkt
           have hbv:iAt b t.toNat=v:=hc.resolve_left hk
           rw[g1.2 _ (by rw[zkp htb,if_pos rfl];exact hv),zkp htb,if_pos rfl,hbv]
         . have e:iAt (b.set t.toNat v) k=iAt b k:=by rw[zkp htb,if_neg hkt]
           rw[g1.2 k (by rw[e];exact hk),e]
       . rw[List.zip_cons_cons]at hp
         rcases List.mem_cons.mp hp with rfl|hp
         . unfold zsx;rw[if_neg ht]
           have e:iAt (b.set t.toNat v) t.toNat=v:=by rw[zkp htb,if_pos rfl]
           rw[g1.2 _ (by rw[e];exact hv),e]
         . exact g2 p hp
       . rw[g3 k (by rw[hlen];exact hk),zkp htb,List.mem_cons]
         by_cases hkt:k=t.toNat
         . have:(k:Int)=t:=by omega
           simp[hkt,hv]
           omega
         . have:¬ (k:Int)=t:=by omega
           simp[hkt,this]
     . rw[if_neg hc]at h;simp at h
theorem z0ct {c c':List Int} {p:Int×Int} (hg:zq5 c c') (h:zsx c p) (hv:p.2≠10):zsx c' p:=by
 unfold zsx at h ⊢
 split
 . rename_i ht;rw[if_pos ht]at h;exact h
 . rename_i ht;rw[if_neg ht]at h;rw[hg.2 _ (by rw[h];exact hv),h]
theorem z089 {v:Int} (h:znb v=true):v≠10:=by have:=inR_iff.mp h;omega
theorem z037:∀ {ts vs c s:List Int},ts.length=vs.length->(∀ p∈ts.zip vs,zsx c p)->(∀ v∈vs,znb v=true)->(∀ t∈ts,t<c.length)->zcm (zhg c) ts s = .inr (s++vs)
 |[],[],c,s,_,_,_,_=>by simp[zcm]
 |[],v::vs,c,s,h,_,_,_=>by simp at h
 |t::ts,[],c,s,h,_,_,_=>by simp at h
 | t::ts,v::vs,c,s,h,h1,h2,h3=>by
   have hp:=h1 (t,v) (by simp)
   have hv:=h2 v (by simp)
   have e:zhg c s t = .inr (s++[v]):=by
    unfold zhg z05a
    unfold zsx at hp
    simp only at hp
    by_cases ht:t<0
    . rw[if_pos ht]at hp
      rw[if_neg (by omega),<-hp,if_pos hv]
    . rw[if_neg ht]at hp
      have hlt:=h3 t (by simp)
      have hp:c.getD t.toNat 0=v:=hp
      rw[if_pos (by omega),if_neg (by omega),hp,if_pos hv]
   simp only[zcm,e]
   rw[z037 (by simpa using h) (fun p hp=>h1 p (by simp[hp])) (fun v hv=>h2 v (by simp[hv])) (fun t ht=>h3 t (by simp[ht]))]
   simp
theorem z04l {a f:z00} {c:List Int} (h1:a.1=f.1) (hl:a.2.1.length=f.2.1.length) (hz:∀ p∈a.2.1.zip f.2.1,zsx c p) (hv:∀ v∈f.2.1,znb v=true) (ht:∀ t∈a.2.1,t<c.length):zai a c=true/\inst a c=f:=by
 have:=z037 (s:=[]) hl hz hv ht
 unfold zai inst
 rw[this,List.nil_append,h1]
 exact⟨rfl,rfl⟩
theorem z004 {fs:List z00} {w:List Int->List (List Int)} {a:z00} {b c:List Int}:∀ {l:List z00} {out:List (List Int)},c∈l.foldl (znh fs w a b) out->c∈out\/∃ f∈l,a.1=f.1/\(zjq a.2.1 f.2.1 b).2=true/\c∈w (zjq a.2.1 f.2.1 b).1
 |[],out,h=>.inl h
 | f::l,out,h=>by
   rw[List.foldl_cons]at h
   rcases z004 h with h|⟨g,hg,h⟩
   . unfold znh at h
     split at h
     . rename_i hc
       rcases List.mem_append.mp h with h|h
       . exact .inl h
       . exact .inr ⟨f,by simp,hc.1,hc.2,h⟩
     . exact .inl h
   . exact .inr ⟨g,by simp[hg],h⟩
theorem z09b {fs:List z00} (hv:∀ f∈fs,∀ v∈f.2.1,znb v=true):∀ {ats:List z00} {b c:List Int},c∈zh5 fs ats b->WOk fs ats->b.length=5->
  zq5 b c/\(∀ a∈ats,zai a c=true/\inst a c∈fs)/\∀ k:Nat,k<5->(iAt c k≠10↔iAt b k≠10\/∃ a∈ats,(k:Int)∈a.2.1)
 | [],b,c,h,_,_=>by
   have:c=b:=by simpa [zh5]using h
   subst this
   exact⟨zs0 _,by simp,by simp⟩
 | a::ats,b,c,h,hw,hb=>by
   rcases z004 (show c∈fs.foldl (znh fs (zh5 fs ats) a b) [] from h)with h|⟨f,hf,h1,h2,h3⟩
   . simp at h
   have hrow:=hw.row a (by simp)
   have hlen:=hw.fit a (by simp) f hf h1
   obtain⟨g1,g2,g3⟩:=z02l h2 (fun t ht=>by have:=(hrow.2 t ht).2;omega) (fun v hv'=>z089 (hv f hf v hv')) hlen
   obtain⟨k1,k2,k3⟩:=z09b hv h3 hw.tail (by rw[zgk];exact hb)
   have hcl:c.length=5:=by rw[k1.1,zgk];exact hb
   refine⟨zy4 g1 k1,fun a' ha=>?_,fun k hk=>?_⟩
   . rcases List.mem_cons.mp ha with rfl|ha
     . obtain⟨m1,m2⟩:=z04l (c:=c) h1 hlen (fun p hp=>z0ct k1 (g2 p hp) (z089 (hv f hf _ (List.of_mem_zip hp).2))) (hv f hf) (fun t ht=>by have:=(hrow.2 t ht).2;omega)
       exact⟨m1,m2 ▸ hf⟩
     . exact k2 a' ha
   . rw[k3 k hk,g3 k (by omega)]
     simp only[List.mem_cons,exists_eq_or_imp,or_assoc]
theorem z06i {x:z0e} (h:z3a x=true):∀ f∈x.2.1,∀ v∈f.2.1,znb v=true:=fun f hf=>(z37 (z6o h hf)).2.2.2.2.2
theorem mem_vars {ats:List z00} {k:Nat}:(k:Int)∈vars ats↔∃ a∈ats,(k:Int)∈a.2.1:=by
 unfold vars
 rw[mem_sset,List.mem_filter,List.mem_flatMap]
 simp
theorem zv6 {x:z0e} {d:z0b} {b:List Int} (h:b∈z9t x d.1):b.length=5/\zvp d b=true/\znt x d b=true:=by
 have hb:=zf9 h
 unfold z9t at h
 split at h
 . rename_i hm
   have hw:=(zru hm).1
   have hx:z3a x=true:=by unfold mOk at hm;simp only[Bool.and_eq_true]at hm;exact hm.2.1
   rcases zwl h with h|h
   . simp at h
   obtain⟨_,h2,h3⟩:=z09b (z06i hx) h hw rfl
   refine⟨hb,?_,?_⟩
   . unfold zvp
     refine List.all_eq_true.mpr fun k hk=>?_
     have hk:k<5:=by rw[hb]at hk;exact List.mem_range.mp hk
     have e:=h3 k hk
     have hbl:iAt zbn k=10:=by
      rcases k with _|_|_|_|_|k<;>first|rfl|omega
     rw[<-mem_vars]at e
     simp only[hbl,ne_eq,not_true,false_or]at e
     by_cases hm:(k:Int)∈vars d.1
     . rw[decide_eq_true hm,show(iAt b k == 10)=false from beq_eq_false_iff_ne.mpr (e.mpr hm)];rfl
     . have:iAt b k=10:=Classical.byContradiction fun h'=>hm (e.mp h')
       rw[decide_eq_false hm,this];rfl
   . unfold znt
     refine List.all_eq_true.mpr fun a ha=>?_
     obtain⟨m1,m2⟩:=h2 a ha
     rw[m1,decide_eq_true m2];rfl
 . simp at h
theorem z063 {x y:z0e} {d:z0b} {b:List Int} (hxy:∀ f∈x.2.1,f∈y.2.1) (h:znt x d b=true):znt y d b=true:=by
 unfold znt at h ⊢
 refine List.all_eq_true.mpr fun a ha=>?_
 have:=List.all_eq_true.mp h a ha
 rw[Bool.and_eq_true,decide_eq_true_eq]at this
 rw[this.1,decide_eq_true (hxy _ this.2)];rfl
theorem z007 {b:List Int}:∀ {ts s s':List Int},zcm (zhg b) ts s = .inr s'->s'=s++ts.map (fun t=>if 0<=t then iAt b t.toNat else -1 - t)/\(∀ t∈ts,znb (if 0<=t then iAt b t.toNat else -1 - t)=true)
 |[],s,s',h=>by simp only[zcm,Sum.inr.injEq]at h;subst h;simp
 | t::ts,s,s',h=>by
   simp only[zcm]at h
   cases e:zhg b s t with
   |inl _=>rw[e]at h;simp at h
   | inr s1=>
     rw[e]at h
     obtain⟨h1,h2⟩:=z007 h
     have h3:s1=s++[if 0<=t then iAt b t.toNat else -1 - t]/\znb (if 0<=t then iAt b t.toNat else -1 - t)=true:=by
      unfold zhg z05a at e
      by_cases ht:0<=t
      . rw [if_pos ht]at e ⊢
        by_cases hl:(b.length:Int)<=t
        . rw[if_pos hl]at e;simp at e
        . rw[if_neg hl]at e
          by_cases hv:znb (b.getD t.toNat 0)=true
          . rw[if_pos hv]at e
            simp only[Sum.inr.injEq]at e
            exact⟨e.symm,hv⟩
          . rw[if_neg hv]at e;simp at e
      . rw[if_neg ht]at e ⊢
        by_cases hv:znb (-1 - t)=true
        . rw[if_pos hv]at e
          simp only[Sum.inr.injEq]at e
          exact⟨e.symm,hv⟩
        . rw[if_neg hv]at e;simp at e
     refine⟨by rw[h1,h3.1];simp,fun u hu=>?_⟩
     rcases List.mem_cons.mp hu with rfl|hu
     . exact h3.2
     . exact h2 u hu
theorem z0ea {a:z00} {b:List Int} (h:zai a b=true):(inst a b).1=a.1/\(inst a b).2.1=a.2.1.map (fun t=>if 0<=t then iAt b t.toNat else -1 - t)/\∀ t∈a.2.1,znb (if 0<=t then iAt b t.toNat else -1 - t)=true:=by
 unfold zai at h
 unfold inst
 cases e:zcm (zhg b) a.2.1 []with
 |inl r=>rw[e]at h;simp at h
 | inr s=>
   obtain⟨h1,h2⟩:=z007 e
   exact⟨rfl,by simpa using h1,h2⟩
theorem zri {x:z0e} {f:z00} (hf:f∈x.2.1) {v:Int} (hv:v∈f.2.1) (hn:z8v v=true):z4v v<zi5 x:=by
 have hr:=z02a x
 have hk:z4v v∈zhd x:=by
  unfold zhd
  rw[mem_sset,List.mem_flatMap]
  refine⟨f,hf,mem_nulls.mpr ?_⟩
  have:=isNul_iff.mp hn
  have e:z4v v = -1 - v:=by unfold z4v;rw[if_pos hn]
  rw[e]
  exact⟨by omega,by omega,by rw[show -1 - (-1 - v)=v by omega];exact hv⟩
 have:=nextN_le (x:=x) (n:=(zi5 x).toNat) |>.mp (by omega) _ hk
 omega
theorem z03r {x:z0e} {d:z0b} {b:List Int} (hF:znt x d b=true) {k:Nat} (hk:(k:Int)∈vars d.1):znb (iAt b k)=true/\(z8v (iAt b k)=true->z4v (iAt b k)<zi5 x):=by
 obtain⟨a,ha,hka⟩:=mem_vars.mp hk
 have:=List.all_eq_true.mp hF a ha
 rw[Bool.and_eq_true,decide_eq_true_eq]at this
 obtain⟨_,h2,h3⟩:=z0ea this.1
 have e:(if (0:Int)<=(k:Int)then iAt b (k:Int).toNat else -1 - (k:Int))=iAt b k:=by rw[if_pos (by omega),Int.toNat_natCast]
 have h4:=h3 _ hka
 rw[e]at h4
 refine⟨h4,fun hn=>zri this.2 ?_ hn⟩
 rw[h2]
 exact List.mem_map.mpr ⟨_,hka,e⟩
theorem zze {m:Int} (h:0<=m):ziu m 0=m:=by unfold ziu;split<;>omega
theorem z0en {m n:Int}:m<=ziu m n:=by unfold ziu;split<;>omega
theorem z0da {dp:List Int} {m v:Int} (h:0<=m):zsb dp m v=ziu m (if z8v v then dp.getD (z4v v).toNat 0 else 0):=by
 unfold zsb
 have hn:=zhm v
 split
 . split
   . rfl
   . rename_i h2
     rw[List.getD_eq_getElem?_getD,List.getElem?_eq_none (by omega)]
     exact(zze h).symm
 . exact(zze h).symm
theorem zuu {dp:List Int}:∀ {l:List Int} {m:Int},0<=m->l.foldl (zsb dp) m=l.foldl (fun m v=>ziu m (if z8v v then dp.getD (z4v v).toNat 0 else 0)) m
 |[],m,_=>rfl
 | v::l,m,h=>by
   rw[List.foldl_cons,List.foldl_cons,z0da h]
   exact zuu (Int.le_trans h z0en)
theorem z0aq {dp:List Int} {l:List Int}:l.foldl (zsb dp) 0+1=z8z dp l:=by
 rw[zuu (Int.le_refl 0),zno (g:=fun k=>dp.getD k.toNat 0) (Int.le_refl 0)]
 rfl
theorem z0bu (l m:List z08):∃ r,z2a (l++m)=z2a l++r:=by
 induction m generalizing l with
 |nil=>exact⟨[],by simp⟩
 | cons a m ih=>
   obtain⟨r,hr⟩:=ih (l++[a])
   rw[List.append_assoc,z8s,List.append_assoc]at hr
   exact⟨_,hr⟩
theorem zy6 {out args:List Int} {n:Nat} (h:∀ d∈out,0<=d/\d<=n):0<=z8z out args/\z8z out args<=n+1:=by
 unfold z8z
 have h0:=zi6 (fun k=>out.getD k.toNat 0) (z2v args)
 have:mx (fun k=>out.getD k.toNat 0) (z2v args)<=n:=mx_le.mpr ⟨by omega,fun k _=>by
  by_cases hk:k.toNat<out.length
  . rw[z1a hk];exact(h _ (List.getElem_mem hk)).2
  . rw[List.getD_eq_getElem?_getD,List.getElem?_eq_none (by omega)];simp⟩
 omega
theorem z0b4 (n:Nat):∀(l:List z08),l.length=n->∀ d∈z2a l,0<=d/\d<=l.length:=by
 induction n with
 |zero=>intro l hl;obtain rfl:=List.length_eq_zero_iff.mp hl;simp[z2a]
 | succ n ih0=>
   intro l0 hl d hd
   have hne:l0≠[]:=by intro e;rw[e]at hl;simp at hl
   obtain⟨l,t,rfl⟩:∃ l t,l0=l++[t]:=⟨_,_,(List.dropLast_concat_getLast hne).symm⟩
   have ih:=ih0 l (by simpa using hl)
   rw[z8s]at hd
   rw[List.length_append]
   simp only[List.length_cons,List.length_nil]
   rcases List.mem_append.mp hd with hd|hd
   . have:=ih d hd;omega
   . have e:d=z8z (z2a l) t.2.2.1:=by simpa using hd
     rw[e]
     have:=zy6 (args:=t.2.2.1) ih
     omega
theorem z0cp (n:Nat):∀(l:List z08),l.length=n->n<=1000->l.foldl z00r []=z2a l:=by
 induction n with
 |zero=>intro l hl _;obtain rfl:=List.length_eq_zero_iff.mp hl;rfl
 | succ n ih0=>
   intro l0 hl h31
   have hne:l0≠[]:=by intro e;rw[e]at hl;simp at hl
   obtain⟨l,t,rfl⟩:∃ l t,l0=l++[t]:=⟨_,_,(List.dropLast_concat_getLast hne).symm⟩
   have hln:l.length=n:=by simpa using hl
   rw[List.foldl_append,ih0 l hln (by omega),z8s]
   simp only[List.foldl_cons,List.foldl_nil]
   unfold z00r
   rw[z0aq]
   have:=zy6 (args:=t.2.2.1) (z0b4 _ l rfl)
   rw[z2l (by omega) (by omega)]
theorem zyt {s:TSk} {t:z08} (hl:s.2.1.length<=30):zcp s t (z8z (z2a s.2.1) t.2.2.1):=by
 have:=zob (s:=s) (t:=t) hl
 rw[z0cp _ _ rfl (by simp;omega),z8s]at this
 have e:(z2a s.2.1++[z8z (z2a s.2.1) t.2.2.1]).getD s.2.1.length 0=z8z (z2a s.2.1) t.2.2.1:=by
  have hd:=z017 s.2.1
  rw[List.getD_eq_getElem?_getD,List.getElem?_append_right (by omega),hd]
  simp
 rw[e]at this
 exact this
def zoq (s:TSk) (t:z08):TSk×Int×Bool:=if t∈s.2.1 then(s,-1 - zbi s.2.1 t,true)else if s.2.1.length=30\/8<z8z (z2a s.2.1) t.2.2.1 then(s,0,false)else((s.1,(s.2.1++[t],s.2.2)),-1 - (s.2.1.length:Int),true)
theorem zyk {s:TSk} {t:z08} (hl:s.2.1.length<=30):zao s t (zoq s t).1 (zoq s t).2.1 (zoq s t).2.2:=by
 by_cases hm:t∈s.2.1
 . have e:zoq s t=(s,-1 - zbi s.2.1 t,true):=by unfold zoq;rw[if_pos hm]
   rw[e]
   exact z9p hl _ _ _ (fun _=>⟨rfl,rfl,rfl⟩) (fun h=>absurd hm h)
 . have hy:=zyt (s:=s) (t:=t) hl
   by_cases h30:s.2.1.length=30
   . have e:zoq s t=(s,0,false):=by unfold zoq;rw[if_neg hm,if_pos (.inl h30)]
     rw[e]
     exact z9p hl _ _ _ (fun h=>absurd h hm) (fun _=>z0g fun _=>z3t (fun _=>rfl) (fun h=>by omega))
   . by_cases h8:z8z (z2a s.2.1) t.2.2.1 > 8
     . have e:zoq s t=(s,0,false):=by unfold zoq;rw[if_neg hm,if_pos (.inr h8)]
       rw[e]
       exact z9p hl _ _ _ (fun h=>absurd h hm) (fun _=>z0g fun _=>z3t (fun h=>by omega) (fun _=>⟨_,hy,z09 (fun _=>rfl) (fun h=>absurd h8 h)⟩))
     . have e:zoq s t=((s.1,(s.2.1++[t],s.2.2)),-1 - (s.2.1.length:Int),true):=by unfold zoq;rw[if_neg hm,if_neg (by rintro (h|h);exact h30 h;exact h8 h)]
       rw[e]
       refine z9p hl _ _ _ (fun h=>absurd h hm) (fun _=>z0g fun _=>z3t (fun h=>by omega) (fun _=>⟨_,hy,z09 (fun h=>absurd h h8) (fun _=>⟨trivial,trivial,by simp only[z0v,List.length_nil];omega,by simp only[z0v,List.length_append,List.length_cons,List.length_nil];omega,z0g fun _=>⟨-1 - (s.2.1.length:Int),?_,rfl⟩⟩)⟩))
       have e:w64 ((List.length ((([]:List z08)++s.2.1)++([t]:List z08)):Int) - (1:Int))=(s.2.1.length:Int):=by
        rw[z2l]<;>simp<;>omega
       rw[e]
       exact zdw (by omega) (by omega)
theorem z01z {l m:List z08} {k:Nat} (hk:k<l.length):z8u (l++m) k=z8u l k:=by
 have e:zev (l++m) k=zev l k:=by rw[z6p (by rw[List.length_append];omega),z6p hk,List.getElem_append_left hk]
 unfold z8u
 rw[e,List.take_append_of_le_length (by omega)]
theorem z096 {ts:List z08} {t:z08} (h:zjt ts=true) (hl:ts.length<30) (h1:inR t.1 0 4=true) (h2:inR t.2.1 0 4=true) (h3:t.2.2.1.length<=5) (h4:t.2.2.1.all (zb5 ts.length)=true) (h5:t∉ts) (h8:z8z (z2a ts) t.2.2.1<=8):zjt (ts++[t])=true:=by
 unfold zjt at h ⊢
 simp only[Bool.and_eq_true,decide_eq_true_eq]at h ⊢
 obtain⟨⟨_,g2⟩,g3⟩:=h
 refine⟨⟨by simp;omega,List.all_eq_true.mpr fun k hk=>?_⟩,?_⟩
 . have hk:k<ts.length+1:=by simpa using hk
   by_cases hkl:k<ts.length
   . rw[z01z hkl];exact List.all_eq_true.mp g2 k (List.mem_range.mpr hkl)
   . obtain rfl:k=ts.length:=by omega
     unfold z8u
     have e:zev (ts++[t]) ts.length=t:=by rw[z6p (by simp)];simp
     rw[e,h1,h2,h4,decide_eq_true h3,List.take_append_of_le_length (Nat.le_refl _),List.take_length,zcy,decide_eq_false h5];rfl
 . rw[z8s,List.all_append,g3]
   simpa using h8
theorem z09a {d:z0b} {i:Int} {b:List Int}:∀ {l:List Int} {s:List z08×List Int},∃ r,(l.foldl (hdG d i b) s).1=s.1++r
 |[],s=>⟨[],by simp⟩
 | v::l,s=>by
   rw[List.foldl_cons]
   obtain⟨r,hr⟩:=z09a (d:=d) (i:=i) (b:=b) (l:=l) (s:=hdG d i b s v)
   rw[hr]
   unfold hdG
   split
   . exact⟨r,rfl⟩
   . exact⟨_,by rw[List.append_assoc]⟩
def zjz (d:z0b) (i:Int) (b:List Int) (st:List z08×List Int) (v:Int):Unit ⊕ (List z08×List Int):=
 if zhh d i b v∈st.1 then .inr (hdG d i b st v)else if st.1.length=30\/8<z8z (z2a st.1) (z7g d b)then .inl ()else .inr (hdG d i b st v)
theorem zrl {d:z0b} {i:Int} {b:List Int} {st st':List z08×List Int} {v:Int} (h:zjz d i b st v = .inr st'):st'=hdG d i b st v:=by
 unfold zjz at h
 split at h
 . exact(Sum.inr.inj h).symm
 . split at h
   . cases h
   . exact(Sum.inr.inj h).symm
theorem zr8 {d:z0b} {i:Int} {b:List Int}:∀ {l:List Int} {st st':List z08×List Int},zcm (zjz d i b) l st = .inr st'->st'=l.foldl (hdG d i b) st
 |[],st,st',h=>by simp only[zcm,Sum.inr.injEq]at h;exact h.symm
 | v::l,st,st',h=>by
   simp only[zcm]at h
   cases e:zjz d i b st v with
   |inl _=>rw[e]at h;simp at h
   |inr s1=>rw[e]at h;rw[List.foldl_cons,<-zrl e];exact zr8 h
theorem zwf {d:z0b} {i:Int} {b:List Int} (hi:inR i 0 4=true) (hfr:(z7g d b).length<=5):∀ {l:List Int} {st st':List z08×List Int},(∀ v∈l,inR v 0 4=true)->(z7g d b).all (zb5 st.1.length)=true->zjt st.1=true->zcm (zjz d i b) l st = .inr st'->zjt st'.1=true
 |[],st,st',_,_,h,hr=>by simp only[zcm,Sum.inr.injEq]at hr;subst hr;exact h
 | v::l,st,st',hv,ha,h,hr=>by
   simp only[zcm]at hr
   cases e:zjz d i b st v with
   |inl _=>rw[e]at hr;simp at hr
   | inr s1=>
     rw[e]at hr
     have e1:=zrl e
     have hlt:=zdz h
     have key:zjt s1.1=true/\st.1.length<=s1.1.length:=by
      unfold zjz at e
      by_cases hm:zhh d i b v∈st.1
      . have:s1.1=st.1:=by rw[e1];unfold hdG;rw[if_pos hm]
        rw[this];exact⟨h,Nat.le_refl _⟩
      . rw[if_neg hm]at e
        by_cases hc:st.1.length=30\/8<z8z (z2a st.1) (z7g d b)
        . rw[if_pos hc]at e;cases e
        . have:s1.1=st.1++[zhh d i b v]:=by rw[e1];unfold hdG;rw[if_neg hm]
          rw[this]
          have h30:¬ st.1.length=30:=fun h'=>hc (.inl h')
          have h8:¬ 8<z8z (z2a st.1) (z7g d b):=fun h'=>hc (.inr h')
          exact⟨z096 h (by omega) hi (hv v (by simp)) hfr ha hm (by unfold zhh;simp only;omega),by simp⟩
     refine zwf hi hfr (fun u hu=>hv u (by simp[hu])) (List.all_eq_true.mpr fun w hw=>?_) key.1 hr
     have:=List.all_eq_true.mp ha w hw
     unfold zb5 at this ⊢
     rw[Bool.and_eq_true]at this
     rw[this.1,Bool.true_and]
     have h2:=this.2
     cases hn:z8v w with
     |false=>rfl
     | true=>
       rw[hn,Bool.true_and]at h2
       have h2:¬ (st.1.length:Int)<=z4v w:=by simpa using h2
       have:¬ (s1.1.length:Int)<=z4v w:=by omega
       simp[this]
theorem z03s {d:z0b} {i:Int} {b:List Int} {r:Unit}:∀ {l:List Int} {st:List z08×List Int},zcm (zjz d i b) l st = .inl r->zjt (l.foldl (hdG d i b) st).1=false
 |[],st,h=>by simp[zcm]at h
 | v::l,st,h=>by
   simp only[zcm]at h
   rw[List.foldl_cons]
   cases e:zjz d i b st v with
   |inr s1=>rw[e]at h;rw[<-zrl e];exact z03s h
   | inl _=>
     obtain⟨r',hr⟩:=z09a (d:=d) (i:=i) (b:=b) (l:=l) (s:=hdG d i b st v)
     rw[hr]
     unfold zjz at e
     by_cases hm:zhh d i b v∈st.1
     . rw[if_pos hm]at e;cases e
     . rw [if_neg hm]at e
       by_cases hc:st.1.length=30\/8<z8z (z2a st.1) (z7g d b)
       . have:(hdG d i b st v).1=st.1++[zhh d i b v]:=by unfold hdG;rw[if_neg hm]
         rw[this,Bool.eq_false_iff]
         intro ha
         rcases hc with hc|hc
         . have:=zdz ha
           simp only[List.length_append,List.length_cons,List.length_nil]at this
           omega
         . unfold zjt at ha
           simp only[Bool.and_eq_true]at ha
           obtain⟨r2,hr2⟩:=z0bu (st.1++[zhh d i b v]) r'
           rw[hr2,z8s]at ha
           have:=List.all_eq_true.mp ha.2 (z8z (z2a st.1) (zhh d i b v).2.2.1) (by simp)
           have:z8z (z2a st.1) (z7g d b)<=8:=of_decide_eq_true this
           omega
       . rw[if_neg hc]at e;cases e
theorem zpg {d:z0b} {i:Int} {b:List Int}:∀ {l:List Int} {st:List z08×List Int},(∀ v∈l,0<=v/\v<5)->st.2.length=5->
  (l.foldl (hdG d i b) st).2.length=5/\∀ k:Nat,k<5->((k:Int)∈l->∃ n:Int,iAt (l.foldl (hdG d i b) st).2 k = -1 - n/\0<=n/\n<((l.foldl (hdG d i b) st).1.length:Int))/\((k:Int)∉l->iAt (l.foldl (hdG d i b) st).2 k=iAt st.2 k)
 |[],st,_,h5=>⟨h5,fun k _=>⟨by simp,by simp⟩⟩
 | v::l,st,hv,h5=>by
   rw[List.foldl_cons]
   have hvr:=hv v (by simp)
   have hset:∃ n:Int,(hdG d i b st v).2=st.2.set v.toNat (-1 - n)/\0<=n/\n<((hdG d i b st v).1.length:Int):=by
    unfold hdG
    split
    . rename_i hm
      have:=zrr hm
      exact⟨_,rfl,this.1,this.2⟩
    . exact⟨_,rfl,by omega,by simp;omega⟩
   obtain⟨n,e1,e2,e3⟩:=hset
   have h5':(hdG d i b st v).2.length=5:=by rw[zwg];exact h5
   obtain⟨g1,g2⟩:=zpg (d:=d) (i:=i) (b:=b) (l:=l) (st:=hdG d i b st v) (fun u hu=>hv u (by simp[hu])) h5'
   have hge:=z04r (d:=d) (i:=i) (b:=b) (l:=l) (s:=hdG d i b st v)
   refine⟨g1,fun k hk=>?_⟩
   obtain⟨q1,q2⟩:=g2 k hk
   refine⟨fun hm=>?_,fun hm=>?_⟩
   . by_cases hkl:(k:Int)∈l
     . exact q1 hkl
     . have hkv:(k:Int)=v:=(List.mem_cons.mp hm).resolve_right hkl
       refine⟨n,?_,e2,by omega⟩
       rw[q2 hkl,e1,zkp (by omega),if_pos (by omega)]
   . have hkl:(k:Int)∉l:=fun h=>hm (by simp[h])
     have hkv:¬ (k:Int)=v:=fun h=>hm (by simp[h])
     rw[q2 hkl,e1,zkp (by omega),if_neg (by omega)]
def za6 (s:TSk) (d:z0b) (i:Int) (b:List Int):TSk:=((s.1.1,(zpo (s.1.2.1++z8j d (hdS s.2.1 d i b).2),())),((hdS s.2.1 d i b).1,()))
theorem zg1 (d:z0b) (vs:List Int):z8j d vs=d.2.1.map fun a=>inst a vs:=by unfold z8j;rw[zj1,List.nil_append]
theorem z0cb {l:List z0s} {fs:List z00} (h1:zag l=true) (h2:asc fs) (h3:fs.length<=30) (h4:∀ f∈fs,zpe l f=true/\(zaa l f.1=true->zzn f=[])):z3a (l,(fs,()))=true:=by
 rw[zqx (x:=(l,(fs,()))) fun i hi=>?_]
 . simp only[h1,Bool.true_and];exact decide_eq_true h3
 . have hi:i<fs.length:=hi
   have hf:=h4 _ (List.getElem_mem hi)
   rw[zbh (x:=(l,(fs,()))) hi hf.1 (fun h0=>by simp only;rw[z2p (by omega)];exact h2 _ _ hi (by omega))]
   simp only
   cases hs:zaa l fs[i].1 with
   |false=>rfl
   |true=>rw[hf.2 hs];rfl
theorem z079 {x:z0e} (h:z3a x=true) {f:z00} (hf:f∈x.2.1) (hs:zaa x.1 f.1=true):zzn f=[]:=by
 unfold z3a at h
 rw[Bool.and_eq_true]at h
 obtain⟨i,hi,rfl⟩:=List.mem_iff_getElem.mp hf
 have:=List.all_eq_true.mp h.2 i (List.mem_range.mpr hi)
 unfold z95 at this
 rw[Bool.and_eq_true,z2p hi,hs,Bool.true_and]at this
 have h2:=this.2
 simp at h2
 exact h2
theorem z0g1 {a:z00} {c:List Int} (h:∀ t∈a.2.1,znb (if 0<=t then iAt c t.toNat else -1 - t)=true) (ht:∀ t∈a.2.1,t<c.length):zai a c=true/\inst a c=(a.1,(a.2.1.map (fun t=>if 0<=t then iAt c t.toNat else -1 - t),())):=by
 refine z04l (a:=a) (c:=c) (f:=(a.1,(a.2.1.map (fun t=>if 0<=t then iAt c t.toNat else -1 - t),()))) rfl (by simp) (fun p hp=>?_) (fun v hv=>?_) ht
 . simp only at hp
   obtain⟨j,hj,rfl⟩:=List.mem_iff_getElem.mp hp
   rw[List.getElem_zip,List.getElem_map]
   unfold zsx
   simp only
   split
   . rename_i h0;rw[if_neg (by omega)]
   . rename_i h0;rw[if_pos (by omega)]
 . obtain⟨t,ht',rfl⟩:=List.mem_map.mp hv
   exact h t ht'
structure FireOk (s:TSk) (ds:List z0b) (d:z0b) (i:Nat) (b:List Int):Prop where
 sk:vSk s=true
 pl:z4b s.1.1 ds=true
 at_:ds[i]? = some d
 b5:b.length=5
 tB:zvp d b=true
 tF:znt s.1 d b=true
theorem z7e {l:List z0s} {ds:List z0b} (h:z4b l ds=true) {d:z0b} (hd:d∈ds):ziz l d=true/\d.2.2.1=false/\ds.length<=5:=by
 unfold z4b at h
 rw[Bool.and_eq_true]at h
 refine⟨zr7 h.1 hd,?_,zmo h.1⟩
 cases he:d.2.2.1 with
 |false=>rfl
 | true=>
   have:(ds.any fun d=>d.2.2.1)=true:=List.any_eq_true.mpr ⟨d,hd,he⟩
   rw[this]at h;simp at h
theorem z05l {l:List z0s} {d:z0b} (h:ziz l d=true) (he:d.2.2.1=false):∀ a∈d.2.1,z74 l a=true/\zaa l a.1=false:=by
 unfold ziz at h
 rw[he]at h
 simp only[Bool.and_eq_true,Bool.false_eq_true,if_false]at h
 intro a ha
 have:=List.all_eq_true.mp h.2.1.1.1 a ha
 rw[Bool.and_eq_true]at this
 exact⟨this.1,by simpa using this.2⟩
theorem z05x {l:List Int} (p:Int->Bool) (h:srt l):srt (l.filter p):=List.Pairwise.filter p h
theorem z03t {l:List z0s} {d:z0b} (h:ziz l d=true):(frV d).length<=5:=by
 have hs:=z6a h
 refine zy5 (a:=0) (n:=5) (z05x _ (zlt _)) fun y hy=>?_
 have:=zj6 hs.2.2.2.2.1 (List.mem_filter.mp hy).1
 omega
theorem z05y (d:z0b) (b:List Int):z7g d b=(frV d).map fun v=>b.getD v.toNat 0:=by unfold z7g;rw[zj1,List.nil_append]
section
variable {s:TSk} {ds:List z0b} {d:z0b} {i:Nat} {b:List Int}
theorem FireOk.lt (h:FireOk s ds d i b):i<ds.length/\d∈ds:=by
 have:=h.at_
 obtain⟨hi,e⟩:=List.getElem?_eq_some_iff.mp this
 exact⟨hi,e ▸ List.getElem_mem hi⟩
theorem FireOk.args (h:FireOk s ds d i b):(z7g d b).length<=5/\(z7g d b).all (zb5 s.2.1.length)=true:=by
 obtain⟨hd,_,_⟩:=z7e h.pl h.lt.2
 have hs:=z6a hd
 rw[z05y]
 refine⟨by rw[List.length_map];exact z03t hd,List.all_eq_true.mpr fun w hw=>?_⟩
 obtain⟨v,hv,rfl⟩:=List.mem_map.mp hw
 have h1:=List.mem_filter.mp hv
 have h2:v∈vars d.1:=of_decide_eq_true h1.2
 have h3:=zj6 hs.2.2.1 h2
 have:=z03r (k:=v.toNat) h.tF (by rw[show((v.toNat:Nat):Int)=v by omega];exact h2)
 have hn:=(z5g h.sk).2.1
 show zb5 s.2.1.length (iAt b v.toNat)=true
 unfold zb5
 rw[this.1,Bool.true_and]
 cases hz:z8v (iAt b v.toNat)with
 |false=>rfl
 | true=>
   have:=this.2 hz
   have:¬ (s.2.1.length:Int)<=z4v (iAt b v.toNat):=by omega
   simp[this]
theorem FireOk.hdLen (h:FireOk s ds d i b):(hdS s.2.1 d i b).2.length=5/\(hdS s.2.1 d i b).1.length<=36/\s.2.1.length<=(hdS s.2.1 d i b).1.length:=by
 obtain⟨hd,_,_⟩:=z7e h.pl h.lt.2
 have h6:=z0ev hd
 have ht:=zdz (z5g h.sk).2.2
 have h1:=(zpg (d:=d) (i:=i) (b:=b) (l:=exV d) (st:=(s.2.1,b)) (fun v hv=>zf2 hd hv) h.b5).1
 have h2:=z88 (l:=exV d) (g:=hdG d i b) (s:=(s.2.1,b)) (μ:=fun st=>st.1.length) (c:=1) fun st v _=>zwc d i b st v
 have h3:=z04r (d:=d) (i:=i) (b:=b) (l:=exV d) (s:=(s.2.1,b))
 simp only at h2 h3
 exact⟨h1,by unfold hdS;omega,h3⟩
theorem FireOk.vals (h:FireOk s ds d i b) {a:z00} (ha:a∈d.2.1) {t:Int} (ht:t∈a.2.1) :
  znb (if 0<=t then iAt (hdS s.2.1 d i b).2 t.toNat else -1 - t)=true/\(z8v (if 0<=t then iAt (hdS s.2.1 d i b).2 t.toNat else -1 - t)=true->z4v (if 0<=t then iAt (hdS s.2.1 d i b).2 t.toNat else -1 - t)<(hdS s.2.1 d i b).1.length):=by
 obtain⟨hd,he,_⟩:=z7e h.pl h.lt.2
 have hs:=z6a hd
 have hrow:=zpp (hs.2.2.2.2.1 a ha)
 have htr:=hrow.2 t ht
 obtain⟨_,hl2,hl3⟩:=h.hdLen
 by_cases h0:0<=t
 . rw[if_pos h0]
   obtain⟨g1,g2⟩:=(zpg (d:=d) (i:=i) (b:=b) (l:=exV d) (st:=(s.2.1,b)) (fun v hv=>zf2 hd hv) h.b5).2 t.toNat (by omega)
   rw[show((t.toNat:Nat):Int)=t by omega]at g1 g2
   by_cases hx:t∈exV d
   . obtain⟨n,e1,e2,e3⟩:=g1 hx
     have e1:iAt (hdS s.2.1 d i b).2 t.toNat = -1 - n:=e1
     have e3:n<((hdS s.2.1 d i b).1.length:Int):=e3
     rw[e1]
     have hn:z8v (-1 - n)=true:=isNul_iff.mpr ⟨by omega,by omega⟩
     refine⟨inR_iff.mpr ⟨by omega,by omega⟩,fun _=>?_⟩
     unfold z4v;rw[if_pos hn];omega
   . have e1:iAt (hdS s.2.1 d i b).2 t.toNat=iAt b t.toNat:=g2 hx
     rw[e1]
     have htv:t∈vars d.2.1:=by
      rw[show t=((t.toNat:Nat):Int) by omega,mem_vars]
      exact⟨a,ha,by rw[show((t.toNat:Nat):Int)=t by omega];exact ht⟩
     have htb:t∈vars d.1:=by
      refine Classical.byContradiction fun hn=>hx ?_
      unfold exV
      exact List.mem_filter.mpr ⟨htv,by simp[hn]⟩
     have:=z03r (k:=t.toNat) h.tF (by rw[show((t.toNat:Nat):Int)=t by omega];exact htb)
     have hn:=(z5g h.sk).2.1
     exact⟨this.1,fun hz=>by have:=this.2 hz;omega⟩
 . rw[if_neg h0]
   refine⟨inR_iff.mpr ⟨by omega,by omega⟩,fun hn=>?_⟩
   have:=isNul_iff.mp hn
   omega
theorem FireOk.head (h:FireOk s ds d i b) {f:z00} (hf:f∈z8j d (hdS s.2.1 d i b).2):zpe s.1.1 f=true/\(zaa s.1.1 f.1=true->zzn f=[])/\(∀ v∈f.2.1,z8v v=true->z4v v<(hdS s.2.1 d i b).1.length)/\f.2.1.length<=3:=by
 obtain⟨hd,he,_⟩:=z7e h.pl h.lt.2
 rw[zg1]at hf
 obtain⟨a,ha,rfl⟩:=List.mem_map.mp hf
 obtain⟨hva,hsrc⟩:=z05l hd he a ha
 have hrow:=zpp hva
 obtain⟨hl1,_,_⟩:=h.hdLen
 obtain⟨_,e⟩:=z0g1 (a:=a) (c:=(hdS s.2.1 d i b).2) (fun t ht=>(h.vals ha ht).1) (fun t ht=>by have:=(hrow.2 t ht).2;omega)
 rw[e]
 refine⟨?_,fun hs=>?_,fun v hv hn=>?_,by simpa using hrow.1⟩
 . unfold zpe zxp
   have hva':=hva
   unfold z74 zxp at hva'
   simp only[Bool.and_eq_true]at hva' ⊢
   refine⟨⟨⟨hva'.1.1.1,hva'.1.1.2⟩,by simpa using hva'.1.2⟩,List.all_eq_true.mpr fun v hv=>?_⟩
   obtain⟨t,ht,rfl⟩:=List.mem_map.mp hv
   exact(h.vals ha ht).1
 . rw[hsrc]at hs;cases hs
 . obtain⟨t,ht,rfl⟩:=List.mem_map.mp hv
   exact(h.vals ha ht).2 hn
theorem FireOk.inst (h:FireOk s ds d i b):z3a (za6 s d i b).1=decide ((za6 s d i b).1.2.1.length<=30)/\zi5 (za6 s d i b).1<=(hdS s.2.1 d i b).1.length/\∀ f∈(za6 s d i b).1.2.1,f.2.1.length<=3:=by
 have hx:=(z5y h.sk).1
 have hmem:∀ f∈(za6 s d i b).1.2.1,f∈s.1.2.1\/f∈z8j d (hdS s.2.1 d i b).2:=fun f hf=>List.mem_append.mp (facS_mem.mp hf)
 refine⟨?_,?_,fun f hf=>?_⟩
 . by_cases hl:(za6 s d i b).1.2.1.length<=30
   . rw[decide_eq_true hl]
     refine z0cb (zfo hx) (z04a _) hl fun f hf=>?_
     rcases hmem f hf with hf|hf
     . exact⟨z6o hx hf,z079 hx hf⟩
     . exact⟨(h.head hf).1,(h.head hf).2.1⟩
   . rw[decide_eq_false hl,Bool.eq_false_iff]
     exact fun h'=>hl (z4k h')
 . refine nextN_le.mpr fun k hk=>?_
   unfold zhd at hk
   rw[mem_sset,List.mem_flatMap]at hk
   obtain⟨f,hf,hk⟩:=hk
   obtain⟨k1,k2,k3⟩:=mem_nulls.mp hk
   have hn:z8v (-1 - k)=true:=isNul_iff.mpr ⟨by omega,by omega⟩
   have hno:z4v (-1 - k)=k:=by unfold z4v;rw[if_pos hn];omega
   rcases hmem f hf with hf|hf
   . have h1:=zri hf k3 hn
     have h2:=(z5g h.sk).2.1
     have h3:=h.hdLen.2.2
     omega
   . have:=(h.head hf).2.2.1 _ k3 hn
     omega
 . rcases hmem f hf with hf|hf
   . exact(z37 (z6o hx hf)).2.2.2.2.1
   . exact(h.head hf).2.2.2
theorem FireOk.next (h:FireOk s ds d i b):vSk (za6 s d i b)=(zjt (hdS s.2.1 d i b).1&&decide ((za6 s d i b).1.2.1.length<=30)):=by
 obtain⟨h1,h2,_⟩:=h.inst
 unfold vSk
 have e:(za6 s d i b).2.1=(hdS s.2.1 d i b).1:=rfl
 rw[h1,e,decide_eq_true h2,Bool.and_true,Bool.and_comm]
theorem FireOk.run (h:FireOk s ds d i b):(∀ st,zcm (zjz d i b) (exV d) (s.2.1,b) = .inr st->st=hdS s.2.1 d i b/\zjt (hdS s.2.1 d i b).1=true)/\(∀ r,zcm (zjz d i b) (exV d) (s.2.1,b) = .inl r->zjt (hdS s.2.1 d i b).1=false):=by
 obtain⟨hd,_,h5⟩:=z7e h.pl h.lt.2
 have hi:=h.lt.1
 refine⟨fun st hr=>?_,fun r hr=>z03s hr⟩
 have e:=zr8 hr
 refine⟨e,?_⟩
 have:=zwf (inR_iff.mpr ⟨by omega,by omega⟩) h.args.1 (fun v hv=>by have:=zf2 hd hv;exact inR_iff.mpr ⟨by omega,by omega⟩) h.args.2 (z5g h.sk).2.2 hr
 rw[e]at this
 exact this
end
def zs8 (s:TSk) (d:z0b) (i:Nat) (b:List Int):TSk×Bool:=if zjt (hdS s.2.1 d i b).1 then(za6 s d i b,decide ((za6 s d i b).1.2.1.length<=30))else(s,false)
section
variable {s:TSk} {ds:List z0b} {d:z0b} {i:Nat} {b:List Int}
theorem FireOk.res (h:FireOk s ds d i b):(zs8 s d i b).2=vSk (za6 s d i b)/\(vSk (za6 s d i b)=true->(zs8 s d i b).1=za6 s d i b):=by
 rw[h.next]
 unfold zs8
 cases zjt (hdS s.2.1 d i b).1 with
 |true=>exact⟨rfl,fun _=>rfl⟩
 |false=>exact⟨rfl,fun h=>by cases h⟩
theorem FireOk.getD_ (h:FireOk s ds d i b):ds.getD (Int.toNat (i:Int)) z67=d:=by
 rw[Int.toNat_natCast,List.getD_eq_getElem?_getD,h.at_];rfl
theorem z05z (h:FireOk s ds d i b):znc s ds i b (zs8 s d i b).1 (zs8 s d i b).2:=z05v _ _ _ _ _ _ (by
 unfold zv5
 obtain⟨hd,he,_⟩:=z7e h.pl h.lt.2
 have hs:=z6a hd
 have hil:=h.lt.1
 have hb:=h.b5
 have hts:=zdz (z5g h.sk).2.2
 have hfl:=z03t hd
 have hx:=(z5y h.sk).1
 have hxl:=z4k hx
 rw[h.getD_]
 refine inI hil ⟨_,z8f (by omega) (by omega),?_⟩
 refine z1g (frV d) (fun s v=>s++[b.getD v.toNat 0]) [] (fun j s=>((j:Int),(s,()))) List.length 1 5 hfl (fun s v _=>by simp) ?_ ?_
 . intro j hj a X hs' hX
   have hv:=zj6 hs.2.2.2.2.1 (List.mem_filter.mp (List.getElem_mem hj)).1
   refine z0g fun _=>bcI hj (inI hj ?_)
   simp only
   rw[z1m hj,z02 (by omega)]
   exact⟨⟨by omega,by omega⟩,by simp only[z0v,List.length_cons,List.length_nil]at *;omega,hX⟩
 . intro X _
   have efr:(frV d).foldl (fun s v=>s++[b.getD v.toNat 0]) []=z7g d b:=rfl
   rw[efr]
   have hal:=h.args.1
   refine z0g fun _=>bcN ⟨by simp only[z0v,List.length_nil];omega,?_⟩
   refine inI hil ⟨_,z63 (by omega) (by omega),?_⟩
   simp only[List.nil_append]
   refine zjf (exV d) (zjz d i b) (s.2.1,b) (fun j st=>((j:Int),(((([]:List z0s),(([]:List z00),())),(([]:List z08),())),((s.1,(st.1,())),(st.2,()))))) (KR:=fun _=>((s,(false,())):TSk×Bool×Unit)=((zs8 s d i b).1,((zs8 s d i b).2,()))) ?_ ?_ ?_
   . intro j hj st Y hr q1 q2
     have hv:=zf2 hd (List.getElem_mem hj)
     have e0:=zr8 hr
     have h5:st.2.length=5:=by
      rw[e0]
      exact(zpg (d:=d) (i:=i) (b:=b) (l:=(exV d).take j) (st:=(s.2.1,b)) (fun v hv=>zf2 hd (List.mem_of_mem_take hv)) hb).1
     have hta:zjt st.1=true:=zwf (inR_iff.mpr ⟨by omega,by have:=(z7e h.pl h.lt.2).2.2;omega⟩) hal (fun v hv=>by have:=zf2 hd (List.mem_of_mem_take hv);exact inR_iff.mpr ⟨by omega,by omega⟩) h.args.2 (z5g h.sk).2.2 hr
     have htl:=zdz hta
     refine z0g fun _=>bcI hj (inI hj ⟨trivial,trivial,by simp only[z0v,List.length_nil];omega,?_⟩)
     simp only
     rw[z1m hj,z02 (by omega)]
     have et:(((i:Int),((exV d)[j],(z7g d b,()))):z08)=zhh d i b (exV d)[j]:=rfl
     rw[et]
     refine⟨_,_,_,zyk htl,?_⟩
     unfold zoq
     simp only
     by_cases hm:zhh d i b (exV d)[j]∈st.1
     . rw[if_pos hm]
       refine z0u (fun h=>by cases h) (fun _=>inI hj ⟨⟨by omega,by omega⟩,?_⟩)
       have:=q2 (hdG d i b st (exV d)[j]) (by unfold zjz;rw[if_pos hm])
       unfold hdG at this
       rw[if_pos hm]at this
       exact this
     . rw[if_neg hm]
       have ea:(zhh d i b (exV d)[j]).2.2.1=z7g d b:=rfl
       rw[ea]
       by_cases hc:st.1.length=30\/8<z8z (z2a st.1) (z7g d b)
       . rw[if_pos hc]
         exact z0u (fun _=>q1 () (by unfold zjz;rw[if_neg hm,if_pos hc])) (fun h=>by cases h)
       . rw[if_neg hc]
         refine z0u (fun h=>by cases h) (fun _=>inI hj ⟨⟨by omega,by omega⟩,?_⟩)
         have:=q2 (hdG d i b st (exV d)[j]) (by unfold zjz;rw[if_neg hm,if_neg hc])
         unfold hdG at this
         rw[if_neg hm]at this
         exact this
   . intro st Y hr
     obtain⟨rfl,hta⟩:=h.run.1 st hr
     refine z0g fun _=>bcN ?_
     obtain⟨hl1,hl2,hl3⟩:=h.hdLen
     simp only
     generalize hvs:(hdS s.2.1 d i b).2=vs at hl1 ⊢
     have hm:∀ k,(((d.2.1.take k).map fun a=>inst a vs).foldl zo2 s.1.2.1).length<=32:=fun k=>by
      have:=zr4 (l:=(d.2.1.take k).map fun a=>inst a vs) (m:=s.1.2.1)
      rw[List.length_map,List.length_take]at this
      omega
     refine z0x d.2.1.length (fun k=>((k:Int),(((s.1.1,(((d.2.1.take k).map fun a=>inst a vs).foldl zo2 s.1.2.1,())),((hdS s.2.1 d i b).1,())),()))) (by simp) ?_ ?_
     . intro k hk Z hZ
       have hr:=zpp (hs.2.2.2.2.1 _ (List.getElem_mem hk))
       have hmk:=hm k
       have hil2:=z0by (a:=d.2.1[k]) (b:=vs)
       refine inI hil (z0g fun _=>bcI hk (inI hil (inI hk ⟨inst d.2.1[k] vs,zai d.2.1[k] vs,?_,_,zw2 (by simp only;omega) (by simp only;omega),?_⟩)))
       . simp only;rw[z1m hk];exact zb0 (by omega) (by omega) hr.2
       . simp only
         rw[z02 (by omega)]
         rw[z07 hk,List.map_append,List.foldl_append]at hZ
         exact hZ
     . intro Z
       refine inI hil (z0g fun _=>bcN (z0g fun _=>?_))
       simp only[List.take_length]
       have e:(d.2.1.map fun a=>inst a vs).foldl zo2 s.1.2.1=zpo (s.1.2.1++z8j d (hdS s.2.1 d i b).2):=by
        rw[hvs,zg1];exact z00j hx _
       rw[e]
       unfold zs8
       rw[hta,if_pos rfl]
       have e2:decide (((zpo (s.1.2.1++z8j d (hdS s.2.1 d i b).2)).length:Int)<=30)=decide ((za6 s d i b).1.2.1.length<=30):=decide_eq_decide.mpr (by unfold za6;simp only;omega)
       rw[e2];rfl
   . intro r hr
     have:=h.run.2 r hr
     unfold zs8
     rw[this];rfl)
end
theorem ztl {s:TSk} {ds:List z0b} {d:z0b} {i:Nat} {b:List Int} (h:FireOk s ds d i b):zeu s ds i b (if vSk (za6 s d i b)then za6 s d i b else s) (vSk (za6 s d i b)):=zsu _ _ _ _ _ _ (by
 unfold zki
 obtain⟨hd,he,h5⟩:=z7e h.pl h.lt.2
 have hs:=z6a hd
 have hil:=h.lt.1
 have hts:=zdz (z5g h.sk).2.2
 have hx:=(z5y h.sk).1
 have hxl:=z4k hx
 have hcp:z44 s s:=zxw h.sk
 have hsm:=SmS.of h.sk
 have no:vSk (za6 s d i b)=false->((s,(false,())):TSk×Bool×Unit)=(if vSk (za6 s d i b)then za6 s d i b else s,(vSk (za6 s d i b),())):=fun h=>by rw[h];rfl
 refine⟨_,z3k,z0u (fun h'=>by rw[h.sk]at h';cases h') (fun _=>⟨_,zg8,z0u (fun h'=>by rw[h.pl]at h';cases h') (fun _=>z0g fun hl=>?_)⟩)⟩
 rw[z2l (n:=(ds.length:Int) - 1) (by omega) (by omega)]
 have hin:inR (i:Int) 0 ((ds.length:Int) - 1)=true:=inR_iff.mpr ⟨by omega,by omega⟩
 refine⟨_,z96,z0u (fun h'=>by rw[hin]at h';cases h') (fun _=>inI hil ?_)⟩
 rw[h.getD_]
 have htr:zkh s.1 d b=true:=by unfold zkh;rw[hx,hd,h.tB,h.tF,h.b5];rfl
 refine⟨_,zoj,z0u (fun h'=>by rw[htr]at h';cases h') (fun _=>?_)⟩
 have hdi:ds[i]=d:=by have:=h.at_;rw[List.getElem?_eq_getElem hil]at this;exact Option.some.inj this
 have hg:=zzj (ts:=s.2.1) (b:=b) hil (by rw[hdi];exact z091 hd) hts h.b5
 rw[hdi]at hg
 refine⟨_,_,hg,?_⟩
 obtain⟨hl1,hl2,hl3⟩:=h.hdLen
 have hal:=h.args.1
 have hhl:(z8j d (hdS s.2.1 d i b).2).length<=2:=by rw[zg1,List.length_map];exact hs.2.2.2.1
 have hta:∀ t∈(hdS s.2.1 d i b).1,t.2.2.1.length<=1048576:=by
  have:∀(l:List Int) (st:List z08×List Int),(∀ t∈st.1,t.2.2.1.length<=1048576)->∀ t∈(l.foldl (hdG d i b) st).1,t.2.2.1.length<=1048576:=by
   intro l
   induction l with
   |nil=>intro st h;exact h
   | cons v l ih=>
     intro st hst
     rw[List.foldl_cons]
     refine ih _ fun t ht=>?_
     unfold hdG at ht
     split at ht
     . exact hst t ht
     . rcases List.mem_append.mp ht with ht|ht
       . exact hst t ht
       . obtain rfl:t=zhh d i b v:=by simpa using ht
         show(z7g d b).length<=_
         omega
  exact this (exV d) (s.2.1,b) hsm.args
 refine⟨_,zk6 (s:=(s.1,((hdS s.2.1 d i b).1,()))) ⟨hsm.rels,hsm.few,hsm.row,by simp only;omega,hta⟩,by simp only[z0v];omega,_,z01o (by simp only[List.length_append];omega) (fun f hf=>?_),_,z3k,?_⟩
 . rcases List.mem_append.mp hf with hf|hf
   . have:=(z37 (z6o hx hf)).2.2.2.2.1;omega
   . have:=(h.head hf).2.2.2;omega
 . have e:(((s.1.1,(zpo (s.1.2.1++z8j d (hdS s.2.1 d i b).2),s.1.2.2)),((hdS s.2.1 d i b).1,())):TSk)=za6 s d i b:=rfl
   simp only
   rw[e]
   exact z0u (fun hv=>⟨s,hcp,no hv⟩) (fun hv=>by rw[hv];rfl))
def zv9 (d:z0b) (i:Nat) (st:TSk) (b:List Int):Unit ⊕ TSk:=if vSk (za6 st d i b)then .inr (za6 st d i b)else .inl ()
def depE (ds:List z0b) (st:TSk) (i:Nat):Unit ⊕ TSk:=zcm (zv9 (ds.getD i z67) i) (z9t st.1 (ds.getD i z67).1) st
def z00d (ds:List z0b) (st:TSk):Unit ⊕ TSk:=zcm (depE ds) (List.range ds.length) st
def zfi (ds:List z0b):Nat->TSk->Unit ⊕ TSk
 |0,st=>.inr st
 | n+1,st=>match z00d ds st with
   |.inl _=>.inl ()
   |.inr st'=>if st'.1.2.1.length=st.1.2.1.length then .inr st' else zfi ds n st'
def skc (s:TSk) (ds:List z0b):TSk×Bool:=if vSk s&&z4b s.1.1 ds then(match zfi ds 31 s with
 |.inl _=>(s,false)
 |.inr y=>(y,true))else(s,false)
structure Goes (a b:TSk):Prop where
 sk:vSk b=true
 rels:b.1.1=a.1.1
 sub:∀ f∈a.1.2.1,f∈b.1.2.1
 len:a.1.2.1.length<=b.1.2.1.length
theorem Goes.refl {a:TSk} (h:vSk a=true):Goes a a:=⟨h,rfl,fun _ h=>h,Nat.le_refl _⟩
theorem Goes.trans {a b c:TSk} (h1:Goes a b) (h2:Goes b c):Goes a c:=⟨h2.sk,h2.rels.trans h1.rels,fun f hf=>h2.sub f (h1.sub f hf),Nat.le_trans h1.len h2.len⟩
theorem z0fz {l:List z00} {f:z00}:l.length<=(zo2 l f).length:=by
 unfold zo2
 split
 . exact Nat.le_refl _
 . simp only[List.length_append,List.length_cons,List.length_take,List.length_drop];omega
theorem z04y:∀ {l m:List z00},m.length<=(l.foldl zo2 m).length
 |[],m=>Nat.le_refl _
 |a::l,m=>by rw[List.foldl_cons];exact Nat.le_trans z0fz (z04y (l:=l))
theorem zsf {d:z0b} {i:Nat} {st st':TSk} {b:List Int} (hv:vSk st=true) (h:zv9 d i st b = .inr st'):Goes st st':=by
 unfold zv9 at h
 split at h
 . rename_i hn
   obtain rfl:=Sum.inr.inj h
   refine⟨hn,rfl,fun f hf=>facS_mem.mpr (List.mem_append_left _ hf),?_⟩
   show st.1.2.1.length<=(zpo (st.1.2.1++_)).length
   rw[<-z00j (z5y hv).1]
   exact z04y
 . cases h
theorem zhq {α:Type} {g:TSk->α->Unit ⊕ TSk} (hg:∀ st a st',vSk st=true->g st a = .inr st'->Goes st st'):∀ {l:List α} {st st':TSk},vSk st=true->zcm g l st = .inr st'->Goes st st'
 |[],st,st',hv,h=>by simp only[zcm,Sum.inr.injEq]at h;subst h;exact .refl hv
 | a::l,st,st',hv,h=>by
   simp only[zcm]at h
   cases e:g st a with
   |inl _=>rw[e]at h;simp at h
   | inr s1=>
     rw[e]at h
     have h1:=hg st a s1 hv e
     exact h1.trans (zhq hg h1.sk h)
theorem zz6 {ds:List z0b} {st st':TSk} {i:Nat} (hv:vSk st=true) (h:depE ds st i = .inr st'):Goes st st':=zhq (fun st b st' hv h=>zsf hv h) hv h
theorem zs5 {ds:List z0b} {st st':TSk} (hv:vSk st=true) (h:z00d ds st = .inr st'):Goes st st':=zhq (fun st b st' hv h=>zz6 hv h) hv h
theorem z0ff {ds:List z0b} {st0 st:TSk} {i:Nat} (hi:i<ds.length) (hp:z4b st0.1.1 ds=true) (hg:Goes st0 st) {b:List Int} (hb:b∈z9t st0.1 (ds.getD i z67).1):FireOk st ds (ds.getD i z67) i b:=by
 obtain⟨h5,hB,hF⟩:=zv6 hb
 exact⟨hg.sk,by rw[hg.rels];exact hp,by rw[List.getD_eq_getElem?_getD,List.getElem?_eq_getElem hi];rfl,h5,hB,z063 hg.sub hF⟩
theorem z0gb {s:TSk} (h:vSk s=true):s.1.2.1.length<=30:=z4k (z5y h).1
theorem z098 {s:TSk} {ds:List z0b} (h:(vSk s&&z4b s.1.1 ds)=false):skc s ds=(s,false):=by unfold skc;rw[h];rfl
theorem z077 {s:TSk} {ds:List z0b} {r:Unit} (h:(vSk s&&z4b s.1.1 ds)=true) (hr:zfi ds 31 s = .inl r):skc s ds=(s,false):=by unfold skc;rw[h,hr];rfl
theorem z08e {s y:TSk} {ds:List z0b} (h:(vSk s&&z4b s.1.1 ds)=true) (hr:zfi ds 31 s = .inr y):skc s ds=(y,true):=by unfold skc;rw[h,hr];rfl
theorem zt2 {s:TSk} {ds:List z0b} (hsm:SmS s):zex s ds (skc s ds).1 (skc s ds).2:=ztk _ _ _ _ (by
 unfold zk3
 have hcp:zfh s s:=zz2 hsm
 refine⟨s,hcp,_,z4i,z0u (fun h=>by rw[z098 (by rw[h];rfl)]) (fun h1=>⟨_,zge,z0u (fun h=>by rw[z098 (by rw[h1,h];rfl)]) (fun h2=>?_)⟩)⟩
 have h12:(vSk s&&z4b s.1.1 ds)=true:=by rw[h1,h2];rfl
 have h5:ds.length<=5:=by have h3:=h2;unfold z4b at h3;rw[Bool.and_eq_true]at h3;exact zmo h3.1
 refine z1i (fun k a=>∃ st:TSk,a=(st,(((([]:List z0s),(([]:List z00),())),(([]:List z08),())),()))/\Goes s st/\30<st.1.2.1.length+k/\zfi ds k st=zfi ds 31 s) ?_ ?_ (n:=31) ⟨s,rfl,.refl h1,by omega,rfl⟩
 . rintro a ⟨st,rfl,hg,hk,_⟩ X
   have:=z0gb hg.sk
   omega
 . rintro k a ⟨st,rfl,hg,hk,hc⟩ X hX
   have hpl:z4b st.1.1 ds=true:=by rw[hg.rels];exact h2
   have bad:∀ r:Unit,z00d ds st = .inl r->((s,(false,())):TSk×Bool×Unit)=((skc s ds).1,((skc s ds).2,())):=fun r hr=>by rw[z077 (r:=()) h12 (by rw[<-hc,zfi,hr])]
   refine z0g fun _=>?_
   simp only
   refine zjf (List.range ds.length) (depE ds) st (fun i q=>((i:Int),(((([]:List z0s),(([]:List z00),())),(([]:List z08),())),(q,())))) (KR:=fun _=>((s,(false,())):TSk×Bool×Unit)=((skc s ds).1,((skc s ds).2,()))) ?_ ?_ bad
   . intro i hi q Y hr q1 q2
     have hi:i<ds.length:=by simpa using hi
     rw[List.getElem_range]at q1 q2
     have hq:Goes st q:=zhq (fun st b st' hv h=>zz6 hv h) hg.sk hr
     have hpq:z4b q.1.1 ds=true:=by rw[hq.rels];exact hpl
     refine z0g fun _=>bcI hi (inI hi ⟨_,zke,?_⟩)
     simp only
     rw[Int.toNat_natCast,z02 (by omega)]
     have hM:=zmf (x:=q.1) (l:=(ds.getD i z67).1)
     refine zjf (z9t q.1 (ds.getD i z67).1) (zv9 (ds.getD i z67) i) q (fun j p=>((j:Int),(((([]:List z0s),(([]:List z00),())),(([]:List z08),())),(p,())))) (KR:=fun _=>((s,(false,())):TSk×Bool×Unit)=((skc s ds).1,((skc s ds).2,()))) ?_ ?_ q1
     . intro j hj p Z hr2 p1 p2
       have hp:Goes q p:=zhq (fun st b st' hv h=>zsf hv h) hq.sk hr2
       have hf:=z0ff hi hpq hp (List.getElem_mem hj)
       obtain⟨r1,r2⟩:=hf.res
       refine z0g fun _=>bcI hj (inI hj ⟨trivial,(zs8 p (ds.getD i z67) i (z9t q.1 (ds.getD i z67).1)[j]).1,(zs8 p (ds.getD i z67) i (z9t q.1 (ds.getD i z67).1)[j]).2,?_,?_⟩)
       . simp only
         rw[z1m hj]
         exact z05z hf
       . simp only
         rw[z02 (by omega),r1]
         refine z0u (fun hv=>⟨s,hcp,p1 () (by unfold zv9;rw[hv];rfl)⟩) (fun hv=>?_)
         rw[r2 hv]
         exact p2 _ (by unfold zv9;rw[hv];rfl)
     . intro p Z hr2
       exact z0g fun _=>bcN (q2 p hr2)
   . intro q Y hr
     have hr:z00d ds st = .inr q:=hr
     have hq:Goes st q:=zs5 hg.sk hr
     simp only[List.length_range]
     refine z0g fun _=>bcN (z0g fun _=>z3t (fun h=>?_) (fun h=>?_))
     . have h:q.1.2.1.length=st.1.2.1.length:=by omega
       rw[z08e (y:=q) h12 (by rw[<-hc,zfi,hr];simp only;rw[if_pos h])]
     . have h:¬ q.1.2.1.length=st.1.2.1.length:=by omega
       have:=hq.len
       exact hX _ ⟨q,rfl,hg.trans hq,by omega,by rw[<-hc,zfi,hr];simp only;rw[if_neg h]⟩)
theorem zql {ds:List z0b}:∀ {n:Nat} {st st':TSk},vSk st=true->zfi ds n st = .inr st'->Goes st st'
 |0,st,st',hv,h=>by simp only[zfi,Sum.inr.injEq]at h;subst h;exact .refl hv
 | n+1,st,st',hv,h=>by
   simp only[zfi]at h
   cases e:z00d ds st with
   |inl _=>rw[e]at h;simp at h
   | inr s1=>
     rw[e]at h
     have h1:=zs5 hv e
     simp only at h
     split at h
     . obtain rfl:=Sum.inr.inj h;exact h1
     . exact h1.trans (zql h1.sk h)
def delF (x:z0e) (f:z00):z0e×Bool:=if z3a x&&decide (f∈x.2.1)then(delI x f,true)else(x,false)
def insF (x:z0e) (f:z00):z0e×Bool:=if z3a x&&(!decide (f∈x.2.1)&&z3a (x.1,(zpo (x.2.1++[f]),())))then((x.1,(zpo (x.2.1++[f]),())),true)else(x,false)
structure SmJ (x:z0e):Prop where
 rels:x.1.length<=1048576
 few:x.2.1.length<=1048576
 row:∀ f∈x.2.1,f.2.1.length<=1048576
theorem zt5 {x:z0e} {f:z00} (hs:SmJ x):z5q x f (delF x f).1 (delF x f).2:=by
 by_cases h:(z3a x&&decide (f∈x.2.1))=true
 . have e:delF x f=(delI x f,true):=by unfold delF;rw[if_pos h]
   rw[Bool.and_eq_true,decide_eq_true_eq]at h
   rw[e]
   exact zvq h.1 h.2
 . have e:delF x f=(x,false):=by unfold delF;rw[if_neg h]
   rw[e]
   refine zm5 _ _ _ _ ?_
   unfold zg6
   have h1:=hs.rels
   have h2:=hs.few
   refine⟨_,zb7 (by omega) (by omega) (fun f hf=>by have:=hs.row f hf;omega),_,z7k,?_⟩
   rw[show(z3a x&&decide (f∈x.2.1))=false by simpa using h]
   exact bcT rfl
theorem zx9 {x:z0e} {f:z00} (h:z3a x=true) (hf:f.2.1.length<=3):z62 x f (insF x f).1 (insF x f).2:=zmc _ _ _ _ (by
 unfold zgs
 have hr:=zfp (zfo h)
 have hl:=z4k h
 have hp:zo2 x.2.1 f=zpo (x.2.1++[f]):=z04g (l:=x.2.1) (m:=[f]) (zlo h)
 refine⟨x,zb7 (by omega) (by omega) (fun f hf=>zsp h hf),_,z2x,?_⟩
 rw[h]
 refine bcF ⟨_,z7k,?_⟩
 rw[h,Bool.true_and]
 refine z1e (fun hm=>by unfold insF;rw[hm];simp) (fun hm=>⟨_,zw2 (x:=x) (by omega) (by omega),?_⟩)
 rw[hp]
 have hn:(zpo (x.2.1++[f])).length<=31:=by have:=zwp (l:=x.2.1++[f]);simp only[List.length_append,List.length_cons,List.length_nil]at this;omega
 refine⟨_,zb7 (x:=(x.1,(zpo (x.2.1++[f]),()))) (by simp only;omega) (by simp only;omega) (fun g hg=>?_),_,z2x,?_⟩
 . have hg:g∈zpo (x.2.1++[f]):=hg
   rcases List.mem_append.mp (facS_mem.mp hg)with hg|hg
   . exact zsp h hg
   . obtain rfl:=List.mem_singleton.mp hg;omega
 . refine z0u (fun hv=>by unfold insF;rw[h,hm,show z3a (x.1,(zpo (x.2.1++[f]),()))=false from hv];rfl) (fun hv=>?_)
   unfold insF
   rw[h,hm,show z3a (x.1,(zpo (x.2.1++[f]),()))=true from hv];rfl)
def Rd {ρ:Type} (P:ρ->Prop) (A:Prop) (B:ρ->Prop):Prop:=A->∃ v,P v/\B v
section
variable {ρ:Type} {P:ρ->Prop}
theorem rk {x:ρ}:Rd P (P x) (fun v=>x=v):=fun h=>⟨x,h,rfl⟩
theorem rb {b:Bool} {A1 A2:Prop} {B1 B2:ρ->Prop} (h1:Rd P A1 B1) (h2:Rd P A2 B2):Rd P (z01 b A1 A2) (fun v=>z01 b (B1 v) (B2 v)):=by
 cases b
 . exact h2
 . exact h1
theorem ra {C A:Prop} {B:ρ->Prop} (h:Rd P A B):Rd P (C/\A) (fun v=>C/\B v):=fun⟨c,a⟩=>(h a).imp fun _ hv=>⟨hv.1,c,hv.2⟩
theorem re {α:Type} {A:α->Prop} {B:α->ρ->Prop} (h:∀ y,Rd P (A y) (B y)):Rd P (∃ y,A y) (fun v=>∃ y,B y v):=fun⟨y,a⟩=>(h y a).imp fun _ hv=>⟨hv.1,y,hv.2⟩
theorem rl (hi:∃ v,P v) {n:Int} {A:Prop} {B:ρ->Prop} (h:Rd P A B):Rd P (z0o n A) (fun v=>z0o n (B v)):=fun a=>by
 by_cases hn:n<=9223372036854775807
 . exact(h (a hn)).imp fun _ hv=>⟨hv.1,fun _=>hv.2⟩
 . exact hi.imp fun _ hv=>⟨hv,fun h=>absurd h hn⟩
theorem rp {σ:Type} {BP:(σ->Prop)->σ->Prop} {BV:ρ->(σ->Prop)->σ->Prop} {a0:σ}
  (h:∀(XP:σ->Prop) (XV:ρ->σ->Prop),(∀ b,Rd P (XP b) (fun v=>XV v b))->∀ a,Rd P (BP XP a) (fun v=>BV v (XV v) a)):Rd P (z0f BP a0) (fun v=>z0f (BV v) a0):=by
 rintro⟨n,hn⟩
 have key:∀ n a,Rd P (zyl BP n a) (fun v=>zyl (BV v) n a):=by
  intro n
  induction n with
  |zero=>intro a h;exact h.elim
  |succ n ih=>intro a;exact h _ (fun v=>zyl (BV v) n) ih a
 exact(key n a0 hn).imp fun _ hv=>⟨hv.1,n,hv.2⟩
theorem zou {S:(ρ->Prop)->Prop} (h:S P) (hi:∃ v,P v) (hr:(∃ v,P v)->Rd P (S P) (fun v=>S (fun q=>q=v))):∃ v,P v/\S (fun q=>q=v):=hr hi h
end
abbrev Src:=List Int×Int×Int×Unit
def Oks (s:Src):Prop:=0<=s.2.1/\s.1.length<=4611686018427387903
theorem z043 (x:Int):0<=zah .and .i64 x 255/\zah .and .i64 x 255<=255:=by
 show 0<=IntKind.i64.wrap ((BitVec.ofInt 64 x &&& BitVec.ofInt 64 255).toNat:Int)/\IntKind.i64.wrap ((BitVec.ofInt 64 x &&& BitVec.ofInt 64 255).toNat:Int)<=255
 have h:(BitVec.ofInt 64 x &&& BitVec.ofInt 64 255).toNat<=255:=by
  rw[BitVec.toNat_and]
  exact Nat.le_trans Nat.and_le_right (by decide)
 generalize (BitVec.ofInt 64 x &&& BitVec.ofInt 64 255).toNat=n at h
 have e:IntKind.i64.wrap (n:Int)=(n:Int):=z2l (by omega) (by omega)
 rw[e];omega
theorem z0gs {s:Src} (h:Oks s):∃ y z,z64 s y z/\(0<=y/\y<=255)/\Oks z:=by
 have hl:=h.2
 have h0:=h.1
 have hs:z9u s (fun q=>(0<=q.1/\q.1<=255)/\Oks q.2.1):=by
  unfold z9u
  refine⟨by decide,by decide,z0g fun _=>z09 (fun hlt=>⟨⟨h0,hlt⟩,z043 _,?_,hl⟩) (fun _=>⟨z043 _,h⟩)⟩
  show 0<=w64 (s.2.1+1)
  rw[z2l (by omega) (by omega)];omega
 obtain⟨⟨y,z,_⟩,hq,hv⟩:=zou (S:=z9u s) hs ⟨(0,(s,())),⟨Int.le_refl (0:Int),(by decide:(0:Int)<=255)⟩,h⟩ fun hi=>by
  unfold z9u
  repeat' first|exact rk|apply_assumption|refine rb ?_ ?_|refine rl hi ?_|refine ra ?_|(refine rp ?_;intro _ _ _ _)|(refine re ?_;intro _)
 exact⟨y,z,zw8 _ _ _ hv,hq.1,hq.2⟩
theorem z5i {s:Src} {n:Int} (h:Oks s) (h1:0<n) (h2:n<=256):∃ y z,z0c s n y z/\(0<=y/\y<n)/\Oks z:=by
 obtain⟨y,z,g,y0,hz⟩:=z0gs h
 refine⟨Int.tmod y n,z,zts _ _ _ _ ?_,⟨?_,?_⟩,hz⟩
 . unfold zk2
   rw[z0dz (by omega)]
   exact z09 (fun _=>⟨y,z,g,by omega,rfl⟩) (fun h=>absurd h2 h)
 . exact Int.tmod_nonneg _ y0.1
 . exact Int.tmod_lt_of_pos _ h1
theorem zxs {s:Src} {n:Int} (h:Oks s) (h1:0<n) (h2:n<=256):∃ y z,z61 s n y z/\Oks z:=by
 obtain⟨y,z,g,_,hz⟩:=z5i h h1 h2
 exact⟨_,z,zwh _ _ _ _ ⟨y,z,g,rfl⟩,hz⟩
theorem z078 {s:Src} {l:List Int} (h:Oks s) (h1:0<l.length) (h2:l.length<=256):∃ y z,zbv s l y z/\Oks z:=by
 obtain⟨y,z,g,hy,hz⟩:=z5i (n:=(l.length:Int)) h (by omega) (by omega)
 exact⟨_,z,zov _ _ _ _ (z0g fun _=>⟨y,z,g,⟨hy.1,hy.2⟩,rfl⟩),hz⟩
def sigs:List z0s:=[([97],(2,(true,()))),([98],(1,(true,()))),([112],(2,(false,()))),([113],(2,(false,()))),([114],(1,(false,())))]
theorem zmy:zfj sigs:=z09p _ rfl
theorem zyw (i:Nat) (h:i<sigs.length):1<=(sigs[i]).2.1/\(sigs[i]).2.1<=2:=by
 match i,h with
 |0,_|2,_|3,_=>exact⟨(by decide:(1:Int)<=2),(by decide:(2:Int)<=2)⟩
 |1,_|4,_=>exact⟨(by decide:(1:Int)<=1),(by decide:(1:Int)<=2)⟩
theorem z0f0 {s:Src} {n:Int} (h:Oks s) (h2:n<=40):∃ y z,zew s n y z/\(-40<=y/\y<3)/\Oks z:=by
 have hs:z8t s n (fun q=>(-40<=q.1/\q.1<3)/\Oks q.2.1):=by
  unfold z8t
  refine z09 (fun hn=>?_) (fun hn=>?_)
  . obtain⟨b,z,g,hz⟩:=zxs h (n:=2) (by decide) (by decide)
    obtain⟨v,z1,g1,hv,hz1⟩:=z5i hz (n:=n) (by omega) (by omega)
    obtain⟨u,z2,g2,hu,hz2⟩:=z5i hz (n:=3) (by decide) (by decide)
    exact⟨b,z,g,z1e (fun _=>⟨v,z1,g1,_,zdw hv.1 (by omega),⟨by simp only;omega,by simp only;omega⟩,hz1⟩) (fun _=>⟨u,z2,g2,⟨by simp only;omega,hu.2⟩,hz2⟩)⟩
  . obtain⟨u,z2,g2,hu,hz2⟩:=z5i h (n:=3) (by decide) (by decide)
    exact⟨u,z2,g2,⟨by simp only;omega,hu.2⟩,hz2⟩
 obtain⟨⟨y,z,_⟩,hq,hv⟩:=zou (S:=z8t s n) hs ⟨(0,(s,())),⟨(by decide:(-40:Int)<=0),(by decide:(0:Int)<3)⟩,h⟩ fun hi=>by
  unfold z8t
  repeat' first|exact rk|apply_assumption|refine rb ?_ ?_|refine ra ?_|(refine rp ?_;intro _ _ _ _)|(refine re ?_;intro _)
 exact⟨y,z,zte _ _ _ _ hv,hq.1,hq.2⟩
def SmR (r:Int) (f:z00):Prop:=f.1=r/\1<=f.2.1.length/\f.2.1.length<=2
theorem z08s {s:Src} {r n:Int} (h:Oks s) (h0:0<=r) (h1:r<5) (h2:n<=40):∃ y z,z4h s r n y z/\SmR r y/\Oks z:=by
 obtain⟨i,rfl⟩:∃ i:Nat,r=(i:Int):=⟨r.toNat,by omega⟩
 have hi:i<sigs.length:=by show i<5;omega
 have ha:=zyw i hi
 have hs:z9i s i n (fun q=>SmR i q.1/\Oks q.2.1):=by
  unfold z9i
  refine⟨_,zmy,?_⟩
  refine z1i (fun k a=>∃(c:Src) (l:List Int),a=(c,(((i:Int),(l,())),()))/\Oks c/\l.length+k=(sigs[i]).2.1.toNat) ?_ ?_ (n:=(sigs[i]).2.1.toNat) ⟨s,[],rfl,h,by simp⟩
  . rintro a ⟨c,l,rfl,hc,hl⟩ X
    refine inI hi (z0g fun _=>?_)
    rw[z1m hi]
    exact z09 (fun h=>by simp only at h;omega) (fun _=>⟨⟨rfl,by simp only;omega,by simp only;omega⟩,hc⟩)
  . rintro k a ⟨c,l,rfl,hc,hl⟩ X hX
    obtain⟨v,z,g,_,hz⟩:=z0f0 hc h2
    refine inI hi (z0g fun _=>?_)
    rw[z1m hi]
    exact z09 (fun h=>⟨v,z,g,by simp only[z0v,List.length_cons,List.length_nil];omega,hX _ ⟨z,l++[v],rfl,hz,by simp;omega⟩⟩) (fun h=>by simp only at h;omega)
 obtain⟨⟨y,z,_⟩,hq,hv⟩:=zou (S:=z9i s i n) hs ⟨((i,([0],())),(s,())),⟨rfl,(by decide:1<=1),(by decide:1<=2)⟩,h⟩ fun hi=>by
  unfold z9i
  repeat' first|exact rk|apply_assumption|refine rb ?_ ?_|refine rl hi ?_|refine ra ?_|(refine rp ?_;intro _ _ _ _)|(refine re ?_;intro _)
 exact⟨y,z,zw9 _ _ _ _ _ hv,hq.1,hq.2⟩
theorem z0dt {s:Src} {r n:Int} (h:Oks s) (h0:0<=r) (h1:r<5) (hn0:0<n) (h2:n<=40):∃ y z,z85 s r n y z/\SmR r y/\Oks z:=by
 obtain⟨i,rfl⟩:∃ i:Nat,r=(i:Int):=⟨r.toNat,by omega⟩
 have hi:i<sigs.length:=by show i<5;omega
 have ha:=zyw i hi
 have hs:zab s i n (fun q=>SmR i q.1/\Oks q.2.1):=by
  unfold zab
  refine⟨_,zmy,?_⟩
  refine z1i (fun k a=>∃(c:Src) (l:List Int),a=(c,(((i:Int),(l,())),()))/\Oks c/\l.length+k=(sigs[i]).2.1.toNat) ?_ ?_ (n:=(sigs[i]).2.1.toNat) ⟨s,[],rfl,h,by simp⟩
  . rintro a ⟨c,l,rfl,hc,hl⟩ X
    refine inI hi (z0g fun _=>?_)
    rw[z1m hi]
    exact z09 (fun h=>by simp only at h;omega) (fun _=>⟨⟨rfl,by simp only;omega,by simp only;omega⟩,hc⟩)
  . rintro k a ⟨c,l,rfl,hc,hl⟩ X hX
    obtain⟨b,z,g,hz⟩:=zxs hc (n:=14) (by decide) (by decide)
    obtain⟨u,z1,g1,_,hz1⟩:=z5i hz (n:=3) (by decide) (by decide)
    obtain⟨v,z2,g2,_,hz2⟩:=z5i hz (n:=n) hn0 (by omega)
    refine inI hi (z0g fun _=>?_)
    rw[z1m hi]
    exact z09 (fun h=>⟨b,z,g,z1e (fun _=>⟨u,z1,g1,by simp only[z0v,List.length_cons,List.length_nil];omega,hX _ ⟨z1,_,rfl,hz1,by simp;omega⟩⟩)
     (fun _=>⟨v,z2,g2,by simp only[z0v,List.length_cons,List.length_nil];omega,hX _ ⟨z2,_,rfl,hz2,by simp;omega⟩⟩)⟩) (fun h=>by simp only at h;omega)
 obtain⟨⟨y,z,_⟩,hq,hv⟩:=zou (S:=zab s i n) hs ⟨((i,([0],())),(s,())),⟨rfl,(by decide:1<=1),(by decide:1<=2)⟩,h⟩ fun hi=>by
  unfold zab
  repeat' first|exact rk|apply_assumption|refine rb ?_ ?_|refine rl hi ?_|refine ra ?_|(refine rp ?_;intro _ _ _ _)|(refine re ?_;intro _)
 exact⟨y,z,zwx _ _ _ _ _ hv,hq.1,hq.2⟩
theorem zt0 {l:List z00} (hl:(l.flatMap (·.2.1)).length<=1073741824):z7o l (vars l) l:=zi1 _ _ _ (by
 unfold zbs
 refine z0x l.length (fun i=>((i:Int),(vars (l.take i),()))) (by simp[vars,zdq]) ?_ ?_
 . intro i hi X hX
   refine z0g fun hl1=>bcI hi ?_
   simp only
   rw[z1m hi]
   have hsub:((l.take i).flatMap (·.2.1)).length+l[i].2.1.length<=1073741824:=by
    have:=zf3 (·.2.1) hi
    omega
   have hset:∀ j,j<=l[i].2.1.length->(zdq (((l.take i).flatMap (·.2.1)++l[i].2.1.take j).filter fun t=>decide (0<=t))).length<=1073741824:=by
    intro j hj
    refine Nat.le_trans (zw6 _) (Nat.le_trans (List.length_filter_le _ _) ?_)
    rw[List.length_append,List.length_take];omega
   refine z0x l[i].2.1.length (fun j=>(zdq (((l.take i).flatMap (·.2.1)++l[i].2.1.take j).filter fun t=>decide (0<=t)),((j:Int),()))) (by simp[vars]) ?_ ?_
   . intro j hj Y hY
     refine inI hi (z0g fun _=>bcI hj (inI hi (inI hj ?_)))
     simp only
     rw[z1m hj,z02 (by omega)]
     have e:((l.take i).flatMap (·.2.1)++l[i].2.1.take (j+1)).filter (fun t=>decide (0<=t))=((l.take i).flatMap (·.2.1)++l[i].2.1.take j).filter (fun t=>decide (0<=t))++(if 0<=l[i].2.1[j] then[l[i].2.1[j]] else[]):=by
      rw[z07 hj,<-List.append_assoc,List.filter_append]
      by_cases h:0<=l[i].2.1[j]<;>simp[h]
     rw[e]at hY
     refine z09 (fun h=>inI hi (inI hj ⟨_,zpy (hset j (by omega)),?_⟩)) (fun h=>?_)
     . have h:0<=l[i].2.1[j]:=h
       rw[if_pos h]at hY
       rw[zsr];exact hY
     . have h:¬ 0<=l[i].2.1[j]:=h
       rw[if_neg h,List.append_nil]at hY;exact hY
   . intro Y
     refine inI hi (z0g fun _=>bcN ?_)
     simp only
     rw[z02 (by omega),List.take_length]
     have:zdq (((l.take i).flatMap (·.2.1)++l[i].2.1).filter fun t=>decide (0<=t))=vars (l.take (i+1)):=by
      unfold vars;rw[z07 hi,List.flatMap_append];simp
     rw[this];exact hX
 . intro X
   refine z0g fun _=>bcN ?_
   simp only[List.take_length])
def SmB (l:List z00):Prop:=∀ f∈l,1<=f.2.1.length/\f.2.1.length<=2
def SmD (n:Nat) (d:z0b):Prop:=(1<=d.1.length/\d.1.length<=2)/\d.2.1.length<=n/\SmB d.1/\SmB d.2.1
theorem SmD.ok {n:Nat} {d:z0b} (h:SmD n d) (hn:n<=1000):z0hk d:=
 ⟨⟨by have:=h.1.2;omega,fun f hf=>by have:=(h.2.2.1 f hf).2;omega⟩,⟨by have:=h.2.1;omega,fun f hf=>by have:=(h.2.2.2 f hf).2;omega⟩⟩
theorem SmB.snoc {l:List z00} {f:z00} (h:SmB l) (hf:1<=f.2.1.length/\f.2.1.length<=2):SmB (l++[f]):=fun g hg=>by
 rcases List.mem_append.mp hg with hg|hg
 . exact h g hg
 . obtain rfl:=List.mem_singleton.mp hg;exact hf
theorem SmB.flat {l:List z00} (h:SmB l):(l.flatMap (·.2.1)).length<=l.length * 2:=by
 induction l with
 |nil=>simp
 | cons a l ih=>
   have:=ih fun f hf=>h f (by simp[hf])
   have:=(h a (by simp)).2
   simp only[List.flatMap_cons,List.length_append,List.length_cons]
   omega
theorem smd0:SmD 2 ([(0,([0],()))],([],(false,(0,(0,()))))):=by unfold SmD SmB;decide
theorem zva {b:Bool} {A B:Prop} (h1:A) (h2:B):z01 b A B:=by
 cases b
 . exact h2
 . exact h1
theorem zsg {k:Nat} (h:k<=1000):w64 (((k+1:Nat):Int) - 1)=(k:Int):=by rw[z2l (by omega) (by omega)];omega
theorem z0e5 {s:Src} (h:Oks s):∃ y z,zer s y z/\SmD 2 y/\Oks z:=by
 obtain⟨v,z,g,_,hz⟩:=z5i h (n:=9) (by decide) (by decide)
 have hs:z92 s (fun q=>SmD 2 q.1/\Oks q.2.1):=by
  unfold z92
  refine⟨v,z,g,?_⟩
  have hd:∀ {d:z0b},SmD 2 d->SmD 2 ((d,(z,())):z0b×Src×Unit).1/\Oks ((d,(z,())):z0b×Src×Unit).2.1:=fun h=>⟨h,hz⟩
  refine zva (hd (by unfold SmD SmB;decide)) (zva (hd (by unfold SmD SmB;decide)) (zva (hd (by unfold SmD SmB;decide)) (zva (hd (by unfold SmD SmB;decide)) (zva (hd (by unfold SmD SmB;decide)) (zva (hd (by unfold SmD SmB;decide)) (zva (hd (by unfold SmD SmB;decide)) (zva (hd (by unfold SmD SmB;decide)) (hd (by unfold SmD SmB;decide)))))))))
 obtain⟨⟨y,z,_⟩,hq,hv⟩:=zou (S:=z92 s) hs ⟨((([(0,([0],()))],([],(false,(0,(0,()))))):z0b),(s,())),smd0,h⟩ fun hi=>by
  unfold z92
  repeat' first|exact rk|apply_assumption|refine rb ?_ ?_|refine rl hi ?_|refine ra ?_|(refine rp ?_;intro _ _ _ _)|(refine re ?_;intro _)
 exact⟨y,z,zt8 _ _ _ hv,hq.1,hq.2⟩
theorem z0h6 {s:Src} (h:Oks s):∃ y z,zg0 s y z/\SmD 2 y/\Oks z:=by
 have hs:zac s (fun q=>SmD 2 q.1/\Oks q.2.1):=by
  unfold zac
  obtain⟨b,z,g,hz⟩:=zxs h (n:=3) (by decide) (by decide)
  refine⟨b,z,g,zva ?_ ?_⟩
  . obtain⟨y,z1,g1,hy,hz1⟩:=z0e5 hz
    exact⟨y,z1,g1,hy,hz1⟩
  . obtain⟨v,z1,g1,hv,hz1⟩:=z5i hz (n:=2) (by decide) (by decide)
    obtain⟨N,hN⟩:∃ N:Nat,1+v=(N:Int):=⟨(1+v).toNat,by omega⟩
    refine⟨v,z1,g1,?_⟩
    rw[show w64 (1+v)=(N:Int) by rw[hN];exact z2l (by omega) (by omega)]
    refine z1i (fun k a=>∃(c:Src) (l:List z00),a=((k:Int),(c,((l,(([]:List z00),(false,((0:Int),((0:Int),()))))),())))/\Oks c/\l.length+k=N/\SmB l) ?_ ?_ (n:=N) ⟨z1,[],rfl,hz1,by simp,fun f hf=>by simp at hf⟩
    . rintro a ⟨c,l,rfl,hc,hl,hb⟩ X
      refine z09 (fun h=>by simp at h) (fun _=>?_)
      have hfl:=hb.flat
      refine⟨_,_,zt0 (l:=l) (by omega),z0g fun _=>?_⟩
      have head:∀ {c:Src},Oks c->∃ y17 y18,z0c c 2 y17 y18/\(0<=y17/\y17<2)/\Oks y18:=fun hc=>z5i hc (by decide) (by decide)
      have tail:∀ {u:Int} {c:Src},0<=u/\u<2->Oks c->z0f (fun(again20:Int×Src×z0b×Unit->Prop) (a19:Int×Src×z0b×Unit)=>z01 (decide (a19.1 > (0:Int))) (∃ y21:Int,∃ y22:Src,z0c a19.2.1 (3:Int) y21 y22/\(∃ y23:z00,∃ y24:Src,z85 y22 (w64 ((2:Int)+y21)) (4:Int) y23 y24/\(a19.2.2.1.2.1.length+([(y23.1,(y23.2.1,y23.2.2))]:List z00).length<=z0v/\(again20 (w64 (a19.1 - (1:Int)),(y24,((a19.2.2.1.1,(a19.2.2.1.2.1++([(y23.1,(y23.2.1,y23.2.2))]:List z00),a19.2.2.1.2.2)),()))))))) (SmD 2 ((a19.2.2.1.1,(a19.2.2.1.2.1,a19.2.2.1.2.2)):z0b)/\Oks a19.2.1)) (w64 ((1:Int)+u),(c,((l,(([]:List z00),(false,((0:Int),((0:Int),()))))),()))):=by
       intro u c hu hc
       obtain⟨M,hM⟩:∃ M:Nat,1+u=(M:Int):=⟨(1+u).toNat,by omega⟩
       rw[show w64 (1+u)=(M:Int) by rw[hM];exact z2l (by omega) (by omega)]
       refine z1i (fun k a=>∃(c:Src) (m:List z00),a=((k:Int),(c,((l,(m,(false,((0:Int),((0:Int),()))))),())))/\Oks c/\m.length+k=M/\SmB m) ?_ ?_ (n:=M) ⟨c,[],rfl,hc,by simp,fun f hf=>by simp at hf⟩
       . rintro a ⟨c,m,rfl,hc,hm,hb2⟩ X
         exact z09 (fun h=>by simp at h) (fun _=>⟨⟨⟨by simp only;omega,by simp only;omega⟩,by simp only;omega,hb,hb2⟩,hc⟩)
       . rintro k a ⟨c,m,rfl,hc,hm,hb2⟩ X hX
         obtain⟨u,z1,g1,hu,hz1⟩:=z5i hc (n:=3) (by decide) (by decide)
         obtain⟨f,z2,g2,hf,hz2⟩:=z0dt hz1 (r:=2+u) (n:=4) (by omega) (by omega) (by decide) (by decide)
         refine z09 (fun _=>⟨u,z1,g1,f,z2,?_,?_,?_⟩) (fun h=>by simp at h<;>omega)
         . rw[z2l (by omega) (by omega)];exact g2
         . simp only[z0v,List.length_cons,List.length_nil];omega
         . simp only
           rw[zsg (by omega)]
           exact hX _ ⟨z2,m++[f],rfl,hz2,by simp;omega,hb2.snoc hf.2⟩
      obtain⟨b2,z2,g2,hz2⟩:=zxs hc (n:=3) (by decide) (by decide)
      obtain⟨u,z3,g3,hu,hz3⟩:=head hz2
      obtain⟨u',z3',g3',hu',hz3'⟩:=head hc
      refine z09 (fun hgt=>⟨b2,z2,g2,zva ⟨⟨by omega,by omega⟩,⟨by omega,by omega⟩,⟨⟨by simp only;omega,by simp only;omega⟩,by simp,hb,fun f hf=>by simp at hf⟩,hz2⟩ ⟨u,z3,g3,tail hu hz3⟩⟩) (fun _=>⟨u',z3',g3',tail hu' hz3'⟩)
    . rintro k a ⟨c,l,rfl,hc,hl,hb⟩ X hX
      obtain⟨r,z1,g1,hr,hz1⟩:=z5i hc (n:=5) (by decide) (by decide)
      obtain⟨f,z2,g2,hf,hz2⟩:=z0dt hz1 (r:=r) (n:=3) hr.1 hr.2 (by decide) (by decide)
      refine z09 (fun _=>⟨r,z1,g1,f,z2,g2,?_,?_⟩) (fun h=>by simp at h<;>omega)
      . simp only[z0v,List.length_cons,List.length_nil];omega
      . simp only
        rw[zsg (by omega)]
        exact hX _ ⟨z2,l++[f],rfl,hz2,by simp;omega,hb.snoc hf.2⟩
 obtain⟨⟨y,z,_⟩,hq,hv⟩:=zou (S:=zac s) hs ⟨((([(0,([0],()))],([],(false,(0,(0,()))))):z0b),(s,())),smd0,h⟩ fun hi=>by
  unfold zac
  repeat' first|exact rk|apply_assumption|refine rb ?_ ?_|refine rl hi ?_|refine ra ?_|(refine rp ?_;intro _ _ _ _)|(refine re ?_;intro _)
 exact⟨y,z,zxa _ _ _ hv,hq.1,hq.2⟩
theorem z0hw {x:List Int} (h:x.length<=1048576):∃ z,zx1 x z/\Oks z:=by
 have hs:zmt x (fun q=>Oks q.1):=by
  unfold zmt
  refine z0g fun _=>?_
  refine z1i (fun k a=>∃(v:Int) (i:Nat),a=(v,((i:Int),()))/\i+k=4000) ?_ ?_ (n:=4000) ⟨_,0,rfl,rfl⟩
  . rintro a ⟨v,i,rfl,hi⟩ X
    exact z0g fun _=>zva (z09 (fun h=>by simp at h;omega) (fun _=>⟨Int.le_refl (0:Int),by show x.length<=_;omega⟩)) ⟨Int.le_refl (0:Int),by show x.length<=_;omega⟩
  . rintro k a ⟨v,i,rfl,hi⟩ X hX
    refine z0g fun _=>z09 (fun hlt=>zva ⟨⟨by simp only;omega,hlt⟩,?_⟩ ⟨Int.le_refl (0:Int),by show x.length<=_;omega⟩) (fun _=>⟨Int.le_refl (0:Int),by show x.length<=_;omega⟩)
    simp only
    rw[z02 (by omega)]
    exact hX _ ⟨_,i+1,rfl,by omega⟩
 obtain⟨⟨z,_⟩,hq,hv⟩:=zou (S:=zmt x) hs ⟨(([],(0,(0,()))),()),Int.le_refl (0:Int),by decide⟩ fun hi=>by
  unfold zmt
  repeat' first|exact rk|apply_assumption|refine rb ?_ ?_|refine rl hi ?_|refine ra ?_|(refine rp ?_;intro _ _ _ _)|(refine re ?_;intro _)
 exact⟨z,z0ax _ _ hv,hq⟩
theorem z0h4 {x:List Int}:z081 x (decide ((x.length:Int) > 1048576)):=z0ge _ _ (z0g fun _=>rfl)
def SmX2 (m:Nat) (x:z0e):Prop:=x.1=sigs/\x.2.1.length<=m/\∀ f∈x.2.1,f.2.1.length<=2
theorem z0cw {s:Src} {m:Int} (h:Oks s) (h0:0<=m) (h1:m<=30):∃ y z,zde s m y z/\SmX2 m.toNat y/\Oks z:=by
 have hs:z7w s m (fun q=>SmX2 m.toNat q.1/\Oks q.2.1):=by
  unfold z7w
  obtain⟨v,z,g,hv,hz⟩:=z5i h (n:=m+1) (by omega) (by omega)
  refine⟨_,zmy,v,z,by rw[z2l (by omega) (by omega)];exact g,?_⟩
  obtain⟨N,rfl⟩:∃ N:Nat,v=(N:Int):=⟨v.toNat,by omega⟩
  refine z1i (fun k a=>∃(c:Src) (x:z0e),a=((k:Int),(c,(x,())))/\Oks c/\x.1=sigs/\x.2.1.length+k<=N/\∀ f∈x.2.1,f.2.1.length<=2) ?_ ?_ (n:=N) ⟨z,(sigs,([],())),rfl,hz,rfl,by simp,fun f hf=>by simp at hf⟩
  . rintro a ⟨c,x,rfl,hc,hx,hl,hf⟩ X
    refine z09 (fun h=>by simp at h) (fun _=>⟨x,zb7 (by rw[hx];decide) (by first|omega|(simp only;omega)) (fun f hm=>by have:=hf f hm;omega),⟨hx,by first|omega|(simp only;omega),hf⟩,hc⟩)
  . rintro k a ⟨c,x,rfl,hc,hx,hl,hf⟩ X hX
    obtain⟨u,z1,g1,hu,hz1⟩:=z5i hc (n:=2) (by decide) (by decide)
    obtain⟨f,z2,g2,hr,hz2⟩:=z08s hz1 (r:=u) (n:=0) (by omega) (by omega) (by decide)
    have hr2:=hr.2.2
    refine z09 (fun _=>⟨u,z1,g1,f,z2,g2,_,zw2 (x:=x) (f:=f) (by omega) (by omega),?_⟩) (fun h=>by simp at h<;>omega)
    simp only
    rw[zsg (by omega)]
    refine hX _ ⟨z2,_,rfl,hz2,hx,?_,fun y hy=>?_⟩
    . have:=z046 (l:=x.2.1) (f:=f)
      show(zo2 x.2.1 f).length+k<=N
      omega
    . rcases putF_mem.mp hy with hy|rfl
      . exact hf y hy
      . exact hr2
 obtain⟨⟨y,z,_⟩,hq,hv⟩:=zou (S:=z7w s m) hs ⟨(((sigs,([],())):z0e),(s,())),⟨rfl,by simp,fun f hf=>by simp at hf⟩,h⟩ fun hi=>by
  unfold z7w
  repeat' first|exact rk|apply_assumption|refine rb ?_ ?_|refine rl hi ?_|refine ra ?_|(refine rp ?_;intro _ _ _ _)|(refine re ?_;intro _)
 exact⟨y,z,zqd _ _ _ _ hv,hq.1,hq.2⟩
theorem z0ed {s:Src} (h:Oks s):∃ y z,zcz s y z/\(y.length<=3/\∀ d∈y,SmD 2 d)/\Oks z:=by
 have hs:z7d s (fun q=>(q.1.length<=3/\∀ d∈q.1,SmD 2 d)/\Oks q.2.1):=by
  unfold z7d
  obtain⟨v,z,g,hv,hz⟩:=z5i h (n:=3) (by decide) (by decide)
  obtain⟨N,hN⟩:∃ N:Nat,1+v=(N:Int):=⟨(1+v).toNat,by omega⟩
  refine⟨v,z,g,?_⟩
  rw[show w64 (1+v)=(N:Int) by rw[hN];exact z2l (by omega) (by omega)]
  refine z1i (fun k a=>∃(c:Src) (ds:List z0b),a=((k:Int),(ds,(c,())))/\Oks c/\ds.length+k<=3/\∀ d∈ds,SmD 2 d) ?_ ?_ (n:=N) ⟨z,[],rfl,hz,by simp;omega,fun d hd=>by simp at hd⟩
  . rintro a ⟨c,ds,rfl,hc,hl,hd⟩ X
    exact z09 (fun h=>by simp at h) (fun _=>⟨⟨by simp only;omega,hd⟩,hc⟩)
  . rintro k a ⟨c,ds,rfl,hc,hl,hd⟩ X hX
    obtain⟨d,z1,g1,hd1,hz1⟩:=z0h6 hc
    have old:X (w64 (((k+1:Nat):Int) - 1),(ds,(z1,()))):=by
     rw[zsg (by omega)]
     exact hX _ ⟨z1,ds,rfl,hz1,by omega,hd⟩
    refine z09 (fun _=>⟨d,z1,g1,zva ⟨trivial,trivial,_,zmy,?_,?_,_,zlz,zva ⟨?_,?_⟩ old⟩ old⟩) (fun h=>by simp at h<;>omega)
    . simp only[z0v,List.length_nil];omega
    . simp only[z0v,List.length_append,List.length_cons,List.length_nil];omega
    . simp only[z0v,List.length_cons,List.length_nil];omega
    . simp only
      rw[zsg (by omega)]
      refine hX _ ⟨z1,ds++[d],rfl,hz1,by simp only[List.length_append,List.length_cons,List.length_nil];omega,fun e he=>?_⟩
      rcases List.mem_append.mp he with he|he
      . exact hd e he
      . obtain rfl:=List.mem_singleton.mp he;exact hd1
 obtain⟨⟨y,z,_⟩,hq,hv⟩:=zou (S:=z7d s) hs ⟨(([]:List z0b),(s,())),⟨by simp,fun f hf=>by simp at hf⟩,h⟩ fun hi=>by
  unfold z7d
  repeat' first|exact rk|apply_assumption|refine rb ?_ ?_|refine rl hi ?_|refine ra ?_|(refine rp ?_;intro _ _ _ _)|(refine re ?_;intro _)
 exact⟨y,z,zq7 _ _ _ hv,hq.1,hq.2⟩
theorem z0df {s:Src} (h:Oks s):∃ y z,zdk s y z/\y.2.1.length<=3/\Oks z:=by
 have hs:zbp s (fun q=>q.1.2.1.length<=3/\Oks q.2.1):=by
  unfold zbp
  obtain⟨r,z,g,hr,hz⟩:=z5i h (n:=5) (by decide) (by decide)
  obtain⟨f,z1,g1,hf,hz1⟩:=z08s hz (r:=r) (n:=4) hr.1 hr.2 (by decide)
  obtain⟨v,z2,g2,hv,hz2⟩:=z5i hz1 (n:=10) (by decide) (by decide)
  obtain⟨u,z3,g3,hu,hz3⟩:=z5i hz2 (n:=7) (by decide) (by decide)
  obtain⟨w,z4,g4,hz4⟩:=z078 hz2 (l:=[10,-41,9]) (by decide) (by decide)
  have hl:=hf.2
  refine⟨r,z,g,f,z1,g1,v,z2,g2,zva ⟨u,z3,g3,?_,hz3⟩ (zva ⟨?_,?_,hz2⟩ (zva ⟨w,z4,g4,⟨by omega,by omega⟩,?_,hz4⟩ ⟨?_,hz2⟩))⟩
  . show f.2.1.length<=3;omega
  . simp only[z0v,List.length_cons,List.length_nil];omega
  . simp only[List.length_append,List.length_cons,List.length_nil];omega
  . simp only[List.length_set];omega
  . show f.2.1.length<=3;omega
 obtain⟨⟨y,z,_⟩,hq,hv⟩:=zou (S:=zbp s) hs ⟨(((0,([],())):z00),(s,())),by simp,h⟩ fun hi=>by
  unfold zbp
  repeat' first|exact rk|apply_assumption|refine rb ?_ ?_|refine rl hi ?_|refine ra ?_|(refine rp ?_;intro _ _ _ _)|(refine re ?_;intro _)
 exact⟨y,z,zy3 _ _ _ hv,hq.1,hq.2⟩
structure SkD (s:TSk):Prop where
 rels:s.1.1.length<=1000
 few:s.1.2.1.length<=100
 row:∀ f∈s.1.2.1,f.2.1.length<=3
 terms:s.2.1.length<=100
 args:∀ t∈s.2.1,t.2.2.1.length<=5
theorem SkD.of {s:TSk} (h:vSk s=true):SkD s:=by
 have hi:=z5y h
 have hr:=zfp (zfo hi.1)
 have hf:=z4k hi.1
 have ht:=zdz (z5g h).2.2
 refine⟨by omega,by omega,fun f hm=>(z37 (z6o hi.1 hm)).2.2.2.2.1,by omega,fun t ht=>?_⟩
 obtain⟨i,hi,rfl⟩:=List.mem_iff_getElem.mp ht
 exact z044 h hi
theorem SkD.sm {s:TSk} (h:SkD s):SmS s:=⟨by have:=h.rels;omega,by have:=h.few;omega,fun f hf=>by have:=h.row f hf;omega,by have:=h.terms;omega,fun t ht=>by have:=h.args t ht;omega⟩
theorem SkD.j {s:TSk} (h:SkD s):SmJ s.1:=⟨h.sm.rels,h.sm.few,h.sm.row⟩
theorem z0ht {s:TSk} {ds:List z0b} (h:(skc s ds).2=true):vSk (skc s ds).1=true:=by
 by_cases h':(vSk s&&z4b s.1.1 ds)=true
 . cases e:zfi ds 31 s with
   |inl r=>rw[z077 h' e]at h;simp at h
   | inr y=>
     rw[z08e h' e]
     rw[Bool.and_eq_true]at h'
     exact(zql h'.1 e).sk
 . rw[z098 (by simpa using h')]at h;simp at h
theorem SkD.inst {s:TSk} {x:z0e} (h:SkD s) (h1:x.1=s.1.1) (h2:x.2.1.length<=100) (h3:∀ f∈x.2.1,f.2.1.length<=3):SkD (x,s.2):=⟨by show x.1.length<=1000;rw[h1];exact h.rels,h2,h3,h.terms,h.args⟩
theorem z0bh {x:z0e} {f:z00}:(delF x f).1.2.1.length<=x.2.1.length:=by
 unfold delF
 split
 . exact List.length_filter_le _ _
 . exact Nat.le_refl _
theorem z0bn {x:z0e} {f:z00}:(insF x f).1.2.1.length<=x.2.1.length+1:=by
 unfold insF
 split
 . have:=zwp (l:=x.2.1++[f])
   simpa using this
 . exact Nat.le_succ _
theorem SkD.del {s:TSk} {f:z00} (h:SkD s):SkD ((delF s.1 f).1,s.2):=by
 unfold delF
 split
 . refine h.inst rfl (Nat.le_trans (List.length_filter_le _ _) h.few) fun g hg=>h.row g (List.mem_filter.mp hg).1
 . exact h
theorem SkD.ins {s:TSk} {f:z00} (h:SkD s):SkD ((insF s.1 f).1,s.2):=by
 unfold insF
 split
 . rename_i hv
   simp only[Bool.and_eq_true]at hv
   have hv:=hv.2.2
   have hl:=z4k hv
   have hr:=fun f hm=>(z37 (z6o hv (f:=f) hm)).2.2.2.2.1
   exact h.inst rfl (by simp only at hl ⊢;omega) hr
 . exact h
theorem ztw {x:z0e} {f:z00} (hs:SmJ x) (hf:f.2.1.length<=3):z62 x f (insF x f).1 (insF x f).2:=by
 cases h:z3a x with
 |true=>exact zx9 h hf
 | false=>
   have e:insF x f=(x,false):=by unfold insF;rw[h];rfl
   rw[e]
   have h1:=hs.rels
   have h2:=hs.few
   refine zmc _ _ _ _ ?_
   unfold zgs
   refine⟨x,zb7 (by omega) (by omega) (fun f hf=>by have:=hs.row f hf;omega),_,z2x,?_⟩
   rw[h]
   exact bcT rfl
theorem z0fl {x:z0e} {m:Nat} (h:SmX2 m x) (hm:m<=50):∃ s b,zay x s b/\SkD s/\s.1.2.1.length<=m:=by
 have hl:x.1.length<=1000:=by rw[h.1];decide
 have h2:=h.2.1
 have hb:zku x (z3a x&&((zhd x).length:Int) == 0):=z034 _ _ (by
  unfold zqn
  refine⟨_,z2x,z1e (fun h=>⟨_,zeb,z0g fun _=>by rw[h];rfl⟩) (fun h=>by rw[h];rfl)⟩)
 cases hv:(z3a x&&((zhd x).length:Int) == 0)with
 | false=>
   refine⟨(([],([],())),([],())),false,zf1 _ _ _ ?_,⟨by simp,by simp,fun f hf=>by simp at hf,by simp,fun f hf=>by simp at hf⟩,by simp⟩
   unfold zal
   refine⟨_,hb,?_⟩
   rw[hv]
   exact bcT rfl
 | true=>
   refine⟨(x,([],())),true,zf1 _ _ _ ?_,⟨hl,by simp only;omega,fun f hf=>by have:=h.2.2 f hf;omega,by simp,fun f hf=>by simp at hf⟩,h2⟩
   unfold zal
   refine⟨_,hb,?_⟩
   rw[hv]
   exact bcF ⟨x,zb7 (by omega) (by omega) (fun f hf=>by have:=h.2.2 f hf;omega),rfl⟩
def SkQ (c:Src) (s:TSk) (ds:List z0b):Prop:=Oks c/\(SkD s/\s.1.2.1.length<=12)/\ds.length<=3/\∀ d∈ds,SmD 2 d
theorem z0bf {x:List Int} (h:x.length<=1048576):∃ c s ds,zn4 x c s ds/\SkQ c s ds:=by
 have hs:zff x (fun q=>SkQ q.1 q.2.1 q.2.2.1):=by
  unfold zff
  obtain⟨z,g,hz⟩:=z0hw h
  obtain⟨y,z1,g1,hy,hz1⟩:=z0cw hz (m:=2) (by decide) (by decide)
  obtain⟨s,b,g2,hS,hS2⟩:=z0fl hy (by decide)
  have hS2:s.1.2.1.length<=2:=hS2
  obtain⟨ds,z3,g3,hds,hz3⟩:=z0ed hz1
  have tail:∀ {c:Src} {st:TSk},Oks c->SkD st->st.1.2.1.length<=11->(∃ y10:Int,∃ y11:Src,z0c c (12:Int) y10 y11/\(z01 (y10 == (0:Int)) (z0o (List.length st.1.2.1:Int) (z01 (decide ((List.length st.1.2.1:Int) > (0:Int))) ((0<=(0:Int)/\(0:Int)<(List.length st.1.2.1:Int))/\(∃ y12:z0e,∃ y13:Bool,z5q st.1 (st.1.2.1.getD (Int.toNat (0:Int)) z0h) y12 y13/\SkQ y11 (y12,st.2) ds)) (SkQ y11 st ds))) (z01 (y10 == (1:Int)) (∃ y14:z00,∃ y15:Src,z4h y11 (2:Int) (0:Int) y14 y15/\(∃ y16:z0e,∃ y17:Bool,z62 st.1 y14 y16 y17/\SkQ y15 (y16,st.2) ds)) (SkQ y11 st ds)))):=by
   intro c st hc hst hl
   obtain⟨v,c1,k1,hv,hc1⟩:=z5i hc (n:=12) (by decide) (by decide)
   obtain⟨f,c2,k2,hf,hc2⟩:=z08s hc1 (r:=2) (n:=0) (by decide) (by decide) (by decide)
   refine⟨v,c1,k1,zva (z0g fun _=>z09 (fun hp=>⟨⟨by omega,hp⟩,_,_,zt5 hst.j,hc1,⟨hst.del,Nat.le_trans z0bh (by omega)⟩,hds⟩) (fun _=>⟨hc1,⟨hst,by omega⟩,hds⟩)) (zva ⟨f,c2,k2,_,_,ztw hst.j (by have:=hf.2.2;omega),hc2,⟨hst.ins,Nat.le_trans z0bn (by omega)⟩,hds⟩ ⟨hc1,⟨hst,by omega⟩,hds⟩)⟩
  refine⟨z,g,y,z1,g1,s,b,g2,ds,z3,g3,_,_,zt2 hS.sm,z1e (fun hb=>z0g fun _=>z09 (fun h12=>tail hz3 (.of (z0ht hb)) (by omega)) (fun _=>tail hz3 hS (by omega))) (fun _=>tail hz3 hS (by omega))⟩
 obtain⟨⟨c,s,ds,_⟩,hq,hv⟩:=zou (S:=zff x) hs ⟨((([],(0,(0,()))):Src),((((([],([],())):z0e),(([],()):List z08×Unit)):TSk),(([]:List z0b),()))),⟨Int.le_refl (0:Int),by decide⟩,⟨⟨by simp,by simp,fun f hf=>by simp at hf,by simp,fun f hf=>by simp at hf⟩,by simp⟩,by simp,fun f hf=>by simp at hf⟩ fun hi=>by
  unfold zff
  repeat' first|exact rk|apply_assumption|refine rb ?_ ?_|refine rl hi ?_|refine ra ?_|(refine rp ?_;intro _ _ _ _)|(refine re ?_;intro _)
 exact⟨c,s,ds,z05q _ _ _ _ hv,hq⟩
theorem z0hp {c:Src} {s:TSk} (hc:Oks c) (h:SkD s):∃ f z,zg7 c s f z/\f.2.1.length<=3/\Oks z:=by
 have hs:z9q c s (fun q=>q.1.2.1.length<=3/\Oks q.2.1):=by
  unfold z9q
  have hl:=h.few
  obtain⟨f,z,g,hf,hz⟩:=z0df hc
  refine z0g fun _=>z09 (fun hp=>?_) (fun _=>⟨f,z,g,hf,hz⟩)
  obtain⟨b,z1,g1,hz1⟩:=zxs hc (n:=8) (by decide) (by decide)
  obtain⟨f2,z2,g2,hf2,hz2⟩:=z0df hz1
  obtain⟨i,z3,g3,hi,hz3⟩:=z5i hz1 (n:=(s.1.2.1.length:Int)) (by omega) (by omega)
  refine⟨b,z1,g1,zva (z0g fun _=>⟨i,z3,g3,⟨hi.1,hi.2⟩,?_,hz3⟩) ⟨f2,z2,g2,hf2,hz2⟩⟩
  have hn:i.toNat<s.1.2.1.length:=by omega
  have e:s.1.2.1.getD i.toNat z0h=s.1.2.1[i.toNat]:=by rw[List.getD_eq_getElem?_getD,List.getElem?_eq_getElem hn];rfl
  show(s.1.2.1.getD i.toNat z0h).2.1.length<=3
  rw[e]
  exact h.row _ (List.getElem_mem hn)
 obtain⟨⟨y,z,_⟩,hq,hv⟩:=zou (S:=z9q c s) hs ⟨(((0,([],())):z00),(c,())),by simp,hc⟩ fun hi=>by
  unfold z9q
  repeat' first|exact rk|apply_assumption|refine rb ?_ ?_|refine rl hi ?_|refine ra ?_|(refine rp ?_;intro _ _ _ _)|(refine re ?_;intro _)
 exact⟨y,z,zvu _ _ _ _ hv,hq.1,hq.2⟩
theorem zqb {l:List Int}:zla l l true:=z01p _ _ _ (by
 unfold zso
 refine z0g fun _=>z0g fun _=>zbt (fun h=>absurd rfl h) fun _=>?_
 refine z0x l.length (fun i=>((i:Int),())) rfl ?_ ?_
 . intro i hi X hX
   refine z0g fun _=>bcI hi (inI hi (inI hi (zbt (fun h=>absurd rfl h) fun _=>?_)))
   simp only
   rw[z02 (by omega)]
   exact hX
 . intro X
   exact z0g fun _=>bcN rfl)
theorem zpc {l:List z00}:zhs l l true:=zzp _ _ _ (by
 unfold zod
 refine z0g fun _=>z0g fun _=>zbt (fun h=>absurd rfl h) fun _=>?_
 refine z0x l.length (fun i=>((i:Int),())) rfl ?_ ?_
 . intro i hi X hX
   refine z0g fun _=>bcI hi (inI hi (inI hi (zbt (fun h=>absurd rfl h) fun _=>inI hi (inI hi ⟨_,zqb,bcF ?_⟩))))
   simp only
   rw[z02 (by omega)]
   exact hX
 . intro X
   exact z0g fun _=>bcN rfl)
theorem z04k {s:TSk} {d:z0b} {i:Nat} {f t:z00}:∀ {l:List (List Int)} {out:List z00},t∈l.foldl (derH s d i f) out↔t∈out\/∃ b∈l,zst s.2.1 d i b f=true/\t=((i:Int),(b,()))
 |[],out=>by simp
 | b::l,out=>by
   rw[List.foldl_cons,z04k]
   unfold derH
   constructor
   . rintro (h|⟨c,hc,h⟩)
     . split at h
       . rename_i hm
         rcases List.mem_append.mp h with h|h
         . exact .inl h
         . exact .inr ⟨b,by simp,hm,List.mem_singleton.mp h⟩
       . exact .inl h
     . exact .inr ⟨c,by simp[hc],h⟩
   . rintro (h|⟨c,hc,h1,h2⟩)
     . left
       split
       . exact List.mem_append_left _ h
       . exact h
     . rcases List.mem_cons.mp hc with rfl|hc
       . left
         rw[if_pos h1]
         exact List.mem_append_right _ (List.mem_singleton.mpr h2)
       . exact .inr ⟨c,hc,h1,h2⟩
theorem derG_mem {s:TSk} {ds:List z0b} {f t:z00}:∀ {l:List Nat} {out:List z00},t∈l.foldl (derG s ds f) out↔t∈out\/∃ i∈l,∃ b∈z9t s.1 (ds.getD i z67).1,zst s.2.1 (ds.getD i z67) i b f=true/\t=((i:Int),(b,()))
 |[],out=>by simp
 | i::l,out=>by
   rw[List.foldl_cons,derG_mem]
   unfold derG
   rw[z04k]
   constructor
   . rintro ((h|h)|⟨j,hj,h⟩)
     . exact .inl h
     . exact .inr ⟨i,by simp,h⟩
     . exact .inr ⟨j,by simp[hj],h⟩
   . rintro (h|⟨j,hj,h⟩)
     . exact .inl (.inl h)
     . rcases List.mem_cons.mp hj with rfl|hj
       . exact .inl (.inr h)
       . exact .inr ⟨j,hj,h⟩
theorem z02q {s:TSk} {ds:List z0b} {f t:z00} (h:t∈z4c s ds f):(vSk s=true/\z4b s.1.1 ds=true/\f∈s.1.2.1)/\∃ i:Nat,∃ hi:i<ds.length,∃ b∈z9t s.1 ds[i].1,zst s.2.1 ds[i] i b f=true/\t=((i:Int),(b,())):=by
 unfold z4c at h
 split at h
 . rename_i hc
   simp only[Bool.and_eq_true,decide_eq_true_eq]at hc
   refine⟨⟨hc.1,hc.2.1,hc.2.2⟩,?_⟩
   rcases derG_mem.mp h with h|⟨i,hi,b,hb,h1,h2⟩
   . simp at h
   . have hi:=List.mem_range.mp hi
     rw[z1a hi]at hb h1
     exact⟨i,hi,b,hb,h1,h2⟩
 . simp at h
theorem z0bj {s:TSk} {ds:List z0b} {f:z00} {i:Nat} {b:List Int} (hv:vSk s=true) (hp:z4b s.1.1 ds=true) (hi:i<ds.length) (hb:b∈z9t s.1 ds[i].1) (hm:zst s.2.1 ds[i] i b f=true) (hl:s.1.2.1.length<=28) :
  FireOk s ds ds[i] i b/\vSk (za6 s ds[i] i b)=true/\f∈(za6 s ds[i] i b).1.2.1:=by
 obtain⟨b5,tB,tF⟩:=zv6 hb
 have hfire:FireOk s ds ds[i] i b:=⟨hv,hp,List.getElem?_eq_getElem hi,b5,tB,tF⟩
 obtain⟨hd,_,_⟩:=z7e hp (List.getElem_mem hi)
 have hs:=z6a hd
 rw[z049,Bool.and_eq_true,decide_eq_true_eq,decide_eq_true_eq]at hm
 have hall:=z02f hm.1
 have e:hdS s.2.1 ds[i] i b=(s.2.1,(exV ds[i]).foldl (valG s.2.1 ds[i] i b) b):=z024 hall
 refine⟨hfire,?_,?_⟩
 . rw[hfire.next,Bool.and_eq_true,decide_eq_true_eq,e]
   refine⟨(z5g hv).2.2,?_⟩
   show(zpo (s.1.2.1++z8j ds[i] (hdS s.2.1 ds[i] i b).2)).length<=30
   have h1:=zwp (l:=s.1.2.1++z8j ds[i] (hdS s.2.1 ds[i] i b).2)
   have h2:(z8j ds[i] (hdS s.2.1 ds[i] i b).2).length<=2:=by rw[zg1,List.length_map];exact hs.2.2.2.1
   rw[List.length_append]at h1
   omega
 . exact facS_mem.mpr (List.mem_append_right _ hm.2)
theorem z00e {s:TSk} {ds:List z0b} {i:Nat} (hi:i<s.1.2.1.length):∀ {k:Nat},1<=(zdb s ds k).getD i 0->∃ m:Nat,m<k/\(zdb s ds k).getD i 0=((m+1:Nat):Int)/\zel s ds (zdb s ds m) i=true
 | 0,h=>by
   rw[zdb,ziv hi]at h
   split at h<;>omega
 | k+1,h=>by
   rw[zdb,z6r (by rw[z5u];exact hi)]at h ⊢
   split at h
   . rename_i hc
     rw[if_pos hc]
     exact⟨k,Nat.lt_succ_self k,rfl,hc⟩
   . rename_i hc
     rw[if_neg hc]
     obtain⟨m,h1,h2,h3⟩:=z00e hi h
     exact⟨m,Nat.lt_succ_of_lt h1,h2,h3⟩
theorem zw1 {s:TSk} {ds:List z0b} {i:Nat} (hi:i<s.1.2.1.length) {k:Nat} (h:0<=(zdb s ds k).getD i 0):∀ m,(zdb s ds (k+m)).getD i 0=(zdb s ds k).getD i 0
 |0=>rfl
 | m+1=>by
   rw[<-Nat.add_assoc,zdb,z6r (by rw[z5u];exact hi),zw1 hi h m,if_neg]
   unfold zel
   rw[zw1 hi h m,decide_eq_false (by omega)]
   simp
theorem z040 {s:TSk} {ds:List z0b} {i:Nat} (hi:i<s.1.2.1.length):∀ {k:Nat},(zdb s ds k).getD i 0<=k
 | 0=>by
   rw[zdb,ziv hi]
   split<;>omega
 | k+1=>by
   rw[zdb,z6r (by rw[z5u];exact hi)]
   have:=z040 (s:=s) (ds:=ds) hi (k:=k)
   split<;>omega
theorem z0fd {s:TSk} {ds:List z0b} {f:z00} (h:¬ lvl s ds f<1):∃ t∈z4c s ds f,∀ a∈(ds.getD t.1.toNat z67).1,0<=lvl s ds (inst a t.2.1)/\lvl s ds (inst a t.2.1)<lvl s ds f:=by
 obtain⟨h1,h2,h3⟩:=z0ga (s:=s) (ds:=ds) (f:=f) (by omega)
 have el:∀ {g:z00},g∈s.1.2.1->lvl s ds g=(zu9 s ds).getD (place s.1.2.1 g).toNat 0:=fun {g} hg=>by unfold lvl;rw[h1,h2,decide_eq_true hg];rfl
 obtain⟨p,e,hp,hpf⟩:=zgm h3
 rw[el h3,e,Int.toNat_natCast]at h ⊢
 unfold zu9 at h ⊢
 obtain⟨m,k1,k2,k3⟩:=z00e hp (ds:=ds) (k:=s.1.2.1.length) (by omega)
 unfold zel at k3
 rw[Bool.and_eq_true]at k3
 have k4:=k3.2
 unfold knF at k4
 rw[z1a hp,hpf]at k4
 obtain⟨t,ht,hk⟩:=List.any_eq_true.mp k4
 refine⟨t,ht,fun a ha=>?_⟩
 unfold knS zns at hk
 have:=List.all_eq_true.mp hk a ha
 rw[Bool.and_eq_true,decide_eq_true_eq,decide_eq_true_eq]at this
 obtain⟨hin,hge⟩:=this
 obtain⟨q,eq,hq,_⟩:=zgm hin
 rw[el hin,eq,Int.toNat_natCast]
 rw[eq,Int.toNat_natCast]at hge
 unfold zu9
 obtain⟨r,hr⟩:∃ r,s.1.2.1.length=m+r:=⟨s.1.2.1.length - m,by omega⟩
 have hst:=zw1 hq hge r
 rw[<-hr]at hst
 have:=z040 (s:=s) (ds:=ds) hq (k:=m)
 rw[hst,k2]
 constructor<;>omega
theorem law {x0:List Int} (_:Bnd (.sl 5 (.int .u8)) x0):zhb x0 true:=zp2 _ _ (by
 unfold zgw
 refine⟨_,z0h4,z09 (fun _=>rfl) (fun hb=>?_)⟩
 have hlen:x0.length<=1048576:=by omega
 obtain⟨c,s,ds,gb,hc,⟨hS,h12⟩,_⟩:=z0bf hlen
 obtain⟨f,c1,g1,_,hc1⟩:=z0hp hc hS
 refine⟨s,ds,f,zmh _ _ _ _ ⟨c,s,ds,gb,f,c1,g1,rfl⟩,_,zkf,_,zdt,_,zet,_,zpc,bcF ⟨_,zn2,zbt (fun h=>absurd rfl h) fun _=>⟨_,zos,_,zp4,z0ho (fun h=>absurd rfl h) fun _=>?_⟩⟩⟩
 have hder:=fun {t:z00} (ht:t∈z4c s ds f)=>z02q ht
 have hlow:=z0fd (s:=s) (ds:=ds) (f:=f)
 have hll:=znz s ds f
 generalize z4c s ds f=l at hder hlow hll ⊢
 refine z0x l.length (fun i=>((i:Int),())) rfl ?_ ?_
 . intro j hj X hX
   obtain⟨⟨hv,hp,hf⟩,i,hi,b,hb,hm,ht⟩:=hder (List.getElem_mem hj)
   obtain⟨hfire,hnv,hnf⟩:=z0bj hv hp hi hb hm (by omega)
   have ha:=ztl hfire
   rw[hnv]at ha
   obtain⟨hd,_,_⟩:=z7e hp (List.getElem_mem hi)
   have htr:zkh s.1 ds[i] b=true:=by unfold zkh;rw[(z5y hv).1,hd,hfire.tB,hfire.tF,hfire.b5];rfl
   refine z0g fun _=>bcI hj (inI hj (inI hj ⟨trivial,?_⟩))
   simp only
   rw[z1m hj,ht,z02 (by omega)]
   simp only
   refine⟨_,_,ha,bcF ⟨_,zq4 (x:=(za6 s ds[i] i b).1),?_⟩⟩
   rw[(z5y hnv).1,decide_eq_true hnf]
   refine bcF (inI hj (inI hj ⟨⟨by omega,by omega⟩,_,zoj,?_⟩))
   rw[Int.toNat_natCast,z1a hi,htr]
   exact bcF hX
 . intro X
   refine z0g fun _=>bcN (z09 (fun _=>rfl) fun hn=>?_)
   obtain⟨t0,ht0,hlo⟩:=hlow hn
   have key:l.any (fun t=>(ds.getD t.1.toNat z67).1.all fun a=>decide (0<=lvl s ds (inst a t.2.1))&&decide (lvl s ds (inst a t.2.1)<lvl s ds f))=true:=
    List.any_eq_true.mpr ⟨t0,ht0,List.all_eq_true.mpr fun a ha=>by rw[decide_eq_true (hlo a ha).1,decide_eq_true (hlo a ha).2];rfl⟩
   refine z0x l.length (fun i=>((l.take i).any (fun t=>(ds.getD t.1.toNat z67).1.all fun a=>decide (0<=lvl s ds (inst a t.2.1))&&decide (lvl s ds (inst a t.2.1)<lvl s ds f)),((i:Int),()))) rfl ?_ ?_
   . intro j hj Y hY
     obtain⟨⟨hv,hp,hf⟩,i,hi,b,hb,hm,ht⟩:=hder (List.getElem_mem hj)
     obtain⟨hd,_,_⟩:=z7e hp (List.getElem_mem hi)
     have hs:=z6a hd
     have hdo:=z091 hd
     have b5:=zf9 hb
     rw[z07 hj,List.any_append,ht]at hY
     simp only[List.any_cons,List.any_nil,Bool.or_false,Int.toNat_natCast]at hY
     rw[z1a hi]at hY
     have ed:ds.getD (Int.toNat (((i:Int),(b,())):z00).1) z67=ds[i]:=z1a hi
     refine z0g fun _=>bcI hj ?_
     simp only
     rw[z1m hj,ht,z02 (by omega),ed]
     simp only
     have hbl:=hdo.bd.1
     refine z0x ds[i].1.length (fun k=>((ds[i].1.take k).all (fun a=>decide (0<=lvl s ds (inst a b))&&decide (lvl s ds (inst a b)<lvl s ds f)),((k:Int),()))) rfl ?_ ?_
     . intro k hk Z hZ
       rw[z07 hk,List.all_append]at hZ
       simp only[List.all_cons,List.all_nil,Bool.and_true]at hZ
       have hr:=row3 (b:=b) hdo.bd.2 (List.getElem_mem hk)
       refine inI hj ⟨⟨by omega,by omega⟩,z0g fun _=>bcI hk (inI hj (inI hj ⟨trivial,⟨by omega,by omega⟩,inI hk ⟨_,_,zb0 ?_ (by omega) ?_,_,zdt,?_⟩⟩))⟩
       . rw[z1m hk];exact hr.1
       . rw[z1m hk];exact hr.2
       . simp only
         rw[z1m hk,z02 (by omega)]
         refine z1e (fun h=>?_) (fun h=>?_)
         . rw[h,Bool.true_and]at hZ
           refine z09 (fun h0=>?_) (fun h0=>?_)
           . rw[decide_eq_true (show 0<=lvl s ds (inst ds[i].1[k] b)from h0),Bool.true_and]at hZ
             exact hZ
           . rw[decide_eq_false (show ¬ 0<=lvl s ds (inst ds[i].1[k] b)from h0),Bool.false_and]at hZ
             exact hZ
         . rw[h,Bool.false_and]at hZ
           exact hZ
     . intro Z
       refine inI hj ⟨⟨by omega,by omega⟩,z0g fun _=>bcN ?_⟩
       simp only[List.take_length]
       refine z1e (fun h=>?_) (fun h=>?_)
       . rw[h,Bool.true_or]at hY;exact hY
       . rw[h,Bool.false_or]at hY;exact hY
   . intro Y
     refine z0g fun _=>bcN ?_
     simp only[List.take_length]
     exact congrArg (fun b=>(b,())) key)
end Go.V

