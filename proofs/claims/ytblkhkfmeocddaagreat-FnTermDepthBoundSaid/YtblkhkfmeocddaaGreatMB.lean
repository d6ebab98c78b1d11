/-
  The functions that the law reaches: what each gives.
-/
import Derived.Test.YtblkhkfmeocddaaGreatMB0
set_option linter.unusedVariables false
set_option linter.unusedSimpArgs false
set_option maxRecDepth 1000000
set_option maxHeartbeats 4000000
set_option linter.unusedVariables false
set_option linter.unusedSimpArgs false
namespace Go.V
open Go
theorem zcs {x:z0n} {l:List z01}:z6v x l (zd9 x l):=zrc _ _ _ (by
 unfold ziq
 refine⟨_,z094,z0p (fun h=>by unfold zd9;rw[h];rfl) (fun h=>?_)⟩
 obtain⟨hw,hl⟩:=zu9 h
 refine⟨_,z00s,_,zs7 hw hl l.length 0 zfu (by omega) rfl,?_⟩
 rw[List.drop_zero]
 have hlen:(zjv x.2.1 l zfu).length<=27000:=Nat.le_trans (zlp hw.few) (z0az hl)
 unfold zd9
 rw[h,if_pos rfl]
 refine z26 (zjv x.2.1 l zfu) dedG [] (fun i s=>((i:Int),(s,(zjv x.2.1 l zfu,())))) List.length 1 27000 hlen (fun s f _=>z02i s f) ?_ ?_
 . intro i hi s X hs hX
   refine z0h fun _=>bcI hi ?_
   simp only
   rw[z02 (by omega)]
   refine z3w s (fun(m:Bool) c=>m||decide (c=(zjv x.2.1 l zfu)[i])) false (fun j m=>(m,((j:Int),()))) ?_ ?_
   . intro j hj Y hY
     refine z0h fun _=>bcI hj ?_
     simp only
     rw[z02 (by simp at hs;omega)]
     generalize (s.take j).foldl (fun(m:Bool) c=>m||decide (c=(zjv x.2.1 l zfu)[i])) false=m at hY ⊢
     cases m with
     |true=>exact bcT hY
     | false=>
       refine bcF (inI hj (inI hi ⟨_,zl3,?_⟩))
       rw[z1r hj,z1r hi]
       have:(zho s[j] (zjv x.2.1 l zfu)[i] == (0:Int))=decide (s[j]=(zjv x.2.1 l zfu)[i]):=by
        by_cases he:s[j]=(zjv x.2.1 l zfu)[i]
        . rw[cmpL_zero.mpr he];simp[he]
        . have:zho s[j] (zjv x.2.1 l zfu)[i]≠0:=fun e=>he (cmpL_zero.mp e)
          simp[he,this]
       rw[this];simpa using hY
   . intro Y
     refine z0h fun _=>bcN ?_
     simp only
     have hm:∀(s:List (List Int)) (m:Bool),s.foldl (fun(m:Bool) c=>m||decide (c=(zjv x.2.1 l zfu)[i])) m=(m||decide ((zjv x.2.1 l zfu)[i]∈s)):=by
      intro s
      induction s with
      |nil=>intro m;simp
      | cons c s ih=>
        intro m
        rw[List.foldl_cons,ih,Bool.or_assoc]
        congr 1
        by_cases he:c=(zjv x.2.1 l zfu)[i]
        . simp[he]
        . have:¬ (zjv x.2.1 l zfu)[i]=c:=fun e=>he e.symm
          simp[he,this]
     rw[hm,Bool.false_or]
     unfold dedG at hX
     refine z0g8 (fun h4=>inI hi ⟨by simp only[z1b,List.length_nil,List.length_cons]at *;omega,?_⟩) (fun h4=>?_)
     . rw[z1r hi];rw[if_neg h4]at hX;exact hX
     . rw[if_pos h4]at hX;exact hX
 . intro X _
   exact z0h fun _=>bcN rfl)
def z05o (b:List Int) (t:Int):Option Int:=if 0<=t then(if (b.length:Int)<=t then none else if zml (b.getD t.toNat 0)then some (b.getD t.toNat 0)else none)else(if zml (-1 - t)then some (-1 - t)else none)
def zi7 (b:List Int) (s:List Int) (t:Int):Unit ⊕ List Int:=match z05o b t with
 |none=>.inl ()
 |some v=>.inr (s++[v])
def inst (a:z01) (b:List Int):z01:=match zab (zi7 b) a.2.1 []with
 |.inl _=>z0w
 |.inr s=>(a.1,(s,()))
def zaq (a:z01) (b:List Int):Bool:=match zab (zi7 b) a.2.1 []with
 |.inl _=>false
 |.inr _=>true
theorem zq8 {b:List Int}:∀ {l:List Int} {s s':List Int},zab (zi7 b) l s = .inr s'->s'.length=s.length+l.length
 |[],s,s',h=>by simp only[zab,Sum.inr.injEq]at h;subst h;simp
 | t::l,s,s',h=>by
   simp only[zab]at h
   unfold zi7 at h
   cases e:z05o b t with
   |none=>rw[e]at h;simp at h
   | some v=>
     rw[e]at h
     have:=zq8 (b:=b) (l:=l) h
     simp at this ⊢
     omega
theorem z0b0 {a:z01} {b:List Int}:(inst a b).2.1.length<=a.2.1.length:=by
 unfold inst
 cases e:zab (zi7 b) a.2.1 []with
 |inl _=>simp
 |inr s=>have:=zq8 e;simp at this ⊢;omega
theorem z0d8 {a:z01} {b:List Int} {r:Unit} (h:zab (zi7 b) a.2.1 [] = .inl r):((z0w,(false,())):z01×Bool×Unit)=(inst a b,(zaq a b,())):=by unfold inst zaq;rw[h]
theorem z09a {a:z01} {b s:List Int} (h:zab (zi7 b) a.2.1 [] = .inr s):(((a.1,(s,())),(true,())):z01×Bool×Unit)=(inst a b,(zaq a b,())):=by unfold inst zaq;rw[h]
theorem z9b {a:z01} {b:List Int} (hl:a.2.1.length<=1000) (hb:b.length<=1000) (ht:∀ t∈a.2.1,-10<=t/\t<5):z58 a b (inst a b) (zaq a b):=zry _ _ _ _ (by
 unfold zir
 refine zls a.2.1 (zi7 b) [] (fun i s=>((i:Int),(z0w,((a.1,(s,())),())))) (KR:=fun _=>((z0w,(false,())):z01×Bool×Unit)=(inst a b,(zaq a b,()))) ?_ ?_ (fun r hr=>z0d8 hr)
 . intro i hi s X hr h1 h2
   have hs:=zq8 hr
   have htr:=ht _ (List.getElem_mem hi)
   refine z0h fun _=>bcI hi (inI hi (inI hi ?_))
   simp only
   rw[z1r hi,z02 (by omega)]
   unfold zi7 z05o at h1 h2
   rw[List.length_take,List.length_nil]at hs
   refine z09 (fun h3=>inI hi (z0h fun _=>z09 (fun h4=>?_) (fun h4=>inI hi ⟨⟨by omega,by omega⟩,_,z8l,z0p (fun h5=>?_) (fun h5=>inI hi (z09 (fun h6=>by omega) (fun h6=>⟨by simp only[z1b,List.length_cons,List.length_nil];omega,?_⟩)))⟩))) (fun h3=>⟨_,z8l,?_⟩)
   . exact h1 () (by rw[if_pos (by omega),if_pos (by omega)])
   . exact h1 () (by rw[if_pos (by omega),if_neg (by omega),h5];rfl)
   . exact h2 _ (by rw[if_pos (by omega),if_neg (by omega),h5];rfl)
   . rw[z19 (by omega) (by omega)]
     refine z0p (fun h5=>?_) (fun h5=>inI hi (z09 (fun _=>z09 (fun h6=>by omega) (fun _=>⟨by simp only[z1b,List.length_cons,List.length_nil];omega,?_⟩)) (fun h6=>by omega)))
     . exact h1 () (by rw[if_neg (by omega),h5];rfl)
     . exact h2 _ (by rw[if_neg (by omega),h5];rfl)
 . intro s X hr
   exact z0h fun _=>bcN (z09a hr))
theorem zc9 {k:Int} (h0:0<=k) (h1:k<=1000000):z7u k (-1 - k):=zws _ _ (by unfold zn3;rw[z19 (by omega) (by omega)])
theorem zef {α:Type} [BEq α] [LawfulBEq α] [DecidableEq α] {l:List α} {b:α}:(l.any fun t=>decide (t=b))=decide (b∈l):=by
 rw[<-zty]
 congr 1;funext t
 by_cases h:t=b
 . simp[h]
 . have:¬ b=t:=fun e=>h e.symm
   simp[h,this]
def place (l:List z01) (f:z01):Int:=if z05 (fun x=>decide (x=f)) l<l.length then(z05 (fun x=>decide (x=f)) l:Int)else -1
theorem zv6 {l:List z01} {f:z01}:decide (place l f>=0)=decide (f∈l):=by
 have:=zio (fun x=>decide (x=f)) l
 rw[zef]at this
 exact this
theorem zks {l:List z01} {f:z01} (h:f∈l):∃ p:Nat,place l f=p/\∃ hp:p<l.length,l[p]=f:=by
 have h1:z05 (fun x=>decide (x=f)) l<l.length:=firstAt_any.mpr (by rw[zef];simpa using h)
 refine⟨_,by unfold place;rw[if_pos h1],h1,?_⟩
 simpa using z7q h1
theorem z06b {l:List z01} {f:z01} (h:f∉l):place l f = -1:=by
 unfold place
 rw[if_neg]
 intro h1
 have:=firstAt_any.mp h1
 rw[zef]at this
 exact h (by simpa using this)
theorem z07w {x f:z01}:(zfv x f == (0:Int))=decide (x=f):=by
 by_cases h:x=f
 . rw[cmpF_zero.mpr h];simp[h]
 . have:zfv x f≠0:=fun e=>h (cmpF_zero.mp e)
   simp[h,this]
theorem zhl {x:z0n} {f:z01}:zbk x f (place x.2.1 f):=z03k _ _ _ (by
 unfold ztm
 refine z7v x.2.1 (fun t=>decide (t=f)) (fun i=>((i:Int),())) (KT:=fun i=>(((i:Int),()):Int×Unit)=(place x.2.1 f,())) (KF:=(((-1:Int),()):Int×Unit)=(place x.2.1 f,())) ?_ ?_ ?_ ?_
 . intro i hi X h1 h2
   refine z0h fun _=>bcI hi (inI hi ⟨_,z8q,?_⟩)
   simp only
   rw[z1r hi,z07w,z02 (by omega)]
   exact z1k h1 h2
 . intro X h;exact z0h fun _=>bcN h
 . intro h;unfold place;rw[if_pos h]
 . intro h;unfold place;rw[if_neg (by omega)])
theorem zqp {x:z0n} {f:z01}:zbo x f (z3l x&&decide (f∈x.2.1)):=zpb _ _ _ (by
 unfold zgm
 refine⟨_,z3y,z1k (fun h=>⟨_,zhl,?_⟩) (fun h=>by rw[h];rfl)⟩
 rw[zv6,h,Bool.true_and])
theorem zsr:∀ {x y z:List Int},zho x y<0->zho y z<0->zho x z<0
 |[],[],z,h,_=>by simp[zho]at h
 |[],b::y,[],_,h=>by simp[zho]at h
 |[],b::y,c::z,_,_=>by simp[zho]
 |a::x,[],z,h,_=>by simp[zho]at h
 |a::x,b::y,[],_,h=>by simp[zho]at h
 | a::x,b::y,c::z,h1,h2=>by
   simp only[zho]at h1 h2 ⊢
   have ih:=zsr (x:=x) (y:=y) (z:=z)
   split at h1
   . split at h2
     . rw[if_pos (by omega)];omega
     . split at h2
       . omega
       . rw[if_pos (by omega)];omega
   . split at h1
     . omega
     . split at h2
       . rw[if_pos (by omega)];omega
       . split at h2
         . omega
         . rw[if_neg (by omega),if_neg (by omega)];exact ih h1 h2
theorem zsy {x y z:z01} (h1:zfv x y<0) (h2:zfv y z<0):zfv x z<0:=by
 unfold zfv at *
 split at h1
 . split at h2
   . rw[if_pos (by omega)];omega
   . split at h2
     . omega
     . rw[if_pos (by omega)];omega
 . split at h1
   . omega
   . split at h2
     . rw[if_pos (by omega)];omega
     . split at h2
       . omega
       . rw[if_neg (by omega),if_neg (by omega)];exact zsr h1 h2
def asc (l:List z01):Prop:=∀ i j (hj:j<l.length) (hij:i<j),zfv (l[i]'(by omega)) l[j]<0
theorem z06f {x:z0n} (h:z3l x=true):asc x.2.1:=by
 have step:∀ i (hi:i+1<x.2.1.length),zfv (x.2.1[i]'(by omega)) x.2.1[i+1]<0:=by
  intro i hi
  unfold z3l at h
  simp only[Bool.and_eq_true]at h
  have:=List.all_eq_true.mp h.2 (i+1) (by simpa using hi)
  unfold z7c at this
  simp only[Bool.and_eq_true]at this
  have:=this.1.2
  rw[show(i+1 == 0)=false by simp,Bool.false_or]at this
  have h:=of_decide_eq_true this
  rw[Nat.add_sub_cancel,z34 (by omega),z34 hi]at h
  exact h
 have all:∀ k i (hk:i+1+k<x.2.1.length),zfv (x.2.1[i]'(by omega)) x.2.1[i+1+k]<0:=by
  intro k
  induction k with
  |zero=>intro i hk;exact step i hk
  |succ k ih=>intro i hk;exact zsy (ih i (by omega)) (step (i+1+k) hk)
 intro i j hj hij
 obtain⟨k,rfl⟩:∃ k,j=i+1+k:=⟨j - i - 1,by omega⟩
 exact all k i hj
theorem z070 {l:List z0m} {ats:List z01} (h:∀ a∈ats,z5e l a=true) {v:Int} (hv:v∈vars ats):0<=v/\v<5:=by
 unfold vars at hv
 rw[mem_sset,List.mem_filter]at hv
 obtain⟨h1,h2⟩:=hv
 obtain⟨a,ha,h3⟩:=List.mem_flatMap.mp h1
 have:=inR_iff.mp ((z2e (h a ha)).2.2.2.2.2 v h3)
 have:0<=v:=by simpa using h2
 omega
structure DOk (d:z0b):Prop where
 sm:zrp d
 ex:∀ v∈exV d,0<=v/\v<5
 fr:∀ v∈frV d,0<=v/\v<5
 hd:d.2.1.length<=2/\∀ a∈d.2.1,a.2.1.length<=3/\∀ t∈a.2.1,-10<=t/\t<5
 bd:d.1.length<=2/\∀ a∈d.1,a.2.1.length<=3/\∀ t∈a.2.1,-10<=t/\t<5
theorem z0fo {l:List z0m} {d:z0b} (h:zhf l d=true):DOk d:=by
 have hs:=z56 h
 have row:∀ ats:List z01,(∀ a∈ats,z5e l a=true)->∀ a∈ats,a.2.1.length<=3/\∀ t∈a.2.1,-10<=t/\t<5:=fun ats h a ha=>by
  have:=z2e (h a ha)
  exact⟨this.2.2.2.2.1,fun t ht=>by have:=inR_iff.mp (this.2.2.2.2.2 t ht);omega⟩
 exact⟨zvt h,fun v hv=>z070 hs.2.2.2.2.1 (List.mem_filter.mp hv).1,fun v hv=>z070 hs.2.2.2.2.1 (List.mem_filter.mp hv).1,⟨hs.2.2.2.1,row _ hs.2.2.2.2.1⟩,⟨hs.2.1,row _ hs.2.2.1⟩⟩
def z6z (d:z0b) (b:List Int):List Int:=(frV d).foldl (fun s v=>s++[b.getD v.toNat 0]) []
theorem z04z {d:z0b} (h:zrp d) (b:List Int):(z6z d b).length<=6:=by
 have:=z6b (l:=frV d) (g:=fun s v=>s++[b.getD v.toNat 0]) (s:=[]) (μ:=List.length) (c:=1) fun s v _=>by simp
 have:=zpq h
 unfold z6z
 simp at *
 omega
def zhg (d:z0b) (i:Int) (b:List Int) (v:Int):z0c:=(i,(v,(z6z d b,())))
theorem z08e {ts:List z0c} {t:z0c} (h:t∈ts):0<=z9w ts t/\z9w ts t<ts.length:=by
 have h1:z05 (fun x=>decide (x=t)) ts<ts.length:=firstAt_any.mpr (by rw[zef];simpa using h)
 unfold z9w
 rw[if_pos h1];omega
def hdG (d:z0b) (i:Int) (b:List Int) (s:List z0c×List Int) (v:Int):List z0c×List Int:=
 if zhg d i b v∈s.1 then(s.1,s.2.set v.toNat (-1 - z9w s.1 (zhg d i b v)))else(s.1++[zhg d i b v],s.2.set v.toNat (-1 - (s.1.length:Int)))
def hdS (ts:List z0c) (d:z0b) (i:Int) (b:List Int):List z0c×List Int:=(exV d).foldl (hdG d i b) (ts,b)
def valG (ts:List z0c) (d:z0b) (i:Int) (b:List Int) (vs:List Int) (v:Int):List Int:=vs.set v.toNat (-1 - z9w ts (zhg d i b v))
theorem z02g {d:z0b} {i:Int} {b:List Int}:∀ {l:List Int} {s:List z0c×List Int},s.1.length<=(l.foldl (hdG d i b) s).1.length
 |[],s=>Nat.le_refl _
 | v::l,s=>by
   rw[List.foldl_cons]
   refine Nat.le_trans ?_ z02g
   unfold hdG
   split<;>simp
theorem zzx {d:z0b} {i:Int} {b:List Int} {ts:List z0c}:∀ {l:List Int} {vs:List Int},(∀ v∈l,zhg d i b v∈ts)->l.foldl (hdG d i b) (ts,vs)=(ts,l.foldl (valG ts d i b) vs)
 |[],vs,_=>rfl
 | v::l,vs,h=>by
   rw[List.foldl_cons,List.foldl_cons]
   have:hdG d i b (ts,vs) v=(ts,valG ts d i b vs v):=by unfold hdG valG;rw[if_pos (h v (by simp))]
   rw[this]
   exact zzx fun v hv=>h v (by simp[hv])
theorem zzu {d:z0b} {i:Int} {b:List Int} {ts:List z0c}:∀ {l:List Int} {vs:List Int},(l.foldl (hdG d i b) (ts,vs)).1.length=ts.length->∀ v∈l,zhg d i b v∈ts
 |[],vs,_=>by simp
 | v::l,vs,h=>by
   rw[List.foldl_cons]at h
   by_cases hv:zhg d i b v∈ts
   . have:hdG d i b (ts,vs) v=(ts,valG ts d i b vs v):=by unfold hdG valG;rw[if_pos hv]
     rw[this]at h
     intro u hu
     rcases List.mem_cons.mp hu with rfl|hu
     . exact hv
     . exact zzu h u hu
   . have h1:=z02g (d:=d) (i:=i) (b:=b) (l:=l) (s:=hdG d i b (ts,vs) v)
     have h2:(hdG d i b (ts,vs) v).1.length=ts.length+1:=by unfold hdG;rw[if_neg hv];simp
     omega
theorem z02k (d:z0b) (i:Int) (b:List Int) (s:List z0c×List Int) (v:Int):(hdG d i b s v).2.length=s.2.length:=by unfold hdG;split<;>simp
theorem z09q (d:z0b) (i:Int) (b:List Int) (s:List z0c×List Int) (v:Int):(hdG d i b s v).1.length<=s.1.length+1:=by unfold hdG;split<;>simp
def zdd (d:z0b) (vs:List Int):List z01:=d.2.1.foldl (fun out a=>out++[inst a vs]) []
theorem zhk {α β:Type} (f:α->β):∀(l:List α) (s:List β),l.foldl (fun out a=>out++[f a]) s=s++l.map f
 |[],s=>by simp
 |a::l,s=>by rw[List.foldl_cons,zhk f l];simp
def zr5 (ts:List z0c) (d:z0b) (i:Int) (b:List Int) (f:z01):Bool:=
 (exV d).all (fun v=>decide (zhg d i b v∈ts))&&d.2.1.any fun a=>decide (inst a ((exV d).foldl (valG ts d i b) b)=f)
def zq0 (dp:List Int) (m v:Int):Int:=if z3p v then(if z2h v<(dp.length:Int)then zae m (dp.getD (z2h v).toNat 0)else m)else m
def z014 (dp:List Int) (t:z0c):List Int:=dp++[w64 (t.2.2.1.foldl (zq0 dp) 0+1)]
theorem zpx:∀(l:List z0c) (s:List Int),(l.foldl z014 s).length=s.length+l.length
 |[],s=>by simp
 |t::l,s=>by rw[List.foldl_cons,zpx];simp[z014];omega
theorem zmr {s:TSk} {t:z0c} (hl:s.2.1.length<=30):zbb s t (((s.2.1++[t]).foldl z014 []).getD s.2.1.length 0):=by
 refine z03n _ _ _ ?_
 unfold zti
 refine z0u (s.2.1.length+1) (fun i=>((i:Int),(((s.2.1++[t]).take i).foldl z014 [],()))) rfl ?_ ?_
 . intro i hi X hX
   have hlen:=zpx ((s.2.1++[t]).take i) []
   have hin:i<(s.2.1++[t]).length:=by simp;omega
   rw[z08 hin,List.foldl_append]at hX
   simp only[List.foldl_cons,List.foldl_nil]at hX
   rw[List.length_take,List.length_nil,Nat.min_eq_left (by omega)]at hlen
   simp only
   generalize ((s.2.1++[t]).take i).foldl z014 []=dp at hX hlen ⊢
   refine z0h fun _=>z09 (fun _=>z0h fun _=>z09 (fun h=>?_) (fun h=>?_)) (fun h=>by omega)
   . have hi':i<s.2.1.length:=by omega
     rw[List.getElem_append_left hi']at hX
     refine inI hi' ?_
     rw[z1r hi',z02 (by omega)]
     refine z3w s.2.1[i].2.2.1 (zq0 dp) 0 (fun j m=>(m,((j:Int),()))) ?_ ?_
     . intro j hj Y hY
       refine z0h fun _=>bcI hj (inI hj ⟨_,_,z4t,?_⟩)
       simp only
       rw[z1r hj,z02 (by omega)]
       generalize (s.2.1[i].2.2.1.take j).foldl (zq0 dp) 0=m at hY ⊢
       unfold zq0 at hY
       refine z1k (fun h=>z0h fun _=>z09 (fun h2=>⟨⟨zgv _,h2⟩,?_⟩) (fun h2=>?_)) (fun h=>?_)
       . rw[if_pos h,if_pos h2]at hY;exact hY
       . rw[if_pos h,if_neg h2]at hY;exact hY
       . rw[h]at hY;simpa using hY
     . intro Y
       exact z0h fun _=>bcN ⟨by simp only[z1b,List.length_cons,List.length_nil];omega,hX⟩
   . obtain rfl:i=s.2.1.length:=by omega
     rw[show(s.2.1++[t])[s.2.1.length]=t by simp]at hX
     rw[z02 (by omega)]
     refine z3w t.2.2.1 (zq0 dp) 0 (fun j m=>(m,((j:Int),()))) ?_ ?_
     . intro j hj Y hY
       refine z0h fun _=>bcI hj (inI hj ⟨_,_,z4t,?_⟩)
       simp only
       rw[z1r hj,z02 (by omega)]
       generalize (t.2.2.1.take j).foldl (zq0 dp) 0=m at hY ⊢
       unfold zq0 at hY
       refine z1k (fun h=>z0h fun _=>z09 (fun h2=>⟨⟨zgv _,h2⟩,?_⟩) (fun h2=>?_)) (fun h=>?_)
       . rw[if_pos h,if_pos h2]at hY;exact hY
       . rw[if_pos h,if_neg h2]at hY;exact hY
       . rw[h]at hY;simpa using hY
     . intro Y
       exact z0h fun _=>bcN ⟨by simp only[z1b,List.length_cons,List.length_nil];omega,hX⟩
 . intro X
   have hlen:=zpx (s.2.1++[t]) []
   simp only[List.length_append,List.length_cons,List.length_nil]at hlen
   refine z0h fun _=>z09 (fun h=>by simp only at h;omega) (fun _=>z0h fun _=>?_)
   have e:(s.2.1++[t]).take (s.2.1.length+1)=s.2.1++[t]:=List.take_of_length_le (by simp)
   simp only[e,Int.toNat_natCast]
   exact⟨⟨by omega,by omega⟩,trivial⟩
theorem z04k {s:TSk} {t:z0c} (hl:s.2.1.length<=30):∃ y,zbb s t y:=⟨_,zmr hl⟩
theorem z0df (x y:z0c):(x=y)↔x.1=y.1/\x.2.1=y.2.1/\x.2.2.1=y.2.2.1:=by
 obtain⟨a,b,c,u⟩:=x;obtain⟨a',b',c',u'⟩:=y
 simp
def z0ey (s:TSk) (t:z0c) (K:TSk×Int×Bool×Unit->Prop):Prop:=z0t (s.2.1.length:Int) (z00 ((s.2.1.length:Int) == (30:Int)) (K (s,((0:Int),(false,())))) (∃ y5:Int,zbb s t y5/\
 z00 (decide (y5 > (8:Int))) (K (s,((0:Int),(false,())))) (True/\True/\([]:List z0c).length+s.2.1.length<=z1b/\(([]:List z0c)++s.2.1).length+([t]:List z0c).length<=z1b/\
  z0t (List.length ((([]:List z0c)++s.2.1)++([t]:List z0c)):Int) (∃ y6:Int,z7u (w64 ((List.length ((([]:List z0c)++s.2.1)++([t]:List z0c)):Int) - (1:Int))) y6/\
   K ((s.1,((([]:List z0c)++s.2.1)++([t]:List z0c),s.2.2)),(y6,(true,())))))))
theorem z8x {s:TSk} {t:z0c} (hl:s.2.1.length<=30) (y1:TSk) (y2:Int) (y3:Bool) (h1:t∈s.2.1->y1=s/\y2 = -1 - z9w s.2.1 t/\y3=true) (h2:t∉s.2.1->z0ey s t fun r=>r=(y1,(y2,(y3,())))):z96 s t y1 y2 y3:=by
 refine z03s _ _ _ _ _ ?_
 unfold ztq
 refine z7v s.2.1 (fun x=>decide (x=t)) (fun i=>((i:Int),(((([]:List z0m),(([]:List z01),())),(([]:List z0c),())),()))) (KT:=fun i=>((s,(-1 - (i:Int),(true,()))):TSk×Int×Bool×Unit)=(y1,(y2,(y3,())))) (KF:=t∉s.2.1) ?_ ?_ ?_ ?_
 . intro i hi X g1 g2
   refine z0h fun _=>bcI hi (inI hi ?_)
   simp only
   rw[z1r hi,z02 (by omega)]
   have no:¬ s.2.1[i]=t->X (((i+1:Nat):Int),(((([]:List z0m),(([]:List z01),())),(([]:List z0c),())),())):=fun h=>g2 (by simpa using h)
   refine z3z (fun e1=>inI hi (z3z (fun e2=>inI hi ⟨_,zl3,z3z (fun e3=>⟨_,zc9 (by omega) (by omega),?_⟩) (fun e3=>no fun h=>e3 (by rw[h];exact cmpL_zero.mpr rfl))⟩) (fun e2=>no fun h=>e2 (by rw[h])))) (fun e1=>no fun h=>e1 (by rw[h]))
   exact g1 (by simpa using (z0df _ _).mpr ⟨e1,e2,cmpL_zero.mp e3⟩)
 . intro X h
   refine z0h fun _=>bcN ?_
   exact h2 h
 . intro h
   have hm:t∈s.2.1:=by
    have:=firstAt_any.mp h
    rw[zef]at this
    simpa using this
   obtain⟨rfl,rfl,rfl⟩:=h1 hm
   unfold z9w;rw[if_pos h]
 . intro h hm
   have:=firstAt_any (p:=fun x=>decide (x=t)).mpr (by rw[zef];simpa using hm)
   omega
theorem z050 {s:TSk} {t:z0c} (hl:s.2.1.length<=30) :
  (t∈s.2.1->z96 s t s (-1 - z9w s.2.1 t) true)/\(t∉s.2.1->∃ y1 y2 y3,z96 s t y1 y2 y3/\(y3=false\/(y3=true/\y1.2.1.length≠s.2.1.length))):=by
 have main:=z8x (s:=s) (t:=t) hl
 refine⟨fun hm=>main _ _ _ (fun _=>⟨rfl,rfl,rfl⟩) (fun h=>absurd hm h),fun hm=>?_⟩
 by_cases h30:s.2.1.length=30
 . exact⟨s,0,false,main _ _ _ (fun h=>absurd h hm) (fun _=>z0h fun _=>z3z (fun _=>rfl) (fun h=>by omega)),.inl rfl⟩
 . obtain⟨y,hy⟩:=z04k (s:=s) (t:=t) hl
   by_cases h8:y > 8
   . exact⟨s,0,false,main _ _ _ (fun h=>absurd h hm) (fun _=>z0h fun _=>z3z (fun h=>by omega) (fun _=>⟨y,hy,z09 (fun _=>rfl) (fun h=>absurd h8 h)⟩)),.inl rfl⟩
   . refine⟨(s.1,(s.2.1++[t],s.2.2)),-1 - (s.2.1.length:Int),true,main _ _ _ (fun h=>absurd h hm) (fun _=>z0h fun _=>z3z (fun h=>by omega) (fun _=>⟨y,hy,z09 (fun h=>absurd h h8) (fun _=>⟨trivial,trivial,by simp only[z1b,List.length_nil];omega,by simp only[z1b,List.length_append,List.length_cons,List.length_nil];omega,z0h fun _=>⟨-1 - (s.2.1.length:Int),?_,rfl⟩⟩)⟩)),.inr ⟨rfl,by simp⟩⟩
     have e:w64 ((List.length ((([]:List z0c)++s.2.1)++([t]:List z0c)):Int) - (1:Int))=(s.2.1.length:Int):=by
      rw[z19]<;>simp<;>omega
     rw[e]
     exact zc9 (by omega) (by omega)
theorem zpa {σ τ:Type} {B:(τ->Prop)->τ->Prop} (n:Nat) (g:σ->Nat->σ) (s0:σ) (e:Nat->σ->τ) (μ:σ->Nat) (c N:Nat) (hN:n<=N) (hg:∀ s i,i<n->μ (g s i)<=μ s+c)
  (hs:∀ i (_:i<n) (s:σ) (X:τ->Prop),μ s<=μ s0+N * c->X (e (i+1) (g s i))->B X (e i s))
  (hf:∀ X:τ->Prop,μ ((List.range n).foldl g s0)<=μ s0+N * c->B X (e n ((List.range n).foldl g s0))):z0f B (e 0 s0):=
 z26 (List.range n) g s0 e μ c N (by simpa using hN) (fun s a ha=>hg s a (List.mem_range.mp ha)) (fun i h s X hs' hX=>hs i (by simpa using h) s X hs' (by simpa using hX)) (fun X h=>by simpa using hf X h)
def mkS (ts:List z0c) (d:z0b) (i:Int) (b:List Int) (vs:List Int) (v:Int):Unit ⊕ List Int:=if zhg d i b v∈ts then .inr (valG ts d i b vs v)else .inl ()
theorem zze {ts:List z0c} {d:z0b} {i:Int} {b:List Int}:∀ {l vs vs':List Int},zab (mkS ts d i b) l vs = .inr vs'->(∀ v∈l,zhg d i b v∈ts)/\vs'=l.foldl (valG ts d i b) vs
 |[],vs,vs',h=>by simp only[zab,Sum.inr.injEq]at h;exact⟨by simp,h.symm⟩
 | v::l,vs,vs',h=>by
   simp only[zab]at h
   unfold mkS at h
   by_cases hv:zhg d i b v∈ts
   . rw[if_pos hv]at h
     obtain⟨h1,h2⟩:=zze (ts:=ts) (d:=d) (i:=i) (b:=b) h
     exact⟨fun u hu=>(List.mem_cons.mp hu).elim (fun e=>e ▸ hv) (h1 u),by rw[List.foldl_cons];exact h2⟩
   . rw[if_neg hv]at h;simp at h
theorem z05l {ts:List z0c} {d:z0b} {i:Int} {b:List Int} {r:Unit}:∀ {l vs:List Int},zab (mkS ts d i b) l vs = .inl r->∃ v∈l,zhg d i b v∉ts
 |[],vs,h=>by simp[zab]at h
 | v::l,vs,h=>by
   by_cases hv:zhg d i b v∈ts
   . simp only[zab]at h
     unfold mkS at h
     rw[if_pos hv]at h
     obtain⟨u,hu,h1⟩:=z05l (ts:=ts) (d:=d) (i:=i) (b:=b) h
     exact⟨u,by simp[hu],h1⟩
   . exact⟨v,by simp,hv⟩
theorem zva {ts:List z0c} {d:z0b} {i:Int} {b:List Int}:∀ {l vs:List Int},(l.foldl (valG ts d i b) vs).length=vs.length
 |[],vs=>rfl
 |v::l,vs=>by rw[List.foldl_cons,zva];simp[valG]
theorem z0c0 {α:Type} {p:α->Bool} {l:List α} {x:α} (hx:x∈l) (h:p x=false):l.all p=false:=by
 rw[Bool.eq_false_iff];intro h'
 rw[List.all_eq_true.mp h' x hx]at h;cases h
theorem z0aa {ts:List z0c} {d:z0b} {i:Int} {b:List Int} {f:z01}:zr5 ts d i b f=(decide ((hdS ts d i b).1.length=ts.length)&&decide (f∈zdd d (hdS ts d i b).2)):=by
 unfold zr5
 by_cases h:∀ v∈exV d,zhg d i b v∈ts
 . have e:hdS ts d i b=(ts,(exV d).foldl (valG ts d i b) b):=zzx h
   have e2:(exV d).all (fun v=>decide (zhg d i b v∈ts))=true:=List.all_eq_true.mpr fun v hv=>by simpa using h v hv
   rw[e,e2]
   simp only[decide_true,Bool.true_and]
   unfold zdd
   rw[zhk,List.nil_append,<-zef,List.any_map]
   rfl
 . have h1:¬ (hdS ts d i b).1.length=ts.length:=fun e=>h (zzu e)
   rw[decide_eq_false h1,Bool.false_and]
   have:∃ v∈exV d,zhg d i b v∉ts:=Classical.byContradiction fun hn=>h fun v hv=>Classical.byContradiction fun hv'=>hn ⟨v,hv,hv'⟩
   obtain⟨v,hv,hv'⟩:=this
   rw[z0c0 hv (decide_eq_false hv'),Bool.false_and]
theorem zzd {s:TSk} {ds:List z0b} {i:Nat} {b:List Int} {f:z01} (hi:i<ds.length) (hd:DOk ds[i]) (hts:s.2.1.length<=30) (hb:b.length=5) :
  zjh s ds i b f (zr5 s.2.1 ds[i] i b f):=zzo _ _ _ _ _ _ (by
 unfold zp9
 obtain⟨hs1,hs2⟩:=hd.sm
 have hfl:=zpq hd.sm
 have hel:=zvm hd.sm
 have hal:=z04z hd.sm b
 refine inI hi ⟨_,z6r (d:=ds.getD (Int.toNat (i:Int)) z7h) (by rw[z1r hi];omega) (by rw[z1r hi];omega),?_⟩
 rw[z1r hi]
 refine z26 (frV ds[i]) (fun s v=>s++[b.getD v.toNat 0]) [] (fun j s=>((j:Int),(s,()))) List.length 1 6 hfl (fun s v _=>by simp) ?_ ?_
 . intro j hj s X hs hX
   have hv:=hd.fr _ (List.getElem_mem hj)
   refine z0h fun _=>bcI hj (inI hj ?_)
   simp only
   rw[z1r hj,z02 (by omega)]
   exact⟨⟨by omega,by omega⟩,by simp only[z1b,List.length_cons,List.length_nil]at *;omega,hX⟩
 . intro X _
   refine z0h fun _=>bcN ⟨by simp only[z1b,List.length_nil];omega,inI hi ⟨_,z4u (by omega) (by omega),?_⟩⟩
   rw[List.nil_append]
   refine zls (exV ds[i]) (mkS s.2.1 ds[i] i b) b (fun j vs=>((j:Int),(z6z ds[i] b,(vs,())))) (KR:=fun _=>((false,()):Bool×Unit)=(zr5 s.2.1 ds[i] i b f,())) ?_ ?_ ?_
   . intro j hj vs Y hr h1 h2
     obtain⟨_,rfl⟩:=zze hr
     have hvl:=zva (ts:=s.2.1) (d:=ds[i]) (i:=i) (b:=b) (l:=(exV ds[i]).take j) (vs:=b)
     generalize ((exV ds[i]).take j).foldl (valG s.2.1 ds[i] i b) b=vs at h1 h2 hvl ⊢
     have hv:=hd.ex _ (List.getElem_mem hj)
     refine z0h fun _=>bcI hj (inI hj ⟨trivial,?_⟩)
     simp only
     rw[z1r hj,z02 (by omega)]
     have e:(((i:Int),((exV ds[i])[j],(z6z ds[i] b,()))):z0c)=zhg ds[i] i b (exV ds[i])[j]:=rfl
     rw[e]
     unfold mkS at h1 h2
     have ht:=z050 (s:=s) (t:=zhg ds[i] i b (exV ds[i])[j]) hts
     by_cases hm:zhg ds[i] i b (exV ds[i])[j]∈s.2.1
     . refine⟨_,_,_,ht.1 hm,bcF (z0h fun _=>z0h fun _=>zcx (fun h=>absurd rfl h) (fun _=>inI hj ⟨⟨by omega,by omega⟩,h2 _ (by rw[if_pos hm];rfl)⟩))⟩
     . obtain⟨y1,y2,y3,hg,h3⟩:=ht.2 hm
       have hno:=h1 () (by rw[if_neg hm])
       rcases h3 with rfl|⟨rfl,h3⟩
       . exact⟨y1,y2,false,hg,bcT hno⟩
       . exact⟨y1,y2,true,hg,bcF (z0h fun _=>z0h fun _=>zcx (fun _=>hno) (fun h=>by omega))⟩
   . intro vs Y hr
     obtain⟨hall,rfl⟩:=zze hr
     have hvl:=zva (ts:=s.2.1) (d:=ds[i]) (i:=i) (b:=b) (l:=exV ds[i]) (vs:=b)
     have e2:(exV ds[i]).all (fun v=>decide (zhg ds[i] i b v∈s.2.1))=true:=List.all_eq_true.mpr fun v hv=>by simpa using hall v hv
     unfold zr5
     rw[e2,Bool.true_and]
     generalize (exV ds[i]).foldl (valG s.2.1 ds[i] i b) b=vs at hvl ⊢
     refine z0h fun _=>bcN ?_
     refine z6f ds[i].2.1 (fun a=>decide (inst a vs=f)) (fun j=>((j:Int),())) (KT:=((true,()):Bool×Unit)=(ds[i].2.1.any (fun a=>decide (inst a vs=f)),())) (KF:=((false,()):Bool×Unit)=(ds[i].2.1.any (fun a=>decide (inst a vs=f)),())) ?_ ?_ (fun h=>by rw[h]) (fun h=>by rw[h])
     . intro j hj Z h1 h2
       have ha:=hd.hd.2 _ (List.getElem_mem hj)
       refine inI hi (z0h fun _=>bcI hj (inI hi (inI hj ⟨_,_,z9b (a:=(ds[i].2.1).getD (Int.toNat (j:Int)) z0w) (b:=vs) (by rw[z1r hj];omega) (by omega) (by rw[z1r hj];exact ha.2),_,z8q,?_⟩)))
       simp only
       rw[z1r hj,z02 (by omega),z07w]
       exact z1k h1 h2
     . intro Z h
       exact inI hi (z0h fun _=>bcN h)
   . intro r hr
     obtain⟨v,hv,hm⟩:=z05l hr
     unfold zr5
     rw[z0c0 hv (decide_eq_false hm),Bool.false_and])
def derH (s:TSk) (d:z0b) (i:Nat) (f:z01) (out:List z01) (b:List Int):List z01:=if zr5 s.2.1 d i b f then out++[((i:Int),(b,()))] else out
def derG (s:TSk) (ds:List z0b) (f:z01) (out:List z01) (i:Nat):List z01:=(zd9 s.1 (ds.getD i z7h).1).foldl (derH s (ds.getD i z7h) i f) out
def z6j (s:TSk) (ds:List z0b) (f:z01):List z01:=if vSk s&&(z3c s.1.1 ds&&decide (f∈s.1.2.1))then(List.range ds.length).foldl (derG s ds f) [] else[]
theorem z030 (s:TSk) (d:z0b) (i:Nat) (f:z01) (out:List z01) (b:List Int):(derH s d i f out b).length<=out.length+1:=by unfold derH;split<;>simp
theorem z021 (s:TSk) (ds:List z0b) (f:z01) (out:List z01) (i:Nat):(derG s ds f out i).length<=out.length+27000:=by
 have:=z6b (l:=zd9 s.1 (ds.getD i z7h).1) (g:=derH s (ds.getD i z7h) i f) (s:=out) (μ:=List.length) (c:=1) fun o b _=>z030 s _ i f o b
 have:=zlo (x:=s.1) (l:=(ds.getD i z7h).1)
 unfold derG
 omega
theorem zkc {l:List z0m} {ds:List z0b} (h:z3c l ds=true):ds.length<=5/\∀ d∈ds,DOk d:=by
 unfold z3c at h
 simp only[Bool.and_eq_true]at h
 exact⟨zfz h.1,fun d hd=>z0fo (zh6 h.1 hd)⟩
theorem ztb (s:TSk) (ds:List z0b) (f:z01):(z6j s ds f).length<=135000:=by
 unfold z6j
 split
 . rename_i h
   simp only[Bool.and_eq_true]at h
   have:=z6b (l:=List.range ds.length) (g:=derG s ds f) (s:=[]) (μ:=List.length) (c:=27000) fun o i _=>z021 s ds f o i
   have h5:=(zkc h.2.1).1
   rw[List.length_range,List.length_nil]at this
   have:=Nat.mul_le_mul_right 27000 h5
   omega
 . exact Nat.zero_le _
theorem z044 {s:TSk} {ds:List z0b} {f t:z01} (h:t∈z6j s ds f):∃ i:Nat,i<ds.length/\∃ b:List Int,b.length=5/\t=((i:Int),(b,())):=by
 unfold z6j at h
 split at h
 . have z0k:∀(i:Nat),i<ds.length->∀(l:List (List Int)) (out:List z01),(∀ b∈l,b.length=5)->(∀ t∈out,∃ i:Nat,i<ds.length/\∃ b:List Int,b.length=5/\t=((i:Int),(b,())))->
     ∀ t∈l.foldl (derH s (ds.getD i z7h) i f) out,∃ i:Nat,i<ds.length/\∃ b:List Int,b.length=5/\t=((i:Int),(b,())):=by
    intro i hi l
    induction l with
    |nil=>intro out _ ho;exact ho
    | cons b l ih=>
      intro out hl ho
      rw[List.foldl_cons]
      refine ih _ (fun c hc=>hl c (by simp[hc])) fun t ht=>?_
      unfold derH at ht
      split at ht
      . rcases List.mem_append.mp ht with ht|ht
        . exact ho t ht
        . simp only[List.mem_singleton]at ht;exact⟨i,hi,b,hl b (by simp),ht⟩
      . exact ho t ht
   have outer:∀(l:List Nat) (out:List z01),(∀ i∈l,i<ds.length)->(∀ t∈out,∃ i:Nat,i<ds.length/\∃ b:List Int,b.length=5/\t=((i:Int),(b,())))->
     ∀ t∈l.foldl (derG s ds f) out,∃ i:Nat,i<ds.length/\∃ b:List Int,b.length=5/\t=((i:Int),(b,())):=by
    intro l
    induction l with
    |nil=>intro out _ ho;exact ho
    | cons i l ih=>
      intro out hl ho
      rw[List.foldl_cons]
      exact ih _ (fun c hc=>hl c (by simp[hc])) (z0k i (hl i (by simp)) _ _ (fun b hb=>zm4 hb) ho)
   exact outer _ [] (fun i hi=>List.mem_range.mp hi) (by simp) t h
 . simp at h
theorem z7f {s:TSk} (h:vSk s=true):z3l s.1=true/\s.2.1.length<=30:=⟨(z1u h).1,z7z (z1u h).2.2⟩
theorem z08t {s:TSk} {ds:List z0b} {f:z01} (h:(vSk s&&(z3c s.1.1 ds&&decide (f∈s.1.2.1)))=false):(([]:List z01),())=(z6j s ds f,()):=by unfold z6j;rw[h];rfl
theorem zix {s:TSk} {ds:List z0b} {f:z01}:z9d s ds f (z6j s ds f):=zrx _ _ _ _ (by
 unfold zig
 refine⟨_,z0y,z0p (fun h=>z08t (by rw[h];rfl)) (fun h1=>⟨_,zep,z0p (fun h=>z08t (by rw[h];simp)) (fun h2=>⟨_,zqp,?_⟩)⟩)⟩
 obtain⟨hds,hdo⟩:=zkc h2
 obtain⟨hv,hts⟩:=z7f h1
 rw[hv,Bool.true_and]
 refine z0p (fun h=>z08t (by rw[h];simp)) (fun h3=>?_)
 have e:z6j s ds f=(List.range ds.length).foldl (derG s ds f) []:=by unfold z6j;rw[h1,h2,h3];rfl
 rw[e]
 refine zpa ds.length (derG s ds f) [] (fun i o=>((i:Int),(o,()))) List.length 27000 5 hds (fun o i _=>z021 s ds f o i) ?_ ?_
 . intro i hi o X ho hX
   unfold derG at hX
   rw[z16 hi]at hX
   have hd:=hdo _ (List.getElem_mem hi)
   refine z0h fun _=>bcI hi (inI hi ⟨_,zcs,?_⟩)
   simp only
   rw[z1r hi,z02 (by omega)]
   refine z26 (zd9 s.1 ds[i].1) (derH s ds[i] i f) o (fun j o=>((j:Int),(o,()))) List.length 1 27000 zlo (fun o b _=>z030 s _ i f o b) ?_ ?_
   . intro j hj o' Y ho' hY
     have hb:=zm4 (List.getElem_mem hj)
     simp only[List.length_nil]at ho
     refine z0h fun _=>bcI hj (inI hj ?_)
     simp only
     rw[z1r hj,z02 (by omega)]
     refine⟨_,zzd hi hd hts hb,?_⟩
     unfold derH at hY
     refine z1k (fun h4=>inI hj ⟨by simp only[z1b,List.length_cons,List.length_nil];omega,?_⟩) (fun h4=>?_)
     . rw[h4]at hY;exact hY
     . rw[h4]at hY;exact hY
   . intro Y _
     exact z0h fun _=>bcN hX
 . intro X _
   exact z0h fun _=>bcN rfl)
def zwk (fs:List z01) (lev:List Int) (d:z0b) (b:List Int):Bool:=d.1.all fun a=>decide (inst a b∈fs)&&decide (0<=lev.getD (place fs (inst a b)).toNat 0)
def knS (s:TSk) (ds:List z0b) (lev:List Int) (t:z01):Bool:=zwk s.1.2.1 lev (ds.getD t.1.toNat z7h) t.2.1
def knF (s:TSk) (ds:List z0b) (lev:List Int) (i:Nat):Bool:=(z6j s ds (s.1.2.1.getD i z0w)).any (knS s ds lev)
def zv5 (s:TSk) (ds:List z0b) (lev:List Int) (i:Nat):Bool:=decide (lev.getD i 0<0)&&knF s ds lev i
def zp7 (s:TSk) (ds:List z0b) (n:Int) (lev:List Int):List Int:=(List.range lev.length).map fun i=>if zv5 s ds lev i then n else lev.getD i 0
def srcI (s:TSk) (i:Nat):Bool:=z83 s.1.1 (s.1.2.1.getD i z0w).1
def lev0 (s:TSk):List Int:=(List.range s.1.2.1.length).map fun i=>if srcI s i then 0 else -1
def zn1 (s:TSk) (ds:List z0b):Nat->List Int
 |0=>lev0 s
 |k+1=>zp7 s ds ((k+1:Nat):Int) (zn1 s ds k)
def levs (s:TSk) (ds:List z0b):List Int:=zn1 s ds s.1.2.1.length
theorem zm8 (s:TSk) (ds:List z0b) (n:Int) (lev:List Int):(zp7 s ds n lev).length=lev.length:=by simp[zp7]
theorem z9c (s:TSk) (ds:List z0b):∀ k,(zn1 s ds k).length=s.1.2.1.length
 |0=>by simp[zn1,lev0]
 |k+1=>by rw[zn1,zm8,z9c]
theorem zbi {s:TSk} {ds:List z0b} {n:Int} {lev:List Int} {i:Nat} (hi:i<lev.length):(zp7 s ds n lev).getD i 0=if zv5 s ds lev i then n else lev.getD i 0:=by
 have h:i<(zp7 s ds n lev).length:=by rw[zm8];exact hi
 rw[z16 h]
 simp[zp7]
theorem zkv {s:TSk} {i:Nat} (hi:i<s.1.2.1.length):(lev0 s).getD i 0=if srcI s i then 0 else -1:=by
 have h:i<(lev0 s).length:=by simp[lev0,hi]
 rw[z16 h]
 simp[lev0]
theorem z05u {s:TSk} {ds:List z0b}:∀(k:Nat) {i:Nat},i<s.1.2.1.length->-1<=(zn1 s ds k).getD i 0
 |0,i,hi=>by rw[zn1,zkv hi];split<;>omega
 | k+1,i,hi=>by
   rw[zn1,zbi (by rw[z9c];exact hi)]
   split
   . omega
   . exact z05u k hi
theorem row3 {ats:List z01} {b:List Int} (h:∀ a∈ats,a.2.1.length<=3/\∀ t∈a.2.1,-10<=t/\t<5) {a:z01} (ha:a∈ats):a.2.1.length<=1000/\∀ t∈a.2.1,-10<=t/\t<5:=⟨by have:=(h a ha).1;omega,(h a ha).2⟩
theorem z013 {s:TSk} {lev:List Int} {ds:List z0b} {i:Nat} {b:List Int} (hl:lev.length=s.1.2.1.length) (hi:i<ds.length) (hd:DOk ds[i]) (hb:b.length=5) :
  zjp s ds ((i:Int),(b,())) lev (zwk s.1.2.1 lev ds[i] b):=z000 _ _ _ _ _ (by
 unfold zp0
 refine z6f ds[i].1 (fun a=>!(decide (inst a b∈s.1.2.1)&&decide (0<=lev.getD (place s.1.2.1 (inst a b)).toNat 0))) (fun j=>((j:Int),())) (KT:=((false,()):Bool×Unit)=(zwk s.1.2.1 lev ds[i] b,())) (KF:=((true,()):Bool×Unit)=(zwk s.1.2.1 lev ds[i] b,())) ?_ ?_ ?_ ?_
 . intro j hj X h1 h2
   have hbd:=hd.bd.1
   refine inI hi (z0h fun _=>?_)
   simp only
   rw[z1r hi]
   refine bcI hj ⟨trivial,inI hi (inI hj ⟨_,_,z9b (a:=(ds[i].1).getD (Int.toNat (j:Int)) z0w) (b:=b) ?_ (by omega) ?_,?_⟩)⟩
   . rw[z1r hj];exact(row3 (b:=b) hd.bd.2 (List.getElem_mem hj)).1
   . rw[z1r hj];exact(row3 (b:=b) hd.bd.2 (List.getElem_mem hj)).2
   . rw[z1r hj,z02 (by omega)]
     refine⟨_,zhl,?_⟩
     by_cases h:inst ds[i].1[j] b∈s.1.2.1
     . obtain⟨p,e,hp,_⟩:=zks h
       show z00 (decide (place s.1.2.1 (inst ds[i].1[j] b)<0)) _ _
       rw[e]at h1 h2 ⊢
       refine z09 (fun h=>by omega) (fun _=>⟨⟨by omega,by omega⟩,?_⟩)
       rw[Int.toNat_natCast]at h1 h2 ⊢
       exact z09 (fun h3=>h1 (by rw[decide_eq_true h,Bool.true_and,decide_eq_false (by omega)];rfl)) (fun h3=>h2 (by rw[decide_eq_true h,Bool.true_and,decide_eq_true (by omega)];rfl))
     . show z00 (decide (place s.1.2.1 (inst ds[i].1[j] b)<0)) _ _
       rw[z06b h]
       exact z09 (fun _=>h1 (by simp[h])) (fun h=>by omega)
 . intro X h
   refine inI hi (z0h fun _=>?_)
   simp only
   rw[z1r hi]
   exact bcN h
 . intro h;rw[z3r]at h;unfold zwk;rw[nt h]
 . intro h;rw[z3r]at h;unfold zwk;rw[nf h])
def zy1 (s:TSk) (ds:List z0b) (lev:List Int) (i:Nat) (o:List Int) (t:z01):List Int:=if knS s ds lev t then o++[(i:Int)] else o
def zqg (s:TSk) (ds:List z0b) (lev:List Int) (o:List Int) (i:Nat):List Int:=if lev.getD i 0<0 then(z6j s ds (s.1.2.1.getD i z0w)).foldl (zy1 s ds lev i) o else o
theorem zwm (s:TSk) (ds:List z0b) (lev:List Int) (i:Nat) (o:List Int) (t:z01):(zy1 s ds lev i o t).length<=o.length+1:=by unfold zy1;split<;>simp
theorem z06j (s:TSk) (ds:List z0b) (lev:List Int) (o:List Int) (i:Nat):(zqg s ds lev o i).length<=o.length+135000:=by
 unfold zqg
 split
 . have:=z6b (l:=z6j s ds (s.1.2.1.getD i z0w)) (g:=zy1 s ds lev i) (s:=o) (μ:=List.length) (c:=1) fun o t _=>zwm s ds lev i o t
   have:=ztb s ds (s.1.2.1.getD i z0w)
   omega
 . omega
theorem zwi {s:TSk} {ds:List z0b} {lev:List Int} {i:Nat} {x:Int}:∀ {l:List z01} {o:List Int},x∈l.foldl (zy1 s ds lev i) o↔x∈o\/(x=(i:Int)/\l.any (knS s ds lev)=true)
 |[],o=>by simp
 | t::l,o=>by
   rw[List.foldl_cons,zwi,List.any_cons]
   unfold zy1
   cases h:knS s ds lev t with
   | true=>
     rw[if_pos rfl,List.mem_append,List.mem_singleton,Bool.true_or]
     constructor
     . rintro ((h|h)|⟨h,_⟩)
       . exact .inl h
       . exact .inr ⟨h,rfl⟩
       . exact .inr ⟨h,rfl⟩
     . rintro (h|⟨h,_⟩)
       . exact .inl (.inl h)
       . exact .inl (.inr h)
   |false=>simp
theorem zh4 {s:TSk} {ds:List z0b} {lev:List Int} {x:Int}:∀ {l:List Nat} {o:List Int},x∈l.foldl (zqg s ds lev) o↔x∈o\/∃ i∈l,x=(i:Int)/\zv5 s ds lev i=true
 |[],o=>by simp
 | i::l,o=>by
   rw[List.foldl_cons,zh4]
   have:x∈zqg s ds lev o i↔x∈o\/(x=(i:Int)/\zv5 s ds lev i=true):=by
    unfold zqg zv5
    by_cases h:lev.getD i 0<0
    . rw[if_pos h,zwi,decide_eq_true h,Bool.true_and];rfl
    . rw[if_neg h,decide_eq_false h,Bool.false_and];simp
   rw[this]
   constructor
   . rintro ((h|h)|⟨j,h1,h2⟩)
     . exact .inl h
     . exact .inr ⟨i,by simp,h⟩
     . exact .inr ⟨j,by simp[h1],h2⟩
   . rintro (h|⟨j,h1,h2⟩)
     . exact .inl (.inl h)
     . rcases List.mem_cons.mp h1 with rfl|h1
       . exact .inl (.inr h2)
       . exact .inr ⟨j,h1,h2⟩
theorem znz {n:Int}:∀ {l lev:List Int},(l.foldl (fun v (k:Int)=>v.set k.toNat n) lev).length=lev.length
 |[],lev=>rfl
 |k::l,lev=>by rw[List.foldl_cons,znz,List.length_set]
theorem z02h {n:Int} {j:Nat}:∀ {l lev:List Int},(∀ k∈l,0<=k/\k<lev.length)->(l.foldl (fun v (k:Int)=>v.set k.toNat n) lev).getD j 0=if (j:Int)∈l then n else lev.getD j 0
 |[],lev,_=>by simp
 | k::l,lev,h=>by
   have hk:=h k (by simp)
   rw[List.foldl_cons,z02h (fun u hu=>by rw[List.length_set];exact h u (by simp[hu])),z9g (by omega)]
   by_cases h1:(j:Int)∈l
   . rw[if_pos h1,if_pos (List.mem_cons_of_mem _ h1)]
   . by_cases h2:j=k.toNat
     . have hjk:(j:Int)=k:=by omega
       rw[if_neg h1,if_pos h2,if_pos (by rw[hjk];exact List.mem_cons_self ..)]
     . rw[if_neg h1,if_neg h2,if_neg]
       intro h3
       rcases List.mem_cons.mp h3 with h3|h3
       . omega
       . exact h1 h3
theorem z03f {s:TSk} {ds:List z0b} {lev:List Int} {n:Int}:((List.range lev.length).foldl (zqg s ds lev) []).foldl (fun v (k:Int)=>v.set k.toNat n) lev=zp7 s ds n lev:=by
 have hm:∀ k∈(List.range lev.length).foldl (zqg s ds lev) [],0<=k/\k<lev.length:=by
  intro k hk
  rw[zh4]at hk
  rcases hk with hk|⟨i,hi,rfl,_⟩
  . simp at hk
  . have:=List.mem_range.mp hi;omega
 refine zuc (d:=0) (by rw[znz,zm8]) fun j hj=>?_
 rw[znz]at hj
 rw[z02h hm,zbi hj]
 by_cases h:zv5 s ds lev j=true
 . rw[if_pos h,if_pos (by rw[zh4];exact .inr ⟨j,by simpa using hj,rfl,h⟩)]
 . rw[if_neg h,if_neg]
   rw[zh4]
   rintro (h'|⟨i,hi,he,hc⟩)
   . simp at h'
   . obtain rfl:j=i:=by omega
     exact h hc
theorem zwu {s:TSk} {ds:List z0b} (h1:vSk s=true) (h2:z3c s.1.1 ds=true):zg9 s ds (levs s ds):=zxl _ _ _ (by
 unfold zn2
 obtain⟨hds,hdo⟩:=zkc h2
 obtain⟨hv,hts⟩:=z7f h1
 have hfl:=z55 hv
 refine z0u s.1.2.1.length (fun i=>((i:Int),((lev0 s).take i,((s.1.2.1.take i).map (z6j s ds),())))) (by simp) ?_ ?_
 . intro i hi X hX
   have hr:=zv9 (z59 hv (List.getElem_mem hi))
   have hi0:i<(lev0 s).length:=by simp[lev0,hi]
   have e0:(lev0 s)[i]=if srcI s i then 0 else -1:=by have:=zkv hi;rw[z16 hi0]at this;exact this
   rw[z08 hi0,z08 hi,List.map_append,e0]at hX
   have e1:srcI s i=(s.1.1.getD (Int.toNat s.1.2.1[i].1) zg5).2.2.1:=by unfold srcI;rw[z16 hi];rfl
   have hl0:((lev0 s).take i).length=i:=by rw[List.length_take];omega
   have hl1:((s.1.2.1.take i).map (z6j s ds)).length=i:=by rw[List.length_map,List.length_take];omega
   refine z0h fun _=>bcI hi (inI hi ?_)
   simp only
   rw[z1r hi,z02 (by omega)]
   refine⟨⟨hr.1,hr.2⟩,?_⟩
   rw[<-e1]
   refine z1k (fun h=>⟨by simp only[z1b,List.length_cons,List.length_nil];omega,inI hi ⟨_,zix,by simp only[z1b,List.length_cons,List.length_nil];omega,?_⟩⟩) (fun h=>⟨by simp only[z1b,List.length_cons,List.length_nil];omega,inI hi ⟨_,zix,by simp only[z1b,List.length_cons,List.length_nil];omega,?_⟩⟩)
   . rw[h]at hX;exact hX
   . rw[h]at hX;exact hX
 . intro X
   refine z0h fun _=>bcN ?_
   have e0:(lev0 s).take s.1.2.1.length=lev0 s:=List.take_of_length_le (by simp[lev0])
   simp only
   rw[e0,List.take_length]
   refine z0u s.1.2.1.length (fun k=>(((k+1:Nat):Int),(zn1 s ds k,()))) rfl ?_ ?_
   . intro k hk Y hY
     have hkl:=z9c s ds k
     refine z0h fun _=>z09 (fun _=>?_) (fun h=>by simp only at h;omega)
     have hge:=fun {i} (hi:i<s.1.2.1.length)=>z05u (s:=s) (ds:=ds) k hi
     rw[zn1,<-z03f]at hY
     simp only
     generalize zn1 s ds k=lev at hY hkl hge ⊢
     rw[hkl]
     rw[hkl]at hY
     have hN:s.1.2.1.length<=30:=hfl
     refine zpa s.1.2.1.length (zqg s ds lev) [] (fun i o=>((i:Int),(o,()))) List.length 135000 30 hN (fun o i _=>z06j s ds lev o i) ?_ ?_
     . intro i hi o Z ho hZ
       refine z0h fun _=>bcI hi ?_
       have hil:i<((s.1.2.1).map (z6j s ds)).length:=by rw[List.length_map];exact hi
       have eil:((s.1.2.1).map (z6j s ds))[i]=z6j s ds s.1.2.1[i]:=by simp
       have hfg:s.1.2.1.getD i z0w=s.1.2.1[i]:=z16 hi
       unfold zqg at hZ
       rw[hfg]at hZ
       have hdl:=ztb s ds s.1.2.1[i]
       simp only[List.length_nil]at ho
       by_cases hneg:lev.getD i 0<0
       . rw [if_pos hneg]at hZ
         refine z26 (z6j s ds s.1.2.1[i]) (zy1 s ds lev i) o (fun j o=>((j:Int),(o,()))) List.length 1 135000 hdl (fun o t _=>zwm s ds lev i o t) ?_ ?_
         . intro j hj o' W ho' hW
           refine inI hil ?_
           simp only
           rw[z1r hil,eil]
           refine z0h fun _=>bcI hj ⟨⟨by omega,by omega⟩,?_⟩
           rw[Int.toNat_natCast]
           refine z09 (fun _=>inI hil (inI hj ?_)) (fun h=>absurd hneg h)
           rw[z1r hj,z02 (by omega)]
           obtain⟨n,hn,b,hb,et⟩:=z044 (List.getElem_mem hj)
           have ek:knS s ds lev (z6j s ds s.1.2.1[i])[j]=zwk s.1.2.1 lev ds[n] b:=by
            unfold knS
            rw[et]
            simp only[Int.toNat_natCast]
            rw[z16 hn]
           unfold zy1 at hW
           rw[ek]at hW
           rw[et]
           refine⟨_,z013 hkl hn (hdo _ (List.getElem_mem hn)) hb,z1k (fun h=>⟨by simp only[z1b,List.length_cons,List.length_nil];omega,?_⟩) (fun h=>?_)⟩
           . rw[h]at hW;exact hW
           . rw[h]at hW;exact hW
         . intro W _
           refine inI hil ?_
           simp only
           rw[z1r hil,eil]
           refine z0h fun _=>bcN ?_
           rw[z02 (by omega)]
           exact hZ
       . rw[if_neg hneg]at hZ
         refine⟨1,inI hil ?_⟩
         simp only
         rw[z1r hil,eil]
         refine z0h fun _=>?_
         have out:Z (w64 ((i:Int)+1),(o,())):=by rw[z02 (by omega)];exact hZ
         refine z09 (fun _=>⟨⟨by omega,by omega⟩,?_⟩) (fun _=>out)
         rw[Int.toNat_natCast]
         exact z09 (fun h=>absurd h hneg) (fun _=>out)
     . intro Z hlenm
       refine z0h fun _=>bcN ?_
       have hm:∀ k∈(List.range s.1.2.1.length).foldl (zqg s ds lev) [],0<=k/\k<s.1.2.1.length:=by
        intro k hk
        rw[zh4]at hk
        rcases hk with hk|⟨i,hi,rfl,_⟩
        . simp at hk
        . have:=List.mem_range.mp hi;omega
       simp only[List.length_nil]at hlenm
       simp only
       generalize (List.range s.1.2.1.length).foldl (zqg s ds lev) []=more at hm hlenm hY ⊢
       refine z3w more (fun v (q:Int)=>v.set q.toNat ((k+1:Nat):Int)) lev (fun j v=>((j:Int),(v,()))) ?_ ?_
       . intro j hj W hW
         have hml:=hm _ (List.getElem_mem hj)
         have hsl:=znz (n:=((k+1:Nat):Int)) (l:=more.take j) (lev:=lev)
         refine z0h fun _=>bcI hj (inI hj ?_)
         simp only
         rw[z1r hj,z02 (by omega)]
         exact⟨⟨hml.1,by omega⟩,hW⟩
       . intro W
         refine z0h fun _=>bcN ?_
         simp only
         rw[z02 (by omega)]
         exact hY
   . intro Y
     have hkl:=z9c s ds s.1.2.1.length
     exact z0h fun _=>z09 (fun h=>by simp only at h;omega) (fun _=>rfl))
def lvl (s:TSk) (ds:List z0b) (f:z01):Int:=if vSk s&&(z3c s.1.1 ds&&decide (f∈s.1.2.1))then(levs s ds).getD (place s.1.2.1 f).toNat 0 else -1
def zyn (s:TSk) (ds:List z0b):Bool:=vSk s&&(z3c s.1.1 ds && !(levs s ds).any fun x=>decide (x<0))
theorem znx {s:TSk} {ds:List z0b}:zac s ds (zyn s ds):=zn7 _ _ _ (by
 unfold zez
 refine⟨_,z0y,z0p (fun h=>by unfold zyn;rw[h];rfl) (fun h1=>⟨_,zep,z0p (fun h=>by unfold zyn;rw[h];simp) (fun h2=>⟨_,zwu h1 h2,?_⟩)⟩)⟩
 unfold zyn
 rw[h1,h2,Bool.true_and,Bool.true_and]
 have hl:(levs s ds).length=s.1.2.1.length:=z9c s ds _
 have hfl:=z55 (z7f h1).1
 refine z6f (levs s ds) (fun x=>decide (x<0)) (fun i=>((i:Int),())) (KT:=((false,()):Bool×Unit)=(!((levs s ds).any fun x=>decide (x<0)),())) (KF:=((true,()):Bool×Unit)=(!((levs s ds).any fun x=>decide (x<0)),())) ?_ ?_ (fun h=>by rw[h];rfl) (fun h=>by rw[h];rfl)
 . intro i hi X g1 g2
   refine z0h fun _=>bcI hi (inI hi ?_)
   simp only
   rw[z1r hi,z02 (by omega)]
   exact z09 (fun h=>g1 (by simpa using h)) (fun h=>g2 (by simpa using h))
 . intro X h
   exact z0h fun _=>bcN h)
theorem z08h {f:z01}:∀ {l:List z01},f∈l->f.2.1.length<=(l.flatMap (·.2.1)).length
 | a::l,h=>by
   rw[List.flatMap_cons,List.length_append]
   rcases List.mem_cons.mp h with rfl|h
   . omega
   . have:=z08h h;omega
theorem z02e {s:TSk} (h:vSk s=true) {i:Nat} (hi:i<s.2.1.length):s.2.1[i].2.2.1.length<=5:=by
 have:=zqv (z1u h).2.2 hi
 unfold z5n at this
 rw[z3v hi]at this
 simp only[Bool.and_eq_true,decide_eq_true_eq]at this
 exact this.1.1.2
theorem zgh {x:z0n} (h1:x.1.length<=1099511627776) (hl:x.2.1.length<=1073741824) (h:∀ f∈x.2.1,f.2.1.length<=1099511627776):zbw x x:=z05x _ _ (by
 unfold zwx
 refine⟨by simp only[z1b,List.length_nil];omega,?_⟩
 rw[List.nil_append]
 refine zw0 x.2.1 (fun i s=>((i:Int),((x.1,(s,())),()))) hl ?_ ?_
 . intro i hi s X hs hX
   refine z0h fun _=>bcI hi (inI hi ⟨x.2.1[i],?_,⟨by simp only[z1b,List.length_cons,List.length_nil];omega,?_⟩⟩)
   . simp only;rw[z1r hi];exact zpp (h _ (List.getElem_mem hi))
   . simp only;rw[z02 (by omega)];exact hX
 . intro X;exact z0h fun _=>bcN rfl)
structure SmS (s:TSk):Prop where
 rels:s.1.1.length<=1048576
 few:s.1.2.1.length<=1048576
 row:∀ f∈s.1.2.1,f.2.1.length<=1048576
 terms:s.2.1.length<=1048576
 args:∀ t∈s.2.1,t.2.2.1.length<=1048576
theorem SmS.of {s:TSk} (h:vSk s=true):SmS s:=by
 have hi:=z7f h
 have hr:=zbr (zlu hi.1)
 have hf:=z55 hi.1
 refine⟨by omega,by omega,fun f hm=>?_,by omega,fun t ht=>?_⟩
 . have h1:=zsg hi.1
   have h2:=z08h hm
   omega
 . obtain⟨i,hi,rfl⟩:=List.mem_iff_getElem.mp ht
   have:=z02e h hi
   omega
theorem zh5 {s:TSk} (h:SmS s):z6g s s:=z04u _ _ (by
 unfold zss
 have h1:=h.rels
 have h2:=h.few
 have h3:=h.terms
 refine⟨s.1,zgh (by omega) (by omega) (fun f hf=>by have:=h.row f hf;omega),?_⟩
 refine zw0 s.2.1 (fun i t=>((i:Int),(((s.1.1,(s.1.2.1,s.1.2.2)),(t,())),()))) (by omega) ?_ ?_
 . intro i hi t X hs hX
   have ha:=h.args _ (List.getElem_mem hi)
   refine z0h fun _=>bcI hi (inI hi (inI hi (inI hi ?_)))
   simp only
   rw[z1r hi,z02 (by omega),List.nil_append]
   exact⟨by simp only[z1b,List.length_nil];omega,by simp only[z1b,List.length_cons,List.length_nil];omega,hX⟩
 . intro X;exact z0h fun _=>bcN rfl)
theorem zt6 {s:TSk} (h:vSk s=true):z6g s s:=zh5 (.of h)
theorem z0eq {s:TSk} {ds:List z0b} {f:z01} (h:¬ lvl s ds f<0):vSk s=true/\z3c s.1.1 ds=true/\f∈s.1.2.1:=by
 unfold lvl at h
 by_cases h':(vSk s&&(z3c s.1.1 ds&&decide (f∈s.1.2.1)))=true
 . simp only[Bool.and_eq_true,decide_eq_true_eq]at h';exact⟨h'.1,h'.2.1,h'.2.2⟩
 . rw[if_neg h']at h;omega
def iAt (l:List Int) (i:Nat):Int:=l.getD i 0
theorem z0do {l:List Int} {i:Nat} (h:i<l.length):iAt l i=l[i]:=z16 h
theorem zwa:∀ {x y:List Int},zho y x = - zho x y
 |[],[]=>rfl
 |[],b::y=>rfl
 |a::x,[]=>rfl
 | a::x,b::y=>by
   simp only[zho]
   have:=zwa (x:=x) (y:=y)
   split<;>split<;>first|omega|(rw[this])|skip
theorem zw6 {x y:z01}:zfv y x = - zfv x y:=by
 unfold zfv
 have:=zwa (x:=x.2.1) (y:=y.2.1)
 split<;>split<;>first|omega|(rw[this])|skip
theorem asc_pw {l:List z01}:asc l↔l.Pairwise fun a b=>zfv a b<0:=by
 rw[List.pairwise_iff_getElem]
 exact⟨fun h i j hi hj hij=>h i j hj hij,fun h i j hj hij=>h i j (by omega) hj hij⟩
theorem z0cg:∀ {a b:List z01},(a.Pairwise fun a b=>zfv a b<0)->(b.Pairwise fun a b=>zfv a b<0)->(∀ y,y∈a↔y∈b)->a=b
 |[],[],_,_,_=>rfl
 |[],b::m,_,_,h=>absurd ((h b).mpr (by simp)) (by simp)
 |a::l,[],_,_,h=>absurd ((h a).mp (by simp)) (by simp)
 | a::l,b::m,h1,h2,h=>by
   rw[List.pairwise_cons]at h1 h2
   have hab:a=b:=by
    have ha:=(h a).mp (by simp)
    have hb:=(h b).mpr (by simp)
    rcases List.mem_cons.mp ha with e|ha
    . exact e
    . rcases List.mem_cons.mp hb with e|hb
      . exact e.symm
      . have q1:=h2.1 a ha
        have q2:=h1.1 b hb
        rw[zw6]at q1
        omega
   subst hab
   congr 1
   refine z0cg h1.2 h2.2 fun y=>⟨fun hy=>?_,fun hy=>?_⟩
   . rcases List.mem_cons.mp ((h y).mp (by simp[hy]))with e|h'
     . subst e;have:=h1.1 y hy;rw[cmpF_zero.mpr rfl]at this;omega
     . exact h'
   . rcases List.mem_cons.mp ((h y).mpr (by simp[hy]))with e|h'
     . subst e;have:=h2.1 y hy;rw[cmpF_zero.mpr rfl]at this;omega
     . exact h'
theorem z0dk {a b:List z01} (h1:asc a) (h2:asc b) (h:∀ y,y∈a↔y∈b):a=b:=z0cg (asc_pw.mp h1) (asc_pw.mp h2) h
def ztd (l:List z01) (f:z01):Nat:=z05 (fun t=>!decide (zfv t f<0)) l
def zmh (l:List z01) (f:z01):List z01:=if f∈l then l else l.take (ztd l f)++f::l.drop (ztd l f)
theorem putF_mem {l:List z01} {f y:z01}:y∈zmh l f↔y∈l\/y=f:=by
 unfold zmh
 split
 . rename_i h
   exact⟨.inl,fun h'=>h'.elim id fun e=>e ▸ h⟩
 . have:y∈l↔y∈l.take (ztd l f)\/y∈l.drop (ztd l f):=by rw[<-List.mem_append,List.take_append_drop]
   rw[this,List.mem_append,List.mem_cons]
   constructor
   . rintro (h|h|h)
     . exact .inl (.inl h)
     . exact .inr h
     . exact .inl (.inr h)
   . rintro ((h|h)|h)
     . exact .inl h
     . exact .inr (.inr h)
     . exact .inr (.inl h)
theorem zoc {l:List z01} {f:z01}:(zmh l f).length<=l.length+1:=by
 unfold zmh
 split
 . omega
 . simp only[List.length_append,List.length_cons,List.length_take,List.length_drop];omega
theorem z0ba {l:List z01} {f:z01} (h:asc l):asc (zmh l f):=by
 unfold zmh
 split
 . exact h
 rename_i hn
 have hp:=asc_pw.mp h
 rw[asc_pw]
 have e:l=l.take (ztd l f)++l.drop (ztd l f):=(List.take_append_drop _ _).symm
 rw[e]at hp
 rw[List.pairwise_append]at hp ⊢
 have h1:∀ a∈l.take (ztd l f),zfv a f<0:=by
  intro a ha
  obtain⟨i,hi,rfl⟩:=List.mem_iff_getElem.mp ha
  rw[List.length_take]at hi
  have:=z98 (p:=fun t=>!decide (zfv t f<0)) (l:=l) (i:=i) (by omega) (show i<ztd l f by omega)
  rw[List.getElem_take]
  simpa using this
 have h2:∀ a∈l.drop (ztd l f),zfv f a<0:=by
  intro a ha
  have hin:ztd l f<l.length:=by
   rcases Nat.lt_or_ge (ztd l f) l.length with h'|h'
   . exact h'
   . rw[List.drop_of_length_le h']at ha;simp at ha
  have h3:zfv f l[ztd l f]<0:=by
   have h4:=z7q (p:=fun t=>!decide (zfv t f<0)) (l:=l) hin
   have h4:¬ zfv l[ztd l f] f<0:=by have h4:(!decide (zfv l[ztd l f] f<0))=true:=h4;simpa using h4
   have h5:zfv l[ztd l f] f≠0:=fun e=>hn ((cmpF_zero.mp e) ▸ List.getElem_mem hin)
   rw[zw6];omega
  obtain⟨i,hi,rfl⟩:=List.mem_iff_getElem.mp ha
  rw[List.getElem_drop]
  rcases Nat.eq_zero_or_pos i with rfl|h0
  . simpa using h3
  . rw[List.length_drop]at hi
    exact zsy h3 (h _ _ (by omega) (by omega))
 refine⟨hp.1,List.pairwise_cons.mpr ⟨h2,hp.2.1⟩,fun a ha b hb=>?_⟩
 rcases List.mem_cons.mp hb with rfl|hb
 . exact h1 a ha
 . exact hp.2.2 a ha b hb
def facS (l:List z01):List z01:=l.foldl zmh []
theorem zpk:∀ {l m:List z01},asc m->asc (l.foldl zmh m)
 |[],m,h=>h
 |a::l,m,h=>zpk (l:=l) (z0ba h)
theorem zql:∀ {l m:List z01} {y:z01},y∈l.foldl zmh m↔y∈m\/y∈l
 |[],m,y=>by simp
 | a::l,m,y=>by
   rw[List.foldl_cons,zql (l:=l),putF_mem,List.mem_cons]
   constructor
   . rintro ((h|h)|h)
     . exact .inl h
     . exact .inr (.inl h)
     . exact .inr (.inr h)
   . rintro (h|h|h)
     . exact .inl (.inl h)
     . exact .inl (.inr h)
     . exact .inr h
theorem zys:∀ {l m:List z01},(l.foldl zmh m).length<=m.length+l.length
 |[],m=>by simp
 | a::l,m=>by
   have:=zys (l:=l) (m:=zmh m a)
   have:=zoc (l:=m) (f:=a)
   rw[List.foldl_cons,List.length_cons];omega
theorem z0dj:asc []:=fun i j hj _=>by simp at hj
theorem z01k (l:List z01):asc (facS l):=zpk z0dj
theorem facS_mem {l:List z01} {y:z01}:y∈facS l↔y∈l:=by unfold facS;rw[zql];simp
theorem z0cw {a l:List z01} (h1:asc a) (h2:∀ y,y∈a↔y∈l):a=facS l:=z0dk h1 (z01k l) fun y=>by rw[h2,facS_mem]
theorem z0ak {l m:List z01} (h:asc l):m.foldl zmh l=facS (l++m):=z0cw (zpk h) fun y=>by rw[zql,List.mem_append]
theorem zo4 {x:z0n} {f:z01} (h1:x.2.1.length<=1000) (h2:f.2.1.length<=1000):zht x f (x.1,(zmh x.2.1 f,())):=z098 _ _ _ (by
 unfold z02a
 refine⟨_,zhl,?_⟩
 rw[zv6]
 refine z09 (fun h=>by unfold zmh;rw[if_pos h]) (fun hn=>?_)
 have hle:ztd x.2.1 f<=x.2.1.length:=zhu _ _
 have key:∀ i:Nat,i=ztd x.2.1 f->((0:Int)<=(i:Int)/\(i:Int)<=(x.2.1.length:Int)/\(x.2.1.length:Int)<=(x.2.1.length:Int))/\((([f]:List z01)).length+(List.drop (Int.toNat (i:Int)) (List.take (Int.toNat (x.2.1.length:Int)) x.2.1)).length<=z1b)/\
   (([]:List z01)++List.drop (Int.toNat (0:Int)) (List.take (Int.toNat (i:Int)) x.2.1))++([f]++List.drop (Int.toNat (i:Int)) (List.take (Int.toNat (x.2.1.length:Int)) x.2.1))=zmh x.2.1 f/\
   ([]:List z01).length+(List.drop (Int.toNat (0:Int)) (List.take (Int.toNat (i:Int)) x.2.1)).length<=z1b/\
   (([]:List z01)++List.drop (Int.toNat (0:Int)) (List.take (Int.toNat (i:Int)) x.2.1)).length+([f]++List.drop (Int.toNat (i:Int)) (List.take (Int.toNat (x.2.1.length:Int)) x.2.1)).length<=z1b:=by
  rintro i rfl
  simp only[Int.toNat_natCast,Int.toNat_zero,List.drop_zero,List.nil_append,List.take_length,z1b,List.length_cons,List.length_nil,List.length_append,List.length_drop,List.length_take]
  refine⟨⟨by omega,by omega,by omega⟩,by omega,?_,by omega,by omega⟩
  unfold zmh
  rw[if_neg hn];rfl
 refine z7v x.2.1 (fun t=>!decide (zfv t f<0)) (fun i=>((i:Int),())) (KT:=fun i=>i=ztd x.2.1 f) (KF:=ztd x.2.1 f=x.2.1.length) ?_ ?_ (fun _=>rfl) (fun h=>by unfold ztd;have:=zhu (fun t=>!decide (zfv t f<0)) x.2.1;omega)
 . intro i hi X q1 q2
   refine z0h fun _=>bcI hi (inI hi ⟨_,z8q,?_⟩)
   simp only
   rw[z1r hi,z02 (by omega)]
   refine z09 (fun h=>q2 (by rw[decide_eq_true h];rfl)) (fun h=>?_)
   obtain⟨k1,k2,k3,k4,k5⟩:=key i (q1 (by rw[decide_eq_false h];rfl))
   refine⟨k1,f,zpp (by omega),k2,⟨by omega,by omega,by omega⟩,k4,k5,?_⟩
   show((x.1,((([]:List z01)++List.drop (Int.toNat (0:Int)) (List.take (Int.toNat (i:Int)) x.2.1))++([f]++List.drop (Int.toNat (i:Int)) (List.take (Int.toNat (x.2.1.length:Int)) x.2.1)),())),())=((x.1,(zmh x.2.1 f,())),())
   rw[k3]
 . intro X h
   obtain⟨k1,k2,k3,k4,k5⟩:=key x.2.1.length h.symm
   refine z0h fun _=>bcN ⟨k1,f,zpp (by omega),k2,⟨by omega,by simp only;omega,by simp only;omega⟩,k4,k5,?_⟩
   show((x.1,((([]:List z01)++List.drop (Int.toNat (0:Int)) (List.take (Int.toNat (x.2.1.length:Int)) x.2.1))++([f]++List.drop (Int.toNat (x.2.1.length:Int)) (List.take (Int.toNat (x.2.1.length:Int)) x.2.1)),())),())=((x.1,(zmh x.2.1 f,())),())
   rw[k3])
def zrn (d:z0b) (b:List Int):Bool:=(List.range b.length).all fun k=>decide ((k:Int)∈vars d.1) == !(iAt b k == 10)
def zkr (x:z0n) (d:z0b) (b:List Int):Bool:=d.1.all fun a=>zaq a b&&decide (inst a b∈x.2.1)
def zh9 (x:z0n) (d:z0b) (b:List Int):Bool:=z3l x&&(zhf x.1 d&&((b.length == 5)&&(zrn d b&&zkr x d b)))
theorem zdw {l:List z0m} {ats:List z01} (h:∀ a∈ats,z5e l a=true) {v:Int} (hv:v∈vars ats):0<=v/\v<5:=by
 unfold vars at hv
 have hv:=mem_sset.mp hv
 obtain⟨h1,h2⟩:=List.mem_filter.mp hv
 obtain⟨a,ha,hva⟩:=List.mem_flatMap.mp h1
 have:=inR_iff.mp ((z2e (h a ha)).2.2.2.2.2 v hva)
 have:0<=v:=by simpa using h2
 omega
theorem bb1:∀ u v:Bool,(u == v) = !(u == !v):=by decide
theorem place_neg {l:List z01} {f:z01}:place l f<0↔f∉l:=by
 have:=decide_eq_decide.mp (zv6 (l:=l) (f:=f))
 constructor
 . intro h hm;have:=this.mpr hm;omega
 . intro h
   rcases Int.lt_or_le (place l f) 0 with h'|h'
   . exact h'
   . exact absurd (this.mp h') h
theorem zjw {l:List z0m} {a:z01} (h:z5e l a=true):a.2.1.length<=3/\∀ t∈a.2.1,-10<=t/\t<5:=by
 have:=z2e h
 exact⟨this.2.2.2.2.1,fun t ht=>by have:=inR_iff.mp (this.2.2.2.2.2 t ht);omega⟩
theorem z00u (x:z0n):0<=zgs x/\zgs x<=40:=by
 have hk:∀ k∈zfk x,0<=k/\k<40:=fun k hk=>by
  have:=zjb (l:=x.2.1.flatMap (·.2.1)) k (by rw[zdl];exact hk)
  omega
 refine⟨?_,nextN_le (n:=40) |>.mpr fun k h=>(hk k h).2⟩
 unfold zgs
 cases h:(zfk x).getLast? with
 |none=>exact Int.le_refl 0
 |some m=>have:=hk m (List.mem_of_getLast? h);simp only;omega
theorem z0d5 {l:List z0m} {d:z0b} (h:zhf l d=true):(exV d).length<=6:=by
 have hd:=z56 h
 have h1:(exV d).length<=(vars d.2.1).length:=by unfold exV;exact List.length_filter_le _ _
 have h2:=zhq d.2.1
 omega
theorem z9h {l:List z0m} {d:z0b} (h:zhf l d=true) {v:Int} (hv:v∈exV d):0<=v/\v<5:=by
 have hd:=z56 h
 unfold exV at hv
 exact zdw hd.2.2.2.2.1 (List.mem_filter.mp hv).1
theorem zx3 {x:z0n} (h:z3l x=true) (l:List z01):l.foldl zmh x.2.1=facS (x.2.1++l):=z0ak (z06f h)
theorem zym {x:z0n} {d:z0b} {b:List Int}:zh3 x d b (zh9 x d b):=zwe _ _ _ _ (by
 unfold zmq
 refine⟨_,z3y,z0p (fun h=>by unfold zh9;rw[h];rfl) (fun h1=>⟨_,zap,z0p (fun h=>by unfold zh9;rw[h1,h];rfl) (fun h2=>z0h fun _=>zcx (fun h=>?_) (fun h3=>?_))⟩)⟩
 . unfold zh9
   rw[show(b.length == 5)=false from beq_eq_false_iff_ne.mpr (by omega),h1,h2];rfl
 have h3:b.length=5:=by omega
 have hd:=z56 h2
 have e:zh9 x d b=(zrn d b&&zkr x d b):=by unfold zh9;rw[h1,h2,h3];rfl
 rw[e]
 refine⟨_,z7s (by omega),?_⟩
 refine z73 b.length (fun k=>!(decide ((k:Int)∈vars d.1) == !(iAt b k == 10))) (fun i=>((i:Int),())) (KT:=zrn d b=false) (KF:=zrn d b=true) ?_ ?_ ?_ ?_
 . intro i hi X _ q1 q2
   refine z0h fun _=>bcI hi (inI hi ⟨_,zl5,_,zm2,?_⟩)
   simp only
   rw[z1r hi,<-z0do hi,z02 (by omega),bb1]
   exact z1k (fun h=>by rw[q1 h];rfl) q2
 . intro X hB
   refine z0h fun _=>bcN ?_
   rw[hB,Bool.true_and]
   refine z6f d.1 (fun a=>!(zaq a b&&decide (inst a b∈x.2.1))) (fun i=>((i:Int),())) (KT:=zkr x d b=false) (KF:=zkr x d b=true) ?_ ?_ ?_ ?_
   . intro i hi X q1 q2
     have hr:=zjw (hd.2.2.1 _ (List.getElem_mem hi))
     refine z0h fun _=>bcI hi (inI hi ⟨inst d.1[i] b,zaq d.1[i] b,?_,?_⟩)
     . simp only;rw[z1r hi];exact z9b (by omega) (by omega) hr.2
     . rw[z02 (by omega)]
       refine z0p (fun h=>by rw[q1 (by rw[h];rfl)]) (fun h=>⟨_,zhl,z09 (fun h4=>?_) (fun h4=>?_)⟩)
       . have h4:=place_neg.mp h4
         rw[q1 (by rw[h];simpa using h4)]
       . have h4:inst d.1[i] b∈x.2.1:=Classical.byContradiction fun h5=>h4 (place_neg.mpr h5)
         exact q2 (by rw[h];simpa using h4)
   . intro X h;exact z0h fun _=>bcN (by rw[h])
   . intro h;rw[z3r]at h;unfold zkr;exact nt h
   . intro h;rw[z3r]at h;unfold zkr;exact nf h
 . rintro⟨i,hi,hp⟩
   unfold zrn
   rw[Bool.eq_false_iff]
   intro h
   have:=List.all_eq_true.mp h i (List.mem_range.mpr hi)
   rw[this]at hp;cases hp
 . intro h
   unfold zrn
   exact List.all_eq_true.mpr fun i hi=>nf (h i (List.mem_range.mp hi)))
theorem zgo {l:List Int} {i j:Nat} {v:Int} (h:i<l.length):iAt (l.set i v) j=if j=i then v else iAt l j:=z9g h
def zqm (b c:List Int):Prop:=c.length=b.length/\∀ k,iAt b k≠10->iAt c k=iAt b k
theorem zon (b:List Int):zqm b b:=⟨rfl,fun _ _=>rfl⟩
theorem zxx {a b c:List Int} (h1:zqm a b) (h2:zqm b c):zqm a c:=⟨h2.1.trans h1.1,fun k hk=>by
 have e:=h1.2 k hk
 rw[h2.2 k (by rw[e];exact hk),e]⟩
def zrj (c:List Int) (p:Int×Int):Prop:=if p.1<0 then p.2 = -1 - p.1 else iAt c p.1.toNat=p.2
theorem zz2:∀ {ts vs b:List Int},(znj ts vs b).2=true->(∀ t∈ts,t<b.length)->(∀ v∈vs,v≠10)->ts.length=vs.length->
  zqm b (znj ts vs b).1/\(∀ p∈ts.zip vs,zrj (znj ts vs b).1 p)/\∀ k:Nat,k<b.length->(iAt (znj ts vs b).1 k≠10↔iAt b k≠10\/(k:Int)∈ts)
 |[],vs,b,_,_,_,_=>⟨zon b,by simp,by simp[znj]⟩
 |t::ts,[],b,h,_,_,hl=>by simp at hl
 | t::ts,v::vs,b,h,h1,h2,hl=>by
   rw[zxh]at h ⊢
   have hv:v≠10:=h2 v (by simp)
   have hts:∀ t∈ts,t<b.length:=fun u hu=>h1 u (by simp[hu])
   have hvs:∀ v∈vs,v≠10:=fun u hu=>h2 u (by simp[hu])
   have hl':ts.length=vs.length:=by simpa using hl
   by_cases ht:t<0
   . rw [if_pos ht]at h ⊢
     by_cases hc : -1 - t=v
     . rw[if_pos hc]at h ⊢
       obtain⟨g1,g2,g3⟩:=zz2 h hts hvs hl'
       refine⟨g1,fun p hp=>?_,fun k hk=>?_⟩
       . rw[List.zip_cons_cons]at hp
         rcases List.mem_cons.mp hp with rfl|hp
         . unfold zrj;rw[if_pos ht];exact hc.symm
         . exact g2 p hp
       . rw[g3 k hk,List.mem_cons]
         have:¬ (k:Int)=t:=by omega
         simp[this]
     . rw[if_neg hc]at h;simp at h
   . rw [if_neg ht]at h ⊢
     have htb:t.toNat<b.length:=by have:=h1 t (by simp);omega
     by_cases hc:b.getD t.toNat 0=10\/b.getD t.toNat 0=v
     . rw [if_pos hc]at h ⊢
       have hlen:(b.set t.toNat v).length=b.length:=by simp
       obtain⟨g1,g2,g3⟩:=zz2 h (by rw[hlen];exact hts) hvs hl'
       refine⟨⟨g1.1.trans hlen,fun k hk=>?_⟩,fun p hp=>?_,fun k hk=>?_⟩
       . by_cases hkt:k=t.toNat
         . subst hkt
           have hbv:iAt b t.toNat=v:=hc.resolve_left hk
           rw[g1.2 _ (by rw[zgo htb,if_pos rfl];exact hv),zgo htb,if_pos rfl,hbv]
         . have e:iAt (b.set t.toNat v) k=iAt b k:=by rw[zgo htb,if_neg hkt]
           rw[g1.2 k (by rw[e];exact hk),e]
       . rw[List.zip_cons_cons]at hp
         rcases List.mem_cons.mp hp with rfl|hp
         . unfold zrj;rw[if_neg ht]
           have e:iAt (b.set t.toNat v) t.toNat=v:=by rw[zgo htb,if_pos rfl]
           rw[g1.2 _ (by rw[e];exact hv),e]
         . exact g2 p hp
       . rw[g3 k (by rw[hlen];exact hk),zgo htb,List.mem_cons]
         by_cases hkt:k=t.toNat
         . have:(k:Int)=t:=by omega
           simp[hkt,hv]
           omega
         . have:¬ (k:Int)=t:=by omega
           simp[hkt,this]
     . rw[if_neg hc]at h;simp at h
theorem z0bf {c c':List Int} {p:Int×Int} (hg:zqm c c') (h:zrj c p) (hv:p.2≠10):zrj c' p:=by
 unfold zrj at h ⊢
 split
 . rename_i ht;rw[if_pos ht]at h;exact h
 . rename_i ht;rw[if_neg ht]at h;rw[hg.2 _ (by rw[h];exact hv),h]
theorem z07h {v:Int} (h:zml v=true):v≠10:=by have:=inR_iff.mp h;omega
theorem z028:∀ {ts vs c s:List Int},ts.length=vs.length->(∀ p∈ts.zip vs,zrj c p)->(∀ v∈vs,zml v=true)->(∀ t∈ts,t<c.length)->zab (zi7 c) ts s = .inr (s++vs)
 |[],[],c,s,_,_,_,_=>by simp[zab]
 |[],v::vs,c,s,h,_,_,_=>by simp at h
 |t::ts,[],c,s,h,_,_,_=>by simp at h
 | t::ts,v::vs,c,s,h,h1,h2,h3=>by
   have hp:=h1 (t,v) (by simp)
   have hv:=h2 v (by simp)
   have e:zi7 c s t = .inr (s++[v]):=by
    unfold zi7 z05o
    unfold zrj at hp
    simp only at hp
    by_cases ht:t<0
    . rw[if_pos ht]at hp
      rw[if_neg (by omega),<-hp,if_pos hv]
    . rw[if_neg ht]at hp
      have hlt:=h3 t (by simp)
      have hp:c.getD t.toNat 0=v:=hp
      rw[if_pos (by omega),if_neg (by omega),hp,if_pos hv]
   simp only[zab,e]
   rw[z028 (by simpa using h) (fun p hp=>h1 p (by simp[hp])) (fun v hv=>h2 v (by simp[hv])) (fun t ht=>h3 t (by simp[ht]))]
   simp
theorem z01s {a f:z01} {c:List Int} (h1:a.1=f.1) (hl:a.2.1.length=f.2.1.length) (hz:∀ p∈a.2.1.zip f.2.1,zrj c p) (hv:∀ v∈f.2.1,zml v=true) (ht:∀ t∈a.2.1,t<c.length):zaq a c=true/\inst a c=f:=by
 have:=z028 (s:=[]) hl hz hv ht
 unfold zaq inst
 rw[this,List.nil_append,h1]
 exact⟨rfl,rfl⟩
theorem zy0 {fs:List z01} {w:List Int->List (List Int)} {a:z01} {b c:List Int}:∀ {l:List z01} {out:List (List Int)},c∈l.foldl (zpu fs w a b) out->c∈out\/∃ f∈l,a.1=f.1/\(znj a.2.1 f.2.1 b).2=true/\c∈w (znj a.2.1 f.2.1 b).1
 |[],out,h=>.inl h
 | f::l,out,h=>by
   rw[List.foldl_cons]at h
   rcases zy0 h with h|⟨g,hg,h⟩
   . unfold zpu at h
     split at h
     . rename_i hc
       rcases List.mem_append.mp h with h|h
       . exact .inl h
       . exact .inr ⟨f,by simp,hc.1,hc.2,h⟩
     . exact .inl h
   . exact .inr ⟨g,by simp[hg],h⟩
theorem z05e {fs:List z01} (hv:∀ f∈fs,∀ v∈f.2.1,zml v=true):∀ {ats:List z01} {b c:List Int},c∈zjv fs ats b->WOk fs ats->b.length=5->
  zqm b c/\(∀ a∈ats,zaq a c=true/\inst a c∈fs)/\∀ k:Nat,k<5->(iAt c k≠10↔iAt b k≠10\/∃ a∈ats,(k:Int)∈a.2.1)
 | [],b,c,h,_,_=>by
   have:c=b:=by simpa [zjv]using h
   subst this
   exact⟨zon _,by simp,by simp⟩
 | a::ats,b,c,h,hw,hb=>by
   rcases zy0 (show c∈fs.foldl (zpu fs (zjv fs ats) a b) [] from h)with h|⟨f,hf,h1,h2,h3⟩
   . simp at h
   have hrow:=hw.row a (by simp)
   have hlen:=hw.fit a (by simp) f hf h1
   obtain⟨g1,g2,g3⟩:=zz2 h2 (fun t ht=>by have:=(hrow.2 t ht).2;omega) (fun v hv'=>z07h (hv f hf v hv')) hlen
   obtain⟨k1,k2,k3⟩:=z05e hv h3 hw.tail (by rw[zhv];exact hb)
   have hcl:c.length=5:=by rw[k1.1,zhv];exact hb
   refine⟨zxx g1 k1,fun a' ha=>?_,fun k hk=>?_⟩
   . rcases List.mem_cons.mp ha with rfl|ha
     . obtain⟨m1,m2⟩:=z01s (c:=c) h1 hlen (fun p hp=>z0bf k1 (g2 p hp) (z07h (hv f hf _ (List.of_mem_zip hp).2))) (hv f hf) (fun t ht=>by have:=(hrow.2 t ht).2;omega)
       exact⟨m1,m2 ▸ hf⟩
     . exact k2 a' ha
   . rw[k3 k hk,g3 k (by omega)]
     simp only[List.mem_cons,exists_eq_or_imp,or_assoc]
theorem z034 {x:z0n} (h:z3l x=true):∀ f∈x.2.1,∀ v∈f.2.1,zml v=true:=fun f hf=>(z2e (z59 h hf)).2.2.2.2.2
theorem mem_vars {ats:List z01} {k:Nat}:(k:Int)∈vars ats↔∃ a∈ats,(k:Int)∈a.2.1:=by
 unfold vars
 rw[mem_sset,List.mem_filter,List.mem_flatMap]
 simp
theorem ztg {x:z0n} {d:z0b} {b:List Int} (h:b∈zd9 x d.1):b.length=5/\zrn d b=true/\zkr x d b=true:=by
 have hb:=zm4 h
 unfold zd9 at h
 split at h
 . rename_i hm
   have hw:=(zu9 hm).1
   have hx:z3l x=true:=by unfold mOk at hm;simp only[Bool.and_eq_true]at hm;exact hm.2.1
   rcases zup h with h|h
   . simp at h
   obtain⟨_,h2,h3⟩:=z05e (z034 hx) h hw rfl
   refine⟨hb,?_,?_⟩
   . unfold zrn
     refine List.all_eq_true.mpr fun k hk=>?_
     have hk:k<5:=by rw[hb]at hk;exact List.mem_range.mp hk
     have e:=h3 k hk
     have hbl:iAt zfu k=10:=by
      rcases k with _|_|_|_|_|k<;>first|rfl|omega
     rw[<-mem_vars]at e
     simp only[hbl,ne_eq,not_true,false_or]at e
     by_cases hm:(k:Int)∈vars d.1
     . rw[decide_eq_true hm,show(iAt b k == 10)=false from beq_eq_false_iff_ne.mpr (e.mpr hm)];rfl
     . have:iAt b k=10:=Classical.byContradiction fun h'=>hm (e.mp h')
       rw[decide_eq_false hm,this];rfl
   . unfold zkr
     refine List.all_eq_true.mpr fun a ha=>?_
     obtain⟨m1,m2⟩:=h2 a ha
     rw[m1,decide_eq_true m2];rfl
 . simp at h
theorem z03u {x y:z0n} {d:z0b} {b:List Int} (hxy:∀ f∈x.2.1,f∈y.2.1) (h:zkr x d b=true):zkr y d b=true:=by
 unfold zkr at h ⊢
 refine List.all_eq_true.mpr fun a ha=>?_
 have:=List.all_eq_true.mp h a ha
 rw[Bool.and_eq_true,decide_eq_true_eq]at this
 rw[this.1,decide_eq_true (hxy _ this.2)];rfl
theorem zxs {b:List Int}:∀ {ts s s':List Int},zab (zi7 b) ts s = .inr s'->s'=s++ts.map (fun t=>if 0<=t then iAt b t.toNat else -1 - t)/\(∀ t∈ts,zml (if 0<=t then iAt b t.toNat else -1 - t)=true)
 |[],s,s',h=>by simp only[zab,Sum.inr.injEq]at h;subst h;simp
 | t::ts,s,s',h=>by
   simp only[zab]at h
   cases e:zi7 b s t with
   |inl _=>rw[e]at h;simp at h
   | inr s1=>
     rw[e]at h
     obtain⟨h1,h2⟩:=zxs h
     have h3:s1=s++[if 0<=t then iAt b t.toNat else -1 - t]/\zml (if 0<=t then iAt b t.toNat else -1 - t)=true:=by
      unfold zi7 z05o at e
      by_cases ht:0<=t
      . rw [if_pos ht]at e ⊢
        by_cases hl:(b.length:Int)<=t
        . rw[if_pos hl]at e;simp at e
        . rw[if_neg hl]at e
          by_cases hv:zml (b.getD t.toNat 0)=true
          . rw[if_pos hv]at e
            simp only[Sum.inr.injEq]at e
            exact⟨e.symm,hv⟩
          . rw[if_neg hv]at e;simp at e
      . rw[if_neg ht]at e ⊢
        by_cases hv:zml (-1 - t)=true
        . rw[if_pos hv]at e
          simp only[Sum.inr.injEq]at e
          exact⟨e.symm,hv⟩
        . rw[if_neg hv]at e;simp at e
     refine⟨by rw[h1,h3.1];simp,fun u hu=>?_⟩
     rcases List.mem_cons.mp hu with rfl|hu
     . exact h3.2
     . exact h2 u hu
theorem z081 {a:z01} {b:List Int} (h:zaq a b=true):(inst a b).1=a.1/\(inst a b).2.1=a.2.1.map (fun t=>if 0<=t then iAt b t.toNat else -1 - t)/\∀ t∈a.2.1,zml (if 0<=t then iAt b t.toNat else -1 - t)=true:=by
 unfold zaq at h
 unfold inst
 cases e:zab (zi7 b) a.2.1 []with
 |inl r=>rw[e]at h;simp at h
 | inr s=>
   obtain⟨h1,h2⟩:=zxs e
   exact⟨rfl,by simpa using h1,h2⟩
theorem zjc {x:z0n} {f:z01} (hf:f∈x.2.1) {v:Int} (hv:v∈f.2.1) (hn:z3p v=true):z2h v<zgs x:=by
 have hr:=z00u x
 have hk:z2h v∈zfk x:=by
  unfold zfk
  rw[mem_sset,List.mem_flatMap]
  refine⟨f,hf,mem_nulls.mpr ?_⟩
  have:=isNul_iff.mp hn
  have e:z2h v = -1 - v:=by unfold z2h;rw[if_pos hn]
  rw[e]
  exact⟨by omega,by omega,by rw[show -1 - (-1 - v)=v by omega];exact hv⟩
 have:=nextN_le (x:=x) (n:=(zgs x).toNat) |>.mp (by omega) _ hk
 omega
theorem zub {x:z0n} {d:z0b} {b:List Int} (hF:zkr x d b=true) {k:Nat} (hk:(k:Int)∈vars d.1):zml (iAt b k)=true/\(z3p (iAt b k)=true->z2h (iAt b k)<zgs x):=by
 obtain⟨a,ha,hka⟩:=mem_vars.mp hk
 have:=List.all_eq_true.mp hF a ha
 rw[Bool.and_eq_true,decide_eq_true_eq]at this
 obtain⟨_,h2,h3⟩:=z081 this.1
 have e:(if (0:Int)<=(k:Int)then iAt b (k:Int).toNat else -1 - (k:Int))=iAt b k:=by rw[if_pos (by omega),Int.toNat_natCast]
 have h4:=h3 _ hka
 rw[e]at h4
 refine⟨h4,fun hn=>zjc this.2 ?_ hn⟩
 rw[h2]
 exact List.mem_map.mpr ⟨_,hka,e⟩
theorem zw1 {m:Int} (h:0<=m):zae m 0=m:=by unfold zae;split<;>omega
theorem z0e3 {m n:Int}:m<=zae m n:=by unfold zae;split<;>omega
theorem z09n {dp:List Int} {m v:Int} (h:0<=m):zq0 dp m v=zae m (if z3p v then dp.getD (z2h v).toNat 0 else 0):=by
 unfold zq0
 have hn:=zgv v
 split
 . split
   . rfl
   . rename_i h2
     rw[List.getD_eq_getElem?_getD,List.getElem?_eq_none (by omega)]
     exact(zw1 h).symm
 . exact(zw1 h).symm
theorem zsk {dp:List Int}:∀ {l:List Int} {m:Int},0<=m->l.foldl (zq0 dp) m=l.foldl (fun m v=>zae m (if z3p v then dp.getD (z2h v).toNat 0 else 0)) m
 |[],m,_=>rfl
 | v::l,m,h=>by
   rw[List.foldl_cons,List.foldl_cons,z09n h]
   exact zsk (Int.le_trans h z0e3)
theorem z09h {dp:List Int} {l:List Int}:l.foldl (zq0 dp) 0+1=z70 dp l:=by
 rw[zsk (Int.le_refl 0),zhn (g:=fun k=>dp.getD k.toNat 0) (Int.le_refl 0)]
 rfl
theorem z0ae (l m:List z0c):∃ r,z1z (l++m)=z1z l++r:=by
 induction m generalizing l with
 |nil=>exact⟨[],by simp⟩
 | cons a m ih=>
   obtain⟨r,hr⟩:=ih (l++[a])
   rw[List.append_assoc,z6y,List.append_assoc]at hr
   exact⟨_,hr⟩
theorem zxr {out args:List Int} {n:Nat} (h:∀ d∈out,0<=d/\d<=n):0<=z70 out args/\z70 out args<=n+1:=by
 unfold z70
 have h0:=z9n (fun k=>out.getD k.toNat 0) (z1d args)
 have:mx (fun k=>out.getD k.toNat 0) (z1d args)<=n:=mx_le.mpr ⟨by omega,fun k _=>by
  by_cases hk:k.toNat<out.length
  . rw[z16 hk];exact(h _ (List.getElem_mem hk)).2
  . rw[List.getD_eq_getElem?_getD,List.getElem?_eq_none (by omega)];simp⟩
 omega
theorem z0br (n:Nat):∀(l:List z0c),l.length=n->∀ d∈z1z l,0<=d/\d<=l.length:=by
 induction n with
 |zero=>intro l hl;obtain rfl:=List.length_eq_zero_iff.mp hl;simp[z1z]
 | succ n ih0=>
   intro l0 hl d hd
   have hne:l0≠[]:=by intro e;rw[e]at hl;simp at hl
   obtain⟨l,t,rfl⟩:∃ l t,l0=l++[t]:=⟨_,_,(List.dropLast_concat_getLast hne).symm⟩
   have ih:=ih0 l (by simpa using hl)
   rw[z6y]at hd
   rw[List.length_append]
   simp only[List.length_cons,List.length_nil]
   rcases List.mem_append.mp hd with hd|hd
   . have:=ih d hd;omega
   . have e:d=z70 (z1z l) t.2.2.1:=by simpa using hd
     rw[e]
     have:=zxr (args:=t.2.2.1) ih
     omega
theorem z0bn (n:Nat):∀(l:List z0c),l.length=n->n<=1000->l.foldl z014 []=z1z l:=by
 induction n with
 |zero=>intro l hl _;obtain rfl:=List.length_eq_zero_iff.mp hl;rfl
 | succ n ih0=>
   intro l0 hl h31
   have hne:l0≠[]:=by intro e;rw[e]at hl;simp at hl
   obtain⟨l,t,rfl⟩:∃ l t,l0=l++[t]:=⟨_,_,(List.dropLast_concat_getLast hne).symm⟩
   have hln:l.length=n:=by simpa using hl
   rw[List.foldl_append,ih0 l hln (by omega),z6y]
   simp only[List.foldl_cons,List.foldl_nil]
   unfold z014
   rw[z09h]
   have:=zxr (args:=t.2.2.1) (z0br _ l rfl)
   rw[z19 (by omega) (by omega)]
theorem zx2 {s:TSk} {t:z0c} (hl:s.2.1.length<=30):zbb s t (z70 (z1z s.2.1) t.2.2.1):=by
 have:=zmr (s:=s) (t:=t) hl
 rw[z0bn _ _ rfl (by simp;omega),z6y]at this
 have e:(z1z s.2.1++[z70 (z1z s.2.1) t.2.2.1]).getD s.2.1.length 0=z70 (z1z s.2.1) t.2.2.1:=by
  have hd:=z006 s.2.1
  rw[List.getD_eq_getElem?_getD,List.getElem?_append_right (by omega),hd]
  simp
 rw[e]at this
 exact this
def zne (s:TSk) (t:z0c):TSk×Int×Bool:=if t∈s.2.1 then(s,-1 - z9w s.2.1 t,true)else if s.2.1.length=30\/8<z70 (z1z s.2.1) t.2.2.1 then(s,0,false)else((s.1,(s.2.1++[t],s.2.2)),-1 - (s.2.1.length:Int),true)
theorem zwo {s:TSk} {t:z0c} (hl:s.2.1.length<=30):z96 s t (zne s t).1 (zne s t).2.1 (zne s t).2.2:=by
 by_cases hm:t∈s.2.1
 . have e:zne s t=(s,-1 - z9w s.2.1 t,true):=by unfold zne;rw[if_pos hm]
   rw[e]
   exact z8x hl _ _ _ (fun _=>⟨rfl,rfl,rfl⟩) (fun h=>absurd hm h)
 . have hy:=zx2 (s:=s) (t:=t) hl
   by_cases h30:s.2.1.length=30
   . have e:zne s t=(s,0,false):=by unfold zne;rw[if_neg hm,if_pos (.inl h30)]
     rw[e]
     exact z8x hl _ _ _ (fun h=>absurd h hm) (fun _=>z0h fun _=>z3z (fun _=>rfl) (fun h=>by omega))
   . by_cases h8:z70 (z1z s.2.1) t.2.2.1 > 8
     . have e:zne s t=(s,0,false):=by unfold zne;rw[if_neg hm,if_pos (.inr h8)]
       rw[e]
       exact z8x hl _ _ _ (fun h=>absurd h hm) (fun _=>z0h fun _=>z3z (fun h=>by omega) (fun _=>⟨_,hy,z09 (fun _=>rfl) (fun h=>absurd h8 h)⟩))
     . have e:zne s t=((s.1,(s.2.1++[t],s.2.2)),-1 - (s.2.1.length:Int),true):=by unfold zne;rw[if_neg hm,if_neg (by rintro (h|h);exact h30 h;exact h8 h)]
       rw[e]
       refine z8x hl _ _ _ (fun h=>absurd h hm) (fun _=>z0h fun _=>z3z (fun h=>by omega) (fun _=>⟨_,hy,z09 (fun h=>absurd h h8) (fun _=>⟨trivial,trivial,by simp only[z1b,List.length_nil];omega,by simp only[z1b,List.length_append,List.length_cons,List.length_nil];omega,z0h fun _=>⟨-1 - (s.2.1.length:Int),?_,rfl⟩⟩)⟩))
       have e:w64 ((List.length ((([]:List z0c)++s.2.1)++([t]:List z0c)):Int) - (1:Int))=(s.2.1.length:Int):=by
        rw[z19]<;>simp<;>omega
       rw[e]
       exact zc9 (by omega) (by omega)
theorem zzb {l m:List z0c} {k:Nat} (hk:k<l.length):z5n (l++m) k=z5n l k:=by
 have e:zdc (l++m) k=zdc l k:=by rw[z3v (by rw[List.length_append];omega),z3v hk,List.getElem_append_left hk]
 unfold z5n
 rw[e,List.take_append_of_le_length (by omega)]
theorem z06x {ts:List z0c} {t:z0c} (h:ze1 ts=true) (hl:ts.length<30) (h1:inR t.1 0 4=true) (h2:inR t.2.1 0 4=true) (h3:t.2.2.1.length<=5) (h4:t.2.2.1.all (z8k ts.length)=true) (h5:t∉ts) (h8:z70 (z1z ts) t.2.2.1<=8):ze1 (ts++[t])=true:=by
 unfold ze1 at h ⊢
 simp only[Bool.and_eq_true,decide_eq_true_eq]at h ⊢
 obtain⟨⟨_,g2⟩,g3⟩:=h
 refine⟨⟨by simp;omega,List.all_eq_true.mpr fun k hk=>?_⟩,?_⟩
 . have hk:k<ts.length+1:=by simpa using hk
   by_cases hkl:k<ts.length
   . rw[zzb hkl];exact List.all_eq_true.mp g2 k (List.mem_range.mpr hkl)
   . obtain rfl:k=ts.length:=by omega
     unfold z5n
     have e:zdc (ts++[t]) ts.length=t:=by rw[z3v (by simp)];simp
     rw[e,h1,h2,h4,decide_eq_true h3,List.take_append_of_le_length (Nat.le_refl _),List.take_length,zef,decide_eq_false h5];rfl
 . rw[z6y,List.all_append,g3]
   simpa using h8
theorem zpg {d:z0b} {i:Int} {b:List Int}:∀ {l:List Int} {s:List z0c×List Int},∃ r,(l.foldl (hdG d i b) s).1=s.1++r
 |[],s=>⟨[],by simp⟩
 | v::l,s=>by
   rw[List.foldl_cons]
   obtain⟨r,hr⟩:=zpg (d:=d) (i:=i) (b:=b) (l:=l) (s:=hdG d i b s v)
   rw[hr]
   unfold hdG
   split
   . exact⟨r,rfl⟩
   . exact⟨_,by rw[List.append_assoc]⟩
def zi5 (d:z0b) (i:Int) (b:List Int) (st:List z0c×List Int) (v:Int):Unit ⊕ (List z0c×List Int):=
 if zhg d i b v∈st.1 then .inr (hdG d i b st v)else if st.1.length=30\/8<z70 (z1z st.1) (z6z d b)then .inl ()else .inr (hdG d i b st v)
theorem zqy {d:z0b} {i:Int} {b:List Int} {st st':List z0c×List Int} {v:Int} (h:zi5 d i b st v = .inr st'):st'=hdG d i b st v:=by
 unfold zi5 at h
 split at h
 . exact(Sum.inr.inj h).symm
 . split at h
   . cases h
   . exact(Sum.inr.inj h).symm
theorem zp4 {d:z0b} {i:Int} {b:List Int}:∀ {l:List Int} {st st':List z0c×List Int},zab (zi5 d i b) l st = .inr st'->st'=l.foldl (hdG d i b) st
 |[],st,st',h=>by simp only[zab,Sum.inr.injEq]at h;exact h.symm
 | v::l,st,st',h=>by
   simp only[zab]at h
   cases e:zi5 d i b st v with
   |inl _=>rw[e]at h;simp at h
   |inr s1=>rw[e]at h;rw[List.foldl_cons,<-zqy e];exact zp4 h
theorem zv0 {d:z0b} {i:Int} {b:List Int} (hi:inR i 0 4=true) (hfr:(z6z d b).length<=5):∀ {l:List Int} {st st':List z0c×List Int},(∀ v∈l,inR v 0 4=true)->(z6z d b).all (z8k st.1.length)=true->ze1 st.1=true->zab (zi5 d i b) l st = .inr st'->ze1 st'.1=true
 |[],st,st',_,_,h,hr=>by simp only[zab,Sum.inr.injEq]at hr;subst hr;exact h
 | v::l,st,st',hv,ha,h,hr=>by
   simp only[zab]at hr
   cases e:zi5 d i b st v with
   |inl _=>rw[e]at hr;simp at hr
   | inr s1=>
     rw[e]at hr
     have e1:=zqy e
     have hlt:=z7z h
     have key:ze1 s1.1=true/\st.1.length<=s1.1.length:=by
      unfold zi5 at e
      by_cases hm:zhg d i b v∈st.1
      . have:s1.1=st.1:=by rw[e1];unfold hdG;rw[if_pos hm]
        rw[this];exact⟨h,Nat.le_refl _⟩
      . rw[if_neg hm]at e
        by_cases hc:st.1.length=30\/8<z70 (z1z st.1) (z6z d b)
        . rw[if_pos hc]at e;cases e
        . have:s1.1=st.1++[zhg d i b v]:=by rw[e1];unfold hdG;rw[if_neg hm]
          rw[this]
          have h30:¬ st.1.length=30:=fun h'=>hc (.inl h')
          have h8:¬ 8<z70 (z1z st.1) (z6z d b):=fun h'=>hc (.inr h')
          exact⟨z06x h (by omega) hi (hv v (by simp)) hfr ha hm (by unfold zhg;simp only;omega),by simp⟩
     refine zv0 hi hfr (fun u hu=>hv u (by simp[hu])) (List.all_eq_true.mpr fun w hw=>?_) key.1 hr
     have:=List.all_eq_true.mp ha w hw
     unfold z8k at this ⊢
     rw[Bool.and_eq_true]at this
     rw[this.1,Bool.true_and]
     have h2:=this.2
     cases hn:z3p w with
     |false=>rfl
     | true=>
       rw[hn,Bool.true_and]at h2
       have h2:¬ (st.1.length:Int)<=z2h w:=by simpa using h2
       have:¬ (s1.1.length:Int)<=z2h w:=by omega
       simp[this]
theorem z01t {d:z0b} {i:Int} {b:List Int} {r:Unit}:∀ {l:List Int} {st:List z0c×List Int},zab (zi5 d i b) l st = .inl r->ze1 (l.foldl (hdG d i b) st).1=false
 |[],st,h=>by simp[zab]at h
 | v::l,st,h=>by
   simp only[zab]at h
   rw[List.foldl_cons]
   cases e:zi5 d i b st v with
   |inr s1=>rw[e]at h;rw[<-zqy e];exact z01t h
   | inl _=>
     obtain⟨r',hr⟩:=zpg (d:=d) (i:=i) (b:=b) (l:=l) (s:=hdG d i b st v)
     rw[hr]
     unfold zi5 at e
     by_cases hm:zhg d i b v∈st.1
     . rw[if_pos hm]at e;cases e
     . rw [if_neg hm]at e
       by_cases hc:st.1.length=30\/8<z70 (z1z st.1) (z6z d b)
       . have:(hdG d i b st v).1=st.1++[zhg d i b v]:=by unfold hdG;rw[if_neg hm]
         rw[this,Bool.eq_false_iff]
         intro ha
         rcases hc with hc|hc
         . have:=z7z ha
           simp only[List.length_append,List.length_cons,List.length_nil]at this
           omega
         . unfold ze1 at ha
           simp only[Bool.and_eq_true]at ha
           obtain⟨r2,hr2⟩:=z0ae (st.1++[zhg d i b v]) r'
           rw[hr2,z6y]at ha
           have:=List.all_eq_true.mp ha.2 (z70 (z1z st.1) (zhg d i b v).2.2.1) (by simp)
           have:z70 (z1z st.1) (z6z d b)<=8:=of_decide_eq_true this
           omega
       . rw[if_neg hc]at e;cases e
theorem zhx {d:z0b} {i:Int} {b:List Int}:∀ {l:List Int} {st:List z0c×List Int},(∀ v∈l,0<=v/\v<5)->st.2.length=5->
  (l.foldl (hdG d i b) st).2.length=5/\∀ k:Nat,k<5->((k:Int)∈l->∃ n:Int,iAt (l.foldl (hdG d i b) st).2 k = -1 - n/\0<=n/\n<((l.foldl (hdG d i b) st).1.length:Int))/\((k:Int)∉l->iAt (l.foldl (hdG d i b) st).2 k=iAt st.2 k)
 |[],st,_,h5=>⟨h5,fun k _=>⟨by simp,by simp⟩⟩
 | v::l,st,hv,h5=>by
   rw[List.foldl_cons]
   have hvr:=hv v (by simp)
   have hset:∃ n:Int,(hdG d i b st v).2=st.2.set v.toNat (-1 - n)/\0<=n/\n<((hdG d i b st v).1.length:Int):=by
    unfold hdG
    split
    . rename_i hm
      have:=z08e hm
      exact⟨_,rfl,this.1,this.2⟩
    . exact⟨_,rfl,by omega,by simp;omega⟩
   obtain⟨n,e1,e2,e3⟩:=hset
   have h5':(hdG d i b st v).2.length=5:=by rw[z02k];exact h5
   obtain⟨g1,g2⟩:=zhx (d:=d) (i:=i) (b:=b) (l:=l) (st:=hdG d i b st v) (fun u hu=>hv u (by simp[hu])) h5'
   have hge:=z02g (d:=d) (i:=i) (b:=b) (l:=l) (s:=hdG d i b st v)
   refine⟨g1,fun k hk=>?_⟩
   obtain⟨q1,q2⟩:=g2 k hk
   refine⟨fun hm=>?_,fun hm=>?_⟩
   . by_cases hkl:(k:Int)∈l
     . exact q1 hkl
     . have hkv:(k:Int)=v:=(List.mem_cons.mp hm).resolve_right hkl
       refine⟨n,?_,e2,by omega⟩
       rw[q2 hkl,e1,zgo (by omega),if_pos (by omega)]
   . have hkl:(k:Int)∉l:=fun h=>hm (by simp[h])
     have hkv:¬ (k:Int)=v:=fun h=>hm (by simp[h])
     rw[q2 hkl,e1,zgo (by omega),if_neg (by omega)]
def zag (s:TSk) (d:z0b) (i:Int) (b:List Int):TSk:=((s.1.1,(facS (s.1.2.1++zdd d (hdS s.2.1 d i b).2),())),((hdS s.2.1 d i b).1,()))
theorem zj6 (d:z0b) (vs:List Int):zdd d vs=d.2.1.map fun a=>inst a vs:=by unfold zdd;rw[zhk,List.nil_append]
theorem z09c {l:List z0m} {fs:List z01} (h1:z90 l=true) (h2:asc fs) (h3:fs.length<=30) (h4:∀ f∈fs,zno l f=true/\(z83 l f.1=true->zuk f=[])):z3l (l,(fs,()))=true:=by
 rw[zqr (x:=(l,(fs,()))) fun i hi=>?_]
 . simp only[h1,Bool.true_and];exact decide_eq_true h3
 . have hi:i<fs.length:=hi
   have hf:=h4 _ (List.getElem_mem hi)
   rw[za2 (x:=(l,(fs,()))) hi hf.1 (fun h0=>by simp only;rw[z34 (by omega)];exact h2 _ _ hi (by omega))]
   simp only
   cases hs:z83 l fs[i].1 with
   |false=>rfl
   |true=>rw[hf.2 hs];rfl
theorem zx0 {x:z0n} (h:z3l x=true) {f:z01} (hf:f∈x.2.1) (hs:z83 x.1 f.1=true):zuk f=[]:=by
 unfold z3l at h
 rw[Bool.and_eq_true]at h
 obtain⟨i,hi,rfl⟩:=List.mem_iff_getElem.mp hf
 have:=List.all_eq_true.mp h.2 i (List.mem_range.mpr hi)
 unfold z7c at this
 rw[Bool.and_eq_true,z34 hi,hs,Bool.true_and]at this
 have h2:=this.2
 simp at h2
 exact h2
theorem z07j {a:z01} {c:List Int} (h:∀ t∈a.2.1,zml (if 0<=t then iAt c t.toNat else -1 - t)=true) (ht:∀ t∈a.2.1,t<c.length):zaq a c=true/\inst a c=(a.1,(a.2.1.map (fun t=>if 0<=t then iAt c t.toNat else -1 - t),())):=by
 refine z01s (a:=a) (c:=c) (f:=(a.1,(a.2.1.map (fun t=>if 0<=t then iAt c t.toNat else -1 - t),()))) rfl (by simp) (fun p hp=>?_) (fun v hv=>?_) ht
 . simp only at hp
   obtain⟨j,hj,rfl⟩:=List.mem_iff_getElem.mp hp
   rw[List.getElem_zip,List.getElem_map]
   unfold zrj
   simp only
   split
   . rename_i h0;rw[if_neg (by omega)]
   . rename_i h0;rw[if_pos (by omega)]
 . obtain⟨t,ht',rfl⟩:=List.mem_map.mp hv
   exact h t ht'
structure FireOk (s:TSk) (ds:List z0b) (d:z0b) (i:Nat) (b:List Int):Prop where
 sk:vSk s=true
 pl:z3c s.1.1 ds=true
 at_:ds[i]? = some d
 b5:b.length=5
 tB:zrn d b=true
 tF:zkr s.1 d b=true
theorem z8e {l:List z0m} {ds:List z0b} (h:z3c l ds=true) {d:z0b} (hd:d∈ds):zhf l d=true/\d.2.2.1=false/\ds.length<=5:=by
 unfold z3c at h
 rw[Bool.and_eq_true]at h
 refine⟨zh6 h.1 hd,?_,zfz h.1⟩
 cases he:d.2.2.1 with
 |false=>rfl
 | true=>
   have:(ds.any fun d=>d.2.2.1)=true:=List.any_eq_true.mpr ⟨d,hd,he⟩
   rw[this]at h;simp at h
theorem ztk {l:List z0m} {d:z0b} (h:zhf l d=true) (he:d.2.2.1=false):∀ a∈d.2.1,z5e l a=true/\z83 l a.1=false:=by
 unfold zhf at h
 rw[he]at h
 simp only[Bool.and_eq_true,Bool.false_eq_true,if_false]at h
 intro a ha
 have:=List.all_eq_true.mp h.2.1.1.1 a ha
 rw[Bool.and_eq_true]at this
 exact⟨this.1,by simpa using this.2⟩
theorem z054 {l:List Int} (p:Int->Bool) (h:srt l):srt (l.filter p):=List.Pairwise.filter p h
theorem z01m {l:List z0m} {d:z0b} (h:zhf l d=true):(frV d).length<=5:=by
 have hs:=z56 h
 refine zyr (a:=0) (n:=5) (z054 _ (zll _)) fun y hy=>?_
 have:=zdw hs.2.2.2.2.1 (List.mem_filter.mp hy).1
 omega
theorem ztn (d:z0b) (b:List Int):z6z d b=(frV d).map fun v=>b.getD v.toNat 0:=by unfold z6z;rw[zhk,List.nil_append]
section
variable {s:TSk} {ds:List z0b} {d:z0b} {i:Nat} {b:List Int}
theorem FireOk.lt (h:FireOk s ds d i b):i<ds.length/\d∈ds:=by
 have:=h.at_
 obtain⟨hi,e⟩:=List.getElem?_eq_some_iff.mp this
 exact⟨hi,e ▸ List.getElem_mem hi⟩
theorem FireOk.args (h:FireOk s ds d i b):(z6z d b).length<=5/\(z6z d b).all (z8k s.2.1.length)=true:=by
 obtain⟨hd,_,_⟩:=z8e h.pl h.lt.2
 have hs:=z56 hd
 rw[ztn]
 refine⟨by rw[List.length_map];exact z01m hd,List.all_eq_true.mpr fun w hw=>?_⟩
 obtain⟨v,hv,rfl⟩:=List.mem_map.mp hw
 have h1:=List.mem_filter.mp hv
 have h2:v∈vars d.1:=of_decide_eq_true h1.2
 have h3:=zdw hs.2.2.1 h2
 have:=zub (k:=v.toNat) h.tF (by rw[show((v.toNat:Nat):Int)=v by omega];exact h2)
 have hn:=(z1u h.sk).2.1
 show z8k s.2.1.length (iAt b v.toNat)=true
 unfold z8k
 rw[this.1,Bool.true_and]
 cases hz:z3p (iAt b v.toNat)with
 |false=>rfl
 | true=>
   have:=this.2 hz
   have:¬ (s.2.1.length:Int)<=z2h (iAt b v.toNat):=by omega
   simp[this]
theorem FireOk.hdLen (h:FireOk s ds d i b):(hdS s.2.1 d i b).2.length=5/\(hdS s.2.1 d i b).1.length<=36/\s.2.1.length<=(hdS s.2.1 d i b).1.length:=by
 obtain⟨hd,_,_⟩:=z8e h.pl h.lt.2
 have h6:=z0d5 hd
 have ht:=z7z (z1u h.sk).2.2
 have h1:=(zhx (d:=d) (i:=i) (b:=b) (l:=exV d) (st:=(s.2.1,b)) (fun v hv=>z9h hd hv) h.b5).1
 have h2:=z6b (l:=exV d) (g:=hdG d i b) (s:=(s.2.1,b)) (μ:=fun st=>st.1.length) (c:=1) fun st v _=>z09q d i b st v
 have h3:=z02g (d:=d) (i:=i) (b:=b) (l:=exV d) (s:=(s.2.1,b))
 simp only at h2 h3
 exact⟨h1,by unfold hdS;omega,h3⟩
theorem FireOk.vals (h:FireOk s ds d i b) {a:z01} (ha:a∈d.2.1) {t:Int} (ht:t∈a.2.1) :
  zml (if 0<=t then iAt (hdS s.2.1 d i b).2 t.toNat else -1 - t)=true/\(z3p (if 0<=t then iAt (hdS s.2.1 d i b).2 t.toNat else -1 - t)=true->z2h (if 0<=t then iAt (hdS s.2.1 d i b).2 t.toNat else -1 - t)<(hdS s.2.1 d i b).1.length):=by
 obtain⟨hd,he,_⟩:=z8e h.pl h.lt.2
 have hs:=z56 hd
 have hrow:=zjw (hs.2.2.2.2.1 a ha)
 have htr:=hrow.2 t ht
 obtain⟨_,hl2,hl3⟩:=h.hdLen
 by_cases h0:0<=t
 . rw[if_pos h0]
   obtain⟨g1,g2⟩:=(zhx (d:=d) (i:=i) (b:=b) (l:=exV d) (st:=(s.2.1,b)) (fun v hv=>z9h hd hv) h.b5).2 t.toNat (by omega)
   rw[show((t.toNat:Nat):Int)=t by omega]at g1 g2
   by_cases hx:t∈exV d
   . obtain⟨n,e1,e2,e3⟩:=g1 hx
     have e1:iAt (hdS s.2.1 d i b).2 t.toNat = -1 - n:=e1
     have e3:n<((hdS s.2.1 d i b).1.length:Int):=e3
     rw[e1]
     have hn:z3p (-1 - n)=true:=isNul_iff.mpr ⟨by omega,by omega⟩
     refine⟨inR_iff.mpr ⟨by omega,by omega⟩,fun _=>?_⟩
     unfold z2h;rw[if_pos hn];omega
   . have e1:iAt (hdS s.2.1 d i b).2 t.toNat=iAt b t.toNat:=g2 hx
     rw[e1]
     have htv:t∈vars d.2.1:=by
      rw[show t=((t.toNat:Nat):Int) by omega,mem_vars]
      exact⟨a,ha,by rw[show((t.toNat:Nat):Int)=t by omega];exact ht⟩
     have htb:t∈vars d.1:=by
      refine Classical.byContradiction fun hn=>hx ?_
      unfold exV
      exact List.mem_filter.mpr ⟨htv,by simp[hn]⟩
     have:=zub (k:=t.toNat) h.tF (by rw[show((t.toNat:Nat):Int)=t by omega];exact htb)
     have hn:=(z1u h.sk).2.1
     exact⟨this.1,fun hz=>by have:=this.2 hz;omega⟩
 . rw[if_neg h0]
   refine⟨inR_iff.mpr ⟨by omega,by omega⟩,fun hn=>?_⟩
   have:=isNul_iff.mp hn
   omega
theorem FireOk.head (h:FireOk s ds d i b) {f:z01} (hf:f∈zdd d (hdS s.2.1 d i b).2):zno s.1.1 f=true/\(z83 s.1.1 f.1=true->zuk f=[])/\(∀ v∈f.2.1,z3p v=true->z2h v<(hdS s.2.1 d i b).1.length)/\f.2.1.length<=3:=by
 obtain⟨hd,he,_⟩:=z8e h.pl h.lt.2
 rw[zj6]at hf
 obtain⟨a,ha,rfl⟩:=List.mem_map.mp hf
 obtain⟨hva,hsrc⟩:=ztk hd he a ha
 have hrow:=zjw hva
 obtain⟨hl1,_,_⟩:=h.hdLen
 obtain⟨_,e⟩:=z07j (a:=a) (c:=(hdS s.2.1 d i b).2) (fun t ht=>(h.vals ha ht).1) (fun t ht=>by have:=(hrow.2 t ht).2;omega)
 rw[e]
 refine⟨?_,fun hs=>?_,fun v hv hn=>?_,by simpa using hrow.1⟩
 . unfold zno zvy
   have hva':=hva
   unfold z5e zvy at hva'
   simp only[Bool.and_eq_true]at hva' ⊢
   refine⟨⟨⟨hva'.1.1.1,hva'.1.1.2⟩,by simpa using hva'.1.2⟩,List.all_eq_true.mpr fun v hv=>?_⟩
   obtain⟨t,ht,rfl⟩:=List.mem_map.mp hv
   exact(h.vals ha ht).1
 . rw[hsrc]at hs;cases hs
 . obtain⟨t,ht,rfl⟩:=List.mem_map.mp hv
   exact(h.vals ha ht).2 hn
theorem FireOk.inst (h:FireOk s ds d i b):z3l (zag s d i b).1=decide ((zag s d i b).1.2.1.length<=30)/\zgs (zag s d i b).1<=(hdS s.2.1 d i b).1.length/\∀ f∈(zag s d i b).1.2.1,f.2.1.length<=3:=by
 have hx:=(z7f h.sk).1
 have hmem:∀ f∈(zag s d i b).1.2.1,f∈s.1.2.1\/f∈zdd d (hdS s.2.1 d i b).2:=fun f hf=>List.mem_append.mp (facS_mem.mp hf)
 refine⟨?_,?_,fun f hf=>?_⟩
 . by_cases hl:(zag s d i b).1.2.1.length<=30
   . rw[decide_eq_true hl]
     refine z09c (zlu hx) (z01k _) hl fun f hf=>?_
     rcases hmem f hf with hf|hf
     . exact⟨z59 hx hf,zx0 hx hf⟩
     . exact⟨(h.head hf).1,(h.head hf).2.1⟩
   . rw[decide_eq_false hl,Bool.eq_false_iff]
     exact fun h'=>hl (z55 h')
 . refine nextN_le.mpr fun k hk=>?_
   unfold zfk at hk
   rw[mem_sset,List.mem_flatMap]at hk
   obtain⟨f,hf,hk⟩:=hk
   obtain⟨k1,k2,k3⟩:=mem_nulls.mp hk
   have hn:z3p (-1 - k)=true:=isNul_iff.mpr ⟨by omega,by omega⟩
   have hno:z2h (-1 - k)=k:=by unfold z2h;rw[if_pos hn];omega
   rcases hmem f hf with hf|hf
   . have h1:=zjc hf k3 hn
     have h2:=(z1u h.sk).2.1
     have h3:=h.hdLen.2.2
     omega
   . have:=(h.head hf).2.2.1 _ k3 hn
     omega
 . rcases hmem f hf with hf|hf
   . exact(z2e (z59 hx hf)).2.2.2.2.1
   . exact(h.head hf).2.2.2
theorem FireOk.next (h:FireOk s ds d i b):vSk (zag s d i b)=(ze1 (hdS s.2.1 d i b).1&&decide ((zag s d i b).1.2.1.length<=30)):=by
 obtain⟨h1,h2,_⟩:=h.inst
 unfold vSk
 have e:(zag s d i b).2.1=(hdS s.2.1 d i b).1:=rfl
 rw[h1,e,decide_eq_true h2,Bool.and_true,Bool.and_comm]
theorem FireOk.run (h:FireOk s ds d i b):(∀ st,zab (zi5 d i b) (exV d) (s.2.1,b) = .inr st->st=hdS s.2.1 d i b/\ze1 (hdS s.2.1 d i b).1=true)/\(∀ r,zab (zi5 d i b) (exV d) (s.2.1,b) = .inl r->ze1 (hdS s.2.1 d i b).1=false):=by
 obtain⟨hd,_,h5⟩:=z8e h.pl h.lt.2
 have hi:=h.lt.1
 refine⟨fun st hr=>?_,fun r hr=>z01t hr⟩
 have e:=zp4 hr
 refine⟨e,?_⟩
 have:=zv0 (inR_iff.mpr ⟨by omega,by omega⟩) h.args.1 (fun v hv=>by have:=z9h hd hv;exact inR_iff.mpr ⟨by omega,by omega⟩) h.args.2 (z1u h.sk).2.2 hr
 rw[e]at this
 exact this
end
def zpn (s:TSk) (d:z0b) (i:Nat) (b:List Int):TSk×Bool:=if ze1 (hdS s.2.1 d i b).1 then(zag s d i b,decide ((zag s d i b).1.2.1.length<=30))else(s,false)
section
variable {s:TSk} {ds:List z0b} {d:z0b} {i:Nat} {b:List Int}
theorem FireOk.res (h:FireOk s ds d i b):(zpn s d i b).2=vSk (zag s d i b)/\(vSk (zag s d i b)=true->(zpn s d i b).1=zag s d i b):=by
 rw[h.next]
 unfold zpn
 cases ze1 (hdS s.2.1 d i b).1 with
 |true=>exact⟨rfl,fun _=>rfl⟩
 |false=>exact⟨rfl,fun h=>by cases h⟩
theorem FireOk.getD_ (h:FireOk s ds d i b):ds.getD (Int.toNat (i:Int)) z7h=d:=by
 rw[Int.toNat_natCast,List.getD_eq_getElem?_getD,h.at_];rfl
theorem zsm (h:FireOk s ds d i b):zhw s ds i b (zpn s d i b).1 (zpn s d i b).2:=z04g _ _ _ _ _ _ (by
 unfold zte
 obtain⟨hd,he,_⟩:=z8e h.pl h.lt.2
 have hs:=z56 hd
 have hil:=h.lt.1
 have hb:=h.b5
 have hts:=z7z (z1u h.sk).2.2
 have hfl:=z01m hd
 have hx:=(z7f h.sk).1
 have hxl:=z55 hx
 rw[h.getD_]
 refine inI hil ⟨_,z6r (by omega) (by omega),?_⟩
 refine z26 (frV d) (fun s v=>s++[b.getD v.toNat 0]) [] (fun j s=>((j:Int),(s,()))) List.length 1 5 hfl (fun s v _=>by simp) ?_ ?_
 . intro j hj a X hs' hX
   have hv:=zdw hs.2.2.2.2.1 (List.mem_filter.mp (List.getElem_mem hj)).1
   refine z0h fun _=>bcI hj (inI hj ?_)
   simp only
   rw[z1r hj,z02 (by omega)]
   exact⟨⟨by omega,by omega⟩,by simp only[z1b,List.length_cons,List.length_nil]at *;omega,hX⟩
 . intro X _
   have efr:(frV d).foldl (fun s v=>s++[b.getD v.toNat 0]) []=z6z d b:=rfl
   rw[efr]
   have hal:=h.args.1
   refine z0h fun _=>bcN ⟨by simp only[z1b,List.length_nil];omega,?_⟩
   refine inI hil ⟨_,z4u (by omega) (by omega),?_⟩
   simp only[List.nil_append]
   refine zls (exV d) (zi5 d i b) (s.2.1,b) (fun j st=>((j:Int),(((([]:List z0m),(([]:List z01),())),(([]:List z0c),())),((s.1,(st.1,())),(st.2,()))))) (KR:=fun _=>((s,(false,())):TSk×Bool×Unit)=((zpn s d i b).1,((zpn s d i b).2,()))) ?_ ?_ ?_
   . intro j hj st Y hr q1 q2
     have hv:=z9h hd (List.getElem_mem hj)
     have e0:=zp4 hr
     have h5:st.2.length=5:=by
      rw[e0]
      exact(zhx (d:=d) (i:=i) (b:=b) (l:=(exV d).take j) (st:=(s.2.1,b)) (fun v hv=>z9h hd (List.mem_of_mem_take hv)) hb).1
     have hta:ze1 st.1=true:=zv0 (inR_iff.mpr ⟨by omega,by have:=(z8e h.pl h.lt.2).2.2;omega⟩) hal (fun v hv=>by have:=z9h hd (List.mem_of_mem_take hv);exact inR_iff.mpr ⟨by omega,by omega⟩) h.args.2 (z1u h.sk).2.2 hr
     have htl:=z7z hta
     refine z0h fun _=>bcI hj (inI hj ⟨trivial,trivial,by simp only[z1b,List.length_nil];omega,?_⟩)
     simp only
     rw[z1r hj,z02 (by omega)]
     have et:(((i:Int),((exV d)[j],(z6z d b,()))):z0c)=zhg d i b (exV d)[j]:=rfl
     rw[et]
     refine⟨_,_,_,zwo htl,?_⟩
     unfold zne
     simp only
     by_cases hm:zhg d i b (exV d)[j]∈st.1
     . rw[if_pos hm]
       refine z0p (fun h=>by cases h) (fun _=>inI hj ⟨⟨by omega,by omega⟩,?_⟩)
       have:=q2 (hdG d i b st (exV d)[j]) (by unfold zi5;rw[if_pos hm])
       unfold hdG at this
       rw[if_pos hm]at this
       exact this
     . rw[if_neg hm]
       have ea:(zhg d i b (exV d)[j]).2.2.1=z6z d b:=rfl
       rw[ea]
       by_cases hc:st.1.length=30\/8<z70 (z1z st.1) (z6z d b)
       . rw[if_pos hc]
         exact z0p (fun _=>q1 () (by unfold zi5;rw[if_neg hm,if_pos hc])) (fun h=>by cases h)
       . rw[if_neg hc]
         refine z0p (fun h=>by cases h) (fun _=>inI hj ⟨⟨by omega,by omega⟩,?_⟩)
         have:=q2 (hdG d i b st (exV d)[j]) (by unfold zi5;rw[if_neg hm,if_neg hc])
         unfold hdG at this
         rw[if_neg hm]at this
         exact this
   . intro st Y hr
     obtain⟨rfl,hta⟩:=h.run.1 st hr
     refine z0h fun _=>bcN ?_
     obtain⟨hl1,hl2,hl3⟩:=h.hdLen
     simp only
     generalize hvs:(hdS s.2.1 d i b).2=vs at hl1 ⊢
     have hm:∀ k,(((d.2.1.take k).map fun a=>inst a vs).foldl zmh s.1.2.1).length<=32:=fun k=>by
      have:=zys (l:=(d.2.1.take k).map fun a=>inst a vs) (m:=s.1.2.1)
      rw[List.length_map,List.length_take]at this
      omega
     refine z0u d.2.1.length (fun k=>((k:Int),(((s.1.1,(((d.2.1.take k).map fun a=>inst a vs).foldl zmh s.1.2.1,())),((hdS s.2.1 d i b).1,())),()))) (by simp) ?_ ?_
     . intro k hk Z hZ
       have hr:=zjw (hs.2.2.2.2.1 _ (List.getElem_mem hk))
       have hmk:=hm k
       have hil2:=z0b0 (a:=d.2.1[k]) (b:=vs)
       refine inI hil (z0h fun _=>bcI hk (inI hil (inI hk ⟨inst d.2.1[k] vs,zaq d.2.1[k] vs,?_,_,zo4 (by simp only;omega) (by simp only;omega),?_⟩)))
       . simp only;rw[z1r hk];exact z9b (by omega) (by omega) hr.2
       . simp only
         rw[z02 (by omega)]
         rw[z08 hk,List.map_append,List.foldl_append]at hZ
         exact hZ
     . intro Z
       refine inI hil (z0h fun _=>bcN (z0h fun _=>?_))
       simp only[List.take_length]
       have e:(d.2.1.map fun a=>inst a vs).foldl zmh s.1.2.1=facS (s.1.2.1++zdd d (hdS s.2.1 d i b).2):=by
        rw[hvs,zj6];exact zx3 hx _
       rw[e]
       unfold zpn
       rw[hta,if_pos rfl]
       have e2:decide (((facS (s.1.2.1++zdd d (hdS s.2.1 d i b).2)).length:Int)<=30)=decide ((zag s d i b).1.2.1.length<=30):=decide_eq_decide.mpr (by unfold zag;simp only;omega)
       rw[e2];rfl
   . intro r hr
     have:=h.run.2 r hr
     unfold zpn
     rw[this];rfl)
end
def zom (d:z0b) (i:Nat) (st:TSk) (b:List Int):Unit ⊕ TSk:=if vSk (zag st d i b)then .inr (zag st d i b)else .inl ()
def depE (ds:List z0b) (st:TSk) (i:Nat):Unit ⊕ TSk:=zab (zom (ds.getD i z7h) i) (zd9 st.1 (ds.getD i z7h).1) st
def zmn (ds:List z0b) (st:TSk):Unit ⊕ TSk:=zab (depE ds) (List.range ds.length) st
def z9t (ds:List z0b):Nat->TSk->Unit ⊕ TSk
 |0,st=>.inr st
 | n+1,st=>match zmn ds st with
   |.inl _=>.inl ()
   |.inr st'=>if st'.1.2.1.length=st.1.2.1.length then .inr st' else z9t ds n st'
def skc (s:TSk) (ds:List z0b):TSk×Bool:=if vSk s&&z3c s.1.1 ds then(match z9t ds 31 s with
 |.inl _=>(s,false)
 |.inr y=>(y,true))else(s,false)
structure Goes (a b:TSk):Prop where
 sk:vSk b=true
 rels:b.1.1=a.1.1
 sub:∀ f∈a.1.2.1,f∈b.1.2.1
 len:a.1.2.1.length<=b.1.2.1.length
theorem Goes.refl {a:TSk} (h:vSk a=true):Goes a a:=⟨h,rfl,fun _ h=>h,Nat.le_refl _⟩
theorem Goes.trans {a b c:TSk} (h1:Goes a b) (h2:Goes b c):Goes a c:=⟨h2.sk,h2.rels.trans h1.rels,fun f hf=>h2.sub f (h1.sub f hf),Nat.le_trans h1.len h2.len⟩
theorem z0dl {l:List z01} {f:z01}:l.length<=(zmh l f).length:=by
 unfold zmh
 split
 . exact Nat.le_refl _
 . simp only[List.length_append,List.length_cons,List.length_take,List.length_drop];omega
theorem z023:∀ {l m:List z01},m.length<=(l.foldl zmh m).length
 |[],m=>Nat.le_refl _
 |a::l,m=>by rw[List.foldl_cons];exact Nat.le_trans z0dl (z023 (l:=l))
theorem zjn {d:z0b} {i:Nat} {st st':TSk} {b:List Int} (hv:vSk st=true) (h:zom d i st b = .inr st'):Goes st st':=by
 unfold zom at h
 split at h
 . rename_i hn
   obtain rfl:=Sum.inr.inj h
   refine⟨hn,rfl,fun f hf=>facS_mem.mpr (List.mem_append_left _ hf),?_⟩
   show st.1.2.1.length<=(facS (st.1.2.1++_)).length
   rw[<-zx3 (z7f hv).1]
   exact z023
 . cases h
theorem zg4 {α:Type} {g:TSk->α->Unit ⊕ TSk} (hg:∀ st a st',vSk st=true->g st a = .inr st'->Goes st st'):∀ {l:List α} {st st':TSk},vSk st=true->zab g l st = .inr st'->Goes st st'
 |[],st,st',hv,h=>by simp only[zab,Sum.inr.injEq]at h;subst h;exact .refl hv
 | a::l,st,st',hv,h=>by
   simp only[zab]at h
   cases e:g st a with
   |inl _=>rw[e]at h;simp at h
   | inr s1=>
     rw[e]at h
     have h1:=hg st a s1 hv e
     exact h1.trans (zg4 hg h1.sk h)
theorem zpz {ds:List z0b} {st st':TSk} {i:Nat} (hv:vSk st=true) (h:depE ds st i = .inr st'):Goes st st':=zg4 (fun st b st' hv h=>zjn hv h) hv h
theorem zjf {ds:List z0b} {st st':TSk} (hv:vSk st=true) (h:zmn ds st = .inr st'):Goes st st':=zg4 (fun st b st' hv h=>zpz hv h) hv h
theorem z063 {ds:List z0b} {st0 st:TSk} {i:Nat} (hi:i<ds.length) (hp:z3c st0.1.1 ds=true) (hg:Goes st0 st) {b:List Int} (hb:b∈zd9 st0.1 (ds.getD i z7h).1):FireOk st ds (ds.getD i z7h) i b:=by
 obtain⟨h5,hB,hF⟩:=ztg hb
 exact⟨hg.sk,by rw[hg.rels];exact hp,by rw[List.getD_eq_getElem?_getD,List.getElem?_eq_getElem hi];rfl,h5,hB,z03u hg.sub hF⟩
theorem z0f2 {s:TSk} (h:vSk s=true):s.1.2.1.length<=30:=z55 (z7f h).1
theorem z027 {s:TSk} {ds:List z0b} (h:(vSk s&&z3c s.1.1 ds)=false):skc s ds=(s,false):=by unfold skc;rw[h];rfl
theorem zz4 {s:TSk} {ds:List z0b} {r:Unit} (h:(vSk s&&z3c s.1.1 ds)=true) (hr:z9t ds 31 s = .inl r):skc s ds=(s,false):=by unfold skc;rw[h,hr];rfl
theorem z00w {s y:TSk} {ds:List z0b} (h:(vSk s&&z3c s.1.1 ds)=true) (hr:z9t ds 31 s = .inr y):skc s ds=(y,true):=by unfold skc;rw[h,hr];rfl
theorem zrt {s:TSk} {ds:List z0b} (hsm:SmS s):zd2 s ds (skc s ds).1 (skc s ds).2:=zri _ _ _ _ (by
 unfold zim
 have hcp:z6g s s:=zh5 hsm
 refine⟨s,hcp,_,z0y,z0p (fun h=>by rw[z027 (by rw[h];rfl)]) (fun h1=>⟨_,zep,z0p (fun h=>by rw[z027 (by rw[h1,h];rfl)]) (fun h2=>?_)⟩)⟩
 have h12:(vSk s&&z3c s.1.1 ds)=true:=by rw[h1,h2];rfl
 have h5:ds.length<=5:=by have h3:=h2;unfold z3c at h3;rw[Bool.and_eq_true]at h3;exact zfz h3.1
 refine z17 (fun k a=>∃ st:TSk,a=(st,(((([]:List z0m),(([]:List z01),())),(([]:List z0c),())),()))/\Goes s st/\30<st.1.2.1.length+k/\z9t ds k st=z9t ds 31 s) ?_ ?_ (n:=31) ⟨s,rfl,.refl h1,by omega,rfl⟩
 . rintro a ⟨st,rfl,hg,hk,_⟩ X
   have:=z0f2 hg.sk
   omega
 . rintro k a ⟨st,rfl,hg,hk,hc⟩ X hX
   have hpl:z3c st.1.1 ds=true:=by rw[hg.rels];exact h2
   have bad:∀ r:Unit,zmn ds st = .inl r->((s,(false,())):TSk×Bool×Unit)=((skc s ds).1,((skc s ds).2,())):=fun r hr=>by rw[zz4 (r:=()) h12 (by rw[<-hc,z9t,hr])]
   refine z0h fun _=>?_
   simp only
   refine zls (List.range ds.length) (depE ds) st (fun i q=>((i:Int),(((([]:List z0m),(([]:List z01),())),(([]:List z0c),())),(q,())))) (KR:=fun _=>((s,(false,())):TSk×Bool×Unit)=((skc s ds).1,((skc s ds).2,()))) ?_ ?_ bad
   . intro i hi q Y hr q1 q2
     have hi:i<ds.length:=by simpa using hi
     rw[List.getElem_range]at q1 q2
     have hq:Goes st q:=zg4 (fun st b st' hv h=>zpz hv h) hg.sk hr
     have hpq:z3c q.1.1 ds=true:=by rw[hq.rels];exact hpl
     refine z0h fun _=>bcI hi (inI hi ⟨_,zcs,?_⟩)
     simp only
     rw[Int.toNat_natCast,z02 (by omega)]
     have hM:=zlo (x:=q.1) (l:=(ds.getD i z7h).1)
     refine zls (zd9 q.1 (ds.getD i z7h).1) (zom (ds.getD i z7h) i) q (fun j p=>((j:Int),(((([]:List z0m),(([]:List z01),())),(([]:List z0c),())),(p,())))) (KR:=fun _=>((s,(false,())):TSk×Bool×Unit)=((skc s ds).1,((skc s ds).2,()))) ?_ ?_ q1
     . intro j hj p Z hr2 p1 p2
       have hp:Goes q p:=zg4 (fun st b st' hv h=>zjn hv h) hq.sk hr2
       have hf:=z063 hi hpq hp (List.getElem_mem hj)
       obtain⟨r1,r2⟩:=hf.res
       refine z0h fun _=>bcI hj (inI hj ⟨trivial,(zpn p (ds.getD i z7h) i (zd9 q.1 (ds.getD i z7h).1)[j]).1,(zpn p (ds.getD i z7h) i (zd9 q.1 (ds.getD i z7h).1)[j]).2,?_,?_⟩)
       . simp only
         rw[z1r hj]
         exact zsm hf
       . simp only
         rw[z02 (by omega),r1]
         refine z0p (fun hv=>⟨s,hcp,p1 () (by unfold zom;rw[hv];rfl)⟩) (fun hv=>?_)
         rw[r2 hv]
         exact p2 _ (by unfold zom;rw[hv];rfl)
     . intro p Z hr2
       exact z0h fun _=>bcN (q2 p hr2)
   . intro q Y hr
     have hr:zmn ds st = .inr q:=hr
     have hq:Goes st q:=zjf hg.sk hr
     simp only[List.length_range]
     refine z0h fun _=>bcN (z0h fun _=>z3z (fun h=>?_) (fun h=>?_))
     . have h:q.1.2.1.length=st.1.2.1.length:=by omega
       rw[z00w (y:=q) h12 (by rw[<-hc,z9t,hr];simp only;rw[if_pos h])]
     . have h:¬ q.1.2.1.length=st.1.2.1.length:=by omega
       have:=hq.len
       exact hX _ ⟨q,rfl,hg.trans hq,by omega,by rw[<-hc,z9t,hr];simp only;rw[if_neg h]⟩)
theorem zjo {ds:List z0b}:∀ {n:Nat} {st st':TSk},vSk st=true->z9t ds n st = .inr st'->Goes st st'
 |0,st,st',hv,h=>by simp only[z9t,Sum.inr.injEq]at h;subst h;exact .refl hv
 | n+1,st,st',hv,h=>by
   simp only[z9t]at h
   cases e:zmn ds st with
   |inl _=>rw[e]at h;simp at h
   | inr s1=>
     rw[e]at h
     have h1:=zjf hv e
     simp only at h
     split at h
     . obtain rfl:=Sum.inr.inj h;exact h1
     . exact h1.trans (zjo h1.sk h)
def insF (x:z0n) (f:z01):z0n×Bool:=if z3l x&&(!decide (f∈x.2.1)&&z3l (x.1,(facS (x.2.1++[f]),())))then((x.1,(facS (x.2.1++[f]),())),true)else(x,false)
structure SmJ (x:z0n):Prop where
 rels:x.1.length<=1048576
 few:x.2.1.length<=1048576
 row:∀ f∈x.2.1,f.2.1.length<=1048576
def Rd {ρ:Type} (P:ρ->Prop) (A:Prop) (B:ρ->Prop):Prop:=A->∃ v,P v/\B v
section
variable {ρ:Type} {P:ρ->Prop}
theorem rk {x:ρ}:Rd P (P x) (fun v=>x=v):=fun h=>⟨x,h,rfl⟩
theorem rb {b:Bool} {A1 A2:Prop} {B1 B2:ρ->Prop} (h1:Rd P A1 B1) (h2:Rd P A2 B2):Rd P (z00 b A1 A2) (fun v=>z00 b (B1 v) (B2 v)):=by
 cases b
 . exact h2
 . exact h1
theorem ra {C A:Prop} {B:ρ->Prop} (h:Rd P A B):Rd P (C/\A) (fun v=>C/\B v):=fun⟨c,a⟩=>(h a).imp fun _ hv=>⟨hv.1,c,hv.2⟩
theorem re {α:Type} {A:α->Prop} {B:α->ρ->Prop} (h:∀ y,Rd P (A y) (B y)):Rd P (∃ y,A y) (fun v=>∃ y,B y v):=fun⟨y,a⟩=>(h y a).imp fun _ hv=>⟨hv.1,y,hv.2⟩
theorem rl (hi:∃ v,P v) {n:Int} {A:Prop} {B:ρ->Prop} (h:Rd P A B):Rd P (z0t n A) (fun v=>z0t n (B v)):=fun a=>by
 by_cases hn:n<=9223372036854775807
 . exact(h (a hn)).imp fun _ hv=>⟨hv.1,fun _=>hv.2⟩
 . exact hi.imp fun _ hv=>⟨hv,fun h=>absurd h hn⟩
theorem rp {σ:Type} {BP:(σ->Prop)->σ->Prop} {BV:ρ->(σ->Prop)->σ->Prop} {a0:σ}
  (h:∀(XP:σ->Prop) (XV:ρ->σ->Prop),(∀ b,Rd P (XP b) (fun v=>XV v b))->∀ a,Rd P (BP XP a) (fun v=>BV v (XV v) a)):Rd P (z0f BP a0) (fun v=>z0f (BV v) a0):=by
 rintro⟨n,hn⟩
 have key:∀ n a,Rd P (zwg BP n a) (fun v=>zwg (BV v) n a):=by
  intro n
  induction n with
  |zero=>intro a h;exact h.elim
  |succ n ih=>intro a;exact h _ (fun v=>zwg (BV v) n) ih a
 exact(key n a0 hn).imp fun _ hv=>⟨hv.1,n,hv.2⟩
theorem zku {S:(ρ->Prop)->Prop} (h:S P) (hi:∃ v,P v) (hr:(∃ v,P v)->Rd P (S P) (fun v=>S (fun q=>q=v))):∃ v,P v/\S (fun q=>q=v):=hr hi h
end
abbrev Src:=List Int×Int×Int×Unit
def Oks (s:Src):Prop:=0<=s.2.1/\s.1.length<=4611686018427387903
theorem z02o (x:Int):0<=zdt .and .i64 x 255/\zdt .and .i64 x 255<=255:=by
 show 0<=IntKind.i64.wrap ((BitVec.ofInt 64 x &&& BitVec.ofInt 64 255).toNat:Int)/\IntKind.i64.wrap ((BitVec.ofInt 64 x &&& BitVec.ofInt 64 255).toNat:Int)<=255
 have h:(BitVec.ofInt 64 x &&& BitVec.ofInt 64 255).toNat<=255:=by
  rw[BitVec.toNat_and]
  exact Nat.le_trans Nat.and_le_right (by decide)
 generalize (BitVec.ofInt 64 x &&& BitVec.ofInt 64 255).toNat=n at h
 have e:IntKind.i64.wrap (n:Int)=(n:Int):=z19 (by omega) (by omega)
 rw[e];omega
theorem zx5 {s:Src} (h:Oks s):∃ y z,z4v s y z/\(0<=y/\y<=255)/\Oks z:=by
 have hl:=h.2
 have h0:=h.1
 have hs:z80 s (fun q=>(0<=q.1/\q.1<=255)/\Oks q.2.1):=by
  unfold z80
  refine⟨by decide,by decide,z0h fun _=>z09 (fun hlt=>⟨⟨h0,hlt⟩,z02o _,?_,hl⟩) (fun _=>⟨z02o _,h⟩)⟩
  show 0<=w64 (s.2.1+1)
  rw[z19 (by omega) (by omega)];omega
 obtain⟨⟨y,z,_⟩,hq,hv⟩:=zku (S:=z80 s) hs ⟨(0,(s,())),⟨Int.le_refl (0:Int),(by decide:(0:Int)<=255)⟩,h⟩ fun hi=>by
  unfold z80
  repeat' first|exact rk|apply_assumption|refine rb ?_ ?_|refine rl hi ?_|refine ra ?_|(refine rp ?_;intro _ _ _ _)|(refine re ?_;intro _)
 exact⟨y,z,zus _ _ _ hv,hq.1,hq.2⟩
theorem z2b {s:Src} {n:Int} (h:Oks s) (h1:0<n) (h2:n<=256):∃ y z,z06 s n y z/\(0<=y/\y<n)/\Oks z:=by
 obtain⟨y,z,g,y0,hz⟩:=zx5 h
 refine⟨Int.tmod y n,z,zij _ _ _ _ ?_,⟨?_,?_⟩,hz⟩
 . unfold zd8
   rw[z07f (by omega)]
   exact z09 (fun _=>⟨y,z,g,by omega,rfl⟩) (fun h=>absurd h2 h)
 . exact Int.tmod_nonneg _ y0.1
 . exact Int.tmod_lt_of_pos _ h1
theorem ztf {s:Src} {n:Int} (h:Oks s) (h1:0<n) (h2:n<=256):∃ y z,z40 s n y z/\Oks z:=by
 obtain⟨y,z,g,_,hz⟩:=z2b h h1 h2
 exact⟨_,z,zu6 _ _ _ _ ⟨y,z,g,rfl⟩,hz⟩
theorem z07u {s:Src} {l:List Int} (h:Oks s) (h1:0<l.length) (h2:l.length<=256):∃ y z,zaf s l y z/\Oks z:=by
 obtain⟨y,z,g,hy,hz⟩:=z2b (n:=(l.length:Int)) h (by omega) (by omega)
 exact⟨_,z,znd _ _ _ _ (z0h fun _=>⟨y,z,g,⟨hy.1,hy.2⟩,rfl⟩),hz⟩
def sigs:List z0m:=[([97],(2,(true,()))),([98],(1,(true,()))),([112],(2,(false,()))),([113],(2,(false,()))),([114],(1,(false,())))]
theorem zg1:zbx sigs:=z08d _ rfl
theorem zyj (i:Nat) (h:i<sigs.length):1<=(sigs[i]).2.1/\(sigs[i]).2.1<=2:=by
 match i,h with
 |0,_|2,_|3,_=>exact⟨(by decide:(1:Int)<=2),(by decide:(2:Int)<=2)⟩
 |1,_|4,_=>exact⟨(by decide:(1:Int)<=1),(by decide:(1:Int)<=2)⟩
theorem zzc {s:Src} {n:Int} (h:Oks s) (h2:n<=40):∃ y z,z6x s n y z/\(-40<=y/\y<3)/\Oks z:=by
 have hs:z72 s n (fun q=>(-40<=q.1/\q.1<3)/\Oks q.2.1):=by
  unfold z72
  refine z09 (fun hn=>?_) (fun hn=>?_)
  . obtain⟨b,z,g,hz⟩:=ztf h (n:=2) (by decide) (by decide)
    obtain⟨v,z1,g1,hv,hz1⟩:=z2b hz (n:=n) (by omega) (by omega)
    obtain⟨u,z2,g2,hu,hz2⟩:=z2b hz (n:=3) (by decide) (by decide)
    exact⟨b,z,g,z1k (fun _=>⟨v,z1,g1,_,zc9 hv.1 (by omega),⟨by simp only;omega,by simp only;omega⟩,hz1⟩) (fun _=>⟨u,z2,g2,⟨by simp only;omega,hu.2⟩,hz2⟩)⟩
  . obtain⟨u,z2,g2,hu,hz2⟩:=z2b h (n:=3) (by decide) (by decide)
    exact⟨u,z2,g2,⟨by simp only;omega,hu.2⟩,hz2⟩
 obtain⟨⟨y,z,_⟩,hq,hv⟩:=zku (S:=z72 s n) hs ⟨(0,(s,())),⟨(by decide:(-40:Int)<=0),(by decide:(0:Int)<3)⟩,h⟩ fun hi=>by
  unfold z72
  repeat' first|exact rk|apply_assumption|refine rb ?_ ?_|refine ra ?_|(refine rp ?_;intro _ _ _ _)|(refine re ?_;intro _)
 exact⟨y,z,zr6 _ _ _ _ hv,hq.1,hq.2⟩
def SmR (r:Int) (f:z01):Prop:=f.1=r/\1<=f.2.1.length/\f.2.1.length<=2
theorem z07q {s:Src} {r n:Int} (h:Oks s) (h0:0<=r) (h1:r<5) (h2:n<=40):∃ y z,z8o s r n y z/\SmR r y/\Oks z:=by
 obtain⟨i,rfl⟩:∃ i:Nat,r=(i:Int):=⟨r.toNat,by omega⟩
 have hi:i<sigs.length:=by show i<5;omega
 have ha:=zyj i hi
 have hs:z8t s i n (fun q=>SmR i q.1/\Oks q.2.1):=by
  unfold z8t
  refine⟨_,zg1,?_⟩
  refine z17 (fun k a=>∃(c:Src) (l:List Int),a=(c,(((i:Int),(l,())),()))/\Oks c/\l.length+k=(sigs[i]).2.1.toNat) ?_ ?_ (n:=(sigs[i]).2.1.toNat) ⟨s,[],rfl,h,by simp⟩
  . rintro a ⟨c,l,rfl,hc,hl⟩ X
    refine inI hi (z0h fun _=>?_)
    rw[z1r hi]
    exact z09 (fun h=>by simp only at h;omega) (fun _=>⟨⟨rfl,by simp only;omega,by simp only;omega⟩,hc⟩)
  . rintro k a ⟨c,l,rfl,hc,hl⟩ X hX
    obtain⟨v,z,g,_,hz⟩:=zzc hc h2
    refine inI hi (z0h fun _=>?_)
    rw[z1r hi]
    exact z09 (fun h=>⟨v,z,g,by simp only[z1b,List.length_cons,List.length_nil];omega,hX _ ⟨z,l++[v],rfl,hz,by simp;omega⟩⟩) (fun h=>by simp only at h;omega)
 obtain⟨⟨y,z,_⟩,hq,hv⟩:=zku (S:=z8t s i n) hs ⟨((i,([0],())),(s,())),⟨rfl,(by decide:1<=1),(by decide:1<=2)⟩,h⟩ fun hi=>by
  unfold z8t
  repeat' first|exact rk|apply_assumption|refine rb ?_ ?_|refine rl hi ?_|refine ra ?_|(refine rp ?_;intro _ _ _ _)|(refine re ?_;intro _)
 exact⟨y,z,zuq _ _ _ _ _ hv,hq.1,hq.2⟩
theorem z0c9 {s:Src} {r n:Int} (h:Oks s) (h0:0<=r) (h1:r<5) (hn0:0<n) (h2:n<=40):∃ y z,z69 s r n y z/\SmR r y/\Oks z:=by
 obtain⟨i,rfl⟩:∃ i:Nat,r=(i:Int):=⟨r.toNat,by omega⟩
 have hi:i<sigs.length:=by show i<5;omega
 have ha:=zyj i hi
 have hs:z8n s i n (fun q=>SmR i q.1/\Oks q.2.1):=by
  unfold z8n
  refine⟨_,zg1,?_⟩
  refine z17 (fun k a=>∃(c:Src) (l:List Int),a=(c,(((i:Int),(l,())),()))/\Oks c/\l.length+k=(sigs[i]).2.1.toNat) ?_ ?_ (n:=(sigs[i]).2.1.toNat) ⟨s,[],rfl,h,by simp⟩
  . rintro a ⟨c,l,rfl,hc,hl⟩ X
    refine inI hi (z0h fun _=>?_)
    rw[z1r hi]
    exact z09 (fun h=>by simp only at h;omega) (fun _=>⟨⟨rfl,by simp only;omega,by simp only;omega⟩,hc⟩)
  . rintro k a ⟨c,l,rfl,hc,hl⟩ X hX
    obtain⟨b,z,g,hz⟩:=ztf hc (n:=14) (by decide) (by decide)
    obtain⟨u,z1,g1,_,hz1⟩:=z2b hz (n:=3) (by decide) (by decide)
    obtain⟨v,z2,g2,_,hz2⟩:=z2b hz (n:=n) hn0 (by omega)
    refine inI hi (z0h fun _=>?_)
    rw[z1r hi]
    exact z09 (fun h=>⟨b,z,g,z1k (fun _=>⟨u,z1,g1,by simp only[z1b,List.length_cons,List.length_nil];omega,hX _ ⟨z1,_,rfl,hz1,by simp;omega⟩⟩)
     (fun _=>⟨v,z2,g2,by simp only[z1b,List.length_cons,List.length_nil];omega,hX _ ⟨z2,_,rfl,hz2,by simp;omega⟩⟩)⟩) (fun h=>by simp only at h;omega)
 obtain⟨⟨y,z,_⟩,hq,hv⟩:=zku (S:=z8n s i n) hs ⟨((i,([0],())),(s,())),⟨rfl,(by decide:1<=1),(by decide:1<=2)⟩,h⟩ fun hi=>by
  unfold z8n
  repeat' first|exact rk|apply_assumption|refine rb ?_ ?_|refine rl hi ?_|refine ra ?_|(refine rp ?_;intro _ _ _ _)|(refine re ?_;intro _)
 exact⟨y,z,zuz _ _ _ _ _ hv,hq.1,hq.2⟩
theorem zru {l:List z01} (hl:(l.flatMap (·.2.1)).length<=1073741824):z5u l (vars l) l:=zgr _ _ _ (by
 unfold z9s
 refine z0u l.length (fun i=>((i:Int),(vars (l.take i),()))) (by simp[vars,zca]) ?_ ?_
 . intro i hi X hX
   refine z0h fun hl1=>bcI hi ?_
   simp only
   rw[z1r hi]
   have hsub:((l.take i).flatMap (·.2.1)).length+l[i].2.1.length<=1073741824:=by
    have:=zbj (·.2.1) hi
    omega
   have hset:∀ j,j<=l[i].2.1.length->(zca (((l.take i).flatMap (·.2.1)++l[i].2.1.take j).filter fun t=>decide (0<=t))).length<=1073741824:=by
    intro j hj
    refine Nat.le_trans (zuf _) (Nat.le_trans (List.length_filter_le _ _) ?_)
    rw[List.length_append,List.length_take];omega
   refine z0u l[i].2.1.length (fun j=>(zca (((l.take i).flatMap (·.2.1)++l[i].2.1.take j).filter fun t=>decide (0<=t)),((j:Int),()))) (by simp[vars]) ?_ ?_
   . intro j hj Y hY
     refine inI hi (z0h fun _=>bcI hj (inI hi (inI hj ?_)))
     simp only
     rw[z1r hj,z02 (by omega)]
     have e:((l.take i).flatMap (·.2.1)++l[i].2.1.take (j+1)).filter (fun t=>decide (0<=t))=((l.take i).flatMap (·.2.1)++l[i].2.1.take j).filter (fun t=>decide (0<=t))++(if 0<=l[i].2.1[j] then[l[i].2.1[j]] else[]):=by
      rw[z08 hj,<-List.append_assoc,List.filter_append]
      by_cases h:0<=l[i].2.1[j]<;>simp[h]
     rw[e]at hY
     refine z09 (fun h=>inI hi (inI hj ⟨_,zo7 (hset j (by omega)),?_⟩)) (fun h=>?_)
     . have h:0<=l[i].2.1[j]:=h
       rw[if_pos h]at hY
       rw[zq7];exact hY
     . have h:¬ 0<=l[i].2.1[j]:=h
       rw[if_neg h,List.append_nil]at hY;exact hY
   . intro Y
     refine inI hi (z0h fun _=>bcN ?_)
     simp only
     rw[z02 (by omega),List.take_length]
     have:zca (((l.take i).flatMap (·.2.1)++l[i].2.1).filter fun t=>decide (0<=t))=vars (l.take (i+1)):=by
      unfold vars;rw[z08 hi,List.flatMap_append];simp
     rw[this];exact hX
 . intro X
   refine z0h fun _=>bcN ?_
   simp only[List.take_length])
def SmB (l:List z01):Prop:=∀ f∈l,1<=f.2.1.length/\f.2.1.length<=2
def SmD (n:Nat) (d:z0b):Prop:=(1<=d.1.length/\d.1.length<=2)/\d.2.1.length<=n/\SmB d.1/\SmB d.2.1
theorem SmD.ok {n:Nat} {d:z0b} (h:SmD n d) (hn:n<=1000):z0ga d:=
 ⟨⟨by have:=h.1.2;omega,fun f hf=>by have:=(h.2.2.1 f hf).2;omega⟩,⟨by have:=h.2.1;omega,fun f hf=>by have:=(h.2.2.2 f hf).2;omega⟩⟩
theorem SmB.snoc {l:List z01} {f:z01} (h:SmB l) (hf:1<=f.2.1.length/\f.2.1.length<=2):SmB (l++[f]):=fun g hg=>by
 rcases List.mem_append.mp hg with hg|hg
 . exact h g hg
 . obtain rfl:=List.mem_singleton.mp hg;exact hf
theorem SmB.flat {l:List z01} (h:SmB l):(l.flatMap (·.2.1)).length<=l.length * 2:=by
 induction l with
 |nil=>simp
 | cons a l ih=>
   have:=ih fun f hf=>h f (by simp[hf])
   have:=(h a (by simp)).2
   simp only[List.flatMap_cons,List.length_append,List.length_cons]
   omega
theorem smd0:SmD 2 ([(0,([0],()))],([],(false,(0,(0,()))))):=by unfold SmD SmB;decide
theorem zo0 {b:Bool} {A B:Prop} (h1:A) (h2:B):z00 b A B:=by
 cases b
 . exact h2
 . exact h1
theorem zh0 {k:Nat} (h:k<=1000):w64 (((k+1:Nat):Int) - 1)=(k:Int):=by rw[z19 (by omega) (by omega)];omega
theorem z0e0 {s:Src} (h:Oks s):∃ y z,zcz s y z/\SmD 2 y/\Oks z:=by
 obtain⟨v,z,g,_,hz⟩:=z2b h (n:=9) (by decide) (by decide)
 have hs:z75 s (fun q=>SmD 2 q.1/\Oks q.2.1):=by
  unfold z75
  refine⟨v,z,g,?_⟩
  have hd:∀ {d:z0b},SmD 2 d->SmD 2 ((d,(z,())):z0b×Src×Unit).1/\Oks ((d,(z,())):z0b×Src×Unit).2.1:=fun h=>⟨h,hz⟩
  refine zo0 (hd (by unfold SmD SmB;decide)) (zo0 (hd (by unfold SmD SmB;decide)) (zo0 (hd (by unfold SmD SmB;decide)) (zo0 (hd (by unfold SmD SmB;decide)) (zo0 (hd (by unfold SmD SmB;decide)) (zo0 (hd (by unfold SmD SmB;decide)) (zo0 (hd (by unfold SmD SmB;decide)) (zo0 (hd (by unfold SmD SmB;decide)) (hd (by unfold SmD SmB;decide)))))))))
 obtain⟨⟨y,z,_⟩,hq,hv⟩:=zku (S:=z75 s) hs ⟨((([(0,([0],()))],([],(false,(0,(0,()))))):z0b),(s,())),smd0,h⟩ fun hi=>by
  unfold z75
  repeat' first|exact rk|apply_assumption|refine rb ?_ ?_|refine rl hi ?_|refine ra ?_|(refine rp ?_;intro _ _ _ _)|(refine re ?_;intro _)
 exact⟨y,z,zrw _ _ _ hv,hq.1,hq.2⟩
theorem z0c3 {s:Src} (h:Oks s):∃ y z,zb5 s y z/\SmD 2 y/\Oks z:=by
 have hs:z8f s (fun q=>SmD 2 q.1/\Oks q.2.1):=by
  unfold z8f
  obtain⟨b,z,g,hz⟩:=ztf h (n:=3) (by decide) (by decide)
  refine⟨b,z,g,zo0 ?_ ?_⟩
  . obtain⟨y,z1,g1,hy,hz1⟩:=z0e0 hz
    exact⟨y,z1,g1,hy,hz1⟩
  . obtain⟨v,z1,g1,hv,hz1⟩:=z2b hz (n:=2) (by decide) (by decide)
    obtain⟨N,hN⟩:∃ N:Nat,1+v=(N:Int):=⟨(1+v).toNat,by omega⟩
    refine⟨v,z1,g1,?_⟩
    rw[show w64 (1+v)=(N:Int) by rw[hN];exact z19 (by omega) (by omega)]
    refine z17 (fun k a=>∃(c:Src) (l:List z01),a=((k:Int),(c,((l,(([]:List z01),(false,((0:Int),((0:Int),()))))),())))/\Oks c/\l.length+k=N/\SmB l) ?_ ?_ (n:=N) ⟨z1,[],rfl,hz1,by simp,fun f hf=>by simp at hf⟩
    . rintro a ⟨c,l,rfl,hc,hl,hb⟩ X
      refine z09 (fun h=>by simp at h) (fun _=>?_)
      have hfl:=hb.flat
      refine⟨_,_,zru (l:=l) (by omega),z0h fun _=>?_⟩
      have head:∀ {c:Src},Oks c->∃ y17 y18,z06 c 2 y17 y18/\(0<=y17/\y17<2)/\Oks y18:=fun hc=>z2b hc (by decide) (by decide)
      have tail:∀ {u:Int} {c:Src},0<=u/\u<2->Oks c->z0f (fun(again20:Int×Src×z0b×Unit->Prop) (a19:Int×Src×z0b×Unit)=>z00 (decide (a19.1 > (0:Int))) (∃ y21:Int,∃ y22:Src,z06 a19.2.1 (3:Int) y21 y22/\(∃ y23:z01,∃ y24:Src,z69 y22 (w64 ((2:Int)+y21)) (4:Int) y23 y24/\(a19.2.2.1.2.1.length+([(y23.1,(y23.2.1,y23.2.2))]:List z01).length<=z1b/\(again20 (w64 (a19.1 - (1:Int)),(y24,((a19.2.2.1.1,(a19.2.2.1.2.1++([(y23.1,(y23.2.1,y23.2.2))]:List z01),a19.2.2.1.2.2)),()))))))) (SmD 2 ((a19.2.2.1.1,(a19.2.2.1.2.1,a19.2.2.1.2.2)):z0b)/\Oks a19.2.1)) (w64 ((1:Int)+u),(c,((l,(([]:List z01),(false,((0:Int),((0:Int),()))))),()))):=by
       intro u c hu hc
       obtain⟨M,hM⟩:∃ M:Nat,1+u=(M:Int):=⟨(1+u).toNat,by omega⟩
       rw[show w64 (1+u)=(M:Int) by rw[hM];exact z19 (by omega) (by omega)]
       refine z17 (fun k a=>∃(c:Src) (m:List z01),a=((k:Int),(c,((l,(m,(false,((0:Int),((0:Int),()))))),())))/\Oks c/\m.length+k=M/\SmB m) ?_ ?_ (n:=M) ⟨c,[],rfl,hc,by simp,fun f hf=>by simp at hf⟩
       . rintro a ⟨c,m,rfl,hc,hm,hb2⟩ X
         exact z09 (fun h=>by simp at h) (fun _=>⟨⟨⟨by simp only;omega,by simp only;omega⟩,by simp only;omega,hb,hb2⟩,hc⟩)
       . rintro k a ⟨c,m,rfl,hc,hm,hb2⟩ X hX
         obtain⟨u,z1,g1,hu,hz1⟩:=z2b hc (n:=3) (by decide) (by decide)
         obtain⟨f,z2,g2,hf,hz2⟩:=z0c9 hz1 (r:=2+u) (n:=4) (by omega) (by omega) (by decide) (by decide)
         refine z09 (fun _=>⟨u,z1,g1,f,z2,?_,?_,?_⟩) (fun h=>by simp at h<;>omega)
         . rw[z19 (by omega) (by omega)];exact g2
         . simp only[z1b,List.length_cons,List.length_nil];omega
         . simp only
           rw[zh0 (by omega)]
           exact hX _ ⟨z2,m++[f],rfl,hz2,by simp;omega,hb2.snoc hf.2⟩
      obtain⟨b2,z2,g2,hz2⟩:=ztf hc (n:=3) (by decide) (by decide)
      obtain⟨u,z3,g3,hu,hz3⟩:=head hz2
      obtain⟨u',z3',g3',hu',hz3'⟩:=head hc
      refine z09 (fun hgt=>⟨b2,z2,g2,zo0 ⟨⟨by omega,by omega⟩,⟨by omega,by omega⟩,⟨⟨by simp only;omega,by simp only;omega⟩,by simp,hb,fun f hf=>by simp at hf⟩,hz2⟩ ⟨u,z3,g3,tail hu hz3⟩⟩) (fun _=>⟨u',z3',g3',tail hu' hz3'⟩)
    . rintro k a ⟨c,l,rfl,hc,hl,hb⟩ X hX
      obtain⟨r,z1,g1,hr,hz1⟩:=z2b hc (n:=5) (by decide) (by decide)
      obtain⟨f,z2,g2,hf,hz2⟩:=z0c9 hz1 (r:=r) (n:=3) hr.1 hr.2 (by decide) (by decide)
      refine z09 (fun _=>⟨r,z1,g1,f,z2,g2,?_,?_⟩) (fun h=>by simp at h<;>omega)
      . simp only[z1b,List.length_cons,List.length_nil];omega
      . simp only
        rw[zh0 (by omega)]
        exact hX _ ⟨z2,l++[f],rfl,hz2,by simp;omega,hb.snoc hf.2⟩
 obtain⟨⟨y,z,_⟩,hq,hv⟩:=zku (S:=z8f s) hs ⟨((([(0,([0],()))],([],(false,(0,(0,()))))):z0b),(s,())),smd0,h⟩ fun hi=>by
  unfold z8f
  repeat' first|exact rk|apply_assumption|refine rb ?_ ?_|refine rl hi ?_|refine ra ?_|(refine rp ?_;intro _ _ _ _)|(refine re ?_;intro _)
 exact⟨y,z,zug _ _ _ hv,hq.1,hq.2⟩
def SmX (x:z0n):Prop:=x.1=sigs/\x.2.1.length<=40/\∀ f∈x.2.1,f.2.1.length<=2
theorem z0bk {s:Src} {m n:Int} (h:Oks s) (h0:0<=m) (h1:m<=30) (h2:n<=40):∃ y z,zbm s m n y z/\SmX y/\Oks z:=by
 have hs:z5w s m n (fun q=>SmX q.1/\Oks q.2.1):=by
  unfold z5w
  obtain⟨v,z,g,hv,hz⟩:=z2b h (n:=m+1) (by omega) (by omega)
  refine⟨_,zg1,v,z,by rw[z19 (by omega) (by omega)];exact g,?_⟩
  obtain⟨N,rfl⟩:∃ N:Nat,v=(N:Int):=⟨v.toNat,by omega⟩
  refine z17 (fun k a=>∃(c:Src) (x:z0n),a=((k:Int),(c,(x,())))/\Oks c/\x.1=sigs/\x.2.1.length+k<=N/\∀ f∈x.2.1,f.2.1.length<=2) ?_ ?_ (n:=N) ⟨z,(sigs,([],())),rfl,hz,rfl,by simp,fun f hf=>by simp at hf⟩
  . rintro a ⟨c,x,rfl,hc,hx,hl,hf⟩ X
    refine z09 (fun h=>by simp at h) (fun _=>⟨x,zgh (by rw[hx];decide) (by first|omega|(simp only;omega)) (fun f hm=>by have:=hf f hm;omega),⟨hx,by first|omega|(simp only;omega),hf⟩,hc⟩)
  . rintro k a ⟨c,x,rfl,hc,hx,hl,hf⟩ X hX
    obtain⟨u,z1,g1,hu,hz1⟩:=z2b hc (n:=3) (by decide) (by decide)
    obtain⟨f,z2,g2,hr,hz2⟩:=z07q hz1 (r:=2+u) (n:=n) (by omega) (by omega) h2
    have hr2:=hr.2.2
    refine z09 (fun _=>⟨u,z1,g1,f,z2,by rw[z19 (by omega) (by omega)];exact g2,_,zo4 (x:=x) (f:=f) (by omega) (by omega),?_⟩) (fun h=>by simp at h<;>omega)
    simp only
    rw[zh0 (by omega)]
    refine hX _ ⟨z2,_,rfl,hz2,hx,?_,fun y hy=>?_⟩
    . have:=zoc (l:=x.2.1) (f:=f)
      show(zmh x.2.1 f).length+k<=N
      omega
    . rcases putF_mem.mp hy with hy|rfl
      . exact hf y hy
      . exact hr2
 obtain⟨⟨y,z,_⟩,hq,hv⟩:=zku (S:=z5w s m n) hs ⟨(((sigs,([],())):z0n),(s,())),⟨rfl,by simp,fun f hf=>by simp at hf⟩,h⟩ fun hi=>by
  unfold z5w
  repeat' first|exact rk|apply_assumption|refine rb ?_ ?_|refine rl hi ?_|refine ra ?_|(refine rp ?_;intro _ _ _ _)|(refine re ?_;intro _)
 exact⟨y,z,zq9 _ _ _ _ _ hv,hq.1,hq.2⟩
theorem z0gd {x:List Int} (h:x.length<=1048576):∃ z,zvv x z/\Oks z:=by
 have hs:zjx x (fun q=>Oks q.1):=by
  unfold zjx
  refine z0h fun _=>?_
  refine z17 (fun k a=>∃(v:Int) (i:Nat),a=(v,((i:Int),()))/\i+k=4000) ?_ ?_ (n:=4000) ⟨_,0,rfl,rfl⟩
  . rintro a ⟨v,i,rfl,hi⟩ X
    exact z0h fun _=>zo0 (z09 (fun h=>by simp at h;omega) (fun _=>⟨Int.le_refl (0:Int),by show x.length<=_;omega⟩)) ⟨Int.le_refl (0:Int),by show x.length<=_;omega⟩
  . rintro k a ⟨v,i,rfl,hi⟩ X hX
    refine z0h fun _=>z09 (fun hlt=>zo0 ⟨⟨by simp only;omega,hlt⟩,?_⟩ ⟨Int.le_refl (0:Int),by show x.length<=_;omega⟩) (fun _=>⟨Int.le_refl (0:Int),by show x.length<=_;omega⟩)
    simp only
    rw[z02 (by omega)]
    exact hX _ ⟨_,i+1,rfl,by omega⟩
 obtain⟨⟨z,_⟩,hq,hv⟩:=zku (S:=zjx x) hs ⟨(([],(0,(0,()))),()),Int.le_refl (0:Int),by decide⟩ fun hi=>by
  unfold zjx
  repeat' first|exact rk|apply_assumption|refine rb ?_ ?_|refine rl hi ?_|refine ra ?_|(refine rp ?_;intro _ _ _ _)|(refine re ?_;intro _)
 exact⟨z,z0bq _ _ hv,hq⟩
theorem z0fk {x:List Int}:z088 x (decide ((x.length:Int) > 1048576)):=z0f7 _ _ (z0h fun _=>rfl)
def SmX2 (m:Nat) (x:z0n):Prop:=x.1=sigs/\x.2.1.length<=m/\∀ f∈x.2.1,f.2.1.length<=2
theorem z02q {s:Src} {m:Int} (h:Oks s) (h0:0<=m) (h1:m<=30):∃ y z,z82 s m y z/\SmX2 m.toNat y/\Oks z:=by
 have hs:z5q s m (fun q=>SmX2 m.toNat q.1/\Oks q.2.1):=by
  unfold z5q
  obtain⟨v,z,g,hv,hz⟩:=z2b h (n:=m+1) (by omega) (by omega)
  refine⟨_,zg1,v,z,by rw[z19 (by omega) (by omega)];exact g,?_⟩
  obtain⟨N,rfl⟩:∃ N:Nat,v=(N:Int):=⟨v.toNat,by omega⟩
  refine z17 (fun k a=>∃(c:Src) (x:z0n),a=((k:Int),(c,(x,())))/\Oks c/\x.1=sigs/\x.2.1.length+k<=N/\∀ f∈x.2.1,f.2.1.length<=2) ?_ ?_ (n:=N) ⟨z,(sigs,([],())),rfl,hz,rfl,by simp,fun f hf=>by simp at hf⟩
  . rintro a ⟨c,x,rfl,hc,hx,hl,hf⟩ X
    refine z09 (fun h=>by simp at h) (fun _=>⟨x,zgh (by rw[hx];decide) (by first|omega|(simp only;omega)) (fun f hm=>by have:=hf f hm;omega),⟨hx,by first|omega|(simp only;omega),hf⟩,hc⟩)
  . rintro k a ⟨c,x,rfl,hc,hx,hl,hf⟩ X hX
    obtain⟨u,z1,g1,hu,hz1⟩:=z2b hc (n:=2) (by decide) (by decide)
    obtain⟨f,z2,g2,hr,hz2⟩:=z07q hz1 (r:=u) (n:=0) (by omega) (by omega) (by decide)
    have hr2:=hr.2.2
    refine z09 (fun _=>⟨u,z1,g1,f,z2,g2,_,zo4 (x:=x) (f:=f) (by omega) (by omega),?_⟩) (fun h=>by simp at h<;>omega)
    simp only
    rw[zh0 (by omega)]
    refine hX _ ⟨z2,_,rfl,hz2,hx,?_,fun y hy=>?_⟩
    . have:=zoc (l:=x.2.1) (f:=f)
      show(zmh x.2.1 f).length+k<=N
      omega
    . rcases putF_mem.mp hy with hy|rfl
      . exact hf y hy
      . exact hr2
 obtain⟨⟨y,z,_⟩,hq,hv⟩:=zku (S:=z5q s m) hs ⟨(((sigs,([],())):z0n),(s,())),⟨rfl,by simp,fun f hf=>by simp at hf⟩,h⟩ fun hi=>by
  unfold z5q
  repeat' first|exact rk|apply_assumption|refine rb ?_ ?_|refine rl hi ?_|refine ra ?_|(refine rp ?_;intro _ _ _ _)|(refine re ?_;intro _)
 exact⟨y,z,zqn _ _ _ _ hv,hq.1,hq.2⟩
theorem z0eb {s:Src} (h:Oks s):∃ y z,zbp s y z/\(y.length<=3/\∀ d∈y,SmD 2 d)/\Oks z:=by
 have hs:z61 s (fun q=>(q.1.length<=3/\∀ d∈q.1,SmD 2 d)/\Oks q.2.1):=by
  unfold z61
  obtain⟨v,z,g,hv,hz⟩:=z2b h (n:=3) (by decide) (by decide)
  obtain⟨N,hN⟩:∃ N:Nat,1+v=(N:Int):=⟨(1+v).toNat,by omega⟩
  refine⟨v,z,g,?_⟩
  rw[show w64 (1+v)=(N:Int) by rw[hN];exact z19 (by omega) (by omega)]
  refine z17 (fun k a=>∃(c:Src) (ds:List z0b),a=((k:Int),(ds,(c,())))/\Oks c/\ds.length+k<=3/\∀ d∈ds,SmD 2 d) ?_ ?_ (n:=N) ⟨z,[],rfl,hz,by simp;omega,fun d hd=>by simp at hd⟩
  . rintro a ⟨c,ds,rfl,hc,hl,hd⟩ X
    exact z09 (fun h=>by simp at h) (fun _=>⟨⟨by simp only;omega,hd⟩,hc⟩)
  . rintro k a ⟨c,ds,rfl,hc,hl,hd⟩ X hX
    obtain⟨d,z1,g1,hd1,hz1⟩:=z0c3 hc
    have old:X (w64 (((k+1:Nat):Int) - 1),(ds,(z1,()))):=by
     rw[zh0 (by omega)]
     exact hX _ ⟨z1,ds,rfl,hz1,by omega,hd⟩
    refine z09 (fun _=>⟨d,z1,g1,zo0 ⟨trivial,trivial,_,zg1,?_,?_,_,z8v,zo0 ⟨?_,?_⟩ old⟩ old⟩) (fun h=>by simp at h<;>omega)
    . simp only[z1b,List.length_nil];omega
    . simp only[z1b,List.length_append,List.length_cons,List.length_nil];omega
    . simp only[z1b,List.length_cons,List.length_nil];omega
    . simp only
      rw[zh0 (by omega)]
      refine hX _ ⟨z1,ds++[d],rfl,hz1,by simp only[List.length_append,List.length_cons,List.length_nil];omega,fun e he=>?_⟩
      rcases List.mem_append.mp he with he|he
      . exact hd e he
      . obtain rfl:=List.mem_singleton.mp he;exact hd1
 obtain⟨⟨y,z,_⟩,hq,hv⟩:=zku (S:=z61 s) hs ⟨(([]:List z0b),(s,())),⟨by simp,fun f hf=>by simp at hf⟩,h⟩ fun hi=>by
  unfold z61
  repeat' first|exact rk|apply_assumption|refine rb ?_ ?_|refine rl hi ?_|refine ra ?_|(refine rp ?_;intro _ _ _ _)|(refine re ?_;intro _)
 exact⟨y,z,zpc _ _ _ hv,hq.1,hq.2⟩
theorem z0es {s:Src} (h:Oks s):∃ y z,z9y s y z/\y.2.1.length<=3/\Oks z:=by
 have hs:z9i s (fun q=>q.1.2.1.length<=3/\Oks q.2.1):=by
  unfold z9i
  obtain⟨r,z,g,hr,hz⟩:=z2b h (n:=5) (by decide) (by decide)
  obtain⟨f,z1,g1,hf,hz1⟩:=z07q hz (r:=r) (n:=4) hr.1 hr.2 (by decide)
  obtain⟨v,z2,g2,hv,hz2⟩:=z2b hz1 (n:=10) (by decide) (by decide)
  obtain⟨u,z3,g3,hu,hz3⟩:=z2b hz2 (n:=7) (by decide) (by decide)
  obtain⟨w,z4,g4,hz4⟩:=z07u hz2 (l:=[10,-41,9]) (by decide) (by decide)
  have hl:=hf.2
  refine⟨r,z,g,f,z1,g1,v,z2,g2,zo0 ⟨u,z3,g3,?_,hz3⟩ (zo0 ⟨?_,?_,hz2⟩ (zo0 ⟨w,z4,g4,⟨by omega,by omega⟩,?_,hz4⟩ ⟨?_,hz2⟩))⟩
  . show f.2.1.length<=3;omega
  . simp only[z1b,List.length_cons,List.length_nil];omega
  . simp only[List.length_append,List.length_cons,List.length_nil];omega
  . simp only[List.length_set];omega
  . show f.2.1.length<=3;omega
 obtain⟨⟨y,z,_⟩,hq,hv⟩:=zku (S:=z9i s) hs ⟨(((0,([],())):z01),(s,())),by simp,h⟩ fun hi=>by
  unfold z9i
  repeat' first|exact rk|apply_assumption|refine rb ?_ ?_|refine rl hi ?_|refine ra ?_|(refine rp ?_;intro _ _ _ _)|(refine re ?_;intro _)
 exact⟨y,z,zvz _ _ _ hv,hq.1,hq.2⟩
structure SkD (s:TSk):Prop where
 rels:s.1.1.length<=1000
 few:s.1.2.1.length<=100
 row:∀ f∈s.1.2.1,f.2.1.length<=3
 terms:s.2.1.length<=31
 args:∀ t∈s.2.1,t.2.2.1.length<=5
theorem SkD.of {s:TSk} (h:vSk s=true):SkD s:=by
 have hi:=z7f h
 have hr:=zbr (zlu hi.1)
 have hf:=z55 hi.1
 have ht:=z7z (z1u h).2.2
 refine⟨by omega,by omega,fun f hm=>(z2e (z59 hi.1 hm)).2.2.2.2.1,by omega,fun t ht=>?_⟩
 obtain⟨i,hi,rfl⟩:=List.mem_iff_getElem.mp ht
 exact z02e h hi
theorem SkD.sm {s:TSk} (h:SkD s):SmS s:=⟨by have:=h.rels;omega,by have:=h.few;omega,fun f hf=>by have:=h.row f hf;omega,by have:=h.terms;omega,fun t ht=>by have:=h.args t ht;omega⟩
theorem SkD.j {s:TSk} (h:SkD s):SmJ s.1:=⟨h.sm.rels,h.sm.few,h.sm.row⟩
theorem z0gf {s:TSk} {ds:List z0b} (h:(skc s ds).2=true):vSk (skc s ds).1=true:=by
 by_cases h':(vSk s&&z3c s.1.1 ds)=true
 . cases e:z9t ds 31 s with
   |inl r=>rw[zz4 h' e]at h;simp at h
   | inr y=>
     rw[z00w h' e]
     rw[Bool.and_eq_true]at h'
     exact(zjo h'.1 e).sk
 . rw[z027 (by simpa using h')]at h;simp at h
theorem SkD.inst {s:TSk} {x:z0n} (h:SkD s) (h1:x.1=s.1.1) (h2:x.2.1.length<=100) (h3:∀ f∈x.2.1,f.2.1.length<=3):SkD (x,s.2):=⟨by show x.1.length<=1000;rw[h1];exact h.rels,h2,h3,h.terms,h.args⟩
theorem SkD.ins {s:TSk} {f:z01} (h:SkD s):SkD ((insF s.1 f).1,s.2):=by
 unfold insF
 split
 . rename_i hv
   simp only[Bool.and_eq_true]at hv
   have hv:=hv.2.2
   have hl:=z55 hv
   have hr:=fun f hm=>(z2e (z59 hv (f:=f) hm)).2.2.2.2.1
   exact h.inst rfl (by simp only at hl ⊢;omega) hr
 . exact h
theorem z0cv {x:z0n} {m:Nat} (h:SmX2 m x) (hm:m<=50):∃ s b,z92 x s b/\SkD s/\s.1.2.1.length<=m/\s.2.1.length=0:=by
 have hl:x.1.length<=1000:=by rw[h.1];decide
 have h2:=h.2.1
 have hb:zj2 x (z3l x&&((zfk x).length:Int) == 0):=z00i _ _ (by
  unfold zqc
  refine⟨_,z3y,z1k (fun h=>⟨_,zcl,z0h fun _=>by rw[h];rfl⟩) (fun h=>by rw[h];rfl)⟩)
 cases hv:(z3l x&&((zfk x).length:Int) == 0)with
 | false=>
   refine⟨(([],([],())),([],())),false,zdg _ _ _ ?_,⟨by simp,by simp,fun f hf=>by simp at hf,by simp,fun f hf=>by simp at hf⟩,by simp,rfl⟩
   unfold z93
   refine⟨_,hb,?_⟩
   rw[hv]
   exact bcT rfl
 | true=>
   refine⟨(x,([],())),true,zdg _ _ _ ?_,⟨hl,by simp only;omega,fun f hf=>by have:=h.2.2 f hf;omega,by simp,fun f hf=>by simp at hf⟩,h2,rfl⟩
   unfold z93
   refine⟨_,hb,?_⟩
   rw[hv]
   exact bcF ⟨x,zgh (by omega) (by omega) (fun f hf=>by have:=h.2.2 f hf;omega),rfl⟩
theorem z01a {s:TSk} {d:z0b} {i:Nat} {f t:z01}:∀ {l:List (List Int)} {out:List z01},t∈l.foldl (derH s d i f) out↔t∈out\/∃ b∈l,zr5 s.2.1 d i b f=true/\t=((i:Int),(b,()))
 |[],out=>by simp
 | b::l,out=>by
   rw[List.foldl_cons,z01a]
   unfold derH
   constructor
   . rintro (h|⟨c,hc,h⟩)
     . split at h
       . rename_i hm
         rcases List.mem_append.mp h with h|h
         . exact .inl h
         . exact .inr ⟨b,by simp,hm,List.mem_singleton.mp h⟩
       . exact .inl h
     . exact .inr ⟨c,by simp[hc],h⟩
   . rintro (h|⟨c,hc,h1,h2⟩)
     . left
       split
       . exact List.mem_append_left _ h
       . exact h
     . rcases List.mem_cons.mp hc with rfl|hc
       . left
         rw[if_pos h1]
         exact List.mem_append_right _ (List.mem_singleton.mpr h2)
       . exact .inr ⟨c,hc,h1,h2⟩
theorem derG_mem {s:TSk} {ds:List z0b} {f t:z01}:∀ {l:List Nat} {out:List z01},t∈l.foldl (derG s ds f) out↔t∈out\/∃ i∈l,∃ b∈zd9 s.1 (ds.getD i z7h).1,zr5 s.2.1 (ds.getD i z7h) i b f=true/\t=((i:Int),(b,()))
 |[],out=>by simp
 | i::l,out=>by
   rw[List.foldl_cons,derG_mem]
   unfold derG
   rw[z01a]
   constructor
   . rintro ((h|h)|⟨j,hj,h⟩)
     . exact .inl h
     . exact .inr ⟨i,by simp,h⟩
     . exact .inr ⟨j,by simp[hj],h⟩
   . rintro (h|⟨j,hj,h⟩)
     . exact .inl (.inl h)
     . rcases List.mem_cons.mp hj with rfl|hj
       . exact .inl (.inr h)
       . exact .inr ⟨j,hj,h⟩
theorem zzn {s:TSk} {ds:List z0b} {f t:z01} (h:t∈z6j s ds f):(vSk s=true/\z3c s.1.1 ds=true/\f∈s.1.2.1)/\∃ i:Nat,∃ hi:i<ds.length,∃ b∈zd9 s.1 ds[i].1,zr5 s.2.1 ds[i] i b f=true/\t=((i:Int),(b,())):=by
 unfold z6j at h
 split at h
 . rename_i hc
   simp only[Bool.and_eq_true,decide_eq_true_eq]at hc
   refine⟨⟨hc.1,hc.2.1,hc.2.2⟩,?_⟩
   rcases derG_mem.mp h with h|⟨i,hi,b,hb,h1,h2⟩
   . simp at h
   . have hi:=List.mem_range.mp hi
     rw[z16 hi]at hb h1
     exact⟨i,hi,b,hb,h1,h2⟩
 . simp at h
theorem zxd {s:TSk} {ds:List z0b} {i:Nat} (hi:i<s.1.2.1.length):∀ {k:Nat},1<=(zn1 s ds k).getD i 0->∃ m:Nat,m<k/\(zn1 s ds k).getD i 0=((m+1:Nat):Int)/\zv5 s ds (zn1 s ds m) i=true
 | 0,h=>by
   rw[zn1,zkv hi]at h
   split at h<;>omega
 | k+1,h=>by
   rw[zn1,zbi (by rw[z9c];exact hi)]at h ⊢
   split at h
   . rename_i hc
     rw[if_pos hc]
     exact⟨k,Nat.lt_succ_self k,rfl,hc⟩
   . rename_i hc
     rw[if_neg hc]
     obtain⟨m,h1,h2,h3⟩:=zxd hi h
     exact⟨m,Nat.lt_succ_of_lt h1,h2,h3⟩
theorem zvf {s:TSk} {ds:List z0b} {i:Nat} (hi:i<s.1.2.1.length) {k:Nat} (h:0<=(zn1 s ds k).getD i 0):∀ m,(zn1 s ds (k+m)).getD i 0=(zn1 s ds k).getD i 0
 |0=>rfl
 | m+1=>by
   rw[<-Nat.add_assoc,zn1,zbi (by rw[z9c];exact hi),zvf hi h m,if_neg]
   unfold zv5
   rw[zvf hi h m,decide_eq_false (by omega)]
   simp
theorem z01h {s:TSk} {ds:List z0b} {i:Nat} (hi:i<s.1.2.1.length):∀ {k:Nat},(zn1 s ds k).getD i 0<=k
 | 0=>by
   rw[zn1,zkv hi]
   split<;>omega
 | k+1=>by
   rw[zn1,zbi (by rw[z9c];exact hi)]
   have:=z01h (s:=s) (ds:=ds) hi (k:=k)
   split<;>omega
theorem z0dz {s:TSk} {ds:List z0b} {f:z01} (h:¬ lvl s ds f<1):∃ t∈z6j s ds f,∀ a∈(ds.getD t.1.toNat z7h).1,0<=lvl s ds (inst a t.2.1)/\lvl s ds (inst a t.2.1)<lvl s ds f:=by
 obtain⟨h1,h2,h3⟩:=z0eq (s:=s) (ds:=ds) (f:=f) (by omega)
 have el:∀ {g:z01},g∈s.1.2.1->lvl s ds g=(levs s ds).getD (place s.1.2.1 g).toNat 0:=fun {g} hg=>by unfold lvl;rw[h1,h2,decide_eq_true hg];rfl
 obtain⟨p,e,hp,hpf⟩:=zks h3
 rw[el h3,e,Int.toNat_natCast]at h ⊢
 unfold levs at h ⊢
 obtain⟨m,k1,k2,k3⟩:=zxd hp (ds:=ds) (k:=s.1.2.1.length) (by omega)
 unfold zv5 at k3
 rw[Bool.and_eq_true]at k3
 have k4:=k3.2
 unfold knF at k4
 rw[z16 hp,hpf]at k4
 obtain⟨t,ht,hk⟩:=List.any_eq_true.mp k4
 refine⟨t,ht,fun a ha=>?_⟩
 unfold knS zwk at hk
 have:=List.all_eq_true.mp hk a ha
 rw[Bool.and_eq_true,decide_eq_true_eq,decide_eq_true_eq]at this
 obtain⟨hin,hge⟩:=this
 obtain⟨q,eq,hq,_⟩:=zks hin
 rw[el hin,eq,Int.toNat_natCast]
 rw[eq,Int.toNat_natCast]at hge
 unfold levs
 obtain⟨r,hr⟩:∃ r,s.1.2.1.length=m+r:=⟨s.1.2.1.length - m,by omega⟩
 have hst:=zvf hq hge r
 rw[<-hr]at hst
 have:=z01h (s:=s) (ds:=ds) hq (k:=m)
 rw[hst,k2]
 constructor<;>omega
theorem z5j {α σ:Type} {g:List σ->α->List σ} (hm:∀ s a,∀ e∈s,e∈g s a) {e:σ}:∀ {l:List α} {s:List σ},(e∈s\/∃ a∈l,∀ s,e∈g s a)->e∈l.foldl g s
 | [],s,h=>by
   rcases h with h|⟨a,ha,_⟩
   . exact h
   . cases ha
 | a::l,s,h=>by
   rw[List.foldl_cons]
   refine z5j hm ?_
   rcases h with h|⟨b,hb,h⟩
   . exact .inl (hm s a e h)
   . rcases List.mem_cons.mp hb with rfl|hb
     . exact .inl (h s)
     . exact .inr ⟨b,hb,h⟩
theorem zwf (s:List z0d) (x:z0d):∀ e∈s,e∈zxe s x:=fun e he=>by
 unfold zxe
 split
 . exact he
 . exact List.mem_append_left _ he
theorem z0bl (s:List z0d) (x:z0d):x∈zxe s x:=by
 unfold zxe
 split
 . assumption
 . simp
theorem zu2 (f:Int) (b:Bool) (ps:List Int) (s:List z0d):∀ e∈s,e∈ed f b ps s:=fun _ he=>z5j (fun s _=>zwf s _) (.inl he)
theorem z0bx {f:Int} {b:Bool} {ps:List Int} {t:Int} (ht:t∈ps) (s:List z0d):((f,(t,(b,()))):z0d)∈ed f b ps s:=z5j (fun s _=>zwf s _) (.inr ⟨t,ht,fun s=>z0bl s _⟩)
theorem zsl (l:List z0m) (d:z0b) (v:Int) (s:List z0d) (f:Int):∀ e∈s,e∈zqe l d v s f:=fun _ he=>z5j (fun s _=>zu2 _ _ _ s) (.inl (zu2 _ _ _ _ _ he))
theorem z07t {l:List z0m} {d:z0b} {v f t:Int} (ht:t∈places l d.2.1 v) (s:List z0d):((f,(t,(false,()))):z0d)∈zqe l d v s f:=z5j (fun s _=>zu2 _ _ _ s) (.inl (z0bx ht _))
theorem z046 {l:List z0m} {d:z0b} {v f t n:Int} (hn:n∈exV d) (ht:t∈places l d.2.1 n) (s:List z0d):((f,(t,(true,()))):z0d)∈zqe l d v s f:=z5j (fun s _=>zu2 _ _ _ s) (.inr ⟨n,hn,fun s=>z0bx ht s⟩)
theorem zx7 (l:List z0m) (d:z0b) (s:List z0d) (v:Int):∀ e∈s,e∈gVar l d s v:=fun _ he=>z5j (fun s f=>zsl l d v s f) (.inl he)
theorem z05q (l:List z0m) (s:List z0d) (d:z0b):∀ e∈s,e∈gDep l s d:=fun _ he=>z5j (fun s v=>zx7 l d s v) (.inl he)
theorem zyw {l:List z0m} {ds:List z0b} {d:z0b} {v f:Int} {e:z0d} (hv:ze2 l ds=true) (hd:d∈ds) (hu:v∈frV d) (hf:f∈places l d.1 v) (h:∀ s,e∈zqe l d v s f):e∈za8 l ds:=by
 unfold za8
 rw[if_pos hv]
 exact z5j (fun s d=>z05q l s d) (.inr ⟨d,hd,fun s=>z5j (fun s v=>zx7 l d s v) (.inr ⟨v,hu,fun s=>z5j (fun s f=>zsl l d v s f) (.inr ⟨f,hf,h⟩)⟩)⟩)
theorem zw7 {l:List z0m} {ats:List z01} {v:Int} {a:z01} {j:Nat} (ha:a∈ats) (hj:j<a.2.1.length) (h:a.2.1.getD j 0=v):z9p l a.1 j∈places l ats v:=by
 have hm:∀(a:z01) (s:List Int) (j:Nat),∀ e∈s,e∈placeG l a v s j:=fun a s j e he=>by
  unfold placeG
  split
  . exact List.mem_append_left _ he
  . exact he
 have hA:∀(s:List Int) (a:z01),∀ e∈s,e∈zfj l v s a:=fun s a e he=>z5j (fun s j=>hm a s j) (.inl he)
 refine z5j hA (.inr ⟨a,ha,fun s=>z5j (fun s j=>hm a s j) (.inr ⟨j,List.mem_range.mpr hj,fun s=>?_⟩)⟩)
 unfold placeG
 rw[h]
 simp
theorem z07e {n:Int} {es:List z0d} (hE:InE n es) (hA:Acy n es) {e:z0d} (he:e∈es):(rank n.toNat es).getD e.1.toNat 0+(if e.2.2.1 then 1 else 0)<=(rank n.toNat es).getD e.2.1.toNat 0:=by
 have hfix:=z01y hE hA
 have hinv:zxa n es (rank n.toNat es):=zfx hE hA _
 generalize rank n.toNat es=r at hfix hinv ⊢
 refine Classical.byContradiction fun hn=>?_
 obtain⟨l1,l2,hl⟩:=List.append_of_mem he
 have m1:∀ e∈l1,e∈es:=fun e h=>by rw[hl];simp[h]
 have m2:∀ e∈l2,e∈es:=fun e h=>by rw[hl];simp[h]
 have h1:=zkb hE hA (l:=l1) (r:=r) m1 hinv
 have hi1:=zk0 hE hA hinv l1 m1
 have e1:z3m es r=l2.foldl z3o (z3o (l1.foldl z3o r) e):=by
  have:z3m (l1++e::l2) r=l2.foldl z3o (z3o (l1.foldl z3o r) e):=by unfold z3m;rw[List.foldl_append,List.foldl_cons]
  rw[<-hl]at this;exact this
 have h2:=(zkb hE hA (l:=l2) (r:=z3o (l1.foldl z3o r) e) m2 (zr0 hE hA he hi1)).2
 rw[<-e1,hfix]at h2
 rcases h1.1 with h|h
 . rw[h]at h2
   have:=z07s hE hinv he (by omega)
   omega
 . have:=z0bh hE hi1 he
   omega
def rkq (l:List z0m) (ds:List z0b) (q:Int):Int:=(zh7 l ds).getD q.toNat 0
theorem zhc {l:List z0m} {ds:List z0b} (hw:wac l ds=true) (q:Int):0<=rkq l ds q:=by
 unfold rkq zh7
 rw[if_pos hw]
 have hinv:zxa (zia l) (za8 l ds) (rank (zia l).toNat (za8 l ds)):=zfx zk2 (zvc hw) _
 by_cases hq:q.toNat<(zia l).toNat
 . exact(hinv.2 _ hq).1
 . rw[List.getD_eq_getElem?_getD,List.getElem?_eq_none (by rw[hinv.1];omega)]
   exact Int.le_refl 0
theorem z01f {l:List z0m} {ds:List z0b} (hw:wac l ds=true) {e:z0d} (he:e∈za8 l ds):rkq l ds e.1+(if e.2.2.1 then 1 else 0)<=rkq l ds e.2.1:=by
 unfold rkq zh7
 rw[if_pos hw]
 exact z07e zk2 (zvc hw) he
theorem z045 {ts:List z0c} (hA:ze1 ts=true) {n:Nat} {t:z0c} (h:ts[n]? = some t) {R:Int} (h0:0<=R) (hR:∀ w∈t.2.2.1,z6d ts w+1<=R):z6d ts (-1 - (n:Int))<=R:=by
 obtain⟨hn,e⟩:=List.getElem?_eq_some_iff.mp h
 have h30:=z7z hA
 have hnul:z3p (-1 - (n:Int))=true:=isNul_iff.mpr ⟨by omega,by omega⟩
 have hno:(z2h (-1 - (n:Int))).toNat=n:=by unfold z2h;rw[if_pos hnul];omega
 have ha:=zp6 hA hn
 have e2:z6d ts (-1 - (n:Int))=(nst ts).getD n 0:=by
  unfold z6d
  rw[if_pos hnul,hno]
 rw[e2,z0by hn ha,e]
 split
 . exact h0
 . rename_i hne
   have:mx (fun k=>(nst ts).getD k.toNat 0) (z1d t.2.2.1)<=R - 1:=by
    refine mx_le.mpr ⟨?_,fun k hk=>?_⟩
    . obtain⟨w,hw⟩:=List.exists_mem_of_ne_nil _ hne
      have:=hR w hw
      have:=(zxq ts w).1
      omega
    . obtain⟨k1,k2,k3⟩:=mem_nulls.mp hk
      have:=hR _ k3
      have hn2:z3p (-1 - k)=true:=isNul_iff.mpr ⟨by omega,by omega⟩
      have e3:z6d ts (-1 - k)=(nst ts).getD k.toNat 0:=by
       unfold z6d z2h
       rw[if_pos hn2,if_pos hn2,show -1 - (-1 - k)=k by omega]
      rw[e3]at this
      show(nst ts).getD k.toNat 0<=R - 1
      omega
   omega
theorem zpt {ts r:List z0c} {v:Int} (hv:z3p v=true->z2h v<ts.length):z6d (ts++r) v=z6d ts v:=by
 unfold z6d
 split
 . rename_i hn
   obtain⟨r',hr⟩:=z07b ts r
   have:=hv hn
   have:=zg2 v
   rw[hr,zqa (by rw[zgf];omega)]
 . rfl
def lowF (l:List z0m) (ds:List z0b) (ts:List z0c) (f:z01):Prop:=∀ j,j<f.2.1.length->z6d ts (f.2.1.getD j 0)<=rkq l ds (z9p l f.1 j)
def LowS (ds:List z0b) (s:TSk):Prop:=∀ f∈s.1.2.1,lowF s.1.1 ds s.2.1 f
theorem zq2 {s:TSk} {ds:List z0b} (hw:wac s.1.1 ds=true) (hv:vSk s=true) (h:LowS ds s):z8i s ds=true:=by
 unfold z8i
 rw[hw,hv,Bool.true_and,Bool.true_and]
 refine List.all_eq_true.mpr fun p _=>decide_eq_true ?_
 have hr:=zhc (l:=s.1.1) (ds:=ds) hw (p:Int)
 have e:(zh7 s.1.1 ds).getD p 0=rkq s.1.1 ds (p:Int):=rfl
 rw[e]
 unfold mdep
 rw[hv,if_pos rfl]
 refine zb7 (I:=fun m=>m<=rkq s.1.1 ds (p:Int)) (fun m f hf hm=>?_) hr
 unfold mdF
 refine zb7 (I:=fun m=>m<=rkq s.1.1 ds (p:Int)) (fun m j hj hm=>?_) hm
 unfold mdG
 split
 . rename_i hp
   have hp:z9p s.1.1 f.1 j=(p:Int):=by simpa using hp
   have:=h f hf j (List.mem_range.mp hj)
   rw[hp]at this
   unfold zae
   split<;>omega
 . exact hm
theorem z04c {ts:List z0c} {t:z0c} (h:t∈ts):∃ n:Nat,z9w ts t=n/\ts[n]? = some t:=by
 have h1:z05 (fun x=>decide (x=t)) ts<ts.length:=firstAt_any.mpr (by rw[zef];simpa using h)
 refine⟨_,by unfold z9w;rw[if_pos h1],?_⟩
 rw[List.getElem?_eq_getElem h1]
 have:ts[z05 (fun x=>decide (x=t)) ts]=t:=by simpa using z7q h1
 rw[this]
theorem z0ca {d:z0b} {i:Int} {b:List Int}:∀ {l:List Int} {st:List z0c×List Int},(∀ v∈l,0<=v/\v<5)->st.2.length=5->
  ∀ k:Nat,k<5->(k:Int)∈l->∃ n:Nat,iAt (l.foldl (hdG d i b) st).2 k = -1 - (n:Int)/\(l.foldl (hdG d i b) st).1[n]? = some (zhg d i b k)
 |[],st,_,_=>fun k _ hk=>by simp at hk
 | v::l,st,hv,h5=>fun k hk hm=>by
   rw[List.foldl_cons]
   have hvr:=hv v (by simp)
   have hvl:∀ u∈l,0<=u/\u<5:=fun u hu=>hv u (by simp[hu])
   have h5':(hdG d i b st v).2.length=5:=by rw[z02k];exact h5
   by_cases hkl:(k:Int)∈l
   . exact z0ca hvl h5' k hk hkl
   . have hkv:(k:Int)=v:=(List.mem_cons.mp hm).resolve_right hkl
     have hset:∃ n:Nat,(hdG d i b st v).2=st.2.set v.toNat (-1 - (n:Int))/\(hdG d i b st v).1[n]? = some (zhg d i b v):=by
      unfold hdG
      split
      . rename_i hm
        obtain⟨n,e1,e2⟩:=z04c hm
        exact⟨n,by rw[e1],e2⟩
      . exact⟨st.1.length,rfl,by simp⟩
     obtain⟨n,e1,e2⟩:=hset
     obtain⟨r,hr⟩:=zpg (d:=d) (i:=i) (b:=b) (l:=l) (s:=hdG d i b st v)
     have q2:=((zhx (d:=d) (i:=i) (b:=b) (l:=l) (st:=hdG d i b st v) hvl h5').2 k hk).2 hkl
     refine⟨n,?_,?_⟩
     . rw[q2,e1,zgo (by omega),if_pos (by omega)]
     . rw[hr,hkv]
       have hn:=(List.getElem?_eq_some_iff.mp e2).1
       rw[List.getElem?_append_left hn]
       exact e2
section
variable {s:TSk} {ds:List z0b} {d:z0b} {i:Nat} {b:List Int}
theorem FireOk.back (h:FireOk s ds d i b) (hb:∀ f∈s.1.2.1,(∃ a∈d.1,f=Go.V.inst a b)->lowF s.1.1 ds s.2.1 f) {u:Int} (hu:u∈vars d.1) :
  (∃ q∈places s.1.1 d.1 u,z6d s.2.1 (iAt b u.toNat)<=rkq s.1.1 ds q)/\(z3p (iAt b u.toNat)=true->z2h (iAt b u.toNat)<s.2.1.length):=by
 obtain⟨hd,_,_⟩:=z8e h.pl h.lt.2
 have hs:=z56 hd
 have hr:=zdw hs.2.2.1 hu
 have eu:((u.toNat:Nat):Int)=u:=by omega
 have hu':((u.toNat:Nat):Int)∈vars d.1:=by rw[eu];exact hu
 have hv:=zub h.tF hu'
 have hn:=(z1u h.sk).2.1
 refine⟨?_,fun hz=>by have:=hv.2 hz;omega⟩
 obtain⟨a,ha,hua⟩:=mem_vars.mp hu'
 rw[eu]at hua
 obtain⟨j,hj,e⟩:=List.mem_iff_getElem.mp hua
 have h1:=List.all_eq_true.mp h.tF a ha
 rw[Bool.and_eq_true,decide_eq_true_eq]at h1
 obtain⟨i1,i2,_⟩:=z081 h1.1
 have hl:=hb _ h1.2 ⟨a,ha,rfl⟩ j (by rw[i2];simpa using hj)
 have e2:(Go.V.inst a b).2.1.getD j 0=iAt b u.toNat:=by
  rw[i2,z16 (by simpa using hj),List.getElem_map,e,if_pos (by omega)]
 rw[e2,i1]at hl
 exact⟨_,zw7 ha hj (by rw[z16 hj];exact e),hl⟩
theorem FireOk.low (h:FireOk s ds d i b) (hw:wac s.1.1 ds=true) (hA:ze1 (hdS s.2.1 d i b).1=true) (hb:∀ f∈s.1.2.1,(∃ a∈d.1,f=Go.V.inst a b)->lowF s.1.1 ds s.2.1 f)
  {f:z01} (hf:f∈zdd d (hdS s.2.1 d i b).2):lowF s.1.1 ds (hdS s.2.1 d i b).1 f:=by
 obtain⟨hd,he,_⟩:=z8e h.pl h.lt.2
 have hs:=z56 hd
 have hvd:ze2 s.1.1 ds=true:=by unfold wac at hw;rw[Bool.and_eq_true]at hw;exact hw.1
 rw[zj6]at hf
 obtain⟨a,ha,rfl⟩:=List.mem_map.mp hf
 obtain⟨hva,hsrc⟩:=ztk hd he a ha
 have hrow:=zjw hva
 obtain⟨hl1,_,_⟩:=h.hdLen
 obtain⟨_,e⟩:=z07j (a:=a) (c:=(hdS s.2.1 d i b).2) (fun t ht=>(h.vals ha ht).1) (fun t ht=>by have:=(hrow.2 t ht).2;omega)
 rw[e]
 intro j hj
 have hja:j<a.2.1.length:=by simpa using hj
 rw[z16 hj]
 simp only[List.getElem_map]
 have htr:=hrow.2 _ (List.getElem_mem hja)
 obtain⟨r,happ⟩:=zpg (d:=d) (i:=i) (b:=b) (l:=exV d) (s:=(s.2.1,b))
 have happ:(hdS s.2.1 d i b).1=s.2.1++r:=happ
 by_cases h0:0<=a.2.1[j]
 . rw[if_pos h0]
   have et:((a.2.1[j].toNat:Nat):Int)=a.2.1[j]:=by omega
   have hpl:z9p s.1.1 a.1 j∈places s.1.1 d.2.1 a.2.1[j]:=zw7 ha hja (z16 hja)
   have htv:a.2.1[j]∈vars d.2.1:=by
    rw[<-et,mem_vars]
    exact⟨a,ha,by rw[et];exact List.getElem_mem hja⟩
   by_cases hx:a.2.1[j]∈exV d
   . obtain⟨n,e1,e2⟩:=z0ca (d:=d) (i:=i) (b:=b) (l:=exV d) (st:=(s.2.1,b)) (fun v hv=>z9h hd hv) h.b5 a.2.1[j].toNat (by omega) (by rw[et];exact hx)
     have e1:iAt (hdS s.2.1 d i b).2 a.2.1[j].toNat = -1 - (n:Int):=e1
     have e2:(hdS s.2.1 d i b).1[n]? = some (zhg d i b ((a.2.1[j].toNat:Nat):Int)):=e2
     rw[e1]
     refine z045 hA e2 (zhc hw _) fun w hw'=>?_
     have hw':w∈z6z d b:=hw'
     rw[ztn]at hw'
     obtain⟨u,hu,rfl⟩:=List.mem_map.mp hw'
     have hub:u∈vars d.1:=of_decide_eq_true (List.mem_filter.mp hu).2
     obtain⟨⟨q,hq,hle⟩,hnl⟩:=h.back hb hub
     have hedge:=z01f hw (zyw (e:=(q,(z9p s.1.1 a.1 j,(true,())))) hvd h.lt.2 hu hq (z046 hx hpl))
     have hedge:rkq s.1.1 ds q+1<=rkq s.1.1 ds (z9p s.1.1 a.1 j):=hedge
     show z6d (hdS s.2.1 d i b).1 (iAt b u.toNat)+1<=_
     rw[happ,zpt hnl]
     omega
   . have e1:iAt (hdS s.2.1 d i b).2 a.2.1[j].toNat=iAt b a.2.1[j].toNat:=
      ((zhx (d:=d) (i:=i) (b:=b) (l:=exV d) (st:=(s.2.1,b)) (fun v hv=>z9h hd hv) h.b5).2 a.2.1[j].toNat (by omega)).2 (by rw[et];exact hx)
     have htb:a.2.1[j]∈vars d.1:=by
      refine Classical.byContradiction fun hn=>hx ?_
      unfold exV
      exact List.mem_filter.mpr ⟨htv,by simp[hn]⟩
     have hfr:a.2.1[j]∈frV d:=List.mem_filter.mpr ⟨htv,by simpa using htb⟩
     obtain⟨⟨q,hq,hle⟩,hnl⟩:=h.back hb htb
     have hedge:=z01f hw (zyw (e:=(q,(z9p s.1.1 a.1 j,(false,())))) hvd h.lt.2 hfr hq (z07t hpl))
     have hedge:rkq s.1.1 ds q+0<=rkq s.1.1 ds (z9p s.1.1 a.1 j):=hedge
     rw[e1,happ,zpt hnl]
     omega
 . rw[if_neg h0]
   have hn:z3p (-1 - a.2.1[j])=false:=by
    rw[Bool.eq_false_iff]
    intro hn
    have:=isNul_iff.mp hn
    omega
   unfold z6d
   rw[hn]
   exact zhc hw _
theorem z09f (h:FireOk s ds d i b) (hw:wac s.1.1 ds=true) (hv:vSk (zag s d i b)=true) (hl:LowS ds s):LowS ds (zag s d i b):=by
 intro f hf
 have hA:ze1 (hdS s.2.1 d i b).1=true:=(z1u hv).2.2
 rcases List.mem_append.mp (facS_mem.mp hf)with hf|hf
 . obtain⟨r,happ⟩:=zpg (d:=d) (i:=i) (b:=b) (l:=exV d) (s:=(s.2.1,b))
   have happ:(hdS s.2.1 d i b).1=s.2.1++r:=happ
   intro j hj
   have hn:=(z1u h.sk).2.1
   show z6d (hdS s.2.1 d i b).1 _<=_
   rw[happ,zpt fun hz=>?_]
   . exact hl f hf j hj
   . have:=zjc hf (v:=f.2.1.getD j 0) (by rw[z16 hj];exact List.getElem_mem hj) hz
     omega
 . exact h.low hw hA (fun f hf _=>hl f hf) hf
end
theorem runI {α:Type} {g:TSk->α->Unit ⊕ TSk} {I:TSk->Prop}:∀ {l:List α} (_:∀ st,∀ a∈l,∀ st',I st->g st a = .inr st'->I st') {st st':TSk},I st->zab g l st = .inr st'->I st'
 |[],_,st,st',hi,h=>by simp only[zab,Sum.inr.injEq]at h;subst h;exact hi
 | a::l,hg,st,st',hi,h=>by
   simp only[zab]at h
   cases e:g st a with
   |inl _=>rw[e]at h;simp at h
   | inr s1=>
     rw[e]at h
     exact runI (fun st b hb=>hg st b (by simp[hb])) (hg st a (by simp) s1 hi e) h
theorem z0ar {ds:List z0b} {st st':TSk} {i:Nat} (hi:i<ds.length) (hv:vSk st=true) (hp:z3c st.1.1 ds=true) (hw:wac st.1.1 ds=true) (hl:LowS ds st) (h:depE ds st i = .inr st'):LowS ds st':=by
 unfold depE at h
 refine(runI (I:=fun x=>Goes st x/\LowS ds x) (fun x b hb y hI hr=>?_) ⟨.refl hv,hl⟩ h).2
 obtain⟨hg,hlx⟩:=hI
 have hfire:=z063 hi hp hg hb
 have hgo:=zjn hg.sk hr
 refine⟨hg.trans hgo,?_⟩
 unfold zom at hr
 split at hr
 . rename_i hn
   obtain rfl:=Sum.inr.inj hr
   exact z09f hfire (by rw[hg.rels];exact hw) hn hlx
 . cases hr
theorem z03a {ds:List z0b} {st st':TSk} (hv:vSk st=true) (hp:z3c st.1.1 ds=true) (hw:wac st.1.1 ds=true) (hl:LowS ds st) (h:zmn ds st = .inr st'):LowS ds st':=by
 unfold zmn at h
 refine(runI (I:=fun x=>Goes st x/\LowS ds x) (fun x i hi y hI hr=>?_) ⟨.refl hv,hl⟩ h).2
 obtain⟨hg,hlx⟩:=hI
 exact⟨hg.trans (zpz hg.sk hr),z0ar (List.mem_range.mp hi) hg.sk (by rw[hg.rels];exact hp) (by rw[hg.rels];exact hw) hlx hr⟩
theorem zsi {ds:List z0b}:∀ {n:Nat} {st st':TSk},vSk st=true->z3c st.1.1 ds=true->wac st.1.1 ds=true->LowS ds st->z9t ds n st = .inr st'->LowS ds st'
 |0,st,st',_,_,_,hl,h=>by simp only[z9t,Sum.inr.injEq]at h;subst h;exact hl
 | n+1,st,st',hv,hp,hw,hl,h=>by
   simp only[z9t]at h
   cases e:zmn ds st with
   |inl _=>rw[e]at h;simp at h
   | inr s1=>
     rw[e]at h
     have hg:=zjf hv e
     have h1:=z03a hv hp hw hl e
     simp only at h
     split at h
     . obtain rfl:=Sum.inr.inj h;exact h1
     . exact zsi hg.sk (by rw[hg.rels];exact hp) (by rw[hg.rels];exact hw) h1 h
theorem z0cl {s:TSk} {ds:List z0b} (hw:wac s.1.1 ds=true) (hl:LowS ds s) (h:(skc s ds).2=true):LowS ds (skc s ds).1/\(skc s ds).1.1.1=s.1.1:=by
 by_cases h':(vSk s&&z3c s.1.1 ds)=true
 . cases e:z9t ds 31 s with
   |inl r=>rw[zz4 h' e]at h;simp at h
   | inr y=>
     rw[z00w h' e]
     rw[Bool.and_eq_true]at h'
     exact⟨zsi h'.1 h'.2 hw hl e,(zjo h'.1 e).rels⟩
 . rw[z027 (by simpa using h')]at h;simp at h
theorem z02r {s:TSk} {ds:List z0b} {i:Nat} (hi:i<s.1.2.1.length):∀ {k:Nat},(zn1 s ds k).getD i 0=0->srcI s i=true
 | 0,h=>by
   rw[zn1,zkv hi]at h
   split at h
   . assumption
   . omega
 | k+1,h=>by
   rw[zn1,zbi (by rw[z9c];exact hi)]at h
   split at h
   . omega
   . exact z02r hi h
theorem z06k {s:TSk} {ds:List z0b} (hw:wac s.1.1 ds=true) (h:zyn s ds=true):LowS ds s:=by
 unfold zyn at h
 simp only[Bool.and_eq_true]at h
 obtain⟨hv,hp,hlev⟩:=h
 have el:∀ {g:z01},g∈s.1.2.1->lvl s ds g=(levs s ds).getD (place s.1.2.1 g).toNat 0:=fun {g} hg=>by unfold lvl;rw[hv,hp,decide_eq_true hg];rfl
 have hge:∀ {g:z01},g∈s.1.2.1->0<=lvl s ds g:=fun {g} hg=>by
  obtain⟨p,e,hpl,_⟩:=zks hg
  rw[el hg,e,Int.toNat_natCast]
  have hl:(levs s ds).length=s.1.2.1.length:=z9c s ds _
  have hpl':p<(levs s ds).length:=by omega
  rw[z16 hpl']
  refine Classical.byContradiction fun hn=>?_
  have:((levs s ds).any fun x=>decide (x<0))=true:=List.any_eq_true.mpr ⟨_,List.getElem_mem hpl',decide_eq_true (by omega)⟩
  rw[this]at hlev;simp at hlev
 have key:∀ n:Nat,∀ f∈s.1.2.1,lvl s ds f<n->lowF s.1.1 ds s.2.1 f:=by
  intro n
  induction n with
  |zero=>intro f hf hn;have:=hge hf;omega
  | succ n ih=>
    intro f hf hn
    by_cases h1:lvl s ds f<1
    . have h0:lvl s ds f=0:=by have:=hge hf;omega
      obtain⟨p,e,hpl,hpf⟩:=zks hf
      rw[el hf,e,Int.toNat_natCast]at h0
      have hsrc:=z02r hpl h0
      unfold srcI at hsrc
      rw[z16 hpl,hpf]at hsrc
      have hno:=zx0 (z7f hv).1 hf hsrc
      intro j hj
      have:z3p (f.2.1.getD j 0)=false:=by
       rw[Bool.eq_false_iff]
       intro hz
       rw[z16 hj]at hz
       have h40:=isNul_iff.mp hz
       have hm:(-1 - f.2.1[j])∈zuk f:=by
        unfold zuk
        rw[mem_sset]
        exact mem_nulls.mpr ⟨by omega,by omega,by rw[show -1 - (-1 - f.2.1[j])=f.2.1[j] by omega];exact List.getElem_mem hj⟩
       rw[hno]at hm;cases hm
      unfold z6d
      rw[this]
      exact zhc hw _
    . obtain⟨t,ht,hlow⟩:=z0dz h1
      obtain⟨_,i,hi,b,hb,hm,rfl⟩:=zzn ht
      obtain⟨b5,tB,tF⟩:=ztg hb
      have hfire:FireOk s ds ds[i] i b:=⟨hv,hp,List.getElem?_eq_getElem hi,b5,tB,tF⟩
      rw[z0aa,Bool.and_eq_true,decide_eq_true_eq,decide_eq_true_eq]at hm
      have hall:=zzu hm.1
      have e:(hdS s.2.1 ds[i] i b).1=s.2.1:=by
       have:hdS s.2.1 ds[i] i b=(s.2.1,(exV ds[i]).foldl (valG s.2.1 ds[i] i b) b):=zzx hall
       rw[this]
      have:=hfire.low hw (by rw[e];exact(z1u hv).2.2) (fun g hg ⟨a,ha,hga⟩=>ih g hg ?_) hm.2
      . rw[e]at this;exact this
      . subst hga
        have:=(hlow a (by rw[Int.toNat_natCast,z16 hi];exact ha)).2
        simp only at this
        omega
 intro f hf
 obtain⟨n,hn⟩:∃ n:Nat,lvl s ds f=(n:Int):=⟨(lvl s ds f).toNat,by have:=hge hf;omega⟩
 exact key (n+1) f hf (by omega)
def cntS (ts:List z0c) (n:Nat):Nat:=((List.range n).map fun(i:Nat)=>cntT ts (i:Int)).sum
theorem zxi (ts:List z0c) (n:Nat):cntS ts (n+1)=cntS ts n+cntT ts (n:Int):=by unfold cntS;rw[List.range_succ,List.map_append,List.sum_append];simp
theorem z0da (n:Nat):∀(ts:List z0c),cntS ts n=(ts.filter fun t=>decide (0<=t.1)&&decide (t.1<(n:Int))).length:=by
 induction n with
 | zero=>
   intro ts
   rw[List.filter_eq_nil_iff.mpr (fun t _=>by simp)]
   rfl
 | succ n ih=>
   intro ts
   rw[zxi,ih]
   unfold cntT
   induction ts with
   |nil=>rfl
   | cons t ts iht=>
     simp only[List.filter_cons]
     by_cases h1:t.1=(n:Int)
     . have a1:(decide (0<=t.1)&&decide (t.1<(n:Int)))=false:=by simp;omega
       have a2:(t.1 == (n:Int))=true:=by simpa using h1
       have a3:(decide (0<=t.1)&&decide (t.1<((n+1:Nat):Int)))=true:=by simp;omega
       rw[a1,a2,a3]
       simp only[Bool.false_eq_true,if_false,if_true,List.length_cons]
       omega
     . have a2:(t.1 == (n:Int))=false:=by simpa using h1
       have a3:(decide (0<=t.1)&&decide (t.1<((n+1:Nat):Int)))=(decide (0<=t.1)&&decide (t.1<(n:Int))):=by
        rw[Bool.eq_iff_iff];simp;omega
       rw[a2,a3]
       cases (decide (0<=t.1)&&decide (t.1<(n:Int)))with
       |true=>simp only[if_true,Bool.false_eq_true,if_false,List.length_cons];omega
       |false=>simpa using iht
theorem z0cq (ts:List z0c) (n:Nat):cntS ts n<=ts.length:=by rw[z0da];exact List.length_filter_le _ _
theorem z097 {s:Src} {n:Int} (h:Oks s) (h1:0<n) (h2:n<=1000000):∃ y z,z06 s n y z/\(0<=y/\y<n)/\Oks z:=by
 by_cases hn:n<=256
 . exact z2b h h1 hn
 . obtain⟨a,z1,g1,a0,hz1⟩:=zx5 h
   obtain⟨b,z2,g2,b0,hz2⟩:=zx5 hz1
   obtain⟨c,z3,g3,c0,hz3⟩:=zx5 hz2
   obtain⟨e,z4,g4,e0,hz4⟩:=zx5 hz3
   have w1:w64 (a * 16777216)=a * 16777216:=z19 (by omega) (by omega)
   have w2:w64 (b * 65536)=b * 65536:=z19 (by omega) (by omega)
   have w3:w64 (a * 16777216+b * 65536)=a * 16777216+b * 65536:=z19 (by omega) (by omega)
   have w4:w64 (c * 256)=c * 256:=z19 (by omega) (by omega)
   have w5:w64 (a * 16777216+b * 65536+c * 256)=a * 16777216+b * 65536+c * 256:=z19 (by omega) (by omega)
   have w6:w64 (a * 16777216+b * 65536+c * 256+e)=a * 16777216+b * 65536+c * 256+e:=z19 (by omega) (by omega)
   refine⟨Int.tmod (a * 16777216+b * 65536+c * 256+e) n,z4,zij _ _ _ _ ?_,⟨Int.tmod_nonneg _ (by omega),Int.tmod_lt_of_pos _ h1⟩,hz4⟩
   unfold zd8
   rw[z07f (by omega)]
   refine z09 (fun h=>absurd h hn) (fun _=>⟨a,z1,g1,b,z2,g2,c,z3,g3,e,z4,g4,?_⟩)
   rw[w1,w2,w3,w4,w5,w6]
   first|exact rfl|exact⟨by omega,rfl⟩
theorem z0fh {s:Src} {l:List (List UInt8)} (h:Oks s) (h1:0<l.length) (h2:l.length<=256):∃ y z,zec s l y z/\Oks z:=by
 obtain⟨y,z,g,hy,hz⟩:=z2b (n:=(l.length:Int)) h (by omega) (by omega)
 exact⟨_,z,zvo _ _ _ _ (z0h fun _=>⟨y,z,g,⟨hy.1,hy.2⟩,rfl⟩),hz⟩
theorem z0fz {s:Src} (h:Oks s):∃ y z,za5 s y z/\Oks z:=by
 obtain⟨a,z1,g1,hz1⟩:=z0fh (l:=[[97],[122],[],[65],[97,98],[112]]) h (by decide) (by decide)
 obtain⟨v,z2,g2,_,hz2⟩:=z2b hz1 (n:=6) (by decide) (by decide)
 obtain⟨b,z3,g3,hz3⟩:=ztf hz2 (n:=2) (by decide) (by decide)
 exact⟨_,z3,zyu _ _ _ ⟨a,z1,g1,v,z2,g2,b,z3,g3,rfl⟩,hz3⟩
theorem z09z {s:Src} (h:Oks s):∃ y z,zd4 s y z/\(y.length<=4/\∀ d∈y,SmD 2 d)/\Oks z:=by
 have hs:z71 s (fun q=>(q.1.length<=4/\∀ d∈q.1,SmD 2 d)/\Oks q.2.1):=by
  unfold z71
  obtain⟨v,z,g,hv,hz⟩:=z2b h (n:=4) (by decide) (by decide)
  obtain⟨N,hN⟩:∃ N:Nat,1+v=(N:Int):=⟨(1+v).toNat,by omega⟩
  refine⟨v,z,g,?_⟩
  rw[show w64 (1+v)=(N:Int) by rw[hN];exact z19 (by omega) (by omega)]
  refine z17 (fun k a=>∃(c:Src) (ds:List z0b),a=((k:Int),(ds,(c,())))/\Oks c/\ds.length+k<=4/\∀ d∈ds,SmD 2 d) ?_ ?_ (n:=N) ⟨z,[],rfl,hz,by simp;omega,fun d hd=>by simp at hd⟩
  . rintro a ⟨c,ds,rfl,hc,hl,hd⟩ X
    exact z09 (fun h=>by simp at h) (fun _=>⟨⟨by simp only;omega,hd⟩,hc⟩)
  . rintro k a ⟨c,ds,rfl,hc,hl,hd⟩ X hX
    obtain⟨d,z1,g1,hd1,hz1⟩:=z0c3 hc
    refine z09 (fun _=>⟨d,z1,g1,?_,?_⟩) (fun h=>by simp at h<;>omega)
    . simp only[z1b,List.length_cons,List.length_nil];omega
    . simp only
      rw[zh0 (by omega)]
      refine hX _ ⟨z1,ds++[d],rfl,hz1,by simp only[List.length_append,List.length_cons,List.length_nil];omega,fun e he=>?_⟩
      rcases List.mem_append.mp he with he|he
      . exact hd e he
      . obtain rfl:=List.mem_singleton.mp he;exact hd1
 obtain⟨⟨y,z,_⟩,hq,hv⟩:=zku (S:=z71 s) hs ⟨(([]:List z0b),(s,())),⟨by simp,fun f hf=>by simp at hf⟩,h⟩ fun hi=>by
  unfold z71
  repeat' first|exact rk|apply_assumption|refine rb ?_ ?_|refine rl hi ?_|refine ra ?_|(refine rp ?_;intro _ _ _ _)|(refine re ?_;intro _)
 exact⟨y,z,zs0 _ _ _ hv,hq.1,hq.2⟩
def AnyX (x:z0n):Prop:=x.1.length<=5/\x.2.1.length<=50/\∀ f∈x.2.1,f.2.1.length<=3
theorem z0f4 {s:Src} (h:Oks s):∃ y z,zgb s y z/\AnyX y/\Oks z:=by
 have hs:z9k s (fun q=>AnyX q.1/\Oks q.2.1):=by
  unfold z9k
  have tail:∀ {c:Src} {x:z0n},Oks c->x.1=sigs->x.2.1.length<=45->(∀ f∈x.2.1,f.2.1.length<=3)->(∃ y19:Int,∃ y20:Src,z06 c (14:Int) y19 y20/\(z00 (y19 == (0:Int)) (∃ y21:z01,∃ y22:Src,z9y y20 y21 y22/\(x.2.1.length+([(y21.1,(y21.2.1,y21.2.2))]:List z01).length<=z1b/\(AnyX (x.1,(x.2.1++([(y21.1,(y21.2.1,y21.2.2))]:List z01),x.2.2))/\Oks y22))) (z00 (y19 == (1:Int)) ((0<=(1:Int)/\(1:Int)<=(List.length x.1:Int)/\(List.length x.1:Int)<=(List.length x.1:Int)/\0<(List.length x.1:Int))/\(AnyX (List.take ((Int.toNat (List.length x.1:Int)) - (Int.toNat (1:Int))) (List.drop (Int.toNat (1:Int)) x.1),(x.2.1,x.2.2))/\Oks y20)) (z00 (y19 == (2:Int)) (∃ y23:Int,∃ y24:Src,z06 y20 (5:Int) y23 y24/\(∃ y25:z0m,∃ y26:Src,za5 y24 y25 y26/\((0<=y23/\y23<(List.length x.1:Int))/\(AnyX (x.1.set (Int.toNat y23) y25,(x.2.1,x.2.2))/\Oks y26)))) (AnyX (x.1,(x.2.1,x.2.2))/\Oks y20))))):=by
   intro c x hc hx hl hf
   have h5:x.1.length=5:=by rw[hx];rfl
   obtain⟨v,c1,k1,hv,hc1⟩:=z2b hc (n:=14) (by decide) (by decide)
   obtain⟨f,c2,k2,hf2,hc2⟩:=z0es hc1
   obtain⟨u,c3,k3,hu,hc3⟩:=z2b hc1 (n:=5) (by decide) (by decide)
   obtain⟨r,c4,k4,hc4⟩:=z0fz hc3
   refine⟨v,c1,k1,zo0 ⟨f,c2,k2,?_,⟨by simp only;omega,?_,fun g hg=>?_⟩,hc2⟩ (zo0 ⟨⟨by omega,by omega,by omega,by omega⟩,⟨?_,by simp only;omega,hf⟩,hc1⟩ (zo0 ⟨u,c3,k3,r,c4,k4,⟨by omega,by omega⟩,⟨?_,by simp only;omega,hf⟩,hc4⟩ ⟨⟨by simp only;omega,by simp only;omega,hf⟩,hc1⟩))⟩
   . simp only[z1b,List.length_cons,List.length_nil];omega
   . simp only[List.length_append,List.length_cons,List.length_nil];omega
   . rcases List.mem_append.mp hg with hg|hg
     . exact hf g hg
     . obtain rfl:=List.mem_singleton.mp hg;exact hf2
   . simp only[List.length_take,List.length_drop];omega
   . simp only[List.length_set];omega
  obtain⟨x,z,g,hx,hz⟩:=z0bk h (m:=5) (n:=3) (by decide) (by decide) (by decide)
  obtain⟨b,z1,g1,hz1⟩:=ztf hz (n:=2) (by decide) (by decide)
  obtain⟨y,z2,g2,hy,hz2⟩:=z02q hz1 (m:=3) (by decide) (by decide)
  have hy3:y.2.1.length<=3:=hy.2.1
  have hx40:=hx.2.1
  refine⟨x,z,g,b,z1,g1,zo0 ⟨y,z2,g2,?_⟩ (tail hz1 hx.1 (by omega) fun f hf=>by have:=hx.2.2 f hf;omega)⟩
  refine z17 (fun k a=>∃(i:Nat) (x':z0n),i+k=y.2.1.length/\a=((i:Int),(x',(y,())))/\x'.1=sigs/\x'.2.1.length<=40+i/\∀ f∈x'.2.1,f.2.1.length<=2) ?_ ?_ (n:=y.2.1.length) ⟨0,x,by omega,rfl,hx.1,by omega,hx.2.2⟩
  . rintro a ⟨i,x',hi,rfl,h1,h2,h3⟩ X
    obtain rfl:i=y.2.1.length:=by omega
    exact z0h fun _=>bcN ⟨x',zgh (by rw[h1];decide) (by simp only;omega) (fun f hm=>by have:=h3 f hm;omega),tail hz2 h1 (by omega) fun f hf=>by have:=h3 f hf;omega⟩
  . rintro k a ⟨i,x',hi,rfl,h1,h2,h3⟩ X hX
    have hil:i<y.2.1.length:=by omega
    have hyr:=hy.2.2 _ (List.getElem_mem hil)
    refine z0h fun _=>bcI hil (inI hil ⟨_,zo4 (x:=x') (f:=y.2.1.getD (Int.toNat (i:Int)) z0w) (by omega) (by rw[z1r hil];omega),?_⟩)
    simp only
    rw[z1r hil,z02 (by omega)]
    refine hX _ ⟨i+1,_,by omega,rfl,h1,?_,fun g hg=>?_⟩
    . have:=zoc (l:=x'.2.1) (f:=y.2.1[i])
      simp only;omega
    . rcases putF_mem.mp hg with hg|rfl
      . exact h3 g hg
      . exact hyr
 obtain⟨⟨y,z,_⟩,hq,hv⟩:=zku (S:=z9k s) hs ⟨(((([]:List z0m),(([]:List z01),())):z0n),(s,())),⟨by simp,by simp,fun f hf=>by simp at hf⟩,h⟩ fun hi=>by
  unfold z9k
  repeat' first|exact rk|apply_assumption|refine rb ?_ ?_|refine rl hi ?_|refine ra ?_|(refine rp ?_;intro _ _ _ _)|(refine re ?_;intro _)
 exact⟨y,z,zyq _ _ _ hv,hq.1,hq.2⟩
def apS (s:TSk) (ds:List z0b) (i:Nat) (b:List Int):TSk×Bool:=if vSk s&&(z3c s.1.1 ds&&(decide (i<ds.length)&&(zh9 s.1 (ds.getD i z7h) b&&vSk (zag s (ds.getD i z7h) i b))))then(zag s (ds.getD i z7h) i b,true)else(s,false)
theorem z0fm {s:TSk} {ds:List z0b} {i:Nat} {b:List Int} (h:(vSk s&&(z3c s.1.1 ds&&(decide (i<ds.length)&&(zh9 s.1 (ds.getD i z7h) b&&vSk (zag s (ds.getD i z7h) i b)))))=false):apS s ds i b=(s,false):=by unfold apS;rw[h];rfl
theorem z06w {x:z0n} {d:z0b} {b:List Int} (h:zh9 x d b=true):b.length=5/\zrn d b=true/\zkr x d b=true:=by
 unfold zh9 at h
 simp only[Bool.and_eq_true]at h
 exact⟨by simpa using h.2.2.1,h.2.2.2.1,h.2.2.2.2⟩
theorem zrr {s:TSk} {ds:List z0b} {i:Nat} {b:List Int} (hsm:SmS s):zd0 s ds i b (apS s ds i b).1 (apS s ds i b).2:=zr3 _ _ _ _ _ _ (by
 unfold ziz
 have no:∀ {p:Prop},(vSk s&&(z3c s.1.1 ds&&(decide (i<ds.length)&&(zh9 s.1 (ds.getD i z7h) b&&vSk (zag s (ds.getD i z7h) i b)))))=false->((s,(false,())):TSk×Bool×Unit)=((apS s ds i b).1,((apS s ds i b).2,())):=fun h=>by rw[z0fm h]
 refine⟨s,zh5 hsm,_,z0y,z0p (fun h=>no (p:=True) (by rw[h];rfl)) (fun h1=>⟨_,zep,z0p (fun h=>no (p:=True) (by rw[h];simp)) (fun h2=>z0h fun _=>⟨_,z5f,?_⟩)⟩)⟩
 have h5:=(zkc h2).1
 rw[z19 (by omega) (by omega)]
 refine z0p (fun h=>no (p:=True) ?_) (fun h3=>?_)
 . have:¬ i<ds.length:=fun hi=>by
    have:inR (i:Int) 0 ((ds.length:Int) - 1)=true:=inR_iff.mpr ⟨by omega,by omega⟩
    rw[this]at h;cases h
   rw[decide_eq_false this];simp
 . have hi:i<ds.length:=by have:=inR_iff.mp h3;omega
   refine inI hi ⟨_,zym,?_⟩
   rw[z1r hi]
   have eg:ds.getD i z7h=ds[i]:=z16 hi
   refine z0p (fun h=>no (p:=True) (by rw[eg,h];simp)) (fun h4=>?_)
   obtain⟨b5,tB,tF⟩:=z06w h4
   have hfire:FireOk s ds ds[i] i b:=⟨h1,h2,List.getElem?_eq_getElem hi,b5,tB,tF⟩
   obtain⟨r1,r2⟩:=hfire.res
   refine⟨s,zt6 h1,_,_,zsm hfire,?_⟩
   rw[r1]
   refine z0p (fun h=>no (p:=True) (by rw[eg,h];simp)) (fun h6=>⟨zag s ds[i] i b,?_,?_⟩)
   . rw[r2 h6];exact zt6 h6
   . unfold apS
     rw[eg,h1,h2,decide_eq_true hi,h4,h6]
     rfl)
theorem z0ea {s:TSk} {ds:List z0b} {i:Nat} {b:List Int} (h:SkD s) (ht:s.2.1.length<=30):SkD (apS s ds i b).1/\(apS s ds i b).1.2.1.length<=30:=by
 unfold apS
 split
 . rename_i hc
   simp only[Bool.and_eq_true]at hc
   exact⟨.of hc.2.2.2.2,(z7f hc.2.2.2.2).2⟩
 . exact⟨h,ht⟩
def SkQ3 (c:Src) (s:TSk) (ds:List z0b):Prop:=Oks c/\SkD s/\ds.length<=4/\∀ d∈ds,SmD 2 d
theorem z0at {x:List Int} (h:x.length<=1048576):∃ c s ds,zbe x c s ds/\SkQ3 c s ds:=by
 have hs:zdu x (fun q=>SkQ3 q.1 q.2.1 q.2.2.1):=by
  unfold zdu
  obtain⟨z,g,hz⟩:=z0gd h
  obtain⟨y,z1,g1,hy,hz1⟩:=z02q hz (m:=3) (by decide) (by decide)
  obtain⟨s,b,g2,hS,hS2,hS3⟩:=z0cv hy (by decide)
  obtain⟨ds,z3,g3,hds,hz3⟩:=z0eb hz1
  obtain⟨v,z4,g4,hv,hz4⟩:=z2b hz3 (n:=3) (by decide) (by decide)
  obtain⟨N,rfl⟩:∃ N:Nat,v=(N:Int):=⟨v.toNat,by omega⟩
  have hds4:ds.length<=4:=by omega
  refine⟨z,g,y,z1,g1,s,b,g2,ds,z3,g3,_,z4,g4,?_⟩
  refine z17 (fun k a=>∃(c:Src) (st:TSk),a=((k:Int),(st,(c,())))/\Oks c/\SkD st/\st.2.1.length<=30/\k<=N) ?_ ?_ (n:=N) ⟨z4,s,rfl,hz4,hS,by omega,Nat.le_refl _⟩
  . rintro a ⟨c,st,rfl,hc,hst,ht,_⟩ X
    obtain⟨v1,c1,k1,hv1,hc1⟩:=z2b hc (n:=20) (by decide) (by decide)
    obtain⟨v2,c2,k2,hv2,hc2⟩:=z2b hc1 (n:=6) (by decide) (by decide)
    obtain⟨v3,c3,k3,hv3,hc3⟩:=zzc hc2 (n:=4) (by decide)
    obtain⟨x5,c5,k5,hx5,hc5⟩:=z0f4 hc1
    obtain⟨rs,c6,k6,hrs,hc6⟩:=z09z hc1
    have same:SkQ3 c1 st ds:=⟨hc1,hst,hds4,hds.2⟩
    refine z09 (fun h=>by simp at h) (fun _=>⟨v1,c1,k1,zo0 ⟨v2,c2,k2,v3,c3,k3,?_,hc3,⟨hst.rels,hst.few,hst.row,?_,fun t hm=>?_⟩,hds4,hds.2⟩ (zo0 ⟨x5,c5,k5,hc5,⟨?_,?_,hx5.2.2,hst.terms,hst.args⟩,hds4,hds.2⟩ (zo0 ⟨rs,c6,k6,hc6,hst,hrs.1,hrs.2⟩ same))⟩)
    . simp only[z1b,List.length_cons,List.length_nil];omega
    . show(st.2.1++[_]).length<=31
      simp only[List.length_append,List.length_cons,List.length_nil];omega
    . rcases List.mem_append.mp hm with hm|hm
      . exact hst.args t hm
      . obtain rfl:=List.mem_singleton.mp hm
        show[v3].length<=5
        simp
    . have:=hx5.1
      show x5.1.length<=1000;omega
    . have:=hx5.2.1
      show x5.2.1.length<=100;omega
  . rintro k a ⟨c,st,rfl,hc,hst,ht,hk⟩ X hX
    refine z09 (fun _=>?_) (fun h=>by simp at h<;>omega)
    refine z17 (fun j a=>∃(i:Nat) (c:Src) (st:TSk),i+j=ds.length/\a=((i:Int),(c,(st,())))/\Oks c/\SkD st/\st.2.1.length<=30) ?_ ?_ (n:=ds.length) ⟨0,c,st,by omega,rfl,hc,hst,ht⟩
    . rintro a ⟨i,c,st,hi,rfl,hc,hst,ht⟩ Y
      obtain rfl:i=ds.length:=by omega
      refine z0h fun _=>bcN ?_
      simp only
      rw[zh0 (by omega)]
      exact hX _ ⟨c,st,rfl,hc,hst,ht,by omega⟩
    . rintro j a ⟨i,c,st,hi,rfl,hc,hst,ht⟩ Y hY
      have hil:i<ds.length:=by omega
      have hfl:=zlo (x:=st.1) (l:=ds[i].1)
      refine z0h fun _=>bcI hil (inI hil ⟨_,zcs,?_⟩)
      simp only
      rw[z1r hil,z02 (by omega)]
      refine z0h fun _=>z09 (fun hp=>z0h fun _=>?_) (fun _=>hY _ ⟨i+1,c,st,by omega,rfl,hc,hst,ht⟩)
      obtain⟨u,c1,k1,hu,hc1⟩:=z097 hc (n:=((zd9 st.1 ds[i].1).length:Int)) (by omega) (by omega)
      have ha:=z0ea (ds:=ds) (i:=i) (b:=(zd9 st.1 ds[i].1).getD (Int.toNat u) []) hst ht
      exact⟨u,c1,k1,⟨hu.1,hu.2⟩,_,_,zrr hst.sm,hY _ ⟨i+1,c1,_,by omega,rfl,hc1,ha.1,ha.2⟩⟩
 obtain⟨⟨c,s,ds,_⟩,hq,hv⟩:=zku (S:=zdu x) hs ⟨((([],(0,(0,()))):Src),((((([],([],())):z0n),(([],()):List z0c×Unit)):TSk),(([]:List z0b),()))),⟨Int.le_refl (0:Int),by decide⟩,⟨by simp,by simp,fun f hf=>by simp at hf,by simp,fun f hf=>by simp at hf⟩,by simp,fun f hf=>by simp at hf⟩ fun hi=>by
  unfold zdu
  repeat' first|exact rk|apply_assumption|refine rb ?_ ?_|refine rl hi ?_|refine ra ?_|(refine rp ?_;intro _ _ _ _)|(refine re ?_;intro _)
 exact⟨c,s,ds,z037 _ _ _ _ hv,hq⟩
theorem law {x0:List Int} (_:Bnd (.sl 5 (.int .u8)) x0):zbl x0 true:=zj4 _ _ (by
 unfold zc2
 refine⟨_,z0fk,z09 (fun _=>rfl) (fun hb=>?_)⟩
 have hlen:x0.length<=1048576:=by omega
 obtain⟨c,s,ds,gb,hc,hS,h4,_⟩:=z0at hlen
 have htl:=hS.terms
 obtain⟨v,c1,g1,_,_⟩:=zzc hc (n:=(s.2.1.length:Int)+1) (by omega)
 obtain⟨p,c2,g2,_,_⟩:=z2b hc (n:=9) (by decide) (by decide)
 obtain⟨r,c3,g3,_,_⟩:=z2b hc (n:=5) (by decide) (by decide)
 refine⟨s,ds,zi2 _ _ _ ⟨s,ds,zk4 _ _ _ ⟨c,s,ds,gb,rfl⟩,rfl⟩,_,zeu,s,v,znl _ _ _ ⟨c,s,ds,gb,z0h fun _=>⟨v,c1,?_,rfl⟩⟩,s,p,zm5 _ _ _ ⟨c,s,ds,gb,p,c2,g2,rfl⟩,s,_,zmb _ _ _ ⟨c,s,ds,gb,r,c3,g3,rfl⟩,_,znu,z0gg (fun h=>absurd rfl h) fun _=>⟨_,zwd,_,zmu,zcx (fun h=>absurd rfl h) fun _=>⟨_,zl1,_,zkd,zcx (fun h=>absurd rfl h) fun _=>⟨_,zlm,_,zvl,zcx (fun h=>absurd rfl h) fun _=>⟨_,_,zrt hS.sm,z0p (fun _=>rfl) fun hfine=>⟨_,znx,z0p (fun _=>rfl) fun hwf=>⟨_,z8v,z0p (fun _=>rfl) fun hw=>?_⟩⟩⟩⟩⟩⟩⟩
 . rw[z19 (by omega) (by omega)];exact g1
 . have hw:wac s.1.1 ds=true:=hw
   have hwf:zyn s ds=true:=hwf
   have hlow:=z06k hw hwf
   have hv:vSk s=true:=by unfold zyn at hwf;rw[Bool.and_eq_true]at hwf;exact hwf.1
   have hr:=zq2 hw hv hlow
   obtain⟨hy,hrel⟩:=z0cl hw hlow hfine
   have hyv:=z0gf hfine
   have hyr:=zq2 (s:=(skc s ds).1) (ds:=ds) (by rw[hrel];exact hw) hyv hy
   generalize hz:(skc s ds).1=y at hyr hyv
   have ht30:=(z7f hyv).2
   have hle:=z0cq y.2.1
   refine z0u ds.length (fun i=>((cntS y.2.1 i:Int),((i:Int),()))) rfl ?_ ?_
   . intro i hi X hX
     refine z0h fun _=>bcI hi ⟨_,zlm,?_⟩
     simp only
     have e:zsa y (i:Int)=(cntT y.2.1 (i:Int):Int):=by unfold zsa;rw[if_pos hyv]
     have hs:=zxi y.2.1 i
     have h1:=hle (i+1)
     rw[e,z02 (by omega),z19 (by omega) (by omega)]
     have e2:(cntS y.2.1 i:Int)+(cntT y.2.1 (i:Int):Int)=((cntS y.2.1 (i+1):Nat):Int):=by omega
     rw[e2]
     exact hX
   . intro X
     have h1:=hle ds.length
     refine z0h fun _=>bcN ?_
     rw[hr]
     refine bcT ⟨_,zeu,?_⟩
     rw[hyr]
     refine bcT (z0h fun _=>?_)
     have:decide ((cntS y.2.1 ds.length:Int)<=(y.2.1.length:Int))=true:=decide_eq_true (by omega)
     exact congrArg (fun b=>(b,())) this)
end Go.V

