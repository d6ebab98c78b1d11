/-
  The family of small functions: sizes, copies, equalities.
-/
import Derived.Test.YtikcmlkjnlcboaaGreatES0
import Derived.Test.YtikcmlkjnlcboaaGreatES1
import Derived.Test.YtikcmlkjnlcboaaGreatVE
set_option linter.unusedVariables false
set_option linter.unusedSimpArgs false
set_option maxRecDepth 1000000
set_option maxHeartbeats 4000000
set_option linter.unusedVariables false
set_option linter.unusedSimpArgs false
namespace Go.V
open Go
theorem z7f {x0:List Int} {x1:Unit} (p:Int→Bool) (hp:∀ t∈x0,z4a t (p t)):z1o x0 x1 (if z04 p x0<x0.length then(z04 p x0:Int)else -1):=z71 _ _ _ (by
 unfold z38
 exact zfo p (fun y=>((y,()):Int×Unit)=((if z04 p x0<x0.length then(z04 p x0:Int)else -1),())) (fun t A B=>∃ y,z4a t y∧z01 y A B) (fun t ht A B h1 h2=>⟨_,hp t ht,z1q h1 h2⟩) rfl)
theorem z60 {x0:List Int} {x1:Unit} (p:Int→Bool) (hp:∀ t∈x0,z4a t (p t)):z16 x0 x1 (x0.any p):=z6c _ _ _ (by
 unfold z2r
 refine⟨_,z7f p hp,?_⟩
 rw[zfm])
theorem z88 {x0:List Int} {x1:Int×Unit} (p:Int→Bool) (hp:∀ t∈x0,z7u t x1.1 (p t)):z27 x0 x1 (if z04 p x0<x0.length then(z04 p x0:Int)else -1):=z8q _ _ _ (by
 unfold z3y
 exact zfo p (fun y=>((y,()):Int×Unit)=((if z04 p x0<x0.length then(z04 p x0:Int)else -1),())) (fun t A B=>∃ y,z7u t x1.1 y∧z01 y A B) (fun t ht A B h1 h2=>⟨_,hp t ht,z1q h1 h2⟩) rfl)
theorem z72 {x0:List Int} {x1:Int×Unit} (p:Int→Bool) (hp:∀ t∈x0,z7u t x1.1 (p t)):z1n x0 x1 (x0.any p):=z78 _ _ _ (by
 unfold z3e
 refine⟨_,z88 p hp,?_⟩
 rw[zfm])
theorem zeb {x0:List Int} {x1:List Int}:z6n x0 x1 (decide (x0=x1)):=zno _ _ _ (by
 unfold zeh
 refine lenI fun hl=>lenI fun _=>?_
 have h:=z0ii (fun a b=>decide (a=b)) (fun y=>((y,()):Bool×Unit)=(decide (x0=x1),())) (fun t u A B=>z01 (t != u) A B) (d:=(0:Int)) (e:=(0:Int)) (fun t ht u hu A B h1 h2=>z5s (fun h=>h1 (by simpa using h)) (fun h=>h2 (by simpa using h))) (by rw[zxd _ (fun _ _=>rfl)]) hl
 refine z5s (fun hne=>?_) (fun he=>?_)
 · rwa [show(((x0.length:Int) != (x1.length:Int))=true)from by simpa using hne]at h
 · rw[show(((x0.length:Int) != (x1.length:Int))=false)from by simp[he]]at h
   exact lenI fun _=>h)
theorem z6h {x0:List z05} {x1:z05×Unit} (p:z05→Bool) (hp:∀ t∈x0,zdi t x1.1 (p t)):z1b x0 x1 (if z04 p x0<x0.length then(z04 p x0:Int)else -1):=z6j _ _ _ (by
 unfold z2v
 exact zfo p (fun y=>((y,()):Int×Unit)=((if z04 p x0<x0.length then(z04 p x0:Int)else -1),())) (fun t A B=>∃ y,zdi t x1.1 y∧z01 y A B) (fun t ht A B h1 h2=>⟨_,hp t ht,z1q h1 h2⟩) rfl)
theorem z8d {x0:List Int} {x1:Unit} (p:Int→Bool) (hp:∀ t∈x0,z7r t (p t)):z24 x0 x1 (if z04 p x0<x0.length then(z04 p x0:Int)else -1):=z8r _ _ _ (by
 unfold z3v
 exact zfo p (fun y=>((y,()):Int×Unit)=((if z04 p x0<x0.length then(z04 p x0:Int)else -1),())) (fun t A B=>∃ y,z7r t y∧z01 y A B) (fun t ht A B h1 h2=>⟨_,hp t ht,z1q h1 h2⟩) rfl)
theorem z7j {x0:List Int} {x1:Unit} (p:Int→Bool) (hp:∀ t∈x0,z7r t (p t)):z1i x0 x1 (x0.any p):=z75 _ _ _ (by
 unfold z3d
 refine⟨_,z8d p hp,?_⟩
 rw[zfm])
theorem z6v {x0:List Int} {x1:Unit} (p:Int→Bool) (hp:∀ t∈x0,z44 t (p t)):z1k x0 x1 (if z04 p x0<x0.length then(z04 p x0:Int)else -1):=z7i _ _ _ (by
 unfold z3b
 exact zfo p (fun y=>((y,()):Int×Unit)=((if z04 p x0<x0.length then(z04 p x0:Int)else -1),())) (fun t A B=>∃ y,z44 t y∧z01 y A B) (fun t ht A B h1 h2=>⟨_,hp t ht,z1q h1 h2⟩) rfl)
theorem z61 {x0:List Int} {x1:Unit} (p:Int→Bool) (hp:∀ t∈x0,z44 t (p t)):z18 x0 x1 (x0.any p):=z63 _ _ _ (by
 unfold z2s
 refine⟨_,z6v p hp,?_⟩
 rw[zfm])
theorem z84 {x0:List z00} {x1:List TRel×Unit} (p:z00→Bool) (hp:∀ t∈x0,z7o t x1.1 (p t)):z20 x0 x1 (if z04 p x0<x0.length then(z04 p x0:Int)else -1):=z82 _ _ _ (by
 unfold z3q
 exact zfo p (fun y=>((y,()):Int×Unit)=((if z04 p x0<x0.length then(z04 p x0:Int)else -1),())) (fun t A B=>∃ y,z7o t x1.1 y∧z01 y A B) (fun t ht A B h1 h2=>⟨_,hp t ht,z1q h1 h2⟩) rfl)
theorem z6r {x0:List z00} {x1:List TRel×Unit} (p:z00→Bool) (hp:∀ t∈x0,z7o t x1.1 (p t)):z1e x0 x1 (x0.any p):=z6p _ _ _ (by
 unfold z2z
 refine⟨_,z84 p hp,?_⟩
 rw[zfm])
theorem zml {x0:List Int} {x1:Int}:za5 x0 x1 (if z04 (fun t=>x1 == t) x0<x0.length then(z04 (fun t=>x1 == t) x0:Int)else -1):=zns _ _ _ (by
 unfold zei
 exact zfo (fun t=>x1 == t) (fun y=>((y,()):Int×Unit)=((if z04 (fun t=>x1 == t) x0<x0.length then(z04 (fun t=>x1 == t) x0:Int)else -1),())) (fun t A B=>z01 (x1 == t) A B) (fun t ht A B h1 h2=>z1q h1 h2) rfl)
theorem z3g {x0:List Int} {x1:Int}:z1r x0 x1 (decide (x1∈x0)):=zij _ _ _ (by
 unfold zb1
 refine⟨_,zml,?_⟩
 rw[zfm,zrz])
theorem z4p {x0:List z00} {x1:List TRel×Unit} (p:z00→Bool) (hp:∀ t∈x0,z23 t x1.1 (p t)):z0w x0 x1 (if z04 p x0<x0.length then(z04 p x0:Int)else -1):=z4s _ _ _ (by
 unfold z29
 exact zfo p (fun y=>((y,()):Int×Unit)=((if z04 p x0<x0.length then(z04 p x0:Int)else -1),())) (fun t A B=>∃ y,z23 t x1.1 y∧z01 y A B) (fun t ht A B h1 h2=>⟨_,hp t ht,z1q h1 h2⟩) rfl)
theorem z42 {x0:List z00} {x1:List TRel×Unit} (p:z00→Bool) (hp:∀ t∈x0,z23 t x1.1 (p t)):z0r x0 x1 (x0.any p):=z43 _ _ _ (by
 unfold z1x
 refine⟨_,z4p p hp,?_⟩
 rw[zfm])
theorem z3k {x0:List TDep} {x1:List TRel×Unit} (p:TDep→Bool) (hp:∀ t∈x0,z1a t x1.1 (p t)):z0n x0 x1 (if z04 p x0<x0.length then(z04 p x0:Int)else -1):=z3l _ _ _ (by
 unfold z19
 exact zfo p (fun y=>((y,()):Int×Unit)=((if z04 p x0<x0.length then(z04 p x0:Int)else -1),())) (fun t A B=>∃ y,z1a t x1.1 y∧z01 y A B) (fun t ht A B h1 h2=>⟨_,hp t ht,z1q h1 h2⟩) rfl)
theorem z30 {x0:List TDep} {x1:List TRel×Unit} (p:TDep→Bool) (hp:∀ t∈x0,z1a t x1.1 (p t)):z0l x0 x1 (x0.any p):=z33 _ _ _ (by
 unfold z10
 refine⟨_,z3k p hp,?_⟩
 rw[zfm])
theorem z5o {x0:List TDep} {x1:Unit} (p:TDep→Bool) (hp:∀ t∈x0,z7n t (p t)):z14 x0 x1 (if z04 p x0<x0.length then(z04 p x0:Int)else -1):=z5u _ _ _ (by
 unfold z2j
 exact zfo p (fun y=>((y,()):Int×Unit)=((if z04 p x0<x0.length then(z04 p x0:Int)else -1),())) (fun t A B=>∃ y,z7n t y∧z01 y A B) (fun t ht A B h1 h2=>⟨_,hp t ht,z1q h1 h2⟩) rfl)
theorem z4u {x0:List TDep} {x1:Unit} (p:TDep→Bool) (hp:∀ t∈x0,z7n t (p t)):z0y x0 x1 (x0.any p):=z4o _ _ _ (by
 unfold z2a
 refine⟨_,z5o p hp,?_⟩
 rw[zfm])
theorem z6y {x0:List (List Int)} {x1:TUf} (p:(List Int)→Bool) (hp:∀ t∈x0,z7h t x1.1 (p t)):z1j x0 x1 (if z04 p x0<x0.length then(z04 p x0:Int)else -1):=z7d _ _ _ (by
 unfold z3c
 exact zfo p (fun y=>((y,()):Int×Unit)=((if z04 p x0<x0.length then(z04 p x0:Int)else -1),())) (fun t A B=>∃ y,z7h t x1.1 y∧z01 y A B) (fun t ht A B h1 h2=>⟨_,hp t ht,z1q h1 h2⟩) rfl)
theorem z65 {x0:List (List Int)} {x1:TUf} (p:(List Int)→Bool) (hp:∀ t∈x0,z7h t x1.1 (p t)):z17 x0 x1 (x0.any p):=z62 _ _ _ (by
 unfold z2t
 refine⟨_,z6y p hp,?_⟩
 rw[zfm])
theorem z89 {x0:List z00} {x1:z00×Unit} (p:z00→Bool) (hp:∀ t∈x0,zbi t x1.1 (p t)):z26 x0 x1 (if z04 p x0<x0.length then(z04 p x0:Int)else -1):=z8o _ _ _ (by
 unfold z3w
 exact zfo p (fun y=>((y,()):Int×Unit)=((if z04 p x0<x0.length then(z04 p x0:Int)else -1),())) (fun t A B=>∃ y,zbi t x1.1 y∧z01 y A B) (fun t ht A B h1 h2=>⟨_,hp t ht,z1q h1 h2⟩) rfl)
theorem z73 {x0:List z00} {x1:z00×Unit} (p:z00→Bool) (hp:∀ t∈x0,zbi t x1.1 (p t)):z1l x0 x1 (x0.any p):=z6x _ _ _ (by
 unfold z3f
 refine⟨_,z89 p hp,?_⟩
 rw[zfm])
theorem z6t {x0:List z00} {x1:List z00×List Int×List TDep×Unit} (p:z00→Bool) (hp:∀ t∈x0,zdl t x1.1 x1.2.1 x1.2.2.1 (p t)):z1f x0 x1 (if z04 p x0<x0.length then(z04 p x0:Int)else -1):=z6q _ _ _ (by
 unfold z2y
 exact zfo p (fun y=>((y,()):Int×Unit)=((if z04 p x0<x0.length then(z04 p x0:Int)else -1),())) (fun t A B=>∃ y,zdl t x1.1 x1.2.1 x1.2.2.1 y∧z01 y A B) (fun t ht A B h1 h2=>⟨_,hp t ht,z1q h1 h2⟩) rfl)
theorem z5v {x0:List z00} {x1:List z00×List Int×List TDep×Unit} (p:z00→Bool) (hp:∀ t∈x0,zdl t x1.1 x1.2.1 x1.2.2.1 (p t)):z13 x0 x1 (x0.any p):=z5r _ _ _ (by
 unfold z2i
 refine⟨_,z6t p hp,?_⟩
 rw[zfm])
abbrev k0:Sh:=.pair .bool .unit
instance:DecidableEq (Bool×Unit):=inferInstance
abbrev k1:Sh:=.pair (.int .i64) k0
instance:DecidableEq (Int×Bool×Unit):=inferInstance
abbrev k2:Sh:=.pair .str k1
instance:DecidableEq ((List UInt8)×Int×Bool×Unit):=inferInstance
theorem zzr {x0:TRel} {x1:Int} (h0:0≤x1) (h1:x1≤1048576):zgi x0 x1 fun r=>r=(fits x1 (bulk k2 x0),()):=by
 unfold zgi
 have e:bulk k2 x0=(List.length x0.1+(0+(0+0))):=rfl
 refine lenI fun hl1=>?_
 rw[szw (l:=x1) (n:=List.length x0.1) (by omega) (by omega) hl1]
 by_cases hc1:x1 - (List.length x0.1:Int)<0
 · rw[z4k hc1];exact ze3 (by omega)
 rw[z2k hc1]
 exact zii (by omega) (by omega)
theorem zxt {x0:TRel} {x1:Int} (h0:0≤x1) (h1:x1≤1048576):zcy x0 x1 (fits x1 (bulk k2 x0)):=zzj _ _ _ (zzr h0 h1)
abbrev k3:Sh:=.sl 0 k2
theorem zvk {x0:List TRel} {x1:Int} (h0:0≤x1) (h1:x1≤1048576):zf3 x0 x1 fun r=>r=(fits x1 (bulk k3 x0),()):=by
 unfold zf3
 exact z0at (b:=bulk k2) h0 h1 (fun y=>((y,()):Int×Unit)=(fits x1 (bulk k3 x0),())) (fun t l A B=>∃ y,zcy t l y∧z01 (decide (y<(0:Int))) A (B y)) (fun t ht l a b A B hA hB=>⟨_,zxt a b,zj8 a hA fun h=>by rw[z1w h];exact hB h⟩) rfl
theorem zv7 {x0:List TRel} {x1:Int} (h0:0≤x1) (h1:x1≤1048576):zfh x0 x1 (fits x1 (bulk k3 x0)):=zv8 _ _ _ (zvk h0 h1)
abbrev k4:Sh:=.sl 0 (.int .i64)
theorem z0am {x0:List Int} {x1:Int} (h0:0≤x1) (h1:x1≤1048576):zru x0 x1 fun r=>r=(fits x1 (bulk k4 x0),()):=by
 unfold zru
 have e:bulk k4 x0=List.length x0:=z09k fun _=>rfl
 refine lenI fun hl=>?_
 rw[szw (l:=x1) (n:=List.length x0) h0 h1 hl]
 by_cases hlt:x1 - (List.length x0:Int)<0
 · rw[z4k hlt];exact ze3 (by omega)
 · rw[z2k hlt];exact zii (by omega) (by omega)
theorem zuk {x0:List Int} {x1:Int} (h0:0≤x1) (h1:x1≤1048576):zjg x0 x1 (fits x1 (bulk k4 x0)):=z0av _ _ _ (z0am h0 h1)
abbrev k5:Sh:=.pair k4 .unit
instance:DecidableEq ((List Int)×Unit):=inferInstance
abbrev k6:Sh:=.pair (.int .i64) k5
instance:DecidableEq (Int×(List Int)×Unit):=inferInstance
theorem z0al {x0:z00} {x1:Int} (h0:0≤x1) (h1:x1≤1048576):zrl x0 x1 fun r=>r=(fits x1 (bulk k6 x0),()):=by
 unfold zrl
 have e:bulk k6 x0=(0+(bulk k4 x0.2.1+0)):=rfl
 refine⟨_,zuk (x1:=x1) (by omega) (by omega),?_⟩
 by_cases hc1:x1<(bulk k4 x0.2.1:Int)
 · rw[z49 hc1,z4k (by decide)];exact ze3 (by omega)
 rw[z1w (by omega),z2k (by omega)]
 exact zii (by omega) (by omega)
theorem z01p {x0:z00} {x1:Int} (h0:0≤x1) (h1:x1≤1048576):zj7 x0 x1 (fits x1 (bulk k6 x0)):=z0d3 _ _ _ (z0al h0 h1)
abbrev k7:Sh:=.sl 0 k6
theorem z099 {x0:List z00} {x1:Int} (h0:0≤x1) (h1:x1≤1048576):zo2 x0 x1 fun r=>r=(fits x1 (bulk k7 x0),()):=by
 unfold zo2
 exact z0at (b:=bulk k6) h0 h1 (fun y=>((y,()):Int×Unit)=(fits x1 (bulk k7 x0),())) (fun t l A B=>∃ y,zj7 t l y∧z01 (decide (y<(0:Int))) A (B y)) (fun t ht l a b A B hA hB=>⟨_,z01p a b,zj8 a hA fun h=>by rw[z1w h];exact hB h⟩) rfl
theorem z08l {x0:List z00} {x1:Int} (h0:0≤x1) (h1:x1≤1048576):zoe x0 x1 (fits x1 (bulk k7 x0)):=z091 _ _ _ (z099 h0 h1)
abbrev k8:Sh:=.pair k7 .unit
instance:DecidableEq ((List (Int×(List Int)×Unit))×Unit):=inferInstance
abbrev k9:Sh:=.pair k3 k8
instance:DecidableEq ((List ((List UInt8)×Int×Bool×Unit))×(List (Int×(List Int)×Unit))×Unit):=inferInstance
theorem zyl {x0:z09} {x1:Int} (h0:0≤x1) (h1:x1≤1048576):zgm x0 x1 fun r=>r=(fits x1 (bulk k9 x0),()):=by
 unfold zgm
 have e:bulk k9 x0=(bulk k3 x0.1+(bulk k7 x0.2.1+0)):=rfl
 refine⟨_,zv7 (x1:=x1) (by omega) (by omega),?_⟩
 by_cases hc1:x1<(bulk k3 x0.1:Int)
 · rw[z49 hc1,z4k (by decide)];exact ze3 (by omega)
 rw[z1w (by omega),z2k (by omega)]
 refine⟨_,z08l (x1:=x1 - (bulk k3 x0.1:Int)) (by omega) (by omega),?_⟩
 by_cases hc2:x1 - (bulk k3 x0.1:Int)<(bulk k7 x0.2.1:Int)
 · rw[z49 hc2,z4k (by decide)];exact ze3 (by omega)
 rw[z1w (by omega),z2k (by omega)]
 exact zii (by omega) (by omega)
theorem zzv {x0:z09} {x1:Int} (h0:0≤x1) (h1:x1≤1048576):zg8 x0 x1 (fits x1 (bulk k9 x0)):=zzu _ _ _ (zyl h0 h1)
abbrev k10:Sh:=.pair (.int .i64) k6
instance:DecidableEq (Int×Int×(List Int)×Unit):=inferInstance
theorem zsu {x0:z05} {x1:Int} (h0:0≤x1) (h1:x1≤1048576):zdn x0 x1 fun r=>r=(fits x1 (bulk k10 x0),()):=by
 unfold zdn
 have e:bulk k10 x0=(0+(0+(bulk k4 x0.2.2.1+0))):=rfl
 refine⟨_,zuk (x1:=x1) (by omega) (by omega),?_⟩
 by_cases hc1:x1<(bulk k4 x0.2.2.1:Int)
 · rw[z49 hc1,z4k (by decide)];exact ze3 (by omega)
 rw[z1w (by omega),z2k (by omega)]
 exact zii (by omega) (by omega)
theorem zup {x0:z05} {x1:Int} (h0:0≤x1) (h1:x1≤1048576):z9y x0 x1 (fits x1 (bulk k10 x0)):=zsf _ _ _ (zsu h0 h1)
abbrev k11:Sh:=.sl 0 k10
theorem zqk {x0:List z05} {x1:Int} (h0:0≤x1) (h1:x1≤1048576):zc9 x0 x1 fun r=>r=(fits x1 (bulk k11 x0),()):=by
 unfold zc9
 exact z0at (b:=bulk k10) h0 h1 (fun y=>((y,()):Int×Unit)=(fits x1 (bulk k11 x0),())) (fun t l A B=>∃ y,z9y t l y∧z01 (decide (y<(0:Int))) A (B y)) (fun t ht l a b A B hA hB=>⟨_,zup a b,zj8 a hA fun h=>by rw[z1w h];exact hB h⟩) rfl
theorem zq8 {x0:List z05} {x1:Int} (h0:0≤x1) (h1:x1≤1048576):zbt x0 x1 (fits x1 (bulk k11 x0)):=zqj _ _ _ (zqk h0 h1)
abbrev k12:Sh:=.pair k11 .unit
instance:DecidableEq ((List (Int×Int×(List Int)×Unit))×Unit):=inferInstance
abbrev k13:Sh:=.pair k9 k12
instance:DecidableEq (((List ((List UInt8)×Int×Bool×Unit))×(List (Int×(List Int)×Unit))×Unit)×(List (Int×Int×(List Int)×Unit))×Unit):=inferInstance
theorem zqm {x0:TSk} {x1:Int} (h0:0≤x1) (h1:x1≤1048576):zbr x0 x1 fun r=>r=(fits x1 (bulk k13 x0),()):=by
 unfold zbr
 have e:bulk k13 x0=((bulk k3 x0.1.1+(bulk k7 x0.1.2.1+0))+(bulk k11 x0.2.1+0)):=rfl
 have e1:bulk k9 x0.1=(bulk k3 x0.1.1+(bulk k7 x0.1.2.1+0)):=rfl
 refine⟨_,zzv (x1:=x1) (by omega) (by omega),?_⟩
 by_cases hc1:x1<(bulk k9 x0.1:Int)
 · rw[z49 hc1,z4k (by decide)];exact ze3 (by omega)
 rw[z1w (by omega),z2k (by omega)]
 refine⟨_,zq8 (x1:=x1 - (bulk k9 x0.1:Int)) (by omega) (by omega),?_⟩
 by_cases hc2:x1 - (bulk k9 x0.1:Int)<(bulk k11 x0.2.1:Int)
 · rw[z49 hc2,z4k (by decide)];exact ze3 (by omega)
 rw[z1w (by omega),z2k (by omega)]
 exact zii (by omega) (by omega)
theorem zql {x0:TSk} {x1:Int} (h0:0≤x1) (h1:x1≤1048576):zbp x0 x1 (fits x1 (bulk k13 x0)):=zpx _ _ _ (zqm h0 h1)
theorem z0d7 {x0:z00} {x1:Int} (h0:0≤x1) (h1:x1≤1048576):zu0 x0 x1 fun r=>r=(fits x1 (bulk k6 x0),()):=by
 unfold zu0
 have e:bulk k6 x0=(0+(bulk k4 x0.2.1+0)):=rfl
 refine⟨_,zuk (x1:=x1) (by omega) (by omega),?_⟩
 by_cases hc1:x1<(bulk k4 x0.2.1:Int)
 · rw[z49 hc1,z4k (by decide)];exact ze3 (by omega)
 rw[z1w (by omega),z2k (by omega)]
 exact zii (by omega) (by omega)
theorem z0b6 {x0:z00} {x1:Int} (h0:0≤x1) (h1:x1≤1048576):zng x0 x1 (fits x1 (bulk k6 x0)):=z0a4 _ _ _ (z0d7 h0 h1)
theorem z07j {x0:List z00} {x1:Int} (h0:0≤x1) (h1:x1≤1048576):zp4 x0 x1 fun r=>r=(fits x1 (bulk k7 x0),()):=by
 unfold zp4
 exact z0at (b:=bulk k6) h0 h1 (fun y=>((y,()):Int×Unit)=(fits x1 (bulk k7 x0),())) (fun t l A B=>∃ y,zng t l y∧z01 (decide (y<(0:Int))) A (B y)) (fun t ht l a b A B hA hB=>⟨_,z0b6 a b,zj8 a hA fun h=>by rw[z1w h];exact hB h⟩) rfl
theorem zwn {x0:List z00} {x1:Int} (h0:0≤x1) (h1:x1≤1048576):zk2 x0 x1 (fits x1 (bulk k7 x0)):=z08g _ _ _ (z07j h0 h1)
abbrev k14:Sh:=.pair (.int .i64) .unit
instance:DecidableEq (Int×Unit):=inferInstance
abbrev k15:Sh:=.pair (.int .i64) k14
instance:DecidableEq (Int×Int×Unit):=inferInstance
abbrev k16:Sh:=.pair .bool k15
instance:DecidableEq (Bool×Int×Int×Unit):=inferInstance
abbrev k17:Sh:=.pair k7 k16
instance:DecidableEq ((List (Int×(List Int)×Unit))×Bool×Int×Int×Unit):=inferInstance
abbrev k18:Sh:=.pair k7 k17
instance:DecidableEq ((List (Int×(List Int)×Unit))×(List (Int×(List Int)×Unit))×Bool×Int×Int×Unit):=inferInstance
theorem zt1 {x0:TDep} {x1:Int} (h0:0≤x1) (h1:x1≤1048576):zdw x0 x1 fun r=>r=(fits x1 (bulk k18 x0),()):=by
 unfold zdw
 have e:bulk k18 x0=(bulk k7 x0.1+(bulk k7 x0.2.1+(0+(0+(0+0))))):=rfl
 refine⟨_,zwn (x1:=x1) (by omega) (by omega),?_⟩
 by_cases hc1:x1<(bulk k7 x0.1:Int)
 · rw[z49 hc1,z4k (by decide)];exact ze3 (by omega)
 rw[z1w (by omega),z2k (by omega)]
 refine⟨_,zwn (x1:=x1 - (bulk k7 x0.1:Int)) (by omega) (by omega),?_⟩
 by_cases hc2:x1 - (bulk k7 x0.1:Int)<(bulk k7 x0.2.1:Int)
 · rw[z49 hc2,z4k (by decide)];exact ze3 (by omega)
 rw[z1w (by omega),z2k (by omega)]
 exact zii (by omega) (by omega)
theorem zub {x0:TDep} {x1:Int} (h0:0≤x1) (h1:x1≤1048576):z9h x0 x1 (fits x1 (bulk k18 x0)):=zun _ _ _ (zt1 h0 h1)
abbrev k19:Sh:=.sl 0 k18
theorem zq2 {x0:List TDep} {x1:Int} (h0:0≤x1) (h1:x1≤1048576):zcb x0 x1 fun r=>r=(fits x1 (bulk k19 x0),()):=by
 unfold zcb
 exact z0at (b:=bulk k18) h0 h1 (fun y=>((y,()):Int×Unit)=(fits x1 (bulk k19 x0),())) (fun t l A B=>∃ y,z9h t l y∧z01 (decide (y<(0:Int))) A (B y)) (fun t ht l a b A B hA hB=>⟨_,zub a b,zj8 a hA fun h=>by rw[z1w h];exact hB h⟩) rfl
theorem zqs {x0:List TDep} {x1:Int} (h0:0≤x1) (h1:x1≤1048576):zcc x0 x1 (fits x1 (bulk k19 x0)):=zqp _ _ _ (zq2 h0 h1)
theorem zy1 {x0:TRel} (hb:bulk k2 x0≤1099511627776):zgq x0 fun r=>r=(x0,()):=by
 unfold zgq
 have e:bulk k2 x0=(List.length x0.1+(0+(0+0))):=rfl
 rfl
theorem zyy {x0:TRel} (hb:bulk k2 x0≤1099511627776):zcv x0 x0:=zza _ _ (zy1 hb)
theorem zve {x0:List TRel} (hb:bulk k3 x0≤1099511627776):zf0 x0 fun r=>r=(x0,()):=by
 unfold zf0
 exact z08e id (by have e:bulk k3 x0=x0.length+(x0.map (bulk k2)).sum:=rfl;omega) (fun y=>((y,()):List _×Unit)=(x0,())) (fun t B=>∃ y,zcv t y∧B y) (fun t ht B hB=>⟨_,zyy (by have h:=zds (bulk k2) ht;have e:bulk k3 x0=x0.length+(x0.map (bulk k2)).sum:=rfl;omega),hB⟩) (by rw[List.map_id])
theorem zvd {x0:List TRel} (hb:bulk k3 x0≤1099511627776):zew x0 x0:=zvl _ _ (zve hb)
theorem z09p {x0:List Int} (hb:bulk k4 x0≤1099511627776):zua x0 fun r=>r=(x0,()):=by
 unfold zua
 exact z08e id (by have e:bulk k4 x0=x0.length+(x0.map (bulk (.int .i64))).sum:=rfl;omega) (fun y=>((y,()):List _×Unit)=(x0,())) (fun t B=>B t) (fun t ht B hB=>hB) (by rw[List.map_id])
theorem ztr {x0:List Int} (hb:bulk k4 x0≤1099511627776):zhs x0 x0:=z0d4 _ _ (z09p hb)
theorem z0cz {x0:z00} (hb:bulk k6 x0≤1099511627776):zu8 x0 fun r=>r=(x0,()):=by
 unfold zu8
 have e:bulk k6 x0=(0+(bulk k4 x0.2.1+0)):=rfl
 exact⟨_,ztr (by omega),rfl⟩
theorem zj3 {x0:z00} (hb:bulk k6 x0≤1099511627776):zbn x0 x0:=z0c8 _ _ (z0cz hb)
theorem z08t {x0:List z00} (hb:bulk k7 x0≤1099511627776):zp7 x0 fun r=>r=(x0,()):=by
 unfold zp7
 exact z08e id (by have e:bulk k7 x0=x0.length+(x0.map (bulk k6)).sum:=rfl;omega) (fun y=>((y,()):List _×Unit)=(x0,())) (fun t B=>∃ y,zbn t y∧B y) (fun t ht B hB=>⟨_,zj3 (by have h:=zds (bulk k6) ht;have e:bulk k7 x0=x0.length+(x0.map (bulk k6)).sum:=rfl;omega),hB⟩) (by rw[List.map_id])
theorem z096 {x0:List z00} (hb:bulk k7 x0≤1099511627776):zp3 x0 x0:=z093 _ _ (z08t hb)
theorem zyk {x0:z09} (hb:bulk k9 x0≤1099511627776):zgd x0 fun r=>r=(x0,()):=by
 unfold zgd
 have e:bulk k9 x0=(bulk k3 x0.1+(bulk k7 x0.2.1+0)):=rfl
 exact⟨_,zvd (by omega),_,z096 (by omega),rfl⟩
theorem zy9 {x0:z09} (hb:bulk k9 x0≤1099511627776):zh6 x0 x0:=zzo _ _ (zyk hb)
theorem zsn {x0:z05} (hb:bulk k10 x0≤1099511627776):zde x0 fun r=>r=(x0,()):=by
 unfold zde
 have e:bulk k10 x0=(0+(0+(bulk k4 x0.2.2.1+0))):=rfl
 exact⟨_,ztr (by omega),rfl⟩
theorem zty {x0:z05} (hb:bulk k10 x0≤1099511627776):z98 x0 x0:=zt2 _ _ (zsn hb)
theorem zq4 {x0:List z05} (hb:bulk k11 x0≤1099511627776):zbv x0 fun r=>r=(x0,()):=by
 unfold zbv
 exact z08e id (by have e:bulk k11 x0=x0.length+(x0.map (bulk k10)).sum:=rfl;omega) (fun y=>((y,()):List _×Unit)=(x0,())) (fun t B=>∃ y,z98 t y∧B y) (fun t ht B hB=>⟨_,zty (by have h:=zds (bulk k10) ht;have e:bulk k11 x0=x0.length+(x0.map (bulk k10)).sum:=rfl;omega),hB⟩) (by rw[List.map_id])
theorem zqo {x0:List z05} (hb:bulk k11 x0≤1099511627776):zc1 x0 x0:=zpv _ _ (zq4 hb)
theorem zqw {x0:TSk} (hb:bulk k13 x0≤1099511627776):zc4 x0 fun r=>r=(x0,()):=by
 unfold zc4
 have e:bulk k13 x0=((bulk k3 x0.1.1+(bulk k7 x0.1.2.1+0))+(bulk k11 x0.2.1+0)):=rfl
 have e0:bulk k9 x0.1=(bulk k3 x0.1.1+(bulk k7 x0.1.2.1+0)):=rfl
 exact⟨_,zy9 (by omega),_,zqo (by omega),rfl⟩
theorem z8u {x0:TSk} (hb:bulk k13 x0≤1099511627776):z47 x0 x0:=zqu _ _ (zqw hb)
theorem z0cn {x0:z00} (hb:bulk k6 x0≤1099511627776):zuo x0 fun r=>r=(x0,()):=by
 unfold zuo
 have e:bulk k6 x0=(0+(bulk k4 x0.2.1+0)):=rfl
 exact⟨_,ztr (by omega),rfl⟩
theorem z0cr {x0:z00} (hb:bulk k6 x0≤1099511627776):zmw x0 x0:=z0cx _ _ (z0cn hb)
theorem z095 {x0:List z00} (hb:bulk k7 x0≤1099511627776):zo4 x0 fun r=>r=(x0,()):=by
 unfold zo4
 exact z08e id (by have e:bulk k7 x0=x0.length+(x0.map (bulk k6)).sum:=rfl;omega) (fun y=>((y,()):List _×Unit)=(x0,())) (fun t B=>∃ y,zmw t y∧B y) (fun t ht B hB=>⟨_,z0cr (by have h:=zds (bulk k6) ht;have e:bulk k7 x0=x0.length+(x0.map (bulk k6)).sum:=rfl;omega),hB⟩) (by rw[List.map_id])
theorem zxf {x0:List z00} (hb:bulk k7 x0≤1099511627776):zk4 x0 x0:=z08w _ _ (z095 hb)
theorem ztk {x0:TDep} (hb:bulk k18 x0≤1099511627776):zdp x0 fun r=>r=(x0,()):=by
 unfold zdp
 have e:bulk k18 x0=(bulk k7 x0.1+(bulk k7 x0.2.1+(0+(0+(0+0))))):=rfl
 exact⟨_,zxf (by omega),_,zxf (by omega),rfl⟩
theorem ztc {x0:TDep} (hb:bulk k18 x0≤1099511627776):z9a x0 x0:=zt6 _ _ (ztk hb)
theorem zq1 {x0:List TDep} (hb:bulk k19 x0≤1099511627776):zc7 x0 fun r=>r=(x0,()):=by
 unfold zc7
 exact z08e id (by have e:bulk k19 x0=x0.length+(x0.map (bulk k18)).sum:=rfl;omega) (fun y=>((y,()):List _×Unit)=(x0,())) (fun t B=>∃ y,z9a t y∧B y) (fun t ht B hB=>⟨_,ztc (by have h:=zds (bulk k18) ht;have e:bulk k19 x0=x0.length+(x0.map (bulk k18)).sum:=rfl;omega),hB⟩) (by rw[List.map_id])
theorem z8t {x0:List TDep} (hb:bulk k19 x0≤1099511627776):z48 x0 x0:=zqt _ _ (zq1 hb)
theorem z003 {x0:TRel} {x1:TRel}:zgc x0 x1 fun r=>r=(decide (x0=x1),()):=by
 unfold zgc
 refine z02o (fun h=>zh5 (fun e=>h (by rw[e]))) (fun q0=>?_)
 refine z5s (fun h=>zh5 (fun e=>h (by rw[e]))) (fun q1=>?_)
 refine z02o (fun h=>zh5 (fun e=>h (by rw[e]))) (fun q2=>?_)
 exact ztn (Prod.ext q0 (Prod.ext q1 (Prod.ext q2 rfl)))
theorem zyz {x0:TRel} {x1:TRel}:zct x0 x1 (decide (x0=x1)):=z004 _ _ _ z003
theorem zw2 {x0:List TRel} {x1:List TRel}:zfc x0 x1 fun r=>r=(decide (x0=x1),()):=by
 unfold zfc
 exact z07b (fun y=>((y,()):Bool×Unit)=(decide (x0=x1),())) (fun t u A B=>∃ y,zct t u y∧z01 (!y) A B) (fun t ht u hu A B hA hB=>⟨_,zyz,zcs hA hB⟩) rfl
theorem zv3 {x0:List TRel} {x1:List TRel}:zf2 x0 x1 (decide (x0=x1)):=zvf _ _ _ zw2
theorem z0d5 {x0:List Int} {x1:List Int}:zsx x0 x1 fun r=>r=(decide (x0=x1),()):=by
 unfold zsx
 exact z07b (fun y=>((y,()):Bool×Unit)=(decide (x0=x1),())) (fun t u A B=>z01 (t != u) A B) (fun t ht u hu A B hA hB=>z5s hA hB) rfl
theorem zrs {x0:List Int} {x1:List Int}:ziw x0 x1 (decide (x0=x1)):=z0bm _ _ _ z0d5
theorem z09v {x0:z00} {x1:z00}:zry x0 x1 fun r=>r=(decide (x0=x1),()):=by
 unfold zry
 refine z5s (fun h=>zh5 (fun e=>h (by rw[e]))) (fun q0=>?_)
 refine⟨_,zrs,zcs (fun h=>zh5 (fun e=>h (by rw[e]))) (fun q1=>?_)⟩
 exact ztn (Prod.ext q0 (Prod.ext q1 rfl))
theorem z02q {x0:z00} {x1:z00}:zjd x0 x1 (decide (x0=x1)):=z0ag _ _ _ z09v
theorem z09a {x0:List z00} {x1:List z00}:zp2 x0 x1 fun r=>r=(decide (x0=x1),()):=by
 unfold zp2
 exact z07b (fun y=>((y,()):Bool×Unit)=(decide (x0=x1),())) (fun t u A B=>∃ y,zjd t u y∧z01 (!y) A B) (fun t ht u hu A B hA hB=>⟨_,z02q,zcs hA hB⟩) rfl
theorem z07c {x0:List z00} {x1:List z00}:zo7 x0 x1 (decide (x0=x1)):=z084 _ _ _ z09a
theorem zym {x0:z09} {x1:z09}:zgv x0 x1 fun r=>r=(decide (x0=x1),()):=by
 unfold zgv
 refine⟨_,zv3,zcs (fun h=>zh5 (fun e=>h (by rw[e]))) (fun q0=>?_)⟩
 refine⟨_,z07c,zcs (fun h=>zh5 (fun e=>h (by rw[e]))) (fun q1=>?_)⟩
 exact ztn (Prod.ext q0 (Prod.ext q1 rfl))
theorem zxv {x0:z09} {x1:z09}:zgt x0 x1 (decide (x0=x1)):=zzf _ _ _ zym
theorem zu1 {x0:z05} {x1:z05}:zdz x0 x1 fun r=>r=(decide (x0=x1),()):=by
 unfold zdz
 refine z5s (fun h=>zh5 (fun e=>h (by rw[e]))) (fun q0=>?_)
 refine z5s (fun h=>zh5 (fun e=>h (by rw[e]))) (fun q1=>?_)
 refine⟨_,zrs,zcs (fun h=>zh5 (fun e=>h (by rw[e]))) (fun q2=>?_)⟩
 exact ztn (Prod.ext q0 (Prod.ext q1 (Prod.ext q2 rfl)))
theorem ztp {x0:z05} {x1:z05}:z9r x0 x1 (decide (x0=x1)):=zuz _ _ _ zu1
theorem zqc {x0:List z05} {x1:List z05}:zbo x0 x1 fun r=>r=(decide (x0=x1),()):=by
 unfold zbo
 exact z07b (fun y=>((y,()):Bool×Unit)=(decide (x0=x1),())) (fun t u A B=>∃ y,z9r t u y∧z01 (!y) A B) (fun t ht u hu A B hA hB=>⟨_,ztp,zcs hA hB⟩) rfl
theorem zpz {x0:List z05} {x1:List z05}:zbw x0 x1 (decide (x0=x1)):=zpu _ _ _ zqc
theorem zqn {x0:TSk} {x1:TSk}:zbs x0 x1 fun r=>r=(decide (x0=x1),()):=by
 unfold zbs
 refine⟨_,zxv,zcs (fun h=>zh5 (fun e=>h (by rw[e]))) (fun q0=>?_)⟩
 refine⟨_,zpz,zcs (fun h=>zh5 (fun e=>h (by rw[e]))) (fun q1=>?_)⟩
 exact ztn (Prod.ext q0 (Prod.ext q1 rfl))
theorem z8v {x0:TSk} {x1:TSk}:z4b x0 x1 (decide (x0=x1)):=zpt _ _ _ zqn
theorem z0ae {x0:z00} {x1:z00}:zte x0 x1 fun r=>r=(decide (x0=x1),()):=by
 unfold zte
 refine z5s (fun h=>zh5 (fun e=>h (by rw[e]))) (fun q0=>?_)
 refine⟨_,zrs,zcs (fun h=>zh5 (fun e=>h (by rw[e]))) (fun q1=>?_)⟩
 exact ztn (Prod.ext q0 (Prod.ext q1 rfl))
theorem z0b7 {x0:z00} {x1:z00}:zmt x0 x1 (decide (x0=x1)):=z09r _ _ _ z0ae
theorem z08i {x0:List z00} {x1:List z00}:zod x0 x1 fun r=>r=(decide (x0=x1),()):=by
 unfold zod
 exact z07b (fun y=>((y,()):Bool×Unit)=(decide (x0=x1),())) (fun t u A B=>∃ y,zmt t u y∧z01 (!y) A B) (fun t ht u hu A B hA hB=>⟨_,z0b7,zcs hA hB⟩) rfl
theorem zx9 {x0:List z00} {x1:List z00}:zjq x0 x1 (decide (x0=x1)):=z07v _ _ _ z08i
theorem zrn {x0:TDep} {x1:TDep}:zdh x0 x1 fun r=>r=(decide (x0=x1),()):=by
 unfold zdh
 refine⟨_,zx9,zcs (fun h=>zh5 (fun e=>h (by rw[e]))) (fun q0=>?_)⟩
 refine⟨_,zx9,zcs (fun h=>zh5 (fun e=>h (by rw[e]))) (fun q1=>?_)⟩
 refine z02o (fun h=>zh5 (fun e=>h (by rw[e]))) (fun q2=>?_)
 refine z5s (fun h=>zh5 (fun e=>h (by rw[e]))) (fun q3=>?_)
 refine z5s (fun h=>zh5 (fun e=>h (by rw[e]))) (fun q4=>?_)
 exact ztn (Prod.ext q0 (Prod.ext q1 (Prod.ext q2 (Prod.ext q3 (Prod.ext q4 rfl)))))
theorem zut {x0:TDep} {x1:TDep}:z9j x0 x1 (decide (x0=x1)):=zrg _ _ _ zrn
theorem zqb {x0:List TDep} {x1:List TDep}:zbz x0 x1 fun r=>r=(decide (x0=x1),()):=by
 unfold zbz
 exact z07b (fun y=>((y,()):Bool×Unit)=(decide (x0=x1),())) (fun t u A B=>∃ y,z9j t u y∧z01 (!y) A B) (fun t ht u hu A B hA hB=>⟨_,zut,zcs hA hB⟩) rfl
theorem zq9 {x0:List TDep} {x1:List TDep}:zby x0 x1 (decide (x0=x1)):=zq6 _ _ _ zqb
def dg:Nat→Int→List UInt8→List UInt8
 |0,_,s=>s
 |d+1,k,s=>if k > 0 then dg d (Int.tdiv k 10) (bytesOf ([IntKind.u8.wrap (w64 (48+Int.tmod k 10))]:List Int)++s)else s
theorem z0hw:∀(d:Nat) (k:Int) (s:List UInt8),¬ k > 0→dg d k s=s
 |0,_,_,_=>rfl
 |d+1,k,s,h=>by unfold dg;rw[if_neg h]
theorem exMT {x0:Int} (h0:0≤x0) (h1:x0≤9223372036854775807):∃ y,zdf x0 y:=by
 by_cases hz:x0≤0
 · exact⟨_,zsp _ _ (by unfold zlu;rw[z4k hz])⟩
 · refine⟨[109]++dg 20 x0 [],zsp _ _ ?_⟩
   unfold zlu
   rw[z2k hz]
   refine z1t (fun d (a:Int×List UInt8×Unit)=>0≤a.1∧a.1<10 ^ d∧a.1≤9223372036854775807∧a.2.1.length+d≤100∧dg d a.1 a.2.1=dg 20 x0 []) ?_ ?_ (n:=20) ⟨h0,by show x0<10 ^ 20;omega,h1,by simp,rfl⟩
   · rintro⟨k,s,_⟩ ⟨q1,q2,q3,q4,q5⟩ X
     simp only at q1 q2 q3 q4 q5 ⊢
     rw[z2k (by omega)]
     refine⟨by simp only[List.length_cons,List.length_nil];unfold maxL;omega,?_⟩
     rw[←q5];rfl
   · rintro d ⟨k,s,_⟩ ⟨q1,q2,q3,q4,q5⟩ X hX
     simp only at q1 q2 q3 q4 q5 ⊢
     by_cases hk:k > 0
     · rw[z4k hk]
       have hl:(bytesOf ([IntKind.u8.wrap (w64 ((48:Int)+(Int.tmod k (10:Int))))]:List Int)).length=1:=rfl
       have hdiv:Int.tdiv k 10=k / 10:=Int.tdiv_eq_ediv_of_nonneg q1
       refine⟨by decide,by rw[hl];unfold maxL;omega,by decide,?_⟩
       rw[z1g (by rw[hdiv];omega) (by rw[hdiv];omega)]
       refine hX _ ⟨by show 0≤Int.tdiv k 10;rw[hdiv];omega,?_,by show Int.tdiv k 10≤_;rw[hdiv];omega,?_,?_⟩
       · show Int.tdiv k 10<10 ^ d
         rw[hdiv]
         rw[Int.pow_succ]at q2
         omega
       · show(bytesOf _++s).length+d≤100
         rw[List.length_append,hl];omega
       · unfold dg at q5
         rw[if_pos hk]at q5
         exact q5
     · rw[z2k hk]
       refine⟨by simp only[List.length_cons,List.length_nil];unfold maxL;omega,?_⟩
       rw[z0hw _ _ _ hk]at q5
       rw[←q5]
noncomputable def mtx (k:Int):List UInt8:=if h:0≤k∧k≤9223372036854775807 then Classical.choose (exMT h.1 h.2)else[]
theorem z0j0 {k:Int} (h0:0≤k) (h1:k≤9223372036854775807):zdf k (mtx k):=by
 unfold mtx
 rw[dif_pos ⟨h0,h1⟩]
 exact Classical.choose_spec (exMT h0 h1)
theorem zka {x0:List TRel} {x1:Int} (h0:0≤x1) (hk:x1+(wt k3 x0:Int)≤4611686018427387904) (hb:bulk k3 x0≤1099511627776):z83 x0 x1 fun r=>r=(x1+(wt k3 x0:Int),(mk mtx k3 x0 x1,())):=by
 unfold z83
 have e:bulk k3 x0=x0.length+(x0.map (bulk k2)).sum:=rfl
 have hL:(z6a (α:=(List UInt8)×Int×Bool×Unit) (mk mtx k2) (wt k2) x0 x1).length=x0.length:=z2u _ _ _ _
 refine zoj (α:=(List UInt8)×Int×Bool×Unit) (mk mtx k2) (wt k2) ?_ ?_
 · intro i j l hi hl hm hj hw X hX
   have ew:wt k2 l[i]=(1+(1+(1+0))):=rfl
   have ek:wt k3 x0=(List.map (α:=(List UInt8)×Int×Bool×Unit) (wt k2) x0).sum:=rfl
   have hbt:=zds (bulk k2) hm
   have eb:bulk k2 l[i]=(List.length l[i].1+(0+(0+0))):=rfl
   simp only
   refine lenI fun _=>?_
   rw[z4k (by omega)]
   simp only[Int.toNat_natCast,List.length_set,List.set_set,z4m hi,z0s hi,zey,zfg hi,and_self,true_and,ne_eq,zvx,not_false_eq_true]
   rw[z03 (i:=i) (by omega)]
   refine⟨_,z0j0 (k:=j) (by omega) (by omega),?_⟩
   rw[z1g (n:=j+1) (by omega) (by omega)]
   rw[z1g (n:=j+1+1) (by omega) (by omega)]
   rw[z1g (n:=j+1+1+1) (by omega) (by omega)]
   exact hX _ (by omega) _ rfl
 · intro X
   simp only
   refine lenI fun _=>?_
   rw[z2k (by omega)]
   rfl
theorem zkl {x0:List TRel} {x1:Int} (h0:0≤x1) (hk:x1+(wt k3 x0:Int)≤4611686018427387904) (hb:bulk k3 x0≤1099511627776):z85 x0 x1 (x1+(wt k3 x0:Int)) (mk mtx k3 x0 x1):=zkd _ _ _ _ (zka h0 hk hb)
theorem zu9 {x0:List Int} {x1:Int} (h0:0≤x1) (hk:x1+(wt k4 x0:Int)≤4611686018427387904) (hb:bulk k4 x0≤1099511627776):zdr x0 x1 fun r=>r=(x1+(wt k4 x0:Int),(mk mtx k4 x0 x1,())):=by
 unfold zdr
 have e:bulk k4 x0=x0.length+(x0.map (bulk (.int .i64))).sum:=rfl
 have hL:(z6a (α:=Int) (mk mtx (.int .i64)) (wt (.int .i64)) x0 x1).length=x0.length:=z2u _ _ _ _
 refine zoj (α:=Int) (mk mtx (.int .i64)) (wt (.int .i64)) ?_ ?_
 · intro i j l hi hl hm hj hw X hX
   have ew:wt (.int .i64) l[i]=1:=rfl
   have ek:wt k4 x0=(List.map (α:=Int) (wt (.int .i64)) x0).sum:=rfl
   have hbt:=zds (bulk (.int .i64)) hm
   have eb:bulk (.int .i64) l[i]=0:=rfl
   simp only
   refine lenI fun _=>?_
   rw[z4k (by omega)]
   simp only[Int.toNat_natCast,List.length_set,List.set_set,z4m hi,z0s hi,zey,zfg hi,and_self,true_and,ne_eq,zvx,not_false_eq_true]
   rw[z03 (i:=i) (by omega)]
   rw[z1g (n:=j+1) (by omega) (by omega)]
   exact hX _ (by omega) _ rfl
 · intro X
   simp only
   refine lenI fun _=>?_
   rw[z2k (by omega)]
   rfl
theorem z9z {x0:List Int} {x1:Int} (h0:0≤x1) (hk:x1+(wt k4 x0:Int)≤4611686018427387904) (hb:bulk k4 x0≤1099511627776):z5g x0 x1 (x1+(wt k4 x0:Int)) (mk mtx k4 x0 x1):=zu3 _ _ _ _ (zu9 h0 hk hb)
theorem zi9 {x0:List z00} {x1:Int} (h0:0≤x1) (hk:x1+(wt k7 x0:Int)≤4611686018427387904) (hb:bulk k7 x0≤1099511627776):z6u x0 x1 fun r=>r=(x1+(wt k7 x0:Int),(mk mtx k7 x0 x1,())):=by
 unfold z6u
 have e:bulk k7 x0=x0.length+(x0.map (bulk k6)).sum:=rfl
 have hL:(z6a (α:=Int×(List Int)×Unit) (mk mtx k6) (wt k6) x0 x1).length=x0.length:=z2u _ _ _ _
 refine zoj (α:=Int×(List Int)×Unit) (mk mtx k6) (wt k6) ?_ ?_
 · intro i j l hi hl hm hj hw X hX
   have ew:wt k6 l[i]=(1+(wt k4 l[i].2.1+0)):=rfl
   have ek:wt k7 x0=(List.map (α:=Int×(List Int)×Unit) (wt k6) x0).sum:=rfl
   have hbt:=zds (bulk k6) hm
   have eb:bulk k6 l[i]=(0+(bulk k4 l[i].2.1+0)):=rfl
   simp only
   refine lenI fun _=>?_
   rw[z4k (by omega)]
   simp only[Int.toNat_natCast,List.length_set,List.set_set,z4m hi,z0s hi,zey,zfg hi,and_self,true_and,ne_eq,zvx,not_false_eq_true]
   rw[z03 (i:=i) (by omega)]
   rw[z1g (n:=j+1) (by omega) (by omega)]
   refine⟨_,_,z9z (x0:=l[i].2.1) (x1:=j+1) (by omega) (by omega) (by omega),?_⟩
   exact hX _ (by omega) _ rfl
 · intro X
   simp only
   refine lenI fun _=>?_
   rw[z2k (by omega)]
   rfl
theorem zhz {x0:List z00} {x1:Int} (h0:0≤x1) (hk:x1+(wt k7 x0:Int)≤4611686018427387904) (hb:bulk k7 x0≤1099511627776):z7e x0 x1 (x1+(wt k7 x0:Int)) (mk mtx k7 x0 x1):=zj9 _ _ _ _ (zi9 h0 hk hb)
theorem zcd {x0:z09} {x1:Int} (h0:0≤x1) (hk:x1+(wt k9 x0:Int)≤4611686018427387904) (hb:bulk k9 x0≤1099511627776):z3n x0 x1 fun r=>r=(x1+(wt k3 x0.1:Int)+(wt k7 x0.2.1:Int),(((mk mtx k3 x0.1 (x1)),((mk mtx k7 x0.2.1 (x1+(wt k3 x0.1:Int))),())),())):=by
 unfold z3n
 have e:bulk k9 x0=(bulk k3 x0.1+(bulk k7 x0.2.1+0)):=rfl
 have ew:wt k9 x0=(wt k3 x0.1+(wt k7 x0.2.1+0)):=rfl
 refine⟨_,_,zkl (x0:=x0.1) (x1:=x1) (by omega) (by omega) (by omega),?_⟩
 refine⟨_,_,zhz (x0:=x0.2.1) (x1:=x1+(wt k3 x0.1:Int)) (by omega) (by omega) (by omega),?_⟩
 rfl
theorem zc8 {x0:z09} {x1:Int} (h0:0≤x1) (hk:x1+(wt k9 x0:Int)≤4611686018427387904) (hb:bulk k9 x0≤1099511627776):z3m x0 x1 (x1+(wt k3 x0.1:Int)+(wt k7 x0.2.1:Int)) ((mk mtx k3 x0.1 (x1)),((mk mtx k7 x0.2.1 (x1+(wt k3 x0.1:Int))),())):=zc6 _ _ _ _ (zcd h0 hk hb)
theorem zce {x0:List z05} {x1:Int} (h0:0≤x1) (hk:x1+(wt k11 x0:Int)≤4611686018427387904) (hb:bulk k11 x0≤1099511627776):z3o x0 x1 fun r=>r=(x1+(wt k11 x0:Int),(mk mtx k11 x0 x1,())):=by
 unfold z3o
 have e:bulk k11 x0=x0.length+(x0.map (bulk k10)).sum:=rfl
 have hL:(z6a (α:=Int×Int×(List Int)×Unit) (mk mtx k10) (wt k10) x0 x1).length=x0.length:=z2u _ _ _ _
 refine zoj (α:=Int×Int×(List Int)×Unit) (mk mtx k10) (wt k10) ?_ ?_
 · intro i j l hi hl hm hj hw X hX
   have ew:wt k10 l[i]=(1+(1+(wt k4 l[i].2.2.1+0))):=rfl
   have ek:wt k11 x0=(List.map (α:=Int×Int×(List Int)×Unit) (wt k10) x0).sum:=rfl
   have hbt:=zds (bulk k10) hm
   have eb:bulk k10 l[i]=(0+(0+(bulk k4 l[i].2.2.1+0))):=rfl
   simp only
   refine lenI fun _=>?_
   rw[z4k (by omega)]
   simp only[Int.toNat_natCast,List.length_set,List.set_set,z4m hi,z0s hi,zey,zfg hi,and_self,true_and,ne_eq,zvx,not_false_eq_true]
   rw[z03 (i:=i) (by omega)]
   rw[z1g (n:=j+1) (by omega) (by omega)]
   rw[z1g (n:=j+1+1) (by omega) (by omega)]
   refine⟨_,_,z9z (x0:=l[i].2.2.1) (x1:=j+1+1) (by omega) (by omega) (by omega),?_⟩
   exact hX _ (by omega) _ rfl
 · intro X
   simp only
   refine lenI fun _=>?_
   rw[z2k (by omega)]
   rfl
theorem zcf {x0:List z05} {x1:Int} (h0:0≤x1) (hk:x1+(wt k11 x0:Int)≤4611686018427387904) (hb:bulk k11 x0≤1099511627776):z3p x0 x1 (x1+(wt k11 x0:Int)) (mk mtx k11 x0 x1):=zc5 _ _ _ _ (zce h0 hk hb)
theorem z5k {x0:TSk} {x1:Int} (h0:0≤x1) (hk:x1+(wt k13 x0:Int)≤4611686018427387904) (hb:bulk k13 x0≤1099511627776):z11 x0 x1 fun r=>r=(x1+(wt k3 x0.1.1:Int)+(wt k7 x0.1.2.1:Int)+(wt k11 x0.2.1:Int),((((mk mtx k3 x0.1.1 (x1)),((mk mtx k7 x0.1.2.1 (x1+(wt k3 x0.1.1:Int))),())),((mk mtx k11 x0.2.1 (x1+(wt k3 x0.1.1:Int)+(wt k7 x0.1.2.1:Int))),())),())):=by
 unfold z11
 have e:bulk k13 x0=((bulk k3 x0.1.1+(bulk k7 x0.1.2.1+0))+(bulk k11 x0.2.1+0)):=rfl
 have ew:wt k13 x0=((wt k3 x0.1.1+(wt k7 x0.1.2.1+0))+(wt k11 x0.2.1+0)):=rfl
 have eb1:bulk k9 x0.1=(bulk k3 x0.1.1+(bulk k7 x0.1.2.1+0)):=rfl
 have ew1:wt k9 x0.1=(wt k3 x0.1.1+(wt k7 x0.1.2.1+0)):=rfl
 refine⟨_,_,zc8 (x0:=x0.1) (x1:=x1) (by omega) (by omega) (by omega),?_⟩
 refine⟨_,_,zcf (x0:=x0.2.1) (x1:=x1+(wt k3 x0.1.1:Int)+(wt k7 x0.1.2.1:Int)) (by omega) (by omega) (by omega),?_⟩
 rfl
theorem z2g {x0:TSk} {x1:Int} (h0:0≤x1) (hk:x1+(wt k13 x0:Int)≤4611686018427387904) (hb:bulk k13 x0≤1099511627776):z0o x0 x1 (x1+(wt k3 x0.1.1:Int)+(wt k7 x0.1.2.1:Int)+(wt k11 x0.2.1:Int)) (((mk mtx k3 x0.1.1 (x1)),((mk mtx k7 x0.1.2.1 (x1+(wt k3 x0.1.1:Int))),())),((mk mtx k11 x0.2.1 (x1+(wt k3 x0.1.1:Int)+(wt k7 x0.1.2.1:Int))),())):=z5j _ _ _ _ (z5k h0 hk hb)
theorem zi2 {x0:List z00} {x1:Int} (h0:0≤x1) (hk:x1+(wt k7 x0:Int)≤4611686018427387904) (hb:bulk k7 x0≤1099511627776):z6z x0 x1 fun r=>r=(x1+(wt k7 x0:Int),(mk mtx k7 x0 x1,())):=by
 unfold z6z
 have e:bulk k7 x0=x0.length+(x0.map (bulk k6)).sum:=rfl
 have hL:(z6a (α:=Int×(List Int)×Unit) (mk mtx k6) (wt k6) x0 x1).length=x0.length:=z2u _ _ _ _
 refine zoj (α:=Int×(List Int)×Unit) (mk mtx k6) (wt k6) ?_ ?_
 · intro i j l hi hl hm hj hw X hX
   have ew:wt k6 l[i]=(1+(wt k4 l[i].2.1+0)):=rfl
   have ek:wt k7 x0=(List.map (α:=Int×(List Int)×Unit) (wt k6) x0).sum:=rfl
   have hbt:=zds (bulk k6) hm
   have eb:bulk k6 l[i]=(0+(bulk k4 l[i].2.1+0)):=rfl
   simp only
   refine lenI fun _=>?_
   rw[z4k (by omega)]
   simp only[Int.toNat_natCast,List.length_set,List.set_set,z4m hi,z0s hi,zey,zfg hi,and_self,true_and,ne_eq,zvx,not_false_eq_true]
   rw[z03 (i:=i) (by omega)]
   rw[z1g (n:=j+1) (by omega) (by omega)]
   refine⟨_,_,z9z (x0:=l[i].2.1) (x1:=j+1) (by omega) (by omega) (by omega),?_⟩
   exact hX _ (by omega) _ rfl
 · intro X
   simp only
   refine lenI fun _=>?_
   rw[z2k (by omega)]
   rfl
theorem zbh {x0:List z00} {x1:Int} (h0:0≤x1) (hk:x1+(wt k7 x0:Int)≤4611686018427387904) (hb:bulk k7 x0≤1099511627776):z4h x0 x1 (x1+(wt k7 x0:Int)) (mk mtx k7 x0 x1):=zi5 _ _ _ _ (zi2 h0 hk hb)
theorem z7p {x0:List TDep} {x1:Int} (h0:0≤x1) (hk:x1+(wt k19 x0:Int)≤4611686018427387904) (hb:bulk k19 x0≤1099511627776):z1u x0 x1 fun r=>r=(x1+(wt k19 x0:Int),(mk mtx k19 x0 x1,())):=by
 unfold z1u
 have e:bulk k19 x0=x0.length+(x0.map (bulk k18)).sum:=rfl
 have hL:(z6a (α:=(List (Int×(List Int)×Unit))×(List (Int×(List Int)×Unit))×Bool×Int×Int×Unit) (mk mtx k18) (wt k18) x0 x1).length=x0.length:=z2u _ _ _ _
 refine zoj (α:=(List (Int×(List Int)×Unit))×(List (Int×(List Int)×Unit))×Bool×Int×Int×Unit) (mk mtx k18) (wt k18) ?_ ?_
 · intro i j l hi hl hm hj hw X hX
   have ew:wt k18 l[i]=(wt k7 l[i].1+(wt k7 l[i].2.1+(1+(1+(1+0))))):=rfl
   have ek:wt k19 x0=(List.map (α:=(List (Int×(List Int)×Unit))×(List (Int×(List Int)×Unit))×Bool×Int×Int×Unit) (wt k18) x0).sum:=rfl
   have hbt:=zds (bulk k18) hm
   have eb:bulk k18 l[i]=(bulk k7 l[i].1+(bulk k7 l[i].2.1+(0+(0+(0+0))))):=rfl
   simp only
   refine lenI fun _=>?_
   rw[z4k (by omega)]
   simp only[Int.toNat_natCast,List.length_set,List.set_set,z4m hi,z0s hi,zey,zfg hi,and_self,true_and,ne_eq,zvx,not_false_eq_true]
   rw[z03 (i:=i) (by omega)]
   refine⟨_,_,zbh (x0:=l[i].1) (x1:=j) (by omega) (by omega) (by omega),?_⟩
   refine⟨_,_,zbh (x0:=l[i].2.1) (x1:=j+(wt k7 l[i].1:Int)) (by omega) (by omega) (by omega),?_⟩
   rw[z1g (n:=j+(wt k7 l[i].1:Int)+(wt k7 l[i].2.1:Int)+1) (by omega) (by omega)]
   rw[z1g (n:=j+(wt k7 l[i].1:Int)+(wt k7 l[i].2.1:Int)+1+1) (by omega) (by omega)]
   rw[z1g (n:=j+(wt k7 l[i].1:Int)+(wt k7 l[i].2.1:Int)+1+1+1) (by omega) (by omega)]
   exact hX _ (by omega) _ rfl
 · intro X
   simp only
   refine lenI fun _=>?_
   rw[z2k (by omega)]
   rfl
theorem z7s {x0:List TDep} {x1:Int} (h0:0≤x1) (hk:x1+(wt k19 x0:Int)≤4611686018427387904) (hb:bulk k19 x0≤1099511627776):z1s x0 x1 (x1+(wt k19 x0:Int)) (mk mtx k19 x0 x1):=z7t _ _ _ _ (z7p h0 hk hb)
theorem zle {x0:z00} {x1:Int} (h0:0≤x1) (hk:x1+(wt k6 x0:Int)≤4611686018427387904) (hb:bulk k6 x0≤1099511627776):z8x x0 x1 fun r=>r=(x1+(wt k4 x0.2.1:Int),((x0.1,((mk mtx k4 x0.2.1 (x1)),())),())):=by
 unfold z8x
 have e:bulk k6 x0=(0+(bulk k4 x0.2.1+0)):=rfl
 have ew:wt k6 x0=(1+(wt k4 x0.2.1+0)):=rfl
 refine⟨_,_,z9z (x0:=x0.2.1) (x1:=x1) (by omega) (by omega) (by omega),?_⟩
 rfl
theorem zm6 {x0:z00} {x1:Int} (h0:0≤x1) (hk:x1+(wt k6 x0:Int)≤4611686018427387904) (hb:bulk k6 x0≤1099511627776):z8y x0 x1 (x1+(wt k4 x0.2.1:Int)) (x0.1,((mk mtx k4 x0.2.1 (x1)),())):=zlx _ _ _ _ (zle h0 hk hb)
theorem zpr {x0:List TRel} {x1:Int} (h0:0≤x1) (hk:x1+(wt k3 x0:Int)≤4611686018427387904) (hb:bulk k3 x0≤1099511627776):zbu (z6a (mk mtx k2) (wt k2) x0 x1) x1 fun r=>r=(x1+(wt k3 x0:Int),()):=by
 unfold zbu
 have e:bulk k3 x0=x0.length+(x0.map (bulk k2)).sum:=rfl
 have hL:(z6a (α:=(List UInt8)×Int×Bool×Unit) (mk mtx k2) (wt k2) x0 x1).length=x0.length:=z2u _ _ _ _
 refine zzd (α:=(List UInt8)×Int×Bool×Unit) (x:=x0) (mk mtx k2) (wt k2) ?_ ?_
 · intro i j hi h hj hw hat X hX
   have hm:=List.getElem_mem hi
   have ew:wt k2 x0[i]=(1+(1+(1+0))):=rfl
   have ek:wt k3 x0=(List.map (α:=(List UInt8)×Int×Bool×Unit) (wt k2) x0).sum:=rfl
   have hbt:=zds (bulk k2) hm
   have eb:bulk k2 x0[i]=(List.length x0[i].1+(0+(0+0))):=rfl
   simp only
   refine lenI fun _=>?_
   rw[z4k (by omega)]
   simp only[Int.toNat_natCast,List.length_set,List.set_set,z4m h,z0s h,zey,zfg h,and_self,true_and,ne_eq,zvx,not_false_eq_true,hat]
   rw[z03 (i:=i) (by omega)]
   refine⟨_,z0j0 (k:=j) (by omega) (by omega),?_⟩
   refine z02o (fun h=>(h rfl).elim) fun _=>?_
   rw[z1g (n:=j+1) (by omega) (by omega)]
   refine z5s (fun h=>(h rfl).elim) fun _=>?_
   rw[z1g (n:=j+1+1) (by omega) (by omega)]
   refine z02o (fun h=>(h rfl).elim) fun _=>?_
   rw[z1g (n:=j+1+1+1) (by omega) (by omega)]
   exact hX _ (by omega)
 · intro X
   simp only
   refine lenI fun _=>?_
   rw[z2k (by omega)]
   rfl
theorem zpw {x0:List TRel} {x1:Int} (h0:0≤x1) (hk:x1+(wt k3 x0:Int)≤4611686018427387904) (hb:bulk k3 x0≤1099511627776):zbx (mk mtx k3 x0 x1) x1 (x1+(wt k3 x0:Int)):=zqi _ _ _ (zpr h0 hk hb)
theorem z03c {x0:List Int} {x1:Int} (h0:0≤x1) (hk:x1+(wt k4 x0:Int)≤4611686018427387904) (hb:bulk k4 x0≤1099511627776):zlj (z6a (mk mtx (.int .i64)) (wt (.int .i64)) x0 x1) x1 fun r=>r=(x1+(wt k4 x0:Int),()):=by
 unfold zlj
 have e:bulk k4 x0=x0.length+(x0.map (bulk (.int .i64))).sum:=rfl
 have hL:(z6a (α:=Int) (mk mtx (.int .i64)) (wt (.int .i64)) x0 x1).length=x0.length:=z2u _ _ _ _
 refine zzd (α:=Int) (x:=x0) (mk mtx (.int .i64)) (wt (.int .i64)) ?_ ?_
 · intro i j hi h hj hw hat X hX
   have hm:=List.getElem_mem hi
   have ew:wt (.int .i64) x0[i]=1:=rfl
   have ek:wt k4 x0=(List.map (α:=Int) (wt (.int .i64)) x0).sum:=rfl
   have hbt:=zds (bulk (.int .i64)) hm
   have eb:bulk (.int .i64) x0[i]=0:=rfl
   simp only
   refine lenI fun _=>?_
   rw[z4k (by omega)]
   simp only[Int.toNat_natCast,List.length_set,List.set_set,z4m h,z0s h,zey,zfg h,and_self,true_and,ne_eq,zvx,not_false_eq_true,hat]
   rw[z03 (i:=i) (by omega)]
   refine z5s (fun h=>(h rfl).elim) fun _=>?_
   rw[z1g (n:=j+1) (by omega) (by omega)]
   exact hX _ (by omega)
 · intro X
   simp only
   refine lenI fun _=>?_
   rw[z2k (by omega)]
   rfl
theorem zs8 {x0:List Int} {x1:Int} (h0:0≤x1) (hk:x1+(wt k4 x0:Int)≤4611686018427387904) (hb:bulk k4 x0≤1099511627776):zgs (mk mtx k4 x0 x1) x1 (x1+(wt k4 x0:Int)):=z039 _ _ _ (z03c h0 hk hb)
theorem z02c {x0:List z00} {x1:Int} (h0:0≤x1) (hk:x1+(wt k7 x0:Int)≤4611686018427387904) (hb:bulk k7 x0≤1099511627776):zhu (z6a (mk mtx k6) (wt k6) x0 x1) x1 fun r=>r=(x1+(wt k7 x0:Int),()):=by
 unfold zhu
 have e:bulk k7 x0=x0.length+(x0.map (bulk k6)).sum:=rfl
 have hL:(z6a (α:=Int×(List Int)×Unit) (mk mtx k6) (wt k6) x0 x1).length=x0.length:=z2u _ _ _ _
 refine zzd (α:=Int×(List Int)×Unit) (x:=x0) (mk mtx k6) (wt k6) ?_ ?_
 · intro i j hi h hj hw hat X hX
   have hm:=List.getElem_mem hi
   have ew:wt k6 x0[i]=(1+(wt k4 x0[i].2.1+0)):=rfl
   have ek:wt k7 x0=(List.map (α:=Int×(List Int)×Unit) (wt k6) x0).sum:=rfl
   have hbt:=zds (bulk k6) hm
   have eb:bulk k6 x0[i]=(0+(bulk k4 x0[i].2.1+0)):=rfl
   simp only
   refine lenI fun _=>?_
   rw[z4k (by omega)]
   simp only[Int.toNat_natCast,List.length_set,List.set_set,z4m h,z0s h,zey,zfg h,and_self,true_and,ne_eq,zvx,not_false_eq_true,hat]
   rw[z03 (i:=i) (by omega)]
   refine z5s (fun h=>(h rfl).elim) fun _=>?_
   rw[z1g (n:=j+1) (by omega) (by omega)]
   refine⟨_,zs8 (x0:=x0[i].2.1) (x1:=j+1) (by omega) (by omega) (by omega),?_⟩
   rw[z2k (by omega)]
   exact hX _ (by omega)
 · intro X
   simp only
   refine lenI fun _=>?_
   rw[z2k (by omega)]
   rfl
theorem z00h {x0:List z00} {x1:Int} (h0:0≤x1) (hk:x1+(wt k7 x0:Int)≤4611686018427387904) (hb:bulk k7 x0≤1099511627776):zit (mk mtx k7 x0 x1) x1 (x1+(wt k7 x0:Int)):=z00r _ _ _ (z02c h0 hk hb)
theorem zt5 {x0:z09} {x1:Int} (h0:0≤x1) (hk:x1+(wt k9 x0:Int)≤4611686018427387904) (hb:bulk k9 x0≤1099511627776):zdy ((mk mtx k3 x0.1 (x1)),((mk mtx k7 x0.2.1 (x1+(wt k3 x0.1:Int))),())) x1 fun r=>r=(x1+(wt k3 x0.1:Int)+(wt k7 x0.2.1:Int),()):=by
 unfold zdy
 have e:bulk k9 x0=(bulk k3 x0.1+(bulk k7 x0.2.1+0)):=rfl
 have ew:wt k9 x0=(wt k3 x0.1+(wt k7 x0.2.1+0)):=rfl
 refine⟨_,zpw (x0:=x0.1) (x1:=x1) (by omega) (by omega) (by omega),?_⟩
 rw[z2k (by omega)]
 refine⟨_,z00h (x0:=x0.2.1) (x1:=x1+(wt k3 x0.1:Int)) (by omega) (by omega) (by omega),?_⟩
 rw[z2k (by omega)]
 all_goals rfl
theorem ztm {x0:z09} {x1:Int} (h0:0≤x1) (hk:x1+(wt k9 x0:Int)≤4611686018427387904) (hb:bulk k9 x0≤1099511627776):zda ((mk mtx k3 x0.1 (x1)),((mk mtx k7 x0.2.1 (x1+(wt k3 x0.1:Int))),())) x1 (x1+(wt k3 x0.1:Int)+(wt k7 x0.2.1:Int)):=ztt _ _ _ (zt5 h0 hk hb)
theorem zo0 {x0:List z05} {x1:Int} (h0:0≤x1) (hk:x1+(wt k11 x0:Int)≤4611686018427387904) (hb:bulk k11 x0≤1099511627776):za2 (z6a (mk mtx k10) (wt k10) x0 x1) x1 fun r=>r=(x1+(wt k11 x0:Int),()):=by
 unfold za2
 have e:bulk k11 x0=x0.length+(x0.map (bulk k10)).sum:=rfl
 have hL:(z6a (α:=Int×Int×(List Int)×Unit) (mk mtx k10) (wt k10) x0 x1).length=x0.length:=z2u _ _ _ _
 refine zzd (α:=Int×Int×(List Int)×Unit) (x:=x0) (mk mtx k10) (wt k10) ?_ ?_
 · intro i j hi h hj hw hat X hX
   have hm:=List.getElem_mem hi
   have ew:wt k10 x0[i]=(1+(1+(wt k4 x0[i].2.2.1+0))):=rfl
   have ek:wt k11 x0=(List.map (α:=Int×Int×(List Int)×Unit) (wt k10) x0).sum:=rfl
   have hbt:=zds (bulk k10) hm
   have eb:bulk k10 x0[i]=(0+(0+(bulk k4 x0[i].2.2.1+0))):=rfl
   simp only
   refine lenI fun _=>?_
   rw[z4k (by omega)]
   simp only[Int.toNat_natCast,List.length_set,List.set_set,z4m h,z0s h,zey,zfg h,and_self,true_and,ne_eq,zvx,not_false_eq_true,hat]
   rw[z03 (i:=i) (by omega)]
   refine z5s (fun h=>(h rfl).elim) fun _=>?_
   rw[z1g (n:=j+1) (by omega) (by omega)]
   refine z5s (fun h=>(h rfl).elim) fun _=>?_
   rw[z1g (n:=j+1+1) (by omega) (by omega)]
   refine⟨_,zs8 (x0:=x0[i].2.2.1) (x1:=j+1+1) (by omega) (by omega) (by omega),?_⟩
   rw[z2k (by omega)]
   exact hX _ (by omega)
 · intro X
   simp only
   refine lenI fun _=>?_
   rw[z2k (by omega)]
   rfl
theorem zn4 {x0:List z05} {x1:Int} (h0:0≤x1) (hk:x1+(wt k11 x0:Int)≤4611686018427387904) (hb:bulk k11 x0≤1099511627776):z9w (mk mtx k11 x0 x1) x1 (x1+(wt k11 x0:Int)):=znd _ _ _ (zo0 h0 hk hb)
theorem znu {x0:TSk} {x1:Int} (h0:0≤x1) (hk:x1+(wt k13 x0:Int)≤4611686018427387904) (hb:bulk k13 x0≤1099511627776):z99 (((mk mtx k3 x0.1.1 (x1)),((mk mtx k7 x0.1.2.1 (x1+(wt k3 x0.1.1:Int))),())),((mk mtx k11 x0.2.1 (x1+(wt k3 x0.1.1:Int)+(wt k7 x0.1.2.1:Int))),())) x1 fun r=>r=(x1+(wt k3 x0.1.1:Int)+(wt k7 x0.1.2.1:Int)+(wt k11 x0.2.1:Int),()):=by
 unfold z99
 have e:bulk k13 x0=((bulk k3 x0.1.1+(bulk k7 x0.1.2.1+0))+(bulk k11 x0.2.1+0)):=rfl
 have ew:wt k13 x0=((wt k3 x0.1.1+(wt k7 x0.1.2.1+0))+(wt k11 x0.2.1+0)):=rfl
 have eb1:bulk k9 x0.1=(bulk k3 x0.1.1+(bulk k7 x0.1.2.1+0)):=rfl
 have ew1:wt k9 x0.1=(wt k3 x0.1.1+(wt k7 x0.1.2.1+0)):=rfl
 refine⟨_,ztm (x0:=x0.1) (x1:=x1) (by omega) (by omega) (by omega),?_⟩
 rw[z2k (by omega)]
 refine⟨_,zn4 (x0:=x0.2.1) (x1:=x1+(wt k3 x0.1.1:Int)+(wt k7 x0.1.2.1:Int)) (by omega) (by omega) (by omega),?_⟩
 rw[z2k (by omega)]
 all_goals rfl
theorem zel {x0:TSk} {x1:Int} (h0:0≤x1) (hk:x1+(wt k13 x0:Int)≤4611686018427387904) (hb:bulk k13 x0≤1099511627776):z6o (((mk mtx k3 x0.1.1 (x1)),((mk mtx k7 x0.1.2.1 (x1+(wt k3 x0.1.1:Int))),())),((mk mtx k11 x0.2.1 (x1+(wt k3 x0.1.1:Int)+(wt k7 x0.1.2.1:Int))),())) x1 (x1+(wt k3 x0.1.1:Int)+(wt k7 x0.1.2.1:Int)+(wt k11 x0.2.1:Int)):=zmo _ _ _ (znu h0 hk hb)
end Go.V

