/-
  The family of small functions: sizes, copies, equalities.
-/
import Derived.Test.YtikcmlkjnlcboaaGreatES0
import Derived.Test.YtikcmlkjnlcboaaGreatES1
import Derived.Test.YtikcmlkjnlcboaaGreatVE
set_option linter.unusedVariables false
set_option linter.unusedSimpArgs false
set_option maxRecDepth 1000000
set_option maxHeartbeats 4000000
set_option linter.unusedVariables false
set_option linter.unusedSimpArgs false
namespace Go.V
open Go
theorem z7i {x0:List Int} {x1:Unit} (p:Int→Bool) (hp:∀ t∈x0,z4b t (p t)):z1h x0 x1 (if z04 p x0<x0.length then(z04 p x0:Int)else -1):=z73 _ _ _ (by
 unfold z35
 exact zg0 p (fun y=>((y,()):Int×Unit)=((if z04 p x0<x0.length then(z04 p x0:Int)else -1),())) (fun t A B=>∃ y,z4b t y∧z01 y A B) (fun t ht A B h1 h2=>⟨_,hp t ht,z1r h1 h2⟩) rfl)
theorem z60 {x0:List Int} {x1:Unit} (p:Int→Bool) (hp:∀ t∈x0,z4b t (p t)):z19 x0 x1 (x0.any p):=z64 _ _ _ (by
 unfold z2r
 refine⟨_,z7i p hp,?_⟩
 rw[zg6])
theorem z8r {x0:List Int} {x1:Int×Unit} (p:Int→Bool) (hp:∀ t∈x0,z7t t x1.1 (p t)):z27 x0 x1 (if z04 p x0<x0.length then(z04 p x0:Int)else -1):=z8e _ _ _ (by
 unfold z3v
 exact zg0 p (fun y=>((y,()):Int×Unit)=((if z04 p x0<x0.length then(z04 p x0:Int)else -1),())) (fun t A B=>∃ y,z7t t x1.1 y∧z01 y A B) (fun t ht A B h1 h2=>⟨_,hp t ht,z1r h1 h2⟩) rfl)
theorem z6y {x0:List Int} {x1:Int×Unit} (p:Int→Bool) (hp:∀ t∈x0,z7t t x1.1 (p t)):z1i x0 x1 (x0.any p):=z7c _ _ _ (by
 unfold z38
 refine⟨_,z8r p hp,?_⟩
 rw[zg6])
theorem zei {x0:List Int} {x1:List Int}:z6m x0 x1 (decide (x0=x1)):=znv _ _ _ (by
 unfold zee
 refine lenI fun hl=>lenI fun _=>?_
 have h:=z0is (fun a b=>decide (a=b)) (fun y=>((y,()):Bool×Unit)=(decide (x0=x1),())) (fun t u A B=>z01 (t != u) A B) (d:=(0:Int)) (e:=(0:Int)) (fun t ht u hu A B h1 h2=>z5y (fun h=>h1 (by simpa using h)) (fun h=>h2 (by simpa using h))) (by rw[zxe _ (fun _ _=>rfl)]) hl
 refine z5y (fun hne=>?_) (fun he=>?_)
 · rwa [show(((x0.length:Int) != (x1.length:Int))=true)from by simpa using hne]at h
 · rw[show(((x0.length:Int) != (x1.length:Int))=false)from by simp[he]]at h
   exact lenI fun _=>h)
theorem z6k {x0:List z05} {x1:z05×Unit} (p:z05→Bool) (hp:∀ t∈x0,zdt t x1.1 (p t)):z1b x0 x1 (if z04 p x0<x0.length then(z04 p x0:Int)else -1):=z6h _ _ _ (by
 unfold z2w
 exact zg0 p (fun y=>((y,()):Int×Unit)=((if z04 p x0<x0.length then(z04 p x0:Int)else -1),())) (fun t A B=>∃ y,zdt t x1.1 y∧z01 y A B) (fun t ht A B h1 h2=>⟨_,hp t ht,z1r h1 h2⟩) rfl)
theorem z8l {x0:List Int} {x1:Unit} (p:Int→Bool) (hp:∀ t∈x0,z7p t (p t)):z26 x0 x1 (if z04 p x0<x0.length then(z04 p x0:Int)else -1):=z8p _ _ _ (by
 unfold z3y
 exact zg0 p (fun y=>((y,()):Int×Unit)=((if z04 p x0<x0.length then(z04 p x0:Int)else -1),())) (fun t A B=>∃ y,z7p t y∧z01 y A B) (fun t ht A B h1 h2=>⟨_,hp t ht,z1r h1 h2⟩) rfl)
theorem z7e {x0:List Int} {x1:Unit} (p:Int→Bool) (hp:∀ t∈x0,z7p t (p t)):z1l x0 x1 (x0.any p):=z75 _ _ _ (by
 unfold z3d
 refine⟨_,z8l p hp,?_⟩
 rw[zg6])
theorem z6z {x0:List Int} {x1:Unit} (p:Int→Bool) (hp:∀ t∈x0,z48 t (p t)):z1m x0 x1 (if z04 p x0<x0.length then(z04 p x0:Int)else -1):=z7h _ _ _ (by
 unfold z3c
 exact zg0 p (fun y=>((y,()):Int×Unit)=((if z04 p x0<x0.length then(z04 p x0:Int)else -1),())) (fun t A B=>∃ y,z48 t y∧z01 y A B) (fun t ht A B h1 h2=>⟨_,hp t ht,z1r h1 h2⟩) rfl)
theorem z69 {x0:List Int} {x1:Unit} (p:Int→Bool) (hp:∀ t∈x0,z48 t (p t)):z17 x0 x1 (x0.any p):=z6c _ _ _ (by
 unfold z2s
 refine⟨_,z6z p hp,?_⟩
 rw[zg6])
theorem z86 {x0:List z00} {x1:List TRel×Unit} (p:z00→Bool) (hp:∀ t∈x0,z7o t x1.1 (p t)):z20 x0 x1 (if z04 p x0<x0.length then(z04 p x0:Int)else -1):=z82 _ _ _ (by
 unfold z3q
 exact zg0 p (fun y=>((y,()):Int×Unit)=((if z04 p x0<x0.length then(z04 p x0:Int)else -1),())) (fun t A B=>∃ y,z7o t x1.1 y∧z01 y A B) (fun t ht A B h1 h2=>⟨_,hp t ht,z1r h1 h2⟩) rfl)
theorem z6r {x0:List z00} {x1:List TRel×Unit} (p:z00→Bool) (hp:∀ t∈x0,z7o t x1.1 (p t)):z1e x0 x1 (x0.any p):=z6t _ _ _ (by
 unfold z2y
 refine⟨_,z86 p hp,?_⟩
 rw[zg6])
theorem zny {x0:List Int} {x1:Int}:z9q x0 x1 (if z04 (fun t=>x1 == t) x0<x0.length then(z04 (fun t=>x1 == t) x0:Int)else -1):=znb _ _ _ (by
 unfold zeu
 exact zg0 (fun t=>x1 == t) (fun y=>((y,()):Int×Unit)=((if z04 (fun t=>x1 == t) x0<x0.length then(z04 (fun t=>x1 == t) x0:Int)else -1),())) (fun t A B=>z01 (x1 == t) A B) (fun t ht A B h1 h2=>z1r h1 h2) rfl)
theorem z3g {x0:List Int} {x1:Int}:z1q x0 x1 (decide (x1∈x0)):=ziv _ _ _ (by
 unfold zb9
 refine⟨_,zny,?_⟩
 rw[zg6,zt1])
theorem z4s {x0:List z00} {x1:List TRel×Unit} (p:z00→Bool) (hp:∀ t∈x0,z23 t x1.1 (p t)):z0v x0 x1 (if z04 p x0<x0.length then(z04 p x0:Int)else -1):=z4r _ _ _ (by
 unfold z2a
 exact zg0 p (fun y=>((y,()):Int×Unit)=((if z04 p x0<x0.length then(z04 p x0:Int)else -1),())) (fun t A B=>∃ y,z23 t x1.1 y∧z01 y A B) (fun t ht A B h1 h2=>⟨_,hp t ht,z1r h1 h2⟩) rfl)
theorem z42 {x0:List z00} {x1:List TRel×Unit} (p:z00→Bool) (hp:∀ t∈x0,z23 t x1.1 (p t)):z0s x0 x1 (x0.any p):=z43 _ _ _ (by
 unfold z1z
 refine⟨_,z4s p hp,?_⟩
 rw[zg6])
theorem z3p {x0:List TDep} {x1:List TRel×Unit} (p:TDep→Bool) (hp:∀ t∈x0,z1a t x1.1 (p t)):z0n x0 x1 (if z04 p x0<x0.length then(z04 p x0:Int)else -1):=z3k _ _ _ (by
 unfold z16
 exact zg0 p (fun y=>((y,()):Int×Unit)=((if z04 p x0<x0.length then(z04 p x0:Int)else -1),())) (fun t A B=>∃ y,z1a t x1.1 y∧z01 y A B) (fun t ht A B h1 h2=>⟨_,hp t ht,z1r h1 h2⟩) rfl)
theorem z30 {x0:List TDep} {x1:List TRel×Unit} (p:TDep→Bool) (hp:∀ t∈x0,z1a t x1.1 (p t)):z0l x0 x1 (x0.any p):=z31 _ _ _ (by
 unfold z10
 refine⟨_,z3p p hp,?_⟩
 rw[zg6])
theorem z5x {x0:List TDep} {x1:Unit} (p:TDep→Bool) (hp:∀ t∈x0,z7w t (p t)):z13 x0 x1 (if z04 p x0<x0.length then(z04 p x0:Int)else -1):=z5u _ _ _ (by
 unfold z2m
 exact zg0 p (fun y=>((y,()):Int×Unit)=((if z04 p x0<x0.length then(z04 p x0:Int)else -1),())) (fun t A B=>∃ y,z7w t y∧z01 y A B) (fun t ht A B h1 h2=>⟨_,hp t ht,z1r h1 h2⟩) rfl)
theorem z4t {x0:List TDep} {x1:Unit} (p:TDep→Bool) (hp:∀ t∈x0,z7w t (p t)):z0y x0 x1 (x0.any p):=z4q _ _ _ (by
 unfold z2b
 refine⟨_,z5x p hp,?_⟩
 rw[zg6])
theorem z6w {x0:List (List Int)} {x1:TUf} (p:(List Int)→Bool) (hp:∀ t∈x0,z71 t x1.1 (p t)):z1k x0 x1 (if z04 p x0<x0.length then(z04 p x0:Int)else -1):=z79 _ _ _ (by
 unfold z3f
 exact zg0 p (fun y=>((y,()):Int×Unit)=((if z04 p x0<x0.length then(z04 p x0:Int)else -1),())) (fun t A B=>∃ y,z71 t x1.1 y∧z01 y A B) (fun t ht A B h1 h2=>⟨_,hp t ht,z1r h1 h2⟩) rfl)
theorem z65 {x0:List (List Int)} {x1:TUf} (p:(List Int)→Bool) (hp:∀ t∈x0,z71 t x1.1 (p t)):z18 x0 x1 (x0.any p):=z6a _ _ _ (by
 unfold z2t
 refine⟨_,z6w p hp,?_⟩
 rw[zg6])
theorem z8a {x0:List z00} {x1:z00×Unit} (p:z00→Bool) (hp:∀ t∈x0,zbf t x1.1 (p t)):z24 x0 x1 (if z04 p x0<x0.length then(z04 p x0:Int)else -1):=z8n _ _ _ (by
 unfold z3w
 exact zg0 p (fun y=>((y,()):Int×Unit)=((if z04 p x0<x0.length then(z04 p x0:Int)else -1),())) (fun t A B=>∃ y,zbf t x1.1 y∧z01 y A B) (fun t ht A B h1 h2=>⟨_,hp t ht,z1r h1 h2⟩) rfl)
theorem z6x {x0:List z00} {x1:z00×Unit} (p:z00→Bool) (hp:∀ t∈x0,zbf t x1.1 (p t)):z1n x0 x1 (x0.any p):=z7j _ _ _ (by
 unfold z3e
 refine⟨_,z8a p hp,?_⟩
 rw[zg6])
theorem z6q {x0:List z00} {x1:List z00×List Int×List TDep×Unit} (p:z00→Bool) (hp:∀ t∈x0,ze1 t x1.1 x1.2.1 x1.2.2.1 (p t)):z1f x0 x1 (if z04 p x0<x0.length then(z04 p x0:Int)else -1):=z6p _ _ _ (by
 unfold z2z
 exact zg0 p (fun y=>((y,()):Int×Unit)=((if z04 p x0<x0.length then(z04 p x0:Int)else -1),())) (fun t A B=>∃ y,ze1 t x1.1 x1.2.1 x1.2.2.1 y∧z01 y A B) (fun t ht A B h1 h2=>⟨_,hp t ht,z1r h1 h2⟩) rfl)
theorem z5v {x0:List z00} {x1:List z00×List Int×List TDep×Unit} (p:z00→Bool) (hp:∀ t∈x0,ze1 t x1.1 x1.2.1 x1.2.2.1 (p t)):z14 x0 x1 (x0.any p):=z5t _ _ _ (by
 unfold z2i
 refine⟨_,z6q p hp,?_⟩
 rw[zg6])
abbrev k0:Sh:=.pair .bool .unit
instance:DecidableEq (Bool×Unit):=inferInstance
abbrev k1:Sh:=.pair (.int .i64) k0
instance:DecidableEq (Int×Bool×Unit):=inferInstance
abbrev k2:Sh:=.pair .str k1
instance:DecidableEq ((List UInt8)×Int×Bool×Unit):=inferInstance
theorem zze {x0:TRel} {x1:Int} (h0:0≤x1) (h1:x1≤1048576):zgk x0 x1 fun r=>r=(fits x1 (bulk k2 x0),()):=by
 unfold zgk
 have e:bulk k2 x0=(List.length x0.1+(0+(0+0))):=rfl
 refine lenI fun hl1=>?_
 rw[szw (l:=x1) (n:=List.length x0.1) (by omega) (by omega) hl1]
 by_cases hc1:x1 - (List.length x0.1:Int)<0
 · rw[z4h hc1];exact zdk (by omega)
 rw[z2j hc1]
 exact zhw (by omega) (by omega)
theorem zxx {x0:TRel} {x1:Int} (h0:0≤x1) (h1:x1≤1048576):zcz x0 x1 (fits x1 (bulk k2 x0)):=zzs _ _ _ (zze h0 h1)
abbrev k3:Sh:=.sl 0 k2
theorem zv7 {x0:List TRel} {x1:Int} (h0:0≤x1) (h1:x1≤1048576):zff x0 x1 fun r=>r=(fits x1 (bulk k3 x0),()):=by
 unfold zff
 exact z0cu (b:=bulk k2) h0 h1 (fun y=>((y,()):Int×Unit)=(fits x1 (bulk k3 x0),())) (fun t l A B=>∃ y,zcz t l y∧z01 (decide (y<(0:Int))) A (B y)) (fun t ht l a b A B hA hB=>⟨_,zxx a b,zj5 a hA fun h=>by rw[z1w h];exact hB h⟩) rfl
theorem zvx {x0:List TRel} {x1:Int} (h0:0≤x1) (h1:x1≤1048576):zf0 x0 x1 (fits x1 (bulk k3 x0)):=zvc _ _ _ (zv7 h0 h1)
abbrev k4:Sh:=.sl 0 (.int .i64)
theorem z0a0 {x0:List Int} {x1:Int} (h0:0≤x1) (h1:x1≤1048576):zuu x0 x1 fun r=>r=(fits x1 (bulk k4 x0),()):=by
 unfold zuu
 have e:bulk k4 x0=List.length x0:=z09q fun _=>rfl
 refine lenI fun hl=>?_
 rw[szw (l:=x1) (n:=List.length x0) h0 h1 hl]
 by_cases hlt:x1 - (List.length x0:Int)<0
 · rw[z4h hlt];exact zdk (by omega)
 · rw[z2j hlt];exact zhw (by omega) (by omega)
theorem zum {x0:List Int} {x1:Int} (h0:0≤x1) (h1:x1≤1048576):zi4 x0 x1 (fits x1 (bulk k4 x0)):=z0d3 _ _ _ (z0a0 h0 h1)
abbrev k5:Sh:=.pair k4 .unit
instance:DecidableEq ((List Int)×Unit):=inferInstance
abbrev k6:Sh:=.pair (.int .i64) k5
instance:DecidableEq (Int×(List Int)×Unit):=inferInstance
theorem z0ab {x0:z00} {x1:Int} (h0:0≤x1) (h1:x1≤1048576):zrm x0 x1 fun r=>r=(fits x1 (bulk k6 x0),()):=by
 unfold zrm
 have e:bulk k6 x0=(0+(bulk k4 x0.2.1+0)):=rfl
 refine⟨_,zum (x1:=x1) (by omega) (by omega),?_⟩
 by_cases hc1:x1<(bulk k4 x0.2.1:Int)
 · rw[z4a hc1,z4h (by decide)];exact zdk (by omega)
 rw[z1w (by omega),z2j (by omega)]
 exact zhw (by omega) (by omega)
theorem z00b {x0:z00} {x1:Int} (h0:0≤x1) (h1:x1≤1048576):zi9 x0 x1 (fits x1 (bulk k6 x0)):=z0cs _ _ _ (z0ab h0 h1)
abbrev k7:Sh:=.sl 0 k6
theorem z07f {x0:List z00} {x1:Int} (h0:0≤x1) (h1:x1≤1048576):zoe x0 x1 fun r=>r=(fits x1 (bulk k7 x0),()):=by
 unfold zoe
 exact z0cu (b:=bulk k6) h0 h1 (fun y=>((y,()):Int×Unit)=(fits x1 (bulk k7 x0),())) (fun t l A B=>∃ y,zi9 t l y∧z01 (decide (y<(0:Int))) A (B y)) (fun t ht l a b A B hA hB=>⟨_,z00b a b,zj5 a hA fun h=>by rw[z1w h];exact hB h⟩) rfl
theorem z07m {x0:List z00} {x1:Int} (h0:0≤x1) (h1:x1≤1048576):zoj x0 x1 (fits x1 (bulk k7 x0)):=z08s _ _ _ (z07f h0 h1)
abbrev k8:Sh:=.pair k7 .unit
instance:DecidableEq ((List (Int×(List Int)×Unit))×Unit):=inferInstance
abbrev k9:Sh:=.pair k3 k8
instance:DecidableEq ((List ((List UInt8)×Int×Bool×Unit))×(List (Int×(List Int)×Unit))×Unit):=inferInstance
theorem zyd {x0:z09} {x1:Int} (h0:0≤x1) (h1:x1≤1048576):zha x0 x1 fun r=>r=(fits x1 (bulk k9 x0),()):=by
 unfold zha
 have e:bulk k9 x0=(bulk k3 x0.1+(bulk k7 x0.2.1+0)):=rfl
 refine⟨_,zvx (x1:=x1) (by omega) (by omega),?_⟩
 by_cases hc1:x1<(bulk k3 x0.1:Int)
 · rw[z4a hc1,z4h (by decide)];exact zdk (by omega)
 rw[z1w (by omega),z2j (by omega)]
 refine⟨_,z07m (x1:=x1 - (bulk k3 x0.1:Int)) (by omega) (by omega),?_⟩
 by_cases hc2:x1 - (bulk k3 x0.1:Int)<(bulk k7 x0.2.1:Int)
 · rw[z4a hc2,z4h (by decide)];exact zdk (by omega)
 rw[z1w (by omega),z2j (by omega)]
 exact zhw (by omega) (by omega)
theorem zyh {x0:z09} {x1:Int} (h0:0≤x1) (h1:x1≤1048576):zgo x0 x1 (fits x1 (bulk k9 x0)):=zxv _ _ _ (zyd h0 h1)
abbrev k10:Sh:=.pair (.int .i64) k6
instance:DecidableEq (Int×Int×(List Int)×Unit):=inferInstance
theorem zsy {x0:z05} {x1:Int} (h0:0≤x1) (h1:x1≤1048576):zdb x0 x1 fun r=>r=(fits x1 (bulk k10 x0),()):=by
 unfold zdb
 have e:bulk k10 x0=(0+(0+(bulk k4 x0.2.2.1+0))):=rfl
 refine⟨_,zum (x1:=x1) (by omega) (by omega),?_⟩
 by_cases hc1:x1<(bulk k4 x0.2.2.1:Int)
 · rw[z4a hc1,z4h (by decide)];exact zdk (by omega)
 rw[z1w (by omega),z2j (by omega)]
 exact zhw (by omega) (by omega)
theorem zsg {x0:z05} {x1:Int} (h0:0≤x1) (h1:x1≤1048576):z9x x0 x1 (fits x1 (bulk k10 x0)):=ztw _ _ _ (zsy h0 h1)
abbrev k11:Sh:=.sl 0 k10
theorem zq1 {x0:List z05} {x1:Int} (h0:0≤x1) (h1:x1≤1048576):zcd x0 x1 fun r=>r=(fits x1 (bulk k11 x0),()):=by
 unfold zcd
 exact z0cu (b:=bulk k10) h0 h1 (fun y=>((y,()):Int×Unit)=(fits x1 (bulk k11 x0),())) (fun t l A B=>∃ y,z9x t l y∧z01 (decide (y<(0:Int))) A (B y)) (fun t ht l a b A B hA hB=>⟨_,zsg a b,zj5 a hA fun h=>by rw[z1w h];exact hB h⟩) rfl
theorem zq5 {x0:List z05} {x1:Int} (h0:0≤x1) (h1:x1≤1048576):zc7 x0 x1 (fits x1 (bulk k11 x0)):=zq7 _ _ _ (zq1 h0 h1)
abbrev k12:Sh:=.pair k11 .unit
instance:DecidableEq ((List (Int×Int×(List Int)×Unit))×Unit):=inferInstance
abbrev k13:Sh:=.pair k9 k12
instance:DecidableEq (((List ((List UInt8)×Int×Bool×Unit))×(List (Int×(List Int)×Unit))×Unit)×(List (Int×Int×(List Int)×Unit))×Unit):=inferInstance
theorem zqv {x0:TSk} {x1:Int} (h0:0≤x1) (h1:x1≤1048576):zc6 x0 x1 fun r=>r=(fits x1 (bulk k13 x0),()):=by
 unfold zc6
 have e:bulk k13 x0=((bulk k3 x0.1.1+(bulk k7 x0.1.2.1+0))+(bulk k11 x0.2.1+0)):=rfl
 have e1:bulk k9 x0.1=(bulk k3 x0.1.1+(bulk k7 x0.1.2.1+0)):=rfl
 refine⟨_,zyh (x1:=x1) (by omega) (by omega),?_⟩
 by_cases hc1:x1<(bulk k9 x0.1:Int)
 · rw[z4a hc1,z4h (by decide)];exact zdk (by omega)
 rw[z1w (by omega),z2j (by omega)]
 refine⟨_,zq5 (x1:=x1 - (bulk k9 x0.1:Int)) (by omega) (by omega),?_⟩
 by_cases hc2:x1 - (bulk k9 x0.1:Int)<(bulk k11 x0.2.1:Int)
 · rw[z4a hc2,z4h (by decide)];exact zdk (by omega)
 rw[z1w (by omega),z2j (by omega)]
 exact zhw (by omega) (by omega)
theorem zq8 {x0:TSk} {x1:Int} (h0:0≤x1) (h1:x1≤1048576):zbp x0 x1 (fits x1 (bulk k13 x0)):=zqn _ _ _ (zqv h0 h1)
theorem z0bw {x0:z00} {x1:Int} (h0:0≤x1) (h1:x1≤1048576):zty x0 x1 fun r=>r=(fits x1 (bulk k6 x0),()):=by
 unfold zty
 have e:bulk k6 x0=(0+(bulk k4 x0.2.1+0)):=rfl
 refine⟨_,zum (x1:=x1) (by omega) (by omega),?_⟩
 by_cases hc1:x1<(bulk k4 x0.2.1:Int)
 · rw[z4a hc1,z4h (by decide)];exact zdk (by omega)
 rw[z1w (by omega),z2j (by omega)]
 exact zhw (by omega) (by omega)
theorem z0a8 {x0:z00} {x1:Int} (h0:0≤x1) (h1:x1≤1048576):zns x0 x1 (fits x1 (bulk k6 x0)):=z0aq _ _ _ (z0bw h0 h1)
theorem z085 {x0:List z00} {x1:Int} (h0:0≤x1) (h1:x1≤1048576):zp1 x0 x1 fun r=>r=(fits x1 (bulk k7 x0),()):=by
 unfold zp1
 exact z0cu (b:=bulk k6) h0 h1 (fun y=>((y,()):Int×Unit)=(fits x1 (bulk k7 x0),())) (fun t l A B=>∃ y,zns t l y∧z01 (decide (y<(0:Int))) A (B y)) (fun t ht l a b A B hA hB=>⟨_,z0a8 a b,zj5 a hA fun h=>by rw[z1w h];exact hB h⟩) rfl
theorem zx7 {x0:List z00} {x1:Int} (h0:0≤x1) (h1:x1≤1048576):zjo x0 x1 (fits x1 (bulk k7 x0)):=z08z _ _ _ (z085 h0 h1)
abbrev k14:Sh:=.pair (.int .i64) .unit
instance:DecidableEq (Int×Unit):=inferInstance
abbrev k15:Sh:=.pair (.int .i64) k14
instance:DecidableEq (Int×Int×Unit):=inferInstance
abbrev k16:Sh:=.pair .bool k15
instance:DecidableEq (Bool×Int×Int×Unit):=inferInstance
abbrev k17:Sh:=.pair k7 k16
instance:DecidableEq ((List (Int×(List Int)×Unit))×Bool×Int×Int×Unit):=inferInstance
abbrev k18:Sh:=.pair k7 k17
instance:DecidableEq ((List (Int×(List Int)×Unit))×(List (Int×(List Int)×Unit))×Bool×Int×Int×Unit):=inferInstance
theorem zte {x0:TDep} {x1:Int} (h0:0≤x1) (h1:x1≤1048576):zdu x0 x1 fun r=>r=(fits x1 (bulk k18 x0),()):=by
 unfold zdu
 have e:bulk k18 x0=(bulk k7 x0.1+(bulk k7 x0.2.1+(0+(0+(0+0))))):=rfl
 refine⟨_,zx7 (x1:=x1) (by omega) (by omega),?_⟩
 by_cases hc1:x1<(bulk k7 x0.1:Int)
 · rw[z4a hc1,z4h (by decide)];exact zdk (by omega)
 rw[z1w (by omega),z2j (by omega)]
 refine⟨_,zx7 (x1:=x1 - (bulk k7 x0.1:Int)) (by omega) (by omega),?_⟩
 by_cases hc2:x1 - (bulk k7 x0.1:Int)<(bulk k7 x0.2.1:Int)
 · rw[z4a hc2,z4h (by decide)];exact zdk (by omega)
 rw[z1w (by omega),z2j (by omega)]
 exact zhw (by omega) (by omega)
theorem zux {x0:TDep} {x1:Int} (h0:0≤x1) (h1:x1≤1048576):z9v x0 x1 (fits x1 (bulk k18 x0)):=ztz _ _ _ (zte h0 h1)
abbrev k19:Sh:=.sl 0 k18
theorem zpr {x0:List TDep} {x1:Int} (h0:0≤x1) (h1:x1≤1048576):zc3 x0 x1 fun r=>r=(fits x1 (bulk k19 x0),()):=by
 unfold zc3
 exact z0cu (b:=bulk k18) h0 h1 (fun y=>((y,()):Int×Unit)=(fits x1 (bulk k19 x0),())) (fun t l A B=>∃ y,z9v t l y∧z01 (decide (y<(0:Int))) A (B y)) (fun t ht l a b A B hA hB=>⟨_,zux a b,zj5 a hA fun h=>by rw[z1w h];exact hB h⟩) rfl
theorem zq3 {x0:List TDep} {x1:Int} (h0:0≤x1) (h1:x1≤1048576):zbv x0 x1 (fits x1 (bulk k19 x0)):=zqh _ _ _ (zpr h0 h1)
theorem zyp {x0:TRel} (hb:bulk k2 x0≤1099511627776):zgq x0 fun r=>r=(x0,()):=by
 unfold zgq
 have e:bulk k2 x0=(List.length x0.1+(0+(0+0))):=rfl
 rfl
theorem zyb {x0:TRel} (hb:bulk k2 x0≤1099511627776):zd0 x0 x0:=zyv _ _ (zyp hb)
theorem zvn {x0:List TRel} (hb:bulk k3 x0≤1099511627776):zf4 x0 fun r=>r=(x0,()):=by
 unfold zf4
 exact z09a id (by have e:bulk k3 x0=x0.length+(x0.map (bulk k2)).sum:=rfl;omega) (fun y=>((y,()):List _×Unit)=(x0,())) (fun t B=>∃ y,zd0 t y∧B y) (fun t ht B hB=>⟨_,zyb (by have h:=zdd (bulk k2) ht;have e:bulk k3 x0=x0.length+(x0.map (bulk k2)).sum:=rfl;omega),hB⟩) (by rw[List.map_id])
theorem zw1 {x0:List TRel} (hb:bulk k3 x0≤1099511627776):zez x0 x0:=zvq _ _ (zvn hb)
theorem z0c2 {x0:List Int} (hb:bulk k4 x0≤1099511627776):ztj x0 fun r=>r=(x0,()):=by
 unfold ztj
 exact z09a id (by have e:bulk k4 x0=x0.length+(x0.map (bulk (.int .i64))).sum:=rfl;omega) (fun y=>((y,()):List _×Unit)=(x0,())) (fun t B=>B t) (fun t ht B hB=>hB) (by rw[List.map_id])
theorem ztu {x0:List Int} (hb:bulk k4 x0≤1099511627776):zij x0 x0:=z0bh _ _ (z0c2 hb)
theorem z0cm {x0:z00} (hb:bulk k6 x0≤1099511627776):zua x0 fun r=>r=(x0,()):=by
 unfold zua
 have e:bulk k6 x0=(0+(bulk k4 x0.2.1+0)):=rfl
 exact⟨_,ztu (by omega),rfl⟩
theorem zi2 {x0:z00} (hb:bulk k6 x0≤1099511627776):zb2 x0 x0:=z0cr _ _ (z0cm hb)
theorem z095 {x0:List z00} (hb:bulk k7 x0≤1099511627776):zom x0 fun r=>r=(x0,()):=by
 unfold zom
 exact z09a id (by have e:bulk k7 x0=x0.length+(x0.map (bulk k6)).sum:=rfl;omega) (fun y=>((y,()):List _×Unit)=(x0,())) (fun t B=>∃ y,zb2 t y∧B y) (fun t ht B hB=>⟨_,zi2 (by have h:=zdd (bulk k6) ht;have e:bulk k7 x0=x0.length+(x0.map (bulk k6)).sum:=rfl;omega),hB⟩) (by rw[List.map_id])
theorem z092 {x0:List z00} (hb:bulk k7 x0≤1099511627776):zp0 x0 x0:=z07d _ _ (z095 hb)
theorem zz1 {x0:z09} (hb:bulk k9 x0≤1099511627776):zgp x0 fun r=>r=(x0,()):=by
 unfold zgp
 have e:bulk k9 x0=(bulk k3 x0.1+(bulk k7 x0.2.1+0)):=rfl
 exact⟨_,zw1 (by omega),_,z092 (by omega),rfl⟩
theorem zxq {x0:z09} (hb:bulk k9 x0≤1099511627776):zga x0 x0:=zyc _ _ (zz1 hb)
theorem zuj {x0:z05} (hb:bulk k10 x0≤1099511627776):zdx x0 fun r=>r=(x0,()):=by
 unfold zdx
 have e:bulk k10 x0=(0+(0+(bulk k4 x0.2.2.1+0))):=rfl
 exact⟨_,ztu (by omega),rfl⟩
theorem zrk {x0:z05} (hb:bulk k10 x0≤1099511627776):z9u x0 x0:=zta _ _ (zuj hb)
theorem zqd {x0:List z05} (hb:bulk k11 x0≤1099511627776):zc0 x0 fun r=>r=(x0,()):=by
 unfold zc0
 exact z09a id (by have e:bulk k11 x0=x0.length+(x0.map (bulk k10)).sum:=rfl;omega) (fun y=>((y,()):List _×Unit)=(x0,())) (fun t B=>∃ y,z9u t y∧B y) (fun t ht B hB=>⟨_,zrk (by have h:=zdd (bulk k10) ht;have e:bulk k11 x0=x0.length+(x0.map (bulk k10)).sum:=rfl;omega),hB⟩) (by rw[List.map_id])
theorem zqr {x0:List z05} (hb:bulk k11 x0≤1099511627776):zc1 x0 x0:=zqg _ _ (zqd hb)
theorem zpx {x0:TSk} (hb:bulk k13 x0≤1099511627776):zbu x0 fun r=>r=(x0,()):=by
 unfold zbu
 have e:bulk k13 x0=((bulk k3 x0.1.1+(bulk k7 x0.1.2.1+0))+(bulk k11 x0.2.1+0)):=rfl
 have e0:bulk k9 x0.1=(bulk k3 x0.1.1+(bulk k7 x0.1.2.1+0)):=rfl
 exact⟨_,zxq (by omega),_,zqr (by omega),rfl⟩
theorem z8s {x0:TSk} (hb:bulk k13 x0≤1099511627776):z47 x0 x0:=zpp _ _ (zpx hb)
theorem z0c4 {x0:z00} (hb:bulk k6 x0≤1099511627776):zur x0 fun r=>r=(x0,()):=by
 unfold zur
 have e:bulk k6 x0=(0+(bulk k4 x0.2.1+0)):=rfl
 exact⟨_,ztu (by omega),rfl⟩
theorem z0b7 {x0:z00} (hb:bulk k6 x0≤1099511627776):zn2 x0 x0:=z0a7 _ _ (z0c4 hb)
theorem z08c {x0:List z00} (hb:bulk k7 x0≤1099511627776):zo7 x0 fun r=>r=(x0,()):=by
 unfold zo7
 exact z09a id (by have e:bulk k7 x0=x0.length+(x0.map (bulk k6)).sum:=rfl;omega) (fun y=>((y,()):List _×Unit)=(x0,())) (fun t B=>∃ y,zn2 t y∧B y) (fun t ht B hB=>⟨_,z0b7 (by have h:=zdd (bulk k6) ht;have e:bulk k7 x0=x0.length+(x0.map (bulk k6)).sum:=rfl;omega),hB⟩) (by rw[List.map_id])
theorem zw7 {x0:List z00} (hb:bulk k7 x0≤1099511627776):zjs x0 x0:=z082 _ _ (z08c hb)
theorem zrt {x0:TDep} (hb:bulk k18 x0≤1099511627776):zdz x0 fun r=>r=(x0,()):=by
 unfold zdz
 have e:bulk k18 x0=(bulk k7 x0.1+(bulk k7 x0.2.1+(0+(0+(0+0))))):=rfl
 exact⟨_,zw7 (by omega),_,zw7 (by omega),rfl⟩
theorem ztb {x0:TDep} (hb:bulk k18 x0≤1099511627776):z9j x0 x0:=zs0 _ _ (zrt hb)
theorem zpu {x0:List TDep} (hb:bulk k19 x0≤1099511627776):zby x0 fun r=>r=(x0,()):=by
 unfold zby
 exact z09a id (by have e:bulk k19 x0=x0.length+(x0.map (bulk k18)).sum:=rfl;omega) (fun y=>((y,()):List _×Unit)=(x0,())) (fun t B=>∃ y,z9j t y∧B y) (fun t ht B hB=>⟨_,ztb (by have h:=zdd (bulk k18) ht;have e:bulk k19 x0=x0.length+(x0.map (bulk k18)).sum:=rfl;omega),hB⟩) (by rw[List.map_id])
theorem z8v {x0:List TDep} (hb:bulk k19 x0≤1099511627776):z44 x0 x0:=zqf _ _ (zpu hb)
theorem zxl {x0:TRel} {x1:TRel}:zgn x0 x1 fun r=>r=(decide (x0=x1),()):=by
 unfold zgn
 refine z02j (fun h=>zgt (fun e=>h (by rw[e]))) (fun q0=>?_)
 refine z5y (fun h=>zgt (fun e=>h (by rw[e]))) (fun q1=>?_)
 refine z02j (fun h=>zgt (fun e=>h (by rw[e]))) (fun q2=>?_)
 exact ztg (Prod.ext q0 (Prod.ext q1 (Prod.ext q2 rfl)))
theorem zxk {x0:TRel} {x1:TRel}:zcy x0 x1 (decide (x0=x1)):=zyt _ _ _ zxl
theorem zv9 {x0:List TRel} {x1:List TRel}:zf5 x0 x1 fun r=>r=(decide (x0=x1),()):=by
 unfold zf5
 exact z07h (fun y=>((y,()):Bool×Unit)=(decide (x0=x1),())) (fun t u A B=>∃ y,zcy t u y∧z01 (!y) A B) (fun t ht u hu A B hA hB=>⟨_,zxk,zd1 hA hB⟩) rfl
theorem zvu {x0:List TRel} {x1:List TRel}:zey x0 x1 (decide (x0=x1)):=zvv _ _ _ zv9
theorem z0aj {x0:List Int} {x1:List Int}:ztx x0 x1 fun r=>r=(decide (x0=x1),()):=by
 unfold ztx
 exact z07h (fun y=>((y,()):Bool×Unit)=(decide (x0=x1),())) (fun t u A B=>z01 (t != u) A B) (fun t ht u hu A B hA hB=>z5y hA hB) rfl
theorem zs9 {x0:List Int} {x1:List Int}:zi8 x0 x1 (decide (x0=x1)):=z0d9 _ _ _ z0aj
theorem z0ar {x0:z00} {x1:z00}:zu8 x0 x1 fun r=>r=(decide (x0=x1),()):=by
 unfold zu8
 refine z5y (fun h=>zgt (fun e=>h (by rw[e]))) (fun q0=>?_)
 refine⟨_,zs9,zd1 (fun h=>zgt (fun e=>h (by rw[e]))) (fun q1=>?_)⟩
 exact ztg (Prod.ext q0 (Prod.ext q1 rfl))
theorem z02t {x0:z00} {x1:z00}:zi0 x0 x1 (decide (x0=x1)):=z0at _ _ _ z0ar
theorem z07g {x0:List z00} {x1:List z00}:zof x0 x1 fun r=>r=(decide (x0=x1),()):=by
 unfold zof
 exact z07h (fun y=>((y,()):Bool×Unit)=(decide (x0=x1),())) (fun t u A B=>∃ y,zi0 t u y∧z01 (!y) A B) (fun t ht u hu A B hA hB=>⟨_,z02t,zd1 hA hB⟩) rfl
theorem z07k {x0:List z00} {x1:List z00}:zoz x0 x1 (decide (x0=x1)):=z086 _ _ _ z07g
theorem zzv {x0:z09} {x1:z09}:zgx x0 x1 fun r=>r=(decide (x0=x1),()):=by
 unfold zgx
 refine⟨_,zvu,zd1 (fun h=>zgt (fun e=>h (by rw[e]))) (fun q0=>?_)⟩
 refine⟨_,z07k,zd1 (fun h=>zgt (fun e=>h (by rw[e]))) (fun q1=>?_)⟩
 exact ztg (Prod.ext q0 (Prod.ext q1 rfl))
theorem zy1 {x0:z09} {x1:z09}:zgc x0 x1 (decide (x0=x1)):=zyz _ _ _ zzv
theorem ztr {x0:z05} {x1:z05}:ze4 x0 x1 fun r=>r=(decide (x0=x1),()):=by
 unfold ze4
 refine z5y (fun h=>zgt (fun e=>h (by rw[e]))) (fun q0=>?_)
 refine z5y (fun h=>zgt (fun e=>h (by rw[e]))) (fun q1=>?_)
 refine⟨_,zs9,zd1 (fun h=>zgt (fun e=>h (by rw[e]))) (fun q2=>?_)⟩
 exact ztg (Prod.ext q0 (Prod.ext q1 (Prod.ext q2 rfl)))
theorem zuf {x0:z05} {x1:z05}:za5 x0 x1 (decide (x0=x1)):=zrg _ _ _ ztr
theorem zqb {x0:List z05} {x1:List z05}:zcf x0 x1 fun r=>r=(decide (x0=x1),()):=by
 unfold zcf
 exact z07h (fun y=>((y,()):Bool×Unit)=(decide (x0=x1),())) (fun t u A B=>∃ y,za5 t u y∧z01 (!y) A B) (fun t ht u hu A B hA hB=>⟨_,zuf,zd1 hA hB⟩) rfl
theorem zpy {x0:List z05} {x1:List z05}:zbz x0 x1 (decide (x0=x1)):=zqm _ _ _ zqb
theorem zqe {x0:TSk} {x1:TSk}:zcb x0 x1 fun r=>r=(decide (x0=x1),()):=by
 unfold zcb
 refine⟨_,zy1,zd1 (fun h=>zgt (fun e=>h (by rw[e]))) (fun q0=>?_)⟩
 refine⟨_,zpy,zd1 (fun h=>zgt (fun e=>h (by rw[e]))) (fun q1=>?_)⟩
 exact ztg (Prod.ext q0 (Prod.ext q1 rfl))
theorem z8u {x0:TSk} {x1:TSk}:z49 x0 x1 (decide (x0=x1)):=zq4 _ _ _ zqe
theorem z09o {x0:z00} {x1:z00}:zut x0 x1 fun r=>r=(decide (x0=x1),()):=by
 unfold zut
 refine z5y (fun h=>zgt (fun e=>h (by rw[e]))) (fun q0=>?_)
 refine⟨_,zs9,zd1 (fun h=>zgt (fun e=>h (by rw[e]))) (fun q1=>?_)⟩
 exact ztg (Prod.ext q0 (Prod.ext q1 rfl))
theorem z0ce {x0:z00} {x1:z00}:zmm x0 x1 (decide (x0=x1)):=z0ca _ _ _ z09o
theorem z081 {x0:List z00} {x1:List z00}:zo9 x0 x1 fun r=>r=(decide (x0=x1),()):=by
 unfold zo9
 exact z07h (fun y=>((y,()):Bool×Unit)=(decide (x0=x1),())) (fun t u A B=>∃ y,zmm t u y∧z01 (!y) A B) (fun t ht u hu A B hA hB=>⟨_,z0ce,zd1 hA hB⟩) rfl
theorem zxj {x0:List z00} {x1:List z00}:zjw x0 x1 (decide (x0=x1)):=z07b _ _ _ z081
theorem zth {x0:TDep} {x1:TDep}:zdy x0 x1 fun r=>r=(decide (x0=x1),()):=by
 unfold zdy
 refine⟨_,zxj,zd1 (fun h=>zgt (fun e=>h (by rw[e]))) (fun q0=>?_)⟩
 refine⟨_,zxj,zd1 (fun h=>zgt (fun e=>h (by rw[e]))) (fun q1=>?_)⟩
 refine z02j (fun h=>zgt (fun e=>h (by rw[e]))) (fun q2=>?_)
 refine z5y (fun h=>zgt (fun e=>h (by rw[e]))) (fun q3=>?_)
 refine z5y (fun h=>zgt (fun e=>h (by rw[e]))) (fun q4=>?_)
 exact ztg (Prod.ext q0 (Prod.ext q1 (Prod.ext q2 (Prod.ext q3 (Prod.ext q4 rfl)))))
theorem zsk {x0:TDep} {x1:TDep}:z9d x0 x1 (decide (x0=x1)):=zs7 _ _ _ zth
theorem zql {x0:List TDep} {x1:List TDep}:zbs x0 x1 fun r=>r=(decide (x0=x1),()):=by
 unfold zbs
 exact z07h (fun y=>((y,()):Bool×Unit)=(decide (x0=x1),())) (fun t u A B=>∃ y,z9d t u y∧z01 (!y) A B) (fun t ht u hu A B hA hB=>⟨_,zsk,zd1 hA hB⟩) rfl
theorem zpw {x0:List TDep} {x1:List TDep}:zbq x0 x1 (decide (x0=x1)):=zqq _ _ _ zql
def dg:Nat→Int→List UInt8→List UInt8
 |0,_,s=>s
 |d+1,k,s=>if k > 0 then dg d (Int.tdiv k 10) (bytesOf ([IntKind.u8.wrap (w64 (48+Int.tmod k 10))]:List Int)++s)else s
theorem z0hx:∀(d:Nat) (k:Int) (s:List UInt8),¬ k > 0→dg d k s=s
 |0,_,_,_=>rfl
 |d+1,k,s,h=>by unfold dg;rw[if_neg h]
theorem exMT {x0:Int} (h0:0≤x0) (h1:x0≤9223372036854775807):∃ y,ze0 x0 y:=by
 by_cases hz:x0≤0
 · exact⟨_,zuz _ _ (by unfold zlz;rw[z4h hz])⟩
 · refine⟨[109]++dg 20 x0 [],zuz _ _ ?_⟩
   unfold zlz
   rw[z2j hz]
   refine z1v (fun d (a:Int×List UInt8×Unit)=>0≤a.1∧a.1<10 ^ d∧a.1≤9223372036854775807∧a.2.1.length+d≤100∧dg d a.1 a.2.1=dg 20 x0 []) ?_ ?_ (n:=20) ⟨h0,by show x0<10 ^ 20;omega,h1,by simp,rfl⟩
   · rintro⟨k,s,_⟩ ⟨q1,q2,q3,q4,q5⟩ X
     simp only at q1 q2 q3 q4 q5 ⊢
     rw[z2j (by omega)]
     refine⟨by simp only[List.length_cons,List.length_nil];unfold maxL;omega,?_⟩
     rw[←q5];rfl
   · rintro d ⟨k,s,_⟩ ⟨q1,q2,q3,q4,q5⟩ X hX
     simp only at q1 q2 q3 q4 q5 ⊢
     by_cases hk:k > 0
     · rw[z4h hk]
       have hl:(bytesOf ([IntKind.u8.wrap (w64 ((48:Int)+(Int.tmod k (10:Int))))]:List Int)).length=1:=rfl
       have hdiv:Int.tdiv k 10=k / 10:=Int.tdiv_eq_ediv_of_nonneg q1
       refine⟨by decide,by rw[hl];unfold maxL;omega,by decide,?_⟩
       rw[z1g (by rw[hdiv];omega) (by rw[hdiv];omega)]
       refine hX _ ⟨by show 0≤Int.tdiv k 10;rw[hdiv];omega,?_,by show Int.tdiv k 10≤_;rw[hdiv];omega,?_,?_⟩
       · show Int.tdiv k 10<10 ^ d
         rw[hdiv]
         rw[Int.pow_succ]at q2
         omega
       · show(bytesOf _++s).length+d≤100
         rw[List.length_append,hl];omega
       · unfold dg at q5
         rw[if_pos hk]at q5
         exact q5
     · rw[z2j hk]
       refine⟨by simp only[List.length_cons,List.length_nil];unfold maxL;omega,?_⟩
       rw[z0hx _ _ _ hk]at q5
       rw[←q5]
noncomputable def mtx (k:Int):List UInt8:=if h:0≤k∧k≤9223372036854775807 then Classical.choose (exMT h.1 h.2)else[]
theorem z0ii {k:Int} (h0:0≤k) (h1:k≤9223372036854775807):ze0 k (mtx k):=by
 unfold mtx
 rw[dif_pos ⟨h0,h1⟩]
 exact Classical.choose_spec (exMT h0 h1)
theorem zkk {x0:List TRel} {x1:Int} (h0:0≤x1) (hk:x1+(wt k3 x0:Int)≤4611686018427387904) (hb:bulk k3 x0≤1099511627776):z87 x0 x1 fun r=>r=(x1+(wt k3 x0:Int),(mk mtx k3 x0 x1,())):=by
 unfold z87
 have e:bulk k3 x0=x0.length+(x0.map (bulk k2)).sum:=rfl
 have hL:(z67 (α:=(List UInt8)×Int×Bool×Unit) (mk mtx k2) (wt k2) x0 x1).length=x0.length:=z2u _ _ _ _
 refine zoc (α:=(List UInt8)×Int×Bool×Unit) (mk mtx k2) (wt k2) ?_ ?_
 · intro i j l hi hl hm hj hw X hX
   have ew:wt k2 l[i]=(1+(1+(1+0))):=rfl
   have ek:wt k3 x0=(List.map (α:=(List UInt8)×Int×Bool×Unit) (wt k2) x0).sum:=rfl
   have hbt:=zdd (bulk k2) hm
   have eb:bulk k2 l[i]=(List.length l[i].1+(0+(0+0))):=rfl
   simp only
   refine lenI fun _=>?_
   rw[z4h (by omega)]
   simp only[Int.toNat_natCast,List.length_set,List.set_set,z4l hi,z0r hi,zf8,zfi hi,and_self,true_and,ne_eq,zvg,not_false_eq_true]
   rw[z03 (i:=i) (by omega)]
   refine⟨_,z0ii (k:=j) (by omega) (by omega),?_⟩
   rw[z1g (n:=j+1) (by omega) (by omega)]
   rw[z1g (n:=j+1+1) (by omega) (by omega)]
   rw[z1g (n:=j+1+1+1) (by omega) (by omega)]
   exact hX _ (by omega) _ rfl
 · intro X
   simp only
   refine lenI fun _=>?_
   rw[z2j (by omega)]
   rfl
theorem zkl {x0:List TRel} {x1:Int} (h0:0≤x1) (hk:x1+(wt k3 x0:Int)≤4611686018427387904) (hb:bulk k3 x0≤1099511627776):z83 x0 x1 (x1+(wt k3 x0:Int)) (mk mtx k3 x0 x1):=zkj _ _ _ _ (zkk h0 hk hb)
theorem zuq {x0:List Int} {x1:Int} (h0:0≤x1) (hk:x1+(wt k4 x0:Int)≤4611686018427387904) (hb:bulk k4 x0≤1099511627776):zdn x0 x1 fun r=>r=(x1+(wt k4 x0:Int),(mk mtx k4 x0 x1,())):=by
 unfold zdn
 have e:bulk k4 x0=x0.length+(x0.map (bulk (.int .i64))).sum:=rfl
 have hL:(z67 (α:=Int) (mk mtx (.int .i64)) (wt (.int .i64)) x0 x1).length=x0.length:=z2u _ _ _ _
 refine zoc (α:=Int) (mk mtx (.int .i64)) (wt (.int .i64)) ?_ ?_
 · intro i j l hi hl hm hj hw X hX
   have ew:wt (.int .i64) l[i]=1:=rfl
   have ek:wt k4 x0=(List.map (α:=Int) (wt (.int .i64)) x0).sum:=rfl
   have hbt:=zdd (bulk (.int .i64)) hm
   have eb:bulk (.int .i64) l[i]=0:=rfl
   simp only
   refine lenI fun _=>?_
   rw[z4h (by omega)]
   simp only[Int.toNat_natCast,List.length_set,List.set_set,z4l hi,z0r hi,zf8,zfi hi,and_self,true_and,ne_eq,zvg,not_false_eq_true]
   rw[z03 (i:=i) (by omega)]
   rw[z1g (n:=j+1) (by omega) (by omega)]
   exact hX _ (by omega) _ rfl
 · intro X
   simp only
   refine lenI fun _=>?_
   rw[z2j (by omega)]
   rfl
theorem z9h {x0:List Int} {x1:Int} (h0:0≤x1) (hk:x1+(wt k4 x0:Int)≤4611686018427387904) (hb:bulk k4 x0≤1099511627776):z59 x0 x1 (x1+(wt k4 x0:Int)) (mk mtx k4 x0 x1):=zun _ _ _ _ (zuq h0 hk hb)
theorem zj7 {x0:List z00} {x1:Int} (h0:0≤x1) (hk:x1+(wt k7 x0:Int)≤4611686018427387904) (hb:bulk k7 x0≤1099511627776):z7d x0 x1 fun r=>r=(x1+(wt k7 x0:Int),(mk mtx k7 x0 x1,())):=by
 unfold z7d
 have e:bulk k7 x0=x0.length+(x0.map (bulk k6)).sum:=rfl
 have hL:(z67 (α:=Int×(List Int)×Unit) (mk mtx k6) (wt k6) x0 x1).length=x0.length:=z2u _ _ _ _
 refine zoc (α:=Int×(List Int)×Unit) (mk mtx k6) (wt k6) ?_ ?_
 · intro i j l hi hl hm hj hw X hX
   have ew:wt k6 l[i]=(1+(wt k4 l[i].2.1+0)):=rfl
   have ek:wt k7 x0=(List.map (α:=Int×(List Int)×Unit) (wt k6) x0).sum:=rfl
   have hbt:=zdd (bulk k6) hm
   have eb:bulk k6 l[i]=(0+(bulk k4 l[i].2.1+0)):=rfl
   simp only
   refine lenI fun _=>?_
   rw[z4h (by omega)]
   simp only[Int.toNat_natCast,List.length_set,List.set_set,z4l hi,z0r hi,zf8,zfi hi,and_self,true_and,ne_eq,zvg,not_false_eq_true]
   rw[z03 (i:=i) (by omega)]
   rw[z1g (n:=j+1) (by omega) (by omega)]
   refine⟨_,_,z9h (x0:=l[i].2.1) (x1:=j+1) (by omega) (by omega) (by omega),?_⟩
   exact hX _ (by omega) _ rfl
 · intro X
   simp only
   refine lenI fun _=>?_
   rw[z2j (by omega)]
   rfl
theorem ziu {x0:List z00} {x1:Int} (h0:0≤x1) (hk:x1+(wt k7 x0:Int)≤4611686018427387904) (hb:bulk k7 x0≤1099511627776):z74 x0 x1 (x1+(wt k7 x0:Int)) (mk mtx k7 x0 x1):=zhz _ _ _ _ (zj7 h0 hk hb)
theorem zc2 {x0:z09} {x1:Int} (h0:0≤x1) (hk:x1+(wt k9 x0:Int)≤4611686018427387904) (hb:bulk k9 x0≤1099511627776):z3n x0 x1 fun r=>r=(x1+(wt k3 x0.1:Int)+(wt k7 x0.2.1:Int),(((mk mtx k3 x0.1 (x1)),((mk mtx k7 x0.2.1 (x1+(wt k3 x0.1:Int))),())),())):=by
 unfold z3n
 have e:bulk k9 x0=(bulk k3 x0.1+(bulk k7 x0.2.1+0)):=rfl
 have ew:wt k9 x0=(wt k3 x0.1+(wt k7 x0.2.1+0)):=rfl
 refine⟨_,_,zkl (x0:=x0.1) (x1:=x1) (by omega) (by omega) (by omega),?_⟩
 refine⟨_,_,ziu (x0:=x0.2.1) (x1:=x1+(wt k3 x0.1:Int)) (by omega) (by omega) (by omega),?_⟩
 rfl
theorem zcg {x0:z09} {x1:Int} (h0:0≤x1) (hk:x1+(wt k9 x0:Int)≤4611686018427387904) (hb:bulk k9 x0≤1099511627776):z3m x0 x1 (x1+(wt k3 x0.1:Int)+(wt k7 x0.2.1:Int)) ((mk mtx k3 x0.1 (x1)),((mk mtx k7 x0.2.1 (x1+(wt k3 x0.1:Int))),())):=zbt _ _ _ _ (zc2 h0 hk hb)
theorem zbr {x0:List z05} {x1:Int} (h0:0≤x1) (hk:x1+(wt k11 x0:Int)≤4611686018427387904) (hb:bulk k11 x0≤1099511627776):z3o x0 x1 fun r=>r=(x1+(wt k11 x0:Int),(mk mtx k11 x0 x1,())):=by
 unfold z3o
 have e:bulk k11 x0=x0.length+(x0.map (bulk k10)).sum:=rfl
 have hL:(z67 (α:=Int×Int×(List Int)×Unit) (mk mtx k10) (wt k10) x0 x1).length=x0.length:=z2u _ _ _ _
 refine zoc (α:=Int×Int×(List Int)×Unit) (mk mtx k10) (wt k10) ?_ ?_
 · intro i j l hi hl hm hj hw X hX
   have ew:wt k10 l[i]=(1+(1+(wt k4 l[i].2.2.1+0))):=rfl
   have ek:wt k11 x0=(List.map (α:=Int×Int×(List Int)×Unit) (wt k10) x0).sum:=rfl
   have hbt:=zdd (bulk k10) hm
   have eb:bulk k10 l[i]=(0+(0+(bulk k4 l[i].2.2.1+0))):=rfl
   simp only
   refine lenI fun _=>?_
   rw[z4h (by omega)]
   simp only[Int.toNat_natCast,List.length_set,List.set_set,z4l hi,z0r hi,zf8,zfi hi,and_self,true_and,ne_eq,zvg,not_false_eq_true]
   rw[z03 (i:=i) (by omega)]
   rw[z1g (n:=j+1) (by omega) (by omega)]
   rw[z1g (n:=j+1+1) (by omega) (by omega)]
   refine⟨_,_,z9h (x0:=l[i].2.2.1) (x1:=j+1+1) (by omega) (by omega) (by omega),?_⟩
   exact hX _ (by omega) _ rfl
 · intro X
   simp only
   refine lenI fun _=>?_
   rw[z2j (by omega)]
   rfl
theorem zca {x0:List z05} {x1:Int} (h0:0≤x1) (hk:x1+(wt k11 x0:Int)≤4611686018427387904) (hb:bulk k11 x0≤1099511627776):z3l x0 x1 (x1+(wt k11 x0:Int)) (mk mtx k11 x0 x1):=zc8 _ _ _ _ (zbr h0 hk hb)
theorem z5k {x0:TSk} {x1:Int} (h0:0≤x1) (hk:x1+(wt k13 x0:Int)≤4611686018427387904) (hb:bulk k13 x0≤1099511627776):z11 x0 x1 fun r=>r=(x1+(wt k3 x0.1.1:Int)+(wt k7 x0.1.2.1:Int)+(wt k11 x0.2.1:Int),((((mk mtx k3 x0.1.1 (x1)),((mk mtx k7 x0.1.2.1 (x1+(wt k3 x0.1.1:Int))),())),((mk mtx k11 x0.2.1 (x1+(wt k3 x0.1.1:Int)+(wt k7 x0.1.2.1:Int))),())),())):=by
 unfold z11
 have e:bulk k13 x0=((bulk k3 x0.1.1+(bulk k7 x0.1.2.1+0))+(bulk k11 x0.2.1+0)):=rfl
 have ew:wt k13 x0=((wt k3 x0.1.1+(wt k7 x0.1.2.1+0))+(wt k11 x0.2.1+0)):=rfl
 have eb1:bulk k9 x0.1=(bulk k3 x0.1.1+(bulk k7 x0.1.2.1+0)):=rfl
 have ew1:wt k9 x0.1=(wt k3 x0.1.1+(wt k7 x0.1.2.1+0)):=rfl
 refine⟨_,_,zcg (x0:=x0.1) (x1:=x1) (by omega) (by omega) (by omega),?_⟩
 refine⟨_,_,zca (x0:=x0.2.1) (x1:=x1+(wt k3 x0.1.1:Int)+(wt k7 x0.1.2.1:Int)) (by omega) (by omega) (by omega),?_⟩
 rfl
theorem z2g {x0:TSk} {x1:Int} (h0:0≤x1) (hk:x1+(wt k13 x0:Int)≤4611686018427387904) (hb:bulk k13 x0≤1099511627776):z0o x0 x1 (x1+(wt k3 x0.1.1:Int)+(wt k7 x0.1.2.1:Int)+(wt k11 x0.2.1:Int)) (((mk mtx k3 x0.1.1 (x1)),((mk mtx k7 x0.1.2.1 (x1+(wt k3 x0.1.1:Int))),())),((mk mtx k11 x0.2.1 (x1+(wt k3 x0.1.1:Int)+(wt k7 x0.1.2.1:Int))),())):=z5j _ _ _ _ (z5k h0 hk hb)
theorem zis {x0:List z00} {x1:Int} (h0:0≤x1) (hk:x1+(wt k7 x0:Int)≤4611686018427387904) (hb:bulk k7 x0≤1099511627776):z6v x0 x1 fun r=>r=(x1+(wt k7 x0:Int),(mk mtx k7 x0 x1,())):=by
 unfold z6v
 have e:bulk k7 x0=x0.length+(x0.map (bulk k6)).sum:=rfl
 have hL:(z67 (α:=Int×(List Int)×Unit) (mk mtx k6) (wt k6) x0 x1).length=x0.length:=z2u _ _ _ _
 refine zoc (α:=Int×(List Int)×Unit) (mk mtx k6) (wt k6) ?_ ?_
 · intro i j l hi hl hm hj hw X hX
   have ew:wt k6 l[i]=(1+(wt k4 l[i].2.1+0)):=rfl
   have ek:wt k7 x0=(List.map (α:=Int×(List Int)×Unit) (wt k6) x0).sum:=rfl
   have hbt:=zdd (bulk k6) hm
   have eb:bulk k6 l[i]=(0+(bulk k4 l[i].2.1+0)):=rfl
   simp only
   refine lenI fun _=>?_
   rw[z4h (by omega)]
   simp only[Int.toNat_natCast,List.length_set,List.set_set,z4l hi,z0r hi,zf8,zfi hi,and_self,true_and,ne_eq,zvg,not_false_eq_true]
   rw[z03 (i:=i) (by omega)]
   rw[z1g (n:=j+1) (by omega) (by omega)]
   refine⟨_,_,z9h (x0:=l[i].2.1) (x1:=j+1) (by omega) (by omega) (by omega),?_⟩
   exact hX _ (by omega) _ rfl
 · intro X
   simp only
   refine lenI fun _=>?_
   rw[z2j (by omega)]
   rfl
theorem zbc {x0:List z00} {x1:Int} (h0:0≤x1) (hk:x1+(wt k7 x0:Int)≤4611686018427387904) (hb:bulk k7 x0≤1099511627776):z4k x0 x1 (x1+(wt k7 x0:Int)) (mk mtx k7 x0 x1):=zim _ _ _ _ (zis h0 hk hb)
theorem z7x {x0:List TDep} {x1:Int} (h0:0≤x1) (hk:x1+(wt k19 x0:Int)≤4611686018427387904) (hb:bulk k19 x0≤1099511627776):z1s x0 x1 fun r=>r=(x1+(wt k19 x0:Int),(mk mtx k19 x0 x1,())):=by
 unfold z1s
 have e:bulk k19 x0=x0.length+(x0.map (bulk k18)).sum:=rfl
 have hL:(z67 (α:=(List (Int×(List Int)×Unit))×(List (Int×(List Int)×Unit))×Bool×Int×Int×Unit) (mk mtx k18) (wt k18) x0 x1).length=x0.length:=z2u _ _ _ _
 refine zoc (α:=(List (Int×(List Int)×Unit))×(List (Int×(List Int)×Unit))×Bool×Int×Int×Unit) (mk mtx k18) (wt k18) ?_ ?_
 · intro i j l hi hl hm hj hw X hX
   have ew:wt k18 l[i]=(wt k7 l[i].1+(wt k7 l[i].2.1+(1+(1+(1+0))))):=rfl
   have ek:wt k19 x0=(List.map (α:=(List (Int×(List Int)×Unit))×(List (Int×(List Int)×Unit))×Bool×Int×Int×Unit) (wt k18) x0).sum:=rfl
   have hbt:=zdd (bulk k18) hm
   have eb:bulk k18 l[i]=(bulk k7 l[i].1+(bulk k7 l[i].2.1+(0+(0+(0+0))))):=rfl
   simp only
   refine lenI fun _=>?_
   rw[z4h (by omega)]
   simp only[Int.toNat_natCast,List.length_set,List.set_set,z4l hi,z0r hi,zf8,zfi hi,and_self,true_and,ne_eq,zvg,not_false_eq_true]
   rw[z03 (i:=i) (by omega)]
   refine⟨_,_,zbc (x0:=l[i].1) (x1:=j) (by omega) (by omega) (by omega),?_⟩
   refine⟨_,_,zbc (x0:=l[i].2.1) (x1:=j+(wt k7 l[i].1:Int)) (by omega) (by omega) (by omega),?_⟩
   rw[z1g (n:=j+(wt k7 l[i].1:Int)+(wt k7 l[i].2.1:Int)+1) (by omega) (by omega)]
   rw[z1g (n:=j+(wt k7 l[i].1:Int)+(wt k7 l[i].2.1:Int)+1+1) (by omega) (by omega)]
   rw[z1g (n:=j+(wt k7 l[i].1:Int)+(wt k7 l[i].2.1:Int)+1+1+1) (by omega) (by omega)]
   exact hX _ (by omega) _ rfl
 · intro X
   simp only
   refine lenI fun _=>?_
   rw[z2j (by omega)]
   rfl
theorem z7n {x0:List TDep} {x1:Int} (h0:0≤x1) (hk:x1+(wt k19 x0:Int)≤4611686018427387904) (hb:bulk k19 x0≤1099511627776):z1u x0 x1 (x1+(wt k19 x0:Int)) (mk mtx k19 x0 x1):=z7v _ _ _ _ (z7x h0 hk hb)
theorem zls {x0:z00} {x1:Int} (h0:0≤x1) (hk:x1+(wt k6 x0:Int)≤4611686018427387904) (hb:bulk k6 x0≤1099511627776):z8y x0 x1 fun r=>r=(x1+(wt k4 x0.2.1:Int),((x0.1,((mk mtx k4 x0.2.1 (x1)),())),())):=by
 unfold z8y
 have e:bulk k6 x0=(0+(bulk k4 x0.2.1+0)):=rfl
 have ew:wt k6 x0=(1+(wt k4 x0.2.1+0)):=rfl
 refine⟨_,_,z9h (x0:=x0.2.1) (x1:=x1) (by omega) (by omega) (by omega),?_⟩
 rfl
theorem zlk {x0:z00} {x1:Int} (h0:0≤x1) (hk:x1+(wt k6 x0:Int)≤4611686018427387904) (hb:bulk k6 x0≤1099511627776):z8z x0 x1 (x1+(wt k4 x0.2.1:Int)) (x0.1,((mk mtx k4 x0.2.1 (x1)),())):=zma _ _ _ _ (zls h0 hk hb)
theorem zpq {x0:List TRel} {x1:Int} (h0:0≤x1) (hk:x1+(wt k3 x0:Int)≤4611686018427387904) (hb:bulk k3 x0≤1099511627776):zc4 (z67 (mk mtx k2) (wt k2) x0 x1) x1 fun r=>r=(x1+(wt k3 x0:Int),()):=by
 unfold zc4
 have e:bulk k3 x0=x0.length+(x0.map (bulk k2)).sum:=rfl
 have hL:(z67 (α:=(List UInt8)×Int×Bool×Unit) (mk mtx k2) (wt k2) x0 x1).length=x0.length:=z2u _ _ _ _
 refine zzp (α:=(List UInt8)×Int×Bool×Unit) (x:=x0) (mk mtx k2) (wt k2) ?_ ?_
 · intro i j hi h hj hw hat X hX
   have hm:=List.getElem_mem hi
   have ew:wt k2 x0[i]=(1+(1+(1+0))):=rfl
   have ek:wt k3 x0=(List.map (α:=(List UInt8)×Int×Bool×Unit) (wt k2) x0).sum:=rfl
   have hbt:=zdd (bulk k2) hm
   have eb:bulk k2 x0[i]=(List.length x0[i].1+(0+(0+0))):=rfl
   simp only
   refine lenI fun _=>?_
   rw[z4h (by omega)]
   simp only[Int.toNat_natCast,List.length_set,List.set_set,z4l h,z0r h,zf8,zfi h,and_self,true_and,ne_eq,zvg,not_false_eq_true,hat]
   rw[z03 (i:=i) (by omega)]
   refine⟨_,z0ii (k:=j) (by omega) (by omega),?_⟩
   refine z02j (fun h=>(h rfl).elim) fun _=>?_
   rw[z1g (n:=j+1) (by omega) (by omega)]
   refine z5y (fun h=>(h rfl).elim) fun _=>?_
   rw[z1g (n:=j+1+1) (by omega) (by omega)]
   refine z02j (fun h=>(h rfl).elim) fun _=>?_
   rw[z1g (n:=j+1+1+1) (by omega) (by omega)]
   exact hX _ (by omega)
 · intro X
   simp only
   refine lenI fun _=>?_
   rw[z2j (by omega)]
   rfl
theorem zq6 {x0:List TRel} {x1:Int} (h0:0≤x1) (hk:x1+(wt k3 x0:Int)≤4611686018427387904) (hb:bulk k3 x0≤1099511627776):zbx (mk mtx k3 x0 x1) x1 (x1+(wt k3 x0:Int)):=zqc _ _ _ (zpq h0 hk hb)
theorem z030 {x0:List Int} {x1:Int} (h0:0≤x1) (hk:x1+(wt k4 x0:Int)≤4611686018427387904) (hb:bulk k4 x0≤1099511627776):zmc (z67 (mk mtx (.int .i64)) (wt (.int .i64)) x0 x1) x1 fun r=>r=(x1+(wt k4 x0:Int),()):=by
 unfold zmc
 have e:bulk k4 x0=x0.length+(x0.map (bulk (.int .i64))).sum:=rfl
 have hL:(z67 (α:=Int) (mk mtx (.int .i64)) (wt (.int .i64)) x0 x1).length=x0.length:=z2u _ _ _ _
 refine zzp (α:=Int) (x:=x0) (mk mtx (.int .i64)) (wt (.int .i64)) ?_ ?_
 · intro i j hi h hj hw hat X hX
   have hm:=List.getElem_mem hi
   have ew:wt (.int .i64) x0[i]=1:=rfl
   have ek:wt k4 x0=(List.map (α:=Int) (wt (.int .i64)) x0).sum:=rfl
   have hbt:=zdd (bulk (.int .i64)) hm
   have eb:bulk (.int .i64) x0[i]=0:=rfl
   simp only
   refine lenI fun _=>?_
   rw[z4h (by omega)]
   simp only[Int.toNat_natCast,List.length_set,List.set_set,z4l h,z0r h,zf8,zfi h,and_self,true_and,ne_eq,zvg,not_false_eq_true,hat]
   rw[z03 (i:=i) (by omega)]
   refine z5y (fun h=>(h rfl).elim) fun _=>?_
   rw[z1g (n:=j+1) (by omega) (by omega)]
   exact hX _ (by omega)
 · intro X
   simp only
   refine lenI fun _=>?_
   rw[z2j (by omega)]
   rfl
theorem zsr {x0:List Int} {x1:Int} (h0:0≤x1) (hk:x1+(wt k4 x0:Int)≤4611686018427387904) (hb:bulk k4 x0≤1099511627776):zgj (mk mtx k4 x0 x1) x1 (x1+(wt k4 x0:Int)):=z04d _ _ _ (z030 h0 hk hb)
theorem z00c {x0:List z00} {x1:Int} (h0:0≤x1) (hk:x1+(wt k7 x0:Int)≤4611686018427387904) (hb:bulk k7 x0≤1099511627776):zje (z67 (mk mtx k6) (wt k6) x0 x1) x1 fun r=>r=(x1+(wt k7 x0:Int),()):=by
 unfold zje
 have e:bulk k7 x0=x0.length+(x0.map (bulk k6)).sum:=rfl
 have hL:(z67 (α:=Int×(List Int)×Unit) (mk mtx k6) (wt k6) x0 x1).length=x0.length:=z2u _ _ _ _
 refine zzp (α:=Int×(List Int)×Unit) (x:=x0) (mk mtx k6) (wt k6) ?_ ?_
 · intro i j hi h hj hw hat X hX
   have hm:=List.getElem_mem hi
   have ew:wt k6 x0[i]=(1+(wt k4 x0[i].2.1+0)):=rfl
   have ek:wt k7 x0=(List.map (α:=Int×(List Int)×Unit) (wt k6) x0).sum:=rfl
   have hbt:=zdd (bulk k6) hm
   have eb:bulk k6 x0[i]=(0+(bulk k4 x0[i].2.1+0)):=rfl
   simp only
   refine lenI fun _=>?_
   rw[z4h (by omega)]
   simp only[Int.toNat_natCast,List.length_set,List.set_set,z4l h,z0r h,zf8,zfi h,and_self,true_and,ne_eq,zvg,not_false_eq_true,hat]
   rw[z03 (i:=i) (by omega)]
   refine z5y (fun h=>(h rfl).elim) fun _=>?_
   rw[z1g (n:=j+1) (by omega) (by omega)]
   refine⟨_,zsr (x0:=x0[i].2.1) (x1:=j+1) (by omega) (by omega) (by omega),?_⟩
   rw[z2j (by omega)]
   exact hX _ (by omega)
 · intro X
   simp only
   refine lenI fun _=>?_
   rw[z2j (by omega)]
   rfl
theorem z02o {x0:List z00} {x1:Int} (h0:0≤x1) (hk:x1+(wt k7 x0:Int)≤4611686018427387904) (hb:bulk k7 x0≤1099511627776):zj6 (mk mtx k7 x0 x1) x1 (x1+(wt k7 x0:Int)):=z02d _ _ _ (z00c h0 hk hb)
theorem zsd {x0:z09} {x1:Int} (h0:0≤x1) (hk:x1+(wt k9 x0:Int)≤4611686018427387904) (hb:bulk k9 x0≤1099511627776):zdm ((mk mtx k3 x0.1 (x1)),((mk mtx k7 x0.2.1 (x1+(wt k3 x0.1:Int))),())) x1 fun r=>r=(x1+(wt k3 x0.1:Int)+(wt k7 x0.2.1:Int),()):=by
 unfold zdm
 have e:bulk k9 x0=(bulk k3 x0.1+(bulk k7 x0.2.1+0)):=rfl
 have ew:wt k9 x0=(wt k3 x0.1+(wt k7 x0.2.1+0)):=rfl
 refine⟨_,zq6 (x0:=x0.1) (x1:=x1) (by omega) (by omega) (by omega),?_⟩
 rw[z2j (by omega)]
 refine⟨_,z02o (x0:=x0.2.1) (x1:=x1+(wt k3 x0.1:Int)) (by omega) (by omega) (by omega),?_⟩
 rw[z2j (by omega)]
 all_goals rfl
theorem zro {x0:z09} {x1:Int} (h0:0≤x1) (hk:x1+(wt k9 x0:Int)≤4611686018427387904) (hb:bulk k9 x0≤1099511627776):ze2 ((mk mtx k3 x0.1 (x1)),((mk mtx k7 x0.2.1 (x1+(wt k3 x0.1:Int))),())) x1 (x1+(wt k3 x0.1:Int)+(wt k7 x0.2.1:Int)):=ztl _ _ _ (zsd h0 hk hb)
theorem znp {x0:List z05} {x1:Int} (h0:0≤x1) (hk:x1+(wt k11 x0:Int)≤4611686018427387904) (hb:bulk k11 x0≤1099511627776):z9p (z67 (mk mtx k10) (wt k10) x0 x1) x1 fun r=>r=(x1+(wt k11 x0:Int),()):=by
 unfold z9p
 have e:bulk k11 x0=x0.length+(x0.map (bulk k10)).sum:=rfl
 have hL:(z67 (α:=Int×Int×(List Int)×Unit) (mk mtx k10) (wt k10) x0 x1).length=x0.length:=z2u _ _ _ _
 refine zzp (α:=Int×Int×(List Int)×Unit) (x:=x0) (mk mtx k10) (wt k10) ?_ ?_
 · intro i j hi h hj hw hat X hX
   have hm:=List.getElem_mem hi
   have ew:wt k10 x0[i]=(1+(1+(wt k4 x0[i].2.2.1+0))):=rfl
   have ek:wt k11 x0=(List.map (α:=Int×Int×(List Int)×Unit) (wt k10) x0).sum:=rfl
   have hbt:=zdd (bulk k10) hm
   have eb:bulk k10 x0[i]=(0+(0+(bulk k4 x0[i].2.2.1+0))):=rfl
   simp only
   refine lenI fun _=>?_
   rw[z4h (by omega)]
   simp only[Int.toNat_natCast,List.length_set,List.set_set,z4l h,z0r h,zf8,zfi h,and_self,true_and,ne_eq,zvg,not_false_eq_true,hat]
   rw[z03 (i:=i) (by omega)]
   refine z5y (fun h=>(h rfl).elim) fun _=>?_
   rw[z1g (n:=j+1) (by omega) (by omega)]
   refine z5y (fun h=>(h rfl).elim) fun _=>?_
   rw[z1g (n:=j+1+1) (by omega) (by omega)]
   refine⟨_,zsr (x0:=x0[i].2.2.1) (x1:=j+1+1) (by omega) (by omega) (by omega),?_⟩
   rw[z2j (by omega)]
   exact hX _ (by omega)
 · intro X
   simp only
   refine lenI fun _=>?_
   rw[z2j (by omega)]
   rfl
theorem zn0 {x0:List z05} {x1:Int} (h0:0≤x1) (hk:x1+(wt k11 x0:Int)≤4611686018427387904) (hb:bulk k11 x0≤1099511627776):z9m (mk mtx k11 x0 x1) x1 (x1+(wt k11 x0:Int)):=znx _ _ _ (znp h0 hk hb)
theorem znj {x0:TSk} {x1:Int} (h0:0≤x1) (hk:x1+(wt k13 x0:Int)≤4611686018427387904) (hb:bulk k13 x0≤1099511627776):z99 (((mk mtx k3 x0.1.1 (x1)),((mk mtx k7 x0.1.2.1 (x1+(wt k3 x0.1.1:Int))),())),((mk mtx k11 x0.2.1 (x1+(wt k3 x0.1.1:Int)+(wt k7 x0.1.2.1:Int))),())) x1 fun r=>r=(x1+(wt k3 x0.1.1:Int)+(wt k7 x0.1.2.1:Int)+(wt k11 x0.2.1:Int),()):=by
 unfold z99
 have e:bulk k13 x0=((bulk k3 x0.1.1+(bulk k7 x0.1.2.1+0))+(bulk k11 x0.2.1+0)):=rfl
 have ew:wt k13 x0=((wt k3 x0.1.1+(wt k7 x0.1.2.1+0))+(wt k11 x0.2.1+0)):=rfl
 have eb1:bulk k9 x0.1=(bulk k3 x0.1.1+(bulk k7 x0.1.2.1+0)):=rfl
 have ew1:wt k9 x0.1=(wt k3 x0.1.1+(wt k7 x0.1.2.1+0)):=rfl
 refine⟨_,zro (x0:=x0.1) (x1:=x1) (by omega) (by omega) (by omega),?_⟩
 rw[z2j (by omega)]
 refine⟨_,zn0 (x0:=x0.2.1) (x1:=x1+(wt k3 x0.1.1:Int)+(wt k7 x0.1.2.1:Int)) (by omega) (by omega) (by omega),?_⟩
 rw[z2j (by omega)]
 all_goals rfl
theorem zeb {x0:TSk} {x1:Int} (h0:0≤x1) (hk:x1+(wt k13 x0:Int)≤4611686018427387904) (hb:bulk k13 x0≤1099511627776):z6o (((mk mtx k3 x0.1.1 (x1)),((mk mtx k7 x0.1.2.1 (x1+(wt k3 x0.1.1:Int))),())),((mk mtx k11 x0.2.1 (x1+(wt k3 x0.1.1:Int)+(wt k7 x0.1.2.1:Int))),())) x1 (x1+(wt k3 x0.1.1:Int)+(wt k7 x0.1.2.1:Int)+(wt k11 x0.2.1:Int)):=zmy _ _ _ (znj h0 hk hb)
end Go.V

