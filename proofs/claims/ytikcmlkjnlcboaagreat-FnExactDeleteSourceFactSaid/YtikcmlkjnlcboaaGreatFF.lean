/-
  The family of small functions: sizes, copies, equalities.
-/
import Derived.Test.YtikcmlkjnlcboaaGreatFS0
import Derived.Test.YtikcmlkjnlcboaaGreatFS1
import Derived.Test.YtikcmlkjnlcboaaGreatVE
set_option linter.unusedVariables false
set_option linter.unusedSimpArgs false
set_option maxRecDepth 1000000
set_option maxHeartbeats 4000000
set_option linter.unusedVariables false
set_option linter.unusedSimpArgs false
namespace Go.V
open Go
theorem z8n {x0:List Int} {x1:Unit} (p:Int->Bool) (hp:∀ t∈x0,z52 t (p t)):z27 x0 x1 (if z03 p x0<x0.length then(z03 p x0:Int)else -1):=z8r _ _ _ (by
 unfold z48
 exact zfq p (fun y=>((y,()):Int×Unit)=((if z03 p x0<x0.length then(z03 p x0:Int)else -1),())) (fun t A B=>∃ y,z52 t y/\z01 y A B) (fun t ht A B h1 h2=>⟨_,hp t ht,z1u h1 h2⟩) rfl)
theorem z7h {x0:List Int} {x1:Unit} (p:Int->Bool) (hp:∀ t∈x0,z52 t (p t)):z1m x0 x1 (x0.any p):=z78 _ _ _ (by
 unfold z3g
 refine⟨_,z8n p hp,?_⟩
 rw[zhf])
theorem z9z {x0:List Int} {x1:Int×Unit} (p:Int->Bool) (hp:∀ t∈x0,z8w t x1.1 (p t)):z2o x0 x1 (if z03 p x0<x0.length then(z03 p x0:Int)else -1):=z9w _ _ _ (by
 unfold z4q
 exact zfq p (fun y=>((y,()):Int×Unit)=((if z03 p x0<x0.length then(z03 p x0:Int)else -1),())) (fun t A B=>∃ y,z8w t x1.1 y/\z01 y A B) (fun t ht A B h1 h2=>⟨_,hp t ht,z1u h1 h2⟩) rfl)
theorem z8c {x0:List Int} {x1:Int×Unit} (p:Int->Bool) (hp:∀ t∈x0,z8w t x1.1 (p t)):z29 x0 x1 (x0.any p):=z8o _ _ _ (by
 unfold z3z
 refine⟨_,z9z p hp,?_⟩
 rw[zhf])
theorem zga {x0:List Int} {x1:List Int}:z7t x0 x1 (decide (x0=x1)):=zot _ _ _ (by
 unfold zg5
 refine z0h fun hl=>z0h fun _=>?_
 have h:=z0mp (fun a b=>decide (a=b)) (fun y=>((y,()):Bool×Unit)=(decide (x0=x1),())) (fun t u A B=>z01 (t != u) A B) (d:=(0:Int)) (e:=(0:Int)) (fun t ht u hu A B h1 h2=>z6u (fun h=>h1 (by simpa using h)) (fun h=>h2 (by simpa using h))) (by rw[zz5 _ (fun _ _=>rfl)]) hl
 refine z6u (fun hne=>?_) (fun he=>?_)
 . rwa [show(((x0.length:Int) != (x1.length:Int))=true)from by simpa using hne]at h
 . rw[show(((x0.length:Int) != (x1.length:Int))=false)from by simp[he]]at h
   exact z0h fun _=>h)
theorem z7n {x0:List z06} {x1:z06×Unit} (p:z06->Bool) (hp:∀ t∈x0,zfr t x1.1 (p t)):z1p x0 x1 (if z03 p x0<x0.length then(z03 p x0:Int)else -1):=z7q _ _ _ (by
 unfold z3k
 exact zfq p (fun y=>((y,()):Int×Unit)=((if z03 p x0<x0.length then(z03 p x0:Int)else -1),())) (fun t A B=>∃ y,zfr t x1.1 y/\z01 y A B) (fun t ht A B h1 h2=>⟨_,hp t ht,z1u h1 h2⟩) rfl)
theorem za2 {x0:List Int} {x1:Unit} (p:Int->Bool) (hp:∀ t∈x0,z8x t (p t)):z2m x0 x1 (if z03 p x0<x0.length then(z03 p x0:Int)else -1):=z9v _ _ _ (by
 unfold z4o
 exact zfq p (fun y=>((y,()):Int×Unit)=((if z03 p x0<x0.length then(z03 p x0:Int)else -1),())) (fun t A B=>∃ y,z8x t y/\z01 y A B) (fun t ht A B h1 h2=>⟨_,hp t ht,z1u h1 h2⟩) rfl)
theorem z8q {x0:List Int} {x1:Unit} (p:Int->Bool) (hp:∀ t∈x0,z8x t (p t)):z2a x0 x1 (x0.any p):=z87 _ _ _ (by
 unfold z3y
 refine⟨_,za2 p hp,?_⟩
 rw[zhf])
theorem z8h {x0:List Int} {x1:Unit} (p:Int->Bool) (hp:∀ t∈x0,z56 t (p t)):z21 x0 x1 (if z03 p x0<x0.length then(z03 p x0:Int)else -1):=z8b _ _ _ (by
 unfold z42
 exact zfq p (fun y=>((y,()):Int×Unit)=((if z03 p x0<x0.length then(z03 p x0:Int)else -1),())) (fun t A B=>∃ y,z56 t y/\z01 y A B) (fun t ht A B h1 h2=>⟨_,hp t ht,z1u h1 h2⟩) rfl)
theorem z71 {x0:List Int} {x1:Unit} (p:Int->Bool) (hp:∀ t∈x0,z56 t (p t)):z1j x0 x1 (x0.any p):=z72 _ _ _ (by
 unfold z3h
 refine⟨_,z8h p hp,?_⟩
 rw[zhf])
theorem z9e {x0:List z00} {x1:List z0p×Unit} (p:z00->Bool) (hp:∀ t∈x0,z95 t x1.1 (p t)):z2i x0 x1 (if z03 p x0<x0.length then(z03 p x0:Int)else -1):=z9d _ _ _ (by
 unfold z4i
 exact zfq p (fun y=>((y,()):Int×Unit)=((if z03 p x0<x0.length then(z03 p x0:Int)else -1),())) (fun t A B=>∃ y,z95 t x1.1 y/\z01 y A B) (fun t ht A B h1 h2=>⟨_,hp t ht,z1u h1 h2⟩) rfl)
theorem z7y {x0:List z00} {x1:List z0p×Unit} (p:z00->Bool) (hp:∀ t∈x0,z95 t x1.1 (p t)):z1t x0 x1 (x0.any p):=z7w _ _ _ (by
 unfold z3q
 refine⟨_,z9e p hp,?_⟩
 rw[zhf])
theorem zq2 {x0:List Int} {x1:Int}:zbi x0 x1 (if z03 (fun t=>x1 == t) x0<x0.length then(z03 (fun t=>x1 == t) x0:Int)else -1):=zpv _ _ _ (by
 unfold zgc
 exact zfq (fun t=>x1 == t) (fun y=>((y,()):Int×Unit)=((if z03 (fun t=>x1 == t) x0<x0.length then(z03 (fun t=>x1 == t) x0:Int)else -1),())) (fun t A B=>z01 (x1 == t) A B) (fun t ht A B h1 h2=>z1u h1 h2) rfl)
theorem z3x {x0:List Int} {x1:Int}:z20 x0 x1 (decide (x1∈x0)):=zko _ _ _ (by
 unfold zcf
 refine⟨_,zq2,?_⟩
 rw[zhf,zv8])
theorem z5x {x0:List z00} {x1:List z0p×Unit} (p:z00->Bool) (hp:∀ t∈x0,z2l t x1.1 (p t)):z18 x0 x1 (if z03 p x0<x0.length then(z03 p x0:Int)else -1):=z5u _ _ _ (by
 unfold z2p
 exact zfq p (fun y=>((y,()):Int×Unit)=((if z03 p x0<x0.length then(z03 p x0:Int)else -1),())) (fun t A B=>∃ y,z2l t x1.1 y/\z01 y A B) (fun t ht A B h1 h2=>⟨_,hp t ht,z1u h1 h2⟩) rfl)
theorem z4v {x0:List z00} {x1:List z0p×Unit} (p:z00->Bool) (hp:∀ t∈x0,z2l t x1.1 (p t)):z0z x0 x1 (x0.any p):=z4x _ _ _ (by
 unfold z2g
 refine⟨_,z5x p hp,?_⟩
 rw[zhf])
theorem z4h {x0:List z0a} {x1:List z0p×Unit} (p:z0a->Bool) (hp:∀ t∈x0,z1n t x1.1 (p t)):z0u x0 x1 (if z03 p x0<x0.length then(z03 p x0:Int)else -1):=z4f _ _ _ (by
 unfold z1i
 exact zfq p (fun y=>((y,()):Int×Unit)=((if z03 p x0<x0.length then(z03 p x0:Int)else -1),())) (fun t A B=>∃ y,z1n t x1.1 y/\z01 y A B) (fun t ht A B h1 h2=>⟨_,hp t ht,z1u h1 h2⟩) rfl)
theorem z3u {x0:List z0a} {x1:List z0p×Unit} (p:z0a->Bool) (hp:∀ t∈x0,z1n t x1.1 (p t)):z0s x0 x1 (x0.any p):=z3t _ _ _ (by
 unfold z1a
 refine⟨_,z4h p hp,?_⟩
 rw[zhf])
theorem z6z {x0:List z0a} {x1:Unit} (p:z0a->Bool) (hp:∀ t∈x0,z92 t (p t)):z1h x0 x1 (if z03 p x0<x0.length then(z03 p x0:Int)else -1):=z6x _ _ _ (by
 unfold z31
 exact zfq p (fun y=>((y,()):Int×Unit)=((if z03 p x0<x0.length then(z03 p x0:Int)else -1),())) (fun t A B=>∃ y,z92 t y/\z01 y A B) (fun t ht A B h1 h2=>⟨_,hp t ht,z1u h1 h2⟩) rfl)
theorem z5t {x0:List z0a} {x1:Unit} (p:z0a->Bool) (hp:∀ t∈x0,z92 t (p t)):z19 x0 x1 (x0.any p):=z5y _ _ _ (by
 unfold z2q
 refine⟨_,z6z p hp,?_⟩
 rw[zhf])
theorem z8j {x0:List (List Int)} {x1:TUf} (p:(List Int)->Bool) (hp:∀ t∈x0,z84 t x1.1 (p t)):z23 x0 x1 (if z03 p x0<x0.length then(z03 p x0:Int)else -1):=z8p _ _ _ (by
 unfold z44
 exact zfq p (fun y=>((y,()):Int×Unit)=((if z03 p x0<x0.length then(z03 p x0:Int)else -1),())) (fun t A B=>∃ y,z84 t x1.1 y/\z01 y A B) (fun t ht A B h1 h2=>⟨_,hp t ht,z1u h1 h2⟩) rfl)
theorem z7c {x0:List (List Int)} {x1:TUf} (p:(List Int)->Bool) (hp:∀ t∈x0,z84 t x1.1 (p t)):z1k x0 x1 (x0.any p):=z7g _ _ _ (by
 unfold z3d
 refine⟨_,z8j p hp,?_⟩
 rw[zhf])
theorem za4 {x0:List z00} {x1:z00×Unit} (p:z00->Bool) (hp:∀ t∈x0,zcu t x1.1 (p t)):z2n x0 x1 (if z03 p x0<x0.length then(z03 p x0:Int)else -1):=za1 _ _ _ (by
 unfold z4p
 exact zfq p (fun y=>((y,()):Int×Unit)=((if z03 p x0<x0.length then(z03 p x0:Int)else -1),())) (fun t A B=>∃ y,zcu t x1.1 y/\z01 y A B) (fun t ht A B h1 h2=>⟨_,hp t ht,z1u h1 h2⟩) rfl)
theorem z8a {x0:List z00} {x1:z00×Unit} (p:z00->Bool) (hp:∀ t∈x0,zcu t x1.1 (p t)):z1y x0 x1 (x0.any p):=z88 _ _ _ (by
 unfold z40
 refine⟨_,za4 p hp,?_⟩
 rw[zhf])
theorem z7z {x0:List z00} {x1:List z00×List Int×List z0a×Unit} (p:z00->Bool) (hp:∀ t∈x0,zfg t x1.1 x1.2.1 x1.2.2.1 (p t)):z1s x0 x1 (if z03 p x0<x0.length then(z03 p x0:Int)else -1):=z7x _ _ _ (by
 unfold z3p
 exact zfq p (fun y=>((y,()):Int×Unit)=((if z03 p x0<x0.length then(z03 p x0:Int)else -1),())) (fun t A B=>∃ y,zfg t x1.1 x1.2.1 x1.2.2.1 y/\z01 y A B) (fun t ht A B h1 h2=>⟨_,hp t ht,z1u h1 h2⟩) rfl)
theorem z6n {x0:List z00} {x1:List z00×List Int×List z0a×Unit} (p:z00->Bool) (hp:∀ t∈x0,zfg t x1.1 x1.2.1 x1.2.2.1 (p t)):z1f x0 x1 (x0.any p):=z6o _ _ _ (by
 unfold z34
 refine⟨_,z7z p hp,?_⟩
 rw[zhf])
theorem z9f {x0:List (z9b z00)} {x1:(List z0p×(Bool×List z00)×Unit)×Bool×Unit} (p:(z9b z00)->Bool) (hp:∀ t∈x0,z4r t x1.1 x1.2.1 (p t)):z2h x0 x1 (if z03 p x0<x0.length then(z03 p x0:Int)else -1):=z9i _ _ _ (by
 unfold z4j
 exact zfq p (fun y=>((y,()):Int×Unit)=((if z03 p x0<x0.length then(z03 p x0:Int)else -1),())) (fun t A B=>∃ y,z4r t x1.1 x1.2.1 y/\z01 y A B) (fun t ht A B h1 h2=>⟨_,hp t ht,z1u h1 h2⟩) rfl)
theorem z86 {x0:List (z9b z00)} {x1:z00×Unit} (p:(z9b z00)->Bool) (hp:∀ t∈x0,z3m t x1.1 (p t)):z1z x0 x1 (if z03 p x0<x0.length then(z03 p x0:Int)else -1):=z83 _ _ _ (by
 unfold z47
 exact zfq p (fun y=>((y,()):Int×Unit)=((if z03 p x0<x0.length then(z03 p x0:Int)else -1),())) (fun t A B=>∃ y,z3m t x1.1 y/\z01 y A B) (fun t ht A B h1 h2=>⟨_,hp t ht,z1u h1 h2⟩) rfl)
abbrev k0:Sh:=.pair .bool .unit
instance:DecidableEq (Bool×Unit):=inferInstance
abbrev k1:Sh:=.pair (.int .i64) k0
instance:DecidableEq (Int×Bool×Unit):=inferInstance
abbrev k2:Sh:=.pair .str k1
instance:DecidableEq ((List UInt8)×Int×Bool×Unit):=inferInstance
theorem z02k {x0:z0p} {x1:Int} (h0:0<=x1) (h1:x1<=1048576):zia x0 x1 fun r=>r=(zcv x1 (z0c k2 x0),()):=by
 unfold zia
 have e:z0c k2 x0=(List.length x0.1+(0+(0+0))):=rfl
 refine z0h fun hl1=>?_
 rw[szw (l:=x1) (n:=List.length x0.1) (by omega) (by omega) hl1]
 by_cases hc1:x1 - (List.length x0.1:Int)<0
 . rw[z5g hc1];exact zf8 (by omega)
 rw[z32 hc1]
 exact zjs (by omega) (by omega)
theorem z02e {x0:z0p} {x1:Int} (h0:0<=x1) (h1:x1<=1048576):zeb x0 x1 (zcv x1 (z0c k2 x0)):=z00i _ _ _ (z02k h0 h1)
abbrev k3:Sh:=.sl 0 k2
theorem zy7 {x0:List z0p} {x1:Int} (h0:0<=x1) (h1:x1<=1048576):zh4 x0 x1 fun r=>r=(zcv x1 (z0c k3 x0),()):=by
 unfold zh4
 exact z0fs (b:=z0c k2) h0 h1 (fun y=>((y,()):Int×Unit)=(zcv x1 (z0c k3 x0),())) (fun t l A B=>∃ y,zeb t l y/\z01 (decide (y<(0:Int))) A (B y)) (fun t ht l a b A B hA hB=>⟨_,z02e a b,zkp a hA fun h=>by rw[z2b h];exact hB h⟩) rfl
theorem zyb {x0:List z0p} {x1:Int} (h0:0<=x1) (h1:x1<=1048576):zgy x0 x1 (zcv x1 (z0c k3 x0)):=zyj _ _ _ (zy7 h0 h1)
abbrev k4:Sh:=.sl 0 (.int .i64)
theorem z0fv {x0:List Int} {x1:Int} (h0:0<=x1) (h1:x1<=1048576):zwi x0 x1 fun r=>r=(zcv x1 (z0c k4 x0),()):=by
 unfold zwi
 have e:z0c k4 x0=List.length x0:=z0g2 fun _=>rfl
 refine z0h fun hl=>?_
 rw[szw (l:=x1) (n:=List.length x0) h0 h1 hl]
 by_cases hlt:x1 - (List.length x0:Int)<0
 . rw[z5g hlt];exact zf8 (by omega)
 . rw[z32 hlt];exact zjs (by omega) (by omega)
theorem zvg {x0:List Int} {x1:Int} (h0:0<=x1) (h1:x1<=1048576):zk1 x0 x1 (zcv x1 (z0c k4 x0)):=z0ee _ _ _ (z0fv h0 h1)
abbrev k5:Sh:=.pair k4 .unit
instance:DecidableEq ((List Int)×Unit):=inferInstance
abbrev k6:Sh:=.pair (.int .i64) k5
instance:DecidableEq (Int×(List Int)×Unit):=inferInstance
theorem z0dy {x0:z00} {x1:Int} (h0:0<=x1) (h1:x1<=1048576):zus x0 x1 fun r=>r=(zcv x1 (z0c k6 x0),()):=by
 unfold zus
 have e:z0c k6 x0=(0+(z0c k4 x0.2.1+0)):=rfl
 refine⟨_,zvg (x1:=x1) (by omega) (by omega),?_⟩
 by_cases hc1:x1<(z0c k4 x0.2.1:Int)
 . rw[z58 hc1,z5g (by decide)];exact zf8 (by omega)
 rw[z2b (by omega),z32 (by omega)]
 exact zjs (by omega) (by omega)
theorem z03u {x0:z00} {x1:Int} (h0:0<=x1) (h1:x1<=1048576):zkb x0 x1 (zcv x1 (z0c k6 x0)):=z0gl _ _ _ (z0dy h0 h1)
abbrev k7:Sh:=.sl 0 k6
theorem z0bo {x0:List z00} {x1:Int} (h0:0<=x1) (h1:x1<=1048576):zqu x0 x1 fun r=>r=(zcv x1 (z0c k7 x0),()):=by
 unfold zqu
 exact z0fs (b:=z0c k6) h0 h1 (fun y=>((y,()):Int×Unit)=(zcv x1 (z0c k7 x0),())) (fun t l A B=>∃ y,zkb t l y/\z01 (decide (y<(0:Int))) A (B y)) (fun t ht l a b A B hA hB=>⟨_,z03u a b,zkp a hA fun h=>by rw[z2b h];exact hB h⟩) rfl
theorem z0c0 {x0:List z00} {x1:Int} (h0:0<=x1) (h1:x1<=1048576):zqm x0 x1 (zcv x1 (z0c k7 x0)):=z0cs _ _ _ (z0bo h0 h1)
abbrev k8:Sh:=.pair k7 .unit
instance:DecidableEq ((List (Int×(List Int)×Unit))×Unit):=inferInstance
abbrev k9:Sh:=.pair k3 k8
instance:DecidableEq ((List ((List UInt8)×Int×Bool×Unit))×(List (Int×(List Int)×Unit))×Unit):=inferInstance
theorem z00j {x0:z09} {x1:Int} (h0:0<=x1) (h1:x1<=1048576):zi9 x0 x1 fun r=>r=(zcv x1 (z0c k9 x0),()):=by
 unfold zi9
 have e:z0c k9 x0=(z0c k3 x0.1+(z0c k7 x0.2.1+0)):=rfl
 refine⟨_,zyb (x1:=x1) (by omega) (by omega),?_⟩
 by_cases hc1:x1<(z0c k3 x0.1:Int)
 . rw[z58 hc1,z5g (by decide)];exact zf8 (by omega)
 rw[z2b (by omega),z32 (by omega)]
 refine⟨_,z0c0 (x1:=x1 - (z0c k3 x0.1:Int)) (by omega) (by omega),?_⟩
 by_cases hc2:x1 - (z0c k3 x0.1:Int)<(z0c k7 x0.2.1:Int)
 . rw[z58 hc2,z5g (by decide)];exact zf8 (by omega)
 rw[z2b (by omega),z32 (by omega)]
 exact zjs (by omega) (by omega)
theorem z01d {x0:z09} {x1:Int} (h0:0<=x1) (h1:x1<=1048576):zih x0 x1 (zcv x1 (z0c k9 x0)):=z00f _ _ _ (z00j h0 h1)
abbrev k10:Sh:=.pair (.int .i64) k6
instance:DecidableEq (Int×Int×(List Int)×Unit):=inferInstance
theorem zvx {x0:z06} {x1:Int} (h0:0<=x1) (h1:x1<=1048576):zft x0 x1 fun r=>r=(zcv x1 (z0c k10 x0),()):=by
 unfold zft
 have e:z0c k10 x0=(0+(0+(z0c k4 x0.2.2.1+0))):=rfl
 refine⟨_,zvg (x1:=x1) (by omega) (by omega),?_⟩
 by_cases hc1:x1<(z0c k4 x0.2.2.1:Int)
 . rw[z58 hc1,z5g (by decide)];exact zf8 (by omega)
 rw[z2b (by omega),z32 (by omega)]
 exact zjs (by omega) (by omega)
theorem zv4 {x0:z06} {x1:Int} (h0:0<=x1) (h1:x1<=1048576):zao x0 x1 (zcv x1 (z0c k10 x0)):=zw0 _ _ _ (zvx h0 h1)
abbrev k11:Sh:=.sl 0 k10
theorem zsa {x0:List z06} {x1:Int} (h0:0<=x1) (h1:x1<=1048576):zds x0 x1 fun r=>r=(zcv x1 (z0c k11 x0),()):=by
 unfold zds
 exact z0fs (b:=z0c k10) h0 h1 (fun y=>((y,()):Int×Unit)=(zcv x1 (z0c k11 x0),())) (fun t l A B=>∃ y,zao t l y/\z01 (decide (y<(0:Int))) A (B y)) (fun t ht l a b A B hA hB=>⟨_,zv4 a b,zkp a hA fun h=>by rw[z2b h];exact hB h⟩) rfl
theorem zt3 {x0:List z06} {x1:Int} (h0:0<=x1) (h1:x1<=1048576):zdl x0 x1 (zcv x1 (z0c k11 x0)):=ztc _ _ _ (zsa h0 h1)
abbrev k12:Sh:=.pair k11 .unit
instance:DecidableEq ((List (Int×Int×(List Int)×Unit))×Unit):=inferInstance
abbrev k13:Sh:=.pair k9 k12
instance:DecidableEq (((List ((List UInt8)×Int×Bool×Unit))×(List (Int×(List Int)×Unit))×Unit)×(List (Int×Int×(List Int)×Unit))×Unit):=inferInstance
theorem zsb {x0:TSk} {x1:Int} (h0:0<=x1) (h1:x1<=1048576):zdd x0 x1 fun r=>r=(zcv x1 (z0c k13 x0),()):=by
 unfold zdd
 have e:z0c k13 x0=((z0c k3 x0.1.1+(z0c k7 x0.1.2.1+0))+(z0c k11 x0.2.1+0)):=rfl
 have e1:z0c k9 x0.1=(z0c k3 x0.1.1+(z0c k7 x0.1.2.1+0)):=rfl
 refine⟨_,z01d (x1:=x1) (by omega) (by omega),?_⟩
 by_cases hc1:x1<(z0c k9 x0.1:Int)
 . rw[z58 hc1,z5g (by decide)];exact zf8 (by omega)
 rw[z2b (by omega),z32 (by omega)]
 refine⟨_,zt3 (x1:=x1 - (z0c k9 x0.1:Int)) (by omega) (by omega),?_⟩
 by_cases hc2:x1 - (z0c k9 x0.1:Int)<(z0c k11 x0.2.1:Int)
 . rw[z58 hc2,z5g (by decide)];exact zf8 (by omega)
 rw[z2b (by omega),z32 (by omega)]
 exact zjs (by omega) (by omega)
theorem zs8 {x0:TSk} {x1:Int} (h0:0<=x1) (h1:x1<=1048576):zdc x0 x1 (zcv x1 (z0c k13 x0)):=zt2 _ _ _ (zsb h0 h1)
theorem z0g8 {x0:z00} {x1:Int} (h0:0<=x1) (h1:x1<=1048576):zuk x0 x1 fun r=>r=(zcv x1 (z0c k6 x0),()):=by
 unfold zuk
 have e:z0c k6 x0=(0+(z0c k4 x0.2.1+0)):=rfl
 refine⟨_,zvg (x1:=x1) (by omega) (by omega),?_⟩
 by_cases hc1:x1<(z0c k4 x0.2.1:Int)
 . rw[z58 hc1,z5g (by decide)];exact zf8 (by omega)
 rw[z2b (by omega),z32 (by omega)]
 exact zjs (by omega) (by omega)
theorem z0fy {x0:z00} {x1:Int} (h0:0<=x1) (h1:x1<=1048576):zpo x0 x1 (zcv x1 (z0c k6 x0)):=z0g9 _ _ _ (z0g8 h0 h1)
theorem z0b1 {x0:List z00} {x1:Int} (h0:0<=x1) (h1:x1<=1048576):zrl x0 x1 fun r=>r=(zcv x1 (z0c k7 x0),()):=by
 unfold zrl
 exact z0fs (b:=z0c k6) h0 h1 (fun y=>((y,()):Int×Unit)=(zcv x1 (z0c k7 x0),())) (fun t l A B=>∃ y,zpo t l y/\z01 (decide (y<(0:Int))) A (B y)) (fun t ht l a b A B hA hB=>⟨_,z0fy a b,zkp a hA fun h=>by rw[z2b h];exact hB h⟩) rfl
theorem zyt {x0:List z00} {x1:Int} (h0:0<=x1) (h1:x1<=1048576):zm8 x0 x1 (zcv x1 (z0c k7 x0)):=z0bk _ _ _ (z0b1 h0 h1)
abbrev k14:Sh:=.pair (.int .i64) .unit
instance:DecidableEq (Int×Unit):=inferInstance
abbrev k15:Sh:=.pair (.int .i64) k14
instance:DecidableEq (Int×Int×Unit):=inferInstance
abbrev k16:Sh:=.pair .bool k15
instance:DecidableEq (Bool×Int×Int×Unit):=inferInstance
abbrev k17:Sh:=.pair k7 k16
instance:DecidableEq ((List (Int×(List Int)×Unit))×Bool×Int×Int×Unit):=inferInstance
abbrev k18:Sh:=.pair k7 k17
instance:DecidableEq ((List (Int×(List Int)×Unit))×(List (Int×(List Int)×Unit))×Bool×Int×Int×Unit):=inferInstance
theorem zur {x0:z0a} {x1:Int} (h0:0<=x1) (h1:x1<=1048576):zex x0 x1 fun r=>r=(zcv x1 (z0c k18 x0),()):=by
 unfold zex
 have e:z0c k18 x0=(z0c k7 x0.1+(z0c k7 x0.2.1+(0+(0+(0+0))))):=rfl
 refine⟨_,zyt (x1:=x1) (by omega) (by omega),?_⟩
 by_cases hc1:x1<(z0c k7 x0.1:Int)
 . rw[z58 hc1,z5g (by decide)];exact zf8 (by omega)
 rw[z2b (by omega),z32 (by omega)]
 refine⟨_,zyt (x1:=x1 - (z0c k7 x0.1:Int)) (by omega) (by omega),?_⟩
 by_cases hc2:x1 - (z0c k7 x0.1:Int)<(z0c k7 x0.2.1:Int)
 . rw[z58 hc2,z5g (by decide)];exact zf8 (by omega)
 rw[z2b (by omega),z32 (by omega)]
 exact zjs (by omega) (by omega)
theorem zwg {x0:z0a} {x1:Int} (h0:0<=x1) (h1:x1<=1048576):zb4 x0 x1 (zcv x1 (z0c k18 x0)):=zu5 _ _ _ (zur h0 h1)
abbrev k19:Sh:=.sl 0 k18
theorem zsx {x0:List z0a} {x1:Int} (h0:0<=x1) (h1:x1<=1048576):zdh x0 x1 fun r=>r=(zcv x1 (z0c k19 x0),()):=by
 unfold zdh
 exact z0fs (b:=z0c k18) h0 h1 (fun y=>((y,()):Int×Unit)=(zcv x1 (z0c k19 x0),())) (fun t l A B=>∃ y,zb4 t l y/\z01 (decide (y<(0:Int))) A (B y)) (fun t ht l a b A B hA hB=>⟨_,zwg a b,zkp a hA fun h=>by rw[z2b h];exact hB h⟩) rfl
theorem zse {x0:List z0a} {x1:Int} (h0:0<=x1) (h1:x1<=1048576):zd4 x0 x1 (zcv x1 (z0c k19 x0)):=zt9 _ _ _ (zsx h0 h1)
theorem z02c {x0:z0p} (hb:z0c k2 x0<=1099511627776):zi3 x0 fun r=>r=(x0,()):=by
 unfold zi3
 have e:z0c k2 x0=(List.length x0.1+(0+(0+0))):=rfl
 rfl
theorem z030 {x0:z0p} (hb:z0c k2 x0<=1099511627776):zec x0 x0:=z02y _ _ (z02c hb)
theorem zxn {x0:List z0p} (hb:z0c k3 x0<=1099511627776):zh1 x0 fun r=>r=(x0,()):=by
 unfold zh1
 exact z0bi id (by have e:z0c k3 x0=x0.length+(x0.map (z0c k2)).sum:=rfl;omega) (fun y=>((y,()):List _×Unit)=(x0,())) (fun t B=>∃ y,zec t y/\B y) (fun t ht B hB=>⟨_,z030 (by have h:=zfu (z0c k2) ht;have e:z0c k3 x0=x0.length+(x0.map (z0c k2)).sum:=rfl;omega),hB⟩) (by rw[List.map_id])
theorem zxo {x0:List z0p} (hb:z0c k3 x0<=1099511627776):zgo x0 x0:=zxl _ _ (zxn hb)
theorem z0dx {x0:List Int} (hb:z0c k4 x0<=1099511627776):zuj x0 fun r=>r=(x0,()):=by
 unfold zuj
 exact z0bi id (by have e:z0c k4 x0=x0.length+(x0.map (z0c (.int .i64))).sum:=rfl;omega) (fun y=>((y,()):List _×Unit)=(x0,())) (fun t B=>B t) (fun t ht B hB=>hB) (by rw[List.map_id])
theorem zwk {x0:List Int} (hb:z0c k4 x0<=1099511627776):zld x0 x0:=z0er _ _ (z0dx hb)
theorem z0g1 {x0:z00} (hb:z0c k6 x0<=1099511627776):zw7 x0 fun r=>r=(x0,()):=by
 unfold zw7
 have e:z0c k6 x0=(0+(z0c k4 x0.2.1+0)):=rfl
 exact⟨_,zwk (by omega),rfl⟩
theorem zk8 {x0:z00} (hb:z0c k6 x0<=1099511627776):zck x0 x0:=z0eo _ _ (z0g1 hb)
theorem z0ax {x0:List z00} (hb:z0c k7 x0<=1099511627776):zqx x0 fun r=>r=(x0,()):=by
 unfold zqx
 exact z0bi id (by have e:z0c k7 x0=x0.length+(x0.map (z0c k6)).sum:=rfl;omega) (fun y=>((y,()):List _×Unit)=(x0,())) (fun t B=>∃ y,zck t y/\B y) (fun t ht B hB=>⟨_,zk8 (by have h:=zfu (z0c k6) ht;have e:z0c k7 x0=x0.length+(x0.map (z0c k6)).sum:=rfl;omega),hB⟩) (by rw[List.map_id])
theorem z0cd {x0:List z00} (hb:z0c k7 x0<=1099511627776):zr8 x0 x0:=z0b0 _ _ (z0ax hb)
theorem z022 {x0:z09} (hb:z0c k9 x0<=1099511627776):ziu x0 fun r=>r=(x0,()):=by
 unfold ziu
 have e:z0c k9 x0=(z0c k3 x0.1+(z0c k7 x0.2.1+0)):=rfl
 exact⟨_,zxo (by omega),_,z0cd (by omega),rfl⟩
theorem z02a {x0:z09} (hb:z0c k9 x0<=1099511627776):ziz x0 x0:=z02i _ _ (z022 hb)
theorem zua {x0:z06} (hb:z0c k10 x0<=1099511627776):zf3 x0 fun r=>r=(x0,()):=by
 unfold zf3
 have e:z0c k10 x0=(0+(0+(z0c k4 x0.2.2.1+0))):=rfl
 exact⟨_,zwk (by omega),rfl⟩
theorem zvc {x0:z06} (hb:z0c k10 x0<=1099511627776):zaq x0 x0:=ztz _ _ (zua hb)
theorem zss {x0:List z06} (hb:z0c k11 x0<=1099511627776):zdj x0 fun r=>r=(x0,()):=by
 unfold zdj
 exact z0bi id (by have e:z0c k11 x0=x0.length+(x0.map (z0c k10)).sum:=rfl;omega) (fun y=>((y,()):List _×Unit)=(x0,())) (fun t B=>∃ y,zaq t y/\B y) (fun t ht B hB=>⟨_,zvc (by have h:=zfu (z0c k10) ht;have e:z0c k11 x0=x0.length+(x0.map (z0c k10)).sum:=rfl;omega),hB⟩) (by rw[List.map_id])
theorem zso {x0:List z06} (hb:z0c k11 x0<=1099511627776):zd0 x0 x0:=zsu _ _ (zss hb)
theorem zsd {x0:TSk} (hb:z0c k13 x0<=1099511627776):zde x0 fun r=>r=(x0,()):=by
 unfold zde
 have e:z0c k13 x0=((z0c k3 x0.1.1+(z0c k7 x0.1.2.1+0))+(z0c k11 x0.2.1+0)):=rfl
 have e0:z0c k9 x0.1=(z0c k3 x0.1.1+(z0c k7 x0.1.2.1+0)):=rfl
 exact⟨_,z02a (by omega),_,zso (by omega),rfl⟩
theorem za6 {x0:TSk} (hb:z0c k13 x0<=1099511627776):z54 x0 x0:=zs9 _ _ (zsd hb)
theorem z0dn {x0:z00} (hb:z0c k6 x0<=1099511627776):zvh x0 fun r=>r=(x0,()):=by
 unfold zvh
 have e:z0c k6 x0=(0+(z0c k4 x0.2.1+0)):=rfl
 exact⟨_,zwk (by omega),rfl⟩
theorem z0do {x0:z00} (hb:z0c k6 x0<=1099511627776):zp7 x0 x0:=z0e3 _ _ (z0dn hb)
theorem z0aj {x0:List z00} (hb:z0c k7 x0<=1099511627776):zql x0 fun r=>r=(x0,()):=by
 unfold zql
 exact z0bi id (by have e:z0c k7 x0=x0.length+(x0.map (z0c k6)).sum:=rfl;omega) (fun y=>((y,()):List _×Unit)=(x0,())) (fun t B=>∃ y,zp7 t y/\B y) (fun t ht B hB=>⟨_,z0do (by have h:=zfu (z0c k6) ht;have e:z0c k7 x0=x0.length+(x0.map (z0c k6)).sum:=rfl;omega),hB⟩) (by rw[List.map_id])
theorem zzd {x0:List z00} (hb:z0c k7 x0<=1099511627776):zma x0 x0:=z0cj _ _ (z0aj hb)
theorem zu2 {x0:z0a} (hb:z0c k18 x0<=1099511627776):zet x0 fun r=>r=(x0,()):=by
 unfold zet
 have e:z0c k18 x0=(z0c k7 x0.1+(z0c k7 x0.2.1+(0+(0+(0+0))))):=rfl
 exact⟨_,zzd (by omega),_,zzd (by omega),rfl⟩
theorem zu0 {x0:z0a} (hb:z0c k18 x0<=1099511627776):zau x0 x0:=zx9 _ _ (zu2 hb)
theorem zs6 {x0:List z0a} (hb:z0c k19 x0<=1099511627776):zda x0 fun r=>r=(x0,()):=by
 unfold zda
 exact z0bi id (by have e:z0c k19 x0=x0.length+(x0.map (z0c k18)).sum:=rfl;omega) (fun y=>((y,()):List _×Unit)=(x0,())) (fun t B=>∃ y,zau t y/\B y) (fun t ht B hB=>⟨_,zu0 (by have h:=zfu (z0c k18) ht;have e:z0c k19 x0=x0.length+(x0.map (z0c k18)).sum:=rfl;omega),hB⟩) (by rw[List.map_id])
theorem za8 {x0:List z0a} (hb:z0c k19 x0<=1099511627776):z57 x0 x0:=zsr _ _ (zs6 hb)
theorem z01z {x0:z0p} {x1:z0p}:zi6 x0 x1 fun r=>r=(decide (x0=x1),()):=by
 unfold zi6
 refine z05q (fun h=>zib (fun e=>h (by rw[e]))) (fun q0=>?_)
 refine z6u (fun h=>zib (fun e=>h (by rw[e]))) (fun q1=>?_)
 refine z05q (fun h=>zib (fun e=>h (by rw[e]))) (fun q2=>?_)
 exact zut (Prod.ext q0 (Prod.ext q1 (Prod.ext q2 rfl)))
theorem z020 {x0:z0p} {x1:z0p}:zee x0 x1 (decide (x0=x1)):=z00n _ _ _ z01z
theorem zxt {x0:List z0p} {x1:List z0p}:zh2 x0 x1 fun r=>r=(decide (x0=x1),()):=by
 unfold zh2
 exact z0ck (fun y=>((y,()):Bool×Unit)=(decide (x0=x1),())) (fun t u A B=>∃ y,zee t u y/\z01 (!y) A B) (fun t ht u hu A B hA hB=>⟨_,z020,zed hA hB⟩) rfl
theorem zxp {x0:List z0p} {x1:List z0p}:zgr x0 x1 (decide (x0=x1)):=zy1 _ _ _ zxt
theorem z0fp {x0:List Int} {x1:List Int}:zvu x0 x1 fun r=>r=(decide (x0=x1),()):=by
 unfold zvu
 exact z0ck (fun y=>((y,()):Bool×Unit)=(decide (x0=x1),())) (fun t u A B=>z01 (t != u) A B) (fun t ht u hu A B hA hB=>z6u hA hB) rfl
theorem zwq {x0:List Int} {x1:List Int}:zll x0 x1 (decide (x0=x1)):=z0ds _ _ _ z0fp
theorem z0fx {x0:z00} {x1:z00}:zwv x0 x1 fun r=>r=(decide (x0=x1),()):=by
 unfold zwv
 refine z6u (fun h=>zib (fun e=>h (by rw[e]))) (fun q0=>?_)
 refine⟨_,zwq,zed (fun h=>zib (fun e=>h (by rw[e]))) (fun q1=>?_)⟩
 exact zut (Prod.ext q0 (Prod.ext q1 rfl))
theorem z03j {x0:z00} {x1:z00}:zlb x0 x1 (decide (x0=x1)):=z0dt _ _ _ z0fx
theorem z0aq {x0:List z00} {x1:List z00}:zr6 x0 x1 fun r=>r=(decide (x0=x1),()):=by
 unfold zr6
 exact z0ck (fun y=>((y,()):Bool×Unit)=(decide (x0=x1),())) (fun t u A B=>∃ y,zlb t u y/\z01 (!y) A B) (fun t ht u hu A B hA hB=>⟨_,z03j,zed hA hB⟩) rfl
theorem z0au {x0:List z00} {x1:List z00}:zrk x0 x1 (decide (x0=x1)):=z0c6 _ _ _ z0aq
theorem z02w {x0:z09} {x1:z09}:ziw x0 x1 fun r=>r=(decide (x0=x1),()):=by
 unfold ziw
 refine⟨_,zxp,zed (fun h=>zib (fun e=>h (by rw[e]))) (fun q0=>?_)⟩
 refine⟨_,z0au,zed (fun h=>zib (fun e=>h (by rw[e]))) (fun q1=>?_)⟩
 exact zut (Prod.ext q0 (Prod.ext q1 rfl))
theorem z02g {x0:z09} {x1:z09}:zie x0 x1 (decide (x0=x1)):=z02q _ _ _ z02w
theorem zty {x0:z06} {x1:z06}:zfa x0 x1 fun r=>r=(decide (x0=x1),()):=by
 unfold zfa
 refine z6u (fun h=>zib (fun e=>h (by rw[e]))) (fun q0=>?_)
 refine z6u (fun h=>zib (fun e=>h (by rw[e]))) (fun q1=>?_)
 refine⟨_,zwq,zed (fun h=>zib (fun e=>h (by rw[e]))) (fun q2=>?_)⟩
 exact zut (Prod.ext q0 (Prod.ext q1 (Prod.ext q2 rfl)))
theorem zvd {x0:z06} {x1:z06}:zb2 x0 x1 (decide (x0=x1)):=zxi _ _ _ zty
theorem zt8 {x0:List z06} {x1:List z06}:zd2 x0 x1 fun r=>r=(decide (x0=x1),()):=by
 unfold zd2
 exact z0ck (fun y=>((y,()):Bool×Unit)=(decide (x0=x1),())) (fun t u A B=>∃ y,zb2 t u y/\z01 (!y) A B) (fun t ht u hu A B hA hB=>⟨_,zvd,zed hA hB⟩) rfl
theorem zsh {x0:List z06} {x1:List z06}:zd9 x0 x1 (decide (x0=x1)):=ztb _ _ _ zt8
theorem zsw {x0:TSk} {x1:TSk}:zd1 x0 x1 fun r=>r=(decide (x0=x1),()):=by
 unfold zd1
 refine⟨_,z02g,zed (fun h=>zib (fun e=>h (by rw[e]))) (fun q0=>?_)⟩
 refine⟨_,zsh,zed (fun h=>zib (fun e=>h (by rw[e]))) (fun q1=>?_)⟩
 exact zut (Prod.ext q0 (Prod.ext q1 rfl))
theorem za7 {x0:TSk} {x1:TSk}:z59 x0 x1 (decide (x0=x1)):=zsl _ _ _ zsw
theorem z0dq {x0:z00} {x1:z00}:zvm x0 x1 fun r=>r=(decide (x0=x1),()):=by
 unfold zvm
 refine z6u (fun h=>zib (fun e=>h (by rw[e]))) (fun q0=>?_)
 refine⟨_,zwq,zed (fun h=>zib (fun e=>h (by rw[e]))) (fun q1=>?_)⟩
 exact zut (Prod.ext q0 (Prod.ext q1 rfl))
theorem z0di {x0:z00} {x1:z00}:zpu x0 x1 (decide (x0=x1)):=z0gh _ _ _ z0dq
theorem z0cg {x0:List z00} {x1:List z00}:zr5 x0 x1 fun r=>r=(decide (x0=x1),()):=by
 unfold zr5
 exact z0ck (fun y=>((y,()):Bool×Unit)=(decide (x0=x1),())) (fun t u A B=>∃ y,zpu t u y/\z01 (!y) A B) (fun t ht u hu A B hA hB=>⟨_,z0di,zed hA hB⟩) rfl
theorem zzs {x0:List z00} {x1:List z00}:zlt x0 x1 (decide (x0=x1)):=z0ao _ _ _ z0cg
theorem zx1 {x0:z0a} {x1:z0a}:zf0 x0 x1 fun r=>r=(decide (x0=x1),()):=by
 unfold zf0
 refine⟨_,zzs,zed (fun h=>zib (fun e=>h (by rw[e]))) (fun q0=>?_)⟩
 refine⟨_,zzs,zed (fun h=>zib (fun e=>h (by rw[e]))) (fun q1=>?_)⟩
 refine z05q (fun h=>zib (fun e=>h (by rw[e]))) (fun q2=>?_)
 refine z6u (fun h=>zib (fun e=>h (by rw[e]))) (fun q3=>?_)
 refine z6u (fun h=>zib (fun e=>h (by rw[e]))) (fun q4=>?_)
 exact zut (Prod.ext q0 (Prod.ext q1 (Prod.ext q2 (Prod.ext q3 (Prod.ext q4 rfl)))))
theorem zud {x0:z0a} {x1:z0a}:zb1 x0 x1 (decide (x0=x1)):=zx8 _ _ _ zx1
theorem zt5 {x0:List z0a} {x1:List z0a}:zdr x0 x1 fun r=>r=(decide (x0=x1),()):=by
 unfold zdr
 exact z0ck (fun y=>((y,()):Bool×Unit)=(decide (x0=x1),())) (fun t u A B=>∃ y,zb1 t u y/\z01 (!y) A B) (fun t ht u hu A B hA hB=>⟨_,zud,zed hA hB⟩) rfl
theorem zsi {x0:List z0a} {x1:List z0a}:zdq x0 x1 (decide (x0=x1)):=zt7 _ _ _ zt5
def dg:Nat->Int->List UInt8->List UInt8
 |0,_,s=>s
 |d+1,k,s=>if k > 0 then dg d (Int.tdiv k 10) (bytesOf ([IntKind.u8.wrap (w64 (48+Int.tmod k 10))]:List Int)++s)else s
theorem z0kx:∀(d:Nat) (k:Int) (s:List UInt8),¬ k > 0->dg d k s=s
 |0,_,_,_=>rfl
 |d+1,k,s,h=>by unfold dg;rw[if_neg h]
theorem exMT {x0:Int} (h0:0<=x0) (h1:x0<=9223372036854775807):∃ y,zfh x0 y:=by
 by_cases hz:x0<=0
 . exact⟨_,zvj _ _ (by unfold zo7;rw[z5g hz])⟩
 . refine⟨[109]++dg 20 x0 [],zvj _ _ ?_⟩
   unfold zo7
   rw[z32 hz]
   refine z1o (fun d (a:Int×List UInt8×Unit)=>0<=a.1/\a.1<10 ^ d/\a.1<=9223372036854775807/\a.2.1.length+d<=100/\dg d a.1 a.2.1=dg 20 x0 []) ?_ ?_ (n:=20) ⟨h0,by show x0<10 ^ 20;omega,h1,by simp,rfl⟩
   . rintro⟨k,s,_⟩ ⟨q1,q2,q3,q4,q5⟩ X
     simp only at q1 q2 q3 q4 q5 ⊢
     rw[z32 (by omega)]
     refine⟨by simp only[List.length_cons,List.length_nil];unfold z11;omega,?_⟩
     rw[<-q5];rfl
   . rintro d ⟨k,s,_⟩ ⟨q1,q2,q3,q4,q5⟩ X hX
     simp only at q1 q2 q3 q4 q5 ⊢
     by_cases hk:k > 0
     . rw[z5g hk]
       have hl:(bytesOf ([IntKind.u8.wrap (w64 ((48:Int)+(Int.tmod k (10:Int))))]:List Int)).length=1:=rfl
       have hdiv:Int.tdiv k 10=k / 10:=Int.tdiv_eq_ediv_of_nonneg q1
       refine⟨by decide,by rw[hl];unfold z11;omega,by decide,?_⟩
       rw[z1w (by rw[hdiv];omega) (by rw[hdiv];omega)]
       refine hX _ ⟨by show 0<=Int.tdiv k 10;rw[hdiv];omega,?_,by show Int.tdiv k 10<=_;rw[hdiv];omega,?_,?_⟩
       . show Int.tdiv k 10<10 ^ d
         rw[hdiv]
         rw[Int.pow_succ]at q2
         omega
       . show(bytesOf _++s).length+d<=100
         rw[List.length_append,hl];omega
       . unfold dg at q5
         rw[if_pos hk]at q5
         exact q5
     . rw[z32 hk]
       refine⟨by simp only[List.length_cons,List.length_nil];unfold z11;omega,?_⟩
       rw[z0kx _ _ _ hk]at q5
       rw[<-q5]
noncomputable def mtx (k:Int):List UInt8:=if h:0<=k/\k<=9223372036854775807 then Classical.choose (exMT h.1 h.2)else[]
theorem z0mi {k:Int} (h0:0<=k) (h1:k<=9223372036854775807):zfh k (mtx k):=by
 unfold mtx
 rw[dif_pos ⟨h0,h1⟩]
 exact Classical.choose_spec (exMT h0 h1)
theorem zmi {x0:List z0p} {x1:Int} (h0:0<=x1) (hk:x1+(wt k3 x0:Int)<=4611686018427387904) (hb:z0c k3 x0<=1099511627776):z9j x0 x1 fun r=>r=(x1+(wt k3 x0:Int),(mk mtx k3 x0 x1,())):=by
 unfold z9j
 have e:z0c k3 x0=x0.length+(x0.map (z0c k2)).sum:=rfl
 have hL:(z79 (α:=(List UInt8)×Int×Bool×Unit) (mk mtx k2) (wt k2) x0 x1).length=x0.length:=z3i _ _ _ _
 refine zr4 (α:=(List UInt8)×Int×Bool×Unit) (mk mtx k2) (wt k2) ?_ ?_
 . intro i j l hi hl hm hj hw X hX
   have ew:wt k2 l[i]=(1+(1+(1+0))):=rfl
   have ek:wt k3 x0=(List.map (α:=(List UInt8)×Int×Bool×Unit) (wt k2) x0).sum:=rfl
   have hbt:=zfu (z0c k2) hm
   have eb:z0c k2 l[i]=(List.length l[i].1+(0+(0+0))):=rfl
   simp only
   refine z0h fun _=>?_
   rw[z5g (by omega)]
   simp only[Int.toNat_natCast,List.length_set,List.set_set,z5n hi,z0y hi,zgp,zh6 hi,and_self,true_and,ne_eq,zyl,not_false_eq_true]
   rw[z02 (i:=i) (by omega)]
   refine⟨_,z0mi (k:=j) (by omega) (by omega),?_⟩
   rw[z1w (n:=j+1) (by omega) (by omega)]
   rw[z1w (n:=j+1+1) (by omega) (by omega)]
   rw[z1w (n:=j+1+1+1) (by omega) (by omega)]
   exact hX _ (by omega) _ rfl
 . intro X
   simp only
   refine z0h fun _=>?_
   rw[z32 (by omega)]
   rfl
theorem zms {x0:List z0p} {x1:Int} (h0:0<=x1) (hk:x1+(wt k3 x0:Int)<=4611686018427387904) (hb:z0c k3 x0<=1099511627776):z9g x0 x1 (x1+(wt k3 x0:Int)) (mk mtx k3 x0 x1):=zmf _ _ _ _ (zmi h0 hk hb)
theorem zwz {x0:List Int} {x1:Int} (h0:0<=x1) (hk:x1+(wt k4 x0:Int)<=4611686018427387904) (hb:z0c k4 x0<=1099511627776):zfp x0 x1 fun r=>r=(x1+(wt k4 x0:Int),(mk mtx k4 x0 x1,())):=by
 unfold zfp
 have e:z0c k4 x0=x0.length+(x0.map (z0c (.int .i64))).sum:=rfl
 have hL:(z79 (α:=Int) (mk mtx (.int .i64)) (wt (.int .i64)) x0 x1).length=x0.length:=z3i _ _ _ _
 refine zr4 (α:=Int) (mk mtx (.int .i64)) (wt (.int .i64)) ?_ ?_
 . intro i j l hi hl hm hj hw X hX
   have ew:wt (.int .i64) l[i]=1:=rfl
   have ek:wt k4 x0=(List.map (α:=Int) (wt (.int .i64)) x0).sum:=rfl
   have hbt:=zfu (z0c (.int .i64)) hm
   have eb:z0c (.int .i64) l[i]=0:=rfl
   simp only
   refine z0h fun _=>?_
   rw[z5g (by omega)]
   simp only[Int.toNat_natCast,List.length_set,List.set_set,z5n hi,z0y hi,zgp,zh6 hi,and_self,true_and,ne_eq,zyl,not_false_eq_true]
   rw[z02 (i:=i) (by omega)]
   rw[z1w (n:=j+1) (by omega) (by omega)]
   exact hX _ (by omega) _ rfl
 . intro X
   simp only
   refine z0h fun _=>?_
   rw[z32 (by omega)]
   rfl
theorem zb0 {x0:List Int} {x1:Int} (h0:0<=x1) (hk:x1+(wt k4 x0:Int)<=4611686018427387904) (hb:z0c k4 x0<=1099511627776):z6h x0 x1 (x1+(wt k4 x0:Int)) (mk mtx k4 x0 x1):=zwx _ _ _ _ (zwz h0 hk hb)
theorem zkf {x0:List z00} {x1:Int} (h0:0<=x1) (hk:x1+(wt k7 x0:Int)<=4611686018427387904) (hb:z0c k7 x0<=1099511627776):z81 x0 x1 fun r=>r=(x1+(wt k7 x0:Int),(mk mtx k7 x0 x1,())):=by
 unfold z81
 have e:z0c k7 x0=x0.length+(x0.map (z0c k6)).sum:=rfl
 have hL:(z79 (α:=Int×(List Int)×Unit) (mk mtx k6) (wt k6) x0 x1).length=x0.length:=z3i _ _ _ _
 refine zr4 (α:=Int×(List Int)×Unit) (mk mtx k6) (wt k6) ?_ ?_
 . intro i j l hi hl hm hj hw X hX
   have ew:wt k6 l[i]=(1+(wt k4 l[i].2.1+0)):=rfl
   have ek:wt k7 x0=(List.map (α:=Int×(List Int)×Unit) (wt k6) x0).sum:=rfl
   have hbt:=zfu (z0c k6) hm
   have eb:z0c k6 l[i]=(0+(z0c k4 l[i].2.1+0)):=rfl
   simp only
   refine z0h fun _=>?_
   rw[z5g (by omega)]
   simp only[Int.toNat_natCast,List.length_set,List.set_set,z5n hi,z0y hi,zgp,zh6 hi,and_self,true_and,ne_eq,zyl,not_false_eq_true]
   rw[z02 (i:=i) (by omega)]
   rw[z1w (n:=j+1) (by omega) (by omega)]
   refine⟨_,_,zb0 (x0:=l[i].2.1) (x1:=j+1) (by omega) (by omega) (by omega),?_⟩
   exact hX _ (by omega) _ rfl
 . intro X
   simp only
   refine z0h fun _=>?_
   rw[z32 (by omega)]
   rfl
theorem zl8 {x0:List z00} {x1:Int} (h0:0<=x1) (hk:x1+(wt k7 x0:Int)<=4611686018427387904) (hb:z0c k7 x0<=1099511627776):z8f x0 x1 (x1+(wt k7 x0:Int)) (mk mtx k7 x0 x1):=zlk _ _ _ _ (zkf h0 hk hb)
theorem zdi {x0:z09} {x1:Int} (h0:0<=x1) (hk:x1+(wt k9 x0:Int)<=4611686018427387904) (hb:z0c k9 x0<=1099511627776):z4d x0 x1 fun r=>r=(x1+(wt k3 x0.1:Int)+(wt k7 x0.2.1:Int),(((mk mtx k3 x0.1 (x1)),((mk mtx k7 x0.2.1 (x1+(wt k3 x0.1:Int))),())),())):=by
 unfold z4d
 have e:z0c k9 x0=(z0c k3 x0.1+(z0c k7 x0.2.1+0)):=rfl
 have ew:wt k9 x0=(wt k3 x0.1+(wt k7 x0.2.1+0)):=rfl
 refine⟨_,_,zms (x0:=x0.1) (x1:=x1) (by omega) (by omega) (by omega),?_⟩
 refine⟨_,_,zl8 (x0:=x0.2.1) (x1:=x1+(wt k3 x0.1:Int)) (by omega) (by omega) (by omega),?_⟩
 rfl
theorem zdk {x0:z09} {x1:Int} (h0:0<=x1) (hk:x1+(wt k9 x0:Int)<=4611686018427387904) (hb:z0c k9 x0<=1099511627776):z4g x0 x1 (x1+(wt k3 x0.1:Int)+(wt k7 x0.2.1:Int)) ((mk mtx k3 x0.1 (x1)),((mk mtx k7 x0.2.1 (x1+(wt k3 x0.1:Int))),())):=zdf _ _ _ _ (zdi h0 hk hb)
theorem zdb {x0:List z06} {x1:Int} (h0:0<=x1) (hk:x1+(wt k11 x0:Int)<=4611686018427387904) (hb:z0c k11 x0<=1099511627776):z4e x0 x1 fun r=>r=(x1+(wt k11 x0:Int),(mk mtx k11 x0 x1,())):=by
 unfold z4e
 have e:z0c k11 x0=x0.length+(x0.map (z0c k10)).sum:=rfl
 have hL:(z79 (α:=Int×Int×(List Int)×Unit) (mk mtx k10) (wt k10) x0 x1).length=x0.length:=z3i _ _ _ _
 refine zr4 (α:=Int×Int×(List Int)×Unit) (mk mtx k10) (wt k10) ?_ ?_
 . intro i j l hi hl hm hj hw X hX
   have ew:wt k10 l[i]=(1+(1+(wt k4 l[i].2.2.1+0))):=rfl
   have ek:wt k11 x0=(List.map (α:=Int×Int×(List Int)×Unit) (wt k10) x0).sum:=rfl
   have hbt:=zfu (z0c k10) hm
   have eb:z0c k10 l[i]=(0+(0+(z0c k4 l[i].2.2.1+0))):=rfl
   simp only
   refine z0h fun _=>?_
   rw[z5g (by omega)]
   simp only[Int.toNat_natCast,List.length_set,List.set_set,z5n hi,z0y hi,zgp,zh6 hi,and_self,true_and,ne_eq,zyl,not_false_eq_true]
   rw[z02 (i:=i) (by omega)]
   rw[z1w (n:=j+1) (by omega) (by omega)]
   rw[z1w (n:=j+1+1) (by omega) (by omega)]
   refine⟨_,_,zb0 (x0:=l[i].2.2.1) (x1:=j+1+1) (by omega) (by omega) (by omega),?_⟩
   exact hX _ (by omega) _ rfl
 . intro X
   simp only
   refine z0h fun _=>?_
   rw[z32 (by omega)]
   rfl
theorem zd8 {x0:List z06} {x1:Int} (h0:0<=x1) (hk:x1+(wt k11 x0:Int)<=4611686018427387904) (hb:z0c k11 x0<=1099511627776):z4c x0 x1 (x1+(wt k11 x0:Int)) (mk mtx k11 x0 x1):=zdg _ _ _ _ (zdb h0 hk hb)
theorem z6k {x0:TSk} {x1:Int} (h0:0<=x1) (hk:x1+(wt k13 x0:Int)<=4611686018427387904) (hb:z0c k13 x0<=1099511627776):z1d x0 x1 fun r=>r=(x1+(wt k3 x0.1.1:Int)+(wt k7 x0.1.2.1:Int)+(wt k11 x0.2.1:Int),((((mk mtx k3 x0.1.1 (x1)),((mk mtx k7 x0.1.2.1 (x1+(wt k3 x0.1.1:Int))),())),((mk mtx k11 x0.2.1 (x1+(wt k3 x0.1.1:Int)+(wt k7 x0.1.2.1:Int))),())),())):=by
 unfold z1d
 have e:z0c k13 x0=((z0c k3 x0.1.1+(z0c k7 x0.1.2.1+0))+(z0c k11 x0.2.1+0)):=rfl
 have ew:wt k13 x0=((wt k3 x0.1.1+(wt k7 x0.1.2.1+0))+(wt k11 x0.2.1+0)):=rfl
 have eb1:z0c k9 x0.1=(z0c k3 x0.1.1+(z0c k7 x0.1.2.1+0)):=rfl
 have ew1:wt k9 x0.1=(wt k3 x0.1.1+(wt k7 x0.1.2.1+0)):=rfl
 refine⟨_,_,zdk (x0:=x0.1) (x1:=x1) (by omega) (by omega) (by omega),?_⟩
 refine⟨_,_,zd8 (x0:=x0.2.1) (x1:=x1+(wt k3 x0.1.1:Int)+(wt k7 x0.1.2.1:Int)) (by omega) (by omega) (by omega),?_⟩
 rfl
theorem z2x {x0:TSk} {x1:Int} (h0:0<=x1) (hk:x1+(wt k13 x0:Int)<=4611686018427387904) (hb:z0c k13 x0<=1099511627776):z0v x0 x1 (x1+(wt k3 x0.1.1:Int)+(wt k7 x0.1.2.1:Int)+(wt k11 x0.2.1:Int)) (((mk mtx k3 x0.1.1 (x1)),((mk mtx k7 x0.1.2.1 (x1+(wt k3 x0.1.1:Int))),())),((mk mtx k11 x0.2.1 (x1+(wt k3 x0.1.1:Int)+(wt k7 x0.1.2.1:Int))),())):=z6l _ _ _ _ (z6k h0 hk hb)
theorem zju {x0:List z00} {x1:Int} (h0:0<=x1) (hk:x1+(wt k7 x0:Int)<=4611686018427387904) (hb:z0c k7 x0<=1099511627776):z8l x0 x1 fun r=>r=(x1+(wt k7 x0:Int),(mk mtx k7 x0 x1,())):=by
 unfold z8l
 have e:z0c k7 x0=x0.length+(x0.map (z0c k6)).sum:=rfl
 have hL:(z79 (α:=Int×(List Int)×Unit) (mk mtx k6) (wt k6) x0 x1).length=x0.length:=z3i _ _ _ _
 refine zr4 (α:=Int×(List Int)×Unit) (mk mtx k6) (wt k6) ?_ ?_
 . intro i j l hi hl hm hj hw X hX
   have ew:wt k6 l[i]=(1+(wt k4 l[i].2.1+0)):=rfl
   have ek:wt k7 x0=(List.map (α:=Int×(List Int)×Unit) (wt k6) x0).sum:=rfl
   have hbt:=zfu (z0c k6) hm
   have eb:z0c k6 l[i]=(0+(z0c k4 l[i].2.1+0)):=rfl
   simp only
   refine z0h fun _=>?_
   rw[z5g (by omega)]
   simp only[Int.toNat_natCast,List.length_set,List.set_set,z5n hi,z0y hi,zgp,zh6 hi,and_self,true_and,ne_eq,zyl,not_false_eq_true]
   rw[z02 (i:=i) (by omega)]
   rw[z1w (n:=j+1) (by omega) (by omega)]
   refine⟨_,_,zb0 (x0:=l[i].2.1) (x1:=j+1) (by omega) (by omega) (by omega),?_⟩
   exact hX _ (by omega) _ rfl
 . intro X
   simp only
   refine z0h fun _=>?_
   rw[z32 (by omega)]
   rfl
theorem zce {x0:List z00} {x1:Int} (h0:0<=x1) (hk:x1+(wt k7 x0:Int)<=4611686018427387904) (hb:z0c k7 x0<=1099511627776):z5b x0 x1 (x1+(wt k7 x0:Int)) (mk mtx k7 x0 x1):=zk2 _ _ _ _ (zju h0 hk hb)
theorem z93 {x0:List z0a} {x1:Int} (h0:0<=x1) (hk:x1+(wt k19 x0:Int)<=4611686018427387904) (hb:z0c k19 x0<=1099511627776):z2c x0 x1 fun r=>r=(x1+(wt k19 x0:Int),(mk mtx k19 x0 x1,())):=by
 unfold z2c
 have e:z0c k19 x0=x0.length+(x0.map (z0c k18)).sum:=rfl
 have hL:(z79 (α:=(List (Int×(List Int)×Unit))×(List (Int×(List Int)×Unit))×Bool×Int×Int×Unit) (mk mtx k18) (wt k18) x0 x1).length=x0.length:=z3i _ _ _ _
 refine zr4 (α:=(List (Int×(List Int)×Unit))×(List (Int×(List Int)×Unit))×Bool×Int×Int×Unit) (mk mtx k18) (wt k18) ?_ ?_
 . intro i j l hi hl hm hj hw X hX
   have ew:wt k18 l[i]=(wt k7 l[i].1+(wt k7 l[i].2.1+(1+(1+(1+0))))):=rfl
   have ek:wt k19 x0=(List.map (α:=(List (Int×(List Int)×Unit))×(List (Int×(List Int)×Unit))×Bool×Int×Int×Unit) (wt k18) x0).sum:=rfl
   have hbt:=zfu (z0c k18) hm
   have eb:z0c k18 l[i]=(z0c k7 l[i].1+(z0c k7 l[i].2.1+(0+(0+(0+0))))):=rfl
   simp only
   refine z0h fun _=>?_
   rw[z5g (by omega)]
   simp only[Int.toNat_natCast,List.length_set,List.set_set,z5n hi,z0y hi,zgp,zh6 hi,and_self,true_and,ne_eq,zyl,not_false_eq_true]
   rw[z02 (i:=i) (by omega)]
   refine⟨_,_,zce (x0:=l[i].1) (x1:=j) (by omega) (by omega) (by omega),?_⟩
   refine⟨_,_,zce (x0:=l[i].2.1) (x1:=j+(wt k7 l[i].1:Int)) (by omega) (by omega) (by omega),?_⟩
   rw[z1w (n:=j+(wt k7 l[i].1:Int)+(wt k7 l[i].2.1:Int)+1) (by omega) (by omega)]
   rw[z1w (n:=j+(wt k7 l[i].1:Int)+(wt k7 l[i].2.1:Int)+1+1) (by omega) (by omega)]
   rw[z1w (n:=j+(wt k7 l[i].1:Int)+(wt k7 l[i].2.1:Int)+1+1+1) (by omega) (by omega)]
   exact hX _ (by omega) _ rfl
 . intro X
   simp only
   refine z0h fun _=>?_
   rw[z32 (by omega)]
   rfl
theorem z90 {x0:List z0a} {x1:Int} (h0:0<=x1) (hk:x1+(wt k19 x0:Int)<=4611686018427387904) (hb:z0c k19 x0<=1099511627776):z2d x0 x1 (x1+(wt k19 x0:Int)) (mk mtx k19 x0 x1):=z8s _ _ _ _ (z93 h0 hk hb)
theorem zng {x0:z00} {x1:Int} (h0:0<=x1) (hk:x1+(wt k6 x0:Int)<=4611686018427387904) (hb:z0c k6 x0<=1099511627776):zac x0 x1 fun r=>r=(x1+(wt k4 x0.2.1:Int),((x0.1,((mk mtx k4 x0.2.1 (x1)),())),())):=by
 unfold zac
 have e:z0c k6 x0=(0+(z0c k4 x0.2.1+0)):=rfl
 have ew:wt k6 x0=(1+(wt k4 x0.2.1+0)):=rfl
 refine⟨_,_,zb0 (x0:=x0.2.1) (x1:=x1) (by omega) (by omega) (by omega),?_⟩
 rfl
theorem znv {x0:z00} {x1:Int} (h0:0<=x1) (hk:x1+(wt k6 x0:Int)<=4611686018427387904) (hb:z0c k6 x0<=1099511627776):za9 x0 x1 (x1+(wt k4 x0.2.1:Int)) (x0.1,((mk mtx k4 x0.2.1 (x1)),())):=zns _ _ _ _ (zng h0 hk hb)
theorem zsv {x0:List z0p} {x1:Int} (h0:0<=x1) (hk:x1+(wt k3 x0:Int)<=4611686018427387904) (hb:z0c k3 x0<=1099511627776):zd7 (z79 (mk mtx k2) (wt k2) x0 x1) x1 fun r=>r=(x1+(wt k3 x0:Int),()):=by
 unfold zd7
 have e:z0c k3 x0=x0.length+(x0.map (z0c k2)).sum:=rfl
 have hL:(z79 (α:=(List UInt8)×Int×Bool×Unit) (mk mtx k2) (wt k2) x0 x1).length=x0.length:=z3i _ _ _ _
 refine z02j (α:=(List UInt8)×Int×Bool×Unit) (x:=x0) (mk mtx k2) (wt k2) ?_ ?_
 . intro i j hi h hj hw hat X hX
   have hm:=List.getElem_mem hi
   have ew:wt k2 x0[i]=(1+(1+(1+0))):=rfl
   have ek:wt k3 x0=(List.map (α:=(List UInt8)×Int×Bool×Unit) (wt k2) x0).sum:=rfl
   have hbt:=zfu (z0c k2) hm
   have eb:z0c k2 x0[i]=(List.length x0[i].1+(0+(0+0))):=rfl
   simp only
   refine z0h fun _=>?_
   rw[z5g (by omega)]
   simp only[Int.toNat_natCast,List.length_set,List.set_set,z5n h,z0y h,zgp,zh6 h,and_self,true_and,ne_eq,zyl,not_false_eq_true,hat]
   rw[z02 (i:=i) (by omega)]
   refine⟨_,z0mi (k:=j) (by omega) (by omega),?_⟩
   refine z05q (fun h=>(h rfl).elim) fun _=>?_
   rw[z1w (n:=j+1) (by omega) (by omega)]
   refine z6u (fun h=>(h rfl).elim) fun _=>?_
   rw[z1w (n:=j+1+1) (by omega) (by omega)]
   refine z05q (fun h=>(h rfl).elim) fun _=>?_
   rw[z1w (n:=j+1+1+1) (by omega) (by omega)]
   exact hX _ (by omega)
 . intro X
   simp only
   refine z0h fun _=>?_
   rw[z32 (by omega)]
   rfl
theorem zsm {x0:List z0p} {x1:Int} (h0:0<=x1) (hk:x1+(wt k3 x0:Int)<=4611686018427387904) (hb:z0c k3 x0<=1099511627776):zd5 (mk mtx k3 x0 x1) x1 (x1+(wt k3 x0:Int)):=zsf _ _ _ (zsv h0 hk hb)
theorem z08j {x0:List Int} {x1:Int} (h0:0<=x1) (hk:x1+(wt k4 x0:Int)<=4611686018427387904) (hb:z0c k4 x0<=1099511627776):zol (z79 (mk mtx (.int .i64)) (wt (.int .i64)) x0 x1) x1 fun r=>r=(x1+(wt k4 x0:Int),()):=by
 unfold zol
 have e:z0c k4 x0=x0.length+(x0.map (z0c (.int .i64))).sum:=rfl
 have hL:(z79 (α:=Int) (mk mtx (.int .i64)) (wt (.int .i64)) x0 x1).length=x0.length:=z3i _ _ _ _
 refine z02j (α:=Int) (x:=x0) (mk mtx (.int .i64)) (wt (.int .i64)) ?_ ?_
 . intro i j hi h hj hw hat X hX
   have hm:=List.getElem_mem hi
   have ew:wt (.int .i64) x0[i]=1:=rfl
   have ek:wt k4 x0=(List.map (α:=Int) (wt (.int .i64)) x0).sum:=rfl
   have hbt:=zfu (z0c (.int .i64)) hm
   have eb:z0c (.int .i64) x0[i]=0:=rfl
   simp only
   refine z0h fun _=>?_
   rw[z5g (by omega)]
   simp only[Int.toNat_natCast,List.length_set,List.set_set,z5n h,z0y h,zgp,zh6 h,and_self,true_and,ne_eq,zyl,not_false_eq_true,hat]
   rw[z02 (i:=i) (by omega)]
   refine z6u (fun h=>(h rfl).elim) fun _=>?_
   rw[z1w (n:=j+1) (by omega) (by omega)]
   exact hX _ (by omega)
 . intro X
   simp only
   refine z0h fun _=>?_
   rw[z32 (by omega)]
   rfl
theorem zvl {x0:List Int} {x1:Int} (h0:0<=x1) (hk:x1+(wt k4 x0:Int)<=4611686018427387904) (hb:z0c k4 x0<=1099511627776):zhy (mk mtx k4 x0 x1) x1 (x1+(wt k4 x0:Int)):=z06z _ _ _ (z08j h0 hk hb)
theorem z04u {x0:List z00} {x1:Int} (h0:0<=x1) (hk:x1+(wt k7 x0:Int)<=4611686018427387904) (hb:z0c k7 x0<=1099511627776):zkd (z79 (mk mtx k6) (wt k6) x0 x1) x1 fun r=>r=(x1+(wt k7 x0:Int),()):=by
 unfold zkd
 have e:z0c k7 x0=x0.length+(x0.map (z0c k6)).sum:=rfl
 have hL:(z79 (α:=Int×(List Int)×Unit) (mk mtx k6) (wt k6) x0 x1).length=x0.length:=z3i _ _ _ _
 refine z02j (α:=Int×(List Int)×Unit) (x:=x0) (mk mtx k6) (wt k6) ?_ ?_
 . intro i j hi h hj hw hat X hX
   have hm:=List.getElem_mem hi
   have ew:wt k6 x0[i]=(1+(wt k4 x0[i].2.1+0)):=rfl
   have ek:wt k7 x0=(List.map (α:=Int×(List Int)×Unit) (wt k6) x0).sum:=rfl
   have hbt:=zfu (z0c k6) hm
   have eb:z0c k6 x0[i]=(0+(z0c k4 x0[i].2.1+0)):=rfl
   simp only
   refine z0h fun _=>?_
   rw[z5g (by omega)]
   simp only[Int.toNat_natCast,List.length_set,List.set_set,z5n h,z0y h,zgp,zh6 h,and_self,true_and,ne_eq,zyl,not_false_eq_true,hat]
   rw[z02 (i:=i) (by omega)]
   refine z6u (fun h=>(h rfl).elim) fun _=>?_
   rw[z1w (n:=j+1) (by omega) (by omega)]
   refine⟨_,zvl (x0:=x0[i].2.1) (x1:=j+1) (by omega) (by omega) (by omega),?_⟩
   rw[z32 (by omega)]
   exact hX _ (by omega)
 . intro X
   simp only
   refine z0h fun _=>?_
   rw[z32 (by omega)]
   rfl
theorem z05t {x0:List z00} {x1:Int} (h0:0<=x1) (hk:x1+(wt k7 x0:Int)<=4611686018427387904) (hb:z0c k7 x0<=1099511627776):zk0 (mk mtx k7 x0 x1) x1 (x1+(wt k7 x0:Int)):=z03e _ _ _ (z04u h0 hk hb)
theorem zv9 {x0:z09} {x1:Int} (h0:0<=x1) (hk:x1+(wt k9 x0:Int)<=4611686018427387904) (hb:z0c k9 x0<=1099511627776):zfo ((mk mtx k3 x0.1 (x1)),((mk mtx k7 x0.2.1 (x1+(wt k3 x0.1:Int))),())) x1 fun r=>r=(x1+(wt k3 x0.1:Int)+(wt k7 x0.2.1:Int),()):=by
 unfold zfo
 have e:z0c k9 x0=(z0c k3 x0.1+(z0c k7 x0.2.1+0)):=rfl
 have ew:wt k9 x0=(wt k3 x0.1+(wt k7 x0.2.1+0)):=rfl
 refine⟨_,zsm (x0:=x0.1) (x1:=x1) (by omega) (by omega) (by omega),?_⟩
 rw[z32 (by omega)]
 refine⟨_,z05t (x0:=x0.2.1) (x1:=x1+(wt k3 x0.1:Int)) (by omega) (by omega) (by omega),?_⟩
 rw[z32 (by omega)]
 all_goals rfl
theorem zxc {x0:z09} {x1:Int} (h0:0<=x1) (hk:x1+(wt k9 x0:Int)<=4611686018427387904) (hb:z0c k9 x0<=1099511627776):zfk ((mk mtx k3 x0.1 (x1)),((mk mtx k7 x0.2.1 (x1+(wt k3 x0.1:Int))),())) x1 (x1+(wt k3 x0.1:Int)+(wt k7 x0.2.1:Int)):=zv7 _ _ _ (zv9 h0 hk hb)
theorem zq7 {x0:List z06} {x1:Int} (h0:0<=x1) (hk:x1+(wt k11 x0:Int)<=4611686018427387904) (hb:z0c k11 x0<=1099511627776):zb8 (z79 (mk mtx k10) (wt k10) x0 x1) x1 fun r=>r=(x1+(wt k11 x0:Int),()):=by
 unfold zb8
 have e:z0c k11 x0=x0.length+(x0.map (z0c k10)).sum:=rfl
 have hL:(z79 (α:=Int×Int×(List Int)×Unit) (mk mtx k10) (wt k10) x0 x1).length=x0.length:=z3i _ _ _ _
 refine z02j (α:=Int×Int×(List Int)×Unit) (x:=x0) (mk mtx k10) (wt k10) ?_ ?_
 . intro i j hi h hj hw hat X hX
   have hm:=List.getElem_mem hi
   have ew:wt k10 x0[i]=(1+(1+(wt k4 x0[i].2.2.1+0))):=rfl
   have ek:wt k11 x0=(List.map (α:=Int×Int×(List Int)×Unit) (wt k10) x0).sum:=rfl
   have hbt:=zfu (z0c k10) hm
   have eb:z0c k10 x0[i]=(0+(0+(z0c k4 x0[i].2.2.1+0))):=rfl
   simp only
   refine z0h fun _=>?_
   rw[z5g (by omega)]
   simp only[Int.toNat_natCast,List.length_set,List.set_set,z5n h,z0y h,zgp,zh6 h,and_self,true_and,ne_eq,zyl,not_false_eq_true,hat]
   rw[z02 (i:=i) (by omega)]
   refine z6u (fun h=>(h rfl).elim) fun _=>?_
   rw[z1w (n:=j+1) (by omega) (by omega)]
   refine z6u (fun h=>(h rfl).elim) fun _=>?_
   rw[z1w (n:=j+1+1) (by omega) (by omega)]
   refine⟨_,zvl (x0:=x0[i].2.2.1) (x1:=j+1+1) (by omega) (by omega) (by omega),?_⟩
   rw[z32 (by omega)]
   exact hX _ (by omega)
 . intro X
   simp only
   refine z0h fun _=>?_
   rw[z32 (by omega)]
   rfl
theorem zow {x0:List z06} {x1:Int} (h0:0<=x1) (hk:x1+(wt k11 x0:Int)<=4611686018427387904) (hb:z0c k11 x0<=1099511627776):zat (mk mtx k11 x0 x1) x1 (x1+(wt k11 x0:Int)):=zp1 _ _ _ (zq7 h0 hk hb)
theorem zoo {x0:TSk} {x1:Int} (h0:0<=x1) (hk:x1+(wt k13 x0:Int)<=4611686018427387904) (hb:z0c k13 x0<=1099511627776):zb5 (((mk mtx k3 x0.1.1 (x1)),((mk mtx k7 x0.1.2.1 (x1+(wt k3 x0.1.1:Int))),())),((mk mtx k11 x0.2.1 (x1+(wt k3 x0.1.1:Int)+(wt k7 x0.1.2.1:Int))),())) x1 fun r=>r=(x1+(wt k3 x0.1.1:Int)+(wt k7 x0.1.2.1:Int)+(wt k11 x0.2.1:Int),()):=by
 unfold zb5
 have e:z0c k13 x0=((z0c k3 x0.1.1+(z0c k7 x0.1.2.1+0))+(z0c k11 x0.2.1+0)):=rfl
 have ew:wt k13 x0=((wt k3 x0.1.1+(wt k7 x0.1.2.1+0))+(wt k11 x0.2.1+0)):=rfl
 have eb1:z0c k9 x0.1=(z0c k3 x0.1.1+(z0c k7 x0.1.2.1+0)):=rfl
 have ew1:wt k9 x0.1=(wt k3 x0.1.1+(wt k7 x0.1.2.1+0)):=rfl
 refine⟨_,zxc (x0:=x0.1) (x1:=x1) (by omega) (by omega) (by omega),?_⟩
 rw[z32 (by omega)]
 refine⟨_,zow (x0:=x0.2.1) (x1:=x1+(wt k3 x0.1.1:Int)+(wt k7 x0.1.2.1:Int)) (by omega) (by omega) (by omega),?_⟩
 rw[z32 (by omega)]
 all_goals rfl
theorem zg9 {x0:TSk} {x1:Int} (h0:0<=x1) (hk:x1+(wt k13 x0:Int)<=4611686018427387904) (hb:z0c k13 x0<=1099511627776):z7s (((mk mtx k3 x0.1.1 (x1)),((mk mtx k7 x0.1.2.1 (x1+(wt k3 x0.1.1:Int))),())),((mk mtx k11 x0.2.1 (x1+(wt k3 x0.1.1:Int)+(wt k7 x0.1.2.1:Int))),())) x1 (x1+(wt k3 x0.1.1:Int)+(wt k7 x0.1.2.1:Int)+(wt k11 x0.2.1:Int)):=zp3 _ _ _ (zoo h0 hk hb)
end Go.V

