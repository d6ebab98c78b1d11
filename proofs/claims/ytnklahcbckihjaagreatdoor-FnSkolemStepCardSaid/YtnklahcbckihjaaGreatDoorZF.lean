/-
  The family of small functions: sizes, copies, equalities.
-/
import Derived.Test.YtnklahcbckihjaaGreatDoorZS0
import Derived.Test.YtnklahcbckihjaaGreatDoorVE
set_option linter.unusedVariables false
set_option linter.unusedSimpArgs false
set_option maxRecDepth 1000000
set_option maxHeartbeats 4000000
set_option linter.unusedVariables false
set_option linter.unusedSimpArgs false
namespace Go.V
open Go
theorem z6o {x0:List Int} {x1:Unit} (p:Int->Bool) (hp:∀ t∈x0,z47 t (p t)):z1s x0 x1 (if z03 p x0<x0.length then(z03 p x0:Int)else -1):=z74 _ _ _ (by
 unfold z3b
 exact zg8 p (fun y=>((y,()):Int×Unit)=((if z03 p x0<x0.length then(z03 p x0:Int)else -1),())) (fun t A B=>∃ y,z47 t y/\z01 y A B) (fun t ht A B h1 h2=>⟨_,hp t ht,z1y h1 h2⟩) rfl)
theorem z5w {x0:List Int} {x1:Unit} (p:Int->Bool) (hp:∀ t∈x0,z47 t (p t)):z1i x0 x1 (x0.any p):=z5z _ _ _ (by
 unfold z2x
 refine⟨_,z6o p hp,?_⟩
 rw[zfw])
theorem z88 {x0:List Int} {x1:Int×Unit} (p:Int->Bool) (hp:∀ t∈x0,z7i t x1.1 (p t)):z2b x0 x1 (if z03 p x0<x0.length then(z03 p x0:Int)else -1):=z8i _ _ _ (by
 unfold z3u
 exact zg8 p (fun y=>((y,()):Int×Unit)=((if z03 p x0<x0.length then(z03 p x0:Int)else -1),())) (fun t A B=>∃ y,z7i t x1.1 y/\z01 y A B) (fun t ht A B h1 h2=>⟨_,hp t ht,z1y h1 h2⟩) rfl)
theorem z6q {x0:List Int} {x1:Int×Unit} (p:Int->Bool) (hp:∀ t∈x0,z7i t x1.1 (p t)):z1u x0 x1 (x0.any p):=z6v _ _ _ (by
 unfold z3e
 refine⟨_,z88 p hp,?_⟩
 rw[zfw])
theorem zlx {x0:List Int} {x1:List Int}:z9c x0 x1 (decide (x0=x1)):=zkr _ _ _ (by
 unfold zdb
 refine z0l fun hl=>z0l fun _=>?_
 have h:=z0er (fun a b=>decide (a=b)) (fun y=>((y,()):Bool×Unit)=(decide (x0=x1),())) (fun t u A B=>z01 (t != u) A B) (d:=(0:Int)) (e:=(0:Int)) (fun t ht u hu A B h1 h2=>zby (fun h=>h1 (by simpa using h)) (fun h=>h2 (by simpa using h))) (by rw[zso _ (fun _ _=>rfl)]) hl
 refine zby (fun hne=>?_) (fun he=>?_)
 . rwa [show(((x0.length:Int) != (x1.length:Int))=true)from by simpa using hne]at h
 . rw[show(((x0.length:Int) != (x1.length:Int))=false)from by simp[he]]at h
   exact z0l fun _=>h)
theorem z65 {x0:List z09} {x1:z09×Unit} (p:z09->Bool) (hp:∀ t∈x0,zcn t x1.1 (p t)):z1n x0 x1 (if z03 p x0<x0.length then(z03 p x0:Int)else -1):=z68 _ _ _ (by
 unfold z2y
 exact zg8 p (fun y=>((y,()):Int×Unit)=((if z03 p x0<x0.length then(z03 p x0:Int)else -1),())) (fun t A B=>∃ y,zcn t x1.1 y/\z01 y A B) (fun t ht A B h1 h2=>⟨_,hp t ht,z1y h1 h2⟩) rfl)
theorem z80 {x0:List Int} {x1:Unit} (p:Int->Bool) (hp:∀ t∈x0,z7k t (p t)):z2a x0 x1 (if z03 p x0<x0.length then(z03 p x0:Int)else -1):=z85 _ _ _ (by
 unfold z3w
 exact zg8 p (fun y=>((y,()):Int×Unit)=((if z03 p x0<x0.length then(z03 p x0:Int)else -1),())) (fun t A B=>∃ y,z7k t y/\z01 y A B) (fun t ht A B h1 h2=>⟨_,hp t ht,z1y h1 h2⟩) rfl)
theorem z6n {x0:List Int} {x1:Unit} (p:Int->Bool) (hp:∀ t∈x0,z7k t (p t)):z1v x0 x1 (x0.any p):=z6p _ _ _ (by
 unfold z3d
 refine⟨_,z80 p hp,?_⟩
 rw[zfw])
theorem z7a {x0:List Int} {x1:Unit} (p:Int->Bool) (hp:∀ t∈x0,z48 t (p t)):z1w x0 x1 (if z03 p x0<x0.length then(z03 p x0:Int)else -1):=z7d _ _ _ (by
 unfold z3g
 exact zg8 p (fun y=>((y,()):Int×Unit)=((if z03 p x0<x0.length then(z03 p x0:Int)else -1),())) (fun t A B=>∃ y,z48 t y/\z01 y A B) (fun t ht A B h1 h2=>⟨_,hp t ht,z1y h1 h2⟩) rfl)
theorem z5u {x0:List Int} {x1:Unit} (p:Int->Bool) (hp:∀ t∈x0,z48 t (p t)):z1h x0 x1 (x0.any p):=z61 _ _ _ (by
 unfold z2w
 refine⟨_,z7a p hp,?_⟩
 rw[zfw])
theorem z7q {x0:List z00} {x1:List z0o×Unit} (p:z00->Bool) (hp:∀ t∈x0,z7j t x1.1 (p t)):z26 x0 x1 (if z03 p x0<x0.length then(z03 p x0:Int)else -1):=z7r _ _ _ (by
 unfold z3p
 exact zg8 p (fun y=>((y,()):Int×Unit)=((if z03 p x0<x0.length then(z03 p x0:Int)else -1),())) (fun t A B=>∃ y,z7j t x1.1 y/\z01 y A B) (fun t ht A B h1 h2=>⟨_,hp t ht,z1y h1 h2⟩) rfl)
theorem z6h {x0:List z00} {x1:List z0o×Unit} (p:z00->Bool) (hp:∀ t∈x0,z7j t x1.1 (p t)):z1r x0 x1 (x0.any p):=z6f _ _ _ (by
 unfold z32
 refine⟨_,z7q p hp,?_⟩
 rw[zfw])
theorem zkp {x0:List Int} {x1:Int}:z8y x0 x1 (if z03 (fun t=>x1 == t) x0<x0.length then(z03 (fun t=>x1 == t) x0:Int)else -1):=zly _ _ _ (by
 unfold zd1
 exact zg8 (fun t=>x1 == t) (fun y=>((y,()):Int×Unit)=((if z03 (fun t=>x1 == t) x0<x0.length then(z03 (fun t=>x1 == t) x0:Int)else -1),())) (fun t A B=>z01 (x1 == t) A B) (fun t ht A B h1 h2=>z1y h1 h2) rfl)
theorem z4g {x0:List Int} {x1:Int}:z2i x0 x1 (decide (x1∈x0)):=zgh _ _ _ (by
 unfold zb2
 refine⟨_,zkp,?_⟩
 rw[zfw,ztw])
theorem z4t {x0:List z00} {x1:List z0o×Unit} (p:z00->Bool) (hp:∀ t∈x0,z29 t x1.1 (p t)):z19 x0 x1 (if z03 p x0<x0.length then(z03 p x0:Int)else -1):=z4p _ _ _ (by
 unfold z2e
 exact zg8 p (fun y=>((y,()):Int×Unit)=((if z03 p x0<x0.length then(z03 p x0:Int)else -1),())) (fun t A B=>∃ y,z29 t x1.1 y/\z01 y A B) (fun t ht A B h1 h2=>⟨_,hp t ht,z1y h1 h2⟩) rfl)
theorem z44 {x0:List z00} {x1:List z0o×Unit} (p:z00->Bool) (hp:∀ t∈x0,z29 t x1.1 (p t)):z0z x0 x1 (x0.any p):=z43 _ _ _ (by
 unfold z21
 refine⟨_,z4t p hp,?_⟩
 rw[zfw])
theorem z3m {x0:List z0k} {x1:List z0o×Unit} (p:z0k->Bool) (hp:∀ t∈x0,z1l t x1.1 (p t)):z0s x0 x1 (if z03 p x0<x0.length then(z03 p x0:Int)else -1):=z3l _ _ _ (by
 unfold z1j
 exact zg8 p (fun y=>((y,()):Int×Unit)=((if z03 p x0<x0.length then(z03 p x0:Int)else -1),())) (fun t A B=>∃ y,z1l t x1.1 y/\z01 y A B) (fun t ht A B h1 h2=>⟨_,hp t ht,z1y h1 h2⟩) rfl)
theorem z36 {x0:List z0k} {x1:List z0o×Unit} (p:z0k->Bool) (hp:∀ t∈x0,z1l t x1.1 (p t)):z0p x0 x1 (x0.any p):=z34 _ _ _ (by
 unfold z1d
 refine⟨_,z3m p hp,?_⟩
 rw[zfw])
theorem z5o {x0:List z0k} {x1:Unit} (p:z0k->Bool) (hp:∀ t∈x0,z7g t (p t)):z1f x0 x1 (if z03 p x0<x0.length then(z03 p x0:Int)else -1):=z5k _ _ _ (by
 unfold z2q
 exact zg8 p (fun y=>((y,()):Int×Unit)=((if z03 p x0<x0.length then(z03 p x0:Int)else -1),())) (fun t A B=>∃ y,z7g t y/\z01 y A B) (fun t ht A B h1 h2=>⟨_,hp t ht,z1y h1 h2⟩) rfl)
theorem z4n {x0:List z0k} {x1:Unit} (p:z0k->Bool) (hp:∀ t∈x0,z7g t (p t)):z1b x0 x1 (x0.any p):=z4q _ _ _ (by
 unfold z2d
 refine⟨_,z5o p hp,?_⟩
 rw[zfw])
theorem z8j {x0:List z00} {x1:z00×Unit} (p:z00->Bool) (hp:∀ t∈x0,zan t x1.1 (p t)):z2c x0 x1 (if z03 p x0<x0.length then(z03 p x0:Int)else -1):=z82 _ _ _ (by
 unfold z3t
 exact zg8 p (fun y=>((y,()):Int×Unit)=((if z03 p x0<x0.length then(z03 p x0:Int)else -1),())) (fun t A B=>∃ y,zan t x1.1 y/\z01 y A B) (fun t ht A B h1 h2=>⟨_,hp t ht,z1y h1 h2⟩) rfl)
theorem z73 {x0:List z00} {x1:z00×Unit} (p:z00->Bool) (hp:∀ t∈x0,zan t x1.1 (p t)):z1t x0 x1 (x0.any p):=z6k _ _ _ (by
 unfold z3c
 refine⟨_,z8j p hp,?_⟩
 rw[zfw])
theorem z7x {x0:List z00} {x1:z0c×Unit} (p:z00->Bool) (hp:∀ t∈x0,z7h t x1.1 (p t)):z24 x0 x1 (if z03 p x0<x0.length then(z03 p x0:Int)else -1):=z7t _ _ _ (by
 unfold z3o
 exact zg8 p (fun y=>((y,()):Int×Unit)=((if z03 p x0<x0.length then(z03 p x0:Int)else -1),())) (fun t A B=>∃ y,z7h t x1.1 y/\z01 y A B) (fun t ht A B h1 h2=>⟨_,hp t ht,z1y h1 h2⟩) rfl)
theorem z6i {x0:List z00} {x1:z0c×Unit} (p:z00->Bool) (hp:∀ t∈x0,z7h t x1.1 (p t)):z1q x0 x1 (x0.any p):=z6j _ _ _ (by
 unfold z33
 refine⟨_,z7x p hp,?_⟩
 rw[zfw])
end Go.V

