/-
  The family of small functions: sizes, copies, equalities.
-/
import Derived.Test.YtaipbjannlhhdaaGreatJS0
import Derived.Test.YtaipbjannlhhdaaGreatJS1
import Derived.Test.YtaipbjannlhhdaaGreatVE
set_option linter.unusedVariables false
set_option linter.unusedSimpArgs false
set_option maxRecDepth 1000000
set_option maxHeartbeats 4000000
set_option linter.unusedVariables false
set_option linter.unusedSimpArgs false
namespace Go.V
open Go
theorem z5n {x0:List z00} {x1:z00×Unit} (p:z00->Bool) (hp:∀ t∈x0,z4z t x1.1 (p t)):z1f x0 x1 (if z03 p x0<x0.length then(z03 p x0:Int)else -1):=z5m _ _ _ (by
 unfold z2u
 exact zdx p (fun y=>((y,()):Int×Unit)=((if z03 p x0<x0.length then(z03 p x0:Int)else -1),())) (fun t A B=>∃ y,z4z t x1.1 y/\z01 y A B) (fun t ht A B h1 h2=>⟨_,hp t ht,z1e h1 h2⟩) rfl)
theorem z7l {x0:List Int} {x1:Unit} (p:Int->Bool) (hp:∀ t∈x0,z4g t (p t)):z21 x0 x1 (if z03 p x0<x0.length then(z03 p x0:Int)else -1):=z7r _ _ _ (by
 unfold z3o
 exact zdx p (fun y=>((y,()):Int×Unit)=((if z03 p x0<x0.length then(z03 p x0:Int)else -1),())) (fun t A B=>∃ y,z4g t y/\z01 y A B) (fun t ht A B h1 h2=>⟨_,hp t ht,z1e h1 h2⟩) rfl)
theorem z6h {x0:List Int} {x1:Unit} (p:Int->Bool) (hp:∀ t∈x0,z4g t (p t)):z1q x0 x1 (x0.any p):=z6b _ _ _ (by
 unfold z34
 refine⟨_,z7l p hp,?_⟩
 rw[zfg])
theorem z8o {x0:List Int} {x1:Int×Unit} (p:Int->Bool) (hp:∀ t∈x0,z82 t x1.1 (p t)):z2h x0 x1 (if z03 p x0<x0.length then(z03 p x0:Int)else -1):=z8n _ _ _ (by
 unfold z47
 exact zdx p (fun y=>((y,()):Int×Unit)=((if z03 p x0<x0.length then(z03 p x0:Int)else -1),())) (fun t A B=>∃ y,z82 t x1.1 y/\z01 y A B) (fun t ht A B h1 h2=>⟨_,hp t ht,z1e h1 h2⟩) rfl)
theorem z7z {x0:List Int} {x1:Int×Unit} (p:Int->Bool) (hp:∀ t∈x0,z82 t x1.1 (p t)):z1z x0 x1 (x0.any p):=z7p _ _ _ (by
 unfold z3j
 refine⟨_,z8o p hp,?_⟩
 rw[zfg])
theorem ze5 {x0:List Int} {x1:List Int}:z6y x0 x1 (decide (x0=x1)):=zlv _ _ _ (by
 unfold zec
 refine z0g fun hl=>z0g fun _=>?_
 have h:=z0gr (fun a b=>decide (a=b)) (fun y=>((y,()):Bool×Unit)=(decide (x0=x1),())) (fun t u A B=>z01 (t != u) A B) (d:=(0:Int)) (e:=(0:Int)) (fun t ht u hu A B h1 h2=>zbt (fun h=>h1 (by simpa using h)) (fun h=>h2 (by simpa using h))) (by rw[ztz _ (fun _ _=>rfl)]) hl
 refine zbt (fun hne=>?_) (fun he=>?_)
 . rwa [show(((x0.length:Int) != (x1.length:Int))=true)from by simpa using hne]at h
 . rw[show(((x0.length:Int) != (x1.length:Int))=false)from by simp[he]]at h
   exact z0g fun _=>h)
theorem z6t {x0:List z08} {x1:z08×Unit} (p:z08->Bool) (hp:∀ t∈x0,zd1 t x1.1 (p t)):z1v x0 x1 (if z03 p x0<x0.length then(z03 p x0:Int)else -1):=z6u _ _ _ (by
 unfold z38
 exact zdx p (fun y=>((y,()):Int×Unit)=((if z03 p x0<x0.length then(z03 p x0:Int)else -1),())) (fun t A B=>∃ y,zd1 t x1.1 y/\z01 y A B) (fun t ht A B h1 h2=>⟨_,hp t ht,z1e h1 h2⟩) rfl)
theorem z8y {x0:List Int} {x1:Unit} (p:Int->Bool) (hp:∀ t∈x0,z80 t (p t)):z2j x0 x1 (if z03 p x0<x0.length then(z03 p x0:Int)else -1):=z90 _ _ _ (by
 unfold z42
 exact zdx p (fun y=>((y,()):Int×Unit)=((if z03 p x0<x0.length then(z03 p x0:Int)else -1),())) (fun t A B=>∃ y,z80 t y/\z01 y A B) (fun t ht A B h1 h2=>⟨_,hp t ht,z1e h1 h2⟩) rfl)
theorem z7c {x0:List Int} {x1:Unit} (p:Int->Bool) (hp:∀ t∈x0,z80 t (p t)):z24 x0 x1 (x0.any p):=z7q _ _ _ (by
 unfold z3l
 refine⟨_,z8y p hp,?_⟩
 rw[zfg])
theorem z7i {x0:List Int} {x1:Unit} (p:Int->Bool) (hp:∀ t∈x0,z4f t (p t)):z1y x0 x1 (if z03 p x0<x0.length then(z03 p x0:Int)else -1):=z7f _ _ _ (by
 unfold z3q
 exact zdx p (fun y=>((y,()):Int×Unit)=((if z03 p x0<x0.length then(z03 p x0:Int)else -1),())) (fun t A B=>∃ y,z4f t y/\z01 y A B) (fun t ht A B h1 h2=>⟨_,hp t ht,z1e h1 h2⟩) rfl)
theorem z6j {x0:List Int} {x1:Unit} (p:Int->Bool) (hp:∀ t∈x0,z4f t (p t)):z1p x0 x1 (x0.any p):=z6d _ _ _ (by
 unfold z35
 refine⟨_,z7i p hp,?_⟩
 rw[zfg])
theorem z8g {x0:List z00} {x1:List z0s×Unit} (p:z00->Bool) (hp:∀ t∈x0,z83 t x1.1 (p t)):z2d x0 x1 (if z03 p x0<x0.length then(z03 p x0:Int)else -1):=z8h _ _ _ (by
 unfold z3x
 exact zdx p (fun y=>((y,()):Int×Unit)=((if z03 p x0<x0.length then(z03 p x0:Int)else -1),())) (fun t A B=>∃ y,z83 t x1.1 y/\z01 y A B) (fun t ht A B h1 h2=>⟨_,hp t ht,z1e h1 h2⟩) rfl)
theorem z75 {x0:List z00} {x1:List z0s×Unit} (p:z00->Bool) (hp:∀ t∈x0,z83 t x1.1 (p t)):z1w x0 x1 (x0.any p):=z79 _ _ _ (by
 unfold z3d
 refine⟨_,z8g p hp,?_⟩
 rw[zfg])
theorem zml {x0:List Int} {x1:Int}:z9m x0 x1 (if z03 (fun t=>x1 == t) x0<x0.length then(z03 (fun t=>x1 == t) x0:Int)else -1):=zmp _ _ _ (by
 unfold ze7
 exact zdx (fun t=>x1 == t) (fun y=>((y,()):Int×Unit)=((if z03 (fun t=>x1 == t) x0<x0.length then(z03 (fun t=>x1 == t) x0:Int)else -1),())) (fun t A B=>z01 (x1 == t) A B) (fun t ht A B h1 h2=>z1e h1 h2) rfl)
theorem z3n {x0:List Int} {x1:Int}:z20 x0 x1 (decide (x1∈x0)):=zhw _ _ _ (by
 unfold zbm
 refine⟨_,zml,?_⟩
 rw[zfg,zss])
theorem z4s {x0:List z00} {x1:List z0s×Unit} (p:z00->Bool) (hp:∀ t∈x0,z2g t x1.1 (p t)):z18 x0 x1 (if z03 p x0<x0.length then(z03 p x0:Int)else -1):=z4r _ _ _ (by
 unfold z2m
 exact zdx p (fun y=>((y,()):Int×Unit)=((if z03 p x0<x0.length then(z03 p x0:Int)else -1),())) (fun t A B=>∃ y,z2g t x1.1 y/\z01 y A B) (fun t ht A B h1 h2=>⟨_,hp t ht,z1e h1 h2⟩) rfl)
theorem z4d {x0:List z00} {x1:List z0s×Unit} (p:z00->Bool) (hp:∀ t∈x0,z2g t x1.1 (p t)):z0y x0 x1 (x0.any p):=z4e _ _ _ (by
 unfold z29
 refine⟨_,z4s p hp,?_⟩
 rw[zfg])
theorem z3u {x0:List z0b} {x1:List z0s×Unit} (p:z0b->Bool) (hp:∀ t∈x0,z1r t x1.1 (p t)):z0t x0 x1 (if z03 p x0<x0.length then(z03 p x0:Int)else -1):=z3v _ _ _ (by
 unfold z1n
 exact zdx p (fun y=>((y,()):Int×Unit)=((if z03 p x0<x0.length then(z03 p x0:Int)else -1),())) (fun t A B=>∃ y,z1r t x1.1 y/\z01 y A B) (fun t ht A B h1 h2=>⟨_,hp t ht,z1e h1 h2⟩) rfl)
theorem z3i {x0:List z0b} {x1:List z0s×Unit} (p:z0b->Bool) (hp:∀ t∈x0,z1r t x1.1 (p t)):z0r x0 x1 (x0.any p):=z3g _ _ _ (by
 unfold z1c
 refine⟨_,z3u p hp,?_⟩
 rw[zfg])
theorem z5t {x0:List z0b} {x1:Unit} (p:z0b->Bool) (hp:∀ t∈x0,z84 t (p t)):z1l x0 x1 (if z03 p x0<x0.length then(z03 p x0:Int)else -1):=z60 _ _ _ (by
 unfold z30
 exact zdx p (fun y=>((y,()):Int×Unit)=((if z03 p x0<x0.length then(z03 p x0:Int)else -1),())) (fun t A B=>∃ y,z84 t y/\z01 y A B) (fun t ht A B h1 h2=>⟨_,hp t ht,z1e h1 h2⟩) rfl)
theorem z4u {x0:List z0b} {x1:Unit} (p:z0b->Bool) (hp:∀ t∈x0,z84 t (p t)):z19 x0 x1 (x0.any p):=z4o _ _ _ (by
 unfold z2n
 refine⟨_,z5t p hp,?_⟩
 rw[zfg])
theorem z94 {x0:List z00} {x1:z00×Unit} (p:z00->Bool) (hp:∀ t∈x0,zb8 t x1.1 (p t)):z2i x0 x1 (if z03 p x0<x0.length then(z03 p x0:Int)else -1):=z8m _ _ _ (by
 unfold z43
 exact zdx p (fun y=>((y,()):Int×Unit)=((if z03 p x0<x0.length then(z03 p x0:Int)else -1),())) (fun t A B=>∃ y,zb8 t x1.1 y/\z01 y A B) (fun t ht A B h1 h2=>⟨_,hp t ht,z1e h1 h2⟩) rfl)
theorem z7u {x0:List z00} {x1:z00×Unit} (p:z00->Bool) (hp:∀ t∈x0,zb8 t x1.1 (p t)):z27 x0 x1 (x0.any p):=z7b _ _ _ (by
 unfold z3p
 refine⟨_,z94 p hp,?_⟩
 rw[zfg])
theorem z7n {x0:List (List Int)} {x1:TUf} (p:(List Int)->Bool) (hp:∀ t∈x0,z7y t x1.1 (p t)):z26 x0 x1 (if z03 p x0<x0.length then(z03 p x0:Int)else -1):=z7x _ _ _ (by
 unfold z3m
 exact zdx p (fun y=>((y,()):Int×Unit)=((if z03 p x0<x0.length then(z03 p x0:Int)else -1),())) (fun t A B=>∃ y,z7y t x1.1 y/\z01 y A B) (fun t ht A B h1 h2=>⟨_,hp t ht,z1e h1 h2⟩) rfl)
theorem z6i {x0:List (List Int)} {x1:TUf} (p:(List Int)->Bool) (hp:∀ t∈x0,z7y t x1.1 (p t)):z1o x0 x1 (x0.any p):=z6f _ _ _ (by
 unfold z33
 refine⟨_,z7n p hp,?_⟩
 rw[zfg])
theorem z78 {x0:List z00} {x1:List z00×List Int×List z0b×Unit} (p:z00->Bool) (hp:∀ t∈x0,zdg t x1.1 x1.2.1 x1.2.2.1 (p t)):z1x x0 x1 (if z03 p x0<x0.length then(z03 p x0:Int)else -1):=z7a _ _ _ (by
 unfold z3c
 exact zdx p (fun y=>((y,()):Int×Unit)=((if z03 p x0<x0.length then(z03 p x0:Int)else -1),())) (fun t A B=>∃ y,zdg t x1.1 x1.2.1 x1.2.2.1 y/\z01 y A B) (fun t ht A B h1 h2=>⟨_,hp t ht,z1e h1 h2⟩) rfl)
theorem z5x {x0:List z00} {x1:List z00×List Int×List z0b×Unit} (p:z00->Bool) (hp:∀ t∈x0,zdg t x1.1 x1.2.1 x1.2.2.1 (p t)):z1k x0 x1 (x0.any p):=z5r _ _ _ (by
 unfold z2z
 refine⟨_,z78 p hp,?_⟩
 rw[zfg])
end Go.V

