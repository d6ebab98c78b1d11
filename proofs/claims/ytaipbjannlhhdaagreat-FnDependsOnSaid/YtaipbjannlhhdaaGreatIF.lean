/-
  The family of small functions: sizes, copies, equalities.
-/
import Derived.Test.YtaipbjannlhhdaaGreatIS0
import Derived.Test.YtaipbjannlhhdaaGreatVE
set_option linter.unusedVariables false
set_option linter.unusedSimpArgs false
set_option maxRecDepth 1000000
set_option maxHeartbeats 4000000
set_option linter.unusedVariables false
set_option linter.unusedSimpArgs false
namespace Go.V
open Go
theorem z5f {x0:List z00} {x1:z00×Unit} (p:z00->Bool) (hp:∀ t∈x0,z4z t x1.1 (p t)):z19 x0 x1 (if z02 p x0<x0.length then(z02 p x0:Int)else -1):=z5e _ _ _ (by
 unfold z2o
 exact zc7 p (fun y=>((y,()):Int×Unit)=((if z02 p x0<x0.length then(z02 p x0:Int)else -1),())) (fun t A B=>∃ y,z4z t x1.1 y/\z01 y A B) (fun t ht A B h1 h2=>⟨_,hp t ht,z1j h1 h2⟩) rfl)
theorem z7g {x0:List Int} {x1:Unit} (p:Int->Bool) (hp:∀ t∈x0,z4e t (p t)):z1y x0 x1 (if z02 p x0<x0.length then(z02 p x0:Int)else -1):=z70 _ _ _ (by
 unfold z3m
 exact zc7 p (fun y=>((y,()):Int×Unit)=((if z02 p x0<x0.length then(z02 p x0:Int)else -1),())) (fun t A B=>∃ y,z4e t y/\z01 y A B) (fun t ht A B h1 h2=>⟨_,hp t ht,z1j h1 h2⟩) rfl)
theorem z64 {x0:List Int} {x1:Unit} (p:Int->Bool) (hp:∀ t∈x0,z4e t (p t)):z1g x0 x1 (x0.any p):=z60 _ _ _ (by
 unfold z31
 refine⟨_,z7g p hp,?_⟩
 rw[zee])
theorem z8p {x0:List Int} {x1:Int×Unit} (p:Int->Bool) (hp:∀ t∈x0,z7m t x1.1 (p t)):z2f x0 x1 (if z02 p x0<x0.length then(z02 p x0:Int)else -1):=z8l _ _ _ (by
 unfold z40
 exact zc7 p (fun y=>((y,()):Int×Unit)=((if z02 p x0<x0.length then(z02 p x0:Int)else -1),())) (fun t A B=>∃ y,z7m t x1.1 y/\z01 y A B) (fun t ht A B h1 h2=>⟨_,hp t ht,z1j h1 h2⟩) rfl)
theorem z6x {x0:List Int} {x1:Int×Unit} (p:Int->Bool) (hp:∀ t∈x0,z7m t x1.1 (p t)):z1v x0 x1 (x0.any p):=z72 _ _ _ (by
 unfold z3n
 refine⟨_,z8p p hp,?_⟩
 rw[zee])
theorem zdk {x0:List Int} {x1:List Int}:z6h x0 x1 (decide (x0=x1)):=zlp _ _ _ (by
 unfold zdm
 refine z0j fun hl=>z0j fun _=>?_
 have h:=z0fy (fun a b=>decide (a=b)) (fun y=>((y,()):Bool×Unit)=(decide (x0=x1),())) (fun t u A B=>z01 (t != u) A B) (d:=(0:Int)) (e:=(0:Int)) (fun t ht u hu A B h1 h2=>zeo (fun h=>h1 (by simpa using h)) (fun h=>h2 (by simpa using h))) (by rw[zt3 _ (fun _ _=>rfl)]) hl
 refine zeo (fun hne=>?_) (fun he=>?_)
 . rwa [show(((x0.length:Int) != (x1.length:Int))=true)from by simpa using hne]at h
 . rw[show(((x0.length:Int) != (x1.length:Int))=false)from by simp[he]]at h
   exact z0j fun _=>h)
theorem z6e {x0:List z0a} {x1:z0a×Unit} (p:z0a->Bool) (hp:∀ t∈x0,zcs t x1.1 (p t)):z1p x0 x1 (if z02 p x0<x0.length then(z02 p x0:Int)else -1):=z6f _ _ _ (by
 unfold z33
 exact zc7 p (fun y=>((y,()):Int×Unit)=((if z02 p x0<x0.length then(z02 p x0:Int)else -1),())) (fun t A B=>∃ y,zcs t x1.1 y/\z01 y A B) (fun t ht A B h1 h2=>⟨_,hp t ht,z1j h1 h2⟩) rfl)
theorem z89 {x0:List Int} {x1:Unit} (p:Int->Bool) (hp:∀ t∈x0,z7p t (p t)):z2e x0 x1 (if z02 p x0<x0.length then(z02 p x0:Int)else -1):=z8e _ _ _ (by
 unfold z42
 exact zc7 p (fun y=>((y,()):Int×Unit)=((if z02 p x0<x0.length then(z02 p x0:Int)else -1),())) (fun t A B=>∃ y,z7p t y/\z01 y A B) (fun t ht A B h1 h2=>⟨_,hp t ht,z1j h1 h2⟩) rfl)
theorem z7f {x0:List Int} {x1:Unit} (p:Int->Bool) (hp:∀ t∈x0,z7p t (p t)):z1x x0 x1 (x0.any p):=z6s _ _ _ (by
 unfold z3l
 refine⟨_,z89 p hp,?_⟩
 rw[zee])
theorem z6z {x0:List Int} {x1:Unit} (p:Int->Bool) (hp:∀ t∈x0,z4d t (p t)):z1z x0 x1 (if z02 p x0<x0.length then(z02 p x0:Int)else -1):=z7e _ _ _ (by
 unfold z3h
 exact zc7 p (fun y=>((y,()):Int×Unit)=((if z02 p x0<x0.length then(z02 p x0:Int)else -1),())) (fun t A B=>∃ y,z4d t y/\z01 y A B) (fun t ht A B h1 h2=>⟨_,hp t ht,z1j h1 h2⟩) rfl)
theorem z62 {x0:List Int} {x1:Unit} (p:Int->Bool) (hp:∀ t∈x0,z4d t (p t)):z1l x0 x1 (x0.any p):=z65 _ _ _ (by
 unfold z2z
 refine⟨_,z6z p hp,?_⟩
 rw[zee])
theorem z87 {x0:List z00} {x1:List z0r×Unit} (p:z00->Bool) (hp:∀ t∈x0,z7x t x1.1 (p t)):z27 x0 x1 (if z02 p x0<x0.length then(z02 p x0:Int)else -1):=z84 _ _ _ (by
 unfold z3v
 exact zc7 p (fun y=>((y,()):Int×Unit)=((if z02 p x0<x0.length then(z02 p x0:Int)else -1),())) (fun t A B=>∃ y,z7x t x1.1 y/\z01 y A B) (fun t ht A B h1 h2=>⟨_,hp t ht,z1j h1 h2⟩) rfl)
theorem z6n {x0:List z00} {x1:List z0r×Unit} (p:z00->Bool) (hp:∀ t∈x0,z7x t x1.1 (p t)):z1r x0 x1 (x0.any p):=z6m _ _ _ (by
 unfold z38
 refine⟨_,z87 p hp,?_⟩
 rw[zee])
theorem zl1 {x0:List Int} {x1:Int}:z9n x0 x1 (if z02 (fun t=>x1 == t) x0<x0.length then(z02 (fun t=>x1 == t) x0:Int)else -1):=zls _ _ _ (by
 unfold zd4
 exact zc7 (fun t=>x1 == t) (fun y=>((y,()):Int×Unit)=((if z02 (fun t=>x1 == t) x0<x0.length then(z02 (fun t=>x1 == t) x0:Int)else -1),())) (fun t A B=>z01 (x1 == t) A B) (fun t ht A B h1 h2=>z1j h1 h2) rfl)
theorem z74 {x0:List Int} {x1:Int}:z3i x0 x1 (decide (x1∈x0)):=zgp _ _ _ (by
 unfold zb5
 refine⟨_,zl1,?_⟩
 rw[zee,zq8])
theorem z4t {x0:List z00} {x1:List z0r×Unit} (p:z00->Bool) (hp:∀ t∈x0,z2c t x1.1 (p t)):z15 x0 x1 (if z02 p x0<x0.length then(z02 p x0:Int)else -1):=z4q _ _ _ (by
 unfold z2g
 exact zc7 p (fun y=>((y,()):Int×Unit)=((if z02 p x0<x0.length then(z02 p x0:Int)else -1),())) (fun t A B=>∃ y,z2c t x1.1 y/\z01 y A B) (fun t ht A B h1 h2=>⟨_,hp t ht,z1j h1 h2⟩) rfl)
theorem z4a {x0:List z00} {x1:List z0r×Unit} (p:z00->Bool) (hp:∀ t∈x0,z2c t x1.1 (p t)):z0v x0 x1 (x0.any p):=z4b _ _ _ (by
 unfold z23
 refine⟨_,z4t p hp,?_⟩
 rw[zee])
theorem z3t {x0:List z0c} {x1:List z0r×Unit} (p:z0c->Bool) (hp:∀ t∈x0,z1n t x1.1 (p t)):z0t x0 x1 (if z02 p x0<x0.length then(z02 p x0:Int)else -1):=z3u _ _ _ (by
 unfold z1h
 exact zc7 p (fun y=>((y,()):Int×Unit)=((if z02 p x0<x0.length then(z02 p x0:Int)else -1),())) (fun t A B=>∃ y,z1n t x1.1 y/\z01 y A B) (fun t ht A B h1 h2=>⟨_,hp t ht,z1j h1 h2⟩) rfl)
theorem z3b {x0:List z0c} {x1:List z0r×Unit} (p:z0c->Bool) (hp:∀ t∈x0,z1n t x1.1 (p t)):z0q x0 x1 (x0.any p):=z3a _ _ _ (by
 unfold z17
 refine⟨_,z3t p hp,?_⟩
 rw[zee])
theorem z5p {x0:List z0c} {x1:Unit} (p:z0c->Bool) (hp:∀ t∈x0,z7l t (p t)):z1f x0 x1 (if z02 p x0<x0.length then(z02 p x0:Int)else -1):=z5u _ _ _ (by
 unfold z2t
 exact zc7 p (fun y=>((y,()):Int×Unit)=((if z02 p x0<x0.length then(z02 p x0:Int)else -1),())) (fun t A B=>∃ y,z7l t y/\z01 y A B) (fun t ht A B h1 h2=>⟨_,hp t ht,z1j h1 h2⟩) rfl)
theorem z4v {x0:List z0c} {x1:Unit} (p:z0c->Bool) (hp:∀ t∈x0,z7l t (p t)):z16 x0 x1 (x0.any p):=z4u _ _ _ (by
 unfold z2h
 refine⟨_,z5p p hp,?_⟩
 rw[zee])
theorem z8o {x0:List z00} {x1:z00×Unit} (p:z00->Bool) (hp:∀ t∈x0,zb7 t x1.1 (p t)):z2d x0 x1 (if z02 p x0<x0.length then(z02 p x0:Int)else -1):=z8h _ _ _ (by
 unfold z41
 exact zc7 p (fun y=>((y,()):Int×Unit)=((if z02 p x0<x0.length then(z02 p x0:Int)else -1),())) (fun t A B=>∃ y,zb7 t x1.1 y/\z01 y A B) (fun t ht A B h1 h2=>⟨_,hp t ht,z1j h1 h2⟩) rfl)
theorem z6y {x0:List z00} {x1:z00×Unit} (p:z00->Bool) (hp:∀ t∈x0,zb7 t x1.1 (p t)):z1w x0 x1 (x0.any p):=z75 _ _ _ (by
 unfold z3d
 refine⟨_,z8o p hp,?_⟩
 rw[zee])
theorem z7d {x0:List (List Int)} {x1:TUf} (p:(List Int)->Bool) (hp:∀ t∈x0,z6v t x1.1 (p t)):z1t x0 x1 (if z02 p x0<x0.length then(z02 p x0:Int)else -1):=z6u _ _ _ (by
 unfold z3j
 exact zc7 p (fun y=>((y,()):Int×Unit)=((if z02 p x0<x0.length then(z02 p x0:Int)else -1),())) (fun t A B=>∃ y,z6v t x1.1 y/\z01 y A B) (fun t ht A B h1 h2=>⟨_,hp t ht,z1j h1 h2⟩) rfl)
theorem z66 {x0:List (List Int)} {x1:TUf} (p:(List Int)->Bool) (hp:∀ t∈x0,z6v t x1.1 (p t)):z1i x0 x1 (x0.any p):=z5z _ _ _ (by
 unfold z30
 refine⟨_,z7d p hp,?_⟩
 rw[zee])
theorem z6p {x0:List z00} {x1:List z00×List Int×List z0c×Unit} (p:z00->Bool) (hp:∀ t∈x0,zcc t x1.1 x1.2.1 x1.2.2.1 (p t)):z1s x0 x1 (if z02 p x0<x0.length then(z02 p x0:Int)else -1):=z6o _ _ _ (by
 unfold z37
 exact zc7 p (fun y=>((y,()):Int×Unit)=((if z02 p x0<x0.length then(z02 p x0:Int)else -1),())) (fun t A B=>∃ y,zcc t x1.1 x1.2.1 x1.2.2.1 y/\z01 y A B) (fun t ht A B h1 h2=>⟨_,hp t ht,z1j h1 h2⟩) rfl)
theorem z5t {x0:List z00} {x1:List z00×List Int×List z0c×Unit} (p:z00->Bool) (hp:∀ t∈x0,zcc t x1.1 x1.2.1 x1.2.2.1 (p t)):z1c x0 x1 (x0.any p):=z5w _ _ _ (by
 unfold z2u
 refine⟨_,z6p p hp,?_⟩
 rw[zee])
theorem z76 {x0:List (zs0 z00)} {x1:z00×Unit} (p:(zs0 z00)->Bool) (hp:∀ t∈x0,z36 t x1.1 (p t)):z1u x0 x1 (if z02 p x0<x0.length then(z02 p x0:Int)else -1):=z7i _ _ _ (by
 unfold z3f
 exact zc7 p (fun y=>((y,()):Int×Unit)=((if z02 p x0<x0.length then(z02 p x0:Int)else -1),())) (fun t A B=>∃ y,z36 t x1.1 y/\z01 y A B) (fun t ht A B h1 h2=>⟨_,hp t ht,z1j h1 h2⟩) rfl)
end Go.V

