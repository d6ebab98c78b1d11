/-
  The family of small functions: sizes, copies, equalities.
-/
import Derived.Test.YtjafmgnamibefaaGreatYS0
import Derived.Test.YtjafmgnamibefaaGreatVE
set_option linter.unusedVariables false
set_option linter.unusedSimpArgs false
set_option maxRecDepth 1000000
set_option maxHeartbeats 4000000
set_option linter.unusedVariables false
set_option linter.unusedSimpArgs false
namespace Go.V
open Go
theorem z69 {x0:List Int} {x1:Unit} (p:Int->Bool) (hp:∀ t∈x0,z3l t (p t)):z1n x0 x1 (if z05 p x0<x0.length then(z05 p x0:Int)else -1):=z6a _ _ _ (by
 unfold z2u
 exact zmx p (fun y=>((y,()):Int×Unit)=((if z05 p x0<x0.length then(z05 p x0:Int)else -1),())) (fun t A B=>∃ y,z3l t y/\z01 y A B) (fun t ht A B h1 h2=>⟨_,hp t ht,z1w h1 h2⟩) rfl)
theorem z5e {x0:List Int} {x1:Unit} (p:Int->Bool) (hp:∀ t∈x0,z3l t (p t)):z1c x0 x1 (x0.any p):=z5d _ _ _ (by
 unfold z2j
 refine⟨_,z69 p hp,?_⟩
 rw[zkh])
theorem z61 {x0:List Int} {x1:Unit} (p:Int->Bool) (hp:∀ t∈x0,z3m t (p t)):z1m x0 x1 (if z05 p x0<x0.length then(z05 p x0:Int)else -1):=z6j _ _ _ (by
 unfold z2x
 exact zmx p (fun y=>((y,()):Int×Unit)=((if z05 p x0<x0.length then(z05 p x0:Int)else -1),())) (fun t A B=>∃ y,z3m t y/\z01 y A B) (fun t ht A B h1 h2=>⟨_,hp t ht,z1w h1 h2⟩) rfl)
theorem z57 {x0:List Int} {x1:Unit} (p:Int->Bool) (hp:∀ t∈x0,z3m t (p t)):z1a x0 x1 (x0.any p):=z5c _ _ _ (by
 unfold z2h
 refine⟨_,z61 p hp,?_⟩
 rw[zkh])
theorem z74 {x0:List z00} {x1:List z0s×Unit} (p:z00->Bool) (hp:∀ t∈x0,z6q t x1.1 (p t)):z1x x0 x1 (if z05 p x0<x0.length then(z05 p x0:Int)else -1):=z71 _ _ _ (by
 unfold z33
 exact zmx p (fun y=>((y,()):Int×Unit)=((if z05 p x0<x0.length then(z05 p x0:Int)else -1),())) (fun t A B=>∃ y,z6q t x1.1 y/\z01 y A B) (fun t ht A B h1 h2=>⟨_,hp t ht,z1w h1 h2⟩) rfl)
theorem z5s {x0:List z00} {x1:List z0s×Unit} (p:z00->Bool) (hp:∀ t∈x0,z6q t x1.1 (p t)):z1j x0 x1 (x0.any p):=z5r _ _ _ (by
 unfold z2m
 refine⟨_,z74 p hp,?_⟩
 rw[zkh])
theorem zc0 {x0:List Int} {x1:Int}:z5p x0 x1 (if z05 (fun t=>x1 == t) x0<x0.length then(z05 (fun t=>x1 == t) x0:Int)else -1):=zl3 _ _ _ (by
 unfold zc9
 exact zmx (fun t=>x1 == t) (fun y=>((y,()):Int×Unit)=((if z05 (fun t=>x1 == t) x0<x0.length then(z05 (fun t=>x1 == t) x0:Int)else -1),())) (fun t A B=>z01 (x1 == t) A B) (fun t ht A B h1 h2=>z1w h1 h2) rfl)
theorem z3p {x0:List Int} {x1:Int}:z26 x0 x1 (decide (x1∈x0)):=zhf _ _ _ (by
 unfold z9v
 refine⟨_,zc0,?_⟩
 rw[zkh,zqm])
theorem z42 {x0:List z00} {x1:List z0s×Unit} (p:z00->Bool) (hp:∀ t∈x0,z1y t x1.1 (p t)):z0y x0 x1 (if z05 p x0<x0.length then(z05 p x0:Int)else -1):=z40 _ _ _ (by
 unfold z20
 exact zmx p (fun y=>((y,()):Int×Unit)=((if z05 p x0<x0.length then(z05 p x0:Int)else -1),())) (fun t A B=>∃ y,z1y t x1.1 y/\z01 y A B) (fun t ht A B h1 h2=>⟨_,hp t ht,z1w h1 h2⟩) rfl)
theorem z3i {x0:List z00} {x1:List z0s×Unit} (p:z00->Bool) (hp:∀ t∈x0,z1y t x1.1 (p t)):z0v x0 x1 (x0.any p):=z3j _ _ _ (by
 unfold z1u
 refine⟨_,z42 p hp,?_⟩
 rw[zkh])
theorem z2z {x0:List z0f} {x1:List z0s×Unit} (p:z0f->Bool) (hp:∀ t∈x0,z1e t x1.1 (p t)):z0r x0 x1 (if z05 p x0<x0.length then(z05 p x0:Int)else -1):=z30 _ _ _ (by
 unfold z1b
 exact zmx p (fun y=>((y,()):Int×Unit)=((if z05 p x0<x0.length then(z05 p x0:Int)else -1),())) (fun t A B=>∃ y,z1e t x1.1 y/\z01 y A B) (fun t ht A B h1 h2=>⟨_,hp t ht,z1w h1 h2⟩) rfl)
theorem z2n {x0:List z0f} {x1:List z0s×Unit} (p:z0f->Bool) (hp:∀ t∈x0,z1e t x1.1 (p t)):z0q x0 x1 (x0.any p):=z2p _ _ _ (by
 unfold z17
 refine⟨_,z2z p hp,?_⟩
 rw[zkh])
theorem z7c {x0:List z00} {x1:z00×Unit} (p:z00->Bool) (hp:∀ t∈x0,z9z t x1.1 (p t)):z1z x0 x1 (if z05 p x0<x0.length then(z05 p x0:Int)else -1):=z7h _ _ _ (by
 unfold z37
 exact zmx p (fun y=>((y,()):Int×Unit)=((if z05 p x0<x0.length then(z05 p x0:Int)else -1),())) (fun t A B=>∃ y,z9z t x1.1 y/\z01 y A B) (fun t ht A B h1 h2=>⟨_,hp t ht,z1w h1 h2⟩) rfl)
theorem z5y {x0:List z00} {x1:z00×Unit} (p:z00->Bool) (hp:∀ t∈x0,z9z t x1.1 (p t)):z1k x0 x1 (x0.any p):=z6h _ _ _ (by
 unfold z2t
 refine⟨_,z7c p hp,?_⟩
 rw[zkh])
theorem zlc {x0:List Int} {x1:List Int}:z8h x0 x1 (decide (x0=x1)):=zkc _ _ _ (by
 unfold zch
 refine z0m fun hl=>z0m fun _=>?_
 have h:=z0d0 (fun a b=>decide (a=b)) (fun y=>((y,()):Bool×Unit)=(decide (x0=x1),())) (fun t u A B=>z01 (t != u) A B) (d:=(0:Int)) (e:=(0:Int)) (fun t ht u hu A B h1 h2=>z97 (fun h=>h1 (by simpa using h)) (fun h=>h2 (by simpa using h))) (by rw[zt2 _ (fun _ _=>rfl)]) hl
 refine z97 (fun hne=>?_) (fun he=>?_)
 . rwa [show(((x0.length:Int) != (x1.length:Int))=true)from by simpa using hne]at h
 . rw[show(((x0.length:Int) != (x1.length:Int))=false)from by simp[he]]at h
   exact z0m fun _=>h)
theorem z63 {x0:List (List Int)} {x1:TUf} (p:(List Int)->Bool) (hp:∀ t∈x0,z64 t x1.1 (p t)):z1l x0 x1 (if z05 p x0<x0.length then(z05 p x0:Int)else -1):=z6f _ _ _ (by
 unfold z2w
 exact zmx p (fun y=>((y,()):Int×Unit)=((if z05 p x0<x0.length then(z05 p x0:Int)else -1),())) (fun t A B=>∃ y,z64 t x1.1 y/\z01 y A B) (fun t ht A B h1 h2=>⟨_,hp t ht,z1w h1 h2⟩) rfl)
theorem z5a {x0:List (List Int)} {x1:TUf} (p:(List Int)->Bool) (hp:∀ t∈x0,z64 t x1.1 (p t)):z1d x0 x1 (x0.any p):=z5g _ _ _ (by
 unfold z2i
 refine⟨_,z63 p hp,?_⟩
 rw[zkh])
end Go.V

