/-
  The family of small functions: sizes, copies, equalities.
-/
import Derived.Test.YtblkhkfmeocddaaGreatMS0
import Derived.Test.YtblkhkfmeocddaaGreatVE
set_option linter.unusedVariables false
set_option linter.unusedSimpArgs false
set_option maxRecDepth 1000000
set_option maxHeartbeats 4000000
set_option linter.unusedVariables false
set_option linter.unusedSimpArgs false
namespace Go.V
open Go
theorem z5t {x0:List Int} {x1:Unit} (p:Int->Bool) (hp:∀ t∈x0,z3t t (p t)):z1s x0 x1 (if z05 p x0<x0.length then(z05 p x0:Int)else -1):=z5z _ _ _ (by
 unfold z31
 exact zil p (fun y=>((y,()):Int×Unit)=((if z05 p x0<x0.length then(z05 p x0:Int)else -1),())) (fun t A B=>∃ y,z3t t y/\z00 y A B) (fun t ht A B h1 h2=>⟨_,hp t ht,z1k h1 h2⟩) rfl)
theorem z52 {x0:List Int} {x1:Unit} (p:Int->Bool) (hp:∀ t∈x0,z3t t (p t)):z1g x0 x1 (x0.any p):=z54 _ _ _ (by
 unfold z2p
 refine⟨_,z5t p hp,?_⟩
 rw[zio])
theorem z6o {x0:List z01} {x1:List z0m×Unit} (p:z01->Bool) (hp:∀ t∈x0,z6a t x1.1 (p t)):z23 x0 x1 (if z05 p x0<x0.length then(z05 p x0:Int)else -1):=z6q _ _ _ (by
 unfold z3a
 exact zil p (fun y=>((y,()):Int×Unit)=((if z05 p x0<x0.length then(z05 p x0:Int)else -1),())) (fun t A B=>∃ y,z6a t x1.1 y/\z00 y A B) (fun t ht A B h1 h2=>⟨_,hp t ht,z1k h1 h2⟩) rfl)
theorem z5l {x0:List z01} {x1:List z0m×Unit} (p:z01->Bool) (hp:∀ t∈x0,z6a t x1.1 (p t)):z1q x0 x1 (x0.any p):=z5k _ _ _ (by
 unfold z2t
 refine⟨_,z6o p hp,?_⟩
 rw[zio])
theorem zk9 {x0:List Int} {x1:Int}:z8u x0 x1 (if z05 (fun t=>x1 == t) x0<x0.length then(z05 (fun t=>x1 == t) x0:Int)else -1):=zl7 _ _ _ (by
 unfold zck
 exact zil (fun t=>x1 == t) (fun y=>((y,()):Int×Unit)=((if z05 (fun t=>x1 == t) x0<x0.length then(z05 (fun t=>x1 == t) x0:Int)else -1),())) (fun t A B=>z00 (x1 == t) A B) (fun t ht A B h1 h2=>z1k h1 h2) rfl)
theorem z5r {x0:List Int} {x1:Int}:z33 x0 x1 (decide (x1∈x0)):=zg7 _ _ _ (by
 unfold z9v
 refine⟨_,zk9,?_⟩
 rw[zio,zty])
theorem z49 {x0:List z01} {x1:List z0m×Unit} (p:z01->Bool) (hp:∀ t∈x0,z24 t x1.1 (p t)):z18 x0 x1 (if z05 p x0<x0.length then(z05 p x0:Int)else -1):=z4b _ _ _ (by
 unfold z2a
 exact zil p (fun y=>((y,()):Int×Unit)=((if z05 p x0<x0.length then(z05 p x0:Int)else -1),())) (fun t A B=>∃ y,z24 t x1.1 y/\z00 y A B) (fun t ht A B h1 h2=>⟨_,hp t ht,z1k h1 h2⟩) rfl)
theorem z3s {x0:List z01} {x1:List z0m×Unit} (p:z01->Bool) (hp:∀ t∈x0,z24 t x1.1 (p t)):z15 x0 x1 (x0.any p):=z3n _ _ _ (by
 unfold z1y
 refine⟨_,z49 p hp,?_⟩
 rw[zio])
theorem z36 {x0:List z0b} {x1:List z0m×Unit} (p:z0b->Bool) (hp:∀ t∈x0,z1j t x1.1 (p t)):z0v x0 x1 (if z05 p x0<x0.length then(z05 p x0:Int)else -1):=z37 _ _ _ (by
 unfold z1i
 exact zil p (fun y=>((y,()):Int×Unit)=((if z05 p x0<x0.length then(z05 p x0:Int)else -1),())) (fun t A B=>∃ y,z1j t x1.1 y/\z00 y A B) (fun t ht A B h1 h2=>⟨_,hp t ht,z1k h1 h2⟩) rfl)
theorem z2w {x0:List z0b} {x1:List z0m×Unit} (p:z0b->Bool) (hp:∀ t∈x0,z1j t x1.1 (p t)):z0s x0 x1 (x0.any p):=z2x _ _ _ (by
 unfold z1a
 refine⟨_,z36 p hp,?_⟩
 rw[zio])
theorem z5y {x0:List Int} {x1:Unit} (p:Int->Bool) (hp:∀ t∈x0,z3u t (p t)):z1v x0 x1 (if z05 p x0<x0.length then(z05 p x0:Int)else -1):=z60 _ _ _ (by
 unfold z2y
 exact zil p (fun y=>((y,()):Int×Unit)=((if z05 p x0<x0.length then(z05 p x0:Int)else -1),())) (fun t A B=>∃ y,z3u t y/\z00 y A B) (fun t ht A B h1 h2=>⟨_,hp t ht,z1k h1 h2⟩) rfl)
theorem z50 {x0:List Int} {x1:Unit} (p:Int->Bool) (hp:∀ t∈x0,z3u t (p t)):z1h x0 x1 (x0.any p):=z4z _ _ _ (by
 unfold z2o
 refine⟨_,z5y p hp,?_⟩
 rw[zio])
theorem z79 {x0:List Int} {x1:Int×Unit} (p:Int->Bool) (hp:∀ t∈x0,z6c t x1.1 (p t)):z29 x0 x1 (if z05 p x0<x0.length then(z05 p x0:Int)else -1):=z7b _ _ _ (by
 unfold z3g
 exact zil p (fun y=>((y,()):Int×Unit)=((if z05 p x0<x0.length then(z05 p x0:Int)else -1),())) (fun t A B=>∃ y,z6c t x1.1 y/\z00 y A B) (fun t ht A B h1 h2=>⟨_,hp t ht,z1k h1 h2⟩) rfl)
theorem z5x {x0:List Int} {x1:Int×Unit} (p:Int->Bool) (hp:∀ t∈x0,z6c t x1.1 (p t)):z1w x0 x1 (x0.any p):=z63 _ _ _ (by
 unfold z30
 refine⟨_,z79 p hp,?_⟩
 rw[zio])
theorem zkl {x0:List Int} {x1:List Int}:z87 x0 x1 (decide (x0=x1)):=zkf _ _ _ (by
 unfold zcm
 refine z0h fun hl=>z0h fun _=>?_
 have h:=z0f3 (fun a b=>decide (a=b)) (fun y=>((y,()):Bool×Unit)=(decide (x0=x1),())) (fun t u A B=>z00 (t != u) A B) (d:=(0:Int)) (e:=(0:Int)) (fun t ht u hu A B h1 h2=>zcx (fun h=>h1 (by simpa using h)) (fun h=>h2 (by simpa using h))) (by rw[ztl _ (fun _ _=>rfl)]) hl
 refine zcx (fun hne=>?_) (fun he=>?_)
 . rwa [show(((x0.length:Int) != (x1.length:Int))=true)from by simpa using hne]at h
 . rw[show(((x0.length:Int) != (x1.length:Int))=false)from by simp[he]]at h
   exact z0h fun _=>h)
theorem z5d {x0:List z0c} {x1:z0c×Unit} (p:z0c->Bool) (hp:∀ t∈x0,zbu t x1.1 (p t)):z1n x0 x1 (if z05 p x0<x0.length then(z05 p x0:Int)else -1):=z5h _ _ _ (by
 unfold z2r
 exact zil p (fun y=>((y,()):Int×Unit)=((if z05 p x0<x0.length then(z05 p x0:Int)else -1),())) (fun t A B=>∃ y,zbu t x1.1 y/\z00 y A B) (fun t ht A B h1 h2=>⟨_,hp t ht,z1k h1 h2⟩) rfl)
theorem z76 {x0:List Int} {x1:Unit} (p:Int->Bool) (hp:∀ t∈x0,z67 t (p t)):z27 x0 x1 (if z05 p x0<x0.length then(z05 p x0:Int)else -1):=z6w _ _ _ (by
 unfold z3i
 exact zil p (fun y=>((y,()):Int×Unit)=((if z05 p x0<x0.length then(z05 p x0:Int)else -1),())) (fun t A B=>∃ y,z67 t y/\z00 y A B) (fun t ht A B h1 h2=>⟨_,hp t ht,z1k h1 h2⟩) rfl)
theorem z5o {x0:List Int} {x1:Unit} (p:Int->Bool) (hp:∀ t∈x0,z67 t (p t)):z1t x0 x1 (x0.any p):=z5m _ _ _ (by
 unfold z32
 refine⟨_,z76 p hp,?_⟩
 rw[zio])
end Go.V

