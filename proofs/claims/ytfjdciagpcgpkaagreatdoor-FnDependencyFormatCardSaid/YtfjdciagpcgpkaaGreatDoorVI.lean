/-
  The tape's place never goes back: no step of the machine draws less.
-/
import Derived.Test.YtfjdciagpcgpkaaGreatDoorVA
import Derived.Calls
import Derived.RunT
set_option linter.unusedVariables false
set_option linter.unusedSimpArgs false
namespace Go.V
open Go
theorem run_hdrawn {α:Type} {P:Program}:∀ {m:Sem α} {w w':World} {x:Halt},m.run P w = .halt x w'→w.drawn≤w'.drawn:=by
 intro m
 induction m with
 |pure a=>intro w w' v h;simp[Sem.run]at h
 | load m a k ih=>
   intro w w' v h
   simp only[Sem.run]at h
   split at h
   · exact ih _ h
   · split at h
     · exact ih _ h
     · simp only[Result.halt.injEq]at h;rw[h.2];exact Nat.le_refl _
 | store m a x k ih=>
   intro w w' v h
   have key:(match w.cell? a with
    | some _ => if w.frozen? a then (.halt (.unsupported (.unsafePointer "a write to bytes that a string shares")) w : Result α) else k.run P (w.setCell a x)
    | none=>match w.farStore P a x (m == Mode.atomic)with
      |.ok (w,_)=>k.run P w
      |.error h=>.halt h w) = .halt v w'→w.drawn≤w'.drawn:=by
    intro h
    split at h
    · split at h
      · simp only[Result.halt.injEq]at h;rw[h.2];exact Nat.le_refl _
      · exact ih (w:=w.setCell a x) h
    · split at h
      · rename_i w2 _ e
        refine Nat.le_trans (Nat.le_of_eq ?_) (ih h)
        unfold World.farStore at e
        split at e
        · split at e
          · rename_i e2;cases e;exact(view_drawn e2).symm
          · cases e
        · cases e
      · simp only[Result.halt.injEq]at h;rw[h.2];exact Nat.le_refl _
   cases x<;>first|exact key h|(simp only[Sem.run,Result.halt.injEq]at h;rw[h.2];exact Nat.le_refl _)
 |new o k ih=>intro w w' v h;exact ih _ (w:={ w with heap:=w.heap.push o }) h
 |shape r k ih=>intro w w' v h;exact ih _ h
 | freeze a n k ih=>
   intro w w' v h
   have:=ih (w:=w.freeze a n) h
   have e:(w.freeze a n).drawn=w.drawn:=by unfold World.freeze;split<;>rfl
   rw[e]at this;exact this
 |frozen a k ih=>intro w w' v h;exact ih _ h
 | getObj r k ih=>
   intro w w' v h
   simp only[Sem.run]at h
   split at h
   · simp only[Result.halt.injEq]at h;rw[h.2];exact Nat.le_refl _
   · exact ih _ h
   · simp only[Result.halt.injEq]at h;rw[h.2];exact Nat.le_refl _
 | setObj r o k ih=>
   intro w w' v h
   simp only[Sem.run]at h
   split at h
   · simp only[Result.halt.injEq]at h;rw[h.2];exact Nat.le_refl _
   · exact ih (w:={ w with heap:=w.heap.setIfInBounds r o }) h
   · simp only[Result.halt.injEq]at h;rw[h.2];exact Nat.le_refl _
 | choose q k ih=>
   intro w w' v h
   simp only[Sem.run]at h
   split at h
   · exact ih _ h
   · exact Nat.le_trans (Nat.le_succ _) (ih _ h)
 |sys c k ih=>intro w w' v h;exact Nat.le_trans (sys_drawn w c) (ih _ h)
 |program k ih=>intro w w' v h;exact ih _ h
 |mark m k ih=>intro w w' v h;exact ih h
 |halt h=>intro w w' v h;simp only[Sem.run,Result.halt.injEq]at h;rw[h.2];exact Nat.le_refl _
section
variable {α:Type} {P:Program} {m:Sem α} {w w':World} {es es':Array Event} {v:α} {x:Halt}
theorem rt_ok (h:m.runT P w es=(.ok v w',es')):w.drawn≤w'.drawn:=run_drawn (m:=m) (P:=P) (v:=v) (by rw[←Sem.runT_fst P m w es,h])
theorem rt_halt (h:m.runT P w es=(.halt x w',es')):w.drawn≤w'.drawn:=run_hdrawn (m:=m) (P:=P) (x:=x) (by rw[←Sem.runT_fst P m w es,h])
theorem rf_ok (h:(m.runT P w es).1 = .ok v w'):w.drawn≤w'.drawn:=run_drawn (m:=m) (P:=P) (v:=v) (by rw[←Sem.runT_fst P m w es,h])
theorem rf_halt (h:(m.runT P w es).1 = .halt x w'):w.drawn≤w'.drawn:=run_hdrawn (m:=m) (P:=P) (x:=x) (by rw[←Sem.runT_fst P m w es,h])
end
def GD (d:Nat):GStep→Prop
 |.go _ w _ | .comm _ _ _ _ w _ | .spawn _ _ w _ | .count _ w _ | .timer _ _ w _ | .alone _ _ w _ | .newcoro _ _ _ w _ | .coroswitch _ _ _ w _ | .collect _ w _ | .watch _ w _=>d≤w.drawn
 |.ended ..=>True
theorem gd_after {d:Nat} {es:Array Event} {s:GStep} (h:GD d s):GD d (GStep.after es s):=by cases s<;>exact h
theorem gd_dieOf {d:Nat} {fr:Frame} {l:List ByteArray} {m:String} {b:Bool} {w:World} (h:d≤w.drawn):GD d (dieOf fr l m b w):=h
theorem gd_throw {d:Nat} {fr:Frame} {m:String} {w:World} (h:d≤w.drawn):GD d (endThrow fr m w):=h
theorem gd_printing {d:Nat} {p:Program} {fr:Frame} {v:Value} {w:World} (h:d≤w.drawn):GD d (endPrinting p fr v w):=by
 unfold endPrinting;simp only[];split<;>first|exact h|trivial
theorem gd_with {d:Nat} {w:World} {fd:Nat} {t:ByteArray} {o:Outcome}:GD d (endWith w fd t o):=by
 unfold endWith;simp only[];repeat' split
 all_goals trivial
theorem gd_return {d:Nat} {p:Program} {main:Bool} {fr:Frame} {cs:List Frame} {dy:Option Dying} {v:Value} {w:World} (h:d≤w.drawn):GD d (doReturn p main fr cs dy v w):=by
 unfold doReturn;repeat' split
 all_goals first|exact h|trivial
theorem gd_fatal {d:Nat} {p:Program} {fr:Frame} {cs:List Frame} {dy:Option Dying} {m:String} {w:World} (h:d≤w.drawn):GD d (endFatal p fr cs dy m w):=by
 unfold endFatal
 simp only[]
 split
 · next e=>exact gd_dieOf (Nat.le_trans h (run_drawn e))
 · trivial
 · trivial
theorem gd_early {d:Nat} {p:Program} {fr:Frame} {cs:List Frame} {dy:Option Dying} {g:Nat} {w:World} (h:d≤w.drawn):GD d (early p fr cs dy g w):=by
 unfold early
 simp only[]
 repeat' first
  |exact h
  |trivial
  |(simp only[GD];exact Nat.le_trans h (run_drawn (by assumption)))
  |split
theorem gd_writeOn {d:Nat} {p:Program} {fr:Frame} {dy:Dying} {f:Fatal} {w:World} (h:d≤w.drawn):GD d (writeOn p fr dy f w):=by
 unfold writeOn
 simp only[]
 repeat' first
  |exact h
  |trivial
  |exact Nat.le_trans h (rt_ok (by assumption))
  |exact Nat.le_trans h (rf_ok (by assumption))
  |exact Nat.le_trans h (rt_halt (by assumption))
  |exact Nat.le_trans h (rf_halt (by assumption))
  |split
theorem gd_die {d:Nat} {p:Program} {fr:Frame} {dy:Dying} {w:World} (h:d≤w.drawn):GD d (die p fr dy w):=by
 unfold die
 simp only[]
 repeat' first
  |exact gd_writeOn h
  |exact gd_with
  |exact h
  |trivial
  |exact Nat.le_trans h (rt_ok (by assumption))
  |exact Nat.le_trans h (rf_ok (by assumption))
  |exact gd_printing (Nat.le_trans h (rt_halt (by assumption)))
  |exact gd_printing (Nat.le_trans h (rf_halt (by assumption)))
  |exact Nat.le_trans h (run_drawn (by assumption))
  |refine gd_after ?_
  |split
theorem gd_ite {d:Nat} {c:Prop} [Decidable c] {a b:GStep} (h1:GD d a) (h2:GD d b):GD d (if c then a else b):=by split<;>assumption
theorem gd_deferred {d:Nat} {p:Program} {fr:Frame} {cs:List Frame} {dy:Option Dying} {df:Deferred} {w:World} (h:d≤w.drawn):GD d (callDeferred p fr cs dy df w):=by
 unfold callDeferred
 refine gd_ite trivial ?_
 generalize hr:(invoke df.target df.args).runT p w #[]=rr
 obtain⟨r,es⟩:=rr
 simp only[]
 refine gd_after ?_
 repeat' first
  |exact Nat.le_trans h (rt_ok (by assumption))
  |exact Nat.le_trans h (rt_halt (by assumption))
  |exact gd_fatal (Nat.le_trans h (rt_halt (by assumption)))
  |exact gd_throw (Nat.le_trans h (rt_halt (by assumption)))
  |trivial
  |split
theorem gd_unwind {d:Nat} {p:Program} {main:Bool} {fr:Frame} {cs:List Frame} {dy:Option Dying} {w:World} (h:d≤w.drawn):GD d (unwind p main fr cs dy w):=by
 unfold unwind
 simp only[]
 repeat' first
  |exact gd_deferred h
  |exact gd_return h
  |exact gd_printing h
  |exact h
  |trivial
  |exact Nat.le_trans h (rt_ok (by assumption))
  |exact Nat.le_trans h (rf_ok (by assumption))
  |exact gd_return (Nat.le_trans h (rt_ok (by assumption)))
  |exact gd_return (Nat.le_trans h (rf_ok (by assumption)))
  |exact Nat.le_trans h (run_drawn (by assumption))
  |refine gd_after ?_
  |split
theorem gd_apply {d:Nat} {p:Program} {fr:Frame} {cs:List Frame} {dy:Option Dying} {s:Sem Next} {w:World} {b:Bool} (h:d≤w.drawn):GD d (stepG.apply p b fr cs dy s w):=by
 have key:∃ es,(if b then s.runT p w #[] else(s.run p w,#[]))=(s.run p w,es):=by
  cases b
  · exact⟨_,rfl⟩
  · exact⟨(s.runT p w #[]).2,by rw[if_pos rfl];exact Prod.ext (Sem.runT_fst p s w #[]) rfl⟩
 unfold stepG.apply
 simp only[]
 obtain⟨es,he⟩:=key
 rw[he]
 simp only[]
 refine gd_after ?_
 generalize hr:s.run p w=r
 repeat' first
  |exact Nat.le_trans h (run_drawn (by assumption))
  |exact Nat.le_trans h (run_hdrawn (by assumption))
  |exact gd_fatal (Nat.le_trans h (run_hdrawn (by assumption)))
  |exact gd_throw (Nat.le_trans h (run_hdrawn (by assumption)))
  |exact gd_throw (Nat.le_trans h (run_drawn (by assumption)))
  |exact gd_early (Nat.le_trans h (run_hdrawn (by assumption)))
  |trivial
  |split
theorem gd_oper {d:Nat} {p:Program} {fr:Frame} {cs:List Frame} {dy:Option Dying} {w:World} {b:Bool} (h:d≤w.drawn):GD d (stepG.oper p b fr cs dy w):=by
 unfold stepG.oper
 repeat' first
  |exact gd_apply h
  |trivial
  |split
theorem gd_elim {α:Type} {d:Nat} {o:Option α} {a:GStep} {f:α→GStep} (h1:GD d a) (h2:∀ x,GD d (f x)):GD d (o.elim a f):=by
 cases o
 · exact h1
 · exact h2 _
theorem gd_exec {d:Nat} {p:Program} {main:Bool} {fr:Frame} {cs:List Frame} {dy:Option Dying} {w:World} {b:Bool} (h:d≤w.drawn):GD d (stepG.exec p main b fr cs dy w):=by
 unfold stepG.exec
 simp only[]
 repeat' first
  |exact gd_apply h
  |exact gd_oper h
  |exact h
  |trivial
  |exact Nat.le_trans h (rt_ok (by assumption))
  |exact Nat.le_trans h (rf_ok (by assumption))
  |exact Nat.le_trans h (rt_halt (by assumption))
  |exact Nat.le_trans h (rf_halt (by assumption))
  |exact Nat.le_trans h (run_drawn (by assumption))
  |exact gd_return (Nat.le_trans h (rt_ok (by assumption)))
  |exact gd_return (Nat.le_trans h (rf_ok (by assumption)))
  |exact gd_apply (Nat.le_trans h (rt_ok (by assumption)))
  |exact gd_apply (Nat.le_trans h (rf_ok (by assumption)))
  |refine gd_elim ?_ (fun _=>?_)
  |refine gd_after ?_
  |split
theorem gd_stepG {d:Nat} {p:Program} {main:Bool} {g:Goroutine} {w:World} {b:Bool} (h:d≤w.drawn):GD d (stepG p main g w b):=by
 unfold stepG
 simp only[]
 repeat' first
  |exact gd_die h
  |exact gd_exec h
  |exact gd_unwind h
  |split
theorem wait_drawn {rest:Rest} {cases:Array CommCase} {w w':World} (h:waitingAt rest cases w=some w'):w.drawn≤w'.drawn:=by
 unfold waitingAt at h
 repeat' first
  |(simp at h;done)
  |(simp only[Option.some.injEq]at h;subst h;exact Nat.le_refl _)
  |split at h
theorem comm_drawn (p:Program) (rest:Rest) (gs:Array Goroutine) (i:Nat) (g:Goroutine) (cases:Array CommCase) (blocking:Bool)
  (shape:CommShape) (w:World) (m':Machine) (h:(communicate p rest gs i g cases blocking shape w).1 = .next m'):w.drawn≤m'.world.drawn:=by
 unfold communicate at h
 simp only[]at h
 repeat' first
  |(simp at h;done)
  |(simp only[Stepped.next.injEq]at h;subst h;(try dsimp only);exact Nat.le_refl _)
  |(simp only[Stepped.next.injEq]at h;subst h;(try dsimp only);exact wait_drawn (by assumption))
  |(simp only[Stepped.next.injEq]at h;subst h;(try dsimp only);exact run_drawn (by assumption))
  |(simp only[Stepped.next.injEq]at h;subst h;(try dsimp only);exact Nat.le_trans (run_drawn (by assumption)) (run_drawn (by assumption)))
  |(simp only[Stepped.next.injEq]at h;subst h;(try dsimp only);exact Nat.le_trans (run_drawn (by assumption)) (run_hdrawn (by assumption)))
  |split at h
theorem look_drawn (p:Program) (gs:Array Goroutine) (rest:Rest) (w:World) (m':Machine) (h:Go.look p gs rest w = .next m'):w.drawn≤m'.world.drawn:=by
 unfold Go.look at h
 simp only[]at h
 repeat' first
  |(simp at h;done)
  |(simp only[Stepped.next.injEq]at h;subst h;(try dsimp only);exact run_drawn (by assumption))
  |split at h
theorem drain_drawn (w:World) (c:Nat):(Go.drain w c).2.drawn=w.drawn:=by unfold Go.drain;split<;>rfl
theorem retime_drawn (m:Machine) (k:Nat) (t:Timer) (n q:Nat):(retime m k t n q).2.world.drawn=m.world.drawn:=by
 unfold retime
 cases t.chan with
 |none=>rfl
 |some c=>exact drain_drawn m.world c
theorem named_drawn {m m':Machine} {a:Addr} {f:Nat→Timer→Value×Machine} {v:Value} (hf:∀ k t,(f k t).2.world.drawn=m.world.drawn) (h:timerOp.named m a f = .ok (v,m')):m.world.drawn≤m'.world.drawn:=by
 unfold timerOp.named at h
 split at h
 · next k _=>
   simp only[Except.ok.injEq]at h
   have:=hf k (m.rest.timers.getD k default)
   rw[h]at this
   exact Nat.le_of_eq this.symm
 · simp at h
theorem opened_drawn {m m':Machine} {a:Addr} (h:timerOp.opened m a=some m'):m'.world.drawn=m.world.drawn:=by
 unfold timerOp.opened at h
 repeat' first
  |(simp at h;done)
  |(simp only[Option.some.injEq]at h;subst h;rfl)
  |split at h
theorem timerOp_drawn {m m':Machine} {op:TimerOp} {v:Value} (h:timerOp m op = .ok (v,m')):m.world.drawn≤m'.world.drawn:=by
 unfold timerOp at h
 simp only[]at h
 repeat' first
  |(simp at h;done)
  |(simp only[Except.ok.injEq,Prod.mk.injEq]at h;obtain⟨_,rfl⟩:=h;exact Nat.le_refl _)
  |exact named_drawn (fun k t=>retime_drawn _ _ _ _ _) h
  |exact named_drawn (fun k t=>(retime_drawn _ _ _ _ _).trans (opened_drawn (by assumption))) h
  |split at h
theorem throw_drawn {fr:Frame} {m:String} {w w':World} {g:Goroutine} {es:Array Event} (h:endThrow fr m w = .go g w' es):w.drawn≤w'.drawn:=by
 unfold endThrow dieOf at h
 cases h;exact Nat.le_refl _
theorem runT_drawn (p:Program) (m m':Machine) (i:Nat) (b:Bool) (h:(runT p m i b).1 = .next m'):m.world.drawn≤m'.world.drawn:=by
 simp only[runT]at h
 revert h
 generalize m.gs.swapAt! _ _=gg
 have hs:=gd_stepG (p:=p) (main:=i == 0) (g:=gg.1) (w:=m.world) (b:=b) (Nat.le_refl _)
 revert hs
 generalize stepG p _ gg.1 m.world b=s
 intro hs h
 cases s<;>simp only[]at h<;>simp only[GD]at hs
 all_goals first
  |(simp at h;done)
  |exact Nat.le_trans hs (comm_drawn _ _ _ _ _ _ _ _ _ _ h)
  |exact Nat.le_trans hs (look_drawn _ _ _ _ _ h)
  |(simp only[Stepped.next.injEq]at h;subst h;exact hs)
  |(repeat' first
   |(simp at h;done)
   |(simp only[Stepped.next.injEq]at h;subst h;exact hs)
   |(simp only[Stepped.next.injEq]at h;subst h;(try dsimp only);exact Nat.le_trans hs (timerOp_drawn (by assumption)))
   |(simp only[Stepped.next.injEq]at h;subst h;(try dsimp only);exact Nat.le_trans hs (throw_drawn (by assumption)))
   |split at h)
theorem serve_drawn (p:Program) (m m':Machine) (k:Nat) (h:serve p m k = .next m'):m.world.drawn≤m'.world.drawn:=by
 unfold serve at h
 simp only[]at h
 repeat' first
  |(simp at h;done)
  |(simp only[Stepped.next.injEq]at h;subst h;(try dsimp only);exact Nat.le_refl _)
  |split at h
def MD (d:Nat):Move→Prop
 |.goroutine m _=>d≤m.world.drawn
 |.machine (.next m) _=>d≤m.world.drawn
 |.machine (.ended ..) _=>True
theorem md_serve {p:Program} {m:Machine} {k d:Nat} {ops:Array MemOp} (h:d≤m.world.drawn):MD d (.machine (serve p m k) ops):=by
 cases hs:serve p m k with
 |next m'=>exact Nat.le_trans h (serve_drawn p m m' k hs)
 |ended o w=>trivial
theorem adv_drawn {α:Type} {P:Program} {mm:Machine} {t:Nat} {e:Sem α} {v:α} {w':World} (h:e.run P (mm.advanceTo t).world = .ok v w'):mm.world.drawn≤w'.drawn:=by
 have:=run_drawn h
 exact this
set_option maxHeartbeats 4000000 in
theorem askOn_drawn (p:Program) (m:Machine) {d:Nat} (h:d≤m.world.drawn):MD d (askOn p m):=by
 unfold askOn
 simp only[]
 repeat' first
  |trivial
  |exact h
  |exact md_serve (Nat.le_trans h (run_drawn (by assumption)))
  |((try simp only[MD,Machine.advanceTo]at *);exact Nat.le_trans h (run_drawn (by assumption)))
  |((try simp only[MD,Machine.advanceTo]at *);exact Nat.le_trans h (Nat.le_trans (run_drawn (by assumption)) (run_drawn (by assumption))))
  |((try simp only[MD,Machine.advanceTo]at *);refine Nat.le_trans ?_ (run_drawn (by assumption));refine Nat.le_trans ?_ (run_drawn (by assumption));(try dsimp only);refine Nat.le_trans ?_ (run_drawn (by assumption));(try dsimp only);first|exact h|exact Nat.le_trans h (run_drawn (by assumption)))
  |(refine Nat.le_trans ?_ (adv_drawn (by assumption));(try dsimp only);refine Nat.le_trans ?_ (run_drawn (by assumption));refine Nat.le_trans ?_ (run_drawn (by assumption));exact h)
  |(refine Nat.le_trans ?_ (run_drawn (by assumption));refine Nat.le_trans ?_ (adv_drawn (by assumption));(try dsimp only);refine Nat.le_trans ?_ (run_drawn (by assumption));refine Nat.le_trans ?_ (run_drawn (by assumption));exact h)
  |split
theorem ask_drawnM (p:Program) (m:Machine) {d:Nat} (h:d≤m.world.drawn):MD d (ask p m):=by
 unfold ask
 split
 · split
   · trivial
   · next world e=>
     have he:=run_drawn e
     cases hl:Go.look p m.gs m.rest world with
     |next m2=>exact askOn_drawn p m2 (Nat.le_trans h (Nat.le_trans he (look_drawn _ _ _ _ _ hl)))
     |ended o w=>trivial
   · exact askOn_drawn p _ (Nat.le_trans h (run_drawn (by assumption)))
 · exact askOn_drawn p _ h
theorem move_drawn (p:Program) (m:Machine):MD m.world.drawn (move p m):=by
 unfold move
 repeat' first
  |exact ask_drawnM p _ (Nat.le_refl _)
  |exact Nat.le_refl _
  |trivial
  |split
theorem step_drawn (p:Program) (m m':Machine) (h:step p m = .next m'):m.world.drawn≤m'.world.drawn:=by
 have hm:=move_drawn p m
 unfold step stepT at h
 split at h
 · next m₁ i e=>
   rw[e]at hm
   exact Nat.le_trans hm (runT_drawn p m₁ m' i _ h)
 · next s ops e=>
   rw[e]at hm
   simp only[]at h
   subst h
   exact hm
theorem runN_drawn (p:Program):∀(n:Nat) (m m':Machine),runN p n m = .next m'→m.world.drawn≤m'.world.drawn
 |0,m,m',h=>by simp only[runN,Stepped.next.injEq]at h;rw[h];exact Nat.le_refl _
 | n+1,m,m',h=>by
   simp only[runN]at h
   cases hs:step p m with
   |next m1=>rw[hs]at h;exact Nat.le_trans (step_drawn p m m1 hs) (runN_drawn p n m1 m' h)
   |ended o w=>rw[hs]at h;cases h
theorem calls_drawn {P:Program} {f:FuncId} {args:Array Value} {w:World} {R:Ending→World→Prop} (h:Calls P f args w R) (hr:∀ e w',R e w'→∃ v,e = .returned v):Calls P f args w fun e w'=>R e w'∧w.drawn≤w'.drawn:=by
 intro cs
 obtain⟨e,w',fr,h1,h2,h3,h4⟩:=h cs
 obtain⟨v,rfl⟩:=hr e w' h1
 have h2':Steps P (lone (Frame.enter P f args .normal) cs w) (lone fr cs w'):=h2
 obtain⟨n,hn⟩:=h2'
 exact⟨_,w',fr,⟨h1,runN_drawn P n _ _ hn⟩,h2,h3,h4⟩
end Go.V

