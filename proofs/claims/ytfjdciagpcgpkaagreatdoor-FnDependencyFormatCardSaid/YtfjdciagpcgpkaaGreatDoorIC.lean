/-
  The law FnDependencyFormat, its listed package variables tied to the program text, returns true for every input, and leaves its arguments as they were: no condition.
-/
import Derived.Test.YtfjdciagpcgpkaaGreatDoorIB
import Derived.Test.YtfjdciagpcgpkaaGreatDoorID
import Derived.Test.YtfjdciagpcgpkaaGreatDoorVE
import Derived.Test.YtfjdciagpcgpkaaGreatDoorRows
import Derived.Test.YtfjdciagpcgpkaaGreatDoorTie
import Derived.Test.YtfjdciagpcgpkaaGreatDoorCards
import Derived.LaidMore
import Derived.SevenTiedAt
import Derived.Lay
import Derived.WalkKit
import Derived.ProofKit
set_option linter.unusedVariables false
set_option linter.unusedSimpArgs false
namespace Go.Proofs.YtfjdciagpcgpkaaGreatDoor.row3
open Go Go.V Go.ChangeShapes Go.WideShapes Go.ChangeAt Go.RowKit
set_option linter.unusedVariables false
set_option maxRecDepth 1000000
theorem own:ownKnob Tryz.prog.godebug=none:=by kernel_rfl
theorem contract (H:Type) (enc:TypeId×Value→H) (W:World) (base:Nat) (args:Array Value) (ds gs:List (DataW H)) (before:List MemPlace)
  (hval:∀(j:Nat) t v,Tryz.f3.params[j]? = some t→args[j]? = some v→Value.okWide Tryz.prog W .any base t v)
  (hW:DataW.Whole enc Tryz.prog Tryz.f3.params.toList Rows.fnDependencyFormatSpec.vars false W args.toList ds gs before) :
  Calls Tryz.prog 3 args W fun e W'=>∃ v,e = .returned v∧Rows.fnDependencyFormatSpec.post enc Tryz.prog Tryz.f3 false true false false W args v W':=by
 refine law_contract (shs:=[.sl 5 (.int .u8)]) (tb:=4) (by kernel_rfl) rfl (by kernel_rfl) (by kernel_rfl) (by kernel_rfl) ?_ ?_ ?_ ?_ hval hW
 · intro i sh t h1 h2
   have hp:Tryz.f3.params.toList=[22]:=by kernel_rfl
   rw[hp]at h2
   have ht22:ShOk Tryz.prog (.sl 5 (.int .u8)) none 22:=types_ok 22 (.sl 5 (.int .u8)) (by rfl)
   match i,h1,h2 with
   |0,h1,h2=>cases h1;cases h2;exact⟨ht22,rfl⟩
 · intro t ht
   have hp:Tryz.f3.params.toList=[22]:=by kernel_rfl
   rw[hp]at ht
   rcases List.mem_cons.mp ht with rfl|ht
   · exact⟨by kernel_rfl,of_decide_eq_true (by kernel_rfl)⟩
   · cases ht
 · intro H ds hl
   have hp:Tryz.f3.params.toList=[22]:=by kernel_rfl
   rw[hp]at hl
   match ds,hl with
   |[d0],_=>rfl
 · intro us h1 h2 h3
   match us,h1,h2,h3 with
   | [⟨_,_,x0⟩],h1,h2,h3=>
     simp only[List.map_cons,List.map_nil,List.cons.injEq,and_true]at h1
     subst h1
     have e0:=h2 _ (List.mem_cons_self ..)
     have b0:=h3 _ (List.mem_cons_self ..)
     simp only at e0
     subst e0
     exact⟨_,law b0⟩
theorem door_met (os:Os) (args:Array Value):laidMetH Tryz.prog Rows.fnDependencyFormatRow.laid ((World.laidAll Tryz.prog os Rows.fnDependencyFormatRow.laid).forCall (fun _ _=>0) ⟨#[],args,[]⟩).memory:=by
 rw[MakeChecks.laidMetH_plain _ _ _ (by kernel_rfl)];exact laidMet_laidAll _ (by kernel_rfl) (by kernel_rfl)
theorem lifted (os:Os) (started:os.Started) (H:Type) (enc:TypeId×Value→H) :
  ReturnsInHanded {} Tryz.checked os 3 .any (fun w args=>(Rows.fnDependencyFormatSpec.pre enc Tryz.prog Tryz.f3 [] false w args∧laidMetH Tryz.prog Rows.fnDependencyFormatRow.laid w)∧sizedMet enc Tryz.prog Tryz.f3 (OpenSpec.ofChange Rows.fnDependencyFormatSpec) false w args)
   (Rows.fnDependencyFormatSpec.post enc Tryz.prog Tryz.f3 false true false false):=by
 refine returnsInHanded_of_change_and (C:=Tryz.checked) (X:=fun w _=>laidMetH Tryz.prog Rows.fnDependencyFormatRow.laid w) (fun _ _ _ hh h=>h.of_heap hh) own started (by kernel_rfl) Tryz.func3
  (ChangeSpec.witness_shaped (enc:=enc) (C:=Tryz.checked) (os:=os) (X:=fun w _=>laidMetH Tryz.prog Rows.fnDependencyFormatRow.laid w) false (World.laidAll Tryz.prog os Rows.fnDependencyFormatRow.laid) #[.slice none 0 0] 8 (World.laidAll_os _ _ _) (World.shaped_of_ZipB (by kernel_rfl) (by kernel_rfl)) (by kernel_rfl) (by kernel_rfl) (by kernel_rfl) (door_met os _)) ?_
 intro W base args ds gs before hval hW _ _ _ _
 exact contract H enc W base args ds gs before hval hW
theorem said:Rows.FnDependencyFormatSaid:=
 OpenClaim.holds_of_wide (p:=Tryz.pinned) (s:=Rows.fnDependencyFormatSpec) (c:=Rows.fnDependencyFormatRow) 3 Tryz.f3 rfl rfl rfl rfl rfl rfl rfl ⟨rfl,rfl,rfl,rfl,rfl⟩ rfl rfl rfl rfl rfl (by kernel_rfl) Tryz.func3
  joined (of_decide_eq_true (by kernel_rfl)) (by unfold Func.isWrapper;first|(rw[if_pos (by decide +kernel)];kernel_rfl)|(rw[if_neg (by decide +kernel)];exact⟨rfl,rfl⟩))
  (fun os started H enc _=>lifted os started H enc)
theorem proved:Rows.FnDependencyFormatCardSaid:=
 Claim7.holds_tied_plain_at .later [] [.data, .data, .data, .data, .pinned] true (true, "576a3a294b54cf20bc2351b76e1a524f681940d1334e730d867f9e3b499f6903") false
  said (fun _ h=>by cases h) (by kernel_rfl) (fun _ h=>by cases h) fnDependencyFormat_row_tie rfl ⟨rfl,rfl⟩ (by kernel_rfl) rfl
  (fun f fn hf hfn=>by
   obtain rfl:f=3:=Option.some.inj ((show Tryz.prog.funcNamed Rows.fnDependencyFormatRow.func=some 3 by kernel_rfl).symm.trans hf) |>.symm
   obtain rfl:fn=Tryz.f3:=(Option.some.inj (Tryz.func3.symm.trans hfn)).symm
   exact⟨by kernel_rfl,fun j t ht=>by
    have hp:Tryz.f3.params.toList=[22]:=by kernel_rfl
    have hm:t∈[22]:=by rw[←hp];exact Array.mem_toList_iff.2 (Array.mem_of_getElem? ht)
    have hall:([22].all fun u=>!Tryz.prog.wantsStandIn u)=true:=by kernel_rfl
    exact(show Tryz.prog.wantsStandIn t=false by simpa using List.all_eq_true.1 hall t hm)⟩)
  (by kernel_rfl)
end Go.Proofs.YtfjdciagpcgpkaaGreatDoor.row3
#print axioms Go.Proofs.YtfjdciagpcgpkaaGreatDoor.row3.proved

