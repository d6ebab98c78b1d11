/-
  The law FnFailureImpliesNoSolution returns true for every input, and leaves its arguments as they were: no condition.
-/
import Derived.Test.YtjafmgnamibefaaGreatYB
import Derived.Test.YtjafmgnamibefaaGreatYD
import Derived.Test.YtjafmgnamibefaaGreatVE
import Derived.Test.YtjafmgnamibefaaGreatRows
import Derived.WalkKit
import Derived.ProofKit
set_option linter.unusedVariables false
set_option linter.unusedSimpArgs false
namespace Go.Proofs.YtjafmgnamibefaaGreat.row4
open Go Go.V Go.ChangeShapes Go.WideShapes Go.ChangeAt Go.RowKit
set_option linter.unusedVariables false
set_option maxRecDepth 1000000
theorem own:ownKnob Tryz.prog.godebug=none:=by kernel_rfl
theorem z088 (H:Type) (enc:TypeId×Value->H) (W:World) (base:Nat) (args:Array Value) (ds gs:List (DataW H)) (before:List MemPlace)
  (hval:∀(j:Nat) t v,Tryz.f3.params[j]? = some t->args[j]? = some v->Value.okWide Tryz.prog W .any base t v)
  (hW:DataW.Whole enc Tryz.prog Tryz.f3.params.toList Rows.fnFailureImpliesNoSolutionSpec.vars false W args.toList ds gs before) :
  Calls Tryz.prog 3 args W fun e W'=>∃ v,e = .returned v/\Rows.fnFailureImpliesNoSolutionSpec.post enc Tryz.prog Tryz.f3 false true false false W args v W':=by
 refine zwt (shs:=[.sl 5 (.int .u8)]) (tb:=4) (by kernel_rfl) rfl (by kernel_rfl) (by kernel_rfl) (by kernel_rfl) ?_ ?_ ?_ ?_ hval hW
 . intro i sh t h1 h2
   have hp:Tryz.f3.params.toList=[22]:=by kernel_rfl
   rw[hp]at h2
   have ht22:ShOk Tryz.prog (.sl 5 (.int .u8)) none 22:=zi7 22 (.sl 5 (.int .u8)) (by rfl)
   match i,h1,h2 with
   |0,h1,h2=>cases h1;cases h2;exact⟨ht22,rfl⟩
 . intro t ht
   have hp:Tryz.f3.params.toList=[22]:=by kernel_rfl
   rw[hp]at ht
   rcases List.mem_cons.mp ht with rfl|ht
   . exact⟨by kernel_rfl,of_decide_eq_true (by kernel_rfl)⟩
   . cases ht
 . intro H ds hl
   have hp:Tryz.f3.params.toList=[22]:=by kernel_rfl
   rw[hp]at hl
   match ds,hl with
   |[d0],_=>rfl
 . intro us h1 h2 h3
   match us,h1,h2,h3 with
   | [⟨_,_,x0⟩],h1,h2,h3=>
     simp only[List.map_cons,List.map_nil,List.cons.injEq,and_true]at h1
     subst h1
     have e0:=h2 _ (List.mem_cons_self ..)
     have b0:=h3 _ (List.mem_cons_self ..)
     simp only at e0
     subst e0
     exact⟨_,law b0⟩
theorem z0cj (os:Os) (started:os.Started) (H:Type) (enc:TypeId×Value->H) :
  ReturnsInHanded Rows.fnFailureImpliesNoSolutionRow.assume Tryz.checked os 3 .any (Rows.fnFailureImpliesNoSolutionSpec.pre6 enc Tryz.prog Tryz.f3 Rows.fnFailureImpliesNoSolutionRow.domain false) (Rows.fnFailureImpliesNoSolutionSpec.post enc Tryz.prog Tryz.f3 false true false false):=by
 refine returnsInHanded_of_change (C:=Tryz.checked) own started (by kernel_rfl) Tryz.func3
  (ChangeSpec.witness6 (enc:=enc) (C:=Tryz.checked) false ⟨#[],#[.slice none 0 0],[]⟩ 8 (by kernel_rfl) (by kernel_rfl) (by kernel_rfl) (by kernel_rfl)) ?_
 intro W base args ds gs before hval hW _ _
 exact z088 H enc W base args ds gs before hval hW
theorem proved:Rows.FnFailureImpliesNoSolutionSaid:=
 OpenClaim.holds_of_wide (p:=Tryz.pinned) (s:=Rows.fnFailureImpliesNoSolutionSpec) (c:=Rows.fnFailureImpliesNoSolutionRow) 3 Tryz.f3 rfl rfl rfl rfl rfl rfl rfl ⟨rfl,rfl,rfl,rfl,rfl⟩ rfl rfl rfl rfl rfl (by kernel_rfl) Tryz.func3
  z0de (of_decide_eq_true (by kernel_rfl)) (by unfold Func.isWrapper;first|(rw[if_pos (by decide +kernel)];kernel_rfl)|(rw[if_neg (by decide +kernel)];exact⟨rfl,rfl⟩))
  (fun os started H enc _=>z0cj os started H enc)
end Go.Proofs.YtjafmgnamibefaaGreat.row4
#print axioms Go.Proofs.YtjafmgnamibefaaGreat.row4.proved

