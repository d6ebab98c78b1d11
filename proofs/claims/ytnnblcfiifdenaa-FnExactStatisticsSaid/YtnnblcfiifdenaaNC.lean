/-
  The law FnExactStatistics returns true for every input, and leaves its arguments as they were: no condition.
-/
import Derived.Test.YtnnblcfiifdenaaNB
import Derived.Test.YtnnblcfiifdenaaND
import Derived.Test.YtnnblcfiifdenaaVE
import Derived.Test.YtnnblcfiifdenaaRows
import Derived.WalkKit
import Derived.ProofKit
set_option linter.unusedVariables false
set_option linter.unusedSimpArgs false
namespace Go.Proofs.Ytnnblcfiifdenaa.row3
open Go Go.V Go.ChangeShapes Go.WideShapes Go.ChangeAt Go.RowKit
set_option linter.unusedVariables false
set_option maxRecDepth 1000000
theorem own:ownKnob Try.prog.godebug=none:=by kernel_rfl
theorem contract (H:Type) (enc:TypeId×Value→H) (W:World) (base:Nat) (args:Array Value) (ds gs:List (DataW H)) (before:List MemPlace)
  (hval:∀(j:Nat) t v,Try.f3.params[j]? = some t→args[j]? = some v→Value.okWide Try.prog W .any base t v)
  (hW:DataW.Whole enc Try.prog Try.f3.params.toList Rows.fnExactStatisticsSpec.vars false W args.toList ds gs before) :
  Calls Try.prog 3 args W fun e W'=>∃ v,e = .returned v∧Rows.fnExactStatisticsSpec.post enc Try.prog Try.f3 false true false false W args v W':=by
 refine law_contract (shs:=[h14]) (tb:=4) (by kernel_rfl) rfl (by kernel_rfl) (by kernel_rfl) (by kernel_rfl) ?_ ?_ ?_ ?_ hval hW
 · intro i sh t h1 h2
   have hp:Try.f3.params.toList=[25]:=by kernel_rfl
   rw[hp]at h2
   have ht25:ShOk Try.prog (h14) none 25:=types_ok 25 (h14) (by rfl)
   match i,h1,h2 with
   |0,h1,h2=>cases h1;cases h2;exact⟨ht25,rfl⟩
 · intro t ht
   have hp:Try.f3.params.toList=[25]:=by kernel_rfl
   rw[hp]at ht
   rcases List.mem_cons.mp ht with rfl|ht
   · exact⟨by kernel_rfl,of_decide_eq_true (by kernel_rfl)⟩
   · cases ht
 · intro H ds hl
   have hp:Try.f3.params.toList=[25]:=by kernel_rfl
   rw[hp]at hl
   match ds,hl with
   |[d0],_=>rfl
 · intro us h1 h2 h3
   match us,h1,h2,h3 with
   | [⟨_,_,x0⟩],h1,h2,h3=>
     simp only[List.map_cons,List.map_nil,List.cons.injEq,and_true]at h1
     subst h1
     have e0:=h2 _ (List.mem_cons_self ..)
     have b0:=h3 _ (List.mem_cons_self ..)
     simp only at e0
     subst e0
     exact⟨_,law b0⟩
theorem lifted (os:Os) (started:os.Started) (H:Type) (enc:TypeId×Value→H) :
  ReturnsInHanded Rows.fnExactStatisticsRow.assume Try.checked os 3 .any (Rows.fnExactStatisticsSpec.pre6 enc Try.prog Try.f3 Rows.fnExactStatisticsRow.domain false) (Rows.fnExactStatisticsSpec.post enc Try.prog Try.f3 false true false false):=by
 refine returnsInHanded_of_change (C:=Try.checked) own started (by kernel_rfl) Try.func3
  (ChangeSpec.witness6 (enc:=enc) (C:=Try.checked) false ⟨#[],#[.agg #[.slice none 0 0,.slice none 0 0]],[]⟩ 8 (by kernel_rfl) (by kernel_rfl) (by kernel_rfl) (by kernel_rfl)) ?_
 intro W base args ds gs before hval hW _ _
 exact contract H enc W base args ds gs before hval hW
theorem proved:Rows.FnExactStatisticsSaid:=
 OpenClaim.holds_of_wide (p:=Try.pinned) (s:=Rows.fnExactStatisticsSpec) (c:=Rows.fnExactStatisticsRow) 3 Try.f3 rfl rfl rfl rfl rfl rfl rfl ⟨rfl,rfl,rfl,rfl,rfl⟩ rfl rfl rfl rfl rfl (by kernel_rfl) Try.func3
  joined (of_decide_eq_true (by kernel_rfl)) (by unfold Func.isWrapper;first|(rw[if_pos (by decide +kernel)];kernel_rfl)|(rw[if_neg (by decide +kernel)];exact⟨rfl,rfl⟩))
  (fun os started H enc _=>lifted os started H enc)
end Go.Proofs.Ytnnblcfiifdenaa.row3
#print axioms Go.Proofs.Ytnnblcfiifdenaa.row3.proved

