/-
  The law FnExactDeleteSourceFact returns true for every input, and leaves its arguments as they were: no condition.
-/
import Derived.Test.YtikcmlkjnlcboaaGreatFB
import Derived.Test.YtikcmlkjnlcboaaGreatFD
import Derived.Test.YtikcmlkjnlcboaaGreatVE
import Derived.Test.YtikcmlkjnlcboaaGreatRows
import Derived.WalkKit
import Derived.ProofKit
set_option linter.unusedVariables false
set_option linter.unusedSimpArgs false
namespace Go.Proofs.YtikcmlkjnlcboaaGreat.row4
open Go Go.V Go.ChangeShapes Go.WideShapes Go.ChangeAt Go.RowKit
set_option linter.unusedVariables false
set_option maxRecDepth 1000000
theorem own:ownKnob Tryz.prog.godebug=none:=by kernel_rfl
theorem z0i9 (H:Type) (enc:TypeId×Value->H) (W:World) (base:Nat) (args:Array Value) (ds gs:List (DataW H)) (before:List MemPlace)
  (hval:∀(j:Nat) t v,Tryz.f4.params[j]? = some t->args[j]? = some v->Value.okWide Tryz.prog W .any base t v)
  (hW:DataW.Whole enc Tryz.prog Tryz.f4.params.toList Rows.fnExactDeleteSourceFactSpec.vars false W args.toList ds gs before) :
  Calls Tryz.prog 4 args W fun e W'=>∃ v,e = .returned v/\Rows.fnExactDeleteSourceFactSpec.post enc Tryz.prog Tryz.f4 false true false false W args v W':=by
 refine z053 (shs:=[h18,h25,h11]) (tb:=4) (by kernel_rfl) rfl (by kernel_rfl) (by kernel_rfl) (by kernel_rfl) ?_ ?_ ?_ ?_ hval hW
 . intro i sh t h1 h2
   have hp:Tryz.f4.params.toList=[28,29,32]:=by kernel_rfl
   rw[hp]at h2
   have ht28:ShOk Tryz.prog (h18) none 28:=zgk 28 (h18) (by rfl)
   have ht29:ShOk Tryz.prog (h25) none 29:=zgk 29 (h25) (by rfl)
   have ht32:ShOk Tryz.prog (h11) none 32:=zgk 32 (h11) (by rfl)
   match i,h1,h2 with
   |0,h1,h2=>cases h1;cases h2;exact⟨ht28,rfl⟩
   |1,h1,h2=>cases h1;cases h2;exact⟨ht29,rfl⟩
   |2,h1,h2=>cases h1;cases h2;exact⟨ht32,rfl⟩
 . intro t ht
   have hp:Tryz.f4.params.toList=[28,29,32]:=by kernel_rfl
   rw[hp]at ht
   rcases List.mem_cons.mp ht with rfl|ht
   . exact⟨by kernel_rfl,of_decide_eq_true (by kernel_rfl)⟩
   . rcases List.mem_cons.mp ht with rfl|ht
     . exact⟨by kernel_rfl,of_decide_eq_true (by kernel_rfl)⟩
     . rcases List.mem_cons.mp ht with rfl|ht
       . exact⟨by kernel_rfl,of_decide_eq_true (by kernel_rfl)⟩
       . cases ht
 . intro H ds hl
   have hp:Tryz.f4.params.toList=[28,29,32]:=by kernel_rfl
   rw[hp]at hl
   match ds,hl with
   |[d0,d1,d2],_=>rfl
 . intro us h1 h2 h3
   match us,h1,h2,h3 with
   | [⟨_,_,x0⟩,⟨_,_,x1⟩,⟨_,_,x2⟩],h1,h2,h3=>
     simp only[List.map_cons,List.map_nil,List.cons.injEq,and_true]at h1
     obtain⟨rfl,rfl,rfl⟩:=h1
     have e0:=h2 _ (List.mem_cons_self ..)
     have b0:=h3 _ (List.mem_cons_self ..)
     have e1:=h2 _ (List.mem_cons_of_mem _ (List.mem_cons_self ..))
     have b1:=h3 _ (List.mem_cons_of_mem _ (List.mem_cons_self ..))
     have e2:=h2 _ (List.mem_cons_of_mem _ (List.mem_cons_of_mem _ (List.mem_cons_self ..)))
     have b2:=h3 _ (List.mem_cons_of_mem _ (List.mem_cons_of_mem _ (List.mem_cons_self ..)))
     simp only at e0 e1 e2
     subst e0
     subst e1
     subst e2
     exact⟨_,law b0 b1 b2⟩
theorem z0n5 (os:Os) (started:os.Started) (H:Type) (enc:TypeId×Value->H) :
  ReturnsInHanded Rows.fnExactDeleteSourceFactRow.assume Tryz.checked os 4 .any (Rows.fnExactDeleteSourceFactSpec.pre6 enc Tryz.prog Tryz.f4 Rows.fnExactDeleteSourceFactRow.domain false) (Rows.fnExactDeleteSourceFactSpec.post enc Tryz.prog Tryz.f4 false true false false):=by
 refine returnsInHanded_of_change (C:=Tryz.checked) own started (by kernel_rfl) Tryz.func4
  (ChangeSpec.witness6 (enc:=enc) (C:=Tryz.checked) false ⟨#[],#[.agg #[.slice none 0 0,.slice none 0 0,.slice none 0 0],.slice none 0 0,.agg #[.int .i64 0,.slice none 0 0]],[]⟩ 8 (by kernel_rfl) (by kernel_rfl) (by kernel_rfl) (by kernel_rfl)) ?_
 intro W base args ds gs before hval hW _ _
 exact z0i9 H enc W base args ds gs before hval hW
theorem proved:Rows.FnExactDeleteSourceFactSaid:=
 OpenClaim.holds_of_wide (p:=Tryz.pinned) (s:=Rows.fnExactDeleteSourceFactSpec) (c:=Rows.fnExactDeleteSourceFactRow) 4 Tryz.f4 rfl rfl rfl rfl rfl rfl rfl ⟨rfl,rfl,rfl,rfl,rfl⟩ rfl rfl rfl rfl rfl (by kernel_rfl) Tryz.func4
  z0mn (of_decide_eq_true (by kernel_rfl)) (by unfold Func.isWrapper;first|(rw[if_pos (by decide +kernel)];kernel_rfl)|(rw[if_neg (by decide +kernel)];exact⟨rfl,rfl⟩))
  (fun os started H enc _=>z0n5 os started H enc)
end Go.Proofs.YtikcmlkjnlcboaaGreat.row4
#print axioms Go.Proofs.YtikcmlkjnlcboaaGreat.row4.proved

