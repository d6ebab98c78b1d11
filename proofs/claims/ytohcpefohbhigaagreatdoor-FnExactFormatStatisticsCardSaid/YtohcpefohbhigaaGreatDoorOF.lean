/-
  The family of small functions: sizes, copies, equalities.
-/
import Derived.Test.YtohcpefohbhigaaGreatDoorOS0
import Derived.Test.YtohcpefohbhigaaGreatDoorVE
set_option linter.unusedVariables false
set_option linter.unusedSimpArgs false
set_option maxRecDepth 1000000
set_option maxHeartbeats 4000000
set_option linter.unusedVariables false
set_option linter.unusedSimpArgs false
namespace Go.V
open Go
theorem g_slices_IndexFunc_int_c_iIsValidFact_1 {x0:List Int} {x1:Unit} (p:Int→Bool) (hp:∀ t∈x0,G_iIsValidFact_1 t (p t)):G_slices_IndexFunc_int_c_iIsValidFact_1 x0 x1 (if firstAt p x0<x0.length then(firstAt p x0:Int)else -1):=M_slices_IndexFunc_int_c_iIsValidFact_1 _ _ _ (by
 unfold S_slices_IndexFunc_int_c_iIsValidFact_1
 exact idxRow p (fun y=>((y,()):Int×Unit)=((if firstAt p x0<x0.length then(firstAt p x0:Int)else -1),())) (fun t A B=>∃ y,G_iIsValidFact_1 t y∧bcase y A B) (fun t ht A B h1 h2=>⟨_,hp t ht,bc_if h1 h2⟩) rfl)
theorem g_slices_ContainsFunc_int_c_iIsValidFact_1 {x0:List Int} {x1:Unit} (p:Int→Bool) (hp:∀ t∈x0,G_iIsValidFact_1 t (p t)):G_slices_ContainsFunc_int_c_iIsValidFact_1 x0 x1 (x0.any p):=M_slices_ContainsFunc_int_c_iIsValidFact_1 _ _ _ (by
 unfold S_slices_ContainsFunc_int_c_iIsValidFact_1
 refine⟨_,g_slices_IndexFunc_int_c_iIsValidFact_1 p hp,?_⟩
 rw[idx_ge])
theorem g_slices_Index_int {x0:List Int} {x1:Int}:G_slices_Index_int x0 x1 (if firstAt (fun t=>x1 == t) x0<x0.length then(firstAt (fun t=>x1 == t) x0:Int)else -1):=M_slices_Index_int _ _ _ (by
 unfold S_slices_Index_int
 exact idxRow (fun t=>x1 == t) (fun y=>((y,()):Int×Unit)=((if firstAt (fun t=>x1 == t) x0<x0.length then(firstAt (fun t=>x1 == t) x0:Int)else -1),())) (fun t A B=>bcase (x1 == t) A B) (fun t ht A B h1 h2=>bc_if h1 h2) rfl)
theorem g_slices_Contains_int {x0:List Int} {x1:Int}:G_slices_Contains_int x0 x1 (decide (x1∈x0)):=M_slices_Contains_int _ _ _ (by
 unfold S_slices_Contains_int
 refine⟨_,g_slices_Index_int,?_⟩
 rw[idx_ge,any_mem])
theorem g_slices_IndexFunc_int_c_iNullBlocks_1 {x0:List Int} {x1:TUf} (p:Int→Bool) (hp:∀ t∈x0,G_iNullBlocks_1 t x1.1 (p t)):G_slices_IndexFunc_int_c_iNullBlocks_1 x0 x1 (if firstAt p x0<x0.length then(firstAt p x0:Int)else -1):=M_slices_IndexFunc_int_c_iNullBlocks_1 _ _ _ (by
 unfold S_slices_IndexFunc_int_c_iNullBlocks_1
 exact idxRow p (fun y=>((y,()):Int×Unit)=((if firstAt p x0<x0.length then(firstAt p x0:Int)else -1),())) (fun t A B=>∃ y,G_iNullBlocks_1 t x1.1 y∧bcase y A B) (fun t ht A B h1 h2=>⟨_,hp t ht,bc_if h1 h2⟩) rfl)
theorem g_slices_ContainsFunc_int_c_iNullBlocks_1 {x0:List Int} {x1:TUf} (p:Int→Bool) (hp:∀ t∈x0,G_iNullBlocks_1 t x1.1 (p t)):G_slices_ContainsFunc_int_c_iNullBlocks_1 x0 x1 (x0.any p):=M_slices_ContainsFunc_int_c_iNullBlocks_1 _ _ _ (by
 unfold S_slices_ContainsFunc_int_c_iNullBlocks_1
 refine⟨_,g_slices_IndexFunc_int_c_iNullBlocks_1 p hp,?_⟩
 rw[idx_ge])
abbrev k0:Sh:=.pair .bool .unit
instance:DecidableEq (Bool×Unit):=inferInstance
abbrev k1:Sh:=.pair (.int .i64) k0
instance:DecidableEq (Int×Bool×Unit):=inferInstance
abbrev k2:Sh:=.pair .str k1
instance:DecidableEq ((List UInt8)×Int×Bool×Unit):=inferInstance
theorem s_lszRelation {x0:TRel} {x1:Int} (h0:0≤x1) (h1:x1≤1048576):S_lszRelation x0 x1 fun r=>r=(fits x1 (bulk k2 x0),()):=by
 unfold S_lszRelation
 have e:bulk k2 x0=(List.length x0.1+(0+(0+0))):=rfl
 refine lenI fun hl1=>?_
 rw[szw (l:=x1) (n:=List.length x0.1) (by omega) (by omega) hl1]
 by_cases hc1:x1 - (List.length x0.1:Int)<0
 · rw[bc_pos hc1];exact fits_lt (by omega)
 rw[bc_neg hc1]
 exact fits_ge (by omega) (by omega)
theorem g_lszRelation {x0:TRel} {x1:Int} (h0:0≤x1) (h1:x1≤1048576):G_lszRelation x0 x1 (fits x1 (bulk k2 x0)):=M_lszRelation _ _ _ (s_lszRelation h0 h1)
abbrev k3:Sh:=.sl 0 k2
theorem s_lszRelationS {x0:List TRel} {x1:Int} (h0:0≤x1) (h1:x1≤1048576):S_lszRelationS x0 x1 fun r=>r=(fits x1 (bulk k3 x0),()):=by
 unfold S_lszRelationS
 exact szRow (b:=bulk k2) h0 h1 (fun y=>((y,()):Int×Unit)=(fits x1 (bulk k3 x0),())) (fun t l A B=>∃ y,G_lszRelation t l y∧bcase (decide (y<(0:Int))) A (B y)) (fun t ht l a b A B hA hB=>⟨_,g_lszRelation a b,bc_fits a hA fun h=>by rw[fits_of_ge h];exact hB h⟩) rfl
theorem g_lszRelationS {x0:List TRel} {x1:Int} (h0:0≤x1) (h1:x1≤1048576):G_lszRelationS x0 x1 (fits x1 (bulk k3 x0)):=M_lszRelationS _ _ _ (s_lszRelationS h0 h1)
abbrev k4:Sh:=.sl 0 (.int .i64)
theorem s_lszIntS {x0:List Int} {x1:Int} (h0:0≤x1) (h1:x1≤1048576):S_lszIntS x0 x1 fun r=>r=(fits x1 (bulk k4 x0),()):=by
 unfold S_lszIntS
 have e:bulk k4 x0=List.length x0:=bulk_flat fun _=>rfl
 refine lenI fun hl=>?_
 rw[szw (l:=x1) (n:=List.length x0) h0 h1 hl]
 by_cases hlt:x1 - (List.length x0:Int)<0
 · rw[bc_pos hlt];exact fits_lt (by omega)
 · rw[bc_neg hlt];exact fits_ge (by omega) (by omega)
theorem g_lszIntS {x0:List Int} {x1:Int} (h0:0≤x1) (h1:x1≤1048576):G_lszIntS x0 x1 (fits x1 (bulk k4 x0)):=M_lszIntS _ _ _ (s_lszIntS h0 h1)
abbrev k5:Sh:=.pair k4 .unit
instance:DecidableEq ((List Int)×Unit):=inferInstance
abbrev k6:Sh:=.pair (.int .i64) k5
instance:DecidableEq (Int×(List Int)×Unit):=inferInstance
theorem s_lszFact {x0:TFact} {x1:Int} (h0:0≤x1) (h1:x1≤1048576):S_lszFact x0 x1 fun r=>r=(fits x1 (bulk k6 x0),()):=by
 unfold S_lszFact
 have e:bulk k6 x0=(0+(bulk k4 x0.2.1+0)):=rfl
 refine⟨_,g_lszIntS (x1:=x1) (by omega) (by omega),?_⟩
 by_cases hc1:x1<(bulk k4 x0.2.1:Int)
 · rw[fits_of_lt hc1,bc_pos (by decide)];exact fits_lt (by omega)
 rw[fits_of_ge (by omega),bc_neg (by omega)]
 exact fits_ge (by omega) (by omega)
theorem g_lszFact {x0:TFact} {x1:Int} (h0:0≤x1) (h1:x1≤1048576):G_lszFact x0 x1 (fits x1 (bulk k6 x0)):=M_lszFact _ _ _ (s_lszFact h0 h1)
abbrev k7:Sh:=.sl 0 k6
theorem s_lszFactS {x0:List TFact} {x1:Int} (h0:0≤x1) (h1:x1≤1048576):S_lszFactS x0 x1 fun r=>r=(fits x1 (bulk k7 x0),()):=by
 unfold S_lszFactS
 exact szRow (b:=bulk k6) h0 h1 (fun y=>((y,()):Int×Unit)=(fits x1 (bulk k7 x0),())) (fun t l A B=>∃ y,G_lszFact t l y∧bcase (decide (y<(0:Int))) A (B y)) (fun t ht l a b A B hA hB=>⟨_,g_lszFact a b,bc_fits a hA fun h=>by rw[fits_of_ge h];exact hB h⟩) rfl
theorem g_lszFactS {x0:List TFact} {x1:Int} (h0:0≤x1) (h1:x1≤1048576):G_lszFactS x0 x1 (fits x1 (bulk k7 x0)):=M_lszFactS _ _ _ (s_lszFactS h0 h1)
abbrev k8:Sh:=.pair k7 .unit
instance:DecidableEq ((List (Int×(List Int)×Unit))×Unit):=inferInstance
abbrev k9:Sh:=.pair k3 k8
instance:DecidableEq ((List ((List UInt8)×Int×Bool×Unit))×(List (Int×(List Int)×Unit))×Unit):=inferInstance
theorem s_lszInstance {x0:TInst} {x1:Int} (h0:0≤x1) (h1:x1≤1048576):S_lszInstance x0 x1 fun r=>r=(fits x1 (bulk k9 x0),()):=by
 unfold S_lszInstance
 have e:bulk k9 x0=(bulk k3 x0.1+(bulk k7 x0.2.1+0)):=rfl
 refine⟨_,g_lszRelationS (x1:=x1) (by omega) (by omega),?_⟩
 by_cases hc1:x1<(bulk k3 x0.1:Int)
 · rw[fits_of_lt hc1,bc_pos (by decide)];exact fits_lt (by omega)
 rw[fits_of_ge (by omega),bc_neg (by omega)]
 refine⟨_,g_lszFactS (x1:=x1 - (bulk k3 x0.1:Int)) (by omega) (by omega),?_⟩
 by_cases hc2:x1 - (bulk k3 x0.1:Int)<(bulk k7 x0.2.1:Int)
 · rw[fits_of_lt hc2,bc_pos (by decide)];exact fits_lt (by omega)
 rw[fits_of_ge (by omega),bc_neg (by omega)]
 exact fits_ge (by omega) (by omega)
theorem g_lszInstance {x0:TInst} {x1:Int} (h0:0≤x1) (h1:x1≤1048576):G_lszInstance x0 x1 (fits x1 (bulk k9 x0)):=M_lszInstance _ _ _ (s_lszInstance h0 h1)
theorem s_ltoRelation {x0:TRel} (hb:bulk k2 x0≤1099511627776):S_ltoRelation x0 fun r=>r=(x0,()):=by
 unfold S_ltoRelation
 have e:bulk k2 x0=(List.length x0.1+(0+(0+0))):=rfl
 rfl
theorem g_ltoRelation {x0:TRel} (hb:bulk k2 x0≤1099511627776):G_ltoRelation x0 x0:=M_ltoRelation _ _ (s_ltoRelation hb)
theorem s_ltoRelationS {x0:List TRel} (hb:bulk k3 x0≤1099511627776):S_ltoRelationS x0 fun r=>r=(x0,()):=by
 unfold S_ltoRelationS
 exact toRow id (by have e:bulk k3 x0=x0.length+(x0.map (bulk k2)).sum:=rfl;omega) (fun y=>((y,()):List _×Unit)=(x0,())) (fun t B=>∃ y,G_ltoRelation t y∧B y) (fun t ht B hB=>⟨_,g_ltoRelation (by have h:=sum_le (bulk k2) ht;have e:bulk k3 x0=x0.length+(x0.map (bulk k2)).sum:=rfl;omega),hB⟩) (by rw[List.map_id])
theorem g_ltoRelationS {x0:List TRel} (hb:bulk k3 x0≤1099511627776):G_ltoRelationS x0 x0:=M_ltoRelationS _ _ (s_ltoRelationS hb)
theorem s_ltoIntS {x0:List Int} (hb:bulk k4 x0≤1099511627776):S_ltoIntS x0 fun r=>r=(x0,()):=by
 unfold S_ltoIntS
 exact toRow id (by have e:bulk k4 x0=x0.length+(x0.map (bulk (.int .i64))).sum:=rfl;omega) (fun y=>((y,()):List _×Unit)=(x0,())) (fun t B=>B t) (fun t ht B hB=>hB) (by rw[List.map_id])
theorem g_ltoIntS {x0:List Int} (hb:bulk k4 x0≤1099511627776):G_ltoIntS x0 x0:=M_ltoIntS _ _ (s_ltoIntS hb)
theorem s_ltoFact {x0:TFact} (hb:bulk k6 x0≤1099511627776):S_ltoFact x0 fun r=>r=(x0,()):=by
 unfold S_ltoFact
 have e:bulk k6 x0=(0+(bulk k4 x0.2.1+0)):=rfl
 exact⟨_,g_ltoIntS (by omega),rfl⟩
theorem g_ltoFact {x0:TFact} (hb:bulk k6 x0≤1099511627776):G_ltoFact x0 x0:=M_ltoFact _ _ (s_ltoFact hb)
theorem s_ltoFactS {x0:List TFact} (hb:bulk k7 x0≤1099511627776):S_ltoFactS x0 fun r=>r=(x0,()):=by
 unfold S_ltoFactS
 exact toRow id (by have e:bulk k7 x0=x0.length+(x0.map (bulk k6)).sum:=rfl;omega) (fun y=>((y,()):List _×Unit)=(x0,())) (fun t B=>∃ y,G_ltoFact t y∧B y) (fun t ht B hB=>⟨_,g_ltoFact (by have h:=sum_le (bulk k6) ht;have e:bulk k7 x0=x0.length+(x0.map (bulk k6)).sum:=rfl;omega),hB⟩) (by rw[List.map_id])
theorem g_ltoFactS {x0:List TFact} (hb:bulk k7 x0≤1099511627776):G_ltoFactS x0 x0:=M_ltoFactS _ _ (s_ltoFactS hb)
theorem s_ltoInstance {x0:TInst} (hb:bulk k9 x0≤1099511627776):S_ltoInstance x0 fun r=>r=(x0,()):=by
 unfold S_ltoInstance
 have e:bulk k9 x0=(bulk k3 x0.1+(bulk k7 x0.2.1+0)):=rfl
 exact⟨_,g_ltoRelationS (by omega),_,g_ltoFactS (by omega),rfl⟩
theorem g_ltoInstance {x0:TInst} (hb:bulk k9 x0≤1099511627776):G_ltoInstance x0 x0:=M_ltoInstance _ _ (s_ltoInstance hb)
theorem s_leqRelation {x0:TRel} {x1:TRel}:S_leqRelation x0 x1 fun r=>r=(decide (x0=x1),()):=by
 unfold S_leqRelation
 refine bc_nb (fun h=>eq_no (fun e=>h (by rw[e]))) (fun q0=>?_)
 refine bc_ne (fun h=>eq_no (fun e=>h (by rw[e]))) (fun q1=>?_)
 refine bc_nb (fun h=>eq_no (fun e=>h (by rw[e]))) (fun q2=>?_)
 exact eq_yes (Prod.ext q0 (Prod.ext q1 (Prod.ext q2 rfl)))
theorem g_leqRelation {x0:TRel} {x1:TRel}:G_leqRelation x0 x1 (decide (x0=x1)):=M_leqRelation _ _ _ s_leqRelation
theorem s_leqRelationS {x0:List TRel} {x1:List TRel}:S_leqRelationS x0 x1 fun r=>r=(decide (x0=x1),()):=by
 unfold S_leqRelationS
 exact eqRow (fun y=>((y,()):Bool×Unit)=(decide (x0=x1),())) (fun t u A B=>∃ y,G_leqRelation t u y∧bcase (!y) A B) (fun t ht u hu A B hA hB=>⟨_,g_leqRelation,bc_nd hA hB⟩) rfl
theorem g_leqRelationS {x0:List TRel} {x1:List TRel}:G_leqRelationS x0 x1 (decide (x0=x1)):=M_leqRelationS _ _ _ s_leqRelationS
theorem s_leqIntS {x0:List Int} {x1:List Int}:S_leqIntS x0 x1 fun r=>r=(decide (x0=x1),()):=by
 unfold S_leqIntS
 exact eqRow (fun y=>((y,()):Bool×Unit)=(decide (x0=x1),())) (fun t u A B=>bcase (t != u) A B) (fun t ht u hu A B hA hB=>bc_ne hA hB) rfl
theorem g_leqIntS {x0:List Int} {x1:List Int}:G_leqIntS x0 x1 (decide (x0=x1)):=M_leqIntS _ _ _ s_leqIntS
theorem s_leqFact {x0:TFact} {x1:TFact}:S_leqFact x0 x1 fun r=>r=(decide (x0=x1),()):=by
 unfold S_leqFact
 refine bc_ne (fun h=>eq_no (fun e=>h (by rw[e]))) (fun q0=>?_)
 refine⟨_,g_leqIntS,bc_nd (fun h=>eq_no (fun e=>h (by rw[e]))) (fun q1=>?_)⟩
 exact eq_yes (Prod.ext q0 (Prod.ext q1 rfl))
theorem g_leqFact {x0:TFact} {x1:TFact}:G_leqFact x0 x1 (decide (x0=x1)):=M_leqFact _ _ _ s_leqFact
theorem s_leqFactS {x0:List TFact} {x1:List TFact}:S_leqFactS x0 x1 fun r=>r=(decide (x0=x1),()):=by
 unfold S_leqFactS
 exact eqRow (fun y=>((y,()):Bool×Unit)=(decide (x0=x1),())) (fun t u A B=>∃ y,G_leqFact t u y∧bcase (!y) A B) (fun t ht u hu A B hA hB=>⟨_,g_leqFact,bc_nd hA hB⟩) rfl
theorem g_leqFactS {x0:List TFact} {x1:List TFact}:G_leqFactS x0 x1 (decide (x0=x1)):=M_leqFactS _ _ _ s_leqFactS
theorem s_leqInstance {x0:TInst} {x1:TInst}:S_leqInstance x0 x1 fun r=>r=(decide (x0=x1),()):=by
 unfold S_leqInstance
 refine⟨_,g_leqRelationS,bc_nd (fun h=>eq_no (fun e=>h (by rw[e]))) (fun q0=>?_)⟩
 refine⟨_,g_leqFactS,bc_nd (fun h=>eq_no (fun e=>h (by rw[e]))) (fun q1=>?_)⟩
 exact eq_yes (Prod.ext q0 (Prod.ext q1 rfl))
theorem g_leqInstance {x0:TInst} {x1:TInst}:G_leqInstance x0 x1 (decide (x0=x1)):=M_leqInstance _ _ _ s_leqInstance
end Go.V

