/-
  Operands; moving, filling slots.
-/
import Derived.Test.YtfjdciagpcgpkaaGreatDoorVA
import Derived.Calls
import Derived.Laws.BytesArg
import Derived.Laws.Cover3
import Derived.Laws.Tables
import Derived.Great.BuildSlice
import Derived.Laws.MakeOwn
import Derived.Maps.AppendAt
import Derived.Laws.CopyRow
set_option linter.unusedVariables false
set_option linter.unusedSimpArgs false
namespace Go.V
open Go
def Runs (P:Program) (o:Oper) (a:Act) (w:World) (Post:Value→World→Prop):Prop:=
 match (execOp a.eval o).run P w with
 |.ok (.value c) w'=>Post c w'
 |.ok .skip w'=>Post undef w'
 |.ok (.enter f args) w'=>Calls P f args w' fun e w''=>∃ c,e = .returned c∧Post c w''
 |_=>False
theorem Runs.wp {P:Program} {o:Oper} {a:Act} {w:World} {Post:Value→World→Prop} {next:Act→World→Prop} {Q:Exit→Act→World→Prop}
  (h:Runs P o a w Post) (hn:∀ c w',Post c w'→next (a.put o.dst c) w'):o.wp P a w next Q:=by
 unfold Runs at h
 unfold Oper.wp Oper.upon
 split at h
 · rename_i c w' e;rw[e];exact hn _ _ h
 · rename_i w' e;rw[e];exact hn _ _ h
 · rename_i f args w' e
   rw[e]
   intro cs
   obtain⟨e',w'',fr,⟨c,rfl,hp⟩,hr⟩:=h cs
   exact⟨_,w'',fr,hn _ _ hp,hr⟩
 · exact h.elim
theorem Runs.value {P:Program} {o:Oper} {a:Act} {w w':World} {Post:Value→World→Prop} {c:Value} (h:(execOp a.eval o).run P w = .ok (.value c) w') (hp:Post c w'):Runs P o a w Post:=by
 unfold Runs;rw[h];exact hp
theorem vEq_eq {a b:Value} (h:vEq a b=true):a=b:=by
 unfold vEq at h
 split at h
 · simp only[Bool.and_eq_true,decide_eq_true_eq]at h;rw[h.1,h.2]
 · simp at h;rw[h]
 · rename_i a b
   simp only[decide_eq_true_eq]at h
   congr 1
   cases a;cases b
   simp at h;rw[h]
 · rfl
 · simp at h
theorem vsEq_eq:∀ {l m:List Value},vsEq l m=true→l=m:=by
 intro l
 induction l with
 |nil=>intro m h;cases m<;>simp[vsEq]at h<;>rfl
 | cons a l ih=>
   intro m h
   cases m with
   |nil=>simp[vsEq]at h
   |cons b m=>simp only[vsEq,Bool.and_eq_true]at h;rw[vEq_eq h.1,ih h.2]
theorem zo_alive:∀ s:Sh,(zo s).alive=true:=by
 intro s
 induction s with
 | pair a b iha ihb=>
   unfold zo
   cases ha:zo a<;>cases hb:zo b<;>rw[ha]at iha<;>rw[hb]at ihb<;>simp_all [prz,O.alive]
 |sl e a ih=>simpa [zo,O.alive]using ih
 |_=>rfl
theorem zcells_size:∀ s:Sh,(zcells s).length=s.size:=by
 intro s
 induction s with
 |pair a b iha ihb=>simp[zcells,Sh.size,iha,ihb]
 |tok a b iha ihb=>simp[zcells,Sh.size,iha,ihb]
 |md a ih=>exact ih
 |_=>rfl
theorem zcells_one:∀ s:Sh,∀ c∈zcells s,c.oneCell'=true:=by
 intro s
 induction s with
 |pair a b iha ihb=>intro c hc;rcases List.mem_append.mp hc with hc|hc;exact iha c hc;exact ihb c hc
 |tok a b iha ihb=>intro c hc;rcases List.mem_append.mp hc with hc|hc;exact iha c hc;exact ihb c hc
 |md a ih=>exact ih
 |_=>simp[zcells,Value.oneCell']
theorem zcells_rep {w:World} {fz:Nat→Prop}:∀ {s:Sh},s.plain=true→Rep w fz s (zo s) s.zv (zcells s) []:=by
 intro s
 induction s with
 |int k=>intro _;refine⟨rfl,⟨rfl,by simp[zcells,Value.oneCell']⟩,fun _=>⟨rfl,?_,?_⟩⟩<;>cases k<;>decide
 |bool=>intro _;exact⟨rfl,⟨rfl,by simp[zcells,Value.oneCell']⟩,fun _=>rfl⟩
 |str=>intro _;exact⟨rfl,⟨rfl,by simp[zcells,Value.oneCell']⟩,fun _=>⟨rfl,Nat.zero_le _⟩⟩
 |unit=>intro _;exact⟨rfl,rfl⟩
 | pair a b iha ihb=>
   intro h
   simp only[Sh.plain,Bool.and_eq_true]at h
   exact Rep.przIff.mpr ⟨zcells a,zcells b,[],[],rfl,rfl,iha h.1,ihb h.2⟩
 |sl e a _=>intro _;exact⟨_,[],[],rfl,⟨rfl,rfl⟩,.inl ⟨rfl,rfl,rfl⟩⟩
 |ptr a _=>intro h;simp[Sh.plain]at h
 |fn f c _=>intro h;simp[Sh.plain]at h
 | tok a b iha ihb=>
   intro h
   simp only[Sh.plain,Bool.and_eq_true]at h
   exact⟨rfl,⟨zcells_size (.tok a b),zcells_one (.tok a b)⟩,fun _=>⟨rfl,zcells a,zcells b,rfl,Rep.freeze (fun _ h=>h) (iha h.1) (zo_alive a) (by simp),Rep.freeze (fun _ h=>h) (ihb h.2) (zo_alive b) (by simp)⟩⟩
 |md a _=>intro h;simp[Sh.plain]at h
theorem constV_ok {w:World} {fz:Nat→Prop} {R:Nat→Option Root} {rc:Nat→RC} {sh:Option Sh} {c:Value} {v:Val} (h:constV sh c=some v):VOk w fz R rc v c:=by
 cases c with
 | int k n=>
   simp only[constV]at h
   split at h
   · rename_i hb
     cases h
     simp only[Bool.and_eq_true,decide_eq_true_eq]at hb
     exact⟨[.int k n],⟨rfl,⟨rfl,by simp[Value.oneCell']⟩,fun _=>⟨rfl,hb.1,hb.2⟩⟩,rfl⟩
   · simp at h
 | bool b=>
   simp only[constV,Option.some.injEq]at h;subst h
   exact⟨[_],⟨rfl,⟨rfl,by simp[Value.oneCell']⟩,fun _=>rfl⟩,rfl⟩
 | string s=>
   simp only[constV]at h
   split at h
   · rename_i hb
     cases h
     refine⟨[.string s],⟨rfl,⟨rfl,by simp[Value.oneCell']⟩,fun _=>⟨by simp,?_⟩⟩,rfl⟩
     have:=Nat.le_of_ble_eq_true hb
     exact Nat.le_trans this (by unfold maxLen;omega)
   · simp at h
 | slice A l c=>
   unfold constV at h
   split at h<;>try contradiction
   rename_i heq
   cases heq
   split at h
   · cases h;exact⟨[.slice none 0 0],⟨_,[],[],rfl,⟨rfl,rfl⟩,.inl ⟨rfl,rfl,rfl⟩⟩,rfl⟩
   · cases h;exact⟨[.slice none 0 0],rfl,rfl⟩
 | agg cs=>
   simp only[constV]at h
   split at h
   · rename_i s
     split at h
     · rename_i hz
       cases h
       simp only[Bool.and_eq_true]at hz
       have e:=vsEq_eq hz.2
       refine⟨zcells s,zcells_rep hz.1.1,?_⟩
       have:aggV (.t s (zo s) s.zv)=true:=hz.1.2
       rw[this]
       simp only[packV]
       rw[←e]
     · simp at h
   · simp at h
 |pointer A=>cases A<;>simp[constV]at h;subst h;trivial
 |nilFunc=>simp only[constV,Option.some.injEq]at h;subst h;trivial
 |map r=>cases r<;>simp[constV]at h;subst h;trivial
 |_=>simp[constV]at h
theorem evalV_ok {rc:Nat→RC} {ex:List Nat} {C s:St} {X:Fr} {w0:World} {a:Act} {w:World} (h:Rel rc ex C s X w0 a w) {sh:Option Sh} {x:Operand} {v:Val}
  (hv:evalV C s sh x=some v):VOk w (fzOf X w (ex++allB rc (s.roots++C.roots))) (getR C s) rc v (a.eval x):=by
 cases x with
 | tmp t=>
   obtain⟨c,h1,h2⟩:=h.getT hv
   have:a.eval (.tmp t)=c:=by simp[Act.eval,Array.getD_eq_getD_getElem?,h1]
   rw[this];exact h2
 |const c=>exact constV_ok hv
 | func f=>
   simp only[evalV,Option.some.injEq]at hv
   subst hv
   exact⟨_,⟨[],rfl,⟨rfl,rfl⟩⟩,rfl⟩
 |global g=>simp[evalV]at hv
theorem VOk.cells {w:World} {fz:Nat→Prop} {R:Nat→Option Root} {rc:Nat→RC} {v:Val} {c:Value} (h:VOk w fz R rc v c) (h1:∀ a b,v≠.tup a b) (h2:v≠.tnil) (h3:v≠.undef) :
  ∃ cs,VCells w fz R rc v cs∧c=packV (aggV v) cs:=by
 cases v<;>first|exact absurd rfl (h1 _ _)|exact absurd rfl h2|exact absurd rfl h3|exact h
theorem VOk.int {w:World} {fz:Nat→Prop} {R:Nat→Option Root} {rc:Nat→RC} {k:IntKind} {x:Int} {c:Value} (h:VOk w fz R rc (.t (.int k) .z x) c) :
  c = .int k x∧k.min≤x∧x≤k.max:=by
 obtain⟨cs,⟨_,_,h⟩,rfl⟩:=h
 obtain⟨rfl,h1,h2⟩:=h (by simp)
 exact⟨rfl,h1,h2⟩
theorem VOk.bool {w:World} {fz:Nat→Prop} {R:Nat→Option Root} {rc:Nat→RC} {x:Bool} {c:Value} (h:VOk w fz R rc (.t .bool .z x) c):c = .bool x:=by
 obtain⟨cs,⟨_,_,h⟩,rfl⟩:=h
 obtain rfl:=h (by simp)
 rfl
theorem VOk.str {w:World} {fz:Nat→Prop} {R:Nat→Option Root} {rc:Nat→RC} {x:List UInt8} {c:Value} (h:VOk w fz R rc (.t .str .z x) c) :
  c = .string ⟨x.toArray⟩∧x.length≤maxLen:=by
 obtain⟨cs,⟨_,_,h⟩,rfl⟩:=h
 obtain⟨rfl,h1⟩:=h (by simp)
 exact⟨rfl,h1⟩
section
variable {w:World} {fz:Nat→Prop} {R:Nat→Option Root} {rc:Nat→RC}
theorem vok_int {k:IntKind} {x:Int} (h1:k.min≤x) (h2:x≤k.max):VOk w fz R rc (.t (.int k) .z x) (.int k x):=
 ⟨[.int k x],⟨rfl,⟨rfl,by simp[Value.oneCell']⟩,fun _=>⟨rfl,h1,h2⟩⟩,rfl⟩
theorem vok_bool {x:Bool}:VOk w fz R rc (.t .bool .z x) (.bool x):=⟨[.bool x],⟨rfl,⟨rfl,by simp[Value.oneCell']⟩,fun _=>rfl⟩,rfl⟩
theorem vok_str {x:List UInt8} (h:x.length≤maxLen):VOk w fz R rc (.t .str .z x) (.string ⟨x.toArray⟩):=
 ⟨[_],⟨rfl,⟨rfl,by simp[Value.oneCell']⟩,fun _=>⟨rfl,h⟩⟩,rfl⟩
end
theorem wrap_range (k:IntKind) (n:Int):k.min≤k.wrap n∧k.wrap n≤k.max:=by
 cases k<;>simp[IntKind.min,IntKind.max,IntKind.wrap,IntKind.signed,IntKind.bits]<;>(try split)<;>omega
theorem wrapK_eq (k:IntKind) (n:Int):wrapK k n=k.wrap n:=by cases k<;>rfl
end Go.V
namespace Go.V
open Go
theorem eqGuard_int {P:Program} {w:World} (op:BinOp) (t:TypeId) (x y:Operand) (k j:IntKind) (a b:Int) :
  (eqGuard op t x y (.int k a) (.int j b)).run P w = .ok () w:=by
 unfold eqGuard
 cases op<;>simp[Sem.run,pure]<;>rfl
theorem eqGuard_str {P:Program} {w:World} (op:BinOp) (t:TypeId) (x y:Operand) (a b:ByteArray) :
  (eqGuard op t x y (.string a) (.string b)).run P w = .ok () w:=by
 unfold eqGuard
 cases op<;>simp[Sem.run,pure]<;>rfl
theorem eqGuard_bool {P:Program} {w:World} (op:BinOp) (t:TypeId) (x y:Operand) (a b:Bool) :
  (eqGuard op t x y (.bool a) (.bool b)).run P w = .ok () w:=by
 unfold eqGuard
 cases op<;>simp[Sem.run,pure]<;>rfl
section
variable {P:Program} {w:World} {fz:Nat→Prop} {R:Nat→Option Root} {rc:Nat→RC}
theorem tmod_range {k:IntKind} {x y:Int} (h1:k.min≤x) (h2:x≤k.max):k.min≤x.tmod y∧x.tmod y≤k.max:=by
 have hm:k.min≤0∧0≤k.max:=by cases k<;>decide
 have ha:=Int.natAbs_tmod x y
 have hle:(x.natAbs % y.natAbs)≤x.natAbs:=Nat.mod_le _ _
 rcases Int.lt_or_le x 0 with hx|hx
 · have h0:x.tmod y≤0:=by
    have:=Int.tmod_nonneg y (a:=-x) (by omega)
    rw[Int.neg_tmod]at this
    omega
   omega
 · have h0:=Int.tmod_nonneg y hx
   omega
theorem fdiv_range {k:IntKind} {x:Int} {n:Nat} (h1:k.min≤x) (h2:x≤k.max):k.min≤x.fdiv (2 ^ n)∧x.fdiv (2 ^ n)≤k.max:=by
 have hp:(0:Int)<2 ^ n:=Int.pow_pos (by omega)
 have hm:k.min≤0∧0≤k.max:=by cases k<;>decide
 rw[Int.fdiv_eq_ediv_of_nonneg _ (Int.le_of_lt hp)]
 have h3:(1:Int)≤2 ^ n:=by omega
 constructor
 · rcases Int.lt_or_le x 0 with hx|hx
   · refine Int.le_trans h1 ?_
     rw[Int.le_ediv_iff_mul_le hp]
     have:=Int.mul_le_mul_of_nonpos_left (a:=x) (Int.le_of_lt hx) h3
     omega
   · exact Int.le_trans hm.1 (Int.ediv_nonneg hx (Int.le_of_lt hp))
 · rcases Int.lt_or_le x 0 with hx|hx
   · exact Int.le_trans (Int.le_of_lt (Int.ediv_neg_of_neg_of_pos hx hp)) hm.2
   · exact Int.le_trans (Int.ediv_le_self _ hx) h2
theorem intOp_ok {op:BinOp} {k:IntKind} {x y:Int} {K:Val→Prop} (t:TypeId) (hx:k.min≤x∧x≤k.max) (h:intOp op k x y K) :
  ∃ c v,(∀ w',(binOp op t (.int k x) (.int k y)).run P w' = .ok c w')∧VOk w fz R rc v c∧K v:=by
 cases op<;>simp only[intOp,M.ret,M.fail,M.need,M.bind]at h
 · exact⟨.int k (k.wrap (x+y)),_,fun w'=>by simp[binOp,Op.intArith],vok_int (wrap_range _ _).1 (wrap_range _ _).2,by rw[wrapK_eq]at h;exact h⟩
 · exact⟨.int k (k.wrap (x - y)),_,fun w'=>by simp[binOp,Op.intArith],vok_int (wrap_range _ _).1 (wrap_range _ _).2,by rw[wrapK_eq]at h;exact h⟩
 · exact⟨.int k (k.wrap (x * y)),_,fun w'=>by simp[binOp,Op.intArith],vok_int (wrap_range _ _).1 (wrap_range _ _).2,by rw[wrapK_eq]at h;exact h⟩
 · exact⟨.int k (k.wrap (x.tdiv y)),_,fun w'=>by simp[binOp,Op.intDiv,h.1],vok_int (wrap_range _ _).1 (wrap_range _ _).2,by rw[wrapK_eq]at h;exact h.2⟩
 · exact⟨.int k (x.tmod y),_,fun w'=>by simp[binOp,Op.intDiv,h.1],vok_int (tmod_range hx.1 hx.2).1 (tmod_range hx.1 hx.2).2,h.2⟩
 case eql=>exact⟨.bool (x == y),_,fun w'=>by simp[binOp,Op.intCmp],vok_bool,h⟩
 case neq=>exact⟨.bool (x != y),_,fun w'=>by simp[binOp,Op.intCmp],vok_bool,h⟩
 case lss=>exact⟨.bool (decide (x<y)),_,fun w'=>by simp[binOp,Op.intCmp],vok_bool,h⟩
 case leq=>exact⟨.bool (decide (x≤y)),_,fun w'=>by simp[binOp,Op.intCmp],vok_bool,h⟩
 case gtr=>exact⟨.bool (decide (x > y)),_,fun w'=>by simp[binOp,Op.intCmp],vok_bool,h⟩
 case geq=>exact⟨.bool (decide (x≥y)),_,fun w'=>by simp[binOp,Op.intCmp],vok_bool,h⟩
 case and=>exact⟨.int k (bitsK .and k x y),_,fun w'=>by simp[binOp,Op.intBits,bitsK],vok_int (wrap_range _ _).1 (wrap_range _ _).2,h⟩
 case or=>exact⟨.int k (bitsK .or k x y),_,fun w'=>by simp[binOp,Op.intBits,bitsK],vok_int (wrap_range _ _).1 (wrap_range _ _).2,h⟩
 case xor=>exact⟨.int k (bitsK .xor k x y),_,fun w'=>by simp[binOp,Op.intBits,bitsK],vok_int (wrap_range _ _).1 (wrap_range _ _).2,h⟩
 case andNot=>exact⟨.int k (bitsK .andNot k x y),_,fun w'=>by simp[binOp,Op.intBits,bitsK],vok_int (wrap_range _ _).1 (wrap_range _ _).2,h⟩
theorem shiftOp_ok {op:BinOp} {k j:IntKind} {x y:Int} {K:Val→Prop} (t:TypeId) (hx:k.min≤x∧x≤k.max) (h:shiftOp op k x y K) :
  ∃ c v,(∀ w',(binOp op t (.int k x) (.int j y)).run P w' = .ok c w')∧VOk w fz R rc v c∧K v:=by
 cases op<;>simp only[shiftOp,M.ret,M.fail,M.need,M.bind]at h
 case shl=>exact⟨.int k (k.wrap (x * 2 ^ min y.toNat k.bits)),_,fun w'=>by simp[binOp,Op.shift,show ¬ y<0 by omega],vok_int (wrap_range _ _).1 (wrap_range _ _).2,by rw[wrapK_eq]at h;exact h.2⟩
 case shr=>exact⟨.int k (x.fdiv (2 ^ min y.toNat k.bits)),_,fun w'=>by simp[binOp,Op.shift,show ¬ y<0 by omega],vok_int (fdiv_range hx.1 hx.2).1 (fdiv_range hx.1 hx.2).2,h.2⟩
theorem strOp_ok {op:BinOp} {x y:List UInt8} {K:Val→Prop} (t:TypeId) (h:strOp op x y K) :
  ∃ c v,(∀ w',(binOp op t (.string ⟨x.toArray⟩) (.string ⟨y.toArray⟩)).run P w' = .ok c w')∧VOk w fz R rc v c∧K v:=by
 have hl:∀ l:List UInt8,(⟨l.toArray⟩:ByteArray).toList=l:=by intro l;rw[ByteArray.toList_eq]
 cases op<;>simp only[strOp,M.ret,M.fail,M.need,M.bind]at h
 · refine⟨_,_,?_,vok_str ?_,h.2⟩
   · intro w'
     have:¬ (((⟨x.toArray⟩:ByteArray).size+(⟨y.toArray⟩:ByteArray).size:Nat):Int) > IntKind.i64.max:=by
      have:=h.1;unfold maxL at this;simp[ByteArray.size,IntKind.max,IntKind.signed,IntKind.bits];omega
     simp only[binOp,Op.stringOp,this,if_false]
     rw[show((⟨x.toArray⟩:ByteArray)++⟨y.toArray⟩)=⟨(x++y).toArray⟩ from by
      apply ByteArray.ext
      simp[ByteArray.data_append]]
     rfl
   · have:=h.1;unfold maxL at this;simp[maxLen];omega
 all_goals first
  |exact h.elim
  |exact⟨_,_,fun w'=>by simp only[binOp,Op.stringOp,hl];rfl,vok_bool,h⟩
end
end Go.V
namespace Go.V
open Go
section
variable {P:Program}
theorem ShOk.fields:∀ {n:Nat} {s:Sh} {l:List Field} {off:Nat} {t:TypeId} {s':Sh},ShOk P s (some (l,off)) t→shP s (fieldPath n)=some s'→
  ∃ f o,l[n]? = some f∧ShOk P s' none f.type∧0<s'.size∧locP s (fieldPath n)=some o∧f.offset=off+o:=by
 intro n
 induction n with
 | zero=>
   intro s l off t s' h hs
   cases s<;>try (simp[fieldPath,shP]at hs;done)
   rename_i a b
   obtain⟨f,l',rfl,h1,h2,h3,h4⟩:=h
   have:a=s':=by cases a<;>simpa [fieldPath,shP]using hs
   subst this
   exact⟨f,0,rfl,h3,h2,by cases a<;>rfl,by omega⟩
 | succ n ih=>
   intro s l off t s' h hs
   cases s<;>try (simp[fieldPath,shP]at hs;done)
   rename_i a b
   obtain⟨f,l',rfl,h1,h2,h3,h4⟩:=h
   obtain⟨f',o,g1,g2,g3,g4,g5⟩:=ih h4 (by simpa [fieldPath,shP]using hs)
   exact⟨f',a.size+o,by simpa using g1,g2,g3,by simp[fieldPath,locP,g4],by omega⟩
theorem run_fieldAt {n:Nat} {s s':Sh} {t:TypeId} (h:ShOk P s none t) (hs:shP s (fieldPath n)=some s') (b o:Nat) :
  ∃ off,locP s (fieldPath n)=some off∧∀ w,(Instr.fieldAt t (.pointer (some ⟨b,o,none⟩)) n).run P w = .ok (.pointer (some ⟨b,o+off,none⟩)) w:=by
 cases s<;>try (cases n<;>simp[fieldPath,shP]at hs;done)
 rename_i a c
 obtain⟨fs,f,l,h1,_,h2,h3,h4,h5,h6⟩:=h
 have hall:ShOk P (.pair a c) (some (fs.toList,0)) t:=⟨f,l,h2,h3,h4,h5,by simpa using h6⟩
 obtain⟨f',off,g1,g2,g3,g4,g5⟩:=hall.fields hs
 refine⟨off,g4,fun w=>?_⟩
 have hf:fs[n]? = some f':=by rw[←g1,Array.getElem?_toList]
 simp only[Instr.fieldAt,Instr.sureAddr,fieldPlace,Sem.run_bind,Sem.run_pure,run_underlying h1,Result.andThen_ok,hf,g2.run_size]
 rw[if_neg (by omega)]
 simp only[Sem.run_pure,Result.andThen_ok,add_none,g5,Nat.zero_add]
end
theorem Rep.ptrField {w:World} {fz:Nat→Prop} {s s':Sh} {x:s.den} {x':s'.den} {b o off:Nat} {p:List Step}
  (h:Rep w fz (.ptr s) .z x [.pointer (some ⟨b,o,none⟩)] []) (hl:locP s p=some off) (hg:getP s x p=some ⟨s',x'⟩) :
  Rep w fz (.ptr s') .z x' [.pointer (some ⟨b,o+off,none⟩)] []:=by
 obtain⟨b',o',es,e,_,hz,hr,hc⟩:=h
 simp at e
 obtain⟨rfl,rfl⟩:=e
 have ho:oP .z p=some .z:=by
  clear hl hg
  induction p with
  |nil=>rfl
  |cons q p ih=>cases q<;>simpa [oP]using ih
 obtain⟨g1,g2⟩:=hr.loc hl hg ho
 obtain⟨cs',bs',k1,k2,_⟩:=hr.get hg ho (InB_of_loc _ hl)
 rw[g1]at k1
 cases k1
 have:=k2.z_nil;subst this
 exact⟨b,o+off,_,rfl,rfl,hz,k2,hc.sub g2⟩
theorem sameO_eq {a b:Option Sh} (h:sameO a b=true):∃ s,a=some s∧b=some s:=by
 unfold sameO at h
 split at h
 · rename_i a;exact⟨a,rfl,same_eq h⟩
 · simp at h
theorem comp_ok {rc:Nat→RC} {ex:List Nat} {C s:St} {X:Fr} {w0:World} {a:Act} {w:World} (h:Rel rc ex C s X w0 a w):∀ {n:Nat} {v u:Val} {sh:Sh} {off:Nat} {ccs:List Value},compV n v=some u→shV C s v=some sh→locP sh (fieldPath n)=some off→
  VCells w (fzOf X w (ex++allB rc (s.roots++C.roots))) (getR C s) rc v ccs→∃ pre c' post,ccs=pre++(c'++post)∧pre.length=off∧VCells w (fzOf X w (ex++allB rc (s.roots++C.roots))) (getR C s) rc u c':=by
 intro n
 induction n with
 | zero=>
   intro v u sh off ccs hc hs hl hv
   cases v<;>simp only[compV]at hc<;>try (cases hc;done)
   rename_i x y
   cases hc
   obtain⟨c1,c2,rfl,h1,h2⟩:=hv
   simp only[shV]at hs
   split at hs
   · cases hs
     simp only[fieldPath,locP,Option.some.injEq]at hl
     refine⟨[],c1,c2,rfl,?_,h1⟩
     revert hl
     rename_i sx sy _ _
     cases sx<;>simp[locP]
   · simp at hs
 | succ n ih=>
   intro v u sh off ccs hc hs hl hv
   cases v<;>simp only[compV]at hc<;>try (cases hc;done)
   rename_i x y
   obtain⟨c1,c2,rfl,h1,h2⟩:=hv
   simp only[shV]at hs
   split at hs
   · rename_i sx sy ex ey
     cases hs
     obtain⟨hlen,_⟩:=VCells.len' h h1 ex
     simp only[fieldPath,locP]at hl
     cases hl2:locP sy (fieldPath n)with
     |none=>rw[hl2]at hl;simp at hl
     | some o2=>
       rw[hl2]at hl
       simp at hl
       obtain⟨pre,c',post,rfl,hp,hu⟩:=ih hc ey hl2 h2
       exact⟨c1++pre,c',post,by simp,by simp[hlen,hp];omega,hu⟩
   · simp at hs
theorem unhole_size:∀ s:Sh,(unhole s).size=s.size
 |.pair a b=>by show(unhole a).size+(unhole b).size=a.size+b.size;rw[unhole_size a,unhole_size b]
 |.md _ | .int _ | .bool | .str | .unit | .sl _ _ | .ptr _ | .fn _ _ | .tok _ _=>rfl
theorem locP_nil (s:Sh):locP s []=some 0:=by cases s<;>rfl
theorem unhole_loc:∀ {n:Nat} {s:Sh} {off:Nat} {x:s.den} {s1:Sh} {x1:s1.den},locP (unhole s) (fieldPath n)=some off→getP s x (fieldPath n)=some ⟨s1,x1⟩→locP s (fieldPath n)=some off:=by
 intro n
 induction n with
 | zero=>
   intro s off x s1 x1 h hg
   cases s<;>try (simp[fieldPath,getP]at hg;done)
   simp only[fieldPath,unhole,locP,locP_nil]at h ⊢
   exact h
 | succ n ih=>
   intro s off x s1 x1 h hg
   cases s<;>try (simp[fieldPath,getP]at hg;done)
   rename_i a b
   simp only[fieldPath,unhole,locP,getP,unhole_size]at h hg ⊢
   cases e:locP (unhole b) (fieldPath n)with
   |none=>rw[e]at h;simp at h
   |some o=>rw[e]at h;rw[ih e hg];exact h
theorem fieldA_ok {P:Program} {rc:Nat→RC} {ex:List Nat} {C s:St} {X:Fr} {w0:World} {a:Act} {w:World} (h:Rel rc ex C s X w0 a w)
  {t:TypeId} {tsh:Option Sh} (ht:∀ sh,tsh=some sh→ShOk P sh none t) {ad v:Val} {cs:List Value} {n:Nat}
  (hv:VCells w (fzOf X w (ex++allB rc (s.roots++C.roots))) (getR C s) rc ad cs) (hs:sameO (addrSh C s ad) tsh=true) (hl:fieldA ad n=some v)
  (hvalid:∃ sh s',tsh=some sh∧shP sh (fieldPath n)=some s') :
  ∃ c,(∀ w',(Instr.fieldAt t (packV (aggV ad) cs) n).run P w' = .ok c w')∧VOk w (fzOf X w (ex++allB rc (s.roots++C.roots))) (getR C s) rc v c:=by
 obtain⟨sh,hs1,hs2⟩:=sameO_eq hs
 obtain⟨sh',s',e,hvalid⟩:=hvalid
 rw[hs2]at e;cases e
 have hsh:=ht sh hs2
 cases ad with
 | vbox u=>
   simp only[addrSh]at hs1
   simp only[fieldA]at hl
   split at hl
   · rename_i u' hc
     cases hl
     obtain⟨blk,o,cur,e,pre,ccs,post,rfl,h1,h2,h3,rfl,h5⟩:=hv
     obtain⟨off,g1,g2⟩:=run_fieldAt hsh hvalid blk pre.length
     obtain⟨pre2,c',post2,rfl,hp,hu⟩:=comp_ok h hc hs1 g1 h5
     exact⟨_,g2,⟨[.pointer (some ⟨blk,pre.length+off,none⟩)],⟨blk,_,cur,e,pre++pre2,c',post2++post,rfl,h1,h2,by rw[h3];simp,by simp[hp],hu⟩,rfl⟩⟩
   · simp at hl
 | faddr sh0 x=>
   simp only[addrSh,Option.some.injEq]at hs1;subst hs1
   simp only[fieldA]at hl
   split at hl
   · rename_i s1 x1 hg
     cases hl
     obtain⟨b,o,es,rfl,rest⟩:=hv
     obtain⟨off,g1,g2⟩:=run_fieldAt hsh hvalid b o
     exact⟨_,g2,⟨[.pointer (some ⟨b,o+off,none⟩)],Rep.ptrField ⟨b,o,es,rfl,rest⟩ (unhole_loc g1 hg) hg,rfl⟩⟩
   · simp at hl
 | t sh0 oo x=>
   cases sh0 with
   | ptr sh0=>
     cases oo with
     | z=>
       simp only[addrSh,Option.some.injEq]at hs1;subst hs1
       simp only[fieldA]at hl
       split at hl
       · rename_i s1 x1 hg
         cases hl
         obtain⟨b,o,es,rfl,rest⟩:=hv
         obtain⟨off,g1,g2⟩:=run_fieldAt hsh hvalid b o
         exact⟨_,g2,⟨[.pointer (some ⟨b,o+off,none⟩)],Rep.ptrField ⟨b,o,es,rfl,rest⟩ (unhole_loc g1 hg) hg,rfl⟩⟩
       · simp at hl
     |_=>simp[fieldA]at hl
   |_=>simp[fieldA]at hl
 | baddr key p=>
   simp only[fieldA,Option.some.injEq]at hl;subst hl
   simp only[addrSh]at hs1
   split at hs1
   · rename_i r hr
     split at hs1
     · rename_i hb
       obtain⟨o,h1,rfl⟩:=hv r hr hb
       obtain⟨off,g1,g2⟩:=run_fieldAt hsh hvalid (rc key).blk o
       refine⟨_,g2,⟨[.pointer (some ⟨(rc key).blk,o+off,none⟩)],fun r' hr' _=>?_,rfl⟩⟩
       rw[hr]at hr';cases hr'
       exact⟨o+off,locP_app h1 hs1 g1,rfl⟩
     · simp at hs1
   · simp at hs1
 | eaddr key p i fp=>
   simp only[fieldA,Option.some.injEq]at hl;subst hl
   simp only[addrSh]at hs1
   split at hs1
   · rename_i r hr
     obtain⟨g,m,cap,e,ea,o,h1,h0,h2,h3,h4,h5,rfl⟩:=hv r hr
     rw[shP_app h3]at hs1
     simp only[shP]at hs1
     obtain⟨off,g1,g2⟩:=run_fieldAt hsh hvalid g (i * ea.size+o)
     refine⟨_,g2,⟨[.pointer (some ⟨g,i * ea.size+o+off,none⟩)],fun r' hr'=>?_,rfl⟩⟩
     rw[hr]at hr';cases hr'
     exact⟨g,m,cap,e,ea,o+off,h1,h0,h2,h3,h4,locP_app h5 hs1 g1,by rw[Nat.add_assoc]⟩
   · simp at hs1
 |_=>simp[fieldA]at hl
end Go.V
namespace Go.V
open Go
section
variable {P:Program}
structure IxOk (P:Program) (e:TypeId) (a:Sh) (t:TypeId):Prop where
 u:P.underlying t=some (.slice e)
 z:∀ w,(Go.sizeOf e).run P w = .ok a.size w
theorem ShOk.ix {e:TypeId} {a:Sh} {t:TypeId} (h:ShOk P (.sl e a) none t):IxOk P e a t:=⟨h.1,h.2.2.2.1.run_size⟩
theorem unmd_ix {sh:Option Sh} {tsh:Option Sh} {t:TypeId} (ht:∀ sh,tsh=some sh→ShOk P sh none t) (h:sameO (unmd sh) tsh=true):∃ sh0,sh=some sh0∧∀ e a,sh0 = .sl e a→IxOk P e a t:=by
 obtain⟨s1,e1,e2⟩:=sameO_eq h
 have hs:=ht s1 e2
 unfold unmd at e1
 split at e1
 · rename_i e a
   simp only[Option.some.injEq]at e1
   subst e1
   refine⟨_,rfl,fun e' a' he=>?_⟩
   cases he
   exact⟨hs.ix.u,hs.ix.z⟩
 · exact⟨s1,e1,fun e a he=>by subst he;exact hs.ix⟩
theorem run_indexAt {e:TypeId} {a:Sh} {t:TypeId} (h:IxOk P e a t) {g off n cap:Nat} {k:IntKind} {i:Int} (h0:0≤i) (h1:i<n) (w:World) :
  (Instr.indexAt t (.slice (some ⟨g,off,none⟩) n cap) (.int k i)).run P w = .ok (.pointer (some ⟨g,off+i.toNat * a.size,none⟩)) w:=by
 obtain⟨h2,h4⟩:=h
 simp only[Instr.indexAt,asIntOf,Sem.run_bind,Sem.run_pure,Result.andThen_ok,run_underlying h2,Bool.and_false]
 have:(0≤i∧i<(n:Int)):=⟨h0,h1⟩
 simp only[this,and_self,if_true,Sem.run_bind,h4,Result.andThen_ok,Sem.run_pure,add_none]
theorem RepL.elem {w:World} {fz:Nat→Prop} {a:Sh} {l:List a.den} {es:List Value} {b off i:Nat} (h:RepL (Rep w fz a .z) l es []) (hi:i<l.length)
  (hz:fz b) (hc:CellsAt w b off es):Rep w fz (.ptr a) .z (l.getD i a.zv) [.pointer (some ⟨b,off+i * a.size,none⟩)] []:=by
 have hlen:=h.len fun _ _ _ hr=>hr.len
 obtain⟨bn,hr,hb⟩:=h.nth a.zv hi fun _ _ _ hr=>hr.len
 have hbn:bn=[]:=List.eq_nil_iff_forall_not_mem.mpr fun i hi=>by have:=hb i hi;simp at this
 subst hbn
 exact⟨b,off+i * a.size,_,rfl,rfl,hz,hr,hc.sub (by rw[hlen];calc i * a.size+a.size=(i+1) * a.size:=by rw[Nat.add_mul];omega
  _≤_:=Nat.mul_le_mul_right _ hi)⟩
theorem elemAddr_ok {rc:Nat→RC} {ex:List Nat} {C s:St} {X:Fr} {w0:World} {ac:Act} {w:World} (h:Rel rc ex C s X w0 ac w)
  {t:TypeId} {tsh:Option Sh} (ht:∀ sh,tsh=some sh→ShOk P sh none t) {x:Val} {cs:List Value} {k:IntKind} {i:Int} {K:Val→Prop}
  (hv:VCells w (fzOf X w (ex++allB rc (s.roots++C.roots))) (getR C s) rc x cs) (hs:sameO (unmd (rowSh C s x)) tsh=true) (hl:elemAddr C s x i K) :
  ∃ c v,(∀ w',(Instr.indexAt t (packV (aggV x) cs) (.int k i)).run P w' = .ok c w')∧VOk w (fzOf X w (ex++allB rc (s.roots++C.roots))) (getR C s) rc v c∧K v:=by
 obtain⟨sh,hs1,hsh⟩:=unmd_ix ht hs
 have frozen:∀ {e:TypeId} {a:Sh} {l:List a.den} {cs:List Value},IxOk P e a t→Rep w (fzOf X w (ex++allB rc (s.roots++C.roots))) (.sl e a) .z l cs []→
   0≤i→i<l.length→∃ c,(∀ w',(Instr.indexAt t (packV false cs) (.int k i)).run P w' = .ok c w')∧
    VOk w (fzOf X w (ex++allB rc (s.roots++C.roots))) (getR C s) rc (.faddr a (l.getD i.toNat a.zv)) c:=by
  intro e a l cs hsh hr h0 h1
  obtain⟨A,cap,es,rfl,_,h2,h3,h4,h5⟩:=hr
  have hi:i.toNat<List.length l:=by omega
  rcases h5 with rfl|⟨b,off,rfl,hz,hc⟩
  · simp at hi
  · exact⟨_,run_indexAt hsh h0 h1,⟨[.pointer (some ⟨b,off+i.toNat * a.size,none⟩)],h4.elem hi hz hc,rfl⟩⟩
 cases x with
 | t sh0 oo l=>
   cases sh0<;>try (exact hl.elim)
   rename_i e a
   cases oo<;>try (exact hl.elim)
   simp only[rowSh,Option.some.injEq]at hs1;subst hs1
   simp only[elemAddr,M.need,M.bind,M.ret]at hl
   obtain⟨⟨h0,h1⟩,hk⟩:=hl
   obtain⟨c,g1,g2⟩:=frozen (hsh _ _ rfl) hv h0 h1
   exact⟨c,_,g1,g2,hk⟩
 | own key p=>
   simp only[elemAddr]at hl
   simp only[rowSh]at hs1
   cases hr:getR C s key with
   |none=>rw[hr]at hl;exact hl.elim
   | some r=>
     rw[hr]at hl hs1
     simp only at hl hs1
     cases ho:oP r.o p with
     |none=>rw[ho]at hl;exact hl.elim
     | some o=>
       rw[ho]at hl
       cases hg:getP r.s r.x p with
       |none=>rw[hg]at hl;exact hl.elim
       | some tv=>
         obtain⟨s0,l⟩:=tv
         rw[hg]at hl
         have:=getP_shP hg
         rw[hs1]at this;cases this
         cases sh<;>try (exact hl.elim)
         rename_i e a
         obtain⟨hin,_,hc,_⟩:=hv r hr
         obtain⟨cs',bs',g1,g2,_⟩:=(h.root hr).1.get hg ho hin
         rw[hc]at g1;cases g1
         cases o with
         | z=>
           simp only[M.need,M.bind,M.ret]at hl
           obtain⟨⟨h0,h1⟩,hk⟩:=hl
           have:=g2.z_nil;subst this
           obtain⟨c,k1,k2⟩:=frozen (hsh _ _ rfl) g2 h0 h1
           exact⟨c,_,k1,k2,hk⟩
         | own oa=>
           simp only[M.need,M.bind,M.ret]at hl
           obtain⟨⟨h0,h1⟩,hk⟩:=hl
           obtain⟨v,es,ebs,rfl,m1,m2⟩:=g2
           rcases m2 with⟨_,rfl,_⟩|⟨g,cap,cur,rfl,m3,m4,m5,m6,m7,rfl⟩
           · simp at h1;omega
           · refine⟨_,.eaddr key p i.toNat [],run_indexAt (hsh _ _ rfl) h0 h1,⟨[.pointer (some ⟨g,0+i.toNat * a.size,none⟩)],fun r' hr'=>?_,rfl⟩,hk⟩
             rw[hr]at hr';cases hr'
             exact⟨g,List.length l,cap,e,a,0,hin,⟨_,ho⟩,hc,hs1,by omega,by cases a<;>rfl,by simp⟩
         |_=>exact hl.elim
 | sub key p lo hi=>
   simp only[elemAddr]at hl
   simp only[rowSh]at hs1
   cases hr:getR C s key with
   |none=>rw[hr]at hl;exact hl.elim
   | some r=>
     rw[hr]at hl hs1
     simp only at hl hs1
     cases ho:oP r.o p with
     |none=>rw[ho]at hl;exact hl.elim
     | some o=>
       rw[ho]at hl
       cases o<;>try (exact hl.elim)
       rename_i oa
       cases hg:getP r.s r.x p with
       |none=>rw[hg]at hl;exact hl.elim
       | some tv=>
         obtain⟨s0,l⟩:=tv
         rw[hg]at hl
         have:=getP_shP hg
         rw[hs1]at this;cases this
         cases sh<;>try (exact hl.elim)
         rename_i e a
         simp only[M.need,M.bind,M.ret]at hl
         obtain⟨⟨h0,h1⟩,hk⟩:=hl
         obtain⟨g,n,cap,e',a',q1,q2,q3,q4,q5,q6,rfl⟩:=hv r hr
         rw[hs1]at q4
         simp only[Option.some.injEq,Sh.sl.injEq]at q4
         obtain⟨rfl,rfl⟩:=q4
         obtain⟨cs',bs',g1,g2,_⟩:=(h.root hr).1.get hg ho q1
         rw[q3]at g1;cases g1
         obtain⟨v,es,ebs,e1,m1,m2⟩:=g2
         rcases m2 with⟨rfl,_,_⟩|⟨g',cap',cur,rfl,m3,m4,m5,m6,m7,rfl⟩
         · simp at e1
         · simp only[List.cons.injEq,Value.slice.injEq,Option.some.injEq,Addr.mk.injEq,and_true]at e1
           obtain⟨rfl,rfl,rfl⟩:=e1
           have hne:¬ cap=lo:=by omega
           simp only[packV,aggV,List.headD,if_neg hne]
           refine⟨_,.eaddr key p (lo+i.toNat) [],fun w'=>run_indexAt (hsh _ _ rfl) h0 h1 w',⟨[.pointer (some ⟨g,lo * a.size+i.toNat * a.size,none⟩)],fun r' hr'=>?_,rfl⟩,hk⟩
           rw[hr]at hr';cases hr'
           exact⟨g,List.length l,cap,e,a,0,q1,q2,q3,hs1,by omega,by cases a<;>rfl,by rw[Nat.add_mul];simp⟩
 |_=>exact hl.elim
theorem run_index {t:TypeId} {k:IntKind} {i:Int} {l:List UInt8} (h:ShOk P .str none t) (h0:0≤i) (h1:i<l.length) (w:World) :
  (Instr.index t (.string ⟨l.toArray⟩) (.int k i)).run P w = .ok (.int .u8 ((l.getD i.toNat 0).toNat:Int)) w:=by
 have hi:i.toNat<l.length:=by omega
 have:((⟨l.toArray⟩:ByteArray)[i.toNat]? : Option UInt8)=some (l.getD i.toNat 0):=by
  have hs:i.toNat<(⟨l.toArray⟩:ByteArray).size:=by simpa [ByteArray.size]using hi
  rw[getElem?_pos (⟨l.toArray⟩:ByteArray) i.toNat hs]
  simp[ByteArray.getElem_eq_getElem_data,List.getD_eq_getElem?_getD,hi]
 simp[Instr.index,asIntOf,run_underlying h.1,h0,this]
theorem index_ok {fz:Nat→Prop} {R:Nat→Option Root} {rc:Nat→RC} {w:World} {x:UInt8}:VOk w fz R rc (.t (.int .u8) .z (x.toNat:Int)) (.int .u8 (x.toNat:Int)):=by
 have:=x.toNat_lt
 refine vok_int ?_ ?_
 · show(0:Int)≤_;omega
 · show(x.toNat:Int)≤255;omega
end
end Go.V
namespace Go.V
open Go
def BndV (v:Option (Option Val)) (c:Option Value):Prop:=
 (v=none∧c=none)∨∃ u c',v=some u∧c=some c'∧∀ k (x:Int),u=some (.t (.int k) .z x)→c' = .int k x
section
variable {P:Program}
theorem run_bound {v:Option (Option Val)} {c:Option Value} (h:BndV v c) {n x:Int} (e:bndV n v=some x) :
  (v=none∧c=none∧x=n)∨∃ k,c=some (.int k x):=by
 rcases h with⟨rfl,rfl⟩|⟨u,c',rfl,rfl,h⟩
 · simp[bndV]at e;exact .inl ⟨rfl,rfl,e.symm⟩
 · right
   unfold bndV at e
   split at e
   · simp at *
   · rename_i k x' hu
     simp at hu e
     subst hu
     exact⟨k,by rw[h k x' rfl];exact congrArg (fun y=>some (Value.int k y)) (Option.some.inj e)⟩
   · simp at e
theorem run_bounds (w:World) {isSlice:Bool} {len cap:Nat} {lo hi:Option (Option Val)} {clo chi:Option Value} (hlo:BndV lo clo) (hhi:BndV hi chi) {l h:Int}
  (e:sliceBnd len lo hi=some (l,h)) (h0:0≤l) (h1:l≤h) (h2:h≤len) (h3:len≤cap) :
  (Instr.sliceBounds isSlice len cap clo chi none).run P w = .ok (l.toNat,h.toNat,cap) w:=by
 unfold sliceBnd at e
 split at e
 · rename_i l' h' e1 e2
   simp at e
   obtain⟨rfl,rfl⟩:=e
   rcases run_bound hlo e1 with⟨rfl,rfl,rfl⟩|⟨k,rfl⟩<;>rcases run_bound hhi e2 with⟨rfl,rfl,rfl⟩|⟨j,rfl⟩
   · simp[Instr.sliceBounds]
   · have:(0≤h'∧h'≤(cap:Int)):=⟨by omega,by omega⟩
     simp[Instr.sliceBounds,Instr.sliceBound,asIntOf,this]
   · have:(0≤l'∧l'≤(len:Int)):=⟨by omega,by omega⟩
     simp[Instr.sliceBounds,Instr.sliceBound,asIntOf,this]
   · have:(0≤h'∧h'≤(cap:Int)):=⟨by omega,by omega⟩
     have h4:(0≤l'∧l'≤((h'.toNat:Nat):Int)):=⟨by omega,by omega⟩
     simp only[Instr.sliceBounds,Instr.sliceBound,asIntOf,Sem.run_bind,Sem.run_pure,Result.andThen_ok,this,and_self,if_true,h4]
 · simp at e
theorem ba_len (l:List UInt8):(⟨l.toArray⟩:ByteArray).size=l.length:=by simp[ByteArray.size]
theorem ba_cut (l:List UInt8) (n m:Nat):(⟨l.toArray⟩:ByteArray).extract n m=⟨((l.take m).drop n).toArray⟩:=by
 apply ByteArray.ext
 simp[ByteArray.data_extract,List.extract_eq_take_drop,List.drop_take]
theorem cutS_ok {w:World} {fz:Nat→Prop} {R:Nat→Option Root} {rc:Nat→RC} {t:TypeId} (ht:ShOk P .str none t) {l:List UInt8} {lo hi:Option (Option Val)} {clo chi:Option Value} (hlo:BndV lo clo) (hhi:BndV hi chi)
  {a b:Int} (e:sliceBnd l.length lo hi=some (a,b)) (h0:0≤a) (h1:a≤b) (h2:b≤l.length) (hl:l.length≤maxLen) :
  ∃ c,(∀ w',(Instr.sliceAt t (.string ⟨l.toArray⟩) clo chi none).run P w' = .ok c w')∧VOk w fz R rc (.t .str .z ((l.take b.toNat).drop a.toNat)) c:=by
 have hb:=fun w=>run_bounds (P:=P) w (isSlice:=false) hlo hhi e h0 h1 h2 (Nat.le_refl _)
 have hsz:=ba_len l
 refine⟨.string ⟨((l.take b.toNat).drop a.toNat).toArray⟩,fun w=>?_,vok_str (by simp;omega)⟩
 simp only[Instr.sliceAt,Instr.slice,Sem.run_bind,run_underlying ht.1,Result.andThen_ok,Option.isSome,hsz]
 simp only[Bool.false_eq_true,if_false,Sem.run_bind,hb,Result.andThen_ok,Sem.run_pure,ba_cut]
theorem cutR_ok {w:World} {fz:Nat→Prop} {R:Nat→Option Root} {rc:Nat→RC} {t:TypeId} {e:TypeId} {sh:Sh} (ht:ShOk P (.sl e sh) none t) {l:List sh.den} {cs:List Value} (hr:Rep w fz (.sl e sh) .z l cs [])
  {lo hi:Option (Option Val)} {clo chi:Option Value} (hlo:BndV lo clo) (hhi:BndV hi chi)
  {a b:Int} (eb:sliceBnd l.length lo hi=some (a,b)) (h0:0≤a) (h1:a≤b) (h2:b≤l.length) :
  ∃ c,(∀ w',(Instr.sliceAt t (packV false cs) clo chi none).run P w' = .ok c w')∧VOk w fz R rc (.t (.sl e sh) .z ((l.take b.toNat).drop a.toNat)) c:=by
 obtain⟨A,cap,es,rfl,_,k1,k2,k3,k4⟩:=hr
 obtain⟨g1,_,g3,g4,_⟩:=ht
 have hb:=fun w=>run_bounds (P:=P) w (isSlice:=true) hlo hhi eb h0 h1 h2 k1
 have hlen:=k3.len fun _ _ _ hr=>hr.len
 have hlen2:((l.take b.toNat).drop a.toNat).length=b.toNat - a.toNat:=by simp;omega
 refine⟨.slice (if cap=a.toNat then A else A.map (·.add (a.toNat * sh.size))) (b.toNat - a.toNat) (cap - a.toNat),fun w'=>?_,
  ⟨[.slice (if cap=a.toNat then A else A.map (·.add (a.toNat * sh.size))) (List.length ((l.take b.toNat).drop a.toNat)) (cap - a.toNat)],
    ⟨if cap=a.toNat then A else A.map (·.add (a.toNat * sh.size)),cap - a.toNat,(es.drop (a.toNat * sh.size)).take ((b.toNat - a.toNat) * sh.size),rfl,rfl,?_,?_,?_,?_⟩,?_⟩⟩
 · simp only[Instr.sliceAt,Instr.slice,Sem.run_bind,run_underlying g1,Result.andThen_ok,packV,List.headD,hb,g4.run_size,Sem.run_pure]
 · rw[show List.length ((l.take b.toNat).drop a.toNat)=b.toNat - a.toNat from hlen2];omega
 · omega
 · exact k3.cut (fun _ _ _ hr=>hr.len) (by omega) (by omega)
 · by_cases hc:cap=a.toNat
   · left;exact List.eq_nil_of_length_eq_zero (by rw[hlen2];omega)
   · rcases k4 with rfl|⟨g,off,rfl,hz,hcc⟩
     · left;show List.drop a.toNat (List.take b.toNat [])=[];simp
     · by_cases he:b.toNat - a.toNat=0
       · left;exact List.eq_nil_of_length_eq_zero (by rw[hlen2];omega)
       · right
         refine⟨g,off+a.toNat * sh.size,by simp[hc,add_none],hz,hcc.sub ?_⟩
         rw[hlen]
         have:=Nat.mul_le_mul_right sh.size (show b.toNat≤List.length l by omega)
         rw[←Nat.add_mul]
         refine Nat.le_trans (Nat.mul_le_mul_right _ ?_) this
         omega
 · rw[show List.length ((l.take b.toNat).drop a.toNat)=b.toNat - a.toNat from hlen2];rfl
end
end Go.V
namespace Go.V
open Go
def OpPost (C:St) (X:Fr) (w0:World) (a:Act) (K:Val×St→Prop) (c:Value) (w':World):Prop:=
 ∃ v s1 rc1,K (v,s1)∧Rel rc1 [] C s1 X w0 a w'∧VOk w' (fzOf X w' ([]++allB rc1 (s1.roots++C.roots))) (getR C s1) rc1 v c
section
variable {P:Program} {E:Env} {C s:St} {X:Fr} {w0 w:World} {a:Act} {rc:Nat→RC} {o:Oper} {d:Nat} {K:Val×St→Prop}
def PureOk (P:Program) (o:Oper) (C s:St) (X:Fr) (w:World) (a:Act) (rc:Nat→RC) (K:Val×St→Prop) (Sw:World→Prop):Prop:=
 ∃ c v,(∀ w',Sw w'→(execOp a.eval o).run P w' = .ok (.value c) w')∧K (v,s)∧VOk w (fzOf X w ([]++allB rc (s.roots++C.roots))) (getR C s) rc v c
theorem PureOk.runs {Sw:World→Prop} (hp:PureOk P o C s X w a rc K Sw) (h:Rel rc [] C s X w0 a w) (hw:Sw w):Runs P o a w (OpPost C X w0 a K):=by
 obtain⟨c,v,hr,hk,hv⟩:=hp
 exact Runs.value (hr w hw) ⟨v,s,rc,hk,h,hv⟩
theorem pure_runs {Sw:World→Prop} {c:Value} {v:Val} (hr:∀ w',Sw w'→(execOp a.eval o).run P w' = .ok (.value c) w')
  (hv:VOk w (fzOf X w ([]++allB rc (s.roots++C.roots))) (getR C s) rc v c) (hk:K (v,s)):PureOk P o C s X w a rc K Sw:=
 ⟨c,v,hr,hk,hv⟩
theorem bind_v {α:Type} {f:Sem α} {g:α→Sem Value} {c:α} {w1:World} (h:f.run P w = .ok c w1):(f >>= g).run P w=(g c).run P w1:=by
 simp[Sem.run_bind,h]
theorem val_run {f:Sem Value} {c:Value} {w1:World} (h:f.run P w = .ok c w1):(do pure (Next.value (← f)):Sem Next).run P w = .ok (.value c) w1:=by
 simp[Sem.run_bind,h]
theorem move_ok (h:Rel rc [] C s X w0 a w) {x:Operand} (ho:o.op = .move x∨o.op = .assign x) (hk:opV E C o d s K):PureOk P o C s X w a rc K (fun _=>True):=by
 cases hx:evalV C s (E.sh o.type) x with
 |none=>rcases ho with ho|ho<;>simp only[opV,ho,hx]at hk<;>exact hk.elim
 | some v=>
   have hk:K (v,s):=by rcases ho with ho|ho<;>simp only[opV,ho,hx]at hk<;>exact hk
   exact pure_runs (fun w' _=>by rcases ho with ho|ho<;>simp[execOp,ho]) (evalV_ok h hx) hk
theorem pick_ok (h:Rel rc [] C s X w0 a w) {x y z:Operand} (ho:o.op = .pick x y z) (hk:opV E C o d s K):PureOk P o C s X w a rc K (fun _=>True):=by
 simp only[opV,ho]at hk
 cases hb:evalV C s (some .bool) x with
 |none=>rw[hb]at hk;exact hk.elim
 | some v=>
   rw[hb]at hk
   cases v with
   | t sh oo b=>
     cases sh<;>try (exact hk.elim)
     cases oo<;>try (exact hk.elim)
     have hc:=VOk.bool (evalV_ok h hb)
     simp only[M.branch,M.bind]at hk
     have hk:bcase b ((match evalV C s (E.sh o.type) y with|some v=>M.ret (v,s)|none=>M.fail) K) ((match evalV C s (E.sh o.type) z with|some v=>M.ret (v,s)|none=>M.fail) K):=hk
     cases b with
     | true=>
       simp only[bcase]at hk
       cases hv:evalV C s (E.sh o.type) y with
       |none=>rw[hv]at hk;exact hk.elim
       |some v=>rw[hv]at hk;exact pure_runs (c:=a.eval y) (fun w' _=>by simp[execOp,ho,hc,asBool]) (evalV_ok h hv) hk
     | false=>
       simp only[bcase]at hk
       cases hv:evalV C s (E.sh o.type) z with
       |none=>rw[hv]at hk;exact hk.elim
       |some v=>rw[hv]at hk;exact pure_runs (c:=a.eval z) (fun w' _=>by simp[execOp,ho,hc,asBool]) (evalV_ok h hv) hk
   |_=>exact hk.elim
theorem load_ok (hE:∀ t s,E.sh t=some s→ShOk P s none t) (h:Rel rc [] C s X w0 a w) {t:TypeId} {x:Operand} (ho:o.op = .load t x) (hk:opV E C o d s K) {F:Nat→Prop} (hF:∀ b,fzOf X w ([]++allB rc (s.roots++C.roots)) b→F b)
  (hF2:∀ v,evalV C s none x=some v→∀ k∈keys v,∀ r,getR C s k=some r→∀ b∈blocks r (rc k),F b):PureOk P o C s X w a rc K (fun w'=>∀ b,F b→w'.heap[b]? = w.heap[b]?):=by
 simp only[opV,ho]at hk
 cases hv:evalV C s none x with
 |none=>rw[hv]at hk;exact hk.elim
 | some v=>
   rw[hv]at hk
   cases hl:loadV C s (E.sh t) v with
   |none=>simp only[hl]at hk;exact hk.elim
   | some u=>
     simp only[hl]at hk
     have hx:=evalV_ok h hv
     have hne:(∀ a b,v≠.tup a b)∧v≠.tnil∧v≠.undef:=by
      refine⟨fun a b=>?_,?_,?_⟩<;>rintro rfl<;>simp[loadV]at hl
     obtain⟨cs,h1,h2⟩:=hx.cells hne.1 hne.2.1 hne.2.2
     obtain⟨c,g1,g2⟩:=loadV_ok (P:=P) h (hE t) h1 hl hF (hF2 v hv)
     rw[←h2]at g1
     exact pure_runs (fun w' hw=>by rw[execOp];simp only[ho];exact val_run (g1 w' hw)) g2 hk
theorem nilCheck_ok (h:Rel rc [] C s X w0 a w) {x:Operand} (ho:o.op = .nilCheck x) (hk:opV E C o d s K):PureOk P o C s X w a rc K (fun _=>True):=by
 simp only[opV,ho]at hk
 have fin:∀ {v:Val} {A:Addr},a.eval x = .pointer (some A)→evalV C s none x=some v→K (v,s)→PureOk P o C s X w a rc K (fun _=>True):=by
  intro v A e hv hk
  refine pure_runs (c:=a.eval x) ?_ (evalV_ok h hv) hk
  intro w' _
  simp[execOp,ho,e]
 cases hv:evalV C s none x with
 |none=>rw[hv]at hk;exact hk.elim
 | some v=>
   rw[hv]at hk
   cases v with
   | baddr k p=>
     obtain⟨cs,h1,h2⟩:=evalV_ok h hv
     simp only at hk
     cases hr:getR C s k with
     |none=>rw[hr]at hk;exact hk.elim
     | some r=>
       rw[hr]at hk
       simp only[Option.map_some]at hk
       cases hb:r.box with
       |false=>rw[hb]at hk;exact hk.elim
       | true=>
         rw[hb]at hk
         obtain⟨off,_,rfl⟩:=h1 r hr hb
         exact fin h2 hv hk
   | t sh oo y=>
     cases sh<;>try (exact hk.elim)
     cases oo<;>try (exact hk.elim)
     obtain⟨cs,⟨b,off,es,rfl,_⟩,h2⟩:=evalV_ok h hv
     exact fin h2 hv hk
   | faddr sh y=>
     obtain⟨cs,⟨b,off,es,rfl,_⟩,h2⟩:=evalV_ok h hv
     exact fin h2 hv hk
   |_=>exact hk.elim
theorem fieldAddr_ok (hE:∀ t s,E.sh t=some s→ShOk P s none t) (h:Rel rc [] C s X w0 a w) {t:TypeId} {x:Operand} {n:Nat} (ho:o.op = .fieldAddr t x n) (hk:opV E C o d s K):PureOk P o C s X w a rc K (fun _=>True):=by
 simp only[opV,ho]at hk
 cases hv:evalV C s none x with
 |none=>rw[hv]at hk;exact hk.elim
 | some v=>
   simp only[hv]at hk
   cases hs:sameO (addrSh C s v) (E.sh t)with
   |false=>rw[hs]at hk;exact hk.elim
   | true=>
     cases hp:(E.sh t).bind (fun sh=>shP sh (fieldPath n))with
     |none=>rw[hs,hp]at hk;exact hk.elim
     | some s'=>
       cases hl:fieldA v n with
       |none=>rw[hs,hp,hl]at hk;exact hk.elim
       | some u=>
         rw[hs,hp,hl]at hk
         have hx:=evalV_ok h hv
         have hne:(∀ a b,v≠.tup a b)∧v≠.tnil∧v≠.undef:=by
          refine⟨fun a b=>?_,?_,?_⟩<;>rintro rfl<;>simp[fieldA]at hl
         obtain⟨cs,h1,h2⟩:=hx.cells hne.1 hne.2.1 hne.2.2
         obtain⟨sh,e1,e2⟩:=Option.bind_eq_some_iff.mp hp
         obtain⟨c,g1,g2⟩:=fieldA_ok (P:=P) h (hE t) h1 hs hl ⟨sh,s',e1,e2⟩
         rw[←h2]at g1
         exact pure_runs (fun w' _=>by rw[execOp];simp only[ho];exact val_run (g1 w')) g2 hk
theorem compT_ok {ex:List Nat} (h:Rel rc ex C s X w0 a w):∀ {n:Nat} {v u:Val} {sh:Sh} {off:Nat} {ccs:List Value},compT n v=some u→shV C s v=some sh→locP sh (fieldPath n)=some off→
  VCells w (fzOf X w (ex++allB rc (s.roots++C.roots))) (getR C s) rc v ccs→∃ pre c' post,ccs=pre++(c'++post)∧pre.length=off∧VCells w (fzOf X w (ex++allB rc (s.roots++C.roots))) (getR C s) rc u c':=by
 intro n
 induction n with
 | zero=>
   intro v u sh off ccs hc hs hl hv
   cases v with
   | pair x y=>
     simp only[compT,Option.some.injEq]at hc
     subst hc
     exact comp_ok h (n:=0) (v:=.pair x y) rfl hs hl hv
   | t sh0 oo x=>
     cases sh0<;>try (simp[compT]at hc;done)
     cases oo<;>try (simp[compT]at hc;done)
     simp only[compT,Option.some.injEq]at hc
     subst hc
     obtain⟨c1,c2,rfl,_,h1,h2⟩:=hv
     simp only[shV,Option.some.injEq]at hs
     subst hs
     simp only[fieldPath,locP,Option.some.injEq]at hl
     refine⟨[],c1,c2,rfl,?_,h1⟩
     revert hl
     rename_i sx sy _
     cases sx<;>simp[locP]
   |_=>simp[compT]at hc
 | succ n ih=>
   intro v u sh off ccs hc hs hl hv
   cases v with
   | pair x y=>
     simp only[compT]at hc
     obtain⟨c1,c2,rfl,h1,h2⟩:=hv
     simp only[shV]at hs
     split at hs
     · rename_i sx sy ex ey
       cases hs
       obtain⟨hlen,_⟩:=VCells.len' h h1 ex
       simp only[fieldPath,locP]at hl
       cases hl2:locP sy (fieldPath n)with
       |none=>rw[hl2]at hl;simp at hl
       | some o2=>
         rw[hl2]at hl
         simp at hl
         obtain⟨pre,c',post,rfl,hp,hu⟩:=ih hc ey hl2 h2
         exact⟨c1++pre,c',post,by simp,by simp[hlen,hp];omega,hu⟩
     · simp at hs
   | t sh0 oo x=>
     cases sh0<;>try (simp[compT]at hc;done)
     cases oo<;>try (simp[compT]at hc;done)
     rename_i sx sy
     simp only[compT]at hc
     obtain⟨c1,c2,rfl,_,h1,h2⟩:=hv
     simp only[shV,Option.some.injEq]at hs
     subst hs
     have hlen:=h1.len
     simp only[fieldPath,locP]at hl
     cases hl2:locP sy (fieldPath n)with
     |none=>rw[hl2]at hl;simp at hl
     | some o2=>
       rw[hl2]at hl
       simp at hl
       obtain⟨pre,c',post,rfl,hp,hu⟩:=ih hc (sh:=sy) rfl hl2 h2
       exact⟨c1++pre,c',post,by simp,by simp[hlen,hp];omega,hu⟩
   |_=>simp[compT]at hc
theorem run_field {n:Nat} {s s':Sh} {t:TypeId} (h:ShOk P s none t) (hs:shP s (fieldPath n)=some s') {pre c' post:List Value} (hl:c'.length=s'.size) (hp:locP s (fieldPath n)=some pre.length) (hag:aggS s'=false→∃ c,c'=[c]) (w:World) :
  (Instr.field t (.agg (pre++(c'++post)).toArray) n).run P w = .ok (packV (aggS s') c') w:=by
 cases s<;>try (cases n<;>simp[fieldPath,shP]at hs;done)
 rename_i a c
 obtain⟨fs,f,l,h1,_,h2,h3,h4,h5,h6⟩:=h
 have hall:ShOk P (.pair a c) (some (fs.toList,0)) t:=⟨f,l,h2,h3,h4,h5,by simpa using h6⟩
 obtain⟨f',off,g1,g2,g3,g4,g5⟩:=hall.fields hs
 rw[hp]at g4
 cases g4
 have hf:fs[n]? = some f':=by rw[←g1,Array.getElem?_toList]
 simp only[Instr.field,asAgg,part,Sem.run_bind,Sem.run_pure,run_underlying h1,Result.andThen_ok,hf,g2.run_isAgg,g5,Nat.zero_add]
 cases ha:aggS s' with
 | true=>
   simp only[if_true,Sem.run_bind,g2.run_size,Result.andThen_ok,Sem.run_pure,packV]
   congr 2
   apply Array.ext'
   simp[List.extract_eq_take_drop,←hl]
 | false=>
   obtain⟨c,rfl⟩:=hag ha
   simp[packV]
theorem field_ok (hE:∀ t s,E.sh t=some s→ShOk P s none t) (h:Rel rc [] C s X w0 a w) {t:TypeId} {x:Operand} {n:Nat} (ho:o.op = .field t x n) (hk:opV E C o d s K):PureOk P o C s X w a rc K (fun _=>True):=by
 simp only[opV,ho]at hk
 cases hv:evalV C s none x with
 |none=>rw[hv]at hk;exact hk.elim
 | some v=>
   simp only[hv]at hk
   cases hs:sameO (shV C s v) (E.sh t)with
   |false=>rw[hs]at hk;exact hk.elim
   | true=>
     cases hp:(E.sh t).bind (fun sh=>shP sh (fieldPath n))with
     |none=>rw[hs,hp]at hk;exact hk.elim
     | some s'=>
       cases hl:compT n v with
       |none=>rw[hs,hp,hl]at hk;exact hk.elim
       | some u=>
         rw[hs,hp,hl]at hk
         simp only at hk
         cases hu:sameO (shV C s u) (some s')with
         |false=>rw[hu]at hk;exact hk.elim
         | true=>
           rw[hu]at hk
           have hx:=evalV_ok h hv
           have hne:(∀ a b,v≠.tup a b)∧v≠.tnil∧v≠.undef:=by
            refine⟨fun a b=>?_,?_,?_⟩<;>rintro rfl<;>cases n<;>simp[compT]at hl
           obtain⟨cs,h1,h2⟩:=hx.cells hne.1 hne.2.1 hne.2.2
           obtain⟨sh,e1,e2⟩:=Option.bind_eq_some_iff.mp hp
           obtain⟨sh',q1,q2⟩:=sameO_eq hs
           rw[e1]at q2
           cases q2
           obtain⟨s'',q3,q4⟩:=sameO_eq hu
           cases q4
           obtain⟨off,g1⟩:∃ off,locP sh (fieldPath n)=some off:=by
            obtain⟨off,g1,_⟩:=run_fieldAt (hE t sh e1) e2 0 0
            exact⟨off,g1⟩
           obtain⟨pre,c',post,rfl,hpl,hc⟩:=compT_ok h hl q1 g1 h1
           obtain⟨l1,l2⟩:=VCells.len' h hc q3
           obtain⟨_,l4⟩:=VCells.len' h h1 q1
           have hagg:aggV v=true:=by
            rw[l4]
            cases sh<;>first
             |rfl
             |(cases n<;>simp[fieldPath,shP]at e2)
           have hne2:=shV_plain q3
           have hok:VOk w (fzOf X w ([]++allB rc (s.roots++C.roots))) (getR C s) rc u (packV (aggV u) c'):=VOk.of hc hne2
           rw[l2]at hok
           rw[hagg]at h2
           have hag:aggS s'=false→∃ c,c'=[c]:=by
            intro ha
            rw[aggS_size ha]at l1
            exact List.length_eq_one_iff.mp l1
           have hg1:locP sh (fieldPath n)=some pre.length:=by rw[hpl];exact g1
           have hrun:∀ w',(Instr.field t (a.eval x) n).run P w' = .ok (packV (aggS s') c') w':=fun w'=>by
            rw[h2]
            exact run_field (hE t sh e1) e2 l1 hg1 hag w'
           exact pure_runs (fun w' _=>by rw[execOp];simp only[ho];exact val_run (hrun w')) hok hk
theorem indexAddr_ok (hE:∀ t s,E.sh t=some s→ShOk P s none t) (h:Rel rc [] C s X w0 a w) {t:TypeId} {x i:Operand} (ho:o.op = .indexAddr t x i) (hk:opV E C o d s K):PureOk P o C s X w a rc K (fun _=>True):=by
 simp only[opV,ho]at hk
 cases hv:evalV C s none x with
 |none=>rw[hv]at hk;exact hk.elim
 | some v=>
   cases hi:evalV C s none i with
   |none=>rw[hv,hi]at hk;exact hk.elim
   | some iv=>
     rw[hv,hi]at hk
     cases iv with
     | t sh oo n=>
       cases sh<;>try (exact hk.elim)
       cases oo<;>try (exact hk.elim)
       simp only at hk
       cases hs:sameO (unmd (rowSh C s v)) (E.sh t)with
       |false=>rw[hs]at hk;exact hk.elim
       | true=>
         simp only[hs,M.bind]at hk
         obtain⟨hn,_,_⟩:=VOk.int (evalV_ok h hi)
         have hx:=evalV_ok h hv
         have hne:(∀ a b,v≠.tup a b)∧v≠.tnil∧v≠.undef:=by
          refine⟨fun a b=>?_,?_,?_⟩<;>rintro rfl<;>exact hk.elim
         obtain⟨cs,h1,h2⟩:=hx.cells hne.1 hne.2.1 hne.2.2
         obtain⟨c,u,g1,g2,g3⟩:=elemAddr_ok (P:=P) h (hE t) h1 hs hk
         rw[←h2]at g1
         exact pure_runs (fun w' _=>by rw[execOp];simp only[ho,hn];exact val_run (g1 w')) g2 g3
     |_=>exact hk.elim
theorem index_runs (hE:∀ t s,E.sh t=some s→ShOk P s none t) (h:Rel rc [] C s X w0 a w) {t:TypeId} {x i:Operand} (ho:o.op = .index t x i) (hk:opV E C o d s K):PureOk P o C s X w a rc K (fun _=>True):=by
 simp only[opV,ho]at hk
 cases hv:evalV C s none x with
 |none=>rw[hv]at hk;exact hk.elim
 | some v=>
   cases hi:evalV C s none i with
   | none=>
     rw[hv,hi]at hk
     cases v with
     |t sh oo l=>cases sh<;>cases oo<;>exact hk.elim
     |_=>exact hk.elim
   | some iv=>
     rw[hv,hi]at hk
     cases v with
     | t sh oo l=>
       cases sh<;>try (exact hk.elim)
       cases oo<;>try (exact hk.elim)
       cases iv with
       | t sh oo n=>
         cases sh<;>try (exact hk.elim)
         cases oo<;>try (exact hk.elim)
         cases hs:same .str (E.sh t)with
         |false=>rw[hs]at hk;exact hk.elim
         | true=>
           simp only[hs,M.need,M.bind,M.ret]at hk
           obtain⟨⟨h0,h1⟩,hk⟩:=hk
           obtain⟨hn,_,_⟩:=VOk.int (evalV_ok h hi)
           obtain⟨hx,_⟩:=VOk.str (evalV_ok h hv)
           exact pure_runs (fun w' _=>by rw[execOp];simp only[ho,hn,hx];exact val_run (run_index (hE t _ (same_eq hs)) h0 h1 w')) index_ok hk
       |_=>exact hk.elim
     |_=>exact hk.elim
theorem nth_ok {fz:Nat→Prop} {R:Nat→Option Root}:∀ {n:Nat} {v u:Val} {l:List Value},VOk w fz R rc v (.tuple (List.toArray l))→nth v n=some u→∃ c,l[n]? = some c∧VOk w fz R rc u c:=by
 intro n
 induction n with
 | zero=>
   intro v u l h hn
   cases v<;>simp[nth]at hn
   subst hn
   obtain⟨c,vs,e,h1,h2⟩:=h
   simp at e;subst e
   exact⟨c,by simp,h1⟩
 | succ n ih=>
   intro v u l h hn
   cases v<;>simp[nth]at hn
   obtain⟨c,vs,e,h1,h2⟩:=h
   simp at e;subst e
   obtain⟨c',g1,g2⟩:=ih h2 hn
   exact⟨c',by simpa using g1,g2⟩
theorem extract_ok (h:Rel rc [] C s X w0 a w) {x:Operand} {n:Nat} (ho:o.op = .extract x n) (hk:opV E C o d s K):PureOk P o C s X w a rc K (fun _=>True):=by
 simp only[opV,ho]at hk
 cases hv:evalV C s none x with
 |none=>rw[hv]at hk;exact hk.elim
 | some v=>
   simp only[hv]at hk
   cases hn:nth v n with
   |none=>rw[hn]at hk;exact hk.elim
   | some u=>
     rw[hn]at hk
     have hx:=evalV_ok h hv
     obtain⟨l,hl⟩:∃ l,a.eval x = .tuple (List.toArray l):=by
      cases v<;>try (cases n<;>simp[nth]at hn;done)
      obtain⟨c,vs,e,_⟩:=hx
      exact⟨_,e⟩
     rw[hl]at hx
     obtain⟨c,g1,g2⟩:=nth_ok hx hn
     exact pure_runs (c:=c) (fun w' _=>by simp[execOp,ho,hl,Instr.extract,g1]) g2 hk
end
end Go.V
namespace Go.V
open Go
section
variable {P:Program} {E:Env} {C s:St} {X:Fr} {w0 w:World} {a:Act} {rc:Nat→RC} {o:Oper} {d:Nat} {K:Val×St→Prop}
theorem run_equalIn_bool {n:Nat} {t:TypeId} (h:P.underlying t=some .bool) (x y:Bool) (w:World):(Op.equalIn (n+1) t (.bool x) (.bool y)).run P w = .ok (x == y) w:=by
 simp[Op.equalIn,run_underlying h]
theorem run_equal_bool {t:TypeId} (h:P.underlying t=some .bool) (x y:Bool) (w:World):(Op.equal t (.bool x) (.bool y)).run P w = .ok (x == y) w:=run_equalIn_bool (n:=9999) h x y w
theorem run_binBool {t:TypeId} (h:P.underlying t=some .bool) (x y:Bool) (w:World) :
  (binOp .eql t (.bool x) (.bool y)).run P w = .ok (.bool (x == y)) w∧(binOp .neq t (.bool x) (.bool y)).run P w = .ok (.bool (!(x == y))) w:=by
 simp only[binOp]
 simp[run_equal_bool h]
theorem eqGuard_sl (op:BinOp) (t:TypeId) (x y:Operand) (A B:Option Addr) (n m i j:Nat) (w:World) :
  (eqGuard op t x y (.slice A n m) (.slice B i j)).run P w = .ok () w:=by
 unfold eqGuard
 cases op<;>simp[pure]<;>rfl
theorem run_binNil {t e:TypeId} (h:P.underlying t=some (.slice e)) (A:Option Addr) (n m:Nat) (w:World) :
  (binOp .eql t (.slice A n m) (.slice none 0 0)).run P w = .ok (.bool A.isNone) w∧(binOp .neq t (.slice A n m) (.slice none 0 0)).run P w = .ok (.bool (!A.isNone)) w:=by
 simp only[binOp]
 simp[run_equal_slice_nil w t e A n m h]
theorem binV_ok {fz:Nat→Prop} {R:Nat→Option Root} {op:BinOp} {t:TypeId} {X Y:Operand} {u v:Val} {cu cv:Value} {K:Val→Prop} {tsh:Option Sh} (ht:∀ s,tsh=some s→ShOk P s none t)
  (hu:VOk w fz R rc u cu) (hv:VOk w fz R rc v cv) (hb:binOk tsh u=true) (hk:binV op u v K) :
  ∃ c r,(∀ w',(do eqGuard op t X Y cu cv;binOp op t cu cv:Sem Value).run P w' = .ok c w')∧VOk w fz R rc r c∧K r:=by
 cases u with
 | t su ou x=>
   cases v with
   | t sv ov y=>
     cases su with
     | int k=>
       cases ou<;>try (exact hk.elim)
       cases sv<;>try (exact hk.elim)
       rename_i j
       cases ov<;>try (exact hk.elim)
       obtain⟨rfl,h1,h2⟩:=hu.int
       obtain⟨rfl,h3,h4⟩:=hv.int
       have fin:(∃ c r,(∀ w',(binOp op t (.int k x) (.int j y)).run P w' = .ok c w')∧VOk w fz R rc r c∧K r)→
         ∃ c r,(∀ w',(do eqGuard op t X Y (.int k x) (.int j y);binOp op t (.int k x) (.int j y):Sem Value).run P w' = .ok c w')∧VOk w fz R rc r c∧K r:=by
        rintro⟨c,r,g1,g2⟩
        exact⟨c,r,fun w'=>(bind_v (eqGuard_int op t X Y k j x y)).trans (g1 w'),g2⟩
       apply fin
       by_cases hs:op = .shl∨op = .shr
       · have hk:shiftOp op k x y K:=by rcases hs with rfl|rfl<;>exact hk
         exact shiftOp_ok t ⟨h1,h2⟩ hk
       · have hk:(match decEq k j with | .isTrue _=>intOp op k x y | .isFalse _=>M.fail) K:=by
          cases op<;>first|exact hk|(simp at hs)
         cases hd:decEq k j with
         |isTrue e=>rw[hd]at hk;subst e;exact intOp_ok t ⟨h1,h2⟩ hk
         |isFalse e=>rw[hd]at hk;exact hk.elim
     | str=>
       cases ou<;>try (exact hk.elim)
       cases sv<;>try (exact hk.elim)
       cases ov<;>try (exact hk.elim)
       obtain⟨rfl,h1⟩:=hu.str
       obtain⟨rfl,h3⟩:=hv.str
       obtain⟨c,r,g1,g2⟩:=strOp_ok (P:=P) (w:=w) (fz:=fz) (R:=R) (rc:=rc) t hk
       exact⟨c,r,fun w'=>(bind_v (eqGuard_str op t X Y _ _)).trans (g1 w'),g2⟩
     | bool=>
       cases ou<;>try (exact hk.elim)
       cases sv<;>try (exact hk.elim)
       cases ov<;>try (exact hk.elim)
       have h1:=hu.bool;have h3:=hv.bool
       subst h1;subst h3
       have htb:tsh=some .bool:=by
        unfold binOk at hb
        split at hb<;>simp_all
        split at hb<;>simp_all
       have hsh:=(ht _ htb).1
       cases op<;>try (exact hk.elim)
       · exact⟨.bool ((show Bool from x) == (show Bool from y)),_,fun w'=>(bind_v (eqGuard_bool _ t X Y _ _)).trans (run_binBool hsh x y w').1,vok_bool,hk⟩
       · exact⟨.bool (!((show Bool from x) == (show Bool from y))),_,fun w'=>(bind_v (eqGuard_bool _ t X Y _ _)).trans (run_binBool hsh x y w').2,vok_bool,hk⟩
     |_=>cases ou<;>exact hk.elim
   |_=>cases su<;>cases ou<;>exact hk.elim
 |_=>exact hk.elim
theorem isNil_eq {y:Operand} (h:isNil y=true):y = .const (.slice none 0 0):=by
 unfold isNil at h
 split at h
 · rfl
 · simp at h
theorem sl_cells {fz:Nat→Prop} {e:TypeId} {sh:Sh} {l:List sh.den} {cs:List Value} (h:Rep w fz (.sl e sh) .z l cs []) :
  ∃ A n cap,cs=[.slice A n cap]∧n=l.length∧(A=none→l=[]):=by
 obtain⟨A,cap,es,rfl,_,_,_,_,h5⟩:=h
 refine⟨A,_,cap,rfl,rfl,fun e=>?_⟩
 rcases h5 with h|⟨b,off,rfl,_⟩
 · exact h
 · simp at e
theorem view_true (h:Rel rc [] C s X w0 a w) {v:Val} {cs:List Value} {sh:Sh} {x:sh.den} (hv:VCells w (fzOf X w ([]++allB rc (s.roots++C.roots))) (getR C s) rc v cs) (hw:view C s v=some ⟨sh,x⟩) :
 Rep w (fun _=>True) sh .z x cs []:=view_ok h (fun _ _=>trivial) hv.vc0 hw (fun _ _ _ _ _ _=>trivial) fun _ _ _ _ _=>trivial
theorem view_plain {v:Val} {tv:TV} (hw:view C s v=some tv):(∀ a b,v≠.tup a b)∧v≠.tnil∧v≠.undef:=by
 refine⟨fun a b=>?_,?_,?_⟩<;>rintro rfl<;>simp[view]at hw
theorem view_agg {v:Val} {e:TypeId} {sh:Sh} {l:List sh.den} (hw:view C s v=some ⟨.sl e sh,l⟩):aggV v=false:=by
 cases v<;>first
  |rfl
  | (simp only[view]at hw;split at hw<;>simp at hw
     obtain⟨rfl,_⟩:=hw;rfl)
  |(simp only[view]at hw;split at hw<;>first|(simp at hw;done)|cases hw)
theorem view_aggp {fz:Nat→Prop} {v:Val} {cs:List Value} (hv:VCells w fz (getR C s) rc v cs) {p q:Sh} {x:(Sh.pair p q).den} (hw:view C s v=some ⟨.pair p q,x⟩):aggV v=true:=by
 cases v with
 | t sh o y=>
   simp only[view]at hw
   split at hw
   · have:=congrArg (fun u=>u.map (·.1)) hw
     simp only[Option.map_some,Option.some.injEq]at this
     subst this
     rfl
   · simp at hw
 | own k pa=>
   simp only[view]at hw
   split at hw
   · rename_i r hr
     split at hw
     · split at hw
       · obtain⟨_,_,_,e,a,he⟩:=hv r hr
         have:=getP_shP hw
         rw[he]at this;cases this
       · simp at hw
     · simp at hw
   · simp at hw
 |pair a b=>rfl
 | baddr k pa=>
   simp only[view]at hw
   split at hw
   · split at hw
     · split at hw
       · split at hw
         · have:=congrArg (fun u=>u.map (·.1)) hw
           simp at this
         · simp at hw
       · split at hw
         · generalize hole _ _ _=z at hw
           obtain⟨sh1,x1⟩:=z
           have:=congrArg (fun u=>u.map (·.1)) hw
           simp at this
         · simp at hw
     · simp at hw
   · simp at hw
 |faddr sh y=>have:=congrArg (fun u=>u.map (·.1)) hw;simp[view]at this
 | clo f c=>
   simp only[view]at hw
   split at hw
   · have:=congrArg (fun u=>u.map (·.1)) hw
     simp at this
   · simp at hw
 |_=>simp[view]at hw
theorem eqFields_ok {F : Nat → Prop} {w0 w : World} : ∀ {sh : Sh} {fs : List Field} {off : Nat} {t : TypeId} {x y : sh.den} {prex prey cx cy : List Value}, leafs sh = true → ShOk P sh (some (fs, off)) t → (∀ f ∈ fs, f.name ≠ "_") →
  Rep w0 F sh .z x cx []→Rep w0 F sh .z y cy []→prex.length=off→prey.length=off→∀ {d:Nat},
  (Op.eqFields (d+1) (prex++cx).toArray (prey++cy).toArray fs).run P w = .ok (eqD sh x y) w:=by
 intro sh
 induction sh with
 |unit=>intro fs off t x y prex prey cx cy _ hs _ _ _ _ _ d;obtain rfl:fs=[]:=hs;simp[Op.eqFields,eqD]
 | pair a b _ ihb=>
   intro fs off t x y prex prey cx cy hl hs hn hx hy h1 h2 d
   obtain⟨f,l',rfl,g1,g2,g3,g4⟩:=hs
   obtain⟨c1,c2,rfl,_,hx1,hx2⟩:=hx
   obtain⟨e1,e2,rfl,_,hy1,hy2⟩:=hy
   have hnf:=hn f (by simp)
   have hb:leafs b=true:=by cases a<;>first|exact hl|simp[leafs]at hl
   have step:∀ {v u:Value} {r:Bool},c1=[v]→e1=[u]→aggS a=false→a.size=1→eqD a x.1 y.1=r→(∀ w,(Op.equalIn (d+1) f.type v u).run P w = .ok r w)→
     (Op.eqFields (d+1) (prex++(c1++c2)).toArray (prey++(e1++e2)).toArray (f::l')).run P w = .ok (eqD (.pair a b) x y) w:=by
    rintro v u r rfl rfl ha hsz hr he
    have ih:=ihb (x:=x.2) (y:=y.2) (prex:=prex++[v]) (prey:=prey++[u]) hb g4 (fun f hf=>hn f (by simp[hf])) hx2 hy2 (by simp[h1,hsz]) (by simp[h2,hsz]) (d:=d)
    have hpx:(part f.type (prex++([v]++c2)).toArray f.offset).run P w = .ok v w:=by
     simp[part,g3.run_isAgg,ha,g1,←h1]
    have hpy:(part f.type (prey++([u]++e2)).toArray f.offset).run P w = .ok u w:=by
     simp[part,g3.run_isAgg,ha,g1,←h2]
    simp only[Op.eqFields,hnf,ne_eq,not_false_eq_true,if_true,Sem.run_bind,hpx,hpy,he,Result.andThen_ok]
    have e3:prex++([v]++c2)=(prex++[v])++c2:=by simp
    have e4:prey++([u]++e2)=(prey++[u])++e2:=by simp
    rw[e3,e4]
    cases r with
    |true=>simp only[Bool.not_true,Bool.false_eq_true,if_false];rw[ih];simp[eqD,hr]
    |false=>simp[eqD,hr]
   cases a with
   | int k=>
     obtain⟨_,_,k1⟩:=hx1;obtain⟨rfl,_⟩:=k1 (by simp)
     obtain⟨_,_,k2⟩:=hy1;obtain⟨rfl,_⟩:=k2 (by simp)
     exact step rfl rfl rfl rfl rfl fun w=>run_equalIn_int w d f.type k k _ _ g3.1
   | bool=>
     obtain⟨_,_,k1⟩:=hx1;obtain rfl:=k1 (by simp)
     obtain⟨_,_,k2⟩:=hy1;obtain rfl:=k2 (by simp)
     exact step rfl rfl rfl rfl rfl fun w=>run_equalIn_bool g3.1 _ _ w
   | str=>
     obtain⟨_,_,k1⟩:=hx1;obtain⟨rfl,_⟩:=k1 (by simp)
     obtain⟨_,_,k2⟩:=hy1;obtain⟨rfl,_⟩:=k2 (by simp)
     refine step rfl rfl rfl rfl ?_ fun w=>run_equalIn_string w d f.type _ _ g3.1
     show((show List UInt8 from x.1) == (show List UInt8 from y.1))=_
     rw[ByteArray.toList_eq,ByteArray.toList_eq]
   |_=>simp[leafs]at hl
 |_=>intro fs off t x y prex prey cx cy hl;simp[leafs]at hl
theorem structEq_ok (hE:∀ t s,E.sh t=some s→ShOk P s none t) (h:Rel rc [] C s X w0 a w) {op:BinOp} {t:TypeId} {x y:Operand} {u v:Val} {cu cv:Value} {r:Bool} (hu:VOk w (fzOf X w ([]++allB rc (s.roots++C.roots))) (getR C s) rc u cu)
  (hv:VOk w (fzOf X w ([]++allB rc (s.roots++C.roots))) (getR C s) rc v cv) (hk:structEq C s (E.sh t) op u v=some r) (w':World) :
  (do eqGuard op t x y cu cv;binOp op t cu cv:Sem Value).run P w' = .ok (.bool r) w':=by
 unfold structEq at hk
 cases ht:E.sh t with
 |none=>rw[ht]at hk;simp at hk
 | some sh=>
   rw[ht]at hk
   simp only at hk
   cases hl:leafS sh with
   |false=>rw[hl]at hk;simp at hk
   | true=>
     cases hwu:view C s u with
     |none=>rw[hl,hwu]at hk;simp at hk
     | some tu=>
       obtain⟨su,xu⟩:=tu
       cases hwv:view C s v with
       |none=>rw[hl,hwu,hwv]at hk;simp at hk
       | some tv=>
         obtain⟨sv,xv⟩:=tv
         rw[hl,hwu,hwv]at hk
         simp only at hk
         cases hcu:castD sh su xu with
         |none=>rw[hcu]at hk;simp at hk
         | some x1=>
           cases hcv:castD sh sv xv with
           |none=>rw[hcu,hcv]at hk;simp at hk
           | some y1=>
             rw[hcu,hcv]at hk
             simp only at hk
             obtain⟨e1,rfl⟩:=castD_some hcu
             obtain⟨e2,rfl⟩:=castD_some hcv
             subst e1
             subst e2
             have hsh:=hE t _ ht
             cases sv with
             | pair p q=>
               have n1:=view_plain hwu
               have n2:=view_plain hwv
               obtain⟨c1,k1,rfl⟩:=hu.cells n1.1 n1.2.1 n1.2.2
               obtain⟨c2,k2,rfl⟩:=hv.cells n2.1 n2.2.1 n2.2.2
               rw[view_aggp k1 hwu,view_aggp k2 hwv]
               have r1:=view_true h k1 hwu
               have r2:=view_true h k2 hwv
               obtain ⟨_, _, _, _, hq1, hq2, hq3⟩ := hsh.info.choose_spec.2.2.2 hl |> fun h => (⟨0, 0, 0, 0, h.1, h.2.1, h.2.2⟩ : ∃ (_ _ _ _ : Nat), P.stoodInHeld t = false ∧ P.eqGuardType P.depth t = false ∧ ∀ f ∈ (P.fieldsOf t).toList, f.name ≠ "_")
               obtain⟨fs,f,l,m1,m2,m3,m4,m5,m6,m7⟩:=hsh
               have hfo:P.fieldsOf t=fs:=by simp[Program.fieldsOf,m1]
               have hrun:∀ w',(Op.equalIn 10000 t (.agg c1.toArray) (.agg c2.toArray)).run P w' = .ok (eqD (.pair p q) xu xv) w':=by
                intro w'
                rw[run_equalIn_agg w' 9999 t _ _ (by rw[hfo];exact m1) hq1,hfo,m3]
                exact eqFields_ok (P:=P) (w:=w') (prex:=[]) (prey:=[]) (off:=0) (t:=t) hl ⟨f,l,rfl,m4,m5,m6,by simpa using m7⟩ (fun f hf=>hq3 f (by rw[hfo,m3];exact hf)) r1 r2 rfl rfl (d:=9998)
               refine(bind_v (run_eqGuard_agg w' op t x y _ _ hq2)).trans ?_
               cases op<;>simp only[Option.some.injEq,reduceCtorEq]at hk
               all_goals show(binOp _ t (.agg c1.toArray) (.agg c2.toArray)).run P w'=_
               · rw[run_eql_struct,hrun,Result.andThen_ok,hk]
               · rw[run_neq_struct,hrun,Result.andThen_ok,hk]
             |_=>simp[leafS]at hl
theorem binOp_ok (hE:∀ t s,E.sh t=some s→ShOk P s none t) (h:Rel rc [] C s X w0 a w) {op:BinOp} {t:TypeId} {x y:Operand} {z:TypeId} (ho:o.op = .binOp op t x y z) (hk:opV E C o d s K):PureOk P o C s X w a rc K (fun _=>True):=by
 simp only[opV,ho]at hk
 cases hn:isNil y with
 | true=>
   rw[hn]at hk
   have hy:=isNil_eq hn
   subst hy
   simp only at hk
   cases hv:evalV C s (E.sh t) x with
   |none=>rw[hv]at hk;exact hk.elim
   | some v=>
     simp only[hv]at hk
     cases hw:view C s v with
     |none=>rw[hw]at hk;exact hk.elim
     | some tv=>
       obtain⟨sh,l⟩:=tv
       rw[hw]at hk
       cases sh<;>try (exact hk.elim)
       rename_i e sh
       have hne:=view_plain hw
       obtain⟨cs,h1,h2⟩:=(evalV_ok h hv).cells hne.1 hne.2.1 hne.2.2
       obtain⟨A,n,cap,rfl,rfl,hA⟩:=sl_cells (view_true h h1 hw)
       rw[view_agg hw]at h2
       simp only[packV,List.headD]at h2
       cases hts:E.sh t with
       |none=>rw[hts]at hk;cases op<;>exact hk.elim
       | some ts=>
         rw[hts]at hk
         have key:∀ b:Bool,(op = .eql∧b=A.isNone∨op = .neq∧b = !A.isNone)→K (.t .bool .z b,s)→(∃ e' a',ts = .sl e' a')→PureOk P o C s X w a rc K (fun _=>True):=by
          rintro b hb hkb ⟨e',a',rfl⟩
          have hu:=(hE t _ hts).1
          refine pure_runs (c:=.bool b) (fun w _=>?_) vok_bool hkb
          have hrun:(do eqGuard op t x (.const (.slice none 0 0)) (a.eval x) (.slice none 0 0);binOp op t (a.eval x) (.slice none 0 0):Sem Value).run P w = .ok (.bool b) w:=by
           rw[h2]
           refine(bind_v (eqGuard_sl op t x _ A none _ _ 0 0 w)).trans ?_
           rcases hb with⟨rfl,rfl⟩|⟨rfl,rfl⟩
           · exact(run_binNil hu A _ _ w).1
           · exact(run_binNil hu A _ _ w).2
          rw[execOp];simp only[ho]
          exact val_run hrun
         cases op<;>try (exact hk.elim)
         · cases ts<;>try (exact hk.elim)
           have hk:bcase (List.isEmpty l) (K (.t .bool .z true,s)∧K (.t .bool .z false,s)) (K (.t .bool .z false,s)):=hk
           cases l with
           | nil=>
             cases hAn:A.isNone with
             |true=>exact key true (.inl ⟨rfl,hAn.symm⟩) hk.1 ⟨_,_,rfl⟩
             |false=>exact key false (.inl ⟨rfl,hAn.symm⟩) hk.2 ⟨_,_,rfl⟩
           | cons y l=>
             cases A with
             |none=>exact absurd (hA rfl) (by simp)
             |some A=>exact key false (.inl ⟨rfl,rfl⟩) hk ⟨_,_,rfl⟩
         · cases ts<;>try (exact hk.elim)
           have hk:bcase (List.isEmpty l) (K (.t .bool .z false,s)∧K (.t .bool .z true,s)) (K (.t .bool .z true,s)):=hk
           cases l with
           | nil=>
             cases hAn:A.isNone with
             |true=>exact key false (.inr ⟨rfl,by simp[hAn]⟩) hk.1 ⟨_,_,rfl⟩
             |false=>exact key true (.inr ⟨rfl,by simp[hAn]⟩) hk.2 ⟨_,_,rfl⟩
           | cons y l=>
             cases A with
             |none=>exact absurd (hA rfl) (by simp)
             |some A=>exact key true (.inr ⟨rfl,rfl⟩) hk ⟨_,_,rfl⟩
 | false=>
   rw[hn]at hk
   simp only at hk
   cases hx:evalV C s (E.sh t) x with
   |none=>rw[hx]at hk;exact hk.elim
   | some u=>
     cases hy:evalV C s (E.sh t) y with
     |none=>rw[hx,hy]at hk;exact hk.elim
     | some v=>
       simp only[hx,hy]at hk
       cases hse:structEq C s (E.sh t) op u v with
       | some r=>
         simp only[hse]at hk
         exact pure_runs (c:=.bool r) (fun w' _=>by rw[execOp];simp only[ho];exact val_run (structEq_ok hE h (evalV_ok h hx) (evalV_ok h hy) hse w')) vok_bool hk
       | none=>
         simp only[hse]at hk
         cases hb:binOk (E.sh t) u with
         |false=>rw[hb]at hk;exact hk.elim
         | true=>
           simp only[hb,M.bind]at hk
           obtain⟨c,r,g1,g2,g3⟩:=binV_ok (P:=P) (X:=x) (Y:=y) (hE t) (evalV_ok h hx) (evalV_ok h hy) hb hk
           exact pure_runs (fun w' _=>by rw[execOp];simp only[ho];exact val_run (g1 w')) g2 g3
theorem unOp_ok (h:Rel rc [] C s X w0 a w) {op:UnOp} {t:TypeId} {x:Operand} (ho:o.op = .unOp op t x) (hk:opV E C o d s K):PureOk P o C s X w a rc K (fun _=>True):=by
 simp only[opV,ho]at hk
 cases hv:evalV C s (E.sh t) x with
 |none=>rw[hv]at hk;cases op<;>exact hk.elim
 | some v=>
   rw[hv]at hk
   cases v with
   | t sh oo n=>
     cases op with
     | not=>
       cases sh<;>try (exact hk.elim)
       cases oo<;>try (exact hk.elim)
       have hx:=VOk.bool (evalV_ok h hv)
       exact pure_runs (c:=.bool (!(show Bool from n))) (fun w' _=>by rw[execOp];simp only[ho,hx];rfl) vok_bool hk
     | neg=>
       cases sh<;>try (exact hk.elim)
       cases oo<;>try (exact hk.elim)
       rename_i k
       obtain⟨hx,_⟩:=VOk.int (evalV_ok h hv)
       refine pure_runs (c:=.int k (k.wrap (0 - (show Int from n)))) (fun w' _=>by rw[execOp];simp only[ho,hx];rfl) ?_ hk
       rw[wrapK_eq]
       exact vok_int (wrap_range _ _).1 (wrap_range _ _).2
     |_=>exact hk.elim
   |_=>cases op<;>exact hk.elim
end
end Go.V
namespace Go.V
open Go
section
variable {P:Program} {E:Env} {C s:St} {X:Fr} {w0 w:World} {a:Act} {rc:Nat→RC} {o:Oper} {d:Nat} {K:Val×St→Prop}
theorem vok_wrap {fz:Nat→Prop} {R:Nat→Option Root} (k:IntKind) (n:Int):VOk w fz R rc (.t (.int k) .z (wrapK k n)) (.int k (k.wrap n)):=by
 rw[wrapK_eq];exact vok_int (wrap_range _ _).1 (wrap_range _ _).2
theorem bnd_of (h:Rel rc [] C s X w0 a w) (lo:Option Operand):BndV (lo.map (evalV C s none)) (lo.map a.eval):=by
 cases lo with
 |none=>exact .inl ⟨rfl,rfl⟩
 |some x=>exact .inr ⟨_,_,rfl,rfl,fun k n e=>(VOk.int (evalV_ok h e)).1⟩
theorem slice_ok (hE:∀ t s,E.sh t=some s→ShOk P s none t) (h:Rel rc [] C s X w0 a w) {t:TypeId} {x:Operand} {lo hi mx:Option Operand} (ho:o.op = .slice t x lo hi mx) (hk:opV E C o d s K):PureOk P o C s X w a rc K (fun _=>True):=by
 simp only[opV,ho]at hk
 cases hv:evalV C s none x with
 |none=>rw[hv]at hk;cases mx<;>exact hk.elim
 | some v=>
   rw[hv]at hk
   cases mx with
   |some _=>exact hk.elim
   | none=>
     simp only[Option.map_some]at hk
     cases hs:sameO (rowSh C s v) (E.sh t)with
     |false=>rw[hs]at hk;exact hk.elim
     | true=>
       rw[hs]at hk
       cases v with
       | t sh oo l=>
         obtain⟨sh',e1,e2⟩:=sameO_eq hs
         simp only[rowSh,Option.some.injEq]at e1;subst e1
         cases sh<;>try (exact hk.elim)
         · cases oo<;>try (exact hk.elim)
           simp only at hk
           cases hb:sliceBnd (List.length l) (lo.map (evalV C s none)) (hi.map (evalV C s none))with
           |none=>rw[hb]at hk;exact hk.elim
           | some ab=>
             obtain⟨i,j⟩:=ab
             simp only[hb,M.need,M.bind,M.ret]at hk
             obtain⟨⟨h0,h1,h2⟩,hk⟩:=hk
             obtain⟨hx,hlen⟩:=VOk.str (evalV_ok h hv)
             obtain⟨c,g1,g2⟩:=cutS_ok (P:=P) (w:=w) (fz:=fzOf X w ([]++allB rc (s.roots++C.roots))) (R:=getR C s) (rc:=rc) (hE t _ e2) (bnd_of h lo) (bnd_of h hi) hb h0 h1 h2 hlen
             rw[←hx]at g1
             exact pure_runs (fun w' _=>by rw[execOp];simp only[ho];exact val_run (g1 w')) g2 hk
         · cases oo<;>try (exact hk.elim)
           simp only at hk
           cases hb:sliceBnd (List.length l) (lo.map (evalV C s none)) (hi.map (evalV C s none))with
           |none=>rw[hb]at hk;exact hk.elim
           | some ab=>
             obtain⟨i,j⟩:=ab
             simp only[hb,M.need,M.bind,M.ret]at hk
             obtain⟨⟨h0,h1,h2⟩,hk⟩:=hk
             obtain⟨cs,hr,hx⟩:=evalV_ok h hv
             obtain⟨c,g1,g2⟩:=cutR_ok (P:=P) (R:=getR C s) (rc:=rc) (hE t _ e2) hr (bnd_of h lo) (bnd_of h hi) hb h0 h1 h2
             have hx:a.eval x=packV false cs:=hx
             rw[←hx]at g1
             exact pure_runs (fun w' _=>by rw[execOp];simp only[ho];exact val_run (g1 w')) g2 hk
       | own key p=>
         simp only at hk
         cases hr:getR C s key with
         |none=>rw[hr]at hk;exact hk.elim
         | some r=>
           rw[hr]at hk
           simp only at hk
           cases hro:oP r.o p with
           |none=>rw[hro]at hk;exact hk.elim
           | some o0=>
             rw[hro]at hk
             cases o0<;>try (exact hk.elim)
             rename_i oa
             cases hg:getP r.s r.x p with
             |none=>rw[hg]at hk;exact hk.elim
             | some tv=>
               obtain⟨s0,l⟩:=tv
               rw[hg]at hk
               cases s0<;>try (exact hk.elim)
               rename_i e sa
               simp only at hk
               cases hb:sliceBnd (List.length l) (lo.map (evalV C s none)) (hi.map (evalV C s none))with
               |none=>rw[hb]at hk;exact hk.elim
               | some ab=>
                 obtain⟨i,j⟩:=ab
                 simp only[hb,M.need,M.bind,M.ret]at hk
                 obtain⟨⟨h0,h1,h2,h3⟩,hk⟩:=hk
                 obtain⟨cs,hvc,hx⟩:=evalV_ok h hv
                 have hx:a.eval x=packV false cs:=hx
                 obtain⟨hin,_,hc,_⟩:=hvc r hr
                 obtain⟨sh',e1,e2⟩:=sameO_eq hs
                 have hsp:=getP_shP hg
                 simp only[rowSh,hr,hsp,Option.some.injEq]at e1
                 subst e1
                 obtain⟨g1,_,g3,g4,_⟩:=hE t _ e2
                 obtain⟨cs',bs',q1,q2,_⟩:=(h.root hr).1.get hg hro hin
                 rw[hc]at q1;cases q1
                 obtain⟨v,es,ebs,rfl,k1,k2⟩:=q2
                 rcases k2 with⟨_,hx0,_⟩|⟨g,cap,cur,rfl,k3,k4,k5,k6,k7,rfl⟩
                 · have hx0:l=([]:List sa.den):=hx0
                   subst hx0;simp at h3
                 · have hbd:=fun w=>run_bounds (P:=P) w (isSlice:=true) (bnd_of h lo) (bnd_of h hi) hb h0 h1 h2 k4
                   refine pure_runs (v:=.sub key p i.toNat j.toNat) (c:=.slice (if cap=i.toNat then some ⟨g,0,none⟩ else some ⟨g,i.toNat * sa.size,none⟩) (j.toNat - i.toNat) (cap - i.toNat)) (fun w' _=>?_) ⟨[.slice (if cap=i.toNat then some ⟨g,0,none⟩ else some ⟨g,i.toNat * sa.size,none⟩) (j.toNat - i.toNat) (cap - i.toNat)],fun r' hr'=>?_,rfl⟩ hk
                   · rw[execOp];simp only[ho]
                     refine val_run ?_
                     rw[hx]
                     simp[Instr.sliceAt,Instr.slice,run_underlying g1,packV,hbd,g4.run_size,add_none]
                   · rw[hr]at hr';cases hr'
                     exact⟨g,_,cap,e,sa,hin,⟨_,hro⟩,hc,hsp,by omega,by omega,rfl⟩
       |_=>exact hk.elim
theorem VCells.len (h:Rel rc [] C s X w0 a w):∀ {v:Val} {cs:List Value} {sh:Sh},VCells w (fzOf X w ([]++allB rc (s.roots++C.roots))) (getR C s) rc v cs→shV C s v=some sh→
  cs.length=sh.size∧(∀ c∈cs,c.oneCell'=true)∧aggV v=aggSh sh:=by
 intro v
 induction v with
 | t sh0 oo x=>
   intro cs sh hv hs
   simp only[shV,Option.some.injEq]at hs;subst hs
   exact⟨Rep.len hv,Rep.one hv,rfl⟩
 | own k p=>
   intro cs sh hv hs
   simp only[shV]at hs
   split at hs
   · rename_i r hr
     obtain⟨hin,⟨o',hoo⟩,hc,e,sa,hsh⟩:=hv r hr
     rw[hs]at hsh;cases hsh
     obtain⟨x',hg⟩:=getP_of_shP r.x hs
     obtain⟨cs',bs',g1,g2,_⟩:=(h.root hr).1.get hg hoo hin
     rw[hc]at g1;cases g1
     exact⟨g2.len,g2.one,rfl⟩
   · simp at hs
 | pair u v ihu ihv=>
   rintro cs sh ⟨c1,c2,rfl,h1,h2⟩ hs
   simp only[shV]at hs
   split at hs
   · rename_i x y ex ey
     cases hs
     obtain⟨l1,o1,_⟩:=ihu h1 ex
     obtain⟨l2,o2,_⟩:=ihv h2 ey
     refine⟨by simp[l1,l2,Sh.size],fun c hc=>?_,rfl⟩
     rcases List.mem_append.mp hc with hc|hc
     · exact o1 c hc
     · exact o2 c hc
   · simp at hs
 | faddr sh0 x=>
   intro cs sh hv hs
   simp only[shV,Option.some.injEq]at hs;subst hs
   exact⟨Rep.len hv,Rep.one hv,rfl⟩
 | clo f c ih=>
   rintro cs sh ⟨ccs,rfl,_⟩ hs
   simp only[shV]at hs
   split at hs
   · cases hs;exact⟨rfl,by simp[Value.oneCell'],rfl⟩
   · simp at hs
 |_=>intro cs sh _ hs;simp[shV]at hs
theorem capOk_one (h:Rel rc [] C s X w0 a w) {u:Val} {cs:List Value} (h1:VCells w (fzOf X w ([]++allB rc (s.roots++C.roots))) (getR C s) rc u cs) (hs:capOk C s u=true) :
  aggV u=false∧∃ c,cs=[c]:=by
 have gen:∀ sh,shV C s u=some sh→aggSh sh=false→aggV u=false∧∃ c,cs=[c]:=by
  intro sh e e2
  obtain⟨l1,_,l3⟩:=VCells.len h h1 e
  rw[aggS_size (show aggS sh=false from e2)]at l1
  exact⟨l3.trans e2,List.length_eq_one_iff.mp l1⟩
 cases u with
 | baddr k p=>
   simp only[capOk]at hs
   split at hs
   · rename_i r hr
     obtain⟨off,_,rfl⟩:=h1 r hr hs
     exact⟨rfl,_,rfl⟩
   · simp at hs
 | _=>
   simp only[capOk]at hs
   split at hs
   · rename_i sh e;exact gen sh e (by simpa using hs)
   · simp at hs
theorem closure_ok (h:Rel rc [] C s X w0 a w):∀ {l:List Operand} {v:Val},closure C s l=some v→
  VCells w (fzOf X w ([]++allB rc (s.roots++C.roots))) (getR C s) rc v (l.map a.eval):=by
 intro l
 induction l with
 |nil=>intro v hv;simp only[closure,Option.some.injEq]at hv;subst hv;exact⟨rfl,rfl⟩
 | cons x l ih=>
   intro v hv
   simp only[closure]at hv
   split at hv
   · rename_i u r e1 e2
     split at hv
     · rename_i hs
       cases hv
       have hx:=evalV_ok h e1
       have hne:(∀ a b,u≠.tup a b)∧u≠.tnil∧u≠.undef:=by
        refine⟨fun a b=>?_,?_,?_⟩<;>rintro rfl<;>simp[capOk,shV]at hs
       obtain⟨cs,h1,h2⟩:=hx.cells hne.1 hne.2.1 hne.2.2
       refine⟨cs,l.map a.eval,?_,h1,ih e2⟩
       have:aggV u=false∧∃ c,cs=[c]:=capOk_one h h1 hs
       obtain⟨g1,c,rfl⟩:=this
       rw[g1]at h2
       simp only[packV,List.headD]at h2
       simp[h2]
     · simp at hv
   · simp at hv
theorem makeFunc_ok (h:Rel rc [] C s X w0 a w) {f:FuncId} {first caps:Array Operand} (ho:o.op = .makeFunc (.func f) first caps) (hk:opV E C o d s K):PureOk P o C s X w a rc K (fun _=>True):=by
 simp only[opV,ho]at hk
 cases hf:first.size with
 |succ n=>rw[hf]at hk;exact hk.elim
 | zero=>
   rw[hf]at hk
   cases hc:closure C s caps.toList with
   |none=>rw[hc]at hk;exact hk.elim
   | some v=>
     rw[hc]at hk
     have hfe:first = #[]:=Array.eq_empty_of_size_eq_zero hf
     subst hfe
     have hvo:VOk w (fzOf X w ([]++allB rc (s.roots++C.roots))) (getR C s) rc (.clo f v) (.func (.func f) #[] (List.toArray (caps.toList.map a.eval))):=
      ⟨[.func (.func f) #[] (List.toArray (caps.toList.map a.eval))],⟨_,rfl,closure_ok h hc⟩,rfl⟩
     refine pure_runs (fun w' _=>?_) hvo hk
     rw[execOp];simp only[ho]
     refine val_run ?_
     have e:Array.map a.eval caps=(List.map a.eval caps.toList).toArray:=by apply Array.ext';simp
     rw[e]
     simp[Instr.makeFunc]
theorem bytes_data {fz:Nat→Prop} {cs:List Value} {e:TypeId} {l:List Int} (h:Rep w fz (.sl e (.int .u8)) .z l cs []) {src t:TypeId} (hs:ShOk P (.sl e (.int .u8)) none src) (ht:ShOk P .str none t) :
  (∀ w',(∀ b,fz b→w'.heap[b]? = w.heap[b]?)→(convert src t (packV false cs)).run P w' = .ok (.string ⟨(bytesOf l).toArray⟩) w')∧(bytesOf l).length≤maxLen:=by
 obtain⟨A,cap,es,rfl,_,h2,h3,h4,h5⟩:=h
 refine⟨fun w' hw=>?_,by rw[bytesOf,List.length_map];exact Nat.le_trans h2 h3⟩
 obtain⟨g1,_,_,g2,_⟩:=hs
 rcases h5 with rfl|⟨b,off,rfl,hz,hc⟩
 · cases A with
   |none=>exact run_convert_bytes_nil w' src e g1 g2.1 _ _ t ht.1
   | some ad=>
     simp only[packV,List.headD]
     rw[run_convert_bytes_string w' src t e _ _ _ g1 g2.1 ht.1,run_bytesToString w' ad _ cap [] (by rfl)]
     rfl
 · have hes:es=l.map (Value.int .u8):=by
    clear hc h2 h3
    induction l generalizing es with
    |nil=>exact h4.1
    | cons x l ih=>
      obtain⟨c1,c2,b1,b2,rfl,hb,k1,k2⟩:=h4
      obtain⟨rfl,rfl⟩:=List.append_eq_nil_iff.mp hb.symm
      obtain⟨rfl,_⟩:=k1.2.2 (by simp)
      rw[ih _ k2];rfl
   have hlen:=h4.len fun _ _ _ hr=>hr.len
   have:=run_convert_bytes_arg (P:=P) w' src e g1 g2.1 b off l.length cap l rfl (fun i hi=>by
    have hrd:=(hc.stable (hw b hz)).read (i:=i) (n:=1) (by rw[hlen];show i+1≤l.length * 1;omega)
    have:=cell_of_read hrd 0 (.int .u8 (l.getD i 0)) (by rw[hes];simp[List.getD_eq_getElem?_getD,hi])
    simpa using this) t ht.1
   exact this
theorem convert_ok (hE:∀ t s,E.sh t=some s→ShOk P s none t) (h:Rel rc [] C s X w0 a w) {u t:TypeId} {x:Operand} (ho:o.op = .convert u t x) (hk:opV E C o d s K) {F:Nat→Prop} (hF:∀ b,fzOf X w ([]++allB rc (s.roots++C.roots)) b→F b)
  (hF2:∀ v,evalV C s none x=some v→∀ k∈keys v,∀ r,getR C s k=some r→∀ b∈blocks r (rc k),F b):PureOk P o C s X w a rc K (fun w'=>∀ b,F b→w'.heap[b]? = w.heap[b]?):=by
 simp only[opV,ho]at hk
 cases hv:evalV C s none x with
 |none=>rw[hv]at hk;exact hk.elim
 | some v=>
   simp only[hv]at hk
   cases hc:convV C s v (E.sh t) (E.sh u)with
   |none=>rw[hc]at hk;exact hk.elim
   | some r=>
     rw[hc]at hk
     have hx:=evalV_ok h hv
     suffices ∃ c,(∀ w',(∀ b,F b→w'.heap[b]? = w.heap[b]?)→(convert u t (a.eval x)).run P w' = .ok c w')∧VOk w (fzOf X w ([]++allB rc (s.roots++C.roots))) (getR C s) rc r c by
      obtain⟨c,g1,g2⟩:=this
      exact pure_runs (fun w' hw=>by rw[execOp];simp only[ho];exact val_run (g1 w' hw)) g2 hk
     unfold convV at hc
     split at hc
     · rename_i k ht
       split at hc
       · rename_i j n i hu
         cases hc
         obtain⟨hn,_⟩:=VOk.int hx
         have h1:=(hE t _ ht).1
         have h2:=(hE u _ hu).1
         refine⟨.int k (k.wrap n),fun w' _=>?_,vok_wrap k n⟩
         rw[hn]
         simp[convert,run_underlying h1,run_underlying h2,Conv.intToInt]
       · simp at hc
     · rename_i ht
       have h1:=hE t _ ht
       split at hc
       · rename_i hu
         split at hc
         · cases hc
           obtain⟨hn,hl⟩:=VOk.str hx
           refine⟨_,fun w' _=>?_,hx⟩
           rw[hn]
           simp[convert,run_underlying h1.1,run_underlying (hE u _ hu).1]
         · simp at hc
       · rename_i e hu
         split at hc
         · rename_i sh l hw
           split at hc
           · rename_i l' hcd
             cases hc
             obtain⟨rfl,rfl⟩:=castD_some hcd
             have hne:=view_plain hw
             obtain⟨cs,k1,k2⟩:=hx.cells hne.1 hne.2.1 hne.2.2
             rw[view_agg hw]at k2
             rw[k2]
             obtain⟨g1,g2⟩:=bytes_data (view_ok h hF k1.vc0 hw (fun k hk r hr b hb=>hF2 v hv k hk r hr b (by unfold blocks;split<;>simp[hb])) fun k hk r hr hbx=>hF2 v hv k (keys_box hk) r hr _ (by simp[blocks,hbx])) (hE u _ hu) h1
             exact⟨_,g1,vok_str g2⟩
           · simp at hc
         · simp at hc
       · simp at hc
     · simp at hc
end
end Go.V
namespace Go.V
open Go
theorem cells_pack {sh:Sh} {cs:List Value} (hl:cs.length=sh.size) (h1:∀ c∈cs,c.oneCell'=true):(packV (aggS sh) cs).cells.toList=cs:=by
 cases ha:aggS sh with
 |true=>simp[packV,Value.cells]
 | false=>
   rw[aggS_size ha]at hl
   obtain⟨v,rfl⟩:=List.length_eq_one_iff.mp hl
   have:=h1 v (by simp)
   cases v<;>simp_all [packV,Value.cells,Value.oneCell']
theorem fill_one {place:Nat→Option (Nat×Nat)} {cells:Array Value} {i:Nat} {v:Value} {rest:List (Nat×Value)} {off:Nat} (hp:place i=some (off,v.cells.size)) (hf:off+v.cells.size≤cells.size) :
  ∃ cells':Array Value,Instr.fill place cells ((i,v)::rest)=Instr.fill place cells' rest∧cells'.toList=repl off v.cells.toList cells.toList:=by
 obtain⟨g1,g2⟩:=Great.foldl_set off v.cells.toList 0 cells
 refine⟨(v.cells.toList.zipIdx 0).foldl (fun cs (x:Value×Nat)=>cs.setIfInBounds (off+x.2) x.1) cells,?_,?_⟩
 · rw[Instr.fill]
   simp only[hp]
   rw[if_neg (by simp;omega)]
   congr 1
   rw[←Array.foldl_toList,Array.toList_zipIdx]
 · apply List.ext_getElem?
   intro k
   rw[Array.getElem?_toList,g2 k]
   unfold repl
   simp only[Nat.add_zero,Array.length_toList]
   rw[List.append_assoc,List.getElem?_append,List.getElem?_append]
   simp only[List.length_take,Array.length_toList]
   by_cases h1:k<off
   · rw[if_neg (by omega),if_pos (by omega),List.getElem?_take,if_pos h1,Array.getElem?_toList]
   · rw[if_neg (show ¬ k<min off cells.size by omega)]
     by_cases h2:k<off+v.cells.size
     · rw[if_pos (by omega),if_pos (by omega)]
       congr 1;omega
     · rw[if_neg (by omega),if_neg (by omega),List.getElem?_drop,Array.getElem?_toList]
       congr 1;omega
section
variable {P:Program} {E:Env} {C s:St} {X:Fr} {w0 w:World} {a:Act} {rc:Nat→RC} {o:Oper} {d:Nat} {K:Val×St→Prop}
theorem VOk.whole (h:Rel rc [] C s X w0 a w) {v:Val} {c:Value} {sh:Sh} (hv:VOk w (fzOf X w ([]++allB rc (s.roots++C.roots))) (getR C s) rc v c) (hs:shV C s v=some sh) :
  ∃ cs,VCells w (fzOf X w ([]++allB rc (s.roots++C.roots))) (getR C s) rc v cs∧c.cells.toList=cs∧cs.length=sh.size∧(∀ x∈cs,x.oneCell'=true):=by
 have hne:(∀ a b,v≠.tup a b)∧v≠.tnil∧v≠.undef:=by
  refine⟨fun a b=>?_,?_,?_⟩<;>rintro rfl<;>simp[shV]at hs
 obtain⟨cs,h1,rfl⟩:=hv.cells hne.1 hne.2.1 hne.2.2
 obtain⟨l1,l2,l3⟩:=VCells.len h h1 hs
 exact⟨cs,h1,by rw[l3];exact cells_pack l1 l2,l1,l2⟩
theorem fieldsOf_ok (h:Rel rc [] C s X w0 a w) {t:TypeId} {place:Nat→Option (Nat×Nat)}:∀ {sh:Sh} {fs:List Field} {off n:Nat} {parts:List (Nat×Operand)} {v:Val} {pre:List Value} {cells:Array Value},
  ShOk P sh (some (fs,off)) t→fieldsOf C (fun s sh x=>evalV C s sh x) s sh n parts=some v→(∀ j f s',fs[j]? = some f→ShOk P s' none f.type→place (n+j)=some (f.offset,s'.size))→
  pre.length=off→cells.toList=pre++zcells sh→
  ∃ cells' cs,Instr.fill place cells (parts.map fun p=>(p.1,a.eval p.2))=some cells'∧cells'.toList=pre++cs∧VCells w (fzOf X w ([]++allB rc (s.roots++C.roots))) (getR C s) rc v cs:=by
 intro sh
 induction sh with
 | unit=>
   intro fs off n parts v pre cells hsh hf _ _ hc
   cases parts with
   |nil=>simp only[fieldsOf,Option.some.injEq]at hf;subst hf;exact⟨cells,[],rfl,by simpa [zcells]using hc,rfl,rfl⟩
   |cons _ _=>simp[fieldsOf]at hf
 | pair sa sb _ ihb=>
   intro fs off n parts v pre cells hsh hf hpl hpre hc
   obtain⟨f,l',rfl,h1,h2,h3,h4⟩:=hsh
   have hza:sa.plain=true→(zcells sa).length=sa.size:=fun hp=>(zcells_rep (w:=w) (fz:=fun _=>True) hp).len
   have hpl':∀ j f s',l'[j]? = some f→ShOk P s' none f.type→place (n+1+j)=some (f.offset,s'.size):=by
    intro j g s' hj hs'
    have:=hpl (j+1) g s' (by simpa using hj) hs'
    rw[←this];congr 1;omega
   have skip:∀ {w':Val} {parts:List (Nat×Operand)},sa.plain=true→fieldsOf C (fun s sh x=>evalV C s sh x) s sb (n+1) parts=some w'→
     ∃ cells' cs,Instr.fill place cells (parts.map fun p=>(p.1,a.eval p.2))=some cells'∧cells'.toList=pre++cs∧
      VCells w (fzOf X w ([]++allB rc (s.roots++C.roots))) (getR C s) rc (.pair (.t sa (zo sa) sa.zv) w') cs:=by
    intro w' parts hp hw'
    obtain⟨cells',cs,g1,g2,g3⟩:=ihb (pre:=pre++zcells sa) (cells:=cells) h4 hw' hpl' (by rw[List.length_append,hza hp,hpre]) (by rw[hc];simp[zcells])
    exact⟨cells',zcells sa++cs,g1,by rw[g2];simp,zcells sa,cs,rfl,zcells_rep hp,g3⟩
   cases parts with
   | nil=>
     simp only[fieldsOf]at hf
     split at hf
     · rename_i w' hp hw'
       cases hf
       exact skip hp hw'
     · simp at hf
   | cons q l=>
     obtain⟨i,x⟩:=q
     simp only[fieldsOf]at hf
     split at hf
     · rename_i hi
       have hi:=Nat.eq_of_beq_eq_true hi
       subst hi
       split at hf
       · rename_i u hu
         split at hf
         · rename_i w' hs hw'
           cases hf
           obtain⟨sh',e1,e2⟩:=sameO_eq hs
           cases e2
           obtain⟨cs,k1,k2,k3,k4⟩:=VOk.whole h (evalV_ok h hu) e1
           have hza2:(zcells sa).length=sa.size:=by
            have:∀ s:Sh,(zcells s).length=s.size:=by
             intro s
             induction s with
             |pair a b iha ihb=>simp[zcells,Sh.size,iha,ihb]
             |tok a b iha ihb=>simp[zcells,Sh.size,iha,ihb]
             |md a ih=>exact ih
             |_=>rfl
            exact this sa
           have hsz:(a.eval x).cells.size=sa.size:=by rw[←Array.length_toList,k2,k3]
           have hcl:cells.size=off+(sa.size+(zcells sb).length):=by rw[←Array.length_toList,hc];simp[zcells,hpre,hza2]
           obtain⟨cells1,m1,m2⟩:=fill_one (place:=place) (cells:=cells) (i:=i) (v:=a.eval x) (rest:=l.map fun p=>(p.1,a.eval p.2)) (off:=off)
            (by rw[hsz,←h1];exact hpl 0 f sa rfl h3) (by omega)
           have m3:cells1.toList=(pre++cs)++zcells sb:=by
            rw[m2,k2,hc]
            have:=repl_app_right (off:=0) (c2:=cs) (c1:=pre) (d:=zcells (.pair sa sb))
            rw[Nat.add_zero,hpre]at this
            rw[this]
            simp only[zcells]
            rw[repl_app_left (by omega)]
            have:repl 0 cs (zcells sa)=cs:=by
             unfold repl
             rw[List.drop_of_length_le (by omega)];simp
            rw[this,List.append_assoc]
           obtain⟨cells',cs',g1,g2,g3⟩:=ihb (pre:=pre++cs) (cells:=cells1) h4 hw' hpl' (by rw[List.length_append,k3,hpre]) m3
           exact⟨cells',cs++cs',by rw[List.map_cons,m1];exact g1,by rw[g2];simp,cs,cs',rfl,k1,g3⟩
         · simp at hf
       · simp at hf
     · split at hf
       · rename_i w' hp hw'
         cases hf
         exact skip hp hw'
       · simp at hf
 |_=>intro fs off n parts v pre cells hsh;exact hsh.elim
end
end Go.V
namespace Go.V
open Go
section
variable {P:Program} {E:Env} {C s:St} {X:Fr} {w0 w:World} {a:Act} {rc:Nat→RC} {o:Oper} {d:Nat} {K:Val×St→Prop}
theorem ShOk.places:∀ {sh:Sh} {fs:List Field} {off:Nat} {t:TypeId},ShOk P sh (some (fs,off)) t→
  ∃ places:List (Nat×Nat),fs.mapM (fun f:Field=>(P.info? f.type).map fun i=>(f.offset,i.size))=some places∧∀(j:Nat) (f:Field) (s':Sh),fs[j]? = some f→ShOk P s' none f.type→places[j]? = some (f.offset,s'.size):=by
 intro sh
 induction sh with
 |unit=>intro fs off t h;obtain rfl:fs=[]:=h;exact⟨[],rfl,by simp⟩
 | pair sa sb _ ihb=>
   intro fs off t h
   obtain⟨f,l',rfl,h1,h2,h3,h4⟩:=h
   obtain⟨pl,g1,g2⟩:=ihb h4
   obtain⟨i,k1,k2,_⟩:=h3.info
   refine⟨(f.offset,i.size)::pl,by simp[List.mapM_cons,k1,g1],fun j g s' hj hs'=>?_⟩
   cases j with
   | zero=>
     simp at hj;subst hj
     obtain⟨i',m1,m2,_⟩:=hs'.info
     rw[k1]at m1;cases m1
     simp[m2]
   |succ j=>simpa using g2 j g s' (by simpa using hj) hs'
 |_=>intro fs off t h;exact h.elim
theorem build_ok (hE:∀ t s,E.sh t=some s→ShOk P s none t) (h:Rel rc [] C s X w0 a w) {t:TypeId} {parts:Array (Nat×Operand)} (ho:o.op = .build t parts) (hk:opV E C o d s K):PureOk P o C s X w a rc K (fun _=>True):=by
 simp only[opV,ho]at hk
 cases ht:E.sh t with
 |none=>rw[ht]at hk;exact hk.elim
 | some sh=>
   simp only[ht]at hk
   cases hf:fieldsOf C (fun s sh x=>evalV C s sh x) s sh 0 parts.toList with
   |none=>rw[hf]at hk;exact hk.elim
   | some v=>
     rw[hf]at hk
     have hsh:=hE t _ ht
     obtain⟨fs,hu,hfs,hag⟩:∃ fs,P.underlying t=some (.struct fs)∧ShOk P sh (some (fs.toList,0)) t∧aggS sh=true:=by
      cases sh with
      |unit=>obtain⟨fs,h1,h2,_⟩:=hsh;exact⟨fs,h1,by rw[h2];rfl,rfl⟩
      | pair sa sb=>
        obtain⟨fs,f,l,h1,_,h2,h3,h4,h5,h6⟩:=hsh
        exact⟨fs,h1,⟨f,l,h2,h3,h4,h5,by simpa using h6⟩,rfl⟩
      |_=>simp[fieldsOf]at hf
     obtain⟨it,i1,_,i3,_⟩:=hsh.info
     obtain⟨pl,p1,p2⟩:=hfs.places
     have hz:(packV (aggS sh) (zcells sh)).cells.toList=[]++zcells sh:=by rw[hag];simp[packV,Value.cells]
     obtain⟨cells',cs,g1,g2,g3⟩:=fieldsOf_ok h (place:=fun i=>pl.toArray[i]?) (pre:=[]) (cells:=(packV (aggS sh) (zcells sh)).cells) hfs hf
      (by intro j f s' hj hs';simpa using p2 j f s' hj hs') rfl hz
     have hrun:∀ w,(Instr.build t (parts.map fun(i,x)=>(i,a.eval x))).run P w = .ok (.agg cells') w:=by
      intro w
      apply run_build
      unfold Program.built
      simp only[i1,hu,i3,p1]
      rw[←g1]
      congr 1
      simp
     refine pure_runs (fun w' _=>by rw[execOp];simp only[ho];exact val_run (hrun w')) (v:=v) ?_ hk
     have hc:cells'=cs.toArray:=by apply Array.ext';simpa using g2
     have hv2:aggV v=true:=by
      cases sh with
      | unit=>cases hp:parts.toList with
        |nil=>rw[hp]at hf;simp only[fieldsOf,Option.some.injEq]at hf;subst hf;rfl
        |cons _ _=>rw[hp]at hf;simp[fieldsOf]at hf
      | pair sa sb=>
        cases hp:parts.toList with
        | nil=>
          rw[hp]at hf;simp only[fieldsOf]at hf
          split at hf
          · cases hf;rfl
          · simp at hf
        | cons q l=>
          rw[hp]at hf;obtain⟨i,x⟩:=q
          simp only[fieldsOf]at hf
          split at hf
          · split at hf
            · split at hf
              · cases hf;rfl
              · simp at hf
            · simp at hf
          · split at hf
            · cases hf;rfl
            · simp at hf
      |_=>simp[fieldsOf]at hf
     have:VOk w (fzOf X w ([]++allB rc (s.roots++C.roots))) (getR C s) rc v (packV (aggV v) cs):=g3.vok
     rw[hv2]at this
     rw[hc];exact this
def AllOk (w:World) (fz:Nat→Prop) (R:Nat→Option Root) (rc:Nat→RC):List Val→List Value→Prop
 |[],cs=>cs=[]
 |v::vs,cs=>∃ c l,cs=c::l∧VOk w fz R rc v c∧AllOk w fz R rc vs l
theorem evalAll_ok (h:Rel rc [] C s X w0 a w):∀ {xs:List Operand} {shs:List (Option Sh)} {vs:List Val},evalAll C s shs xs=some vs→
  AllOk w (fzOf X w ([]++allB rc (s.roots++C.roots))) (getR C s) rc vs (xs.map a.eval):=by
 intro xs
 induction xs with
 |nil=>intro shs vs hv;cases shs<;>simp[evalAll]at hv<;>subst hv<;>rfl
 | cons x l ih=>
   intro shs vs hv
   cases shs with
   | nil=>
     simp only[evalAll]at hv
     split at hv
     · rename_i v vs' e1 e2;cases hv;exact⟨_,_,rfl,evalV_ok h e1,ih e2⟩
     · simp at hv
   | cons sh shs=>
     simp only[evalAll]at hv
     split at hv
     · rename_i v vs' e1 e2;cases hv;exact⟨_,_,rfl,evalV_ok h e1,ih e2⟩
     · simp at hv
theorem lenV_ok (hE:∀ t s,E.sh t=some s→ShOk P s none t) (h:Rel rc [] C s X w0 a w) {v:Val} {c:Value} {n:Int} {t ty:TypeId} (hv:VOk w (fzOf X w ([]++allB rc (s.roots++C.roots))) (getR C s) rc v c)
  (hr:rowsOk C s .len [E.sh t] [v]=true) (hl:lenV C s v=some n) :
  (∀ w',(Builtin.len_ #[t] ty #[c]).run P w' = .ok (.int .i64 n) w')∧IntKind.i64.min≤n∧n≤IntKind.i64.max:=by
 have nat:∀ k:Nat,k≤maxLen→IntKind.i64.min≤(k:Int)∧(k:Int)≤IntKind.i64.max:=by
  intro k hk
  unfold maxLen at hk
  simp[IntKind.min,IntKind.max,IntKind.signed,IntKind.bits]
  omega
 have row:∀ {e:TypeId} {sh:Sh} {A:Option Addr} {k cap:Nat},E.sh t=some (.sl e sh)→k≤maxLen→c = .slice A k cap→n=k→
   (∀ w',(Builtin.len_ #[t] ty #[c]).run P w' = .ok (.int .i64 n) w')∧IntKind.i64.min≤n∧n≤IntKind.i64.max:=by
  rintro e sh A k cap hs hk rfl rfl
  refine⟨fun w'=>?_,nat k hk⟩
  simp[Builtin.len_,run_underlying (hE t _ hs).1,goInt]
 cases v with
 | t sh oo x=>
   have hts:E.sh t=some sh:=by
    have:sameO (some sh) (E.sh t)=true:=hr
    obtain⟨s',e1,e2⟩:=sameO_eq this
    cases e1;exact e2
   cases sh with
   | str=>
     cases oo<;>simp[lenV]at hl
     subst hl
     obtain⟨rfl,h1⟩:=VOk.str hv
     refine⟨fun w'=>?_,nat _ h1⟩
     simp[Builtin.len_,run_underlying (hE t _ hts).1,goInt]
     exact congrArg (Nat.cast:Nat→Int) (ba_len x)
   | sl e sh=>
     simp only[lenV]at hl
     split at hl
     · rename_i ha
       cases hl
       obtain⟨cs,hre,rfl⟩:=hv
       have hre:Rep w (fun _=>True) (.sl e sh) .z x cs []:=Rep.freeze (fun _ _=>trivial) hre ha (by simp)
       obtain⟨A,cap,es,rfl,_,h2,h3,_⟩:=hre
       exact row hts (Nat.le_trans h2 h3) rfl rfl
     · simp at hl
   |_=>cases oo<;>simp[lenV]at hl
 | nils=>
   simp only[lenV,Option.some.injEq]at hl;subst hl
   obtain⟨cs,rfl,rfl⟩:=hv
   have:∃ e sh,E.sh t=some (.sl e sh):=by
    simp only[rowsOk]at hr
    split at hr
    · exact⟨_,_,by assumption⟩
    · simp at hr
   obtain⟨e,sh,hts⟩:=this
   exact row hts (k:=0) (Nat.zero_le _) rfl rfl
 | own key p=>
   have hv0:=hv
   obtain⟨cs,hv,rfl⟩:=hv
   simp only[lenV]at hl
   split at hl
   · rename_i r hR
     split at hl
     · rename_i o' e sh x ho hg
       split at hl
       · rename_i ha
         cases hl
         have hts:E.sh t=some (.sl e sh):=by
          have:sameO (rowSh C s (.own key p)) (E.sh t)=true:=hr
          obtain⟨s',e1,e2⟩:=sameO_eq this
          simp only[rowSh,hR]at e1
          rw[getP_shP hg]at e1;cases e1;exact e2
         have hw:view C s (.own key p)=some ⟨.sl e sh,x⟩:=by simp[view,hR,ho,ha,hg]
         have hre:=view_true h hv hw
         obtain⟨A,cap,es,rfl,_,h2,h3,_⟩:=hre
         exact row hts (Nat.le_trans h2 h3) rfl rfl
       · simp at hl
     · simp at hl
   · simp at hl
 | sub key p lo hi=>
   obtain⟨cs,hv,rfl⟩:=hv
   simp only[lenV]at hl
   split at hl
   · rename_i r hR
     split at hl
     · rename_i oa e sh x ho hg
       cases hl
       obtain⟨g,m,cap,e',a',q1,q2,q3,q4,q5,q6,rfl⟩:=hv r hR
       have hts:E.sh t=some (.sl e sh):=by
        have:sameO (rowSh C s (.sub key p lo hi)) (E.sh t)=true:=hr
        obtain⟨s',e1,e2⟩:=sameO_eq this
        simp only[rowSh,hR]at e1
        rw[getP_shP hg]at e1;cases e1;exact e2
       obtain⟨cs',bs',g1,g2,_⟩:=(h.root hR).1.get hg ho q1
       rw[q3]at g1;cases g1
       obtain⟨v,es,ebs,e1,m1,m2⟩:=g2
       rcases m2 with⟨rfl,_,_⟩|⟨g',cap',cur,rfl,m3,m4,m5,m6,m7,rfl⟩
       · simp at e1
       · simp only[List.cons.injEq,Value.slice.injEq,Option.some.injEq,Addr.mk.injEq,and_true]at e1
         obtain⟨rfl,rfl,rfl⟩:=e1
         exact row hts (k:=hi - lo) (by omega) rfl rfl
     · simp at hl
   · simp at hl
 |_=>simp[lenV]at hl
theorem minI_range {k:IntKind} {x y:Int} (hx:k.min≤x∧x≤k.max) (hy:k.min≤y∧y≤k.max):(k.min≤minI x y∧minI x y≤k.max)∧(k.min≤maxI x y∧maxI x y≤k.max):=by
 unfold minI maxI
 constructor<;>split<;>assumption
theorem builtin_run {b:Builtin} {c:Call} (ho:o.op = .call c) (hc:c.callee = .builtin b) :
  ∃ cs,∀ w,(execOp a.eval o).run P w=(builtin b c.argTypes o.type cs (c.args.map a.eval)).run P w:=by
 refine⟨c.args.map fun | .const _=>true|_=>false,fun w=>?_⟩
 rw[execOp]
 simp only[ho,resolve,hc,Sem.run_bind,Sem.run_pure,Result.andThen_ok,invoke]
 rfl
end
end Go.V
namespace Go.V
open Go
section
variable {P:Program} {E:Env} {C s:St} {X:Fr} {w0 w:World} {a:Act} {rc:Nat→RC} {o:Oper} {d:Nat} {K:Val×St→Prop}
theorem newRoot_eq {k:Nat} {r:Root} {s1:St} (h:newRoot C s k r=some s1):look k C.roots=none∧anyRef true k C.tmps=false∧s1=⟨killT true k s.tmps,upd k r s.roots⟩:=by
 unfold newRoot at h
 split at h
 · rename_i h1 h2;cases h;exact⟨h1,h2,rfl⟩
 · simp at h
theorem Rel.new {ls ex:List Nat} (h:Rel rc (ls++ex) C s X w0 a w) {k:Nat} {r:Root} {s1:St} {q:RC} {w1:World} (hn:newRoot C s k r=some s1)
  (hsz:w.heap.size≤w1.heap.size) (hos:w1.os=w.os) (htape:w1.tape=w.tape) (hout:w1.output=w.output)
  (hsame:∀ b,b<w.heap.size→b∉ls→w1.heap[b]? = w.heap[b]?)
  (hnd:(blocks r q).Nodup) (hqb:∀ b∈blocks r q,b<w1.heap.size∧(b∈ls∨w.heap.size≤b))
  (hok:∀ fz1:Nat→Prop,(∀ b,fzOf X w (ls++ex++allB rc (s.roots++C.roots)) b→fz1 b)→(∀ b∈ls,b∉blocks r q→fz1 b)→RootOk w1 fz1 r q) (hri:r.inn=false:=by rfl) (hdr:w.drawn≤w1.drawn:=by first|exact Nat.le_refl _|exact Nat.le_succ _) :
  Rel (setRc rc k q) ex C s1 X w0 a w1:=by
 obtain⟨hC,hA,rfl⟩:=newRoot_eq hn
 refine Rel.setRoot h ls [] hC (fun hi=>by rw[hri]at hi;cases hi) (fun b hb=>.inl hb) hsz hos htape hout hsame (by simpa using hnd) (by simp) hqb
  (fun fz1 h1 h2=>hok fz1 h1 fun b hb hn=>h2 b hb hn (by simp)) (killT_sub _ _ _) ?_ hdr
 intro t v htv
 have hrf:refs true k v=false:=by
  rcases List.mem_append.mp htv with h'|h'
  · exact(killT_mem h').2
  · exact anyRef_false hA h'
 have:=refs_true_of hrf
 exact⟨fun p hp=>by rw[refsAt_refs hp]at this;simp at this,by simp[this.2]⟩
theorem getR_new {k:Nat} {r:Root} {s1:St} (hn:newRoot C s k r=some s1):getR C s1 k=some r:=by
 obtain⟨_,_,rfl⟩:=newRoot_eq hn
 rw[getR_upd (ts:=s.tmps)];simp
theorem own_vok {fz:Nat→Prop} {R:Nat→Option Root} {k:Nat} {box inn:Bool} {e:TypeId} {sh:Sh} {oo:O} {x:(Sh.sl e sh).den} {v:Value} (hR:R k=some ⟨box,inn,.sl e sh,oo,x⟩) (hq:(rc k).cs=[v]) :
  VOk w fz R rc (.own k []) v:=by
 refine⟨[v],fun r hr=>?_,rfl⟩
 rw[hR]at hr;cases hr
 exact⟨trivial,⟨oo,by cases oo<;>rfl⟩,by rw[hq];rfl,e,sh,rfl⟩
theorem baddr_vok {fz:Nat→Prop} {R:Nat→Option Root} {k:Nat}:VOk w fz R rc (.baddr k []) (.pointer (some ⟨(rc k).blk,0,none⟩)):=by
 refine⟨[_],fun r hr _=>⟨0,by cases r.s<;>rfl,rfl⟩,rfl⟩
theorem alloc_get (w:World) (ob:Obj):(w.alloc ob).heap[w.heap.size]? = some ob:=by show(w.heap.push ob)[w.heap.size]? = some ob;simp
theorem alloc_old (w:World) (ob:Obj) {b:Nat} (hb:b<w.heap.size):(w.alloc ob).heap[b]? = w.heap[b]?:=by
 show(w.heap.push ob)[b]? = w.heap[b]?;rw[Array.getElem?_push];simp[Nat.ne_of_lt hb]
theorem alloc_size (w:World) (ob:Obj):(w.alloc ob).heap.size=w.heap.size+1:=by show(w.heap.push ob).size=_;simp
theorem alloc_ok (hE:∀ t s,E.sh t=some s→ShOk P s none t) (h:Rel rc [] C s X w0 a w) {t:TypeId} (ho:o.op = .alloc t) (hk:opV E C o d s K):Runs P o a w (OpPost C X w0 a K):=by
 simp only[opV,ho]at hk
 cases ht:E.sh t with
 |none=>rw[ht]at hk;exact hk.elim
 | some sh=>
   simp only[ht]at hk
   cases hp:sh.plain with
   |false=>rw[hp]at hk;exact hk.elim
   | true=>
     cases hn:newRoot C s d ⟨true,false,sh,zo sh,sh.zv⟩with
     |none=>rw[hp,hn]at hk;exact hk.elim
     | some s1=>
       rw[hp,hn]at hk
       have hsh:=hE t _ ht
       have hz:=zcells_rep (w:=w) (fz:=fun _=>True) hp
       have hcp:=cells_pack hz.len hz.one
       have hrun:(Instr.alloc t true (.tuple #[])).run P w = .ok (.pointer (some ⟨w.heap.size,0,none⟩)) (w.alloc (.cells (packV (aggS sh) (zcells sh)).cells t)):=by
        simp[Instr.alloc,hsh.run_zero,newVar,newRow]
       have hrel:=Rel.new (ls:=[]) (ex:=[]) (q:=⟨zcells sh,[],w.heap.size⟩) (w1:=w.alloc (.cells (packV (aggS sh) (zcells sh)).cells t)) h hn (by rw[alloc_size];omega) rfl rfl rfl
        (fun b hb _=>alloc_old w _ hb) (by simp[blocks]) (by intro b hb;simp[blocks]at hb;subst hb;rw[alloc_size];omega)
        (fun fz1 _ _=>⟨zcells_rep hp,fun _=>⟨_,t,alloc_get w _,hcp⟩⟩)
       refine Runs.value (by rw[execOp];simp only[ho];exact val_run hrun) ⟨_,s1,_,hk,hrel,?_⟩
       have:=baddr_vok (w:=w.alloc (.cells (packV (aggS sh) (zcells sh)).cells t)) (rc:=setRc rc d ⟨zcells sh,[],w.heap.size⟩) (R:=getR C s1) (k:=d) (fz:=fzOf X (w.alloc (.cells (packV (aggS sh) (zcells sh)).cells t)) ([]++allB (setRc rc d ⟨zcells sh,[],w.heap.size⟩) (s1.roots++C.roots)))
       simpa [setRc]using this
theorem takeV_agg {fz:Nat→Prop} {v:Val} {s1:St} {u:OV} {cs:List Value} (ht:takeV C s v=some (u,s1)) (hv:VC0 w fz (getR C s) rc v cs):aggV v=aggS u.s:=by
 cases v with
 |t sh oo x=>simp only[takeV,Option.some.injEq,Prod.mk.injEq]at ht;rw[←ht.1];rfl
 | own k p=>
   simp only[takeV,takeOwn]at ht
   split at ht
   · rename_i r hr
     split at ht
     · rename_i o' sh x hoo hg
       obtain⟨_,_,e,sa,hs⟩:=hv r hr
       have:=getP_shP hg
       rw[hs]at this;cases this
       split at ht
       · simp at ht
       · cases ht;rfl
       · split at ht
         · split at ht
           · split at ht
             · cases ht;rfl
             · simp at ht
           · simp at ht
         · split at ht
           · split at ht
             · cases ht;rfl
             · simp at ht
           · simp at ht
     · simp at ht
   · simp at ht
 | sub k p lo hi=>
   cases lo with
   | succ _=>
     simp only[takeV]at ht
     split at ht
     case h_2=>simp at ht
     split at ht
     case h_2=>simp at ht
     split at ht
     case h_2=>simp at ht
     split at ht
     case h_2=>simp at ht
     simp only[Option.some.injEq,Prod.mk.injEq]at ht
     obtain⟨rfl,_⟩:=ht
     rfl
   | zero=>
     simp only[takeV]at ht
     split at ht
     · simp only[Option.some.injEq,Prod.mk.injEq]at ht
       obtain⟨rfl,_⟩:=ht
       rfl
     · simp at ht
 | pair x y=>
   simp only[takeV]at ht
   split at ht
   · split at ht
     · cases ht;rfl
     · simp at ht
   · simp at ht
 | baddr k p=>
   cases p with
   |cons _ _=>simp[takeV]at ht
   | nil=>
     simp only[takeV]at ht
     split at ht
     · split at ht
       · cases ht;rfl
       · simp at ht
     · simp at ht
 |_=>simp[takeV]at ht
theorem takeV_plain {v:Val} {r:OV×St} (ht:takeV C s v=some r):(∀ a b,v≠.tup a b)∧v≠.tnil∧v≠.undef:=by
 refine⟨fun a b=>?_,?_,?_⟩<;>rintro rfl<;>simp[takeV]at ht
theorem take_whole {ex:List Nat} (h:Rel rc ex C s X w0 a w) {v:Val} {c:Value} {s1:St} {u:OV} (hv:VOk w (fzOf X w (ex++allB rc (s.roots++C.roots))) (getR C s) rc v c) (ht:takeV C s v=some (u,s1)) :
  ∃ rc1 ls cs,Rel rc1 (ls++ex) C s1 X w0 a w∧Rep w (fzOf X w (ls++ex++allB rc1 (s1.roots++C.roots))) u.s u.o u.x cs ls∧c=packV (aggS u.s) cs∧c.cells.toList=cs∧
   TakeR (getR C s) (getR C s1) rc rc1∧(∀ b,b∈ls++ex++allB rc1 (s1.roots++C.roots)→b∈ex++allB rc (s.roots++C.roots)):=by
 have hne:=takeV_plain ht
 obtain⟨cs,h1,h2⟩:=hv.cells hne.1 hne.2.1 hne.2.2
 rw[takeV_agg ht h1.vc0]at h2
 obtain⟨rc1,ls,g1,g2,g3,g4⟩:=takeV_ok v h ht h1.vc0
 exact⟨rc1,ls,cs,g1,g2,h2,by rw[h2];exact cells_pack g2.len g2.one,g3,g4⟩
theorem Rel.ls_nodup {ls ex:List Nat} (h:Rel rc (ls++ex) C s X w0 a w):ls.Nodup:=(List.nodup_append.mp (List.nodup_append.mp h.excl).1).1
theorem Rel.ls_lt {ls ex:List Nat} (h:Rel rc (ls++ex) C s X w0 a w) {b:Nat} (hb:b∈ls):b<w.heap.size:=(h.bnd b (by simp[hb])).1
theorem Rel.junk (h:Rel rc [] C s X w0 a w) (ob:Obj):Rel rc [] C s X w0 a (w.alloc ob):=by
 have hold:∀ b,b<w.heap.size→(w.alloc ob).heap[b]? = w.heap[b]?:=fun b hb=>alloc_old w ob hb
 have hbl:∀ k r,(k,r)∈s.roots++C.roots→∀ b∈blocks r (rc k),(w.alloc ob).heap[b]? = w.heap[b]?:=fun k r hk b hb=>hold b (h.bnd b (by simpa using mem_allB.mpr ⟨k,r,hk,hb⟩)).1
 refine h.step h.keys h.excl (fun b hb=>⟨by rw[alloc_size];exact Nat.lt_succ_of_lt (h.bnd b hb).1,.inl hb⟩) (by rw[alloc_size];omega) rfl rfl rfl (fun b hb _=>hold b hb)
  (fun k r hk=>.inl ⟨hk,rfl,hbl k r hk⟩) (fun k r hk=>⟨rfl,hbl k r (List.mem_append_right _ hk)⟩) h.tn (fun _ _ h=>h) (fun t v _ k=>⟨fun p _=>?_,fun _=>BS.same rfl rfl⟩)
 exact HS.same (fz:=fzOf X w ([]++allB rc (s.roots++C.roots))) rfl rfl (fun r hr=>⟨h.roots k r ((mem_getR h.keys).mp hr),hbl k r ((mem_getR h.keys).mp hr)⟩) (fun b hb=>hold b hb.1)
theorem box_own (h:Rel rc [] C s X w0 a w) {t:TypeId} {x:Operand} (ho:o.op = .box t x) {sh:Option Sh} {v:Val} (hv:evalV C s sh x=some v) (hp:ownPair v=true) (hk:K (.vbox v,s)):Runs P o a w (OpPost C X w0 a K):=by
 cases v<;>simp only[ownPair]at hp<;>try (cases hp;done)
 rename_i u y
 obtain⟨cs,h1,h2⟩:=evalV_ok h hv
 have hcells:(a.eval x).cells.toList=cs:=by rw[h2];simp[packV,aggV,Value.cells]
 have hrun:(Instr.box t (a.eval x)).run P w = .ok (.pointer (some ⟨w.heap.size,0,none⟩)) (w.alloc (.cells (a.eval x).cells t)):=by
  simp[Instr.box,newVar,newRow]
 have hj:=h.junk (.cells (a.eval x).cells t)
 refine Runs.value (by rw[execOp];simp only[ho];exact val_run hrun) ⟨_,s,rc,hk,hj,?_⟩
 have hold:∀ b,b<w.heap.size→(w.alloc (.cells (a.eval x).cells t)).heap[b]? = w.heap[b]?:=fun b hb=>alloc_old w _ hb
 refine⟨[.pointer (some ⟨w.heap.size,0,none⟩)],⟨w.heap.size,0,(a.eval x).cells,t,[],cs,[],rfl,⟨by rw[alloc_size];omega,fun hm=>?_,h.zok.1 _ h.ext.size⟩,alloc_get w _,by rw[hcells];simp,rfl,?_⟩,rfl⟩
 · exact absurd (h.bnd _ hm).1 (Nat.lt_irrefl _)
 · refine h1.stable (fun b hb=>⟨⟨by rw[alloc_size];exact Nat.lt_succ_of_lt hb.1,hb.2,hb.3⟩,hold b hb.1⟩) (fun k p _=>HS.same (fz:=fzOf X w ([]++allB rc (s.roots++C.roots))) rfl rfl (fun r hr=>⟨h.roots k r ((mem_getR h.keys).mp hr),fun b hb=>hold b (h.bnd b (by simpa using mem_allB.mpr ⟨k,r,(mem_getR h.keys).mp hr,hb⟩)).1⟩) (fun b hb=>hold b hb.1)) (fun k _=>BS.same rfl rfl)
theorem box_ok (h:Rel rc [] C s X w0 a w) {t:TypeId} {x:Operand} (ho:o.op = .box t x) (hk:opV E C o d s K):Runs P o a w (OpPost C X w0 a K):=by
 simp only[opV,ho]at hk
 cases ht:E.sh t with
 |none=>rw[ht]at hk;exact hk.elim
 | some sh=>
   simp only[ht]at hk
   cases hv:evalV C s (some sh) x with
   |none=>rw[hv]at hk;exact hk.elim
   | some v=>
     simp only[hv]at hk
     cases hop:ownPair v with
     | true=>
       simp only[hop]at hk
       cases hso:sameO (shV C s v) (some sh)with
       |false=>rw[hso]at hk;exact hk.elim
       |true=>rw[hso]at hk;exact box_own h ho hv hop hk
     |false=>
     simp only[hop]at hk
     cases htk:takeV C s v with
     |none=>rw[htk]at hk;exact hk.elim
     | some us=>
       obtain⟨u,s1⟩:=us
       simp only[htk]at hk
       cases hcd:castD sh u.s u.x with
       |none=>rw[hcd]at hk;exact hk.elim
       | some y=>
         simp only[hcd]at hk
         cases hn:newRoot C s1 d ⟨true,false,sh,u.o,y⟩with
         |none=>rw[hn]at hk;exact hk.elim
         | some s2=>
           rw[hn]at hk
           obtain⟨us,uo,ux⟩:=u
           simp only at hcd hn
           obtain⟨rfl,rfl⟩:=castD_some hcd
           obtain⟨rc1,ls,cs,g1,g2,g3,g4,_,_⟩:=take_whole h (evalV_ok h hv) htk
           simp only at g2 g3
           have hrun:(Instr.box t (a.eval x)).run P w = .ok (.pointer (some ⟨w.heap.size,0,none⟩)) (w.alloc (.cells (a.eval x).cells t)):=by
            simp[Instr.box,newVar,newRow]
           have hrel:=Rel.new (ls:=ls) (ex:=[]) (q:=⟨cs,ls,w.heap.size⟩) (w1:=w.alloc (.cells (a.eval x).cells t)) g1 hn (by rw[alloc_size];omega) rfl rfl rfl
            (fun b hb _=>alloc_old w _ hb)
            (by simp only[blocks,List.nodup_cons];exact⟨fun hm=>absurd (g1.ls_lt hm) (by omega),g1.ls_nodup⟩)
            (by
             intro b hb;simp only[blocks,List.mem_cons]at hb;rw[alloc_size]
             rcases hb with rfl|hb
             · exact⟨by omega,.inr (Nat.le_refl _)⟩
             · exact⟨by have:=g1.ls_lt hb;omega,.inl hb⟩)
            (fun fz1 h1 _=>⟨g2.stable (fun b hb=>⟨h1 b hb,alloc_old w _ hb.1⟩) fun b hb=>alloc_old w _ (g1.ls_lt hb),fun _=>⟨_,t,alloc_get w _,g4⟩⟩)
           refine Runs.value (by rw[execOp];simp only[ho];exact val_run hrun) ⟨_,s2,_,hk,hrel,?_⟩
           have:=baddr_vok (w:=w.alloc (.cells (a.eval x).cells t)) (rc:=setRc rc1 d ⟨cs,ls,w.heap.size⟩) (R:=getR C s2) (k:=d) (fz:=fzOf X (w.alloc (.cells (a.eval x).cells t)) ([]++allB (setRc rc1 d ⟨cs,ls,w.heap.size⟩) (s2.roots++C.roots)))
           simpa [setRc]using this
end
end Go.V
namespace Go.V
open Go
theorem made_take (z:Array Value) (n l:Nat) (h:l * z.size≤n):(madeCells z n).toList.take (l * z.size)=(List.replicate l z.toList).flatten:=by
 have e:(madeCells z n).toList=(List.range n).map (fun i=>z[i % z.size]!):=by simp[madeCells]
 rw[e,←List.map_take,List.take_range,Nat.min_eq_left h]
 clear e h
 induction l with
 |zero=>simp
 | succ l ih=>
   rw[Nat.succ_mul,List.range_add,List.map_append,ih,List.replicate_succ',List.flatten_append]
   congr 1
   simp only[List.map_map,List.flatten_cons,List.flatten_nil,List.append_nil]
   apply List.ext_getElem?
   intro i
   rw[List.getElem?_map]
   by_cases hi:i<z.size
   · rw[List.getElem?_range hi,Array.getElem?_toList,Array.getElem?_eq_getElem hi]
     simp only[Option.map_some,Function.comp]
     rw[Nat.mul_comm l,Nat.mul_add_mod,Nat.mod_eq_of_lt hi,getElem!_pos z i hi]
   · rw[List.getElem?_eq_none (show z.toList.length≤i by simp;omega),List.getElem?_eq_none (show(List.range z.size).length≤i by simp;omega)]
     rfl
theorem rep_replicate {w:World} {fz:Nat→Prop} {sh:Sh} (hp:sh.plain=true) (l:Nat):RepL (Rep w fz sh (zo sh)) (List.replicate l sh.zv) (List.replicate l (zcells sh)).flatten []:=by
 induction l with
 |zero=>exact⟨rfl,rfl⟩
 |succ l ih=>rw[List.replicate_succ,List.replicate_succ,List.flatten_cons];exact⟨_,_,[],[],rfl,rfl,zcells_rep hp,ih⟩
section
variable {P:Program} {E:Env} {C s:St} {X:Fr} {w0 w:World} {a:Act} {rc:Nat→RC} {o:Oper} {d:Nat} {K:Val×St→Prop}
theorem makeSlice_core (h:Rel rc [] C s X w0 a w) {t e:TypeId} {sh:Sh} {n c:Operand} (ho:o.op = .makeSlice t n c) (hsh:ShOk P (.sl e sh) none t) {l m:Int} {kl kc:IntKind} (en:a.eval n = .int kl l) (ec:a.eval c = .int kc m)
  (hp:sh.plain=true) (h0:0≤l) (h1:l≤m) (h2:m≤maxL) {s1:St} (hnr:newRoot C s d ⟨false,false,.sl e sh,.own (zo sh),List.replicate l.toNat sh.zv⟩=some s1) (hk:K (.own d [],s1)) :
  Runs P o a w (OpPost C X w0 a K):=by
 obtain⟨u1,_,u2,u3,u4⟩:=hsh
 obtain⟨ie,i1,i2,i3,_⟩:=u3.info
 have hby:ie.bytes≤128:=by simpa [Program.bytesOf,i1]using u4
 have hm0:0≤m:=Int.le_trans h0 h1
 unfold maxL at h2
 have hb:(ie.bytes:Int) * m≤281474976710656:=by
  calc (ie.bytes:Int) * m≤128 * m:=Int.mul_le_mul_of_nonneg_right (by omega) hm0
   _≤_:=by omega
 have hrun:=run_make (P:=P) w t e ie _ u1 i1 i3 kl kc l m h0 h1 hb (by omega)
 rw[i2]at hrun
 have hz:=zcells_rep (w:=w) (fz:=fun _=>True) hp
 have hcp:=cells_pack hz.len hz.one
 have hcs:(packV (aggS sh) (zcells sh)).cells.size=sh.size:=by rw[←Array.length_toList,hcp,hz.len]
 have hlm:l.toNat≤m.toNat:=by omega
 have hrel:=Rel.new (ls:=[]) (ex:=[]) (q:=⟨[.slice (some ⟨w.heap.size,0,none⟩) l.toNat m.toNat],[w.heap.size],0⟩)
  (w1:=w.alloc (.cells (madeCells (packV (aggS sh) (zcells sh)).cells (m.toNat * sh.size)) e)) h hnr (by rw[alloc_size];omega) rfl rfl rfl
  (fun b hb _=>alloc_old w _ hb) (by simp[blocks]) (by intro b hb;simp[blocks]at hb;subst hb;rw[alloc_size];omega)
  (fun fz1 _ _=>⟨⟨_,_,[],rfl,rep_replicate hp _,.inr ⟨w.heap.size,m.toNat,_,by simp,alloc_get w _,by simpa using hlm,by unfold maxLen;omega,size_madeCells _ _,by
   rw[List.length_replicate]
   have:=made_take (packV (aggS sh) (zcells sh)).cells (m.toNat * sh.size) l.toNat (by rw[hcs];exact Nat.mul_le_mul_right _ hlm)
   rw[hcs,hcp]at this
   exact this,rfl⟩⟩,by simp⟩)
 refine Runs.value (by rw[execOp];simp only[ho,en,ec];exact val_run hrun) ⟨_,s1,_,hk,hrel,?_⟩
 exact own_vok (getR_new hnr) (by simp[setRc])
theorem makeSlice_ok (hE:∀ t s,E.sh t=some s→ShOk P s none t) (h:Rel rc [] C s X w0 a w) {t:TypeId} {n c:Operand} (ho:o.op = .makeSlice t n c) (hk:opV E C o d s K):Runs P o a w (OpPost C X w0 a K):=by
 simp only[opV,ho]at hk
 cases ht:E.sh t with
 |none=>rw[ht]at hk;exact hk.elim
 | some tsh=>
   cases hn:evalV C s none n with
   |none=>rw[ht,hn]at hk;cases tsh<;>exact hk.elim
   | some nv=>
     cases hc:evalV C s none c with
     | none => rw[ht,hn,hc]at hk;cases tsh<;>cases nv<;>try (exact hk.elim)
               rename_i sh oo x;cases sh<;>cases oo<;>exact hk.elim
     | some cv=>
       rw[ht,hn,hc]at hk
       cases tsh<;>try (exact hk.elim)
       rename_i e sh
       cases nv<;>try (exact hk.elim)
       rename_i sn on l
       cases sn<;>try (exact hk.elim)
       rename_i kl
       cases on<;>try (exact hk.elim)
       cases cv<;>try (exact hk.elim)
       rename_i sc oc m
       cases sc<;>try (exact hk.elim)
       rename_i kc
       cases oc<;>try (exact hk.elim)
       simp only at hk
       cases hp:sh.plain with
       |false=>rw[hp]at hk;exact hk.elim
       | true=>
         simp only[hp,M.need,M.bind]at hk
         obtain⟨⟨h0,h1,h2⟩,hk⟩:=hk
         cases hnr:newRoot C s d ⟨false,false,.sl e sh,.own (zo sh),List.replicate (show Int from l).toNat sh.zv⟩with
         |none=>rw[hnr]at hk;exact hk.elim
         | some s1=>
           rw[hnr]at hk
           obtain⟨en,_⟩:=VOk.int (evalV_ok h hn)
           obtain⟨ec,_⟩:=VOk.int (evalV_ok h hc)
           exact makeSlice_core h ho (hE t _ ht) en ec hp h0 h1 h2 hnr hk
def RepAll (w:World) (fz:Nat→Prop):List OV→List Value→List Nat→Prop
 |[],cs,ls=>cs=[]∧ls=[]
 |u::us,cs,ls=>∃ c cs' l1 l2,cs=c::cs'∧ls=l1++l2∧Rep w fz u.s u.o u.x c.cells.toList l1∧RepAll w fz us cs' l2
theorem RepAll.stable {fz fz1:Nat→Prop} (hf:∀ b,fz b→fz1 b):∀ {us cs ls},RepAll w fz us cs ls→RepAll w fz1 us cs ls:=by
 intro us
 induction us with
 |nil=>intro cs ls h;exact h
 |cons u us ih=>rintro cs ls ⟨c,cs',l1,l2,rfl,rfl,h1,h2⟩;exact⟨c,cs',l1,l2,rfl,rfl,h1.stable (fun b hb=>⟨hf b hb,rfl⟩) fun _ _=>rfl,ih h2⟩
theorem takeAll_ok {sh:Sh}:∀ {parts:List (Nat×Operand)} {n:Nat} {s s1:St} {us:List OV} {rc:Nat→RC} {ex:List Nat},Rel rc ex C s X w0 a w→
  takeAll C (fun s x=>evalV C s (some sh) x) s n parts=some (us,s1)→
  ∃ rc1 ls,Rel rc1 (ls++ex) C s1 X w0 a w∧RepAll w (fzOf X w (ls++ex++allB rc1 (s1.roots++C.roots))) us (parts.map fun p=>a.eval p.2) ls∧
   (∀ b,b∈ls++ex++allB rc1 (s1.roots++C.roots)→b∈ex++allB rc (s.roots++C.roots))∧(parts.map fun p=>(p.1,a.eval p.2))=((parts.map fun p=>a.eval p.2).zipIdx n).map fun x=>(x.2,x.1):=by
 intro parts
 induction parts with
 | nil=>
   intro n s s1 us rc ex h ht
   simp only[takeAll,Option.some.injEq,Prod.mk.injEq]at ht
   obtain⟨rfl,rfl⟩:=ht
   exact⟨rc,[],h,⟨rfl,rfl⟩,fun b hb=>hb,rfl⟩
 | cons q l ih=>
   obtain⟨i,x⟩:=q
   intro n s s1 us rc ex h ht
   simp only[takeAll]at ht
   split at ht
   · rename_i v hi hv
     have hi:=Nat.eq_of_beq_eq_true hi
     subst hi
     split at ht
     · rename_i u s' htk
       split at ht
       · rename_i us' s2' hta
         cases ht
         obtain⟨rc1,l1,cs,g1,g2,g3,g4,g5,g6⟩:=take_whole h (evalV_ok h hv) htk
         obtain⟨rc2,l2,k1,k2,k3,k4⟩:=ih g1 hta
         have hsub:∀ b,b∈l1++l2++ex++allB rc2 (s1.roots++C.roots)→b∈l1++ex++allB rc1 (s'.roots++C.roots):=by
          intro b hb
          have:b∈l2++(l1++ex)++allB rc2 (s1.roots++C.roots):=by simp at hb ⊢;rcases hb with h|h|h|h<;>simp[h]
          exact k3 b this
         have hz3:∀ b,fzOf X w (l2++(l1++ex)++allB rc2 (s1.roots++C.roots)) b→fzOf X w (l1++l2++ex++allB rc2 (s1.roots++C.roots)) b:=by
          intro b hb
          refine⟨hb.1,fun hm=>hb.2 ?_,hb.3⟩
          simp at hm ⊢;rcases hm with h|h|h|h<;>simp[h]
         refine⟨rc2,l1++l2,?_,⟨_,_,l1,l2,rfl,rfl,?_,k2.stable hz3⟩,fun b hb=>g6 b (hsub b hb),?_⟩
         · exact k1.exPerm (by rw[←List.append_assoc];exact List.Perm.append_right _ List.perm_append_comm)
         · rw[g4];exact g2.stable (fun b hb=>⟨⟨hb.1,fun hm=>hb.2 (hsub b hm),hb.3⟩,rfl⟩) fun _ _=>rfl
         · simp only[List.map_cons,List.zipIdx_cons,k4]
       · simp at ht
     · simp at ht
   · simp at ht
theorem sameAll_ok {fz:Nat→Prop} {sh:Sh}:∀ {us:List OV} {cs:List Value} {ls:List Nat} {oe:O} {xs:List sh.den},RepAll w fz us cs ls→sameAll sh us=some (oe,xs)→
  ∃ bs rest,ls.Perm (bs++rest)∧RepL (Rep w (fun b=>fz b∨b∈rest) sh oe) xs (cs.flatMap fun c=>c.cells.toList) bs∧∀ c∈cs,c.cells.size=sh.size:=by
 intro us
 induction us with
 | nil=>
   rintro cs ls oe xs ⟨rfl,rfl⟩ h
   simp only[sameAll,Option.some.injEq,Prod.mk.injEq]at h
   obtain⟨rfl,rfl⟩:=h
   exact⟨[],[],by simp,⟨rfl,rfl⟩,by simp⟩
 | cons u us ih=>
   rintro cs ls oe xs ⟨c,cs',l1,l2,rfl,rfl,h1,h2⟩ h
   simp only[sameAll]at h
   split at h
   · rename_i x o1 xs1 hc hsa
     split at h
     · rename_i o' hm
       simp only[Option.some.injEq,Prod.mk.injEq]at h
       obtain⟨rfl,rfl⟩:=h
       obtain⟨us,uo,ux⟩:=u
       simp only at hc h1 hm
       obtain⟨rfl,rfl⟩:=castD_some hc
       obtain⟨m1,m2⟩:=meet_le hm
       obtain⟨p1,r1,g1,g2⟩:=h1.weak m1
       obtain⟨bs,rest,k1,k2,k3⟩:=ih h2 hsa
       obtain⟨p2,r2,q1,q2⟩:=RepL.weak (fun hr=>hr.weak m2) k2
       refine⟨p1++p2,r1++r2++rest,?_,⟨_,_,p1,p2,by simp,rfl,g2 w _ (fun b hb=>⟨.inl hb,rfl⟩) (fun _ _=>rfl) fun b hb=>.inr (by simp[hb]),
        q2 w _ (fun b hb=>⟨hb.imp id fun h=>by simp[h],rfl⟩) (fun _ _=>rfl) fun b hb=>.inr (by simp[hb])⟩,?_⟩
       · refine((g1.append (k1.trans (q1.append_right rest)))).trans ?_
         simp only[List.append_assoc]
         exact List.Perm.append_left _ (List.perm_append_comm_assoc _ _ _)
       · intro c' hc'
         rcases List.mem_cons.mp hc' with rfl|hc'
         · rw[←Array.length_toList];exact h1.len
         · exact k3 c' hc'
     · simp at h
   · simp at h
theorem buildSlice_ok (hE:∀ t s,E.sh t=some s→ShOk P s none t) (h:Rel rc [] C s X w0 a w) {t:TypeId} {n:Nat} {parts:Array (Nat×Operand)} (ho:o.op = .buildSlice t n parts) (hk:opV E C o d s K):Runs P o a w (OpPost C X w0 a K):=by
 simp only[opV,ho]at hk
 cases ht:E.sh t with
 |none=>rw[ht]at hk;exact hk.elim
 | some tsh=>
   rw[ht]at hk
   cases tsh<;>try (exact hk.elim)
   rename_i e sh
   simp only at hk
   cases hb:(Nat.beq n parts.size&&Nat.ble (n * sh.size) 16777216)with
   |false=>rw[hb]at hk;exact hk.elim
   | true=>
     cases hta:takeAll C (fun s x=>evalV C s (some sh) x) s 0 parts.toList with
     |none=>rw[hb,hta]at hk;exact hk.elim
     | some r=>
       obtain⟨us,s1⟩:=r
       simp only[hb,hta]at hk
       cases hsa:sameAll sh us with
       |none=>rw[hsa]at hk;exact hk.elim
       | some ox=>
         obtain⟨oe,xs⟩:=ox
         simp only[hsa]at hk
         cases hnr:newRoot C s1 d ⟨false,false,.sl e sh,.own oe,xs⟩with
         |none=>rw[hnr]at hk;exact hk.elim
         | some s2=>
           rw[hnr]at hk
           obtain⟨rc1,ls,g1,g2,g3,g4⟩:=takeAll_ok h hta
           obtain⟨bs,rest,k1,k2,k3⟩:=sameAll_ok g2 hsa
           simp only[Bool.and_eq_true]at hb
           have hnp:n=parts.toList.length:=by simpa using Nat.eq_of_beq_eq_true hb.1
           have hsm:=Nat.le_of_ble_eq_true hb.2
           obtain⟨u1,_,u2,u3,u4⟩:=hE t _ ht
           obtain⟨ie,i1,i2,i3,_⟩:=u3.info
           have hxl:xs.length=n:=by
            have h1:=k2.len fun _ _ _ hr=>hr.len
            have h2:((parts.toList.map fun p=>a.eval p.2).flatMap fun c=>c.cells.toList).length=n * sh.size:=by
             have:∀ l:List Value,(∀ c∈l,c.cells.size=sh.size)→(l.flatMap fun c=>c.cells.toList).length=l.length * sh.size:=by
              intro l
              induction l with
              |nil=>intro _;simp
              |cons c l ih=>intro hl;simp only[List.flatMap_cons,List.length_append,Array.length_toList,List.length_cons,Nat.add_mul,Nat.one_mul];rw[hl c (by simp),ih fun c hc=>hl c (by simp[hc])];omega
             rw[this _ k3,List.length_map,←hnp]
            rw[h2]at h1
            exact(Nat.eq_of_mul_eq_mul_right u2 h1).symm
           have hrun:(Instr.buildSlice t n (parts.map fun(i,x)=>(i,a.eval x))).run P w =
             .ok (.slice (some ⟨w.heap.size,0,none⟩) n n) (w.alloc (.cells ((parts.toList.map fun p=>a.eval p.2).flatMap fun c=>c.cells.toList).toArray e)):=by
            by_cases h0:n=0
            · have hpe:parts = #[]:=by apply Array.ext';exact List.eq_nil_of_length_eq_zero (by omega)
              subst hpe
              subst h0
              simp[Instr.buildSlice,run_underlying u1,sizeOf,typeInfo,i1,Instr.fill,newRow,Array.range_zero']
            · refine run_buildSlice w t e n _ _ ie _ u1 i1 i3 (by rw[i2];omega) (by rw[i2];exact Nat.ne_of_gt (Nat.mul_pos (by omega) u2)) ?_
              have hpt:(parts.map fun(i,x)=>(i,a.eval x)).toList=((parts.toList.map fun p=>a.eval p.2).zipIdx 0).map fun x=>(x.2,x.1):=by rw[←g4];simp
              rw[hpt,i2]
              refine Great.fill_whole u2 _ _ k3 ?_
              simp only[List.length_map,Array.size_map,Array.size_range]
              rw[←hnp]
           have hnd:(bs++rest).Nodup:=k1.nodup_iff.mp g1.ls_nodup
           have hlt:∀ b∈bs++rest,b<w.heap.size:=fun b hb=>g1.ls_lt (k1.mem_iff.mpr hb)
           have hrel:=Rel.new (ls:=ls) (ex:=[]) (q:=⟨[.slice (some ⟨w.heap.size,0,none⟩) n n],w.heap.size::bs,0⟩)
            (w1:=w.alloc (.cells ((parts.toList.map fun p=>a.eval p.2).flatMap fun c=>c.cells.toList).toArray e)) g1 hnr (by rw[alloc_size];omega) rfl rfl rfl
            (fun b hb _=>alloc_old w _ hb)
            (by simp only[blocks,List.nodup_cons];exact⟨fun hm=>absurd (hlt w.heap.size (List.mem_append_left _ hm)) (by omega),(List.nodup_append.mp hnd).1⟩)
            (by
             intro b hb;simp only[blocks,List.mem_cons]at hb;rw[alloc_size]
             rcases hb with rfl|hb
             · exact⟨by omega,.inr (Nat.le_refl _)⟩
             · exact⟨by have:=hlt b (by simp[hb]);omega,.inl (k1.mem_iff.mpr (by simp[hb]))⟩)
            (fun fz1 h1 h2=>⟨⟨_,_,bs,rfl,k2.mono fun x _ c b hb' hr=>hr.stable (fun i hi=>by
              rcases hi with hi|hi
              · exact⟨h1 i hi,alloc_old w _ hi.1⟩
              · refine⟨h2 i (k1.mem_iff.mpr (by simp[hi])) ?_,alloc_old w _ (hlt i (by simp[hi]))⟩
                simp only[blocks,List.mem_cons,not_or]
                exact⟨fun he=>by have:=hlt i (by simp[hi]);omega,fun hm=>(List.nodup_append.mp hnd).2.2 _ hm _ hi rfl⟩)
              fun i hi=>alloc_old w _ (hlt i (by simp[hb' i hi])),
             .inr ⟨w.heap.size,n,_,by rw[show List.length xs=n from hxl],alloc_get w _,by rw[show List.length xs=n from hxl];exact Nat.le_refl _,Nat.le_trans (by
              rcases Nat.eq_zero_or_pos n with h0|h0
              · omega
              · exact Nat.le_mul_of_pos_right _ u2) (Nat.le_trans hsm (by unfold maxLen;omega)),by
                have:=k2.len fun _ _ _ hr=>hr.len
                rw[hxl]at this
                simpa using this,by
                have:=k2.len fun _ _ _ hr=>hr.len
                rw[show List.length xs=n from hxl]at this ⊢
                simp only[List.take_of_length_le (Nat.le_of_eq this)],rfl⟩⟩,by simp⟩)
           refine Runs.value (by rw[execOp];simp only[ho];exact val_run hrun) ⟨_,s2,_,hk,hrel,?_⟩
           exact own_vok (getR_new hnr) (by simp[setRc])
end
end Go.V
namespace Go.V
open Go
section
variable {C s:St} {X:Fr} {w0 w:World} {a:Act} {rc:Nat→RC} {ex:List Nat}
theorem allB_upd {ts:List (Nat×Val)} {key:Nat} {r1:Root} {q:RC} (hk:((s.roots++C.roots).map (·.1)).Nodup) (hk1:((upd key r1 s.roots++C.roots).map (·.1)).Nodup) {b:Nat} (hb:b∈allB (setRc rc key q) (upd key r1 s.roots++C.roots)) :
  b∈blocks r1 q∨b∈allB rc (s.roots++C.roots):=by
 rcases mem_allB.mp hb with⟨j,u,hj,hb⟩
 have hu:=(mem_getR (s:=⟨ts,upd key r1 s.roots⟩) hk1).mpr hj
 rw[getR_upd (ts:=s.tmps)]at hu
 by_cases hjk:j=key
 · subst hjk
   simp only[if_true,Option.some.injEq]at hu
   subst hu
   left
   simpa [setRc]using hb
 · simp only[hjk,if_false]at hu
   rw[show setRc rc key q j=rc j by simp[setRc,hjk]]at hb
   exact .inr (mem_allB.mpr ⟨j,u,(mem_getR hk).mp hu,hb⟩)
theorem setO_get:∀ {p:List Step} {o o2:O},setO o p (.own .z)=some o2→oP o2 p=some (.own .z):=by
 intro p
 have pf:∀ {x y:O} {p:List Step},oP x p=some (.own .z)→oP (prz x y) (.f::p)=some (.own .z):=by
  intro x y p h
  cases x<;>cases y<;>first|exact h|(have h':=oP_zz (p:=p);rw[h]at h';cases h')
 have ps:∀ {x y:O} {p:List Step},oP y p=some (.own .z)→oP (prz x y) (.s::p)=some (.own .z):=by
  intro x y p h
  cases x<;>cases y<;>first|exact h|(have h':=oP_zz (p:=p);rw[h]at h';cases h')
 induction p with
 | nil=>
   intro o o2 h
   have:some (O.own .z)=some o2:=by cases o<;>exact h
   rw[←Option.some.inj this];rfl
 | cons t p ih=>
   intro o o2 h
   cases t with
   |i n=>cases o<;>simp[setO]at h
   | f=>
     cases o<;>try (simp[setO]at h;done)
     · simp only[setO,Option.map_eq_some_iff]at h;obtain⟨y,hy,rfl⟩:=h;exact pf (ih hy)
     · simp only[setO,Option.map_eq_some_iff]at h;obtain⟨y,hy,rfl⟩:=h;exact pf (ih hy)
   | s=>
     cases o<;>try (simp[setO]at h;done)
     · simp only[setO,Option.map_eq_some_iff]at h;obtain⟨y,hy,rfl⟩:=h;exact ps (ih hy)
     · simp only[setO,Option.map_eq_some_iff]at h;obtain⟨y,hy,rfl⟩:=h;exact ps (ih hy)
theorem oP_soft:∀ {p q:List Step} {o o1 o2:O},inner p=false→oP o p=some (.own o1)→setO o p (.own .z)=some o2→(∃ x,oP o q=some x)→∃ y,oP o2 q=some y:=by
 intro p
 have prf:∀ {x y:O} {p':List Step},(∃ o',oP x p'=some o')→∃ o',oP (prz x y) (.f::p')=some o':=by
  intro x y p' h
  cases x<;>cases y<;>first|exact h|exact⟨_,oP_zz⟩
 have prs:∀ {x y:O} {p':List Step},(∃ o',oP y p'=some o')→∃ o',oP (prz x y) (.s::p')=some o':=by
  intro x y p' h
  cases x<;>cases y<;>first|exact h|exact⟨_,oP_zz⟩
 induction p with
 | nil=>
   intro q o o1 o2 _ h1 h2 h3
   have e1:o = .own o1:=by cases o<;>first|(simp[oP]at h1;done)|(simpa [oP]using h1)
   have e2:o2 = .own .z:=by
    have:some (O.own .z)=some o2:=by cases o<;>exact h2
    exact(Option.some.inj this).symm
   subst e1 e2
   cases q with
   |nil=>exact⟨_,rfl⟩
   |cons t q=>cases t<;>first|(obtain⟨x,h3⟩:=h3;simp[oP]at h3;done)|exact⟨_,oP_zz⟩
 | cons t p ih=>
   intro q o o1 o2 hi h1 h2 h3
   cases t with
   |i n=>simp[inner]at hi
   | f=>
     have hi':inner p=false:=by simpa [inner]using hi
     cases o with
     |z=>have:oP .z p=some (.own o1):=h1;rw[oP_zz]at this;cases this
     | pr a b=>
       simp only[setO,Option.map_eq_some_iff]at h2
       obtain⟨y,hy,rfl⟩:=h2
       cases q with
       |nil=>exact⟨prz y b,by cases prz y b<;>rfl⟩
       | cons t q=>
         cases t with
         |f=>exact prf (ih hi' h1 hy h3)
         |s=>exact prs h3
         |i n=>obtain⟨x,h3⟩:=h3;simp[oP]at h3
     |_=>simp[oP]at h1
   | s=>
     have hi':inner p=false:=by simpa [inner]using hi
     cases o with
     |z=>have:oP .z p=some (.own o1):=h1;rw[oP_zz]at this;cases this
     | pr a b=>
       simp only[setO,Option.map_eq_some_iff]at h2
       obtain⟨y,hy,rfl⟩:=h2
       cases q with
       |nil=>exact⟨prz a y,by cases prz a y<;>rfl⟩
       | cons t q=>
         cases t with
         |s=>exact prs (ih hi' h1 hy h3)
         |f=>exact prf h3
         |i n=>obtain⟨x,h3⟩:=h3;simp[oP]at h3
     |_=>simp[oP]at h1
theorem weaken_ok (h:Rel rc ex C s X w0 a w) {key:Nat} {p:List Step} {r:Root} (hr:getR C s key=some r) (hC:look key C.roots=none) {o1 o2:O} (hin:inner p=false) (ho:oP r.o p=some (.own o1)) (hal:o1.alive=true)
  (hs2:setO r.o p (.own .z)=some o2) (hsl:∃ e sa,shP r.s p=some (.sl e sa)) :
  ∃ rc1,Rel rc1 ex C ⟨s.tmps,upd key ⟨r.box,r.inn,r.s,o2,r.x⟩ s.roots⟩ X w0 a w∧
   (∀ v c,VOk w (fzOf X w (ex++allB rc (s.roots++C.roots))) (getR C s) rc v c→VOk w (fzOf X w (ex++allB rc1 (upd key ⟨r.box,r.inn,r.s,o2,r.x⟩ s.roots++C.roots))) (getR C ⟨s.tmps,upd key ⟨r.box,r.inn,r.s,o2,r.x⟩ s.roots⟩) rc1 v c)∧
   TakeR (getR C s) (getR C ⟨s.tmps,upd key ⟨r.box,r.inn,r.s,o2,r.x⟩ s.roots⟩) rc rc1∧∀ b,b∈ex++allB rc1 (upd key ⟨r.box,r.inn,r.s,o2,r.x⟩ s.roots++C.roots)→b∈ex++allB rc (s.roots++C.roots):=by
 obtain⟨e,sa,hsl⟩:=hsl
 obtain⟨x,hg⟩:=getP_of_shP r.x hsl
 have hok:=h.root hr
 obtain⟨off,cs,bs',rest,e1,hc,e3,e4,e5,e6,e7⟩:=hok.1.setField hin hg ho
 have hl:=e5.len
 have hle:le (.own o1) (.own .z)=true:=by
  show le o1 .z=true
  cases o1<;>simp_all [le,O.alive]
 obtain⟨bw,rw',hwp,hw⟩:=e5.weak hle
 have hrep:=hw w (fun b=>fzOf X w (ex++allB rc (s.roots++C.roots)) b∨b∈rw') (fun b hb=>⟨.inl hb,rfl⟩) (fun _ _=>rfl) fun b hb=>.inr hb
 obtain⟨x3,bsn,k1,k2,k3⟩:=e7 w (fun b=>fzOf X w (ex++allB rc (s.roots++C.roots)) b∨b∈rw') (.own .z) x cs bw o2 (fun b hb=>⟨.inl hb,rfl⟩) (fun b hb=>rfl) hrep hs2
 rw[setP_get hin hg]at k1
 cases k1
 rw[repl_self (by rw[hl];exact e4) (by rw[hl];exact e3)]at k2
 have hbs:(rw'++bsn).Perm (rc key).bs:=by
  refine(k3.append_left rw').trans ?_
  refine .trans ?_ e6.symm
  rw[←List.append_assoc]
  exact List.Perm.append_right _ (List.perm_append_comm.trans hwp.symm)
 have hnb:=h.blocks_nodup hr
 have hbn:(rc key).bs.Nodup:=by rw[blocks_box]at hnb;exact(List.nodup_append.mp hnb).2.1
 have hbsn:(rw'++bsn).Nodup:=hbs.nodup_iff.mpr hbn
 have hmem:∀ b∈blocks r (rc key),b∈ex++allB rc (s.roots++C.roots):=fun b hb=>List.mem_append_right _ (mem_allB.mpr ⟨key,r,(mem_getR h.keys).mp hr,hb⟩)
 have hnew:∀ b,b∈blocks ⟨r.box,r.inn,r.s,o2,r.x⟩ ⟨(rc key).cs,bsn,(rc key).blk⟩→b∈blocks r (rc key):=by
  intro b hb
  rw[blocks_box]at hb ⊢
  rcases List.mem_append.mp hb with hb|hb
  · exact List.mem_append_left _ hb
  · exact List.mem_append_right _ (hbs.mem_iff.mp (by simp[hb]))
 have hrw:∀ b∈rw',b∈blocks r (rc key)∧b∉blocks ⟨r.box,r.inn,r.s,o2,r.x⟩ ⟨(rc key).cs,bsn,(rc key).blk⟩:=by
  intro b hb
  have hb1:b∈(rc key).bs:=hbs.mem_iff.mp (by simp[hb])
  refine⟨by rw[blocks_box];exact List.mem_append_right _ hb1,fun hm=>?_⟩
  rw[blocks_box]at hm hnb
  rcases List.mem_append.mp hm with hm|hm
  · exact(List.nodup_append.mp hnb).2.2 b hm b hb1 rfl
  · exact(List.nodup_append.mp hbsn).2.2 b hb b hm rfl
 have hHS:∀ q,HS w w (getR C s) (getR C ⟨s.tmps,upd key ⟨r.box,r.inn,r.s,o2,r.x⟩ s.roots⟩) rc (setRc rc key ⟨(rc key).cs,bsn,(rc key).blk⟩) key q:=by
  intro q r1 hr1
  rw[getR_upd (ts:=s.tmps)]at hr1
  simp at hr1;subst hr1
  exact⟨r,hr,rfl,fun c e a q1 q2 _ q4=>⟨q1,oP_soft hin ho hs2 q2,by simpa [setRc]using q4⟩⟩
 have hBS:BS (getR C s) (getR C ⟨s.tmps,upd key ⟨r.box,r.inn,r.s,o2,r.x⟩ s.roots⟩) rc (setRc rc key ⟨(rc key).cs,bsn,(rc key).blk⟩) key:=by
  intro r1 hr1 hb1
  rw[getR_upd (ts:=s.tmps)]at hr1
  simp at hr1;subst hr1
  exact⟨r,hr,hb1,rfl,by simp[setRc]⟩
 have hnd:(blocks ⟨r.box,r.inn,r.s,o2,r.x⟩ ⟨(rc key).cs,bsn,(rc key).blk⟩).Nodup:=by
  rw[blocks_box]at hnb ⊢
  refine List.nodup_append.mpr ⟨(List.nodup_append.mp hnb).1,(List.nodup_append.mp hbsn).2.1,fun b hb c hc=>(List.nodup_append.mp hnb).2.2 b hb c (hbs.mem_iff.mp (by simp[hc]))⟩
 have hrel:=Rel.setRoot (ls:=[]) (ex:=ex) (r:=⟨r.box,r.inn,r.s,o2,r.x⟩) (q:=⟨(rc key).cs,bsn,(rc key).blk⟩) (ts:=s.tmps) (w1:=w)
  (by simpa using h) (blocks r (rc key)) [] hC (fun hi=>⟨r,getR_s hC hr,hi,rfl,fun _=>rfl,fun _=>rfl⟩) (fun b hb=>.inr ⟨r,getR_s hC hr,hb⟩) (Nat.le_refl _) rfl rfl rfl (fun _ _ _=>rfl)
  (by simpa using hnd) (by simp)
  (fun b hb=>⟨(h.bnd b (hmem b (hnew b hb))).1,.inl (hnew b hb)⟩)
  (fun fz1 hf1 hf2=>⟨k2.stable (fun b hb=>⟨hb.elim (fun hb=>hf1 b (by simpa using hb)) (fun hb=>hf2 b (hrw b hb).1 (hrw b hb).2 (by simp)),rfl⟩) fun _ _=>rfl,hok.2⟩)
  (List.Sublist.refl _)
  (fun t v _=>⟨fun p _=>hHS p,fun _=>hBS⟩)
 have hrel:Rel (setRc rc key ⟨(rc key).cs,bsn,(rc key).blk⟩) ex C ⟨s.tmps,upd key ⟨r.box,r.inn,r.s,o2,r.x⟩ s.roots⟩ X w0 a w:=by simpa using hrel
 have hset:∀ b,b∈ex++allB (setRc rc key ⟨(rc key).cs,bsn,(rc key).blk⟩) (upd key ⟨r.box,r.inn,r.s,o2,r.x⟩ s.roots++C.roots)→b∈ex++allB rc (s.roots++C.roots):=by
  intro b hm
  rcases List.mem_append.mp hm with hm|hm
  · simp[hm]
  · rcases allB_upd (ts:=s.tmps) h.keys hrel.keys hm with hm|hm
    · exact hmem b (hnew b hm)
    · exact List.mem_append_right _ hm
 have hfz:∀ b,fzOf X w (ex++allB rc (s.roots++C.roots)) b→fzOf X w (ex++allB (setRc rc key ⟨(rc key).cs,bsn,(rc key).blk⟩) (upd key ⟨r.box,r.inn,r.s,o2,r.x⟩ s.roots++C.roots)) b∧w.heap[b]? = w.heap[b]?:=
  fun b hb=>⟨⟨hb.1,fun hm=>hb.2 (hset b hm),hb.3⟩,rfl⟩
 have hHSall:∀ j q,HS w w (getR C s) (getR C ⟨s.tmps,upd key ⟨r.box,r.inn,r.s,o2,r.x⟩ s.roots⟩) rc (setRc rc key ⟨(rc key).cs,bsn,(rc key).blk⟩) j q:=by
  intro j q
  by_cases hjk:j=key
  · subst hjk;exact hHS q
  · have hR:getR C ⟨s.tmps,upd key ⟨r.box,r.inn,r.s,o2,r.x⟩ s.roots⟩ j=getR C s j:=by rw[getR_upd (ts:=s.tmps)];simp[hjk]
    exact HS.same (fz:=fun _=>True) hR (by simp[setRc,hjk]) (fun r hr=>⟨(h.root hr).stable (fun b _=>⟨trivial,rfl⟩) fun _ _=>rfl,fun _ _=>rfl⟩) fun _ _=>rfl
 have hBSall:∀ j,BS (getR C s) (getR C ⟨s.tmps,upd key ⟨r.box,r.inn,r.s,o2,r.x⟩ s.roots⟩) rc (setRc rc key ⟨(rc key).cs,bsn,(rc key).blk⟩) j:=by
  intro j
  by_cases hjk:j=key
  · subst hjk;exact hBS
  · exact BS.same (by rw[getR_upd (ts:=s.tmps)];simp[hjk]) (by simp[setRc,hjk])
 refine⟨_,hrel,fun v c hvok=>hvok.stable hfz (fun j q _=>hHSall j q) fun j _=>hBSall j,fun k r1 hr1=>?_,hset⟩
 rw[getR_upd (ts:=s.tmps)]at hr1
 by_cases hjk:k=key
 · subst hjk
   simp only[if_true,Option.some.injEq]at hr1
   subst hr1
   exact⟨r,hr,rfl,by simp[setRc],by simp[setRc]⟩
 · simp only[hjk,if_false]at hr1
   exact⟨r1,hr1,rfl,by simp[setRc,hjk],by simp[setRc,hjk]⟩
theorem oP_thin:∀ {p q:List Step} {o o1 o2:O},inner p=false→oP o p=some (.own o1)→setO o p (.z)=some o2→(∃ x,oP o q=some x)→∃ y,oP o2 q=some y:=by
 intro p
 have prf:∀ {x y:O} {p':List Step},(∃ o',oP x p'=some o')→∃ o',oP (prz x y) (.f::p')=some o':=by
  intro x y p' h
  cases x<;>cases y<;>first|exact h|exact⟨_,oP_zz⟩
 have prs:∀ {x y:O} {p':List Step},(∃ o',oP y p'=some o')→∃ o',oP (prz x y) (.s::p')=some o':=by
  intro x y p' h
  cases x<;>cases y<;>first|exact h|exact⟨_,oP_zz⟩
 induction p with
 | nil=>
   intro q o o1 o2 _ h1 h2 h3
   have e1:o = .own o1:=by cases o<;>first|(simp[oP]at h1;done)|(simpa [oP]using h1)
   have e2:o2 = .z:=by
    have:some (O.z)=some o2:=by cases o<;>exact h2
    exact(Option.some.inj this).symm
   subst e1 e2
   cases q with
   |nil=>exact⟨_,rfl⟩
   |cons t q=>cases t<;>first|(obtain⟨x,h3⟩:=h3;simp[oP]at h3;done)|exact⟨_,oP_zz⟩
 | cons t p ih=>
   intro q o o1 o2 hi h1 h2 h3
   cases t with
   |i n=>simp[inner]at hi
   | f=>
     have hi':inner p=false:=by simpa [inner]using hi
     cases o with
     |z=>have:oP .z p=some (.own o1):=h1;rw[oP_zz]at this;cases this
     | pr a b=>
       simp only[setO,Option.map_eq_some_iff]at h2
       obtain⟨y,hy,rfl⟩:=h2
       cases q with
       |nil=>exact⟨prz y b,by cases prz y b<;>rfl⟩
       | cons t q=>
         cases t with
         |f=>exact prf (ih hi' h1 hy h3)
         |s=>exact prs h3
         |i n=>obtain⟨x,h3⟩:=h3;simp[oP]at h3
     |_=>simp[oP]at h1
   | s=>
     have hi':inner p=false:=by simpa [inner]using hi
     cases o with
     |z=>have:oP .z p=some (.own o1):=h1;rw[oP_zz]at this;cases this
     | pr a b=>
       simp only[setO,Option.map_eq_some_iff]at h2
       obtain⟨y,hy,rfl⟩:=h2
       cases q with
       |nil=>exact⟨prz a y,by cases prz a y<;>rfl⟩
       | cons t q=>
         cases t with
         |s=>exact prs (ih hi' h1 hy h3)
         |f=>exact prf h3
         |i n=>obtain⟨x,h3⟩:=h3;simp[oP]at h3
     |_=>simp[oP]at h1
theorem thin_ok (h:Rel rc ex C s X w0 a w) {key:Nat} {p:List Step} {r:Root} (hr:getR C s key=some r) (hC:look key C.roots=none) {o1 o2:O} (hin:inner p=false) (ho:oP r.o p=some (.own o1)) (hal:o1.alive=true)
  (hs2:setO r.o p .z=some o2) (hsl:∃ e sa,shP r.s p=some (.sl e sa)) :
  ∃ rc1,Rel rc1 ex C ⟨s.tmps,upd key ⟨r.box,r.inn,r.s,o2,r.x⟩ s.roots⟩ X w0 a w∧
   (∀ v c,VOk w (fzOf X w (ex++allB rc (s.roots++C.roots))) (getR C s) rc v c→VOk w (fzOf X w (ex++allB rc1 (upd key ⟨r.box,r.inn,r.s,o2,r.x⟩ s.roots++C.roots))) (getR C ⟨s.tmps,upd key ⟨r.box,r.inn,r.s,o2,r.x⟩ s.roots⟩) rc1 v c)∧
   TakeR (getR C s) (getR C ⟨s.tmps,upd key ⟨r.box,r.inn,r.s,o2,r.x⟩ s.roots⟩) rc rc1∧∀ b,b∈ex++allB rc1 (upd key ⟨r.box,r.inn,r.s,o2,r.x⟩ s.roots++C.roots)→b∈ex++allB rc (s.roots++C.roots):=by
 obtain⟨e,sa,hsl⟩:=hsl
 obtain⟨x,hg⟩:=getP_of_shP r.x hsl
 have hok:=h.root hr
 obtain⟨off,cs,bs',rest,e1,hc,e3,e4,e5,e6,e7⟩:=hok.1.setField hin hg ho
 have hl:=e5.len
 have hle:le (.own o1) .z=true:=by simp[le,O.alive,hal]
 obtain⟨bw,rw',hwp,hw⟩:=e5.weak hle
 have hrep:=hw w (fun b=>fzOf X w (ex++allB rc (s.roots++C.roots)) b∨b∈rw') (fun b hb=>⟨.inl hb,rfl⟩) (fun _ _=>rfl) fun b hb=>.inr hb
 obtain⟨x3,bsn,k1,k2,k3⟩:=e7 w (fun b=>fzOf X w (ex++allB rc (s.roots++C.roots)) b∨b∈rw') .z x cs bw o2 (fun b hb=>⟨.inl hb,rfl⟩) (fun b hb=>rfl) hrep hs2
 rw[setP_get hin hg]at k1
 cases k1
 rw[repl_self (by rw[hl];exact e4) (by rw[hl];exact e3)]at k2
 have hbs:(rw'++bsn).Perm (rc key).bs:=by
  refine(k3.append_left rw').trans ?_
  refine .trans ?_ e6.symm
  rw[←List.append_assoc]
  exact List.Perm.append_right _ (List.perm_append_comm.trans hwp.symm)
 have hnb:=h.blocks_nodup hr
 have hbn:(rc key).bs.Nodup:=by rw[blocks_box]at hnb;exact(List.nodup_append.mp hnb).2.1
 have hbsn:(rw'++bsn).Nodup:=hbs.nodup_iff.mpr hbn
 have hmem:∀ b∈blocks r (rc key),b∈ex++allB rc (s.roots++C.roots):=fun b hb=>List.mem_append_right _ (mem_allB.mpr ⟨key,r,(mem_getR h.keys).mp hr,hb⟩)
 have hnew:∀ b,b∈blocks ⟨r.box,r.inn,r.s,o2,r.x⟩ ⟨(rc key).cs,bsn,(rc key).blk⟩→b∈blocks r (rc key):=by
  intro b hb
  rw[blocks_box]at hb ⊢
  rcases List.mem_append.mp hb with hb|hb
  · exact List.mem_append_left _ hb
  · exact List.mem_append_right _ (hbs.mem_iff.mp (by simp[hb]))
 have hrw:∀ b∈rw',b∈blocks r (rc key)∧b∉blocks ⟨r.box,r.inn,r.s,o2,r.x⟩ ⟨(rc key).cs,bsn,(rc key).blk⟩:=by
  intro b hb
  have hb1:b∈(rc key).bs:=hbs.mem_iff.mp (by simp[hb])
  refine⟨by rw[blocks_box];exact List.mem_append_right _ hb1,fun hm=>?_⟩
  rw[blocks_box]at hm hnb
  rcases List.mem_append.mp hm with hm|hm
  · exact(List.nodup_append.mp hnb).2.2 b hm b hb1 rfl
  · exact(List.nodup_append.mp hbsn).2.2 b hb b hm rfl
 have hHS:∀ q,HS w w (getR C s) (getR C ⟨s.tmps,upd key ⟨r.box,r.inn,r.s,o2,r.x⟩ s.roots⟩) rc (setRc rc key ⟨(rc key).cs,bsn,(rc key).blk⟩) key q:=by
  intro q r1 hr1
  rw[getR_upd (ts:=s.tmps)]at hr1
  simp at hr1;subst hr1
  exact⟨r,hr,rfl,fun c e a q1 q2 _ q4=>⟨q1,oP_thin hin ho hs2 q2,by simpa [setRc]using q4⟩⟩
 have hBS:BS (getR C s) (getR C ⟨s.tmps,upd key ⟨r.box,r.inn,r.s,o2,r.x⟩ s.roots⟩) rc (setRc rc key ⟨(rc key).cs,bsn,(rc key).blk⟩) key:=by
  intro r1 hr1 hb1
  rw[getR_upd (ts:=s.tmps)]at hr1
  simp at hr1;subst hr1
  exact⟨r,hr,hb1,rfl,by simp[setRc]⟩
 have hnd:(blocks ⟨r.box,r.inn,r.s,o2,r.x⟩ ⟨(rc key).cs,bsn,(rc key).blk⟩).Nodup:=by
  rw[blocks_box]at hnb ⊢
  refine List.nodup_append.mpr ⟨(List.nodup_append.mp hnb).1,(List.nodup_append.mp hbsn).2.1,fun b hb c hc=>(List.nodup_append.mp hnb).2.2 b hb c (hbs.mem_iff.mp (by simp[hc]))⟩
 have hrel:=Rel.setRoot (ls:=[]) (ex:=ex) (r:=⟨r.box,r.inn,r.s,o2,r.x⟩) (q:=⟨(rc key).cs,bsn,(rc key).blk⟩) (ts:=s.tmps) (w1:=w)
  (by simpa using h) (blocks r (rc key)) [] hC (fun hi=>⟨r,getR_s hC hr,hi,rfl,fun _=>rfl,fun _=>rfl⟩) (fun b hb=>.inr ⟨r,getR_s hC hr,hb⟩) (Nat.le_refl _) rfl rfl rfl (fun _ _ _=>rfl)
  (by simpa using hnd) (by simp)
  (fun b hb=>⟨(h.bnd b (hmem b (hnew b hb))).1,.inl (hnew b hb)⟩)
  (fun fz1 hf1 hf2=>⟨k2.stable (fun b hb=>⟨hb.elim (fun hb=>hf1 b (by simpa using hb)) (fun hb=>hf2 b (hrw b hb).1 (hrw b hb).2 (by simp)),rfl⟩) fun _ _=>rfl,hok.2⟩)
  (List.Sublist.refl _)
  (fun t v _=>⟨fun p _=>hHS p,fun _=>hBS⟩)
 have hrel:Rel (setRc rc key ⟨(rc key).cs,bsn,(rc key).blk⟩) ex C ⟨s.tmps,upd key ⟨r.box,r.inn,r.s,o2,r.x⟩ s.roots⟩ X w0 a w:=by simpa using hrel
 have hset:∀ b,b∈ex++allB (setRc rc key ⟨(rc key).cs,bsn,(rc key).blk⟩) (upd key ⟨r.box,r.inn,r.s,o2,r.x⟩ s.roots++C.roots)→b∈ex++allB rc (s.roots++C.roots):=by
  intro b hm
  rcases List.mem_append.mp hm with hm|hm
  · simp[hm]
  · rcases allB_upd (ts:=s.tmps) h.keys hrel.keys hm with hm|hm
    · exact hmem b (hnew b hm)
    · exact List.mem_append_right _ hm
 have hfz:∀ b,fzOf X w (ex++allB rc (s.roots++C.roots)) b→fzOf X w (ex++allB (setRc rc key ⟨(rc key).cs,bsn,(rc key).blk⟩) (upd key ⟨r.box,r.inn,r.s,o2,r.x⟩ s.roots++C.roots)) b∧w.heap[b]? = w.heap[b]?:=
  fun b hb=>⟨⟨hb.1,fun hm=>hb.2 (hset b hm),hb.3⟩,rfl⟩
 have hHSall:∀ j q,HS w w (getR C s) (getR C ⟨s.tmps,upd key ⟨r.box,r.inn,r.s,o2,r.x⟩ s.roots⟩) rc (setRc rc key ⟨(rc key).cs,bsn,(rc key).blk⟩) j q:=by
  intro j q
  by_cases hjk:j=key
  · subst hjk;exact hHS q
  · have hR:getR C ⟨s.tmps,upd key ⟨r.box,r.inn,r.s,o2,r.x⟩ s.roots⟩ j=getR C s j:=by rw[getR_upd (ts:=s.tmps)];simp[hjk]
    exact HS.same (fz:=fun _=>True) hR (by simp[setRc,hjk]) (fun r hr=>⟨(h.root hr).stable (fun b _=>⟨trivial,rfl⟩) fun _ _=>rfl,fun _ _=>rfl⟩) fun _ _=>rfl
 have hBSall:∀ j,BS (getR C s) (getR C ⟨s.tmps,upd key ⟨r.box,r.inn,r.s,o2,r.x⟩ s.roots⟩) rc (setRc rc key ⟨(rc key).cs,bsn,(rc key).blk⟩) j:=by
  intro j
  by_cases hjk:j=key
  · subst hjk;exact hBS
  · exact BS.same (by rw[getR_upd (ts:=s.tmps)];simp[hjk]) (by simp[setRc,hjk])
 refine⟨_,hrel,fun v c hvok=>hvok.stable hfz (fun j q _=>hHSall j q) fun j _=>hBSall j,fun k r1 hr1=>?_,hset⟩
 rw[getR_upd (ts:=s.tmps)]at hr1
 by_cases hjk:k=key
 · subst hjk
   simp only[if_true,Option.some.injEq]at hr1
   subst hr1
   exact⟨r,hr,rfl,by simp[setRc],by simp[setRc]⟩
 · simp only[hjk,if_false]at hr1
   exact⟨r1,hr1,rfl,by simp[setRc,hjk],by simp[setRc,hjk]⟩
end
end Go.V
namespace Go.V
open Go
section
variable {P:Program} {E:Env} {C s:St} {X:Fr} {w0 w:World} {a:Act} {rc:Nat→RC} {o:Oper} {d:Nat} {K:Val×St→Prop}
theorem RepL.z_nil {fz:Nat→Prop} {sh:Sh}:∀ {l:List sh.den} {es bs},RepL (Rep w fz sh .z) l es bs→bs=[]:=by
 intro l
 induction l with
 |nil=>rintro es bs ⟨_,rfl⟩;rfl
 |cons x l ih=>rintro es bs ⟨c1,c2,b1,b2,_,rfl,h1,h2⟩;rw[h1.z_nil,ih h2];rfl
theorem Rep.still_nil {fz:Nat→Prop}:∀ {sh:Sh} {o:O} {x:sh.den} {cs bs},Rep w fz sh o x cs bs→o.still=true→bs=[]:=by
 intro sh
 induction sh with
 | pair a b iha ihb=>
   intro o x cs bs h hs
   cases o with
   |z=>exact h.z_nil
   | pr oa ob=>
     simp only[O.still,Bool.and_eq_true]at hs
     obtain⟨c1,c2,b1,b2,_,rfl,h1,h2⟩:=h
     rw[iha h1 hs.1,ihb h2 hs.2];rfl
   |_=>simp[O.still]at hs
 |int k=>intro o x cs bs h _;exact h.1
 |bool=>intro o x cs bs h _;exact h.1
 |str=>intro o x cs bs h _;exact h.1
 |unit=>intro o x cs bs h _;exact h.1
 |tok a b _ _=>intro o x cs bs h _;exact h.1
 | md a ih=>
   intro o x cs bs h hs
   obtain⟨b,y⟩:=x
   cases b with
   |false=>exact h.1
   |true=>exact ih h hs
 |fn f c ih=>intro o x cs bs h hs;cases o<;>first|(simp[O.still]at hs;done)|(obtain⟨ccs,_,h⟩:=h;exact ih h hs)
 |_=>intro o x cs bs h hs;cases o<;>first|(simp[O.still]at hs;done)|exact h.z_nil|exact h.elim
theorem RepL.still_nil {fz:Nat→Prop} {sh:Sh} {oo:O} (hs:oo.still=true):∀ {l:List sh.den} {es bs},RepL (Rep w fz sh oo) l es bs→bs=[]:=by
 intro l
 induction l with
 |nil=>rintro es bs ⟨_,rfl⟩;rfl
 |cons x l ih=>rintro es bs ⟨c1,c2,b1,b2,_,rfl,h1,h2⟩;rw[h1.still_nil hs,ih h2];rfl
structure Row (w:World) (fz:Nat→Prop) (e:TypeId) (sh:Sh) (oo:O) (ys:List sh.den) (c:Value) (es:List Value) (ebs:List Nat):Prop where
 hd:∃ A cap,c = .slice A ys.length cap∧(A=none→ys=[])∧(ys=[]∨∃ b off,A=some ⟨b,off,none⟩∧CellsAt w b off es)
 els:RepL (Rep w fz sh oo) ys es ebs
theorem row_z {fz:Nat→Prop} {e:TypeId} {sh:Sh} {ys:List sh.den} {cs:List Value} (h:Rep w fz (.sl e sh) .z ys cs []):∃ c es,cs=[c]∧Row w fz e sh .z ys c es []:=by
 obtain⟨A,cap,es,rfl,_,h2,h3,h4,h5⟩:=h
 refine⟨_,es,rfl,⟨A,cap,rfl,?_,h5.imp id fun⟨b,off,h1,_,h2⟩=>⟨b,off,h1,h2⟩⟩,h4⟩
 rintro rfl
 rcases h5 with h|⟨b,off,h,_⟩
 · exact h
 · simp at h
theorem row_own {fz:Nat→Prop} {e:TypeId} {sh:Sh} {oo:O} {ys:List sh.den} {cs:List Value} {bs:List Nat} (h:Rep w fz (.sl e sh) (.own oo) ys cs bs):∃ c es ebs g,cs=[c]∧Row w fz e sh oo ys c es ebs∧bs.Perm (ebs++g):=by
 obtain⟨v,es,ebs,rfl,h1,h2⟩:=h
 rcases h2 with⟨rfl,hx,rfl⟩|⟨g,cap,cur,rfl,h3,h4,h5,h6,h7,rfl⟩
 · have hx':ys=([]:List sh.den):=hx
   subst hx'
   obtain⟨rfl,rfl⟩:es=[]∧ebs=[]:=h1
   exact⟨_,[],[],[],rfl,⟨⟨none,0,rfl,fun _=>rfl,.inl rfl⟩,⟨rfl,rfl⟩⟩,by simp⟩
 · refine⟨_,es,ebs,[g],rfl,⟨⟨_,cap,rfl,by simp,.inr ⟨g,0,rfl,cur,e,(0,0),h3,?_,?_⟩⟩,h1⟩,List.perm_append_comm (l₁:=[g])⟩
   · have:=h1.len fun _ _ _ hr=>hr.len
     rw[this,h6];have:=Nat.mul_le_mul_right sh.size h4;omega
   · have:=h1.len fun _ _ _ hr=>hr.len
     rw[List.drop_zero,this];exact h7
theorem row_sub {fz:Nat→Prop} {e:TypeId} {sh:Sh} {oo:O} {x:List sh.den} {cs:List Value} {bs:List Nat} {g n cap lo hi:Nat} (h:Rep w fz (.sl e sh) (.own oo) x cs bs) (hst:oo.still=true) (hc:cs=[.slice (some ⟨g,0,none⟩) n cap]) (h1:lo≤hi) (h2:hi≤n) :
  ∃ es,Row w fz e sh oo ((x.drop lo).take (hi - lo)) (.slice (if cap=lo then some ⟨g,0,none⟩ else some ⟨g,lo * sh.size,none⟩) (hi - lo) (cap - lo)) es []:=by
 obtain⟨v,es,ebs,rfl,m1,m2⟩:=h
 rcases m2 with⟨rfl,_,_⟩|⟨g',cap',cur,rfl,m3,m4,m5,m6,m7,rfl⟩
 · simp at hc
 simp only[List.cons.injEq,Value.slice.injEq,Option.some.injEq,Addr.mk.injEq,and_true]at hc
 obtain⟨rfl,rfl,rfl⟩:=hc
 have hz:=RepL.still_nil hst m1
 subst hz
 have hel:=m1.len fun _ _ _ hr=>hr.len
 have hys:((x.drop lo).take (hi - lo)).length=hi - lo:=by rw[List.length_take,List.length_drop];omega
 have hcut:=m1.cut (k:=sh.size) (n:=lo) (m:=hi) (fun _ _ _ hr=>hr.len) h1 h2
 rw[List.drop_take]at hcut
 refine⟨_,⟨_,cap' - lo,by rw[hys],fun h=>by split at h<;>simp at h,?_⟩,hcut⟩
 by_cases hlt:lo<hi
 · right
   have hne:¬ cap'=lo:=by omega
   have hk:=Nat.mul_le_mul_right sh.size h2
   have hk2:=Nat.mul_le_mul_right sh.size m4
   have hk3:lo * sh.size+(hi - lo) * sh.size=hi * sh.size:=by rw[←Nat.add_mul];congr 1;omega
   have hl:((es.drop (lo * sh.size)).take ((hi - lo) * sh.size)).length=(hi - lo) * sh.size:=by rw[List.length_take,List.length_drop,hel];omega
   refine⟨g',lo * sh.size,by rw[if_neg hne],cur,e,(0,0),m3,by rw[hl];omega,?_⟩
   rw[hl,←m7,List.drop_take,List.take_take,Nat.min_eq_left (by omega)]
 · left
   exact List.eq_nil_of_length_eq_zero (by rw[hys];omega)
theorem items_ok (h:Rel rc [] C s X w0 a w) {v:Val} {c:Value} {e:TypeId} {sh:Sh} {oo:O} {ys:List sh.den} {s1:St} (hv:VOk w (fzOf X w ([]++allB rc (s.roots++C.roots))) (getR C s) rc v c)
  (hi:items C s v=some ⟨e,sh,oo,ys,s1⟩) :
  ∃ rc1 ebs rest es,Rel rc1 ((ebs++rest)++[]) C s1 X w0 a w∧Row w (fzOf X w ((ebs++rest)++[]++allB rc1 (s1.roots++C.roots))) e sh oo ys c es ebs∧
   TakeR (getR C s) (getR C s1) rc rc1∧(∀ b,b∈(ebs++rest)++[]++allB rc1 (s1.roots++C.roots)→b∈[]++allB rc (s.roots++C.roots))∧rowSh C s v=some (.sl e sh):=by
 cases v with
 | t s0 o0 x=>
   obtain⟨cs,hre,rfl⟩:=hv
   have hre:Rep w (fzOf X w ([]++allB rc (s.roots++C.roots))) s0 o0 x cs []:=hre
   cases s0<;>try (simp[items]at hi;done)
   rename_i e0 a0
   cases o0 with
   | z=>
     simp only[items,Option.some.injEq]at hi
     cases hi
     obtain⟨c,es,rfl,g⟩:=row_z hre
     exact⟨rc,[],[],es,h,g,.refl _ _,fun b hb=>hb,rfl⟩
   | own o1=>
     simp only[items,Option.some.injEq]at hi
     cases hi
     obtain⟨c,es,ebs,g,rfl,k1,k2⟩:=row_own hre
     obtain⟨rfl,rfl⟩:=List.append_eq_nil_iff.mp (List.nil_perm.mp k2)
     exact⟨rc,[],[],es,h,k1,.refl _ _,fun b hb=>hb,rfl⟩
   |_=>simp[items]at hi
 | own key p=>
   have hv0:=hv
   obtain⟨cs,hvc,rfl⟩:=hv
   simp only[items]at hi
   cases hr:getR C s key with
   |none=>rw[hr]at hi;simp at hi
   | some r=>
     rw[hr]at hi
     simp only at hi
     cases ho:oP r.o p with
     |none=>rw[ho]at hi;simp at hi
     | some o0=>
       cases hg:getP r.s r.x p with
       |none=>rw[ho,hg]at hi;cases o0<;>simp at hi
       | some tv=>
         obtain⟨s0,x0⟩:=tv
         rw[ho,hg]at hi
         cases s0<;>try (cases o0<;>simp at hi;done)
         rename_i e0 a0
         obtain⟨hin,_,hc,_⟩:=hvc r hr
         have hrow:rowSh C s (.own key p)=some (.sl e0 a0):=by simp only[rowSh,hr];exact getP_shP hg
         obtain⟨cs',bs',g1,g2,g3⟩:=(h.root hr).1.get hg ho hin
         rw[hc]at g1;cases g1
         cases o0 with
         | z=>
           simp only[Option.some.injEq]at hi
           cases hi
           have:=g2.z_nil;subst this
           obtain⟨c,es,rfl,g⟩:=row_z g2
           exact⟨rc,[],[],es,h,g,.refl _ _,fun b hb=>hb,hrow⟩
         | own o1=>
           simp only at hi
           cases hst:o1.still with
           | true=>
             rw[hst]at hi
             simp only[Option.some.injEq]at hi
             cases hi
             obtain⟨c,es,ebs,g,rfl,k1,k2⟩:=row_own g2
             have:=RepL.still_nil hst k1.els
             subst this
             exact⟨rc,[],[],es,h,k1,.refl _ _,fun b hb=>hb,hrow⟩
           | false=>
             rw[hst]at hi
             simp only at hi
             cases hin2:inner p with
             |true=>rw[hin2]at hi;simp at hi
             | false=>
               cases hs2:setO r.o p .dead with
               |none=>rw[hin2,hs2]at hi;simp at hi
               | some o'=>
                 rw[hin2,hs2]at hi
                 simp only at hi
                 cases hre:reRoot C s key ⟨r.box,r.box&&r.inn,r.s,o',r.x⟩with
                 |none=>rw[hre]at hi;simp at hi
                 | some s'=>
                   rw[hre]at hi
                   simp only[Option.some.injEq]at hi
                   cases hi
                   have ht:takeV C s (.own key p)=some (⟨.sl e sh,.own oo,ys⟩,s1):=by
                    simp[takeV,takeOwn,hr,ho,hg,hin2,hs2,hre]
                   obtain⟨rc1,ls,cs',m1,m2,m3,m4,m5,m6⟩:=take_whole h hv0 ht
                   obtain⟨c,es,ebs,g,rfl,k1,k2⟩:=row_own m2
                   refine⟨rc1,ebs,g,es,m1.exPerm (by simpa using k2),?_,m5,fun b hb=>m6 b ?_,hrow⟩
                   · rw[m3]
                     refine⟨k1.hd,k1.els.mono fun x _ c b _ hr=>hr.stable (fun i hi=>⟨⟨hi.1,fun hm=>hi.2 ?_,hi.3⟩,rfl⟩) fun _ _=>rfl⟩
                     have:=k2.mem_iff (a:=i)
                     simp only[List.append_nil,List.mem_append]at hm this ⊢
                     rcases hm with hm|hm
                     · exact .inl (this.mpr hm)
                     · exact .inr hm
                   · have:=k2.mem_iff (a:=b)
                     simp only[List.append_nil,List.mem_append]at hb this ⊢
                     rcases hb with hm|hm
                     · exact .inl (this.mpr hm)
                     · exact .inr hm
         |_=>simp at hi
 | sub key p lo hi2=>
   have hv0:=hv
   obtain⟨cs,hvc,rfl⟩:=hv
   simp only[items]at hi
   cases hr:getR C s key with
   |none=>rw[hr]at hi;simp at hi
   | some r=>
     rw[hr]at hi
     simp only at hi
     cases ho:oP r.o p with
     |none=>rw[ho]at hi;simp at hi
     | some o0=>
       rw[ho]at hi
       cases o0<;>try (simp at hi;done)
       rename_i o1
       cases hg:getP r.s r.x p with
       |none=>rw[hg]at hi;simp at hi
       | some tv=>
         obtain⟨s0,x0⟩:=tv
         rw[hg]at hi
         cases s0<;>try (simp at hi;done)
         rename_i e0 a0
         simp only at hi
         have hsp:=getP_shP hg
         have hrow:rowSh C s (.sub key p lo hi2)=some (.sl e0 a0):=by simp only[rowSh,hr];exact hsp
         obtain⟨g,n,cap,e',sa,q1,q2,q3,q4,q5,q6,rfl⟩:=hvc r hr
         rw[hsp]at q4
         simp only[Option.some.injEq,Sh.sl.injEq]at q4
         obtain⟨rfl,rfl⟩:=q4
         obtain⟨cs',bs',g1,g2,g3⟩:=(h.root hr).1.get hg ho q1
         rw[q3]at g1;cases g1
         cases hst:o1.still with
         | true=>
           rw[hst]at hi
           simp only[Option.some.injEq]at hi
           cases hi
           obtain⟨es,hR⟩:=row_sub g2 hst rfl q5 q6
           exact⟨rc,[],[],es,h,hR,.refl _ _,fun b hb=>hb,hrow⟩
         | false=>
           rw[hst]at hi
           simp only at hi
           cases hC:look key C.roots with
           |some _=>rw[hC]at hi;simp at hi
           |none=>
           cases hin:inner p with
           |true=>rw[hC,hin]at hi;simp at hi
           |false=>
           cases hal:o1.alive with
           |false=>rw[hC,hin,hal]at hi;simp at hi
           |true=>
           cases hs2:setO r.o p (.own .z)with
           |none=>rw[hC,hin,hal,hs2]at hi;simp at hi
           | some o2=>
             rw[hC,hin,hal,hs2]at hi
             simp only[Option.some.injEq]at hi
             cases hi
             obtain⟨rc1,h1,hv1,hT⟩:=weaken_ok h hr hC hin ho hal hs2 ⟨_,_,hsp⟩
             have hr1:getR C ⟨s.tmps,upd key ⟨r.box,r.inn,r.s,o2,r.x⟩ s.roots⟩ key=some ⟨r.box,r.inn,r.s,o2,r.x⟩:=by rw[getR_upd (ts:=s.tmps)];simp
             have ho2:oP o2 p=some (.own .z):=setO_get hs2
             obtain⟨T1,T2⟩:=hT
             obtain⟨r',t1,t2,t3,t4⟩:=T1 key _ hr1
             rw[hr]at t1;cases t1
             have q3':cellsP w r.s (rc1 key).cs p=some [.slice (some ⟨g,0,none⟩) n cap]:=by rw[t3];exact q3
             obtain⟨cs'',bs'',k1,k2,_⟩:=(h1.root hr1).1.get hg ho2 q1
             rw[q3']at k1;cases k1
             obtain⟨es,hR⟩:=row_sub k2 rfl rfl q5 q6
             exact⟨rc1,[],[],es,h1,hR,T1,T2,hrow⟩
 |_=>simp[items]at hi
theorem append_types {t t2 e e2 ty:TypeId} (h1:P.underlying t=some (.slice e)) (h2:P.underlying t2=some (.slice e2)) (u v:Value) :
  (Builtin.append_ #[t,t2] ty #[u,v]).run P w=(Builtin.append_ #[t,t] ty #[u,v]).run P w:=by
 have z:∀ t' e',P.underlying t'=some (.slice e')→(do pure ((← underlying t') matches .int _):Sem Bool).run P w = .ok false w:=by
  intro t' e' h;simp[run_underlying h]
 unfold Builtin.append_
 cases u<;>simp only[List.getElem?_toArray,List.getElem?_cons_zero,List.getElem?_cons_succ,Sem.run_bind,run_underlying h1,run_underlying h2,Result.andThen_ok,Sem.run_pure]
theorem append_none {t e ty:TypeId} {i:TypeInfo} (ht:P.underlying t=some (.slice e)) (hi:P.info? e=some i) {v:Value} {n cap base:Nat} {xs:List Value} (hown:w.ownsRow base e i.size v n xs) :
  (Builtin.append_ #[t,t] ty #[v,.slice none 0 cap]).run P w = .ok v w:=by
 rcases hown.2 with⟨rfl,rfl⟩|⟨g,cap,cur,rfl,_,_,hnc,_⟩
 · simp[Builtin.append_,run_underlying ht,sizeOf,typeInfo,hi,Builtin.lenOf,Builtin.firstCells]
 · simp[Builtin.append_,run_underlying ht,sizeOf,typeInfo,hi,Builtin.lenOf,Builtin.firstCells,hnc,storeCells]
end
end Go.V
namespace Go.V
open Go
section
variable {P:Program} {E:Env} {C s:St} {X:Fr} {w0 w:World} {a:Act} {rc:Nat→RC} {o:Oper} {d:Nat} {K:Val×St→Prop}
theorem RepL.app {fz:Nat→Prop} {sh:Sh} {oo:O}:∀ {xs ys:List sh.den} {es fs:List Value} {b1 b2:List Nat},RepL (Rep w fz sh oo) xs es b1→RepL (Rep w fz sh oo) ys fs b2→RepL (Rep w fz sh oo) (xs++ys) (es++fs) (b1++b2):=by
 intro xs
 induction xs with
 |nil=>rintro ys es fs b1 b2 ⟨rfl,rfl⟩ h;simpa using h
 | cons x xs ih=>
   rintro ys es fs b1 b2 ⟨c1,c2,d1,d2,rfl,rfl,h1,h2⟩ h
   exact⟨c1,c2++fs,d1,d2++b2,by simp,by simp,h1,ih h2 h⟩
theorem RepL.one {fz:Nat→Prop} {sh:Sh} {oo:O}:∀ {xs:List sh.den} {es:List Value} {b1:List Nat},RepL (Rep w fz sh oo) xs es b1→∀ v∈es,v.oneCell'=true:=by
 intro xs
 induction xs with
 |nil=>rintro es b1 ⟨rfl,_⟩;simp
 | cons x xs ih=>
   rintro es b1 ⟨c1,c2,d1,d2,rfl,rfl,h1,h2⟩ v hv
   rcases List.mem_append.mp hv with hv|hv
   · exact h1.one v hv
   · exact ih h2 v hv
theorem nodup_split {l l1 l2:List Nat} (hp:l.Perm (l1++l2)) (hn:l.Nodup):∀ b∈l1,b∉l2:=by
 intro b h1 h2
 exact(List.nodup_append.mp (hp.nodup_iff.mp hn)).2.2 b h1 b h2 rfl
theorem append_core (h:Rel rc [] C s X w0 a w) {t t2 ty e e2:TypeId} {sh:Sh} {u v:Val} {cu cv:Value} {s1 s2 s3:St} {ox oy o':O} {xs ys:List sh.den}
  (h1:ShOk P (.sl e sh) none t) (h2:ShOk P (.sl e2 sh) none t2)
  (hu:VOk w (fzOf X w ([]++allB rc (s.roots++C.roots))) (getR C s) rc u cu) (hv:VOk w (fzOf X w ([]++allB rc (s.roots++C.roots))) (getR C s) rc v cv)
  (hi:items C s v=some ⟨e,sh,oy,ys,s1⟩) (ht:takeV C s1 u=some (⟨.sl e sh,.own ox,xs⟩,s2)) (hm:meet ox oy=some o') (hl:xs.length+ys.length≤maxL)
  (hn:newRoot C s2 d ⟨false,false,.sl e sh,.own o',xs++ys⟩=some s3) :
  ∃ c w1 rc1,(Builtin.append_ #[t,t2] ty #[cu,cv]).run P w = .ok c w1∧Rel rc1 [] C s3 X w0 a w1∧VOk w1 (fzOf X w1 ([]++allB rc1 (s3.roots++C.roots))) (getR C s3) rc1 (.own d []) c:=by
 obtain⟨rc1,ebs,rest,es,g1,g2,g3,g4,_⟩:=items_ok h hv hi
 obtain⟨u1,_,u2,u3,u4⟩:=h1
 obtain⟨ie,i1,i2,i3,_⟩:=u3.info
 have hby:ie.bytes≤128:=by simpa [Program.bytesOf,i1]using u4
 have hne:=takeV_plain ht
 obtain⟨cs,k1,k2⟩:=hu.cells hne.1 hne.2.1 hne.2.2
 have k1':=k1.vc0.take (fz1:=fzOf X w (ebs++rest++[]++allB rc1 (s1.roots++C.roots))) (fun b hb=>⟨hb.1,fun hm=>hb.2 (g4 b hm),hb.3⟩) g3
 rw[takeV_agg ht k1']at k2
 obtain⟨rc2,ls,m1,m2,_,m4⟩:=takeV_ok u g1 ht k1'
 simp only at m2
 have hcu:cu=packV false cs:=k2
 obtain⟨vx,exs,xbs,rfl,n1,n2⟩:=m2
 have hcu:cu=vx:=hcu
 subst hcu
 obtain⟨⟨A,cap,rfl,hA,hB⟩,hels⟩:=g2
 have hlx:=n1.len fun _ _ _ hr=>hr.len
 have hly:=hels.len fun _ _ _ hr=>hr.len
 have hown:w.ownsRow 0 e sh.size cu xs.length exs:=by
  refine⟨hlx,?_⟩
  rcases n2 with⟨rfl,hx,rfl⟩|⟨g,cp,cur,rfl,q1,q2,q3,q4,q5,rfl⟩
  · exact .inl ⟨rfl,by rw[show xs=[] from hx];rfl⟩
  · exact .inr ⟨g,cp,cur,rfl,Nat.zero_le _,q1,q2,q3,q4,q5⟩
 have hzs:(packV (aggS sh) (zcells sh)).cells.size=sh.size:=by
  have:∀ s:Sh,(zcells s).length=s.size:=by
   intro s
   induction s with
   |pair a b iha ihb=>simp[zcells,Sh.size,iha,ihb]
   |tok a b iha ihb=>simp[zcells,Sh.size,iha,ihb]
   |md a ih=>exact ih
   |_=>rfl
  have one:∀ s:Sh,∀ c∈zcells s,c.oneCell'=true:=by
   intro s
   induction s with
   |pair a b iha ihb=>intro c hc;rcases List.mem_append.mp hc with hc|hc;exact iha c hc;exact ihb c hc
   |tok a b iha ihb=>intro c hc;rcases List.mem_append.mp hc with hc|hc;exact iha c hc;exact ihb c hc
   |md a ih=>exact ih
   |_=>simp[zcells,Value.oneCell']
  rw[←Array.length_toList,cells_pack (this sh) (one sh),this sh]
 unfold maxL at hl
 obtain ⟨v',w1,r1,r2,r3,r4⟩:∃ v' w1,(Builtin.append_ #[t,t2] ty #[cu,.slice A ys.length cap]).run P w = .ok v' w1∧w1.ownsRow 0 e sh.size v' (xs.length+ys.length) (exs++es)∧w.grownBy w1 cu.ownBlock∧
   (v'.ownBlock=cu.ownBlock∨v'.ownBlock=some w.heap.size):=by
  rw[append_types u1 h2.1]
  cases A with
  | none=>
    have:=hA rfl
    subst this
    obtain rfl:es=[]:=hels.1
    exact⟨cu,w,append_none u1 i1 (by rw[i2];exact hown),by simpa using hown,⟨rfl,rfl,rfl,Nat.le_refl _,fun _ _ _=>rfl⟩,.inl rfl⟩
  | some ad=>
    obtain⟨v',w1,r1,r2,r3,_,r5⟩:=run_append_own_at (P:=P) w 0 t ty e ie _ sh.size ie.bytes u1 i1 i3 i2 rfl hzs u2 cu xs.length exs hown ad ys.length cap es hly
     (by
      intro j x hj
      rcases hB with rfl|⟨b,off,hAd,hc⟩
      · obtain rfl:es=[]:=hels.1
        simp at hj
      · cases hAd
        rw[add_none]
        have hrd:=hc.read (i:=0) (n:=es.length) (by omega)
        rw[List.drop_zero,List.take_length,Nat.add_zero]at hrd
        exact cell_of_read hrd j x hj)
     hels.one (by unfold maxLen;omega) (by
      calc (xs.length+ys.length) * ie.bytes≤1099511627776 * 128:=Nat.mul_le_mul hl hby
       _≤_:=by omega) (Nat.zero_le _)
    exact⟨v',w1,r1,r2,r3,r5⟩
 obtain⟨l1,l2⟩:=meet_le hm
 obtain⟨p1,q1,a1,a2⟩:=RepL.weak (fun hr=>hr.weak l1) n1
 obtain⟨p2,q2,b1,b2⟩:=RepL.weak (fun hr=>hr.weak l2) hels
 have hnd:(ls++(ebs++rest)).Nodup:=by
  have m1':Rel rc2 ((ls++(ebs++rest))++[]) C s2 X w0 a w:=by simpa using m1
  exact m1'.ls_nodup
 have hlt:∀ b∈ls++(ebs++rest),b<w.heap.size:=fun b hb=>(m1.bnd b (by simp at hb ⊢;rcases hb with h|h|h<;>simp[h])).1
 have hlsx:∀ b∈xbs,b∈ls:=by
  rcases n2 with⟨_,hx,rfl⟩|⟨g,cp,cur,_,_,_,_,_,_,rfl⟩
  · intro b hb
    obtain rfl:xs=[]:=hx
    rw[n1.2]at hb;simp at hb
  · simp +contextual
 have hxnd:∀ b∈xbs,some b≠cu.ownBlock:=by
  rcases n2 with⟨rfl,hx,rfl⟩|⟨g,cp,cur,rfl,_,_,_,_,_,rfl⟩
  · simp[Value.ownBlock]
  · intro b hb he
    simp[Value.ownBlock]at he
    subst he
    exact(List.nodup_cons.mp (List.nodup_append.mp hnd).1).1 hb
 have hob:∀ b,some b=cu.ownBlock→b∈ls:=by
  rcases n2 with⟨rfl,hx,rfl⟩|⟨g,cp,cur,rfl,_,_,_,_,_,rfl⟩
  · simp[Value.ownBlock]
  · intro b he;simp[Value.ownBlock]at he;simp[he]
 have hbs2:∀ b∈p1++p2,b∈ls++(ebs++rest)∧some b≠cu.ownBlock:=by
  intro b hb
  rcases List.mem_append.mp hb with hb|hb
  · have hb':=a1.mem_iff.mpr (List.mem_append_left _ hb)
    exact⟨by simp[hlsx b hb'],hxnd b hb'⟩
  · have hb':=b1.mem_iff.mpr (List.mem_append_left _ hb)
    refine⟨by simp[hb'],fun he=>?_⟩
    exact(List.nodup_append.mp hnd).2.2 b (hob b he) b (by simp[hb']) rfl
 have hstay:∀ b,b<w.heap.size→some b≠cu.ownBlock→w1.heap[b]? = w.heap[b]?:=r3.block
 have hpnd:(p1++p2).Nodup:=by
  have e1:xbs.Nodup:=by
   rcases n2 with⟨_,hx,rfl⟩|⟨g,cp,cur,_,_,_,_,_,_,rfl⟩
   · obtain rfl:xs=[]:=hx
     rw[n1.2];exact List.nodup_nil
   · exact(List.nodup_cons.mp (List.nodup_append.mp hnd).1).2
  have e2:ebs.Nodup:=(List.nodup_append.mp (List.nodup_append.mp hnd).2.1).1
  refine List.nodup_append.mpr ⟨(List.nodup_append.mp (a1.nodup_iff.mp e1)).1,(List.nodup_append.mp (b1.nodup_iff.mp e2)).1,?_⟩
  rintro x hx y hy rfl
  have hx':=hlsx x (a1.mem_iff.mpr (List.mem_append_left _ hx))
  have hy':=b1.mem_iff.mpr (List.mem_append_left q2 hy)
  exact(List.nodup_append.mp hnd).2.2 x hx' x (by simp[hy']) rfl
 obtain⟨gb,hgb,hgb2⟩:∃ gb:List Nat,(v'.ownBlock=none∧gb=[]∨∃ g,v'.ownBlock=some g∧gb=[g])∧∀ b∈gb,b<w1.heap.size∧(b∈ls∨w.heap.size≤b)∧b∉p1++p2:=by
  rcases r2.2 with⟨rfl,_⟩|⟨g,cp,cur,rfl,_,hg,_⟩
  · exact⟨[],.inl ⟨rfl,rfl⟩,by simp⟩
  · refine⟨[g],.inr ⟨g,rfl,rfl⟩,fun b hb=>?_⟩
    obtain rfl:b=g:=by simpa using hb
    refine⟨?_,?_,?_⟩
    · rcases Nat.lt_or_ge b w1.heap.size with h|h
      · exact h
      · rw[Array.getElem?_eq_none h]at hg;simp at hg
    · rcases r4 with h|h
      · exact .inl (hob b (by rw[←h];rfl))
      · simp[Value.ownBlock]at h;exact .inr (Nat.le_of_eq h.symm)
    · intro hm
      obtain⟨k1,k2⟩:=hbs2 b hm
      rcases r4 with h|h
      · exact k2 (by rw[←h];rfl)
      · simp[Value.ownBlock]at h
        have:=hlt b k1
        omega
 have hrel:=Rel.new (hdr:=run_drawn r1) (ls:=ls++(ebs++rest)) (ex:=[]) (q:=⟨[v'],gb++(p1++p2),0⟩) (w1:=w1) (by simpa using m1) hn r3.size r3.os r3.tape r3.output
  (fun b hb hnb=>hstay b hb fun he=>hnb (by simp[hob b he]))
  (by
   simp only[blocks]
   refine List.nodup_append.mpr ⟨by rcases hgb with⟨_,rfl⟩|⟨g,_,rfl⟩<;>simp,hpnd,?_⟩
   rintro x hx y hy rfl
   exact(hgb2 x hx).2.2 hy)
  (by
   intro b hb
   simp only[blocks]at hb
   rcases List.mem_append.mp hb with hb|hb
   · exact⟨(hgb2 b hb).1,(hgb2 b hb).2.1.imp (by simp +contextual) id⟩
   · exact⟨Nat.lt_of_lt_of_le (hlt b (hbs2 b hb).1) r3.size,.inl (hbs2 b hb).1⟩)
  (fun fz1 f1 f2=>by
   refine⟨?_,by simp⟩
   have hf:∀ b,fzOf X w (ls++(ebs++rest)++[]++allB rc2 (s2.roots++C.roots)) b→fz1 b∧w1.heap[b]? = w.heap[b]?:=by
    intro b hb
    exact⟨f1 b hb,hstay b hb.1 fun he=>hb.2 (by simp[hob b he])⟩
   have hdrop:∀ b∈ls++(ebs++rest),b∉gb→b∉p1++p2→fz1 b:=by
    intro b hb h1 h2
    exact f2 b hb (by simp only[blocks,List.mem_append];rintro (h|h);exact h1 h;exact h2 (List.mem_append.mpr h))
   have hgn:∀ b∈ls++(ebs++rest),some b≠cu.ownBlock→b∉gb:=by
    intro b hb hne hm
    rcases hgb with⟨_,rfl⟩|⟨g,hg,rfl⟩
    · simp at hm
    · obtain rfl:b=g:=by simpa using hm
      rcases r4 with h|h
      · exact hne (by rw[←h];exact hg.symm)
      · rw[hg]at h;simp at h
        have:=hlt b hb;omega
   have hxs:RepL (Rep w1 fz1 sh o') xs exs p1:=by
    refine a2 w1 fz1 (fun b hb=>hf b (by simpa using hb)) (fun b hb=>hstay b (hlt b (by simp[hlsx b hb])) (hxnd b hb)) fun b hb=>?_
    have hbx:=a1.mem_iff.mpr (List.mem_append_right p1 hb)
    have hbl:=hlsx b hbx
    refine hdrop b (by simp[hbl]) (hgn b (by simp[hbl]) (hxnd b hbx)) ?_
    intro hm
    rcases List.mem_append.mp hm with hm|hm
    · have e1:xbs.Nodup:=by
       rcases n2 with⟨_,hx,rfl⟩|⟨g,cp,cur,_,_,_,_,_,_,rfl⟩
       · obtain rfl:xs=[]:=hx
         rw[n1.2];exact List.nodup_nil
       · exact(List.nodup_cons.mp (List.nodup_append.mp hnd).1).2
      exact nodup_split a1 e1 b hm hb
    · have hy':=b1.mem_iff.mpr (List.mem_append_left q2 hm)
      exact(List.nodup_append.mp hnd).2.2 b hbl b (by simp[hy']) rfl
   have hys:RepL (Rep w1 fz1 sh o') ys es p2:=by
    have hne:∀ b∈ebs,some b≠cu.ownBlock:=by
     intro b hb he
     exact(List.nodup_append.mp hnd).2.2 b (hob b he) b (by simp[hb]) rfl
    refine b2 w1 fz1 (fun b hb=>hf b ⟨hb.1,fun hm=>hb.2 (m4 b (by simpa using hm)),hb.3⟩) (fun b hb=>hstay b (hlt b (by simp[hb])) (hne b hb)) fun b hb=>?_
    have hbx:=b1.mem_iff.mpr (List.mem_append_right p2 hb)
    refine hdrop b (by simp[hbx]) (hgn b (by simp[hbx]) (hne b hbx)) ?_
    intro hm
    rcases List.mem_append.mp hm with hm|hm
    · have hx':=hlsx b (a1.mem_iff.mpr (List.mem_append_left q1 hm))
      exact(List.nodup_append.mp hnd).2.2 b hx' b (by simp[hbx]) rfl
    · exact nodup_split b1 (List.nodup_append.mp (List.nodup_append.mp hnd).2.1).1 b hm hb
   have happ:=hxs.app hys
   have hlen:List.length (xs++ys)=xs.length+ys.length:=List.length_append
   refine⟨v',exs++es,p1++p2,rfl,happ,?_⟩
   rcases r2.2 with⟨rfl,h0⟩|⟨g,cp,cur,rfl,_,hg,c1,c2,c3,c4⟩
   · left
     have hx0:xs=[]:=List.eq_nil_of_length_eq_zero (by omega)
     have hy0:ys=[]:=List.eq_nil_of_length_eq_zero (by omega)
     subst hx0;subst hy0
     refine⟨rfl,rfl,?_⟩
     rcases hgb with⟨_,rfl⟩|⟨g,hg,_⟩
     · rw[hxs.2,hys.2];rfl
     · simp[Value.ownBlock]at hg
   · right
     refine⟨g,cp,cur,by rw[show List.length (xs++ys)=_ from hlen],hg,by rw[show List.length (xs++ys)=_ from hlen];exact c1,c2,c3,by rw[show List.length (xs++ys)=_ from hlen];exact c4,?_⟩
     rcases hgb with⟨hg',_⟩|⟨g',hg',rfl⟩
     · simp[Value.ownBlock]at hg'
     · simp[Value.ownBlock]at hg';subst hg';rfl)
 refine⟨v',w1,_,r1,hrel,own_vok (getR_new hn) (by simp[setRc])⟩
end
end Go.V
namespace Go.V
open Go
section
variable {P:Program} {E:Env} {C s:St} {X:Fr} {w0 w:World} {a:Act} {rc:Nat→RC} {o:Oper} {d:Nat} {K:Val×St→Prop}
theorem map_one {α β:Type} {f:α→β} {l:Array α} {y:β} (h:l.toList.map f=[y]):∃ x,l = #[x]∧f x=y:=by
 cases hl:l.toList with
 |nil=>rw[hl]at h;simp at h
 | cons x t=>
   rw[hl]at h
   simp at h
   obtain⟨h1,rfl⟩:=h
   exact⟨x,by apply Array.ext';simp[hl],h1⟩
theorem map_two {α β:Type} {f:α→β} {l:Array α} {y z:β} (h:l.toList.map f=[y,z]):∃ x u,l = #[x,u]∧f x=y∧f u=z:=by
 cases hl:l.toList with
 |nil=>rw[hl]at h;simp at h
 | cons x t=>
   rw[hl]at h
   cases t with
   |nil=>simp at h
   | cons u t=>
     simp at h
     obtain⟨h1,h2,rfl⟩:=h
     exact⟨x,u,by apply Array.ext';simp[hl],h1,h2⟩
theorem builtin_pure (hE:∀ t s,E.sh t=some s→ShOk P s none t) (h:Rel rc [] C s X w0 a w) {c:Call} {b:Builtin} (ho:o.op = .call c) (hc:c.callee = .builtin b) (hb:b≠.append) (hb2:b≠.copy) (hb3:b≠.clear) (hk:opV E C o d s K) :
  PureOk P o C s X w a rc K (fun _=>True):=by
 obtain⟨consts,hrun⟩:=builtin_run (P:=P) (a:=a) ho hc
 simp only[opV,ho,hc]at hk
 cases hv:evalAll C s (c.argTypes.toList.map E.sh) c.args.toList with
 |none=>rw[hv]at hk;exact hk.elim
 | some vs=>
   simp only[hv]at hk
   cases hr:rowsOk C s b (c.argTypes.toList.map E.sh) vs with
   |false=>rw[hr]at hk;exact hk.elim
   | true=>
     simp only[hr]at hk
     have hall:=evalAll_ok h hv
     have fin:∀ {r:Val} {cv:Value},(∀ w',(builtin b c.argTypes o.type consts (c.args.map a.eval)).run P w' = .ok (.value cv) w')→VOk w (fzOf X w ([]++allB rc (s.roots++C.roots))) (getR C s) rc r cv→K (r,s)→
       PureOk P o C s X w a rc K (fun _=>True):=by
      intro r cv g1 g2 g3
      exact pure_runs (fun w' _=>(hrun w').trans (g1 w')) g2 g3
     have args:∀ {l:List Value},c.args.toList.map a.eval=l→c.args.map a.eval=l.toArray:=by
      rintro l rfl;apply Array.ext';simp
     cases b with
     | len=>
       cases vs with
       |nil=>exact hk.elim
       | cons v vs=>
         cases vs with
         |cons _ _=>exact hk.elim
         | nil=>
           obtain⟨cv,l,e1,h1,rfl⟩:=hall
           cases hsh:c.argTypes.toList.map E.sh with
           |nil=>rw[hsh]at hr;simp[rowsOk]at hr
           | cons sh shs=>
             cases shs with
             |cons _ _=>rw[hsh]at hr;simp[rowsOk]at hr
             | nil=>
               obtain⟨t,e2,e3⟩:=map_one hsh
               rw[hsh,←e3]at hr
               simp only[builtinV]at hk
               cases hl:lenV C s v with
               |none=>rw[hl]at hk;exact hk.elim
               | some n=>
                 rw[hl]at hk
                 obtain⟨g1,g2,g3⟩:=lenV_ok hE h (ty:=o.type) h1 hr hl
                 refine fin (r:=.t (.int .i64) .z n) ?_ (vok_int g2 g3) (hk (by simpa [IntKind.max,IntKind.signed,IntKind.bits]using g3))
                 intro w'
                 rw[args e1,e2]
                 simp only[builtin]
                 exact val_run (g1 w')
     | min=>
       cases vs with
       |nil=>exact hk.elim
       | cons u vs=>
         cases vs with
         | nil => cases u<;>try (exact hk.elim)
                  rename_i su ou x;cases su<;>cases ou<;>exact hk.elim
         | cons v vs=>
           obtain⟨cu,_,e1,h1,cv,_,rfl,h2,h3⟩:=hall
           cases u<;>try (exact hk.elim)
           rename_i su ou x
           cases su<;>try (exact hk.elim)
           rename_i k
           cases ou<;>try (exact hk.elim)
           cases v<;>try (exact hk.elim)
           rename_i sv ov y
           cases sv<;>try (exact hk.elim)
           rename_i j
           cases ov<;>try (exact hk.elim)
           cases vs with
           |cons _ _=>exact hk.elim
           | nil=>
             obtain rfl:=h3
             simp only[builtinV]at hk
             cases hd:decEq k j with
             |isFalse _=>rw[hd]at hk;exact hk.elim
             | isTrue e=>
               rw[hd]at hk
               subst e
               obtain⟨rfl,a1,a2⟩:=VOk.int h1
               obtain⟨rfl,b1,b2⟩:=VOk.int h2
               have hmr:=(minI_range (k:=k) (x:=x) (y:=y) ⟨a1,a2⟩ ⟨b1,b2⟩).1
               refine fin (r:=.t (.int k) .z (minI x y)) (cv:=.int k (minI x y)) ?_ (vok_int hmr.1 hmr.2) hk
               intro w'
               rw[args e1]
               simp only[builtin]
               refine val_run ?_
               simp[Builtin.min_,Builtin.min2,minI]
     | max=>
       cases vs with
       |nil=>exact hk.elim
       | cons u vs=>
         cases vs with
         | nil => cases u<;>try (exact hk.elim)
                  rename_i su ou x;cases su<;>cases ou<;>exact hk.elim
         | cons v vs=>
           obtain⟨cu,_,e1,h1,cv,_,rfl,h2,h3⟩:=hall
           cases u<;>try (exact hk.elim)
           rename_i su ou x
           cases su<;>try (exact hk.elim)
           rename_i k
           cases ou<;>try (exact hk.elim)
           cases v<;>try (exact hk.elim)
           rename_i sv ov y
           cases sv<;>try (exact hk.elim)
           rename_i j
           cases ov<;>try (exact hk.elim)
           cases vs with
           |cons _ _=>exact hk.elim
           | nil=>
             obtain rfl:=h3
             simp only[builtinV]at hk
             cases hd:decEq k j with
             |isFalse _=>rw[hd]at hk;exact hk.elim
             | isTrue e=>
               rw[hd]at hk
               subst e
               obtain⟨rfl,a1,a2⟩:=VOk.int h1
               obtain⟨rfl,b1,b2⟩:=VOk.int h2
               have hmr:=(minI_range (k:=k) (x:=x) (y:=y) ⟨a1,a2⟩ ⟨b1,b2⟩).2
               refine fin (r:=.t (.int k) .z (maxI x y)) (cv:=.int k (maxI x y)) ?_ (vok_int hmr.1 hmr.2) hk
               intro w'
               rw[args e1]
               simp only[builtin]
               refine val_run ?_
               simp[Builtin.max_,Builtin.max2,maxI]
     |append=>exact absurd rfl hb
     |copy=>exact absurd rfl hb2
     |clear=>exact absurd rfl hb3
     |_=>cases vs<;>exact hk.elim
theorem append_ok (hE:∀ t s,E.sh t=some s→ShOk P s none t) (h:Rel rc [] C s X w0 a w) {c:Call} (ho:o.op = .call c) (hc:c.callee = .builtin .append) (hk:opV E C o d s K) :
  Runs P o a w (OpPost C X w0 a K):=by
 obtain⟨consts,hrun⟩:=builtin_run (P:=P) (a:=a) ho hc
 simp only[opV,ho,hc]at hk
 cases hv:evalAll C s (c.argTypes.toList.map E.sh) c.args.toList with
 |none=>rw[hv]at hk;exact hk.elim
 | some vs=>
   simp only[hv]at hk
   cases hr:rowsOk C s .append (c.argTypes.toList.map E.sh) vs with
   |false=>rw[hr]at hk;exact hk.elim
   | true=>
     simp only[hr]at hk
     have hall:=evalAll_ok h hv
     have args:∀ {l:List Value},c.args.toList.map a.eval=l→c.args.map a.eval=l.toArray:=by
      rintro l rfl;apply Array.ext';simp
     cases vs with
     |nil=>exact hk.elim
     | cons u vs=>
       cases vs with
       |nil=>exact hk.elim
       | cons v vs=>
         cases vs with
         |cons _ _=>exact hk.elim
         | nil=>
           obtain⟨cu,_,e1,h1,cv,_,rfl,h2,rfl⟩:=hall
           cases hsh:c.argTypes.toList.map E.sh with
           |nil=>rw[hsh]at hr;simp[rowsOk]at hr
           | cons sh1 shs=>
             cases shs with
             |nil=>rw[hsh]at hr;simp[rowsOk]at hr
             | cons sh2 shs=>
               cases shs with
               |cons _ _=>rw[hsh]at hr;simp[rowsOk]at hr
               | nil=>
                 obtain⟨t1,t2,e2,e3,e4⟩:=map_two hsh
                 rw[hsh,←e3,←e4]at hr
                 simp only[rowsOk,Bool.and_eq_true]at hr
                 obtain⟨⟨hr1,hr2⟩,hr3⟩:=hr
                 simp only[builtinV,appendV]at hk
                 cases hi:items C s v with
                 |none=>rw[hi]at hk;exact hk.elim
                 | some r=>
                   obtain⟨eb,shb,ob,ys,s1⟩:=r
                   simp only[hi]at hk
                   cases ha:nilAs (E.sh o.type) u with
                   |none=>rw[ha]at hk;exact hk.elim
                   | some u'=>
                     simp only[ha]at hk
                     have hu':VOk w (fzOf X w ([]++allB rc (s.roots++C.roots))) (getR C s) rc u' cu:=by
                      cases u<;>try (simp only[nilAs,Option.some.injEq]at ha;subst ha;exact h1)
                      obtain⟨_,rfl,rfl⟩:=h1
                      exact constV_ok ha
                     cases ht:takeV C s1 u' with
                     |none=>rw[ht]at hk;exact hk.elim
                     | some ux=>
                       obtain⟨⟨us,uo,ux⟩,s2⟩:=ux
                       simp only[ht]at hk
                       cases us<;>try (exact hk.elim)
                       rename_i ea sha
                       simp only at hk
                       cases uo with
                       | own ox=>
                         cases hcd:castD (.sl ea sha) (.sl eb shb) ys with
                         |none=>rw[hcd]at hk;exact hk.elim
                         | some ys'=>
                           simp only[hcd]at hk
                           obtain⟨hsl,rfl⟩:=castD_some hcd
                           obtain⟨rfl,rfl⟩:=Sh.sl.inj hsl
                           cases hm:meet ox ob with
                           |none=>rw[hm]at hk;exact hk.elim
                           | some o'=>
                             simp only[hm,M.need,M.bind]at hk
                             obtain⟨hlen,hk⟩:=hk
                             cases hn:newRoot C s2 d ⟨false,false,.sl eb shb,.own o',(show List shb.den from ux)++(show List shb.den from ys)⟩with
                             |none=>rw[hn]at hk;exact hk.elim
                             | some s3=>
                               rw[hn]at hk
                               obtain⟨_,_,_,_,_,_,_,_,hrow⟩:=items_ok h h2 hi
                               obtain⟨q,f1,f2⟩:=sameO_eq hr2
                               rw[hrow]at f1;cases f1
                               obtain⟨q,f3,f4⟩:=sameO_eq hr3
                               rw[f2]at f4;cases f4
                               obtain⟨cr,w1,rc1,g1,g2,g3⟩:=append_core (ty:=o.type) h (hE _ _ f3) (hE _ _ f2) hu' h2 hi ht hm hlen hn
                               refine Runs.value ((hrun w).trans ?_) ⟨_,s3,rc1,hk,g2,g3⟩
                               rw[args e1,e2]
                               simp only[builtin]
                               exact val_run g1
                       |_=>exact hk.elim
end
end Go.V
namespace Go.V
open Go
theorem setP_shP:∀ {p:List Step} {s:Sh} {x x1:s.den} {s':Sh} {y:s'.den},setP s x p ⟨s',y⟩=some x1→shP s p=some s':=by
 intro p
 induction p with
 | nil => intro s x x1 s' y h;have h:castD s s' y=some x1:=by cases s<;>simpa [setP]using h
          obtain⟨rfl,_⟩:=castD_some h;cases s'<;>rfl
 | cons q p ih=>
   intro s x x1 s' y h
   cases q with
   | f=>
     cases s<;>try (simp[setP]at h;done)
     rename_i sa sb
     obtain⟨z,hz,_⟩:=setP_f h
     exact ih (s:=sa) hz
   | s=>
     cases s<;>try (simp[setP]at h;done)
     rename_i sa sb
     obtain⟨z,hz,_⟩:=setP_s h
     exact ih (s:=sb) hz
   | i n=>
     cases s<;>try (simp[setP]at h;done)
     rename_i e sa
     simp only[setP]at h
     cases hz:setP sa (List.getD x n sa.zv) p ⟨s',y⟩with
     |none=>rw[hz]at h;exact absurd (show(none:Option (Sh.sl e sa).den)=some x1 from h) (by simp)
     |some z=>exact ih (s:=sa) hz
theorem setO_oP:∀ {p:List Step} {o o1 o2:O},setO o p o2=some o1→∃ o0,oP o p=some o0:=by
 intro p
 induction p with
 |nil=>intro o o1 o2 _;exact⟨o,by cases o<;>rfl⟩
 | cons q p ih=>
   intro o o1 o2 h
   cases o<;>cases q<;>try (simp[setO]at h;done)
   · exact⟨_,oP_zz⟩
   · exact⟨_,oP_zz⟩
   · simp only[setO,Option.map_eq_some_iff]at h;obtain⟨y,hy,_⟩:=h;exact ih hy
   · simp only[setO,Option.map_eq_some_iff]at h;obtain⟨y,hy,_⟩:=h;exact ih hy
section
variable {P:Program} {E:Env} {C s:St} {X:Fr} {w0 w:World} {a:Act} {rc:Nat→RC} {o:Oper} {d:Nat} {K:Val×St→Prop}
theorem run_storeAt {sh:Sh} {t:TypeId} (h:ShOk P sh none t) {g off:Nat} {cur:Array Value} {e:TypeId} (hg:w.heap[g]? = some (.cells cur e (0,0))) {c:Value} {cs:List Value} (hc:c.cells.toList=cs) (hl:cs.length=sh.size)
  (h1:∀ v∈cs,v.oneCell'=true) (hfit:off+sh.size≤cur.size) :
  (Instr.storeAt t (.pointer (some ⟨g,off,none⟩)) c).run P w = .ok () (w.setRow g (repl off cs cur.toList).toArray):=by
 have hsz:c.cells.size=sh.size:=by rw[←Array.length_toList,hc,hl]
 have hs:=run_storeCells_at (P:=P) g off e cs 0 cur w hg (by omega) h1
 simp only[Instr.storeAt,Instr.sureAddr,storeVar,Sem.run_bind,Sem.run_pure,Result.andThen_ok,h.run_size,hsz,ne_eq,not_true_eq_false,if_false,hc,hs]
 simp[repl,hsz]
theorem store_box (h:Rel rc [] C s X w0 a w) {key:Nat} {p:List Step} {v:Val} {ca cv:Value} {s1 s2:St} {u:OV} {r:Root} {o':O} {x':r.s.den} {t:TypeId}
  (ha:VOk w (fzOf X w ([]++allB rc (s.roots++C.roots))) (getR C s) rc (.baddr key p) ca) (hv:VOk w (fzOf X w ([]++allB rc (s.roots++C.roots))) (getR C s) rc v cv)
  (ht:takeV C s v=some (u,s1)) (hr:getR C s1 key=some r) (hbox:r.box=true) (ho:setO r.o p u.o=some o') (hx:setP r.s r.x p ⟨u.s,u.x⟩=some x') (hsh:ShOk P u.s none t)
  (hs2:(u.s.flat=true∧inRoot C s1 key ⟨r.box,r.inn,r.s,o',x'⟩=some s2)∨reRoot C s1 key ⟨r.box,r.box&&r.inn,r.s,o',x'⟩=some s2) :
  ∃ w1 rc1,(Instr.storeAt t ca cv).run P w = .ok () w1∧Rel rc1 [] C s2 X w0 a w1:=by
 obtain⟨rc1,ls,cs2,g1,g2,g3,g4,g5,g6⟩:=take_whole h hv ht
 obtain⟨cs,k1,rfl⟩:=ha
 have k1:=k1.vc0.take (fz1:=fun _=>True) (fun _ _=>trivial) g5
 obtain⟨off,hloc,rfl⟩:=k1 r hr hbox
 have hok:=g1.root hr
 obtain⟨cur,e,hheap,hcur⟩:=hok.2 hbox
 have hsp:=setP_shP hx
 obtain⟨xo,hg⟩:=getP_of_shP r.x hsp
 obtain⟨o0,ho0⟩:=setO_oP ho
 have hin:=inner_of_loc hloc
 obtain⟨off',cs',bs',rest,e1,e2,e3,e4,e5,e6,e7⟩:=hok.1.setField hin hg ho0
 rw[hloc]at e1;cases e1
 have hl2:=g2.len
 have hone:=g2.one
 let w1:=w.setRow (rc1 key).blk (repl off cs2 cur.toList).toArray
 have hw1:w1.heap[(rc1 key).blk]? = some (.cells (repl off cs2 cur.toList).toArray e (0,0)):=setRow_heap w _ cur _ e _ hheap
 have hw2:∀ b,b≠(rc1 key).blk→w1.heap[b]? = w.heap[b]?:=fun b hb=>setRow_other w _ b _ hb
 have hrun:=run_storeAt (P:=P) hsh hheap g4 hl2 hone (off:=off) (by rw[←Array.length_toList,hcur];exact e3)
 have hnb:=g1.blocks_nodup hr
 have hblk:(rc1 key).blk∈blocks r (rc1 key):=by simp[blocks,hbox]
 have hmem:∀ b∈blocks r (rc1 key),b∈ls++[]++allB rc1 (s1.roots++C.roots):=fun b hb=>List.mem_append_right _ (mem_allB.mpr ⟨key,r,(mem_getR g1.keys).mp hr,hb⟩)
 have hdis:∀ b∈ls,b∉blocks r (rc1 key):=by
  intro b hb hm
  exact(List.nodup_append.mp g1.excl).2.2 b (by simp[hb]) b (mem_allB.mpr ⟨key,r,(mem_getR g1.keys).mp hr,hm⟩) rfl
 have hblkn:(rc1 key).blk∉(rc1 key).bs:=by
  have:=hnb;rw[blocks_box,hbox]at this;simpa using (List.nodup_cons.mp (by simpa using this)).1
 have hbsn:(rc1 key).bs.Nodup:=by have:=hnb;rw[blocks_box,hbox]at this;exact(List.nodup_cons.mp (by simpa using this)).2
 have hbb:∀ b∈(rc1 key).bs,b∈blocks r (rc1 key):=by intro b hb;rw[blocks_box];simp[hb]
 have hrest:∀ b∈rest,b∈(rc1 key).bs:=fun b hb=>e6.mem_iff.mpr (by simp[hb])
 have upd:∀ fz1:Nat→Prop,(∀ b,fzOf X w (ls++[]++allB rc1 (s1.roots++C.roots)) b→fz1 b)→
   ∃ x3 bsn,setP r.s r.x p ⟨u.s,u.x⟩=some x3∧Rep w1 fz1 r.s o' x3 (repl off cs2 (rc1 key).cs) bsn∧bsn.Perm (ls++rest):=by
  intro fz1 hf
  have hfb:∀ b,fzOf X w (ls++[]++allB rc1 (s1.roots++C.roots)) b→fz1 b∧w1.heap[b]? = w.heap[b]?:=by
   intro b hb
   exact⟨hf b hb,hw2 b fun he=>hb.2 (he ▸ hmem _ hblk)⟩
  refine e7 w1 fz1 u.o u.x cs2 ls o' hfb (fun b hb=>hw2 b fun he=>hblkn (he ▸ hrest b hb)) ?_ ho
  exact g2.stable hfb fun b hb=>hw2 b fun he=>hdis b hb (he ▸ hblk)
 obtain⟨x3,bsn,u1,u2,u3⟩:=upd _ fun b hb=>hb
 rw[hx]at u1;cases u1
 have upd':∀ fz1:Nat→Prop,(∀ b,fzOf X w (ls++[]++allB rc1 (s1.roots++C.roots)) b→fz1 b)→Rep w1 fz1 r.s o' x' (repl off cs2 (rc1 key).cs) bsn:=
  fun fz1 hf=>u2.stable (fun b hb=>⟨hf b hb,rfl⟩) fun _ _=>rfl
 have hbn:∀ b∈bsn,b∈ls∨b∈(rc1 key).bs:=by
  intro b hb
  rcases List.mem_append.mp (u3.mem_iff.mp hb)with hb|hb
  · exact .inl hb
  · exact .inr (hrest b hb)
 have hbnn:((rc1 key).blk::bsn).Nodup:=by
  refine List.nodup_cons.mpr ⟨fun hm=>?_,u3.nodup_iff.mpr (List.nodup_append.mpr ⟨g1.ls_nodup,(List.nodup_append.mp (e6.nodup_iff.mp hbsn)).2.1,?_⟩)⟩
  · rcases hbn _ hm with hm|hm
    · exact hdis _ hm hblk
    · exact hblkn hm
  · rintro b hb c hc rfl
    exact hdis b hb (hbb b (hrest b hc))
 have gen:∀(inn':Bool) (ts:List (Nat×Val)),(inn'=true→r.inn=true)→look key C.roots=none→ts.Sublist s1.tmps→
   (∀ t v,(t,v)∈ts++C.tmps→refs false key v=true→u.s.flat=true)→
   Rel (setRc rc1 key ⟨repl off cs2 (rc1 key).cs,bsn,(rc1 key).blk⟩) [] C ⟨ts,Go.V.upd key ⟨r.box,inn',r.s,o',x'⟩ s1.roots⟩ X w0 a w1:=by
  intro inn' ts hinn hC hts href
  have:=Rel.setRoot (ls:=ls) (ex:=[]) (r:=⟨r.box,inn',r.s,o',x'⟩) (q:=⟨repl off cs2 (rc1 key).cs,bsn,(rc1 key).blk⟩) (ts:=ts) (w1:=w1) g1 (ls++blocks r (rc1 key)) [] hC (fun hi=>⟨r,getR_s hC hr,hinn hi,rfl,fun hb=>by simp[hbox]at hb,fun _=>rfl⟩)
   (by intro b hb;rcases List.mem_append.mp hb with hb|hb
       · exact .inl hb
       · exact .inr ⟨r,getR_s hC hr,hb⟩)
   (by simp[w1,World.setRow]) rfl rfl rfl
   (fun b _ hb=>hw2 b fun he=>hb (he ▸ List.mem_append_right _ hblk))
   (by simpa [blocks,hbox]using hbnn) (by simp)
   (by
    intro b hb
    simp only[blocks,hbox,List.mem_cons]at hb
    have hm:b∈ls++blocks r (rc1 key):=by
     rcases hb with rfl|hb
     · exact List.mem_append_right _ hblk
     · rcases hbn b hb with hb|hb
       · exact List.mem_append_left _ hb
       · exact List.mem_append_right _ (hbb b hb)
    refine⟨?_,.inl hm⟩
    have:b<w.heap.size:=by
     rcases List.mem_append.mp hm with hm|hm
     · exact g1.ls_lt hm
     · exact(g1.bnd b (hmem b hm)).1
    simpa [w1,World.setRow]using this)
   (fun fz1 hf _=>⟨upd' fz1 hf,fun _=>⟨_,e,hw1,by simp[hcur]⟩⟩)
   hts
   (by
    intro t' v' htv
    refine⟨fun p' hrf=>?_,fun _ r1 hr1 hb1=>?_⟩
    · have hflat:=href t' v' htv (refsAt_refs hrf)
      intro r1 hr1
      rw[getR_upd (ts:=s1.tmps)]at hr1
      simp at hr1;subst hr1
      refine⟨r,hr,rfl,fun c e' a' q1 q2 q3 q4=>⟨InB_setP hin hsp hflat q3 hx q1,oP_setO hin hsp hflat q3 ho q2,?_⟩⟩
      simp only[setRc,if_true]
      rw[cellsP_repl hloc hsp hflat q3 hl2 hok.1.len]
      exact hok.1.cellsP_stable (fun b hb=>hw2 b fun he=>hb.2 (he ▸ hmem _ hblk)) (fun b hb=>hw2 b fun he=>hblkn (he ▸ hb)) q1 q2 q4
    · rw[getR_upd (ts:=s1.tmps)]at hr1
      simp at hr1;subst hr1
      exact⟨r,hr,hb1,rfl,by simp[setRc]⟩)
  simpa using this
 refine⟨w1,setRc rc1 key ⟨repl off cs2 (rc1 key).cs,bsn,(rc1 key).blk⟩,hrun,?_⟩
 rcases hs2 with⟨hflat,hs2⟩|hs2
 · unfold inRoot at hs2
   split at hs2
   · rename_i hC
     cases hs2
     exact gen _ _ (fun h=>h) hC (List.Sublist.refl _) fun _ _ _ _=>hflat
   · simp at hs2
 · unfold reRoot at hs2
   split at hs2
   · rename_i hC hA
     cases hs2
     refine gen _ _ (fun h=>by simp at h;exact h.2) hC (killT_sub _ _ _) fun t' v' htv hrf=>?_
     have:refs false key v'=false:=by
      rcases List.mem_append.mp htv with h'|h'
      · exact(killT_mem h').2
      · exact anyRef_false hA h'
     rw[this]at hrf;simp at hrf
   · simp at hs2
end
end Go.V
namespace Go.V
open Go
theorem setO_own:∀ {p:List Step} {o o' oe o2:O},inner p=false→oP o p=some (.own oe)→le oe o2=true→setO o p (.own o2)=some o'→
  le o o'=true∧o'≠.z∧(∀ q,oP o' (p++q)=oP (.own o2) q∧rowOwn o' (p++q)=rowOwn (.own o2) q)∧∀ q,inner q=false→(∃ x,oP o q=some x)→∃ x,oP o' q=some x:=by
 intro p
 induction p with
 | nil=>
   intro o o' oe o2 _ h1 h2 h3
   have e1:o = .own oe:=by cases o<;>(simp[oP]at h1;try exact congrArg _ h1)
   have e2:O.own o2=o':=by cases o<;>simpa [setO]using h3
   subst e1;subst e2
   refine⟨by simpa [le]using h2,by simp,fun q=>⟨rfl,rfl⟩,fun q hq hx=>?_⟩
   cases q with
   |nil=>exact⟨_,rfl⟩
   |cons r q=>obtain⟨x,hx⟩:=hx;cases r<;>first|(simp[oP]at hx;done)|(simp[inner]at hq)
 | cons q p ih=>
   intro o o' oe o2 hi h1 h2 h3
   have hi':inner p=false:=by cases q<;>simp[inner]at hi ⊢<;>exact hi
   cases q with
   | f=>
     cases o<;>try (simp[oP]at h1;done)
     · rw[show oP .z (.f::p)=oP .z p from rfl,oP_zz]at h1;simp at h1
     · simp only[setO,Option.map_eq_some_iff]at h3
       obtain⟨y,hy,rfl⟩:=h3
       obtain⟨g1,g2,g3,g4⟩:=ih hi' (by simpa [oP]using h1) h2 hy
       rename_i x b
       have:prz y b = .pr y b:=by cases y<;>cases b<;>simp[prz]at g2 ⊢
       rw[this]
       refine⟨by simp[le,g1,le_refl'],by simp,fun q=>g3 q,fun q hq hx=>?_⟩
       cases q with
       |nil=>exact⟨_,rfl⟩
       | cons r q=>
         have hq':inner q=false:=by cases r<;>simp[inner]at hq ⊢<;>exact hq
         cases r with
         |f=>exact g4 q hq' hx
         |s=>exact hx
         |i n=>simp[inner]at hq
   | s=>
     cases o<;>try (simp[oP]at h1;done)
     · rw[show oP .z (.s::p)=oP .z p from rfl,oP_zz]at h1;simp at h1
     · simp only[setO,Option.map_eq_some_iff]at h3
       obtain⟨y,hy,rfl⟩:=h3
       obtain⟨g1,g2,g3,g4⟩:=ih hi' (by simpa [oP]using h1) h2 hy
       rename_i x b
       have:prz x y = .pr x y:=by cases x<;>cases y<;>simp[prz]at g2 ⊢
       rw[this]
       refine⟨by simp[le,g1,le_refl'],by simp,fun q=>g3 q,fun q hq hx=>?_⟩
       cases q with
       |nil=>exact⟨_,rfl⟩
       | cons r q=>
         have hq':inner q=false:=by cases r<;>simp[inner]at hq ⊢<;>exact hq
         cases r with
         |s=>exact g4 q hq' hx
         |f=>exact hx
         |i n=>simp[inner]at hq
   |i n=>simp[inner]at hi
theorem inner_app {p q:List Step} {n:Nat}:inner (p ++ .i n::q)=true:=by
 induction p with
 |nil=>rfl
 |cons r p ih=>cases r<;>simp[inner,ih]
theorem locM_app {w:World}:∀ {p:List Step} {s:Sh} {cs:List Value} {g n cap i off:Nat} {e:TypeId} {a:Sh} {fp:List Step},cellsP w s cs p=some [.slice (some ⟨g,0,none⟩) n cap]→shP s p=some (.sl e a)→locP a fp=some off→
  locM w s cs (p ++ .i i::fp)=some (g,i * a.size+off):=by
 intro p
 induction p with
 | nil=>
   intro s cs g n cap i off e a fp h1 h2 h3
   have:s = .sl e a:=by cases s<;>(simp[shP]at h2;try (obtain⟨x1,x2⟩:=h2;subst x1;subst x2;rfl))
   subst this
   have:cs=[.slice (some ⟨g,0,none⟩) n cap]:=by simpa [cellsP]using h1
   subst this
   simp[locM,inner_of_loc h3,h3]
 | cons q p ih=>
   intro s cs g n cap i off e a fp h1 h2 h3
   cases q<;>cases s<;>try (simp[shP]at h2;done)
   · simp only[List.cons_append,locM];simp only[cellsP,shP]at h1 h2;exact ih h1 h2 h3
   · simp only[List.cons_append,locM];simp only[cellsP,shP]at h1 h2;exact ih h1 h2 h3
   · simp only[List.cons_append,locM];simp only[cellsP,shP]at h1 h2
     split at h1
     · rename_i ad n' cap'
       simp only[inner_app]
       cases hr:readC w ad.block (ad.off+_ * _) _ with
       |none=>rw[hr]at h1;simp at h1
       |some c=>rw[hr]at h1;exact ih h1 h2 h3
     · simp at h1
theorem InB_fields:∀ {p:List Step} {s s':Sh} (x:s.den),inner p=false→shP s p=some s'→InB s x p:=by
 intro p
 induction p with
 |nil=>intro s s' x _ _;cases s<;>trivial
 | cons q p ih=>
   intro s s' x hi h
   cases q<;>cases s<;>first|(simp[shP]at h;done)|(simp[inner]at hi;done)|exact ih _ (by simpa [inner]using hi) h
theorem cellsP_fields {w w1:World}:∀ {p:List Step} {s:Sh} {cs:List Value},inner p=false→cellsP w1 s cs p=cellsP w s cs p:=by
 intro p
 induction p with
 |nil=>intro s cs _;cases s<;>rfl
 | cons q p ih=>
   intro s cs hi
   cases q<;>cases s<;>first|rfl|(simp only[cellsP];exact ih (by simpa [inner]using hi))|(simp[inner]at hi;done)
theorem oP_prefix:∀ {p q:List Step} {o o':O},oP o (p++q)=some o'→∃ o0,oP o p=some o0:=by
 intro p
 induction p with
 |nil=>intro q o o' _;exact⟨o,by cases o<;>rfl⟩
 | cons r p ih=>
   intro q o o' h
   cases r<;>cases o<;>first|(simp[oP]at h;done)|(simp only[List.cons_append,oP]at h ⊢;exact ih h)
section
variable {P:Program} {E:Env} {C s:St} {X:Fr} {w0 w:World} {a:Act} {rc:Nat→RC} {o:Oper} {d:Nat} {K:Val×St→Prop}
theorem anyI_false {k t:Nat} {v:Val} {l:List (Nat×Val)} (h:anyI k l=false) (hm:(t,v)∈l):refsI k v=false:=by
 induction l with
 |nil=>simp at hm
 | cons q l ih=>
   obtain⟨j,u⟩:=q
   simp only[anyI,Bool.or_eq_false_iff]at h
   rcases List.mem_cons.mp hm with hm|hm
   · cases hm;exact h.1
   · exact ih h.2 hm
theorem reRootI_eq {k:Nat} {r:Root} {s1:St} (h:reRootI C s k r=some s1):look k C.roots=none∧anyI k C.tmps=false∧s1=⟨killI k s.tmps,upd k r s.roots⟩:=by
 unfold reRootI at h
 split at h
 · rename_i h1 h2;cases h;exact⟨h1,h2,rfl⟩
 · simp at h
theorem store_elem (h:Rel rc [] C s X w0 a w) {key i:Nat} {p fp:List Step} {v:Val} {ca cv:Value} {s1 s2:St} {u:OV} {r:Root} {o1 ol:O} {x':r.s.den} {t:TypeId}
  (ha:VOk w (fzOf X w ([]++allB rc (s.roots++C.roots))) (getR C s) rc (.eaddr key p i fp) ca) (hv:VOk w (fzOf X w ([]++allB rc (s.roots++C.roots))) (getR C s) rc v cv)
  (ht:takeV C s v=some (u,s1)) (hr:getR C s1 key=some r) (hx:setP r.s r.x (p ++ .i i::fp) ⟨u.s,u.x⟩=some x') (hsh:ShOk P u.s none t)
  (hle:le r.o o1=true) (hro:rowOwn o1 (p ++ .i i::fp)=true) (hol:oP o1 (p ++ .i i::fp)=some ol)
  (hval:∀ {w1:World} {fz fz1:Nat→Prop} {x0:u.s.den} {cs0 cs:List Value} {b0 bs:List Nat},Rep w fz u.s ol x0 cs0 b0→Rep w1 fz1 u.s u.o u.x cs bs→Weak w1 fz1 u.s ol u.x cs bs)
  (hpo:∀ q,inner q=false→(∃ x,oP r.o q=some x)→∃ x,oP o1 q=some x)
  (hs2:reRootI C s1 key ⟨r.box,r.inn,r.s,o1,x'⟩=some s2) :
  ∃ w1 rc1,(Instr.storeAt t ca cv).run P w = .ok () w1∧Rel rc1 [] C s2 X w0 a w1:=by
 obtain⟨rc1,ls,cs2,g1,g2,g3,g4,g5,g6⟩:=take_whole h hv ht
 obtain⟨cs,k1,rfl⟩:=ha
 have k1:=k1.vc0.take (fz1:=fun _=>True) (fun _ _=>trivial) g5
 obtain⟨g,n,cap,e,sa,off,q1,q2,q3,q4,q5,rfl⟩:=k1 r hr
 have hok:=g1.root hr
 have hsp:=setP_shP hx
 obtain⟨xo,hg⟩:=getP_of_shP r.x hsp
 obtain⟨bw,rw',hwp,hw⟩:=hok.1.weak hle
 have hbsn:(rc1 key).bs.Nodup:=by have:=g1.blocks_nodup hr;rw[blocks_box]at this;exact(List.nodup_append.mp this).2.1
 have hmem:∀ b∈blocks r (rc1 key),b∈ls++[]++allB rc1 (s1.roots++C.roots):=fun b hb=>List.mem_append_right _ (mem_allB.mpr ⟨key,r,(mem_getR g1.keys).mp hr,hb⟩)
 have hdis:∀ b∈ls,b∉blocks r (rc1 key):=by
  intro b hb hm
  exact(List.nodup_append.mp g1.excl).2.2 b (by simp[hb]) b (mem_allB.mpr ⟨key,r,(mem_getR g1.keys).mp hr,hm⟩) rfl
 have hbb:∀ b∈(rc1 key).bs,b∈blocks r (rc1 key):=by intro b hb;rw[blocks_box];simp[hb]
 have hbw:∀ b∈bw,b∈(rc1 key).bs:=fun b hb=>hwp.mem_iff.mpr (by simp[hb])
 have hbwn:(bw++rw').Nodup:=hwp.nodup_iff.mp hbsn
 have hrep:=hw w (fun b=>fzOf X w (ls++[]++allB rc1 (s1.roots++C.roots)) b∨b∈rw') (fun b hb=>⟨.inl hb,rfl⟩) (fun _ _=>rfl) fun b hb=>.inr hb
 obtain⟨x0,hg0⟩:=getP_of_shP r.x q3
 obtain⟨o0,ho0⟩:=oP_prefix hol
 have hin:InB r.s r.x (p ++ .i i::fp):=by
  obtain⟨cs0,bs0,m1,m2,_⟩:=hrep.get hg0 ho0 q1
  rw[q2]at m1;cases m1
  have hlen:n=List.length x0:=by
   cases o0 with
   |z=>obtain⟨A,cap',es,e1,_⟩:=m2;simp at e1;exact e1.2.1
   | own oa=>
     obtain⟨v,es,ebs,e1,_,e2⟩:=m2
     rcases e2 with⟨rfl,_⟩|⟨g',cap',cur,rfl,_⟩
     · simp at e1
     · simp at e1;exact e1.2.1
   |dead=>rw[oP_app ho0]at hol;simp[oP]at hol
   |pr _ _=>exact m2.elim
  exact(InB_app hg0).mpr ⟨q1,by rw[←hlen];exact q4,InB_of_loc _ q5⟩
 obtain⟨g',off',cur,e',cs',bs',rest,f1,f2,f3,f4,f5,f6,f7,f8,f9⟩:=hrep.setIn hro hin hg hol (List.nodup_append.mp hbwn).1
 rw[locM_app q2 q3 q5]at f1
 simp only[Option.some.injEq,Prod.mk.injEq]at f1
 obtain⟨rfl,rfl⟩:=f1
 obtain⟨p2,r2,hp2,hv2⟩:=hval f6 g2
 have hrun:=run_storeAt (P:=P) hsh f3 g4 g2.len g2.one (off:=i * sa.size+off) f4
 let w1:=w.setRow g (repl (i * sa.size+off) cs2 cur.toList).toArray
 have hw1:w1.heap[g]? = some (.cells (repl (i * sa.size+off) cs2 cur.toList).toArray e' (0,0)):=setRow_heap w _ cur _ e' _ f3
 have hw2:∀ b,b≠g→w1.heap[b]? = w.heap[b]?:=fun b hb=>setRow_other w _ b _ hb
 have hgbw:g∈bw:=f7.mem_iff.mpr (by simp[f8])
 have hgbs:g∈(rc1 key).bs:=hbw g hgbw
 have hgb:g∈blocks r (rc1 key):=hbb g hgbs
 have hrest:∀ b∈rest,b∈(rc1 key).bs:=fun b hb=>hbw b (f7.mem_iff.mpr (by simp[hb]))
 have hp2l:∀ b∈p2,b∈ls:=fun b hb=>hp2.mem_iff.mpr (by simp[hb])
 have hr2l:∀ b∈r2,b∈ls:=fun b hb=>hp2.mem_iff.mpr (by simp[hb])
 have hrwb:∀ b∈rw',b∈(rc1 key).bs:=fun b hb=>hwp.mem_iff.mpr (by simp[hb])
 have upd:∀ fz1:Nat→Prop,(∀ b,fzOf X w (ls++[]++allB rc1 (s1.roots++C.roots)) b→fz1 b)→(∀ b∈rw',fz1 b)→(∀ b∈r2,fz1 b)→
   ∃ x3 bsn,setP r.s r.x (p ++ .i i::fp) ⟨u.s,u.x⟩=some x3∧Rep w1 fz1 r.s o1 x3 (rc1 key).cs bsn∧bsn.Perm (p2++rest):=by
  intro fz1 hf hf1 hf2
  have hfb:∀ b,fzOf X w (ls++[]++allB rc1 (s1.roots++C.roots)) b→fz1 b∧w1.heap[b]? = w.heap[b]?:=by
   intro b hb
   exact⟨hf b hb,hw2 b fun he=>hb.2 (he ▸ hmem _ hgb)⟩
  refine f9 w1 fz1 u.x cs2 p2 _ (fun b hb=>?_) (fun b hb hne=>hw2 b hne) hw1 (by simp) ?_
  · rcases hb with hb|hb
    · exact hfb b hb
    · exact⟨hf1 b hb,hw2 b fun he=>(List.nodup_append.mp hbwn).2.2 g hgbw g (he ▸ hb) rfl⟩
  · exact hv2 w1 fz1 hfb (fun b hb=>hw2 b fun he=>hdis b hb (he ▸ hgb)) hf2
 obtain⟨x3,bsn,u1,u2,u3⟩:=upd (fun b=>fzOf X w (ls++[]++allB rc1 (s1.roots++C.roots)) b∨b∈rw'∨b∈r2) (fun b hb=>.inl hb) (fun b hb=>.inr (.inl hb)) (fun b hb=>.inr (.inr hb))
 rw[hx]at u1;cases u1
 have hbn:∀ b∈bsn,b∈ls∧b∈p2∨b∈(rc1 key).bs∧b∈rest:=by
  intro b hb
  rcases List.mem_append.mp (u3.mem_iff.mp hb)with hb|hb
  · exact .inl ⟨hp2l b hb,hb⟩
  · exact .inr ⟨hrest b hb,hb⟩
 have hlsn:=g1.ls_nodup
 have hbsnn:bsn.Nodup:=by
  refine u3.nodup_iff.mpr (List.nodup_append.mpr ⟨(List.nodup_append.mp (hp2.nodup_iff.mp hlsn)).1,(List.nodup_append.mp (f7.nodup_iff.mp (List.nodup_append.mp hbwn).1)).2.1,?_⟩)
  rintro b hb c hc rfl
  exact hdis b (hp2l b hb) (hbb b (hrest b hc))
 have hblk:r.box=true→(rc1 key).blk∉(rc1 key).bs∧(rc1 key).blk∈blocks r (rc1 key):=by
  intro hb
  have:=g1.blocks_nodup hr
  rw[blocks_box,hb]at this
  exact⟨(List.nodup_cons.mp (by simpa using this)).1,by simp[blocks,hb]⟩
 have hnew:∀ b,b∈blocks ⟨r.box,r.inn,r.s,o1,x'⟩ ⟨(rc1 key).cs,bsn,(rc1 key).blk⟩→(r.box=true∧b=(rc1 key).blk)∨b∈bsn:=by
  intro b hb
  rw[blocks_box]at hb
  rcases List.mem_append.mp hb with hb|hb
  · left
    simp only at hb
    split at hb
    · rename_i h;exact⟨h,by simpa using hb⟩
    · simp at hb
  · exact .inr hb
 have hnd:(blocks ⟨r.box,r.inn,r.s,o1,x'⟩ ⟨(rc1 key).cs,bsn,(rc1 key).blk⟩).Nodup:=by
  rw[blocks_box]
  refine List.nodup_append.mpr ⟨by simp only;split<;>simp,hbsnn,?_⟩
  rintro b hb c hc rfl
  simp only at hb
  split at hb
  · rename_i hbx
    obtain rfl:b=(rc1 key).blk:=by simpa using hb
    rcases hbn _ hc with hc|hc
    · exact hdis _ hc.1 (hblk hbx).2
    · exact(hblk hbx).1 hc.1
  · simp at hb
 have hmine:∀ b∈blocks ⟨r.box,r.inn,r.s,o1,x'⟩ ⟨(rc1 key).cs,bsn,(rc1 key).blk⟩,b∈ls++blocks r (rc1 key):=by
  intro b hb
  rcases hnew b hb with⟨h1,rfl⟩|hb
  · exact List.mem_append_right _ (hblk h1).2
  · rcases hbn b hb with hb|hb
    · exact List.mem_append_left _ hb.1
    · exact List.mem_append_right _ (hbb b hb.1)
 obtain⟨hC,hA,rfl⟩:=reRootI_eq hs2
 refine⟨w1,setRc rc1 key ⟨(rc1 key).cs,bsn,(rc1 key).blk⟩,hrun,?_⟩
 have:=Rel.setRoot (ls:=ls) (ex:=[]) (r:=⟨r.box,r.inn,r.s,o1,x'⟩) (q:=⟨(rc1 key).cs,bsn,(rc1 key).blk⟩) (ts:=killI key s1.tmps) (w1:=w1) g1 (ls++blocks r (rc1 key)) [] hC (fun hi=>⟨r,getR_s hC hr,hi,rfl,fun _=>rfl,fun _=>rfl⟩)
  (by intro b hb;rcases List.mem_append.mp hb with hb|hb
      · exact .inl hb
      · exact .inr ⟨r,getR_s hC hr,hb⟩)
  (by simp[w1,World.setRow]) rfl rfl rfl
  (fun b _ hb=>hw2 b fun he=>hb (he ▸ List.mem_append_right _ hgb))
  (by simpa using hnd) (by simp)
  (by
   intro b hb
   have hm:=hmine b hb
   refine⟨?_,.inl hm⟩
   have:b<w.heap.size:=by
    rcases List.mem_append.mp hm with hm|hm
    · exact g1.ls_lt hm
    · exact(g1.bnd b (hmem b hm)).1
   simpa [w1,World.setRow]using this)
  (fun fz1 hf hdrop=>by
   refine⟨u2.stable (fun b hb=>⟨?_,rfl⟩) fun _ _=>rfl,fun hbx=>?_⟩
   · rcases hb with hb|hb|hb
     · exact hf b hb
     · refine hdrop b (List.mem_append_right _ (hbb b (hrwb b hb))) (fun hm=>?_) (by simp)
       rcases hnew b hm with⟨h1,rfl⟩|hm
       · exact(hblk h1).1 (hrwb _ hb)
       · rcases hbn b hm with hm|hm
         · exact hdis b hm.1 (hbb b (hrwb b hb))
         · exact(List.nodup_append.mp hbwn).2.2 b (f7.mem_iff.mpr (by simp[hm.2])) b hb rfl
     · refine hdrop b (List.mem_append_left _ (hr2l b hb)) (fun hm=>?_) (by simp)
       rcases hnew b hm with⟨h1,rfl⟩|hm
       · exact hdis _ (hr2l _ hb) (hblk h1).2
       · rcases hbn b hm with hm|hm
         · exact(List.nodup_append.mp (hp2.nodup_iff.mp hlsn)).2.2 b hm.2 b hb rfl
         · exact hdis b (hr2l b hb) (hbb b hm.1)
   · obtain⟨cu,e2,k1,k2⟩:=hok.2 hbx
     exact⟨cu,e2,by rw[hw2 (rc1 key).blk (fun he=>(hblk hbx).1 (by rw[he];exact hgbs))];exact k1,k2⟩)
  (killI_sub _ _)
  (by
   intro t' v' htv
   refine⟨fun p' hrf=>?_,fun _ r1 hr1 hb1=>?_⟩
   · have hin':inner p'=false:=by
      rcases List.mem_append.mp htv with h'|h'
      · exact refsAt_I hrf (killI_mem h').2
      · exact refsAt_I hrf (anyI_false hA h')
     intro r1 hr1
     rw[getR_upd (ts:=s1.tmps)]at hr1
     simp at hr1;subst hr1
     refine⟨r,hr,rfl,fun c e' a' q1 q2 q3 q4=>⟨InB_fields _ hin' q3,hpo _ hin' q2,?_⟩⟩
     simp only[setRc,if_true]
     rw[cellsP_fields (w:=w) hin'];exact q4
   · rw[getR_upd (ts:=s1.tmps)]at hr1
     simp at hr1;subst hr1
     exact⟨r,hr,hb1,rfl,by simp[setRc]⟩)
 simpa using this
end
end Go.V
namespace Go.V
open Go
theorem setO_inner:∀ {p:List Step} {o o1 o2:O},setO o p o2=some o1→inner p=false:=by
 intro p
 induction p with
 |nil=>intro o o1 o2 _;rfl
 | cons q p ih=>
   intro o o1 o2 h
   cases o<;>cases q<;>try (simp[setO]at h;done)
   all_goals (simp only[setO,Option.map_eq_some_iff]at h;obtain⟨y,hy,_⟩:=h;simpa [inner]using ih hy)
theorem rowOwn_app:∀ {p q:List Step} {o o0:O},inner p=false→oP o p=some o0→rowOwn o (p++q)=rowOwn o0 q:=by
 intro p
 induction p with
 | nil => intro q o o0 _ h;have:o=o0:=by cases o<;>simpa [oP]using h
          subst this;rfl
 | cons r p ih=>
   intro q o o0 hi h
   cases o<;>cases r<;>try (simp[oP]at h;done)
   · rw[show oP .z (.f::p)=oP .z p from rfl,oP_zz]at h;cases h
     cases q<;>rfl
   · rw[show oP .z (.s::p)=oP .z p from rfl,oP_zz]at h;cases h
     cases q<;>rfl
   · simp[inner]at hi
   · simp[inner]at hi
   · exact ih (by simpa [inner]using hi) h
   · exact ih (by simpa [inner]using hi) h
section
variable {P:Program} {E:Env} {C s:St} {X:Fr} {w0 w:World} {a:Act} {rc:Nat→RC} {o:Oper} {d:Nat} {K:Val×St→Prop}
theorem store_ok (hE:∀ t s,E.sh t=some s→ShOk P s none t) (h:Rel rc [] C s X w0 a w) {t:TypeId} {x y:Operand} (ho:o.op = .store t x y) (hk:opV E C o d s K):Runs P o a w (OpPost C X w0 a K):=by
 simp only[opV,ho]at hk
 cases hx:evalV C s none x with
 |none=>rw[hx]at hk;exact hk.elim
 | some ad=>
   cases hy:evalV C s (E.sh t) y with
   |none=>rw[hx,hy]at hk;exact hk.elim
   | some v=>
     simp only[hx,hy]at hk
     cases hs:sameO (addrSh C s ad) (E.sh t)with
     |false=>rw[hs]at hk;exact hk.elim
     | true=>
       cases hst:storeV C s ad v with
       |none=>rw[hs,hst]at hk;exact hk.elim
       | some s2=>
         rw[hs,hst]at hk
         obtain⟨sh,e1,e2⟩:=sameO_eq hs
         have ha:=evalV_ok h hx
         have hv:=evalV_ok h hy
         suffices ∃ w1 rc1,(Instr.storeAt t (a.eval x) (a.eval y)).run P w = .ok () w1∧Rel rc1 [] C s2 X w0 a w1 by
          obtain⟨w1,rc1,g1,g2⟩:=this
          unfold Runs
          have:(execOp a.eval o).run P w = .ok .skip w1:=by
           rw[execOp];simp only[ho]
           simp[Sem.run_bind,g1]
          rw[this]
          exact⟨.undef,s2,rc1,hk,g2,trivial⟩
         unfold storeV at hst
         split at hst
         · simp at hst
         · rename_i u s1 ht
           obtain⟨rc1,ls,cs2,g1,g2,g3,g4,g5,g6⟩:=take_whole h hv ht
           split at hst
           · rename_i key p
             split at hst
             · rename_i r hr
               split at hst
               · rename_i o' x' hbox hso hsx
                 obtain⟨r0,hr0,hrr,_⟩:=g5 key r hr
                 have hb0:r0.box=true:=by rw[hrr]at hbox;exact hbox
                 have hsh0:r.s=r0.s:=by rw[hrr]
                 have hush:sh=u.s:=by
                  simp only[addrSh,hr0,hb0]at e1
                  have:=setP_shP hsx
                  rw[hsh0,e1]at this
                  exact Option.some.inj this
                 subst hush
                 refine store_box h ha hv ht hr hbox hso hsx (hE t _ e2) ?_
                 split at hst
                 · rename_i hf
                   exact .inl ⟨hf,by rw[hbox]at hst ⊢;exact hst⟩
                 · exact .inr (by rw[hbox]at hst ⊢;exact hst)
               · simp at hst
             · simp at hst
           · rename_i key p i fp
             split at hst
             · rename_i r hr
               split at hst
               · rename_i x' hsx
                 obtain⟨r0,hr0,hrr,_⟩:=g5 key r hr
                 have hsh0:r.s=r0.s:=by rw[hrr]
                 have hush:sh=u.s:=by
                  simp only[addrSh,hr0]at e1
                  have:=setP_shP hsx
                  rw[hsh0,e1]at this
                  exact Option.some.inj this
                 subst hush
                 split at hst
                 · rename_i oe hro hoe
                   split at hst
                   · rename_i hfl
                     simp only[Bool.and_eq_true]at hfl
                     refine store_elem h ha hv ht hr hsx (hE t _ e2) (le_refl' _) hro hoe ?_ (fun q _ hq=>hq) hst
                     intro w1 fz fz1 x0 cs0 cs b0 bs h1 h2
                     have:=h2.flat_nil hfl.1
                     subst this
                     have hz:Rep w1 fz1 u.s .z u.x cs []:=h2.freeze (fun _ hb=>hb) hfl.2 (by simp)
                     have:=Rep.flat hfl.1 h1 hz
                     exact⟨[],[],by simp,fun w2 fz2 hf _ _=>this.stable hf (by simp)⟩
                   · split at hst
                     · rename_i o2 hm
                       split at hst
                       · rename_i o' hso
                         have hi:=setO_inner hso
                         obtain⟨o0,ho0⟩:=oP_prefix hoe
                         have h1:=hro
                         rw[rowOwn_app hi ho0]at h1
                         have h2:=hoe
                         rw[oP_app ho0]at h2
                         obtain⟨oa,rfl⟩:∃ oa,o0 = .own oa:=by cases o0<;>simp[rowOwn]at h1;exact⟨_,rfl⟩
                         have:oa=oe:=by cases oa<;>simpa [oP]using h2
                         subst this
                         obtain⟨l1,l2⟩:=meet_le hm
                         obtain⟨k1,_,k3,k4⟩:=setO_own hi ho0 l1 hso
                         refine store_elem h ha hv ht hr hsx (hE t _ e2) k1 ?_ (ol:=o2) ?_ ?_ k4 hst
                         · rw[(k3 _).2];rfl
                         · rw[(k3 _).1];cases o2<;>rfl
                         · intro w1 fz fz1 x0 cs0 cs b0 bs h1 h2
                           exact h2.weak l2
                       · simp at hst
                     · simp at hst
                 · simp at hst
               · simp at hst
             · simp at hst
           · simp at hst
end
end Go.V
namespace Go.V
open Go
theorem RepL.intk {w:World} {fz:Nat→Prop} {k:IntKind}:∀ {x:List Int} {cs bs},RepL (α:=Int) (Rep w fz (.int k) .z) x cs bs→cs=x.map (Value.int k)∧bs=[]∧∀ y∈x,k.min≤y∧y≤k.max:=by
 intro x
 induction x with
 |nil=>rintro cs bs ⟨rfl,rfl⟩;exact⟨rfl,rfl,fun _ h=>by cases h⟩
 | cons a l ih=>
   rintro cs bs ⟨c1,c2,b1,b2,rfl,rfl,h1,h2⟩
   obtain⟨rfl,rfl,h3⟩:=ih h2
   obtain⟨rfl,_,h4⟩:=h1
   obtain⟨rfl,h5⟩:=h4 (by simp)
   refine⟨rfl,rfl,fun y hy=>?_⟩
   rcases List.mem_cons.mp hy with rfl|hy
   · exact h5
   · exact h3 y hy
theorem RepL.of_intk {w:World} {fz:Nat→Prop} {k:IntKind}:∀ {x:List Int},(∀ y∈x,k.min≤y∧y≤k.max)→RepL (α:=Int) (Rep w fz (.int k) .z) x (x.map (Value.int k)) []:=by
 intro x
 induction x with
 |nil=>intro _;exact⟨rfl,rfl⟩
 | cons a l ih=>
   intro h
   exact⟨[.int k a],_,[],[],rfl,rfl,⟨rfl,⟨rfl,by simp[Value.oneCell']⟩,fun _=>⟨rfl,h a (by simp)⟩⟩,ih fun y hy=>h y (by simp[hy])⟩
structure SrcOk (w:World) (k:IntKind) (cv:Value) (y:List Int):Prop where
 ex:∃ b off cap,cv = .slice (some ⟨b,off,none⟩) y.length cap∧∀ j v,(y.map (Value.int k))[j]? = some v→w.cell? ⟨b,off+j,none⟩=some v
 rng:∀ v∈y,k.min≤v∧v≤k.max
section
variable {P:Program} {E:Env} {C s:St} {X:Fr} {w0 w:World} {a:Act} {rc:Nat→RC} {o:Oper} {d:Nat} {K:Val×St→Prop}
theorem own_intk {fz:Nat→Prop} {e:TypeId} {k:IntKind} {x:List Int} {cs bs} (h:Rep w fz (.sl e (.int k)) (.own .z) x cs bs) (hx:0<x.length) :
  ∃ g cap cur,cs=[.slice (some ⟨g,0,none⟩) x.length cap]∧w.heap[g]? = some (.cells cur e (0,0))∧x.length≤cap∧cap≤maxLen∧cur.size=cap∧
   cur.toList.take x.length=x.map (Value.int k)∧bs=[g]∧∀ y∈x,k.min≤y∧y≤k.max:=by
 obtain⟨v,es,ebs,rfl,h1,h2⟩:=h
 obtain⟨rfl,rfl,hr⟩:=RepL.intk (x:=x) h1
 rcases h2 with⟨rfl,h3,rfl⟩|⟨g,cap,cur,rfl,h3,h4,h5,h6,h7,rfl⟩
 · have h3:x=[]:=h3
   subst h3;simp at hx
 · have h6:cur.size=cap * 1:=h6
   have h7:cur.toList.take (x.length * 1)=x.map (Value.int k):=h7
   rw[Nat.mul_one]at h6 h7
   exact⟨g,cap,cur,rfl,h3,h4,h5,h6,h7,rfl,hr⟩
theorem src_frozen {fz:Nat→Prop} {e:TypeId} {k:IntKind} {z:List Int} {cs:List Value} (h:Rep w fz (.sl e (.int k)) .z z cs []) (hz:0<z.length):SrcOk w k (packV false cs) z:=by
 obtain⟨A,cap,es,rfl,_,h2,h3,h4,h5⟩:=h
 obtain⟨rfl,_,hr⟩:=RepL.intk (x:=z) h4
 rcases h5 with h5|⟨b,off,rfl,_,hc⟩
 · have h5:z=[]:=h5
   rw[h5]at hz;simp at hz
 · refine⟨⟨b,off,cap,rfl,fun j v hj=>?_⟩,hr⟩
   have:=hc.read (i:=0) (n:=(z.map (Value.int k)).length) (by simp)
   simp only[Nat.add_zero,List.drop_zero,List.take_length]at this
   exact cell_of_read this j v hj
theorem src_sub {fz:Nat→Prop} {e:TypeId} {k:IntKind} {z:List Int} {cs:List Value} {bs:List Nat} {g n cap lo hi:Nat} (h:Rep w fz (.sl e (.int k)) (.own .z) z cs bs) (hc:cs=[.slice (some ⟨g,0,none⟩) n cap]) (h1:lo≤hi) (h2:hi≤n)
  (hy:0<((z.drop lo).take (hi - lo)).length):SrcOk w k (.slice (some ⟨g,lo,none⟩) (hi - lo) (cap - lo)) ((z.drop lo).take (hi - lo)):=by
 have hx0:0<z.length:=by simp only[List.length_take,List.length_drop]at hy;omega
 obtain⟨g',cap',cur,k1,k2,k3,k4,k5,k6,k7,k8⟩:=own_intk h hx0
 rw[hc]at k1
 simp only[List.cons.injEq,Value.slice.injEq,Option.some.injEq,Addr.mk.injEq,and_true]at k1
 obtain⟨rfl,rfl,rfl⟩:=k1
 refine⟨⟨g,lo,cap - lo,by simp;omega,fun i v hiv=>?_⟩,fun v hv=>k8 v (List.mem_of_mem_drop (List.mem_of_mem_take hv))⟩
 have hrd:=readC_of (off:=lo) (n:=hi - lo) k2 (by omega)
 refine cell_of_read hrd i v ?_
 rw[←hiv]
 congr 1
 rw[List.map_take,List.map_drop,←k6,List.drop_take,List.take_take,Nat.min_eq_left (by omega)]
theorem take_pos {z:List Int} {lo hi:Nat} (h:0<((z.drop lo).take (hi - lo)).length):lo<hi∧lo<z.length:=by
 rw[List.length_take,List.length_drop]at h
 omega
theorem copySrc_ok (h:Rel rc [] C s X w0 a w) {k:IntKind} {v:Val} {c:Value} {y:List Int} (hv:VOk w (fzOf X w ([]++allB rc (s.roots++C.roots))) (getR C s) rc v c) (hs:copySrc C s k v=some y) (hy:0<y.length):SrcOk w k c y:=by
 cases v with
 | t sh oo z=>
   cases sh<;>try (simp[copySrc]at hs;done)
   rename_i e sa
   cases sa<;>try (cases oo<;>simp[copySrc]at hs;done)
   rename_i j
   cases oo<;>try (simp[copySrc]at hs;done)
   simp only[copySrc]at hs
   cases hd:decEq j k with
   |isFalse _=>rw[hd]at hs;simp at hs
   | isTrue e'=>
     rw[hd]at hs
     subst e'
     have hs:(z:List Int)=y:=Option.some.inj hs
     subst hs
     obtain⟨cs,hr,rfl⟩:=hv
     exact src_frozen (z:=z) hr hy
 | sub key p lo hi=>
   cases p with
   |cons _ _=>simp[copySrc]at hs
   |nil=>
   simp only[copySrc]at hs
   cases hr:getR C s key with
   |none=>rw[hr]at hs;simp at hs
   | some r=>
     rw[hr]at hs
     simp only at hs
     have hok:=(h.root hr).1
     obtain⟨cs,hvc,rfl⟩:=hv
     obtain⟨g,n,cap,e,sa,q1,q2,q3,q4,q5,q6,rfl⟩:=hvc r hr
     obtain⟨box,inn,rs,ro,rx⟩:=r
     simp only at hs hok q1 q2 q3 q4
     split at hs<;>try (simp at hs;done)
     rename_i e' j z hg
     have hgn:getP rs rx []=some ⟨rs,rx⟩:=by cases rs<;>rfl
     rw[hgn]at hg
     simp only[Option.some.injEq,Sigma.mk.injEq]at hg
     obtain⟨rfl,hz⟩:=hg
     obtain rfl:=eq_of_heq hz
     cases hd:decEq j k with
     |isFalse _=>rw[hd]at hs;simp at hs
     | isTrue e'=>
       rw[hd]at hs
       subst e'
       have hs:((rx:List Int).drop lo).take (hi - lo)=y:=Option.some.inj hs
       simp only[shP,Option.some.injEq,Sh.sl.injEq]at q4
       obtain⟨rfl,rfl⟩:=q4
       subst hs
       obtain⟨hlh,hlx⟩:=take_pos (z:=rx) hy
       have hne:¬ cap=lo:=by
        obtain⟨g',cap',cur,k1,k2,k3,_⟩:=own_intk (x:=rx) hok (Nat.lt_of_le_of_lt (Nat.zero_le _) hlx)
        have q3':(rc key).cs=[.slice (some ⟨g,0,none⟩) n cap]:=by simpa [cellsP]using q3
        have k1:(rc key).cs=_:=k1
        rw[q3']at k1
        simp only[List.cons.injEq,Value.slice.injEq,Option.some.injEq,Addr.mk.injEq,and_true]at k1
        obtain⟨_,rfl,rfl⟩:=k1
        intro e
        have:=Nat.lt_of_lt_of_le hlx k3
        omega
       have:=src_sub (z:=rx) hok (by simpa [cellsP]using q3) q5 q6 hy
       rw[if_neg hne,show lo * (Sh.int j).size=lo from Nat.mul_one lo]
       exact this
 |_=>simp[copySrc]at hs
theorem copy_rep {fz:Nat→Prop} {e:TypeId} {k:IntKind} {x y:List Int} {cs:List Value} {bs:List Nat} {g n cap lo hi:Nat} (h:Rep w fz (.sl e (.int k)) (.own .z) x cs bs) (hc:cs=[.slice (some ⟨g,0,none⟩) n cap]) (h1:lo≤hi) (h2:hi≤n) (hlo:lo<x.length)
  (hy:∀ v∈y,k.min≤v∧v≤k.max):n=x.length∧bs=[g]∧∃ cur,w.heap[g]? = some (.cells cur e (0,0))∧lo+cpN y lo hi≤cur.size∧
   ∀(w1:World) (fz1:Nat→Prop),w1.heap[g]? = some (.cells (cur.toList.take lo++(y.take (cpN y lo hi)).map (Value.int k)++cur.toList.drop (lo+cpN y lo hi)).toArray e (0,0))→Rep w1 fz1 (.sl e (.int k)) (.own .z) (cpInt x y lo hi) cs [g]:=by
 obtain⟨g',cap',cur,k1,k2,k3,k4,k5,k6,k7,k8⟩:=own_intk h (by omega)
 rw[hc]at k1
 simp only[List.cons.injEq,Value.slice.injEq,Option.some.injEq,Addr.mk.injEq,and_true]at k1
 obtain⟨rfl,rfl,rfl⟩:=k1
 have hn:cpN y lo hi≤y.length∧cpN y lo hi≤hi - lo:=by unfold cpN;omega
 have hcl:cur.toList.length=cap:=by rw[Array.length_toList];exact k5
 have hlen:(cpInt x y lo hi).length=x.length:=by simp[cpInt];omega
 refine⟨rfl,k7,cur,k2,by omega,fun w1 fz1 hw=>?_⟩
 have hrng:∀ v∈cpInt x y lo hi,k.min≤v∧v≤k.max:=by
  intro v hv
  rcases List.mem_append.mp hv with hv|hv
  · exact k8 v (List.mem_of_mem_take hv)
  · rcases List.mem_append.mp hv with hv|hv
    · exact hy v (List.mem_of_mem_take hv)
    · exact k8 v (List.mem_of_mem_drop hv)
 refine⟨_,(cpInt x y lo hi).map (Value.int k),[],hc,RepL.of_intk hrng,.inr ⟨g,cap,_,?_,hw,?_,k4,?_,?_,rfl⟩⟩
 · show _=Value.slice _ (cpInt x y lo hi).length _
   rw[hlen]
 · show(cpInt x y lo hi).length≤cap
   omega
 · simp[Sh.size];omega
 · show List.take ((cpInt x y lo hi).length * 1) _=_
   rw[hlen,Nat.mul_one,cpInt]
   simp only[List.map_append,List.map_take,List.map_drop,←k6]
   rw[List.append_assoc,List.take_append,List.take_append]
   simp only[List.length_take,hcl,List.length_map]
   rw[List.take_take,List.take_take,List.take_take]
   congr 1
   · congr 1;omega
   · congr 1
     · congr 1;omega
     · rw[List.drop_take];congr 1;omega
theorem sl_only {e:TypeId} {k:IntKind} {q:List Step} {e':TypeId} {a':Sh} (h:shP (.sl e (.int k)) q=some (.sl e' a')):q=[]:=by
 cases q with
 |nil=>rfl
 |cons st q=>cases st<;>cases q<;>simp[shP]at h
theorem copy_core (h:Rel rc [] C s X w0 a w) {key:Nat} {inn:Bool} {e:TypeId} {k:IntKind} {x y:List Int} (hr:getR C s key=some ⟨false,inn,.sl e (.int k),.own .z,x⟩) (hC:look key C.roots=none) {lo hi g n cap:Nat}
  (hcs:(rc key).cs=[.slice (some ⟨g,0,none⟩) n cap]) (h1:lo≤hi) (h2:hi≤n) (hlo:lo<x.length) {cv:Value} (hy:SrcOk w k cv y) {t t2 ty:TypeId} (ht:ShOk P (.sl e (.int k)) none t) {dc:Nat} :
  ∃ w1 rc1,(Builtin.copy_ #[t,t2] ty #[.slice (some ⟨g,lo,none⟩) (hi - lo) dc,cv]).run P w = .ok (goInt (cpN y lo hi)) w1∧
   Rel rc1 [] C ⟨s.tmps,upd key ⟨false,inn,.sl e (.int k),.own .z,(cpInt x y lo hi:List Int)⟩ s.roots⟩ X w0 a w1:=by
 have hok:=h.root hr
 obtain⟨rfl,hbs,cur,hg,hfit,hnew⟩:=copy_rep (x:=x) (y:=y) hok.1 hcs h1 h2 hlo hy.rng
 obtain⟨⟨b,off,scap,rfl,hcell⟩,hrng⟩:=hy
 obtain⟨t1,_,_,⟨_,t4⟩,_⟩:=ht
 have hn:cpN y lo hi≤y.length:=by unfold cpN;omega
 have hrun:=run_copy_row P w t t2 ty e g lo (hi - lo) dc ⟨b,off,none⟩ y.length scap cur e ((y.take (cpN y lo hi)).map (Value.int k)) t1 (by obtain⟨i,q1,q2,_⟩:=t4;rw[q1];simp[q2,Sh.size])
  hg (by simp only[List.length_map,List.length_take];unfold cpN;show min (min y.length (hi - lo)) y.length=min y.length (hi - lo);omega)
  (fun j v hj=>by
   rw[add_none]
   refine hcell j v ?_
   rw[List.getElem?_map]at hj ⊢
   rw[List.getElem?_take]at hj
   split at hj
   · exact hj
   · simp at hj) (by simp;omega) (by intro v hv;obtain⟨z,_,rfl⟩:=List.mem_map.mp hv;rfl)
 have hlen:((y.take (cpN y lo hi)).map (Value.int k)).length=cpN y lo hi:=by simp;omega
 rw[hlen]at hrun
 have hw1:(w.setRow g (cur.toList.take lo++(y.take (cpN y lo hi)).map (Value.int k)++cur.toList.drop (lo+cpN y lo hi)).toArray).heap[g]? = some (.cells (cur.toList.take lo++(y.take (cpN y lo hi)).map (Value.int k)++cur.toList.drop (lo+cpN y lo hi)).toArray e (0,0)):=
  setRow_heap w _ cur _ e _ hg
 have hw2:∀ b,b≠g→(w.setRow g (cur.toList.take lo++(y.take (cpN y lo hi)).map (Value.int k)++cur.toList.drop (lo+cpN y lo hi)).toArray).heap[b]? = w.heap[b]?:=fun b hb=>setRow_other w _ b _ hb
 refine⟨_,setRc rc key ⟨(rc key).cs,[g],(rc key).blk⟩,hrun,?_⟩
 have hgb:blocks (⟨false,inn,.sl e (.int k),.own .z,x⟩:Root) (rc key)=[g]:=hbs
 have hgm:g∈blocks (⟨false,inn,.sl e (.int k),.own .z,x⟩:Root) (rc key):=by rw[hgb];simp
 have:=Rel.setRoot (ls:=[]) (ex:=[]) (r:=⟨false,inn,.sl e (.int k),.own .z,(cpInt x y lo hi:List Int)⟩) (q:=⟨(rc key).cs,[g],(rc key).blk⟩) (ts:=s.tmps) (w1:=w.setRow g (cur.toList.take lo++(y.take (cpN y lo hi)).map (Value.int k)++cur.toList.drop (lo+cpN y lo hi)).toArray)
  h [g] [] hC (fun hi=>⟨_,getR_s hC hr,hi,rfl,fun _=>rfl,fun _=>rfl⟩) (fun b hb=>.inr ⟨_,getR_s hC hr,by rw[hgb];exact hb⟩) (by simp[World.setRow]) rfl rfl rfl
  (fun b _ hb=>hw2 b fun he=>hb (by simp[he])) (by simp[blocks]) (by simp)
  (fun b hb=>by
   have hb:b∈[g]:=hb
   refine⟨?_,.inl hb⟩
   have:=(h.bnd b (List.mem_append_right _ (mem_allB.mpr ⟨key,_,(mem_getR h.keys).mp hr,by rw[hgb];exact hb⟩))).1
   simpa [World.setRow]using this)
  (fun fz1 _ _=>⟨hnew _ fz1 hw1,by simp⟩)
  (List.Sublist.refl _)
  (fun t' v' _=>by
   refine⟨fun p' hrf=>?_,fun _ r1 hr1 hb1=>?_⟩
   · intro r1 hr1
     rw[getR_upd (ts:=s.tmps)]at hr1
     simp at hr1;subst hr1
     refine⟨_,hr,rfl,fun c e' a' q1 q2 q3 q4=>?_⟩
     obtain rfl:=sl_only q3
     exact⟨trivial,q2,by simpa [setRc,cellsP]using q4⟩
   · rw[getR_upd (ts:=s.tmps)]at hr1
     simp at hr1;subst hr1
     simp at hb1)
 simpa using this
theorem inRoot_eq {k:Nat} {r:Root} {s1:St} (h:inRoot C s k r=some s1):look k C.roots=none∧s1=⟨s.tmps,upd k r s.roots⟩:=by
 unfold inRoot at h
 split at h
 · rename_i h1;cases h;exact⟨h1,rfl⟩
 · simp at h
theorem goInt_nat (n:Nat):goInt n = .int .i64 (n:Int):=rfl
theorem copyAt_ok (h:Rel rc [] C s X w0 a w) {key:Nat} {rg:Option (Nat×Nat)} {u v:Val} {cu cv:Value} {t t2 ty:TypeId} {sh:Sh} (hsh:ShOk P sh none t) (hrow:rowSh C s u=some sh)
  (hu:VOk w (fzOf X w ([]++allB rc (s.roots++C.roots))) (getR C s) rc u cu) (hv:VOk w (fzOf X w ([]++allB rc (s.roots++C.roots))) (getR C s) rc v cv)
  (hur:(u = .own key []∧rg=none)∨∃ lo hi,u = .sub key [] lo hi∧rg=some (lo,hi)) (hk:copyAt C s key rg v K) :
  ∃ c w1,(Builtin.copy_ #[t,t2] ty #[cu,cv]).run P w = .ok c w1∧OpPost C X w0 a K c w1:=by
 unfold copyAt at hk
 cases hr:getR C s key with
 |none=>rw[hr]at hk;exact hk.elim
 |some r=>
 rw[hr]at hk
 simp only at hk
 have hok:=h.root hr
 obtain⟨box,inn,rs,ro,rx⟩:=r
 have hgn:getP rs rx []=some ⟨rs,rx⟩:=by cases rs<;>rfl
 simp only[hgn]at hk
 cases box with
 |true=>exact hk.elim
 |false=>
 cases ro<;>try (exact hk.elim)
 rename_i oa
 cases oa<;>try (exact hk.elim)
 cases rs<;>try (exact hk.elim)
 rename_i e sa
 cases sa<;>try (exact hk.elim)
 rename_i k
 simp only at hk
 have hrow':sh = .sl e (.int k):=by
  rcases hur with⟨rfl,_⟩|⟨lo,hi,rfl,_⟩
  · simp only[rowSh,hr,shP,Option.some.injEq]at hrow;exact hrow.symm
  · simp only[rowSh,hr,shP,Option.some.injEq]at hrow;exact hrow.symm
 subst hrow'
 cases hs:copySrc C s k v with
 |none=>rw[hs]at hk;cases rg<;>exact hk.elim
 |some y=>
 rw[hs]at hk
 have main:∀ {lo hi:Nat} {dc g n cap:Nat},(rc key).cs=[.slice (some ⟨g,0,none⟩) n cap]→lo≤hi→hi≤n→cu = .slice (some ⟨g,lo,none⟩) (hi - lo) dc→
   copyTo C s key inn e k rx y lo hi K→∃ c w1,(Builtin.copy_ #[t,t2] ty #[cu,cv]).run P w = .ok c w1∧OpPost C X w0 a K c w1:=by
  intro lo hi dc g n cap hcs h1 h2 hcu hk
  subst hcu
  simp only[copyTo,M.need,M.bind]at hk
  obtain⟨⟨hy,hlo⟩,hk⟩:=hk
  cases hir:inRoot C s key ⟨false,inn,.sl e (.int k),.own .z,(cpInt rx y lo hi:List Int)⟩with
  |none=>rw[hir]at hk;exact hk.elim
  |some s1=>
  rw[hir]at hk
  obtain⟨hC,rfl⟩:=inRoot_eq hir
  have hsrc:=copySrc_ok h hv hs hy
  obtain⟨w1,rc1,g1,g2⟩:=copy_core (P:=P) (t:=t) (t2:=t2) (ty:=ty) (dc:=dc) (x:=rx) h hr hC hcs h1 h2 hlo hsrc hsh
  refine⟨_,w1,g1,_,_,rc1,hk,g2,?_⟩
  rw[goInt_nat]
  have hn:(cpN y lo hi:Int)≤9223372036854775807:=by
   have:cpN y lo hi≤hi - lo:=by unfold cpN;omega
   obtain⟨q1,_,cur,q2,_⟩:=copy_rep (x:=rx) (y:=y) hok.1 hcs h1 h2 hlo hsrc.rng
   obtain⟨g',cap',cur',k1,k2,k3,k4,_⟩:=own_intk (x:=rx) hok.1 (by omega)
   have:(maxLen:Nat)≤9223372036854775807:=by decide
   omega
  exact vok_int (by simp[IntKind.min,IntKind.signed,IntKind.bits]) (by simpa [IntKind.max,IntKind.signed,IntKind.bits]using hn)
 rcases hur with⟨rfl,rfl⟩|⟨lo,hi,rfl,rfl⟩
 · simp only at hk
   obtain⟨cs,hvc,rfl⟩:=hu
   obtain⟨_,_,hc,_⟩:=hvc _ hr
   have hcs:(rc key).cs=cs:=by simpa [cellsP]using hc
   have hlo:0<(rx:List Int).length:=hk.1.2
   obtain⟨g,cap,cur,k1,k2,k3,k4,k5,k6,k7,k8⟩:=own_intk (x:=rx) hok.1 hlo
   have k1:(rc key).cs=_:=k1
   rw[hcs]at k1
   subst k1
   exact main (dc:=cap) hcs (Nat.zero_le _) (Nat.le_refl _) rfl hk
 · simp only at hk
   obtain⟨cs,hvc,rfl⟩:=hu
   obtain⟨g,n,cap,e',sa,q1,q2,q3,q4,q5,q6,rfl⟩:=hvc _ hr
   simp only[shP,Option.some.injEq,Sh.sl.injEq]at q4
   obtain⟨rfl,rfl⟩:=q4
   have hcs:(rc key).cs=[.slice (some ⟨g,0,none⟩) n cap]:=by simpa [cellsP]using q3
   have hlo:lo<(rx:List Int).length:=hk.1.2
   obtain⟨g',cap',cur,k1,k2,k3,_⟩:=own_intk (x:=rx) hok.1 (Nat.lt_of_le_of_lt (Nat.zero_le _) hlo)
   have k1:(rc key).cs=_:=k1
   rw[hcs]at k1
   simp only[List.cons.injEq,Value.slice.injEq,Option.some.injEq,Addr.mk.injEq,and_true]at k1
   obtain⟨_,rfl,rfl⟩:=k1
   have hne:¬ cap=lo:=fun e=>by have:=Nat.lt_of_lt_of_le hlo k3;omega
   exact main (dc:=cap - lo) hcs q5 q6 (by rw[if_neg hne,show lo * (Sh.int k).size=lo from Nat.mul_one lo];rfl) hk
theorem copy_ok (hE:∀ t s,E.sh t=some s→ShOk P s none t) (h:Rel rc [] C s X w0 a w) {c:Call} (ho:o.op = .call c) (hc:c.callee = .builtin .copy) (hk:opV E C o d s K) :
  Runs P o a w (OpPost C X w0 a K):=by
 obtain⟨consts,hrun⟩:=builtin_run (P:=P) (a:=a) ho hc
 simp only[opV,ho,hc]at hk
 cases hv:evalAll C s (c.argTypes.toList.map E.sh) c.args.toList with
 |none=>rw[hv]at hk;exact hk.elim
 | some vs=>
   simp only[hv]at hk
   cases hr:rowsOk C s .copy (c.argTypes.toList.map E.sh) vs with
   |false=>rw[hr]at hk;exact hk.elim
   | true=>
     simp only[hr]at hk
     have hall:=evalAll_ok h hv
     have args:∀ {l:List Value},c.args.toList.map a.eval=l→c.args.map a.eval=l.toArray:=by
      rintro l rfl;apply Array.ext';simp
     cases vs with
     |nil=>exact hk.elim
     | cons u vs=>
       cases vs with
       |nil=>exact hk.elim
       | cons v vs=>
         cases vs with
         |cons _ _=>exact hk.elim
         | nil=>
           obtain⟨cu,_,e1,h1,cv,_,rfl,h2,rfl⟩:=hall
           cases hsh:c.argTypes.toList.map E.sh with
           |nil=>rw[hsh]at hr;simp[rowsOk]at hr
           | cons sh1 shs=>
             cases shs with
             |nil=>rw[hsh]at hr;simp[rowsOk]at hr
             | cons sh2 shs=>
               cases shs with
               |cons _ _=>rw[hsh]at hr;simp[rowsOk]at hr
               | nil=>
                 obtain⟨t1,t2,e2,e3,e4⟩:=map_two hsh
                 rw[hsh,←e3,←e4]at hr
                 simp only[rowsOk,Bool.and_eq_true]at hr
                 obtain⟨hr1,hr2⟩:=hr
                 obtain⟨sh,f1,f2⟩:=sameO_eq hr1
                 simp only[builtinV]at hk
                 have fin:∀ {key rg},((u = .own key []∧rg=none)∨∃ lo hi,u = .sub key [] lo hi∧rg=some (lo,hi))→copyAt C s key rg v K→Runs P o a w (OpPost C X w0 a K):=by
                  intro key rg hur hk
                  obtain⟨cr,w1,g1,g2⟩:=copyAt_ok (P:=P) (t:=t1) (t2:=t2) (ty:=o.type) h (hE _ _ f2) f1 h1 h2 hur hk
                  refine Runs.value ((hrun w).trans ?_) g2
                  rw[args e1,e2]
                  simp only[builtin]
                  exact val_run g1
                 unfold copyV at hk
                 split at hk
                 · exact fin (.inl ⟨rfl,rfl⟩) hk
                 · exact fin (.inr ⟨_,_,rfl,rfl⟩) hk
                 · exact hk.elim
theorem RepL.zz {fz:Nat→Prop} {sa:Sh} {l:List sa.den} {es:List Value} {bs:List Nat} (h:RepL (Rep w fz sa .z) l es bs):bs=[]:=by
 induction l generalizing es bs with
 |nil=>exact h.2
 | cons y l ih=>
   obtain⟨c1,c2,b1,b2,_,rfl,q1,q2⟩:=h
   rw[q1.z_nil,ih q2];rfl
theorem zeros_rep {fz:Nat→Prop} {sa:Sh} (hp:sa.plain=true) (n:Nat):RepL (Rep w fz sa .z) (List.replicate n sa.zv) (List.replicate n (zcells sa)).flatten []:=
 (rep_replicate (w:=w) (fz:=fz) hp n).mono fun x _ c b hb hr=>by
  have hb:b=[]:=List.eq_nil_iff_forall_not_mem.mpr fun i hi=>by have:=hb i hi;simp at this
  subst hb
  have hx:=Rep.freeze (fz1:=fz) (fun _ h=>h) hr (zo_alive sa) (by simp)
  exact hx
theorem zeroCells_list (z:Array Value) (n:Nat):(Builtin.zeroCells z n).toList=(List.replicate n z.toList).flatten:=by
 have h:=made_take z (n * z.size) n (Nat.le_refl _)
 have e:(Builtin.zeroCells z n).toList=(madeCells z (n * z.size)).toList:=rfl
 rw[e,←h,List.take_of_length_le]
 simp[madeCells]
theorem clear_core (h:Rel rc [] C s X w0 a w) {key:Nat} {inn:Bool} {e:TypeId} {sa:Sh} {x:List sa.den} (hr:getR C s key=some ⟨false,inn,.sl e sa,.own .z,x⟩) (hC:look key C.roots=none) (hA:anyI key C.tmps=false) {lo hi g n cap:Nat}
  (hcs:(rc key).cs=[.slice (some ⟨g,0,none⟩) n cap]) (h1:lo<hi) (h2:hi≤n) (hp:sa.plain=true) {t ty:TypeId} (ht:ShOk P (.sl e sa) none t) {dc:Nat} :
  ∃ w1 rc1,(Builtin.clear_ #[t] ty #[.slice (if cap=lo then some ⟨g,0,none⟩ else some ⟨g,lo * sa.size,none⟩) (hi - lo) dc]).run P w = .ok (.tuple #[]) w1∧
   Rel rc1 [] C ⟨killI key s.tmps,upd key ⟨false,inn,.sl e sa,.own .z,(List.take lo x++(List.replicate (hi - lo) sa.zv++List.drop hi x):List sa.den)⟩ s.roots⟩ X w0 a w1:=by
 have hok:Rep w (fzOf X w ([]++allB rc (s.roots++C.roots))) (.sl e sa) (.own .z) x (rc key).cs (rc key).bs:=(h.root hr).1
 obtain⟨v,es,ebs,e1,m1,m2⟩:=hok
 rw[hcs]at e1
 rcases m2 with⟨rfl,_,_⟩|⟨g',cap',cur,rfl,m3,m4,m5,m6,m7,m8⟩
 · simp at e1
 simp only[List.cons.injEq,Value.slice.injEq,Option.some.injEq,Addr.mk.injEq,and_true]at e1
 obtain⟨rfl,rfl,rfl⟩:=e1
 have hz:=m1.zz
 subst hz
 have hne:¬ cap=lo:=by omega
 rw[if_neg hne]
 obtain⟨u1,_,_,u3,_⟩:=ht
 have hzc:=zcells_rep (w:=w) (fz:=fun _=>True) hp
 have hcp:=cells_pack hzc.len hzc.one
 have hel:=m1.len fun _ _ _ hr=>hr.len
 have hzl:((List.replicate (hi - lo) (zcells sa)).flatten).length=(hi - lo) * sa.size:=by
  have:=(zeros_rep (w:=w) (fz:=fun _=>True) hp (hi - lo)).len fun _ _ _ hr=>hr.len
  rw[this,List.length_replicate]
 have hsz:lo * sa.size+(hi - lo) * sa.size=hi * sa.size:=by rw[←Nat.add_mul];congr 1;omega
 have hle:hi * sa.size≤List.length x * sa.size:=Nat.mul_le_mul_right _ h2
 have hle2:List.length x * sa.size≤cap * sa.size:=Nat.mul_le_mul_right _ m4
 have hone:∀ v∈(List.replicate (hi - lo) (zcells sa)).flatten,v.oneCell'=true:=by
  intro v hv
  obtain⟨l,hl,hv⟩:=List.mem_flatten.mp hv
  rw[(List.mem_replicate.mp hl).2]at hv
  exact hzc.one v hv
 have hst:=run_storeCells_at (P:=P) g (lo * sa.size) e (List.replicate (hi - lo) (zcells sa)).flatten 0 cur w m3 (by rw[hzl];omega) hone
 simp only[Nat.add_zero]at hst
 have hrun:(Builtin.clear_ #[t] ty #[.slice (some ⟨g,lo * sa.size,none⟩) (hi - lo) dc]).run P w = .ok (.tuple #[]) (w.setRow g (cur.toList.take (lo * sa.size)++(List.replicate (hi - lo) (zcells sa)).flatten++cur.toList.drop (lo * sa.size+((List.replicate (hi - lo) (zcells sa)).flatten).length)).toArray):=by
  obtain⟨m,hm⟩:∃ m,hi - lo=m+1:=⟨hi - lo - 1,by omega⟩
  have hzz:(Builtin.zeroCells (packV (aggS sa) (zcells sa)).cells (hi - lo)).toList=(List.replicate (hi - lo) (zcells sa)).flatten:=by rw[zeroCells_list,hcp]
  rw[hm]at hzz hst ⊢
  simp[Builtin.clear_,run_underlying u1,u3.run_zero,hzz,hst]
 have hw1:(w.setRow g (cur.toList.take (lo * sa.size)++(List.replicate (hi - lo) (zcells sa)).flatten++cur.toList.drop (lo * sa.size+((List.replicate (hi - lo) (zcells sa)).flatten).length)).toArray).heap[g]? = _:=setRow_heap w _ cur _ e _ m3
 have hw2:∀ b,b≠g→(w.setRow g (cur.toList.take (lo * sa.size)++(List.replicate (hi - lo) (zcells sa)).flatten++cur.toList.drop (lo * sa.size+((List.replicate (hi - lo) (zcells sa)).flatten).length)).toArray).heap[b]? = w.heap[b]?:=fun b hb=>setRow_other w _ b _ hb
 refine⟨_,setRc rc key ⟨(rc key).cs,[g],(rc key).blk⟩,hrun,?_⟩
 have hgb:blocks (⟨false,inn,.sl e sa,.own .z,x⟩:Root) (rc key)=[g]:=m8
 have hrepL:∀ fz1:Nat→Prop,(∀ b,fzOf X w ([]++allB rc (s.roots++C.roots)) b→fz1 b)→RepL (Rep (w.setRow g (cur.toList.take (lo * sa.size)++(List.replicate (hi - lo) (zcells sa)).flatten++cur.toList.drop (lo * sa.size+((List.replicate (hi - lo) (zcells sa)).flatten).length)).toArray) fz1 sa .z)
   (List.take lo x++(List.replicate (hi - lo) sa.zv++List.drop hi x)) (es.take (lo * sa.size)++((List.replicate (hi - lo) (zcells sa)).flatten++es.drop (hi * sa.size))) []:=by
  intro fz1 hf
  have m1':RepL (Rep (w.setRow g (cur.toList.take (lo * sa.size)++(List.replicate (hi - lo) (zcells sa)).flatten++cur.toList.drop (lo * sa.size+((List.replicate (hi - lo) (zcells sa)).flatten).length)).toArray) fz1 sa .z) x es []:=
   m1.mono fun y _ c b hb hry=>by
    have hb:b=[]:=List.eq_nil_iff_forall_not_mem.mpr fun i hi=>by have:=hb i hi;simp at this
    subst hb
    exact hry.stable (fun b hb=>⟨hf b hb,hw2 b fun he=>hb.2 (by subst he;exact List.mem_append_right _ (mem_allB.mpr ⟨key,_,(mem_getR h.keys).mp hr,by rw[hgb];simp⟩))⟩) (by simp)
  have c1:=m1'.cut (k:=sa.size) (n:=0) (m:=lo) (fun _ _ _ hr=>hr.len) (Nat.zero_le _) (by omega)
  have c2:=m1'.cut (k:=sa.size) (n:=hi) (m:=List.length x) (fun _ _ _ hr=>hr.len) h2 (Nat.le_refl _)
  rw[List.take_length]at c2
  simp only[List.drop_zero,Nat.zero_mul,Nat.sub_zero]at c1
  have e2:(es.drop (hi * sa.size)).take ((List.length x - hi) * sa.size)=es.drop (hi * sa.size):=List.take_of_length_le (by rw[List.length_drop,hel,Nat.sub_mul];exact Nat.le_refl _)
  rw[e2]at c2
  have:=RepL.app c1 (RepL.app (zeros_rep hp (hi - lo)) c2)
  simpa using this
 have hlen:(List.take lo x++(List.replicate (hi - lo) sa.zv++List.drop hi x)).length=List.length x:=by simp;omega
 have:=Rel.setRoot (ls:=[]) (ex:=[]) (r:=⟨false,inn,.sl e sa,.own .z,(List.take lo x++(List.replicate (hi - lo) sa.zv++List.drop hi x):List sa.den)⟩) (q:=⟨(rc key).cs,[g],(rc key).blk⟩) (ts:=killI key s.tmps)
  (w1:=w.setRow g (cur.toList.take (lo * sa.size)++(List.replicate (hi - lo) (zcells sa)).flatten++cur.toList.drop (lo * sa.size+((List.replicate (hi - lo) (zcells sa)).flatten).length)).toArray)
  h [g] [] hC (fun hi=>⟨_,getR_s hC hr,hi,rfl,fun _=>rfl,fun _=>rfl⟩) (fun b hb=>.inr ⟨_,getR_s hC hr,by rw[hgb];exact hb⟩) (by simp[World.setRow]) rfl rfl rfl
  (fun b _ hb=>hw2 b fun he=>hb (by simp[he])) (by simp[blocks]) (by simp)
  (fun b hb=>by
   have hb:b∈[g]:=hb
   refine⟨?_,.inl hb⟩
   have:=(h.bnd b (List.mem_append_right _ (mem_allB.mpr ⟨key,_,(mem_getR h.keys).mp hr,by rw[hgb];exact hb⟩))).1
   simpa [World.setRow]using this)
  (fun fz1 hf _=>⟨⟨_,_,[],hcs,hrepL fz1 hf,.inr ⟨g,cap,_,by rw[hlen],hw1,by rw[hlen];exact m4,m5,?_,?_,rfl⟩⟩,by simp⟩)
  (killI_sub _ _)
  (fun t' v' htv=>by
   refine⟨fun p' hrf=>?_,fun _ r1 hr1 hb1=>?_⟩
   · have hin':inner p'=false:=by
      rcases List.mem_append.mp htv with h'|h'
      · exact refsAt_I hrf (killI_mem h').2
      · exact refsAt_I hrf (anyI_false hA h')
     intro r1 hr1
     rw[getR_upd (ts:=s.tmps)]at hr1
     simp at hr1;subst hr1
     refine⟨_,hr,rfl,fun c e' a' q1 q2 q3 q4=>?_⟩
     cases p' with
     |nil=>exact⟨trivial,q2,by simpa [setRc,cellsP]using q4⟩
     |cons st p'=>cases st<;>first|(simp[shP]at q3;done)|(simp[inner]at hin')
   · rw[getR_upd (ts:=s.tmps)]at hr1
     simp at hr1;subst hr1
     simp at hb1)
 · simpa using this
 · simp[hzl];omega
 · rw[hlen]
   simp only[hzl]
   rw[hsz,←m7]
   have hcl:cur.toList.length=cap * sa.size:=by rw[Array.length_toList];exact m6
   have hll:lo * sa.size≤hi * sa.size:=Nat.mul_le_mul_right _ (by omega)
   rw[List.append_assoc,List.take_append,List.take_append]
   simp only[List.length_take,hcl,hzl]
   rw[Nat.min_eq_left (by omega:lo * sa.size≤cap * sa.size)]
   congr 1
   · rw[List.take_take,List.take_take,Nat.min_comm]
   · congr 1
     · rw[List.take_of_length_le (by rw[hzl];omega)]
     · rw[List.drop_take];congr 1;omega
theorem clear_ok (hE:∀ t s,E.sh t=some s→ShOk P s none t) (h:Rel rc [] C s X w0 a w) {c:Call} (ho:o.op = .call c) (hc:c.callee = .builtin .clear) (hk:opV E C o d s K) :
  Runs P o a w (OpPost C X w0 a K):=by
 obtain⟨consts,hrun⟩:=builtin_run (P:=P) (a:=a) ho hc
 simp only[opV,ho,hc]at hk
 cases hv:evalAll C s (c.argTypes.toList.map E.sh) c.args.toList with
 |none=>rw[hv]at hk;exact hk.elim
 | some vs=>
   simp only[hv]at hk
   cases hr:rowsOk C s .clear (c.argTypes.toList.map E.sh) vs with
   |false=>rw[hr]at hk;exact hk.elim
   | true=>
     simp only[hr]at hk
     have hall:=evalAll_ok h hv
     have args:∀ {l:List Value},c.args.toList.map a.eval=l→c.args.map a.eval=l.toArray:=by
      rintro l rfl;apply Array.ext';simp
     cases vs with
     |nil=>exact hk.elim
     | cons u vs=>
       cases vs with
       |cons _ _=>cases u<;>first|exact hk.elim|(rename_i p _ _;cases p<;>exact hk.elim)
       | nil=>
         obtain⟨cu,_,e1,h1,rfl⟩:=hall
         cases hsh:c.argTypes.toList.map E.sh with
         |nil=>rw[hsh]at hr;simp[rowsOk]at hr
         | cons sh1 shs=>
           cases shs with
           |cons _ _=>rw[hsh]at hr;simp[rowsOk]at hr
           | nil=>
             obtain⟨t1,e2,e3⟩:=map_one hsh
             rw[hsh,←e3]at hr
             simp only[rowsOk]at hr
             cases u<;>try (exact hk.elim)
             rename_i key p lo hi
             cases p with
             |cons _ _=>exact hk.elim
             | nil=>
               simp only[builtinV,clearAt]at hk
               cases hR:getR C s key with
               |none=>rw[hR]at hk;exact hk.elim
               | some r=>
                 rw[hR]at hk
                 simp only at hk
                 obtain⟨cs,hvc,rfl⟩:=h1
                 obtain⟨g,n,cap,e,sa,q1,q2,q3,q4,q5,q6,rfl⟩:=hvc r hR
                 obtain⟨sh,f1,f2⟩:=sameO_eq hr
                 simp only[rowSh,hR]at f1
                 obtain⟨box,inn,rs,ro,rx⟩:=r
                 have hgn:getP rs rx []=some ⟨rs,rx⟩:=by cases rs<;>rfl
                 simp only[hgn]at hk
                 cases box with
                 |true=>exact hk.elim
                 |false=>
                 cases ro<;>try (exact hk.elim)
                 rename_i oa
                 cases oa<;>try (exact hk.elim)
                 cases rs<;>try (exact hk.elim)
                 rename_i e' sa'
                 simp only[shP,Option.some.injEq,Sh.sl.injEq]at q4 f1
                 obtain⟨rfl,rfl⟩:=q4
                 subst f1
                 simp only at hk
                 cases hp:sa'.plain with
                 |false=>rw[hp]at hk;exact hk.elim
                 |true=>
                 rw[hp]at hk
                 simp only[M.need,M.bind]at hk
                 obtain⟨hlt,hk⟩:=hk
                 cases hre:reRootI C s key ⟨false,inn,.sl e' sa',.own .z,(List.take lo rx++(List.replicate (hi - lo) sa'.zv++List.drop hi rx):List sa'.den)⟩with
                 |none=>rw[hre]at hk;exact hk.elim
                 |some s1=>
                 rw[hre]at hk
                 obtain⟨hC,hA,rfl⟩:=reRootI_eq hre
                 have hcs:(rc key).cs=[.slice (some ⟨g,0,none⟩) n cap]:=by simpa [cellsP]using q3
                 obtain⟨w1,rc1,g1,g2⟩:=clear_core (P:=P) (t:=t1) (ty:=o.type) (dc:=cap - lo) h hR hC hA hcs hlt q6 hp (hE _ _ f2)
                 refine Runs.value (c:=.tuple #[]) ((hrun w).trans ?_) ⟨.undef,_,rc1,hk,g2,trivial⟩
                 rw[args e1,e2]
                 simp only[builtin]
                 exact val_run g1
end
end Go.V
namespace Go.V
open Go
section
variable {P:Program} {E:Env} {C s:St} {X:Fr} {w0 w:World} {a:Act} {rc:Nat→RC} {o:Oper} {d:Nat} {K:Val×St→Prop} {ex:List Nat}
def Lays (P:Program) (o:Oper) (a:Act) (ob:Obj) (f:Nat→Value):Prop:=∀ w,(execOp a.eval o).run P w = .ok (.value (f w.heap.size)) (w.alloc ob)
def LateOk (P:Program) (o:Oper) (C:St) (X:Fr) (w0:World) (a:Act) (w:World) (ex:List Nat) (K:Val×St→Prop):Prop:=
 ∃ ob f,Lays P o a ob f∧∀ r,ex=[r]→w.heap[r]? = some ob→∃ v s1 rc1,K (v,s1)∧Rel rc1 [] C s1 X w0 a w∧VOk w (fzOf X w ([]++allB rc1 (s1.roots++C.roots))) (getR C s1) rc1 v (f r)
theorem late_alloc (hE:∀ t s,E.sh t=some s→ShOk P s none t) (h:Rel rc ex C s X w0 a w) {t:TypeId} (ho:o.op = .alloc t) (hk:opV E C o d s K):LateOk P o C X w0 a w ex K:=by
 simp only[opV,ho]at hk
 cases ht:E.sh t with
 |none=>rw[ht]at hk;exact hk.elim
 | some sh=>
   simp only[ht]at hk
   cases hp:sh.plain with
   |false=>rw[hp]at hk;exact hk.elim
   | true=>
     cases hn:newRoot C s d ⟨true,false,sh,zo sh,sh.zv⟩with
     |none=>rw[hp,hn]at hk;exact hk.elim
     | some s1=>
       rw[hp,hn]at hk
       have hsh:=hE t _ ht
       have hz:=zcells_rep (w:=w) (fz:=fun _=>True) hp
       have hcp:=cells_pack hz.len hz.one
       have hrun:∀ w:World,(Instr.alloc t true (.tuple #[])).run P w = .ok (.pointer (some ⟨w.heap.size,0,none⟩)) (w.alloc (.cells (packV (aggS sh) (zcells sh)).cells t)):=by
        intro w;simp[Instr.alloc,hsh.run_zero,newVar,newRow]
       refine⟨_,fun r=>.pointer (some ⟨r,0,none⟩),fun w=>by rw[execOp];simp only[ho];exact val_run (hrun w),?_⟩
       rintro r rfl hr
       have hrs:=h.bnd r (by simp)
       have hrel:=Rel.new (ls:=[r]) (ex:=[]) (q:=⟨zcells sh,[],r⟩) (w1:=w) h hn (Nat.le_refl _) rfl rfl rfl
        (fun b _ _=>rfl) (by simp[blocks]) (by intro b hb;simp[blocks]at hb;subst hb;exact⟨hrs.1,.inl (by simp)⟩)
        (fun fz1 _ _=>⟨zcells_rep hp,fun _=>⟨_,t,hr,hcp⟩⟩)
       refine⟨_,s1,_,hk,hrel,?_⟩
       have:=baddr_vok (w:=w) (rc:=setRc rc d ⟨zcells sh,[],r⟩) (R:=getR C s1) (k:=d) (fz:=fzOf X w ([]++allB (setRc rc d ⟨zcells sh,[],r⟩) (s1.roots++C.roots)))
       simpa [setRc]using this
theorem late_make_core (h:Rel rc ex C s X w0 a w) {t e:TypeId} {sh:Sh} {n c:Operand} (ho:o.op = .makeSlice t n c) (hsh:ShOk P (.sl e sh) none t) {l m:Int} {kl kc:IntKind} (en:a.eval n = .int kl l) (ec:a.eval c = .int kc m)
  (hp:sh.plain=true) (h0:0≤l) (h1:l≤m) (h2:m≤maxL) {s1:St} (hnr:newRoot C s d ⟨false,false,.sl e sh,.own (zo sh),List.replicate l.toNat sh.zv⟩=some s1) (hk:K (.own d [],s1)) :
  LateOk P o C X w0 a w ex K:=by
 obtain⟨u1,_,u2,u3,u4⟩:=hsh
 obtain⟨ie,i1,i2,i3,_⟩:=u3.info
 have hby:ie.bytes≤128:=by simpa [Program.bytesOf,i1]using u4
 have hm0:0≤m:=Int.le_trans h0 h1
 unfold maxL at h2
 have hb:(ie.bytes:Int) * m≤281474976710656:=by
  calc (ie.bytes:Int) * m≤128 * m:=Int.mul_le_mul_of_nonneg_right (by omega) hm0
   _≤_:=by omega
 have hrun:=fun w=>run_make (P:=P) w t e ie _ u1 i1 i3 kl kc l m h0 h1 hb (by omega)
 rw[i2]at hrun
 have hz:=zcells_rep (w:=w) (fz:=fun _=>True) hp
 have hcp:=cells_pack hz.len hz.one
 have hcs:(packV (aggS sh) (zcells sh)).cells.size=sh.size:=by rw[←Array.length_toList,hcp,hz.len]
 have hlm:l.toNat≤m.toNat:=by omega
 refine⟨_,fun r=>.slice (some ⟨r,0,none⟩) l.toNat m.toNat,fun w=>by rw[execOp];simp only[ho,en,ec];exact val_run (hrun w),?_⟩
 rintro r rfl hr
 have hrs:=h.bnd r (by simp)
 have hrel:=Rel.new (ls:=[r]) (ex:=[]) (q:=⟨[.slice (some ⟨r,0,none⟩) l.toNat m.toNat],[r],0⟩)
  (w1:=w) h hnr (Nat.le_refl _) rfl rfl rfl
  (fun b _ _=>rfl) (by simp[blocks]) (by intro b hb;simp[blocks]at hb;subst hb;exact⟨hrs.1,.inl (by simp)⟩)
  (fun fz1 _ _=>⟨⟨_,_,[],rfl,rep_replicate hp _,.inr ⟨r,m.toNat,_,by simp,hr,by simpa using hlm,by unfold maxLen;omega,size_madeCells _ _,by
   rw[List.length_replicate]
   have:=made_take (packV (aggS sh) (zcells sh)).cells (m.toNat * sh.size) l.toNat (by rw[hcs];exact Nat.mul_le_mul_right _ hlm)
   rw[hcs,hcp]at this
   exact this,rfl⟩⟩,by simp⟩)
 refine⟨_,s1,_,hk,hrel,?_⟩
 exact own_vok (getR_new hnr) (by simp[setRc])
theorem late_make (hE:∀ t s,E.sh t=some s→ShOk P s none t) (h:Rel rc ex C s X w0 a w) {t:TypeId} {n c:Operand} (ho:o.op = .makeSlice t n c) (hk:opV E C o d s K):LateOk P o C X w0 a w ex K:=by
 simp only[opV,ho]at hk
 cases ht:E.sh t with
 |none=>rw[ht]at hk;exact hk.elim
 | some tsh=>
   cases hn:evalV C s none n with
   |none=>rw[ht,hn]at hk;cases tsh<;>exact hk.elim
   | some nv=>
     cases hc:evalV C s none c with
     | none => rw[ht,hn,hc]at hk;cases tsh<;>cases nv<;>try (exact hk.elim)
               rename_i sh oo x;cases sh<;>cases oo<;>exact hk.elim
     | some cv=>
       rw[ht,hn,hc]at hk
       cases tsh<;>try (exact hk.elim)
       rename_i e sh
       cases nv<;>try (exact hk.elim)
       rename_i sn on l
       cases sn<;>try (exact hk.elim)
       rename_i kl
       cases on<;>try (exact hk.elim)
       cases cv<;>try (exact hk.elim)
       rename_i sc oc m
       cases sc<;>try (exact hk.elim)
       rename_i kc
       cases oc<;>try (exact hk.elim)
       simp only at hk
       cases hp:sh.plain with
       |false=>rw[hp]at hk;exact hk.elim
       | true=>
         simp only[hp,M.need,M.bind]at hk
         obtain⟨⟨h0,h1,h2⟩,hk⟩:=hk
         cases hnr:newRoot C s d ⟨false,false,.sl e sh,.own (zo sh),List.replicate (show Int from l).toNat sh.zv⟩with
         |none=>rw[hnr]at hk;exact hk.elim
         | some s1=>
           rw[hnr]at hk
           obtain⟨en,_⟩:=VOk.int (evalV_ok h hn)
           obtain⟨ec,_⟩:=VOk.int (evalV_ok h hc)
           exact late_make_core h ho (hE t _ ht) en ec hp h0 h1 h2 hnr hk
theorem late_build (hE:∀ t s,E.sh t=some s→ShOk P s none t) (h:Rel rc ex C s X w0 a w) {t:TypeId} {n:Nat} {parts:Array (Nat×Operand)} (ho:o.op = .buildSlice t n parts) (hk:opV E C o d s K):LateOk P o C X w0 a w ex K:=by
 simp only[opV,ho]at hk
 cases ht:E.sh t with
 |none=>rw[ht]at hk;exact hk.elim
 | some tsh=>
   rw[ht]at hk
   cases tsh<;>try (exact hk.elim)
   rename_i e sh
   simp only at hk
   cases hb:(Nat.beq n parts.size&&Nat.ble (n * sh.size) 16777216)with
   |false=>rw[hb]at hk;exact hk.elim
   | true=>
     cases hta:takeAll C (fun s x=>evalV C s (some sh) x) s 0 parts.toList with
     |none=>rw[hb,hta]at hk;exact hk.elim
     | some r=>
       obtain⟨us,s1⟩:=r
       simp only[hb,hta]at hk
       cases hsa:sameAll sh us with
       |none=>rw[hsa]at hk;exact hk.elim
       | some ox=>
         obtain⟨oe,xs⟩:=ox
         simp only[hsa]at hk
         cases hnr:newRoot C s1 d ⟨false,false,.sl e sh,.own oe,xs⟩with
         |none=>rw[hnr]at hk;exact hk.elim
         | some s2=>
           rw[hnr]at hk
           obtain⟨rc1,ls,g1,g2,g3,g4⟩:=takeAll_ok h hta
           obtain⟨bs,rest,k1,k2,k3⟩:=sameAll_ok g2 hsa
           simp only[Bool.and_eq_true]at hb
           have hnp:n=parts.toList.length:=by simpa using Nat.eq_of_beq_eq_true hb.1
           have hsm:=Nat.le_of_ble_eq_true hb.2
           obtain⟨u1,_,u2,u3,u4⟩:=hE t _ ht
           obtain⟨ie,i1,i2,i3,_⟩:=u3.info
           have hxl:xs.length=n:=by
            have h1:=k2.len fun _ _ _ hr=>hr.len
            have h2:((parts.toList.map fun p=>a.eval p.2).flatMap fun c=>c.cells.toList).length=n * sh.size:=by
             have:∀ l:List Value,(∀ c∈l,c.cells.size=sh.size)→(l.flatMap fun c=>c.cells.toList).length=l.length * sh.size:=by
              intro l
              induction l with
              |nil=>intro _;simp
              |cons c l ih=>intro hl;simp only[List.flatMap_cons,List.length_append,Array.length_toList,List.length_cons,Nat.add_mul,Nat.one_mul];rw[hl c (by simp),ih fun c hc=>hl c (by simp[hc])];omega
             rw[this _ k3,List.length_map,←hnp]
            rw[h2]at h1
            exact(Nat.eq_of_mul_eq_mul_right u2 h1).symm
           have hrun:∀ w:World,(Instr.buildSlice t n (parts.map fun(i,x)=>(i,a.eval x))).run P w =
             .ok (.slice (some ⟨w.heap.size,0,none⟩) n n) (w.alloc (.cells ((parts.toList.map fun p=>a.eval p.2).flatMap fun c=>c.cells.toList).toArray e)):=by
            intro w
            by_cases h0:n=0
            · have hpe:parts = #[]:=by apply Array.ext';exact List.eq_nil_of_length_eq_zero (by omega)
              subst hpe
              subst h0
              simp[Instr.buildSlice,run_underlying u1,sizeOf,typeInfo,i1,Instr.fill,newRow,Array.range_zero']
            · refine run_buildSlice w t e n _ _ ie _ u1 i1 i3 (by rw[i2];omega) (by rw[i2];exact Nat.ne_of_gt (Nat.mul_pos (by omega) u2)) ?_
              have hpt:(parts.map fun(i,x)=>(i,a.eval x)).toList=((parts.toList.map fun p=>a.eval p.2).zipIdx 0).map fun x=>(x.2,x.1):=by rw[←g4];simp
              rw[hpt,i2]
              refine Great.fill_whole u2 _ _ k3 ?_
              simp only[List.length_map,Array.size_map,Array.size_range]
              rw[←hnp]
           refine⟨_,fun r=>.slice (some ⟨r,0,none⟩) n n,fun w=>by rw[execOp];simp only[ho];exact val_run (hrun w),?_⟩
           rintro r rfl hr
           have hnd:(bs++rest).Nodup:=k1.nodup_iff.mp (by
            have:=g1.excl
            rw[List.append_assoc]at this
            exact(List.nodup_append.mp this).1)
           have hrls:r∉ls:=fun hm=>by
            have:=g1.excl
            rw[List.append_assoc]at this
            exact(List.nodup_append.mp this).2.2 r hm r (by simp) rfl
           have hrs:=g1.bnd r (by simp)
           have hbl:∀ b∈bs++rest,b∈ls:=fun b hb=>k1.mem_iff.mpr hb
           have g1':Rel rc1 ((ls++[r])++[]) C s1 X w0 a w:=by rw[List.append_nil];exact g1
           have hrel:=Rel.new (ls:=ls++[r]) (ex:=[]) (q:=⟨[.slice (some ⟨r,0,none⟩) n n],r::bs,0⟩)
            (w1:=w) g1' hnr (Nat.le_refl _) rfl rfl rfl
            (fun b _ _=>rfl)
            (by simp only[blocks,List.nodup_cons];exact⟨fun hm=>hrls (hbl r (List.mem_append_left _ hm)),(List.nodup_append.mp hnd).1⟩)
            (by
             intro b hb;simp only[blocks,List.mem_cons]at hb
             rcases hb with rfl|hb
             · exact⟨hrs.1,.inl (by simp)⟩
             · have hm:=hbl b (List.mem_append_left _ hb)
               exact⟨(g1.bnd b (by simp[hm])).1,.inl (by simp[hm])⟩)
            (fun fz1 h1 h2=>⟨⟨_,_,bs,rfl,k2.mono fun x _ c b hb' hrp=>hrp.stable (fun i hi=>by
              rcases hi with hi|hi
              · exact⟨h1 i (by simpa using hi),rfl⟩
              · refine⟨h2 i (by simp[hbl i (List.mem_append_right _ hi)]) ?_,rfl⟩
                simp only[blocks,List.mem_cons,not_or]
                exact⟨fun he=>hrls (he ▸ hbl i (List.mem_append_right _ hi)),fun hm=>(List.nodup_append.mp hnd).2.2 _ hm _ hi rfl⟩)
              fun i hi=>rfl,
             .inr ⟨r,n,_,by rw[show List.length xs=n from hxl],hr,by rw[show List.length xs=n from hxl];exact Nat.le_refl _,Nat.le_trans (by
              rcases Nat.eq_zero_or_pos n with h0|h0
              · omega
              · exact Nat.le_mul_of_pos_right _ u2) (Nat.le_trans hsm (by unfold maxLen;omega)),by
                have:=k2.len fun _ _ _ hr=>hr.len
                rw[hxl]at this
                simpa using this,by
                have:=k2.len fun _ _ _ hr=>hr.len
                rw[show List.length xs=n from hxl]at this ⊢
                simp only[List.take_of_length_le (Nat.le_of_eq this)],rfl⟩⟩,by simp⟩)
           refine⟨_,s2,_,hk,hrel,?_⟩
           exact own_vok (getR_new hnr) (by simp[setRc])
theorem late_ok (hE:∀ t s,E.sh t=some s→ShOk P s none t) (h:Rel rc ex C s X w0 a w) (ho:lateOp o.op=true) (hk:opV E C o d s K):LateOk P o C X w0 a w ex K:=by
 unfold lateOp at ho
 split at ho
 · rename_i he;exact late_alloc hE h he hk
 · rename_i he;exact late_make hE h he hk
 · rename_i he;exact late_build hE h he hk
 · cases ho
end
end Go.V

