/-
  The functions that are reached: types, signatures, what a call of each gives.
-/
import Derived.Test.YtohcpefohbhigaaGreatDoorVE
import Derived.Test.YtohcpefohbhigaaGreatDoorProg
import Derived.KernelRfl
set_option linter.unusedVariables false
set_option linter.unusedSimpArgs false
set_option maxRecDepth 1000000
set_option maxHeartbeats 4000000
set_option linter.unusedVariables false
namespace Go.V
open Go Go.Proofs
abbrev h0:Sh:=.pair (.int .u8) .unit
abbrev h1:Sh:=.pair .bool h0
abbrev h2:Sh:=.pair (.int .i64) h1
abbrev h3:Sh:=.pair (.int .i64) h2
abbrev h4:Sh:=.pair (.int .u64) .unit
abbrev h5:Sh:=.pair .str h4
abbrev h6:Sh:=.pair .bool .unit
abbrev h7:Sh:=.pair (.int .i64) h6
abbrev h8:Sh:=.pair .str h7
abbrev h9:Sh:=.sl 48 h8
abbrev h10:Sh:=.pair (.sl 3 (.int .i64)) .unit
abbrev h11:Sh:=.pair (.int .i64) h10
abbrev h12:Sh:=.sl 51 h11
abbrev h13:Sh:=.pair h12 .unit
abbrev h14:Sh:=.pair h9 h13
abbrev h15:Sh:=.sl 57 h8
abbrev h16:Sh:=.sl 59 h11
abbrev h17:Sh:=.pair h16 .unit
abbrev h18:Sh:=.pair h15 h17
abbrev h19:Sh:=.pair (.ptr (.sl 3 (.int .i64))) .unit
abbrev oF:O:=.own (.pr .z (.pr (.own .z) .z))
abbrev oI:O:=.pr (.own .z) (.pr oF .z)
abbrev oT:O:=.own (.pr .z (.pr .z (.pr (.own .z) .z)))
abbrev oS:O:=.pr oI (.pr oT .z)
abbrev oD:O:=.pr oF (.pr oF .z)
abbrev oE:O:=.own oD
noncomputable abbrev prog:Program:=Tryz.prog
noncomputable abbrev gZ (f:Nat) (us rs:List OV):Prop:=GivesS prog f us rs us
def shTab:List (Nat×Sh):=[(2,.int .i64),(3,.int .i64),(4,.bool),(5,.int .u8),(6,.int .u8),(9,.str),(10,.str),(11,.str),(12,.int .u64),(21,.int .i32),(22,h9),(23,h12),(24,h14),(25,h14),(28,h15),(29,h16),(30,h18),(31,h18),(37,.sl 3 (.int .i64)),(42,.sl 9 .str),(47,h8),(48,h8),(50,h11),(51,h11),(53,.sl 37 (.sl 3 (.int .i64))),(56,.sl 5 (.int .u8)),(57,h8),(59,h11),(85,.ptr (.int .u8)),(96,.int .u64),(103,.int .i64),(111,.int .u32),(113,.int .u64),(123,.int .u64),(127,.ptr (.int .i64)),(135,.ptr (.int .u64)),(147,.int .u8),(148,.int .u8),(150,.int .i32),(151,.int .i32)]
def sigTab:List (Nat×List Sig):=[(3,[⟨[.z],[(.bool,.z)],[.z]⟩]),(4,[⟨[.z,.z],[(.int .i64,.z)],[.z,.z]⟩]),(5,[⟨[.z],[(.str,.z)],[.z]⟩]),(6,[⟨[.z],[(h18,oI)],[.z]⟩]),(7,[⟨[.z],[(.str,.z)],[.z]⟩]),(8,[⟨[.z,.z],[(.bool,.z)],[.z,.z]⟩]),(9,[⟨[.z,.z],[(.int .i64,.z)],[.z,.z]⟩]),(10,[⟨[.z,.z],[(.int .i64,.z)],[.z,.z]⟩]),(11,[⟨[.z],[(.sl 3 (.int .i64),.own .z)],[.z]⟩]),(12,[⟨[.z],[(.str,.z)],[.z]⟩]),(13,[⟨[.z],[(h15,.own .z)],[.z]⟩]),(14,[⟨[.z],[(h16,oF)],[.z]⟩]),(15,[⟨[.z],[(.sl 3 (.int .i64),.own .z)],[.z]⟩]),(16,[⟨[.z],[(.str,.z)],[.z]⟩]),(17,[⟨[.z,.z],[(.str,.z)],[.z,.z]⟩]),(18,[⟨[.z,.z],[(.bool,.z)],[.z,.z]⟩]),(19,[⟨[.z,.z],[(.bool,.z)],[.z,.z]⟩]),(20,[⟨[.z,.z],[(.int .i64,.z)],[.z,.z]⟩]),(21,[⟨[.z,.z],[(.int .i64,.z)],[.z,.z]⟩]),(22,[⟨[.z],[(.bool,.z)],[.z]⟩]),(23,[⟨[.z],[(.sl 3 (.int .i64),.z)],[.z]⟩]),(24,[⟨[.z],[(.sl 37 (.sl 3 (.int .i64)),.own (.own .z))],[.z]⟩]),(25,[⟨[.z],[(.int .i64,.z)],[.z]⟩]),(26,[⟨[.z],[(h8,.z)],[.z]⟩]),(27,[⟨[.z],[(h11,.pr .z (.pr (.own .z) .z))],[.z]⟩]),(28,[⟨[.z],[(.bool,.z)],[.z]⟩]),(29,[⟨[.z],[(.sl 3 (.int .i64),.own .z)],[.z]⟩]),(30,[⟨[.z],[(.sl 37 (.sl 3 (.int .i64)),.own .z)],[.z]⟩]),(31,[⟨[.z],[(.int .i64,.z)],[.z]⟩]),(32,[⟨[.z],[(.str,.z)],[.z]⟩]),(36,[⟨[.z,.z],[(.bool,.z)],[.z,.z]⟩]),(37,[⟨[.z,.z],[(.bool,.z)],[.z,.z]⟩]),(38,[⟨[.z,.z],[(.int .i64,.z)],[.z,.z]⟩]),(39,[⟨[.z,.z],[(.bool,.z)],[.z,.z]⟩]),(40,[⟨[.z,.z],[(.int .i64,.z)],[.z,.z]⟩]),(41,[⟨[.z],[(.sl 3 (.int .i64),.z)],[.z]⟩]),(42,[⟨[.z],[(.bool,.z)],[.z]⟩]),(43,[⟨[.z,.z],[(.sl 3 (.int .i64),.z)],[.z,.z]⟩]),(44,[⟨[.z],[(.sl 3 (.int .i64),.own .z)],[.z]⟩]),(45,[⟨[.z],[(.bool,.z)],[.z]⟩]),(46,[⟨[.z,.z],[(.bool,.z)],[.z,.z]⟩]),(47,[⟨[.z,.z],[(.int .i64,.z)],[.z,.z]⟩]),(48,[⟨[.z],[(.sl 3 (.int .i64),.own .z)],[.z]⟩]),(49,[⟨[.z],[(.sl 3 (.int .i64),.own .z)],[.z]⟩]),(50,[⟨[.z,.z],[(.bool,.z)],[.z,.z]⟩]),(51,[⟨[.z,.z],[(.bool,.z)],[.z,.z]⟩]),(52,[⟨[.z,.z],[(.bool,.z)],[.z,.z]⟩]),(53,[⟨[.own .z],[],[.own .z]⟩]),(54,[⟨[.own .z],[(.sl 3 (.int .i64),.own .z)],[.dead]⟩]),(55,[⟨[.own .z,.z],[],[.own .z,.z]⟩]),(56,[⟨[.z,.z],[(.int .i64,.z)],[.z,.z]⟩]),(60,[⟨[.z,.z],[(.bool,.z)],[.z,.z]⟩]),(61,[⟨[.z,.z,.z],[(.bool,.z)],[.z,.z,.z]⟩]),(62,[⟨[.z],[(.bool,.z)],[.z]⟩]),(63,[⟨[.z,.z],[(.int .i64,.z)],[.z,.z]⟩]),(64,[⟨[.z],[(.int .i64,.z),(.bool,.z)],[.z]⟩]),(65,[⟨[.z],[(.bool,.z)],[.z]⟩]),(66,[⟨[.z],[(.bool,.z)],[.z]⟩]),(67,[⟨[.z,.z,.z],[(.bool,.z)],[.z,.z,.z]⟩]),(68,[⟨[.z],[(.bool,.z)],[.z]⟩]),(69,[⟨[.z],[(.bool,.z)],[.z]⟩]),(70,[⟨[.z],[(.int .i64,.z)],[.z]⟩]),(71,[⟨[.z,.z],[(.int .i64,.z)],[.z,.z]⟩]),(72,[⟨[.z],[(.int .i64,.z),(.bool,.z)],[.z]⟩]),(73,[⟨[.z,.z],[(.int .i64,.z)],[.z,.z]⟩]),(74,[⟨[.z,.z],[(.int .i64,.z)],[.z,.z]⟩]),(81,[⟨[.z],[(.bool,.z)],[.z]⟩])]
def parTab:List (Nat×List (Option Sh)):=[(3,[some (h14)]),(4,[some (h14),some (.int .i64)]),(5,[some (h18)]),(6,[some (h14)]),(7,[some (h18)]),(8,[some (h18),some (h18)]),(9,[some (h9),some (.int .i64)]),(10,[some (h12),some (.int .i64)]),(11,[some (h18)]),(12,[some (.int .i64)]),(13,[some (h9)]),(14,[some (h12)]),(15,[some (h18)]),(16,[some (.int .i64)]),(17,[some (.sl 9 .str),some (.str)]),(18,[some (h15),some (h15)]),(19,[some (h16),some (h16)]),(20,[some (h8),some (.int .i64)]),(21,[some (h11),some (.int .i64)]),(22,[some (h18)]),(23,[some (h18)]),(24,[some (h18)]),(25,[some (h18)]),(26,[some (h8)]),(27,[some (h11)]),(28,[some (h18)]),(29,[some (h18)]),(30,[some (h18)]),(31,[some (h18)]),(32,[some (.int .i64)]),(36,[some (h8),some (h8)]),(37,[some (h11),some (h11)]),(38,[some (.sl 3 (.int .i64)),some (.int .i64)]),(39,[some (h15),some (h11)]),(40,[some (h11),some (h11)]),(41,[some (h11)]),(42,[some (h15)]),(43,[some (.sl 3 (.int .i64)),some (.int .i64)]),(44,[some (.sl 3 (.int .i64))]),(45,[some (h15)]),(46,[some (h15),some (h11)]),(47,[some (h11),some (h11)]),(48,[some (h11)]),(49,[some (.sl 3 (.int .i64))]),(50,[some (.sl 3 (.int .i64)),none]),(51,[some (.int .i64)]),(52,[some (.sl 3 (.int .i64)),some (.int .i64)]),(53,[some (.sl 3 (.int .i64))]),(54,[some (.sl 3 (.int .i64))]),(55,[some (.sl 37 (.sl 3 (.int .i64))),none]),(56,[some (.sl 3 (.int .i64)),some (.sl 3 (.int .i64))]),(60,[some (.sl 3 (.int .i64)),some (.sl 3 (.int .i64))]),(61,[some (.int .i64),some (.int .i64),some (.int .i64)]),(62,[some (.int .i64)]),(63,[some (.sl 3 (.int .i64)),some (.sl 3 (.int .i64))]),(64,[some (.int .i64)]),(65,[some (h8)]),(66,[some (h8)]),(67,[some (.int .i64),some (.int .i64),some (.int .i64)]),(68,[some (.int .i64)]),(69,[some (.int .i64)]),(70,[some (.sl 3 (.int .i64))]),(71,[some (.int .i64),some (.int .i64)]),(72,[some (.int .i64)]),(73,[some (.sl 3 (.int .i64)),none]),(74,[some (.sl 3 (.int .i64)),some (.int .i64)]),(81,[some (.int .i64)])]
noncomputable def E:Env:={ sh:=fun t=>look t shTab,sigs:=fun f=>(look f sigTab).getD [],params:=fun f=>(look f parTab).getD [],gives:=GivesS prog }
theorem types_ok:∀ t s,E.sh t=some s→ShOk prog s none t:=tab_ok (by kernel_rfl)
theorem mixed:prog.follows .mixedOrders=true:=by kernel_rfl
abbrev nL:Nat→Option Loop:=fun i=>look i []
abbrev nP:Nat→Option Pl:=fun i=>look i []
theorem fz {L : Nat → Option Loop} {pl : Nat → Option Pl} {f : FuncId} {fn : Func} {us : List OV} {l m : List (Sh × O)} {val : resD (outD m) l} {Q : Prop} (hf : prog.funcs[f]? = some fn) (h : Q) (hn : (fn.name == "runtime.NumGoroutine") = false := by kernel_rfl) (hu : outFit us m = true := by rfl) (e : fnV E L pl fn ⟨m.map (·.2), l, m.map (·.2)⟩ us (ansK l m fun r => r = val) = Q := by kernel_rfl) : GivesS prog f us (encR l val).1 (encO us m (encR l val).2) := fn_gives types_ok (fun _ _ _ _ h => h) mixed hf hn rfl rfl hu (Eq.mpr e h)
theorem fy {f : FuncId} {fn : Func} {us : List OV} {l m : List (Sh × O)} {val : resD (outD m) l} {Q : Prop} (hf : prog.funcs[f]? = some fn) (h : Q) (hn : (fn.name == "runtime.NumGoroutine") = false := by kernel_rfl) (hu : outFit us m = true := by rfl) (e : fnV E nL nP fn ⟨m.map (·.2), l, m.map (·.2)⟩ us (ansK l m fun r => r = val) = Q := by kernel_rfl) : GivesS prog f us (encR l val).1 (encO us m (encR l val).2) := fn_gives types_ok (fun _ _ _ _ h => h) mixed hf hn rfl rfl hu (Eq.mpr e h)
def G_lFnExactFormatStatistics (x0:TInst) (y0:Bool):Prop:=gZ 3 [⟨h14,.z,x0⟩] [⟨.bool,.z,y0⟩]
def G_leqInstance (x0:TInst) (x1:TInst) (y0:Bool):Prop:=gZ 8 [⟨h18,.z,x0⟩,⟨h18,.z,x1⟩] [⟨.bool,.z,y0⟩]
def G_leqFactS (x0:List TFact) (x1:List TFact) (y0:Bool):Prop:=gZ 19 [⟨h16,.z,x0⟩,⟨h16,.z,x1⟩] [⟨.bool,.z,y0⟩]
def G_leqFact (x0:TFact) (x1:TFact) (y0:Bool):Prop:=gZ 37 [⟨h11,.z,x0⟩,⟨h11,.z,x1⟩] [⟨.bool,.z,y0⟩]
def G_leqIntS (x0:List Int) (x1:List Int) (y0:Bool):Prop:=gZ 60 [⟨.sl 3 (.int .i64),.z,x0⟩,⟨.sl 3 (.int .i64),.z,x1⟩] [⟨.bool,.z,y0⟩]
def G_leqRelationS (x0:List TRel) (x1:List TRel) (y0:Bool):Prop:=gZ 18 [⟨h15,.z,x0⟩,⟨h15,.z,x1⟩] [⟨.bool,.z,y0⟩]
def G_leqRelation (x0:TRel) (x1:TRel) (y0:Bool):Prop:=gZ 36 [⟨h8,.z,x0⟩,⟨h8,.z,x1⟩] [⟨.bool,.z,y0⟩]
def G_ltoInstance (x0:TInst) (y0:TInst):Prop:=gZ 6 [⟨h14,.z,x0⟩] [⟨h18,oI,y0⟩]
def G_ltoFactS (x0:List TFact) (y0:List TFact):Prop:=gZ 14 [⟨h12,.z,x0⟩] [⟨h16,oF,y0⟩]
def G_ltoFact (x0:TFact) (y0:TFact):Prop:=gZ 27 [⟨h11,.z,x0⟩] [⟨h11,.pr .z (.pr (.own .z) .z),y0⟩]
def G_ltoIntS (x0:List Int) (y0:List Int):Prop:=gZ 44 [⟨.sl 3 (.int .i64),.z,x0⟩] [⟨.sl 3 (.int .i64),.own .z,y0⟩]
def G_ltoRelationS (x0:List TRel) (y0:List TRel):Prop:=gZ 13 [⟨h9,.z,x0⟩] [⟨h15,.own .z,y0⟩]
def G_ltoRelation (x0:TRel) (y0:TRel):Prop:=gZ 26 [⟨h8,.z,x0⟩] [⟨h8,.z,y0⟩]
def G_iFormatStatistics (x0:TInst) (y0:List UInt8):Prop:=gZ 7 [⟨h18,.z,x0⟩] [⟨.str,.z,y0⟩]
def G_strings_Join (x0:List (List UInt8)) (x1:List UInt8) (y0:List UInt8):Prop:=gZ 17 [⟨.sl 9 .str,.z,x0⟩,⟨.str,.z,x1⟩] [⟨.str,.z,y0⟩]
def G_iFormatInt (x0:Int) (y0:List UInt8):Prop:=gZ 16 [⟨.int .i64,.z,x0⟩] [⟨.str,.z,y0⟩]
def G_strconv_Itoa (x0:Int) (y0:List UInt8):Prop:=gZ 32 [⟨.int .i64,.z,x0⟩] [⟨.str,.z,y0⟩]
def G_iStatistics (x0:TInst) (y0:List Int):Prop:=gZ 15 [⟨h18,.z,x0⟩] [⟨.sl 3 (.int .i64),.own .z,y0⟩]
def G_iLargestBlockSize (x0:TInst) (y0:Int):Prop:=gZ 31 [⟨h18,.z,x0⟩] [⟨.int .i64,.z,y0⟩]
def G_iNullBlocks (x0:TInst) (y0:List (List Int)):Prop:=gZ 30 [⟨h18,.z,x0⟩] [⟨.sl 37 (.sl 3 (.int .i64)),.own .z,y0⟩]
def G_slices_SortFunc_Sint_ooz_c_slices_Compare_int (x0:List (List Int)) (x1:Unit) (z0:List (List Int)):Prop:=GivesS prog 55 [⟨.sl 37 (.sl 3 (.int .i64)),.own .z,x0⟩,⟨.fn 56 .unit,.z,x1⟩] [] [⟨.sl 37 (.sl 3 (.int .i64)),.own .z,z0⟩,⟨.fn 56 .unit,.z,x1⟩]
def G_slices_Compact_int_ooz (x0:List Int) (y0:List Int):Prop:=GivesS prog 54 [⟨.sl 3 (.int .i64),.own .z,x0⟩] [⟨.sl 3 (.int .i64),.own .z,y0⟩] [⟨.sl 3 (.int .i64),.dead,x0⟩]
def G_slices_Sort_int_ooz (x0:List Int) (z0:List Int):Prop:=GivesS prog 53 [⟨.sl 3 (.int .i64),.own .z,x0⟩] [] [⟨.sl 3 (.int .i64),.own .z,z0⟩]
def G_slices_ContainsFunc_int_c_iNullBlocks_1 (x0:List Int) (x1:TUf) (y0:Bool):Prop:=gZ 50 [⟨.sl 3 (.int .i64),.z,x0⟩,⟨.fn 51 h19,.z,x1⟩] [⟨.bool,.z,y0⟩]
def G_slices_IndexFunc_int_c_iNullBlocks_1 (x0:List Int) (x1:TUf) (y0:Int):Prop:=gZ 73 [⟨.sl 3 (.int .i64),.z,x0⟩,⟨.fn 51 h19,.z,x1⟩] [⟨.int .i64,.z,y0⟩]
def G_iNullBlocks_1 (x0:Int) (x1:List Int) (y0:Bool):Prop:=gZ 51 [⟨.int .i64,.z,x0⟩,⟨.ptr (.sl 3 (.int .i64)),.z,x1⟩] [⟨.bool,.z,y0⟩]
def G_slices_Contains_int (x0:List Int) (x1:Int) (y0:Bool):Prop:=gZ 52 [⟨.sl 3 (.int .i64),.z,x0⟩,⟨.int .i64,.z,x1⟩] [⟨.bool,.z,y0⟩]
def G_slices_Index_int (x0:List Int) (x1:Int) (y0:Int):Prop:=gZ 74 [⟨.sl 3 (.int .i64),.z,x0⟩,⟨.int .i64,.z,x1⟩] [⟨.int .i64,.z,y0⟩]
def G_iNullsOfFact (x0:TFact) (y0:List Int):Prop:=gZ 48 [⟨h11,.z,x0⟩] [⟨.sl 3 (.int .i64),.own .z,y0⟩]
def G_inullsOf (x0:List Int) (y0:List Int):Prop:=gZ 49 [⟨.sl 3 (.int .i64),.z,x0⟩] [⟨.sl 3 (.int .i64),.own .z,y0⟩]
def G_iNullNumber (x0:Int) (y0:Int) (y1:Bool):Prop:=gZ 72 [⟨.int .i64,.z,x0⟩] [⟨.int .i64,.z,y0⟩,⟨.bool,.z,y1⟩]
def G_iwithin (x0:Int) (x1:Int) (x2:Int) (y0:Bool):Prop:=gZ 67 [⟨.int .i64,.z,x0⟩,⟨.int .i64,.z,x1⟩,⟨.int .i64,.z,x2⟩] [⟨.bool,.z,y0⟩]
def G_iIsValidInstance (x0:TInst) (y0:Bool):Prop:=gZ 28 [⟨h18,.z,x0⟩] [⟨.bool,.z,y0⟩]
def G_iCompareFacts (x0:TFact) (x1:TFact) (y0:Int):Prop:=gZ 47 [⟨h11,.z,x0⟩,⟨h11,.z,x1⟩] [⟨.int .i64,.z,y0⟩]
def G_cmp_Or_int (x0:List Int) (y0:Int):Prop:=gZ 70 [⟨.sl 3 (.int .i64),.z,x0⟩] [⟨.int .i64,.z,y0⟩]
def G_slices_Compare_int (x0:List Int) (x1:List Int) (y0:Int):Prop:=gZ 56 [⟨.sl 3 (.int .i64),.z,x0⟩,⟨.sl 3 (.int .i64),.z,x1⟩] [⟨.int .i64,.z,y0⟩]
def G_cmp_Compare_int (x0:Int) (x1:Int) (y0:Int):Prop:=gZ 71 [⟨.int .i64,.z,x0⟩,⟨.int .i64,.z,x1⟩] [⟨.int .i64,.z,y0⟩]
def G_cmp_isNaN_int (x0:Int) (y0:Bool):Prop:=gZ 81 [⟨.int .i64,.z,x0⟩] [⟨.bool,.z,y0⟩]
def G_iIsValidFact (x0:List TRel) (x1:TFact) (y0:Bool):Prop:=gZ 46 [⟨h15,.z,x0⟩,⟨h11,.z,x1⟩] [⟨.bool,.z,y0⟩]
def G_slices_ContainsFunc_int_c_iIsValidFact_1 (x0:List Int) (x1:Unit) (y0:Bool):Prop:=gZ 50 [⟨.sl 3 (.int .i64),.z,x0⟩,⟨.fn 68 .unit,.z,x1⟩] [⟨.bool,.z,y0⟩]
def G_slices_IndexFunc_int_c_iIsValidFact_1 (x0:List Int) (x1:Unit) (y0:Int):Prop:=gZ 73 [⟨.sl 3 (.int .i64),.z,x0⟩,⟨.fn 68 .unit,.z,x1⟩] [⟨.int .i64,.z,y0⟩]
def G_iIsValidFact_1 (x0:Int) (y0:Bool):Prop:=gZ 68 [⟨.int .i64,.z,x0⟩] [⟨.bool,.z,y0⟩]
def G_iIsValidValue (x0:Int) (y0:Bool):Prop:=gZ 69 [⟨.int .i64,.z,x0⟩] [⟨.bool,.z,y0⟩]
def G_iAreValidRelations (x0:List TRel) (y0:Bool):Prop:=gZ 45 [⟨h15,.z,x0⟩] [⟨.bool,.z,y0⟩]
def G_iIsValidRelation (x0:TRel) (y0:Bool):Prop:=gZ 66 [⟨h8,.z,x0⟩] [⟨.bool,.z,y0⟩]
def G_iNullsOfInstance (x0:TInst) (y0:List Int):Prop:=gZ 29 [⟨h18,.z,x0⟩] [⟨.sl 3 (.int .i64),.own .z,y0⟩]
def G_sFormatStatistics (x0:TInst) (y0:List UInt8):Prop:=gZ 5 [⟨h18,.z,x0⟩] [⟨.str,.z,y0⟩]
def G_sFormatInt (x0:Int) (y0:List UInt8):Prop:=gZ 12 [⟨.int .i64,.z,x0⟩] [⟨.str,.z,y0⟩]
def G_sStatistics (x0:TInst) (y0:List Int):Prop:=gZ 11 [⟨h18,.z,x0⟩] [⟨.sl 3 (.int .i64),.own .z,y0⟩]
def G_sLargestBlockSize (x0:TInst) (y0:Int):Prop:=gZ 25 [⟨h18,.z,x0⟩] [⟨.int .i64,.z,y0⟩]
def G_sNullBlocks (x0:TInst) (y0:List (List Int)):Prop:=gZ 24 [⟨h18,.z,x0⟩] [⟨.sl 37 (.sl 3 (.int .i64)),.own (.own .z),y0⟩]
def G_sNullsOfFact (x0:TFact) (y0:List Int):Prop:=gZ 41 [⟨h11,.z,x0⟩] [⟨.sl 3 (.int .i64),.z,y0⟩]
def G_sl4Put (x0:List Int) (x1:Int) (y0:List Int):Prop:=gZ 43 [⟨.sl 3 (.int .i64),.z,x0⟩,⟨.int .i64,.z,x1⟩] [⟨.sl 3 (.int .i64),.z,y0⟩]
def G_sNullNumber (x0:Int) (y0:Int) (y1:Bool):Prop:=gZ 64 [⟨.int .i64,.z,x0⟩] [⟨.int .i64,.z,y0⟩,⟨.bool,.z,y1⟩]
def G_sl1In (x0:Int) (x1:Int) (x2:Int) (y0:Bool):Prop:=gZ 61 [⟨.int .i64,.z,x0⟩,⟨.int .i64,.z,x1⟩,⟨.int .i64,.z,x2⟩] [⟨.bool,.z,y0⟩]
def G_sNullsOfInstance (x0:TInst) (y0:List Int):Prop:=gZ 23 [⟨h18,.z,x0⟩] [⟨.sl 3 (.int .i64),.z,y0⟩]
def G_sIsValidInstance (x0:TInst) (y0:Bool):Prop:=gZ 22 [⟨h18,.z,x0⟩] [⟨.bool,.z,y0⟩]
def G_sAreValidRelations (x0:List TRel) (y0:Bool):Prop:=gZ 42 [⟨h15,.z,x0⟩] [⟨.bool,.z,y0⟩]
def G_sIsValidRelation (x0:TRel) (y0:Bool):Prop:=gZ 65 [⟨h8,.z,x0⟩] [⟨.bool,.z,y0⟩]
def G_sCompareFacts (x0:TFact) (x1:TFact) (y0:Int):Prop:=gZ 40 [⟨h11,.z,x0⟩,⟨h11,.z,x1⟩] [⟨.int .i64,.z,y0⟩]
def G_sl4Ints (x0:List Int) (x1:List Int) (y0:Int):Prop:=gZ 63 [⟨.sl 3 (.int .i64),.z,x0⟩,⟨.sl 3 (.int .i64),.z,x1⟩] [⟨.int .i64,.z,y0⟩]
def G_sIsValidFact (x0:List TRel) (x1:TFact) (y0:Bool):Prop:=gZ 39 [⟨h15,.z,x0⟩,⟨h11,.z,x1⟩] [⟨.bool,.z,y0⟩]
def G_sIsValidValue (x0:Int) (y0:Bool):Prop:=gZ 62 [⟨.int .i64,.z,x0⟩] [⟨.bool,.z,y0⟩]
def G_lszInstance (x0:TInst) (x1:Int) (y0:Int):Prop:=gZ 4 [⟨h14,.z,x0⟩,⟨.int .i64,.z,x1⟩] [⟨.int .i64,.z,y0⟩]
def G_lszFactS (x0:List TFact) (x1:Int) (y0:Int):Prop:=gZ 10 [⟨h12,.z,x0⟩,⟨.int .i64,.z,x1⟩] [⟨.int .i64,.z,y0⟩]
def G_lszFact (x0:TFact) (x1:Int) (y0:Int):Prop:=gZ 21 [⟨h11,.z,x0⟩,⟨.int .i64,.z,x1⟩] [⟨.int .i64,.z,y0⟩]
def G_lszIntS (x0:List Int) (x1:Int) (y0:Int):Prop:=gZ 38 [⟨.sl 3 (.int .i64),.z,x0⟩,⟨.int .i64,.z,x1⟩] [⟨.int .i64,.z,y0⟩]
def G_lszRelationS (x0:List TRel) (x1:Int) (y0:Int):Prop:=gZ 9 [⟨h9,.z,x0⟩,⟨.int .i64,.z,x1⟩] [⟨.int .i64,.z,y0⟩]
def G_lszRelation (x0:TRel) (x1:Int) (y0:Int):Prop:=gZ 20 [⟨h8,.z,x0⟩,⟨.int .i64,.z,x1⟩] [⟨.int .i64,.z,y0⟩]
end Go.V

