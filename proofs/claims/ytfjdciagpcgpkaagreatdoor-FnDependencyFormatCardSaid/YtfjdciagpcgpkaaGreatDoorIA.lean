/-
  The functions that are reached: types, signatures, what a call of each gives.
-/
import Derived.Test.YtfjdciagpcgpkaaGreatDoorVE
import Derived.Test.YtfjdciagpcgpkaaGreatDoorProg
import Derived.KernelRfl
set_option linter.unusedVariables false
set_option linter.unusedSimpArgs false
set_option maxRecDepth 1000000
set_option maxHeartbeats 4000000
set_option linter.unusedVariables false
namespace Go.V
open Go Go.Proofs
abbrev h0:Sh:=.pair (.int .u8) .unit
abbrev h1:Sh:=.pair .bool h0
abbrev h2:Sh:=.pair (.int .i64) h1
abbrev h3:Sh:=.pair (.int .i64) h2
abbrev h4:Sh:=.pair (.int .u64) .unit
abbrev h5:Sh:=.pair .str h4
abbrev h6:Sh:=.pair .bool .unit
abbrev h7:Sh:=.pair (.int .i64) h6
abbrev h8:Sh:=.pair .str h7
abbrev h9:Sh:=.sl 65 h8
abbrev h10:Sh:=.pair (.sl 3 (.int .i64)) .unit
abbrev h11:Sh:=.pair (.int .i64) h10
abbrev h12:Sh:=.sl 63 h11
abbrev h13:Sh:=.pair (.int .i64) .unit
abbrev h14:Sh:=.pair (.int .i64) h13
abbrev h15:Sh:=.pair .bool h14
abbrev h16:Sh:=.pair h12 h15
abbrev h17:Sh:=.pair h12 h16
abbrev h18:Sh:=.pair (.sl 5 (.int .u8)) h14
abbrev h19:Sh:=.pair (.int .u8) h0
abbrev h20:Sh:=.pair (.ptr h9) .unit
abbrev h21:Sh:=.pair (.ptr .str) .unit
abbrev oF:O:=.own (.pr .z (.pr (.own .z) .z))
abbrev oI:O:=.pr (.own .z) (.pr oF .z)
abbrev oT:O:=.own (.pr .z (.pr .z (.pr (.own .z) .z)))
abbrev oS:O:=.pr oI (.pr oT .z)
abbrev oD:O:=.pr oF (.pr oF .z)
abbrev oE:O:=.own oD
noncomputable abbrev prog:Program:=Tryz.prog
noncomputable abbrev gZ (f:Nat) (us rs:List OV):Prop:=GivesS prog f us rs us
def shTab:List (Nat×Sh):=[(2,.int .i64),(3,.int .i64),(4,.bool),(5,.int .u8),(6,.int .u8),(9,.str),(10,.str),(11,.str),(12,.int .u64),(21,.int .i32),(22,.sl 5 (.int .u8)),(24,h9),(25,h12),(26,h17),(27,h17),(37,.sl 3 (.int .i64)),(50,.ptr h18),(57,.sl 9 .str),(62,h11),(63,h11),(64,h8),(65,h8),(81,h18),(82,h18),(95,.int .u64),(113,.int .i64),(122,.int .u32),(124,.int .u64),(127,.ptr (.int .u8)),(129,.int .u64),(133,.ptr (.int .i64)),(143,.ptr (.int .u64)),(151,h19),(152,h19),(165,.int .u8),(166,.int .u8),(168,.int .i32),(169,.int .i32)]
def sigTab:List (Nat×List Sig):=[(3,[⟨[.z],[(.bool,.z)],[.z]⟩]),(4,[⟨[.z],[(.bool,.z)],[.z]⟩]),(5,[⟨[.z],[(h9,.own .z),(h17,oD)],[.z]⟩]),(6,[⟨[.z,.z],[(h17,oD),(.bool,.z)],[.z,.z]⟩]),(7,[⟨[.z,.z],[(.str,.z)],[.z,.z]⟩]),(8,[⟨[.z],[(h9,.own .z),(.str,.z)],[.z]⟩]),(9,[⟨[.z,.z],[(h17,oD),(.bool,.z)],[.z,.z]⟩]),(10,[⟨[.z,.z],[(.bool,.z)],[.z,.z]⟩]),(11,[⟨[.z,.z],[(.bool,.z)],[.z,.z]⟩]),(12,[⟨[.z,.z],[(.bool,.z)],[.z,.z]⟩]),(13,[⟨[.z],[(.sl 3 (.int .i64),.own .z)],[.z]⟩]),(14,[⟨[.z],[(.sl 3 (.int .i64),.own .z)],[.z]⟩]),(15,[⟨[.z],[(.sl 3 (.int .i64),.own .z)],[.z]⟩]),(16,[⟨[.z,.z],[(.bool,.z)],[.z,.z]⟩]),(17,[⟨[.z],[(h17,oD),(h17,oD)],[.z]⟩]),(18,[⟨[.z,.z],[(.bool,.z)],[.z,.z]⟩]),(19,[⟨[.z],[(.bool,.z)],[.z]⟩]),(20,[⟨[.z],[(.bool,.z)],[.z]⟩]),(21,[⟨[.z],[(h9,.own .z),(h17,oD)],[.z]⟩]),(22,[⟨[.z,.z],[(.str,.z),(.str,.z),(.bool,.z)],[.z,.z]⟩]),(23,[⟨[.z,.z],[(h12,oF)],[.z,.z]⟩]),(24,[⟨[.z],[(.int .i64,.z)],[.z]⟩]),(25,[⟨[.z,.z],[(.str,.z)],[.z,.z]⟩]),(26,[⟨[.z],[(.str,.z)],[.z]⟩]),(27,[⟨[.z],[(.ptr h18,.own .z)],[.z]⟩]),(28,[⟨[.z,.z],[(.str,.z)],[.z,.z]⟩]),(29,[⟨[],[(h9,.own .z)],[]⟩]),(30,[⟨[.own .z],[(h17,oD)],[.own .z]⟩]),(31,[⟨[.own .z,.z],[(.bool,.z)],[.own .z,.z]⟩]),(32,[⟨[.own .z,.z],[(.str,.z)],[.own .z,.z]⟩]),(33,[⟨[.own .z,.z],[(.str,.z)],[.own .z,.z]⟩]),(34,[⟨[.z,.z],[(.sl 9 .str,.own .z)],[.z,.z]⟩]),(35,[⟨[.z,.z],[(h12,oF)],[.z,.z]⟩]),(36,[⟨[.z],[(.int .i64,.z)],[.z]⟩]),(37,[⟨[.z,.z,.z],[(.bool,.z)],[.z,.z,.z]⟩]),(38,[⟨[.z,.z],[(.bool,.z)],[.z,.z]⟩]),(39,[⟨[oF],[(.sl 3 (.int .i64),.z)],[oF]⟩,⟨[.z],[(.sl 3 (.int .i64),.z)],[.z]⟩]),(40,[⟨[.z,.z],[(.bool,.z)],[.z,.z]⟩]),(41,[⟨[.z,.z,.z],[(.bool,.z)],[.z,.z,.z]⟩]),(42,[⟨[.z,.z],[(.bool,.z)],[.z,.z]⟩]),(43,[⟨[.z,.z],[(.bool,.z)],[.z,.z]⟩]),(44,[⟨[.z,.z],[(.bool,.z)],[.z,.z]⟩]),(45,[⟨[.z,.z],[(.bool,.z)],[.z,.z]⟩]),(46,[⟨[.z,.z],[(.sl 3 (.int .i64),.own .z)],[.z,.z]⟩]),(47,[⟨[.own .z],[],[.own .z]⟩]),(48,[⟨[.own .z],[(.sl 3 (.int .i64),.own .z)],[.dead]⟩]),(49,[⟨[.z],[(h17,oD)],[.z]⟩]),(50,[⟨[.z,.z,.z],[(.bool,.z)],[.z,.z,.z]⟩]),(51,[⟨[.z,.z],[(.bool,.z)],[.z,.z]⟩]),(52,[⟨[.z],[(.sl 3 (.int .i64),.own .z)],[.z]⟩]),(54,[⟨[.z,.z],[(.sl 9 .str,.own .z)],[.z,.z]⟩]),(55,[⟨[.z,.z],[(.int .i64,.z)],[.z,.z]⟩]),(56,[⟨[.z,.z],[(.int .i64,.z)],[.z,.z]⟩]),(57,[⟨[.z,.z],[(.str,.z)],[.z,.z]⟩]),(58,[⟨[.z,.z],[(.str,.z)],[.z,.z]⟩]),(59,[⟨[.z,.z,.z],[(.bool,.z)],[.z,.z,.z]⟩]),(60,[⟨[.z],[(.str,.z)],[.z]⟩]),(61,[⟨[.z,.z],[(.str,.z)],[.z,.z]⟩]),(62,[⟨[.z],[(.str,.z)],[.z]⟩]),(63,[⟨[.own .z],[(h17,oD)],[.own .z]⟩]),(64,[⟨[.own .z,.z],[(.int .i64,.z)],[.own .z,.z]⟩]),(65,[⟨[.own .z,.z],[(.int .i64,.z)],[.own .z,.z]⟩]),(66,[⟨[.own .z,.z,.z],[(h11,.pr .z (.pr (.own .z) .z))],[.own .z,.z,.z]⟩]),(67,[⟨[.own .z,.z],[(.str,.z)],[.own .z,.z]⟩]),(68,[⟨[.own .z],[(.int .i64,.z)],[.own .z]⟩]),(69,[⟨[.z,.z],[(.int .i64,.z)],[.z,.z]⟩]),(70,[⟨[.z],[(.bool,.z)],[.z]⟩]),(71,[⟨[.z,.z],[(.sl 3 (.int .i64),.z)],[.z,.z]⟩]),(72,[⟨[.z,.z],[(.bool,.z)],[.z,.z]⟩]),(73,[⟨[.z,.z],[(.bool,.z)],[.z,.z]⟩]),(74,[⟨[.z,.z],[(.int .i64,.z)],[.z,.z]⟩]),(75,[⟨[.z,.z],[(.int .i64,.z)],[.z,.z]⟩]),(76,[⟨[.z,.z],[(.int .i64,.z)],[.z,.z]⟩]),(79,[⟨[.z,.z],[(.bool,.z)],[.z,.z]⟩]),(82,[⟨[.z,.z],[(.int .i64,.z)],[.z,.z]⟩]),(83,[⟨[.z,.z],[(.bool,.z)],[.z,.z]⟩]),(88,[⟨[.z],[(.str,.z)],[.z]⟩]),(89,[⟨[.z,.z],[(.str,.z)],[.z,.z]⟩]),(90,[⟨[.z],[(.str,.z)],[.z]⟩]),(91,[⟨[.own .z],[(h17,oD)],[.own .z]⟩]),(92,[⟨[.z],[(.bool,.z)],[.z]⟩]),(93,[⟨[.z],[(.bool,.z)],[.z]⟩]),(94,[⟨[.z,.z],[(.bool,.z)],[.z,.z]⟩]),(95,[⟨[.z],[(.bool,.z)],[.z]⟩]),(117,[⟨[.z],[(.bool,.z)],[.z]⟩]),(118,[⟨[.z,.z],[(.int .i64,.z)],[.z,.z]⟩])]
def parTab:List (Nat×List (Option Sh)):=[(3,[some (.sl 5 (.int .u8))]),(4,[some (.sl 5 (.int .u8))]),(5,[some (.sl 5 (.int .u8))]),(6,[some (h9),some (.str)]),(7,[some (h9),some (h17)]),(8,[some (.sl 5 (.int .u8))]),(9,[some (h9),some (.str)]),(10,[some (h9),some (h17)]),(11,[some (h9),some (h17)]),(12,[some (h17),some (h17)]),(13,[some (h17)]),(14,[some (h17)]),(15,[some (h12)]),(16,[some (.sl 3 (.int .i64)),some (.int .i64)]),(17,[some (.sl 5 (.int .u8))]),(18,[some (h17),some (h17)]),(19,[some (h17)]),(20,[some (h17)]),(21,[some (.sl 5 (.int .u8))]),(22,[some (.str),some (.str)]),(23,[some (h9),some (.str)]),(24,[some (.int .u8)]),(25,[some (h9),some (h12)]),(26,[some (.int .i64)]),(27,[some (.sl 5 (.int .u8))]),(28,[some (h9),some (h17)]),(29,[]),(30,[some (.ptr h18)]),(31,[some (.ptr h18),some (.int .i64)]),(32,[some (.ptr h18),some (.sl 9 .str)]),(33,[some (.ptr h18),some (.str)]),(34,[some (.str),some (.int .u8)]),(35,[some (h9),some (.str)]),(36,[some (.str)]),(37,[some (.int .i64),some (.int .i64),some (.int .i64)]),(38,[some (h9),some (h11)]),(39,[some (h12)]),(40,[some (.sl 3 (.int .i64)),some (.int .i64)]),(41,[some (h9),some (h12),some (.int .i64)]),(42,[some (.sl 3 (.int .i64)),some (.int .i64)]),(43,[some (h12),none]),(44,[some (h11)]),(45,[some (h12),some (h12)]),(46,[some (h17),some (.bool)]),(47,[some (.sl 3 (.int .i64))]),(48,[some (.sl 3 (.int .i64))]),(49,[some (h17)]),(50,[some (h12),some (h12),none]),(51,[some (h11),some (h11)]),(52,[some (h17)]),(54,[some (.str),some (.str)]),(55,[some (h9),some (.str)]),(56,[some (.str),some (.int .u8)]),(57,[some (h9),some (h11)]),(58,[some (.sl 9 .str),some (.str)]),(59,[some (.int .i64),some (.int .i64),some (.int .i64)]),(60,[some (.int .i64)]),(61,[some (h9),some (h12)]),(62,[some (.int .i64)]),(63,[some (.ptr h18)]),(64,[some (.ptr h18),some (.int .i64)]),(65,[some (.ptr h18),some (.sl 3 (.int .i64))]),(66,[some (.ptr h18),some (.int .i64),some (.int .i64)]),(67,[some (.ptr h18),some (.int .i64)]),(68,[some (.ptr h18)]),(69,[some (h9),some (.str)]),(70,[some (h9)]),(71,[some (.sl 3 (.int .i64)),some (.int .i64)]),(72,[some (h11)]),(73,[some (h9),some (h11)]),(74,[some (.sl 3 (.int .i64)),some (.int .i64)]),(75,[some (h12),none]),(76,[some (.sl 3 (.int .i64)),some (.sl 3 (.int .i64))]),(79,[some (.sl 3 (.int .i64)),some (.sl 3 (.int .i64))]),(82,[some (h9),none]),(83,[some (h8)]),(88,[some (.int .i64)]),(89,[some (h9),some (h11)]),(90,[some (.int .i64)]),(91,[some (.ptr h18)]),(92,[some (h8)]),(93,[some (h9)]),(94,[some (.sl 3 (.int .i64)),none]),(95,[some (.int .i64)]),(117,[some (h8)]),(118,[some (.sl 3 (.int .i64)),none])]
noncomputable def E:Env:={ sh:=fun t=>look t shTab,sigs:=fun f=>(look f sigTab).getD [],params:=fun f=>(look f parTab).getD [],gives:=GivesS prog }
theorem types_ok:∀ t s,E.sh t=some s→ShOk prog s none t:=tab_ok (by kernel_rfl)
theorem mixed:prog.follows .mixedOrders=true:=by kernel_rfl
abbrev nL:Nat→Option Loop:=fun i=>look i []
abbrev nP:Nat→Option Pl:=fun i=>look i []
theorem fg {L : Nat → Option Loop} {pl : Nat → Option Pl} {f : FuncId} {fn : Func} {g : Sig} {us : List OV} {m : List (Sh × O)} {val : resD (outD m) g.res} {Q : Prop} (hf : prog.funcs[f]? = some fn) (h : Q) (hn : (fn.name == "runtime.NumGoroutine") = false := by kernel_rfl) (ho : g.outs = m.map (·.2) := by rfl) (hu : outFit us m = true := by rfl) (e : fnV E L pl fn g us (ansK g.res m fun r => r = val) = Q := by kernel_rfl) : GivesS prog f us (encR g.res val).1 (encO us m (encR g.res val).2) := fn_gives types_ok (fun _ _ _ _ h => h) mixed hf hn rfl ho hu (Eq.mpr e h)
theorem fz {L : Nat → Option Loop} {pl : Nat → Option Pl} {f : FuncId} {fn : Func} {us : List OV} {l m : List (Sh × O)} {val : resD (outD m) l} {Q : Prop} (hf : prog.funcs[f]? = some fn) (h : Q) (hn : (fn.name == "runtime.NumGoroutine") = false := by kernel_rfl) (hu : outFit us m = true := by rfl) (e : fnV E L pl fn ⟨m.map (·.2), l, m.map (·.2)⟩ us (ansK l m fun r => r = val) = Q := by kernel_rfl) : GivesS prog f us (encR l val).1 (encO us m (encR l val).2) := fn_gives types_ok (fun _ _ _ _ h => h) mixed hf hn rfl rfl hu (Eq.mpr e h)
theorem fy {f : FuncId} {fn : Func} {us : List OV} {l m : List (Sh × O)} {val : resD (outD m) l} {Q : Prop} (hf : prog.funcs[f]? = some fn) (h : Q) (hn : (fn.name == "runtime.NumGoroutine") = false := by kernel_rfl) (hu : outFit us m = true := by rfl) (e : fnV E nL nP fn ⟨m.map (·.2), l, m.map (·.2)⟩ us (ansK l m fun r => r = val) = Q := by kernel_rfl) : GivesS prog f us (encR l val).1 (encO us m (encR l val).2) := fn_gives types_ok (fun _ _ _ _ h => h) mixed hf hn rfl rfl hu (Eq.mpr e h)
def G_lFnDependencyFormat (x0:List Int) (y0:Bool):Prop:=gZ 3 [⟨.sl 5 (.int .u8),.z,x0⟩] [⟨.bool,.z,y0⟩]
def G_sIsFull (x0:TDep) (y0:Bool):Prop:=gZ 20 [⟨h17,.z,x0⟩] [⟨.bool,.z,y0⟩]
def G_sExistentialVariables (x0:TDep) (y0:List Int):Prop:=gZ 52 [⟨h17,.z,x0⟩] [⟨.sl 3 (.int .i64),.own .z,y0⟩]
def G_sl4Has (x0:List Int) (x1:Int) (y0:Bool):Prop:=gZ 40 [⟨.sl 3 (.int .i64),.z,x0⟩,⟨.int .i64,.z,x1⟩] [⟨.bool,.z,y0⟩]
def G_sVariables (x0:List TFact) (y0:List Int):Prop:=gZ 39 [⟨h12,.z,x0⟩] [⟨.sl 3 (.int .i64),.z,y0⟩]
def G_sl4Put (x0:List Int) (x1:Int) (y0:List Int):Prop:=gZ 71 [⟨.sl 3 (.int .i64),.z,x0⟩,⟨.int .i64,.z,x1⟩] [⟨.sl 3 (.int .i64),.z,y0⟩]
def G_iIsFull (x0:TDep) (y0:Bool):Prop:=gZ 19 [⟨h17,.z,x0⟩] [⟨.bool,.z,y0⟩]
def G_iExistentialVariables (x0:TDep) (y0:List Int):Prop:=gZ 13 [⟨h17,.z,x0⟩] [⟨.sl 3 (.int .i64),.own .z,y0⟩]
def G_iheadVariables (x0:TDep) (x1:Bool) (y0:List Int):Prop:=gZ 46 [⟨h17,.z,x0⟩,⟨.bool,.z,x1⟩] [⟨.sl 3 (.int .i64),.own .z,y0⟩]
def G_slices_Contains_int (x0:List Int) (x1:Int) (y0:Bool):Prop:=gZ 42 [⟨.sl 3 (.int .i64),.z,x0⟩,⟨.int .i64,.z,x1⟩] [⟨.bool,.z,y0⟩]
def G_slices_Index_int (x0:List Int) (x1:Int) (y0:Int):Prop:=gZ 74 [⟨.sl 3 (.int .i64),.z,x0⟩,⟨.int .i64,.z,x1⟩] [⟨.int .i64,.z,y0⟩]
def G_iVariables (x0:List TFact) (y0:List Int):Prop:=gZ 15 [⟨h12,.z,x0⟩] [⟨.sl 3 (.int .i64),.own .z,y0⟩]
def G_slices_Compact_int_ooz (x0:List Int) (y0:List Int):Prop:=GivesS prog 48 [⟨.sl 3 (.int .i64),.own .z,x0⟩] [⟨.sl 3 (.int .i64),.own .z,y0⟩] [⟨.sl 3 (.int .i64),.dead,x0⟩]
def G_slices_Sort_int_ooz (x0:List Int) (z0:List Int):Prop:=GivesS prog 47 [⟨.sl 3 (.int .i64),.own .z,x0⟩] [] [⟨.sl 3 (.int .i64),.own .z,z0⟩]
def G_sEqualDependencies (x0:TDep) (x1:TDep) (y0:Bool):Prop:=gZ 12 [⟨h17,.z,x0⟩,⟨h17,.z,x1⟩] [⟨.bool,.z,y0⟩]
def G_sl9Atoms (x0:List TFact) (x1:List TFact) (y0:Bool):Prop:=gZ 45 [⟨h12,.z,x0⟩,⟨h12,.z,x1⟩] [⟨.bool,.z,y0⟩]
def G_sl4Ints (x0:List Int) (x1:List Int) (y0:Int):Prop:=gZ 76 [⟨.sl 3 (.int .i64),.z,x0⟩,⟨.sl 3 (.int .i64),.z,x1⟩] [⟨.int .i64,.z,y0⟩]
def G_iEqualDependencies (x0:TDep) (x1:TDep) (y0:Bool):Prop:=gZ 18 [⟨h17,.z,x0⟩,⟨h17,.z,x1⟩] [⟨.bool,.z,y0⟩]
def G_slices_EqualFunc_Atom_c_isameAtom (x0:List TFact) (x1:List TFact) (x2:Unit) (y0:Bool):Prop:=gZ 50 [⟨h12,.z,x0⟩,⟨h12,.z,x1⟩,⟨.fn 51 .unit,.z,x2⟩] [⟨.bool,.z,y0⟩]
def G_isameAtom (x0:TFact) (x1:TFact) (y0:Bool):Prop:=gZ 51 [⟨h11,.z,x0⟩,⟨h11,.z,x1⟩] [⟨.bool,.z,y0⟩]
def G_slices_Equal_int (x0:List Int) (x1:List Int) (y0:Bool):Prop:=gZ 79 [⟨.sl 3 (.int .i64),.z,x0⟩,⟨.sl 3 (.int .i64),.z,x1⟩] [⟨.bool,.z,y0⟩]
def G_sDrawEqualDependencies (x0:List Int) (y0:TDep) (y1:TDep):Prop:=gZ 17 [⟨.sl 5 (.int .u8),.z,x0⟩] [⟨h17,oD,y0⟩,⟨h17,oD,y1⟩]
def G_sl9Copy (x0:TDep) (y0:TDep):Prop:=gZ 49 [⟨h17,.z,x0⟩] [⟨h17,oD,y0⟩]
def G_sl9Any_poz (x0:List Int×Int×Int×Unit) (y0:TDep) (z0:List Int×Int×Int×Unit):Prop:=GivesS prog 30 [⟨.ptr h18,.own .z,x0⟩] [⟨h17,oD,y0⟩] [⟨.ptr h18,.own .z,z0⟩]
def G_sl9Atom_poz (x0:List Int×Int×Int×Unit) (x1:Int) (x2:Int) (y0:TFact) (z0:List Int×Int×Int×Unit):Prop:=GivesS prog 66 [⟨.ptr h18,.own .z,x0⟩,⟨.int .i64,.z,x1⟩,⟨.int .i64,.z,x2⟩] [⟨h11,.pr .z (.pr (.own .z) .z),y0⟩] [⟨.ptr h18,.own .z,z0⟩,⟨.int .i64,.z,x1⟩,⟨.int .i64,.z,x2⟩]
def G_sl1Below_poz (x0:List Int×Int×Int×Unit) (x1:Int) (y0:Int) (z0:List Int×Int×Int×Unit):Prop:=GivesS prog 64 [⟨.ptr h18,.own .z,x0⟩,⟨.int .i64,.z,x1⟩] [⟨.int .i64,.z,y0⟩] [⟨.ptr h18,.own .z,z0⟩,⟨.int .i64,.z,x1⟩]
def G_sl1Byte_poz (x0:List Int×Int×Int×Unit) (y0:Int) (z0:List Int×Int×Int×Unit):Prop:=GivesS prog 68 [⟨.ptr h18,.own .z,x0⟩] [⟨.int .i64,.z,y0⟩] [⟨.ptr h18,.own .z,z0⟩]
def G_sl1Once_poz (x0:List Int×Int×Int×Unit) (x1:Int) (y0:Bool) (z0:List Int×Int×Int×Unit):Prop:=GivesS prog 31 [⟨.ptr h18,.own .z,x0⟩,⟨.int .i64,.z,x1⟩] [⟨.bool,.z,y0⟩] [⟨.ptr h18,.own .z,z0⟩,⟨.int .i64,.z,x1⟩]
def G_sl3Sigs  (y0:List TRel):Prop:=gZ 29 [] [⟨h9,.own .z,y0⟩]
def G_sl1PickInt_poz (x0:List Int×Int×Int×Unit) (x1:List Int) (y0:Int) (z0:List Int×Int×Int×Unit):Prop:=GivesS prog 65 [⟨.ptr h18,.own .z,x0⟩,⟨.sl 3 (.int .i64),.z,x1⟩] [⟨.int .i64,.z,y0⟩] [⟨.ptr h18,.own .z,z0⟩,⟨.sl 3 (.int .i64),.z,x1⟩]
def G_sl9Rule_poz (x0:List Int×Int×Int×Unit) (y0:TDep) (z0:List Int×Int×Int×Unit):Prop:=GivesS prog 63 [⟨.ptr h18,.own .z,x0⟩] [⟨h17,oD,y0⟩] [⟨.ptr h18,.own .z,z0⟩]
def G_sVariables_oopzpozz (x0:List TFact) (y0:List Int) (z0:List TFact):Prop:=GivesS prog 39 [⟨h12,oF,x0⟩] [⟨.sl 3 (.int .i64),.z,y0⟩] [⟨h12,oF,z0⟩]
def G_sl9Known_poz (x0:List Int×Int×Int×Unit) (y0:TDep) (z0:List Int×Int×Int×Unit):Prop:=GivesS prog 91 [⟨.ptr h18,.own .z,x0⟩] [⟨h17,oD,y0⟩] [⟨.ptr h18,.own .z,z0⟩]
def G_sl1New (x0:List Int) (y0:List Int×Int×Int×Unit):Prop:=gZ 27 [⟨.sl 5 (.int .u8),.z,x0⟩] [⟨.ptr h18,.own .z,y0⟩]
def G_lhas (x0:List Int) (x1:Int) (y0:Bool):Prop:=gZ 16 [⟨.sl 3 (.int .i64),.z,x0⟩,⟨.int .i64,.z,x1⟩] [⟨.bool,.z,y0⟩]
def G_iFrontierVariables (x0:TDep) (y0:List Int):Prop:=gZ 14 [⟨h17,.z,x0⟩] [⟨.sl 3 (.int .i64),.own .z,y0⟩]
def G_iFormatDependency (x0:List TRel) (x1:TDep) (y0:List UInt8):Prop:=gZ 7 [⟨h9,.z,x0⟩,⟨h17,.z,x1⟩] [⟨.str,.z,y0⟩]
def G_iformatAtoms (x0:List TRel) (x1:List TFact) (y0:List UInt8):Prop:=gZ 25 [⟨h9,.z,x0⟩,⟨h12,.z,x1⟩] [⟨.str,.z,y0⟩]
def G_strings_Join (x0:List (List UInt8)) (x1:List UInt8) (y0:List UInt8):Prop:=gZ 58 [⟨.sl 9 .str,.z,x0⟩,⟨.str,.z,x1⟩] [⟨.str,.z,y0⟩]
def G_iFormatAtom (x0:List TRel) (x1:TFact) (y0:List UInt8):Prop:=gZ 57 [⟨h9,.z,x0⟩,⟨h11,.z,x1⟩] [⟨.str,.z,y0⟩]
def G_iFormatTerm (x0:Int) (y0:List UInt8):Prop:=gZ 26 [⟨.int .i64,.z,x0⟩] [⟨.str,.z,y0⟩]
def G_iFormatInt (x0:Int) (y0:List UInt8):Prop:=gZ 60 [⟨.int .i64,.z,x0⟩] [⟨.str,.z,y0⟩]
def G_strconv_Itoa (x0:Int) (y0:List UInt8):Prop:=gZ 88 [⟨.int .i64,.z,x0⟩] [⟨.str,.z,y0⟩]
def G_iwithin (x0:Int) (x1:Int) (x2:Int) (y0:Bool):Prop:=gZ 59 [⟨.int .i64,.z,x0⟩,⟨.int .i64,.z,x1⟩,⟨.int .i64,.z,x2⟩] [⟨.bool,.z,y0⟩]
def G_iIsValidAtom (x0:List TRel) (x1:TFact) (y0:Bool):Prop:=gZ 73 [⟨h9,.z,x0⟩,⟨h11,.z,x1⟩] [⟨.bool,.z,y0⟩]
def G_slices_ContainsFunc_int_c_iIsValidAtom_1 (x0:List Int) (x1:Unit) (y0:Bool):Prop:=gZ 94 [⟨.sl 3 (.int .i64),.z,x0⟩,⟨.fn 95 .unit,.z,x1⟩] [⟨.bool,.z,y0⟩]
def G_slices_IndexFunc_int_c_iIsValidAtom_1 (x0:List Int) (x1:Unit) (y0:Int):Prop:=gZ 118 [⟨.sl 3 (.int .i64),.z,x0⟩,⟨.fn 95 .unit,.z,x1⟩] [⟨.int .i64,.z,y0⟩]
def G_iIsValidAtom_1 (x0:Int) (y0:Bool):Prop:=gZ 95 [⟨.int .i64,.z,x0⟩] [⟨.bool,.z,y0⟩]
def G_iAreValidRelations (x0:List TRel) (y0:Bool):Prop:=gZ 93 [⟨h9,.z,x0⟩] [⟨.bool,.z,y0⟩]
def G_iIsValidRelation (x0:TRel) (y0:Bool):Prop:=gZ 117 [⟨h8,.z,x0⟩] [⟨.bool,.z,y0⟩]
def G_iIsValidDependency (x0:List TRel) (x1:TDep) (y0:Bool):Prop:=gZ 11 [⟨h9,.z,x0⟩,⟨h17,.z,x1⟩] [⟨.bool,.z,y0⟩]
def G_slices_ContainsFunc_Atom_c_iIsValidDependency_1 (x0:List TFact) (x1:List TRel×Unit) (y0:Bool):Prop:=gZ 43 [⟨h12,.z,x0⟩,⟨.fn 44 h20,.z,x1⟩] [⟨.bool,.z,y0⟩]
def G_slices_IndexFunc_Atom_c_iIsValidDependency_1 (x0:List TFact) (x1:List TRel×Unit) (y0:Int):Prop:=gZ 75 [⟨h12,.z,x0⟩,⟨.fn 44 h20,.z,x1⟩] [⟨.int .i64,.z,y0⟩]
def G_iIsValidDependency_1 (x0:TFact) (x1:List TRel) (y0:Bool):Prop:=gZ 44 [⟨h11,.z,x0⟩,⟨.ptr h9,.z,x1⟩] [⟨.bool,.z,y0⟩]
def G_iareAtoms (x0:List TRel) (x1:List TFact) (x2:Int) (y0:Bool):Prop:=gZ 41 [⟨h9,.z,x0⟩,⟨h12,.z,x1⟩,⟨.int .i64,.z,x2⟩] [⟨.bool,.z,y0⟩]
def G_slices_ContainsFunc_Atom_c_iareAtoms_1 (x0:List TFact) (x1:List TRel×Unit) (y0:Bool):Prop:=gZ 43 [⟨h12,.z,x0⟩,⟨.fn 72 h20,.z,x1⟩] [⟨.bool,.z,y0⟩]
def G_slices_IndexFunc_Atom_c_iareAtoms_1 (x0:List TFact) (x1:List TRel×Unit) (y0:Int):Prop:=gZ 75 [⟨h12,.z,x0⟩,⟨.fn 72 h20,.z,x1⟩] [⟨.int .i64,.z,y0⟩]
def G_iareAtoms_1 (x0:TFact) (x1:List TRel) (y0:Bool):Prop:=gZ 72 [⟨h11,.z,x0⟩,⟨.ptr h9,.z,x1⟩] [⟨.bool,.z,y0⟩]
def G_sIsValidDependency (x0:List TRel) (x1:TDep) (y0:Bool):Prop:=gZ 10 [⟨h9,.z,x0⟩,⟨h17,.z,x1⟩] [⟨.bool,.z,y0⟩]
def G_sl1In (x0:Int) (x1:Int) (x2:Int) (y0:Bool):Prop:=gZ 37 [⟨.int .i64,.z,x0⟩,⟨.int .i64,.z,x1⟩,⟨.int .i64,.z,x2⟩] [⟨.bool,.z,y0⟩]
def G_sIsValidAtom (x0:List TRel) (x1:TFact) (y0:Bool):Prop:=gZ 38 [⟨h9,.z,x0⟩,⟨h11,.z,x1⟩] [⟨.bool,.z,y0⟩]
def G_sAreValidRelations (x0:List TRel) (y0:Bool):Prop:=gZ 70 [⟨h9,.z,x0⟩] [⟨.bool,.z,y0⟩]
def G_sIsValidRelation (x0:TRel) (y0:Bool):Prop:=gZ 92 [⟨h8,.z,x0⟩] [⟨.bool,.z,y0⟩]
def G_sParseDependency (x0:List TRel) (x1:List UInt8) (y0:TDep) (y1:Bool):Prop:=gZ 9 [⟨h9,.z,x0⟩,⟨.str,.z,x1⟩] [⟨h17,oD,y0⟩,⟨.bool,.z,y1⟩]
def G_sFormatDependency (x0:List TRel) (x1:TDep) (y0:List UInt8):Prop:=gZ 28 [⟨h9,.z,x0⟩,⟨h17,.z,x1⟩] [⟨.str,.z,y0⟩]
def G_sl10Atoms (x0:List TRel) (x1:List TFact) (y0:List UInt8):Prop:=gZ 61 [⟨h9,.z,x0⟩,⟨h12,.z,x1⟩] [⟨.str,.z,y0⟩]
def G_sFormatAtom (x0:List TRel) (x1:TFact) (y0:List UInt8):Prop:=gZ 89 [⟨h9,.z,x0⟩,⟨h11,.z,x1⟩] [⟨.str,.z,y0⟩]
def G_sFormatTerm (x0:Int) (y0:List UInt8):Prop:=gZ 62 [⟨.int .i64,.z,x0⟩] [⟨.str,.z,y0⟩]
def G_sFormatInt (x0:Int) (y0:List UInt8):Prop:=gZ 90 [⟨.int .i64,.z,x0⟩] [⟨.str,.z,y0⟩]
def G_sl10Read (x0:List TRel) (x1:List UInt8) (y0:List TFact):Prop:=gZ 35 [⟨h9,.z,x0⟩,⟨.str,.z,x1⟩] [⟨h12,oF,y0⟩]
def G_sl10Term (x0:List UInt8) (y0:Int):Prop:=gZ 36 [⟨.str,.z,x0⟩] [⟨.int .i64,.z,y0⟩]
def G_sRelationIndex (x0:List TRel) (x1:List UInt8) (y0:Int):Prop:=gZ 69 [⟨h9,.z,x0⟩,⟨.str,.z,x1⟩] [⟨.int .i64,.z,y0⟩]
def G_sl3Cut (x0:List UInt8) (x1:Int) (y0:List (List UInt8)):Prop:=gZ 34 [⟨.str,.z,x0⟩,⟨.int .u8,.z,x1⟩] [⟨.sl 9 .str,.own .z,y0⟩]
def G_iParseDependency (x0:List TRel) (x1:List UInt8) (y0:TDep) (y1:Bool):Prop:=gZ 6 [⟨h9,.z,x0⟩,⟨.str,.z,x1⟩] [⟨h17,oD,y0⟩,⟨.bool,.z,y1⟩]
def G_iparseTerm (x0:Int) (y0:Int):Prop:=gZ 24 [⟨.int .u8,.z,x0⟩] [⟨.int .i64,.z,y0⟩]
def G_strings_IndexByte (x0:List UInt8) (x1:Int) (y0:Int):Prop:=gZ 56 [⟨.str,.z,x0⟩,⟨.int .u8,.z,x1⟩] [⟨.int .i64,.z,y0⟩]
def G_iparseAtoms (x0:List TRel) (x1:List UInt8) (y0:List TFact):Prop:=gZ 23 [⟨h9,.z,x0⟩,⟨.str,.z,x1⟩] [⟨h12,oF,y0⟩]
def G_iRelationIndex (x0:List TRel) (x1:List UInt8) (y0:Int):Prop:=gZ 55 [⟨h9,.z,x0⟩,⟨.str,.z,x1⟩] [⟨.int .i64,.z,y0⟩]
def G_slices_IndexFunc_Relation_c_iRelationIndex_1 (x0:List TRel) (x1:List UInt8×Unit) (y0:Int):Prop:=gZ 82 [⟨h9,.z,x0⟩,⟨.fn 83 h21,.z,x1⟩] [⟨.int .i64,.z,y0⟩]
def G_iRelationIndex_1 (x0:TRel) (x1:List UInt8) (y0:Bool):Prop:=gZ 83 [⟨h8,.z,x0⟩,⟨.ptr .str,.z,x1⟩] [⟨.bool,.z,y0⟩]
def G_strings_Split (x0:List UInt8) (x1:List UInt8) (y0:List (List UInt8)):Prop:=gZ 54 [⟨.str,.z,x0⟩,⟨.str,.z,x1⟩] [⟨.sl 9 .str,.own .z,y0⟩]
def G_strings_Cut (x0:List UInt8) (x1:List UInt8) (y0:List UInt8) (y1:List UInt8) (y2:Bool):Prop:=gZ 22 [⟨.str,.z,x0⟩,⟨.str,.z,x1⟩] [⟨.str,.z,y0⟩,⟨.str,.z,y1⟩,⟨.bool,.z,y2⟩]
def G_sDrawParseDependency (x0:List Int) (y0:List TRel) (y1:List UInt8):Prop:=gZ 8 [⟨.sl 5 (.int .u8),.z,x0⟩] [⟨h9,.own .z,y0⟩,⟨.str,.z,y1⟩]
def G_sl1Pick_poz (x0:List Int×Int×Int×Unit) (x1:List (List UInt8)) (y0:List UInt8) (z0:List Int×Int×Int×Unit):Prop:=GivesS prog 32 [⟨.ptr h18,.own .z,x0⟩,⟨.sl 9 .str,.z,x1⟩] [⟨.str,.z,y0⟩] [⟨.ptr h18,.own .z,z0⟩,⟨.sl 9 .str,.z,x1⟩]
def G_sl1Spoil_poz (x0:List Int×Int×Int×Unit) (x1:List UInt8) (y0:List UInt8) (z0:List Int×Int×Int×Unit):Prop:=GivesS prog 33 [⟨.ptr h18,.own .z,x0⟩,⟨.str,.z,x1⟩] [⟨.str,.z,y0⟩] [⟨.ptr h18,.own .z,z0⟩,⟨.str,.z,x1⟩]
def G_sl1Text_poz (x0:List Int×Int×Int×Unit) (x1:Int) (y0:List UInt8) (z0:List Int×Int×Int×Unit):Prop:=GivesS prog 67 [⟨.ptr h18,.own .z,x0⟩,⟨.int .i64,.z,x1⟩] [⟨.str,.z,y0⟩] [⟨.ptr h18,.own .z,z0⟩,⟨.int .i64,.z,x1⟩]
def G_sDrawFormatDependency (x0:List Int) (y0:List TRel) (y1:TDep):Prop:=gZ 5 [⟨.sl 5 (.int .u8),.z,x0⟩] [⟨h9,.own .z,y0⟩,⟨h17,oD,y1⟩]
def G_sDrawIsValidDependency (x0:List Int) (y0:List TRel) (y1:TDep):Prop:=gZ 21 [⟨.sl 5 (.int .u8),.z,x0⟩] [⟨h9,.own .z,y0⟩,⟨h17,oD,y1⟩]
def G_lbig (x0:List Int) (y0:Bool):Prop:=gZ 4 [⟨.sl 5 (.int .u8),.z,x0⟩] [⟨.bool,.z,y0⟩]
end Go.V

