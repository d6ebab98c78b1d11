/-
  The functions that are reached: types, signatures, what a call of each gives.
-/
import Derived.Test.YtggmgbobmeblcaaGreatVE
import Derived.Test.YtggmgbobmeblcaaGreatProg
import Derived.KernelRfl
set_option linter.unusedVariables false
set_option linter.unusedSimpArgs false
set_option maxRecDepth 1000000
set_option maxHeartbeats 4000000
set_option linter.unusedVariables false
namespace Go.V
open Go Go.Proofs
abbrev h0:Sh:=.pair (.int .u8) .unit
abbrev h1:Sh:=.pair .bool h0
abbrev h2:Sh:=.pair (.int .i64) h1
abbrev h3:Sh:=.pair (.int .i64) h2
abbrev h4:Sh:=.pair (.int .u64) .unit
abbrev h5:Sh:=.pair .str h4
abbrev h6:Sh:=.pair .bool .unit
abbrev h7:Sh:=.pair (.int .i64) h6
abbrev h8:Sh:=.pair .str h7
abbrev h9:Sh:=.sl 137 h8
abbrev h10:Sh:=.pair (.sl 3 (.int .i64)) .unit
abbrev h11:Sh:=.pair (.int .i64) h10
abbrev h12:Sh:=.sl 32 h11
abbrev h13:Sh:=.pair h12 .unit
abbrev h14:Sh:=.pair h9 h13
abbrev h15:Sh:=.pair (.int .i64) h11
abbrev h16:Sh:=.sl 117 h15
abbrev h17:Sh:=.pair h16 .unit
abbrev h18:Sh:=.pair h14 h17
abbrev h19:Sh:=.sl 165 h11
abbrev h20:Sh:=.pair (.int .i64) .unit
abbrev h21:Sh:=.pair (.int .i64) h20
abbrev h22:Sh:=.pair .bool h21
abbrev h23:Sh:=.pair h19 h22
abbrev h24:Sh:=.pair h19 h23
abbrev h25:Sh:=.sl 76 h24
abbrev h26:Sh:=.sl 143 h8
abbrev h27:Sh:=.sl 47 h11
abbrev h28:Sh:=.pair h27 .unit
abbrev h29:Sh:=.pair h26 h28
abbrev h30:Sh:=.sl 125 h15
abbrev h31:Sh:=.pair h30 .unit
abbrev h32:Sh:=.pair h29 h31
abbrev h33:Sh:=.sl 171 h11
abbrev h34:Sh:=.pair h33 h22
abbrev h35:Sh:=.pair h33 h34
abbrev h36:Sh:=.sl 86 h35
abbrev h37:Sh:=.sl 96 h11
abbrev h38:Sh:=.sl 101 h11
abbrev h39:Sh:=.pair (.sl 3 (.int .i64)) h10
abbrev h40:Sh:=.pair (.ptr h26) .unit
abbrev h41:Sh:=.pair (.ptr h11) .unit
noncomputable abbrev prog:Program:=Tryz.prog
def shTab:List (Nat×Sh):=[(2,.int .i64),(3,.int .i64),(4,.bool),(5,.int .u8),(6,.int .u8),(9,.str),(10,.str),(11,.str),(12,.int .u64),(21,.int .i32),(22,h9),(23,h12),(24,h14),(25,h14),(26,h16),(27,h18),(28,h18),(29,h25),(30,.sl 3 (.int .i64)),(31,h11),(32,h11),(37,h26),(38,h27),(39,h29),(40,h29),(41,h30),(42,h32),(43,h32),(45,h36),(47,h11),(53,h37),(58,h38),(74,h19),(75,h24),(76,h24),(84,h33),(85,h35),(86,h35),(95,h11),(96,h11),(101,h11),(106,h10),(107,h10),(116,h15),(117,h15),(125,h15),(136,h8),(137,h8),(143,h8),(154,h39),(155,h39),(159,.sl 30 (.sl 3 (.int .i64))),(164,h11),(165,h11),(167,.sl 58 h38),(171,h11),(241,.int .u64),(251,.int .i64),(258,.int .u32),(260,.int .u64),(271,.int .u64),(275,.ptr (.int .i64)),(279,.ptr (.int .u64)),(289,.int .u8),(290,.int .u8),(292,.ptr (.int .u8)),(293,.int .i32),(294,.int .i32)]
def sigTab:List (Nat×List Sig):=[(5,[⟨[.z,.z,.z],[(.bool,.z)],[.z,.z,.z]⟩]),(10,[⟨[.z,.z],[(.int .i64,.z)],[.z,.z]⟩]),(11,[⟨[.z,.z],[(.int .i64,.z)],[.z,.z]⟩]),(14,[⟨[.z],[(h36,.own (.pr (.own (.pr .z (.pr (.own .z) .z))) (.pr (.own (.pr .z (.pr (.own .z) .z))) .z)))],[.z]⟩]),(15,[⟨[.z],[(h11,.pr .z (.pr (.own .z) .z))],[.z]⟩]),(18,[⟨[.z,.z],[(.bool,.z)],[.z,.z]⟩]),(19,[⟨[.z,.z],[(.bool,.z)],[.z,.z]⟩]),(20,[⟨[.z,.z],[(.int .i64,.z)],[.z,.z]⟩]),(21,[⟨[.z,.z],[(.int .i64,.z)],[.z,.z]⟩]),(22,[⟨[.z,.z,.z],[(.bool,.z)],[.z,.z,.z]⟩]),(23,[⟨[.z],[(h29,.pr (.own .z) (.pr (.own (.pr .z (.pr (.own .z) .z))) .z))],[.z]⟩]),(24,[⟨[.z],[(h38,.own (.pr .z (.pr (.own .z) .z)))],[.z]⟩]),(25,[⟨[.z,.z,.z],[(.bool,.z)],[.z,.z,.z]⟩]),(26,[⟨[.z,.z],[(.bool,.z)],[.z,.z]⟩]),(27,[⟨[.z,.z],[(.bool,.z)],[.z,.z]⟩]),(28,[⟨[.z,.z,.z],[(.int .i64,.z),(.int .i64,.z),(.bool,.z)],[.z,.z,.z]⟩]),(29,[⟨[.z,.z,.z],[(.int .i64,.z),(.int .i64,.z),(.bool,.z)],[.z,.z,.z]⟩]),(37,[⟨[.z,.z],[(.int .i64,.z)],[.z,.z]⟩]),(38,[⟨[.z,.z],[(.int .i64,.z)],[.z,.z]⟩]),(42,[⟨[.z,.z],[(.int .i64,.z)],[.z,.z]⟩]),(44,[⟨[.z],[(h35,.pr (.own (.pr .z (.pr (.own .z) .z))) (.pr (.own (.pr .z (.pr (.own .z) .z))) .z))],[.z]⟩]),(45,[⟨[.z],[(.sl 3 (.int .i64),.own .z)],[.z]⟩]),(50,[⟨[.z,.z],[(.bool,.z)],[.z,.z]⟩]),(51,[⟨[.z,.z],[(.bool,.z)],[.z,.z]⟩]),(52,[⟨[.z,.z],[(.int .i64,.z)],[.z,.z]⟩]),(53,[⟨[.z,.z],[(.int .i64,.z)],[.z,.z]⟩]),(54,[⟨[.z,.z],[(.int .i64,.z)],[.z,.z]⟩]),(55,[⟨[.z,.z,.z],[(h29,.z),(.int .i64,.z),(.bool,.z)],[.z,.z,.z]⟩]),(56,[⟨[.z],[(h26,.own .z)],[.z]⟩]),(57,[⟨[.z],[(h27,.own (.pr .z (.pr (.own .z) .z)))],[.z]⟩]),(58,[⟨[.z],[(h11,.pr .z (.pr (.own .z) .z))],[.z]⟩]),(59,[⟨[.z,.z,.z],[(h29,.pr .z (.pr (.own .z) .z)),(.int .i64,.z),(.bool,.z)],[.z,.z,.z]⟩]),(60,[⟨[.z,.z],[(.bool,.z)],[.z,.z]⟩]),(61,[⟨[.z,.z],[(.bool,.z)],[.z,.z]⟩]),(62,[⟨[.z,.z],[(.bool,.z)],[.z,.z]⟩]),(67,[⟨[.z],[(.int .i64,.z)],[.z]⟩]),(68,[⟨[.z],[(.int .i64,.z)],[.z]⟩]),(69,[⟨[.z],[(.bool,.z)],[.z]⟩]),(75,[⟨[.z,.z],[(.int .i64,.z)],[.z,.z]⟩]),(80,[⟨[.z,.z],[(.int .i64,.z)],[.z,.z]⟩]),(81,[⟨[.z],[(h29,.pr (.own .z) (.pr (.own (.pr .z (.pr (.own .z) .z))) .z))],[.z]⟩]),(82,[⟨[.z,.z],[(.int .i64,.z)],[.z,.z]⟩]),(84,[⟨[.z],[(h33,.own (.pr .z (.pr (.own .z) .z)))],[.z]⟩]),(85,[⟨[.z,.z],[(.int .i64,.z)],[.z,.z]⟩]),(87,[⟨[.z,.z],[(.bool,.z)],[.z,.z]⟩]),(91,[⟨[.z],[(h29,.pr (.own .z) (.pr (.own (.pr .z (.pr (.own .z) .z))) .z))],[.z]⟩]),(97,[⟨[.z,.z],[(.bool,.z)],[.z,.z]⟩]),(98,[⟨[.z,.z],[(.int .i64,.z)],[.z,.z]⟩]),(99,[⟨[.z],[(.bool,.z)],[.z]⟩]),(100,[⟨[.z,.z],[(.bool,.z)],[.z,.z]⟩]),(101,[⟨[.z,.z,.z],[(.bool,.z)],[.z,.z,.z]⟩]),(102,[⟨[.z,.z,.z],[(.bool,.z)],[.z,.z,.z]⟩]),(103,[⟨[.z,.z,.z],[(h29,.z),(.int .i64,.z)],[.z,.z,.z]⟩]),(104,[⟨[.z],[(h8,.z)],[.z]⟩]),(105,[⟨[.z],[(.bool,.z)],[.z]⟩]),(106,[⟨[.z,.z],[(.bool,.z)],[.z,.z]⟩]),(107,[⟨[.z,.z,.z],[(.bool,.z)],[.z,.z,.z]⟩]),(108,[⟨[.z,.z,.z],[(h29,.pr .z (.pr (.own .z) .z)),(.int .i64,.z)],[.z,.z,.z]⟩]),(109,[⟨[.z,.z],[(.bool,.z)],[.z,.z]⟩]),(111,[⟨[.z],[(.int .i64,.z)],[.z]⟩]),(115,[⟨[.z,.z],[(h29,.pr (.own .z) (.pr (.own (.pr .z (.pr (.own .z) .z))) .z)),(.bool,.z)],[.z,.z]⟩]),(117,[⟨[.z],[(.int .i64,.z),(.bool,.z)],[.z]⟩]),(121,[⟨[.z],[(.int .i64,.z)],[.z]⟩]),(124,[⟨[.z,.z],[(h29,.pr .z (.pr (.own .z) .z)),(.bool,.z)],[.z,.z]⟩]),(126,[⟨[.z],[(.int .i64,.z),(.bool,.z)],[.z]⟩]),(132,[⟨[.z,.z],[(.bool,.z)],[.z,.z]⟩]),(133,[⟨[.z,.z],[(.int .i64,.z)],[.z,.z]⟩]),(134,[⟨[.z],[(.bool,.z)],[.z]⟩]),(135,[⟨[.z],[(.sl 3 (.int .i64),.z)],[.z]⟩]),(138,[⟨[.z],[(h11,.pr .z (.pr (.own .z) .z))],[.z]⟩]),(139,[⟨[.z],[(h11,.pr .z (.pr (.own .z) .z))],[.z]⟩]),(140,[⟨[.z,.z],[(.int .i64,.z)],[.z,.z]⟩]),(142,[⟨[.z,.z],[(.bool,.z)],[.z,.z]⟩]),(145,[⟨[.z],[(.sl 3 (.int .i64),.own .z)],[.z]⟩]),(149,[⟨[.z],[(h26,.own .z)],[.z]⟩]),(150,[⟨[.z],[(h27,.own (.pr .z (.pr (.own .z) .z)))],[.z]⟩]),(151,[⟨[.z,.z],[(.bool,.z)],[.z,.z]⟩]),(152,[⟨[.z,.z],[(.bool,.z)],[.z,.z]⟩]),(153,[⟨[.z,.z],[(.bool,.z)],[.z,.z]⟩]),(154,[⟨[.z],[(.sl 3 (.int .i64),.z)],[.z]⟩]),(155,[⟨[.z],[(.bool,.z)],[.z]⟩]),(156,[⟨[.z,.z],[(.bool,.z)],[.z,.z]⟩]),(157,[⟨[.z,.z,.z],[(.bool,.z)],[.z,.z,.z]⟩]),(158,[⟨[.z,.z,.z],[(.bool,.z)],[.z,.z,.z]⟩]),(159,[⟨[.z],[(.sl 3 (.int .i64),.own .z)],[.z]⟩]),(160,[⟨[.z,.z],[(h11,.pr .z (.pr (.own .z) .z)),(.bool,.z)],[.z,.z]⟩]),(161,[⟨[.z,.z],[(h29,.z)],[.z,.z]⟩]),(162,[⟨[.z],[(.bool,.z)],[.z]⟩]),(163,[⟨[.z,.z],[(.bool,.z)],[.z,.z]⟩]),(164,[⟨[.z],[(.sl 3 (.int .i64),.own .z)],[.z]⟩]),(165,[⟨[.z,.z],[(.bool,.z)],[.z,.z]⟩]),(166,[⟨[.z,.z],[(.bool,.z)],[.z,.z]⟩]),(167,[⟨[.z,.z,.z],[(.bool,.z)],[.z,.z,.z]⟩]),(168,[⟨[.z,.z,.z],[(h29,.pr .z (.pr (.own .z) .z)),(.int .i64,.z)],[.z,.z,.z]⟩]),(169,[⟨[.z],[(.sl 3 (.int .i64),.own .z)],[.z]⟩]),(170,[⟨[.z,.z],[(h11,.pr .z (.pr (.own .z) .z)),(.bool,.z)],[.z,.z]⟩]),(171,[⟨[.z],[(h27,.own .z)],[.z]⟩]),(174,[⟨[.z],[(.bool,.z)],[.z]⟩]),(175,[⟨[.z,.z],[(h11,.pr .z (.pr (.own .z) .z))],[.z,.z]⟩]),(177,[⟨[.z],[(.sl 3 (.int .i64),.own .z)],[.z]⟩]),(180,[⟨[.z],[(.bool,.z)],[.z]⟩]),(181,[⟨[.z,.z],[(h11,.pr .z (.pr (.own .z) .z))],[.z,.z]⟩]),(182,[⟨[.z],[(.bool,.z)],[.z]⟩]),(183,[⟨[.z,.z],[(.bool,.z)],[.z,.z]⟩]),(184,[⟨[.z,.z,.z,.z],[(.sl 30 (.sl 3 (.int .i64)),.own (.own .z))],[.z,.z,.z,.z]⟩]),(188,[⟨[.z,.z],[(.bool,.z)],[.z,.z]⟩]),(189,[⟨[.z,.z,.z],[(.sl 30 (.sl 3 (.int .i64)),.own .z)],[.z,.z,.z]⟩]),(192,[⟨[.z,.z,.z],[(.bool,.z)],[.z,.z,.z]⟩]),(194,[⟨[.z,.z],[(.int .i64,.z)],[.z,.z]⟩]),(195,[⟨[.z,.z],[(.sl 3 (.int .i64),.z)],[.z,.z]⟩]),(197,[⟨[.z],[(.int .i64,.z)],[.z]⟩]),(198,[⟨[.z,.z],[(.int .i64,.z)],[.z,.z]⟩]),(199,[⟨[.z,.z],[(.int .i64,.z)],[.z,.z]⟩]),(202,[⟨[.z,.z],[(.bool,.z)],[.z,.z]⟩]),(205,[⟨[.z,.z],[(.int .i64,.z)],[.z,.z]⟩]),(208,[⟨[.z],[(h11,.pr .z (.pr (.own .z) .z))],[.z]⟩]),(209,[⟨[.z,.z],[(.bool,.z)],[.z,.z]⟩]),(210,[⟨[.z,.z],[(.bool,.z)],[.z,.z]⟩]),(211,[⟨[.z],[(.bool,.z)],[.z]⟩]),(212,[⟨[.z,.z],[(.bool,.z)],[.z,.z]⟩]),(213,[⟨[.z],[(.sl 3 (.int .i64),.z)],[.z]⟩]),(214,[⟨[.z,.z],[(.bool,.z)],[.z,.z]⟩]),(215,[⟨[],[(.int .i64,.z)],[]⟩]),(216,[⟨[.z],[(.bool,.z)],[.z]⟩]),(217,[⟨[.z],[(.bool,.z)],[.z]⟩]),(218,[⟨[.z],[(.sl 3 (.int .i64),.own .z)],[.z]⟩]),(219,[⟨[.z,.z,.z],[(.bool,.z)],[.z,.z,.z]⟩]),(220,[⟨[.z],[(.sl 3 (.int .i64),.own .z)],[.z]⟩]),(221,[⟨[.z,.z],[(.bool,.z)],[.z,.z]⟩]),(222,[⟨[.z,.z],[(.bool,.z)],[.z,.z]⟩]),(223,[⟨[.z,.z,.z],[(.bool,.z)],[.z,.z,.z]⟩]),(224,[⟨[.z,.z],[(.sl 3 (.int .i64),.own .z)],[.z,.z]⟩]),(225,[⟨[.own (.pr .z (.pr (.own .z) .z)),.z],[],[.own (.pr .z (.pr (.own .z) .z)),.z]⟩]),(226,[⟨[.own .z,.z],[(h27,.own .z)],[.dead,.z]⟩]),(227,[⟨[.z,.z],[(.int .i64,.z)],[.z,.z]⟩]),(229,[⟨[.z,.z],[(.int .i64,.z)],[.z,.z]⟩]),(230,[⟨[.z,.z,.z],[(.sl 3 (.int .i64),.own .z),(.bool,.z)],[.z,.z,.z]⟩]),(232,[⟨[.z,.z,.z],[(.sl 3 (.int .i64),.own .z),(.bool,.z)],[.z,.z,.z]⟩]),(239,[⟨[.z],[(.bool,.z)],[.z]⟩]),(243,[⟨[.z,.z],[(.int .i64,.z)],[.z,.z]⟩]),(244,[⟨[.own .z],[],[.own .z]⟩]),(245,[⟨[.own .z],[(.sl 3 (.int .i64),.own .z)],[.dead]⟩]),(246,[⟨[.z,.z],[(.bool,.z)],[.z,.z]⟩]),(247,[⟨[.z,.z],[(.bool,.z)],[.z,.z]⟩]),(248,[⟨[.z,.z],[(.int .i64,.z)],[.z,.z]⟩]),(254,[⟨[.z],[(.bool,.z)],[.z]⟩])]
def parTab:List (Nat×List (Option Sh)):=[(5,[some (h14),some (h25),some (h37)]),(10,[some (h25),some (.int .i64)]),(11,[some (h11),some (.int .i64)]),(14,[some (h25)]),(15,[some (h11)]),(18,[some (h36),some (h36)]),(19,[some (h11),some (h11)]),(20,[some (h14),some (.int .i64)]),(21,[some (h37),some (.int .i64)]),(22,[some (h29),some (h36),some (h38)]),(23,[some (h14)]),(24,[some (h37)]),(25,[some (h29),some (h36),some (h38)]),(26,[some (h29),some (h29)]),(27,[some (h38),some (h38)]),(28,[some (h29),some (h36),some (h38)]),(29,[some (h29),some (h36),some (h38)]),(37,[some (h24),some (.int .i64)]),(38,[some (.sl 3 (.int .i64)),some (.int .i64)]),(42,[some (h11),some (h11)]),(44,[some (h24)]),(45,[some (.sl 3 (.int .i64))]),(50,[some (h35),some (h35)]),(51,[some (.sl 3 (.int .i64)),some (.sl 3 (.int .i64))]),(52,[some (h9),some (.int .i64)]),(53,[some (h12),some (.int .i64)]),(54,[some (h11),some (.int .i64)]),(55,[some (h29),some (h36),some (h38)]),(56,[some (h9)]),(57,[some (h12)]),(58,[some (h11)]),(59,[some (h29),some (h36),some (h38)]),(60,[some (h26),some (h26)]),(61,[some (h27),some (h27)]),(62,[some (h11),some (h11)]),(67,[some (.int .i64)]),(68,[some (.int .i64)]),(69,[some (.int .i64)]),(75,[some (h19),some (.int .i64)]),(80,[some (h29),some (h11)]),(81,[some (h29)]),(82,[some (.sl 3 (.int .i64)),some (.sl 3 (.int .i64))]),(84,[some (h19)]),(85,[some (h27),none]),(87,[some (h11),some (h11)]),(91,[some (h29)]),(97,[some (h33),some (h33)]),(98,[some (h8),some (.int .i64)]),(99,[some (h29)]),(100,[some (h26),some (h36)]),(101,[some (.int .i64),some (.int .i64),some (.int .i64)]),(102,[some (h29),some (h35),some (.sl 3 (.int .i64))]),(103,[some (h29),some (h35),some (.sl 3 (.int .i64))]),(104,[some (h8)]),(105,[some (h29)]),(106,[some (h26),some (h36)]),(107,[some (.int .i64),some (.int .i64),some (.int .i64)]),(108,[some (h29),some (h35),some (.sl 3 (.int .i64))]),(109,[some (h8),some (h8)]),(111,[some (h29)]),(115,[some (h39),some (h29)]),(117,[some (.int .i64)]),(121,[some (h29)]),(124,[some (h39),some (h29)]),(126,[some (.int .i64)]),(132,[some (.sl 3 (.int .i64)),some (.int .i64)]),(133,[some (h11),some (.int .i64)]),(134,[some (.int .i64)]),(135,[some (h29)]),(138,[some (h11)]),(139,[some (h11)]),(140,[some (h11),some (h11)]),(142,[some (h36),none]),(145,[some (.sl 3 (.int .i64))]),(149,[some (h26)]),(150,[some (h27)]),(151,[some (h27),some (h11)]),(152,[some (h11),some (h11)]),(153,[some (h26),some (h11)]),(154,[some (h11)]),(155,[some (h26)]),(156,[some (h26),some (h35)]),(157,[some (h29),some (h35),some (.sl 3 (.int .i64))]),(158,[some (h29),some (h33),some (.sl 3 (.int .i64))]),(159,[some (h35)]),(160,[some (h11),some (.sl 3 (.int .i64))]),(161,[some (h29),some (h11)]),(162,[some (h26)]),(163,[some (h26),some (h11)]),(164,[some (h11)]),(165,[some (h35)]),(166,[some (h26),some (h35)]),(167,[some (h29),some (h35),some (.sl 3 (.int .i64))]),(168,[some (h29),some (.int .i64),some (.int .i64)]),(169,[some (h35)]),(170,[some (h11),some (.sl 3 (.int .i64))]),(171,[some (h27)]),(174,[some (h39)]),(175,[some (h39),some (h11)]),(177,[some (h29)]),(180,[some (h39)]),(181,[some (h39),some (h11)]),(182,[some (.int .i64)]),(183,[some (h29),some (h33)]),(184,[some (h29),some (h33),some (.int .i64),some (.sl 3 (.int .i64))]),(188,[some (h29),some (h33)]),(189,[some (h27),some (h33),some (.sl 3 (.int .i64))]),(192,[some (h29),some (h35),some (.sl 3 (.int .i64))]),(194,[some (.sl 3 (.int .i64)),some (.int .i64)]),(195,[some (.sl 3 (.int .i64)),some (.int .i64)]),(197,[some (.sl 3 (.int .i64))]),(198,[some (.int .i64),some (.int .i64)]),(199,[some (.sl 3 (.int .i64)),some (.sl 3 (.int .i64))]),(202,[some (.sl 3 (.int .i64)),none]),(205,[some (h36),none]),(208,[some (h11)]),(209,[some (h27),none]),(210,[some (h11)]),(211,[some (h8)]),(212,[some (h26),some (h11)]),(213,[some (h33)]),(214,[some (.sl 3 (.int .i64)),some (.int .i64)]),(215,[]),(216,[some (h8)]),(217,[some (.int .i64)]),(218,[some (.sl 3 (.int .i64))]),(219,[some (h26),some (h33),some (.int .i64)]),(220,[some (h33)]),(221,[some (h33),none]),(222,[some (h11)]),(223,[some (h29),some (h33),some (.sl 3 (.int .i64))]),(224,[some (h35),some (.bool)]),(225,[some (h27),none]),(226,[some (h27),none]),(227,[some (h39),some (.int .i64)]),(229,[some (h39),some (.int .i64)]),(230,[some (h11),some (h11),some (.sl 3 (.int .i64))]),(232,[some (.sl 3 (.int .i64)),some (h11),some (h11)]),(239,[some (.int .i64)]),(243,[some (.sl 3 (.int .i64)),none]),(244,[some (.sl 3 (.int .i64))]),(245,[some (.sl 3 (.int .i64))]),(246,[some (h11)]),(247,[some (h26),some (h11)]),(248,[some (h33),none]),(254,[some (.int .i64)])]
noncomputable def E:Env:={ sh:=fun t=>look t shTab,sigs:=fun f=>(look f sigTab).getD [],params:=fun f=>(look f parTab).getD [],gives:=GivesS prog }
theorem types_ok:∀ t s,E.sh t=some s→ShOk prog s none t:=tab_ok (by kernel_rfl)
theorem mixed:prog.follows .mixedOrders=true:=by kernel_rfl
abbrev nL:Nat→Option Loop:=fun i=>look i []
abbrev nP:Nat→Option Pl:=fun i=>look i []
theorem fg {L : Nat → Option Loop} {pl : Nat → Option Pl} {f : FuncId} {fn : Func} (hf : prog.funcs[f]? = some fn) (hn : (fn.name == "runtime.NumGoroutine") = false) {g : Sig} {us : List OV} {l m : List (Sh × O)} (hl : g.res = l) (ho : g.outs = m.map (·.2)) (hu : outFit us m = true) {val : resD (outD m) l} {Q : Prop} (e : fnV E L pl fn g us (ansK l m fun r => r = val) = Q) (h : Q) : GivesS prog f us (encR l val).1 (encO us m (encR l val).2) := fn_gives types_ok (fun _ _ _ _ h => h) mixed hf hn hl ho hu (Eq.mpr e h)
def G_lFnExactConflictingConstants (x0:TInst) (x1:List TDep) (x2:List TFact) (y0:Bool):Prop:=GivesS prog 5 [⟨h14,.z,x0⟩,⟨h25,.z,x1⟩,⟨h37,.z,x2⟩] [⟨.bool,.z,y0⟩] [⟨h14,.z,x0⟩,⟨h25,.z,x1⟩,⟨h37,.z,x2⟩]
def G_leqChaseStepS (x0:List TFact) (x1:List TFact) (y0:Bool):Prop:=GivesS prog 27 [⟨h38,.z,x0⟩,⟨h38,.z,x1⟩] [⟨.bool,.z,y0⟩] [⟨h38,.z,x0⟩,⟨h38,.z,x1⟩]
def G_leqChaseStep (x0:TFact) (x1:TFact) (y0:Bool):Prop:=GivesS prog 62 [⟨h11,.z,x0⟩,⟨h11,.z,x1⟩] [⟨.bool,.z,y0⟩] [⟨h11,.z,x0⟩,⟨h11,.z,x1⟩]
def G_leqIntS (x0:List Int) (x1:List Int) (y0:Bool):Prop:=GivesS prog 51 [⟨.sl 3 (.int .i64),.z,x0⟩,⟨.sl 3 (.int .i64),.z,x1⟩] [⟨.bool,.z,y0⟩] [⟨.sl 3 (.int .i64),.z,x0⟩,⟨.sl 3 (.int .i64),.z,x1⟩]
def G_ltoChaseStepS (x0:List TFact) (y0:List TFact):Prop:=GivesS prog 24 [⟨h37,.z,x0⟩] [⟨h38,.own (.pr .z (.pr (.own .z) .z)),y0⟩] [⟨h37,.z,x0⟩]
def G_ltoChaseStep (x0:TFact) (y0:TFact):Prop:=GivesS prog 58 [⟨h11,.z,x0⟩] [⟨h11,.pr .z (.pr (.own .z) .z),y0⟩] [⟨h11,.z,x0⟩]
def G_ltoIntS (x0:List Int) (y0:List Int):Prop:=GivesS prog 45 [⟨.sl 3 (.int .i64),.z,x0⟩] [⟨.sl 3 (.int .i64),.own .z,y0⟩] [⟨.sl 3 (.int .i64),.z,x0⟩]
def G_leqDependencyS (x0:List TDep) (x1:List TDep) (y0:Bool):Prop:=GivesS prog 18 [⟨h36,.z,x0⟩,⟨h36,.z,x1⟩] [⟨.bool,.z,y0⟩] [⟨h36,.z,x0⟩,⟨h36,.z,x1⟩]
def G_leqDependency (x0:TDep) (x1:TDep) (y0:Bool):Prop:=GivesS prog 50 [⟨h35,.z,x0⟩,⟨h35,.z,x1⟩] [⟨.bool,.z,y0⟩] [⟨h35,.z,x0⟩,⟨h35,.z,x1⟩]
def G_leqAtomS (x0:List TFact) (x1:List TFact) (y0:Bool):Prop:=GivesS prog 97 [⟨h33,.z,x0⟩,⟨h33,.z,x1⟩] [⟨.bool,.z,y0⟩] [⟨h33,.z,x0⟩,⟨h33,.z,x1⟩]
def G_leqAtom (x0:TFact) (x1:TFact) (y0:Bool):Prop:=GivesS prog 152 [⟨h11,.z,x0⟩,⟨h11,.z,x1⟩] [⟨.bool,.z,y0⟩] [⟨h11,.z,x0⟩,⟨h11,.z,x1⟩]
def G_ltoDependencyS (x0:List TDep) (y0:List TDep):Prop:=GivesS prog 14 [⟨h25,.z,x0⟩] [⟨h36,.own (.pr (.own (.pr .z (.pr (.own .z) .z))) (.pr (.own (.pr .z (.pr (.own .z) .z))) .z)),y0⟩] [⟨h25,.z,x0⟩]
def G_ltoDependency (x0:TDep) (y0:TDep):Prop:=GivesS prog 44 [⟨h24,.z,x0⟩] [⟨h35,.pr (.own (.pr .z (.pr (.own .z) .z))) (.pr (.own (.pr .z (.pr (.own .z) .z))) .z),y0⟩] [⟨h24,.z,x0⟩]
def G_ltoAtomS (x0:List TFact) (y0:List TFact):Prop:=GivesS prog 84 [⟨h19,.z,x0⟩] [⟨h33,.own (.pr .z (.pr (.own .z) .z)),y0⟩] [⟨h19,.z,x0⟩]
def G_ltoAtom (x0:TFact) (y0:TFact):Prop:=GivesS prog 139 [⟨h11,.z,x0⟩] [⟨h11,.pr .z (.pr (.own .z) .z),y0⟩] [⟨h11,.z,x0⟩]
def G_leqInstance (x0:TInst) (x1:TInst) (y0:Bool):Prop:=GivesS prog 26 [⟨h29,.z,x0⟩,⟨h29,.z,x1⟩] [⟨.bool,.z,y0⟩] [⟨h29,.z,x0⟩,⟨h29,.z,x1⟩]
def G_leqFactS (x0:List TFact) (x1:List TFact) (y0:Bool):Prop:=GivesS prog 61 [⟨h27,.z,x0⟩,⟨h27,.z,x1⟩] [⟨.bool,.z,y0⟩] [⟨h27,.z,x0⟩,⟨h27,.z,x1⟩]
def G_leqFact (x0:TFact) (x1:TFact) (y0:Bool):Prop:=GivesS prog 19 [⟨h11,.z,x0⟩,⟨h11,.z,x1⟩] [⟨.bool,.z,y0⟩] [⟨h11,.z,x0⟩,⟨h11,.z,x1⟩]
def G_leqRelationS (x0:List TRel) (x1:List TRel) (y0:Bool):Prop:=GivesS prog 60 [⟨h26,.z,x0⟩,⟨h26,.z,x1⟩] [⟨.bool,.z,y0⟩] [⟨h26,.z,x0⟩,⟨h26,.z,x1⟩]
def G_leqRelation (x0:TRel) (x1:TRel) (y0:Bool):Prop:=GivesS prog 109 [⟨h8,.z,x0⟩,⟨h8,.z,x1⟩] [⟨.bool,.z,y0⟩] [⟨h8,.z,x0⟩,⟨h8,.z,x1⟩]
def G_ltoInstance (x0:TInst) (y0:TInst):Prop:=GivesS prog 23 [⟨h14,.z,x0⟩] [⟨h29,.pr (.own .z) (.pr (.own (.pr .z (.pr (.own .z) .z))) .z),y0⟩] [⟨h14,.z,x0⟩]
def G_ltoFactS (x0:List TFact) (y0:List TFact):Prop:=GivesS prog 57 [⟨h12,.z,x0⟩] [⟨h27,.own (.pr .z (.pr (.own .z) .z)),y0⟩] [⟨h12,.z,x0⟩]
def G_ltoFact (x0:TFact) (y0:TFact):Prop:=GivesS prog 15 [⟨h11,.z,x0⟩] [⟨h11,.pr .z (.pr (.own .z) .z),y0⟩] [⟨h11,.z,x0⟩]
def G_ltoRelationS (x0:List TRel) (y0:List TRel):Prop:=GivesS prog 56 [⟨h9,.z,x0⟩] [⟨h26,.own .z,y0⟩] [⟨h9,.z,x0⟩]
def G_ltoRelation (x0:TRel) (y0:TRel):Prop:=GivesS prog 104 [⟨h8,.z,x0⟩] [⟨h8,.z,y0⟩] [⟨h8,.z,x0⟩]
def G_iConflictingConstants (x0:TInst) (x1:List TDep) (x2:List TFact) (y0:Int) (y1:Int) (y2:Bool):Prop:=GivesS prog 29 [⟨h29,.z,x0⟩,⟨h36,.z,x1⟩,⟨h38,.z,x2⟩] [⟨.int .i64,.z,y0⟩,⟨.int .i64,.z,y1⟩,⟨.bool,.z,y2⟩] [⟨h29,.z,x0⟩,⟨h36,.z,x1⟩,⟨h38,.z,x2⟩]
def G_iIsFailureProof (x0:TInst) (x1:List TDep) (x2:List TFact) (y0:Bool):Prop:=GivesS prog 25 [⟨h29,.z,x0⟩,⟨h36,.z,x1⟩,⟨h38,.z,x2⟩] [⟨.bool,.z,y0⟩] [⟨h29,.z,x0⟩,⟨h36,.z,x1⟩,⟨h38,.z,x2⟩]
def G_iReplaySteps (x0:TInst) (x1:List TDep) (x2:List TFact) (y0:TInst) (y1:Int) (y2:Bool):Prop:=GivesS prog 59 [⟨h29,.z,x0⟩,⟨h36,.z,x1⟩,⟨h38,.z,x2⟩] [⟨h29,.pr .z (.pr (.own .z) .z),y0⟩,⟨.int .i64,.z,y1⟩,⟨.bool,.z,y2⟩] [⟨h29,.z,x0⟩,⟨h36,.z,x1⟩,⟨h38,.z,x2⟩]
def G_iApplyTrigger (x0:TInst) (x1:TDep) (x2:List Int) (y0:TInst) (y1:Int):Prop:=GivesS prog 108 [⟨h29,.z,x0⟩,⟨h35,.z,x1⟩,⟨.sl 3 (.int .i64),.z,x2⟩] [⟨h29,.pr .z (.pr (.own .z) .z),y0⟩,⟨.int .i64,.z,y1⟩] [⟨h29,.z,x0⟩,⟨h35,.z,x1⟩,⟨.sl 3 (.int .i64),.z,x2⟩]
def G_iinstanceCopy (x0:TInst) (y0:TInst):Prop:=GivesS prog 91 [⟨h29,.z,x0⟩] [⟨h29,.pr (.own .z) (.pr (.own (.pr .z (.pr (.own .z) .z))) .z),y0⟩] [⟨h29,.z,x0⟩]
def G_ifactsCopy (x0:List TFact) (y0:List TFact):Prop:=GivesS prog 150 [⟨h27,.z,x0⟩] [⟨h27,.own (.pr .z (.pr (.own .z) .z)),y0⟩] [⟨h27,.z,x0⟩]
def G_ifactCopy (x0:TFact) (y0:TFact):Prop:=GivesS prog 208 [⟨h11,.z,x0⟩] [⟨h11,.pr .z (.pr (.own .z) .z),y0⟩] [⟨h11,.z,x0⟩]
def G_slices_Clone_int (x0:List Int) (y0:List Int):Prop:=GivesS prog 145 [⟨.sl 3 (.int .i64),.z,x0⟩] [⟨.sl 3 (.int .i64),.own .z,y0⟩] [⟨.sl 3 (.int .i64),.z,x0⟩]
def G_slices_Clone_Relation (x0:List TRel) (y0:List TRel):Prop:=GivesS prog 149 [⟨h26,.z,x0⟩] [⟨h26,.own .z,y0⟩] [⟨h26,.z,x0⟩]
def G_ifactsSet (x0:List TFact) (y0:List TFact):Prop:=GivesS prog 171 [⟨h27,.z,x0⟩] [⟨h27,.own .z,y0⟩] [⟨h27,.z,x0⟩]
def G_slices_CompactFunc_Fact_ooz_c_isameFact (x0:List TFact) (x1:Unit) (y0:List TFact):Prop:=GivesS prog 226 [⟨h27,.own .z,x0⟩,⟨.fn 87 .unit,.z,x1⟩] [⟨h27,.own .z,y0⟩] [⟨h27,.dead,x0⟩,⟨.fn 87 .unit,.z,x1⟩]
def G_isameFact (x0:TFact) (x1:TFact) (y0:Bool):Prop:=GivesS prog 87 [⟨h11,.z,x0⟩,⟨h11,.z,x1⟩] [⟨.bool,.z,y0⟩] [⟨h11,.z,x0⟩,⟨h11,.z,x1⟩]
def G_iCompareFacts (x0:TFact) (x1:TFact) (y0:Int):Prop:=GivesS prog 140 [⟨h11,.z,x0⟩,⟨h11,.z,x1⟩] [⟨.int .i64,.z,y0⟩] [⟨h11,.z,x0⟩,⟨h11,.z,x1⟩]
def G_cmp_Or_int (x0:List Int) (y0:Int):Prop:=GivesS prog 197 [⟨.sl 3 (.int .i64),.z,x0⟩] [⟨.int .i64,.z,y0⟩] [⟨.sl 3 (.int .i64),.z,x0⟩]
def G_slices_Compare_int (x0:List Int) (x1:List Int) (y0:Int):Prop:=GivesS prog 199 [⟨.sl 3 (.int .i64),.z,x0⟩,⟨.sl 3 (.int .i64),.z,x1⟩] [⟨.int .i64,.z,y0⟩] [⟨.sl 3 (.int .i64),.z,x0⟩,⟨.sl 3 (.int .i64),.z,x1⟩]
def G_cmp_Compare_int (x0:Int) (x1:Int) (y0:Int):Prop:=GivesS prog 198 [⟨.int .i64,.z,x0⟩,⟨.int .i64,.z,x1⟩] [⟨.int .i64,.z,y0⟩] [⟨.int .i64,.z,x0⟩,⟨.int .i64,.z,x1⟩]
def G_cmp_isNaN_int (x0:Int) (y0:Bool):Prop:=GivesS prog 239 [⟨.int .i64,.z,x0⟩] [⟨.bool,.z,y0⟩] [⟨.int .i64,.z,x0⟩]
def G_slices_SortFunc_Fact_oopzpozz_c_iCompareFacts (x0:List TFact) (x1:Unit) (z0:List TFact):Prop:=GivesS prog 225 [⟨h27,.own (.pr .z (.pr (.own .z) .z)),x0⟩,⟨.fn 140 .unit,.z,x1⟩] [] [⟨h27,.own (.pr .z (.pr (.own .z) .z)),z0⟩,⟨.fn 140 .unit,.z,x1⟩]
def G_iInstantiate (x0:TFact) (x1:List Int) (y0:TFact) (y1:Bool):Prop:=GivesS prog 170 [⟨h11,.z,x0⟩,⟨.sl 3 (.int .i64),.z,x1⟩] [⟨h11,.pr .z (.pr (.own .z) .z),y0⟩,⟨.bool,.z,y1⟩] [⟨h11,.z,x0⟩,⟨.sl 3 (.int .i64),.z,x1⟩]
def G_iIsValidValue (x0:Int) (y0:Bool):Prop:=GivesS prog 182 [⟨.int .i64,.z,x0⟩] [⟨.bool,.z,y0⟩] [⟨.int .i64,.z,x0⟩]
def G_iwithin (x0:Int) (x1:Int) (x2:Int) (y0:Bool):Prop:=GivesS prog 107 [⟨.int .i64,.z,x0⟩,⟨.int .i64,.z,x1⟩,⟨.int .i64,.z,x2⟩] [⟨.bool,.z,y0⟩] [⟨.int .i64,.z,x0⟩,⟨.int .i64,.z,x1⟩,⟨.int .i64,.z,x2⟩]
def G_iNullValue (x0:Int) (y0:Int):Prop:=GivesS prog 68 [⟨.int .i64,.z,x0⟩] [⟨.int .i64,.z,y0⟩] [⟨.int .i64,.z,x0⟩]
def G_iExistentialVariables (x0:TDep) (y0:List Int):Prop:=GivesS prog 169 [⟨h35,.z,x0⟩] [⟨.sl 3 (.int .i64),.own .z,y0⟩] [⟨h35,.z,x0⟩]
def G_iheadVariables (x0:TDep) (x1:Bool) (y0:List Int):Prop:=GivesS prog 224 [⟨h35,.z,x0⟩,⟨.bool,.z,x1⟩] [⟨.sl 3 (.int .i64),.own .z,y0⟩] [⟨h35,.z,x0⟩,⟨.bool,.z,x1⟩]
def G_slices_Contains_int (x0:List Int) (x1:Int) (y0:Bool):Prop:=GivesS prog 132 [⟨.sl 3 (.int .i64),.z,x0⟩,⟨.int .i64,.z,x1⟩] [⟨.bool,.z,y0⟩] [⟨.sl 3 (.int .i64),.z,x0⟩,⟨.int .i64,.z,x1⟩]
def G_slices_Index_int (x0:List Int) (x1:Int) (y0:Int):Prop:=GivesS prog 194 [⟨.sl 3 (.int .i64),.z,x0⟩,⟨.int .i64,.z,x1⟩] [⟨.int .i64,.z,y0⟩] [⟨.sl 3 (.int .i64),.z,x0⟩,⟨.int .i64,.z,x1⟩]
def G_iVariables (x0:List TFact) (y0:List Int):Prop:=GivesS prog 220 [⟨h33,.z,x0⟩] [⟨.sl 3 (.int .i64),.own .z,y0⟩] [⟨h33,.z,x0⟩]
def G_slices_Compact_int_ooz (x0:List Int) (y0:List Int):Prop:=GivesS prog 245 [⟨.sl 3 (.int .i64),.own .z,x0⟩] [⟨.sl 3 (.int .i64),.own .z,y0⟩] [⟨.sl 3 (.int .i64),.dead,x0⟩]
def G_slices_Sort_int_ooz (x0:List Int) (z0:List Int):Prop:=GivesS prog 244 [⟨.sl 3 (.int .i64),.own .z,x0⟩] [] [⟨.sl 3 (.int .i64),.own .z,z0⟩]
def G_iNextNull (x0:TInst) (y0:Int):Prop:=GivesS prog 121 [⟨h29,.z,x0⟩] [⟨.int .i64,.z,y0⟩] [⟨h29,.z,x0⟩]
def G_iNullsOfInstance (x0:TInst) (y0:List Int):Prop:=GivesS prog 177 [⟨h29,.z,x0⟩] [⟨.sl 3 (.int .i64),.own .z,y0⟩] [⟨h29,.z,x0⟩]
def G_inullsOf (x0:List Int) (y0:List Int):Prop:=GivesS prog 218 [⟨.sl 3 (.int .i64),.z,x0⟩] [⟨.sl 3 (.int .i64),.own .z,y0⟩] [⟨.sl 3 (.int .i64),.z,x0⟩]
def G_iNullNumber (x0:Int) (y0:Int) (y1:Bool):Prop:=GivesS prog 126 [⟨.int .i64,.z,x0⟩] [⟨.int .i64,.z,y0⟩,⟨.bool,.z,y1⟩] [⟨.int .i64,.z,x0⟩]
def G_iequated (x0:TInst) (x1:Int) (x2:Int) (y0:TInst) (y1:Int):Prop:=GivesS prog 168 [⟨h29,.z,x0⟩,⟨.int .i64,.z,x1⟩,⟨.int .i64,.z,x2⟩] [⟨h29,.pr .z (.pr (.own .z) .z),y0⟩,⟨.int .i64,.z,y1⟩] [⟨h29,.z,x0⟩,⟨.int .i64,.z,x1⟩,⟨.int .i64,.z,x2⟩]
def G_iApplyToInstance (x0:TSub) (x1:TInst) (y0:TInst) (y1:Bool):Prop:=GivesS prog 124 [⟨h39,.z,x0⟩,⟨h29,.z,x1⟩] [⟨h29,.pr .z (.pr (.own .z) .z),y0⟩,⟨.bool,.z,y1⟩] [⟨h39,.z,x0⟩,⟨h29,.z,x1⟩]
def G_iApplyToFact (x0:TSub) (x1:TFact) (y0:TFact):Prop:=GivesS prog 181 [⟨h39,.z,x0⟩,⟨h11,.z,x1⟩] [⟨h11,.pr .z (.pr (.own .z) .z),y0⟩] [⟨h39,.z,x0⟩,⟨h11,.z,x1⟩]
def G_iApplyToValue (x0:TSub) (x1:Int) (y0:Int):Prop:=GivesS prog 229 [⟨h39,.z,x0⟩,⟨.int .i64,.z,x1⟩] [⟨.int .i64,.z,y0⟩] [⟨h39,.z,x0⟩,⟨.int .i64,.z,x1⟩]
def G_iIsValidSubstitution (x0:TSub) (y0:Bool):Prop:=GivesS prog 180 [⟨h39,.z,x0⟩] [⟨.bool,.z,y0⟩] [⟨h39,.z,x0⟩]
def G_iIsValidInstance (x0:TInst) (y0:Bool):Prop:=GivesS prog 105 [⟨h29,.z,x0⟩] [⟨.bool,.z,y0⟩] [⟨h29,.z,x0⟩]
def G_iNullsOfFact (x0:TFact) (y0:List Int):Prop:=GivesS prog 164 [⟨h11,.z,x0⟩] [⟨.sl 3 (.int .i64),.own .z,y0⟩] [⟨h11,.z,x0⟩]
def G_iIsValidFact (x0:List TRel) (x1:TFact) (y0:Bool):Prop:=GivesS prog 163 [⟨h26,.z,x0⟩,⟨h11,.z,x1⟩] [⟨.bool,.z,y0⟩] [⟨h26,.z,x0⟩,⟨h11,.z,x1⟩]
def G_slices_ContainsFunc_int_c_iIsValidFact_1 (x0:List Int) (x1:Unit) (y0:Bool):Prop:=GivesS prog 202 [⟨.sl 3 (.int .i64),.z,x0⟩,⟨.fn 217 .unit,.z,x1⟩] [⟨.bool,.z,y0⟩] [⟨.sl 3 (.int .i64),.z,x0⟩,⟨.fn 217 .unit,.z,x1⟩]
def G_slices_IndexFunc_int_c_iIsValidFact_1 (x0:List Int) (x1:Unit) (y0:Int):Prop:=GivesS prog 243 [⟨.sl 3 (.int .i64),.z,x0⟩,⟨.fn 217 .unit,.z,x1⟩] [⟨.int .i64,.z,y0⟩] [⟨.sl 3 (.int .i64),.z,x0⟩,⟨.fn 217 .unit,.z,x1⟩]
def G_iIsValidFact_1 (x0:Int) (y0:Bool):Prop:=GivesS prog 217 [⟨.int .i64,.z,x0⟩] [⟨.bool,.z,y0⟩] [⟨.int .i64,.z,x0⟩]
def G_iAreValidRelations (x0:List TRel) (y0:Bool):Prop:=GivesS prog 162 [⟨h26,.z,x0⟩] [⟨.bool,.z,y0⟩] [⟨h26,.z,x0⟩]
def G_iIsValidRelation (x0:TRel) (y0:Bool):Prop:=GivesS prog 216 [⟨h8,.z,x0⟩] [⟨.bool,.z,y0⟩] [⟨h8,.z,x0⟩]
def G_iIsNull (x0:Int) (y0:Bool):Prop:=GivesS prog 69 [⟨.int .i64,.z,x0⟩] [⟨.bool,.z,y0⟩] [⟨.int .i64,.z,x0⟩]
def G_iIsActiveTrigger (x0:TInst) (x1:TDep) (x2:List Int) (y0:Bool):Prop:=GivesS prog 167 [⟨h29,.z,x0⟩,⟨h35,.z,x1⟩,⟨.sl 3 (.int .i64),.z,x2⟩] [⟨.bool,.z,y0⟩] [⟨h29,.z,x0⟩,⟨h35,.z,x1⟩,⟨.sl 3 (.int .i64),.z,x2⟩]
def G_iHasExtension (x0:TInst) (x1:List TFact) (x2:List Int) (y0:Bool):Prop:=GivesS prog 223 [⟨h29,.z,x0⟩,⟨h33,.z,x1⟩,⟨.sl 3 (.int .i64),.z,x2⟩] [⟨.bool,.z,y0⟩] [⟨h29,.z,x0⟩,⟨h33,.z,x1⟩,⟨.sl 3 (.int .i64),.z,x2⟩]
def G_imatches (x0:List TFact) (x1:List TFact) (x2:List Int) (y0:List (List Int)):Prop:=GivesS prog 189 [⟨h27,.z,x0⟩,⟨h33,.z,x1⟩,⟨.sl 3 (.int .i64),.z,x2⟩] [⟨.sl 30 (.sl 3 (.int .i64)),.own .z,y0⟩] [⟨h27,.z,x0⟩,⟨h33,.z,x1⟩,⟨.sl 3 (.int .i64),.z,x2⟩]
def G_ibind (x0:List Int) (x1:TFact) (x2:TFact) (y0:List Int) (y1:Bool):Prop:=GivesS prog 232 [⟨.sl 3 (.int .i64),.z,x0⟩,⟨h11,.z,x1⟩,⟨h11,.z,x2⟩] [⟨.sl 3 (.int .i64),.own .z,y0⟩,⟨.bool,.z,y1⟩] [⟨.sl 3 (.int .i64),.z,x0⟩,⟨h11,.z,x1⟩,⟨h11,.z,x2⟩]
def G_iareMatchable (x0:TInst) (x1:List TFact) (y0:Bool):Prop:=GivesS prog 188 [⟨h29,.z,x0⟩,⟨h33,.z,x1⟩] [⟨.bool,.z,y0⟩] [⟨h29,.z,x0⟩,⟨h33,.z,x1⟩]
def G_iareAtoms (x0:List TRel) (x1:List TFact) (x2:Int) (y0:Bool):Prop:=GivesS prog 219 [⟨h26,.z,x0⟩,⟨h33,.z,x1⟩,⟨.int .i64,.z,x2⟩] [⟨.bool,.z,y0⟩] [⟨h26,.z,x0⟩,⟨h33,.z,x1⟩,⟨.int .i64,.z,x2⟩]
def G_slices_ContainsFunc_Atom_c_iareAtoms_1 (x0:List TFact) (x1:List TRel×Unit) (y0:Bool):Prop:=GivesS prog 221 [⟨h33,.z,x0⟩,⟨.fn 246 h40,.z,x1⟩] [⟨.bool,.z,y0⟩] [⟨h33,.z,x0⟩,⟨.fn 246 h40,.z,x1⟩]
def G_slices_IndexFunc_Atom_c_iareAtoms_1 (x0:List TFact) (x1:List TRel×Unit) (y0:Int):Prop:=GivesS prog 248 [⟨h33,.z,x0⟩,⟨.fn 246 h40,.z,x1⟩] [⟨.int .i64,.z,y0⟩] [⟨h33,.z,x0⟩,⟨.fn 246 h40,.z,x1⟩]
def G_iareAtoms_1 (x0:TFact) (x1:List TRel) (y0:Bool):Prop:=GivesS prog 246 [⟨h11,.z,x0⟩,⟨.ptr h26,.z,x1⟩] [⟨.bool,.z,y0⟩] [⟨h11,.z,x0⟩,⟨.ptr h26,.z,x1⟩]
def G_iIsValidAtom (x0:List TRel) (x1:TFact) (y0:Bool):Prop:=GivesS prog 247 [⟨h26,.z,x0⟩,⟨h11,.z,x1⟩] [⟨.bool,.z,y0⟩] [⟨h26,.z,x0⟩,⟨h11,.z,x1⟩]
def G_slices_ContainsFunc_int_c_iIsValidAtom_1 (x0:List Int) (x1:Unit) (y0:Bool):Prop:=GivesS prog 202 [⟨.sl 3 (.int .i64),.z,x0⟩,⟨.fn 254 .unit,.z,x1⟩] [⟨.bool,.z,y0⟩] [⟨.sl 3 (.int .i64),.z,x0⟩,⟨.fn 254 .unit,.z,x1⟩]
def G_slices_IndexFunc_int_c_iIsValidAtom_1 (x0:List Int) (x1:Unit) (y0:Int):Prop:=GivesS prog 243 [⟨.sl 3 (.int .i64),.z,x0⟩,⟨.fn 254 .unit,.z,x1⟩] [⟨.int .i64,.z,y0⟩] [⟨.sl 3 (.int .i64),.z,x0⟩,⟨.fn 254 .unit,.z,x1⟩]
def G_iIsValidAtom_1 (x0:Int) (y0:Bool):Prop:=GivesS prog 254 [⟨.int .i64,.z,x0⟩] [⟨.bool,.z,y0⟩] [⟨.int .i64,.z,x0⟩]
def G_iIsTrigger (x0:TInst) (x1:TDep) (x2:List Int) (y0:Bool):Prop:=GivesS prog 192 [⟨h29,.z,x0⟩,⟨h35,.z,x1⟩,⟨.sl 3 (.int .i64),.z,x2⟩] [⟨.bool,.z,y0⟩] [⟨h29,.z,x0⟩,⟨h35,.z,x1⟩,⟨.sl 3 (.int .i64),.z,x2⟩]
def G_ihasFact (x0:List TFact) (x1:TFact) (y0:Bool):Prop:=GivesS prog 151 [⟨h27,.z,x0⟩,⟨h11,.z,x1⟩] [⟨.bool,.z,y0⟩] [⟨h27,.z,x0⟩,⟨h11,.z,x1⟩]
def G_slices_ContainsFunc_Fact_c_ihasFact_1 (x0:List TFact) (x1:TFact×Unit) (y0:Bool):Prop:=GivesS prog 209 [⟨h27,.z,x0⟩,⟨.fn 210 h41,.z,x1⟩] [⟨.bool,.z,y0⟩] [⟨h27,.z,x0⟩,⟨.fn 210 h41,.z,x1⟩]
def G_slices_IndexFunc_Fact_c_ihasFact_1 (x0:List TFact) (x1:TFact×Unit) (y0:Int):Prop:=GivesS prog 85 [⟨h27,.z,x0⟩,⟨.fn 210 h41,.z,x1⟩] [⟨.int .i64,.z,y0⟩] [⟨h27,.z,x0⟩,⟨.fn 210 h41,.z,x1⟩]
def G_ihasFact_1 (x0:TFact) (x1:TFact) (y0:Bool):Prop:=GivesS prog 210 [⟨h11,.z,x0⟩,⟨.ptr h11,.z,x1⟩] [⟨.bool,.z,y0⟩] [⟨h11,.z,x0⟩,⟨.ptr h11,.z,x1⟩]
def G_iIsValidDependency (x0:List TRel) (x1:TDep) (y0:Bool):Prop:=GivesS prog 166 [⟨h26,.z,x0⟩,⟨h35,.z,x1⟩] [⟨.bool,.z,y0⟩] [⟨h26,.z,x0⟩,⟨h35,.z,x1⟩]
def G_slices_ContainsFunc_Atom_c_iIsValidDependency_1 (x0:List TFact) (x1:List TRel×Unit) (y0:Bool):Prop:=GivesS prog 221 [⟨h33,.z,x0⟩,⟨.fn 222 h40,.z,x1⟩] [⟨.bool,.z,y0⟩] [⟨h33,.z,x0⟩,⟨.fn 222 h40,.z,x1⟩]
def G_slices_IndexFunc_Atom_c_iIsValidDependency_1 (x0:List TFact) (x1:List TRel×Unit) (y0:Int):Prop:=GivesS prog 248 [⟨h33,.z,x0⟩,⟨.fn 222 h40,.z,x1⟩] [⟨.int .i64,.z,y0⟩] [⟨h33,.z,x0⟩,⟨.fn 222 h40,.z,x1⟩]
def G_iIsValidDependency_1 (x0:TFact) (x1:List TRel) (y0:Bool):Prop:=GivesS prog 222 [⟨h11,.z,x0⟩,⟨.ptr h26,.z,x1⟩] [⟨.bool,.z,y0⟩] [⟨h11,.z,x0⟩,⟨.ptr h26,.z,x1⟩]
def G_iAreValidDependencies (x0:List TRel) (x1:List TDep) (y0:Bool):Prop:=GivesS prog 106 [⟨h26,.z,x0⟩,⟨h36,.z,x1⟩] [⟨.bool,.z,y0⟩] [⟨h26,.z,x0⟩,⟨h36,.z,x1⟩]
def G_slices_ContainsFunc_Dependency_c_iAreValidDependencies_1 (x0:List TDep) (x1:List TRel×Unit) (y0:Bool):Prop:=GivesS prog 142 [⟨h36,.z,x0⟩,⟨.fn 165 h40,.z,x1⟩] [⟨.bool,.z,y0⟩] [⟨h36,.z,x0⟩,⟨.fn 165 h40,.z,x1⟩]
def G_slices_IndexFunc_Dependency_c_iAreValidDependencies_1 (x0:List TDep) (x1:List TRel×Unit) (y0:Int):Prop:=GivesS prog 205 [⟨h36,.z,x0⟩,⟨.fn 165 h40,.z,x1⟩] [⟨.int .i64,.z,y0⟩] [⟨h36,.z,x0⟩,⟨.fn 165 h40,.z,x1⟩]
def G_iAreValidDependencies_1 (x0:TDep) (x1:List TRel) (y0:Bool):Prop:=GivesS prog 165 [⟨h35,.z,x0⟩,⟨.ptr h26,.z,x1⟩] [⟨.bool,.z,y0⟩] [⟨h35,.z,x0⟩,⟨.ptr h26,.z,x1⟩]
def G_sConflictingConstants (x0:TInst) (x1:List TDep) (x2:List TFact) (y0:Int) (y1:Int) (y2:Bool):Prop:=GivesS prog 28 [⟨h29,.z,x0⟩,⟨h36,.z,x1⟩,⟨h38,.z,x2⟩] [⟨.int .i64,.z,y0⟩,⟨.int .i64,.z,y1⟩,⟨.bool,.z,y2⟩] [⟨h29,.z,x0⟩,⟨h36,.z,x1⟩,⟨h38,.z,x2⟩]
def G_sIsFailureProof (x0:TInst) (x1:List TDep) (x2:List TFact) (y0:Bool):Prop:=GivesS prog 22 [⟨h29,.z,x0⟩,⟨h36,.z,x1⟩,⟨h38,.z,x2⟩] [⟨.bool,.z,y0⟩] [⟨h29,.z,x0⟩,⟨h36,.z,x1⟩,⟨h38,.z,x2⟩]
def G_sReplaySteps (x0:TInst) (x1:List TDep) (x2:List TFact) (y0:TInst) (y1:Int) (y2:Bool):Prop:=GivesS prog 55 [⟨h29,.z,x0⟩,⟨h36,.z,x1⟩,⟨h38,.z,x2⟩] [⟨h29,.z,y0⟩,⟨.int .i64,.z,y1⟩,⟨.bool,.z,y2⟩] [⟨h29,.z,x0⟩,⟨h36,.z,x1⟩,⟨h38,.z,x2⟩]
def G_sApplyTrigger (x0:TInst) (x1:TDep) (x2:List Int) (y0:TInst) (y1:Int):Prop:=GivesS prog 103 [⟨h29,.z,x0⟩,⟨h35,.z,x1⟩,⟨.sl 3 (.int .i64),.z,x2⟩] [⟨h29,.z,y0⟩,⟨.int .i64,.z,y1⟩] [⟨h29,.z,x0⟩,⟨h35,.z,x1⟩,⟨.sl 3 (.int .i64),.z,x2⟩]
def G_sl5Copy (x0:TInst) (y0:TInst):Prop:=GivesS prog 81 [⟨h29,.z,x0⟩] [⟨h29,.pr (.own .z) (.pr (.own (.pr .z (.pr (.own .z) .z))) .z),y0⟩] [⟨h29,.z,x0⟩]
def G_sl5Fact (x0:TFact) (y0:TFact):Prop:=GivesS prog 138 [⟨h11,.z,x0⟩] [⟨h11,.pr .z (.pr (.own .z) .z),y0⟩] [⟨h11,.z,x0⟩]
def G_sl5Put (x0:TInst) (x1:TFact) (y0:TInst):Prop:=GivesS prog 161 [⟨h29,.z,x0⟩,⟨h11,.z,x1⟩] [⟨h29,.z,y0⟩] [⟨h29,.z,x0⟩,⟨h11,.z,x1⟩]
def G_sCompareFacts (x0:TFact) (x1:TFact) (y0:Int):Prop:=GivesS prog 42 [⟨h11,.z,x0⟩,⟨h11,.z,x1⟩] [⟨.int .i64,.z,y0⟩] [⟨h11,.z,x0⟩,⟨h11,.z,x1⟩]
def G_sl4Ints (x0:List Int) (x1:List Int) (y0:Int):Prop:=GivesS prog 82 [⟨.sl 3 (.int .i64),.z,x0⟩,⟨.sl 3 (.int .i64),.z,x1⟩] [⟨.int .i64,.z,y0⟩] [⟨.sl 3 (.int .i64),.z,x0⟩,⟨.sl 3 (.int .i64),.z,x1⟩]
def G_sl5Place (x0:TInst) (x1:TFact) (y0:Int):Prop:=GivesS prog 80 [⟨h29,.z,x0⟩,⟨h11,.z,x1⟩] [⟨.int .i64,.z,y0⟩] [⟨h29,.z,x0⟩,⟨h11,.z,x1⟩]
def G_sInstantiate (x0:TFact) (x1:List Int) (y0:TFact) (y1:Bool):Prop:=GivesS prog 160 [⟨h11,.z,x0⟩,⟨.sl 3 (.int .i64),.z,x1⟩] [⟨h11,.pr .z (.pr (.own .z) .z),y0⟩,⟨.bool,.z,y1⟩] [⟨h11,.z,x0⟩,⟨.sl 3 (.int .i64),.z,x1⟩]
def G_sIsValidValue (x0:Int) (y0:Bool):Prop:=GivesS prog 134 [⟨.int .i64,.z,x0⟩] [⟨.bool,.z,y0⟩] [⟨.int .i64,.z,x0⟩]
def G_sl1In (x0:Int) (x1:Int) (x2:Int) (y0:Bool):Prop:=GivesS prog 101 [⟨.int .i64,.z,x0⟩,⟨.int .i64,.z,x1⟩,⟨.int .i64,.z,x2⟩] [⟨.bool,.z,y0⟩] [⟨.int .i64,.z,x0⟩,⟨.int .i64,.z,x1⟩,⟨.int .i64,.z,x2⟩]
def G_sNullNumber (x0:Int) (y0:Int) (y1:Bool):Prop:=GivesS prog 117 [⟨.int .i64,.z,x0⟩] [⟨.int .i64,.z,y0⟩,⟨.bool,.z,y1⟩] [⟨.int .i64,.z,x0⟩]
def G_sNullValue (x0:Int) (y0:Int):Prop:=GivesS prog 67 [⟨.int .i64,.z,x0⟩] [⟨.int .i64,.z,y0⟩] [⟨.int .i64,.z,x0⟩]
def G_sNextNull (x0:TInst) (y0:Int):Prop:=GivesS prog 111 [⟨h29,.z,x0⟩] [⟨.int .i64,.z,y0⟩] [⟨h29,.z,x0⟩]
def G_sNullsOfInstance (x0:TInst) (y0:List Int):Prop:=GivesS prog 135 [⟨h29,.z,x0⟩] [⟨.sl 3 (.int .i64),.z,y0⟩] [⟨h29,.z,x0⟩]
def G_sl4Put (x0:List Int) (x1:Int) (y0:List Int):Prop:=GivesS prog 195 [⟨.sl 3 (.int .i64),.z,x0⟩,⟨.int .i64,.z,x1⟩] [⟨.sl 3 (.int .i64),.z,y0⟩] [⟨.sl 3 (.int .i64),.z,x0⟩,⟨.int .i64,.z,x1⟩]
def G_sNullsOfFact (x0:TFact) (y0:List Int):Prop:=GivesS prog 154 [⟨h11,.z,x0⟩] [⟨.sl 3 (.int .i64),.z,y0⟩] [⟨h11,.z,x0⟩]
def G_sExistentialVariables (x0:TDep) (y0:List Int):Prop:=GivesS prog 159 [⟨h35,.z,x0⟩] [⟨.sl 3 (.int .i64),.own .z,y0⟩] [⟨h35,.z,x0⟩]
def G_sl4Has (x0:List Int) (x1:Int) (y0:Bool):Prop:=GivesS prog 214 [⟨.sl 3 (.int .i64),.z,x0⟩,⟨.int .i64,.z,x1⟩] [⟨.bool,.z,y0⟩] [⟨.sl 3 (.int .i64),.z,x0⟩,⟨.int .i64,.z,x1⟩]
def G_sVariables (x0:List TFact) (y0:List Int):Prop:=GivesS prog 213 [⟨h33,.z,x0⟩] [⟨.sl 3 (.int .i64),.z,y0⟩] [⟨h33,.z,x0⟩]
def G_sApplyToInstance (x0:TSub) (x1:TInst) (y0:TInst) (y1:Bool):Prop:=GivesS prog 115 [⟨h39,.z,x0⟩,⟨h29,.z,x1⟩] [⟨h29,.pr (.own .z) (.pr (.own (.pr .z (.pr (.own .z) .z))) .z),y0⟩,⟨.bool,.z,y1⟩] [⟨h39,.z,x0⟩,⟨h29,.z,x1⟩]
def G_sApplyToFact (x0:TSub) (x1:TFact) (y0:TFact):Prop:=GivesS prog 175 [⟨h39,.z,x0⟩,⟨h11,.z,x1⟩] [⟨h11,.pr .z (.pr (.own .z) .z),y0⟩] [⟨h39,.z,x0⟩,⟨h11,.z,x1⟩]
def G_sApplyToValue (x0:TSub) (x1:Int) (y0:Int):Prop:=GivesS prog 227 [⟨h39,.z,x0⟩,⟨.int .i64,.z,x1⟩] [⟨.int .i64,.z,y0⟩] [⟨h39,.z,x0⟩,⟨.int .i64,.z,x1⟩]
def G_sIsValidSubstitution (x0:TSub) (y0:Bool):Prop:=GivesS prog 174 [⟨h39,.z,x0⟩] [⟨.bool,.z,y0⟩] [⟨h39,.z,x0⟩]
def G_sIsValidInstance (x0:TInst) (y0:Bool):Prop:=GivesS prog 99 [⟨h29,.z,x0⟩] [⟨.bool,.z,y0⟩] [⟨h29,.z,x0⟩]
def G_sAreValidRelations (x0:List TRel) (y0:Bool):Prop:=GivesS prog 155 [⟨h26,.z,x0⟩] [⟨.bool,.z,y0⟩] [⟨h26,.z,x0⟩]
def G_sIsValidRelation (x0:TRel) (y0:Bool):Prop:=GivesS prog 211 [⟨h8,.z,x0⟩] [⟨.bool,.z,y0⟩] [⟨h8,.z,x0⟩]
def G_sIsValidFact (x0:List TRel) (x1:TFact) (y0:Bool):Prop:=GivesS prog 153 [⟨h26,.z,x0⟩,⟨h11,.z,x1⟩] [⟨.bool,.z,y0⟩] [⟨h26,.z,x0⟩,⟨h11,.z,x1⟩]
def G_sIsActiveTrigger (x0:TInst) (x1:TDep) (x2:List Int) (y0:Bool):Prop:=GivesS prog 102 [⟨h29,.z,x0⟩,⟨h35,.z,x1⟩,⟨.sl 3 (.int .i64),.z,x2⟩] [⟨.bool,.z,y0⟩] [⟨h29,.z,x0⟩,⟨h35,.z,x1⟩,⟨.sl 3 (.int .i64),.z,x2⟩]
def G_sHasExtension (x0:TInst) (x1:List TFact) (x2:List Int) (y0:Bool):Prop:=GivesS prog 158 [⟨h29,.z,x0⟩,⟨h33,.z,x1⟩,⟨.sl 3 (.int .i64),.z,x2⟩] [⟨.bool,.z,y0⟩] [⟨h29,.z,x0⟩,⟨h33,.z,x1⟩,⟨.sl 3 (.int .i64),.z,x2⟩]
def G_sl11Walk (x0:TInst) (x1:List TFact) (x2:Int) (x3:List Int) (y0:List (List Int)):Prop:=GivesS prog 184 [⟨h29,.z,x0⟩,⟨h33,.z,x1⟩,⟨.int .i64,.z,x2⟩,⟨.sl 3 (.int .i64),.z,x3⟩] [⟨.sl 30 (.sl 3 (.int .i64)),.own (.own .z),y0⟩] [⟨h29,.z,x0⟩,⟨h33,.z,x1⟩,⟨.int .i64,.z,x2⟩,⟨.sl 3 (.int .i64),.z,x3⟩]
def G_sl11Fit (x0:TFact) (x1:TFact) (x2:List Int) (y0:List Int) (y1:Bool):Prop:=GivesS prog 230 [⟨h11,.z,x0⟩,⟨h11,.z,x1⟩,⟨.sl 3 (.int .i64),.z,x2⟩] [⟨.sl 3 (.int .i64),.own .z,y0⟩,⟨.bool,.z,y1⟩] [⟨h11,.z,x0⟩,⟨h11,.z,x1⟩,⟨.sl 3 (.int .i64),.z,x2⟩]
def G_sl11None  (y0:Int):Prop:=GivesS prog 215 [] [⟨.int .i64,.z,y0⟩] []
def G_sl11Ok (x0:TInst) (x1:List TFact) (y0:Bool):Prop:=GivesS prog 183 [⟨h29,.z,x0⟩,⟨h33,.z,x1⟩] [⟨.bool,.z,y0⟩] [⟨h29,.z,x0⟩,⟨h33,.z,x1⟩]
def G_sIsValidAtom (x0:List TRel) (x1:TFact) (y0:Bool):Prop:=GivesS prog 212 [⟨h26,.z,x0⟩,⟨h11,.z,x1⟩] [⟨.bool,.z,y0⟩] [⟨h26,.z,x0⟩,⟨h11,.z,x1⟩]
def G_sIsTrigger (x0:TInst) (x1:TDep) (x2:List Int) (y0:Bool):Prop:=GivesS prog 157 [⟨h29,.z,x0⟩,⟨h35,.z,x1⟩,⟨.sl 3 (.int .i64),.z,x2⟩] [⟨.bool,.z,y0⟩] [⟨h29,.z,x0⟩,⟨h35,.z,x1⟩,⟨.sl 3 (.int .i64),.z,x2⟩]
def G_sIsValidDependency (x0:List TRel) (x1:TDep) (y0:Bool):Prop:=GivesS prog 156 [⟨h26,.z,x0⟩,⟨h35,.z,x1⟩] [⟨.bool,.z,y0⟩] [⟨h26,.z,x0⟩,⟨h35,.z,x1⟩]
def G_sAreValidDependencies (x0:List TRel) (x1:List TDep) (y0:Bool):Prop:=GivesS prog 100 [⟨h26,.z,x0⟩,⟨h36,.z,x1⟩] [⟨.bool,.z,y0⟩] [⟨h26,.z,x0⟩,⟨h36,.z,x1⟩]
def G_lszChaseStepS (x0:List TFact) (x1:Int) (y0:Int):Prop:=GivesS prog 21 [⟨h37,.z,x0⟩,⟨.int .i64,.z,x1⟩] [⟨.int .i64,.z,y0⟩] [⟨h37,.z,x0⟩,⟨.int .i64,.z,x1⟩]
def G_lszChaseStep (x0:TFact) (x1:Int) (y0:Int):Prop:=GivesS prog 54 [⟨h11,.z,x0⟩,⟨.int .i64,.z,x1⟩] [⟨.int .i64,.z,y0⟩] [⟨h11,.z,x0⟩,⟨.int .i64,.z,x1⟩]
def G_lszIntS (x0:List Int) (x1:Int) (y0:Int):Prop:=GivesS prog 38 [⟨.sl 3 (.int .i64),.z,x0⟩,⟨.int .i64,.z,x1⟩] [⟨.int .i64,.z,y0⟩] [⟨.sl 3 (.int .i64),.z,x0⟩,⟨.int .i64,.z,x1⟩]
def G_lszDependencyS (x0:List TDep) (x1:Int) (y0:Int):Prop:=GivesS prog 10 [⟨h25,.z,x0⟩,⟨.int .i64,.z,x1⟩] [⟨.int .i64,.z,y0⟩] [⟨h25,.z,x0⟩,⟨.int .i64,.z,x1⟩]
def G_lszDependency (x0:TDep) (x1:Int) (y0:Int):Prop:=GivesS prog 37 [⟨h24,.z,x0⟩,⟨.int .i64,.z,x1⟩] [⟨.int .i64,.z,y0⟩] [⟨h24,.z,x0⟩,⟨.int .i64,.z,x1⟩]
def G_lszAtomS (x0:List TFact) (x1:Int) (y0:Int):Prop:=GivesS prog 75 [⟨h19,.z,x0⟩,⟨.int .i64,.z,x1⟩] [⟨.int .i64,.z,y0⟩] [⟨h19,.z,x0⟩,⟨.int .i64,.z,x1⟩]
def G_lszAtom (x0:TFact) (x1:Int) (y0:Int):Prop:=GivesS prog 133 [⟨h11,.z,x0⟩,⟨.int .i64,.z,x1⟩] [⟨.int .i64,.z,y0⟩] [⟨h11,.z,x0⟩,⟨.int .i64,.z,x1⟩]
def G_lszInstance (x0:TInst) (x1:Int) (y0:Int):Prop:=GivesS prog 20 [⟨h14,.z,x0⟩,⟨.int .i64,.z,x1⟩] [⟨.int .i64,.z,y0⟩] [⟨h14,.z,x0⟩,⟨.int .i64,.z,x1⟩]
def G_lszFactS (x0:List TFact) (x1:Int) (y0:Int):Prop:=GivesS prog 53 [⟨h12,.z,x0⟩,⟨.int .i64,.z,x1⟩] [⟨.int .i64,.z,y0⟩] [⟨h12,.z,x0⟩,⟨.int .i64,.z,x1⟩]
def G_lszFact (x0:TFact) (x1:Int) (y0:Int):Prop:=GivesS prog 11 [⟨h11,.z,x0⟩,⟨.int .i64,.z,x1⟩] [⟨.int .i64,.z,y0⟩] [⟨h11,.z,x0⟩,⟨.int .i64,.z,x1⟩]
def G_lszRelationS (x0:List TRel) (x1:Int) (y0:Int):Prop:=GivesS prog 52 [⟨h9,.z,x0⟩,⟨.int .i64,.z,x1⟩] [⟨.int .i64,.z,y0⟩] [⟨h9,.z,x0⟩,⟨.int .i64,.z,x1⟩]
def G_lszRelation (x0:TRel) (x1:Int) (y0:Int):Prop:=GivesS prog 98 [⟨h8,.z,x0⟩,⟨.int .i64,.z,x1⟩] [⟨.int .i64,.z,y0⟩] [⟨h8,.z,x0⟩,⟨.int .i64,.z,x1⟩]
end Go.V

