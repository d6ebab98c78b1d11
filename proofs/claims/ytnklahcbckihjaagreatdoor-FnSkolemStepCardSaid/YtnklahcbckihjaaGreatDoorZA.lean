/-
  The functions that are reached: types, signatures, what a call of each gives.
-/
import Derived.Test.YtnklahcbckihjaaGreatDoorVE
import Derived.Test.YtnklahcbckihjaaGreatDoorProg
import Derived.KernelRfl
set_option linter.unusedVariables false
set_option linter.unusedSimpArgs false
set_option maxRecDepth 1000000
set_option maxHeartbeats 4000000
set_option linter.unusedVariables false
namespace Go.V
open Go Go.Proofs
abbrev h0:Sh:=.pair (.int .u8) .unit
abbrev h1:Sh:=.pair .bool h0
abbrev h2:Sh:=.pair (.int .i64) h1
abbrev h3:Sh:=.pair (.int .i64) h2
abbrev h4:Sh:=.pair (.int .u64) .unit
abbrev h5:Sh:=.pair .str h4
abbrev h6:Sh:=.pair .bool .unit
abbrev h7:Sh:=.pair (.int .i64) h6
abbrev h8:Sh:=.pair .str h7
abbrev h9:Sh:=.sl 112 h8
abbrev h10:Sh:=.pair (.sl 3 (.int .i64)) .unit
abbrev h11:Sh:=.pair (.int .i64) h10
abbrev h12:Sh:=.sl 62 h11
abbrev h13:Sh:=.pair h12 .unit
abbrev h14:Sh:=.pair h9 h13
abbrev h15:Sh:=.pair (.int .i64) h11
abbrev h16:Sh:=.sl 68 h15
abbrev h17:Sh:=.pair h16 .unit
abbrev h18:Sh:=.pair h14 h17
abbrev h19:Sh:=.sl 92 h11
abbrev h20:Sh:=.pair (.int .i64) .unit
abbrev h21:Sh:=.pair (.int .i64) h20
abbrev h22:Sh:=.pair .bool h21
abbrev h23:Sh:=.pair h19 h22
abbrev h24:Sh:=.pair h19 h23
abbrev h25:Sh:=.sl 45 h24
abbrev h26:Sh:=.pair (.sl 5 (.int .u8)) h21
abbrev h27:Sh:=.pair (.int .i64) h7
abbrev h28:Sh:=.sl 165 h27
abbrev h29:Sh:=.pair (.ptr h14) .unit
abbrev h30:Sh:=.pair (.ptr h11) .unit
abbrev h31:Sh:=.pair (.ptr h15) .unit
abbrev h32:Sh:=.pair (.ptr (.int .i64)) .unit
abbrev h33:Sh:=.tok (.int .i64) h10
abbrev h34:Sh:=.sl 62 h33
abbrev h35:Sh:=.pair (.ptr h9) .unit
abbrev oF:O:=.own (.pr .z (.pr (.own .z) .z))
abbrev oI:O:=.pr (.own .z) (.pr oF .z)
abbrev oT:O:=.own (.pr .z (.pr .z (.pr (.own .z) .z)))
abbrev oS:O:=.pr oI (.pr oT .z)
abbrev oD:O:=.pr oF (.pr oF .z)
abbrev oE:O:=.own oD
noncomputable abbrev prog:Program:=Tryz.prog
noncomputable abbrev gZ (f:Nat) (us rs:List OV):Prop:=z15 prog f us rs us
def z0g1:List (Nat×Sh):=[(2,.int .i64),(3,.int .i64),(4,.bool),(5,.int .u8),(6,.int .u8),(9,.str),(10,.str),(11,.str),(12,.int .u64),(21,.int .i32),(22,.sl 5 (.int .u8)),(24,h9),(25,h12),(26,h14),(27,h14),(28,h16),(29,h18),(30,h18),(31,h25),(32,.sl 3 (.int .i64)),(43,h19),(44,h24),(45,h24),(46,.ptr h26),(61,h11),(62,h11),(67,h15),(68,h15),(81,.sl 32 (.sl 3 (.int .i64))),(91,h11),(92,h11),(111,h8),(112,h8),(113,.sl 9 .str),(123,h26),(124,h26),(133,.int .u64),(164,h27),(165,h27),(174,.int .i64),(181,.int .u32),(183,.int .u64),(184,.ptr (.int .u8)),(185,h28),(195,.int .u64),(199,.ptr (.int .i64)),(207,.sl 4 .bool),(210,.ptr (.int .u64)),(229,.int .u8),(230,.int .u8),(232,.int .i32),(233,.int .i32)]
def z0ep:List (Nat×List Sig):=[(3,[⟨[.z],[(.bool,.z)],[.z]⟩]),(4,[⟨[.z],[(.bool,.z)],[.z]⟩]),(5,[⟨[.z],[(h18,.pr .z (.pr oT .z)),(h25,.own .z),(.int .i64,.z),(.sl 3 (.int .i64),.z)],[.z]⟩]),(6,[⟨[.z,.z,.z,.z],[(h18,oS),(.bool,.z)],[.z,.z,.z,.z]⟩]),(7,[⟨[.z,.z,.z,.z],[(h18,oS),(.bool,.z)],[.z,.z,.z,.z]⟩]),(8,[⟨[.z,.z],[(.bool,.z)],[.z,.z]⟩]),(9,[⟨[.z],[(h18,.pr .z (.pr oT .z)),(h25,.own .z),(.int .i64,.z)],[.z]⟩]),(10,[⟨[.z,.z,.z],[(.str,.z)],[.z,.z,.z]⟩]),(11,[⟨[.z,.z,.z],[(.str,.z)],[.z,.z,.z]⟩]),(12,[⟨[.z],[(.bool,.z)],[.z]⟩]),(13,[⟨[.z,.z],[(.bool,.z)],[.z,.z]⟩]),(14,[⟨[.z],[(.sl 3 (.int .i64),.own .z)],[.z]⟩]),(15,[⟨[.z],[(.ptr h26,.own .z),(h18,.pr .z (.pr oT .z)),(h25,.own .z)],[.z]⟩]),(16,[⟨[],[(.sl 3 (.int .i64),.own .z)],[]⟩]),(17,[⟨[.own .z,.z],[(.int .i64,.z)],[.own .z,.z]⟩]),(18,[⟨[.own .z,.z,.z],[(.sl 3 (.int .i64),.z)],[.own .z,.z,.z]⟩]),(19,[⟨[.z,.z],[(.bool,.z)],[.z,.z]⟩]),(20,[⟨[.z,.z,.z],[(.bool,.z)],[.z,.z,.z]⟩]),(21,[⟨[.z,.z,.z],[(.bool,.z)],[.z,.z,.z]⟩]),(22,[⟨[.z],[(h18,oS)],[.z]⟩]),(23,[⟨[.z,.z,.z,.z],[(h12,oF),(h16,.own .z)],[.z,.z,.z,.z]⟩]),(24,[⟨[.z],[(h12,oF)],[.z]⟩]),(25,[⟨[.z],[(h18,oS)],[.z]⟩]),(26,[⟨[.z],[(.bool,.z)],[.z]⟩]),(27,[⟨[.z,.z],[(.bool,.z)],[.z,.z]⟩]),(28,[⟨[.z,.z,.z],[(.bool,.z)],[.z,.z,.z]⟩]),(29,[⟨[.z,.z,.z],[(.bool,.z)],[.z,.z,.z]⟩]),(30,[⟨[.z,.z,.z,.z],[(h18,.z),(.bool,.z)],[.z,.z,.z,.z]⟩]),(31,[⟨[.z,.z],[(.bool,.z)],[.z,.z]⟩]),(32,[⟨[.z,.z],[(.int .i64,.z)],[.z,.z]⟩]),(33,[⟨[.own .z,.z],[(.int .i64,.z)],[.own .z,.z]⟩]),(34,[⟨[.z],[(.str,.z)],[.z]⟩]),(35,[⟨[.z,.z],[(.str,.z)],[.z,.z]⟩]),(36,[⟨[.z],[(.int .i64,.z),(.bool,.z)],[.z]⟩]),(37,[⟨[.z],[(.str,.z)],[.z]⟩]),(38,[⟨[.z],[(.str,.z)],[.z]⟩]),(39,[⟨[.z],[(.str,.z)],[.z]⟩]),(40,[⟨[.z],[(.bool,.z)],[.z]⟩]),(41,[⟨[.z],[(.int .i64,.z)],[.z]⟩]),(42,[⟨[.z],[(.bool,.z)],[.z]⟩]),(43,[⟨[.z,.z],[(.bool,.z)],[.z,.z]⟩]),(44,[⟨[.z,.z],[(.bool,.z)],[.z,.z]⟩]),(45,[⟨[.z,.z],[(.bool,.z)],[.z,.z]⟩]),(46,[⟨[oF],[(.sl 3 (.int .i64),.z)],[oF]⟩,⟨[.z],[(.sl 3 (.int .i64),.z)],[.z]⟩]),(47,[⟨[.z,.z],[(.bool,.z)],[.z,.z]⟩]),(48,[⟨[.z],[(.ptr h26,.own .z)],[.z]⟩]),(49,[⟨[.z],[(h18,oS),(.bool,.z)],[.z]⟩]),(50,[⟨[.own .z,.z],[(h14,oI)],[.own .z,.z]⟩]),(51,[⟨[.own .z],[(h25,.own .z)],[.own .z]⟩]),(52,[⟨[.z,.z],[(.sl 32 (.sl 3 (.int .i64)),.own .z)],[.z,.z]⟩]),(53,[⟨[.own .z],[(h14,.pr .z (.pr oF .z))],[.own .z]⟩]),(54,[⟨[.own .z],[(h25,oE)],[.own .z]⟩]),(55,[⟨[],[(.int .i64,.z)],[]⟩]),(56,[⟨[.own .z],[(.int .i64,.z)],[.own .z]⟩]),(57,[⟨[.own .z,.z],[(.bool,.z)],[.own .z,.z]⟩]),(58,[⟨[.own .z,.z],[(.int .i64,.z)],[.own .z,.z]⟩]),(59,[⟨[.z,.z],[(.bool,.z)],[.z,.z]⟩]),(60,[⟨[.z,.z],[(.bool,.z)],[.z,.z]⟩]),(61,[⟨[.z],[(.bool,.z)],[.z]⟩]),(62,[⟨[.z,.z],[(.bool,.z)],[.z,.z]⟩]),(63,[⟨[.z],[(.sl 3 (.int .i64),.own .z)],[.z]⟩]),(64,[⟨[.z,.z],[(.bool,.z)],[.z,.z]⟩]),(65,[⟨[.z,.z],[(h11,.pr .z (.pr (.own .z) .z)),(.bool,.z)],[.z,.z]⟩]),(66,[⟨[.z],[(h14,oI)],[.z]⟩]),(67,[⟨[.z],[(h15,.pr .z (.pr .z (.pr (.own .z) .z)))],[.z]⟩]),(68,[⟨[.z],[(.sl 3 (.int .i64),.own .z)],[.z]⟩]),(69,[⟨[.z],[(.sl 3 (.int .i64),.own .z)],[.z]⟩]),(70,[⟨[.z],[(h16,.own .z)],[.z]⟩]),(71,[⟨[.z],[(.sl 3 (.int .i64),.own .z)],[.z]⟩]),(72,[⟨[.z,.z],[(.int .i64,.z)],[.z,.z]⟩]),(73,[⟨[.z],[(.int .i64,.z)],[.z]⟩]),(74,[⟨[.z],[(h12,oF)],[.z]⟩]),(75,[⟨[oF,.z],[],[oF,.z]⟩]),(76,[⟨[.z,.z],[(.int .i64,.z)],[.z,.z]⟩]),(77,[⟨[oF,.z],[(h12,oF)],[.dead,.z]⟩]),(78,[⟨[.z,.z],[(.bool,.z)],[.z,.z]⟩]),(79,[⟨[.z],[(h14,oI)],[.z]⟩]),(80,[⟨[.z],[(.bool,.z)],[.z]⟩]),(81,[⟨[.z,.z],[(.int .i64,.z)],[.z,.z]⟩]),(82,[⟨[.z],[(.sl 3 (.int .i64),.z)],[.z]⟩]),(83,[⟨[.z],[(.bool,.z)],[.z]⟩]),(84,[⟨[.z,.z],[(.bool,.z)],[.z,.z]⟩]),(85,[⟨[.z,.z],[(.bool,.z)],[.z,.z]⟩]),(86,[⟨[.z,.z],[(h11,.pr .z (.pr (.own .z) .z)),(.bool,.z)],[.z,.z]⟩]),(87,[⟨[.z,.z],[(.int .i64,.z)],[.z,.z]⟩]),(88,[⟨[.z],[(.sl 3 (.int .i64),.own .z)],[.z]⟩]),(89,[⟨[.z,.z],[(h18,.z),(.int .i64,.z),(.bool,.z)],[.z,.z]⟩]),(90,[⟨[.z,.z],[(h14,.z)],[.z,.z]⟩]),(91,[⟨[.z],[(.int .i64,.z)],[.z]⟩]),(92,[⟨[.z],[(.bool,.z)],[.z]⟩]),(93,[⟨[.z],[(.bool,.z)],[.z]⟩]),(94,[⟨[.z],[(.str,.z)],[.z]⟩]),(95,[⟨[.z],[(.int .i64,.z),(.bool,.z)],[.z]⟩]),(96,[⟨[.z],[(.str,.z)],[.z]⟩]),(97,[⟨[.z,.z],[(.str,.z)],[.z,.z]⟩]),(98,[⟨[.z],[(.bool,.z)],[.z]⟩]),(99,[⟨[.z,.z],[(.bool,.z)],[.z,.z]⟩]),(100,[⟨[.z],[(.sl 3 (.int .i64),.own .z)],[.z]⟩]),(101,[⟨[.z],[(.sl 3 (.int .i64),.own .z)],[.z]⟩]),(102,[⟨[.z,.z],[(.bool,.z)],[.z,.z]⟩]),(103,[⟨[.z,.z],[(.bool,.z)],[.z,.z]⟩]),(104,[⟨[.z],[(.sl 3 (.int .i64),.own .z)],[.z]⟩]),(105,[⟨[.z],[(.bool,.z)],[.z]⟩]),(106,[⟨[.z,.z],[(.int .i64,.z)],[.z,.z]⟩]),(107,[⟨[.z,.z],[(.bool,.z)],[.z,.z]⟩]),(108,[⟨[.z,.z],[(.sl 3 (.int .i64),.z)],[.z,.z]⟩]),(109,[⟨[.z],[(.bool,.z)],[.z]⟩]),(110,[⟨[],[(h9,.own .z)],[]⟩]),(111,[⟨[.own .z,.z,.z],[(h11,.pr .z (.pr (.own .z) .z))],[.own .z,.z,.z]⟩]),(112,[⟨[.own .z],[(h24,oD)],[.own .z]⟩]),(113,[⟨[.z,.z],[(.bool,.z)],[.z,.z]⟩]),(114,[⟨[.z,.z],[(.bool,.z)],[.z,.z]⟩]),(115,[⟨[.z,.z,.z,.z],[(.sl 32 (.sl 3 (.int .i64)),.own (.own .z))],[.z,.z,.z,.z]⟩]),(116,[⟨[.own .z,.z,.z],[(h14,oI)],[.own .z,.z,.z]⟩]),(117,[⟨[.own .z],[(h11,.pr .z (.pr (.own .z) .z))],[.own .z]⟩]),(118,[⟨[.own .z],[(h8,.z)],[.own .z]⟩]),(119,[⟨[.z,.z],[(.bool,.z)],[.z,.z]⟩]),(120,[⟨[.z,.z],[(.int .i64,.z)],[.z,.z]⟩]),(121,[⟨[.z,.z,.z],[(.bool,.z)],[.z,.z,.z]⟩]),(122,[⟨[.z,.z],[(.bool,.z)],[.z,.z]⟩]),(123,[⟨[.z,.z],[(.bool,.z)],[.z,.z]⟩]),(124,[⟨[.own .z],[],[.own .z]⟩]),(125,[⟨[.own .z],[(.sl 3 (.int .i64),.own .z)],[.dead]⟩]),(126,[⟨[.z,.z],[(.int .i64,.z)],[.z,.z]⟩]),(127,[⟨[.z],[(h9,.own .z)],[.z]⟩]),(128,[⟨[.z,.z],[(.sl 3 (.int .i64),.own .z)],[.z,.z]⟩]),(129,[⟨[.z,.z],[(.int .i64,.z)],[.z,.z]⟩]),(130,[⟨[.z,.z],[(.bool,.z)],[.z,.z]⟩]),(131,[⟨[.z,.z],[(.bool,.z)],[.z,.z]⟩]),(132,[⟨[.z],[(h11,.pr .z (.pr (.own .z) .z))],[.z]⟩]),(135,[⟨[.z],[(.int .i64,.z)],[.z]⟩]),(136,[⟨[.z,.z],[(.int .i64,.z)],[.z,.z]⟩]),(137,[⟨[.z,.z],[(.int .i64,.z)],[.z,.z]⟩]),(138,[⟨[.z],[(h11,.pr .z (.pr (.own .z) .z))],[.z]⟩]),(139,[⟨[.z],[(.sl 3 (.int .i64),.z)],[.z]⟩]),(140,[⟨[.z,.z],[(.bool,.z)],[.z,.z]⟩]),(141,[⟨[.z],[(.bool,.z)],[.z]⟩]),(142,[⟨[.z,.z],[(.bool,.z)],[.z,.z]⟩]),(143,[⟨[.z,.z],[(.int .i64,.z)],[.z,.z]⟩]),(144,[⟨[.z],[(.str,.z)],[.z]⟩]),(148,[⟨[.z],[(.bool,.z)],[.z]⟩]),(149,[⟨[.z],[(.bool,.z)],[.z]⟩]),(150,[⟨[.z],[(.sl 3 (.int .i64),.own .z)],[.z]⟩]),(151,[⟨[.z,.z],[(.bool,.z)],[.z,.z]⟩]),(152,[⟨[.z,.z],[(.int .i64,.z)],[.z,.z]⟩]),(153,[⟨[.own .z],[(h24,oD)],[.own .z]⟩]),(154,[⟨[.own .z,.z,.z],[(h11,.pr .z (.pr (.own .z) .z))],[.own .z,.z,.z]⟩]),(155,[⟨[.z,.z],[(h27,.z),(.bool,.z)],[.z,.z]⟩]),(156,[⟨[.z,.z,.z],[(.sl 3 (.int .i64),.own .z),(.bool,.z)],[.z,.z,.z]⟩]),(157,[⟨[.own .z,.z],[(.str,.z)],[.own .z,.z]⟩]),(158,[⟨[.z,.z],[(.bool,.z)],[.z,.z]⟩]),(159,[⟨[.z,.z],[(.bool,.z)],[.z,.z]⟩]),(160,[⟨[.z,.z],[(.int .i64,.z)],[.z,.z]⟩]),(172,[⟨[.z],[(.bool,.z)],[.z]⟩]),(173,[⟨[.z],[(.bool,.z)],[.z]⟩]),(177,[⟨[.z,.z],[(h28,.own .z)],[.z,.z]⟩]),(178,[⟨[.z,.z,.z,.z],[(.bool,.z)],[.z,.z,.z,.z]⟩]),(179,[⟨[.z],[(.int .i64,.z)],[.z]⟩]),(180,[⟨[.z],[(.bool,.z)],[.z]⟩]),(198,[⟨[.z,.z,.z],[(.sl 3 (.int .i64),.own .z)],[.z,.z,.z]⟩]),(199,[⟨[.own .z,.z],[(h28,.own .z)],[.dead,.z]⟩]),(208,[⟨[.z,.z,.z],[(.int .i64,.z)],[.z,.z,.z]⟩])]
def z0fb:List (Nat×List (Option Sh)):=[(3,[some (.sl 5 (.int .u8))]),(4,[some (.sl 5 (.int .u8))]),(5,[some (.sl 5 (.int .u8))]),(6,[some (h18),some (h25),some (.int .i64),some (.sl 3 (.int .i64))]),(7,[some (h18),some (h25),some (.int .i64),some (.sl 3 (.int .i64))]),(8,[some (h14),some (h14)]),(9,[some (.sl 5 (.int .u8))]),(10,[some (h18),some (h25),some (.int .i64)]),(11,[some (h18),some (h25),some (.int .i64)]),(12,[some (h18)]),(13,[some (h14),some (h14)]),(14,[some (h24)]),(15,[some (.sl 5 (.int .u8))]),(16,[]),(17,[some (.ptr h26),some (.int .i64)]),(18,[some (.ptr h26),some (h14),some (h19)]),(19,[some (h9),some (h25)]),(20,[some (.int .i64),some (.int .i64),some (.int .i64)]),(21,[some (h14),some (h24),some (.sl 3 (.int .i64))]),(22,[some (h18)]),(23,[some (h16),some (h25),some (.int .i64),some (.sl 3 (.int .i64))]),(24,[some (h12)]),(25,[some (h18)]),(26,[some (h18)]),(27,[some (h9),some (h25)]),(28,[some (.int .i64),some (.int .i64),some (.int .i64)]),(29,[some (h14),some (h24),some (.sl 3 (.int .i64))]),(30,[some (h18),some (h25),some (.int .i64),some (.sl 3 (.int .i64))]),(31,[some (h9),some (h9)]),(32,[some (h11),some (h11)]),(33,[some (.ptr h26),some (.int .i64)]),(34,[some (.int .i64)]),(35,[some (h18),some (.sl 3 (.int .i64))]),(36,[some (.int .i64)]),(37,[some (.int .i64)]),(38,[some (.int .i64)]),(39,[some (.int .i64)]),(40,[some (h14)]),(41,[some (h14)]),(42,[some (h16)]),(43,[some (h12),none]),(44,[some (h11)]),(45,[some (h12),some (h11)]),(46,[some (h19)]),(47,[some (.sl 3 (.int .i64)),some (.int .i64)]),(48,[some (.sl 5 (.int .u8))]),(49,[some (h14)]),(50,[some (.ptr h26),some (.int .i64)]),(51,[some (.ptr h26)]),(52,[some (h14),some (h19)]),(53,[some (.ptr h26)]),(54,[some (.ptr h26)]),(55,[]),(56,[some (.ptr h26)]),(57,[some (.ptr h26),some (.int .i64)]),(58,[some (.ptr h26),some (.sl 3 (.int .i64))]),(59,[some (h9),some (h25)]),(60,[some (h25),none]),(61,[some (h24)]),(62,[some (h9),some (h24)]),(63,[some (h19)]),(64,[some (.sl 3 (.int .i64)),some (.int .i64)]),(65,[some (h11),some (.sl 3 (.int .i64))]),(66,[some (h14)]),(67,[some (h15)]),(68,[some (.sl 3 (.int .i64))]),(69,[some (h24)]),(70,[some (h16)]),(71,[some (h24)]),(72,[some (h16),some (h15)]),(73,[some (.int .i64)]),(74,[some (h12)]),(75,[some (h12),none]),(76,[some (h11),some (h11)]),(77,[some (h12),none]),(78,[some (h11),some (h11)]),(79,[some (h14)]),(80,[some (.int .i64)]),(81,[some (.sl 3 (.int .i64)),some (.sl 3 (.int .i64))]),(82,[some (h14)]),(83,[some (h14)]),(84,[some (h9),some (h25)]),(85,[some (h9),some (h24)]),(86,[some (h11),some (.sl 3 (.int .i64))]),(87,[some (h14),some (h11)]),(88,[some (h24)]),(89,[some (h18),some (h15)]),(90,[some (h14),some (h11)]),(91,[some (.int .i64)]),(92,[some (.int .i64)]),(93,[some (.int .i64)]),(94,[some (.int .i64)]),(95,[some (.int .i64)]),(96,[some (.int .i64)]),(97,[some (.sl 9 .str),some (.str)]),(98,[some (h9)]),(99,[some (h9),some (h11)]),(100,[some (h11)]),(101,[some (h14)]),(102,[some (h15),some (.int .i64)]),(103,[some (.sl 3 (.int .i64)),none]),(104,[some (h16)]),(105,[some (.int .i64)]),(106,[some (h12),none]),(107,[some (h11)]),(108,[some (.sl 3 (.int .i64)),some (.int .i64)]),(109,[some (h14)]),(110,[]),(111,[some (.ptr h26),some (.int .i64),some (.int .i64)]),(112,[some (.ptr h26)]),(113,[some (h9),some (h25)]),(114,[some (h14),some (h19)]),(115,[some (h14),some (h19),some (.int .i64),some (.sl 3 (.int .i64))]),(116,[some (.ptr h26),some (.int .i64),some (.int .i64)]),(117,[some (.ptr h26)]),(118,[some (.ptr h26)]),(119,[some (h24)]),(120,[some (h25),none]),(121,[some (h9),some (h19),some (.int .i64)]),(122,[some (h19),none]),(123,[some (h11)]),(124,[some (.sl 3 (.int .i64))]),(125,[some (.sl 3 (.int .i64))]),(126,[some (.sl 3 (.int .i64)),some (.int .i64)]),(127,[some (h9)]),(128,[some (h24),some (.bool)]),(129,[some (h16),none]),(130,[some (h15)]),(131,[some (.sl 3 (.int .i64)),some (.sl 3 (.int .i64))]),(132,[some (h11)]),(135,[some (.sl 3 (.int .i64))]),(136,[some (.int .i64),some (.int .i64)]),(137,[some (.sl 3 (.int .i64)),some (.sl 3 (.int .i64))]),(138,[some (h11)]),(139,[some (h11)]),(140,[some (h9),some (h11)]),(141,[some (h9)]),(142,[some (h9),some (h11)]),(143,[some (h18),some (h15)]),(144,[some (.int .i64)]),(148,[some (h8)]),(149,[some (.int .i64)]),(150,[some (.sl 3 (.int .i64))]),(151,[some (.int .i64)]),(152,[some (.sl 3 (.int .i64)),none]),(153,[some (.ptr h26)]),(154,[some (.ptr h26),some (.int .i64),some (.int .i64)]),(155,[some (h9),some (h25)]),(156,[some (h11),some (h11),some (.sl 3 (.int .i64))]),(157,[some (.ptr h26),some (.sl 9 .str)]),(158,[some (h11)]),(159,[some (h9),some (h11)]),(160,[some (h19),none]),(172,[some (.int .i64)]),(173,[some (h8)]),(177,[some (h9),some (h25)]),(178,[some (.int .i64),some (h28),some (.int .i64),some (.int .i64)]),(179,[some (h9)]),(180,[some (.int .i64)]),(198,[some (h9),some (h19),some (.int .i64)]),(199,[some (h28),some (h27)]),(208,[some (h9),some (.int .i64),some (.int .i64)])]
noncomputable def E:Env:={ sh:=fun t=>look t z0g1,sigs:=fun f=>(look f z0ep).getD [],params:=fun f=>(look f z0fb).getD [],gives:=z15 prog }
theorem zhw:∀ t s,E.sh t=some s->ShOk prog s none t:=z0bj (by kernel_rfl)
theorem mixed:prog.follows .mixedOrders=true:=by kernel_rfl
abbrev nL:Nat->Option Loop:=fun i=>look i []
abbrev nP:Nat->Option Pl:=fun i=>look i []
theorem fg {L : Nat -> Option Loop} {pl : Nat -> Option Pl} {f : FuncId} {fn : Func} {g : Sig} {us : List OV} {m : List (Sh × O)} {val : resD (outD m) g.res} {Q : Prop} (hf : prog.funcs[f]? = some fn) (h : Q) (hn : (fn.name == "runtime.NumGoroutine") = false := by kernel_rfl) (ho : g.outs = m.map (·.2) := by rfl) (hu : zj9 us m = true := by rfl) (e : fnV E L pl fn g us (ansK g.res m fun r => r = val) = Q := by kernel_rfl) : z15 prog f us (encR g.res val).1 (encO us m (encR g.res val).2) := zod zhw (fun _ _ _ _ h => h) mixed hf hn rfl ho hu (Eq.mpr e h)
theorem fz {L : Nat -> Option Loop} {pl : Nat -> Option Pl} {f : FuncId} {fn : Func} {us : List OV} {l m : List (Sh × O)} {val : resD (outD m) l} {Q : Prop} (hf : prog.funcs[f]? = some fn) (h : Q) (hn : (fn.name == "runtime.NumGoroutine") = false := by kernel_rfl) (hu : zj9 us m = true := by rfl) (e : fnV E L pl fn ⟨m.map (·.2), l, m.map (·.2)⟩ us (ansK l m fun r => r = val) = Q := by kernel_rfl) : z15 prog f us (encR l val).1 (encO us m (encR l val).2) := zod zhw (fun _ _ _ _ h => h) mixed hf hn rfl rfl hu (Eq.mpr e h)
theorem fy {f : FuncId} {fn : Func} {us : List OV} {l m : List (Sh × O)} {val : resD (outD m) l} {Q : Prop} (hf : prog.funcs[f]? = some fn) (h : Q) (hn : (fn.name == "runtime.NumGoroutine") = false := by kernel_rfl) (hu : zj9 us m = true := by rfl) (e : fnV E nL nP fn ⟨m.map (·.2), l, m.map (·.2)⟩ us (ansK l m fun r => r = val) = Q := by kernel_rfl) : z15 prog f us (encR l val).1 (encO us m (encR l val).2) := zod zhw (fun _ _ _ _ h => h) mixed hf hn rfl rfl hu (Eq.mpr e h)
def z52:List (Nat×Sh):=[(3,.int .i64),(4,.bool),(25,h34),(62,h33)]
def z4o:List (Nat×List Sig):=[(77,[⟨[.own .z,.z],[(h34,.own .z)],[.dead,.z]⟩]),(78,[⟨[.z,.z],[(.bool,.z)],[.z,.z]⟩])]
def z4r:List (Nat×List (Option Sh)):=[(77,[some (h34),none]),(78,[some (h33),some (h33)])]
noncomputable def E_slices_CompactFunc_Fact_tok_c_isameFact:Env:={ sh:=fun t=>look t z52,sigs:=fun f=>(look f z4o).getD [],params:=fun f=>(look f z4r).getD [],gives:=z15 prog }
theorem z5e:∀ t s,E_slices_CompactFunc_Fact_tok_c_isameFact.sh t=some s->ShOk prog s none t:=z0bj (by kernel_rfl)
theorem z5x {L : Nat -> Option Loop} {pl : Nat -> Option Pl} {f : FuncId} {fn : Func} {g : Sig} {us : List OV} {m : List (Sh × O)} {val : resD (outD m) g.res} {Q : Prop} (hf : prog.funcs[f]? = some fn) (h : Q) (hn : (fn.name == "runtime.NumGoroutine") = false := by kernel_rfl) (ho : g.outs = m.map (·.2) := by rfl) (hu : zj9 us m = true := by rfl) (e : fnV E_slices_CompactFunc_Fact_tok_c_isameFact L pl fn g us (ansK g.res m fun r => r = val) = Q := by kernel_rfl) : z15 prog f us (encR g.res val).1 (encO us m (encR g.res val).2) := zod z5e (fun _ _ _ _ h => h) mixed hf hn rfl ho hu (Eq.mpr e h)
def zgx (x0:List Int) (y0:Bool):Prop:=gZ 3 [⟨.sl 5 (.int .u8),.z,x0⟩] [⟨.bool,.z,y0⟩]
def z2r (x0:z0k) (y0:List Int):Prop:=gZ 14 [⟨h24,.z,x0⟩] [⟨.sl 3 (.int .i64),.own .z,y0⟩]
def zfc (x0:List Int) (x1:Int) (y0:Bool):Prop:=gZ 47 [⟨.sl 3 (.int .i64),.z,x0⟩,⟨.int .i64,.z,x1⟩] [⟨.bool,.z,y0⟩]
def z5g (x0:List z00) (y0:List Int):Prop:=gZ 46 [⟨h19,.z,x0⟩] [⟨.sl 3 (.int .i64),.z,y0⟩]
def zi7 (x0:List Int) (x1:Int) (y0:List Int):Prop:=gZ 108 [⟨.sl 3 (.int .i64),.z,x0⟩,⟨.int .i64,.z,x1⟩] [⟨.sl 3 (.int .i64),.z,y0⟩]
def zjs (x0:z0c) (x1:z0c) (y0:Bool):Prop:=gZ 13 [⟨h14,.z,x0⟩,⟨h14,.z,x1⟩] [⟨.bool,.z,y0⟩]
def z1q (x0:List z00) (x1:z0c×Unit) (y0:Bool):Prop:=gZ 43 [⟨h12,.z,x0⟩,⟨.fn 44 h29,.z,x1⟩] [⟨.bool,.z,y0⟩]
def z24 (x0:List z00) (x1:z0c×Unit) (y0:Int):Prop:=gZ 106 [⟨h12,.z,x0⟩,⟨.fn 44 h29,.z,x1⟩] [⟨.int .i64,.z,y0⟩]
def z7h (x0:z00) (x1:z0c) (y0:Bool):Prop:=gZ 44 [⟨h11,.z,x0⟩,⟨.ptr h14,.z,x1⟩] [⟨.bool,.z,y0⟩]
def zi0 (x0:List z00) (x1:z00) (y0:Bool):Prop:=gZ 45 [⟨h12,.z,x0⟩,⟨h11,.z,x1⟩] [⟨.bool,.z,y0⟩]
def z1t (x0:List z00) (x1:z00×Unit) (y0:Bool):Prop:=gZ 43 [⟨h12,.z,x0⟩,⟨.fn 107 h30,.z,x1⟩] [⟨.bool,.z,y0⟩]
def z2c (x0:List z00) (x1:z00×Unit) (y0:Int):Prop:=gZ 106 [⟨h12,.z,x0⟩,⟨.fn 107 h30,.z,x1⟩] [⟨.int .i64,.z,y0⟩]
def zan (x0:z00) (x1:z00) (y0:Bool):Prop:=gZ 107 [⟨h11,.z,x0⟩,⟨.ptr h11,.z,x1⟩] [⟨.bool,.z,y0⟩]
def zfu (x0:z00) (x1:z00) (y0:Bool):Prop:=gZ 78 [⟨h11,.z,x0⟩,⟨h11,.z,x1⟩] [⟨.bool,.z,y0⟩]
def z6w (x0:z00) (x1:z00) (y0:Int):Prop:=gZ 76 [⟨h11,.z,x0⟩,⟨h11,.z,x1⟩] [⟨.int .i64,.z,y0⟩]
def zhn (x0:List Int) (y0:Int):Prop:=gZ 135 [⟨.sl 3 (.int .i64),.z,x0⟩] [⟨.int .i64,.z,y0⟩]
def z7u (x0:List Int) (x1:List Int) (y0:Int):Prop:=gZ 137 [⟨.sl 3 (.int .i64),.z,x0⟩,⟨.sl 3 (.int .i64),.z,x1⟩] [⟨.int .i64,.z,y0⟩]
def z7m (x0:Int) (x1:Int) (y0:Int):Prop:=gZ 136 [⟨.int .i64,.z,x0⟩,⟨.int .i64,.z,x1⟩] [⟨.int .i64,.z,y0⟩]
def z91 (x0:Int) (y0:Bool):Prop:=gZ 172 [⟨.int .i64,.z,x0⟩] [⟨.bool,.z,y0⟩]
def z2j (x0:TSk) (y0:Bool):Prop:=gZ 12 [⟨h18,.z,x0⟩] [⟨.bool,.z,y0⟩]
def zk5 (x0:List z09) (y0:Bool):Prop:=gZ 42 [⟨h16,.z,x0⟩] [⟨.bool,.z,y0⟩]
def z1v (x0:List Int) (x1:Unit) (y0:Bool):Prop:=gZ 103 [⟨.sl 3 (.int .i64),.z,x0⟩,⟨.fn 105 .unit,.z,x1⟩] [⟨.bool,.z,y0⟩]
def z2a (x0:List Int) (x1:Unit) (y0:Int):Prop:=gZ 152 [⟨.sl 3 (.int .i64),.z,x0⟩,⟨.fn 105 .unit,.z,x1⟩] [⟨.int .i64,.z,y0⟩]
def z7k (x0:Int) (y0:Bool):Prop:=gZ 105 [⟨.int .i64,.z,x0⟩] [⟨.bool,.z,y0⟩]
def zq9 (x0:List z09) (y0:List Int):Prop:=gZ 104 [⟨h16,.z,x0⟩] [⟨.sl 3 (.int .i64),.own .z,y0⟩]
def zel (x0:List Int) (y0:List Int):Prop:=gZ 150 [⟨.sl 3 (.int .i64),.z,x0⟩] [⟨.sl 3 (.int .i64),.own .z,y0⟩]
def z3i (x0:List Int) (y0:List Int):Prop:=z15 prog 125 [⟨.sl 3 (.int .i64),.own .z,x0⟩] [⟨.sl 3 (.int .i64),.own .z,y0⟩] [⟨.sl 3 (.int .i64),.dead,x0⟩]
def z4c (x0:List Int) (z0:List Int):Prop:=z15 prog 124 [⟨.sl 3 (.int .i64),.own .z,x0⟩] [] [⟨.sl 3 (.int .i64),.own .z,z0⟩]
def z5j (x0:Int) (y0:Int) (y1:Bool):Prop:=gZ 95 [⟨.int .i64,.z,x0⟩] [⟨.int .i64,.z,y0⟩,⟨.bool,.z,y1⟩]
def z4f (x0:Int) (x1:Int) (x2:Int) (y0:Bool):Prop:=gZ 20 [⟨.int .i64,.z,x0⟩,⟨.int .i64,.z,x1⟩,⟨.int .i64,.z,x2⟩] [⟨.bool,.z,y0⟩]
def zlg (x0:List z09) (x1:z09) (y0:Int):Prop:=gZ 72 [⟨h16,.z,x0⟩,⟨h15,.z,x1⟩] [⟨.int .i64,.z,y0⟩]
def z1n (x0:List z09) (x1:z09×Unit) (y0:Int):Prop:=gZ 129 [⟨h16,.z,x0⟩,⟨.fn 130 h31,.z,x1⟩] [⟨.int .i64,.z,y0⟩]
def zcn (x0:z09) (x1:z09) (y0:Bool):Prop:=gZ 130 [⟨h15,.z,x0⟩,⟨.ptr h15,.z,x1⟩] [⟨.bool,.z,y0⟩]
def z9c (x0:List Int) (x1:List Int) (y0:Bool):Prop:=gZ 131 [⟨.sl 3 (.int .i64),.z,x0⟩,⟨.sl 3 (.int .i64),.z,x1⟩] [⟨.bool,.z,y0⟩]
def zkf (x0:z09) (x1:Int) (y0:Bool):Prop:=gZ 102 [⟨h15,.z,x0⟩,⟨.int .i64,.z,x1⟩] [⟨.bool,.z,y0⟩]
def z1u (x0:List Int) (x1:Int×Unit) (y0:Bool):Prop:=gZ 103 [⟨.sl 3 (.int .i64),.z,x0⟩,⟨.fn 151 h32,.z,x1⟩] [⟨.bool,.z,y0⟩]
def z2b (x0:List Int) (x1:Int×Unit) (y0:Int):Prop:=gZ 152 [⟨.sl 3 (.int .i64),.z,x0⟩,⟨.fn 151 h32,.z,x1⟩] [⟨.int .i64,.z,y0⟩]
def z7i (x0:Int) (x1:Int) (y0:Bool):Prop:=gZ 151 [⟨.int .i64,.z,x0⟩,⟨.ptr (.int .i64),.z,x1⟩] [⟨.bool,.z,y0⟩]
def z41 (x0:Int) (y0:Bool):Prop:=gZ 92 [⟨.int .i64,.z,x0⟩] [⟨.bool,.z,y0⟩]
def zkd (x0:z0c) (y0:Int):Prop:=gZ 41 [⟨h14,.z,x0⟩] [⟨.int .i64,.z,y0⟩]
def z9d (x0:z0c) (y0:List Int):Prop:=gZ 101 [⟨h14,.z,x0⟩] [⟨.sl 3 (.int .i64),.own .z,y0⟩]
def z6b (x0:z0c) (y0:Bool):Prop:=gZ 40 [⟨h14,.z,x0⟩] [⟨.bool,.z,y0⟩]
def z84 (x0:z00) (y0:List Int):Prop:=gZ 100 [⟨h11,.z,x0⟩] [⟨.sl 3 (.int .i64),.own .z,y0⟩]
def zdy (x0:List z0o) (x1:z00) (y0:Bool):Prop:=gZ 99 [⟨h9,.z,x0⟩,⟨h11,.z,x1⟩] [⟨.bool,.z,y0⟩]
def z1i (x0:List Int) (x1:Unit) (y0:Bool):Prop:=gZ 103 [⟨.sl 3 (.int .i64),.z,x0⟩,⟨.fn 149 .unit,.z,x1⟩] [⟨.bool,.z,y0⟩]
def z1s (x0:List Int) (x1:Unit) (y0:Int):Prop:=gZ 152 [⟨.sl 3 (.int .i64),.z,x0⟩,⟨.fn 149 .unit,.z,x1⟩] [⟨.int .i64,.z,y0⟩]
def z47 (x0:Int) (y0:Bool):Prop:=gZ 149 [⟨.int .i64,.z,x0⟩] [⟨.bool,.z,y0⟩]
def z2u (x0:List z0o) (y0:Bool):Prop:=gZ 98 [⟨h9,.z,x0⟩] [⟨.bool,.z,y0⟩]
def z9f (x0:z0o) (y0:Bool):Prop:=gZ 148 [⟨h8,.z,x0⟩] [⟨.bool,.z,y0⟩]
def z57 (x0:z0c) (x1:z0c) (y0:Bool):Prop:=gZ 8 [⟨h14,.z,x0⟩,⟨h14,.z,x1⟩] [⟨.bool,.z,y0⟩]
def z3x (x0:z00) (x1:z00) (y0:Int):Prop:=gZ 32 [⟨h11,.z,x0⟩,⟨h11,.z,x1⟩] [⟨.int .i64,.z,y0⟩]
def zeq (x0:List Int) (x1:List Int) (y0:Int):Prop:=gZ 81 [⟨.sl 3 (.int .i64),.z,x0⟩,⟨.sl 3 (.int .i64),.z,x1⟩] [⟨.int .i64,.z,y0⟩]
def zpp (x0:List z0o) (x1:List z0o) (y0:Bool):Prop:=gZ 31 [⟨h9,.z,x0⟩,⟨h9,.z,x1⟩] [⟨.bool,.z,y0⟩]
def z81 (x0:TSk) (x1:List z0k) (x2:Int) (x3:List Int) (y0:TSk) (y1:Bool):Prop:=gZ 6 [⟨h18,.z,x0⟩,⟨h25,.z,x1⟩,⟨.int .i64,.z,x2⟩,⟨.sl 3 (.int .i64),.z,x3⟩] [⟨h18,oS,y0⟩,⟨.bool,.z,y1⟩]
def z3f (x0:TSk) (y0:TSk):Prop:=gZ 22 [⟨h18,.z,x0⟩] [⟨h18,oS,y0⟩]
def zju (x0:z09) (y0:z09):Prop:=gZ 67 [⟨h15,.z,x0⟩] [⟨h15,.pr .z (.pr .z (.pr (.own .z) .z)),y0⟩]
def z3k (x0:List Int) (y0:List Int):Prop:=gZ 68 [⟨.sl 3 (.int .i64),.z,x0⟩] [⟨.sl 3 (.int .i64),.own .z,y0⟩]
def zck (x0:z0c) (y0:z0c):Prop:=gZ 66 [⟨h14,.z,x0⟩] [⟨h14,oI,y0⟩]
def zcz (x0:List z00) (y0:List z00):Prop:=gZ 74 [⟨h12,.z,x0⟩] [⟨h12,oF,y0⟩]
def zjp (x0:z00) (y0:z00):Prop:=gZ 132 [⟨h11,.z,x0⟩] [⟨h11,.pr .z (.pr (.own .z) .z),y0⟩]
def z5t (x0:List z0o) (y0:List z0o):Prop:=gZ 127 [⟨h9,.z,x0⟩] [⟨h9,.own .z,y0⟩]
def zk4 (x0:List z00) (y0:List z00):Prop:=gZ 24 [⟨h12,.z,x0⟩] [⟨h12,oF,y0⟩]
def z1c (x0:List z00) (x1:Unit) (y0:List z00):Prop:=z15 prog 77 [⟨h12,oF,x0⟩,⟨.fn 78 .unit,.z,x1⟩] [⟨h12,oF,y0⟩] [⟨h12,.dead,x0⟩,⟨.fn 78 .unit,.z,x1⟩]
def z1p (x0:List (zm1 z00)) (x1:Unit) (y0:List (zm1 z00)):Prop:=z15 prog 77 [⟨h34,.own .z,x0⟩,⟨.fn 78 .unit,.z,x1⟩] [⟨h34,.own .z,y0⟩] [⟨h34,.dead,x0⟩,⟨.fn 78 .unit,.z,x1⟩]
def zcd (x0:zm1 z00) (x1:zm1 z00) (y0:Bool):Prop:=gZ 78 [⟨h33,.z,x0⟩,⟨h33,.z,x1⟩] [⟨.bool,.z,y0⟩]
def z17 (x0:List z00) (x1:Unit) (z0:List z00):Prop:=z15 prog 75 [⟨h12,oF,x0⟩,⟨.fn 76 .unit,.z,x1⟩] [] [⟨h12,oF,z0⟩,⟨.fn 76 .unit,.z,x1⟩]
def zhm (x0:List z09) (x1:List z0k) (x2:Int) (x3:List Int) (y0:List z00) (y1:List z09):Prop:=gZ 23 [⟨h16,.z,x0⟩,⟨h25,.z,x1⟩,⟨.int .i64,.z,x2⟩,⟨.sl 3 (.int .i64),.z,x3⟩] [⟨h12,oF,y0⟩,⟨h16,.own .z,y1⟩]
def zae (x0:z00) (x1:List Int) (y0:z00) (y1:Bool):Prop:=gZ 65 [⟨h11,.z,x0⟩,⟨.sl 3 (.int .i64),.z,x1⟩] [⟨h11,.pr .z (.pr (.own .z) .z),y0⟩,⟨.bool,.z,y1⟩]
def zdi (x0:Int) (y0:Int):Prop:=gZ 73 [⟨.int .i64,.z,x0⟩] [⟨.int .i64,.z,y0⟩]
def z5s (x0:z0k) (y0:List Int):Prop:=gZ 71 [⟨h24,.z,x0⟩] [⟨.sl 3 (.int .i64),.own .z,y0⟩]
def z8l (x0:z0k) (x1:Bool) (y0:List Int):Prop:=gZ 128 [⟨h24,.z,x0⟩,⟨.bool,.z,x1⟩] [⟨.sl 3 (.int .i64),.own .z,y0⟩]
def z2i (x0:List Int) (x1:Int) (y0:Bool):Prop:=gZ 64 [⟨.sl 3 (.int .i64),.z,x0⟩,⟨.int .i64,.z,x1⟩] [⟨.bool,.z,y0⟩]
def z8y (x0:List Int) (x1:Int) (y0:Int):Prop:=gZ 126 [⟨.sl 3 (.int .i64),.z,x0⟩,⟨.int .i64,.z,x1⟩] [⟨.int .i64,.z,y0⟩]
def z8q (x0:List z00) (y0:List Int):Prop:=gZ 63 [⟨h19,.z,x0⟩] [⟨.sl 3 (.int .i64),.own .z,y0⟩]
def z4k (x0:List z09) (y0:List z09):Prop:=gZ 70 [⟨h16,.z,x0⟩] [⟨h16,.own .z,y0⟩]
def z7w (x0:z0k) (y0:List Int):Prop:=gZ 69 [⟨h24,.z,x0⟩] [⟨.sl 3 (.int .i64),.own .z,y0⟩]
def zh2 (x0:z0c) (x1:z0k) (x2:List Int) (y0:Bool):Prop:=gZ 21 [⟨h14,.z,x0⟩,⟨h24,.z,x1⟩,⟨.sl 3 (.int .i64),.z,x2⟩] [⟨.bool,.z,y0⟩]
def z4u (x0:List z0o) (x1:z0k) (y0:Bool):Prop:=gZ 62 [⟨h9,.z,x0⟩,⟨h24,.z,x1⟩] [⟨.bool,.z,y0⟩]
def z0z (x0:List z00) (x1:List z0o×Unit) (y0:Bool):Prop:=gZ 122 [⟨h19,.z,x0⟩,⟨.fn 123 h35,.z,x1⟩] [⟨.bool,.z,y0⟩]
def z19 (x0:List z00) (x1:List z0o×Unit) (y0:Int):Prop:=gZ 160 [⟨h19,.z,x0⟩,⟨.fn 123 h35,.z,x1⟩] [⟨.int .i64,.z,y0⟩]
def z29 (x0:z00) (x1:List z0o) (y0:Bool):Prop:=gZ 123 [⟨h11,.z,x0⟩,⟨.ptr h9,.z,x1⟩] [⟨.bool,.z,y0⟩]
def zez (x0:List z0o) (x1:List z00) (x2:Int) (y0:Bool):Prop:=gZ 121 [⟨h9,.z,x0⟩,⟨h19,.z,x1⟩,⟨.int .i64,.z,x2⟩] [⟨.bool,.z,y0⟩]
def z1r (x0:List z00) (x1:List z0o×Unit) (y0:Bool):Prop:=gZ 122 [⟨h19,.z,x0⟩,⟨.fn 158 h35,.z,x1⟩] [⟨.bool,.z,y0⟩]
def z26 (x0:List z00) (x1:List z0o×Unit) (y0:Int):Prop:=gZ 160 [⟨h19,.z,x0⟩,⟨.fn 158 h35,.z,x1⟩] [⟨.int .i64,.z,y0⟩]
def z7j (x0:z00) (x1:List z0o) (y0:Bool):Prop:=gZ 158 [⟨h11,.z,x0⟩,⟨.ptr h9,.z,x1⟩] [⟨.bool,.z,y0⟩]
def ze0 (x0:List z0o) (x1:z00) (y0:Bool):Prop:=gZ 159 [⟨h9,.z,x0⟩,⟨h11,.z,x1⟩] [⟨.bool,.z,y0⟩]
def z1h (x0:List Int) (x1:Unit) (y0:Bool):Prop:=gZ 103 [⟨.sl 3 (.int .i64),.z,x0⟩,⟨.fn 180 .unit,.z,x1⟩] [⟨.bool,.z,y0⟩]
def z1w (x0:List Int) (x1:Unit) (y0:Int):Prop:=gZ 152 [⟨.sl 3 (.int .i64),.z,x0⟩,⟨.fn 180 .unit,.z,x1⟩] [⟨.int .i64,.z,y0⟩]
def z48 (x0:Int) (y0:Bool):Prop:=gZ 180 [⟨.int .i64,.z,x0⟩] [⟨.bool,.z,y0⟩]
def zkb (x0:List z0o) (x1:List z0k) (y0:Bool):Prop:=gZ 19 [⟨h9,.z,x0⟩,⟨h25,.z,x1⟩] [⟨.bool,.z,y0⟩]
def z1b (x0:List z0k) (x1:Unit) (y0:Bool):Prop:=gZ 60 [⟨h25,.z,x0⟩,⟨.fn 61 .unit,.z,x1⟩] [⟨.bool,.z,y0⟩]
def z1f (x0:List z0k) (x1:Unit) (y0:Int):Prop:=gZ 120 [⟨h25,.z,x0⟩,⟨.fn 61 .unit,.z,x1⟩] [⟨.int .i64,.z,y0⟩]
def z7g (x0:z0k) (y0:Bool):Prop:=gZ 61 [⟨h24,.z,x0⟩] [⟨.bool,.z,y0⟩]
def z5l (x0:List z0o) (x1:List z0k) (y0:Bool):Prop:=gZ 59 [⟨h9,.z,x0⟩,⟨h25,.z,x1⟩] [⟨.bool,.z,y0⟩]
def z0p (x0:List z0k) (x1:List z0o×Unit) (y0:Bool):Prop:=gZ 60 [⟨h25,.z,x0⟩,⟨.fn 119 h35,.z,x1⟩] [⟨.bool,.z,y0⟩]
def z0s (x0:List z0k) (x1:List z0o×Unit) (y0:Int):Prop:=gZ 120 [⟨h25,.z,x0⟩,⟨.fn 119 h35,.z,x1⟩] [⟨.int .i64,.z,y0⟩]
def z1l (x0:z0k) (x1:List z0o) (y0:Bool):Prop:=gZ 119 [⟨h24,.z,x0⟩,⟨.ptr h9,.z,x1⟩] [⟨.bool,.z,y0⟩]
def z23 (x0:TSk) (x1:List z0k) (x2:Int) (y0:List UInt8):Prop:=gZ 11 [⟨h18,.z,x0⟩,⟨h25,.z,x1⟩,⟨.int .i64,.z,x2⟩] [⟨.str,.z,y0⟩]
def zf0 (x0:Int) (y0:List UInt8):Prop:=gZ 39 [⟨.int .i64,.z,x0⟩] [⟨.str,.z,y0⟩]
def z40 (x0:Int) (x1:Int) (x2:Int) (y0:Bool):Prop:=gZ 28 [⟨.int .i64,.z,x0⟩,⟨.int .i64,.z,x1⟩,⟨.int .i64,.z,x2⟩] [⟨.bool,.z,y0⟩]
def z8u (x0:Int) (y0:List UInt8):Prop:=gZ 38 [⟨.int .i64,.z,x0⟩] [⟨.str,.z,y0⟩]
def z8f (x0:Int) (y0:List UInt8):Prop:=gZ 37 [⟨.int .i64,.z,x0⟩] [⟨.str,.z,y0⟩]
def z2p (x0:Int) (y0:Int) (y1:Bool):Prop:=gZ 36 [⟨.int .i64,.z,x0⟩] [⟨.int .i64,.z,y0⟩,⟨.bool,.z,y1⟩]
def z4a (x0:TSk) (y0:Bool):Prop:=gZ 26 [⟨h18,.z,x0⟩] [⟨.bool,.z,y0⟩]
def z3j (x0:z0c) (y0:Bool):Prop:=gZ 83 [⟨h14,.z,x0⟩] [⟨.bool,.z,y0⟩]
def z1m (x0:List z0o) (y0:Bool):Prop:=gZ 141 [⟨h9,.z,x0⟩] [⟨.bool,.z,y0⟩]
def z9j (x0:z0o) (y0:Bool):Prop:=gZ 173 [⟨h8,.z,x0⟩] [⟨.bool,.z,y0⟩]
def z64 (x0:z00) (y0:List Int):Prop:=gZ 139 [⟨h11,.z,x0⟩] [⟨.sl 3 (.int .i64),.z,y0⟩]
def ze5 (x0:List z0o) (x1:z00) (y0:Bool):Prop:=gZ 140 [⟨h9,.z,x0⟩,⟨h11,.z,x1⟩] [⟨.bool,.z,y0⟩]
def z56 (x0:Int) (y0:Bool):Prop:=gZ 80 [⟨.int .i64,.z,x0⟩] [⟨.bool,.z,y0⟩]
def z6e (x0:z0c) (y0:List Int):Prop:=gZ 82 [⟨h14,.z,x0⟩] [⟨.sl 3 (.int .i64),.z,y0⟩]
def z7y (x0:TSk) (x1:List z0k) (x2:Int) (y0:List UInt8):Prop:=gZ 10 [⟨h18,.z,x0⟩,⟨h25,.z,x1⟩,⟨.int .i64,.z,x2⟩] [⟨.str,.z,y0⟩]
def z62 (x0:TSk) (x1:List Int) (y0:List UInt8):Prop:=gZ 35 [⟨h18,.z,x0⟩,⟨.sl 3 (.int .i64),.z,x1⟩] [⟨.str,.z,y0⟩]
def zja (x0:List (List UInt8)) (x1:List UInt8) (y0:List UInt8):Prop:=gZ 97 [⟨.sl 9 .str,.z,x0⟩,⟨.str,.z,x1⟩] [⟨.str,.z,y0⟩]
def zfe (x0:Int) (y0:List UInt8):Prop:=gZ 96 [⟨.int .i64,.z,x0⟩] [⟨.str,.z,y0⟩]
def z8r (x0:Int) (y0:List UInt8):Prop:=gZ 94 [⟨.int .i64,.z,x0⟩] [⟨.str,.z,y0⟩]
def zjm (x0:Int) (y0:List UInt8):Prop:=gZ 144 [⟨.int .i64,.z,x0⟩] [⟨.str,.z,y0⟩]
def zac (x0:Int) (y0:List UInt8):Prop:=gZ 34 [⟨.int .i64,.z,x0⟩] [⟨.str,.z,y0⟩]
def zpt (x0:Int) (y0:Bool):Prop:=gZ 93 [⟨.int .i64,.z,x0⟩] [⟨.bool,.z,y0⟩]
def z8p (x0:List Int) (y0:TSk) (y1:List z0k) (y2:Int):Prop:=gZ 9 [⟨.sl 5 (.int .u8),.z,x0⟩] [⟨h18,.pr .z (.pr oT .z),y0⟩,⟨h25,.own .z,y1⟩,⟨.int .i64,.z,y2⟩]
def z86 (x0:List Int×Int×Int×Unit) (x1:Int) (y0:Int) (z0:List Int×Int×Int×Unit):Prop:=z15 prog 33 [⟨.ptr h26,.own .z,x0⟩,⟨.int .i64,.z,x1⟩] [⟨.int .i64,.z,y0⟩] [⟨.ptr h26,.own .z,z0⟩,⟨.int .i64,.z,x1⟩]
def z05 (x0:List Int×Int×Int×Unit) (x1:Int) (y0:Int) (z0:List Int×Int×Int×Unit):Prop:=z15 prog 17 [⟨.ptr h26,.own .z,x0⟩,⟨.int .i64,.z,x1⟩] [⟨.int .i64,.z,y0⟩] [⟨.ptr h26,.own .z,z0⟩,⟨.int .i64,.z,x1⟩]
def z5q (x0:List Int×Int×Int×Unit) (y0:Int) (z0:List Int×Int×Int×Unit):Prop:=z15 prog 56 [⟨.ptr h26,.own .z,x0⟩] [⟨.int .i64,.z,y0⟩] [⟨.ptr h26,.own .z,z0⟩]
def z8w (x0:Int) (y0:Int):Prop:=gZ 91 [⟨.int .i64,.z,x0⟩] [⟨.int .i64,.z,y0⟩]
def z3s (x0:List Int×Int×Int×Unit) (x1:Int) (y0:Bool) (z0:List Int×Int×Int×Unit):Prop:=z15 prog 57 [⟨.ptr h26,.own .z,x0⟩,⟨.int .i64,.z,x1⟩] [⟨.bool,.z,y0⟩] [⟨.ptr h26,.own .z,z0⟩,⟨.int .i64,.z,x1⟩]
def zi4 (x0:List Int) (y0:List Int×Int×Int×Unit) (y1:TSk) (y2:List z0k):Prop:=gZ 15 [⟨.sl 5 (.int .u8),.z,x0⟩] [⟨.ptr h26,.own .z,y0⟩,⟨h18,.pr .z (.pr oT .z),y1⟩,⟨h25,.own .z,y2⟩]
def zdr (x0:List Int×Int×Int×Unit) (y0:List z0k) (z0:List Int×Int×Int×Unit):Prop:=z15 prog 54 [⟨.ptr h26,.own .z,x0⟩] [⟨h25,oE,y0⟩] [⟨.ptr h26,.own .z,z0⟩]
def zbz (x0:List Int×Int×Int×Unit) (y0:z0k) (z0:List Int×Int×Int×Unit):Prop:=z15 prog 112 [⟨.ptr h26,.own .z,x0⟩] [⟨h24,oD,y0⟩] [⟨.ptr h26,.own .z,z0⟩]
def z7l (x0:List Int×Int×Int×Unit) (x1:Int) (x2:Int) (y0:z00) (z0:List Int×Int×Int×Unit):Prop:=z15 prog 154 [⟨.ptr h26,.own .z,x0⟩,⟨.int .i64,.z,x1⟩,⟨.int .i64,.z,x2⟩] [⟨h11,.pr .z (.pr (.own .z) .z),y0⟩] [⟨.ptr h26,.own .z,z0⟩,⟨.int .i64,.z,x1⟩,⟨.int .i64,.z,x2⟩]
def zcf  (y0:List z0o):Prop:=gZ 110 [] [⟨h9,.own .z,y0⟩]
def z7c (x0:List z00) (y0:List Int) (z0:List z00):Prop:=z15 prog 46 [⟨h19,oF,x0⟩] [⟨.sl 3 (.int .i64),.z,y0⟩] [⟨h19,oF,z0⟩]
def zdz (x0:List Int×Int×Int×Unit) (y0:z0k) (z0:List Int×Int×Int×Unit):Prop:=z15 prog 153 [⟨.ptr h26,.own .z,x0⟩] [⟨h24,oD,y0⟩] [⟨.ptr h26,.own .z,z0⟩]
def zgj (x0:List Int×Int×Int×Unit) (y0:z0c) (z0:List Int×Int×Int×Unit):Prop:=z15 prog 53 [⟨.ptr h26,.own .z,x0⟩] [⟨h14,.pr .z (.pr oF .z),y0⟩] [⟨.ptr h26,.own .z,z0⟩]
def zb1 (x0:List Int×Int×Int×Unit) (y0:z0o) (z0:List Int×Int×Int×Unit):Prop:=z15 prog 118 [⟨.ptr h26,.own .z,x0⟩] [⟨h8,.z,y0⟩] [⟨.ptr h26,.own .z,z0⟩]
def zf1 (x0:List Int×Int×Int×Unit) (x1:List (List UInt8)) (y0:List UInt8) (z0:List Int×Int×Int×Unit):Prop:=z15 prog 157 [⟨.ptr h26,.own .z,x0⟩,⟨.sl 9 .str,.z,x1⟩] [⟨.str,.z,y0⟩] [⟨.ptr h26,.own .z,z0⟩,⟨.sl 9 .str,.z,x1⟩]
def zao (x0:List Int×Int×Int×Unit) (y0:z00) (z0:List Int×Int×Int×Unit):Prop:=z15 prog 117 [⟨.ptr h26,.own .z,x0⟩] [⟨h11,.pr .z (.pr (.own .z) .z),y0⟩] [⟨.ptr h26,.own .z,z0⟩]
def z60 (x0:List Int×Int×Int×Unit) (x1:List Int) (y0:Int) (z0:List Int×Int×Int×Unit):Prop:=z15 prog 58 [⟨.ptr h26,.own .z,x0⟩,⟨.sl 3 (.int .i64),.z,x1⟩] [⟨.int .i64,.z,y0⟩] [⟨.ptr h26,.own .z,z0⟩,⟨.sl 3 (.int .i64),.z,x1⟩]
def z98 (x0:List Int×Int×Int×Unit) (x1:Int) (x2:Int) (y0:z00) (z0:List Int×Int×Int×Unit):Prop:=z15 prog 111 [⟨.ptr h26,.own .z,x0⟩,⟨.int .i64,.z,x1⟩,⟨.int .i64,.z,x2⟩] [⟨h11,.pr .z (.pr (.own .z) .z),y0⟩] [⟨.ptr h26,.own .z,z0⟩,⟨.int .i64,.z,x1⟩,⟨.int .i64,.z,x2⟩]
def zcg (x0:z0c) (y0:z0c):Prop:=gZ 79 [⟨h14,.z,x0⟩] [⟨h14,oI,y0⟩]
def zgi (x0:z00) (y0:z00):Prop:=gZ 138 [⟨h11,.z,x0⟩] [⟨h11,.pr .z (.pr (.own .z) .z),y0⟩]
def zi9 (x0:z0c) (x1:z00) (y0:z0c):Prop:=gZ 90 [⟨h14,.z,x0⟩,⟨h11,.z,x1⟩] [⟨h14,.z,y0⟩]
def zia (x0:z0c) (x1:z00) (y0:Int):Prop:=gZ 87 [⟨h14,.z,x0⟩,⟨h11,.z,x1⟩] [⟨.int .i64,.z,y0⟩]
def z9t (x0:List Int×Int×Int×Unit) (x1:Int) (y0:z0c) (z0:List Int×Int×Int×Unit):Prop:=z15 prog 50 [⟨.ptr h26,.own .z,x0⟩,⟨.int .i64,.z,x1⟩] [⟨h14,oI,y0⟩] [⟨.ptr h26,.own .z,z0⟩,⟨.int .i64,.z,x1⟩]
def zco (x0:List Int×Int×Int×Unit) (x1:Int) (x2:Int) (y0:z0c) (z0:List Int×Int×Int×Unit):Prop:=z15 prog 116 [⟨.ptr h26,.own .z,x0⟩,⟨.int .i64,.z,x1⟩,⟨.int .i64,.z,x2⟩] [⟨h14,oI,y0⟩] [⟨.ptr h26,.own .z,z0⟩,⟨.int .i64,.z,x1⟩,⟨.int .i64,.z,x2⟩]
def zah (x0:TSk) (x1:List z0k) (x2:Int) (x3:List Int) (y0:TSk) (y1:Bool):Prop:=gZ 7 [⟨h18,.z,x0⟩,⟨h25,.z,x1⟩,⟨.int .i64,.z,x2⟩,⟨.sl 3 (.int .i64),.z,x3⟩] [⟨h18,oS,y0⟩,⟨.bool,.z,y1⟩]
def zc8 (x0:TSk) (y0:TSk):Prop:=gZ 25 [⟨h18,.z,x0⟩] [⟨h18,oS,y0⟩]
def zm2 (x0:TSk) (x1:List z0k) (x2:Int) (x3:List Int) (y0:TSk) (y1:Bool):Prop:=gZ 30 [⟨h18,.z,x0⟩,⟨h25,.z,x1⟩,⟨.int .i64,.z,x2⟩,⟨.sl 3 (.int .i64),.z,x3⟩] [⟨h18,.z,y0⟩,⟨.bool,.z,y1⟩]
def zab (x0:z00) (x1:List Int) (y0:z00) (y1:Bool):Prop:=gZ 86 [⟨h11,.z,x0⟩,⟨.sl 3 (.int .i64),.z,x1⟩] [⟨h11,.pr .z (.pr (.own .z) .z),y0⟩,⟨.bool,.z,y1⟩]
def zhu (x0:TSk) (x1:z09) (y0:TSk) (y1:Int) (y2:Bool):Prop:=gZ 89 [⟨h18,.z,x0⟩,⟨h15,.z,x1⟩] [⟨h18,.z,y0⟩,⟨.int .i64,.z,y1⟩,⟨.bool,.z,y2⟩]
def zea (x0:TSk) (x1:z09) (y0:Int):Prop:=gZ 143 [⟨h18,.z,x0⟩,⟨h15,.z,x1⟩] [⟨.int .i64,.z,y0⟩]
def z4z (x0:z0k) (y0:List Int):Prop:=gZ 88 [⟨h24,.z,x0⟩] [⟨.sl 3 (.int .i64),.own .z,y0⟩]
def zgy (x0:z0c) (x1:z0k) (x2:List Int) (y0:Bool):Prop:=gZ 29 [⟨h14,.z,x0⟩,⟨h24,.z,x1⟩,⟨.sl 3 (.int .i64),.z,x2⟩] [⟨.bool,.z,y0⟩]
def zec  (y0:Int):Prop:=gZ 55 [] [⟨.int .i64,.z,y0⟩]
def z4x (x0:List z0o) (x1:z0k) (y0:Bool):Prop:=gZ 85 [⟨h9,.z,x0⟩,⟨h24,.z,x1⟩] [⟨.bool,.z,y0⟩]
def z8g (x0:List z0o) (x1:z00) (y0:Bool):Prop:=gZ 142 [⟨h9,.z,x0⟩,⟨h11,.z,x1⟩] [⟨.bool,.z,y0⟩]
def zkc (x0:List z0o) (x1:List z0k) (y0:Bool):Prop:=gZ 27 [⟨h9,.z,x0⟩,⟨h25,.z,x1⟩] [⟨.bool,.z,y0⟩]
def z2s (x0:List z0o) (x1:List z0k) (y0:Bool):Prop:=gZ 84 [⟨h9,.z,x0⟩,⟨h25,.z,x1⟩] [⟨.bool,.z,y0⟩]
def zag (x0:z0c) (x1:List z00) (y0:List (List Int)):Prop:=gZ 52 [⟨h14,.z,x0⟩,⟨h19,.z,x1⟩] [⟨.sl 32 (.sl 3 (.int .i64)),.own .z,y0⟩]
def zi6 (x0:z0c) (x1:List z00) (x2:Int) (x3:List Int) (y0:List (List Int)):Prop:=gZ 115 [⟨h14,.z,x0⟩,⟨h19,.z,x1⟩,⟨.int .i64,.z,x2⟩,⟨.sl 3 (.int .i64),.z,x3⟩] [⟨.sl 32 (.sl 3 (.int .i64)),.own (.own .z),y0⟩]
def zp1 (x0:z00) (x1:z00) (x2:List Int) (y0:List Int) (y1:Bool):Prop:=gZ 156 [⟨h11,.z,x0⟩,⟨h11,.z,x1⟩,⟨.sl 3 (.int .i64),.z,x2⟩] [⟨.sl 3 (.int .i64),.own .z,y0⟩,⟨.bool,.z,y1⟩]
def zfl  (y0:List Int):Prop:=gZ 16 [] [⟨.sl 3 (.int .i64),.own .z,y0⟩]
def zuu (x0:z0c) (x1:List z00) (y0:Bool):Prop:=gZ 114 [⟨h14,.z,x0⟩,⟨h19,.z,x1⟩] [⟨.bool,.z,y0⟩]
def zcm (x0:List Int×Int×Int×Unit) (y0:List z0k) (z0:List Int×Int×Int×Unit):Prop:=z15 prog 51 [⟨.ptr h26,.own .z,x0⟩] [⟨h25,.own .z,y0⟩] [⟨.ptr h26,.own .z,z0⟩]
def z93 (x0:List z0o) (x1:List z0k) (y0:Bool):Prop:=gZ 113 [⟨h9,.z,x0⟩,⟨h25,.z,x1⟩] [⟨.bool,.z,y0⟩]
def z8o (x0:List z0o) (x1:List z0k) (y0:z2m) (y1:Bool):Prop:=gZ 155 [⟨h9,.z,x0⟩,⟨h25,.z,x1⟩] [⟨h27,.z,y0⟩,⟨.bool,.z,y1⟩]
def zdw (x0:Int) (x1:List z2m) (x2:Int) (x3:Int) (y0:Bool):Prop:=gZ 178 [⟨.int .i64,.z,x0⟩,⟨h28,.z,x1⟩,⟨.int .i64,.z,x2⟩,⟨.int .i64,.z,x3⟩] [⟨.bool,.z,y0⟩]
def zb6 (x0:List z0o) (y0:Int):Prop:=gZ 179 [⟨h9,.z,x0⟩] [⟨.int .i64,.z,y0⟩]
def zb5 (x0:List z0o) (x1:List z0k) (y0:List z2m):Prop:=gZ 177 [⟨h9,.z,x0⟩,⟨h25,.z,x1⟩] [⟨h28,.own .z,y0⟩]
def zbs (x0:List z2m) (x1:z2m) (y0:List z2m):Prop:=z15 prog 199 [⟨h28,.own .z,x0⟩,⟨h27,.z,x1⟩] [⟨h28,.own .z,y0⟩] [⟨h28,.dead,x0⟩,⟨h27,.z,x1⟩]
def zau (x0:List z0o) (x1:List z00) (x2:Int) (y0:List Int):Prop:=gZ 198 [⟨h9,.z,x0⟩,⟨h19,.z,x1⟩,⟨.int .i64,.z,x2⟩] [⟨.sl 3 (.int .i64),.own .z,y0⟩]
def zb7 (x0:List z0o) (x1:Int) (x2:Int) (y0:Int):Prop:=gZ 208 [⟨h9,.z,x0⟩,⟨.int .i64,.z,x1⟩,⟨.int .i64,.z,x2⟩] [⟨.int .i64,.z,y0⟩]
def zaa (x0:z0c) (y0:TSk) (y1:Bool):Prop:=gZ 49 [⟨h14,.z,x0⟩] [⟨h18,oS,y0⟩,⟨.bool,.z,y1⟩]
def zjw (x0:z0c) (y0:Bool):Prop:=gZ 109 [⟨h14,.z,x0⟩] [⟨.bool,.z,y0⟩]
def zvh (x0:List Int) (y0:List Int×Int×Int×Unit):Prop:=gZ 48 [⟨.sl 5 (.int .u8),.z,x0⟩] [⟨.ptr h26,.own .z,y0⟩]
def z9p (x0:List Int) (y0:TSk) (y1:List z0k) (y2:Int) (y3:List Int):Prop:=gZ 5 [⟨.sl 5 (.int .u8),.z,x0⟩] [⟨h18,.pr .z (.pr oT .z),y0⟩,⟨h25,.own .z,y1⟩,⟨.int .i64,.z,y2⟩,⟨.sl 3 (.int .i64),.z,y3⟩]
def zds (x0:List Int×Int×Int×Unit) (x1:z0c) (x2:List z00) (y0:List Int) (z0:List Int×Int×Int×Unit):Prop:=z15 prog 18 [⟨.ptr h26,.own .z,x0⟩,⟨h14,.z,x1⟩,⟨h19,.z,x2⟩] [⟨.sl 3 (.int .i64),.z,y0⟩] [⟨.ptr h26,.own .z,z0⟩,⟨h14,.z,x1⟩,⟨h19,.z,x2⟩]
def z05m (x0:List Int) (y0:Bool):Prop:=gZ 4 [⟨.sl 5 (.int .u8),.z,x0⟩] [⟨.bool,.z,y0⟩]
theorem z4s (x0:List z00) (x1:Unit) (y0:List z00) (H:∀ xs:List (zm1 z00),xs.map (·.2)=x0->∃ ys:List (zm1 z00),ys.Sublist xs/\ys.map (·.2)=y0/\z1p xs x1 ys):z1c x0 x1 y0:=z0ca (by rfl) H
theorem zh1 (x0:zm1 z00) (x1:zm1 z00) (y0:Bool) (h:zfu x0.2 x1.2 y0):zcd x0 x1 y0:=z0a2 h
end Go.V

