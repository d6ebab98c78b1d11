/-
  The functions that are reached: types, signatures, what a call of each gives.
-/
import Derived.Test.YtjafmgnamibefaaGreatVE
import Derived.Test.YtjafmgnamibefaaGreatProg
import Derived.KernelRfl
set_option linter.unusedVariables false
set_option linter.unusedSimpArgs false
set_option maxRecDepth 1000000
set_option maxHeartbeats 4000000
set_option linter.unusedVariables false
namespace Go.V
open Go Go.Proofs
abbrev h0:Sh:=.pair (.int .u8) .unit
abbrev h1:Sh:=.pair .bool h0
abbrev h2:Sh:=.pair (.int .i64) h1
abbrev h3:Sh:=.pair (.int .i64) h2
abbrev h4:Sh:=.pair (.int .u64) .unit
abbrev h5:Sh:=.pair .str h4
abbrev h6:Sh:=.pair .bool .unit
abbrev h7:Sh:=.pair (.int .i64) h6
abbrev h8:Sh:=.pair .str h7
abbrev h9:Sh:=.sl 91 h8
abbrev h10:Sh:=.pair (.sl 3 (.int .i64)) .unit
abbrev h11:Sh:=.pair (.int .i64) h10
abbrev h12:Sh:=.sl 84 h11
abbrev h13:Sh:=.pair h12 .unit
abbrev h14:Sh:=.pair h9 h13
abbrev h15:Sh:=.sl 66 h11
abbrev h16:Sh:=.pair (.int .i64) .unit
abbrev h17:Sh:=.pair (.int .i64) h16
abbrev h18:Sh:=.pair .bool h17
abbrev h19:Sh:=.pair h15 h18
abbrev h20:Sh:=.pair h15 h19
abbrev h21:Sh:=.sl 56 h20
abbrev h22:Sh:=.sl 53 h11
abbrev h23:Sh:=.pair h22 .unit
abbrev h24:Sh:=.pair (.int .i64) h23
abbrev h25:Sh:=.pair h14 h24
abbrev h26:Sh:=.pair (.sl 5 (.int .u8)) h17
abbrev h27:Sh:=.pair (.int .i64) h7
abbrev h28:Sh:=.pair (.sl 3 (.int .i64)) h10
abbrev h29:Sh:=.sl 87 h27
abbrev h30:Sh:=.tok (.int .i64) h10
abbrev h31:Sh:=.sl 84 h30
abbrev h32:Sh:=.pair (.ptr h9) .unit
abbrev h33:Sh:=.pair (.ptr h11) .unit
abbrev h34:Sh:=.pair (.ptr (.sl 3 (.int .i64))) .unit
abbrev oF:O:=.own (.pr .z (.pr (.own .z) .z))
abbrev oI:O:=.pr (.own .z) (.pr oF .z)
abbrev oT:O:=.own (.pr .z (.pr .z (.pr (.own .z) .z)))
abbrev oS:O:=.pr oI (.pr oT .z)
abbrev oD:O:=.pr oF (.pr oF .z)
abbrev oE:O:=.own oD
noncomputable abbrev prog:Program:=Tryz.prog
noncomputable abbrev gZ (f:Nat) (us rs:List OV):Prop:=z16 prog f us rs us
def z0dp:List (Nat×Sh):=[(2,.int .i64),(3,.int .i64),(4,.bool),(5,.int .u8),(6,.int .u8),(9,.str),(10,.str),(11,.str),(12,.int .u64),(21,.int .i32),(22,.sl 5 (.int .u8)),(24,h9),(25,h12),(26,h14),(27,h14),(28,h21),(29,h22),(35,h25),(36,h25),(45,.ptr h26),(51,.sl 3 (.int .i64)),(52,h11),(53,h11),(54,h15),(55,h20),(56,h20),(65,h11),(66,h11),(80,h26),(81,h26),(83,h11),(84,h11),(86,h27),(87,h27),(90,h8),(91,h8),(114,h28),(115,h28),(116,.sl 51 (.sl 3 (.int .i64))),(120,h29),(124,.int .u64),(151,.sl 4 .bool),(172,.int .i64),(179,.int .u32),(181,.int .u64),(191,.int .u64),(195,.ptr (.int .i64)),(202,.ptr (.int .u64)),(216,.int .u8),(217,.int .u8),(219,.ptr (.int .u8)),(220,.int .i32),(221,.int .i32)]
def z0cs:List (Nat×List Sig):=[(3,[⟨[.z],[(.bool,.z)],[.z]⟩]),(5,[⟨[.z],[(.bool,.z)],[.z]⟩]),(6,[⟨[.z],[(h14,.z),(h21,.z),(h22,.z)],[.z]⟩]),(7,[⟨[.z,.z,.z],[(.bool,.z)],[.z,.z,.z]⟩]),(8,[⟨[.z,.z,.z],[(.int .i64,.z),(.int .i64,.z),(.bool,.z)],[.z,.z,.z]⟩]),(9,[⟨[.z,.z,.z],[(.int .i64,.z),(.int .i64,.z),(.bool,.z)],[.z,.z,.z]⟩]),(10,[⟨[.z,.z,.z],[(.bool,.z)],[.z,.z,.z]⟩]),(11,[⟨[.z,.z],[(h25,.pr oI (.pr .z (.pr oF .z))),(.bool,.z)],[.z,.z]⟩]),(12,[⟨[.z,.z,.z],[(h22,.z)],[.z,.z,.z]⟩]),(18,[⟨[.z],[(.ptr h26,.own .z),(h14,oI),(h21,.z)],[.z]⟩]),(19,[⟨[.own .z,.z,.z],[(h22,.z)],[.own .z,.z,.z]⟩]),(20,[⟨[.z,.z,.z],[(h14,oI),(.int .i64,.z),(.bool,.z)],[.z,.z,.z]⟩]),(21,[⟨[.z,.z,.z],[(h14,.z),(.int .i64,.z),(.bool,.z)],[.z,.z,.z]⟩]),(22,[⟨[.z,.z,.z],[(h25,.pr oI (.pr .z (.pr oF .z))),(.bool,.z)],[.z,.z,.z]⟩]),(23,[⟨[.z],[(h11,.pr .z (.pr (.own .z) .z))],[.z]⟩]),(24,[⟨[.own .z,.z,.z],[(h22,.own .z)],[.dead,.z,.z]⟩]),(25,[⟨[.z],[(h22,.own .z)],[.z]⟩]),(28,[⟨[.z],[(h22,oF)],[.z]⟩]),(29,[⟨[.z],[(.ptr h26,.own .z)],[.z]⟩]),(30,[⟨[.own .z,.z],[(h14,oI)],[.own .z,.z]⟩]),(31,[⟨[.own .z],[(h20,oD)],[.own .z]⟩]),(32,[⟨[.own .z,.z],[(.bool,.z)],[.own .z,.z]⟩]),(33,[⟨[.z,.z],[(.bool,.z)],[.z,.z]⟩]),(34,[⟨[],[(h9,.own .z)],[]⟩]),(35,[⟨[.own .z],[(h21,.z)],[.own .z]⟩]),(36,[⟨[.z,.z,.z],[(h25,.pr .z (.pr .z (.pr (.own .z) .z))),(.bool,.z)],[.z,.z,.z]⟩]),(37,[⟨[.own .z,.z],[(.int .i64,.z)],[.own .z,.z]⟩]),(38,[⟨[.z],[(.bool,.z)],[.z]⟩]),(39,[⟨[.z,.z],[(.bool,.z)],[.z,.z]⟩]),(40,[⟨[.z],[(h14,oI)],[.z]⟩]),(41,[⟨[.z,.z,.z],[(.bool,.z)],[.z,.z,.z]⟩]),(42,[⟨[.z,.z,.z],[(h14,oI),(.int .i64,.z)],[.z,.z,.z]⟩]),(43,[⟨[.z],[(.bool,.z)],[.z]⟩]),(44,[⟨[.z,.z],[(.bool,.z)],[.z,.z]⟩]),(45,[⟨[.z],[(h14,oI)],[.z]⟩]),(46,[⟨[.z,.z,.z],[(.bool,.z)],[.z,.z,.z]⟩]),(47,[⟨[.z,.z,.z],[(.bool,.z)],[.z,.z,.z]⟩]),(48,[⟨[.z,.z,.z],[(h14,.z),(.int .i64,.z)],[.z,.z,.z]⟩]),(49,[⟨[.z,.z],[(h22,oF)],[.z,.z]⟩]),(50,[⟨[.z],[(.sl 3 (.int .i64),.own .z)],[.z]⟩]),(51,[⟨[.z,.z,.z],[(h25,.pr .z (.pr .z (.pr (.own .z) .z))),(.bool,.z)],[.z,.z,.z]⟩]),(52,[⟨[.z,.z],[(h14,.z)],[.z,.z]⟩]),(53,[⟨[.own .z,.z,.z],[(h11,.pr .z (.pr (.own .z) .z))],[.own .z,.z,.z]⟩]),(54,[⟨[.z,.z],[(h27,.z),(.bool,.z)],[.z,.z]⟩]),(55,[⟨[.own .z],[(h21,oE)],[.own .z]⟩]),(56,[⟨[.own .z],[(.int .i64,.z)],[.own .z]⟩]),(57,[⟨[.z],[(.bool,.z)],[.z]⟩]),(58,[⟨[.z,.z],[(.bool,.z)],[.z,.z]⟩]),(59,[⟨[.z,.z],[(.int .i64,.z)],[.z,.z]⟩]),(60,[⟨[.z],[(.sl 3 (.int .i64),.own .z)],[.z]⟩]),(61,[⟨[.z,.z],[(.bool,.z)],[.z,.z]⟩]),(62,[⟨[.z,.z],[(.bool,.z)],[.z,.z]⟩]),(63,[⟨[.z,.z],[(.bool,.z)],[.z,.z]⟩]),(64,[⟨[.z],[(h9,.own .z)],[.z]⟩]),(65,[⟨[.z],[(h12,oF)],[.z]⟩]),(66,[⟨[.z,.z,.z],[(.bool,.z)],[.z,.z,.z]⟩]),(67,[⟨[.z,.z,.z],[(h14,oI),(.int .i64,.z)],[.z,.z,.z]⟩]),(68,[⟨[.z],[(.int .i64,.z)],[.z]⟩]),(69,[⟨[.z],[(.sl 3 (.int .i64),.own .z)],[.z]⟩]),(70,[⟨[.z],[(.int .i64,.z)],[.z]⟩]),(71,[⟨[.z,.z],[(h11,.pr .z (.pr (.own .z) .z)),(.bool,.z)],[.z,.z]⟩]),(72,[⟨[.z],[(h12,oF)],[.z]⟩]),(73,[⟨[.z,.z],[(.bool,.z)],[.z,.z]⟩]),(74,[⟨[.z,.z],[(.int .i64,.z)],[.z,.z]⟩]),(75,[⟨[.z],[(.sl 3 (.int .i64),.z)],[.z]⟩]),(76,[⟨[.z],[(.bool,.z)],[.z]⟩]),(77,[⟨[.z,.z],[(.bool,.z)],[.z,.z]⟩]),(78,[⟨[.z],[(h11,.pr .z (.pr (.own .z) .z))],[.z]⟩]),(79,[⟨[.z,.z,.z],[(.bool,.z)],[.z,.z,.z]⟩]),(80,[⟨[.z,.z,.z],[(.bool,.z)],[.z,.z,.z]⟩]),(81,[⟨[.z],[(.int .i64,.z),(.bool,.z)],[.z]⟩]),(82,[⟨[.z,.z],[(h14,oI),(.bool,.z)],[.z,.z]⟩]),(83,[⟨[.z],[(.sl 3 (.int .i64),.own .z)],[.z]⟩]),(84,[⟨[.z],[(.int .i64,.z)],[.z]⟩]),(85,[⟨[.z],[(.int .i64,.z)],[.z]⟩]),(86,[⟨[.z,.z],[(h11,.pr .z (.pr (.own .z) .z)),(.bool,.z)],[.z,.z]⟩]),(87,[⟨[.z,.z],[(.sl 51 (.sl 3 (.int .i64)),.own (.own .z))],[.z,.z]⟩]),(88,[⟨[.z,.z],[(h22,.own .z)],[.z,.z]⟩]),(89,[⟨[.z,.z],[(.int .i64,.z)],[.z,.z]⟩]),(90,[⟨[.z,.z],[(.int .i64,.z)],[.z,.z]⟩]),(91,[⟨[.own .z,.z],[(.int .i64,.z)],[.own .z,.z]⟩]),(92,[⟨[.z,.z],[(h29,.own .z)],[.z,.z]⟩]),(93,[⟨[.z,.z,.z,.z],[(.bool,.z)],[.z,.z,.z,.z]⟩]),(94,[⟨[.z],[(.int .i64,.z)],[.z]⟩]),(95,[⟨[.own .z],[(h20,oD)],[.own .z]⟩]),(96,[⟨[.z],[(.bool,.z)],[.z]⟩]),(97,[⟨[.z,.z],[(.bool,.z)],[.z,.z]⟩]),(98,[⟨[.z],[(.bool,.z)],[.z]⟩]),(99,[⟨[.z],[(.bool,.z)],[.z]⟩]),(100,[⟨[.z],[(.int .i64,.z)],[.z]⟩]),(101,[⟨[.z,.z],[(.int .i64,.z)],[.z,.z]⟩]),(102,[⟨[.z,.z],[(.int .i64,.z)],[.z,.z]⟩]),(103,[⟨[.z],[(.sl 3 (.int .i64),.own .z)],[.z]⟩]),(104,[⟨[.z,.z],[(.int .i64,.z)],[.z,.z]⟩]),(105,[⟨[.z,.z,.z],[(.bool,.z)],[.z,.z,.z]⟩]),(106,[⟨[.z],[(.sl 3 (.int .i64),.own .z)],[.z]⟩]),(107,[⟨[.z,.z],[(.bool,.z)],[.z,.z]⟩]),(108,[⟨[.z,.z],[(.bool,.z)],[.z,.z]⟩]),(109,[⟨[.z,.z],[(.bool,.z)],[.z,.z]⟩]),(110,[⟨[.z],[(h11,.pr .z (.pr (.own .z) .z))],[.z]⟩]),(111,[⟨[.z,.z,.z],[(.bool,.z)],[.z,.z,.z]⟩]),(112,[⟨[.z,.z,.z],[(.bool,.z)],[.z,.z,.z]⟩]),(113,[⟨[.z],[(.bool,.z)],[.z]⟩]),(114,[⟨[.z],[(.int .i64,.z),(.bool,.z)],[.z]⟩]),(115,[⟨[.z,.z],[(h14,oI),(.bool,.z)],[.z,.z]⟩]),(116,[⟨[.z],[(.sl 3 (.int .i64),.own .z)],[.z]⟩]),(117,[⟨[.z,.z],[(.sl 3 (.int .i64),.own .z)],[.z,.z]⟩]),(118,[⟨[oF,.z],[],[oF,.z]⟩]),(119,[⟨[oF,.z],[(h12,oF)],[.dead,.z]⟩]),(120,[⟨[.z,.z],[(.bool,.z)],[.z,.z]⟩]),(121,[⟨[.z],[(.bool,.z)],[.z]⟩]),(122,[⟨[.z,.z],[(.int .i64,.z)],[.z,.z]⟩]),(123,[⟨[.z,.z],[(.sl 3 (.int .i64),.z)],[.z,.z]⟩]),(124,[⟨[.z],[(.bool,.z)],[.z]⟩]),(125,[⟨[.z,.z],[(.bool,.z)],[.z,.z]⟩]),(126,[⟨[oF],[(.sl 3 (.int .i64),.z)],[oF]⟩,⟨[.z],[(.sl 3 (.int .i64),.z)],[.z]⟩]),(127,[⟨[.z,.z],[(.bool,.z)],[.z,.z]⟩]),(128,[⟨[],[(.int .i64,.z)],[]⟩]),(129,[⟨[.z,.z],[(.bool,.z)],[.z,.z]⟩]),(130,[⟨[.z,.z,.z,.z],[(.sl 51 (.sl 3 (.int .i64)),.own (.own .z))],[.z,.z,.z,.z]⟩]),(131,[⟨[.z],[(.bool,.z)],[.z]⟩]),(132,[⟨[.z,.z],[(h11,.pr .z (.pr (.own .z) .z))],[.z,.z]⟩]),(133,[⟨[.z],[(.sl 3 (.int .i64),.z)],[.z]⟩]),(134,[⟨[.z,.z],[(.sl 51 (.sl 3 (.int .i64)),.own (.own .z))],[.z,.z]⟩]),(135,[⟨[.z,.z],[(.sl 51 (.sl 3 (.int .i64)),.own .z)],[.z,.z]⟩]),(136,[⟨[.z],[(.sl 3 (.int .i64),.own .z)],[.z]⟩]),(137,[⟨[.z,.z,.z],[(.sl 3 (.int .i64),.own .z)],[.z,.z,.z]⟩]),(138,[⟨[.own .z,.z],[(h29,.own .z)],[.dead,.z]⟩]),(139,[⟨[.own .z,.z,.z],[(h11,.pr .z (.pr (.own .z) .z))],[.own .z,.z,.z]⟩]),(140,[⟨[.z,.z],[(.int .i64,.z)],[.z,.z]⟩]),(141,[⟨[.z],[(.bool,.z)],[.z]⟩]),(142,[⟨[.own .z],[],[.own .z]⟩]),(143,[⟨[.own .z],[(.sl 3 (.int .i64),.own .z)],[.dead]⟩]),(144,[⟨[.z,.z],[(.bool,.z)],[.z,.z]⟩]),(145,[⟨[.z,.z],[(.bool,.z)],[.z,.z]⟩]),(146,[⟨[.z,.z],[(.int .i64,.z)],[.z,.z]⟩]),(147,[⟨[.z,.z],[(.int .i64,.z)],[.z,.z]⟩]),(148,[⟨[.z,.z],[(.bool,.z)],[.z,.z]⟩]),(149,[⟨[.z,.z],[(.bool,.z)],[.z,.z]⟩]),(150,[⟨[.z,.z,.own .z],[(.sl 51 (.sl 3 (.int .i64)),.own (.own .z))],[.z,.z,.dead]⟩]),(151,[⟨[.z],[(.bool,.z)],[.z]⟩]),(152,[⟨[.z,.z],[(h11,.pr .z (.pr (.own .z) .z))],[.z,.z]⟩]),(155,[⟨[.z,.z,.z],[(.sl 3 (.int .i64),.own .z),(.bool,.z)],[.z,.z,.z]⟩]),(156,[⟨[.z,.z],[(.int .i64,.z)],[.z,.z]⟩]),(157,[⟨[],[(.sl 3 (.int .i64),.own .z)],[]⟩]),(158,[⟨[.z,.z],[(.bool,.z)],[.z,.z]⟩]),(159,[⟨[.z,.z],[(.sl 51 (.sl 3 (.int .i64)),.own .z)],[.z,.z]⟩]),(160,[⟨[.z,.z,.z],[(.int .i64,.z)],[.z,.z,.z]⟩]),(162,[⟨[.z],[(.bool,.z)],[.z]⟩]),(163,[⟨[.z,.z],[(.bool,.z)],[.z,.z]⟩]),(164,[⟨[.z,.z],[(.bool,.z)],[.z,.z]⟩]),(165,[⟨[.z,.z,.z],[(.sl 3 (.int .i64),.own .z),(.bool,.z)],[.z,.z,.z]⟩]),(166,[⟨[.z,.z],[(.int .i64,.z)],[.z,.z]⟩]),(177,[⟨[.z,.z],[(.sl 3 (.int .i64),.own .z)],[.z,.z]⟩]),(178,[⟨[.z,.z],[(.bool,.z)],[.z,.z]⟩]),(179,[⟨[.z,.z],[(.bool,.z)],[.z,.z]⟩]),(180,[⟨[.z,.z],[(.bool,.z)],[.z,.z]⟩]),(181,[⟨[],[(.sl 3 (.int .i64),.own .z)],[]⟩]),(191,[⟨[.z,.z],[(.int .i64,.z)],[.z,.z]⟩]),(197,[⟨[.z,.z],[(.int .u64,.z),(.int .u64,.z)],[.z,.z]⟩]),(198,[⟨[.z,.z],[(.int .i64,.z)],[.z,.z]⟩]),(204,[⟨[.z,.z],[(.int .u64,.z),(.int .u64,.z)],[.z,.z]⟩])]
def z0dc:List (Nat×List (Option Sh)):=[(3,[some (.sl 5 (.int .u8))]),(5,[some (.sl 5 (.int .u8))]),(6,[some (.sl 5 (.int .u8))]),(7,[some (h14),some (h21),some (h22)]),(8,[some (h14),some (h21),some (h22)]),(9,[some (h14),some (h21),some (h22)]),(10,[some (h14),some (h21),some (h22)]),(11,[some (h14),some (h21)]),(12,[some (h14),some (h21),some (h22)]),(18,[some (.sl 5 (.int .u8))]),(19,[some (.ptr h26),some (h14),some (h21)]),(20,[some (h14),some (h21),some (h22)]),(21,[some (h14),some (h21),some (h22)]),(22,[some (h14),some (h21),some (.sl 3 (.int .i64))]),(23,[some (h11)]),(24,[some (h22),some (.int .i64),some (.int .i64)]),(25,[some (h22)]),(28,[some (h22)]),(29,[some (.sl 5 (.int .u8))]),(30,[some (.ptr h26),some (.int .i64)]),(31,[some (.ptr h26)]),(32,[some (.ptr h26),some (.int .i64)]),(33,[some (h9),some (h21)]),(34,[]),(35,[some (.ptr h26)]),(36,[some (h14),some (h21),some (.sl 3 (.int .i64))]),(37,[some (.ptr h26),some (.int .i64)]),(38,[some (h14)]),(39,[some (h9),some (h21)]),(40,[some (h14)]),(41,[some (.int .i64),some (.int .i64),some (.int .i64)]),(42,[some (h14),some (h20),some (.sl 3 (.int .i64))]),(43,[some (h14)]),(44,[some (h9),some (h21)]),(45,[some (h14)]),(46,[some (.int .i64),some (.int .i64),some (.int .i64)]),(47,[some (h14),some (h20),some (.sl 3 (.int .i64))]),(48,[some (h14),some (h20),some (.sl 3 (.int .i64))]),(49,[some (h14),some (h21)]),(50,[some (.sl 3 (.int .i64))]),(51,[some (h14),some (h21),some (.sl 3 (.int .i64))]),(52,[some (h14),some (h11)]),(53,[some (.ptr h26),some (.int .i64),some (.int .i64)]),(54,[some (h9),some (h21)]),(55,[some (.ptr h26)]),(56,[some (.ptr h26)]),(57,[some (h9)]),(58,[some (h9),some (h11)]),(59,[some (h11),some (h11)]),(60,[some (h11)]),(61,[some (h21),none]),(62,[some (h20)]),(63,[some (h9),some (h20)]),(64,[some (h9)]),(65,[some (h12)]),(66,[some (h14),some (h20),some (.sl 3 (.int .i64))]),(67,[some (h14),some (.int .i64),some (.int .i64)]),(68,[some (h14)]),(69,[some (h20)]),(70,[some (.int .i64)]),(71,[some (h11),some (.sl 3 (.int .i64))]),(72,[some (h12)]),(73,[some (h9),some (h11)]),(74,[some (h11),some (h11)]),(75,[some (h11)]),(76,[some (h9)]),(77,[some (h9),some (h20)]),(78,[some (h11)]),(79,[some (h14),some (h20),some (.sl 3 (.int .i64))]),(80,[some (h14),some (h15),some (.sl 3 (.int .i64))]),(81,[some (.int .i64)]),(82,[some (h28),some (h14)]),(83,[some (h20)]),(84,[some (h14)]),(85,[some (.int .i64)]),(86,[some (h11),some (.sl 3 (.int .i64))]),(87,[some (h14),some (h20)]),(88,[some (h14),some (h21)]),(89,[some (.int .i64),some (.int .i64)]),(90,[some (h14),some (h11)]),(91,[some (.ptr h26),some (.int .i64)]),(92,[some (h9),some (h21)]),(93,[some (.int .i64),some (h29),some (.int .i64),some (.int .i64)]),(94,[some (h9)]),(95,[some (.ptr h26)]),(96,[some (h8)]),(97,[some (.sl 3 (.int .i64)),none]),(98,[some (.int .i64)]),(99,[some (.int .i64)]),(100,[some (.sl 3 (.int .i64))]),(101,[some (.int .i64),some (.int .i64)]),(102,[some (.sl 3 (.int .i64)),some (.sl 3 (.int .i64))]),(103,[some (.sl 3 (.int .i64))]),(104,[some (h21),none]),(105,[some (h9),some (h15),some (.int .i64)]),(106,[some (h15)]),(107,[some (.sl 3 (.int .i64)),some (.int .i64)]),(108,[some (h15),none]),(109,[some (h11)]),(110,[some (h11)]),(111,[some (h14),some (h20),some (.sl 3 (.int .i64))]),(112,[some (h14),some (h15),some (.sl 3 (.int .i64))]),(113,[some (.int .i64)]),(114,[some (.int .i64)]),(115,[some (h28),some (h14)]),(116,[some (h14)]),(117,[some (h20),some (.bool)]),(118,[some (h12),none]),(119,[some (h12),none]),(120,[some (h11),some (h11)]),(121,[some (.int .i64)]),(122,[some (.sl 3 (.int .i64)),some (.sl 3 (.int .i64))]),(123,[some (.sl 3 (.int .i64)),some (.int .i64)]),(124,[some (h8)]),(125,[some (h9),some (h11)]),(126,[some (h15)]),(127,[some (.sl 3 (.int .i64)),some (.int .i64)]),(128,[]),(129,[some (h14),some (h15)]),(130,[some (h14),some (h15),some (.int .i64),some (.sl 3 (.int .i64))]),(131,[some (h28)]),(132,[some (h28),some (h11)]),(133,[some (h14)]),(134,[some (h14),some (h15)]),(135,[some (h14),some (h20)]),(136,[some (h20)]),(137,[some (h9),some (h15),some (.int .i64)]),(138,[some (h29),some (h27)]),(139,[some (.ptr h26),some (.int .i64),some (.int .i64)]),(140,[some (.sl 3 (.int .i64)),none]),(141,[some (.int .i64)]),(142,[some (.sl 3 (.int .i64))]),(143,[some (.sl 3 (.int .i64))]),(144,[some (h11)]),(145,[some (h9),some (h11)]),(146,[some (.sl 3 (.int .i64)),some (.int .i64)]),(147,[some (h15),none]),(148,[some (h12),some (h11)]),(149,[some (h14),some (h15)]),(150,[some (h12),some (h15),some (.sl 3 (.int .i64))]),(151,[some (h28)]),(152,[some (h28),some (h11)]),(155,[some (h11),some (h11),some (.sl 3 (.int .i64))]),(156,[some (h28),some (.int .i64)]),(157,[]),(158,[some (.sl 51 (.sl 3 (.int .i64))),some (.sl 3 (.int .i64))]),(159,[some (h14),some (h15)]),(160,[some (h9),some (.int .i64),some (.int .i64)]),(162,[some (.int .i64)]),(163,[some (h12),none]),(164,[some (h11)]),(165,[some (.sl 3 (.int .i64)),some (h11),some (h11)]),(166,[some (h28),some (.int .i64)]),(177,[some (.sl 3 (.int .i64)),some (.int .i64)]),(178,[some (.sl 51 (.sl 3 (.int .i64))),none]),(179,[some (.sl 3 (.int .i64))]),(180,[some (.sl 3 (.int .i64)),some (.sl 3 (.int .i64))]),(181,[]),(191,[some (h12),none]),(197,[some (.int .u64),some (.int .u64)]),(198,[some (.sl 51 (.sl 3 (.int .i64))),none]),(204,[some (.int .u64),some (.int .u64)])]
noncomputable def E:Env:={ sh:=fun t=>z0b t z0dp,sigs:=fun f=>(z0b f z0cs).getD [],params:=fun f=>(z0b f z0dc).getD [],gives:=z16 prog }
theorem zi7:∀ t s,E.sh t=some s->ShOk prog s none t:=z09x (by kernel_rfl)
theorem mixed:prog.follows .mixedOrders=true:=by kernel_rfl
abbrev nL:Nat->Option Loop:=fun i=>z0b i []
abbrev nP:Nat->Option Pl:=fun i=>z0b i []
theorem fg {L : Nat -> Option Loop} {pl : Nat -> Option Pl} {f : FuncId} {fn : Func} {g : Sig} {us : List OV} {m : List (Sh × O)} {val : resD (outD m) g.res} {Q : Prop} (hf : prog.funcs[f]? = some fn) (h : Q) (hn : (fn.name == "runtime.NumGoroutine") = false := by kernel_rfl) (ho : g.outs = m.map (·.2) := by rfl) (hu : zj2 us m = true := by rfl) (e : fnV E L pl fn g us (ansK g.res m fun r => r = val) = Q := by kernel_rfl) : z16 prog f us (encR g.res val).1 (encO us m (encR g.res val).2) := zo1 zi7 (fun _ _ _ _ h => h) mixed hf hn rfl ho hu (Eq.mpr e h)
theorem fz {L : Nat -> Option Loop} {pl : Nat -> Option Pl} {f : FuncId} {fn : Func} {us : List OV} {l m : List (Sh × O)} {val : resD (outD m) l} {Q : Prop} (hf : prog.funcs[f]? = some fn) (h : Q) (hn : (fn.name == "runtime.NumGoroutine") = false := by kernel_rfl) (hu : zj2 us m = true := by rfl) (e : fnV E L pl fn ⟨m.map (·.2), l, m.map (·.2)⟩ us (ansK l m fun r => r = val) = Q := by kernel_rfl) : z16 prog f us (encR l val).1 (encO us m (encR l val).2) := zo1 zi7 (fun _ _ _ _ h => h) mixed hf hn rfl rfl hu (Eq.mpr e h)
theorem fy {f : FuncId} {fn : Func} {us : List OV} {l m : List (Sh × O)} {val : resD (outD m) l} {Q : Prop} (hf : prog.funcs[f]? = some fn) (h : Q) (hn : (fn.name == "runtime.NumGoroutine") = false := by kernel_rfl) (hu : zj2 us m = true := by rfl) (e : fnV E nL nP fn ⟨m.map (·.2), l, m.map (·.2)⟩ us (ansK l m fun r => r = val) = Q := by kernel_rfl) : z16 prog f us (encR l val).1 (encO us m (encR l val).2) := zo1 zi7 (fun _ _ _ _ h => h) mixed hf hn rfl rfl hu (Eq.mpr e h)
def z4g:List (Nat×Sh):=[(3,.int .i64),(4,.bool),(25,h31),(84,h30)]
def z43:List (Nat×List Sig):=[(119,[⟨[.own .z,.z],[(h31,.own .z)],[.dead,.z]⟩]),(120,[⟨[.z,.z],[(.bool,.z)],[.z,.z]⟩])]
def z44:List (Nat×List (Option Sh)):=[(119,[some (h31),none]),(120,[some (h30),some (h30)])]
noncomputable def E_slices_CompactFunc_Fact_tok_c_isameFact:Env:={ sh:=fun t=>z0b t z4g,sigs:=fun f=>(z0b f z43).getD [],params:=fun f=>(z0b f z44).getD [],gives:=z16 prog }
theorem z4d:∀ t s,E_slices_CompactFunc_Fact_tok_c_isameFact.sh t=some s->ShOk prog s none t:=z09x (by kernel_rfl)
theorem z58 {L : Nat -> Option Loop} {pl : Nat -> Option Pl} {f : FuncId} {fn : Func} {g : Sig} {us : List OV} {m : List (Sh × O)} {val : resD (outD m) g.res} {Q : Prop} (hf : prog.funcs[f]? = some fn) (h : Q) (hn : (fn.name == "runtime.NumGoroutine") = false := by kernel_rfl) (ho : g.outs = m.map (·.2) := by rfl) (hu : zj2 us m = true := by rfl) (e : fnV E_slices_CompactFunc_Fact_tok_c_isameFact L pl fn g us (ansK g.res m fun r => r = val) = Q := by kernel_rfl) : z16 prog f us (encR g.res val).1 (encO us m (encR g.res val).2) := zo1 z4d (fun _ _ _ _ h => h) mixed hf hn rfl ho hu (Eq.mpr e h)
def z59 (x0:List Int) (y0:Bool):Prop:=gZ 3 [⟨.sl 5 (.int .u8),.z,x0⟩] [⟨.bool,.z,y0⟩]
def z1q (x0:z02) (x1:List z0f) (x2:List z00) (y0:Bool):Prop:=gZ 7 [⟨h14,.z,x0⟩,⟨h21,.z,x1⟩,⟨h22,.z,x2⟩] [⟨.bool,.z,y0⟩]
def zd8 (x0:z02) (x1:List z0f) (x2:List z00) (y0:z02) (y1:Int) (y2:Bool):Prop:=gZ 20 [⟨h14,.z,x0⟩,⟨h21,.z,x1⟩,⟨h22,.z,x2⟩] [⟨h14,oI,y0⟩,⟨.int .i64,.z,y1⟩,⟨.bool,.z,y2⟩]
def z5w (x0:z02) (x1:z0f) (x2:List Int) (y0:z02) (y1:Int):Prop:=gZ 42 [⟨h14,.z,x0⟩,⟨h20,.z,x1⟩,⟨.sl 3 (.int .i64),.z,x2⟩] [⟨h14,oI,y0⟩,⟨.int .i64,.z,y1⟩]
def z1o (x0:z02) (y0:z02):Prop:=gZ 40 [⟨h14,.z,x0⟩] [⟨h14,oI,y0⟩]
def zcb (x0:List z00) (y0:List z00):Prop:=gZ 65 [⟨h12,.z,x0⟩] [⟨h12,oF,y0⟩]
def zfl (x0:z00) (y0:z00):Prop:=gZ 110 [⟨h11,.z,x0⟩] [⟨h11,.pr .z (.pr (.own .z) .z),y0⟩]
def z2c (x0:List Int) (y0:List Int):Prop:=gZ 50 [⟨.sl 3 (.int .i64),.z,x0⟩] [⟨.sl 3 (.int .i64),.own .z,y0⟩]
def z4v (x0:List z0s) (y0:List z0s):Prop:=gZ 64 [⟨h9,.z,x0⟩] [⟨h9,.own .z,y0⟩]
def zfd (x0:List z00) (y0:List z00):Prop:=gZ 72 [⟨h12,.z,x0⟩] [⟨h12,oF,y0⟩]
def z15 (x0:List z00) (x1:Unit) (y0:List z00):Prop:=z16 prog 119 [⟨h12,oF,x0⟩,⟨.fn 120 .unit,.z,x1⟩] [⟨h12,oF,y0⟩] [⟨h12,.dead,x0⟩,⟨.fn 120 .unit,.z,x1⟩]
def z1i (x0:List (zlf z00)) (x1:Unit) (y0:List (zlf z00)):Prop:=z16 prog 119 [⟨h31,.own .z,x0⟩,⟨.fn 120 .unit,.z,x1⟩] [⟨h31,.own .z,y0⟩] [⟨h31,.dead,x0⟩,⟨.fn 120 .unit,.z,x1⟩]
def zb9 (x0:zlf z00) (x1:zlf z00) (y0:Bool):Prop:=gZ 120 [⟨h30,.z,x0⟩,⟨h30,.z,x1⟩] [⟨.bool,.z,y0⟩]
def zfj (x0:z00) (x1:z00) (y0:Bool):Prop:=gZ 120 [⟨h11,.z,x0⟩,⟨h11,.z,x1⟩] [⟨.bool,.z,y0⟩]
def z5z (x0:z00) (x1:z00) (y0:Int):Prop:=gZ 59 [⟨h11,.z,x0⟩,⟨h11,.z,x1⟩] [⟨.int .i64,.z,y0⟩]
def zhq (x0:List Int) (y0:Int):Prop:=gZ 100 [⟨.sl 3 (.int .i64),.z,x0⟩] [⟨.int .i64,.z,y0⟩]
def z6y (x0:List Int) (x1:List Int) (y0:Int):Prop:=gZ 102 [⟨.sl 3 (.int .i64),.z,x0⟩,⟨.sl 3 (.int .i64),.z,x1⟩] [⟨.int .i64,.z,y0⟩]
def z6l (x0:Int) (x1:Int) (y0:Int):Prop:=gZ 101 [⟨.int .i64,.z,x0⟩,⟨.int .i64,.z,x1⟩] [⟨.int .i64,.z,y0⟩]
def z8n (x0:Int) (y0:Bool):Prop:=gZ 141 [⟨.int .i64,.z,x0⟩] [⟨.bool,.z,y0⟩]
def z0w (x0:List z00) (x1:Unit) (z0:List z00):Prop:=z16 prog 118 [⟨h12,oF,x0⟩,⟨.fn 59 .unit,.z,x1⟩] [] [⟨h12,oF,z0⟩,⟨.fn 59 .unit,.z,x1⟩]
def z9h (x0:z00) (x1:List Int) (y0:z00) (y1:Bool):Prop:=gZ 71 [⟨h11,.z,x0⟩,⟨.sl 3 (.int .i64),.z,x1⟩] [⟨h11,.pr .z (.pr (.own .z) .z),y0⟩,⟨.bool,.z,y1⟩]
def z3c (x0:Int) (y0:Bool):Prop:=gZ 99 [⟨.int .i64,.z,x0⟩] [⟨.bool,.z,y0⟩]
def z6i (x0:Int) (x1:Int) (x2:Int) (y0:Bool):Prop:=gZ 41 [⟨.int .i64,.z,x0⟩,⟨.int .i64,.z,x1⟩,⟨.int .i64,.z,x2⟩] [⟨.bool,.z,y0⟩]
def zgp (x0:Int) (y0:Int):Prop:=gZ 70 [⟨.int .i64,.z,x0⟩] [⟨.int .i64,.z,y0⟩]
def z4w (x0:z0f) (y0:List Int):Prop:=gZ 69 [⟨h20,.z,x0⟩] [⟨.sl 3 (.int .i64),.own .z,y0⟩]
def za9 (x0:z0f) (x1:Bool) (y0:List Int):Prop:=gZ 117 [⟨h20,.z,x0⟩,⟨.bool,.z,x1⟩] [⟨.sl 3 (.int .i64),.own .z,y0⟩]
def z26 (x0:List Int) (x1:Int) (y0:Bool):Prop:=gZ 107 [⟨.sl 3 (.int .i64),.z,x0⟩,⟨.int .i64,.z,x1⟩] [⟨.bool,.z,y0⟩]
def z5p (x0:List Int) (x1:Int) (y0:Int):Prop:=gZ 146 [⟨.sl 3 (.int .i64),.z,x0⟩,⟨.int .i64,.z,x1⟩] [⟨.int .i64,.z,y0⟩]
def z7p (x0:List z00) (y0:List Int):Prop:=gZ 106 [⟨h15,.z,x0⟩] [⟨.sl 3 (.int .i64),.own .z,y0⟩]
def z2y (x0:List Int) (y0:List Int):Prop:=z16 prog 143 [⟨.sl 3 (.int .i64),.own .z,x0⟩] [⟨.sl 3 (.int .i64),.own .z,y0⟩] [⟨.sl 3 (.int .i64),.dead,x0⟩]
def z3o (x0:List Int) (z0:List Int):Prop:=z16 prog 142 [⟨.sl 3 (.int .i64),.own .z,x0⟩] [] [⟨.sl 3 (.int .i64),.own .z,z0⟩]
def zju (x0:z02) (y0:Int):Prop:=gZ 68 [⟨h14,.z,x0⟩] [⟨.int .i64,.z,y0⟩]
def z8r (x0:z02) (y0:List Int):Prop:=gZ 116 [⟨h14,.z,x0⟩] [⟨.sl 3 (.int .i64),.own .z,y0⟩]
def zi0 (x0:List Int) (y0:List Int):Prop:=gZ 103 [⟨.sl 3 (.int .i64),.z,x0⟩] [⟨.sl 3 (.int .i64),.own .z,y0⟩]
def z3q (x0:Int) (y0:Int) (y1:Bool):Prop:=gZ 114 [⟨.int .i64,.z,x0⟩] [⟨.int .i64,.z,y0⟩,⟨.bool,.z,y1⟩]
def zmc (x0:z02) (x1:Int) (x2:Int) (y0:z02) (y1:Int):Prop:=gZ 67 [⟨h14,.z,x0⟩,⟨.int .i64,.z,x1⟩,⟨.int .i64,.z,x2⟩] [⟨h14,oI,y0⟩,⟨.int .i64,.z,y1⟩]
def z5o (x0:zah) (x1:z02) (y0:z02) (y1:Bool):Prop:=gZ 115 [⟨h28,.z,x0⟩,⟨h14,.z,x1⟩] [⟨h14,oI,y0⟩,⟨.bool,.z,y1⟩]
def zcx (x0:zah) (x1:z00) (y0:z00):Prop:=gZ 152 [⟨h28,.z,x0⟩,⟨h11,.z,x1⟩] [⟨h11,.pr .z (.pr (.own .z) .z),y0⟩]
def zbp (x0:zah) (x1:Int) (y0:Int):Prop:=gZ 166 [⟨h28,.z,x0⟩,⟨.int .i64,.z,x1⟩] [⟨.int .i64,.z,y0⟩]
def z3e (x0:zah) (y0:Bool):Prop:=gZ 151 [⟨h28,.z,x0⟩] [⟨.bool,.z,y0⟩]
def z2b (x0:z02) (y0:Bool):Prop:=gZ 38 [⟨h14,.z,x0⟩] [⟨.bool,.z,y0⟩]
def z7d (x0:z00) (y0:List Int):Prop:=gZ 60 [⟨h11,.z,x0⟩] [⟨.sl 3 (.int .i64),.own .z,y0⟩]
def zde (x0:List z0s) (x1:z00) (y0:Bool):Prop:=gZ 58 [⟨h9,.z,x0⟩,⟨h11,.z,x1⟩] [⟨.bool,.z,y0⟩]
def z1c (x0:List Int) (x1:Unit) (y0:Bool):Prop:=gZ 97 [⟨.sl 3 (.int .i64),.z,x0⟩,⟨.fn 98 .unit,.z,x1⟩] [⟨.bool,.z,y0⟩]
def z1n (x0:List Int) (x1:Unit) (y0:Int):Prop:=gZ 140 [⟨.sl 3 (.int .i64),.z,x0⟩,⟨.fn 98 .unit,.z,x1⟩] [⟨.int .i64,.z,y0⟩]
def z3l (x0:Int) (y0:Bool):Prop:=gZ 98 [⟨.int .i64,.z,x0⟩] [⟨.bool,.z,y0⟩]
def z2e (x0:List z0s) (y0:Bool):Prop:=gZ 57 [⟨h9,.z,x0⟩] [⟨.bool,.z,y0⟩]
def z82 (x0:z0s) (y0:Bool):Prop:=gZ 96 [⟨h8,.z,x0⟩] [⟨.bool,.z,y0⟩]
def zjz (x0:Int) (y0:Bool):Prop:=gZ 113 [⟨.int .i64,.z,x0⟩] [⟨.bool,.z,y0⟩]
def z5n (x0:z02) (x1:z0f) (x2:List Int) (y0:Bool):Prop:=gZ 66 [⟨h14,.z,x0⟩,⟨h20,.z,x1⟩,⟨.sl 3 (.int .i64),.z,x2⟩] [⟨.bool,.z,y0⟩]
def zbj (x0:z02) (x1:List z00) (x2:List Int) (y0:Bool):Prop:=gZ 112 [⟨h14,.z,x0⟩,⟨h15,.z,x1⟩,⟨.sl 3 (.int .i64),.z,x2⟩] [⟨.bool,.z,y0⟩]
def zdq (x0:List z00) (x1:List z00) (x2:List Int) (y0:List (List Int)):Prop:=z16 prog 150 [⟨h12,.z,x0⟩,⟨h15,.z,x1⟩,⟨.sl 3 (.int .i64),.own .z,x2⟩] [⟨.sl 51 (.sl 3 (.int .i64)),.own (.own .z),y0⟩] [⟨h12,.z,x0⟩,⟨h15,.z,x1⟩,⟨.sl 3 (.int .i64),.dead,x2⟩]
def zy6 (x0:List Int) (x1:z00) (x2:z00) (y0:List Int) (y1:Bool):Prop:=gZ 165 [⟨.sl 3 (.int .i64),.z,x0⟩,⟨h11,.z,x1⟩,⟨h11,.z,x2⟩] [⟨.sl 3 (.int .i64),.own .z,y0⟩,⟨.bool,.z,y1⟩]
def z8i (x0:z02) (x1:List z00) (y0:Bool):Prop:=gZ 149 [⟨h14,.z,x0⟩,⟨h15,.z,x1⟩] [⟨.bool,.z,y0⟩]
def zbt (x0:List z0s) (x1:List z00) (x2:Int) (y0:Bool):Prop:=gZ 105 [⟨h9,.z,x0⟩,⟨h15,.z,x1⟩,⟨.int .i64,.z,x2⟩] [⟨.bool,.z,y0⟩]
def z1j (x0:List z00) (x1:List z0s×Unit) (y0:Bool):Prop:=gZ 108 [⟨h15,.z,x0⟩,⟨.fn 144 h32,.z,x1⟩] [⟨.bool,.z,y0⟩]
def z1x (x0:List z00) (x1:List z0s×Unit) (y0:Int):Prop:=gZ 147 [⟨h15,.z,x0⟩,⟨.fn 144 h32,.z,x1⟩] [⟨.int .i64,.z,y0⟩]
def z6q (x0:z00) (x1:List z0s) (y0:Bool):Prop:=gZ 144 [⟨h11,.z,x0⟩,⟨.ptr h9,.z,x1⟩] [⟨.bool,.z,y0⟩]
def zcv (x0:List z0s) (x1:z00) (y0:Bool):Prop:=gZ 145 [⟨h9,.z,x0⟩,⟨h11,.z,x1⟩] [⟨.bool,.z,y0⟩]
def z1a (x0:List Int) (x1:Unit) (y0:Bool):Prop:=gZ 97 [⟨.sl 3 (.int .i64),.z,x0⟩,⟨.fn 162 .unit,.z,x1⟩] [⟨.bool,.z,y0⟩]
def z1m (x0:List Int) (x1:Unit) (y0:Int):Prop:=gZ 140 [⟨.sl 3 (.int .i64),.z,x0⟩,⟨.fn 162 .unit,.z,x1⟩] [⟨.int .i64,.z,y0⟩]
def z3m (x0:Int) (y0:Bool):Prop:=gZ 162 [⟨.int .i64,.z,x0⟩] [⟨.bool,.z,y0⟩]
def zgz (x0:z02) (x1:z0f) (x2:List Int) (y0:Bool):Prop:=gZ 111 [⟨h14,.z,x0⟩,⟨h20,.z,x1⟩,⟨.sl 3 (.int .i64),.z,x2⟩] [⟨.bool,.z,y0⟩]
def zmf (x0:List z00) (x1:z00) (y0:Bool):Prop:=gZ 148 [⟨h12,.z,x0⟩,⟨h11,.z,x1⟩] [⟨.bool,.z,y0⟩]
def z1k (x0:List z00) (x1:z00×Unit) (y0:Bool):Prop:=gZ 163 [⟨h12,.z,x0⟩,⟨.fn 164 h33,.z,x1⟩] [⟨.bool,.z,y0⟩]
def z1z (x0:List z00) (x1:z00×Unit) (y0:Int):Prop:=gZ 191 [⟨h12,.z,x0⟩,⟨.fn 164 h33,.z,x1⟩] [⟨.int .i64,.z,y0⟩]
def z9z (x0:z00) (x1:z00) (y0:Bool):Prop:=gZ 164 [⟨h11,.z,x0⟩,⟨.ptr h11,.z,x1⟩] [⟨.bool,.z,y0⟩]
def z32 (x0:List z0s) (x1:z0f) (y0:Bool):Prop:=gZ 63 [⟨h9,.z,x0⟩,⟨h20,.z,x1⟩] [⟨.bool,.z,y0⟩]
def z0v (x0:List z00) (x1:List z0s×Unit) (y0:Bool):Prop:=gZ 108 [⟨h15,.z,x0⟩,⟨.fn 109 h32,.z,x1⟩] [⟨.bool,.z,y0⟩]
def z0y (x0:List z00) (x1:List z0s×Unit) (y0:Int):Prop:=gZ 147 [⟨h15,.z,x0⟩,⟨.fn 109 h32,.z,x1⟩] [⟨.int .i64,.z,y0⟩]
def z1y (x0:z00) (x1:List z0s) (y0:Bool):Prop:=gZ 109 [⟨h11,.z,x0⟩,⟨.ptr h9,.z,x1⟩] [⟨.bool,.z,y0⟩]
def z36 (x0:List z0s) (x1:List z0f) (y0:Bool):Prop:=gZ 39 [⟨h9,.z,x0⟩,⟨h21,.z,x1⟩] [⟨.bool,.z,y0⟩]
def z0q (x0:List z0f) (x1:List z0s×Unit) (y0:Bool):Prop:=gZ 61 [⟨h21,.z,x0⟩,⟨.fn 62 h32,.z,x1⟩] [⟨.bool,.z,y0⟩]
def z0r (x0:List z0f) (x1:List z0s×Unit) (y0:Int):Prop:=gZ 104 [⟨h21,.z,x0⟩,⟨.fn 62 h32,.z,x1⟩] [⟨.int .i64,.z,y0⟩]
def z1e (x0:z0f) (x1:List z0s) (y0:Bool):Prop:=gZ 62 [⟨h20,.z,x0⟩,⟨.ptr h9,.z,x1⟩] [⟨.bool,.z,y0⟩]
def z3f (x0:z02) (x1:List z0f) (x2:List z00) (y0:List z00):Prop:=gZ 12 [⟨h14,.z,x0⟩,⟨h21,.z,x1⟩,⟨h22,.z,x2⟩] [⟨h22,.z,y0⟩]
def z52 (x0:List z00) (x1:Int) (x2:Int) (y0:List z00):Prop:=z16 prog 24 [⟨h22,.own .z,x0⟩,⟨.int .i64,.z,x1⟩,⟨.int .i64,.z,x2⟩] [⟨h22,.own .z,y0⟩] [⟨h22,.dead,x0⟩,⟨.int .i64,.z,x1⟩,⟨.int .i64,.z,x2⟩]
def z4j (x0:List z00) (y0:List z00):Prop:=gZ 25 [⟨h22,.z,x0⟩] [⟨h22,.own .z,y0⟩]
def zjd (x0:z00) (y0:z00):Prop:=gZ 23 [⟨h11,.z,x0⟩] [⟨h11,.pr .z (.pr (.own .z) .z),y0⟩]
def zul (x0:z02) (x1:List z0f) (y0:zv1) (y1:Bool):Prop:=gZ 11 [⟨h14,.z,x0⟩,⟨h21,.z,x1⟩] [⟨h25,.pr oI (.pr .z (.pr oF .z)),y0⟩,⟨.bool,.z,y1⟩]
def z98 (x0:z02) (x1:List z0f) (x2:List Int) (y0:zv1) (y1:Bool):Prop:=gZ 22 [⟨h14,.z,x0⟩,⟨h21,.z,x1⟩,⟨.sl 3 (.int .i64),.z,x2⟩] [⟨h25,.pr oI (.pr .z (.pr oF .z)),y0⟩,⟨.bool,.z,y1⟩]
def zd5 (x0:z02) (x1:List z0f) (y0:List z00):Prop:=gZ 49 [⟨h14,.z,x0⟩,⟨h21,.z,x1⟩] [⟨h22,oF,y0⟩]
def z93 (x0:z02) (x1:z0f) (y0:List (List Int)):Prop:=gZ 87 [⟨h14,.z,x0⟩,⟨h20,.z,x1⟩] [⟨.sl 51 (.sl 3 (.int .i64)),.own (.own .z),y0⟩]
def zdb (x0:z02) (x1:List z00) (y0:List (List Int)):Prop:=gZ 134 [⟨h14,.z,x0⟩,⟨h15,.z,x1⟩] [⟨.sl 51 (.sl 3 (.int .i64)),.own (.own .z),y0⟩]
def zeh (x0:List (List Int)) (x1:List Int) (y0:Bool):Prop:=gZ 158 [⟨.sl 51 (.sl 3 (.int .i64)),.z,x0⟩,⟨.sl 3 (.int .i64),.z,x1⟩] [⟨.bool,.z,y0⟩]
def z1d (x0:List (List Int)) (x1:TUf) (y0:Bool):Prop:=gZ 178 [⟨.sl 51 (.sl 3 (.int .i64)),.z,x0⟩,⟨.fn 179 h34,.z,x1⟩] [⟨.bool,.z,y0⟩]
def z1l (x0:List (List Int)) (x1:TUf) (y0:Int):Prop:=gZ 198 [⟨.sl 51 (.sl 3 (.int .i64)),.z,x0⟩,⟨.fn 179 h34,.z,x1⟩] [⟨.int .i64,.z,y0⟩]
def z64 (x0:List Int) (x1:List Int) (y0:Bool):Prop:=gZ 179 [⟨.sl 3 (.int .i64),.z,x0⟩,⟨.ptr (.sl 3 (.int .i64)),.z,x1⟩] [⟨.bool,.z,y0⟩]
def z8h (x0:List Int) (x1:List Int) (y0:Bool):Prop:=gZ 180 [⟨.sl 3 (.int .i64),.z,x0⟩,⟨.sl 3 (.int .i64),.z,x1⟩] [⟨.bool,.z,y0⟩]
def z9b  (y0:List Int):Prop:=gZ 157 [] [⟨.sl 3 (.int .i64),.own .z,y0⟩]
def z7m (x0:List Int) (x1:Int) (y0:List Int):Prop:=gZ 177 [⟨.sl 3 (.int .i64),.z,x0⟩,⟨.int .i64,.z,x1⟩] [⟨.sl 3 (.int .i64),.own .z,y0⟩]
def zhl (x0:Int) (x1:Int) (y0:Int) (y1:Int):Prop:=gZ 197 [⟨.int .u64,.z,x0⟩,⟨.int .u64,.z,x1⟩] [⟨.int .u64,.z,y0⟩,⟨.int .u64,.z,y1⟩]
def z9c (x0:Int) (x1:Int) (y0:Int) (y1:Int):Prop:=gZ 204 [⟨.int .u64,.z,x0⟩,⟨.int .u64,.z,x1⟩] [⟨.int .u64,.z,y0⟩,⟨.int .u64,.z,y1⟩]
def z6s (x0:z02) (x1:List z0f) (x2:List z00) (y0:Bool):Prop:=gZ 10 [⟨h14,.z,x0⟩,⟨h21,.z,x1⟩,⟨h22,.z,x2⟩] [⟨.bool,.z,y0⟩]
def zcy (x0:z02) (x1:List z0f) (x2:List z00) (y0:z02) (y1:Int) (y2:Bool):Prop:=gZ 21 [⟨h14,.z,x0⟩,⟨h21,.z,x1⟩,⟨h22,.z,x2⟩] [⟨h14,.z,y0⟩,⟨.int .i64,.z,y1⟩,⟨.bool,.z,y2⟩]
def z68 (x0:z02) (x1:z0f) (x2:List Int) (y0:z02) (y1:Int):Prop:=gZ 48 [⟨h14,.z,x0⟩,⟨h20,.z,x1⟩,⟨.sl 3 (.int .i64),.z,x2⟩] [⟨h14,.z,y0⟩,⟨.int .i64,.z,y1⟩]
def z9w (x0:z02) (y0:z02):Prop:=gZ 45 [⟨h14,.z,x0⟩] [⟨h14,oI,y0⟩]
def zhk (x0:z00) (y0:z00):Prop:=gZ 78 [⟨h11,.z,x0⟩] [⟨h11,.pr .z (.pr (.own .z) .z),y0⟩]
def zl6 (x0:z02) (x1:z00) (y0:z02):Prop:=gZ 52 [⟨h14,.z,x0⟩,⟨h11,.z,x1⟩] [⟨h14,.z,y0⟩]
def z62 (x0:z00) (x1:z00) (y0:Int):Prop:=gZ 74 [⟨h11,.z,x0⟩,⟨h11,.z,x1⟩] [⟨.int .i64,.z,y0⟩]
def zl5 (x0:List Int) (x1:List Int) (y0:Int):Prop:=gZ 122 [⟨.sl 3 (.int .i64),.z,x0⟩,⟨.sl 3 (.int .i64),.z,x1⟩] [⟨.int .i64,.z,y0⟩]
def zhx (x0:z02) (x1:z00) (y0:Int):Prop:=gZ 90 [⟨h14,.z,x0⟩,⟨h11,.z,x1⟩] [⟨.int .i64,.z,y0⟩]
def z9j (x0:z00) (x1:List Int) (y0:z00) (y1:Bool):Prop:=gZ 86 [⟨h11,.z,x0⟩,⟨.sl 3 (.int .i64),.z,x1⟩] [⟨h11,.pr .z (.pr (.own .z) .z),y0⟩,⟨.bool,.z,y1⟩]
def z3d (x0:Int) (y0:Bool):Prop:=gZ 121 [⟨.int .i64,.z,x0⟩] [⟨.bool,.z,y0⟩]
def z4t (x0:Int) (x1:Int) (x2:Int) (y0:Bool):Prop:=gZ 46 [⟨.int .i64,.z,x0⟩,⟨.int .i64,.z,x1⟩,⟨.int .i64,.z,x2⟩] [⟨.bool,.z,y0⟩]
def z3v (x0:Int) (y0:Int) (y1:Bool):Prop:=gZ 81 [⟨.int .i64,.z,x0⟩] [⟨.int .i64,.z,y0⟩,⟨.bool,.z,y1⟩]
def za1 (x0:Int) (y0:Int):Prop:=gZ 85 [⟨.int .i64,.z,x0⟩] [⟨.int .i64,.z,y0⟩]
def zjm (x0:z02) (y0:Int):Prop:=gZ 84 [⟨h14,.z,x0⟩] [⟨.int .i64,.z,y0⟩]
def z8d (x0:z02) (y0:List Int):Prop:=gZ 133 [⟨h14,.z,x0⟩] [⟨.sl 3 (.int .i64),.z,y0⟩]
def zi9 (x0:List Int) (x1:Int) (y0:List Int):Prop:=gZ 123 [⟨.sl 3 (.int .i64),.z,x0⟩,⟨.int .i64,.z,x1⟩] [⟨.sl 3 (.int .i64),.z,y0⟩]
def z5h (x0:z00) (y0:List Int):Prop:=gZ 75 [⟨h11,.z,x0⟩] [⟨.sl 3 (.int .i64),.z,y0⟩]
def z35 (x0:z0f) (y0:List Int):Prop:=gZ 83 [⟨h20,.z,x0⟩] [⟨.sl 3 (.int .i64),.own .z,y0⟩]
def zfi (x0:List Int) (x1:Int) (y0:Bool):Prop:=gZ 127 [⟨.sl 3 (.int .i64),.z,x0⟩,⟨.int .i64,.z,x1⟩] [⟨.bool,.z,y0⟩]
def z4n (x0:List z00) (y0:List Int):Prop:=gZ 126 [⟨h15,.z,x0⟩] [⟨.sl 3 (.int .i64),.z,y0⟩]
def z5m (x0:zah) (x1:z02) (y0:z02) (y1:Bool):Prop:=gZ 82 [⟨h28,.z,x0⟩,⟨h14,.z,x1⟩] [⟨h14,oI,y0⟩,⟨.bool,.z,y1⟩]
def zd2 (x0:zah) (x1:z00) (y0:z00):Prop:=gZ 132 [⟨h28,.z,x0⟩,⟨h11,.z,x1⟩] [⟨h11,.pr .z (.pr (.own .z) .z),y0⟩]
def zbc (x0:zah) (x1:Int) (y0:Int):Prop:=gZ 156 [⟨h28,.z,x0⟩,⟨.int .i64,.z,x1⟩] [⟨.int .i64,.z,y0⟩]
def z3g (x0:zah) (y0:Bool):Prop:=gZ 131 [⟨h28,.z,x0⟩] [⟨.bool,.z,y0⟩]
def z2a (x0:z02) (y0:Bool):Prop:=gZ 43 [⟨h14,.z,x0⟩] [⟨.bool,.z,y0⟩]
def z1g (x0:List z0s) (y0:Bool):Prop:=gZ 76 [⟨h9,.z,x0⟩] [⟨.bool,.z,y0⟩]
def z8m (x0:z0s) (y0:Bool):Prop:=gZ 124 [⟨h8,.z,x0⟩] [⟨.bool,.z,y0⟩]
def zct (x0:List z0s) (x1:z00) (y0:Bool):Prop:=gZ 73 [⟨h9,.z,x0⟩,⟨h11,.z,x1⟩] [⟨.bool,.z,y0⟩]
def z3x (x0:z02) (x1:z0f) (x2:List Int) (y0:Bool):Prop:=gZ 47 [⟨h14,.z,x0⟩,⟨h20,.z,x1⟩,⟨.sl 3 (.int .i64),.z,x2⟩] [⟨.bool,.z,y0⟩]
def zbb (x0:z02) (x1:List z00) (x2:List Int) (y0:Bool):Prop:=gZ 80 [⟨h14,.z,x0⟩,⟨h15,.z,x1⟩,⟨.sl 3 (.int .i64),.z,x2⟩] [⟨.bool,.z,y0⟩]
def zdr (x0:z02) (x1:List z00) (x2:Int) (x3:List Int) (y0:List (List Int)):Prop:=gZ 130 [⟨h14,.z,x0⟩,⟨h15,.z,x1⟩,⟨.int .i64,.z,x2⟩,⟨.sl 3 (.int .i64),.z,x3⟩] [⟨.sl 51 (.sl 3 (.int .i64)),.own (.own .z),y0⟩]
def zp6 (x0:z00) (x1:z00) (x2:List Int) (y0:List Int) (y1:Bool):Prop:=gZ 155 [⟨h11,.z,x0⟩,⟨h11,.z,x1⟩,⟨.sl 3 (.int .i64),.z,x2⟩] [⟨.sl 3 (.int .i64),.own .z,y0⟩,⟨.bool,.z,y1⟩]
def zeb  (y0:Int):Prop:=gZ 128 [] [⟨.int .i64,.z,y0⟩]
def znr (x0:z02) (x1:List z00) (y0:Bool):Prop:=gZ 129 [⟨h14,.z,x0⟩,⟨h15,.z,x1⟩] [⟨.bool,.z,y0⟩]
def z7e (x0:List z0s) (x1:z00) (y0:Bool):Prop:=gZ 125 [⟨h9,.z,x0⟩,⟨h11,.z,x1⟩] [⟨.bool,.z,y0⟩]
def zgr (x0:z02) (x1:z0f) (x2:List Int) (y0:Bool):Prop:=gZ 79 [⟨h14,.z,x0⟩,⟨h20,.z,x1⟩,⟨.sl 3 (.int .i64),.z,x2⟩] [⟨.bool,.z,y0⟩]
def z31 (x0:List z0s) (x1:z0f) (y0:Bool):Prop:=gZ 77 [⟨h9,.z,x0⟩,⟨h20,.z,x1⟩] [⟨.bool,.z,y0⟩]
def z1r (x0:List z0s) (x1:List z0f) (y0:Bool):Prop:=gZ 44 [⟨h9,.z,x0⟩,⟨h21,.z,x1⟩] [⟨.bool,.z,y0⟩]
def z4p (x0:z02) (x1:List z0f) (x2:List z00) (y0:Int) (y1:Int) (y2:Bool):Prop:=gZ 9 [⟨h14,.z,x0⟩,⟨h21,.z,x1⟩,⟨h22,.z,x2⟩] [⟨.int .i64,.z,y0⟩,⟨.int .i64,.z,y1⟩,⟨.bool,.z,y2⟩]
def z4s (x0:z02) (x1:List z0f) (x2:List z00) (y0:Int) (y1:Int) (y2:Bool):Prop:=gZ 8 [⟨h14,.z,x0⟩,⟨h21,.z,x1⟩,⟨h22,.z,x2⟩] [⟨.int .i64,.z,y0⟩,⟨.int .i64,.z,y1⟩,⟨.bool,.z,y2⟩]
def z9s (x0:List Int) (y0:z02) (y1:List z0f) (y2:List z00):Prop:=gZ 6 [⟨.sl 5 (.int .u8),.z,x0⟩] [⟨h14,.z,y0⟩,⟨h21,.z,y1⟩,⟨h22,.z,y2⟩]
def zbn (x0:List Int×Int×Int×Unit) (x1:z02) (x2:List z0f) (y0:List z00) (z0:List Int×Int×Int×Unit):Prop:=z16 prog 19 [⟨.ptr h26,.own .z,x0⟩,⟨h14,.z,x1⟩,⟨h21,.z,x2⟩] [⟨h22,.z,y0⟩] [⟨.ptr h26,.own .z,z0⟩,⟨h14,.z,x1⟩,⟨h21,.z,x2⟩]
def z3n (x0:List Int×Int×Int×Unit) (x1:Int) (y0:Bool) (z0:List Int×Int×Int×Unit):Prop:=z16 prog 32 [⟨.ptr h26,.own .z,x0⟩,⟨.int .i64,.z,x1⟩] [⟨.bool,.z,y0⟩] [⟨.ptr h26,.own .z,z0⟩,⟨.int .i64,.z,x1⟩]
def z0k (x0:List Int×Int×Int×Unit) (x1:Int) (y0:Int) (z0:List Int×Int×Int×Unit):Prop:=z16 prog 37 [⟨.ptr h26,.own .z,x0⟩,⟨.int .i64,.z,x1⟩] [⟨.int .i64,.z,y0⟩] [⟨.ptr h26,.own .z,z0⟩,⟨.int .i64,.z,x1⟩]
def z4o (x0:List Int×Int×Int×Unit) (y0:Int) (z0:List Int×Int×Int×Unit):Prop:=z16 prog 56 [⟨.ptr h26,.own .z,x0⟩] [⟨.int .i64,.z,y0⟩] [⟨.ptr h26,.own .z,z0⟩]
def zmg (x0:List z00) (y0:List z00):Prop:=gZ 28 [⟨h22,.z,x0⟩] [⟨h22,oF,y0⟩]
def ze6 (x0:z02) (x1:List z0f) (x2:List Int) (y0:zv1) (y1:Bool):Prop:=gZ 36 [⟨h14,.z,x0⟩,⟨h21,.z,x1⟩,⟨.sl 3 (.int .i64),.z,x2⟩] [⟨h25,.pr .z (.pr .z (.pr (.own .z) .z)),y0⟩,⟨.bool,.z,y1⟩]
def zut (x0:z02) (x1:List z0f) (x2:List Int) (y0:zv1) (y1:Bool):Prop:=gZ 51 [⟨h14,.z,x0⟩,⟨h21,.z,x1⟩,⟨.sl 3 (.int .i64),.z,x2⟩] [⟨h25,.pr .z (.pr .z (.pr (.own .z) .z)),y0⟩,⟨.bool,.z,y1⟩]
def zos (x0:Int) (x1:Int) (y0:Int):Prop:=gZ 89 [⟨.int .i64,.z,x0⟩,⟨.int .i64,.z,x1⟩] [⟨.int .i64,.z,y0⟩]
def zq2 (x0:z02) (x1:List z0f) (y0:List z00):Prop:=gZ 88 [⟨h14,.z,x0⟩,⟨h21,.z,x1⟩] [⟨h22,.own .z,y0⟩]
def z9e (x0:z02) (x1:z0f) (y0:List (List Int)):Prop:=gZ 135 [⟨h14,.z,x0⟩,⟨h20,.z,x1⟩] [⟨.sl 51 (.sl 3 (.int .i64)),.own .z,y0⟩]
def zd7 (x0:z02) (x1:List z00) (y0:List (List Int)):Prop:=gZ 159 [⟨h14,.z,x0⟩,⟨h15,.z,x1⟩] [⟨.sl 51 (.sl 3 (.int .i64)),.own .z,y0⟩]
def zjg  (y0:List Int):Prop:=gZ 181 [] [⟨.sl 3 (.int .i64),.own .z,y0⟩]
def zlj (x0:List Int) (y0:List Int×Int×Int×Unit) (y1:z02) (y2:List z0f):Prop:=gZ 18 [⟨.sl 5 (.int .u8),.z,x0⟩] [⟨.ptr h26,.own .z,y0⟩,⟨h14,oI,y1⟩,⟨h21,.z,y2⟩]
def z7z (x0:List Int×Int×Int×Unit) (y0:List z0f) (z0:List Int×Int×Int×Unit):Prop:=z16 prog 35 [⟨.ptr h26,.own .z,x0⟩] [⟨h21,.z,y0⟩] [⟨.ptr h26,.own .z,z0⟩]
def z5q (x0:List z0s) (x1:List z0f) (y0:Bool):Prop:=gZ 33 [⟨h9,.z,x0⟩,⟨h21,.z,x1⟩] [⟨.bool,.z,y0⟩]
def z7n (x0:List z0s) (x1:List z0f) (y0:z29) (y1:Bool):Prop:=gZ 54 [⟨h9,.z,x0⟩,⟨h21,.z,x1⟩] [⟨h27,.z,y0⟩,⟨.bool,.z,y1⟩]
def zcw (x0:Int) (x1:List z29) (x2:Int) (x3:Int) (y0:Bool):Prop:=gZ 93 [⟨.int .i64,.z,x0⟩,⟨h29,.z,x1⟩,⟨.int .i64,.z,x2⟩,⟨.int .i64,.z,x3⟩] [⟨.bool,.z,y0⟩]
def za5 (x0:List z0s) (y0:Int):Prop:=gZ 94 [⟨h9,.z,x0⟩] [⟨.int .i64,.z,y0⟩]
def za7 (x0:List z0s) (x1:List z0f) (y0:List z29):Prop:=gZ 92 [⟨h9,.z,x0⟩,⟨h21,.z,x1⟩] [⟨h29,.own .z,y0⟩]
def zau (x0:List z29) (x1:z29) (y0:List z29):Prop:=z16 prog 138 [⟨h29,.own .z,x0⟩,⟨h27,.z,x1⟩] [⟨h29,.own .z,y0⟩] [⟨h29,.dead,x0⟩,⟨h27,.z,x1⟩]
def z9q (x0:List z0s) (x1:List z00) (x2:Int) (y0:List Int):Prop:=gZ 137 [⟨h9,.z,x0⟩,⟨h15,.z,x1⟩,⟨.int .i64,.z,x2⟩] [⟨.sl 3 (.int .i64),.own .z,y0⟩]
def za6 (x0:List z0s) (x1:Int) (x2:Int) (y0:Int):Prop:=gZ 160 [⟨h9,.z,x0⟩,⟨.int .i64,.z,x1⟩,⟨.int .i64,.z,x2⟩] [⟨.int .i64,.z,y0⟩]
def z6z (x0:z0f) (y0:List Int):Prop:=gZ 136 [⟨h20,.z,x0⟩] [⟨.sl 3 (.int .i64),.own .z,y0⟩]
def zb6  (y0:List z0s):Prop:=gZ 34 [] [⟨h9,.own .z,y0⟩]
def zd4 (x0:List Int×Int×Int×Unit) (y0:List z0f) (z0:List Int×Int×Int×Unit):Prop:=z16 prog 55 [⟨.ptr h26,.own .z,x0⟩] [⟨h21,oE,y0⟩] [⟨.ptr h26,.own .z,z0⟩]
def zef (x0:List Int×Int×Int×Unit) (y0:z0f) (z0:List Int×Int×Int×Unit):Prop:=z16 prog 95 [⟨.ptr h26,.own .z,x0⟩] [⟨h20,oD,y0⟩] [⟨.ptr h26,.own .z,z0⟩]
def z6n (x0:List Int×Int×Int×Unit) (x1:Int) (x2:Int) (y0:z00) (z0:List Int×Int×Int×Unit):Prop:=z16 prog 139 [⟨.ptr h26,.own .z,x0⟩,⟨.int .i64,.z,x1⟩,⟨.int .i64,.z,x2⟩] [⟨h11,.pr .z (.pr (.own .z) .z),y0⟩] [⟨.ptr h26,.own .z,z0⟩,⟨.int .i64,.z,x1⟩,⟨.int .i64,.z,x2⟩]
def z6g (x0:List z00) (y0:List Int) (z0:List z00):Prop:=z16 prog 126 [⟨h15,oF,x0⟩] [⟨.sl 3 (.int .i64),.z,y0⟩] [⟨h15,oF,z0⟩]
def z9l (x0:List Int×Int×Int×Unit) (y0:z0f) (z0:List Int×Int×Int×Unit):Prop:=z16 prog 31 [⟨.ptr h26,.own .z,x0⟩] [⟨h20,oD,y0⟩] [⟨.ptr h26,.own .z,z0⟩]
def zbe (x0:List Int×Int×Int×Unit) (x1:Int) (y0:z02) (z0:List Int×Int×Int×Unit):Prop:=z16 prog 30 [⟨.ptr h26,.own .z,x0⟩,⟨.int .i64,.z,x1⟩] [⟨h14,oI,y0⟩] [⟨.ptr h26,.own .z,z0⟩,⟨.int .i64,.z,x1⟩]
def zf7 (x0:List Int×Int×Int×Unit) (x1:Int) (x2:Int) (y0:z00) (z0:List Int×Int×Int×Unit):Prop:=z16 prog 53 [⟨.ptr h26,.own .z,x0⟩,⟨.int .i64,.z,x1⟩,⟨.int .i64,.z,x2⟩] [⟨h11,.pr .z (.pr (.own .z) .z),y0⟩] [⟨.ptr h26,.own .z,z0⟩,⟨.int .i64,.z,x1⟩,⟨.int .i64,.z,x2⟩]
def zcz (x0:List Int×Int×Int×Unit) (x1:Int) (y0:Int) (z0:List Int×Int×Int×Unit):Prop:=z16 prog 91 [⟨.ptr h26,.own .z,x0⟩,⟨.int .i64,.z,x1⟩] [⟨.int .i64,.z,y0⟩] [⟨.ptr h26,.own .z,z0⟩,⟨.int .i64,.z,x1⟩]
def zuo (x0:List Int) (y0:List Int×Int×Int×Unit):Prop:=gZ 29 [⟨.sl 5 (.int .u8),.z,x0⟩] [⟨.ptr h26,.own .z,y0⟩]
def z04e (x0:List Int) (y0:Bool):Prop:=gZ 5 [⟨.sl 5 (.int .u8),.z,x0⟩] [⟨.bool,.z,y0⟩]
theorem z41 (x0:List z00) (x1:Unit) (y0:List z00) (H:∀ xs:List (zlf z00),xs.map (·.2)=x0->∃ ys:List (zlf z00),ys.Sublist xs/\ys.map (·.2)=y0/\z1i xs x1 ys):z15 x0 x1 y0:=z0c4 (by rfl) H
theorem zgm (x0:zlf z00) (x1:zlf z00) (y0:Bool) (h:zfj x0.2 x1.2 y0):zb9 x0 x1 y0:=z08m h
end Go.V

