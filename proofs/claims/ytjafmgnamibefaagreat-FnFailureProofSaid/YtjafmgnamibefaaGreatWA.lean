/-
  The functions that are reached: types, signatures, what a call of each gives.
-/
import Derived.Test.YtjafmgnamibefaaGreatVE
import Derived.Test.YtjafmgnamibefaaGreatProg
import Derived.KernelRfl
set_option linter.unusedVariables false
set_option linter.unusedSimpArgs false
set_option maxRecDepth 1000000
set_option maxHeartbeats 4000000
set_option linter.unusedVariables false
namespace Go.V
open Go Go.Proofs
abbrev h0:Sh:=.pair (.int .u8) .unit
abbrev h1:Sh:=.pair .bool h0
abbrev h2:Sh:=.pair (.int .i64) h1
abbrev h3:Sh:=.pair (.int .i64) h2
abbrev h4:Sh:=.pair (.int .u64) .unit
abbrev h5:Sh:=.pair .str h4
abbrev h6:Sh:=.pair .bool .unit
abbrev h7:Sh:=.pair (.int .i64) h6
abbrev h8:Sh:=.pair .str h7
abbrev h9:Sh:=.sl 91 h8
abbrev h10:Sh:=.pair (.sl 3 (.int .i64)) .unit
abbrev h11:Sh:=.pair (.int .i64) h10
abbrev h12:Sh:=.sl 84 h11
abbrev h13:Sh:=.pair h12 .unit
abbrev h14:Sh:=.pair h9 h13
abbrev h15:Sh:=.sl 66 h11
abbrev h16:Sh:=.pair (.int .i64) .unit
abbrev h17:Sh:=.pair (.int .i64) h16
abbrev h18:Sh:=.pair .bool h17
abbrev h19:Sh:=.pair h15 h18
abbrev h20:Sh:=.pair h15 h19
abbrev h21:Sh:=.sl 56 h20
abbrev h22:Sh:=.sl 53 h11
abbrev h23:Sh:=.pair h22 .unit
abbrev h24:Sh:=.pair (.int .i64) h23
abbrev h25:Sh:=.pair h14 h24
abbrev h26:Sh:=.pair (.sl 5 (.int .u8)) h17
abbrev h27:Sh:=.pair (.int .i64) h7
abbrev h28:Sh:=.pair (.sl 3 (.int .i64)) h10
abbrev h29:Sh:=.sl 87 h27
abbrev h30:Sh:=.tok (.int .i64) h10
abbrev h31:Sh:=.sl 84 h30
abbrev h32:Sh:=.pair (.ptr h9) .unit
abbrev h33:Sh:=.pair (.ptr h11) .unit
abbrev h34:Sh:=.pair (.ptr (.sl 3 (.int .i64))) .unit
abbrev oF:O:=.own (.pr .z (.pr (.own .z) .z))
abbrev oI:O:=.pr (.own .z) (.pr oF .z)
abbrev oT:O:=.own (.pr .z (.pr .z (.pr (.own .z) .z)))
abbrev oS:O:=.pr oI (.pr oT .z)
abbrev oD:O:=.pr oF (.pr oF .z)
abbrev oE:O:=.own oD
noncomputable abbrev prog:Program:=Tryz.prog
noncomputable abbrev gZ (f:Nat) (us rs:List OV):Prop:=GivesS prog f us rs us
def shTab:List (Nat×Sh):=[(2,.int .i64),(3,.int .i64),(4,.bool),(5,.int .u8),(6,.int .u8),(9,.str),(10,.str),(11,.str),(12,.int .u64),(21,.int .i32),(22,.sl 5 (.int .u8)),(24,h9),(25,h12),(26,h14),(27,h14),(28,h21),(29,h22),(35,h25),(36,h25),(45,.ptr h26),(51,.sl 3 (.int .i64)),(52,h11),(53,h11),(54,h15),(55,h20),(56,h20),(65,h11),(66,h11),(80,h26),(81,h26),(83,h11),(84,h11),(86,h27),(87,h27),(90,h8),(91,h8),(114,h28),(115,h28),(116,.sl 51 (.sl 3 (.int .i64))),(120,h29),(124,.int .u64),(151,.sl 4 .bool),(172,.int .i64),(179,.int .u32),(181,.int .u64),(191,.int .u64),(195,.ptr (.int .i64)),(202,.ptr (.int .u64)),(216,.int .u8),(217,.int .u8),(219,.ptr (.int .u8)),(220,.int .i32),(221,.int .i32)]
def sigTab:List (Nat×List Sig):=[(4,[⟨[.z],[(.bool,.z)],[.z]⟩]),(5,[⟨[.z],[(.bool,.z)],[.z]⟩]),(7,[⟨[.z,.z,.z],[(.bool,.z)],[.z,.z,.z]⟩]),(8,[⟨[.z,.z,.z],[(.int .i64,.z),(.int .i64,.z),(.bool,.z)],[.z,.z,.z]⟩]),(10,[⟨[.z,.z,.z],[(.bool,.z)],[.z,.z,.z]⟩]),(11,[⟨[.z,.z],[(h25,.pr oI (.pr .z (.pr oF .z))),(.bool,.z)],[.z,.z]⟩]),(12,[⟨[.z,.z,.z],[(h22,.z)],[.z,.z,.z]⟩]),(13,[⟨[.z],[(h14,oI),(h21,.z)],[.z]⟩]),(14,[⟨[.z,.z],[(h22,oF),(.bool,.z)],[.z,.z]⟩]),(15,[⟨[.z,.z],[(h22,.own .z),(.bool,.z)],[.z,.z]⟩]),(16,[⟨[.z,.z],[(.bool,.z)],[.z,.z]⟩]),(17,[⟨[.z,.z,.z],[(h22,.own .z)],[.z,.z,.z]⟩]),(18,[⟨[.z],[(.ptr h26,.own .z),(h14,oI),(h21,.z)],[.z]⟩]),(20,[⟨[.z,.z,.z],[(h14,oI),(.int .i64,.z),(.bool,.z)],[.z,.z,.z]⟩]),(21,[⟨[.z,.z,.z],[(h14,.z),(.int .i64,.z),(.bool,.z)],[.z,.z,.z]⟩]),(22,[⟨[.z,.z,.z],[(h25,.pr oI (.pr .z (.pr oF .z))),(.bool,.z)],[.z,.z,.z]⟩]),(23,[⟨[.z],[(h11,.pr .z (.pr (.own .z) .z))],[.z]⟩]),(24,[⟨[.own .z,.z,.z],[(h22,.own .z)],[.dead,.z,.z]⟩]),(25,[⟨[.z],[(h22,.own .z)],[.z]⟩]),(26,[⟨[.z,.z],[(h25,.pr .z (.pr .z (.pr (.own .z) .z))),(.bool,.z)],[.z,.z]⟩]),(27,[⟨[.z,.z],[(.bool,.z)],[.z,.z]⟩]),(28,[⟨[.z],[(h22,oF)],[.z]⟩]),(29,[⟨[.z],[(.ptr h26,.own .z)],[.z]⟩]),(30,[⟨[.own .z,.z],[(h14,oI)],[.own .z,.z]⟩]),(31,[⟨[.own .z],[(h20,oD)],[.own .z]⟩]),(32,[⟨[.own .z,.z],[(.bool,.z)],[.own .z,.z]⟩]),(33,[⟨[.z,.z],[(.bool,.z)],[.z,.z]⟩]),(34,[⟨[],[(h9,.own .z)],[]⟩]),(35,[⟨[.own .z],[(h21,.z)],[.own .z]⟩]),(37,[⟨[.own .z,.z],[(.int .i64,.z)],[.own .z,.z]⟩]),(38,[⟨[.z],[(.bool,.z)],[.z]⟩]),(39,[⟨[.z,.z],[(.bool,.z)],[.z,.z]⟩]),(40,[⟨[.z],[(h14,oI)],[.z]⟩]),(41,[⟨[.z,.z,.z],[(.bool,.z)],[.z,.z,.z]⟩]),(42,[⟨[.z,.z,.z],[(h14,oI),(.int .i64,.z)],[.z,.z,.z]⟩]),(43,[⟨[.z],[(.bool,.z)],[.z]⟩]),(44,[⟨[.z,.z],[(.bool,.z)],[.z,.z]⟩]),(45,[⟨[.z],[(h14,oI)],[.z]⟩]),(46,[⟨[.z,.z,.z],[(.bool,.z)],[.z,.z,.z]⟩]),(47,[⟨[.z,.z,.z],[(.bool,.z)],[.z,.z,.z]⟩]),(48,[⟨[.z,.z,.z],[(h14,.z),(.int .i64,.z)],[.z,.z,.z]⟩]),(49,[⟨[.z,.z],[(h22,oF)],[.z,.z]⟩]),(50,[⟨[.z],[(.sl 3 (.int .i64),.own .z)],[.z]⟩]),(51,[⟨[.z,.z,.z],[(h25,.pr .z (.pr .z (.pr (.own .z) .z))),(.bool,.z)],[.z,.z,.z]⟩]),(52,[⟨[.z,.z],[(h14,.z)],[.z,.z]⟩]),(53,[⟨[.own .z,.z,.z],[(h11,.pr .z (.pr (.own .z) .z))],[.own .z,.z,.z]⟩]),(54,[⟨[.z,.z],[(h27,.z),(.bool,.z)],[.z,.z]⟩]),(55,[⟨[.own .z],[(h21,oE)],[.own .z]⟩]),(56,[⟨[.own .z],[(.int .i64,.z)],[.own .z]⟩]),(57,[⟨[.z],[(.bool,.z)],[.z]⟩]),(58,[⟨[.z,.z],[(.bool,.z)],[.z,.z]⟩]),(59,[⟨[.z,.z],[(.int .i64,.z)],[.z,.z]⟩]),(60,[⟨[.z],[(.sl 3 (.int .i64),.own .z)],[.z]⟩]),(61,[⟨[.z,.z],[(.bool,.z)],[.z,.z]⟩]),(62,[⟨[.z,.z],[(.bool,.z)],[.z,.z]⟩]),(63,[⟨[.z,.z],[(.bool,.z)],[.z,.z]⟩]),(64,[⟨[.z],[(h9,.own .z)],[.z]⟩]),(65,[⟨[.z],[(h12,oF)],[.z]⟩]),(66,[⟨[.z,.z,.z],[(.bool,.z)],[.z,.z,.z]⟩]),(67,[⟨[.z,.z,.z],[(h14,oI),(.int .i64,.z)],[.z,.z,.z]⟩]),(68,[⟨[.z],[(.int .i64,.z)],[.z]⟩]),(69,[⟨[.z],[(.sl 3 (.int .i64),.own .z)],[.z]⟩]),(70,[⟨[.z],[(.int .i64,.z)],[.z]⟩]),(71,[⟨[.z,.z],[(h11,.pr .z (.pr (.own .z) .z)),(.bool,.z)],[.z,.z]⟩]),(72,[⟨[.z],[(h12,oF)],[.z]⟩]),(73,[⟨[.z,.z],[(.bool,.z)],[.z,.z]⟩]),(74,[⟨[.z,.z],[(.int .i64,.z)],[.z,.z]⟩]),(75,[⟨[.z],[(.sl 3 (.int .i64),.z)],[.z]⟩]),(76,[⟨[.z],[(.bool,.z)],[.z]⟩]),(77,[⟨[.z,.z],[(.bool,.z)],[.z,.z]⟩]),(78,[⟨[.z],[(h11,.pr .z (.pr (.own .z) .z))],[.z]⟩]),(79,[⟨[.z,.z,.z],[(.bool,.z)],[.z,.z,.z]⟩]),(80,[⟨[.z,.z,.z],[(.bool,.z)],[.z,.z,.z]⟩]),(81,[⟨[.z],[(.int .i64,.z),(.bool,.z)],[.z]⟩]),(82,[⟨[.z,.z],[(h14,oI),(.bool,.z)],[.z,.z]⟩]),(83,[⟨[.z],[(.sl 3 (.int .i64),.own .z)],[.z]⟩]),(84,[⟨[.z],[(.int .i64,.z)],[.z]⟩]),(85,[⟨[.z],[(.int .i64,.z)],[.z]⟩]),(86,[⟨[.z,.z],[(h11,.pr .z (.pr (.own .z) .z)),(.bool,.z)],[.z,.z]⟩]),(87,[⟨[.z,.z],[(.sl 51 (.sl 3 (.int .i64)),.own (.own .z))],[.z,.z]⟩]),(88,[⟨[.z,.z],[(h22,.own .z)],[.z,.z]⟩]),(89,[⟨[.z,.z],[(.int .i64,.z)],[.z,.z]⟩]),(90,[⟨[.z,.z],[(.int .i64,.z)],[.z,.z]⟩]),(91,[⟨[.own .z,.z],[(.int .i64,.z)],[.own .z,.z]⟩]),(92,[⟨[.z,.z],[(h29,.own .z)],[.z,.z]⟩]),(93,[⟨[.z,.z,.z,.z],[(.bool,.z)],[.z,.z,.z,.z]⟩]),(94,[⟨[.z],[(.int .i64,.z)],[.z]⟩]),(95,[⟨[.own .z],[(h20,oD)],[.own .z]⟩]),(96,[⟨[.z],[(.bool,.z)],[.z]⟩]),(97,[⟨[.z,.z],[(.bool,.z)],[.z,.z]⟩]),(98,[⟨[.z],[(.bool,.z)],[.z]⟩]),(99,[⟨[.z],[(.bool,.z)],[.z]⟩]),(100,[⟨[.z],[(.int .i64,.z)],[.z]⟩]),(101,[⟨[.z,.z],[(.int .i64,.z)],[.z,.z]⟩]),(102,[⟨[.z,.z],[(.int .i64,.z)],[.z,.z]⟩]),(103,[⟨[.z],[(.sl 3 (.int .i64),.own .z)],[.z]⟩]),(104,[⟨[.z,.z],[(.int .i64,.z)],[.z,.z]⟩]),(105,[⟨[.z,.z,.z],[(.bool,.z)],[.z,.z,.z]⟩]),(106,[⟨[.z],[(.sl 3 (.int .i64),.own .z)],[.z]⟩]),(107,[⟨[.z,.z],[(.bool,.z)],[.z,.z]⟩]),(108,[⟨[.z,.z],[(.bool,.z)],[.z,.z]⟩]),(109,[⟨[.z,.z],[(.bool,.z)],[.z,.z]⟩]),(110,[⟨[.z],[(h11,.pr .z (.pr (.own .z) .z))],[.z]⟩]),(111,[⟨[.z,.z,.z],[(.bool,.z)],[.z,.z,.z]⟩]),(112,[⟨[.z,.z,.z],[(.bool,.z)],[.z,.z,.z]⟩]),(113,[⟨[.z],[(.bool,.z)],[.z]⟩]),(114,[⟨[.z],[(.int .i64,.z),(.bool,.z)],[.z]⟩]),(115,[⟨[.z,.z],[(h14,oI),(.bool,.z)],[.z,.z]⟩]),(116,[⟨[.z],[(.sl 3 (.int .i64),.own .z)],[.z]⟩]),(117,[⟨[.z,.z],[(.sl 3 (.int .i64),.own .z)],[.z,.z]⟩]),(118,[⟨[oF,.z],[],[oF,.z]⟩]),(119,[⟨[oF,.z],[(h12,oF)],[.dead,.z]⟩]),(120,[⟨[.z,.z],[(.bool,.z)],[.z,.z]⟩]),(121,[⟨[.z],[(.bool,.z)],[.z]⟩]),(122,[⟨[.z,.z],[(.int .i64,.z)],[.z,.z]⟩]),(123,[⟨[.z,.z],[(.sl 3 (.int .i64),.z)],[.z,.z]⟩]),(124,[⟨[.z],[(.bool,.z)],[.z]⟩]),(125,[⟨[.z,.z],[(.bool,.z)],[.z,.z]⟩]),(126,[⟨[oF],[(.sl 3 (.int .i64),.z)],[oF]⟩,⟨[.z],[(.sl 3 (.int .i64),.z)],[.z]⟩]),(127,[⟨[.z,.z],[(.bool,.z)],[.z,.z]⟩]),(128,[⟨[],[(.int .i64,.z)],[]⟩]),(129,[⟨[.z,.z],[(.bool,.z)],[.z,.z]⟩]),(130,[⟨[.z,.z,.z,.z],[(.sl 51 (.sl 3 (.int .i64)),.own (.own .z))],[.z,.z,.z,.z]⟩]),(131,[⟨[.z],[(.bool,.z)],[.z]⟩]),(132,[⟨[.z,.z],[(h11,.pr .z (.pr (.own .z) .z))],[.z,.z]⟩]),(133,[⟨[.z],[(.sl 3 (.int .i64),.z)],[.z]⟩]),(134,[⟨[.z,.z],[(.sl 51 (.sl 3 (.int .i64)),.own (.own .z))],[.z,.z]⟩]),(135,[⟨[.z,.z],[(.sl 51 (.sl 3 (.int .i64)),.own .z)],[.z,.z]⟩]),(136,[⟨[.z],[(.sl 3 (.int .i64),.own .z)],[.z]⟩]),(137,[⟨[.z,.z,.z],[(.sl 3 (.int .i64),.own .z)],[.z,.z,.z]⟩]),(138,[⟨[.own .z,.z],[(h29,.own .z)],[.dead,.z]⟩]),(139,[⟨[.own .z,.z,.z],[(h11,.pr .z (.pr (.own .z) .z))],[.own .z,.z,.z]⟩]),(140,[⟨[.z,.z],[(.int .i64,.z)],[.z,.z]⟩]),(141,[⟨[.z],[(.bool,.z)],[.z]⟩]),(142,[⟨[.own .z],[],[.own .z]⟩]),(143,[⟨[.own .z],[(.sl 3 (.int .i64),.own .z)],[.dead]⟩]),(144,[⟨[.z,.z],[(.bool,.z)],[.z,.z]⟩]),(145,[⟨[.z,.z],[(.bool,.z)],[.z,.z]⟩]),(146,[⟨[.z,.z],[(.int .i64,.z)],[.z,.z]⟩]),(147,[⟨[.z,.z],[(.int .i64,.z)],[.z,.z]⟩]),(148,[⟨[.z,.z],[(.bool,.z)],[.z,.z]⟩]),(149,[⟨[.z,.z],[(.bool,.z)],[.z,.z]⟩]),(150,[⟨[.z,.z,.own .z],[(.sl 51 (.sl 3 (.int .i64)),.own (.own .z))],[.z,.z,.dead]⟩]),(151,[⟨[.z],[(.bool,.z)],[.z]⟩]),(152,[⟨[.z,.z],[(h11,.pr .z (.pr (.own .z) .z))],[.z,.z]⟩]),(155,[⟨[.z,.z,.z],[(.sl 3 (.int .i64),.own .z),(.bool,.z)],[.z,.z,.z]⟩]),(156,[⟨[.z,.z],[(.int .i64,.z)],[.z,.z]⟩]),(157,[⟨[],[(.sl 3 (.int .i64),.own .z)],[]⟩]),(158,[⟨[.z,.z],[(.bool,.z)],[.z,.z]⟩]),(159,[⟨[.z,.z],[(.sl 51 (.sl 3 (.int .i64)),.own .z)],[.z,.z]⟩]),(160,[⟨[.z,.z,.z],[(.int .i64,.z)],[.z,.z,.z]⟩]),(162,[⟨[.z],[(.bool,.z)],[.z]⟩]),(163,[⟨[.z,.z],[(.bool,.z)],[.z,.z]⟩]),(164,[⟨[.z,.z],[(.bool,.z)],[.z,.z]⟩]),(165,[⟨[.z,.z,.z],[(.sl 3 (.int .i64),.own .z),(.bool,.z)],[.z,.z,.z]⟩]),(166,[⟨[.z,.z],[(.int .i64,.z)],[.z,.z]⟩]),(177,[⟨[.z,.z],[(.sl 3 (.int .i64),.own .z)],[.z,.z]⟩]),(178,[⟨[.z,.z],[(.bool,.z)],[.z,.z]⟩]),(179,[⟨[.z,.z],[(.bool,.z)],[.z,.z]⟩]),(180,[⟨[.z,.z],[(.bool,.z)],[.z,.z]⟩]),(181,[⟨[],[(.sl 3 (.int .i64),.own .z)],[]⟩]),(191,[⟨[.z,.z],[(.int .i64,.z)],[.z,.z]⟩]),(197,[⟨[.z,.z],[(.int .u64,.z),(.int .u64,.z)],[.z,.z]⟩]),(198,[⟨[.z,.z],[(.int .i64,.z)],[.z,.z]⟩]),(204,[⟨[.z,.z],[(.int .u64,.z),(.int .u64,.z)],[.z,.z]⟩])]
def parTab:List (Nat×List (Option Sh)):=[(4,[some (.sl 5 (.int .u8))]),(5,[some (.sl 5 (.int .u8))]),(7,[some (h14),some (h21),some (h22)]),(8,[some (h14),some (h21),some (h22)]),(10,[some (h14),some (h21),some (h22)]),(11,[some (h14),some (h21)]),(12,[some (h14),some (h21),some (h22)]),(13,[some (.sl 5 (.int .u8))]),(14,[some (h14),some (h21)]),(15,[some (h14),some (h21)]),(16,[some (h22),some (h22)]),(17,[some (h14),some (h21),some (h22)]),(18,[some (.sl 5 (.int .u8))]),(20,[some (h14),some (h21),some (h22)]),(21,[some (h14),some (h21),some (h22)]),(22,[some (h14),some (h21),some (.sl 3 (.int .i64))]),(23,[some (h11)]),(24,[some (h22),some (.int .i64),some (.int .i64)]),(25,[some (h22)]),(26,[some (h14),some (h21)]),(27,[some (.sl 3 (.int .i64)),some (.sl 3 (.int .i64))]),(28,[some (h22)]),(29,[some (.sl 5 (.int .u8))]),(30,[some (.ptr h26),some (.int .i64)]),(31,[some (.ptr h26)]),(32,[some (.ptr h26),some (.int .i64)]),(33,[some (h9),some (h21)]),(34,[]),(35,[some (.ptr h26)]),(37,[some (.ptr h26),some (.int .i64)]),(38,[some (h14)]),(39,[some (h9),some (h21)]),(40,[some (h14)]),(41,[some (.int .i64),some (.int .i64),some (.int .i64)]),(42,[some (h14),some (h20),some (.sl 3 (.int .i64))]),(43,[some (h14)]),(44,[some (h9),some (h21)]),(45,[some (h14)]),(46,[some (.int .i64),some (.int .i64),some (.int .i64)]),(47,[some (h14),some (h20),some (.sl 3 (.int .i64))]),(48,[some (h14),some (h20),some (.sl 3 (.int .i64))]),(49,[some (h14),some (h21)]),(50,[some (.sl 3 (.int .i64))]),(51,[some (h14),some (h21),some (.sl 3 (.int .i64))]),(52,[some (h14),some (h11)]),(53,[some (.ptr h26),some (.int .i64),some (.int .i64)]),(54,[some (h9),some (h21)]),(55,[some (.ptr h26)]),(56,[some (.ptr h26)]),(57,[some (h9)]),(58,[some (h9),some (h11)]),(59,[some (h11),some (h11)]),(60,[some (h11)]),(61,[some (h21),none]),(62,[some (h20)]),(63,[some (h9),some (h20)]),(64,[some (h9)]),(65,[some (h12)]),(66,[some (h14),some (h20),some (.sl 3 (.int .i64))]),(67,[some (h14),some (.int .i64),some (.int .i64)]),(68,[some (h14)]),(69,[some (h20)]),(70,[some (.int .i64)]),(71,[some (h11),some (.sl 3 (.int .i64))]),(72,[some (h12)]),(73,[some (h9),some (h11)]),(74,[some (h11),some (h11)]),(75,[some (h11)]),(76,[some (h9)]),(77,[some (h9),some (h20)]),(78,[some (h11)]),(79,[some (h14),some (h20),some (.sl 3 (.int .i64))]),(80,[some (h14),some (h15),some (.sl 3 (.int .i64))]),(81,[some (.int .i64)]),(82,[some (h28),some (h14)]),(83,[some (h20)]),(84,[some (h14)]),(85,[some (.int .i64)]),(86,[some (h11),some (.sl 3 (.int .i64))]),(87,[some (h14),some (h20)]),(88,[some (h14),some (h21)]),(89,[some (.int .i64),some (.int .i64)]),(90,[some (h14),some (h11)]),(91,[some (.ptr h26),some (.int .i64)]),(92,[some (h9),some (h21)]),(93,[some (.int .i64),some (h29),some (.int .i64),some (.int .i64)]),(94,[some (h9)]),(95,[some (.ptr h26)]),(96,[some (h8)]),(97,[some (.sl 3 (.int .i64)),none]),(98,[some (.int .i64)]),(99,[some (.int .i64)]),(100,[some (.sl 3 (.int .i64))]),(101,[some (.int .i64),some (.int .i64)]),(102,[some (.sl 3 (.int .i64)),some (.sl 3 (.int .i64))]),(103,[some (.sl 3 (.int .i64))]),(104,[some (h21),none]),(105,[some (h9),some (h15),some (.int .i64)]),(106,[some (h15)]),(107,[some (.sl 3 (.int .i64)),some (.int .i64)]),(108,[some (h15),none]),(109,[some (h11)]),(110,[some (h11)]),(111,[some (h14),some (h20),some (.sl 3 (.int .i64))]),(112,[some (h14),some (h15),some (.sl 3 (.int .i64))]),(113,[some (.int .i64)]),(114,[some (.int .i64)]),(115,[some (h28),some (h14)]),(116,[some (h14)]),(117,[some (h20),some (.bool)]),(118,[some (h12),none]),(119,[some (h12),none]),(120,[some (h11),some (h11)]),(121,[some (.int .i64)]),(122,[some (.sl 3 (.int .i64)),some (.sl 3 (.int .i64))]),(123,[some (.sl 3 (.int .i64)),some (.int .i64)]),(124,[some (h8)]),(125,[some (h9),some (h11)]),(126,[some (h15)]),(127,[some (.sl 3 (.int .i64)),some (.int .i64)]),(128,[]),(129,[some (h14),some (h15)]),(130,[some (h14),some (h15),some (.int .i64),some (.sl 3 (.int .i64))]),(131,[some (h28)]),(132,[some (h28),some (h11)]),(133,[some (h14)]),(134,[some (h14),some (h15)]),(135,[some (h14),some (h20)]),(136,[some (h20)]),(137,[some (h9),some (h15),some (.int .i64)]),(138,[some (h29),some (h27)]),(139,[some (.ptr h26),some (.int .i64),some (.int .i64)]),(140,[some (.sl 3 (.int .i64)),none]),(141,[some (.int .i64)]),(142,[some (.sl 3 (.int .i64))]),(143,[some (.sl 3 (.int .i64))]),(144,[some (h11)]),(145,[some (h9),some (h11)]),(146,[some (.sl 3 (.int .i64)),some (.int .i64)]),(147,[some (h15),none]),(148,[some (h12),some (h11)]),(149,[some (h14),some (h15)]),(150,[some (h12),some (h15),some (.sl 3 (.int .i64))]),(151,[some (h28)]),(152,[some (h28),some (h11)]),(155,[some (h11),some (h11),some (.sl 3 (.int .i64))]),(156,[some (h28),some (.int .i64)]),(157,[]),(158,[some (.sl 51 (.sl 3 (.int .i64))),some (.sl 3 (.int .i64))]),(159,[some (h14),some (h15)]),(160,[some (h9),some (.int .i64),some (.int .i64)]),(162,[some (.int .i64)]),(163,[some (h12),none]),(164,[some (h11)]),(165,[some (.sl 3 (.int .i64)),some (h11),some (h11)]),(166,[some (h28),some (.int .i64)]),(177,[some (.sl 3 (.int .i64)),some (.int .i64)]),(178,[some (.sl 51 (.sl 3 (.int .i64))),none]),(179,[some (.sl 3 (.int .i64))]),(180,[some (.sl 3 (.int .i64)),some (.sl 3 (.int .i64))]),(181,[]),(191,[some (h12),none]),(197,[some (.int .u64),some (.int .u64)]),(198,[some (.sl 51 (.sl 3 (.int .i64))),none]),(204,[some (.int .u64),some (.int .u64)])]
noncomputable def E:Env:={ sh:=fun t=>look t shTab,sigs:=fun f=>(look f sigTab).getD [],params:=fun f=>(look f parTab).getD [],gives:=GivesS prog }
theorem types_ok:∀ t s,E.sh t=some s→ShOk prog s none t:=tab_ok (by kernel_rfl)
theorem mixed:prog.follows .mixedOrders=true:=by kernel_rfl
abbrev nL:Nat→Option Loop:=fun i=>look i []
abbrev nP:Nat→Option Pl:=fun i=>look i []
theorem fg {L : Nat → Option Loop} {pl : Nat → Option Pl} {f : FuncId} {fn : Func} {g : Sig} {us : List OV} {m : List (Sh × O)} {val : resD (outD m) g.res} {Q : Prop} (hf : prog.funcs[f]? = some fn) (h : Q) (hn : (fn.name == "runtime.NumGoroutine") = false := by kernel_rfl) (ho : g.outs = m.map (·.2) := by rfl) (hu : outFit us m = true := by rfl) (e : fnV E L pl fn g us (ansK g.res m fun r => r = val) = Q := by kernel_rfl) : GivesS prog f us (encR g.res val).1 (encO us m (encR g.res val).2) := fn_gives types_ok (fun _ _ _ _ h => h) mixed hf hn rfl ho hu (Eq.mpr e h)
theorem fz {L : Nat → Option Loop} {pl : Nat → Option Pl} {f : FuncId} {fn : Func} {us : List OV} {l m : List (Sh × O)} {val : resD (outD m) l} {Q : Prop} (hf : prog.funcs[f]? = some fn) (h : Q) (hn : (fn.name == "runtime.NumGoroutine") = false := by kernel_rfl) (hu : outFit us m = true := by rfl) (e : fnV E L pl fn ⟨m.map (·.2), l, m.map (·.2)⟩ us (ansK l m fun r => r = val) = Q := by kernel_rfl) : GivesS prog f us (encR l val).1 (encO us m (encR l val).2) := fn_gives types_ok (fun _ _ _ _ h => h) mixed hf hn rfl rfl hu (Eq.mpr e h)
theorem fy {f : FuncId} {fn : Func} {us : List OV} {l m : List (Sh × O)} {val : resD (outD m) l} {Q : Prop} (hf : prog.funcs[f]? = some fn) (h : Q) (hn : (fn.name == "runtime.NumGoroutine") = false := by kernel_rfl) (hu : outFit us m = true := by rfl) (e : fnV E nL nP fn ⟨m.map (·.2), l, m.map (·.2)⟩ us (ansK l m fun r => r = val) = Q := by kernel_rfl) : GivesS prog f us (encR l val).1 (encO us m (encR l val).2) := fn_gives types_ok (fun _ _ _ _ h => h) mixed hf hn rfl rfl hu (Eq.mpr e h)
def shTab_slices_CompactFunc_Fact_tok_c_isameFact:List (Nat×Sh):=[(3,.int .i64),(4,.bool),(25,h31),(84,h30)]
def sigTab_slices_CompactFunc_Fact_tok_c_isameFact:List (Nat×List Sig):=[(119,[⟨[.own .z,.z],[(h31,.own .z)],[.dead,.z]⟩]),(120,[⟨[.z,.z],[(.bool,.z)],[.z,.z]⟩])]
def parTab_slices_CompactFunc_Fact_tok_c_isameFact:List (Nat×List (Option Sh)):=[(119,[some (h31),none]),(120,[some (h30),some (h30)])]
noncomputable def E_slices_CompactFunc_Fact_tok_c_isameFact:Env:={ sh:=fun t=>look t shTab_slices_CompactFunc_Fact_tok_c_isameFact,sigs:=fun f=>(look f sigTab_slices_CompactFunc_Fact_tok_c_isameFact).getD [],params:=fun f=>(look f parTab_slices_CompactFunc_Fact_tok_c_isameFact).getD [],gives:=GivesS prog }
theorem types_slices_CompactFunc_Fact_tok_c_isameFact:∀ t s,E_slices_CompactFunc_Fact_tok_c_isameFact.sh t=some s→ShOk prog s none t:=tab_ok (by kernel_rfl)
theorem fg_slices_CompactFunc_Fact_tok_c_isameFact {L : Nat → Option Loop} {pl : Nat → Option Pl} {f : FuncId} {fn : Func} {g : Sig} {us : List OV} {m : List (Sh × O)} {val : resD (outD m) g.res} {Q : Prop} (hf : prog.funcs[f]? = some fn) (h : Q) (hn : (fn.name == "runtime.NumGoroutine") = false := by kernel_rfl) (ho : g.outs = m.map (·.2) := by rfl) (hu : outFit us m = true := by rfl) (e : fnV E_slices_CompactFunc_Fact_tok_c_isameFact L pl fn g us (ansK g.res m fun r => r = val) = Q := by kernel_rfl) : GivesS prog f us (encR g.res val).1 (encO us m (encR g.res val).2) := fn_gives types_slices_CompactFunc_Fact_tok_c_isameFact (fun _ _ _ _ h => h) mixed hf hn rfl ho hu (Eq.mpr e h)
def G_lFnFailureProof (x0:List Int) (y0:Bool):Prop:=gZ 4 [⟨.sl 5 (.int .u8),.z,x0⟩] [⟨.bool,.z,y0⟩]
def G_sIsFailureProof (x0:TInst) (x1:List TDep) (x2:List TFact) (y0:Bool):Prop:=gZ 10 [⟨h14,.z,x0⟩,⟨h21,.z,x1⟩,⟨h22,.z,x2⟩] [⟨.bool,.z,y0⟩]
def G_sReplaySteps (x0:TInst) (x1:List TDep) (x2:List TFact) (y0:TInst) (y1:Int) (y2:Bool):Prop:=gZ 21 [⟨h14,.z,x0⟩,⟨h21,.z,x1⟩,⟨h22,.z,x2⟩] [⟨h14,.z,y0⟩,⟨.int .i64,.z,y1⟩,⟨.bool,.z,y2⟩]
def G_sApplyTrigger (x0:TInst) (x1:TDep) (x2:List Int) (y0:TInst) (y1:Int):Prop:=gZ 48 [⟨h14,.z,x0⟩,⟨h20,.z,x1⟩,⟨.sl 3 (.int .i64),.z,x2⟩] [⟨h14,.z,y0⟩,⟨.int .i64,.z,y1⟩]
def G_sl5Copy (x0:TInst) (y0:TInst):Prop:=gZ 45 [⟨h14,.z,x0⟩] [⟨h14,oI,y0⟩]
def G_sl5Fact (x0:TFact) (y0:TFact):Prop:=gZ 78 [⟨h11,.z,x0⟩] [⟨h11,.pr .z (.pr (.own .z) .z),y0⟩]
def G_sl5Put (x0:TInst) (x1:TFact) (y0:TInst):Prop:=gZ 52 [⟨h14,.z,x0⟩,⟨h11,.z,x1⟩] [⟨h14,.z,y0⟩]
def G_sCompareFacts (x0:TFact) (x1:TFact) (y0:Int):Prop:=gZ 74 [⟨h11,.z,x0⟩,⟨h11,.z,x1⟩] [⟨.int .i64,.z,y0⟩]
def G_sl4Ints (x0:List Int) (x1:List Int) (y0:Int):Prop:=gZ 122 [⟨.sl 3 (.int .i64),.z,x0⟩,⟨.sl 3 (.int .i64),.z,x1⟩] [⟨.int .i64,.z,y0⟩]
def G_sl5Place (x0:TInst) (x1:TFact) (y0:Int):Prop:=gZ 90 [⟨h14,.z,x0⟩,⟨h11,.z,x1⟩] [⟨.int .i64,.z,y0⟩]
def G_sInstantiate (x0:TFact) (x1:List Int) (y0:TFact) (y1:Bool):Prop:=gZ 86 [⟨h11,.z,x0⟩,⟨.sl 3 (.int .i64),.z,x1⟩] [⟨h11,.pr .z (.pr (.own .z) .z),y0⟩,⟨.bool,.z,y1⟩]
def G_sIsValidValue (x0:Int) (y0:Bool):Prop:=gZ 121 [⟨.int .i64,.z,x0⟩] [⟨.bool,.z,y0⟩]
def G_sl1In (x0:Int) (x1:Int) (x2:Int) (y0:Bool):Prop:=gZ 46 [⟨.int .i64,.z,x0⟩,⟨.int .i64,.z,x1⟩,⟨.int .i64,.z,x2⟩] [⟨.bool,.z,y0⟩]
def G_sNullNumber (x0:Int) (y0:Int) (y1:Bool):Prop:=gZ 81 [⟨.int .i64,.z,x0⟩] [⟨.int .i64,.z,y0⟩,⟨.bool,.z,y1⟩]
def G_sNullValue (x0:Int) (y0:Int):Prop:=gZ 85 [⟨.int .i64,.z,x0⟩] [⟨.int .i64,.z,y0⟩]
def G_sNextNull (x0:TInst) (y0:Int):Prop:=gZ 84 [⟨h14,.z,x0⟩] [⟨.int .i64,.z,y0⟩]
def G_sNullsOfInstance (x0:TInst) (y0:List Int):Prop:=gZ 133 [⟨h14,.z,x0⟩] [⟨.sl 3 (.int .i64),.z,y0⟩]
def G_sl4Put (x0:List Int) (x1:Int) (y0:List Int):Prop:=gZ 123 [⟨.sl 3 (.int .i64),.z,x0⟩,⟨.int .i64,.z,x1⟩] [⟨.sl 3 (.int .i64),.z,y0⟩]
def G_sNullsOfFact (x0:TFact) (y0:List Int):Prop:=gZ 75 [⟨h11,.z,x0⟩] [⟨.sl 3 (.int .i64),.z,y0⟩]
def G_sExistentialVariables (x0:TDep) (y0:List Int):Prop:=gZ 83 [⟨h20,.z,x0⟩] [⟨.sl 3 (.int .i64),.own .z,y0⟩]
def G_sl4Has (x0:List Int) (x1:Int) (y0:Bool):Prop:=gZ 127 [⟨.sl 3 (.int .i64),.z,x0⟩,⟨.int .i64,.z,x1⟩] [⟨.bool,.z,y0⟩]
def G_sVariables (x0:List TFact) (y0:List Int):Prop:=gZ 126 [⟨h15,.z,x0⟩] [⟨.sl 3 (.int .i64),.z,y0⟩]
def G_sApplyToInstance (x0:TSub) (x1:TInst) (y0:TInst) (y1:Bool):Prop:=gZ 82 [⟨h28,.z,x0⟩,⟨h14,.z,x1⟩] [⟨h14,oI,y0⟩,⟨.bool,.z,y1⟩]
def G_sApplyToFact (x0:TSub) (x1:TFact) (y0:TFact):Prop:=gZ 132 [⟨h28,.z,x0⟩,⟨h11,.z,x1⟩] [⟨h11,.pr .z (.pr (.own .z) .z),y0⟩]
def G_sApplyToValue (x0:TSub) (x1:Int) (y0:Int):Prop:=gZ 156 [⟨h28,.z,x0⟩,⟨.int .i64,.z,x1⟩] [⟨.int .i64,.z,y0⟩]
def G_sIsValidSubstitution (x0:TSub) (y0:Bool):Prop:=gZ 131 [⟨h28,.z,x0⟩] [⟨.bool,.z,y0⟩]
def G_sIsValidInstance (x0:TInst) (y0:Bool):Prop:=gZ 43 [⟨h14,.z,x0⟩] [⟨.bool,.z,y0⟩]
def G_sAreValidRelations (x0:List TRel) (y0:Bool):Prop:=gZ 76 [⟨h9,.z,x0⟩] [⟨.bool,.z,y0⟩]
def G_sIsValidRelation (x0:TRel) (y0:Bool):Prop:=gZ 124 [⟨h8,.z,x0⟩] [⟨.bool,.z,y0⟩]
def G_sIsValidFact (x0:List TRel) (x1:TFact) (y0:Bool):Prop:=gZ 73 [⟨h9,.z,x0⟩,⟨h11,.z,x1⟩] [⟨.bool,.z,y0⟩]
def G_sIsActiveTrigger (x0:TInst) (x1:TDep) (x2:List Int) (y0:Bool):Prop:=gZ 47 [⟨h14,.z,x0⟩,⟨h20,.z,x1⟩,⟨.sl 3 (.int .i64),.z,x2⟩] [⟨.bool,.z,y0⟩]
def G_sHasExtension (x0:TInst) (x1:List TFact) (x2:List Int) (y0:Bool):Prop:=gZ 80 [⟨h14,.z,x0⟩,⟨h15,.z,x1⟩,⟨.sl 3 (.int .i64),.z,x2⟩] [⟨.bool,.z,y0⟩]
def G_sl11Walk (x0:TInst) (x1:List TFact) (x2:Int) (x3:List Int) (y0:List (List Int)):Prop:=gZ 130 [⟨h14,.z,x0⟩,⟨h15,.z,x1⟩,⟨.int .i64,.z,x2⟩,⟨.sl 3 (.int .i64),.z,x3⟩] [⟨.sl 51 (.sl 3 (.int .i64)),.own (.own .z),y0⟩]
def G_sl11Fit (x0:TFact) (x1:TFact) (x2:List Int) (y0:List Int) (y1:Bool):Prop:=gZ 155 [⟨h11,.z,x0⟩,⟨h11,.z,x1⟩,⟨.sl 3 (.int .i64),.z,x2⟩] [⟨.sl 3 (.int .i64),.own .z,y0⟩,⟨.bool,.z,y1⟩]
def G_sl11None  (y0:Int):Prop:=gZ 128 [] [⟨.int .i64,.z,y0⟩]
def G_sl11Ok (x0:TInst) (x1:List TFact) (y0:Bool):Prop:=gZ 129 [⟨h14,.z,x0⟩,⟨h15,.z,x1⟩] [⟨.bool,.z,y0⟩]
def G_sIsValidAtom (x0:List TRel) (x1:TFact) (y0:Bool):Prop:=gZ 125 [⟨h9,.z,x0⟩,⟨h11,.z,x1⟩] [⟨.bool,.z,y0⟩]
def G_sIsTrigger (x0:TInst) (x1:TDep) (x2:List Int) (y0:Bool):Prop:=gZ 79 [⟨h14,.z,x0⟩,⟨h20,.z,x1⟩,⟨.sl 3 (.int .i64),.z,x2⟩] [⟨.bool,.z,y0⟩]
def G_sIsValidDependency (x0:List TRel) (x1:TDep) (y0:Bool):Prop:=gZ 77 [⟨h9,.z,x0⟩,⟨h20,.z,x1⟩] [⟨.bool,.z,y0⟩]
def G_sAreValidDependencies (x0:List TRel) (x1:List TDep) (y0:Bool):Prop:=gZ 44 [⟨h9,.z,x0⟩,⟨h21,.z,x1⟩] [⟨.bool,.z,y0⟩]
def G_lsameFires (x0:List TFact) (x1:List TFact) (y0:Bool):Prop:=gZ 16 [⟨h22,.z,x0⟩,⟨h22,.z,x1⟩] [⟨.bool,.z,y0⟩]
def G_lsameInts (x0:List Int) (x1:List Int) (y0:Bool):Prop:=gZ 27 [⟨.sl 3 (.int .i64),.z,x0⟩,⟨.sl 3 (.int .i64),.z,x1⟩] [⟨.bool,.z,y0⟩]
def G_iIsFailureProof (x0:TInst) (x1:List TDep) (x2:List TFact) (y0:Bool):Prop:=gZ 7 [⟨h14,.z,x0⟩,⟨h21,.z,x1⟩,⟨h22,.z,x2⟩] [⟨.bool,.z,y0⟩]
def G_iReplaySteps (x0:TInst) (x1:List TDep) (x2:List TFact) (y0:TInst) (y1:Int) (y2:Bool):Prop:=gZ 20 [⟨h14,.z,x0⟩,⟨h21,.z,x1⟩,⟨h22,.z,x2⟩] [⟨h14,oI,y0⟩,⟨.int .i64,.z,y1⟩,⟨.bool,.z,y2⟩]
def G_iApplyTrigger (x0:TInst) (x1:TDep) (x2:List Int) (y0:TInst) (y1:Int):Prop:=gZ 42 [⟨h14,.z,x0⟩,⟨h20,.z,x1⟩,⟨.sl 3 (.int .i64),.z,x2⟩] [⟨h14,oI,y0⟩,⟨.int .i64,.z,y1⟩]
def G_iinstanceCopy (x0:TInst) (y0:TInst):Prop:=gZ 40 [⟨h14,.z,x0⟩] [⟨h14,oI,y0⟩]
def G_ifactsCopy (x0:List TFact) (y0:List TFact):Prop:=gZ 65 [⟨h12,.z,x0⟩] [⟨h12,oF,y0⟩]
def G_ifactCopy (x0:TFact) (y0:TFact):Prop:=gZ 110 [⟨h11,.z,x0⟩] [⟨h11,.pr .z (.pr (.own .z) .z),y0⟩]
def G_slices_Clone_int (x0:List Int) (y0:List Int):Prop:=gZ 50 [⟨.sl 3 (.int .i64),.z,x0⟩] [⟨.sl 3 (.int .i64),.own .z,y0⟩]
def G_slices_Clone_Relation (x0:List TRel) (y0:List TRel):Prop:=gZ 64 [⟨h9,.z,x0⟩] [⟨h9,.own .z,y0⟩]
def G_ifactsSet (x0:List TFact) (y0:List TFact):Prop:=gZ 72 [⟨h12,.z,x0⟩] [⟨h12,oF,y0⟩]
def G_slices_CompactFunc_Fact_oopzpozz_c_isameFact (x0:List TFact) (x1:Unit) (y0:List TFact):Prop:=GivesS prog 119 [⟨h12,oF,x0⟩,⟨.fn 120 .unit,.z,x1⟩] [⟨h12,oF,y0⟩] [⟨h12,.dead,x0⟩,⟨.fn 120 .unit,.z,x1⟩]
def G_slices_CompactFunc_Fact_tok_c_isameFact (x0:List (TTok TFact)) (x1:Unit) (y0:List (TTok TFact)):Prop:=GivesS prog 119 [⟨h31,.own .z,x0⟩,⟨.fn 120 .unit,.z,x1⟩] [⟨h31,.own .z,y0⟩] [⟨h31,.dead,x0⟩,⟨.fn 120 .unit,.z,x1⟩]
def G_isameFact_tok (x0:TTok TFact) (x1:TTok TFact) (y0:Bool):Prop:=gZ 120 [⟨h30,.z,x0⟩,⟨h30,.z,x1⟩] [⟨.bool,.z,y0⟩]
def G_isameFact (x0:TFact) (x1:TFact) (y0:Bool):Prop:=gZ 120 [⟨h11,.z,x0⟩,⟨h11,.z,x1⟩] [⟨.bool,.z,y0⟩]
def G_iCompareFacts (x0:TFact) (x1:TFact) (y0:Int):Prop:=gZ 59 [⟨h11,.z,x0⟩,⟨h11,.z,x1⟩] [⟨.int .i64,.z,y0⟩]
def G_cmp_Or_int (x0:List Int) (y0:Int):Prop:=gZ 100 [⟨.sl 3 (.int .i64),.z,x0⟩] [⟨.int .i64,.z,y0⟩]
def G_slices_Compare_int (x0:List Int) (x1:List Int) (y0:Int):Prop:=gZ 102 [⟨.sl 3 (.int .i64),.z,x0⟩,⟨.sl 3 (.int .i64),.z,x1⟩] [⟨.int .i64,.z,y0⟩]
def G_cmp_Compare_int (x0:Int) (x1:Int) (y0:Int):Prop:=gZ 101 [⟨.int .i64,.z,x0⟩,⟨.int .i64,.z,x1⟩] [⟨.int .i64,.z,y0⟩]
def G_cmp_isNaN_int (x0:Int) (y0:Bool):Prop:=gZ 141 [⟨.int .i64,.z,x0⟩] [⟨.bool,.z,y0⟩]
def G_slices_SortFunc_Fact_oopzpozz_c_iCompareFacts (x0:List TFact) (x1:Unit) (z0:List TFact):Prop:=GivesS prog 118 [⟨h12,oF,x0⟩,⟨.fn 59 .unit,.z,x1⟩] [] [⟨h12,oF,z0⟩,⟨.fn 59 .unit,.z,x1⟩]
def G_iInstantiate (x0:TFact) (x1:List Int) (y0:TFact) (y1:Bool):Prop:=gZ 71 [⟨h11,.z,x0⟩,⟨.sl 3 (.int .i64),.z,x1⟩] [⟨h11,.pr .z (.pr (.own .z) .z),y0⟩,⟨.bool,.z,y1⟩]
def G_iIsValidValue (x0:Int) (y0:Bool):Prop:=gZ 99 [⟨.int .i64,.z,x0⟩] [⟨.bool,.z,y0⟩]
def G_iwithin (x0:Int) (x1:Int) (x2:Int) (y0:Bool):Prop:=gZ 41 [⟨.int .i64,.z,x0⟩,⟨.int .i64,.z,x1⟩,⟨.int .i64,.z,x2⟩] [⟨.bool,.z,y0⟩]
def G_iNullValue (x0:Int) (y0:Int):Prop:=gZ 70 [⟨.int .i64,.z,x0⟩] [⟨.int .i64,.z,y0⟩]
def G_iExistentialVariables (x0:TDep) (y0:List Int):Prop:=gZ 69 [⟨h20,.z,x0⟩] [⟨.sl 3 (.int .i64),.own .z,y0⟩]
def G_iheadVariables (x0:TDep) (x1:Bool) (y0:List Int):Prop:=gZ 117 [⟨h20,.z,x0⟩,⟨.bool,.z,x1⟩] [⟨.sl 3 (.int .i64),.own .z,y0⟩]
def G_slices_Contains_int (x0:List Int) (x1:Int) (y0:Bool):Prop:=gZ 107 [⟨.sl 3 (.int .i64),.z,x0⟩,⟨.int .i64,.z,x1⟩] [⟨.bool,.z,y0⟩]
def G_slices_Index_int (x0:List Int) (x1:Int) (y0:Int):Prop:=gZ 146 [⟨.sl 3 (.int .i64),.z,x0⟩,⟨.int .i64,.z,x1⟩] [⟨.int .i64,.z,y0⟩]
def G_iVariables (x0:List TFact) (y0:List Int):Prop:=gZ 106 [⟨h15,.z,x0⟩] [⟨.sl 3 (.int .i64),.own .z,y0⟩]
def G_slices_Compact_int_ooz (x0:List Int) (y0:List Int):Prop:=GivesS prog 143 [⟨.sl 3 (.int .i64),.own .z,x0⟩] [⟨.sl 3 (.int .i64),.own .z,y0⟩] [⟨.sl 3 (.int .i64),.dead,x0⟩]
def G_slices_Sort_int_ooz (x0:List Int) (z0:List Int):Prop:=GivesS prog 142 [⟨.sl 3 (.int .i64),.own .z,x0⟩] [] [⟨.sl 3 (.int .i64),.own .z,z0⟩]
def G_iNextNull (x0:TInst) (y0:Int):Prop:=gZ 68 [⟨h14,.z,x0⟩] [⟨.int .i64,.z,y0⟩]
def G_iNullsOfInstance (x0:TInst) (y0:List Int):Prop:=gZ 116 [⟨h14,.z,x0⟩] [⟨.sl 3 (.int .i64),.own .z,y0⟩]
def G_inullsOf (x0:List Int) (y0:List Int):Prop:=gZ 103 [⟨.sl 3 (.int .i64),.z,x0⟩] [⟨.sl 3 (.int .i64),.own .z,y0⟩]
def G_iNullNumber (x0:Int) (y0:Int) (y1:Bool):Prop:=gZ 114 [⟨.int .i64,.z,x0⟩] [⟨.int .i64,.z,y0⟩,⟨.bool,.z,y1⟩]
def G_iequated (x0:TInst) (x1:Int) (x2:Int) (y0:TInst) (y1:Int):Prop:=gZ 67 [⟨h14,.z,x0⟩,⟨.int .i64,.z,x1⟩,⟨.int .i64,.z,x2⟩] [⟨h14,oI,y0⟩,⟨.int .i64,.z,y1⟩]
def G_iApplyToInstance (x0:TSub) (x1:TInst) (y0:TInst) (y1:Bool):Prop:=gZ 115 [⟨h28,.z,x0⟩,⟨h14,.z,x1⟩] [⟨h14,oI,y0⟩,⟨.bool,.z,y1⟩]
def G_iApplyToFact (x0:TSub) (x1:TFact) (y0:TFact):Prop:=gZ 152 [⟨h28,.z,x0⟩,⟨h11,.z,x1⟩] [⟨h11,.pr .z (.pr (.own .z) .z),y0⟩]
def G_iApplyToValue (x0:TSub) (x1:Int) (y0:Int):Prop:=gZ 166 [⟨h28,.z,x0⟩,⟨.int .i64,.z,x1⟩] [⟨.int .i64,.z,y0⟩]
def G_iIsValidSubstitution (x0:TSub) (y0:Bool):Prop:=gZ 151 [⟨h28,.z,x0⟩] [⟨.bool,.z,y0⟩]
def G_iIsValidInstance (x0:TInst) (y0:Bool):Prop:=gZ 38 [⟨h14,.z,x0⟩] [⟨.bool,.z,y0⟩]
def G_iNullsOfFact (x0:TFact) (y0:List Int):Prop:=gZ 60 [⟨h11,.z,x0⟩] [⟨.sl 3 (.int .i64),.own .z,y0⟩]
def G_iIsValidFact (x0:List TRel) (x1:TFact) (y0:Bool):Prop:=gZ 58 [⟨h9,.z,x0⟩,⟨h11,.z,x1⟩] [⟨.bool,.z,y0⟩]
def G_slices_ContainsFunc_int_c_iIsValidFact_1 (x0:List Int) (x1:Unit) (y0:Bool):Prop:=gZ 97 [⟨.sl 3 (.int .i64),.z,x0⟩,⟨.fn 98 .unit,.z,x1⟩] [⟨.bool,.z,y0⟩]
def G_slices_IndexFunc_int_c_iIsValidFact_1 (x0:List Int) (x1:Unit) (y0:Int):Prop:=gZ 140 [⟨.sl 3 (.int .i64),.z,x0⟩,⟨.fn 98 .unit,.z,x1⟩] [⟨.int .i64,.z,y0⟩]
def G_iIsValidFact_1 (x0:Int) (y0:Bool):Prop:=gZ 98 [⟨.int .i64,.z,x0⟩] [⟨.bool,.z,y0⟩]
def G_iAreValidRelations (x0:List TRel) (y0:Bool):Prop:=gZ 57 [⟨h9,.z,x0⟩] [⟨.bool,.z,y0⟩]
def G_iIsValidRelation (x0:TRel) (y0:Bool):Prop:=gZ 96 [⟨h8,.z,x0⟩] [⟨.bool,.z,y0⟩]
def G_iIsNull (x0:Int) (y0:Bool):Prop:=gZ 113 [⟨.int .i64,.z,x0⟩] [⟨.bool,.z,y0⟩]
def G_iIsActiveTrigger (x0:TInst) (x1:TDep) (x2:List Int) (y0:Bool):Prop:=gZ 66 [⟨h14,.z,x0⟩,⟨h20,.z,x1⟩,⟨.sl 3 (.int .i64),.z,x2⟩] [⟨.bool,.z,y0⟩]
def G_iHasExtension (x0:TInst) (x1:List TFact) (x2:List Int) (y0:Bool):Prop:=gZ 112 [⟨h14,.z,x0⟩,⟨h15,.z,x1⟩,⟨.sl 3 (.int .i64),.z,x2⟩] [⟨.bool,.z,y0⟩]
def G_imatches (x0:List TFact) (x1:List TFact) (x2:List Int) (y0:List (List Int)):Prop:=GivesS prog 150 [⟨h12,.z,x0⟩,⟨h15,.z,x1⟩,⟨.sl 3 (.int .i64),.own .z,x2⟩] [⟨.sl 51 (.sl 3 (.int .i64)),.own (.own .z),y0⟩] [⟨h12,.z,x0⟩,⟨h15,.z,x1⟩,⟨.sl 3 (.int .i64),.dead,x2⟩]
def G_ibind (x0:List Int) (x1:TFact) (x2:TFact) (y0:List Int) (y1:Bool):Prop:=gZ 165 [⟨.sl 3 (.int .i64),.z,x0⟩,⟨h11,.z,x1⟩,⟨h11,.z,x2⟩] [⟨.sl 3 (.int .i64),.own .z,y0⟩,⟨.bool,.z,y1⟩]
def G_iareMatchable (x0:TInst) (x1:List TFact) (y0:Bool):Prop:=gZ 149 [⟨h14,.z,x0⟩,⟨h15,.z,x1⟩] [⟨.bool,.z,y0⟩]
def G_iareAtoms (x0:List TRel) (x1:List TFact) (x2:Int) (y0:Bool):Prop:=gZ 105 [⟨h9,.z,x0⟩,⟨h15,.z,x1⟩,⟨.int .i64,.z,x2⟩] [⟨.bool,.z,y0⟩]
def G_slices_ContainsFunc_Atom_c_iareAtoms_1 (x0:List TFact) (x1:List TRel×Unit) (y0:Bool):Prop:=gZ 108 [⟨h15,.z,x0⟩,⟨.fn 144 h32,.z,x1⟩] [⟨.bool,.z,y0⟩]
def G_slices_IndexFunc_Atom_c_iareAtoms_1 (x0:List TFact) (x1:List TRel×Unit) (y0:Int):Prop:=gZ 147 [⟨h15,.z,x0⟩,⟨.fn 144 h32,.z,x1⟩] [⟨.int .i64,.z,y0⟩]
def G_iareAtoms_1 (x0:TFact) (x1:List TRel) (y0:Bool):Prop:=gZ 144 [⟨h11,.z,x0⟩,⟨.ptr h9,.z,x1⟩] [⟨.bool,.z,y0⟩]
def G_iIsValidAtom (x0:List TRel) (x1:TFact) (y0:Bool):Prop:=gZ 145 [⟨h9,.z,x0⟩,⟨h11,.z,x1⟩] [⟨.bool,.z,y0⟩]
def G_slices_ContainsFunc_int_c_iIsValidAtom_1 (x0:List Int) (x1:Unit) (y0:Bool):Prop:=gZ 97 [⟨.sl 3 (.int .i64),.z,x0⟩,⟨.fn 162 .unit,.z,x1⟩] [⟨.bool,.z,y0⟩]
def G_slices_IndexFunc_int_c_iIsValidAtom_1 (x0:List Int) (x1:Unit) (y0:Int):Prop:=gZ 140 [⟨.sl 3 (.int .i64),.z,x0⟩,⟨.fn 162 .unit,.z,x1⟩] [⟨.int .i64,.z,y0⟩]
def G_iIsValidAtom_1 (x0:Int) (y0:Bool):Prop:=gZ 162 [⟨.int .i64,.z,x0⟩] [⟨.bool,.z,y0⟩]
def G_iIsTrigger (x0:TInst) (x1:TDep) (x2:List Int) (y0:Bool):Prop:=gZ 111 [⟨h14,.z,x0⟩,⟨h20,.z,x1⟩,⟨.sl 3 (.int .i64),.z,x2⟩] [⟨.bool,.z,y0⟩]
def G_ihasFact (x0:List TFact) (x1:TFact) (y0:Bool):Prop:=gZ 148 [⟨h12,.z,x0⟩,⟨h11,.z,x1⟩] [⟨.bool,.z,y0⟩]
def G_slices_ContainsFunc_Fact_c_ihasFact_1 (x0:List TFact) (x1:TFact×Unit) (y0:Bool):Prop:=gZ 163 [⟨h12,.z,x0⟩,⟨.fn 164 h33,.z,x1⟩] [⟨.bool,.z,y0⟩]
def G_slices_IndexFunc_Fact_c_ihasFact_1 (x0:List TFact) (x1:TFact×Unit) (y0:Int):Prop:=gZ 191 [⟨h12,.z,x0⟩,⟨.fn 164 h33,.z,x1⟩] [⟨.int .i64,.z,y0⟩]
def G_ihasFact_1 (x0:TFact) (x1:TFact) (y0:Bool):Prop:=gZ 164 [⟨h11,.z,x0⟩,⟨.ptr h11,.z,x1⟩] [⟨.bool,.z,y0⟩]
def G_iIsValidDependency (x0:List TRel) (x1:TDep) (y0:Bool):Prop:=gZ 63 [⟨h9,.z,x0⟩,⟨h20,.z,x1⟩] [⟨.bool,.z,y0⟩]
def G_slices_ContainsFunc_Atom_c_iIsValidDependency_1 (x0:List TFact) (x1:List TRel×Unit) (y0:Bool):Prop:=gZ 108 [⟨h15,.z,x0⟩,⟨.fn 109 h32,.z,x1⟩] [⟨.bool,.z,y0⟩]
def G_slices_IndexFunc_Atom_c_iIsValidDependency_1 (x0:List TFact) (x1:List TRel×Unit) (y0:Int):Prop:=gZ 147 [⟨h15,.z,x0⟩,⟨.fn 109 h32,.z,x1⟩] [⟨.int .i64,.z,y0⟩]
def G_iIsValidDependency_1 (x0:TFact) (x1:List TRel) (y0:Bool):Prop:=gZ 109 [⟨h11,.z,x0⟩,⟨.ptr h9,.z,x1⟩] [⟨.bool,.z,y0⟩]
def G_iAreValidDependencies (x0:List TRel) (x1:List TDep) (y0:Bool):Prop:=gZ 39 [⟨h9,.z,x0⟩,⟨h21,.z,x1⟩] [⟨.bool,.z,y0⟩]
def G_slices_ContainsFunc_Dependency_c_iAreValidDependencies_1 (x0:List TDep) (x1:List TRel×Unit) (y0:Bool):Prop:=gZ 61 [⟨h21,.z,x0⟩,⟨.fn 62 h32,.z,x1⟩] [⟨.bool,.z,y0⟩]
def G_slices_IndexFunc_Dependency_c_iAreValidDependencies_1 (x0:List TDep) (x1:List TRel×Unit) (y0:Int):Prop:=gZ 104 [⟨h21,.z,x0⟩,⟨.fn 62 h32,.z,x1⟩] [⟨.int .i64,.z,y0⟩]
def G_iAreValidDependencies_1 (x0:TDep) (x1:List TRel) (y0:Bool):Prop:=gZ 62 [⟨h20,.z,x0⟩,⟨.ptr h9,.z,x1⟩] [⟨.bool,.z,y0⟩]
def G_sShortenFailureProof (x0:TInst) (x1:List TDep) (x2:List TFact) (y0:List TFact):Prop:=gZ 17 [⟨h14,.z,x0⟩,⟨h21,.z,x1⟩,⟨h22,.z,x2⟩] [⟨h22,.own .z,y0⟩]
def G_sl28Copy (x0:List TFact) (y0:List TFact):Prop:=gZ 28 [⟨h22,.z,x0⟩] [⟨h22,oF,y0⟩]
def G_iShortenFailureProof (x0:TInst) (x1:List TDep) (x2:List TFact) (y0:List TFact):Prop:=gZ 12 [⟨h14,.z,x0⟩,⟨h21,.z,x1⟩,⟨h22,.z,x2⟩] [⟨h22,.z,y0⟩]
def G_slices_Delete_ChaseStep_ooz (x0:List TFact) (x1:Int) (x2:Int) (y0:List TFact):Prop:=GivesS prog 24 [⟨h22,.own .z,x0⟩,⟨.int .i64,.z,x1⟩,⟨.int .i64,.z,x2⟩] [⟨h22,.own .z,y0⟩] [⟨h22,.dead,x0⟩,⟨.int .i64,.z,x1⟩,⟨.int .i64,.z,x2⟩]
def G_slices_Clone_ChaseStep (x0:List TFact) (y0:List TFact):Prop:=gZ 25 [⟨h22,.z,x0⟩] [⟨h22,.own .z,y0⟩]
def G_istepCopy (x0:TFact) (y0:TFact):Prop:=gZ 23 [⟨h11,.z,x0⟩] [⟨h11,.pr .z (.pr (.own .z) .z),y0⟩]
def G_iConflictingConstants (x0:TInst) (x1:List TDep) (x2:List TFact) (y0:Int) (y1:Int) (y2:Bool):Prop:=gZ 8 [⟨h14,.z,x0⟩,⟨h21,.z,x1⟩,⟨h22,.z,x2⟩] [⟨.int .i64,.z,y0⟩,⟨.int .i64,.z,y1⟩,⟨.bool,.z,y2⟩]
def G_sFindFailureProof (x0:TInst) (x1:List TDep) (y0:List TFact) (y1:Bool):Prop:=gZ 15 [⟨h14,.z,x0⟩,⟨h21,.z,x1⟩] [⟨h22,.own .z,y0⟩,⟨.bool,.z,y1⟩]
def G_sChase (x0:TInst) (x1:List TDep) (y0:TRes) (y1:Bool):Prop:=gZ 26 [⟨h14,.z,x0⟩,⟨h21,.z,x1⟩] [⟨h25,.pr .z (.pr .z (.pr (.own .z) .z)),y0⟩,⟨.bool,.z,y1⟩]
def G_sl16Go (x0:TInst) (x1:List TDep) (x2:List Int) (y0:TRes) (y1:Bool):Prop:=gZ 51 [⟨h14,.z,x0⟩,⟨h21,.z,x1⟩,⟨.sl 3 (.int .i64),.z,x2⟩] [⟨h25,.pr .z (.pr .z (.pr (.own .z) .z)),y0⟩,⟨.bool,.z,y1⟩]
def G_sl16Mod (x0:Int) (x1:Int) (y0:Int):Prop:=gZ 89 [⟨.int .i64,.z,x0⟩,⟨.int .i64,.z,x1⟩] [⟨.int .i64,.z,y0⟩]
def G_sl16All (x0:TInst) (x1:List TDep) (y0:List TFact):Prop:=gZ 88 [⟨h14,.z,x0⟩,⟨h21,.z,x1⟩] [⟨h22,.own .z,y0⟩]
def G_sActiveTriggers (x0:TInst) (x1:TDep) (y0:List (List Int)):Prop:=gZ 135 [⟨h14,.z,x0⟩,⟨h20,.z,x1⟩] [⟨.sl 51 (.sl 3 (.int .i64)),.own .z,y0⟩]
def G_sFindMatches (x0:TInst) (x1:List TFact) (y0:List (List Int)):Prop:=gZ 159 [⟨h14,.z,x0⟩,⟨h15,.z,x1⟩] [⟨.sl 51 (.sl 3 (.int .i64)),.own .z,y0⟩]
def G_sl11Blank  (y0:List Int):Prop:=gZ 181 [] [⟨.sl 3 (.int .i64),.own .z,y0⟩]
def G_iFindFailureProof (x0:TInst) (x1:List TDep) (y0:List TFact) (y1:Bool):Prop:=gZ 14 [⟨h14,.z,x0⟩,⟨h21,.z,x1⟩] [⟨h22,oF,y0⟩,⟨.bool,.z,y1⟩]
def G_iChase (x0:TInst) (x1:List TDep) (y0:TRes) (y1:Bool):Prop:=gZ 11 [⟨h14,.z,x0⟩,⟨h21,.z,x1⟩] [⟨h25,.pr oI (.pr .z (.pr oF .z)),y0⟩,⟨.bool,.z,y1⟩]
def G_iChaseWithOrder (x0:TInst) (x1:List TDep) (x2:List Int) (y0:TRes) (y1:Bool):Prop:=gZ 22 [⟨h14,.z,x0⟩,⟨h21,.z,x1⟩,⟨.sl 3 (.int .i64),.z,x2⟩] [⟨h25,.pr oI (.pr .z (.pr oF .z)),y0⟩,⟨.bool,.z,y1⟩]
def G_iallTriggers (x0:TInst) (x1:List TDep) (y0:List TFact):Prop:=gZ 49 [⟨h14,.z,x0⟩,⟨h21,.z,x1⟩] [⟨h22,oF,y0⟩]
def G_iActiveTriggers (x0:TInst) (x1:TDep) (y0:List (List Int)):Prop:=gZ 87 [⟨h14,.z,x0⟩,⟨h20,.z,x1⟩] [⟨.sl 51 (.sl 3 (.int .i64)),.own (.own .z),y0⟩]
def G_iFindMatches (x0:TInst) (x1:List TFact) (y0:List (List Int)):Prop:=gZ 134 [⟨h14,.z,x0⟩,⟨h15,.z,x1⟩] [⟨.sl 51 (.sl 3 (.int .i64)),.own (.own .z),y0⟩]
def G_ihasBinding (x0:List (List Int)) (x1:List Int) (y0:Bool):Prop:=gZ 158 [⟨.sl 51 (.sl 3 (.int .i64)),.z,x0⟩,⟨.sl 3 (.int .i64),.z,x1⟩] [⟨.bool,.z,y0⟩]
def G_slices_ContainsFunc_Sint_c_ihasBinding_1 (x0:List (List Int)) (x1:TUf) (y0:Bool):Prop:=gZ 178 [⟨.sl 51 (.sl 3 (.int .i64)),.z,x0⟩,⟨.fn 179 h34,.z,x1⟩] [⟨.bool,.z,y0⟩]
def G_slices_IndexFunc_Sint_c_ihasBinding_1 (x0:List (List Int)) (x1:TUf) (y0:Int):Prop:=gZ 198 [⟨.sl 51 (.sl 3 (.int .i64)),.z,x0⟩,⟨.fn 179 h34,.z,x1⟩] [⟨.int .i64,.z,y0⟩]
def G_ihasBinding_1 (x0:List Int) (x1:List Int) (y0:Bool):Prop:=gZ 179 [⟨.sl 3 (.int .i64),.z,x0⟩,⟨.ptr (.sl 3 (.int .i64)),.z,x1⟩] [⟨.bool,.z,y0⟩]
def G_slices_Equal_int (x0:List Int) (x1:List Int) (y0:Bool):Prop:=gZ 180 [⟨.sl 3 (.int .i64),.z,x0⟩,⟨.sl 3 (.int .i64),.z,x1⟩] [⟨.bool,.z,y0⟩]
def G_iunboundBinding  (y0:List Int):Prop:=gZ 157 [] [⟨.sl 3 (.int .i64),.own .z,y0⟩]
def G_slices_Repeat_int (x0:List Int) (x1:Int) (y0:List Int):Prop:=gZ 177 [⟨.sl 3 (.int .i64),.z,x0⟩,⟨.int .i64,.z,x1⟩] [⟨.sl 3 (.int .i64),.own .z,y0⟩]
def G_math_bits_Mul (x0:Int) (x1:Int) (y0:Int) (y1:Int):Prop:=gZ 197 [⟨.int .u64,.z,x0⟩,⟨.int .u64,.z,x1⟩] [⟨.int .u64,.z,y0⟩,⟨.int .u64,.z,y1⟩]
def G_math_bits_Mul64 (x0:Int) (x1:Int) (y0:Int) (y1:Int):Prop:=gZ 204 [⟨.int .u64,.z,x0⟩,⟨.int .u64,.z,x1⟩] [⟨.int .u64,.z,y0⟩,⟨.int .u64,.z,y1⟩]
def G_sDrawFindFailureProof (x0:List Int) (y0:TInst) (y1:List TDep):Prop:=gZ 13 [⟨.sl 5 (.int .u8),.z,x0⟩] [⟨h14,oI,y0⟩,⟨h21,.z,y1⟩]
def G_sl28Both (x0:List Int) (y0:List Int×Int×Int×Unit) (y1:TInst) (y2:List TDep):Prop:=gZ 18 [⟨.sl 5 (.int .u8),.z,x0⟩] [⟨.ptr h26,.own .z,y0⟩,⟨h14,oI,y1⟩,⟨h21,.z,y2⟩]
def G_sl16Rules_poz (x0:List Int×Int×Int×Unit) (y0:List TDep) (z0:List Int×Int×Int×Unit):Prop:=GivesS prog 35 [⟨.ptr h26,.own .z,x0⟩] [⟨h21,.z,y0⟩] [⟨.ptr h26,.own .z,z0⟩]
def G_sIsWeaklyAcyclic (x0:List TRel) (x1:List TDep) (y0:Bool):Prop:=gZ 33 [⟨h9,.z,x0⟩,⟨h21,.z,x1⟩] [⟨.bool,.z,y0⟩]
def G_sSpecialCycleEdge (x0:List TRel) (x1:List TDep) (y0:TEdge) (y1:Bool):Prop:=gZ 54 [⟨h9,.z,x0⟩,⟨h21,.z,x1⟩] [⟨h27,.z,y0⟩,⟨.bool,.z,y1⟩]
def G_sIsReachable (x0:Int) (x1:List TEdge) (x2:Int) (x3:Int) (y0:Bool):Prop:=gZ 93 [⟨.int .i64,.z,x0⟩,⟨h29,.z,x1⟩,⟨.int .i64,.z,x2⟩,⟨.int .i64,.z,x3⟩] [⟨.bool,.z,y0⟩]
def G_sPositionCount (x0:List TRel) (y0:Int):Prop:=gZ 94 [⟨h9,.z,x0⟩] [⟨.int .i64,.z,y0⟩]
def G_sPositionGraph (x0:List TRel) (x1:List TDep) (y0:List TEdge):Prop:=gZ 92 [⟨h9,.z,x0⟩,⟨h21,.z,x1⟩] [⟨h29,.own .z,y0⟩]
def G_sl13Put_ooz (x0:List TEdge) (x1:TEdge) (y0:List TEdge):Prop:=GivesS prog 138 [⟨h29,.own .z,x0⟩,⟨h27,.z,x1⟩] [⟨h29,.own .z,y0⟩] [⟨h29,.dead,x0⟩,⟨h27,.z,x1⟩]
def G_sl13Places (x0:List TRel) (x1:List TFact) (x2:Int) (y0:List Int):Prop:=gZ 137 [⟨h9,.z,x0⟩,⟨h15,.z,x1⟩,⟨.int .i64,.z,x2⟩] [⟨.sl 3 (.int .i64),.own .z,y0⟩]
def G_sPositionIndex (x0:List TRel) (x1:Int) (x2:Int) (y0:Int):Prop:=gZ 160 [⟨h9,.z,x0⟩,⟨.int .i64,.z,x1⟩,⟨.int .i64,.z,x2⟩] [⟨.int .i64,.z,y0⟩]
def G_sFrontierVariables (x0:TDep) (y0:List Int):Prop:=gZ 136 [⟨h20,.z,x0⟩] [⟨.sl 3 (.int .i64),.own .z,y0⟩]
def G_sl3Sigs  (y0:List TRel):Prop:=gZ 34 [] [⟨h9,.own .z,y0⟩]
def G_sl9Rules_poz (x0:List Int×Int×Int×Unit) (y0:List TDep) (z0:List Int×Int×Int×Unit):Prop:=GivesS prog 55 [⟨.ptr h26,.own .z,x0⟩] [⟨h21,oE,y0⟩] [⟨.ptr h26,.own .z,z0⟩]
def G_sl9Rule_poz (x0:List Int×Int×Int×Unit) (y0:TDep) (z0:List Int×Int×Int×Unit):Prop:=GivesS prog 95 [⟨.ptr h26,.own .z,x0⟩] [⟨h20,oD,y0⟩] [⟨.ptr h26,.own .z,z0⟩]
def G_sl9Atom_poz (x0:List Int×Int×Int×Unit) (x1:Int) (x2:Int) (y0:TFact) (z0:List Int×Int×Int×Unit):Prop:=GivesS prog 139 [⟨.ptr h26,.own .z,x0⟩,⟨.int .i64,.z,x1⟩,⟨.int .i64,.z,x2⟩] [⟨h11,.pr .z (.pr (.own .z) .z),y0⟩] [⟨.ptr h26,.own .z,z0⟩,⟨.int .i64,.z,x1⟩,⟨.int .i64,.z,x2⟩]
def G_sl1Below_poz (x0:List Int×Int×Int×Unit) (x1:Int) (y0:Int) (z0:List Int×Int×Int×Unit):Prop:=GivesS prog 37 [⟨.ptr h26,.own .z,x0⟩,⟨.int .i64,.z,x1⟩] [⟨.int .i64,.z,y0⟩] [⟨.ptr h26,.own .z,z0⟩,⟨.int .i64,.z,x1⟩]
def G_sl1Byte_poz (x0:List Int×Int×Int×Unit) (y0:Int) (z0:List Int×Int×Int×Unit):Prop:=GivesS prog 56 [⟨.ptr h26,.own .z,x0⟩] [⟨.int .i64,.z,y0⟩] [⟨.ptr h26,.own .z,z0⟩]
def G_sl1Once_poz (x0:List Int×Int×Int×Unit) (x1:Int) (y0:Bool) (z0:List Int×Int×Int×Unit):Prop:=GivesS prog 32 [⟨.ptr h26,.own .z,x0⟩,⟨.int .i64,.z,x1⟩] [⟨.bool,.z,y0⟩] [⟨.ptr h26,.own .z,z0⟩,⟨.int .i64,.z,x1⟩]
def G_sVariables_oopzpozz (x0:List TFact) (y0:List Int) (z0:List TFact):Prop:=GivesS prog 126 [⟨h15,oF,x0⟩] [⟨.sl 3 (.int .i64),.z,y0⟩] [⟨h15,oF,z0⟩]
def G_sl9Known_poz (x0:List Int×Int×Int×Unit) (y0:TDep) (z0:List Int×Int×Int×Unit):Prop:=GivesS prog 31 [⟨.ptr h26,.own .z,x0⟩] [⟨h20,oD,y0⟩] [⟨.ptr h26,.own .z,z0⟩]
def G_sl5Source_poz (x0:List Int×Int×Int×Unit) (x1:Int) (y0:TInst) (z0:List Int×Int×Int×Unit):Prop:=GivesS prog 30 [⟨.ptr h26,.own .z,x0⟩,⟨.int .i64,.z,x1⟩] [⟨h14,oI,y0⟩] [⟨.ptr h26,.own .z,z0⟩,⟨.int .i64,.z,x1⟩]
def G_sl4Fact_poz (x0:List Int×Int×Int×Unit) (x1:Int) (x2:Int) (y0:TFact) (z0:List Int×Int×Int×Unit):Prop:=GivesS prog 53 [⟨.ptr h26,.own .z,x0⟩,⟨.int .i64,.z,x1⟩,⟨.int .i64,.z,x2⟩] [⟨h11,.pr .z (.pr (.own .z) .z),y0⟩] [⟨.ptr h26,.own .z,z0⟩,⟨.int .i64,.z,x1⟩,⟨.int .i64,.z,x2⟩]
def G_sl4Value_poz (x0:List Int×Int×Int×Unit) (x1:Int) (y0:Int) (z0:List Int×Int×Int×Unit):Prop:=GivesS prog 91 [⟨.ptr h26,.own .z,x0⟩,⟨.int .i64,.z,x1⟩] [⟨.int .i64,.z,y0⟩] [⟨.ptr h26,.own .z,z0⟩,⟨.int .i64,.z,x1⟩]
def G_sl1New (x0:List Int) (y0:List Int×Int×Int×Unit):Prop:=gZ 29 [⟨.sl 5 (.int .u8),.z,x0⟩] [⟨.ptr h26,.own .z,y0⟩]
def G_lbig (x0:List Int) (y0:Bool):Prop:=gZ 5 [⟨.sl 5 (.int .u8),.z,x0⟩] [⟨.bool,.z,y0⟩]
theorem K_slices_CompactFunc_Fact_oopzpozz_c_isameFact (x0:List TFact) (x1:Unit) (y0:List TFact) (H:∀ xs:List (TTok TFact),xs.map (·.2)=x0→∃ ys:List (TTok TFact),ys.Sublist xs∧ys.map (·.2)=y0∧G_slices_CompactFunc_Fact_tok_c_isameFact xs x1 ys):G_slices_CompactFunc_Fact_oopzpozz_c_isameFact x0 x1 y0:=own_tok (by rfl) H
theorem K_isameFact_tok (x0:TTok TFact) (x1:TTok TFact) (y0:Bool) (h:G_isameFact x0.2 x1.2 y0):G_isameFact_tok x0 x1 y0:=tok_args h
end Go.V

