/-
  The functions that are reached: types, signatures, what a call of each gives.
-/
import Derived.Test.YtoapopjcpgmfkaaGreatVE
import Derived.Test.YtoapopjcpgmfkaaGreatProg
import Derived.KernelRfl
set_option linter.unusedVariables false
set_option linter.unusedSimpArgs false
set_option maxRecDepth 1000000
set_option maxHeartbeats 4000000
set_option linter.unusedVariables false
namespace Go.V
open Go Go.Proofs
abbrev h0:Sh:=.pair (.int .u8) .unit
abbrev h1:Sh:=.pair .bool h0
abbrev h2:Sh:=.pair (.int .i64) h1
abbrev h3:Sh:=.pair (.int .i64) h2
abbrev h4:Sh:=.pair (.int .u64) .unit
abbrev h5:Sh:=.pair .str h4
abbrev h6:Sh:=.pair .bool .unit
abbrev h7:Sh:=.pair (.int .i64) h6
abbrev h8:Sh:=.pair .str h7
abbrev h9:Sh:=.sl 81 h8
abbrev h10:Sh:=.pair (.sl 3 (.int .i64)) .unit
abbrev h11:Sh:=.pair (.int .i64) h10
abbrev h12:Sh:=.sl 77 h11
abbrev h13:Sh:=.pair h12 .unit
abbrev h14:Sh:=.pair h9 h13
abbrev h15:Sh:=.sl 94 h11
abbrev h16:Sh:=.pair (.int .i64) .unit
abbrev h17:Sh:=.pair (.int .i64) h16
abbrev h18:Sh:=.pair .bool h17
abbrev h19:Sh:=.pair h15 h18
abbrev h20:Sh:=.pair h15 h19
abbrev h21:Sh:=.sl 67 h20
abbrev h22:Sh:=.sl 122 h11
abbrev h23:Sh:=.pair h22 .unit
abbrev h24:Sh:=.pair (.int .i64) h23
abbrev h25:Sh:=.pair h14 h24
abbrev h26:Sh:=.pair (.sl 5 (.int .u8)) h17
abbrev h27:Sh:=.pair (.sl 3 (.int .i64)) h10
abbrev h28:Sh:=.pair (.ptr h9) .unit
abbrev h29:Sh:=.pair (.ptr h11) .unit
abbrev h30:Sh:=.pair (.ptr (.sl 3 (.int .i64))) .unit
abbrev h31:Sh:=.tok (.int .i64) h10
abbrev h32:Sh:=.sl 77 h31
abbrev oF:O:=.own (.pr .z (.pr (.own .z) .z))
abbrev oI:O:=.pr (.own .z) (.pr oF .z)
abbrev oT:O:=.own (.pr .z (.pr .z (.pr (.own .z) .z)))
abbrev oS:O:=.pr oI (.pr oT .z)
abbrev oD:O:=.pr oF (.pr oF .z)
abbrev oE:O:=.own oD
noncomputable abbrev prog:Program:=Tryz.prog
noncomputable abbrev gZ (f:Nat) (us rs:List OV):Prop:=GivesS prog f us rs us
def shTab:List (Nat×Sh):=[(2,.int .i64),(3,.int .i64),(4,.bool),(5,.int .u8),(6,.int .u8),(9,.str),(10,.str),(11,.str),(12,.int .u64),(21,.int .i32),(22,.sl 5 (.int .u8)),(24,h9),(25,h12),(26,h14),(27,h14),(28,h21),(31,.sl 3 (.int .i64)),(32,h10),(33,h10),(41,h22),(42,h25),(43,h25),(55,.ptr h26),(65,h15),(66,h20),(67,h20),(70,h27),(71,h27),(76,h11),(77,h11),(80,h8),(81,h8),(93,h11),(94,h11),(103,.sl 31 (.sl 3 (.int .i64))),(121,h11),(122,h11),(124,h26),(125,h26),(146,.int .u64),(167,.int .i64),(174,.int .u32),(176,.int .u64),(190,.int .u64),(194,.ptr (.int .i64)),(203,.ptr (.int .u64)),(213,.int .u8),(214,.int .u8),(216,.ptr (.int .u8)),(217,.int .i32),(218,.int .i32)]
def sigTab:List (Nat×List Sig):=[(3,[⟨[.z],[(.bool,.z)],[.z]⟩]),(4,[⟨[.z],[(.bool,.z)],[.z]⟩]),(5,[⟨[.z],[(h14,oI),(h21,oE)],[.z]⟩]),(6,[⟨[.z,.z],[(h14,oI),(h10,.pr (.own .z) .z),(.int .i64,.z)],[.z,.z]⟩]),(7,[⟨[.z,.z],[(h14,.z),(h10,.pr (.own .z) .z),(.int .i64,.z)],[.z,.z]⟩]),(8,[⟨[.z],[(h21,oE)],[.z]⟩]),(9,[⟨[.z,.z],[(.bool,.z)],[.z,.z]⟩]),(10,[⟨[.z,.z],[(.bool,.z)],[.z,.z]⟩]),(11,[⟨[.z],[(h21,oE)],[.z]⟩]),(12,[⟨[.z],[(.bool,.z)],[.z]⟩]),(13,[⟨[.z,.z],[(.bool,.z)],[.z,.z]⟩]),(14,[⟨[.z,.z],[(h25,.pr .z (.pr .z (.pr (.own .z) .z))),(.bool,.z)],[.z,.z]⟩]),(15,[⟨[.z],[(h14,oI),(h21,oE),(.int .i64,.z),(.int .i64,.z)],[.z]⟩]),(16,[⟨[.z],[(h14,oI),(h21,oE),(.int .i64,.z)],[.z]⟩]),(17,[⟨[.z,.z,.z],[(.int .i64,.z),(.bool,.z)],[.z,.z,.z]⟩]),(18,[⟨[.z,.z,.z],[(.int .i64,.z),(.bool,.z)],[.z,.z,.z]⟩]),(19,[⟨[.z,.z,.z,.z],[(.bool,.z)],[.z,.z,.z,.z]⟩]),(20,[⟨[.z,.z,.z,.z],[(.bool,.z)],[.z,.z,.z,.z]⟩]),(21,[⟨[.z,.z],[(.bool,.z)],[.z,.z]⟩]),(22,[⟨[.z],[(.bool,.z)],[.z]⟩]),(23,[⟨[.z],[(.ptr h26,.own .z),(h14,oI),(h21,oE)],[.z]⟩]),(24,[⟨[.z],[(.bool,.z)],[.z]⟩]),(25,[⟨[.z,.z],[(.bool,.z)],[.z,.z]⟩]),(26,[⟨[.z],[(h14,oI)],[.z]⟩]),(27,[⟨[.z],[(h10,.pr (.own .z) .z)],[.z]⟩]),(28,[⟨[.z],[(.int .i64,.z)],[.z]⟩]),(29,[⟨[.z,.z],[(.int .i64,.z),(.sl 3 (.int .i64),.own .z),(.bool,.z)],[.z,.z]⟩]),(30,[⟨[.z,.z,.z],[(h10,.pr (.own .z) .z),(.int .i64,.z)],[.z,.z,.z]⟩]),(31,[⟨[.z,.z],[(h14,oI),(.bool,.z)],[.z,.z]⟩]),(32,[⟨[.z],[(h27,.pr (.own .z) (.pr (.own .z) .z))],[.z]⟩]),(33,[⟨[.z],[(h14,oI)],[.z]⟩]),(34,[⟨[.z],[(h10,.pr (.own .z) .z)],[.z]⟩]),(35,[⟨[.z],[(.int .i64,.z)],[.z]⟩]),(36,[⟨[.z,.z],[(.int .i64,.z),(.sl 3 (.int .i64),.z),(.bool,.z)],[.z,.z]⟩]),(37,[⟨[.z,.z,.z],[(h10,.pr (.own .z) .z),(.int .i64,.z)],[.z,.z,.z]⟩]),(38,[⟨[.z,.z],[(h14,oI),(.bool,.z)],[.z,.z]⟩]),(39,[⟨[.z],[(h27,.pr (.own .z) (.pr (.own .z) .z))],[.z]⟩]),(40,[⟨[.z],[(h20,oD)],[.z]⟩]),(41,[⟨[.z,.z],[(.bool,.z)],[.z,.z]⟩]),(42,[⟨[.z,.z],[(.int .i64,.z)],[.z,.z]⟩]),(43,[⟨[.z,.z],[(.int .i64,.z)],[.z,.z]⟩]),(44,[⟨[.z],[(h20,oD)],[.z]⟩]),(45,[⟨[.z,.z],[(.bool,.z)],[.z,.z]⟩]),(46,[⟨[.z],[(.sl 3 (.int .i64),.z)],[.z]⟩]),(47,[⟨[.z],[(.bool,.z)],[.z]⟩]),(48,[⟨[.z,.z],[(.bool,.z)],[.z,.z]⟩]),(49,[⟨[.z,.z,.z],[(h25,.pr .z (.pr .z (.pr (.own .z) .z))),(.bool,.z)],[.z,.z,.z]⟩]),(50,[⟨[.own .z,.z],[(.int .i64,.z)],[.own .z,.z]⟩]),(51,[⟨[.own .z,.z],[(.int .i64,.z)],[.own .z,.z]⟩]),(52,[⟨[.z,.z],[(.int .i64,.z)],[.z,.z]⟩]),(53,[⟨[.z],[(.int .i64,.z)],[.z]⟩]),(54,[⟨[.z],[(.bool,.z)],[.z]⟩]),(55,[⟨[.z,.z],[(.int .i64,.z)],[.z,.z]⟩]),(56,[⟨[.z],[(.int .i64,.z)],[.z]⟩]),(57,[⟨[.z],[(.int .i64,.z),(.bool,.z)],[.z]⟩]),(58,[⟨[.z],[(.bool,.z)],[.z]⟩]),(59,[⟨[.z],[(.ptr h26,.own .z)],[.z]⟩]),(60,[⟨[.own .z,.z,.z],[(h14,oI)],[.own .z,.z,.z]⟩]),(61,[⟨[.own .z],[(h20,oD)],[.own .z]⟩]),(62,[⟨[.own .z,.z],[(.bool,.z)],[.own .z,.z]⟩]),(63,[⟨[.own .z],[(h20,oD)],[.own .z]⟩]),(64,[⟨[.z],[(.bool,.z)],[.z]⟩]),(65,[⟨[.z,.z],[(.bool,.z)],[.z,.z]⟩]),(66,[⟨[.z,.z],[(.int .i64,.z)],[.z,.z]⟩]),(67,[⟨[.z],[(.sl 3 (.int .i64),.own .z)],[.z]⟩]),(68,[⟨[.z,.z],[(.bool,.z)],[.z,.z]⟩]),(69,[⟨[.z,.z],[(.bool,.z)],[.z,.z]⟩]),(70,[⟨[.z,.z],[(.bool,.z)],[.z,.z]⟩]),(71,[⟨[.z],[(h9,.own .z)],[.z]⟩]),(72,[⟨[.z],[(h12,oF)],[.z]⟩]),(73,[⟨[.z,.z,.z],[(.bool,.z)],[.z,.z,.z]⟩]),(74,[⟨[.z],[(.sl 3 (.int .i64),.own .z)],[.z]⟩]),(75,[⟨[.z,.z],[(.sl 31 (.sl 3 (.int .i64)),.own (.own .z))],[.z,.z]⟩]),(76,[⟨[.z],[(.sl 3 (.int .i64),.own .z)],[.z]⟩]),(77,[⟨[.z,.z],[(.bool,.z)],[.z,.z]⟩]),(78,[⟨[.z],[(.bool,.z)],[.z]⟩]),(79,[⟨[.z,.z],[(h11,.pr .z (.pr (.own .z) .z))],[.z,.z]⟩]),(80,[⟨[.z],[(h12,oF)],[.z]⟩]),(81,[⟨[.z],[(h11,.pr .z (.pr (.own .z) .z))],[.z]⟩]),(82,[⟨[.z,.z,.z],[(.bool,.z)],[.z,.z,.z]⟩]),(83,[⟨[.z],[(.sl 3 (.int .i64),.z)],[.z]⟩]),(84,[⟨[.z,.z],[(.sl 31 (.sl 3 (.int .i64)),.own .z)],[.z,.z]⟩]),(85,[⟨[.z],[(.int .i64,.z),(.bool,.z)],[.z]⟩]),(86,[⟨[.z],[(.bool,.z)],[.z]⟩]),(87,[⟨[.z],[(.bool,.z)],[.z]⟩]),(88,[⟨[.z],[(.bool,.z)],[.z]⟩]),(89,[⟨[.z,.z],[(h14,.z)],[.z,.z]⟩]),(90,[⟨[.z,.z],[(h11,.pr .z (.pr (.own .z) .z))],[.z,.z]⟩]),(91,[⟨[.z],[(h15,oF)],[.z]⟩]),(92,[⟨[.z,.z],[(.sl 3 (.int .i64),.z)],[.z,.z]⟩]),(93,[⟨[.z],[(.bool,.z)],[.z]⟩]),(94,[⟨[.z,.z],[(.bool,.z)],[.z,.z]⟩]),(95,[⟨[oF],[(.sl 3 (.int .i64),.z)],[oF]⟩,⟨[.z],[(.sl 3 (.int .i64),.z)],[.z]⟩]),(96,[⟨[.z,.z],[(.bool,.z)],[.z,.z]⟩]),(97,[⟨[.z,.z],[(h22,.own .z)],[.z,.z]⟩]),(98,[⟨[.z,.z],[(.int .i64,.z)],[.z,.z]⟩]),(99,[⟨[.z,.z,.z],[(h14,.z),(.int .i64,.z)],[.z,.z,.z]⟩]),(100,[⟨[.own .z],[(.int .i64,.z)],[.own .z]⟩]),(101,[⟨[],[(h9,.own .z)],[]⟩]),(102,[⟨[.own .z,.z,.z],[(h11,.pr .z (.pr (.own .z) .z))],[.own .z,.z,.z]⟩]),(103,[⟨[.own .z],[(h20,oD)],[.own .z]⟩]),(104,[⟨[.own .z,.z,.z],[(h11,.pr .z (.pr (.own .z) .z))],[.own .z,.z,.z]⟩]),(105,[⟨[.own .z,.z],[(.int .i64,.z)],[.own .z,.z]⟩]),(106,[⟨[.z],[(.bool,.z)],[.z]⟩]),(107,[⟨[.z,.z],[(.bool,.z)],[.z,.z]⟩]),(108,[⟨[.z],[(.bool,.z)],[.z]⟩]),(109,[⟨[.z],[(.int .i64,.z)],[.z]⟩]),(110,[⟨[.z,.z],[(.int .i64,.z)],[.z,.z]⟩]),(111,[⟨[.z,.z],[(.int .i64,.z)],[.z,.z]⟩]),(112,[⟨[.z],[(.sl 3 (.int .i64),.own .z)],[.z]⟩]),(113,[⟨[.z,.z],[(.int .i64,.z)],[.z,.z]⟩]),(114,[⟨[.z,.z,.z],[(.bool,.z)],[.z,.z,.z]⟩]),(115,[⟨[.z],[(.sl 3 (.int .i64),.own .z)],[.z]⟩]),(116,[⟨[.z,.z],[(.bool,.z)],[.z,.z]⟩]),(117,[⟨[.z,.z],[(.bool,.z)],[.z,.z]⟩]),(118,[⟨[.z,.z],[(.bool,.z)],[.z,.z]⟩]),(119,[⟨[.z],[(h11,.pr .z (.pr (.own .z) .z))],[.z]⟩]),(120,[⟨[.z,.z],[(.sl 31 (.sl 3 (.int .i64)),.own (.own .z))],[.z,.z]⟩]),(121,[⟨[.z,.z,.z],[(.bool,.z)],[.z,.z,.z]⟩]),(122,[⟨[.z,.z],[(.int .i64,.z)],[.z,.z]⟩]),(123,[⟨[oF,.z],[],[oF,.z]⟩]),(124,[⟨[oF,.z],[(h12,oF)],[.dead,.z]⟩]),(125,[⟨[.z,.z],[(.bool,.z)],[.z,.z]⟩]),(126,[⟨[.z,.z],[(.sl 31 (.sl 3 (.int .i64)),.own .z)],[.z,.z]⟩]),(127,[⟨[.z,.z,.z],[(.bool,.z)],[.z,.z,.z]⟩]),(128,[⟨[.z,.z],[(.int .i64,.z)],[.z,.z]⟩]),(129,[⟨[.z,.z],[(.int .i64,.z)],[.z,.z]⟩]),(130,[⟨[.z],[(.sl 3 (.int .i64),.own .z)],[.z]⟩]),(131,[⟨[.z,.z],[(h11,.pr .z (.pr (.own .z) .z)),(.bool,.z)],[.z,.z]⟩]),(132,[⟨[.z,.z],[(.int .i64,.z)],[.z,.z]⟩]),(133,[⟨[.z],[(.bool,.z)],[.z]⟩]),(134,[⟨[.own .z],[],[.own .z]⟩]),(135,[⟨[.own .z],[(.sl 3 (.int .i64),.own .z)],[.dead]⟩]),(136,[⟨[.z,.z],[(.bool,.z)],[.z,.z]⟩]),(137,[⟨[.z,.z],[(.bool,.z)],[.z,.z]⟩]),(138,[⟨[.z,.z],[(.int .i64,.z)],[.z,.z]⟩]),(139,[⟨[.z,.z],[(.int .i64,.z)],[.z,.z]⟩]),(140,[⟨[.z,.z],[(.bool,.z)],[.z,.z]⟩]),(141,[⟨[.z,.z,.own .z],[(.sl 31 (.sl 3 (.int .i64)),.own (.own .z))],[.z,.z,.dead]⟩]),(142,[⟨[],[(.sl 3 (.int .i64),.own .z)],[]⟩]),(143,[⟨[.z,.z],[(.bool,.z)],[.z,.z]⟩]),(144,[⟨[.z,.z,.z],[(.bool,.z)],[.z,.z,.z]⟩]),(145,[⟨[.z,.z,.z],[(.bool,.z)],[.z,.z,.z]⟩]),(148,[⟨[.z,.z],[(.bool,.z)],[.z,.z]⟩]),(149,[⟨[.z,.z,.z,.z],[(.sl 31 (.sl 3 (.int .i64)),.own (.own .z))],[.z,.z,.z,.z]⟩]),(150,[⟨[],[(.sl 3 (.int .i64),.own .z)],[]⟩]),(151,[⟨[.z,.z,.z],[(.bool,.z)],[.z,.z,.z]⟩]),(152,[⟨[.z,.z,.z],[(.bool,.z)],[.z,.z,.z]⟩]),(154,[⟨[.z],[(.bool,.z)],[.z]⟩]),(155,[⟨[.z,.z,.z],[(.sl 3 (.int .i64),.own .z),(.bool,.z)],[.z,.z,.z]⟩]),(156,[⟨[.z,.z],[(.sl 3 (.int .i64),.own .z)],[.z,.z]⟩]),(157,[⟨[.z,.z],[(.bool,.z)],[.z,.z]⟩]),(158,[⟨[.z,.z],[(.bool,.z)],[.z,.z]⟩]),(159,[⟨[.z,.z],[(.bool,.z)],[.z,.z]⟩]),(160,[⟨[.z,.z],[(h11,.pr .z (.pr (.own .z) .z)),(.bool,.z)],[.z,.z]⟩]),(161,[⟨[.z,.z],[(.bool,.z)],[.z,.z]⟩]),(172,[⟨[.z,.z,.z],[(.sl 3 (.int .i64),.own .z),(.bool,.z)],[.z,.z,.z]⟩]),(173,[⟨[],[(.int .i64,.z)],[]⟩]),(183,[⟨[.z,.z],[(.int .u64,.z),(.int .u64,.z)],[.z,.z]⟩]),(184,[⟨[.z,.z],[(.int .i64,.z)],[.z,.z]⟩]),(185,[⟨[.z,.z],[(.bool,.z)],[.z,.z]⟩]),(186,[⟨[.z,.z],[(.bool,.z)],[.z,.z]⟩]),(196,[⟨[.z,.z],[(.int .u64,.z),(.int .u64,.z)],[.z,.z]⟩]),(197,[⟨[.z,.z],[(.int .i64,.z)],[.z,.z]⟩])]
def parTab:List (Nat×List (Option Sh)):=[(3,[some (.sl 5 (.int .u8))]),(4,[some (.sl 5 (.int .u8))]),(5,[some (.sl 5 (.int .u8))]),(6,[some (h14),some (h21)]),(7,[some (h14),some (h21)]),(8,[some (h21)]),(9,[some (h14),some (h14)]),(10,[some (h10),some (h10)]),(11,[some (h21)]),(12,[some (h14)]),(13,[some (h9),some (h21)]),(14,[some (h14),some (h21)]),(15,[some (.sl 5 (.int .u8))]),(16,[some (.sl 5 (.int .u8))]),(17,[some (h14),some (h21),some (.int .i64)]),(18,[some (h14),some (h21),some (.int .i64)]),(19,[some (h14),some (h21),some (.int .i64),some (.int .i64)]),(20,[some (h14),some (h21),some (.int .i64),some (.int .i64)]),(21,[some (h14),some (h21)]),(22,[some (h10)]),(23,[some (.sl 5 (.int .u8))]),(24,[some (h14)]),(25,[some (h9),some (h21)]),(26,[some (h14)]),(27,[some (.int .i64)]),(28,[some (h14)]),(29,[some (h14),some (h21)]),(30,[some (h10),some (.int .i64),some (.int .i64)]),(31,[some (h27),some (h14)]),(32,[some (h10)]),(33,[some (h14)]),(34,[some (.int .i64)]),(35,[some (h14)]),(36,[some (h14),some (h21)]),(37,[some (h10),some (.int .i64),some (.int .i64)]),(38,[some (h27),some (h14)]),(39,[some (h10)]),(40,[some (h20)]),(41,[some (h9),some (h9)]),(42,[some (h11),some (h11)]),(43,[some (.sl 3 (.int .i64)),some (.sl 3 (.int .i64))]),(44,[some (h20)]),(45,[some (h9),some (h11)]),(46,[some (h11)]),(47,[some (h9)]),(48,[some (h9),some (h20)]),(49,[some (h14),some (h21),some (.sl 3 (.int .i64))]),(50,[some (.ptr h26),some (.int .i64)]),(51,[some (.ptr h26),some (.int .i64)]),(52,[some (h10),some (.int .i64)]),(53,[some (.int .i64)]),(54,[some (.int .i64)]),(55,[some (h10),some (.int .i64)]),(56,[some (.int .i64)]),(57,[some (.int .i64)]),(58,[some (.int .i64)]),(59,[some (.sl 5 (.int .u8))]),(60,[some (.ptr h26),some (.int .i64),some (.int .i64)]),(61,[some (.ptr h26)]),(62,[some (.ptr h26),some (.int .i64)]),(63,[some (.ptr h26)]),(64,[some (h9)]),(65,[some (h9),some (h11)]),(66,[some (h11),some (h11)]),(67,[some (h11)]),(68,[some (h21),none]),(69,[some (h20)]),(70,[some (h9),some (h20)]),(71,[some (h9)]),(72,[some (h12)]),(73,[some (.int .i64),some (.int .i64),some (.int .i64)]),(74,[some (h14)]),(75,[some (h14),some (h20)]),(76,[some (.sl 3 (.int .i64))]),(77,[some (h10),some (.int .i64)]),(78,[some (h27)]),(79,[some (h27),some (h11)]),(80,[some (h12)]),(81,[some (h11)]),(82,[some (.int .i64),some (.int .i64),some (.int .i64)]),(83,[some (h14)]),(84,[some (h14),some (h20)]),(85,[some (.int .i64)]),(86,[some (h10)]),(87,[some (.int .i64)]),(88,[some (h27)]),(89,[some (h14),some (h11)]),(90,[some (h27),some (h11)]),(91,[some (h15)]),(92,[some (.sl 3 (.int .i64)),some (.int .i64)]),(93,[some (h8)]),(94,[some (h9),some (h11)]),(95,[some (h15)]),(96,[some (.sl 3 (.int .i64)),some (.int .i64)]),(97,[some (h14),some (h21)]),(98,[some (.int .i64),some (.int .i64)]),(99,[some (h14),some (h20),some (.sl 3 (.int .i64))]),(100,[some (.ptr h26)]),(101,[]),(102,[some (.ptr h26),some (.int .i64),some (.int .i64)]),(103,[some (.ptr h26)]),(104,[some (.ptr h26),some (.int .i64),some (.int .i64)]),(105,[some (.ptr h26),some (.sl 3 (.int .i64))]),(106,[some (h8)]),(107,[some (.sl 3 (.int .i64)),none]),(108,[some (.int .i64)]),(109,[some (.sl 3 (.int .i64))]),(110,[some (.int .i64),some (.int .i64)]),(111,[some (.sl 3 (.int .i64)),some (.sl 3 (.int .i64))]),(112,[some (.sl 3 (.int .i64))]),(113,[some (h21),none]),(114,[some (h9),some (h15),some (.int .i64)]),(115,[some (h15)]),(116,[some (.sl 3 (.int .i64)),some (.int .i64)]),(117,[some (h15),none]),(118,[some (h11)]),(119,[some (h11)]),(120,[some (h14),some (h15)]),(121,[some (h14),some (h20),some (.sl 3 (.int .i64))]),(122,[some (h27),some (.int .i64)]),(123,[some (h12),none]),(124,[some (h12),none]),(125,[some (h11),some (h11)]),(126,[some (h14),some (h15)]),(127,[some (h14),some (h20),some (.sl 3 (.int .i64))]),(128,[some (h14),some (h11)]),(129,[some (h27),some (.int .i64)]),(130,[some (h20)]),(131,[some (h11),some (.sl 3 (.int .i64))]),(132,[some (.sl 3 (.int .i64)),none]),(133,[some (.int .i64)]),(134,[some (.sl 3 (.int .i64))]),(135,[some (.sl 3 (.int .i64))]),(136,[some (h11)]),(137,[some (h9),some (h11)]),(138,[some (.sl 3 (.int .i64)),some (.int .i64)]),(139,[some (h15),none]),(140,[some (h14),some (h15)]),(141,[some (h12),some (h15),some (.sl 3 (.int .i64))]),(142,[]),(143,[some (.sl 31 (.sl 3 (.int .i64))),some (.sl 3 (.int .i64))]),(144,[some (h14),some (h20),some (.sl 3 (.int .i64))]),(145,[some (h14),some (h15),some (.sl 3 (.int .i64))]),(148,[some (h14),some (h15)]),(149,[some (h14),some (h15),some (.int .i64),some (.sl 3 (.int .i64))]),(150,[]),(151,[some (h14),some (h20),some (.sl 3 (.int .i64))]),(152,[some (h14),some (h15),some (.sl 3 (.int .i64))]),(154,[some (.int .i64)]),(155,[some (.sl 3 (.int .i64)),some (h11),some (h11)]),(156,[some (.sl 3 (.int .i64)),some (.int .i64)]),(157,[some (.sl 31 (.sl 3 (.int .i64))),none]),(158,[some (.sl 3 (.int .i64))]),(159,[some (.sl 3 (.int .i64)),some (.sl 3 (.int .i64))]),(160,[some (h11),some (.sl 3 (.int .i64))]),(161,[some (h12),some (h11)]),(172,[some (h11),some (h11),some (.sl 3 (.int .i64))]),(173,[]),(183,[some (.int .u64),some (.int .u64)]),(184,[some (.sl 31 (.sl 3 (.int .i64))),none]),(185,[some (h12),none]),(186,[some (h11)]),(196,[some (.int .u64),some (.int .u64)]),(197,[some (h12),none])]
noncomputable def E:Env:={ sh:=fun t=>look t shTab,sigs:=fun f=>(look f sigTab).getD [],params:=fun f=>(look f parTab).getD [],gives:=GivesS prog }
theorem types_ok:∀ t s,E.sh t=some s→ShOk prog s none t:=tab_ok (by kernel_rfl)
theorem mixed:prog.follows .mixedOrders=true:=by kernel_rfl
abbrev nL:Nat→Option Loop:=fun i=>look i []
abbrev nP:Nat→Option Pl:=fun i=>look i []
theorem fg {L : Nat → Option Loop} {pl : Nat → Option Pl} {f : FuncId} {fn : Func} {g : Sig} {us : List OV} {m : List (Sh × O)} {val : resD (outD m) g.res} {Q : Prop} (hf : prog.funcs[f]? = some fn) (h : Q) (hn : (fn.name == "runtime.NumGoroutine") = false := by kernel_rfl) (ho : g.outs = m.map (·.2) := by rfl) (hu : outFit us m = true := by rfl) (e : fnV E L pl fn g us (ansK g.res m fun r => r = val) = Q := by kernel_rfl) : GivesS prog f us (encR g.res val).1 (encO us m (encR g.res val).2) := fn_gives types_ok (fun _ _ _ _ h => h) mixed hf hn rfl ho hu (Eq.mpr e h)
theorem fz {L : Nat → Option Loop} {pl : Nat → Option Pl} {f : FuncId} {fn : Func} {us : List OV} {l m : List (Sh × O)} {val : resD (outD m) l} {Q : Prop} (hf : prog.funcs[f]? = some fn) (h : Q) (hn : (fn.name == "runtime.NumGoroutine") = false := by kernel_rfl) (hu : outFit us m = true := by rfl) (e : fnV E L pl fn ⟨m.map (·.2), l, m.map (·.2)⟩ us (ansK l m fun r => r = val) = Q := by kernel_rfl) : GivesS prog f us (encR l val).1 (encO us m (encR l val).2) := fn_gives types_ok (fun _ _ _ _ h => h) mixed hf hn rfl rfl hu (Eq.mpr e h)
theorem fy {f : FuncId} {fn : Func} {us : List OV} {l m : List (Sh × O)} {val : resD (outD m) l} {Q : Prop} (hf : prog.funcs[f]? = some fn) (h : Q) (hn : (fn.name == "runtime.NumGoroutine") = false := by kernel_rfl) (hu : outFit us m = true := by rfl) (e : fnV E nL nP fn ⟨m.map (·.2), l, m.map (·.2)⟩ us (ansK l m fun r => r = val) = Q := by kernel_rfl) : GivesS prog f us (encR l val).1 (encO us m (encR l val).2) := fn_gives types_ok (fun _ _ _ _ h => h) mixed hf hn rfl rfl hu (Eq.mpr e h)
def shTab_slices_CompactFunc_Fact_tok_c_isameFact:List (Nat×Sh):=[(3,.int .i64),(4,.bool),(25,h32),(77,h31)]
def sigTab_slices_CompactFunc_Fact_tok_c_isameFact:List (Nat×List Sig):=[(124,[⟨[.own .z,.z],[(h32,.own .z)],[.dead,.z]⟩]),(125,[⟨[.z,.z],[(.bool,.z)],[.z,.z]⟩])]
def parTab_slices_CompactFunc_Fact_tok_c_isameFact:List (Nat×List (Option Sh)):=[(124,[some (h32),none]),(125,[some (h31),some (h31)])]
noncomputable def E_slices_CompactFunc_Fact_tok_c_isameFact:Env:={ sh:=fun t=>look t shTab_slices_CompactFunc_Fact_tok_c_isameFact,sigs:=fun f=>(look f sigTab_slices_CompactFunc_Fact_tok_c_isameFact).getD [],params:=fun f=>(look f parTab_slices_CompactFunc_Fact_tok_c_isameFact).getD [],gives:=GivesS prog }
theorem types_slices_CompactFunc_Fact_tok_c_isameFact:∀ t s,E_slices_CompactFunc_Fact_tok_c_isameFact.sh t=some s→ShOk prog s none t:=tab_ok (by kernel_rfl)
theorem fg_slices_CompactFunc_Fact_tok_c_isameFact {L : Nat → Option Loop} {pl : Nat → Option Pl} {f : FuncId} {fn : Func} {g : Sig} {us : List OV} {m : List (Sh × O)} {val : resD (outD m) g.res} {Q : Prop} (hf : prog.funcs[f]? = some fn) (h : Q) (hn : (fn.name == "runtime.NumGoroutine") = false := by kernel_rfl) (ho : g.outs = m.map (·.2) := by rfl) (hu : outFit us m = true := by rfl) (e : fnV E_slices_CompactFunc_Fact_tok_c_isameFact L pl fn g us (ansK g.res m fun r => r = val) = Q := by kernel_rfl) : GivesS prog f us (encR g.res val).1 (encO us m (encR g.res val).2) := fn_gives types_slices_CompactFunc_Fact_tok_c_isameFact (fun _ _ _ _ h => h) mixed hf hn rfl ho hu (Eq.mpr e h)
def G_lFnEqualityChase (x0:List Int) (y0:Bool):Prop:=gZ 3 [⟨.sl 5 (.int .u8),.z,x0⟩] [⟨.bool,.z,y0⟩]
def G_iIsValidUnionFind (x0:TUf) (y0:Bool):Prop:=gZ 22 [⟨h10,.z,x0⟩] [⟨.bool,.z,y0⟩]
def G_iIsValidValue (x0:Int) (y0:Bool):Prop:=gZ 58 [⟨.int .i64,.z,x0⟩] [⟨.bool,.z,y0⟩]
def G_iwithin (x0:Int) (x1:Int) (x2:Int) (y0:Bool):Prop:=gZ 73 [⟨.int .i64,.z,x0⟩,⟨.int .i64,.z,x1⟩,⟨.int .i64,.z,x2⟩] [⟨.bool,.z,y0⟩]
def G_iNullNumber (x0:Int) (y0:Int) (y1:Bool):Prop:=gZ 57 [⟨.int .i64,.z,x0⟩] [⟨.int .i64,.z,y0⟩,⟨.bool,.z,y1⟩]
def G_iSatisfies (x0:TInst) (x1:List TDep) (y0:Bool):Prop:=gZ 21 [⟨h14,.z,x0⟩,⟨h21,.z,x1⟩] [⟨.bool,.z,y0⟩]
def G_iAreValidDependencies (x0:List TRel) (x1:List TDep) (y0:Bool):Prop:=gZ 25 [⟨h9,.z,x0⟩,⟨h21,.z,x1⟩] [⟨.bool,.z,y0⟩]
def G_slices_ContainsFunc_Dependency_c_iAreValidDependencies_1 (x0:List TDep) (x1:List TRel×Unit) (y0:Bool):Prop:=gZ 68 [⟨h21,.z,x0⟩,⟨.fn 69 h28,.z,x1⟩] [⟨.bool,.z,y0⟩]
def G_slices_IndexFunc_Dependency_c_iAreValidDependencies_1 (x0:List TDep) (x1:List TRel×Unit) (y0:Int):Prop:=gZ 113 [⟨h21,.z,x0⟩,⟨.fn 69 h28,.z,x1⟩] [⟨.int .i64,.z,y0⟩]
def G_iAreValidDependencies_1 (x0:TDep) (x1:List TRel) (y0:Bool):Prop:=gZ 69 [⟨h20,.z,x0⟩,⟨.ptr h9,.z,x1⟩] [⟨.bool,.z,y0⟩]
def G_iIsValidDependency (x0:List TRel) (x1:TDep) (y0:Bool):Prop:=gZ 70 [⟨h9,.z,x0⟩,⟨h20,.z,x1⟩] [⟨.bool,.z,y0⟩]
def G_slices_ContainsFunc_Atom_c_iIsValidDependency_1 (x0:List TFact) (x1:List TRel×Unit) (y0:Bool):Prop:=gZ 117 [⟨h15,.z,x0⟩,⟨.fn 118 h28,.z,x1⟩] [⟨.bool,.z,y0⟩]
def G_slices_IndexFunc_Atom_c_iIsValidDependency_1 (x0:List TFact) (x1:List TRel×Unit) (y0:Int):Prop:=gZ 139 [⟨h15,.z,x0⟩,⟨.fn 118 h28,.z,x1⟩] [⟨.int .i64,.z,y0⟩]
def G_iIsValidDependency_1 (x0:TFact) (x1:List TRel) (y0:Bool):Prop:=gZ 118 [⟨h11,.z,x0⟩,⟨.ptr h9,.z,x1⟩] [⟨.bool,.z,y0⟩]
def G_iareAtoms (x0:List TRel) (x1:List TFact) (x2:Int) (y0:Bool):Prop:=gZ 114 [⟨h9,.z,x0⟩,⟨h15,.z,x1⟩,⟨.int .i64,.z,x2⟩] [⟨.bool,.z,y0⟩]
def G_slices_ContainsFunc_Atom_c_iareAtoms_1 (x0:List TFact) (x1:List TRel×Unit) (y0:Bool):Prop:=gZ 117 [⟨h15,.z,x0⟩,⟨.fn 136 h28,.z,x1⟩] [⟨.bool,.z,y0⟩]
def G_slices_IndexFunc_Atom_c_iareAtoms_1 (x0:List TFact) (x1:List TRel×Unit) (y0:Int):Prop:=gZ 139 [⟨h15,.z,x0⟩,⟨.fn 136 h28,.z,x1⟩] [⟨.int .i64,.z,y0⟩]
def G_iareAtoms_1 (x0:TFact) (x1:List TRel) (y0:Bool):Prop:=gZ 136 [⟨h11,.z,x0⟩,⟨.ptr h9,.z,x1⟩] [⟨.bool,.z,y0⟩]
def G_iIsValidAtom (x0:List TRel) (x1:TFact) (y0:Bool):Prop:=gZ 137 [⟨h9,.z,x0⟩,⟨h11,.z,x1⟩] [⟨.bool,.z,y0⟩]
def G_slices_ContainsFunc_int_c_iIsValidAtom_1 (x0:List Int) (x1:Unit) (y0:Bool):Prop:=gZ 107 [⟨.sl 3 (.int .i64),.z,x0⟩,⟨.fn 154 .unit,.z,x1⟩] [⟨.bool,.z,y0⟩]
def G_slices_IndexFunc_int_c_iIsValidAtom_1 (x0:List Int) (x1:Unit) (y0:Int):Prop:=gZ 132 [⟨.sl 3 (.int .i64),.z,x0⟩,⟨.fn 154 .unit,.z,x1⟩] [⟨.int .i64,.z,y0⟩]
def G_iIsValidAtom_1 (x0:Int) (y0:Bool):Prop:=gZ 154 [⟨.int .i64,.z,x0⟩] [⟨.bool,.z,y0⟩]
def G_iAreValidRelations (x0:List TRel) (y0:Bool):Prop:=gZ 64 [⟨h9,.z,x0⟩] [⟨.bool,.z,y0⟩]
def G_iIsValidRelation (x0:TRel) (y0:Bool):Prop:=gZ 106 [⟨h8,.z,x0⟩] [⟨.bool,.z,y0⟩]
def G_slices_Contains_int (x0:List Int) (x1:Int) (y0:Bool):Prop:=gZ 116 [⟨.sl 3 (.int .i64),.z,x0⟩,⟨.int .i64,.z,x1⟩] [⟨.bool,.z,y0⟩]
def G_slices_Index_int (x0:List Int) (x1:Int) (y0:Int):Prop:=gZ 138 [⟨.sl 3 (.int .i64),.z,x0⟩,⟨.int .i64,.z,x1⟩] [⟨.int .i64,.z,y0⟩]
def G_iVariables (x0:List TFact) (y0:List Int):Prop:=gZ 115 [⟨h15,.z,x0⟩] [⟨.sl 3 (.int .i64),.own .z,y0⟩]
def G_slices_Compact_int_ooz (x0:List Int) (y0:List Int):Prop:=GivesS prog 135 [⟨.sl 3 (.int .i64),.own .z,x0⟩] [⟨.sl 3 (.int .i64),.own .z,y0⟩] [⟨.sl 3 (.int .i64),.dead,x0⟩]
def G_slices_Sort_int_ooz (x0:List Int) (z0:List Int):Prop:=GivesS prog 134 [⟨.sl 3 (.int .i64),.own .z,x0⟩] [] [⟨.sl 3 (.int .i64),.own .z,z0⟩]
def G_iIsValidInstance (x0:TInst) (y0:Bool):Prop:=gZ 24 [⟨h14,.z,x0⟩] [⟨.bool,.z,y0⟩]
def G_iNullsOfFact (x0:TFact) (y0:List Int):Prop:=gZ 67 [⟨h11,.z,x0⟩] [⟨.sl 3 (.int .i64),.own .z,y0⟩]
def G_inullsOf (x0:List Int) (y0:List Int):Prop:=gZ 112 [⟨.sl 3 (.int .i64),.z,x0⟩] [⟨.sl 3 (.int .i64),.own .z,y0⟩]
def G_iCompareFacts (x0:TFact) (x1:TFact) (y0:Int):Prop:=gZ 66 [⟨h11,.z,x0⟩,⟨h11,.z,x1⟩] [⟨.int .i64,.z,y0⟩]
def G_cmp_Or_int (x0:List Int) (y0:Int):Prop:=gZ 109 [⟨.sl 3 (.int .i64),.z,x0⟩] [⟨.int .i64,.z,y0⟩]
def G_slices_Compare_int (x0:List Int) (x1:List Int) (y0:Int):Prop:=gZ 111 [⟨.sl 3 (.int .i64),.z,x0⟩,⟨.sl 3 (.int .i64),.z,x1⟩] [⟨.int .i64,.z,y0⟩]
def G_cmp_Compare_int (x0:Int) (x1:Int) (y0:Int):Prop:=gZ 110 [⟨.int .i64,.z,x0⟩,⟨.int .i64,.z,x1⟩] [⟨.int .i64,.z,y0⟩]
def G_cmp_isNaN_int (x0:Int) (y0:Bool):Prop:=gZ 133 [⟨.int .i64,.z,x0⟩] [⟨.bool,.z,y0⟩]
def G_iIsValidFact (x0:List TRel) (x1:TFact) (y0:Bool):Prop:=gZ 65 [⟨h9,.z,x0⟩,⟨h11,.z,x1⟩] [⟨.bool,.z,y0⟩]
def G_slices_ContainsFunc_int_c_iIsValidFact_1 (x0:List Int) (x1:Unit) (y0:Bool):Prop:=gZ 107 [⟨.sl 3 (.int .i64),.z,x0⟩,⟨.fn 108 .unit,.z,x1⟩] [⟨.bool,.z,y0⟩]
def G_slices_IndexFunc_int_c_iIsValidFact_1 (x0:List Int) (x1:Unit) (y0:Int):Prop:=gZ 132 [⟨.sl 3 (.int .i64),.z,x0⟩,⟨.fn 108 .unit,.z,x1⟩] [⟨.int .i64,.z,y0⟩]
def G_iIsValidFact_1 (x0:Int) (y0:Bool):Prop:=gZ 108 [⟨.int .i64,.z,x0⟩] [⟨.bool,.z,y0⟩]
def G_iFirstViolation (x0:TInst) (x1:List TDep) (y0:Int) (y1:List Int) (y2:Bool):Prop:=gZ 29 [⟨h14,.z,x0⟩,⟨h21,.z,x1⟩] [⟨.int .i64,.z,y0⟩,⟨.sl 3 (.int .i64),.own .z,y1⟩,⟨.bool,.z,y2⟩]
def G_iActiveTriggers (x0:TInst) (x1:TDep) (y0:List (List Int)):Prop:=gZ 75 [⟨h14,.z,x0⟩,⟨h20,.z,x1⟩] [⟨.sl 31 (.sl 3 (.int .i64)),.own (.own .z),y0⟩]
def G_iIsActiveTrigger (x0:TInst) (x1:TDep) (x2:List Int) (y0:Bool):Prop:=gZ 121 [⟨h14,.z,x0⟩,⟨h20,.z,x1⟩,⟨.sl 3 (.int .i64),.z,x2⟩] [⟨.bool,.z,y0⟩]
def G_iHasExtension (x0:TInst) (x1:List TFact) (x2:List Int) (y0:Bool):Prop:=gZ 145 [⟨h14,.z,x0⟩,⟨h15,.z,x1⟩,⟨.sl 3 (.int .i64),.z,x2⟩] [⟨.bool,.z,y0⟩]
def G_imatches (x0:List TFact) (x1:List TFact) (x2:List Int) (y0:List (List Int)):Prop:=GivesS prog 141 [⟨h12,.z,x0⟩,⟨h15,.z,x1⟩,⟨.sl 3 (.int .i64),.own .z,x2⟩] [⟨.sl 31 (.sl 3 (.int .i64)),.own (.own .z),y0⟩] [⟨h12,.z,x0⟩,⟨h15,.z,x1⟩,⟨.sl 3 (.int .i64),.dead,x2⟩]
def G_ibind (x0:List Int) (x1:TFact) (x2:TFact) (y0:List Int) (y1:Bool):Prop:=gZ 155 [⟨.sl 3 (.int .i64),.z,x0⟩,⟨h11,.z,x1⟩,⟨h11,.z,x2⟩] [⟨.sl 3 (.int .i64),.own .z,y0⟩,⟨.bool,.z,y1⟩]
def G_slices_Clone_int (x0:List Int) (y0:List Int):Prop:=gZ 76 [⟨.sl 3 (.int .i64),.z,x0⟩] [⟨.sl 3 (.int .i64),.own .z,y0⟩]
def G_iareMatchable (x0:TInst) (x1:List TFact) (y0:Bool):Prop:=gZ 140 [⟨h14,.z,x0⟩,⟨h15,.z,x1⟩] [⟨.bool,.z,y0⟩]
def G_iIsTrigger (x0:TInst) (x1:TDep) (x2:List Int) (y0:Bool):Prop:=gZ 144 [⟨h14,.z,x0⟩,⟨h20,.z,x1⟩,⟨.sl 3 (.int .i64),.z,x2⟩] [⟨.bool,.z,y0⟩]
def G_ihasFact (x0:List TFact) (x1:TFact) (y0:Bool):Prop:=gZ 161 [⟨h12,.z,x0⟩,⟨h11,.z,x1⟩] [⟨.bool,.z,y0⟩]
def G_slices_ContainsFunc_Fact_c_ihasFact_1 (x0:List TFact) (x1:TFact×Unit) (y0:Bool):Prop:=gZ 185 [⟨h12,.z,x0⟩,⟨.fn 186 h29,.z,x1⟩] [⟨.bool,.z,y0⟩]
def G_slices_IndexFunc_Fact_c_ihasFact_1 (x0:List TFact) (x1:TFact×Unit) (y0:Int):Prop:=gZ 197 [⟨h12,.z,x0⟩,⟨.fn 186 h29,.z,x1⟩] [⟨.int .i64,.z,y0⟩]
def G_ihasFact_1 (x0:TFact) (x1:TFact) (y0:Bool):Prop:=gZ 186 [⟨h11,.z,x0⟩,⟨.ptr h11,.z,x1⟩] [⟨.bool,.z,y0⟩]
def G_isameFact (x0:TFact) (x1:TFact) (y0:Bool):Prop:=gZ 125 [⟨h11,.z,x0⟩,⟨h11,.z,x1⟩] [⟨.bool,.z,y0⟩]
def G_iInstantiate (x0:TFact) (x1:List Int) (y0:TFact) (y1:Bool):Prop:=gZ 160 [⟨h11,.z,x0⟩,⟨.sl 3 (.int .i64),.z,x1⟩] [⟨h11,.pr .z (.pr (.own .z) .z),y0⟩,⟨.bool,.z,y1⟩]
def G_iFindMatches (x0:TInst) (x1:List TFact) (y0:List (List Int)):Prop:=gZ 120 [⟨h14,.z,x0⟩,⟨h15,.z,x1⟩] [⟨.sl 31 (.sl 3 (.int .i64)),.own (.own .z),y0⟩]
def G_ihasBinding (x0:List (List Int)) (x1:List Int) (y0:Bool):Prop:=gZ 143 [⟨.sl 31 (.sl 3 (.int .i64)),.z,x0⟩,⟨.sl 3 (.int .i64),.z,x1⟩] [⟨.bool,.z,y0⟩]
def G_slices_ContainsFunc_Sint_c_ihasBinding_1 (x0:List (List Int)) (x1:TUf) (y0:Bool):Prop:=gZ 157 [⟨.sl 31 (.sl 3 (.int .i64)),.z,x0⟩,⟨.fn 158 h30,.z,x1⟩] [⟨.bool,.z,y0⟩]
def G_slices_IndexFunc_Sint_c_ihasBinding_1 (x0:List (List Int)) (x1:TUf) (y0:Int):Prop:=gZ 184 [⟨.sl 31 (.sl 3 (.int .i64)),.z,x0⟩,⟨.fn 158 h30,.z,x1⟩] [⟨.int .i64,.z,y0⟩]
def G_ihasBinding_1 (x0:List Int) (x1:List Int) (y0:Bool):Prop:=gZ 158 [⟨.sl 3 (.int .i64),.z,x0⟩,⟨.ptr (.sl 3 (.int .i64)),.z,x1⟩] [⟨.bool,.z,y0⟩]
def G_slices_Equal_int (x0:List Int) (x1:List Int) (y0:Bool):Prop:=gZ 159 [⟨.sl 3 (.int .i64),.z,x0⟩,⟨.sl 3 (.int .i64),.z,x1⟩] [⟨.bool,.z,y0⟩]
def G_iunboundBinding  (y0:List Int):Prop:=gZ 142 [] [⟨.sl 3 (.int .i64),.own .z,y0⟩]
def G_slices_Repeat_int (x0:List Int) (x1:Int) (y0:List Int):Prop:=gZ 156 [⟨.sl 3 (.int .i64),.z,x0⟩,⟨.int .i64,.z,x1⟩] [⟨.sl 3 (.int .i64),.own .z,y0⟩]
def G_math_bits_Mul (x0:Int) (x1:Int) (y0:Int) (y1:Int):Prop:=gZ 183 [⟨.int .u64,.z,x0⟩,⟨.int .u64,.z,x1⟩] [⟨.int .u64,.z,y0⟩,⟨.int .u64,.z,y1⟩]
def G_math_bits_Mul64 (x0:Int) (x1:Int) (y0:Int) (y1:Int):Prop:=gZ 196 [⟨.int .u64,.z,x0⟩,⟨.int .u64,.z,x1⟩] [⟨.int .u64,.z,y0⟩,⟨.int .u64,.z,y1⟩]
def G_sEqualInstances (x0:TInst) (x1:TInst) (y0:Bool):Prop:=gZ 9 [⟨h14,.z,x0⟩,⟨h14,.z,x1⟩] [⟨.bool,.z,y0⟩]
def G_sCompareFacts (x0:TFact) (x1:TFact) (y0:Int):Prop:=gZ 42 [⟨h11,.z,x0⟩,⟨h11,.z,x1⟩] [⟨.int .i64,.z,y0⟩]
def G_sl4Ints (x0:List Int) (x1:List Int) (y0:Int):Prop:=gZ 43 [⟨.sl 3 (.int .i64),.z,x0⟩,⟨.sl 3 (.int .i64),.z,x1⟩] [⟨.int .i64,.z,y0⟩]
def G_sl5Sigs (x0:List TRel) (x1:List TRel) (y0:Bool):Prop:=gZ 41 [⟨h9,.z,x0⟩,⟨h9,.z,x1⟩] [⟨.bool,.z,y0⟩]
def G_sMustBeEqual (x0:TInst) (x1:List TDep) (x2:Int) (x3:Int) (y0:Bool):Prop:=gZ 20 [⟨h14,.z,x0⟩,⟨h21,.z,x1⟩,⟨.int .i64,.z,x2⟩,⟨.int .i64,.z,x3⟩] [⟨.bool,.z,y0⟩]
def G_sFind (x0:TUf) (x1:Int) (y0:Int):Prop:=gZ 55 [⟨h10,.z,x0⟩,⟨.int .i64,.z,x1⟩] [⟨.int .i64,.z,y0⟩]
def G_sIsValidUnionFind (x0:TUf) (y0:Bool):Prop:=gZ 86 [⟨h10,.z,x0⟩] [⟨.bool,.z,y0⟩]
def G_sNullValue (x0:Int) (y0:Int):Prop:=gZ 56 [⟨.int .i64,.z,x0⟩] [⟨.int .i64,.z,y0⟩]
def G_sl1In (x0:Int) (x1:Int) (x2:Int) (y0:Bool):Prop:=gZ 82 [⟨.int .i64,.z,x0⟩,⟨.int .i64,.z,x1⟩,⟨.int .i64,.z,x2⟩] [⟨.bool,.z,y0⟩]
def G_sNullNumber (x0:Int) (y0:Int) (y1:Bool):Prop:=gZ 85 [⟨.int .i64,.z,x0⟩] [⟨.int .i64,.z,y0⟩,⟨.bool,.z,y1⟩]
def G_sChaseEqualities (x0:TInst) (x1:List TDep) (y0:TInst) (y1:TUf) (y2:Int):Prop:=gZ 7 [⟨h14,.z,x0⟩,⟨h21,.z,x1⟩] [⟨h14,.z,y0⟩,⟨h10,.pr (.own .z) .z,y1⟩,⟨.int .i64,.z,y2⟩]
def G_sApplyToInstance (x0:TSub) (x1:TInst) (y0:TInst) (y1:Bool):Prop:=gZ 38 [⟨h27,.z,x0⟩,⟨h14,.z,x1⟩] [⟨h14,oI,y0⟩,⟨.bool,.z,y1⟩]
def G_sl5Copy (x0:TInst) (y0:TInst):Prop:=gZ 33 [⟨h14,.z,x0⟩] [⟨h14,oI,y0⟩]
def G_sl5Fact (x0:TFact) (y0:TFact):Prop:=gZ 81 [⟨h11,.z,x0⟩] [⟨h11,.pr .z (.pr (.own .z) .z),y0⟩]
def G_sl5Put (x0:TInst) (x1:TFact) (y0:TInst):Prop:=gZ 89 [⟨h14,.z,x0⟩,⟨h11,.z,x1⟩] [⟨h14,.z,y0⟩]
def G_sl5Place (x0:TInst) (x1:TFact) (y0:Int):Prop:=gZ 128 [⟨h14,.z,x0⟩,⟨h11,.z,x1⟩] [⟨.int .i64,.z,y0⟩]
def G_sApplyToFact (x0:TSub) (x1:TFact) (y0:TFact):Prop:=gZ 90 [⟨h27,.z,x0⟩,⟨h11,.z,x1⟩] [⟨h11,.pr .z (.pr (.own .z) .z),y0⟩]
def G_sApplyToValue (x0:TSub) (x1:Int) (y0:Int):Prop:=gZ 129 [⟨h27,.z,x0⟩,⟨.int .i64,.z,x1⟩] [⟨.int .i64,.z,y0⟩]
def G_sIsValidSubstitution (x0:TSub) (y0:Bool):Prop:=gZ 88 [⟨h27,.z,x0⟩] [⟨.bool,.z,y0⟩]
def G_sIsValidValue (x0:Int) (y0:Bool):Prop:=gZ 87 [⟨.int .i64,.z,x0⟩] [⟨.bool,.z,y0⟩]
def G_sIsValidInstance (x0:TInst) (y0:Bool):Prop:=gZ 12 [⟨h14,.z,x0⟩] [⟨.bool,.z,y0⟩]
def G_sAreValidRelations (x0:List TRel) (y0:Bool):Prop:=gZ 47 [⟨h9,.z,x0⟩] [⟨.bool,.z,y0⟩]
def G_sIsValidRelation (x0:TRel) (y0:Bool):Prop:=gZ 93 [⟨h8,.z,x0⟩] [⟨.bool,.z,y0⟩]
def G_sNullsOfFact (x0:TFact) (y0:List Int):Prop:=gZ 46 [⟨h11,.z,x0⟩] [⟨.sl 3 (.int .i64),.z,y0⟩]
def G_sl4Put (x0:List Int) (x1:Int) (y0:List Int):Prop:=gZ 92 [⟨.sl 3 (.int .i64),.z,x0⟩,⟨.int .i64,.z,x1⟩] [⟨.sl 3 (.int .i64),.z,y0⟩]
def G_sIsValidFact (x0:List TRel) (x1:TFact) (y0:Bool):Prop:=gZ 45 [⟨h9,.z,x0⟩,⟨h11,.z,x1⟩] [⟨.bool,.z,y0⟩]
def G_sUnionSubstitution (x0:TUf) (y0:TSub):Prop:=gZ 39 [⟨h10,.z,x0⟩] [⟨h27,.pr (.own .z) (.pr (.own .z) .z),y0⟩]
def G_sUnion (x0:TUf) (x1:Int) (x2:Int) (y0:TUf) (y1:Int):Prop:=gZ 37 [⟨h10,.z,x0⟩,⟨.int .i64,.z,x1⟩,⟨.int .i64,.z,x2⟩] [⟨h10,.pr (.own .z) .z,y0⟩,⟨.int .i64,.z,y1⟩]
def G_sFirstViolation (x0:TInst) (x1:List TDep) (y0:Int) (y1:List Int) (y2:Bool):Prop:=gZ 36 [⟨h14,.z,x0⟩,⟨h21,.z,x1⟩] [⟨.int .i64,.z,y0⟩,⟨.sl 3 (.int .i64),.z,y1⟩,⟨.bool,.z,y2⟩]
def G_sActiveTriggers (x0:TInst) (x1:TDep) (y0:List (List Int)):Prop:=gZ 84 [⟨h14,.z,x0⟩,⟨h20,.z,x1⟩] [⟨.sl 31 (.sl 3 (.int .i64)),.own .z,y0⟩]
def G_sIsActiveTrigger (x0:TInst) (x1:TDep) (x2:List Int) (y0:Bool):Prop:=gZ 127 [⟨h14,.z,x0⟩,⟨h20,.z,x1⟩,⟨.sl 3 (.int .i64),.z,x2⟩] [⟨.bool,.z,y0⟩]
def G_sHasExtension (x0:TInst) (x1:List TFact) (x2:List Int) (y0:Bool):Prop:=gZ 152 [⟨h14,.z,x0⟩,⟨h15,.z,x1⟩,⟨.sl 3 (.int .i64),.z,x2⟩] [⟨.bool,.z,y0⟩]
def G_sl11Walk (x0:TInst) (x1:List TFact) (x2:Int) (x3:List Int) (y0:List (List Int)):Prop:=gZ 149 [⟨h14,.z,x0⟩,⟨h15,.z,x1⟩,⟨.int .i64,.z,x2⟩,⟨.sl 3 (.int .i64),.z,x3⟩] [⟨.sl 31 (.sl 3 (.int .i64)),.own (.own .z),y0⟩]
def G_sl11Fit (x0:TFact) (x1:TFact) (x2:List Int) (y0:List Int) (y1:Bool):Prop:=gZ 172 [⟨h11,.z,x0⟩,⟨h11,.z,x1⟩,⟨.sl 3 (.int .i64),.z,x2⟩] [⟨.sl 3 (.int .i64),.own .z,y0⟩,⟨.bool,.z,y1⟩]
def G_sl11None  (y0:Int):Prop:=gZ 173 [] [⟨.int .i64,.z,y0⟩]
def G_sl11Ok (x0:TInst) (x1:List TFact) (y0:Bool):Prop:=gZ 148 [⟨h14,.z,x0⟩,⟨h15,.z,x1⟩] [⟨.bool,.z,y0⟩]
def G_sIsValidAtom (x0:List TRel) (x1:TFact) (y0:Bool):Prop:=gZ 94 [⟨h9,.z,x0⟩,⟨h11,.z,x1⟩] [⟨.bool,.z,y0⟩]
def G_sIsTrigger (x0:TInst) (x1:TDep) (x2:List Int) (y0:Bool):Prop:=gZ 151 [⟨h14,.z,x0⟩,⟨h20,.z,x1⟩,⟨.sl 3 (.int .i64),.z,x2⟩] [⟨.bool,.z,y0⟩]
def G_sInstantiate (x0:TFact) (x1:List Int) (y0:TFact) (y1:Bool):Prop:=gZ 131 [⟨h11,.z,x0⟩,⟨.sl 3 (.int .i64),.z,x1⟩] [⟨h11,.pr .z (.pr (.own .z) .z),y0⟩,⟨.bool,.z,y1⟩]
def G_sl4Has (x0:List Int) (x1:Int) (y0:Bool):Prop:=gZ 96 [⟨.sl 3 (.int .i64),.z,x0⟩,⟨.int .i64,.z,x1⟩] [⟨.bool,.z,y0⟩]
def G_sVariables (x0:List TFact) (y0:List Int):Prop:=gZ 95 [⟨h15,.z,x0⟩] [⟨.sl 3 (.int .i64),.z,y0⟩]
def G_sIsValidDependency (x0:List TRel) (x1:TDep) (y0:Bool):Prop:=gZ 48 [⟨h9,.z,x0⟩,⟨h20,.z,x1⟩] [⟨.bool,.z,y0⟩]
def G_sFindMatches (x0:TInst) (x1:List TFact) (y0:List (List Int)):Prop:=gZ 126 [⟨h14,.z,x0⟩,⟨h15,.z,x1⟩] [⟨.sl 31 (.sl 3 (.int .i64)),.own .z,y0⟩]
def G_sl11Blank  (y0:List Int):Prop:=gZ 150 [] [⟨.sl 3 (.int .i64),.own .z,y0⟩]
def G_sAreValidDependencies (x0:List TRel) (x1:List TDep) (y0:Bool):Prop:=gZ 13 [⟨h9,.z,x0⟩,⟨h21,.z,x1⟩] [⟨.bool,.z,y0⟩]
def G_sEqualityDependencies (x0:List TDep) (y0:List TDep):Prop:=gZ 11 [⟨h21,.z,x0⟩] [⟨h21,oE,y0⟩]
def G_sl9Copy (x0:TDep) (y0:TDep):Prop:=gZ 44 [⟨h20,.z,x0⟩] [⟨h20,oD,y0⟩]
def G_sNewUnionFind (x0:Int) (y0:TUf):Prop:=gZ 34 [⟨.int .i64,.z,x0⟩] [⟨h10,.pr (.own .z) .z,y0⟩]
def G_sNextNull (x0:TInst) (y0:Int):Prop:=gZ 35 [⟨h14,.z,x0⟩] [⟨.int .i64,.z,y0⟩]
def G_sNullsOfInstance (x0:TInst) (y0:List Int):Prop:=gZ 83 [⟨h14,.z,x0⟩] [⟨.sl 3 (.int .i64),.z,y0⟩]
def G_iMustBeEqual (x0:TInst) (x1:List TDep) (x2:Int) (x3:Int) (y0:Bool):Prop:=gZ 19 [⟨h14,.z,x0⟩,⟨h21,.z,x1⟩,⟨.int .i64,.z,x2⟩,⟨.int .i64,.z,x3⟩] [⟨.bool,.z,y0⟩]
def G_iFind (x0:TUf) (x1:Int) (y0:Int):Prop:=gZ 52 [⟨h10,.z,x0⟩,⟨.int .i64,.z,x1⟩] [⟨.int .i64,.z,y0⟩]
def G_iChaseEqualities (x0:TInst) (x1:List TDep) (y0:TInst) (y1:TUf) (y2:Int):Prop:=gZ 6 [⟨h14,.z,x0⟩,⟨h21,.z,x1⟩] [⟨h14,oI,y0⟩,⟨h10,.pr (.own .z) .z,y1⟩,⟨.int .i64,.z,y2⟩]
def G_iApplyToInstance (x0:TSub) (x1:TInst) (y0:TInst) (y1:Bool):Prop:=gZ 31 [⟨h27,.z,x0⟩,⟨h14,.z,x1⟩] [⟨h14,oI,y0⟩,⟨.bool,.z,y1⟩]
def G_ifactsSet (x0:List TFact) (y0:List TFact):Prop:=gZ 80 [⟨h12,.z,x0⟩] [⟨h12,oF,y0⟩]
def G_slices_CompactFunc_Fact_oopzpozz_c_isameFact (x0:List TFact) (x1:Unit) (y0:List TFact):Prop:=GivesS prog 124 [⟨h12,oF,x0⟩,⟨.fn 125 .unit,.z,x1⟩] [⟨h12,oF,y0⟩] [⟨h12,.dead,x0⟩,⟨.fn 125 .unit,.z,x1⟩]
def G_slices_CompactFunc_Fact_tok_c_isameFact (x0:List (TTok TFact)) (x1:Unit) (y0:List (TTok TFact)):Prop:=GivesS prog 124 [⟨h32,.own .z,x0⟩,⟨.fn 125 .unit,.z,x1⟩] [⟨h32,.own .z,y0⟩] [⟨h32,.dead,x0⟩,⟨.fn 125 .unit,.z,x1⟩]
def G_isameFact_tok (x0:TTok TFact) (x1:TTok TFact) (y0:Bool):Prop:=gZ 125 [⟨h31,.z,x0⟩,⟨h31,.z,x1⟩] [⟨.bool,.z,y0⟩]
def G_slices_SortFunc_Fact_oopzpozz_c_iCompareFacts (x0:List TFact) (x1:Unit) (z0:List TFact):Prop:=GivesS prog 123 [⟨h12,oF,x0⟩,⟨.fn 66 .unit,.z,x1⟩] [] [⟨h12,oF,z0⟩,⟨.fn 66 .unit,.z,x1⟩]
def G_ifactsCopy (x0:List TFact) (y0:List TFact):Prop:=gZ 72 [⟨h12,.z,x0⟩] [⟨h12,oF,y0⟩]
def G_ifactCopy (x0:TFact) (y0:TFact):Prop:=gZ 119 [⟨h11,.z,x0⟩] [⟨h11,.pr .z (.pr (.own .z) .z),y0⟩]
def G_iApplyToFact (x0:TSub) (x1:TFact) (y0:TFact):Prop:=gZ 79 [⟨h27,.z,x0⟩,⟨h11,.z,x1⟩] [⟨h11,.pr .z (.pr (.own .z) .z),y0⟩]
def G_iApplyToValue (x0:TSub) (x1:Int) (y0:Int):Prop:=gZ 122 [⟨h27,.z,x0⟩,⟨.int .i64,.z,x1⟩] [⟨.int .i64,.z,y0⟩]
def G_iIsValidSubstitution (x0:TSub) (y0:Bool):Prop:=gZ 78 [⟨h27,.z,x0⟩] [⟨.bool,.z,y0⟩]
def G_iinstanceCopy (x0:TInst) (y0:TInst):Prop:=gZ 26 [⟨h14,.z,x0⟩] [⟨h14,oI,y0⟩]
def G_slices_Clone_Relation (x0:List TRel) (y0:List TRel):Prop:=gZ 71 [⟨h9,.z,x0⟩] [⟨h9,.own .z,y0⟩]
def G_iUnionSubstitution (x0:TUf) (y0:TSub):Prop:=gZ 32 [⟨h10,.z,x0⟩] [⟨h27,.pr (.own .z) (.pr (.own .z) .z),y0⟩]
def G_iNullValue (x0:Int) (y0:Int):Prop:=gZ 53 [⟨.int .i64,.z,x0⟩] [⟨.int .i64,.z,y0⟩]
def G_iUnion (x0:TUf) (x1:Int) (x2:Int) (y0:TUf) (y1:Int):Prop:=gZ 30 [⟨h10,.z,x0⟩,⟨.int .i64,.z,x1⟩,⟨.int .i64,.z,x2⟩] [⟨h10,.pr (.own .z) .z,y0⟩,⟨.int .i64,.z,y1⟩]
def G_iIsNull (x0:Int) (y0:Bool):Prop:=gZ 54 [⟨.int .i64,.z,x0⟩] [⟨.bool,.z,y0⟩]
def G_iisMember (x0:TUf) (x1:Int) (y0:Bool):Prop:=gZ 77 [⟨h10,.z,x0⟩,⟨.int .i64,.z,x1⟩] [⟨.bool,.z,y0⟩]
def G_iNewUnionFind (x0:Int) (y0:TUf):Prop:=gZ 27 [⟨.int .i64,.z,x0⟩] [⟨h10,.pr (.own .z) .z,y0⟩]
def G_iNextNull (x0:TInst) (y0:Int):Prop:=gZ 28 [⟨h14,.z,x0⟩] [⟨.int .i64,.z,y0⟩]
def G_iNullsOfInstance (x0:TInst) (y0:List Int):Prop:=gZ 74 [⟨h14,.z,x0⟩] [⟨.sl 3 (.int .i64),.own .z,y0⟩]
def G_iEqualityDependencies (x0:List TDep) (y0:List TDep):Prop:=gZ 8 [⟨h21,.z,x0⟩] [⟨h21,oE,y0⟩]
def G_idependencyCopy (x0:TDep) (y0:TDep):Prop:=gZ 40 [⟨h20,.z,x0⟩] [⟨h20,oD,y0⟩]
def G_idependencyCopy_1 (x0:List TFact) (y0:List TFact):Prop:=gZ 91 [⟨h15,.z,x0⟩] [⟨h15,oF,y0⟩]
def G_sForcedConstant (x0:TInst) (x1:List TDep) (x2:Int) (y0:Int) (y1:Bool):Prop:=gZ 18 [⟨h14,.z,x0⟩,⟨h21,.z,x1⟩,⟨.int .i64,.z,x2⟩] [⟨.int .i64,.z,y0⟩,⟨.bool,.z,y1⟩]
def G_iForcedConstant (x0:TInst) (x1:List TDep) (x2:Int) (y0:Int) (y1:Bool):Prop:=gZ 17 [⟨h14,.z,x0⟩,⟨h21,.z,x1⟩,⟨.int .i64,.z,x2⟩] [⟨.int .i64,.z,y0⟩,⟨.bool,.z,y1⟩]
def G_sDrawForcedConstant (x0:List Int) (y0:TInst) (y1:List TDep) (y2:Int):Prop:=gZ 16 [⟨.sl 5 (.int .u8),.z,x0⟩] [⟨h14,oI,y0⟩,⟨h21,oE,y1⟩,⟨.int .i64,.z,y2⟩]
def G_sl1Below_poz (x0:List Int×Int×Int×Unit) (x1:Int) (y0:Int) (z0:List Int×Int×Int×Unit):Prop:=GivesS prog 51 [⟨.ptr h26,.own .z,x0⟩,⟨.int .i64,.z,x1⟩] [⟨.int .i64,.z,y0⟩] [⟨.ptr h26,.own .z,z0⟩,⟨.int .i64,.z,x1⟩]
def G_sl1Byte_poz (x0:List Int×Int×Int×Unit) (y0:Int) (z0:List Int×Int×Int×Unit):Prop:=GivesS prog 100 [⟨.ptr h26,.own .z,x0⟩] [⟨.int .i64,.z,y0⟩] [⟨.ptr h26,.own .z,z0⟩]
def G_sl30Both (x0:List Int) (y0:List Int×Int×Int×Unit) (y1:TInst) (y2:List TDep):Prop:=gZ 23 [⟨.sl 5 (.int .u8),.z,x0⟩] [⟨.ptr h26,.own .z,y0⟩,⟨h14,oI,y1⟩,⟨h21,oE,y2⟩]
def G_sl9Any_poz (x0:List Int×Int×Int×Unit) (y0:TDep) (z0:List Int×Int×Int×Unit):Prop:=GivesS prog 63 [⟨.ptr h26,.own .z,x0⟩] [⟨h20,oD,y0⟩] [⟨.ptr h26,.own .z,z0⟩]
def G_sl9Atom_poz (x0:List Int×Int×Int×Unit) (x1:Int) (x2:Int) (y0:TFact) (z0:List Int×Int×Int×Unit):Prop:=GivesS prog 104 [⟨.ptr h26,.own .z,x0⟩,⟨.int .i64,.z,x1⟩,⟨.int .i64,.z,x2⟩] [⟨h11,.pr .z (.pr (.own .z) .z),y0⟩] [⟨.ptr h26,.own .z,z0⟩,⟨.int .i64,.z,x1⟩,⟨.int .i64,.z,x2⟩]
def G_sl1Once_poz (x0:List Int×Int×Int×Unit) (x1:Int) (y0:Bool) (z0:List Int×Int×Int×Unit):Prop:=GivesS prog 62 [⟨.ptr h26,.own .z,x0⟩,⟨.int .i64,.z,x1⟩] [⟨.bool,.z,y0⟩] [⟨.ptr h26,.own .z,z0⟩,⟨.int .i64,.z,x1⟩]
def G_sl3Sigs  (y0:List TRel):Prop:=gZ 101 [] [⟨h9,.own .z,y0⟩]
def G_sl1PickInt_poz (x0:List Int×Int×Int×Unit) (x1:List Int) (y0:Int) (z0:List Int×Int×Int×Unit):Prop:=GivesS prog 105 [⟨.ptr h26,.own .z,x0⟩,⟨.sl 3 (.int .i64),.z,x1⟩] [⟨.int .i64,.z,y0⟩] [⟨.ptr h26,.own .z,z0⟩,⟨.sl 3 (.int .i64),.z,x1⟩]
def G_sl9Rule_poz (x0:List Int×Int×Int×Unit) (y0:TDep) (z0:List Int×Int×Int×Unit):Prop:=GivesS prog 61 [⟨.ptr h26,.own .z,x0⟩] [⟨h20,oD,y0⟩] [⟨.ptr h26,.own .z,z0⟩]
def G_sVariables_oopzpozz (x0:List TFact) (y0:List Int) (z0:List TFact):Prop:=GivesS prog 95 [⟨h15,oF,x0⟩] [⟨.sl 3 (.int .i64),.z,y0⟩] [⟨h15,oF,z0⟩]
def G_sl9Known_poz (x0:List Int×Int×Int×Unit) (y0:TDep) (z0:List Int×Int×Int×Unit):Prop:=GivesS prog 103 [⟨.ptr h26,.own .z,x0⟩] [⟨h20,oD,y0⟩] [⟨.ptr h26,.own .z,z0⟩]
def G_sl5Target_poz (x0:List Int×Int×Int×Unit) (x1:Int) (x2:Int) (y0:TInst) (z0:List Int×Int×Int×Unit):Prop:=GivesS prog 60 [⟨.ptr h26,.own .z,x0⟩,⟨.int .i64,.z,x1⟩,⟨.int .i64,.z,x2⟩] [⟨h14,oI,y0⟩] [⟨.ptr h26,.own .z,z0⟩,⟨.int .i64,.z,x1⟩,⟨.int .i64,.z,x2⟩]
def G_sl4Fact_poz (x0:List Int×Int×Int×Unit) (x1:Int) (x2:Int) (y0:TFact) (z0:List Int×Int×Int×Unit):Prop:=GivesS prog 102 [⟨.ptr h26,.own .z,x0⟩,⟨.int .i64,.z,x1⟩,⟨.int .i64,.z,x2⟩] [⟨h11,.pr .z (.pr (.own .z) .z),y0⟩] [⟨.ptr h26,.own .z,z0⟩,⟨.int .i64,.z,x1⟩,⟨.int .i64,.z,x2⟩]
def G_sl4Value_poz (x0:List Int×Int×Int×Unit) (x1:Int) (y0:Int) (z0:List Int×Int×Int×Unit):Prop:=GivesS prog 50 [⟨.ptr h26,.own .z,x0⟩,⟨.int .i64,.z,x1⟩] [⟨.int .i64,.z,y0⟩] [⟨.ptr h26,.own .z,z0⟩,⟨.int .i64,.z,x1⟩]
def G_sl1New (x0:List Int) (y0:List Int×Int×Int×Unit):Prop:=gZ 59 [⟨.sl 5 (.int .u8),.z,x0⟩] [⟨.ptr h26,.own .z,y0⟩]
def G_sDrawMustBeEqual (x0:List Int) (y0:TInst) (y1:List TDep) (y2:Int) (y3:Int):Prop:=gZ 15 [⟨.sl 5 (.int .u8),.z,x0⟩] [⟨h14,oI,y0⟩,⟨h21,oE,y1⟩,⟨.int .i64,.z,y2⟩,⟨.int .i64,.z,y3⟩]
def G_sChase (x0:TInst) (x1:List TDep) (y0:TRes) (y1:Bool):Prop:=gZ 14 [⟨h14,.z,x0⟩,⟨h21,.z,x1⟩] [⟨h25,.pr .z (.pr .z (.pr (.own .z) .z)),y0⟩,⟨.bool,.z,y1⟩]
def G_sl16Go (x0:TInst) (x1:List TDep) (x2:List Int) (y0:TRes) (y1:Bool):Prop:=gZ 49 [⟨h14,.z,x0⟩,⟨h21,.z,x1⟩,⟨.sl 3 (.int .i64),.z,x2⟩] [⟨h25,.pr .z (.pr .z (.pr (.own .z) .z)),y0⟩,⟨.bool,.z,y1⟩]
def G_sApplyTrigger (x0:TInst) (x1:TDep) (x2:List Int) (y0:TInst) (y1:Int):Prop:=gZ 99 [⟨h14,.z,x0⟩,⟨h20,.z,x1⟩,⟨.sl 3 (.int .i64),.z,x2⟩] [⟨h14,.z,y0⟩,⟨.int .i64,.z,y1⟩]
def G_sExistentialVariables (x0:TDep) (y0:List Int):Prop:=gZ 130 [⟨h20,.z,x0⟩] [⟨.sl 3 (.int .i64),.own .z,y0⟩]
def G_sl16Mod (x0:Int) (x1:Int) (y0:Int):Prop:=gZ 98 [⟨.int .i64,.z,x0⟩,⟨.int .i64,.z,x1⟩] [⟨.int .i64,.z,y0⟩]
def G_sl16All (x0:TInst) (x1:List TDep) (y0:List TFact):Prop:=gZ 97 [⟨h14,.z,x0⟩,⟨h21,.z,x1⟩] [⟨h22,.own .z,y0⟩]
def G_sEqualUnionFinds (x0:TUf) (x1:TUf) (y0:Bool):Prop:=gZ 10 [⟨h10,.z,x0⟩,⟨h10,.z,x1⟩] [⟨.bool,.z,y0⟩]
def G_sDrawChaseEqualities (x0:List Int) (y0:TInst) (y1:List TDep):Prop:=gZ 5 [⟨.sl 5 (.int .u8),.z,x0⟩] [⟨h14,oI,y0⟩,⟨h21,oE,y1⟩]
def G_lbig (x0:List Int) (y0:Bool):Prop:=gZ 4 [⟨.sl 5 (.int .u8),.z,x0⟩] [⟨.bool,.z,y0⟩]
theorem K_slices_CompactFunc_Fact_oopzpozz_c_isameFact (x0:List TFact) (x1:Unit) (y0:List TFact) (H:∀ xs:List (TTok TFact),xs.map (·.2)=x0→∃ ys:List (TTok TFact),ys.Sublist xs∧ys.map (·.2)=y0∧G_slices_CompactFunc_Fact_tok_c_isameFact xs x1 ys):G_slices_CompactFunc_Fact_oopzpozz_c_isameFact x0 x1 y0:=own_tok (by rfl) H
theorem K_isameFact_tok (x0:TTok TFact) (x1:TTok TFact) (y0:Bool) (h:G_isameFact x0.2 x1.2 y0):G_isameFact_tok x0 x1 y0:=tok_args h
end Go.V

