/-
  The functions that are reached: types, signatures, what a call of each gives.
-/
import Derived.Test.YtblkhkfmeocddaaGreatVE
import Derived.Test.YtblkhkfmeocddaaGreatProg
import Derived.KernelRfl
set_option linter.unusedVariables false
set_option linter.unusedSimpArgs false
set_option maxRecDepth 1000000
set_option maxHeartbeats 4000000
set_option linter.unusedVariables false
namespace Go.V
open Go Go.Proofs
abbrev h0:Sh:=.pair (.int .u8) .unit
abbrev h1:Sh:=.pair .bool h0
abbrev h2:Sh:=.pair (.int .i64) h1
abbrev h3:Sh:=.pair (.int .i64) h2
abbrev h4:Sh:=.pair (.int .u64) .unit
abbrev h5:Sh:=.pair .str h4
abbrev h6:Sh:=.pair .bool .unit
abbrev h7:Sh:=.pair (.int .i64) h6
abbrev h8:Sh:=.pair .str h7
abbrev h9:Sh:=.sl 88 h8
abbrev h10:Sh:=.pair (.sl 3 (.int .i64)) .unit
abbrev h11:Sh:=.pair (.int .i64) h10
abbrev h12:Sh:=.sl 54 h11
abbrev h13:Sh:=.pair h12 .unit
abbrev h14:Sh:=.pair h9 h13
abbrev h15:Sh:=.pair (.int .i64) h11
abbrev h16:Sh:=.sl 52 h15
abbrev h17:Sh:=.pair h16 .unit
abbrev h18:Sh:=.pair h14 h17
abbrev h19:Sh:=.sl 99 h11
abbrev h20:Sh:=.pair (.int .i64) .unit
abbrev h21:Sh:=.pair (.int .i64) h20
abbrev h22:Sh:=.pair .bool h21
abbrev h23:Sh:=.pair h19 h22
abbrev h24:Sh:=.pair h19 h23
abbrev h25:Sh:=.sl 61 h24
abbrev h26:Sh:=.pair (.sl 5 (.int .u8)) h21
abbrev h27:Sh:=.pair (.int .i64) h7
abbrev h28:Sh:=.sl 65 h27
abbrev h29:Sh:=.sl 106 h11
abbrev h30:Sh:=.pair (.ptr h15) .unit
abbrev h31:Sh:=.pair (.ptr (.int .i64)) .unit
abbrev h32:Sh:=.pair (.ptr h9) .unit
abbrev oF:O:=.own (.pr .z (.pr (.own .z) .z))
abbrev oI:O:=.pr (.own .z) (.pr oF .z)
abbrev oT:O:=.own (.pr .z (.pr .z (.pr (.own .z) .z)))
abbrev oS:O:=.pr oI (.pr oT .z)
abbrev oD:O:=.pr oF (.pr oF .z)
abbrev oE:O:=.own oD
noncomputable abbrev prog:Program:=Tryz.prog
noncomputable abbrev gZ (f:Nat) (us rs:List OV):Prop:=z1x prog f us rs us
def z0ge:List (Nat×Sh):=[(2,.int .i64),(3,.int .i64),(4,.bool),(5,.int .u8),(6,.int .u8),(9,.str),(10,.str),(11,.str),(12,.int .u64),(21,.int .i32),(22,.sl 5 (.int .u8)),(24,h9),(25,h12),(26,h14),(27,h14),(28,h16),(29,h18),(30,h18),(31,h25),(41,.sl 3 (.int .i64)),(45,.ptr h26),(51,h15),(52,h15),(53,h11),(54,h11),(57,.sl 41 (.sl 3 (.int .i64))),(59,h19),(60,h24),(61,h24),(64,h27),(65,h27),(69,h28),(87,h8),(88,h8),(98,h11),(99,h11),(101,.sl 102 h29),(102,h29),(105,h11),(106,h11),(119,h26),(120,h26),(128,.int .u64),(142,.sl 4 .bool),(157,.sl 9 .str),(168,.int .i64),(176,.int .u32),(178,.int .u64),(179,.int .u64),(183,.ptr (.int .i64)),(185,.ptr (.int .u64)),(194,.int .u8),(195,.int .u8),(197,.ptr (.int .u8)),(198,.int .i32),(199,.int .i32)]
def z0ev:List (Nat×List Sig):=[(3,[⟨[.z],[(.bool,.z)],[.z]⟩]),(4,[⟨[.z],[(.bool,.z)],[.z]⟩]),(5,[⟨[.z],[(h18,.pr .z (.pr oT .z)),(h25,.own .z)],[.z]⟩]),(6,[⟨[.z,.z],[(.bool,.z)],[.z,.z]⟩]),(7,[⟨[.z],[(h18,.pr .z (.pr oT .z)),(.int .i64,.z)],[.z]⟩]),(8,[⟨[.z],[(h18,.pr .z (.pr oT .z)),(.int .i64,.z)],[.z]⟩]),(9,[⟨[.z],[(h18,.pr .z (.pr oT .z)),(.int .i64,.z)],[.z]⟩]),(10,[⟨[.z,.z],[(.bool,.z)],[.z,.z]⟩]),(11,[⟨[.z,.z],[(.int .i64,.z)],[.z,.z]⟩]),(12,[⟨[.z,.z],[(.int .i64,.z)],[.z,.z]⟩]),(13,[⟨[.z,.z],[(.int .i64,.z)],[.z,.z]⟩]),(14,[⟨[.z,.z],[(.int .i64,.z)],[.z,.z]⟩]),(15,[⟨[.z,.z],[(.int .i64,.z)],[.z,.z]⟩]),(16,[⟨[.z,.z],[(.int .i64,.z)],[.z,.z]⟩]),(17,[⟨[.z,.z],[(h18,.z),(.bool,.z)],[.z,.z]⟩]),(18,[⟨[.z,.z],[(.bool,.z)],[.z,.z]⟩]),(19,[⟨[.z,.z],[(.bool,.z)],[.z,.z]⟩]),(20,[⟨[.z],[(h18,.pr .z (.pr oT .z)),(h25,.own .z)],[.z]⟩]),(21,[⟨[.z,.z],[(.sl 3 (.int .i64),.own .z),(.bool,.z)],[.z,.z]⟩]),(22,[⟨[.z],[(.bool,.z)],[.z]⟩]),(23,[⟨[.z],[(.ptr h26,.own .z),(h18,.pr .z (.pr oT .z)),(h25,.own .z)],[.z]⟩]),(24,[⟨[.own .z,.z],[(.int .i64,.z)],[.own .z,.z]⟩]),(25,[⟨[.own .z,.z],[(.int .i64,.z)],[.own .z,.z]⟩]),(26,[⟨[.z,.z],[(.sl 3 (.int .i64),.own .z),(.bool,.z)],[.z,.z]⟩]),(27,[⟨[.z],[(.bool,.z)],[.z]⟩]),(28,[⟨[.z,.z],[(.int .i64,.z)],[.z,.z]⟩]),(29,[⟨[.z],[(.int .i64,.z),(.bool,.z)],[.z]⟩]),(30,[⟨[.z,.z,.z],[(.int .i64,.z)],[.z,.z,.z]⟩]),(31,[⟨[.z,.z,.z],[(.int .i64,.z)],[.z,.z,.z]⟩]),(32,[⟨[.z],[(h18,oS)],[.z]⟩]),(33,[⟨[.z,.z],[(.bool,.z)],[.z,.z]⟩]),(34,[⟨[.z,.z],[(.sl 41 (.sl 3 (.int .i64)),.own .z)],[.z,.z]⟩]),(35,[⟨[.z,.z,.z,.z],[(h18,.z),(.bool,.z)],[.z,.z,.z,.z]⟩]),(36,[⟨[.z,.z],[(.sl 3 (.int .i64),.own .z)],[.z,.z]⟩]),(37,[⟨[.z,.z],[(h27,.z),(.bool,.z)],[.z,.z]⟩]),(38,[⟨[.z,.z],[(.bool,.z)],[.z,.z]⟩]),(39,[⟨[.z,.z],[(.bool,.z)],[.z,.z]⟩]),(40,[⟨[.z],[(.int .i64,.z)],[.z]⟩]),(41,[⟨[.z,.z],[(h28,.own .z)],[.z,.z]⟩]),(42,[⟨[.z],[(.bool,.z)],[.z]⟩]),(43,[⟨[.z],[(.int .i64,.z)],[.z]⟩]),(44,[⟨[.z],[(.bool,.z)],[.z]⟩]),(45,[⟨[.z],[(.ptr h26,.own .z)],[.z]⟩]),(46,[⟨[.z],[(h18,oS),(.bool,.z)],[.z]⟩]),(47,[⟨[.own .z,.z],[(h14,oI)],[.own .z,.z]⟩]),(48,[⟨[.own .z],[(h25,.own .z)],[.own .z]⟩]),(49,[⟨[.z,.z,.z,.z],[(h18,oS),(.bool,.z)],[.z,.z,.z,.z]⟩]),(50,[⟨[.own .z],[(h14,.pr .z (.pr oF .z))],[.own .z]⟩]),(51,[⟨[.own .z],[(h25,oE)],[.own .z]⟩]),(52,[⟨[.own .z,.z],[(.bool,.z)],[.own .z,.z]⟩]),(53,[⟨[.z],[(.int .i64,.z)],[.z]⟩]),(54,[⟨[.own .z],[(.int .i64,.z)],[.own .z]⟩]),(55,[⟨[.z],[(.int .i64,.z)],[.z]⟩]),(56,[⟨[.z,.z],[(h28,.own .z)],[.z,.z]⟩]),(57,[⟨[.z],[(.bool,.z)],[.z]⟩]),(58,[⟨[.z,.z],[(.int .i64,.z)],[.z,.z]⟩]),(59,[⟨[.z,.z,.z],[(.bool,.z)],[.z,.z,.z]⟩]),(60,[⟨[.z],[(.sl 3 (.int .i64),.z)],[.z]⟩]),(61,[⟨[.z],[(.bool,.z)],[.z]⟩]),(62,[⟨[.z],[(.int .i64,.z),(.bool,.z)],[.z]⟩]),(63,[⟨[.z],[(.bool,.z)],[.z]⟩]),(64,[⟨[.z,.z,.z],[(.bool,.z)],[.z,.z,.z]⟩]),(65,[⟨[.z],[(.bool,.z)],[.z]⟩]),(66,[⟨[.z],[(h14,oI)],[.z]⟩]),(67,[⟨[.z,.z],[(.bool,.z)],[.z,.z]⟩]),(68,[⟨[.z,.z,.z,.z],[(.sl 41 (.sl 3 (.int .i64)),.own (.own .z))],[.z,.z,.z,.z]⟩]),(69,[⟨[],[(.sl 3 (.int .i64),.own .z)],[]⟩]),(70,[⟨[.z],[(.sl 3 (.int .i64),.own .z)],[.z]⟩]),(71,[⟨[.z],[(.sl 3 (.int .i64),.own .z)],[.z]⟩]),(72,[⟨[.z,.z],[(h18,.z),(.int .i64,.z),(.bool,.z)],[.z,.z]⟩]),(73,[⟨[.z,.z],[(h11,.pr .z (.pr (.own .z) .z)),(.bool,.z)],[.z,.z]⟩]),(74,[⟨[.z,.z],[(h14,.z)],[.z,.z]⟩]),(75,[⟨[.z,.z,.z],[(h29,.own .z)],[.z,.z,.z]⟩]),(76,[⟨[.z,.z,.z,.z],[(.bool,.z)],[.z,.z,.z,.z]⟩]),(77,[⟨[.z,.z,.z,.z],[(.bool,.z)],[.z,.z,.z,.z]⟩]),(78,[⟨[.z,.z],[(.bool,.z)],[.z,.z]⟩]),(79,[⟨[.z,.z],[(h27,.z),(.bool,.z)],[.z,.z]⟩]),(80,[⟨[.z,.z],[(.bool,.z)],[.z,.z]⟩]),(81,[⟨[.z,.z,.z,.z,.z,.own (.own .z)],[],[.z,.z,.z,.z,.z,.own (.own .z)]⟩]),(82,[⟨[.z,.z,.z],[(.sl 3 (.int .i64),.own .z)],[.z,.z,.z]⟩]),(83,[⟨[.z,.z],[(.bool,.z)],[.z,.z]⟩]),(84,[⟨[.z],[(.sl 3 (.int .i64),.own .z)],[.z]⟩]),(85,[⟨[.z],[(.sl 3 (.int .i64),.own .z)],[.z]⟩]),(86,[⟨[.z,.z],[(.bool,.z)],[.z,.z]⟩]),(87,[⟨[.z,.z],[(.int .i64,.z)],[.z,.z]⟩]),(88,[⟨[.z],[(.sl 3 (.int .i64),.own .z)],[.z]⟩]),(89,[⟨[.z],[(.sl 3 (.int .i64),.own .z)],[.z]⟩]),(90,[⟨[.z,.z],[(.bool,.z)],[.z,.z]⟩]),(91,[⟨[.z,.z],[(.int .i64,.z)],[.z,.z]⟩]),(92,[⟨[.z,.z],[(.bool,.z)],[.z,.z]⟩]),(93,[⟨[.z],[(.sl 3 (.int .i64),.own .z)],[.z]⟩]),(94,[⟨[.z],[(.bool,.z)],[.z]⟩]),(95,[⟨[.z],[(.bool,.z)],[.z]⟩]),(96,[⟨[],[(h9,.own .z)],[]⟩]),(97,[⟨[.own .z,.z,.z],[(h11,.pr .z (.pr (.own .z) .z))],[.own .z,.z,.z]⟩]),(98,[⟨[.own .z],[(h24,oD)],[.own .z]⟩]),(99,[⟨[.z,.z,.z],[(.bool,.z)],[.z,.z,.z]⟩]),(100,[⟨[.own .z,.z,.z],[(h14,oI)],[.own .z,.z,.z]⟩]),(101,[⟨[.own .z],[(h11,.pr .z (.pr (.own .z) .z))],[.own .z]⟩]),(102,[⟨[.own .z],[(h8,.z)],[.own .z]⟩]),(103,[⟨[.z,.z,.z],[(.sl 3 (.int .i64),.own .z)],[.z,.z,.z]⟩]),(104,[⟨[.own .z,.z],[(h28,.own .z)],[.dead,.z]⟩]),(105,[⟨[.z],[(.sl 3 (.int .i64),.z)],[.z]⟩]),(106,[⟨[.z,.z],[(.sl 3 (.int .i64),.z)],[.z,.z]⟩]),(107,[⟨[.z,.z],[(.bool,.z)],[.z,.z]⟩]),(108,[⟨[.z,.z],[(.int .i64,.z)],[.z,.z]⟩]),(109,[⟨[.z],[(.bool,.z)],[.z]⟩]),(110,[⟨[.z],[(.bool,.z)],[.z]⟩]),(111,[⟨[.z],[(h11,.pr .z (.pr (.own .z) .z))],[.z]⟩]),(112,[⟨[.z,.z],[(.bool,.z)],[.z,.z]⟩]),(113,[⟨[.z,.z,.z],[(.sl 3 (.int .i64),.own .z),(.bool,.z)],[.z,.z,.z]⟩]),(114,[⟨[],[(.int .i64,.z)],[]⟩]),(115,[⟨[oF],[(.sl 3 (.int .i64),.z)],[oF]⟩,⟨[.z],[(.sl 3 (.int .i64),.z)],[.z]⟩]),(116,[⟨[.z,.z],[(.bool,.z)],[.z,.z]⟩]),(117,[⟨[.z,.z],[(.int .i64,.z)],[.z,.z]⟩]),(118,[⟨[.z,.z],[(.int .i64,.z)],[.z,.z]⟩]),(119,[⟨[.z,.z],[(.bool,.z)],[.z,.z]⟩]),(120,[⟨[.z,.z,.z,.z,.z],[(.bool,.z)],[.z,.z,.z,.z,.z]⟩]),(121,[⟨[.z,.z,.z,.z],[(.bool,.z)],[.z,.z,.z,.z]⟩]),(122,[⟨[.z,.z],[(.bool,.z)],[.z,.z]⟩]),(123,[⟨[.z,.z],[(.bool,.z)],[.z,.z]⟩]),(124,[⟨[.z,.z],[(.bool,.z)],[.z,.z]⟩]),(125,[⟨[.z,.z],[(.int .i64,.z)],[.z,.z]⟩]),(126,[⟨[.z,.z],[(.sl 3 (.int .i64),.own .z)],[.z,.z]⟩]),(127,[⟨[.z],[(.bool,.z)],[.z]⟩]),(128,[⟨[.z],[(.bool,.z)],[.z]⟩]),(129,[⟨[.z],[(.int .i64,.z)],[.z]⟩]),(130,[⟨[.z,.z],[(.int .i64,.z)],[.z,.z]⟩]),(131,[⟨[.z,.z],[(.int .i64,.z)],[.z,.z]⟩]),(132,[⟨[.z],[(.sl 3 (.int .i64),.own .z)],[.z]⟩]),(133,[⟨[.z,.z],[(.bool,.z)],[.z,.z]⟩]),(134,[⟨[.z,.z],[(.int .i64,.z)],[.z,.z]⟩]),(135,[⟨[.z,.z],[(.bool,.z)],[.z,.z]⟩]),(136,[⟨[.z,.z],[(.bool,.z)],[.z,.z]⟩]),(137,[⟨[.z,.z],[(.int .i64,.z)],[.z,.z]⟩]),(138,[⟨[.own .z],[(h24,oD)],[.own .z]⟩]),(139,[⟨[.own .z,.z,.z],[(h11,.pr .z (.pr (.own .z) .z))],[.own .z,.z,.z]⟩]),(140,[⟨[.own .z,.z],[(.int .i64,.z)],[.own .z,.z]⟩]),(141,[⟨[.own .z,.z],[(.str,.z)],[.own .z,.z]⟩]),(142,[⟨[.z,.z],[(.int .i64,.z)],[.z,.z]⟩]),(143,[⟨[.z,.z,.z],[(.bool,.z)],[.z,.z,.z]⟩]),(144,[⟨[.z],[(.sl 3 (.int .i64),.own .z)],[.z]⟩]),(145,[⟨[.z,.z],[(.bool,.z)],[.z,.z]⟩]),(146,[⟨[.z,.z],[(.bool,.z)],[.z,.z]⟩]),(147,[⟨[.z,.z],[(.bool,.z)],[.z,.z]⟩]),(148,[⟨[.z],[(.bool,.z)],[.z]⟩]),(149,[⟨[.own .z],[],[.own .z]⟩]),(150,[⟨[.own .z],[(.sl 3 (.int .i64),.own .z)],[.dead]⟩]),(151,[⟨[.z,.z],[(.bool,.z)],[.z,.z]⟩]),(152,[⟨[.z,.z],[(.bool,.z)],[.z,.z]⟩]),(153,[⟨[.z,.z],[(.int .i64,.z)],[.z,.z]⟩]),(154,[⟨[.z,.z],[(.int .i64,.z)],[.z,.z]⟩]),(157,[⟨[.z],[(.bool,.z)],[.z]⟩])]
def z0fd:List (Nat×List (Option Sh)):=[(3,[some (.sl 5 (.int .u8))]),(4,[some (.sl 5 (.int .u8))]),(5,[some (.sl 5 (.int .u8))]),(6,[some (h18),some (h25)]),(7,[some (.sl 5 (.int .u8))]),(8,[some (.sl 5 (.int .u8))]),(9,[some (.sl 5 (.int .u8))]),(10,[some (h18),some (h25)]),(11,[some (h18),some (.int .i64)]),(12,[some (h18),some (.int .i64)]),(13,[some (h18),some (.int .i64)]),(14,[some (h18),some (.int .i64)]),(15,[some (h18),some (.int .i64)]),(16,[some (h18),some (.int .i64)]),(17,[some (h18),some (h25)]),(18,[some (h18),some (h25)]),(19,[some (h9),some (h25)]),(20,[some (.sl 5 (.int .u8))]),(21,[some (h9),some (h25)]),(22,[some (h18)]),(23,[some (.sl 5 (.int .u8))]),(24,[some (.ptr h26),some (.int .i64)]),(25,[some (.ptr h26),some (.int .i64)]),(26,[some (h9),some (h25)]),(27,[some (h18)]),(28,[some (h18),some (.int .i64)]),(29,[some (.int .i64)]),(30,[some (h9),some (.int .i64),some (.int .i64)]),(31,[some (h9),some (.int .i64),some (.int .i64)]),(32,[some (h18)]),(33,[some (h9),some (h25)]),(34,[some (h14),some (h19)]),(35,[some (h18),some (h25),some (.int .i64),some (.sl 3 (.int .i64))]),(36,[some (h18),some (h25)]),(37,[some (h9),some (h25)]),(38,[some (h9),some (h25)]),(39,[some (h9),some (h25)]),(40,[some (h9)]),(41,[some (h9),some (h25)]),(42,[some (h14)]),(43,[some (h14)]),(44,[some (h16)]),(45,[some (.sl 5 (.int .u8))]),(46,[some (h14)]),(47,[some (.ptr h26),some (.int .i64)]),(48,[some (.ptr h26)]),(49,[some (h18),some (h25),some (.int .i64),some (.sl 3 (.int .i64))]),(50,[some (.ptr h26)]),(51,[some (.ptr h26)]),(52,[some (.ptr h26),some (.int .i64)]),(53,[some (.int .i64)]),(54,[some (.ptr h26)]),(55,[some (h9)]),(56,[some (h9),some (h25)]),(57,[some (.int .i64)]),(58,[some (.sl 3 (.int .i64)),some (.sl 3 (.int .i64))]),(59,[some (.int .i64),some (.int .i64),some (.int .i64)]),(60,[some (h14)]),(61,[some (h14)]),(62,[some (.int .i64)]),(63,[some (h9)]),(64,[some (.int .i64),some (.int .i64),some (.int .i64)]),(65,[some (h9)]),(66,[some (h14)]),(67,[some (h14),some (h19)]),(68,[some (h14),some (h19),some (.int .i64),some (.sl 3 (.int .i64))]),(69,[]),(70,[some (h24)]),(71,[some (h24)]),(72,[some (h18),some (h15)]),(73,[some (h11),some (.sl 3 (.int .i64))]),(74,[some (h14),some (h11)]),(75,[some (h18),some (h25),some (h11)]),(76,[some (h18),some (h25),some (h11),some (.sl 3 (.int .i64))]),(77,[some (.int .i64),some (h28),some (.int .i64),some (.int .i64)]),(78,[some (h9),some (h24)]),(79,[some (h9),some (h25)]),(80,[some (h9),some (h25)]),(81,[some (.int .i64),some (h19),some (.int .i64),some (.bool)]),(82,[some (h9),some (h19),some (.int .i64)]),(83,[some (h28),some (h27)]),(84,[some (h24)]),(85,[some (h24)]),(86,[some (h9),some (h11)]),(87,[some (h11),some (h11)]),(88,[some (h11)]),(89,[some (h14)]),(90,[some (h15),some (.int .i64)]),(91,[some (h16),some (h15)]),(92,[some (.sl 3 (.int .i64)),none]),(93,[some (h16)]),(94,[some (.int .i64)]),(95,[some (h14)]),(96,[]),(97,[some (.ptr h26),some (.int .i64),some (.int .i64)]),(98,[some (.ptr h26)]),(99,[some (h14),some (h24),some (.sl 3 (.int .i64))]),(100,[some (.ptr h26),some (.int .i64),some (.int .i64)]),(101,[some (.ptr h26)]),(102,[some (.ptr h26)]),(103,[some (h9),some (h19),some (.int .i64)]),(104,[some (h28),some (h27)]),(105,[some (h11)]),(106,[some (.sl 3 (.int .i64)),some (.int .i64)]),(107,[some (h9),some (h11)]),(108,[some (h11),some (h11)]),(109,[some (h8)]),(110,[some (h8)]),(111,[some (h11)]),(112,[some (h9),some (h11)]),(113,[some (h11),some (h11),some (.sl 3 (.int .i64))]),(114,[]),(115,[some (h19)]),(116,[some (.sl 3 (.int .i64)),some (.int .i64)]),(117,[some (h18),some (h15)]),(118,[some (h14),some (h11)]),(119,[some (h14),some (h11)]),(120,[some (h18),some (h25),some (.int .i64),some (.sl 3 (.int .i64)),some (h11)]),(121,[some (.int .i64),some (h28),some (.int .i64),some (.int .i64)]),(122,[some (h25),none]),(123,[some (h24)]),(124,[some (h9),some (h24)]),(125,[some (h28),some (h27)]),(126,[some (h24),some (.bool)]),(127,[some (.int .i64)]),(128,[some (.int .i64)]),(129,[some (.sl 3 (.int .i64))]),(130,[some (.int .i64),some (.int .i64)]),(131,[some (.sl 3 (.int .i64)),some (.sl 3 (.int .i64))]),(132,[some (.sl 3 (.int .i64))]),(133,[some (.int .i64)]),(134,[some (h16),none]),(135,[some (h15)]),(136,[some (.sl 3 (.int .i64)),some (.sl 3 (.int .i64))]),(137,[some (.sl 3 (.int .i64)),none]),(138,[some (.ptr h26)]),(139,[some (.ptr h26),some (.int .i64),some (.int .i64)]),(140,[some (.ptr h26),some (.sl 3 (.int .i64))]),(141,[some (.ptr h26),some (.sl 9 .str)]),(142,[some (h25),none]),(143,[some (h9),some (h19),some (.int .i64)]),(144,[some (h19)]),(145,[some (.sl 3 (.int .i64)),some (.int .i64)]),(146,[some (h19),none]),(147,[some (h11)]),(148,[some (.int .i64)]),(149,[some (.sl 3 (.int .i64))]),(150,[some (.sl 3 (.int .i64))]),(151,[some (h11)]),(152,[some (h9),some (h11)]),(153,[some (.sl 3 (.int .i64)),some (.int .i64)]),(154,[some (h19),none]),(157,[some (.int .i64)])]
noncomputable def E:Env:={ sh:=fun t=>z0e t z0ge,sigs:=fun f=>(z0e f z0ev).getD [],params:=fun f=>(z0e f z0fd).getD [],gives:=z1x prog }
theorem zo6:∀ t s,E.sh t=some s->ShOk prog s none t:=z0er (by kernel_rfl)
theorem mixed:prog.follows .mixedOrders=true:=by kernel_rfl
abbrev nL:Nat->Option Loop:=fun i=>z0e i []
abbrev nP:Nat->Option Pl:=fun i=>z0e i []
theorem fg {L : Nat -> Option Loop} {pl : Nat -> Option Pl} {f : FuncId} {fn : Func} {g : Sig} {us : List OV} {m : List (Sh × O)} {val : resD (outD m) g.res} {Q : Prop} (hf : prog.funcs[f]? = some fn) (h : Q) (hn : (fn.name == "runtime.NumGoroutine") = false := by kernel_rfl) (ho : g.outs = m.map (·.2) := by rfl) (hu : zln us m = true := by rfl) (e : fnV E L pl fn g us (ansK g.res m fun r => r = val) = Q := by kernel_rfl) : z1x prog f us (encR g.res val).1 (encO us m (encR g.res val).2) := zv7 zo6 (fun _ _ _ _ h => h) mixed hf hn rfl ho hu (Eq.mpr e h)
theorem fz {L : Nat -> Option Loop} {pl : Nat -> Option Pl} {f : FuncId} {fn : Func} {us : List OV} {l m : List (Sh × O)} {val : resD (outD m) l} {Q : Prop} (hf : prog.funcs[f]? = some fn) (h : Q) (hn : (fn.name == "runtime.NumGoroutine") = false := by kernel_rfl) (hu : zln us m = true := by rfl) (e : fnV E L pl fn ⟨m.map (·.2), l, m.map (·.2)⟩ us (ansK l m fun r => r = val) = Q := by kernel_rfl) : z1x prog f us (encR l val).1 (encO us m (encR l val).2) := zv7 zo6 (fun _ _ _ _ h => h) mixed hf hn rfl rfl hu (Eq.mpr e h)
theorem fy {f : FuncId} {fn : Func} {us : List OV} {l m : List (Sh × O)} {val : resD (outD m) l} {Q : Prop} (hf : prog.funcs[f]? = some fn) (h : Q) (hn : (fn.name == "runtime.NumGoroutine") = false := by kernel_rfl) (hu : zln us m = true := by rfl) (e : fnV E nL nP fn ⟨m.map (·.2), l, m.map (·.2)⟩ us (ansK l m fun r => r = val) = Q := by kernel_rfl) : z1x prog f us (encR l val).1 (encO us m (encR l val).2) := zv7 zo6 (fun _ _ _ _ h => h) mixed hf hn rfl rfl hu (Eq.mpr e h)
def zbl (x0:List Int) (y0:Bool):Prop:=gZ 3 [⟨.sl 5 (.int .u8),.z,x0⟩] [⟨.bool,.z,y0⟩]
def z7m (x0:TSk) (x1:List z0b) (y0:Bool):Prop:=gZ 6 [⟨h18,.z,x0⟩,⟨h25,.z,x1⟩] [⟨.bool,.z,y0⟩]
def zax (x0:TSk) (x1:Int) (y0:Int):Prop:=gZ 13 [⟨h18,.z,x0⟩,⟨.int .i64,.z,x1⟩] [⟨.int .i64,.z,y0⟩]
def z7r (x0:TSk) (x1:Int) (y0:Int):Prop:=gZ 28 [⟨h18,.z,x0⟩,⟨.int .i64,.z,x1⟩] [⟨.int .i64,.z,y0⟩]
def z4w (x0:Int) (y0:Int) (y1:Bool):Prop:=gZ 62 [⟨.int .i64,.z,x0⟩] [⟨.int .i64,.z,y0⟩,⟨.bool,.z,y1⟩]
def z2q (x0:Int) (x1:Int) (x2:Int) (y0:Bool):Prop:=gZ 64 [⟨.int .i64,.z,x0⟩,⟨.int .i64,.z,x1⟩,⟨.int .i64,.z,x2⟩] [⟨.bool,.z,y0⟩]
def z7k (x0:List z0m) (x1:Int) (x2:Int) (y0:Int):Prop:=gZ 30 [⟨h9,.z,x0⟩,⟨.int .i64,.z,x1⟩,⟨.int .i64,.z,x2⟩] [⟨.int .i64,.z,y0⟩]
def z1l (x0:List z0m) (y0:Bool):Prop:=gZ 63 [⟨h9,.z,x0⟩] [⟨.bool,.z,y0⟩]
def z7x (x0:z0m) (y0:Bool):Prop:=gZ 109 [⟨h8,.z,x0⟩] [⟨.bool,.z,y0⟩]
def z2f (x0:TSk) (y0:Bool):Prop:=gZ 22 [⟨h18,.z,x0⟩] [⟨.bool,.z,y0⟩]
def zje (x0:List z0c) (y0:Bool):Prop:=gZ 44 [⟨h16,.z,x0⟩] [⟨.bool,.z,y0⟩]
def z1t (x0:List Int) (x1:Unit) (y0:Bool):Prop:=gZ 92 [⟨.sl 3 (.int .i64),.z,x0⟩,⟨.fn 94 .unit,.z,x1⟩] [⟨.bool,.z,y0⟩]
def z27 (x0:List Int) (x1:Unit) (y0:Int):Prop:=gZ 137 [⟨.sl 3 (.int .i64),.z,x0⟩,⟨.fn 94 .unit,.z,x1⟩] [⟨.int .i64,.z,y0⟩]
def z67 (x0:Int) (y0:Bool):Prop:=gZ 94 [⟨.int .i64,.z,x0⟩] [⟨.bool,.z,y0⟩]
def zpw (x0:List z0c) (y0:List Int):Prop:=gZ 93 [⟨h16,.z,x0⟩] [⟨.sl 3 (.int .i64),.own .z,y0⟩]
def zdi (x0:List Int) (y0:List Int):Prop:=gZ 132 [⟨.sl 3 (.int .i64),.z,x0⟩] [⟨.sl 3 (.int .i64),.own .z,y0⟩]
def z35 (x0:List Int) (y0:List Int):Prop:=z1x prog 150 [⟨.sl 3 (.int .i64),.own .z,x0⟩] [⟨.sl 3 (.int .i64),.own .z,y0⟩] [⟨.sl 3 (.int .i64),.dead,x0⟩]
def z43 (x0:List Int) (z0:List Int):Prop:=z1x prog 149 [⟨.sl 3 (.int .i64),.own .z,x0⟩] [] [⟨.sl 3 (.int .i64),.own .z,z0⟩]
def zoq (x0:List z0c) (x1:z0c) (y0:Int):Prop:=gZ 91 [⟨h16,.z,x0⟩,⟨h15,.z,x1⟩] [⟨.int .i64,.z,y0⟩]
def z1n (x0:List z0c) (x1:z0c×Unit) (y0:Int):Prop:=gZ 134 [⟨h16,.z,x0⟩,⟨.fn 135 h30,.z,x1⟩] [⟨.int .i64,.z,y0⟩]
def zbu (x0:z0c) (x1:z0c) (y0:Bool):Prop:=gZ 135 [⟨h15,.z,x0⟩,⟨.ptr h15,.z,x1⟩] [⟨.bool,.z,y0⟩]
def z87 (x0:List Int) (x1:List Int) (y0:Bool):Prop:=gZ 136 [⟨.sl 3 (.int .i64),.z,x0⟩,⟨.sl 3 (.int .i64),.z,x1⟩] [⟨.bool,.z,y0⟩]
def zj5 (x0:z0c) (x1:Int) (y0:Bool):Prop:=gZ 90 [⟨h15,.z,x0⟩,⟨.int .i64,.z,x1⟩] [⟨.bool,.z,y0⟩]
def z1w (x0:List Int) (x1:Int×Unit) (y0:Bool):Prop:=gZ 92 [⟨.sl 3 (.int .i64),.z,x0⟩,⟨.fn 133 h31,.z,x1⟩] [⟨.bool,.z,y0⟩]
def z29 (x0:List Int) (x1:Int×Unit) (y0:Int):Prop:=gZ 137 [⟨.sl 3 (.int .i64),.z,x0⟩,⟨.fn 133 h31,.z,x1⟩] [⟨.int .i64,.z,y0⟩]
def z6c (x0:Int) (x1:Int) (y0:Bool):Prop:=gZ 133 [⟨.int .i64,.z,x0⟩,⟨.ptr (.int .i64),.z,x1⟩] [⟨.bool,.z,y0⟩]
def z8d (x0:Int) (y0:Bool):Prop:=gZ 128 [⟨.int .i64,.z,x0⟩] [⟨.bool,.z,y0⟩]
def zji (x0:z0n) (y0:Int):Prop:=gZ 43 [⟨h14,.z,x0⟩] [⟨.int .i64,.z,y0⟩]
def z8w (x0:z0n) (y0:List Int):Prop:=gZ 89 [⟨h14,.z,x0⟩] [⟨.sl 3 (.int .i64),.own .z,y0⟩]
def z8s (x0:z0n) (y0:Bool):Prop:=gZ 42 [⟨h14,.z,x0⟩] [⟨.bool,.z,y0⟩]
def z74 (x0:z01) (y0:List Int):Prop:=gZ 88 [⟨h11,.z,x0⟩] [⟨.sl 3 (.int .i64),.own .z,y0⟩]
def zbv (x0:z01) (x1:z01) (y0:Int):Prop:=gZ 87 [⟨h11,.z,x0⟩,⟨h11,.z,x1⟩] [⟨.int .i64,.z,y0⟩]
def zgn (x0:List Int) (y0:Int):Prop:=gZ 129 [⟨.sl 3 (.int .i64),.z,x0⟩] [⟨.int .i64,.z,y0⟩]
def z6s (x0:List Int) (x1:List Int) (y0:Int):Prop:=gZ 131 [⟨.sl 3 (.int .i64),.z,x0⟩,⟨.sl 3 (.int .i64),.z,x1⟩] [⟨.int .i64,.z,y0⟩]
def z6h (x0:Int) (x1:Int) (y0:Int):Prop:=gZ 130 [⟨.int .i64,.z,x0⟩,⟨.int .i64,.z,x1⟩] [⟨.int .i64,.z,y0⟩]
def z8a (x0:Int) (y0:Bool):Prop:=gZ 148 [⟨.int .i64,.z,x0⟩] [⟨.bool,.z,y0⟩]
def zd3 (x0:List z0m) (x1:z01) (y0:Bool):Prop:=gZ 86 [⟨h9,.z,x0⟩,⟨h11,.z,x1⟩] [⟨.bool,.z,y0⟩]
def z1h (x0:List Int) (x1:Unit) (y0:Bool):Prop:=gZ 92 [⟨.sl 3 (.int .i64),.z,x0⟩,⟨.fn 127 .unit,.z,x1⟩] [⟨.bool,.z,y0⟩]
def z1v (x0:List Int) (x1:Unit) (y0:Int):Prop:=gZ 137 [⟨.sl 3 (.int .i64),.z,x0⟩,⟨.fn 127 .unit,.z,x1⟩] [⟨.int .i64,.z,y0⟩]
def z3u (x0:Int) (y0:Bool):Prop:=gZ 127 [⟨.int .i64,.z,x0⟩] [⟨.bool,.z,y0⟩]
def zah (x0:List z0m) (x1:List z0b) (y0:List Int) (y1:Bool):Prop:=gZ 21 [⟨h9,.z,x0⟩,⟨h25,.z,x1⟩] [⟨.sl 3 (.int .i64),.own .z,y0⟩,⟨.bool,.z,y1⟩]
def z7n (x0:List z0m) (x1:List z0b) (y0:List z0d):Prop:=gZ 41 [⟨h9,.z,x0⟩,⟨h25,.z,x1⟩] [⟨h28,.own .z,y0⟩]
def z3f (x0:Int) (x1:List z01) (x2:Int) (x3:Bool) (x4:List z0m) (x5:List z0d) (z5:List z0d):Prop:=z1x prog 81 [⟨.int .i64,.z,x0⟩,⟨h19,.z,x1⟩,⟨.int .i64,.z,x2⟩,⟨.bool,.z,x3⟩,⟨.ptr h9,.z,x4⟩,⟨.ptr h28,.own (.own .z),x5⟩] [] [⟨.int .i64,.z,x0⟩,⟨h19,.z,x1⟩,⟨.int .i64,.z,x2⟩,⟨.bool,.z,x3⟩,⟨.ptr h9,.z,x4⟩,⟨.ptr h28,.own (.own .z),z5⟩]
def z2z (x0:List z0d) (x1:z0d) (y0:Bool):Prop:=gZ 83 [⟨h28,.z,x0⟩,⟨h27,.z,x1⟩] [⟨.bool,.z,y0⟩]
def z3j (x0:List z0d) (x1:z0d) (y0:Int):Prop:=gZ 125 [⟨h28,.z,x0⟩,⟨h27,.z,x1⟩] [⟨.int .i64,.z,y0⟩]
def z9e (x0:List z0m) (x1:List z01) (x2:Int) (y0:List Int):Prop:=gZ 82 [⟨h9,.z,x0⟩,⟨h19,.z,x1⟩,⟨.int .i64,.z,x2⟩] [⟨.sl 3 (.int .i64),.own .z,y0⟩]
def z4x (x0:z0b) (y0:List Int):Prop:=gZ 85 [⟨h24,.z,x0⟩] [⟨.sl 3 (.int .i64),.own .z,y0⟩]
def z7g (x0:z0b) (x1:Bool) (y0:List Int):Prop:=gZ 126 [⟨h24,.z,x0⟩,⟨.bool,.z,x1⟩] [⟨.sl 3 (.int .i64),.own .z,y0⟩]
def z33 (x0:List Int) (x1:Int) (y0:Bool):Prop:=gZ 145 [⟨.sl 3 (.int .i64),.z,x0⟩,⟨.int .i64,.z,x1⟩] [⟨.bool,.z,y0⟩]
def z8u (x0:List Int) (x1:Int) (y0:Int):Prop:=gZ 153 [⟨.sl 3 (.int .i64),.z,x0⟩,⟨.int .i64,.z,x1⟩] [⟨.int .i64,.z,y0⟩]
def z9z (x0:List z01) (y0:List Int):Prop:=gZ 144 [⟨h19,.z,x0⟩] [⟨.sl 3 (.int .i64),.own .z,y0⟩]
def z6p (x0:z0b) (y0:List Int):Prop:=gZ 84 [⟨h24,.z,x0⟩] [⟨.sl 3 (.int .i64),.own .z,y0⟩]
def z3e (x0:List z0m) (x1:List z0b) (y0:Bool):Prop:=gZ 80 [⟨h9,.z,x0⟩,⟨h25,.z,x1⟩] [⟨.bool,.z,y0⟩]
def z0s (x0:List z0b) (x1:List z0m×Unit) (y0:Bool):Prop:=gZ 122 [⟨h25,.z,x0⟩,⟨.fn 123 h32,.z,x1⟩] [⟨.bool,.z,y0⟩]
def z0v (x0:List z0b) (x1:List z0m×Unit) (y0:Int):Prop:=gZ 142 [⟨h25,.z,x0⟩,⟨.fn 123 h32,.z,x1⟩] [⟨.int .i64,.z,y0⟩]
def z1j (x0:z0b) (x1:List z0m) (y0:Bool):Prop:=gZ 123 [⟨h24,.z,x0⟩,⟨.ptr h9,.z,x1⟩] [⟨.bool,.z,y0⟩]
def z6m (x0:List z0m) (x1:z0b) (y0:Bool):Prop:=gZ 124 [⟨h9,.z,x0⟩,⟨h24,.z,x1⟩] [⟨.bool,.z,y0⟩]
def z15 (x0:List z01) (x1:List z0m×Unit) (y0:Bool):Prop:=gZ 146 [⟨h19,.z,x0⟩,⟨.fn 147 h32,.z,x1⟩] [⟨.bool,.z,y0⟩]
def z18 (x0:List z01) (x1:List z0m×Unit) (y0:Int):Prop:=gZ 154 [⟨h19,.z,x0⟩,⟨.fn 147 h32,.z,x1⟩] [⟨.int .i64,.z,y0⟩]
def z24 (x0:z01) (x1:List z0m) (y0:Bool):Prop:=gZ 147 [⟨h11,.z,x0⟩,⟨.ptr h9,.z,x1⟩] [⟨.bool,.z,y0⟩]
def zea (x0:List z0m) (x1:List z01) (x2:Int) (y0:Bool):Prop:=gZ 143 [⟨h9,.z,x0⟩,⟨h19,.z,x1⟩,⟨.int .i64,.z,x2⟩] [⟨.bool,.z,y0⟩]
def z1q (x0:List z01) (x1:List z0m×Unit) (y0:Bool):Prop:=gZ 146 [⟨h19,.z,x0⟩,⟨.fn 151 h32,.z,x1⟩] [⟨.bool,.z,y0⟩]
def z23 (x0:List z01) (x1:List z0m×Unit) (y0:Int):Prop:=gZ 154 [⟨h19,.z,x0⟩,⟨.fn 151 h32,.z,x1⟩] [⟨.int .i64,.z,y0⟩]
def z6a (x0:z01) (x1:List z0m) (y0:Bool):Prop:=gZ 151 [⟨h11,.z,x0⟩,⟨.ptr h9,.z,x1⟩] [⟨.bool,.z,y0⟩]
def zcw (x0:List z0m) (x1:z01) (y0:Bool):Prop:=gZ 152 [⟨h9,.z,x0⟩,⟨h11,.z,x1⟩] [⟨.bool,.z,y0⟩]
def z1g (x0:List Int) (x1:Unit) (y0:Bool):Prop:=gZ 92 [⟨.sl 3 (.int .i64),.z,x0⟩,⟨.fn 157 .unit,.z,x1⟩] [⟨.bool,.z,y0⟩]
def z1s (x0:List Int) (x1:Unit) (y0:Int):Prop:=gZ 137 [⟨.sl 3 (.int .i64),.z,x0⟩,⟨.fn 157 .unit,.z,x1⟩] [⟨.int .i64,.z,y0⟩]
def z3t (x0:Int) (y0:Bool):Prop:=gZ 157 [⟨.int .i64,.z,x0⟩] [⟨.bool,.z,y0⟩]
def z7l (x0:List z0m) (y0:Int):Prop:=gZ 40 [⟨h9,.z,x0⟩] [⟨.int .i64,.z,y0⟩]
def z8g (x0:List z0m) (x1:List z0b) (y0:Bool):Prop:=gZ 39 [⟨h9,.z,x0⟩,⟨h25,.z,x1⟩] [⟨.bool,.z,y0⟩]
def z7o (x0:List z0m) (x1:List z0b) (y0:z0d) (y1:Bool):Prop:=gZ 79 [⟨h9,.z,x0⟩,⟨h25,.z,x1⟩] [⟨h27,.z,y0⟩,⟨.bool,.z,y1⟩]
def zcu (x0:Int) (x1:List z0d) (x2:Int) (x3:Int) (y0:Bool):Prop:=gZ 121 [⟨.int .i64,.z,x0⟩,⟨h28,.z,x1⟩,⟨.int .i64,.z,x2⟩,⟨.int .i64,.z,x3⟩] [⟨.bool,.z,y0⟩]
def zb4 (x0:TSk) (x1:Int) (y0:Int):Prop:=gZ 15 [⟨h18,.z,x0⟩,⟨.int .i64,.z,x1⟩] [⟨.int .i64,.z,y0⟩]
def z45 (x0:List z0m) (x1:List z0b) (y0:Bool):Prop:=gZ 19 [⟨h9,.z,x0⟩,⟨h25,.z,x1⟩] [⟨.bool,.z,y0⟩]
def z2j (x0:List z0m) (x1:List z0b) (y0:Bool):Prop:=gZ 38 [⟨h9,.z,x0⟩,⟨h25,.z,x1⟩] [⟨.bool,.z,y0⟩]
def z1m (x0:List z0m) (y0:Bool):Prop:=gZ 65 [⟨h9,.z,x0⟩] [⟨.bool,.z,y0⟩]
def z8c (x0:z0m) (y0:Bool):Prop:=gZ 110 [⟨h8,.z,x0⟩] [⟨.bool,.z,y0⟩]
def z4l (x0:Int) (x1:Int) (x2:Int) (y0:Bool):Prop:=gZ 59 [⟨.int .i64,.z,x0⟩,⟨.int .i64,.z,x1⟩,⟨.int .i64,.z,x2⟩] [⟨.bool,.z,y0⟩]
def z4c (x0:List z0m) (x1:z0b) (y0:Bool):Prop:=gZ 78 [⟨h9,.z,x0⟩,⟨h24,.z,x1⟩] [⟨.bool,.z,y0⟩]
def z7a (x0:List z0m) (x1:z01) (y0:Bool):Prop:=gZ 112 [⟨h9,.z,x0⟩,⟨h11,.z,x1⟩] [⟨.bool,.z,y0⟩]
def ze4 (x0:List Int) (x1:Int) (y0:Bool):Prop:=gZ 116 [⟨.sl 3 (.int .i64),.z,x0⟩,⟨.int .i64,.z,x1⟩] [⟨.bool,.z,y0⟩]
def z4p (x0:List z01) (y0:List Int):Prop:=gZ 115 [⟨h19,.z,x0⟩] [⟨.sl 3 (.int .i64),.z,y0⟩]
def zhr (x0:List Int) (x1:Int) (y0:List Int):Prop:=gZ 106 [⟨.sl 3 (.int .i64),.z,x0⟩,⟨.int .i64,.z,x1⟩] [⟨.sl 3 (.int .i64),.z,y0⟩]
def z7p (x0:List z0m) (x1:List z0b) (y0:z0d) (y1:Bool):Prop:=gZ 37 [⟨h9,.z,x0⟩,⟨h25,.z,x1⟩] [⟨h27,.z,y0⟩,⟨.bool,.z,y1⟩]
def zcv (x0:Int) (x1:List z0d) (x2:Int) (x3:Int) (y0:Bool):Prop:=gZ 77 [⟨.int .i64,.z,x0⟩,⟨h28,.z,x1⟩,⟨.int .i64,.z,x2⟩,⟨.int .i64,.z,x3⟩] [⟨.bool,.z,y0⟩]
def z7j (x0:List z0m) (y0:Int):Prop:=gZ 55 [⟨h9,.z,x0⟩] [⟨.int .i64,.z,y0⟩]
def z7e (x0:List z0m) (x1:List z0b) (y0:List z0d):Prop:=gZ 56 [⟨h9,.z,x0⟩,⟨h25,.z,x1⟩] [⟨h28,.own .z,y0⟩]
def zb2 (x0:List z0d) (x1:z0d) (y0:List z0d):Prop:=z1x prog 104 [⟨h28,.own .z,x0⟩,⟨h27,.z,x1⟩] [⟨h28,.own .z,y0⟩] [⟨h28,.dead,x0⟩,⟨h27,.z,x1⟩]
def zaa (x0:List z0m) (x1:List z01) (x2:Int) (y0:List Int):Prop:=gZ 103 [⟨h9,.z,x0⟩,⟨h19,.z,x1⟩,⟨.int .i64,.z,x2⟩] [⟨.sl 3 (.int .i64),.own .z,y0⟩]
def z7i (x0:List z0m) (x1:Int) (x2:Int) (y0:Int):Prop:=gZ 31 [⟨h9,.z,x0⟩,⟨.int .i64,.z,x1⟩,⟨.int .i64,.z,x2⟩] [⟨.int .i64,.z,y0⟩]
def z2k (x0:z0b) (y0:List Int):Prop:=gZ 71 [⟨h24,.z,x0⟩] [⟨.sl 3 (.int .i64),.own .z,y0⟩]
def z39 (x0:z0b) (y0:List Int):Prop:=gZ 70 [⟨h24,.z,x0⟩] [⟨.sl 3 (.int .i64),.own .z,y0⟩]
def zac (x0:TSk) (x1:List z0b) (y0:Bool):Prop:=gZ 18 [⟨h18,.z,x0⟩,⟨h25,.z,x1⟩] [⟨.bool,.z,y0⟩]
def zg9 (x0:TSk) (x1:List z0b) (y0:List Int):Prop:=gZ 36 [⟨h18,.z,x0⟩,⟨h25,.z,x1⟩] [⟨.sl 3 (.int .i64),.own .z,y0⟩]
def zjp (x0:TSk) (x1:List z0b) (x2:z01) (x3:List Int) (y0:Bool):Prop:=gZ 76 [⟨h18,.z,x0⟩,⟨h25,.z,x1⟩,⟨h11,.z,x2⟩,⟨.sl 3 (.int .i64),.z,x3⟩] [⟨.bool,.z,y0⟩]
def zbk (x0:z0n) (x1:z01) (y0:Int):Prop:=gZ 118 [⟨h14,.z,x0⟩,⟨h11,.z,x1⟩] [⟨.int .i64,.z,y0⟩]
def z4f (x0:z01) (x1:z01) (y0:Int):Prop:=gZ 108 [⟨h11,.z,x0⟩,⟨h11,.z,x1⟩] [⟨.int .i64,.z,y0⟩]
def zdp (x0:List Int) (x1:List Int) (y0:Int):Prop:=gZ 58 [⟨.sl 3 (.int .i64),.z,x0⟩,⟨.sl 3 (.int .i64),.z,x1⟩] [⟨.int .i64,.z,y0⟩]
def z58 (x0:z01) (x1:List Int) (y0:z01) (y1:Bool):Prop:=gZ 73 [⟨h11,.z,x0⟩,⟨.sl 3 (.int .i64),.z,x1⟩] [⟨h11,.pr .z (.pr (.own .z) .z),y0⟩,⟨.bool,.z,y1⟩]
def z4j (x0:Int) (y0:Bool):Prop:=gZ 57 [⟨.int .i64,.z,x0⟩] [⟨.bool,.z,y0⟩]
def z2l (x0:Int) (y0:Int) (y1:Bool):Prop:=gZ 29 [⟨.int .i64,.z,x0⟩] [⟨.int .i64,.z,y0⟩,⟨.bool,.z,y1⟩]
def z9d (x0:TSk) (x1:List z0b) (x2:z01) (y0:List z01):Prop:=gZ 75 [⟨h18,.z,x0⟩,⟨h25,.z,x1⟩,⟨h11,.z,x2⟩] [⟨h29,.own .z,y0⟩]
def zjh (x0:TSk) (x1:List z0b) (x2:Int) (x3:List Int) (x4:z01) (y0:Bool):Prop:=gZ 120 [⟨h18,.z,x0⟩,⟨h25,.z,x1⟩,⟨.int .i64,.z,x2⟩,⟨.sl 3 (.int .i64),.z,x3⟩,⟨h11,.z,x4⟩] [⟨.bool,.z,y0⟩]
def z96 (x0:TSk) (x1:z0c) (y0:TSk) (y1:Int) (y2:Bool):Prop:=gZ 72 [⟨h18,.z,x0⟩,⟨h15,.z,x1⟩] [⟨h18,.z,y0⟩,⟨.int .i64,.z,y1⟩,⟨.bool,.z,y2⟩]
def z7u (x0:Int) (y0:Int):Prop:=gZ 53 [⟨.int .i64,.z,x0⟩] [⟨.int .i64,.z,y0⟩]
def zbb (x0:TSk) (x1:z0c) (y0:Int):Prop:=gZ 117 [⟨h18,.z,x0⟩,⟨h15,.z,x1⟩] [⟨.int .i64,.z,y0⟩]
def z6v (x0:z0n) (x1:List z01) (y0:List (List Int)):Prop:=gZ 34 [⟨h14,.z,x0⟩,⟨h19,.z,x1⟩] [⟨.sl 41 (.sl 3 (.int .i64)),.own .z,y0⟩]
def zhm (x0:z0n) (x1:List z01) (x2:Int) (x3:List Int) (y0:List (List Int)):Prop:=gZ 68 [⟨h14,.z,x0⟩,⟨h19,.z,x1⟩,⟨.int .i64,.z,x2⟩,⟨.sl 3 (.int .i64),.z,x3⟩] [⟨.sl 41 (.sl 3 (.int .i64)),.own (.own .z),y0⟩]
def zph (x0:z01) (x1:z01) (x2:List Int) (y0:List Int) (y1:Bool):Prop:=gZ 113 [⟨h11,.z,x0⟩,⟨h11,.z,x1⟩,⟨.sl 3 (.int .i64),.z,x2⟩] [⟨.sl 3 (.int .i64),.own .z,y0⟩,⟨.bool,.z,y1⟩]
def zdr  (y0:Int):Prop:=gZ 114 [] [⟨.int .i64,.z,y0⟩]
def zjs  (y0:List Int):Prop:=gZ 69 [] [⟨.sl 3 (.int .i64),.own .z,y0⟩]
def zui (x0:z0n) (x1:List z01) (y0:Bool):Prop:=gZ 67 [⟨h14,.z,x0⟩,⟨h19,.z,x1⟩] [⟨.bool,.z,y0⟩]
def z2i (x0:z0n) (y0:Bool):Prop:=gZ 61 [⟨h14,.z,x0⟩] [⟨.bool,.z,y0⟩]
def z5b (x0:z01) (y0:List Int):Prop:=gZ 105 [⟨h11,.z,x0⟩] [⟨.sl 3 (.int .i64),.z,y0⟩]
def zd1 (x0:List z0m) (x1:z01) (y0:Bool):Prop:=gZ 107 [⟨h9,.z,x0⟩,⟨h11,.z,x1⟩] [⟨.bool,.z,y0⟩]
def zbo (x0:z0n) (x1:z01) (y0:Bool):Prop:=gZ 119 [⟨h14,.z,x0⟩,⟨h11,.z,x1⟩] [⟨.bool,.z,y0⟩]
def z97 (x0:List z0m) (x1:List z0b) (y0:Bool):Prop:=gZ 33 [⟨h9,.z,x0⟩,⟨h25,.z,x1⟩] [⟨.bool,.z,y0⟩]
def z0x (x0:TSk) (y0:Bool):Prop:=gZ 27 [⟨h18,.z,x0⟩] [⟨.bool,.z,y0⟩]
def z5i (x0:z0n) (y0:List Int):Prop:=gZ 60 [⟨h14,.z,x0⟩] [⟨.sl 3 (.int .i64),.z,y0⟩]
def zd2 (x0:TSk) (x1:List z0b) (y0:TSk) (y1:Bool):Prop:=gZ 17 [⟨h18,.z,x0⟩,⟨h25,.z,x1⟩] [⟨h18,.z,y0⟩,⟨.bool,.z,y1⟩]
def z6g (x0:TSk) (y0:TSk):Prop:=gZ 32 [⟨h18,.z,x0⟩] [⟨h18,oS,y0⟩]
def zbw (x0:z0n) (y0:z0n):Prop:=gZ 66 [⟨h14,.z,x0⟩] [⟨h14,oI,y0⟩]
def zg8 (x0:z01) (y0:z01):Prop:=gZ 111 [⟨h11,.z,x0⟩] [⟨h11,.pr .z (.pr (.own .z) .z),y0⟩]
def zhw (x0:TSk) (x1:List z0b) (x2:Int) (x3:List Int) (y0:TSk) (y1:Bool):Prop:=gZ 35 [⟨h18,.z,x0⟩,⟨h25,.z,x1⟩,⟨.int .i64,.z,x2⟩,⟨.sl 3 (.int .i64),.z,x3⟩] [⟨h18,.z,y0⟩,⟨.bool,.z,y1⟩]
def zht (x0:z0n) (x1:z01) (y0:z0n):Prop:=gZ 74 [⟨h14,.z,x0⟩,⟨h11,.z,x1⟩] [⟨h14,.z,y0⟩]
def zeo (x0:TSk) (x1:Int) (y0:Int):Prop:=gZ 16 [⟨h18,.z,x0⟩,⟨.int .i64,.z,x1⟩] [⟨.int .i64,.z,y0⟩]
def zay (x0:TSk) (x1:Int) (y0:Int):Prop:=gZ 14 [⟨h18,.z,x0⟩,⟨.int .i64,.z,x1⟩] [⟨.int .i64,.z,y0⟩]
def zch (x0:TSk) (x1:Int) (y0:Int):Prop:=gZ 12 [⟨h18,.z,x0⟩,⟨.int .i64,.z,x1⟩] [⟨.int .i64,.z,y0⟩]
def zg3 (x0:TSk) (x1:Int) (y0:Int):Prop:=gZ 11 [⟨h18,.z,x0⟩,⟨.int .i64,.z,x1⟩] [⟨.int .i64,.z,y0⟩]
def zai (x0:TSk) (x1:List z0b) (y0:Bool):Prop:=gZ 10 [⟨h18,.z,x0⟩,⟨h25,.z,x1⟩] [⟨.bool,.z,y0⟩]
def zad (x0:List z0m) (x1:List z0b) (y0:List Int) (y1:Bool):Prop:=gZ 26 [⟨h9,.z,x0⟩,⟨h25,.z,x1⟩] [⟨.sl 3 (.int .i64),.own .z,y0⟩,⟨.bool,.z,y1⟩]
def zdh (x0:List Int) (y0:TSk) (y1:Int):Prop:=gZ 9 [⟨.sl 5 (.int .u8),.z,x0⟩] [⟨h18,.pr .z (.pr oT .z),y0⟩,⟨.int .i64,.z,y1⟩]
def z06 (x0:List Int×Int×Int×Unit) (x1:Int) (y0:Int) (z0:List Int×Int×Int×Unit):Prop:=z1x prog 25 [⟨.ptr h26,.own .z,x0⟩,⟨.int .i64,.z,x1⟩] [⟨.int .i64,.z,y0⟩] [⟨.ptr h26,.own .z,z0⟩,⟨.int .i64,.z,x1⟩]
def z4v (x0:List Int×Int×Int×Unit) (y0:Int) (z0:List Int×Int×Int×Unit):Prop:=z1x prog 54 [⟨.ptr h26,.own .z,x0⟩] [⟨.int .i64,.z,y0⟩] [⟨.ptr h26,.own .z,z0⟩]
def zbe (x0:List Int) (y0:List Int×Int×Int×Unit) (y1:TSk) (y2:List z0b):Prop:=gZ 23 [⟨.sl 5 (.int .u8),.z,x0⟩] [⟨.ptr h26,.own .z,y0⟩,⟨h18,.pr .z (.pr oT .z),y1⟩,⟨h25,.own .z,y2⟩]
def zd4 (x0:List Int×Int×Int×Unit) (y0:List z0b) (z0:List Int×Int×Int×Unit):Prop:=z1x prog 51 [⟨.ptr h26,.own .z,x0⟩] [⟨h25,oE,y0⟩] [⟨.ptr h26,.own .z,z0⟩]
def zb5 (x0:List Int×Int×Int×Unit) (y0:z0b) (z0:List Int×Int×Int×Unit):Prop:=z1x prog 98 [⟨.ptr h26,.own .z,x0⟩] [⟨h24,oD,y0⟩] [⟨.ptr h26,.own .z,z0⟩]
def z69 (x0:List Int×Int×Int×Unit) (x1:Int) (x2:Int) (y0:z01) (z0:List Int×Int×Int×Unit):Prop:=z1x prog 139 [⟨.ptr h26,.own .z,x0⟩,⟨.int .i64,.z,x1⟩,⟨.int .i64,.z,x2⟩] [⟨h11,.pr .z (.pr (.own .z) .z),y0⟩] [⟨.ptr h26,.own .z,z0⟩,⟨.int .i64,.z,x1⟩,⟨.int .i64,.z,x2⟩]
def z40 (x0:List Int×Int×Int×Unit) (x1:Int) (y0:Bool) (z0:List Int×Int×Int×Unit):Prop:=z1x prog 52 [⟨.ptr h26,.own .z,x0⟩,⟨.int .i64,.z,x1⟩] [⟨.bool,.z,y0⟩] [⟨.ptr h26,.own .z,z0⟩,⟨.int .i64,.z,x1⟩]
def zbx  (y0:List z0m):Prop:=gZ 96 [] [⟨h9,.own .z,y0⟩]
def z5u (x0:List z01) (y0:List Int) (z0:List z01):Prop:=z1x prog 115 [⟨h19,oF,x0⟩] [⟨.sl 3 (.int .i64),.z,y0⟩] [⟨h19,oF,z0⟩]
def zcz (x0:List Int×Int×Int×Unit) (y0:z0b) (z0:List Int×Int×Int×Unit):Prop:=z1x prog 138 [⟨.ptr h26,.own .z,x0⟩] [⟨h24,oD,y0⟩] [⟨.ptr h26,.own .z,z0⟩]
def zgb (x0:List Int×Int×Int×Unit) (y0:z0n) (z0:List Int×Int×Int×Unit):Prop:=z1x prog 50 [⟨.ptr h26,.own .z,x0⟩] [⟨h14,.pr .z (.pr oF .z),y0⟩] [⟨.ptr h26,.own .z,z0⟩]
def za5 (x0:List Int×Int×Int×Unit) (y0:z0m) (z0:List Int×Int×Int×Unit):Prop:=z1x prog 102 [⟨.ptr h26,.own .z,x0⟩] [⟨h8,.z,y0⟩] [⟨.ptr h26,.own .z,z0⟩]
def zec (x0:List Int×Int×Int×Unit) (x1:List (List UInt8)) (y0:List UInt8) (z0:List Int×Int×Int×Unit):Prop:=z1x prog 141 [⟨.ptr h26,.own .z,x0⟩,⟨.sl 9 .str,.z,x1⟩] [⟨.str,.z,y0⟩] [⟨.ptr h26,.own .z,z0⟩,⟨.sl 9 .str,.z,x1⟩]
def z9y (x0:List Int×Int×Int×Unit) (y0:z01) (z0:List Int×Int×Int×Unit):Prop:=z1x prog 101 [⟨.ptr h26,.own .z,x0⟩] [⟨h11,.pr .z (.pr (.own .z) .z),y0⟩] [⟨.ptr h26,.own .z,z0⟩]
def zaf (x0:List Int×Int×Int×Unit) (x1:List Int) (y0:Int) (z0:List Int×Int×Int×Unit):Prop:=z1x prog 140 [⟨.ptr h26,.own .z,x0⟩,⟨.sl 3 (.int .i64),.z,x1⟩] [⟨.int .i64,.z,y0⟩] [⟨.ptr h26,.own .z,z0⟩,⟨.sl 3 (.int .i64),.z,x1⟩]
def z8o (x0:List Int×Int×Int×Unit) (x1:Int) (x2:Int) (y0:z01) (z0:List Int×Int×Int×Unit):Prop:=z1x prog 97 [⟨.ptr h26,.own .z,x0⟩,⟨.int .i64,.z,x1⟩,⟨.int .i64,.z,x2⟩] [⟨h11,.pr .z (.pr (.own .z) .z),y0⟩] [⟨.ptr h26,.own .z,z0⟩,⟨.int .i64,.z,x1⟩,⟨.int .i64,.z,x2⟩]
def z6x (x0:List Int×Int×Int×Unit) (x1:Int) (y0:Int) (z0:List Int×Int×Int×Unit):Prop:=z1x prog 24 [⟨.ptr h26,.own .z,x0⟩,⟨.int .i64,.z,x1⟩] [⟨.int .i64,.z,y0⟩] [⟨.ptr h26,.own .z,z0⟩,⟨.int .i64,.z,x1⟩]
def z82 (x0:List Int×Int×Int×Unit) (x1:Int) (y0:z0n) (z0:List Int×Int×Int×Unit):Prop:=z1x prog 47 [⟨.ptr h26,.own .z,x0⟩,⟨.int .i64,.z,x1⟩] [⟨h14,oI,y0⟩] [⟨.ptr h26,.own .z,z0⟩,⟨.int .i64,.z,x1⟩]
def zbm (x0:List Int×Int×Int×Unit) (x1:Int) (x2:Int) (y0:z0n) (z0:List Int×Int×Int×Unit):Prop:=z1x prog 100 [⟨.ptr h26,.own .z,x0⟩,⟨.int .i64,.z,x1⟩,⟨.int .i64,.z,x2⟩] [⟨h14,oI,y0⟩] [⟨.ptr h26,.own .z,z0⟩,⟨.int .i64,.z,x1⟩,⟨.int .i64,.z,x2⟩]
def zd0 (x0:TSk) (x1:List z0b) (x2:Int) (x3:List Int) (y0:TSk) (y1:Bool):Prop:=gZ 49 [⟨h18,.z,x0⟩,⟨h25,.z,x1⟩,⟨.int .i64,.z,x2⟩,⟨.sl 3 (.int .i64),.z,x3⟩] [⟨h18,oS,y0⟩,⟨.bool,.z,y1⟩]
def zh3 (x0:z0n) (x1:z0b) (x2:List Int) (y0:Bool):Prop:=gZ 99 [⟨h14,.z,x0⟩,⟨h24,.z,x1⟩,⟨.sl 3 (.int .i64),.z,x2⟩] [⟨.bool,.z,y0⟩]
def zbp (x0:List Int×Int×Int×Unit) (y0:List z0b) (z0:List Int×Int×Int×Unit):Prop:=z1x prog 48 [⟨.ptr h26,.own .z,x0⟩] [⟨h25,.own .z,y0⟩] [⟨.ptr h26,.own .z,z0⟩]
def z92 (x0:z0n) (y0:TSk) (y1:Bool):Prop:=gZ 46 [⟨h14,.z,x0⟩] [⟨h18,oS,y0⟩,⟨.bool,.z,y1⟩]
def zj2 (x0:z0n) (y0:Bool):Prop:=gZ 95 [⟨h14,.z,x0⟩] [⟨.bool,.z,y0⟩]
def zvv (x0:List Int) (y0:List Int×Int×Int×Unit):Prop:=gZ 45 [⟨.sl 5 (.int .u8),.z,x0⟩] [⟨.ptr h26,.own .z,y0⟩]
def zdz (x0:List Int) (y0:TSk) (y1:Int):Prop:=gZ 8 [⟨.sl 5 (.int .u8),.z,x0⟩] [⟨h18,.pr .z (.pr oT .z),y0⟩,⟨.int .i64,.z,y1⟩]
def zf4 (x0:List Int) (y0:TSk) (y1:Int):Prop:=gZ 7 [⟨.sl 5 (.int .u8),.z,x0⟩] [⟨h18,.pr .z (.pr oT .z),y0⟩,⟨.int .i64,.z,y1⟩]
def zav (x0:List Int) (y0:TSk) (y1:List z0b):Prop:=gZ 5 [⟨.sl 5 (.int .u8),.z,x0⟩] [⟨h18,.pr .z (.pr oT .z),y0⟩,⟨h25,.own .z,y1⟩]
def zcj (x0:List Int) (y0:TSk) (y1:List z0b):Prop:=gZ 20 [⟨.sl 5 (.int .u8),.z,x0⟩] [⟨h18,.pr .z (.pr oT .z),y0⟩,⟨h25,.own .z,y1⟩]
def z088 (x0:List Int) (y0:Bool):Prop:=gZ 4 [⟨.sl 5 (.int .u8),.z,x0⟩] [⟨.bool,.z,y0⟩]
end Go.V

