/-
  The functions that are reached: types, signatures, what a call of each gives.
-/
import Derived.Test.YtaipbjannlhhdaaGreatVE
import Derived.Test.YtaipbjannlhhdaaGreatProg
import Derived.KernelRfl
set_option linter.unusedVariables false
set_option linter.unusedSimpArgs false
set_option maxRecDepth 1000000
set_option maxHeartbeats 4000000
set_option linter.unusedVariables false
namespace Go.V
open Go Go.Proofs
abbrev h0:Sh:=.pair (.int .u8) .unit
abbrev h1:Sh:=.pair .bool h0
abbrev h2:Sh:=.pair (.int .i64) h1
abbrev h3:Sh:=.pair (.int .i64) h2
abbrev h4:Sh:=.pair (.int .u64) .unit
abbrev h5:Sh:=.pair .str h4
abbrev h6:Sh:=.pair .bool .unit
abbrev h7:Sh:=.pair (.int .i64) h6
abbrev h8:Sh:=.pair .str h7
abbrev h9:Sh:=.sl 107 h8
abbrev h10:Sh:=.pair (.sl 3 (.int .i64)) .unit
abbrev h11:Sh:=.pair (.int .i64) h10
abbrev h12:Sh:=.sl 34 h11
abbrev h13:Sh:=.pair h12 .unit
abbrev h14:Sh:=.pair h9 h13
abbrev h15:Sh:=.pair (.int .i64) h11
abbrev h16:Sh:=.sl 99 h15
abbrev h17:Sh:=.pair h16 .unit
abbrev h18:Sh:=.pair h14 h17
abbrev h19:Sh:=.sl 60 h11
abbrev h20:Sh:=.pair (.int .i64) .unit
abbrev h21:Sh:=.pair (.int .i64) h20
abbrev h22:Sh:=.pair .bool h21
abbrev h23:Sh:=.pair h19 h22
abbrev h24:Sh:=.pair h19 h23
abbrev h25:Sh:=.sl 56 h24
abbrev h26:Sh:=.sl 51 h11
abbrev h27:Sh:=.pair (.sl 5 (.int .u8)) h21
abbrev h28:Sh:=.pair (.int .i64) h7
abbrev h29:Sh:=.sl 176 h28
abbrev h30:Sh:=.pair (.ptr h25) .unit
abbrev h31:Sh:=.pair (.ptr (.sl 3 (.int .i64))) h30
abbrev h32:Sh:=.pair (.ptr h12) h31
abbrev h33:Sh:=.pair (.ptr h11) .unit
abbrev h34:Sh:=.pair (.ptr h15) .unit
abbrev h35:Sh:=.pair (.ptr (.sl 3 (.int .i64))) .unit
abbrev h36:Sh:=.pair (.ptr h9) .unit
abbrev h37:Sh:=.pair (.ptr (.int .i64)) .unit
abbrev h38:Sh:=.tok (.int .i64) h10
abbrev h39:Sh:=.sl 34 h38
abbrev oF:O:=.own (.pr .z (.pr (.own .z) .z))
abbrev oI:O:=.pr (.own .z) (.pr oF .z)
abbrev oT:O:=.own (.pr .z (.pr .z (.pr (.own .z) .z)))
abbrev oS:O:=.pr oI (.pr oT .z)
abbrev oD:O:=.pr oF (.pr oF .z)
abbrev oE:O:=.own oD
noncomputable abbrev prog:Program:=Tryz.prog
noncomputable abbrev gZ (f:Nat) (us rs:List OV):Prop:=z1b prog f us rs us
def z0hj:List (Nat×Sh):=[(2,.int .i64),(3,.int .i64),(4,.bool),(5,.int .u8),(6,.int .u8),(9,.str),(10,.str),(11,.str),(12,.int .u64),(21,.int .i32),(22,.sl 5 (.int .u8)),(24,h9),(25,h12),(26,h14),(27,h14),(28,h16),(29,h18),(30,h18),(31,h25),(32,.sl 3 (.int .i64)),(33,h11),(34,h11),(44,h26),(50,h11),(51,h11),(54,h19),(55,h24),(56,h24),(59,h11),(60,h11),(61,.ptr h27),(76,.sl 32 (.sl 3 (.int .i64))),(98,h15),(99,h15),(105,.sl 44 h26),(106,h8),(107,h8),(140,h27),(141,h27),(170,.int .u64),(175,h28),(176,h28),(184,.int .i64),(191,.int .u32),(193,.int .u64),(200,h29),(208,.int .u64),(212,.ptr (.int .i64)),(218,.sl 4 .bool),(219,.ptr (.int .u64)),(230,.int .u8),(231,.int .u8),(233,.ptr (.int .u8)),(234,.int .i32),(235,.int .i32)]
def z0gu:List (Nat×List Sig):=[(4,[⟨[.z],[(.bool,.z)],[.z]⟩]),(5,[⟨[.z],[(.bool,.z)],[.z]⟩]),(9,[⟨[.z,.z,.z],[(.int .i64,.z)],[.z,.z,.z]⟩]),(10,[⟨[.z,.z],[(h14,.pr (.own .z) (.pr (.own .z) .z)),(.bool,.z)],[.z,.z]⟩]),(11,[⟨[.z,.z],[(.int .i64,.z)],[.z,.z]⟩]),(12,[⟨[.z,.z,.z],[(.int .i64,.z)],[.z,.z,.z]⟩]),(13,[⟨[.z],[(h18,.z),(h25,.z),(h11,.z)],[.z]⟩]),(14,[⟨[.z,.z,.z],[(h26,oF)],[.z,.z,.z]⟩]),(15,[⟨[.z,.z],[(.bool,.z)],[.z,.z]⟩]),(16,[⟨[.z,.z,.z],[(h26,.own .z)],[.z,.z,.z]⟩]),(17,[⟨[.z,.z],[(.bool,.z)],[.z,.z]⟩]),(18,[⟨[.z,.z],[(.bool,.z)],[.z,.z]⟩]),(19,[⟨[.z,.z,.z,.z],[(h18,oS),(.bool,.z)],[.z,.z,.z,.z]⟩]),(20,[⟨[.z,.z],[(.bool,.z)],[.z,.z]⟩]),(21,[⟨[.z,.z,.z],[(.bool,.z)],[.z,.z,.z]⟩]),(22,[⟨[.z,.z],[(h11,.pr .z (.pr (.own .z) .z)),(.bool,.z)],[.z,.z]⟩]),(23,[⟨[.z],[(.ptr h27,.own .z),(h18,.z),(h25,.z)],[.z]⟩]),(24,[⟨[.own .z,.z],[(h11,.z)],[.own .z,.z]⟩]),(25,[⟨[.z],[(h18,oS)],[.z]⟩]),(27,[⟨[.z],[(h18,oS)],[.z]⟩]),(28,[⟨[.z],[(.bool,.z)],[.z]⟩]),(29,[⟨[.z,.z],[(.bool,.z)],[.z,.z]⟩]),(30,[⟨[.z,.z],[(.bool,.z)],[.z,.z]⟩]),(31,[⟨[.z,.z],[(.sl 3 (.int .i64),.own .z)],[.z,.z]⟩]),(32,[⟨[.z,.z],[(.int .i64,.z)],[.z,.z]⟩]),(33,[⟨[.z],[(h14,oI)],[.z]⟩]),(34,[⟨[.z,.z],[(.int .i64,.z)],[.z,.z]⟩]),(35,[⟨[.z,.z],[(.int .i64,.z)],[.z,.z]⟩]),(36,[⟨[.z,.z],[(.bool,.z)],[.z,.z]⟩]),(37,[⟨[.z,.z],[(.bool,.z)],[.z,.z]⟩]),(38,[⟨[.z],[(.bool,.z)],[.z]⟩]),(39,[⟨[.z,.z],[(.bool,.z)],[.z,.z]⟩]),(40,[⟨[.z,.z],[(.sl 3 (.int .i64),.own .z)],[.z,.z]⟩]),(41,[⟨[.z,.z],[(.bool,.z)],[.z,.z]⟩]),(42,[⟨[.z,.z],[(.sl 32 (.sl 3 (.int .i64)),.own (.own .z))],[.z,.z]⟩]),(43,[⟨[.z,.z,.z,.own .z],[(h12,oF),(h16,.own .z)],[.z,.z,.z,.own .z]⟩,⟨[.z,.z,.z,.z],[(h12,oF),(h16,.own .z)],[.z,.z,.z,.z]⟩]),(44,[⟨[.z,.z],[(.bool,.z)],[.z,.z]⟩]),(45,[⟨[.z,.z],[(.sl 32 (.sl 3 (.int .i64)),.own .z)],[.z,.z]⟩]),(46,[⟨[.z,.z,.z,.z,.z],[(.bool,.z)],[.z,.z,.z,.z,.z]⟩]),(47,[⟨[.z,.z],[(.bool,.z)],[.z,.z]⟩]),(48,[⟨[.z,.z,.z],[(.bool,.z)],[.z,.z,.z]⟩]),(49,[⟨[.z],[(h12,oF)],[.z]⟩]),(50,[⟨[.z],[(.bool,.z)],[.z]⟩]),(51,[⟨[.z,.z],[(.bool,.z)],[.z,.z]⟩]),(52,[⟨[.z],[(.sl 3 (.int .i64),.own .z)],[.z]⟩]),(53,[⟨[.z,.z],[(h11,.pr .z (.pr (.own .z) .z)),(.bool,.z)],[.z,.z]⟩]),(54,[⟨[.z],[(.bool,.z)],[.z]⟩]),(55,[⟨[.z],[(.ptr h27,.own .z)],[.z]⟩]),(56,[⟨[.z],[(h18,oS),(.bool,.z)],[.z]⟩]),(57,[⟨[.own .z,.z],[(h14,oI)],[.own .z,.z]⟩]),(58,[⟨[.own .z],[(h25,.own .z)],[.own .z]⟩]),(59,[⟨[.z,.z],[(h18,.z),(.bool,.z)],[.z,.z]⟩]),(60,[⟨[.own .z,.z],[(.int .i64,.z)],[.own .z,.z]⟩]),(61,[⟨[.z,.z],[(h14,.z),(.bool,.z)],[.z,.z]⟩]),(62,[⟨[.own .z,.z,.z],[(h11,.pr .z (.pr (.own .z) .z))],[.own .z,.z,.z]⟩]),(63,[⟨[.own .z,.z],[(.bool,.z)],[.own .z,.z]⟩]),(64,[⟨[.own .z],[(h11,.pr .z (.pr (.own .z) .z))],[.own .z]⟩]),(65,[⟨[.z],[(h14,oI)],[.z]⟩]),(66,[⟨[.z],[(h15,.pr .z (.pr .z (.pr (.own .z) .z)))],[.z]⟩]),(69,[⟨[.z],[(.int .i64,.z),(.bool,.z)],[.z]⟩]),(70,[⟨[.z,.z,.z],[(.bool,.z)],[.z,.z,.z]⟩]),(71,[⟨[.z],[(.sl 3 (.int .i64),.z)],[.z]⟩]),(72,[⟨[.z],[(.bool,.z)],[.z]⟩]),(73,[⟨[.z,.z],[(.bool,.z)],[.z,.z]⟩]),(74,[⟨[.z,.z,.z,.z],[(.bool,.z)],[.z,.z,.z,.z]⟩]),(75,[⟨[.z],[(h11,.pr .z (.pr (.own .z) .z))],[.z]⟩]),(76,[⟨[.z,.z],[(.int .i64,.z)],[.z,.z]⟩]),(77,[⟨[.z],[(.int .i64,.z)],[.z]⟩]),(78,[⟨[.z],[(.bool,.z)],[.z]⟩]),(79,[⟨[.z,.z],[(.bool,.z)],[.z,.z]⟩]),(80,[⟨[.z,.z],[(.bool,.z)],[.z,.z]⟩]),(81,[⟨[.z],[(.bool,.z)],[.z]⟩]),(82,[⟨[.z],[(.sl 3 (.int .i64),.own .z)],[.z]⟩]),(83,[⟨[.z,.z],[(.bool,.z)],[.z,.z]⟩]),(84,[⟨[.z,.z,.z,.z],[(.bool,.z)],[.z,.z,.z,.z]⟩]),(85,[⟨[.z,.z,.z,.z],[(.bool,.z)],[.z,.z,.z,.z]⟩]),(86,[⟨[.z,.z],[(.bool,.z)],[.z,.z]⟩]),(87,[⟨[.z,.z],[(.bool,.z)],[.z,.z]⟩]),(88,[⟨[.z,.z],[(.bool,.z)],[.z,.z]⟩]),(89,[⟨[.z,.z,.own .z],[(.sl 32 (.sl 3 (.int .i64)),.own (.own .z))],[.z,.z,.dead]⟩]),(90,[⟨[],[(.sl 3 (.int .i64),.own .z)],[]⟩]),(91,[⟨[.z,.z],[(.bool,.z)],[.z,.z]⟩]),(92,[⟨[.z],[(.sl 3 (.int .i64),.own .z)],[.z]⟩]),(93,[⟨[.z],[(h16,.own .z)],[.z]⟩]),(94,[⟨[.z],[(.sl 3 (.int .i64),.own .z)],[.z]⟩]),(95,[⟨[.z,.z],[(.int .i64,.z)],[.z,.z]⟩]),(96,[⟨[.z],[(.int .i64,.z)],[.z]⟩]),(97,[⟨[.z,.z],[(.bool,.z)],[.z,.z]⟩]),(98,[⟨[.z,.z,.z,.z],[(.sl 32 (.sl 3 (.int .i64)),.own (.own .z))],[.z,.z,.z,.z]⟩]),(99,[⟨[],[(.sl 3 (.int .i64),.own .z)],[]⟩]),(100,[⟨[.z],[(.sl 3 (.int .i64),.own .z)],[.z]⟩]),(101,[⟨[.z],[(.sl 3 (.int .i64),.own .z)],[.z]⟩]),(102,[⟨[.z,.z],[(h18,.z),(.int .i64,.z),(.bool,.z)],[.z,.z]⟩]),(103,[⟨[.z,.z],[(.int .i64,.z)],[.z,.z]⟩]),(104,[⟨[.z],[(h12,oF)],[.z]⟩]),(105,[⟨[oF,.z],[],[oF,.z]⟩]),(106,[⟨[oF,.z],[(h12,oF)],[.dead,.z]⟩]),(107,[⟨[.z],[(.bool,.z)],[.z]⟩]),(108,[⟨[.z,.z],[(.bool,.z)],[.z,.z]⟩]),(109,[⟨[.z],[(.sl 3 (.int .i64),.own .z)],[.z]⟩]),(110,[⟨[.z,.z,.z],[(.bool,.z)],[.z,.z,.z]⟩]),(111,[⟨[.z,.z],[(.bool,.z)],[.z,.z]⟩]),(112,[⟨[.z,.z],[(.bool,.z)],[.z,.z]⟩]),(113,[⟨[.own .z],[],[.own .z]⟩]),(114,[⟨[.own .z],[(.sl 3 (.int .i64),.own .z)],[.dead]⟩]),(115,[⟨[.z],[(.bool,.z)],[.z]⟩]),(116,[⟨[.z],[(.bool,.z)],[.z]⟩]),(117,[⟨[],[(h9,.own .z)],[]⟩]),(118,[⟨[.z,.z],[(h14,.z)],[.z,.z]⟩]),(119,[⟨[.own .z],[(h24,oD)],[.own .z]⟩]),(120,[⟨[.z,.z],[(.bool,.z)],[.z,.z]⟩]),(121,[⟨[.z,.z,.z,.z],[(h18,.z),(.bool,.z)],[.z,.z,.z,.z]⟩]),(122,[⟨[.own .z],[(.int .i64,.z)],[.own .z]⟩]),(123,[⟨[.own .z,.z],[(.int .i64,.z)],[.own .z,.z]⟩]),(124,[⟨[.own .z,.z],[(.int .i64,.z)],[.own .z,.z]⟩]),(125,[⟨[.z],[(h9,.own .z)],[.z]⟩]),(126,[⟨[.z],[(.sl 3 (.int .i64),.z)],[.z]⟩]),(127,[⟨[.z,.z],[(.sl 3 (.int .i64),.z)],[.z,.z]⟩]),(128,[⟨[.z,.z],[(.bool,.z)],[.z,.z]⟩]),(129,[⟨[.z],[(.bool,.z)],[.z]⟩]),(130,[⟨[.z,.z],[(.bool,.z)],[.z,.z]⟩]),(131,[⟨[.z],[(.int .i64,.z)],[.z]⟩]),(132,[⟨[.z,.z],[(.int .i64,.z)],[.z,.z]⟩]),(133,[⟨[.z,.z],[(.int .i64,.z)],[.z,.z]⟩]),(134,[⟨[.z],[(.sl 3 (.int .i64),.own .z)],[.z]⟩]),(135,[⟨[.z,.z],[(.bool,.z)],[.z,.z]⟩]),(136,[⟨[.z,.z],[(.bool,.z)],[.z,.z]⟩]),(137,[⟨[.z],[(.sl 3 (.int .i64),.own .z)],[.z]⟩]),(138,[⟨[.z],[(.bool,.z)],[.z]⟩]),(139,[⟨[.z,.z],[(.bool,.z)],[.z,.z]⟩]),(140,[⟨[.z,.z],[(.int .i64,.z)],[.z,.z]⟩]),(141,[⟨[.z,.z],[(.int .i64,.z)],[.z,.z]⟩]),(142,[⟨[.z,.z,.z],[(.int .i64,.z),(.bool,.z)],[.z,.z,.z]⟩]),(143,[⟨[.z,.z,.z],[(.sl 3 (.int .i64),.own .z),(.bool,.z)],[.z,.z,.z]⟩]),(144,[⟨[.z,.z],[(.sl 3 (.int .i64),.own .z)],[.z,.z]⟩]),(145,[⟨[.z,.z],[(.bool,.z)],[.z,.z]⟩]),(146,[⟨[.z,.z],[(.bool,.z)],[.z,.z]⟩]),(147,[⟨[.z,.z],[(.bool,.z)],[.z,.z]⟩]),(148,[⟨[.z,.z],[(.sl 3 (.int .i64),.own .z)],[.z,.z]⟩]),(149,[⟨[.z,.z],[(.int .i64,.z)],[.z,.z]⟩]),(150,[⟨[.z,.z],[(.bool,.z)],[.z,.z]⟩]),(151,[⟨[.z,.z],[(.bool,.z)],[.z,.z]⟩]),(152,[⟨[.z,.z,.z],[(.sl 3 (.int .i64),.own .z),(.bool,.z)],[.z,.z,.z]⟩]),(153,[⟨[],[(.int .i64,.z)],[]⟩]),(154,[⟨[oF],[(.sl 3 (.int .i64),.z)],[oF]⟩,⟨[.z],[(.sl 3 (.int .i64),.z)],[.z]⟩]),(155,[⟨[.z,.z],[(.bool,.z)],[.z,.z]⟩]),(156,[⟨[.z],[(.int .i64,.z)],[.z]⟩]),(157,[⟨[.z,.z],[(.int .i64,.z)],[.z,.z]⟩]),(158,[⟨[.z],[(h11,.pr .z (.pr (.own .z) .z))],[.z]⟩]),(161,[⟨[.z],[(.bool,.z)],[.z]⟩]),(162,[⟨[.z],[(.bool,.z)],[.z]⟩]),(163,[⟨[.z],[(.sl 3 (.int .i64),.own .z)],[.z]⟩]),(164,[⟨[.z,.z],[(.bool,.z)],[.z,.z]⟩]),(165,[⟨[.z,.z],[(.bool,.z)],[.z,.z]⟩]),(166,[⟨[.z,.z],[(.int .i64,.z)],[.z,.z]⟩]),(168,[⟨[.own .z],[(h24,oD)],[.own .z]⟩]),(169,[⟨[.own .z,.z,.z],[(h11,.pr .z (.pr (.own .z) .z))],[.own .z,.z,.z]⟩]),(170,[⟨[.z,.z],[(h28,.z),(.bool,.z)],[.z,.z]⟩]),(171,[⟨[.z],[(.bool,.z)],[.z]⟩]),(172,[⟨[.z],[(.bool,.z)],[.z]⟩]),(173,[⟨[.z,.z],[(.bool,.z)],[.z,.z]⟩]),(174,[⟨[.z],[(.int .i64,.z),(.bool,.z)],[.z]⟩]),(175,[⟨[.z,.z],[(.int .i64,.z)],[.z,.z]⟩]),(176,[⟨[.z,.z],[(.int .u64,.z),(.int .u64,.z)],[.z,.z]⟩]),(177,[⟨[.z,.z],[(.int .i64,.z)],[.z,.z]⟩]),(188,[⟨[.z],[(.bool,.z)],[.z]⟩]),(198,[⟨[.z,.z],[(h29,.own .z)],[.z,.z]⟩]),(199,[⟨[.z,.z,.z,.z],[(.bool,.z)],[.z,.z,.z,.z]⟩]),(200,[⟨[.z],[(.int .i64,.z)],[.z]⟩]),(202,[⟨[.z,.z],[(.int .u64,.z),(.int .u64,.z)],[.z,.z]⟩]),(211,[⟨[.z,.z,.z],[(.sl 3 (.int .i64),.own .z)],[.z,.z,.z]⟩]),(212,[⟨[.own .z,.z],[(h29,.own .z)],[.dead,.z]⟩]),(215,[⟨[.z,.z,.z],[(.int .i64,.z)],[.z,.z,.z]⟩])]
def z0h0:List (Nat×List (Option Sh)):=[(4,[some (.sl 5 (.int .u8))]),(5,[some (.sl 5 (.int .u8))]),(9,[some (h18),some (h25),some (h11)]),(10,[some (h14),some (h11)]),(11,[some (h11),some (h11)]),(12,[some (h18),some (h25),some (h11)]),(13,[some (.sl 5 (.int .u8))]),(14,[some (h18),some (h25),some (h11)]),(15,[some (h26),some (h26)]),(16,[some (h18),some (h25),some (h11)]),(17,[some (h18),some (h25)]),(18,[some (h18),some (h25)]),(19,[some (h18),some (h25),some (.int .i64),some (.sl 3 (.int .i64))]),(20,[some (h14),some (h11)]),(21,[some (h14),some (h24),some (.sl 3 (.int .i64))]),(22,[some (h11),some (.sl 3 (.int .i64))]),(23,[some (.sl 5 (.int .u8))]),(24,[some (.ptr h27),some (h18)]),(25,[some (h18)]),(27,[some (h18)]),(28,[some (h18)]),(29,[some (h9),some (h25)]),(30,[some (h14),some (h11)]),(31,[some (h18),some (h25)]),(32,[some (h14),some (h11)]),(33,[some (h14)]),(34,[some (.sl 3 (.int .i64)),some (.sl 3 (.int .i64))]),(35,[some (h12),none]),(36,[some (h11)]),(37,[some (h11),some (h11)]),(38,[some (h18)]),(39,[some (h9),some (h25)]),(40,[some (h18),some (h25)]),(41,[some (h12),some (h11)]),(42,[some (h14),some (h19)]),(43,[some (h16),some (h25),some (.int .i64),some (.sl 3 (.int .i64))]),(44,[some (.sl 3 (.int .i64)),some (.sl 3 (.int .i64))]),(45,[some (h14),some (h19)]),(46,[some (h18),some (h25),some (.int .i64),some (.sl 3 (.int .i64)),some (h11)]),(47,[some (.sl 3 (.int .i64)),some (.int .i64)]),(48,[some (.int .i64),some (.int .i64),some (.int .i64)]),(49,[some (h12)]),(50,[some (h14)]),(51,[some (h9),some (h24)]),(52,[some (h19)]),(53,[some (h11),some (.sl 3 (.int .i64))]),(54,[some (.int .i64)]),(55,[some (.sl 5 (.int .u8))]),(56,[some (h14)]),(57,[some (.ptr h27),some (.int .i64)]),(58,[some (.ptr h27)]),(59,[some (h18),some (h25)]),(60,[some (.ptr h27),some (.int .i64)]),(61,[some (h14),some (h11)]),(62,[some (.ptr h27),some (.int .i64),some (.int .i64)]),(63,[some (.ptr h27),some (.int .i64)]),(64,[some (.ptr h27)]),(65,[some (h14)]),(66,[some (h15)]),(69,[some (.int .i64)]),(70,[some (.int .i64),some (.int .i64),some (.int .i64)]),(71,[some (h14)]),(72,[some (h14)]),(73,[some (h9),some (h25)]),(74,[some (h18),some (h25),some (h11),some (.sl 3 (.int .i64))]),(75,[some (h11)]),(76,[some (h11),some (h11)]),(77,[some (h14)]),(78,[some (h16)]),(79,[some (h9),some (h25)]),(80,[some (h25),none]),(81,[some (h24)]),(82,[some (.sl 3 (.int .i64))]),(83,[some (h26),none]),(84,[some (h11)]),(85,[some (h12),some (.sl 3 (.int .i64)),some (h25),some (h11)]),(86,[some (h12),none]),(87,[some (h11)]),(88,[some (h14),some (h19)]),(89,[some (h12),some (h19),some (.sl 3 (.int .i64))]),(90,[]),(91,[some (.sl 32 (.sl 3 (.int .i64))),some (.sl 3 (.int .i64))]),(92,[some (h24)]),(93,[some (h16)]),(94,[some (h24)]),(95,[some (h16),some (h15)]),(96,[some (.int .i64)]),(97,[some (h14),some (h19)]),(98,[some (h14),some (h19),some (.int .i64),some (.sl 3 (.int .i64))]),(99,[]),(100,[some (h24)]),(101,[some (h24)]),(102,[some (h18),some (h15)]),(103,[some (.sl 3 (.int .i64)),some (.int .i64)]),(104,[some (h12)]),(105,[some (h12),none]),(106,[some (h12),none]),(107,[some (h9)]),(108,[some (h9),some (h11)]),(109,[some (h11)]),(110,[some (h9),some (h19),some (.int .i64)]),(111,[some (h19),none]),(112,[some (h11)]),(113,[some (.sl 3 (.int .i64))]),(114,[some (.sl 3 (.int .i64))]),(115,[some (.int .i64)]),(116,[some (h14)]),(117,[]),(118,[some (h14),some (h11)]),(119,[some (.ptr h27)]),(120,[some (h9),some (h25)]),(121,[some (h18),some (h25),some (.int .i64),some (.sl 3 (.int .i64))]),(122,[some (.ptr h27)]),(123,[some (.ptr h27),some (.int .i64)]),(124,[some (.ptr h27),some (.sl 3 (.int .i64))]),(125,[some (h9)]),(126,[some (h11)]),(127,[some (.sl 3 (.int .i64)),some (.int .i64)]),(128,[some (h9),some (h11)]),(129,[some (h9)]),(130,[some (h9),some (h24)]),(131,[some (.sl 3 (.int .i64))]),(132,[some (.int .i64),some (.int .i64)]),(133,[some (.sl 3 (.int .i64)),some (.sl 3 (.int .i64))]),(134,[some (h14)]),(135,[some (h15),some (.int .i64)]),(136,[some (.sl 3 (.int .i64)),none]),(137,[some (h16)]),(138,[some (.int .i64)]),(139,[some (h24)]),(140,[some (h25),none]),(141,[some (h26),none]),(142,[some (h12),some (h11),none]),(143,[some (.sl 3 (.int .i64)),some (h11),some (h11)]),(144,[some (.sl 3 (.int .i64)),some (.int .i64)]),(145,[some (.sl 32 (.sl 3 (.int .i64))),none]),(146,[some (.sl 3 (.int .i64))]),(147,[some (.sl 3 (.int .i64)),some (.sl 3 (.int .i64))]),(148,[some (h24),some (.bool)]),(149,[some (h16),none]),(150,[some (h15)]),(151,[some (h9),some (h11)]),(152,[some (h11),some (h11),some (.sl 3 (.int .i64))]),(153,[]),(154,[some (h19)]),(155,[some (.sl 3 (.int .i64)),some (.int .i64)]),(156,[some (.int .i64)]),(157,[some (h18),some (h15)]),(158,[some (h11)]),(161,[some (h8)]),(162,[some (.int .i64)]),(163,[some (.sl 3 (.int .i64))]),(164,[some (h11)]),(165,[some (h9),some (h11)]),(166,[some (h19),none]),(168,[some (.ptr h27)]),(169,[some (.ptr h27),some (.int .i64),some (.int .i64)]),(170,[some (h9),some (h25)]),(171,[some (h8)]),(172,[some (.int .i64)]),(173,[some (.int .i64)]),(174,[some (.int .i64)]),(175,[some (.sl 3 (.int .i64)),none]),(176,[some (.int .u64),some (.int .u64)]),(177,[some (.sl 32 (.sl 3 (.int .i64))),none]),(188,[some (.int .i64)]),(198,[some (h9),some (h25)]),(199,[some (.int .i64),some (h29),some (.int .i64),some (.int .i64)]),(200,[some (h9)]),(202,[some (.int .u64),some (.int .u64)]),(211,[some (h9),some (h19),some (.int .i64)]),(212,[some (h29),some (h28)]),(215,[some (h9),some (.int .i64),some (.int .i64)])]
noncomputable def E:Env:={ sh:=fun t=>z0d t z0hj,sigs:=fun f=>(z0d f z0gu).getD [],params:=fun f=>(z0d f z0h0).getD [],gives:=z1b prog }
theorem zjj:∀ t s,E.sh t=some s->ShOk prog s none t:=z0dy (by kernel_rfl)
theorem mixed:prog.follows .mixedOrders=true:=by kernel_rfl
abbrev nL:Nat->Option Loop:=fun i=>z0d i []
abbrev nP:Nat->Option Pl:=fun i=>z0d i []
theorem fg {L : Nat -> Option Loop} {pl : Nat -> Option Pl} {f : FuncId} {fn : Func} {g : Sig} {us : List OV} {m : List (Sh × O)} {val : resD (outD m) g.res} {Q : Prop} (hf : prog.funcs[f]? = some fn) (h : Q) (hn : (fn.name == "runtime.NumGoroutine") = false := by kernel_rfl) (ho : g.outs = m.map (·.2) := by rfl) (hu : zk4 us m = true := by rfl) (e : fnV E L pl fn g us (ansK g.res m fun r => r = val) = Q := by kernel_rfl) : z1b prog f us (encR g.res val).1 (encO us m (encR g.res val).2) := zpx zjj (fun _ _ _ _ h => h) mixed hf hn rfl ho hu (Eq.mpr e h)
theorem fz {L : Nat -> Option Loop} {pl : Nat -> Option Pl} {f : FuncId} {fn : Func} {us : List OV} {l m : List (Sh × O)} {val : resD (outD m) l} {Q : Prop} (hf : prog.funcs[f]? = some fn) (h : Q) (hn : (fn.name == "runtime.NumGoroutine") = false := by kernel_rfl) (hu : zk4 us m = true := by rfl) (e : fnV E L pl fn ⟨m.map (·.2), l, m.map (·.2)⟩ us (ansK l m fun r => r = val) = Q := by kernel_rfl) : z1b prog f us (encR l val).1 (encO us m (encR l val).2) := zpx zjj (fun _ _ _ _ h => h) mixed hf hn rfl rfl hu (Eq.mpr e h)
theorem fy {f : FuncId} {fn : Func} {us : List OV} {l m : List (Sh × O)} {val : resD (outD m) l} {Q : Prop} (hf : prog.funcs[f]? = some fn) (h : Q) (hn : (fn.name == "runtime.NumGoroutine") = false := by kernel_rfl) (hu : zk4 us m = true := by rfl) (e : fnV E nL nP fn ⟨m.map (·.2), l, m.map (·.2)⟩ us (ansK l m fun r => r = val) = Q := by kernel_rfl) : z1b prog f us (encR l val).1 (encO us m (encR l val).2) := zpx zjj (fun _ _ _ _ h => h) mixed hf hn rfl rfl hu (Eq.mpr e h)
def z5c:List (Nat×Sh):=[(3,.int .i64),(4,.bool),(25,h39),(34,h38)]
def z4q:List (Nat×List Sig):=[(37,[⟨[.z,.z],[(.bool,.z)],[.z,.z]⟩]),(106,[⟨[.own .z,.z],[(h39,.own .z)],[.dead,.z]⟩])]
def z4t:List (Nat×List (Option Sh)):=[(37,[some (h38),some (h38)]),(106,[some (h39),none])]
noncomputable def E_slices_CompactFunc_Fact_tok_c_isameFact:Env:={ sh:=fun t=>z0d t z5c,sigs:=fun f=>(z0d f z4q).getD [],params:=fun f=>(z0d f z4t).getD [],gives:=z1b prog }
theorem z5a:∀ t s,E_slices_CompactFunc_Fact_tok_c_isameFact.sh t=some s->ShOk prog s none t:=z0dy (by kernel_rfl)
theorem z6g {L : Nat -> Option Loop} {pl : Nat -> Option Pl} {f : FuncId} {fn : Func} {g : Sig} {us : List OV} {m : List (Sh × O)} {val : resD (outD m) g.res} {Q : Prop} (hf : prog.funcs[f]? = some fn) (h : Q) (hn : (fn.name == "runtime.NumGoroutine") = false := by kernel_rfl) (ho : g.outs = m.map (·.2) := by rfl) (hu : zk4 us m = true := by rfl) (e : fnV E_slices_CompactFunc_Fact_tok_c_isameFact L pl fn g us (ansK g.res m fun r => r = val) = Q := by kernel_rfl) : z1b prog f us (encR g.res val).1 (encO us m (encR g.res val).2) := zpx z5a (fun _ _ _ _ h => h) mixed hf hn rfl ho hu (Eq.mpr e h)
def zhb (x0:List Int) (y0:Bool):Prop:=gZ 4 [⟨.sl 5 (.int .u8),.z,x0⟩] [⟨.bool,.z,y0⟩]
def z6z (x0:TSk) (x1:List z0b) (x2:z00) (y0:Int):Prop:=gZ 12 [⟨h18,.z,x0⟩,⟨h25,.z,x1⟩,⟨h11,.z,x2⟩] [⟨.int .i64,.z,y0⟩]
def zmd (x0:TSk) (x1:List z0b) (y0:List Int):Prop:=gZ 40 [⟨h18,.z,x0⟩,⟨h25,.z,x1⟩] [⟨.sl 3 (.int .i64),.own .z,y0⟩]
def z1k (x0:List z00) (x1:List z00×List Int×List z0b×Unit) (y0:Bool):Prop:=gZ 83 [⟨h26,.z,x0⟩,⟨.fn 84 h32,.z,x1⟩] [⟨.bool,.z,y0⟩]
def z1x (x0:List z00) (x1:List z00×List Int×List z0b×Unit) (y0:Int):Prop:=gZ 141 [⟨h26,.z,x0⟩,⟨.fn 84 h32,.z,x1⟩] [⟨.int .i64,.z,y0⟩]
def zdg (x0:z00) (x1:List z00) (x2:List Int) (x3:List z0b) (y0:Bool):Prop:=gZ 84 [⟨h11,.z,x0⟩,⟨.ptr h12,.z,x1⟩,⟨.ptr (.sl 3 (.int .i64)),.z,x2⟩,⟨.ptr h25,.z,x3⟩] [⟨.bool,.z,y0⟩]
def zit (x0:List z00) (x1:List Int) (x2:List z0b) (x3:z00) (y0:Bool):Prop:=gZ 85 [⟨h12,.z,x0⟩,⟨.sl 3 (.int .i64),.z,x1⟩,⟨h25,.z,x2⟩,⟨h11,.z,x3⟩] [⟨.bool,.z,y0⟩]
def z17 (x0:List z00) (x1:z00) (x2:Unit) (y0:Int) (y1:Bool):Prop:=gZ 142 [⟨h12,.z,x0⟩,⟨h11,.z,x1⟩,⟨.fn 76 .unit,.z,x2⟩] [⟨.int .i64,.z,y0⟩,⟨.bool,.z,y1⟩]
def z4a (x0:z00) (x1:z00) (y0:Int):Prop:=gZ 76 [⟨h11,.z,x0⟩,⟨h11,.z,x1⟩] [⟨.int .i64,.z,y0⟩]
def zi8 (x0:List Int) (y0:Int):Prop:=gZ 131 [⟨.sl 3 (.int .i64),.z,x0⟩] [⟨.int .i64,.z,y0⟩]
def z8i (x0:List Int) (x1:List Int) (y0:Int):Prop:=gZ 133 [⟨.sl 3 (.int .i64),.z,x0⟩,⟨.sl 3 (.int .i64),.z,x1⟩] [⟨.int .i64,.z,y0⟩]
def z86 (x0:Int) (x1:Int) (y0:Int):Prop:=gZ 132 [⟨.int .i64,.z,x0⟩,⟨.int .i64,.z,x1⟩] [⟨.int .i64,.z,y0⟩]
def za7 (x0:Int) (y0:Bool):Prop:=gZ 172 [⟨.int .i64,.z,x0⟩] [⟨.bool,.z,y0⟩]
def z6q (x0:z00) (x1:List Int) (y0:z00) (y1:Bool):Prop:=gZ 53 [⟨h11,.z,x0⟩,⟨.sl 3 (.int .i64),.z,x1⟩] [⟨h11,.pr .z (.pr (.own .z) .z),y0⟩,⟨.bool,.z,y1⟩]
def z5j (x0:Int) (y0:Bool):Prop:=gZ 115 [⟨.int .i64,.z,x0⟩] [⟨.bool,.z,y0⟩]
def z69 (x0:Int) (x1:Int) (x2:Int) (y0:Bool):Prop:=gZ 48 [⟨.int .i64,.z,x0⟩,⟨.int .i64,.z,x1⟩,⟨.int .i64,.z,x2⟩] [⟨.bool,.z,y0⟩]
def z1d (x0:List Int) (y0:List Int):Prop:=gZ 82 [⟨.sl 3 (.int .i64),.z,x0⟩] [⟨.sl 3 (.int .i64),.own .z,y0⟩]
def zb1 (x0:TSk) (x1:List z0b) (x2:z00) (y0:List z00):Prop:=gZ 14 [⟨h18,.z,x0⟩,⟨h25,.z,x1⟩,⟨h11,.z,x2⟩] [⟨h26,oF,y0⟩]
def zco (x0:List z00) (x1:z00) (y0:Bool):Prop:=gZ 41 [⟨h12,.z,x0⟩,⟨h11,.z,x1⟩] [⟨.bool,.z,y0⟩]
def z27 (x0:List z00) (x1:z00×Unit) (y0:Bool):Prop:=gZ 86 [⟨h12,.z,x0⟩,⟨.fn 87 h33,.z,x1⟩] [⟨.bool,.z,y0⟩]
def z2i (x0:List z00) (x1:z00×Unit) (y0:Int):Prop:=gZ 35 [⟨h12,.z,x0⟩,⟨.fn 87 h33,.z,x1⟩] [⟨.int .i64,.z,y0⟩]
def zb8 (x0:z00) (x1:z00) (y0:Bool):Prop:=gZ 87 [⟨h11,.z,x0⟩,⟨.ptr h11,.z,x1⟩] [⟨.bool,.z,y0⟩]
def zd0 (x0:z00) (x1:z00) (y0:Bool):Prop:=gZ 37 [⟨h11,.z,x0⟩,⟨h11,.z,x1⟩] [⟨.bool,.z,y0⟩]
def zc1 (x0:List z08) (x1:List z0b) (x2:Int) (x3:List Int) (y0:List z00) (y1:List z08) (z3:List Int):Prop:=z1b prog 43 [⟨h16,.z,x0⟩,⟨h25,.z,x1⟩,⟨.int .i64,.z,x2⟩,⟨.sl 3 (.int .i64),.own .z,x3⟩] [⟨h12,oF,y0⟩,⟨h16,.own .z,y1⟩] [⟨h16,.z,x0⟩,⟨h25,.z,x1⟩,⟨.int .i64,.z,x2⟩,⟨.sl 3 (.int .i64),.own .z,z3⟩]
def z9f (x0:Int) (y0:Int):Prop:=gZ 96 [⟨.int .i64,.z,x0⟩] [⟨.int .i64,.z,y0⟩]
def zia (x0:List z08) (x1:z08) (y0:Int):Prop:=gZ 95 [⟨h16,.z,x0⟩,⟨h15,.z,x1⟩] [⟨.int .i64,.z,y0⟩]
def z1v (x0:List z08) (x1:z08×Unit) (y0:Int):Prop:=gZ 149 [⟨h16,.z,x0⟩,⟨.fn 150 h34,.z,x1⟩] [⟨.int .i64,.z,y0⟩]
def zd1 (x0:z08) (x1:z08) (y0:Bool):Prop:=gZ 150 [⟨h15,.z,x0⟩,⟨.ptr h15,.z,x1⟩] [⟨.bool,.z,y0⟩]
def z6y (x0:List Int) (x1:List Int) (y0:Bool):Prop:=gZ 147 [⟨.sl 3 (.int .i64),.z,x0⟩,⟨.sl 3 (.int .i64),.z,x1⟩] [⟨.bool,.z,y0⟩]
def z3z (x0:z0b) (y0:List Int):Prop:=gZ 94 [⟨h24,.z,x0⟩] [⟨.sl 3 (.int .i64),.own .z,y0⟩]
def z97 (x0:z0b) (x1:Bool) (y0:List Int):Prop:=gZ 148 [⟨h24,.z,x0⟩,⟨.bool,.z,x1⟩] [⟨.sl 3 (.int .i64),.own .z,y0⟩]
def z20 (x0:List Int) (x1:Int) (y0:Bool):Prop:=gZ 47 [⟨.sl 3 (.int .i64),.z,x0⟩,⟨.int .i64,.z,x1⟩] [⟨.bool,.z,y0⟩]
def z9m (x0:List Int) (x1:Int) (y0:Int):Prop:=gZ 103 [⟨.sl 3 (.int .i64),.z,x0⟩,⟨.int .i64,.z,x1⟩] [⟨.int .i64,.z,y0⟩]
def z9e (x0:List z00) (y0:List Int):Prop:=gZ 52 [⟨h19,.z,x0⟩] [⟨.sl 3 (.int .i64),.own .z,y0⟩]
def z3r (x0:List Int) (y0:List Int):Prop:=z1b prog 114 [⟨.sl 3 (.int .i64),.own .z,x0⟩] [⟨.sl 3 (.int .i64),.own .z,y0⟩] [⟨.sl 3 (.int .i64),.dead,x0⟩]
def z4l (x0:List Int) (z0:List Int):Prop:=z1b prog 113 [⟨.sl 3 (.int .i64),.own .z,x0⟩] [] [⟨.sl 3 (.int .i64),.own .z,z0⟩]
def z3f (x0:List z08) (y0:List z08):Prop:=gZ 93 [⟨h16,.z,x0⟩] [⟨h16,.own .z,y0⟩]
def z52 (x0:z0b) (y0:List Int):Prop:=gZ 92 [⟨h24,.z,x0⟩] [⟨.sl 3 (.int .i64),.own .z,y0⟩]
def zey (x0:z0e) (x1:List z00) (y0:List (List Int)):Prop:=gZ 42 [⟨h14,.z,x0⟩,⟨h19,.z,x1⟩] [⟨.sl 32 (.sl 3 (.int .i64)),.own (.own .z),y0⟩]
def zgd (x0:List (List Int)) (x1:List Int) (y0:Bool):Prop:=gZ 91 [⟨.sl 32 (.sl 3 (.int .i64)),.z,x0⟩,⟨.sl 3 (.int .i64),.z,x1⟩] [⟨.bool,.z,y0⟩]
def z1o (x0:List (List Int)) (x1:TUf) (y0:Bool):Prop:=gZ 145 [⟨.sl 32 (.sl 3 (.int .i64)),.z,x0⟩,⟨.fn 146 h35,.z,x1⟩] [⟨.bool,.z,y0⟩]
def z26 (x0:List (List Int)) (x1:TUf) (y0:Int):Prop:=gZ 177 [⟨.sl 32 (.sl 3 (.int .i64)),.z,x0⟩,⟨.fn 146 h35,.z,x1⟩] [⟨.int .i64,.z,y0⟩]
def z7y (x0:List Int) (x1:List Int) (y0:Bool):Prop:=gZ 146 [⟨.sl 3 (.int .i64),.z,x0⟩,⟨.ptr (.sl 3 (.int .i64)),.z,x1⟩] [⟨.bool,.z,y0⟩]
def zjh (x0:List z00) (x1:List z00) (x2:List Int) (y0:List (List Int)):Prop:=z1b prog 89 [⟨h12,.z,x0⟩,⟨h19,.z,x1⟩,⟨.sl 3 (.int .i64),.own .z,x2⟩] [⟨.sl 32 (.sl 3 (.int .i64)),.own (.own .z),y0⟩] [⟨h12,.z,x0⟩,⟨h19,.z,x1⟩,⟨.sl 3 (.int .i64),.dead,x2⟩]
def z01n (x0:List Int) (x1:z00) (x2:z00) (y0:List Int) (y1:Bool):Prop:=gZ 143 [⟨.sl 3 (.int .i64),.z,x0⟩,⟨h11,.z,x1⟩,⟨h11,.z,x2⟩] [⟨.sl 3 (.int .i64),.own .z,y0⟩,⟨.bool,.z,y1⟩]
def zat  (y0:List Int):Prop:=gZ 90 [] [⟨.sl 3 (.int .i64),.own .z,y0⟩]
def z9a (x0:List Int) (x1:Int) (y0:List Int):Prop:=gZ 144 [⟨.sl 3 (.int .i64),.z,x0⟩,⟨.int .i64,.z,x1⟩] [⟨.sl 3 (.int .i64),.own .z,y0⟩]
def zhz (x0:Int) (x1:Int) (y0:Int) (y1:Int):Prop:=gZ 176 [⟨.int .u64,.z,x0⟩,⟨.int .u64,.z,x1⟩] [⟨.int .u64,.z,y0⟩,⟨.int .u64,.z,y1⟩]
def zax (x0:Int) (x1:Int) (y0:Int) (y1:Int):Prop:=gZ 202 [⟨.int .u64,.z,x0⟩,⟨.int .u64,.z,x1⟩] [⟨.int .u64,.z,y0⟩,⟨.int .u64,.z,y1⟩]
def zd8 (x0:z0e) (x1:List z00) (y0:Bool):Prop:=gZ 88 [⟨h14,.z,x0⟩,⟨h19,.z,x1⟩] [⟨.bool,.z,y0⟩]
def zd6 (x0:List z0s) (x1:List z00) (x2:Int) (y0:Bool):Prop:=gZ 110 [⟨h9,.z,x0⟩,⟨h19,.z,x1⟩,⟨.int .i64,.z,x2⟩] [⟨.bool,.z,y0⟩]
def z1w (x0:List z00) (x1:List z0s×Unit) (y0:Bool):Prop:=gZ 111 [⟨h19,.z,x0⟩,⟨.fn 164 h36,.z,x1⟩] [⟨.bool,.z,y0⟩]
def z2d (x0:List z00) (x1:List z0s×Unit) (y0:Int):Prop:=gZ 166 [⟨h19,.z,x0⟩,⟨.fn 164 h36,.z,x1⟩] [⟨.int .i64,.z,y0⟩]
def z83 (x0:z00) (x1:List z0s) (y0:Bool):Prop:=gZ 164 [⟨h11,.z,x0⟩,⟨.ptr h9,.z,x1⟩] [⟨.bool,.z,y0⟩]
def zem (x0:List z0s) (x1:z00) (y0:Bool):Prop:=gZ 165 [⟨h9,.z,x0⟩,⟨h11,.z,x1⟩] [⟨.bool,.z,y0⟩]
def z1p (x0:List Int) (x1:Unit) (y0:Bool):Prop:=gZ 136 [⟨.sl 3 (.int .i64),.z,x0⟩,⟨.fn 188 .unit,.z,x1⟩] [⟨.bool,.z,y0⟩]
def z1y (x0:List Int) (x1:Unit) (y0:Int):Prop:=gZ 175 [⟨.sl 3 (.int .i64),.z,x0⟩,⟨.fn 188 .unit,.z,x1⟩] [⟨.int .i64,.z,y0⟩]
def z4f (x0:Int) (y0:Bool):Prop:=gZ 188 [⟨.int .i64,.z,x0⟩] [⟨.bool,.z,y0⟩]
def z31 (x0:List z0s) (y0:Bool):Prop:=gZ 107 [⟨h9,.z,x0⟩] [⟨.bool,.z,y0⟩]
def z9y (x0:z0s) (y0:Bool):Prop:=gZ 161 [⟨h8,.z,x0⟩] [⟨.bool,.z,y0⟩]
def z3s (x0:z0e) (y0:Bool):Prop:=gZ 50 [⟨h14,.z,x0⟩] [⟨.bool,.z,y0⟩]
def z8p (x0:z00) (y0:List Int):Prop:=gZ 109 [⟨h11,.z,x0⟩] [⟨.sl 3 (.int .i64),.own .z,y0⟩]
def zf8 (x0:List Int) (y0:List Int):Prop:=gZ 163 [⟨.sl 3 (.int .i64),.z,x0⟩] [⟨.sl 3 (.int .i64),.own .z,y0⟩]
def z87 (x0:Int) (y0:Int) (y1:Bool):Prop:=gZ 174 [⟨.int .i64,.z,x0⟩] [⟨.int .i64,.z,y0⟩,⟨.bool,.z,y1⟩]
def zes (x0:List z0s) (x1:z00) (y0:Bool):Prop:=gZ 108 [⟨h9,.z,x0⟩,⟨h11,.z,x1⟩] [⟨.bool,.z,y0⟩]
def z1q (x0:List Int) (x1:Unit) (y0:Bool):Prop:=gZ 136 [⟨.sl 3 (.int .i64),.z,x0⟩,⟨.fn 162 .unit,.z,x1⟩] [⟨.bool,.z,y0⟩]
def z21 (x0:List Int) (x1:Unit) (y0:Int):Prop:=gZ 175 [⟨.sl 3 (.int .i64),.z,x0⟩,⟨.fn 162 .unit,.z,x1⟩] [⟨.int .i64,.z,y0⟩]
def z4g (x0:Int) (y0:Bool):Prop:=gZ 162 [⟨.int .i64,.z,x0⟩] [⟨.bool,.z,y0⟩]
def zaw (x0:List z0s) (x1:List z0b) (y0:Bool):Prop:=gZ 39 [⟨h9,.z,x0⟩,⟨h25,.z,x1⟩] [⟨.bool,.z,y0⟩]
def z19 (x0:List z0b) (x1:Unit) (y0:Bool):Prop:=gZ 80 [⟨h25,.z,x0⟩,⟨.fn 81 .unit,.z,x1⟩] [⟨.bool,.z,y0⟩]
def z1l (x0:List z0b) (x1:Unit) (y0:Int):Prop:=gZ 140 [⟨h25,.z,x0⟩,⟨.fn 81 .unit,.z,x1⟩] [⟨.int .i64,.z,y0⟩]
def z84 (x0:z0b) (y0:Bool):Prop:=gZ 81 [⟨h24,.z,x0⟩] [⟨.bool,.z,y0⟩]
def z65 (x0:List z0s) (x1:List z0b) (y0:Bool):Prop:=gZ 79 [⟨h9,.z,x0⟩,⟨h25,.z,x1⟩] [⟨.bool,.z,y0⟩]
def z0r (x0:List z0b) (x1:List z0s×Unit) (y0:Bool):Prop:=gZ 80 [⟨h25,.z,x0⟩,⟨.fn 139 h36,.z,x1⟩] [⟨.bool,.z,y0⟩]
def z0t (x0:List z0b) (x1:List z0s×Unit) (y0:Int):Prop:=gZ 140 [⟨h25,.z,x0⟩,⟨.fn 139 h36,.z,x1⟩] [⟨.int .i64,.z,y0⟩]
def z1r (x0:z0b) (x1:List z0s) (y0:Bool):Prop:=gZ 139 [⟨h24,.z,x0⟩,⟨.ptr h9,.z,x1⟩] [⟨.bool,.z,y0⟩]
def z4y (x0:List z0s) (x1:z0b) (y0:Bool):Prop:=gZ 51 [⟨h9,.z,x0⟩,⟨h24,.z,x1⟩] [⟨.bool,.z,y0⟩]
def z0y (x0:List z00) (x1:List z0s×Unit) (y0:Bool):Prop:=gZ 111 [⟨h19,.z,x0⟩,⟨.fn 112 h36,.z,x1⟩] [⟨.bool,.z,y0⟩]
def z18 (x0:List z00) (x1:List z0s×Unit) (y0:Int):Prop:=gZ 166 [⟨h19,.z,x0⟩,⟨.fn 112 h36,.z,x1⟩] [⟨.int .i64,.z,y0⟩]
def z2g (x0:z00) (x1:List z0s) (y0:Bool):Prop:=gZ 112 [⟨h11,.z,x0⟩,⟨.ptr h9,.z,x1⟩] [⟨.bool,.z,y0⟩]
def z23 (x0:TSk) (y0:Bool):Prop:=gZ 38 [⟨h18,.z,x0⟩] [⟨.bool,.z,y0⟩]
def zl7 (x0:List z08) (y0:Bool):Prop:=gZ 78 [⟨h16,.z,x0⟩] [⟨.bool,.z,y0⟩]
def z24 (x0:List Int) (x1:Unit) (y0:Bool):Prop:=gZ 136 [⟨.sl 3 (.int .i64),.z,x0⟩,⟨.fn 138 .unit,.z,x1⟩] [⟨.bool,.z,y0⟩]
def z2j (x0:List Int) (x1:Unit) (y0:Int):Prop:=gZ 175 [⟨.sl 3 (.int .i64),.z,x0⟩,⟨.fn 138 .unit,.z,x1⟩] [⟨.int .i64,.z,y0⟩]
def z80 (x0:Int) (y0:Bool):Prop:=gZ 138 [⟨.int .i64,.z,x0⟩] [⟨.bool,.z,y0⟩]
def zrz (x0:List z08) (y0:List Int):Prop:=gZ 137 [⟨h16,.z,x0⟩] [⟨.sl 3 (.int .i64),.own .z,y0⟩]
def zks (x0:z08) (x1:Int) (y0:Bool):Prop:=gZ 135 [⟨h15,.z,x0⟩,⟨.int .i64,.z,x1⟩] [⟨.bool,.z,y0⟩]
def z1z (x0:List Int) (x1:Int×Unit) (y0:Bool):Prop:=gZ 136 [⟨.sl 3 (.int .i64),.z,x0⟩,⟨.fn 173 h37,.z,x1⟩] [⟨.bool,.z,y0⟩]
def z2h (x0:List Int) (x1:Int×Unit) (y0:Int):Prop:=gZ 175 [⟨.sl 3 (.int .i64),.z,x0⟩,⟨.fn 173 h37,.z,x1⟩] [⟨.int .i64,.z,y0⟩]
def z82 (x0:Int) (x1:Int) (y0:Bool):Prop:=gZ 173 [⟨.int .i64,.z,x0⟩,⟨.ptr (.int .i64),.z,x1⟩] [⟨.bool,.z,y0⟩]
def zkw (x0:z0e) (y0:Int):Prop:=gZ 77 [⟨h14,.z,x0⟩] [⟨.int .i64,.z,y0⟩]
def zad (x0:z0e) (y0:List Int):Prop:=gZ 134 [⟨h14,.z,x0⟩] [⟨.sl 3 (.int .i64),.own .z,y0⟩]
def z1f (x0:List z00) (x1:z00×Unit) (y0:Int):Prop:=gZ 35 [⟨h12,.z,x0⟩,⟨.fn 36 h33,.z,x1⟩] [⟨.int .i64,.z,y0⟩]
def z4z (x0:z00) (x1:z00) (y0:Bool):Prop:=gZ 36 [⟨h11,.z,x0⟩,⟨.ptr h11,.z,x1⟩] [⟨.bool,.z,y0⟩]
def z6l (x0:z00) (x1:List Int) (y0:z00) (y1:Bool):Prop:=gZ 22 [⟨h11,.z,x0⟩,⟨.sl 3 (.int .i64),.z,x1⟩] [⟨h11,.pr .z (.pr (.own .z) .z),y0⟩,⟨.bool,.z,y1⟩]
def z5b (x0:Int) (y0:Bool):Prop:=gZ 54 [⟨.int .i64,.z,x0⟩] [⟨.bool,.z,y0⟩]
def z5w (x0:Int) (x1:Int) (x2:Int) (y0:Bool):Prop:=gZ 70 [⟨.int .i64,.z,x0⟩,⟨.int .i64,.z,x1⟩,⟨.int .i64,.z,x2⟩] [⟨.bool,.z,y0⟩]
def z40 (x0:Int) (y0:Int) (y1:Bool):Prop:=gZ 69 [⟨.int .i64,.z,x0⟩] [⟨.int .i64,.z,y0⟩,⟨.bool,.z,y1⟩]
def zea (x0:z0e) (x1:z0b) (x2:List Int) (y0:Bool):Prop:=gZ 21 [⟨h14,.z,x0⟩,⟨h24,.z,x1⟩,⟨.sl 3 (.int .i64),.z,x2⟩] [⟨.bool,.z,y0⟩]
def zd2 (x0:z0e) (x1:z00) (y0:Bool):Prop:=gZ 20 [⟨h14,.z,x0⟩,⟨h11,.z,x1⟩] [⟨.bool,.z,y0⟩]
def zeu (x0:TSk) (x1:List z0b) (x2:Int) (x3:List Int) (y0:TSk) (y1:Bool):Prop:=gZ 19 [⟨h18,.z,x0⟩,⟨h25,.z,x1⟩,⟨.int .i64,.z,x2⟩,⟨.sl 3 (.int .i64),.z,x3⟩] [⟨h18,oS,y0⟩,⟨.bool,.z,y1⟩]
def z44 (x0:TSk) (y0:TSk):Prop:=gZ 25 [⟨h18,.z,x0⟩] [⟨h18,oS,y0⟩]
def zlb (x0:z08) (y0:z08):Prop:=gZ 66 [⟨h15,.z,x0⟩] [⟨h15,.pr .z (.pr .z (.pr (.own .z) .z)),y0⟩]
def zd7 (x0:z0e) (y0:z0e):Prop:=gZ 65 [⟨h14,.z,x0⟩] [⟨h14,oI,y0⟩]
def ze9 (x0:List z00) (y0:List z00):Prop:=gZ 104 [⟨h12,.z,x0⟩] [⟨h12,oF,y0⟩]
def zl8 (x0:z00) (y0:z00):Prop:=gZ 158 [⟨h11,.z,x0⟩] [⟨h11,.pr .z (.pr (.own .z) .z),y0⟩]
def z5v (x0:List z0s) (y0:List z0s):Prop:=gZ 125 [⟨h9,.z,x0⟩] [⟨h9,.own .z,y0⟩]
def zl1 (x0:List z00) (y0:List z00):Prop:=gZ 49 [⟨h12,.z,x0⟩] [⟨h12,oF,y0⟩]
def z16 (x0:List z00) (x1:Unit) (y0:List z00):Prop:=z1b prog 106 [⟨h12,oF,x0⟩,⟨.fn 37 .unit,.z,x1⟩] [⟨h12,oF,y0⟩] [⟨h12,.dead,x0⟩,⟨.fn 37 .unit,.z,x1⟩]
def z1t (x0:List (zn3 z00)) (x1:Unit) (y0:List (zn3 z00)):Prop:=z1b prog 106 [⟨h39,.own .z,x0⟩,⟨.fn 37 .unit,.z,x1⟩] [⟨h39,.own .z,y0⟩] [⟨h39,.dead,x0⟩,⟨.fn 37 .unit,.z,x1⟩]
def zd4 (x0:zn3 z00) (x1:zn3 z00) (y0:Bool):Prop:=gZ 37 [⟨h38,.z,x0⟩,⟨h38,.z,x1⟩] [⟨.bool,.z,y0⟩]
def z0z (x0:List z00) (x1:Unit) (z0:List z00):Prop:=z1b prog 105 [⟨h12,oF,x0⟩,⟨.fn 76 .unit,.z,x1⟩] [] [⟨h12,oF,z0⟩,⟨.fn 76 .unit,.z,x1⟩]
def zib (x0:List z08) (x1:List z0b) (x2:Int) (x3:List Int) (y0:List z00) (y1:List z08):Prop:=gZ 43 [⟨h16,.z,x0⟩,⟨h25,.z,x1⟩,⟨.int .i64,.z,x2⟩,⟨.sl 3 (.int .i64),.z,x3⟩] [⟨h12,oF,y0⟩,⟨h16,.own .z,y1⟩]
def zbz (x0:TSk) (x1:List z0b) (y0:Bool):Prop:=gZ 18 [⟨h18,.z,x0⟩,⟨h25,.z,x1⟩] [⟨.bool,.z,y0⟩]
def ze8 (x0:TSk) (x1:List z0b) (y0:List Int):Prop:=gZ 31 [⟨h18,.z,x0⟩,⟨h25,.z,x1⟩] [⟨.sl 3 (.int .i64),.own .z,y0⟩]
def zl4 (x0:TSk) (x1:List z0b) (x2:z00) (x3:List Int) (y0:Bool):Prop:=gZ 74 [⟨h18,.z,x0⟩,⟨h25,.z,x1⟩,⟨h11,.z,x2⟩,⟨.sl 3 (.int .i64),.z,x3⟩] [⟨.bool,.z,y0⟩]
def zam (x0:z0e) (x1:z00) (y0:Int):Prop:=gZ 32 [⟨h14,.z,x0⟩,⟨h11,.z,x1⟩] [⟨.int .i64,.z,y0⟩]
def z5d (x0:z00) (x1:z00) (y0:Int):Prop:=gZ 11 [⟨h11,.z,x0⟩,⟨h11,.z,x1⟩] [⟨.int .i64,.z,y0⟩]
def zft (x0:List Int) (x1:List Int) (y0:Int):Prop:=gZ 34 [⟨.sl 3 (.int .i64),.z,x0⟩,⟨.sl 3 (.int .i64),.z,x1⟩] [⟨.int .i64,.z,y0⟩]
def z8q (x0:TSk) (x1:List z0b) (x2:z00) (y0:List z00):Prop:=gZ 16 [⟨h18,.z,x0⟩,⟨h25,.z,x1⟩,⟨h11,.z,x2⟩] [⟨h26,.own .z,y0⟩]
def zky (x0:TSk) (x1:List z0b) (x2:Int) (x3:List Int) (x4:z00) (y0:Bool):Prop:=gZ 46 [⟨h18,.z,x0⟩,⟨h25,.z,x1⟩,⟨.int .i64,.z,x2⟩,⟨.sl 3 (.int .i64),.z,x3⟩,⟨h11,.z,x4⟩] [⟨.bool,.z,y0⟩]
def zao (x0:TSk) (x1:z08) (y0:TSk) (y1:Int) (y2:Bool):Prop:=gZ 102 [⟨h18,.z,x0⟩,⟨h15,.z,x1⟩] [⟨h18,.z,y0⟩,⟨.int .i64,.z,y1⟩,⟨.bool,.z,y2⟩]
def z9h (x0:Int) (y0:Int):Prop:=gZ 156 [⟨.int .i64,.z,x0⟩] [⟨.int .i64,.z,y0⟩]
def zcp (x0:TSk) (x1:z08) (y0:Int):Prop:=gZ 157 [⟨h18,.z,x0⟩,⟨h15,.z,x1⟩] [⟨.int .i64,.z,y0⟩]
def z2w (x0:z0b) (y0:List Int):Prop:=gZ 101 [⟨h24,.z,x0⟩] [⟨.sl 3 (.int .i64),.own .z,y0⟩]
def zja (x0:List Int) (x1:Int) (y0:Bool):Prop:=gZ 155 [⟨.sl 3 (.int .i64),.z,x0⟩,⟨.int .i64,.z,x1⟩] [⟨.bool,.z,y0⟩]
def z7j (x0:List z00) (y0:List Int):Prop:=gZ 154 [⟨h19,.z,x0⟩] [⟨.sl 3 (.int .i64),.z,y0⟩]
def zj3 (x0:List Int) (x1:Int) (y0:List Int):Prop:=gZ 127 [⟨.sl 3 (.int .i64),.z,x0⟩,⟨.int .i64,.z,x1⟩] [⟨.sl 3 (.int .i64),.z,y0⟩]
def z3w (x0:z0b) (y0:List Int):Prop:=gZ 100 [⟨h24,.z,x0⟩] [⟨.sl 3 (.int .i64),.own .z,y0⟩]
def zb3 (x0:z0e) (x1:List z00) (y0:List (List Int)):Prop:=gZ 45 [⟨h14,.z,x0⟩,⟨h19,.z,x1⟩] [⟨.sl 32 (.sl 3 (.int .i64)),.own .z,y0⟩]
def zj5 (x0:z0e) (x1:List z00) (x2:Int) (x3:List Int) (y0:List (List Int)):Prop:=gZ 98 [⟨h14,.z,x0⟩,⟨h19,.z,x1⟩,⟨.int .i64,.z,x2⟩,⟨.sl 3 (.int .i64),.z,x3⟩] [⟨.sl 32 (.sl 3 (.int .i64)),.own (.own .z),y0⟩]
def zqu (x0:z00) (x1:z00) (x2:List Int) (y0:List Int) (y1:Bool):Prop:=gZ 152 [⟨h11,.z,x0⟩,⟨h11,.z,x1⟩,⟨.sl 3 (.int .i64),.z,x2⟩] [⟨.sl 3 (.int .i64),.own .z,y0⟩,⟨.bool,.z,y1⟩]
def zjd  (y0:Int):Prop:=gZ 153 [] [⟨.int .i64,.z,y0⟩]
def zkn  (y0:List Int):Prop:=gZ 99 [] [⟨.sl 3 (.int .i64),.own .z,y0⟩]
def zw3 (x0:z0e) (x1:List z00) (y0:Bool):Prop:=gZ 97 [⟨h14,.z,x0⟩,⟨h19,.z,x1⟩] [⟨.bool,.z,y0⟩]
def z2e (x0:z0e) (y0:Bool):Prop:=gZ 72 [⟨h14,.z,x0⟩] [⟨.bool,.z,y0⟩]
def z1s (x0:List z0s) (y0:Bool):Prop:=gZ 129 [⟨h9,.z,x0⟩] [⟨.bool,.z,y0⟩]
def za4 (x0:z0s) (y0:Bool):Prop:=gZ 171 [⟨h8,.z,x0⟩] [⟨.bool,.z,y0⟩]
def z6m (x0:z00) (y0:List Int):Prop:=gZ 126 [⟨h11,.z,x0⟩] [⟨.sl 3 (.int .i64),.z,y0⟩]
def zeg (x0:List z0s) (x1:z00) (y0:Bool):Prop:=gZ 128 [⟨h9,.z,x0⟩,⟨h11,.z,x1⟩] [⟨.bool,.z,y0⟩]
def z8x (x0:List z0s) (x1:z00) (y0:Bool):Prop:=gZ 151 [⟨h9,.z,x0⟩,⟨h11,.z,x1⟩] [⟨.bool,.z,y0⟩]
def z5l (x0:z0e) (x1:z00) (y0:Bool):Prop:=gZ 30 [⟨h14,.z,x0⟩,⟨h11,.z,x1⟩] [⟨.bool,.z,y0⟩]
def zan (x0:List z0s) (x1:List z0b) (y0:Bool):Prop:=gZ 29 [⟨h9,.z,x0⟩,⟨h25,.z,x1⟩] [⟨.bool,.z,y0⟩]
def z2y (x0:List z0s) (x1:List z0b) (y0:Bool):Prop:=gZ 73 [⟨h9,.z,x0⟩,⟨h25,.z,x1⟩] [⟨.bool,.z,y0⟩]
def z8k (x0:List z0s) (x1:z0b) (y0:Bool):Prop:=gZ 130 [⟨h9,.z,x0⟩,⟨h24,.z,x1⟩] [⟨.bool,.z,y0⟩]
def z2r (x0:TSk) (y0:Bool):Prop:=gZ 28 [⟨h18,.z,x0⟩] [⟨.bool,.z,y0⟩]
def z73 (x0:z0e) (y0:List Int):Prop:=gZ 71 [⟨h14,.z,x0⟩] [⟨.sl 3 (.int .i64),.z,y0⟩]
def zbw (x0:TSk) (x1:List z0b) (y0:Bool):Prop:=gZ 17 [⟨h18,.z,x0⟩,⟨h25,.z,x1⟩] [⟨.bool,.z,y0⟩]
def za9 (x0:TSk) (x1:List z0b) (x2:z00) (y0:Int):Prop:=gZ 9 [⟨h18,.z,x0⟩,⟨h25,.z,x1⟩,⟨h11,.z,x2⟩] [⟨.int .i64,.z,y0⟩]
def zhs (x0:List z00) (x1:List z00) (y0:Bool):Prop:=gZ 15 [⟨h26,.z,x0⟩,⟨h26,.z,x1⟩] [⟨.bool,.z,y0⟩]
def zla (x0:List Int) (x1:List Int) (y0:Bool):Prop:=gZ 44 [⟨.sl 3 (.int .i64),.z,x0⟩,⟨.sl 3 (.int .i64),.z,x1⟩] [⟨.bool,.z,y0⟩]
def zdy (x0:List Int) (y0:TSk) (y1:List z0b) (y2:z00):Prop:=gZ 13 [⟨.sl 5 (.int .u8),.z,x0⟩] [⟨h18,.z,y0⟩,⟨h25,.z,y1⟩,⟨h11,.z,y2⟩]
def zg7 (x0:List Int×Int×Int×Unit) (x1:TSk) (y0:z00) (z0:List Int×Int×Int×Unit):Prop:=z1b prog 24 [⟨.ptr h27,.own .z,x0⟩,⟨h18,.z,x1⟩] [⟨h11,.z,y0⟩] [⟨.ptr h27,.own .z,z0⟩,⟨h18,.z,x1⟩]
def zdk (x0:List Int×Int×Int×Unit) (y0:z00) (z0:List Int×Int×Int×Unit):Prop:=z1b prog 64 [⟨.ptr h27,.own .z,x0⟩] [⟨h11,.pr .z (.pr (.own .z) .z),y0⟩] [⟨.ptr h27,.own .z,z0⟩]
def zbv (x0:List Int×Int×Int×Unit) (x1:List Int) (y0:Int) (z0:List Int×Int×Int×Unit):Prop:=z1b prog 124 [⟨.ptr h27,.own .z,x0⟩,⟨.sl 3 (.int .i64),.z,x1⟩] [⟨.int .i64,.z,y0⟩] [⟨.ptr h27,.own .z,z0⟩,⟨.sl 3 (.int .i64),.z,x1⟩]
def z0c (x0:List Int×Int×Int×Unit) (x1:Int) (y0:Int) (z0:List Int×Int×Int×Unit):Prop:=z1b prog 60 [⟨.ptr h27,.own .z,x0⟩,⟨.int .i64,.z,x1⟩] [⟨.int .i64,.z,y0⟩] [⟨.ptr h27,.own .z,z0⟩,⟨.int .i64,.z,x1⟩]
def z64 (x0:List Int×Int×Int×Unit) (y0:Int) (z0:List Int×Int×Int×Unit):Prop:=z1b prog 122 [⟨.ptr h27,.own .z,x0⟩] [⟨.int .i64,.z,y0⟩] [⟨.ptr h27,.own .z,z0⟩]
def z4h (x0:List Int×Int×Int×Unit) (x1:Int) (x2:Int) (y0:z00) (z0:List Int×Int×Int×Unit):Prop:=z1b prog 62 [⟨.ptr h27,.own .z,x0⟩,⟨.int .i64,.z,x1⟩,⟨.int .i64,.z,x2⟩] [⟨h11,.pr .z (.pr (.own .z) .z),y0⟩] [⟨.ptr h27,.own .z,z0⟩,⟨.int .i64,.z,x1⟩,⟨.int .i64,.z,x2⟩]
def zew (x0:List Int×Int×Int×Unit) (x1:Int) (y0:Int) (z0:List Int×Int×Int×Unit):Prop:=z1b prog 123 [⟨.ptr h27,.own .z,x0⟩,⟨.int .i64,.z,x1⟩] [⟨.int .i64,.z,y0⟩] [⟨.ptr h27,.own .z,z0⟩,⟨.int .i64,.z,x1⟩]
def z61 (x0:List Int×Int×Int×Unit) (x1:Int) (y0:Bool) (z0:List Int×Int×Int×Unit):Prop:=z1b prog 63 [⟨.ptr h27,.own .z,x0⟩,⟨.int .i64,.z,x1⟩] [⟨.bool,.z,y0⟩] [⟨.ptr h27,.own .z,z0⟩,⟨.int .i64,.z,x1⟩]
def zfj  (y0:List z0s):Prop:=gZ 117 [] [⟨h9,.own .z,y0⟩]
def zn4 (x0:List Int) (y0:List Int×Int×Int×Unit) (y1:TSk) (y2:List z0b):Prop:=gZ 23 [⟨.sl 5 (.int .u8),.z,x0⟩] [⟨.ptr h27,.own .z,y0⟩,⟨h18,.z,y1⟩,⟨h25,.z,y2⟩]
def z62 (x0:z0e) (x1:z00) (y0:z0e) (y1:Bool):Prop:=gZ 61 [⟨h14,.z,x0⟩,⟨h11,.z,x1⟩] [⟨h14,.z,y0⟩,⟨.bool,.z,y1⟩]
def zbu (x0:z0e) (y0:z0e):Prop:=gZ 33 [⟨h14,.z,x0⟩] [⟨h14,oI,y0⟩]
def zhx (x0:z00) (y0:z00):Prop:=gZ 75 [⟨h11,.z,x0⟩] [⟨h11,.pr .z (.pr (.own .z) .z),y0⟩]
def zm8 (x0:z0e) (x1:z00) (y0:z0e):Prop:=gZ 118 [⟨h14,.z,x0⟩,⟨h11,.z,x1⟩] [⟨h14,.z,y0⟩]
def z5q (x0:z0e) (x1:z00) (y0:z0e) (y1:Bool):Prop:=gZ 10 [⟨h14,.z,x0⟩,⟨h11,.z,x1⟩] [⟨h14,.pr (.own .z) (.pr (.own .z) .z),y0⟩,⟨.bool,.z,y1⟩]
def zex (x0:TSk) (x1:List z0b) (y0:TSk) (y1:Bool):Prop:=gZ 59 [⟨h18,.z,x0⟩,⟨h25,.z,x1⟩] [⟨h18,.z,y0⟩,⟨.bool,.z,y1⟩]
def zfh (x0:TSk) (y0:TSk):Prop:=gZ 27 [⟨h18,.z,x0⟩] [⟨h18,oS,y0⟩]
def znc (x0:TSk) (x1:List z0b) (x2:Int) (x3:List Int) (y0:TSk) (y1:Bool):Prop:=gZ 121 [⟨h18,.z,x0⟩,⟨h25,.z,x1⟩,⟨.int .i64,.z,x2⟩,⟨.sl 3 (.int .i64),.z,x3⟩] [⟨h18,.z,y0⟩,⟨.bool,.z,y1⟩]
def zcz (x0:List Int×Int×Int×Unit) (y0:List z0b) (z0:List Int×Int×Int×Unit):Prop:=z1b prog 58 [⟨.ptr h27,.own .z,x0⟩] [⟨h25,.own .z,y0⟩] [⟨.ptr h27,.own .z,z0⟩]
def za5 (x0:List z0s) (x1:List z0b) (y0:Bool):Prop:=gZ 120 [⟨h9,.z,x0⟩,⟨h25,.z,x1⟩] [⟨.bool,.z,y0⟩]
def z99 (x0:List z0s) (x1:List z0b) (y0:z2t) (y1:Bool):Prop:=gZ 170 [⟨h9,.z,x0⟩,⟨h25,.z,x1⟩] [⟨h28,.z,y0⟩,⟨.bool,.z,y1⟩]
def zei (x0:Int) (x1:List z2t) (x2:Int) (x3:Int) (y0:Bool):Prop:=gZ 199 [⟨.int .i64,.z,x0⟩,⟨h29,.z,x1⟩,⟨.int .i64,.z,x2⟩,⟨.int .i64,.z,x3⟩] [⟨.bool,.z,y0⟩]
def zby (x0:List z0s) (y0:Int):Prop:=gZ 200 [⟨h9,.z,x0⟩] [⟨.int .i64,.z,y0⟩]
def zc0 (x0:List z0s) (x1:List z0b) (y0:List z2t):Prop:=gZ 198 [⟨h9,.z,x0⟩,⟨h25,.z,x1⟩] [⟨h29,.own .z,y0⟩]
def zck (x0:List z2t) (x1:z2t) (y0:List z2t):Prop:=z1b prog 212 [⟨h29,.own .z,x0⟩,⟨h28,.z,x1⟩] [⟨h29,.own .z,y0⟩] [⟨h29,.dead,x0⟩,⟨h28,.z,x1⟩]
def zb6 (x0:List z0s) (x1:List z00) (x2:Int) (y0:List Int):Prop:=gZ 211 [⟨h9,.z,x0⟩,⟨h19,.z,x1⟩,⟨.int .i64,.z,x2⟩] [⟨.sl 3 (.int .i64),.own .z,y0⟩]
def zbx (x0:List z0s) (x1:Int) (x2:Int) (y0:Int):Prop:=gZ 215 [⟨h9,.z,x0⟩,⟨.int .i64,.z,x1⟩,⟨.int .i64,.z,x2⟩] [⟨.int .i64,.z,y0⟩]
def zg0 (x0:List Int×Int×Int×Unit) (y0:z0b) (z0:List Int×Int×Int×Unit):Prop:=z1b prog 119 [⟨.ptr h27,.own .z,x0⟩] [⟨h24,oD,y0⟩] [⟨.ptr h27,.own .z,z0⟩]
def z85 (x0:List Int×Int×Int×Unit) (x1:Int) (x2:Int) (y0:z00) (z0:List Int×Int×Int×Unit):Prop:=z1b prog 169 [⟨.ptr h27,.own .z,x0⟩,⟨.int .i64,.z,x1⟩,⟨.int .i64,.z,x2⟩] [⟨h11,.pr .z (.pr (.own .z) .z),y0⟩] [⟨.ptr h27,.own .z,z0⟩,⟨.int .i64,.z,x1⟩,⟨.int .i64,.z,x2⟩]
def z7o (x0:List z00) (y0:List Int) (z0:List z00):Prop:=z1b prog 154 [⟨h19,oF,x0⟩] [⟨.sl 3 (.int .i64),.z,y0⟩] [⟨h19,oF,z0⟩]
def zer (x0:List Int×Int×Int×Unit) (y0:z0b) (z0:List Int×Int×Int×Unit):Prop:=z1b prog 168 [⟨.ptr h27,.own .z,x0⟩] [⟨h24,oD,y0⟩] [⟨.ptr h27,.own .z,z0⟩]
def zay (x0:z0e) (y0:TSk) (y1:Bool):Prop:=gZ 56 [⟨h14,.z,x0⟩] [⟨h18,oS,y0⟩,⟨.bool,.z,y1⟩]
def zku (x0:z0e) (y0:Bool):Prop:=gZ 116 [⟨h14,.z,x0⟩] [⟨.bool,.z,y0⟩]
def zde (x0:List Int×Int×Int×Unit) (x1:Int) (y0:z0e) (z0:List Int×Int×Int×Unit):Prop:=z1b prog 57 [⟨.ptr h27,.own .z,x0⟩,⟨.int .i64,.z,x1⟩] [⟨h14,oI,y0⟩] [⟨.ptr h27,.own .z,z0⟩,⟨.int .i64,.z,x1⟩]
def zx1 (x0:List Int) (y0:List Int×Int×Int×Unit):Prop:=gZ 55 [⟨.sl 5 (.int .u8),.z,x0⟩] [⟨.ptr h27,.own .z,y0⟩]
def z081 (x0:List Int) (y0:Bool):Prop:=gZ 5 [⟨.sl 5 (.int .u8),.z,x0⟩] [⟨.bool,.z,y0⟩]
theorem z4p (x0:List z00) (x1:Unit) (y0:List z00) (H:∀ xs:List (zn3 z00),xs.map (·.2)=x0->∃ ys:List (zn3 z00),ys.Sublist xs/\ys.map (·.2)=y0/\z1t xs x1 ys):z16 x0 x1 y0:=z0es (by rfl) H
theorem zig (x0:zn3 z00) (x1:zn3 z00) (y0:Bool) (h:zd0 x0.2 x1.2 y0):zd4 x0 x1 y0:=z0au h
end Go.V

