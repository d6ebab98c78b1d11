/-
  The functions that are reached: types, signatures, what a call of each gives.
-/
import Derived.Test.YtikcmlkjnlcboaaGreatVE
import Derived.Test.YtikcmlkjnlcboaaGreatProg
import Derived.KernelRfl
set_option linter.unusedVariables false
set_option linter.unusedSimpArgs false
set_option maxRecDepth 1000000
set_option maxHeartbeats 4000000
set_option linter.unusedVariables false
namespace Go.V
open Go Go.Proofs
abbrev h0:Sh:=.pair (.int .u8) .unit
abbrev h1:Sh:=.pair .bool h0
abbrev h2:Sh:=.pair (.int .i64) h1
abbrev h3:Sh:=.pair (.int .i64) h2
abbrev h4:Sh:=.pair (.int .u64) .unit
abbrev h5:Sh:=.pair .str h4
abbrev h6:Sh:=.pair .bool .unit
abbrev h7:Sh:=.pair (.int .i64) h6
abbrev h8:Sh:=.pair .str h7
abbrev h9:Sh:=.sl 125 h8
abbrev h10:Sh:=.pair (.sl 3 (.int .i64)) .unit
abbrev h11:Sh:=.pair (.int .i64) h10
abbrev h12:Sh:=.sl 32 h11
abbrev h13:Sh:=.pair h12 .unit
abbrev h14:Sh:=.pair h9 h13
abbrev h15:Sh:=.pair (.int .i64) h11
abbrev h16:Sh:=.sl 92 h15
abbrev h17:Sh:=.pair h16 .unit
abbrev h18:Sh:=.pair h14 h17
abbrev h19:Sh:=.sl 127 h11
abbrev h20:Sh:=.pair (.int .i64) .unit
abbrev h21:Sh:=.pair (.int .i64) h20
abbrev h22:Sh:=.pair .bool h21
abbrev h23:Sh:=.pair h19 h22
abbrev h24:Sh:=.pair h19 h23
abbrev h25:Sh:=.sl 62 h24
abbrev h26:Sh:=.sl 68 h8
abbrev h27:Sh:=.sl 48 h11
abbrev h28:Sh:=.pair h27 .unit
abbrev h29:Sh:=.pair h26 h28
abbrev h30:Sh:=.sl 95 h15
abbrev h31:Sh:=.pair h30 .unit
abbrev h32:Sh:=.pair h29 h31
abbrev h33:Sh:=.sl 119 h11
abbrev h34:Sh:=.pair h33 h22
abbrev h35:Sh:=.pair h33 h34
abbrev h36:Sh:=.sl 73 h35
abbrev h37:Sh:=.sl 171 h11
abbrev h38:Sh:=.pair (.ptr h15) .unit
abbrev h39:Sh:=.pair (.ptr (.int .i64)) .unit
abbrev h40:Sh:=.tok (.int .i64) h10
abbrev h41:Sh:=.sl 48 h40
abbrev h42:Sh:=.pair (.ptr h11) .unit
abbrev h43:Sh:=.pair (.ptr h26) .unit
abbrev h44:Sh:=.pair (.ptr (.sl 3 (.int .i64))) .unit
abbrev h45:Sh:=.pair (.md h27) .unit
abbrev h46:Sh:=.pair h26 h45
abbrev h47:Sh:=.pair (.ptr .bool) .unit
abbrev h48:Sh:=.pair (.ptr h46) h47
abbrev h49:Sh:=.pair (.ptr h36) .unit
abbrev h50:Sh:=.pair (.ptr (.sl 3 (.int .i64))) h49
abbrev h51:Sh:=.pair (.ptr h27) h50
abbrev oF:O:=.own (.pr .z (.pr (.own .z) .z))
abbrev oI:O:=.pr (.own .z) (.pr oF .z)
abbrev oT:O:=.own (.pr .z (.pr .z (.pr (.own .z) .z)))
abbrev oS:O:=.pr oI (.pr oT .z)
abbrev oD:O:=.pr oF (.pr oF .z)
abbrev oE:O:=.own oD
noncomputable abbrev prog:Program:=Tryz.prog
noncomputable abbrev gZ (f:Nat) (us rs:List OV):Prop:=z12 prog f us rs us
def z0nf:List (Nat×Sh):=[(2,.int .i64),(3,.int .i64),(4,.bool),(5,.int .u8),(6,.int .u8),(9,.str),(10,.str),(11,.str),(12,.int .u64),(21,.int .i32),(22,h9),(23,h12),(24,h14),(25,h14),(26,h16),(27,h18),(28,h18),(29,h25),(30,.sl 3 (.int .i64)),(31,h11),(32,h11),(36,h26),(37,h27),(38,h29),(39,h29),(40,h30),(41,h32),(42,h32),(46,h36),(48,h11),(60,h19),(61,h24),(62,h24),(67,h8),(68,h8),(71,h33),(72,h35),(73,h35),(91,h15),(92,h15),(95,h15),(109,.sl 30 (.sl 3 (.int .i64))),(118,h11),(119,h11),(125,h8),(127,h11),(166,.sl 167 h37),(167,h37),(170,h11),(171,h11),(180,.int .u64),(195,.sl 5 (.int .u8)),(205,.int .i64),(212,.int .u32),(214,.int .u64),(224,.int .u64),(228,.ptr (.int .i64)),(241,.ptr (.int .u64)),(253,.int .u8),(254,.int .u8),(256,.ptr (.int .u8)),(257,.int .i32),(258,.int .i32)]
def z0mk:List (Nat×List Sig):=[(4,[⟨[.z,.z,.z],[(.bool,.z)],[.z,.z,.z]⟩]),(5,[⟨[.z,.z],[(.int .i64,.z)],[.z,.z]⟩]),(6,[⟨[.z,.z],[(.int .i64,.z)],[.z,.z]⟩]),(7,[⟨[.z,.z],[(.int .i64,.z)],[.z,.z]⟩]),(9,[⟨[.z],[(h32,oS)],[.z]⟩]),(10,[⟨[.z],[(h36,oE)],[.z]⟩]),(11,[⟨[.z],[(h11,.pr .z (.pr (.own .z) .z))],[.z]⟩]),(13,[⟨[.z,.z],[(.bool,.z)],[.z,.z]⟩]),(14,[⟨[.z,.z],[(.bool,.z)],[.z,.z]⟩]),(15,[⟨[.z,.z],[(.bool,.z)],[.z,.z]⟩]),(16,[⟨[oS,.z],[(.int .i64,.z)],[oS,.z]⟩]),(17,[⟨[oE,.z],[(.int .i64,.z)],[oE,.z]⟩]),(18,[⟨[.pr .z (.pr (.own .z) .z),.z],[(.int .i64,.z)],[.pr .z (.pr (.own .z) .z),.z]⟩]),(19,[⟨[.z,.z],[(.int .i64,.z)],[.z,.z]⟩]),(20,[⟨[.z,.z,.z],[(h32,.z),(.bool,.z)],[.z,.z,.z]⟩]),(21,[⟨[.z,.z,.z],[(h32,oS),(.bool,.z)],[.z,.z,.z]⟩]),(22,[⟨[.z,.z],[(.int .i64,.z)],[.z,.z]⟩]),(23,[⟨[.z,.z],[(.int .i64,.z)],[.z,.z]⟩]),(24,[⟨[.z,.z],[(.int .i64,.z)],[.z,.z]⟩]),(25,[⟨[.z,.z],[(.int .i64,.z)],[.z,.z]⟩]),(26,[⟨[.z],[(h32,oS)],[.z]⟩]),(27,[⟨[.z,.z],[(.bool,.z)],[.z,.z]⟩]),(28,[⟨[.z,.z],[(.bool,.z)],[.z,.z]⟩]),(30,[⟨[.z],[(h29,oI)],[.z]⟩]),(31,[⟨[.z],[(h30,oT)],[.z]⟩]),(32,[⟨[.z],[(h35,oD)],[.z]⟩]),(33,[⟨[.z],[(.sl 3 (.int .i64),.own .z)],[.z]⟩]),(34,[⟨[.z,.z],[(.bool,.z)],[.z,.z]⟩]),(35,[⟨[.z,.z],[(.bool,.z)],[.z,.z]⟩]),(36,[⟨[.z],[(h32,oS)],[.z]⟩]),(38,[⟨[.z,.z],[(h32,oS),(.bool,.z)],[.z,.z]⟩]),(39,[⟨[.z,.z],[(.bool,.z)],[.z,.z]⟩]),(40,[⟨[.z,.z],[(.bool,.z)],[.z,.z]⟩]),(41,[⟨[.z,.z],[(.bool,.z)],[.z,.z]⟩]),(42,[⟨[.z,.z],[(.bool,.z)],[.z,.z]⟩]),(43,[⟨[oI,.z],[(.int .i64,.z)],[oI,.z]⟩]),(44,[⟨[oT,.z],[(.int .i64,.z)],[oT,.z]⟩]),(45,[⟨[oF,.z],[(.int .i64,.z)],[oF,.z]⟩]),(46,[⟨[.own .z,.z],[(.int .i64,.z)],[.own .z,.z]⟩]),(47,[⟨[.z,.z],[(.int .i64,.z)],[.z,.z]⟩]),(48,[⟨[.z,.z],[(.int .i64,.z)],[.z,.z]⟩]),(49,[⟨[.z,.z],[(.bool,.z)],[.z,.z]⟩]),(50,[⟨[.z,.z],[(h29,.pr (.own .z) (.pr (.own .z) .z)),(.bool,.z)],[.z,.z]⟩]),(51,[⟨[.z,.z],[(h29,oI)],[.z,.z]⟩]),(52,[⟨[.z,.z],[(h32,.z),(.bool,.z)],[.z,.z]⟩]),(53,[⟨[.z,.z],[(h29,oI),(.bool,.z)],[.z,.z]⟩]),(54,[⟨[.z,.z],[(h29,oI)],[.z,.z]⟩]),(55,[⟨[.z,.z],[(.int .i64,.z)],[.z,.z]⟩]),(56,[⟨[.z,.z],[(.int .i64,.z)],[.z,.z]⟩]),(57,[⟨[.z,.z],[(.int .i64,.z)],[.z,.z]⟩]),(58,[⟨[.z,.z],[(.int .i64,.z)],[.z,.z]⟩]),(59,[⟨[.z],[(h29,oI)],[.z]⟩]),(60,[⟨[.z,.z],[(.bool,.z)],[.z,.z]⟩]),(61,[⟨[.z],[(.bool,.z)],[.z]⟩]),(62,[⟨[.z,.z,.z],[(.bool,.z)],[.z,.z,.z]⟩]),(63,[⟨[.z],[(.bool,.z)],[.z]⟩]),(65,[⟨[.z],[(h26,.own .z)],[.z]⟩]),(66,[⟨[.z],[(h27,oF)],[.z]⟩]),(67,[⟨[.z],[(h15,.pr .z (.pr .z (.pr (.own .z) .z)))],[.z]⟩]),(68,[⟨[.z],[(h33,oF)],[.z]⟩]),(69,[⟨[.z,.z],[(.bool,.z)],[.z,.z]⟩]),(70,[⟨[.z,.z],[(.bool,.z)],[.z,.z]⟩]),(71,[⟨[.z],[(h29,oI)],[.z]⟩]),(72,[⟨[.z],[(h15,.pr .z (.pr .z (.pr (.own .z) .z)))],[.z]⟩]),(73,[⟨[.z],[(.bool,.z)],[.z]⟩]),(74,[⟨[.z,.z],[(.bool,.z)],[.z,.z]⟩]),(75,[⟨[.z],[(h27,oF)],[.z]⟩]),(76,[⟨[.z],[(.bool,.z)],[.z]⟩]),(77,[⟨[.z,.z],[(.bool,.z)],[.z,.z]⟩]),(78,[⟨[.z,.z],[(.sl 30 (.sl 3 (.int .i64)),.own (.own .z))],[.z,.z]⟩]),(79,[⟨[.z,.z,.z,.z],[(h32,oS),(.bool,.z)],[.z,.z,.z,.z]⟩]),(80,[⟨[.z,.z],[(.bool,.z)],[.z,.z]⟩]),(81,[⟨[.z,.z],[(.bool,.z)],[.z,.z]⟩]),(82,[⟨[.z,.z],[(.bool,.z)],[.z,.z]⟩]),(83,[⟨[.z,.z],[(.bool,.z)],[.z,.z]⟩]),(84,[⟨[.own .z,.z],[(.int .i64,.z)],[.own .z,.z]⟩]),(85,[⟨[oF,.z],[(.int .i64,.z)],[oF,.z]⟩]),(86,[⟨[.z,.z],[(.int .i64,.z)],[.z,.z]⟩]),(87,[⟨[.z,.z],[(.int .i64,.z)],[.z,.z]⟩]),(88,[⟨[.z,.z],[(.int .i64,.z)],[.z,.z]⟩]),(89,[⟨[.z],[(.bool,.z)],[.z]⟩]),(90,[⟨[.z,.z],[(.int .i64,.z)],[.z,.z]⟩]),(91,[⟨[.z],[(h11,.pr .z (.pr (.own .z) .z))],[.z]⟩]),(92,[⟨[.z],[(.bool,.z)],[.z]⟩]),(93,[⟨[.z,.z],[(.bool,.z)],[.z,.z]⟩]),(94,[⟨[.z,.z],[(.sl 30 (.sl 3 (.int .i64)),.own .z)],[.z,.z]⟩]),(95,[⟨[.z,.z,.z,.z],[(h32,.z),(.bool,.z)],[.z,.z,.z,.z]⟩]),(96,[⟨[.z,.z],[(.bool,.z)],[.z,.z]⟩]),(97,[⟨[oF,.z],[(h27,oF)],[.dead,.z]⟩]),(98,[⟨[.z,.z],[(.bool,.z)],[.z,.z]⟩]),(99,[⟨[.z,.z],[(.bool,.z)],[.z,.z]⟩]),(100,[⟨[.z,.z,.z],[(.bool,.z)],[.z,.z,.z]⟩]),(101,[⟨[.z,.z],[(.int .i64,.z)],[.z,.z]⟩]),(102,[⟨[.z,.z],[(.int .i64,.z)],[.z,.z]⟩]),(103,[⟨[.z,.z],[(.sl 3 (.int .i64),.own .z)],[.z,.z]⟩]),(104,[⟨[.z],[(.bool,.z)],[.z]⟩]),(105,[⟨[.z],[(.int .i64,.z),(.bool,.z)],[.z]⟩]),(106,[⟨[.z,.z],[(h29,.z)],[.z,.z]⟩]),(107,[⟨[.z],[(h8,.z)],[.z]⟩]),(108,[⟨[.z],[(h11,.pr .z (.pr (.own .z) .z))],[.z]⟩]),(109,[⟨[.z,.z],[(.bool,.z)],[.z,.z]⟩]),(110,[⟨[.z,.z],[(.sl 3 (.int .i64),.own .z)],[.z,.z]⟩]),(111,[⟨[.z],[(.bool,.z)],[.z]⟩]),(112,[⟨[.z,.z,.z],[(.bool,.z)],[.z,.z,.z]⟩]),(113,[⟨[.z,.z],[(.bool,.z)],[.z,.z]⟩]),(114,[⟨[.z],[(.bool,.z)],[.z]⟩]),(115,[⟨[.z],[(.bool,.z)],[.z]⟩]),(116,[⟨[.z],[(h26,.own .z)],[.z]⟩]),(117,[⟨[.z],[(h27,oF)],[.z]⟩]),(118,[⟨[.z],[(.sl 3 (.int .i64),.own .z)],[.z]⟩]),(119,[⟨[.z,.z],[(.int .i64,.z)],[.z,.z]⟩]),(120,[⟨[.z],[(.sl 3 (.int .i64),.own .z)],[.z]⟩]),(121,[⟨[.z,.z],[(.bool,.z)],[.z,.z]⟩]),(122,[⟨[.z,.z],[(.bool,.z)],[.z,.z]⟩]),(123,[⟨[oF,.z],[],[oF,.z]⟩]),(124,[⟨[oF,.z],[(h27,oF)],[.dead,.z]⟩]),(125,[⟨[.z],[(.int .i64,.z)],[.z]⟩]),(126,[⟨[.z],[(.bool,.z)],[.z]⟩]),(127,[⟨[.z,.z],[(.bool,.z)],[.z,.z]⟩]),(128,[⟨[.z,.z],[(.bool,.z)],[.z,.z]⟩]),(129,[⟨[.z],[(.bool,.z)],[.z]⟩]),(130,[⟨[.z,.z],[(.bool,.z)],[.z,.z]⟩]),(131,[⟨[.z,.z,.own .z],[(.sl 30 (.sl 3 (.int .i64)),.own (.own .z))],[.z,.z,.dead]⟩]),(132,[⟨[],[(.sl 3 (.int .i64),.own .z)],[]⟩]),(133,[⟨[.z,.z],[(.bool,.z)],[.z,.z]⟩]),(134,[⟨[.z,.z,.z],[(.bool,.z)],[.z,.z,.z]⟩]),(135,[⟨[.z,.z,.z,.own .z],[(h27,oF),(h30,.own .z)],[.z,.z,.z,.own .z]⟩,⟨[.z,.z,.z,.z],[(h27,oF),(h30,.own .z)],[.z,.z,.z,.z]⟩]),(136,[⟨[.z,.z],[(.bool,.z)],[.z,.z]⟩]),(137,[⟨[.z,.z],[(.bool,.z)],[.z,.z]⟩]),(138,[⟨[.z],[(.str,.z)],[.z]⟩]),(139,[⟨[.z,.z],[(.int .i64,.z)],[.z,.z]⟩]),(140,[⟨[.z],[(.sl 3 (.int .i64),.z)],[.z]⟩]),(141,[⟨[.z,.z],[(.int .i64,.z)],[.z,.z]⟩]),(142,[⟨[.z],[(.sl 3 (.int .i64),.z)],[.z]⟩]),(143,[⟨[.z,.z],[(.bool,.z)],[.z,.z]⟩]),(144,[⟨[.z,.z],[(.bool,.z)],[.z,.z]⟩]),(145,[⟨[.z,.z,.z,.z],[(.sl 30 (.sl 3 (.int .i64)),.own (.own .z))],[.z,.z,.z,.z]⟩]),(146,[⟨[],[(.sl 3 (.int .i64),.own .z)],[]⟩]),(147,[⟨[.z],[(.sl 3 (.int .i64),.own .z)],[.z]⟩]),(148,[⟨[.z],[(.sl 3 (.int .i64),.own .z)],[.z]⟩]),(149,[⟨[.z,.z],[(h32,.z),(.int .i64,.z),(.bool,.z)],[.z,.z]⟩]),(150,[⟨[.z,.z],[(h11,.pr .z (.pr (.own .z) .z)),(.bool,.z)],[.z,.z]⟩]),(151,[⟨[.z,.z],[(.int .i64,.z)],[.z,.z]⟩]),(152,[⟨[.z,.z,.z],[(h37,.own .z)],[.z,.z,.z]⟩]),(153,[⟨[.z,.z,.z,.z],[(.bool,.z)],[.z,.z,.z,.z]⟩]),(154,[⟨[.z,.z],[(.int .i64,.z)],[.z,.z]⟩]),(155,[⟨[.z,.z,.z],[(h37,oF)],[.z,.z,.z]⟩]),(156,[⟨[.z,.z],[(.bool,.z)],[.z,.z]⟩]),(157,[⟨[.z,.z,.z,.z],[(.bool,.z)],[.z,.z,.z,.z]⟩]),(158,[⟨[.z,.z,.z,.z],[(.bool,.z)],[.z,.z,.z,.z]⟩]),(159,[⟨[.z],[(.bool,.z)],[.z]⟩]),(160,[⟨[.z,.z],[(.int .i64,.z)],[.z,.z]⟩]),(161,[⟨[.z],[(h11,.pr .z (.pr (.own .z) .z))],[.z]⟩]),(162,[⟨[.z],[(.int .i64,.z)],[.z]⟩]),(163,[⟨[.z,.z],[(.int .i64,.z)],[.z,.z]⟩]),(164,[⟨[.z,.z],[(.int .i64,.z)],[.z,.z]⟩]),(165,[⟨[.z],[(.sl 3 (.int .i64),.own .z)],[.z]⟩]),(168,[⟨[.z],[(.sl 3 (.int .i64),.own .z)],[.z]⟩]),(169,[⟨[.z,.z],[(.bool,.z)],[.z,.z]⟩]),(170,[⟨[.z,.z],[(.int .i64,.z)],[.z,.z]⟩]),(171,[⟨[.z],[(.sl 3 (.int .i64),.own .z)],[.z]⟩]),(172,[⟨[.z],[(.bool,.z)],[.z]⟩]),(173,[⟨[.z,.z],[(.bool,.z)],[.z,.z]⟩]),(174,[⟨[.z,.z],[(.bool,.z)],[.z,.z]⟩]),(175,[⟨[.z,.z],[(.int .i64,.z)],[.z,.z]⟩]),(176,[⟨[.z,.z,.z],[(.bool,.z)],[.z,.z,.z]⟩]),(177,[⟨[.z,.z,.z],[(.sl 3 (.int .i64),.own .z),(.bool,.z)],[.z,.z,.z]⟩]),(178,[⟨[.z,.z],[(.sl 3 (.int .i64),.own .z)],[.z,.z]⟩]),(179,[⟨[.z,.z],[(.bool,.z)],[.z,.z]⟩]),(180,[⟨[.z,.z],[(.bool,.z)],[.z,.z]⟩]),(181,[⟨[.z,.z],[(.bool,.z)],[.z,.z]⟩]),(182,[⟨[.z],[(.sl 3 (.int .i64),.own .z)],[.z]⟩]),(183,[⟨[.z,.z],[(h11,.pr .z (.pr (.own .z) .z)),(.bool,.z)],[.z,.z]⟩]),(184,[⟨[.z],[(.sl 3 (.int .i64),.own .z)],[.z]⟩]),(185,[⟨[.z],[(h30,.own .z)],[.z]⟩]),(186,[⟨[.z],[(.sl 3 (.int .i64),.own .z)],[.z]⟩]),(187,[⟨[.z],[(.int .i64,.z)],[.z]⟩]),(188,[⟨[.z,.z],[(.sl 3 (.int .i64),.z)],[.z,.z]⟩]),(189,[⟨[.z,.z],[(.bool,.z)],[.z,.z]⟩]),(190,[⟨[.z,.z],[(.bool,.z)],[.z,.z]⟩]),(191,[⟨[.z,.z,.z],[(.sl 3 (.int .i64),.own .z),(.bool,.z)],[.z,.z,.z]⟩]),(192,[⟨[],[(.int .i64,.z)],[]⟩]),(193,[⟨[.z],[(.sl 3 (.int .i64),.z)],[.z]⟩]),(194,[⟨[.z,.z],[(.bool,.z)],[.z,.z]⟩]),(195,[⟨[.z],[(.int .i64,.z)],[.z]⟩]),(196,[⟨[.z,.z],[(.int .i64,.z)],[.z,.z]⟩]),(197,[⟨[.z,.z,.z,.z,.z],[(.bool,.z)],[.z,.z,.z,.z,.z]⟩]),(198,[⟨[.z,.z],[(.int .i64,.z)],[.z,.z]⟩]),(199,[⟨[.z,.z,.z],[(.int .i64,.z),(.bool,.z)],[.z,.z,.z]⟩]),(200,[⟨[.z],[(.bool,.z)],[.z]⟩]),(201,[⟨[.z],[(.int .i64,.z),(.bool,.z)],[.z]⟩]),(202,[⟨[.own .z],[],[.own .z]⟩]),(203,[⟨[.own .z],[(.sl 3 (.int .i64),.own .z)],[.dead]⟩]),(214,[⟨[.z,.z],[(.bool,.z)],[.z,.z]⟩]),(215,[⟨[.z,.z],[(.int .i64,.z)],[.z,.z]⟩]),(216,[⟨[.z,.z],[(.bool,.z)],[.z,.z]⟩]),(217,[⟨[.z,.z],[(.bool,.z)],[.z,.z]⟩]),(218,[⟨[.z,.z],[(.bool,.z)],[.z,.z]⟩]),(219,[⟨[.z,.z],[(.bool,.z)],[.z,.z]⟩]),(220,[⟨[.z,.z],[(.bool,.z)],[.z,.z]⟩]),(221,[⟨[.z,.z],[(.int .u64,.z),(.int .u64,.z)],[.z,.z]⟩]),(222,[⟨[.z,.z],[(.int .i64,.z)],[.z,.z]⟩]),(223,[⟨[.z,.z],[(.sl 3 (.int .i64),.own .z)],[.z,.z]⟩]),(230,[⟨[.z,.z],[(.int .i64,.z)],[.z,.z]⟩]),(231,[⟨[.z],[(.bool,.z)],[.z]⟩]),(233,[⟨[.z,.z],[(.int .u64,.z),(.int .u64,.z)],[.z,.z]⟩])]
def z0n3:List (Nat×List (Option Sh)):=[(4,[some (h18),some (h25),some (h11)]),(5,[some (h18),some (.int .i64)]),(6,[some (h25),some (.int .i64)]),(7,[some (h11),some (.int .i64)]),(9,[some (h18)]),(10,[some (h25)]),(11,[some (h11)]),(13,[some (h32),some (h32)]),(14,[some (h36),some (h36)]),(15,[some (h11),some (h11)]),(16,[some (h32),some (.int .i64)]),(17,[some (h36),some (.int .i64)]),(18,[some (h11),some (.int .i64)]),(19,[some (h32),some (.int .i64)]),(20,[some (h32),some (h36),some (h11)]),(21,[some (h32),some (h36),some (h11)]),(22,[some (h14),some (.int .i64)]),(23,[some (h16),some (.int .i64)]),(24,[some (h24),some (.int .i64)]),(25,[some (.sl 3 (.int .i64)),some (.int .i64)]),(26,[some (h32)]),(27,[some (h32),some (h36)]),(28,[some (h26),some (h11)]),(30,[some (h14)]),(31,[some (h16)]),(32,[some (h24)]),(33,[some (.sl 3 (.int .i64))]),(34,[some (h32),some (h36)]),(35,[some (h26),some (h11)]),(36,[some (h32)]),(38,[some (h32),some (h36)]),(39,[some (h29),some (h29)]),(40,[some (h30),some (h30)]),(41,[some (h35),some (h35)]),(42,[some (.sl 3 (.int .i64)),some (.sl 3 (.int .i64))]),(43,[some (h29),some (.int .i64)]),(44,[some (h30),some (.int .i64)]),(45,[some (h33),some (.int .i64)]),(46,[some (.sl 3 (.int .i64)),some (.int .i64)]),(47,[some (h29),some (.int .i64)]),(48,[some (h30),some (.int .i64)]),(49,[some (h29),some (h11)]),(50,[some (h29),some (h11)]),(51,[some (h29),some (.bool)]),(52,[some (h32),some (h36)]),(53,[some (h29),some (h11)]),(54,[some (h29),some (.bool)]),(55,[some (h9),some (.int .i64)]),(56,[some (h12),some (.int .i64)]),(57,[some (h15),some (.int .i64)]),(58,[some (h19),some (.int .i64)]),(59,[some (h29)]),(60,[some (h32),some (h36)]),(61,[some (h26)]),(62,[some (.int .i64),some (.int .i64),some (.int .i64)]),(63,[some (.int .i64)]),(65,[some (h9)]),(66,[some (h12)]),(67,[some (h15)]),(68,[some (h19)]),(69,[some (h32),some (h36)]),(70,[some (h26),some (h11)]),(71,[some (h29)]),(72,[some (h15)]),(73,[some (h29)]),(74,[some (h27),some (h11)]),(75,[some (h27)]),(76,[some (h32)]),(77,[some (h26),some (h36)]),(78,[some (h29),some (h33)]),(79,[some (h32),some (h36),some (.int .i64),some (.sl 3 (.int .i64))]),(80,[some (h26),some (h26)]),(81,[some (h27),some (h27)]),(82,[some (h15),some (h15)]),(83,[some (h33),some (h33)]),(84,[some (h26),some (.int .i64)]),(85,[some (h27),some (.int .i64)]),(86,[some (h26),some (.int .i64)]),(87,[some (h27),some (.int .i64)]),(88,[some (.sl 3 (.int .i64)),some (.int .i64)]),(89,[some (h29)]),(90,[some (h29),some (h11)]),(91,[some (h11)]),(92,[some (h32)]),(93,[some (h26),some (h36)]),(94,[some (h29),some (h33)]),(95,[some (h32),some (h36),some (.int .i64),some (.sl 3 (.int .i64))]),(96,[some (h29),some (h11)]),(97,[some (h27),none]),(98,[some (h11)]),(99,[some (h11),some (h11)]),(100,[some (h11)]),(101,[some (h8),some (.int .i64)]),(102,[some (h11),some (.int .i64)]),(103,[some (h32),some (h36)]),(104,[some (h8)]),(105,[some (.int .i64)]),(106,[some (h29),some (h11)]),(107,[some (h8)]),(108,[some (h11)]),(109,[some (.sl 3 (.int .i64)),some (.int .i64)]),(110,[some (h32),some (h36)]),(111,[some (h26)]),(112,[some (.int .i64),some (.int .i64),some (.int .i64)]),(113,[some (.sl 3 (.int .i64)),none]),(114,[some (.int .i64)]),(115,[some (.int .i64)]),(116,[some (h26)]),(117,[some (h27)]),(118,[some (.sl 3 (.int .i64))]),(119,[some (h11),some (h11)]),(120,[some (h11)]),(121,[some (h27),none]),(122,[some (h11)]),(123,[some (h27),none]),(124,[some (h27),none]),(125,[some (h29)]),(126,[some (h30)]),(127,[some (h26),some (h36)]),(128,[some (h36),none]),(129,[some (h35)]),(130,[some (h29),some (h33)]),(131,[some (h27),some (h33),some (.sl 3 (.int .i64))]),(132,[]),(133,[some (.sl 30 (.sl 3 (.int .i64))),some (.sl 3 (.int .i64))]),(134,[some (h29),some (h35),some (.sl 3 (.int .i64))]),(135,[some (h30),some (h36),some (.int .i64),some (.sl 3 (.int .i64))]),(136,[some (h8),some (h8)]),(137,[some (h11),some (h11)]),(138,[some (.int .i64)]),(139,[some (h11),some (h11)]),(140,[some (h11)]),(141,[some (.sl 3 (.int .i64)),some (.sl 3 (.int .i64))]),(142,[some (h29)]),(143,[some (h26),some (h36)]),(144,[some (h29),some (h33)]),(145,[some (h29),some (h33),some (.int .i64),some (.sl 3 (.int .i64))]),(146,[]),(147,[some (h35)]),(148,[some (h35)]),(149,[some (h32),some (h15)]),(150,[some (h11),some (.sl 3 (.int .i64))]),(151,[some (h27),none]),(152,[some (h32),some (h36),some (h11)]),(153,[some (h32),some (h36),some (h11),some (.sl 3 (.int .i64))]),(154,[some (.sl 3 (.int .i64)),some (.int .i64)]),(155,[some (h32),some (h36),some (h11)]),(156,[some (h37),none]),(157,[some (h11)]),(158,[some (h27),some (.sl 3 (.int .i64)),some (h36),some (h11)]),(159,[some (h8)]),(160,[some (.sl 3 (.int .i64)),none]),(161,[some (h11)]),(162,[some (.sl 3 (.int .i64))]),(163,[some (.int .i64),some (.int .i64)]),(164,[some (.sl 3 (.int .i64)),some (.sl 3 (.int .i64))]),(165,[some (.sl 3 (.int .i64))]),(168,[some (h29)]),(169,[some (h15),some (.int .i64)]),(170,[some (h30),some (h15)]),(171,[some (h30)]),(172,[some (.int .i64)]),(173,[some (h35)]),(174,[some (h26),some (h35)]),(175,[some (h36),none]),(176,[some (h26),some (h33),some (.int .i64)]),(177,[some (.sl 3 (.int .i64)),some (h11),some (h11)]),(178,[some (.sl 3 (.int .i64)),some (.int .i64)]),(179,[some (.sl 30 (.sl 3 (.int .i64))),none]),(180,[some (.sl 3 (.int .i64))]),(181,[some (.sl 3 (.int .i64)),some (.sl 3 (.int .i64))]),(182,[some (h33)]),(183,[some (h11),some (.sl 3 (.int .i64))]),(184,[some (h35)]),(185,[some (h30)]),(186,[some (h35)]),(187,[some (.int .i64)]),(188,[some (.sl 3 (.int .i64)),some (.int .i64)]),(189,[some (h26),some (h35)]),(190,[some (h26),some (h11)]),(191,[some (h11),some (h11),some (.sl 3 (.int .i64))]),(192,[]),(193,[some (h33)]),(194,[some (.sl 3 (.int .i64)),some (.int .i64)]),(195,[some (.int .i64)]),(196,[some (h32),some (h15)]),(197,[some (h32),some (h36),some (.int .i64),some (.sl 3 (.int .i64)),some (h11)]),(198,[some (h37),none]),(199,[some (h27),some (h11),none]),(200,[some (.int .i64)]),(201,[some (.int .i64)]),(202,[some (.sl 3 (.int .i64))]),(203,[some (.sl 3 (.int .i64))]),(214,[some (.int .i64)]),(215,[some (h30),none]),(216,[some (h15)]),(217,[some (h33),none]),(218,[some (h11)]),(219,[some (h11)]),(220,[some (h26),some (h11)]),(221,[some (.int .u64),some (.int .u64)]),(222,[some (.sl 30 (.sl 3 (.int .i64))),none]),(223,[some (h35),some (.bool)]),(230,[some (h33),none]),(231,[some (.int .i64)]),(233,[some (.int .u64),some (.int .u64)])]
noncomputable def E:Env:={ sh:=fun t=>z0d t z0nf,sigs:=fun f=>(z0d f z0mk).getD [],params:=fun f=>(z0d f z0n3).getD [],gives:=z12 prog }
theorem zgk:∀ t s,E.sh t=some s->ShOk prog s none t:=z09d (by kernel_rfl)
theorem mixed:prog.follows .mixedOrders=true:=by kernel_rfl
abbrev nL:Nat->Option Loop:=fun i=>z0d i []
abbrev nP:Nat->Option Pl:=fun i=>z0d i []
theorem fg {L : Nat -> Option Loop} {pl : Nat -> Option Pl} {f : FuncId} {fn : Func} {g : Sig} {us : List OV} {m : List (Sh × O)} {val : resD (outD m) g.res} {Q : Prop} (hf : prog.funcs[f]? = some fn) (h : Q) (hn : (fn.name == "runtime.NumGoroutine") = false := by kernel_rfl) (ho : g.outs = m.map (·.2) := by rfl) (hu : zjf us m = true := by rfl) (e : fnV E L pl fn g us (ansK g.res m fun r => r = val) = Q := by kernel_rfl) : z12 prog f us (encR g.res val).1 (encO us m (encR g.res val).2) := zm2 zgk (fun _ _ _ _ h => h) mixed hf hn rfl ho hu (Eq.mpr e h)
theorem fz {L : Nat -> Option Loop} {pl : Nat -> Option Pl} {f : FuncId} {fn : Func} {us : List OV} {l m : List (Sh × O)} {val : resD (outD m) l} {Q : Prop} (hf : prog.funcs[f]? = some fn) (h : Q) (hn : (fn.name == "runtime.NumGoroutine") = false := by kernel_rfl) (hu : zjf us m = true := by rfl) (e : fnV E L pl fn ⟨m.map (·.2), l, m.map (·.2)⟩ us (ansK l m fun r => r = val) = Q := by kernel_rfl) : z12 prog f us (encR l val).1 (encO us m (encR l val).2) := zm2 zgk (fun _ _ _ _ h => h) mixed hf hn rfl rfl hu (Eq.mpr e h)
theorem fy {f : FuncId} {fn : Func} {us : List OV} {l m : List (Sh × O)} {val : resD (outD m) l} {Q : Prop} (hf : prog.funcs[f]? = some fn) (h : Q) (hn : (fn.name == "runtime.NumGoroutine") = false := by kernel_rfl) (hu : zjf us m = true := by rfl) (e : fnV E nL nP fn ⟨m.map (·.2), l, m.map (·.2)⟩ us (ansK l m fun r => r = val) = Q := by kernel_rfl) : z12 prog f us (encR l val).1 (encO us m (encR l val).2) := zm2 zgk (fun _ _ _ _ h => h) mixed hf hn rfl rfl hu (Eq.mpr e h)
def z6c:List (Nat×Sh):=[(3,.int .i64),(4,.bool),(37,h41),(48,h40)]
def z5v:List (Nat×List Sig):=[(99,[⟨[.z,.z],[(.bool,.z)],[.z,.z]⟩]),(124,[⟨[.own .z,.z],[(h41,.own .z)],[.dead,.z]⟩])]
def z5s:List (Nat×List (Option Sh)):=[(99,[some (h40),some (h40)]),(124,[some (h41),none])]
noncomputable def E_slices_CompactFunc_Fact_tok_c_isameFact:Env:={ sh:=fun t=>z0d t z6c,sigs:=fun f=>(z0d f z5v).getD [],params:=fun f=>(z0d f z5s).getD [],gives:=z12 prog }
theorem z6d:∀ t s,E_slices_CompactFunc_Fact_tok_c_isameFact.sh t=some s->ShOk prog s none t:=z09d (by kernel_rfl)
theorem z7f {L : Nat -> Option Loop} {pl : Nat -> Option Pl} {f : FuncId} {fn : Func} {g : Sig} {us : List OV} {m : List (Sh × O)} {val : resD (outD m) g.res} {Q : Prop} (hf : prog.funcs[f]? = some fn) (h : Q) (hn : (fn.name == "runtime.NumGoroutine") = false := by kernel_rfl) (ho : g.outs = m.map (·.2) := by rfl) (hu : zjf us m = true := by rfl) (e : fnV E_slices_CompactFunc_Fact_tok_c_isameFact L pl fn g us (ansK g.res m fun r => r = val) = Q := by kernel_rfl) : z12 prog f us (encR g.res val).1 (encO us m (encR g.res val).2) := zm2 z6d (fun _ _ _ _ h => h) mixed hf hn rfl ho hu (Eq.mpr e h)
def z5a:List (Nat×Sh):=[(3,.int .i64),(4,.bool),(37,h41),(48,h40)]
def z4w:List (Nat×List Sig):=[(97,[⟨[.own .z,.z],[(h41,.own .z)],[.dead,.z]⟩]),(98,[⟨[.z,.z],[(.bool,.z)],[.z,.z]⟩]),(151,[⟨[.z,.z],[(.int .i64,.z)],[.z,.z]⟩])]
def z4z:List (Nat×List (Option Sh)):=[(97,[some (h41),none]),(98,[some (h40)]),(151,[some (h41),none])]
noncomputable def E_slices_DeleteFunc_Fact_tok_c_iDeleteFact_1:Env:={ sh:=fun t=>z0d t z5a,sigs:=fun f=>(z0d f z4w).getD [],params:=fun f=>(z0d f z4z).getD [],gives:=z12 prog }
theorem z5e:∀ t s,E_slices_DeleteFunc_Fact_tok_c_iDeleteFact_1.sh t=some s->ShOk prog s none t:=z09d (by kernel_rfl)
theorem z2u {L : Nat -> Option Loop} {pl : Nat -> Option Pl} {f : FuncId} {fn : Func} {g : Sig} {us : List OV} {m : List (Sh × O)} {val : resD (outD m) g.res} {Q : Prop} (hf : prog.funcs[f]? = some fn) (h : Q) (hn : (fn.name == "runtime.NumGoroutine") = false := by kernel_rfl) (ho : g.outs = m.map (·.2) := by rfl) (hu : zjf us m = true := by rfl) (e : fnV E_slices_DeleteFunc_Fact_tok_c_iDeleteFact_1 L pl fn g us (ansK g.res m fun r => r = val) = Q := by kernel_rfl) : z12 prog f us (encR g.res val).1 (encO us m (encR g.res val).2) := zm2 z5e (fun _ _ _ _ h => h) mixed hf hn rfl ho hu (Eq.mpr e h)
def z5o:List (Nat×Sh):=[(3,.int .i64),(4,.bool),(37,h41),(48,h40)]
def z5m:List (Nat×List Sig):=[(97,[⟨[.own .z,.z],[(h41,.own .z)],[.dead,.z]⟩]),(100,[⟨[.z,.z,.z],[(.bool,.z)],[.z,.z,.z]⟩]),(151,[⟨[.z,.z],[(.int .i64,.z)],[.z,.z]⟩])]
def z5l:List (Nat×List (Option Sh)):=[(97,[some (h41),none]),(100,[some (h40)]),(151,[some (h41),none])]
noncomputable def E_slices_DeleteFunc_Fact_tok_c_iRestrict_1:Env:={ sh:=fun t=>z0d t z5o,sigs:=fun f=>(z0d f z5m).getD [],params:=fun f=>(z0d f z5l).getD [],gives:=z12 prog }
theorem z5p:∀ t s,E_slices_DeleteFunc_Fact_tok_c_iRestrict_1.sh t=some s->ShOk prog s none t:=z09d (by kernel_rfl)
theorem z33 {L : Nat -> Option Loop} {pl : Nat -> Option Pl} {f : FuncId} {fn : Func} {g : Sig} {us : List OV} {m : List (Sh × O)} {val : resD (outD m) g.res} {Q : Prop} (hf : prog.funcs[f]? = some fn) (h : Q) (hn : (fn.name == "runtime.NumGoroutine") = false := by kernel_rfl) (ho : g.outs = m.map (·.2) := by rfl) (hu : zjf us m = true := by rfl) (e : fnV E_slices_DeleteFunc_Fact_tok_c_iRestrict_1 L pl fn g us (ansK g.res m fun r => r = val) = Q := by kernel_rfl) : z12 prog f us (encR g.res val).1 (encO us m (encR g.res val).2) := zm2 z5p (fun _ _ _ _ h => h) mixed hf hn rfl ho hu (Eq.mpr e h)
def z97 (x0:TSk) (x1:List z0a) (x2:z00) (y0:Bool):Prop:=gZ 4 [⟨h18,.z,x0⟩,⟨h25,.z,x1⟩,⟨h11,.z,x2⟩] [⟨.bool,.z,y0⟩]
def z7s (x0:TSk) (x1:Int) (y0:Int):Prop:=gZ 19 [⟨h32,.z,x0⟩,⟨.int .i64,.z,x1⟩] [⟨.int .i64,.z,y0⟩]
def zat (x0:List z06) (x1:Int) (y0:Int):Prop:=gZ 48 [⟨h30,.z,x0⟩,⟨.int .i64,.z,x1⟩] [⟨.int .i64,.z,y0⟩]
def zhy (x0:List Int) (x1:Int) (y0:Int):Prop:=gZ 88 [⟨.sl 3 (.int .i64),.z,x0⟩,⟨.int .i64,.z,x1⟩] [⟨.int .i64,.z,y0⟩]
def zfk (x0:z09) (x1:Int) (y0:Int):Prop:=gZ 47 [⟨h29,.z,x0⟩,⟨.int .i64,.z,x1⟩] [⟨.int .i64,.z,y0⟩]
def zk0 (x0:List z00) (x1:Int) (y0:Int):Prop:=gZ 87 [⟨h27,.z,x0⟩,⟨.int .i64,.z,x1⟩] [⟨.int .i64,.z,y0⟩]
def zd5 (x0:List z0p) (x1:Int) (y0:Int):Prop:=gZ 86 [⟨h26,.z,x0⟩,⟨.int .i64,.z,x1⟩] [⟨.int .i64,.z,y0⟩]
def zfh (x0:Int) (y0:List UInt8):Prop:=gZ 138 [⟨.int .i64,.z,x0⟩] [⟨.str,.z,y0⟩]
def z59 (x0:TSk) (x1:TSk) (y0:Bool):Prop:=gZ 13 [⟨h32,.z,x0⟩,⟨h32,.z,x1⟩] [⟨.bool,.z,y0⟩]
def zd9 (x0:List z06) (x1:List z06) (y0:Bool):Prop:=gZ 40 [⟨h30,.z,x0⟩,⟨h30,.z,x1⟩] [⟨.bool,.z,y0⟩]
def zb2 (x0:z06) (x1:z06) (y0:Bool):Prop:=gZ 82 [⟨h15,.z,x0⟩,⟨h15,.z,x1⟩] [⟨.bool,.z,y0⟩]
def zll (x0:List Int) (x1:List Int) (y0:Bool):Prop:=gZ 42 [⟨.sl 3 (.int .i64),.z,x0⟩,⟨.sl 3 (.int .i64),.z,x1⟩] [⟨.bool,.z,y0⟩]
def zie (x0:z09) (x1:z09) (y0:Bool):Prop:=gZ 39 [⟨h29,.z,x0⟩,⟨h29,.z,x1⟩] [⟨.bool,.z,y0⟩]
def zrk (x0:List z00) (x1:List z00) (y0:Bool):Prop:=gZ 81 [⟨h27,.z,x0⟩,⟨h27,.z,x1⟩] [⟨.bool,.z,y0⟩]
def zlb (x0:z00) (x1:z00) (y0:Bool):Prop:=gZ 15 [⟨h11,.z,x0⟩,⟨h11,.z,x1⟩] [⟨.bool,.z,y0⟩]
def zgr (x0:List z0p) (x1:List z0p) (y0:Bool):Prop:=gZ 80 [⟨h26,.z,x0⟩,⟨h26,.z,x1⟩] [⟨.bool,.z,y0⟩]
def zee (x0:z0p) (x1:z0p) (y0:Bool):Prop:=gZ 136 [⟨h8,.z,x0⟩,⟨h8,.z,x1⟩] [⟨.bool,.z,y0⟩]
def z6t (x0:TSk) (x1:List z0a) (x2:z00) (y0:TSk) (y1:Bool):Prop:=gZ 21 [⟨h32,.z,x0⟩,⟨h36,.z,x1⟩,⟨h11,.z,x2⟩] [⟨h32,oS,y0⟩,⟨.bool,.z,y1⟩]
def z0w (x0:TSk) (y0:TSk):Prop:=gZ 36 [⟨h32,.z,x0⟩] [⟨h32,oS,y0⟩]
def zom (x0:z06) (y0:z06):Prop:=gZ 72 [⟨h15,.z,x0⟩] [⟨h15,.pr .z (.pr .z (.pr (.own .z) .z)),y0⟩]
def z1b (x0:List Int) (y0:List Int):Prop:=gZ 118 [⟨.sl 3 (.int .i64),.z,x0⟩] [⟨.sl 3 (.int .i64),.own .z,y0⟩]
def z85 (x0:z09) (y0:z09):Prop:=gZ 71 [⟨h29,.z,x0⟩] [⟨h29,oI,y0⟩]
def zg7 (x0:List z00) (y0:List z00):Prop:=gZ 117 [⟨h27,.z,x0⟩] [⟨h27,oF,y0⟩]
def zoe (x0:z00) (y0:z00):Prop:=gZ 161 [⟨h11,.z,x0⟩] [⟨h11,.pr .z (.pr (.own .z) .z),y0⟩]
def z6w (x0:List z0p) (y0:List z0p):Prop:=gZ 116 [⟨h26,.z,x0⟩] [⟨h26,.own .z,y0⟩]
def zc9 (x0:TSk) (x1:List z0a) (y0:TSk) (y1:Bool):Prop:=gZ 38 [⟨h32,.z,x0⟩,⟨h36,.z,x1⟩] [⟨h32,oS,y0⟩,⟨.bool,.z,y1⟩]
def zgv (x0:TSk) (x1:List z0a) (x2:Int) (x3:List Int) (y0:TSk) (y1:Bool):Prop:=gZ 79 [⟨h32,.z,x0⟩,⟨h36,.z,x1⟩,⟨.int .i64,.z,x2⟩,⟨.sl 3 (.int .i64),.z,x3⟩] [⟨h32,oS,y0⟩,⟨.bool,.z,y1⟩]
def z24 (x0:TSk) (y0:Bool):Prop:=gZ 76 [⟨h32,.z,x0⟩] [⟨.bool,.z,y0⟩]
def zoc (x0:List z06) (y0:Bool):Prop:=gZ 126 [⟨h30,.z,x0⟩] [⟨.bool,.z,y0⟩]
def z2a (x0:List Int) (x1:Unit) (y0:Bool):Prop:=gZ 113 [⟨.sl 3 (.int .i64),.z,x0⟩,⟨.fn 172 .unit,.z,x1⟩] [⟨.bool,.z,y0⟩]
def z2m (x0:List Int) (x1:Unit) (y0:Int):Prop:=gZ 160 [⟨.sl 3 (.int .i64),.z,x0⟩,⟨.fn 172 .unit,.z,x1⟩] [⟨.int .i64,.z,y0⟩]
def z8x (x0:Int) (y0:Bool):Prop:=gZ 172 [⟨.int .i64,.z,x0⟩] [⟨.bool,.z,y0⟩]
def zxj (x0:List z06) (y0:List Int):Prop:=gZ 171 [⟨h30,.z,x0⟩] [⟨.sl 3 (.int .i64),.own .z,y0⟩]
def zhj (x0:List Int) (y0:List Int):Prop:=gZ 165 [⟨.sl 3 (.int .i64),.z,x0⟩] [⟨.sl 3 (.int .i64),.own .z,y0⟩]
def z4a (x0:List Int) (y0:List Int):Prop:=z12 prog 203 [⟨.sl 3 (.int .i64),.own .z,x0⟩] [⟨.sl 3 (.int .i64),.own .z,y0⟩] [⟨.sl 3 (.int .i64),.dead,x0⟩]
def z5d (x0:List Int) (z0:List Int):Prop:=z12 prog 202 [⟨.sl 3 (.int .i64),.own .z,x0⟩] [] [⟨.sl 3 (.int .i64),.own .z,z0⟩]
def z8v (x0:Int) (y0:Int) (y1:Bool):Prop:=gZ 201 [⟨.int .i64,.z,x0⟩] [⟨.int .i64,.z,y0⟩,⟨.bool,.z,y1⟩]
def z7d (x0:Int) (x1:Int) (x2:Int) (y0:Bool):Prop:=gZ 112 [⟨.int .i64,.z,x0⟩,⟨.int .i64,.z,x1⟩,⟨.int .i64,.z,x2⟩] [⟨.bool,.z,y0⟩]
def zk5 (x0:List z06) (x1:z06) (y0:Int):Prop:=gZ 170 [⟨h30,.z,x0⟩,⟨h15,.z,x1⟩] [⟨.int .i64,.z,y0⟩]
def z1p (x0:List z06) (x1:z06×Unit) (y0:Int):Prop:=gZ 215 [⟨h30,.z,x0⟩,⟨.fn 216 h38,.z,x1⟩] [⟨.int .i64,.z,y0⟩]
def zfr (x0:z06) (x1:z06) (y0:Bool):Prop:=gZ 216 [⟨h15,.z,x0⟩,⟨.ptr h15,.z,x1⟩] [⟨.bool,.z,y0⟩]
def z7t (x0:List Int) (x1:List Int) (y0:Bool):Prop:=gZ 181 [⟨.sl 3 (.int .i64),.z,x0⟩,⟨.sl 3 (.int .i64),.z,x1⟩] [⟨.bool,.z,y0⟩]
def znp (x0:z06) (x1:Int) (y0:Bool):Prop:=gZ 169 [⟨h15,.z,x0⟩,⟨.int .i64,.z,x1⟩] [⟨.bool,.z,y0⟩]
def z29 (x0:List Int) (x1:Int×Unit) (y0:Bool):Prop:=gZ 113 [⟨.sl 3 (.int .i64),.z,x0⟩,⟨.fn 214 h39,.z,x1⟩] [⟨.bool,.z,y0⟩]
def z2o (x0:List Int) (x1:Int×Unit) (y0:Int):Prop:=gZ 160 [⟨.sl 3 (.int .i64),.z,x0⟩,⟨.fn 214 h39,.z,x1⟩] [⟨.int .i64,.z,y0⟩]
def z8w (x0:Int) (x1:Int) (y0:Bool):Prop:=gZ 214 [⟨.int .i64,.z,x0⟩,⟨.ptr (.int .i64),.z,x1⟩] [⟨.bool,.z,y0⟩]
def z6a (x0:Int) (y0:Bool):Prop:=gZ 115 [⟨.int .i64,.z,x0⟩] [⟨.bool,.z,y0⟩]
def zni (x0:z09) (y0:Int):Prop:=gZ 125 [⟨h29,.z,x0⟩] [⟨.int .i64,.z,y0⟩]
def zbd (x0:z09) (y0:List Int):Prop:=gZ 168 [⟨h29,.z,x0⟩] [⟨.sl 3 (.int .i64),.own .z,y0⟩]
def z30 (x0:z09) (y0:Bool):Prop:=gZ 73 [⟨h29,.z,x0⟩] [⟨.bool,.z,y0⟩]
def z9t (x0:z00) (y0:List Int):Prop:=gZ 120 [⟨h11,.z,x0⟩] [⟨.sl 3 (.int .i64),.own .z,y0⟩]
def z4u (x0:z00) (x1:z00) (y0:Int):Prop:=gZ 119 [⟨h11,.z,x0⟩,⟨h11,.z,x1⟩] [⟨.int .i64,.z,y0⟩]
def zka (x0:List Int) (y0:Int):Prop:=gZ 162 [⟨.sl 3 (.int .i64),.z,x0⟩] [⟨.int .i64,.z,y0⟩]
def z9c (x0:List Int) (x1:List Int) (y0:Int):Prop:=gZ 164 [⟨.sl 3 (.int .i64),.z,x0⟩,⟨.sl 3 (.int .i64),.z,x1⟩] [⟨.int .i64,.z,y0⟩]
def z94 (x0:Int) (x1:Int) (y0:Int):Prop:=gZ 163 [⟨.int .i64,.z,x0⟩,⟨.int .i64,.z,x1⟩] [⟨.int .i64,.z,y0⟩]
def zap (x0:Int) (y0:Bool):Prop:=gZ 200 [⟨.int .i64,.z,x0⟩] [⟨.bool,.z,y0⟩]
def zc3 (x0:List z0p) (x1:z00) (y0:Bool):Prop:=gZ 70 [⟨h26,.z,x0⟩,⟨h11,.z,x1⟩] [⟨.bool,.z,y0⟩]
def z1m (x0:List Int) (x1:Unit) (y0:Bool):Prop:=gZ 113 [⟨.sl 3 (.int .i64),.z,x0⟩,⟨.fn 114 .unit,.z,x1⟩] [⟨.bool,.z,y0⟩]
def z27 (x0:List Int) (x1:Unit) (y0:Int):Prop:=gZ 160 [⟨.sl 3 (.int .i64),.z,x0⟩,⟨.fn 114 .unit,.z,x1⟩] [⟨.int .i64,.z,y0⟩]
def z52 (x0:Int) (y0:Bool):Prop:=gZ 114 [⟨.int .i64,.z,x0⟩] [⟨.bool,.z,y0⟩]
def z3a (x0:List z0p) (y0:Bool):Prop:=gZ 111 [⟨h26,.z,x0⟩] [⟨.bool,.z,y0⟩]
def zal (x0:z0p) (y0:Bool):Prop:=gZ 159 [⟨h8,.z,x0⟩] [⟨.bool,.z,y0⟩]
def zo5 (x0:List z00) (y0:List z00):Prop:=gZ 75 [⟨h27,.z,x0⟩] [⟨h27,oF,y0⟩]
def z16 (x0:List z00) (x1:Unit) (y0:List z00):Prop:=z12 prog 124 [⟨h27,oF,x0⟩,⟨.fn 99 .unit,.z,x1⟩] [⟨h27,oF,y0⟩] [⟨h27,.dead,x0⟩,⟨.fn 99 .unit,.z,x1⟩]
def z1q (x0:List (z9b z00)) (x1:Unit) (y0:List (z9b z00)):Prop:=z12 prog 124 [⟨h41,.own .z,x0⟩,⟨.fn 99 .unit,.z,x1⟩] [⟨h41,.own .z,y0⟩] [⟨h41,.dead,x0⟩,⟨.fn 99 .unit,.z,x1⟩]
def zfl (x0:z9b z00) (x1:z9b z00) (y0:Bool):Prop:=gZ 99 [⟨h40,.z,x0⟩,⟨h40,.z,x1⟩] [⟨.bool,.z,y0⟩]
def zew (x0:z00) (x1:z00) (y0:Bool):Prop:=gZ 99 [⟨h11,.z,x0⟩,⟨h11,.z,x1⟩] [⟨.bool,.z,y0⟩]
def z13 (x0:List z00) (x1:Unit) (z0:List z00):Prop:=z12 prog 123 [⟨h27,oF,x0⟩,⟨.fn 119 .unit,.z,x1⟩] [] [⟨h27,oF,z0⟩,⟨.fn 119 .unit,.z,x1⟩]
def zk6 (x0:List z06) (x1:List z0a) (x2:Int) (x3:List Int) (y0:List z00) (y1:List z06):Prop:=gZ 135 [⟨h30,.z,x0⟩,⟨h36,.z,x1⟩,⟨.int .i64,.z,x2⟩,⟨.sl 3 (.int .i64),.z,x3⟩] [⟨h27,oF,y0⟩,⟨h30,.own .z,y1⟩]
def z7m (x0:z00) (x1:List Int) (y0:z00) (y1:Bool):Prop:=gZ 183 [⟨h11,.z,x0⟩,⟨.sl 3 (.int .i64),.z,x1⟩] [⟨h11,.pr .z (.pr (.own .z) .z),y0⟩,⟨.bool,.z,y1⟩]
def zaf (x0:Int) (y0:Int):Prop:=gZ 187 [⟨.int .i64,.z,x0⟩] [⟨.int .i64,.z,y0⟩]
def z4m (x0:z0a) (y0:List Int):Prop:=gZ 186 [⟨h35,.z,x0⟩] [⟨.sl 3 (.int .i64),.own .z,y0⟩]
def za5 (x0:z0a) (x1:Bool) (y0:List Int):Prop:=gZ 223 [⟨h35,.z,x0⟩,⟨.bool,.z,x1⟩] [⟨.sl 3 (.int .i64),.own .z,y0⟩]
def z20 (x0:List Int) (x1:Int) (y0:Bool):Prop:=gZ 109 [⟨.sl 3 (.int .i64),.z,x0⟩,⟨.int .i64,.z,x1⟩] [⟨.bool,.z,y0⟩]
def zbi (x0:List Int) (x1:Int) (y0:Int):Prop:=gZ 154 [⟨.sl 3 (.int .i64),.z,x0⟩,⟨.int .i64,.z,x1⟩] [⟨.int .i64,.z,y0⟩]
def zae (x0:List z00) (y0:List Int):Prop:=gZ 182 [⟨h33,.z,x0⟩] [⟨.sl 3 (.int .i64),.own .z,y0⟩]
def z3w (x0:List z06) (y0:List z06):Prop:=gZ 185 [⟨h30,.z,x0⟩] [⟨h30,.own .z,y0⟩]
def z60 (x0:z0a) (y0:List Int):Prop:=gZ 184 [⟨h35,.z,x0⟩] [⟨.sl 3 (.int .i64),.own .z,y0⟩]
def zki (x0:z09) (x1:z0a) (x2:List Int) (y0:Bool):Prop:=gZ 134 [⟨h29,.z,x0⟩,⟨h35,.z,x1⟩,⟨.sl 3 (.int .i64),.z,x2⟩] [⟨.bool,.z,y0⟩]
def zek (x0:List z00) (x1:z00) (y0:Bool):Prop:=gZ 74 [⟨h27,.z,x0⟩,⟨h11,.z,x1⟩] [⟨.bool,.z,y0⟩]
def z1y (x0:List z00) (x1:z00×Unit) (y0:Bool):Prop:=gZ 121 [⟨h27,.z,x0⟩,⟨.fn 122 h42,.z,x1⟩] [⟨.bool,.z,y0⟩]
def z2n (x0:List z00) (x1:z00×Unit) (y0:Int):Prop:=gZ 151 [⟨h27,.z,x0⟩,⟨.fn 122 h42,.z,x1⟩] [⟨.int .i64,.z,y0⟩]
def zcu (x0:z00) (x1:z00) (y0:Bool):Prop:=gZ 122 [⟨h11,.z,x0⟩,⟨.ptr h11,.z,x1⟩] [⟨.bool,.z,y0⟩]
def z61 (x0:List z0p) (x1:z0a) (y0:Bool):Prop:=gZ 174 [⟨h26,.z,x0⟩,⟨h35,.z,x1⟩] [⟨.bool,.z,y0⟩]
def z0z (x0:List z00) (x1:List z0p×Unit) (y0:Bool):Prop:=gZ 217 [⟨h33,.z,x0⟩,⟨.fn 218 h43,.z,x1⟩] [⟨.bool,.z,y0⟩]
def z18 (x0:List z00) (x1:List z0p×Unit) (y0:Int):Prop:=gZ 230 [⟨h33,.z,x0⟩,⟨.fn 218 h43,.z,x1⟩] [⟨.int .i64,.z,y0⟩]
def z2l (x0:z00) (x1:List z0p) (y0:Bool):Prop:=gZ 218 [⟨h11,.z,x0⟩,⟨.ptr h26,.z,x1⟩] [⟨.bool,.z,y0⟩]
def zf2 (x0:List z0p) (x1:List z00) (x2:Int) (y0:Bool):Prop:=gZ 176 [⟨h26,.z,x0⟩,⟨h33,.z,x1⟩,⟨.int .i64,.z,x2⟩] [⟨.bool,.z,y0⟩]
def z1t (x0:List z00) (x1:List z0p×Unit) (y0:Bool):Prop:=gZ 217 [⟨h33,.z,x0⟩,⟨.fn 219 h43,.z,x1⟩] [⟨.bool,.z,y0⟩]
def z2i (x0:List z00) (x1:List z0p×Unit) (y0:Int):Prop:=gZ 230 [⟨h33,.z,x0⟩,⟨.fn 219 h43,.z,x1⟩] [⟨.int .i64,.z,y0⟩]
def z95 (x0:z00) (x1:List z0p) (y0:Bool):Prop:=gZ 219 [⟨h11,.z,x0⟩,⟨.ptr h26,.z,x1⟩] [⟨.bool,.z,y0⟩]
def zh5 (x0:List z0p) (x1:z00) (y0:Bool):Prop:=gZ 220 [⟨h26,.z,x0⟩,⟨h11,.z,x1⟩] [⟨.bool,.z,y0⟩]
def z1j (x0:List Int) (x1:Unit) (y0:Bool):Prop:=gZ 113 [⟨.sl 3 (.int .i64),.z,x0⟩,⟨.fn 231 .unit,.z,x1⟩] [⟨.bool,.z,y0⟩]
def z21 (x0:List Int) (x1:Unit) (y0:Int):Prop:=gZ 160 [⟨.sl 3 (.int .i64),.z,x0⟩,⟨.fn 231 .unit,.z,x1⟩] [⟨.int .i64,.z,y0⟩]
def z56 (x0:Int) (y0:Bool):Prop:=gZ 231 [⟨.int .i64,.z,x0⟩] [⟨.bool,.z,y0⟩]
def zbw (x0:List z0p) (x1:List z0a) (y0:Bool):Prop:=gZ 77 [⟨h26,.z,x0⟩,⟨h36,.z,x1⟩] [⟨.bool,.z,y0⟩]
def z19 (x0:List z0a) (x1:Unit) (y0:Bool):Prop:=gZ 128 [⟨h36,.z,x0⟩,⟨.fn 129 .unit,.z,x1⟩] [⟨.bool,.z,y0⟩]
def z1h (x0:List z0a) (x1:Unit) (y0:Int):Prop:=gZ 175 [⟨h36,.z,x0⟩,⟨.fn 129 .unit,.z,x1⟩] [⟨.int .i64,.z,y0⟩]
def z92 (x0:z0a) (y0:Bool):Prop:=gZ 129 [⟨h35,.z,x0⟩] [⟨.bool,.z,y0⟩]
def z6v (x0:List z0p) (x1:List z0a) (y0:Bool):Prop:=gZ 127 [⟨h26,.z,x0⟩,⟨h36,.z,x1⟩] [⟨.bool,.z,y0⟩]
def z0s (x0:List z0a) (x1:List z0p×Unit) (y0:Bool):Prop:=gZ 128 [⟨h36,.z,x0⟩,⟨.fn 173 h43,.z,x1⟩] [⟨.bool,.z,y0⟩]
def z0u (x0:List z0a) (x1:List z0p×Unit) (y0:Int):Prop:=gZ 175 [⟨h36,.z,x0⟩,⟨.fn 173 h43,.z,x1⟩] [⟨.int .i64,.z,y0⟩]
def z1n (x0:z0a) (x1:List z0p) (y0:Bool):Prop:=gZ 173 [⟨h35,.z,x0⟩,⟨.ptr h26,.z,x1⟩] [⟨.bool,.z,y0⟩]
def zca (x0:z09) (x1:List z00) (y0:List (List Int)):Prop:=gZ 78 [⟨h29,.z,x0⟩,⟨h33,.z,x1⟩] [⟨.sl 30 (.sl 3 (.int .i64)),.own (.own .z),y0⟩]
def zi5 (x0:List (List Int)) (x1:List Int) (y0:Bool):Prop:=gZ 133 [⟨.sl 30 (.sl 3 (.int .i64)),.z,x0⟩,⟨.sl 3 (.int .i64),.z,x1⟩] [⟨.bool,.z,y0⟩]
def z1k (x0:List (List Int)) (x1:TUf) (y0:Bool):Prop:=gZ 179 [⟨.sl 30 (.sl 3 (.int .i64)),.z,x0⟩,⟨.fn 180 h44,.z,x1⟩] [⟨.bool,.z,y0⟩]
def z23 (x0:List (List Int)) (x1:TUf) (y0:Int):Prop:=gZ 222 [⟨.sl 30 (.sl 3 (.int .i64)),.z,x0⟩,⟨.fn 180 h44,.z,x1⟩] [⟨.int .i64,.z,y0⟩]
def z84 (x0:List Int) (x1:List Int) (y0:Bool):Prop:=gZ 180 [⟨.sl 3 (.int .i64),.z,x0⟩,⟨.ptr (.sl 3 (.int .i64)),.z,x1⟩] [⟨.bool,.z,y0⟩]
def zmb (x0:List z00) (x1:List z00) (x2:List Int) (y0:List (List Int)):Prop:=z12 prog 131 [⟨h27,.z,x0⟩,⟨h33,.z,x1⟩,⟨.sl 3 (.int .i64),.own .z,x2⟩] [⟨.sl 30 (.sl 3 (.int .i64)),.own (.own .z),y0⟩] [⟨h27,.z,x0⟩,⟨h33,.z,x1⟩,⟨.sl 3 (.int .i64),.dead,x2⟩]
def z061 (x0:List Int) (x1:z00) (x2:z00) (y0:List Int) (y1:Bool):Prop:=gZ 177 [⟨.sl 3 (.int .i64),.z,x0⟩,⟨h11,.z,x1⟩,⟨h11,.z,x2⟩] [⟨.sl 3 (.int .i64),.own .z,y0⟩,⟨.bool,.z,y1⟩]
def zbu  (y0:List Int):Prop:=gZ 132 [] [⟨.sl 3 (.int .i64),.own .z,y0⟩]
def zab (x0:List Int) (x1:Int) (y0:List Int):Prop:=gZ 178 [⟨.sl 3 (.int .i64),.z,x0⟩,⟨.int .i64,.z,x1⟩] [⟨.sl 3 (.int .i64),.own .z,y0⟩]
def zl7 (x0:Int) (x1:Int) (y0:Int) (y1:Int):Prop:=gZ 221 [⟨.int .u64,.z,x0⟩,⟨.int .u64,.z,x1⟩] [⟨.int .u64,.z,y0⟩,⟨.int .u64,.z,y1⟩]
def zbx (x0:Int) (x1:Int) (y0:Int) (y1:Int):Prop:=gZ 233 [⟨.int .u64,.z,x0⟩,⟨.int .u64,.z,x1⟩] [⟨.int .u64,.z,y0⟩,⟨.int .u64,.z,y1⟩]
def zes (x0:z09) (x1:List z00) (y0:Bool):Prop:=gZ 130 [⟨h29,.z,x0⟩,⟨h33,.z,x1⟩] [⟨.bool,.z,y0⟩]
def zir (x0:z09) (x1:z00) (y0:z09) (y1:Bool):Prop:=gZ 53 [⟨h29,.z,x0⟩,⟨h11,.z,x1⟩] [⟨h29,oI,y0⟩,⟨.bool,.z,y1⟩]
def z10 (x0:List z00) (x1:z00×Unit) (y0:List z00):Prop:=z12 prog 97 [⟨h27,oF,x0⟩,⟨.fn 98 h42,.z,x1⟩] [⟨h27,oF,y0⟩] [⟨h27,.dead,x0⟩,⟨.fn 98 h42,.z,x1⟩]
def z1c (x0:List (z9b z00)) (x1:z00×Unit) (y0:List (z9b z00)):Prop:=z12 prog 97 [⟨h41,.own .z,x0⟩,⟨.fn 98 h42,.z,x1⟩] [⟨h41,.own .z,y0⟩] [⟨h41,.dead,x0⟩,⟨.fn 98 h42,.z,x1⟩]
def z3m (x0:z9b z00) (x1:z00) (y0:Bool):Prop:=gZ 98 [⟨h40,.z,x0⟩,⟨.ptr h11,.z,x1⟩] [⟨.bool,.z,y0⟩]
def zf9 (x0:z00) (x1:z00) (y0:Bool):Prop:=gZ 98 [⟨h11,.z,x0⟩,⟨.ptr h11,.z,x1⟩] [⟨.bool,.z,y0⟩]
def z1z (x0:List (z9b z00)) (x1:z00×Unit) (y0:Int):Prop:=gZ 151 [⟨h41,.z,x0⟩,⟨.fn 98 h42,.z,x1⟩] [⟨.int .i64,.z,y0⟩]
def zez (x0:z09) (x1:z00) (y0:Bool):Prop:=gZ 96 [⟨h29,.z,x0⟩,⟨h11,.z,x1⟩] [⟨.bool,.z,y0⟩]
def zoa (x0:z09) (x1:Bool) (y0:z09):Prop:=gZ 54 [⟨h29,.z,x0⟩,⟨.bool,.z,x1⟩] [⟨h29,oI,y0⟩]
def z14 (x0:List z00) (x1:(List z0p×(Bool×List z00)×Unit)×Bool×Unit) (y0:List z00):Prop:=z12 prog 97 [⟨h27,oF,x0⟩,⟨.fn 100 h48,.z,x1⟩] [⟨h27,oF,y0⟩] [⟨h27,.dead,x0⟩,⟨.fn 100 h48,.z,x1⟩]
def z1l (x0:List (z9b z00)) (x1:(List z0p×(Bool×List z00)×Unit)×Bool×Unit) (y0:List (z9b z00)):Prop:=z12 prog 97 [⟨h41,.own .z,x0⟩,⟨.fn 100 h48,.z,x1⟩] [⟨h41,.own .z,y0⟩] [⟨h41,.dead,x0⟩,⟨.fn 100 h48,.z,x1⟩]
def z4r (x0:z9b z00) (x1:List z0p×(Bool×List z00)×Unit) (x2:Bool) (y0:Bool):Prop:=gZ 100 [⟨h40,.z,x0⟩,⟨.ptr h46,.z,x1⟩,⟨.ptr .bool,.z,x2⟩] [⟨.bool,.z,y0⟩]
def zi0 (x0:z00) (x1:List z0p×(Bool×List z00)×Unit) (x2:Bool) (y0:Bool):Prop:=gZ 100 [⟨h11,.z,x0⟩,⟨.ptr h46,.z,x1⟩,⟨.ptr .bool,.z,x2⟩] [⟨.bool,.z,y0⟩]
def z2h (x0:List (z9b z00)) (x1:(List z0p×(Bool×List z00)×Unit)×Bool×Unit) (y0:Int):Prop:=gZ 151 [⟨h41,.z,x0⟩,⟨.fn 100 h48,.z,x1⟩] [⟨.int .i64,.z,y0⟩]
def zf4 (x0:List z0p) (x1:z00) (y0:Bool):Prop:=gZ 35 [⟨h26,.z,x0⟩,⟨h11,.z,x1⟩] [⟨.bool,.z,y0⟩]
def zik (x0:TSk) (x1:List z0a) (y0:Bool):Prop:=gZ 34 [⟨h32,.z,x0⟩,⟨h36,.z,x1⟩] [⟨.bool,.z,y0⟩]
def zdm (x0:TSk) (x1:List z0a) (y0:Bool):Prop:=gZ 69 [⟨h32,.z,x0⟩,⟨h36,.z,x1⟩] [⟨.bool,.z,y0⟩]
def zw5 (x0:TSk) (x1:List z0a) (y0:List Int):Prop:=gZ 110 [⟨h32,.z,x0⟩,⟨h36,.z,x1⟩] [⟨.sl 3 (.int .i64),.own .z,y0⟩]
def z1f (x0:List z00) (x1:List z00×List Int×List z0a×Unit) (y0:Bool):Prop:=gZ 156 [⟨h37,.z,x0⟩,⟨.fn 157 h51,.z,x1⟩] [⟨.bool,.z,y0⟩]
def z1s (x0:List z00) (x1:List z00×List Int×List z0a×Unit) (y0:Int):Prop:=gZ 198 [⟨h37,.z,x0⟩,⟨.fn 157 h51,.z,x1⟩] [⟨.int .i64,.z,y0⟩]
def zfg (x0:z00) (x1:List z00) (x2:List Int) (x3:List z0a) (y0:Bool):Prop:=gZ 157 [⟨h11,.z,x0⟩,⟨.ptr h27,.z,x1⟩,⟨.ptr (.sl 3 (.int .i64)),.z,x2⟩,⟨.ptr h36,.z,x3⟩] [⟨.bool,.z,y0⟩]
def zjx (x0:List z00) (x1:List Int) (x2:List z0a) (x3:z00) (y0:Bool):Prop:=gZ 158 [⟨h27,.z,x0⟩,⟨.sl 3 (.int .i64),.z,x1⟩,⟨h36,.z,x2⟩,⟨h11,.z,x3⟩] [⟨.bool,.z,y0⟩]
def z15 (x0:List z00) (x1:z00) (x2:Unit) (y0:Int) (y1:Bool):Prop:=gZ 199 [⟨h27,.z,x0⟩,⟨h11,.z,x1⟩,⟨.fn 119 .unit,.z,x2⟩] [⟨.int .i64,.z,y0⟩,⟨.bool,.z,y1⟩]
def zgx (x0:TSk) (x1:List z0a) (x2:z00) (y0:List z00):Prop:=gZ 155 [⟨h32,.z,x0⟩,⟨h36,.z,x1⟩,⟨h11,.z,x2⟩] [⟨h37,oF,y0⟩]
def zd6 (x0:List z06) (x1:List z0a) (x2:Int) (x3:List Int) (y0:List z00) (y1:List z06) (z3:List Int):Prop:=z12 prog 135 [⟨h30,.z,x0⟩,⟨h36,.z,x1⟩,⟨.int .i64,.z,x2⟩,⟨.sl 3 (.int .i64),.own .z,x3⟩] [⟨h27,oF,y0⟩,⟨h30,.own .z,y1⟩] [⟨h30,.z,x0⟩,⟨h36,.z,x1⟩,⟨.int .i64,.z,x2⟩,⟨.sl 3 (.int .i64),.own .z,z3⟩]
def zck (x0:z00) (y0:z00):Prop:=gZ 11 [⟨h11,.z,x0⟩] [⟨h11,.pr .z (.pr (.own .z) .z),y0⟩]
def zld (x0:List Int) (y0:List Int):Prop:=gZ 33 [⟨.sl 3 (.int .i64),.z,x0⟩] [⟨.sl 3 (.int .i64),.own .z,y0⟩]
def z57 (x0:List z0a) (y0:List z0a):Prop:=gZ 10 [⟨h25,.z,x0⟩] [⟨h36,oE,y0⟩]
def zau (x0:z0a) (y0:z0a):Prop:=gZ 32 [⟨h24,.z,x0⟩] [⟨h35,oD,y0⟩]
def zma (x0:List z00) (y0:List z00):Prop:=gZ 68 [⟨h19,.z,x0⟩] [⟨h33,oF,y0⟩]
def zp7 (x0:z00) (y0:z00):Prop:=gZ 108 [⟨h11,.z,x0⟩] [⟨h11,.pr .z (.pr (.own .z) .z),y0⟩]
def z54 (x0:TSk) (y0:TSk):Prop:=gZ 9 [⟨h18,.z,x0⟩] [⟨h32,oS,y0⟩]
def zd0 (x0:List z06) (y0:List z06):Prop:=gZ 31 [⟨h16,.z,x0⟩] [⟨h30,oT,y0⟩]
def zaq (x0:z06) (y0:z06):Prop:=gZ 67 [⟨h15,.z,x0⟩] [⟨h15,.pr .z (.pr .z (.pr (.own .z) .z)),y0⟩]
def ziz (x0:z09) (y0:z09):Prop:=gZ 30 [⟨h14,.z,x0⟩] [⟨h29,oI,y0⟩]
def zr8 (x0:List z00) (y0:List z00):Prop:=gZ 66 [⟨h12,.z,x0⟩] [⟨h27,oF,y0⟩]
def zgo (x0:List z0p) (y0:List z0p):Prop:=gZ 65 [⟨h9,.z,x0⟩] [⟨h26,.own .z,y0⟩]
def zec (x0:z0p) (y0:z0p):Prop:=gZ 107 [⟨h8,.z,x0⟩] [⟨h8,.z,y0⟩]
def z0v (x0:TSk) (x1:Int) (y0:Int) (z0:TSk):Prop:=z12 prog 16 [⟨h32,oS,x0⟩,⟨.int .i64,.z,x1⟩] [⟨.int .i64,.z,y0⟩] [⟨h32,oS,z0⟩,⟨.int .i64,.z,x1⟩]
def z4c (x0:List z06) (x1:Int) (y0:Int) (z0:List z06):Prop:=z12 prog 44 [⟨h30,oT,x0⟩,⟨.int .i64,.z,x1⟩] [⟨.int .i64,.z,y0⟩] [⟨h30,oT,z0⟩,⟨.int .i64,.z,x1⟩]
def z6h (x0:List Int) (x1:Int) (y0:Int) (z0:List Int):Prop:=z12 prog 46 [⟨.sl 3 (.int .i64),.own .z,x0⟩,⟨.int .i64,.z,x1⟩] [⟨.int .i64,.z,y0⟩] [⟨.sl 3 (.int .i64),.own .z,z0⟩,⟨.int .i64,.z,x1⟩]
def z4g (x0:z09) (x1:Int) (y0:Int) (z0:z09):Prop:=z12 prog 43 [⟨h29,oI,x0⟩,⟨.int .i64,.z,x1⟩] [⟨.int .i64,.z,y0⟩] [⟨h29,oI,z0⟩,⟨.int .i64,.z,x1⟩]
def z8f (x0:List z00) (x1:Int) (y0:Int) (z0:List z00):Prop:=z12 prog 85 [⟨h27,oF,x0⟩,⟨.int .i64,.z,x1⟩] [⟨.int .i64,.z,y0⟩] [⟨h27,oF,z0⟩,⟨.int .i64,.z,x1⟩]
def z9g (x0:List z0p) (x1:Int) (y0:Int) (z0:List z0p):Prop:=z12 prog 84 [⟨h26,.own .z,x0⟩,⟨.int .i64,.z,x1⟩] [⟨.int .i64,.z,y0⟩] [⟨h26,.own .z,z0⟩,⟨.int .i64,.z,x1⟩]
def za9 (x0:z00) (x1:Int) (y0:Int) (z0:z00):Prop:=z12 prog 18 [⟨h11,.pr .z (.pr (.own .z) .z),x0⟩,⟨.int .i64,.z,x1⟩] [⟨.int .i64,.z,y0⟩] [⟨h11,.pr .z (.pr (.own .z) .z),z0⟩,⟨.int .i64,.z,x1⟩]
def z2d (x0:List z0a) (x1:Int) (y0:Int) (z0:List z0a):Prop:=z12 prog 17 [⟨h36,oE,x0⟩,⟨.int .i64,.z,x1⟩] [⟨.int .i64,.z,y0⟩] [⟨h36,oE,z0⟩,⟨.int .i64,.z,x1⟩]
def z5b (x0:List z00) (x1:Int) (y0:Int) (z0:List z00):Prop:=z12 prog 45 [⟨h33,oF,x0⟩,⟨.int .i64,.z,x1⟩] [⟨.int .i64,.z,y0⟩] [⟨h33,oF,z0⟩,⟨.int .i64,.z,x1⟩]
def zdq (x0:List z0a) (x1:List z0a) (y0:Bool):Prop:=gZ 14 [⟨h36,.z,x0⟩,⟨h36,.z,x1⟩] [⟨.bool,.z,y0⟩]
def zb1 (x0:z0a) (x1:z0a) (y0:Bool):Prop:=gZ 41 [⟨h35,.z,x0⟩,⟨h35,.z,x1⟩] [⟨.bool,.z,y0⟩]
def zlt (x0:List z00) (x1:List z00) (y0:Bool):Prop:=gZ 83 [⟨h33,.z,x0⟩,⟨h33,.z,x1⟩] [⟨.bool,.z,y0⟩]
def zpu (x0:z00) (x1:z00) (y0:Bool):Prop:=gZ 137 [⟨h11,.z,x0⟩,⟨h11,.z,x1⟩] [⟨.bool,.z,y0⟩]
def zaa (x0:TSk) (x1:List z0a) (x2:z00) (y0:TSk) (y1:Bool):Prop:=gZ 20 [⟨h32,.z,x0⟩,⟨h36,.z,x1⟩,⟨h11,.z,x2⟩] [⟨h32,.z,y0⟩,⟨.bool,.z,y1⟩]
def zbq (x0:TSk) (y0:TSk):Prop:=gZ 26 [⟨h32,.z,x0⟩] [⟨h32,oS,y0⟩]
def zov (x0:z09) (y0:z09):Prop:=gZ 59 [⟨h29,.z,x0⟩] [⟨h29,oI,y0⟩]
def zhw (x0:z00) (y0:z00):Prop:=gZ 91 [⟨h11,.z,x0⟩] [⟨h11,.pr .z (.pr (.own .z) .z),y0⟩]
def zc5 (x0:TSk) (x1:List z0a) (y0:TSk) (y1:Bool):Prop:=gZ 52 [⟨h32,.z,x0⟩,⟨h36,.z,x1⟩] [⟨h32,.z,y0⟩,⟨.bool,.z,y1⟩]
def zr7 (x0:TSk) (x1:List z0a) (x2:Int) (x3:List Int) (y0:TSk) (y1:Bool):Prop:=gZ 95 [⟨h32,.z,x0⟩,⟨h36,.z,x1⟩,⟨.int .i64,.z,x2⟩,⟨.sl 3 (.int .i64),.z,x3⟩] [⟨h32,.z,y0⟩,⟨.bool,.z,y1⟩]
def z00w (x0:z09) (x1:z00) (y0:z09):Prop:=gZ 106 [⟨h29,.z,x0⟩,⟨h11,.z,x1⟩] [⟨h29,.z,y0⟩]
def z6i (x0:z00) (x1:z00) (y0:Int):Prop:=gZ 139 [⟨h11,.z,x0⟩,⟨h11,.z,x1⟩] [⟨.int .i64,.z,y0⟩]
def zhb (x0:List Int) (x1:List Int) (y0:Int):Prop:=gZ 141 [⟨.sl 3 (.int .i64),.z,x0⟩,⟨.sl 3 (.int .i64),.z,x1⟩] [⟨.int .i64,.z,y0⟩]
def zem (x0:z09) (x1:z00) (y0:Int):Prop:=gZ 90 [⟨h29,.z,x0⟩,⟨h11,.z,x1⟩] [⟨.int .i64,.z,y0⟩]
def z9y (x0:z00) (x1:List Int) (y0:z00) (y1:Bool):Prop:=gZ 150 [⟨h11,.z,x0⟩,⟨.sl 3 (.int .i64),.z,x1⟩] [⟨h11,.pr .z (.pr (.own .z) .z),y0⟩,⟨.bool,.z,y1⟩]
def z6g (x0:Int) (y0:Bool):Prop:=gZ 63 [⟨.int .i64,.z,x0⟩] [⟨.bool,.z,y0⟩]
def zdp (x0:Int) (x1:Int) (x2:Int) (y0:Bool):Prop:=gZ 62 [⟨.int .i64,.z,x0⟩,⟨.int .i64,.z,x1⟩,⟨.int .i64,.z,x2⟩] [⟨.bool,.z,y0⟩]
def z4l (x0:Int) (y0:Int) (y1:Bool):Prop:=gZ 105 [⟨.int .i64,.z,x0⟩] [⟨.int .i64,.z,y0⟩,⟨.bool,.z,y1⟩]
def zbt (x0:TSk) (x1:z06) (y0:TSk) (y1:Int) (y2:Bool):Prop:=gZ 149 [⟨h32,.z,x0⟩,⟨h15,.z,x1⟩] [⟨h32,.z,y0⟩,⟨.int .i64,.z,y1⟩,⟨.bool,.z,y2⟩]
def zcy (x0:Int) (y0:Int):Prop:=gZ 195 [⟨.int .i64,.z,x0⟩] [⟨.int .i64,.z,y0⟩]
def zer (x0:TSk) (x1:z06) (y0:Int):Prop:=gZ 196 [⟨h32,.z,x0⟩,⟨h15,.z,x1⟩] [⟨.int .i64,.z,y0⟩]
def z4k (x0:z0a) (y0:List Int):Prop:=gZ 148 [⟨h35,.z,x0⟩] [⟨.sl 3 (.int .i64),.own .z,y0⟩]
def zln (x0:List Int) (x1:Int) (y0:Bool):Prop:=gZ 194 [⟨.sl 3 (.int .i64),.z,x0⟩,⟨.int .i64,.z,x1⟩] [⟨.bool,.z,y0⟩]
def z8i (x0:List z00) (y0:List Int):Prop:=gZ 193 [⟨h33,.z,x0⟩] [⟨.sl 3 (.int .i64),.z,y0⟩]
def zqf (x0:List Int) (x1:Int) (y0:List Int):Prop:=gZ 188 [⟨.sl 3 (.int .i64),.z,x0⟩,⟨.int .i64,.z,x1⟩] [⟨.sl 3 (.int .i64),.z,y0⟩]
def z64 (x0:z0a) (y0:List Int):Prop:=gZ 147 [⟨h35,.z,x0⟩] [⟨.sl 3 (.int .i64),.own .z,y0⟩]
def zc6 (x0:z09) (x1:List z00) (y0:List (List Int)):Prop:=gZ 94 [⟨h29,.z,x0⟩,⟨h33,.z,x1⟩] [⟨.sl 30 (.sl 3 (.int .i64)),.own .z,y0⟩]
def zm9 (x0:z09) (x1:List z00) (x2:Int) (x3:List Int) (y0:List (List Int)):Prop:=gZ 145 [⟨h29,.z,x0⟩,⟨h33,.z,x1⟩,⟨.int .i64,.z,x2⟩,⟨.sl 3 (.int .i64),.z,x3⟩] [⟨.sl 30 (.sl 3 (.int .i64)),.own (.own .z),y0⟩]
def zuq (x0:z00) (x1:z00) (x2:List Int) (y0:List Int) (y1:Bool):Prop:=gZ 191 [⟨h11,.z,x0⟩,⟨h11,.z,x1⟩,⟨.sl 3 (.int .i64),.z,x2⟩] [⟨.sl 3 (.int .i64),.own .z,y0⟩,⟨.bool,.z,y1⟩]
def zlv  (y0:Int):Prop:=gZ 192 [] [⟨.int .i64,.z,y0⟩]
def zoh  (y0:List Int):Prop:=gZ 146 [] [⟨.sl 3 (.int .i64),.own .z,y0⟩]
def z00z (x0:z09) (x1:List z00) (y0:Bool):Prop:=gZ 144 [⟨h29,.z,x0⟩,⟨h33,.z,x1⟩] [⟨.bool,.z,y0⟩]
def z4b (x0:z09) (y0:Bool):Prop:=gZ 89 [⟨h29,.z,x0⟩] [⟨.bool,.z,y0⟩]
def z37 (x0:List z0p) (y0:Bool):Prop:=gZ 61 [⟨h26,.z,x0⟩] [⟨.bool,.z,y0⟩]
def zbb (x0:z0p) (y0:Bool):Prop:=gZ 104 [⟨h8,.z,x0⟩] [⟨.bool,.z,y0⟩]
def z7i (x0:z00) (y0:List Int):Prop:=gZ 140 [⟨h11,.z,x0⟩] [⟨.sl 3 (.int .i64),.z,y0⟩]
def zgt (x0:List z0p) (x1:z00) (y0:Bool):Prop:=gZ 28 [⟨h26,.z,x0⟩,⟨h11,.z,x1⟩] [⟨.bool,.z,y0⟩]
def z9r (x0:List z0p) (x1:z00) (y0:Bool):Prop:=gZ 190 [⟨h26,.z,x0⟩,⟨h11,.z,x1⟩] [⟨.bool,.z,y0⟩]
def zfi (x0:List z0p) (x1:List z0a) (y0:Bool):Prop:=gZ 93 [⟨h26,.z,x0⟩,⟨h36,.z,x1⟩] [⟨.bool,.z,y0⟩]
def z6y (x0:List z0p) (x1:List z0a) (y0:Bool):Prop:=gZ 143 [⟨h26,.z,x0⟩,⟨h36,.z,x1⟩] [⟨.bool,.z,y0⟩]
def z9h (x0:List z0p) (x1:z0a) (y0:Bool):Prop:=gZ 189 [⟨h26,.z,x0⟩,⟨h35,.z,x1⟩] [⟨.bool,.z,y0⟩]
def z41 (x0:TSk) (y0:Bool):Prop:=gZ 92 [⟨h32,.z,x0⟩] [⟨.bool,.z,y0⟩]
def zb6 (x0:z09) (y0:List Int):Prop:=gZ 142 [⟨h29,.z,x0⟩] [⟨.sl 3 (.int .i64),.z,y0⟩]
def zef (x0:z09) (x1:z00) (y0:z09) (y1:Bool):Prop:=gZ 50 [⟨h29,.z,x0⟩,⟨h11,.z,x1⟩] [⟨h29,.pr (.own .z) (.pr (.own .z) .z),y0⟩,⟨.bool,.z,y1⟩]
def z82 (x0:z09) (x1:z00) (y0:Bool):Prop:=gZ 49 [⟨h29,.z,x0⟩,⟨h11,.z,x1⟩] [⟨.bool,.z,y0⟩]
def zo1 (x0:z09) (x1:Bool) (y0:z09):Prop:=gZ 51 [⟨h29,.z,x0⟩,⟨.bool,.z,x1⟩] [⟨h29,oI,y0⟩]
def zhz (x0:TSk) (x1:List z0a) (y0:Bool):Prop:=gZ 27 [⟨h32,.z,x0⟩,⟨h36,.z,x1⟩] [⟨.bool,.z,y0⟩]
def zd3 (x0:TSk) (x1:List z0a) (y0:Bool):Prop:=gZ 60 [⟨h32,.z,x0⟩,⟨h36,.z,x1⟩] [⟨.bool,.z,y0⟩]
def zke (x0:TSk) (x1:List z0a) (y0:List Int):Prop:=gZ 103 [⟨h32,.z,x0⟩,⟨h36,.z,x1⟩] [⟨.sl 3 (.int .i64),.own .z,y0⟩]
def zob (x0:TSk) (x1:List z0a) (x2:z00) (x3:List Int) (y0:Bool):Prop:=gZ 153 [⟨h32,.z,x0⟩,⟨h36,.z,x1⟩,⟨h11,.z,x2⟩,⟨.sl 3 (.int .i64),.z,x3⟩] [⟨.bool,.z,y0⟩]
def zc8 (x0:TSk) (x1:List z0a) (x2:z00) (y0:List z00):Prop:=gZ 152 [⟨h32,.z,x0⟩,⟨h36,.z,x1⟩,⟨h11,.z,x2⟩] [⟨h37,.own .z,y0⟩]
def zo8 (x0:TSk) (x1:List z0a) (x2:Int) (x3:List Int) (x4:z00) (y0:Bool):Prop:=gZ 197 [⟨h32,.z,x0⟩,⟨h36,.z,x1⟩,⟨.int .i64,.z,x2⟩,⟨.sl 3 (.int .i64),.z,x3⟩,⟨h11,.z,x4⟩] [⟨.bool,.z,y0⟩]
def zkb (x0:z00) (x1:Int) (y0:Int):Prop:=gZ 7 [⟨h11,.z,x0⟩,⟨.int .i64,.z,x1⟩] [⟨.int .i64,.z,y0⟩]
def zk1 (x0:List Int) (x1:Int) (y0:Int):Prop:=gZ 25 [⟨.sl 3 (.int .i64),.z,x0⟩,⟨.int .i64,.z,x1⟩] [⟨.int .i64,.z,y0⟩]
def zd4 (x0:List z0a) (x1:Int) (y0:Int):Prop:=gZ 6 [⟨h25,.z,x0⟩,⟨.int .i64,.z,x1⟩] [⟨.int .i64,.z,y0⟩]
def zb4 (x0:z0a) (x1:Int) (y0:Int):Prop:=gZ 24 [⟨h24,.z,x0⟩,⟨.int .i64,.z,x1⟩] [⟨.int .i64,.z,y0⟩]
def zm8 (x0:List z00) (x1:Int) (y0:Int):Prop:=gZ 58 [⟨h19,.z,x0⟩,⟨.int .i64,.z,x1⟩] [⟨.int .i64,.z,y0⟩]
def zpo (x0:z00) (x1:Int) (y0:Int):Prop:=gZ 102 [⟨h11,.z,x0⟩,⟨.int .i64,.z,x1⟩] [⟨.int .i64,.z,y0⟩]
def zdc (x0:TSk) (x1:Int) (y0:Int):Prop:=gZ 5 [⟨h18,.z,x0⟩,⟨.int .i64,.z,x1⟩] [⟨.int .i64,.z,y0⟩]
def zdl (x0:List z06) (x1:Int) (y0:Int):Prop:=gZ 23 [⟨h16,.z,x0⟩,⟨.int .i64,.z,x1⟩] [⟨.int .i64,.z,y0⟩]
def zao (x0:z06) (x1:Int) (y0:Int):Prop:=gZ 57 [⟨h15,.z,x0⟩,⟨.int .i64,.z,x1⟩] [⟨.int .i64,.z,y0⟩]
def zih (x0:z09) (x1:Int) (y0:Int):Prop:=gZ 22 [⟨h14,.z,x0⟩,⟨.int .i64,.z,x1⟩] [⟨.int .i64,.z,y0⟩]
def zqm (x0:List z00) (x1:Int) (y0:Int):Prop:=gZ 56 [⟨h12,.z,x0⟩,⟨.int .i64,.z,x1⟩] [⟨.int .i64,.z,y0⟩]
def zgy (x0:List z0p) (x1:Int) (y0:Int):Prop:=gZ 55 [⟨h9,.z,x0⟩,⟨.int .i64,.z,x1⟩] [⟨.int .i64,.z,y0⟩]
def zeb (x0:z0p) (x1:Int) (y0:Int):Prop:=gZ 101 [⟨h8,.z,x0⟩,⟨.int .i64,.z,x1⟩] [⟨.int .i64,.z,y0⟩]
theorem z5w (x0:List z00) (x1:Unit) (y0:List z00) (H:∀ xs:List (z9b z00),xs.map (·.2)=x0->∃ ys:List (z9b z00),ys.Sublist xs/\ys.map (·.2)=y0/\z1q xs x1 ys):z16 x0 x1 y0:=z07k (by rfl) H
theorem zkx (x0:z9b z00) (x1:z9b z00) (y0:Bool) (h:zew x0.2 x1.2 y0):zfl x0 x1 y0:=z0j8 h
theorem z4y (x0:List z00) (x1:z00×Unit) (y0:List z00) (H:∀ xs:List (z9b z00),xs.map (·.2)=x0->∃ ys:List (z9b z00),ys.Sublist xs/\ys.map (·.2)=y0/\z1c xs x1 ys):z10 x0 x1 y0:=z07k (by rfl) H
theorem znl (x0:z9b z00) (x1:z00) (y0:Bool) (h:zf9 x0.2 x1 y0):z3m x0 x1 y0:=z0dj h
theorem z5k (x0:List z00) (x1:(List z0p×(Bool×List z00)×Unit)×Bool×Unit) (y0:List z00) (H:∀ xs:List (z9b z00),xs.map (·.2)=x0->∃ ys:List (z9b z00),ys.Sublist xs/\ys.map (·.2)=y0/\z1l xs x1 ys):z14 x0 x1 y0:=z07k (by rfl) H
theorem zqt (x0:z9b z00) (x1:List z0p×(Bool×List z00)×Unit) (x2:Bool) (y0:Bool) (h:zi0 x0.2 x1 x2 y0):z4r x0 x1 x2 y0:=z0dj h
end Go.V

