/-
  The functions that are reached: types, signatures, what a call of each gives.
-/
import Derived.Test.YtmfgkhfgnpeohaaGreatVE
import Derived.Test.YtmfgkhfgnpeohaaGreatProg
import Derived.KernelRfl
set_option linter.unusedVariables false
set_option linter.unusedSimpArgs false
set_option maxRecDepth 1000000
set_option maxHeartbeats 4000000
set_option linter.unusedVariables false
namespace Go.V
open Go Go.Proofs
abbrev h0:Sh:=.pair (.int .u8) .unit
abbrev h1:Sh:=.pair .bool h0
abbrev h2:Sh:=.pair (.int .i64) h1
abbrev h3:Sh:=.pair (.int .i64) h2
abbrev h4:Sh:=.pair (.int .u64) .unit
abbrev h5:Sh:=.pair .str h4
abbrev h6:Sh:=.pair .bool .unit
abbrev h7:Sh:=.pair (.int .i64) h6
abbrev h8:Sh:=.pair .str h7
abbrev h9:Sh:=.sl 171 h8
abbrev h10:Sh:=.pair (.sl 3 (.int .i64)) .unit
abbrev h11:Sh:=.pair (.int .i64) h10
abbrev h12:Sh:=.sl 32 h11
abbrev h13:Sh:=.pair h12 .unit
abbrev h14:Sh:=.pair h9 h13
abbrev h15:Sh:=.pair (.int .i64) h11
abbrev h16:Sh:=.sl 134 h15
abbrev h17:Sh:=.pair h16 .unit
abbrev h18:Sh:=.pair h14 h17
abbrev h19:Sh:=.sl 194 h11
abbrev h20:Sh:=.pair (.int .i64) .unit
abbrev h21:Sh:=.pair (.int .i64) h20
abbrev h22:Sh:=.pair .bool h21
abbrev h23:Sh:=.pair h19 h22
abbrev h24:Sh:=.pair h19 h23
abbrev h25:Sh:=.sl 79 h24
abbrev h26:Sh:=.sl 91 h11
abbrev h27:Sh:=.sl 173 h8
abbrev h28:Sh:=.sl 48 h11
abbrev h29:Sh:=.pair h28 .unit
abbrev h30:Sh:=.pair h27 h29
abbrev h31:Sh:=.sl 136 h15
abbrev h32:Sh:=.pair h31 .unit
abbrev h33:Sh:=.pair h30 h32
abbrev h34:Sh:=.sl 153 h11
abbrev h35:Sh:=.pair h34 h22
abbrev h36:Sh:=.pair h34 h35
abbrev h37:Sh:=.sl 88 h36
abbrev h38:Sh:=.pair h26 .unit
abbrev h39:Sh:=.pair (.int .i64) h38
abbrev h40:Sh:=.pair h30 h39
abbrev h41:Sh:=.pair (.sl 3 (.int .i64)) h10
abbrev h42:Sh:=.tok (.int .i64) h10
abbrev h43:Sh:=.sl 48 h42
abbrev h44:Sh:=.pair (.ptr h27) .unit
abbrev h45:Sh:=.pair (.ptr h11) .unit
abbrev h46:Sh:=.pair (.ptr (.sl 3 (.int .i64))) .unit
noncomputable abbrev prog:Program:=Tryz.prog
def shTab:List (Nat×Sh):=[(2,.int .i64),(3,.int .i64),(4,.bool),(5,.int .u8),(6,.int .u8),(9,.str),(10,.str),(11,.str),(12,.int .u64),(21,.int .i32),(22,h9),(23,h12),(24,h14),(25,h14),(26,h16),(27,h18),(28,h18),(29,h25),(30,.sl 3 (.int .i64)),(31,h11),(32,h11),(36,h26),(38,h27),(39,h28),(40,h30),(41,h30),(42,h31),(43,h33),(44,h33),(46,h37),(48,h11),(66,h10),(67,h10),(77,h19),(78,h24),(79,h24),(84,.sl 30 (.sl 3 (.int .i64))),(86,h34),(87,h36),(88,h36),(90,h11),(91,h11),(106,h40),(107,h40),(127,h41),(128,h41),(133,h15),(134,h15),(136,h15),(152,h11),(153,h11),(170,h8),(171,h8),(173,h8),(194,h11),(221,.sl 5 (.int .u8)),(231,.int .u64),(241,.int .u32),(244,.int .u64),(249,.int .i64),(263,.int .u64),(267,.ptr (.int .i64)),(271,.ptr (.int .u64)),(281,.int .u8),(282,.int .u8),(284,.ptr (.int .u8)),(285,.int .i32),(286,.int .i32)]
def sigTab:List (Nat×List Sig):=[(4,[⟨[.z,.z],[(.bool,.z)],[.z,.z]⟩]),(8,[⟨[.z,.z],[(.int .i64,.z)],[.z,.z]⟩]),(9,[⟨[.z,.z],[(.int .i64,.z)],[.z,.z]⟩]),(12,[⟨[.z],[(h37,.own (.pr (.own (.pr .z (.pr (.own .z) .z))) (.pr (.own (.pr .z (.pr (.own .z) .z))) .z)))],[.z]⟩]),(13,[⟨[.z],[(h11,.pr .z (.pr (.own .z) .z))],[.z]⟩]),(15,[⟨[.z,.z],[(.bool,.z)],[.z,.z]⟩]),(17,[⟨[.z,.z],[(.bool,.z)],[.z,.z]⟩]),(18,[⟨[.z,.z],[(.bool,.z)],[.z,.z]⟩]),(20,[⟨[.own (.pr (.own (.pr .z (.pr (.own .z) .z))) (.pr (.own (.pr .z (.pr (.own .z) .z))) .z)),.z],[(.int .i64,.z)],[.own (.pr (.own (.pr .z (.pr (.own .z) .z))) (.pr (.own (.pr .z (.pr (.own .z) .z))) .z)),.z]⟩]),(22,[⟨[.own (.pr .z (.pr (.own .z) .z)),.z],[(.int .i64,.z)],[.own (.pr .z (.pr (.own .z) .z)),.z]⟩]),(23,[⟨[.z,.z],[(.int .i64,.z)],[.z,.z]⟩]),(24,[⟨[.z,.z],[(.int .i64,.z)],[.z,.z]⟩]),(25,[⟨[.z,.z],[(h26,.own .z),(.bool,.z)],[.z,.z]⟩]),(26,[⟨[.z],[(h30,.pr (.own .z) (.pr (.own (.pr .z (.pr (.own .z) .z))) .z))],[.z]⟩]),(27,[⟨[.z,.z],[(h26,.own (.pr .z (.pr (.own .z) .z))),(.bool,.z)],[.z,.z]⟩]),(28,[⟨[.z,.z],[(.bool,.z)],[.z,.z]⟩]),(29,[⟨[.pr (.own .z) (.pr (.own (.pr .z (.pr (.own .z) .z))) .z),.z],[(.int .i64,.z)],[.pr (.own .z) (.pr (.own (.pr .z (.pr (.own .z) .z))) .z),.z]⟩]),(40,[⟨[.z,.z],[(.int .i64,.z)],[.z,.z]⟩]),(41,[⟨[.z,.z],[(.int .i64,.z)],[.z,.z]⟩]),(45,[⟨[.z,.z],[(.sl 30 (.sl 3 (.int .i64)),.own .z)],[.z,.z]⟩]),(48,[⟨[.z],[(h36,.pr (.own (.pr .z (.pr (.own .z) .z))) (.pr (.own (.pr .z (.pr (.own .z) .z))) .z))],[.z]⟩]),(49,[⟨[.z],[(.sl 3 (.int .i64),.own .z)],[.z]⟩]),(52,[⟨[.z,.z],[(.bool,.z)],[.z,.z]⟩]),(53,[⟨[.z,.z],[(.sl 30 (.sl 3 (.int .i64)),.own (.own .z))],[.z,.z]⟩]),(55,[⟨[.z,.z],[(.bool,.z)],[.z,.z]⟩]),(57,[⟨[.z,.z],[(.bool,.z)],[.z,.z]⟩]),(58,[⟨[.z,.z],[(.bool,.z)],[.z,.z]⟩]),(60,[⟨[.own (.pr .z (.pr (.own .z) .z)),.z],[(.int .i64,.z)],[.own (.pr .z (.pr (.own .z) .z)),.z]⟩]),(61,[⟨[.own .z,.z],[(.int .i64,.z)],[.own .z,.z]⟩]),(62,[⟨[.z,.z],[(.int .i64,.z)],[.z,.z]⟩]),(63,[⟨[.z,.z],[(.int .i64,.z)],[.z,.z]⟩]),(64,[⟨[.z,.z],[(.int .i64,.z)],[.z,.z]⟩]),(65,[⟨[.z,.z],[(h40,.pr .z (.pr .z (.pr (.own .z) .z))),(.bool,.z)],[.z,.z]⟩]),(66,[⟨[.z],[(h27,.own .z)],[.z]⟩]),(67,[⟨[.z],[(h28,.own (.pr .z (.pr (.own .z) .z)))],[.z]⟩]),(68,[⟨[.z,.z],[(h40,.pr (.pr (.own .z) (.pr (.own (.pr .z (.pr (.own .z) .z))) .z)) (.pr .z (.pr (.own (.pr .z (.pr (.own .z) .z))) .z))),(.bool,.z)],[.z,.z]⟩]),(69,[⟨[.z,.z],[(.bool,.z)],[.z,.z]⟩]),(70,[⟨[.z,.z],[(.bool,.z)],[.z,.z]⟩]),(71,[⟨[.own .z,.z],[(.int .i64,.z)],[.own .z,.z]⟩]),(72,[⟨[.own (.pr .z (.pr (.own .z) .z)),.z],[(.int .i64,.z)],[.own (.pr .z (.pr (.own .z) .z)),.z]⟩]),(73,[⟨[.z],[(.bool,.z)],[.z]⟩]),(74,[⟨[.z,.z],[(.bool,.z)],[.z,.z]⟩]),(75,[⟨[.z],[(h30,.pr (.own .z) (.pr (.own (.pr .z (.pr (.own .z) .z))) .z))],[.z]⟩]),(77,[⟨[.z],[(.int .i64,.z)],[.z]⟩]),(81,[⟨[.z,.z],[(h30,.pr (.own .z) (.pr (.own (.pr .z (.pr (.own .z) .z))) .z)),(.bool,.z)],[.z,.z]⟩]),(83,[⟨[.z],[(.bool,.z)],[.z]⟩]),(84,[⟨[.z,.z],[(.bool,.z)],[.z,.z]⟩]),(86,[⟨[.z],[(h30,.pr (.own .z) (.pr (.own (.pr .z (.pr (.own .z) .z))) .z))],[.z]⟩]),(88,[⟨[.z],[(.int .i64,.z)],[.z]⟩]),(91,[⟨[.z,.z],[(h30,.pr (.own .z) (.pr (.own (.pr .z (.pr (.own .z) .z))) .z)),(.bool,.z)],[.z,.z]⟩]),(101,[⟨[.z,.z],[(.int .i64,.z)],[.z,.z]⟩]),(102,[⟨[.z],[(.int .i64,.z),(.bool,.z)],[.z]⟩]),(103,[⟨[.z],[(.bool,.z)],[.z]⟩]),(104,[⟨[.z,.z],[(.int .i64,.z)],[.z,.z]⟩]),(105,[⟨[.z,.z,.z],[(.bool,.z)],[.z,.z,.z]⟩]),(106,[⟨[.z],[(.sl 3 (.int .i64),.z)],[.z]⟩]),(107,[⟨[.z,.z],[(.int .i64,.z)],[.z,.z]⟩]),(108,[⟨[.z,.z],[(.bool,.z)],[.z,.z]⟩]),(109,[⟨[.z,.z,.z,.z],[(.sl 30 (.sl 3 (.int .i64)),.own (.own .z))],[.z,.z,.z,.z]⟩]),(110,[⟨[],[(.sl 3 (.int .i64),.own .z)],[]⟩]),(112,[⟨[.z],[(.sl 3 (.int .i64),.own .z)],[.z]⟩]),(114,[⟨[.z,.z],[(h11,.pr .z (.pr (.own .z) .z)),(.bool,.z)],[.z,.z]⟩]),(115,[⟨[.z,.z],[(.int .i64,.z)],[.z,.z]⟩]),(117,[⟨[.z],[(h34,.own (.pr .z (.pr (.own .z) .z)))],[.z]⟩]),(119,[⟨[.z,.z],[(.bool,.z)],[.z,.z]⟩]),(121,[⟨[.z,.z],[(.bool,.z)],[.z,.z]⟩]),(122,[⟨[.z,.z],[(.bool,.z)],[.z,.z]⟩]),(123,[⟨[.z,.z],[(.bool,.z)],[.z,.z]⟩]),(124,[⟨[.z,.z],[(.bool,.z)],[.z,.z]⟩]),(125,[⟨[.z,.z,.own .z],[(.sl 30 (.sl 3 (.int .i64)),.own (.own .z))],[.z,.z,.dead]⟩]),(126,[⟨[],[(.sl 3 (.int .i64),.own .z)],[]⟩]),(127,[⟨[.z,.z],[(.bool,.z)],[.z,.z]⟩]),(128,[⟨[.z],[(.sl 3 (.int .i64),.own .z)],[.z]⟩]),(131,[⟨[.z],[(.sl 3 (.int .i64),.own .z)],[.z]⟩]),(133,[⟨[.z],[(.int .i64,.z)],[.z]⟩]),(134,[⟨[.z,.z],[(h11,.pr .z (.pr (.own .z) .z)),(.bool,.z)],[.z,.z]⟩]),(136,[⟨[.z,.z],[(.bool,.z)],[.z,.z]⟩]),(137,[⟨[.z,.z],[(.int .i64,.z)],[.z,.z]⟩]),(138,[⟨[.z,.z,.z],[(h40,.pr .z (.pr .z (.pr (.own .z) .z))),(.bool,.z)],[.z,.z,.z]⟩]),(139,[⟨[.z],[(h8,.z)],[.z]⟩]),(140,[⟨[.z,.z,.z],[(h40,.pr (.pr (.own .z) (.pr (.own (.pr .z (.pr (.own .z) .z))) .z)) (.pr .z (.pr (.own (.pr .z (.pr (.own .z) .z))) .z))),(.bool,.z)],[.z,.z,.z]⟩]),(141,[⟨[.z,.z],[(.bool,.z)],[.z,.z]⟩]),(142,[⟨[.z],[(.str,.z)],[.z]⟩]),(143,[⟨[.z,.z],[(.bool,.z)],[.z,.z]⟩]),(144,[⟨[.z],[(.sl 3 (.int .i64),.z)],[.z]⟩]),(145,[⟨[.z],[(.bool,.z)],[.z]⟩]),(146,[⟨[.z,.z],[(.bool,.z)],[.z,.z]⟩]),(147,[⟨[.z],[(h11,.pr .z (.pr (.own .z) .z))],[.z]⟩]),(148,[⟨[.z],[(.int .i64,.z)],[.z]⟩]),(150,[⟨[.z,.z],[(.sl 30 (.sl 3 (.int .i64)),.own .z)],[.z,.z]⟩]),(153,[⟨[.z],[(.bool,.z)],[.z]⟩]),(154,[⟨[.z,.z],[(h30,.z)],[.z,.z]⟩]),(155,[⟨[.z,.z],[(h11,.pr .z (.pr (.own .z) .z))],[.z,.z]⟩]),(156,[⟨[.z],[(.bool,.z)],[.z]⟩]),(157,[⟨[.z,.z],[(.bool,.z)],[.z,.z]⟩]),(158,[⟨[.z,.z],[(.int .i64,.z)],[.z,.z]⟩]),(159,[⟨[.z],[(.sl 3 (.int .i64),.own .z)],[.z]⟩]),(160,[⟨[.z,.z],[(.bool,.z)],[.z,.z]⟩]),(161,[⟨[.z,.z],[(.bool,.z)],[.z,.z]⟩]),(163,[⟨[.z],[(h27,.own .z)],[.z]⟩]),(164,[⟨[.z],[(h28,.own (.pr .z (.pr (.own .z) .z)))],[.z]⟩]),(165,[⟨[.z,.z,.z],[(.bool,.z)],[.z,.z,.z]⟩]),(166,[⟨[.z],[(.sl 3 (.int .i64),.own .z)],[.z]⟩]),(167,[⟨[.z,.z],[(.sl 30 (.sl 3 (.int .i64)),.own (.own .z))],[.z,.z]⟩]),(171,[⟨[.z],[(.bool,.z)],[.z]⟩]),(172,[⟨[.z],[(.bool,.z)],[.z]⟩]),(173,[⟨[.z,.z],[(h11,.pr .z (.pr (.own .z) .z))],[.z,.z]⟩]),(174,[⟨[.z],[(h28,.own (.pr .z (.pr (.own .z) .z)))],[.z]⟩]),(176,[⟨[.z,.z,.z],[(.bool,.z)],[.z,.z,.z]⟩]),(177,[⟨[.z,.z],[(.int .i64,.z)],[.z,.z]⟩]),(178,[⟨[.z,.z],[(.sl 3 (.int .i64),.z)],[.z,.z]⟩]),(179,[⟨[.z,.z],[(.bool,.z)],[.z,.z]⟩]),(180,[⟨[.z,.z,.z],[(.sl 3 (.int .i64),.own .z),(.bool,.z)],[.z,.z,.z]⟩]),(181,[⟨[],[(.int .i64,.z)],[]⟩]),(182,[⟨[.z],[(.sl 3 (.int .i64),.z)],[.z]⟩]),(183,[⟨[.z,.z],[(.bool,.z)],[.z,.z]⟩]),(185,[⟨[.z],[(h11,.pr .z (.pr (.own .z) .z))],[.z]⟩]),(187,[⟨[.z,.z],[(.bool,.z)],[.z,.z]⟩]),(190,[⟨[.z,.z],[(.int .i64,.z)],[.z,.z]⟩]),(191,[⟨[.z,.z],[(.int .i64,.z)],[.z,.z]⟩]),(192,[⟨[.z,.z,.z],[(.bool,.z)],[.z,.z,.z]⟩]),(193,[⟨[.z,.z,.z],[(.sl 3 (.int .i64),.own .z),(.bool,.z)],[.z,.z,.z]⟩]),(194,[⟨[.z,.z],[(.sl 3 (.int .i64),.own .z)],[.z,.z]⟩]),(195,[⟨[.z,.z],[(.bool,.z)],[.z,.z]⟩]),(196,[⟨[.z,.z],[(.bool,.z)],[.z,.z]⟩]),(197,[⟨[.z,.z],[(.bool,.z)],[.z,.z]⟩]),(198,[⟨[.z,.z],[(.sl 3 (.int .i64),.own .z)],[.z,.z]⟩]),(201,[⟨[.z],[(.bool,.z)],[.z]⟩]),(202,[⟨[.z,.z],[(.bool,.z)],[.z,.z]⟩]),(203,[⟨[.z,.z],[(h26,.own .z)],[.z,.z]⟩]),(204,[⟨[.z,.z],[(.int .i64,.z)],[.z,.z]⟩]),(205,[⟨[.z,.z,.z],[(h30,.z),(.int .i64,.z)],[.z,.z,.z]⟩]),(206,[⟨[.z,.z],[(h26,.own (.pr .z (.pr (.own .z) .z)))],[.z,.z]⟩]),(207,[⟨[.z,.z,.z],[(h30,.pr (.own .z) (.pr (.own (.pr .z (.pr (.own .z) .z))) .z)),(.int .i64,.z)],[.z,.z,.z]⟩]),(208,[⟨[.z],[(.bool,.z)],[.z]⟩]),(209,[⟨[.z,.z,.z],[(.bool,.z)],[.z,.z,.z]⟩]),(210,[⟨[.z,.z],[(.int .i64,.z)],[.z,.z]⟩]),(211,[⟨[.z],[(.bool,.z)],[.z]⟩]),(212,[⟨[.z],[(.bool,.z)],[.z]⟩]),(213,[⟨[.z],[(.int .i64,.z)],[.z]⟩]),(214,[⟨[.z,.z],[(.int .i64,.z)],[.z,.z]⟩]),(215,[⟨[.z,.z],[(.int .i64,.z)],[.z,.z]⟩]),(216,[⟨[.z],[(.sl 3 (.int .i64),.own .z)],[.z]⟩]),(217,[⟨[.z],[(.sl 3 (.int .i64),.own .z)],[.z]⟩]),(218,[⟨[.z,.z],[(.bool,.z)],[.z,.z]⟩]),(219,[⟨[.z,.z],[(.bool,.z)],[.z,.z]⟩]),(220,[⟨[.z,.z],[(.bool,.z)],[.z,.z]⟩]),(222,[⟨[.z],[(h11,.pr .z (.pr (.own .z) .z))],[.z]⟩]),(223,[⟨[.z,.z,.z],[(.bool,.z)],[.z,.z,.z]⟩]),(224,[⟨[.z],[(.int .i64,.z),(.bool,.z)],[.z]⟩]),(225,[⟨[.z,.z],[(.int .i64,.z)],[.z,.z]⟩]),(226,[⟨[.own (.pr .z (.pr (.own .z) .z)),.z],[],[.own (.pr .z (.pr (.own .z) .z)),.z]⟩]),(227,[⟨[.own (.pr .z (.pr (.own .z) .z)),.z],[(h28,.own (.pr .z (.pr (.own .z) .z)))],[.dead,.z]⟩]),(229,[⟨[.z,.z],[(.int .i64,.z)],[.z,.z]⟩]),(230,[⟨[.z,.z],[(.bool,.z)],[.z,.z]⟩]),(231,[⟨[.z,.z],[(.bool,.z)],[.z,.z]⟩]),(232,[⟨[.z,.z],[(.int .u64,.z),(.int .u64,.z)],[.z,.z]⟩]),(233,[⟨[.z,.z],[(.int .i64,.z)],[.z,.z]⟩]),(234,[⟨[.z,.z,.z],[(h30,.pr (.own .z) (.pr (.own (.pr .z (.pr (.own .z) .z))) .z)),(.int .i64,.z)],[.z,.z,.z]⟩]),(235,[⟨[.z,.z,.z],[(.bool,.z)],[.z,.z,.z]⟩]),(236,[⟨[.z,.z,.z],[(.bool,.z)],[.z,.z,.z]⟩]),(237,[⟨[.z],[(.bool,.z)],[.z]⟩]),(238,[⟨[.own .z],[],[.own .z]⟩]),(239,[⟨[.own .z],[(.sl 3 (.int .i64),.own .z)],[.dead]⟩]),(240,[⟨[.z,.z],[(.int .i64,.z)],[.z,.z]⟩]),(241,[⟨[.z,.z],[(.int .i64,.z)],[.z,.z]⟩]),(242,[⟨[.z,.z,.z],[(.bool,.z)],[.z,.z,.z]⟩]),(245,[⟨[.z],[(.bool,.z)],[.z]⟩]),(247,[⟨[.z,.z],[(.int .u64,.z),(.int .u64,.z)],[.z,.z]⟩])]
def parTab:List (Nat×List (Option Sh)):=[(4,[some (h14),some (h25)]),(8,[some (h25),some (.int .i64)]),(9,[some (h11),some (.int .i64)]),(12,[some (h25)]),(13,[some (h11)]),(15,[some (h26),some (h26)]),(17,[some (h37),some (h37)]),(18,[some (h11),some (h11)]),(20,[some (h37),some (.int .i64)]),(22,[some (h26),some (.int .i64)]),(23,[some (h26),some (.int .i64)]),(24,[some (h14),some (.int .i64)]),(25,[some (h30),some (h37)]),(26,[some (h14)]),(27,[some (h30),some (h37)]),(28,[some (h30),some (h30)]),(29,[some (h30),some (.int .i64)]),(40,[some (h24),some (.int .i64)]),(41,[some (.sl 3 (.int .i64)),some (.int .i64)]),(45,[some (h30),some (h34)]),(48,[some (h24)]),(49,[some (.sl 3 (.int .i64))]),(52,[some (h28),some (h11)]),(53,[some (h30),some (h34)]),(55,[some (h11),some (h11)]),(57,[some (h36),some (h36)]),(58,[some (.sl 3 (.int .i64)),some (.sl 3 (.int .i64))]),(60,[some (h34),some (.int .i64)]),(61,[some (.sl 3 (.int .i64)),some (.int .i64)]),(62,[some (.sl 3 (.int .i64)),some (.int .i64)]),(63,[some (h9),some (.int .i64)]),(64,[some (h12),some (.int .i64)]),(65,[some (h30),some (h37)]),(66,[some (h9)]),(67,[some (h12)]),(68,[some (h30),some (h37)]),(69,[some (h27),some (h27)]),(70,[some (h28),some (h28)]),(71,[some (h27),some (.int .i64)]),(72,[some (h28),some (.int .i64)]),(73,[some (h30)]),(74,[some (h27),some (h37)]),(75,[some (h30)]),(77,[some (h30)]),(81,[some (h41),some (h30)]),(83,[some (h30)]),(84,[some (h27),some (h37)]),(86,[some (h30)]),(88,[some (h30)]),(91,[some (h41),some (h30)]),(101,[some (h19),some (.int .i64)]),(102,[some (.int .i64)]),(103,[some (.int .i64)]),(104,[some (.sl 3 (.int .i64)),some (.sl 3 (.int .i64))]),(105,[some (.int .i64),some (.int .i64),some (.int .i64)]),(106,[some (h30)]),(107,[some (h30),some (h11)]),(108,[some (h30),some (h34)]),(109,[some (h30),some (h34),some (.int .i64),some (.sl 3 (.int .i64))]),(110,[]),(112,[some (h36)]),(114,[some (h11),some (.sl 3 (.int .i64))]),(115,[some (h11),some (h11)]),(117,[some (h19)]),(119,[some (h37),none]),(121,[some (h28),none]),(122,[some (h11)]),(123,[some (h11),some (h11)]),(124,[some (h30),some (h34)]),(125,[some (h28),some (h34),some (.sl 3 (.int .i64))]),(126,[]),(127,[some (.sl 30 (.sl 3 (.int .i64))),some (.sl 3 (.int .i64))]),(128,[some (.sl 3 (.int .i64))]),(131,[some (h36)]),(133,[some (.int .i64)]),(134,[some (h11),some (.sl 3 (.int .i64))]),(136,[some (h34),some (h34)]),(137,[some (h8),some (.int .i64)]),(138,[some (h30),some (h37),some (.sl 3 (.int .i64))]),(139,[some (h8)]),(140,[some (h30),some (h37),some (.sl 3 (.int .i64))]),(141,[some (h8),some (h8)]),(142,[some (.int .i64)]),(143,[some (h27),some (h11)]),(144,[some (h11)]),(145,[some (h27)]),(146,[some (h27),some (h36)]),(147,[some (h11)]),(148,[some (.int .i64)]),(150,[some (h30),some (h36)]),(153,[some (h41)]),(154,[some (h30),some (h11)]),(155,[some (h41),some (h11)]),(156,[some (h27)]),(157,[some (h27),some (h11)]),(158,[some (h11),some (h11)]),(159,[some (h11)]),(160,[some (h36)]),(161,[some (h27),some (h36)]),(163,[some (h27)]),(164,[some (h28)]),(165,[some (.int .i64),some (.int .i64),some (.int .i64)]),(166,[some (h30)]),(167,[some (h30),some (h36)]),(171,[some (.int .i64)]),(172,[some (h41)]),(173,[some (h41),some (h11)]),(174,[some (h28)]),(176,[some (h30),some (h36),some (.sl 3 (.int .i64))]),(177,[some (h11),some (.int .i64)]),(178,[some (.sl 3 (.int .i64)),some (.int .i64)]),(179,[some (h27),some (h11)]),(180,[some (h11),some (h11),some (.sl 3 (.int .i64))]),(181,[]),(182,[some (h34)]),(183,[some (.sl 3 (.int .i64)),some (.int .i64)]),(185,[some (h11)]),(187,[some (.sl 3 (.int .i64)),none]),(190,[some (h37),none]),(191,[some (h28),none]),(192,[some (h27),some (h34),some (.int .i64)]),(193,[some (.sl 3 (.int .i64)),some (h11),some (h11)]),(194,[some (.sl 3 (.int .i64)),some (.int .i64)]),(195,[some (.sl 30 (.sl 3 (.int .i64))),none]),(196,[some (.sl 3 (.int .i64))]),(197,[some (.sl 3 (.int .i64)),some (.sl 3 (.int .i64))]),(198,[some (h36),some (.bool)]),(201,[some (.int .i64)]),(202,[some (h11),some (h11)]),(203,[some (h30),some (h37)]),(204,[some (.int .i64),some (.int .i64)]),(205,[some (h30),some (h36),some (.sl 3 (.int .i64))]),(206,[some (h30),some (h37)]),(207,[some (h30),some (h36),some (.sl 3 (.int .i64))]),(208,[some (h8)]),(209,[some (h30),some (h36),some (.sl 3 (.int .i64))]),(210,[some (h41),some (.int .i64)]),(211,[some (h8)]),(212,[some (.int .i64)]),(213,[some (.sl 3 (.int .i64))]),(214,[some (.int .i64),some (.int .i64)]),(215,[some (.sl 3 (.int .i64)),some (.sl 3 (.int .i64))]),(216,[some (.sl 3 (.int .i64))]),(217,[some (h34)]),(218,[some (.sl 3 (.int .i64)),some (.int .i64)]),(219,[some (h34),none]),(220,[some (h11)]),(222,[some (h11)]),(223,[some (h30),some (h36),some (.sl 3 (.int .i64))]),(224,[some (.int .i64)]),(225,[some (h41),some (.int .i64)]),(226,[some (h28),none]),(227,[some (h28),none]),(229,[some (.sl 3 (.int .i64)),none]),(230,[some (h11)]),(231,[some (h27),some (h11)]),(232,[some (.int .u64),some (.int .u64)]),(233,[some (.sl 30 (.sl 3 (.int .i64))),none]),(234,[some (h30),some (.int .i64),some (.int .i64)]),(235,[some (h30),some (h36),some (.sl 3 (.int .i64))]),(236,[some (h30),some (h34),some (.sl 3 (.int .i64))]),(237,[some (.int .i64)]),(238,[some (.sl 3 (.int .i64))]),(239,[some (.sl 3 (.int .i64))]),(240,[some (.sl 3 (.int .i64)),some (.int .i64)]),(241,[some (h34),none]),(242,[some (h30),some (h34),some (.sl 3 (.int .i64))]),(245,[some (.int .i64)]),(247,[some (.int .u64),some (.int .u64)])]
noncomputable def E:Env:={ sh:=fun t=>look t shTab,sigs:=fun f=>(look f sigTab).getD [],params:=fun f=>(look f parTab).getD [],gives:=GivesS prog }
theorem types_ok:∀ t s,E.sh t=some s→ShOk prog s none t:=tab_ok (by kernel_rfl)
theorem mixed:prog.follows .mixedOrders=true:=by kernel_rfl
abbrev nL:Nat→Option Loop:=fun i=>look i []
abbrev nP:Nat→Option Pl:=fun i=>look i []
theorem fg {L : Nat → Option Loop} {pl : Nat → Option Pl} {f : FuncId} {fn : Func} (hf : prog.funcs[f]? = some fn) (hn : (fn.name == "runtime.NumGoroutine") = false) {g : Sig} {us : List OV} {l m : List (Sh × O)} (hl : g.res = l) (ho : g.outs = m.map (·.2)) (hu : outFit us m = true) {val : resD (outD m) l} {Q : Prop} (e : fnV E L pl fn g us (ansK l m fun r => r = val) = Q) (h : Q) : GivesS prog f us (encR l val).1 (encO us m (encR l val).2) := fn_gives types_ok (fun _ _ _ _ h => h) mixed hf hn hl ho hu (Eq.mpr e h)
def shTab_slices_CompactFunc_Fact_tok_c_isameFact:List (Nat×Sh):=[(3,.int .i64),(4,.bool),(39,h43),(48,h42)]
def sigTab_slices_CompactFunc_Fact_tok_c_isameFact:List (Nat×List Sig):=[(123,[⟨[.z,.z],[(.bool,.z)],[.z,.z]⟩]),(227,[⟨[.own .z,.z],[(h43,.own .z)],[.dead,.z]⟩])]
def parTab_slices_CompactFunc_Fact_tok_c_isameFact:List (Nat×List (Option Sh)):=[(123,[some (h42),some (h42)]),(227,[some (h43),none])]
noncomputable def E_slices_CompactFunc_Fact_tok_c_isameFact:Env:={ sh:=fun t=>look t shTab_slices_CompactFunc_Fact_tok_c_isameFact,sigs:=fun f=>(look f sigTab_slices_CompactFunc_Fact_tok_c_isameFact).getD [],params:=fun f=>(look f parTab_slices_CompactFunc_Fact_tok_c_isameFact).getD [],gives:=GivesS prog }
theorem types_slices_CompactFunc_Fact_tok_c_isameFact:∀ t s,E_slices_CompactFunc_Fact_tok_c_isameFact.sh t=some s→ShOk prog s none t:=tab_ok (by kernel_rfl)
theorem fg_slices_CompactFunc_Fact_tok_c_isameFact {L : Nat → Option Loop} {pl : Nat → Option Pl} {f : FuncId} {fn : Func} (hf : prog.funcs[f]? = some fn) (hn : (fn.name == "runtime.NumGoroutine") = false) {g : Sig} {us : List OV} {l m : List (Sh × O)} (hl : g.res = l) (ho : g.outs = m.map (·.2)) (hu : outFit us m = true) {val : resD (outD m) l} {Q : Prop} (e : fnV E_slices_CompactFunc_Fact_tok_c_isameFact L pl fn g us (ansK l m fun r => r = val) = Q) (h : Q) : GivesS prog f us (encR l val).1 (encO us m (encR l val).2) := fn_gives types_slices_CompactFunc_Fact_tok_c_isameFact (fun _ _ _ _ h => h) mixed hf hn hl ho hu (Eq.mpr e h)
def G_lFnExactFindFailureProof (x0:TInst) (x1:List TDep) (y0:Bool):Prop:=GivesS prog 4 [⟨h14,.z,x0⟩,⟨h25,.z,x1⟩] [⟨.bool,.z,y0⟩] [⟨h14,.z,x0⟩,⟨h25,.z,x1⟩]
def G_lheldChaseStepS (x0:List TFact) (x1:Int) (y0:Int):Prop:=GivesS prog 23 [⟨h26,.z,x0⟩,⟨.int .i64,.z,x1⟩] [⟨.int .i64,.z,y0⟩] [⟨h26,.z,x0⟩,⟨.int .i64,.z,x1⟩]
def G_lheldIntS (x0:List Int) (x1:Int) (y0:Int):Prop:=GivesS prog 62 [⟨.sl 3 (.int .i64),.z,x0⟩,⟨.int .i64,.z,x1⟩] [⟨.int .i64,.z,y0⟩] [⟨.sl 3 (.int .i64),.z,x0⟩,⟨.int .i64,.z,x1⟩]
def G_leqChaseStepS (x0:List TFact) (x1:List TFact) (y0:Bool):Prop:=GivesS prog 15 [⟨h26,.z,x0⟩,⟨h26,.z,x1⟩] [⟨.bool,.z,y0⟩] [⟨h26,.z,x0⟩,⟨h26,.z,x1⟩]
def G_leqChaseStep (x0:TFact) (x1:TFact) (y0:Bool):Prop:=GivesS prog 55 [⟨h11,.z,x0⟩,⟨h11,.z,x1⟩] [⟨.bool,.z,y0⟩] [⟨h11,.z,x0⟩,⟨h11,.z,x1⟩]
def G_leqIntS (x0:List Int) (x1:List Int) (y0:Bool):Prop:=GivesS prog 58 [⟨.sl 3 (.int .i64),.z,x0⟩,⟨.sl 3 (.int .i64),.z,x1⟩] [⟨.bool,.z,y0⟩] [⟨.sl 3 (.int .i64),.z,x0⟩,⟨.sl 3 (.int .i64),.z,x1⟩]
def G_iFindFailureProof (x0:TInst) (x1:List TDep) (y0:List TFact) (y1:Bool):Prop:=GivesS prog 27 [⟨h30,.z,x0⟩,⟨h37,.z,x1⟩] [⟨h26,.own (.pr .z (.pr (.own .z) .z)),y0⟩,⟨.bool,.z,y1⟩] [⟨h30,.z,x0⟩,⟨h37,.z,x1⟩]
def G_iChase (x0:TInst) (x1:List TDep) (y0:TRes) (y1:Bool):Prop:=GivesS prog 68 [⟨h30,.z,x0⟩,⟨h37,.z,x1⟩] [⟨h40,.pr (.pr (.own .z) (.pr (.own (.pr .z (.pr (.own .z) .z))) .z)) (.pr .z (.pr (.own (.pr .z (.pr (.own .z) .z))) .z)),y0⟩,⟨.bool,.z,y1⟩] [⟨h30,.z,x0⟩,⟨h37,.z,x1⟩]
def G_iChaseWithOrder (x0:TInst) (x1:List TDep) (x2:List Int) (y0:TRes) (y1:Bool):Prop:=GivesS prog 140 [⟨h30,.z,x0⟩,⟨h37,.z,x1⟩,⟨.sl 3 (.int .i64),.z,x2⟩] [⟨h40,.pr (.pr (.own .z) (.pr (.own (.pr .z (.pr (.own .z) .z))) .z)) (.pr .z (.pr (.own (.pr .z (.pr (.own .z) .z))) .z)),y0⟩,⟨.bool,.z,y1⟩] [⟨h30,.z,x0⟩,⟨h37,.z,x1⟩,⟨.sl 3 (.int .i64),.z,x2⟩]
def G_iApplyTrigger (x0:TInst) (x1:TDep) (x2:List Int) (y0:TInst) (y1:Int):Prop:=GivesS prog 207 [⟨h30,.z,x0⟩,⟨h36,.z,x1⟩,⟨.sl 3 (.int .i64),.z,x2⟩] [⟨h30,.pr (.own .z) (.pr (.own (.pr .z (.pr (.own .z) .z))) .z),y0⟩,⟨.int .i64,.z,y1⟩] [⟨h30,.z,x0⟩,⟨h36,.z,x1⟩,⟨.sl 3 (.int .i64),.z,x2⟩]
def G_iinstanceCopy (x0:TInst) (y0:TInst):Prop:=GivesS prog 86 [⟨h30,.z,x0⟩] [⟨h30,.pr (.own .z) (.pr (.own (.pr .z (.pr (.own .z) .z))) .z),y0⟩] [⟨h30,.z,x0⟩]
def G_ifactsCopy (x0:List TFact) (y0:List TFact):Prop:=GivesS prog 164 [⟨h28,.z,x0⟩] [⟨h28,.own (.pr .z (.pr (.own .z) .z)),y0⟩] [⟨h28,.z,x0⟩]
def G_ifactCopy (x0:TFact) (y0:TFact):Prop:=GivesS prog 222 [⟨h11,.z,x0⟩] [⟨h11,.pr .z (.pr (.own .z) .z),y0⟩] [⟨h11,.z,x0⟩]
def G_slices_Clone_int (x0:List Int) (y0:List Int):Prop:=GivesS prog 128 [⟨.sl 3 (.int .i64),.z,x0⟩] [⟨.sl 3 (.int .i64),.own .z,y0⟩] [⟨.sl 3 (.int .i64),.z,x0⟩]
def G_slices_Clone_Relation (x0:List TRel) (y0:List TRel):Prop:=GivesS prog 163 [⟨h27,.z,x0⟩] [⟨h27,.own .z,y0⟩] [⟨h27,.z,x0⟩]
def G_ifactsSet (x0:List TFact) (y0:List TFact):Prop:=GivesS prog 174 [⟨h28,.z,x0⟩] [⟨h28,.own (.pr .z (.pr (.own .z) .z)),y0⟩] [⟨h28,.z,x0⟩]
def G_slices_CompactFunc_Fact_oopzpozz_c_isameFact (x0:List TFact) (x1:Unit) (y0:List TFact):Prop:=GivesS prog 227 [⟨h28,.own (.pr .z (.pr (.own .z) .z)),x0⟩,⟨.fn 123 .unit,.z,x1⟩] [⟨h28,.own (.pr .z (.pr (.own .z) .z)),y0⟩] [⟨h28,.dead,x0⟩,⟨.fn 123 .unit,.z,x1⟩]
def G_slices_CompactFunc_Fact_tok_c_isameFact (x0:List (TTok TFact)) (x1:Unit) (y0:List (TTok TFact)):Prop:=GivesS prog 227 [⟨h43,.own .z,x0⟩,⟨.fn 123 .unit,.z,x1⟩] [⟨h43,.own .z,y0⟩] [⟨h43,.dead,x0⟩,⟨.fn 123 .unit,.z,x1⟩]
def G_isameFact_tok (x0:TTok TFact) (x1:TTok TFact) (y0:Bool):Prop:=GivesS prog 123 [⟨h42,.z,x0⟩,⟨h42,.z,x1⟩] [⟨.bool,.z,y0⟩] [⟨h42,.z,x0⟩,⟨h42,.z,x1⟩]
def G_isameFact (x0:TFact) (x1:TFact) (y0:Bool):Prop:=GivesS prog 123 [⟨h11,.z,x0⟩,⟨h11,.z,x1⟩] [⟨.bool,.z,y0⟩] [⟨h11,.z,x0⟩,⟨h11,.z,x1⟩]
def G_iCompareFacts (x0:TFact) (x1:TFact) (y0:Int):Prop:=GivesS prog 158 [⟨h11,.z,x0⟩,⟨h11,.z,x1⟩] [⟨.int .i64,.z,y0⟩] [⟨h11,.z,x0⟩,⟨h11,.z,x1⟩]
def G_cmp_Or_int (x0:List Int) (y0:Int):Prop:=GivesS prog 213 [⟨.sl 3 (.int .i64),.z,x0⟩] [⟨.int .i64,.z,y0⟩] [⟨.sl 3 (.int .i64),.z,x0⟩]
def G_slices_Compare_int (x0:List Int) (x1:List Int) (y0:Int):Prop:=GivesS prog 215 [⟨.sl 3 (.int .i64),.z,x0⟩,⟨.sl 3 (.int .i64),.z,x1⟩] [⟨.int .i64,.z,y0⟩] [⟨.sl 3 (.int .i64),.z,x0⟩,⟨.sl 3 (.int .i64),.z,x1⟩]
def G_cmp_Compare_int (x0:Int) (x1:Int) (y0:Int):Prop:=GivesS prog 214 [⟨.int .i64,.z,x0⟩,⟨.int .i64,.z,x1⟩] [⟨.int .i64,.z,y0⟩] [⟨.int .i64,.z,x0⟩,⟨.int .i64,.z,x1⟩]
def G_cmp_isNaN_int (x0:Int) (y0:Bool):Prop:=GivesS prog 237 [⟨.int .i64,.z,x0⟩] [⟨.bool,.z,y0⟩] [⟨.int .i64,.z,x0⟩]
def G_slices_SortFunc_Fact_oopzpozz_c_iCompareFacts (x0:List TFact) (x1:Unit) (z0:List TFact):Prop:=GivesS prog 226 [⟨h28,.own (.pr .z (.pr (.own .z) .z)),x0⟩,⟨.fn 158 .unit,.z,x1⟩] [] [⟨h28,.own (.pr .z (.pr (.own .z) .z)),z0⟩,⟨.fn 158 .unit,.z,x1⟩]
def G_iInstantiate (x0:TFact) (x1:List Int) (y0:TFact) (y1:Bool):Prop:=GivesS prog 134 [⟨h11,.z,x0⟩,⟨.sl 3 (.int .i64),.z,x1⟩] [⟨h11,.pr .z (.pr (.own .z) .z),y0⟩,⟨.bool,.z,y1⟩] [⟨h11,.z,x0⟩,⟨.sl 3 (.int .i64),.z,x1⟩]
def G_iIsValidValue (x0:Int) (y0:Bool):Prop:=GivesS prog 201 [⟨.int .i64,.z,x0⟩] [⟨.bool,.z,y0⟩] [⟨.int .i64,.z,x0⟩]
def G_iwithin (x0:Int) (x1:Int) (x2:Int) (y0:Bool):Prop:=GivesS prog 165 [⟨.int .i64,.z,x0⟩,⟨.int .i64,.z,x1⟩,⟨.int .i64,.z,x2⟩] [⟨.bool,.z,y0⟩] [⟨.int .i64,.z,x0⟩,⟨.int .i64,.z,x1⟩,⟨.int .i64,.z,x2⟩]
def G_iNullValue (x0:Int) (y0:Int):Prop:=GivesS prog 133 [⟨.int .i64,.z,x0⟩] [⟨.int .i64,.z,y0⟩] [⟨.int .i64,.z,x0⟩]
def G_iExistentialVariables (x0:TDep) (y0:List Int):Prop:=GivesS prog 131 [⟨h36,.z,x0⟩] [⟨.sl 3 (.int .i64),.own .z,y0⟩] [⟨h36,.z,x0⟩]
def G_iheadVariables (x0:TDep) (x1:Bool) (y0:List Int):Prop:=GivesS prog 198 [⟨h36,.z,x0⟩,⟨.bool,.z,x1⟩] [⟨.sl 3 (.int .i64),.own .z,y0⟩] [⟨h36,.z,x0⟩,⟨.bool,.z,x1⟩]
def G_slices_Contains_int (x0:List Int) (x1:Int) (y0:Bool):Prop:=GivesS prog 218 [⟨.sl 3 (.int .i64),.z,x0⟩,⟨.int .i64,.z,x1⟩] [⟨.bool,.z,y0⟩] [⟨.sl 3 (.int .i64),.z,x0⟩,⟨.int .i64,.z,x1⟩]
def G_slices_Index_int (x0:List Int) (x1:Int) (y0:Int):Prop:=GivesS prog 240 [⟨.sl 3 (.int .i64),.z,x0⟩,⟨.int .i64,.z,x1⟩] [⟨.int .i64,.z,y0⟩] [⟨.sl 3 (.int .i64),.z,x0⟩,⟨.int .i64,.z,x1⟩]
def G_iVariables (x0:List TFact) (y0:List Int):Prop:=GivesS prog 217 [⟨h34,.z,x0⟩] [⟨.sl 3 (.int .i64),.own .z,y0⟩] [⟨h34,.z,x0⟩]
def G_slices_Compact_int_ooz (x0:List Int) (y0:List Int):Prop:=GivesS prog 239 [⟨.sl 3 (.int .i64),.own .z,x0⟩] [⟨.sl 3 (.int .i64),.own .z,y0⟩] [⟨.sl 3 (.int .i64),.dead,x0⟩]
def G_slices_Sort_int_ooz (x0:List Int) (z0:List Int):Prop:=GivesS prog 238 [⟨.sl 3 (.int .i64),.own .z,x0⟩] [] [⟨.sl 3 (.int .i64),.own .z,z0⟩]
def G_iNextNull (x0:TInst) (y0:Int):Prop:=GivesS prog 88 [⟨h30,.z,x0⟩] [⟨.int .i64,.z,y0⟩] [⟨h30,.z,x0⟩]
def G_iNullsOfInstance (x0:TInst) (y0:List Int):Prop:=GivesS prog 166 [⟨h30,.z,x0⟩] [⟨.sl 3 (.int .i64),.own .z,y0⟩] [⟨h30,.z,x0⟩]
def G_inullsOf (x0:List Int) (y0:List Int):Prop:=GivesS prog 216 [⟨.sl 3 (.int .i64),.z,x0⟩] [⟨.sl 3 (.int .i64),.own .z,y0⟩] [⟨.sl 3 (.int .i64),.z,x0⟩]
def G_iNullNumber (x0:Int) (y0:Int) (y1:Bool):Prop:=GivesS prog 224 [⟨.int .i64,.z,x0⟩] [⟨.int .i64,.z,y0⟩,⟨.bool,.z,y1⟩] [⟨.int .i64,.z,x0⟩]
def G_iequated (x0:TInst) (x1:Int) (x2:Int) (y0:TInst) (y1:Int):Prop:=GivesS prog 234 [⟨h30,.z,x0⟩,⟨.int .i64,.z,x1⟩,⟨.int .i64,.z,x2⟩] [⟨h30,.pr (.own .z) (.pr (.own (.pr .z (.pr (.own .z) .z))) .z),y0⟩,⟨.int .i64,.z,y1⟩] [⟨h30,.z,x0⟩,⟨.int .i64,.z,x1⟩,⟨.int .i64,.z,x2⟩]
def G_iApplyToInstance (x0:TSub) (x1:TInst) (y0:TInst) (y1:Bool):Prop:=GivesS prog 91 [⟨h41,.z,x0⟩,⟨h30,.z,x1⟩] [⟨h30,.pr (.own .z) (.pr (.own (.pr .z (.pr (.own .z) .z))) .z),y0⟩,⟨.bool,.z,y1⟩] [⟨h41,.z,x0⟩,⟨h30,.z,x1⟩]
def G_iApplyToFact (x0:TSub) (x1:TFact) (y0:TFact):Prop:=GivesS prog 173 [⟨h41,.z,x0⟩,⟨h11,.z,x1⟩] [⟨h11,.pr .z (.pr (.own .z) .z),y0⟩] [⟨h41,.z,x0⟩,⟨h11,.z,x1⟩]
def G_iApplyToValue (x0:TSub) (x1:Int) (y0:Int):Prop:=GivesS prog 225 [⟨h41,.z,x0⟩,⟨.int .i64,.z,x1⟩] [⟨.int .i64,.z,y0⟩] [⟨h41,.z,x0⟩,⟨.int .i64,.z,x1⟩]
def G_iIsValidSubstitution (x0:TSub) (y0:Bool):Prop:=GivesS prog 172 [⟨h41,.z,x0⟩] [⟨.bool,.z,y0⟩] [⟨h41,.z,x0⟩]
def G_iIsValidInstance (x0:TInst) (y0:Bool):Prop:=GivesS prog 83 [⟨h30,.z,x0⟩] [⟨.bool,.z,y0⟩] [⟨h30,.z,x0⟩]
def G_iNullsOfFact (x0:TFact) (y0:List Int):Prop:=GivesS prog 159 [⟨h11,.z,x0⟩] [⟨.sl 3 (.int .i64),.own .z,y0⟩] [⟨h11,.z,x0⟩]
def G_iIsValidFact (x0:List TRel) (x1:TFact) (y0:Bool):Prop:=GivesS prog 157 [⟨h27,.z,x0⟩,⟨h11,.z,x1⟩] [⟨.bool,.z,y0⟩] [⟨h27,.z,x0⟩,⟨h11,.z,x1⟩]
def G_slices_ContainsFunc_int_c_iIsValidFact_1 (x0:List Int) (x1:Unit) (y0:Bool):Prop:=GivesS prog 187 [⟨.sl 3 (.int .i64),.z,x0⟩,⟨.fn 212 .unit,.z,x1⟩] [⟨.bool,.z,y0⟩] [⟨.sl 3 (.int .i64),.z,x0⟩,⟨.fn 212 .unit,.z,x1⟩]
def G_slices_IndexFunc_int_c_iIsValidFact_1 (x0:List Int) (x1:Unit) (y0:Int):Prop:=GivesS prog 229 [⟨.sl 3 (.int .i64),.z,x0⟩,⟨.fn 212 .unit,.z,x1⟩] [⟨.int .i64,.z,y0⟩] [⟨.sl 3 (.int .i64),.z,x0⟩,⟨.fn 212 .unit,.z,x1⟩]
def G_iIsValidFact_1 (x0:Int) (y0:Bool):Prop:=GivesS prog 212 [⟨.int .i64,.z,x0⟩] [⟨.bool,.z,y0⟩] [⟨.int .i64,.z,x0⟩]
def G_iAreValidRelations (x0:List TRel) (y0:Bool):Prop:=GivesS prog 156 [⟨h27,.z,x0⟩] [⟨.bool,.z,y0⟩] [⟨h27,.z,x0⟩]
def G_iIsValidRelation (x0:TRel) (y0:Bool):Prop:=GivesS prog 211 [⟨h8,.z,x0⟩] [⟨.bool,.z,y0⟩] [⟨h8,.z,x0⟩]
def G_iIsNull (x0:Int) (y0:Bool):Prop:=GivesS prog 171 [⟨.int .i64,.z,x0⟩] [⟨.bool,.z,y0⟩] [⟨.int .i64,.z,x0⟩]
def G_iIsActiveTrigger (x0:TInst) (x1:TDep) (x2:List Int) (y0:Bool):Prop:=GivesS prog 223 [⟨h30,.z,x0⟩,⟨h36,.z,x1⟩,⟨.sl 3 (.int .i64),.z,x2⟩] [⟨.bool,.z,y0⟩] [⟨h30,.z,x0⟩,⟨h36,.z,x1⟩,⟨.sl 3 (.int .i64),.z,x2⟩]
def G_iHasExtension (x0:TInst) (x1:List TFact) (x2:List Int) (y0:Bool):Prop:=GivesS prog 242 [⟨h30,.z,x0⟩,⟨h34,.z,x1⟩,⟨.sl 3 (.int .i64),.z,x2⟩] [⟨.bool,.z,y0⟩] [⟨h30,.z,x0⟩,⟨h34,.z,x1⟩,⟨.sl 3 (.int .i64),.z,x2⟩]
def G_imatches (x0:List TFact) (x1:List TFact) (x2:List Int) (y0:List (List Int)):Prop:=GivesS prog 125 [⟨h28,.z,x0⟩,⟨h34,.z,x1⟩,⟨.sl 3 (.int .i64),.own .z,x2⟩] [⟨.sl 30 (.sl 3 (.int .i64)),.own (.own .z),y0⟩] [⟨h28,.z,x0⟩,⟨h34,.z,x1⟩,⟨.sl 3 (.int .i64),.dead,x2⟩]
def G_ibind (x0:List Int) (x1:TFact) (x2:TFact) (y0:List Int) (y1:Bool):Prop:=GivesS prog 193 [⟨.sl 3 (.int .i64),.z,x0⟩,⟨h11,.z,x1⟩,⟨h11,.z,x2⟩] [⟨.sl 3 (.int .i64),.own .z,y0⟩,⟨.bool,.z,y1⟩] [⟨.sl 3 (.int .i64),.z,x0⟩,⟨h11,.z,x1⟩,⟨h11,.z,x2⟩]
def G_iareMatchable (x0:TInst) (x1:List TFact) (y0:Bool):Prop:=GivesS prog 124 [⟨h30,.z,x0⟩,⟨h34,.z,x1⟩] [⟨.bool,.z,y0⟩] [⟨h30,.z,x0⟩,⟨h34,.z,x1⟩]
def G_iareAtoms (x0:List TRel) (x1:List TFact) (x2:Int) (y0:Bool):Prop:=GivesS prog 192 [⟨h27,.z,x0⟩,⟨h34,.z,x1⟩,⟨.int .i64,.z,x2⟩] [⟨.bool,.z,y0⟩] [⟨h27,.z,x0⟩,⟨h34,.z,x1⟩,⟨.int .i64,.z,x2⟩]
def G_slices_ContainsFunc_Atom_c_iareAtoms_1 (x0:List TFact) (x1:List TRel×Unit) (y0:Bool):Prop:=GivesS prog 219 [⟨h34,.z,x0⟩,⟨.fn 230 h44,.z,x1⟩] [⟨.bool,.z,y0⟩] [⟨h34,.z,x0⟩,⟨.fn 230 h44,.z,x1⟩]
def G_slices_IndexFunc_Atom_c_iareAtoms_1 (x0:List TFact) (x1:List TRel×Unit) (y0:Int):Prop:=GivesS prog 241 [⟨h34,.z,x0⟩,⟨.fn 230 h44,.z,x1⟩] [⟨.int .i64,.z,y0⟩] [⟨h34,.z,x0⟩,⟨.fn 230 h44,.z,x1⟩]
def G_iareAtoms_1 (x0:TFact) (x1:List TRel) (y0:Bool):Prop:=GivesS prog 230 [⟨h11,.z,x0⟩,⟨.ptr h27,.z,x1⟩] [⟨.bool,.z,y0⟩] [⟨h11,.z,x0⟩,⟨.ptr h27,.z,x1⟩]
def G_iIsValidAtom (x0:List TRel) (x1:TFact) (y0:Bool):Prop:=GivesS prog 231 [⟨h27,.z,x0⟩,⟨h11,.z,x1⟩] [⟨.bool,.z,y0⟩] [⟨h27,.z,x0⟩,⟨h11,.z,x1⟩]
def G_slices_ContainsFunc_int_c_iIsValidAtom_1 (x0:List Int) (x1:Unit) (y0:Bool):Prop:=GivesS prog 187 [⟨.sl 3 (.int .i64),.z,x0⟩,⟨.fn 245 .unit,.z,x1⟩] [⟨.bool,.z,y0⟩] [⟨.sl 3 (.int .i64),.z,x0⟩,⟨.fn 245 .unit,.z,x1⟩]
def G_slices_IndexFunc_int_c_iIsValidAtom_1 (x0:List Int) (x1:Unit) (y0:Int):Prop:=GivesS prog 229 [⟨.sl 3 (.int .i64),.z,x0⟩,⟨.fn 245 .unit,.z,x1⟩] [⟨.int .i64,.z,y0⟩] [⟨.sl 3 (.int .i64),.z,x0⟩,⟨.fn 245 .unit,.z,x1⟩]
def G_iIsValidAtom_1 (x0:Int) (y0:Bool):Prop:=GivesS prog 245 [⟨.int .i64,.z,x0⟩] [⟨.bool,.z,y0⟩] [⟨.int .i64,.z,x0⟩]
def G_iIsTrigger (x0:TInst) (x1:TDep) (x2:List Int) (y0:Bool):Prop:=GivesS prog 176 [⟨h30,.z,x0⟩,⟨h36,.z,x1⟩,⟨.sl 3 (.int .i64),.z,x2⟩] [⟨.bool,.z,y0⟩] [⟨h30,.z,x0⟩,⟨h36,.z,x1⟩,⟨.sl 3 (.int .i64),.z,x2⟩]
def G_ihasFact (x0:List TFact) (x1:TFact) (y0:Bool):Prop:=GivesS prog 52 [⟨h28,.z,x0⟩,⟨h11,.z,x1⟩] [⟨.bool,.z,y0⟩] [⟨h28,.z,x0⟩,⟨h11,.z,x1⟩]
def G_slices_ContainsFunc_Fact_c_ihasFact_1 (x0:List TFact) (x1:TFact×Unit) (y0:Bool):Prop:=GivesS prog 121 [⟨h28,.z,x0⟩,⟨.fn 122 h45,.z,x1⟩] [⟨.bool,.z,y0⟩] [⟨h28,.z,x0⟩,⟨.fn 122 h45,.z,x1⟩]
def G_slices_IndexFunc_Fact_c_ihasFact_1 (x0:List TFact) (x1:TFact×Unit) (y0:Int):Prop:=GivesS prog 191 [⟨h28,.z,x0⟩,⟨.fn 122 h45,.z,x1⟩] [⟨.int .i64,.z,y0⟩] [⟨h28,.z,x0⟩,⟨.fn 122 h45,.z,x1⟩]
def G_ihasFact_1 (x0:TFact) (x1:TFact) (y0:Bool):Prop:=GivesS prog 122 [⟨h11,.z,x0⟩,⟨.ptr h11,.z,x1⟩] [⟨.bool,.z,y0⟩] [⟨h11,.z,x0⟩,⟨.ptr h11,.z,x1⟩]
def G_iIsValidDependency (x0:List TRel) (x1:TDep) (y0:Bool):Prop:=GivesS prog 161 [⟨h27,.z,x0⟩,⟨h36,.z,x1⟩] [⟨.bool,.z,y0⟩] [⟨h27,.z,x0⟩,⟨h36,.z,x1⟩]
def G_slices_ContainsFunc_Atom_c_iIsValidDependency_1 (x0:List TFact) (x1:List TRel×Unit) (y0:Bool):Prop:=GivesS prog 219 [⟨h34,.z,x0⟩,⟨.fn 220 h44,.z,x1⟩] [⟨.bool,.z,y0⟩] [⟨h34,.z,x0⟩,⟨.fn 220 h44,.z,x1⟩]
def G_slices_IndexFunc_Atom_c_iIsValidDependency_1 (x0:List TFact) (x1:List TRel×Unit) (y0:Int):Prop:=GivesS prog 241 [⟨h34,.z,x0⟩,⟨.fn 220 h44,.z,x1⟩] [⟨.int .i64,.z,y0⟩] [⟨h34,.z,x0⟩,⟨.fn 220 h44,.z,x1⟩]
def G_iIsValidDependency_1 (x0:TFact) (x1:List TRel) (y0:Bool):Prop:=GivesS prog 220 [⟨h11,.z,x0⟩,⟨.ptr h27,.z,x1⟩] [⟨.bool,.z,y0⟩] [⟨h11,.z,x0⟩,⟨.ptr h27,.z,x1⟩]
def G_iallTriggers (x0:TInst) (x1:List TDep) (y0:List TFact):Prop:=GivesS prog 206 [⟨h30,.z,x0⟩,⟨h37,.z,x1⟩] [⟨h26,.own (.pr .z (.pr (.own .z) .z)),y0⟩] [⟨h30,.z,x0⟩,⟨h37,.z,x1⟩]
def G_iActiveTriggers (x0:TInst) (x1:TDep) (y0:List (List Int)):Prop:=GivesS prog 167 [⟨h30,.z,x0⟩,⟨h36,.z,x1⟩] [⟨.sl 30 (.sl 3 (.int .i64)),.own (.own .z),y0⟩] [⟨h30,.z,x0⟩,⟨h36,.z,x1⟩]
def G_iFindMatches (x0:TInst) (x1:List TFact) (y0:List (List Int)):Prop:=GivesS prog 53 [⟨h30,.z,x0⟩,⟨h34,.z,x1⟩] [⟨.sl 30 (.sl 3 (.int .i64)),.own (.own .z),y0⟩] [⟨h30,.z,x0⟩,⟨h34,.z,x1⟩]
def G_ihasBinding (x0:List (List Int)) (x1:List Int) (y0:Bool):Prop:=GivesS prog 127 [⟨.sl 30 (.sl 3 (.int .i64)),.z,x0⟩,⟨.sl 3 (.int .i64),.z,x1⟩] [⟨.bool,.z,y0⟩] [⟨.sl 30 (.sl 3 (.int .i64)),.z,x0⟩,⟨.sl 3 (.int .i64),.z,x1⟩]
def G_slices_ContainsFunc_Sint_c_ihasBinding_1 (x0:List (List Int)) (x1:TUf) (y0:Bool):Prop:=GivesS prog 195 [⟨.sl 30 (.sl 3 (.int .i64)),.z,x0⟩,⟨.fn 196 h46,.z,x1⟩] [⟨.bool,.z,y0⟩] [⟨.sl 30 (.sl 3 (.int .i64)),.z,x0⟩,⟨.fn 196 h46,.z,x1⟩]
def G_slices_IndexFunc_Sint_c_ihasBinding_1 (x0:List (List Int)) (x1:TUf) (y0:Int):Prop:=GivesS prog 233 [⟨.sl 30 (.sl 3 (.int .i64)),.z,x0⟩,⟨.fn 196 h46,.z,x1⟩] [⟨.int .i64,.z,y0⟩] [⟨.sl 30 (.sl 3 (.int .i64)),.z,x0⟩,⟨.fn 196 h46,.z,x1⟩]
def G_ihasBinding_1 (x0:List Int) (x1:List Int) (y0:Bool):Prop:=GivesS prog 196 [⟨.sl 3 (.int .i64),.z,x0⟩,⟨.ptr (.sl 3 (.int .i64)),.z,x1⟩] [⟨.bool,.z,y0⟩] [⟨.sl 3 (.int .i64),.z,x0⟩,⟨.ptr (.sl 3 (.int .i64)),.z,x1⟩]
def G_slices_Equal_int (x0:List Int) (x1:List Int) (y0:Bool):Prop:=GivesS prog 197 [⟨.sl 3 (.int .i64),.z,x0⟩,⟨.sl 3 (.int .i64),.z,x1⟩] [⟨.bool,.z,y0⟩] [⟨.sl 3 (.int .i64),.z,x0⟩,⟨.sl 3 (.int .i64),.z,x1⟩]
def G_iunboundBinding  (y0:List Int):Prop:=GivesS prog 126 [] [⟨.sl 3 (.int .i64),.own .z,y0⟩] []
def G_slices_Repeat_int (x0:List Int) (x1:Int) (y0:List Int):Prop:=GivesS prog 194 [⟨.sl 3 (.int .i64),.z,x0⟩,⟨.int .i64,.z,x1⟩] [⟨.sl 3 (.int .i64),.own .z,y0⟩] [⟨.sl 3 (.int .i64),.z,x0⟩,⟨.int .i64,.z,x1⟩]
def G_math_bits_Mul (x0:Int) (x1:Int) (y0:Int) (y1:Int):Prop:=GivesS prog 232 [⟨.int .u64,.z,x0⟩,⟨.int .u64,.z,x1⟩] [⟨.int .u64,.z,y0⟩,⟨.int .u64,.z,y1⟩] [⟨.int .u64,.z,x0⟩,⟨.int .u64,.z,x1⟩]
def G_math_bits_Mul64 (x0:Int) (x1:Int) (y0:Int) (y1:Int):Prop:=GivesS prog 247 [⟨.int .u64,.z,x0⟩,⟨.int .u64,.z,x1⟩] [⟨.int .u64,.z,y0⟩,⟨.int .u64,.z,y1⟩] [⟨.int .u64,.z,x0⟩,⟨.int .u64,.z,x1⟩]
def G_iAreValidDependencies (x0:List TRel) (x1:List TDep) (y0:Bool):Prop:=GivesS prog 84 [⟨h27,.z,x0⟩,⟨h37,.z,x1⟩] [⟨.bool,.z,y0⟩] [⟨h27,.z,x0⟩,⟨h37,.z,x1⟩]
def G_slices_ContainsFunc_Dependency_c_iAreValidDependencies_1 (x0:List TDep) (x1:List TRel×Unit) (y0:Bool):Prop:=GivesS prog 119 [⟨h37,.z,x0⟩,⟨.fn 160 h44,.z,x1⟩] [⟨.bool,.z,y0⟩] [⟨h37,.z,x0⟩,⟨.fn 160 h44,.z,x1⟩]
def G_slices_IndexFunc_Dependency_c_iAreValidDependencies_1 (x0:List TDep) (x1:List TRel×Unit) (y0:Int):Prop:=GivesS prog 190 [⟨h37,.z,x0⟩,⟨.fn 160 h44,.z,x1⟩] [⟨.int .i64,.z,y0⟩] [⟨h37,.z,x0⟩,⟨.fn 160 h44,.z,x1⟩]
def G_iAreValidDependencies_1 (x0:TDep) (x1:List TRel) (y0:Bool):Prop:=GivesS prog 160 [⟨h36,.z,x0⟩,⟨.ptr h27,.z,x1⟩] [⟨.bool,.z,y0⟩] [⟨h36,.z,x0⟩,⟨.ptr h27,.z,x1⟩]
def G_ltoDependencyS (x0:List TDep) (y0:List TDep):Prop:=GivesS prog 12 [⟨h25,.z,x0⟩] [⟨h37,.own (.pr (.own (.pr .z (.pr (.own .z) .z))) (.pr (.own (.pr .z (.pr (.own .z) .z))) .z)),y0⟩] [⟨h25,.z,x0⟩]
def G_ltoDependency (x0:TDep) (y0:TDep):Prop:=GivesS prog 48 [⟨h24,.z,x0⟩] [⟨h36,.pr (.own (.pr .z (.pr (.own .z) .z))) (.pr (.own (.pr .z (.pr (.own .z) .z))) .z),y0⟩] [⟨h24,.z,x0⟩]
def G_ltoAtomS (x0:List TFact) (y0:List TFact):Prop:=GivesS prog 117 [⟨h19,.z,x0⟩] [⟨h34,.own (.pr .z (.pr (.own .z) .z)),y0⟩] [⟨h19,.z,x0⟩]
def G_ltoAtom (x0:TFact) (y0:TFact):Prop:=GivesS prog 185 [⟨h11,.z,x0⟩] [⟨h11,.pr .z (.pr (.own .z) .z),y0⟩] [⟨h11,.z,x0⟩]
def G_ltoIntS (x0:List Int) (y0:List Int):Prop:=GivesS prog 49 [⟨.sl 3 (.int .i64),.z,x0⟩] [⟨.sl 3 (.int .i64),.own .z,y0⟩] [⟨.sl 3 (.int .i64),.z,x0⟩]
def G_ltoInstance (x0:TInst) (y0:TInst):Prop:=GivesS prog 26 [⟨h14,.z,x0⟩] [⟨h30,.pr (.own .z) (.pr (.own (.pr .z (.pr (.own .z) .z))) .z),y0⟩] [⟨h14,.z,x0⟩]
def G_ltoFactS (x0:List TFact) (y0:List TFact):Prop:=GivesS prog 67 [⟨h12,.z,x0⟩] [⟨h28,.own (.pr .z (.pr (.own .z) .z)),y0⟩] [⟨h12,.z,x0⟩]
def G_ltoFact (x0:TFact) (y0:TFact):Prop:=GivesS prog 13 [⟨h11,.z,x0⟩] [⟨h11,.pr .z (.pr (.own .z) .z),y0⟩] [⟨h11,.z,x0⟩]
def G_ltoRelationS (x0:List TRel) (y0:List TRel):Prop:=GivesS prog 66 [⟨h9,.z,x0⟩] [⟨h27,.own .z,y0⟩] [⟨h9,.z,x0⟩]
def G_ltoRelation (x0:TRel) (y0:TRel):Prop:=GivesS prog 139 [⟨h8,.z,x0⟩] [⟨h8,.z,y0⟩] [⟨h8,.z,x0⟩]
def G_lmarkChaseStepS_oopzpozz (x0:List TFact) (x1:Int) (y0:Int) (z0:List TFact):Prop:=GivesS prog 22 [⟨h26,.own (.pr .z (.pr (.own .z) .z)),x0⟩,⟨.int .i64,.z,x1⟩] [⟨.int .i64,.z,y0⟩] [⟨h26,.own (.pr .z (.pr (.own .z) .z)),z0⟩,⟨.int .i64,.z,x1⟩]
def G_lmarkIntS_ooz (x0:List Int) (x1:Int) (y0:Int) (z0:List Int):Prop:=GivesS prog 61 [⟨.sl 3 (.int .i64),.own .z,x0⟩,⟨.int .i64,.z,x1⟩] [⟨.int .i64,.z,y0⟩] [⟨.sl 3 (.int .i64),.own .z,z0⟩,⟨.int .i64,.z,x1⟩]
def G_lmarkDependencyS_oopopzpozzpopzpozzz (x0:List TDep) (x1:Int) (y0:Int) (z0:List TDep):Prop:=GivesS prog 20 [⟨h37,.own (.pr (.own (.pr .z (.pr (.own .z) .z))) (.pr (.own (.pr .z (.pr (.own .z) .z))) .z)),x0⟩,⟨.int .i64,.z,x1⟩] [⟨.int .i64,.z,y0⟩] [⟨h37,.own (.pr (.own (.pr .z (.pr (.own .z) .z))) (.pr (.own (.pr .z (.pr (.own .z) .z))) .z)),z0⟩,⟨.int .i64,.z,x1⟩]
def G_lmarkAtomS_oopzpozz (x0:List TFact) (x1:Int) (y0:Int) (z0:List TFact):Prop:=GivesS prog 60 [⟨h34,.own (.pr .z (.pr (.own .z) .z)),x0⟩,⟨.int .i64,.z,x1⟩] [⟨.int .i64,.z,y0⟩] [⟨h34,.own (.pr .z (.pr (.own .z) .z)),z0⟩,⟨.int .i64,.z,x1⟩]
def G_lmarkInstance_opozpopzpozzz (x0:TInst) (x1:Int) (y0:Int) (z0:TInst):Prop:=GivesS prog 29 [⟨h30,.pr (.own .z) (.pr (.own (.pr .z (.pr (.own .z) .z))) .z),x0⟩,⟨.int .i64,.z,x1⟩] [⟨.int .i64,.z,y0⟩] [⟨h30,.pr (.own .z) (.pr (.own (.pr .z (.pr (.own .z) .z))) .z),z0⟩,⟨.int .i64,.z,x1⟩]
def G_lmarkFactS_oopzpozz (x0:List TFact) (x1:Int) (y0:Int) (z0:List TFact):Prop:=GivesS prog 72 [⟨h28,.own (.pr .z (.pr (.own .z) .z)),x0⟩,⟨.int .i64,.z,x1⟩] [⟨.int .i64,.z,y0⟩] [⟨h28,.own (.pr .z (.pr (.own .z) .z)),z0⟩,⟨.int .i64,.z,x1⟩]
def G_lmarkRelationS_ooz (x0:List TRel) (x1:Int) (y0:Int) (z0:List TRel):Prop:=GivesS prog 71 [⟨h27,.own .z,x0⟩,⟨.int .i64,.z,x1⟩] [⟨.int .i64,.z,y0⟩] [⟨h27,.own .z,z0⟩,⟨.int .i64,.z,x1⟩]
def G_lmarkText (x0:Int) (y0:List UInt8):Prop:=GivesS prog 142 [⟨.int .i64,.z,x0⟩] [⟨.str,.z,y0⟩] [⟨.int .i64,.z,x0⟩]
def G_leqDependencyS (x0:List TDep) (x1:List TDep) (y0:Bool):Prop:=GivesS prog 17 [⟨h37,.z,x0⟩,⟨h37,.z,x1⟩] [⟨.bool,.z,y0⟩] [⟨h37,.z,x0⟩,⟨h37,.z,x1⟩]
def G_leqDependency (x0:TDep) (x1:TDep) (y0:Bool):Prop:=GivesS prog 57 [⟨h36,.z,x0⟩,⟨h36,.z,x1⟩] [⟨.bool,.z,y0⟩] [⟨h36,.z,x0⟩,⟨h36,.z,x1⟩]
def G_leqAtomS (x0:List TFact) (x1:List TFact) (y0:Bool):Prop:=GivesS prog 136 [⟨h34,.z,x0⟩,⟨h34,.z,x1⟩] [⟨.bool,.z,y0⟩] [⟨h34,.z,x0⟩,⟨h34,.z,x1⟩]
def G_leqAtom (x0:TFact) (x1:TFact) (y0:Bool):Prop:=GivesS prog 202 [⟨h11,.z,x0⟩,⟨h11,.z,x1⟩] [⟨.bool,.z,y0⟩] [⟨h11,.z,x0⟩,⟨h11,.z,x1⟩]
def G_leqInstance (x0:TInst) (x1:TInst) (y0:Bool):Prop:=GivesS prog 28 [⟨h30,.z,x0⟩,⟨h30,.z,x1⟩] [⟨.bool,.z,y0⟩] [⟨h30,.z,x0⟩,⟨h30,.z,x1⟩]
def G_leqFactS (x0:List TFact) (x1:List TFact) (y0:Bool):Prop:=GivesS prog 70 [⟨h28,.z,x0⟩,⟨h28,.z,x1⟩] [⟨.bool,.z,y0⟩] [⟨h28,.z,x0⟩,⟨h28,.z,x1⟩]
def G_leqFact (x0:TFact) (x1:TFact) (y0:Bool):Prop:=GivesS prog 18 [⟨h11,.z,x0⟩,⟨h11,.z,x1⟩] [⟨.bool,.z,y0⟩] [⟨h11,.z,x0⟩,⟨h11,.z,x1⟩]
def G_leqRelationS (x0:List TRel) (x1:List TRel) (y0:Bool):Prop:=GivesS prog 69 [⟨h27,.z,x0⟩,⟨h27,.z,x1⟩] [⟨.bool,.z,y0⟩] [⟨h27,.z,x0⟩,⟨h27,.z,x1⟩]
def G_leqRelation (x0:TRel) (x1:TRel) (y0:Bool):Prop:=GivesS prog 141 [⟨h8,.z,x0⟩,⟨h8,.z,x1⟩] [⟨.bool,.z,y0⟩] [⟨h8,.z,x0⟩,⟨h8,.z,x1⟩]
def G_sFindFailureProof (x0:TInst) (x1:List TDep) (y0:List TFact) (y1:Bool):Prop:=GivesS prog 25 [⟨h30,.z,x0⟩,⟨h37,.z,x1⟩] [⟨h26,.own .z,y0⟩,⟨.bool,.z,y1⟩] [⟨h30,.z,x0⟩,⟨h37,.z,x1⟩]
def G_sChase (x0:TInst) (x1:List TDep) (y0:TRes) (y1:Bool):Prop:=GivesS prog 65 [⟨h30,.z,x0⟩,⟨h37,.z,x1⟩] [⟨h40,.pr .z (.pr .z (.pr (.own .z) .z)),y0⟩,⟨.bool,.z,y1⟩] [⟨h30,.z,x0⟩,⟨h37,.z,x1⟩]
def G_sl16Go (x0:TInst) (x1:List TDep) (x2:List Int) (y0:TRes) (y1:Bool):Prop:=GivesS prog 138 [⟨h30,.z,x0⟩,⟨h37,.z,x1⟩,⟨.sl 3 (.int .i64),.z,x2⟩] [⟨h40,.pr .z (.pr .z (.pr (.own .z) .z)),y0⟩,⟨.bool,.z,y1⟩] [⟨h30,.z,x0⟩,⟨h37,.z,x1⟩,⟨.sl 3 (.int .i64),.z,x2⟩]
def G_sApplyTrigger (x0:TInst) (x1:TDep) (x2:List Int) (y0:TInst) (y1:Int):Prop:=GivesS prog 205 [⟨h30,.z,x0⟩,⟨h36,.z,x1⟩,⟨.sl 3 (.int .i64),.z,x2⟩] [⟨h30,.z,y0⟩,⟨.int .i64,.z,y1⟩] [⟨h30,.z,x0⟩,⟨h36,.z,x1⟩,⟨.sl 3 (.int .i64),.z,x2⟩]
def G_sl5Copy (x0:TInst) (y0:TInst):Prop:=GivesS prog 75 [⟨h30,.z,x0⟩] [⟨h30,.pr (.own .z) (.pr (.own (.pr .z (.pr (.own .z) .z))) .z),y0⟩] [⟨h30,.z,x0⟩]
def G_sl5Fact (x0:TFact) (y0:TFact):Prop:=GivesS prog 147 [⟨h11,.z,x0⟩] [⟨h11,.pr .z (.pr (.own .z) .z),y0⟩] [⟨h11,.z,x0⟩]
def G_sl5Put (x0:TInst) (x1:TFact) (y0:TInst):Prop:=GivesS prog 154 [⟨h30,.z,x0⟩,⟨h11,.z,x1⟩] [⟨h30,.z,y0⟩] [⟨h30,.z,x0⟩,⟨h11,.z,x1⟩]
def G_sCompareFacts (x0:TFact) (x1:TFact) (y0:Int):Prop:=GivesS prog 115 [⟨h11,.z,x0⟩,⟨h11,.z,x1⟩] [⟨.int .i64,.z,y0⟩] [⟨h11,.z,x0⟩,⟨h11,.z,x1⟩]
def G_sl4Ints (x0:List Int) (x1:List Int) (y0:Int):Prop:=GivesS prog 104 [⟨.sl 3 (.int .i64),.z,x0⟩,⟨.sl 3 (.int .i64),.z,x1⟩] [⟨.int .i64,.z,y0⟩] [⟨.sl 3 (.int .i64),.z,x0⟩,⟨.sl 3 (.int .i64),.z,x1⟩]
def G_sl5Place (x0:TInst) (x1:TFact) (y0:Int):Prop:=GivesS prog 107 [⟨h30,.z,x0⟩,⟨h11,.z,x1⟩] [⟨.int .i64,.z,y0⟩] [⟨h30,.z,x0⟩,⟨h11,.z,x1⟩]
def G_sInstantiate (x0:TFact) (x1:List Int) (y0:TFact) (y1:Bool):Prop:=GivesS prog 114 [⟨h11,.z,x0⟩,⟨.sl 3 (.int .i64),.z,x1⟩] [⟨h11,.pr .z (.pr (.own .z) .z),y0⟩,⟨.bool,.z,y1⟩] [⟨h11,.z,x0⟩,⟨.sl 3 (.int .i64),.z,x1⟩]
def G_sIsValidValue (x0:Int) (y0:Bool):Prop:=GivesS prog 103 [⟨.int .i64,.z,x0⟩] [⟨.bool,.z,y0⟩] [⟨.int .i64,.z,x0⟩]
def G_sl1In (x0:Int) (x1:Int) (x2:Int) (y0:Bool):Prop:=GivesS prog 105 [⟨.int .i64,.z,x0⟩,⟨.int .i64,.z,x1⟩,⟨.int .i64,.z,x2⟩] [⟨.bool,.z,y0⟩] [⟨.int .i64,.z,x0⟩,⟨.int .i64,.z,x1⟩,⟨.int .i64,.z,x2⟩]
def G_sNullNumber (x0:Int) (y0:Int) (y1:Bool):Prop:=GivesS prog 102 [⟨.int .i64,.z,x0⟩] [⟨.int .i64,.z,y0⟩,⟨.bool,.z,y1⟩] [⟨.int .i64,.z,x0⟩]
def G_sNullValue (x0:Int) (y0:Int):Prop:=GivesS prog 148 [⟨.int .i64,.z,x0⟩] [⟨.int .i64,.z,y0⟩] [⟨.int .i64,.z,x0⟩]
def G_sNextNull (x0:TInst) (y0:Int):Prop:=GivesS prog 77 [⟨h30,.z,x0⟩] [⟨.int .i64,.z,y0⟩] [⟨h30,.z,x0⟩]
def G_sNullsOfInstance (x0:TInst) (y0:List Int):Prop:=GivesS prog 106 [⟨h30,.z,x0⟩] [⟨.sl 3 (.int .i64),.z,y0⟩] [⟨h30,.z,x0⟩]
def G_sl4Put (x0:List Int) (x1:Int) (y0:List Int):Prop:=GivesS prog 178 [⟨.sl 3 (.int .i64),.z,x0⟩,⟨.int .i64,.z,x1⟩] [⟨.sl 3 (.int .i64),.z,y0⟩] [⟨.sl 3 (.int .i64),.z,x0⟩,⟨.int .i64,.z,x1⟩]
def G_sNullsOfFact (x0:TFact) (y0:List Int):Prop:=GivesS prog 144 [⟨h11,.z,x0⟩] [⟨.sl 3 (.int .i64),.z,y0⟩] [⟨h11,.z,x0⟩]
def G_sExistentialVariables (x0:TDep) (y0:List Int):Prop:=GivesS prog 112 [⟨h36,.z,x0⟩] [⟨.sl 3 (.int .i64),.own .z,y0⟩] [⟨h36,.z,x0⟩]
def G_sl4Has (x0:List Int) (x1:Int) (y0:Bool):Prop:=GivesS prog 183 [⟨.sl 3 (.int .i64),.z,x0⟩,⟨.int .i64,.z,x1⟩] [⟨.bool,.z,y0⟩] [⟨.sl 3 (.int .i64),.z,x0⟩,⟨.int .i64,.z,x1⟩]
def G_sVariables (x0:List TFact) (y0:List Int):Prop:=GivesS prog 182 [⟨h34,.z,x0⟩] [⟨.sl 3 (.int .i64),.z,y0⟩] [⟨h34,.z,x0⟩]
def G_sApplyToInstance (x0:TSub) (x1:TInst) (y0:TInst) (y1:Bool):Prop:=GivesS prog 81 [⟨h41,.z,x0⟩,⟨h30,.z,x1⟩] [⟨h30,.pr (.own .z) (.pr (.own (.pr .z (.pr (.own .z) .z))) .z),y0⟩,⟨.bool,.z,y1⟩] [⟨h41,.z,x0⟩,⟨h30,.z,x1⟩]
def G_sApplyToFact (x0:TSub) (x1:TFact) (y0:TFact):Prop:=GivesS prog 155 [⟨h41,.z,x0⟩,⟨h11,.z,x1⟩] [⟨h11,.pr .z (.pr (.own .z) .z),y0⟩] [⟨h41,.z,x0⟩,⟨h11,.z,x1⟩]
def G_sApplyToValue (x0:TSub) (x1:Int) (y0:Int):Prop:=GivesS prog 210 [⟨h41,.z,x0⟩,⟨.int .i64,.z,x1⟩] [⟨.int .i64,.z,y0⟩] [⟨h41,.z,x0⟩,⟨.int .i64,.z,x1⟩]
def G_sIsValidSubstitution (x0:TSub) (y0:Bool):Prop:=GivesS prog 153 [⟨h41,.z,x0⟩] [⟨.bool,.z,y0⟩] [⟨h41,.z,x0⟩]
def G_sIsValidInstance (x0:TInst) (y0:Bool):Prop:=GivesS prog 73 [⟨h30,.z,x0⟩] [⟨.bool,.z,y0⟩] [⟨h30,.z,x0⟩]
def G_sAreValidRelations (x0:List TRel) (y0:Bool):Prop:=GivesS prog 145 [⟨h27,.z,x0⟩] [⟨.bool,.z,y0⟩] [⟨h27,.z,x0⟩]
def G_sIsValidRelation (x0:TRel) (y0:Bool):Prop:=GivesS prog 208 [⟨h8,.z,x0⟩] [⟨.bool,.z,y0⟩] [⟨h8,.z,x0⟩]
def G_sIsValidFact (x0:List TRel) (x1:TFact) (y0:Bool):Prop:=GivesS prog 143 [⟨h27,.z,x0⟩,⟨h11,.z,x1⟩] [⟨.bool,.z,y0⟩] [⟨h27,.z,x0⟩,⟨h11,.z,x1⟩]
def G_sIsActiveTrigger (x0:TInst) (x1:TDep) (x2:List Int) (y0:Bool):Prop:=GivesS prog 209 [⟨h30,.z,x0⟩,⟨h36,.z,x1⟩,⟨.sl 3 (.int .i64),.z,x2⟩] [⟨.bool,.z,y0⟩] [⟨h30,.z,x0⟩,⟨h36,.z,x1⟩,⟨.sl 3 (.int .i64),.z,x2⟩]
def G_sHasExtension (x0:TInst) (x1:List TFact) (x2:List Int) (y0:Bool):Prop:=GivesS prog 236 [⟨h30,.z,x0⟩,⟨h34,.z,x1⟩,⟨.sl 3 (.int .i64),.z,x2⟩] [⟨.bool,.z,y0⟩] [⟨h30,.z,x0⟩,⟨h34,.z,x1⟩,⟨.sl 3 (.int .i64),.z,x2⟩]
def G_sl11Walk (x0:TInst) (x1:List TFact) (x2:Int) (x3:List Int) (y0:List (List Int)):Prop:=GivesS prog 109 [⟨h30,.z,x0⟩,⟨h34,.z,x1⟩,⟨.int .i64,.z,x2⟩,⟨.sl 3 (.int .i64),.z,x3⟩] [⟨.sl 30 (.sl 3 (.int .i64)),.own (.own .z),y0⟩] [⟨h30,.z,x0⟩,⟨h34,.z,x1⟩,⟨.int .i64,.z,x2⟩,⟨.sl 3 (.int .i64),.z,x3⟩]
def G_sl11Fit (x0:TFact) (x1:TFact) (x2:List Int) (y0:List Int) (y1:Bool):Prop:=GivesS prog 180 [⟨h11,.z,x0⟩,⟨h11,.z,x1⟩,⟨.sl 3 (.int .i64),.z,x2⟩] [⟨.sl 3 (.int .i64),.own .z,y0⟩,⟨.bool,.z,y1⟩] [⟨h11,.z,x0⟩,⟨h11,.z,x1⟩,⟨.sl 3 (.int .i64),.z,x2⟩]
def G_sl11None  (y0:Int):Prop:=GivesS prog 181 [] [⟨.int .i64,.z,y0⟩] []
def G_sl11Ok (x0:TInst) (x1:List TFact) (y0:Bool):Prop:=GivesS prog 108 [⟨h30,.z,x0⟩,⟨h34,.z,x1⟩] [⟨.bool,.z,y0⟩] [⟨h30,.z,x0⟩,⟨h34,.z,x1⟩]
def G_sIsValidAtom (x0:List TRel) (x1:TFact) (y0:Bool):Prop:=GivesS prog 179 [⟨h27,.z,x0⟩,⟨h11,.z,x1⟩] [⟨.bool,.z,y0⟩] [⟨h27,.z,x0⟩,⟨h11,.z,x1⟩]
def G_sIsTrigger (x0:TInst) (x1:TDep) (x2:List Int) (y0:Bool):Prop:=GivesS prog 235 [⟨h30,.z,x0⟩,⟨h36,.z,x1⟩,⟨.sl 3 (.int .i64),.z,x2⟩] [⟨.bool,.z,y0⟩] [⟨h30,.z,x0⟩,⟨h36,.z,x1⟩,⟨.sl 3 (.int .i64),.z,x2⟩]
def G_sIsValidDependency (x0:List TRel) (x1:TDep) (y0:Bool):Prop:=GivesS prog 146 [⟨h27,.z,x0⟩,⟨h36,.z,x1⟩] [⟨.bool,.z,y0⟩] [⟨h27,.z,x0⟩,⟨h36,.z,x1⟩]
def G_sl16Mod (x0:Int) (x1:Int) (y0:Int):Prop:=GivesS prog 204 [⟨.int .i64,.z,x0⟩,⟨.int .i64,.z,x1⟩] [⟨.int .i64,.z,y0⟩] [⟨.int .i64,.z,x0⟩,⟨.int .i64,.z,x1⟩]
def G_sl16All (x0:TInst) (x1:List TDep) (y0:List TFact):Prop:=GivesS prog 203 [⟨h30,.z,x0⟩,⟨h37,.z,x1⟩] [⟨h26,.own .z,y0⟩] [⟨h30,.z,x0⟩,⟨h37,.z,x1⟩]
def G_sActiveTriggers (x0:TInst) (x1:TDep) (y0:List (List Int)):Prop:=GivesS prog 150 [⟨h30,.z,x0⟩,⟨h36,.z,x1⟩] [⟨.sl 30 (.sl 3 (.int .i64)),.own .z,y0⟩] [⟨h30,.z,x0⟩,⟨h36,.z,x1⟩]
def G_sFindMatches (x0:TInst) (x1:List TFact) (y0:List (List Int)):Prop:=GivesS prog 45 [⟨h30,.z,x0⟩,⟨h34,.z,x1⟩] [⟨.sl 30 (.sl 3 (.int .i64)),.own .z,y0⟩] [⟨h30,.z,x0⟩,⟨h34,.z,x1⟩]
def G_sl11Blank  (y0:List Int):Prop:=GivesS prog 110 [] [⟨.sl 3 (.int .i64),.own .z,y0⟩] []
def G_sAreValidDependencies (x0:List TRel) (x1:List TDep) (y0:Bool):Prop:=GivesS prog 74 [⟨h27,.z,x0⟩,⟨h37,.z,x1⟩] [⟨.bool,.z,y0⟩] [⟨h27,.z,x0⟩,⟨h37,.z,x1⟩]
def G_lszDependencyS (x0:List TDep) (x1:Int) (y0:Int):Prop:=GivesS prog 8 [⟨h25,.z,x0⟩,⟨.int .i64,.z,x1⟩] [⟨.int .i64,.z,y0⟩] [⟨h25,.z,x0⟩,⟨.int .i64,.z,x1⟩]
def G_lszDependency (x0:TDep) (x1:Int) (y0:Int):Prop:=GivesS prog 40 [⟨h24,.z,x0⟩,⟨.int .i64,.z,x1⟩] [⟨.int .i64,.z,y0⟩] [⟨h24,.z,x0⟩,⟨.int .i64,.z,x1⟩]
def G_lszAtomS (x0:List TFact) (x1:Int) (y0:Int):Prop:=GivesS prog 101 [⟨h19,.z,x0⟩,⟨.int .i64,.z,x1⟩] [⟨.int .i64,.z,y0⟩] [⟨h19,.z,x0⟩,⟨.int .i64,.z,x1⟩]
def G_lszAtom (x0:TFact) (x1:Int) (y0:Int):Prop:=GivesS prog 177 [⟨h11,.z,x0⟩,⟨.int .i64,.z,x1⟩] [⟨.int .i64,.z,y0⟩] [⟨h11,.z,x0⟩,⟨.int .i64,.z,x1⟩]
def G_lszIntS (x0:List Int) (x1:Int) (y0:Int):Prop:=GivesS prog 41 [⟨.sl 3 (.int .i64),.z,x0⟩,⟨.int .i64,.z,x1⟩] [⟨.int .i64,.z,y0⟩] [⟨.sl 3 (.int .i64),.z,x0⟩,⟨.int .i64,.z,x1⟩]
def G_lszInstance (x0:TInst) (x1:Int) (y0:Int):Prop:=GivesS prog 24 [⟨h14,.z,x0⟩,⟨.int .i64,.z,x1⟩] [⟨.int .i64,.z,y0⟩] [⟨h14,.z,x0⟩,⟨.int .i64,.z,x1⟩]
def G_lszFactS (x0:List TFact) (x1:Int) (y0:Int):Prop:=GivesS prog 64 [⟨h12,.z,x0⟩,⟨.int .i64,.z,x1⟩] [⟨.int .i64,.z,y0⟩] [⟨h12,.z,x0⟩,⟨.int .i64,.z,x1⟩]
def G_lszFact (x0:TFact) (x1:Int) (y0:Int):Prop:=GivesS prog 9 [⟨h11,.z,x0⟩,⟨.int .i64,.z,x1⟩] [⟨.int .i64,.z,y0⟩] [⟨h11,.z,x0⟩,⟨.int .i64,.z,x1⟩]
def G_lszRelationS (x0:List TRel) (x1:Int) (y0:Int):Prop:=GivesS prog 63 [⟨h9,.z,x0⟩,⟨.int .i64,.z,x1⟩] [⟨.int .i64,.z,y0⟩] [⟨h9,.z,x0⟩,⟨.int .i64,.z,x1⟩]
def G_lszRelation (x0:TRel) (x1:Int) (y0:Int):Prop:=GivesS prog 137 [⟨h8,.z,x0⟩,⟨.int .i64,.z,x1⟩] [⟨.int .i64,.z,y0⟩] [⟨h8,.z,x0⟩,⟨.int .i64,.z,x1⟩]
theorem K_slices_CompactFunc_Fact_oopzpozz_c_isameFact (x0:List TFact) (x1:Unit) (y0:List TFact) (H:∀ xs:List (TTok TFact),xs.map (·.2)=x0→∃ ys:List (TTok TFact),ys.Sublist xs∧ys.map (·.2)=y0∧G_slices_CompactFunc_Fact_tok_c_isameFact xs x1 ys):G_slices_CompactFunc_Fact_oopzpozz_c_isameFact x0 x1 y0:=own_tok (by rfl) H
theorem K_isameFact_tok (x0:TTok TFact) (x1:TTok TFact) (y0:Bool) (h:G_isameFact x0.2 x1.2 y0):G_isameFact_tok x0 x1 y0:=tok_args h
end Go.V

