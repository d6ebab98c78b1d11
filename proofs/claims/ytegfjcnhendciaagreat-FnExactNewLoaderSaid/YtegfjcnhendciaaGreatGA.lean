/-
  The functions that are reached: types, signatures, what a call of each gives.
-/
import Derived.Test.YtegfjcnhendciaaGreatVE
import Derived.Test.YtegfjcnhendciaaGreatProg
import Derived.KernelRfl
set_option linter.unusedVariables false
set_option linter.unusedSimpArgs false
set_option maxRecDepth 1000000
set_option maxHeartbeats 4000000
set_option linter.unusedVariables false
namespace Go.V
open Go Go.Proofs
abbrev h0 : Sh := .pair (.int .u8) .unit
abbrev h1 : Sh := .pair .bool h0
abbrev h2 : Sh := .pair (.int .i64) h1
abbrev h3 : Sh := .pair (.int .i64) h2
abbrev h4 : Sh := .pair (.int .u64) .unit
abbrev h5 : Sh := .pair .str h4
abbrev h6 : Sh := .pair .bool .unit
abbrev h7 : Sh := .pair (.int .i64) h6
abbrev h8 : Sh := .pair .str h7
abbrev h9 : Sh := .sl 73 h8
abbrev h10 : Sh := .pair (.sl 3 (.int .i64)) .unit
abbrev h11 : Sh := .pair (.int .i64) h10
abbrev h12 : Sh := .sl 161 h11
abbrev h13 : Sh := .pair (.int .i64) .unit
abbrev h14 : Sh := .pair (.int .i64) h13
abbrev h15 : Sh := .pair .bool h14
abbrev h16 : Sh := .pair h12 h15
abbrev h17 : Sh := .pair h12 h16
abbrev h18 : Sh := .sl 77 h17
abbrev h19 : Sh := .sl 64 h11
abbrev h20 : Sh := .sl 79 h8
abbrev h21 : Sh := .sl 67 h11
abbrev h22 : Sh := .pair h21 .unit
abbrev h23 : Sh := .pair h20 h22
abbrev h24 : Sh := .pair (.int .i64) h11
abbrev h25 : Sh := .sl 142 h24
abbrev h26 : Sh := .pair h25 .unit
abbrev h27 : Sh := .pair h23 h26
abbrev h28 : Sh := .sl 127 h11
abbrev h29 : Sh := .pair h28 h15
abbrev h30 : Sh := .pair h28 h29
abbrev h31 : Sh := .sl 84 h30
abbrev h32 : Sh := .pair h21 h14
abbrev h33 : Sh := .pair h31 h32
abbrev h34 : Sh := .pair h27 h33
abbrev h35 : Sh := .pair h19 .unit
abbrev h36 : Sh := .pair h9 h35
abbrev h37 : Sh := .sl 137 h24
abbrev h38 : Sh := .pair h37 .unit
abbrev h39 : Sh := .pair h36 h38
abbrev h40 : Sh := .pair (.int .i64) h7
abbrev h41 : Sh := .sl 123 h40
abbrev h42 : Sh := .sl 155 h11
abbrev h43 : Sh := .pair (.ptr h20) .unit
noncomputable abbrev prog : Program := Tryz.prog
def shTab : List (Nat × Sh) := [(2, .int .i64), (3, .int .i64), (4, .bool), (5, .int .u8), (6, .int .u8), (9, .str), (10, .str), (11, .str), (12, .int .u64), (21, .int .i32), (22, h9), (23, h18), (24, h19), (28, h20), (29, h21), (30, h23), (31, h23), (32, h25), (33, h27), (34, h27), (35, h31), (36, h34), (37, h34), (52, h36), (53, h36), (54, h37), (55, h39), (56, h39), (62, .sl 3 (.int .i64)), (63, h11), (64, h11), (67, h11), (72, h8), (73, h8), (75, h12), (76, h17), (77, h17), (79, h8), (82, h28), (83, h30), (84, h30), (122, h40), (123, h40), (126, h11), (127, h11), (132, .sl 5 (.int .u8)), (136, h24), (137, h24), (139, h41), (142, h24), (150, .sl 151 h42), (151, h42), (154, h11), (155, h11), (161, h11), (179, .sl 62 (.sl 3 (.int .i64))), (193, .sl 4 .bool), (200, .int .u64), (217, .int .i64), (225, .int .u32), (227, .int .u64), (234, .int .u64), (238, .ptr (.int .i64)), (243, .ptr (.int .u64)), (256, .int .u8), (257, .int .u8), (259, .ptr (.int .u8)), (260, .int .i32), (261, .int .i32)]
def sigTab : List (Nat × List Sig) := [(3, [⟨[.z, .z, .z], [(.bool, .z)], [.z, .z, .z]⟩]), (7, [⟨[.z, .z], [(.int .i64, .z)], [.z, .z]⟩]), (8, [⟨[.z, .z], [(.int .i64, .z)], [.z, .z]⟩]), (9, [⟨[.z, .z], [(.int .i64, .z)], [.z, .z]⟩]), (10, [⟨[.z, .z, .z], [(h34, .pr (.pr (.pr (.own .z) (.pr (.own (.pr .z (.pr (.own .z) .z))) .z)) (.pr (.own (.pr .z (.pr .z (.pr (.own .z) .z)))) .z)) (.pr (.own (.pr (.own (.pr .z (.pr (.own .z) .z))) (.pr (.own (.pr .z (.pr (.own .z) .z))) .z))) (.pr (.own (.pr .z (.pr (.own .z) .z))) .z))), (.bool, .z)], [.z, .z, .z]⟩]), (11, [⟨[.z], [(h20, .own .z)], [.z]⟩]), (12, [⟨[.z], [(h31, .own (.pr (.own (.pr .z (.pr (.own .z) .z))) (.pr (.own (.pr .z (.pr (.own .z) .z))) .z)))], [.z]⟩]), (13, [⟨[.z], [(h21, .own (.pr .z (.pr (.own .z) .z)))], [.z]⟩]), (14, [⟨[.z, .z, .z], [(h34, .pr (.pr (.pr (.own .z) (.pr (.own (.pr .z (.pr (.own .z) .z))) .z)) (.pr (.own (.pr .z (.pr .z (.pr (.own .z) .z)))) .z)) (.pr (.own (.pr (.own (.pr .z (.pr (.own .z) .z))) (.pr (.own (.pr .z (.pr (.own .z) .z))) .z))) (.pr (.own (.pr .z (.pr (.own .z) .z))) .z))), (.bool, .z)], [.z, .z, .z]⟩]), (15, [⟨[.z, .z], [(.bool, .z)], [.z, .z]⟩]), (16, [⟨[.z, .z], [(.bool, .z)], [.z, .z]⟩]), (17, [⟨[.z, .z], [(.bool, .z)], [.z, .z]⟩]), (18, [⟨[.z, .z], [(.bool, .z)], [.z, .z]⟩]), (19, [⟨[.own .z, .z], [(.int .i64, .z)], [.own .z, .z]⟩]), (20, [⟨[.own (.pr (.own (.pr .z (.pr (.own .z) .z))) (.pr (.own (.pr .z (.pr (.own .z) .z))) .z)), .z], [(.int .i64, .z)], [.own (.pr (.own (.pr .z (.pr (.own .z) .z))) (.pr (.own (.pr .z (.pr (.own .z) .z))) .z)), .z]⟩]), (21, [⟨[.own (.pr .z (.pr (.own .z) .z)), .z], [(.int .i64, .z)], [.own (.pr .z (.pr (.own .z) .z)), .z]⟩]), (22, [⟨[.pr (.pr (.pr (.own .z) (.pr (.own (.pr .z (.pr (.own .z) .z))) .z)) (.pr (.own (.pr .z (.pr .z (.pr (.own .z) .z)))) .z)) (.pr (.own (.pr (.own (.pr .z (.pr (.own .z) .z))) (.pr (.own (.pr .z (.pr (.own .z) .z))) .z))) (.pr (.own (.pr .z (.pr (.own .z) .z))) .z)), .z], [(.int .i64, .z)], [.pr (.pr (.pr (.own .z) (.pr (.own (.pr .z (.pr (.own .z) .z))) .z)) (.pr (.own (.pr .z (.pr .z (.pr (.own .z) .z)))) .z)) (.pr (.own (.pr (.own (.pr .z (.pr (.own .z) .z))) (.pr (.own (.pr .z (.pr (.own .z) .z))) .z))) (.pr (.own (.pr .z (.pr (.own .z) .z))) .z)), .z]⟩]), (23, [⟨[.z, .z], [(.int .i64, .z)], [.z, .z]⟩]), (28, [⟨[.z, .z], [(.bool, .z)], [.z, .z]⟩]), (29, [⟨[.z, .z], [(.int .i64, .z)], [.z, .z]⟩]), (31, [⟨[.z], [(h11, .pr .z (.pr (.own .z) .z))], [.z]⟩]), (33, [⟨[.z, .z], [(.bool, .z)], [.z, .z]⟩]), (36, [⟨[.z, .z], [(.int .i64, .z)], [.z, .z]⟩]), (37, [⟨[.z, .z], [(.int .i64, .z)], [.z, .z]⟩]), (38, [⟨[.z, .z], [(.bool, .z)], [.z, .z]⟩]), (39, [⟨[.z], [(.sl 3 (.int .i64), .z)], [.z]⟩]), (40, [⟨[.z, .z], [(.bool, .z)], [.z, .z]⟩]), (41, [⟨[.z, .z], [(.bool, .z)], [.z, .z]⟩]), (42, [⟨[.z], [(h30, .pr (.own (.pr .z (.pr (.own .z) .z))) (.pr (.own (.pr .z (.pr (.own .z) .z))) .z))], [.z]⟩]), (43, [⟨[.z], [(h11, .pr .z (.pr (.own .z) .z))], [.z]⟩]), (44, [⟨[.z], [(h8, .z)], [.z]⟩]), (45, [⟨[.z], [(h30, .pr (.own (.pr .z (.pr (.own .z) .z))) (.pr (.own (.pr .z (.pr (.own .z) .z))) .z))], [.z]⟩]), (46, [⟨[.z, .z], [(.bool, .z)], [.z, .z]⟩]), (47, [⟨[.z, .z], [(.bool, .z)], [.z, .z]⟩]), (48, [⟨[.z, .z], [(.bool, .z)], [.z, .z]⟩]), (49, [⟨[.z], [(.sl 3 (.int .i64), .own .z)], [.z]⟩]), (50, [⟨[.z], [(h20, .own .z)], [.z]⟩]), (51, [⟨[.z], [(h31, .own (.pr (.own (.pr .z (.pr (.own .z) .z))) (.pr (.own (.pr .z (.pr (.own .z) .z))) .z)))], [.z]⟩]), (52, [⟨[.z], [(h21, .own (.pr .z (.pr (.own .z) .z)))], [.z]⟩]), (53, [⟨[.z, .z], [(.bool, .z)], [.z, .z]⟩]), (54, [⟨[.z, .z], [(.bool, .z)], [.z, .z]⟩]), (55, [⟨[.z], [(.str, .z)], [.z]⟩]), (56, [⟨[.own (.pr .z (.pr (.own .z) .z)), .z], [(.int .i64, .z)], [.own (.pr .z (.pr (.own .z) .z)), .z]⟩]), (57, [⟨[.own .z, .z], [(.int .i64, .z)], [.own .z, .z]⟩]), (58, [⟨[.pr (.pr (.own .z) (.pr (.own (.pr .z (.pr (.own .z) .z))) .z)) (.pr (.own (.pr .z (.pr .z (.pr (.own .z) .z)))) .z), .z], [(.int .i64, .z)], [.pr (.pr (.own .z) (.pr (.own (.pr .z (.pr (.own .z) .z))) .z)) (.pr (.own (.pr .z (.pr .z (.pr (.own .z) .z)))) .z), .z]⟩]), (59, [⟨[.z, .z], [(.int .i64, .z)], [.z, .z]⟩]), (60, [⟨[.z, .z], [(.int .i64, .z)], [.z, .z]⟩]), (61, [⟨[.z, .z], [(.int .i64, .z)], [.z, .z]⟩]), (72, [⟨[.z, .z], [(.bool, .z)], [.z, .z]⟩]), (73, [⟨[.z, .z], [(.bool, .z)], [.z, .z]⟩]), (74, [⟨[.z, .z], [(.int .i64, .z)], [.z, .z]⟩]), (78, [⟨[.z], [(.sl 3 (.int .i64), .own .z)], [.z]⟩]), (83, [⟨[.z, .z], [(.bool, .z)], [.z, .z]⟩]), (84, [⟨[.z, .z], [(.bool, .z)], [.z, .z]⟩]), (85, [⟨[.z, .z], [(.int .i64, .z)], [.z, .z]⟩]), (86, [⟨[.z], [(.bool, .z)], [.z]⟩]), (87, [⟨[.z, .z, .z], [(.bool, .z)], [.z, .z, .z]⟩]), (88, [⟨[.z], [(.bool, .z)], [.z]⟩]), (89, [⟨[.z], [(.int .i64, .z), (.bool, .z)], [.z]⟩]), (90, [⟨[.z, .z], [(.sl 3 (.int .i64), .z)], [.z, .z]⟩]), (91, [⟨[.z, .z], [(.bool, .z)], [.z, .z]⟩]), (92, [⟨[.z, .z], [(h40, .z), (.bool, .z)], [.z, .z]⟩]), (93, [⟨[.z], [(h28, .own (.pr .z (.pr (.own .z) .z)))], [.z]⟩]), (94, [⟨[.z, .z], [(.bool, .z)], [.z, .z]⟩]), (95, [⟨[.z, .z], [(.bool, .z)], [.z, .z]⟩]), (96, [⟨[.z], [(.bool, .z)], [.z]⟩]), (97, [⟨[.z, .z], [(h40, .z), (.bool, .z)], [.z, .z]⟩]), (98, [⟨[.z, .z], [(.bool, .z)], [.z, .z]⟩]), (99, [⟨[.z], [(.sl 3 (.int .i64), .own .z)], [.z]⟩]), (100, [⟨[.z], [(h30, .pr (.own (.pr .z (.pr (.own .z) .z))) (.pr (.own (.pr .z (.pr (.own .z) .z))) .z))], [.z]⟩]), (101, [⟨[.z], [(h11, .pr .z (.pr (.own .z) .z))], [.z]⟩]), (102, [⟨[.z, .z], [(.bool, .z)], [.z, .z]⟩]), (103, [⟨[.pr (.own .z) (.pr (.own (.pr .z (.pr (.own .z) .z))) .z), .z], [(.int .i64, .z)], [.pr (.own .z) (.pr (.own (.pr .z (.pr (.own .z) .z))) .z), .z]⟩]), (104, [⟨[.own (.pr .z (.pr .z (.pr (.own .z) .z))), .z], [(.int .i64, .z)], [.own (.pr .z (.pr .z (.pr (.own .z) .z))), .z]⟩]), (105, [⟨[.z, .z], [(.int .i64, .z)], [.z, .z]⟩]), (106, [⟨[.z, .z], [(.int .i64, .z)], [.z, .z]⟩]), (107, [⟨[.z, .z], [(.int .i64, .z)], [.z, .z]⟩]), (108, [⟨[.z, .z], [(.int .i64, .z)], [.z, .z]⟩]), (110, [⟨[.z], [(.int .i64, .z)], [.z]⟩]), (111, [⟨[.z, .z], [(h41, .own .z)], [.z, .z]⟩]), (112, [⟨[.z, .z, .z], [(.int .i64, .z)], [.z, .z, .z]⟩]), (118, [⟨[.z], [(.int .i64, .z)], [.z]⟩]), (119, [⟨[.z, .z], [(h41, .own .z)], [.z, .z]⟩]), (123, [⟨[.z, .z, .z], [(.int .i64, .z)], [.z, .z, .z]⟩]), (125, [⟨[.z, .z], [(.bool, .z)], [.z, .z]⟩]), (131, [⟨[.z], [(.sl 3 (.int .i64), .own .z)], [.z]⟩]), (135, [⟨[.z, .z], [(.int .i64, .z)], [.z, .z]⟩]), (136, [⟨[.z, .z], [(.int .i64, .z)], [.z, .z]⟩]), (137, [⟨[.z], [(.bool, .z)], [.z]⟩]), (138, [⟨[.z, .z], [(.bool, .z)], [.z, .z]⟩]), (139, [⟨[.z, .z, .z, .z], [(.bool, .z)], [.z, .z, .z, .z]⟩]), (140, [⟨[.z], [(h11, .pr .z (.pr (.own .z) .z))], [.z]⟩]), (141, [⟨[.z], [(.bool, .z)], [.z]⟩]), (142, [⟨[.z, .z], [(.bool, .z)], [.z, .z]⟩]), (143, [⟨[.z, .z], [(.bool, .z)], [.z, .z]⟩]), (144, [⟨[.z, .z], [(.int .i64, .z)], [.z, .z]⟩]), (145, [⟨[.z, .z, .z, .z], [(.bool, .z)], [.z, .z, .z, .z]⟩]), (146, [⟨[.z, .z, .z], [(.bool, .z)], [.z, .z, .z]⟩]), (147, [⟨[.z, .z], [(.bool, .z)], [.z, .z]⟩]), (148, [⟨[.z], [(.bool, .z)], [.z]⟩]), (149, [⟨[.z], [(.bool, .z)], [.z]⟩]), (150, [⟨[.z], [(.int .i64, .z), (.bool, .z)], [.z]⟩]), (151, [⟨[.own .z], [], [.own .z]⟩]), (152, [⟨[.own .z], [(.sl 3 (.int .i64), .own .z)], [.dead]⟩]), (153, [⟨[.z], [(h28, .own (.pr .z (.pr (.own .z) .z)))], [.z]⟩]), (154, [⟨[.z, .z], [(.bool, .z)], [.z, .z]⟩]), (155, [⟨[.z, .z], [(.int .i64, .z)], [.z, .z]⟩]), (156, [⟨[.z], [(.sl 3 (.int .i64), .own .z)], [.z]⟩]), (157, [⟨[.z], [(.sl 3 (.int .i64), .own .z)], [.z]⟩]), (158, [⟨[.z, .z, .z], [(.sl 3 (.int .i64), .own .z)], [.z, .z, .z]⟩]), (159, [⟨[.own .z, .z], [(h41, .own .z)], [.dead, .z]⟩]), (160, [⟨[.z, .z, .z, .z, .z, .own (.own .z)], [], [.z, .z, .z, .z, .z, .own (.own .z)]⟩]), (161, [⟨[.z, .z, .z], [(.sl 3 (.int .i64), .own .z)], [.z, .z, .z]⟩]), (162, [⟨[.z, .z], [(.bool, .z)], [.z, .z]⟩]), (163, [⟨[.z], [(.sl 3 (.int .i64), .own .z)], [.z]⟩]), (164, [⟨[.z], [(.sl 3 (.int .i64), .own .z)], [.z]⟩]), (182, [⟨[.z, .z], [(.bool, .z)], [.z, .z]⟩]), (183, [⟨[.z], [(.sl 3 (.int .i64), .z)], [.z]⟩]), (184, [⟨[.z, .z], [(.bool, .z)], [.z, .z]⟩]), (185, [⟨[.z], [(.bool, .z)], [.z]⟩]), (186, [⟨[.z, .z, .z], [(.bool, .z)], [.z, .z, .z]⟩]), (187, [⟨[.z], [(.sl 3 (.int .i64), .own .z)], [.z]⟩]), (188, [⟨[.z, .z], [(.bool, .z)], [.z, .z]⟩]), (189, [⟨[.z, .z], [(.bool, .z)], [.z, .z]⟩]), (190, [⟨[.z, .z], [(.int .i64, .z)], [.z, .z]⟩]), (193, [⟨[.z, .z], [(.int .i64, .z)], [.z, .z]⟩]), (194, [⟨[.z, .z], [(.sl 3 (.int .i64), .own .z)], [.z, .z]⟩]), (212, [⟨[.z, .z], [(.bool, .z)], [.z, .z]⟩]), (213, [⟨[.z, .z], [(.bool, .z)], [.z, .z]⟩]), (214, [⟨[.z, .z], [(.int .i64, .z)], [.z, .z]⟩]), (234, [⟨[.z], [(.bool, .z)], [.z]⟩])]
def parTab : List (Nat × List (Option Sh)) := [(3, [some (h9), some (h18), some (h19)]), (7, [some (h9), some (.int .i64)]), (8, [some (h18), some (.int .i64)]), (9, [some (h19), some (.int .i64)]), (10, [some (h20), some (h31), some (h21)]), (11, [some (h9)]), (12, [some (h18)]), (13, [some (h19)]), (14, [some (h20), some (h31), some (h21)]), (15, [some (h34), some (h34)]), (16, [some (h20), some (h20)]), (17, [some (h31), some (h31)]), (18, [some (h21), some (h21)]), (19, [some (h20), some (.int .i64)]), (20, [some (h31), some (.int .i64)]), (21, [some (h21), some (.int .i64)]), (22, [some (h34), some (.int .i64)]), (23, [some (h34), some (.int .i64)]), (28, [some (h27), some (h27)]), (29, [some (h11), some (.int .i64)]), (31, [some (h11)]), (33, [some (h11), some (h11)]), (36, [some (h8), some (.int .i64)]), (37, [some (h17), some (.int .i64)]), (38, [some (h20), some (h11)]), (39, [some (h11)]), (40, [some (h20), some (h31)]), (41, [some (h20), some (h31)]), (42, [some (h30)]), (43, [some (h11)]), (44, [some (h8)]), (45, [some (h17)]), (46, [some (h20), some (h31)]), (47, [some (h20), some (h31)]), (48, [some (h20), some (h11)]), (49, [some (h11)]), (50, [some (h20)]), (51, [some (h31)]), (52, [some (h21)]), (53, [some (h8), some (h8)]), (54, [some (h30), some (h30)]), (55, [some (.int .i64)]), (56, [some (h28), some (.int .i64)]), (57, [some (.sl 3 (.int .i64)), some (.int .i64)]), (58, [some (h27), some (.int .i64)]), (59, [some (h27), some (.int .i64)]), (60, [some (h31), some (.int .i64)]), (61, [some (h21), some (.int .i64)]), (72, [some (h23), some (h23)]), (73, [some (h25), some (h25)]), (74, [some (.sl 3 (.int .i64)), some (.int .i64)]), (78, [some (.sl 3 (.int .i64))]), (83, [some (.sl 3 (.int .i64)), some (.sl 3 (.int .i64))]), (84, [some (.sl 3 (.int .i64)), some (.int .i64)]), (85, [some (h12), some (.int .i64)]), (86, [some (h20)]), (87, [some (.int .i64), some (.int .i64), some (.int .i64)]), (88, [some (.int .i64)]), (89, [some (.int .i64)]), (90, [some (.sl 3 (.int .i64)), some (.int .i64)]), (91, [some (h20), some (h31)]), (92, [some (h20), some (h31)]), (93, [some (h12)]), (94, [some (h20), some (h31)]), (95, [some (h31), none]), (96, [some (h30)]), (97, [some (h20), some (h31)]), (98, [some (h20), some (h11)]), (99, [some (.sl 3 (.int .i64))]), (100, [some (h30)]), (101, [some (h11)]), (102, [some (h28), some (h28)]), (103, [some (h23), some (.int .i64)]), (104, [some (h25), some (.int .i64)]), (105, [some (h23), some (.int .i64)]), (106, [some (h25), some (.int .i64)]), (107, [some (h28), some (.int .i64)]), (108, [some (.sl 3 (.int .i64)), some (.int .i64)]), (110, [some (h20)]), (111, [some (h20), some (h31)]), (112, [some (h20), some (.int .i64), some (.int .i64)]), (118, [some (h20)]), (119, [some (h20), some (h31)]), (123, [some (h20), some (.int .i64), some (.int .i64)]), (125, [some (h24), some (h24)]), (131, [some (.sl 3 (.int .i64))]), (135, [some (.sl 3 (.int .i64)), some (.int .i64)]), (136, [some (h11), some (.int .i64)]), (137, [some (h8)]), (138, [some (h20), some (h30)]), (139, [some (.int .i64), some (h41), some (.int .i64), some (.int .i64)]), (140, [some (h11)]), (141, [some (h20)]), (142, [some (h30)]), (143, [some (h20), some (h30)]), (144, [some (h31), none]), (145, [some (.int .i64), some (h41), some (.int .i64), some (.int .i64)]), (146, [some (.int .i64), some (.int .i64), some (.int .i64)]), (147, [some (.sl 3 (.int .i64)), none]), (148, [some (.int .i64)]), (149, [some (.int .i64)]), (150, [some (.int .i64)]), (151, [some (.sl 3 (.int .i64))]), (152, [some (.sl 3 (.int .i64))]), (153, [some (h28)]), (154, [some (h11), some (h11)]), (155, [some (h20), some (.int .i64)]), (156, [some (h30)]), (157, [some (h30)]), (158, [some (h20), some (h28), some (.int .i64)]), (159, [some (h41), some (h40)]), (160, [some (.int .i64), some (h28), some (.int .i64), some (.bool)]), (161, [some (h20), some (h28), some (.int .i64)]), (162, [some (h41), some (h40)]), (163, [some (h30)]), (164, [some (h30)]), (182, [some (h20), some (h11)]), (183, [some (h28)]), (184, [some (.sl 3 (.int .i64)), some (.int .i64)]), (185, [some (h8)]), (186, [some (h20), some (h28), some (.int .i64)]), (187, [some (h28)]), (188, [some (h28), none]), (189, [some (h11)]), (190, [some (.sl 3 (.int .i64)), none]), (193, [some (h41), some (h40)]), (194, [some (h30), some (.bool)]), (212, [some (h11)]), (213, [some (h20), some (h11)]), (214, [some (h28), none]), (234, [some (.int .i64)])]
noncomputable def E : Env := { sh := fun t => look t shTab, sigs := fun f => (look f sigTab).getD [], params := fun f => (look f parTab).getD [], gives := GivesS prog }
theorem types_ok : ∀ t s, E.sh t = some s → ShOk prog s none t := tab_ok (by kernel_rfl)
theorem mixed : prog.follows .mixedOrders = true := by kernel_rfl
/-- laws.FnExactNewLoader -/
def G_lFnExactNewLoader (x0 : List TRel) (x1 : List TDep) (x2 : List TFact) (y0 : Bool) : Prop := GivesS prog 3 [⟨h9, .z, x0⟩, ⟨h18, .z, x1⟩, ⟨h19, .z, x2⟩] [⟨.bool, .z, y0⟩] [⟨h9, .z, x0⟩, ⟨h18, .z, x1⟩, ⟨h19, .z, x2⟩]
/-- laws.heldLoader -/
def G_lheldLoader (x0 : TLoader) (x1 : Int) (y0 : Int) : Prop := GivesS prog 23 [⟨h34, .z, x0⟩, ⟨.int .i64, .z, x1⟩] [⟨.int .i64, .z, y0⟩] [⟨h34, .z, x0⟩, ⟨.int .i64, .z, x1⟩]
/-- laws.heldFactS -/
def G_lheldFactS (x0 : List TFact) (x1 : Int) (y0 : Int) : Prop := GivesS prog 61 [⟨h21, .z, x0⟩, ⟨.int .i64, .z, x1⟩] [⟨.int .i64, .z, y0⟩] [⟨h21, .z, x0⟩, ⟨.int .i64, .z, x1⟩]
/-- laws.heldIntS -/
def G_lheldIntS (x0 : List Int) (x1 : Int) (y0 : Int) : Prop := GivesS prog 108 [⟨.sl 3 (.int .i64), .z, x0⟩, ⟨.int .i64, .z, x1⟩] [⟨.int .i64, .z, y0⟩] [⟨.sl 3 (.int .i64), .z, x0⟩, ⟨.int .i64, .z, x1⟩]
/-- laws.heldDependencyS -/
def G_lheldDependencyS (x0 : List TDep) (x1 : Int) (y0 : Int) : Prop := GivesS prog 60 [⟨h31, .z, x0⟩, ⟨.int .i64, .z, x1⟩] [⟨.int .i64, .z, y0⟩] [⟨h31, .z, x0⟩, ⟨.int .i64, .z, x1⟩]
/-- laws.heldAtomS -/
def G_lheldAtomS (x0 : List TFact) (x1 : Int) (y0 : Int) : Prop := GivesS prog 107 [⟨h28, .z, x0⟩, ⟨.int .i64, .z, x1⟩] [⟨.int .i64, .z, y0⟩] [⟨h28, .z, x0⟩, ⟨.int .i64, .z, x1⟩]
/-- laws.heldSkolemState -/
def G_lheldSkolemState (x0 : TSk) (x1 : Int) (y0 : Int) : Prop := GivesS prog 59 [⟨h27, .z, x0⟩, ⟨.int .i64, .z, x1⟩] [⟨.int .i64, .z, y0⟩] [⟨h27, .z, x0⟩, ⟨.int .i64, .z, x1⟩]
/-- laws.heldSkolemTermS -/
def G_lheldSkolemTermS (x0 : List TTerm) (x1 : Int) (y0 : Int) : Prop := GivesS prog 106 [⟨h25, .z, x0⟩, ⟨.int .i64, .z, x1⟩] [⟨.int .i64, .z, y0⟩] [⟨h25, .z, x0⟩, ⟨.int .i64, .z, x1⟩]
/-- laws.heldInstance -/
def G_lheldInstance (x0 : TInst) (x1 : Int) (y0 : Int) : Prop := GivesS prog 105 [⟨h23, .z, x0⟩, ⟨.int .i64, .z, x1⟩] [⟨.int .i64, .z, y0⟩] [⟨h23, .z, x0⟩, ⟨.int .i64, .z, x1⟩]
/-- laws.heldRelationS -/
def G_lheldRelationS (x0 : List TRel) (x1 : Int) (y0 : Int) : Prop := GivesS prog 155 [⟨h20, .z, x0⟩, ⟨.int .i64, .z, x1⟩] [⟨.int .i64, .z, y0⟩] [⟨h20, .z, x0⟩, ⟨.int .i64, .z, x1⟩]
/-- laws.markText -/
def G_lmarkText (x0 : Int) (y0 : List UInt8) : Prop := GivesS prog 55 [⟨.int .i64, .z, x0⟩] [⟨.str, .z, y0⟩] [⟨.int .i64, .z, x0⟩]
/-- laws.eqLoader -/
def G_leqLoader (x0 : TLoader) (x1 : TLoader) (y0 : Bool) : Prop := GivesS prog 15 [⟨h34, .z, x0⟩, ⟨h34, .z, x1⟩] [⟨.bool, .z, y0⟩] [⟨h34, .z, x0⟩, ⟨h34, .z, x1⟩]
/-- laws.eqFactS -/
def G_leqFactS (x0 : List TFact) (x1 : List TFact) (y0 : Bool) : Prop := GivesS prog 18 [⟨h21, .z, x0⟩, ⟨h21, .z, x1⟩] [⟨.bool, .z, y0⟩] [⟨h21, .z, x0⟩, ⟨h21, .z, x1⟩]
/-- laws.eqFact -/
def G_leqFact (x0 : TFact) (x1 : TFact) (y0 : Bool) : Prop := GivesS prog 33 [⟨h11, .z, x0⟩, ⟨h11, .z, x1⟩] [⟨.bool, .z, y0⟩] [⟨h11, .z, x0⟩, ⟨h11, .z, x1⟩]
/-- laws.eqIntS -/
def G_leqIntS (x0 : List Int) (x1 : List Int) (y0 : Bool) : Prop := GivesS prog 83 [⟨.sl 3 (.int .i64), .z, x0⟩, ⟨.sl 3 (.int .i64), .z, x1⟩] [⟨.bool, .z, y0⟩] [⟨.sl 3 (.int .i64), .z, x0⟩, ⟨.sl 3 (.int .i64), .z, x1⟩]
/-- laws.eqDependencyS -/
def G_leqDependencyS (x0 : List TDep) (x1 : List TDep) (y0 : Bool) : Prop := GivesS prog 17 [⟨h31, .z, x0⟩, ⟨h31, .z, x1⟩] [⟨.bool, .z, y0⟩] [⟨h31, .z, x0⟩, ⟨h31, .z, x1⟩]
/-- laws.eqDependency -/
def G_leqDependency (x0 : TDep) (x1 : TDep) (y0 : Bool) : Prop := GivesS prog 54 [⟨h30, .z, x0⟩, ⟨h30, .z, x1⟩] [⟨.bool, .z, y0⟩] [⟨h30, .z, x0⟩, ⟨h30, .z, x1⟩]
/-- laws.eqAtomS -/
def G_leqAtomS (x0 : List TFact) (x1 : List TFact) (y0 : Bool) : Prop := GivesS prog 102 [⟨h28, .z, x0⟩, ⟨h28, .z, x1⟩] [⟨.bool, .z, y0⟩] [⟨h28, .z, x0⟩, ⟨h28, .z, x1⟩]
/-- laws.eqAtom -/
def G_leqAtom (x0 : TFact) (x1 : TFact) (y0 : Bool) : Prop := GivesS prog 154 [⟨h11, .z, x0⟩, ⟨h11, .z, x1⟩] [⟨.bool, .z, y0⟩] [⟨h11, .z, x0⟩, ⟨h11, .z, x1⟩]
/-- laws.eqSkolemState -/
def G_leqSkolemState (x0 : TSk) (x1 : TSk) (y0 : Bool) : Prop := GivesS prog 28 [⟨h27, .z, x0⟩, ⟨h27, .z, x1⟩] [⟨.bool, .z, y0⟩] [⟨h27, .z, x0⟩, ⟨h27, .z, x1⟩]
/-- laws.eqSkolemTermS -/
def G_leqSkolemTermS (x0 : List TTerm) (x1 : List TTerm) (y0 : Bool) : Prop := GivesS prog 73 [⟨h25, .z, x0⟩, ⟨h25, .z, x1⟩] [⟨.bool, .z, y0⟩] [⟨h25, .z, x0⟩, ⟨h25, .z, x1⟩]
/-- laws.eqSkolemTerm -/
def G_leqSkolemTerm (x0 : TTerm) (x1 : TTerm) (y0 : Bool) : Prop := GivesS prog 125 [⟨h24, .z, x0⟩, ⟨h24, .z, x1⟩] [⟨.bool, .z, y0⟩] [⟨h24, .z, x0⟩, ⟨h24, .z, x1⟩]
/-- laws.eqInstance -/
def G_leqInstance (x0 : TInst) (x1 : TInst) (y0 : Bool) : Prop := GivesS prog 72 [⟨h23, .z, x0⟩, ⟨h23, .z, x1⟩] [⟨.bool, .z, y0⟩] [⟨h23, .z, x0⟩, ⟨h23, .z, x1⟩]
/-- laws.eqRelationS -/
def G_leqRelationS (x0 : List TRel) (x1 : List TRel) (y0 : Bool) : Prop := GivesS prog 16 [⟨h20, .z, x0⟩, ⟨h20, .z, x1⟩] [⟨.bool, .z, y0⟩] [⟨h20, .z, x0⟩, ⟨h20, .z, x1⟩]
/-- laws.eqRelation -/
def G_leqRelation (x0 : TRel) (x1 : TRel) (y0 : Bool) : Prop := GivesS prog 53 [⟨h8, .z, x0⟩, ⟨h8, .z, x1⟩] [⟨.bool, .z, y0⟩] [⟨h8, .z, x0⟩, ⟨h8, .z, x1⟩]
/-- impl.NewLoader -/
def G_iNewLoader (x0 : List TRel) (x1 : List TDep) (x2 : List TFact) (y0 : TLoader) (y1 : Bool) : Prop := GivesS prog 14 [⟨h20, .z, x0⟩, ⟨h31, .z, x1⟩, ⟨h21, .z, x2⟩] [⟨h34, .pr (.pr (.pr (.own .z) (.pr (.own (.pr .z (.pr (.own .z) .z))) .z)) (.pr (.own (.pr .z (.pr .z (.pr (.own .z) .z)))) .z)) (.pr (.own (.pr (.own (.pr .z (.pr (.own .z) .z))) (.pr (.own (.pr .z (.pr (.own .z) .z))) .z))) (.pr (.own (.pr .z (.pr (.own .z) .z))) .z)), y0⟩, ⟨.bool, .z, y1⟩] [⟨h20, .z, x0⟩, ⟨h31, .z, x1⟩, ⟨h21, .z, x2⟩]
/-- impl.factsCopy -/
def G_ifactsCopy (x0 : List TFact) (y0 : List TFact) : Prop := GivesS prog 52 [⟨h21, .z, x0⟩] [⟨h21, .own (.pr .z (.pr (.own .z) .z)), y0⟩] [⟨h21, .z, x0⟩]
/-- impl.factCopy -/
def G_ifactCopy (x0 : TFact) (y0 : TFact) : Prop := GivesS prog 101 [⟨h11, .z, x0⟩] [⟨h11, .pr .z (.pr (.own .z) .z), y0⟩] [⟨h11, .z, x0⟩]
/-- slices.Clone[[]int,int] -/
def G_slices_Clone_int (x0 : List Int) (y0 : List Int) : Prop := GivesS prog 131 [⟨.sl 3 (.int .i64), .z, x0⟩] [⟨.sl 3 (.int .i64), .own .z, y0⟩] [⟨.sl 3 (.int .i64), .z, x0⟩]
/-- impl.dependenciesCopy -/
def G_idependenciesCopy (x0 : List TDep) (y0 : List TDep) : Prop := GivesS prog 51 [⟨h31, .z, x0⟩] [⟨h31, .own (.pr (.own (.pr .z (.pr (.own .z) .z))) (.pr (.own (.pr .z (.pr (.own .z) .z))) .z)), y0⟩] [⟨h31, .z, x0⟩]
/-- impl.dependencyCopy -/
def G_idependencyCopy (x0 : TDep) (y0 : TDep) : Prop := GivesS prog 100 [⟨h30, .z, x0⟩] [⟨h30, .pr (.own (.pr .z (.pr (.own .z) .z))) (.pr (.own (.pr .z (.pr (.own .z) .z))) .z), y0⟩] [⟨h30, .z, x0⟩]
/-- impl.dependencyCopy$1 -/
def G_idependencyCopy_1 (x0 : List TFact) (y0 : List TFact) : Prop := GivesS prog 153 [⟨h28, .z, x0⟩] [⟨h28, .own (.pr .z (.pr (.own .z) .z)), y0⟩] [⟨h28, .z, x0⟩]
/-- slices.Clone[[]impl.Relation,impl.Relation] -/
def G_slices_Clone_Relation (x0 : List TRel) (y0 : List TRel) : Prop := GivesS prog 50 [⟨h20, .z, x0⟩] [⟨h20, .own .z, y0⟩] [⟨h20, .z, x0⟩]
/-- impl.NullsOfFact -/
def G_iNullsOfFact (x0 : TFact) (y0 : List Int) : Prop := GivesS prog 49 [⟨h11, .z, x0⟩] [⟨.sl 3 (.int .i64), .own .z, y0⟩] [⟨h11, .z, x0⟩]
/-- impl.nullsOf -/
def G_inullsOf (x0 : List Int) (y0 : List Int) : Prop := GivesS prog 99 [⟨.sl 3 (.int .i64), .z, x0⟩] [⟨.sl 3 (.int .i64), .own .z, y0⟩] [⟨.sl 3 (.int .i64), .z, x0⟩]
/-- slices.Compact[[]int,int] -/
def G_slices_Compact_int_ooz (x0 : List Int) (y0 : List Int) : Prop := GivesS prog 152 [⟨.sl 3 (.int .i64), .own .z, x0⟩] [⟨.sl 3 (.int .i64), .own .z, y0⟩] [⟨.sl 3 (.int .i64), .dead, x0⟩]
/-- slices.Sort[[]int,int] -/
def G_slices_Sort_int_ooz (x0 : List Int) (z0 : List Int) : Prop := GivesS prog 151 [⟨.sl 3 (.int .i64), .own .z, x0⟩] [] [⟨.sl 3 (.int .i64), .own .z, z0⟩]
/-- impl.NullNumber -/
def G_iNullNumber (x0 : Int) (y0 : Int) (y1 : Bool) : Prop := GivesS prog 150 [⟨.int .i64, .z, x0⟩] [⟨.int .i64, .z, y0⟩, ⟨.bool, .z, y1⟩] [⟨.int .i64, .z, x0⟩]
/-- impl.within -/
def G_iwithin (x0 : Int) (x1 : Int) (x2 : Int) (y0 : Bool) : Prop := GivesS prog 146 [⟨.int .i64, .z, x0⟩, ⟨.int .i64, .z, x1⟩, ⟨.int .i64, .z, x2⟩] [⟨.bool, .z, y0⟩] [⟨.int .i64, .z, x0⟩, ⟨.int .i64, .z, x1⟩, ⟨.int .i64, .z, x2⟩]
/-- impl.isSourceFact -/
def G_iisSourceFact (x0 : List TRel) (x1 : TFact) (y0 : Bool) : Prop := GivesS prog 48 [⟨h20, .z, x0⟩, ⟨h11, .z, x1⟩] [⟨.bool, .z, y0⟩] [⟨h20, .z, x0⟩, ⟨h11, .z, x1⟩]
/-- impl.IsValidFact -/
def G_iIsValidFact (x0 : List TRel) (x1 : TFact) (y0 : Bool) : Prop := GivesS prog 98 [⟨h20, .z, x0⟩, ⟨h11, .z, x1⟩] [⟨.bool, .z, y0⟩] [⟨h20, .z, x0⟩, ⟨h11, .z, x1⟩]
/-- slices.ContainsFunc[[]int,int] -/
def G_slices_ContainsFunc_int_c_iIsValidFact_1 (x0 : List Int) (x1 : Unit) (y0 : Bool) : Prop := GivesS prog 147 [⟨.sl 3 (.int .i64), .z, x0⟩, ⟨.fn 148 .unit, .z, x1⟩] [⟨.bool, .z, y0⟩] [⟨.sl 3 (.int .i64), .z, x0⟩, ⟨.fn 148 .unit, .z, x1⟩]
/-- slices.IndexFunc[[]int,int] -/
def G_slices_IndexFunc_int_c_iIsValidFact_1 (x0 : List Int) (x1 : Unit) (y0 : Int) : Prop := GivesS prog 190 [⟨.sl 3 (.int .i64), .z, x0⟩, ⟨.fn 148 .unit, .z, x1⟩] [⟨.int .i64, .z, y0⟩] [⟨.sl 3 (.int .i64), .z, x0⟩, ⟨.fn 148 .unit, .z, x1⟩]
/-- impl.IsValidFact$1 -/
def G_iIsValidFact_1 (x0 : Int) (y0 : Bool) : Prop := GivesS prog 148 [⟨.int .i64, .z, x0⟩] [⟨.bool, .z, y0⟩] [⟨.int .i64, .z, x0⟩]
/-- impl.IsValidValue -/
def G_iIsValidValue (x0 : Int) (y0 : Bool) : Prop := GivesS prog 149 [⟨.int .i64, .z, x0⟩] [⟨.bool, .z, y0⟩] [⟨.int .i64, .z, x0⟩]
/-- impl.AreValidRelations -/
def G_iAreValidRelations (x0 : List TRel) (y0 : Bool) : Prop := GivesS prog 141 [⟨h20, .z, x0⟩] [⟨.bool, .z, y0⟩] [⟨h20, .z, x0⟩]
/-- impl.IsValidRelation -/
def G_iIsValidRelation (x0 : TRel) (y0 : Bool) : Prop := GivesS prog 185 [⟨h8, .z, x0⟩] [⟨.bool, .z, y0⟩] [⟨h8, .z, x0⟩]
/-- impl.IsWeaklyAcyclic -/
def G_iIsWeaklyAcyclic (x0 : List TRel) (x1 : List TDep) (y0 : Bool) : Prop := GivesS prog 47 [⟨h20, .z, x0⟩, ⟨h31, .z, x1⟩] [⟨.bool, .z, y0⟩] [⟨h20, .z, x0⟩, ⟨h31, .z, x1⟩]
/-- impl.AreValidDependencies -/
def G_iAreValidDependencies (x0 : List TRel) (x1 : List TDep) (y0 : Bool) : Prop := GivesS prog 94 [⟨h20, .z, x0⟩, ⟨h31, .z, x1⟩] [⟨.bool, .z, y0⟩] [⟨h20, .z, x0⟩, ⟨h31, .z, x1⟩]
/-- slices.ContainsFunc[[]impl.Dependency,impl.Dependency] -/
def G_slices_ContainsFunc_Dependency_c_iAreValidDependencies_1 (x0 : List TDep) (x1 : List TRel × Unit) (y0 : Bool) : Prop := GivesS prog 95 [⟨h31, .z, x0⟩, ⟨.fn 142 h43, .z, x1⟩] [⟨.bool, .z, y0⟩] [⟨h31, .z, x0⟩, ⟨.fn 142 h43, .z, x1⟩]
/-- slices.IndexFunc[[]impl.Dependency,impl.Dependency] -/
def G_slices_IndexFunc_Dependency_c_iAreValidDependencies_1 (x0 : List TDep) (x1 : List TRel × Unit) (y0 : Int) : Prop := GivesS prog 144 [⟨h31, .z, x0⟩, ⟨.fn 142 h43, .z, x1⟩] [⟨.int .i64, .z, y0⟩] [⟨h31, .z, x0⟩, ⟨.fn 142 h43, .z, x1⟩]
/-- impl.AreValidDependencies$1 -/
def G_iAreValidDependencies_1 (x0 : TDep) (x1 : List TRel) (y0 : Bool) : Prop := GivesS prog 142 [⟨h30, .z, x0⟩, ⟨.ptr h20, .z, x1⟩] [⟨.bool, .z, y0⟩] [⟨h30, .z, x0⟩, ⟨.ptr h20, .z, x1⟩]
/-- impl.IsValidDependency -/
def G_iIsValidDependency (x0 : List TRel) (x1 : TDep) (y0 : Bool) : Prop := GivesS prog 143 [⟨h20, .z, x0⟩, ⟨h30, .z, x1⟩] [⟨.bool, .z, y0⟩] [⟨h20, .z, x0⟩, ⟨h30, .z, x1⟩]
/-- slices.ContainsFunc[[]impl.Atom,impl.Atom] -/
def G_slices_ContainsFunc_Atom_c_iIsValidDependency_1 (x0 : List TFact) (x1 : List TRel × Unit) (y0 : Bool) : Prop := GivesS prog 188 [⟨h28, .z, x0⟩, ⟨.fn 189 h43, .z, x1⟩] [⟨.bool, .z, y0⟩] [⟨h28, .z, x0⟩, ⟨.fn 189 h43, .z, x1⟩]
/-- slices.IndexFunc[[]impl.Atom,impl.Atom] -/
def G_slices_IndexFunc_Atom_c_iIsValidDependency_1 (x0 : List TFact) (x1 : List TRel × Unit) (y0 : Int) : Prop := GivesS prog 214 [⟨h28, .z, x0⟩, ⟨.fn 189 h43, .z, x1⟩] [⟨.int .i64, .z, y0⟩] [⟨h28, .z, x0⟩, ⟨.fn 189 h43, .z, x1⟩]
/-- impl.IsValidDependency$1 -/
def G_iIsValidDependency_1 (x0 : TFact) (x1 : List TRel) (y0 : Bool) : Prop := GivesS prog 189 [⟨h11, .z, x0⟩, ⟨.ptr h20, .z, x1⟩] [⟨.bool, .z, y0⟩] [⟨h11, .z, x0⟩, ⟨.ptr h20, .z, x1⟩]
/-- impl.areAtoms -/
def G_iareAtoms (x0 : List TRel) (x1 : List TFact) (x2 : Int) (y0 : Bool) : Prop := GivesS prog 186 [⟨h20, .z, x0⟩, ⟨h28, .z, x1⟩, ⟨.int .i64, .z, x2⟩] [⟨.bool, .z, y0⟩] [⟨h20, .z, x0⟩, ⟨h28, .z, x1⟩, ⟨.int .i64, .z, x2⟩]
/-- slices.ContainsFunc[[]impl.Atom,impl.Atom] -/
def G_slices_ContainsFunc_Atom_c_iareAtoms_1 (x0 : List TFact) (x1 : List TRel × Unit) (y0 : Bool) : Prop := GivesS prog 188 [⟨h28, .z, x0⟩, ⟨.fn 212 h43, .z, x1⟩] [⟨.bool, .z, y0⟩] [⟨h28, .z, x0⟩, ⟨.fn 212 h43, .z, x1⟩]
/-- slices.IndexFunc[[]impl.Atom,impl.Atom] -/
def G_slices_IndexFunc_Atom_c_iareAtoms_1 (x0 : List TFact) (x1 : List TRel × Unit) (y0 : Int) : Prop := GivesS prog 214 [⟨h28, .z, x0⟩, ⟨.fn 212 h43, .z, x1⟩] [⟨.int .i64, .z, y0⟩] [⟨h28, .z, x0⟩, ⟨.fn 212 h43, .z, x1⟩]
/-- impl.areAtoms$1 -/
def G_iareAtoms_1 (x0 : TFact) (x1 : List TRel) (y0 : Bool) : Prop := GivesS prog 212 [⟨h11, .z, x0⟩, ⟨.ptr h20, .z, x1⟩] [⟨.bool, .z, y0⟩] [⟨h11, .z, x0⟩, ⟨.ptr h20, .z, x1⟩]
/-- impl.IsValidAtom -/
def G_iIsValidAtom (x0 : List TRel) (x1 : TFact) (y0 : Bool) : Prop := GivesS prog 213 [⟨h20, .z, x0⟩, ⟨h11, .z, x1⟩] [⟨.bool, .z, y0⟩] [⟨h20, .z, x0⟩, ⟨h11, .z, x1⟩]
/-- slices.ContainsFunc[[]int,int] -/
def G_slices_ContainsFunc_int_c_iIsValidAtom_1 (x0 : List Int) (x1 : Unit) (y0 : Bool) : Prop := GivesS prog 147 [⟨.sl 3 (.int .i64), .z, x0⟩, ⟨.fn 234 .unit, .z, x1⟩] [⟨.bool, .z, y0⟩] [⟨.sl 3 (.int .i64), .z, x0⟩, ⟨.fn 234 .unit, .z, x1⟩]
/-- slices.IndexFunc[[]int,int] -/
def G_slices_IndexFunc_int_c_iIsValidAtom_1 (x0 : List Int) (x1 : Unit) (y0 : Int) : Prop := GivesS prog 190 [⟨.sl 3 (.int .i64), .z, x0⟩, ⟨.fn 234 .unit, .z, x1⟩] [⟨.int .i64, .z, y0⟩] [⟨.sl 3 (.int .i64), .z, x0⟩, ⟨.fn 234 .unit, .z, x1⟩]
/-- impl.IsValidAtom$1 -/
def G_iIsValidAtom_1 (x0 : Int) (y0 : Bool) : Prop := GivesS prog 234 [⟨.int .i64, .z, x0⟩] [⟨.bool, .z, y0⟩] [⟨.int .i64, .z, x0⟩]
/-- slices.Contains[[]int,int] -/
def G_slices_Contains_int (x0 : List Int) (x1 : Int) (y0 : Bool) : Prop := GivesS prog 84 [⟨.sl 3 (.int .i64), .z, x0⟩, ⟨.int .i64, .z, x1⟩] [⟨.bool, .z, y0⟩] [⟨.sl 3 (.int .i64), .z, x0⟩, ⟨.int .i64, .z, x1⟩]
/-- slices.Index[[]int,int] -/
def G_slices_Index_int (x0 : List Int) (x1 : Int) (y0 : Int) : Prop := GivesS prog 135 [⟨.sl 3 (.int .i64), .z, x0⟩, ⟨.int .i64, .z, x1⟩] [⟨.int .i64, .z, y0⟩] [⟨.sl 3 (.int .i64), .z, x0⟩, ⟨.int .i64, .z, x1⟩]
/-- impl.Variables -/
def G_iVariables (x0 : List TFact) (y0 : List Int) : Prop := GivesS prog 187 [⟨h28, .z, x0⟩] [⟨.sl 3 (.int .i64), .own .z, y0⟩] [⟨h28, .z, x0⟩]
/-- impl.SpecialCycleEdge -/
def G_iSpecialCycleEdge (x0 : List TRel) (x1 : List TDep) (y0 : TEdge) (y1 : Bool) : Prop := GivesS prog 97 [⟨h20, .z, x0⟩, ⟨h31, .z, x1⟩] [⟨h40, .z, y0⟩, ⟨.bool, .z, y1⟩] [⟨h20, .z, x0⟩, ⟨h31, .z, x1⟩]
/-- impl.IsReachable -/
def G_iIsReachable (x0 : Int) (x1 : List TEdge) (x2 : Int) (x3 : Int) (y0 : Bool) : Prop := GivesS prog 145 [⟨.int .i64, .z, x0⟩, ⟨h41, .z, x1⟩, ⟨.int .i64, .z, x2⟩, ⟨.int .i64, .z, x3⟩] [⟨.bool, .z, y0⟩] [⟨.int .i64, .z, x0⟩, ⟨h41, .z, x1⟩, ⟨.int .i64, .z, x2⟩, ⟨.int .i64, .z, x3⟩]
/-- impl.PositionCount -/
def G_iPositionCount (x0 : List TRel) (y0 : Int) : Prop := GivesS prog 118 [⟨h20, .z, x0⟩] [⟨.int .i64, .z, y0⟩] [⟨h20, .z, x0⟩]
/-- impl.PositionGraph -/
def G_iPositionGraph (x0 : List TRel) (x1 : List TDep) (y0 : List TEdge) : Prop := GivesS prog 119 [⟨h20, .z, x0⟩, ⟨h31, .z, x1⟩] [⟨h41, .own .z, y0⟩] [⟨h20, .z, x0⟩, ⟨h31, .z, x1⟩]
/-- impl.PositionGraph$1 -/
def G_iPositionGraph_1_pooz (x0 : Int) (x1 : List TFact) (x2 : Int) (x3 : Bool) (x4 : List TRel) (x5 : List TEdge) (z5 : List TEdge) : Prop := GivesS prog 160 [⟨.int .i64, .z, x0⟩, ⟨h28, .z, x1⟩, ⟨.int .i64, .z, x2⟩, ⟨.bool, .z, x3⟩, ⟨.ptr h20, .z, x4⟩, ⟨.ptr h41, .own (.own .z), x5⟩] [] [⟨.int .i64, .z, x0⟩, ⟨h28, .z, x1⟩, ⟨.int .i64, .z, x2⟩, ⟨.bool, .z, x3⟩, ⟨.ptr h20, .z, x4⟩, ⟨.ptr h41, .own (.own .z), z5⟩]
/-- slices.Contains[[]impl.PositionEdge,impl.PositionEdge] -/
def G_slices_Contains_PositionEdge (x0 : List TEdge) (x1 : TEdge) (y0 : Bool) : Prop := GivesS prog 162 [⟨h41, .z, x0⟩, ⟨h40, .z, x1⟩] [⟨.bool, .z, y0⟩] [⟨h41, .z, x0⟩, ⟨h40, .z, x1⟩]
/-- slices.Index[[]impl.PositionEdge,impl.PositionEdge] -/
def G_slices_Index_PositionEdge (x0 : List TEdge) (x1 : TEdge) (y0 : Int) : Prop := GivesS prog 193 [⟨h41, .z, x0⟩, ⟨h40, .z, x1⟩] [⟨.int .i64, .z, y0⟩] [⟨h41, .z, x0⟩, ⟨h40, .z, x1⟩]
/-- impl.positionsOf -/
def G_ipositionsOf (x0 : List TRel) (x1 : List TFact) (x2 : Int) (y0 : List Int) : Prop := GivesS prog 161 [⟨h20, .z, x0⟩, ⟨h28, .z, x1⟩, ⟨.int .i64, .z, x2⟩] [⟨.sl 3 (.int .i64), .own .z, y0⟩] [⟨h20, .z, x0⟩, ⟨h28, .z, x1⟩, ⟨.int .i64, .z, x2⟩]
/-- impl.PositionIndex -/
def G_iPositionIndex (x0 : List TRel) (x1 : Int) (x2 : Int) (y0 : Int) : Prop := GivesS prog 123 [⟨h20, .z, x0⟩, ⟨.int .i64, .z, x1⟩, ⟨.int .i64, .z, x2⟩] [⟨.int .i64, .z, y0⟩] [⟨h20, .z, x0⟩, ⟨.int .i64, .z, x1⟩, ⟨.int .i64, .z, x2⟩]
/-- impl.ExistentialVariables -/
def G_iExistentialVariables (x0 : TDep) (y0 : List Int) : Prop := GivesS prog 164 [⟨h30, .z, x0⟩] [⟨.sl 3 (.int .i64), .own .z, y0⟩] [⟨h30, .z, x0⟩]
/-- impl.headVariables -/
def G_iheadVariables (x0 : TDep) (x1 : Bool) (y0 : List Int) : Prop := GivesS prog 194 [⟨h30, .z, x0⟩, ⟨.bool, .z, x1⟩] [⟨.sl 3 (.int .i64), .own .z, y0⟩] [⟨h30, .z, x0⟩, ⟨.bool, .z, x1⟩]
/-- impl.FrontierVariables -/
def G_iFrontierVariables (x0 : TDep) (y0 : List Int) : Prop := GivesS prog 163 [⟨h30, .z, x0⟩] [⟨.sl 3 (.int .i64), .own .z, y0⟩] [⟨h30, .z, x0⟩]
/-- impl.arePlain -/
def G_iarePlain (x0 : List TRel) (x1 : List TDep) (y0 : Bool) : Prop := GivesS prog 46 [⟨h20, .z, x0⟩, ⟨h31, .z, x1⟩] [⟨.bool, .z, y0⟩] [⟨h20, .z, x0⟩, ⟨h31, .z, x1⟩]
/-- slices.ContainsFunc[[]impl.Dependency,impl.Dependency] -/
def G_slices_ContainsFunc_Dependency_c_iarePlain_1 (x0 : List TDep) (x1 : Unit) (y0 : Bool) : Prop := GivesS prog 95 [⟨h31, .z, x0⟩, ⟨.fn 96 .unit, .z, x1⟩] [⟨.bool, .z, y0⟩] [⟨h31, .z, x0⟩, ⟨.fn 96 .unit, .z, x1⟩]
/-- slices.IndexFunc[[]impl.Dependency,impl.Dependency] -/
def G_slices_IndexFunc_Dependency_c_iarePlain_1 (x0 : List TDep) (x1 : Unit) (y0 : Int) : Prop := GivesS prog 144 [⟨h31, .z, x0⟩, ⟨.fn 96 .unit, .z, x1⟩] [⟨.int .i64, .z, y0⟩] [⟨h31, .z, x0⟩, ⟨.fn 96 .unit, .z, x1⟩]
/-- impl.arePlain$1 -/
def G_iarePlain_1 (x0 : TDep) (y0 : Bool) : Prop := GivesS prog 96 [⟨h30, .z, x0⟩] [⟨.bool, .z, y0⟩] [⟨h30, .z, x0⟩]
/-- laws.toFactS -/
def G_ltoFactS (x0 : List TFact) (y0 : List TFact) : Prop := GivesS prog 13 [⟨h19, .z, x0⟩] [⟨h21, .own (.pr .z (.pr (.own .z) .z)), y0⟩] [⟨h19, .z, x0⟩]
/-- laws.toFact -/
def G_ltoFact (x0 : TFact) (y0 : TFact) : Prop := GivesS prog 31 [⟨h11, .z, x0⟩] [⟨h11, .pr .z (.pr (.own .z) .z), y0⟩] [⟨h11, .z, x0⟩]
/-- laws.toIntS -/
def G_ltoIntS (x0 : List Int) (y0 : List Int) : Prop := GivesS prog 78 [⟨.sl 3 (.int .i64), .z, x0⟩] [⟨.sl 3 (.int .i64), .own .z, y0⟩] [⟨.sl 3 (.int .i64), .z, x0⟩]
/-- laws.toDependencyS -/
def G_ltoDependencyS (x0 : List TDep) (y0 : List TDep) : Prop := GivesS prog 12 [⟨h18, .z, x0⟩] [⟨h31, .own (.pr (.own (.pr .z (.pr (.own .z) .z))) (.pr (.own (.pr .z (.pr (.own .z) .z))) .z)), y0⟩] [⟨h18, .z, x0⟩]
/-- laws.toDependency -/
def G_ltoDependency (x0 : TDep) (y0 : TDep) : Prop := GivesS prog 45 [⟨h17, .z, x0⟩] [⟨h30, .pr (.own (.pr .z (.pr (.own .z) .z))) (.pr (.own (.pr .z (.pr (.own .z) .z))) .z), y0⟩] [⟨h17, .z, x0⟩]
/-- laws.toAtomS -/
def G_ltoAtomS (x0 : List TFact) (y0 : List TFact) : Prop := GivesS prog 93 [⟨h12, .z, x0⟩] [⟨h28, .own (.pr .z (.pr (.own .z) .z)), y0⟩] [⟨h12, .z, x0⟩]
/-- laws.toAtom -/
def G_ltoAtom (x0 : TFact) (y0 : TFact) : Prop := GivesS prog 140 [⟨h11, .z, x0⟩] [⟨h11, .pr .z (.pr (.own .z) .z), y0⟩] [⟨h11, .z, x0⟩]
/-- laws.toRelationS -/
def G_ltoRelationS (x0 : List TRel) (y0 : List TRel) : Prop := GivesS prog 11 [⟨h9, .z, x0⟩] [⟨h20, .own .z, y0⟩] [⟨h9, .z, x0⟩]
/-- laws.toRelation -/
def G_ltoRelation (x0 : TRel) (y0 : TRel) : Prop := GivesS prog 44 [⟨h8, .z, x0⟩] [⟨h8, .z, y0⟩] [⟨h8, .z, x0⟩]
/-- laws.markLoader -/
def G_lmarkLoader_opppozpopzpozzzpopzpzpozzzpopopzpozzpopzpozzzpopzpozzz (x0 : TLoader) (x1 : Int) (y0 : Int) (z0 : TLoader) : Prop := GivesS prog 22 [⟨h34, .pr (.pr (.pr (.own .z) (.pr (.own (.pr .z (.pr (.own .z) .z))) .z)) (.pr (.own (.pr .z (.pr .z (.pr (.own .z) .z)))) .z)) (.pr (.own (.pr (.own (.pr .z (.pr (.own .z) .z))) (.pr (.own (.pr .z (.pr (.own .z) .z))) .z))) (.pr (.own (.pr .z (.pr (.own .z) .z))) .z)), x0⟩, ⟨.int .i64, .z, x1⟩] [⟨.int .i64, .z, y0⟩] [⟨h34, .pr (.pr (.pr (.own .z) (.pr (.own (.pr .z (.pr (.own .z) .z))) .z)) (.pr (.own (.pr .z (.pr .z (.pr (.own .z) .z)))) .z)) (.pr (.own (.pr (.own (.pr .z (.pr (.own .z) .z))) (.pr (.own (.pr .z (.pr (.own .z) .z))) .z))) (.pr (.own (.pr .z (.pr (.own .z) .z))) .z)), z0⟩, ⟨.int .i64, .z, x1⟩]
/-- laws.markFactS -/
def G_lmarkFactS_oopzpozz (x0 : List TFact) (x1 : Int) (y0 : Int) (z0 : List TFact) : Prop := GivesS prog 21 [⟨h21, .own (.pr .z (.pr (.own .z) .z)), x0⟩, ⟨.int .i64, .z, x1⟩] [⟨.int .i64, .z, y0⟩] [⟨h21, .own (.pr .z (.pr (.own .z) .z)), z0⟩, ⟨.int .i64, .z, x1⟩]
/-- laws.markIntS -/
def G_lmarkIntS_ooz (x0 : List Int) (x1 : Int) (y0 : Int) (z0 : List Int) : Prop := GivesS prog 57 [⟨.sl 3 (.int .i64), .own .z, x0⟩, ⟨.int .i64, .z, x1⟩] [⟨.int .i64, .z, y0⟩] [⟨.sl 3 (.int .i64), .own .z, z0⟩, ⟨.int .i64, .z, x1⟩]
/-- laws.markDependencyS -/
def G_lmarkDependencyS_oopopzpozzpopzpozzz (x0 : List TDep) (x1 : Int) (y0 : Int) (z0 : List TDep) : Prop := GivesS prog 20 [⟨h31, .own (.pr (.own (.pr .z (.pr (.own .z) .z))) (.pr (.own (.pr .z (.pr (.own .z) .z))) .z)), x0⟩, ⟨.int .i64, .z, x1⟩] [⟨.int .i64, .z, y0⟩] [⟨h31, .own (.pr (.own (.pr .z (.pr (.own .z) .z))) (.pr (.own (.pr .z (.pr (.own .z) .z))) .z)), z0⟩, ⟨.int .i64, .z, x1⟩]
/-- laws.markAtomS -/
def G_lmarkAtomS_oopzpozz (x0 : List TFact) (x1 : Int) (y0 : Int) (z0 : List TFact) : Prop := GivesS prog 56 [⟨h28, .own (.pr .z (.pr (.own .z) .z)), x0⟩, ⟨.int .i64, .z, x1⟩] [⟨.int .i64, .z, y0⟩] [⟨h28, .own (.pr .z (.pr (.own .z) .z)), z0⟩, ⟨.int .i64, .z, x1⟩]
/-- laws.markSkolemState -/
def G_lmarkSkolemState_oppozpopzpozzzpopzpzpozzz (x0 : TSk) (x1 : Int) (y0 : Int) (z0 : TSk) : Prop := GivesS prog 58 [⟨h27, .pr (.pr (.own .z) (.pr (.own (.pr .z (.pr (.own .z) .z))) .z)) (.pr (.own (.pr .z (.pr .z (.pr (.own .z) .z)))) .z), x0⟩, ⟨.int .i64, .z, x1⟩] [⟨.int .i64, .z, y0⟩] [⟨h27, .pr (.pr (.own .z) (.pr (.own (.pr .z (.pr (.own .z) .z))) .z)) (.pr (.own (.pr .z (.pr .z (.pr (.own .z) .z)))) .z), z0⟩, ⟨.int .i64, .z, x1⟩]
/-- laws.markSkolemTermS -/
def G_lmarkSkolemTermS_oopzpzpozz (x0 : List TTerm) (x1 : Int) (y0 : Int) (z0 : List TTerm) : Prop := GivesS prog 104 [⟨h25, .own (.pr .z (.pr .z (.pr (.own .z) .z))), x0⟩, ⟨.int .i64, .z, x1⟩] [⟨.int .i64, .z, y0⟩] [⟨h25, .own (.pr .z (.pr .z (.pr (.own .z) .z))), z0⟩, ⟨.int .i64, .z, x1⟩]
/-- laws.markInstance -/
def G_lmarkInstance_opozpopzpozzz (x0 : TInst) (x1 : Int) (y0 : Int) (z0 : TInst) : Prop := GivesS prog 103 [⟨h23, .pr (.own .z) (.pr (.own (.pr .z (.pr (.own .z) .z))) .z), x0⟩, ⟨.int .i64, .z, x1⟩] [⟨.int .i64, .z, y0⟩] [⟨h23, .pr (.own .z) (.pr (.own (.pr .z (.pr (.own .z) .z))) .z), z0⟩, ⟨.int .i64, .z, x1⟩]
/-- laws.markRelationS -/
def G_lmarkRelationS_ooz (x0 : List TRel) (x1 : Int) (y0 : Int) (z0 : List TRel) : Prop := GivesS prog 19 [⟨h20, .own .z, x0⟩, ⟨.int .i64, .z, x1⟩] [⟨.int .i64, .z, y0⟩] [⟨h20, .own .z, z0⟩, ⟨.int .i64, .z, x1⟩]
/-- spec.NewLoader -/
def G_sNewLoader (x0 : List TRel) (x1 : List TDep) (x2 : List TFact) (y0 : TLoader) (y1 : Bool) : Prop := GivesS prog 10 [⟨h20, .z, x0⟩, ⟨h31, .z, x1⟩, ⟨h21, .z, x2⟩] [⟨h34, .pr (.pr (.pr (.own .z) (.pr (.own (.pr .z (.pr (.own .z) .z))) .z)) (.pr (.own (.pr .z (.pr .z (.pr (.own .z) .z)))) .z)) (.pr (.own (.pr (.own (.pr .z (.pr (.own .z) .z))) (.pr (.own (.pr .z (.pr (.own .z) .z))) .z))) (.pr (.own (.pr .z (.pr (.own .z) .z))) .z)), y0⟩, ⟨.bool, .z, y1⟩] [⟨h20, .z, x0⟩, ⟨h31, .z, x1⟩, ⟨h21, .z, x2⟩]
/-- spec.l5Fact -/
def G_sl5Fact (x0 : TFact) (y0 : TFact) : Prop := GivesS prog 43 [⟨h11, .z, x0⟩] [⟨h11, .pr .z (.pr (.own .z) .z), y0⟩] [⟨h11, .z, x0⟩]
/-- spec.l9Copy -/
def G_sl9Copy (x0 : TDep) (y0 : TDep) : Prop := GivesS prog 42 [⟨h30, .z, x0⟩] [⟨h30, .pr (.own (.pr .z (.pr (.own .z) .z))) (.pr (.own (.pr .z (.pr (.own .z) .z))) .z), y0⟩] [⟨h30, .z, x0⟩]
/-- spec.IsWeaklyAcyclic -/
def G_sIsWeaklyAcyclic (x0 : List TRel) (x1 : List TDep) (y0 : Bool) : Prop := GivesS prog 41 [⟨h20, .z, x0⟩, ⟨h31, .z, x1⟩] [⟨.bool, .z, y0⟩] [⟨h20, .z, x0⟩, ⟨h31, .z, x1⟩]
/-- spec.AreValidDependencies -/
def G_sAreValidDependencies (x0 : List TRel) (x1 : List TDep) (y0 : Bool) : Prop := GivesS prog 91 [⟨h20, .z, x0⟩, ⟨h31, .z, x1⟩] [⟨.bool, .z, y0⟩] [⟨h20, .z, x0⟩, ⟨h31, .z, x1⟩]
/-- spec.AreValidRelations -/
def G_sAreValidRelations (x0 : List TRel) (y0 : Bool) : Prop := GivesS prog 86 [⟨h20, .z, x0⟩] [⟨.bool, .z, y0⟩] [⟨h20, .z, x0⟩]
/-- spec.IsValidRelation -/
def G_sIsValidRelation (x0 : TRel) (y0 : Bool) : Prop := GivesS prog 137 [⟨h8, .z, x0⟩] [⟨.bool, .z, y0⟩] [⟨h8, .z, x0⟩]
/-- spec.l1In -/
def G_sl1In (x0 : Int) (x1 : Int) (x2 : Int) (y0 : Bool) : Prop := GivesS prog 87 [⟨.int .i64, .z, x0⟩, ⟨.int .i64, .z, x1⟩, ⟨.int .i64, .z, x2⟩] [⟨.bool, .z, y0⟩] [⟨.int .i64, .z, x0⟩, ⟨.int .i64, .z, x1⟩, ⟨.int .i64, .z, x2⟩]
/-- spec.IsValidDependency -/
def G_sIsValidDependency (x0 : List TRel) (x1 : TDep) (y0 : Bool) : Prop := GivesS prog 138 [⟨h20, .z, x0⟩, ⟨h30, .z, x1⟩] [⟨.bool, .z, y0⟩] [⟨h20, .z, x0⟩, ⟨h30, .z, x1⟩]
/-- spec.IsValidAtom -/
def G_sIsValidAtom (x0 : List TRel) (x1 : TFact) (y0 : Bool) : Prop := GivesS prog 182 [⟨h20, .z, x0⟩, ⟨h11, .z, x1⟩] [⟨.bool, .z, y0⟩] [⟨h20, .z, x0⟩, ⟨h11, .z, x1⟩]
/-- spec.l4Has -/
def G_sl4Has (x0 : List Int) (x1 : Int) (y0 : Bool) : Prop := GivesS prog 184 [⟨.sl 3 (.int .i64), .z, x0⟩, ⟨.int .i64, .z, x1⟩] [⟨.bool, .z, y0⟩] [⟨.sl 3 (.int .i64), .z, x0⟩, ⟨.int .i64, .z, x1⟩]
/-- spec.Variables -/
def G_sVariables (x0 : List TFact) (y0 : List Int) : Prop := GivesS prog 183 [⟨h28, .z, x0⟩] [⟨.sl 3 (.int .i64), .z, y0⟩] [⟨h28, .z, x0⟩]
/-- spec.l4Put -/
def G_sl4Put (x0 : List Int) (x1 : Int) (y0 : List Int) : Prop := GivesS prog 90 [⟨.sl 3 (.int .i64), .z, x0⟩, ⟨.int .i64, .z, x1⟩] [⟨.sl 3 (.int .i64), .z, y0⟩] [⟨.sl 3 (.int .i64), .z, x0⟩, ⟨.int .i64, .z, x1⟩]
/-- spec.SpecialCycleEdge -/
def G_sSpecialCycleEdge (x0 : List TRel) (x1 : List TDep) (y0 : TEdge) (y1 : Bool) : Prop := GivesS prog 92 [⟨h20, .z, x0⟩, ⟨h31, .z, x1⟩] [⟨h40, .z, y0⟩, ⟨.bool, .z, y1⟩] [⟨h20, .z, x0⟩, ⟨h31, .z, x1⟩]
/-- spec.IsReachable -/
def G_sIsReachable (x0 : Int) (x1 : List TEdge) (x2 : Int) (x3 : Int) (y0 : Bool) : Prop := GivesS prog 139 [⟨.int .i64, .z, x0⟩, ⟨h41, .z, x1⟩, ⟨.int .i64, .z, x2⟩, ⟨.int .i64, .z, x3⟩] [⟨.bool, .z, y0⟩] [⟨.int .i64, .z, x0⟩, ⟨h41, .z, x1⟩, ⟨.int .i64, .z, x2⟩, ⟨.int .i64, .z, x3⟩]
/-- spec.PositionCount -/
def G_sPositionCount (x0 : List TRel) (y0 : Int) : Prop := GivesS prog 110 [⟨h20, .z, x0⟩] [⟨.int .i64, .z, y0⟩] [⟨h20, .z, x0⟩]
/-- spec.PositionGraph -/
def G_sPositionGraph (x0 : List TRel) (x1 : List TDep) (y0 : List TEdge) : Prop := GivesS prog 111 [⟨h20, .z, x0⟩, ⟨h31, .z, x1⟩] [⟨h41, .own .z, y0⟩] [⟨h20, .z, x0⟩, ⟨h31, .z, x1⟩]
/-- spec.l13Put -/
def G_sl13Put_ooz (x0 : List TEdge) (x1 : TEdge) (y0 : List TEdge) : Prop := GivesS prog 159 [⟨h41, .own .z, x0⟩, ⟨h40, .z, x1⟩] [⟨h41, .own .z, y0⟩] [⟨h41, .dead, x0⟩, ⟨h40, .z, x1⟩]
/-- spec.l13Places -/
def G_sl13Places (x0 : List TRel) (x1 : List TFact) (x2 : Int) (y0 : List Int) : Prop := GivesS prog 158 [⟨h20, .z, x0⟩, ⟨h28, .z, x1⟩, ⟨.int .i64, .z, x2⟩] [⟨.sl 3 (.int .i64), .own .z, y0⟩] [⟨h20, .z, x0⟩, ⟨h28, .z, x1⟩, ⟨.int .i64, .z, x2⟩]
/-- spec.PositionIndex -/
def G_sPositionIndex (x0 : List TRel) (x1 : Int) (x2 : Int) (y0 : Int) : Prop := GivesS prog 112 [⟨h20, .z, x0⟩, ⟨.int .i64, .z, x1⟩, ⟨.int .i64, .z, x2⟩] [⟨.int .i64, .z, y0⟩] [⟨h20, .z, x0⟩, ⟨.int .i64, .z, x1⟩, ⟨.int .i64, .z, x2⟩]
/-- spec.ExistentialVariables -/
def G_sExistentialVariables (x0 : TDep) (y0 : List Int) : Prop := GivesS prog 157 [⟨h30, .z, x0⟩] [⟨.sl 3 (.int .i64), .own .z, y0⟩] [⟨h30, .z, x0⟩]
/-- spec.FrontierVariables -/
def G_sFrontierVariables (x0 : TDep) (y0 : List Int) : Prop := GivesS prog 156 [⟨h30, .z, x0⟩] [⟨.sl 3 (.int .i64), .own .z, y0⟩] [⟨h30, .z, x0⟩]
/-- spec.l23Plain -/
def G_sl23Plain (x0 : List TRel) (x1 : List TDep) (y0 : Bool) : Prop := GivesS prog 40 [⟨h20, .z, x0⟩, ⟨h31, .z, x1⟩] [⟨.bool, .z, y0⟩] [⟨h20, .z, x0⟩, ⟨h31, .z, x1⟩]
/-- spec.NullsOfFact -/
def G_sNullsOfFact (x0 : TFact) (y0 : List Int) : Prop := GivesS prog 39 [⟨h11, .z, x0⟩] [⟨.sl 3 (.int .i64), .z, y0⟩] [⟨h11, .z, x0⟩]
/-- spec.NullNumber -/
def G_sNullNumber (x0 : Int) (y0 : Int) (y1 : Bool) : Prop := GivesS prog 89 [⟨.int .i64, .z, x0⟩] [⟨.int .i64, .z, y0⟩, ⟨.bool, .z, y1⟩] [⟨.int .i64, .z, x0⟩]
/-- spec.IsValidFact -/
def G_sIsValidFact (x0 : List TRel) (x1 : TFact) (y0 : Bool) : Prop := GivesS prog 38 [⟨h20, .z, x0⟩, ⟨h11, .z, x1⟩] [⟨.bool, .z, y0⟩] [⟨h20, .z, x0⟩, ⟨h11, .z, x1⟩]
/-- spec.IsValidValue -/
def G_sIsValidValue (x0 : Int) (y0 : Bool) : Prop := GivesS prog 88 [⟨.int .i64, .z, x0⟩] [⟨.bool, .z, y0⟩] [⟨.int .i64, .z, x0⟩]
/-- laws.szFactS -/
def G_lszFactS (x0 : List TFact) (x1 : Int) (y0 : Int) : Prop := GivesS prog 9 [⟨h19, .z, x0⟩, ⟨.int .i64, .z, x1⟩] [⟨.int .i64, .z, y0⟩] [⟨h19, .z, x0⟩, ⟨.int .i64, .z, x1⟩]
/-- laws.szFact -/
def G_lszFact (x0 : TFact) (x1 : Int) (y0 : Int) : Prop := GivesS prog 29 [⟨h11, .z, x0⟩, ⟨.int .i64, .z, x1⟩] [⟨.int .i64, .z, y0⟩] [⟨h11, .z, x0⟩, ⟨.int .i64, .z, x1⟩]
/-- laws.szIntS -/
def G_lszIntS (x0 : List Int) (x1 : Int) (y0 : Int) : Prop := GivesS prog 74 [⟨.sl 3 (.int .i64), .z, x0⟩, ⟨.int .i64, .z, x1⟩] [⟨.int .i64, .z, y0⟩] [⟨.sl 3 (.int .i64), .z, x0⟩, ⟨.int .i64, .z, x1⟩]
/-- laws.szDependencyS -/
def G_lszDependencyS (x0 : List TDep) (x1 : Int) (y0 : Int) : Prop := GivesS prog 8 [⟨h18, .z, x0⟩, ⟨.int .i64, .z, x1⟩] [⟨.int .i64, .z, y0⟩] [⟨h18, .z, x0⟩, ⟨.int .i64, .z, x1⟩]
/-- laws.szDependency -/
def G_lszDependency (x0 : TDep) (x1 : Int) (y0 : Int) : Prop := GivesS prog 37 [⟨h17, .z, x0⟩, ⟨.int .i64, .z, x1⟩] [⟨.int .i64, .z, y0⟩] [⟨h17, .z, x0⟩, ⟨.int .i64, .z, x1⟩]
/-- laws.szAtomS -/
def G_lszAtomS (x0 : List TFact) (x1 : Int) (y0 : Int) : Prop := GivesS prog 85 [⟨h12, .z, x0⟩, ⟨.int .i64, .z, x1⟩] [⟨.int .i64, .z, y0⟩] [⟨h12, .z, x0⟩, ⟨.int .i64, .z, x1⟩]
/-- laws.szAtom -/
def G_lszAtom (x0 : TFact) (x1 : Int) (y0 : Int) : Prop := GivesS prog 136 [⟨h11, .z, x0⟩, ⟨.int .i64, .z, x1⟩] [⟨.int .i64, .z, y0⟩] [⟨h11, .z, x0⟩, ⟨.int .i64, .z, x1⟩]
/-- laws.szRelationS -/
def G_lszRelationS (x0 : List TRel) (x1 : Int) (y0 : Int) : Prop := GivesS prog 7 [⟨h9, .z, x0⟩, ⟨.int .i64, .z, x1⟩] [⟨.int .i64, .z, y0⟩] [⟨h9, .z, x0⟩, ⟨.int .i64, .z, x1⟩]
/-- laws.szRelation -/
def G_lszRelation (x0 : TRel) (x1 : Int) (y0 : Int) : Prop := GivesS prog 36 [⟨h8, .z, x0⟩, ⟨.int .i64, .z, x1⟩] [⟨.int .i64, .z, y0⟩] [⟨h8, .z, x0⟩, ⟨.int .i64, .z, x1⟩]
end Go.V
