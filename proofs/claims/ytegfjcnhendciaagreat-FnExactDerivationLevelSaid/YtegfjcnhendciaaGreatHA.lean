/-
  The functions that are reached: types, signatures, what a call of each gives.
-/
import Derived.Test.YtegfjcnhendciaaGreatVE
import Derived.Test.YtegfjcnhendciaaGreatProg
import Derived.KernelRfl
set_option linter.unusedVariables false
set_option linter.unusedSimpArgs false
set_option maxRecDepth 1000000
set_option maxHeartbeats 4000000
set_option linter.unusedVariables false
namespace Go.V
open Go Go.Proofs
abbrev h0 : Sh := .pair (.int .u8) .unit
abbrev h1 : Sh := .pair .bool h0
abbrev h2 : Sh := .pair (.int .i64) h1
abbrev h3 : Sh := .pair (.int .i64) h2
abbrev h4 : Sh := .pair (.int .u64) .unit
abbrev h5 : Sh := .pair .str h4
abbrev h6 : Sh := .pair .bool .unit
abbrev h7 : Sh := .pair (.int .i64) h6
abbrev h8 : Sh := .pair .str h7
abbrev h9 : Sh := .sl 73 h8
abbrev h10 : Sh := .pair (.sl 3 (.int .i64)) .unit
abbrev h11 : Sh := .pair (.int .i64) h10
abbrev h12 : Sh := .sl 161 h11
abbrev h13 : Sh := .pair (.int .i64) .unit
abbrev h14 : Sh := .pair (.int .i64) h13
abbrev h15 : Sh := .pair .bool h14
abbrev h16 : Sh := .pair h12 h15
abbrev h17 : Sh := .pair h12 h16
abbrev h18 : Sh := .sl 77 h17
abbrev h19 : Sh := .sl 64 h11
abbrev h20 : Sh := .sl 79 h8
abbrev h21 : Sh := .sl 67 h11
abbrev h22 : Sh := .pair h21 .unit
abbrev h23 : Sh := .pair h20 h22
abbrev h24 : Sh := .pair (.int .i64) h11
abbrev h25 : Sh := .sl 142 h24
abbrev h26 : Sh := .pair h25 .unit
abbrev h27 : Sh := .pair h23 h26
abbrev h28 : Sh := .sl 127 h11
abbrev h29 : Sh := .pair h28 h15
abbrev h30 : Sh := .pair h28 h29
abbrev h31 : Sh := .sl 84 h30
abbrev h32 : Sh := .pair h21 h14
abbrev h33 : Sh := .pair h31 h32
abbrev h34 : Sh := .pair h27 h33
abbrev h35 : Sh := .pair h19 .unit
abbrev h36 : Sh := .pair h9 h35
abbrev h37 : Sh := .sl 137 h24
abbrev h38 : Sh := .pair h37 .unit
abbrev h39 : Sh := .pair h36 h38
abbrev h40 : Sh := .pair (.int .i64) h7
abbrev h41 : Sh := .sl 123 h40
abbrev h42 : Sh := .sl 155 h11
abbrev h43 : Sh := .pair (.ptr h31) .unit
abbrev h44 : Sh := .pair (.ptr (.sl 3 (.int .i64))) h43
abbrev h45 : Sh := .pair (.ptr h21) h44
abbrev h46 : Sh := .pair (.ptr h11) .unit
abbrev h47 : Sh := .pair (.ptr h24) .unit
abbrev h48 : Sh := .pair (.ptr (.sl 3 (.int .i64))) .unit
abbrev h49 : Sh := .pair (.ptr h20) .unit
abbrev h50 : Sh := .pair (.ptr (.int .i64)) .unit
noncomputable abbrev prog : Program := Tryz.prog
def shTab : List (Nat × Sh) := [(2, .int .i64), (3, .int .i64), (4, .bool), (5, .int .u8), (6, .int .u8), (9, .str), (10, .str), (11, .str), (12, .int .u64), (21, .int .i32), (22, h9), (23, h18), (24, h19), (28, h20), (29, h21), (30, h23), (31, h23), (32, h25), (33, h27), (34, h27), (35, h31), (36, h34), (37, h34), (52, h36), (53, h36), (54, h37), (55, h39), (56, h39), (62, .sl 3 (.int .i64)), (63, h11), (64, h11), (67, h11), (72, h8), (73, h8), (75, h12), (76, h17), (77, h17), (79, h8), (82, h28), (83, h30), (84, h30), (122, h40), (123, h40), (126, h11), (127, h11), (132, .sl 5 (.int .u8)), (136, h24), (137, h24), (139, h41), (142, h24), (150, .sl 151 h42), (151, h42), (154, h11), (155, h11), (161, h11), (179, .sl 62 (.sl 3 (.int .i64))), (193, .sl 4 .bool), (200, .int .u64), (217, .int .i64), (225, .int .u32), (227, .int .u64), (234, .int .u64), (238, .ptr (.int .i64)), (243, .ptr (.int .u64)), (256, .int .u8), (257, .int .u8), (259, .ptr (.int .u8)), (260, .int .i32), (261, .int .i32)]
def sigTab : List (Nat × List Sig) := [(5, [⟨[.z, .z, .z], [(.bool, .z)], [.z, .z, .z]⟩]), (7, [⟨[.z, .z], [(.int .i64, .z)], [.z, .z]⟩]), (8, [⟨[.z, .z], [(.int .i64, .z)], [.z, .z]⟩]), (9, [⟨[.z, .z], [(.int .i64, .z)], [.z, .z]⟩]), (11, [⟨[.z], [(h20, .own .z)], [.z]⟩]), (12, [⟨[.z], [(h31, .own (.pr (.own (.pr .z (.pr (.own .z) .z))) (.pr (.own (.pr .z (.pr (.own .z) .z))) .z)))], [.z]⟩]), (13, [⟨[.z], [(h21, .own (.pr .z (.pr (.own .z) .z)))], [.z]⟩]), (16, [⟨[.z, .z], [(.bool, .z)], [.z, .z]⟩]), (17, [⟨[.z, .z], [(.bool, .z)], [.z, .z]⟩]), (18, [⟨[.z, .z], [(.bool, .z)], [.z, .z]⟩]), (24, [⟨[.z, .z], [(.int .i64, .z)], [.z, .z]⟩]), (26, [⟨[.z], [(h27, .pr (.pr (.own .z) (.pr (.own (.pr .z (.pr (.own .z) .z))) .z)) (.pr (.own (.pr .z (.pr .z (.pr (.own .z) .z)))) .z))], [.z]⟩]), (28, [⟨[.z, .z], [(.bool, .z)], [.z, .z]⟩]), (29, [⟨[.z, .z], [(.int .i64, .z)], [.z, .z]⟩]), (30, [⟨[.z, .z, .z], [(.int .i64, .z)], [.z, .z, .z]⟩]), (31, [⟨[.z], [(h11, .pr .z (.pr (.own .z) .z))], [.z]⟩]), (32, [⟨[.z, .z, .z], [(.int .i64, .z)], [.z, .z, .z]⟩]), (33, [⟨[.z, .z], [(.bool, .z)], [.z, .z]⟩]), (36, [⟨[.z, .z], [(.int .i64, .z)], [.z, .z]⟩]), (37, [⟨[.z, .z], [(.int .i64, .z)], [.z, .z]⟩]), (38, [⟨[.z, .z], [(.bool, .z)], [.z, .z]⟩]), (39, [⟨[.z], [(.sl 3 (.int .i64), .z)], [.z]⟩]), (40, [⟨[.z, .z], [(.bool, .z)], [.z, .z]⟩]), (44, [⟨[.z], [(h8, .z)], [.z]⟩]), (45, [⟨[.z], [(h30, .pr (.own (.pr .z (.pr (.own .z) .z))) (.pr (.own (.pr .z (.pr (.own .z) .z))) .z))], [.z]⟩]), (46, [⟨[.z, .z], [(.bool, .z)], [.z, .z]⟩]), (49, [⟨[.z], [(.sl 3 (.int .i64), .own .z)], [.z]⟩]), (53, [⟨[.z, .z], [(.bool, .z)], [.z, .z]⟩]), (54, [⟨[.z, .z], [(.bool, .z)], [.z, .z]⟩]), (62, [⟨[.z, .z], [(.int .i64, .z)], [.z, .z]⟩]), (63, [⟨[.z, .z], [(.int .i64, .z)], [.z, .z]⟩]), (66, [⟨[.z], [(.bool, .z)], [.z]⟩]), (67, [⟨[.z], [(h23, .pr (.own .z) (.pr (.own (.pr .z (.pr (.own .z) .z))) .z))], [.z]⟩]), (68, [⟨[.z], [(h25, .own (.pr .z (.pr .z (.pr (.own .z) .z))))], [.z]⟩]), (70, [⟨[.z], [(.bool, .z)], [.z]⟩]), (72, [⟨[.z, .z], [(.bool, .z)], [.z, .z]⟩]), (73, [⟨[.z, .z], [(.bool, .z)], [.z, .z]⟩]), (74, [⟨[.z, .z], [(.int .i64, .z)], [.z, .z]⟩]), (75, [⟨[.z, .z], [(.bool, .z)], [.z, .z]⟩]), (76, [⟨[.z, .z], [(.sl 3 (.int .i64), .own .z)], [.z, .z]⟩]), (77, [⟨[.z, .z], [(.int .i64, .z)], [.z, .z]⟩]), (78, [⟨[.z], [(.sl 3 (.int .i64), .own .z)], [.z]⟩]), (79, [⟨[.z, .z], [(.int .i64, .z)], [.z, .z]⟩]), (80, [⟨[.z, .z], [(.bool, .z)], [.z, .z]⟩]), (81, [⟨[.z, .z], [(.bool, .z)], [.z, .z]⟩]), (82, [⟨[.z, .z], [(.sl 3 (.int .i64), .own .z)], [.z, .z]⟩]), (83, [⟨[.z, .z], [(.bool, .z)], [.z, .z]⟩]), (84, [⟨[.z, .z], [(.bool, .z)], [.z, .z]⟩]), (85, [⟨[.z, .z], [(.int .i64, .z)], [.z, .z]⟩]), (86, [⟨[.z], [(.bool, .z)], [.z]⟩]), (87, [⟨[.z, .z, .z], [(.bool, .z)], [.z, .z, .z]⟩]), (88, [⟨[.z], [(.bool, .z)], [.z]⟩]), (89, [⟨[.z], [(.int .i64, .z), (.bool, .z)], [.z]⟩]), (90, [⟨[.z, .z], [(.sl 3 (.int .i64), .z)], [.z, .z]⟩]), (91, [⟨[.z, .z], [(.bool, .z)], [.z, .z]⟩]), (93, [⟨[.z], [(h28, .own (.pr .z (.pr (.own .z) .z)))], [.z]⟩]), (94, [⟨[.z, .z], [(.bool, .z)], [.z, .z]⟩]), (95, [⟨[.z, .z], [(.bool, .z)], [.z, .z]⟩]), (96, [⟨[.z], [(.bool, .z)], [.z]⟩]), (98, [⟨[.z, .z], [(.bool, .z)], [.z, .z]⟩]), (99, [⟨[.z], [(.sl 3 (.int .i64), .own .z)], [.z]⟩]), (102, [⟨[.z, .z], [(.bool, .z)], [.z, .z]⟩]), (109, [⟨[.z, .z], [(.int .i64, .z)], [.z, .z]⟩]), (114, [⟨[.z, .z], [(.int .i64, .z)], [.z, .z]⟩]), (115, [⟨[.z], [(.sl 3 (.int .i64), .z)], [.z]⟩]), (116, [⟨[.z], [(.bool, .z)], [.z]⟩]), (117, [⟨[.z], [(h24, .pr .z (.pr .z (.pr (.own .z) .z)))], [.z]⟩]), (120, [⟨[.z], [(.bool, .z)], [.z]⟩]), (121, [⟨[.z], [(.int .i64, .z)], [.z]⟩]), (122, [⟨[.z], [(.bool, .z)], [.z]⟩]), (125, [⟨[.z, .z], [(.bool, .z)], [.z, .z]⟩]), (126, [⟨[.z, .z, .z], [(h42, .own .z)], [.z, .z, .z]⟩]), (127, [⟨[.z, .z, .z, .z], [(.bool, .z)], [.z, .z, .z, .z]⟩]), (128, [⟨[.z, .z], [(.int .i64, .z)], [.z, .z]⟩]), (129, [⟨[.z, .z], [(.int .i64, .z)], [.z, .z]⟩]), (130, [⟨[.z, .z, .z], [(h42, .own .z)], [.z, .z, .z]⟩]), (131, [⟨[.z], [(.sl 3 (.int .i64), .own .z)], [.z]⟩]), (132, [⟨[.z, .z], [(.bool, .z)], [.z, .z]⟩]), (133, [⟨[.z, .z, .z, .z], [(.bool, .z)], [.z, .z, .z, .z]⟩]), (134, [⟨[.z, .z, .z, .z], [(.bool, .z)], [.z, .z, .z, .z]⟩]), (135, [⟨[.z, .z], [(.int .i64, .z)], [.z, .z]⟩]), (136, [⟨[.z, .z], [(.int .i64, .z)], [.z, .z]⟩]), (137, [⟨[.z], [(.bool, .z)], [.z]⟩]), (138, [⟨[.z, .z], [(.bool, .z)], [.z, .z]⟩]), (140, [⟨[.z], [(h11, .pr .z (.pr (.own .z) .z))], [.z]⟩]), (141, [⟨[.z], [(.bool, .z)], [.z]⟩]), (142, [⟨[.z, .z], [(.bool, .z)], [.z, .z]⟩]), (143, [⟨[.z, .z], [(.bool, .z)], [.z, .z]⟩]), (144, [⟨[.z, .z], [(.int .i64, .z)], [.z, .z]⟩]), (146, [⟨[.z, .z, .z], [(.bool, .z)], [.z, .z, .z]⟩]), (147, [⟨[.z, .z], [(.bool, .z)], [.z, .z]⟩]), (148, [⟨[.z], [(.bool, .z)], [.z]⟩]), (149, [⟨[.z], [(.bool, .z)], [.z]⟩]), (150, [⟨[.z], [(.int .i64, .z), (.bool, .z)], [.z]⟩]), (151, [⟨[.own .z], [], [.own .z]⟩]), (152, [⟨[.own .z], [(.sl 3 (.int .i64), .own .z)], [.dead]⟩]), (154, [⟨[.z, .z], [(.bool, .z)], [.z, .z]⟩]), (156, [⟨[.z], [(.sl 3 (.int .i64), .own .z)], [.z]⟩]), (157, [⟨[.z], [(.sl 3 (.int .i64), .own .z)], [.z]⟩]), (163, [⟨[.z], [(.sl 3 (.int .i64), .own .z)], [.z]⟩]), (164, [⟨[.z], [(.sl 3 (.int .i64), .own .z)], [.z]⟩]), (165, [⟨[.z], [(.sl 3 (.int .i64), .own .z)], [.z]⟩]), (166, [⟨[.z, .z], [(.bool, .z)], [.z, .z]⟩]), (167, [⟨[.z, .z], [(.int .i64, .z)], [.z, .z]⟩]), (168, [⟨[.z], [(.sl 3 (.int .i64), .own .z)], [.z]⟩]), (169, [⟨[.z], [(.bool, .z)], [.z]⟩]), (170, [⟨[.z, .z], [(.sl 62 (.sl 3 (.int .i64)), .own .z)], [.z, .z]⟩]), (171, [⟨[.z, .z, .z, .z, .z], [(.bool, .z)], [.z, .z, .z, .z, .z]⟩]), (172, [⟨[.z, .z], [(h11, .pr .z (.pr (.own .z) .z)), (.bool, .z)], [.z, .z]⟩]), (173, [⟨[.z], [(.int .i64, .z)], [.z]⟩]), (174, [⟨[.z, .z], [(.int .i64, .z)], [.z, .z]⟩]), (175, [⟨[.z, .z], [(.int .i64, .z)], [.z, .z]⟩]), (176, [⟨[.z, .z], [(.bool, .z)], [.z, .z]⟩]), (177, [⟨[.z, .z], [(.sl 62 (.sl 3 (.int .i64)), .own .z)], [.z, .z]⟩]), (178, [⟨[.z, .z, .z, .z], [(h21, .own (.pr .z (.pr (.own .z) .z))), (h25, .own .z)], [.z, .z, .z, .z]⟩]), (179, [⟨[.z, .z], [(.int .i64, .z)], [.z, .z]⟩]), (180, [⟨[.z, .z], [(h11, .pr .z (.pr (.own .z) .z)), (.bool, .z)], [.z, .z]⟩]), (181, [⟨[.z, .z, .z], [(.int .i64, .z), (.bool, .z)], [.z, .z, .z]⟩]), (182, [⟨[.z, .z], [(.bool, .z)], [.z, .z]⟩]), (183, [⟨[.z], [(.sl 3 (.int .i64), .z)], [.z]⟩]), (184, [⟨[.z, .z], [(.bool, .z)], [.z, .z]⟩]), (185, [⟨[.z], [(.bool, .z)], [.z]⟩]), (186, [⟨[.z, .z, .z], [(.bool, .z)], [.z, .z, .z]⟩]), (187, [⟨[.z], [(.sl 3 (.int .i64), .own .z)], [.z]⟩]), (188, [⟨[.z, .z], [(.bool, .z)], [.z, .z]⟩]), (189, [⟨[.z, .z], [(.bool, .z)], [.z, .z]⟩]), (190, [⟨[.z, .z], [(.int .i64, .z)], [.z, .z]⟩]), (194, [⟨[.z, .z], [(.sl 3 (.int .i64), .own .z)], [.z, .z]⟩]), (195, [⟨[.z, .z], [(.bool, .z)], [.z, .z]⟩]), (196, [⟨[.z, .z], [(.int .i64, .z)], [.z, .z]⟩]), (197, [⟨[.z, .z], [(.bool, .z)], [.z, .z]⟩]), (198, [⟨[.z, .z], [(.bool, .z)], [.z, .z]⟩]), (199, [⟨[.z, .z], [(.bool, .z)], [.z, .z]⟩]), (200, [⟨[.z, .z, .z, .z], [(.sl 62 (.sl 3 (.int .i64)), .own (.own .z))], [.z, .z, .z, .z]⟩]), (201, [⟨[], [(.sl 3 (.int .i64), .own .z)], []⟩]), (202, [⟨[.z, .z], [(h27, .z), (.int .i64, .z), (.bool, .z)], [.z, .z]⟩]), (203, [⟨[.z], [(.bool, .z)], [.z]⟩]), (204, [⟨[.z, .z], [(.bool, .z)], [.z, .z]⟩]), (205, [⟨[.z, .z], [(.bool, .z)], [.z, .z]⟩]), (206, [⟨[.z, .z], [(.bool, .z)], [.z, .z]⟩]), (207, [⟨[.z, .z, .z], [(.sl 62 (.sl 3 (.int .i64)), .own .z)], [.z, .z, .z]⟩]), (208, [⟨[], [(.sl 3 (.int .i64), .own .z)], []⟩]), (209, [⟨[.z, .z], [(.bool, .z)], [.z, .z]⟩]), (210, [⟨[.z], [(h25, .own .z)], [.z]⟩]), (211, [⟨[.z], [(.int .i64, .z)], [.z]⟩]), (212, [⟨[.z, .z], [(.bool, .z)], [.z, .z]⟩]), (213, [⟨[.z, .z], [(.bool, .z)], [.z, .z]⟩]), (214, [⟨[.z, .z], [(.int .i64, .z)], [.z, .z]⟩]), (226, [⟨[.z, .z, .z], [(.sl 3 (.int .i64), .own .z), (.bool, .z)], [.z, .z, .z]⟩]), (227, [⟨[], [(.int .i64, .z)], []⟩]), (228, [⟨[.z], [(.int .i64, .z)], [.z]⟩]), (229, [⟨[.z, .z], [(.int .i64, .z)], [.z, .z]⟩]), (230, [⟨[.z, .z, .z], [(.sl 3 (.int .i64), .own .z), (.bool, .z)], [.z, .z, .z]⟩]), (231, [⟨[.z, .z], [(.sl 3 (.int .i64), .own .z)], [.z, .z]⟩]), (232, [⟨[.z, .z], [(.bool, .z)], [.z, .z]⟩]), (233, [⟨[.z, .z], [(.bool, .z)], [.z, .z]⟩]), (234, [⟨[.z], [(.bool, .z)], [.z]⟩]), (240, [⟨[.z, .z], [(.int .u64, .z), (.int .u64, .z)], [.z, .z]⟩]), (241, [⟨[.z, .z], [(.int .i64, .z)], [.z, .z]⟩]), (244, [⟨[.z, .z], [(.int .u64, .z), (.int .u64, .z)], [.z, .z]⟩])]
def parTab : List (Nat × List (Option Sh)) := [(5, [some (h39), some (h18), some (h11)]), (7, [some (h9), some (.int .i64)]), (8, [some (h18), some (.int .i64)]), (9, [some (h19), some (.int .i64)]), (11, [some (h9)]), (12, [some (h18)]), (13, [some (h19)]), (16, [some (h20), some (h20)]), (17, [some (h31), some (h31)]), (18, [some (h21), some (h21)]), (24, [some (h39), some (.int .i64)]), (26, [some (h39)]), (28, [some (h27), some (h27)]), (29, [some (h11), some (.int .i64)]), (30, [some (h27), some (h31), some (h11)]), (31, [some (h11)]), (32, [some (h27), some (h31), some (h11)]), (33, [some (h11), some (h11)]), (36, [some (h8), some (.int .i64)]), (37, [some (h17), some (.int .i64)]), (38, [some (h20), some (h11)]), (39, [some (h11)]), (40, [some (h20), some (h31)]), (44, [some (h8)]), (45, [some (h17)]), (46, [some (h20), some (h31)]), (49, [some (h11)]), (53, [some (h8), some (h8)]), (54, [some (h30), some (h30)]), (62, [some (h36), some (.int .i64)]), (63, [some (h37), some (.int .i64)]), (66, [some (h27)]), (67, [some (h36)]), (68, [some (h37)]), (70, [some (h27)]), (72, [some (h23), some (h23)]), (73, [some (h25), some (h25)]), (74, [some (.sl 3 (.int .i64)), some (.int .i64)]), (75, [some (h23), some (h11)]), (76, [some (h27), some (h31)]), (77, [some (h23), some (h11)]), (78, [some (.sl 3 (.int .i64))]), (79, [some (h21), none]), (80, [some (h11)]), (81, [some (h11), some (h11)]), (82, [some (h27), some (h31)]), (83, [some (.sl 3 (.int .i64)), some (.sl 3 (.int .i64))]), (84, [some (.sl 3 (.int .i64)), some (.int .i64)]), (85, [some (h12), some (.int .i64)]), (86, [some (h20)]), (87, [some (.int .i64), some (.int .i64), some (.int .i64)]), (88, [some (.int .i64)]), (89, [some (.int .i64)]), (90, [some (.sl 3 (.int .i64)), some (.int .i64)]), (91, [some (h20), some (h31)]), (93, [some (h12)]), (94, [some (h20), some (h31)]), (95, [some (h31), none]), (96, [some (h30)]), (98, [some (h20), some (h11)]), (99, [some (.sl 3 (.int .i64))]), (102, [some (h28), some (h28)]), (109, [some (h24), some (.int .i64)]), (114, [some (.sl 3 (.int .i64)), some (.sl 3 (.int .i64))]), (115, [some (h23)]), (116, [some (h23)]), (117, [some (h24)]), (120, [some (h23)]), (121, [some (h23)]), (122, [some (h25)]), (125, [some (h24), some (h24)]), (126, [some (h27), some (h31), some (h11)]), (127, [some (h27), some (h31), some (h11), some (.sl 3 (.int .i64))]), (128, [some (h11), some (h11)]), (129, [some (h11), some (h11)]), (130, [some (h27), some (h31), some (h11)]), (131, [some (.sl 3 (.int .i64))]), (132, [some (h42), none]), (133, [some (h11)]), (134, [some (h21), some (.sl 3 (.int .i64)), some (h31), some (h11)]), (135, [some (.sl 3 (.int .i64)), some (.int .i64)]), (136, [some (h11), some (.int .i64)]), (137, [some (h8)]), (138, [some (h20), some (h30)]), (140, [some (h11)]), (141, [some (h20)]), (142, [some (h30)]), (143, [some (h20), some (h30)]), (144, [some (h31), none]), (146, [some (.int .i64), some (.int .i64), some (.int .i64)]), (147, [some (.sl 3 (.int .i64)), none]), (148, [some (.int .i64)]), (149, [some (.int .i64)]), (150, [some (.int .i64)]), (151, [some (.sl 3 (.int .i64))]), (152, [some (.sl 3 (.int .i64))]), (154, [some (h11), some (h11)]), (156, [some (h30)]), (157, [some (h30)]), (163, [some (h30)]), (164, [some (h30)]), (165, [some (h23)]), (166, [some (h24), some (.int .i64)]), (167, [some (h25), some (h24)]), (168, [some (h25)]), (169, [some (.int .i64)]), (170, [some (h23), some (h28)]), (171, [some (h27), some (h31), some (.int .i64), some (.sl 3 (.int .i64)), some (h11)]), (172, [some (h11), some (.sl 3 (.int .i64))]), (173, [some (.sl 3 (.int .i64))]), (174, [some (.int .i64), some (.int .i64)]), (175, [some (.sl 3 (.int .i64)), some (.sl 3 (.int .i64))]), (176, [some (h21), some (h11)]), (177, [some (h23), some (h28)]), (178, [some (h25), some (h31), some (.int .i64), some (.sl 3 (.int .i64))]), (179, [some (h42), none]), (180, [some (h11), some (.sl 3 (.int .i64))]), (181, [some (h21), some (h11), none]), (182, [some (h20), some (h11)]), (183, [some (h28)]), (184, [some (.sl 3 (.int .i64)), some (.int .i64)]), (185, [some (h8)]), (186, [some (h20), some (h28), some (.int .i64)]), (187, [some (h28)]), (188, [some (h28), none]), (189, [some (h11)]), (190, [some (.sl 3 (.int .i64)), none]), (194, [some (h30), some (.bool)]), (195, [some (.int .i64)]), (196, [some (h25), none]), (197, [some (h24)]), (198, [some (.sl 3 (.int .i64)), some (.sl 3 (.int .i64))]), (199, [some (h23), some (h28)]), (200, [some (h23), some (h28), some (.int .i64), some (.sl 3 (.int .i64))]), (201, []), (202, [some (h27), some (h24)]), (203, [some (.int .i64)]), (204, [some (h21), none]), (205, [some (h11)]), (206, [some (h23), some (h28)]), (207, [some (h21), some (h28), some (.sl 3 (.int .i64))]), (208, []), (209, [some (.sl 62 (.sl 3 (.int .i64))), some (.sl 3 (.int .i64))]), (210, [some (h25)]), (211, [some (.int .i64)]), (212, [some (h11)]), (213, [some (h20), some (h11)]), (214, [some (h28), none]), (226, [some (h11), some (h11), some (.sl 3 (.int .i64))]), (227, []), (228, [some (.int .i64)]), (229, [some (h27), some (h24)]), (230, [some (.sl 3 (.int .i64)), some (h11), some (h11)]), (231, [some (.sl 3 (.int .i64)), some (.int .i64)]), (232, [some (.sl 62 (.sl 3 (.int .i64))), none]), (233, [some (.sl 3 (.int .i64))]), (234, [some (.int .i64)]), (240, [some (.int .u64), some (.int .u64)]), (241, [some (.sl 62 (.sl 3 (.int .i64))), none]), (244, [some (.int .u64), some (.int .u64)])]
noncomputable def E : Env := { sh := fun t => look t shTab, sigs := fun f => (look f sigTab).getD [], params := fun f => (look f parTab).getD [], gives := GivesS prog }
theorem types_ok : ∀ t s, E.sh t = some s → ShOk prog s none t := tab_ok (by kernel_rfl)
theorem mixed : prog.follows .mixedOrders = true := by kernel_rfl
/-- laws.FnExactDerivationLevel -/
def G_lFnExactDerivationLevel (x0 : TSk) (x1 : List TDep) (x2 : TFact) (y0 : Bool) : Prop := GivesS prog 5 [⟨h39, .z, x0⟩, ⟨h18, .z, x1⟩, ⟨h11, .z, x2⟩] [⟨.bool, .z, y0⟩] [⟨h39, .z, x0⟩, ⟨h18, .z, x1⟩, ⟨h11, .z, x2⟩]
/-- laws.eqFact -/
def G_leqFact (x0 : TFact) (x1 : TFact) (y0 : Bool) : Prop := GivesS prog 33 [⟨h11, .z, x0⟩, ⟨h11, .z, x1⟩] [⟨.bool, .z, y0⟩] [⟨h11, .z, x0⟩, ⟨h11, .z, x1⟩]
/-- laws.eqIntS -/
def G_leqIntS (x0 : List Int) (x1 : List Int) (y0 : Bool) : Prop := GivesS prog 83 [⟨.sl 3 (.int .i64), .z, x0⟩, ⟨.sl 3 (.int .i64), .z, x1⟩] [⟨.bool, .z, y0⟩] [⟨.sl 3 (.int .i64), .z, x0⟩, ⟨.sl 3 (.int .i64), .z, x1⟩]
/-- laws.toFact -/
def G_ltoFact (x0 : TFact) (y0 : TFact) : Prop := GivesS prog 31 [⟨h11, .z, x0⟩] [⟨h11, .pr .z (.pr (.own .z) .z), y0⟩] [⟨h11, .z, x0⟩]
/-- laws.toIntS -/
def G_ltoIntS (x0 : List Int) (y0 : List Int) : Prop := GivesS prog 78 [⟨.sl 3 (.int .i64), .z, x0⟩] [⟨.sl 3 (.int .i64), .own .z, y0⟩] [⟨.sl 3 (.int .i64), .z, x0⟩]
/-- laws.eqDependencyS -/
def G_leqDependencyS (x0 : List TDep) (x1 : List TDep) (y0 : Bool) : Prop := GivesS prog 17 [⟨h31, .z, x0⟩, ⟨h31, .z, x1⟩] [⟨.bool, .z, y0⟩] [⟨h31, .z, x0⟩, ⟨h31, .z, x1⟩]
/-- laws.eqDependency -/
def G_leqDependency (x0 : TDep) (x1 : TDep) (y0 : Bool) : Prop := GivesS prog 54 [⟨h30, .z, x0⟩, ⟨h30, .z, x1⟩] [⟨.bool, .z, y0⟩] [⟨h30, .z, x0⟩, ⟨h30, .z, x1⟩]
/-- laws.eqAtomS -/
def G_leqAtomS (x0 : List TFact) (x1 : List TFact) (y0 : Bool) : Prop := GivesS prog 102 [⟨h28, .z, x0⟩, ⟨h28, .z, x1⟩] [⟨.bool, .z, y0⟩] [⟨h28, .z, x0⟩, ⟨h28, .z, x1⟩]
/-- laws.eqAtom -/
def G_leqAtom (x0 : TFact) (x1 : TFact) (y0 : Bool) : Prop := GivesS prog 154 [⟨h11, .z, x0⟩, ⟨h11, .z, x1⟩] [⟨.bool, .z, y0⟩] [⟨h11, .z, x0⟩, ⟨h11, .z, x1⟩]
/-- laws.toDependencyS -/
def G_ltoDependencyS (x0 : List TDep) (y0 : List TDep) : Prop := GivesS prog 12 [⟨h18, .z, x0⟩] [⟨h31, .own (.pr (.own (.pr .z (.pr (.own .z) .z))) (.pr (.own (.pr .z (.pr (.own .z) .z))) .z)), y0⟩] [⟨h18, .z, x0⟩]
/-- laws.toDependency -/
def G_ltoDependency (x0 : TDep) (y0 : TDep) : Prop := GivesS prog 45 [⟨h17, .z, x0⟩] [⟨h30, .pr (.own (.pr .z (.pr (.own .z) .z))) (.pr (.own (.pr .z (.pr (.own .z) .z))) .z), y0⟩] [⟨h17, .z, x0⟩]
/-- laws.toAtomS -/
def G_ltoAtomS (x0 : List TFact) (y0 : List TFact) : Prop := GivesS prog 93 [⟨h12, .z, x0⟩] [⟨h28, .own (.pr .z (.pr (.own .z) .z)), y0⟩] [⟨h12, .z, x0⟩]
/-- laws.toAtom -/
def G_ltoAtom (x0 : TFact) (y0 : TFact) : Prop := GivesS prog 140 [⟨h11, .z, x0⟩] [⟨h11, .pr .z (.pr (.own .z) .z), y0⟩] [⟨h11, .z, x0⟩]
/-- laws.eqSkolemState -/
def G_leqSkolemState (x0 : TSk) (x1 : TSk) (y0 : Bool) : Prop := GivesS prog 28 [⟨h27, .z, x0⟩, ⟨h27, .z, x1⟩] [⟨.bool, .z, y0⟩] [⟨h27, .z, x0⟩, ⟨h27, .z, x1⟩]
/-- laws.eqSkolemTermS -/
def G_leqSkolemTermS (x0 : List TTerm) (x1 : List TTerm) (y0 : Bool) : Prop := GivesS prog 73 [⟨h25, .z, x0⟩, ⟨h25, .z, x1⟩] [⟨.bool, .z, y0⟩] [⟨h25, .z, x0⟩, ⟨h25, .z, x1⟩]
/-- laws.eqSkolemTerm -/
def G_leqSkolemTerm (x0 : TTerm) (x1 : TTerm) (y0 : Bool) : Prop := GivesS prog 125 [⟨h24, .z, x0⟩, ⟨h24, .z, x1⟩] [⟨.bool, .z, y0⟩] [⟨h24, .z, x0⟩, ⟨h24, .z, x1⟩]
/-- laws.eqInstance -/
def G_leqInstance (x0 : TInst) (x1 : TInst) (y0 : Bool) : Prop := GivesS prog 72 [⟨h23, .z, x0⟩, ⟨h23, .z, x1⟩] [⟨.bool, .z, y0⟩] [⟨h23, .z, x0⟩, ⟨h23, .z, x1⟩]
/-- laws.eqFactS -/
def G_leqFactS (x0 : List TFact) (x1 : List TFact) (y0 : Bool) : Prop := GivesS prog 18 [⟨h21, .z, x0⟩, ⟨h21, .z, x1⟩] [⟨.bool, .z, y0⟩] [⟨h21, .z, x0⟩, ⟨h21, .z, x1⟩]
/-- laws.eqRelationS -/
def G_leqRelationS (x0 : List TRel) (x1 : List TRel) (y0 : Bool) : Prop := GivesS prog 16 [⟨h20, .z, x0⟩, ⟨h20, .z, x1⟩] [⟨.bool, .z, y0⟩] [⟨h20, .z, x0⟩, ⟨h20, .z, x1⟩]
/-- laws.eqRelation -/
def G_leqRelation (x0 : TRel) (x1 : TRel) (y0 : Bool) : Prop := GivesS prog 53 [⟨h8, .z, x0⟩, ⟨h8, .z, x1⟩] [⟨.bool, .z, y0⟩] [⟨h8, .z, x0⟩, ⟨h8, .z, x1⟩]
/-- laws.toSkolemState -/
def G_ltoSkolemState (x0 : TSk) (y0 : TSk) : Prop := GivesS prog 26 [⟨h39, .z, x0⟩] [⟨h27, .pr (.pr (.own .z) (.pr (.own (.pr .z (.pr (.own .z) .z))) .z)) (.pr (.own (.pr .z (.pr .z (.pr (.own .z) .z)))) .z), y0⟩] [⟨h39, .z, x0⟩]
/-- laws.toSkolemTermS -/
def G_ltoSkolemTermS (x0 : List TTerm) (y0 : List TTerm) : Prop := GivesS prog 68 [⟨h37, .z, x0⟩] [⟨h25, .own (.pr .z (.pr .z (.pr (.own .z) .z))), y0⟩] [⟨h37, .z, x0⟩]
/-- laws.toSkolemTerm -/
def G_ltoSkolemTerm (x0 : TTerm) (y0 : TTerm) : Prop := GivesS prog 117 [⟨h24, .z, x0⟩] [⟨h24, .pr .z (.pr .z (.pr (.own .z) .z)), y0⟩] [⟨h24, .z, x0⟩]
/-- laws.toInstance -/
def G_ltoInstance (x0 : TInst) (y0 : TInst) : Prop := GivesS prog 67 [⟨h36, .z, x0⟩] [⟨h23, .pr (.own .z) (.pr (.own (.pr .z (.pr (.own .z) .z))) .z), y0⟩] [⟨h36, .z, x0⟩]
/-- laws.toFactS -/
def G_ltoFactS (x0 : List TFact) (y0 : List TFact) : Prop := GivesS prog 13 [⟨h19, .z, x0⟩] [⟨h21, .own (.pr .z (.pr (.own .z) .z)), y0⟩] [⟨h19, .z, x0⟩]
/-- laws.toRelationS -/
def G_ltoRelationS (x0 : List TRel) (y0 : List TRel) : Prop := GivesS prog 11 [⟨h9, .z, x0⟩] [⟨h20, .own .z, y0⟩] [⟨h9, .z, x0⟩]
/-- laws.toRelation -/
def G_ltoRelation (x0 : TRel) (y0 : TRel) : Prop := GivesS prog 44 [⟨h8, .z, x0⟩] [⟨h8, .z, y0⟩] [⟨h8, .z, x0⟩]
/-- impl.DerivationLevel -/
def G_iDerivationLevel (x0 : TSk) (x1 : List TDep) (x2 : TFact) (y0 : Int) : Prop := GivesS prog 32 [⟨h27, .z, x0⟩, ⟨h31, .z, x1⟩, ⟨h11, .z, x2⟩] [⟨.int .i64, .z, y0⟩] [⟨h27, .z, x0⟩, ⟨h31, .z, x1⟩, ⟨h11, .z, x2⟩]
/-- impl.levels -/
def G_ilevels (x0 : TSk) (x1 : List TDep) (y0 : List Int) : Prop := GivesS prog 82 [⟨h27, .z, x0⟩, ⟨h31, .z, x1⟩] [⟨.sl 3 (.int .i64), .own .z, y0⟩] [⟨h27, .z, x0⟩, ⟨h31, .z, x1⟩]
/-- slices.ContainsFunc[[]impl.ChaseStep,impl.ChaseStep] -/
def G_slices_ContainsFunc_ChaseStep_c_ilevels_1 (x0 : List TFact) (x1 : List TFact × List Int × List TDep × Unit) (y0 : Bool) : Prop := GivesS prog 132 [⟨h42, .z, x0⟩, ⟨.fn 133 h45, .z, x1⟩] [⟨.bool, .z, y0⟩] [⟨h42, .z, x0⟩, ⟨.fn 133 h45, .z, x1⟩]
/-- slices.IndexFunc[[]impl.ChaseStep,impl.ChaseStep] -/
def G_slices_IndexFunc_ChaseStep_c_ilevels_1 (x0 : List TFact) (x1 : List TFact × List Int × List TDep × Unit) (y0 : Int) : Prop := GivesS prog 179 [⟨h42, .z, x0⟩, ⟨.fn 133 h45, .z, x1⟩] [⟨.int .i64, .z, y0⟩] [⟨h42, .z, x0⟩, ⟨.fn 133 h45, .z, x1⟩]
/-- impl.levels$1 -/
def G_ilevels_1 (x0 : TFact) (x1 : List TFact) (x2 : List Int) (x3 : List TDep) (y0 : Bool) : Prop := GivesS prog 133 [⟨h11, .z, x0⟩, ⟨.ptr h21, .z, x1⟩, ⟨.ptr (.sl 3 (.int .i64)), .z, x2⟩, ⟨.ptr h31, .z, x3⟩] [⟨.bool, .z, y0⟩] [⟨h11, .z, x0⟩, ⟨.ptr h21, .z, x1⟩, ⟨.ptr (.sl 3 (.int .i64)), .z, x2⟩, ⟨.ptr h31, .z, x3⟩]
/-- impl.isDerived -/
def G_iisDerived (x0 : List TFact) (x1 : List Int) (x2 : List TDep) (x3 : TFact) (y0 : Bool) : Prop := GivesS prog 134 [⟨h21, .z, x0⟩, ⟨.sl 3 (.int .i64), .z, x1⟩, ⟨h31, .z, x2⟩, ⟨h11, .z, x3⟩] [⟨.bool, .z, y0⟩] [⟨h21, .z, x0⟩, ⟨.sl 3 (.int .i64), .z, x1⟩, ⟨h31, .z, x2⟩, ⟨h11, .z, x3⟩]
/-- slices.BinarySearchFunc[[]impl.Fact,impl.Fact,impl.Fact] -/
def G_slices_BinarySearchFunc_Fact_c_iCompareFacts (x0 : List TFact) (x1 : TFact) (x2 : Unit) (y0 : Int) (y1 : Bool) : Prop := GivesS prog 181 [⟨h21, .z, x0⟩, ⟨h11, .z, x1⟩, ⟨.fn 129 .unit, .z, x2⟩] [⟨.int .i64, .z, y0⟩, ⟨.bool, .z, y1⟩] [⟨h21, .z, x0⟩, ⟨h11, .z, x1⟩, ⟨.fn 129 .unit, .z, x2⟩]
/-- impl.CompareFacts -/
def G_iCompareFacts (x0 : TFact) (x1 : TFact) (y0 : Int) : Prop := GivesS prog 129 [⟨h11, .z, x0⟩, ⟨h11, .z, x1⟩] [⟨.int .i64, .z, y0⟩] [⟨h11, .z, x0⟩, ⟨h11, .z, x1⟩]
/-- cmp.Or[int] -/
def G_cmp_Or_int (x0 : List Int) (y0 : Int) : Prop := GivesS prog 173 [⟨.sl 3 (.int .i64), .z, x0⟩] [⟨.int .i64, .z, y0⟩] [⟨.sl 3 (.int .i64), .z, x0⟩]
/-- slices.Compare[[]int,int] -/
def G_slices_Compare_int (x0 : List Int) (x1 : List Int) (y0 : Int) : Prop := GivesS prog 175 [⟨.sl 3 (.int .i64), .z, x0⟩, ⟨.sl 3 (.int .i64), .z, x1⟩] [⟨.int .i64, .z, y0⟩] [⟨.sl 3 (.int .i64), .z, x0⟩, ⟨.sl 3 (.int .i64), .z, x1⟩]
/-- cmp.Compare[int] -/
def G_cmp_Compare_int (x0 : Int) (x1 : Int) (y0 : Int) : Prop := GivesS prog 174 [⟨.int .i64, .z, x0⟩, ⟨.int .i64, .z, x1⟩] [⟨.int .i64, .z, y0⟩] [⟨.int .i64, .z, x0⟩, ⟨.int .i64, .z, x1⟩]
/-- cmp.isNaN[int] -/
def G_cmp_isNaN_int (x0 : Int) (y0 : Bool) : Prop := GivesS prog 203 [⟨.int .i64, .z, x0⟩] [⟨.bool, .z, y0⟩] [⟨.int .i64, .z, x0⟩]
/-- impl.Instantiate -/
def G_iInstantiate (x0 : TFact) (x1 : List Int) (y0 : TFact) (y1 : Bool) : Prop := GivesS prog 180 [⟨h11, .z, x0⟩, ⟨.sl 3 (.int .i64), .z, x1⟩] [⟨h11, .pr .z (.pr (.own .z) .z), y0⟩, ⟨.bool, .z, y1⟩] [⟨h11, .z, x0⟩, ⟨.sl 3 (.int .i64), .z, x1⟩]
/-- impl.IsValidValue -/
def G_iIsValidValue (x0 : Int) (y0 : Bool) : Prop := GivesS prog 149 [⟨.int .i64, .z, x0⟩] [⟨.bool, .z, y0⟩] [⟨.int .i64, .z, x0⟩]
/-- impl.within -/
def G_iwithin (x0 : Int) (x1 : Int) (x2 : Int) (y0 : Bool) : Prop := GivesS prog 146 [⟨.int .i64, .z, x0⟩, ⟨.int .i64, .z, x1⟩, ⟨.int .i64, .z, x2⟩] [⟨.bool, .z, y0⟩] [⟨.int .i64, .z, x0⟩, ⟨.int .i64, .z, x1⟩, ⟨.int .i64, .z, x2⟩]
/-- slices.Clone[[]int,int] -/
def G_slices_Clone_int (x0 : List Int) (y0 : List Int) : Prop := GivesS prog 131 [⟨.sl 3 (.int .i64), .z, x0⟩] [⟨.sl 3 (.int .i64), .own .z, y0⟩] [⟨.sl 3 (.int .i64), .z, x0⟩]
/-- impl.Derivations -/
def G_iDerivations (x0 : TSk) (x1 : List TDep) (x2 : TFact) (y0 : List TFact) : Prop := GivesS prog 130 [⟨h27, .z, x0⟩, ⟨h31, .z, x1⟩, ⟨h11, .z, x2⟩] [⟨h42, .own .z, y0⟩] [⟨h27, .z, x0⟩, ⟨h31, .z, x1⟩, ⟨h11, .z, x2⟩]
/-- impl.hasFact -/
def G_ihasFact (x0 : List TFact) (x1 : TFact) (y0 : Bool) : Prop := GivesS prog 176 [⟨h21, .z, x0⟩, ⟨h11, .z, x1⟩] [⟨.bool, .z, y0⟩] [⟨h21, .z, x0⟩, ⟨h11, .z, x1⟩]
/-- slices.ContainsFunc[[]impl.Fact,impl.Fact] -/
def G_slices_ContainsFunc_Fact_c_ihasFact_1 (x0 : List TFact) (x1 : TFact × Unit) (y0 : Bool) : Prop := GivesS prog 204 [⟨h21, .z, x0⟩, ⟨.fn 205 h46, .z, x1⟩] [⟨.bool, .z, y0⟩] [⟨h21, .z, x0⟩, ⟨.fn 205 h46, .z, x1⟩]
/-- slices.IndexFunc[[]impl.Fact,impl.Fact] -/
def G_slices_IndexFunc_Fact_c_ihasFact_1 (x0 : List TFact) (x1 : TFact × Unit) (y0 : Int) : Prop := GivesS prog 79 [⟨h21, .z, x0⟩, ⟨.fn 205 h46, .z, x1⟩] [⟨.int .i64, .z, y0⟩] [⟨h21, .z, x0⟩, ⟨.fn 205 h46, .z, x1⟩]
/-- impl.hasFact$1 -/
def G_ihasFact_1 (x0 : TFact) (x1 : TFact) (y0 : Bool) : Prop := GivesS prog 205 [⟨h11, .z, x0⟩, ⟨.ptr h11, .z, x1⟩] [⟨.bool, .z, y0⟩] [⟨h11, .z, x0⟩, ⟨.ptr h11, .z, x1⟩]
/-- impl.sameFact -/
def G_isameFact (x0 : TFact) (x1 : TFact) (y0 : Bool) : Prop := GivesS prog 81 [⟨h11, .z, x0⟩, ⟨h11, .z, x1⟩] [⟨.bool, .z, y0⟩] [⟨h11, .z, x0⟩, ⟨h11, .z, x1⟩]
/-- impl.headFacts -/
def G_iheadFacts (x0 : List TTerm) (x1 : List TDep) (x2 : Int) (x3 : List Int) (y0 : List TFact) (y1 : List TTerm) : Prop := GivesS prog 178 [⟨h25, .z, x0⟩, ⟨h31, .z, x1⟩, ⟨.int .i64, .z, x2⟩, ⟨.sl 3 (.int .i64), .z, x3⟩] [⟨h21, .own (.pr .z (.pr (.own .z) .z)), y0⟩, ⟨h25, .own .z, y1⟩] [⟨h25, .z, x0⟩, ⟨h31, .z, x1⟩, ⟨.int .i64, .z, x2⟩, ⟨.sl 3 (.int .i64), .z, x3⟩]
/-- impl.NullValue -/
def G_iNullValue (x0 : Int) (y0 : Int) : Prop := GivesS prog 211 [⟨.int .i64, .z, x0⟩] [⟨.int .i64, .z, y0⟩] [⟨.int .i64, .z, x0⟩]
/-- impl.termAt -/
def G_itermAt (x0 : List TTerm) (x1 : TTerm) (y0 : Int) : Prop := GivesS prog 167 [⟨h25, .z, x0⟩, ⟨h24, .z, x1⟩] [⟨.int .i64, .z, y0⟩] [⟨h25, .z, x0⟩, ⟨h24, .z, x1⟩]
/-- slices.IndexFunc[[]impl.SkolemTerm,impl.SkolemTerm] -/
def G_slices_IndexFunc_SkolemTerm_c_itermAt_1 (x0 : List TTerm) (x1 : TTerm × Unit) (y0 : Int) : Prop := GivesS prog 196 [⟨h25, .z, x0⟩, ⟨.fn 197 h47, .z, x1⟩] [⟨.int .i64, .z, y0⟩] [⟨h25, .z, x0⟩, ⟨.fn 197 h47, .z, x1⟩]
/-- impl.termAt$1 -/
def G_itermAt_1 (x0 : TTerm) (x1 : TTerm) (y0 : Bool) : Prop := GivesS prog 197 [⟨h24, .z, x0⟩, ⟨.ptr h24, .z, x1⟩] [⟨.bool, .z, y0⟩] [⟨h24, .z, x0⟩, ⟨.ptr h24, .z, x1⟩]
/-- slices.Equal[[]int,int] -/
def G_slices_Equal_int (x0 : List Int) (x1 : List Int) (y0 : Bool) : Prop := GivesS prog 198 [⟨.sl 3 (.int .i64), .z, x0⟩, ⟨.sl 3 (.int .i64), .z, x1⟩] [⟨.bool, .z, y0⟩] [⟨.sl 3 (.int .i64), .z, x0⟩, ⟨.sl 3 (.int .i64), .z, x1⟩]
/-- impl.ExistentialVariables -/
def G_iExistentialVariables (x0 : TDep) (y0 : List Int) : Prop := GivesS prog 164 [⟨h30, .z, x0⟩] [⟨.sl 3 (.int .i64), .own .z, y0⟩] [⟨h30, .z, x0⟩]
/-- impl.headVariables -/
def G_iheadVariables (x0 : TDep) (x1 : Bool) (y0 : List Int) : Prop := GivesS prog 194 [⟨h30, .z, x0⟩, ⟨.bool, .z, x1⟩] [⟨.sl 3 (.int .i64), .own .z, y0⟩] [⟨h30, .z, x0⟩, ⟨.bool, .z, x1⟩]
/-- slices.Contains[[]int,int] -/
def G_slices_Contains_int (x0 : List Int) (x1 : Int) (y0 : Bool) : Prop := GivesS prog 84 [⟨.sl 3 (.int .i64), .z, x0⟩, ⟨.int .i64, .z, x1⟩] [⟨.bool, .z, y0⟩] [⟨.sl 3 (.int .i64), .z, x0⟩, ⟨.int .i64, .z, x1⟩]
/-- slices.Index[[]int,int] -/
def G_slices_Index_int (x0 : List Int) (x1 : Int) (y0 : Int) : Prop := GivesS prog 135 [⟨.sl 3 (.int .i64), .z, x0⟩, ⟨.int .i64, .z, x1⟩] [⟨.int .i64, .z, y0⟩] [⟨.sl 3 (.int .i64), .z, x0⟩, ⟨.int .i64, .z, x1⟩]
/-- impl.Variables -/
def G_iVariables (x0 : List TFact) (y0 : List Int) : Prop := GivesS prog 187 [⟨h28, .z, x0⟩] [⟨.sl 3 (.int .i64), .own .z, y0⟩] [⟨h28, .z, x0⟩]
/-- slices.Compact[[]int,int] -/
def G_slices_Compact_int_ooz (x0 : List Int) (y0 : List Int) : Prop := GivesS prog 152 [⟨.sl 3 (.int .i64), .own .z, x0⟩] [⟨.sl 3 (.int .i64), .own .z, y0⟩] [⟨.sl 3 (.int .i64), .dead, x0⟩]
/-- slices.Sort[[]int,int] -/
def G_slices_Sort_int_ooz (x0 : List Int) (z0 : List Int) : Prop := GivesS prog 151 [⟨.sl 3 (.int .i64), .own .z, x0⟩] [] [⟨.sl 3 (.int .i64), .own .z, z0⟩]
/-- slices.Clone[[]impl.SkolemTerm,impl.SkolemTerm] -/
def G_slices_Clone_SkolemTerm (x0 : List TTerm) (y0 : List TTerm) : Prop := GivesS prog 210 [⟨h25, .z, x0⟩] [⟨h25, .own .z, y0⟩] [⟨h25, .z, x0⟩]
/-- impl.FrontierVariables -/
def G_iFrontierVariables (x0 : TDep) (y0 : List Int) : Prop := GivesS prog 163 [⟨h30, .z, x0⟩] [⟨.sl 3 (.int .i64), .own .z, y0⟩] [⟨h30, .z, x0⟩]
/-- impl.FindMatches -/
def G_iFindMatches (x0 : TInst) (x1 : List TFact) (y0 : List (List Int)) : Prop := GivesS prog 177 [⟨h23, .z, x0⟩, ⟨h28, .z, x1⟩] [⟨.sl 62 (.sl 3 (.int .i64)), .own .z, y0⟩] [⟨h23, .z, x0⟩, ⟨h28, .z, x1⟩]
/-- impl.hasBinding -/
def G_ihasBinding (x0 : List (List Int)) (x1 : List Int) (y0 : Bool) : Prop := GivesS prog 209 [⟨.sl 62 (.sl 3 (.int .i64)), .z, x0⟩, ⟨.sl 3 (.int .i64), .z, x1⟩] [⟨.bool, .z, y0⟩] [⟨.sl 62 (.sl 3 (.int .i64)), .z, x0⟩, ⟨.sl 3 (.int .i64), .z, x1⟩]
/-- slices.ContainsFunc[[][]int,[]int] -/
def G_slices_ContainsFunc_Sint_c_ihasBinding_1 (x0 : List (List Int)) (x1 : TUf) (y0 : Bool) : Prop := GivesS prog 232 [⟨.sl 62 (.sl 3 (.int .i64)), .z, x0⟩, ⟨.fn 233 h48, .z, x1⟩] [⟨.bool, .z, y0⟩] [⟨.sl 62 (.sl 3 (.int .i64)), .z, x0⟩, ⟨.fn 233 h48, .z, x1⟩]
/-- slices.IndexFunc[[][]int,[]int] -/
def G_slices_IndexFunc_Sint_c_ihasBinding_1 (x0 : List (List Int)) (x1 : TUf) (y0 : Int) : Prop := GivesS prog 241 [⟨.sl 62 (.sl 3 (.int .i64)), .z, x0⟩, ⟨.fn 233 h48, .z, x1⟩] [⟨.int .i64, .z, y0⟩] [⟨.sl 62 (.sl 3 (.int .i64)), .z, x0⟩, ⟨.fn 233 h48, .z, x1⟩]
/-- impl.hasBinding$1 -/
def G_ihasBinding_1 (x0 : List Int) (x1 : List Int) (y0 : Bool) : Prop := GivesS prog 233 [⟨.sl 3 (.int .i64), .z, x0⟩, ⟨.ptr (.sl 3 (.int .i64)), .z, x1⟩] [⟨.bool, .z, y0⟩] [⟨.sl 3 (.int .i64), .z, x0⟩, ⟨.ptr (.sl 3 (.int .i64)), .z, x1⟩]
/-- impl.matches -/
def G_imatches (x0 : List TFact) (x1 : List TFact) (x2 : List Int) (y0 : List (List Int)) : Prop := GivesS prog 207 [⟨h21, .z, x0⟩, ⟨h28, .z, x1⟩, ⟨.sl 3 (.int .i64), .z, x2⟩] [⟨.sl 62 (.sl 3 (.int .i64)), .own .z, y0⟩] [⟨h21, .z, x0⟩, ⟨h28, .z, x1⟩, ⟨.sl 3 (.int .i64), .z, x2⟩]
/-- impl.bind -/
def G_ibind (x0 : List Int) (x1 : TFact) (x2 : TFact) (y0 : List Int) (y1 : Bool) : Prop := GivesS prog 230 [⟨.sl 3 (.int .i64), .z, x0⟩, ⟨h11, .z, x1⟩, ⟨h11, .z, x2⟩] [⟨.sl 3 (.int .i64), .own .z, y0⟩, ⟨.bool, .z, y1⟩] [⟨.sl 3 (.int .i64), .z, x0⟩, ⟨h11, .z, x1⟩, ⟨h11, .z, x2⟩]
/-- impl.unboundBinding -/
def G_iunboundBinding  (y0 : List Int) : Prop := GivesS prog 208 [] [⟨.sl 3 (.int .i64), .own .z, y0⟩] []
/-- slices.Repeat[[]int,int] -/
def G_slices_Repeat_int (x0 : List Int) (x1 : Int) (y0 : List Int) : Prop := GivesS prog 231 [⟨.sl 3 (.int .i64), .z, x0⟩, ⟨.int .i64, .z, x1⟩] [⟨.sl 3 (.int .i64), .own .z, y0⟩] [⟨.sl 3 (.int .i64), .z, x0⟩, ⟨.int .i64, .z, x1⟩]
/-- math/bits.Mul -/
def G_math_bits_Mul (x0 : Int) (x1 : Int) (y0 : Int) (y1 : Int) : Prop := GivesS prog 240 [⟨.int .u64, .z, x0⟩, ⟨.int .u64, .z, x1⟩] [⟨.int .u64, .z, y0⟩, ⟨.int .u64, .z, y1⟩] [⟨.int .u64, .z, x0⟩, ⟨.int .u64, .z, x1⟩]
/-- math/bits.Mul64 -/
def G_math_bits_Mul64 (x0 : Int) (x1 : Int) (y0 : Int) (y1 : Int) : Prop := GivesS prog 244 [⟨.int .u64, .z, x0⟩, ⟨.int .u64, .z, x1⟩] [⟨.int .u64, .z, y0⟩, ⟨.int .u64, .z, y1⟩] [⟨.int .u64, .z, x0⟩, ⟨.int .u64, .z, x1⟩]
/-- impl.areMatchable -/
def G_iareMatchable (x0 : TInst) (x1 : List TFact) (y0 : Bool) : Prop := GivesS prog 206 [⟨h23, .z, x0⟩, ⟨h28, .z, x1⟩] [⟨.bool, .z, y0⟩] [⟨h23, .z, x0⟩, ⟨h28, .z, x1⟩]
/-- impl.areAtoms -/
def G_iareAtoms (x0 : List TRel) (x1 : List TFact) (x2 : Int) (y0 : Bool) : Prop := GivesS prog 186 [⟨h20, .z, x0⟩, ⟨h28, .z, x1⟩, ⟨.int .i64, .z, x2⟩] [⟨.bool, .z, y0⟩] [⟨h20, .z, x0⟩, ⟨h28, .z, x1⟩, ⟨.int .i64, .z, x2⟩]
/-- slices.ContainsFunc[[]impl.Atom,impl.Atom] -/
def G_slices_ContainsFunc_Atom_c_iareAtoms_1 (x0 : List TFact) (x1 : List TRel × Unit) (y0 : Bool) : Prop := GivesS prog 188 [⟨h28, .z, x0⟩, ⟨.fn 212 h49, .z, x1⟩] [⟨.bool, .z, y0⟩] [⟨h28, .z, x0⟩, ⟨.fn 212 h49, .z, x1⟩]
/-- slices.IndexFunc[[]impl.Atom,impl.Atom] -/
def G_slices_IndexFunc_Atom_c_iareAtoms_1 (x0 : List TFact) (x1 : List TRel × Unit) (y0 : Int) : Prop := GivesS prog 214 [⟨h28, .z, x0⟩, ⟨.fn 212 h49, .z, x1⟩] [⟨.int .i64, .z, y0⟩] [⟨h28, .z, x0⟩, ⟨.fn 212 h49, .z, x1⟩]
/-- impl.areAtoms$1 -/
def G_iareAtoms_1 (x0 : TFact) (x1 : List TRel) (y0 : Bool) : Prop := GivesS prog 212 [⟨h11, .z, x0⟩, ⟨.ptr h20, .z, x1⟩] [⟨.bool, .z, y0⟩] [⟨h11, .z, x0⟩, ⟨.ptr h20, .z, x1⟩]
/-- impl.IsValidAtom -/
def G_iIsValidAtom (x0 : List TRel) (x1 : TFact) (y0 : Bool) : Prop := GivesS prog 213 [⟨h20, .z, x0⟩, ⟨h11, .z, x1⟩] [⟨.bool, .z, y0⟩] [⟨h20, .z, x0⟩, ⟨h11, .z, x1⟩]
/-- slices.ContainsFunc[[]int,int] -/
def G_slices_ContainsFunc_int_c_iIsValidAtom_1 (x0 : List Int) (x1 : Unit) (y0 : Bool) : Prop := GivesS prog 147 [⟨.sl 3 (.int .i64), .z, x0⟩, ⟨.fn 234 .unit, .z, x1⟩] [⟨.bool, .z, y0⟩] [⟨.sl 3 (.int .i64), .z, x0⟩, ⟨.fn 234 .unit, .z, x1⟩]
/-- slices.IndexFunc[[]int,int] -/
def G_slices_IndexFunc_int_c_iIsValidAtom_1 (x0 : List Int) (x1 : Unit) (y0 : Int) : Prop := GivesS prog 190 [⟨.sl 3 (.int .i64), .z, x0⟩, ⟨.fn 234 .unit, .z, x1⟩] [⟨.int .i64, .z, y0⟩] [⟨.sl 3 (.int .i64), .z, x0⟩, ⟨.fn 234 .unit, .z, x1⟩]
/-- impl.IsValidAtom$1 -/
def G_iIsValidAtom_1 (x0 : Int) (y0 : Bool) : Prop := GivesS prog 234 [⟨.int .i64, .z, x0⟩] [⟨.bool, .z, y0⟩] [⟨.int .i64, .z, x0⟩]
/-- impl.AreValidRelations -/
def G_iAreValidRelations (x0 : List TRel) (y0 : Bool) : Prop := GivesS prog 141 [⟨h20, .z, x0⟩] [⟨.bool, .z, y0⟩] [⟨h20, .z, x0⟩]
/-- impl.IsValidRelation -/
def G_iIsValidRelation (x0 : TRel) (y0 : Bool) : Prop := GivesS prog 185 [⟨h8, .z, x0⟩] [⟨.bool, .z, y0⟩] [⟨h8, .z, x0⟩]
/-- impl.IsValidInstance -/
def G_iIsValidInstance (x0 : TInst) (y0 : Bool) : Prop := GivesS prog 120 [⟨h23, .z, x0⟩] [⟨.bool, .z, y0⟩] [⟨h23, .z, x0⟩]
/-- impl.NullsOfFact -/
def G_iNullsOfFact (x0 : TFact) (y0 : List Int) : Prop := GivesS prog 49 [⟨h11, .z, x0⟩] [⟨.sl 3 (.int .i64), .own .z, y0⟩] [⟨h11, .z, x0⟩]
/-- impl.nullsOf -/
def G_inullsOf (x0 : List Int) (y0 : List Int) : Prop := GivesS prog 99 [⟨.sl 3 (.int .i64), .z, x0⟩] [⟨.sl 3 (.int .i64), .own .z, y0⟩] [⟨.sl 3 (.int .i64), .z, x0⟩]
/-- impl.NullNumber -/
def G_iNullNumber (x0 : Int) (y0 : Int) (y1 : Bool) : Prop := GivesS prog 150 [⟨.int .i64, .z, x0⟩] [⟨.int .i64, .z, y0⟩, ⟨.bool, .z, y1⟩] [⟨.int .i64, .z, x0⟩]
/-- impl.IsValidFact -/
def G_iIsValidFact (x0 : List TRel) (x1 : TFact) (y0 : Bool) : Prop := GivesS prog 98 [⟨h20, .z, x0⟩, ⟨h11, .z, x1⟩] [⟨.bool, .z, y0⟩] [⟨h20, .z, x0⟩, ⟨h11, .z, x1⟩]
/-- slices.ContainsFunc[[]int,int] -/
def G_slices_ContainsFunc_int_c_iIsValidFact_1 (x0 : List Int) (x1 : Unit) (y0 : Bool) : Prop := GivesS prog 147 [⟨.sl 3 (.int .i64), .z, x0⟩, ⟨.fn 148 .unit, .z, x1⟩] [⟨.bool, .z, y0⟩] [⟨.sl 3 (.int .i64), .z, x0⟩, ⟨.fn 148 .unit, .z, x1⟩]
/-- slices.IndexFunc[[]int,int] -/
def G_slices_IndexFunc_int_c_iIsValidFact_1 (x0 : List Int) (x1 : Unit) (y0 : Int) : Prop := GivesS prog 190 [⟨.sl 3 (.int .i64), .z, x0⟩, ⟨.fn 148 .unit, .z, x1⟩] [⟨.int .i64, .z, y0⟩] [⟨.sl 3 (.int .i64), .z, x0⟩, ⟨.fn 148 .unit, .z, x1⟩]
/-- impl.IsValidFact$1 -/
def G_iIsValidFact_1 (x0 : Int) (y0 : Bool) : Prop := GivesS prog 148 [⟨.int .i64, .z, x0⟩] [⟨.bool, .z, y0⟩] [⟨.int .i64, .z, x0⟩]
/-- impl.arePlain -/
def G_iarePlain (x0 : List TRel) (x1 : List TDep) (y0 : Bool) : Prop := GivesS prog 46 [⟨h20, .z, x0⟩, ⟨h31, .z, x1⟩] [⟨.bool, .z, y0⟩] [⟨h20, .z, x0⟩, ⟨h31, .z, x1⟩]
/-- slices.ContainsFunc[[]impl.Dependency,impl.Dependency] -/
def G_slices_ContainsFunc_Dependency_c_iarePlain_1 (x0 : List TDep) (x1 : Unit) (y0 : Bool) : Prop := GivesS prog 95 [⟨h31, .z, x0⟩, ⟨.fn 96 .unit, .z, x1⟩] [⟨.bool, .z, y0⟩] [⟨h31, .z, x0⟩, ⟨.fn 96 .unit, .z, x1⟩]
/-- slices.IndexFunc[[]impl.Dependency,impl.Dependency] -/
def G_slices_IndexFunc_Dependency_c_iarePlain_1 (x0 : List TDep) (x1 : Unit) (y0 : Int) : Prop := GivesS prog 144 [⟨h31, .z, x0⟩, ⟨.fn 96 .unit, .z, x1⟩] [⟨.int .i64, .z, y0⟩] [⟨h31, .z, x0⟩, ⟨.fn 96 .unit, .z, x1⟩]
/-- impl.arePlain$1 -/
def G_iarePlain_1 (x0 : TDep) (y0 : Bool) : Prop := GivesS prog 96 [⟨h30, .z, x0⟩] [⟨.bool, .z, y0⟩] [⟨h30, .z, x0⟩]
/-- impl.AreValidDependencies -/
def G_iAreValidDependencies (x0 : List TRel) (x1 : List TDep) (y0 : Bool) : Prop := GivesS prog 94 [⟨h20, .z, x0⟩, ⟨h31, .z, x1⟩] [⟨.bool, .z, y0⟩] [⟨h20, .z, x0⟩, ⟨h31, .z, x1⟩]
/-- slices.ContainsFunc[[]impl.Dependency,impl.Dependency] -/
def G_slices_ContainsFunc_Dependency_c_iAreValidDependencies_1 (x0 : List TDep) (x1 : List TRel × Unit) (y0 : Bool) : Prop := GivesS prog 95 [⟨h31, .z, x0⟩, ⟨.fn 142 h49, .z, x1⟩] [⟨.bool, .z, y0⟩] [⟨h31, .z, x0⟩, ⟨.fn 142 h49, .z, x1⟩]
/-- slices.IndexFunc[[]impl.Dependency,impl.Dependency] -/
def G_slices_IndexFunc_Dependency_c_iAreValidDependencies_1 (x0 : List TDep) (x1 : List TRel × Unit) (y0 : Int) : Prop := GivesS prog 144 [⟨h31, .z, x0⟩, ⟨.fn 142 h49, .z, x1⟩] [⟨.int .i64, .z, y0⟩] [⟨h31, .z, x0⟩, ⟨.fn 142 h49, .z, x1⟩]
/-- impl.AreValidDependencies$1 -/
def G_iAreValidDependencies_1 (x0 : TDep) (x1 : List TRel) (y0 : Bool) : Prop := GivesS prog 142 [⟨h30, .z, x0⟩, ⟨.ptr h20, .z, x1⟩] [⟨.bool, .z, y0⟩] [⟨h30, .z, x0⟩, ⟨.ptr h20, .z, x1⟩]
/-- impl.IsValidDependency -/
def G_iIsValidDependency (x0 : List TRel) (x1 : TDep) (y0 : Bool) : Prop := GivesS prog 143 [⟨h20, .z, x0⟩, ⟨h30, .z, x1⟩] [⟨.bool, .z, y0⟩] [⟨h20, .z, x0⟩, ⟨h30, .z, x1⟩]
/-- slices.ContainsFunc[[]impl.Atom,impl.Atom] -/
def G_slices_ContainsFunc_Atom_c_iIsValidDependency_1 (x0 : List TFact) (x1 : List TRel × Unit) (y0 : Bool) : Prop := GivesS prog 188 [⟨h28, .z, x0⟩, ⟨.fn 189 h49, .z, x1⟩] [⟨.bool, .z, y0⟩] [⟨h28, .z, x0⟩, ⟨.fn 189 h49, .z, x1⟩]
/-- slices.IndexFunc[[]impl.Atom,impl.Atom] -/
def G_slices_IndexFunc_Atom_c_iIsValidDependency_1 (x0 : List TFact) (x1 : List TRel × Unit) (y0 : Int) : Prop := GivesS prog 214 [⟨h28, .z, x0⟩, ⟨.fn 189 h49, .z, x1⟩] [⟨.int .i64, .z, y0⟩] [⟨h28, .z, x0⟩, ⟨.fn 189 h49, .z, x1⟩]
/-- impl.IsValidDependency$1 -/
def G_iIsValidDependency_1 (x0 : TFact) (x1 : List TRel) (y0 : Bool) : Prop := GivesS prog 189 [⟨h11, .z, x0⟩, ⟨.ptr h20, .z, x1⟩] [⟨.bool, .z, y0⟩] [⟨h11, .z, x0⟩, ⟨.ptr h20, .z, x1⟩]
/-- impl.IsValidSkolemState -/
def G_iIsValidSkolemState (x0 : TSk) (y0 : Bool) : Prop := GivesS prog 70 [⟨h27, .z, x0⟩] [⟨.bool, .z, y0⟩] [⟨h27, .z, x0⟩]
/-- impl.areTerms -/
def G_iareTerms (x0 : List TTerm) (y0 : Bool) : Prop := GivesS prog 122 [⟨h25, .z, x0⟩] [⟨.bool, .z, y0⟩] [⟨h25, .z, x0⟩]
/-- slices.ContainsFunc[[]int,int] -/
def G_slices_ContainsFunc_int_c_iareTerms_1 (x0 : List Int) (x1 : Unit) (y0 : Bool) : Prop := GivesS prog 147 [⟨.sl 3 (.int .i64), .z, x0⟩, ⟨.fn 169 .unit, .z, x1⟩] [⟨.bool, .z, y0⟩] [⟨.sl 3 (.int .i64), .z, x0⟩, ⟨.fn 169 .unit, .z, x1⟩]
/-- slices.IndexFunc[[]int,int] -/
def G_slices_IndexFunc_int_c_iareTerms_1 (x0 : List Int) (x1 : Unit) (y0 : Int) : Prop := GivesS prog 190 [⟨.sl 3 (.int .i64), .z, x0⟩, ⟨.fn 169 .unit, .z, x1⟩] [⟨.int .i64, .z, y0⟩] [⟨.sl 3 (.int .i64), .z, x0⟩, ⟨.fn 169 .unit, .z, x1⟩]
/-- impl.areTerms$1 -/
def G_iareTerms_1 (x0 : Int) (y0 : Bool) : Prop := GivesS prog 169 [⟨.int .i64, .z, x0⟩] [⟨.bool, .z, y0⟩] [⟨.int .i64, .z, x0⟩]
/-- impl.depths -/
def G_idepths (x0 : List TTerm) (y0 : List Int) : Prop := GivesS prog 168 [⟨h25, .z, x0⟩] [⟨.sl 3 (.int .i64), .own .z, y0⟩] [⟨h25, .z, x0⟩]
/-- impl.isTermOf -/
def G_iisTermOf (x0 : TTerm) (x1 : Int) (y0 : Bool) : Prop := GivesS prog 166 [⟨h24, .z, x0⟩, ⟨.int .i64, .z, x1⟩] [⟨.bool, .z, y0⟩] [⟨h24, .z, x0⟩, ⟨.int .i64, .z, x1⟩]
/-- slices.ContainsFunc[[]int,int] -/
def G_slices_ContainsFunc_int_c_iisTermOf_1 (x0 : List Int) (x1 : Int × Unit) (y0 : Bool) : Prop := GivesS prog 147 [⟨.sl 3 (.int .i64), .z, x0⟩, ⟨.fn 195 h50, .z, x1⟩] [⟨.bool, .z, y0⟩] [⟨.sl 3 (.int .i64), .z, x0⟩, ⟨.fn 195 h50, .z, x1⟩]
/-- slices.IndexFunc[[]int,int] -/
def G_slices_IndexFunc_int_c_iisTermOf_1 (x0 : List Int) (x1 : Int × Unit) (y0 : Int) : Prop := GivesS prog 190 [⟨.sl 3 (.int .i64), .z, x0⟩, ⟨.fn 195 h50, .z, x1⟩] [⟨.int .i64, .z, y0⟩] [⟨.sl 3 (.int .i64), .z, x0⟩, ⟨.fn 195 h50, .z, x1⟩]
/-- impl.isTermOf$1 -/
def G_iisTermOf_1 (x0 : Int) (x1 : Int) (y0 : Bool) : Prop := GivesS prog 195 [⟨.int .i64, .z, x0⟩, ⟨.ptr (.int .i64), .z, x1⟩] [⟨.bool, .z, y0⟩] [⟨.int .i64, .z, x0⟩, ⟨.ptr (.int .i64), .z, x1⟩]
/-- impl.NextNull -/
def G_iNextNull (x0 : TInst) (y0 : Int) : Prop := GivesS prog 121 [⟨h23, .z, x0⟩] [⟨.int .i64, .z, y0⟩] [⟨h23, .z, x0⟩]
/-- impl.NullsOfInstance -/
def G_iNullsOfInstance (x0 : TInst) (y0 : List Int) : Prop := GivesS prog 165 [⟨h23, .z, x0⟩] [⟨.sl 3 (.int .i64), .own .z, y0⟩] [⟨h23, .z, x0⟩]
/-- slices.IndexFunc[[]impl.Fact,impl.Fact] -/
def G_slices_IndexFunc_Fact_c_iDerivationLevel_1 (x0 : List TFact) (x1 : TFact × Unit) (y0 : Int) : Prop := GivesS prog 79 [⟨h21, .z, x0⟩, ⟨.fn 80 h46, .z, x1⟩] [⟨.int .i64, .z, y0⟩] [⟨h21, .z, x0⟩, ⟨.fn 80 h46, .z, x1⟩]
/-- impl.DerivationLevel$1 -/
def G_iDerivationLevel_1 (x0 : TFact) (x1 : TFact) (y0 : Bool) : Prop := GivesS prog 80 [⟨h11, .z, x0⟩, ⟨.ptr h11, .z, x1⟩] [⟨.bool, .z, y0⟩] [⟨h11, .z, x0⟩, ⟨.ptr h11, .z, x1⟩]
/-- spec.DerivationLevel -/
def G_sDerivationLevel (x0 : TSk) (x1 : List TDep) (x2 : TFact) (y0 : Int) : Prop := GivesS prog 30 [⟨h27, .z, x0⟩, ⟨h31, .z, x1⟩, ⟨h11, .z, x2⟩] [⟨.int .i64, .z, y0⟩] [⟨h27, .z, x0⟩, ⟨h31, .z, x1⟩, ⟨h11, .z, x2⟩]
/-- spec.l5Place -/
def G_sl5Place (x0 : TInst) (x1 : TFact) (y0 : Int) : Prop := GivesS prog 77 [⟨h23, .z, x0⟩, ⟨h11, .z, x1⟩] [⟨.int .i64, .z, y0⟩] [⟨h23, .z, x0⟩, ⟨h11, .z, x1⟩]
/-- spec.CompareFacts -/
def G_sCompareFacts (x0 : TFact) (x1 : TFact) (y0 : Int) : Prop := GivesS prog 128 [⟨h11, .z, x0⟩, ⟨h11, .z, x1⟩] [⟨.int .i64, .z, y0⟩] [⟨h11, .z, x0⟩, ⟨h11, .z, x1⟩]
/-- spec.l4Ints -/
def G_sl4Ints (x0 : List Int) (x1 : List Int) (y0 : Int) : Prop := GivesS prog 114 [⟨.sl 3 (.int .i64), .z, x0⟩, ⟨.sl 3 (.int .i64), .z, x1⟩] [⟨.int .i64, .z, y0⟩] [⟨.sl 3 (.int .i64), .z, x0⟩, ⟨.sl 3 (.int .i64), .z, x1⟩]
/-- spec.l24Levels -/
def G_sl24Levels (x0 : TSk) (x1 : List TDep) (y0 : List Int) : Prop := GivesS prog 76 [⟨h27, .z, x0⟩, ⟨h31, .z, x1⟩] [⟨.sl 3 (.int .i64), .own .z, y0⟩] [⟨h27, .z, x0⟩, ⟨h31, .z, x1⟩]
/-- spec.l24Known -/
def G_sl24Known (x0 : TSk) (x1 : List TDep) (x2 : TFact) (x3 : List Int) (y0 : Bool) : Prop := GivesS prog 127 [⟨h27, .z, x0⟩, ⟨h31, .z, x1⟩, ⟨h11, .z, x2⟩, ⟨.sl 3 (.int .i64), .z, x3⟩] [⟨.bool, .z, y0⟩] [⟨h27, .z, x0⟩, ⟨h31, .z, x1⟩, ⟨h11, .z, x2⟩, ⟨.sl 3 (.int .i64), .z, x3⟩]
/-- spec.Instantiate -/
def G_sInstantiate (x0 : TFact) (x1 : List Int) (y0 : TFact) (y1 : Bool) : Prop := GivesS prog 172 [⟨h11, .z, x0⟩, ⟨.sl 3 (.int .i64), .z, x1⟩] [⟨h11, .pr .z (.pr (.own .z) .z), y0⟩, ⟨.bool, .z, y1⟩] [⟨h11, .z, x0⟩, ⟨.sl 3 (.int .i64), .z, x1⟩]
/-- spec.IsValidValue -/
def G_sIsValidValue (x0 : Int) (y0 : Bool) : Prop := GivesS prog 88 [⟨.int .i64, .z, x0⟩] [⟨.bool, .z, y0⟩] [⟨.int .i64, .z, x0⟩]
/-- spec.l1In -/
def G_sl1In (x0 : Int) (x1 : Int) (x2 : Int) (y0 : Bool) : Prop := GivesS prog 87 [⟨.int .i64, .z, x0⟩, ⟨.int .i64, .z, x1⟩, ⟨.int .i64, .z, x2⟩] [⟨.bool, .z, y0⟩] [⟨.int .i64, .z, x0⟩, ⟨.int .i64, .z, x1⟩, ⟨.int .i64, .z, x2⟩]
/-- spec.NullNumber -/
def G_sNullNumber (x0 : Int) (y0 : Int) (y1 : Bool) : Prop := GivesS prog 89 [⟨.int .i64, .z, x0⟩] [⟨.int .i64, .z, y0⟩, ⟨.bool, .z, y1⟩] [⟨.int .i64, .z, x0⟩]
/-- spec.Derivations -/
def G_sDerivations (x0 : TSk) (x1 : List TDep) (x2 : TFact) (y0 : List TFact) : Prop := GivesS prog 126 [⟨h27, .z, x0⟩, ⟨h31, .z, x1⟩, ⟨h11, .z, x2⟩] [⟨h42, .own .z, y0⟩] [⟨h27, .z, x0⟩, ⟨h31, .z, x1⟩, ⟨h11, .z, x2⟩]
/-- spec.l24Makes -/
def G_sl24Makes (x0 : TSk) (x1 : List TDep) (x2 : Int) (x3 : List Int) (x4 : TFact) (y0 : Bool) : Prop := GivesS prog 171 [⟨h27, .z, x0⟩, ⟨h31, .z, x1⟩, ⟨.int .i64, .z, x2⟩, ⟨.sl 3 (.int .i64), .z, x3⟩, ⟨h11, .z, x4⟩] [⟨.bool, .z, y0⟩] [⟨h27, .z, x0⟩, ⟨h31, .z, x1⟩, ⟨.int .i64, .z, x2⟩, ⟨.sl 3 (.int .i64), .z, x3⟩, ⟨h11, .z, x4⟩]
/-- spec.l23Term -/
def G_sl23Term (x0 : TSk) (x1 : TTerm) (y0 : TSk) (y1 : Int) (y2 : Bool) : Prop := GivesS prog 202 [⟨h27, .z, x0⟩, ⟨h24, .z, x1⟩] [⟨h27, .z, y0⟩, ⟨.int .i64, .z, y1⟩, ⟨.bool, .z, y2⟩] [⟨h27, .z, x0⟩, ⟨h24, .z, x1⟩]
/-- spec.NullValue -/
def G_sNullValue (x0 : Int) (y0 : Int) : Prop := GivesS prog 228 [⟨.int .i64, .z, x0⟩] [⟨.int .i64, .z, y0⟩] [⟨.int .i64, .z, x0⟩]
/-- spec.l23Deep -/
def G_sl23Deep (x0 : TSk) (x1 : TTerm) (y0 : Int) : Prop := GivesS prog 229 [⟨h27, .z, x0⟩, ⟨h24, .z, x1⟩] [⟨.int .i64, .z, y0⟩] [⟨h27, .z, x0⟩, ⟨h24, .z, x1⟩]
/-- spec.ExistentialVariables -/
def G_sExistentialVariables (x0 : TDep) (y0 : List Int) : Prop := GivesS prog 157 [⟨h30, .z, x0⟩] [⟨.sl 3 (.int .i64), .own .z, y0⟩] [⟨h30, .z, x0⟩]
/-- spec.l4Has -/
def G_sl4Has (x0 : List Int) (x1 : Int) (y0 : Bool) : Prop := GivesS prog 184 [⟨.sl 3 (.int .i64), .z, x0⟩, ⟨.int .i64, .z, x1⟩] [⟨.bool, .z, y0⟩] [⟨.sl 3 (.int .i64), .z, x0⟩, ⟨.int .i64, .z, x1⟩]
/-- spec.Variables -/
def G_sVariables (x0 : List TFact) (y0 : List Int) : Prop := GivesS prog 183 [⟨h28, .z, x0⟩] [⟨.sl 3 (.int .i64), .z, y0⟩] [⟨h28, .z, x0⟩]
/-- spec.l4Put -/
def G_sl4Put (x0 : List Int) (x1 : Int) (y0 : List Int) : Prop := GivesS prog 90 [⟨.sl 3 (.int .i64), .z, x0⟩, ⟨.int .i64, .z, x1⟩] [⟨.sl 3 (.int .i64), .z, y0⟩] [⟨.sl 3 (.int .i64), .z, x0⟩, ⟨.int .i64, .z, x1⟩]
/-- spec.FrontierVariables -/
def G_sFrontierVariables (x0 : TDep) (y0 : List Int) : Prop := GivesS prog 156 [⟨h30, .z, x0⟩] [⟨.sl 3 (.int .i64), .own .z, y0⟩] [⟨h30, .z, x0⟩]
/-- spec.FindMatches -/
def G_sFindMatches (x0 : TInst) (x1 : List TFact) (y0 : List (List Int)) : Prop := GivesS prog 170 [⟨h23, .z, x0⟩, ⟨h28, .z, x1⟩] [⟨.sl 62 (.sl 3 (.int .i64)), .own .z, y0⟩] [⟨h23, .z, x0⟩, ⟨h28, .z, x1⟩]
/-- spec.l11Walk -/
def G_sl11Walk (x0 : TInst) (x1 : List TFact) (x2 : Int) (x3 : List Int) (y0 : List (List Int)) : Prop := GivesS prog 200 [⟨h23, .z, x0⟩, ⟨h28, .z, x1⟩, ⟨.int .i64, .z, x2⟩, ⟨.sl 3 (.int .i64), .z, x3⟩] [⟨.sl 62 (.sl 3 (.int .i64)), .own (.own .z), y0⟩] [⟨h23, .z, x0⟩, ⟨h28, .z, x1⟩, ⟨.int .i64, .z, x2⟩, ⟨.sl 3 (.int .i64), .z, x3⟩]
/-- spec.l11Fit -/
def G_sl11Fit (x0 : TFact) (x1 : TFact) (x2 : List Int) (y0 : List Int) (y1 : Bool) : Prop := GivesS prog 226 [⟨h11, .z, x0⟩, ⟨h11, .z, x1⟩, ⟨.sl 3 (.int .i64), .z, x2⟩] [⟨.sl 3 (.int .i64), .own .z, y0⟩, ⟨.bool, .z, y1⟩] [⟨h11, .z, x0⟩, ⟨h11, .z, x1⟩, ⟨.sl 3 (.int .i64), .z, x2⟩]
/-- spec.l11None -/
def G_sl11None  (y0 : Int) : Prop := GivesS prog 227 [] [⟨.int .i64, .z, y0⟩] []
/-- spec.l11Blank -/
def G_sl11Blank  (y0 : List Int) : Prop := GivesS prog 201 [] [⟨.sl 3 (.int .i64), .own .z, y0⟩] []
/-- spec.l11Ok -/
def G_sl11Ok (x0 : TInst) (x1 : List TFact) (y0 : Bool) : Prop := GivesS prog 199 [⟨h23, .z, x0⟩, ⟨h28, .z, x1⟩] [⟨.bool, .z, y0⟩] [⟨h23, .z, x0⟩, ⟨h28, .z, x1⟩]
/-- spec.IsValidInstance -/
def G_sIsValidInstance (x0 : TInst) (y0 : Bool) : Prop := GivesS prog 116 [⟨h23, .z, x0⟩] [⟨.bool, .z, y0⟩] [⟨h23, .z, x0⟩]
/-- spec.AreValidRelations -/
def G_sAreValidRelations (x0 : List TRel) (y0 : Bool) : Prop := GivesS prog 86 [⟨h20, .z, x0⟩] [⟨.bool, .z, y0⟩] [⟨h20, .z, x0⟩]
/-- spec.IsValidRelation -/
def G_sIsValidRelation (x0 : TRel) (y0 : Bool) : Prop := GivesS prog 137 [⟨h8, .z, x0⟩] [⟨.bool, .z, y0⟩] [⟨h8, .z, x0⟩]
/-- spec.NullsOfFact -/
def G_sNullsOfFact (x0 : TFact) (y0 : List Int) : Prop := GivesS prog 39 [⟨h11, .z, x0⟩] [⟨.sl 3 (.int .i64), .z, y0⟩] [⟨h11, .z, x0⟩]
/-- spec.IsValidFact -/
def G_sIsValidFact (x0 : List TRel) (x1 : TFact) (y0 : Bool) : Prop := GivesS prog 38 [⟨h20, .z, x0⟩, ⟨h11, .z, x1⟩] [⟨.bool, .z, y0⟩] [⟨h20, .z, x0⟩, ⟨h11, .z, x1⟩]
/-- spec.IsValidAtom -/
def G_sIsValidAtom (x0 : List TRel) (x1 : TFact) (y0 : Bool) : Prop := GivesS prog 182 [⟨h20, .z, x0⟩, ⟨h11, .z, x1⟩] [⟨.bool, .z, y0⟩] [⟨h20, .z, x0⟩, ⟨h11, .z, x1⟩]
/-- spec.ContainsFact -/
def G_sContainsFact (x0 : TInst) (x1 : TFact) (y0 : Bool) : Prop := GivesS prog 75 [⟨h23, .z, x0⟩, ⟨h11, .z, x1⟩] [⟨.bool, .z, y0⟩] [⟨h23, .z, x0⟩, ⟨h11, .z, x1⟩]
/-- spec.l23Plain -/
def G_sl23Plain (x0 : List TRel) (x1 : List TDep) (y0 : Bool) : Prop := GivesS prog 40 [⟨h20, .z, x0⟩, ⟨h31, .z, x1⟩] [⟨.bool, .z, y0⟩] [⟨h20, .z, x0⟩, ⟨h31, .z, x1⟩]
/-- spec.AreValidDependencies -/
def G_sAreValidDependencies (x0 : List TRel) (x1 : List TDep) (y0 : Bool) : Prop := GivesS prog 91 [⟨h20, .z, x0⟩, ⟨h31, .z, x1⟩] [⟨.bool, .z, y0⟩] [⟨h20, .z, x0⟩, ⟨h31, .z, x1⟩]
/-- spec.IsValidDependency -/
def G_sIsValidDependency (x0 : List TRel) (x1 : TDep) (y0 : Bool) : Prop := GivesS prog 138 [⟨h20, .z, x0⟩, ⟨h30, .z, x1⟩] [⟨.bool, .z, y0⟩] [⟨h20, .z, x0⟩, ⟨h30, .z, x1⟩]
/-- spec.IsValidSkolemState -/
def G_sIsValidSkolemState (x0 : TSk) (y0 : Bool) : Prop := GivesS prog 66 [⟨h27, .z, x0⟩] [⟨.bool, .z, y0⟩] [⟨h27, .z, x0⟩]
/-- spec.NullsOfInstance -/
def G_sNullsOfInstance (x0 : TInst) (y0 : List Int) : Prop := GivesS prog 115 [⟨h23, .z, x0⟩] [⟨.sl 3 (.int .i64), .z, y0⟩] [⟨h23, .z, x0⟩]
/-- laws.szFact -/
def G_lszFact (x0 : TFact) (x1 : Int) (y0 : Int) : Prop := GivesS prog 29 [⟨h11, .z, x0⟩, ⟨.int .i64, .z, x1⟩] [⟨.int .i64, .z, y0⟩] [⟨h11, .z, x0⟩, ⟨.int .i64, .z, x1⟩]
/-- laws.szIntS -/
def G_lszIntS (x0 : List Int) (x1 : Int) (y0 : Int) : Prop := GivesS prog 74 [⟨.sl 3 (.int .i64), .z, x0⟩, ⟨.int .i64, .z, x1⟩] [⟨.int .i64, .z, y0⟩] [⟨.sl 3 (.int .i64), .z, x0⟩, ⟨.int .i64, .z, x1⟩]
/-- laws.szDependencyS -/
def G_lszDependencyS (x0 : List TDep) (x1 : Int) (y0 : Int) : Prop := GivesS prog 8 [⟨h18, .z, x0⟩, ⟨.int .i64, .z, x1⟩] [⟨.int .i64, .z, y0⟩] [⟨h18, .z, x0⟩, ⟨.int .i64, .z, x1⟩]
/-- laws.szDependency -/
def G_lszDependency (x0 : TDep) (x1 : Int) (y0 : Int) : Prop := GivesS prog 37 [⟨h17, .z, x0⟩, ⟨.int .i64, .z, x1⟩] [⟨.int .i64, .z, y0⟩] [⟨h17, .z, x0⟩, ⟨.int .i64, .z, x1⟩]
/-- laws.szAtomS -/
def G_lszAtomS (x0 : List TFact) (x1 : Int) (y0 : Int) : Prop := GivesS prog 85 [⟨h12, .z, x0⟩, ⟨.int .i64, .z, x1⟩] [⟨.int .i64, .z, y0⟩] [⟨h12, .z, x0⟩, ⟨.int .i64, .z, x1⟩]
/-- laws.szAtom -/
def G_lszAtom (x0 : TFact) (x1 : Int) (y0 : Int) : Prop := GivesS prog 136 [⟨h11, .z, x0⟩, ⟨.int .i64, .z, x1⟩] [⟨.int .i64, .z, y0⟩] [⟨h11, .z, x0⟩, ⟨.int .i64, .z, x1⟩]
/-- laws.szSkolemState -/
def G_lszSkolemState (x0 : TSk) (x1 : Int) (y0 : Int) : Prop := GivesS prog 24 [⟨h39, .z, x0⟩, ⟨.int .i64, .z, x1⟩] [⟨.int .i64, .z, y0⟩] [⟨h39, .z, x0⟩, ⟨.int .i64, .z, x1⟩]
/-- laws.szSkolemTermS -/
def G_lszSkolemTermS (x0 : List TTerm) (x1 : Int) (y0 : Int) : Prop := GivesS prog 63 [⟨h37, .z, x0⟩, ⟨.int .i64, .z, x1⟩] [⟨.int .i64, .z, y0⟩] [⟨h37, .z, x0⟩, ⟨.int .i64, .z, x1⟩]
/-- laws.szSkolemTerm -/
def G_lszSkolemTerm (x0 : TTerm) (x1 : Int) (y0 : Int) : Prop := GivesS prog 109 [⟨h24, .z, x0⟩, ⟨.int .i64, .z, x1⟩] [⟨.int .i64, .z, y0⟩] [⟨h24, .z, x0⟩, ⟨.int .i64, .z, x1⟩]
/-- laws.szInstance -/
def G_lszInstance (x0 : TInst) (x1 : Int) (y0 : Int) : Prop := GivesS prog 62 [⟨h36, .z, x0⟩, ⟨.int .i64, .z, x1⟩] [⟨.int .i64, .z, y0⟩] [⟨h36, .z, x0⟩, ⟨.int .i64, .z, x1⟩]
/-- laws.szFactS -/
def G_lszFactS (x0 : List TFact) (x1 : Int) (y0 : Int) : Prop := GivesS prog 9 [⟨h19, .z, x0⟩, ⟨.int .i64, .z, x1⟩] [⟨.int .i64, .z, y0⟩] [⟨h19, .z, x0⟩, ⟨.int .i64, .z, x1⟩]
/-- laws.szRelationS -/
def G_lszRelationS (x0 : List TRel) (x1 : Int) (y0 : Int) : Prop := GivesS prog 7 [⟨h9, .z, x0⟩, ⟨.int .i64, .z, x1⟩] [⟨.int .i64, .z, y0⟩] [⟨h9, .z, x0⟩, ⟨.int .i64, .z, x1⟩]
/-- laws.szRelation -/
def G_lszRelation (x0 : TRel) (x1 : Int) (y0 : Int) : Prop := GivesS prog 36 [⟨h8, .z, x0⟩, ⟨.int .i64, .z, x1⟩] [⟨.int .i64, .z, y0⟩] [⟨h8, .z, x0⟩, ⟨.int .i64, .z, x1⟩]
end Go.V
