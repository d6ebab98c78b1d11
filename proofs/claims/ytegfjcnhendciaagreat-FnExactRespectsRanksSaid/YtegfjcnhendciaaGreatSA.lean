/-
  The functions that are reached: types, signatures, what a call of each gives.
-/
import Derived.Test.YtegfjcnhendciaaGreatVE
import Derived.Test.YtegfjcnhendciaaGreatProg
import Derived.KernelRfl
set_option linter.unusedVariables false
set_option linter.unusedSimpArgs false
set_option maxRecDepth 1000000
set_option maxHeartbeats 4000000
set_option linter.unusedVariables false
namespace Go.V
open Go Go.Proofs
abbrev h0 : Sh := .pair (.int .u8) .unit
abbrev h1 : Sh := .pair .bool h0
abbrev h2 : Sh := .pair (.int .i64) h1
abbrev h3 : Sh := .pair (.int .i64) h2
abbrev h4 : Sh := .pair (.int .u64) .unit
abbrev h5 : Sh := .pair .str h4
abbrev h6 : Sh := .pair .bool .unit
abbrev h7 : Sh := .pair (.int .i64) h6
abbrev h8 : Sh := .pair .str h7
abbrev h9 : Sh := .sl 73 h8
abbrev h10 : Sh := .pair (.sl 3 (.int .i64)) .unit
abbrev h11 : Sh := .pair (.int .i64) h10
abbrev h12 : Sh := .sl 161 h11
abbrev h13 : Sh := .pair (.int .i64) .unit
abbrev h14 : Sh := .pair (.int .i64) h13
abbrev h15 : Sh := .pair .bool h14
abbrev h16 : Sh := .pair h12 h15
abbrev h17 : Sh := .pair h12 h16
abbrev h18 : Sh := .sl 77 h17
abbrev h19 : Sh := .sl 64 h11
abbrev h20 : Sh := .sl 79 h8
abbrev h21 : Sh := .sl 67 h11
abbrev h22 : Sh := .pair h21 .unit
abbrev h23 : Sh := .pair h20 h22
abbrev h24 : Sh := .pair (.int .i64) h11
abbrev h25 : Sh := .sl 142 h24
abbrev h26 : Sh := .pair h25 .unit
abbrev h27 : Sh := .pair h23 h26
abbrev h28 : Sh := .sl 127 h11
abbrev h29 : Sh := .pair h28 h15
abbrev h30 : Sh := .pair h28 h29
abbrev h31 : Sh := .sl 84 h30
abbrev h32 : Sh := .pair h21 h14
abbrev h33 : Sh := .pair h31 h32
abbrev h34 : Sh := .pair h27 h33
abbrev h35 : Sh := .pair h19 .unit
abbrev h36 : Sh := .pair h9 h35
abbrev h37 : Sh := .sl 137 h24
abbrev h38 : Sh := .pair h37 .unit
abbrev h39 : Sh := .pair h36 h38
abbrev h40 : Sh := .pair (.int .i64) h7
abbrev h41 : Sh := .sl 123 h40
abbrev h42 : Sh := .sl 155 h11
abbrev h43 : Sh := .pair (.ptr h24) .unit
abbrev h44 : Sh := .pair (.ptr (.int .i64)) .unit
abbrev h45 : Sh := .pair (.ptr h20) .unit
noncomputable abbrev prog : Program := Tryz.prog
def shTab : List (Nat × Sh) := [(2, .int .i64), (3, .int .i64), (4, .bool), (5, .int .u8), (6, .int .u8), (9, .str), (10, .str), (11, .str), (12, .int .u64), (21, .int .i32), (22, h9), (23, h18), (24, h19), (28, h20), (29, h21), (30, h23), (31, h23), (32, h25), (33, h27), (34, h27), (35, h31), (36, h34), (37, h34), (52, h36), (53, h36), (54, h37), (55, h39), (56, h39), (62, .sl 3 (.int .i64)), (63, h11), (64, h11), (67, h11), (72, h8), (73, h8), (75, h12), (76, h17), (77, h17), (79, h8), (82, h28), (83, h30), (84, h30), (122, h40), (123, h40), (126, h11), (127, h11), (132, .sl 5 (.int .u8)), (136, h24), (137, h24), (139, h41), (142, h24), (150, .sl 151 h42), (151, h42), (154, h11), (155, h11), (161, h11), (179, .sl 62 (.sl 3 (.int .i64))), (193, .sl 4 .bool), (200, .int .u64), (217, .int .i64), (225, .int .u32), (227, .int .u64), (234, .int .u64), (238, .ptr (.int .i64)), (243, .ptr (.int .u64)), (256, .int .u8), (257, .int .u8), (259, .ptr (.int .u8)), (260, .int .i32), (261, .int .i32)]
def sigTab : List (Nat × List Sig) := [(4, [⟨[.z, .z], [(.bool, .z)], [.z, .z]⟩]), (7, [⟨[.z, .z], [(.int .i64, .z)], [.z, .z]⟩]), (8, [⟨[.z, .z], [(.int .i64, .z)], [.z, .z]⟩]), (9, [⟨[.z, .z], [(.int .i64, .z)], [.z, .z]⟩]), (11, [⟨[.z], [(h20, .own .z)], [.z]⟩]), (12, [⟨[.z], [(h31, .own (.pr (.own (.pr .z (.pr (.own .z) .z))) (.pr (.own (.pr .z (.pr (.own .z) .z))) .z)))], [.z]⟩]), (13, [⟨[.z], [(h21, .own (.pr .z (.pr (.own .z) .z)))], [.z]⟩]), (16, [⟨[.z, .z], [(.bool, .z)], [.z, .z]⟩]), (17, [⟨[.z, .z], [(.bool, .z)], [.z, .z]⟩]), (18, [⟨[.z, .z], [(.bool, .z)], [.z, .z]⟩]), (24, [⟨[.z, .z], [(.int .i64, .z)], [.z, .z]⟩]), (25, [⟨[.z, .z], [(.bool, .z)], [.z, .z]⟩]), (26, [⟨[.z], [(h27, .pr (.pr (.own .z) (.pr (.own (.pr .z (.pr (.own .z) .z))) .z)) (.pr (.own (.pr .z (.pr .z (.pr (.own .z) .z)))) .z))], [.z]⟩]), (27, [⟨[.z, .z], [(.bool, .z)], [.z, .z]⟩]), (28, [⟨[.z, .z], [(.bool, .z)], [.z, .z]⟩]), (29, [⟨[.z, .z], [(.int .i64, .z)], [.z, .z]⟩]), (31, [⟨[.z], [(h11, .pr .z (.pr (.own .z) .z))], [.z]⟩]), (33, [⟨[.z, .z], [(.bool, .z)], [.z, .z]⟩]), (36, [⟨[.z, .z], [(.int .i64, .z)], [.z, .z]⟩]), (37, [⟨[.z, .z], [(.int .i64, .z)], [.z, .z]⟩]), (38, [⟨[.z, .z], [(.bool, .z)], [.z, .z]⟩]), (39, [⟨[.z], [(.sl 3 (.int .i64), .z)], [.z]⟩]), (41, [⟨[.z, .z], [(.bool, .z)], [.z, .z]⟩]), (44, [⟨[.z], [(h8, .z)], [.z]⟩]), (45, [⟨[.z], [(h30, .pr (.own (.pr .z (.pr (.own .z) .z))) (.pr (.own (.pr .z (.pr (.own .z) .z))) .z))], [.z]⟩]), (47, [⟨[.z, .z], [(.bool, .z)], [.z, .z]⟩]), (49, [⟨[.z], [(.sl 3 (.int .i64), .own .z)], [.z]⟩]), (53, [⟨[.z, .z], [(.bool, .z)], [.z, .z]⟩]), (54, [⟨[.z, .z], [(.bool, .z)], [.z, .z]⟩]), (62, [⟨[.z, .z], [(.int .i64, .z)], [.z, .z]⟩]), (63, [⟨[.z, .z], [(.int .i64, .z)], [.z, .z]⟩]), (64, [⟨[.z, .z], [(.sl 3 (.int .i64), .own .z), (.bool, .z)], [.z, .z]⟩]), (65, [⟨[.z, .z], [(.int .i64, .z)], [.z, .z]⟩]), (66, [⟨[.z], [(.bool, .z)], [.z]⟩]), (67, [⟨[.z], [(h23, .pr (.own .z) (.pr (.own (.pr .z (.pr (.own .z) .z))) .z))], [.z]⟩]), (68, [⟨[.z], [(h25, .own (.pr .z (.pr .z (.pr (.own .z) .z))))], [.z]⟩]), (69, [⟨[.z, .z], [(.sl 3 (.int .i64), .own .z), (.bool, .z)], [.z, .z]⟩]), (70, [⟨[.z], [(.bool, .z)], [.z]⟩]), (71, [⟨[.z, .z], [(.int .i64, .z)], [.z, .z]⟩]), (72, [⟨[.z, .z], [(.bool, .z)], [.z, .z]⟩]), (73, [⟨[.z, .z], [(.bool, .z)], [.z, .z]⟩]), (74, [⟨[.z, .z], [(.int .i64, .z)], [.z, .z]⟩]), (78, [⟨[.z], [(.sl 3 (.int .i64), .own .z)], [.z]⟩]), (83, [⟨[.z, .z], [(.bool, .z)], [.z, .z]⟩]), (84, [⟨[.z, .z], [(.bool, .z)], [.z, .z]⟩]), (85, [⟨[.z, .z], [(.int .i64, .z)], [.z, .z]⟩]), (86, [⟨[.z], [(.bool, .z)], [.z]⟩]), (87, [⟨[.z, .z, .z], [(.bool, .z)], [.z, .z, .z]⟩]), (88, [⟨[.z], [(.bool, .z)], [.z]⟩]), (89, [⟨[.z], [(.int .i64, .z), (.bool, .z)], [.z]⟩]), (90, [⟨[.z, .z], [(.sl 3 (.int .i64), .z)], [.z, .z]⟩]), (91, [⟨[.z, .z], [(.bool, .z)], [.z, .z]⟩]), (92, [⟨[.z, .z], [(h40, .z), (.bool, .z)], [.z, .z]⟩]), (93, [⟨[.z], [(h28, .own (.pr .z (.pr (.own .z) .z)))], [.z]⟩]), (94, [⟨[.z, .z], [(.bool, .z)], [.z, .z]⟩]), (95, [⟨[.z, .z], [(.bool, .z)], [.z, .z]⟩]), (97, [⟨[.z, .z], [(h40, .z), (.bool, .z)], [.z, .z]⟩]), (98, [⟨[.z, .z], [(.bool, .z)], [.z, .z]⟩]), (99, [⟨[.z], [(.sl 3 (.int .i64), .own .z)], [.z]⟩]), (102, [⟨[.z, .z], [(.bool, .z)], [.z, .z]⟩]), (109, [⟨[.z, .z], [(.int .i64, .z)], [.z, .z]⟩]), (110, [⟨[.z], [(.int .i64, .z)], [.z]⟩]), (111, [⟨[.z, .z], [(h41, .own .z)], [.z, .z]⟩]), (112, [⟨[.z, .z, .z], [(.int .i64, .z)], [.z, .z, .z]⟩]), (113, [⟨[.z, .z], [(.int .i64, .z)], [.z, .z]⟩]), (114, [⟨[.z, .z], [(.int .i64, .z)], [.z, .z]⟩]), (115, [⟨[.z], [(.sl 3 (.int .i64), .z)], [.z]⟩]), (116, [⟨[.z], [(.bool, .z)], [.z]⟩]), (117, [⟨[.z], [(h24, .pr .z (.pr .z (.pr (.own .z) .z)))], [.z]⟩]), (118, [⟨[.z], [(.int .i64, .z)], [.z]⟩]), (119, [⟨[.z, .z], [(h41, .own .z)], [.z, .z]⟩]), (120, [⟨[.z], [(.bool, .z)], [.z]⟩]), (121, [⟨[.z], [(.int .i64, .z)], [.z]⟩]), (122, [⟨[.z], [(.bool, .z)], [.z]⟩]), (123, [⟨[.z, .z, .z], [(.int .i64, .z)], [.z, .z, .z]⟩]), (124, [⟨[.z, .z], [(.int .i64, .z)], [.z, .z]⟩]), (125, [⟨[.z, .z], [(.bool, .z)], [.z, .z]⟩]), (128, [⟨[.z, .z], [(.int .i64, .z)], [.z, .z]⟩]), (129, [⟨[.z, .z], [(.int .i64, .z)], [.z, .z]⟩]), (135, [⟨[.z, .z], [(.int .i64, .z)], [.z, .z]⟩]), (136, [⟨[.z, .z], [(.int .i64, .z)], [.z, .z]⟩]), (137, [⟨[.z], [(.bool, .z)], [.z]⟩]), (138, [⟨[.z, .z], [(.bool, .z)], [.z, .z]⟩]), (139, [⟨[.z, .z, .z, .z], [(.bool, .z)], [.z, .z, .z, .z]⟩]), (140, [⟨[.z], [(h11, .pr .z (.pr (.own .z) .z))], [.z]⟩]), (141, [⟨[.z], [(.bool, .z)], [.z]⟩]), (142, [⟨[.z, .z], [(.bool, .z)], [.z, .z]⟩]), (143, [⟨[.z, .z], [(.bool, .z)], [.z, .z]⟩]), (144, [⟨[.z, .z], [(.int .i64, .z)], [.z, .z]⟩]), (145, [⟨[.z, .z, .z, .z], [(.bool, .z)], [.z, .z, .z, .z]⟩]), (146, [⟨[.z, .z, .z], [(.bool, .z)], [.z, .z, .z]⟩]), (147, [⟨[.z, .z], [(.bool, .z)], [.z, .z]⟩]), (148, [⟨[.z], [(.bool, .z)], [.z]⟩]), (149, [⟨[.z], [(.bool, .z)], [.z]⟩]), (150, [⟨[.z], [(.int .i64, .z), (.bool, .z)], [.z]⟩]), (151, [⟨[.own .z], [], [.own .z]⟩]), (152, [⟨[.own .z], [(.sl 3 (.int .i64), .own .z)], [.dead]⟩]), (154, [⟨[.z, .z], [(.bool, .z)], [.z, .z]⟩]), (156, [⟨[.z], [(.sl 3 (.int .i64), .own .z)], [.z]⟩]), (157, [⟨[.z], [(.sl 3 (.int .i64), .own .z)], [.z]⟩]), (158, [⟨[.z, .z, .z], [(.sl 3 (.int .i64), .own .z)], [.z, .z, .z]⟩]), (159, [⟨[.own .z, .z], [(h41, .own .z)], [.dead, .z]⟩]), (160, [⟨[.z, .z, .z, .z, .z, .own (.own .z)], [], [.z, .z, .z, .z, .z, .own (.own .z)]⟩]), (161, [⟨[.z, .z, .z], [(.sl 3 (.int .i64), .own .z)], [.z, .z, .z]⟩]), (162, [⟨[.z, .z], [(.bool, .z)], [.z, .z]⟩]), (163, [⟨[.z], [(.sl 3 (.int .i64), .own .z)], [.z]⟩]), (164, [⟨[.z], [(.sl 3 (.int .i64), .own .z)], [.z]⟩]), (165, [⟨[.z], [(.sl 3 (.int .i64), .own .z)], [.z]⟩]), (166, [⟨[.z, .z], [(.bool, .z)], [.z, .z]⟩]), (167, [⟨[.z, .z], [(.int .i64, .z)], [.z, .z]⟩]), (168, [⟨[.z], [(.sl 3 (.int .i64), .own .z)], [.z]⟩]), (169, [⟨[.z], [(.bool, .z)], [.z]⟩]), (173, [⟨[.z], [(.int .i64, .z)], [.z]⟩]), (174, [⟨[.z, .z], [(.int .i64, .z)], [.z, .z]⟩]), (175, [⟨[.z, .z], [(.int .i64, .z)], [.z, .z]⟩]), (182, [⟨[.z, .z], [(.bool, .z)], [.z, .z]⟩]), (183, [⟨[.z], [(.sl 3 (.int .i64), .z)], [.z]⟩]), (184, [⟨[.z, .z], [(.bool, .z)], [.z, .z]⟩]), (185, [⟨[.z], [(.bool, .z)], [.z]⟩]), (186, [⟨[.z, .z, .z], [(.bool, .z)], [.z, .z, .z]⟩]), (187, [⟨[.z], [(.sl 3 (.int .i64), .own .z)], [.z]⟩]), (188, [⟨[.z, .z], [(.bool, .z)], [.z, .z]⟩]), (189, [⟨[.z, .z], [(.bool, .z)], [.z, .z]⟩]), (190, [⟨[.z, .z], [(.int .i64, .z)], [.z, .z]⟩]), (193, [⟨[.z, .z], [(.int .i64, .z)], [.z, .z]⟩]), (194, [⟨[.z, .z], [(.sl 3 (.int .i64), .own .z)], [.z, .z]⟩]), (195, [⟨[.z, .z], [(.bool, .z)], [.z, .z]⟩]), (196, [⟨[.z, .z], [(.int .i64, .z)], [.z, .z]⟩]), (197, [⟨[.z, .z], [(.bool, .z)], [.z, .z]⟩]), (198, [⟨[.z, .z], [(.bool, .z)], [.z, .z]⟩]), (203, [⟨[.z], [(.bool, .z)], [.z]⟩]), (212, [⟨[.z, .z], [(.bool, .z)], [.z, .z]⟩]), (213, [⟨[.z, .z], [(.bool, .z)], [.z, .z]⟩]), (214, [⟨[.z, .z], [(.int .i64, .z)], [.z, .z]⟩]), (234, [⟨[.z], [(.bool, .z)], [.z]⟩])]
def parTab : List (Nat × List (Option Sh)) := [(4, [some (h39), some (h18)]), (7, [some (h9), some (.int .i64)]), (8, [some (h18), some (.int .i64)]), (9, [some (h19), some (.int .i64)]), (11, [some (h9)]), (12, [some (h18)]), (13, [some (h19)]), (16, [some (h20), some (h20)]), (17, [some (h31), some (h31)]), (18, [some (h21), some (h21)]), (24, [some (h39), some (.int .i64)]), (25, [some (h27), some (h31)]), (26, [some (h39)]), (27, [some (h27), some (h31)]), (28, [some (h27), some (h27)]), (29, [some (h11), some (.int .i64)]), (31, [some (h11)]), (33, [some (h11), some (h11)]), (36, [some (h8), some (.int .i64)]), (37, [some (h17), some (.int .i64)]), (38, [some (h20), some (h11)]), (39, [some (h11)]), (41, [some (h20), some (h31)]), (44, [some (h8)]), (45, [some (h17)]), (47, [some (h20), some (h31)]), (49, [some (h11)]), (53, [some (h8), some (h8)]), (54, [some (h30), some (h30)]), (62, [some (h36), some (.int .i64)]), (63, [some (h37), some (.int .i64)]), (64, [some (h20), some (h31)]), (65, [some (h27), some (.int .i64)]), (66, [some (h27)]), (67, [some (h36)]), (68, [some (h37)]), (69, [some (h20), some (h31)]), (70, [some (h27)]), (71, [some (h27), some (.int .i64)]), (72, [some (h23), some (h23)]), (73, [some (h25), some (h25)]), (74, [some (.sl 3 (.int .i64)), some (.int .i64)]), (78, [some (.sl 3 (.int .i64))]), (83, [some (.sl 3 (.int .i64)), some (.sl 3 (.int .i64))]), (84, [some (.sl 3 (.int .i64)), some (.int .i64)]), (85, [some (h12), some (.int .i64)]), (86, [some (h20)]), (87, [some (.int .i64), some (.int .i64), some (.int .i64)]), (88, [some (.int .i64)]), (89, [some (.int .i64)]), (90, [some (.sl 3 (.int .i64)), some (.int .i64)]), (91, [some (h20), some (h31)]), (92, [some (h20), some (h31)]), (93, [some (h12)]), (94, [some (h20), some (h31)]), (95, [some (h31), none]), (97, [some (h20), some (h31)]), (98, [some (h20), some (h11)]), (99, [some (.sl 3 (.int .i64))]), (102, [some (h28), some (h28)]), (109, [some (h24), some (.int .i64)]), (110, [some (h20)]), (111, [some (h20), some (h31)]), (112, [some (h20), some (.int .i64), some (.int .i64)]), (113, [some (h27), some (.int .i64)]), (114, [some (.sl 3 (.int .i64)), some (.sl 3 (.int .i64))]), (115, [some (h23)]), (116, [some (h23)]), (117, [some (h24)]), (118, [some (h20)]), (119, [some (h20), some (h31)]), (120, [some (h23)]), (121, [some (h23)]), (122, [some (h25)]), (123, [some (h20), some (.int .i64), some (.int .i64)]), (124, [some (h27), some (.int .i64)]), (125, [some (h24), some (h24)]), (128, [some (h11), some (h11)]), (129, [some (h11), some (h11)]), (135, [some (.sl 3 (.int .i64)), some (.int .i64)]), (136, [some (h11), some (.int .i64)]), (137, [some (h8)]), (138, [some (h20), some (h30)]), (139, [some (.int .i64), some (h41), some (.int .i64), some (.int .i64)]), (140, [some (h11)]), (141, [some (h20)]), (142, [some (h30)]), (143, [some (h20), some (h30)]), (144, [some (h31), none]), (145, [some (.int .i64), some (h41), some (.int .i64), some (.int .i64)]), (146, [some (.int .i64), some (.int .i64), some (.int .i64)]), (147, [some (.sl 3 (.int .i64)), none]), (148, [some (.int .i64)]), (149, [some (.int .i64)]), (150, [some (.int .i64)]), (151, [some (.sl 3 (.int .i64))]), (152, [some (.sl 3 (.int .i64))]), (154, [some (h11), some (h11)]), (156, [some (h30)]), (157, [some (h30)]), (158, [some (h20), some (h28), some (.int .i64)]), (159, [some (h41), some (h40)]), (160, [some (.int .i64), some (h28), some (.int .i64), some (.bool)]), (161, [some (h20), some (h28), some (.int .i64)]), (162, [some (h41), some (h40)]), (163, [some (h30)]), (164, [some (h30)]), (165, [some (h23)]), (166, [some (h24), some (.int .i64)]), (167, [some (h25), some (h24)]), (168, [some (h25)]), (169, [some (.int .i64)]), (173, [some (.sl 3 (.int .i64))]), (174, [some (.int .i64), some (.int .i64)]), (175, [some (.sl 3 (.int .i64)), some (.sl 3 (.int .i64))]), (182, [some (h20), some (h11)]), (183, [some (h28)]), (184, [some (.sl 3 (.int .i64)), some (.int .i64)]), (185, [some (h8)]), (186, [some (h20), some (h28), some (.int .i64)]), (187, [some (h28)]), (188, [some (h28), none]), (189, [some (h11)]), (190, [some (.sl 3 (.int .i64)), none]), (193, [some (h41), some (h40)]), (194, [some (h30), some (.bool)]), (195, [some (.int .i64)]), (196, [some (h25), none]), (197, [some (h24)]), (198, [some (.sl 3 (.int .i64)), some (.sl 3 (.int .i64))]), (203, [some (.int .i64)]), (212, [some (h11)]), (213, [some (h20), some (h11)]), (214, [some (h28), none]), (234, [some (.int .i64)])]
noncomputable def E : Env := { sh := fun t => look t shTab, sigs := fun f => (look f sigTab).getD [], params := fun f => (look f parTab).getD [], gives := GivesS prog }
theorem types_ok : ∀ t s, E.sh t = some s → ShOk prog s none t := tab_ok (by kernel_rfl)
theorem mixed : prog.follows .mixedOrders = true := by kernel_rfl
/-- laws.FnExactRespectsRanks -/
def G_lFnExactRespectsRanks (x0 : TSk) (x1 : List TDep) (y0 : Bool) : Prop := GivesS prog 4 [⟨h39, .z, x0⟩, ⟨h18, .z, x1⟩] [⟨.bool, .z, y0⟩] [⟨h39, .z, x0⟩, ⟨h18, .z, x1⟩]
/-- laws.eqDependencyS -/
def G_leqDependencyS (x0 : List TDep) (x1 : List TDep) (y0 : Bool) : Prop := GivesS prog 17 [⟨h31, .z, x0⟩, ⟨h31, .z, x1⟩] [⟨.bool, .z, y0⟩] [⟨h31, .z, x0⟩, ⟨h31, .z, x1⟩]
/-- laws.eqDependency -/
def G_leqDependency (x0 : TDep) (x1 : TDep) (y0 : Bool) : Prop := GivesS prog 54 [⟨h30, .z, x0⟩, ⟨h30, .z, x1⟩] [⟨.bool, .z, y0⟩] [⟨h30, .z, x0⟩, ⟨h30, .z, x1⟩]
/-- laws.eqAtomS -/
def G_leqAtomS (x0 : List TFact) (x1 : List TFact) (y0 : Bool) : Prop := GivesS prog 102 [⟨h28, .z, x0⟩, ⟨h28, .z, x1⟩] [⟨.bool, .z, y0⟩] [⟨h28, .z, x0⟩, ⟨h28, .z, x1⟩]
/-- laws.eqAtom -/
def G_leqAtom (x0 : TFact) (x1 : TFact) (y0 : Bool) : Prop := GivesS prog 154 [⟨h11, .z, x0⟩, ⟨h11, .z, x1⟩] [⟨.bool, .z, y0⟩] [⟨h11, .z, x0⟩, ⟨h11, .z, x1⟩]
/-- laws.eqIntS -/
def G_leqIntS (x0 : List Int) (x1 : List Int) (y0 : Bool) : Prop := GivesS prog 83 [⟨.sl 3 (.int .i64), .z, x0⟩, ⟨.sl 3 (.int .i64), .z, x1⟩] [⟨.bool, .z, y0⟩] [⟨.sl 3 (.int .i64), .z, x0⟩, ⟨.sl 3 (.int .i64), .z, x1⟩]
/-- laws.toDependencyS -/
def G_ltoDependencyS (x0 : List TDep) (y0 : List TDep) : Prop := GivesS prog 12 [⟨h18, .z, x0⟩] [⟨h31, .own (.pr (.own (.pr .z (.pr (.own .z) .z))) (.pr (.own (.pr .z (.pr (.own .z) .z))) .z)), y0⟩] [⟨h18, .z, x0⟩]
/-- laws.toDependency -/
def G_ltoDependency (x0 : TDep) (y0 : TDep) : Prop := GivesS prog 45 [⟨h17, .z, x0⟩] [⟨h30, .pr (.own (.pr .z (.pr (.own .z) .z))) (.pr (.own (.pr .z (.pr (.own .z) .z))) .z), y0⟩] [⟨h17, .z, x0⟩]
/-- laws.toAtomS -/
def G_ltoAtomS (x0 : List TFact) (y0 : List TFact) : Prop := GivesS prog 93 [⟨h12, .z, x0⟩] [⟨h28, .own (.pr .z (.pr (.own .z) .z)), y0⟩] [⟨h12, .z, x0⟩]
/-- laws.toAtom -/
def G_ltoAtom (x0 : TFact) (y0 : TFact) : Prop := GivesS prog 140 [⟨h11, .z, x0⟩] [⟨h11, .pr .z (.pr (.own .z) .z), y0⟩] [⟨h11, .z, x0⟩]
/-- laws.toIntS -/
def G_ltoIntS (x0 : List Int) (y0 : List Int) : Prop := GivesS prog 78 [⟨.sl 3 (.int .i64), .z, x0⟩] [⟨.sl 3 (.int .i64), .own .z, y0⟩] [⟨.sl 3 (.int .i64), .z, x0⟩]
/-- laws.eqSkolemState -/
def G_leqSkolemState (x0 : TSk) (x1 : TSk) (y0 : Bool) : Prop := GivesS prog 28 [⟨h27, .z, x0⟩, ⟨h27, .z, x1⟩] [⟨.bool, .z, y0⟩] [⟨h27, .z, x0⟩, ⟨h27, .z, x1⟩]
/-- laws.eqSkolemTermS -/
def G_leqSkolemTermS (x0 : List TTerm) (x1 : List TTerm) (y0 : Bool) : Prop := GivesS prog 73 [⟨h25, .z, x0⟩, ⟨h25, .z, x1⟩] [⟨.bool, .z, y0⟩] [⟨h25, .z, x0⟩, ⟨h25, .z, x1⟩]
/-- laws.eqSkolemTerm -/
def G_leqSkolemTerm (x0 : TTerm) (x1 : TTerm) (y0 : Bool) : Prop := GivesS prog 125 [⟨h24, .z, x0⟩, ⟨h24, .z, x1⟩] [⟨.bool, .z, y0⟩] [⟨h24, .z, x0⟩, ⟨h24, .z, x1⟩]
/-- laws.eqInstance -/
def G_leqInstance (x0 : TInst) (x1 : TInst) (y0 : Bool) : Prop := GivesS prog 72 [⟨h23, .z, x0⟩, ⟨h23, .z, x1⟩] [⟨.bool, .z, y0⟩] [⟨h23, .z, x0⟩, ⟨h23, .z, x1⟩]
/-- laws.eqFactS -/
def G_leqFactS (x0 : List TFact) (x1 : List TFact) (y0 : Bool) : Prop := GivesS prog 18 [⟨h21, .z, x0⟩, ⟨h21, .z, x1⟩] [⟨.bool, .z, y0⟩] [⟨h21, .z, x0⟩, ⟨h21, .z, x1⟩]
/-- laws.eqFact -/
def G_leqFact (x0 : TFact) (x1 : TFact) (y0 : Bool) : Prop := GivesS prog 33 [⟨h11, .z, x0⟩, ⟨h11, .z, x1⟩] [⟨.bool, .z, y0⟩] [⟨h11, .z, x0⟩, ⟨h11, .z, x1⟩]
/-- laws.eqRelationS -/
def G_leqRelationS (x0 : List TRel) (x1 : List TRel) (y0 : Bool) : Prop := GivesS prog 16 [⟨h20, .z, x0⟩, ⟨h20, .z, x1⟩] [⟨.bool, .z, y0⟩] [⟨h20, .z, x0⟩, ⟨h20, .z, x1⟩]
/-- laws.eqRelation -/
def G_leqRelation (x0 : TRel) (x1 : TRel) (y0 : Bool) : Prop := GivesS prog 53 [⟨h8, .z, x0⟩, ⟨h8, .z, x1⟩] [⟨.bool, .z, y0⟩] [⟨h8, .z, x0⟩, ⟨h8, .z, x1⟩]
/-- laws.toSkolemState -/
def G_ltoSkolemState (x0 : TSk) (y0 : TSk) : Prop := GivesS prog 26 [⟨h39, .z, x0⟩] [⟨h27, .pr (.pr (.own .z) (.pr (.own (.pr .z (.pr (.own .z) .z))) .z)) (.pr (.own (.pr .z (.pr .z (.pr (.own .z) .z)))) .z), y0⟩] [⟨h39, .z, x0⟩]
/-- laws.toSkolemTermS -/
def G_ltoSkolemTermS (x0 : List TTerm) (y0 : List TTerm) : Prop := GivesS prog 68 [⟨h37, .z, x0⟩] [⟨h25, .own (.pr .z (.pr .z (.pr (.own .z) .z))), y0⟩] [⟨h37, .z, x0⟩]
/-- laws.toSkolemTerm -/
def G_ltoSkolemTerm (x0 : TTerm) (y0 : TTerm) : Prop := GivesS prog 117 [⟨h24, .z, x0⟩] [⟨h24, .pr .z (.pr .z (.pr (.own .z) .z)), y0⟩] [⟨h24, .z, x0⟩]
/-- laws.toInstance -/
def G_ltoInstance (x0 : TInst) (y0 : TInst) : Prop := GivesS prog 67 [⟨h36, .z, x0⟩] [⟨h23, .pr (.own .z) (.pr (.own (.pr .z (.pr (.own .z) .z))) .z), y0⟩] [⟨h36, .z, x0⟩]
/-- laws.toFactS -/
def G_ltoFactS (x0 : List TFact) (y0 : List TFact) : Prop := GivesS prog 13 [⟨h19, .z, x0⟩] [⟨h21, .own (.pr .z (.pr (.own .z) .z)), y0⟩] [⟨h19, .z, x0⟩]
/-- laws.toFact -/
def G_ltoFact (x0 : TFact) (y0 : TFact) : Prop := GivesS prog 31 [⟨h11, .z, x0⟩] [⟨h11, .pr .z (.pr (.own .z) .z), y0⟩] [⟨h11, .z, x0⟩]
/-- laws.toRelationS -/
def G_ltoRelationS (x0 : List TRel) (y0 : List TRel) : Prop := GivesS prog 11 [⟨h9, .z, x0⟩] [⟨h20, .own .z, y0⟩] [⟨h9, .z, x0⟩]
/-- laws.toRelation -/
def G_ltoRelation (x0 : TRel) (y0 : TRel) : Prop := GivesS prog 44 [⟨h8, .z, x0⟩] [⟨h8, .z, y0⟩] [⟨h8, .z, x0⟩]
/-- impl.RespectsRanks -/
def G_iRespectsRanks (x0 : TSk) (x1 : List TDep) (y0 : Bool) : Prop := GivesS prog 27 [⟨h27, .z, x0⟩, ⟨h31, .z, x1⟩] [⟨.bool, .z, y0⟩] [⟨h27, .z, x0⟩, ⟨h31, .z, x1⟩]
/-- impl.MaxDepthAt -/
def G_iMaxDepthAt (x0 : TSk) (x1 : Int) (y0 : Int) : Prop := GivesS prog 71 [⟨h27, .z, x0⟩, ⟨.int .i64, .z, x1⟩] [⟨.int .i64, .z, y0⟩] [⟨h27, .z, x0⟩, ⟨.int .i64, .z, x1⟩]
/-- impl.nesting -/
def G_inesting (x0 : TSk) (x1 : Int) (y0 : Int) : Prop := GivesS prog 124 [⟨h27, .z, x0⟩, ⟨.int .i64, .z, x1⟩] [⟨.int .i64, .z, y0⟩] [⟨h27, .z, x0⟩, ⟨.int .i64, .z, x1⟩]
/-- impl.NullNumber -/
def G_iNullNumber (x0 : Int) (y0 : Int) (y1 : Bool) : Prop := GivesS prog 150 [⟨.int .i64, .z, x0⟩] [⟨.int .i64, .z, y0⟩, ⟨.bool, .z, y1⟩] [⟨.int .i64, .z, x0⟩]
/-- impl.within -/
def G_iwithin (x0 : Int) (x1 : Int) (x2 : Int) (y0 : Bool) : Prop := GivesS prog 146 [⟨.int .i64, .z, x0⟩, ⟨.int .i64, .z, x1⟩, ⟨.int .i64, .z, x2⟩] [⟨.bool, .z, y0⟩] [⟨.int .i64, .z, x0⟩, ⟨.int .i64, .z, x1⟩, ⟨.int .i64, .z, x2⟩]
/-- impl.PositionIndex -/
def G_iPositionIndex (x0 : List TRel) (x1 : Int) (x2 : Int) (y0 : Int) : Prop := GivesS prog 123 [⟨h20, .z, x0⟩, ⟨.int .i64, .z, x1⟩, ⟨.int .i64, .z, x2⟩] [⟨.int .i64, .z, y0⟩] [⟨h20, .z, x0⟩, ⟨.int .i64, .z, x1⟩, ⟨.int .i64, .z, x2⟩]
/-- impl.AreValidRelations -/
def G_iAreValidRelations (x0 : List TRel) (y0 : Bool) : Prop := GivesS prog 141 [⟨h20, .z, x0⟩] [⟨.bool, .z, y0⟩] [⟨h20, .z, x0⟩]
/-- impl.IsValidRelation -/
def G_iIsValidRelation (x0 : TRel) (y0 : Bool) : Prop := GivesS prog 185 [⟨h8, .z, x0⟩] [⟨.bool, .z, y0⟩] [⟨h8, .z, x0⟩]
/-- impl.IsValidSkolemState -/
def G_iIsValidSkolemState (x0 : TSk) (y0 : Bool) : Prop := GivesS prog 70 [⟨h27, .z, x0⟩] [⟨.bool, .z, y0⟩] [⟨h27, .z, x0⟩]
/-- impl.areTerms -/
def G_iareTerms (x0 : List TTerm) (y0 : Bool) : Prop := GivesS prog 122 [⟨h25, .z, x0⟩] [⟨.bool, .z, y0⟩] [⟨h25, .z, x0⟩]
/-- slices.ContainsFunc[[]int,int] -/
def G_slices_ContainsFunc_int_c_iareTerms_1 (x0 : List Int) (x1 : Unit) (y0 : Bool) : Prop := GivesS prog 147 [⟨.sl 3 (.int .i64), .z, x0⟩, ⟨.fn 169 .unit, .z, x1⟩] [⟨.bool, .z, y0⟩] [⟨.sl 3 (.int .i64), .z, x0⟩, ⟨.fn 169 .unit, .z, x1⟩]
/-- slices.IndexFunc[[]int,int] -/
def G_slices_IndexFunc_int_c_iareTerms_1 (x0 : List Int) (x1 : Unit) (y0 : Int) : Prop := GivesS prog 190 [⟨.sl 3 (.int .i64), .z, x0⟩, ⟨.fn 169 .unit, .z, x1⟩] [⟨.int .i64, .z, y0⟩] [⟨.sl 3 (.int .i64), .z, x0⟩, ⟨.fn 169 .unit, .z, x1⟩]
/-- impl.areTerms$1 -/
def G_iareTerms_1 (x0 : Int) (y0 : Bool) : Prop := GivesS prog 169 [⟨.int .i64, .z, x0⟩] [⟨.bool, .z, y0⟩] [⟨.int .i64, .z, x0⟩]
/-- impl.depths -/
def G_idepths (x0 : List TTerm) (y0 : List Int) : Prop := GivesS prog 168 [⟨h25, .z, x0⟩] [⟨.sl 3 (.int .i64), .own .z, y0⟩] [⟨h25, .z, x0⟩]
/-- impl.nullsOf -/
def G_inullsOf (x0 : List Int) (y0 : List Int) : Prop := GivesS prog 99 [⟨.sl 3 (.int .i64), .z, x0⟩] [⟨.sl 3 (.int .i64), .own .z, y0⟩] [⟨.sl 3 (.int .i64), .z, x0⟩]
/-- slices.Compact[[]int,int] -/
def G_slices_Compact_int_ooz (x0 : List Int) (y0 : List Int) : Prop := GivesS prog 152 [⟨.sl 3 (.int .i64), .own .z, x0⟩] [⟨.sl 3 (.int .i64), .own .z, y0⟩] [⟨.sl 3 (.int .i64), .dead, x0⟩]
/-- slices.Sort[[]int,int] -/
def G_slices_Sort_int_ooz (x0 : List Int) (z0 : List Int) : Prop := GivesS prog 151 [⟨.sl 3 (.int .i64), .own .z, x0⟩] [] [⟨.sl 3 (.int .i64), .own .z, z0⟩]
/-- impl.termAt -/
def G_itermAt (x0 : List TTerm) (x1 : TTerm) (y0 : Int) : Prop := GivesS prog 167 [⟨h25, .z, x0⟩, ⟨h24, .z, x1⟩] [⟨.int .i64, .z, y0⟩] [⟨h25, .z, x0⟩, ⟨h24, .z, x1⟩]
/-- slices.IndexFunc[[]impl.SkolemTerm,impl.SkolemTerm] -/
def G_slices_IndexFunc_SkolemTerm_c_itermAt_1 (x0 : List TTerm) (x1 : TTerm × Unit) (y0 : Int) : Prop := GivesS prog 196 [⟨h25, .z, x0⟩, ⟨.fn 197 h43, .z, x1⟩] [⟨.int .i64, .z, y0⟩] [⟨h25, .z, x0⟩, ⟨.fn 197 h43, .z, x1⟩]
/-- impl.termAt$1 -/
def G_itermAt_1 (x0 : TTerm) (x1 : TTerm) (y0 : Bool) : Prop := GivesS prog 197 [⟨h24, .z, x0⟩, ⟨.ptr h24, .z, x1⟩] [⟨.bool, .z, y0⟩] [⟨h24, .z, x0⟩, ⟨.ptr h24, .z, x1⟩]
/-- slices.Equal[[]int,int] -/
def G_slices_Equal_int (x0 : List Int) (x1 : List Int) (y0 : Bool) : Prop := GivesS prog 198 [⟨.sl 3 (.int .i64), .z, x0⟩, ⟨.sl 3 (.int .i64), .z, x1⟩] [⟨.bool, .z, y0⟩] [⟨.sl 3 (.int .i64), .z, x0⟩, ⟨.sl 3 (.int .i64), .z, x1⟩]
/-- impl.isTermOf -/
def G_iisTermOf (x0 : TTerm) (x1 : Int) (y0 : Bool) : Prop := GivesS prog 166 [⟨h24, .z, x0⟩, ⟨.int .i64, .z, x1⟩] [⟨.bool, .z, y0⟩] [⟨h24, .z, x0⟩, ⟨.int .i64, .z, x1⟩]
/-- slices.ContainsFunc[[]int,int] -/
def G_slices_ContainsFunc_int_c_iisTermOf_1 (x0 : List Int) (x1 : Int × Unit) (y0 : Bool) : Prop := GivesS prog 147 [⟨.sl 3 (.int .i64), .z, x0⟩, ⟨.fn 195 h44, .z, x1⟩] [⟨.bool, .z, y0⟩] [⟨.sl 3 (.int .i64), .z, x0⟩, ⟨.fn 195 h44, .z, x1⟩]
/-- slices.IndexFunc[[]int,int] -/
def G_slices_IndexFunc_int_c_iisTermOf_1 (x0 : List Int) (x1 : Int × Unit) (y0 : Int) : Prop := GivesS prog 190 [⟨.sl 3 (.int .i64), .z, x0⟩, ⟨.fn 195 h44, .z, x1⟩] [⟨.int .i64, .z, y0⟩] [⟨.sl 3 (.int .i64), .z, x0⟩, ⟨.fn 195 h44, .z, x1⟩]
/-- impl.isTermOf$1 -/
def G_iisTermOf_1 (x0 : Int) (x1 : Int) (y0 : Bool) : Prop := GivesS prog 195 [⟨.int .i64, .z, x0⟩, ⟨.ptr (.int .i64), .z, x1⟩] [⟨.bool, .z, y0⟩] [⟨.int .i64, .z, x0⟩, ⟨.ptr (.int .i64), .z, x1⟩]
/-- impl.IsValidValue -/
def G_iIsValidValue (x0 : Int) (y0 : Bool) : Prop := GivesS prog 149 [⟨.int .i64, .z, x0⟩] [⟨.bool, .z, y0⟩] [⟨.int .i64, .z, x0⟩]
/-- impl.NextNull -/
def G_iNextNull (x0 : TInst) (y0 : Int) : Prop := GivesS prog 121 [⟨h23, .z, x0⟩] [⟨.int .i64, .z, y0⟩] [⟨h23, .z, x0⟩]
/-- impl.NullsOfInstance -/
def G_iNullsOfInstance (x0 : TInst) (y0 : List Int) : Prop := GivesS prog 165 [⟨h23, .z, x0⟩] [⟨.sl 3 (.int .i64), .own .z, y0⟩] [⟨h23, .z, x0⟩]
/-- impl.IsValidInstance -/
def G_iIsValidInstance (x0 : TInst) (y0 : Bool) : Prop := GivesS prog 120 [⟨h23, .z, x0⟩] [⟨.bool, .z, y0⟩] [⟨h23, .z, x0⟩]
/-- impl.NullsOfFact -/
def G_iNullsOfFact (x0 : TFact) (y0 : List Int) : Prop := GivesS prog 49 [⟨h11, .z, x0⟩] [⟨.sl 3 (.int .i64), .own .z, y0⟩] [⟨h11, .z, x0⟩]
/-- impl.CompareFacts -/
def G_iCompareFacts (x0 : TFact) (x1 : TFact) (y0 : Int) : Prop := GivesS prog 129 [⟨h11, .z, x0⟩, ⟨h11, .z, x1⟩] [⟨.int .i64, .z, y0⟩] [⟨h11, .z, x0⟩, ⟨h11, .z, x1⟩]
/-- cmp.Or[int] -/
def G_cmp_Or_int (x0 : List Int) (y0 : Int) : Prop := GivesS prog 173 [⟨.sl 3 (.int .i64), .z, x0⟩] [⟨.int .i64, .z, y0⟩] [⟨.sl 3 (.int .i64), .z, x0⟩]
/-- slices.Compare[[]int,int] -/
def G_slices_Compare_int (x0 : List Int) (x1 : List Int) (y0 : Int) : Prop := GivesS prog 175 [⟨.sl 3 (.int .i64), .z, x0⟩, ⟨.sl 3 (.int .i64), .z, x1⟩] [⟨.int .i64, .z, y0⟩] [⟨.sl 3 (.int .i64), .z, x0⟩, ⟨.sl 3 (.int .i64), .z, x1⟩]
/-- cmp.Compare[int] -/
def G_cmp_Compare_int (x0 : Int) (x1 : Int) (y0 : Int) : Prop := GivesS prog 174 [⟨.int .i64, .z, x0⟩, ⟨.int .i64, .z, x1⟩] [⟨.int .i64, .z, y0⟩] [⟨.int .i64, .z, x0⟩, ⟨.int .i64, .z, x1⟩]
/-- cmp.isNaN[int] -/
def G_cmp_isNaN_int (x0 : Int) (y0 : Bool) : Prop := GivesS prog 203 [⟨.int .i64, .z, x0⟩] [⟨.bool, .z, y0⟩] [⟨.int .i64, .z, x0⟩]
/-- impl.IsValidFact -/
def G_iIsValidFact (x0 : List TRel) (x1 : TFact) (y0 : Bool) : Prop := GivesS prog 98 [⟨h20, .z, x0⟩, ⟨h11, .z, x1⟩] [⟨.bool, .z, y0⟩] [⟨h20, .z, x0⟩, ⟨h11, .z, x1⟩]
/-- slices.ContainsFunc[[]int,int] -/
def G_slices_ContainsFunc_int_c_iIsValidFact_1 (x0 : List Int) (x1 : Unit) (y0 : Bool) : Prop := GivesS prog 147 [⟨.sl 3 (.int .i64), .z, x0⟩, ⟨.fn 148 .unit, .z, x1⟩] [⟨.bool, .z, y0⟩] [⟨.sl 3 (.int .i64), .z, x0⟩, ⟨.fn 148 .unit, .z, x1⟩]
/-- slices.IndexFunc[[]int,int] -/
def G_slices_IndexFunc_int_c_iIsValidFact_1 (x0 : List Int) (x1 : Unit) (y0 : Int) : Prop := GivesS prog 190 [⟨.sl 3 (.int .i64), .z, x0⟩, ⟨.fn 148 .unit, .z, x1⟩] [⟨.int .i64, .z, y0⟩] [⟨.sl 3 (.int .i64), .z, x0⟩, ⟨.fn 148 .unit, .z, x1⟩]
/-- impl.IsValidFact$1 -/
def G_iIsValidFact_1 (x0 : Int) (y0 : Bool) : Prop := GivesS prog 148 [⟨.int .i64, .z, x0⟩] [⟨.bool, .z, y0⟩] [⟨.int .i64, .z, x0⟩]
/-- impl.PositionRanks -/
def G_iPositionRanks (x0 : List TRel) (x1 : List TDep) (y0 : List Int) (y1 : Bool) : Prop := GivesS prog 69 [⟨h20, .z, x0⟩, ⟨h31, .z, x1⟩] [⟨.sl 3 (.int .i64), .own .z, y0⟩, ⟨.bool, .z, y1⟩] [⟨h20, .z, x0⟩, ⟨h31, .z, x1⟩]
/-- impl.PositionGraph -/
def G_iPositionGraph (x0 : List TRel) (x1 : List TDep) (y0 : List TEdge) : Prop := GivesS prog 119 [⟨h20, .z, x0⟩, ⟨h31, .z, x1⟩] [⟨h41, .own .z, y0⟩] [⟨h20, .z, x0⟩, ⟨h31, .z, x1⟩]
/-- impl.PositionGraph$1 -/
def G_iPositionGraph_1_pooz (x0 : Int) (x1 : List TFact) (x2 : Int) (x3 : Bool) (x4 : List TRel) (x5 : List TEdge) (z5 : List TEdge) : Prop := GivesS prog 160 [⟨.int .i64, .z, x0⟩, ⟨h28, .z, x1⟩, ⟨.int .i64, .z, x2⟩, ⟨.bool, .z, x3⟩, ⟨.ptr h20, .z, x4⟩, ⟨.ptr h41, .own (.own .z), x5⟩] [] [⟨.int .i64, .z, x0⟩, ⟨h28, .z, x1⟩, ⟨.int .i64, .z, x2⟩, ⟨.bool, .z, x3⟩, ⟨.ptr h20, .z, x4⟩, ⟨.ptr h41, .own (.own .z), z5⟩]
/-- slices.Contains[[]impl.PositionEdge,impl.PositionEdge] -/
def G_slices_Contains_PositionEdge (x0 : List TEdge) (x1 : TEdge) (y0 : Bool) : Prop := GivesS prog 162 [⟨h41, .z, x0⟩, ⟨h40, .z, x1⟩] [⟨.bool, .z, y0⟩] [⟨h41, .z, x0⟩, ⟨h40, .z, x1⟩]
/-- slices.Index[[]impl.PositionEdge,impl.PositionEdge] -/
def G_slices_Index_PositionEdge (x0 : List TEdge) (x1 : TEdge) (y0 : Int) : Prop := GivesS prog 193 [⟨h41, .z, x0⟩, ⟨h40, .z, x1⟩] [⟨.int .i64, .z, y0⟩] [⟨h41, .z, x0⟩, ⟨h40, .z, x1⟩]
/-- impl.positionsOf -/
def G_ipositionsOf (x0 : List TRel) (x1 : List TFact) (x2 : Int) (y0 : List Int) : Prop := GivesS prog 161 [⟨h20, .z, x0⟩, ⟨h28, .z, x1⟩, ⟨.int .i64, .z, x2⟩] [⟨.sl 3 (.int .i64), .own .z, y0⟩] [⟨h20, .z, x0⟩, ⟨h28, .z, x1⟩, ⟨.int .i64, .z, x2⟩]
/-- impl.ExistentialVariables -/
def G_iExistentialVariables (x0 : TDep) (y0 : List Int) : Prop := GivesS prog 164 [⟨h30, .z, x0⟩] [⟨.sl 3 (.int .i64), .own .z, y0⟩] [⟨h30, .z, x0⟩]
/-- impl.headVariables -/
def G_iheadVariables (x0 : TDep) (x1 : Bool) (y0 : List Int) : Prop := GivesS prog 194 [⟨h30, .z, x0⟩, ⟨.bool, .z, x1⟩] [⟨.sl 3 (.int .i64), .own .z, y0⟩] [⟨h30, .z, x0⟩, ⟨.bool, .z, x1⟩]
/-- slices.Contains[[]int,int] -/
def G_slices_Contains_int (x0 : List Int) (x1 : Int) (y0 : Bool) : Prop := GivesS prog 84 [⟨.sl 3 (.int .i64), .z, x0⟩, ⟨.int .i64, .z, x1⟩] [⟨.bool, .z, y0⟩] [⟨.sl 3 (.int .i64), .z, x0⟩, ⟨.int .i64, .z, x1⟩]
/-- slices.Index[[]int,int] -/
def G_slices_Index_int (x0 : List Int) (x1 : Int) (y0 : Int) : Prop := GivesS prog 135 [⟨.sl 3 (.int .i64), .z, x0⟩, ⟨.int .i64, .z, x1⟩] [⟨.int .i64, .z, y0⟩] [⟨.sl 3 (.int .i64), .z, x0⟩, ⟨.int .i64, .z, x1⟩]
/-- impl.Variables -/
def G_iVariables (x0 : List TFact) (y0 : List Int) : Prop := GivesS prog 187 [⟨h28, .z, x0⟩] [⟨.sl 3 (.int .i64), .own .z, y0⟩] [⟨h28, .z, x0⟩]
/-- impl.FrontierVariables -/
def G_iFrontierVariables (x0 : TDep) (y0 : List Int) : Prop := GivesS prog 163 [⟨h30, .z, x0⟩] [⟨.sl 3 (.int .i64), .own .z, y0⟩] [⟨h30, .z, x0⟩]
/-- impl.AreValidDependencies -/
def G_iAreValidDependencies (x0 : List TRel) (x1 : List TDep) (y0 : Bool) : Prop := GivesS prog 94 [⟨h20, .z, x0⟩, ⟨h31, .z, x1⟩] [⟨.bool, .z, y0⟩] [⟨h20, .z, x0⟩, ⟨h31, .z, x1⟩]
/-- slices.ContainsFunc[[]impl.Dependency,impl.Dependency] -/
def G_slices_ContainsFunc_Dependency_c_iAreValidDependencies_1 (x0 : List TDep) (x1 : List TRel × Unit) (y0 : Bool) : Prop := GivesS prog 95 [⟨h31, .z, x0⟩, ⟨.fn 142 h45, .z, x1⟩] [⟨.bool, .z, y0⟩] [⟨h31, .z, x0⟩, ⟨.fn 142 h45, .z, x1⟩]
/-- slices.IndexFunc[[]impl.Dependency,impl.Dependency] -/
def G_slices_IndexFunc_Dependency_c_iAreValidDependencies_1 (x0 : List TDep) (x1 : List TRel × Unit) (y0 : Int) : Prop := GivesS prog 144 [⟨h31, .z, x0⟩, ⟨.fn 142 h45, .z, x1⟩] [⟨.int .i64, .z, y0⟩] [⟨h31, .z, x0⟩, ⟨.fn 142 h45, .z, x1⟩]
/-- impl.AreValidDependencies$1 -/
def G_iAreValidDependencies_1 (x0 : TDep) (x1 : List TRel) (y0 : Bool) : Prop := GivesS prog 142 [⟨h30, .z, x0⟩, ⟨.ptr h20, .z, x1⟩] [⟨.bool, .z, y0⟩] [⟨h30, .z, x0⟩, ⟨.ptr h20, .z, x1⟩]
/-- impl.IsValidDependency -/
def G_iIsValidDependency (x0 : List TRel) (x1 : TDep) (y0 : Bool) : Prop := GivesS prog 143 [⟨h20, .z, x0⟩, ⟨h30, .z, x1⟩] [⟨.bool, .z, y0⟩] [⟨h20, .z, x0⟩, ⟨h30, .z, x1⟩]
/-- slices.ContainsFunc[[]impl.Atom,impl.Atom] -/
def G_slices_ContainsFunc_Atom_c_iIsValidDependency_1 (x0 : List TFact) (x1 : List TRel × Unit) (y0 : Bool) : Prop := GivesS prog 188 [⟨h28, .z, x0⟩, ⟨.fn 189 h45, .z, x1⟩] [⟨.bool, .z, y0⟩] [⟨h28, .z, x0⟩, ⟨.fn 189 h45, .z, x1⟩]
/-- slices.IndexFunc[[]impl.Atom,impl.Atom] -/
def G_slices_IndexFunc_Atom_c_iIsValidDependency_1 (x0 : List TFact) (x1 : List TRel × Unit) (y0 : Int) : Prop := GivesS prog 214 [⟨h28, .z, x0⟩, ⟨.fn 189 h45, .z, x1⟩] [⟨.int .i64, .z, y0⟩] [⟨h28, .z, x0⟩, ⟨.fn 189 h45, .z, x1⟩]
/-- impl.IsValidDependency$1 -/
def G_iIsValidDependency_1 (x0 : TFact) (x1 : List TRel) (y0 : Bool) : Prop := GivesS prog 189 [⟨h11, .z, x0⟩, ⟨.ptr h20, .z, x1⟩] [⟨.bool, .z, y0⟩] [⟨h11, .z, x0⟩, ⟨.ptr h20, .z, x1⟩]
/-- impl.areAtoms -/
def G_iareAtoms (x0 : List TRel) (x1 : List TFact) (x2 : Int) (y0 : Bool) : Prop := GivesS prog 186 [⟨h20, .z, x0⟩, ⟨h28, .z, x1⟩, ⟨.int .i64, .z, x2⟩] [⟨.bool, .z, y0⟩] [⟨h20, .z, x0⟩, ⟨h28, .z, x1⟩, ⟨.int .i64, .z, x2⟩]
/-- slices.ContainsFunc[[]impl.Atom,impl.Atom] -/
def G_slices_ContainsFunc_Atom_c_iareAtoms_1 (x0 : List TFact) (x1 : List TRel × Unit) (y0 : Bool) : Prop := GivesS prog 188 [⟨h28, .z, x0⟩, ⟨.fn 212 h45, .z, x1⟩] [⟨.bool, .z, y0⟩] [⟨h28, .z, x0⟩, ⟨.fn 212 h45, .z, x1⟩]
/-- slices.IndexFunc[[]impl.Atom,impl.Atom] -/
def G_slices_IndexFunc_Atom_c_iareAtoms_1 (x0 : List TFact) (x1 : List TRel × Unit) (y0 : Int) : Prop := GivesS prog 214 [⟨h28, .z, x0⟩, ⟨.fn 212 h45, .z, x1⟩] [⟨.int .i64, .z, y0⟩] [⟨h28, .z, x0⟩, ⟨.fn 212 h45, .z, x1⟩]
/-- impl.areAtoms$1 -/
def G_iareAtoms_1 (x0 : TFact) (x1 : List TRel) (y0 : Bool) : Prop := GivesS prog 212 [⟨h11, .z, x0⟩, ⟨.ptr h20, .z, x1⟩] [⟨.bool, .z, y0⟩] [⟨h11, .z, x0⟩, ⟨.ptr h20, .z, x1⟩]
/-- impl.IsValidAtom -/
def G_iIsValidAtom (x0 : List TRel) (x1 : TFact) (y0 : Bool) : Prop := GivesS prog 213 [⟨h20, .z, x0⟩, ⟨h11, .z, x1⟩] [⟨.bool, .z, y0⟩] [⟨h20, .z, x0⟩, ⟨h11, .z, x1⟩]
/-- slices.ContainsFunc[[]int,int] -/
def G_slices_ContainsFunc_int_c_iIsValidAtom_1 (x0 : List Int) (x1 : Unit) (y0 : Bool) : Prop := GivesS prog 147 [⟨.sl 3 (.int .i64), .z, x0⟩, ⟨.fn 234 .unit, .z, x1⟩] [⟨.bool, .z, y0⟩] [⟨.sl 3 (.int .i64), .z, x0⟩, ⟨.fn 234 .unit, .z, x1⟩]
/-- slices.IndexFunc[[]int,int] -/
def G_slices_IndexFunc_int_c_iIsValidAtom_1 (x0 : List Int) (x1 : Unit) (y0 : Int) : Prop := GivesS prog 190 [⟨.sl 3 (.int .i64), .z, x0⟩, ⟨.fn 234 .unit, .z, x1⟩] [⟨.int .i64, .z, y0⟩] [⟨.sl 3 (.int .i64), .z, x0⟩, ⟨.fn 234 .unit, .z, x1⟩]
/-- impl.IsValidAtom$1 -/
def G_iIsValidAtom_1 (x0 : Int) (y0 : Bool) : Prop := GivesS prog 234 [⟨.int .i64, .z, x0⟩] [⟨.bool, .z, y0⟩] [⟨.int .i64, .z, x0⟩]
/-- impl.PositionCount -/
def G_iPositionCount (x0 : List TRel) (y0 : Int) : Prop := GivesS prog 118 [⟨h20, .z, x0⟩] [⟨.int .i64, .z, y0⟩] [⟨h20, .z, x0⟩]
/-- impl.IsWeaklyAcyclic -/
def G_iIsWeaklyAcyclic (x0 : List TRel) (x1 : List TDep) (y0 : Bool) : Prop := GivesS prog 47 [⟨h20, .z, x0⟩, ⟨h31, .z, x1⟩] [⟨.bool, .z, y0⟩] [⟨h20, .z, x0⟩, ⟨h31, .z, x1⟩]
/-- impl.SpecialCycleEdge -/
def G_iSpecialCycleEdge (x0 : List TRel) (x1 : List TDep) (y0 : TEdge) (y1 : Bool) : Prop := GivesS prog 97 [⟨h20, .z, x0⟩, ⟨h31, .z, x1⟩] [⟨h40, .z, y0⟩, ⟨.bool, .z, y1⟩] [⟨h20, .z, x0⟩, ⟨h31, .z, x1⟩]
/-- impl.IsReachable -/
def G_iIsReachable (x0 : Int) (x1 : List TEdge) (x2 : Int) (x3 : Int) (y0 : Bool) : Prop := GivesS prog 145 [⟨.int .i64, .z, x0⟩, ⟨h41, .z, x1⟩, ⟨.int .i64, .z, x2⟩, ⟨.int .i64, .z, x3⟩] [⟨.bool, .z, y0⟩] [⟨.int .i64, .z, x0⟩, ⟨h41, .z, x1⟩, ⟨.int .i64, .z, x2⟩, ⟨.int .i64, .z, x3⟩]
/-- spec.RespectsRanks -/
def G_sRespectsRanks (x0 : TSk) (x1 : List TDep) (y0 : Bool) : Prop := GivesS prog 25 [⟨h27, .z, x0⟩, ⟨h31, .z, x1⟩] [⟨.bool, .z, y0⟩] [⟨h27, .z, x0⟩, ⟨h31, .z, x1⟩]
/-- spec.IsValidSkolemState -/
def G_sIsValidSkolemState (x0 : TSk) (y0 : Bool) : Prop := GivesS prog 66 [⟨h27, .z, x0⟩] [⟨.bool, .z, y0⟩] [⟨h27, .z, x0⟩]
/-- spec.IsValidInstance -/
def G_sIsValidInstance (x0 : TInst) (y0 : Bool) : Prop := GivesS prog 116 [⟨h23, .z, x0⟩] [⟨.bool, .z, y0⟩] [⟨h23, .z, x0⟩]
/-- spec.AreValidRelations -/
def G_sAreValidRelations (x0 : List TRel) (y0 : Bool) : Prop := GivesS prog 86 [⟨h20, .z, x0⟩] [⟨.bool, .z, y0⟩] [⟨h20, .z, x0⟩]
/-- spec.IsValidRelation -/
def G_sIsValidRelation (x0 : TRel) (y0 : Bool) : Prop := GivesS prog 137 [⟨h8, .z, x0⟩] [⟨.bool, .z, y0⟩] [⟨h8, .z, x0⟩]
/-- spec.l1In -/
def G_sl1In (x0 : Int) (x1 : Int) (x2 : Int) (y0 : Bool) : Prop := GivesS prog 87 [⟨.int .i64, .z, x0⟩, ⟨.int .i64, .z, x1⟩, ⟨.int .i64, .z, x2⟩] [⟨.bool, .z, y0⟩] [⟨.int .i64, .z, x0⟩, ⟨.int .i64, .z, x1⟩, ⟨.int .i64, .z, x2⟩]
/-- spec.NullsOfFact -/
def G_sNullsOfFact (x0 : TFact) (y0 : List Int) : Prop := GivesS prog 39 [⟨h11, .z, x0⟩] [⟨.sl 3 (.int .i64), .z, y0⟩] [⟨h11, .z, x0⟩]
/-- spec.l4Put -/
def G_sl4Put (x0 : List Int) (x1 : Int) (y0 : List Int) : Prop := GivesS prog 90 [⟨.sl 3 (.int .i64), .z, x0⟩, ⟨.int .i64, .z, x1⟩] [⟨.sl 3 (.int .i64), .z, y0⟩] [⟨.sl 3 (.int .i64), .z, x0⟩, ⟨.int .i64, .z, x1⟩]
/-- spec.NullNumber -/
def G_sNullNumber (x0 : Int) (y0 : Int) (y1 : Bool) : Prop := GivesS prog 89 [⟨.int .i64, .z, x0⟩] [⟨.int .i64, .z, y0⟩, ⟨.bool, .z, y1⟩] [⟨.int .i64, .z, x0⟩]
/-- spec.CompareFacts -/
def G_sCompareFacts (x0 : TFact) (x1 : TFact) (y0 : Int) : Prop := GivesS prog 128 [⟨h11, .z, x0⟩, ⟨h11, .z, x1⟩] [⟨.int .i64, .z, y0⟩] [⟨h11, .z, x0⟩, ⟨h11, .z, x1⟩]
/-- spec.l4Ints -/
def G_sl4Ints (x0 : List Int) (x1 : List Int) (y0 : Int) : Prop := GivesS prog 114 [⟨.sl 3 (.int .i64), .z, x0⟩, ⟨.sl 3 (.int .i64), .z, x1⟩] [⟨.int .i64, .z, y0⟩] [⟨.sl 3 (.int .i64), .z, x0⟩, ⟨.sl 3 (.int .i64), .z, x1⟩]
/-- spec.IsValidFact -/
def G_sIsValidFact (x0 : List TRel) (x1 : TFact) (y0 : Bool) : Prop := GivesS prog 38 [⟨h20, .z, x0⟩, ⟨h11, .z, x1⟩] [⟨.bool, .z, y0⟩] [⟨h20, .z, x0⟩, ⟨h11, .z, x1⟩]
/-- spec.IsValidValue -/
def G_sIsValidValue (x0 : Int) (y0 : Bool) : Prop := GivesS prog 88 [⟨.int .i64, .z, x0⟩] [⟨.bool, .z, y0⟩] [⟨.int .i64, .z, x0⟩]
/-- spec.NullsOfInstance -/
def G_sNullsOfInstance (x0 : TInst) (y0 : List Int) : Prop := GivesS prog 115 [⟨h23, .z, x0⟩] [⟨.sl 3 (.int .i64), .z, y0⟩] [⟨h23, .z, x0⟩]
/-- spec.MaxDepthAt -/
def G_sMaxDepthAt (x0 : TSk) (x1 : Int) (y0 : Int) : Prop := GivesS prog 65 [⟨h27, .z, x0⟩, ⟨.int .i64, .z, x1⟩] [⟨.int .i64, .z, y0⟩] [⟨h27, .z, x0⟩, ⟨.int .i64, .z, x1⟩]
/-- spec.TermDepth -/
def G_sTermDepth (x0 : TSk) (x1 : Int) (y0 : Int) : Prop := GivesS prog 113 [⟨h27, .z, x0⟩, ⟨.int .i64, .z, x1⟩] [⟨.int .i64, .z, y0⟩] [⟨h27, .z, x0⟩, ⟨.int .i64, .z, x1⟩]
/-- spec.PositionIndex -/
def G_sPositionIndex (x0 : List TRel) (x1 : Int) (x2 : Int) (y0 : Int) : Prop := GivesS prog 112 [⟨h20, .z, x0⟩, ⟨.int .i64, .z, x1⟩, ⟨.int .i64, .z, x2⟩] [⟨.int .i64, .z, y0⟩] [⟨h20, .z, x0⟩, ⟨.int .i64, .z, x1⟩, ⟨.int .i64, .z, x2⟩]
/-- spec.PositionRanks -/
def G_sPositionRanks (x0 : List TRel) (x1 : List TDep) (y0 : List Int) (y1 : Bool) : Prop := GivesS prog 64 [⟨h20, .z, x0⟩, ⟨h31, .z, x1⟩] [⟨.sl 3 (.int .i64), .own .z, y0⟩, ⟨.bool, .z, y1⟩] [⟨h20, .z, x0⟩, ⟨h31, .z, x1⟩]
/-- spec.PositionGraph -/
def G_sPositionGraph (x0 : List TRel) (x1 : List TDep) (y0 : List TEdge) : Prop := GivesS prog 111 [⟨h20, .z, x0⟩, ⟨h31, .z, x1⟩] [⟨h41, .own .z, y0⟩] [⟨h20, .z, x0⟩, ⟨h31, .z, x1⟩]
/-- spec.l13Put -/
def G_sl13Put_ooz (x0 : List TEdge) (x1 : TEdge) (y0 : List TEdge) : Prop := GivesS prog 159 [⟨h41, .own .z, x0⟩, ⟨h40, .z, x1⟩] [⟨h41, .own .z, y0⟩] [⟨h41, .dead, x0⟩, ⟨h40, .z, x1⟩]
/-- spec.l13Places -/
def G_sl13Places (x0 : List TRel) (x1 : List TFact) (x2 : Int) (y0 : List Int) : Prop := GivesS prog 158 [⟨h20, .z, x0⟩, ⟨h28, .z, x1⟩, ⟨.int .i64, .z, x2⟩] [⟨.sl 3 (.int .i64), .own .z, y0⟩] [⟨h20, .z, x0⟩, ⟨h28, .z, x1⟩, ⟨.int .i64, .z, x2⟩]
/-- spec.ExistentialVariables -/
def G_sExistentialVariables (x0 : TDep) (y0 : List Int) : Prop := GivesS prog 157 [⟨h30, .z, x0⟩] [⟨.sl 3 (.int .i64), .own .z, y0⟩] [⟨h30, .z, x0⟩]
/-- spec.l4Has -/
def G_sl4Has (x0 : List Int) (x1 : Int) (y0 : Bool) : Prop := GivesS prog 184 [⟨.sl 3 (.int .i64), .z, x0⟩, ⟨.int .i64, .z, x1⟩] [⟨.bool, .z, y0⟩] [⟨.sl 3 (.int .i64), .z, x0⟩, ⟨.int .i64, .z, x1⟩]
/-- spec.Variables -/
def G_sVariables (x0 : List TFact) (y0 : List Int) : Prop := GivesS prog 183 [⟨h28, .z, x0⟩] [⟨.sl 3 (.int .i64), .z, y0⟩] [⟨h28, .z, x0⟩]
/-- spec.FrontierVariables -/
def G_sFrontierVariables (x0 : TDep) (y0 : List Int) : Prop := GivesS prog 156 [⟨h30, .z, x0⟩] [⟨.sl 3 (.int .i64), .own .z, y0⟩] [⟨h30, .z, x0⟩]
/-- spec.AreValidDependencies -/
def G_sAreValidDependencies (x0 : List TRel) (x1 : List TDep) (y0 : Bool) : Prop := GivesS prog 91 [⟨h20, .z, x0⟩, ⟨h31, .z, x1⟩] [⟨.bool, .z, y0⟩] [⟨h20, .z, x0⟩, ⟨h31, .z, x1⟩]
/-- spec.IsValidDependency -/
def G_sIsValidDependency (x0 : List TRel) (x1 : TDep) (y0 : Bool) : Prop := GivesS prog 138 [⟨h20, .z, x0⟩, ⟨h30, .z, x1⟩] [⟨.bool, .z, y0⟩] [⟨h20, .z, x0⟩, ⟨h30, .z, x1⟩]
/-- spec.IsValidAtom -/
def G_sIsValidAtom (x0 : List TRel) (x1 : TFact) (y0 : Bool) : Prop := GivesS prog 182 [⟨h20, .z, x0⟩, ⟨h11, .z, x1⟩] [⟨.bool, .z, y0⟩] [⟨h20, .z, x0⟩, ⟨h11, .z, x1⟩]
/-- spec.PositionCount -/
def G_sPositionCount (x0 : List TRel) (y0 : Int) : Prop := GivesS prog 110 [⟨h20, .z, x0⟩] [⟨.int .i64, .z, y0⟩] [⟨h20, .z, x0⟩]
/-- spec.IsWeaklyAcyclic -/
def G_sIsWeaklyAcyclic (x0 : List TRel) (x1 : List TDep) (y0 : Bool) : Prop := GivesS prog 41 [⟨h20, .z, x0⟩, ⟨h31, .z, x1⟩] [⟨.bool, .z, y0⟩] [⟨h20, .z, x0⟩, ⟨h31, .z, x1⟩]
/-- spec.SpecialCycleEdge -/
def G_sSpecialCycleEdge (x0 : List TRel) (x1 : List TDep) (y0 : TEdge) (y1 : Bool) : Prop := GivesS prog 92 [⟨h20, .z, x0⟩, ⟨h31, .z, x1⟩] [⟨h40, .z, y0⟩, ⟨.bool, .z, y1⟩] [⟨h20, .z, x0⟩, ⟨h31, .z, x1⟩]
/-- spec.IsReachable -/
def G_sIsReachable (x0 : Int) (x1 : List TEdge) (x2 : Int) (x3 : Int) (y0 : Bool) : Prop := GivesS prog 139 [⟨.int .i64, .z, x0⟩, ⟨h41, .z, x1⟩, ⟨.int .i64, .z, x2⟩, ⟨.int .i64, .z, x3⟩] [⟨.bool, .z, y0⟩] [⟨.int .i64, .z, x0⟩, ⟨h41, .z, x1⟩, ⟨.int .i64, .z, x2⟩, ⟨.int .i64, .z, x3⟩]
/-- laws.szDependencyS -/
def G_lszDependencyS (x0 : List TDep) (x1 : Int) (y0 : Int) : Prop := GivesS prog 8 [⟨h18, .z, x0⟩, ⟨.int .i64, .z, x1⟩] [⟨.int .i64, .z, y0⟩] [⟨h18, .z, x0⟩, ⟨.int .i64, .z, x1⟩]
/-- laws.szDependency -/
def G_lszDependency (x0 : TDep) (x1 : Int) (y0 : Int) : Prop := GivesS prog 37 [⟨h17, .z, x0⟩, ⟨.int .i64, .z, x1⟩] [⟨.int .i64, .z, y0⟩] [⟨h17, .z, x0⟩, ⟨.int .i64, .z, x1⟩]
/-- laws.szAtomS -/
def G_lszAtomS (x0 : List TFact) (x1 : Int) (y0 : Int) : Prop := GivesS prog 85 [⟨h12, .z, x0⟩, ⟨.int .i64, .z, x1⟩] [⟨.int .i64, .z, y0⟩] [⟨h12, .z, x0⟩, ⟨.int .i64, .z, x1⟩]
/-- laws.szAtom -/
def G_lszAtom (x0 : TFact) (x1 : Int) (y0 : Int) : Prop := GivesS prog 136 [⟨h11, .z, x0⟩, ⟨.int .i64, .z, x1⟩] [⟨.int .i64, .z, y0⟩] [⟨h11, .z, x0⟩, ⟨.int .i64, .z, x1⟩]
/-- laws.szIntS -/
def G_lszIntS (x0 : List Int) (x1 : Int) (y0 : Int) : Prop := GivesS prog 74 [⟨.sl 3 (.int .i64), .z, x0⟩, ⟨.int .i64, .z, x1⟩] [⟨.int .i64, .z, y0⟩] [⟨.sl 3 (.int .i64), .z, x0⟩, ⟨.int .i64, .z, x1⟩]
/-- laws.szSkolemState -/
def G_lszSkolemState (x0 : TSk) (x1 : Int) (y0 : Int) : Prop := GivesS prog 24 [⟨h39, .z, x0⟩, ⟨.int .i64, .z, x1⟩] [⟨.int .i64, .z, y0⟩] [⟨h39, .z, x0⟩, ⟨.int .i64, .z, x1⟩]
/-- laws.szSkolemTermS -/
def G_lszSkolemTermS (x0 : List TTerm) (x1 : Int) (y0 : Int) : Prop := GivesS prog 63 [⟨h37, .z, x0⟩, ⟨.int .i64, .z, x1⟩] [⟨.int .i64, .z, y0⟩] [⟨h37, .z, x0⟩, ⟨.int .i64, .z, x1⟩]
/-- laws.szSkolemTerm -/
def G_lszSkolemTerm (x0 : TTerm) (x1 : Int) (y0 : Int) : Prop := GivesS prog 109 [⟨h24, .z, x0⟩, ⟨.int .i64, .z, x1⟩] [⟨.int .i64, .z, y0⟩] [⟨h24, .z, x0⟩, ⟨.int .i64, .z, x1⟩]
/-- laws.szInstance -/
def G_lszInstance (x0 : TInst) (x1 : Int) (y0 : Int) : Prop := GivesS prog 62 [⟨h36, .z, x0⟩, ⟨.int .i64, .z, x1⟩] [⟨.int .i64, .z, y0⟩] [⟨h36, .z, x0⟩, ⟨.int .i64, .z, x1⟩]
/-- laws.szFactS -/
def G_lszFactS (x0 : List TFact) (x1 : Int) (y0 : Int) : Prop := GivesS prog 9 [⟨h19, .z, x0⟩, ⟨.int .i64, .z, x1⟩] [⟨.int .i64, .z, y0⟩] [⟨h19, .z, x0⟩, ⟨.int .i64, .z, x1⟩]
/-- laws.szFact -/
def G_lszFact (x0 : TFact) (x1 : Int) (y0 : Int) : Prop := GivesS prog 29 [⟨h11, .z, x0⟩, ⟨.int .i64, .z, x1⟩] [⟨.int .i64, .z, y0⟩] [⟨h11, .z, x0⟩, ⟨.int .i64, .z, x1⟩]
/-- laws.szRelationS -/
def G_lszRelationS (x0 : List TRel) (x1 : Int) (y0 : Int) : Prop := GivesS prog 7 [⟨h9, .z, x0⟩, ⟨.int .i64, .z, x1⟩] [⟨.int .i64, .z, y0⟩] [⟨h9, .z, x0⟩, ⟨.int .i64, .z, x1⟩]
/-- laws.szRelation -/
def G_lszRelation (x0 : TRel) (x1 : Int) (y0 : Int) : Prop := GivesS prog 36 [⟨h8, .z, x0⟩, ⟨.int .i64, .z, x1⟩] [⟨.int .i64, .z, y0⟩] [⟨h8, .z, x0⟩, ⟨.int .i64, .z, x1⟩]
end Go.V
