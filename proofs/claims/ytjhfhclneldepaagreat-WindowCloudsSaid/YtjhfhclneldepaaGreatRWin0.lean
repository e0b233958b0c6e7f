import Derived.Test.YtjhfhclneldepaaGreatEB
import Derived.Test.YtjhfhclneldepaaGreatProg
namespace Go.Proofs.RWin
open Go Go.Eng Go.Proofs
set_option maxRecDepth 100000
set_option linter.unusedVariables false
def tis : List (Nat × TI) := [(0, ⟨.true, .other, .false, 0, [], .false, []⟩), (1, ⟨.true, .func, .false, 8, [], .false, []⟩), (2, ⟨.true, (.int .i64), .false, 8, [], .false, []⟩), (3, ⟨.true, (.int .i64), .false, 8, [], .false, []⟩), (4, ⟨.true, .bool, .false, 1, [], .false, []⟩), (5, ⟨.true, (.int .u8), .false, 1, [], .false, []⟩), (6, ⟨.true, (.int .u8), .false, 1, [], .false, []⟩), (7, ⟨.true, (.pair (.int .i64) (.pair (.int .i64) (.pair .bool (.int .u8)))), .true, 24, [(0, 1), (1, 1), (2, 1), (3, 1)], .true, [(some .false), (some .false), (some .false), (some .false)]⟩), (8, ⟨.true, (.pair (.int .i64) (.pair (.int .i64) (.pair .bool (.int .u8)))), .true, 24, [(0, 1), (1, 1), (2, 1), (3, 1)], .true, [(some .false), (some .false), (some .false), (some .false)]⟩), (9, ⟨.true, .str, .false, 16, [], .false, []⟩), (10, ⟨.true, .str, .false, 16, [], .false, []⟩), (11, ⟨.true, .str, .false, 16, [], .false, []⟩), (12, ⟨.true, (.int .u64), .false, 8, [], .false, []⟩), (13, ⟨.true, (.pair .str (.int .u64)), .true, 24, [(0, 1), (1, 1)], .false, [(some .false), (some .false)]⟩), (14, ⟨.true, (.pair .str (.int .u64)), .true, 24, [(0, 1), (1, 1)], .false, [(some .false), (some .false)]⟩), (15, ⟨.true, .ptr, .false, 8, [], .false, []⟩), (16, ⟨.true, .ptr, .false, 8, [], .false, []⟩), (17, ⟨.true, .ptr, .false, 8, [], .false, []⟩), (18, ⟨.true, (.pair .ptr .unit), .true, 8, [(0, 1)], .false, [(some .false)]⟩), (19, ⟨.true, (.pair .ptr .unit), .true, 8, [(0, 1)], .false, [(some .false)]⟩), (20, ⟨.true, .other, .false, 16, [], .false, []⟩), (21, ⟨.true, (.int .i32), .false, 4, [], .false, []⟩), (22, ⟨.true, (.slice (.int .i64)), .false, 8, [], .false, []⟩), (23, ⟨.true, .func, .false, 8, [], .false, []⟩), (24, ⟨.true, .ptr, .false, 8, [], .false, []⟩), (25, ⟨.true, (.pair (.slice (.int .i64)) (.int .i64)), .true, 32, [(0, 1), (1, 1)], .false, [(some .false), (some .false)]⟩), (26, ⟨.true, (.pair (.slice (.int .i64)) (.int .i64)), .true, 32, [(0, 1), (1, 1)], .false, [(some .false), (some .false)]⟩), (27, ⟨.true, (.int .i64), .false, 8, [], .false, []⟩), (28, ⟨.true, (.pair (.int .i64) (.int .i64)), .true, 16, [(0, 1), (1, 1)], .true, [(some .false), (some .false)]⟩), (29, ⟨.true, (.pair (.int .i64) (.int .i64)), .true, 16, [(0, 1), (1, 1)], .true, [(some .false), (some .false)]⟩), (30, ⟨.true, (.int .i64), .false, 8, [], .false, []⟩), (31, ⟨.true, (.pair (.int .i64) (.int .i64)), .true, 16, [(0, 1), (1, 1)], .true, [(some .false), (some .false)]⟩), (32, ⟨.true, (.pair (.int .i64) (.int .i64)), .true, 16, [(0, 1), (1, 1)], .true, [(some .false), (some .false)]⟩), (33, ⟨.true, (.pair (.int .i64) (.pair (.int .i64) (.pair (.int .i64) (.int .i64)))), .true, 32, [(0, 1), (1, 1), (2, 2)], .true, [(some .false), (some .false), (some .true)]⟩), (34, ⟨.true, (.pair (.int .i64) (.pair (.int .i64) (.pair (.int .i64) (.int .i64)))), .true, 32, [(0, 1), (1, 1), (2, 2)], .true, [(some .false), (some .false), (some .true)]⟩), (35, ⟨.true, (.pair (.int .i64) (.pair (.int .i64) (.int .i64))), .true, 24, [(0, 1), (1, 1), (2, 1)], .true, [(some .false), (some .false), (some .false)]⟩), (36, ⟨.true, (.pair (.int .i64) (.pair (.int .i64) (.int .i64))), .true, 24, [(0, 1), (1, 1), (2, 1)], .true, [(some .false), (some .false), (some .false)]⟩), (37, ⟨.true, (.int .i64), .false, 8, [], .false, []⟩), (38, ⟨.true, (.pair (.pair (.int .i64) (.int .i64)) (.pair (.pair (.int .i64) (.pair (.int .i64) (.pair (.int .i64) (.int .i64)))) (.pair (.int .i64) (.pair (.int .i64) (.pair (.int .i64) (.pair (.pair (.int .i64) (.pair (.int .i64) (.int .i64))) (.pair (.pair (.int .i64) (.pair (.int .i64) (.int .i64))) (.pair (.int .i64) (.slice (.int .i64)))))))))), .true, 152, [(0, 2), (2, 4), (6, 1), (7, 1), (8, 1), (9, 3), (12, 3), (15, 1), (16, 1)], .false, [(some .true), (some .true), (some .false), (some .false), (some .false), (some .true), (some .true), (some .false), (some .false)]⟩), (39, ⟨.true, (.pair (.pair (.int .i64) (.int .i64)) (.pair (.pair (.int .i64) (.pair (.int .i64) (.pair (.int .i64) (.int .i64)))) (.pair (.int .i64) (.pair (.int .i64) (.pair (.int .i64) (.pair (.pair (.int .i64) (.pair (.int .i64) (.int .i64))) (.pair (.pair (.int .i64) (.pair (.int .i64) (.int .i64))) (.pair (.int .i64) (.slice (.int .i64)))))))))), .true, 152, [(0, 2), (2, 4), (6, 1), (7, 1), (8, 1), (9, 3), (12, 3), (15, 1), (16, 1)], .false, [(some .true), (some .true), (some .false), (some .false), (some .false), (some .true), (some .true), (some .false), (some .false)]⟩), (40, ⟨.true, .func, .false, 8, [], .false, []⟩), (41, ⟨.true, (.pair (.int .i64) (.pair (.int .i64) (.pair (.pair (.int .i64) (.pair (.int .i64) (.int .i64))) (.pair (.int .i64) (.pair (.int .i64) (.pair (.int .i64) (.pair (.int .i64) (.pair (.int .i64) (.pair (.int .i64) (.pair (.int .i64) (.int .i64))))))))))), .true, 104, [(0, 1), (1, 1), (2, 3), (5, 1), (6, 1), (7, 1), (8, 1), (9, 1), (10, 1), (11, 1), (12, 1)], .true, [(some .false), (some .false), (some .true), (some .false), (some .false), (some .false), (some .false), (some .false), (some .false), (some .false), (some .false)]⟩), (42, ⟨.true, (.pair (.int .i64) (.pair (.int .i64) (.pair (.pair (.int .i64) (.pair (.int .i64) (.int .i64))) (.pair (.int .i64) (.pair (.int .i64) (.pair (.int .i64) (.pair (.int .i64) (.pair (.int .i64) (.pair (.int .i64) (.pair (.int .i64) (.int .i64))))))))))), .true, 104, [(0, 1), (1, 1), (2, 3), (5, 1), (6, 1), (7, 1), (8, 1), (9, 1), (10, 1), (11, 1), (12, 1)], .true, [(some .false), (some .false), (some .true), (some .false), (some .false), (some .false), (some .false), (some .false), (some .false), (some .false), (some .false)]⟩), (43, ⟨.true, .func, .false, 8, [], .false, []⟩), (44, ⟨.true, .func, .false, 8, [], .false, []⟩), (45, ⟨.true, (.int .i64), .false, 8, [], .false, []⟩), (46, ⟨.true, .other, .false, 0, [], .false, []⟩), (47, ⟨.true, .func, .false, 8, [], .false, []⟩), (48, ⟨.true, .func, .false, 8, [], .false, []⟩), (49, ⟨.true, .func, .false, 8, [], .false, []⟩), (50, ⟨.true, .func, .false, 8, [], .false, []⟩), (51, ⟨.true, .other, .false, 0, [], .false, []⟩), (52, ⟨.true, .func, .false, 8, [], .false, []⟩), (53, ⟨.true, (.pair (.int .i64) (.pair (.int .i64) .bool)), .true, 24, [(0, 1), (1, 1), (2, 1)], .true, [(some .false), (some .false), (some .false)]⟩), (54, ⟨.true, (.pair (.int .i64) (.pair (.int .i64) .bool)), .true, 24, [(0, 1), (1, 1), (2, 1)], .true, [(some .false), (some .false), (some .false)]⟩), (55, ⟨.true, .func, .false, 8, [], .false, []⟩), (56, ⟨.true, (.pair (.int .i64) (.pair (.int .i64) .bool)), .true, 24, [(0, 1), (1, 1), (2, 1)], .true, [(some .false), (some .false), (some .false)]⟩), (57, ⟨.true, (.pair (.int .i64) (.pair (.int .i64) .bool)), .true, 24, [(0, 1), (1, 1), (2, 1)], .true, [(some .false), (some .false), (some .false)]⟩), (58, ⟨.true, .func, .false, 8, [], .false, []⟩), (59, ⟨.true, (.pair (.int .i64) (.pair (.int .i64) .bool)), .true, 24, [(0, 1), (1, 1), (2, 1)], .true, [(some .false), (some .false), (some .false)]⟩), (60, ⟨.true, (.pair (.int .i64) (.pair (.int .i64) .bool)), .true, 24, [(0, 1), (1, 1), (2, 1)], .true, [(some .false), (some .false), (some .false)]⟩), (61, ⟨.true, .func, .false, 8, [], .false, []⟩), (62, ⟨.true, .func, .false, 8, [], .false, []⟩), (63, ⟨.true, (.slice (.pair (.int .i64) (.int .i64))), .false, 16, [], .false, []⟩), (64, ⟨.true, .other, .false, 0, [], .false, []⟩), (65, ⟨.true, .func, .false, 8, [], .false, []⟩), (66, ⟨.true, (.slice .bool), .false, 1, [], .false, []⟩), (67, ⟨.true, (.pair (.int .i64) (.int .i64)), .true, 16, [(0, 1), (1, 1)], .true, [(some .false), (some .false)]⟩), (68, ⟨.true, (.pair (.int .i64) (.int .i64)), .true, 16, [(0, 1), (1, 1)], .true, [(some .false), (some .false)]⟩), (69, ⟨.true, .func, .false, 8, [], .false, []⟩), (70, ⟨.true, (.slice (.pair (.int .i64) (.int .i64))), .false, 16, [], .false, []⟩), (71, ⟨.true, .func, .false, 8, [], .false, []⟩), (72, ⟨.true, .func, .false, 8, [], .false, []⟩), (73, ⟨.true, .func, .false, 8, [], .false, []⟩), (74, ⟨.true, .func, .false, 8, [], .false, []⟩), (75, ⟨.true, .func, .false, 8, [], .false, []⟩), (76, ⟨.true, .func, .false, 8, [], .false, []⟩), (77, ⟨.true, .other, .false, 0, [], .false, []⟩), (78, ⟨.true, .func, .false, 8, [], .false, []⟩), (79, ⟨.true, .func, .false, 8, [], .false, []⟩), (80, ⟨.true, .func, .false, 8, [], .false, []⟩), (81, ⟨.true, .func, .false, 8, [], .false, []⟩), (82, ⟨.true, .func, .false, 8, [], .false, []⟩), (83, ⟨.true, .func, .false, 8, [], .false, []⟩), (84, ⟨.true, .func, .false, 8, [], .false, []⟩), (85, ⟨.true, .func, .false, 8, [], .false, []⟩), (86, ⟨.true, .func, .false, 8, [], .false, []⟩), (87, ⟨.true, .func, .false, 8, [], .false, []⟩), (88, ⟨.true, .func, .false, 8, [], .false, []⟩), (89, ⟨.true, .func, .false, 8, [], .false, []⟩), (90, ⟨.true, .func, .false, 8, [], .false, []⟩), (91, ⟨.true, .func, .false, 8, [], .false, []⟩), (92, ⟨.true, .func, .false, 8, [], .false, []⟩), (93, ⟨.true, .func, .false, 8, [], .false, []⟩), (94, ⟨.true, .other, .false, 0, [], .false, []⟩), (95, ⟨.true, .func, .false, 8, [], .false, []⟩), (96, ⟨.true, .func, .false, 8, [], .false, []⟩), (97, ⟨.true, .func, .false, 8, [], .false, []⟩), (98, ⟨.true, .func, .false, 8, [], .false, []⟩), (99, ⟨.true, .func, .false, 8, [], .false, []⟩), (100, ⟨.true, .func, .false, 8, [], .false, []⟩), (101, ⟨.true, .func, .false, 8, [], .false, []⟩), (102, ⟨.true, .func, .false, 8, [], .false, []⟩), (103, ⟨.true, .func, .false, 8, [], .false, []⟩), (104, ⟨.true, .func, .false, 8, [], .false, []⟩), (105, ⟨.true, .func, .false, 8, [], .false, []⟩), (106, ⟨.true, (.int .u64), .false, 8, [], .false, []⟩), (107, ⟨.true, (.pair (.int .i64) (.int .u64)), .true, 16, [(0, 1), (1, 1)], .true, [(some .false), (some .false)]⟩), (108, ⟨.true, (.pair (.int .i64) (.int .u64)), .true, 16, [(0, 1), (1, 1)], .true, [(some .false), (some .false)]⟩), (109, ⟨.true, .func, .false, 8, [], .false, []⟩), (110, ⟨.true, .func, .false, 8, [], .false, []⟩), (111, ⟨.true, .func, .false, 8, [], .false, []⟩), (112, ⟨.true, .func, .false, 8, [], .false, []⟩), (113, ⟨.true, .func, .false, 8, [], .false, []⟩), (114, ⟨.true, (.slice (.int .i64)), .false, 8, [], .false, []⟩), (115, ⟨.true, .func, .false, 8, [], .false, []⟩), (116, ⟨.true, .func, .false, 8, [], .false, []⟩), (117, ⟨.true, .func, .false, 8, [], .false, []⟩), (118, ⟨.true, .func, .false, 8, [], .false, []⟩), (119, ⟨.true, .func, .false, 8, [], .false, []⟩), (120, ⟨.true, .func, .false, 8, [], .false, []⟩), (121, ⟨.true, .func, .false, 8, [], .false, []⟩), (122, ⟨.true, .func, .false, 8, [], .false, []⟩), (123, ⟨.true, .func, .false, 8, [], .false, []⟩), (124, ⟨.true, .func, .false, 8, [], .false, []⟩), (125, ⟨.true, .func, .false, 8, [], .false, []⟩), (126, ⟨.true, .func, .false, 8, [], .false, []⟩), (127, ⟨.true, (.slice (.int .u32)), .false, 4, [], .false, []⟩), (128, ⟨.true, (.pair .bool (.slice (.int .u32))), .true, 32, [(0, 1), (1, 1)], .false, [(some .false), (some .false)]⟩), (129, ⟨.true, (.pair .bool (.slice (.int .u32))), .true, 32, [(0, 1), (1, 1)], .false, [(some .false), (some .false)]⟩), (130, ⟨.true, .func, .false, 8, [], .false, []⟩), (131, ⟨.true, .func, .false, 8, [], .false, []⟩), (132, ⟨.true, .func, .false, 8, [], .false, []⟩), (133, ⟨.true, .func, .false, 8, [], .false, []⟩), (134, ⟨.true, .func, .false, 8, [], .false, []⟩), (135, ⟨.true, .func, .false, 8, [], .false, []⟩), (136, ⟨.true, .func, .false, 8, [], .false, []⟩), (137, ⟨.true, .other, .false, 0, [], .false, []⟩), (138, ⟨.true, .func, .false, 8, [], .false, []⟩), (139, ⟨.true, .func, .false, 8, [], .false, []⟩), (140, ⟨.true, .func, .false, 8, [], .false, []⟩), (141, ⟨.true, .func, .false, 8, [], .false, []⟩), (142, ⟨.true, .func, .false, 8, [], .false, []⟩), (143, ⟨.true, .func, .false, 8, [], .false, []⟩), (144, ⟨.true, .func, .false, 8, [], .false, []⟩), (145, ⟨.true, .func, .false, 8, [], .false, []⟩), (146, ⟨.true, (.slice (.int .i64)), .false, 8, [], .false, []⟩), (147, ⟨.true, .func, .false, 8, [], .false, []⟩), (148, ⟨.true, (.int .u64), .false, 8, [], .false, []⟩), (149, ⟨.true, .func, .false, 8, [], .false, []⟩), (150, ⟨.true, .func, .false, 8, [], .false, []⟩), (151, ⟨.true, .func, .false, 8, [], .false, []⟩), (152, ⟨.true, .func, .false, 8, [], .false, []⟩), (153, ⟨.true, .func, .false, 8, [], .false, []⟩), (154, ⟨.true, .other, .false, 0, [], .false, []⟩), (155, ⟨.true, .func, .false, 8, [], .false, []⟩), (156, ⟨.true, .func, .false, 8, [], .false, []⟩), (157, ⟨.true, .func, .false, 8, [], .false, []⟩), (158, ⟨.true, .other, .false, 16, [], .false, []⟩), (159, ⟨.true, .other, .false, 16, [], .false, []⟩), (160, ⟨.true, .func, .false, 8, [], .false, []⟩), (161, ⟨.true, .func, .false, 8, [], .false, []⟩), (162, ⟨.true, .func, .false, 8, [], .false, []⟩), (163, ⟨.true, .func, .false, 8, [], .false, []⟩), (164, ⟨.true, .func, .false, 8, [], .false, []⟩), (165, ⟨.true, .func, .false, 8, [], .false, []⟩), (166, ⟨.true, (.int .u32), .false, 4, [], .false, []⟩), (167, ⟨.true, .func, .false, 8, [], .false, []⟩), (168, ⟨.true, .func, .false, 8, [], .false, []⟩), (169, ⟨.true, .func, .false, 8, [], .false, []⟩), (170, ⟨.true, (.slice (.int .i64)), .false, 8, [], .false, []⟩), (171, ⟨.true, .func, .false, 8, [], .false, []⟩), (172, ⟨.true, .func, .false, 8, [], .false, []⟩), (173, ⟨.true, .func, .false, 8, [], .false, []⟩), (174, ⟨.true, .ptr, .false, 8, [], .false, []⟩), (175, ⟨.true, .func, .false, 8, [], .false, []⟩), (176, ⟨.true, (.pair .ptr (.pair .ptr (.pair .ptr .str))), .true, 40, [(0, 1), (1, 1), (2, 1), (3, 1)], .false, [(some .false), (some .false), (some .false), (some .false)]⟩), (177, ⟨.true, (.pair .ptr (.pair .ptr (.pair .ptr .str))), .true, 40, [(0, 1), (1, 1), (2, 1), (3, 1)], .false, [(some .false), (some .false), (some .false), (some .false)]⟩), (181, ⟨.true, .func, .false, 8, [], .false, []⟩), (182, ⟨.true, (.int .u8), .false, 1, [], .false, []⟩), (183, ⟨.true, (.int .u8), .false, 1, [], .false, []⟩), (184, ⟨.true, .func, .false, 8, [], .false, []⟩), (185, ⟨.true, .ptr, .false, 8, [], .false, []⟩), (186, ⟨.true, (.int .i32), .false, 4, [], .false, []⟩), (187, ⟨.true, (.int .i32), .false, 4, [], .false, []⟩), (188, ⟨.true, (.pair (.int .u64) (.pair (.int .u64) (.pair (.int .u32) (.pair (.int .u8) (.pair (.int .u8) (.pair (.int .u8) (.pair (.int .u8) (.pair .func (.pair .ptr (.pair (.int .i32) (.int .i32))))))))))), .true, 48, [(0, 1), (1, 1), (2, 1), (3, 1), (4, 1), (5, 1), (6, 1), (7, 1), (8, 1), (9, 1), (10, 1)], .false, [(some .false), (some .false), (some .false), (some .false), (some .false), (some .false), (some .false), (some .false), (some .false), (some .false), (some .false)]⟩), (189, ⟨.true, (.pair (.int .u64) (.pair (.int .u64) (.pair (.int .u32) (.pair (.int .u8) (.pair (.int .u8) (.pair (.int .u8) (.pair (.int .u8) (.pair .func (.pair .ptr (.pair (.int .i32) (.int .i32))))))))))), .true, 48, [(0, 1), (1, 1), (2, 1), (3, 1), (4, 1), (5, 1), (6, 1), (7, 1), (8, 1), (9, 1), (10, 1)], .false, [(some .false), (some .false), (some .false), (some .false), (some .false), (some .false), (some .false), (some .false), (some .false), (some .false), (some .false)]⟩), (190, ⟨.true, (.pair .str .unit), .true, 16, [(0, 1)], .true, [(some .false)]⟩), (191, ⟨.true, (.pair .str .unit), .true, 16, [(0, 1)], .true, [(some .false)]⟩), (192, ⟨.true, .other, .false, 8, [], .false, []⟩)]
theorem tis_ok : tisOk Tryz.prog tis = true := by kernel_rfl
def modes : List (Nat × List (Nat × Ty)) := [(9, [(1, (.pair .other (.pair (.pair (.int .i64) (.int .i64)) (.pair (.pair (.int .i64) (.pair (.int .i64) (.pair (.int .i64) (.int .i64)))) (.pair (.int .i64) (.pair (.int .i64) (.pair (.int .i64) (.pair (.pair (.int .i64) (.pair (.int .i64) (.int .i64))) (.pair (.pair (.int .i64) (.pair (.int .i64) (.int .i64))) (.pair (.int .i64) (.slice (.int .i64))))))))))))]), (11, [(0, (.pair (.pair (.int .i64) (.int .i64)) (.pair (.pair (.int .i64) (.pair (.int .i64) (.pair (.int .i64) (.int .i64)))) (.pair (.int .i64) (.pair (.int .i64) (.pair (.int .i64) (.pair (.pair (.int .i64) (.pair (.int .i64) (.int .i64))) (.pair (.pair (.int .i64) (.pair (.int .i64) (.int .i64))) (.pair (.int .i64) (.slice (.int .i64)))))))))))]), (13, [(0, (.pair (.pair (.int .i64) (.int .i64)) (.pair (.pair (.int .i64) (.pair (.int .i64) (.pair (.int .i64) (.int .i64)))) (.pair (.int .i64) (.pair (.int .i64) (.pair (.int .i64) (.pair (.pair (.int .i64) (.pair (.int .i64) (.int .i64))) (.pair (.pair (.int .i64) (.pair (.int .i64) (.int .i64))) (.pair (.int .i64) (.slice (.int .i64)))))))))))]), (17, [(0, (.pair (.pair (.int .i64) (.int .i64)) (.pair (.pair (.int .i64) (.pair (.int .i64) (.pair (.int .i64) (.int .i64)))) (.pair (.int .i64) (.pair (.int .i64) (.pair (.int .i64) (.pair (.pair (.int .i64) (.pair (.int .i64) (.int .i64))) (.pair (.pair (.int .i64) (.pair (.int .i64) (.int .i64))) (.pair (.int .i64) (.slice (.int .i64)))))))))))]), (18, [(0, (.slice (.int .i64))), (1, (.slice (.int .i64)))]), (21, [(0, (.pair (.pair (.int .i64) (.int .i64)) (.pair (.pair (.int .i64) (.pair (.int .i64) (.pair (.int .i64) (.int .i64)))) (.pair (.int .i64) (.pair (.int .i64) (.pair (.int .i64) (.pair (.pair (.int .i64) (.pair (.int .i64) (.int .i64))) (.pair (.pair (.int .i64) (.pair (.int .i64) (.int .i64))) (.pair (.int .i64) (.slice (.int .i64)))))))))))]), (22, [(0, (.pair (.pair (.int .i64) (.int .i64)) (.pair (.pair (.int .i64) (.pair (.int .i64) (.pair (.int .i64) (.int .i64)))) (.pair (.int .i64) (.pair (.int .i64) (.pair (.int .i64) (.pair (.pair (.int .i64) (.pair (.int .i64) (.int .i64))) (.pair (.pair (.int .i64) (.pair (.int .i64) (.int .i64))) (.pair (.int .i64) (.slice (.int .i64)))))))))))]), (32, [(0, (.slice (.int .i64)))]), (47, [(0, (.pair (.pair (.int .i64) (.int .i64)) (.pair (.pair (.int .i64) (.pair (.int .i64) (.pair (.int .i64) (.int .i64)))) (.pair (.int .i64) (.pair (.int .i64) (.pair (.int .i64) (.pair (.pair (.int .i64) (.pair (.int .i64) (.int .i64))) (.pair (.pair (.int .i64) (.pair (.int .i64) (.int .i64))) (.pair (.int .i64) (.slice (.int .i64)))))))))))]), (49, [(0, (.pair (.pair (.int .i64) (.int .i64)) (.pair (.pair (.int .i64) (.pair (.int .i64) (.pair (.int .i64) (.int .i64)))) (.pair (.int .i64) (.pair (.int .i64) (.pair (.int .i64) (.pair (.pair (.int .i64) (.pair (.int .i64) (.int .i64))) (.pair (.pair (.int .i64) (.pair (.int .i64) (.int .i64))) (.pair (.int .i64) (.slice (.int .i64)))))))))))]), (51, [(0, (.pair (.pair (.int .i64) (.int .i64)) (.pair (.pair (.int .i64) (.pair (.int .i64) (.pair (.int .i64) (.int .i64)))) (.pair (.int .i64) (.pair (.int .i64) (.pair (.int .i64) (.pair (.pair (.int .i64) (.pair (.int .i64) (.int .i64))) (.pair (.pair (.int .i64) (.pair (.int .i64) (.int .i64))) (.pair (.int .i64) (.slice (.int .i64)))))))))))]), (79, [(0, (.pair (.pair (.int .i64) (.int .i64)) (.pair (.pair (.int .i64) (.pair (.int .i64) (.pair (.int .i64) (.int .i64)))) (.pair (.int .i64) (.pair (.int .i64) (.pair (.int .i64) (.pair (.pair (.int .i64) (.pair (.int .i64) (.int .i64))) (.pair (.pair (.int .i64) (.pair (.int .i64) (.int .i64))) (.pair (.int .i64) (.slice (.int .i64)))))))))))]), (83, [(0, (.pair .bool (.slice (.int .u32)))), (1, (.pair .bool (.slice (.int .u32))))]), (85, [(0, (.pair .bool (.slice (.int .u32)))), (1, (.pair .bool (.slice (.int .u32))))]), (99, [(0, (.slice (.int .i64)))]), (100, [(0, (.slice (.int .i64)))]), (101, [(0, (.slice (.int .i64)))]), (107, [(0, (.pair .bool (.slice (.int .u32)))), (1, (.pair .bool (.slice (.int .u32))))]), (109, [(0, (.pair .bool (.slice (.int .u32))))]), (110, [(0, (.slice (.int .u32))), (1, (.slice (.int .u32)))]), (116, [(1, (.slice (.int .i64)))]), (121, [(0, (.pair .bool (.slice (.int .u32))))])]
noncomputable def t0 : Nat → Nat → List AV → List Slot → Option Ans := fun _ => tnil
theorem t0_ok (n g : Nat) : SpecOk Tryz.prog g (t0 n g) := tnil_ok g
def bs0 : ByteArray := ByteArray.mk ((([0, 1, 2, 2, 3, 3, 3, 3, 4, 4, 4, 4, 4, 4, 4, 4, 5, 5, 5, 5, 5, 5, 5, 5, 5, 5, 5, 5, 5, 5, 5, 5, 6, 6, 6, 6, 6, 6, 6, 6, 6, 6, 6, 6, 6, 6, 6, 6, 6, 6, 6, 6, 6, 6, 6, 6, 6, 6, 6, 6, 6, 6, 6, 6].append [7, 7, 7, 7, 7, 7, 7, 7, 7, 7, 7, 7, 7, 7, 7, 7, 7, 7, 7, 7, 7, 7, 7, 7, 7, 7, 7, 7, 7, 7, 7, 7, 7, 7, 7, 7, 7, 7, 7, 7, 7, 7, 7, 7, 7, 7, 7, 7, 7, 7, 7, 7, 7, 7, 7, 7, 7, 7, 7, 7, 7, 7, 7, 7]).append ([8, 8, 8, 8, 8, 8, 8, 8, 8, 8, 8, 8, 8, 8, 8, 8, 8, 8, 8, 8, 8, 8, 8, 8, 8, 8, 8, 8, 8, 8, 8, 8, 8, 8, 8, 8, 8, 8, 8, 8, 8, 8, 8, 8, 8, 8, 8, 8, 8, 8, 8, 8, 8, 8, 8, 8, 8, 8, 8, 8, 8, 8, 8, 8].append [8, 8, 8, 8, 8, 8, 8, 8, 8, 8, 8, 8, 8, 8, 8, 8, 8, 8, 8, 8, 8, 8, 8, 8, 8, 8, 8, 8, 8, 8, 8, 8, 8, 8, 8, 8, 8, 8, 8, 8, 8, 8, 8, 8, 8, 8, 8, 8, 8, 8, 8, 8, 8, 8, 8, 8, 8, 8, 8, 8, 8, 8, 8, 8])).toArray)
namespace prop_within
abbrev R : Type := Bool
abbrev A : Type := Int × Int × Int
def lv : List (Nat × List Nat) := [(2000000, [6])]
noncomputable def cs : Nat → Ctx := ctxOf tis modes t0 lv
theorem cs_ok (n : Nat) : CtxOk Tryz.prog (cs n) := ctxOf_ok rfl tis_ok t0_ok n
def enc (r : R) : Out := ((.c (.bool r)), [])
def dec : Out → Option R
  | ((.c (.bool v0)), []) => some v0
  | _ => none
theorem dec_ok : ∀ u y, dec u = some y → u = enc y := by
  intro u y h
  unfold dec at h
  split at h
  · cases h; rfl
  · cases h
noncomputable def b0 : Code := subF [] Tryz.f77
noncomputable def K0 (k : Nat) : Kt R := kTop (cs k) Tryz.f77 dec
noncomputable def f (k : Nat) : A → Option R := fun (v0, v1, v2) => held (runFn cs k Tryz.f77 [(.c (.int .i64 v0)), (.c (.int .i64 v1)), (.c (.int .i64 v2))] [] dec)
noncomputable def F (v : A) : Option R := lim fun L => f (L 0) v
theorem F_cn (x : Nat) (v : A) : Cn late (F v) fun L => f (L x) v := of_lim.re [x]
def d : A → Option R := fun (v0, v1, v2) =>
some (decide (v1 ≤ v0) && decide (v0 ≤ v2))
theorem d_cn {ι : Type} {E : Fil ι} : ∀ v : A, Cn E (d v) fun i => d v := fun (v0, v1, v2) => .some
theorem f_b (k : Nat) : ∀ v : A, f k v = d v := fun (v0, v1, v2) => (held_eq _).trans (by kernel_rfl)
theorem F_of (v : A) {r : R} (h : d v = some r) : F v = some r :=
  join_of (l := fun L => f (L 0) v) (d := fun L => d v) (fun L => f_b (L 0) v) (d_cn v) h
noncomputable def spec (k : Nat) (args : List AV) (ss : List Slot) : Option Ans :=
  match args, ss with
  | [(.c (.int .i64 v0)), (.c (.int .i64 v1)), (.c (.int .i64 v2))], [] => some ⟨R, f k (v0, v1, v2), enc⟩
  | _, _ => none
theorem spec_ok (k : Nat) : SpecOk Tryz.prog 77 (spec k) := by
  intro args ss ans x h hx X σ w vals hp
  unfold spec at h
  split at h
  · cases h
    exact spec_of cs_ok Tryz.func77 rfl rfl dec_ok (held_eq _).symm hx hp
  · cases h
end prop_within
noncomputable def t_prop_within (k : Nat) := tcons 77 (prop_within.spec k) (t0 k)
theorem t_prop_within_ok (n g : Nat) : SpecOk Tryz.prog g (t_prop_within n g) := tcons_ok (prop_within.spec_ok n) (fun g => t0_ok n g) g
namespace num_size
abbrev R : Type := Int
abbrev A : Type := Int
def lv : List (Nat × List Nat) := [(2000000, [2])]
noncomputable def cs : Nat → Ctx := ctxOf tis modes t_prop_within lv
theorem cs_ok (n : Nat) : CtxOk Tryz.prog (cs n) := ctxOf_ok rfl tis_ok t_prop_within_ok n
def enc (r : R) : Out := ((.c (.int .u64 r)), [])
def dec : Out → Option R
  | ((.c (.int .u64 v0)), []) => some v0
  | _ => none
theorem dec_ok : ∀ u y, dec u = some y → u = enc y := by
  intro u y h
  unfold dec at h
  split at h
  · cases h; rfl
  · cases h
noncomputable def b0 : Code := subF [] Tryz.f92
noncomputable def K0 (k : Nat) : Kt R := kTop (cs k) Tryz.f92 dec
noncomputable def f (k : Nat) : A → Option R := fun v0 => held (runFn cs k Tryz.f92 [(.c (.int .i64 v0))] [] dec)
noncomputable def F (v : A) : Option R := lim fun L => f (L 0) v
theorem F_cn (x : Nat) (v : A) : Cn late (F v) fun L => f (L x) v := of_lim.re [x]
def d : A → Option R := fun v0 =>
br (decide (v0 < 0)) (some (wrap IntKind.u64 (0 - wrap IntKind.u64 v0))) (some (wrap IntKind.u64 v0))
theorem d_cn {ι : Type} {E : Fil ι} : ∀ v : A, Cn E (d v) fun i => d v := fun v0 => (.br .some .some)
theorem f_b (k : Nat) : ∀ v : A, f k v = d v := fun v0 => (held_eq _).trans (by kernel_rfl)
theorem F_of (v : A) {r : R} (h : d v = some r) : F v = some r :=
  join_of (l := fun L => f (L 0) v) (d := fun L => d v) (fun L => f_b (L 0) v) (d_cn v) h
noncomputable def spec (k : Nat) (args : List AV) (ss : List Slot) : Option Ans :=
  match args, ss with
  | [(.c (.int .i64 v0))], [] => some ⟨R, f k v0, enc⟩
  | _, _ => none
theorem spec_ok (k : Nat) : SpecOk Tryz.prog 92 (spec k) := by
  intro args ss ans x h hx X σ w vals hp
  unfold spec at h
  split at h
  · cases h
    exact spec_of cs_ok Tryz.func92 rfl rfl dec_ok (held_eq _).symm hx hp
  · cases h
end num_size
noncomputable def t_num_size (k : Nat) := tcons 92 (num_size.spec k) (t_prop_within k)
theorem t_num_size_ok (n g : Nat) : SpecOk Tryz.prog g (t_num_size n g) := tcons_ok (num_size.spec_ok n) (fun g => t_prop_within_ok n g) g
namespace num_Gcd
abbrev R : Type := Int
abbrev A : Type := Int × Int
def lv : List (Nat × List Nat) := [(2000000, [4]), (2, [5, 6])]
noncomputable def cs : Nat → Ctx := ctxOf tis modes t_num_size lv
theorem cs_ok (n : Nat) : CtxOk Tryz.prog (cs n) := ctxOf_ok rfl tis_ok t_num_size_ok n
def enc (r : R) : Out := ((.c (.int .i64 r)), [])
def dec : Out → Option R
  | ((.c (.int .i64 v0)), []) => some v0
  | _ => none
theorem dec_ok : ∀ u y, dec u = some y → u = enc y := by
  intro u y h
  unfold dec at h
  split at h
  · cases h; rfl
  · cases h
noncomputable def b0 : Code := subF [] Tryz.f88
noncomputable def K0 (k : Nat) : Kt R := kTop (cs k) Tryz.f88 dec
noncomputable def b2 : Code := sub [1, 1, 0, 0, 0] b0
noncomputable def K2 ( k : Nat) : Kt R := kAt (cs k) (loopN cs k) [1, 1, 0, 0] b0 (K0 k)
abbrev T0 : Type := Int × Int
def s0 : T0 → St := fun (v0, v1) => ⟨20, 0, [(5, (.c (.int .u64 v0))), (6, (.c (.int .u64 v1)))], [], [(256000000, .gone)]⟩
noncomputable def l0 ( k n : Nat) (v : T0) : Option R := held (loopN cs n b2 (K2 k) (s0 v))
noncomputable def D0 (v : T0) : Option R := lim fun L => l0 (L 0) (L 1) v
theorem D0_cn (v : T0) : Cn late (D0 v) fun L => l0 (L 0) (L 1) v := of_lim
def d0 (L0m1 : T0 → Option R) : T0 → Option R := fun (v0, v1) =>
br (decide (0 < v1)) (br (!decide (v1 = 0)) (L0m1 (v1, v0.tmod v1)) none) (some (wrap IntKind.i64 (bAnn IntKind.u64 v0 9223372036854775808)))
theorem d0_cn {ι : Type} {E : Fil ι} {L0m1 : T0 → Option R} {L0m1' : ι → T0 → Option R} (hL0m1 : ∀ v, Cn E (L0m1 v) fun i => L0m1' i v) : ∀ v : T0, Cn E (d0 L0m1 v) fun i => d0 (L0m1' i) v := fun (v0, v1) => (.br (.br (hL0m1 _) .none) .some)
theorem l0_b ( k m1 : Nat) : ∀ v : T0, run (cs m1) (loopN cs m1) b2 (kLoop cs m1 b2 (K2 k)) (s0 v) = d0 (l0 k m1) v := fun (v0, v1) => by kernel_rfl
theorem D0_of (v : T0) {r : R} (h : d0 D0 v = some r) : D0 v = some r :=
  loop_of 1 (l := fun L => l0 (L 0) (L 1) v) (d := fun L => d0 (l0 (L 0) (L 1)) v) (fun L n hn => by show l0 (L 0) (L 1) v = _; rw [hn]; exact (held_eq _).trans ((loopN_succ _ _ _ _ _).trans (l0_b (L 0) n v))) (d0_cn (fun v => (D0_cn v).re [0, 1]) v) h
noncomputable def f (k : Nat) : A → Option R := fun (v0, v1) => held (runFn cs k Tryz.f88 [(.c (.int .i64 v0)), (.c (.int .i64 v1))] [] dec)
noncomputable def F (v : A) : Option R := lim fun L => f (L 0) v
theorem F_cn (x : Nat) (v : A) : Cn late (F v) fun L => f (L x) v := of_lim.re [x]
def d (num_size_k : num_size.A → Option num_size.R) (L0k : T0 → Option R) : A → Option R := fun (v0, v1) =>
bnd (num_size_k v0) fun r => bnd (num_size_k v1) fun r_1 => L0k (r, r_1)
theorem d_cn {ι : Type} {E : Fil ι} {num_size_k : num_size.A → Option num_size.R} {num_size_k' : ι → num_size.A → Option num_size.R} (hnum_size_k : ∀ v, Cn E (num_size_k v) fun i => num_size_k' i v) {L0k : T0 → Option R} {L0k' : ι → T0 → Option R} (hL0k : ∀ v, Cn E (L0k v) fun i => L0k' i v) : ∀ v : A, Cn E (d num_size_k L0k v) fun i => d (num_size_k' i) (L0k' i) v := fun (v0, v1) => (.bnd (hnum_size_k _) fun _ => (.bnd (hnum_size_k _) fun _ => (hL0k _)))
theorem f_b (k : Nat) : ∀ v : A, f k v = d (num_size.f k) (l0 k k) v := fun (v0, v1) => (held_eq _).trans (by kernel_rfl)
theorem F_of (v : A) {r : R} (h : d num_size.F D0 v = some r) : F v = some r :=
  join_of (l := fun L => f (L 0) v) (d := fun L => d (num_size.f (L 0)) (l0 (L 0) (L 0)) v) (fun L => f_b (L 0) v) (d_cn (num_size.F_cn 0) (fun v => (D0_cn v).re [0, 0]) v) h
noncomputable def spec (k : Nat) (args : List AV) (ss : List Slot) : Option Ans :=
  match args, ss with
  | [(.c (.int .i64 v0)), (.c (.int .i64 v1))], [] => some ⟨R, f k (v0, v1), enc⟩
  | _, _ => none
theorem spec_ok (k : Nat) : SpecOk Tryz.prog 88 (spec k) := by
  intro args ss ans x h hx X σ w vals hp
  unfold spec at h
  split at h
  · cases h
    exact spec_of cs_ok Tryz.func88 rfl rfl dec_ok (held_eq _).symm hx hp
  · cases h
end num_Gcd
noncomputable def t_num_Gcd (k : Nat) := tcons 88 (num_Gcd.spec k) (t_num_size k)
theorem t_num_Gcd_ok (n g : Nat) : SpecOk Tryz.prog g (t_num_Gcd n g) := tcons_ok (num_Gcd.spec_ok n) (fun g => t_num_size_ok n g) g
namespace frac_Check
abbrev R : Type := Int
abbrev A : Type := Int × Int
def lv : List (Nat × List Nat) := [(2000000, [2])]
noncomputable def cs : Nat → Ctx := ctxOf tis modes t_num_Gcd lv
theorem cs_ok (n : Nat) : CtxOk Tryz.prog (cs n) := ctxOf_ok rfl tis_ok t_num_Gcd_ok n
def enc (r : R) : Out := ((.c (.int .i64 r)), [])
def dec : Out → Option R
  | ((.c (.int .i64 v0)), []) => some v0
  | _ => none
theorem dec_ok : ∀ u y, dec u = some y → u = enc y := by
  intro u y h
  unfold dec at h
  split at h
  · cases h; rfl
  · cases h
noncomputable def b0 : Code := subF [] Tryz.f56
noncomputable def K0 (k : Nat) : Kt R := kTop (cs k) Tryz.f56 dec
noncomputable def f (k : Nat) : A → Option R := fun (v0, v1) => held (runFn cs k Tryz.f56 [(.agg [(.int .i64 v0), (.int .i64 v1)])] [] dec)
noncomputable def F (v : A) : Option R := lim fun L => f (L 0) v
theorem F_cn (x : Nat) (v : A) : Cn late (F v) fun L => f (L x) v := of_lim.re [x]
def d (num_Gcd_k : num_Gcd.A → Option num_Gcd.R) : A → Option R := fun (v0, v1) =>
br (decide (v0 < -1152921504606846976) || decide (1152921504606846976 < v0) || decide (v1 < 1) || decide (1152921504606846976 < v1)) (some 4) (bnd (num_Gcd_k (v0, v1)) fun r => br (!decide (r = 1)) (some 3) (some 0))
theorem d_cn {ι : Type} {E : Fil ι} {num_Gcd_k : num_Gcd.A → Option num_Gcd.R} {num_Gcd_k' : ι → num_Gcd.A → Option num_Gcd.R} (hnum_Gcd_k : ∀ v, Cn E (num_Gcd_k v) fun i => num_Gcd_k' i v) : ∀ v : A, Cn E (d num_Gcd_k v) fun i => d (num_Gcd_k' i) v := fun (v0, v1) => (.br .some (.bnd (hnum_Gcd_k _) fun _ => (.br .some .some)))
theorem f_b (k : Nat) : ∀ v : A, f k v = d (num_Gcd.f k) v := fun (v0, v1) => (held_eq _).trans (by kernel_rfl)
theorem F_of (v : A) {r : R} (h : d num_Gcd.F v = some r) : F v = some r :=
  join_of (l := fun L => f (L 0) v) (d := fun L => d (num_Gcd.f (L 0)) v) (fun L => f_b (L 0) v) (d_cn (num_Gcd.F_cn 0) v) h
noncomputable def spec (k : Nat) (args : List AV) (ss : List Slot) : Option Ans :=
  match args, ss with
  | [(.agg [(.int .i64 v0), (.int .i64 v1)])], [] => some ⟨R, f k (v0, v1), enc⟩
  | _, _ => none
theorem spec_ok (k : Nat) : SpecOk Tryz.prog 56 (spec k) := by
  intro args ss ans x h hx X σ w vals hp
  unfold spec at h
  split at h
  · cases h
    exact spec_of cs_ok Tryz.func56 rfl rfl dec_ok (held_eq _).symm hx hp
  · cases h
end frac_Check
noncomputable def t_frac_Check (k : Nat) := tcons 56 (frac_Check.spec k) (t_num_Gcd k)
theorem t_frac_Check_ok (n g : Nat) : SpecOk Tryz.prog g (t_frac_Check n g) := tcons_ok (frac_Check.spec_ok n) (fun g => t_num_Gcd_ok n g) g
namespace num_CeilDiv
abbrev R : Type := Int
abbrev A : Type := Int × Int
def lv : List (Nat × List Nat) := [(2000000, [4]), (1000006, [5])]
noncomputable def cs : Nat → Ctx := ctxOf tis modes t_frac_Check lv
theorem cs_ok (n : Nat) : CtxOk Tryz.prog (cs n) := ctxOf_ok rfl tis_ok t_frac_Check_ok n
def enc (r : R) : Out := ((.c (.int .i64 r)), [])
def dec : Out → Option R
  | ((.c (.int .i64 v0)), []) => some v0
  | _ => none
theorem dec_ok : ∀ u y, dec u = some y → u = enc y := by
  intro u y h
  unfold dec at h
  split at h
  · cases h; rfl
  · cases h
noncomputable def b0 : Code := subF [] Tryz.f90
noncomputable def K0 (k : Nat) : Kt R := kTop (cs k) Tryz.f90 dec
noncomputable def c1000006 : Code := sub [1, 1, 1, 1] b0
noncomputable def J1000006 ( k : Nat) : Kt R := kAt (cs k) (loopN cs k) [1, 1, 1, 1] b0 (K0 k)
abbrev T0 : Type := Int
def s0 : T0 → St := fun v0 => ⟨18, 0, [(5, (.c (.int .i64 v0)))], [], [(256000000, .gone)]⟩
noncomputable def l0 ( k : Nat) (v : T0) : Option R := held (run (cs k) (loopN cs k) c1000006 (J1000006 k) (s0 v))
noncomputable def D0 (v : T0) : Option R := lim fun L => l0 (L 0) v
theorem D0_cn (v : T0) : Cn late (D0 v) fun L => l0 (L 0) v := of_lim
def d0 : T0 → Option R := fun v0 =>
some v0
theorem d0_cn {ι : Type} {E : Fil ι} : ∀ v : T0, Cn E (d0 v) fun i => d0 v := fun v0 => .some
theorem l0_b ( k : Nat) : ∀ v : T0, run (cs k) (loopN cs k) c1000006 (J1000006 k) (s0 v) = d0 v := fun v0 => by kernel_rfl
theorem D0_of (v : T0) {r : R} (h : d0 v = some r) : D0 v = some r :=
  join_of (l := fun L => l0 (L 0) v) (d := fun L => d0 v) (fun L => (held_eq _).trans (l0_b (L 0) v)) (d0_cn v) h
noncomputable def f (k : Nat) : A → Option R := fun (v0, v1) => held (runFn cs k Tryz.f90 [(.c (.int .i64 v0)), (.c (.int .i64 v1))] [] dec)
noncomputable def F (v : A) : Option R := lim fun L => f (L 0) v
theorem F_cn (x : Nat) (v : A) : Cn late (F v) fun L => f (L x) v := of_lim.re [x]
def d (L0k : T0 → Option R) : A → Option R := fun (v0, v1) =>
br (decide (v1 < 1)) (some 0) (br (!decide (v1 = 0)) (br (!decide (v1 = 0)) (br (decide (0 < v0.tmod v1)) (L0k (wrap IntKind.i64 (wrap IntKind.i64 (v0.tdiv v1) + 1))) (L0k (wrap IntKind.i64 (v0.tdiv v1)))) none) none)
theorem d_cn {ι : Type} {E : Fil ι} {L0k : T0 → Option R} {L0k' : ι → T0 → Option R} (hL0k : ∀ v, Cn E (L0k v) fun i => L0k' i v) : ∀ v : A, Cn E (d L0k v) fun i => d (L0k' i) v := fun (v0, v1) => (.br .some (.br (.br (.br (hL0k _) (hL0k _)) .none) .none))
theorem f_b (k : Nat) : ∀ v : A, f k v = d (l0 k) v := fun (v0, v1) => (held_eq _).trans (by kernel_rfl)
theorem F_of (v : A) {r : R} (h : d D0 v = some r) : F v = some r :=
  join_of (l := fun L => f (L 0) v) (d := fun L => d (l0 (L 0)) v) (fun L => f_b (L 0) v) (d_cn (fun v => (D0_cn v).re [0]) v) h
noncomputable def spec (k : Nat) (args : List AV) (ss : List Slot) : Option Ans :=
  match args, ss with
  | [(.c (.int .i64 v0)), (.c (.int .i64 v1))], [] => some ⟨R, f k (v0, v1), enc⟩
  | _, _ => none
theorem spec_ok (k : Nat) : SpecOk Tryz.prog 90 (spec k) := by
  intro args ss ans x h hx X σ w vals hp
  unfold spec at h
  split at h
  · cases h
    exact spec_of cs_ok Tryz.func90 rfl rfl dec_ok (held_eq _).symm hx hp
  · cases h
end num_CeilDiv
noncomputable def t_num_CeilDiv (k : Nat) := tcons 90 (num_CeilDiv.spec k) (t_frac_Check k)
theorem t_num_CeilDiv_ok (n g : Nat) : SpecOk Tryz.prog g (t_num_CeilDiv n g) := tcons_ok (num_CeilDiv.spec_ok n) (fun g => t_frac_Check_ok n g) g
namespace frac_rounded
abbrev R : Type := Int
abbrev A : Type := Int × Int
def lv : List (Nat × List Nat) := [(2000000, [4])]
noncomputable def cs : Nat → Ctx := ctxOf tis modes t_num_CeilDiv lv
theorem cs_ok (n : Nat) : CtxOk Tryz.prog (cs n) := ctxOf_ok rfl tis_ok t_num_CeilDiv_ok n
def enc (r : R) : Out := ((.c (.int .i64 r)), [])
def dec : Out → Option R
  | ((.c (.int .i64 v0)), []) => some v0
  | _ => none
theorem dec_ok : ∀ u y, dec u = some y → u = enc y := by
  intro u y h
  unfold dec at h
  split at h
  · cases h; rfl
  · cases h
noncomputable def b0 : Code := subF [] Tryz.f89
noncomputable def K0 (k : Nat) : Kt R := kTop (cs k) Tryz.f89 dec
noncomputable def f (k : Nat) : A → Option R := fun (v0, v1) => held (runFn cs k Tryz.f89 [(.agg [(.int .i64 v0), (.int .i64 v1)]), (.c (.func 90 []))] [] dec)
noncomputable def F (v : A) : Option R := lim fun L => f (L 0) v
theorem F_cn (x : Nat) (v : A) : Cn late (F v) fun L => f (L x) v := of_lim.re [x]
def d (frac_Check_k : frac_Check.A → Option frac_Check.R) (num_CeilDiv_k : num_CeilDiv.A → Option num_CeilDiv.R) : A → Option R := fun (v0, v1) =>
bnd (frac_Check_k (v0, v1)) fun r => br (!decide (r = 0)) (some 0) (bnd (num_CeilDiv_k (v0, v1)) fun r => some r)
theorem d_cn {ι : Type} {E : Fil ι} {frac_Check_k : frac_Check.A → Option frac_Check.R} {frac_Check_k' : ι → frac_Check.A → Option frac_Check.R} (hfrac_Check_k : ∀ v, Cn E (frac_Check_k v) fun i => frac_Check_k' i v) {num_CeilDiv_k : num_CeilDiv.A → Option num_CeilDiv.R} {num_CeilDiv_k' : ι → num_CeilDiv.A → Option num_CeilDiv.R} (hnum_CeilDiv_k : ∀ v, Cn E (num_CeilDiv_k v) fun i => num_CeilDiv_k' i v) : ∀ v : A, Cn E (d frac_Check_k num_CeilDiv_k v) fun i => d (frac_Check_k' i) (num_CeilDiv_k' i) v := fun (v0, v1) => (.bnd (hfrac_Check_k _) fun _ => (.br .some (.bnd (hnum_CeilDiv_k _) fun _ => .some)))
theorem f_b (k : Nat) : ∀ v : A, f k v = d (frac_Check.f k) (num_CeilDiv.f k) v := fun (v0, v1) => (held_eq _).trans (by kernel_rfl)
theorem F_of (v : A) {r : R} (h : d frac_Check.F num_CeilDiv.F v = some r) : F v = some r :=
  join_of (l := fun L => f (L 0) v) (d := fun L => d (frac_Check.f (L 0)) (num_CeilDiv.f (L 0)) v) (fun L => f_b (L 0) v) (d_cn (frac_Check.F_cn 0) (num_CeilDiv.F_cn 0) v) h
noncomputable def spec (k : Nat) (args : List AV) (ss : List Slot) : Option Ans :=
  match args, ss with
  | [(.agg [(.int .i64 v0), (.int .i64 v1)]), (.c (.func 90 []))], [] => some ⟨R, f k (v0, v1), enc⟩
  | _, _ => none
theorem spec_ok (k : Nat) : SpecOk Tryz.prog 89 (spec k) := by
  intro args ss ans x h hx X σ w vals hp
  unfold spec at h
  split at h
  · cases h
    exact spec_of cs_ok Tryz.func89 rfl rfl dec_ok (held_eq _).symm hx hp
  · cases h
end frac_rounded
noncomputable def t_frac_rounded (k : Nat) := tcons 89 (frac_rounded.spec k) (t_num_CeilDiv k)
theorem t_frac_rounded_ok (n g : Nat) : SpecOk Tryz.prog g (t_frac_rounded n g) := tcons_ok (frac_rounded.spec_ok n) (fun g => t_num_CeilDiv_ok n g) g
namespace frac_Ceil
abbrev R : Type := Int
abbrev A : Type := Int × Int
def lv : List (Nat × List Nat) := [(2000000, [2])]
noncomputable def cs : Nat → Ctx := ctxOf tis modes t_frac_rounded lv
theorem cs_ok (n : Nat) : CtxOk Tryz.prog (cs n) := ctxOf_ok rfl tis_ok t_frac_rounded_ok n
def enc (r : R) : Out := ((.c (.int .i64 r)), [])
def dec : Out → Option R
  | ((.c (.int .i64 v0)), []) => some v0
  | _ => none
theorem dec_ok : ∀ u y, dec u = some y → u = enc y := by
  intro u y h
  unfold dec at h
  split at h
  · cases h; rfl
  · cases h
noncomputable def b0 : Code := subF [] Tryz.f57
noncomputable def K0 (k : Nat) : Kt R := kTop (cs k) Tryz.f57 dec
noncomputable def f (k : Nat) : A → Option R := fun (v0, v1) => held (runFn cs k Tryz.f57 [(.agg [(.int .i64 v0), (.int .i64 v1)])] [] dec)
noncomputable def F (v : A) : Option R := lim fun L => f (L 0) v
theorem F_cn (x : Nat) (v : A) : Cn late (F v) fun L => f (L x) v := of_lim.re [x]
def d (frac_rounded_k : frac_rounded.A → Option frac_rounded.R) : A → Option R := fun (v0, v1) =>
bnd (frac_rounded_k (v0, v1)) fun r => some r
theorem d_cn {ι : Type} {E : Fil ι} {frac_rounded_k : frac_rounded.A → Option frac_rounded.R} {frac_rounded_k' : ι → frac_rounded.A → Option frac_rounded.R} (hfrac_rounded_k : ∀ v, Cn E (frac_rounded_k v) fun i => frac_rounded_k' i v) : ∀ v : A, Cn E (d frac_rounded_k v) fun i => d (frac_rounded_k' i) v := fun (v0, v1) => (.bnd (hfrac_rounded_k _) fun _ => .some)
theorem f_b (k : Nat) : ∀ v : A, f k v = d (frac_rounded.f k) v := fun (v0, v1) => (held_eq _).trans (by kernel_rfl)
theorem F_of (v : A) {r : R} (h : d frac_rounded.F v = some r) : F v = some r :=
  join_of (l := fun L => f (L 0) v) (d := fun L => d (frac_rounded.f (L 0)) v) (fun L => f_b (L 0) v) (d_cn (frac_rounded.F_cn 0) v) h
noncomputable def spec (k : Nat) (args : List AV) (ss : List Slot) : Option Ans :=
  match args, ss with
  | [(.agg [(.int .i64 v0), (.int .i64 v1)])], [] => some ⟨R, f k (v0, v1), enc⟩
  | _, _ => none
theorem spec_ok (k : Nat) : SpecOk Tryz.prog 57 (spec k) := by
  intro args ss ans x h hx X σ w vals hp
  unfold spec at h
  split at h
  · cases h
    exact spec_of cs_ok Tryz.func57 rfl rfl dec_ok (held_eq _).symm hx hp
  · cases h
end frac_Ceil
noncomputable def t_frac_Ceil (k : Nat) := tcons 57 (frac_Ceil.spec k) (t_frac_rounded k)
theorem t_frac_Ceil_ok (n g : Nat) : SpecOk Tryz.prog g (t_frac_Ceil n g) := tcons_ok (frac_Ceil.spec_ok n) (fun g => t_frac_rounded_ok n g) g
namespace scale_CheckRate
abbrev R : Type := Int
abbrev A : Type := Int × Int × Int × Int
def lv : List (Nat × List Nat) := [(2000000, [2])]
noncomputable def cs : Nat → Ctx := ctxOf tis modes t_frac_Ceil lv
theorem cs_ok (n : Nat) : CtxOk Tryz.prog (cs n) := ctxOf_ok rfl tis_ok t_frac_Ceil_ok n
def enc (r : R) : Out := ((.c (.int .i64 r)), [])
def dec : Out → Option R
  | ((.c (.int .i64 v0)), []) => some v0
  | _ => none
theorem dec_ok : ∀ u y, dec u = some y → u = enc y := by
  intro u y h
  unfold dec at h
  split at h
  · cases h; rfl
  · cases h
noncomputable def b0 : Code := subF [] Tryz.f24
noncomputable def K0 (k : Nat) : Kt R := kTop (cs k) Tryz.f24 dec
noncomputable def f (k : Nat) : A → Option R := fun (v0, v1, v2, v3) => held (runFn cs k Tryz.f24 [(.agg [(.int .i64 v0), (.int .i64 v1), (.int .i64 v2), (.int .i64 v3)])] [] dec)
noncomputable def F (v : A) : Option R := lim fun L => f (L 0) v
theorem F_cn (x : Nat) (v : A) : Cn late (F v) fun L => f (L x) v := of_lim.re [x]
def d (frac_Check_k : frac_Check.A → Option frac_Check.R) (frac_Ceil_k : frac_Ceil.A → Option frac_Ceil.R) : A → Option R := fun (v0, v1, v2, v3) =>
bnd (frac_Check_k (v2, v3)) fun r =>
  br (decide (v0 < -17592186044416) || decide (17592186044416 < v0) || decide (v1 < 0) || decide (4294967296 ≤ v1)) (some 4)
    (br (!decide (r = 0)) (some r) (br (decide (v2 < 1) == false) (bnd (frac_Ceil_k (v2, v3)) fun r => br (decide (65536 < r)) (some 1) (some 0)) (some 1)))
theorem d_cn {ι : Type} {E : Fil ι} {frac_Check_k : frac_Check.A → Option frac_Check.R} {frac_Check_k' : ι → frac_Check.A → Option frac_Check.R} (hfrac_Check_k : ∀ v, Cn E (frac_Check_k v) fun i => frac_Check_k' i v) {frac_Ceil_k : frac_Ceil.A → Option frac_Ceil.R} {frac_Ceil_k' : ι → frac_Ceil.A → Option frac_Ceil.R} (hfrac_Ceil_k : ∀ v, Cn E (frac_Ceil_k v) fun i => frac_Ceil_k' i v) : ∀ v : A, Cn E (d frac_Check_k frac_Ceil_k v) fun i => d (frac_Check_k' i) (frac_Ceil_k' i) v := fun (v0, v1, v2, v3) => (.bnd (hfrac_Check_k _) fun _ => (.br .some (.br .some (.br (.bnd (hfrac_Ceil_k _) fun _ => (.br .some .some)) .some))))
theorem f_b (k : Nat) : ∀ v : A, f k v = d (frac_Check.f k) (frac_Ceil.f k) v := fun (v0, v1, v2, v3) => (held_eq _).trans (by kernel_rfl)
theorem F_of (v : A) {r : R} (h : d frac_Check.F frac_Ceil.F v = some r) : F v = some r :=
  join_of (l := fun L => f (L 0) v) (d := fun L => d (frac_Check.f (L 0)) (frac_Ceil.f (L 0)) v) (fun L => f_b (L 0) v) (d_cn (frac_Check.F_cn 0) (frac_Ceil.F_cn 0) v) h
noncomputable def spec (k : Nat) (args : List AV) (ss : List Slot) : Option Ans :=
  match args, ss with
  | [(.agg [(.int .i64 v0), (.int .i64 v1), (.int .i64 v2), (.int .i64 v3)])], [] => some ⟨R, f k (v0, v1, v2, v3), enc⟩
  | _, _ => none
theorem spec_ok (k : Nat) : SpecOk Tryz.prog 24 (spec k) := by
  intro args ss ans x h hx X σ w vals hp
  unfold spec at h
  split at h
  · cases h
    exact spec_of cs_ok Tryz.func24 rfl rfl dec_ok (held_eq _).symm hx hp
  · cases h
end scale_CheckRate
noncomputable def t_scale_CheckRate (k : Nat) := tcons 24 (scale_CheckRate.spec k) (t_frac_Ceil k)
theorem t_scale_CheckRate_ok (n g : Nat) : SpecOk Tryz.prog g (t_scale_CheckRate n g) := tcons_ok (scale_CheckRate.spec_ok n) (fun g => t_frac_Ceil_ok n g) g
namespace cmp_Or_Errno
abbrev R : Type := Int
abbrev A : Type := List Int
def lv : List (Nat × List Nat) := [(2000000, [2]), (3, [3, 6, 7, 8])]
noncomputable def cs : Nat → Ctx := ctxOf tis modes t_scale_CheckRate lv
theorem cs_ok (n : Nat) : CtxOk Tryz.prog (cs n) := ctxOf_ok rfl tis_ok t_scale_CheckRate_ok n
def enc (r : R) : Out := ((.c (.int .i64 r)), [])
def dec : Out → Option R
  | ((.c (.int .i64 v0)), []) => some v0
  | _ => none
theorem dec_ok : ∀ u y, dec u = some y → u = enc y := by
  intro u y h
  unfold dec at h
  split at h
  · cases h; rfl
  · cases h
noncomputable def b0 : Code := subF [] Tryz.f32
noncomputable def K0 (k : Nat) : Kt R := kTop (cs k) Tryz.f32 dec
noncomputable def b3 : Code := sub [1, 1, 0, 1, 0, 0] b0
noncomputable def K3 ( k : Nat) : Kt R := kAt (cs k) (loopN cs k) [1, 1, 0, 1, 0] b0 (K0 k)
abbrev T0 : Type := Int × List Int × Int × Int
def s0 : T0 → St := fun (v0, v1, v2, v3) => ⟨18, 0, [(3, (.c (.int .i64 v0))), (6, (.c (.frz (.int .i64) v1))), (7, (.c (.int .i64 v2))), (8, (.c (.int .i64 v3)))], [], [(256000000, .gone)]⟩
noncomputable def l0 ( k n : Nat) (v : T0) : Option R := held (loopN cs n b3 (K3 k) (s0 v))
noncomputable def D0 (v : T0) : Option R := lim fun L => l0 (L 0) (L 1) v
theorem D0_cn (v : T0) : Cn late (D0 v) fun L => l0 (L 0) (L 1) v := of_lim
def d0 (L0m1 : T0 → Option R) : T0 → Option R := fun (v0, v1, v2, v3) =>
br (decide (v3 < v2)) (br (decide (0 ≤ v3 ∧ v3 < (↑v1.length : Int))) (br (!decide (rd (Ty.int IntKind.i64) v1 v3 = v0)) (some (rd (Ty.int IntKind.i64) v1 v3)) (L0m1 (v0, v1, v2, wrap IntKind.i64 (v3 + 1)))) none)
  (some v0)
theorem d0_cn {ι : Type} {E : Fil ι} {L0m1 : T0 → Option R} {L0m1' : ι → T0 → Option R} (hL0m1 : ∀ v, Cn E (L0m1 v) fun i => L0m1' i v) : ∀ v : T0, Cn E (d0 L0m1 v) fun i => d0 (L0m1' i) v := fun (v0, v1, v2, v3) => (.br (.br (.br .some (hL0m1 _)) .none) .some)
theorem l0_b ( k m1 : Nat) : ∀ v : T0, run (cs m1) (loopN cs m1) b3 (kLoop cs m1 b3 (K3 k)) (s0 v) = d0 (l0 k m1) v := fun (v0, v1, v2, v3) => by kernel_rfl
theorem D0_of (v : T0) {r : R} (h : d0 D0 v = some r) : D0 v = some r :=
  loop_of 1 (l := fun L => l0 (L 0) (L 1) v) (d := fun L => d0 (l0 (L 0) (L 1)) v) (fun L n hn => by show l0 (L 0) (L 1) v = _; rw [hn]; exact (held_eq _).trans ((loopN_succ _ _ _ _ _).trans (l0_b (L 0) n v))) (d0_cn (fun v => (D0_cn v).re [0, 1]) v) h
noncomputable def f (k : Nat) : A → Option R := fun v0 => held (runFn cs k Tryz.f32 [(.c (.frz (.int .i64) v0))] [] dec)
noncomputable def F (v : A) : Option R := lim fun L => f (L 0) v
theorem F_cn (x : Nat) (v : A) : Cn late (F v) fun L => f (L x) v := of_lim.re [x]
def d (L0k : T0 → Option R) : A → Option R := fun v0 =>
L0k (0, v0, (↑v0.length : Int), 0)
theorem d_cn {ι : Type} {E : Fil ι} {L0k : T0 → Option R} {L0k' : ι → T0 → Option R} (hL0k : ∀ v, Cn E (L0k v) fun i => L0k' i v) : ∀ v : A, Cn E (d L0k v) fun i => d (L0k' i) v := fun v0 => (hL0k _)
theorem f_b (k : Nat) : ∀ v : A, f k v = d (l0 k k) v := fun v0 => (held_eq _).trans (by kernel_rfl)
theorem F_of (v : A) {r : R} (h : d D0 v = some r) : F v = some r :=
  join_of (l := fun L => f (L 0) v) (d := fun L => d (l0 (L 0) (L 0)) v) (fun L => f_b (L 0) v) (d_cn (fun v => (D0_cn v).re [0, 0]) v) h
noncomputable def spec (k : Nat) (args : List AV) (ss : List Slot) : Option Ans :=
  match args, ss with
  | [(.c (.frz (.int .i64) v0))], [] => some ⟨R, f k v0, enc⟩
  | _, _ => none
theorem spec_ok (k : Nat) : SpecOk Tryz.prog 32 (spec k) := by
  intro args ss ans x h hx X σ w vals hp
  unfold spec at h
  split at h
  · cases h
    exact spec_of cs_ok Tryz.func32 rfl rfl dec_ok (held_eq _).symm hx hp
  · cases h
end cmp_Or_Errno
noncomputable def t_cmp_Or_Errno (k : Nat) := tcons 32 (cmp_Or_Errno.spec k) (t_scale_CheckRate k)
theorem t_cmp_Or_Errno_ok (n g : Nat) : SpecOk Tryz.prog g (t_cmp_Or_Errno n g) := tcons_ok (cmp_Or_Errno.spec_ok n) (fun g => t_scale_CheckRate_ok n g) g
namespace frac_both
abbrev R : Type := Int
abbrev A : Type := Int × Int × Int × Int
def lv : List (Nat × List Nat) := [(2000000, [4])]
noncomputable def cs : Nat → Ctx := ctxOf tis modes t_cmp_Or_Errno lv
theorem cs_ok (n : Nat) : CtxOk Tryz.prog (cs n) := ctxOf_ok rfl tis_ok t_cmp_Or_Errno_ok n
def enc (r : R) : Out := ((.c (.int .i64 r)), [])
def dec : Out → Option R
  | ((.c (.int .i64 v0)), []) => some v0
  | _ => none
theorem dec_ok : ∀ u y, dec u = some y → u = enc y := by
  intro u y h
  unfold dec at h
  split at h
  · cases h; rfl
  · cases h
noncomputable def b0 : Code := subF [] Tryz.f119
noncomputable def K0 (k : Nat) : Kt R := kTop (cs k) Tryz.f119 dec
noncomputable def f (k : Nat) : A → Option R := fun (v0, v1, v2, v3) => held (runFn cs k Tryz.f119 [(.agg [(.int .i64 v0), (.int .i64 v1)]), (.agg [(.int .i64 v2), (.int .i64 v3)])] [] dec)
noncomputable def F (v : A) : Option R := lim fun L => f (L 0) v
theorem F_cn (x : Nat) (v : A) : Cn late (F v) fun L => f (L x) v := of_lim.re [x]
def d (frac_Check_k : frac_Check.A → Option frac_Check.R) (cmp_Or_Errno_k : cmp_Or_Errno.A → Option cmp_Or_Errno.R) : A → Option R := fun (v0, v1, v2, v3) =>
bnd (frac_Check_k (v0, v1)) fun r => bnd (frac_Check_k (v2, v3)) fun r_1 => bnd (cmp_Or_Errno_k [r, r_1]) fun r => some r
theorem d_cn {ι : Type} {E : Fil ι} {frac_Check_k : frac_Check.A → Option frac_Check.R} {frac_Check_k' : ι → frac_Check.A → Option frac_Check.R} (hfrac_Check_k : ∀ v, Cn E (frac_Check_k v) fun i => frac_Check_k' i v) {cmp_Or_Errno_k : cmp_Or_Errno.A → Option cmp_Or_Errno.R} {cmp_Or_Errno_k' : ι → cmp_Or_Errno.A → Option cmp_Or_Errno.R} (hcmp_Or_Errno_k : ∀ v, Cn E (cmp_Or_Errno_k v) fun i => cmp_Or_Errno_k' i v) : ∀ v : A, Cn E (d frac_Check_k cmp_Or_Errno_k v) fun i => d (frac_Check_k' i) (cmp_Or_Errno_k' i) v := fun (v0, v1, v2, v3) => (.bnd (hfrac_Check_k _) fun _ => (.bnd (hfrac_Check_k _) fun _ => (.bnd (hcmp_Or_Errno_k _) fun _ => .some)))
theorem f_b (k : Nat) : ∀ v : A, f k v = d (frac_Check.f k) (cmp_Or_Errno.f k) v := fun (v0, v1, v2, v3) => (held_eq _).trans (by kernel_rfl)
theorem F_of (v : A) {r : R} (h : d frac_Check.F cmp_Or_Errno.F v = some r) : F v = some r :=
  join_of (l := fun L => f (L 0) v) (d := fun L => d (frac_Check.f (L 0)) (cmp_Or_Errno.f (L 0)) v) (fun L => f_b (L 0) v) (d_cn (frac_Check.F_cn 0) (cmp_Or_Errno.F_cn 0) v) h
noncomputable def spec (k : Nat) (args : List AV) (ss : List Slot) : Option Ans :=
  match args, ss with
  | [(.agg [(.int .i64 v0), (.int .i64 v1)]), (.agg [(.int .i64 v2), (.int .i64 v3)])], [] => some ⟨R, f k (v0, v1, v2, v3), enc⟩
  | _, _ => none
theorem spec_ok (k : Nat) : SpecOk Tryz.prog 119 (spec k) := by
  intro args ss ans x h hx X σ w vals hp
  unfold spec at h
  split at h
  · cases h
    exact spec_of cs_ok Tryz.func119 rfl rfl dec_ok (held_eq _).symm hx hp
  · cases h
end frac_both
noncomputable def t_frac_both (k : Nat) := tcons 119 (frac_both.spec k) (t_cmp_Or_Errno k)
theorem t_frac_both_ok (n g : Nat) : SpecOk Tryz.prog g (t_frac_both n g) := tcons_ok (frac_both.spec_ok n) (fun g => t_cmp_Or_Errno_ok n g) g
namespace bits_Mul64
abbrev R : Type := Int × Int
abbrev A : Type := Int × Int
def lv : List (Nat × List Nat) := [(2000000, [4, 5])]
noncomputable def cs : Nat → Ctx := ctxOf tis modes t_frac_both lv
theorem cs_ok (n : Nat) : CtxOk Tryz.prog (cs n) := ctxOf_ok rfl tis_ok t_frac_both_ok n
def enc (r : R) : Out := ((.tup [(.c (.int .u64 r.1)), (.c (.int .u64 r.2))]), [])
def dec : Out → Option R
  | ((.tup [(.c (.int .u64 v0)), (.c (.int .u64 v1))]), []) => some (v0, v1)
  | _ => none
theorem dec_ok : ∀ u y, dec u = some y → u = enc y := by
  intro u y h
  unfold dec at h
  split at h
  · cases h; rfl
  · cases h
noncomputable def b0 : Code := subF [] Tryz.f91
noncomputable def K0 (k : Nat) : Kt R := kTop (cs k) Tryz.f91 dec
noncomputable def f (k : Nat) : A → Option R := fun (v0, v1) => held (runFn cs k Tryz.f91 [(.c (.int .u64 v0)), (.c (.int .u64 v1))] [] dec)
noncomputable def F (v : A) : Option R := lim fun L => f (L 0) v
theorem F_cn (x : Nat) (v : A) : Cn late (F v) fun L => f (L x) v := of_lim.re [x]
def d : A → Option R := fun (v0, v1) =>
br (decide ((0 : Int) ≤ 32))
  (br (decide ((0 : Int) ≤ 32))
    (br (decide ((0 : Int) ≤ 32))
      (br (decide ((0 : Int) ≤ 32))
        (br (decide ((0 : Int) ≤ 32))
          (some
            (wrap IntKind.u64
                (wrap IntKind.u64
                    (wrap IntKind.u64 (shr IntKind.u64 v0 32 * shr IntKind.u64 v1 32) +
                      shr IntKind.u64
                        (wrap IntKind.u64
                          (wrap IntKind.u64 (shr IntKind.u64 v0 32 * bAnd IntKind.u64 v1 4294967295) + shr IntKind.u64 (wrap IntKind.u64 (bAnd IntKind.u64 v0 4294967295 * bAnd IntKind.u64 v1 4294967295)) 32))
                        32) +
                  shr IntKind.u64
                    (wrap IntKind.u64
                      (bAnd IntKind.u64
                          (wrap IntKind.u64
                            (wrap IntKind.u64 (shr IntKind.u64 v0 32 * bAnd IntKind.u64 v1 4294967295) + shr IntKind.u64 (wrap IntKind.u64 (bAnd IntKind.u64 v0 4294967295 * bAnd IntKind.u64 v1 4294967295)) 32))
                          4294967295 +
                        wrap IntKind.u64 (bAnd IntKind.u64 v0 4294967295 * shr IntKind.u64 v1 32)))
                    32),
              wrap IntKind.u64 (v0 * v1)))
          none)
        none)
      none)
    none)
  none
theorem d_cn {ι : Type} {E : Fil ι} : ∀ v : A, Cn E (d v) fun i => d v := fun (v0, v1) => (.br (.br (.br (.br (.br .some .none) .none) .none) .none) .none)
theorem f_b (k : Nat) : ∀ v : A, f k v = d v := fun (v0, v1) => (held_eq _).trans (by kernel_rfl)
theorem F_of (v : A) {r : R} (h : d v = some r) : F v = some r :=
  join_of (l := fun L => f (L 0) v) (d := fun L => d v) (fun L => f_b (L 0) v) (d_cn v) h
noncomputable def spec (k : Nat) (args : List AV) (ss : List Slot) : Option Ans :=
  match args, ss with
  | [(.c (.int .u64 v0)), (.c (.int .u64 v1))], [] => some ⟨R, f k (v0, v1), enc⟩
  | _, _ => none
theorem spec_ok (k : Nat) : SpecOk Tryz.prog 91 (spec k) := by
  intro args ss ans x h hx X σ w vals hp
  unfold spec at h
  split at h
  · cases h
    exact spec_of cs_ok Tryz.func91 rfl rfl dec_ok (held_eq _).symm hx hp
  · cases h
end bits_Mul64
noncomputable def t_bits_Mul64 (k : Nat) := tcons 91 (bits_Mul64.spec k) (t_frac_both k)
theorem t_bits_Mul64_ok (n g : Nat) : SpecOk Tryz.prog g (t_bits_Mul64 n g) := tcons_ok (bits_Mul64.spec_ok n) (fun g => t_frac_both_ok n g) g
namespace bits_Add64
abbrev R : Type := Int × Int
abbrev A : Type := Int × Int × Int
noncomputable def f (_ : Nat) : A → Option R := add64D
noncomputable def F (v : A) : Option R := add64D v
theorem F_cn (x : Nat) (v : A) : Cn late (F v) fun L => f (L x) v := .some
def d : A → Option R := add64D
theorem d_cn {ι : Type} {E : Fil ι} : ∀ v : A, Cn E (d v) fun _ => d v := fun _ => .some
theorem F_of (v : A) {r : R} (h : d v = some r) : F v = some r := h
noncomputable def spec (_ : Nat) : List AV → List Slot → Option Ans := carrySpec add64D
theorem spec_ok (k : Nat) : SpecOk Tryz.prog 111 (spec k) := add64_ok Tryz.func111 rfl rfl rfl (by kernel_rfl)
end bits_Add64
noncomputable def t_bits_Add64 (k : Nat) := tcons 111 (bits_Add64.spec k) (t_bits_Mul64 k)
theorem t_bits_Add64_ok (n g : Nat) : SpecOk Tryz.prog g (t_bits_Add64 n g) := tcons_ok (bits_Add64.spec_ok n) (fun g => t_bits_Mul64_ok n g) g
namespace num_Wide_Neg
abbrev R : Type := Int × Int
abbrev A : Type := Int × Int
def lv : List (Nat × List Nat) := [(2000000, [2])]
noncomputable def cs : Nat → Ctx := ctxOf tis modes t_bits_Add64 lv
theorem cs_ok (n : Nat) : CtxOk Tryz.prog (cs n) := ctxOf_ok rfl tis_ok t_bits_Add64_ok n
def enc (r : R) : Out := ((.agg [(.int .i64 r.1), (.int .u64 r.2)]), [])
def dec : Out → Option R
  | ((.agg [(.int .i64 v0), (.int .u64 v1)]), []) => some (v0, v1)
  | _ => none
theorem dec_ok : ∀ u y, dec u = some y → u = enc y := by
  intro u y h
  unfold dec at h
  split at h
  · cases h; rfl
  · cases h
noncomputable def b0 : Code := subF [] Tryz.f93
noncomputable def K0 (k : Nat) : Kt R := kTop (cs k) Tryz.f93 dec
noncomputable def f (k : Nat) : A → Option R := fun (v0, v1) => held (runFn cs k Tryz.f93 [(.agg [(.int .i64 v0), (.int .u64 v1)])] [] dec)
noncomputable def F (v : A) : Option R := lim fun L => f (L 0) v
theorem F_cn (x : Nat) (v : A) : Cn late (F v) fun L => f (L x) v := of_lim.re [x]
def d (bits_Add64_k : bits_Add64.A → Option bits_Add64.R) : A → Option R := fun (v0, v1) =>
bnd (bits_Add64_k (bXor IntKind.u64 18446744073709551615 v1, 1, 0)) fun r => bnd (bits_Add64_k (bXor IntKind.u64 18446744073709551615 (wrap IntKind.u64 v0), 0, r.snd)) fun r_1 => some (wrap IntKind.i64 r_1.fst, r.fst)
theorem d_cn {ι : Type} {E : Fil ι} {bits_Add64_k : bits_Add64.A → Option bits_Add64.R} {bits_Add64_k' : ι → bits_Add64.A → Option bits_Add64.R} (hbits_Add64_k : ∀ v, Cn E (bits_Add64_k v) fun i => bits_Add64_k' i v) : ∀ v : A, Cn E (d bits_Add64_k v) fun i => d (bits_Add64_k' i) v := fun (v0, v1) => (.bnd (hbits_Add64_k _) fun _ => (.bnd (hbits_Add64_k _) fun _ => .some))
theorem f_b (k : Nat) : ∀ v : A, f k v = d (bits_Add64.f k) v := fun (v0, v1) => (held_eq _).trans (by kernel_rfl)
theorem F_of (v : A) {r : R} (h : d bits_Add64.F v = some r) : F v = some r :=
  join_of (l := fun L => f (L 0) v) (d := fun L => d (bits_Add64.f (L 0)) v) (fun L => f_b (L 0) v) (d_cn (bits_Add64.F_cn 0) v) h
noncomputable def spec (k : Nat) (args : List AV) (ss : List Slot) : Option Ans :=
  match args, ss with
  | [(.agg [(.int .i64 v0), (.int .u64 v1)])], [] => some ⟨R, f k (v0, v1), enc⟩
  | _, _ => none
theorem spec_ok (k : Nat) : SpecOk Tryz.prog 93 (spec k) := by
  intro args ss ans x h hx X σ w vals hp
  unfold spec at h
  split at h
  · cases h
    exact spec_of cs_ok Tryz.func93 rfl rfl dec_ok (held_eq _).symm hx hp
  · cases h
end num_Wide_Neg
noncomputable def t_num_Wide_Neg (k : Nat) := tcons 93 (num_Wide_Neg.spec k) (t_bits_Add64 k)
theorem t_num_Wide_Neg_ok (n g : Nat) : SpecOk Tryz.prog g (t_num_Wide_Neg n g) := tcons_ok (num_Wide_Neg.spec_ok n) (fun g => t_bits_Add64_ok n g) g
namespace num_Product
abbrev R : Type := Int × Int
abbrev A : Type := Int × Int
def lv : List (Nat × List Nat) := [(2000000, [4])]
noncomputable def cs : Nat → Ctx := ctxOf tis modes t_num_Wide_Neg lv
theorem cs_ok (n : Nat) : CtxOk Tryz.prog (cs n) := ctxOf_ok rfl tis_ok t_num_Wide_Neg_ok n
def enc (r : R) : Out := ((.agg [(.int .i64 r.1), (.int .u64 r.2)]), [])
def dec : Out → Option R
  | ((.agg [(.int .i64 v0), (.int .u64 v1)]), []) => some (v0, v1)
  | _ => none
theorem dec_ok : ∀ u y, dec u = some y → u = enc y := by
  intro u y h
  unfold dec at h
  split at h
  · cases h; rfl
  · cases h
noncomputable def b0 : Code := subF [] Tryz.f58
noncomputable def K0 (k : Nat) : Kt R := kTop (cs k) Tryz.f58 dec
noncomputable def f (k : Nat) : A → Option R := fun (v0, v1) => held (runFn cs k Tryz.f58 [(.c (.int .i64 v0)), (.c (.int .i64 v1))] [] dec)
noncomputable def F (v : A) : Option R := lim fun L => f (L 0) v
theorem F_cn (x : Nat) (v : A) : Cn late (F v) fun L => f (L x) v := of_lim.re [x]
def d (num_size_k : num_size.A → Option num_size.R) (bits_Mul64_k : bits_Mul64.A → Option bits_Mul64.R) (num_Wide_Neg_k : num_Wide_Neg.A → Option num_Wide_Neg.R) : A → Option R := fun (v0, v1) =>
bnd (num_size_k v0) fun r =>
  bnd (num_size_k v1) fun r_1 =>
    bnd (bits_Mul64_k (r, r_1)) fun r => br (!decide (v0 < 0) == decide (v1 < 0)) (bnd (num_Wide_Neg_k (wrap IntKind.i64 r.fst, r.snd)) fun r => some (r.fst, r.snd)) (some (wrap IntKind.i64 r.fst, r.snd))
theorem d_cn {ι : Type} {E : Fil ι} {num_size_k : num_size.A → Option num_size.R} {num_size_k' : ι → num_size.A → Option num_size.R} (hnum_size_k : ∀ v, Cn E (num_size_k v) fun i => num_size_k' i v) {bits_Mul64_k : bits_Mul64.A → Option bits_Mul64.R} {bits_Mul64_k' : ι → bits_Mul64.A → Option bits_Mul64.R} (hbits_Mul64_k : ∀ v, Cn E (bits_Mul64_k v) fun i => bits_Mul64_k' i v) {num_Wide_Neg_k : num_Wide_Neg.A → Option num_Wide_Neg.R} {num_Wide_Neg_k' : ι → num_Wide_Neg.A → Option num_Wide_Neg.R} (hnum_Wide_Neg_k : ∀ v, Cn E (num_Wide_Neg_k v) fun i => num_Wide_Neg_k' i v) : ∀ v : A, Cn E (d num_size_k bits_Mul64_k num_Wide_Neg_k v) fun i => d (num_size_k' i) (bits_Mul64_k' i) (num_Wide_Neg_k' i) v := fun (v0, v1) => (.bnd (hnum_size_k _) fun _ => (.bnd (hnum_size_k _) fun _ => (.bnd (hbits_Mul64_k _) fun _ => (.br (.bnd (hnum_Wide_Neg_k _) fun _ => .some) .some))))
theorem f_b (k : Nat) : ∀ v : A, f k v = d (num_size.f k) (bits_Mul64.f k) (num_Wide_Neg.f k) v := fun (v0, v1) => (held_eq _).trans (by kernel_rfl)
theorem F_of (v : A) {r : R} (h : d num_size.F bits_Mul64.F num_Wide_Neg.F v = some r) : F v = some r :=
  join_of (l := fun L => f (L 0) v) (d := fun L => d (num_size.f (L 0)) (bits_Mul64.f (L 0)) (num_Wide_Neg.f (L 0)) v) (fun L => f_b (L 0) v) (d_cn (num_size.F_cn 0) (bits_Mul64.F_cn 0) (num_Wide_Neg.F_cn 0) v) h
noncomputable def spec (k : Nat) (args : List AV) (ss : List Slot) : Option Ans :=
  match args, ss with
  | [(.c (.int .i64 v0)), (.c (.int .i64 v1))], [] => some ⟨R, f k (v0, v1), enc⟩
  | _, _ => none
theorem spec_ok (k : Nat) : SpecOk Tryz.prog 58 (spec k) := by
  intro args ss ans x h hx X σ w vals hp
  unfold spec at h
  split at h
  · cases h
    exact spec_of cs_ok Tryz.func58 rfl rfl dec_ok (held_eq _).symm hx hp
  · cases h
end num_Product
noncomputable def t_num_Product (k : Nat) := tcons 58 (num_Product.spec k) (t_num_Wide_Neg k)
theorem t_num_Product_ok (n g : Nat) : SpecOk Tryz.prog g (t_num_Product n g) := tcons_ok (num_Product.spec_ok n) (fun g => t_num_Wide_Neg_ok n g) g
namespace cmp_isNaN_int64
abbrev R : Type := Bool
abbrev A : Type := Int
def lv : List (Nat × List Nat) := [(2000000, [2])]
noncomputable def cs : Nat → Ctx := ctxOf tis modes t_num_Product lv
theorem cs_ok (n : Nat) : CtxOk Tryz.prog (cs n) := ctxOf_ok rfl tis_ok t_num_Product_ok n
def enc (r : R) : Out := ((.c (.bool r)), [])
def dec : Out → Option R
  | ((.c (.bool v0)), []) => some v0
  | _ => none
theorem dec_ok : ∀ u y, dec u = some y → u = enc y := by
  intro u y h
  unfold dec at h
  split at h
  · cases h; rfl
  · cases h
noncomputable def b0 : Code := subF [] Tryz.f117
noncomputable def K0 (k : Nat) : Kt R := kTop (cs k) Tryz.f117 dec
noncomputable def f (k : Nat) : A → Option R := fun v0 => held (runFn cs k Tryz.f117 [(.c (.int .i64 v0))] [] dec)
noncomputable def F (v : A) : Option R := lim fun L => f (L 0) v
theorem F_cn (x : Nat) (v : A) : Cn late (F v) fun L => f (L x) v := of_lim.re [x]
def d : A → Option R := fun v0 =>
some !decide (v0 = v0)
theorem d_cn {ι : Type} {E : Fil ι} : ∀ v : A, Cn E (d v) fun i => d v := fun v0 => .some
theorem f_b (k : Nat) : ∀ v : A, f k v = d v := fun v0 => (held_eq _).trans (by kernel_rfl)
theorem F_of (v : A) {r : R} (h : d v = some r) : F v = some r :=
  join_of (l := fun L => f (L 0) v) (d := fun L => d v) (fun L => f_b (L 0) v) (d_cn v) h
noncomputable def spec (k : Nat) (args : List AV) (ss : List Slot) : Option Ans :=
  match args, ss with
  | [(.c (.int .i64 v0))], [] => some ⟨R, f k v0, enc⟩
  | _, _ => none
theorem spec_ok (k : Nat) : SpecOk Tryz.prog 117 (spec k) := by
  intro args ss ans x h hx X σ w vals hp
  unfold spec at h
  split at h
  · cases h
    exact spec_of cs_ok Tryz.func117 rfl rfl dec_ok (held_eq _).symm hx hp
  · cases h
end cmp_isNaN_int64
noncomputable def t_cmp_isNaN_int64 (k : Nat) := tcons 117 (cmp_isNaN_int64.spec k) (t_num_Product k)
theorem t_cmp_isNaN_int64_ok (n g : Nat) : SpecOk Tryz.prog g (t_cmp_isNaN_int64 n g) := tcons_ok (cmp_isNaN_int64.spec_ok n) (fun g => t_num_Product_ok n g) g
namespace cmp_Compare_int64
abbrev R : Type := Int
abbrev A : Type := Int × Int
def lv : List (Nat × List Nat) := [(2000000, [4])]
noncomputable def cs : Nat → Ctx := ctxOf tis modes t_cmp_isNaN_int64 lv
theorem cs_ok (n : Nat) : CtxOk Tryz.prog (cs n) := ctxOf_ok rfl tis_ok t_cmp_isNaN_int64_ok n
def enc (r : R) : Out := ((.c (.int .i64 r)), [])
def dec : Out → Option R
  | ((.c (.int .i64 v0)), []) => some v0
  | _ => none
theorem dec_ok : ∀ u y, dec u = some y → u = enc y := by
  intro u y h
  unfold dec at h
  split at h
  · cases h; rfl
  · cases h
noncomputable def b0 : Code := subF [] Tryz.f102
noncomputable def K0 (k : Nat) : Kt R := kTop (cs k) Tryz.f102 dec
noncomputable def f (k : Nat) : A → Option R := fun (v0, v1) => held (runFn cs k Tryz.f102 [(.c (.int .i64 v0)), (.c (.int .i64 v1))] [] dec)
noncomputable def F (v : A) : Option R := lim fun L => f (L 0) v
theorem F_cn (x : Nat) (v : A) : Cn late (F v) fun L => f (L x) v := of_lim.re [x]
def d (cmp_isNaN_int64_k : cmp_isNaN_int64.A → Option cmp_isNaN_int64.R) : A → Option R := fun (v0, v1) =>
bnd (cmp_isNaN_int64_k v0) fun r => bnd (cmp_isNaN_int64_k v1) fun r_1 => br r (br r_1 (some 0) (some (-1))) (br r_1 (some 1) (br (decide (v0 < v1)) (some (-1)) (br (decide (v1 < v0)) (some 1) (some 0))))
theorem d_cn {ι : Type} {E : Fil ι} {cmp_isNaN_int64_k : cmp_isNaN_int64.A → Option cmp_isNaN_int64.R} {cmp_isNaN_int64_k' : ι → cmp_isNaN_int64.A → Option cmp_isNaN_int64.R} (hcmp_isNaN_int64_k : ∀ v, Cn E (cmp_isNaN_int64_k v) fun i => cmp_isNaN_int64_k' i v) : ∀ v : A, Cn E (d cmp_isNaN_int64_k v) fun i => d (cmp_isNaN_int64_k' i) v := fun (v0, v1) => (.bnd (hcmp_isNaN_int64_k _) fun _ => (.bnd (hcmp_isNaN_int64_k _) fun _ => (.br (.br .some .some) (.br .some (.br .some (.br .some .some))))))
theorem f_b (k : Nat) : ∀ v : A, f k v = d (cmp_isNaN_int64.f k) v := fun (v0, v1) => (held_eq _).trans (by kernel_rfl)
theorem F_of (v : A) {r : R} (h : d cmp_isNaN_int64.F v = some r) : F v = some r :=
  join_of (l := fun L => f (L 0) v) (d := fun L => d (cmp_isNaN_int64.f (L 0)) v) (fun L => f_b (L 0) v) (d_cn (cmp_isNaN_int64.F_cn 0) v) h
noncomputable def spec (k : Nat) (args : List AV) (ss : List Slot) : Option Ans :=
  match args, ss with
  | [(.c (.int .i64 v0)), (.c (.int .i64 v1))], [] => some ⟨R, f k (v0, v1), enc⟩
  | _, _ => none
theorem spec_ok (k : Nat) : SpecOk Tryz.prog 102 (spec k) := by
  intro args ss ans x h hx X σ w vals hp
  unfold spec at h
  split at h
  · cases h
    exact spec_of cs_ok Tryz.func102 rfl rfl dec_ok (held_eq _).symm hx hp
  · cases h
end cmp_Compare_int64
noncomputable def t_cmp_Compare_int64 (k : Nat) := tcons 102 (cmp_Compare_int64.spec k) (t_cmp_isNaN_int64 k)
theorem t_cmp_Compare_int64_ok (n g : Nat) : SpecOk Tryz.prog g (t_cmp_Compare_int64 n g) := tcons_ok (cmp_Compare_int64.spec_ok n) (fun g => t_cmp_isNaN_int64_ok n g) g
namespace cmp_isNaN_uint64
abbrev R : Type := Bool
abbrev A : Type := Int
def lv : List (Nat × List Nat) := [(2000000, [2])]
noncomputable def cs : Nat → Ctx := ctxOf tis modes t_cmp_Compare_int64 lv
theorem cs_ok (n : Nat) : CtxOk Tryz.prog (cs n) := ctxOf_ok rfl tis_ok t_cmp_Compare_int64_ok n
def enc (r : R) : Out := ((.c (.bool r)), [])
def dec : Out → Option R
  | ((.c (.bool v0)), []) => some v0
  | _ => none
theorem dec_ok : ∀ u y, dec u = some y → u = enc y := by
  intro u y h
  unfold dec at h
  split at h
  · cases h; rfl
  · cases h
noncomputable def b0 : Code := subF [] Tryz.f118
noncomputable def K0 (k : Nat) : Kt R := kTop (cs k) Tryz.f118 dec
noncomputable def f (k : Nat) : A → Option R := fun v0 => held (runFn cs k Tryz.f118 [(.c (.int .u64 v0))] [] dec)
noncomputable def F (v : A) : Option R := lim fun L => f (L 0) v
theorem F_cn (x : Nat) (v : A) : Cn late (F v) fun L => f (L x) v := of_lim.re [x]
def d : A → Option R := fun v0 =>
some !decide (v0 = v0)
theorem d_cn {ι : Type} {E : Fil ι} : ∀ v : A, Cn E (d v) fun i => d v := fun v0 => .some
theorem f_b (k : Nat) : ∀ v : A, f k v = d v := fun v0 => (held_eq _).trans (by kernel_rfl)
theorem F_of (v : A) {r : R} (h : d v = some r) : F v = some r :=
  join_of (l := fun L => f (L 0) v) (d := fun L => d v) (fun L => f_b (L 0) v) (d_cn v) h
noncomputable def spec (k : Nat) (args : List AV) (ss : List Slot) : Option Ans :=
  match args, ss with
  | [(.c (.int .u64 v0))], [] => some ⟨R, f k v0, enc⟩
  | _, _ => none
theorem spec_ok (k : Nat) : SpecOk Tryz.prog 118 (spec k) := by
  intro args ss ans x h hx X σ w vals hp
  unfold spec at h
  split at h
  · cases h
    exact spec_of cs_ok Tryz.func118 rfl rfl dec_ok (held_eq _).symm hx hp
  · cases h
end cmp_isNaN_uint64
noncomputable def t_cmp_isNaN_uint64 (k : Nat) := tcons 118 (cmp_isNaN_uint64.spec k) (t_cmp_Compare_int64 k)
theorem t_cmp_isNaN_uint64_ok (n g : Nat) : SpecOk Tryz.prog g (t_cmp_isNaN_uint64 n g) := tcons_ok (cmp_isNaN_uint64.spec_ok n) (fun g => t_cmp_Compare_int64_ok n g) g
namespace cmp_Compare_uint64
abbrev R : Type := Int
abbrev A : Type := Int × Int
def lv : List (Nat × List Nat) := [(2000000, [4])]
noncomputable def cs : Nat → Ctx := ctxOf tis modes t_cmp_isNaN_uint64 lv
theorem cs_ok (n : Nat) : CtxOk Tryz.prog (cs n) := ctxOf_ok rfl tis_ok t_cmp_isNaN_uint64_ok n
def enc (r : R) : Out := ((.c (.int .i64 r)), [])
def dec : Out → Option R
  | ((.c (.int .i64 v0)), []) => some v0
  | _ => none
theorem dec_ok : ∀ u y, dec u = some y → u = enc y := by
  intro u y h
  unfold dec at h
  split at h
  · cases h; rfl
  · cases h
noncomputable def b0 : Code := subF [] Tryz.f103
noncomputable def K0 (k : Nat) : Kt R := kTop (cs k) Tryz.f103 dec
noncomputable def f (k : Nat) : A → Option R := fun (v0, v1) => held (runFn cs k Tryz.f103 [(.c (.int .u64 v0)), (.c (.int .u64 v1))] [] dec)
noncomputable def F (v : A) : Option R := lim fun L => f (L 0) v
theorem F_cn (x : Nat) (v : A) : Cn late (F v) fun L => f (L x) v := of_lim.re [x]
def d (cmp_isNaN_uint64_k : cmp_isNaN_uint64.A → Option cmp_isNaN_uint64.R) : A → Option R := fun (v0, v1) =>
bnd (cmp_isNaN_uint64_k v0) fun r => bnd (cmp_isNaN_uint64_k v1) fun r_1 => br r (br r_1 (some 0) (some (-1))) (br r_1 (some 1) (br (decide (v0 < v1)) (some (-1)) (br (decide (v1 < v0)) (some 1) (some 0))))
theorem d_cn {ι : Type} {E : Fil ι} {cmp_isNaN_uint64_k : cmp_isNaN_uint64.A → Option cmp_isNaN_uint64.R} {cmp_isNaN_uint64_k' : ι → cmp_isNaN_uint64.A → Option cmp_isNaN_uint64.R} (hcmp_isNaN_uint64_k : ∀ v, Cn E (cmp_isNaN_uint64_k v) fun i => cmp_isNaN_uint64_k' i v) : ∀ v : A, Cn E (d cmp_isNaN_uint64_k v) fun i => d (cmp_isNaN_uint64_k' i) v := fun (v0, v1) => (.bnd (hcmp_isNaN_uint64_k _) fun _ => (.bnd (hcmp_isNaN_uint64_k _) fun _ => (.br (.br .some .some) (.br .some (.br .some (.br .some .some))))))
theorem f_b (k : Nat) : ∀ v : A, f k v = d (cmp_isNaN_uint64.f k) v := fun (v0, v1) => (held_eq _).trans (by kernel_rfl)
theorem F_of (v : A) {r : R} (h : d cmp_isNaN_uint64.F v = some r) : F v = some r :=
  join_of (l := fun L => f (L 0) v) (d := fun L => d (cmp_isNaN_uint64.f (L 0)) v) (fun L => f_b (L 0) v) (d_cn (cmp_isNaN_uint64.F_cn 0) v) h
noncomputable def spec (k : Nat) (args : List AV) (ss : List Slot) : Option Ans :=
  match args, ss with
  | [(.c (.int .u64 v0)), (.c (.int .u64 v1))], [] => some ⟨R, f k (v0, v1), enc⟩
  | _, _ => none
theorem spec_ok (k : Nat) : SpecOk Tryz.prog 103 (spec k) := by
  intro args ss ans x h hx X σ w vals hp
  unfold spec at h
  split at h
  · cases h
    exact spec_of cs_ok Tryz.func103 rfl rfl dec_ok (held_eq _).symm hx hp
  · cases h
end cmp_Compare_uint64
noncomputable def t_cmp_Compare_uint64 (k : Nat) := tcons 103 (cmp_Compare_uint64.spec k) (t_cmp_isNaN_uint64 k)
theorem t_cmp_Compare_uint64_ok (n g : Nat) : SpecOk Tryz.prog g (t_cmp_Compare_uint64 n g) := tcons_ok (cmp_Compare_uint64.spec_ok n) (fun g => t_cmp_isNaN_uint64_ok n g) g
namespace cmp_Or_int
abbrev R : Type := Int
abbrev A : Type := List Int
def lv : List (Nat × List Nat) := [(2000000, [2]), (3, [3, 6, 7, 8])]
noncomputable def cs : Nat → Ctx := ctxOf tis modes t_cmp_Compare_uint64 lv
theorem cs_ok (n : Nat) : CtxOk Tryz.prog (cs n) := ctxOf_ok rfl tis_ok t_cmp_Compare_uint64_ok n
def enc (r : R) : Out := ((.c (.int .i64 r)), [])
def dec : Out → Option R
  | ((.c (.int .i64 v0)), []) => some v0
  | _ => none
theorem dec_ok : ∀ u y, dec u = some y → u = enc y := by
  intro u y h
  unfold dec at h
  split at h
  · cases h; rfl
  · cases h
noncomputable def b0 : Code := subF [] Tryz.f101
noncomputable def K0 (k : Nat) : Kt R := kTop (cs k) Tryz.f101 dec
noncomputable def b3 : Code := sub [1, 1, 0, 1, 0, 0] b0
noncomputable def K3 ( k : Nat) : Kt R := kAt (cs k) (loopN cs k) [1, 1, 0, 1, 0] b0 (K0 k)
abbrev T0 : Type := Int × List Int × Int × Int
def s0 : T0 → St := fun (v0, v1, v2, v3) => ⟨18, 0, [(3, (.c (.int .i64 v0))), (6, (.c (.frz (.int .i64) v1))), (7, (.c (.int .i64 v2))), (8, (.c (.int .i64 v3)))], [], [(256000000, .gone)]⟩
noncomputable def l0 ( k n : Nat) (v : T0) : Option R := held (loopN cs n b3 (K3 k) (s0 v))
noncomputable def D0 (v : T0) : Option R := lim fun L => l0 (L 0) (L 1) v
theorem D0_cn (v : T0) : Cn late (D0 v) fun L => l0 (L 0) (L 1) v := of_lim
def d0 (L0m1 : T0 → Option R) : T0 → Option R := fun (v0, v1, v2, v3) =>
br (decide (v3 < v2)) (br (decide (0 ≤ v3 ∧ v3 < (↑v1.length : Int))) (br (!decide (rd (Ty.int IntKind.i64) v1 v3 = v0)) (some (rd (Ty.int IntKind.i64) v1 v3)) (L0m1 (v0, v1, v2, wrap IntKind.i64 (v3 + 1)))) none)
  (some v0)
theorem d0_cn {ι : Type} {E : Fil ι} {L0m1 : T0 → Option R} {L0m1' : ι → T0 → Option R} (hL0m1 : ∀ v, Cn E (L0m1 v) fun i => L0m1' i v) : ∀ v : T0, Cn E (d0 L0m1 v) fun i => d0 (L0m1' i) v := fun (v0, v1, v2, v3) => (.br (.br (.br .some (hL0m1 _)) .none) .some)
theorem l0_b ( k m1 : Nat) : ∀ v : T0, run (cs m1) (loopN cs m1) b3 (kLoop cs m1 b3 (K3 k)) (s0 v) = d0 (l0 k m1) v := fun (v0, v1, v2, v3) => by kernel_rfl
theorem D0_of (v : T0) {r : R} (h : d0 D0 v = some r) : D0 v = some r :=
  loop_of 1 (l := fun L => l0 (L 0) (L 1) v) (d := fun L => d0 (l0 (L 0) (L 1)) v) (fun L n hn => by show l0 (L 0) (L 1) v = _; rw [hn]; exact (held_eq _).trans ((loopN_succ _ _ _ _ _).trans (l0_b (L 0) n v))) (d0_cn (fun v => (D0_cn v).re [0, 1]) v) h
noncomputable def f (k : Nat) : A → Option R := fun v0 => held (runFn cs k Tryz.f101 [(.c (.frz (.int .i64) v0))] [] dec)
noncomputable def F (v : A) : Option R := lim fun L => f (L 0) v
theorem F_cn (x : Nat) (v : A) : Cn late (F v) fun L => f (L x) v := of_lim.re [x]
def d (L0k : T0 → Option R) : A → Option R := fun v0 =>
L0k (0, v0, (↑v0.length : Int), 0)
theorem d_cn {ι : Type} {E : Fil ι} {L0k : T0 → Option R} {L0k' : ι → T0 → Option R} (hL0k : ∀ v, Cn E (L0k v) fun i => L0k' i v) : ∀ v : A, Cn E (d L0k v) fun i => d (L0k' i) v := fun v0 => (hL0k _)
theorem f_b (k : Nat) : ∀ v : A, f k v = d (l0 k k) v := fun v0 => (held_eq _).trans (by kernel_rfl)
theorem F_of (v : A) {r : R} (h : d D0 v = some r) : F v = some r :=
  join_of (l := fun L => f (L 0) v) (d := fun L => d (l0 (L 0) (L 0)) v) (fun L => f_b (L 0) v) (d_cn (fun v => (D0_cn v).re [0, 0]) v) h
noncomputable def spec (k : Nat) (args : List AV) (ss : List Slot) : Option Ans :=
  match args, ss with
  | [(.c (.frz (.int .i64) v0))], [] => some ⟨R, f k v0, enc⟩
  | _, _ => none
theorem spec_ok (k : Nat) : SpecOk Tryz.prog 101 (spec k) := by
  intro args ss ans x h hx X σ w vals hp
  unfold spec at h
  split at h
  · cases h
    exact spec_of cs_ok Tryz.func101 rfl rfl dec_ok (held_eq _).symm hx hp
  · cases h
end cmp_Or_int
noncomputable def t_cmp_Or_int (k : Nat) := tcons 101 (cmp_Or_int.spec k) (t_cmp_Compare_uint64 k)
theorem t_cmp_Or_int_ok (n g : Nat) : SpecOk Tryz.prog g (t_cmp_Or_int n g) := tcons_ok (cmp_Or_int.spec_ok n) (fun g => t_cmp_Compare_uint64_ok n g) g
namespace num_Wide_Cmp
abbrev R : Type := Int
abbrev A : Type := Int × Int × Int × Int
def lv : List (Nat × List Nat) := [(2000000, [4])]
noncomputable def cs : Nat → Ctx := ctxOf tis modes t_cmp_Or_int lv
theorem cs_ok (n : Nat) : CtxOk Tryz.prog (cs n) := ctxOf_ok rfl tis_ok t_cmp_Or_int_ok n
def enc (r : R) : Out := ((.c (.int .i64 r)), [])
def dec : Out → Option R
  | ((.c (.int .i64 v0)), []) => some v0
  | _ => none
theorem dec_ok : ∀ u y, dec u = some y → u = enc y := by
  intro u y h
  unfold dec at h
  split at h
  · cases h; rfl
  · cases h
noncomputable def b0 : Code := subF [] Tryz.f72
noncomputable def K0 (k : Nat) : Kt R := kTop (cs k) Tryz.f72 dec
noncomputable def f (k : Nat) : A → Option R := fun (v0, v1, v2, v3) => held (runFn cs k Tryz.f72 [(.agg [(.int .i64 v0), (.int .u64 v1)]), (.agg [(.int .i64 v2), (.int .u64 v3)])] [] dec)
noncomputable def F (v : A) : Option R := lim fun L => f (L 0) v
theorem F_cn (x : Nat) (v : A) : Cn late (F v) fun L => f (L x) v := of_lim.re [x]
def d (cmp_Compare_int64_k : cmp_Compare_int64.A → Option cmp_Compare_int64.R) (cmp_Compare_uint64_k : cmp_Compare_uint64.A → Option cmp_Compare_uint64.R) (cmp_Or_int_k : cmp_Or_int.A → Option cmp_Or_int.R) : A → Option R := fun (v0, v1, v2, v3) =>
bnd (cmp_Compare_int64_k (v0, v2)) fun r => bnd (cmp_Compare_uint64_k (v1, v3)) fun r_1 => bnd (cmp_Or_int_k [r, r_1]) fun r => some r
theorem d_cn {ι : Type} {E : Fil ι} {cmp_Compare_int64_k : cmp_Compare_int64.A → Option cmp_Compare_int64.R} {cmp_Compare_int64_k' : ι → cmp_Compare_int64.A → Option cmp_Compare_int64.R} (hcmp_Compare_int64_k : ∀ v, Cn E (cmp_Compare_int64_k v) fun i => cmp_Compare_int64_k' i v) {cmp_Compare_uint64_k : cmp_Compare_uint64.A → Option cmp_Compare_uint64.R} {cmp_Compare_uint64_k' : ι → cmp_Compare_uint64.A → Option cmp_Compare_uint64.R} (hcmp_Compare_uint64_k : ∀ v, Cn E (cmp_Compare_uint64_k v) fun i => cmp_Compare_uint64_k' i v) {cmp_Or_int_k : cmp_Or_int.A → Option cmp_Or_int.R} {cmp_Or_int_k' : ι → cmp_Or_int.A → Option cmp_Or_int.R} (hcmp_Or_int_k : ∀ v, Cn E (cmp_Or_int_k v) fun i => cmp_Or_int_k' i v) : ∀ v : A, Cn E (d cmp_Compare_int64_k cmp_Compare_uint64_k cmp_Or_int_k v) fun i => d (cmp_Compare_int64_k' i) (cmp_Compare_uint64_k' i) (cmp_Or_int_k' i) v := fun (v0, v1, v2, v3) => (.bnd (hcmp_Compare_int64_k _) fun _ => (.bnd (hcmp_Compare_uint64_k _) fun _ => (.bnd (hcmp_Or_int_k _) fun _ => .some)))
theorem f_b (k : Nat) : ∀ v : A, f k v = d (cmp_Compare_int64.f k) (cmp_Compare_uint64.f k) (cmp_Or_int.f k) v := fun (v0, v1, v2, v3) => (held_eq _).trans (by kernel_rfl)
theorem F_of (v : A) {r : R} (h : d cmp_Compare_int64.F cmp_Compare_uint64.F cmp_Or_int.F v = some r) : F v = some r :=
  join_of (l := fun L => f (L 0) v) (d := fun L => d (cmp_Compare_int64.f (L 0)) (cmp_Compare_uint64.f (L 0)) (cmp_Or_int.f (L 0)) v) (fun L => f_b (L 0) v) (d_cn (cmp_Compare_int64.F_cn 0) (cmp_Compare_uint64.F_cn 0) (cmp_Or_int.F_cn 0) v) h
noncomputable def spec (k : Nat) (args : List AV) (ss : List Slot) : Option Ans :=
  match args, ss with
  | [(.agg [(.int .i64 v0), (.int .u64 v1)]), (.agg [(.int .i64 v2), (.int .u64 v3)])], [] => some ⟨R, f k (v0, v1, v2, v3), enc⟩
  | _, _ => none
theorem spec_ok (k : Nat) : SpecOk Tryz.prog 72 (spec k) := by
  intro args ss ans x h hx X σ w vals hp
  unfold spec at h
  split at h
  · cases h
    exact spec_of cs_ok Tryz.func72 rfl rfl dec_ok (held_eq _).symm hx hp
  · cases h
end num_Wide_Cmp
noncomputable def t_num_Wide_Cmp (k : Nat) := tcons 72 (num_Wide_Cmp.spec k) (t_cmp_Or_int k)
theorem t_num_Wide_Cmp_ok (n g : Nat) : SpecOk Tryz.prog g (t_num_Wide_Cmp n g) := tcons_ok (num_Wide_Cmp.spec_ok n) (fun g => t_cmp_Or_int_ok n g) g
namespace frac_Cmp
abbrev R : Type := Int
abbrev A : Type := Int × Int × Int × Int
def lv : List (Nat × List Nat) := [(2000000, [4])]
noncomputable def cs : Nat → Ctx := ctxOf tis modes t_num_Wide_Cmp lv
theorem cs_ok (n : Nat) : CtxOk Tryz.prog (cs n) := ctxOf_ok rfl tis_ok t_num_Wide_Cmp_ok n
def enc (r : R) : Out := ((.c (.int .i64 r)), [])
def dec : Out → Option R
  | ((.c (.int .i64 v0)), []) => some v0
  | _ => none
theorem dec_ok : ∀ u y, dec u = some y → u = enc y := by
  intro u y h
  unfold dec at h
  split at h
  · cases h; rfl
  · cases h
noncomputable def b0 : Code := subF [] Tryz.f105
noncomputable def K0 (k : Nat) : Kt R := kTop (cs k) Tryz.f105 dec
noncomputable def f (k : Nat) : A → Option R := fun (v0, v1, v2, v3) => held (runFn cs k Tryz.f105 [(.agg [(.int .i64 v0), (.int .i64 v1)]), (.agg [(.int .i64 v2), (.int .i64 v3)])] [] dec)
noncomputable def F (v : A) : Option R := lim fun L => f (L 0) v
theorem F_cn (x : Nat) (v : A) : Cn late (F v) fun L => f (L x) v := of_lim.re [x]
def d (frac_both_k : frac_both.A → Option frac_both.R) (num_Product_k : num_Product.A → Option num_Product.R) (num_Wide_Cmp_k : num_Wide_Cmp.A → Option num_Wide_Cmp.R) : A → Option R := fun (v0, v1, v2, v3) =>
bnd (frac_both_k (v0, v1, v2, v3)) fun r =>
  br (!decide (r = 0)) (some 0) (bnd (num_Product_k (v0, v3)) fun r => bnd (num_Product_k (v2, v1)) fun r_1 => bnd (num_Wide_Cmp_k (r.fst, r.snd, r_1.fst, r_1.snd)) fun r => some r)
theorem d_cn {ι : Type} {E : Fil ι} {frac_both_k : frac_both.A → Option frac_both.R} {frac_both_k' : ι → frac_both.A → Option frac_both.R} (hfrac_both_k : ∀ v, Cn E (frac_both_k v) fun i => frac_both_k' i v) {num_Product_k : num_Product.A → Option num_Product.R} {num_Product_k' : ι → num_Product.A → Option num_Product.R} (hnum_Product_k : ∀ v, Cn E (num_Product_k v) fun i => num_Product_k' i v) {num_Wide_Cmp_k : num_Wide_Cmp.A → Option num_Wide_Cmp.R} {num_Wide_Cmp_k' : ι → num_Wide_Cmp.A → Option num_Wide_Cmp.R} (hnum_Wide_Cmp_k : ∀ v, Cn E (num_Wide_Cmp_k v) fun i => num_Wide_Cmp_k' i v) : ∀ v : A, Cn E (d frac_both_k num_Product_k num_Wide_Cmp_k v) fun i => d (frac_both_k' i) (num_Product_k' i) (num_Wide_Cmp_k' i) v := fun (v0, v1, v2, v3) => (.bnd (hfrac_both_k _) fun _ => (.br .some (.bnd (hnum_Product_k _) fun _ => (.bnd (hnum_Product_k _) fun _ => (.bnd (hnum_Wide_Cmp_k _) fun _ => .some)))))
theorem f_b (k : Nat) : ∀ v : A, f k v = d (frac_both.f k) (num_Product.f k) (num_Wide_Cmp.f k) v := fun (v0, v1, v2, v3) => (held_eq _).trans (by kernel_rfl)
theorem F_of (v : A) {r : R} (h : d frac_both.F num_Product.F num_Wide_Cmp.F v = some r) : F v = some r :=
  join_of (l := fun L => f (L 0) v) (d := fun L => d (frac_both.f (L 0)) (num_Product.f (L 0)) (num_Wide_Cmp.f (L 0)) v) (fun L => f_b (L 0) v) (d_cn (frac_both.F_cn 0) (num_Product.F_cn 0) (num_Wide_Cmp.F_cn 0) v) h
noncomputable def spec (k : Nat) (args : List AV) (ss : List Slot) : Option Ans :=
  match args, ss with
  | [(.agg [(.int .i64 v0), (.int .i64 v1)]), (.agg [(.int .i64 v2), (.int .i64 v3)])], [] => some ⟨R, f k (v0, v1, v2, v3), enc⟩
  | _, _ => none
theorem spec_ok (k : Nat) : SpecOk Tryz.prog 105 (spec k) := by
  intro args ss ans x h hx X σ w vals hp
  unfold spec at h
  split at h
  · cases h
    exact spec_of cs_ok Tryz.func105 rfl rfl dec_ok (held_eq _).symm hx hp
  · cases h
end frac_Cmp
noncomputable def t_frac_Cmp (k : Nat) := tcons 105 (frac_Cmp.spec k) (t_num_Wide_Cmp k)
theorem t_frac_Cmp_ok (n g : Nat) : SpecOk Tryz.prog g (t_frac_Cmp n g) := tcons_ok (frac_Cmp.spec_ok n) (fun g => t_num_Wide_Cmp_ok n g) g
namespace prop_CheckSpin
abbrev R : Type := Int
abbrev A : Type := Int × Int × Int × Int
def lv : List (Nat × List Nat) := [(2000000, [2])]
noncomputable def cs : Nat → Ctx := ctxOf tis modes t_frac_Cmp lv
theorem cs_ok (n : Nat) : CtxOk Tryz.prog (cs n) := ctxOf_ok rfl tis_ok t_frac_Cmp_ok n
def enc (r : R) : Out := ((.c (.int .i64 r)), [])
def dec : Out → Option R
  | ((.c (.int .i64 v0)), []) => some v0
  | _ => none
theorem dec_ok : ∀ u y, dec u = some y → u = enc y := by
  intro u y h
  unfold dec at h
  split at h
  · cases h; rfl
  · cases h
noncomputable def b0 : Code := subF [] Tryz.f78
noncomputable def K0 (k : Nat) : Kt R := kTop (cs k) Tryz.f78 dec
noncomputable def f (k : Nat) : A → Option R := fun (v0, v1, v2, v3) => held (runFn cs k Tryz.f78 [(.agg [(.int .i64 v0), (.int .i64 v1), (.int .i64 v2), (.int .i64 v3)])] [] dec)
noncomputable def F (v : A) : Option R := lim fun L => f (L 0) v
theorem F_cn (x : Nat) (v : A) : Cn late (F v) fun L => f (L x) v := of_lim.re [x]
def d (scale_CheckRate_k : scale_CheckRate.A → Option scale_CheckRate.R) (frac_Cmp_k : frac_Cmp.A → Option frac_Cmp.R) : A → Option R := fun (v0, v1, v2, v3) =>
bnd (scale_CheckRate_k (v0, v1, v2, v3)) fun r =>
  br (!decide (r = 0)) (some r) (bnd (frac_Cmp_k (v2, v3, 1, 1)) fun r => br (decide (r < 0) == false) (bnd (frac_Cmp_k (v2, v3, 100, 1)) fun r => br (decide (0 < r)) (some 4) (some 0)) (some 4))
theorem d_cn {ι : Type} {E : Fil ι} {scale_CheckRate_k : scale_CheckRate.A → Option scale_CheckRate.R} {scale_CheckRate_k' : ι → scale_CheckRate.A → Option scale_CheckRate.R} (hscale_CheckRate_k : ∀ v, Cn E (scale_CheckRate_k v) fun i => scale_CheckRate_k' i v) {frac_Cmp_k : frac_Cmp.A → Option frac_Cmp.R} {frac_Cmp_k' : ι → frac_Cmp.A → Option frac_Cmp.R} (hfrac_Cmp_k : ∀ v, Cn E (frac_Cmp_k v) fun i => frac_Cmp_k' i v) : ∀ v : A, Cn E (d scale_CheckRate_k frac_Cmp_k v) fun i => d (scale_CheckRate_k' i) (frac_Cmp_k' i) v := fun (v0, v1, v2, v3) => (.bnd (hscale_CheckRate_k _) fun _ => (.br .some (.bnd (hfrac_Cmp_k _) fun _ => (.br (.bnd (hfrac_Cmp_k _) fun _ => (.br .some .some)) .some))))
theorem f_b (k : Nat) : ∀ v : A, f k v = d (scale_CheckRate.f k) (frac_Cmp.f k) v := fun (v0, v1, v2, v3) => (held_eq _).trans (by kernel_rfl)
theorem F_of (v : A) {r : R} (h : d scale_CheckRate.F frac_Cmp.F v = some r) : F v = some r :=
  join_of (l := fun L => f (L 0) v) (d := fun L => d (scale_CheckRate.f (L 0)) (frac_Cmp.f (L 0)) v) (fun L => f_b (L 0) v) (d_cn (scale_CheckRate.F_cn 0) (frac_Cmp.F_cn 0) v) h
noncomputable def spec (k : Nat) (args : List AV) (ss : List Slot) : Option Ans :=
  match args, ss with
  | [(.agg [(.int .i64 v0), (.int .i64 v1), (.int .i64 v2), (.int .i64 v3)])], [] => some ⟨R, f k (v0, v1, v2, v3), enc⟩
  | _, _ => none
theorem spec_ok (k : Nat) : SpecOk Tryz.prog 78 (spec k) := by
  intro args ss ans x h hx X σ w vals hp
  unfold spec at h
  split at h
  · cases h
    exact spec_of cs_ok Tryz.func78 rfl rfl dec_ok (held_eq _).symm hx hp
  · cases h
end prop_CheckSpin
noncomputable def t_prop_CheckSpin (k : Nat) := tcons 78 (prop_CheckSpin.spec k) (t_frac_Cmp k)
theorem t_prop_CheckSpin_ok (n g : Nat) : SpecOk Tryz.prog g (t_prop_CheckSpin n g) := tcons_ok (prop_CheckSpin.spec_ok n) (fun g => t_frac_Cmp_ok n g) g
namespace sphere_Check
abbrev R : Type := Int
abbrev A : Type := Int × Int × Int
def lv : List (Nat × List Nat) := [(2000000, [2])]
noncomputable def cs : Nat → Ctx := ctxOf tis modes t_prop_CheckSpin lv
theorem cs_ok (n : Nat) : CtxOk Tryz.prog (cs n) := ctxOf_ok rfl tis_ok t_prop_CheckSpin_ok n
def enc (r : R) : Out := ((.c (.int .i64 r)), [])
def dec : Out → Option R
  | ((.c (.int .i64 v0)), []) => some v0
  | _ => none
theorem dec_ok : ∀ u y, dec u = some y → u = enc y := by
  intro u y h
  unfold dec at h
  split at h
  · cases h; rfl
  · cases h
noncomputable def b0 : Code := subF [] Tryz.f34
noncomputable def K0 (k : Nat) : Kt R := kTop (cs k) Tryz.f34 dec
noncomputable def f (k : Nat) : A → Option R := fun (v0, v1, v2) => held (runFn cs k Tryz.f34 [(.agg [(.int .i64 v0), (.int .i64 v1), (.int .i64 v2)])] [] dec)
noncomputable def F (v : A) : Option R := lim fun L => f (L 0) v
theorem F_cn (x : Nat) (v : A) : Cn late (F v) fun L => f (L x) v := of_lim.re [x]
def d : A → Option R := fun (v0, v1, v2) =>
br (decide (1048576 < max (max v0 v1) v2) || decide (min (min v0 v1) v2 < -1048576)) (some 4) (br (decide (v0 = 0) && (decide (v1 = 0) && (decide (v2 = 0) && true))) (some 8) (some 0))
theorem d_cn {ι : Type} {E : Fil ι} : ∀ v : A, Cn E (d v) fun i => d v := fun (v0, v1, v2) => (.br .some (.br .some .some))
theorem f_b (k : Nat) : ∀ v : A, f k v = d v := fun (v0, v1, v2) => (held_eq _).trans (by kernel_rfl)
theorem F_of (v : A) {r : R} (h : d v = some r) : F v = some r :=
  join_of (l := fun L => f (L 0) v) (d := fun L => d v) (fun L => f_b (L 0) v) (d_cn v) h
noncomputable def spec (k : Nat) (args : List AV) (ss : List Slot) : Option Ans :=
  match args, ss with
  | [(.agg [(.int .i64 v0), (.int .i64 v1), (.int .i64 v2)])], [] => some ⟨R, f k (v0, v1, v2), enc⟩
  | _, _ => none
theorem spec_ok (k : Nat) : SpecOk Tryz.prog 34 (spec k) := by
  intro args ss ans x h hx X σ w vals hp
  unfold spec at h
  split at h
  · cases h
    exact spec_of cs_ok Tryz.func34 rfl rfl dec_ok (held_eq _).symm hx hp
  · cases h
end sphere_Check
noncomputable def t_sphere_Check (k : Nat) := tcons 34 (sphere_Check.spec k) (t_prop_CheckSpin k)
theorem t_sphere_Check_ok (n g : Nat) : SpecOk Tryz.prog g (t_sphere_Check n g) := tcons_ok (sphere_Check.spec_ok n) (fun g => t_prop_CheckSpin_ok n g) g
namespace prop_CheckNight
abbrev R : Type := Int
abbrev A : Type := Int × Int × Int × Int × Int × Int × Int × Int × Int × Int × Int × Int × Int × Int × Int × Int × List Int
def lv : List (Nat × List Nat) := [(2000000, [2]), (17, [81, 82, 83])]
noncomputable def cs : Nat → Ctx := ctxOf tis modes t_sphere_Check lv
theorem cs_ok (n : Nat) : CtxOk Tryz.prog (cs n) := ctxOf_ok rfl tis_ok t_sphere_Check_ok n
def enc (r : R) : Out := ((.c (.int .i64 r)), [])
def dec : Out → Option R
  | ((.c (.int .i64 v0)), []) => some v0
  | _ => none
theorem dec_ok : ∀ u y, dec u = some y → u = enc y := by
  intro u y h
  unfold dec at h
  split at h
  · cases h; rfl
  · cases h
noncomputable def b0 : Code := subF [] Tryz.f47
noncomputable def K0 (k : Nat) : Kt R := kTop (cs k) Tryz.f47 dec
noncomputable def b17 : Code := sub [1, 1, 1, 1, 1, 1, 1, 1, 0, 1, 0, 0] b0
noncomputable def K17 ( k : Nat) : Kt R := kAt (cs k) (loopN cs k) [1, 1, 1, 1, 1, 1, 1, 1, 0, 1, 0] b0 (K0 k)
abbrev T0 : Type := List Int × Int × Int
def s0 : T0 → St := fun (v0, v1, v2) => ⟨91, 0, [(81, (.c (.frz (.int .i64) v0))), (82, (.c (.int .i64 v1))), (83, (.c (.int .i64 v2)))], [], [(256000000, .gone)]⟩
noncomputable def l0 ( k n : Nat) (v : T0) : Option R := held (loopN cs n b17 (K17 k) (s0 v))
noncomputable def D0 (v : T0) : Option R := lim fun L => l0 (L 0) (L 1) v
theorem D0_cn (v : T0) : Cn late (D0 v) fun L => l0 (L 0) (L 1) v := of_lim
def d0 (prop_within_m1 : prop_within.A → Option prop_within.R) (L0m1 : T0 → Option R) : T0 → Option R := fun (v0, v1, v2) =>
br (decide (v2 < v1)) (br (decide (0 ≤ v2 ∧ v2 < (↑v0.length : Int))) (bnd (prop_within_m1 (rd (Ty.int IntKind.i64) v0 v2, 0, 4)) fun r => br (!r) (some 4) (L0m1 (v0, v1, wrap IntKind.i64 (v2 + 1)))) none) (some 0)
theorem d0_cn {ι : Type} {E : Fil ι} {prop_within_m1 : prop_within.A → Option prop_within.R} {prop_within_m1' : ι → prop_within.A → Option prop_within.R} (hprop_within_m1 : ∀ v, Cn E (prop_within_m1 v) fun i => prop_within_m1' i v) {L0m1 : T0 → Option R} {L0m1' : ι → T0 → Option R} (hL0m1 : ∀ v, Cn E (L0m1 v) fun i => L0m1' i v) : ∀ v : T0, Cn E (d0 prop_within_m1 L0m1 v) fun i => d0 (prop_within_m1' i) (L0m1' i) v := fun (v0, v1, v2) => (.br (.br (.bnd (hprop_within_m1 _) fun _ => (.br .some (hL0m1 _))) .none) .some)
theorem l0_b ( k m1 : Nat) : ∀ v : T0, run (cs m1) (loopN cs m1) b17 (kLoop cs m1 b17 (K17 k)) (s0 v) = d0 (prop_within.f m1) (l0 k m1) v := fun (v0, v1, v2) => by kernel_rfl
theorem D0_of (v : T0) {r : R} (h : d0 prop_within.F D0 v = some r) : D0 v = some r :=
  loop_of 1 (l := fun L => l0 (L 0) (L 1) v) (d := fun L => d0 (prop_within.f (L 1)) (l0 (L 0) (L 1)) v) (fun L n hn => by show l0 (L 0) (L 1) v = _; rw [hn]; exact (held_eq _).trans ((loopN_succ _ _ _ _ _).trans (l0_b (L 0) n v))) (d0_cn (prop_within.F_cn 1) (fun v => (D0_cn v).re [0, 1]) v) h
noncomputable def f (k : Nat) : A → Option R := fun (v0, v1, v2, v3, v4, v5, v6, v7, v8, v9, v10, v11, v12, v13, v14, v15, v16) => held (runFn cs k Tryz.f47 [(.agg [(.int .i64 v0), (.int .i64 v1), (.int .i64 v2), (.int .i64 v3), (.int .i64 v4), (.int .i64 v5), (.int .i64 v6), (.int .i64 v7), (.int .i64 v8), (.int .i64 v9), (.int .i64 v10), (.int .i64 v11), (.int .i64 v12), (.int .i64 v13), (.int .i64 v14), (.int .i64 v15), (.frz (.int .i64) v16)])] [] dec)
noncomputable def F (v : A) : Option R := lim fun L => f (L 0) v
theorem F_cn (x : Nat) (v : A) : Cn late (F v) fun L => f (L x) v := of_lim.re [x]
def d (prop_within_k : prop_within.A → Option prop_within.R) (prop_CheckSpin_k : prop_CheckSpin.A → Option prop_CheckSpin.R) (sphere_Check_k : sphere_Check.A → Option sphere_Check.R) (L0k : T0 → Option R) : A → Option R := fun (v0, v1, v2, v3, v4, v5, v6, v7, v8, v9, v10, v11, v12, v13, v14, v15, v16) =>
bnd (prop_within_k (v8, 1, 64)) fun r =>
  br (!r || decide (v7 < 60000) || decide (1800000 < v7)) (some 4)
    (br (decide (v6 < -8796093022208) || decide (8796093022208 < v6)) (some 4)
      (br (decide (v0 < -1073741824) || decide (1073741824 < v0) || decide (v1 < 0) || decide (4294967296 ≤ v1)) (some 4)
        (bnd (prop_CheckSpin_k (v2, v3, v4, v5)) fun r =>
          br (!decide (r = 0)) (some r)
            (bnd (sphere_Check_k (v9, v10, v11)) fun r =>
              br ((!decide (r = 0)) == false)
                (bnd (sphere_Check_k (v12, v13, v14)) fun r =>
                  br (!decide (r = 0)) (some 3) (br (decide (v15 < -1073741824) || decide (0 < v15)) (some 4) (br (!decide ((↑v16.length : Int) = v8)) (some 3) (L0k (v16, (↑v16.length : Int), 0)))))
                (some 3)))))
theorem d_cn {ι : Type} {E : Fil ι} {prop_within_k : prop_within.A → Option prop_within.R} {prop_within_k' : ι → prop_within.A → Option prop_within.R} (hprop_within_k : ∀ v, Cn E (prop_within_k v) fun i => prop_within_k' i v) {prop_CheckSpin_k : prop_CheckSpin.A → Option prop_CheckSpin.R} {prop_CheckSpin_k' : ι → prop_CheckSpin.A → Option prop_CheckSpin.R} (hprop_CheckSpin_k : ∀ v, Cn E (prop_CheckSpin_k v) fun i => prop_CheckSpin_k' i v) {sphere_Check_k : sphere_Check.A → Option sphere_Check.R} {sphere_Check_k' : ι → sphere_Check.A → Option sphere_Check.R} (hsphere_Check_k : ∀ v, Cn E (sphere_Check_k v) fun i => sphere_Check_k' i v) {L0k : T0 → Option R} {L0k' : ι → T0 → Option R} (hL0k : ∀ v, Cn E (L0k v) fun i => L0k' i v) : ∀ v : A, Cn E (d prop_within_k prop_CheckSpin_k sphere_Check_k L0k v) fun i => d (prop_within_k' i) (prop_CheckSpin_k' i) (sphere_Check_k' i) (L0k' i) v := fun (v0, v1, v2, v3, v4, v5, v6, v7, v8, v9, v10, v11, v12, v13, v14, v15, v16) => (.bnd (hprop_within_k _) fun _ => (.br .some (.br .some (.br .some (.bnd (hprop_CheckSpin_k _) fun _ => (.br .some (.bnd (hsphere_Check_k _) fun _ => (.br (.bnd (hsphere_Check_k _) fun _ => (.br .some (.br .some (.br .some (hL0k _))))) .some))))))))
theorem f_b (k : Nat) : ∀ v : A, f k v = d (prop_within.f k) (prop_CheckSpin.f k) (sphere_Check.f k) (l0 k k) v := fun (v0, v1, v2, v3, v4, v5, v6, v7, v8, v9, v10, v11, v12, v13, v14, v15, v16) => (held_eq _).trans (by kernel_rfl)
theorem F_of (v : A) {r : R} (h : d prop_within.F prop_CheckSpin.F sphere_Check.F D0 v = some r) : F v = some r :=
  join_of (l := fun L => f (L 0) v) (d := fun L => d (prop_within.f (L 0)) (prop_CheckSpin.f (L 0)) (sphere_Check.f (L 0)) (l0 (L 0) (L 0)) v) (fun L => f_b (L 0) v) (d_cn (prop_within.F_cn 0) (prop_CheckSpin.F_cn 0) (sphere_Check.F_cn 0) (fun v => (D0_cn v).re [0, 0]) v) h
noncomputable def spec (k : Nat) (args : List AV) (ss : List Slot) : Option Ans :=
  match args, ss with
  | [(.agg [(.int .i64 v0), (.int .i64 v1), (.int .i64 v2), (.int .i64 v3), (.int .i64 v4), (.int .i64 v5), (.int .i64 v6), (.int .i64 v7), (.int .i64 v8), (.int .i64 v9), (.int .i64 v10), (.int .i64 v11), (.int .i64 v12), (.int .i64 v13), (.int .i64 v14), (.int .i64 v15), (.frz (.int .i64) v16)])], [] => some ⟨R, f k (v0, v1, v2, v3, v4, v5, v6, v7, v8, v9, v10, v11, v12, v13, v14, v15, v16), enc⟩
  | _, _ => none
theorem spec_ok (k : Nat) : SpecOk Tryz.prog 47 (spec k) := by
  intro args ss ans x h hx X σ w vals hp
  unfold spec at h
  split at h
  · cases h
    exact spec_of cs_ok Tryz.func47 rfl rfl dec_ok (held_eq _).symm hx hp
  · cases h
end prop_CheckNight
noncomputable def t_prop_CheckNight (k : Nat) := tcons 47 (prop_CheckNight.spec k) (t_sphere_Check k)
theorem t_prop_CheckNight_ok (n g : Nat) : SpecOk Tryz.prog g (t_prop_CheckNight n g) := tcons_ok (prop_CheckNight.spec_ok n) (fun g => t_sphere_Check_ok n g) g
namespace prop_CheckRequest
abbrev R : Type := Int
abbrev A : Type := Int × Int × Int × Int × Int × Int × Int × Int × Int × Int × Int × Int × Int
def lv : List (Nat × List Nat) := [(2000000, [2]), (1000012, [1])]
noncomputable def cs : Nat → Ctx := ctxOf tis modes t_prop_CheckNight lv
theorem cs_ok (n : Nat) : CtxOk Tryz.prog (cs n) := ctxOf_ok rfl tis_ok t_prop_CheckNight_ok n
def enc (r : R) : Out := ((.c (.int .i64 r)), [])
def dec : Out → Option R
  | ((.c (.int .i64 v0)), []) => some v0
  | _ => none
theorem dec_ok : ∀ u y, dec u = some y → u = enc y := by
  intro u y h
  unfold dec at h
  split at h
  · cases h; rfl
  · cases h
noncomputable def b0 : Code := subF [] Tryz.f48
noncomputable def K0 (k : Nat) : Kt R := kTop (cs k) Tryz.f48 dec
noncomputable def c1000012 : Code := sub [1, 1, 1, 1, 1] b0
noncomputable def J1000012 ( k : Nat) : Kt R := kAt (cs k) (loopN cs k) [1, 1, 1, 1, 1] b0 (K0 k)
abbrev T0 : Type := Int × Int × Int × Int × Int × Int × Int × Int × Int × Int × Int × Int × Int
def s0 : T0 → St := fun (v0, v1, v2, v3, v4, v5, v6, v7, v8, v9, v10, v11, v12) => ⟨72, 0, [(1, (.c (.ptr 64000000 0)))], [], [(256000000, .gone), (64000000, (.box [(.int .i64 v0), (.int .i64 v1), (.int .i64 v2), (.int .i64 v3), (.int .i64 v4), (.int .i64 v5), (.int .i64 v6), (.int .i64 v7), (.int .i64 v8), (.int .i64 v9), (.int .i64 v10), (.int .i64 v11), (.int .i64 v12)]))]⟩
noncomputable def l0 ( k : Nat) (v : T0) : Option R := held (run (cs k) (loopN cs k) c1000012 (J1000012 k) (s0 v))
noncomputable def D0 (v : T0) : Option R := lim fun L => l0 (L 0) v
theorem D0_cn (v : T0) : Cn late (D0 v) fun L => l0 (L 0) v := of_lim
def d0 (prop_within_k : prop_within.A → Option prop_within.R) : T0 → Option R := fun (v0, v1, v2, v3, v4, v5, v6, v7, v8, v9, v10, v11, v12) =>
br (decide (v9 < -1073741824) || decide (1073741824 < v9) || decide (v10 < -1073741824) || decide (1073741824 < v10)) (some 4)
  (bnd (prop_within_k (v11, 0, 4)) fun r => br ((!r) == false) (bnd (prop_within_k (v12, 1, 100)) fun r => br (!r) (some 4) (some 0)) (some 4))
theorem d0_cn {ι : Type} {E : Fil ι} {prop_within_k : prop_within.A → Option prop_within.R} {prop_within_k' : ι → prop_within.A → Option prop_within.R} (hprop_within_k : ∀ v, Cn E (prop_within_k v) fun i => prop_within_k' i v) : ∀ v : T0, Cn E (d0 prop_within_k v) fun i => d0 (prop_within_k' i) v := fun (v0, v1, v2, v3, v4, v5, v6, v7, v8, v9, v10, v11, v12) => (.br .some (.bnd (hprop_within_k _) fun _ => (.br (.bnd (hprop_within_k _) fun _ => (.br .some .some)) .some)))
theorem l0_b ( k : Nat) : ∀ v : T0, run (cs k) (loopN cs k) c1000012 (J1000012 k) (s0 v) = d0 (prop_within.f k) v := fun (v0, v1, v2, v3, v4, v5, v6, v7, v8, v9, v10, v11, v12) => by kernel_rfl
theorem D0_of (v : T0) {r : R} (h : d0 prop_within.F v = some r) : D0 v = some r :=
  join_of (l := fun L => l0 (L 0) v) (d := fun L => d0 (prop_within.f (L 0)) v) (fun L => (held_eq _).trans (l0_b (L 0) v)) (d0_cn (prop_within.F_cn 0) v) h
noncomputable def f (k : Nat) : A → Option R := fun (v0, v1, v2, v3, v4, v5, v6, v7, v8, v9, v10, v11, v12) => held (runFn cs k Tryz.f48 [(.agg [(.int .i64 v0), (.int .i64 v1), (.int .i64 v2), (.int .i64 v3), (.int .i64 v4), (.int .i64 v5), (.int .i64 v6), (.int .i64 v7), (.int .i64 v8), (.int .i64 v9), (.int .i64 v10), (.int .i64 v11), (.int .i64 v12)])] [] dec)
noncomputable def F (v : A) : Option R := lim fun L => f (L 0) v
theorem F_cn (x : Nat) (v : A) : Cn late (F v) fun L => f (L x) v := of_lim.re [x]
def d (prop_within_k : prop_within.A → Option prop_within.R) (sphere_Check_k : sphere_Check.A → Option sphere_Check.R) (L0k : T0 → Option R) : A → Option R := fun (v0, v1, v2, v3, v4, v5, v6, v7, v8, v9, v10, v11, v12) =>
bnd (prop_within_k (v0, 1, 999999)) fun r =>
  br (!r) (some 4)
    (bnd (sphere_Check_k (v2, v3, v4)) fun r =>
      br (!decide (r = 0)) (some 3)
        (bnd (prop_within_k (v5, 1, 8)) fun r =>
          br ((!r) == false)
            (bnd (prop_within_k (v6, 1, 4)) fun r =>
              br (!r) (some 4)
                (br (decide (v6 = 1)) (br (!decide (v7 = 0) || !decide (v8 = 0)) (some 3) (L0k (v0, v1, v2, v3, v4, v5, v6, v7, v8, v9, v10, v11, v12)))
                  (bnd (prop_within_k (v7, 1, 64)) fun r => br ((!r) == false) (bnd (prop_within_k (v8, v7, 64)) fun r => br (!r) (some 4) (L0k (v0, v1, v2, v3, v4, v5, v6, v7, v8, v9, v10, v11, v12))) (some 4))))
            (some 4)))
theorem d_cn {ι : Type} {E : Fil ι} {prop_within_k : prop_within.A → Option prop_within.R} {prop_within_k' : ι → prop_within.A → Option prop_within.R} (hprop_within_k : ∀ v, Cn E (prop_within_k v) fun i => prop_within_k' i v) {sphere_Check_k : sphere_Check.A → Option sphere_Check.R} {sphere_Check_k' : ι → sphere_Check.A → Option sphere_Check.R} (hsphere_Check_k : ∀ v, Cn E (sphere_Check_k v) fun i => sphere_Check_k' i v) {L0k : T0 → Option R} {L0k' : ι → T0 → Option R} (hL0k : ∀ v, Cn E (L0k v) fun i => L0k' i v) : ∀ v : A, Cn E (d prop_within_k sphere_Check_k L0k v) fun i => d (prop_within_k' i) (sphere_Check_k' i) (L0k' i) v := fun (v0, v1, v2, v3, v4, v5, v6, v7, v8, v9, v10, v11, v12) => (.bnd (hprop_within_k _) fun _ => (.br .some (.bnd (hsphere_Check_k _) fun _ => (.br .some (.bnd (hprop_within_k _) fun _ => (.br (.bnd (hprop_within_k _) fun _ => (.br .some (.br (.br .some (hL0k _)) (.bnd (hprop_within_k _) fun _ => (.br (.bnd (hprop_within_k _) fun _ => (.br .some (hL0k _))) .some))))) .some))))))
theorem f_b (k : Nat) : ∀ v : A, f k v = d (prop_within.f k) (sphere_Check.f k) (l0 k) v := fun (v0, v1, v2, v3, v4, v5, v6, v7, v8, v9, v10, v11, v12) => (held_eq _).trans (by kernel_rfl)
theorem F_of (v : A) {r : R} (h : d prop_within.F sphere_Check.F D0 v = some r) : F v = some r :=
  join_of (l := fun L => f (L 0) v) (d := fun L => d (prop_within.f (L 0)) (sphere_Check.f (L 0)) (l0 (L 0)) v) (fun L => f_b (L 0) v) (d_cn (prop_within.F_cn 0) (sphere_Check.F_cn 0) (fun v => (D0_cn v).re [0]) v) h
noncomputable def spec (k : Nat) (args : List AV) (ss : List Slot) : Option Ans :=
  match args, ss with
  | [(.agg [(.int .i64 v0), (.int .i64 v1), (.int .i64 v2), (.int .i64 v3), (.int .i64 v4), (.int .i64 v5), (.int .i64 v6), (.int .i64 v7), (.int .i64 v8), (.int .i64 v9), (.int .i64 v10), (.int .i64 v11), (.int .i64 v12)])], [] => some ⟨R, f k (v0, v1, v2, v3, v4, v5, v6, v7, v8, v9, v10, v11, v12), enc⟩
  | _, _ => none
theorem spec_ok (k : Nat) : SpecOk Tryz.prog 48 (spec k) := by
  intro args ss ans x h hx X σ w vals hp
  unfold spec at h
  split at h
  · cases h
    exact spec_of cs_ok Tryz.func48 rfl rfl dec_ok (held_eq _).symm hx hp
  · cases h
end prop_CheckRequest
noncomputable def t_prop_CheckRequest (k : Nat) := tcons 48 (prop_CheckRequest.spec k) (t_prop_CheckNight k)
theorem t_prop_CheckRequest_ok (n g : Nat) : SpecOk Tryz.prog g (t_prop_CheckRequest n g) := tcons_ok (prop_CheckRequest.spec_ok n) (fun g => t_prop_CheckNight_ok n g) g
namespace window_both
abbrev R : Type := Int
abbrev A : Type := Int × Int × Int × Int × Int × Int × Int × Int × Int × Int × Int × Int × Int × Int × Int × Int × List Int × Int × Int × Int × Int × Int × Int × Int × Int × Int × Int × Int × Int × Int
def lv : List (Nat × List Nat) := [(2000000, [4])]
noncomputable def cs : Nat → Ctx := ctxOf tis modes t_prop_CheckRequest lv
theorem cs_ok (n : Nat) : CtxOk Tryz.prog (cs n) := ctxOf_ok rfl tis_ok t_prop_CheckRequest_ok n
def enc (r : R) : Out := ((.c (.int .i64 r)), [])
def dec : Out → Option R
  | ((.c (.int .i64 v0)), []) => some v0
  | _ => none
theorem dec_ok : ∀ u y, dec u = some y → u = enc y := by
  intro u y h
  unfold dec at h
  split at h
  · cases h; rfl
  · cases h
noncomputable def b0 : Code := subF [] Tryz.f21
noncomputable def K0 (k : Nat) : Kt R := kTop (cs k) Tryz.f21 dec
noncomputable def f (k : Nat) : A → Option R := fun (v0, v1, v2, v3, v4, v5, v6, v7, v8, v9, v10, v11, v12, v13, v14, v15, v16, v17, v18, v19, v20, v21, v22, v23, v24, v25, v26, v27, v28, v29) => held (runFn cs k Tryz.f21 [(.agg [(.int .i64 v0), (.int .i64 v1), (.int .i64 v2), (.int .i64 v3), (.int .i64 v4), (.int .i64 v5), (.int .i64 v6), (.int .i64 v7), (.int .i64 v8), (.int .i64 v9), (.int .i64 v10), (.int .i64 v11), (.int .i64 v12), (.int .i64 v13), (.int .i64 v14), (.int .i64 v15), (.frz (.int .i64) v16)]), (.agg [(.int .i64 v17), (.int .i64 v18), (.int .i64 v19), (.int .i64 v20), (.int .i64 v21), (.int .i64 v22), (.int .i64 v23), (.int .i64 v24), (.int .i64 v25), (.int .i64 v26), (.int .i64 v27), (.int .i64 v28), (.int .i64 v29)])] [] dec)
noncomputable def F (v : A) : Option R := lim fun L => f (L 0) v
theorem F_cn (x : Nat) (v : A) : Cn late (F v) fun L => f (L x) v := of_lim.re [x]
def d (prop_CheckNight_k : prop_CheckNight.A → Option prop_CheckNight.R) (prop_CheckRequest_k : prop_CheckRequest.A → Option prop_CheckRequest.R) : A → Option R := fun (v0, v1, v2, v3, v4, v5, v6, v7, v8, v9, v10, v11, v12, v13, v14, v15, v16, v17, v18, v19, v20, v21, v22, v23, v24, v25, v26, v27, v28, v29) =>
bnd (prop_CheckNight_k (v0, v1, v2, v3, v4, v5, v6, v7, v8, v9, v10, v11, v12, v13, v14, v15, v16)) fun r =>
  br (!decide (r = 0)) (some r) (bnd (prop_CheckRequest_k (v17, v18, v19, v20, v21, v22, v23, v24, v25, v26, v27, v28, v29)) fun r => some r)
theorem d_cn {ι : Type} {E : Fil ι} {prop_CheckNight_k : prop_CheckNight.A → Option prop_CheckNight.R} {prop_CheckNight_k' : ι → prop_CheckNight.A → Option prop_CheckNight.R} (hprop_CheckNight_k : ∀ v, Cn E (prop_CheckNight_k v) fun i => prop_CheckNight_k' i v) {prop_CheckRequest_k : prop_CheckRequest.A → Option prop_CheckRequest.R} {prop_CheckRequest_k' : ι → prop_CheckRequest.A → Option prop_CheckRequest.R} (hprop_CheckRequest_k : ∀ v, Cn E (prop_CheckRequest_k v) fun i => prop_CheckRequest_k' i v) : ∀ v : A, Cn E (d prop_CheckNight_k prop_CheckRequest_k v) fun i => d (prop_CheckNight_k' i) (prop_CheckRequest_k' i) v := fun (v0, v1, v2, v3, v4, v5, v6, v7, v8, v9, v10, v11, v12, v13, v14, v15, v16, v17, v18, v19, v20, v21, v22, v23, v24, v25, v26, v27, v28, v29) => (.bnd (hprop_CheckNight_k _) fun _ => (.br .some (.bnd (hprop_CheckRequest_k _) fun _ => .some)))
theorem f_b (k : Nat) : ∀ v : A, f k v = d (prop_CheckNight.f k) (prop_CheckRequest.f k) v := fun (v0, v1, v2, v3, v4, v5, v6, v7, v8, v9, v10, v11, v12, v13, v14, v15, v16, v17, v18, v19, v20, v21, v22, v23, v24, v25, v26, v27, v28, v29) => (held_eq _).trans (by kernel_rfl)
theorem F_of (v : A) {r : R} (h : d prop_CheckNight.F prop_CheckRequest.F v = some r) : F v = some r :=
  join_of (l := fun L => f (L 0) v) (d := fun L => d (prop_CheckNight.f (L 0)) (prop_CheckRequest.f (L 0)) v) (fun L => f_b (L 0) v) (d_cn (prop_CheckNight.F_cn 0) (prop_CheckRequest.F_cn 0) v) h
noncomputable def spec (k : Nat) (args : List AV) (ss : List Slot) : Option Ans :=
  match args, ss with
  | [(.agg [(.int .i64 v0), (.int .i64 v1), (.int .i64 v2), (.int .i64 v3), (.int .i64 v4), (.int .i64 v5), (.int .i64 v6), (.int .i64 v7), (.int .i64 v8), (.int .i64 v9), (.int .i64 v10), (.int .i64 v11), (.int .i64 v12), (.int .i64 v13), (.int .i64 v14), (.int .i64 v15), (.frz (.int .i64) v16)]), (.agg [(.int .i64 v17), (.int .i64 v18), (.int .i64 v19), (.int .i64 v20), (.int .i64 v21), (.int .i64 v22), (.int .i64 v23), (.int .i64 v24), (.int .i64 v25), (.int .i64 v26), (.int .i64 v27), (.int .i64 v28), (.int .i64 v29)])], [] => some ⟨R, f k (v0, v1, v2, v3, v4, v5, v6, v7, v8, v9, v10, v11, v12, v13, v14, v15, v16, v17, v18, v19, v20, v21, v22, v23, v24, v25, v26, v27, v28, v29), enc⟩
  | _, _ => none
theorem spec_ok (k : Nat) : SpecOk Tryz.prog 21 (spec k) := by
  intro args ss ans x h hx X σ w vals hp
  unfold spec at h
  split at h
  · cases h
    exact spec_of cs_ok Tryz.func21 rfl rfl dec_ok (held_eq _).symm hx hp
  · cases h
end window_both
noncomputable def t_window_both (k : Nat) := tcons 21 (window_both.spec k) (t_prop_CheckRequest k)
theorem t_window_both_ok (n g : Nat) : SpecOk Tryz.prog g (t_window_both n g) := tcons_ok (window_both.spec_ok n) (fun g => t_prop_CheckRequest_ok n g) g
namespace window_when
abbrev R : Type := Int × Int × Bool
abbrev A : Type := Int × Int × Int × Int × Int × Int × Int × Int × Int × Int × Int × Int × Int × Int × Int × Int × List Int × Int × Int
def lv : List (Nat × List Nat) := [(2000000, [6])]
noncomputable def cs : Nat → Ctx := ctxOf tis modes t_window_both lv
theorem cs_ok (n : Nat) : CtxOk Tryz.prog (cs n) := ctxOf_ok rfl tis_ok t_window_both_ok n
def enc (r : R) : Out := ((.agg [(.int .i64 r.1), (.int .i64 r.2.1), (.bool r.2.2)]), [])
def dec : Out → Option R
  | ((.agg [(.int .i64 v0), (.int .i64 v1), (.bool v2)]), []) => some (v0, v1, v2)
  | _ => none
theorem dec_ok : ∀ u y, dec u = some y → u = enc y := by
  intro u y h
  unfold dec at h
  split at h
  · cases h; rfl
  · cases h
noncomputable def b0 : Code := subF [] Tryz.f79
noncomputable def K0 (k : Nat) : Kt R := kTop (cs k) Tryz.f79 dec
noncomputable def f (k : Nat) : A → Option R := fun (v0, v1, v2, v3, v4, v5, v6, v7, v8, v9, v10, v11, v12, v13, v14, v15, v16, v17, v18) => held (runFn cs k Tryz.f79 [(.agg [(.int .i64 v0), (.int .i64 v1), (.int .i64 v2), (.int .i64 v3), (.int .i64 v4), (.int .i64 v5), (.int .i64 v6), (.int .i64 v7), (.int .i64 v8), (.int .i64 v9), (.int .i64 v10), (.int .i64 v11), (.int .i64 v12), (.int .i64 v13), (.int .i64 v14), (.int .i64 v15), (.frz (.int .i64) v16)]), (.c (.int .i64 v17)), (.c (.int .i64 v18))] [] dec)
noncomputable def F (v : A) : Option R := lim fun L => f (L 0) v
theorem F_cn (x : Nat) (v : A) : Cn late (F v) fun L => f (L x) v := of_lim.re [x]
def d : A → Option R := fun (v0, v1, v2, v3, v4, v5, v6, v7, v8, v9, v10, v11, v12, v13, v14, v15, v16, v17, v18) =>
some (wrap IntKind.i64 (v6 + wrap IntKind.i64 (v17 * v7)), wrap IntKind.i64 (v6 + wrap IntKind.i64 (v18 * v7)), false)
theorem d_cn {ι : Type} {E : Fil ι} : ∀ v : A, Cn E (d v) fun i => d v := fun (v0, v1, v2, v3, v4, v5, v6, v7, v8, v9, v10, v11, v12, v13, v14, v15, v16, v17, v18) => .some
theorem f_b (k : Nat) : ∀ v : A, f k v = d v := fun (v0, v1, v2, v3, v4, v5, v6, v7, v8, v9, v10, v11, v12, v13, v14, v15, v16, v17, v18) => (held_eq _).trans (by kernel_rfl)
theorem F_of (v : A) {r : R} (h : d v = some r) : F v = some r :=
  join_of (l := fun L => f (L 0) v) (d := fun L => d v) (fun L => f_b (L 0) v) (d_cn v) h
noncomputable def spec (k : Nat) (args : List AV) (ss : List Slot) : Option Ans :=
  match args, ss with
  | [(.agg [(.int .i64 v0), (.int .i64 v1), (.int .i64 v2), (.int .i64 v3), (.int .i64 v4), (.int .i64 v5), (.int .i64 v6), (.int .i64 v7), (.int .i64 v8), (.int .i64 v9), (.int .i64 v10), (.int .i64 v11), (.int .i64 v12), (.int .i64 v13), (.int .i64 v14), (.int .i64 v15), (.frz (.int .i64) v16)]), (.c (.int .i64 v17)), (.c (.int .i64 v18))], [] => some ⟨R, f k (v0, v1, v2, v3, v4, v5, v6, v7, v8, v9, v10, v11, v12, v13, v14, v15, v16, v17, v18), enc⟩
  | _, _ => none
theorem spec_ok (k : Nat) : SpecOk Tryz.prog 79 (spec k) := by
  intro args ss ans x h hx X σ w vals hp
  unfold spec at h
  split at h
  · cases h
    exact spec_of cs_ok Tryz.func79 rfl rfl dec_ok (held_eq _).symm hx hp
  · cases h
end window_when
noncomputable def t_window_when (k : Nat) := tcons 79 (window_when.spec k) (t_window_both k)
theorem t_window_when_ok (n g : Nat) : SpecOk Tryz.prog g (t_window_when n g) := tcons_ok (window_when.spec_ok n) (fun g => t_window_both_ok n g) g
namespace bound_Check_Tick
abbrev R : Type := Int
abbrev A : Type := Int × Int × Bool
def lv : List (Nat × List Nat) := [(2000000, [2])]
noncomputable def cs : Nat → Ctx := ctxOf tis modes t_window_when lv
theorem cs_ok (n : Nat) : CtxOk Tryz.prog (cs n) := ctxOf_ok rfl tis_ok t_window_when_ok n
def enc (r : R) : Out := ((.c (.int .i64 r)), [])
def dec : Out → Option R
  | ((.c (.int .i64 v0)), []) => some v0
  | _ => none
theorem dec_ok : ∀ u y, dec u = some y → u = enc y := by
  intro u y h
  unfold dec at h
  split at h
  · cases h; rfl
  · cases h
noncomputable def b0 : Code := subF [] Tryz.f96
noncomputable def K0 (k : Nat) : Kt R := kTop (cs k) Tryz.f96 dec
noncomputable def f (k : Nat) : A → Option R := fun (v0, v1, v2) => held (runFn cs k Tryz.f96 [(.agg [(.int .i64 v0), (.int .i64 v1), (.bool v2)])] [] dec)
noncomputable def F (v : A) : Option R := lim fun L => f (L 0) v
theorem F_cn (x : Nat) (v : A) : Cn late (F v) fun L => f (L x) v := of_lim.re [x]
def d : A → Option R := fun (v0, v1, v2) =>
br (v2 && (!decide (v0 = 0) || !decide (v1 = 0))) (some 3) (br (decide (min v0 v1 < -1152921504606846976) || decide (1152921504606846976 < max v0 v1)) (some 4) (br (decide (v1 < v0)) (some 11) (some 0)))
theorem d_cn {ι : Type} {E : Fil ι} : ∀ v : A, Cn E (d v) fun i => d v := fun (v0, v1, v2) => (.br .some (.br .some (.br .some .some)))
theorem f_b (k : Nat) : ∀ v : A, f k v = d v := fun (v0, v1, v2) => (held_eq _).trans (by kernel_rfl)
theorem F_of (v : A) {r : R} (h : d v = some r) : F v = some r :=
  join_of (l := fun L => f (L 0) v) (d := fun L => d v) (fun L => f_b (L 0) v) (d_cn v) h
noncomputable def spec (k : Nat) (args : List AV) (ss : List Slot) : Option Ans :=
  match args, ss with
  | [(.agg [(.int .i64 v0), (.int .i64 v1), (.bool v2)])], [] => some ⟨R, f k (v0, v1, v2), enc⟩
  | _, _ => none
theorem spec_ok (k : Nat) : SpecOk Tryz.prog 96 (spec k) := by
  intro args ss ans x h hx X σ w vals hp
  unfold spec at h
  split at h
  · cases h
    exact spec_of cs_ok Tryz.func96 rfl rfl dec_ok (held_eq _).symm hx hp
  · cases h
end bound_Check_Tick
noncomputable def t_bound_Check_Tick (k : Nat) := tcons 96 (bound_Check_Tick.spec k) (t_window_when k)
theorem t_bound_Check_Tick_ok (n g : Nat) : SpecOk Tryz.prog g (t_bound_Check_Tick n g) := tcons_ok (bound_Check_Tick.spec_ok n) (fun g => t_window_when_ok n g) g
namespace bound_None_Tick
abbrev R : Type := Int × Int × Bool
abbrev A : Type := Unit
def lv : List (Nat × List Nat) := [(2000000, [0])]
noncomputable def cs : Nat → Ctx := ctxOf tis modes t_bound_Check_Tick lv
theorem cs_ok (n : Nat) : CtxOk Tryz.prog (cs n) := ctxOf_ok rfl tis_ok t_bound_Check_Tick_ok n
def enc (r : R) : Out := ((.agg [(.int .i64 r.1), (.int .i64 r.2.1), (.bool r.2.2)]), [])
def dec : Out → Option R
  | ((.agg [(.int .i64 v0), (.int .i64 v1), (.bool v2)]), []) => some (v0, v1, v2)
  | _ => none
theorem dec_ok : ∀ u y, dec u = some y → u = enc y := by
  intro u y h
  unfold dec at h
  split at h
  · cases h; rfl
  · cases h
noncomputable def b0 : Code := subF [] Tryz.f87
noncomputable def K0 (k : Nat) : Kt R := kTop (cs k) Tryz.f87 dec
noncomputable def f (k : Nat) : A → Option R := fun _ => held (runFn cs k Tryz.f87 [] [] dec)
noncomputable def F (v : A) : Option R := lim fun L => f (L 0) v
theorem F_cn (x : Nat) (v : A) : Cn late (F v) fun L => f (L x) v := of_lim.re [x]
def d : A → Option R := fun _ =>
some (0, 0, true)
theorem d_cn {ι : Type} {E : Fil ι} : ∀ v : A, Cn E (d v) fun i => d v := fun _ => .some
theorem f_b (k : Nat) : ∀ v : A, f k v = d v := fun _ => (held_eq _).trans (by kernel_rfl)
theorem F_of (v : A) {r : R} (h : d v = some r) : F v = some r :=
  join_of (l := fun L => f (L 0) v) (d := fun L => d v) (fun L => f_b (L 0) v) (d_cn v) h
noncomputable def spec (k : Nat) (args : List AV) (ss : List Slot) : Option Ans :=
  match args, ss with
  | [], [] => some ⟨R, f k (), enc⟩
  | _, _ => none
theorem spec_ok (k : Nat) : SpecOk Tryz.prog 87 (spec k) := by
  intro args ss ans x h hx X σ w vals hp
  unfold spec at h
  split at h
  · cases h
    exact spec_of cs_ok Tryz.func87 rfl rfl dec_ok (held_eq _).symm hx hp
  · cases h
end bound_None_Tick
noncomputable def t_bound_None_Tick (k : Nat) := tcons 87 (bound_None_Tick.spec k) (t_bound_Check_Tick k)
theorem t_bound_None_Tick_ok (n g : Nat) : SpecOk Tryz.prog g (t_bound_None_Tick n g) := tcons_ok (bound_None_Tick.spec_ok n) (fun g => t_bound_Check_Tick_ok n g) g
namespace bound_Norm_Tick
abbrev R : Type := Int × Int × Bool
abbrev A : Type := Int × Int × Bool
def lv : List (Nat × List Nat) := [(2000000, [2])]
noncomputable def cs : Nat → Ctx := ctxOf tis modes t_bound_None_Tick lv
theorem cs_ok (n : Nat) : CtxOk Tryz.prog (cs n) := ctxOf_ok rfl tis_ok t_bound_None_Tick_ok n
def enc (r : R) : Out := ((.agg [(.int .i64 r.1), (.int .i64 r.2.1), (.bool r.2.2)]), [])
def dec : Out → Option R
  | ((.agg [(.int .i64 v0), (.int .i64 v1), (.bool v2)]), []) => some (v0, v1, v2)
  | _ => none
theorem dec_ok : ∀ u y, dec u = some y → u = enc y := by
  intro u y h
  unfold dec at h
  split at h
  · cases h; rfl
  · cases h
noncomputable def b0 : Code := subF [] Tryz.f63
noncomputable def K0 (k : Nat) : Kt R := kTop (cs k) Tryz.f63 dec
noncomputable def f (k : Nat) : A → Option R := fun (v0, v1, v2) => held (runFn cs k Tryz.f63 [(.agg [(.int .i64 v0), (.int .i64 v1), (.bool v2)])] [] dec)
noncomputable def F (v : A) : Option R := lim fun L => f (L 0) v
theorem F_cn (x : Nat) (v : A) : Cn late (F v) fun L => f (L x) v := of_lim.re [x]
def d (bound_Check_Tick_k : bound_Check_Tick.A → Option bound_Check_Tick.R) (bound_None_Tick_k : bound_None_Tick.A → Option bound_None_Tick.R) : A → Option R := fun (v0, v1, v2) =>
bnd (bound_Check_Tick_k (v0, v1, v2)) fun r => br (!decide (r = 0)) (bnd (bound_None_Tick_k ()) fun r => some (r.fst, r.snd.fst, r.snd.snd)) (some (v0, v1, v2))
theorem d_cn {ι : Type} {E : Fil ι} {bound_Check_Tick_k : bound_Check_Tick.A → Option bound_Check_Tick.R} {bound_Check_Tick_k' : ι → bound_Check_Tick.A → Option bound_Check_Tick.R} (hbound_Check_Tick_k : ∀ v, Cn E (bound_Check_Tick_k v) fun i => bound_Check_Tick_k' i v) {bound_None_Tick_k : bound_None_Tick.A → Option bound_None_Tick.R} {bound_None_Tick_k' : ι → bound_None_Tick.A → Option bound_None_Tick.R} (hbound_None_Tick_k : ∀ v, Cn E (bound_None_Tick_k v) fun i => bound_None_Tick_k' i v) : ∀ v : A, Cn E (d bound_Check_Tick_k bound_None_Tick_k v) fun i => d (bound_Check_Tick_k' i) (bound_None_Tick_k' i) v := fun (v0, v1, v2) => (.bnd (hbound_Check_Tick_k _) fun _ => (.br (.bnd (hbound_None_Tick_k _) fun _ => .some) .some))
theorem f_b (k : Nat) : ∀ v : A, f k v = d (bound_Check_Tick.f k) (bound_None_Tick.f k) v := fun (v0, v1, v2) => (held_eq _).trans (by kernel_rfl)
theorem F_of (v : A) {r : R} (h : d bound_Check_Tick.F bound_None_Tick.F v = some r) : F v = some r :=
  join_of (l := fun L => f (L 0) v) (d := fun L => d (bound_Check_Tick.f (L 0)) (bound_None_Tick.f (L 0)) v) (fun L => f_b (L 0) v) (d_cn (bound_Check_Tick.F_cn 0) (bound_None_Tick.F_cn 0) v) h
noncomputable def spec (k : Nat) (args : List AV) (ss : List Slot) : Option Ans :=
  match args, ss with
  | [(.agg [(.int .i64 v0), (.int .i64 v1), (.bool v2)])], [] => some ⟨R, f k (v0, v1, v2), enc⟩
  | _, _ => none
theorem spec_ok (k : Nat) : SpecOk Tryz.prog 63 (spec k) := by
  intro args ss ans x h hx X σ w vals hp
  unfold spec at h
  split at h
  · cases h
    exact spec_of cs_ok Tryz.func63 rfl rfl dec_ok (held_eq _).symm hx hp
  · cases h
end bound_Norm_Tick
noncomputable def t_bound_Norm_Tick (k : Nat) := tcons 63 (bound_Norm_Tick.spec k) (t_bound_None_Tick k)
theorem t_bound_Norm_Tick_ok (n g : Nat) : SpecOk Tryz.prog g (t_bound_Norm_Tick n g) := tcons_ok (bound_Norm_Tick.spec_ok n) (fun g => t_bound_None_Tick_ok n g) g
namespace bound_Of_Tick
abbrev R : Type := Int × Int × Bool
abbrev A : Type := Int × Int
def lv : List (Nat × List Nat) := [(2000000, [4])]
noncomputable def cs : Nat → Ctx := ctxOf tis modes t_bound_Norm_Tick lv
theorem cs_ok (n : Nat) : CtxOk Tryz.prog (cs n) := ctxOf_ok rfl tis_ok t_bound_Norm_Tick_ok n
def enc (r : R) : Out := ((.agg [(.int .i64 r.1), (.int .i64 r.2.1), (.bool r.2.2)]), [])
def dec : Out → Option R
  | ((.agg [(.int .i64 v0), (.int .i64 v1), (.bool v2)]), []) => some (v0, v1, v2)
  | _ => none
theorem dec_ok : ∀ u y, dec u = some y → u = enc y := by
  intro u y h
  unfold dec at h
  split at h
  · cases h; rfl
  · cases h
noncomputable def b0 : Code := subF [] Tryz.f31
noncomputable def K0 (k : Nat) : Kt R := kTop (cs k) Tryz.f31 dec
noncomputable def f (k : Nat) : A → Option R := fun (v0, v1) => held (runFn cs k Tryz.f31 [(.c (.int .i64 v0)), (.c (.int .i64 v1))] [] dec)
noncomputable def F (v : A) : Option R := lim fun L => f (L 0) v
theorem F_cn (x : Nat) (v : A) : Cn late (F v) fun L => f (L x) v := of_lim.re [x]
def d (bound_Norm_Tick_k : bound_Norm_Tick.A → Option bound_Norm_Tick.R) : A → Option R := fun (v0, v1) =>
bnd (bound_Norm_Tick_k (v0, v1, false)) fun r => some (r.fst, r.snd.fst, r.snd.snd)
theorem d_cn {ι : Type} {E : Fil ι} {bound_Norm_Tick_k : bound_Norm_Tick.A → Option bound_Norm_Tick.R} {bound_Norm_Tick_k' : ι → bound_Norm_Tick.A → Option bound_Norm_Tick.R} (hbound_Norm_Tick_k : ∀ v, Cn E (bound_Norm_Tick_k v) fun i => bound_Norm_Tick_k' i v) : ∀ v : A, Cn E (d bound_Norm_Tick_k v) fun i => d (bound_Norm_Tick_k' i) v := fun (v0, v1) => (.bnd (hbound_Norm_Tick_k _) fun _ => .some)
theorem f_b (k : Nat) : ∀ v : A, f k v = d (bound_Norm_Tick.f k) v := fun (v0, v1) => (held_eq _).trans (by kernel_rfl)
theorem F_of (v : A) {r : R} (h : d bound_Norm_Tick.F v = some r) : F v = some r :=
  join_of (l := fun L => f (L 0) v) (d := fun L => d (bound_Norm_Tick.f (L 0)) v) (fun L => f_b (L 0) v) (d_cn (bound_Norm_Tick.F_cn 0) v) h
noncomputable def spec (k : Nat) (args : List AV) (ss : List Slot) : Option Ans :=
  match args, ss with
  | [(.c (.int .i64 v0)), (.c (.int .i64 v1))], [] => some ⟨R, f k (v0, v1), enc⟩
  | _, _ => none
theorem spec_ok (k : Nat) : SpecOk Tryz.prog 31 (spec k) := by
  intro args ss ans x h hx X σ w vals hp
  unfold spec at h
  split at h
  · cases h
    exact spec_of cs_ok Tryz.func31 rfl rfl dec_ok (held_eq _).symm hx hp
  · cases h
end bound_Of_Tick
noncomputable def t_bound_Of_Tick (k : Nat) := tcons 31 (bound_Of_Tick.spec k) (t_bound_Norm_Tick k)
theorem t_bound_Of_Tick_ok (n g : Nat) : SpecOk Tryz.prog g (t_bound_Of_Tick n g) := tcons_ok (bound_Of_Tick.spec_ok n) (fun g => t_bound_Norm_Tick_ok n g) g
namespace bound_Exact_Tick
abbrev R : Type := Int × Int × Bool
abbrev A : Type := Int
def lv : List (Nat × List Nat) := [(2000000, [2])]
noncomputable def cs : Nat → Ctx := ctxOf tis modes t_bound_Of_Tick lv
theorem cs_ok (n : Nat) : CtxOk Tryz.prog (cs n) := ctxOf_ok rfl tis_ok t_bound_Of_Tick_ok n
def enc (r : R) : Out := ((.agg [(.int .i64 r.1), (.int .i64 r.2.1), (.bool r.2.2)]), [])
def dec : Out → Option R
  | ((.agg [(.int .i64 v0), (.int .i64 v1), (.bool v2)]), []) => some (v0, v1, v2)
  | _ => none
theorem dec_ok : ∀ u y, dec u = some y → u = enc y := by
  intro u y h
  unfold dec at h
  split at h
  · cases h; rfl
  · cases h
noncomputable def b0 : Code := subF [] Tryz.f15
noncomputable def K0 (k : Nat) : Kt R := kTop (cs k) Tryz.f15 dec
noncomputable def f (k : Nat) : A → Option R := fun v0 => held (runFn cs k Tryz.f15 [(.c (.int .i64 v0))] [] dec)
noncomputable def F (v : A) : Option R := lim fun L => f (L 0) v
theorem F_cn (x : Nat) (v : A) : Cn late (F v) fun L => f (L x) v := of_lim.re [x]
def d (bound_Of_Tick_k : bound_Of_Tick.A → Option bound_Of_Tick.R) : A → Option R := fun v0 =>
bnd (bound_Of_Tick_k (v0, v0)) fun r => some (r.fst, r.snd.fst, r.snd.snd)
theorem d_cn {ι : Type} {E : Fil ι} {bound_Of_Tick_k : bound_Of_Tick.A → Option bound_Of_Tick.R} {bound_Of_Tick_k' : ι → bound_Of_Tick.A → Option bound_Of_Tick.R} (hbound_Of_Tick_k : ∀ v, Cn E (bound_Of_Tick_k v) fun i => bound_Of_Tick_k' i v) : ∀ v : A, Cn E (d bound_Of_Tick_k v) fun i => d (bound_Of_Tick_k' i) v := fun v0 => (.bnd (hbound_Of_Tick_k _) fun _ => .some)
theorem f_b (k : Nat) : ∀ v : A, f k v = d (bound_Of_Tick.f k) v := fun v0 => (held_eq _).trans (by kernel_rfl)
theorem F_of (v : A) {r : R} (h : d bound_Of_Tick.F v = some r) : F v = some r :=
  join_of (l := fun L => f (L 0) v) (d := fun L => d (bound_Of_Tick.f (L 0)) v) (fun L => f_b (L 0) v) (d_cn (bound_Of_Tick.F_cn 0) v) h
noncomputable def spec (k : Nat) (args : List AV) (ss : List Slot) : Option Ans :=
  match args, ss with
  | [(.c (.int .i64 v0))], [] => some ⟨R, f k v0, enc⟩
  | _, _ => none
theorem spec_ok (k : Nat) : SpecOk Tryz.prog 15 (spec k) := by
  intro args ss ans x h hx X σ w vals hp
  unfold spec at h
  split at h
  · cases h
    exact spec_of cs_ok Tryz.func15 rfl rfl dec_ok (held_eq _).symm hx hp
  · cases h
end bound_Exact_Tick
noncomputable def t_bound_Exact_Tick (k : Nat) := tcons 15 (bound_Exact_Tick.spec k) (t_bound_Of_Tick k)
theorem t_bound_Exact_Tick_ok (n g : Nat) : SpecOk Tryz.prog g (t_bound_Exact_Tick n g) := tcons_ok (bound_Exact_Tick.spec_ok n) (fun g => t_bound_Of_Tick_ok n g) g
namespace bound_Neg_Tick
abbrev R : Type := Int × Int × Bool
abbrev A : Type := Int × Int × Bool
def lv : List (Nat × List Nat) := [(2000000, [2])]
noncomputable def cs : Nat → Ctx := ctxOf tis modes t_bound_Exact_Tick lv
theorem cs_ok (n : Nat) : CtxOk Tryz.prog (cs n) := ctxOf_ok rfl tis_ok t_bound_Exact_Tick_ok n
def enc (r : R) : Out := ((.agg [(.int .i64 r.1), (.int .i64 r.2.1), (.bool r.2.2)]), [])
def dec : Out → Option R
  | ((.agg [(.int .i64 v0), (.int .i64 v1), (.bool v2)]), []) => some (v0, v1, v2)
  | _ => none
theorem dec_ok : ∀ u y, dec u = some y → u = enc y := by
  intro u y h
  unfold dec at h
  split at h
  · cases h; rfl
  · cases h
noncomputable def b0 : Code := subF [] Tryz.f55
noncomputable def K0 (k : Nat) : Kt R := kTop (cs k) Tryz.f55 dec
noncomputable def f (k : Nat) : A → Option R := fun (v0, v1, v2) => held (runFn cs k Tryz.f55 [(.agg [(.int .i64 v0), (.int .i64 v1), (.bool v2)])] [] dec)
noncomputable def F (v : A) : Option R := lim fun L => f (L 0) v
theorem F_cn (x : Nat) (v : A) : Cn late (F v) fun L => f (L x) v := of_lim.re [x]
def d (bound_Norm_Tick_k : bound_Norm_Tick.A → Option bound_Norm_Tick.R) : A → Option R := fun (v0, v1, v2) =>
bnd (bound_Norm_Tick_k (v0, v1, v2)) fun r => some (wrap IntKind.i64 (0 - r.snd.fst), wrap IntKind.i64 (0 - r.fst), r.snd.snd)
theorem d_cn {ι : Type} {E : Fil ι} {bound_Norm_Tick_k : bound_Norm_Tick.A → Option bound_Norm_Tick.R} {bound_Norm_Tick_k' : ι → bound_Norm_Tick.A → Option bound_Norm_Tick.R} (hbound_Norm_Tick_k : ∀ v, Cn E (bound_Norm_Tick_k v) fun i => bound_Norm_Tick_k' i v) : ∀ v : A, Cn E (d bound_Norm_Tick_k v) fun i => d (bound_Norm_Tick_k' i) v := fun (v0, v1, v2) => (.bnd (hbound_Norm_Tick_k _) fun _ => .some)
theorem f_b (k : Nat) : ∀ v : A, f k v = d (bound_Norm_Tick.f k) v := fun (v0, v1, v2) => (held_eq _).trans (by kernel_rfl)
theorem F_of (v : A) {r : R} (h : d bound_Norm_Tick.F v = some r) : F v = some r :=
  join_of (l := fun L => f (L 0) v) (d := fun L => d (bound_Norm_Tick.f (L 0)) v) (fun L => f_b (L 0) v) (d_cn (bound_Norm_Tick.F_cn 0) v) h
noncomputable def spec (k : Nat) (args : List AV) (ss : List Slot) : Option Ans :=
  match args, ss with
  | [(.agg [(.int .i64 v0), (.int .i64 v1), (.bool v2)])], [] => some ⟨R, f k (v0, v1, v2), enc⟩
  | _, _ => none
theorem spec_ok (k : Nat) : SpecOk Tryz.prog 55 (spec k) := by
  intro args ss ans x h hx X σ w vals hp
  unfold spec at h
  split at h
  · cases h
    exact spec_of cs_ok Tryz.func55 rfl rfl dec_ok (held_eq _).symm hx hp
  · cases h
end bound_Neg_Tick
noncomputable def t_bound_Neg_Tick (k : Nat) := tcons 55 (bound_Neg_Tick.spec k) (t_bound_Exact_Tick k)
theorem t_bound_Neg_Tick_ok (n g : Nat) : SpecOk Tryz.prog g (t_bound_Neg_Tick n g) := tcons_ok (bound_Neg_Tick.spec_ok n) (fun g => t_bound_Exact_Tick_ok n g) g
namespace bound_vague_Tick
abbrev R : Type := Bool
abbrev A : Type := Int × Int × Bool × Int × Int × Bool
def lv : List (Nat × List Nat) := [(2000000, [4])]
noncomputable def cs : Nat → Ctx := ctxOf tis modes t_bound_Neg_Tick lv
theorem cs_ok (n : Nat) : CtxOk Tryz.prog (cs n) := ctxOf_ok rfl tis_ok t_bound_Neg_Tick_ok n
def enc (r : R) : Out := ((.c (.bool r)), [])
def dec : Out → Option R
  | ((.c (.bool v0)), []) => some v0
  | _ => none
theorem dec_ok : ∀ u y, dec u = some y → u = enc y := by
  intro u y h
  unfold dec at h
  split at h
  · cases h; rfl
  · cases h
noncomputable def b0 : Code := subF [] Tryz.f86
noncomputable def K0 (k : Nat) : Kt R := kTop (cs k) Tryz.f86 dec
noncomputable def f (k : Nat) : A → Option R := fun (v0, v1, v2, v3, v4, v5) => held (runFn cs k Tryz.f86 [(.agg [(.int .i64 v0), (.int .i64 v1), (.bool v2)]), (.agg [(.int .i64 v3), (.int .i64 v4), (.bool v5)])] [] dec)
noncomputable def F (v : A) : Option R := lim fun L => f (L 0) v
theorem F_cn (x : Nat) (v : A) : Cn late (F v) fun L => f (L x) v := of_lim.re [x]
def d (bound_Norm_Tick_k : bound_Norm_Tick.A → Option bound_Norm_Tick.R) : A → Option R := fun (v0, v1, v2, v3, v4, v5) =>
bnd (bound_Norm_Tick_k (v0, v1, v2)) fun r => br (r.snd.snd == false) (bnd (bound_Norm_Tick_k (v3, v4, v5)) fun r => some r.snd.snd) (some true)
theorem d_cn {ι : Type} {E : Fil ι} {bound_Norm_Tick_k : bound_Norm_Tick.A → Option bound_Norm_Tick.R} {bound_Norm_Tick_k' : ι → bound_Norm_Tick.A → Option bound_Norm_Tick.R} (hbound_Norm_Tick_k : ∀ v, Cn E (bound_Norm_Tick_k v) fun i => bound_Norm_Tick_k' i v) : ∀ v : A, Cn E (d bound_Norm_Tick_k v) fun i => d (bound_Norm_Tick_k' i) v := fun (v0, v1, v2, v3, v4, v5) => (.bnd (hbound_Norm_Tick_k _) fun _ => (.br (.bnd (hbound_Norm_Tick_k _) fun _ => .some) .some))
theorem f_b (k : Nat) : ∀ v : A, f k v = d (bound_Norm_Tick.f k) v := fun (v0, v1, v2, v3, v4, v5) => (held_eq _).trans (by kernel_rfl)
theorem F_of (v : A) {r : R} (h : d bound_Norm_Tick.F v = some r) : F v = some r :=
  join_of (l := fun L => f (L 0) v) (d := fun L => d (bound_Norm_Tick.f (L 0)) v) (fun L => f_b (L 0) v) (d_cn (bound_Norm_Tick.F_cn 0) v) h
noncomputable def spec (k : Nat) (args : List AV) (ss : List Slot) : Option Ans :=
  match args, ss with
  | [(.agg [(.int .i64 v0), (.int .i64 v1), (.bool v2)]), (.agg [(.int .i64 v3), (.int .i64 v4), (.bool v5)])], [] => some ⟨R, f k (v0, v1, v2, v3, v4, v5), enc⟩
  | _, _ => none
theorem spec_ok (k : Nat) : SpecOk Tryz.prog 86 (spec k) := by
  intro args ss ans x h hx X σ w vals hp
  unfold spec at h
  split at h
  · cases h
    exact spec_of cs_ok Tryz.func86 rfl rfl dec_ok (held_eq _).symm hx hp
  · cases h
end bound_vague_Tick
noncomputable def t_bound_vague_Tick (k : Nat) := tcons 86 (bound_vague_Tick.spec k) (t_bound_Neg_Tick k)
theorem t_bound_vague_Tick_ok (n g : Nat) : SpecOk Tryz.prog g (t_bound_vague_Tick n g) := tcons_ok (bound_vague_Tick.spec_ok n) (fun g => t_bound_Neg_Tick_ok n g) g
namespace bound_Add_Tick
abbrev R : Type := Int × Int × Bool
abbrev A : Type := Int × Int × Bool × Int × Int × Bool
def lv : List (Nat × List Nat) := [(2000000, [4])]
noncomputable def cs : Nat → Ctx := ctxOf tis modes t_bound_vague_Tick lv
theorem cs_ok (n : Nat) : CtxOk Tryz.prog (cs n) := ctxOf_ok rfl tis_ok t_bound_vague_Tick_ok n
def enc (r : R) : Out := ((.agg [(.int .i64 r.1), (.int .i64 r.2.1), (.bool r.2.2)]), [])
def dec : Out → Option R
  | ((.agg [(.int .i64 v0), (.int .i64 v1), (.bool v2)]), []) => some (v0, v1, v2)
  | _ => none
theorem dec_ok : ∀ u y, dec u = some y → u = enc y := by
  intro u y h
  unfold dec at h
  split at h
  · cases h; rfl
  · cases h
noncomputable def b0 : Code := subF [] Tryz.f54
noncomputable def K0 (k : Nat) : Kt R := kTop (cs k) Tryz.f54 dec
noncomputable def f (k : Nat) : A → Option R := fun (v0, v1, v2, v3, v4, v5) => held (runFn cs k Tryz.f54 [(.agg [(.int .i64 v0), (.int .i64 v1), (.bool v2)]), (.agg [(.int .i64 v3), (.int .i64 v4), (.bool v5)])] [] dec)
noncomputable def F (v : A) : Option R := lim fun L => f (L 0) v
theorem F_cn (x : Nat) (v : A) : Cn late (F v) fun L => f (L x) v := of_lim.re [x]
def d (bound_vague_Tick_k : bound_vague_Tick.A → Option bound_vague_Tick.R) (bound_None_Tick_k : bound_None_Tick.A → Option bound_None_Tick.R) (bound_Of_Tick_k : bound_Of_Tick.A → Option bound_Of_Tick.R) : A → Option R := fun (v0, v1, v2, v3, v4, v5) =>
bnd (bound_vague_Tick_k (v0, v1, v2, v3, v4, v5)) fun r =>
  br r (bnd (bound_None_Tick_k ()) fun r => some (r.fst, r.snd.fst, r.snd.snd)) (bnd (bound_Of_Tick_k (wrap IntKind.i64 (v0 + v3), wrap IntKind.i64 (v1 + v4))) fun r => some (r.fst, r.snd.fst, r.snd.snd))
theorem d_cn {ι : Type} {E : Fil ι} {bound_vague_Tick_k : bound_vague_Tick.A → Option bound_vague_Tick.R} {bound_vague_Tick_k' : ι → bound_vague_Tick.A → Option bound_vague_Tick.R} (hbound_vague_Tick_k : ∀ v, Cn E (bound_vague_Tick_k v) fun i => bound_vague_Tick_k' i v) {bound_None_Tick_k : bound_None_Tick.A → Option bound_None_Tick.R} {bound_None_Tick_k' : ι → bound_None_Tick.A → Option bound_None_Tick.R} (hbound_None_Tick_k : ∀ v, Cn E (bound_None_Tick_k v) fun i => bound_None_Tick_k' i v) {bound_Of_Tick_k : bound_Of_Tick.A → Option bound_Of_Tick.R} {bound_Of_Tick_k' : ι → bound_Of_Tick.A → Option bound_Of_Tick.R} (hbound_Of_Tick_k : ∀ v, Cn E (bound_Of_Tick_k v) fun i => bound_Of_Tick_k' i v) : ∀ v : A, Cn E (d bound_vague_Tick_k bound_None_Tick_k bound_Of_Tick_k v) fun i => d (bound_vague_Tick_k' i) (bound_None_Tick_k' i) (bound_Of_Tick_k' i) v := fun (v0, v1, v2, v3, v4, v5) => (.bnd (hbound_vague_Tick_k _) fun _ => (.br (.bnd (hbound_None_Tick_k _) fun _ => .some) (.bnd (hbound_Of_Tick_k _) fun _ => .some)))
theorem f_b (k : Nat) : ∀ v : A, f k v = d (bound_vague_Tick.f k) (bound_None_Tick.f k) (bound_Of_Tick.f k) v := fun (v0, v1, v2, v3, v4, v5) => (held_eq _).trans (by kernel_rfl)
theorem F_of (v : A) {r : R} (h : d bound_vague_Tick.F bound_None_Tick.F bound_Of_Tick.F v = some r) : F v = some r :=
  join_of (l := fun L => f (L 0) v) (d := fun L => d (bound_vague_Tick.f (L 0)) (bound_None_Tick.f (L 0)) (bound_Of_Tick.f (L 0)) v) (fun L => f_b (L 0) v) (d_cn (bound_vague_Tick.F_cn 0) (bound_None_Tick.F_cn 0) (bound_Of_Tick.F_cn 0) v) h
noncomputable def spec (k : Nat) (args : List AV) (ss : List Slot) : Option Ans :=
  match args, ss with
  | [(.agg [(.int .i64 v0), (.int .i64 v1), (.bool v2)]), (.agg [(.int .i64 v3), (.int .i64 v4), (.bool v5)])], [] => some ⟨R, f k (v0, v1, v2, v3, v4, v5), enc⟩
  | _, _ => none
theorem spec_ok (k : Nat) : SpecOk Tryz.prog 54 (spec k) := by
  intro args ss ans x h hx X σ w vals hp
  unfold spec at h
  split at h
  · cases h
    exact spec_of cs_ok Tryz.func54 rfl rfl dec_ok (held_eq _).symm hx hp
  · cases h
end bound_Add_Tick
noncomputable def t_bound_Add_Tick (k : Nat) := tcons 54 (bound_Add_Tick.spec k) (t_bound_vague_Tick k)
theorem t_bound_Add_Tick_ok (n g : Nat) : SpecOk Tryz.prog g (t_bound_Add_Tick n g) := tcons_ok (bound_Add_Tick.spec_ok n) (fun g => t_bound_vague_Tick_ok n g) g
namespace bound_Sub_Tick
abbrev R : Type := Int × Int × Bool
abbrev A : Type := Int × Int × Bool × Int × Int × Bool
def lv : List (Nat × List Nat) := [(2000000, [4])]
noncomputable def cs : Nat → Ctx := ctxOf tis modes t_bound_Add_Tick lv
theorem cs_ok (n : Nat) : CtxOk Tryz.prog (cs n) := ctxOf_ok rfl tis_ok t_bound_Add_Tick_ok n
def enc (r : R) : Out := ((.agg [(.int .i64 r.1), (.int .i64 r.2.1), (.bool r.2.2)]), [])
def dec : Out → Option R
  | ((.agg [(.int .i64 v0), (.int .i64 v1), (.bool v2)]), []) => some (v0, v1, v2)
  | _ => none
theorem dec_ok : ∀ u y, dec u = some y → u = enc y := by
  intro u y h
  unfold dec at h
  split at h
  · cases h; rfl
  · cases h
noncomputable def b0 : Code := subF [] Tryz.f23
noncomputable def K0 (k : Nat) : Kt R := kTop (cs k) Tryz.f23 dec
noncomputable def f (k : Nat) : A → Option R := fun (v0, v1, v2, v3, v4, v5) => held (runFn cs k Tryz.f23 [(.agg [(.int .i64 v0), (.int .i64 v1), (.bool v2)]), (.agg [(.int .i64 v3), (.int .i64 v4), (.bool v5)])] [] dec)
noncomputable def F (v : A) : Option R := lim fun L => f (L 0) v
theorem F_cn (x : Nat) (v : A) : Cn late (F v) fun L => f (L x) v := of_lim.re [x]
def d (bound_Neg_Tick_k : bound_Neg_Tick.A → Option bound_Neg_Tick.R) (bound_Add_Tick_k : bound_Add_Tick.A → Option bound_Add_Tick.R) : A → Option R := fun (v0, v1, v2, v3, v4, v5) =>
bnd (bound_Neg_Tick_k (v3, v4, v5)) fun r => bnd (bound_Add_Tick_k (v0, v1, v2, r.fst, r.snd.fst, r.snd.snd)) fun r => some (r.fst, r.snd.fst, r.snd.snd)
theorem d_cn {ι : Type} {E : Fil ι} {bound_Neg_Tick_k : bound_Neg_Tick.A → Option bound_Neg_Tick.R} {bound_Neg_Tick_k' : ι → bound_Neg_Tick.A → Option bound_Neg_Tick.R} (hbound_Neg_Tick_k : ∀ v, Cn E (bound_Neg_Tick_k v) fun i => bound_Neg_Tick_k' i v) {bound_Add_Tick_k : bound_Add_Tick.A → Option bound_Add_Tick.R} {bound_Add_Tick_k' : ι → bound_Add_Tick.A → Option bound_Add_Tick.R} (hbound_Add_Tick_k : ∀ v, Cn E (bound_Add_Tick_k v) fun i => bound_Add_Tick_k' i v) : ∀ v : A, Cn E (d bound_Neg_Tick_k bound_Add_Tick_k v) fun i => d (bound_Neg_Tick_k' i) (bound_Add_Tick_k' i) v := fun (v0, v1, v2, v3, v4, v5) => (.bnd (hbound_Neg_Tick_k _) fun _ => (.bnd (hbound_Add_Tick_k _) fun _ => .some))
theorem f_b (k : Nat) : ∀ v : A, f k v = d (bound_Neg_Tick.f k) (bound_Add_Tick.f k) v := fun (v0, v1, v2, v3, v4, v5) => (held_eq _).trans (by kernel_rfl)
theorem F_of (v : A) {r : R} (h : d bound_Neg_Tick.F bound_Add_Tick.F v = some r) : F v = some r :=
  join_of (l := fun L => f (L 0) v) (d := fun L => d (bound_Neg_Tick.f (L 0)) (bound_Add_Tick.f (L 0)) v) (fun L => f_b (L 0) v) (d_cn (bound_Neg_Tick.F_cn 0) (bound_Add_Tick.F_cn 0) v) h
noncomputable def spec (k : Nat) (args : List AV) (ss : List Slot) : Option Ans :=
  match args, ss with
  | [(.agg [(.int .i64 v0), (.int .i64 v1), (.bool v2)]), (.agg [(.int .i64 v3), (.int .i64 v4), (.bool v5)])], [] => some ⟨R, f k (v0, v1, v2, v3, v4, v5), enc⟩
  | _, _ => none
theorem spec_ok (k : Nat) : SpecOk Tryz.prog 23 (spec k) := by
  intro args ss ans x h hx X σ w vals hp
  unfold spec at h
  split at h
  · cases h
    exact spec_of cs_ok Tryz.func23 rfl rfl dec_ok (held_eq _).symm hx hp
  · cases h
end bound_Sub_Tick
noncomputable def t_bound_Sub_Tick (k : Nat) := tcons 23 (bound_Sub_Tick.spec k) (t_bound_Add_Tick k)
theorem t_bound_Sub_Tick_ok (n g : Nat) : SpecOk Tryz.prog g (t_bound_Sub_Tick n g) := tcons_ok (bound_Sub_Tick.spec_ok n) (fun g => t_bound_Add_Tick_ok n g) g
namespace bound_None_Arc
abbrev R : Type := Int × Int × Bool
abbrev A : Type := Unit
def lv : List (Nat × List Nat) := [(2000000, [0])]
noncomputable def cs : Nat → Ctx := ctxOf tis modes t_bound_Sub_Tick lv
theorem cs_ok (n : Nat) : CtxOk Tryz.prog (cs n) := ctxOf_ok rfl tis_ok t_bound_Sub_Tick_ok n
def enc (r : R) : Out := ((.agg [(.int .i64 r.1), (.int .i64 r.2.1), (.bool r.2.2)]), [])
def dec : Out → Option R
  | ((.agg [(.int .i64 v0), (.int .i64 v1), (.bool v2)]), []) => some (v0, v1, v2)
  | _ => none
theorem dec_ok : ∀ u y, dec u = some y → u = enc y := by
  intro u y h
  unfold dec at h
  split at h
  · cases h; rfl
  · cases h
noncomputable def b0 : Code := subF [] Tryz.f25
noncomputable def K0 (k : Nat) : Kt R := kTop (cs k) Tryz.f25 dec
noncomputable def f (k : Nat) : A → Option R := fun _ => held (runFn cs k Tryz.f25 [] [] dec)
noncomputable def F (v : A) : Option R := lim fun L => f (L 0) v
theorem F_cn (x : Nat) (v : A) : Cn late (F v) fun L => f (L x) v := of_lim.re [x]
def d : A → Option R := fun _ =>
some (0, 0, true)
theorem d_cn {ι : Type} {E : Fil ι} : ∀ v : A, Cn E (d v) fun i => d v := fun _ => .some
theorem f_b (k : Nat) : ∀ v : A, f k v = d v := fun _ => (held_eq _).trans (by kernel_rfl)
theorem F_of (v : A) {r : R} (h : d v = some r) : F v = some r :=
  join_of (l := fun L => f (L 0) v) (d := fun L => d v) (fun L => f_b (L 0) v) (d_cn v) h
noncomputable def spec (k : Nat) (args : List AV) (ss : List Slot) : Option Ans :=
  match args, ss with
  | [], [] => some ⟨R, f k (), enc⟩
  | _, _ => none
theorem spec_ok (k : Nat) : SpecOk Tryz.prog 25 (spec k) := by
  intro args ss ans x h hx X σ w vals hp
  unfold spec at h
  split at h
  · cases h
    exact spec_of cs_ok Tryz.func25 rfl rfl dec_ok (held_eq _).symm hx hp
  · cases h
end bound_None_Arc
noncomputable def t_bound_None_Arc (k : Nat) := tcons 25 (bound_None_Arc.spec k) (t_bound_Sub_Tick k)
theorem t_bound_None_Arc_ok (n g : Nat) : SpecOk Tryz.prog g (t_bound_None_Arc n g) := tcons_ok (bound_None_Arc.spec_ok n) (fun g => t_bound_Sub_Tick_ok n g) g
namespace bits_Len64
abbrev R : Type := Int
abbrev A : Type := Int
def lv : List (Nat × List Nat) := [(2000000, [2]), (1000004, [0, 2]), (1000007, [0, 2]), (1000010, [0, 2])]
noncomputable def cs : Nat → Ctx := ctxOf tis modes t_bound_None_Arc lv
theorem cs_ok (n : Nat) : CtxOk Tryz.prog (cs n) := ctxOf_ok rfl tis_ok t_bound_None_Arc_ok n
def enc (r : R) : Out := ((.c (.int .i64 r)), [])
def dec : Out → Option R
  | ((.c (.int .i64 v0)), []) => some v0
  | _ => none
theorem dec_ok : ∀ u y, dec u = some y → u = enc y := by
  intro u y h
  unfold dec at h
  split at h
  · cases h; rfl
  · cases h
noncomputable def b0 : Code := subF [] Tryz.f125
noncomputable def K0 (k : Nat) : Kt R := kTop (cs k) Tryz.f125 dec
noncomputable def c1000004 : Code := sub [1, 1] b0
noncomputable def J1000004 ( k : Nat) : Kt R := kAt (cs k) (loopN cs k) [1, 1] b0 (K0 k)
noncomputable def c1000007 : Code := sub [1, 1, 1] b0
noncomputable def J1000007 ( k : Nat) : Kt R := kAt (cs k) (loopN cs k) [1, 1, 1] b0 (K0 k)
noncomputable def c1000010 : Code := sub [1, 1, 1, 1] b0
noncomputable def J1000010 ( k : Nat) : Kt R := kAt (cs k) (loopN cs k) [1, 1, 1, 1] b0 (K0 k)
abbrev T0 : Type := Int × Int
def s0 : T0 → St := fun (v0, v1) => ⟨25, 0, [(0, (.c (.int .u64 v0))), (2, (.c (.int .i64 v1)))], [], [(256000000, .gone)]⟩
noncomputable def l0 ( k : Nat) (v : T0) : Option R := held (run (cs k) (loopN cs k) c1000004 (J1000004 k) (s0 v))
noncomputable def D0 (v : T0) : Option R := lim fun L => l0 (L 0) v
theorem D0_cn (v : T0) : Cn late (D0 v) fun L => l0 (L 0) v := of_lim
abbrev T1 : Type := Int × Int
def s1 : T1 → St := fun (v0, v1) => ⟨25, 0, [(0, (.c (.int .u64 v0))), (2, (.c (.int .i64 v1)))], [], [(256000000, .gone)]⟩
noncomputable def l1 ( k : Nat) (v : T1) : Option R := held (run (cs k) (loopN cs k) c1000007 (J1000007 k) (s1 v))
noncomputable def D1 (v : T1) : Option R := lim fun L => l1 (L 0) v
theorem D1_cn (v : T1) : Cn late (D1 v) fun L => l1 (L 0) v := of_lim
abbrev T2 : Type := Int × Int
def s2 : T2 → St := fun (v0, v1) => ⟨25, 0, [(0, (.c (.int .u64 v0))), (2, (.c (.int .i64 v1)))], [], [(256000000, .gone)]⟩
noncomputable def l2 ( k : Nat) (v : T2) : Option R := held (run (cs k) (loopN cs k) c1000010 (J1000010 k) (s2 v))
noncomputable def D2 (v : T2) : Option R := lim fun L => l2 (L 0) v
theorem D2_cn (v : T2) : Cn late (D2 v) fun L => l2 (L 0) v := of_lim
def d0 (L1k : T1 → Option R) : T0 → Option R := fun (v0, v1) =>
br (decide (65536 ≤ v0)) (br (decide ((0 : Int) ≤ 16)) (L1k (shr IntKind.u64 v0 16, wrap IntKind.i64 (v1 + 16))) none) (L1k (v0, v1))
theorem d0_cn {ι : Type} {E : Fil ι} {L1k : T1 → Option R} {L1k' : ι → T1 → Option R} (hL1k : ∀ v, Cn E (L1k v) fun i => L1k' i v) : ∀ v : T0, Cn E (d0 L1k v) fun i => d0 (L1k' i) v := fun (v0, v1) => (.br (.br (hL1k _) .none) (hL1k _))
theorem l0_b ( k : Nat) : ∀ v : T0, run (cs k) (loopN cs k) c1000004 (J1000004 k) (s0 v) = d0 (l1 k) v := fun (v0, v1) => by kernel_rfl
theorem D0_of (v : T0) {r : R} (h : d0 D1 v = some r) : D0 v = some r :=
  join_of (l := fun L => l0 (L 0) v) (d := fun L => d0 (l1 (L 0)) v) (fun L => (held_eq _).trans (l0_b (L 0) v)) (d0_cn (fun v => (D1_cn v).re [0]) v) h
def d1 (L2k : T2 → Option R) : T1 → Option R := fun (v0, v1) =>
br (decide (256 ≤ v0)) (br (decide ((0 : Int) ≤ 8)) (L2k (shr IntKind.u64 v0 8, wrap IntKind.i64 (v1 + 8))) none) (L2k (v0, v1))
theorem d1_cn {ι : Type} {E : Fil ι} {L2k : T2 → Option R} {L2k' : ι → T2 → Option R} (hL2k : ∀ v, Cn E (L2k v) fun i => L2k' i v) : ∀ v : T1, Cn E (d1 L2k v) fun i => d1 (L2k' i) v := fun (v0, v1) => (.br (.br (hL2k _) .none) (hL2k _))
theorem l1_b ( k : Nat) : ∀ v : T1, run (cs k) (loopN cs k) c1000007 (J1000007 k) (s1 v) = d1 (l2 k) v := fun (v0, v1) => by kernel_rfl
theorem D1_of (v : T1) {r : R} (h : d1 D2 v = some r) : D1 v = some r :=
  join_of (l := fun L => l1 (L 0) v) (d := fun L => d1 (l2 (L 0)) v) (fun L => (held_eq _).trans (l1_b (L 0) v)) (d1_cn (fun v => (D2_cn v).re [0]) v) h
def d2 : T2 → Option R := fun (v0, v1) =>
br
  (decide
    (0 ≤ wrap IntKind.u8 v0 ∧
      wrap IntKind.u8 v0 <
        (↑bs0.size :
          Int)))
  (some
    (wrap IntKind.i64
      (v1 +
        wrap IntKind.i64
          (↑(bs0.data.getD
                  (wrap IntKind.u8 v0).toNat 0).toNat :
            Int))))
  none
theorem d2_cn {ι : Type} {E : Fil ι} : ∀ v : T2, Cn E (d2 v) fun i => d2 v := fun (v0, v1) => (.br .some .none)
theorem l2_b ( k : Nat) : ∀ v : T2, run (cs k) (loopN cs k) c1000010 (J1000010 k) (s2 v) = d2 v := fun (v0, v1) => by kernel_rfl
theorem D2_of (v : T2) {r : R} (h : d2 v = some r) : D2 v = some r :=
  join_of (l := fun L => l2 (L 0) v) (d := fun L => d2 v) (fun L => (held_eq _).trans (l2_b (L 0) v)) (d2_cn v) h
noncomputable def f (k : Nat) : A → Option R := fun v0 => held (runFn cs k Tryz.f125 [(.c (.int .u64 v0))] [] dec)
noncomputable def F (v : A) : Option R := lim fun L => f (L 0) v
theorem F_cn (x : Nat) (v : A) : Cn late (F v) fun L => f (L x) v := of_lim.re [x]
def d (L0k : T0 → Option R) : A → Option R := fun v0 =>
br (decide (4294967296 ≤ v0)) (br (decide ((0 : Int) ≤ 32)) (L0k (shr IntKind.u64 v0 32, 32)) none) (L0k (v0, 0))
theorem d_cn {ι : Type} {E : Fil ι} {L0k : T0 → Option R} {L0k' : ι → T0 → Option R} (hL0k : ∀ v, Cn E (L0k v) fun i => L0k' i v) : ∀ v : A, Cn E (d L0k v) fun i => d (L0k' i) v := fun v0 => (.br (.br (hL0k _) .none) (hL0k _))
theorem f_b (k : Nat) : ∀ v : A, f k v = d (l0 k) v := fun v0 => (held_eq _).trans (by kernel_rfl)
theorem F_of (v : A) {r : R} (h : d D0 v = some r) : F v = some r :=
  join_of (l := fun L => f (L 0) v) (d := fun L => d (l0 (L 0)) v) (fun L => f_b (L 0) v) (d_cn (fun v => (D0_cn v).re [0]) v) h
noncomputable def spec (k : Nat) (args : List AV) (ss : List Slot) : Option Ans :=
  match args, ss with
  | [(.c (.int .u64 v0))], [] => some ⟨R, f k v0, enc⟩
  | _, _ => none
theorem spec_ok (k : Nat) : SpecOk Tryz.prog 125 (spec k) := by
  intro args ss ans x h hx X σ w vals hp
  unfold spec at h
  split at h
  · cases h
    exact spec_of cs_ok Tryz.func125 rfl rfl dec_ok (held_eq _).symm hx hp
  · cases h
end bits_Len64
noncomputable def t_bits_Len64 (k : Nat) := tcons 125 (bits_Len64.spec k) (t_bound_None_Arc k)
theorem t_bits_Len64_ok (n g : Nat) : SpecOk Tryz.prog g (t_bits_Len64 n g) := tcons_ok (bits_Len64.spec_ok n) (fun g => t_bound_None_Arc_ok n g) g
namespace bits_LeadingZeros64
abbrev R : Type := Int
abbrev A : Type := Int
def lv : List (Nat × List Nat) := [(2000000, [2])]
noncomputable def cs : Nat → Ctx := ctxOf tis modes t_bits_Len64 lv
theorem cs_ok (n : Nat) : CtxOk Tryz.prog (cs n) := ctxOf_ok rfl tis_ok t_bits_Len64_ok n
def enc (r : R) : Out := ((.c (.int .i64 r)), [])
def dec : Out → Option R
  | ((.c (.int .i64 v0)), []) => some v0
  | _ => none
theorem dec_ok : ∀ u y, dec u = some y → u = enc y := by
  intro u y h
  unfold dec at h
  split at h
  · cases h; rfl
  · cases h
noncomputable def b0 : Code := subF [] Tryz.f112
noncomputable def K0 (k : Nat) : Kt R := kTop (cs k) Tryz.f112 dec
noncomputable def f (k : Nat) : A → Option R := fun v0 => held (runFn cs k Tryz.f112 [(.c (.int .u64 v0))] [] dec)
noncomputable def F (v : A) : Option R := lim fun L => f (L 0) v
theorem F_cn (x : Nat) (v : A) : Cn late (F v) fun L => f (L x) v := of_lim.re [x]
def d (bits_Len64_k : bits_Len64.A → Option bits_Len64.R) : A → Option R := fun v0 =>
bnd (bits_Len64_k v0) fun r => some (wrap IntKind.i64 (64 - r))
theorem d_cn {ι : Type} {E : Fil ι} {bits_Len64_k : bits_Len64.A → Option bits_Len64.R} {bits_Len64_k' : ι → bits_Len64.A → Option bits_Len64.R} (hbits_Len64_k : ∀ v, Cn E (bits_Len64_k v) fun i => bits_Len64_k' i v) : ∀ v : A, Cn E (d bits_Len64_k v) fun i => d (bits_Len64_k' i) v := fun v0 => (.bnd (hbits_Len64_k _) fun _ => .some)
theorem f_b (k : Nat) : ∀ v : A, f k v = d (bits_Len64.f k) v := fun v0 => (held_eq _).trans (by kernel_rfl)
theorem F_of (v : A) {r : R} (h : d bits_Len64.F v = some r) : F v = some r :=
  join_of (l := fun L => f (L 0) v) (d := fun L => d (bits_Len64.f (L 0)) v) (fun L => f_b (L 0) v) (d_cn (bits_Len64.F_cn 0) v) h
noncomputable def spec (k : Nat) (args : List AV) (ss : List Slot) : Option Ans :=
  match args, ss with
  | [(.c (.int .u64 v0))], [] => some ⟨R, f k v0, enc⟩
  | _, _ => none
theorem spec_ok (k : Nat) : SpecOk Tryz.prog 112 (spec k) := by
  intro args ss ans x h hx X σ w vals hp
  unfold spec at h
  split at h
  · cases h
    exact spec_of cs_ok Tryz.func112 rfl rfl dec_ok (held_eq _).symm hx hp
  · cases h
end bits_LeadingZeros64
noncomputable def t_bits_LeadingZeros64 (k : Nat) := tcons 112 (bits_LeadingZeros64.spec k) (t_bits_Len64 k)
theorem t_bits_LeadingZeros64_ok (n g : Nat) : SpecOk Tryz.prog g (t_bits_LeadingZeros64 n g) := tcons_ok (bits_LeadingZeros64.spec_ok n) (fun g => t_bits_Len64_ok n g) g
namespace bits_Div64
abbrev R : Type := Int × Int
abbrev A : Type := Int × Int × Int
def lv : List (Nat × List Nat) := [(2000000, [6, 7]), (17, [2, 8, 9, 10, 11, 13, 14, 15, 16]), (1000021, [2, 8, 9, 10, 11, 13, 14, 15]), (24, [2, 8, 9, 10, 14, 15, 16, 17, 18]), (1000028, [2, 8, 14, 15, 17, 18])]
noncomputable def cs : Nat → Ctx := ctxOf tis modes t_bits_LeadingZeros64 lv
theorem cs_ok (n : Nat) : CtxOk Tryz.prog (cs n) := ctxOf_ok rfl tis_ok t_bits_LeadingZeros64_ok n
def enc (r : R) : Out := ((.tup [(.c (.int .u64 r.1)), (.c (.int .u64 r.2))]), [])
def dec : Out → Option R
  | ((.tup [(.c (.int .u64 v0)), (.c (.int .u64 v1))]), []) => some (v0, v1)
  | _ => none
theorem dec_ok : ∀ u y, dec u = some y → u = enc y := by
  intro u y h
  unfold dec at h
  split at h
  · cases h; rfl
  · cases h
noncomputable def b0 : Code := subF [] Tryz.f94
noncomputable def K0 (k : Nat) : Kt R := kTop (cs k) Tryz.f94 dec
noncomputable def c1000021 : Code := sub [1, 1, 1, 1, 1, 1, 1, 1, 1, 1, 1, 1, 1, 1, 1] b0
noncomputable def J1000021 ( k : Nat) : Kt R := kAt (cs k) (loopN cs k) [1, 1, 1, 1, 1, 1, 1, 1, 1, 1, 1, 1, 1, 1, 1] b0 (K0 k)
noncomputable def b17 : Code := sub [1, 1, 1, 1, 1, 1, 1, 1, 1, 1, 1, 1, 1, 1, 0, 0, 0] b0
noncomputable def K17 ( k : Nat) : Kt R := kAt (cs k) (loopN cs k) [1, 1, 1, 1, 1, 1, 1, 1, 1, 1, 1, 1, 1, 1, 0, 0] b0 (K0 k)
noncomputable def c1000028 : Code := sub [1, 1, 1, 1, 1, 1, 1, 1, 1, 1, 1, 1, 1, 1, 1, 1, 1, 1, 1] b0
noncomputable def J1000028 ( k : Nat) : Kt R := kAt (cs k) (loopN cs k) [1, 1, 1, 1, 1, 1, 1, 1, 1, 1, 1, 1, 1, 1, 1, 1, 1, 1, 1] b0 (K0 k)
noncomputable def b24 : Code := sub [1, 1, 1, 1, 1, 1, 1, 1, 1, 1, 1, 1, 1, 1, 1, 1, 1, 1, 0, 0, 0] b0
noncomputable def K24 ( k : Nat) : Kt R := kAt (cs k) (loopN cs k) [1, 1, 1, 1, 1, 1, 1, 1, 1, 1, 1, 1, 1, 1, 1, 1, 1, 1, 0, 0] b0 (K0 k)
abbrev T0 : Type := Int × Int × Int × Int × Int × Int × Int × Int × Int
def s0 : T0 → St := fun (v0, v1, v2, v3, v4, v5, v6, v7, v8) => ⟨135, 0, [(2, (.c (.int .u64 v0))), (8, (.c (.int .u64 v1))), (9, (.c (.int .u64 v2))), (10, (.c (.int .u64 v3))), (11, (.c (.int .u64 v4))), (13, (.c (.int .u64 v5))), (14, (.c (.int .u64 v6))), (15, (.c (.int .u64 v7))), (16, (.c (.int .u64 v8)))], [], [(256000000, .gone)]⟩
noncomputable def l0 ( k n : Nat) (v : T0) : Option R := held (loopN cs n b17 (K17 k) (s0 v))
noncomputable def D0 (v : T0) : Option R := lim fun L => l0 (L 0) (L 1) v
theorem D0_cn (v : T0) : Cn late (D0 v) fun L => l0 (L 0) (L 1) v := of_lim
abbrev T1 : Type := Int × Int × Int × Int × Int × Int × Int × Int
def s1 : T1 → St := fun (v0, v1, v2, v3, v4, v5, v6, v7) => ⟨135, 0, [(2, (.c (.int .u64 v0))), (8, (.c (.int .u64 v1))), (9, (.c (.int .u64 v2))), (10, (.c (.int .u64 v3))), (11, (.c (.int .u64 v4))), (13, (.c (.int .u64 v5))), (14, (.c (.int .u64 v6))), (15, (.c (.int .u64 v7)))], [], [(256000000, .gone)]⟩
noncomputable def l1 ( k : Nat) (v : T1) : Option R := held (run (cs k) (loopN cs k) c1000021 (J1000021 k) (s1 v))
noncomputable def D1 (v : T1) : Option R := lim fun L => l1 (L 0) v
theorem D1_cn (v : T1) : Cn late (D1 v) fun L => l1 (L 0) v := of_lim
abbrev T2 : Type := Int × Int × Int × Int × Int × Int × Int × Int × Int
def s2 : T2 → St := fun (v0, v1, v2, v3, v4, v5, v6, v7, v8) => ⟨135, 0, [(2, (.c (.int .u64 v0))), (8, (.c (.int .u64 v1))), (9, (.c (.int .u64 v2))), (10, (.c (.int .u64 v3))), (14, (.c (.int .u64 v4))), (15, (.c (.int .u64 v5))), (16, (.c (.int .u64 v6))), (17, (.c (.int .u64 v7))), (18, (.c (.int .u64 v8)))], [], [(256000000, .gone)]⟩
noncomputable def l2 ( k n : Nat) (v : T2) : Option R := held (loopN cs n b24 (K24 k) (s2 v))
noncomputable def D2 (v : T2) : Option R := lim fun L => l2 (L 0) (L 1) v
theorem D2_cn (v : T2) : Cn late (D2 v) fun L => l2 (L 0) (L 1) v := of_lim
abbrev T3 : Type := Int × Int × Int × Int × Int × Int
def s3 : T3 → St := fun (v0, v1, v2, v3, v4, v5) => ⟨135, 0, [(2, (.c (.int .u64 v0))), (8, (.c (.int .u64 v1))), (14, (.c (.int .u64 v2))), (15, (.c (.int .u64 v3))), (17, (.c (.int .u64 v4))), (18, (.c (.int .u64 v5)))], [], [(256000000, .gone)]⟩
noncomputable def l3 ( k : Nat) (v : T3) : Option R := held (run (cs k) (loopN cs k) c1000028 (J1000028 k) (s3 v))
noncomputable def D3 (v : T3) : Option R := lim fun L => l3 (L 0) v
theorem D3_cn (v : T3) : Cn late (D3 v) fun L => l3 (L 0) v := of_lim
def d0 (L1k : T1 → Option R) (L0m1 : T0 → Option R) : T0 → Option R := fun (v0, v1, v2, v3, v4, v5, v6, v7, v8) =>
br (decide (4294967296 ≤ v7) || decide (wrap IntKind.u64 (wrap IntKind.u64 (4294967296 * v8) + v5) < wrap IntKind.u64 (v7 * v3)))
  (br (decide (4294967296 ≤ wrap IntKind.u64 (v8 + v2))) (L1k (v0, v1, v2, v3, v4, v5, v6, wrap IntKind.u64 (v7 - 1))) (L0m1 (v0, v1, v2, v3, v4, v5, v6, wrap IntKind.u64 (v7 - 1), wrap IntKind.u64 (v8 + v2))))
  (L1k (v0, v1, v2, v3, v4, v5, v6, v7))
theorem d0_cn {ι : Type} {E : Fil ι} {L1k : T1 → Option R} {L1k' : ι → T1 → Option R} (hL1k : ∀ v, Cn E (L1k v) fun i => L1k' i v) {L0m1 : T0 → Option R} {L0m1' : ι → T0 → Option R} (hL0m1 : ∀ v, Cn E (L0m1 v) fun i => L0m1' i v) : ∀ v : T0, Cn E (d0 L1k L0m1 v) fun i => d0 (L1k' i) (L0m1' i) v := fun (v0, v1, v2, v3, v4, v5, v6, v7, v8) => (.br (.br (hL1k _) (hL0m1 _)) (hL1k _))
theorem l0_b ( k m1 : Nat) : ∀ v : T0, run (cs m1) (loopN cs m1) b17 (kLoop cs m1 b17 (K17 k)) (s0 v) = d0 (l1 k) (l0 k m1) v := fun (v0, v1, v2, v3, v4, v5, v6, v7, v8) => by kernel_rfl
theorem D0_of (v : T0) {r : R} (h : d0 D1 D0 v = some r) : D0 v = some r :=
  loop_of 1 (l := fun L => l0 (L 0) (L 1) v) (d := fun L => d0 (l1 (L 0)) (l0 (L 0) (L 1)) v) (fun L n hn => by show l0 (L 0) (L 1) v = _; rw [hn]; exact (held_eq _).trans ((loopN_succ _ _ _ _ _).trans (l0_b (L 0) n v))) (d0_cn (fun v => (D1_cn v).re [0]) (fun v => (D0_cn v).re [0, 1]) v) h
def d1 (L2k : T2 → Option R) : T1 → Option R := fun (v0, v1, v2, v3, v4, v5, v6, v7) =>
br (!decide (v2 = 0))
  (L2k
    (v0, v1, v2, v3, v6, v7,
      wrap IntKind.u64
        (wrap IntKind.u64 (wrap IntKind.u64 (wrap IntKind.u64 (v4 * 4294967296) + v5) - wrap IntKind.u64 (v7 * v0)) -
          wrap IntKind.u64 (wrap IntKind.u64 ((wrap IntKind.u64 (wrap IntKind.u64 (wrap IntKind.u64 (v4 * 4294967296) + v5) - wrap IntKind.u64 (v7 * v0))).tdiv v2) * v2)),
      wrap IntKind.u64 (wrap IntKind.u64 (wrap IntKind.u64 (v4 * 4294967296) + v5) - wrap IntKind.u64 (v7 * v0)),
      wrap IntKind.u64 ((wrap IntKind.u64 (wrap IntKind.u64 (wrap IntKind.u64 (v4 * 4294967296) + v5) - wrap IntKind.u64 (v7 * v0))).tdiv v2)))
  none
theorem d1_cn {ι : Type} {E : Fil ι} {L2k : T2 → Option R} {L2k' : ι → T2 → Option R} (hL2k : ∀ v, Cn E (L2k v) fun i => L2k' i v) : ∀ v : T1, Cn E (d1 L2k v) fun i => d1 (L2k' i) v := fun (v0, v1, v2, v3, v4, v5, v6, v7) => (.br (hL2k _) .none)
theorem l1_b ( k : Nat) : ∀ v : T1, run (cs k) (loopN cs k) c1000021 (J1000021 k) (s1 v) = d1 (l2 k k) v := fun (v0, v1, v2, v3, v4, v5, v6, v7) => by kernel_rfl
theorem D1_of (v : T1) {r : R} (h : d1 D2 v = some r) : D1 v = some r :=
  join_of (l := fun L => l1 (L 0) v) (d := fun L => d1 (l2 (L 0) (L 0)) v) (fun L => (held_eq _).trans (l1_b (L 0) v)) (d1_cn (fun v => (D2_cn v).re [0, 0]) v) h
def d2 (L3k : T3 → Option R) (L2m1 : T2 → Option R) : T2 → Option R := fun (v0, v1, v2, v3, v4, v5, v6, v7, v8) =>
br (decide (4294967296 ≤ v8) || decide (wrap IntKind.u64 (wrap IntKind.u64 (4294967296 * v6) + v4) < wrap IntKind.u64 (v8 * v3)))
  (br (decide (4294967296 ≤ wrap IntKind.u64 (v6 + v2))) (L3k (v0, v1, v4, v5, v7, wrap IntKind.u64 (v8 - 1))) (L2m1 (v0, v1, v2, v3, v4, v5, wrap IntKind.u64 (v6 + v2), v7, wrap IntKind.u64 (v8 - 1))))
  (L3k (v0, v1, v4, v5, v7, v8))
theorem d2_cn {ι : Type} {E : Fil ι} {L3k : T3 → Option R} {L3k' : ι → T3 → Option R} (hL3k : ∀ v, Cn E (L3k v) fun i => L3k' i v) {L2m1 : T2 → Option R} {L2m1' : ι → T2 → Option R} (hL2m1 : ∀ v, Cn E (L2m1 v) fun i => L2m1' i v) : ∀ v : T2, Cn E (d2 L3k L2m1 v) fun i => d2 (L3k' i) (L2m1' i) v := fun (v0, v1, v2, v3, v4, v5, v6, v7, v8) => (.br (.br (hL3k _) (hL2m1 _)) (hL3k _))
theorem l2_b ( k m1 : Nat) : ∀ v : T2, run (cs m1) (loopN cs m1) b24 (kLoop cs m1 b24 (K24 k)) (s2 v) = d2 (l3 k) (l2 k m1) v := fun (v0, v1, v2, v3, v4, v5, v6, v7, v8) => by kernel_rfl
theorem D2_of (v : T2) {r : R} (h : d2 D3 D2 v = some r) : D2 v = some r :=
  loop_of 1 (l := fun L => l2 (L 0) (L 1) v) (d := fun L => d2 (l3 (L 0)) (l2 (L 0) (L 1)) v) (fun L n hn => by show l2 (L 0) (L 1) v = _; rw [hn]; exact (held_eq _).trans ((loopN_succ _ _ _ _ _).trans (l2_b (L 0) n v))) (d2_cn (fun v => (D3_cn v).re [0]) (fun v => (D2_cn v).re [0, 1]) v) h
def d3 : T3 → Option R := fun (v0, v1, v2, v3, v4, v5) =>
br (decide (0 ≤ v1)) (some (wrap IntKind.u64 (wrap IntKind.u64 (v3 * 4294967296) + v5), shr IntKind.u64 (wrap IntKind.u64 (wrap IntKind.u64 (wrap IntKind.u64 (v4 * 4294967296) + v2) - wrap IntKind.u64 (v5 * v0))) v1))
  none
theorem d3_cn {ι : Type} {E : Fil ι} : ∀ v : T3, Cn E (d3 v) fun i => d3 v := fun (v0, v1, v2, v3, v4, v5) => (.br .some .none)
theorem l3_b ( k : Nat) : ∀ v : T3, run (cs k) (loopN cs k) c1000028 (J1000028 k) (s3 v) = d3 v := fun (v0, v1, v2, v3, v4, v5) => by kernel_rfl
theorem D3_of (v : T3) {r : R} (h : d3 v = some r) : D3 v = some r :=
  join_of (l := fun L => l3 (L 0) v) (d := fun L => d3 v) (fun L => (held_eq _).trans (l3_b (L 0) v)) (d3_cn v) h
noncomputable def f (k : Nat) : A → Option R := fun (v0, v1, v2) => held (runFn cs k Tryz.f94 [(.c (.int .u64 v0)), (.c (.int .u64 v1)), (.c (.int .u64 v2))] [] dec)
noncomputable def F (v : A) : Option R := lim fun L => f (L 0) v
theorem F_cn (x : Nat) (v : A) : Cn late (F v) fun L => f (L x) v := of_lim.re [x]
def d (bits_LeadingZeros64_k : bits_LeadingZeros64.A → Option bits_LeadingZeros64.R) (L0k : T0 → Option R) : A → Option R := fun (v0, v1, v2) =>
br (decide (v2 = 0)) none
  (br (decide (v2 ≤ v0)) none
    (br (decide (v0 = 0)) (br (!decide (v2 = 0)) (br (!decide (v2 = 0)) (some (wrap IntKind.u64 (v1.tdiv v2), v1.tmod v2)) none) none)
      (bnd (bits_LeadingZeros64_k v2) fun r =>
        br (decide (0 ≤ wrap IntKind.u64 r))
          (br (decide ((0 : Int) ≤ 32))
            (br (decide (0 ≤ wrap IntKind.u64 r))
              (br (decide (0 ≤ wrap IntKind.u64 (64 - wrap IntKind.u64 r)))
                (br (decide (0 ≤ wrap IntKind.u64 r))
                  (br (decide ((0 : Int) ≤ 32))
                    (br (!decide (shr IntKind.u64 (shl IntKind.u64 v2 (wrap IntKind.u64 r)) 32 = 0))
                      (L0k
                        (shl IntKind.u64 v2 (wrap IntKind.u64 r), wrap IntKind.u64 r, shr IntKind.u64 (shl IntKind.u64 v2 (wrap IntKind.u64 r)) 32, bAnd IntKind.u64 (shl IntKind.u64 v2 (wrap IntKind.u64 r)) 4294967295,
                          bOr IntKind.u64 (shl IntKind.u64 v0 (wrap IntKind.u64 r)) (shr IntKind.u64 v1 (wrap IntKind.u64 (64 - wrap IntKind.u64 r))), shr IntKind.u64 (shl IntKind.u64 v1 (wrap IntKind.u64 r)) 32,
                          bAnd IntKind.u64 (shl IntKind.u64 v1 (wrap IntKind.u64 r)) 4294967295,
                          wrap IntKind.u64
                            ((bOr IntKind.u64 (shl IntKind.u64 v0 (wrap IntKind.u64 r)) (shr IntKind.u64 v1 (wrap IntKind.u64 (64 - wrap IntKind.u64 r)))).tdiv
                              (shr IntKind.u64 (shl IntKind.u64 v2 (wrap IntKind.u64 r)) 32)),
                          wrap IntKind.u64
                            (bOr IntKind.u64 (shl IntKind.u64 v0 (wrap IntKind.u64 r)) (shr IntKind.u64 v1 (wrap IntKind.u64 (64 - wrap IntKind.u64 r))) -
                              wrap IntKind.u64
                                (wrap IntKind.u64
                                    ((bOr IntKind.u64 (shl IntKind.u64 v0 (wrap IntKind.u64 r)) (shr IntKind.u64 v1 (wrap IntKind.u64 (64 - wrap IntKind.u64 r)))).tdiv
                                      (shr IntKind.u64 (shl IntKind.u64 v2 (wrap IntKind.u64 r)) 32)) *
                                  shr IntKind.u64 (shl IntKind.u64 v2 (wrap IntKind.u64 r)) 32))))
                      none)
                    none)
                  none)
                none)
              none)
            none)
          none)))
theorem d_cn {ι : Type} {E : Fil ι} {bits_LeadingZeros64_k : bits_LeadingZeros64.A → Option bits_LeadingZeros64.R} {bits_LeadingZeros64_k' : ι → bits_LeadingZeros64.A → Option bits_LeadingZeros64.R} (hbits_LeadingZeros64_k : ∀ v, Cn E (bits_LeadingZeros64_k v) fun i => bits_LeadingZeros64_k' i v) {L0k : T0 → Option R} {L0k' : ι → T0 → Option R} (hL0k : ∀ v, Cn E (L0k v) fun i => L0k' i v) : ∀ v : A, Cn E (d bits_LeadingZeros64_k L0k v) fun i => d (bits_LeadingZeros64_k' i) (L0k' i) v := fun (v0, v1, v2) => (.br .none (.br .none (.br (.br (.br .some .none) .none) (.bnd (hbits_LeadingZeros64_k _) fun _ => (.br (.br (.br (.br (.br (.br (.br (hL0k _) .none) .none) .none) .none) .none) .none) .none)))))
theorem f_b (k : Nat) : ∀ v : A, f k v = d (bits_LeadingZeros64.f k) (l0 k k) v := fun (v0, v1, v2) => (held_eq _).trans (by kernel_rfl)
theorem F_of (v : A) {r : R} (h : d bits_LeadingZeros64.F D0 v = some r) : F v = some r :=
  join_of (l := fun L => f (L 0) v) (d := fun L => d (bits_LeadingZeros64.f (L 0)) (l0 (L 0) (L 0)) v) (fun L => f_b (L 0) v) (d_cn (bits_LeadingZeros64.F_cn 0) (fun v => (D0_cn v).re [0, 0]) v) h
noncomputable def spec (k : Nat) (args : List AV) (ss : List Slot) : Option Ans :=
  match args, ss with
  | [(.c (.int .u64 v0)), (.c (.int .u64 v1)), (.c (.int .u64 v2))], [] => some ⟨R, f k (v0, v1, v2), enc⟩
  | _, _ => none
theorem spec_ok (k : Nat) : SpecOk Tryz.prog 94 (spec k) := by
  intro args ss ans x h hx X σ w vals hp
  unfold spec at h
  split at h
  · cases h
    exact spec_of cs_ok Tryz.func94 rfl rfl dec_ok (held_eq _).symm hx hp
  · cases h
end bits_Div64
noncomputable def t_bits_Div64 (k : Nat) := tcons 94 (bits_Div64.spec k) (t_bits_LeadingZeros64 k)
theorem t_bits_Div64_ok (n g : Nat) : SpecOk Tryz.prog g (t_bits_Div64 n g) := tcons_ok (bits_Div64.spec_ok n) (fun g => t_bits_LeadingZeros64_ok n g) g
namespace num_Wide_Div
abbrev R : Type := Int × Int
abbrev A : Type := Int × Int × Int
def lv : List (Nat × List Nat) := [(2000000, [4, 5]), (1000006, [1, 2, 6]), (1000014, [2, 7, 8, 9])]
noncomputable def cs : Nat → Ctx := ctxOf tis modes t_bits_Div64 lv
theorem cs_ok (n : Nat) : CtxOk Tryz.prog (cs n) := ctxOf_ok rfl tis_ok t_bits_Div64_ok n
def enc (r : R) : Out := ((.tup [(.c (.int .i64 r.1)), (.c (.int .i64 r.2))]), [])
def dec : Out → Option R
  | ((.tup [(.c (.int .i64 v0)), (.c (.int .i64 v1))]), []) => some (v0, v1)
  | _ => none
theorem dec_ok : ∀ u y, dec u = some y → u = enc y := by
  intro u y h
  unfold dec at h
  split at h
  · cases h; rfl
  · cases h
noncomputable def b0 : Code := subF [] Tryz.f59
noncomputable def K0 (k : Nat) : Kt R := kTop (cs k) Tryz.f59 dec
noncomputable def c1000006 : Code := sub [1, 1, 1, 1] b0
noncomputable def J1000006 ( k : Nat) : Kt R := kAt (cs k) (loopN cs k) [1, 1, 1, 1] b0 (K0 k)
noncomputable def c1000014 : Code := sub [1, 1, 1, 1, 1, 1, 1, 1] b0
noncomputable def J1000014 ( k : Nat) : Kt R := kAt (cs k) (loopN cs k) [1, 1, 1, 1, 1, 1, 1, 1] b0 (K0 k)
abbrev T0 : Type := Int × Int × Int × Int × Int
def s0 : T0 → St := fun (v0, v1, v2, v3, v4) => ⟨61, 0, [(1, (.c (.int .i64 v0))), (2, (.c (.ptr 64000000 0))), (6, (.c (.ptr 64000001 0)))], [], [(256000000, .gone), (64000000, (.box [(.int .i64 v1), (.int .u64 v2)])), (64000001, (.box [(.int .i64 v3), (.int .u64 v4)]))]⟩
noncomputable def l0 ( k : Nat) (v : T0) : Option R := held (run (cs k) (loopN cs k) c1000006 (J1000006 k) (s0 v))
noncomputable def D0 (v : T0) : Option R := lim fun L => l0 (L 0) v
theorem D0_cn (v : T0) : Cn late (D0 v) fun L => l0 (L 0) v := of_lim
abbrev T1 : Type := Int × Int × Int × Int × Int
def s1 : T1 → St := fun (v0, v1, v2, v3, v4) => ⟨61, 0, [(2, (.c (.ptr 64000000 0))), (7, (.c (.int .u64 v0))), (8, (.c (.int .u64 v1))), (9, (.c (.int .u64 v2)))], [], [(256000000, .gone), (64000000, (.box [(.int .i64 v3), (.int .u64 v4)]))]⟩
noncomputable def l1 ( k : Nat) (v : T1) : Option R := held (run (cs k) (loopN cs k) c1000014 (J1000014 k) (s1 v))
noncomputable def D1 (v : T1) : Option R := lim fun L => l1 (L 0) v
theorem D1_cn (v : T1) : Cn late (D1 v) fun L => l1 (L 0) v := of_lim
def d0 (bits_Div64_k : bits_Div64.A → Option bits_Div64.R) (L1k : T1 → Option R) : T0 → Option R := fun (v0, v1, v2, v3, v4) =>
br (decide (wrap IntKind.u64 v0 ≤ wrap IntKind.u64 v3)) (some (0, 2))
  (bnd (bits_Div64_k (wrap IntKind.u64 v3, v4, wrap IntKind.u64 v0)) fun r =>
    br (decide (v1 < 0)) (br (decide (0 < r.snd)) (L1k (r.fst, r.snd, wrap IntKind.u64 (9223372036854775808 - 1), v1, v2)) (L1k (r.fst, r.snd, 9223372036854775808, v1, v2)))
      (L1k (r.fst, r.snd, 9223372036854775807, v1, v2)))
theorem d0_cn {ι : Type} {E : Fil ι} {bits_Div64_k : bits_Div64.A → Option bits_Div64.R} {bits_Div64_k' : ι → bits_Div64.A → Option bits_Div64.R} (hbits_Div64_k : ∀ v, Cn E (bits_Div64_k v) fun i => bits_Div64_k' i v) {L1k : T1 → Option R} {L1k' : ι → T1 → Option R} (hL1k : ∀ v, Cn E (L1k v) fun i => L1k' i v) : ∀ v : T0, Cn E (d0 bits_Div64_k L1k v) fun i => d0 (bits_Div64_k' i) (L1k' i) v := fun (v0, v1, v2, v3, v4) => (.br .some (.bnd (hbits_Div64_k _) fun _ => (.br (.br (hL1k _) (hL1k _)) (hL1k _))))
theorem l0_b ( k : Nat) : ∀ v : T0, run (cs k) (loopN cs k) c1000006 (J1000006 k) (s0 v) = d0 (bits_Div64.f k) (l1 k) v := fun (v0, v1, v2, v3, v4) => by kernel_rfl
theorem D0_of (v : T0) {r : R} (h : d0 bits_Div64.F D1 v = some r) : D0 v = some r :=
  join_of (l := fun L => l0 (L 0) v) (d := fun L => d0 (bits_Div64.f (L 0)) (l1 (L 0)) v) (fun L => (held_eq _).trans (l0_b (L 0) v)) (d0_cn (bits_Div64.F_cn 0) (fun v => (D1_cn v).re [0]) v) h
def d1 : T1 → Option R := fun (v0, v1, v2, v3, v4) =>
br (decide (v2 < v0)) (some (0, 2))
  (br (decide (0 ≤ v3)) (some (wrap IntKind.i64 v0, 0)) (br (decide (0 < v1)) (some (wrap IntKind.i64 (wrap IntKind.i64 (wrap IntKind.u64 (0 - v0)) - 1), 0)) (some (wrap IntKind.i64 (wrap IntKind.u64 (0 - v0)), 0))))
theorem d1_cn {ι : Type} {E : Fil ι} : ∀ v : T1, Cn E (d1 v) fun i => d1 v := fun (v0, v1, v2, v3, v4) => (.br .some (.br .some (.br .some .some)))
theorem l1_b ( k : Nat) : ∀ v : T1, run (cs k) (loopN cs k) c1000014 (J1000014 k) (s1 v) = d1 v := fun (v0, v1, v2, v3, v4) => by kernel_rfl
theorem D1_of (v : T1) {r : R} (h : d1 v = some r) : D1 v = some r :=
  join_of (l := fun L => l1 (L 0) v) (d := fun L => d1 v) (fun L => (held_eq _).trans (l1_b (L 0) v)) (d1_cn v) h
noncomputable def f (k : Nat) : A → Option R := fun (v0, v1, v2) => held (runFn cs k Tryz.f59 [(.agg [(.int .i64 v0), (.int .u64 v1)]), (.c (.int .i64 v2))] [] dec)
noncomputable def F (v : A) : Option R := lim fun L => f (L 0) v
theorem F_cn (x : Nat) (v : A) : Cn late (F v) fun L => f (L x) v := of_lim.re [x]
def d (num_Wide_Neg_k : num_Wide_Neg.A → Option num_Wide_Neg.R) (L0k : T0 → Option R) : A → Option R := fun (v0, v1, v2) =>
br (decide (v2 < 1)) (some (0, 1)) (br (decide (v0 < 0)) (bnd (num_Wide_Neg_k (v0, v1)) fun r => L0k (v2, v0, v1, r.fst, r.snd)) (L0k (v2, v0, v1, v0, v1)))
theorem d_cn {ι : Type} {E : Fil ι} {num_Wide_Neg_k : num_Wide_Neg.A → Option num_Wide_Neg.R} {num_Wide_Neg_k' : ι → num_Wide_Neg.A → Option num_Wide_Neg.R} (hnum_Wide_Neg_k : ∀ v, Cn E (num_Wide_Neg_k v) fun i => num_Wide_Neg_k' i v) {L0k : T0 → Option R} {L0k' : ι → T0 → Option R} (hL0k : ∀ v, Cn E (L0k v) fun i => L0k' i v) : ∀ v : A, Cn E (d num_Wide_Neg_k L0k v) fun i => d (num_Wide_Neg_k' i) (L0k' i) v := fun (v0, v1, v2) => (.br .some (.br (.bnd (hnum_Wide_Neg_k _) fun _ => (hL0k _)) (hL0k _)))
theorem f_b (k : Nat) : ∀ v : A, f k v = d (num_Wide_Neg.f k) (l0 k) v := fun (v0, v1, v2) => (held_eq _).trans (by kernel_rfl)
theorem F_of (v : A) {r : R} (h : d num_Wide_Neg.F D0 v = some r) : F v = some r :=
  join_of (l := fun L => f (L 0) v) (d := fun L => d (num_Wide_Neg.f (L 0)) (l0 (L 0)) v) (fun L => f_b (L 0) v) (d_cn (num_Wide_Neg.F_cn 0) (fun v => (D0_cn v).re [0]) v) h
noncomputable def spec (k : Nat) (args : List AV) (ss : List Slot) : Option Ans :=
  match args, ss with
  | [(.agg [(.int .i64 v0), (.int .u64 v1)]), (.c (.int .i64 v2))], [] => some ⟨R, f k (v0, v1, v2), enc⟩
  | _, _ => none
theorem spec_ok (k : Nat) : SpecOk Tryz.prog 59 (spec k) := by
  intro args ss ans x h hx X σ w vals hp
  unfold spec at h
  split at h
  · cases h
    exact spec_of cs_ok Tryz.func59 rfl rfl dec_ok (held_eq _).symm hx hp
  · cases h
end num_Wide_Div
noncomputable def t_num_Wide_Div (k : Nat) := tcons 59 (num_Wide_Div.spec k) (t_bits_Div64 k)
theorem t_num_Wide_Div_ok (n g : Nat) : SpecOk Tryz.prog g (t_num_Wide_Div n g) := tcons_ok (num_Wide_Div.spec_ok n) (fun g => t_bits_Div64_ok n g) g
namespace num_MulDiv
abbrev R : Type := Int × Int
abbrev A : Type := Int × Int × Int
def lv : List (Nat × List Nat) := [(2000000, [6, 7])]
noncomputable def cs : Nat → Ctx := ctxOf tis modes t_num_Wide_Div lv
theorem cs_ok (n : Nat) : CtxOk Tryz.prog (cs n) := ctxOf_ok rfl tis_ok t_num_Wide_Div_ok n
def enc (r : R) : Out := ((.tup [(.c (.int .i64 r.1)), (.c (.int .i64 r.2))]), [])
def dec : Out → Option R
  | ((.tup [(.c (.int .i64 v0)), (.c (.int .i64 v1))]), []) => some (v0, v1)
  | _ => none
theorem dec_ok : ∀ u y, dec u = some y → u = enc y := by
  intro u y h
  unfold dec at h
  split at h
  · cases h; rfl
  · cases h
noncomputable def b0 : Code := subF [] Tryz.f26
noncomputable def K0 (k : Nat) : Kt R := kTop (cs k) Tryz.f26 dec
noncomputable def f (k : Nat) : A → Option R := fun (v0, v1, v2) => held (runFn cs k Tryz.f26 [(.c (.int .i64 v0)), (.c (.int .i64 v1)), (.c (.int .i64 v2))] [] dec)
noncomputable def F (v : A) : Option R := lim fun L => f (L 0) v
theorem F_cn (x : Nat) (v : A) : Cn late (F v) fun L => f (L x) v := of_lim.re [x]
def d (num_Product_k : num_Product.A → Option num_Product.R) (num_Wide_Div_k : num_Wide_Div.A → Option num_Wide_Div.R) : A → Option R := fun (v0, v1, v2) =>
bnd (num_Product_k (v0, v1)) fun r => bnd (num_Wide_Div_k (r.fst, r.snd, v2)) fun r => some (r.fst, r.snd)
theorem d_cn {ι : Type} {E : Fil ι} {num_Product_k : num_Product.A → Option num_Product.R} {num_Product_k' : ι → num_Product.A → Option num_Product.R} (hnum_Product_k : ∀ v, Cn E (num_Product_k v) fun i => num_Product_k' i v) {num_Wide_Div_k : num_Wide_Div.A → Option num_Wide_Div.R} {num_Wide_Div_k' : ι → num_Wide_Div.A → Option num_Wide_Div.R} (hnum_Wide_Div_k : ∀ v, Cn E (num_Wide_Div_k v) fun i => num_Wide_Div_k' i v) : ∀ v : A, Cn E (d num_Product_k num_Wide_Div_k v) fun i => d (num_Product_k' i) (num_Wide_Div_k' i) v := fun (v0, v1, v2) => (.bnd (hnum_Product_k _) fun _ => (.bnd (hnum_Wide_Div_k _) fun _ => .some))
theorem f_b (k : Nat) : ∀ v : A, f k v = d (num_Product.f k) (num_Wide_Div.f k) v := fun (v0, v1, v2) => (held_eq _).trans (by kernel_rfl)
theorem F_of (v : A) {r : R} (h : d num_Product.F num_Wide_Div.F v = some r) : F v = some r :=
  join_of (l := fun L => f (L 0) v) (d := fun L => d (num_Product.f (L 0)) (num_Wide_Div.f (L 0)) v) (fun L => f_b (L 0) v) (d_cn (num_Product.F_cn 0) (num_Wide_Div.F_cn 0) v) h
noncomputable def spec (k : Nat) (args : List AV) (ss : List Slot) : Option Ans :=
  match args, ss with
  | [(.c (.int .i64 v0)), (.c (.int .i64 v1)), (.c (.int .i64 v2))], [] => some ⟨R, f k (v0, v1, v2), enc⟩
  | _, _ => none
theorem spec_ok (k : Nat) : SpecOk Tryz.prog 26 (spec k) := by
  intro args ss ans x h hx X σ w vals hp
  unfold spec at h
  split at h
  · cases h
    exact spec_of cs_ok Tryz.func26 rfl rfl dec_ok (held_eq _).symm hx hp
  · cases h
end num_MulDiv
noncomputable def t_num_MulDiv (k : Nat) := tcons 26 (num_MulDiv.spec k) (t_num_Wide_Div k)
theorem t_num_MulDiv_ok (n g : Nat) : SpecOk Tryz.prog g (t_num_MulDiv n g) := tcons_ok (num_MulDiv.spec_ok n) (fun g => t_num_Wide_Div_ok n g) g
namespace num_Wide_Mod
abbrev R : Type := Int
abbrev A : Type := Int × Int × Int
def lv : List (Nat × List Nat) := [(2000000, [4]), (1000006, [1, 2, 5]), (1000009, [7])]
noncomputable def cs : Nat → Ctx := ctxOf tis modes t_num_MulDiv lv
theorem cs_ok (n : Nat) : CtxOk Tryz.prog (cs n) := ctxOf_ok rfl tis_ok t_num_MulDiv_ok n
def enc (r : R) : Out := ((.c (.int .i64 r)), [])
def dec : Out → Option R
  | ((.c (.int .i64 v0)), []) => some v0
  | _ => none
theorem dec_ok : ∀ u y, dec u = some y → u = enc y := by
  intro u y h
  unfold dec at h
  split at h
  · cases h; rfl
  · cases h
noncomputable def b0 : Code := subF [] Tryz.f60
noncomputable def K0 (k : Nat) : Kt R := kTop (cs k) Tryz.f60 dec
noncomputable def c1000006 : Code := sub [1, 1, 1, 1] b0
noncomputable def J1000006 ( k : Nat) : Kt R := kAt (cs k) (loopN cs k) [1, 1, 1, 1] b0 (K0 k)
noncomputable def c1000009 : Code := sub [1, 1, 1, 1, 1, 1] b0
noncomputable def J1000009 ( k : Nat) : Kt R := kAt (cs k) (loopN cs k) [1, 1, 1, 1, 1, 1] b0 (K0 k)
abbrev T0 : Type := Int × Int × Int × Int × Int
def s0 : T0 → St := fun (v0, v1, v2, v3, v4) => ⟨43, 0, [(1, (.c (.int .i64 v0))), (2, (.c (.ptr 64000000 0))), (5, (.c (.ptr 64000001 0)))], [], [(256000000, .gone), (64000000, (.box [(.int .i64 v1), (.int .u64 v2)])), (64000001, (.box [(.int .i64 v3), (.int .u64 v4)]))]⟩
noncomputable def l0 ( k : Nat) (v : T0) : Option R := held (run (cs k) (loopN cs k) c1000006 (J1000006 k) (s0 v))
noncomputable def D0 (v : T0) : Option R := lim fun L => l0 (L 0) v
theorem D0_cn (v : T0) : Cn late (D0 v) fun L => l0 (L 0) v := of_lim
abbrev T1 : Type := Int
def s1 : T1 → St := fun v0 => ⟨43, 0, [(7, (.c (.int .u64 v0)))], [], [(256000000, .gone)]⟩
noncomputable def l1 ( k : Nat) (v : T1) : Option R := held (run (cs k) (loopN cs k) c1000009 (J1000009 k) (s1 v))
noncomputable def D1 (v : T1) : Option R := lim fun L => l1 (L 0) v
theorem D1_cn (v : T1) : Cn late (D1 v) fun L => l1 (L 0) v := of_lim
def d0 (bits_Div64_k : bits_Div64.A → Option bits_Div64.R) (L1k : T1 → Option R) : T0 → Option R := fun (v0, v1, v2, v3, v4) =>
br (!decide (wrap IntKind.u64 v0 = 0))
  (bnd (bits_Div64_k ((wrap IntKind.u64 v3).tmod (wrap IntKind.u64 v0), v4, wrap IntKind.u64 v0)) fun r => br (decide (v1 < 0) && decide (0 < r.snd)) (L1k (wrap IntKind.u64 (wrap IntKind.u64 v0 - r.snd))) (L1k r.snd))
  none
theorem d0_cn {ι : Type} {E : Fil ι} {bits_Div64_k : bits_Div64.A → Option bits_Div64.R} {bits_Div64_k' : ι → bits_Div64.A → Option bits_Div64.R} (hbits_Div64_k : ∀ v, Cn E (bits_Div64_k v) fun i => bits_Div64_k' i v) {L1k : T1 → Option R} {L1k' : ι → T1 → Option R} (hL1k : ∀ v, Cn E (L1k v) fun i => L1k' i v) : ∀ v : T0, Cn E (d0 bits_Div64_k L1k v) fun i => d0 (bits_Div64_k' i) (L1k' i) v := fun (v0, v1, v2, v3, v4) => (.br (.bnd (hbits_Div64_k _) fun _ => (.br (hL1k _) (hL1k _))) .none)
theorem l0_b ( k : Nat) : ∀ v : T0, run (cs k) (loopN cs k) c1000006 (J1000006 k) (s0 v) = d0 (bits_Div64.f k) (l1 k) v := fun (v0, v1, v2, v3, v4) => by kernel_rfl
theorem D0_of (v : T0) {r : R} (h : d0 bits_Div64.F D1 v = some r) : D0 v = some r :=
  join_of (l := fun L => l0 (L 0) v) (d := fun L => d0 (bits_Div64.f (L 0)) (l1 (L 0)) v) (fun L => (held_eq _).trans (l0_b (L 0) v)) (d0_cn (bits_Div64.F_cn 0) (fun v => (D1_cn v).re [0]) v) h
def d1 : T1 → Option R := fun v0 =>
some (wrap IntKind.i64 v0)
theorem d1_cn {ι : Type} {E : Fil ι} : ∀ v : T1, Cn E (d1 v) fun i => d1 v := fun v0 => .some
theorem l1_b ( k : Nat) : ∀ v : T1, run (cs k) (loopN cs k) c1000009 (J1000009 k) (s1 v) = d1 v := fun v0 => by kernel_rfl
theorem D1_of (v : T1) {r : R} (h : d1 v = some r) : D1 v = some r :=
  join_of (l := fun L => l1 (L 0) v) (d := fun L => d1 v) (fun L => (held_eq _).trans (l1_b (L 0) v)) (d1_cn v) h
noncomputable def f (k : Nat) : A → Option R := fun (v0, v1, v2) => held (runFn cs k Tryz.f60 [(.agg [(.int .i64 v0), (.int .u64 v1)]), (.c (.int .i64 v2))] [] dec)
noncomputable def F (v : A) : Option R := lim fun L => f (L 0) v
theorem F_cn (x : Nat) (v : A) : Cn late (F v) fun L => f (L x) v := of_lim.re [x]
def d (num_Wide_Neg_k : num_Wide_Neg.A → Option num_Wide_Neg.R) (L0k : T0 → Option R) : A → Option R := fun (v0, v1, v2) =>
br (decide (v2 < 1)) (some 0) (br (decide (v0 < 0)) (bnd (num_Wide_Neg_k (v0, v1)) fun r => L0k (v2, v0, v1, r.fst, r.snd)) (L0k (v2, v0, v1, v0, v1)))
theorem d_cn {ι : Type} {E : Fil ι} {num_Wide_Neg_k : num_Wide_Neg.A → Option num_Wide_Neg.R} {num_Wide_Neg_k' : ι → num_Wide_Neg.A → Option num_Wide_Neg.R} (hnum_Wide_Neg_k : ∀ v, Cn E (num_Wide_Neg_k v) fun i => num_Wide_Neg_k' i v) {L0k : T0 → Option R} {L0k' : ι → T0 → Option R} (hL0k : ∀ v, Cn E (L0k v) fun i => L0k' i v) : ∀ v : A, Cn E (d num_Wide_Neg_k L0k v) fun i => d (num_Wide_Neg_k' i) (L0k' i) v := fun (v0, v1, v2) => (.br .some (.br (.bnd (hnum_Wide_Neg_k _) fun _ => (hL0k _)) (hL0k _)))
theorem f_b (k : Nat) : ∀ v : A, f k v = d (num_Wide_Neg.f k) (l0 k) v := fun (v0, v1, v2) => (held_eq _).trans (by kernel_rfl)
theorem F_of (v : A) {r : R} (h : d num_Wide_Neg.F D0 v = some r) : F v = some r :=
  join_of (l := fun L => f (L 0) v) (d := fun L => d (num_Wide_Neg.f (L 0)) (l0 (L 0)) v) (fun L => f_b (L 0) v) (d_cn (num_Wide_Neg.F_cn 0) (fun v => (D0_cn v).re [0]) v) h
noncomputable def spec (k : Nat) (args : List AV) (ss : List Slot) : Option Ans :=
  match args, ss with
  | [(.agg [(.int .i64 v0), (.int .u64 v1)]), (.c (.int .i64 v2))], [] => some ⟨R, f k (v0, v1, v2), enc⟩
  | _, _ => none
theorem spec_ok (k : Nat) : SpecOk Tryz.prog 60 (spec k) := by
  intro args ss ans x h hx X σ w vals hp
  unfold spec at h
  split at h
  · cases h
    exact spec_of cs_ok Tryz.func60 rfl rfl dec_ok (held_eq _).symm hx hp
  · cases h
end num_Wide_Mod
noncomputable def t_num_Wide_Mod (k : Nat) := tcons 60 (num_Wide_Mod.spec k) (t_num_MulDiv k)
theorem t_num_Wide_Mod_ok (n g : Nat) : SpecOk Tryz.prog g (t_num_Wide_Mod n g) := tcons_ok (num_Wide_Mod.spec_ok n) (fun g => t_num_MulDiv_ok n g) g
namespace num_MulDivUp
abbrev R : Type := Int × Int
abbrev A : Type := Int × Int × Int
def lv : List (Nat × List Nat) := [(2000000, [6, 7])]
noncomputable def cs : Nat → Ctx := ctxOf tis modes t_num_Wide_Mod lv
theorem cs_ok (n : Nat) : CtxOk Tryz.prog (cs n) := ctxOf_ok rfl tis_ok t_num_Wide_Mod_ok n
def enc (r : R) : Out := ((.tup [(.c (.int .i64 r.1)), (.c (.int .i64 r.2))]), [])
def dec : Out → Option R
  | ((.tup [(.c (.int .i64 v0)), (.c (.int .i64 v1))]), []) => some (v0, v1)
  | _ => none
theorem dec_ok : ∀ u y, dec u = some y → u = enc y := by
  intro u y h
  unfold dec at h
  split at h
  · cases h; rfl
  · cases h
noncomputable def b0 : Code := subF [] Tryz.f27
noncomputable def K0 (k : Nat) : Kt R := kTop (cs k) Tryz.f27 dec
noncomputable def f (k : Nat) : A → Option R := fun (v0, v1, v2) => held (runFn cs k Tryz.f27 [(.c (.int .i64 v0)), (.c (.int .i64 v1)), (.c (.int .i64 v2))] [] dec)
noncomputable def F (v : A) : Option R := lim fun L => f (L 0) v
theorem F_cn (x : Nat) (v : A) : Cn late (F v) fun L => f (L x) v := of_lim.re [x]
def d (num_Product_k : num_Product.A → Option num_Product.R) (num_Wide_Div_k : num_Wide_Div.A → Option num_Wide_Div.R) (num_Wide_Mod_k : num_Wide_Mod.A → Option num_Wide_Mod.R) : A → Option R := fun (v0, v1, v2) =>
bnd (num_Product_k (v0, v1)) fun r =>
  bnd (num_Wide_Div_k (r.fst, r.snd, v2)) fun r_1 =>
    br ((!decide (r_1.snd = 0)) == false)
      (bnd (num_Wide_Mod_k (r.fst, r.snd, v2)) fun r => br (decide (r = 0)) (some (r_1.fst, r_1.snd)) (br (decide (r_1.fst = 9223372036854775807)) (some (0, 2)) (some (wrap IntKind.i64 (r_1.fst + 1), 0))))
      (some (r_1.fst, r_1.snd))
theorem d_cn {ι : Type} {E : Fil ι} {num_Product_k : num_Product.A → Option num_Product.R} {num_Product_k' : ι → num_Product.A → Option num_Product.R} (hnum_Product_k : ∀ v, Cn E (num_Product_k v) fun i => num_Product_k' i v) {num_Wide_Div_k : num_Wide_Div.A → Option num_Wide_Div.R} {num_Wide_Div_k' : ι → num_Wide_Div.A → Option num_Wide_Div.R} (hnum_Wide_Div_k : ∀ v, Cn E (num_Wide_Div_k v) fun i => num_Wide_Div_k' i v) {num_Wide_Mod_k : num_Wide_Mod.A → Option num_Wide_Mod.R} {num_Wide_Mod_k' : ι → num_Wide_Mod.A → Option num_Wide_Mod.R} (hnum_Wide_Mod_k : ∀ v, Cn E (num_Wide_Mod_k v) fun i => num_Wide_Mod_k' i v) : ∀ v : A, Cn E (d num_Product_k num_Wide_Div_k num_Wide_Mod_k v) fun i => d (num_Product_k' i) (num_Wide_Div_k' i) (num_Wide_Mod_k' i) v := fun (v0, v1, v2) => (.bnd (hnum_Product_k _) fun _ => (.bnd (hnum_Wide_Div_k _) fun _ => (.br (.bnd (hnum_Wide_Mod_k _) fun _ => (.br .some (.br .some .some))) .some)))
theorem f_b (k : Nat) : ∀ v : A, f k v = d (num_Product.f k) (num_Wide_Div.f k) (num_Wide_Mod.f k) v := fun (v0, v1, v2) => (held_eq _).trans (by kernel_rfl)
theorem F_of (v : A) {r : R} (h : d num_Product.F num_Wide_Div.F num_Wide_Mod.F v = some r) : F v = some r :=
  join_of (l := fun L => f (L 0) v) (d := fun L => d (num_Product.f (L 0)) (num_Wide_Div.f (L 0)) (num_Wide_Mod.f (L 0)) v) (fun L => f_b (L 0) v) (d_cn (num_Product.F_cn 0) (num_Wide_Div.F_cn 0) (num_Wide_Mod.F_cn 0) v) h
noncomputable def spec (k : Nat) (args : List AV) (ss : List Slot) : Option Ans :=
  match args, ss with
  | [(.c (.int .i64 v0)), (.c (.int .i64 v1)), (.c (.int .i64 v2))], [] => some ⟨R, f k (v0, v1, v2), enc⟩
  | _, _ => none
theorem spec_ok (k : Nat) : SpecOk Tryz.prog 27 (spec k) := by
  intro args ss ans x h hx X σ w vals hp
  unfold spec at h
  split at h
  · cases h
    exact spec_of cs_ok Tryz.func27 rfl rfl dec_ok (held_eq _).symm hx hp
  · cases h
end num_MulDivUp
noncomputable def t_num_MulDivUp (k : Nat) := tcons 27 (num_MulDivUp.spec k) (t_num_Wide_Mod k)
theorem t_num_MulDivUp_ok (n g : Nat) : SpecOk Tryz.prog g (t_num_MulDivUp n g) := tcons_ok (num_MulDivUp.spec_ok n) (fun g => t_num_Wide_Mod_ok n g) g
namespace bound_Check_Arc
abbrev R : Type := Int
abbrev A : Type := Int × Int × Bool
def lv : List (Nat × List Nat) := [(2000000, [2])]
noncomputable def cs : Nat → Ctx := ctxOf tis modes t_num_MulDivUp lv
theorem cs_ok (n : Nat) : CtxOk Tryz.prog (cs n) := ctxOf_ok rfl tis_ok t_num_MulDivUp_ok n
def enc (r : R) : Out := ((.c (.int .i64 r)), [])
def dec : Out → Option R
  | ((.c (.int .i64 v0)), []) => some v0
  | _ => none
theorem dec_ok : ∀ u y, dec u = some y → u = enc y := by
  intro u y h
  unfold dec at h
  split at h
  · cases h; rfl
  · cases h
noncomputable def b0 : Code := subF [] Tryz.f95
noncomputable def K0 (k : Nat) : Kt R := kTop (cs k) Tryz.f95 dec
noncomputable def f (k : Nat) : A → Option R := fun (v0, v1, v2) => held (runFn cs k Tryz.f95 [(.agg [(.int .i64 v0), (.int .i64 v1), (.bool v2)])] [] dec)
noncomputable def F (v : A) : Option R := lim fun L => f (L 0) v
theorem F_cn (x : Nat) (v : A) : Cn late (F v) fun L => f (L x) v := of_lim.re [x]
def d : A → Option R := fun (v0, v1, v2) =>
br (v2 && (!decide (v0 = 0) || !decide (v1 = 0))) (some 3) (br (decide (min v0 v1 < -1152921504606846976) || decide (1152921504606846976 < max v0 v1)) (some 4) (br (decide (v1 < v0)) (some 11) (some 0)))
theorem d_cn {ι : Type} {E : Fil ι} : ∀ v : A, Cn E (d v) fun i => d v := fun (v0, v1, v2) => (.br .some (.br .some (.br .some .some)))
theorem f_b (k : Nat) : ∀ v : A, f k v = d v := fun (v0, v1, v2) => (held_eq _).trans (by kernel_rfl)
theorem F_of (v : A) {r : R} (h : d v = some r) : F v = some r :=
  join_of (l := fun L => f (L 0) v) (d := fun L => d v) (fun L => f_b (L 0) v) (d_cn v) h
noncomputable def spec (k : Nat) (args : List AV) (ss : List Slot) : Option Ans :=
  match args, ss with
  | [(.agg [(.int .i64 v0), (.int .i64 v1), (.bool v2)])], [] => some ⟨R, f k (v0, v1, v2), enc⟩
  | _, _ => none
theorem spec_ok (k : Nat) : SpecOk Tryz.prog 95 (spec k) := by
  intro args ss ans x h hx X σ w vals hp
  unfold spec at h
  split at h
  · cases h
    exact spec_of cs_ok Tryz.func95 rfl rfl dec_ok (held_eq _).symm hx hp
  · cases h
end bound_Check_Arc
noncomputable def t_bound_Check_Arc (k : Nat) := tcons 95 (bound_Check_Arc.spec k) (t_num_MulDivUp k)
theorem t_bound_Check_Arc_ok (n g : Nat) : SpecOk Tryz.prog g (t_bound_Check_Arc n g) := tcons_ok (bound_Check_Arc.spec_ok n) (fun g => t_num_MulDivUp_ok n g) g
namespace bound_Norm_Arc
abbrev R : Type := Int × Int × Bool
abbrev A : Type := Int × Int × Bool
def lv : List (Nat × List Nat) := [(2000000, [2])]
noncomputable def cs : Nat → Ctx := ctxOf tis modes t_bound_Check_Arc lv
theorem cs_ok (n : Nat) : CtxOk Tryz.prog (cs n) := ctxOf_ok rfl tis_ok t_bound_Check_Arc_ok n
def enc (r : R) : Out := ((.agg [(.int .i64 r.1), (.int .i64 r.2.1), (.bool r.2.2)]), [])
def dec : Out → Option R
  | ((.agg [(.int .i64 v0), (.int .i64 v1), (.bool v2)]), []) => some (v0, v1, v2)
  | _ => none
theorem dec_ok : ∀ u y, dec u = some y → u = enc y := by
  intro u y h
  unfold dec at h
  split at h
  · cases h; rfl
  · cases h
noncomputable def b0 : Code := subF [] Tryz.f62
noncomputable def K0 (k : Nat) : Kt R := kTop (cs k) Tryz.f62 dec
noncomputable def f (k : Nat) : A → Option R := fun (v0, v1, v2) => held (runFn cs k Tryz.f62 [(.agg [(.int .i64 v0), (.int .i64 v1), (.bool v2)])] [] dec)
noncomputable def F (v : A) : Option R := lim fun L => f (L 0) v
theorem F_cn (x : Nat) (v : A) : Cn late (F v) fun L => f (L x) v := of_lim.re [x]
def d (bound_Check_Arc_k : bound_Check_Arc.A → Option bound_Check_Arc.R) (bound_None_Arc_k : bound_None_Arc.A → Option bound_None_Arc.R) : A → Option R := fun (v0, v1, v2) =>
bnd (bound_Check_Arc_k (v0, v1, v2)) fun r => br (!decide (r = 0)) (bnd (bound_None_Arc_k ()) fun r => some (r.fst, r.snd.fst, r.snd.snd)) (some (v0, v1, v2))
theorem d_cn {ι : Type} {E : Fil ι} {bound_Check_Arc_k : bound_Check_Arc.A → Option bound_Check_Arc.R} {bound_Check_Arc_k' : ι → bound_Check_Arc.A → Option bound_Check_Arc.R} (hbound_Check_Arc_k : ∀ v, Cn E (bound_Check_Arc_k v) fun i => bound_Check_Arc_k' i v) {bound_None_Arc_k : bound_None_Arc.A → Option bound_None_Arc.R} {bound_None_Arc_k' : ι → bound_None_Arc.A → Option bound_None_Arc.R} (hbound_None_Arc_k : ∀ v, Cn E (bound_None_Arc_k v) fun i => bound_None_Arc_k' i v) : ∀ v : A, Cn E (d bound_Check_Arc_k bound_None_Arc_k v) fun i => d (bound_Check_Arc_k' i) (bound_None_Arc_k' i) v := fun (v0, v1, v2) => (.bnd (hbound_Check_Arc_k _) fun _ => (.br (.bnd (hbound_None_Arc_k _) fun _ => .some) .some))
theorem f_b (k : Nat) : ∀ v : A, f k v = d (bound_Check_Arc.f k) (bound_None_Arc.f k) v := fun (v0, v1, v2) => (held_eq _).trans (by kernel_rfl)
theorem F_of (v : A) {r : R} (h : d bound_Check_Arc.F bound_None_Arc.F v = some r) : F v = some r :=
  join_of (l := fun L => f (L 0) v) (d := fun L => d (bound_Check_Arc.f (L 0)) (bound_None_Arc.f (L 0)) v) (fun L => f_b (L 0) v) (d_cn (bound_Check_Arc.F_cn 0) (bound_None_Arc.F_cn 0) v) h
noncomputable def spec (k : Nat) (args : List AV) (ss : List Slot) : Option Ans :=
  match args, ss with
  | [(.agg [(.int .i64 v0), (.int .i64 v1), (.bool v2)])], [] => some ⟨R, f k (v0, v1, v2), enc⟩
  | _, _ => none
theorem spec_ok (k : Nat) : SpecOk Tryz.prog 62 (spec k) := by
  intro args ss ans x h hx X σ w vals hp
  unfold spec at h
  split at h
  · cases h
    exact spec_of cs_ok Tryz.func62 rfl rfl dec_ok (held_eq _).symm hx hp
  · cases h
end bound_Norm_Arc
noncomputable def t_bound_Norm_Arc (k : Nat) := tcons 62 (bound_Norm_Arc.spec k) (t_bound_Check_Arc k)
theorem t_bound_Norm_Arc_ok (n g : Nat) : SpecOk Tryz.prog g (t_bound_Norm_Arc n g) := tcons_ok (bound_Norm_Arc.spec_ok n) (fun g => t_bound_Check_Arc_ok n g) g
namespace bound_Of_Arc
abbrev R : Type := Int × Int × Bool
abbrev A : Type := Int × Int
def lv : List (Nat × List Nat) := [(2000000, [4])]
noncomputable def cs : Nat → Ctx := ctxOf tis modes t_bound_Norm_Arc lv
theorem cs_ok (n : Nat) : CtxOk Tryz.prog (cs n) := ctxOf_ok rfl tis_ok t_bound_Norm_Arc_ok n
def enc (r : R) : Out := ((.agg [(.int .i64 r.1), (.int .i64 r.2.1), (.bool r.2.2)]), [])
def dec : Out → Option R
  | ((.agg [(.int .i64 v0), (.int .i64 v1), (.bool v2)]), []) => some (v0, v1, v2)
  | _ => none
theorem dec_ok : ∀ u y, dec u = some y → u = enc y := by
  intro u y h
  unfold dec at h
  split at h
  · cases h; rfl
  · cases h
noncomputable def b0 : Code := subF [] Tryz.f29
noncomputable def K0 (k : Nat) : Kt R := kTop (cs k) Tryz.f29 dec
noncomputable def f (k : Nat) : A → Option R := fun (v0, v1) => held (runFn cs k Tryz.f29 [(.c (.int .i64 v0)), (.c (.int .i64 v1))] [] dec)
noncomputable def F (v : A) : Option R := lim fun L => f (L 0) v
theorem F_cn (x : Nat) (v : A) : Cn late (F v) fun L => f (L x) v := of_lim.re [x]
def d (bound_Norm_Arc_k : bound_Norm_Arc.A → Option bound_Norm_Arc.R) : A → Option R := fun (v0, v1) =>
bnd (bound_Norm_Arc_k (v0, v1, false)) fun r => some (r.fst, r.snd.fst, r.snd.snd)
theorem d_cn {ι : Type} {E : Fil ι} {bound_Norm_Arc_k : bound_Norm_Arc.A → Option bound_Norm_Arc.R} {bound_Norm_Arc_k' : ι → bound_Norm_Arc.A → Option bound_Norm_Arc.R} (hbound_Norm_Arc_k : ∀ v, Cn E (bound_Norm_Arc_k v) fun i => bound_Norm_Arc_k' i v) : ∀ v : A, Cn E (d bound_Norm_Arc_k v) fun i => d (bound_Norm_Arc_k' i) v := fun (v0, v1) => (.bnd (hbound_Norm_Arc_k _) fun _ => .some)
theorem f_b (k : Nat) : ∀ v : A, f k v = d (bound_Norm_Arc.f k) v := fun (v0, v1) => (held_eq _).trans (by kernel_rfl)
theorem F_of (v : A) {r : R} (h : d bound_Norm_Arc.F v = some r) : F v = some r :=
  join_of (l := fun L => f (L 0) v) (d := fun L => d (bound_Norm_Arc.f (L 0)) v) (fun L => f_b (L 0) v) (d_cn (bound_Norm_Arc.F_cn 0) v) h
noncomputable def spec (k : Nat) (args : List AV) (ss : List Slot) : Option Ans :=
  match args, ss with
  | [(.c (.int .i64 v0)), (.c (.int .i64 v1))], [] => some ⟨R, f k (v0, v1), enc⟩
  | _, _ => none
theorem spec_ok (k : Nat) : SpecOk Tryz.prog 29 (spec k) := by
  intro args ss ans x h hx X σ w vals hp
  unfold spec at h
  split at h
  · cases h
    exact spec_of cs_ok Tryz.func29 rfl rfl dec_ok (held_eq _).symm hx hp
  · cases h
end bound_Of_Arc
noncomputable def t_bound_Of_Arc (k : Nat) := tcons 29 (bound_Of_Arc.spec k) (t_bound_Norm_Arc k)
theorem t_bound_Of_Arc_ok (n g : Nat) : SpecOk Tryz.prog g (t_bound_Of_Arc n g) := tcons_ok (bound_Of_Arc.spec_ok n) (fun g => t_bound_Norm_Arc_ok n g) g
namespace bound_Exact_Arc
abbrev R : Type := Int × Int × Bool
abbrev A : Type := Int
def lv : List (Nat × List Nat) := [(2000000, [2])]
noncomputable def cs : Nat → Ctx := ctxOf tis modes t_bound_Of_Arc lv
theorem cs_ok (n : Nat) : CtxOk Tryz.prog (cs n) := ctxOf_ok rfl tis_ok t_bound_Of_Arc_ok n
def enc (r : R) : Out := ((.agg [(.int .i64 r.1), (.int .i64 r.2.1), (.bool r.2.2)]), [])
def dec : Out → Option R
  | ((.agg [(.int .i64 v0), (.int .i64 v1), (.bool v2)]), []) => some (v0, v1, v2)
  | _ => none
theorem dec_ok : ∀ u y, dec u = some y → u = enc y := by
  intro u y h
  unfold dec at h
  split at h
  · cases h; rfl
  · cases h
noncomputable def b0 : Code := subF [] Tryz.f30
noncomputable def K0 (k : Nat) : Kt R := kTop (cs k) Tryz.f30 dec
noncomputable def f (k : Nat) : A → Option R := fun v0 => held (runFn cs k Tryz.f30 [(.c (.int .i64 v0))] [] dec)
noncomputable def F (v : A) : Option R := lim fun L => f (L 0) v
theorem F_cn (x : Nat) (v : A) : Cn late (F v) fun L => f (L x) v := of_lim.re [x]
def d (bound_Of_Arc_k : bound_Of_Arc.A → Option bound_Of_Arc.R) : A → Option R := fun v0 =>
bnd (bound_Of_Arc_k (v0, v0)) fun r => some (r.fst, r.snd.fst, r.snd.snd)
theorem d_cn {ι : Type} {E : Fil ι} {bound_Of_Arc_k : bound_Of_Arc.A → Option bound_Of_Arc.R} {bound_Of_Arc_k' : ι → bound_Of_Arc.A → Option bound_Of_Arc.R} (hbound_Of_Arc_k : ∀ v, Cn E (bound_Of_Arc_k v) fun i => bound_Of_Arc_k' i v) : ∀ v : A, Cn E (d bound_Of_Arc_k v) fun i => d (bound_Of_Arc_k' i) v := fun v0 => (.bnd (hbound_Of_Arc_k _) fun _ => .some)
theorem f_b (k : Nat) : ∀ v : A, f k v = d (bound_Of_Arc.f k) v := fun v0 => (held_eq _).trans (by kernel_rfl)
theorem F_of (v : A) {r : R} (h : d bound_Of_Arc.F v = some r) : F v = some r :=
  join_of (l := fun L => f (L 0) v) (d := fun L => d (bound_Of_Arc.f (L 0)) v) (fun L => f_b (L 0) v) (d_cn (bound_Of_Arc.F_cn 0) v) h
noncomputable def spec (k : Nat) (args : List AV) (ss : List Slot) : Option Ans :=
  match args, ss with
  | [(.c (.int .i64 v0))], [] => some ⟨R, f k v0, enc⟩
  | _, _ => none
theorem spec_ok (k : Nat) : SpecOk Tryz.prog 30 (spec k) := by
  intro args ss ans x h hx X σ w vals hp
  unfold spec at h
  split at h
  · cases h
    exact spec_of cs_ok Tryz.func30 rfl rfl dec_ok (held_eq _).symm hx hp
  · cases h
end bound_Exact_Arc
noncomputable def t_bound_Exact_Arc (k : Nat) := tcons 30 (bound_Exact_Arc.spec k) (t_bound_Of_Arc k)
theorem t_bound_Exact_Arc_ok (n g : Nat) : SpecOk Tryz.prog g (t_bound_Exact_Arc n g) := tcons_ok (bound_Exact_Arc.spec_ok n) (fun g => t_bound_Of_Arc_ok n g) g
namespace bound_vague_Arc
abbrev R : Type := Bool
abbrev A : Type := Int × Int × Bool × Int × Int × Bool
def lv : List (Nat × List Nat) := [(2000000, [4])]
noncomputable def cs : Nat → Ctx := ctxOf tis modes t_bound_Exact_Arc lv
theorem cs_ok (n : Nat) : CtxOk Tryz.prog (cs n) := ctxOf_ok rfl tis_ok t_bound_Exact_Arc_ok n
def enc (r : R) : Out := ((.c (.bool r)), [])
def dec : Out → Option R
  | ((.c (.bool v0)), []) => some v0
  | _ => none
theorem dec_ok : ∀ u y, dec u = some y → u = enc y := by
  intro u y h
  unfold dec at h
  split at h
  · cases h; rfl
  · cases h
noncomputable def b0 : Code := subF [] Tryz.f61
noncomputable def K0 (k : Nat) : Kt R := kTop (cs k) Tryz.f61 dec
noncomputable def f (k : Nat) : A → Option R := fun (v0, v1, v2, v3, v4, v5) => held (runFn cs k Tryz.f61 [(.agg [(.int .i64 v0), (.int .i64 v1), (.bool v2)]), (.agg [(.int .i64 v3), (.int .i64 v4), (.bool v5)])] [] dec)
noncomputable def F (v : A) : Option R := lim fun L => f (L 0) v
theorem F_cn (x : Nat) (v : A) : Cn late (F v) fun L => f (L x) v := of_lim.re [x]
def d (bound_Norm_Arc_k : bound_Norm_Arc.A → Option bound_Norm_Arc.R) : A → Option R := fun (v0, v1, v2, v3, v4, v5) =>
bnd (bound_Norm_Arc_k (v0, v1, v2)) fun r => br (r.snd.snd == false) (bnd (bound_Norm_Arc_k (v3, v4, v5)) fun r => some r.snd.snd) (some true)
theorem d_cn {ι : Type} {E : Fil ι} {bound_Norm_Arc_k : bound_Norm_Arc.A → Option bound_Norm_Arc.R} {bound_Norm_Arc_k' : ι → bound_Norm_Arc.A → Option bound_Norm_Arc.R} (hbound_Norm_Arc_k : ∀ v, Cn E (bound_Norm_Arc_k v) fun i => bound_Norm_Arc_k' i v) : ∀ v : A, Cn E (d bound_Norm_Arc_k v) fun i => d (bound_Norm_Arc_k' i) v := fun (v0, v1, v2, v3, v4, v5) => (.bnd (hbound_Norm_Arc_k _) fun _ => (.br (.bnd (hbound_Norm_Arc_k _) fun _ => .some) .some))
theorem f_b (k : Nat) : ∀ v : A, f k v = d (bound_Norm_Arc.f k) v := fun (v0, v1, v2, v3, v4, v5) => (held_eq _).trans (by kernel_rfl)
theorem F_of (v : A) {r : R} (h : d bound_Norm_Arc.F v = some r) : F v = some r :=
  join_of (l := fun L => f (L 0) v) (d := fun L => d (bound_Norm_Arc.f (L 0)) v) (fun L => f_b (L 0) v) (d_cn (bound_Norm_Arc.F_cn 0) v) h
noncomputable def spec (k : Nat) (args : List AV) (ss : List Slot) : Option Ans :=
  match args, ss with
  | [(.agg [(.int .i64 v0), (.int .i64 v1), (.bool v2)]), (.agg [(.int .i64 v3), (.int .i64 v4), (.bool v5)])], [] => some ⟨R, f k (v0, v1, v2, v3, v4, v5), enc⟩
  | _, _ => none
theorem spec_ok (k : Nat) : SpecOk Tryz.prog 61 (spec k) := by
  intro args ss ans x h hx X σ w vals hp
  unfold spec at h
  split at h
  · cases h
    exact spec_of cs_ok Tryz.func61 rfl rfl dec_ok (held_eq _).symm hx hp
  · cases h
end bound_vague_Arc
noncomputable def t_bound_vague_Arc (k : Nat) := tcons 61 (bound_vague_Arc.spec k) (t_bound_Exact_Arc k)
theorem t_bound_vague_Arc_ok (n g : Nat) : SpecOk Tryz.prog g (t_bound_vague_Arc n g) := tcons_ok (bound_vague_Arc.spec_ok n) (fun g => t_bound_Exact_Arc_ok n g) g
namespace bound_Add_Arc
abbrev R : Type := Int × Int × Bool
abbrev A : Type := Int × Int × Bool × Int × Int × Bool
def lv : List (Nat × List Nat) := [(2000000, [4])]
noncomputable def cs : Nat → Ctx := ctxOf tis modes t_bound_vague_Arc lv
theorem cs_ok (n : Nat) : CtxOk Tryz.prog (cs n) := ctxOf_ok rfl tis_ok t_bound_vague_Arc_ok n
def enc (r : R) : Out := ((.agg [(.int .i64 r.1), (.int .i64 r.2.1), (.bool r.2.2)]), [])
def dec : Out → Option R
  | ((.agg [(.int .i64 v0), (.int .i64 v1), (.bool v2)]), []) => some (v0, v1, v2)
  | _ => none
theorem dec_ok : ∀ u y, dec u = some y → u = enc y := by
  intro u y h
  unfold dec at h
  split at h
  · cases h; rfl
  · cases h
noncomputable def b0 : Code := subF [] Tryz.f28
noncomputable def K0 (k : Nat) : Kt R := kTop (cs k) Tryz.f28 dec
noncomputable def f (k : Nat) : A → Option R := fun (v0, v1, v2, v3, v4, v5) => held (runFn cs k Tryz.f28 [(.agg [(.int .i64 v0), (.int .i64 v1), (.bool v2)]), (.agg [(.int .i64 v3), (.int .i64 v4), (.bool v5)])] [] dec)
noncomputable def F (v : A) : Option R := lim fun L => f (L 0) v
theorem F_cn (x : Nat) (v : A) : Cn late (F v) fun L => f (L x) v := of_lim.re [x]
def d (bound_vague_Arc_k : bound_vague_Arc.A → Option bound_vague_Arc.R) (bound_None_Arc_k : bound_None_Arc.A → Option bound_None_Arc.R) (bound_Of_Arc_k : bound_Of_Arc.A → Option bound_Of_Arc.R) : A → Option R := fun (v0, v1, v2, v3, v4, v5) =>
bnd (bound_vague_Arc_k (v0, v1, v2, v3, v4, v5)) fun r =>
  br r (bnd (bound_None_Arc_k ()) fun r => some (r.fst, r.snd.fst, r.snd.snd)) (bnd (bound_Of_Arc_k (wrap IntKind.i64 (v0 + v3), wrap IntKind.i64 (v1 + v4))) fun r => some (r.fst, r.snd.fst, r.snd.snd))
theorem d_cn {ι : Type} {E : Fil ι} {bound_vague_Arc_k : bound_vague_Arc.A → Option bound_vague_Arc.R} {bound_vague_Arc_k' : ι → bound_vague_Arc.A → Option bound_vague_Arc.R} (hbound_vague_Arc_k : ∀ v, Cn E (bound_vague_Arc_k v) fun i => bound_vague_Arc_k' i v) {bound_None_Arc_k : bound_None_Arc.A → Option bound_None_Arc.R} {bound_None_Arc_k' : ι → bound_None_Arc.A → Option bound_None_Arc.R} (hbound_None_Arc_k : ∀ v, Cn E (bound_None_Arc_k v) fun i => bound_None_Arc_k' i v) {bound_Of_Arc_k : bound_Of_Arc.A → Option bound_Of_Arc.R} {bound_Of_Arc_k' : ι → bound_Of_Arc.A → Option bound_Of_Arc.R} (hbound_Of_Arc_k : ∀ v, Cn E (bound_Of_Arc_k v) fun i => bound_Of_Arc_k' i v) : ∀ v : A, Cn E (d bound_vague_Arc_k bound_None_Arc_k bound_Of_Arc_k v) fun i => d (bound_vague_Arc_k' i) (bound_None_Arc_k' i) (bound_Of_Arc_k' i) v := fun (v0, v1, v2, v3, v4, v5) => (.bnd (hbound_vague_Arc_k _) fun _ => (.br (.bnd (hbound_None_Arc_k _) fun _ => .some) (.bnd (hbound_Of_Arc_k _) fun _ => .some)))
theorem f_b (k : Nat) : ∀ v : A, f k v = d (bound_vague_Arc.f k) (bound_None_Arc.f k) (bound_Of_Arc.f k) v := fun (v0, v1, v2, v3, v4, v5) => (held_eq _).trans (by kernel_rfl)
theorem F_of (v : A) {r : R} (h : d bound_vague_Arc.F bound_None_Arc.F bound_Of_Arc.F v = some r) : F v = some r :=
  join_of (l := fun L => f (L 0) v) (d := fun L => d (bound_vague_Arc.f (L 0)) (bound_None_Arc.f (L 0)) (bound_Of_Arc.f (L 0)) v) (fun L => f_b (L 0) v) (d_cn (bound_vague_Arc.F_cn 0) (bound_None_Arc.F_cn 0) (bound_Of_Arc.F_cn 0) v) h
noncomputable def spec (k : Nat) (args : List AV) (ss : List Slot) : Option Ans :=
  match args, ss with
  | [(.agg [(.int .i64 v0), (.int .i64 v1), (.bool v2)]), (.agg [(.int .i64 v3), (.int .i64 v4), (.bool v5)])], [] => some ⟨R, f k (v0, v1, v2, v3, v4, v5), enc⟩
  | _, _ => none
theorem spec_ok (k : Nat) : SpecOk Tryz.prog 28 (spec k) := by
  intro args ss ans x h hx X σ w vals hp
  unfold spec at h
  split at h
  · cases h
    exact spec_of cs_ok Tryz.func28 rfl rfl dec_ok (held_eq _).symm hx hp
  · cases h
end bound_Add_Arc
noncomputable def t_bound_Add_Arc (k : Nat) := tcons 28 (bound_Add_Arc.spec k) (t_bound_vague_Arc k)
theorem t_bound_Add_Arc_ok (n g : Nat) : SpecOk Tryz.prog g (t_bound_Add_Arc n g) := tcons_ok (bound_Add_Arc.spec_ok n) (fun g => t_bound_vague_Arc_ok n g) g
namespace scale_Sidereal
abbrev R : Type := Int × Int × Bool
abbrev A : Type := Int × Int × Int × Int × Int × Int × Bool
def lv : List (Nat × List Nat) := [(2000000, [4])]
noncomputable def cs : Nat → Ctx := ctxOf tis modes t_bound_Add_Arc lv
theorem cs_ok (n : Nat) : CtxOk Tryz.prog (cs n) := ctxOf_ok rfl tis_ok t_bound_Add_Arc_ok n
def enc (r : R) : Out := ((.agg [(.int .i64 r.1), (.int .i64 r.2.1), (.bool r.2.2)]), [])
def dec : Out → Option R
  | ((.agg [(.int .i64 v0), (.int .i64 v1), (.bool v2)]), []) => some (v0, v1, v2)
  | _ => none
theorem dec_ok : ∀ u y, dec u = some y → u = enc y := by
  intro u y h
  unfold dec at h
  split at h
  · cases h; rfl
  · cases h
noncomputable def b0 : Code := subF [] Tryz.f14
noncomputable def K0 (k : Nat) : Kt R := kTop (cs k) Tryz.f14 dec
noncomputable def f (k : Nat) : A → Option R := fun (v0, v1, v2, v3, v4, v5, v6) => held (runFn cs k Tryz.f14 [(.agg [(.int .i64 v0), (.int .i64 v1), (.int .i64 v2), (.int .i64 v3)]), (.agg [(.int .i64 v4), (.int .i64 v5), (.bool v6)])] [] dec)
noncomputable def F (v : A) : Option R := lim fun L => f (L 0) v
theorem F_cn (x : Nat) (v : A) : Cn late (F v) fun L => f (L x) v := of_lim.re [x]
def d (bound_Exact_Tick_k : bound_Exact_Tick.A → Option bound_Exact_Tick.R) (bound_Sub_Tick_k : bound_Sub_Tick.A → Option bound_Sub_Tick.R) (scale_CheckRate_k : scale_CheckRate.A → Option scale_CheckRate.R) (bound_None_Arc_k : bound_None_Arc.A → Option bound_None_Arc.R) (num_MulDiv_k : num_MulDiv.A → Option num_MulDiv.R) (num_MulDivUp_k : num_MulDivUp.A → Option num_MulDivUp.R) (bound_Of_Arc_k : bound_Of_Arc.A → Option bound_Of_Arc.R) (bound_Exact_Arc_k : bound_Exact_Arc.A → Option bound_Exact_Arc.R) (bound_Add_Arc_k : bound_Add_Arc.A → Option bound_Add_Arc.R) : A → Option R := fun (v0, v1, v2, v3, v4, v5, v6) =>
bnd (bound_Exact_Tick_k v0) fun r =>
  bnd (bound_Sub_Tick_k (v4, v5, v6, r.fst, r.snd.fst, r.snd.snd)) fun r =>
    bnd (scale_CheckRate_k (v0, v1, v2, v3)) fun r_1 =>
      br (!decide (r_1 = 0) || r.snd.snd) (bnd (bound_None_Arc_k ()) fun r => some (r.fst, r.snd.fst, r.snd.snd))
        (bnd (num_MulDiv_k (r.fst, v2, v3)) fun r_2 =>
          bnd (num_MulDivUp_k (r.snd.fst, v2, v3)) fun r =>
            br (!decide (r_2.snd = 0) || !decide (r.snd = 0)) (bnd (bound_None_Arc_k ()) fun r => some (r.fst, r.snd.fst, r.snd.snd))
              (bnd (bound_Of_Arc_k (r_2.fst, r.fst)) fun r =>
                bnd (bound_Exact_Arc_k v1) fun r_3 => bnd (bound_Add_Arc_k (r.fst, r.snd.fst, r.snd.snd, r_3.fst, r_3.snd.fst, r_3.snd.snd)) fun r => some (r.fst, r.snd.fst, r.snd.snd)))
theorem d_cn {ι : Type} {E : Fil ι} {bound_Exact_Tick_k : bound_Exact_Tick.A → Option bound_Exact_Tick.R} {bound_Exact_Tick_k' : ι → bound_Exact_Tick.A → Option bound_Exact_Tick.R} (hbound_Exact_Tick_k : ∀ v, Cn E (bound_Exact_Tick_k v) fun i => bound_Exact_Tick_k' i v) {bound_Sub_Tick_k : bound_Sub_Tick.A → Option bound_Sub_Tick.R} {bound_Sub_Tick_k' : ι → bound_Sub_Tick.A → Option bound_Sub_Tick.R} (hbound_Sub_Tick_k : ∀ v, Cn E (bound_Sub_Tick_k v) fun i => bound_Sub_Tick_k' i v) {scale_CheckRate_k : scale_CheckRate.A → Option scale_CheckRate.R} {scale_CheckRate_k' : ι → scale_CheckRate.A → Option scale_CheckRate.R} (hscale_CheckRate_k : ∀ v, Cn E (scale_CheckRate_k v) fun i => scale_CheckRate_k' i v) {bound_None_Arc_k : bound_None_Arc.A → Option bound_None_Arc.R} {bound_None_Arc_k' : ι → bound_None_Arc.A → Option bound_None_Arc.R} (hbound_None_Arc_k : ∀ v, Cn E (bound_None_Arc_k v) fun i => bound_None_Arc_k' i v) {num_MulDiv_k : num_MulDiv.A → Option num_MulDiv.R} {num_MulDiv_k' : ι → num_MulDiv.A → Option num_MulDiv.R} (hnum_MulDiv_k : ∀ v, Cn E (num_MulDiv_k v) fun i => num_MulDiv_k' i v) {num_MulDivUp_k : num_MulDivUp.A → Option num_MulDivUp.R} {num_MulDivUp_k' : ι → num_MulDivUp.A → Option num_MulDivUp.R} (hnum_MulDivUp_k : ∀ v, Cn E (num_MulDivUp_k v) fun i => num_MulDivUp_k' i v) {bound_Of_Arc_k : bound_Of_Arc.A → Option bound_Of_Arc.R} {bound_Of_Arc_k' : ι → bound_Of_Arc.A → Option bound_Of_Arc.R} (hbound_Of_Arc_k : ∀ v, Cn E (bound_Of_Arc_k v) fun i => bound_Of_Arc_k' i v) {bound_Exact_Arc_k : bound_Exact_Arc.A → Option bound_Exact_Arc.R} {bound_Exact_Arc_k' : ι → bound_Exact_Arc.A → Option bound_Exact_Arc.R} (hbound_Exact_Arc_k : ∀ v, Cn E (bound_Exact_Arc_k v) fun i => bound_Exact_Arc_k' i v) {bound_Add_Arc_k : bound_Add_Arc.A → Option bound_Add_Arc.R} {bound_Add_Arc_k' : ι → bound_Add_Arc.A → Option bound_Add_Arc.R} (hbound_Add_Arc_k : ∀ v, Cn E (bound_Add_Arc_k v) fun i => bound_Add_Arc_k' i v) : ∀ v : A, Cn E (d bound_Exact_Tick_k bound_Sub_Tick_k scale_CheckRate_k bound_None_Arc_k num_MulDiv_k num_MulDivUp_k bound_Of_Arc_k bound_Exact_Arc_k bound_Add_Arc_k v) fun i => d (bound_Exact_Tick_k' i) (bound_Sub_Tick_k' i) (scale_CheckRate_k' i) (bound_None_Arc_k' i) (num_MulDiv_k' i) (num_MulDivUp_k' i) (bound_Of_Arc_k' i) (bound_Exact_Arc_k' i) (bound_Add_Arc_k' i) v := fun (v0, v1, v2, v3, v4, v5, v6) => (.bnd (hbound_Exact_Tick_k _) fun _ => (.bnd (hbound_Sub_Tick_k _) fun _ => (.bnd (hscale_CheckRate_k _) fun _ => (.br (.bnd (hbound_None_Arc_k _) fun _ => .some) (.bnd (hnum_MulDiv_k _) fun _ => (.bnd (hnum_MulDivUp_k _) fun _ => (.br (.bnd (hbound_None_Arc_k _) fun _ => .some) (.bnd (hbound_Of_Arc_k _) fun _ => (.bnd (hbound_Exact_Arc_k _) fun _ => (.bnd (hbound_Add_Arc_k _) fun _ => .some))))))))))
theorem f_b (k : Nat) : ∀ v : A, f k v = d (bound_Exact_Tick.f k) (bound_Sub_Tick.f k) (scale_CheckRate.f k) (bound_None_Arc.f k) (num_MulDiv.f k) (num_MulDivUp.f k) (bound_Of_Arc.f k) (bound_Exact_Arc.f k) (bound_Add_Arc.f k) v := fun (v0, v1, v2, v3, v4, v5, v6) => (held_eq _).trans (by kernel_rfl)
theorem F_of (v : A) {r : R} (h : d bound_Exact_Tick.F bound_Sub_Tick.F scale_CheckRate.F bound_None_Arc.F num_MulDiv.F num_MulDivUp.F bound_Of_Arc.F bound_Exact_Arc.F bound_Add_Arc.F v = some r) : F v = some r :=
  join_of (l := fun L => f (L 0) v) (d := fun L => d (bound_Exact_Tick.f (L 0)) (bound_Sub_Tick.f (L 0)) (scale_CheckRate.f (L 0)) (bound_None_Arc.f (L 0)) (num_MulDiv.f (L 0)) (num_MulDivUp.f (L 0)) (bound_Of_Arc.f (L 0)) (bound_Exact_Arc.f (L 0)) (bound_Add_Arc.f (L 0)) v) (fun L => f_b (L 0) v) (d_cn (bound_Exact_Tick.F_cn 0) (bound_Sub_Tick.F_cn 0) (scale_CheckRate.F_cn 0) (bound_None_Arc.F_cn 0) (num_MulDiv.F_cn 0) (num_MulDivUp.F_cn 0) (bound_Of_Arc.F_cn 0) (bound_Exact_Arc.F_cn 0) (bound_Add_Arc.F_cn 0) v) h
noncomputable def spec (k : Nat) (args : List AV) (ss : List Slot) : Option Ans :=
  match args, ss with
  | [(.agg [(.int .i64 v0), (.int .i64 v1), (.int .i64 v2), (.int .i64 v3)]), (.agg [(.int .i64 v4), (.int .i64 v5), (.bool v6)])], [] => some ⟨R, f k (v0, v1, v2, v3, v4, v5, v6), enc⟩
  | _, _ => none
theorem spec_ok (k : Nat) : SpecOk Tryz.prog 14 (spec k) := by
  intro args ss ans x h hx X σ w vals hp
  unfold spec at h
  split at h
  · cases h
    exact spec_of cs_ok Tryz.func14 rfl rfl dec_ok (held_eq _).symm hx hp
  · cases h
end scale_Sidereal
noncomputable def t_scale_Sidereal (k : Nat) := tcons 14 (scale_Sidereal.spec k) (t_bound_Add_Arc k)
theorem t_scale_Sidereal_ok (n g : Nat) : SpecOk Tryz.prog g (t_scale_Sidereal n g) := tcons_ok (scale_Sidereal.spec_ok n) (fun g => t_bound_Add_Arc_ok n g) g
namespace horizon_CheckSite
abbrev R : Type := Int
abbrev A : Type := Int × Int
def lv : List (Nat × List Nat) := [(2000000, [2])]
noncomputable def cs : Nat → Ctx := ctxOf tis modes t_scale_Sidereal lv
theorem cs_ok (n : Nat) : CtxOk Tryz.prog (cs n) := ctxOf_ok rfl tis_ok t_scale_Sidereal_ok n
def enc (r : R) : Out := ((.c (.int .i64 r)), [])
def dec : Out → Option R
  | ((.c (.int .i64 v0)), []) => some v0
  | _ => none
theorem dec_ok : ∀ u y, dec u = some y → u = enc y := by
  intro u y h
  unfold dec at h
  split at h
  · cases h; rfl
  · cases h
noncomputable def b0 : Code := subF [] Tryz.f33
noncomputable def K0 (k : Nat) : Kt R := kTop (cs k) Tryz.f33 dec
noncomputable def f (k : Nat) : A → Option R := fun (v0, v1) => held (runFn cs k Tryz.f33 [(.agg [(.int .i64 v0), (.int .i64 v1)])] [] dec)
noncomputable def F (v : A) : Option R := lim fun L => f (L 0) v
theorem F_cn (x : Nat) (v : A) : Cn late (F v) fun L => f (L x) v := of_lim.re [x]
def d : A → Option R := fun (v0, v1) =>
br (decide (v0 < -1073741824) || decide (1073741824 < v0) || decide (v1 < 0) || decide (4294967296 ≤ v1)) (some 4) (some 0)
theorem d_cn {ι : Type} {E : Fil ι} : ∀ v : A, Cn E (d v) fun i => d v := fun (v0, v1) => (.br .some .some)
theorem f_b (k : Nat) : ∀ v : A, f k v = d v := fun (v0, v1) => (held_eq _).trans (by kernel_rfl)
theorem F_of (v : A) {r : R} (h : d v = some r) : F v = some r :=
  join_of (l := fun L => f (L 0) v) (d := fun L => d v) (fun L => f_b (L 0) v) (d_cn v) h
noncomputable def spec (k : Nat) (args : List AV) (ss : List Slot) : Option Ans :=
  match args, ss with
  | [(.agg [(.int .i64 v0), (.int .i64 v1)])], [] => some ⟨R, f k (v0, v1), enc⟩
  | _, _ => none
theorem spec_ok (k : Nat) : SpecOk Tryz.prog 33 (spec k) := by
  intro args ss ans x h hx X σ w vals hp
  unfold spec at h
  split at h
  · cases h
    exact spec_of cs_ok Tryz.func33 rfl rfl dec_ok (held_eq _).symm hx hp
  · cases h
end horizon_CheckSite
noncomputable def t_horizon_CheckSite (k : Nat) := tcons 33 (horizon_CheckSite.spec k) (t_scale_Sidereal k)
theorem t_horizon_CheckSite_ok (n g : Nat) : SpecOk Tryz.prog g (t_horizon_CheckSite n g) := tcons_ok (horizon_CheckSite.spec_ok n) (fun g => t_scale_Sidereal_ok n g) g
namespace bound_None_Fix
abbrev R : Type := Int × Int × Bool
abbrev A : Type := Unit
def lv : List (Nat × List Nat) := [(2000000, [0])]
noncomputable def cs : Nat → Ctx := ctxOf tis modes t_horizon_CheckSite lv
theorem cs_ok (n : Nat) : CtxOk Tryz.prog (cs n) := ctxOf_ok rfl tis_ok t_horizon_CheckSite_ok n
def enc (r : R) : Out := ((.agg [(.int .i64 r.1), (.int .i64 r.2.1), (.bool r.2.2)]), [])
def dec : Out → Option R
  | ((.agg [(.int .i64 v0), (.int .i64 v1), (.bool v2)]), []) => some (v0, v1, v2)
  | _ => none
theorem dec_ok : ∀ u y, dec u = some y → u = enc y := by
  intro u y h
  unfold dec at h
  split at h
  · cases h; rfl
  · cases h
noncomputable def b0 : Code := subF [] Tryz.f35
noncomputable def K0 (k : Nat) : Kt R := kTop (cs k) Tryz.f35 dec
noncomputable def f (k : Nat) : A → Option R := fun _ => held (runFn cs k Tryz.f35 [] [] dec)
noncomputable def F (v : A) : Option R := lim fun L => f (L 0) v
theorem F_cn (x : Nat) (v : A) : Cn late (F v) fun L => f (L x) v := of_lim.re [x]
def d : A → Option R := fun _ =>
some (0, 0, true)
theorem d_cn {ι : Type} {E : Fil ι} : ∀ v : A, Cn E (d v) fun i => d v := fun _ => .some
theorem f_b (k : Nat) : ∀ v : A, f k v = d v := fun _ => (held_eq _).trans (by kernel_rfl)
theorem F_of (v : A) {r : R} (h : d v = some r) : F v = some r :=
  join_of (l := fun L => f (L 0) v) (d := fun L => d v) (fun L => f_b (L 0) v) (d_cn v) h
noncomputable def spec (k : Nat) (args : List AV) (ss : List Slot) : Option Ans :=
  match args, ss with
  | [], [] => some ⟨R, f k (), enc⟩
  | _, _ => none
theorem spec_ok (k : Nat) : SpecOk Tryz.prog 35 (spec k) := by
  intro args ss ans x h hx X σ w vals hp
  unfold spec at h
  split at h
  · cases h
    exact spec_of cs_ok Tryz.func35 rfl rfl dec_ok (held_eq _).symm hx hp
  · cases h
end bound_None_Fix
noncomputable def t_bound_None_Fix (k : Nat) := tcons 35 (bound_None_Fix.spec k) (t_horizon_CheckSite k)
theorem t_bound_None_Fix_ok (n g : Nat) : SpecOk Tryz.prog g (t_bound_None_Fix n g) := tcons_ok (bound_None_Fix.spec_ok n) (fun g => t_horizon_CheckSite_ok n g) g
namespace sphere_Grow
abbrev R : Type := Int × Int × Int
abbrev A : Type := Int × Int × Int
def lv : List (Nat × List Nat) := [(2000000, [2]), (3, [1, 2])]
noncomputable def cs : Nat → Ctx := ctxOf tis modes t_bound_None_Fix lv
theorem cs_ok (n : Nat) : CtxOk Tryz.prog (cs n) := ctxOf_ok rfl tis_ok t_bound_None_Fix_ok n
def enc (r : R) : Out := ((.agg [(.int .i64 r.1), (.int .i64 r.2.1), (.int .i64 r.2.2)]), [])
def dec : Out → Option R
  | ((.agg [(.int .i64 v0), (.int .i64 v1), (.int .i64 v2)]), []) => some (v0, v1, v2)
  | _ => none
theorem dec_ok : ∀ u y, dec u = some y → u = enc y := by
  intro u y h
  unfold dec at h
  split at h
  · cases h; rfl
  · cases h
noncomputable def b0 : Code := subF [] Tryz.f36
noncomputable def K0 (k : Nat) : Kt R := kTop (cs k) Tryz.f36 dec
noncomputable def b3 : Code := sub [1, 1, 0, 0] b0
noncomputable def K3 ( k : Nat) : Kt R := kAt (cs k) (loopN cs k) [1, 1, 0] b0 (K0 k)
abbrev T0 : Type := Int × Int × Int × Int × Int × Int
def s0 : T0 → St := fun (v0, v1, v2, v3, v4, v5) => ⟨23, 0, [(1, (.c (.ptr 64000000 0))), (2, (.c (.ptr 64000001 0)))], [], [(256000000, .gone), (64000000, (.box [(.int .i64 v0), (.int .i64 v1), (.int .i64 v2)])), (64000001, (.box [(.int .i64 v3), (.int .i64 v4), (.int .i64 v5)]))]⟩
noncomputable def l0 ( k n : Nat) (v : T0) : Option R := held (loopN cs n b3 (K3 k) (s0 v))
noncomputable def D0 (v : T0) : Option R := lim fun L => l0 (L 0) (L 1) v
theorem D0_cn (v : T0) : Cn late (D0 v) fun L => l0 (L 0) (L 1) v := of_lim
def d0 (sphere_Check_m1 : sphere_Check.A → Option sphere_Check.R) (L0m1 : T0 → Option R) : T0 → Option R := fun (v0, v1, v2, v3, v4, v5) =>
bnd (sphere_Check_m1 (wrap IntKind.i64 (2 * v0), wrap IntKind.i64 (2 * v1), wrap IntKind.i64 (2 * v2))) fun r =>
  br (!decide (r = 0)) (some (v0, v1, v2)) (L0m1 (wrap IntKind.i64 (2 * v0), wrap IntKind.i64 (2 * v1), wrap IntKind.i64 (2 * v2), v3, v4, v5))
theorem d0_cn {ι : Type} {E : Fil ι} {sphere_Check_m1 : sphere_Check.A → Option sphere_Check.R} {sphere_Check_m1' : ι → sphere_Check.A → Option sphere_Check.R} (hsphere_Check_m1 : ∀ v, Cn E (sphere_Check_m1 v) fun i => sphere_Check_m1' i v) {L0m1 : T0 → Option R} {L0m1' : ι → T0 → Option R} (hL0m1 : ∀ v, Cn E (L0m1 v) fun i => L0m1' i v) : ∀ v : T0, Cn E (d0 sphere_Check_m1 L0m1 v) fun i => d0 (sphere_Check_m1' i) (L0m1' i) v := fun (v0, v1, v2, v3, v4, v5) => (.bnd (hsphere_Check_m1 _) fun _ => (.br .some (hL0m1 _)))
theorem l0_b ( k m1 : Nat) : ∀ v : T0, run (cs m1) (loopN cs m1) b3 (kLoop cs m1 b3 (K3 k)) (s0 v) = d0 (sphere_Check.f m1) (l0 k m1) v := fun (v0, v1, v2, v3, v4, v5) => by kernel_rfl
theorem D0_of (v : T0) {r : R} (h : d0 sphere_Check.F D0 v = some r) : D0 v = some r :=
  loop_of 1 (l := fun L => l0 (L 0) (L 1) v) (d := fun L => d0 (sphere_Check.f (L 1)) (l0 (L 0) (L 1)) v) (fun L n hn => by show l0 (L 0) (L 1) v = _; rw [hn]; exact (held_eq _).trans ((loopN_succ _ _ _ _ _).trans (l0_b (L 0) n v))) (d0_cn (sphere_Check.F_cn 1) (fun v => (D0_cn v).re [0, 1]) v) h
noncomputable def f (k : Nat) : A → Option R := fun (v0, v1, v2) => held (runFn cs k Tryz.f36 [(.agg [(.int .i64 v0), (.int .i64 v1), (.int .i64 v2)])] [] dec)
noncomputable def F (v : A) : Option R := lim fun L => f (L 0) v
theorem F_cn (x : Nat) (v : A) : Cn late (F v) fun L => f (L x) v := of_lim.re [x]
def d (sphere_Check_k : sphere_Check.A → Option sphere_Check.R) (L0k : T0 → Option R) : A → Option R := fun (v0, v1, v2) =>
bnd (sphere_Check_k (v0, v1, v2)) fun r => br (!decide (r = 0)) (some (0, 0, 0)) (L0k (v0, v1, v2, 0, 0, 0))
theorem d_cn {ι : Type} {E : Fil ι} {sphere_Check_k : sphere_Check.A → Option sphere_Check.R} {sphere_Check_k' : ι → sphere_Check.A → Option sphere_Check.R} (hsphere_Check_k : ∀ v, Cn E (sphere_Check_k v) fun i => sphere_Check_k' i v) {L0k : T0 → Option R} {L0k' : ι → T0 → Option R} (hL0k : ∀ v, Cn E (L0k v) fun i => L0k' i v) : ∀ v : A, Cn E (d sphere_Check_k L0k v) fun i => d (sphere_Check_k' i) (L0k' i) v := fun (v0, v1, v2) => (.bnd (hsphere_Check_k _) fun _ => (.br .some (hL0k _)))
theorem f_b (k : Nat) : ∀ v : A, f k v = d (sphere_Check.f k) (l0 k k) v := fun (v0, v1, v2) => (held_eq _).trans (by kernel_rfl)
theorem F_of (v : A) {r : R} (h : d sphere_Check.F D0 v = some r) : F v = some r :=
  join_of (l := fun L => f (L 0) v) (d := fun L => d (sphere_Check.f (L 0)) (l0 (L 0) (L 0)) v) (fun L => f_b (L 0) v) (d_cn (sphere_Check.F_cn 0) (fun v => (D0_cn v).re [0, 0]) v) h
noncomputable def spec (k : Nat) (args : List AV) (ss : List Slot) : Option Ans :=
  match args, ss with
  | [(.agg [(.int .i64 v0), (.int .i64 v1), (.int .i64 v2)])], [] => some ⟨R, f k (v0, v1, v2), enc⟩
  | _, _ => none
theorem spec_ok (k : Nat) : SpecOk Tryz.prog 36 (spec k) := by
  intro args ss ans x h hx X σ w vals hp
  unfold spec at h
  split at h
  · cases h
    exact spec_of cs_ok Tryz.func36 rfl rfl dec_ok (held_eq _).symm hx hp
  · cases h
end sphere_Grow
noncomputable def t_sphere_Grow (k : Nat) := tcons 36 (sphere_Grow.spec k) (t_bound_None_Fix k)
theorem t_sphere_Grow_ok (n g : Nat) : SpecOk Tryz.prog g (t_sphere_Grow n g) := tcons_ok (sphere_Grow.spec_ok n) (fun g => t_bound_None_Fix_ok n g) g
namespace trig_times
abbrev R : Type := Int
abbrev A : Type := Int × Int
def lv : List (Nat × List Nat) := [(2000000, [4])]
noncomputable def cs : Nat → Ctx := ctxOf tis modes t_sphere_Grow lv
theorem cs_ok (n : Nat) : CtxOk Tryz.prog (cs n) := ctxOf_ok rfl tis_ok t_sphere_Grow_ok n
def enc (r : R) : Out := ((.c (.int .i64 r)), [])
def dec : Out → Option R
  | ((.c (.int .i64 v0)), []) => some v0
  | _ => none
theorem dec_ok : ∀ u y, dec u = some y → u = enc y := by
  intro u y h
  unfold dec at h
  split at h
  · cases h; rfl
  · cases h
noncomputable def b0 : Code := subF [] Tryz.f114
noncomputable def K0 (k : Nat) : Kt R := kTop (cs k) Tryz.f114 dec
noncomputable def f (k : Nat) : A → Option R := fun (v0, v1) => held (runFn cs k Tryz.f114 [(.c (.int .i64 v0)), (.c (.int .i64 v1))] [] dec)
noncomputable def F (v : A) : Option R := lim fun L => f (L 0) v
theorem F_cn (x : Nat) (v : A) : Cn late (F v) fun L => f (L x) v := of_lim.re [x]
def d (num_MulDiv_k : num_MulDiv.A → Option num_MulDiv.R) : A → Option R := fun (v0, v1) =>
bnd (num_MulDiv_k (v0, v1, 1152921504606846976)) fun r => some r.fst
theorem d_cn {ι : Type} {E : Fil ι} {num_MulDiv_k : num_MulDiv.A → Option num_MulDiv.R} {num_MulDiv_k' : ι → num_MulDiv.A → Option num_MulDiv.R} (hnum_MulDiv_k : ∀ v, Cn E (num_MulDiv_k v) fun i => num_MulDiv_k' i v) : ∀ v : A, Cn E (d num_MulDiv_k v) fun i => d (num_MulDiv_k' i) v := fun (v0, v1) => (.bnd (hnum_MulDiv_k _) fun _ => .some)
theorem f_b (k : Nat) : ∀ v : A, f k v = d (num_MulDiv.f k) v := fun (v0, v1) => (held_eq _).trans (by kernel_rfl)
theorem F_of (v : A) {r : R} (h : d num_MulDiv.F v = some r) : F v = some r :=
  join_of (l := fun L => f (L 0) v) (d := fun L => d (num_MulDiv.f (L 0)) v) (fun L => f_b (L 0) v) (d_cn (num_MulDiv.F_cn 0) v) h
noncomputable def spec (k : Nat) (args : List AV) (ss : List Slot) : Option Ans :=
  match args, ss with
  | [(.c (.int .i64 v0)), (.c (.int .i64 v1))], [] => some ⟨R, f k (v0, v1), enc⟩
  | _, _ => none
theorem spec_ok (k : Nat) : SpecOk Tryz.prog 114 (spec k) := by
  intro args ss ans x h hx X σ w vals hp
  unfold spec at h
  split at h
  · cases h
    exact spec_of cs_ok Tryz.func114 rfl rfl dec_ok (held_eq _).symm hx hp
  · cases h
end trig_times
noncomputable def t_trig_times (k : Nat) := tcons 114 (trig_times.spec k) (t_sphere_Grow k)
theorem t_trig_times_ok (n g : Nat) : SpecOk Tryz.prog g (t_trig_times n g) := tcons_ok (trig_times.spec_ok n) (fun g => t_sphere_Grow_ok n g) g
namespace trig_series
abbrev R : Type := Int
abbrev A : Type := Int × List Int
def lv : List (Nat × List Nat) := [(2000000, [4]), (3, [0, 5, 8, 9, 10])]
noncomputable def cs : Nat → Ctx := ctxOf tis modes t_trig_times lv
theorem cs_ok (n : Nat) : CtxOk Tryz.prog (cs n) := ctxOf_ok rfl tis_ok t_trig_times_ok n
def enc (r : R) : Out := ((.c (.int .i64 r)), [])
def dec : Out → Option R
  | ((.c (.int .i64 v0)), []) => some v0
  | _ => none
theorem dec_ok : ∀ u y, dec u = some y → u = enc y := by
  intro u y h
  unfold dec at h
  split at h
  · cases h; rfl
  · cases h
noncomputable def b0 : Code := subF [] Tryz.f116
noncomputable def K0 (k : Nat) : Kt R := kTop (cs k) Tryz.f116 dec
noncomputable def b3 : Code := sub [1, 1, 0, 1, 0, 0] b0
noncomputable def K3 ( k : Nat) : Kt R := kAt (cs k) (loopN cs k) [1, 1, 0, 1, 0] b0 (K0 k)
abbrev T0 : Type := Int × Int × List Int × Int × Int
def s0 : T0 → St := fun (v0, v1, v2, v3, v4) => ⟨22, 0, [(0, (.c (.int .i64 v0))), (5, (.c (.int .i64 v1))), (8, (.c (.frz (.int .i64) v2))), (9, (.c (.int .i64 v3))), (10, (.c (.int .i64 v4)))], [], [(256000000, .gone)]⟩
noncomputable def l0 ( k n : Nat) (v : T0) : Option R := held (loopN cs n b3 (K3 k) (s0 v))
noncomputable def D0 (v : T0) : Option R := lim fun L => l0 (L 0) (L 1) v
theorem D0_cn (v : T0) : Cn late (D0 v) fun L => l0 (L 0) (L 1) v := of_lim
def d0 (trig_times_m1 : trig_times.A → Option trig_times.R) (L0m1 : T0 → Option R) : T0 → Option R := fun (v0, v1, v2, v3, v4) =>
br (decide (v4 < v3))
  (br (decide (0 ≤ v4 ∧ v4 < (↑v2.length : Int)))
    (bnd (trig_times_m1 (v0, v1)) fun r =>
      br (!decide (rd (Ty.int IntKind.i64) v2 v4 = 0)) (L0m1 (v0, wrap IntKind.i64 (1152921504606846976 - wrap IntKind.i64 (r.tdiv (rd (Ty.int IntKind.i64) v2 v4))), v2, v3, wrap IntKind.i64 (v4 + 1))) none)
    none)
  (some v1)
theorem d0_cn {ι : Type} {E : Fil ι} {trig_times_m1 : trig_times.A → Option trig_times.R} {trig_times_m1' : ι → trig_times.A → Option trig_times.R} (htrig_times_m1 : ∀ v, Cn E (trig_times_m1 v) fun i => trig_times_m1' i v) {L0m1 : T0 → Option R} {L0m1' : ι → T0 → Option R} (hL0m1 : ∀ v, Cn E (L0m1 v) fun i => L0m1' i v) : ∀ v : T0, Cn E (d0 trig_times_m1 L0m1 v) fun i => d0 (trig_times_m1' i) (L0m1' i) v := fun (v0, v1, v2, v3, v4) => (.br (.br (.bnd (htrig_times_m1 _) fun _ => (.br (hL0m1 _) .none)) .none) .some)
theorem l0_b ( k m1 : Nat) : ∀ v : T0, run (cs m1) (loopN cs m1) b3 (kLoop cs m1 b3 (K3 k)) (s0 v) = d0 (trig_times.f m1) (l0 k m1) v := fun (v0, v1, v2, v3, v4) => by kernel_rfl
theorem D0_of (v : T0) {r : R} (h : d0 trig_times.F D0 v = some r) : D0 v = some r :=
  loop_of 1 (l := fun L => l0 (L 0) (L 1) v) (d := fun L => d0 (trig_times.f (L 1)) (l0 (L 0) (L 1)) v) (fun L n hn => by show l0 (L 0) (L 1) v = _; rw [hn]; exact (held_eq _).trans ((loopN_succ _ _ _ _ _).trans (l0_b (L 0) n v))) (d0_cn (trig_times.F_cn 1) (fun v => (D0_cn v).re [0, 1]) v) h
noncomputable def f (k : Nat) : A → Option R := fun (v0, v1) => held (runFn cs k Tryz.f116 [(.c (.int .i64 v0)), (.c (.frz (.int .i64) v1))] [] dec)
noncomputable def F (v : A) : Option R := lim fun L => f (L 0) v
theorem F_cn (x : Nat) (v : A) : Cn late (F v) fun L => f (L x) v := of_lim.re [x]
def d (L0k : T0 → Option R) : A → Option R := fun (v0, v1) =>
L0k (v0, 1152921504606846976, v1, (↑v1.length : Int), 0)
theorem d_cn {ι : Type} {E : Fil ι} {L0k : T0 → Option R} {L0k' : ι → T0 → Option R} (hL0k : ∀ v, Cn E (L0k v) fun i => L0k' i v) : ∀ v : A, Cn E (d L0k v) fun i => d (L0k' i) v := fun (v0, v1) => (hL0k _)
theorem f_b (k : Nat) : ∀ v : A, f k v = d (l0 k k) v := fun (v0, v1) => (held_eq _).trans (by kernel_rfl)
theorem F_of (v : A) {r : R} (h : d D0 v = some r) : F v = some r :=
  join_of (l := fun L => f (L 0) v) (d := fun L => d (l0 (L 0) (L 0)) v) (fun L => f_b (L 0) v) (d_cn (fun v => (D0_cn v).re [0, 0]) v) h
noncomputable def spec (k : Nat) (args : List AV) (ss : List Slot) : Option Ans :=
  match args, ss with
  | [(.c (.int .i64 v0)), (.c (.frz (.int .i64) v1))], [] => some ⟨R, f k (v0, v1), enc⟩
  | _, _ => none
theorem spec_ok (k : Nat) : SpecOk Tryz.prog 116 (spec k) := by
  intro args ss ans x h hx X σ w vals hp
  unfold spec at h
  split at h
  · cases h
    exact spec_of cs_ok Tryz.func116 rfl rfl dec_ok (held_eq _).symm hx hp
  · cases h
end trig_series
noncomputable def t_trig_series (k : Nat) := tcons 116 (trig_series.spec k) (t_trig_times k)
theorem t_trig_series_ok (n g : Nat) : SpecOk Tryz.prog g (t_trig_series n g) := tcons_ok (trig_series.spec_ok n) (fun g => t_trig_times_ok n g) g
namespace num_RoundDiv
abbrev R : Type := Int
abbrev A : Type := Int × Int
def lv : List (Nat × List Nat) := [(2000000, [4]), (1000008, [5])]
noncomputable def cs : Nat → Ctx := ctxOf tis modes t_trig_series lv
theorem cs_ok (n : Nat) : CtxOk Tryz.prog (cs n) := ctxOf_ok rfl tis_ok t_trig_series_ok n
def enc (r : R) : Out := ((.c (.int .i64 r)), [])
def dec : Out → Option R
  | ((.c (.int .i64 v0)), []) => some v0
  | _ => none
theorem dec_ok : ∀ u y, dec u = some y → u = enc y := by
  intro u y h
  unfold dec at h
  split at h
  · cases h; rfl
  · cases h
noncomputable def b0 : Code := subF [] Tryz.f115
noncomputable def K0 (k : Nat) : Kt R := kTop (cs k) Tryz.f115 dec
noncomputable def c1000008 : Code := sub [1, 1, 1, 1] b0
noncomputable def J1000008 ( k : Nat) : Kt R := kAt (cs k) (loopN cs k) [1, 1, 1, 1] b0 (K0 k)
abbrev T0 : Type := Int
def s0 : T0 → St := fun v0 => ⟨41, 0, [(5, (.c (.int .i64 v0)))], [], [(256000000, .gone)]⟩
noncomputable def l0 ( k : Nat) (v : T0) : Option R := held (run (cs k) (loopN cs k) c1000008 (J1000008 k) (s0 v))
noncomputable def D0 (v : T0) : Option R := lim fun L => l0 (L 0) v
theorem D0_cn (v : T0) : Cn late (D0 v) fun L => l0 (L 0) v := of_lim
def d0 : T0 → Option R := fun v0 =>
some v0
theorem d0_cn {ι : Type} {E : Fil ι} : ∀ v : T0, Cn E (d0 v) fun i => d0 v := fun v0 => .some
theorem l0_b ( k : Nat) : ∀ v : T0, run (cs k) (loopN cs k) c1000008 (J1000008 k) (s0 v) = d0 v := fun v0 => by kernel_rfl
theorem D0_of (v : T0) {r : R} (h : d0 v = some r) : D0 v = some r :=
  join_of (l := fun L => l0 (L 0) v) (d := fun L => d0 v) (fun L => (held_eq _).trans (l0_b (L 0) v)) (d0_cn v) h
noncomputable def f (k : Nat) : A → Option R := fun (v0, v1) => held (runFn cs k Tryz.f115 [(.c (.int .i64 v0)), (.c (.int .i64 v1))] [] dec)
noncomputable def F (v : A) : Option R := lim fun L => f (L 0) v
theorem F_cn (x : Nat) (v : A) : Cn late (F v) fun L => f (L x) v := of_lim.re [x]
def d (L0k : T0 → Option R) : A → Option R := fun (v0, v1) =>
br (decide (v1 < 1)) (some 0)
  (br (!decide (v1 = 0))
    (br (!decide (v1 = 0))
      (br (decide (wrap IntKind.i64 (v1 - v0.tmod v1) ≤ v0.tmod v1) && decide (0 < v0.tmod v1)) (L0k (wrap IntKind.i64 (wrap IntKind.i64 (v0.tdiv v1) + 1)))
        (br (decide (v0.tmod v1 < 0) && decide (wrap IntKind.i64 (v1 + v0.tmod v1) ≤ wrap IntKind.i64 (0 - v0.tmod v1))) (L0k (wrap IntKind.i64 (wrap IntKind.i64 (v0.tdiv v1) - 1)))
          (L0k (wrap IntKind.i64 (v0.tdiv v1)))))
      none)
    none)
theorem d_cn {ι : Type} {E : Fil ι} {L0k : T0 → Option R} {L0k' : ι → T0 → Option R} (hL0k : ∀ v, Cn E (L0k v) fun i => L0k' i v) : ∀ v : A, Cn E (d L0k v) fun i => d (L0k' i) v := fun (v0, v1) => (.br .some (.br (.br (.br (hL0k _) (.br (hL0k _) (hL0k _))) .none) .none))
theorem f_b (k : Nat) : ∀ v : A, f k v = d (l0 k) v := fun (v0, v1) => (held_eq _).trans (by kernel_rfl)
theorem F_of (v : A) {r : R} (h : d D0 v = some r) : F v = some r :=
  join_of (l := fun L => f (L 0) v) (d := fun L => d (l0 (L 0)) v) (fun L => f_b (L 0) v) (d_cn (fun v => (D0_cn v).re [0]) v) h
noncomputable def spec (k : Nat) (args : List AV) (ss : List Slot) : Option Ans :=
  match args, ss with
  | [(.c (.int .i64 v0)), (.c (.int .i64 v1))], [] => some ⟨R, f k (v0, v1), enc⟩
  | _, _ => none
theorem spec_ok (k : Nat) : SpecOk Tryz.prog 115 (spec k) := by
  intro args ss ans x h hx X σ w vals hp
  unfold spec at h
  split at h
  · cases h
    exact spec_of cs_ok Tryz.func115 rfl rfl dec_ok (held_eq _).symm hx hp
  · cases h
end num_RoundDiv
noncomputable def t_num_RoundDiv (k : Nat) := tcons 115 (num_RoundDiv.spec k) (t_trig_series k)
theorem t_num_RoundDiv_ok (n g : Nat) : SpecOk Tryz.prog g (t_num_RoundDiv n g) := tcons_ok (num_RoundDiv.spec_ok n) (fun g => t_trig_series_ok n g) g
namespace trig_quarter
abbrev R : Type := Int
abbrev A : Type := Int
def lv : List (Nat × List Nat) := [(2000000, [2]), (1000004, [0, 3])]
noncomputable def cs : Nat → Ctx := ctxOf tis modes t_num_RoundDiv lv
theorem cs_ok (n : Nat) : CtxOk Tryz.prog (cs n) := ctxOf_ok rfl tis_ok t_num_RoundDiv_ok n
def enc (r : R) : Out := ((.c (.int .i64 r)), [])
def dec : Out → Option R
  | ((.c (.int .i64 v0)), []) => some v0
  | _ => none
theorem dec_ok : ∀ u y, dec u = some y → u = enc y := by
  intro u y h
  unfold dec at h
  split at h
  · cases h; rfl
  · cases h
noncomputable def b0 : Code := subF [] Tryz.f98
noncomputable def K0 (k : Nat) : Kt R := kTop (cs k) Tryz.f98 dec
noncomputable def c1000004 : Code := sub [1, 1, 1] b0
noncomputable def J1000004 ( k : Nat) : Kt R := kAt (cs k) (loopN cs k) [1, 1, 1] b0 (K0 k)
abbrev T0 : Type := Int × Bool
def s0 : T0 → St := fun (v0, v1) => ⟨31, 0, [(0, (.c (.int .i64 v0))), (3, (.c (.bool v1)))], [], [(256000000, .gone)]⟩
noncomputable def l0 ( k : Nat) (v : T0) : Option R := held (run (cs k) (loopN cs k) c1000004 (J1000004 k) (s0 v))
noncomputable def D0 (v : T0) : Option R := lim fun L => l0 (L 0) v
theorem D0_cn (v : T0) : Cn late (D0 v) fun L => l0 (L 0) v := of_lim
def d0 (num_MulDiv_k : num_MulDiv.A → Option num_MulDiv.R) (trig_times_k : trig_times.A → Option trig_times.R) (trig_series_k : trig_series.A → Option trig_series.R) (num_RoundDiv_k : num_RoundDiv.A → Option num_RoundDiv.R) : T0 → Option R := fun (v0, v1) =>
bnd (num_MulDiv_k (v0, 1811004864519280710, 1073741824)) fun r =>
  bnd (trig_times_k (r.fst, r.fst)) fun r_1 =>
    br v1 (bnd (trig_series_k (r_1, [182, 132, 90, 56, 30, 12, 2])) fun r => bnd (num_RoundDiv_k (r, 1073741824)) fun r => some r)
      (bnd (trig_series_k (r_1, [156, 110, 72, 42, 20, 6])) fun r_2 => bnd (trig_times_k (r.fst, r_2)) fun r => bnd (num_RoundDiv_k (r, 1073741824)) fun r => some r)
theorem d0_cn {ι : Type} {E : Fil ι} {num_MulDiv_k : num_MulDiv.A → Option num_MulDiv.R} {num_MulDiv_k' : ι → num_MulDiv.A → Option num_MulDiv.R} (hnum_MulDiv_k : ∀ v, Cn E (num_MulDiv_k v) fun i => num_MulDiv_k' i v) {trig_times_k : trig_times.A → Option trig_times.R} {trig_times_k' : ι → trig_times.A → Option trig_times.R} (htrig_times_k : ∀ v, Cn E (trig_times_k v) fun i => trig_times_k' i v) {trig_series_k : trig_series.A → Option trig_series.R} {trig_series_k' : ι → trig_series.A → Option trig_series.R} (htrig_series_k : ∀ v, Cn E (trig_series_k v) fun i => trig_series_k' i v) {num_RoundDiv_k : num_RoundDiv.A → Option num_RoundDiv.R} {num_RoundDiv_k' : ι → num_RoundDiv.A → Option num_RoundDiv.R} (hnum_RoundDiv_k : ∀ v, Cn E (num_RoundDiv_k v) fun i => num_RoundDiv_k' i v) : ∀ v : T0, Cn E (d0 num_MulDiv_k trig_times_k trig_series_k num_RoundDiv_k v) fun i => d0 (num_MulDiv_k' i) (trig_times_k' i) (trig_series_k' i) (num_RoundDiv_k' i) v := fun (v0, v1) => (.bnd (hnum_MulDiv_k _) fun _ => (.bnd (htrig_times_k _) fun _ => (.br (.bnd (htrig_series_k _) fun _ => (.bnd (hnum_RoundDiv_k _) fun _ => .some)) (.bnd (htrig_series_k _) fun _ => (.bnd (htrig_times_k _) fun _ => (.bnd (hnum_RoundDiv_k _) fun _ => .some))))))
theorem l0_b ( k : Nat) : ∀ v : T0, run (cs k) (loopN cs k) c1000004 (J1000004 k) (s0 v) = d0 (num_MulDiv.f k) (trig_times.f k) (trig_series.f k) (num_RoundDiv.f k) v := fun (v0, v1) => by kernel_rfl
theorem D0_of (v : T0) {r : R} (h : d0 num_MulDiv.F trig_times.F trig_series.F num_RoundDiv.F v = some r) : D0 v = some r :=
  join_of (l := fun L => l0 (L 0) v) (d := fun L => d0 (num_MulDiv.f (L 0)) (trig_times.f (L 0)) (trig_series.f (L 0)) (num_RoundDiv.f (L 0)) v) (fun L => (held_eq _).trans (l0_b (L 0) v)) (d0_cn (num_MulDiv.F_cn 0) (trig_times.F_cn 0) (trig_series.F_cn 0) (num_RoundDiv.F_cn 0) v) h
noncomputable def f (k : Nat) : A → Option R := fun v0 => held (runFn cs k Tryz.f98 [(.c (.int .i64 v0))] [] dec)
noncomputable def F (v : A) : Option R := lim fun L => f (L 0) v
theorem F_cn (x : Nat) (v : A) : Cn late (F v) fun L => f (L x) v := of_lim.re [x]
def d (L0k : T0 → Option R) : A → Option R := fun v0 =>
br (decide (536870912 < v0)) (L0k (wrap IntKind.i64 (1073741824 - v0), decide (536870912 < v0))) (L0k (v0, decide (536870912 < v0)))
theorem d_cn {ι : Type} {E : Fil ι} {L0k : T0 → Option R} {L0k' : ι → T0 → Option R} (hL0k : ∀ v, Cn E (L0k v) fun i => L0k' i v) : ∀ v : A, Cn E (d L0k v) fun i => d (L0k' i) v := fun v0 => (.br (hL0k _) (hL0k _))
theorem f_b (k : Nat) : ∀ v : A, f k v = d (l0 k) v := fun v0 => (held_eq _).trans (by kernel_rfl)
theorem F_of (v : A) {r : R} (h : d D0 v = some r) : F v = some r :=
  join_of (l := fun L => f (L 0) v) (d := fun L => d (l0 (L 0)) v) (fun L => f_b (L 0) v) (d_cn (fun v => (D0_cn v).re [0]) v) h
noncomputable def spec (k : Nat) (args : List AV) (ss : List Slot) : Option Ans :=
  match args, ss with
  | [(.c (.int .i64 v0))], [] => some ⟨R, f k v0, enc⟩
  | _, _ => none
theorem spec_ok (k : Nat) : SpecOk Tryz.prog 98 (spec k) := by
  intro args ss ans x h hx X σ w vals hp
  unfold spec at h
  split at h
  · cases h
    exact spec_of cs_ok Tryz.func98 rfl rfl dec_ok (held_eq _).symm hx hp
  · cases h
end trig_quarter
noncomputable def t_trig_quarter (k : Nat) := tcons 98 (trig_quarter.spec k) (t_num_RoundDiv k)
theorem t_trig_quarter_ok (n g : Nat) : SpecOk Tryz.prog g (t_trig_quarter n g) := tcons_ok (trig_quarter.spec_ok n) (fun g => t_num_RoundDiv_ok n g) g
namespace trig_Sin
abbrev R : Type := Int
abbrev A : Type := Int
def lv : List (Nat × List Nat) := [(2000000, [2])]
noncomputable def cs : Nat → Ctx := ctxOf tis modes t_trig_quarter lv
theorem cs_ok (n : Nat) : CtxOk Tryz.prog (cs n) := ctxOf_ok rfl tis_ok t_trig_quarter_ok n
def enc (r : R) : Out := ((.c (.int .i64 r)), [])
def dec : Out → Option R
  | ((.c (.int .i64 v0)), []) => some v0
  | _ => none
theorem dec_ok : ∀ u y, dec u = some y → u = enc y := by
  intro u y h
  unfold dec at h
  split at h
  · cases h; rfl
  · cases h
noncomputable def b0 : Code := subF [] Tryz.f67
noncomputable def K0 (k : Nat) : Kt R := kTop (cs k) Tryz.f67 dec
noncomputable def f (k : Nat) : A → Option R := fun v0 => held (runFn cs k Tryz.f67 [(.c (.int .i64 v0))] [] dec)
noncomputable def F (v : A) : Option R := lim fun L => f (L 0) v
theorem F_cn (x : Nat) (v : A) : Cn late (F v) fun L => f (L x) v := of_lim.re [x]
def d (trig_quarter_k : trig_quarter.A → Option trig_quarter.R) : A → Option R := fun v0 =>
br (!decide (1073741824 = 0))
  (br (decide (wrap IntKind.i64 ((bAnd IntKind.i64 v0 4294967295).tdiv 1073741824) = 0)) (bnd (trig_quarter_k (bAnd IntKind.i64 (bAnd IntKind.i64 v0 4294967295) 1073741823)) fun r => some r)
    (br (decide (wrap IntKind.i64 ((bAnd IntKind.i64 v0 4294967295).tdiv 1073741824) = 1))
      (bnd (trig_quarter_k (wrap IntKind.i64 (1073741824 - bAnd IntKind.i64 (bAnd IntKind.i64 v0 4294967295) 1073741823))) fun r => some r)
      (br (decide (wrap IntKind.i64 ((bAnd IntKind.i64 v0 4294967295).tdiv 1073741824) = 2)) (bnd (trig_quarter_k (bAnd IntKind.i64 (bAnd IntKind.i64 v0 4294967295) 1073741823)) fun r => some (wrap IntKind.i64 (0 - r)))
        (bnd (trig_quarter_k (wrap IntKind.i64 (1073741824 - bAnd IntKind.i64 (bAnd IntKind.i64 v0 4294967295) 1073741823))) fun r => some (wrap IntKind.i64 (0 - r))))))
  none
theorem d_cn {ι : Type} {E : Fil ι} {trig_quarter_k : trig_quarter.A → Option trig_quarter.R} {trig_quarter_k' : ι → trig_quarter.A → Option trig_quarter.R} (htrig_quarter_k : ∀ v, Cn E (trig_quarter_k v) fun i => trig_quarter_k' i v) : ∀ v : A, Cn E (d trig_quarter_k v) fun i => d (trig_quarter_k' i) v := fun v0 => (.br (.br (.bnd (htrig_quarter_k _) fun _ => .some) (.br (.bnd (htrig_quarter_k _) fun _ => .some) (.br (.bnd (htrig_quarter_k _) fun _ => .some) (.bnd (htrig_quarter_k _) fun _ => .some)))) .none)
theorem f_b (k : Nat) : ∀ v : A, f k v = d (trig_quarter.f k) v := fun v0 => (held_eq _).trans (by kernel_rfl)
theorem F_of (v : A) {r : R} (h : d trig_quarter.F v = some r) : F v = some r :=
  join_of (l := fun L => f (L 0) v) (d := fun L => d (trig_quarter.f (L 0)) v) (fun L => f_b (L 0) v) (d_cn (trig_quarter.F_cn 0) v) h
noncomputable def spec (k : Nat) (args : List AV) (ss : List Slot) : Option Ans :=
  match args, ss with
  | [(.c (.int .i64 v0))], [] => some ⟨R, f k v0, enc⟩
  | _, _ => none
theorem spec_ok (k : Nat) : SpecOk Tryz.prog 67 (spec k) := by
  intro args ss ans x h hx X σ w vals hp
  unfold spec at h
  split at h
  · cases h
    exact spec_of cs_ok Tryz.func67 rfl rfl dec_ok (held_eq _).symm hx hp
  · cases h
end trig_Sin
noncomputable def t_trig_Sin (k : Nat) := tcons 67 (trig_Sin.spec k) (t_trig_quarter k)
theorem t_trig_Sin_ok (n g : Nat) : SpecOk Tryz.prog g (t_trig_Sin n g) := tcons_ok (trig_Sin.spec_ok n) (fun g => t_trig_quarter_ok n g) g
namespace trig_Cos
abbrev R : Type := Int
abbrev A : Type := Int
def lv : List (Nat × List Nat) := [(2000000, [2])]
noncomputable def cs : Nat → Ctx := ctxOf tis modes t_trig_Sin lv
theorem cs_ok (n : Nat) : CtxOk Tryz.prog (cs n) := ctxOf_ok rfl tis_ok t_trig_Sin_ok n
def enc (r : R) : Out := ((.c (.int .i64 r)), [])
def dec : Out → Option R
  | ((.c (.int .i64 v0)), []) => some v0
  | _ => none
theorem dec_ok : ∀ u y, dec u = some y → u = enc y := by
  intro u y h
  unfold dec at h
  split at h
  · cases h; rfl
  · cases h
noncomputable def b0 : Code := subF [] Tryz.f66
noncomputable def K0 (k : Nat) : Kt R := kTop (cs k) Tryz.f66 dec
noncomputable def f (k : Nat) : A → Option R := fun v0 => held (runFn cs k Tryz.f66 [(.c (.int .i64 v0))] [] dec)
noncomputable def F (v : A) : Option R := lim fun L => f (L 0) v
theorem F_cn (x : Nat) (v : A) : Cn late (F v) fun L => f (L x) v := of_lim.re [x]
def d (trig_Sin_k : trig_Sin.A → Option trig_Sin.R) : A → Option R := fun v0 =>
bnd (trig_Sin_k (wrap IntKind.i64 (bAnd IntKind.i64 v0 4294967295 + 1073741824))) fun r => some r
theorem d_cn {ι : Type} {E : Fil ι} {trig_Sin_k : trig_Sin.A → Option trig_Sin.R} {trig_Sin_k' : ι → trig_Sin.A → Option trig_Sin.R} (htrig_Sin_k : ∀ v, Cn E (trig_Sin_k v) fun i => trig_Sin_k' i v) : ∀ v : A, Cn E (d trig_Sin_k v) fun i => d (trig_Sin_k' i) v := fun v0 => (.bnd (htrig_Sin_k _) fun _ => .some)
theorem f_b (k : Nat) : ∀ v : A, f k v = d (trig_Sin.f k) v := fun v0 => (held_eq _).trans (by kernel_rfl)
theorem F_of (v : A) {r : R} (h : d trig_Sin.F v = some r) : F v = some r :=
  join_of (l := fun L => f (L 0) v) (d := fun L => d (trig_Sin.f (L 0)) v) (fun L => f_b (L 0) v) (d_cn (trig_Sin.F_cn 0) v) h
noncomputable def spec (k : Nat) (args : List AV) (ss : List Slot) : Option Ans :=
  match args, ss with
  | [(.c (.int .i64 v0))], [] => some ⟨R, f k v0, enc⟩
  | _, _ => none
theorem spec_ok (k : Nat) : SpecOk Tryz.prog 66 (spec k) := by
  intro args ss ans x h hx X σ w vals hp
  unfold spec at h
  split at h
  · cases h
    exact spec_of cs_ok Tryz.func66 rfl rfl dec_ok (held_eq _).symm hx hp
  · cases h
end trig_Cos
noncomputable def t_trig_Cos (k : Nat) := tcons 66 (trig_Cos.spec k) (t_trig_Sin k)
theorem t_trig_Cos_ok (n g : Nat) : SpecOk Tryz.prog g (t_trig_Cos n g) := tcons_ok (trig_Cos.spec_ok n) (fun g => t_trig_Sin_ok n g) g
namespace num_FloorDiv
abbrev R : Type := Int
abbrev A : Type := Int × Int
def lv : List (Nat × List Nat) := [(2000000, [4]), (1000006, [5])]
noncomputable def cs : Nat → Ctx := ctxOf tis modes t_trig_Cos lv
theorem cs_ok (n : Nat) : CtxOk Tryz.prog (cs n) := ctxOf_ok rfl tis_ok t_trig_Cos_ok n
def enc (r : R) : Out := ((.c (.int .i64 r)), [])
def dec : Out → Option R
  | ((.c (.int .i64 v0)), []) => some v0
  | _ => none
theorem dec_ok : ∀ u y, dec u = some y → u = enc y := by
  intro u y h
  unfold dec at h
  split at h
  · cases h; rfl
  · cases h
noncomputable def b0 : Code := subF [] Tryz.f113
noncomputable def K0 (k : Nat) : Kt R := kTop (cs k) Tryz.f113 dec
noncomputable def c1000006 : Code := sub [1, 1, 1, 1] b0
noncomputable def J1000006 ( k : Nat) : Kt R := kAt (cs k) (loopN cs k) [1, 1, 1, 1] b0 (K0 k)
abbrev T0 : Type := Int
def s0 : T0 → St := fun v0 => ⟨18, 0, [(5, (.c (.int .i64 v0)))], [], [(256000000, .gone)]⟩
noncomputable def l0 ( k : Nat) (v : T0) : Option R := held (run (cs k) (loopN cs k) c1000006 (J1000006 k) (s0 v))
noncomputable def D0 (v : T0) : Option R := lim fun L => l0 (L 0) v
theorem D0_cn (v : T0) : Cn late (D0 v) fun L => l0 (L 0) v := of_lim
def d0 : T0 → Option R := fun v0 =>
some v0
theorem d0_cn {ι : Type} {E : Fil ι} : ∀ v : T0, Cn E (d0 v) fun i => d0 v := fun v0 => .some
theorem l0_b ( k : Nat) : ∀ v : T0, run (cs k) (loopN cs k) c1000006 (J1000006 k) (s0 v) = d0 v := fun v0 => by kernel_rfl
theorem D0_of (v : T0) {r : R} (h : d0 v = some r) : D0 v = some r :=
  join_of (l := fun L => l0 (L 0) v) (d := fun L => d0 v) (fun L => (held_eq _).trans (l0_b (L 0) v)) (d0_cn v) h
noncomputable def f (k : Nat) : A → Option R := fun (v0, v1) => held (runFn cs k Tryz.f113 [(.c (.int .i64 v0)), (.c (.int .i64 v1))] [] dec)
noncomputable def F (v : A) : Option R := lim fun L => f (L 0) v
theorem F_cn (x : Nat) (v : A) : Cn late (F v) fun L => f (L x) v := of_lim.re [x]
def d (L0k : T0 → Option R) : A → Option R := fun (v0, v1) =>
br (decide (v1 < 1)) (some 0) (br (!decide (v1 = 0)) (br (!decide (v1 = 0)) (br (decide (v0.tmod v1 < 0)) (L0k (wrap IntKind.i64 (wrap IntKind.i64 (v0.tdiv v1) - 1))) (L0k (wrap IntKind.i64 (v0.tdiv v1)))) none) none)
theorem d_cn {ι : Type} {E : Fil ι} {L0k : T0 → Option R} {L0k' : ι → T0 → Option R} (hL0k : ∀ v, Cn E (L0k v) fun i => L0k' i v) : ∀ v : A, Cn E (d L0k v) fun i => d (L0k' i) v := fun (v0, v1) => (.br .some (.br (.br (.br (hL0k _) (hL0k _)) .none) .none))
theorem f_b (k : Nat) : ∀ v : A, f k v = d (l0 k) v := fun (v0, v1) => (held_eq _).trans (by kernel_rfl)
theorem F_of (v : A) {r : R} (h : d D0 v = some r) : F v = some r :=
  join_of (l := fun L => f (L 0) v) (d := fun L => d (l0 (L 0)) v) (fun L => f_b (L 0) v) (d_cn (fun v => (D0_cn v).re [0]) v) h
noncomputable def spec (k : Nat) (args : List AV) (ss : List Slot) : Option Ans :=
  match args, ss with
  | [(.c (.int .i64 v0)), (.c (.int .i64 v1))], [] => some ⟨R, f k (v0, v1), enc⟩
  | _, _ => none
theorem spec_ok (k : Nat) : SpecOk Tryz.prog 113 (spec k) := by
  intro args ss ans x h hx X σ w vals hp
  unfold spec at h
  split at h
  · cases h
    exact spec_of cs_ok Tryz.func113 rfl rfl dec_ok (held_eq _).symm hx hp
  · cases h
end num_FloorDiv
noncomputable def t_num_FloorDiv (k : Nat) := tcons 113 (num_FloorDiv.spec k) (t_trig_Cos k)
theorem t_num_FloorDiv_ok (n g : Nat) : SpecOk Tryz.prog g (t_num_FloorDiv n g) := tcons_ok (num_FloorDiv.spec_ok n) (fun g => t_trig_Cos_ok n g) g
namespace trig_meets
abbrev R : Type := Bool
abbrev A : Type := Int × Int × Bool × Int
def lv : List (Nat × List Nat) := [(2000000, [4])]
noncomputable def cs : Nat → Ctx := ctxOf tis modes t_num_FloorDiv lv
theorem cs_ok (n : Nat) : CtxOk Tryz.prog (cs n) := ctxOf_ok rfl tis_ok t_num_FloorDiv_ok n
def enc (r : R) : Out := ((.c (.bool r)), [])
def dec : Out → Option R
  | ((.c (.bool v0)), []) => some v0
  | _ => none
theorem dec_ok : ∀ u y, dec u = some y → u = enc y := by
  intro u y h
  unfold dec at h
  split at h
  · cases h; rfl
  · cases h
noncomputable def b0 : Code := subF [] Tryz.f97
noncomputable def K0 (k : Nat) : Kt R := kTop (cs k) Tryz.f97 dec
noncomputable def f (k : Nat) : A → Option R := fun (v0, v1, v2, v3) => held (runFn cs k Tryz.f97 [(.agg [(.int .i64 v0), (.int .i64 v1), (.bool v2)]), (.c (.int .i64 v3))] [] dec)
noncomputable def F (v : A) : Option R := lim fun L => f (L 0) v
theorem F_cn (x : Nat) (v : A) : Cn late (F v) fun L => f (L x) v := of_lim.re [x]
def d (num_FloorDiv_k : num_FloorDiv.A → Option num_FloorDiv.R) (num_CeilDiv_k : num_CeilDiv.A → Option num_CeilDiv.R) : A → Option R := fun (v0, v1, v2, v3) =>
bnd (num_FloorDiv_k (wrap IntKind.i64 (v1 - v3), 4294967296)) fun r => bnd (num_CeilDiv_k (wrap IntKind.i64 (v0 - v3), 4294967296)) fun r_1 => some (decide (r_1 ≤ r))
theorem d_cn {ι : Type} {E : Fil ι} {num_FloorDiv_k : num_FloorDiv.A → Option num_FloorDiv.R} {num_FloorDiv_k' : ι → num_FloorDiv.A → Option num_FloorDiv.R} (hnum_FloorDiv_k : ∀ v, Cn E (num_FloorDiv_k v) fun i => num_FloorDiv_k' i v) {num_CeilDiv_k : num_CeilDiv.A → Option num_CeilDiv.R} {num_CeilDiv_k' : ι → num_CeilDiv.A → Option num_CeilDiv.R} (hnum_CeilDiv_k : ∀ v, Cn E (num_CeilDiv_k v) fun i => num_CeilDiv_k' i v) : ∀ v : A, Cn E (d num_FloorDiv_k num_CeilDiv_k v) fun i => d (num_FloorDiv_k' i) (num_CeilDiv_k' i) v := fun (v0, v1, v2, v3) => (.bnd (hnum_FloorDiv_k _) fun _ => (.bnd (hnum_CeilDiv_k _) fun _ => .some))
theorem f_b (k : Nat) : ∀ v : A, f k v = d (num_FloorDiv.f k) (num_CeilDiv.f k) v := fun (v0, v1, v2, v3) => (held_eq _).trans (by kernel_rfl)
theorem F_of (v : A) {r : R} (h : d num_FloorDiv.F num_CeilDiv.F v = some r) : F v = some r :=
  join_of (l := fun L => f (L 0) v) (d := fun L => d (num_FloorDiv.f (L 0)) (num_CeilDiv.f (L 0)) v) (fun L => f_b (L 0) v) (d_cn (num_FloorDiv.F_cn 0) (num_CeilDiv.F_cn 0) v) h
noncomputable def spec (k : Nat) (args : List AV) (ss : List Slot) : Option Ans :=
  match args, ss with
  | [(.agg [(.int .i64 v0), (.int .i64 v1), (.bool v2)]), (.c (.int .i64 v3))], [] => some ⟨R, f k (v0, v1, v2, v3), enc⟩
  | _, _ => none
theorem spec_ok (k : Nat) : SpecOk Tryz.prog 97 (spec k) := by
  intro args ss ans x h hx X σ w vals hp
  unfold spec at h
  split at h
  · cases h
    exact spec_of cs_ok Tryz.func97 rfl rfl dec_ok (held_eq _).symm hx hp
  · cases h
end trig_meets
noncomputable def t_trig_meets (k : Nat) := tcons 97 (trig_meets.spec k) (t_num_FloorDiv k)
theorem t_trig_meets_ok (n g : Nat) : SpecOk Tryz.prog g (t_trig_meets n g) := tcons_ok (trig_meets.spec_ok n) (fun g => t_num_FloorDiv_ok n g) g
namespace bound_Check_Fix
abbrev R : Type := Int
abbrev A : Type := Int × Int × Bool
def lv : List (Nat × List Nat) := [(2000000, [2])]
noncomputable def cs : Nat → Ctx := ctxOf tis modes t_trig_meets lv
theorem cs_ok (n : Nat) : CtxOk Tryz.prog (cs n) := ctxOf_ok rfl tis_ok t_trig_meets_ok n
def enc (r : R) : Out := ((.c (.int .i64 r)), [])
def dec : Out → Option R
  | ((.c (.int .i64 v0)), []) => some v0
  | _ => none
theorem dec_ok : ∀ u y, dec u = some y → u = enc y := by
  intro u y h
  unfold dec at h
  split at h
  · cases h; rfl
  · cases h
noncomputable def b0 : Code := subF [] Tryz.f104
noncomputable def K0 (k : Nat) : Kt R := kTop (cs k) Tryz.f104 dec
noncomputable def f (k : Nat) : A → Option R := fun (v0, v1, v2) => held (runFn cs k Tryz.f104 [(.agg [(.int .i64 v0), (.int .i64 v1), (.bool v2)])] [] dec)
noncomputable def F (v : A) : Option R := lim fun L => f (L 0) v
theorem F_cn (x : Nat) (v : A) : Cn late (F v) fun L => f (L x) v := of_lim.re [x]
def d : A → Option R := fun (v0, v1, v2) =>
br (v2 && (!decide (v0 = 0) || !decide (v1 = 0))) (some 3) (br (decide (min v0 v1 < -1152921504606846976) || decide (1152921504606846976 < max v0 v1)) (some 4) (br (decide (v1 < v0)) (some 11) (some 0)))
theorem d_cn {ι : Type} {E : Fil ι} : ∀ v : A, Cn E (d v) fun i => d v := fun (v0, v1, v2) => (.br .some (.br .some (.br .some .some)))
theorem f_b (k : Nat) : ∀ v : A, f k v = d v := fun (v0, v1, v2) => (held_eq _).trans (by kernel_rfl)
theorem F_of (v : A) {r : R} (h : d v = some r) : F v = some r :=
  join_of (l := fun L => f (L 0) v) (d := fun L => d v) (fun L => f_b (L 0) v) (d_cn v) h
noncomputable def spec (k : Nat) (args : List AV) (ss : List Slot) : Option Ans :=
  match args, ss with
  | [(.agg [(.int .i64 v0), (.int .i64 v1), (.bool v2)])], [] => some ⟨R, f k (v0, v1, v2), enc⟩
  | _, _ => none
theorem spec_ok (k : Nat) : SpecOk Tryz.prog 104 (spec k) := by
  intro args ss ans x h hx X σ w vals hp
  unfold spec at h
  split at h
  · cases h
    exact spec_of cs_ok Tryz.func104 rfl rfl dec_ok (held_eq _).symm hx hp
  · cases h
end bound_Check_Fix
noncomputable def t_bound_Check_Fix (k : Nat) := tcons 104 (bound_Check_Fix.spec k) (t_trig_meets k)
theorem t_bound_Check_Fix_ok (n g : Nat) : SpecOk Tryz.prog g (t_bound_Check_Fix n g) := tcons_ok (bound_Check_Fix.spec_ok n) (fun g => t_trig_meets_ok n g) g
namespace bound_Norm_Fix
abbrev R : Type := Int × Int × Bool
abbrev A : Type := Int × Int × Bool
def lv : List (Nat × List Nat) := [(2000000, [2])]
noncomputable def cs : Nat → Ctx := ctxOf tis modes t_bound_Check_Fix lv
theorem cs_ok (n : Nat) : CtxOk Tryz.prog (cs n) := ctxOf_ok rfl tis_ok t_bound_Check_Fix_ok n
def enc (r : R) : Out := ((.agg [(.int .i64 r.1), (.int .i64 r.2.1), (.bool r.2.2)]), [])
def dec : Out → Option R
  | ((.agg [(.int .i64 v0), (.int .i64 v1), (.bool v2)]), []) => some (v0, v1, v2)
  | _ => none
theorem dec_ok : ∀ u y, dec u = some y → u = enc y := by
  intro u y h
  unfold dec at h
  split at h
  · cases h; rfl
  · cases h
noncomputable def b0 : Code := subF [] Tryz.f76
noncomputable def K0 (k : Nat) : Kt R := kTop (cs k) Tryz.f76 dec
noncomputable def f (k : Nat) : A → Option R := fun (v0, v1, v2) => held (runFn cs k Tryz.f76 [(.agg [(.int .i64 v0), (.int .i64 v1), (.bool v2)])] [] dec)
noncomputable def F (v : A) : Option R := lim fun L => f (L 0) v
theorem F_cn (x : Nat) (v : A) : Cn late (F v) fun L => f (L x) v := of_lim.re [x]
def d (bound_Check_Fix_k : bound_Check_Fix.A → Option bound_Check_Fix.R) (bound_None_Fix_k : bound_None_Fix.A → Option bound_None_Fix.R) : A → Option R := fun (v0, v1, v2) =>
bnd (bound_Check_Fix_k (v0, v1, v2)) fun r => br (!decide (r = 0)) (bnd (bound_None_Fix_k ()) fun r => some (r.fst, r.snd.fst, r.snd.snd)) (some (v0, v1, v2))
theorem d_cn {ι : Type} {E : Fil ι} {bound_Check_Fix_k : bound_Check_Fix.A → Option bound_Check_Fix.R} {bound_Check_Fix_k' : ι → bound_Check_Fix.A → Option bound_Check_Fix.R} (hbound_Check_Fix_k : ∀ v, Cn E (bound_Check_Fix_k v) fun i => bound_Check_Fix_k' i v) {bound_None_Fix_k : bound_None_Fix.A → Option bound_None_Fix.R} {bound_None_Fix_k' : ι → bound_None_Fix.A → Option bound_None_Fix.R} (hbound_None_Fix_k : ∀ v, Cn E (bound_None_Fix_k v) fun i => bound_None_Fix_k' i v) : ∀ v : A, Cn E (d bound_Check_Fix_k bound_None_Fix_k v) fun i => d (bound_Check_Fix_k' i) (bound_None_Fix_k' i) v := fun (v0, v1, v2) => (.bnd (hbound_Check_Fix_k _) fun _ => (.br (.bnd (hbound_None_Fix_k _) fun _ => .some) .some))
theorem f_b (k : Nat) : ∀ v : A, f k v = d (bound_Check_Fix.f k) (bound_None_Fix.f k) v := fun (v0, v1, v2) => (held_eq _).trans (by kernel_rfl)
theorem F_of (v : A) {r : R} (h : d bound_Check_Fix.F bound_None_Fix.F v = some r) : F v = some r :=
  join_of (l := fun L => f (L 0) v) (d := fun L => d (bound_Check_Fix.f (L 0)) (bound_None_Fix.f (L 0)) v) (fun L => f_b (L 0) v) (d_cn (bound_Check_Fix.F_cn 0) (bound_None_Fix.F_cn 0) v) h
noncomputable def spec (k : Nat) (args : List AV) (ss : List Slot) : Option Ans :=
  match args, ss with
  | [(.agg [(.int .i64 v0), (.int .i64 v1), (.bool v2)])], [] => some ⟨R, f k (v0, v1, v2), enc⟩
  | _, _ => none
theorem spec_ok (k : Nat) : SpecOk Tryz.prog 76 (spec k) := by
  intro args ss ans x h hx X σ w vals hp
  unfold spec at h
  split at h
  · cases h
    exact spec_of cs_ok Tryz.func76 rfl rfl dec_ok (held_eq _).symm hx hp
  · cases h
end bound_Norm_Fix
noncomputable def t_bound_Norm_Fix (k : Nat) := tcons 76 (bound_Norm_Fix.spec k) (t_bound_Check_Fix k)
theorem t_bound_Norm_Fix_ok (n g : Nat) : SpecOk Tryz.prog g (t_bound_Norm_Fix n g) := tcons_ok (bound_Norm_Fix.spec_ok n) (fun g => t_bound_Check_Fix_ok n g) g
namespace bound_Of_Fix
abbrev R : Type := Int × Int × Bool
abbrev A : Type := Int × Int
def lv : List (Nat × List Nat) := [(2000000, [4])]
noncomputable def cs : Nat → Ctx := ctxOf tis modes t_bound_Norm_Fix lv
theorem cs_ok (n : Nat) : CtxOk Tryz.prog (cs n) := ctxOf_ok rfl tis_ok t_bound_Norm_Fix_ok n
def enc (r : R) : Out := ((.agg [(.int .i64 r.1), (.int .i64 r.2.1), (.bool r.2.2)]), [])
def dec : Out → Option R
  | ((.agg [(.int .i64 v0), (.int .i64 v1), (.bool v2)]), []) => some (v0, v1, v2)
  | _ => none
theorem dec_ok : ∀ u y, dec u = some y → u = enc y := by
  intro u y h
  unfold dec at h
  split at h
  · cases h; rfl
  · cases h
noncomputable def b0 : Code := subF [] Tryz.f46
noncomputable def K0 (k : Nat) : Kt R := kTop (cs k) Tryz.f46 dec
noncomputable def f (k : Nat) : A → Option R := fun (v0, v1) => held (runFn cs k Tryz.f46 [(.c (.int .i64 v0)), (.c (.int .i64 v1))] [] dec)
noncomputable def F (v : A) : Option R := lim fun L => f (L 0) v
theorem F_cn (x : Nat) (v : A) : Cn late (F v) fun L => f (L x) v := of_lim.re [x]
def d (bound_Norm_Fix_k : bound_Norm_Fix.A → Option bound_Norm_Fix.R) : A → Option R := fun (v0, v1) =>
bnd (bound_Norm_Fix_k (v0, v1, false)) fun r => some (r.fst, r.snd.fst, r.snd.snd)
theorem d_cn {ι : Type} {E : Fil ι} {bound_Norm_Fix_k : bound_Norm_Fix.A → Option bound_Norm_Fix.R} {bound_Norm_Fix_k' : ι → bound_Norm_Fix.A → Option bound_Norm_Fix.R} (hbound_Norm_Fix_k : ∀ v, Cn E (bound_Norm_Fix_k v) fun i => bound_Norm_Fix_k' i v) : ∀ v : A, Cn E (d bound_Norm_Fix_k v) fun i => d (bound_Norm_Fix_k' i) v := fun (v0, v1) => (.bnd (hbound_Norm_Fix_k _) fun _ => .some)
theorem f_b (k : Nat) : ∀ v : A, f k v = d (bound_Norm_Fix.f k) v := fun (v0, v1) => (held_eq _).trans (by kernel_rfl)
theorem F_of (v : A) {r : R} (h : d bound_Norm_Fix.F v = some r) : F v = some r :=
  join_of (l := fun L => f (L 0) v) (d := fun L => d (bound_Norm_Fix.f (L 0)) v) (fun L => f_b (L 0) v) (d_cn (bound_Norm_Fix.F_cn 0) v) h
noncomputable def spec (k : Nat) (args : List AV) (ss : List Slot) : Option Ans :=
  match args, ss with
  | [(.c (.int .i64 v0)), (.c (.int .i64 v1))], [] => some ⟨R, f k (v0, v1), enc⟩
  | _, _ => none
theorem spec_ok (k : Nat) : SpecOk Tryz.prog 46 (spec k) := by
  intro args ss ans x h hx X σ w vals hp
  unfold spec at h
  split at h
  · cases h
    exact spec_of cs_ok Tryz.func46 rfl rfl dec_ok (held_eq _).symm hx hp
  · cases h
end bound_Of_Fix
noncomputable def t_bound_Of_Fix (k : Nat) := tcons 46 (bound_Of_Fix.spec k) (t_bound_Norm_Fix k)
theorem t_bound_Of_Fix_ok (n g : Nat) : SpecOk Tryz.prog g (t_bound_Of_Fix n g) := tcons_ok (bound_Of_Fix.spec_ok n) (fun g => t_bound_Norm_Fix_ok n g) g
namespace trig_wave
abbrev R : Type := Int × Int × Bool
abbrev A : Type := Int × Int × Bool × Int
def lv : List (Nat × List Nat) := [(2000000, [6]), (1000008, [2, 3, 6, 9, 10]), (1000010, [6, 9, 10])]
noncomputable def cs : Nat → Ctx := ctxOf tis modes t_bound_Of_Fix lv
theorem cs_ok (n : Nat) : CtxOk Tryz.prog (cs n) := ctxOf_ok rfl tis_ok t_bound_Of_Fix_ok n
def enc (r : R) : Out := ((.agg [(.int .i64 r.1), (.int .i64 r.2.1), (.bool r.2.2)]), [])
def dec : Out → Option R
  | ((.agg [(.int .i64 v0), (.int .i64 v1), (.bool v2)]), []) => some (v0, v1, v2)
  | _ => none
theorem dec_ok : ∀ u y, dec u = some y → u = enc y := by
  intro u y h
  unfold dec at h
  split at h
  · cases h; rfl
  · cases h
noncomputable def b0 : Code := subF [] Tryz.f65
noncomputable def K0 (k : Nat) : Kt R := kTop (cs k) Tryz.f65 dec
noncomputable def c1000008 : Code := sub [1, 1, 1, 1, 1] b0
noncomputable def J1000008 ( k : Nat) : Kt R := kAt (cs k) (loopN cs k) [1, 1, 1, 1, 1] b0 (K0 k)
noncomputable def c1000010 : Code := sub [1, 1, 1, 1, 1, 1] b0
noncomputable def J1000010 ( k : Nat) : Kt R := kAt (cs k) (loopN cs k) [1, 1, 1, 1, 1, 1] b0 (K0 k)
abbrev T0 : Type := Int × Int × Int × Int × Int × Bool × Int × Int × Bool
def s0 : T0 → St := fun (v0, v1, v2, v3, v4, v5, v6, v7, v8) => ⟨44, 0, [(2, (.c (.int .i64 v0))), (3, (.c (.ptr 64000000 0))), (6, (.c (.ptr 64000001 0))), (9, (.c (.int .i64 v1))), (10, (.c (.int .i64 v2)))], [], [(256000000, .gone), (64000000, (.box [(.int .i64 v3), (.int .i64 v4), (.bool v5)])), (64000001, (.box [(.int .i64 v6), (.int .i64 v7), (.bool v8)]))]⟩
noncomputable def l0 ( k : Nat) (v : T0) : Option R := held (run (cs k) (loopN cs k) c1000008 (J1000008 k) (s0 v))
noncomputable def D0 (v : T0) : Option R := lim fun L => l0 (L 0) v
theorem D0_cn (v : T0) : Cn late (D0 v) fun L => l0 (L 0) v := of_lim
abbrev T1 : Type := Int × Int × Int × Int × Bool
def s1 : T1 → St := fun (v0, v1, v2, v3, v4) => ⟨44, 0, [(6, (.c (.ptr 64000000 0))), (9, (.c (.int .i64 v0))), (10, (.c (.int .i64 v1)))], [], [(256000000, .gone), (64000000, (.box [(.int .i64 v2), (.int .i64 v3), (.bool v4)]))]⟩
noncomputable def l1 ( k : Nat) (v : T1) : Option R := held (run (cs k) (loopN cs k) c1000010 (J1000010 k) (s1 v))
noncomputable def D1 (v : T1) : Option R := lim fun L => l1 (L 0) v
theorem D1_cn (v : T1) : Cn late (D1 v) fun L => l1 (L 0) v := of_lim
def d0 (trig_meets_k : trig_meets.A → Option trig_meets.R) (L1k : T1 → Option R) : T0 → Option R := fun (v0, v1, v2, v3, v4, v5, v6, v7, v8) =>
bnd (trig_meets_k (v3, v4, v5, wrap IntKind.i64 (v0 + 2147483648))) fun r => br r (L1k (-1073741824, v2, v6, v7, v8)) (L1k (v1, v2, v6, v7, v8))
theorem d0_cn {ι : Type} {E : Fil ι} {trig_meets_k : trig_meets.A → Option trig_meets.R} {trig_meets_k' : ι → trig_meets.A → Option trig_meets.R} (htrig_meets_k : ∀ v, Cn E (trig_meets_k v) fun i => trig_meets_k' i v) {L1k : T1 → Option R} {L1k' : ι → T1 → Option R} (hL1k : ∀ v, Cn E (L1k v) fun i => L1k' i v) : ∀ v : T0, Cn E (d0 trig_meets_k L1k v) fun i => d0 (trig_meets_k' i) (L1k' i) v := fun (v0, v1, v2, v3, v4, v5, v6, v7, v8) => (.bnd (htrig_meets_k _) fun _ => (.br (hL1k _) (hL1k _)))
theorem l0_b ( k : Nat) : ∀ v : T0, run (cs k) (loopN cs k) c1000008 (J1000008 k) (s0 v) = d0 (trig_meets.f k) (l1 k) v := fun (v0, v1, v2, v3, v4, v5, v6, v7, v8) => by kernel_rfl
theorem D0_of (v : T0) {r : R} (h : d0 trig_meets.F D1 v = some r) : D0 v = some r :=
  join_of (l := fun L => l0 (L 0) v) (d := fun L => d0 (trig_meets.f (L 0)) (l1 (L 0)) v) (fun L => (held_eq _).trans (l0_b (L 0) v)) (d0_cn (trig_meets.F_cn 0) (fun v => (D1_cn v).re [0]) v) h
def d1 (bound_Of_Fix_k : bound_Of_Fix.A → Option bound_Of_Fix.R) : T1 → Option R := fun (v0, v1, v2, v3, v4) =>
bnd (bound_Of_Fix_k (v0, v1)) fun r => some (r.fst, r.snd.fst, r.snd.snd)
theorem d1_cn {ι : Type} {E : Fil ι} {bound_Of_Fix_k : bound_Of_Fix.A → Option bound_Of_Fix.R} {bound_Of_Fix_k' : ι → bound_Of_Fix.A → Option bound_Of_Fix.R} (hbound_Of_Fix_k : ∀ v, Cn E (bound_Of_Fix_k v) fun i => bound_Of_Fix_k' i v) : ∀ v : T1, Cn E (d1 bound_Of_Fix_k v) fun i => d1 (bound_Of_Fix_k' i) v := fun (v0, v1, v2, v3, v4) => (.bnd (hbound_Of_Fix_k _) fun _ => .some)
theorem l1_b ( k : Nat) : ∀ v : T1, run (cs k) (loopN cs k) c1000010 (J1000010 k) (s1 v) = d1 (bound_Of_Fix.f k) v := fun (v0, v1, v2, v3, v4) => by kernel_rfl
theorem D1_of (v : T1) {r : R} (h : d1 bound_Of_Fix.F v = some r) : D1 v = some r :=
  join_of (l := fun L => l1 (L 0) v) (d := fun L => d1 (bound_Of_Fix.f (L 0)) v) (fun L => (held_eq _).trans (l1_b (L 0) v)) (d1_cn (bound_Of_Fix.F_cn 0) v) h
noncomputable def f (k : Nat) : A → Option R := fun (v0, v1, v2, v3) => held (runFn cs k Tryz.f65 [(.agg [(.int .i64 v0), (.int .i64 v1), (.bool v2)]), (.c (.func 66 [])), (.c (.int .i64 v3))] [] dec)
noncomputable def F (v : A) : Option R := lim fun L => f (L 0) v
theorem F_cn (x : Nat) (v : A) : Cn late (F v) fun L => f (L x) v := of_lim.re [x]
def d (bound_Norm_Arc_k : bound_Norm_Arc.A → Option bound_Norm_Arc.R) (bound_None_Fix_k : bound_None_Fix.A → Option bound_None_Fix.R) (trig_Cos_k : trig_Cos.A → Option trig_Cos.R) (trig_meets_k : trig_meets.A → Option trig_meets.R) (L0k : T0 → Option R) : A → Option R := fun (v0, v1, v2, v3) =>
bnd (bound_Norm_Arc_k (v0, v1, v2)) fun r =>
  br r.snd.snd (bnd (bound_None_Fix_k ()) fun r => some (r.fst, r.snd.fst, r.snd.snd))
    (bnd (trig_Cos_k r.fst) fun r_1 =>
      bnd (trig_Cos_k r.snd.fst) fun r_2 =>
        bnd (trig_meets_k (r.fst, r.snd.fst, r.snd.snd, v3)) fun r_3 =>
          br r_3 (L0k (v3, max (-1073741824) (wrap IntKind.i64 (min r_1 r_2 - 1)), 1073741824, r.fst, r.snd.fst, r.snd.snd, 0, 0, false))
            (L0k (v3, max (-1073741824) (wrap IntKind.i64 (min r_1 r_2 - 1)), min 1073741824 (wrap IntKind.i64 (max r_1 r_2 + 1)), r.fst, r.snd.fst, r.snd.snd, 0, 0, false)))
theorem d_cn {ι : Type} {E : Fil ι} {bound_Norm_Arc_k : bound_Norm_Arc.A → Option bound_Norm_Arc.R} {bound_Norm_Arc_k' : ι → bound_Norm_Arc.A → Option bound_Norm_Arc.R} (hbound_Norm_Arc_k : ∀ v, Cn E (bound_Norm_Arc_k v) fun i => bound_Norm_Arc_k' i v) {bound_None_Fix_k : bound_None_Fix.A → Option bound_None_Fix.R} {bound_None_Fix_k' : ι → bound_None_Fix.A → Option bound_None_Fix.R} (hbound_None_Fix_k : ∀ v, Cn E (bound_None_Fix_k v) fun i => bound_None_Fix_k' i v) {trig_Cos_k : trig_Cos.A → Option trig_Cos.R} {trig_Cos_k' : ι → trig_Cos.A → Option trig_Cos.R} (htrig_Cos_k : ∀ v, Cn E (trig_Cos_k v) fun i => trig_Cos_k' i v) {trig_meets_k : trig_meets.A → Option trig_meets.R} {trig_meets_k' : ι → trig_meets.A → Option trig_meets.R} (htrig_meets_k : ∀ v, Cn E (trig_meets_k v) fun i => trig_meets_k' i v) {L0k : T0 → Option R} {L0k' : ι → T0 → Option R} (hL0k : ∀ v, Cn E (L0k v) fun i => L0k' i v) : ∀ v : A, Cn E (d bound_Norm_Arc_k bound_None_Fix_k trig_Cos_k trig_meets_k L0k v) fun i => d (bound_Norm_Arc_k' i) (bound_None_Fix_k' i) (trig_Cos_k' i) (trig_meets_k' i) (L0k' i) v := fun (v0, v1, v2, v3) => (.bnd (hbound_Norm_Arc_k _) fun _ => (.br (.bnd (hbound_None_Fix_k _) fun _ => .some) (.bnd (htrig_Cos_k _) fun _ => (.bnd (htrig_Cos_k _) fun _ => (.bnd (htrig_meets_k _) fun _ => (.br (hL0k _) (hL0k _)))))))
theorem f_b (k : Nat) : ∀ v : A, f k v = d (bound_Norm_Arc.f k) (bound_None_Fix.f k) (trig_Cos.f k) (trig_meets.f k) (l0 k) v := fun (v0, v1, v2, v3) => (held_eq _).trans (by kernel_rfl)
theorem F_of (v : A) {r : R} (h : d bound_Norm_Arc.F bound_None_Fix.F trig_Cos.F trig_meets.F D0 v = some r) : F v = some r :=
  join_of (l := fun L => f (L 0) v) (d := fun L => d (bound_Norm_Arc.f (L 0)) (bound_None_Fix.f (L 0)) (trig_Cos.f (L 0)) (trig_meets.f (L 0)) (l0 (L 0)) v) (fun L => f_b (L 0) v) (d_cn (bound_Norm_Arc.F_cn 0) (bound_None_Fix.F_cn 0) (trig_Cos.F_cn 0) (trig_meets.F_cn 0) (fun v => (D0_cn v).re [0]) v) h
noncomputable def spec (k : Nat) (args : List AV) (ss : List Slot) : Option Ans :=
  match args, ss with
  | [(.agg [(.int .i64 v0), (.int .i64 v1), (.bool v2)]), (.c (.func 66 [])), (.c (.int .i64 v3))], [] => some ⟨R, f k (v0, v1, v2, v3), enc⟩
  | _, _ => none
theorem spec_ok (k : Nat) : SpecOk Tryz.prog 65 (spec k) := by
  intro args ss ans x h hx X σ w vals hp
  unfold spec at h
  split at h
  · cases h
    exact spec_of cs_ok Tryz.func65 rfl rfl dec_ok (held_eq _).symm hx hp
  · cases h
end trig_wave
noncomputable def t_trig_wave (k : Nat) := tcons 65 (trig_wave.spec k) (t_bound_Of_Fix k)
theorem t_trig_wave_ok (n g : Nat) : SpecOk Tryz.prog g (t_trig_wave n g) := tcons_ok (trig_wave.spec_ok n) (fun g => t_bound_Of_Fix_ok n g) g
namespace trig_CosBound
abbrev R : Type := Int × Int × Bool
abbrev A : Type := Int × Int × Bool
def lv : List (Nat × List Nat) := [(2000000, [2])]
noncomputable def cs : Nat → Ctx := ctxOf tis modes t_trig_wave lv
theorem cs_ok (n : Nat) : CtxOk Tryz.prog (cs n) := ctxOf_ok rfl tis_ok t_trig_wave_ok n
def enc (r : R) : Out := ((.agg [(.int .i64 r.1), (.int .i64 r.2.1), (.bool r.2.2)]), [])
def dec : Out → Option R
  | ((.agg [(.int .i64 v0), (.int .i64 v1), (.bool v2)]), []) => some (v0, v1, v2)
  | _ => none
theorem dec_ok : ∀ u y, dec u = some y → u = enc y := by
  intro u y h
  unfold dec at h
  split at h
  · cases h; rfl
  · cases h
noncomputable def b0 : Code := subF [] Tryz.f39
noncomputable def K0 (k : Nat) : Kt R := kTop (cs k) Tryz.f39 dec
noncomputable def f (k : Nat) : A → Option R := fun (v0, v1, v2) => held (runFn cs k Tryz.f39 [(.agg [(.int .i64 v0), (.int .i64 v1), (.bool v2)])] [] dec)
noncomputable def F (v : A) : Option R := lim fun L => f (L 0) v
theorem F_cn (x : Nat) (v : A) : Cn late (F v) fun L => f (L x) v := of_lim.re [x]
def d (trig_wave_k : trig_wave.A → Option trig_wave.R) : A → Option R := fun (v0, v1, v2) =>
bnd (trig_wave_k (v0, v1, v2, 0)) fun r => some (r.fst, r.snd.fst, r.snd.snd)
theorem d_cn {ι : Type} {E : Fil ι} {trig_wave_k : trig_wave.A → Option trig_wave.R} {trig_wave_k' : ι → trig_wave.A → Option trig_wave.R} (htrig_wave_k : ∀ v, Cn E (trig_wave_k v) fun i => trig_wave_k' i v) : ∀ v : A, Cn E (d trig_wave_k v) fun i => d (trig_wave_k' i) v := fun (v0, v1, v2) => (.bnd (htrig_wave_k _) fun _ => .some)
theorem f_b (k : Nat) : ∀ v : A, f k v = d (trig_wave.f k) v := fun (v0, v1, v2) => (held_eq _).trans (by kernel_rfl)
theorem F_of (v : A) {r : R} (h : d trig_wave.F v = some r) : F v = some r :=
  join_of (l := fun L => f (L 0) v) (d := fun L => d (trig_wave.f (L 0)) v) (fun L => f_b (L 0) v) (d_cn (trig_wave.F_cn 0) v) h
noncomputable def spec (k : Nat) (args : List AV) (ss : List Slot) : Option Ans :=
  match args, ss with
  | [(.agg [(.int .i64 v0), (.int .i64 v1), (.bool v2)])], [] => some ⟨R, f k (v0, v1, v2), enc⟩
  | _, _ => none
theorem spec_ok (k : Nat) : SpecOk Tryz.prog 39 (spec k) := by
  intro args ss ans x h hx X σ w vals hp
  unfold spec at h
  split at h
  · cases h
    exact spec_of cs_ok Tryz.func39 rfl rfl dec_ok (held_eq _).symm hx hp
  · cases h
end trig_CosBound
noncomputable def t_trig_CosBound (k : Nat) := tcons 39 (trig_CosBound.spec k) (t_trig_wave k)
theorem t_trig_CosBound_ok (n g : Nat) : SpecOk Tryz.prog g (t_trig_CosBound n g) := tcons_ok (trig_CosBound.spec_ok n) (fun g => t_trig_wave_ok n g) g
namespace bound_Exact_Fix
abbrev R : Type := Int × Int × Bool
abbrev A : Type := Int
def lv : List (Nat × List Nat) := [(2000000, [2])]
noncomputable def cs : Nat → Ctx := ctxOf tis modes t_trig_CosBound lv
theorem cs_ok (n : Nat) : CtxOk Tryz.prog (cs n) := ctxOf_ok rfl tis_ok t_trig_CosBound_ok n
def enc (r : R) : Out := ((.agg [(.int .i64 r.1), (.int .i64 r.2.1), (.bool r.2.2)]), [])
def dec : Out → Option R
  | ((.agg [(.int .i64 v0), (.int .i64 v1), (.bool v2)]), []) => some (v0, v1, v2)
  | _ => none
theorem dec_ok : ∀ u y, dec u = some y → u = enc y := by
  intro u y h
  unfold dec at h
  split at h
  · cases h; rfl
  · cases h
noncomputable def b0 : Code := subF [] Tryz.f43
noncomputable def K0 (k : Nat) : Kt R := kTop (cs k) Tryz.f43 dec
noncomputable def f (k : Nat) : A → Option R := fun v0 => held (runFn cs k Tryz.f43 [(.c (.int .i64 v0))] [] dec)
noncomputable def F (v : A) : Option R := lim fun L => f (L 0) v
theorem F_cn (x : Nat) (v : A) : Cn late (F v) fun L => f (L x) v := of_lim.re [x]
def d (bound_Of_Fix_k : bound_Of_Fix.A → Option bound_Of_Fix.R) : A → Option R := fun v0 =>
bnd (bound_Of_Fix_k (v0, v0)) fun r => some (r.fst, r.snd.fst, r.snd.snd)
theorem d_cn {ι : Type} {E : Fil ι} {bound_Of_Fix_k : bound_Of_Fix.A → Option bound_Of_Fix.R} {bound_Of_Fix_k' : ι → bound_Of_Fix.A → Option bound_Of_Fix.R} (hbound_Of_Fix_k : ∀ v, Cn E (bound_Of_Fix_k v) fun i => bound_Of_Fix_k' i v) : ∀ v : A, Cn E (d bound_Of_Fix_k v) fun i => d (bound_Of_Fix_k' i) v := fun v0 => (.bnd (hbound_Of_Fix_k _) fun _ => .some)
theorem f_b (k : Nat) : ∀ v : A, f k v = d (bound_Of_Fix.f k) v := fun v0 => (held_eq _).trans (by kernel_rfl)
theorem F_of (v : A) {r : R} (h : d bound_Of_Fix.F v = some r) : F v = some r :=
  join_of (l := fun L => f (L 0) v) (d := fun L => d (bound_Of_Fix.f (L 0)) v) (fun L => f_b (L 0) v) (d_cn (bound_Of_Fix.F_cn 0) v) h
noncomputable def spec (k : Nat) (args : List AV) (ss : List Slot) : Option Ans :=
  match args, ss with
  | [(.c (.int .i64 v0))], [] => some ⟨R, f k v0, enc⟩
  | _, _ => none
theorem spec_ok (k : Nat) : SpecOk Tryz.prog 43 (spec k) := by
  intro args ss ans x h hx X σ w vals hp
  unfold spec at h
  split at h
  · cases h
    exact spec_of cs_ok Tryz.func43 rfl rfl dec_ok (held_eq _).symm hx hp
  · cases h
end bound_Exact_Fix
noncomputable def t_bound_Exact_Fix (k : Nat) := tcons 43 (bound_Exact_Fix.spec k) (t_trig_CosBound k)
theorem t_bound_Exact_Fix_ok (n g : Nat) : SpecOk Tryz.prog g (t_bound_Exact_Fix n g) := tcons_ok (bound_Exact_Fix.spec_ok n) (fun g => t_trig_CosBound_ok n g) g
namespace bound_vague_Fix
abbrev R : Type := Bool
abbrev A : Type := Int × Int × Bool × Int × Int × Bool
def lv : List (Nat × List Nat) := [(2000000, [4])]
noncomputable def cs : Nat → Ctx := ctxOf tis modes t_bound_Exact_Fix lv
theorem cs_ok (n : Nat) : CtxOk Tryz.prog (cs n) := ctxOf_ok rfl tis_ok t_bound_Exact_Fix_ok n
def enc (r : R) : Out := ((.c (.bool r)), [])
def dec : Out → Option R
  | ((.c (.bool v0)), []) => some v0
  | _ => none
theorem dec_ok : ∀ u y, dec u = some y → u = enc y := by
  intro u y h
  unfold dec at h
  split at h
  · cases h; rfl
  · cases h
noncomputable def b0 : Code := subF [] Tryz.f64
noncomputable def K0 (k : Nat) : Kt R := kTop (cs k) Tryz.f64 dec
noncomputable def f (k : Nat) : A → Option R := fun (v0, v1, v2, v3, v4, v5) => held (runFn cs k Tryz.f64 [(.agg [(.int .i64 v0), (.int .i64 v1), (.bool v2)]), (.agg [(.int .i64 v3), (.int .i64 v4), (.bool v5)])] [] dec)
noncomputable def F (v : A) : Option R := lim fun L => f (L 0) v
theorem F_cn (x : Nat) (v : A) : Cn late (F v) fun L => f (L x) v := of_lim.re [x]
def d (bound_Norm_Fix_k : bound_Norm_Fix.A → Option bound_Norm_Fix.R) : A → Option R := fun (v0, v1, v2, v3, v4, v5) =>
bnd (bound_Norm_Fix_k (v0, v1, v2)) fun r => br (r.snd.snd == false) (bnd (bound_Norm_Fix_k (v3, v4, v5)) fun r => some r.snd.snd) (some true)
theorem d_cn {ι : Type} {E : Fil ι} {bound_Norm_Fix_k : bound_Norm_Fix.A → Option bound_Norm_Fix.R} {bound_Norm_Fix_k' : ι → bound_Norm_Fix.A → Option bound_Norm_Fix.R} (hbound_Norm_Fix_k : ∀ v, Cn E (bound_Norm_Fix_k v) fun i => bound_Norm_Fix_k' i v) : ∀ v : A, Cn E (d bound_Norm_Fix_k v) fun i => d (bound_Norm_Fix_k' i) v := fun (v0, v1, v2, v3, v4, v5) => (.bnd (hbound_Norm_Fix_k _) fun _ => (.br (.bnd (hbound_Norm_Fix_k _) fun _ => .some) .some))
theorem f_b (k : Nat) : ∀ v : A, f k v = d (bound_Norm_Fix.f k) v := fun (v0, v1, v2, v3, v4, v5) => (held_eq _).trans (by kernel_rfl)
theorem F_of (v : A) {r : R} (h : d bound_Norm_Fix.F v = some r) : F v = some r :=
  join_of (l := fun L => f (L 0) v) (d := fun L => d (bound_Norm_Fix.f (L 0)) v) (fun L => f_b (L 0) v) (d_cn (bound_Norm_Fix.F_cn 0) v) h
noncomputable def spec (k : Nat) (args : List AV) (ss : List Slot) : Option Ans :=
  match args, ss with
  | [(.agg [(.int .i64 v0), (.int .i64 v1), (.bool v2)]), (.agg [(.int .i64 v3), (.int .i64 v4), (.bool v5)])], [] => some ⟨R, f k (v0, v1, v2, v3, v4, v5), enc⟩
  | _, _ => none
theorem spec_ok (k : Nat) : SpecOk Tryz.prog 64 (spec k) := by
  intro args ss ans x h hx X σ w vals hp
  unfold spec at h
  split at h
  · cases h
    exact spec_of cs_ok Tryz.func64 rfl rfl dec_ok (held_eq _).symm hx hp
  · cases h
end bound_vague_Fix
noncomputable def t_bound_vague_Fix (k : Nat) := tcons 64 (bound_vague_Fix.spec k) (t_bound_Exact_Fix k)
theorem t_bound_vague_Fix_ok (n g : Nat) : SpecOk Tryz.prog g (t_bound_vague_Fix n g) := tcons_ok (bound_vague_Fix.spec_ok n) (fun g => t_bound_Exact_Fix_ok n g) g
namespace bound_Mul_FixS1
abbrev R : Type := Int × Int × Int
abbrev A : Type := Int × Int × Int
def lv : List (Nat × List Nat) := [(2000000, [5, 6])]
noncomputable def cs : Nat → Ctx := ctxOf tis modes t_bound_vague_Fix lv
theorem cs_ok (n : Nat) : CtxOk Tryz.prog (cs n) := ctxOf_ok rfl tis_ok t_bound_vague_Fix_ok n
def enc (r : R) : Out := ((.tup [(.c (.int .i64 r.1)), (.c (.int .i64 r.2.1))]), [(.box [(.int .i64 r.2.2)])])
def dec : Out → Option R
  | ((.tup [(.c (.int .i64 v0)), (.c (.int .i64 v1))]), [(.box [(.int .i64 v2)])]) => some (v0, v1, v2)
  | _ => none
theorem dec_ok : ∀ u y, dec u = some y → u = enc y := by
  intro u y h
  unfold dec at h
  split at h
  · cases h; rfl
  · cases h
noncomputable def b0 : Code := subF [] Tryz.f69
noncomputable def K0 (k : Nat) : Kt R := kTop (cs k) Tryz.f69 dec
noncomputable def f (k : Nat) : A → Option R := fun (v0, v1, v2) => held (runFn cs k Tryz.f69 [(.c (.int .i64 v0)), (.c (.int .i64 v1)), (.c (.ptr 128000000 0))] [(.box [(.int .i64 v2)])] dec)
noncomputable def F (v : A) : Option R := lim fun L => f (L 0) v
theorem F_cn (x : Nat) (v : A) : Cn late (F v) fun L => f (L x) v := of_lim.re [x]
def d (num_MulDiv_k : num_MulDiv.A → Option num_MulDiv.R) : A → Option R := fun (v0, v1, v2) =>
bnd (num_MulDiv_k (v0, v1, v2)) fun r => some (r.fst, r.snd, v2)
theorem d_cn {ι : Type} {E : Fil ι} {num_MulDiv_k : num_MulDiv.A → Option num_MulDiv.R} {num_MulDiv_k' : ι → num_MulDiv.A → Option num_MulDiv.R} (hnum_MulDiv_k : ∀ v, Cn E (num_MulDiv_k v) fun i => num_MulDiv_k' i v) : ∀ v : A, Cn E (d num_MulDiv_k v) fun i => d (num_MulDiv_k' i) v := fun (v0, v1, v2) => (.bnd (hnum_MulDiv_k _) fun _ => .some)
theorem f_b (k : Nat) : ∀ v : A, f k v = d (num_MulDiv.f k) v := fun (v0, v1, v2) => (held_eq _).trans (by kernel_rfl)
theorem F_of (v : A) {r : R} (h : d num_MulDiv.F v = some r) : F v = some r :=
  join_of (l := fun L => f (L 0) v) (d := fun L => d (num_MulDiv.f (L 0)) v) (fun L => f_b (L 0) v) (d_cn (num_MulDiv.F_cn 0) v) h
noncomputable def spec (k : Nat) (args : List AV) (ss : List Slot) : Option Ans :=
  match args, ss with
  | [(.c (.int .i64 v0)), (.c (.int .i64 v1)), (.c (.ptr 128000000 0))], [(.box [(.int .i64 v2)])] => some ⟨R, f k (v0, v1, v2), enc⟩
  | _, _ => none
theorem spec_ok (k : Nat) : SpecOk Tryz.prog 69 (spec k) := by
  intro args ss ans x h hx X σ w vals hp
  unfold spec at h
  split at h
  · cases h
    exact spec_of cs_ok Tryz.func69 rfl rfl dec_ok (held_eq _).symm hx hp
  · cases h
end bound_Mul_FixS1
noncomputable def t_bound_Mul_FixS1 (k : Nat) := tcons 69 (bound_Mul_FixS1.spec k) (t_bound_vague_Fix k)
theorem t_bound_Mul_FixS1_ok (n g : Nat) : SpecOk Tryz.prog g (t_bound_Mul_FixS1 n g) := tcons_ok (bound_Mul_FixS1.spec_ok n) (fun g => t_bound_vague_Fix_ok n g) g
namespace bound_Mul_FixS2
abbrev R : Type := Int × Int × Int
abbrev A : Type := Int × Int × Int
def lv : List (Nat × List Nat) := [(2000000, [5, 6])]
noncomputable def cs : Nat → Ctx := ctxOf tis modes t_bound_Mul_FixS1 lv
theorem cs_ok (n : Nat) : CtxOk Tryz.prog (cs n) := ctxOf_ok rfl tis_ok t_bound_Mul_FixS1_ok n
def enc (r : R) : Out := ((.tup [(.c (.int .i64 r.1)), (.c (.int .i64 r.2.1))]), [(.box [(.int .i64 r.2.2)])])
def dec : Out → Option R
  | ((.tup [(.c (.int .i64 v0)), (.c (.int .i64 v1))]), [(.box [(.int .i64 v2)])]) => some (v0, v1, v2)
  | _ => none
theorem dec_ok : ∀ u y, dec u = some y → u = enc y := by
  intro u y h
  unfold dec at h
  split at h
  · cases h; rfl
  · cases h
noncomputable def b0 : Code := subF [] Tryz.f70
noncomputable def K0 (k : Nat) : Kt R := kTop (cs k) Tryz.f70 dec
noncomputable def f (k : Nat) : A → Option R := fun (v0, v1, v2) => held (runFn cs k Tryz.f70 [(.c (.int .i64 v0)), (.c (.int .i64 v1)), (.c (.ptr 128000000 0))] [(.box [(.int .i64 v2)])] dec)
noncomputable def F (v : A) : Option R := lim fun L => f (L 0) v
theorem F_cn (x : Nat) (v : A) : Cn late (F v) fun L => f (L x) v := of_lim.re [x]
def d (num_MulDivUp_k : num_MulDivUp.A → Option num_MulDivUp.R) : A → Option R := fun (v0, v1, v2) =>
bnd (num_MulDivUp_k (v0, v1, v2)) fun r => some (r.fst, r.snd, v2)
theorem d_cn {ι : Type} {E : Fil ι} {num_MulDivUp_k : num_MulDivUp.A → Option num_MulDivUp.R} {num_MulDivUp_k' : ι → num_MulDivUp.A → Option num_MulDivUp.R} (hnum_MulDivUp_k : ∀ v, Cn E (num_MulDivUp_k v) fun i => num_MulDivUp_k' i v) : ∀ v : A, Cn E (d num_MulDivUp_k v) fun i => d (num_MulDivUp_k' i) v := fun (v0, v1, v2) => (.bnd (hnum_MulDivUp_k _) fun _ => .some)
theorem f_b (k : Nat) : ∀ v : A, f k v = d (num_MulDivUp.f k) v := fun (v0, v1, v2) => (held_eq _).trans (by kernel_rfl)
theorem F_of (v : A) {r : R} (h : d num_MulDivUp.F v = some r) : F v = some r :=
  join_of (l := fun L => f (L 0) v) (d := fun L => d (num_MulDivUp.f (L 0)) v) (fun L => f_b (L 0) v) (d_cn (num_MulDivUp.F_cn 0) v) h
noncomputable def spec (k : Nat) (args : List AV) (ss : List Slot) : Option Ans :=
  match args, ss with
  | [(.c (.int .i64 v0)), (.c (.int .i64 v1)), (.c (.ptr 128000000 0))], [(.box [(.int .i64 v2)])] => some ⟨R, f k (v0, v1, v2), enc⟩
  | _, _ => none
theorem spec_ok (k : Nat) : SpecOk Tryz.prog 70 (spec k) := by
  intro args ss ans x h hx X σ w vals hp
  unfold spec at h
  split at h
  · cases h
    exact spec_of cs_ok Tryz.func70 rfl rfl dec_ok (held_eq _).symm hx hp
  · cases h
end bound_Mul_FixS2
noncomputable def t_bound_Mul_FixS2 (k : Nat) := tcons 70 (bound_Mul_FixS2.spec k) (t_bound_Mul_FixS1 k)
theorem t_bound_Mul_FixS2_ok (n g : Nat) : SpecOk Tryz.prog g (t_bound_Mul_FixS2 n g) := tcons_ok (bound_Mul_FixS2.spec_ok n) (fun g => t_bound_Mul_FixS1_ok n g) g
end Go.Proofs.RWin
