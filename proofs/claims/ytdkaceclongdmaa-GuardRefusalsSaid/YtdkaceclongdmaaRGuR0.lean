import Derived.Test.YtdkaceclongdmaaEC
import Derived.Test.YtdkaceclongdmaaProg
namespace Go.Proofs.RGuR
open Go Go.Eng Go.Proofs
set_option maxRecDepth 100000
set_option linter.unusedVariables false
def tis : List (Nat × TI) := [(0, ⟨.true, .other, .false, 0, [], .false, [], none, []⟩), (1, ⟨.true, .func, .false, 8, [], .false, [], none, []⟩), (2, ⟨.true, (.int .i64), .false, 8, [], .false, [], none, []⟩), (3, ⟨.true, (.int .i64), .false, 8, [], .false, [], none, []⟩), (4, ⟨.true, .bool, .false, 1, [], .false, [], none, []⟩), (5, ⟨.true, (.int .u8), .false, 1, [], .false, [], none, []⟩), (6, ⟨.true, (.int .u8), .false, 1, [], .false, [], none, []⟩), (7, ⟨.true, (.pair (.int .i64) (.pair (.int .i64) (.pair .bool (.int .u8)))), .true, 24, [(0, 1), (1, 1), (2, 1), (3, 1)], .true, [(some .false), (some .false), (some .false), (some .false)], none, []⟩), (8, ⟨.true, (.pair (.int .i64) (.pair (.int .i64) (.pair .bool (.int .u8)))), .true, 24, [(0, 1), (1, 1), (2, 1), (3, 1)], .true, [(some .false), (some .false), (some .false), (some .false)], none, []⟩), (9, ⟨.true, .str, .false, 16, [], .false, [], none, []⟩), (10, ⟨.true, .str, .false, 16, [], .false, [], none, []⟩), (11, ⟨.true, .str, .false, 16, [], .false, [], none, []⟩), (12, ⟨.true, (.int .u64), .false, 8, [], .false, [], none, []⟩), (13, ⟨.true, (.pair .str (.int .u64)), .true, 24, [(0, 1), (1, 1)], .false, [(some .false), (some .false)], none, []⟩), (14, ⟨.true, (.pair .str (.int .u64)), .true, 24, [(0, 1), (1, 1)], .false, [(some .false), (some .false)], none, []⟩), (15, ⟨.true, .ptr, .false, 8, [], .false, [], none, []⟩), (16, ⟨.true, .ptr, .false, 8, [], .false, [], none, []⟩), (17, ⟨.true, .ptr, .false, 8, [], .false, [], none, []⟩), (18, ⟨.true, (.pair .ptr .unit), .true, 8, [(0, 1)], .false, [(some .false)], none, []⟩), (19, ⟨.true, (.pair .ptr .unit), .true, 8, [(0, 1)], .false, [(some .false)], none, []⟩), (20, ⟨.true, .other, .false, 16, [], .false, [], none, []⟩), (21, ⟨.true, (.int .i32), .false, 4, [], .false, [], none, []⟩), (22, ⟨.true, (.slice (.int .i64)), .false, 8, [], .false, [], none, []⟩), (23, ⟨.true, .func, .false, 8, [], .false, [], none, []⟩), (24, ⟨.true, .ptr, .false, 8, [], .false, [], none, []⟩), (25, ⟨.true, (.pair (.slice (.int .i64)) (.int .i64)), .true, 32, [(0, 1), (1, 1)], .false, [(some .false), (some .false)], none, []⟩), (26, ⟨.true, (.pair (.slice (.int .i64)) (.int .i64)), .true, 32, [(0, 1), (1, 1)], .false, [(some .false), (some .false)], none, []⟩), (27, ⟨.true, (.pair (.int .i64) (.pair (.int .i64) (.pair (.int .i64) (.int .i64)))), .true, 32, [(0, 1), (1, 1), (2, 1), (3, 1)], .true, [(some .false), (some .false), (some .false), (some .false)], none, []⟩), (28, ⟨.true, (.pair (.int .i64) (.pair (.int .i64) (.pair (.int .i64) (.int .i64)))), .true, 32, [(0, 1), (1, 1), (2, 1), (3, 1)], .true, [(some .false), (some .false), (some .false), (some .false)], none, []⟩), (29, ⟨.true, (.pair (.int .i64) (.int .i64)), .true, 16, [(0, 1), (1, 1)], .true, [(some .false), (some .false)], none, []⟩), (30, ⟨.true, (.pair (.int .i64) (.int .i64)), .true, 16, [(0, 1), (1, 1)], .true, [(some .false), (some .false)], none, []⟩), (31, ⟨.true, (.pair (.pair (.int .i64) (.pair (.int .i64) (.pair (.int .i64) (.int .i64)))) (.pair (.pair (.int .i64) (.pair (.int .i64) (.pair (.int .i64) (.int .i64)))) (.pair (.int .i64) (.int .i64)))), .true, 80, [(0, 4), (4, 4), (8, 2)], .true, [(some .true), (some .true), (some .true)], none, []⟩), (32, ⟨.true, (.pair (.pair (.int .i64) (.pair (.int .i64) (.pair (.int .i64) (.int .i64)))) (.pair (.pair (.int .i64) (.pair (.int .i64) (.pair (.int .i64) (.int .i64)))) (.pair (.int .i64) (.int .i64)))), .true, 80, [(0, 4), (4, 4), (8, 2)], .true, [(some .true), (some .true), (some .true)], none, []⟩), (33, ⟨.true, .func, .false, 8, [], .false, [], none, []⟩), (34, ⟨.true, (.slice (.pair (.slice (.pair (.int .i64) (.int .i64))) (.pair .bool (.pair .bool (.pair .bool (.pair .bool .bool)))))), .false, 32, [], .false, [], none, []⟩), (35, ⟨.true, .func, .false, 8, [], .false, [], none, []⟩), (36, ⟨.true, (.slice (.pair (.pair (.pair (.int .i64) (.pair (.int .i64) (.pair (.int .i64) .bool))) (.pair (.pair (.int .i64) (.pair (.int .i64) (.pair (.int .i64) .bool))) (.int .i64))) (.pair (.pair (.int .i64) (.pair (.int .i64) (.pair .bool (.pair .bool (.pair (.int .i64) (.pair (.int .i64) (.pair (.int .i64) .bool))))))) (.pair (.pair (.int .i64) (.pair (.int .i64) (.pair (.int .i64) (.int .i64)))) (.pair (.pair .bool (.pair .bool (.pair .bool (.pair .bool .bool)))) (.pair (.pair (.int .i64) (.int .i64)) (.pair (.int .i64) (.pair (.int .i64) (.int .i64))))))))), .false, 208, [], .false, [], none, []⟩), (37, ⟨.true, (.slice (.int .i64)), .false, 8, [], .false, [], none, []⟩), (38, ⟨.true, (.int .i64), .false, 8, [], .false, [], none, []⟩), (39, ⟨.true, .other, .false, 0, [], .false, [], none, []⟩), (40, ⟨.true, .func, .false, 8, [], .false, [], none, []⟩), (41, ⟨.true, (.pair (.int .i64) (.pair (.int .i64) (.pair (.int .i64) .bool))), .true, 32, [(0, 1), (1, 1), (2, 1), (3, 1)], .true, [(some .false), (some .false), (some .false), (some .false)], none, []⟩), (42, ⟨.true, (.pair (.int .i64) (.pair (.int .i64) (.pair (.int .i64) .bool))), .true, 32, [(0, 1), (1, 1), (2, 1), (3, 1)], .true, [(some .false), (some .false), (some .false), (some .false)], none, []⟩), (43, ⟨.true, (.pair (.pair (.int .i64) (.pair (.int .i64) (.pair (.int .i64) .bool))) (.pair (.pair (.int .i64) (.pair (.int .i64) (.pair (.int .i64) .bool))) (.int .i64))), .true, 72, [(0, 4), (4, 4), (8, 1)], .true, [(some .true), (some .true), (some .false)], none, []⟩), (44, ⟨.true, (.pair (.pair (.int .i64) (.pair (.int .i64) (.pair (.int .i64) .bool))) (.pair (.pair (.int .i64) (.pair (.int .i64) (.pair (.int .i64) .bool))) (.int .i64))), .true, 72, [(0, 4), (4, 4), (8, 1)], .true, [(some .true), (some .true), (some .false)], none, []⟩), (45, ⟨.true, (.pair (.int .i64) (.pair (.int .i64) (.pair .bool (.pair .bool (.pair (.int .i64) (.pair (.int .i64) (.pair (.int .i64) .bool))))))), .true, 56, [(0, 1), (1, 1), (2, 1), (3, 1), (4, 4)], .true, [(some .false), (some .false), (some .false), (some .false), (some .true)], none, []⟩), (46, ⟨.true, (.pair (.int .i64) (.pair (.int .i64) (.pair .bool (.pair .bool (.pair (.int .i64) (.pair (.int .i64) (.pair (.int .i64) .bool))))))), .true, 56, [(0, 1), (1, 1), (2, 1), (3, 1), (4, 4)], .true, [(some .false), (some .false), (some .false), (some .false), (some .true)], none, []⟩), (47, ⟨.true, (.pair (.int .i64) (.pair (.int .i64) (.pair (.int .i64) (.int .i64)))), .true, 32, [(0, 1), (1, 1), (2, 1), (3, 1)], .true, [(some .false), (some .false), (some .false), (some .false)], none, []⟩), (48, ⟨.true, (.pair (.int .i64) (.pair (.int .i64) (.pair (.int .i64) (.int .i64)))), .true, 32, [(0, 1), (1, 1), (2, 1), (3, 1)], .true, [(some .false), (some .false), (some .false), (some .false)], none, []⟩), (49, ⟨.true, (.pair .bool (.pair .bool (.pair .bool (.pair .bool .bool)))), .true, 5, [(0, 1), (1, 1), (2, 1), (3, 1), (4, 1)], .true, [(some .false), (some .false), (some .false), (some .false), (some .false)], none, []⟩), (50, ⟨.true, (.pair .bool (.pair .bool (.pair .bool (.pair .bool .bool)))), .true, 5, [(0, 1), (1, 1), (2, 1), (3, 1), (4, 1)], .true, [(some .false), (some .false), (some .false), (some .false), (some .false)], none, []⟩), (51, ⟨.true, (.pair (.pair (.pair (.int .i64) (.pair (.int .i64) (.pair (.int .i64) .bool))) (.pair (.pair (.int .i64) (.pair (.int .i64) (.pair (.int .i64) .bool))) (.int .i64))) (.pair (.pair (.int .i64) (.pair (.int .i64) (.pair .bool (.pair .bool (.pair (.int .i64) (.pair (.int .i64) (.pair (.int .i64) .bool))))))) (.pair (.pair (.int .i64) (.pair (.int .i64) (.pair (.int .i64) (.int .i64)))) (.pair (.pair .bool (.pair .bool (.pair .bool (.pair .bool .bool)))) (.pair (.pair (.int .i64) (.int .i64)) (.pair (.int .i64) (.pair (.int .i64) (.int .i64)))))))), .true, 208, [(0, 9), (9, 8), (17, 4), (21, 5), (26, 2), (28, 1), (29, 1), (30, 1)], .true, [(some .true), (some .true), (some .true), (some .true), (some .true), (some .false), (some .false), (some .false)], none, []⟩), (52, ⟨.true, (.pair (.pair (.pair (.int .i64) (.pair (.int .i64) (.pair (.int .i64) .bool))) (.pair (.pair (.int .i64) (.pair (.int .i64) (.pair (.int .i64) .bool))) (.int .i64))) (.pair (.pair (.int .i64) (.pair (.int .i64) (.pair .bool (.pair .bool (.pair (.int .i64) (.pair (.int .i64) (.pair (.int .i64) .bool))))))) (.pair (.pair (.int .i64) (.pair (.int .i64) (.pair (.int .i64) (.int .i64)))) (.pair (.pair .bool (.pair .bool (.pair .bool (.pair .bool .bool)))) (.pair (.pair (.int .i64) (.int .i64)) (.pair (.int .i64) (.pair (.int .i64) (.int .i64)))))))), .true, 208, [(0, 9), (9, 8), (17, 4), (21, 5), (26, 2), (28, 1), (29, 1), (30, 1)], .true, [(some .true), (some .true), (some .true), (some .true), (some .true), (some .false), (some .false), (some .false)], none, []⟩), (53, ⟨.true, .func, .false, 8, [], .false, [], none, []⟩), (54, ⟨.true, (.slice (.pair (.int .i64) (.int .i64))), .false, 16, [], .false, [], none, []⟩), (55, ⟨.true, (.pair (.slice (.pair (.int .i64) (.int .i64))) (.pair .bool (.pair .bool (.pair .bool (.pair .bool .bool))))), .true, 32, [(0, 1), (1, 5)], .false, [(some .false), (some .true)], none, []⟩), (56, ⟨.true, (.pair (.slice (.pair (.int .i64) (.int .i64))) (.pair .bool (.pair .bool (.pair .bool (.pair .bool .bool))))), .true, 32, [(0, 1), (1, 5)], .false, [(some .false), (some .true)], none, []⟩), (57, ⟨.true, (.pair (.int .i64) (.int .i64)), .true, 16, [(0, 1), (1, 1)], .true, [(some .false), (some .false)], none, []⟩), (58, ⟨.true, (.pair (.int .i64) (.int .i64)), .true, 16, [(0, 1), (1, 1)], .true, [(some .false), (some .false)], none, []⟩), (59, ⟨.true, .func, .false, 8, [], .false, [], none, []⟩), (60, ⟨.true, .func, .false, 8, [], .false, [], none, []⟩), (61, ⟨.true, .func, .false, 8, [], .false, [], none, []⟩), (62, ⟨.true, .func, .false, 8, [], .false, [], none, []⟩), (63, ⟨.true, .func, .false, 8, [], .false, [], none, []⟩), (64, ⟨.true, .other, .false, 0, [], .false, [], none, []⟩), (65, ⟨.true, .func, .false, 8, [], .false, [], none, []⟩), (66, ⟨.true, .func, .false, 8, [], .false, [], none, []⟩), (67, ⟨.true, .func, .false, 8, [], .false, [], none, []⟩), (68, ⟨.true, .func, .false, 8, [], .false, [], none, []⟩), (69, ⟨.true, .func, .false, 8, [], .false, [], none, []⟩), (70, ⟨.true, .func, .false, 8, [], .false, [], none, []⟩), (71, ⟨.true, .func, .false, 8, [], .false, [], none, []⟩), (72, ⟨.true, .func, .false, 8, [], .false, [], none, []⟩), (73, ⟨.true, .func, .false, 8, [], .false, [], none, []⟩), (74, ⟨.true, .func, .false, 8, [], .false, [], none, []⟩), (75, ⟨.true, .func, .false, 8, [], .false, [], none, []⟩), (76, ⟨.true, .func, .false, 8, [], .false, [], none, []⟩), (77, ⟨.true, .func, .false, 8, [], .false, [], none, []⟩), (78, ⟨.true, .func, .false, 8, [], .false, [], none, []⟩), (79, ⟨.true, .func, .false, 8, [], .false, [], none, []⟩), (80, ⟨.true, .func, .false, 8, [], .false, [], none, []⟩), (81, ⟨.true, .func, .false, 8, [], .false, [], none, []⟩), (82, ⟨.true, .func, .false, 8, [], .false, [], none, []⟩), (83, ⟨.true, (.int .u64), .false, 8, [], .false, [], none, []⟩), (84, ⟨.true, .func, .false, 8, [], .false, [], none, []⟩), (85, ⟨.true, .func, .false, 8, [], .false, [], none, []⟩), (86, ⟨.true, .func, .false, 8, [], .false, [], none, []⟩), (87, ⟨.true, .func, .false, 8, [], .false, [], none, []⟩), (88, ⟨.true, .func, .false, 8, [], .false, [], none, []⟩), (89, ⟨.true, .func, .false, 8, [], .false, [], none, []⟩), (90, ⟨.true, .func, .false, 8, [], .false, [], none, []⟩), (91, ⟨.true, .func, .false, 8, [], .false, [], none, []⟩), (92, ⟨.true, .func, .false, 8, [], .false, [], none, []⟩), (93, ⟨.true, .other, .false, 0, [], .false, [], none, []⟩), (94, ⟨.true, .func, .false, 8, [], .false, [], none, []⟩), (95, ⟨.true, .func, .false, 8, [], .false, [], none, []⟩), (96, ⟨.true, .other, .false, 0, [], .false, [], none, []⟩), (97, ⟨.true, .func, .false, 8, [], .false, [], none, []⟩), (98, ⟨.true, .func, .false, 8, [], .false, [], none, []⟩), (99, ⟨.true, .func, .false, 8, [], .false, [], none, []⟩), (100, ⟨.true, .func, .false, 8, [], .false, [], none, []⟩), (101, ⟨.true, .other, .false, 0, [], .false, [], none, []⟩), (102, ⟨.true, .func, .false, 8, [], .false, [], none, []⟩), (103, ⟨.true, .other, .false, 0, [], .false, [], none, []⟩), (104, ⟨.true, .func, .false, 8, [], .false, [], none, []⟩), (105, ⟨.true, .func, .false, 8, [], .false, [], none, []⟩), (106, ⟨.true, .func, .false, 8, [], .false, [], none, []⟩), (107, ⟨.true, .func, .false, 8, [], .false, [], none, []⟩), (108, ⟨.true, .func, .false, 8, [], .false, [], none, []⟩), (109, ⟨.true, .func, .false, 8, [], .false, [], none, []⟩), (110, ⟨.true, .func, .false, 8, [], .false, [], none, []⟩), (111, ⟨.true, .other, .false, 0, [], .false, [], none, []⟩), (112, ⟨.true, .func, .false, 8, [], .false, [], none, []⟩), (113, ⟨.true, .other, .false, 0, [], .false, [], none, []⟩), (114, ⟨.true, .func, .false, 8, [], .false, [], none, []⟩), (115, ⟨.true, (.int .i64), .false, 8, [], .false, [], none, []⟩), (116, ⟨.true, .func, .false, 8, [], .false, [], none, []⟩), (117, ⟨.true, .func, .false, 8, [], .false, [], none, []⟩), (118, ⟨.true, .func, .false, 8, [], .false, [], none, []⟩), (119, ⟨.true, .func, .false, 8, [], .false, [], none, []⟩), (120, ⟨.true, .func, .false, 8, [], .false, [], none, []⟩), (121, ⟨.true, .func, .false, 8, [], .false, [], none, []⟩), (122, ⟨.true, .func, .false, 8, [], .false, [], none, []⟩), (123, ⟨.true, .func, .false, 8, [], .false, [], none, []⟩), (124, ⟨.true, .func, .false, 8, [], .false, [], none, []⟩), (125, ⟨.true, (.pair .ptr (.pair .ptr (.pair .ptr .str))), .true, 40, [(0, 1), (1, 1), (2, 1), (3, 1)], .false, [(some .false), (some .false), (some .false), (some .false)], none, []⟩), (126, ⟨.true, (.pair .ptr (.pair .ptr (.pair .ptr .str))), .true, 40, [(0, 1), (1, 1), (2, 1), (3, 1)], .false, [(some .false), (some .false), (some .false), (some .false)], none, []⟩), (130, ⟨.true, .func, .false, 8, [], .false, [], none, []⟩), (131, ⟨.true, (.int .u32), .false, 4, [], .false, [], none, []⟩), (132, ⟨.true, (.int .u8), .false, 1, [], .false, [], none, []⟩), (133, ⟨.true, (.int .u8), .false, 1, [], .false, [], none, []⟩), (134, ⟨.true, .func, .false, 8, [], .false, [], none, []⟩), (135, ⟨.true, .ptr, .false, 8, [], .false, [], none, []⟩), (136, ⟨.true, (.int .i32), .false, 4, [], .false, [], none, []⟩), (137, ⟨.true, (.int .i32), .false, 4, [], .false, [], none, []⟩), (138, ⟨.true, (.pair (.int .u64) (.pair (.int .u64) (.pair (.int .u32) (.pair (.int .u8) (.pair (.int .u8) (.pair (.int .u8) (.pair (.int .u8) (.pair .func (.pair .ptr (.pair (.int .i32) (.int .i32))))))))))), .true, 48, [(0, 1), (1, 1), (2, 1), (3, 1), (4, 1), (5, 1), (6, 1), (7, 1), (8, 1), (9, 1), (10, 1)], .false, [(some .false), (some .false), (some .false), (some .false), (some .false), (some .false), (some .false), (some .false), (some .false), (some .false), (some .false)], none, []⟩), (139, ⟨.true, (.pair (.int .u64) (.pair (.int .u64) (.pair (.int .u32) (.pair (.int .u8) (.pair (.int .u8) (.pair (.int .u8) (.pair (.int .u8) (.pair .func (.pair .ptr (.pair (.int .i32) (.int .i32))))))))))), .true, 48, [(0, 1), (1, 1), (2, 1), (3, 1), (4, 1), (5, 1), (6, 1), (7, 1), (8, 1), (9, 1), (10, 1)], .false, [(some .false), (some .false), (some .false), (some .false), (some .false), (some .false), (some .false), (some .false), (some .false), (some .false), (some .false)], none, []⟩), (140, ⟨.true, .other, .false, 8, [], .false, [], none, []⟩)]
theorem tis_ok : tisOk Try.prog tis = true := by kernel_rfl
def modes : List (Nat × List (Nat × Ty)) := [(8, [(2, (.slice (.pair (.slice (.pair (.int .i64) (.int .i64))) (.pair .bool (.pair .bool (.pair .bool (.pair .bool .bool)))))))]), (10, [(0, (.slice (.pair (.pair (.pair (.int .i64) (.pair (.int .i64) (.pair (.int .i64) .bool))) (.pair (.pair (.int .i64) (.pair (.int .i64) (.pair (.int .i64) .bool))) (.int .i64))) (.pair (.pair (.int .i64) (.pair (.int .i64) (.pair .bool (.pair .bool (.pair (.int .i64) (.pair (.int .i64) (.pair (.int .i64) .bool))))))) (.pair (.pair (.int .i64) (.pair (.int .i64) (.pair (.int .i64) (.int .i64)))) (.pair (.pair .bool (.pair .bool (.pair .bool (.pair .bool .bool)))) (.pair (.pair (.int .i64) (.int .i64)) (.pair (.int .i64) (.pair (.int .i64) (.int .i64)))))))))), (1, (.slice (.pair (.pair (.pair (.int .i64) (.pair (.int .i64) (.pair (.int .i64) .bool))) (.pair (.pair (.int .i64) (.pair (.int .i64) (.pair (.int .i64) .bool))) (.int .i64))) (.pair (.pair (.int .i64) (.pair (.int .i64) (.pair .bool (.pair .bool (.pair (.int .i64) (.pair (.int .i64) (.pair (.int .i64) .bool))))))) (.pair (.pair (.int .i64) (.pair (.int .i64) (.pair (.int .i64) (.int .i64)))) (.pair (.pair .bool (.pair .bool (.pair .bool (.pair .bool .bool)))) (.pair (.pair (.int .i64) (.int .i64)) (.pair (.int .i64) (.pair (.int .i64) (.int .i64))))))))))]), (11, [(0, (.slice (.int .i64)))]), (15, [(0, (.pair .func (.slice (.pair (.int .i64) (.int .i64)))))]), (27, [(0, (.slice (.int .i64)))]), (31, [(0, (.slice (.pair (.int .i64) (.int .i64))))])]
noncomputable def t0 : Nat → Nat → List AV → List Slot → Option Ans := fun _ => tnil
theorem t0_ok (n g : Nat) : SpecOk Try.prog g (t0 n g) := tnil_ok g
abbrev ty0 : Ty := (((Ty.int IntKind.i64).pair (Ty.int IntKind.i64)).slice.pair (Ty.bool.pair (Ty.bool.pair (Ty.bool.pair (Ty.bool.pair Ty.bool)))))
abbrev ty1 : Ty := ((((Ty.int IntKind.i64).pair ((Ty.int IntKind.i64).pair ((Ty.int IntKind.i64).pair Ty.bool))).pair (((Ty.int IntKind.i64).pair ((Ty.int IntKind.i64).pair ((Ty.int IntKind.i64).pair Ty.bool))).pair (Ty.int IntKind.i64))).pair (((Ty.int IntKind.i64).pair ((Ty.int IntKind.i64).pair (Ty.bool.pair (Ty.bool.pair ((Ty.int IntKind.i64).pair ((Ty.int IntKind.i64).pair ((Ty.int IntKind.i64).pair Ty.bool))))))).pair (((Ty.int IntKind.i64).pair ((Ty.int IntKind.i64).pair ((Ty.int IntKind.i64).pair (Ty.int IntKind.i64)))).pair ((Ty.bool.pair (Ty.bool.pair (Ty.bool.pair (Ty.bool.pair Ty.bool)))).pair (((Ty.int IntKind.i64).pair (Ty.int IntKind.i64)).pair ((Ty.int IntKind.i64).pair ((Ty.int IntKind.i64).pair (Ty.int IntKind.i64))))))))
namespace axis_Rest
abbrev R : Type := Int × Int × Int × Bool
abbrev A : Type := Int
def lv : List (Nat × List Nat) := [(2000000, [2])]
noncomputable def cs : Nat → Ctx := ctxOf tis modes t0 lv
theorem cs_ok (n : Nat) : CtxOk Try.prog (cs n) := ctxOf_ok rfl tis_ok t0_ok n
def enc (r : R) : Out := ((.agg [(.int .i64 r.1), (.int .i64 r.2.1), (.int .i64 r.2.2.1), (.bool r.2.2.2)]), [])
def dec : Out → Option R
  | ((.agg [(.int .i64 v0), (.int .i64 v1), (.int .i64 v2), (.bool v3)]), []) => some (v0, v1, v2, v3)
  | _ => none
theorem dec_ok : ∀ u y, dec u = some y → u = enc y := by
  intro u y h
  unfold dec at h
  split at h
  · cases h; rfl
  · cases h
noncomputable def b0 : Code := subF [] Try.f44
noncomputable def K0 (k : Nat) : Kt R := kTop (cs k) Try.f44 dec
noncomputable def f (k : Nat) : A → Option R := fun v0 => held (runFn cs k Try.f44 [(.c (.int .i64 v0))] [] dec)
noncomputable def F (v : A) : Option R := lim fun L => f (L 0) v
theorem F_cn (x : Nat) (v : A) : Cn late (F v) fun L => f (L x) v := of_lim.re [x]
def d : A → Option R := fun v0 =>
some (v0, 0, v0, false)
theorem d_cn {ι : Type} {E : Fil ι} : ∀ v : A, Cn E (d v) fun i => d v := fun v0 => .some
theorem f_b (k : Nat) : ∀ v : A, f k v = d v := fun v0 => (held_eq _).trans (by kernel_rfl)
theorem F_of (v : A) {r : R} (h : d v = some r) : F v = some r :=
  join_of (l := fun L => f (L 0) v) (d := fun L => d v) (fun L => f_b (L 0) v) (d_cn v) h
noncomputable def spec (k : Nat) (args : List AV) (ss : List Slot) : Option Ans :=
  match args, ss with
  | [(.c (.int .i64 v0))], [] => some ⟨R, f k v0, enc⟩
  | _, _ => none
theorem spec_ok (k : Nat) : SpecOk Try.prog 44 (spec k) := by
  intro args ss ans x h hx X σ w vals hp
  unfold spec at h
  split at h
  · cases h
    exact spec_of cs_ok Try.func44 rfl rfl dec_ok (held_eq _).symm hx hp
  · cases h
end axis_Rest
noncomputable def t_axis_Rest (k : Nat) := tcons 44 (axis_Rest.spec k) (t0 k)
theorem t_axis_Rest_ok (n g : Nat) : SpecOk Try.prog g (t_axis_Rest n g) := tcons_ok (axis_Rest.spec_ok n) (fun g => t0_ok n g) g
namespace mount_Rest
abbrev R : Type := Int × Int × Int × Bool × Int × Int × Int × Bool × Int
abbrev A : Type := Int × Int × Int × Int × Int × Int × Int × Int × Int × Int
def lv : List (Nat × List Nat) := [(2000000, [2])]
noncomputable def cs : Nat → Ctx := ctxOf tis modes t_axis_Rest lv
theorem cs_ok (n : Nat) : CtxOk Try.prog (cs n) := ctxOf_ok rfl tis_ok t_axis_Rest_ok n
def enc (r : R) : Out := ((.agg [(.int .i64 r.1), (.int .i64 r.2.1), (.int .i64 r.2.2.1), (.bool r.2.2.2.1), (.int .i64 r.2.2.2.2.1), (.int .i64 r.2.2.2.2.2.1), (.int .i64 r.2.2.2.2.2.2.1), (.bool r.2.2.2.2.2.2.2.1), (.int .i64 r.2.2.2.2.2.2.2.2)]), [])
def dec : Out → Option R
  | ((.agg [(.int .i64 v0), (.int .i64 v1), (.int .i64 v2), (.bool v3), (.int .i64 v4), (.int .i64 v5), (.int .i64 v6), (.bool v7), (.int .i64 v8)]), []) => some (v0, v1, v2, v3, v4, v5, v6, v7, v8)
  | _ => none
theorem dec_ok : ∀ u y, dec u = some y → u = enc y := by
  intro u y h
  unfold dec at h
  split at h
  · cases h; rfl
  · cases h
noncomputable def b0 : Code := subF [] Try.f26
noncomputable def K0 (k : Nat) : Kt R := kTop (cs k) Try.f26 dec
noncomputable def f (k : Nat) : A → Option R := fun (v0, v1, v2, v3, v4, v5, v6, v7, v8, v9) => held (runFn cs k Try.f26 [(.agg [(.int .i64 v0), (.int .i64 v1), (.int .i64 v2), (.int .i64 v3), (.int .i64 v4), (.int .i64 v5), (.int .i64 v6), (.int .i64 v7), (.int .i64 v8), (.int .i64 v9)])] [] dec)
noncomputable def F (v : A) : Option R := lim fun L => f (L 0) v
theorem F_cn (x : Nat) (v : A) : Cn late (F v) fun L => f (L x) v := of_lim.re [x]
def d (axis_Rest_k : axis_Rest.A → Option axis_Rest.R) : A → Option R := fun (v0, v1, v2, v3, v4, v5, v6, v7, v8, v9) =>
bnd (axis_Rest_k v8) fun r => bnd (axis_Rest_k v9) fun r_1 => some (r.fst, r.snd.fst, r.snd.snd.fst, r.snd.snd.snd, r_1.fst, r_1.snd.fst, r_1.snd.snd.fst, r_1.snd.snd.snd, 0)
theorem d_cn {ι : Type} {E : Fil ι} {axis_Rest_k : axis_Rest.A → Option axis_Rest.R} {axis_Rest_k' : ι → axis_Rest.A → Option axis_Rest.R} (haxis_Rest_k : ∀ v, Cn E (axis_Rest_k v) fun i => axis_Rest_k' i v) : ∀ v : A, Cn E (d axis_Rest_k v) fun i => d (axis_Rest_k' i) v := fun (v0, v1, v2, v3, v4, v5, v6, v7, v8, v9) => (.bnd (haxis_Rest_k _) fun _ => (.bnd (haxis_Rest_k _) fun _ => .some))
theorem f_b (k : Nat) : ∀ v : A, f k v = d (axis_Rest.f k) v := fun (v0, v1, v2, v3, v4, v5, v6, v7, v8, v9) => (held_eq _).trans (by kernel_rfl)
theorem F_of (v : A) {r : R} (h : d axis_Rest.F v = some r) : F v = some r :=
  join_of (l := fun L => f (L 0) v) (d := fun L => d (axis_Rest.f (L 0)) v) (fun L => f_b (L 0) v) (d_cn (axis_Rest.F_cn 0) v) h
noncomputable def spec (k : Nat) (args : List AV) (ss : List Slot) : Option Ans :=
  match args, ss with
  | [(.agg [(.int .i64 v0), (.int .i64 v1), (.int .i64 v2), (.int .i64 v3), (.int .i64 v4), (.int .i64 v5), (.int .i64 v6), (.int .i64 v7), (.int .i64 v8), (.int .i64 v9)])], [] => some ⟨R, f k (v0, v1, v2, v3, v4, v5, v6, v7, v8, v9), enc⟩
  | _, _ => none
theorem spec_ok (k : Nat) : SpecOk Try.prog 26 (spec k) := by
  intro args ss ans x h hx X σ w vals hp
  unfold spec at h
  split at h
  · cases h
    exact spec_of cs_ok Try.func26 rfl rfl dec_ok (held_eq _).symm hx hp
  · cases h
end mount_Rest
noncomputable def t_mount_Rest (k : Nat) := tcons 26 (mount_Rest.spec k) (t_axis_Rest k)
theorem t_mount_Rest_ok (n g : Nat) : SpecOk Try.prog g (t_mount_Rest n g) := tcons_ok (mount_Rest.spec_ok n) (fun g => t_axis_Rest_ok n g) g
namespace guard_Start
abbrev R : Type := Int × Int × Int × Bool × Int × Int × Int × Bool × Int × Int × Int × Bool × Bool × Int × Int × Int × Bool × Int × Int × Int × Int × Bool × Bool × Bool × Bool × Bool × Int × Int × Int × Int × Int
abbrev A : Type := Int × Int × Int × Int × Int × Int × Int × Int × Int × Int
def lv : List (Nat × List Nat) := [(2000000, [2])]
noncomputable def cs : Nat → Ctx := ctxOf tis modes t_mount_Rest lv
theorem cs_ok (n : Nat) : CtxOk Try.prog (cs n) := ctxOf_ok rfl tis_ok t_mount_Rest_ok n
def enc (r : R) : Out := ((.agg [(.int .i64 r.1), (.int .i64 r.2.1), (.int .i64 r.2.2.1), (.bool r.2.2.2.1), (.int .i64 r.2.2.2.2.1), (.int .i64 r.2.2.2.2.2.1), (.int .i64 r.2.2.2.2.2.2.1), (.bool r.2.2.2.2.2.2.2.1), (.int .i64 r.2.2.2.2.2.2.2.2.1), (.int .i64 r.2.2.2.2.2.2.2.2.2.1), (.int .i64 r.2.2.2.2.2.2.2.2.2.2.1), (.bool r.2.2.2.2.2.2.2.2.2.2.2.1), (.bool r.2.2.2.2.2.2.2.2.2.2.2.2.1), (.int .i64 r.2.2.2.2.2.2.2.2.2.2.2.2.2.1), (.int .i64 r.2.2.2.2.2.2.2.2.2.2.2.2.2.2.1), (.int .i64 r.2.2.2.2.2.2.2.2.2.2.2.2.2.2.2.1), (.bool r.2.2.2.2.2.2.2.2.2.2.2.2.2.2.2.2.1), (.int .i64 r.2.2.2.2.2.2.2.2.2.2.2.2.2.2.2.2.2.1), (.int .i64 r.2.2.2.2.2.2.2.2.2.2.2.2.2.2.2.2.2.2.1), (.int .i64 r.2.2.2.2.2.2.2.2.2.2.2.2.2.2.2.2.2.2.2.1), (.int .i64 r.2.2.2.2.2.2.2.2.2.2.2.2.2.2.2.2.2.2.2.2.1), (.bool r.2.2.2.2.2.2.2.2.2.2.2.2.2.2.2.2.2.2.2.2.2.1), (.bool r.2.2.2.2.2.2.2.2.2.2.2.2.2.2.2.2.2.2.2.2.2.2.1), (.bool r.2.2.2.2.2.2.2.2.2.2.2.2.2.2.2.2.2.2.2.2.2.2.2.1), (.bool r.2.2.2.2.2.2.2.2.2.2.2.2.2.2.2.2.2.2.2.2.2.2.2.2.1), (.bool r.2.2.2.2.2.2.2.2.2.2.2.2.2.2.2.2.2.2.2.2.2.2.2.2.2.1), (.int .i64 r.2.2.2.2.2.2.2.2.2.2.2.2.2.2.2.2.2.2.2.2.2.2.2.2.2.2.1), (.int .i64 r.2.2.2.2.2.2.2.2.2.2.2.2.2.2.2.2.2.2.2.2.2.2.2.2.2.2.2.1), (.int .i64 r.2.2.2.2.2.2.2.2.2.2.2.2.2.2.2.2.2.2.2.2.2.2.2.2.2.2.2.2.1), (.int .i64 r.2.2.2.2.2.2.2.2.2.2.2.2.2.2.2.2.2.2.2.2.2.2.2.2.2.2.2.2.2.1), (.int .i64 r.2.2.2.2.2.2.2.2.2.2.2.2.2.2.2.2.2.2.2.2.2.2.2.2.2.2.2.2.2.2)]), [])
def dec : Out → Option R
  | ((.agg [(.int .i64 v0), (.int .i64 v1), (.int .i64 v2), (.bool v3), (.int .i64 v4), (.int .i64 v5), (.int .i64 v6), (.bool v7), (.int .i64 v8), (.int .i64 v9), (.int .i64 v10), (.bool v11), (.bool v12), (.int .i64 v13), (.int .i64 v14), (.int .i64 v15), (.bool v16), (.int .i64 v17), (.int .i64 v18), (.int .i64 v19), (.int .i64 v20), (.bool v21), (.bool v22), (.bool v23), (.bool v24), (.bool v25), (.int .i64 v26), (.int .i64 v27), (.int .i64 v28), (.int .i64 v29), (.int .i64 v30)]), []) => some (v0, v1, v2, v3, v4, v5, v6, v7, v8, v9, v10, v11, v12, v13, v14, v15, v16, v17, v18, v19, v20, v21, v22, v23, v24, v25, v26, v27, v28, v29, v30)
  | _ => none
theorem dec_ok : ∀ u y, dec u = some y → u = enc y := by
  intro u y h
  unfold dec at h
  split at h
  · cases h; rfl
  · cases h
noncomputable def b0 : Code := subF [] Try.f9
noncomputable def K0 (k : Nat) : Kt R := kTop (cs k) Try.f9 dec
noncomputable def f (k : Nat) : A → Option R := fun (v0, v1, v2, v3, v4, v5, v6, v7, v8, v9) => held (runFn cs k Try.f9 [(.agg [(.int .i64 v0), (.int .i64 v1), (.int .i64 v2), (.int .i64 v3), (.int .i64 v4), (.int .i64 v5), (.int .i64 v6), (.int .i64 v7), (.int .i64 v8), (.int .i64 v9)])] [] dec)
noncomputable def F (v : A) : Option R := lim fun L => f (L 0) v
theorem F_cn (x : Nat) (v : A) : Cn late (F v) fun L => f (L x) v := of_lim.re [x]
def d (mount_Rest_k : mount_Rest.A → Option mount_Rest.R) : A → Option R := fun (v0, v1, v2, v3, v4, v5, v6, v7, v8, v9) =>
bnd (mount_Rest_k (v0, v1, v2, v3, v4, v5, v6, v7, v8, v9)) fun r =>
  some
    (r.fst, r.snd.fst, r.snd.snd.fst, r.snd.snd.snd.fst, r.snd.snd.snd.snd.fst, r.snd.snd.snd.snd.snd.fst, r.snd.snd.snd.snd.snd.snd.fst, r.snd.snd.snd.snd.snd.snd.snd.fst, r.snd.snd.snd.snd.snd.snd.snd.snd, 0, 0, false,
      false, 0, 0, 0, false, 0, 0, 0, 0, false, false, false, false, false, 0, 0, 2, 0, 0)
theorem d_cn {ι : Type} {E : Fil ι} {mount_Rest_k : mount_Rest.A → Option mount_Rest.R} {mount_Rest_k' : ι → mount_Rest.A → Option mount_Rest.R} (hmount_Rest_k : ∀ v, Cn E (mount_Rest_k v) fun i => mount_Rest_k' i v) : ∀ v : A, Cn E (d mount_Rest_k v) fun i => d (mount_Rest_k' i) v := fun (v0, v1, v2, v3, v4, v5, v6, v7, v8, v9) => (.bnd (hmount_Rest_k _) fun _ => .some)
theorem f_b (k : Nat) : ∀ v : A, f k v = d (mount_Rest.f k) v := fun (v0, v1, v2, v3, v4, v5, v6, v7, v8, v9) => (held_eq _).trans (by kernel_rfl)
theorem F_of (v : A) {r : R} (h : d mount_Rest.F v = some r) : F v = some r :=
  join_of (l := fun L => f (L 0) v) (d := fun L => d (mount_Rest.f (L 0)) v) (fun L => f_b (L 0) v) (d_cn (mount_Rest.F_cn 0) v) h
noncomputable def spec (k : Nat) (args : List AV) (ss : List Slot) : Option Ans :=
  match args, ss with
  | [(.agg [(.int .i64 v0), (.int .i64 v1), (.int .i64 v2), (.int .i64 v3), (.int .i64 v4), (.int .i64 v5), (.int .i64 v6), (.int .i64 v7), (.int .i64 v8), (.int .i64 v9)])], [] => some ⟨R, f k (v0, v1, v2, v3, v4, v5, v6, v7, v8, v9), enc⟩
  | _, _ => none
theorem spec_ok (k : Nat) : SpecOk Try.prog 9 (spec k) := by
  intro args ss ans x h hx X σ w vals hp
  unfold spec at h
  split at h
  · cases h
    exact spec_of cs_ok Try.func9 rfl rfl dec_ok (held_eq _).symm hx hp
  · cases h
end guard_Start
noncomputable def t_guard_Start (k : Nat) := tcons 9 (guard_Start.spec k) (t_mount_Rest k)
theorem t_guard_Start_ok (n g : Nat) : SpecOk Try.prog g (t_guard_Start n g) := tcons_ok (guard_Start.spec_ok n) (fun g => t_mount_Rest_ok n g) g
namespace guard_Hard
abbrev R : Type := Int
abbrev A : Type := Int × Int × Int × Bool × Int × Int × Int × Bool × Int × Int × Int × Bool × Bool × Int × Int × Int × Bool × Int × Int × Int × Int × Bool × Bool × Bool × Bool × Bool × Int × Int × Int × Int × Int
def lv : List (Nat × List Nat) := [(2000000, [2]), (1000004, [1, 3]), (1000006, [3])]
noncomputable def cs : Nat → Ctx := ctxOf tis modes t_guard_Start lv
theorem cs_ok (n : Nat) : CtxOk Try.prog (cs n) := ctxOf_ok rfl tis_ok t_guard_Start_ok n
def enc (r : R) : Out := ((.c (.int .i64 r)), [])
def dec : Out → Option R
  | ((.c (.int .i64 v0)), []) => some v0
  | _ => none
theorem dec_ok : ∀ u y, dec u = some y → u = enc y := by
  intro u y h
  unfold dec at h
  split at h
  · cases h; rfl
  · cases h
noncomputable def b0 : Code := subF [] Try.f19
noncomputable def K0 (k : Nat) : Kt R := kTop (cs k) Try.f19 dec
noncomputable def c1000004 : Code := sub [1, 1, 1] b0
noncomputable def J1000004 ( k : Nat) : Kt R := kAt (cs k) (loopN cs k) [1, 1, 1] b0 (K0 k)
noncomputable def c1000006 : Code := sub [1, 1, 1, 1] b0
noncomputable def J1000006 ( k : Nat) : Kt R := kAt (cs k) (loopN cs k) [1, 1, 1, 1] b0 (K0 k)
abbrev T0 : Type := Int × Int × Int × Int × Bool × Int × Int × Int × Bool × Int × Int × Int × Bool × Bool × Int × Int × Int × Bool × Int × Int × Int × Int × Bool × Bool × Bool × Bool × Bool × Int × Int × Int × Int × Int
def s0 : T0 → St := fun (v0, v1, v2, v3, v4, v5, v6, v7, v8, v9, v10, v11, v12, v13, v14, v15, v16, v17, v18, v19, v20, v21, v22, v23, v24, v25, v26, v27, v28, v29, v30, v31) => ⟨41, 0, [(1, (.c (.ptr 64000000 0))), (3, (.c (.int .i64 v0)))], [], [(256000000, .gone), (64000000, (.box [(.int .i64 v1), (.int .i64 v2), (.int .i64 v3), (.bool v4), (.int .i64 v5), (.int .i64 v6), (.int .i64 v7), (.bool v8), (.int .i64 v9), (.int .i64 v10), (.int .i64 v11), (.bool v12), (.bool v13), (.int .i64 v14), (.int .i64 v15), (.int .i64 v16), (.bool v17), (.int .i64 v18), (.int .i64 v19), (.int .i64 v20), (.int .i64 v21), (.bool v22), (.bool v23), (.bool v24), (.bool v25), (.bool v26), (.int .i64 v27), (.int .i64 v28), (.int .i64 v29), (.int .i64 v30), (.int .i64 v31)]))]⟩
noncomputable def l0 ( k : Nat) (v : T0) : Option R := held (run (cs k) (loopN cs k) c1000004 (J1000004 k) (s0 v))
noncomputable def D0 (v : T0) : Option R := lim fun L => l0 (L 0) v
theorem D0_cn (v : T0) : Cn late (D0 v) fun L => l0 (L 0) v := of_lim
abbrev T1 : Type := Int
def s1 : T1 → St := fun v0 => ⟨41, 0, [(3, (.c (.int .i64 v0)))], [], [(256000000, .gone)]⟩
noncomputable def l1 ( k : Nat) (v : T1) : Option R := held (run (cs k) (loopN cs k) c1000006 (J1000006 k) (s1 v))
noncomputable def D1 (v : T1) : Option R := lim fun L => l1 (L 0) v
theorem D1_cn (v : T1) : Cn late (D1 v) fun L => l1 (L 0) v := of_lim
def d0 (L1k : T1 → Option R) : T0 → Option R := fun (v0, v1, v2, v3, v4, v5, v6, v7, v8, v9, v10, v11, v12, v13, v14, v15, v16, v17, v18, v19, v20, v21, v22, v23, v24, v25, v26, v27, v28, v29, v30, v31) =>
br (decide (v18 = 1) && (!decide (v9 = 3) || !decide (v10 = 100) || !decide (v11 = 20))) (L1k (bOr IntKind.i64 v0 2)) (L1k v0)
theorem d0_cn {ι : Type} {E : Fil ι} {L1k : T1 → Option R} {L1k' : ι → T1 → Option R} (hL1k : ∀ v, Cn E (L1k v) fun i => L1k' i v) : ∀ v : T0, Cn E (d0 L1k v) fun i => d0 (L1k' i) v := fun (v0, v1, v2, v3, v4, v5, v6, v7, v8, v9, v10, v11, v12, v13, v14, v15, v16, v17, v18, v19, v20, v21, v22, v23, v24, v25, v26, v27, v28, v29, v30, v31) => (.br (hL1k _) (hL1k _))
theorem l0_b ( k : Nat) : ∀ v : T0, run (cs k) (loopN cs k) c1000004 (J1000004 k) (s0 v) = d0 (l1 k) v := fun (v0, v1, v2, v3, v4, v5, v6, v7, v8, v9, v10, v11, v12, v13, v14, v15, v16, v17, v18, v19, v20, v21, v22, v23, v24, v25, v26, v27, v28, v29, v30, v31) => by kernel_rfl
theorem D0_of (v : T0) {r : R} (h : d0 D1 v = some r) : D0 v = some r :=
  join_of (l := fun L => l0 (L 0) v) (d := fun L => d0 (l1 (L 0)) v) (fun L => (held_eq _).trans (l0_b (L 0) v)) (d0_cn (fun v => (D1_cn v).re [0]) v) h
def d1 : T1 → Option R := fun v0 =>
some v0
theorem d1_cn {ι : Type} {E : Fil ι} : ∀ v : T1, Cn E (d1 v) fun i => d1 v := fun v0 => .some
theorem l1_b ( k : Nat) : ∀ v : T1, run (cs k) (loopN cs k) c1000006 (J1000006 k) (s1 v) = d1 v := fun v0 => by kernel_rfl
theorem D1_of (v : T1) {r : R} (h : d1 v = some r) : D1 v = some r :=
  join_of (l := fun L => l1 (L 0) v) (d := fun L => d1 v) (fun L => (held_eq _).trans (l1_b (L 0) v)) (d1_cn v) h
noncomputable def f (k : Nat) : A → Option R := fun (v0, v1, v2, v3, v4, v5, v6, v7, v8, v9, v10, v11, v12, v13, v14, v15, v16, v17, v18, v19, v20, v21, v22, v23, v24, v25, v26, v27, v28, v29, v30) => held (runFn cs k Try.f19 [(.agg [(.int .i64 v0), (.int .i64 v1), (.int .i64 v2), (.bool v3), (.int .i64 v4), (.int .i64 v5), (.int .i64 v6), (.bool v7), (.int .i64 v8), (.int .i64 v9), (.int .i64 v10), (.bool v11), (.bool v12), (.int .i64 v13), (.int .i64 v14), (.int .i64 v15), (.bool v16), (.int .i64 v17), (.int .i64 v18), (.int .i64 v19), (.int .i64 v20), (.bool v21), (.bool v22), (.bool v23), (.bool v24), (.bool v25), (.int .i64 v26), (.int .i64 v27), (.int .i64 v28), (.int .i64 v29), (.int .i64 v30)])] [] dec)
noncomputable def F (v : A) : Option R := lim fun L => f (L 0) v
theorem F_cn (x : Nat) (v : A) : Cn late (F v) fun L => f (L x) v := of_lim.re [x]
def d (L0k : T0 → Option R) : A → Option R := fun (v0, v1, v2, v3, v4, v5, v6, v7, v8, v9, v10, v11, v12, v13, v14, v15, v16, v17, v18, v19, v20, v21, v22, v23, v24, v25, v26, v27, v28, v29, v30) =>
br (decide (0 < v10) && decide (v9 < 100)) (L0k (bOr IntKind.i64 0 1, v0, v1, v2, v3, v4, v5, v6, v7, v8, v9, v10, v11, v12, v13, v14, v15, v16, v17, v18, v19, v20, v21, v22, v23, v24, v25, v26, v27, v28, v29, v30))
  (L0k (0, v0, v1, v2, v3, v4, v5, v6, v7, v8, v9, v10, v11, v12, v13, v14, v15, v16, v17, v18, v19, v20, v21, v22, v23, v24, v25, v26, v27, v28, v29, v30))
theorem d_cn {ι : Type} {E : Fil ι} {L0k : T0 → Option R} {L0k' : ι → T0 → Option R} (hL0k : ∀ v, Cn E (L0k v) fun i => L0k' i v) : ∀ v : A, Cn E (d L0k v) fun i => d (L0k' i) v := fun (v0, v1, v2, v3, v4, v5, v6, v7, v8, v9, v10, v11, v12, v13, v14, v15, v16, v17, v18, v19, v20, v21, v22, v23, v24, v25, v26, v27, v28, v29, v30) => (.br (hL0k _) (hL0k _))
theorem f_b (k : Nat) : ∀ v : A, f k v = d (l0 k) v := fun (v0, v1, v2, v3, v4, v5, v6, v7, v8, v9, v10, v11, v12, v13, v14, v15, v16, v17, v18, v19, v20, v21, v22, v23, v24, v25, v26, v27, v28, v29, v30) => (held_eq _).trans (by kernel_rfl)
theorem F_of (v : A) {r : R} (h : d D0 v = some r) : F v = some r :=
  join_of (l := fun L => f (L 0) v) (d := fun L => d (l0 (L 0)) v) (fun L => f_b (L 0) v) (d_cn (fun v => (D0_cn v).re [0]) v) h
noncomputable def spec (k : Nat) (args : List AV) (ss : List Slot) : Option Ans :=
  match args, ss with
  | [(.agg [(.int .i64 v0), (.int .i64 v1), (.int .i64 v2), (.bool v3), (.int .i64 v4), (.int .i64 v5), (.int .i64 v6), (.bool v7), (.int .i64 v8), (.int .i64 v9), (.int .i64 v10), (.bool v11), (.bool v12), (.int .i64 v13), (.int .i64 v14), (.int .i64 v15), (.bool v16), (.int .i64 v17), (.int .i64 v18), (.int .i64 v19), (.int .i64 v20), (.bool v21), (.bool v22), (.bool v23), (.bool v24), (.bool v25), (.int .i64 v26), (.int .i64 v27), (.int .i64 v28), (.int .i64 v29), (.int .i64 v30)])], [] => some ⟨R, f k (v0, v1, v2, v3, v4, v5, v6, v7, v8, v9, v10, v11, v12, v13, v14, v15, v16, v17, v18, v19, v20, v21, v22, v23, v24, v25, v26, v27, v28, v29, v30), enc⟩
  | _, _ => none
theorem spec_ok (k : Nat) : SpecOk Try.prog 19 (spec k) := by
  intro args ss ans x h hx X σ w vals hp
  unfold spec at h
  split at h
  · cases h
    exact spec_of cs_ok Try.func19 rfl rfl dec_ok (held_eq _).symm hx hp
  · cases h
end guard_Hard
noncomputable def t_guard_Hard (k : Nat) := tcons 19 (guard_Hard.spec k) (t_guard_Start k)
theorem t_guard_Hard_ok (n g : Nat) : SpecOk Try.prog g (t_guard_Hard n g) := tcons_ok (guard_Hard.spec_ok n) (fun g => t_guard_Start_ok n g) g
namespace spykeep2_guarded
abbrev R : Type := Bool
abbrev A : Type := Unit
def lv : List (Nat × List Nat) := [(2000000, [0])]
noncomputable def cs : Nat → Ctx := ctxOf tis modes t_guard_Hard lv
theorem cs_ok (n : Nat) : CtxOk Try.prog (cs n) := ctxOf_ok rfl tis_ok t_guard_Hard_ok n
def enc (r : R) : Out := ((.c (.bool r)), [])
def dec : Out → Option R
  | ((.c (.bool v0)), []) => some v0
  | _ => none
theorem dec_ok : ∀ u y, dec u = some y → u = enc y := by
  intro u y h
  unfold dec at h
  split at h
  · cases h; rfl
  · cases h
noncomputable def b0 : Code := subF [] Try.f5
noncomputable def K0 (k : Nat) : Kt R := kTop (cs k) Try.f5 dec
noncomputable def f (k : Nat) : A → Option R := fun _ => held (runFn cs k Try.f5 [] [] dec)
noncomputable def F (v : A) : Option R := lim fun L => f (L 0) v
theorem F_cn (x : Nat) (v : A) : Cn late (F v) fun L => f (L x) v := of_lim.re [x]
def d (guard_Start_k : guard_Start.A → Option guard_Start.R) (guard_Hard_k : guard_Hard.A → Option guard_Hard.R) : A → Option R := fun _ =>
bnd (guard_Start_k (0, 0, 0, 0, 0, 0, 0, 0, 0, 0)) fun r =>
  br (decide (r.snd.snd.snd.snd.snd.snd.snd.snd.snd.snd.snd.snd.snd.snd.snd.snd.snd.snd.snd.snd.snd.snd.snd.snd.snd.snd.snd.snd.fst = 2) == true)
    (bnd (guard_Hard_k (0, 0, 0, false, 0, 0, 0, false, 0, 0, 1, false, false, 0, 0, 0, false, 0, 0, 0, 0, false, false, false, false, false, 0, 0, 0, 0, 0)) fun r => some (decide (r = 1))) (some false)
theorem d_cn {ι : Type} {E : Fil ι} {guard_Start_k : guard_Start.A → Option guard_Start.R} {guard_Start_k' : ι → guard_Start.A → Option guard_Start.R} (hguard_Start_k : ∀ v, Cn E (guard_Start_k v) fun i => guard_Start_k' i v) {guard_Hard_k : guard_Hard.A → Option guard_Hard.R} {guard_Hard_k' : ι → guard_Hard.A → Option guard_Hard.R} (hguard_Hard_k : ∀ v, Cn E (guard_Hard_k v) fun i => guard_Hard_k' i v) : ∀ v : A, Cn E (d guard_Start_k guard_Hard_k v) fun i => d (guard_Start_k' i) (guard_Hard_k' i) v := fun _ => (.bnd (hguard_Start_k _) fun _ => (.br (.bnd (hguard_Hard_k _) fun _ => .some) .some))
theorem f_b (k : Nat) : ∀ v : A, f k v = d (guard_Start.f k) (guard_Hard.f k) v := fun _ => (held_eq _).trans (by kernel_rfl)
theorem F_of (v : A) {r : R} (h : d guard_Start.F guard_Hard.F v = some r) : F v = some r :=
  join_of (l := fun L => f (L 0) v) (d := fun L => d (guard_Start.f (L 0)) (guard_Hard.f (L 0)) v) (fun L => f_b (L 0) v) (d_cn (guard_Start.F_cn 0) (guard_Hard.F_cn 0) v) h
noncomputable def spec (k : Nat) (args : List AV) (ss : List Slot) : Option Ans :=
  match args, ss with
  | [], [] => some ⟨R, f k (), enc⟩
  | _, _ => none
theorem spec_ok (k : Nat) : SpecOk Try.prog 5 (spec k) := by
  intro args ss ans x h hx X σ w vals hp
  unfold spec at h
  split at h
  · cases h
    exact spec_of cs_ok Try.func5 rfl rfl dec_ok (held_eq _).symm hx hp
  · cases h
end spykeep2_guarded
noncomputable def t_spykeep2_guarded (k : Nat) := tcons 5 (spykeep2_guarded.spec k) (t_guard_Hard k)
theorem t_spykeep2_guarded_ok (n g : Nat) : SpecOk Try.prog g (t_spykeep2_guarded n g) := tcons_ok (spykeep2_guarded.spec_ok n) (fun g => t_guard_Hard_ok n g) g
namespace spymake_Below
abbrev R : Type := Int
abbrev A : Type := Int × Int
def lv : List (Nat × List Nat) := [(2000000, [4]), (1000006, [0])]
noncomputable def cs : Nat → Ctx := ctxOf tis modes t_spykeep2_guarded lv
theorem cs_ok (n : Nat) : CtxOk Try.prog (cs n) := ctxOf_ok rfl tis_ok t_spykeep2_guarded_ok n
def enc (r : R) : Out := ((.c (.int .i64 r)), [])
def dec : Out → Option R
  | ((.c (.int .i64 v0)), []) => some v0
  | _ => none
theorem dec_ok : ∀ u y, dec u = some y → u = enc y := by
  intro u y h
  unfold dec at h
  split at h
  · cases h; rfl
  · cases h
noncomputable def b0 : Code := subF [] Try.f13
noncomputable def K0 (k : Nat) : Kt R := kTop (cs k) Try.f13 dec
noncomputable def c1000006 : Code := sub [1, 1, 1, 1] b0
noncomputable def J1000006 ( k : Nat) : Kt R := kAt (cs k) (loopN cs k) [1, 1, 1, 1] b0 (K0 k)
abbrev T0 : Type := Int
def s0 : T0 → St := fun v0 => ⟨16, 0, [(0, (.c (.int .i64 v0)))], [], [(256000000, .gone)]⟩
noncomputable def l0 ( k : Nat) (v : T0) : Option R := held (run (cs k) (loopN cs k) c1000006 (J1000006 k) (s0 v))
noncomputable def D0 (v : T0) : Option R := lim fun L => l0 (L 0) v
theorem D0_cn (v : T0) : Cn late (D0 v) fun L => l0 (L 0) v := of_lim
def d0 : T0 → Option R := fun v0 =>
some v0
theorem d0_cn {ι : Type} {E : Fil ι} : ∀ v : T0, Cn E (d0 v) fun i => d0 v := fun v0 => .some
theorem l0_b ( k : Nat) : ∀ v : T0, run (cs k) (loopN cs k) c1000006 (J1000006 k) (s0 v) = d0 v := fun v0 => by kernel_rfl
theorem D0_of (v : T0) {r : R} (h : d0 v = some r) : D0 v = some r :=
  join_of (l := fun L => l0 (L 0) v) (d := fun L => d0 v) (fun L => (held_eq _).trans (l0_b (L 0) v)) (d0_cn v) h
noncomputable def f (k : Nat) : A → Option R := fun (v0, v1) => held (runFn cs k Try.f13 [(.c (.int .i64 v0)), (.c (.int .i64 v1))] [] dec)
noncomputable def F (v : A) : Option R := lim fun L => f (L 0) v
theorem F_cn (x : Nat) (v : A) : Cn late (F v) fun L => f (L x) v := of_lim.re [x]
def d (L0k : T0 → Option R) : A → Option R := fun (v0, v1) =>
br (decide (v1 < 1)) (some 0) (br (!decide (v1 = 0)) (br (decide (v0.tmod v1 < 0)) (L0k (wrap IntKind.i64 (v0.tmod v1 + v1))) (L0k (v0.tmod v1))) none)
theorem d_cn {ι : Type} {E : Fil ι} {L0k : T0 → Option R} {L0k' : ι → T0 → Option R} (hL0k : ∀ v, Cn E (L0k v) fun i => L0k' i v) : ∀ v : A, Cn E (d L0k v) fun i => d (L0k' i) v := fun (v0, v1) => (.br .some (.br (.br (hL0k _) (hL0k _)) .none))
theorem f_b (k : Nat) : ∀ v : A, f k v = d (l0 k) v := fun (v0, v1) => (held_eq _).trans (by kernel_rfl)
theorem F_of (v : A) {r : R} (h : d D0 v = some r) : F v = some r :=
  join_of (l := fun L => f (L 0) v) (d := fun L => d (l0 (L 0)) v) (fun L => f_b (L 0) v) (d_cn (fun v => (D0_cn v).re [0]) v) h
noncomputable def spec (k : Nat) (args : List AV) (ss : List Slot) : Option Ans :=
  match args, ss with
  | [(.c (.int .i64 v0)), (.c (.int .i64 v1))], [] => some ⟨R, f k (v0, v1), enc⟩
  | _, _ => none
theorem spec_ok (k : Nat) : SpecOk Try.prog 13 (spec k) := by
  intro args ss ans x h hx X σ w vals hp
  unfold spec at h
  split at h
  · cases h
    exact spec_of cs_ok Try.func13 rfl rfl dec_ok (held_eq _).symm hx hp
  · cases h
end spymake_Below
noncomputable def t_spymake_Below (k : Nat) := tcons 13 (spymake_Below.spec k) (t_spykeep2_guarded k)
theorem t_spymake_Below_ok (n g : Nat) : SpecOk Try.prog g (t_spymake_Below n g) := tcons_ok (spymake_Below.spec_ok n) (fun g => t_spykeep2_guarded_ok n g) g
namespace spymake_Stream_Next
abbrev R : Type := Int × List Int × Int
abbrev A : Type := Int × List Int × Int
def lv : List (Nat × List Nat) := [(2000000, [4])]
noncomputable def cs : Nat → Ctx := ctxOf tis modes t_spymake_Below lv
theorem cs_ok (n : Nat) : CtxOk Try.prog (cs n) := ctxOf_ok rfl tis_ok t_spymake_Below_ok n
def enc (r : R) : Out := ((.c (.int .i64 r.1)), [(.box [(.frz (.int .i64) r.2.1), (.int .i64 r.2.2)])])
def dec : Out → Option R
  | ((.c (.int .i64 v0)), [(.box [(.frz (.int .i64) v1), (.int .i64 v2)])]) => some (v0, v1, v2)
  | _ => none
theorem dec_ok : ∀ u y, dec u = some y → u = enc y := by
  intro u y h
  unfold dec at h
  split at h
  · cases h; rfl
  · cases h
noncomputable def b0 : Code := subF [] Try.f21
noncomputable def K0 (k : Nat) : Kt R := kTop (cs k) Try.f21 dec
noncomputable def f (k : Nat) : A → Option R := fun (v0, v1, v2) => held (runFn cs k Try.f21 [(.c (.ptr 128000000 0)), (.c (.int .i64 v0))] [(.box [(.frz (.int .i64) v1), (.int .i64 v2)])] dec)
noncomputable def F (v : A) : Option R := lim fun L => f (L 0) v
theorem F_cn (x : Nat) (v : A) : Cn late (F v) fun L => f (L x) v := of_lim.re [x]
def d (spymake_Below_k : spymake_Below.A → Option spymake_Below.R) : A → Option R := fun (v0, v1, v2) =>
br (decide ((↑v1.length : Int) = 0)) (bnd (spymake_Below_k (wrap IntKind.i64 (wrap IntKind.i64 (v2 + 1) * 7919), v0)) fun r => some (r, v1, wrap IntKind.i64 (v2 + 1)))
  (br (!decide ((↑v1.length : Int) = 0))
    (br (!decide ((↑v1.length : Int) = 0))
      (br (decide (0 ≤ (wrap IntKind.i64 (wrap IntKind.i64 (v2 + 1) - 1)).tmod (↑v1.length : Int) ∧ (wrap IntKind.i64 (wrap IntKind.i64 (v2 + 1) - 1)).tmod (↑v1.length : Int) < (↑v1.length : Int)))
        (bnd (spymake_Below_k (rd (Ty.int IntKind.i64) v1 ((wrap IntKind.i64 (wrap IntKind.i64 (v2 + 1) - 1)).tmod (↑v1.length : Int)), 1073741824)) fun r =>
          bnd
            (spymake_Below_k
              (wrap IntKind.i64
                  (r +
                    wrap IntKind.i64
                      (wrap IntKind.i64 ((wrap IntKind.i64 (wrap IntKind.i64 (v2 + 1) - 1)).tdiv (↑v1.length : Int)) *
                        wrap IntKind.i64 (7919 + (wrap IntKind.i64 (wrap IntKind.i64 (v2 + 1) - 1)).tmod (↑v1.length : Int)))),
                v0))
            fun r => some (r, v1, wrap IntKind.i64 (v2 + 1)))
        none)
      none)
    none)
theorem d_cn {ι : Type} {E : Fil ι} {spymake_Below_k : spymake_Below.A → Option spymake_Below.R} {spymake_Below_k' : ι → spymake_Below.A → Option spymake_Below.R} (hspymake_Below_k : ∀ v, Cn E (spymake_Below_k v) fun i => spymake_Below_k' i v) : ∀ v : A, Cn E (d spymake_Below_k v) fun i => d (spymake_Below_k' i) v := fun (v0, v1, v2) => (.br (.bnd (hspymake_Below_k _) fun _ => .some) (.br (.br (.br (.bnd (hspymake_Below_k _) fun _ => (.bnd (hspymake_Below_k _) fun _ => .some)) .none) .none) .none))
theorem f_b (k : Nat) : ∀ v : A, f k v = d (spymake_Below.f k) v := fun (v0, v1, v2) => (held_eq _).trans (by kernel_rfl)
theorem F_of (v : A) {r : R} (h : d spymake_Below.F v = some r) : F v = some r :=
  join_of (l := fun L => f (L 0) v) (d := fun L => d (spymake_Below.f (L 0)) v) (fun L => f_b (L 0) v) (d_cn (spymake_Below.F_cn 0) v) h
noncomputable def spec (k : Nat) (args : List AV) (ss : List Slot) : Option Ans :=
  match args, ss with
  | [(.c (.ptr 128000000 0)), (.c (.int .i64 v0))], [(.box [(.frz (.int .i64) v1), (.int .i64 v2)])] => some ⟨R, f k (v0, v1, v2), enc⟩
  | _, _ => none
theorem spec_ok (k : Nat) : SpecOk Try.prog 21 (spec k) := by
  intro args ss ans x h hx X σ w vals hp
  unfold spec at h
  split at h
  · cases h
    exact spec_of cs_ok Try.func21 rfl rfl dec_ok (held_eq _).symm hx hp
  · cases h
end spymake_Stream_Next
noncomputable def t_spymake_Stream_Next (k : Nat) := tcons 21 (spymake_Stream_Next.spec k) (t_spymake_Below k)
theorem t_spymake_Stream_Next_ok (n g : Nat) : SpecOk Try.prog g (t_spymake_Stream_Next n g) := tcons_ok (spymake_Stream_Next.spec_ok n) (fun g => t_spymake_Below_ok n g) g
namespace spymake_Stream_Range
abbrev R : Type := Int × List Int × Int
abbrev A : Type := Int × Int × List Int × Int
def lv : List (Nat × List Nat) := [(2000000, [6])]
noncomputable def cs : Nat → Ctx := ctxOf tis modes t_spymake_Stream_Next lv
theorem cs_ok (n : Nat) : CtxOk Try.prog (cs n) := ctxOf_ok rfl tis_ok t_spymake_Stream_Next_ok n
def enc (r : R) : Out := ((.c (.int .i64 r.1)), [(.box [(.frz (.int .i64) r.2.1), (.int .i64 r.2.2)])])
def dec : Out → Option R
  | ((.c (.int .i64 v0)), [(.box [(.frz (.int .i64) v1), (.int .i64 v2)])]) => some (v0, v1, v2)
  | _ => none
theorem dec_ok : ∀ u y, dec u = some y → u = enc y := by
  intro u y h
  unfold dec at h
  split at h
  · cases h; rfl
  · cases h
noncomputable def b0 : Code := subF [] Try.f23
noncomputable def K0 (k : Nat) : Kt R := kTop (cs k) Try.f23 dec
noncomputable def f (k : Nat) : A → Option R := fun (v0, v1, v2, v3) => held (runFn cs k Try.f23 [(.c (.ptr 128000000 0)), (.c (.int .i64 v0)), (.c (.int .i64 v1))] [(.box [(.frz (.int .i64) v2), (.int .i64 v3)])] dec)
noncomputable def F (v : A) : Option R := lim fun L => f (L 0) v
theorem F_cn (x : Nat) (v : A) : Cn late (F v) fun L => f (L x) v := of_lim.re [x]
def d (spymake_Stream_Next_k : spymake_Stream_Next.A → Option spymake_Stream_Next.R) : A → Option R := fun (v0, v1, v2, v3) =>
br (decide (v1 < v0)) (some (v0, v2, v3)) (bnd (spymake_Stream_Next_k (wrap IntKind.i64 (wrap IntKind.i64 (v1 - v0) + 1), v2, v3)) fun r => some (wrap IntKind.i64 (v0 + r.fst), r.snd.fst, r.snd.snd))
theorem d_cn {ι : Type} {E : Fil ι} {spymake_Stream_Next_k : spymake_Stream_Next.A → Option spymake_Stream_Next.R} {spymake_Stream_Next_k' : ι → spymake_Stream_Next.A → Option spymake_Stream_Next.R} (hspymake_Stream_Next_k : ∀ v, Cn E (spymake_Stream_Next_k v) fun i => spymake_Stream_Next_k' i v) : ∀ v : A, Cn E (d spymake_Stream_Next_k v) fun i => d (spymake_Stream_Next_k' i) v := fun (v0, v1, v2, v3) => (.br .some (.bnd (hspymake_Stream_Next_k _) fun _ => .some))
theorem f_b (k : Nat) : ∀ v : A, f k v = d (spymake_Stream_Next.f k) v := fun (v0, v1, v2, v3) => (held_eq _).trans (by kernel_rfl)
theorem F_of (v : A) {r : R} (h : d spymake_Stream_Next.F v = some r) : F v = some r :=
  join_of (l := fun L => f (L 0) v) (d := fun L => d (spymake_Stream_Next.f (L 0)) v) (fun L => f_b (L 0) v) (d_cn (spymake_Stream_Next.F_cn 0) v) h
noncomputable def spec (k : Nat) (args : List AV) (ss : List Slot) : Option Ans :=
  match args, ss with
  | [(.c (.ptr 128000000 0)), (.c (.int .i64 v0)), (.c (.int .i64 v1))], [(.box [(.frz (.int .i64) v2), (.int .i64 v3)])] => some ⟨R, f k (v0, v1, v2, v3), enc⟩
  | _, _ => none
theorem spec_ok (k : Nat) : SpecOk Try.prog 23 (spec k) := by
  intro args ss ans x h hx X σ w vals hp
  unfold spec at h
  split at h
  · cases h
    exact spec_of cs_ok Try.func23 rfl rfl dec_ok (held_eq _).symm hx hp
  · cases h
end spymake_Stream_Range
noncomputable def t_spymake_Stream_Range (k : Nat) := tcons 23 (spymake_Stream_Range.spec k) (t_spymake_Stream_Next k)
theorem t_spymake_Stream_Range_ok (n g : Nat) : SpecOk Try.prog g (t_spymake_Stream_Range n g) := tcons_ok (spymake_Stream_Range.spec_ok n) (fun g => t_spymake_Stream_Next_ok n g) g
namespace spymake_Stream_Axis
abbrev R : Type := Int × Int × Int × Int × List Int × Int
abbrev A : Type := List Int × Int
def lv : List (Nat × List Nat) := [(2000000, [2]), (1000006, [0, 2, 3, 4]), (1000009, [2, 3, 4, 5, 6])]
noncomputable def cs : Nat → Ctx := ctxOf tis modes t_spymake_Stream_Range lv
theorem cs_ok (n : Nat) : CtxOk Try.prog (cs n) := ctxOf_ok rfl tis_ok t_spymake_Stream_Range_ok n
def enc (r : R) : Out := ((.agg [(.int .i64 r.1), (.int .i64 r.2.1), (.int .i64 r.2.2.1), (.int .i64 r.2.2.2.1)]), [(.box [(.frz (.int .i64) r.2.2.2.2.1), (.int .i64 r.2.2.2.2.2)])])
def dec : Out → Option R
  | ((.agg [(.int .i64 v0), (.int .i64 v1), (.int .i64 v2), (.int .i64 v3)]), [(.box [(.frz (.int .i64) v4), (.int .i64 v5)])]) => some (v0, v1, v2, v3, v4, v5)
  | _ => none
theorem dec_ok : ∀ u y, dec u = some y → u = enc y := by
  intro u y h
  unfold dec at h
  split at h
  · cases h; rfl
  · cases h
noncomputable def b0 : Code := subF [] Try.f20
noncomputable def K0 (k : Nat) : Kt R := kTop (cs k) Try.f20 dec
noncomputable def c1000006 : Code := sub [1, 1, 1, 1] b0
noncomputable def J1000006 ( k : Nat) : Kt R := kAt (cs k) (loopN cs k) [1, 1, 1, 1] b0 (K0 k)
noncomputable def c1000009 : Code := sub [1, 1, 1, 1, 1, 1] b0
noncomputable def J1000009 ( k : Nat) : Kt R := kAt (cs k) (loopN cs k) [1, 1, 1, 1, 1, 1] b0 (K0 k)
abbrev T0 : Type := Int × Int × List Int × Int × Int × Int × Int × Int
def s0 : T0 → St := fun (v0, v1, v2, v3, v4, v5, v6, v7) => ⟨56, 1, [(0, (.c (.ptr 128000000 0))), (2, (.c (.ptr 64000000 0))), (3, (.c (.int .i64 v0))), (4, (.c (.int .i64 v1)))], [], [(128000000, (.box [(.frz (.int .i64) v2), (.int .i64 v3)])), (256000000, .gone), (64000000, (.box [(.int .i64 v4), (.int .i64 v5), (.int .i64 v6), (.int .i64 v7)]))]⟩
noncomputable def l0 ( k : Nat) (v : T0) : Option R := held (run (cs k) (loopN cs k) c1000006 (J1000006 k) (s0 v))
noncomputable def D0 (v : T0) : Option R := lim fun L => l0 (L 0) v
theorem D0_cn (v : T0) : Cn late (D0 v) fun L => l0 (L 0) v := of_lim
abbrev T1 : Type := Int × Int × Int × Int × List Int × Int × Int × Int × Int × Int
def s1 : T1 → St := fun (v0, v1, v2, v3, v4, v5, v6, v7, v8, v9) => ⟨56, 1, [(2, (.c (.ptr 64000000 0))), (3, (.c (.int .i64 v0))), (4, (.c (.int .i64 v1))), (5, (.c (.int .i64 v2))), (6, (.c (.int .i64 v3)))], [], [(128000000, (.box [(.frz (.int .i64) v4), (.int .i64 v5)])), (256000000, .gone), (64000000, (.box [(.int .i64 v6), (.int .i64 v7), (.int .i64 v8), (.int .i64 v9)]))]⟩
noncomputable def l1 ( k : Nat) (v : T1) : Option R := held (run (cs k) (loopN cs k) c1000009 (J1000009 k) (s1 v))
noncomputable def D1 (v : T1) : Option R := lim fun L => l1 (L 0) v
theorem D1_cn (v : T1) : Cn late (D1 v) fun L => l1 (L 0) v := of_lim
def d0 (spymake_Stream_Range_k : spymake_Stream_Range.A → Option spymake_Stream_Range.R) (spymake_Stream_Next_k : spymake_Stream_Next.A → Option spymake_Stream_Next.R) (L1k : T1 → Option R) : T0 → Option R := fun (v0, v1, v2, v3, v4, v5, v6, v7) =>
bnd (spymake_Stream_Range_k (0, 6, v2, v3)) fun r =>
  bnd (spymake_Stream_Range_k (1, 6, r.snd.fst, r.snd.snd)) fun r_1 =>
    bnd (spymake_Stream_Next_k (4, r_1.snd.fst, r_1.snd.snd)) fun r_2 =>
      br (decide (r_2.fst = 0))
        (bnd (spymake_Stream_Next_k (1048576, r_2.snd.fst, r_2.snd.snd)) fun r_3 =>
          bnd (spymake_Stream_Next_k (1048576, r_3.snd.fst, r_3.snd.snd)) fun r_4 =>
            L1k
              (v0, v1, wrap IntKind.i64 (wrap IntKind.i64 (wrap IntKind.i64 (0 - r.fst) * 1073741824) + r_3.fst), wrap IntKind.i64 (wrap IntKind.i64 (r_1.fst * 1073741824) - r_4.fst), r_4.snd.fst, r_4.snd.snd, v4, v5,
                v6, v7))
        (L1k (v0, v1, wrap IntKind.i64 (wrap IntKind.i64 (0 - r.fst) * 1073741824), wrap IntKind.i64 (r_1.fst * 1073741824), r_2.snd.fst, r_2.snd.snd, v4, v5, v6, v7))
theorem d0_cn {ι : Type} {E : Fil ι} {spymake_Stream_Range_k : spymake_Stream_Range.A → Option spymake_Stream_Range.R} {spymake_Stream_Range_k' : ι → spymake_Stream_Range.A → Option spymake_Stream_Range.R} (hspymake_Stream_Range_k : ∀ v, Cn E (spymake_Stream_Range_k v) fun i => spymake_Stream_Range_k' i v) {spymake_Stream_Next_k : spymake_Stream_Next.A → Option spymake_Stream_Next.R} {spymake_Stream_Next_k' : ι → spymake_Stream_Next.A → Option spymake_Stream_Next.R} (hspymake_Stream_Next_k : ∀ v, Cn E (spymake_Stream_Next_k v) fun i => spymake_Stream_Next_k' i v) {L1k : T1 → Option R} {L1k' : ι → T1 → Option R} (hL1k : ∀ v, Cn E (L1k v) fun i => L1k' i v) : ∀ v : T0, Cn E (d0 spymake_Stream_Range_k spymake_Stream_Next_k L1k v) fun i => d0 (spymake_Stream_Range_k' i) (spymake_Stream_Next_k' i) (L1k' i) v := fun (v0, v1, v2, v3, v4, v5, v6, v7) => (.bnd (hspymake_Stream_Range_k _) fun _ => (.bnd (hspymake_Stream_Range_k _) fun _ => (.bnd (hspymake_Stream_Next_k _) fun _ => (.br (.bnd (hspymake_Stream_Next_k _) fun _ => (.bnd (hspymake_Stream_Next_k _) fun _ => (hL1k _))) (hL1k _)))))
theorem l0_b ( k : Nat) : ∀ v : T0, run (cs k) (loopN cs k) c1000006 (J1000006 k) (s0 v) = d0 (spymake_Stream_Range.f k) (spymake_Stream_Next.f k) (l1 k) v := fun (v0, v1, v2, v3, v4, v5, v6, v7) => by kernel_rfl
theorem D0_of (v : T0) {r : R} (h : d0 spymake_Stream_Range.F spymake_Stream_Next.F D1 v = some r) : D0 v = some r :=
  join_of (l := fun L => l0 (L 0) v) (d := fun L => d0 (spymake_Stream_Range.f (L 0)) (spymake_Stream_Next.f (L 0)) (l1 (L 0)) v) (fun L => (held_eq _).trans (l0_b (L 0) v)) (d0_cn (spymake_Stream_Range.F_cn 0) (spymake_Stream_Next.F_cn 0) (fun v => (D1_cn v).re [0]) v) h
def d1 : T1 → Option R := fun (v0, v1, v2, v3, v4, v5, v6, v7, v8, v9) =>
some (v2, v3, v0, v1, v4, v5)
theorem d1_cn {ι : Type} {E : Fil ι} : ∀ v : T1, Cn E (d1 v) fun i => d1 v := fun (v0, v1, v2, v3, v4, v5, v6, v7, v8, v9) => .some
theorem l1_b ( k : Nat) : ∀ v : T1, run (cs k) (loopN cs k) c1000009 (J1000009 k) (s1 v) = d1 v := fun (v0, v1, v2, v3, v4, v5, v6, v7, v8, v9) => by kernel_rfl
theorem D1_of (v : T1) {r : R} (h : d1 v = some r) : D1 v = some r :=
  join_of (l := fun L => l1 (L 0) v) (d := fun L => d1 v) (fun L => (held_eq _).trans (l1_b (L 0) v)) (d1_cn v) h
noncomputable def f (k : Nat) : A → Option R := fun (v0, v1) => held (runFn cs k Try.f20 [(.c (.ptr 128000000 0))] [(.box [(.frz (.int .i64) v0), (.int .i64 v1)])] dec)
noncomputable def F (v : A) : Option R := lim fun L => f (L 0) v
theorem F_cn (x : Nat) (v : A) : Cn late (F v) fun L => f (L x) v := of_lim.re [x]
def d (spymake_Stream_Range_k : spymake_Stream_Range.A → Option spymake_Stream_Range.R) (spymake_Stream_Next_k : spymake_Stream_Next.A → Option spymake_Stream_Next.R) (L0k : T0 → Option R) : A → Option R := fun (v0, v1) =>
bnd (spymake_Stream_Range_k (24, 30, v0, v1)) fun r =>
  br (decide (0 ≤ r.fst))
    (bnd (spymake_Stream_Range_k (1, 8, r.snd.fst, r.snd.snd)) fun r_1 =>
      br (!decide (r_1.fst = 0))
        (bnd (spymake_Stream_Next_k (3, r_1.snd.fst, r_1.snd.snd)) fun r_2 =>
          br (decide (r_2.fst = 0))
            (bnd (spymake_Stream_Next_k (1000, r_2.snd.fst, r_2.snd.snd)) fun r_3 =>
              br (decide ((0 : Int) ≤ 10))
                (bnd (spymake_Stream_Next_k (1000, r_3.snd.fst, r_3.snd.snd)) fun r_4 =>
                  L0k
                    (wrap IntKind.i64 (shl IntKind.i64 1 r.fst - wrap IntKind.i64 (r_3.fst * min 1 (shr IntKind.i64 (wrap IntKind.i64 (shl IntKind.i64 1 r.fst - 16777216)) 10))),
                      min (wrap IntKind.i64 (wrap IntKind.i64 ((shl IntKind.i64 1 r.fst).tdiv r_1.fst) + r_4.fst))
                        (wrap IntKind.i64 (shl IntKind.i64 1 r.fst - wrap IntKind.i64 (r_3.fst * min 1 (shr IntKind.i64 (wrap IntKind.i64 (shl IntKind.i64 1 r.fst - 16777216)) 10)))),
                      r_4.snd.fst, r_4.snd.snd, 0, 0, 0, 0))
                none)
            (L0k (shl IntKind.i64 1 r.fst, wrap IntKind.i64 ((shl IntKind.i64 1 r.fst).tdiv r_1.fst), r_2.snd.fst, r_2.snd.snd, 0, 0, 0, 0)))
        none)
    none
theorem d_cn {ι : Type} {E : Fil ι} {spymake_Stream_Range_k : spymake_Stream_Range.A → Option spymake_Stream_Range.R} {spymake_Stream_Range_k' : ι → spymake_Stream_Range.A → Option spymake_Stream_Range.R} (hspymake_Stream_Range_k : ∀ v, Cn E (spymake_Stream_Range_k v) fun i => spymake_Stream_Range_k' i v) {spymake_Stream_Next_k : spymake_Stream_Next.A → Option spymake_Stream_Next.R} {spymake_Stream_Next_k' : ι → spymake_Stream_Next.A → Option spymake_Stream_Next.R} (hspymake_Stream_Next_k : ∀ v, Cn E (spymake_Stream_Next_k v) fun i => spymake_Stream_Next_k' i v) {L0k : T0 → Option R} {L0k' : ι → T0 → Option R} (hL0k : ∀ v, Cn E (L0k v) fun i => L0k' i v) : ∀ v : A, Cn E (d spymake_Stream_Range_k spymake_Stream_Next_k L0k v) fun i => d (spymake_Stream_Range_k' i) (spymake_Stream_Next_k' i) (L0k' i) v := fun (v0, v1) => (.bnd (hspymake_Stream_Range_k _) fun _ => (.br (.bnd (hspymake_Stream_Range_k _) fun _ => (.br (.bnd (hspymake_Stream_Next_k _) fun _ => (.br (.bnd (hspymake_Stream_Next_k _) fun _ => (.br (.bnd (hspymake_Stream_Next_k _) fun _ => (hL0k _)) .none)) (hL0k _))) .none)) .none))
theorem f_b (k : Nat) : ∀ v : A, f k v = d (spymake_Stream_Range.f k) (spymake_Stream_Next.f k) (l0 k) v := fun (v0, v1) => (held_eq _).trans (by kernel_rfl)
theorem F_of (v : A) {r : R} (h : d spymake_Stream_Range.F spymake_Stream_Next.F D0 v = some r) : F v = some r :=
  join_of (l := fun L => f (L 0) v) (d := fun L => d (spymake_Stream_Range.f (L 0)) (spymake_Stream_Next.f (L 0)) (l0 (L 0)) v) (fun L => f_b (L 0) v) (d_cn (spymake_Stream_Range.F_cn 0) (spymake_Stream_Next.F_cn 0) (fun v => (D0_cn v).re [0]) v) h
noncomputable def spec (k : Nat) (args : List AV) (ss : List Slot) : Option Ans :=
  match args, ss with
  | [(.c (.ptr 128000000 0))], [(.box [(.frz (.int .i64) v0), (.int .i64 v1)])] => some ⟨R, f k (v0, v1), enc⟩
  | _, _ => none
theorem spec_ok (k : Nat) : SpecOk Try.prog 20 (spec k) := by
  intro args ss ans x h hx X σ w vals hp
  unfold spec at h
  split at h
  · cases h
    exact spec_of cs_ok Try.func20 rfl rfl dec_ok (held_eq _).symm hx hp
  · cases h
end spymake_Stream_Axis
noncomputable def t_spymake_Stream_Axis (k : Nat) := tcons 20 (spymake_Stream_Axis.spec k) (t_spymake_Stream_Range k)
theorem t_spymake_Stream_Axis_ok (n g : Nat) : SpecOk Try.prog g (t_spymake_Stream_Axis n g) := tcons_ok (spymake_Stream_Axis.spec_ok n) (fun g => t_spymake_Stream_Range_ok n g) g
namespace spymake_Stream_Inside
abbrev R : Type := Int × List Int × Int
abbrev A : Type := Int × Int × Int × Int × List Int × Int
def lv : List (Nat × List Nat) := [(2000000, [4])]
noncomputable def cs : Nat → Ctx := ctxOf tis modes t_spymake_Stream_Axis lv
theorem cs_ok (n : Nat) : CtxOk Try.prog (cs n) := ctxOf_ok rfl tis_ok t_spymake_Stream_Axis_ok n
def enc (r : R) : Out := ((.c (.int .i64 r.1)), [(.box [(.frz (.int .i64) r.2.1), (.int .i64 r.2.2)])])
def dec : Out → Option R
  | ((.c (.int .i64 v0)), [(.box [(.frz (.int .i64) v1), (.int .i64 v2)])]) => some (v0, v1, v2)
  | _ => none
theorem dec_ok : ∀ u y, dec u = some y → u = enc y := by
  intro u y h
  unfold dec at h
  split at h
  · cases h; rfl
  · cases h
noncomputable def b0 : Code := subF [] Try.f22
noncomputable def K0 (k : Nat) : Kt R := kTop (cs k) Try.f22 dec
noncomputable def f (k : Nat) : A → Option R := fun (v0, v1, v2, v3, v4, v5) => held (runFn cs k Try.f22 [(.c (.ptr 128000000 0)), (.agg [(.int .i64 v0), (.int .i64 v1), (.int .i64 v2), (.int .i64 v3)])] [(.box [(.frz (.int .i64) v4), (.int .i64 v5)])] dec)
noncomputable def F (v : A) : Option R := lim fun L => f (L 0) v
theorem F_cn (x : Nat) (v : A) : Cn late (F v) fun L => f (L x) v := of_lim.re [x]
def d (spymake_Stream_Next_k : spymake_Stream_Next.A → Option spymake_Stream_Next.R) : A → Option R := fun (v0, v1, v2, v3, v4, v5) =>
bnd (spymake_Stream_Next_k (6, v4, v5)) fun r =>
  br (decide (r.fst = 0)) (some (v0, r.snd.fst, r.snd.snd))
    (br (decide (r.fst = 1)) (some (v1, r.snd.fst, r.snd.snd))
      (br (!decide (1000 = 0))
        (bnd (spymake_Stream_Next_k (1000, r.snd.fst, r.snd.snd)) fun r =>
          bnd (spymake_Stream_Next_k (wrap IntKind.i64 (wrap IntKind.i64 ((wrap IntKind.i64 (v1 - v0)).tdiv 1000) + 1), r.snd.fst, r.snd.snd)) fun r_1 =>
            some (wrap IntKind.i64 (wrap IntKind.i64 (v0 + wrap IntKind.i64 (wrap IntKind.i64 ((wrap IntKind.i64 (v1 - v0)).tdiv 1000) * r.fst)) + r_1.fst), r_1.snd.fst, r_1.snd.snd))
        none))
theorem d_cn {ι : Type} {E : Fil ι} {spymake_Stream_Next_k : spymake_Stream_Next.A → Option spymake_Stream_Next.R} {spymake_Stream_Next_k' : ι → spymake_Stream_Next.A → Option spymake_Stream_Next.R} (hspymake_Stream_Next_k : ∀ v, Cn E (spymake_Stream_Next_k v) fun i => spymake_Stream_Next_k' i v) : ∀ v : A, Cn E (d spymake_Stream_Next_k v) fun i => d (spymake_Stream_Next_k' i) v := fun (v0, v1, v2, v3, v4, v5) => (.bnd (hspymake_Stream_Next_k _) fun _ => (.br .some (.br .some (.br (.bnd (hspymake_Stream_Next_k _) fun _ => (.bnd (hspymake_Stream_Next_k _) fun _ => .some)) .none))))
theorem f_b (k : Nat) : ∀ v : A, f k v = d (spymake_Stream_Next.f k) v := fun (v0, v1, v2, v3, v4, v5) => (held_eq _).trans (by kernel_rfl)
theorem F_of (v : A) {r : R} (h : d spymake_Stream_Next.F v = some r) : F v = some r :=
  join_of (l := fun L => f (L 0) v) (d := fun L => d (spymake_Stream_Next.f (L 0)) v) (fun L => f_b (L 0) v) (d_cn (spymake_Stream_Next.F_cn 0) v) h
noncomputable def spec (k : Nat) (args : List AV) (ss : List Slot) : Option Ans :=
  match args, ss with
  | [(.c (.ptr 128000000 0)), (.agg [(.int .i64 v0), (.int .i64 v1), (.int .i64 v2), (.int .i64 v3)])], [(.box [(.frz (.int .i64) v4), (.int .i64 v5)])] => some ⟨R, f k (v0, v1, v2, v3, v4, v5), enc⟩
  | _, _ => none
theorem spec_ok (k : Nat) : SpecOk Try.prog 22 (spec k) := by
  intro args ss ans x h hx X σ w vals hp
  unfold spec at h
  split at h
  · cases h
    exact spec_of cs_ok Try.func22 rfl rfl dec_ok (held_eq _).symm hx hp
  · cases h
end spymake_Stream_Inside
noncomputable def t_spymake_Stream_Inside (k : Nat) := tcons 22 (spymake_Stream_Inside.spec k) (t_spymake_Stream_Axis k)
theorem t_spymake_Stream_Inside_ok (n g : Nat) : SpecOk Try.prog g (t_spymake_Stream_Inside n g) := tcons_ok (spymake_Stream_Inside.spec_ok n) (fun g => t_spymake_Stream_Axis_ok n g) g
namespace spymake_Stream_Mount
abbrev R : Type := Int × Int × Int × Int × Int × Int × Int × Int × Int × Int × List Int × Int
abbrev A : Type := List Int × Int
def lv : List (Nat × List Nat) := [(2000000, [2]), (1000004, [0, 2, 3]), (1000006, [0, 2, 3])]
noncomputable def cs : Nat → Ctx := ctxOf tis modes t_spymake_Stream_Inside lv
theorem cs_ok (n : Nat) : CtxOk Try.prog (cs n) := ctxOf_ok rfl tis_ok t_spymake_Stream_Inside_ok n
def enc (r : R) : Out := ((.agg [(.int .i64 r.1), (.int .i64 r.2.1), (.int .i64 r.2.2.1), (.int .i64 r.2.2.2.1), (.int .i64 r.2.2.2.2.1), (.int .i64 r.2.2.2.2.2.1), (.int .i64 r.2.2.2.2.2.2.1), (.int .i64 r.2.2.2.2.2.2.2.1), (.int .i64 r.2.2.2.2.2.2.2.2.1), (.int .i64 r.2.2.2.2.2.2.2.2.2.1)]), [(.box [(.frz (.int .i64) r.2.2.2.2.2.2.2.2.2.2.1), (.int .i64 r.2.2.2.2.2.2.2.2.2.2.2)])])
def dec : Out → Option R
  | ((.agg [(.int .i64 v0), (.int .i64 v1), (.int .i64 v2), (.int .i64 v3), (.int .i64 v4), (.int .i64 v5), (.int .i64 v6), (.int .i64 v7), (.int .i64 v8), (.int .i64 v9)]), [(.box [(.frz (.int .i64) v10), (.int .i64 v11)])]) => some (v0, v1, v2, v3, v4, v5, v6, v7, v8, v9, v10, v11)
  | _ => none
theorem dec_ok : ∀ u y, dec u = some y → u = enc y := by
  intro u y h
  unfold dec at h
  split at h
  · cases h; rfl
  · cases h
noncomputable def b0 : Code := subF [] Try.f6
noncomputable def K0 (k : Nat) : Kt R := kTop (cs k) Try.f6 dec
noncomputable def c1000004 : Code := sub [1, 1, 1] b0
noncomputable def J1000004 ( k : Nat) : Kt R := kAt (cs k) (loopN cs k) [1, 1, 1] b0 (K0 k)
noncomputable def c1000006 : Code := sub [1, 1, 1, 1] b0
noncomputable def J1000006 ( k : Nat) : Kt R := kAt (cs k) (loopN cs k) [1, 1, 1, 1] b0 (K0 k)
abbrev T0 : Type := List Int × Int × Int × Int × Int × Int × Int × Int × Int × Int × Int × Int × Int × Int × Int × Int × Int × Int × Int × Int × Int × Int
def s0 : T0 → St := fun (v0, v1, v2, v3, v4, v5, v6, v7, v8, v9, v10, v11, v12, v13, v14, v15, v16, v17, v18, v19, v20, v21) => ⟨34, 1, [(0, (.c (.ptr 128000000 0))), (2, (.c (.ptr 64000000 0))), (3, (.c (.ptr 64000001 0)))], [], [(128000000, (.box [(.frz (.int .i64) v0), (.int .i64 v1)])), (256000000, .gone), (64000000, (.box [(.int .i64 v2), (.int .i64 v3), (.int .i64 v4), (.int .i64 v5), (.int .i64 v6), (.int .i64 v7), (.int .i64 v8), (.int .i64 v9), (.int .i64 v10), (.int .i64 v11)])), (64000001, (.box [(.int .i64 v12), (.int .i64 v13), (.int .i64 v14), (.int .i64 v15), (.int .i64 v16), (.int .i64 v17), (.int .i64 v18), (.int .i64 v19), (.int .i64 v20), (.int .i64 v21)]))]⟩
noncomputable def l0 ( k : Nat) (v : T0) : Option R := held (run (cs k) (loopN cs k) c1000004 (J1000004 k) (s0 v))
noncomputable def D0 (v : T0) : Option R := lim fun L => l0 (L 0) v
theorem D0_cn (v : T0) : Cn late (D0 v) fun L => l0 (L 0) v := of_lim
abbrev T1 : Type := List Int × Int × Int × Int × Int × Int × Int × Int × Int × Int × Int × Int × Int × Int × Int × Int × Int × Int × Int × Int × Int × Int
def s1 : T1 → St := fun (v0, v1, v2, v3, v4, v5, v6, v7, v8, v9, v10, v11, v12, v13, v14, v15, v16, v17, v18, v19, v20, v21) => ⟨34, 1, [(0, (.c (.ptr 128000000 0))), (2, (.c (.ptr 64000000 0))), (3, (.c (.ptr 64000001 0)))], [], [(128000000, (.box [(.frz (.int .i64) v0), (.int .i64 v1)])), (256000000, .gone), (64000000, (.box [(.int .i64 v2), (.int .i64 v3), (.int .i64 v4), (.int .i64 v5), (.int .i64 v6), (.int .i64 v7), (.int .i64 v8), (.int .i64 v9), (.int .i64 v10), (.int .i64 v11)])), (64000001, (.box [(.int .i64 v12), (.int .i64 v13), (.int .i64 v14), (.int .i64 v15), (.int .i64 v16), (.int .i64 v17), (.int .i64 v18), (.int .i64 v19), (.int .i64 v20), (.int .i64 v21)]))]⟩
noncomputable def l1 ( k : Nat) (v : T1) : Option R := held (run (cs k) (loopN cs k) c1000006 (J1000006 k) (s1 v))
noncomputable def D1 (v : T1) : Option R := lim fun L => l1 (L 0) v
theorem D1_cn (v : T1) : Cn late (D1 v) fun L => l1 (L 0) v := of_lim
def d0 (spymake_Stream_Next_k : spymake_Stream_Next.A → Option spymake_Stream_Next.R) (L1k : T1 → Option R) : T0 → Option R := fun (v0, v1, v2, v3, v4, v5, v6, v7, v8, v9, v10, v11, v12, v13, v14, v15, v16, v17, v18, v19, v20, v21) =>
bnd (spymake_Stream_Next_k (3, v0, v1)) fun r =>
  br (decide (0 < r.fst)) (L1k (r.snd.fst, r.snd.snd, v2, v3, v4, v5, v6, v7, v8, v9, v10, v11, v12, v13, v14, v15, -1073741824, 1073741824, v18, v19, v20, v21))
    (L1k (r.snd.fst, r.snd.snd, v2, v3, v4, v5, v6, v7, v8, v9, v10, v11, v12, v13, v14, v15, v16, v17, v18, v19, v20, v21))
theorem d0_cn {ι : Type} {E : Fil ι} {spymake_Stream_Next_k : spymake_Stream_Next.A → Option spymake_Stream_Next.R} {spymake_Stream_Next_k' : ι → spymake_Stream_Next.A → Option spymake_Stream_Next.R} (hspymake_Stream_Next_k : ∀ v, Cn E (spymake_Stream_Next_k v) fun i => spymake_Stream_Next_k' i v) {L1k : T1 → Option R} {L1k' : ι → T1 → Option R} (hL1k : ∀ v, Cn E (L1k v) fun i => L1k' i v) : ∀ v : T0, Cn E (d0 spymake_Stream_Next_k L1k v) fun i => d0 (spymake_Stream_Next_k' i) (L1k' i) v := fun (v0, v1, v2, v3, v4, v5, v6, v7, v8, v9, v10, v11, v12, v13, v14, v15, v16, v17, v18, v19, v20, v21) => (.bnd (hspymake_Stream_Next_k _) fun _ => (.br (hL1k _) (hL1k _)))
theorem l0_b ( k : Nat) : ∀ v : T0, run (cs k) (loopN cs k) c1000004 (J1000004 k) (s0 v) = d0 (spymake_Stream_Next.f k) (l1 k) v := fun (v0, v1, v2, v3, v4, v5, v6, v7, v8, v9, v10, v11, v12, v13, v14, v15, v16, v17, v18, v19, v20, v21) => by kernel_rfl
theorem D0_of (v : T0) {r : R} (h : d0 spymake_Stream_Next.F D1 v = some r) : D0 v = some r :=
  join_of (l := fun L => l0 (L 0) v) (d := fun L => d0 (spymake_Stream_Next.f (L 0)) (l1 (L 0)) v) (fun L => (held_eq _).trans (l0_b (L 0) v)) (d0_cn (spymake_Stream_Next.F_cn 0) (fun v => (D1_cn v).re [0]) v) h
def d1 (spymake_Stream_Inside_k : spymake_Stream_Inside.A → Option spymake_Stream_Inside.R) : T1 → Option R := fun (v0, v1, v2, v3, v4, v5, v6, v7, v8, v9, v10, v11, v12, v13, v14, v15, v16, v17, v18, v19, v20, v21) =>
bnd (spymake_Stream_Inside_k (v12, v13, v14, v15, v0, v1)) fun r =>
  bnd (spymake_Stream_Inside_k (v16, v17, v18, v19, r.snd.fst, r.snd.snd)) fun r_1 => some (v12, v13, v14, v15, v16, v17, v18, v19, r.fst, r_1.fst, r_1.snd.fst, r_1.snd.snd)
theorem d1_cn {ι : Type} {E : Fil ι} {spymake_Stream_Inside_k : spymake_Stream_Inside.A → Option spymake_Stream_Inside.R} {spymake_Stream_Inside_k' : ι → spymake_Stream_Inside.A → Option spymake_Stream_Inside.R} (hspymake_Stream_Inside_k : ∀ v, Cn E (spymake_Stream_Inside_k v) fun i => spymake_Stream_Inside_k' i v) : ∀ v : T1, Cn E (d1 spymake_Stream_Inside_k v) fun i => d1 (spymake_Stream_Inside_k' i) v := fun (v0, v1, v2, v3, v4, v5, v6, v7, v8, v9, v10, v11, v12, v13, v14, v15, v16, v17, v18, v19, v20, v21) => (.bnd (hspymake_Stream_Inside_k _) fun _ => (.bnd (hspymake_Stream_Inside_k _) fun _ => .some))
theorem l1_b ( k : Nat) : ∀ v : T1, run (cs k) (loopN cs k) c1000006 (J1000006 k) (s1 v) = d1 (spymake_Stream_Inside.f k) v := fun (v0, v1, v2, v3, v4, v5, v6, v7, v8, v9, v10, v11, v12, v13, v14, v15, v16, v17, v18, v19, v20, v21) => by kernel_rfl
theorem D1_of (v : T1) {r : R} (h : d1 spymake_Stream_Inside.F v = some r) : D1 v = some r :=
  join_of (l := fun L => l1 (L 0) v) (d := fun L => d1 (spymake_Stream_Inside.f (L 0)) v) (fun L => (held_eq _).trans (l1_b (L 0) v)) (d1_cn (spymake_Stream_Inside.F_cn 0) v) h
noncomputable def f (k : Nat) : A → Option R := fun (v0, v1) => held (runFn cs k Try.f6 [(.c (.ptr 128000000 0))] [(.box [(.frz (.int .i64) v0), (.int .i64 v1)])] dec)
noncomputable def F (v : A) : Option R := lim fun L => f (L 0) v
theorem F_cn (x : Nat) (v : A) : Cn late (F v) fun L => f (L x) v := of_lim.re [x]
def d (spymake_Stream_Axis_k : spymake_Stream_Axis.A → Option spymake_Stream_Axis.R) (spymake_Stream_Next_k : spymake_Stream_Next.A → Option spymake_Stream_Next.R) (L0k : T0 → Option R) : A → Option R := fun (v0, v1) =>
bnd (spymake_Stream_Axis_k (v0, v1)) fun r =>
  bnd (spymake_Stream_Axis_k (r.snd.snd.snd.snd.fst, r.snd.snd.snd.snd.snd)) fun r_1 =>
    bnd (spymake_Stream_Next_k (3, r_1.snd.snd.snd.snd.fst, r_1.snd.snd.snd.snd.snd)) fun r_2 =>
      br (decide (0 < r_2.fst)) (L0k (r_2.snd.fst, r_2.snd.snd, 0, 0, 0, 0, 0, 0, 0, 0, 0, 0, -6442450944, 6442450944, r.snd.snd.fst, r.snd.snd.snd.fst, r_1.fst, r_1.snd.fst, r_1.snd.snd.fst, r_1.snd.snd.snd.fst, 0, 0))
        (L0k (r_2.snd.fst, r_2.snd.snd, 0, 0, 0, 0, 0, 0, 0, 0, 0, 0, r.fst, r.snd.fst, r.snd.snd.fst, r.snd.snd.snd.fst, r_1.fst, r_1.snd.fst, r_1.snd.snd.fst, r_1.snd.snd.snd.fst, 0, 0))
theorem d_cn {ι : Type} {E : Fil ι} {spymake_Stream_Axis_k : spymake_Stream_Axis.A → Option spymake_Stream_Axis.R} {spymake_Stream_Axis_k' : ι → spymake_Stream_Axis.A → Option spymake_Stream_Axis.R} (hspymake_Stream_Axis_k : ∀ v, Cn E (spymake_Stream_Axis_k v) fun i => spymake_Stream_Axis_k' i v) {spymake_Stream_Next_k : spymake_Stream_Next.A → Option spymake_Stream_Next.R} {spymake_Stream_Next_k' : ι → spymake_Stream_Next.A → Option spymake_Stream_Next.R} (hspymake_Stream_Next_k : ∀ v, Cn E (spymake_Stream_Next_k v) fun i => spymake_Stream_Next_k' i v) {L0k : T0 → Option R} {L0k' : ι → T0 → Option R} (hL0k : ∀ v, Cn E (L0k v) fun i => L0k' i v) : ∀ v : A, Cn E (d spymake_Stream_Axis_k spymake_Stream_Next_k L0k v) fun i => d (spymake_Stream_Axis_k' i) (spymake_Stream_Next_k' i) (L0k' i) v := fun (v0, v1) => (.bnd (hspymake_Stream_Axis_k _) fun _ => (.bnd (hspymake_Stream_Axis_k _) fun _ => (.bnd (hspymake_Stream_Next_k _) fun _ => (.br (hL0k _) (hL0k _)))))
theorem f_b (k : Nat) : ∀ v : A, f k v = d (spymake_Stream_Axis.f k) (spymake_Stream_Next.f k) (l0 k) v := fun (v0, v1) => (held_eq _).trans (by kernel_rfl)
theorem F_of (v : A) {r : R} (h : d spymake_Stream_Axis.F spymake_Stream_Next.F D0 v = some r) : F v = some r :=
  join_of (l := fun L => f (L 0) v) (d := fun L => d (spymake_Stream_Axis.f (L 0)) (spymake_Stream_Next.f (L 0)) (l0 (L 0)) v) (fun L => f_b (L 0) v) (d_cn (spymake_Stream_Axis.F_cn 0) (spymake_Stream_Next.F_cn 0) (fun v => (D0_cn v).re [0]) v) h
noncomputable def spec (k : Nat) (args : List AV) (ss : List Slot) : Option Ans :=
  match args, ss with
  | [(.c (.ptr 128000000 0))], [(.box [(.frz (.int .i64) v0), (.int .i64 v1)])] => some ⟨R, f k (v0, v1), enc⟩
  | _, _ => none
theorem spec_ok (k : Nat) : SpecOk Try.prog 6 (spec k) := by
  intro args ss ans x h hx X σ w vals hp
  unfold spec at h
  split at h
  · cases h
    exact spec_of cs_ok Try.func6 rfl rfl dec_ok (held_eq _).symm hx hp
  · cases h
end spymake_Stream_Mount
noncomputable def t_spymake_Stream_Mount (k : Nat) := tcons 6 (spymake_Stream_Mount.spec k) (t_spymake_Stream_Inside k)
theorem t_spymake_Stream_Mount_ok (n g : Nat) : SpecOk Try.prog g (t_spymake_Stream_Mount n g) := tcons_ok (spymake_Stream_Mount.spec_ok n) (fun g => t_spymake_Stream_Inside_ok n g) g
namespace spykeep2_script
abbrev R : Type := List Int × Int × List (List (Int × Int) × Bool × Bool × Bool × Bool × Bool)
abbrev A : Type := Int × Int × Int × Int × Int × Int × Int × Int × Int × Int × Int × List Int × Int
def lv : List (Nat × List Nat) := [(2000000, [6]), (3, [0, 4, 7, 10, 11]), (1000008, [0, 4, 7, 9, 10, 11]), (1000017, [0, 4, 7, 9, 10, 11]), (1000019, [0, 4, 7, 9, 10, 11]), (1000020, [0, 4, 7, 10, 11])]
noncomputable def cs : Nat → Ctx := ctxOf tis modes t_spymake_Stream_Mount lv
theorem cs_ok (n : Nat) : CtxOk Try.prog (cs n) := ctxOf_ok rfl tis_ok t_spymake_Stream_Mount_ok n
def enc (r : R) : Out := ((.c (.sl 128000001)), [(.box [(.frz (.int .i64) r.1), (.int .i64 r.2.1)]), (.row (.pair (.slice (.pair (.int .i64) (.int .i64))) (.pair .bool (.pair .bool (.pair .bool (.pair .bool .bool))))) r.2.2)])
def dec : Out → Option R
  | ((.c (.sl 128000001)), [(.box [(.frz (.int .i64) v0), (.int .i64 v1)]), (.row (.pair (.slice (.pair (.int .i64) (.int .i64))) (.pair .bool (.pair .bool (.pair .bool (.pair .bool .bool))))) v2)]) => some (v0, v1, v2)
  | _ => none
theorem dec_ok : ∀ u y, dec u = some y → u = enc y := by
  intro u y h
  unfold dec at h
  split at h
  · cases h; rfl
  · cases h
noncomputable def b0 : Code := subF [] Try.f7
noncomputable def K0 (k : Nat) : Kt R := kTop (cs k) Try.f7 dec
noncomputable def b3 : Code := sub [1, 1, 0, 1, 0, 0] b0
noncomputable def K3 ( k : Nat) : Kt R := kAt (cs k) (loopN cs k) [1, 1, 0, 1, 0] b0 (K0 k)
noncomputable def c1000020 : Code := sub [1, 1, 1] b3
noncomputable def J1000020 ( k m1 : Nat) : Kt R := kAt (cs m1) (loopN cs m1) [1, 1, 1] b3 (kLoop cs m1 b3 (K3 k))
noncomputable def c1000008 : Code := sub [1, 1, 0, 0, 1, 1, 1] b3
noncomputable def J1000008 ( k m1 : Nat) : Kt R := kAt (cs m1) (loopN cs m1) [1, 1, 0, 0, 1, 1, 1] b3 (kLoop cs m1 b3 (K3 k))
noncomputable def c1000017 : Code := sub [1, 1, 0, 0, 1, 1, 1, 1] b3
noncomputable def J1000017 ( k m1 : Nat) : Kt R := kAt (cs m1) (loopN cs m1) [1, 1, 0, 0, 1, 1, 1, 1] b3 (kLoop cs m1 b3 (K3 k))
noncomputable def c1000019 : Code := sub [1, 1, 0, 0, 1, 1, 1, 1, 1] b3
noncomputable def J1000019 ( k m1 : Nat) : Kt R := kAt (cs m1) (loopN cs m1) [1, 1, 0, 0, 1, 1, 1, 1, 1] b3 (kLoop cs m1 b3 (K3 k))
abbrev T0 : Type := Int × Int × List Int × Int × Int × Int × Int × Int × Int × Int × Int × Int × Int × Int × List (List (Int × Int) × Bool × Bool × Bool × Bool × Bool)
def s0 : T0 → St := fun (v0, v1, v2, v3, v4, v5, v6, v7, v8, v9, v10, v11, v12, v13, v14) => ⟨103, 1, [(0, (.c (.ptr 128000000 0))), (4, (.c (.ptr 64000000 0))), (7, (.c (.sl 64000001))), (10, (.c (.int .i64 v0))), (11, (.c (.int .i64 v1)))], [], [(128000000, (.box [(.frz (.int .i64) v2), (.int .i64 v3)])), (256000000, .gone), (64000000, (.box [(.int .i64 v4), (.int .i64 v5), (.int .i64 v6), (.int .i64 v7), (.int .i64 v8), (.int .i64 v9), (.int .i64 v10), (.int .i64 v11), (.int .i64 v12), (.int .i64 v13)])), (64000001, (.row (.pair (.slice (.pair (.int .i64) (.int .i64))) (.pair .bool (.pair .bool (.pair .bool (.pair .bool .bool))))) v14))]⟩
noncomputable def l0 ( k n : Nat) (v : T0) : Option R := held (loopN cs n b3 (K3 k) (s0 v))
noncomputable def D0 (v : T0) : Option R := lim fun L => l0 (L 0) (L 1) v
theorem D0_cn (v : T0) : Cn late (D0 v) fun L => l0 (L 0) (L 1) v := of_lim
abbrev T1 : Type := Int × Int × List Int × Int × Int × Int × Int × Int × Int × Int × Int × Int × Int × Int × List (List (Int × Int) × Bool × Bool × Bool × Bool × Bool) × Bool × Bool × Bool × Bool × Bool × List (Int × Int)
def s1 : T1 → St := fun (v0, v1, v2, v3, v4, v5, v6, v7, v8, v9, v10, v11, v12, v13, v14, v15, v16, v17, v18, v19, v20) => ⟨103, 1, [(0, (.c (.ptr 128000000 0))), (4, (.c (.ptr 64000000 0))), (7, (.c (.sl 64000001))), (9, (.c (.ptr 64000002 0))), (10, (.c (.int .i64 v0))), (11, (.c (.int .i64 v1)))], [], [(128000000, (.box [(.frz (.int .i64) v2), (.int .i64 v3)])), (256000000, .gone), (64000000, (.box [(.int .i64 v4), (.int .i64 v5), (.int .i64 v6), (.int .i64 v7), (.int .i64 v8), (.int .i64 v9), (.int .i64 v10), (.int .i64 v11), (.int .i64 v12), (.int .i64 v13)])), (64000001, (.row (.pair (.slice (.pair (.int .i64) (.int .i64))) (.pair .bool (.pair .bool (.pair .bool (.pair .bool .bool))))) v14)), (64000002, (.box [(.sl 64000003), (.bool v15), (.bool v16), (.bool v17), (.bool v18), (.bool v19)])), (64000003, (.row (.pair (.int .i64) (.int .i64)) v20))]⟩
noncomputable def l1 ( k m1 : Nat) (v : T1) : Option R := held (run (cs m1) (loopN cs m1) c1000008 (J1000008 k m1) (s1 v))
noncomputable def D1 (v : T1) : Option R := lim fun L => l1 (L 0) (L 1) v
theorem D1_cn (v : T1) : Cn late (D1 v) fun L => l1 (L 0) (L 1) v := of_lim
abbrev T2 : Type := Int × Int × List Int × Int × Int × Int × Int × Int × Int × Int × Int × Int × Int × Int × List (List (Int × Int) × Bool × Bool × Bool × Bool × Bool) × Bool × Bool × Bool × Bool × Bool × List (Int × Int)
def s2 : T2 → St := fun (v0, v1, v2, v3, v4, v5, v6, v7, v8, v9, v10, v11, v12, v13, v14, v15, v16, v17, v18, v19, v20) => ⟨103, 1, [(0, (.c (.ptr 128000000 0))), (4, (.c (.ptr 64000000 0))), (7, (.c (.sl 64000001))), (9, (.c (.ptr 64000002 0))), (10, (.c (.int .i64 v0))), (11, (.c (.int .i64 v1)))], [], [(128000000, (.box [(.frz (.int .i64) v2), (.int .i64 v3)])), (256000000, .gone), (64000000, (.box [(.int .i64 v4), (.int .i64 v5), (.int .i64 v6), (.int .i64 v7), (.int .i64 v8), (.int .i64 v9), (.int .i64 v10), (.int .i64 v11), (.int .i64 v12), (.int .i64 v13)])), (64000001, (.row (.pair (.slice (.pair (.int .i64) (.int .i64))) (.pair .bool (.pair .bool (.pair .bool (.pair .bool .bool))))) v14)), (64000002, (.box [(.sl 64000003), (.bool v15), (.bool v16), (.bool v17), (.bool v18), (.bool v19)])), (64000003, (.row (.pair (.int .i64) (.int .i64)) v20))]⟩
noncomputable def l2 ( k m1 : Nat) (v : T2) : Option R := held (run (cs m1) (loopN cs m1) c1000017 (J1000017 k m1) (s2 v))
noncomputable def D2 (v : T2) : Option R := lim fun L => l2 (L 0) (L 1) v
theorem D2_cn (v : T2) : Cn late (D2 v) fun L => l2 (L 0) (L 1) v := of_lim
abbrev T3 : Type := Int × Int × List Int × Int × Int × Int × Int × Int × Int × Int × Int × Int × Int × Int × List (List (Int × Int) × Bool × Bool × Bool × Bool × Bool) × Bool × Bool × Bool × Bool × Bool × List (Int × Int)
def s3 : T3 → St := fun (v0, v1, v2, v3, v4, v5, v6, v7, v8, v9, v10, v11, v12, v13, v14, v15, v16, v17, v18, v19, v20) => ⟨103, 1, [(0, (.c (.ptr 128000000 0))), (4, (.c (.ptr 64000000 0))), (7, (.c (.sl 64000001))), (9, (.c (.ptr 64000002 0))), (10, (.c (.int .i64 v0))), (11, (.c (.int .i64 v1)))], [], [(128000000, (.box [(.frz (.int .i64) v2), (.int .i64 v3)])), (256000000, .gone), (64000000, (.box [(.int .i64 v4), (.int .i64 v5), (.int .i64 v6), (.int .i64 v7), (.int .i64 v8), (.int .i64 v9), (.int .i64 v10), (.int .i64 v11), (.int .i64 v12), (.int .i64 v13)])), (64000001, (.row (.pair (.slice (.pair (.int .i64) (.int .i64))) (.pair .bool (.pair .bool (.pair .bool (.pair .bool .bool))))) v14)), (64000002, (.box [(.sl 64000003), (.bool v15), (.bool v16), (.bool v17), (.bool v18), (.bool v19)])), (64000003, (.row (.pair (.int .i64) (.int .i64)) v20))]⟩
noncomputable def l3 ( k m1 : Nat) (v : T3) : Option R := held (run (cs m1) (loopN cs m1) c1000019 (J1000019 k m1) (s3 v))
noncomputable def D3 (v : T3) : Option R := lim fun L => l3 (L 0) (L 1) v
theorem D3_cn (v : T3) : Cn late (D3 v) fun L => l3 (L 0) (L 1) v := of_lim
abbrev T4 : Type := Int × Int × List Int × Int × Int × Int × Int × Int × Int × Int × Int × Int × Int × Int × List (List (Int × Int) × Bool × Bool × Bool × Bool × Bool)
def s4 : T4 → St := fun (v0, v1, v2, v3, v4, v5, v6, v7, v8, v9, v10, v11, v12, v13, v14) => ⟨103, 1, [(0, (.c (.ptr 128000000 0))), (4, (.c (.ptr 64000000 0))), (7, (.c (.sl 64000001))), (10, (.c (.int .i64 v0))), (11, (.c (.int .i64 v1)))], [], [(128000000, (.box [(.frz (.int .i64) v2), (.int .i64 v3)])), (256000000, .gone), (64000000, (.box [(.int .i64 v4), (.int .i64 v5), (.int .i64 v6), (.int .i64 v7), (.int .i64 v8), (.int .i64 v9), (.int .i64 v10), (.int .i64 v11), (.int .i64 v12), (.int .i64 v13)])), (64000001, (.row (.pair (.slice (.pair (.int .i64) (.int .i64))) (.pair .bool (.pair .bool (.pair .bool (.pair .bool .bool))))) v14))]⟩
noncomputable def l4 ( k m1 : Nat) (v : T4) : Option R := held (run (cs m1) (loopN cs m1) c1000020 (J1000020 k m1) (s4 v))
noncomputable def D4 (v : T4) : Option R := lim fun L => l4 (L 0) (L 1) v
theorem D4_cn (v : T4) : Cn late (D4 v) fun L => l4 (L 0) (L 1) v := of_lim
def d0 (L1m1 : T1 → Option R) : T0 → Option R := fun (v0, v1, v2, v3, v4, v5, v6, v7, v8, v9, v10, v11, v12, v13, v14) =>
br (decide (v1 < v0))
  (br (decide (v1 = 0))
    (br (decide (0 + [(13, 0), (6, 0)].length ≤ 140737488355328 / 16)) (L1m1 (v0, v1, v2, v3, v4, v5, v6, v7, v8, v9, v10, v11, v12, v13, v14, false, false, false, false, false, [] ++ [(13, 0), (6, 0)])) none)
    (L1m1 (v0, v1, v2, v3, v4, v5, v6, v7, v8, v9, v10, v11, v12, v13, v14, false, false, false, false, false, [])))
  (some (v2, v3, v14))
theorem d0_cn {ι : Type} {E : Fil ι} {L1m1 : T1 → Option R} {L1m1' : ι → T1 → Option R} (hL1m1 : ∀ v, Cn E (L1m1 v) fun i => L1m1' i v) : ∀ v : T0, Cn E (d0 L1m1 v) fun i => d0 (L1m1' i) v := fun (v0, v1, v2, v3, v4, v5, v6, v7, v8, v9, v10, v11, v12, v13, v14) => (.br (.br (.br (hL1m1 _) .none) (hL1m1 _)) .some)
theorem l0_b ( k m1 : Nat) : ∀ v : T0, run (cs m1) (loopN cs m1) b3 (kLoop cs m1 b3 (K3 k)) (s0 v) = d0 (l1 k m1) v := fun (v0, v1, v2, v3, v4, v5, v6, v7, v8, v9, v10, v11, v12, v13, v14) => by kernel_rfl
theorem D0_of (v : T0) {r : R} (h : d0 D1 v = some r) : D0 v = some r :=
  loop_of 1 (l := fun L => l0 (L 0) (L 1) v) (d := fun L => d0 (l1 (L 0) (L 1)) v) (fun L n hn => by show l0 (L 0) (L 1) v = _; rw [hn]; exact (held_eq _).trans ((loopN_succ _ _ _ _ _).trans (l0_b (L 0) n v))) (d0_cn (fun v => (D1_cn v).re [0, 1]) v) h
def d1 (spymake_Stream_Next_m1 : spymake_Stream_Next.A → Option spymake_Stream_Next.R) (spymake_Stream_Inside_m1 : spymake_Stream_Inside.A → Option spymake_Stream_Inside.R) (L2m1 : T2 → Option R) (spymake_Stream_Range_m1 : spymake_Stream_Range.A → Option spymake_Stream_Range.R) : T1 → Option R := fun (v0, v1, v2, v3, v4, v5, v6, v7, v8, v9, v10, v11, v12, v13, v14, v15, v16, v17, v18, v19, v20) =>
bnd (spymake_Stream_Next_m1 (9, v2, v3)) fun r =>
  br (decide (r.fst = 0))
    (bnd (spymake_Stream_Inside_m1 (v4, v5, v6, v7, r.snd.fst, r.snd.snd)) fun r =>
      bnd (spymake_Stream_Inside_m1 (v8, v9, v10, v11, r.snd.fst, r.snd.snd)) fun r_1 =>
        br (decide (v20.length + [(0, r.fst), (1, r_1.fst), (2, 0)].length ≤ 140737488355328 / 16))
          (L2m1 (v0, v1, r_1.snd.fst, r_1.snd.snd, v4, v5, v6, v7, v8, v9, v10, v11, v12, v13, v14, v15, v16, v17, v18, v19, v20 ++ [(0, r.fst), (1, r_1.fst), (2, 0)])) none)
    (br (decide (r.fst = 1))
      (br (decide (v20.length + [(8, v12)].length ≤ 140737488355328 / 16)) (L2m1 (v0, v1, r.snd.fst, r.snd.snd, v4, v5, v6, v7, v8, v9, v10, v11, v12, v13, v14, v15, v16, v17, v18, v19, v20 ++ [(8, v12)])) none)
      (br (decide (r.fst = 2))
        (bnd (spymake_Stream_Range_m1 (1, 16, r.snd.fst, r.snd.snd)) fun r =>
          br (decide (v20.length + [(9, r.fst)].length ≤ 140737488355328 / 16)) (L2m1 (v0, v1, r.snd.fst, r.snd.snd, v4, v5, v6, v7, v8, v9, v10, v11, v12, v13, v14, v15, v16, v17, v18, v19, v20 ++ [(9, r.fst)])) none)
        (br (decide (r.fst = 3))
          (bnd (spymake_Stream_Next_m1 (8, r.snd.fst, r.snd.snd)) fun r =>
            br (decide (0 ≤ r.fst ∧ r.fst < (↑[3, 4, 5, 10, 11, 7, 6, 13].length : Int)))
              (br (decide (v20.length + [(rd (Ty.int IntKind.i64) [3, 4, 5, 10, 11, 7, 6, 13] r.fst, 0)].length ≤ 140737488355328 / 16))
                (L2m1 (v0, v1, r.snd.fst, r.snd.snd, v4, v5, v6, v7, v8, v9, v10, v11, v12, v13, v14, v15, v16, v17, v18, v19, v20 ++ [(rd (Ty.int IntKind.i64) [3, 4, 5, 10, 11, 7, 6, 13] r.fst, 0)])) none)
              none)
          (L2m1 (v0, v1, r.snd.fst, r.snd.snd, v4, v5, v6, v7, v8, v9, v10, v11, v12, v13, v14, v15, v16, v17, v18, v19, v20)))))
theorem d1_cn {ι : Type} {E : Fil ι} {spymake_Stream_Next_m1 : spymake_Stream_Next.A → Option spymake_Stream_Next.R} {spymake_Stream_Next_m1' : ι → spymake_Stream_Next.A → Option spymake_Stream_Next.R} (hspymake_Stream_Next_m1 : ∀ v, Cn E (spymake_Stream_Next_m1 v) fun i => spymake_Stream_Next_m1' i v) {spymake_Stream_Inside_m1 : spymake_Stream_Inside.A → Option spymake_Stream_Inside.R} {spymake_Stream_Inside_m1' : ι → spymake_Stream_Inside.A → Option spymake_Stream_Inside.R} (hspymake_Stream_Inside_m1 : ∀ v, Cn E (spymake_Stream_Inside_m1 v) fun i => spymake_Stream_Inside_m1' i v) {L2m1 : T2 → Option R} {L2m1' : ι → T2 → Option R} (hL2m1 : ∀ v, Cn E (L2m1 v) fun i => L2m1' i v) {spymake_Stream_Range_m1 : spymake_Stream_Range.A → Option spymake_Stream_Range.R} {spymake_Stream_Range_m1' : ι → spymake_Stream_Range.A → Option spymake_Stream_Range.R} (hspymake_Stream_Range_m1 : ∀ v, Cn E (spymake_Stream_Range_m1 v) fun i => spymake_Stream_Range_m1' i v) : ∀ v : T1, Cn E (d1 spymake_Stream_Next_m1 spymake_Stream_Inside_m1 L2m1 spymake_Stream_Range_m1 v) fun i => d1 (spymake_Stream_Next_m1' i) (spymake_Stream_Inside_m1' i) (L2m1' i) (spymake_Stream_Range_m1' i) v := fun (v0, v1, v2, v3, v4, v5, v6, v7, v8, v9, v10, v11, v12, v13, v14, v15, v16, v17, v18, v19, v20) => (.bnd (hspymake_Stream_Next_m1 _) fun _ => (.br (.bnd (hspymake_Stream_Inside_m1 _) fun _ => (.bnd (hspymake_Stream_Inside_m1 _) fun _ => (.br (hL2m1 _) .none))) (.br (.br (hL2m1 _) .none) (.br (.bnd (hspymake_Stream_Range_m1 _) fun _ => (.br (hL2m1 _) .none)) (.br (.bnd (hspymake_Stream_Next_m1 _) fun _ => (.br (.br (hL2m1 _) .none) .none)) (hL2m1 _))))))
theorem l1_b ( k m1 : Nat) : ∀ v : T1, run (cs m1) (loopN cs m1) c1000008 (J1000008 k m1) (s1 v) = d1 (spymake_Stream_Next.f m1) (spymake_Stream_Inside.f m1) (l2 k m1) (spymake_Stream_Range.f m1) v := fun (v0, v1, v2, v3, v4, v5, v6, v7, v8, v9, v10, v11, v12, v13, v14, v15, v16, v17, v18, v19, v20) => by kernel_rfl
theorem D1_of (v : T1) {r : R} (h : d1 spymake_Stream_Next.F spymake_Stream_Inside.F D2 spymake_Stream_Range.F v = some r) : D1 v = some r :=
  join_of (l := fun L => l1 (L 0) (L 1) v) (d := fun L => d1 (spymake_Stream_Next.f (L 1)) (spymake_Stream_Inside.f (L 1)) (l2 (L 0) (L 1)) (spymake_Stream_Range.f (L 1)) v) (fun L => (held_eq _).trans (l1_b (L 0) (L 1) v)) (d1_cn (spymake_Stream_Next.F_cn 1) (spymake_Stream_Inside.F_cn 1) (fun v => (D2_cn v).re [0, 1]) (spymake_Stream_Range.F_cn 1) v) h
def d2 (spymake_Stream_Next_m1 : spymake_Stream_Next.A → Option spymake_Stream_Next.R) (L3m1 : T3 → Option R) : T2 → Option R := fun (v0, v1, v2, v3, v4, v5, v6, v7, v8, v9, v10, v11, v12, v13, v14, v15, v16, v17, v18, v19, v20) =>
bnd (spymake_Stream_Next_m1 (20, v2, v3)) fun r =>
  br (decide (r.fst = 0))
    (bnd (spymake_Stream_Next_m1 (3, r.snd.fst, r.snd.snd)) fun r =>
      bnd (spymake_Stream_Next_m1 (3, r.snd.fst, r.snd.snd)) fun r_1 =>
        bnd (spymake_Stream_Next_m1 (5, r_1.snd.fst, r_1.snd.snd)) fun r_2 =>
          bnd (spymake_Stream_Next_m1 (5, r_2.snd.fst, r_2.snd.snd)) fun r_3 =>
            bnd (spymake_Stream_Next_m1 (2, r_3.snd.fst, r_3.snd.snd)) fun r_4 =>
              L3m1 (v0, v1, r_4.snd.fst, r_4.snd.snd, v4, v5, v6, v7, v8, v9, v10, v11, v12, v13, v14, decide (r.fst = 0), decide (r_1.fst = 0), decide (r_2.fst = 0), decide (r_3.fst = 0), decide (r_4.fst = 0), v20))
    (L3m1 (v0, v1, r.snd.fst, r.snd.snd, v4, v5, v6, v7, v8, v9, v10, v11, v12, v13, v14, v15, v16, v17, v18, v19, v20))
theorem d2_cn {ι : Type} {E : Fil ι} {spymake_Stream_Next_m1 : spymake_Stream_Next.A → Option spymake_Stream_Next.R} {spymake_Stream_Next_m1' : ι → spymake_Stream_Next.A → Option spymake_Stream_Next.R} (hspymake_Stream_Next_m1 : ∀ v, Cn E (spymake_Stream_Next_m1 v) fun i => spymake_Stream_Next_m1' i v) {L3m1 : T3 → Option R} {L3m1' : ι → T3 → Option R} (hL3m1 : ∀ v, Cn E (L3m1 v) fun i => L3m1' i v) : ∀ v : T2, Cn E (d2 spymake_Stream_Next_m1 L3m1 v) fun i => d2 (spymake_Stream_Next_m1' i) (L3m1' i) v := fun (v0, v1, v2, v3, v4, v5, v6, v7, v8, v9, v10, v11, v12, v13, v14, v15, v16, v17, v18, v19, v20) => (.bnd (hspymake_Stream_Next_m1 _) fun _ => (.br (.bnd (hspymake_Stream_Next_m1 _) fun _ => (.bnd (hspymake_Stream_Next_m1 _) fun _ => (.bnd (hspymake_Stream_Next_m1 _) fun _ => (.bnd (hspymake_Stream_Next_m1 _) fun _ => (.bnd (hspymake_Stream_Next_m1 _) fun _ => (hL3m1 _)))))) (hL3m1 _)))
theorem l2_b ( k m1 : Nat) : ∀ v : T2, run (cs m1) (loopN cs m1) c1000017 (J1000017 k m1) (s2 v) = d2 (spymake_Stream_Next.f m1) (l3 k m1) v := fun (v0, v1, v2, v3, v4, v5, v6, v7, v8, v9, v10, v11, v12, v13, v14, v15, v16, v17, v18, v19, v20) => by kernel_rfl
theorem D2_of (v : T2) {r : R} (h : d2 spymake_Stream_Next.F D3 v = some r) : D2 v = some r :=
  join_of (l := fun L => l2 (L 0) (L 1) v) (d := fun L => d2 (spymake_Stream_Next.f (L 1)) (l3 (L 0) (L 1)) v) (fun L => (held_eq _).trans (l2_b (L 0) (L 1) v)) (d2_cn (spymake_Stream_Next.F_cn 1) (fun v => (D3_cn v).re [0, 1]) v) h
def d3 (L4m1 : T4 → Option R) : T3 → Option R := fun (v0, v1, v2, v3, v4, v5, v6, v7, v8, v9, v10, v11, v12, v13, v14, v15, v16, v17, v18, v19, v20) =>
br (decide (v14.length + [(v20, v15, v16, v17, v18, v19)].length ≤ 140737488355328 / 32)) (L4m1 (v0, v1, v2, v3, v4, v5, v6, v7, v8, v9, v10, v11, v12, v13, v14 ++ [(v20, v15, v16, v17, v18, v19)])) none
theorem d3_cn {ι : Type} {E : Fil ι} {L4m1 : T4 → Option R} {L4m1' : ι → T4 → Option R} (hL4m1 : ∀ v, Cn E (L4m1 v) fun i => L4m1' i v) : ∀ v : T3, Cn E (d3 L4m1 v) fun i => d3 (L4m1' i) v := fun (v0, v1, v2, v3, v4, v5, v6, v7, v8, v9, v10, v11, v12, v13, v14, v15, v16, v17, v18, v19, v20) => (.br (hL4m1 _) .none)
theorem l3_b ( k m1 : Nat) : ∀ v : T3, run (cs m1) (loopN cs m1) c1000019 (J1000019 k m1) (s3 v) = d3 (l4 k m1) v := fun (v0, v1, v2, v3, v4, v5, v6, v7, v8, v9, v10, v11, v12, v13, v14, v15, v16, v17, v18, v19, v20) => by kernel_rfl
theorem D3_of (v : T3) {r : R} (h : d3 D4 v = some r) : D3 v = some r :=
  join_of (l := fun L => l3 (L 0) (L 1) v) (d := fun L => d3 (l4 (L 0) (L 1)) v) (fun L => (held_eq _).trans (l3_b (L 0) (L 1) v)) (d3_cn (fun v => (D4_cn v).re [0, 1]) v) h
def d4 (L0m1 : T0 → Option R) : T4 → Option R := fun (v0, v1, v2, v3, v4, v5, v6, v7, v8, v9, v10, v11, v12, v13, v14) =>
L0m1 (v0, wrap IntKind.i64 (v1 + 1), v2, v3, v4, v5, v6, v7, v8, v9, v10, v11, v12, v13, v14)
theorem d4_cn {ι : Type} {E : Fil ι} {L0m1 : T0 → Option R} {L0m1' : ι → T0 → Option R} (hL0m1 : ∀ v, Cn E (L0m1 v) fun i => L0m1' i v) : ∀ v : T4, Cn E (d4 L0m1 v) fun i => d4 (L0m1' i) v := fun (v0, v1, v2, v3, v4, v5, v6, v7, v8, v9, v10, v11, v12, v13, v14) => (hL0m1 _)
theorem l4_b ( k m1 : Nat) : ∀ v : T4, run (cs m1) (loopN cs m1) c1000020 (J1000020 k m1) (s4 v) = d4 (l0 k m1) v := fun (v0, v1, v2, v3, v4, v5, v6, v7, v8, v9, v10, v11, v12, v13, v14) => by kernel_rfl
theorem D4_of (v : T4) {r : R} (h : d4 D0 v = some r) : D4 v = some r :=
  join_of (l := fun L => l4 (L 0) (L 1) v) (d := fun L => d4 (l0 (L 0) (L 1)) v) (fun L => (held_eq _).trans (l4_b (L 0) (L 1) v)) (d4_cn (fun v => (D0_cn v).re [0, 1]) v) h
noncomputable def f (k : Nat) : A → Option R := fun (v0, v1, v2, v3, v4, v5, v6, v7, v8, v9, v10, v11, v12) => held (runFn cs k Try.f7 [(.c (.ptr 128000000 0)), (.agg [(.int .i64 v0), (.int .i64 v1), (.int .i64 v2), (.int .i64 v3), (.int .i64 v4), (.int .i64 v5), (.int .i64 v6), (.int .i64 v7), (.int .i64 v8), (.int .i64 v9)]), (.c (.int .i64 v10))] [(.box [(.frz (.int .i64) v11), (.int .i64 v12)])] dec)
noncomputable def F (v : A) : Option R := lim fun L => f (L 0) v
theorem F_cn (x : Nat) (v : A) : Cn late (F v) fun L => f (L x) v := of_lim.re [x]
def d (L0k : T0 → Option R) : A → Option R := fun (v0, v1, v2, v3, v4, v5, v6, v7, v8, v9, v10, v11, v12) =>
L0k (v10, 0, v11, v12, v0, v1, v2, v3, v4, v5, v6, v7, v8, v9, [])
theorem d_cn {ι : Type} {E : Fil ι} {L0k : T0 → Option R} {L0k' : ι → T0 → Option R} (hL0k : ∀ v, Cn E (L0k v) fun i => L0k' i v) : ∀ v : A, Cn E (d L0k v) fun i => d (L0k' i) v := fun (v0, v1, v2, v3, v4, v5, v6, v7, v8, v9, v10, v11, v12) => (hL0k _)
theorem f_b (k : Nat) : ∀ v : A, f k v = d (l0 k k) v := fun (v0, v1, v2, v3, v4, v5, v6, v7, v8, v9, v10, v11, v12) => (held_eq _).trans (by kernel_rfl)
theorem F_of (v : A) {r : R} (h : d D0 v = some r) : F v = some r :=
  join_of (l := fun L => f (L 0) v) (d := fun L => d (l0 (L 0) (L 0)) v) (fun L => f_b (L 0) v) (d_cn (fun v => (D0_cn v).re [0, 0]) v) h
noncomputable def spec (k : Nat) (args : List AV) (ss : List Slot) : Option Ans :=
  match args, ss with
  | [(.c (.ptr 128000000 0)), (.agg [(.int .i64 v0), (.int .i64 v1), (.int .i64 v2), (.int .i64 v3), (.int .i64 v4), (.int .i64 v5), (.int .i64 v6), (.int .i64 v7), (.int .i64 v8), (.int .i64 v9)]), (.c (.int .i64 v10))], [(.box [(.frz (.int .i64) v11), (.int .i64 v12)])] => some ⟨R, f k (v0, v1, v2, v3, v4, v5, v6, v7, v8, v9, v10, v11, v12), enc⟩
  | _, _ => none
theorem spec_ok (k : Nat) : SpecOk Try.prog 7 (spec k) := by
  intro args ss ans x h hx X σ w vals hp
  unfold spec at h
  split at h
  · cases h
    exact spec_of cs_ok Try.func7 rfl rfl dec_ok (held_eq _).symm hx hp
  · cases h
end spykeep2_script
noncomputable def t_spykeep2_script (k : Nat) := tcons 7 (spykeep2_script.spec k) (t_spymake_Stream_Mount k)
theorem t_spykeep2_script_ok (n g : Nat) : SpecOk Try.prog g (t_spykeep2_script n g) := tcons_ok (spykeep2_script.spec_ok n) (fun g => t_spymake_Stream_Mount_ok n g) g
namespace slew_CheckAxis
abbrev R : Type := Int
abbrev A : Type := Int × Int × Int × Int
def lv : List (Nat × List Nat) := [(2000000, [2])]
noncomputable def cs : Nat → Ctx := ctxOf tis modes t_spykeep2_script lv
theorem cs_ok (n : Nat) : CtxOk Try.prog (cs n) := ctxOf_ok rfl tis_ok t_spykeep2_script_ok n
def enc (r : R) : Out := ((.c (.int .i64 r)), [])
def dec : Out → Option R
  | ((.c (.int .i64 v0)), []) => some v0
  | _ => none
theorem dec_ok : ∀ u y, dec u = some y → u = enc y := by
  intro u y h
  unfold dec at h
  split at h
  · cases h; rfl
  · cases h
noncomputable def b0 : Code := subF [] Try.f68
noncomputable def K0 (k : Nat) : Kt R := kTop (cs k) Try.f68 dec
noncomputable def f (k : Nat) : A → Option R := fun (v0, v1, v2, v3) => held (runFn cs k Try.f68 [(.agg [(.int .i64 v0), (.int .i64 v1), (.int .i64 v2), (.int .i64 v3)])] [] dec)
noncomputable def F (v : A) : Option R := lim fun L => f (L 0) v
theorem F_cn (x : Nat) (v : A) : Cn late (F v) fun L => f (L x) v := of_lim.re [x]
def d : A → Option R := fun (v0, v1, v2, v3) =>
br (decide (v0 < -17179869184) || decide (17179869184 < v1)) (some 4)
  (br (decide (v1 < v0)) (some 11) (br (decide (v2 < 16777216) || decide (1073741824 < v2) || decide (v2 < v3) || decide (v3 < 1) || decide (wrap IntKind.i64 (v3 * 64) < v2)) (some 4) (some 0)))
theorem d_cn {ι : Type} {E : Fil ι} : ∀ v : A, Cn E (d v) fun i => d v := fun (v0, v1, v2, v3) => (.br .some (.br .some (.br .some .some)))
theorem f_b (k : Nat) : ∀ v : A, f k v = d v := fun (v0, v1, v2, v3) => (held_eq _).trans (by kernel_rfl)
theorem F_of (v : A) {r : R} (h : d v = some r) : F v = some r :=
  join_of (l := fun L => f (L 0) v) (d := fun L => d v) (fun L => f_b (L 0) v) (d_cn v) h
noncomputable def spec (k : Nat) (args : List AV) (ss : List Slot) : Option Ans :=
  match args, ss with
  | [(.agg [(.int .i64 v0), (.int .i64 v1), (.int .i64 v2), (.int .i64 v3)])], [] => some ⟨R, f k (v0, v1, v2, v3), enc⟩
  | _, _ => none
theorem spec_ok (k : Nat) : SpecOk Try.prog 68 (spec k) := by
  intro args ss ans x h hx X σ w vals hp
  unfold spec at h
  split at h
  · cases h
    exact spec_of cs_ok Try.func68 rfl rfl dec_ok (held_eq _).symm hx hp
  · cases h
end slew_CheckAxis
noncomputable def t_slew_CheckAxis (k : Nat) := tcons 68 (slew_CheckAxis.spec k) (t_spykeep2_script k)
theorem t_slew_CheckAxis_ok (n g : Nat) : SpecOk Try.prog g (t_slew_CheckAxis n g) := tcons_ok (slew_CheckAxis.spec_ok n) (fun g => t_spykeep2_script_ok n g) g
namespace slew_In
abbrev R : Type := Bool
abbrev A : Type := Int × Int × Int × Int × Int
def lv : List (Nat × List Nat) := [(2000000, [4])]
noncomputable def cs : Nat → Ctx := ctxOf tis modes t_slew_CheckAxis lv
theorem cs_ok (n : Nat) : CtxOk Try.prog (cs n) := ctxOf_ok rfl tis_ok t_slew_CheckAxis_ok n
def enc (r : R) : Out := ((.c (.bool r)), [])
def dec : Out → Option R
  | ((.c (.bool v0)), []) => some v0
  | _ => none
theorem dec_ok : ∀ u y, dec u = some y → u = enc y := by
  intro u y h
  unfold dec at h
  split at h
  · cases h; rfl
  · cases h
noncomputable def b0 : Code := subF [] Try.f69
noncomputable def K0 (k : Nat) : Kt R := kTop (cs k) Try.f69 dec
noncomputable def f (k : Nat) : A → Option R := fun (v0, v1, v2, v3, v4) => held (runFn cs k Try.f69 [(.agg [(.int .i64 v0), (.int .i64 v1), (.int .i64 v2), (.int .i64 v3)]), (.c (.int .i64 v4))] [] dec)
noncomputable def F (v : A) : Option R := lim fun L => f (L 0) v
theorem F_cn (x : Nat) (v : A) : Cn late (F v) fun L => f (L x) v := of_lim.re [x]
def d : A → Option R := fun (v0, v1, v2, v3, v4) =>
some (decide (v0 ≤ v4) && decide (v4 ≤ v1))
theorem d_cn {ι : Type} {E : Fil ι} : ∀ v : A, Cn E (d v) fun i => d v := fun (v0, v1, v2, v3, v4) => .some
theorem f_b (k : Nat) : ∀ v : A, f k v = d v := fun (v0, v1, v2, v3, v4) => (held_eq _).trans (by kernel_rfl)
theorem F_of (v : A) {r : R} (h : d v = some r) : F v = some r :=
  join_of (l := fun L => f (L 0) v) (d := fun L => d v) (fun L => f_b (L 0) v) (d_cn v) h
noncomputable def spec (k : Nat) (args : List AV) (ss : List Slot) : Option Ans :=
  match args, ss with
  | [(.agg [(.int .i64 v0), (.int .i64 v1), (.int .i64 v2), (.int .i64 v3)]), (.c (.int .i64 v4))], [] => some ⟨R, f k (v0, v1, v2, v3, v4), enc⟩
  | _, _ => none
theorem spec_ok (k : Nat) : SpecOk Try.prog 69 (spec k) := by
  intro args ss ans x h hx X σ w vals hp
  unfold spec at h
  split at h
  · cases h
    exact spec_of cs_ok Try.func69 rfl rfl dec_ok (held_eq _).symm hx hp
  · cases h
end slew_In
noncomputable def t_slew_In (k : Nat) := tcons 69 (slew_In.spec k) (t_slew_CheckAxis k)
theorem t_slew_In_ok (n g : Nat) : SpecOk Try.prog g (t_slew_In n g) := tcons_ok (slew_In.spec_ok n) (fun g => t_slew_CheckAxis_ok n g) g
namespace slew_CheckMount
abbrev R : Type := Int
abbrev A : Type := Int × Int × Int × Int × Int × Int × Int × Int × Int × Int
def lv : List (Nat × List Nat) := [(2000000, [2])]
noncomputable def cs : Nat → Ctx := ctxOf tis modes t_slew_In lv
theorem cs_ok (n : Nat) : CtxOk Try.prog (cs n) := ctxOf_ok rfl tis_ok t_slew_In_ok n
def enc (r : R) : Out := ((.c (.int .i64 r)), [])
def dec : Out → Option R
  | ((.c (.int .i64 v0)), []) => some v0
  | _ => none
theorem dec_ok : ∀ u y, dec u = some y → u = enc y := by
  intro u y h
  unfold dec at h
  split at h
  · cases h; rfl
  · cases h
noncomputable def b0 : Code := subF [] Try.f55
noncomputable def K0 (k : Nat) : Kt R := kTop (cs k) Try.f55 dec
noncomputable def f (k : Nat) : A → Option R := fun (v0, v1, v2, v3, v4, v5, v6, v7, v8, v9) => held (runFn cs k Try.f55 [(.agg [(.int .i64 v0), (.int .i64 v1), (.int .i64 v2), (.int .i64 v3), (.int .i64 v4), (.int .i64 v5), (.int .i64 v6), (.int .i64 v7), (.int .i64 v8), (.int .i64 v9)])] [] dec)
noncomputable def F (v : A) : Option R := lim fun L => f (L 0) v
theorem F_cn (x : Nat) (v : A) : Cn late (F v) fun L => f (L x) v := of_lim.re [x]
def d (slew_CheckAxis_k : slew_CheckAxis.A → Option slew_CheckAxis.R) (slew_In_k : slew_In.A → Option slew_In.R) : A → Option R := fun (v0, v1, v2, v3, v4, v5, v6, v7, v8, v9) =>
bnd (slew_CheckAxis_k (v0, v1, v2, v3)) fun r =>
  br (!decide (r = 0)) (some r)
    (bnd (slew_CheckAxis_k (v4, v5, v6, v7)) fun r =>
      br (!decide (r = 0)) (some r) (bnd (slew_In_k (v0, v1, v2, v3, v8)) fun r => br ((!r) == false) (bnd (slew_In_k (v4, v5, v6, v7, v9)) fun r => br (!r) (some 4) (some 0)) (some 4)))
theorem d_cn {ι : Type} {E : Fil ι} {slew_CheckAxis_k : slew_CheckAxis.A → Option slew_CheckAxis.R} {slew_CheckAxis_k' : ι → slew_CheckAxis.A → Option slew_CheckAxis.R} (hslew_CheckAxis_k : ∀ v, Cn E (slew_CheckAxis_k v) fun i => slew_CheckAxis_k' i v) {slew_In_k : slew_In.A → Option slew_In.R} {slew_In_k' : ι → slew_In.A → Option slew_In.R} (hslew_In_k : ∀ v, Cn E (slew_In_k v) fun i => slew_In_k' i v) : ∀ v : A, Cn E (d slew_CheckAxis_k slew_In_k v) fun i => d (slew_CheckAxis_k' i) (slew_In_k' i) v := fun (v0, v1, v2, v3, v4, v5, v6, v7, v8, v9) => (.bnd (hslew_CheckAxis_k _) fun _ => (.br .some (.bnd (hslew_CheckAxis_k _) fun _ => (.br .some (.bnd (hslew_In_k _) fun _ => (.br (.bnd (hslew_In_k _) fun _ => (.br .some .some)) .some))))))
theorem f_b (k : Nat) : ∀ v : A, f k v = d (slew_CheckAxis.f k) (slew_In.f k) v := fun (v0, v1, v2, v3, v4, v5, v6, v7, v8, v9) => (held_eq _).trans (by kernel_rfl)
theorem F_of (v : A) {r : R} (h : d slew_CheckAxis.F slew_In.F v = some r) : F v = some r :=
  join_of (l := fun L => f (L 0) v) (d := fun L => d (slew_CheckAxis.f (L 0)) (slew_In.f (L 0)) v) (fun L => f_b (L 0) v) (d_cn (slew_CheckAxis.F_cn 0) (slew_In.F_cn 0) v) h
noncomputable def spec (k : Nat) (args : List AV) (ss : List Slot) : Option Ans :=
  match args, ss with
  | [(.agg [(.int .i64 v0), (.int .i64 v1), (.int .i64 v2), (.int .i64 v3), (.int .i64 v4), (.int .i64 v5), (.int .i64 v6), (.int .i64 v7), (.int .i64 v8), (.int .i64 v9)])], [] => some ⟨R, f k (v0, v1, v2, v3, v4, v5, v6, v7, v8, v9), enc⟩
  | _, _ => none
theorem spec_ok (k : Nat) : SpecOk Try.prog 55 (spec k) := by
  intro args ss ans x h hx X σ w vals hp
  unfold spec at h
  split at h
  · cases h
    exact spec_of cs_ok Try.func55 rfl rfl dec_ok (held_eq _).symm hx hp
  · cases h
end slew_CheckMount
noncomputable def t_slew_CheckMount (k : Nat) := tcons 55 (slew_CheckMount.spec k) (t_slew_In k)
theorem t_slew_CheckMount_ok (n g : Nat) : SpecOk Try.prog g (t_slew_CheckMount n g) := tcons_ok (slew_CheckMount.spec_ok n) (fun g => t_slew_In_ok n g) g
namespace axis_Stop
abbrev R : Type := Int
abbrev A : Type := Int × Int × Int × Int × Int
def lv : List (Nat × List Nat) := [(2000000, [4]), (6, [1, 2, 5])]
noncomputable def cs : Nat → Ctx := ctxOf tis modes t_slew_CheckMount lv
theorem cs_ok (n : Nat) : CtxOk Try.prog (cs n) := ctxOf_ok rfl tis_ok t_slew_CheckMount_ok n
def enc (r : R) : Out := ((.c (.int .i64 r)), [])
def dec : Out → Option R
  | ((.c (.int .i64 v0)), []) => some v0
  | _ => none
theorem dec_ok : ∀ u y, dec u = some y → u = enc y := by
  intro u y h
  unfold dec at h
  split at h
  · cases h; rfl
  · cases h
noncomputable def b0 : Code := subF [] Try.f70
noncomputable def K0 (k : Nat) : Kt R := kTop (cs k) Try.f70 dec
noncomputable def b6 : Code := sub [1, 1, 1, 1, 0, 1, 0, 0] b0
noncomputable def K6 ( k : Nat) : Kt R := kAt (cs k) (loopN cs k) [1, 1, 1, 1, 0, 1, 0] b0 (K0 k)
abbrev T0 : Type := Int × Int × Int × Int × Int × Int
def s0 : T0 → St := fun (v0, v1, v2, v3, v4, v5) => ⟨40, 0, [(1, (.c (.int .i64 v0))), (2, (.c (.ptr 64000000 0))), (5, (.c (.int .i64 v1)))], [], [(256000000, .gone), (64000000, (.box [(.int .i64 v2), (.int .i64 v3), (.int .i64 v4), (.int .i64 v5)]))]⟩
noncomputable def l0 ( k n : Nat) (v : T0) : Option R := held (loopN cs n b6 (K6 k) (s0 v))
noncomputable def D0 (v : T0) : Option R := lim fun L => l0 (L 0) (L 1) v
theorem D0_cn (v : T0) : Cn late (D0 v) fun L => l0 (L 0) (L 1) v := of_lim
def d0 (L0m1 : T0 → Option R) : T0 → Option R := fun (v0, v1, v2, v3, v4, v5) =>
br (decide (0 < v0)) (L0m1 (wrap IntKind.i64 (v0 - v5), wrap IntKind.i64 (v1 + v0), v2, v3, v4, v5)) (some v1)
theorem d0_cn {ι : Type} {E : Fil ι} {L0m1 : T0 → Option R} {L0m1' : ι → T0 → Option R} (hL0m1 : ∀ v, Cn E (L0m1 v) fun i => L0m1' i v) : ∀ v : T0, Cn E (d0 L0m1 v) fun i => d0 (L0m1' i) v := fun (v0, v1, v2, v3, v4, v5) => (.br (hL0m1 _) .some)
theorem l0_b ( k m1 : Nat) : ∀ v : T0, run (cs m1) (loopN cs m1) b6 (kLoop cs m1 b6 (K6 k)) (s0 v) = d0 (l0 k m1) v := fun (v0, v1, v2, v3, v4, v5) => by kernel_rfl
theorem D0_of (v : T0) {r : R} (h : d0 D0 v = some r) : D0 v = some r :=
  loop_of 1 (l := fun L => l0 (L 0) (L 1) v) (d := fun L => d0 (l0 (L 0) (L 1)) v) (fun L n hn => by show l0 (L 0) (L 1) v = _; rw [hn]; exact (held_eq _).trans ((loopN_succ _ _ _ _ _).trans (l0_b (L 0) n v))) (d0_cn (fun v => (D0_cn v).re [0, 1]) v) h
noncomputable def f (k : Nat) : A → Option R := fun (v0, v1, v2, v3, v4) => held (runFn cs k Try.f70 [(.agg [(.int .i64 v0), (.int .i64 v1), (.int .i64 v2), (.int .i64 v3)]), (.c (.int .i64 v4))] [] dec)
noncomputable def F (v : A) : Option R := lim fun L => f (L 0) v
theorem F_cn (x : Nat) (v : A) : Cn late (F v) fun L => f (L x) v := of_lim.re [x]
def d (slew_CheckAxis_k : slew_CheckAxis.A → Option slew_CheckAxis.R) (L0k : T0 → Option R) : A → Option R := fun (v0, v1, v2, v3, v4) =>
bnd (slew_CheckAxis_k (v0, v1, v2, v3)) fun r =>
  br (!decide (r = 0) || decide (v4 < wrap IntKind.i64 (0 - v2)) || decide (v2 < v4)) (some 0) (L0k (wrap IntKind.i64 (max v4 (wrap IntKind.i64 (0 - v4)) - v3), 0, v0, v1, v2, v3))
theorem d_cn {ι : Type} {E : Fil ι} {slew_CheckAxis_k : slew_CheckAxis.A → Option slew_CheckAxis.R} {slew_CheckAxis_k' : ι → slew_CheckAxis.A → Option slew_CheckAxis.R} (hslew_CheckAxis_k : ∀ v, Cn E (slew_CheckAxis_k v) fun i => slew_CheckAxis_k' i v) {L0k : T0 → Option R} {L0k' : ι → T0 → Option R} (hL0k : ∀ v, Cn E (L0k v) fun i => L0k' i v) : ∀ v : A, Cn E (d slew_CheckAxis_k L0k v) fun i => d (slew_CheckAxis_k' i) (L0k' i) v := fun (v0, v1, v2, v3, v4) => (.bnd (hslew_CheckAxis_k _) fun _ => (.br .some (hL0k _)))
theorem f_b (k : Nat) : ∀ v : A, f k v = d (slew_CheckAxis.f k) (l0 k k) v := fun (v0, v1, v2, v3, v4) => (held_eq _).trans (by kernel_rfl)
theorem F_of (v : A) {r : R} (h : d slew_CheckAxis.F D0 v = some r) : F v = some r :=
  join_of (l := fun L => f (L 0) v) (d := fun L => d (slew_CheckAxis.f (L 0)) (l0 (L 0) (L 0)) v) (fun L => f_b (L 0) v) (d_cn (slew_CheckAxis.F_cn 0) (fun v => (D0_cn v).re [0, 0]) v) h
noncomputable def spec (k : Nat) (args : List AV) (ss : List Slot) : Option Ans :=
  match args, ss with
  | [(.agg [(.int .i64 v0), (.int .i64 v1), (.int .i64 v2), (.int .i64 v3)]), (.c (.int .i64 v4))], [] => some ⟨R, f k (v0, v1, v2, v3, v4), enc⟩
  | _, _ => none
theorem spec_ok (k : Nat) : SpecOk Try.prog 70 (spec k) := by
  intro args ss ans x h hx X σ w vals hp
  unfold spec at h
  split at h
  · cases h
    exact spec_of cs_ok Try.func70 rfl rfl dec_ok (held_eq _).symm hx hp
  · cases h
end axis_Stop
noncomputable def t_axis_Stop (k : Nat) := tcons 70 (axis_Stop.spec k) (t_slew_CheckMount k)
theorem t_axis_Stop_ok (n g : Nat) : SpecOk Try.prog g (t_axis_Stop n g) := tcons_ok (axis_Stop.spec_ok n) (fun g => t_slew_CheckMount_ok n g) g
namespace axis_Check
abbrev R : Type := Int
abbrev A : Type := Int × Int × Int × Int × Int × Int × Int × Bool
def lv : List (Nat × List Nat) := [(2000000, [4]), (1000009, [2, 6])]
noncomputable def cs : Nat → Ctx := ctxOf tis modes t_axis_Stop lv
theorem cs_ok (n : Nat) : CtxOk Try.prog (cs n) := ctxOf_ok rfl tis_ok t_axis_Stop_ok n
def enc (r : R) : Out := ((.c (.int .i64 r)), [])
def dec : Out → Option R
  | ((.c (.int .i64 v0)), []) => some v0
  | _ => none
theorem dec_ok : ∀ u y, dec u = some y → u = enc y := by
  intro u y h
  unfold dec at h
  split at h
  · cases h; rfl
  · cases h
noncomputable def b0 : Code := subF [] Try.f56
noncomputable def K0 (k : Nat) : Kt R := kTop (cs k) Try.f56 dec
noncomputable def c1000009 : Code := sub [1, 1, 1, 1, 1] b0
noncomputable def J1000009 ( k : Nat) : Kt R := kAt (cs k) (loopN cs k) [1, 1, 1, 1, 1] b0 (K0 k)
abbrev T0 : Type := Int × Int × Int × Int × Int
def s0 : T0 → St := fun (v0, v1, v2, v3, v4) => ⟨60, 0, [(2, (.c (.ptr 64000000 0))), (6, (.c (.int .i64 v0)))], [], [(256000000, .gone), (64000000, (.box [(.int .i64 v1), (.int .i64 v2), (.int .i64 v3), (.int .i64 v4)]))]⟩
noncomputable def l0 ( k : Nat) (v : T0) : Option R := held (run (cs k) (loopN cs k) c1000009 (J1000009 k) (s0 v))
noncomputable def D0 (v : T0) : Option R := lim fun L => l0 (L 0) v
theorem D0_cn (v : T0) : Cn late (D0 v) fun L => l0 (L 0) v := of_lim
def d0 (slew_In_k : slew_In.A → Option slew_In.R) : T0 → Option R := fun (v0, v1, v2, v3, v4) =>
bnd (slew_In_k (v1, v2, v3, v4, v0)) fun r => br (!r) (some 16) (some 0)
theorem d0_cn {ι : Type} {E : Fil ι} {slew_In_k : slew_In.A → Option slew_In.R} {slew_In_k' : ι → slew_In.A → Option slew_In.R} (hslew_In_k : ∀ v, Cn E (slew_In_k v) fun i => slew_In_k' i v) : ∀ v : T0, Cn E (d0 slew_In_k v) fun i => d0 (slew_In_k' i) v := fun (v0, v1, v2, v3, v4) => (.bnd (hslew_In_k _) fun _ => (.br .some .some))
theorem l0_b ( k : Nat) : ∀ v : T0, run (cs k) (loopN cs k) c1000009 (J1000009 k) (s0 v) = d0 (slew_In.f k) v := fun (v0, v1, v2, v3, v4) => by kernel_rfl
theorem D0_of (v : T0) {r : R} (h : d0 slew_In.F v = some r) : D0 v = some r :=
  join_of (l := fun L => l0 (L 0) v) (d := fun L => d0 (slew_In.f (L 0)) v) (fun L => (held_eq _).trans (l0_b (L 0) v)) (d0_cn (slew_In.F_cn 0) v) h
noncomputable def f (k : Nat) : A → Option R := fun (v0, v1, v2, v3, v4, v5, v6, v7) => held (runFn cs k Try.f56 [(.agg [(.int .i64 v0), (.int .i64 v1), (.int .i64 v2), (.int .i64 v3)]), (.agg [(.int .i64 v4), (.int .i64 v5), (.int .i64 v6), (.bool v7)])] [] dec)
noncomputable def F (v : A) : Option R := lim fun L => f (L 0) v
theorem F_cn (x : Nat) (v : A) : Cn late (F v) fun L => f (L x) v := of_lim.re [x]
def d (slew_CheckAxis_k : slew_CheckAxis.A → Option slew_CheckAxis.R) (slew_In_k : slew_In.A → Option slew_In.R) (axis_Stop_k : axis_Stop.A → Option axis_Stop.R) (L0k : T0 → Option R) : A → Option R := fun (v0, v1, v2, v3, v4, v5, v6, v7) =>
bnd (slew_CheckAxis_k (v0, v1, v2, v3)) fun r =>
  br (!decide (r = 0)) (some r)
    (bnd (slew_In_k (v0, v1, v2, v3, v4)) fun r =>
      br ((!r) == false)
        (bnd (slew_In_k (v0, v1, v2, v3, v6)) fun r =>
          br (!r || decide (v5 < wrap IntKind.i64 (0 - v2)) || decide (v2 < v5)) (some 4)
            (bnd (axis_Stop_k (v0, v1, v2, v3, v5)) fun r =>
              br (decide (v5 < 0)) (bnd (axis_Stop_k (v0, v1, v2, v3, v5)) fun r => L0k (wrap IntKind.i64 (v4 - r), v0, v1, v2, v3)) (L0k (wrap IntKind.i64 (v4 + r), v0, v1, v2, v3))))
        (some 4))
theorem d_cn {ι : Type} {E : Fil ι} {slew_CheckAxis_k : slew_CheckAxis.A → Option slew_CheckAxis.R} {slew_CheckAxis_k' : ι → slew_CheckAxis.A → Option slew_CheckAxis.R} (hslew_CheckAxis_k : ∀ v, Cn E (slew_CheckAxis_k v) fun i => slew_CheckAxis_k' i v) {slew_In_k : slew_In.A → Option slew_In.R} {slew_In_k' : ι → slew_In.A → Option slew_In.R} (hslew_In_k : ∀ v, Cn E (slew_In_k v) fun i => slew_In_k' i v) {axis_Stop_k : axis_Stop.A → Option axis_Stop.R} {axis_Stop_k' : ι → axis_Stop.A → Option axis_Stop.R} (haxis_Stop_k : ∀ v, Cn E (axis_Stop_k v) fun i => axis_Stop_k' i v) {L0k : T0 → Option R} {L0k' : ι → T0 → Option R} (hL0k : ∀ v, Cn E (L0k v) fun i => L0k' i v) : ∀ v : A, Cn E (d slew_CheckAxis_k slew_In_k axis_Stop_k L0k v) fun i => d (slew_CheckAxis_k' i) (slew_In_k' i) (axis_Stop_k' i) (L0k' i) v := fun (v0, v1, v2, v3, v4, v5, v6, v7) => (.bnd (hslew_CheckAxis_k _) fun _ => (.br .some (.bnd (hslew_In_k _) fun _ => (.br (.bnd (hslew_In_k _) fun _ => (.br .some (.bnd (haxis_Stop_k _) fun _ => (.br (.bnd (haxis_Stop_k _) fun _ => (hL0k _)) (hL0k _))))) .some))))
theorem f_b (k : Nat) : ∀ v : A, f k v = d (slew_CheckAxis.f k) (slew_In.f k) (axis_Stop.f k) (l0 k) v := fun (v0, v1, v2, v3, v4, v5, v6, v7) => (held_eq _).trans (by kernel_rfl)
theorem F_of (v : A) {r : R} (h : d slew_CheckAxis.F slew_In.F axis_Stop.F D0 v = some r) : F v = some r :=
  join_of (l := fun L => f (L 0) v) (d := fun L => d (slew_CheckAxis.f (L 0)) (slew_In.f (L 0)) (axis_Stop.f (L 0)) (l0 (L 0)) v) (fun L => f_b (L 0) v) (d_cn (slew_CheckAxis.F_cn 0) (slew_In.F_cn 0) (axis_Stop.F_cn 0) (fun v => (D0_cn v).re [0]) v) h
noncomputable def spec (k : Nat) (args : List AV) (ss : List Slot) : Option Ans :=
  match args, ss with
  | [(.agg [(.int .i64 v0), (.int .i64 v1), (.int .i64 v2), (.int .i64 v3)]), (.agg [(.int .i64 v4), (.int .i64 v5), (.int .i64 v6), (.bool v7)])], [] => some ⟨R, f k (v0, v1, v2, v3, v4, v5, v6, v7), enc⟩
  | _, _ => none
theorem spec_ok (k : Nat) : SpecOk Try.prog 56 (spec k) := by
  intro args ss ans x h hx X σ w vals hp
  unfold spec at h
  split at h
  · cases h
    exact spec_of cs_ok Try.func56 rfl rfl dec_ok (held_eq _).symm hx hp
  · cases h
end axis_Check
noncomputable def t_axis_Check (k : Nat) := tcons 56 (axis_Check.spec k) (t_axis_Stop k)
theorem t_axis_Check_ok (n g : Nat) : SpecOk Try.prog g (t_axis_Check n g) := tcons_ok (axis_Check.spec_ok n) (fun g => t_axis_Stop_ok n g) g
namespace axis_Resting
abbrev R : Type := Bool
abbrev A : Type := Int × Int × Int × Bool
def lv : List (Nat × List Nat) := [(2000000, [2])]
noncomputable def cs : Nat → Ctx := ctxOf tis modes t_axis_Check lv
theorem cs_ok (n : Nat) : CtxOk Try.prog (cs n) := ctxOf_ok rfl tis_ok t_axis_Check_ok n
def enc (r : R) : Out := ((.c (.bool r)), [])
def dec : Out → Option R
  | ((.c (.bool v0)), []) => some v0
  | _ => none
theorem dec_ok : ∀ u y, dec u = some y → u = enc y := by
  intro u y h
  unfold dec at h
  split at h
  · cases h; rfl
  · cases h
noncomputable def b0 : Code := subF [] Try.f57
noncomputable def K0 (k : Nat) : Kt R := kTop (cs k) Try.f57 dec
noncomputable def f (k : Nat) : A → Option R := fun (v0, v1, v2, v3) => held (runFn cs k Try.f57 [(.agg [(.int .i64 v0), (.int .i64 v1), (.int .i64 v2), (.bool v3)])] [] dec)
noncomputable def F (v : A) : Option R := lim fun L => f (L 0) v
theorem F_cn (x : Nat) (v : A) : Cn late (F v) fun L => f (L x) v := of_lim.re [x]
def d : A → Option R := fun (v0, v1, v2, v3) =>
some (decide (v1 = 0) && decide (v0 = v2) && !v3)
theorem d_cn {ι : Type} {E : Fil ι} : ∀ v : A, Cn E (d v) fun i => d v := fun (v0, v1, v2, v3) => .some
theorem f_b (k : Nat) : ∀ v : A, f k v = d v := fun (v0, v1, v2, v3) => (held_eq _).trans (by kernel_rfl)
theorem F_of (v : A) {r : R} (h : d v = some r) : F v = some r :=
  join_of (l := fun L => f (L 0) v) (d := fun L => d v) (fun L => f_b (L 0) v) (d_cn v) h
noncomputable def spec (k : Nat) (args : List AV) (ss : List Slot) : Option Ans :=
  match args, ss with
  | [(.agg [(.int .i64 v0), (.int .i64 v1), (.int .i64 v2), (.bool v3)])], [] => some ⟨R, f k (v0, v1, v2, v3), enc⟩
  | _, _ => none
theorem spec_ok (k : Nat) : SpecOk Try.prog 57 (spec k) := by
  intro args ss ans x h hx X σ w vals hp
  unfold spec at h
  split at h
  · cases h
    exact spec_of cs_ok Try.func57 rfl rfl dec_ok (held_eq _).symm hx hp
  · cases h
end axis_Resting
noncomputable def t_axis_Resting (k : Nat) := tcons 57 (axis_Resting.spec k) (t_axis_Check k)
theorem t_axis_Resting_ok (n g : Nat) : SpecOk Try.prog g (t_axis_Resting n g) := tcons_ok (axis_Resting.spec_ok n) (fun g => t_axis_Check_ok n g) g
namespace mount_Check
abbrev R : Type := Int
abbrev A : Type := Int × Int × Int × Int × Int × Int × Int × Int × Int × Int × Int × Int × Int × Bool × Int × Int × Int × Bool × Int
def lv : List (Nat × List Nat) := [(2000000, [4]), (1000021, [8])]
noncomputable def cs : Nat → Ctx := ctxOf tis modes t_axis_Resting lv
theorem cs_ok (n : Nat) : CtxOk Try.prog (cs n) := ctxOf_ok rfl tis_ok t_axis_Resting_ok n
def enc (r : R) : Out := ((.c (.int .i64 r)), [])
def dec : Out → Option R
  | ((.c (.int .i64 v0)), []) => some v0
  | _ => none
theorem dec_ok : ∀ u y, dec u = some y → u = enc y := by
  intro u y h
  unfold dec at h
  split at h
  · cases h; rfl
  · cases h
noncomputable def b0 : Code := subF [] Try.f33
noncomputable def K0 (k : Nat) : Kt R := kTop (cs k) Try.f33 dec
noncomputable def c1000021 : Code := sub [1, 1, 1, 1, 1, 1, 1] b0
noncomputable def J1000021 ( k : Nat) : Kt R := kAt (cs k) (loopN cs k) [1, 1, 1, 1, 1, 1, 1] b0 (K0 k)
abbrev T0 : Type := Bool
def s0 : T0 → St := fun v0 => ⟨111, 0, [(8, (.c (.bool v0)))], [], [(256000000, .gone)]⟩
noncomputable def l0 ( k : Nat) (v : T0) : Option R := held (run (cs k) (loopN cs k) c1000021 (J1000021 k) (s0 v))
noncomputable def D0 (v : T0) : Option R := lim fun L => l0 (L 0) v
theorem D0_cn (v : T0) : Cn late (D0 v) fun L => l0 (L 0) v := of_lim
def d0 : T0 → Option R := fun v0 =>
br (!v0) (some 10) (some 0)
theorem d0_cn {ι : Type} {E : Fil ι} : ∀ v : T0, Cn E (d0 v) fun i => d0 v := fun v0 => (.br .some .some)
theorem l0_b ( k : Nat) : ∀ v : T0, run (cs k) (loopN cs k) c1000021 (J1000021 k) (s0 v) = d0 v := fun v0 => by kernel_rfl
theorem D0_of (v : T0) {r : R} (h : d0 v = some r) : D0 v = some r :=
  join_of (l := fun L => l0 (L 0) v) (d := fun L => d0 v) (fun L => (held_eq _).trans (l0_b (L 0) v)) (d0_cn v) h
noncomputable def f (k : Nat) : A → Option R := fun (v0, v1, v2, v3, v4, v5, v6, v7, v8, v9, v10, v11, v12, v13, v14, v15, v16, v17, v18) => held (runFn cs k Try.f33 [(.agg [(.int .i64 v0), (.int .i64 v1), (.int .i64 v2), (.int .i64 v3), (.int .i64 v4), (.int .i64 v5), (.int .i64 v6), (.int .i64 v7), (.int .i64 v8), (.int .i64 v9)]), (.agg [(.int .i64 v10), (.int .i64 v11), (.int .i64 v12), (.bool v13), (.int .i64 v14), (.int .i64 v15), (.int .i64 v16), (.bool v17), (.int .i64 v18)])] [] dec)
noncomputable def F (v : A) : Option R := lim fun L => f (L 0) v
theorem F_cn (x : Nat) (v : A) : Cn late (F v) fun L => f (L x) v := of_lim.re [x]
def d (slew_CheckMount_k : slew_CheckMount.A → Option slew_CheckMount.R) (axis_Check_k : axis_Check.A → Option axis_Check.R) (mount_Rest_k : mount_Rest.A → Option mount_Rest.R) (L0k : T0 → Option R) (axis_Resting_k : axis_Resting.A → Option axis_Resting.R) : A → Option R := fun (v0, v1, v2, v3, v4, v5, v6, v7, v8, v9, v10, v11, v12, v13, v14, v15, v16, v17, v18) =>
bnd (slew_CheckMount_k (v0, v1, v2, v3, v4, v5, v6, v7, v8, v9)) fun r =>
  br (!decide (r = 0)) (some r)
    (bnd (axis_Check_k (v0, v1, v2, v3, v10, v11, v12, v13)) fun r =>
      br (!decide (r = 0)) (some r)
        (bnd (axis_Check_k (v4, v5, v6, v7, v14, v15, v16, v17)) fun r =>
          br (!decide (r = 0)) (some r)
            (br (decide (v18 < 0) || decide (6 ≤ v18)) (some 3)
              (br (decide (v18 = 0))
                (bnd (mount_Rest_k (v0, v1, v2, v3, v4, v5, v6, v7, v8, v9)) fun r =>
                  L0k
                    (decide (v10 = r.fst) &&
                      (decide (v11 = r.snd.fst) &&
                        (decide (v12 = r.snd.snd.fst) &&
                          (v13 == r.snd.snd.snd.fst &&
                            (decide (v14 = r.snd.snd.snd.snd.fst) &&
                              (decide (v15 = r.snd.snd.snd.snd.snd.fst) &&
                                (decide (v16 = r.snd.snd.snd.snd.snd.snd.fst) && (v17 == r.snd.snd.snd.snd.snd.snd.snd.fst && (decide (v18 = r.snd.snd.snd.snd.snd.snd.snd.snd) && true))))))))))
                (br (decide (v18 = 1)) (bnd (axis_Resting_k (v10, v11, v12, v13)) fun r => br (r == true) (bnd (axis_Resting_k (v14, v15, v16, v17)) fun r => L0k r) (L0k false))
                  (br (decide (v18 = 5))
                    (br (v13 == false) (bnd (axis_Resting_k (v10, v11, v12, v13)) fun r => br (r == true) (br (v17 == false) (bnd (axis_Resting_k (v14, v15, v16, v17)) fun r => L0k r) (L0k true)) (L0k false))
                      (br (v17 == false) (bnd (axis_Resting_k (v14, v15, v16, v17)) fun r => L0k r) (L0k true)))
                    (L0k (!v13 && !v17 && (!decide (v18 = 4) || decide (v12 = v8) && decide (v16 = v9))))))))))
theorem d_cn {ι : Type} {E : Fil ι} {slew_CheckMount_k : slew_CheckMount.A → Option slew_CheckMount.R} {slew_CheckMount_k' : ι → slew_CheckMount.A → Option slew_CheckMount.R} (hslew_CheckMount_k : ∀ v, Cn E (slew_CheckMount_k v) fun i => slew_CheckMount_k' i v) {axis_Check_k : axis_Check.A → Option axis_Check.R} {axis_Check_k' : ι → axis_Check.A → Option axis_Check.R} (haxis_Check_k : ∀ v, Cn E (axis_Check_k v) fun i => axis_Check_k' i v) {mount_Rest_k : mount_Rest.A → Option mount_Rest.R} {mount_Rest_k' : ι → mount_Rest.A → Option mount_Rest.R} (hmount_Rest_k : ∀ v, Cn E (mount_Rest_k v) fun i => mount_Rest_k' i v) {L0k : T0 → Option R} {L0k' : ι → T0 → Option R} (hL0k : ∀ v, Cn E (L0k v) fun i => L0k' i v) {axis_Resting_k : axis_Resting.A → Option axis_Resting.R} {axis_Resting_k' : ι → axis_Resting.A → Option axis_Resting.R} (haxis_Resting_k : ∀ v, Cn E (axis_Resting_k v) fun i => axis_Resting_k' i v) : ∀ v : A, Cn E (d slew_CheckMount_k axis_Check_k mount_Rest_k L0k axis_Resting_k v) fun i => d (slew_CheckMount_k' i) (axis_Check_k' i) (mount_Rest_k' i) (L0k' i) (axis_Resting_k' i) v := fun (v0, v1, v2, v3, v4, v5, v6, v7, v8, v9, v10, v11, v12, v13, v14, v15, v16, v17, v18) => (.bnd (hslew_CheckMount_k _) fun _ => (.br .some (.bnd (haxis_Check_k _) fun _ => (.br .some (.bnd (haxis_Check_k _) fun _ => (.br .some (.br .some (.br (.bnd (hmount_Rest_k _) fun _ => (hL0k _)) (.br (.bnd (haxis_Resting_k _) fun _ => (.br (.bnd (haxis_Resting_k _) fun _ => (hL0k _)) (hL0k _))) (.br (.br (.bnd (haxis_Resting_k _) fun _ => (.br (.br (.bnd (haxis_Resting_k _) fun _ => (hL0k _)) (hL0k _)) (hL0k _))) (.br (.bnd (haxis_Resting_k _) fun _ => (hL0k _)) (hL0k _))) (hL0k _)))))))))))
theorem f_b (k : Nat) : ∀ v : A, f k v = d (slew_CheckMount.f k) (axis_Check.f k) (mount_Rest.f k) (l0 k) (axis_Resting.f k) v := fun (v0, v1, v2, v3, v4, v5, v6, v7, v8, v9, v10, v11, v12, v13, v14, v15, v16, v17, v18) => (held_eq _).trans (by kernel_rfl)
theorem F_of (v : A) {r : R} (h : d slew_CheckMount.F axis_Check.F mount_Rest.F D0 axis_Resting.F v = some r) : F v = some r :=
  join_of (l := fun L => f (L 0) v) (d := fun L => d (slew_CheckMount.f (L 0)) (axis_Check.f (L 0)) (mount_Rest.f (L 0)) (l0 (L 0)) (axis_Resting.f (L 0)) v) (fun L => f_b (L 0) v) (d_cn (slew_CheckMount.F_cn 0) (axis_Check.F_cn 0) (mount_Rest.F_cn 0) (fun v => (D0_cn v).re [0]) (axis_Resting.F_cn 0) v) h
noncomputable def spec (k : Nat) (args : List AV) (ss : List Slot) : Option Ans :=
  match args, ss with
  | [(.agg [(.int .i64 v0), (.int .i64 v1), (.int .i64 v2), (.int .i64 v3), (.int .i64 v4), (.int .i64 v5), (.int .i64 v6), (.int .i64 v7), (.int .i64 v8), (.int .i64 v9)]), (.agg [(.int .i64 v10), (.int .i64 v11), (.int .i64 v12), (.bool v13), (.int .i64 v14), (.int .i64 v15), (.int .i64 v16), (.bool v17), (.int .i64 v18)])], [] => some ⟨R, f k (v0, v1, v2, v3, v4, v5, v6, v7, v8, v9, v10, v11, v12, v13, v14, v15, v16, v17, v18), enc⟩
  | _, _ => none
theorem spec_ok (k : Nat) : SpecOk Try.prog 33 (spec k) := by
  intro args ss ans x h hx X σ w vals hp
  unfold spec at h
  split at h
  · cases h
    exact spec_of cs_ok Try.func33 rfl rfl dec_ok (held_eq _).symm hx hp
  · cases h
end mount_Check
noncomputable def t_mount_Check (k : Nat) := tcons 33 (mount_Check.spec k) (t_axis_Resting k)
theorem t_mount_Check_ok (n g : Nat) : SpecOk Try.prog g (t_mount_Check n g) := tcons_ok (mount_Check.spec_ok n) (fun g => t_axis_Resting_ok n g) g
namespace dome_Axis
abbrev R : Type := Int × Int × Int × Int
abbrev A : Type := Unit
def lv : List (Nat × List Nat) := [(2000000, [0])]
noncomputable def cs : Nat → Ctx := ctxOf tis modes t_mount_Check lv
theorem cs_ok (n : Nat) : CtxOk Try.prog (cs n) := ctxOf_ok rfl tis_ok t_mount_Check_ok n
def enc (r : R) : Out := ((.agg [(.int .i64 r.1), (.int .i64 r.2.1), (.int .i64 r.2.2.1), (.int .i64 r.2.2.2)]), [])
def dec : Out → Option R
  | ((.agg [(.int .i64 v0), (.int .i64 v1), (.int .i64 v2), (.int .i64 v3)]), []) => some (v0, v1, v2, v3)
  | _ => none
theorem dec_ok : ∀ u y, dec u = some y → u = enc y := by
  intro u y h
  unfold dec at h
  split at h
  · cases h; rfl
  · cases h
noncomputable def b0 : Code := subF [] Try.f58
noncomputable def K0 (k : Nat) : Kt R := kTop (cs k) Try.f58 dec
noncomputable def f (k : Nat) : A → Option R := fun _ => held (runFn cs k Try.f58 [] [] dec)
noncomputable def F (v : A) : Option R := lim fun L => f (L 0) v
theorem F_cn (x : Nat) (v : A) : Cn late (F v) fun L => f (L x) v := of_lim.re [x]
def d : A → Option R := fun _ =>
some (-8589934592, 8589934592, 33554432, 4194304)
theorem d_cn {ι : Type} {E : Fil ι} : ∀ v : A, Cn E (d v) fun i => d v := fun _ => .some
theorem f_b (k : Nat) : ∀ v : A, f k v = d v := fun _ => (held_eq _).trans (by kernel_rfl)
theorem F_of (v : A) {r : R} (h : d v = some r) : F v = some r :=
  join_of (l := fun L => f (L 0) v) (d := fun L => d v) (fun L => f_b (L 0) v) (d_cn v) h
noncomputable def spec (k : Nat) (args : List AV) (ss : List Slot) : Option Ans :=
  match args, ss with
  | [], [] => some ⟨R, f k (), enc⟩
  | _, _ => none
theorem spec_ok (k : Nat) : SpecOk Try.prog 58 (spec k) := by
  intro args ss ans x h hx X σ w vals hp
  unfold spec at h
  split at h
  · cases h
    exact spec_of cs_ok Try.func58 rfl rfl dec_ok (held_eq _).symm hx hp
  · cases h
end dome_Axis
noncomputable def t_dome_Axis (k : Nat) := tcons 58 (dome_Axis.spec k) (t_mount_Check k)
theorem t_dome_Axis_ok (n g : Nat) : SpecOk Try.prog g (t_dome_Axis n g) := tcons_ok (dome_Axis.spec_ok n) (fun g => t_mount_Check_ok n g) g
namespace dome_Check
abbrev R : Type := Int
abbrev A : Type := Int × Int × Bool × Bool × Int × Int × Int × Bool
def lv : List (Nat × List Nat) := [(2000000, [2])]
noncomputable def cs : Nat → Ctx := ctxOf tis modes t_dome_Axis lv
theorem cs_ok (n : Nat) : CtxOk Try.prog (cs n) := ctxOf_ok rfl tis_ok t_dome_Axis_ok n
def enc (r : R) : Out := ((.c (.int .i64 r)), [])
def dec : Out → Option R
  | ((.c (.int .i64 v0)), []) => some v0
  | _ => none
theorem dec_ok : ∀ u y, dec u = some y → u = enc y := by
  intro u y h
  unfold dec at h
  split at h
  · cases h; rfl
  · cases h
noncomputable def b0 : Code := subF [] Try.f34
noncomputable def K0 (k : Nat) : Kt R := kTop (cs k) Try.f34 dec
noncomputable def f (k : Nat) : A → Option R := fun (v0, v1, v2, v3, v4, v5, v6, v7) => held (runFn cs k Try.f34 [(.agg [(.int .i64 v0), (.int .i64 v1), (.bool v2), (.bool v3), (.int .i64 v4), (.int .i64 v5), (.int .i64 v6), (.bool v7)])] [] dec)
noncomputable def F (v : A) : Option R := lim fun L => f (L 0) v
theorem F_cn (x : Nat) (v : A) : Cn late (F v) fun L => f (L x) v := of_lim.re [x]
def d (dome_Axis_k : dome_Axis.A → Option dome_Axis.R) (axis_Check_k : axis_Check.A → Option axis_Check.R) : A → Option R := fun (v0, v1, v2, v3, v4, v5, v6, v7) =>
br (decide (v0 < 0) || decide (100 < v0) || decide (v1 < 0) || decide (20 < v1)) (some 4)
  (br (decide (0 < v1) && decide (v0 < 100)) (some 16) (bnd (dome_Axis_k ()) fun r => bnd (axis_Check_k (r.fst, r.snd.fst, r.snd.snd.fst, r.snd.snd.snd, v4, v5, v6, v7)) fun r => some r))
theorem d_cn {ι : Type} {E : Fil ι} {dome_Axis_k : dome_Axis.A → Option dome_Axis.R} {dome_Axis_k' : ι → dome_Axis.A → Option dome_Axis.R} (hdome_Axis_k : ∀ v, Cn E (dome_Axis_k v) fun i => dome_Axis_k' i v) {axis_Check_k : axis_Check.A → Option axis_Check.R} {axis_Check_k' : ι → axis_Check.A → Option axis_Check.R} (haxis_Check_k : ∀ v, Cn E (axis_Check_k v) fun i => axis_Check_k' i v) : ∀ v : A, Cn E (d dome_Axis_k axis_Check_k v) fun i => d (dome_Axis_k' i) (axis_Check_k' i) v := fun (v0, v1, v2, v3, v4, v5, v6, v7) => (.br .some (.br .some (.bnd (hdome_Axis_k _) fun _ => (.bnd (haxis_Check_k _) fun _ => .some))))
theorem f_b (k : Nat) : ∀ v : A, f k v = d (dome_Axis.f k) (axis_Check.f k) v := fun (v0, v1, v2, v3, v4, v5, v6, v7) => (held_eq _).trans (by kernel_rfl)
theorem F_of (v : A) {r : R} (h : d dome_Axis.F axis_Check.F v = some r) : F v = some r :=
  join_of (l := fun L => f (L 0) v) (d := fun L => d (dome_Axis.f (L 0)) (axis_Check.f (L 0)) v) (fun L => f_b (L 0) v) (d_cn (dome_Axis.F_cn 0) (axis_Check.F_cn 0) v) h
noncomputable def spec (k : Nat) (args : List AV) (ss : List Slot) : Option Ans :=
  match args, ss with
  | [(.agg [(.int .i64 v0), (.int .i64 v1), (.bool v2), (.bool v3), (.int .i64 v4), (.int .i64 v5), (.int .i64 v6), (.bool v7)])], [] => some ⟨R, f k (v0, v1, v2, v3, v4, v5, v6, v7), enc⟩
  | _, _ => none
theorem spec_ok (k : Nat) : SpecOk Try.prog 34 (spec k) := by
  intro args ss ans x h hx X σ w vals hp
  unfold spec at h
  split at h
  · cases h
    exact spec_of cs_ok Try.func34 rfl rfl dec_ok (held_eq _).symm hx hp
  · cases h
end dome_Check
noncomputable def t_dome_Check (k : Nat) := tcons 34 (dome_Check.spec k) (t_dome_Axis k)
theorem t_dome_Check_ok (n g : Nat) : SpecOk Try.prog g (t_dome_Check n g) := tcons_ok (dome_Check.spec_ok n) (fun g => t_dome_Axis_ok n g) g
namespace camera_Check
abbrev R : Type := Int
abbrev A : Type := Int × Int × Int × Int
def lv : List (Nat × List Nat) := [(2000000, [2]), (1000013, [1, 3])]
noncomputable def cs : Nat → Ctx := ctxOf tis modes t_dome_Check lv
theorem cs_ok (n : Nat) : CtxOk Try.prog (cs n) := ctxOf_ok rfl tis_ok t_dome_Check_ok n
def enc (r : R) : Out := ((.c (.int .i64 r)), [])
def dec : Out → Option R
  | ((.c (.int .i64 v0)), []) => some v0
  | _ => none
theorem dec_ok : ∀ u y, dec u = some y → u = enc y := by
  intro u y h
  unfold dec at h
  split at h
  · cases h; rfl
  · cases h
noncomputable def b0 : Code := subF [] Try.f35
noncomputable def K0 (k : Nat) : Kt R := kTop (cs k) Try.f35 dec
noncomputable def c1000013 : Code := sub [1, 1, 1, 1] b0
noncomputable def J1000013 ( k : Nat) : Kt R := kAt (cs k) (loopN cs k) [1, 1, 1, 1] b0 (K0 k)
abbrev T0 : Type := Bool × Int × Int × Int × Int
def s0 : T0 → St := fun (v0, v1, v2, v3, v4) => ⟨83, 0, [(1, (.c (.ptr 64000000 0))), (3, (.c (.bool v0)))], [], [(256000000, .gone), (64000000, (.box [(.int .i64 v1), (.int .i64 v2), (.int .i64 v3), (.int .i64 v4)]))]⟩
noncomputable def l0 ( k : Nat) (v : T0) : Option R := held (run (cs k) (loopN cs k) c1000013 (J1000013 k) (s0 v))
noncomputable def D0 (v : T0) : Option R := lim fun L => l0 (L 0) v
theorem D0_cn (v : T0) : Cn late (D0 v) fun L => l0 (L 0) v := of_lim
def d0 : T0 → Option R := fun (v0, v1, v2, v3, v4) =>
br (!v0 || !decide (v1 = 0) && decide (v4 = 0)) (some 3) (some 0)
theorem d0_cn {ι : Type} {E : Fil ι} : ∀ v : T0, Cn E (d0 v) fun i => d0 v := fun (v0, v1, v2, v3, v4) => (.br .some .some)
theorem l0_b ( k : Nat) : ∀ v : T0, run (cs k) (loopN cs k) c1000013 (J1000013 k) (s0 v) = d0 v := fun (v0, v1, v2, v3, v4) => by kernel_rfl
theorem D0_of (v : T0) {r : R} (h : d0 v = some r) : D0 v = some r :=
  join_of (l := fun L => l0 (L 0) v) (d := fun L => d0 v) (fun L => (held_eq _).trans (l0_b (L 0) v)) (d0_cn v) h
noncomputable def f (k : Nat) : A → Option R := fun (v0, v1, v2, v3) => held (runFn cs k Try.f35 [(.agg [(.int .i64 v0), (.int .i64 v1), (.int .i64 v2), (.int .i64 v3)])] [] dec)
noncomputable def F (v : A) : Option R := lim fun L => f (L 0) v
theorem F_cn (x : Nat) (v : A) : Cn late (F v) fun L => f (L x) v := of_lim.re [x]
def d (L0k : T0 → Option R) : A → Option R := fun (v0, v1, v2, v3) =>
br (decide (v0 < 0) || decide (4 ≤ v0) || decide (v3 < 0) || decide (1073741824 < v3) || decide (v2 < 0) || decide (16 < v2)) (some 4)
  (br (decide (v0 = 0)) (L0k (decide (v1 = 0) && decide (v2 = 0), v0, v1, v2, v3))
    (br (decide (v0 = 1)) (L0k (decide (1 ≤ v1) && decide (v1 ≤ v2), v0, v1, v2, v3))
      (br (decide (v0 = 2)) (L0k (decide (1 ≤ v1) && decide (v1 ≤ 3), v0, v1, v2, v3)) (br (decide (v0 = 3)) (L0k (decide (v1 = 0), v0, v1, v2, v3)) (L0k (true, v0, v1, v2, v3))))))
theorem d_cn {ι : Type} {E : Fil ι} {L0k : T0 → Option R} {L0k' : ι → T0 → Option R} (hL0k : ∀ v, Cn E (L0k v) fun i => L0k' i v) : ∀ v : A, Cn E (d L0k v) fun i => d (L0k' i) v := fun (v0, v1, v2, v3) => (.br .some (.br (hL0k _) (.br (hL0k _) (.br (hL0k _) (.br (hL0k _) (hL0k _))))))
theorem f_b (k : Nat) : ∀ v : A, f k v = d (l0 k) v := fun (v0, v1, v2, v3) => (held_eq _).trans (by kernel_rfl)
theorem F_of (v : A) {r : R} (h : d D0 v = some r) : F v = some r :=
  join_of (l := fun L => f (L 0) v) (d := fun L => d (l0 (L 0)) v) (fun L => f_b (L 0) v) (d_cn (fun v => (D0_cn v).re [0]) v) h
noncomputable def spec (k : Nat) (args : List AV) (ss : List Slot) : Option Ans :=
  match args, ss with
  | [(.agg [(.int .i64 v0), (.int .i64 v1), (.int .i64 v2), (.int .i64 v3)])], [] => some ⟨R, f k (v0, v1, v2, v3), enc⟩
  | _, _ => none
theorem spec_ok (k : Nat) : SpecOk Try.prog 35 (spec k) := by
  intro args ss ans x h hx X σ w vals hp
  unfold spec at h
  split at h
  · cases h
    exact spec_of cs_ok Try.func35 rfl rfl dec_ok (held_eq _).symm hx hp
  · cases h
end camera_Check
noncomputable def t_camera_Check (k : Nat) := tcons 35 (camera_Check.spec k) (t_dome_Check k)
theorem t_camera_Check_ok (n g : Nat) : SpecOk Try.prog g (t_camera_Check n g) := tcons_ok (camera_Check.spec_ok n) (fun g => t_dome_Check_ok n g) g
namespace guard_Sensors_Hazard
abbrev R : Type := Bool
abbrev A : Type := Bool × Bool × Bool × Bool × Bool
def lv : List (Nat × List Nat) := [(2000000, [2])]
noncomputable def cs : Nat → Ctx := ctxOf tis modes t_camera_Check lv
theorem cs_ok (n : Nat) : CtxOk Try.prog (cs n) := ctxOf_ok rfl tis_ok t_camera_Check_ok n
def enc (r : R) : Out := ((.c (.bool r)), [])
def dec : Out → Option R
  | ((.c (.bool v0)), []) => some v0
  | _ => none
theorem dec_ok : ∀ u y, dec u = some y → u = enc y := by
  intro u y h
  unfold dec at h
  split at h
  · cases h; rfl
  · cases h
noncomputable def b0 : Code := subF [] Try.f36
noncomputable def K0 (k : Nat) : Kt R := kTop (cs k) Try.f36 dec
noncomputable def f (k : Nat) : A → Option R := fun (v0, v1, v2, v3, v4) => held (runFn cs k Try.f36 [(.agg [(.bool v0), (.bool v1), (.bool v2), (.bool v3), (.bool v4)])] [] dec)
noncomputable def F (v : A) : Option R := lim fun L => f (L 0) v
theorem F_cn (x : Nat) (v : A) : Cn late (F v) fun L => f (L x) v := of_lim.re [x]
def d : A → Option R := fun (v0, v1, v2, v3, v4) =>
some (v0 || v1 || v2 || v3)
theorem d_cn {ι : Type} {E : Fil ι} : ∀ v : A, Cn E (d v) fun i => d v := fun (v0, v1, v2, v3, v4) => .some
theorem f_b (k : Nat) : ∀ v : A, f k v = d v := fun (v0, v1, v2, v3, v4) => (held_eq _).trans (by kernel_rfl)
theorem F_of (v : A) {r : R} (h : d v = some r) : F v = some r :=
  join_of (l := fun L => f (L 0) v) (d := fun L => d v) (fun L => f_b (L 0) v) (d_cn v) h
noncomputable def spec (k : Nat) (args : List AV) (ss : List Slot) : Option Ans :=
  match args, ss with
  | [(.agg [(.bool v0), (.bool v1), (.bool v2), (.bool v3), (.bool v4)])], [] => some ⟨R, f k (v0, v1, v2, v3, v4), enc⟩
  | _, _ => none
theorem spec_ok (k : Nat) : SpecOk Try.prog 36 (spec k) := by
  intro args ss ans x h hx X σ w vals hp
  unfold spec at h
  split at h
  · cases h
    exact spec_of cs_ok Try.func36 rfl rfl dec_ok (held_eq _).symm hx hp
  · cases h
end guard_Sensors_Hazard
noncomputable def t_guard_Sensors_Hazard (k : Nat) := tcons 36 (guard_Sensors_Hazard.spec k) (t_camera_Check k)
theorem t_guard_Sensors_Hazard_ok (n g : Nat) : SpecOk Try.prog g (t_guard_Sensors_Hazard n g) := tcons_ok (guard_Sensors_Hazard.spec_ok n) (fun g => t_camera_Check_ok n g) g
namespace mount_Moving
abbrev R : Type := Bool
abbrev A : Type := Int × Int × Int × Bool × Int × Int × Int × Bool × Int
def lv : List (Nat × List Nat) := [(2000000, [2])]
noncomputable def cs : Nat → Ctx := ctxOf tis modes t_guard_Sensors_Hazard lv
theorem cs_ok (n : Nat) : CtxOk Try.prog (cs n) := ctxOf_ok rfl tis_ok t_guard_Sensors_Hazard_ok n
def enc (r : R) : Out := ((.c (.bool r)), [])
def dec : Out → Option R
  | ((.c (.bool v0)), []) => some v0
  | _ => none
theorem dec_ok : ∀ u y, dec u = some y → u = enc y := by
  intro u y h
  unfold dec at h
  split at h
  · cases h; rfl
  · cases h
noncomputable def b0 : Code := subF [] Try.f32
noncomputable def K0 (k : Nat) : Kt R := kTop (cs k) Try.f32 dec
noncomputable def f (k : Nat) : A → Option R := fun (v0, v1, v2, v3, v4, v5, v6, v7, v8) => held (runFn cs k Try.f32 [(.agg [(.int .i64 v0), (.int .i64 v1), (.int .i64 v2), (.bool v3), (.int .i64 v4), (.int .i64 v5), (.int .i64 v6), (.bool v7), (.int .i64 v8)])] [] dec)
noncomputable def F (v : A) : Option R := lim fun L => f (L 0) v
theorem F_cn (x : Nat) (v : A) : Cn late (F v) fun L => f (L x) v := of_lim.re [x]
def d : A → Option R := fun (v0, v1, v2, v3, v4, v5, v6, v7, v8) =>
some (!decide (v1 = 0) || !decide (v5 = 0))
theorem d_cn {ι : Type} {E : Fil ι} : ∀ v : A, Cn E (d v) fun i => d v := fun (v0, v1, v2, v3, v4, v5, v6, v7, v8) => .some
theorem f_b (k : Nat) : ∀ v : A, f k v = d v := fun (v0, v1, v2, v3, v4, v5, v6, v7, v8) => (held_eq _).trans (by kernel_rfl)
theorem F_of (v : A) {r : R} (h : d v = some r) : F v = some r :=
  join_of (l := fun L => f (L 0) v) (d := fun L => d v) (fun L => f_b (L 0) v) (d_cn v) h
noncomputable def spec (k : Nat) (args : List AV) (ss : List Slot) : Option Ans :=
  match args, ss with
  | [(.agg [(.int .i64 v0), (.int .i64 v1), (.int .i64 v2), (.bool v3), (.int .i64 v4), (.int .i64 v5), (.int .i64 v6), (.bool v7), (.int .i64 v8)])], [] => some ⟨R, f k (v0, v1, v2, v3, v4, v5, v6, v7, v8), enc⟩
  | _, _ => none
theorem spec_ok (k : Nat) : SpecOk Try.prog 32 (spec k) := by
  intro args ss ans x h hx X σ w vals hp
  unfold spec at h
  split at h
  · cases h
    exact spec_of cs_ok Try.func32 rfl rfl dec_ok (held_eq _).symm hx hp
  · cases h
end mount_Moving
noncomputable def t_mount_Moving (k : Nat) := tcons 32 (mount_Moving.spec k) (t_guard_Sensors_Hazard k)
theorem t_mount_Moving_ok (n g : Nat) : SpecOk Try.prog g (t_mount_Moving n g) := tcons_ok (mount_Moving.spec_ok n) (fun g => t_guard_Sensors_Hazard_ok n g) g
namespace dome_Closed
abbrev R : Type := Bool
abbrev A : Type := Int × Int × Bool × Bool × Int × Int × Int × Bool
def lv : List (Nat × List Nat) := [(2000000, [2])]
noncomputable def cs : Nat → Ctx := ctxOf tis modes t_mount_Moving lv
theorem cs_ok (n : Nat) : CtxOk Try.prog (cs n) := ctxOf_ok rfl tis_ok t_mount_Moving_ok n
def enc (r : R) : Out := ((.c (.bool r)), [])
def dec : Out → Option R
  | ((.c (.bool v0)), []) => some v0
  | _ => none
theorem dec_ok : ∀ u y, dec u = some y → u = enc y := by
  intro u y h
  unfold dec at h
  split at h
  · cases h; rfl
  · cases h
noncomputable def b0 : Code := subF [] Try.f18
noncomputable def K0 (k : Nat) : Kt R := kTop (cs k) Try.f18 dec
noncomputable def f (k : Nat) : A → Option R := fun (v0, v1, v2, v3, v4, v5, v6, v7) => held (runFn cs k Try.f18 [(.agg [(.int .i64 v0), (.int .i64 v1), (.bool v2), (.bool v3), (.int .i64 v4), (.int .i64 v5), (.int .i64 v6), (.bool v7)])] [] dec)
noncomputable def F (v : A) : Option R := lim fun L => f (L 0) v
theorem F_cn (x : Nat) (v : A) : Cn late (F v) fun L => f (L x) v := of_lim.re [x]
def d : A → Option R := fun (v0, v1, v2, v3, v4, v5, v6, v7) =>
some (decide (v0 = 0) && decide (v1 = 0))
theorem d_cn {ι : Type} {E : Fil ι} : ∀ v : A, Cn E (d v) fun i => d v := fun (v0, v1, v2, v3, v4, v5, v6, v7) => .some
theorem f_b (k : Nat) : ∀ v : A, f k v = d v := fun (v0, v1, v2, v3, v4, v5, v6, v7) => (held_eq _).trans (by kernel_rfl)
theorem F_of (v : A) {r : R} (h : d v = some r) : F v = some r :=
  join_of (l := fun L => f (L 0) v) (d := fun L => d v) (fun L => f_b (L 0) v) (d_cn v) h
noncomputable def spec (k : Nat) (args : List AV) (ss : List Slot) : Option Ans :=
  match args, ss with
  | [(.agg [(.int .i64 v0), (.int .i64 v1), (.bool v2), (.bool v3), (.int .i64 v4), (.int .i64 v5), (.int .i64 v6), (.bool v7)])], [] => some ⟨R, f k (v0, v1, v2, v3, v4, v5, v6, v7), enc⟩
  | _, _ => none
theorem spec_ok (k : Nat) : SpecOk Try.prog 18 (spec k) := by
  intro args ss ans x h hx X σ w vals hp
  unfold spec at h
  split at h
  · cases h
    exact spec_of cs_ok Try.func18 rfl rfl dec_ok (held_eq _).symm hx hp
  · cases h
end dome_Closed
noncomputable def t_dome_Closed (k : Nat) := tcons 18 (dome_Closed.spec k) (t_mount_Moving k)
theorem t_dome_Closed_ok (n g : Nat) : SpecOk Try.prog g (t_dome_Closed n g) := tcons_ok (dome_Closed.spec_ok n) (fun g => t_mount_Moving_ok n g) g
namespace guard_AtRest
abbrev R : Type := Bool
abbrev A : Type := Int × Int × Int × Bool × Int × Int × Int × Bool × Int × Int × Int × Bool × Bool × Int × Int × Int × Bool × Int × Int × Int × Int × Bool × Bool × Bool × Bool × Bool × Int × Int × Int × Int × Int
def lv : List (Nat × List Nat) := [(2000000, [2])]
noncomputable def cs : Nat → Ctx := ctxOf tis modes t_dome_Closed lv
theorem cs_ok (n : Nat) : CtxOk Try.prog (cs n) := ctxOf_ok rfl tis_ok t_dome_Closed_ok n
def enc (r : R) : Out := ((.c (.bool r)), [])
def dec : Out → Option R
  | ((.c (.bool v0)), []) => some v0
  | _ => none
theorem dec_ok : ∀ u y, dec u = some y → u = enc y := by
  intro u y h
  unfold dec at h
  split at h
  · cases h; rfl
  · cases h
noncomputable def b0 : Code := subF [] Try.f17
noncomputable def K0 (k : Nat) : Kt R := kTop (cs k) Try.f17 dec
noncomputable def f (k : Nat) : A → Option R := fun (v0, v1, v2, v3, v4, v5, v6, v7, v8, v9, v10, v11, v12, v13, v14, v15, v16, v17, v18, v19, v20, v21, v22, v23, v24, v25, v26, v27, v28, v29, v30) => held (runFn cs k Try.f17 [(.agg [(.int .i64 v0), (.int .i64 v1), (.int .i64 v2), (.bool v3), (.int .i64 v4), (.int .i64 v5), (.int .i64 v6), (.bool v7), (.int .i64 v8), (.int .i64 v9), (.int .i64 v10), (.bool v11), (.bool v12), (.int .i64 v13), (.int .i64 v14), (.int .i64 v15), (.bool v16), (.int .i64 v17), (.int .i64 v18), (.int .i64 v19), (.int .i64 v20), (.bool v21), (.bool v22), (.bool v23), (.bool v24), (.bool v25), (.int .i64 v26), (.int .i64 v27), (.int .i64 v28), (.int .i64 v29), (.int .i64 v30)])] [] dec)
noncomputable def F (v : A) : Option R := lim fun L => f (L 0) v
theorem F_cn (x : Nat) (v : A) : Cn late (F v) fun L => f (L x) v := of_lim.re [x]
def d (mount_Moving_k : mount_Moving.A → Option mount_Moving.R) (dome_Closed_k : dome_Closed.A → Option dome_Closed.R) : A → Option R := fun (v0, v1, v2, v3, v4, v5, v6, v7, v8, v9, v10, v11, v12, v13, v14, v15, v16, v17, v18, v19, v20, v21, v22, v23, v24, v25, v26, v27, v28, v29, v30) =>
bnd (mount_Moving_k (v0, v1, v2, v3, v4, v5, v6, v7, v8)) fun r => br ((!r && decide (v14 = 0) && !decide (v17 = 1)) == true) (bnd (dome_Closed_k (v9, v10, v11, v12, v13, v14, v15, v16)) fun r => some r) (some false)
theorem d_cn {ι : Type} {E : Fil ι} {mount_Moving_k : mount_Moving.A → Option mount_Moving.R} {mount_Moving_k' : ι → mount_Moving.A → Option mount_Moving.R} (hmount_Moving_k : ∀ v, Cn E (mount_Moving_k v) fun i => mount_Moving_k' i v) {dome_Closed_k : dome_Closed.A → Option dome_Closed.R} {dome_Closed_k' : ι → dome_Closed.A → Option dome_Closed.R} (hdome_Closed_k : ∀ v, Cn E (dome_Closed_k v) fun i => dome_Closed_k' i v) : ∀ v : A, Cn E (d mount_Moving_k dome_Closed_k v) fun i => d (mount_Moving_k' i) (dome_Closed_k' i) v := fun (v0, v1, v2, v3, v4, v5, v6, v7, v8, v9, v10, v11, v12, v13, v14, v15, v16, v17, v18, v19, v20, v21, v22, v23, v24, v25, v26, v27, v28, v29, v30) => (.bnd (hmount_Moving_k _) fun _ => (.br (.bnd (hdome_Closed_k _) fun _ => .some) .some))
theorem f_b (k : Nat) : ∀ v : A, f k v = d (mount_Moving.f k) (dome_Closed.f k) v := fun (v0, v1, v2, v3, v4, v5, v6, v7, v8, v9, v10, v11, v12, v13, v14, v15, v16, v17, v18, v19, v20, v21, v22, v23, v24, v25, v26, v27, v28, v29, v30) => (held_eq _).trans (by kernel_rfl)
theorem F_of (v : A) {r : R} (h : d mount_Moving.F dome_Closed.F v = some r) : F v = some r :=
  join_of (l := fun L => f (L 0) v) (d := fun L => d (mount_Moving.f (L 0)) (dome_Closed.f (L 0)) v) (fun L => f_b (L 0) v) (d_cn (mount_Moving.F_cn 0) (dome_Closed.F_cn 0) v) h
noncomputable def spec (k : Nat) (args : List AV) (ss : List Slot) : Option Ans :=
  match args, ss with
  | [(.agg [(.int .i64 v0), (.int .i64 v1), (.int .i64 v2), (.bool v3), (.int .i64 v4), (.int .i64 v5), (.int .i64 v6), (.bool v7), (.int .i64 v8), (.int .i64 v9), (.int .i64 v10), (.bool v11), (.bool v12), (.int .i64 v13), (.int .i64 v14), (.int .i64 v15), (.bool v16), (.int .i64 v17), (.int .i64 v18), (.int .i64 v19), (.int .i64 v20), (.bool v21), (.bool v22), (.bool v23), (.bool v24), (.bool v25), (.int .i64 v26), (.int .i64 v27), (.int .i64 v28), (.int .i64 v29), (.int .i64 v30)])], [] => some ⟨R, f k (v0, v1, v2, v3, v4, v5, v6, v7, v8, v9, v10, v11, v12, v13, v14, v15, v16, v17, v18, v19, v20, v21, v22, v23, v24, v25, v26, v27, v28, v29, v30), enc⟩
  | _, _ => none
theorem spec_ok (k : Nat) : SpecOk Try.prog 17 (spec k) := by
  intro args ss ans x h hx X σ w vals hp
  unfold spec at h
  split at h
  · cases h
    exact spec_of cs_ok Try.func17 rfl rfl dec_ok (held_eq _).symm hx hp
  · cases h
end guard_AtRest
noncomputable def t_guard_AtRest (k : Nat) := tcons 17 (guard_AtRest.spec k) (t_dome_Closed k)
theorem t_guard_AtRest_ok (n g : Nat) : SpecOk Try.prog g (t_guard_AtRest n g) := tcons_ok (guard_AtRest.spec_ok n) (fun g => t_dome_Closed_ok n g) g
namespace guard_stops
abbrev R : Type := Bool
abbrev A : Type := Int × Int × Int × Bool × Int × Int × Int × Bool × Int × Int × Int × Bool × Bool × Int × Int × Int × Bool × Int × Int × Int × Int × Bool × Bool × Bool × Bool × Bool × Int × Int × Int × Int × Int
def lv : List (Nat × List Nat) := [(2000000, [2])]
noncomputable def cs : Nat → Ctx := ctxOf tis modes t_guard_AtRest lv
theorem cs_ok (n : Nat) : CtxOk Try.prog (cs n) := ctxOf_ok rfl tis_ok t_guard_AtRest_ok n
def enc (r : R) : Out := ((.c (.bool r)), [])
def dec : Out → Option R
  | ((.c (.bool v0)), []) => some v0
  | _ => none
theorem dec_ok : ∀ u y, dec u = some y → u = enc y := by
  intro u y h
  unfold dec at h
  split at h
  · cases h; rfl
  · cases h
noncomputable def b0 : Code := subF [] Try.f37
noncomputable def K0 (k : Nat) : Kt R := kTop (cs k) Try.f37 dec
noncomputable def f (k : Nat) : A → Option R := fun (v0, v1, v2, v3, v4, v5, v6, v7, v8, v9, v10, v11, v12, v13, v14, v15, v16, v17, v18, v19, v20, v21, v22, v23, v24, v25, v26, v27, v28, v29, v30) => held (runFn cs k Try.f37 [(.agg [(.int .i64 v0), (.int .i64 v1), (.int .i64 v2), (.bool v3), (.int .i64 v4), (.int .i64 v5), (.int .i64 v6), (.bool v7), (.int .i64 v8), (.int .i64 v9), (.int .i64 v10), (.bool v11), (.bool v12), (.int .i64 v13), (.int .i64 v14), (.int .i64 v15), (.bool v16), (.int .i64 v17), (.int .i64 v18), (.int .i64 v19), (.int .i64 v20), (.bool v21), (.bool v22), (.bool v23), (.bool v24), (.bool v25), (.int .i64 v26), (.int .i64 v27), (.int .i64 v28), (.int .i64 v29), (.int .i64 v30)])] [] dec)
noncomputable def F (v : A) : Option R := lim fun L => f (L 0) v
theorem F_cn (x : Nat) (v : A) : Cn late (F v) fun L => f (L x) v := of_lim.re [x]
def d (axis_Resting_k : axis_Resting.A → Option axis_Resting.R) : A → Option R := fun (v0, v1, v2, v3, v4, v5, v6, v7, v8, v9, v10, v11, v12, v13, v14, v15, v16, v17, v18, v19, v20, v21, v22, v23, v24, v25, v26, v27, v28, v29, v30) =>
br ((decide (v8 = 0) || decide (v8 = 1) || decide (v8 = 5)) == true)
  (br (v16 == false) (bnd (axis_Resting_k (v13, v14, v15, v16)) fun r => some (r && !v11 && !v12 && !decide (v17 = 1))) (some (!v11 && !v12 && !decide (v17 = 1)))) (some false)
theorem d_cn {ι : Type} {E : Fil ι} {axis_Resting_k : axis_Resting.A → Option axis_Resting.R} {axis_Resting_k' : ι → axis_Resting.A → Option axis_Resting.R} (haxis_Resting_k : ∀ v, Cn E (axis_Resting_k v) fun i => axis_Resting_k' i v) : ∀ v : A, Cn E (d axis_Resting_k v) fun i => d (axis_Resting_k' i) v := fun (v0, v1, v2, v3, v4, v5, v6, v7, v8, v9, v10, v11, v12, v13, v14, v15, v16, v17, v18, v19, v20, v21, v22, v23, v24, v25, v26, v27, v28, v29, v30) => (.br (.br (.bnd (haxis_Resting_k _) fun _ => .some) .some) .some)
theorem f_b (k : Nat) : ∀ v : A, f k v = d (axis_Resting.f k) v := fun (v0, v1, v2, v3, v4, v5, v6, v7, v8, v9, v10, v11, v12, v13, v14, v15, v16, v17, v18, v19, v20, v21, v22, v23, v24, v25, v26, v27, v28, v29, v30) => (held_eq _).trans (by kernel_rfl)
theorem F_of (v : A) {r : R} (h : d axis_Resting.F v = some r) : F v = some r :=
  join_of (l := fun L => f (L 0) v) (d := fun L => d (axis_Resting.f (L 0)) v) (fun L => f_b (L 0) v) (d_cn (axis_Resting.F_cn 0) v) h
noncomputable def spec (k : Nat) (args : List AV) (ss : List Slot) : Option Ans :=
  match args, ss with
  | [(.agg [(.int .i64 v0), (.int .i64 v1), (.int .i64 v2), (.bool v3), (.int .i64 v4), (.int .i64 v5), (.int .i64 v6), (.bool v7), (.int .i64 v8), (.int .i64 v9), (.int .i64 v10), (.bool v11), (.bool v12), (.int .i64 v13), (.int .i64 v14), (.int .i64 v15), (.bool v16), (.int .i64 v17), (.int .i64 v18), (.int .i64 v19), (.int .i64 v20), (.bool v21), (.bool v22), (.bool v23), (.bool v24), (.bool v25), (.int .i64 v26), (.int .i64 v27), (.int .i64 v28), (.int .i64 v29), (.int .i64 v30)])], [] => some ⟨R, f k (v0, v1, v2, v3, v4, v5, v6, v7, v8, v9, v10, v11, v12, v13, v14, v15, v16, v17, v18, v19, v20, v21, v22, v23, v24, v25, v26, v27, v28, v29, v30), enc⟩
  | _, _ => none
theorem spec_ok (k : Nat) : SpecOk Try.prog 37 (spec k) := by
  intro args ss ans x h hx X σ w vals hp
  unfold spec at h
  split at h
  · cases h
    exact spec_of cs_ok Try.func37 rfl rfl dec_ok (held_eq _).symm hx hp
  · cases h
end guard_stops
noncomputable def t_guard_stops (k : Nat) := tcons 37 (guard_stops.spec k) (t_guard_AtRest k)
theorem t_guard_stops_ok (n g : Nat) : SpecOk Try.prog g (t_guard_stops n g) := tcons_ok (guard_stops.spec_ok n) (fun g => t_guard_AtRest_ok n g) g
namespace guard_Check
abbrev R : Type := Int
abbrev A : Type := Int × Int × Int × Int × Int × Int × Int × Int × Int × Int × Int × Int × Int × Bool × Int × Int × Int × Bool × Int × Int × Int × Bool × Bool × Int × Int × Int × Bool × Int × Int × Int × Int × Bool × Bool × Bool × Bool × Bool × Int × Int × Int × Int × Int
def lv : List (Nat × List Nat) := [(2000000, [4])]
noncomputable def cs : Nat → Ctx := ctxOf tis modes t_guard_stops lv
theorem cs_ok (n : Nat) : CtxOk Try.prog (cs n) := ctxOf_ok rfl tis_ok t_guard_stops_ok n
def enc (r : R) : Out := ((.c (.int .i64 r)), [])
def dec : Out → Option R
  | ((.c (.int .i64 v0)), []) => some v0
  | _ => none
theorem dec_ok : ∀ u y, dec u = some y → u = enc y := by
  intro u y h
  unfold dec at h
  split at h
  · cases h; rfl
  · cases h
noncomputable def b0 : Code := subF [] Try.f24
noncomputable def K0 (k : Nat) : Kt R := kTop (cs k) Try.f24 dec
noncomputable def f (k : Nat) : A → Option R := fun (v0, v1, v2, v3, v4, v5, v6, v7, v8, v9, v10, v11, v12, v13, v14, v15, v16, v17, v18, v19, v20, v21, v22, v23, v24, v25, v26, v27, v28, v29, v30, v31, v32, v33, v34, v35, v36, v37, v38, v39, v40) => held (runFn cs k Try.f24 [(.agg [(.int .i64 v0), (.int .i64 v1), (.int .i64 v2), (.int .i64 v3), (.int .i64 v4), (.int .i64 v5), (.int .i64 v6), (.int .i64 v7), (.int .i64 v8), (.int .i64 v9)]), (.agg [(.int .i64 v10), (.int .i64 v11), (.int .i64 v12), (.bool v13), (.int .i64 v14), (.int .i64 v15), (.int .i64 v16), (.bool v17), (.int .i64 v18), (.int .i64 v19), (.int .i64 v20), (.bool v21), (.bool v22), (.int .i64 v23), (.int .i64 v24), (.int .i64 v25), (.bool v26), (.int .i64 v27), (.int .i64 v28), (.int .i64 v29), (.int .i64 v30), (.bool v31), (.bool v32), (.bool v33), (.bool v34), (.bool v35), (.int .i64 v36), (.int .i64 v37), (.int .i64 v38), (.int .i64 v39), (.int .i64 v40)])] [] dec)
noncomputable def F (v : A) : Option R := lim fun L => f (L 0) v
theorem F_cn (x : Nat) (v : A) : Cn late (F v) fun L => f (L x) v := of_lim.re [x]
def d (mount_Check_k : mount_Check.A → Option mount_Check.R) (dome_Check_k : dome_Check.A → Option dome_Check.R) (camera_Check_k : camera_Check.A → Option camera_Check.R) (guard_Hard_k : guard_Hard.A → Option guard_Hard.R) (guard_Sensors_Hazard_k : guard_Sensors_Hazard.A → Option guard_Sensors_Hazard.R) (guard_AtRest_k : guard_AtRest.A → Option guard_AtRest.R) (guard_stops_k : guard_stops.A → Option guard_stops.R) : A → Option R := fun (v0, v1, v2, v3, v4, v5, v6, v7, v8, v9, v10, v11, v12, v13, v14, v15, v16, v17, v18, v19, v20, v21, v22, v23, v24, v25, v26, v27, v28, v29, v30, v31, v32, v33, v34, v35, v36, v37, v38, v39, v40) =>
bnd (mount_Check_k (v0, v1, v2, v3, v4, v5, v6, v7, v8, v9, v10, v11, v12, v13, v14, v15, v16, v17, v18)) fun r =>
  br (!decide (r = 0)) (some r)
    (bnd (dome_Check_k (v19, v20, v21, v22, v23, v24, v25, v26)) fun r =>
      br (!decide (r = 0)) (some r)
        (bnd (camera_Check_k (v27, v28, v29, v30)) fun r =>
          br (!decide (r = 0)) (some r)
            (br (decide (v38 < 0) || decide (3 ≤ v38) || decide (v39 < 0) || decide (v40 < 0) || decide (17592186044416 < v39) || decide (17592186044416 < v40)) (some 4)
              (bnd (guard_Hard_k (v10, v11, v12, v13, v14, v15, v16, v17, v18, v19, v20, v21, v22, v23, v24, v25, v26, v27, v28, v29, v30, v31, v32, v33, v34, v35, v36, v37, v38, v39, v40)) fun r =>
                br (!decide (r = 0)) (some 16)
                  (bnd (guard_Sensors_Hazard_k (v31, v32, v33, v34, v35)) fun r =>
                    br (!decide (0 < v39) == r || !decide (0 < v40) == v35 || decide (v38 = 0) && decide (0 < v39)) (some 10)
                      (br (decide (v38 = 2) == true)
                        (bnd (guard_AtRest_k (v10, v11, v12, v13, v14, v15, v16, v17, v18, v19, v20, v21, v22, v23, v24, v25, v26, v27, v28, v29, v30, v31, v32, v33, v34, v35, v36, v37, v38, v39, v40)) fun r =>
                          br ((!r) == false)
                            (br ((!decide (v38 = 0)) == true)
                              (bnd (guard_stops_k (v10, v11, v12, v13, v14, v15, v16, v17, v18, v19, v20, v21, v22, v23, v24, v25, v26, v27, v28, v29, v30, v31, v32, v33, v34, v35, v36, v37, v38, v39, v40)) fun r =>
                                br (!r || decide (v27 = 1) && !(v21 && v22)) (some 10) (some 0))
                              (br (decide (v27 = 1) && !(v21 && v22)) (some 10) (some 0)))
                            (some 10))
                        (br ((!decide (v38 = 0)) == true)
                          (bnd (guard_stops_k (v10, v11, v12, v13, v14, v15, v16, v17, v18, v19, v20, v21, v22, v23, v24, v25, v26, v27, v28, v29, v30, v31, v32, v33, v34, v35, v36, v37, v38, v39, v40)) fun r =>
                            br (!r || decide (v27 = 1) && !(v21 && v22)) (some 10) (some 0))
                          (br (decide (v27 = 1) && !(v21 && v22)) (some 10) (some 0)))))))))
theorem d_cn {ι : Type} {E : Fil ι} {mount_Check_k : mount_Check.A → Option mount_Check.R} {mount_Check_k' : ι → mount_Check.A → Option mount_Check.R} (hmount_Check_k : ∀ v, Cn E (mount_Check_k v) fun i => mount_Check_k' i v) {dome_Check_k : dome_Check.A → Option dome_Check.R} {dome_Check_k' : ι → dome_Check.A → Option dome_Check.R} (hdome_Check_k : ∀ v, Cn E (dome_Check_k v) fun i => dome_Check_k' i v) {camera_Check_k : camera_Check.A → Option camera_Check.R} {camera_Check_k' : ι → camera_Check.A → Option camera_Check.R} (hcamera_Check_k : ∀ v, Cn E (camera_Check_k v) fun i => camera_Check_k' i v) {guard_Hard_k : guard_Hard.A → Option guard_Hard.R} {guard_Hard_k' : ι → guard_Hard.A → Option guard_Hard.R} (hguard_Hard_k : ∀ v, Cn E (guard_Hard_k v) fun i => guard_Hard_k' i v) {guard_Sensors_Hazard_k : guard_Sensors_Hazard.A → Option guard_Sensors_Hazard.R} {guard_Sensors_Hazard_k' : ι → guard_Sensors_Hazard.A → Option guard_Sensors_Hazard.R} (hguard_Sensors_Hazard_k : ∀ v, Cn E (guard_Sensors_Hazard_k v) fun i => guard_Sensors_Hazard_k' i v) {guard_AtRest_k : guard_AtRest.A → Option guard_AtRest.R} {guard_AtRest_k' : ι → guard_AtRest.A → Option guard_AtRest.R} (hguard_AtRest_k : ∀ v, Cn E (guard_AtRest_k v) fun i => guard_AtRest_k' i v) {guard_stops_k : guard_stops.A → Option guard_stops.R} {guard_stops_k' : ι → guard_stops.A → Option guard_stops.R} (hguard_stops_k : ∀ v, Cn E (guard_stops_k v) fun i => guard_stops_k' i v) : ∀ v : A, Cn E (d mount_Check_k dome_Check_k camera_Check_k guard_Hard_k guard_Sensors_Hazard_k guard_AtRest_k guard_stops_k v) fun i => d (mount_Check_k' i) (dome_Check_k' i) (camera_Check_k' i) (guard_Hard_k' i) (guard_Sensors_Hazard_k' i) (guard_AtRest_k' i) (guard_stops_k' i) v := fun (v0, v1, v2, v3, v4, v5, v6, v7, v8, v9, v10, v11, v12, v13, v14, v15, v16, v17, v18, v19, v20, v21, v22, v23, v24, v25, v26, v27, v28, v29, v30, v31, v32, v33, v34, v35, v36, v37, v38, v39, v40) => (.bnd (hmount_Check_k _) fun _ => (.br .some (.bnd (hdome_Check_k _) fun _ => (.br .some (.bnd (hcamera_Check_k _) fun _ => (.br .some (.br .some (.bnd (hguard_Hard_k _) fun _ => (.br .some (.bnd (hguard_Sensors_Hazard_k _) fun _ => (.br .some (.br (.bnd (hguard_AtRest_k _) fun _ => (.br (.br (.bnd (hguard_stops_k _) fun _ => (.br .some .some)) (.br .some .some)) .some)) (.br (.bnd (hguard_stops_k _) fun _ => (.br .some .some)) (.br .some .some))))))))))))))
theorem f_b (k : Nat) : ∀ v : A, f k v = d (mount_Check.f k) (dome_Check.f k) (camera_Check.f k) (guard_Hard.f k) (guard_Sensors_Hazard.f k) (guard_AtRest.f k) (guard_stops.f k) v := fun (v0, v1, v2, v3, v4, v5, v6, v7, v8, v9, v10, v11, v12, v13, v14, v15, v16, v17, v18, v19, v20, v21, v22, v23, v24, v25, v26, v27, v28, v29, v30, v31, v32, v33, v34, v35, v36, v37, v38, v39, v40) => (held_eq _).trans (by kernel_rfl)
theorem F_of (v : A) {r : R} (h : d mount_Check.F dome_Check.F camera_Check.F guard_Hard.F guard_Sensors_Hazard.F guard_AtRest.F guard_stops.F v = some r) : F v = some r :=
  join_of (l := fun L => f (L 0) v) (d := fun L => d (mount_Check.f (L 0)) (dome_Check.f (L 0)) (camera_Check.f (L 0)) (guard_Hard.f (L 0)) (guard_Sensors_Hazard.f (L 0)) (guard_AtRest.f (L 0)) (guard_stops.f (L 0)) v) (fun L => f_b (L 0) v) (d_cn (mount_Check.F_cn 0) (dome_Check.F_cn 0) (camera_Check.F_cn 0) (guard_Hard.F_cn 0) (guard_Sensors_Hazard.F_cn 0) (guard_AtRest.F_cn 0) (guard_stops.F_cn 0) v) h
noncomputable def spec (k : Nat) (args : List AV) (ss : List Slot) : Option Ans :=
  match args, ss with
  | [(.agg [(.int .i64 v0), (.int .i64 v1), (.int .i64 v2), (.int .i64 v3), (.int .i64 v4), (.int .i64 v5), (.int .i64 v6), (.int .i64 v7), (.int .i64 v8), (.int .i64 v9)]), (.agg [(.int .i64 v10), (.int .i64 v11), (.int .i64 v12), (.bool v13), (.int .i64 v14), (.int .i64 v15), (.int .i64 v16), (.bool v17), (.int .i64 v18), (.int .i64 v19), (.int .i64 v20), (.bool v21), (.bool v22), (.int .i64 v23), (.int .i64 v24), (.int .i64 v25), (.bool v26), (.int .i64 v27), (.int .i64 v28), (.int .i64 v29), (.int .i64 v30), (.bool v31), (.bool v32), (.bool v33), (.bool v34), (.bool v35), (.int .i64 v36), (.int .i64 v37), (.int .i64 v38), (.int .i64 v39), (.int .i64 v40)])], [] => some ⟨R, f k (v0, v1, v2, v3, v4, v5, v6, v7, v8, v9, v10, v11, v12, v13, v14, v15, v16, v17, v18, v19, v20, v21, v22, v23, v24, v25, v26, v27, v28, v29, v30, v31, v32, v33, v34, v35, v36, v37, v38, v39, v40), enc⟩
  | _, _ => none
theorem spec_ok (k : Nat) : SpecOk Try.prog 24 (spec k) := by
  intro args ss ans x h hx X σ w vals hp
  unfold spec at h
  split at h
  · cases h
    exact spec_of cs_ok Try.func24 rfl rfl dec_ok (held_eq _).symm hx hp
  · cases h
end guard_Check
noncomputable def t_guard_Check (k : Nat) := tcons 24 (guard_Check.spec k) (t_guard_stops k)
theorem t_guard_Check_ok (n g : Nat) : SpecOk Try.prog g (t_guard_Check n g) := tcons_ok (guard_Check.spec_ok n) (fun g => t_guard_stops_ok n g) g
namespace guard_uses
abbrev R : Type := Bool
abbrev A : Type := Int
def lv : List (Nat × List Nat) := [(2000000, [2])]
noncomputable def cs : Nat → Ctx := ctxOf tis modes t_guard_Check lv
theorem cs_ok (n : Nat) : CtxOk Try.prog (cs n) := ctxOf_ok rfl tis_ok t_guard_Check_ok n
def enc (r : R) : Out := ((.c (.bool r)), [])
def dec : Out → Option R
  | ((.c (.bool v0)), []) => some v0
  | _ => none
theorem dec_ok : ∀ u y, dec u = some y → u = enc y := by
  intro u y h
  unfold dec at h
  split at h
  · cases h; rfl
  · cases h
noncomputable def b0 : Code := subF [] Try.f28
noncomputable def K0 (k : Nat) : Kt R := kTop (cs k) Try.f28 dec
noncomputable def f (k : Nat) : A → Option R := fun v0 => held (runFn cs k Try.f28 [(.c (.int .i64 v0))] [] dec)
noncomputable def F (v : A) : Option R := lim fun L => f (L 0) v
theorem F_cn (x : Nat) (v : A) : Cn late (F v) fun L => f (L x) v := of_lim.re [x]
def d : A → Option R := fun v0 =>
some (decide (v0 = 0) || decide (v0 = 1) || decide (v0 = 8) || decide (v0 = 9))
theorem d_cn {ι : Type} {E : Fil ι} : ∀ v : A, Cn E (d v) fun i => d v := fun v0 => .some
theorem f_b (k : Nat) : ∀ v : A, f k v = d v := fun v0 => (held_eq _).trans (by kernel_rfl)
theorem F_of (v : A) {r : R} (h : d v = some r) : F v = some r :=
  join_of (l := fun L => f (L 0) v) (d := fun L => d v) (fun L => f_b (L 0) v) (d_cn v) h
noncomputable def spec (k : Nat) (args : List AV) (ss : List Slot) : Option Ans :=
  match args, ss with
  | [(.c (.int .i64 v0))], [] => some ⟨R, f k v0, enc⟩
  | _, _ => none
theorem spec_ok (k : Nat) : SpecOk Try.prog 28 (spec k) := by
  intro args ss ans x h hx X σ w vals hp
  unfold spec at h
  split at h
  · cases h
    exact spec_of cs_ok Try.func28 rfl rfl dec_ok (held_eq _).symm hx hp
  · cases h
end guard_uses
noncomputable def t_guard_uses (k : Nat) := tcons 28 (guard_uses.spec k) (t_guard_Check k)
theorem t_guard_uses_ok (n g : Nat) : SpecOk Try.prog g (t_guard_uses n g) := tcons_ok (guard_uses.spec_ok n) (fun g => t_guard_Check_ok n g) g
namespace guard_permitted
abbrev R : Type := Bool
abbrev A : Type := Int × Int × Int × Bool × Int × Int × Int × Bool × Int × Int × Int × Bool × Bool × Int × Int × Int × Bool × Int × Int × Int × Int × Bool × Bool × Bool × Bool × Bool × Int × Int × Int × Int × Int × Int
def lv : List (Nat × List Nat) := [(2000000, [4]), (1000009, [2, 5, 6]), (1000017, [2, 24]), (1000018, [2])]
noncomputable def cs : Nat → Ctx := ctxOf tis modes t_guard_uses lv
theorem cs_ok (n : Nat) : CtxOk Try.prog (cs n) := ctxOf_ok rfl tis_ok t_guard_uses_ok n
def enc (r : R) : Out := ((.c (.bool r)), [])
def dec : Out → Option R
  | ((.c (.bool v0)), []) => some v0
  | _ => none
theorem dec_ok : ∀ u y, dec u = some y → u = enc y := by
  intro u y h
  unfold dec at h
  split at h
  · cases h; rfl
  · cases h
noncomputable def b0 : Code := subF [] Try.f29
noncomputable def K0 (k : Nat) : Kt R := kTop (cs k) Try.f29 dec
noncomputable def c1000018 : Code := sub [1, 1] b0
noncomputable def J1000018 ( k : Nat) : Kt R := kAt (cs k) (loopN cs k) [1, 1] b0 (K0 k)
noncomputable def c1000009 : Code := sub [1, 0, 1, 0, 1] b0
noncomputable def J1000009 ( k : Nat) : Kt R := kAt (cs k) (loopN cs k) [1, 0, 1, 0, 1] b0 (K0 k)
noncomputable def c1000017 : Code := sub [1, 0, 1, 0, 1, 1, 1, 1, 1] b0
noncomputable def J1000017 ( k : Nat) : Kt R := kAt (cs k) (loopN cs k) [1, 0, 1, 0, 1, 1, 1, 1, 1] b0 (K0 k)
abbrev T0 : Type := Int × Bool × Int × Int × Int × Bool × Int × Int × Int × Bool × Int × Int × Int × Bool × Bool × Int × Int × Int × Bool × Int × Int × Int × Int × Bool × Bool × Bool × Bool × Bool × Int × Int × Int × Int × Int
def s0 : T0 → St := fun (v0, v1, v2, v3, v4, v5, v6, v7, v8, v9, v10, v11, v12, v13, v14, v15, v16, v17, v18, v19, v20, v21, v22, v23, v24, v25, v26, v27, v28, v29, v30, v31, v32) => ⟨41, 0, [(2, (.c (.ptr 64000000 0))), (5, (.c (.int .i64 v0))), (6, (.c (.bool v1)))], [], [(256000000, .gone), (64000000, (.box [(.int .i64 v2), (.int .i64 v3), (.int .i64 v4), (.bool v5), (.int .i64 v6), (.int .i64 v7), (.int .i64 v8), (.bool v9), (.int .i64 v10), (.int .i64 v11), (.int .i64 v12), (.bool v13), (.bool v14), (.int .i64 v15), (.int .i64 v16), (.int .i64 v17), (.bool v18), (.int .i64 v19), (.int .i64 v20), (.int .i64 v21), (.int .i64 v22), (.bool v23), (.bool v24), (.bool v25), (.bool v26), (.bool v27), (.int .i64 v28), (.int .i64 v29), (.int .i64 v30), (.int .i64 v31), (.int .i64 v32)]))]⟩
noncomputable def l0 ( k : Nat) (v : T0) : Option R := held (run (cs k) (loopN cs k) c1000009 (J1000009 k) (s0 v))
noncomputable def D0 (v : T0) : Option R := lim fun L => l0 (L 0) v
theorem D0_cn (v : T0) : Cn late (D0 v) fun L => l0 (L 0) v := of_lim
abbrev T1 : Type := Bool × Int × Int × Int × Bool × Int × Int × Int × Bool × Int × Int × Int × Bool × Bool × Int × Int × Int × Bool × Int × Int × Int × Int × Bool × Bool × Bool × Bool × Bool × Int × Int × Int × Int × Int
def s1 : T1 → St := fun (v0, v1, v2, v3, v4, v5, v6, v7, v8, v9, v10, v11, v12, v13, v14, v15, v16, v17, v18, v19, v20, v21, v22, v23, v24, v25, v26, v27, v28, v29, v30, v31) => ⟨41, 0, [(2, (.c (.ptr 64000000 0))), (24, (.c (.bool v0)))], [], [(256000000, .gone), (64000000, (.box [(.int .i64 v1), (.int .i64 v2), (.int .i64 v3), (.bool v4), (.int .i64 v5), (.int .i64 v6), (.int .i64 v7), (.bool v8), (.int .i64 v9), (.int .i64 v10), (.int .i64 v11), (.bool v12), (.bool v13), (.int .i64 v14), (.int .i64 v15), (.int .i64 v16), (.bool v17), (.int .i64 v18), (.int .i64 v19), (.int .i64 v20), (.int .i64 v21), (.bool v22), (.bool v23), (.bool v24), (.bool v25), (.bool v26), (.int .i64 v27), (.int .i64 v28), (.int .i64 v29), (.int .i64 v30), (.int .i64 v31)]))]⟩
noncomputable def l1 ( k : Nat) (v : T1) : Option R := held (run (cs k) (loopN cs k) c1000017 (J1000017 k) (s1 v))
noncomputable def D1 (v : T1) : Option R := lim fun L => l1 (L 0) v
theorem D1_cn (v : T1) : Cn late (D1 v) fun L => l1 (L 0) v := of_lim
abbrev T2 : Type := Int × Int × Int × Bool × Int × Int × Int × Bool × Int × Int × Int × Bool × Bool × Int × Int × Int × Bool × Int × Int × Int × Int × Bool × Bool × Bool × Bool × Bool × Int × Int × Int × Int × Int
def s2 : T2 → St := fun (v0, v1, v2, v3, v4, v5, v6, v7, v8, v9, v10, v11, v12, v13, v14, v15, v16, v17, v18, v19, v20, v21, v22, v23, v24, v25, v26, v27, v28, v29, v30) => ⟨41, 0, [(2, (.c (.ptr 64000000 0)))], [], [(256000000, .gone), (64000000, (.box [(.int .i64 v0), (.int .i64 v1), (.int .i64 v2), (.bool v3), (.int .i64 v4), (.int .i64 v5), (.int .i64 v6), (.bool v7), (.int .i64 v8), (.int .i64 v9), (.int .i64 v10), (.bool v11), (.bool v12), (.int .i64 v13), (.int .i64 v14), (.int .i64 v15), (.bool v16), (.int .i64 v17), (.int .i64 v18), (.int .i64 v19), (.int .i64 v20), (.bool v21), (.bool v22), (.bool v23), (.bool v24), (.bool v25), (.int .i64 v26), (.int .i64 v27), (.int .i64 v28), (.int .i64 v29), (.int .i64 v30)]))]⟩
noncomputable def l2 ( k : Nat) (v : T2) : Option R := held (run (cs k) (loopN cs k) c1000018 (J1000018 k) (s2 v))
noncomputable def D2 (v : T2) : Option R := lim fun L => l2 (L 0) v
theorem D2_cn (v : T2) : Cn late (D2 v) fun L => l2 (L 0) v := of_lim
def d0 (L1k : T1 → Option R) : T0 → Option R := fun (v0, v1, v2, v3, v4, v5, v6, v7, v8, v9, v10, v11, v12, v13, v14, v15, v16, v17, v18, v19, v20, v21, v22, v23, v24, v25, v26, v27, v28, v29, v30, v31, v32) =>
br v1 (some true)
  (br (decide (v0 = 13)) (some (decide (v30 = 2) && decide (v31 = 0)))
    (br (decide (v0 = 2)) (L1k (decide (v0 = 2), v2, v3, v4, v5, v6, v7, v8, v9, v10, v11, v12, v13, v14, v15, v16, v17, v18, v19, v20, v21, v22, v23, v24, v25, v26, v27, v28, v29, v30, v31, v32))
      (br (decide (v0 = 3)) (L1k (decide (v0 = 3), v2, v3, v4, v5, v6, v7, v8, v9, v10, v11, v12, v13, v14, v15, v16, v17, v18, v19, v20, v21, v22, v23, v24, v25, v26, v27, v28, v29, v30, v31, v32))
        (br (decide (v0 = 4)) (L1k (decide (v0 = 4), v2, v3, v4, v5, v6, v7, v8, v9, v10, v11, v12, v13, v14, v15, v16, v17, v18, v19, v20, v21, v22, v23, v24, v25, v26, v27, v28, v29, v30, v31, v32))
          (br (decide (v0 = 8)) (L1k (decide (v0 = 8), v2, v3, v4, v5, v6, v7, v8, v9, v10, v11, v12, v13, v14, v15, v16, v17, v18, v19, v20, v21, v22, v23, v24, v25, v26, v27, v28, v29, v30, v31, v32))
            (L1k (decide (v0 = 9), v2, v3, v4, v5, v6, v7, v8, v9, v10, v11, v12, v13, v14, v15, v16, v17, v18, v19, v20, v21, v22, v23, v24, v25, v26, v27, v28, v29, v30, v31, v32)))))))
theorem d0_cn {ι : Type} {E : Fil ι} {L1k : T1 → Option R} {L1k' : ι → T1 → Option R} (hL1k : ∀ v, Cn E (L1k v) fun i => L1k' i v) : ∀ v : T0, Cn E (d0 L1k v) fun i => d0 (L1k' i) v := fun (v0, v1, v2, v3, v4, v5, v6, v7, v8, v9, v10, v11, v12, v13, v14, v15, v16, v17, v18, v19, v20, v21, v22, v23, v24, v25, v26, v27, v28, v29, v30, v31, v32) => (.br .some (.br .some (.br (hL1k _) (.br (hL1k _) (.br (hL1k _) (.br (hL1k _) (hL1k _)))))))
theorem l0_b ( k : Nat) : ∀ v : T0, run (cs k) (loopN cs k) c1000009 (J1000009 k) (s0 v) = d0 (l1 k) v := fun (v0, v1, v2, v3, v4, v5, v6, v7, v8, v9, v10, v11, v12, v13, v14, v15, v16, v17, v18, v19, v20, v21, v22, v23, v24, v25, v26, v27, v28, v29, v30, v31, v32) => by kernel_rfl
theorem D0_of (v : T0) {r : R} (h : d0 D1 v = some r) : D0 v = some r :=
  join_of (l := fun L => l0 (L 0) v) (d := fun L => d0 (l1 (L 0)) v) (fun L => (held_eq _).trans (l0_b (L 0) v)) (d0_cn (fun v => (D1_cn v).re [0]) v) h
def d1 (L2k : T2 → Option R) : T1 → Option R := fun (v0, v1, v2, v3, v4, v5, v6, v7, v8, v9, v10, v11, v12, v13, v14, v15, v16, v17, v18, v19, v20, v21, v22, v23, v24, v25, v26, v27, v28, v29, v30, v31) =>
br v0 (some (decide (v29 = 0) && decide (v31 = 0))) (L2k (v1, v2, v3, v4, v5, v6, v7, v8, v9, v10, v11, v12, v13, v14, v15, v16, v17, v18, v19, v20, v21, v22, v23, v24, v25, v26, v27, v28, v29, v30, v31))
theorem d1_cn {ι : Type} {E : Fil ι} {L2k : T2 → Option R} {L2k' : ι → T2 → Option R} (hL2k : ∀ v, Cn E (L2k v) fun i => L2k' i v) : ∀ v : T1, Cn E (d1 L2k v) fun i => d1 (L2k' i) v := fun (v0, v1, v2, v3, v4, v5, v6, v7, v8, v9, v10, v11, v12, v13, v14, v15, v16, v17, v18, v19, v20, v21, v22, v23, v24, v25, v26, v27, v28, v29, v30, v31) => (.br .some (hL2k _))
theorem l1_b ( k : Nat) : ∀ v : T1, run (cs k) (loopN cs k) c1000017 (J1000017 k) (s1 v) = d1 (l2 k) v := fun (v0, v1, v2, v3, v4, v5, v6, v7, v8, v9, v10, v11, v12, v13, v14, v15, v16, v17, v18, v19, v20, v21, v22, v23, v24, v25, v26, v27, v28, v29, v30, v31) => by kernel_rfl
theorem D1_of (v : T1) {r : R} (h : d1 D2 v = some r) : D1 v = some r :=
  join_of (l := fun L => l1 (L 0) v) (d := fun L => d1 (l2 (L 0)) v) (fun L => (held_eq _).trans (l1_b (L 0) v)) (d1_cn (fun v => (D2_cn v).re [0]) v) h
def d2 : T2 → Option R := fun (v0, v1, v2, v3, v4, v5, v6, v7, v8, v9, v10, v11, v12, v13, v14, v15, v16, v17, v18, v19, v20, v21, v22, v23, v24, v25, v26, v27, v28, v29, v30) =>
some (decide (v28 = 0))
theorem d2_cn {ι : Type} {E : Fil ι} : ∀ v : T2, Cn E (d2 v) fun i => d2 v := fun (v0, v1, v2, v3, v4, v5, v6, v7, v8, v9, v10, v11, v12, v13, v14, v15, v16, v17, v18, v19, v20, v21, v22, v23, v24, v25, v26, v27, v28, v29, v30) => .some
theorem l2_b ( k : Nat) : ∀ v : T2, run (cs k) (loopN cs k) c1000018 (J1000018 k) (s2 v) = d2 v := fun (v0, v1, v2, v3, v4, v5, v6, v7, v8, v9, v10, v11, v12, v13, v14, v15, v16, v17, v18, v19, v20, v21, v22, v23, v24, v25, v26, v27, v28, v29, v30) => by kernel_rfl
theorem D2_of (v : T2) {r : R} (h : d2 v = some r) : D2 v = some r :=
  join_of (l := fun L => l2 (L 0) v) (d := fun L => d2 v) (fun L => (held_eq _).trans (l2_b (L 0) v)) (d2_cn v) h
noncomputable def f (k : Nat) : A → Option R := fun (v0, v1, v2, v3, v4, v5, v6, v7, v8, v9, v10, v11, v12, v13, v14, v15, v16, v17, v18, v19, v20, v21, v22, v23, v24, v25, v26, v27, v28, v29, v30, v31) => held (runFn cs k Try.f29 [(.agg [(.int .i64 v0), (.int .i64 v1), (.int .i64 v2), (.bool v3), (.int .i64 v4), (.int .i64 v5), (.int .i64 v6), (.bool v7), (.int .i64 v8), (.int .i64 v9), (.int .i64 v10), (.bool v11), (.bool v12), (.int .i64 v13), (.int .i64 v14), (.int .i64 v15), (.bool v16), (.int .i64 v17), (.int .i64 v18), (.int .i64 v19), (.int .i64 v20), (.bool v21), (.bool v22), (.bool v23), (.bool v24), (.bool v25), (.int .i64 v26), (.int .i64 v27), (.int .i64 v28), (.int .i64 v29), (.int .i64 v30)]), (.c (.int .i64 v31))] [] dec)
noncomputable def F (v : A) : Option R := lim fun L => f (L 0) v
theorem F_cn (x : Nat) (v : A) : Cn late (F v) fun L => f (L x) v := of_lim.re [x]
def d (L0k : T0 → Option R) : A → Option R := fun (v0, v1, v2, v3, v4, v5, v6, v7, v8, v9, v10, v11, v12, v13, v14, v15, v16, v17, v18, v19, v20, v21, v22, v23, v24, v25, v26, v27, v28, v29, v30, v31) =>
br (decide (v31 = 0)) (L0k (v31, decide (v31 = 0), v0, v1, v2, v3, v4, v5, v6, v7, v8, v9, v10, v11, v12, v13, v14, v15, v16, v17, v18, v19, v20, v21, v22, v23, v24, v25, v26, v27, v28, v29, v30))
  (br (decide (v31 = 1)) (L0k (v31, decide (v31 = 1), v0, v1, v2, v3, v4, v5, v6, v7, v8, v9, v10, v11, v12, v13, v14, v15, v16, v17, v18, v19, v20, v21, v22, v23, v24, v25, v26, v27, v28, v29, v30))
    (br (decide (v31 = 7)) (L0k (v31, decide (v31 = 7), v0, v1, v2, v3, v4, v5, v6, v7, v8, v9, v10, v11, v12, v13, v14, v15, v16, v17, v18, v19, v20, v21, v22, v23, v24, v25, v26, v27, v28, v29, v30))
      (br (decide (v31 = 5)) (L0k (v31, decide (v31 = 5), v0, v1, v2, v3, v4, v5, v6, v7, v8, v9, v10, v11, v12, v13, v14, v15, v16, v17, v18, v19, v20, v21, v22, v23, v24, v25, v26, v27, v28, v29, v30))
        (br (decide (v31 = 10)) (L0k (v31, decide (v31 = 10), v0, v1, v2, v3, v4, v5, v6, v7, v8, v9, v10, v11, v12, v13, v14, v15, v16, v17, v18, v19, v20, v21, v22, v23, v24, v25, v26, v27, v28, v29, v30))
          (br (decide (v31 = 11)) (L0k (v31, decide (v31 = 11), v0, v1, v2, v3, v4, v5, v6, v7, v8, v9, v10, v11, v12, v13, v14, v15, v16, v17, v18, v19, v20, v21, v22, v23, v24, v25, v26, v27, v28, v29, v30))
            (L0k (v31, decide (v31 = 12), v0, v1, v2, v3, v4, v5, v6, v7, v8, v9, v10, v11, v12, v13, v14, v15, v16, v17, v18, v19, v20, v21, v22, v23, v24, v25, v26, v27, v28, v29, v30)))))))
theorem d_cn {ι : Type} {E : Fil ι} {L0k : T0 → Option R} {L0k' : ι → T0 → Option R} (hL0k : ∀ v, Cn E (L0k v) fun i => L0k' i v) : ∀ v : A, Cn E (d L0k v) fun i => d (L0k' i) v := fun (v0, v1, v2, v3, v4, v5, v6, v7, v8, v9, v10, v11, v12, v13, v14, v15, v16, v17, v18, v19, v20, v21, v22, v23, v24, v25, v26, v27, v28, v29, v30, v31) => (.br (hL0k _) (.br (hL0k _) (.br (hL0k _) (.br (hL0k _) (.br (hL0k _) (.br (hL0k _) (hL0k _)))))))
theorem f_b (k : Nat) : ∀ v : A, f k v = d (l0 k) v := fun (v0, v1, v2, v3, v4, v5, v6, v7, v8, v9, v10, v11, v12, v13, v14, v15, v16, v17, v18, v19, v20, v21, v22, v23, v24, v25, v26, v27, v28, v29, v30, v31) => (held_eq _).trans (by kernel_rfl)
theorem F_of (v : A) {r : R} (h : d D0 v = some r) : F v = some r :=
  join_of (l := fun L => f (L 0) v) (d := fun L => d (l0 (L 0)) v) (fun L => f_b (L 0) v) (d_cn (fun v => (D0_cn v).re [0]) v) h
noncomputable def spec (k : Nat) (args : List AV) (ss : List Slot) : Option Ans :=
  match args, ss with
  | [(.agg [(.int .i64 v0), (.int .i64 v1), (.int .i64 v2), (.bool v3), (.int .i64 v4), (.int .i64 v5), (.int .i64 v6), (.bool v7), (.int .i64 v8), (.int .i64 v9), (.int .i64 v10), (.bool v11), (.bool v12), (.int .i64 v13), (.int .i64 v14), (.int .i64 v15), (.bool v16), (.int .i64 v17), (.int .i64 v18), (.int .i64 v19), (.int .i64 v20), (.bool v21), (.bool v22), (.bool v23), (.bool v24), (.bool v25), (.int .i64 v26), (.int .i64 v27), (.int .i64 v28), (.int .i64 v29), (.int .i64 v30)]), (.c (.int .i64 v31))], [] => some ⟨R, f k (v0, v1, v2, v3, v4, v5, v6, v7, v8, v9, v10, v11, v12, v13, v14, v15, v16, v17, v18, v19, v20, v21, v22, v23, v24, v25, v26, v27, v28, v29, v30, v31), enc⟩
  | _, _ => none
theorem spec_ok (k : Nat) : SpecOk Try.prog 29 (spec k) := by
  intro args ss ans x h hx X σ w vals hp
  unfold spec at h
  split at h
  · cases h
    exact spec_of cs_ok Try.func29 rfl rfl dec_ok (held_eq _).symm hx hp
  · cases h
end guard_permitted
noncomputable def t_guard_permitted (k : Nat) := tcons 29 (guard_permitted.spec k) (t_guard_uses k)
theorem t_guard_permitted_ok (n g : Nat) : SpecOk Try.prog g (t_guard_permitted n g) := tcons_ok (guard_permitted.spec_ok n) (fun g => t_guard_uses_ok n g) g
namespace axis_Send
abbrev R : Type := Int × Int × Int × Bool × Int
abbrev A : Type := Int × Int × Int × Int × Int × Int × Int × Bool × Int
def lv : List (Nat × List Nat) := [(2000000, [6, 7])]
noncomputable def cs : Nat → Ctx := ctxOf tis modes t_guard_permitted lv
theorem cs_ok (n : Nat) : CtxOk Try.prog (cs n) := ctxOf_ok rfl tis_ok t_guard_permitted_ok n
def enc (r : R) : Out := ((.tup [(.agg [(.int .i64 r.1), (.int .i64 r.2.1), (.int .i64 r.2.2.1), (.bool r.2.2.2.1)]), (.c (.int .i64 r.2.2.2.2))]), [])
def dec : Out → Option R
  | ((.tup [(.agg [(.int .i64 v0), (.int .i64 v1), (.int .i64 v2), (.bool v3)]), (.c (.int .i64 v4))]), []) => some (v0, v1, v2, v3, v4)
  | _ => none
theorem dec_ok : ∀ u y, dec u = some y → u = enc y := by
  intro u y h
  unfold dec at h
  split at h
  · cases h; rfl
  · cases h
noncomputable def b0 : Code := subF [] Try.f64
noncomputable def K0 (k : Nat) : Kt R := kTop (cs k) Try.f64 dec
noncomputable def f (k : Nat) : A → Option R := fun (v0, v1, v2, v3, v4, v5, v6, v7, v8) => held (runFn cs k Try.f64 [(.agg [(.int .i64 v0), (.int .i64 v1), (.int .i64 v2), (.int .i64 v3)]), (.agg [(.int .i64 v4), (.int .i64 v5), (.int .i64 v6), (.bool v7)]), (.c (.int .i64 v8))] [] dec)
noncomputable def F (v : A) : Option R := lim fun L => f (L 0) v
theorem F_cn (x : Nat) (v : A) : Cn late (F v) fun L => f (L x) v := of_lim.re [x]
def d (axis_Check_k : axis_Check.A → Option axis_Check.R) (slew_In_k : slew_In.A → Option slew_In.R) : A → Option R := fun (v0, v1, v2, v3, v4, v5, v6, v7, v8) =>
bnd (axis_Check_k (v0, v1, v2, v3, v4, v5, v6, v7)) fun r =>
  br (!decide (r = 0)) (some (0, 0, 0, false, r)) (bnd (slew_In_k (v0, v1, v2, v3, v8)) fun r => br (!r) (some (0, 0, 0, false, 4)) (some (v4, v5, v8, false, 0)))
theorem d_cn {ι : Type} {E : Fil ι} {axis_Check_k : axis_Check.A → Option axis_Check.R} {axis_Check_k' : ι → axis_Check.A → Option axis_Check.R} (haxis_Check_k : ∀ v, Cn E (axis_Check_k v) fun i => axis_Check_k' i v) {slew_In_k : slew_In.A → Option slew_In.R} {slew_In_k' : ι → slew_In.A → Option slew_In.R} (hslew_In_k : ∀ v, Cn E (slew_In_k v) fun i => slew_In_k' i v) : ∀ v : A, Cn E (d axis_Check_k slew_In_k v) fun i => d (axis_Check_k' i) (slew_In_k' i) v := fun (v0, v1, v2, v3, v4, v5, v6, v7, v8) => (.bnd (haxis_Check_k _) fun _ => (.br .some (.bnd (hslew_In_k _) fun _ => (.br .some .some))))
theorem f_b (k : Nat) : ∀ v : A, f k v = d (axis_Check.f k) (slew_In.f k) v := fun (v0, v1, v2, v3, v4, v5, v6, v7, v8) => (held_eq _).trans (by kernel_rfl)
theorem F_of (v : A) {r : R} (h : d axis_Check.F slew_In.F v = some r) : F v = some r :=
  join_of (l := fun L => f (L 0) v) (d := fun L => d (axis_Check.f (L 0)) (slew_In.f (L 0)) v) (fun L => f_b (L 0) v) (d_cn (axis_Check.F_cn 0) (slew_In.F_cn 0) v) h
noncomputable def spec (k : Nat) (args : List AV) (ss : List Slot) : Option Ans :=
  match args, ss with
  | [(.agg [(.int .i64 v0), (.int .i64 v1), (.int .i64 v2), (.int .i64 v3)]), (.agg [(.int .i64 v4), (.int .i64 v5), (.int .i64 v6), (.bool v7)]), (.c (.int .i64 v8))], [] => some ⟨R, f k (v0, v1, v2, v3, v4, v5, v6, v7, v8), enc⟩
  | _, _ => none
theorem spec_ok (k : Nat) : SpecOk Try.prog 64 (spec k) := by
  intro args ss ans x h hx X σ w vals hp
  unfold spec at h
  split at h
  · cases h
    exact spec_of cs_ok Try.func64 rfl rfl dec_ok (held_eq _).symm hx hp
  · cases h
end axis_Send
noncomputable def t_axis_Send (k : Nat) := tcons 64 (axis_Send.spec k) (t_guard_permitted k)
theorem t_axis_Send_ok (n g : Nat) : SpecOk Try.prog g (t_axis_Send n g) := tcons_ok (axis_Send.spec_ok n) (fun g => t_guard_permitted_ok n g) g
namespace mount_send
abbrev R : Type := Int × Int × Int × Bool × Int × Int × Int × Bool × Int × Int
abbrev A : Type := Int × Int × Int × Int × Int × Int × Int × Int × Int × Int × Int × Int × Int × Bool × Int × Int × Int × Bool × Int × Int × Int × Int
def lv : List (Nat × List Nat) := [(2000000, [8, 9])]
noncomputable def cs : Nat → Ctx := ctxOf tis modes t_axis_Send lv
theorem cs_ok (n : Nat) : CtxOk Try.prog (cs n) := ctxOf_ok rfl tis_ok t_axis_Send_ok n
def enc (r : R) : Out := ((.tup [(.agg [(.int .i64 r.1), (.int .i64 r.2.1), (.int .i64 r.2.2.1), (.bool r.2.2.2.1), (.int .i64 r.2.2.2.2.1), (.int .i64 r.2.2.2.2.2.1), (.int .i64 r.2.2.2.2.2.2.1), (.bool r.2.2.2.2.2.2.2.1), (.int .i64 r.2.2.2.2.2.2.2.2.1)]), (.c (.int .i64 r.2.2.2.2.2.2.2.2.2))]), [])
def dec : Out → Option R
  | ((.tup [(.agg [(.int .i64 v0), (.int .i64 v1), (.int .i64 v2), (.bool v3), (.int .i64 v4), (.int .i64 v5), (.int .i64 v6), (.bool v7), (.int .i64 v8)]), (.c (.int .i64 v9))]), []) => some (v0, v1, v2, v3, v4, v5, v6, v7, v8, v9)
  | _ => none
theorem dec_ok : ∀ u y, dec u = some y → u = enc y := by
  intro u y h
  unfold dec at h
  split at h
  · cases h; rfl
  · cases h
noncomputable def b0 : Code := subF [] Try.f60
noncomputable def K0 (k : Nat) : Kt R := kTop (cs k) Try.f60 dec
noncomputable def f (k : Nat) : A → Option R := fun (v0, v1, v2, v3, v4, v5, v6, v7, v8, v9, v10, v11, v12, v13, v14, v15, v16, v17, v18, v19, v20, v21) => held (runFn cs k Try.f60 [(.agg [(.int .i64 v0), (.int .i64 v1), (.int .i64 v2), (.int .i64 v3), (.int .i64 v4), (.int .i64 v5), (.int .i64 v6), (.int .i64 v7), (.int .i64 v8), (.int .i64 v9)]), (.agg [(.int .i64 v10), (.int .i64 v11), (.int .i64 v12), (.bool v13), (.int .i64 v14), (.int .i64 v15), (.int .i64 v16), (.bool v17), (.int .i64 v18)]), (.agg [(.int .i64 v19), (.int .i64 v20)]), (.c (.int .i64 v21))] [] dec)
noncomputable def F (v : A) : Option R := lim fun L => f (L 0) v
theorem F_cn (x : Nat) (v : A) : Cn late (F v) fun L => f (L x) v := of_lim.re [x]
def d (axis_Send_k : axis_Send.A → Option axis_Send.R) : A → Option R := fun (v0, v1, v2, v3, v4, v5, v6, v7, v8, v9, v10, v11, v12, v13, v14, v15, v16, v17, v18, v19, v20, v21) =>
bnd (axis_Send_k (v0, v1, v2, v3, v10, v11, v12, v13, v19)) fun r =>
  br (!decide (r.snd.snd.snd.snd = 0)) (some (0, 0, 0, false, 0, 0, 0, false, 0, r.snd.snd.snd.snd))
    (bnd (axis_Send_k (v4, v5, v6, v7, v14, v15, v16, v17, v20)) fun r_1 =>
      br (!decide (r_1.snd.snd.snd.snd = 0)) (some (0, 0, 0, false, 0, 0, 0, false, 0, r_1.snd.snd.snd.snd))
        (some (r.fst, r.snd.fst, r.snd.snd.fst, r.snd.snd.snd.fst, r_1.fst, r_1.snd.fst, r_1.snd.snd.fst, r_1.snd.snd.snd.fst, v21, 0)))
theorem d_cn {ι : Type} {E : Fil ι} {axis_Send_k : axis_Send.A → Option axis_Send.R} {axis_Send_k' : ι → axis_Send.A → Option axis_Send.R} (haxis_Send_k : ∀ v, Cn E (axis_Send_k v) fun i => axis_Send_k' i v) : ∀ v : A, Cn E (d axis_Send_k v) fun i => d (axis_Send_k' i) v := fun (v0, v1, v2, v3, v4, v5, v6, v7, v8, v9, v10, v11, v12, v13, v14, v15, v16, v17, v18, v19, v20, v21) => (.bnd (haxis_Send_k _) fun _ => (.br .some (.bnd (haxis_Send_k _) fun _ => (.br .some .some))))
theorem f_b (k : Nat) : ∀ v : A, f k v = d (axis_Send.f k) v := fun (v0, v1, v2, v3, v4, v5, v6, v7, v8, v9, v10, v11, v12, v13, v14, v15, v16, v17, v18, v19, v20, v21) => (held_eq _).trans (by kernel_rfl)
theorem F_of (v : A) {r : R} (h : d axis_Send.F v = some r) : F v = some r :=
  join_of (l := fun L => f (L 0) v) (d := fun L => d (axis_Send.f (L 0)) v) (fun L => f_b (L 0) v) (d_cn (axis_Send.F_cn 0) v) h
noncomputable def spec (k : Nat) (args : List AV) (ss : List Slot) : Option Ans :=
  match args, ss with
  | [(.agg [(.int .i64 v0), (.int .i64 v1), (.int .i64 v2), (.int .i64 v3), (.int .i64 v4), (.int .i64 v5), (.int .i64 v6), (.int .i64 v7), (.int .i64 v8), (.int .i64 v9)]), (.agg [(.int .i64 v10), (.int .i64 v11), (.int .i64 v12), (.bool v13), (.int .i64 v14), (.int .i64 v15), (.int .i64 v16), (.bool v17), (.int .i64 v18)]), (.agg [(.int .i64 v19), (.int .i64 v20)]), (.c (.int .i64 v21))], [] => some ⟨R, f k (v0, v1, v2, v3, v4, v5, v6, v7, v8, v9, v10, v11, v12, v13, v14, v15, v16, v17, v18, v19, v20, v21), enc⟩
  | _, _ => none
theorem spec_ok (k : Nat) : SpecOk Try.prog 60 (spec k) := by
  intro args ss ans x h hx X σ w vals hp
  unfold spec at h
  split at h
  · cases h
    exact spec_of cs_ok Try.func60 rfl rfl dec_ok (held_eq _).symm hx hp
  · cases h
end mount_send
noncomputable def t_mount_send (k : Nat) := tcons 60 (mount_send.spec k) (t_axis_Send k)
theorem t_mount_send_ok (n g : Nat) : SpecOk Try.prog g (t_mount_send n g) := tcons_ok (mount_send.spec_ok n) (fun g => t_axis_Send_ok n g) g
namespace mount_Goto
abbrev R : Type := Int × Int × Int × Bool × Int × Int × Int × Bool × Int × Int
abbrev A : Type := Int × Int × Int × Int × Int × Int × Int × Int × Int × Int × Int × Int × Int × Bool × Int × Int × Int × Bool × Int × Int × Int
def lv : List (Nat × List Nat) := [(2000000, [6, 7])]
noncomputable def cs : Nat → Ctx := ctxOf tis modes t_mount_send lv
theorem cs_ok (n : Nat) : CtxOk Try.prog (cs n) := ctxOf_ok rfl tis_ok t_mount_send_ok n
def enc (r : R) : Out := ((.tup [(.agg [(.int .i64 r.1), (.int .i64 r.2.1), (.int .i64 r.2.2.1), (.bool r.2.2.2.1), (.int .i64 r.2.2.2.2.1), (.int .i64 r.2.2.2.2.2.1), (.int .i64 r.2.2.2.2.2.2.1), (.bool r.2.2.2.2.2.2.2.1), (.int .i64 r.2.2.2.2.2.2.2.2.1)]), (.c (.int .i64 r.2.2.2.2.2.2.2.2.2))]), [])
def dec : Out → Option R
  | ((.tup [(.agg [(.int .i64 v0), (.int .i64 v1), (.int .i64 v2), (.bool v3), (.int .i64 v4), (.int .i64 v5), (.int .i64 v6), (.bool v7), (.int .i64 v8)]), (.c (.int .i64 v9))]), []) => some (v0, v1, v2, v3, v4, v5, v6, v7, v8, v9)
  | _ => none
theorem dec_ok : ∀ u y, dec u = some y → u = enc y := by
  intro u y h
  unfold dec at h
  split at h
  · cases h; rfl
  · cases h
noncomputable def b0 : Code := subF [] Try.f45
noncomputable def K0 (k : Nat) : Kt R := kTop (cs k) Try.f45 dec
noncomputable def f (k : Nat) : A → Option R := fun (v0, v1, v2, v3, v4, v5, v6, v7, v8, v9, v10, v11, v12, v13, v14, v15, v16, v17, v18, v19, v20) => held (runFn cs k Try.f45 [(.agg [(.int .i64 v0), (.int .i64 v1), (.int .i64 v2), (.int .i64 v3), (.int .i64 v4), (.int .i64 v5), (.int .i64 v6), (.int .i64 v7), (.int .i64 v8), (.int .i64 v9)]), (.agg [(.int .i64 v10), (.int .i64 v11), (.int .i64 v12), (.bool v13), (.int .i64 v14), (.int .i64 v15), (.int .i64 v16), (.bool v17), (.int .i64 v18)]), (.agg [(.int .i64 v19), (.int .i64 v20)])] [] dec)
noncomputable def F (v : A) : Option R := lim fun L => f (L 0) v
theorem F_cn (x : Nat) (v : A) : Cn late (F v) fun L => f (L x) v := of_lim.re [x]
def d (mount_Check_k : mount_Check.A → Option mount_Check.R) (mount_send_k : mount_send.A → Option mount_send.R) : A → Option R := fun (v0, v1, v2, v3, v4, v5, v6, v7, v8, v9, v10, v11, v12, v13, v14, v15, v16, v17, v18, v19, v20) =>
bnd (mount_Check_k (v0, v1, v2, v3, v4, v5, v6, v7, v8, v9, v10, v11, v12, v13, v14, v15, v16, v17, v18)) fun r =>
  br (!decide (r = 0)) (some (0, 0, 0, false, 0, 0, 0, false, 0, r))
    (br (decide (v18 = 5)) (some (0, 0, 0, false, 0, 0, 0, false, 0, 10))
      (bnd (mount_send_k (v0, v1, v2, v3, v4, v5, v6, v7, v8, v9, v10, v11, v12, v13, v14, v15, v16, v17, v18, v19, v20, 2)) fun r =>
        some
          (r.fst, r.snd.fst, r.snd.snd.fst, r.snd.snd.snd.fst, r.snd.snd.snd.snd.fst, r.snd.snd.snd.snd.snd.fst, r.snd.snd.snd.snd.snd.snd.fst, r.snd.snd.snd.snd.snd.snd.snd.fst, r.snd.snd.snd.snd.snd.snd.snd.snd.fst,
            r.snd.snd.snd.snd.snd.snd.snd.snd.snd)))
theorem d_cn {ι : Type} {E : Fil ι} {mount_Check_k : mount_Check.A → Option mount_Check.R} {mount_Check_k' : ι → mount_Check.A → Option mount_Check.R} (hmount_Check_k : ∀ v, Cn E (mount_Check_k v) fun i => mount_Check_k' i v) {mount_send_k : mount_send.A → Option mount_send.R} {mount_send_k' : ι → mount_send.A → Option mount_send.R} (hmount_send_k : ∀ v, Cn E (mount_send_k v) fun i => mount_send_k' i v) : ∀ v : A, Cn E (d mount_Check_k mount_send_k v) fun i => d (mount_Check_k' i) (mount_send_k' i) v := fun (v0, v1, v2, v3, v4, v5, v6, v7, v8, v9, v10, v11, v12, v13, v14, v15, v16, v17, v18, v19, v20) => (.bnd (hmount_Check_k _) fun _ => (.br .some (.br .some (.bnd (hmount_send_k _) fun _ => .some))))
theorem f_b (k : Nat) : ∀ v : A, f k v = d (mount_Check.f k) (mount_send.f k) v := fun (v0, v1, v2, v3, v4, v5, v6, v7, v8, v9, v10, v11, v12, v13, v14, v15, v16, v17, v18, v19, v20) => (held_eq _).trans (by kernel_rfl)
theorem F_of (v : A) {r : R} (h : d mount_Check.F mount_send.F v = some r) : F v = some r :=
  join_of (l := fun L => f (L 0) v) (d := fun L => d (mount_Check.f (L 0)) (mount_send.f (L 0)) v) (fun L => f_b (L 0) v) (d_cn (mount_Check.F_cn 0) (mount_send.F_cn 0) v) h
noncomputable def spec (k : Nat) (args : List AV) (ss : List Slot) : Option Ans :=
  match args, ss with
  | [(.agg [(.int .i64 v0), (.int .i64 v1), (.int .i64 v2), (.int .i64 v3), (.int .i64 v4), (.int .i64 v5), (.int .i64 v6), (.int .i64 v7), (.int .i64 v8), (.int .i64 v9)]), (.agg [(.int .i64 v10), (.int .i64 v11), (.int .i64 v12), (.bool v13), (.int .i64 v14), (.int .i64 v15), (.int .i64 v16), (.bool v17), (.int .i64 v18)]), (.agg [(.int .i64 v19), (.int .i64 v20)])], [] => some ⟨R, f k (v0, v1, v2, v3, v4, v5, v6, v7, v8, v9, v10, v11, v12, v13, v14, v15, v16, v17, v18, v19, v20), enc⟩
  | _, _ => none
theorem spec_ok (k : Nat) : SpecOk Try.prog 45 (spec k) := by
  intro args ss ans x h hx X σ w vals hp
  unfold spec at h
  split at h
  · cases h
    exact spec_of cs_ok Try.func45 rfl rfl dec_ok (held_eq _).symm hx hp
  · cases h
end mount_Goto
noncomputable def t_mount_Goto (k : Nat) := tcons 45 (mount_Goto.spec k) (t_mount_send k)
theorem t_mount_Goto_ok (n g : Nat) : SpecOk Try.prog g (t_mount_Goto n g) := tcons_ok (mount_Goto.spec_ok n) (fun g => t_mount_send_ok n g) g
namespace mount_far
abbrev R : Type := Bool
abbrev A : Type := Int × Int
def lv : List (Nat × List Nat) := [(2000000, [4])]
noncomputable def cs : Nat → Ctx := ctxOf tis modes t_mount_Goto lv
theorem cs_ok (n : Nat) : CtxOk Try.prog (cs n) := ctxOf_ok rfl tis_ok t_mount_Goto_ok n
def enc (r : R) : Out := ((.c (.bool r)), [])
def dec : Out → Option R
  | ((.c (.bool v0)), []) => some v0
  | _ => none
theorem dec_ok : ∀ u y, dec u = some y → u = enc y := by
  intro u y h
  unfold dec at h
  split at h
  · cases h; rfl
  · cases h
noncomputable def b0 : Code := subF [] Try.f61
noncomputable def K0 (k : Nat) : Kt R := kTop (cs k) Try.f61 dec
noncomputable def f (k : Nat) : A → Option R := fun (v0, v1) => held (runFn cs k Try.f61 [(.c (.int .i64 v0)), (.c (.int .i64 v1))] [] dec)
noncomputable def F (v : A) : Option R := lim fun L => f (L 0) v
theorem F_cn (x : Nat) (v : A) : Cn late (F v) fun L => f (L x) v := of_lim.re [x]
def d : A → Option R := fun (v0, v1) =>
some (decide (wrap IntKind.i64 (v1 + 67108864) < v0) || decide (v0 < wrap IntKind.i64 (v1 - 67108864)))
theorem d_cn {ι : Type} {E : Fil ι} : ∀ v : A, Cn E (d v) fun i => d v := fun (v0, v1) => .some
theorem f_b (k : Nat) : ∀ v : A, f k v = d v := fun (v0, v1) => (held_eq _).trans (by kernel_rfl)
theorem F_of (v : A) {r : R} (h : d v = some r) : F v = some r :=
  join_of (l := fun L => f (L 0) v) (d := fun L => d v) (fun L => f_b (L 0) v) (d_cn v) h
noncomputable def spec (k : Nat) (args : List AV) (ss : List Slot) : Option Ans :=
  match args, ss with
  | [(.c (.int .i64 v0)), (.c (.int .i64 v1))], [] => some ⟨R, f k (v0, v1), enc⟩
  | _, _ => none
theorem spec_ok (k : Nat) : SpecOk Try.prog 61 (spec k) := by
  intro args ss ans x h hx X σ w vals hp
  unfold spec at h
  split at h
  · cases h
    exact spec_of cs_ok Try.func61 rfl rfl dec_ok (held_eq _).symm hx hp
  · cases h
end mount_far
noncomputable def t_mount_far (k : Nat) := tcons 61 (mount_far.spec k) (t_mount_Goto k)
theorem t_mount_far_ok (n g : Nat) : SpecOk Try.prog g (t_mount_far n g) := tcons_ok (mount_far.spec_ok n) (fun g => t_mount_Goto_ok n g) g
namespace mount_Follow
abbrev R : Type := Int × Int × Int × Bool × Int × Int × Int × Bool × Int × Int
abbrev A : Type := Int × Int × Int × Int × Int × Int × Int × Int × Int × Int × Int × Int × Int × Bool × Int × Int × Int × Bool × Int × Int × Int
def lv : List (Nat × List Nat) := [(2000000, [6, 7])]
noncomputable def cs : Nat → Ctx := ctxOf tis modes t_mount_far lv
theorem cs_ok (n : Nat) : CtxOk Try.prog (cs n) := ctxOf_ok rfl tis_ok t_mount_far_ok n
def enc (r : R) : Out := ((.tup [(.agg [(.int .i64 r.1), (.int .i64 r.2.1), (.int .i64 r.2.2.1), (.bool r.2.2.2.1), (.int .i64 r.2.2.2.2.1), (.int .i64 r.2.2.2.2.2.1), (.int .i64 r.2.2.2.2.2.2.1), (.bool r.2.2.2.2.2.2.2.1), (.int .i64 r.2.2.2.2.2.2.2.2.1)]), (.c (.int .i64 r.2.2.2.2.2.2.2.2.2))]), [])
def dec : Out → Option R
  | ((.tup [(.agg [(.int .i64 v0), (.int .i64 v1), (.int .i64 v2), (.bool v3), (.int .i64 v4), (.int .i64 v5), (.int .i64 v6), (.bool v7), (.int .i64 v8)]), (.c (.int .i64 v9))]), []) => some (v0, v1, v2, v3, v4, v5, v6, v7, v8, v9)
  | _ => none
theorem dec_ok : ∀ u y, dec u = some y → u = enc y := by
  intro u y h
  unfold dec at h
  split at h
  · cases h; rfl
  · cases h
noncomputable def b0 : Code := subF [] Try.f46
noncomputable def K0 (k : Nat) : Kt R := kTop (cs k) Try.f46 dec
noncomputable def f (k : Nat) : A → Option R := fun (v0, v1, v2, v3, v4, v5, v6, v7, v8, v9, v10, v11, v12, v13, v14, v15, v16, v17, v18, v19, v20) => held (runFn cs k Try.f46 [(.agg [(.int .i64 v0), (.int .i64 v1), (.int .i64 v2), (.int .i64 v3), (.int .i64 v4), (.int .i64 v5), (.int .i64 v6), (.int .i64 v7), (.int .i64 v8), (.int .i64 v9)]), (.agg [(.int .i64 v10), (.int .i64 v11), (.int .i64 v12), (.bool v13), (.int .i64 v14), (.int .i64 v15), (.int .i64 v16), (.bool v17), (.int .i64 v18)]), (.agg [(.int .i64 v19), (.int .i64 v20)])] [] dec)
noncomputable def F (v : A) : Option R := lim fun L => f (L 0) v
theorem F_cn (x : Nat) (v : A) : Cn late (F v) fun L => f (L x) v := of_lim.re [x]
def d (mount_Check_k : mount_Check.A → Option mount_Check.R) (mount_far_k : mount_far.A → Option mount_far.R) (mount_send_k : mount_send.A → Option mount_send.R) : A → Option R := fun (v0, v1, v2, v3, v4, v5, v6, v7, v8, v9, v10, v11, v12, v13, v14, v15, v16, v17, v18, v19, v20) =>
bnd (mount_Check_k (v0, v1, v2, v3, v4, v5, v6, v7, v8, v9, v10, v11, v12, v13, v14, v15, v16, v17, v18)) fun r =>
  br (!decide (r = 0)) (some (0, 0, 0, false, 0, 0, 0, false, 0, r))
    (br (!decide (v18 = 3)) (some (0, 0, 0, false, 0, 0, 0, false, 0, 10))
      (bnd (mount_far_k (v19, v12)) fun r =>
        br (r == false)
          (bnd (mount_far_k (v20, v16)) fun r =>
            br r (some (0, 0, 0, false, 0, 0, 0, false, 0, 16))
              (bnd (mount_send_k (v0, v1, v2, v3, v4, v5, v6, v7, v8, v9, v10, v11, v12, v13, v14, v15, v16, v17, v18, v19, v20, 3)) fun r =>
                some
                  (r.fst, r.snd.fst, r.snd.snd.fst, r.snd.snd.snd.fst, r.snd.snd.snd.snd.fst, r.snd.snd.snd.snd.snd.fst, r.snd.snd.snd.snd.snd.snd.fst, r.snd.snd.snd.snd.snd.snd.snd.fst,
                    r.snd.snd.snd.snd.snd.snd.snd.snd.fst, r.snd.snd.snd.snd.snd.snd.snd.snd.snd)))
          (some (0, 0, 0, false, 0, 0, 0, false, 0, 16))))
theorem d_cn {ι : Type} {E : Fil ι} {mount_Check_k : mount_Check.A → Option mount_Check.R} {mount_Check_k' : ι → mount_Check.A → Option mount_Check.R} (hmount_Check_k : ∀ v, Cn E (mount_Check_k v) fun i => mount_Check_k' i v) {mount_far_k : mount_far.A → Option mount_far.R} {mount_far_k' : ι → mount_far.A → Option mount_far.R} (hmount_far_k : ∀ v, Cn E (mount_far_k v) fun i => mount_far_k' i v) {mount_send_k : mount_send.A → Option mount_send.R} {mount_send_k' : ι → mount_send.A → Option mount_send.R} (hmount_send_k : ∀ v, Cn E (mount_send_k v) fun i => mount_send_k' i v) : ∀ v : A, Cn E (d mount_Check_k mount_far_k mount_send_k v) fun i => d (mount_Check_k' i) (mount_far_k' i) (mount_send_k' i) v := fun (v0, v1, v2, v3, v4, v5, v6, v7, v8, v9, v10, v11, v12, v13, v14, v15, v16, v17, v18, v19, v20) => (.bnd (hmount_Check_k _) fun _ => (.br .some (.br .some (.bnd (hmount_far_k _) fun _ => (.br (.bnd (hmount_far_k _) fun _ => (.br .some (.bnd (hmount_send_k _) fun _ => .some))) .some)))))
theorem f_b (k : Nat) : ∀ v : A, f k v = d (mount_Check.f k) (mount_far.f k) (mount_send.f k) v := fun (v0, v1, v2, v3, v4, v5, v6, v7, v8, v9, v10, v11, v12, v13, v14, v15, v16, v17, v18, v19, v20) => (held_eq _).trans (by kernel_rfl)
theorem F_of (v : A) {r : R} (h : d mount_Check.F mount_far.F mount_send.F v = some r) : F v = some r :=
  join_of (l := fun L => f (L 0) v) (d := fun L => d (mount_Check.f (L 0)) (mount_far.f (L 0)) (mount_send.f (L 0)) v) (fun L => f_b (L 0) v) (d_cn (mount_Check.F_cn 0) (mount_far.F_cn 0) (mount_send.F_cn 0) v) h
noncomputable def spec (k : Nat) (args : List AV) (ss : List Slot) : Option Ans :=
  match args, ss with
  | [(.agg [(.int .i64 v0), (.int .i64 v1), (.int .i64 v2), (.int .i64 v3), (.int .i64 v4), (.int .i64 v5), (.int .i64 v6), (.int .i64 v7), (.int .i64 v8), (.int .i64 v9)]), (.agg [(.int .i64 v10), (.int .i64 v11), (.int .i64 v12), (.bool v13), (.int .i64 v14), (.int .i64 v15), (.int .i64 v16), (.bool v17), (.int .i64 v18)]), (.agg [(.int .i64 v19), (.int .i64 v20)])], [] => some ⟨R, f k (v0, v1, v2, v3, v4, v5, v6, v7, v8, v9, v10, v11, v12, v13, v14, v15, v16, v17, v18, v19, v20), enc⟩
  | _, _ => none
theorem spec_ok (k : Nat) : SpecOk Try.prog 46 (spec k) := by
  intro args ss ans x h hx X σ w vals hp
  unfold spec at h
  split at h
  · cases h
    exact spec_of cs_ok Try.func46 rfl rfl dec_ok (held_eq _).symm hx hp
  · cases h
end mount_Follow
noncomputable def t_mount_Follow (k : Nat) := tcons 46 (mount_Follow.spec k) (t_mount_far k)
theorem t_mount_Follow_ok (n g : Nat) : SpecOk Try.prog g (t_mount_Follow n g) := tcons_ok (mount_Follow.spec_ok n) (fun g => t_mount_far_ok n g) g
namespace mount_Park
abbrev R : Type := Int × Int × Int × Bool × Int × Int × Int × Bool × Int × Int
abbrev A : Type := Int × Int × Int × Int × Int × Int × Int × Int × Int × Int × Int × Int × Int × Bool × Int × Int × Int × Bool × Int
def lv : List (Nat × List Nat) := [(2000000, [4, 5])]
noncomputable def cs : Nat → Ctx := ctxOf tis modes t_mount_Follow lv
theorem cs_ok (n : Nat) : CtxOk Try.prog (cs n) := ctxOf_ok rfl tis_ok t_mount_Follow_ok n
def enc (r : R) : Out := ((.tup [(.agg [(.int .i64 r.1), (.int .i64 r.2.1), (.int .i64 r.2.2.1), (.bool r.2.2.2.1), (.int .i64 r.2.2.2.2.1), (.int .i64 r.2.2.2.2.2.1), (.int .i64 r.2.2.2.2.2.2.1), (.bool r.2.2.2.2.2.2.2.1), (.int .i64 r.2.2.2.2.2.2.2.2.1)]), (.c (.int .i64 r.2.2.2.2.2.2.2.2.2))]), [])
def dec : Out → Option R
  | ((.tup [(.agg [(.int .i64 v0), (.int .i64 v1), (.int .i64 v2), (.bool v3), (.int .i64 v4), (.int .i64 v5), (.int .i64 v6), (.bool v7), (.int .i64 v8)]), (.c (.int .i64 v9))]), []) => some (v0, v1, v2, v3, v4, v5, v6, v7, v8, v9)
  | _ => none
theorem dec_ok : ∀ u y, dec u = some y → u = enc y := by
  intro u y h
  unfold dec at h
  split at h
  · cases h; rfl
  · cases h
noncomputable def b0 : Code := subF [] Try.f47
noncomputable def K0 (k : Nat) : Kt R := kTop (cs k) Try.f47 dec
noncomputable def f (k : Nat) : A → Option R := fun (v0, v1, v2, v3, v4, v5, v6, v7, v8, v9, v10, v11, v12, v13, v14, v15, v16, v17, v18) => held (runFn cs k Try.f47 [(.agg [(.int .i64 v0), (.int .i64 v1), (.int .i64 v2), (.int .i64 v3), (.int .i64 v4), (.int .i64 v5), (.int .i64 v6), (.int .i64 v7), (.int .i64 v8), (.int .i64 v9)]), (.agg [(.int .i64 v10), (.int .i64 v11), (.int .i64 v12), (.bool v13), (.int .i64 v14), (.int .i64 v15), (.int .i64 v16), (.bool v17), (.int .i64 v18)])] [] dec)
noncomputable def F (v : A) : Option R := lim fun L => f (L 0) v
theorem F_cn (x : Nat) (v : A) : Cn late (F v) fun L => f (L x) v := of_lim.re [x]
def d (mount_Check_k : mount_Check.A → Option mount_Check.R) (mount_send_k : mount_send.A → Option mount_send.R) : A → Option R := fun (v0, v1, v2, v3, v4, v5, v6, v7, v8, v9, v10, v11, v12, v13, v14, v15, v16, v17, v18) =>
bnd (mount_Check_k (v0, v1, v2, v3, v4, v5, v6, v7, v8, v9, v10, v11, v12, v13, v14, v15, v16, v17, v18)) fun r =>
  br (!decide (r = 0)) (some (0, 0, 0, false, 0, 0, 0, false, 0, r))
    (br (decide (v18 = 5)) (some (0, 0, 0, false, 0, 0, 0, false, 0, 10))
      (bnd (mount_send_k (v0, v1, v2, v3, v4, v5, v6, v7, v8, v9, v10, v11, v12, v13, v14, v15, v16, v17, v18, v8, v9, 4)) fun r =>
        some
          (r.fst, r.snd.fst, r.snd.snd.fst, r.snd.snd.snd.fst, r.snd.snd.snd.snd.fst, r.snd.snd.snd.snd.snd.fst, r.snd.snd.snd.snd.snd.snd.fst, r.snd.snd.snd.snd.snd.snd.snd.fst, r.snd.snd.snd.snd.snd.snd.snd.snd.fst,
            r.snd.snd.snd.snd.snd.snd.snd.snd.snd)))
theorem d_cn {ι : Type} {E : Fil ι} {mount_Check_k : mount_Check.A → Option mount_Check.R} {mount_Check_k' : ι → mount_Check.A → Option mount_Check.R} (hmount_Check_k : ∀ v, Cn E (mount_Check_k v) fun i => mount_Check_k' i v) {mount_send_k : mount_send.A → Option mount_send.R} {mount_send_k' : ι → mount_send.A → Option mount_send.R} (hmount_send_k : ∀ v, Cn E (mount_send_k v) fun i => mount_send_k' i v) : ∀ v : A, Cn E (d mount_Check_k mount_send_k v) fun i => d (mount_Check_k' i) (mount_send_k' i) v := fun (v0, v1, v2, v3, v4, v5, v6, v7, v8, v9, v10, v11, v12, v13, v14, v15, v16, v17, v18) => (.bnd (hmount_Check_k _) fun _ => (.br .some (.br .some (.bnd (hmount_send_k _) fun _ => .some))))
theorem f_b (k : Nat) : ∀ v : A, f k v = d (mount_Check.f k) (mount_send.f k) v := fun (v0, v1, v2, v3, v4, v5, v6, v7, v8, v9, v10, v11, v12, v13, v14, v15, v16, v17, v18) => (held_eq _).trans (by kernel_rfl)
theorem F_of (v : A) {r : R} (h : d mount_Check.F mount_send.F v = some r) : F v = some r :=
  join_of (l := fun L => f (L 0) v) (d := fun L => d (mount_Check.f (L 0)) (mount_send.f (L 0)) v) (fun L => f_b (L 0) v) (d_cn (mount_Check.F_cn 0) (mount_send.F_cn 0) v) h
noncomputable def spec (k : Nat) (args : List AV) (ss : List Slot) : Option Ans :=
  match args, ss with
  | [(.agg [(.int .i64 v0), (.int .i64 v1), (.int .i64 v2), (.int .i64 v3), (.int .i64 v4), (.int .i64 v5), (.int .i64 v6), (.int .i64 v7), (.int .i64 v8), (.int .i64 v9)]), (.agg [(.int .i64 v10), (.int .i64 v11), (.int .i64 v12), (.bool v13), (.int .i64 v14), (.int .i64 v15), (.int .i64 v16), (.bool v17), (.int .i64 v18)])], [] => some ⟨R, f k (v0, v1, v2, v3, v4, v5, v6, v7, v8, v9, v10, v11, v12, v13, v14, v15, v16, v17, v18), enc⟩
  | _, _ => none
theorem spec_ok (k : Nat) : SpecOk Try.prog 47 (spec k) := by
  intro args ss ans x h hx X σ w vals hp
  unfold spec at h
  split at h
  · cases h
    exact spec_of cs_ok Try.func47 rfl rfl dec_ok (held_eq _).symm hx hp
  · cases h
end mount_Park
noncomputable def t_mount_Park (k : Nat) := tcons 47 (mount_Park.spec k) (t_mount_Follow k)
theorem t_mount_Park_ok (n g : Nat) : SpecOk Try.prog g (t_mount_Park n g) := tcons_ok (mount_Park.spec_ok n) (fun g => t_mount_Follow_ok n g) g
namespace axis_Brake
abbrev R : Type := Int × Int × Int × Bool × Int
abbrev A : Type := Int × Int × Int × Int × Int × Int × Int × Bool
def lv : List (Nat × List Nat) := [(2000000, [4, 5])]
noncomputable def cs : Nat → Ctx := ctxOf tis modes t_mount_Park lv
theorem cs_ok (n : Nat) : CtxOk Try.prog (cs n) := ctxOf_ok rfl tis_ok t_mount_Park_ok n
def enc (r : R) : Out := ((.tup [(.agg [(.int .i64 r.1), (.int .i64 r.2.1), (.int .i64 r.2.2.1), (.bool r.2.2.2.1)]), (.c (.int .i64 r.2.2.2.2))]), [])
def dec : Out → Option R
  | ((.tup [(.agg [(.int .i64 v0), (.int .i64 v1), (.int .i64 v2), (.bool v3)]), (.c (.int .i64 v4))]), []) => some (v0, v1, v2, v3, v4)
  | _ => none
theorem dec_ok : ∀ u y, dec u = some y → u = enc y := by
  intro u y h
  unfold dec at h
  split at h
  · cases h; rfl
  · cases h
noncomputable def b0 : Code := subF [] Try.f62
noncomputable def K0 (k : Nat) : Kt R := kTop (cs k) Try.f62 dec
noncomputable def f (k : Nat) : A → Option R := fun (v0, v1, v2, v3, v4, v5, v6, v7) => held (runFn cs k Try.f62 [(.agg [(.int .i64 v0), (.int .i64 v1), (.int .i64 v2), (.int .i64 v3)]), (.agg [(.int .i64 v4), (.int .i64 v5), (.int .i64 v6), (.bool v7)])] [] dec)
noncomputable def F (v : A) : Option R := lim fun L => f (L 0) v
theorem F_cn (x : Nat) (v : A) : Cn late (F v) fun L => f (L x) v := of_lim.re [x]
def d (axis_Check_k : axis_Check.A → Option axis_Check.R) : A → Option R := fun (v0, v1, v2, v3, v4, v5, v6, v7) =>
bnd (axis_Check_k (v0, v1, v2, v3, v4, v5, v6, v7)) fun r => br (!decide (r = 0)) (some (0, 0, 0, false, r)) (some (v4, v5, v6, true, 0))
theorem d_cn {ι : Type} {E : Fil ι} {axis_Check_k : axis_Check.A → Option axis_Check.R} {axis_Check_k' : ι → axis_Check.A → Option axis_Check.R} (haxis_Check_k : ∀ v, Cn E (axis_Check_k v) fun i => axis_Check_k' i v) : ∀ v : A, Cn E (d axis_Check_k v) fun i => d (axis_Check_k' i) v := fun (v0, v1, v2, v3, v4, v5, v6, v7) => (.bnd (haxis_Check_k _) fun _ => (.br .some .some))
theorem f_b (k : Nat) : ∀ v : A, f k v = d (axis_Check.f k) v := fun (v0, v1, v2, v3, v4, v5, v6, v7) => (held_eq _).trans (by kernel_rfl)
theorem F_of (v : A) {r : R} (h : d axis_Check.F v = some r) : F v = some r :=
  join_of (l := fun L => f (L 0) v) (d := fun L => d (axis_Check.f (L 0)) v) (fun L => f_b (L 0) v) (d_cn (axis_Check.F_cn 0) v) h
noncomputable def spec (k : Nat) (args : List AV) (ss : List Slot) : Option Ans :=
  match args, ss with
  | [(.agg [(.int .i64 v0), (.int .i64 v1), (.int .i64 v2), (.int .i64 v3)]), (.agg [(.int .i64 v4), (.int .i64 v5), (.int .i64 v6), (.bool v7)])], [] => some ⟨R, f k (v0, v1, v2, v3, v4, v5, v6, v7), enc⟩
  | _, _ => none
theorem spec_ok (k : Nat) : SpecOk Try.prog 62 (spec k) := by
  intro args ss ans x h hx X σ w vals hp
  unfold spec at h
  split at h
  · cases h
    exact spec_of cs_ok Try.func62 rfl rfl dec_ok (held_eq _).symm hx hp
  · cases h
end axis_Brake
noncomputable def t_axis_Brake (k : Nat) := tcons 62 (axis_Brake.spec k) (t_mount_Park k)
theorem t_axis_Brake_ok (n g : Nat) : SpecOk Try.prog g (t_axis_Brake n g) := tcons_ok (axis_Brake.spec_ok n) (fun g => t_mount_Park_ok n g) g
namespace mount_Stop
abbrev R : Type := Int × Int × Int × Bool × Int × Int × Int × Bool × Int × Int
abbrev A : Type := Int × Int × Int × Int × Int × Int × Int × Int × Int × Int × Int × Int × Int × Bool × Int × Int × Int × Bool × Int
def lv : List (Nat × List Nat) := [(2000000, [4, 5])]
noncomputable def cs : Nat → Ctx := ctxOf tis modes t_axis_Brake lv
theorem cs_ok (n : Nat) : CtxOk Try.prog (cs n) := ctxOf_ok rfl tis_ok t_axis_Brake_ok n
def enc (r : R) : Out := ((.tup [(.agg [(.int .i64 r.1), (.int .i64 r.2.1), (.int .i64 r.2.2.1), (.bool r.2.2.2.1), (.int .i64 r.2.2.2.2.1), (.int .i64 r.2.2.2.2.2.1), (.int .i64 r.2.2.2.2.2.2.1), (.bool r.2.2.2.2.2.2.2.1), (.int .i64 r.2.2.2.2.2.2.2.2.1)]), (.c (.int .i64 r.2.2.2.2.2.2.2.2.2))]), [])
def dec : Out → Option R
  | ((.tup [(.agg [(.int .i64 v0), (.int .i64 v1), (.int .i64 v2), (.bool v3), (.int .i64 v4), (.int .i64 v5), (.int .i64 v6), (.bool v7), (.int .i64 v8)]), (.c (.int .i64 v9))]), []) => some (v0, v1, v2, v3, v4, v5, v6, v7, v8, v9)
  | _ => none
theorem dec_ok : ∀ u y, dec u = some y → u = enc y := by
  intro u y h
  unfold dec at h
  split at h
  · cases h; rfl
  · cases h
noncomputable def b0 : Code := subF [] Try.f48
noncomputable def K0 (k : Nat) : Kt R := kTop (cs k) Try.f48 dec
noncomputable def f (k : Nat) : A → Option R := fun (v0, v1, v2, v3, v4, v5, v6, v7, v8, v9, v10, v11, v12, v13, v14, v15, v16, v17, v18) => held (runFn cs k Try.f48 [(.agg [(.int .i64 v0), (.int .i64 v1), (.int .i64 v2), (.int .i64 v3), (.int .i64 v4), (.int .i64 v5), (.int .i64 v6), (.int .i64 v7), (.int .i64 v8), (.int .i64 v9)]), (.agg [(.int .i64 v10), (.int .i64 v11), (.int .i64 v12), (.bool v13), (.int .i64 v14), (.int .i64 v15), (.int .i64 v16), (.bool v17), (.int .i64 v18)])] [] dec)
noncomputable def F (v : A) : Option R := lim fun L => f (L 0) v
theorem F_cn (x : Nat) (v : A) : Cn late (F v) fun L => f (L x) v := of_lim.re [x]
def d (mount_Check_k : mount_Check.A → Option mount_Check.R) (axis_Brake_k : axis_Brake.A → Option axis_Brake.R) : A → Option R := fun (v0, v1, v2, v3, v4, v5, v6, v7, v8, v9, v10, v11, v12, v13, v14, v15, v16, v17, v18) =>
bnd (mount_Check_k (v0, v1, v2, v3, v4, v5, v6, v7, v8, v9, v10, v11, v12, v13, v14, v15, v16, v17, v18)) fun r =>
  br (!decide (r = 0)) (some (0, 0, 0, false, 0, 0, 0, false, 0, r))
    (br (decide (v18 = 0)) (some (v10, v11, v12, v13, v14, v15, v16, v17, v18, 0))
      (bnd (axis_Brake_k (v0, v1, v2, v3, v10, v11, v12, v13)) fun r =>
        bnd (axis_Brake_k (v4, v5, v6, v7, v14, v15, v16, v17)) fun r_1 => some (r.fst, r.snd.fst, r.snd.snd.fst, r.snd.snd.snd.fst, r_1.fst, r_1.snd.fst, r_1.snd.snd.fst, r_1.snd.snd.snd.fst, 5, 0)))
theorem d_cn {ι : Type} {E : Fil ι} {mount_Check_k : mount_Check.A → Option mount_Check.R} {mount_Check_k' : ι → mount_Check.A → Option mount_Check.R} (hmount_Check_k : ∀ v, Cn E (mount_Check_k v) fun i => mount_Check_k' i v) {axis_Brake_k : axis_Brake.A → Option axis_Brake.R} {axis_Brake_k' : ι → axis_Brake.A → Option axis_Brake.R} (haxis_Brake_k : ∀ v, Cn E (axis_Brake_k v) fun i => axis_Brake_k' i v) : ∀ v : A, Cn E (d mount_Check_k axis_Brake_k v) fun i => d (mount_Check_k' i) (axis_Brake_k' i) v := fun (v0, v1, v2, v3, v4, v5, v6, v7, v8, v9, v10, v11, v12, v13, v14, v15, v16, v17, v18) => (.bnd (hmount_Check_k _) fun _ => (.br .some (.br .some (.bnd (haxis_Brake_k _) fun _ => (.bnd (haxis_Brake_k _) fun _ => .some)))))
theorem f_b (k : Nat) : ∀ v : A, f k v = d (mount_Check.f k) (axis_Brake.f k) v := fun (v0, v1, v2, v3, v4, v5, v6, v7, v8, v9, v10, v11, v12, v13, v14, v15, v16, v17, v18) => (held_eq _).trans (by kernel_rfl)
theorem F_of (v : A) {r : R} (h : d mount_Check.F axis_Brake.F v = some r) : F v = some r :=
  join_of (l := fun L => f (L 0) v) (d := fun L => d (mount_Check.f (L 0)) (axis_Brake.f (L 0)) v) (fun L => f_b (L 0) v) (d_cn (mount_Check.F_cn 0) (axis_Brake.F_cn 0) v) h
noncomputable def spec (k : Nat) (args : List AV) (ss : List Slot) : Option Ans :=
  match args, ss with
  | [(.agg [(.int .i64 v0), (.int .i64 v1), (.int .i64 v2), (.int .i64 v3), (.int .i64 v4), (.int .i64 v5), (.int .i64 v6), (.int .i64 v7), (.int .i64 v8), (.int .i64 v9)]), (.agg [(.int .i64 v10), (.int .i64 v11), (.int .i64 v12), (.bool v13), (.int .i64 v14), (.int .i64 v15), (.int .i64 v16), (.bool v17), (.int .i64 v18)])], [] => some ⟨R, f k (v0, v1, v2, v3, v4, v5, v6, v7, v8, v9, v10, v11, v12, v13, v14, v15, v16, v17, v18), enc⟩
  | _, _ => none
theorem spec_ok (k : Nat) : SpecOk Try.prog 48 (spec k) := by
  intro args ss ans x h hx X σ w vals hp
  unfold spec at h
  split at h
  · cases h
    exact spec_of cs_ok Try.func48 rfl rfl dec_ok (held_eq _).symm hx hp
  · cases h
end mount_Stop
noncomputable def t_mount_Stop (k : Nat) := tcons 48 (mount_Stop.spec k) (t_axis_Brake k)
theorem t_mount_Stop_ok (n g : Nat) : SpecOk Try.prog g (t_mount_Stop n g) := tcons_ok (mount_Stop.spec_ok n) (fun g => t_axis_Brake_ok n g) g
namespace dome_Brake
abbrev R : Type := Int × Int × Bool × Bool × Int × Int × Int × Bool × Int
abbrev A : Type := Int × Int × Bool × Bool × Int × Int × Int × Bool
def lv : List (Nat × List Nat) := [(2000000, [2, 3])]
noncomputable def cs : Nat → Ctx := ctxOf tis modes t_mount_Stop lv
theorem cs_ok (n : Nat) : CtxOk Try.prog (cs n) := ctxOf_ok rfl tis_ok t_mount_Stop_ok n
def enc (r : R) : Out := ((.tup [(.agg [(.int .i64 r.1), (.int .i64 r.2.1), (.bool r.2.2.1), (.bool r.2.2.2.1), (.int .i64 r.2.2.2.2.1), (.int .i64 r.2.2.2.2.2.1), (.int .i64 r.2.2.2.2.2.2.1), (.bool r.2.2.2.2.2.2.2.1)]), (.c (.int .i64 r.2.2.2.2.2.2.2.2))]), [])
def dec : Out → Option R
  | ((.tup [(.agg [(.int .i64 v0), (.int .i64 v1), (.bool v2), (.bool v3), (.int .i64 v4), (.int .i64 v5), (.int .i64 v6), (.bool v7)]), (.c (.int .i64 v8))]), []) => some (v0, v1, v2, v3, v4, v5, v6, v7, v8)
  | _ => none
theorem dec_ok : ∀ u y, dec u = some y → u = enc y := by
  intro u y h
  unfold dec at h
  split at h
  · cases h; rfl
  · cases h
noncomputable def b0 : Code := subF [] Try.f49
noncomputable def K0 (k : Nat) : Kt R := kTop (cs k) Try.f49 dec
noncomputable def f (k : Nat) : A → Option R := fun (v0, v1, v2, v3, v4, v5, v6, v7) => held (runFn cs k Try.f49 [(.agg [(.int .i64 v0), (.int .i64 v1), (.bool v2), (.bool v3), (.int .i64 v4), (.int .i64 v5), (.int .i64 v6), (.bool v7)])] [] dec)
noncomputable def F (v : A) : Option R := lim fun L => f (L 0) v
theorem F_cn (x : Nat) (v : A) : Cn late (F v) fun L => f (L x) v := of_lim.re [x]
def d (dome_Check_k : dome_Check.A → Option dome_Check.R) (dome_Axis_k : dome_Axis.A → Option dome_Axis.R) (axis_Brake_k : axis_Brake.A → Option axis_Brake.R) : A → Option R := fun (v0, v1, v2, v3, v4, v5, v6, v7) =>
bnd (dome_Check_k (v0, v1, v2, v3, v4, v5, v6, v7)) fun r =>
  br (!decide (r = 0)) (some (0, 0, false, false, 0, 0, 0, false, r))
    (bnd (dome_Axis_k ()) fun r => bnd (axis_Brake_k (r.fst, r.snd.fst, r.snd.snd.fst, r.snd.snd.snd, v4, v5, v6, v7)) fun r => some (v0, v1, v2, v3, r.fst, r.snd.fst, r.snd.snd.fst, r.snd.snd.snd.fst, 0))
theorem d_cn {ι : Type} {E : Fil ι} {dome_Check_k : dome_Check.A → Option dome_Check.R} {dome_Check_k' : ι → dome_Check.A → Option dome_Check.R} (hdome_Check_k : ∀ v, Cn E (dome_Check_k v) fun i => dome_Check_k' i v) {dome_Axis_k : dome_Axis.A → Option dome_Axis.R} {dome_Axis_k' : ι → dome_Axis.A → Option dome_Axis.R} (hdome_Axis_k : ∀ v, Cn E (dome_Axis_k v) fun i => dome_Axis_k' i v) {axis_Brake_k : axis_Brake.A → Option axis_Brake.R} {axis_Brake_k' : ι → axis_Brake.A → Option axis_Brake.R} (haxis_Brake_k : ∀ v, Cn E (axis_Brake_k v) fun i => axis_Brake_k' i v) : ∀ v : A, Cn E (d dome_Check_k dome_Axis_k axis_Brake_k v) fun i => d (dome_Check_k' i) (dome_Axis_k' i) (axis_Brake_k' i) v := fun (v0, v1, v2, v3, v4, v5, v6, v7) => (.bnd (hdome_Check_k _) fun _ => (.br .some (.bnd (hdome_Axis_k _) fun _ => (.bnd (haxis_Brake_k _) fun _ => .some))))
theorem f_b (k : Nat) : ∀ v : A, f k v = d (dome_Check.f k) (dome_Axis.f k) (axis_Brake.f k) v := fun (v0, v1, v2, v3, v4, v5, v6, v7) => (held_eq _).trans (by kernel_rfl)
theorem F_of (v : A) {r : R} (h : d dome_Check.F dome_Axis.F axis_Brake.F v = some r) : F v = some r :=
  join_of (l := fun L => f (L 0) v) (d := fun L => d (dome_Check.f (L 0)) (dome_Axis.f (L 0)) (axis_Brake.f (L 0)) v) (fun L => f_b (L 0) v) (d_cn (dome_Check.F_cn 0) (dome_Axis.F_cn 0) (axis_Brake.F_cn 0) v) h
noncomputable def spec (k : Nat) (args : List AV) (ss : List Slot) : Option Ans :=
  match args, ss with
  | [(.agg [(.int .i64 v0), (.int .i64 v1), (.bool v2), (.bool v3), (.int .i64 v4), (.int .i64 v5), (.int .i64 v6), (.bool v7)])], [] => some ⟨R, f k (v0, v1, v2, v3, v4, v5, v6, v7), enc⟩
  | _, _ => none
theorem spec_ok (k : Nat) : SpecOk Try.prog 49 (spec k) := by
  intro args ss ans x h hx X σ w vals hp
  unfold spec at h
  split at h
  · cases h
    exact spec_of cs_ok Try.func49 rfl rfl dec_ok (held_eq _).symm hx hp
  · cases h
end dome_Brake
noncomputable def t_dome_Brake (k : Nat) := tcons 49 (dome_Brake.spec k) (t_mount_Stop k)
theorem t_dome_Brake_ok (n g : Nat) : SpecOk Try.prog g (t_dome_Brake n g) := tcons_ok (dome_Brake.spec_ok n) (fun g => t_mount_Stop_ok n g) g
namespace dome_Set
abbrev R : Type := Int × Int × Bool × Bool × Int × Int × Int × Bool × Int
abbrev A : Type := Int × Int × Bool × Bool × Int × Int × Int × Bool × Bool × Bool
def lv : List (Nat × List Nat) := [(2000000, [6, 7])]
noncomputable def cs : Nat → Ctx := ctxOf tis modes t_dome_Brake lv
theorem cs_ok (n : Nat) : CtxOk Try.prog (cs n) := ctxOf_ok rfl tis_ok t_dome_Brake_ok n
def enc (r : R) : Out := ((.tup [(.agg [(.int .i64 r.1), (.int .i64 r.2.1), (.bool r.2.2.1), (.bool r.2.2.2.1), (.int .i64 r.2.2.2.2.1), (.int .i64 r.2.2.2.2.2.1), (.int .i64 r.2.2.2.2.2.2.1), (.bool r.2.2.2.2.2.2.2.1)]), (.c (.int .i64 r.2.2.2.2.2.2.2.2))]), [])
def dec : Out → Option R
  | ((.tup [(.agg [(.int .i64 v0), (.int .i64 v1), (.bool v2), (.bool v3), (.int .i64 v4), (.int .i64 v5), (.int .i64 v6), (.bool v7)]), (.c (.int .i64 v8))]), []) => some (v0, v1, v2, v3, v4, v5, v6, v7, v8)
  | _ => none
theorem dec_ok : ∀ u y, dec u = some y → u = enc y := by
  intro u y h
  unfold dec at h
  split at h
  · cases h; rfl
  · cases h
noncomputable def b0 : Code := subF [] Try.f50
noncomputable def K0 (k : Nat) : Kt R := kTop (cs k) Try.f50 dec
noncomputable def f (k : Nat) : A → Option R := fun (v0, v1, v2, v3, v4, v5, v6, v7, v8, v9) => held (runFn cs k Try.f50 [(.agg [(.int .i64 v0), (.int .i64 v1), (.bool v2), (.bool v3), (.int .i64 v4), (.int .i64 v5), (.int .i64 v6), (.bool v7)]), (.c (.bool v8)), (.c (.bool v9))] [] dec)
noncomputable def F (v : A) : Option R := lim fun L => f (L 0) v
theorem F_cn (x : Nat) (v : A) : Cn late (F v) fun L => f (L x) v := of_lim.re [x]
def d (dome_Check_k : dome_Check.A → Option dome_Check.R) : A → Option R := fun (v0, v1, v2, v3, v4, v5, v6, v7, v8, v9) =>
bnd (dome_Check_k (v0, v1, v2, v3, v4, v5, v6, v7)) fun r => br (!decide (r = 0)) (some (0, 0, false, false, 0, 0, 0, false, r)) (some (v0, v1, v8, v9, v4, v5, v6, v7, 0))
theorem d_cn {ι : Type} {E : Fil ι} {dome_Check_k : dome_Check.A → Option dome_Check.R} {dome_Check_k' : ι → dome_Check.A → Option dome_Check.R} (hdome_Check_k : ∀ v, Cn E (dome_Check_k v) fun i => dome_Check_k' i v) : ∀ v : A, Cn E (d dome_Check_k v) fun i => d (dome_Check_k' i) v := fun (v0, v1, v2, v3, v4, v5, v6, v7, v8, v9) => (.bnd (hdome_Check_k _) fun _ => (.br .some .some))
theorem f_b (k : Nat) : ∀ v : A, f k v = d (dome_Check.f k) v := fun (v0, v1, v2, v3, v4, v5, v6, v7, v8, v9) => (held_eq _).trans (by kernel_rfl)
theorem F_of (v : A) {r : R} (h : d dome_Check.F v = some r) : F v = some r :=
  join_of (l := fun L => f (L 0) v) (d := fun L => d (dome_Check.f (L 0)) v) (fun L => f_b (L 0) v) (d_cn (dome_Check.F_cn 0) v) h
noncomputable def spec (k : Nat) (args : List AV) (ss : List Slot) : Option Ans :=
  match args, ss with
  | [(.agg [(.int .i64 v0), (.int .i64 v1), (.bool v2), (.bool v3), (.int .i64 v4), (.int .i64 v5), (.int .i64 v6), (.bool v7)]), (.c (.bool v8)), (.c (.bool v9))], [] => some ⟨R, f k (v0, v1, v2, v3, v4, v5, v6, v7, v8, v9), enc⟩
  | _, _ => none
theorem spec_ok (k : Nat) : SpecOk Try.prog 50 (spec k) := by
  intro args ss ans x h hx X σ w vals hp
  unfold spec at h
  split at h
  · cases h
    exact spec_of cs_ok Try.func50 rfl rfl dec_ok (held_eq _).symm hx hp
  · cases h
end dome_Set
noncomputable def t_dome_Set (k : Nat) := tcons 50 (dome_Set.spec k) (t_dome_Brake k)
theorem t_dome_Set_ok (n g : Nat) : SpecOk Try.prog g (t_dome_Set n g) := tcons_ok (dome_Set.spec_ok n) (fun g => t_dome_Brake_ok n g) g
namespace slew_mod
abbrev R : Type := Int
abbrev A : Type := Int
def lv : List (Nat × List Nat) := [(2000000, [2]), (1000004, [0])]
noncomputable def cs : Nat → Ctx := ctxOf tis modes t_dome_Set lv
theorem cs_ok (n : Nat) : CtxOk Try.prog (cs n) := ctxOf_ok rfl tis_ok t_dome_Set_ok n
def enc (r : R) : Out := ((.c (.int .i64 r)), [])
def dec : Out → Option R
  | ((.c (.int .i64 v0)), []) => some v0
  | _ => none
theorem dec_ok : ∀ u y, dec u = some y → u = enc y := by
  intro u y h
  unfold dec at h
  split at h
  · cases h; rfl
  · cases h
noncomputable def b0 : Code := subF [] Try.f72
noncomputable def K0 (k : Nat) : Kt R := kTop (cs k) Try.f72 dec
noncomputable def c1000004 : Code := sub [1, 1, 1] b0
noncomputable def J1000004 ( k : Nat) : Kt R := kAt (cs k) (loopN cs k) [1, 1, 1] b0 (K0 k)
abbrev T0 : Type := Int
def s0 : T0 → St := fun v0 => ⟨10, 0, [(0, (.c (.int .i64 v0)))], [], [(256000000, .gone)]⟩
noncomputable def l0 ( k : Nat) (v : T0) : Option R := held (run (cs k) (loopN cs k) c1000004 (J1000004 k) (s0 v))
noncomputable def D0 (v : T0) : Option R := lim fun L => l0 (L 0) v
theorem D0_cn (v : T0) : Cn late (D0 v) fun L => l0 (L 0) v := of_lim
def d0 : T0 → Option R := fun v0 =>
some v0
theorem d0_cn {ι : Type} {E : Fil ι} : ∀ v : T0, Cn E (d0 v) fun i => d0 v := fun v0 => .some
theorem l0_b ( k : Nat) : ∀ v : T0, run (cs k) (loopN cs k) c1000004 (J1000004 k) (s0 v) = d0 v := fun v0 => by kernel_rfl
theorem D0_of (v : T0) {r : R} (h : d0 v = some r) : D0 v = some r :=
  join_of (l := fun L => l0 (L 0) v) (d := fun L => d0 v) (fun L => (held_eq _).trans (l0_b (L 0) v)) (d0_cn v) h
noncomputable def f (k : Nat) : A → Option R := fun v0 => held (runFn cs k Try.f72 [(.c (.int .i64 v0))] [] dec)
noncomputable def F (v : A) : Option R := lim fun L => f (L 0) v
theorem F_cn (x : Nat) (v : A) : Cn late (F v) fun L => f (L x) v := of_lim.re [x]
def d (L0k : T0 → Option R) : A → Option R := fun v0 =>
br (!decide (4294967296 = 0)) (br (decide (v0.tmod (4294967296 : Int) < 0)) (L0k (wrap IntKind.i64 (v0.tmod 4294967296 + 4294967296))) (L0k (v0.tmod 4294967296))) none
theorem d_cn {ι : Type} {E : Fil ι} {L0k : T0 → Option R} {L0k' : ι → T0 → Option R} (hL0k : ∀ v, Cn E (L0k v) fun i => L0k' i v) : ∀ v : A, Cn E (d L0k v) fun i => d (L0k' i) v := fun v0 => (.br (.br (hL0k _) (hL0k _)) .none)
theorem f_b (k : Nat) : ∀ v : A, f k v = d (l0 k) v := fun v0 => (held_eq _).trans (by kernel_rfl)
theorem F_of (v : A) {r : R} (h : d D0 v = some r) : F v = some r :=
  join_of (l := fun L => f (L 0) v) (d := fun L => d (l0 (L 0)) v) (fun L => f_b (L 0) v) (d_cn (fun v => (D0_cn v).re [0]) v) h
noncomputable def spec (k : Nat) (args : List AV) (ss : List Slot) : Option Ans :=
  match args, ss with
  | [(.c (.int .i64 v0))], [] => some ⟨R, f k v0, enc⟩
  | _, _ => none
theorem spec_ok (k : Nat) : SpecOk Try.prog 72 (spec k) := by
  intro args ss ans x h hx X σ w vals hp
  unfold spec at h
  split at h
  · cases h
    exact spec_of cs_ok Try.func72 rfl rfl dec_ok (held_eq _).symm hx hp
  · cases h
end slew_mod
noncomputable def t_slew_mod (k : Nat) := tcons 72 (slew_mod.spec k) (t_dome_Set k)
theorem t_slew_mod_ok (n g : Nat) : SpecOk Try.prog g (t_slew_mod n g) := tcons_ok (slew_mod.spec_ok n) (fun g => t_dome_Set_ok n g) g
namespace slew_abs
abbrev R : Type := Int
abbrev A : Type := Int
def lv : List (Nat × List Nat) := [(2000000, [2])]
noncomputable def cs : Nat → Ctx := ctxOf tis modes t_slew_mod lv
theorem cs_ok (n : Nat) : CtxOk Try.prog (cs n) := ctxOf_ok rfl tis_ok t_slew_mod_ok n
def enc (r : R) : Out := ((.c (.int .i64 r)), [])
def dec : Out → Option R
  | ((.c (.int .i64 v0)), []) => some v0
  | _ => none
theorem dec_ok : ∀ u y, dec u = some y → u = enc y := by
  intro u y h
  unfold dec at h
  split at h
  · cases h; rfl
  · cases h
noncomputable def b0 : Code := subF [] Try.f73
noncomputable def K0 (k : Nat) : Kt R := kTop (cs k) Try.f73 dec
noncomputable def f (k : Nat) : A → Option R := fun v0 => held (runFn cs k Try.f73 [(.c (.int .i64 v0))] [] dec)
noncomputable def F (v : A) : Option R := lim fun L => f (L 0) v
theorem F_cn (x : Nat) (v : A) : Cn late (F v) fun L => f (L x) v := of_lim.re [x]
def d : A → Option R := fun v0 =>
some (max v0 (wrap IntKind.i64 (0 - v0)))
theorem d_cn {ι : Type} {E : Fil ι} : ∀ v : A, Cn E (d v) fun i => d v := fun v0 => .some
theorem f_b (k : Nat) : ∀ v : A, f k v = d v := fun v0 => (held_eq _).trans (by kernel_rfl)
theorem F_of (v : A) {r : R} (h : d v = some r) : F v = some r :=
  join_of (l := fun L => f (L 0) v) (d := fun L => d v) (fun L => f_b (L 0) v) (d_cn v) h
noncomputable def spec (k : Nat) (args : List AV) (ss : List Slot) : Option Ans :=
  match args, ss with
  | [(.c (.int .i64 v0))], [] => some ⟨R, f k v0, enc⟩
  | _, _ => none
theorem spec_ok (k : Nat) : SpecOk Try.prog 73 (spec k) := by
  intro args ss ans x h hx X σ w vals hp
  unfold spec at h
  split at h
  · cases h
    exact spec_of cs_ok Try.func73 rfl rfl dec_ok (held_eq _).symm hx hp
  · cases h
end slew_abs
noncomputable def t_slew_abs (k : Nat) := tcons 73 (slew_abs.spec k) (t_slew_mod k)
theorem t_slew_abs_ok (n g : Nat) : SpecOk Try.prog g (t_slew_abs n g) := tcons_ok (slew_abs.spec_ok n) (fun g => t_slew_mod_ok n g) g
namespace slew_Target
abbrev R : Type := Int × Int
abbrev A : Type := Int × Int × Int × Int × Int × Int
def lv : List (Nat × List Nat) := [(2000000, [6, 7]), (10, [1, 3, 9, 10]), (1000011, [1, 3, 9, 10])]
noncomputable def cs : Nat → Ctx := ctxOf tis modes t_slew_abs lv
theorem cs_ok (n : Nat) : CtxOk Try.prog (cs n) := ctxOf_ok rfl tis_ok t_slew_abs_ok n
def enc (r : R) : Out := ((.tup [(.c (.int .i64 r.1)), (.c (.int .i64 r.2))]), [])
def dec : Out → Option R
  | ((.tup [(.c (.int .i64 v0)), (.c (.int .i64 v1))]), []) => some (v0, v1)
  | _ => none
theorem dec_ok : ∀ u y, dec u = some y → u = enc y := by
  intro u y h
  unfold dec at h
  split at h
  · cases h; rfl
  · cases h
noncomputable def b0 : Code := subF [] Try.f63
noncomputable def K0 (k : Nat) : Kt R := kTop (cs k) Try.f63 dec
noncomputable def b10 : Code := sub [1, 1, 1, 1, 1, 1, 0, 0, 0] b0
noncomputable def K10 ( k : Nat) : Kt R := kAt (cs k) (loopN cs k) [1, 1, 1, 1, 1, 1, 0, 0] b0 (K0 k)
noncomputable def c1000011 : Code := sub [1, 1] b10
noncomputable def J1000011 ( k m1 : Nat) : Kt R := kAt (cs m1) (loopN cs m1) [1, 1] b10 (kLoop cs m1 b10 (K10 k))
abbrev T0 : Type := Int × Int × Int × Int × Int × Int × Int
def s0 : T0 → St := fun (v0, v1, v2, v3, v4, v5, v6) => ⟨52, 0, [(1, (.c (.int .i64 v0))), (3, (.c (.ptr 64000000 0))), (9, (.c (.int .i64 v1))), (10, (.c (.int .i64 v2)))], [], [(256000000, .gone), (64000000, (.box [(.int .i64 v3), (.int .i64 v4), (.int .i64 v5), (.int .i64 v6)]))]⟩
noncomputable def l0 ( k n : Nat) (v : T0) : Option R := held (loopN cs n b10 (K10 k) (s0 v))
noncomputable def D0 (v : T0) : Option R := lim fun L => l0 (L 0) (L 1) v
theorem D0_cn (v : T0) : Cn late (D0 v) fun L => l0 (L 0) (L 1) v := of_lim
abbrev T1 : Type := Int × Int × Int × Int × Int × Int × Int
def s1 : T1 → St := fun (v0, v1, v2, v3, v4, v5, v6) => ⟨52, 0, [(1, (.c (.int .i64 v0))), (3, (.c (.ptr 64000000 0))), (9, (.c (.int .i64 v1))), (10, (.c (.int .i64 v2)))], [], [(256000000, .gone), (64000000, (.box [(.int .i64 v3), (.int .i64 v4), (.int .i64 v5), (.int .i64 v6)]))]⟩
noncomputable def l1 ( k m1 : Nat) (v : T1) : Option R := held (run (cs m1) (loopN cs m1) c1000011 (J1000011 k m1) (s1 v))
noncomputable def D1 (v : T1) : Option R := lim fun L => l1 (L 0) (L 1) v
theorem D1_cn (v : T1) : Cn late (D1 v) fun L => l1 (L 0) (L 1) v := of_lim
def d0 (slew_abs_m1 : slew_abs.A → Option slew_abs.R) (L1m1 : T1 → Option R) : T0 → Option R := fun (v0, v1, v2, v3, v4, v5, v6) =>
br (decide (v1 ≤ v4))
  (bnd (slew_abs_m1 (wrap IntKind.i64 (v1 - v0))) fun r => bnd (slew_abs_m1 (wrap IntKind.i64 (v2 - v0))) fun r_1 => br (decide (r < r_1)) (L1m1 (v0, v1, v1, v3, v4, v5, v6)) (L1m1 (v0, v1, v2, v3, v4, v5, v6)))
  (some (v2, 0))
theorem d0_cn {ι : Type} {E : Fil ι} {slew_abs_m1 : slew_abs.A → Option slew_abs.R} {slew_abs_m1' : ι → slew_abs.A → Option slew_abs.R} (hslew_abs_m1 : ∀ v, Cn E (slew_abs_m1 v) fun i => slew_abs_m1' i v) {L1m1 : T1 → Option R} {L1m1' : ι → T1 → Option R} (hL1m1 : ∀ v, Cn E (L1m1 v) fun i => L1m1' i v) : ∀ v : T0, Cn E (d0 slew_abs_m1 L1m1 v) fun i => d0 (slew_abs_m1' i) (L1m1' i) v := fun (v0, v1, v2, v3, v4, v5, v6) => (.br (.bnd (hslew_abs_m1 _) fun _ => (.bnd (hslew_abs_m1 _) fun _ => (.br (hL1m1 _) (hL1m1 _)))) .some)
theorem l0_b ( k m1 : Nat) : ∀ v : T0, run (cs m1) (loopN cs m1) b10 (kLoop cs m1 b10 (K10 k)) (s0 v) = d0 (slew_abs.f m1) (l1 k m1) v := fun (v0, v1, v2, v3, v4, v5, v6) => by kernel_rfl
theorem D0_of (v : T0) {r : R} (h : d0 slew_abs.F D1 v = some r) : D0 v = some r :=
  loop_of 1 (l := fun L => l0 (L 0) (L 1) v) (d := fun L => d0 (slew_abs.f (L 1)) (l1 (L 0) (L 1)) v) (fun L n hn => by show l0 (L 0) (L 1) v = _; rw [hn]; exact (held_eq _).trans ((loopN_succ _ _ _ _ _).trans (l0_b (L 0) n v))) (d0_cn (slew_abs.F_cn 1) (fun v => (D1_cn v).re [0, 1]) v) h
def d1 (L0m1 : T0 → Option R) : T1 → Option R := fun (v0, v1, v2, v3, v4, v5, v6) =>
L0m1 (v0, wrap IntKind.i64 (v1 + 4294967296), v2, v3, v4, v5, v6)
theorem d1_cn {ι : Type} {E : Fil ι} {L0m1 : T0 → Option R} {L0m1' : ι → T0 → Option R} (hL0m1 : ∀ v, Cn E (L0m1 v) fun i => L0m1' i v) : ∀ v : T1, Cn E (d1 L0m1 v) fun i => d1 (L0m1' i) v := fun (v0, v1, v2, v3, v4, v5, v6) => (hL0m1 _)
theorem l1_b ( k m1 : Nat) : ∀ v : T1, run (cs m1) (loopN cs m1) c1000011 (J1000011 k m1) (s1 v) = d1 (l0 k m1) v := fun (v0, v1, v2, v3, v4, v5, v6) => by kernel_rfl
theorem D1_of (v : T1) {r : R} (h : d1 D0 v = some r) : D1 v = some r :=
  join_of (l := fun L => l1 (L 0) (L 1) v) (d := fun L => d1 (l0 (L 0) (L 1)) v) (fun L => (held_eq _).trans (l1_b (L 0) (L 1) v)) (d1_cn (fun v => (D0_cn v).re [0, 1]) v) h
noncomputable def f (k : Nat) : A → Option R := fun (v0, v1, v2, v3, v4, v5) => held (runFn cs k Try.f63 [(.agg [(.int .i64 v0), (.int .i64 v1), (.int .i64 v2), (.int .i64 v3)]), (.c (.int .i64 v4)), (.c (.int .i64 v5))] [] dec)
noncomputable def F (v : A) : Option R := lim fun L => f (L 0) v
theorem F_cn (x : Nat) (v : A) : Cn late (F v) fun L => f (L x) v := of_lim.re [x]
def d (slew_CheckAxis_k : slew_CheckAxis.A → Option slew_CheckAxis.R) (slew_In_k : slew_In.A → Option slew_In.R) (slew_mod_k : slew_mod.A → Option slew_mod.R) (L0k : T0 → Option R) : A → Option R := fun (v0, v1, v2, v3, v4, v5) =>
bnd (slew_CheckAxis_k (v0, v1, v2, v3)) fun r =>
  br (!decide (r = 0)) (some (0, r))
    (bnd (slew_In_k (v0, v1, v2, v3, v4)) fun r =>
      br (!r) (some (0, 4))
        (bnd (slew_mod_k v5) fun r =>
          bnd (slew_mod_k v0) fun r_1 =>
            bnd (slew_mod_k (wrap IntKind.i64 (r - r_1))) fun r => br (decide (v1 < wrap IntKind.i64 (v0 + r))) (some (0, 4)) (L0k (v4, wrap IntKind.i64 (v0 + r), wrap IntKind.i64 (v0 + r), v0, v1, v2, v3))))
theorem d_cn {ι : Type} {E : Fil ι} {slew_CheckAxis_k : slew_CheckAxis.A → Option slew_CheckAxis.R} {slew_CheckAxis_k' : ι → slew_CheckAxis.A → Option slew_CheckAxis.R} (hslew_CheckAxis_k : ∀ v, Cn E (slew_CheckAxis_k v) fun i => slew_CheckAxis_k' i v) {slew_In_k : slew_In.A → Option slew_In.R} {slew_In_k' : ι → slew_In.A → Option slew_In.R} (hslew_In_k : ∀ v, Cn E (slew_In_k v) fun i => slew_In_k' i v) {slew_mod_k : slew_mod.A → Option slew_mod.R} {slew_mod_k' : ι → slew_mod.A → Option slew_mod.R} (hslew_mod_k : ∀ v, Cn E (slew_mod_k v) fun i => slew_mod_k' i v) {L0k : T0 → Option R} {L0k' : ι → T0 → Option R} (hL0k : ∀ v, Cn E (L0k v) fun i => L0k' i v) : ∀ v : A, Cn E (d slew_CheckAxis_k slew_In_k slew_mod_k L0k v) fun i => d (slew_CheckAxis_k' i) (slew_In_k' i) (slew_mod_k' i) (L0k' i) v := fun (v0, v1, v2, v3, v4, v5) => (.bnd (hslew_CheckAxis_k _) fun _ => (.br .some (.bnd (hslew_In_k _) fun _ => (.br .some (.bnd (hslew_mod_k _) fun _ => (.bnd (hslew_mod_k _) fun _ => (.bnd (hslew_mod_k _) fun _ => (.br .some (hL0k _)))))))))
theorem f_b (k : Nat) : ∀ v : A, f k v = d (slew_CheckAxis.f k) (slew_In.f k) (slew_mod.f k) (l0 k k) v := fun (v0, v1, v2, v3, v4, v5) => (held_eq _).trans (by kernel_rfl)
theorem F_of (v : A) {r : R} (h : d slew_CheckAxis.F slew_In.F slew_mod.F D0 v = some r) : F v = some r :=
  join_of (l := fun L => f (L 0) v) (d := fun L => d (slew_CheckAxis.f (L 0)) (slew_In.f (L 0)) (slew_mod.f (L 0)) (l0 (L 0) (L 0)) v) (fun L => f_b (L 0) v) (d_cn (slew_CheckAxis.F_cn 0) (slew_In.F_cn 0) (slew_mod.F_cn 0) (fun v => (D0_cn v).re [0, 0]) v) h
noncomputable def spec (k : Nat) (args : List AV) (ss : List Slot) : Option Ans :=
  match args, ss with
  | [(.agg [(.int .i64 v0), (.int .i64 v1), (.int .i64 v2), (.int .i64 v3)]), (.c (.int .i64 v4)), (.c (.int .i64 v5))], [] => some ⟨R, f k (v0, v1, v2, v3, v4, v5), enc⟩
  | _, _ => none
theorem spec_ok (k : Nat) : SpecOk Try.prog 63 (spec k) := by
  intro args ss ans x h hx X σ w vals hp
  unfold spec at h
  split at h
  · cases h
    exact spec_of cs_ok Try.func63 rfl rfl dec_ok (held_eq _).symm hx hp
  · cases h
end slew_Target
noncomputable def t_slew_Target (k : Nat) := tcons 63 (slew_Target.spec k) (t_slew_abs k)
theorem t_slew_Target_ok (n g : Nat) : SpecOk Try.prog g (t_slew_Target n g) := tcons_ok (slew_Target.spec_ok n) (fun g => t_slew_abs_ok n g) g
namespace dome_Rotate
abbrev R : Type := Int × Int × Bool × Bool × Int × Int × Int × Bool × Int
abbrev A : Type := Int × Int × Bool × Bool × Int × Int × Int × Bool × Int
def lv : List (Nat × List Nat) := [(2000000, [4, 5])]
noncomputable def cs : Nat → Ctx := ctxOf tis modes t_slew_Target lv
theorem cs_ok (n : Nat) : CtxOk Try.prog (cs n) := ctxOf_ok rfl tis_ok t_slew_Target_ok n
def enc (r : R) : Out := ((.tup [(.agg [(.int .i64 r.1), (.int .i64 r.2.1), (.bool r.2.2.1), (.bool r.2.2.2.1), (.int .i64 r.2.2.2.2.1), (.int .i64 r.2.2.2.2.2.1), (.int .i64 r.2.2.2.2.2.2.1), (.bool r.2.2.2.2.2.2.2.1)]), (.c (.int .i64 r.2.2.2.2.2.2.2.2))]), [])
def dec : Out → Option R
  | ((.tup [(.agg [(.int .i64 v0), (.int .i64 v1), (.bool v2), (.bool v3), (.int .i64 v4), (.int .i64 v5), (.int .i64 v6), (.bool v7)]), (.c (.int .i64 v8))]), []) => some (v0, v1, v2, v3, v4, v5, v6, v7, v8)
  | _ => none
theorem dec_ok : ∀ u y, dec u = some y → u = enc y := by
  intro u y h
  unfold dec at h
  split at h
  · cases h; rfl
  · cases h
noncomputable def b0 : Code := subF [] Try.f51
noncomputable def K0 (k : Nat) : Kt R := kTop (cs k) Try.f51 dec
noncomputable def f (k : Nat) : A → Option R := fun (v0, v1, v2, v3, v4, v5, v6, v7, v8) => held (runFn cs k Try.f51 [(.agg [(.int .i64 v0), (.int .i64 v1), (.bool v2), (.bool v3), (.int .i64 v4), (.int .i64 v5), (.int .i64 v6), (.bool v7)]), (.c (.int .i64 v8))] [] dec)
noncomputable def F (v : A) : Option R := lim fun L => f (L 0) v
theorem F_cn (x : Nat) (v : A) : Cn late (F v) fun L => f (L x) v := of_lim.re [x]
def d (dome_Check_k : dome_Check.A → Option dome_Check.R) (dome_Axis_k : dome_Axis.A → Option dome_Axis.R) (slew_Target_k : slew_Target.A → Option slew_Target.R) (axis_Send_k : axis_Send.A → Option axis_Send.R) : A → Option R := fun (v0, v1, v2, v3, v4, v5, v6, v7, v8) =>
bnd (dome_Check_k (v0, v1, v2, v3, v4, v5, v6, v7)) fun r =>
  br (!decide (r = 0)) (some (0, 0, false, false, 0, 0, 0, false, r))
    (bnd (dome_Axis_k ()) fun r =>
      bnd (slew_Target_k (r.fst, r.snd.fst, r.snd.snd.fst, r.snd.snd.snd, v4, v8)) fun r =>
        br (!decide (r.snd = 0)) (some (0, 0, false, false, 0, 0, 0, false, r.snd))
          (bnd (dome_Axis_k ()) fun r_1 =>
            bnd (axis_Send_k (r_1.fst, r_1.snd.fst, r_1.snd.snd.fst, r_1.snd.snd.snd, v4, v5, v6, v7, r.fst)) fun r =>
              br (!decide (r.snd.snd.snd.snd = 0)) (some (0, 0, false, false, 0, 0, 0, false, r.snd.snd.snd.snd)) (some (v0, v1, v2, v3, r.fst, r.snd.fst, r.snd.snd.fst, r.snd.snd.snd.fst, 0))))
theorem d_cn {ι : Type} {E : Fil ι} {dome_Check_k : dome_Check.A → Option dome_Check.R} {dome_Check_k' : ι → dome_Check.A → Option dome_Check.R} (hdome_Check_k : ∀ v, Cn E (dome_Check_k v) fun i => dome_Check_k' i v) {dome_Axis_k : dome_Axis.A → Option dome_Axis.R} {dome_Axis_k' : ι → dome_Axis.A → Option dome_Axis.R} (hdome_Axis_k : ∀ v, Cn E (dome_Axis_k v) fun i => dome_Axis_k' i v) {slew_Target_k : slew_Target.A → Option slew_Target.R} {slew_Target_k' : ι → slew_Target.A → Option slew_Target.R} (hslew_Target_k : ∀ v, Cn E (slew_Target_k v) fun i => slew_Target_k' i v) {axis_Send_k : axis_Send.A → Option axis_Send.R} {axis_Send_k' : ι → axis_Send.A → Option axis_Send.R} (haxis_Send_k : ∀ v, Cn E (axis_Send_k v) fun i => axis_Send_k' i v) : ∀ v : A, Cn E (d dome_Check_k dome_Axis_k slew_Target_k axis_Send_k v) fun i => d (dome_Check_k' i) (dome_Axis_k' i) (slew_Target_k' i) (axis_Send_k' i) v := fun (v0, v1, v2, v3, v4, v5, v6, v7, v8) => (.bnd (hdome_Check_k _) fun _ => (.br .some (.bnd (hdome_Axis_k _) fun _ => (.bnd (hslew_Target_k _) fun _ => (.br .some (.bnd (hdome_Axis_k _) fun _ => (.bnd (haxis_Send_k _) fun _ => (.br .some .some))))))))
theorem f_b (k : Nat) : ∀ v : A, f k v = d (dome_Check.f k) (dome_Axis.f k) (slew_Target.f k) (axis_Send.f k) v := fun (v0, v1, v2, v3, v4, v5, v6, v7, v8) => (held_eq _).trans (by kernel_rfl)
theorem F_of (v : A) {r : R} (h : d dome_Check.F dome_Axis.F slew_Target.F axis_Send.F v = some r) : F v = some r :=
  join_of (l := fun L => f (L 0) v) (d := fun L => d (dome_Check.f (L 0)) (dome_Axis.f (L 0)) (slew_Target.f (L 0)) (axis_Send.f (L 0)) v) (fun L => f_b (L 0) v) (d_cn (dome_Check.F_cn 0) (dome_Axis.F_cn 0) (slew_Target.F_cn 0) (axis_Send.F_cn 0) v) h
noncomputable def spec (k : Nat) (args : List AV) (ss : List Slot) : Option Ans :=
  match args, ss with
  | [(.agg [(.int .i64 v0), (.int .i64 v1), (.bool v2), (.bool v3), (.int .i64 v4), (.int .i64 v5), (.int .i64 v6), (.bool v7)]), (.c (.int .i64 v8))], [] => some ⟨R, f k (v0, v1, v2, v3, v4, v5, v6, v7, v8), enc⟩
  | _, _ => none
theorem spec_ok (k : Nat) : SpecOk Try.prog 51 (spec k) := by
  intro args ss ans x h hx X σ w vals hp
  unfold spec at h
  split at h
  · cases h
    exact spec_of cs_ok Try.func51 rfl rfl dec_ok (held_eq _).symm hx hp
  · cases h
end dome_Rotate
noncomputable def t_dome_Rotate (k : Nat) := tcons 51 (dome_Rotate.spec k) (t_slew_Target k)
theorem t_dome_Rotate_ok (n g : Nat) : SpecOk Try.prog g (t_dome_Rotate n g) := tcons_ok (dome_Rotate.spec_ok n) (fun g => t_slew_Target_ok n g) g
namespace dome_Clear
abbrev R : Type := Bool
abbrev A : Type := Int × Int × Bool × Bool × Int × Int × Int × Bool
def lv : List (Nat × List Nat) := [(2000000, [2])]
noncomputable def cs : Nat → Ctx := ctxOf tis modes t_dome_Rotate lv
theorem cs_ok (n : Nat) : CtxOk Try.prog (cs n) := ctxOf_ok rfl tis_ok t_dome_Rotate_ok n
def enc (r : R) : Out := ((.c (.bool r)), [])
def dec : Out → Option R
  | ((.c (.bool v0)), []) => some v0
  | _ => none
theorem dec_ok : ∀ u y, dec u = some y → u = enc y := by
  intro u y h
  unfold dec at h
  split at h
  · cases h; rfl
  · cases h
noncomputable def b0 : Code := subF [] Try.f65
noncomputable def K0 (k : Nat) : Kt R := kTop (cs k) Try.f65 dec
noncomputable def f (k : Nat) : A → Option R := fun (v0, v1, v2, v3, v4, v5, v6, v7) => held (runFn cs k Try.f65 [(.agg [(.int .i64 v0), (.int .i64 v1), (.bool v2), (.bool v3), (.int .i64 v4), (.int .i64 v5), (.int .i64 v6), (.bool v7)])] [] dec)
noncomputable def F (v : A) : Option R := lim fun L => f (L 0) v
theorem F_cn (x : Nat) (v : A) : Cn late (F v) fun L => f (L x) v := of_lim.re [x]
def d : A → Option R := fun (v0, v1, v2, v3, v4, v5, v6, v7) =>
some (decide (v0 = 100) && decide (v1 = 20) && v2 && v3)
theorem d_cn {ι : Type} {E : Fil ι} : ∀ v : A, Cn E (d v) fun i => d v := fun (v0, v1, v2, v3, v4, v5, v6, v7) => .some
theorem f_b (k : Nat) : ∀ v : A, f k v = d v := fun (v0, v1, v2, v3, v4, v5, v6, v7) => (held_eq _).trans (by kernel_rfl)
theorem F_of (v : A) {r : R} (h : d v = some r) : F v = some r :=
  join_of (l := fun L => f (L 0) v) (d := fun L => d v) (fun L => f_b (L 0) v) (d_cn v) h
noncomputable def spec (k : Nat) (args : List AV) (ss : List Slot) : Option Ans :=
  match args, ss with
  | [(.agg [(.int .i64 v0), (.int .i64 v1), (.bool v2), (.bool v3), (.int .i64 v4), (.int .i64 v5), (.int .i64 v6), (.bool v7)])], [] => some ⟨R, f k (v0, v1, v2, v3, v4, v5, v6, v7), enc⟩
  | _, _ => none
theorem spec_ok (k : Nat) : SpecOk Try.prog 65 (spec k) := by
  intro args ss ans x h hx X σ w vals hp
  unfold spec at h
  split at h
  · cases h
    exact spec_of cs_ok Try.func65 rfl rfl dec_ok (held_eq _).symm hx hp
  · cases h
end dome_Clear
noncomputable def t_dome_Clear (k : Nat) := tcons 65 (dome_Clear.spec k) (t_dome_Rotate k)
theorem t_dome_Clear_ok (n g : Nat) : SpecOk Try.prog g (t_dome_Clear n g) := tcons_ok (dome_Clear.spec_ok n) (fun g => t_dome_Rotate_ok n g) g
namespace dome_Covers
abbrev R : Type := Bool
abbrev A : Type := Int × Int × Bool × Bool × Int × Int × Int × Bool × Int
def lv : List (Nat × List Nat) := [(2000000, [4]), (1000004, [5])]
noncomputable def cs : Nat → Ctx := ctxOf tis modes t_dome_Clear lv
theorem cs_ok (n : Nat) : CtxOk Try.prog (cs n) := ctxOf_ok rfl tis_ok t_dome_Clear_ok n
def enc (r : R) : Out := ((.c (.bool r)), [])
def dec : Out → Option R
  | ((.c (.bool v0)), []) => some v0
  | _ => none
theorem dec_ok : ∀ u y, dec u = some y → u = enc y := by
  intro u y h
  unfold dec at h
  split at h
  · cases h; rfl
  · cases h
noncomputable def b0 : Code := subF [] Try.f66
noncomputable def K0 (k : Nat) : Kt R := kTop (cs k) Try.f66 dec
noncomputable def c1000004 : Code := sub [1, 1, 1] b0
noncomputable def J1000004 ( k : Nat) : Kt R := kAt (cs k) (loopN cs k) [1, 1, 1] b0 (K0 k)
abbrev T0 : Type := Int
def s0 : T0 → St := fun v0 => ⟨24, 0, [(5, (.c (.int .i64 v0)))], [], [(256000000, .gone)]⟩
noncomputable def l0 ( k : Nat) (v : T0) : Option R := held (run (cs k) (loopN cs k) c1000004 (J1000004 k) (s0 v))
noncomputable def D0 (v : T0) : Option R := lim fun L => l0 (L 0) v
theorem D0_cn (v : T0) : Cn late (D0 v) fun L => l0 (L 0) v := of_lim
def d0 : T0 → Option R := fun v0 =>
some (decide (v0 ≤ 178956970) || decide (4116010326 ≤ v0))
theorem d0_cn {ι : Type} {E : Fil ι} : ∀ v : T0, Cn E (d0 v) fun i => d0 v := fun v0 => .some
theorem l0_b ( k : Nat) : ∀ v : T0, run (cs k) (loopN cs k) c1000004 (J1000004 k) (s0 v) = d0 v := fun v0 => by kernel_rfl
theorem D0_of (v : T0) {r : R} (h : d0 v = some r) : D0 v = some r :=
  join_of (l := fun L => l0 (L 0) v) (d := fun L => d0 v) (fun L => (held_eq _).trans (l0_b (L 0) v)) (d0_cn v) h
noncomputable def f (k : Nat) : A → Option R := fun (v0, v1, v2, v3, v4, v5, v6, v7, v8) => held (runFn cs k Try.f66 [(.agg [(.int .i64 v0), (.int .i64 v1), (.bool v2), (.bool v3), (.int .i64 v4), (.int .i64 v5), (.int .i64 v6), (.bool v7)]), (.c (.int .i64 v8))] [] dec)
noncomputable def F (v : A) : Option R := lim fun L => f (L 0) v
theorem F_cn (x : Nat) (v : A) : Cn late (F v) fun L => f (L x) v := of_lim.re [x]
def d (L0k : T0 → Option R) : A → Option R := fun (v0, v1, v2, v3, v4, v5, v6, v7, v8) =>
br (!decide (4294967296 = 0))
  (br (!decide (4294967296 = 0))
    (br (!decide (4294967296 = 0))
      (br (decide ((wrap IntKind.i64 (v4.tmod 4294967296 - v8.tmod 4294967296)).tmod (4294967296 : Int) < 0)) (L0k (wrap IntKind.i64 ((wrap IntKind.i64 (v4.tmod 4294967296 - v8.tmod 4294967296)).tmod 4294967296 + 4294967296)))
        (L0k ((wrap IntKind.i64 (v4.tmod 4294967296 - v8.tmod 4294967296)).tmod 4294967296)))
      none)
    none)
  none
theorem d_cn {ι : Type} {E : Fil ι} {L0k : T0 → Option R} {L0k' : ι → T0 → Option R} (hL0k : ∀ v, Cn E (L0k v) fun i => L0k' i v) : ∀ v : A, Cn E (d L0k v) fun i => d (L0k' i) v := fun (v0, v1, v2, v3, v4, v5, v6, v7, v8) => (.br (.br (.br (.br (hL0k _) (hL0k _)) .none) .none) .none)
theorem f_b (k : Nat) : ∀ v : A, f k v = d (l0 k) v := fun (v0, v1, v2, v3, v4, v5, v6, v7, v8) => (held_eq _).trans (by kernel_rfl)
theorem F_of (v : A) {r : R} (h : d D0 v = some r) : F v = some r :=
  join_of (l := fun L => f (L 0) v) (d := fun L => d (l0 (L 0)) v) (fun L => f_b (L 0) v) (d_cn (fun v => (D0_cn v).re [0]) v) h
noncomputable def spec (k : Nat) (args : List AV) (ss : List Slot) : Option Ans :=
  match args, ss with
  | [(.agg [(.int .i64 v0), (.int .i64 v1), (.bool v2), (.bool v3), (.int .i64 v4), (.int .i64 v5), (.int .i64 v6), (.bool v7)]), (.c (.int .i64 v8))], [] => some ⟨R, f k (v0, v1, v2, v3, v4, v5, v6, v7, v8), enc⟩
  | _, _ => none
theorem spec_ok (k : Nat) : SpecOk Try.prog 66 (spec k) := by
  intro args ss ans x h hx X σ w vals hp
  unfold spec at h
  split at h
  · cases h
    exact spec_of cs_ok Try.func66 rfl rfl dec_ok (held_eq _).symm hx hp
  · cases h
end dome_Covers
noncomputable def t_dome_Covers (k : Nat) := tcons 66 (dome_Covers.spec k) (t_dome_Clear k)
theorem t_dome_Covers_ok (n g : Nat) : SpecOk Try.prog g (t_dome_Covers n g) := tcons_ok (dome_Covers.spec_ok n) (fun g => t_dome_Clear_ok n g) g
namespace camera_Expose
abbrev R : Type := Int × Int × Int × Int × Int
abbrev A : Type := Int × Int × Int × Int × Int
def lv : List (Nat × List Nat) := [(2000000, [4, 5]), (1000013, [2, 4])]
noncomputable def cs : Nat → Ctx := ctxOf tis modes t_dome_Covers lv
theorem cs_ok (n : Nat) : CtxOk Try.prog (cs n) := ctxOf_ok rfl tis_ok t_dome_Covers_ok n
def enc (r : R) : Out := ((.tup [(.agg [(.int .i64 r.1), (.int .i64 r.2.1), (.int .i64 r.2.2.1), (.int .i64 r.2.2.2.1)]), (.c (.int .i64 r.2.2.2.2))]), [])
def dec : Out → Option R
  | ((.tup [(.agg [(.int .i64 v0), (.int .i64 v1), (.int .i64 v2), (.int .i64 v3)]), (.c (.int .i64 v4))]), []) => some (v0, v1, v2, v3, v4)
  | _ => none
theorem dec_ok : ∀ u y, dec u = some y → u = enc y := by
  intro u y h
  unfold dec at h
  split at h
  · cases h; rfl
  · cases h
noncomputable def b0 : Code := subF [] Try.f67
noncomputable def K0 (k : Nat) : Kt R := kTop (cs k) Try.f67 dec
noncomputable def c1000013 : Code := sub [1, 1, 1, 1, 1, 1, 1] b0
noncomputable def J1000013 ( k : Nat) : Kt R := kAt (cs k) (loopN cs k) [1, 1, 1, 1, 1, 1, 1] b0 (K0 k)
abbrev T0 : Type := Int × Int × Int × Int × Int × Int × Int × Int
def s0 : T0 → St := fun (v0, v1, v2, v3, v4, v5, v6, v7) => ⟨42, 0, [(2, (.c (.ptr 64000000 0))), (4, (.c (.ptr 64000001 0)))], [], [(256000000, .gone), (64000000, (.box [(.int .i64 v0), (.int .i64 v1), (.int .i64 v2), (.int .i64 v3)])), (64000001, (.box [(.int .i64 v4), (.int .i64 v5), (.int .i64 v6), (.int .i64 v7)]))]⟩
noncomputable def l0 ( k : Nat) (v : T0) : Option R := held (run (cs k) (loopN cs k) c1000013 (J1000013 k) (s0 v))
noncomputable def D0 (v : T0) : Option R := lim fun L => l0 (L 0) v
theorem D0_cn (v : T0) : Cn late (D0 v) fun L => l0 (L 0) v := of_lim
def d0 : T0 → Option R := fun (v0, v1, v2, v3, v4, v5, v6, v7) =>
some (v0, v1, v2, v3, 0)
theorem d0_cn {ι : Type} {E : Fil ι} : ∀ v : T0, Cn E (d0 v) fun i => d0 v := fun (v0, v1, v2, v3, v4, v5, v6, v7) => .some
theorem l0_b ( k : Nat) : ∀ v : T0, run (cs k) (loopN cs k) c1000013 (J1000013 k) (s0 v) = d0 v := fun (v0, v1, v2, v3, v4, v5, v6, v7) => by kernel_rfl
theorem D0_of (v : T0) {r : R} (h : d0 v = some r) : D0 v = some r :=
  join_of (l := fun L => l0 (L 0) v) (d := fun L => d0 v) (fun L => (held_eq _).trans (l0_b (L 0) v)) (d0_cn v) h
noncomputable def f (k : Nat) : A → Option R := fun (v0, v1, v2, v3, v4) => held (runFn cs k Try.f67 [(.agg [(.int .i64 v0), (.int .i64 v1), (.int .i64 v2), (.int .i64 v3)]), (.c (.int .i64 v4))] [] dec)
noncomputable def F (v : A) : Option R := lim fun L => f (L 0) v
theorem F_cn (x : Nat) (v : A) : Cn late (F v) fun L => f (L x) v := of_lim.re [x]
def d (camera_Check_k : camera_Check.A → Option camera_Check.R) (L0k : T0 → Option R) : A → Option R := fun (v0, v1, v2, v3, v4) =>
bnd (camera_Check_k (v0, v1, v2, v3)) fun r =>
  br (!decide (r = 0)) (some (0, 0, 0, 0, r))
    (br (!decide (v0 = 0)) (some (0, 0, 0, 0, 10))
      (br (decide (v4 < 0) || decide (16 < v4)) (some (0, 0, 0, 0, 4))
        (br (decide (v3 = 1073741824)) (some (0, 0, 0, 0, 9)) (br (decide (v4 = 0)) (L0k (2, 3, v4, wrap IntKind.i64 (v3 + 1), 0, 0, 0, 0)) (L0k (1, v4, v4, wrap IntKind.i64 (v3 + 1), 0, 0, 0, 0))))))
theorem d_cn {ι : Type} {E : Fil ι} {camera_Check_k : camera_Check.A → Option camera_Check.R} {camera_Check_k' : ι → camera_Check.A → Option camera_Check.R} (hcamera_Check_k : ∀ v, Cn E (camera_Check_k v) fun i => camera_Check_k' i v) {L0k : T0 → Option R} {L0k' : ι → T0 → Option R} (hL0k : ∀ v, Cn E (L0k v) fun i => L0k' i v) : ∀ v : A, Cn E (d camera_Check_k L0k v) fun i => d (camera_Check_k' i) (L0k' i) v := fun (v0, v1, v2, v3, v4) => (.bnd (hcamera_Check_k _) fun _ => (.br .some (.br .some (.br .some (.br .some (.br (hL0k _) (hL0k _)))))))
theorem f_b (k : Nat) : ∀ v : A, f k v = d (camera_Check.f k) (l0 k) v := fun (v0, v1, v2, v3, v4) => (held_eq _).trans (by kernel_rfl)
theorem F_of (v : A) {r : R} (h : d camera_Check.F D0 v = some r) : F v = some r :=
  join_of (l := fun L => f (L 0) v) (d := fun L => d (camera_Check.f (L 0)) (l0 (L 0)) v) (fun L => f_b (L 0) v) (d_cn (camera_Check.F_cn 0) (fun v => (D0_cn v).re [0]) v) h
noncomputable def spec (k : Nat) (args : List AV) (ss : List Slot) : Option Ans :=
  match args, ss with
  | [(.agg [(.int .i64 v0), (.int .i64 v1), (.int .i64 v2), (.int .i64 v3)]), (.c (.int .i64 v4))], [] => some ⟨R, f k (v0, v1, v2, v3, v4), enc⟩
  | _, _ => none
theorem spec_ok (k : Nat) : SpecOk Try.prog 67 (spec k) := by
  intro args ss ans x h hx X σ w vals hp
  unfold spec at h
  split at h
  · cases h
    exact spec_of cs_ok Try.func67 rfl rfl dec_ok (held_eq _).symm hx hp
  · cases h
end camera_Expose
noncomputable def t_camera_Expose (k : Nat) := tcons 67 (camera_Expose.spec k) (t_dome_Covers k)
theorem t_camera_Expose_ok (n g : Nat) : SpecOk Try.prog g (t_camera_Expose n g) := tcons_ok (camera_Expose.spec_ok n) (fun g => t_dome_Covers_ok n g) g
namespace guard_expose
abbrev R : Type := Int × Int × Int × Bool × Int × Int × Int × Bool × Int × Int × Int × Bool × Bool × Int × Int × Int × Bool × Int × Int × Int × Int × Bool × Bool × Bool × Bool × Bool × Int × Int × Int × Int × Int × Int
abbrev A : Type := Int × Int × Int × Bool × Int × Int × Int × Bool × Int × Int × Int × Bool × Bool × Int × Int × Int × Bool × Int × Int × Int × Int × Bool × Bool × Bool × Bool × Bool × Int × Int × Int × Int × Int × Int
def lv : List (Nat × List Nat) := [(2000000, [4, 5])]
noncomputable def cs : Nat → Ctx := ctxOf tis modes t_camera_Expose lv
theorem cs_ok (n : Nat) : CtxOk Try.prog (cs n) := ctxOf_ok rfl tis_ok t_camera_Expose_ok n
def enc (r : R) : Out := ((.tup [(.agg [(.int .i64 r.1), (.int .i64 r.2.1), (.int .i64 r.2.2.1), (.bool r.2.2.2.1), (.int .i64 r.2.2.2.2.1), (.int .i64 r.2.2.2.2.2.1), (.int .i64 r.2.2.2.2.2.2.1), (.bool r.2.2.2.2.2.2.2.1), (.int .i64 r.2.2.2.2.2.2.2.2.1), (.int .i64 r.2.2.2.2.2.2.2.2.2.1), (.int .i64 r.2.2.2.2.2.2.2.2.2.2.1), (.bool r.2.2.2.2.2.2.2.2.2.2.2.1), (.bool r.2.2.2.2.2.2.2.2.2.2.2.2.1), (.int .i64 r.2.2.2.2.2.2.2.2.2.2.2.2.2.1), (.int .i64 r.2.2.2.2.2.2.2.2.2.2.2.2.2.2.1), (.int .i64 r.2.2.2.2.2.2.2.2.2.2.2.2.2.2.2.1), (.bool r.2.2.2.2.2.2.2.2.2.2.2.2.2.2.2.2.1), (.int .i64 r.2.2.2.2.2.2.2.2.2.2.2.2.2.2.2.2.2.1), (.int .i64 r.2.2.2.2.2.2.2.2.2.2.2.2.2.2.2.2.2.2.1), (.int .i64 r.2.2.2.2.2.2.2.2.2.2.2.2.2.2.2.2.2.2.2.1), (.int .i64 r.2.2.2.2.2.2.2.2.2.2.2.2.2.2.2.2.2.2.2.2.1), (.bool r.2.2.2.2.2.2.2.2.2.2.2.2.2.2.2.2.2.2.2.2.2.1), (.bool r.2.2.2.2.2.2.2.2.2.2.2.2.2.2.2.2.2.2.2.2.2.2.1), (.bool r.2.2.2.2.2.2.2.2.2.2.2.2.2.2.2.2.2.2.2.2.2.2.2.1), (.bool r.2.2.2.2.2.2.2.2.2.2.2.2.2.2.2.2.2.2.2.2.2.2.2.2.1), (.bool r.2.2.2.2.2.2.2.2.2.2.2.2.2.2.2.2.2.2.2.2.2.2.2.2.2.1), (.int .i64 r.2.2.2.2.2.2.2.2.2.2.2.2.2.2.2.2.2.2.2.2.2.2.2.2.2.2.1), (.int .i64 r.2.2.2.2.2.2.2.2.2.2.2.2.2.2.2.2.2.2.2.2.2.2.2.2.2.2.2.1), (.int .i64 r.2.2.2.2.2.2.2.2.2.2.2.2.2.2.2.2.2.2.2.2.2.2.2.2.2.2.2.2.1), (.int .i64 r.2.2.2.2.2.2.2.2.2.2.2.2.2.2.2.2.2.2.2.2.2.2.2.2.2.2.2.2.2.1), (.int .i64 r.2.2.2.2.2.2.2.2.2.2.2.2.2.2.2.2.2.2.2.2.2.2.2.2.2.2.2.2.2.2.1)]), (.c (.int .i64 r.2.2.2.2.2.2.2.2.2.2.2.2.2.2.2.2.2.2.2.2.2.2.2.2.2.2.2.2.2.2.2))]), [])
def dec : Out → Option R
  | ((.tup [(.agg [(.int .i64 v0), (.int .i64 v1), (.int .i64 v2), (.bool v3), (.int .i64 v4), (.int .i64 v5), (.int .i64 v6), (.bool v7), (.int .i64 v8), (.int .i64 v9), (.int .i64 v10), (.bool v11), (.bool v12), (.int .i64 v13), (.int .i64 v14), (.int .i64 v15), (.bool v16), (.int .i64 v17), (.int .i64 v18), (.int .i64 v19), (.int .i64 v20), (.bool v21), (.bool v22), (.bool v23), (.bool v24), (.bool v25), (.int .i64 v26), (.int .i64 v27), (.int .i64 v28), (.int .i64 v29), (.int .i64 v30)]), (.c (.int .i64 v31))]), []) => some (v0, v1, v2, v3, v4, v5, v6, v7, v8, v9, v10, v11, v12, v13, v14, v15, v16, v17, v18, v19, v20, v21, v22, v23, v24, v25, v26, v27, v28, v29, v30, v31)
  | _ => none
theorem dec_ok : ∀ u y, dec u = some y → u = enc y := by
  intro u y h
  unfold dec at h
  split at h
  · cases h; rfl
  · cases h
noncomputable def b0 : Code := subF [] Try.f52
noncomputable def K0 (k : Nat) : Kt R := kTop (cs k) Try.f52 dec
noncomputable def f (k : Nat) : A → Option R := fun (v0, v1, v2, v3, v4, v5, v6, v7, v8, v9, v10, v11, v12, v13, v14, v15, v16, v17, v18, v19, v20, v21, v22, v23, v24, v25, v26, v27, v28, v29, v30, v31) => held (runFn cs k Try.f52 [(.agg [(.int .i64 v0), (.int .i64 v1), (.int .i64 v2), (.bool v3), (.int .i64 v4), (.int .i64 v5), (.int .i64 v6), (.bool v7), (.int .i64 v8), (.int .i64 v9), (.int .i64 v10), (.bool v11), (.bool v12), (.int .i64 v13), (.int .i64 v14), (.int .i64 v15), (.bool v16), (.int .i64 v17), (.int .i64 v18), (.int .i64 v19), (.int .i64 v20), (.bool v21), (.bool v22), (.bool v23), (.bool v24), (.bool v25), (.int .i64 v26), (.int .i64 v27), (.int .i64 v28), (.int .i64 v29), (.int .i64 v30)]), (.c (.int .i64 v31))] [] dec)
noncomputable def F (v : A) : Option R := lim fun L => f (L 0) v
theorem F_cn (x : Nat) (v : A) : Cn late (F v) fun L => f (L x) v := of_lim.re [x]
def d (dome_Clear_k : dome_Clear.A → Option dome_Clear.R) (dome_Covers_k : dome_Covers.A → Option dome_Covers.R) (camera_Expose_k : camera_Expose.A → Option camera_Expose.R) : A → Option R := fun (v0, v1, v2, v3, v4, v5, v6, v7, v8, v9, v10, v11, v12, v13, v14, v15, v16, v17, v18, v19, v20, v21, v22, v23, v24, v25, v26, v27, v28, v29, v30, v31) =>
br (decide (v31 < 1) || decide (16 < v31)) (some (0, 0, 0, false, 0, 0, 0, false, 0, 0, 0, false, false, 0, 0, 0, false, 0, 0, 0, 0, false, false, false, false, false, 0, 0, 0, 0, 0, 4))
  (br ((!decide (v8 = 3)) == false)
    (bnd (dome_Clear_k (v9, v10, v11, v12, v13, v14, v15, v16)) fun r =>
      br ((!r) == false)
        (bnd (dome_Covers_k (v9, v10, v11, v12, v13, v14, v15, v16, v0)) fun r =>
          br (!r) (some (0, 0, 0, false, 0, 0, 0, false, 0, 0, 0, false, false, 0, 0, 0, false, 0, 0, 0, 0, false, false, false, false, false, 0, 0, 0, 0, 0, 16))
            (bnd (camera_Expose_k (v17, v18, v19, v20, v31)) fun r =>
              some (v0, v1, v2, v3, v4, v5, v6, v7, v8, v9, v10, v11, v12, v13, v14, v15, v16, r.fst, r.snd.fst, r.snd.snd.fst, r.snd.snd.snd.fst, v21, v22, v23, v24, v25, v26, v27, v28, v29, v30, r.snd.snd.snd.snd)))
        (some (0, 0, 0, false, 0, 0, 0, false, 0, 0, 0, false, false, 0, 0, 0, false, 0, 0, 0, 0, false, false, false, false, false, 0, 0, 0, 0, 0, 16)))
    (some (0, 0, 0, false, 0, 0, 0, false, 0, 0, 0, false, false, 0, 0, 0, false, 0, 0, 0, 0, false, false, false, false, false, 0, 0, 0, 0, 0, 16)))
theorem d_cn {ι : Type} {E : Fil ι} {dome_Clear_k : dome_Clear.A → Option dome_Clear.R} {dome_Clear_k' : ι → dome_Clear.A → Option dome_Clear.R} (hdome_Clear_k : ∀ v, Cn E (dome_Clear_k v) fun i => dome_Clear_k' i v) {dome_Covers_k : dome_Covers.A → Option dome_Covers.R} {dome_Covers_k' : ι → dome_Covers.A → Option dome_Covers.R} (hdome_Covers_k : ∀ v, Cn E (dome_Covers_k v) fun i => dome_Covers_k' i v) {camera_Expose_k : camera_Expose.A → Option camera_Expose.R} {camera_Expose_k' : ι → camera_Expose.A → Option camera_Expose.R} (hcamera_Expose_k : ∀ v, Cn E (camera_Expose_k v) fun i => camera_Expose_k' i v) : ∀ v : A, Cn E (d dome_Clear_k dome_Covers_k camera_Expose_k v) fun i => d (dome_Clear_k' i) (dome_Covers_k' i) (camera_Expose_k' i) v := fun (v0, v1, v2, v3, v4, v5, v6, v7, v8, v9, v10, v11, v12, v13, v14, v15, v16, v17, v18, v19, v20, v21, v22, v23, v24, v25, v26, v27, v28, v29, v30, v31) => (.br .some (.br (.bnd (hdome_Clear_k _) fun _ => (.br (.bnd (hdome_Covers_k _) fun _ => (.br .some (.bnd (hcamera_Expose_k _) fun _ => .some))) .some)) .some))
theorem f_b (k : Nat) : ∀ v : A, f k v = d (dome_Clear.f k) (dome_Covers.f k) (camera_Expose.f k) v := fun (v0, v1, v2, v3, v4, v5, v6, v7, v8, v9, v10, v11, v12, v13, v14, v15, v16, v17, v18, v19, v20, v21, v22, v23, v24, v25, v26, v27, v28, v29, v30, v31) => (held_eq _).trans (by kernel_rfl)
theorem F_of (v : A) {r : R} (h : d dome_Clear.F dome_Covers.F camera_Expose.F v = some r) : F v = some r :=
  join_of (l := fun L => f (L 0) v) (d := fun L => d (dome_Clear.f (L 0)) (dome_Covers.f (L 0)) (camera_Expose.f (L 0)) v) (fun L => f_b (L 0) v) (d_cn (dome_Clear.F_cn 0) (dome_Covers.F_cn 0) (camera_Expose.F_cn 0) v) h
noncomputable def spec (k : Nat) (args : List AV) (ss : List Slot) : Option Ans :=
  match args, ss with
  | [(.agg [(.int .i64 v0), (.int .i64 v1), (.int .i64 v2), (.bool v3), (.int .i64 v4), (.int .i64 v5), (.int .i64 v6), (.bool v7), (.int .i64 v8), (.int .i64 v9), (.int .i64 v10), (.bool v11), (.bool v12), (.int .i64 v13), (.int .i64 v14), (.int .i64 v15), (.bool v16), (.int .i64 v17), (.int .i64 v18), (.int .i64 v19), (.int .i64 v20), (.bool v21), (.bool v22), (.bool v23), (.bool v24), (.bool v25), (.int .i64 v26), (.int .i64 v27), (.int .i64 v28), (.int .i64 v29), (.int .i64 v30)]), (.c (.int .i64 v31))], [] => some ⟨R, f k (v0, v1, v2, v3, v4, v5, v6, v7, v8, v9, v10, v11, v12, v13, v14, v15, v16, v17, v18, v19, v20, v21, v22, v23, v24, v25, v26, v27, v28, v29, v30, v31), enc⟩
  | _, _ => none
theorem spec_ok (k : Nat) : SpecOk Try.prog 52 (spec k) := by
  intro args ss ans x h hx X σ w vals hp
  unfold spec at h
  split at h
  · cases h
    exact spec_of cs_ok Try.func52 rfl rfl dec_ok (held_eq _).symm hx hp
  · cases h
end guard_expose
noncomputable def t_guard_expose (k : Nat) := tcons 52 (guard_expose.spec k) (t_camera_Expose k)
theorem t_guard_expose_ok (n g : Nat) : SpecOk Try.prog g (t_guard_expose n g) := tcons_ok (guard_expose.spec_ok n) (fun g => t_camera_Expose_ok n g) g
namespace camera_Abort
abbrev R : Type := Int × Int × Int × Int × Int
abbrev A : Type := Int × Int × Int × Int
def lv : List (Nat × List Nat) := [(2000000, [2, 3])]
noncomputable def cs : Nat → Ctx := ctxOf tis modes t_guard_expose lv
theorem cs_ok (n : Nat) : CtxOk Try.prog (cs n) := ctxOf_ok rfl tis_ok t_guard_expose_ok n
def enc (r : R) : Out := ((.tup [(.agg [(.int .i64 r.1), (.int .i64 r.2.1), (.int .i64 r.2.2.1), (.int .i64 r.2.2.2.1)]), (.c (.int .i64 r.2.2.2.2))]), [])
def dec : Out → Option R
  | ((.tup [(.agg [(.int .i64 v0), (.int .i64 v1), (.int .i64 v2), (.int .i64 v3)]), (.c (.int .i64 v4))]), []) => some (v0, v1, v2, v3, v4)
  | _ => none
theorem dec_ok : ∀ u y, dec u = some y → u = enc y := by
  intro u y h
  unfold dec at h
  split at h
  · cases h; rfl
  · cases h
noncomputable def b0 : Code := subF [] Try.f53
noncomputable def K0 (k : Nat) : Kt R := kTop (cs k) Try.f53 dec
noncomputable def f (k : Nat) : A → Option R := fun (v0, v1, v2, v3) => held (runFn cs k Try.f53 [(.agg [(.int .i64 v0), (.int .i64 v1), (.int .i64 v2), (.int .i64 v3)])] [] dec)
noncomputable def F (v : A) : Option R := lim fun L => f (L 0) v
theorem F_cn (x : Nat) (v : A) : Cn late (F v) fun L => f (L x) v := of_lim.re [x]
def d (camera_Check_k : camera_Check.A → Option camera_Check.R) : A → Option R := fun (v0, v1, v2, v3) =>
bnd (camera_Check_k (v0, v1, v2, v3)) fun r => br (!decide (r = 0)) (some (0, 0, 0, 0, r)) (br (!decide (v0 = 1)) (some (0, 0, 0, 0, 10)) (some (0, 0, 0, v3, 0)))
theorem d_cn {ι : Type} {E : Fil ι} {camera_Check_k : camera_Check.A → Option camera_Check.R} {camera_Check_k' : ι → camera_Check.A → Option camera_Check.R} (hcamera_Check_k : ∀ v, Cn E (camera_Check_k v) fun i => camera_Check_k' i v) : ∀ v : A, Cn E (d camera_Check_k v) fun i => d (camera_Check_k' i) v := fun (v0, v1, v2, v3) => (.bnd (hcamera_Check_k _) fun _ => (.br .some (.br .some .some)))
theorem f_b (k : Nat) : ∀ v : A, f k v = d (camera_Check.f k) v := fun (v0, v1, v2, v3) => (held_eq _).trans (by kernel_rfl)
theorem F_of (v : A) {r : R} (h : d camera_Check.F v = some r) : F v = some r :=
  join_of (l := fun L => f (L 0) v) (d := fun L => d (camera_Check.f (L 0)) v) (fun L => f_b (L 0) v) (d_cn (camera_Check.F_cn 0) v) h
noncomputable def spec (k : Nat) (args : List AV) (ss : List Slot) : Option Ans :=
  match args, ss with
  | [(.agg [(.int .i64 v0), (.int .i64 v1), (.int .i64 v2), (.int .i64 v3)])], [] => some ⟨R, f k (v0, v1, v2, v3), enc⟩
  | _, _ => none
theorem spec_ok (k : Nat) : SpecOk Try.prog 53 (spec k) := by
  intro args ss ans x h hx X σ w vals hp
  unfold spec at h
  split at h
  · cases h
    exact spec_of cs_ok Try.func53 rfl rfl dec_ok (held_eq _).symm hx hp
  · cases h
end camera_Abort
noncomputable def t_camera_Abort (k : Nat) := tcons 53 (camera_Abort.spec k) (t_guard_expose k)
theorem t_camera_Abort_ok (n g : Nat) : SpecOk Try.prog g (t_camera_Abort n g) := tcons_ok (camera_Abort.spec_ok n) (fun g => t_guard_expose_ok n g) g
namespace camera_Fetch
abbrev R : Type := Int × Int × Int × Int × Int × Int × Int
abbrev A : Type := Int × Int × Int × Int
def lv : List (Nat × List Nat) := [(2000000, [2, 3, 4, 5])]
noncomputable def cs : Nat → Ctx := ctxOf tis modes t_camera_Abort lv
theorem cs_ok (n : Nat) : CtxOk Try.prog (cs n) := ctxOf_ok rfl tis_ok t_camera_Abort_ok n
def enc (r : R) : Out := ((.tup [(.agg [(.int .i64 r.1), (.int .i64 r.2.1), (.int .i64 r.2.2.1), (.int .i64 r.2.2.2.1)]), (.c (.int .i64 r.2.2.2.2.1)), (.c (.int .i64 r.2.2.2.2.2.1)), (.c (.int .i64 r.2.2.2.2.2.2))]), [])
def dec : Out → Option R
  | ((.tup [(.agg [(.int .i64 v0), (.int .i64 v1), (.int .i64 v2), (.int .i64 v3)]), (.c (.int .i64 v4)), (.c (.int .i64 v5)), (.c (.int .i64 v6))]), []) => some (v0, v1, v2, v3, v4, v5, v6)
  | _ => none
theorem dec_ok : ∀ u y, dec u = some y → u = enc y := by
  intro u y h
  unfold dec at h
  split at h
  · cases h; rfl
  · cases h
noncomputable def b0 : Code := subF [] Try.f54
noncomputable def K0 (k : Nat) : Kt R := kTop (cs k) Try.f54 dec
noncomputable def f (k : Nat) : A → Option R := fun (v0, v1, v2, v3) => held (runFn cs k Try.f54 [(.agg [(.int .i64 v0), (.int .i64 v1), (.int .i64 v2), (.int .i64 v3)])] [] dec)
noncomputable def F (v : A) : Option R := lim fun L => f (L 0) v
theorem F_cn (x : Nat) (v : A) : Cn late (F v) fun L => f (L x) v := of_lim.re [x]
def d (camera_Check_k : camera_Check.A → Option camera_Check.R) : A → Option R := fun (v0, v1, v2, v3) =>
bnd (camera_Check_k (v0, v1, v2, v3)) fun r => br (!decide (r = 0)) (some (0, 0, 0, 0, 0, 0, r)) (br (!decide (v0 = 3)) (some (0, 0, 0, 0, 0, 0, 10)) (some (0, 0, 0, v3, v3, v2, 0)))
theorem d_cn {ι : Type} {E : Fil ι} {camera_Check_k : camera_Check.A → Option camera_Check.R} {camera_Check_k' : ι → camera_Check.A → Option camera_Check.R} (hcamera_Check_k : ∀ v, Cn E (camera_Check_k v) fun i => camera_Check_k' i v) : ∀ v : A, Cn E (d camera_Check_k v) fun i => d (camera_Check_k' i) v := fun (v0, v1, v2, v3) => (.bnd (hcamera_Check_k _) fun _ => (.br .some (.br .some .some)))
theorem f_b (k : Nat) : ∀ v : A, f k v = d (camera_Check.f k) v := fun (v0, v1, v2, v3) => (held_eq _).trans (by kernel_rfl)
theorem F_of (v : A) {r : R} (h : d camera_Check.F v = some r) : F v = some r :=
  join_of (l := fun L => f (L 0) v) (d := fun L => d (camera_Check.f (L 0)) v) (fun L => f_b (L 0) v) (d_cn (camera_Check.F_cn 0) v) h
noncomputable def spec (k : Nat) (args : List AV) (ss : List Slot) : Option Ans :=
  match args, ss with
  | [(.agg [(.int .i64 v0), (.int .i64 v1), (.int .i64 v2), (.int .i64 v3)])], [] => some ⟨R, f k (v0, v1, v2, v3), enc⟩
  | _, _ => none
theorem spec_ok (k : Nat) : SpecOk Try.prog 54 (spec k) := by
  intro args ss ans x h hx X σ w vals hp
  unfold spec at h
  split at h
  · cases h
    exact spec_of cs_ok Try.func54 rfl rfl dec_ok (held_eq _).symm hx hp
  · cases h
end camera_Fetch
noncomputable def t_camera_Fetch (k : Nat) := tcons 54 (camera_Fetch.spec k) (t_camera_Abort k)
theorem t_camera_Fetch_ok (n g : Nat) : SpecOk Try.prog g (t_camera_Fetch n g) := tcons_ok (camera_Fetch.spec_ok n) (fun g => t_camera_Abort_ok n g) g
end Go.Proofs.RGuR
