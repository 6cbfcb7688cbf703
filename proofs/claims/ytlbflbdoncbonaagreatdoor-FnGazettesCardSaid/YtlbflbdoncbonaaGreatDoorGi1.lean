/- A part of the proof of a law's statement: for every input the law returns true and leaves its arguments as they were. No condition beyond the statement's own. The laws' functions in that calculus, checked by the kernel against the program. -/
import Derived.Test.YtlbflbdoncbonaaGreatDoorProg
import Derived.Test.YtlbflbdoncbonaaGreatDoorGe3
set_option linter.unusedVariables false
set_option linter.unusedSimpArgs false
set_option linter.unusedSectionVars false
set_option autoImplicit true
set_option relaxedAutoImplicit true
namespace Go.Eng
open Go
def tbs : List (Option TI) := [some ⟨(.tup []), 1, 0, [.junk], false⟩,
  some ⟨.func, 1, 8, [.junk], false⟩,
  some ⟨(.int .i64), 1, 8, [(i 0)], false⟩,
  some ⟨(.int .i64), 1, 8, [(i 0)], false⟩,
  some ⟨.bool, 1, 1, [(.bool false)], false⟩,
  some ⟨(.int .u8), 1, 1, [(.int .u8 (0))], false⟩,
  some ⟨(.int .u8), 1, 1, [(.int .u8 (0))], false⟩,
  some ⟨(.struct [(0, 2), (1, 3), (2, 4), (3, 6)]), 4, 24, [(i 0), (i 0), (.bool false), (.int .u8 (0))], true⟩,
  some ⟨(.struct [(0, 2), (1, 3), (2, 4), (3, 6)]), 4, 24, [(i 0), (i 0), (.bool false), (.int .u8 (0))], true⟩,
  some ⟨.str, 1, 16, [(.str (bs []))], false⟩,
  some ⟨.str, 1, 16, [(.str (bs []))], false⟩,
  some ⟨.str, 1, 16, [(.str (bs []))], false⟩,
  some ⟨(.int .u64), 1, 8, [(.int .u64 (0))], false⟩,
  some ⟨(.struct [(0, 9), (1, 12)]), 2, 24, [(.str (bs [])), (.int .u64 (0))], false⟩,
  some ⟨(.struct [(0, 9), (1, 12)]), 2, 24, [(.str (bs [])), (.int .u64 (0))], false⟩,
  some ⟨(.ptr 149), 1, 8, [.junk], false⟩,
  some ⟨(.ptr 152), 1, 8, [.junk], false⟩,
  some ⟨(.ptr 161), 1, 8, [.junk], false⟩,
  some ⟨(.struct [(0, 17)]), 1, 8, [.junk], false⟩,
  some ⟨(.struct [(0, 17)]), 1, 8, [.junk], false⟩,
  some ⟨.other, 1, 16, [.junk], false⟩,
  some ⟨(.int .i32), 1, 4, [(.int .i32 (0))], false⟩,
  some ⟨(.slice 5), 1, 24, [(.lst 1 true [])], false⟩,
  some ⟨.func, 1, 8, [.junk], false⟩,
  some ⟨(.slice 47), 1, 24, [(.lst 5 true [])], false⟩,
  some ⟨.func, 1, 8, [.junk], false⟩,
  some ⟨(.slice 35), 1, 24, [(.lst 3 true [])], false⟩,
  some ⟨.func, 1, 8, [.junk], false⟩,
  some ⟨(.slice 44), 1, 24, [(.lst 4 true [])], false⟩,
  some ⟨.func, 1, 8, [.junk], false⟩,
  some ⟨.func, 1, 8, [.junk], false⟩,
  some ⟨.func, 1, 8, [.junk], false⟩,
  some ⟨(.slice 3), 1, 24, [(.lst 1 true [])], false⟩,
  some ⟨.func, 1, 8, [.junk], false⟩,
  some ⟨(.struct [(0, 9), (1, 3), (2, 9)]), 3, 40, [(.str (bs [])), (i 0), (.str (bs []))], true⟩,
  some ⟨(.struct [(0, 9), (1, 3), (2, 9)]), 3, 40, [(.str (bs [])), (i 0), (.str (bs []))], true⟩,
  some ⟨(.tup [26, 9]), 1, 0, [.junk], false⟩,
  some ⟨.func, 1, 8, [.junk], false⟩,
  some ⟨.func, 1, 8, [.junk], false⟩,
  some ⟨(.slice 9), 1, 24, [(.lst 1 true [])], false⟩,
  some ⟨.func, 1, 8, [.junk], false⟩,
  some ⟨(.struct [(0, 3), (1, 3)]), 2, 16, [(i 0), (i 0)], true⟩,
  some ⟨(.struct [(0, 3), (1, 3)]), 2, 16, [(i 0), (i 0)], true⟩,
  some ⟨(.struct [(0, 3), (1, 42), (3, 3)]), 4, 32, [(i 0), (i 0), (i 0), (i 0)], true⟩,
  some ⟨(.struct [(0, 3), (1, 42), (3, 3)]), 4, 32, [(i 0), (i 0), (i 0), (i 0)], true⟩,
  some ⟨(.slice 42), 1, 24, [(.lst 2 true [])], false⟩,
  some ⟨(.struct [(0, 3), (1, 3), (2, 3), (3, 9), (4, 45)]), 5, 64, [(i 0), (i 0), (i 0), (.str (bs [])), (.lst 2 true [])], true⟩,
  some ⟨(.struct [(0, 3), (1, 3), (2, 3), (3, 9), (4, 45)]), 5, 64, [(i 0), (i 0), (i 0), (.str (bs [])), (.lst 2 true [])], true⟩,
  some ⟨.func, 1, 8, [.junk], false⟩,
  some ⟨.func, 1, 8, [.junk], false⟩,
  some ⟨.func, 1, 8, [.junk], false⟩,
  some ⟨.func, 1, 8, [.junk], false⟩,
  some ⟨.func, 1, 8, [.junk], false⟩,
  some ⟨.func, 1, 8, [.junk], false⟩,
  some ⟨.func, 1, 8, [.junk], false⟩,
  some ⟨.func, 1, 8, [.junk], false⟩,
  some ⟨(.tup [42, 4]), 1, 0, [.junk], false⟩,
  some ⟨.func, 1, 8, [.junk], false⟩,
  some ⟨.func, 1, 8, [.junk], false⟩,
  some ⟨.func, 1, 8, [.junk], false⟩,
  some ⟨(.ptr 78), 1, 8, [.junk], false⟩,
  some ⟨.func, 1, 8, [.junk], false⟩,
  some ⟨.func, 1, 8, [.junk], false⟩,
  some ⟨.func, 1, 8, [.junk], false⟩,
  some ⟨.func, 1, 8, [.junk], false⟩,
  some ⟨.func, 1, 8, [.junk], false⟩,
  some ⟨.func, 1, 8, [.junk], false⟩,
  some ⟨.func, 1, 8, [.junk], false⟩,
  some ⟨.func, 1, 8, [.junk], false⟩,
  some ⟨.func, 1, 8, [.junk], false⟩,
  some ⟨.func, 1, 8, [.junk], false⟩,
  some ⟨.func, 1, 8, [.junk], false⟩,
  some ⟨(.int .u64), 1, 8, [(.int .u64 (0))], false⟩,
  some ⟨.func, 1, 8, [.junk], false⟩,
  some ⟨.func, 1, 8, [.junk], false⟩,
  some ⟨.func, 1, 8, [.junk], false⟩,
  some ⟨.func, 1, 8, [.junk], false⟩,
  some ⟨(.struct [(0, 22), (1, 3), (2, 3)]), 3, 40, [(.lst 1 true []), (i 0), (i 0)], true⟩,
  some ⟨(.struct [(0, 22), (1, 3), (2, 3)]), 3, 40, [(.lst 1 true []), (i 0), (i 0)], true⟩,
  some ⟨.func, 1, 8, [.junk], false⟩,
  some ⟨.func, 1, 8, [.junk], false⟩,
  some ⟨.func, 1, 8, [.junk], false⟩,
  some ⟨(.struct [(0, 42), (2, 42)]), 4, 32, [(i 0), (i 0), (i 0), (i 0)], true⟩,
  some ⟨(.struct [(0, 42), (2, 42)]), 4, 32, [(i 0), (i 0), (i 0), (i 0)], true⟩,
  some ⟨(.tup [83, 4]), 1, 0, [.junk], false⟩,
  some ⟨.func, 1, 8, [.junk], false⟩,
  some ⟨.func, 1, 8, [.junk], false⟩,
  some ⟨.func, 1, 8, [.junk], false⟩,
  some ⟨(.int .i64), 1, 8, [(i 0)], false⟩,
  some ⟨(.tup [3, 88]), 1, 0, [.junk], false⟩,
  some ⟨.func, 1, 8, [.junk], false⟩,
  some ⟨.func, 1, 8, [.junk], false⟩,
  some ⟨.func, 1, 8, [.junk], false⟩,
  some ⟨(.tup [3, 4]), 1, 0, [.junk], false⟩,
  some ⟨.func, 1, 8, [.junk], false⟩,
  some ⟨.func, 1, 8, [.junk], false⟩,
  some ⟨(.int .u32), 1, 4, [(.int .u32 (0))], false⟩,
  some ⟨.func, 1, 8, [.junk], false⟩,
  some ⟨(.int .u64), 1, 8, [(.int .u64 (0))], false⟩,
  some ⟨.func, 1, 8, [.junk], false⟩,
  some ⟨(.slice 104), 1, 24, [(.lst 4 true [])], false⟩,
  some ⟨.func, 1, 8, [.junk], false⟩,
  some ⟨.func, 1, 8, [.junk], false⟩,
  some ⟨(.struct [(0, 42), (2, 42)]), 4, 32, [(i 0), (i 0), (i 0), (i 0)], true⟩,
  some ⟨(.struct [(0, 42), (2, 42)]), 4, 32, [(i 0), (i 0), (i 0), (i 0)], true⟩,
  some ⟨.func, 1, 8, [.junk], false⟩,
  some ⟨.func, 1, 8, [.junk], false⟩,
  some ⟨.func, 1, 8, [.junk], false⟩,
  some ⟨.func, 1, 8, [.junk], false⟩,
  some ⟨.func, 1, 8, [.junk], false⟩,
  some ⟨.func, 1, 8, [.junk], false⟩,
  some ⟨(.tup [24, 4]), 1, 0, [.junk], false⟩,
  some ⟨.func, 1, 8, [.junk], false⟩,
  some ⟨.func, 1, 8, [.junk], false⟩,
  some ⟨.func, 1, 8, [.junk], false⟩,
  some ⟨.func, 1, 8, [.junk], false⟩,
  some ⟨(.int .u64), 1, 8, [(.int .u64 (0))], false⟩,
  some ⟨.func, 1, 8, [.junk], false⟩,
  some ⟨.func, 1, 8, [.junk], false⟩,
  some ⟨.func, 1, 8, [.junk], false⟩,
  some ⟨(.ptr 3), 1, 8, [.junk], false⟩,
  some ⟨.func, 1, 8, [.junk], false⟩,
  some ⟨.func, 1, 8, [.junk], false⟩,
  some ⟨.func, 1, 8, [.junk], false⟩,
  some ⟨.func, 1, 8, [.junk], false⟩,
  some ⟨.func, 1, 8, [.junk], false⟩,
  some ⟨.func, 1, 8, [.junk], false⟩,
  some ⟨.func, 1, 8, [.junk], false⟩,
  some ⟨.func, 1, 8, [.junk], false⟩,
  some ⟨.func, 1, 8, [.junk], false⟩,
  some ⟨.func, 1, 8, [.junk], false⟩,
  some ⟨(.ptr 116), 1, 8, [.junk], false⟩,
  some ⟨(.tup [3, 3]), 1, 0, [.junk], false⟩,
  some ⟨.func, 1, 8, [.junk], false⟩,
  some ⟨.func, 1, 8, [.junk], false⟩,
  some ⟨.func, 1, 8, [.junk], false⟩,
  some ⟨.func, 1, 8, [.junk], false⟩,
  some ⟨(.arr 24 5), 24, 24, [(.int .u8 (0)), (.int .u8 (0)), (.int .u8 (0)), (.int .u8 (0)), (.int .u8 (0)), (.int .u8 (0)), (.int .u8 (0)), (.int .u8 (0)), (.int .u8 (0)), (.int .u8 (0)), (.int .u8 (0)), (.int .u8 (0)), (.int .u8 (0)), (.int .u8 (0)), (.int .u8 (0)), (.int .u8 (0)), (.int .u8 (0)), (.int .u8 (0)), (.int .u8 (0)), (.int .u8 (0)), (.int .u8 (0)), (.int .u8 (0)), (.int .u8 (0)), (.int .u8 (0))], false⟩,
  some ⟨.func, 1, 8, [.junk], false⟩,
  some ⟨(.tup [22, 9]), 1, 0, [.junk], false⟩,
  some ⟨.func, 1, 8, [.junk], false⟩,
  some ⟨.func, 1, 8, [.junk], false⟩,
  some ⟨.func, 1, 8, [.junk], false⟩,
  some ⟨(.arr 20 98), 20, 160, [(.int .u64 (0)), (.int .u64 (0)), (.int .u64 (0)), (.int .u64 (0)), (.int .u64 (0)), (.int .u64 (0)), (.int .u64 (0)), (.int .u64 (0)), (.int .u64 (0)), (.int .u64 (0)), (.int .u64 (0)), (.int .u64 (0)), (.int .u64 (0)), (.int .u64 (0)), (.int .u64 (0)), (.int .u64 (0)), (.int .u64 (0)), (.int .u64 (0)), (.int .u64 (0)), (.int .u64 (0))], false⟩,
  some ⟨(.arr 65 5), 65, 65, [(.int .u8 (0)), (.int .u8 (0)), (.int .u8 (0)), (.int .u8 (0)), (.int .u8 (0)), (.int .u8 (0)), (.int .u8 (0)), (.int .u8 (0)), (.int .u8 (0)), (.int .u8 (0)), (.int .u8 (0)), (.int .u8 (0)), (.int .u8 (0)), (.int .u8 (0)), (.int .u8 (0)), (.int .u8 (0)), (.int .u8 (0)), (.int .u8 (0)), (.int .u8 (0)), (.int .u8 (0)), (.int .u8 (0)), (.int .u8 (0)), (.int .u8 (0)), (.int .u8 (0)), (.int .u8 (0)), (.int .u8 (0)), (.int .u8 (0)), (.int .u8 (0)), (.int .u8 (0)), (.int .u8 (0)), (.int .u8 (0)), (.int .u8 (0)), (.int .u8 (0)), (.int .u8 (0)), (.int .u8 (0)), (.int .u8 (0)), (.int .u8 (0)), (.int .u8 (0)), (.int .u8 (0)), (.int .u8 (0)), (.int .u8 (0)), (.int .u8 (0)), (.int .u8 (0)), (.int .u8 (0)), (.int .u8 (0)), (.int .u8 (0)), (.int .u8 (0)), (.int .u8 (0)), (.int .u8 (0)), (.int .u8 (0)), (.int .u8 (0)), (.int .u8 (0)), (.int .u8 (0)), (.int .u8 (0)), (.int .u8 (0)), (.int .u8 (0)), (.int .u8 (0)), (.int .u8 (0)), (.int .u8 (0)), (.int .u8 (0)), (.int .u8 (0)), (.int .u8 (0)), (.int .u8 (0)), (.int .u8 (0)), (.int .u8 (0))], false⟩,
  some ⟨(.arr 32 5), 32, 32, [(.int .u8 (0)), (.int .u8 (0)), (.int .u8 (0)), (.int .u8 (0)), (.int .u8 (0)), (.int .u8 (0)), (.int .u8 (0)), (.int .u8 (0)), (.int .u8 (0)), (.int .u8 (0)), (.int .u8 (0)), (.int .u8 (0)), (.int .u8 (0)), (.int .u8 (0)), (.int .u8 (0)), (.int .u8 (0)), (.int .u8 (0)), (.int .u8 (0)), (.int .u8 (0)), (.int .u8 (0)), (.int .u8 (0)), (.int .u8 (0)), (.int .u8 (0)), (.int .u8 (0)), (.int .u8 (0)), (.int .u8 (0)), (.int .u8 (0)), (.int .u8 (0)), (.int .u8 (0)), (.int .u8 (0)), (.int .u8 (0)), (.int .u8 (0))], false⟩,
  some ⟨(.arr 64 5), 64, 64, [(.int .u8 (0)), (.int .u8 (0)), (.int .u8 (0)), (.int .u8 (0)), (.int .u8 (0)), (.int .u8 (0)), (.int .u8 (0)), (.int .u8 (0)), (.int .u8 (0)), (.int .u8 (0)), (.int .u8 (0)), (.int .u8 (0)), (.int .u8 (0)), (.int .u8 (0)), (.int .u8 (0)), (.int .u8 (0)), (.int .u8 (0)), (.int .u8 (0)), (.int .u8 (0)), (.int .u8 (0)), (.int .u8 (0)), (.int .u8 (0)), (.int .u8 (0)), (.int .u8 (0)), (.int .u8 (0)), (.int .u8 (0)), (.int .u8 (0)), (.int .u8 (0)), (.int .u8 (0)), (.int .u8 (0)), (.int .u8 (0)), (.int .u8 (0)), (.int .u8 (0)), (.int .u8 (0)), (.int .u8 (0)), (.int .u8 (0)), (.int .u8 (0)), (.int .u8 (0)), (.int .u8 (0)), (.int .u8 (0)), (.int .u8 (0)), (.int .u8 (0)), (.int .u8 (0)), (.int .u8 (0)), (.int .u8 (0)), (.int .u8 (0)), (.int .u8 (0)), (.int .u8 (0)), (.int .u8 (0)), (.int .u8 (0)), (.int .u8 (0)), (.int .u8 (0)), (.int .u8 (0)), (.int .u8 (0)), (.int .u8 (0)), (.int .u8 (0)), (.int .u8 (0)), (.int .u8 (0)), (.int .u8 (0)), (.int .u8 (0)), (.int .u8 (0)), (.int .u8 (0)), (.int .u8 (0)), (.int .u8 (0))], false⟩,
  some ⟨.func, 1, 8, [.junk], false⟩,
  some ⟨(.struct [(0, 17), (1, 17), (2, 17), (3, 9)]), 4, 40, [.junk], false⟩,
  some ⟨(.struct [(0, 17), (1, 17), (2, 17), (3, 9)]), 4, 40, [.junk], false⟩,
  some ⟨(.arr 0 16), 0, 0, [], false⟩,
  some ⟨(.struct [(0, 150)]), 0, 0, [], false⟩,
  some ⟨(.struct [(0, 150)]), 0, 0, [], false⟩,
  some ⟨.func, 1, 8, [.junk], false⟩,
  some ⟨(.int .u8), 1, 1, [(.int .u8 (0))], false⟩,
  some ⟨(.int .u8), 1, 1, [(.int .u8 (0))], false⟩,
  some ⟨.func, 1, 8, [.junk], false⟩,
  some ⟨(.ptr 5), 1, 8, [.junk], false⟩,
  some ⟨(.int .i32), 1, 4, [(.int .i32 (0))], false⟩,
  some ⟨(.int .i32), 1, 4, [(.int .i32 (0))], false⟩,
  some ⟨(.struct [(0, 12), (1, 12), (2, 96), (3, 154), (4, 5), (5, 5), (6, 155), (7, 156), (8, 157), (9, 158), (10, 159)]), 11, 48, [.junk], false⟩,
  some ⟨(.struct [(0, 12), (1, 12), (2, 96), (3, 154), (4, 5), (5, 5), (6, 155), (7, 156), (8, 157), (9, 158), (10, 159)]), 11, 48, [.junk], false⟩,
  some ⟨.other, 1, 8, [.junk], false⟩]
def wfs : List Nat := [19, 29]
def xfs : List Nat := [30]
def rfs : List (Nat × Bool × Bool × Bool) := [(5, false, true, false), (12, false, true, false), (14, false, true, false), (16, false, true, false), (31, false, false, true), (32, true, true, false), (33, true, false, false), (35, true, true, false), (51, true, true, false), (52, true, false, false), (54, true, false, false), (55, true, true, false), (90, true, true, false), (91, true, false, false), (92, true, true, false), (93, true, false, false), (116, true, false, false), (117, true, false, false), (118, true, true, false), (120, true, false, false)]
def tls : List Nat := [55]
def sgs : List (Nat × Bool) := [(0, false), (1, false), (2, false), (3, false), (4, false), (6, true), (7, true), (8, true), (9, false), (10, false), (11, true), (13, true), (15, true), (17, false), (18, false), (20, false), (21, false), (22, false), (23, false), (24, true), (25, false), (26, false), (27, false), (28, false), (34, false), (36, false), (37, false), (38, false), (39, false), (40, false), (41, false), (42, false), (43, false), (44, false), (45, false), (46, false), (47, false), (48, false), (49, false), (50, false), (53, false), (56, false), (57, false), (58, false), (59, false), (60, false), (61, false), (62, false), (63, false), (64, false), (65, false), (66, false), (67, false), (68, false), (69, false), (70, false), (71, false), (72, false), (73, false), (74, false), (75, false), (76, false), (77, true), (78, false), (79, false), (80, false), (81, false), (82, false), (83, false), (84, false), (85, false), (86, false), (87, false), (88, false), (89, true), (94, false), (95, false), (96, false), (97, false), (98, false), (99, false), (100, false), (101, false), (102, true), (103, false), (104, false), (105, false), (106, true), (107, false), (108, false), (109, false), (110, false), (111, false), (112, false), (113, false), (114, true), (115, true), (119, false), (121, false), (122, false), (123, true), (124, false), (125, false), (126, false), (127, false), (128, false), (129, false), (130, false), (131, false), (132, false), (133, false), (134, false), (135, false), (136, false), (137, false), (138, true), (139, false), (140, false), (141, false), (142, false), (143, false), (144, false), (145, false), (146, false), (147, false), (148, false), (149, false), (150, false), (151, false), (152, false), (153, false), (154, false), (155, false), (156, false), (157, false), (158, false), (159, false), (160, false), (161, false), (162, false), (163, false), (164, false), (165, false), (166, false)]
def i3 : Comp := ⟨(.seq (.ops [s 2 (.mv (c (.bool false)))])
 (.seq (.seq (.ops [s 12 (.mv (t 0)),
  k 13 4 [(t 12)] .sc])
 (.cond (t 13) (.seq (.ops [s 2 (.mv (c (.bool true)))])
 .ret) .skip))
 (.seq (.seq (.ops [s 14 (.mv (t 0))])
 (.seq (opD 15 5 [(t 14)] .lin)
 (.ops [s 3 (.mv (t 15))])))
 (.seq (.ops [s 16 (.mv (t 3)),
  k 17 6 [(t 16)] .lin,
  s 4 (.mv (t 17))])
 (.seq (.seq (.ops [s 18 (.mv (t 4)),
  s 19 (.len false (t 18)),
  s 20 (.mv (t 3)),
  k 21 7 [(t 20)] .lin,
  s 22 (.len false (t 21)),
  s 23 (.bin .neq (t 19) (t 22))])
 (.cond (t 23) (.seq (.ops [s 2 (.mv (c (.bool false)))])
 .ret) .skip))
 (.seq (.seq (.ops [s 24 (.mv (t 4)),
  s 25 (.len false (t 24)),
  s 26 (.mv (t 3)),
  k 27 8 [(t 26)] .lin,
  s 28 (.len false (t 27)),
  s 29 (.bin .neq (t 25) (t 28)),
  s 30 (.mv (t 29)),
  sg [(30, false)] 31 (.mv (t 4)),
  kg [(30, false)] 32 9 [(t 31)] .sc,
  sg [(30, false)] 33 (.mv (t 4)),
  sg [(30, false)] 34 (.len false (t 33)),
  sg [(30, false)] 35 (.bin .gtr (t 32) (t 34)),
  s 36 (.pick (t 30) (c (.bool true)) (t 35))])
 (.cond (t 36) (.seq (.ops [s 2 (.mv (c (.bool false)))])
 .ret) .skip))
 (.seq (.seq (.ops [s 5 (.mv (c (i 0)))])
 (.block 0 (.loop (.seq (.seq (.ops [s 37 (.mv (t 5)),
  s 38 (.mv (t 4)),
  s 39 (.len false (t 38)),
  s 40 (.bin .lss (t 37) (t 39))])
 (.cond (t 40) .skip (.exit 0)))
 (.seq (.block 1 (.seq (.ops [s 43 (.mv (t 4)),
  s 44 (.mv (t 4)),
  s 45 (.mv (t 5)),
  s 46 (.idx (t 44) (t 45) 3),
  s 47 (.mv (t 46)),
  s 48 (.ldE 44 47 0 1 false true 3),
  k 49 11 [(t 43), (t 48)] .lin,
  s 50 (.mv (t 4)),
  s 51 (.mv (t 5)),
  s 52 (.idx (t 50) (t 51) 3),
  s 53 (.mv (t 52)),
  s 54 (.ldE 50 53 1 1 false true 3),
  k 55 10 [(t 49), (t 54)] .sc,
  s 56 (.not (t 55)),
  s 57 (.mv (t 56)),
  sg [(57, false)] 58 (.mv (t 4)),
  sg [(57, false)] 59 (.mv (t 5)),
  sg [(57, false)] 60 (.idx (t 58) (t 59) 3),
  sg [(57, false)] 61 (.mv (t 60)),
  sg [(57, false)] 62 (.ldE 58 61 2 1 false true 3),
  sg [(57, false)] 63 (.bin .eql (t 62) (c (.str (bs [])))),
  s 64 (.pick (t 57) (c (.bool true)) (t 63)),
  s 65 (.mv (t 64)),
  sg [(65, false)] 66 (.mv (t 5)),
  sg [(65, false)] 67 (.bin .gtr (t 66) (c (i 0))),
  sg [(65, false)] 68 (.mv (t 67)),
  sg [(68, true), (65, false)] 69 (.mv (t 4)),
  sg [(68, true), (65, false)] 70 (.mv (t 5)),
  sg [(68, true), (65, false)] 71 (.bin .sub (t 70) (c (i 1))),
  sg [(68, true), (65, false)] 72 (.idx (t 69) (t 71) 3),
  sg [(68, true), (65, false)] 73 (.mv (t 72)),
  sg [(68, true), (65, false)] 74 (.ldE 69 73 0 1 false true 3),
  sg [(68, true), (65, false)] 75 (.mv (t 4)),
  sg [(68, true), (65, false)] 76 (.mv (t 5)),
  sg [(68, true), (65, false)] 77 (.idx (t 75) (t 76) 3),
  sg [(68, true), (65, false)] 78 (.mv (t 77)),
  sg [(68, true), (65, false)] 79 (.ldE 75 78 0 1 false true 3),
  sg [(68, true), (65, false)] 80 (.bin .gtr (t 74) (t 79)),
  sg [(68, true), (65, false)] 81 (.mv (t 80)),
  sg [(81, false), (68, true), (65, false)] 82 (.mv (t 4)),
  sg [(81, false), (68, true), (65, false)] 83 (.mv (t 5)),
  sg [(81, false), (68, true), (65, false)] 84 (.bin .sub (t 83) (c (i 1))),
  sg [(81, false), (68, true), (65, false)] 85 (.idx (t 82) (t 84) 3),
  sg [(81, false), (68, true), (65, false)] 86 (.mv (t 85)),
  sg [(81, false), (68, true), (65, false)] 87 (.ldE 82 86 0 1 false true 3),
  sg [(81, false), (68, true), (65, false)] 88 (.mv (t 4)),
  sg [(81, false), (68, true), (65, false)] 89 (.mv (t 5)),
  sg [(81, false), (68, true), (65, false)] 90 (.idx (t 88) (t 89) 3),
  sg [(81, false), (68, true), (65, false)] 91 (.mv (t 90)),
  sg [(81, false), (68, true), (65, false)] 92 (.ldE 88 91 0 1 false true 3),
  sg [(81, false), (68, true), (65, false)] 93 (.bin .eql (t 87) (t 92)),
  sg [(81, false), (68, true), (65, false)] 94 (.mv (t 93)),
  sg [(94, true), (81, false), (68, true), (65, false)] 95 (.mv (t 4)),
  sg [(94, true), (81, false), (68, true), (65, false)] 96 (.mv (t 5)),
  sg [(94, true), (81, false), (68, true), (65, false)] 97 (.bin .sub (t 96) (c (i 1))),
  sg [(94, true), (81, false), (68, true), (65, false)] 98 (.idx (t 95) (t 97) 3),
  sg [(94, true), (81, false), (68, true), (65, false)] 99 (.mv (t 98)),
  sg [(94, true), (81, false), (68, true), (65, false)] 100 (.ldE 95 99 1 1 false true 3),
  sg [(94, true), (81, false), (68, true), (65, false)] 101 (.mv (t 4)),
  sg [(94, true), (81, false), (68, true), (65, false)] 102 (.mv (t 5)),
  sg [(94, true), (81, false), (68, true), (65, false)] 103 (.idx (t 101) (t 102) 3),
  sg [(94, true), (81, false), (68, true), (65, false)] 104 (.mv (t 103)),
  sg [(94, true), (81, false), (68, true), (65, false)] 105 (.ldE 101 104 1 1 false true 3),
  sg [(94, true), (81, false), (68, true), (65, false)] 106 (.bin .geq (t 100) (t 105)),
  sg [(81, false), (68, true), (65, false)] 107 (.pick (t 94) (t 106) (c (.bool false))),
  sg [(68, true), (65, false)] 108 (.pick (t 81) (c (.bool true)) (t 107)),
  sg [(65, false)] 109 (.pick (t 68) (t 108) (c (.bool false))),
  s 110 (.pick (t 65) (c (.bool true)) (t 109))])
 (.cond (t 110) (.seq (.ops [s 2 (.mv (c (.bool false)))])
 .ret) .skip)))
 (.ops [s 41 (.mv (t 5)),
  s 42 (.bin .add (t 41) (c (i 1))),
  s 5 (.mv (t 42))]))))))
 (.seq (.seq (.ops [s 112 (.mv (t 0))])
 (.seq (opD 113 12 [(t 112)] .tup)
 (.ops [s 111 (.mv (t 113)),
  s 114 (.ext 111 0 false),
  s 115 (.ext 111 1 true),
  s 6 (.mv (t 114)),
  s 7 (.mv (t 115))])))
 (.seq (.ops [s 116 (.mv (t 6)),
  s 117 (.mv (t 7)),
  k 118 13 [(t 116), (t 117)] .lin,
  s 8 (.mv (t 118))])
 (.seq (.seq (.ops [s 9 (.mv (c (i 0)))])
 (.block 2 (.loop (.seq (.seq (.ops [s 119 (.mv (t 9)),
  s 120 (.mv (t 8)),
  s 121 (.len false (t 120)),
  s 122 (.bin .lss (t 119) (t 121))])
 (.cond (t 122) .skip (.exit 2)))
 (.seq (.block 3 (.seq (.ops [s 125 (.mv (t 8)),
  s 126 (.mv (t 9)),
  s 127 (.idx (t 125) (t 126) 3),
  s 128 (.mv (t 127)),
  s 129 (.ldE 125 128 0 1 false true 3),
  s 130 (.mv (t 7)),
  s 131 (.len true (t 130)),
  s 132 (.ssl (t 129) none (some (t 131))),
  s 133 (.mv (t 7)),
  s 134 (.bin .neq (t 132) (t 133))])
 (.cond (t 134) (.seq (.ops [s 2 (.mv (c (.bool false)))])
 .ret) .skip)))
 (.ops [s 123 (.mv (t 9)),
  s 124 (.bin .add (t 123) (c (i 1))),
  s 9 (.mv (t 124))]))))))
 (.seq (.seq (.ops [s 136 (.mv (t 0))])
 (.seq (opD 137 14 [(t 136)] .tup)
 (.ops [s 135 (.mv (t 137)),
  s 138 (.ext 135 0 false),
  s 139 (.ext 135 1 true),
  s 10 (.mv (t 138)),
  s 11 (.mv (t 139))])))
 (.seq (.ops [s 140 (.mv (t 8)),
  s 141 (.len false (t 140)),
  s 142 (.mv (t 6)),
  s 143 (.len false (t 142)),
  s 144 (.bin .leq (t 141) (t 143)),
  s 145 (.mv (t 144)),
  sg [(145, true)] 146 (.mv (t 10)),
  sg [(145, true)] 147 (.mv (t 11)),
  kg [(145, true)] 148 15 [(t 146), (t 147)] .ext,
  sg [(145, true)] 149 (.len false (t 148)),
  sg [(145, true)] 150 (.mv (t 10)),
  sg [(145, true)] 151 (.len false (t 150)),
  sg [(145, true)] 152 (.bin .leq (t 149) (t 151)),
  s 153 (.pick (t 145) (t 152) (c (.bool false))),
  s 2 (.mv (t 153))])
 .ret)))))))))))), none, [2], [false]⟩
def i4 : Comp := ⟨(.seq (.ops [s 2 (.mv (c (.bool false)))])
 (.seq (.ops [s 3 (.mv (t 0)),
  s 4 (.len false (t 3)),
  s 5 (.bin .gtr (t 4) (c (i 1048576))),
  s 2 (.mv (t 5))])
 .ret)), none, [2], [false]⟩
def i5 : Comp := ⟨(.seq (.ops [s 2 (.mv (c (.lst 5 true [])))])
 (.seq (.seq (.ops [s 3 (.mv (t 0))])
 (.seq (opD 4 16 [(t 3)] .lin)
 (.ops [s 2 (.mv (t 4))])))
 .ret)), none, [2], [false]⟩
def i6 : Comp := ⟨(.seq (.ops [s 2 (.mv (c (.lst 3 true [])))])
 (.seq (.ops [s 6 (.bsl 3 []),
  s 3 (.mv (t 6))])
 (.seq (.seq (.ops [s 7 (.mv (t 0)),
  k 8 8 [(t 7)] .lin,
  s 9 (.len false (t 8)),
  s 10 (.mv (c (i 0)))])
 (.block 0 (.loop (.seq (.ops [s 11 (.bin .lss (t 10) (t 9))])
 (.seq (.cond (t 11) .skip (.exit 0))
 (.seq (.block 1 (.seq (.ops [s 12 (.idx (t 8) (t 10) 4),
  s 13 (.ldE 8 12 0 4 true true 4),
  s 5 (.alc [(i 0), (i 0), (i 0), (i 0)]),
  s 5 (.stB 5 0 4 (t 13) false)])
 (.ops [s 14 (.mv (t 3)),
  s 15 (.mv (t 0)),
  s 16 (.mv (t 0)),
  s 17 (.mv (c (i 0))),
  s 18 (.ldB 5 0 1 false true),
  k 19 17 [(t 16), (t 18)] .sc,
  s 20 (.idx (t 15) (t 19) 5),
  s 21 (.mv (t 20)),
  s 22 (.ldE 15 21 3 1 false true 5),
  s 23 (.mv (c (i 0))),
  s 24 (.ldB 5 0 1 false true),
  s 25 (.mv (c (i 0))),
  s 26 (.ldB 5 1 2 true true),
  k 27 18 [(t 26)] .sc,
  s 28 (.bld [(.str (bs [])), (i 0), (.str (bs []))] [(0, 1, (t 22)), (1, 1, (t 24)), (2, 1, (t 27))]),
  s 29 (.bsl 3 [(t 28)]),
  s 30 (.app (t 14) (t 29) 3 40),
  s 3 (.mv (t 30))])))
 (.ops [s 31 (.bin .add (t 10) (c (i 1))),
  s 10 (.mv (t 31))])))))))
 (.seq (.seq (.ops [s 32 (.mv (t 3))])
 (.seq (opM 33 19 3 [(c (.fn 20 []))])
 (.ops [])))
 (.seq (.ops [s 34 (.mv (t 3)),
  s 2 (.mv (t 34))])
 .ret))))), none, [2], [false]⟩
def i7 : Comp := ⟨(.seq (.ops [s 2 (.mv (c (.lst 3 true [])))])
 (.seq (.ops [s 8 (.bsl 3 []),
  s 3 (.mv (t 8))])
 (.seq (.ops [s 9 (.mv (t 0)),
  k 10 24 [(t 9)] .lin,
  s 4 (.mv (t 10))])
 (.seq (.seq (.ops [s 5 (.mv (c (i 0)))])
 (.block 0 (.loop (.seq (.seq (.ops [s 11 (.mv (t 5)),
  s 12 (.mv (t 4)),
  s 13 (.len false (t 12)),
  s 14 (.bin .lss (t 11) (t 13))])
 (.cond (t 14) .skip (.exit 0)))
 (.seq (.block 1 (.seq (.ops [s 17 (.mv (t 0)),
  s 18 (.mv (t 0)),
  s 19 (.mv (t 4)),
  s 20 (.mv (t 5)),
  s 21 (.idx (t 19) (t 20) 4),
  s 22 (.mv (t 21)),
  s 23 (.ldE 19 22 0 1 false true 4),
  k 24 25 [(t 18), (t 23)] .sc,
  s 25 (.idx (t 17) (t 24) 5),
  s 26 (.mv (t 25)),
  s 27 (.ldE 17 26 3 1 false true 5),
  s 28 (.mv (t 4)),
  s 29 (.mv (t 5)),
  s 30 (.idx (t 28) (t 29) 4),
  s 31 (.mv (t 30)),
  s 32 (.ldE 28 31 0 1 false true 4),
  s 33 (.mv (t 4)),
  s 34 (.mv (t 5)),
  s 35 (.idx (t 33) (t 34) 4),
  s 36 (.mv (t 35)),
  s 37 (.ldE 33 36 1 2 true true 4),
  k 38 26 [(t 37)] .sc,
  s 39 (.bld [(.str (bs [])), (i 0), (.str (bs []))] [(0, 1, (t 27)), (1, 1, (t 32)), (2, 1, (t 38))]),
  s 6 (.alc [(.str (bs [])), (i 0), (.str (bs []))]),
  s 6 (.stB 6 0 3 (t 39) false)])
 (.seq (.ops [s 40 (.mv (t 3)),
  s 41 (.len false (t 40)),
  s 7 (.mv (t 41))])
 (.seq (.block 2 (.loop (.seq (.seq (.ops [s 42 (.mv (t 7)),
  s 43 (.bin .gtr (t 42) (c (i 0))),
  s 44 (.mv (t 43)),
  sg [(44, true)] 45 (.mv (c (i 0))),
  sg [(44, true)] 46 (.ldB 6 0 1 false true),
  sg [(44, true)] 47 (.mv (t 3)),
  sg [(44, true)] 48 (.mv (t 7)),
  sg [(44, true)] 49 (.bin .sub (t 48) (c (i 1))),
  sg [(44, true)] 50 (.idx (t 47) (t 49) 3),
  sg [(44, true)] 51 (.mv (t 50)),
  sg [(44, true)] 52 (.ldE 47 51 0 1 false true 3),
  sg [(44, true)] 53 (.bin .lss (t 46) (t 52)),
  sg [(44, true)] 54 (.mv (t 53)),
  sg [(54, false), (44, true)] 55 (.mv (c (i 0))),
  sg [(54, false), (44, true)] 56 (.ldB 6 0 1 false true),
  sg [(54, false), (44, true)] 57 (.mv (t 3)),
  sg [(54, false), (44, true)] 58 (.mv (t 7)),
  sg [(54, false), (44, true)] 59 (.bin .sub (t 58) (c (i 1))),
  sg [(54, false), (44, true)] 60 (.idx (t 57) (t 59) 3),
  sg [(54, false), (44, true)] 61 (.mv (t 60)),
  sg [(54, false), (44, true)] 62 (.ldE 57 61 0 1 false true 3),
  sg [(54, false), (44, true)] 63 (.bin .eql (t 56) (t 62)),
  sg [(54, false), (44, true)] 64 (.mv (t 63)),
  sg [(64, true), (54, false), (44, true)] 65 (.mv (c (i 0))),
  sg [(64, true), (54, false), (44, true)] 66 (.ldB 6 1 1 false true),
  sg [(64, true), (54, false), (44, true)] 67 (.mv (t 3)),
  sg [(64, true), (54, false), (44, true)] 68 (.mv (t 7)),
  sg [(64, true), (54, false), (44, true)] 69 (.bin .sub (t 68) (c (i 1))),
  sg [(64, true), (54, false), (44, true)] 70 (.idx (t 67) (t 69) 3),
  sg [(64, true), (54, false), (44, true)] 71 (.mv (t 70)),
  sg [(64, true), (54, false), (44, true)] 72 (.ldE 67 71 1 1 false true 3),
  sg [(64, true), (54, false), (44, true)] 73 (.bin .lss (t 66) (t 72)),
  sg [(54, false), (44, true)] 74 (.pick (t 64) (t 73) (c (.bool false))),
  sg [(44, true)] 75 (.pick (t 54) (c (.bool true)) (t 74)),
  s 76 (.pick (t 44) (t 75) (c (.bool false)))])
 (.cond (t 76) .skip (.exit 2)))
 (.block 3 (.ops [s 77 (.mv (t 7)),
  s 78 (.bin .sub (t 77) (c (i 1))),
  s 7 (.mv (t 78))])))))
 (.ops [s 79 (.bsl 3 []),
  s 80 (.mv (t 3)),
  s 81 (.mv (t 7)),
  s 82 (.sl 3 (t 80) none (some (t 81))),
  s 83 (.apf (t 79) (t 82) 3 40),
  s 84 (.ldB 6 0 3 true true),
  s 85 (.bsl 3 [(t 84)]),
  s 86 (.app (t 83) (t 85) 3 40),
  s 87 (.mv (t 3)),
  s 88 (.mv (t 7)),
  s 89 (.sl 3 (t 87) (some (t 88)) none),
  s 90 (.apf (t 86) (t 89) 3 40),
  s 3 (.mv (t 90))])))))
 (.ops [s 15 (.mv (t 5)),
  s 16 (.bin .add (t 15) (c (i 1))),
  s 5 (.mv (t 16))]))))))
 (.seq (.ops [s 91 (.mv (t 3)),
  s 2 (.mv (t 91))])
 .ret))))), none, [2], [false]⟩
def i8 : Comp := ⟨(.seq (.ops [s 2 (.mv (c (.lst 4 true [])))])
 (.seq (.ops [s 7 (.bsl 4 []),
  s 3 (.mv (t 7))])
 (.seq (.seq (.ops [s 8 (.mv (t 0)),
  k 9 27 [(t 8)] .sc,
  s 10 (.not (t 9))])
 (.cond (t 10) (.seq (.ops [s 11 (.mv (t 3)),
  s 2 (.mv (t 11))])
 .ret) .skip))
 (.seq (.seq (.ops [s 12 (.mv (t 0)),
  s 13 (.len false (t 12)),
  s 14 (.mv (c (i 0)))])
 (.block 0 (.loop (.seq (.ops [s 15 (.bin .lss (t 14) (t 13))])
 (.seq (.cond (t 15) .skip (.exit 0))
 (.seq (.block 1 (.seq (.ops [s 16 (.idx (t 12) (t 14) 5),
  s 17 (.ldE 12 16 0 5 true false 5),
  s 5 (.alc [(i 0), (i 0), (i 0), (.str (bs [])), (.lst 2 true [])]),
  s 5 (.stB 5 0 5 (t 17) false)])
 (.seq (.seq (.ops [s 18 (.mv (c (i 0))),
  s 19 (.ldB 5 3 1 false true),
  s 20 (.bin .eql (t 19) (c (.str (bs []))))])
 (.cond (t 20) (.exit 1) .skip))
 (.seq (.ops [s 21 (.mv (c (i 0))),
  s 22 (.ldB 5 0 1 false true),
  s 23 (.mv (c (i 0))),
  s 24 (.ldB 5 2 1 false true),
  s 25 (.bld [(i 0), (i 0), (i 0), (i 0)] [(0, 1, (t 22)), (3, 1, (t 24))]),
  s 6 (.alc [(i 0), (i 0), (i 0), (i 0)]),
  s 6 (.stB 6 0 4 (t 25) false)])
 (.seq (.seq (.ops [s 26 (.mv (c (i 0))),
  s 27 (.ldB 5 1 1 false true)])
 (.block 2 (.seq (.ops [s 29 (.bin .eql (t 27) (c (i 1))),
  s 28 (.mv (t 29))])
 (.cond (t 28) (.ops [s 30 (.mv (c (i 0))),
  s 31 (.ldB 5 4 1 false false),
  s 32 (.idx (t 31) (c (i 0)) 2),
  s 33 (.ldE 31 32 0 2 true true 2),
  s 34 (.mv (c (i 0))),
  s 6 (.stB 6 1 2 (t 33) false)]) (.seq (.ops [s 36 (.bin .eql (t 27) (c (i 2))),
  s 35 (.mv (t 36))])
 (.cond (t 35) (.ops [s 37 (.mv (c (i 0))),
  s 38 (.ldB 5 4 1 false false),
  s 39 (.mv (c (i 0))),
  s 40 (.ldB 5 4 1 false false),
  s 41 (.len false (t 40)),
  s 42 (.bin .quo (t 41) (c (i 2))),
  s 43 (.idx (t 38) (t 42) 2),
  s 44 (.ldE 38 43 0 2 true true 2),
  s 45 (.mv (c (i 0))),
  s 6 (.stB 6 1 2 (t 44) false)]) (.seq (.ops [s 47 (.bin .eql (t 27) (c (i 3))),
  s 46 (.mv (t 47))])
 (.cond (t 46) (.ops [s 49 (.mv (c (i 0))),
  s 50 (.ldB 5 4 1 false false),
  k 51 28 [(t 50)] .sc,
  s 48 (.mv (t 51)),
  s 52 (.ext 48 0 true),
  s 53 (.ext 48 1 true),
  s 54 (.mv (c (i 0))),
  s 6 (.stB 6 1 2 (t 52) false)]) .skip))))))))
 (.ops [s 55 (.mv (t 3)),
  s 56 (.ldB 6 0 4 true true),
  s 57 (.bsl 4 [(t 56)]),
  s 58 (.app (t 55) (t 57) 4 32),
  s 3 (.mv (t 58))]))))))
 (.ops [s 59 (.bin .add (t 14) (c (i 1))),
  s 14 (.mv (t 59))])))))))
 (.seq (.ops [s 60 (.mv (t 3)),
  s 2 (.mv (t 60))])
 .ret))))), none, [2], [false]⟩
def i9 : Comp := ⟨(.seq (.ops [s 2 (.mv (c (i 0)))])
 (.seq (.ops [s 6 (.bsl 1 []),
  s 3 (.mv (t 6))])
 (.seq (.seq (.ops [s 7 (.mv (t 0)),
  s 8 (.len false (t 7)),
  s 9 (.mv (c (i 0)))])
 (.block 0 (.loop (.seq (.ops [s 10 (.bin .lss (t 9) (t 8))])
 (.seq (.cond (t 10) .skip (.exit 0))
 (.seq (.block 1 (.seq (.ops [s 11 (.idx (t 7) (t 9) 3),
  s 12 (.ldE 7 11 0 3 true true 3),
  s 5 (.alc [(.str (bs [])), (i 0), (.str (bs []))]),
  s 5 (.stB 5 0 3 (t 12) false)])
 (.ops [s 13 (.mv (t 3)),
  s 14 (.mv (c (i 0))),
  s 15 (.ldB 5 0 1 false true),
  s 16 (.bsl 1 [(t 15)]),
  s 17 (.app (t 13) (t 16) 1 16),
  s 3 (.mv (t 17))])))
 (.ops [s 18 (.bin .add (t 9) (c (i 1))),
  s 9 (.mv (t 18))])))))))
 (.seq (.seq (.ops [s 19 (.mv (t 3))])
 (.seq (opM 20 29 3 [])
 (.ops [])))
 (.seq (.seq (.ops [s 21 (.mv (t 3))])
 (.seq (opXL 22 30 [(t 21)])
 (.ops [s 23 (.len false (t 22)),
  s 2 (.mv (t 23))])))
 .ret))))), none, [2], [false]⟩
def i10 : Comp := ⟨(.seq (.ops [s 4 (.mv (c (.bool false)))])
 (.seq (.seq (.ops [s 5 (.mv (c (i 0)))])
 (.block 0 (.loop (.seq (.seq (.ops [s 6 (.mv (t 5)),
  s 7 (.mv (t 0)),
  s 8 (.len false (t 7)),
  s 9 (.bin .lss (t 6) (t 8))])
 (.cond (t 9) .skip (.exit 0)))
 (.seq (.block 1 (.seq (.ops [s 12 (.mv (t 0)),
  s 13 (.mv (t 5)),
  s 14 (.idx (t 12) (t 13) 1),
  s 15 (.ldE 12 14 0 1 false true 1),
  s 16 (.mv (t 1)),
  s 17 (.bin .eql (t 15) (t 16))])
 (.cond (t 17) (.seq (.ops [s 4 (.mv (c (.bool true)))])
 .ret) .skip)))
 (.ops [s 10 (.mv (t 5)),
  s 11 (.bin .add (t 10) (c (i 1))),
  s 5 (.mv (t 11))]))))))
 (.seq (.ops [s 4 (.mv (c (.bool false)))])
 .ret))), none, [4], [false, true]⟩
def i11 : Comp := ⟨(.seq (.ops [s 4 (.mv (c (.lst 1 true [])))])
 (.seq (.ops [s 8 (.bsl 1 []),
  s 5 (.mv (t 8))])
 (.seq (.seq (.ops [s 9 (.mv (t 0)),
  s 10 (.len false (t 9)),
  s 11 (.mv (c (i 0)))])
 (.block 0 (.loop (.seq (.ops [s 12 (.bin .lss (t 11) (t 10))])
 (.seq (.cond (t 12) .skip (.exit 0))
 (.seq (.block 1 (.seq (.ops [s 13 (.idx (t 9) (t 11) 3),
  s 14 (.ldE 9 13 0 3 true true 3),
  s 7 (.alc [(.str (bs [])), (i 0), (.str (bs []))]),
  s 7 (.stB 7 0 3 (t 14) false)])
 (.seq (.ops [s 15 (.mv (c (i 0))),
  s 16 (.ldB 7 0 1 false true),
  s 17 (.mv (t 1)),
  s 18 (.bin .eql (t 16) (t 17))])
 (.cond (t 18) (.ops [s 19 (.mv (t 5)),
  s 20 (.mv (c (i 0))),
  s 21 (.ldB 7 1 1 false true),
  s 22 (.bsl 1 [(t 21)]),
  s 23 (.app (t 19) (t 22) 1 8),
  s 5 (.mv (t 23))]) .skip))))
 (.ops [s 24 (.bin .add (t 11) (c (i 1))),
  s 11 (.mv (t 24))])))))))
 (.seq (.ops [s 25 (.mv (t 5)),
  s 4 (.mv (t 25))])
 .ret)))), none, [4], [false, true]⟩
def i12 : Comp := ⟨(.seq (.ops [s 2 (.mv (c (.lst 3 true []))),
  s 3 (.mv (c (.str (bs []))))])
 (.seq (.seq (.ops [s 6 (.mv (t 0))])
 (.seq (opQ 7 31 [(t 6)])
 (.seq (.ops [])
 (.seq (opV 4 7)
 (.ops [])))))
 (.seq (.seq (.ops [s 8 (.mv (c .junk))])
 (.seq (opC 9 32 4 [] .lin)
 (.ops [s 5 (.mv (t 9))])))
 (.seq (.seq (.ops [s 10 (.mv (t 5)),
  s 11 (.mv (c .junk)),
  s 12 (.bsl 1 [(c (.str (bs []))), (c (.str (bs [102]))), (c (.str (bs [104, 105]))), (c (.str (bs [111, 97, 107]))), (c (.str (bs [111, 97, 107, 115]))), (c (.str (bs [109])))])])
 (.seq (opC 13 33 4 [(t 12)] .sc)
 (.ops [s 2 (.mv (t 10)),
  s 3 (.mv (t 13))])))
 .ret)))), none, [2, 3], [false]⟩
def i13 : Comp := ⟨(.seq (.ops [s 4 (.mv (c (.lst 3 true [])))])
 (.seq (.ops [s 8 (.bsl 3 []),
  s 5 (.mv (t 8))])
 (.seq (.seq (.ops [s 9 (.mv (t 0)),
  s 10 (.len false (t 9)),
  s 11 (.mv (c (i 0)))])
 (.block 0 (.loop (.seq (.ops [s 12 (.bin .lss (t 11) (t 10))])
 (.seq (.cond (t 12) .skip (.exit 0))
 (.seq (.block 1 (.seq (.ops [s 13 (.idx (t 9) (t 11) 3),
  s 14 (.ldE 9 13 0 3 true true 3),
  s 7 (.alc [(.str (bs [])), (i 0), (.str (bs []))]),
  s 7 (.stB 7 0 3 (t 14) false)])
 (.seq (.ops [s 15 (.mv (c (i 0))),
  s 16 (.ldB 7 0 1 false true),
  s 17 (.mv (t 1)),
  k 18 34 [(t 16), (t 17)] .sc])
 (.cond (t 18) (.ops [s 19 (.mv (t 5)),
  s 20 (.ldB 7 0 3 true true),
  s 21 (.bsl 3 [(t 20)]),
  s 22 (.app (t 19) (t 21) 3 40),
  s 5 (.mv (t 22))]) .skip))))
 (.ops [s 23 (.bin .add (t 11) (c (i 1))),
  s 11 (.mv (t 23))])))))))
 (.seq (.ops [s 24 (.mv (t 5)),
  s 4 (.mv (t 24))])
 .ret)))), none, [4], [false, true]⟩
def i14 : Comp := ⟨(.seq (.ops [s 2 (.mv (c (.lst 3 true []))),
  s 3 (.mv (c (.str (bs []))))])
 (.seq (.seq (.ops [s 6 (.mv (t 0))])
 (.seq (opQ 7 31 [(t 6)])
 (.seq (.ops [])
 (.seq (opV 4 7)
 (.ops [])))))
 (.seq (.seq (.ops [s 8 (.mv (c .junk))])
 (.seq (opC 9 32 4 [] .lin)
 (.ops [s 5 (.mv (t 9))])))
 (.seq (.seq (.ops [s 10 (.mv (t 5)),
  s 11 (.mv (c .junk)),
  s 12 (.bsl 1 [(c (.str (bs [97, 48]))), (c (.str (bs [98, 48]))), (c (.str (bs [97, 49]))), (c (.str (bs [98, 49]))), (c (.str (bs []))), (c (.str (bs [122, 57])))])])
 (.seq (opC 13 33 4 [(t 12)] .sc)
 (.ops [s 2 (.mv (t 10)),
  s 3 (.mv (t 13))])))
 .ret)))), none, [2, 3], [false]⟩
def i15 : Comp := ⟨(.seq (.ops [s 4 (.mv (c (.lst 1 true [])))])
 (.seq (.ops [s 8 (.bsl 1 []),
  s 5 (.mv (t 8))])
 (.seq (.seq (.ops [s 9 (.mv (t 0)),
  s 10 (.len false (t 9)),
  s 11 (.mv (c (i 0)))])
 (.block 0 (.loop (.seq (.ops [s 12 (.bin .lss (t 11) (t 10))])
 (.seq (.cond (t 12) .skip (.exit 0))
 (.seq (.block 1 (.seq (.ops [s 13 (.idx (t 9) (t 11) 3),
  s 14 (.ldE 9 13 0 3 true true 3),
  s 7 (.alc [(.str (bs [])), (i 0), (.str (bs []))]),
  s 7 (.stB 7 0 3 (t 14) false)])
 (.seq (.ops [s 15 (.mv (c (i 0))),
  s 16 (.ldB 7 2 1 false true),
  s 17 (.mv (t 1)),
  s 18 (.bin .eql (t 16) (t 17))])
 (.cond (t 18) (.ops [s 19 (.mv (t 5)),
  s 20 (.mv (c (i 0))),
  s 21 (.ldB 7 0 1 false true),
  s 22 (.bsl 1 [(t 21)]),
  s 23 (.app (t 19) (t 22) 1 16),
  s 5 (.mv (t 23))]) .skip))))
 (.ops [s 24 (.bin .add (t 11) (c (i 1))),
  s 11 (.mv (t 24))])))))))
 (.seq (.ops [s 25 (.mv (t 5)),
  s 4 (.mv (t 25))])
 .ret)))), none, [4], [false, true]⟩
def i16 : Comp := ⟨(.seq (.ops [s 2 (.mv (c (.lst 5 true [])))])
 (.seq (.seq (.ops [s 4 (.mv (t 0))])
 (.seq (opQ 5 31 [(t 4)])
 (.seq (.ops [])
 (.seq (opV 3 5)
 (.ops [])))))
 (.seq (.seq (.ops [s 6 (.mv (c .junk))])
 (.seq (opC 7 35 3 [] .lin)
 (.ops [s 2 (.mv (t 7))])))
 .ret))), none, [2], [false]⟩
def i17 : Comp := ⟨(.seq (.ops [s 3 (.box 1 (t 1)),
  s 4 (.mv (c (i 0)))])
 (.seq (.ops [s 5 (.mv (t 0)),
  s 6 (.mkf 37 [(t 3)]),
  k 7 36 [(t 5), (t 6)] .sc,
  s 4 (.mv (t 7))])
 .ret)), none, [4], [false, true]⟩
def i18 : Comp := ⟨(.seq (.ops [s 1 (.box 2 (t 0)),
  s 2 (.mv (c (.str (bs []))))])
 (.seq (.ops [s 3 (.ldB 1 0 2 true true),
  k 4 39 [(t 3)] .sc,
  k 5 38 [(t 4)] .sc,
  s 2 (.mv (t 5))])
 .ret)), none, [2], [true]⟩
def i20 : Comp := ⟨(.seq (.ops [s 2 (.box 3 (t 0)),
  s 3 (.box 3 (t 1)),
  s 4 (.mv (c (i 0)))])
 (.seq (.ops [s 5 (.mv (c (i 0))),
  s 6 (.ldB 2 0 1 false true),
  s 7 (.mv (c (i 0))),
  s 8 (.ldB 3 0 1 false true),
  k 9 22 [(t 6), (t 8)] .sc,
  s 10 (.mv (c (i 0))),
  s 11 (.ldB 2 1 1 false true),
  s 12 (.mv (c (i 0))),
  s 13 (.ldB 3 1 1 false true),
  k 14 23 [(t 11), (t 13)] .sc,
  s 15 (.bsl 1 [(t 9), (t 14)]),
  k 16 21 [(t 15)] .sc,
  s 4 (.mv (t 16))])
 .ret)), none, [4], [true, true]⟩
def i21 : Comp := ⟨(.seq (.ops [s 2 (.mv (c (i 0)))])
 (.seq (.ops [s 3 (.mv (c (i 0)))])
 (.seq (.seq (.ops [s 6 (.mv (t 0)),
  s 7 (.len false (t 6)),
  s 8 (.mv (c (i 0)))])
 (.block 0 (.loop (.seq (.ops [s 9 (.bin .lss (t 8) (t 7))])
 (.seq (.cond (t 9) .skip (.exit 0))
 (.seq (.block 1 (.seq (.ops [s 10 (.idx (t 6) (t 8) 1),
  s 11 (.ldE 6 10 0 1 false true 1),
  s 5 (.mv (t 11))])
 (.seq (.ops [s 12 (.mv (t 5)),
  s 13 (.mv (t 3)),
  s 14 (.bin .neq (t 12) (t 13))])
 (.cond (t 14) (.seq (.ops [s 15 (.mv (t 5)),
  s 2 (.mv (t 15))])
 .ret) .skip))))
 (.ops [s 16 (.bin .add (t 8) (c (i 1))),
  s 8 (.mv (t 16))])))))))
 (.seq (.ops [s 17 (.mv (t 3)),
  s 2 (.mv (t 17))])
 .ret)))), none, [2], [false]⟩
def i22 : Comp := ⟨(.seq (.ops [s 4 (.mv (c (i 0)))])
 (.seq (.ops [s 7 (.mv (t 0)),
  k 8 42 [(t 7)] .sc,
  s 5 (.mv (t 8))])
 (.seq (.ops [s 9 (.mv (t 1)),
  k 10 42 [(t 9)] .sc,
  s 6 (.mv (t 10))])
 (.seq (.seq (.ops [s 11 (.mv (t 5))])
 (.cond (t 11) (.seq (.seq (.ops [s 12 (.mv (t 6))])
 (.cond (t 12) (.seq (.ops [s 4 (.mv (c (i 0)))])
 .ret) .skip))
 (.seq (.ops [s 4 (.mv (c (i (-1))))])
 .ret)) .skip))
 (.seq (.seq (.ops [s 13 (.mv (t 6))])
 (.cond (t 13) (.seq (.ops [s 4 (.mv (c (i 1)))])
 .ret) .skip))
 (.seq (.seq (.ops [s 14 (.mv (t 0)),
  s 15 (.mv (t 1)),
  s 16 (.bin .lss (t 14) (t 15))])
 (.cond (t 16) (.seq (.ops [s 4 (.mv (c (i (-1))))])
 .ret) .skip))
 (.seq (.seq (.ops [s 17 (.mv (t 0)),
  s 18 (.mv (t 1)),
  s 19 (.bin .gtr (t 17) (t 18))])
 (.cond (t 19) (.seq (.ops [s 4 (.mv (c (i 1)))])
 .ret) .skip))
 (.seq (.ops [s 4 (.mv (c (i 0)))])
 .ret)))))))), none, [4], [true, true]⟩
def i23 : Comp := ⟨(.seq (.ops [s 4 (.mv (c (i 0)))])
 (.seq (.ops [s 7 (.mv (t 0)),
  k 8 43 [(t 7)] .sc,
  s 5 (.mv (t 8))])
 (.seq (.ops [s 9 (.mv (t 1)),
  k 10 43 [(t 9)] .sc,
  s 6 (.mv (t 10))])
 (.seq (.seq (.ops [s 11 (.mv (t 5))])
 (.cond (t 11) (.seq (.seq (.ops [s 12 (.mv (t 6))])
 (.cond (t 12) (.seq (.ops [s 4 (.mv (c (i 0)))])
 .ret) .skip))
 (.seq (.ops [s 4 (.mv (c (i (-1))))])
 .ret)) .skip))
 (.seq (.seq (.ops [s 13 (.mv (t 6))])
 (.cond (t 13) (.seq (.ops [s 4 (.mv (c (i 1)))])
 .ret) .skip))
 (.seq (.seq (.ops [s 14 (.mv (t 0)),
  s 15 (.mv (t 1)),
  s 16 (.bin .lss (t 14) (t 15))])
 (.cond (t 16) (.seq (.ops [s 4 (.mv (c (i (-1))))])
 .ret) .skip))
 (.seq (.seq (.ops [s 17 (.mv (t 0)),
  s 18 (.mv (t 1)),
  s 19 (.bin .gtr (t 17) (t 18))])
 (.cond (t 19) (.seq (.ops [s 4 (.mv (c (i 1)))])
 .ret) .skip))
 (.seq (.ops [s 4 (.mv (c (i 0)))])
 .ret)))))))), none, [4], [true, true]⟩
def i24 : Comp := ⟨(.seq (.ops [s 2 (.mv (c (.lst 4 true [])))])
 (.seq (.ops [s 7 (.bsl 4 []),
  s 3 (.mv (t 7))])
 (.seq (.seq (.ops [s 4 (.mv (c (i 0)))])
 (.block 0 (.loop (.seq (.seq (.ops [s 8 (.mv (t 4)),
  s 9 (.mv (t 0)),
  s 10 (.len false (t 9)),
  s 11 (.bin .lss (t 8) (t 10)),
  s 12 (.mv (t 11)),
  sg [(12, true)] 13 (.mv (t 0)),
  kg [(12, true)] 14 44 [(t 13)] .sc,
  s 15 (.pick (t 12) (t 14) (c (.bool false)))])
 (.cond (t 15) .skip (.exit 0)))
 (.seq (.block 1 (.seq (.ops [s 18 (.mv (t 0)),
  s 19 (.mv (t 4)),
  s 20 (.idx (t 18) (t 19) 5),
  s 21 (.ldE 18 20 0 5 true false 5),
  s 5 (.alc [(i 0), (i 0), (i 0), (.str (bs [])), (.lst 2 true [])]),
  s 5 (.stB 5 0 5 (t 21) false)])
 (.seq (.seq (.ops [s 22 (.mv (c (i 0))),
  s 23 (.ldB 5 3 1 false true),
  s 24 (.bin .eql (t 23) (c (.str (bs []))))])
 (.cond (t 24) (.exit 1) .skip))
 (.seq (.ops [s 25 (.mv (c (i 0))),
  s 26 (.ldB 5 4 1 false false),
  s 27 (.mv (c (i 0))),
  s 28 (.ldB 5 4 1 false false),
  s 29 (.len false (t 28)),
  s 30 (.bin .quo (t 29) (c (i 2))),
  s 31 (.idx (t 26) (t 30) 2),
  s 32 (.ldE 26 31 0 2 true true 2),
  s 6 (.alc [(i 0), (i 0)]),
  s 6 (.stB 6 0 2 (t 32) false)])
 (.seq (.seq (.ops [s 33 (.mv (c (i 0))),
  s 34 (.ldB 5 1 1 false true),
  s 35 (.bin .eql (t 34) (c (i 3)))])
 (.cond (t 35) (.ops [s 37 (.mv (c (i 0))),
  s 38 (.ldB 5 4 1 false false),
  k 39 45 [(t 38)] .sc,
  s 36 (.mv (t 39)),
  s 40 (.ext 36 0 true),
  s 41 (.ext 36 1 true),
  s 6 (.stB 6 0 2 (t 40) false)]) .skip))
 (.ops [s 42 (.mv (t 3)),
  s 43 (.mv (c (i 0))),
  s 44 (.ldB 5 0 1 false true),
  s 45 (.ldB 6 0 2 true true),
  s 46 (.mv (c (i 0))),
  s 47 (.ldB 5 2 1 false true),
  s 48 (.bld [(i 0), (i 0), (i 0), (i 0)] [(0, 1, (t 44)), (1, 2, (t 45)), (3, 1, (t 47))]),
  s 49 (.bsl 4 [(t 48)]),
  s 50 (.app (t 42) (t 49) 4 32),
  s 3 (.mv (t 50))]))))))
 (.ops [s 16 (.mv (t 4)),
  s 17 (.bin .add (t 16) (c (i 1))),
  s 4 (.mv (t 17))]))))))
 (.seq (.ops [s 51 (.mv (t 3)),
  s 2 (.mv (t 51))])
 .ret)))), none, [2], [false]⟩
def i25 : Comp := ⟨(.seq (.ops [s 4 (.mv (c (i 0)))])
 (.seq (.seq (.ops [s 5 (.mv (c (i 0)))])
 (.block 0 (.loop (.seq (.seq (.ops [s 6 (.mv (t 5)),
  s 7 (.mv (t 0)),
  s 8 (.len false (t 7)),
  s 9 (.bin .lss (t 6) (t 8))])
 (.cond (t 9) .skip (.exit 0)))
 (.seq (.block 1 (.seq (.ops [s 12 (.mv (t 0)),
  s 13 (.mv (t 5)),
  s 14 (.idx (t 12) (t 13) 5),
  s 15 (.mv (t 14)),
  s 16 (.ldE 12 15 0 1 false true 5),
  s 17 (.mv (t 1)),
  s 18 (.bin .eql (t 16) (t 17))])
 (.cond (t 18) (.seq (.ops [s 19 (.mv (t 5)),
  s 4 (.mv (t 19))])
 .ret) .skip)))
 (.ops [s 10 (.mv (t 5)),
  s 11 (.bin .add (t 10) (c (i 1))),
  s 5 (.mv (t 11))]))))))
 (.seq (.ops [s 4 (.mv (c (i (-1))))])
 .ret))), none, [4], [false, true]⟩
def i26 : Comp := ⟨(.seq (.ops [s 1 (.box 2 (t 0)),
  s 2 (.mv (c (.str (bs []))))])
 (.seq (.ops [s 3 (.ldB 1 0 2 true true),
  k 4 47 [(t 3)] .sc,
  k 5 46 [(t 4)] .sc,
  s 2 (.mv (t 5))])
 .ret)), none, [2], [true]⟩
def i27 : Comp := ⟨(.seq (.ops [s 2 (.mv (c (.bool false)))])
 (.seq (.seq (.ops [s 5 (.mv (t 0)),
  s 6 (.len false (t 5)),
  s 7 (.bin .gtr (t 6) (c (i 16)))])
 (.cond (t 7) (.seq (.ops [s 2 (.mv (c (.bool false)))])
 .ret) .skip))
 (.seq (.seq (.ops [s 8 (.mv (t 0)),
  s 9 (.len false (t 8)),
  s 10 (.mv (c (i 0)))])
 (.block 0 (.loop (.seq (.ops [s 11 (.bin .lss (t 10) (t 9))])
 (.seq (.cond (t 11) .skip (.exit 0))
 (.seq (.block 1 (.seq (.ops [s 12 (.mv (t 10)),
  s 13 (.idx (t 8) (t 10) 5),
  s 14 (.ldE 8 13 0 5 true false 5),
  s 4 (.alc [(i 0), (i 0), (i 0), (.str (bs [])), (.lst 2 true [])]),
  s 3 (.mv (t 12)),
  s 4 (.stB 4 0 5 (t 14) false)])
 (.seq (.ops [s 15 (.ldB 4 0 5 true false),
  k 16 48 [(t 15)] .sc,
  s 17 (.not (t 16)),
  s 18 (.mv (t 17)),
  sg [(18, false)] 19 (.mv (t 3)),
  sg [(18, false)] 20 (.bin .gtr (t 19) (c (i 0))),
  sg [(18, false)] 21 (.mv (t 20)),
  sg [(21, true), (18, false)] 22 (.mv (c (i 0))),
  sg [(21, true), (18, false)] 23 (.ldB 4 0 1 false true),
  sg [(21, true), (18, false)] 24 (.mv (t 0)),
  sg [(21, true), (18, false)] 25 (.mv (t 3)),
  sg [(21, true), (18, false)] 26 (.bin .sub (t 25) (c (i 1))),
  sg [(21, true), (18, false)] 27 (.idx (t 24) (t 26) 5),
  sg [(21, true), (18, false)] 28 (.mv (t 27)),
  sg [(21, true), (18, false)] 29 (.ldE 24 28 0 1 false true 5),
  sg [(21, true), (18, false)] 30 (.bin .leq (t 23) (t 29)),
  sg [(18, false)] 31 (.pick (t 21) (t 30) (c (.bool false))),
  s 32 (.pick (t 18) (c (.bool true)) (t 31))])
 (.cond (t 32) (.seq (.ops [s 2 (.mv (c (.bool false)))])
 .ret) .skip))))
 (.ops [s 33 (.bin .add (t 10) (c (i 1))),
  s 10 (.mv (t 33))])))))))
 (.seq (.ops [s 2 (.mv (c (.bool true)))])
 .ret)))), none, [2], [false]⟩
def i28 : Comp := ⟨(.seq (.ops [s 2 (.alc [(i 0), (i 0)]),
  s 3 (.mv (c (.bool false)))])
 (.seq (.seq (.ops [s 7 (.mv (t 0)),
  k 8 49 [(t 7)] .sc,
  s 9 (.not (t 8))])
 (.cond (t 9) (.seq (.ops [s 10 (.bld [(i 0), (i 0)] []),
  s 2 (.stB 2 0 2 (t 10) false),
  s 3 (.mv (c (.bool false)))])
 .ret) .skip))
 (.seq (.ops [s 11 (.bld [(i 0), (i 0)] []),
  s 4 (.alc [(i 0), (i 0)]),
  s 4 (.stB 4 0 2 (t 11) false)])
 (.seq (.seq (.ops [s 12 (.mv (t 0)),
  s 13 (.len false (t 12)),
  s 14 (.mv (c (i 0)))])
 (.block 0 (.loop (.seq (.ops [s 15 (.bin .lss (t 14) (t 13))])
 (.seq (.cond (t 15) .skip (.exit 0))
 (.seq (.block 1 (.seq (.ops [s 16 (.idx (t 12) (t 14) 2),
  s 17 (.ldE 12 16 0 2 true true 2),
  s 6 (.alc [(i 0), (i 0)]),
  s 6 (.stB 6 0 2 (t 17) false)])
 (.seq (.ops [s 18 (.mv (c (i 0))),
  s 19 (.ldB 4 0 1 false true),
  s 20 (.mv (c (i 0))),
  s 21 (.ldB 6 0 1 false true),
  s 22 (.bin .add (t 19) (t 21)),
  s 23 (.mv (c (i 0))),
  s 4 (.stB 4 0 1 (t 22) false)])
 (.ops [s 24 (.mv (c (i 0))),
  s 25 (.ldB 4 1 1 false true),
  s 26 (.mv (c (i 0))),
  s 27 (.ldB 6 1 1 false true),
  s 28 (.bin .add (t 25) (t 27)),
  s 29 (.mv (c (i 0))),
  s 4 (.stB 4 1 1 (t 28) false)]))))
 (.ops [s 30 (.bin .add (t 14) (c (i 1))),
  s 14 (.mv (t 30))])))))))
 (.seq (.ops [s 31 (.mv (c (i 0))),
  s 32 (.ldB 4 0 1 false true),
  s 33 (.mv (t 0)),
  s 34 (.len false (t 33)),
  s 35 (.bin .quo (t 32) (t 34)),
  s 36 (.mv (c (i 0))),
  s 37 (.ldB 4 1 1 false true),
  s 38 (.mv (t 0)),
  s 39 (.len false (t 38)),
  s 40 (.bin .quo (t 37) (t 39)),
  s 41 (.bld [(i 0), (i 0)] [(0, 1, (t 35)), (1, 1, (t 40))]),
  s 2 (.stB 2 0 2 (t 41) false),
  s 3 (.mv (c (.bool true)))])
 .ret))))), (some ⟨2, 42, 2, true⟩), [3], [false]⟩
def i32 : Comp := ⟨(.seq (.ops [s 2 (.mv (c (.lst 3 true [])))])
 (.seq (.seq (.ops [s 3 (.mv (c .junk))])
 (.seq (opC 4 51 0 [] .lin)
 (.ops [k 5 7 [(t 4)] .lin,
  s 2 (.mv (t 5))])))
 .ret)), none, [2], []⟩
def i34 : Comp := ⟨(.seq (.ops [s 4 (.mv (c (.bool false)))])
 (.seq (.ops [s 5 (.mv (t 0)),
  s 6 (.mv (t 1)),
  k 7 53 [(t 5), (t 6)] .sc,
  s 4 (.mv (t 7))])
 .ret)), none, [4], [true, true]⟩
def i35 : Comp := ⟨(.seq (.ops [s 2 (.mv (c (.lst 5 true [])))])
 (.seq (.seq (.ops [s 5 (.mv (c .junk))])
 (.seq (opC 6 51 0 [] .lin)
 (.ops [s 3 (.mv (t 6))])))
 (.seq (.seq (.ops [s 7 (.mv (t 3)),
  s 8 (.len false (t 7)),
  s 9 (.bin .eql (t 8) (c (i 0)))])
 (.cond (t 9) (.seq (.ops [s 10 (.mv (t 3)),
  s 2 (.mv (t 10))])
 .ret) .skip))
 (.seq (.seq (.ops [s 11 (.mv (c .junk)),
  s 12 (.mv (t 3)),
  s 13 (.len false (t 12))])
 (.seq (opC 14 52 0 [(t 13)] .sc)
 (.ops [s 4 (.mv (t 14))])))
 (.seq (.seq (.seq (.ops [s 15 (.mv (c .junk))])
 (.seq (opC 16 52 0 [(c (i 10))] .sc)
 (.ops [])))
 (.block 0 (.seq (.ops [s 18 (.bin .eql (t 16) (c (i 0))),
  s 17 (.mv (t 18))])
 (.cond (t 17) (.seq (.ops [s 19 (.mv (t 3)),
  s 20 (.mv (t 4)),
  s 21 (.mv (c .junk)),
  s 22 (.bsl 1 [(c (i 0)), (c (i 1)), (c (i 99)), (c (i 100))])])
 (.seq (opC 23 54 0 [(t 22)] .sc)
 (.seq (.ops [s 24 (.idx (t 19) (t 20) 5),
  s 25 (.mv (t 24))])
 (.seq (opW 3 25 0 1 5 (t 23))
 (.ops []))))) (.seq (.ops [s 27 (.bin .eql (t 16) (c (i 1))),
  s 26 (.mv (t 27))])
 (.cond (t 26) (.seq (.ops [s 28 (.mv (t 3)),
  s 29 (.mv (t 4)),
  s 30 (.mv (c .junk)),
  s 31 (.bsl 1 [(c (i (-1))), (c (i 9)), (c (i 10))])])
 (.seq (opC 32 54 0 [(t 31)] .sc)
 (.seq (.ops [s 33 (.idx (t 28) (t 29) 5),
  s 34 (.mv (t 33))])
 (.seq (opW 3 34 2 1 5 (t 32))
 (.ops []))))) (.seq (.ops [s 36 (.bin .eql (t 16) (c (i 2))),
  s 35 (.mv (t 36))])
 (.cond (t 35) (.seq (.ops [s 37 (.mv (t 3)),
  s 38 (.mv (t 4)),
  s 39 (.mv (c .junk)),
  s 40 (.bsl 1 [(c (.str (bs [65]))), (c (.str (bs [116, 111, 111, 108, 111, 110, 103, 97, 97]))), (c (.str (bs [97, 32, 98])))])])
 (.seq (opC 41 33 0 [(t 40)] .sc)
 (.seq (.ops [s 42 (.idx (t 37) (t 38) 5),
  s 43 (.mv (t 42))])
 (.seq (opW 3 43 3 1 5 (t 41))
 (.ops []))))) (.seq (.ops [s 45 (.bin .eql (t 16) (c (i 3))),
  s 44 (.mv (t 45))])
 (.cond (t 44) (.seq (.ops [s 46 (.mv (t 3)),
  s 47 (.mv (t 4)),
  s 48 (.mv (c .junk)),
  s 49 (.bsl 1 [(c (i 0)), (c (i 1)), (c (i 2)), (c (i 3)), (c (i 4))])])
 (.seq (opC 50 54 0 [(t 49)] .sc)
 (.seq (.ops [s 51 (.idx (t 46) (t 47) 5),
  s 52 (.mv (t 51))])
 (.seq (opW 3 52 1 1 5 (t 50))
 (.ops []))))) (.seq (.ops [s 54 (.bin .eql (t 16) (c (i 4))),
  s 53 (.mv (t 54))])
 (.cond (t 53) (.seq (.ops [s 55 (.mv (t 3)),
  s 56 (.mv (t 4)),
  s 57 (.mv (c .junk))])
 (.seq (opC 58 55 0 [] .lin)
 (.seq (.ops [s 59 (.idx (t 55) (t 56) 5),
  s 60 (.mv (t 59))])
 (.seq (opW 3 60 4 1 5 (t 58))
 (.ops []))))) .skip))))))))))))
 (.seq (.ops [s 61 (.mv (t 3)),
  s 2 (.mv (t 61))])
 .ret)))))), none, [2], []⟩
def i36 : Comp := ⟨(.seq (.ops [s 4 (.mv (c (i 0)))])
 (.seq (.seq (.ops [s 6 (.mv (t 0)),
  s 7 (.len false (t 6)),
  s 8 (.mv (c (i 0)))])
 (.block 0 (.loop (.seq (.ops [s 9 (.bin .lss (t 8) (t 7))])
 (.seq (.cond (t 9) .skip (.exit 0))
 (.seq (.block 1 (.seq (.ops [s 10 (.mv (t 8)),
  s 5 (.mv (t 10))])
 (.seq (.ops [s 11 (.mv (t 1)),
  s 12 (.mv (t 0)),
  s 13 (.mv (t 5)),
  s 14 (.idx (t 12) (t 13) 5),
  s 15 (.ldE 12 14 0 5 true false 5),
  v 16 (t 11) [(t 15)]])
 (.cond (t 16) (.seq (.ops [s 17 (.mv (t 5)),
  s 4 (.mv (t 17))])
 .ret) .skip))))
 (.ops [s 18 (.bin .add (t 8) (c (i 1))),
  s 8 (.mv (t 18))])))))))
 (.seq (.ops [s 4 (.mv (c (i (-1))))])
 .ret))), none, [4], [false, false]⟩
def i37 : Comp := ⟨(.seq (.ops [s 2 (.box 5 (t 0)),
  s 3 (.mv (c (.bool false)))])
 (.seq (.ops [s 4 (.mv (c (i 0))),
  s 5 (.ldB 2 0 1 false true),
  s 6 (.ldB 1 0 1 false true),
  s 7 (.bin .eql (t 5) (t 6)),
  s 3 (.mv (t 7))])
 .ret)), none, [3], [false, false]⟩
def i38 : Comp := ⟨(.seq (.ops [s 2 (.mv (c (.str (bs []))))])
 (.seq (.seq (.ops [s 6 (.mv (t 0)),
  k 7 56 [(t 6)] .sc,
  s 5 (.mv (t 7)),
  s 8 (.ext 5 0 true),
  s 9 (.ext 5 1 true),
  s 3 (.alc [(i 0), (i 0), (i 0), (i 0)]),
  s 3 (.stB 3 0 4 (t 8) false),
  s 4 (.mv (t 9))])
 (.seq (.ops [s 10 (.mv (t 4)),
  s 11 (.not (t 10))])
 (.cond (t 11) (.seq (.ops [s 2 (.mv (c (.str (bs []))))])
 .ret) .skip)))
 (.seq (.ops [s 12 (.mv (t 0)),
  s 13 (.bin .rem (t 12) (c (i 21))),
  s 14 (.bin .add (c (i 97)) (t 13)),
  s 15 (.conv .u8 (t 14)),
  s 16 (.bsl 1 [(t 15)]),
  s 17 (.bst (t 16)),
  s 18 (.mv (t 0)),
  s 19 (.bin .quo (t 18) (c (i 21))),
  k 20 57 [(t 19)] .sc,
  s 21 (.bin .add (t 17) (t 20)),
  s 2 (.mv (t 21))])
 .ret))), none, [2], [true]⟩
def i39 : Comp := ⟨(.seq (.ops [s 1 (.box 2 (t 0)),
  s 2 (.mv (c (i 0)))])
 (.seq (.seq (.ops [s 3 (.ldB 1 0 2 true true),
  k 4 58 [(t 3)] .sc,
  s 5 (.not (t 4))])
 (.cond (t 5) (.seq (.ops [s 2 (.mv (c (i (-1))))])
 .ret) .skip))
 (.seq (.ops [s 6 (.mv (c (i 0))),
  s 7 (.ldB 1 1 1 false true),
  s 8 (.bin .quo (t 7) (c (i 10))),
  s 9 (.bin .mul (t 8) (c (i 21))),
  s 10 (.mv (c (i 0))),
  s 11 (.ldB 1 0 1 false true),
  s 12 (.bin .quo (t 11) (c (i 10))),
  s 13 (.bin .add (t 9) (t 12)),
  s 2 (.mv (t 13))])
 .ret))), none, [2], [true]⟩
def i42 : Comp := ⟨(.seq (.ops [s 2 (.mv (c (.bool false)))])
 (.seq (.ops [s 3 (.mv (t 0)),
  s 4 (.mv (t 0)),
  s 5 (.bin .neq (t 3) (t 4)),
  s 2 (.mv (t 5))])
 .ret)), none, [2], [true]⟩
def i43 : Comp := ⟨(.seq (.ops [s 2 (.mv (c (.bool false)))])
 (.seq (.ops [s 3 (.mv (t 0)),
  s 4 (.mv (t 0)),
  s 5 (.bin .neq (t 3) (t 4)),
  s 2 (.mv (t 5))])
 .ret)), none, [2], [true]⟩
def i44 : Comp := ⟨(.seq (.ops [s 2 (.mv (c (.bool false)))])
 (.seq (.seq (.ops [s 3 (.mv (c (i 0)))])
 (.block 0 (.loop (.seq (.seq (.ops [s 4 (.mv (t 3)),
  s 5 (.mv (t 0)),
  s 6 (.len false (t 5)),
  s 7 (.bin .lss (t 4) (t 6))])
 (.cond (t 7) .skip (.exit 0)))
 (.seq (.block 1 (.seq (.ops [s 10 (.mv (t 0)),
  s 11 (.mv (t 3)),
  s 12 (.idx (t 10) (t 11) 5),
  s 13 (.ldE 10 12 0 5 true false 5),
  k 14 69 [(t 13)] .sc,
  s 15 (.not (t 14)),
  s 16 (.mv (t 15)),
  sg [(16, false)] 17 (.mv (t 3)),
  sg [(16, false)] 18 (.bin .gtr (t 17) (c (i 0))),
  sg [(16, false)] 19 (.mv (t 18)),
  sg [(19, true), (16, false)] 20 (.mv (t 0)),
  sg [(19, true), (16, false)] 21 (.mv (t 3)),
  sg [(19, true), (16, false)] 22 (.bin .sub (t 21) (c (i 1))),
  sg [(19, true), (16, false)] 23 (.idx (t 20) (t 22) 5),
  sg [(19, true), (16, false)] 24 (.mv (t 23)),
  sg [(19, true), (16, false)] 25 (.ldE 20 24 0 1 false true 5),
  sg [(19, true), (16, false)] 26 (.mv (t 0)),
  sg [(19, true), (16, false)] 27 (.mv (t 3)),
  sg [(19, true), (16, false)] 28 (.idx (t 26) (t 27) 5),
  sg [(19, true), (16, false)] 29 (.mv (t 28)),
  sg [(19, true), (16, false)] 30 (.ldE 26 29 0 1 false true 5),
  sg [(19, true), (16, false)] 31 (.bin .geq (t 25) (t 30)),
  sg [(16, false)] 32 (.pick (t 19) (t 31) (c (.bool false))),
  s 33 (.pick (t 16) (c (.bool true)) (t 32))])
 (.cond (t 33) (.seq (.ops [s 2 (.mv (c (.bool false)))])
 .ret) .skip)))
 (.ops [s 8 (.mv (t 3)),
  s 9 (.bin .add (t 8) (c (i 1))),
  s 3 (.mv (t 9))]))))))
 (.seq (.ops [s 34 (.mv (t 0)),
  s 35 (.len false (t 34)),
  s 36 (.bin .leq (t 35) (c (i 16))),
  s 2 (.mv (t 36))])
 .ret))), none, [2], [false]⟩
def i45 : Comp := ⟨(.seq (.ops [s 2 (.alc [(i 0), (i 0)]),
  s 3 (.mv (c (.bool false)))])
 (.seq (.seq (.ops [s 6 (.mv (t 0)),
  k 7 70 [(t 6)] .sc,
  s 8 (.not (t 7))])
 (.cond (t 8) (.seq (.ops [s 9 (.bld [(i 0), (i 0)] []),
  s 2 (.stB 2 0 2 (t 9) false),
  s 3 (.mv (c (.bool false)))])
 .ret) .skip))
 (.seq (.ops [s 10 (.bld [(i 0), (i 0)] []),
  s 4 (.alc [(i 0), (i 0)]),
  s 4 (.stB 4 0 2 (t 10) false)])
 (.seq (.seq (.ops [s 5 (.mv (c (i 0)))])
 (.block 0 (.loop (.seq (.seq (.ops [s 11 (.mv (t 5)),
  s 12 (.mv (t 0)),
  s 13 (.len false (t 12)),
  s 14 (.bin .lss (t 11) (t 13))])
 (.cond (t 14) .skip (.exit 0)))
 (.seq (.block 1 (.seq (.ops [s 17 (.mv (c (i 0))),
  s 18 (.ldB 4 0 1 false true),
  s 19 (.mv (t 0)),
  s 20 (.mv (t 5)),
  s 21 (.idx (t 19) (t 20) 2),
  s 22 (.mv (t 21)),
  s 23 (.ldE 19 22 0 1 false true 2),
  s 24 (.bin .add (t 18) (t 23)),
  s 25 (.mv (c (i 0))),
  s 4 (.stB 4 0 1 (t 24) false)])
 (.ops [s 26 (.mv (c (i 0))),
  s 27 (.ldB 4 1 1 false true),
  s 28 (.mv (t 0)),
  s 29 (.mv (t 5)),
  s 30 (.idx (t 28) (t 29) 2),
  s 31 (.mv (t 30)),
  s 32 (.ldE 28 31 1 1 false true 2),
  s 33 (.bin .add (t 27) (t 32)),
  s 34 (.mv (c (i 0))),
  s 4 (.stB 4 1 1 (t 33) false)])))
 (.ops [s 15 (.mv (t 5)),
  s 16 (.bin .add (t 15) (c (i 1))),
  s 5 (.mv (t 16))]))))))
 (.seq (.ops [s 35 (.mv (c (i 0))),
  s 36 (.ldB 4 0 1 false true),
  s 37 (.mv (t 0)),
  s 38 (.len false (t 37)),
  s 39 (.bin .quo (t 36) (t 38)),
  s 40 (.mv (c (i 0))),
  s 41 (.ldB 4 1 1 false true),
  s 42 (.mv (t 0)),
  s 43 (.len false (t 42)),
  s 44 (.bin .quo (t 41) (t 43)),
  s 45 (.bld [(i 0), (i 0)] [(0, 1, (t 39)), (1, 1, (t 44))]),
  s 2 (.stB 2 0 2 (t 45) false),
  s 3 (.mv (c (.bool true)))])
 .ret))))), (some ⟨2, 42, 2, true⟩), [3], [false]⟩
def i46 : Comp := ⟨(.seq (.ops [s 2 (.mv (c (.str (bs []))))])
 (.seq (.seq (.ops [s 4 (.mv (t 0)),
  k 5 71 [(t 4), (c (i 0)), (c (i 440))] .sc,
  s 6 (.not (t 5))])
 (.cond (t 6) (.seq (.ops [s 2 (.mv (c (.str (bs []))))])
 .ret) .skip))
 (.seq (.ops [s 7 (.mv (t 0)),
  s 8 (.bin .rem (t 7) (c (i 21))),
  s 3 (.mv (t 8))])
 (.seq (.ops [s 9 (.mv (t 3)),
  s 10 (.mv (t 3)),
  s 11 (.bin .add (t 10) (c (i 1))),
  s 12 (.ssl (c (.str (bs [97, 98, 99, 100, 101, 102, 103, 104, 105, 106, 107, 108, 109, 110, 111, 112, 113, 114, 115, 116, 117]))) (some (t 9)) (some (t 11))),
  s 13 (.mv (t 0)),
  s 14 (.bin .quo (t 13) (c (i 21))),
  k 15 72 [(t 14)] .sc,
  s 16 (.bin .add (t 12) (t 15)),
  s 2 (.mv (t 16))])
 .ret)))), none, [2], [true]⟩
def i47 : Comp := ⟨(.seq (.ops [s 1 (.box 2 (t 0)),
  s 2 (.mv (c (i 0)))])
 (.seq (.seq (.ops [s 3 (.ldB 1 0 2 true true),
  k 4 73 [(t 3)] .sc,
  s 5 (.not (t 4))])
 (.cond (t 5) (.seq (.ops [s 2 (.mv (c (i (-1))))])
 .ret) .skip))
 (.seq (.ops [s 6 (.mv (c (i 0))),
  s 7 (.ldB 1 1 1 false true),
  s 8 (.bin .quo (t 7) (c (i 10))),
  s 9 (.bin .mul (t 8) (c (i 21))),
  s 10 (.mv (c (i 0))),
  s 11 (.ldB 1 0 1 false true),
  s 12 (.bin .quo (t 11) (c (i 10))),
  s 13 (.bin .add (t 9) (t 12)),
  s 2 (.mv (t 13))])
 .ret))), none, [2], [true]⟩
def i48 : Comp := ⟨(.seq (.ops [s 1 (.box 5 (t 0)),
  s 2 (.mv (c (.bool false)))])
 (.seq (.seq (.ops [s 3 (.mv (c (i 0))),
  s 4 (.ldB 1 0 1 false true),
  k 5 74 [(t 4), (c (i 1)), (c (i 99))] .sc,
  s 6 (.not (t 5)),
  s 7 (.mv (t 6)),
  sg [(7, false)] 8 (.mv (c (i 0))),
  sg [(7, false)] 9 (.ldB 1 2 1 false true),
  kg [(7, false)] 10 74 [(t 9), (c (i 0)), (c (i 9))] .sc,
  sg [(7, false)] 11 (.not (t 10)),
  s 12 (.pick (t 7) (c (.bool true)) (t 11)),
  s 13 (.mv (t 12)),
  sg [(13, false)] 14 (.mv (c (i 0))),
  sg [(13, false)] 15 (.ldB 1 3 1 false true),
  sg [(13, false)] 16 (.bin .neq (t 15) (c (.str (bs [])))),
  sg [(13, false)] 17 (.mv (t 16)),
  sg [(17, true), (13, false)] 18 (.mv (c (i 0))),
  sg [(17, true), (13, false)] 19 (.ldB 1 3 1 false true),
  kg [(17, true), (13, false)] 20 75 [(t 19)] .sc,
  sg [(17, true), (13, false)] 21 (.not (t 20)),
  sg [(13, false)] 22 (.pick (t 17) (t 21) (c (.bool false))),
  s 23 (.pick (t 13) (c (.bool true)) (t 22))])
 (.cond (t 23) (.seq (.ops [s 2 (.mv (c (.bool false)))])
 .ret) .skip))
 (.seq (.seq (.ops [s 24 (.mv (c (i 0))),
  s 25 (.ldB 1 1 1 false true)])
 (.block 0 (.seq (.ops [s 27 (.bin .eql (t 25) (c (i 1))),
  s 26 (.mv (t 27))])
 (.cond (t 26) (.seq (.ops [s 28 (.mv (c (i 0))),
  s 29 (.ldB 1 4 1 false false),
  s 30 (.len false (t 29)),
  s 31 (.bin .eql (t 30) (c (i 1))),
  s 32 (.mv (t 31)),
  sg [(32, true)] 33 (.mv (c (i 0))),
  sg [(32, true)] 34 (.ldB 1 4 1 false false),
  sg [(32, true)] 35 (.idx (t 34) (c (i 0)) 2),
  sg [(32, true)] 36 (.ldE 34 35 0 2 true true 2),
  kg [(32, true)] 37 58 [(t 36)] .sc,
  s 38 (.pick (t 32) (t 37) (c (.bool false))),
  s 2 (.mv (t 38))])
 .ret) (.seq (.ops [s 40 (.bin .eql (t 25) (c (i 2))),
  s 39 (.mv (t 40))])
 (.cond (t 39) (.seq (.ops [s 41 (.mv (c (i 0))),
  s 42 (.ldB 1 4 1 false false),
  k 43 76 [(t 42)] .sc,
  s 2 (.mv (t 43))])
 .ret) (.seq (.ops [s 45 (.bin .eql (t 25) (c (i 3))),
  s 44 (.mv (t 45))])
 (.cond (t 44) (.seq (.ops [s 46 (.mv (c (i 0))),
  s 47 (.ldB 1 4 1 false false),
  k 48 49 [(t 47)] .sc,
  s 2 (.mv (t 48))])
 .ret) .skip))))))))
 (.seq (.ops [s 2 (.mv (c (.bool false)))])
 .ret)))), none, [2], [false]⟩
def i49 : Comp := ⟨(.seq (.ops [s 2 (.mv (c (.bool false)))])
 (.seq (.seq (.ops [s 7 (.mv (t 0)),
  s 8 (.len false (t 7)),
  s 9 (.bin .lss (t 8) (c (i 3))),
  s 10 (.mv (t 9)),
  sg [(10, false)] 11 (.mv (t 0)),
  sg [(10, false)] 12 (.len false (t 11)),
  sg [(10, false)] 13 (.bin .gtr (t 12) (c (i 10))),
  s 14 (.pick (t 10) (c (.bool true)) (t 13))])
 (.cond (t 14) (.seq (.ops [s 2 (.mv (c (.bool false)))])
 .ret) .skip))
 (.seq (.ops [s 15 (.mv (t 0)),
  k 16 77 [(t 15)] .lin,
  s 3 (.mv (t 16))])
 (.seq (.seq (.ops [s 17 (.mv (t 3)),
  s 18 (.len false (t 17)),
  s 19 (.mv (c (i 0)))])
 (.block 0 (.loop (.seq (.ops [s 20 (.bin .lss (t 19) (t 18))])
 (.seq (.cond (t 20) .skip (.exit 0))
 (.seq (.block 1 (.seq (.ops [s 21 (.mv (t 19)),
  s 4 (.mv (t 21))])
 (.seq (.seq (.ops [s 22 (.mv (t 3)),
  s 23 (.mv (t 4)),
  s 24 (.idx (t 22) (t 23) 4),
  s 25 (.ldE 22 24 0 4 true true 4),
  k 26 78 [(t 25)] .sc,
  s 27 (.not (t 26))])
 (.cond (t 27) (.seq (.ops [s 2 (.mv (c (.bool false)))])
 .ret) .skip))
 (.seq (.ops [s 28 (.mv (t 4)),
  s 29 (.mv (c (i 0)))])
 (.block 2 (.loop (.seq (.ops [s 30 (.bin .lss (t 29) (t 28))])
 (.seq (.cond (t 30) .skip (.exit 2))
 (.seq (.block 3 (.seq (.ops [s 31 (.mv (t 29)),
  s 5 (.mv (t 31))])
 (.seq (.ops [s 6 (.mv (c (i 0)))])
 (.seq (.seq (.ops [s 32 (.mv (t 5)),
  s 33 (.mv (t 4)),
  s 34 (.bin .sub (t 33) (c (i 1))),
  s 35 (.bin .eql (t 32) (t 34)),
  s 36 (.mv (t 35)),
  sg [(36, false)] 37 (.mv (t 5)),
  sg [(36, false)] 38 (.bin .eql (t 37) (c (i 0))),
  sg [(36, false)] 39 (.mv (t 38)),
  sg [(39, true), (36, false)] 40 (.mv (t 4)),
  sg [(39, true), (36, false)] 41 (.mv (t 3)),
  sg [(39, true), (36, false)] 42 (.len false (t 41)),
  sg [(39, true), (36, false)] 43 (.bin .sub (t 42) (c (i 1))),
  sg [(39, true), (36, false)] 44 (.bin .eql (t 40) (t 43)),
  sg [(36, false)] 45 (.pick (t 39) (t 44) (c (.bool false))),
  s 46 (.pick (t 36) (c (.bool true)) (t 45))])
 (.cond (t 46) (.ops [s 6 (.mv (c (i 1)))]) .skip))
 (.seq (.ops [s 47 (.mv (t 3)),
  s 48 (.mv (t 4)),
  s 49 (.idx (t 47) (t 48) 4),
  s 50 (.ldE 47 49 0 4 true true 4),
  s 51 (.mv (t 3)),
  s 52 (.mv (t 5)),
  s 53 (.idx (t 51) (t 52) 4),
  s 54 (.ldE 51 53 0 4 true true 4),
  k 55 79 [(t 50), (t 54)] .sc,
  s 56 (.mv (t 6)),
  s 57 (.bin .neq (t 55) (t 56))])
 (.cond (t 57) (.seq (.ops [s 2 (.mv (c (.bool false)))])
 .ret) .skip))))))
 (.ops [s 58 (.bin .add (t 29) (c (i 1))),
  s 29 (.mv (t 58))]))))))))))
 (.ops [s 59 (.bin .add (t 19) (c (i 1))),
  s 19 (.mv (t 59))])))))))
 (.seq (.ops [s 2 (.mv (c (.bool true)))])
 .ret))))), none, [2], [false]⟩
def i51 : Comp := ⟨(.seq (.ops [s 2 (.mv (c (.lst 5 true [])))])
 (.seq (.ops [s 5 (.bsl 5 []),
  s 3 (.mv (t 5))])
 (.seq (.seq (.ops [s 4 (.mv (c (i 1)))])
 (.block 0 (.loop (.seq (.seq (.seq (.ops [s 6 (.mv (t 4)),
  s 7 (.mv (c .junk))])
 (.seq (opC 8 52 0 [(c (i 6))] .sc)
 (.ops [s 9 (.bin .add (c (i 1)) (t 8)),
  s 10 (.bin .leq (t 6) (t 9))])))
 (.cond (t 10) .skip (.exit 0)))
 (.seq (.block 1 (.seq (.ops [s 14 (.mv (t 3)),
  s 15 (.mv (c .junk)),
  s 16 (.mv (t 4))])
 (.seq (opC 17 90 0 [(t 16)] .lin)
 (.ops [k 18 89 [(t 14), (t 17)] .tup,
  s 13 (.mv (t 18)),
  s 19 (.ext 13 0 false),
  s 20 (.ext 13 1 true),
  s 3 (.mv (t 19))]))))
 (.ops [s 11 (.mv (t 4)),
  s 12 (.bin .add (t 11) (c (i 1))),
  s 4 (.mv (t 12))]))))))
 (.seq (.ops [s 21 (.mv (t 3)),
  s 2 (.mv (t 21))])
 .ret)))), none, [2], []⟩
def i52 : Comp := ⟨(.seq (.ops [s 4 (.mv (c (i 0)))])
 (.seq (.seq (.ops [s 8 (.mv (t 1)),
  s 9 (.bin .leq (t 8) (c (i 0)))])
 (.cond (t 9) (.seq (.ops [s 4 (.mv (c (i 0)))])
 .ret) .skip))
 (.seq (.seq (.ops [s 10 (.mv (t 1)),
  s 11 (.bin .leq (t 10) (c (i 256)))])
 (.cond (t 11) (.seq (.seq (.ops [s 12 (.mv (c .junk))])
 (.seq (opC 13 91 0 [] .sc)
 (.ops [s 14 (.mv (t 1)),
  s 15 (.bin .rem (t 13) (t 14)),
  s 4 (.mv (t 15))])))
 .ret) .skip))
 (.seq (.seq (.ops [s 16 (.mv (c .junk))])
 (.seq (opC 17 91 0 [] .sc)
 (.ops [s 5 (.mv (t 17))])))
 (.seq (.seq (.ops [s 18 (.mv (c .junk))])
 (.seq (opC 19 91 0 [] .sc)
 (.ops [s 6 (.mv (t 19))])))
 (.seq (.seq (.ops [s 20 (.mv (c .junk))])
 (.seq (opC 21 91 0 [] .sc)
 (.ops [s 7 (.mv (t 21))])))
 (.seq (.ops [s 22 (.mv (t 5)),
  s 23 (.bin .mul (t 22) (c (i 65536))),
  s 24 (.mv (t 6)),
  s 25 (.bin .mul (t 24) (c (i 256))),
  s 26 (.bin .add (t 23) (t 25)),
  s 27 (.mv (t 7)),
  s 28 (.bin .add (t 26) (t 27)),
  s 29 (.mv (t 1)),
  s 30 (.bin .rem (t 28) (t 29)),
  s 4 (.mv (t 30))])
 .ret))))))), none, [4], [true]⟩
def i53 : Comp := ⟨(.seq (.ops [s 4 (.mv (c (.bool false)))])
 (.seq (.ops [s 5 (.mv (t 0)),
  s 6 (.len true (t 5)),
  s 7 (.mv (t 1)),
  s 8 (.len true (t 7)),
  s 9 (.bin .geq (t 6) (t 8)),
  s 10 (.mv (t 9)),
  sg [(10, true)] 11 (.mv (t 0)),
  sg [(10, true)] 12 (.mv (t 1)),
  sg [(10, true)] 13 (.len true (t 12)),
  sg [(10, true)] 14 (.ssl (t 11) none (some (t 13))),
  sg [(10, true)] 15 (.mv (t 1)),
  sg [(10, true)] 16 (.bin .eql (t 14) (t 15)),
  s 17 (.pick (t 10) (t 16) (c (.bool false))),
  s 4 (.mv (t 17))])
 .ret)), none, [4], [true, true]⟩
def i55 : Comp := ⟨(.seq (.ops [s 2 (.mv (c (.lst 2 true [])))])
 (.seq (.seq (.ops [s 4 (.mv (c .junk))])
 (.seq (opC 5 92 0 [] .lin)
 (.ops [s 3 (.mv (t 5))])))
 (.seq (.seq (.seq (.ops [s 6 (.mv (c .junk))])
 (.seq (opC 7 52 0 [(c (i 12))] .sc)
 (.ops [])))
 (.block 0 (.seq (.ops [s 9 (.bin .eql (t 7) (c (i 0))),
  s 8 (.mv (t 9))])
 (.cond (t 8) (.seq (.ops [s 10 (.mv (t 3)),
  s 11 (.mv (c .junk))])
 (.seq (opC 12 93 0 [] .sc)
 (.seq (.ops [s 13 (.idx (t 10) (c (i 0)) 2)])
 (.seq (opW 3 13 0 2 2 (t 12))
 (.ops []))))) (.seq (.ops [s 15 (.bin .eql (t 7) (c (i 1))),
  s 14 (.mv (t 15))])
 (.cond (t 14) (.ops [s 16 (.mv (t 3)),
  s 17 (.mv (t 3)),
  s 18 (.mv (t 3)),
  s 19 (.len false (t 18)),
  s 20 (.bin .sub (t 19) (c (i 1))),
  s 21 (.idx (t 17) (t 20) 2),
  s 22 (.ldE 17 21 0 2 true true 2),
  s 23 (.bsl 2 [(t 22)]),
  s 24 (.app (t 16) (t 23) 2 16),
  s 3 (.mv (t 24))]) (.seq (.ops [s 26 (.bin .eql (t 7) (c (i 2))),
  s 25 (.mv (t 26))])
 (.cond (t 25) (.seq (.ops [s 27 (.mv (t 3))])
 (.seq (opS 28 2 (t 27) none (some (c (i 1))))
 (.ops [s 3 (.mv (t 28))]))) (.seq (.ops [s 30 (.bin .eql (t 7) (c (i 3))),
  s 29 (.mv (t 30))])
 (.cond (t 29) (.block 1 (.loop (.seq (.seq (.ops [s 31 (.mv (t 3)),
  s 32 (.len false (t 31)),
  s 33 (.bin .lss (t 32) (c (i 11)))])
 (.cond (t 33) .skip (.exit 1)))
 (.block 2 (.ops [s 34 (.mv (t 3)),
  s 35 (.mv (t 3)),
  s 36 (.len false (t 35)),
  s 37 (.mv (t 3)),
  s 38 (.len false (t 37)),
  s 39 (.bin .add (c (i 50)) (t 38)),
  s 40 (.bld [(i 0), (i 0)] [(0, 1, (t 36)), (1, 1, (t 39))]),
  s 41 (.bsl 2 [(t 40)]),
  s 42 (.app (t 34) (t 41) 2 16),
  s 3 (.mv (t 42))]))))) .skip))))))))))
 (.seq (.ops [s 43 (.mv (t 3)),
  s 2 (.mv (t 43))])
 .ret)))), none, [2], []⟩
def i56 : Comp := ⟨(.seq (.ops [s 2 (.alc [(i 0), (i 0), (i 0), (i 0)]),
  s 3 (.mv (c (.bool false)))])
 (.seq (.seq (.ops [s 6 (.mv (t 0)),
  k 7 74 [(t 6), (c (i 0)), (c (i 440))] .sc,
  s 8 (.not (t 7))])
 (.cond (t 8) (.seq (.ops [s 9 (.bld [(i 0), (i 0), (i 0), (i 0)] []),
  s 2 (.stB 2 0 4 (t 9) false),
  s 3 (.mv (c (.bool false)))])
 .ret) .skip))
 (.seq (.ops [s 10 (.mv (t 0)),
  s 11 (.bin .rem (t 10) (c (i 21))),
  s 12 (.bin .mul (t 11) (c (i 10))),
  s 13 (.mv (t 0)),
  s 14 (.bin .quo (t 13) (c (i 21))),
  s 15 (.bin .mul (t 14) (c (i 10))),
  s 4 (.mv (t 12)),
  s 5 (.mv (t 15))])
 (.seq (.ops [s 16 (.mv (t 4)),
  s 17 (.mv (t 5)),
  s 18 (.bld [(i 0), (i 0)] [(0, 1, (t 16)), (1, 1, (t 17))]),
  s 19 (.mv (t 4)),
  s 20 (.bin .add (t 19) (c (i 10))),
  s 21 (.mn (t 20) (c (i 200))),
  s 22 (.mv (t 5)),
  s 23 (.bin .add (t 22) (c (i 10))),
  s 24 (.mn (t 23) (c (i 200))),
  s 25 (.bld [(i 0), (i 0)] [(0, 1, (t 21)), (1, 1, (t 24))]),
  s 26 (.bld [(i 0), (i 0), (i 0), (i 0)] [(0, 2, (t 18)), (2, 2, (t 25))]),
  s 2 (.stB 2 0 4 (t 26) false),
  s 3 (.mv (c (.bool true)))])
 .ret)))), (some ⟨2, 83, 4, true⟩), [3], [true]⟩
def i57 : Comp := ⟨(.seq (.ops [s 2 (.mv (c (.str (bs []))))])
 (.seq (.ops [s 3 (.mv (t 0)),
  k 4 94 [(t 3)] .sc,
  s 2 (.mv (t 4))])
 .ret)), none, [2], [true]⟩
def i58 : Comp := ⟨(.seq (.ops [s 1 (.box 2 (t 0)),
  s 2 (.mv (c (.bool false)))])
 (.seq (.ops [s 3 (.mv (c (i 0))),
  s 4 (.ldB 1 0 1 false true),
  k 5 74 [(t 4), (c (i 0)), (c (i 200))] .sc,
  s 6 (.mv (t 5)),
  sg [(6, true)] 7 (.mv (c (i 0))),
  sg [(6, true)] 8 (.ldB 1 1 1 false true),
  kg [(6, true)] 9 74 [(t 8), (c (i 0)), (c (i 200))] .sc,
  s 10 (.pick (t 6) (t 9) (c (.bool false))),
  s 2 (.mv (t 10))])
 .ret)), none, [2], [true]⟩
def i69 : Comp := ⟨(.seq (.ops [s 1 (.box 5 (t 0)),
  s 2 (.mv (c (.bool false)))])
 (.seq (.seq (.ops [s 3 (.mv (c (i 0))),
  s 4 (.ldB 1 0 1 false true),
  k 5 71 [(t 4), (c (i 1)), (c (i 99))] .sc,
  s 6 (.not (t 5)),
  s 7 (.mv (t 6)),
  sg [(7, false)] 8 (.mv (c (i 0))),
  sg [(7, false)] 9 (.ldB 1 2 1 false true),
  kg [(7, false)] 10 71 [(t 9), (c (i 0)), (c (i 9))] .sc,
  sg [(7, false)] 11 (.not (t 10)),
  s 12 (.pick (t 7) (c (.bool true)) (t 11)),
  s 13 (.mv (t 12)),
  sg [(13, false)] 14 (.mv (c (i 0))),
  sg [(13, false)] 15 (.ldB 1 3 1 false true),
  sg [(13, false)] 16 (.bin .neq (t 15) (c (.str (bs [])))),
  sg [(13, false)] 17 (.mv (t 16)),
  sg [(17, true), (13, false)] 18 (.mv (c (i 0))),
  sg [(17, true), (13, false)] 19 (.ldB 1 3 1 false true),
  kg [(17, true), (13, false)] 20 100 [(t 19)] .sc,
  sg [(17, true), (13, false)] 21 (.not (t 20)),
  sg [(13, false)] 22 (.pick (t 17) (t 21) (c (.bool false))),
  s 23 (.pick (t 13) (c (.bool true)) (t 22))])
 (.cond (t 23) (.seq (.ops [s 2 (.mv (c (.bool false)))])
 .ret) .skip))
 (.seq (.seq (.ops [s 24 (.mv (c (i 0))),
  s 25 (.ldB 1 1 1 false true)])
 (.block 0 (.seq (.ops [s 27 (.bin .eql (t 25) (c (i 1))),
  s 26 (.mv (t 27))])
 (.cond (t 26) (.seq (.ops [s 28 (.mv (c (i 0))),
  s 29 (.ldB 1 4 1 false false),
  s 30 (.len false (t 29)),
  s 31 (.bin .eql (t 30) (c (i 1))),
  s 32 (.mv (t 31)),
  sg [(32, true)] 33 (.mv (c (i 0))),
  sg [(32, true)] 34 (.ldB 1 4 1 false false),
  sg [(32, true)] 35 (.idx (t 34) (c (i 0)) 2),
  sg [(32, true)] 36 (.ldE 34 35 0 2 true true 2),
  kg [(32, true)] 37 73 [(t 36)] .sc,
  s 38 (.pick (t 32) (t 37) (c (.bool false))),
  s 2 (.mv (t 38))])
 .ret) (.seq (.ops [s 40 (.bin .eql (t 25) (c (i 2))),
  s 39 (.mv (t 40))])
 (.cond (t 39) (.seq (.ops [s 41 (.mv (c (i 0))),
  s 42 (.ldB 1 4 1 false false),
  k 43 101 [(t 42)] .sc,
  s 2 (.mv (t 43))])
 .ret) (.seq (.ops [s 45 (.bin .eql (t 25) (c (i 3))),
  s 44 (.mv (t 45))])
 (.cond (t 44) (.seq (.ops [s 46 (.mv (c (i 0))),
  s 47 (.ldB 1 4 1 false false),
  k 48 70 [(t 47)] .sc,
  s 2 (.mv (t 48))])
 .ret) .skip))))))))
 (.seq (.ops [s 2 (.mv (c (.bool false)))])
 .ret)))), none, [2], [false]⟩
def i70 : Comp := ⟨(.seq (.ops [s 2 (.mv (c (.bool false)))])
 (.seq (.seq (.ops [s 7 (.mv (t 0)),
  s 8 (.len false (t 7)),
  k 9 71 [(t 8), (c (i 3)), (c (i 10))] .sc,
  s 10 (.not (t 9))])
 (.cond (t 10) (.seq (.ops [s 2 (.mv (c (.bool false)))])
 .ret) .skip))
 (.seq (.ops [s 11 (.mv (t 0)),
  k 12 102 [(t 11)] .lin,
  s 3 (.mv (t 12))])
 (.seq (.seq (.ops [s 4 (.mv (c (i 0)))])
 (.block 0 (.loop (.seq (.seq (.ops [s 13 (.mv (t 4)),
  s 14 (.mv (t 3)),
  s 15 (.len false (t 14)),
  s 16 (.bin .lss (t 13) (t 15))])
 (.cond (t 16) .skip (.exit 0)))
 (.seq (.block 1 (.seq (.seq (.ops [s 19 (.mv (t 3)),
  s 20 (.mv (t 4)),
  s 21 (.idx (t 19) (t 20) 4),
  s 22 (.ldE 19 21 0 4 true true 4),
  k 23 103 [(t 22)] .sc,
  s 24 (.not (t 23))])
 (.cond (t 24) (.seq (.ops [s 2 (.mv (c (.bool false)))])
 .ret) .skip))
 (.seq (.ops [s 5 (.mv (c (i 0)))])
 (.block 2 (.loop (.seq (.seq (.ops [s 25 (.mv (t 5)),
  s 26 (.mv (t 4)),
  s 27 (.bin .lss (t 25) (t 26))])
 (.cond (t 27) .skip (.exit 2)))
 (.seq (.block 3 (.seq (.ops [s 6 (.mv (c (i 0)))])
 (.seq (.seq (.ops [s 30 (.mv (t 5)),
  s 31 (.bin .add (t 30) (c (i 1))),
  s 32 (.mv (t 4)),
  s 33 (.bin .eql (t 31) (t 32)),
  s 34 (.mv (t 33)),
  sg [(34, false)] 35 (.mv (t 5)),
  sg [(34, false)] 36 (.bin .eql (t 35) (c (i 0))),
  sg [(34, false)] 37 (.mv (t 36)),
  sg [(37, true), (34, false)] 38 (.mv (t 4)),
  sg [(37, true), (34, false)] 39 (.bin .add (t 38) (c (i 1))),
  sg [(37, true), (34, false)] 40 (.mv (t 3)),
  sg [(37, true), (34, false)] 41 (.len false (t 40)),
  sg [(37, true), (34, false)] 42 (.bin .eql (t 39) (t 41)),
  sg [(34, false)] 43 (.pick (t 37) (t 42) (c (.bool false))),
  s 44 (.pick (t 34) (c (.bool true)) (t 43))])
 (.cond (t 44) (.ops [s 6 (.mv (c (i 1)))]) .skip))
 (.seq (.ops [s 45 (.mv (t 3)),
  s 46 (.mv (t 4)),
  s 47 (.idx (t 45) (t 46) 4),
  s 48 (.ldE 45 47 0 4 true true 4),
  s 49 (.mv (t 3)),
  s 50 (.mv (t 5)),
  s 51 (.idx (t 49) (t 50) 4),
  s 52 (.ldE 49 51 0 4 true true 4),
  k 53 104 [(t 48), (t 52)] .sc,
  s 54 (.mv (t 6)),
  s 55 (.bin .neq (t 53) (t 54))])
 (.cond (t 55) (.seq (.ops [s 2 (.mv (c (.bool false)))])
 .ret) .skip)))))
 (.ops [s 28 (.mv (t 5)),
  s 29 (.bin .add (t 28) (c (i 1))),
  s 5 (.mv (t 29))]))))))))
 (.ops [s 17 (.mv (t 4)),
  s 18 (.bin .add (t 17) (c (i 1))),
  s 4 (.mv (t 18))]))))))
 (.seq (.ops [s 2 (.mv (c (.bool true)))])
 .ret))))), none, [2], [false]⟩
def i71 : Comp := ⟨(.seq (.ops [s 6 (.mv (c (.bool false)))])
 (.seq (.ops [s 7 (.mv (t 0)),
  s 8 (.mv (t 1)),
  s 9 (.bin .geq (t 7) (t 8)),
  s 10 (.mv (t 9)),
  sg [(10, true)] 11 (.mv (t 0)),
  sg [(10, true)] 12 (.mv (t 2)),
  sg [(10, true)] 13 (.bin .leq (t 11) (t 12)),
  s 14 (.pick (t 10) (t 13) (c (.bool false))),
  s 6 (.mv (t 14))])
 .ret)), none, [6], [true, true, true]⟩
def i72 : Comp := ⟨(.seq (.ops [s 2 (.mv (c (.str (bs []))))])
 (.seq (.seq (.ops [s 6 (.mv (t 0)),
  s 7 (.bin .eql (t 6) (c (i 0)))])
 (.cond (t 7) (.seq (.ops [s 2 (.mv (c (.str (bs [48]))))])
 .ret) .skip))
 (.seq (.ops [s 3 (.mv (c (.str (bs []))))])
 (.seq (.seq (.ops [s 8 (.mv (t 0)),
  s 4 (.mv (t 8))])
 (.block 0 (.loop (.seq (.seq (.ops [s 9 (.mv (t 4)),
  s 10 (.bin .neq (t 9) (c (i 0)))])
 (.cond (t 10) .skip (.exit 0)))
 (.seq (.block 1 (.seq (.ops [s 13 (.mv (t 4)),
  s 14 (.bin .rem (t 13) (c (i 10))),
  s 5 (.mv (t 14))])
 (.seq (.seq (.ops [s 15 (.mv (t 5)),
  s 16 (.bin .lss (t 15) (c (i 0)))])
 (.cond (t 16) (.ops [s 17 (.mv (t 5)),
  s 18 (.neg (t 17)),
  s 5 (.mv (t 18))]) .skip))
 (.ops [s 19 (.mv (t 5)),
  s 20 (.bin .add (c (i 48)) (t 19)),
  s 21 (.conv .u8 (t 20)),
  s 22 (.bsl 1 [(t 21)]),
  s 23 (.bst (t 22)),
  s 24 (.mv (t 3)),
  s 25 (.bin .add (t 23) (t 24)),
  s 3 (.mv (t 25))]))))
 (.ops [s 11 (.mv (t 4)),
  s 12 (.bin .quo (t 11) (c (i 10))),
  s 4 (.mv (t 12))]))))))
 (.seq (.seq (.ops [s 26 (.mv (t 0)),
  s 27 (.bin .lss (t 26) (c (i 0)))])
 (.cond (t 27) (.seq (.ops [s 28 (.mv (t 3)),
  s 29 (.bin .add (c (.str (bs [45]))) (t 28)),
  s 2 (.mv (t 29))])
 .ret) .skip))
 (.seq (.ops [s 30 (.mv (t 3)),
  s 2 (.mv (t 30))])
 .ret)))))), none, [2], [true]⟩
def i73 : Comp := ⟨(.seq (.ops [s 1 (.box 2 (t 0)),
  s 2 (.mv (c (.bool false)))])
 (.seq (.ops [s 3 (.mv (c (i 0))),
  s 4 (.ldB 1 0 1 false true),
  k 5 71 [(t 4), (c (i 0)), (c (i 200))] .sc,
  s 6 (.mv (t 5)),
  sg [(6, true)] 7 (.mv (c (i 0))),
  sg [(6, true)] 8 (.ldB 1 1 1 false true),
  kg [(6, true)] 9 71 [(t 8), (c (i 0)), (c (i 200))] .sc,
  s 10 (.pick (t 6) (t 9) (c (.bool false))),
  s 2 (.mv (t 10))])
 .ret)), none, [2], [true]⟩
def i74 : Comp := ⟨(.seq (.ops [s 6 (.mv (c (.bool false)))])
 (.seq (.ops [s 7 (.mv (t 1)),
  s 8 (.mv (t 0)),
  s 9 (.bin .leq (t 7) (t 8)),
  s 10 (.mv (t 9)),
  sg [(10, true)] 11 (.mv (t 0)),
  sg [(10, true)] 12 (.mv (t 2)),
  sg [(10, true)] 13 (.bin .leq (t 11) (t 12)),
  s 14 (.pick (t 10) (t 13) (c (.bool false))),
  s 6 (.mv (t 14))])
 .ret)), none, [6], [true, true, true]⟩
def i75 : Comp := ⟨(.seq (.ops [s 2 (.mv (c (.bool false)))])
 (.seq (.seq (.ops [s 4 (.mv (t 0)),
  s 5 (.len true (t 4)),
  s 6 (.mv (c (i 0)))])
 (.block 0 (.loop (.seq (.ops [s 7 (.bin .lss (t 6) (t 5))])
 (.seq (.cond (t 7) .skip (.exit 0))
 (.seq (.block 1 (.seq (.ops [s 8 (.mv (t 6)),
  s 3 (.mv (t 8))])
 (.seq (.ops [s 9 (.mv (t 0)),
  s 10 (.mv (t 3)),
  s 11 (.six (t 9) (t 10)),
  s 12 (.bin .lss (t 11) (c (.int .u8 (97)))),
  s 13 (.mv (t 12)),
  sg [(13, false)] 14 (.mv (t 0)),
  sg [(13, false)] 15 (.mv (t 3)),
  sg [(13, false)] 16 (.six (t 14) (t 15)),
  sg [(13, false)] 17 (.bin .gtr (t 16) (c (.int .u8 (122)))),
  s 18 (.pick (t 13) (c (.bool true)) (t 17))])
 (.cond (t 18) (.seq (.ops [s 2 (.mv (c (.bool false)))])
 .ret) .skip))))
 (.ops [s 19 (.bin .add (t 6) (c (i 1))),
  s 6 (.mv (t 19))])))))))
 (.seq (.ops [s 20 (.mv (t 0)),
  s 21 (.len true (t 20)),
  k 22 74 [(t 21), (c (i 1)), (c (i 8))] .sc,
  s 2 (.mv (t 22))])
 .ret))), none, [2], [true]⟩
def i76 : Comp := ⟨(.seq (.ops [s 2 (.mv (c (.bool false)))])
 (.seq (.seq (.ops [s 7 (.mv (t 0)),
  k 8 105 [(t 7)] .sc,
  s 9 (.not (t 8))])
 (.cond (t 9) (.seq (.ops [s 2 (.mv (c (.bool false)))])
 .ret) .skip))
 (.seq (.ops [s 10 (.mv (t 0)),
  k 11 106 [(t 10)] .lin,
  s 3 (.mv (t 11))])
 (.seq (.seq (.ops [s 12 (.mv (t 3)),
  s 13 (.len false (t 12)),
  s 14 (.mv (c (i 0)))])
 (.block 0 (.loop (.seq (.ops [s 15 (.bin .lss (t 14) (t 13))])
 (.seq (.cond (t 15) .skip (.exit 0))
 (.seq (.block 1 (.seq (.ops [s 16 (.mv (t 14)),
  s 4 (.mv (t 16))])
 (.seq (.ops [s 17 (.mv (t 4)),
  s 18 (.mv (c (i 0)))])
 (.block 2 (.loop (.seq (.ops [s 19 (.bin .lss (t 18) (t 17))])
 (.seq (.cond (t 19) .skip (.exit 2))
 (.seq (.block 3 (.seq (.ops [s 20 (.mv (t 18)),
  s 5 (.mv (t 20))])
 (.seq (.ops [s 6 (.mv (c (i 0)))])
 (.seq (.seq (.ops [s 21 (.mv (t 5)),
  s 22 (.mv (t 4)),
  s 23 (.bin .sub (t 22) (c (i 1))),
  s 24 (.bin .eql (t 21) (t 23))])
 (.cond (t 24) (.ops [s 6 (.mv (c (i 1)))]) .skip))
 (.seq (.ops [s 25 (.mv (t 3)),
  s 26 (.mv (t 4)),
  s 27 (.idx (t 25) (t 26) 4),
  s 28 (.ldE 25 27 0 4 true true 4),
  s 29 (.mv (t 3)),
  s 30 (.mv (t 5)),
  s 31 (.idx (t 29) (t 30) 4),
  s 32 (.ldE 29 31 0 4 true true 4),
  k 33 79 [(t 28), (t 32)] .sc,
  s 34 (.mv (t 6)),
  s 35 (.bin .neq (t 33) (t 34))])
 (.cond (t 35) (.seq (.ops [s 2 (.mv (c (.bool false)))])
 .ret) .skip))))))
 (.ops [s 36 (.bin .add (t 18) (c (i 1))),
  s 18 (.mv (t 36))])))))))))
 (.ops [s 37 (.bin .add (t 14) (c (i 1))),
  s 14 (.mv (t 37))])))))))
 (.seq (.ops [s 2 (.mv (c (.bool true)))])
 .ret))))), none, [2], [false]⟩
def i77 : Comp := ⟨(.seq (.ops [s 2 (.mv (c (.lst 4 true [])))])
 (.seq (.ops [s 6 (.bsl 4 []),
  s 3 (.mv (t 6))])
 (.seq (.seq (.ops [s 7 (.mv (t 0)),
  s 8 (.len false (t 7)),
  s 9 (.mv (c (i 0)))])
 (.block 0 (.loop (.seq (.ops [s 10 (.bin .lss (t 9) (t 8))])
 (.seq (.cond (t 10) .skip (.exit 0))
 (.seq (.block 1 (.seq (.ops [s 11 (.mv (t 9)),
  s 12 (.idx (t 7) (t 9) 2),
  s 13 (.ldE 7 12 0 2 true true 2),
  s 5 (.alc [(i 0), (i 0)]),
  s 4 (.mv (t 11)),
  s 5 (.stB 5 0 2 (t 13) false)])
 (.ops [s 14 (.mv (t 3)),
  s 15 (.ldB 5 0 2 true true),
  s 16 (.mv (t 0)),
  s 17 (.mv (t 4)),
  s 18 (.bin .add (t 17) (c (i 1))),
  s 19 (.mv (t 0)),
  s 20 (.len false (t 19)),
  s 21 (.bin .rem (t 18) (t 20)),
  s 22 (.idx (t 16) (t 21) 2),
  s 23 (.ldE 16 22 0 2 true true 2),
  s 24 (.bld [(i 0), (i 0), (i 0), (i 0)] [(0, 2, (t 15)), (2, 2, (t 23))]),
  s 25 (.bsl 4 [(t 24)]),
  s 26 (.app (t 14) (t 25) 4 32),
  s 3 (.mv (t 26))])))
 (.ops [s 27 (.bin .add (t 9) (c (i 1))),
  s 9 (.mv (t 27))])))))))
 (.seq (.ops [s 28 (.mv (t 3)),
  s 2 (.mv (t 28))])
 .ret)))), none, [2], [false]⟩
def i78 : Comp := ⟨(.seq (.ops [s 1 (.box 4 (t 0)),
  s 2 (.mv (c (.bool false)))])
 (.seq (.ops [s 3 (.mv (c (i 0))),
  s 4 (.ldB 1 0 2 true true),
  k 5 58 [(t 4)] .sc,
  s 6 (.mv (t 5)),
  sg [(6, true)] 7 (.mv (c (i 0))),
  sg [(6, true)] 8 (.ldB 1 2 2 true true),
  kg [(6, true)] 9 58 [(t 8)] .sc,
  s 10 (.pick (t 6) (t 9) (c (.bool false))),
  s 11 (.mv (t 10)),
  sg [(11, true)] 12 (.mv (c (i 0))),
  sg [(11, true)] 13 (.ldB 1 0 2 true true),
  sg [(11, true)] 14 (.mv (c (i 0))),
  sg [(11, true)] 15 (.ldB 1 2 2 true true),
  sg [(11, true)] 16 (.eqa true [0, 0] (t 13) (t 15)),
  s 17 (.pick (t 11) (t 16) (c (.bool false))),
  s 2 (.mv (t 17))])
 .ret)), none, [2], [true]⟩
def i79 : Comp := ⟨(.seq (.ops [s 2 (.box 4 (t 0)),
  s 3 (.box 4 (t 1)),
  s 4 (.mv (c (i 0)))])
 (.seq (.seq (.ops [s 9 (.ldB 2 0 4 true true),
  k 10 78 [(t 9)] .sc,
  s 11 (.not (t 10)),
  s 12 (.mv (t 11)),
  sg [(12, false)] 13 (.ldB 3 0 4 true true),
  kg [(12, false)] 14 78 [(t 13)] .sc,
  sg [(12, false)] 15 (.not (t 14)),
  s 16 (.pick (t 12) (c (.bool true)) (t 15))])
 (.cond (t 16) (.seq (.ops [s 4 (.mv (c (i 0)))])
 .ret) .skip))
 (.seq (.ops [s 17 (.mv (c (i 0))),
  s 18 (.ldB 2 0 2 true true),
  s 19 (.mv (c (i 0))),
  s 20 (.ldB 2 2 2 true true),
  s 21 (.mv (c (i 0))),
  s 22 (.ldB 3 0 2 true true),
  k 23 107 [(t 18), (t 20), (t 22)] .sc,
  s 24 (.mv (c (i 0))),
  s 25 (.ldB 2 0 2 true true),
  s 26 (.mv (c (i 0))),
  s 27 (.ldB 2 2 2 true true),
  s 28 (.mv (c (i 0))),
  s 29 (.ldB 3 2 2 true true),
  k 30 107 [(t 25), (t 27), (t 29)] .sc,
  s 5 (.mv (t 23)),
  s 6 (.mv (t 30))])
 (.seq (.seq (.ops [s 31 (.mv (t 5)),
  s 32 (.bin .eql (t 31) (c (i 0))),
  s 33 (.mv (t 32)),
  sg [(33, true)] 34 (.mv (t 6)),
  sg [(33, true)] 35 (.bin .eql (t 34) (c (i 0))),
  s 36 (.pick (t 33) (t 35) (c (.bool false)))])
 (.cond (t 36) (.seq (.ops [s 37 (.ldB 2 0 4 true true),
  k 38 108 [(t 37)] .sc,
  s 39 (.ldB 3 0 4 true true),
  k 40 108 [(t 39)] .sc,
  s 2 (.stB 2 0 4 (t 38) false),
  s 3 (.stB 3 0 4 (t 40) false)])
 (.seq (.ops [s 41 (.mv (c (i 0))),
  s 42 (.ldB 2 0 2 true true),
  s 43 (.mv (c (i 0))),
  s 44 (.ldB 2 2 2 true true),
  s 7 (.alc [(i 0), (i 0)]),
  s 8 (.alc [(i 0), (i 0)]),
  s 7 (.stB 7 0 2 (t 42) false),
  s 8 (.stB 8 0 2 (t 44) false)])
 (.seq (.seq (.ops [s 45 (.ldB 7 0 2 true true),
  s 46 (.mv (c (i 0))),
  s 47 (.ldB 3 0 2 true true),
  k 48 109 [(t 45), (t 47)] .sc])
 (.cond (t 48) (.ops [s 49 (.mv (c (i 0))),
  s 50 (.ldB 3 0 2 true true),
  s 7 (.stB 7 0 2 (t 50) false)]) .skip))
 (.seq (.seq (.ops [s 51 (.mv (c (i 0))),
  s 52 (.ldB 3 2 2 true true),
  s 53 (.ldB 8 0 2 true true),
  k 54 109 [(t 52), (t 53)] .sc])
 (.cond (t 54) (.ops [s 55 (.mv (c (i 0))),
  s 56 (.ldB 3 2 2 true true),
  s 8 (.stB 8 0 2 (t 56) false)]) .skip))
 (.seq (.block 0 (.seq (.ops [s 58 (.ldB 8 0 2 true true),
  s 59 (.ldB 7 0 2 true true),
  k 60 109 [(t 58), (t 59)] .sc,
  s 57 (.mv (t 60))])
 (.cond (t 57) (.seq (.ops [s 4 (.mv (c (i 0)))])
 .ret) (.seq (.ops [s 62 (.ldB 7 0 2 true true),
  s 63 (.ldB 8 0 2 true true),
  s 64 (.eqa false [0, 0] (t 62) (t 63)),
  s 61 (.mv (t 64))])
 (.cond (t 61) (.seq (.ops [s 4 (.mv (c (i 1)))])
 .ret) .skip)))))
 (.seq (.ops [s 4 (.mv (c (i 3)))])
 .ret)))))) .skip))
 (.seq (.seq (.ops [s 65 (.mv (t 5)),
  s 66 (.mv (t 6)),
  s 67 (.bin .mul (t 65) (t 66)),
  s 68 (.bin .lss (t 67) (c (i 0))),
  s 69 (.mv (t 68)),
  sg [(69, true)] 70 (.mv (c (i 0))),
  sg [(69, true)] 71 (.ldB 3 0 2 true true),
  sg [(69, true)] 72 (.mv (c (i 0))),
  sg [(69, true)] 73 (.ldB 3 2 2 true true),
  sg [(69, true)] 74 (.mv (c (i 0))),
  sg [(69, true)] 75 (.ldB 2 0 2 true true),
  kg [(69, true)] 76 107 [(t 71), (t 73), (t 75)] .sc,
  sg [(69, true)] 77 (.mv (c (i 0))),
  sg [(69, true)] 78 (.ldB 3 0 2 true true),
  sg [(69, true)] 79 (.mv (c (i 0))),
  sg [(69, true)] 80 (.ldB 3 2 2 true true),
  sg [(69, true)] 81 (.mv (c (i 0))),
  sg [(69, true)] 82 (.ldB 2 2 2 true true),
  kg [(69, true)] 83 107 [(t 78), (t 80), (t 82)] .sc,
  sg [(69, true)] 84 (.bin .mul (t 76) (t 83)),
  sg [(69, true)] 85 (.bin .lss (t 84) (c (i 0))),
  s 86 (.pick (t 69) (t 85) (c (.bool false)))])
 (.cond (t 86) (.seq (.ops [s 4 (.mv (c (i 2)))])
 .ret) .skip))
 (.seq (.seq (.ops [s 87 (.ldB 2 0 4 true true),
  s 88 (.mv (c (i 0))),
  s 89 (.ldB 3 0 2 true true),
  k 90 110 [(t 87), (t 89)] .sc,
  s 91 (.mv (t 90)),
  sg [(91, false)] 92 (.ldB 2 0 4 true true),
  sg [(91, false)] 93 (.mv (c (i 0))),
  sg [(91, false)] 94 (.ldB 3 2 2 true true),
  kg [(91, false)] 95 110 [(t 92), (t 94)] .sc,
  s 96 (.pick (t 91) (c (.bool true)) (t 95)),
  s 97 (.mv (t 96)),
  sg [(97, false)] 98 (.ldB 3 0 4 true true),
  sg [(97, false)] 99 (.mv (c (i 0))),
  sg [(97, false)] 100 (.ldB 2 0 2 true true),
  kg [(97, false)] 101 110 [(t 98), (t 100)] .sc,
  s 102 (.pick (t 97) (c (.bool true)) (t 101)),
  s 103 (.mv (t 102)),
  sg [(103, false)] 104 (.ldB 3 0 4 true true),
  sg [(103, false)] 105 (.mv (c (i 0))),
  sg [(103, false)] 106 (.ldB 2 2 2 true true),
  kg [(103, false)] 107 110 [(t 104), (t 106)] .sc,
  s 108 (.pick (t 103) (c (.bool true)) (t 107))])
 (.cond (t 108) (.seq (.ops [s 4 (.mv (c (i 1)))])
 .ret) .skip))
 (.seq (.ops [s 4 (.mv (c (i 0)))])
 .ret))))))), none, [4], [true, true]⟩
def i89 : Comp := ⟨(.seq (.ops [s 3 (.box 5 (t 1)),
  s 4 (.mv (c (.lst 5 true []))),
  s 5 (.mv (c (.bool false)))])
 (.seq (.ops [s 6 (.mv (c (i 0)))])
 (.seq (.block 0 (.loop (.seq (.seq (.ops [s 9 (.mv (t 6)),
  s 10 (.mv (t 0)),
  s 11 (.len false (t 10)),
  s 12 (.bin .lss (t 9) (t 11)),
  s 13 (.mv (t 12)),
  sg [(13, true)] 14 (.mv (t 0)),
  sg [(13, true)] 15 (.mv (t 6)),
  sg [(13, true)] 16 (.idx (t 14) (t 15) 5),
  sg [(13, true)] 17 (.mv (t 16)),
  sg [(13, true)] 18 (.ldE 14 17 0 1 false true 5),
  sg [(13, true)] 19 (.mv (c (i 0))),
  sg [(13, true)] 20 (.ldB 3 0 1 false true),
  sg [(13, true)] 21 (.bin .lss (t 18) (t 20)),
  s 22 (.pick (t 13) (t 21) (c (.bool false)))])
 (.cond (t 22) .skip (.exit 0)))
 (.block 1 (.ops [s 23 (.mv (t 6)),
  s 24 (.bin .add (t 23) (c (i 1))),
  s 6 (.mv (t 24))])))))
 (.seq (.ops [s 25 (.mv (t 0)),
  s 26 (.mv (t 6)),
  s 27 (.sl 5 (t 25) (some (t 26)) none),
  s 7 (.mv (t 27))])
 (.seq (.seq (.ops [s 28 (.mv (t 7)),
  s 29 (.len false (t 28)),
  s 30 (.bin .gtr (t 29) (c (i 0))),
  s 31 (.mv (t 30)),
  sg [(31, true)] 32 (.mv (t 7)),
  sg [(31, true)] 33 (.idx (t 32) (c (i 0)) 5),
  sg [(31, true)] 34 (.mv (t 33)),
  sg [(31, true)] 35 (.ldE 32 34 0 1 false true 5),
  sg [(31, true)] 36 (.mv (c (i 0))),
  sg [(31, true)] 37 (.ldB 3 0 1 false true),
  sg [(31, true)] 38 (.bin .eql (t 35) (t 37)),
  s 39 (.pick (t 31) (t 38) (c (.bool false)))])
 (.cond (t 39) (.ops [s 40 (.mv (t 7)),
  s 41 (.sl 5 (t 40) (some (c (i 1))) none),
  s 7 (.mv (t 41))]) .skip))
 (.seq (.ops [s 42 (.mv (t 0)),
  s 43 (.mv (t 6)),
  s 44 (.sl 5 (t 42) none (some (t 43))),
  k 45 114 [(t 44)] .lin,
  s 46 (.ldB 3 0 5 true false),
  k 47 115 [(t 46)] .lin,
  s 48 (.bsl 5 [(t 47)]),
  s 49 (.app (t 45) (t 48) 5 64),
  s 50 (.mv (t 7)),
  k 51 114 [(t 50)] .lin,
  s 52 (.app (t 49) (t 51) 5 64),
  s 8 (.mv (t 52))])
 (.seq (.seq (.ops [s 53 (.mv (t 8)),
  k 54 44 [(t 53)] .sc,
  s 55 (.not (t 54))])
 (.cond (t 55) (.seq (.ops [s 56 (.mv (t 0)),
  k 57 114 [(t 56)] .lin,
  s 4 (.mv (t 57)),
  s 5 (.mv (c (.bool false)))])
 .ret) .skip))
 (.seq (.ops [s 58 (.mv (t 8)),
  s 4 (.mv (t 58)),
  s 5 (.mv (c (.bool true)))])
 .ret)))))))), none, [4, 5], [false, false]⟩
def i90 : Comp := ⟨(.seq (.ops [s 4 (.alc [(i 0), (i 0), (i 0), (.str (bs [])), (.lst 2 true [])])])
 (.seq (.seq (.ops [s 6 (.mv (t 1)),
  s 7 (.mv (c .junk))])
 (.seq (opC 8 52 0 [(c (i 3))] .sc)
 (.seq (.ops [s 9 (.bin .add (c (i 1)) (t 8)),
  s 10 (.mv (c .junk))])
 (.seq (opC 11 52 0 [(c (i 6))] .sc)
 (.seq (.ops [s 12 (.mv (c .junk))])
 (.seq (opC 13 116 0 [] .sc)
 (.ops [s 14 (.bld [(i 0), (i 0), (i 0), (.str (bs [])), (.lst 2 true [])] [(0, 1, (t 6)), (1, 1, (t 9)), (2, 1, (t 11)), (3, 1, (t 13))]),
  s 5 (.alc [(i 0), (i 0), (i 0), (.str (bs [])), (.lst 2 true [])]),
  s 5 (.stB 5 0 5 (t 14) false)])))))))
 (.seq (.seq (.ops [s 15 (.mv (c (i 0))),
  s 16 (.ldB 5 1 1 false true)])
 (.block 0 (.seq (.ops [s 21 (.bin .eql (t 16) (c (i 1))),
  s 20 (.mv (t 21))])
 (.cond (t 20) (.seq (.ops [s 22 (.mv (c .junk))])
 (.seq (opC 23 117 0 [] .sc)
 (.ops [s 24 (.bsl 2 [(t 23)]),
  s 25 (.mv (c (i 0))),
  s 5 (.stB 5 4 1 (t 24) false)]))) (.seq (.ops [s 27 (.bin .eql (t 16) (c (i 2))),
  s 26 (.mv (t 27))])
 (.cond (t 26) (.seq (.ops [s 28 (.mv (c .junk))])
 (.seq (opC 29 92 0 [] .lin)
 (.ops [s 30 (.mv (c (i 0))),
  s 5 (.stB 5 4 1 (t 29) false)]))) (.seq (.ops [s 17 (.mv (c .junk))])
 (.seq (opC 18 118 0 [] .lin)
 (.ops [s 19 (.mv (c (i 0))),
  s 5 (.stB 5 4 1 (t 18) false)])))))))))
 (.seq (.ops [s 31 (.ldB 5 0 5 true false),
  s 4 (.stB 4 0 5 (t 31) false)])
 .ret)))), (some ⟨4, 47, 5, true⟩), [], [true]⟩
def i92 : Comp := ⟨(.seq (.ops [s 2 (.mv (c (.lst 2 true [])))])
 (.seq (.seq (.ops [s 7 (.mv (c .junk))])
 (.seq (opC 8 117 0 [] .sc)
 (.ops [s 9 (.bsl 2 [(t 8)]),
  s 3 (.mv (t 9))])))
 (.seq (.seq (.seq (.ops [s 10 (.mv (c .junk))])
 (.seq (opC 11 52 0 [(c (i 5))] .sc)
 (.ops [s 12 (.bin .add (c (i 1)) (t 11)),
  s 4 (.mv (t 12))])))
 (.block 0 (.loop (.seq (.seq (.ops [s 13 (.mv (t 4)),
  s 14 (.bin .gtr (t 13) (c (i 0)))])
 (.cond (t 14) .skip (.exit 0)))
 (.seq (.block 1 (.seq (.ops [s 17 (.mv (t 3)),
  s 18 (.mv (t 3)),
  s 19 (.len false (t 18)),
  s 20 (.bin .sub (t 19) (c (i 1))),
  s 21 (.idx (t 17) (t 20) 2),
  s 22 (.ldE 17 21 0 2 true true 2),
  s 5 (.alc [(i 0), (i 0)]),
  s 5 (.stB 5 0 2 (t 22) false)])
 (.seq (.seq (.ops [s 23 (.mv (c .junk)),
  s 25 (.mv (c (i 0))),
  s 26 (.ldB 5 1 1 false true),
  s 27 (.mv (c .junk)),
  s 6 (.alc [(i 0), (i 0)])])
 (.seq (opC 24 52 0 [(c (i 14))] .sc)
 (.seq (.ops [])
 (.seq (opC 28 52 0 [(c (i 4))] .sc)
 (.ops [s 29 (.bin .add (t 26) (t 28)),
  k 30 119 [(c (i 200)), (t 29)] .sc,
  s 31 (.bld [(i 0), (i 0)] [(0, 1, (t 24)), (1, 1, (t 30))]),
  s 6 (.stB 6 0 2 (t 31) false)])))))
 (.seq (.seq (.ops [s 32 (.ldB 6 0 2 true true),
  s 33 (.ldB 5 0 2 true true),
  s 34 (.eqa false [0, 0] (t 32) (t 33))])
 (.cond (t 34) (.ops [s 35 (.mv (c (i 0))),
  s 36 (.ldB 6 0 1 false true),
  s 37 (.bin .add (t 36) (c (i 1))),
  s 38 (.mv (c (i 0))),
  s 6 (.stB 6 0 1 (t 37) false)]) .skip))
 (.ops [s 39 (.mv (t 3)),
  s 40 (.ldB 6 0 2 true true),
  s 41 (.bsl 2 [(t 40)]),
  s 42 (.app (t 39) (t 41) 2 16),
  s 3 (.mv (t 42))])))))
 (.ops [s 15 (.mv (t 4)),
  s 16 (.bin .sub (t 15) (c (i 1))),
  s 4 (.mv (t 16))]))))))
 (.seq (.ops [s 43 (.mv (t 3)),
  s 2 (.mv (t 43))])
 .ret)))), none, [2], []⟩
def i93 : Comp := ⟨(.seq (.ops [s 2 (.alc [(i 0), (i 0)])])
 (.seq (.seq (.ops [s 4 (.mv (c .junk))])
 (.seq (opC 5 117 0 [] .sc)
 (.ops [s 3 (.alc [(i 0), (i 0)]),
  s 3 (.stB 3 0 2 (t 5) false)])))
 (.seq (.seq (.seq (.ops [s 6 (.mv (c .junk))])
 (.seq (opC 7 52 0 [(c (i 12))] .sc)
 (.ops [])))
 (.block 0 (.seq (.ops [s 9 (.bin .eql (t 7) (c (i 0))),
  s 8 (.mv (t 9))])
 (.cond (t 8) (.seq (.ops [s 10 (.mv (c .junk))])
 (.seq (opC 11 120 0 [] .sc)
 (.ops [s 12 (.mv (c (i 0))),
  s 3 (.stB 3 0 1 (t 11) false)]))) (.seq (.ops [s 14 (.bin .eql (t 7) (c (i 1))),
  s 13 (.mv (t 14))])
 (.cond (t 13) (.seq (.ops [s 15 (.mv (c .junk))])
 (.seq (opC 16 120 0 [] .sc)
 (.ops [s 17 (.mv (c (i 0))),
  s 3 (.stB 3 1 1 (t 16) false)]))) .skip))))))
 (.seq (.ops [s 18 (.ldB 3 0 2 true true),
  s 2 (.stB 2 0 2 (t 18) false)])
 .ret)))), (some ⟨2, 42, 2, true⟩), [], []⟩
def i94 : Comp := ⟨(.seq (.ops [s 2 (.mv (c (.str (bs []))))])
 (.seq (.ops [s 3 (.mv (t 0)),
  k 4 121 [(t 3)] .sc,
  s 2 (.mv (t 4))])
 .ret)), none, [2], [true]⟩
def i100 : Comp := ⟨(.seq (.ops [s 2 (.mv (c (.bool false)))])
 (.seq (.seq (.ops [s 3 (.mv (c (i 0)))])
 (.block 0 (.loop (.seq (.seq (.ops [s 4 (.mv (t 3)),
  s 5 (.mv (t 0)),
  s 6 (.len true (t 5)),
  s 7 (.bin .lss (t 4) (t 6))])
 (.cond (t 7) .skip (.exit 0)))
 (.seq (.block 1 (.seq (.ops [s 10 (.mv (t 0)),
  s 11 (.mv (t 3)),
  s 12 (.six (t 10) (t 11)),
  s 13 (.bin .lss (t 12) (c (.int .u8 (97)))),
  s 14 (.mv (t 13)),
  sg [(14, false)] 15 (.mv (t 0)),
  sg [(14, false)] 16 (.mv (t 3)),
  sg [(14, false)] 17 (.six (t 15) (t 16)),
  sg [(14, false)] 18 (.bin .gtr (t 17) (c (.int .u8 (122)))),
  s 19 (.pick (t 14) (c (.bool true)) (t 18))])
 (.cond (t 19) (.seq (.ops [s 2 (.mv (c (.bool false)))])
 .ret) .skip)))
 (.ops [s 8 (.mv (t 3)),
  s 9 (.bin .add (t 8) (c (i 1))),
  s 3 (.mv (t 9))]))))))
 (.seq (.ops [s 20 (.mv (t 0)),
  s 21 (.len true (t 20)),
  k 22 71 [(t 21), (c (i 1)), (c (i 8))] .sc,
  s 2 (.mv (t 22))])
 .ret))), none, [2], [true]⟩
def i101 : Comp := ⟨(.seq (.ops [s 2 (.mv (c (.bool false)))])
 (.seq (.ops [s 7 (.mv (t 0)),
  k 8 123 [(t 7)] .lin,
  s 3 (.mv (t 8))])
 (.seq (.seq (.ops [s 4 (.mv (c (i 0)))])
 (.block 0 (.loop (.seq (.seq (.ops [s 9 (.mv (t 4)),
  s 10 (.mv (t 3)),
  s 11 (.len false (t 10)),
  s 12 (.bin .lss (t 9) (t 11))])
 (.cond (t 12) .skip (.exit 0)))
 (.seq (.block 1 (.seq (.ops [s 5 (.mv (c (i 0)))])
 (.block 2 (.loop (.seq (.seq (.ops [s 15 (.mv (t 5)),
  s 16 (.mv (t 4)),
  s 17 (.bin .lss (t 15) (t 16))])
 (.cond (t 17) .skip (.exit 2)))
 (.seq (.block 3 (.seq (.ops [s 6 (.mv (c (i 0)))])
 (.seq (.seq (.ops [s 20 (.mv (t 5)),
  s 21 (.bin .add (t 20) (c (i 1))),
  s 22 (.mv (t 4)),
  s 23 (.bin .eql (t 21) (t 22))])
 (.cond (t 23) (.ops [s 6 (.mv (c (i 1)))]) .skip))
 (.seq (.ops [s 24 (.mv (t 3)),
  s 25 (.mv (t 4)),
  s 26 (.idx (t 24) (t 25) 4),
  s 27 (.ldE 24 26 0 4 true true 4),
  s 28 (.mv (t 3)),
  s 29 (.mv (t 5)),
  s 30 (.idx (t 28) (t 29) 4),
  s 31 (.ldE 28 30 0 4 true true 4),
  k 32 104 [(t 27), (t 31)] .sc,
  s 33 (.mv (t 6)),
  s 34 (.bin .neq (t 32) (t 33))])
 (.cond (t 34) (.seq (.ops [s 2 (.mv (c (.bool false)))])
 .ret) .skip)))))
 (.ops [s 18 (.mv (t 5)),
  s 19 (.bin .add (t 18) (c (i 1))),
  s 5 (.mv (t 19))])))))))
 (.ops [s 13 (.mv (t 4)),
  s 14 (.bin .add (t 13) (c (i 1))),
  s 4 (.mv (t 14))]))))))
 (.seq (.ops [s 35 (.mv (t 0)),
  k 36 124 [(t 35)] .sc,
  s 2 (.mv (t 36))])
 .ret)))), none, [2], [false]⟩
def i102 : Comp := ⟨(.seq (.ops [s 2 (.mv (c (.lst 4 true [])))])
 (.seq (.ops [s 5 (.bsl 4 []),
  s 3 (.mv (t 5))])
 (.seq (.seq (.ops [s 4 (.mv (c (i 0)))])
 (.block 0 (.loop (.seq (.seq (.ops [s 6 (.mv (t 4)),
  s 7 (.mv (t 0)),
  s 8 (.len false (t 7)),
  s 9 (.bin .lss (t 6) (t 8))])
 (.cond (t 9) .skip (.exit 0)))
 (.seq (.block 1 (.ops [s 12 (.mv (t 3)),
  s 13 (.mv (t 0)),
  s 14 (.mv (t 4)),
  s 15 (.idx (t 13) (t 14) 2),
  s 16 (.ldE 13 15 0 2 true true 2),
  s 17 (.mv (t 0)),
  s 18 (.mv (t 4)),
  s 19 (.bin .add (t 18) (c (i 1))),
  s 20 (.mv (t 0)),
  s 21 (.len false (t 20)),
  s 22 (.bin .rem (t 19) (t 21)),
  s 23 (.idx (t 17) (t 22) 2),
  s 24 (.ldE 17 23 0 2 true true 2),
  s 25 (.bld [(i 0), (i 0), (i 0), (i 0)] [(0, 2, (t 16)), (2, 2, (t 24))]),
  s 26 (.bsl 4 [(t 25)]),
  s 27 (.app (t 12) (t 26) 4 32),
  s 3 (.mv (t 27))]))
 (.ops [s 10 (.mv (t 4)),
  s 11 (.bin .add (t 10) (c (i 1))),
  s 4 (.mv (t 11))]))))))
 (.seq (.ops [s 28 (.mv (t 3)),
  s 2 (.mv (t 28))])
 .ret)))), none, [2], [false]⟩
def i103 : Comp := ⟨(.seq (.ops [s 1 (.box 4 (t 0)),
  s 2 (.mv (c (.bool false)))])
 (.seq (.ops [s 3 (.mv (c (i 0))),
  s 4 (.ldB 1 0 2 true true),
  k 5 73 [(t 4)] .sc,
  s 6 (.mv (t 5)),
  sg [(6, true)] 7 (.mv (c (i 0))),
  sg [(6, true)] 8 (.ldB 1 2 2 true true),
  kg [(6, true)] 9 73 [(t 8)] .sc,
  s 10 (.pick (t 6) (t 9) (c (.bool false))),
  s 11 (.mv (t 10)),
  sg [(11, true)] 12 (.mv (c (i 0))),
  sg [(11, true)] 13 (.ldB 1 0 2 true true),
  sg [(11, true)] 14 (.mv (c (i 0))),
  sg [(11, true)] 15 (.ldB 1 2 2 true true),
  sg [(11, true)] 16 (.eqa true [0, 0] (t 13) (t 15)),
  s 17 (.pick (t 11) (t 16) (c (.bool false))),
  s 2 (.mv (t 17))])
 .ret)), none, [2], [true]⟩
def i104 : Comp := ⟨(.seq (.ops [s 2 (.box 4 (t 0)),
  s 3 (.box 4 (t 1)),
  s 4 (.mv (c (i 0)))])
 (.seq (.seq (.ops [s 5 (.ldB 2 0 4 true true),
  k 6 103 [(t 5)] .sc,
  s 7 (.not (t 6)),
  s 8 (.mv (t 7)),
  sg [(8, false)] 9 (.ldB 3 0 4 true true),
  kg [(8, false)] 10 103 [(t 9)] .sc,
  sg [(8, false)] 11 (.not (t 10)),
  s 12 (.pick (t 8) (c (.bool true)) (t 11))])
 (.cond (t 12) (.seq (.ops [s 4 (.mv (c (i 0)))])
 .ret) .skip))
 (.seq (.seq (.ops [s 13 (.mv (c (i 0))),
  s 14 (.mv (t 13)),
  s 15 (.ldB 2 0 1 false true),
  s 16 (.mv (c (i 0))),
  s 17 (.mv (t 16)),
  s 18 (.ldB 2 2 1 false true),
  k 19 125 [(t 15), (t 18)] .sc,
  s 20 (.mv (c (i 0))),
  s 21 (.mv (t 20)),
  s 22 (.ldB 3 0 1 false true),
  s 23 (.mv (c (i 0))),
  s 24 (.mv (t 23)),
  s 25 (.ldB 3 2 1 false true),
  k 26 119 [(t 22), (t 25)] .sc,
  s 27 (.bin .lss (t 19) (t 26)),
  s 28 (.mv (t 27)),
  sg [(28, false)] 29 (.mv (c (i 0))),
  sg [(28, false)] 30 (.mv (t 29)),
  sg [(28, false)] 31 (.ldB 3 0 1 false true),
  sg [(28, false)] 32 (.mv (c (i 0))),
  sg [(28, false)] 33 (.mv (t 32)),
  sg [(28, false)] 34 (.ldB 3 2 1 false true),
  kg [(28, false)] 35 125 [(t 31), (t 34)] .sc,
  sg [(28, false)] 36 (.mv (c (i 0))),
  sg [(28, false)] 37 (.mv (t 36)),
  sg [(28, false)] 38 (.ldB 2 0 1 false true),
  sg [(28, false)] 39 (.mv (c (i 0))),
  sg [(28, false)] 40 (.mv (t 39)),
  sg [(28, false)] 41 (.ldB 2 2 1 false true),
  kg [(28, false)] 42 119 [(t 38), (t 41)] .sc,
  sg [(28, false)] 43 (.bin .lss (t 35) (t 42)),
  s 44 (.pick (t 28) (c (.bool true)) (t 43)),
  s 45 (.mv (t 44)),
  sg [(45, false)] 46 (.mv (c (i 0))),
  sg [(45, false)] 47 (.mv (t 46)),
  sg [(45, false)] 48 (.ldB 2 1 1 false true),
  sg [(45, false)] 49 (.mv (c (i 0))),
  sg [(45, false)] 50 (.mv (t 49)),
  sg [(45, false)] 51 (.ldB 2 3 1 false true),
  kg [(45, false)] 52 125 [(t 48), (t 51)] .sc,
  sg [(45, false)] 53 (.mv (c (i 0))),
  sg [(45, false)] 54 (.mv (t 53)),
  sg [(45, false)] 55 (.ldB 3 1 1 false true),
  sg [(45, false)] 56 (.mv (c (i 0))),
  sg [(45, false)] 57 (.mv (t 56)),
  sg [(45, false)] 58 (.ldB 3 3 1 false true),
  kg [(45, false)] 59 119 [(t 55), (t 58)] .sc,
  sg [(45, false)] 60 (.bin .lss (t 52) (t 59)),
  s 61 (.pick (t 45) (c (.bool true)) (t 60)),
  s 62 (.mv (t 61)),
  sg [(62, false)] 63 (.mv (c (i 0))),
  sg [(62, false)] 64 (.mv (t 63)),
  sg [(62, false)] 65 (.ldB 3 1 1 false true),
  sg [(62, false)] 66 (.mv (c (i 0))),
  sg [(62, false)] 67 (.mv (t 66)),
  sg [(62, false)] 68 (.ldB 3 3 1 false true),
  kg [(62, false)] 69 125 [(t 65), (t 68)] .sc,
  sg [(62, false)] 70 (.mv (c (i 0))),
  sg [(62, false)] 71 (.mv (t 70)),
  sg [(62, false)] 72 (.ldB 2 1 1 false true),
  sg [(62, false)] 73 (.mv (c (i 0))),
  sg [(62, false)] 74 (.mv (t 73)),
  sg [(62, false)] 75 (.ldB 2 3 1 false true),
  kg [(62, false)] 76 119 [(t 72), (t 75)] .sc,
  sg [(62, false)] 77 (.bin .lss (t 69) (t 76)),
  s 78 (.pick (t 62) (c (.bool true)) (t 77))])
 (.cond (t 78) (.seq (.ops [s 4 (.mv (c (i 0)))])
 .ret) .skip))
 (.seq (.seq (.ops [s 79 (.ldB 2 0 4 true true),
  s 80 (.ldB 3 0 4 true true),
  k 81 126 [(t 79), (t 80)] .sc])
 (.block 0 (.seq (.ops [s 83 (.bin .eql (t 81) (c (i 0))),
  s 82 (.mv (t 83))])
 (.cond (t 82) (.seq (.seq (.ops [s 84 (.mv (c (i 0))),
  s 85 (.ldB 2 0 2 true true),
  s 86 (.mv (c (i 0))),
  s 87 (.ldB 2 2 2 true true),
  s 88 (.mv (c (i 0))),
  s 89 (.ldB 3 0 2 true true),
  k 90 127 [(t 85), (t 87), (t 89)] .sc,
  s 91 (.mv (c (i 0))),
  s 92 (.ldB 2 0 2 true true),
  s 93 (.mv (c (i 0))),
  s 94 (.ldB 2 2 2 true true),
  s 95 (.mv (c (i 0))),
  s 96 (.ldB 3 2 2 true true),
  k 97 127 [(t 92), (t 94), (t 96)] .sc,
  s 98 (.bin .mul (t 90) (t 97)),
  s 99 (.bin .lss (t 98) (c (i 0))),
  s 100 (.mv (t 99)),
  sg [(100, true)] 101 (.mv (c (i 0))),
  sg [(100, true)] 102 (.ldB 3 0 2 true true),
  sg [(100, true)] 103 (.mv (c (i 0))),
  sg [(100, true)] 104 (.ldB 3 2 2 true true),
  sg [(100, true)] 105 (.mv (c (i 0))),
  sg [(100, true)] 106 (.ldB 2 0 2 true true),
  kg [(100, true)] 107 127 [(t 102), (t 104), (t 106)] .sc,
  sg [(100, true)] 108 (.mv (c (i 0))),
  sg [(100, true)] 109 (.ldB 3 0 2 true true),
  sg [(100, true)] 110 (.mv (c (i 0))),
  sg [(100, true)] 111 (.ldB 3 2 2 true true),
  sg [(100, true)] 112 (.mv (c (i 0))),
  sg [(100, true)] 113 (.ldB 2 2 2 true true),
  kg [(100, true)] 114 127 [(t 109), (t 111), (t 113)] .sc,
  sg [(100, true)] 115 (.bin .mul (t 107) (t 114)),
  sg [(100, true)] 116 (.bin .lss (t 115) (c (i 0))),
  s 117 (.pick (t 100) (t 116) (c (.bool false)))])
 (.cond (t 117) (.seq (.ops [s 4 (.mv (c (i 2)))])
 .ret) .skip))
 (.seq (.ops [s 4 (.mv (c (i 0)))])
 .ret)) (.seq (.ops [s 119 (.bin .eql (t 81) (c (i 1))),
  s 118 (.mv (t 119))])
 (.cond (t 118) (.seq (.ops [s 4 (.mv (c (i 1)))])
 .ret) .skip))))))
 (.seq (.ops [s 4 (.mv (c (i 3)))])
 .ret))))), none, [4], [true, true]⟩
def i105 : Comp := ⟨(.seq (.ops [s 2 (.mv (c (.bool false)))])
 (.seq (.seq (.ops [s 5 (.mv (t 0)),
  s 6 (.len false (t 5)),
  s 7 (.bin .lss (t 6) (c (i 2))),
  s 8 (.mv (t 7)),
  sg [(8, false)] 9 (.mv (t 0)),
  sg [(8, false)] 10 (.len false (t 9)),
  sg [(8, false)] 11 (.bin .gtr (t 10) (c (i 10))),
  s 12 (.pick (t 8) (c (.bool true)) (t 11))])
 (.cond (t 12) (.seq (.ops [s 2 (.mv (c (.bool false)))])
 .ret) .skip))
 (.seq (.seq (.ops [s 13 (.mv (t 0)),
  s 14 (.len false (t 13)),
  s 15 (.mv (c (i 0)))])
 (.block 0 (.loop (.seq (.ops [s 16 (.bin .lss (t 15) (t 14))])
 (.seq (.cond (t 16) .skip (.exit 0))
 (.seq (.block 1 (.seq (.ops [s 17 (.mv (t 15)),
  s 18 (.idx (t 13) (t 15) 2),
  s 19 (.ldE 13 18 0 2 true true 2),
  s 4 (.alc [(i 0), (i 0)]),
  s 3 (.mv (t 17)),
  s 4 (.stB 4 0 2 (t 19) false)])
 (.seq (.ops [s 20 (.ldB 4 0 2 true true),
  k 21 58 [(t 20)] .sc,
  s 22 (.not (t 21)),
  s 23 (.mv (t 22)),
  sg [(23, false)] 24 (.mv (t 3)),
  sg [(23, false)] 25 (.bin .gtr (t 24) (c (i 0))),
  sg [(23, false)] 26 (.mv (t 25)),
  sg [(26, true), (23, false)] 27 (.ldB 4 0 2 true true),
  sg [(26, true), (23, false)] 28 (.mv (t 0)),
  sg [(26, true), (23, false)] 29 (.mv (t 3)),
  sg [(26, true), (23, false)] 30 (.bin .sub (t 29) (c (i 1))),
  sg [(26, true), (23, false)] 31 (.idx (t 28) (t 30) 2),
  sg [(26, true), (23, false)] 32 (.ldE 28 31 0 2 true true 2),
  sg [(26, true), (23, false)] 33 (.eqa false [0, 0] (t 27) (t 32)),
  sg [(23, false)] 34 (.pick (t 26) (t 33) (c (.bool false))),
  s 35 (.pick (t 23) (c (.bool true)) (t 34))])
 (.cond (t 35) (.seq (.ops [s 2 (.mv (c (.bool false)))])
 .ret) .skip))))
 (.ops [s 36 (.bin .add (t 15) (c (i 1))),
  s 15 (.mv (t 36))])))))))
 (.seq (.ops [s 2 (.mv (c (.bool true)))])
 .ret)))), none, [2], [false]⟩
def i106 : Comp := ⟨(.seq (.ops [s 2 (.mv (c (.lst 4 true [])))])
 (.seq (.ops [s 5 (.bsl 4 []),
  s 3 (.mv (t 5))])
 (.seq (.seq (.ops [s 6 (.mv (t 0)),
  k 7 105 [(t 6)] .sc,
  s 8 (.not (t 7))])
 (.cond (t 8) (.seq (.ops [s 9 (.mv (t 3)),
  s 2 (.mv (t 9))])
 .ret) .skip))
 (.seq (.seq (.ops [s 4 (.mv (c (i 1)))])
 (.block 0 (.loop (.seq (.seq (.ops [s 10 (.mv (t 4)),
  s 11 (.mv (t 0)),
  s 12 (.len false (t 11)),
  s 13 (.bin .lss (t 10) (t 12))])
 (.cond (t 13) .skip (.exit 0)))
 (.seq (.block 1 (.ops [s 16 (.mv (t 3)),
  s 17 (.mv (t 0)),
  s 18 (.mv (t 4)),
  s 19 (.bin .sub (t 18) (c (i 1))),
  s 20 (.idx (t 17) (t 19) 2),
  s 21 (.ldE 17 20 0 2 true true 2),
  s 22 (.mv (t 0)),
  s 23 (.mv (t 4)),
  s 24 (.idx (t 22) (t 23) 2),
  s 25 (.ldE 22 24 0 2 true true 2),
  s 26 (.bld [(i 0), (i 0), (i 0), (i 0)] [(0, 2, (t 21)), (2, 2, (t 25))]),
  s 27 (.bsl 4 [(t 26)]),
  s 28 (.app (t 16) (t 27) 4 32),
  s 3 (.mv (t 28))]))
 (.ops [s 14 (.mv (t 4)),
  s 15 (.bin .add (t 14) (c (i 1))),
  s 4 (.mv (t 15))]))))))
 (.seq (.ops [s 29 (.mv (t 3)),
  s 2 (.mv (t 29))])
 .ret))))), none, [2], [false]⟩
def i107 : Comp := ⟨(.seq (.ops [s 3 (.box 2 (t 0)),
  s 4 (.box 2 (t 1)),
  s 5 (.box 2 (t 2)),
  s 6 (.mv (c (i 0)))])
 (.seq (.seq (.ops [s 7 (.ldB 3 0 2 true true),
  k 8 58 [(t 7)] .sc,
  s 9 (.not (t 8)),
  s 10 (.mv (t 9)),
  sg [(10, false)] 11 (.ldB 4 0 2 true true),
  kg [(10, false)] 12 58 [(t 11)] .sc,
  sg [(10, false)] 13 (.not (t 12)),
  s 14 (.pick (t 10) (c (.bool true)) (t 13)),
  s 15 (.mv (t 14)),
  sg [(15, false)] 16 (.ldB 5 0 2 true true),
  kg [(15, false)] 17 58 [(t 16)] .sc,
  sg [(15, false)] 18 (.not (t 17)),
  s 19 (.pick (t 15) (c (.bool true)) (t 18))])
 (.cond (t 19) (.seq (.ops [s 6 (.mv (c (i 0)))])
 .ret) .skip))
 (.seq (.ops [s 20 (.ldB 3 0 2 true true),
  s 21 (.ldB 4 0 2 true true),
  s 22 (.ldB 5 0 2 true true),
  k 23 128 [(t 20), (t 21), (t 22)] .sc,
  k 24 23 [(t 23), (c (i 0))] .sc,
  s 6 (.mv (t 24))])
 .ret))), none, [6], [true, true, true]⟩
def i108 : Comp := ⟨(.seq (.ops [s 1 (.box 4 (t 0)),
  s 2 (.alc [(i 0), (i 0), (i 0), (i 0)])])
 (.seq (.seq (.ops [s 3 (.mv (c (i 0))),
  s 4 (.ldB 1 2 2 true true),
  s 5 (.mv (c (i 0))),
  s 6 (.ldB 1 0 2 true true),
  k 7 109 [(t 4), (t 6)] .sc])
 (.cond (t 7) (.seq (.ops [s 8 (.ldB 1 0 4 true true),
  k 9 129 [(t 8)] .sc,
  s 2 (.stB 2 0 4 (t 9) false)])
 .ret) .skip))
 (.seq (.ops [s 10 (.ldB 1 0 4 true true),
  s 2 (.stB 2 0 4 (t 10) false)])
 .ret))), (some ⟨2, 104, 4, true⟩), [], [true]⟩
def i109 : Comp := ⟨(.seq (.ops [s 2 (.box 2 (t 0)),
  s 3 (.box 2 (t 1)),
  s 4 (.mv (c (.bool false)))])
 (.seq (.ops [s 5 (.mv (c (i 0))),
  s 6 (.ldB 2 1 1 false true),
  s 7 (.mv (c (i 0))),
  s 8 (.ldB 3 1 1 false true),
  s 9 (.bin .lss (t 6) (t 8)),
  s 10 (.mv (t 9)),
  sg [(10, false)] 11 (.mv (c (i 0))),
  sg [(10, false)] 12 (.ldB 2 1 1 false true),
  sg [(10, false)] 13 (.mv (c (i 0))),
  sg [(10, false)] 14 (.ldB 3 1 1 false true),
  sg [(10, false)] 15 (.bin .eql (t 12) (t 14)),
  sg [(10, false)] 16 (.mv (t 15)),
  sg [(16, true), (10, false)] 17 (.mv (c (i 0))),
  sg [(16, true), (10, false)] 18 (.ldB 2 0 1 false true),
  sg [(16, true), (10, false)] 19 (.mv (c (i 0))),
  sg [(16, true), (10, false)] 20 (.ldB 3 0 1 false true),
  sg [(16, true), (10, false)] 21 (.bin .lss (t 18) (t 20)),
  sg [(10, false)] 22 (.pick (t 16) (t 21) (c (.bool false))),
  s 23 (.pick (t 10) (c (.bool true)) (t 22)),
  s 4 (.mv (t 23))])
 .ret)), none, [4], [true, true]⟩
def i110 : Comp := ⟨(.seq (.ops [s 2 (.box 4 (t 0)),
  s 3 (.box 2 (t 1)),
  s 4 (.mv (c (.bool false)))])
 (.seq (.ops [s 5 (.ldB 2 0 4 true true),
  k 6 78 [(t 5)] .sc,
  s 7 (.mv (t 6)),
  sg [(7, true)] 8 (.ldB 3 0 2 true true),
  kg [(7, true)] 9 58 [(t 8)] .sc,
  s 10 (.pick (t 7) (t 9) (c (.bool false))),
  s 11 (.mv (t 10)),
  sg [(11, true)] 12 (.mv (c (i 0))),
  sg [(11, true)] 13 (.ldB 2 0 2 true true),
  sg [(11, true)] 14 (.mv (c (i 0))),
  sg [(11, true)] 15 (.ldB 2 2 2 true true),
  sg [(11, true)] 16 (.ldB 3 0 2 true true),
  kg [(11, true)] 17 107 [(t 13), (t 15), (t 16)] .sc,
  sg [(11, true)] 18 (.bin .eql (t 17) (c (i 0))),
  s 19 (.pick (t 11) (t 18) (c (.bool false))),
  s 20 (.mv (t 19)),
  sg [(20, true)] 21 (.mv (c (i 0))),
  sg [(20, true)] 22 (.ldB 3 0 1 false true),
  sg [(20, true)] 23 (.mv (c (i 0))),
  sg [(20, true)] 24 (.mv (t 23)),
  sg [(20, true)] 25 (.ldB 2 0 1 false true),
  sg [(20, true)] 26 (.mv (c (i 0))),
  sg [(20, true)] 27 (.mv (t 26)),
  sg [(20, true)] 28 (.ldB 2 2 1 false true),
  sg [(20, true)] 29 (.mn (t 25) (t 28)),
  sg [(20, true)] 30 (.mv (c (i 0))),
  sg [(20, true)] 31 (.mv (t 30)),
  sg [(20, true)] 32 (.ldB 2 0 1 false true),
  sg [(20, true)] 33 (.mv (c (i 0))),
  sg [(20, true)] 34 (.mv (t 33)),
  sg [(20, true)] 35 (.ldB 2 2 1 false true),
  sg [(20, true)] 36 (.mx (t 32) (t 35)),
  kg [(20, true)] 37 74 [(t 22), (t 29), (t 36)] .sc,
  s 38 (.pick (t 20) (t 37) (c (.bool false))),
  s 39 (.mv (t 38)),
  sg [(39, true)] 40 (.mv (c (i 0))),
  sg [(39, true)] 41 (.ldB 3 1 1 false true),
  sg [(39, true)] 42 (.mv (c (i 0))),
  sg [(39, true)] 43 (.mv (t 42)),
  sg [(39, true)] 44 (.ldB 2 1 1 false true),
  sg [(39, true)] 45 (.mv (c (i 0))),
  sg [(39, true)] 46 (.mv (t 45)),
  sg [(39, true)] 47 (.ldB 2 3 1 false true),
  sg [(39, true)] 48 (.mn (t 44) (t 47)),
  sg [(39, true)] 49 (.mv (c (i 0))),
  sg [(39, true)] 50 (.mv (t 49)),
  sg [(39, true)] 51 (.ldB 2 1 1 false true),
  sg [(39, true)] 52 (.mv (c (i 0))),
  sg [(39, true)] 53 (.mv (t 52)),
  sg [(39, true)] 54 (.ldB 2 3 1 false true),
  sg [(39, true)] 55 (.mx (t 51) (t 54)),
  kg [(39, true)] 56 74 [(t 41), (t 48), (t 55)] .sc,
  s 57 (.pick (t 39) (t 56) (c (.bool false))),
  s 4 (.mv (t 57))])
 .ret)), none, [4], [true, true]⟩
def i114 : Comp := ⟨(.seq (.ops [s 2 (.mv (c (.lst 5 true [])))])
 (.seq (.ops [s 5 (.bsl 5 []),
  s 3 (.mv (t 5))])
 (.seq (.seq (.ops [s 4 (.mv (c (i 0)))])
 (.block 0 (.loop (.seq (.seq (.ops [s 6 (.mv (t 4)),
  s 7 (.mv (t 0)),
  s 8 (.len false (t 7)),
  s 9 (.bin .lss (t 6) (t 8))])
 (.cond (t 9) .skip (.exit 0)))
 (.seq (.block 1 (.ops [s 12 (.mv (t 3)),
  s 13 (.mv (t 0)),
  s 14 (.mv (t 4)),
  s 15 (.idx (t 13) (t 14) 5),
  s 16 (.ldE 13 15 0 5 true false 5),
  k 17 115 [(t 16)] .lin,
  s 18 (.bsl 5 [(t 17)]),
  s 19 (.app (t 12) (t 18) 5 64),
  s 3 (.mv (t 19))]))
 (.ops [s 10 (.mv (t 4)),
  s 11 (.bin .add (t 10) (c (i 1))),
  s 4 (.mv (t 11))]))))))
 (.seq (.ops [s 20 (.mv (t 3)),
  s 2 (.mv (t 20))])
 .ret)))), none, [2], [false]⟩
def i115 : Comp := ⟨(.seq (.ops [s 1 (.box 5 (t 0)),
  s 2 (.alc [(i 0), (i 0), (i 0), (.str (bs [])), (.lst 2 true [])])])
 (.seq (.ops [s 3 (.bsl 2 []),
  s 4 (.mv (c (i 0))),
  s 5 (.ldB 1 4 1 false false),
  s 6 (.apf (t 3) (t 5) 2 16),
  s 7 (.mv (c (i 0))),
  s 1 (.stB 1 4 1 (t 6) true)])
 (.seq (.ops [s 8 (.ldB 1 0 5 true false),
  s 2 (.stB 2 0 5 (t 8) false)])
 .ret))), (some ⟨2, 47, 5, true⟩), [], [false]⟩
def i116 : Comp := ⟨(.seq (.ops [s 2 (.mv (c (.str (bs []))))])
 (.seq (.seq (.ops [s 3 (.mv (c .junk)),
  s 4 (.bsl 1 [(c (.str (bs []))), (c (.str (bs [102, 111, 114, 100]))), (c (.str (bs [104, 105, 108, 108]))), (c (.str (bs [109, 105, 108, 108]))), (c (.str (bs [111, 97, 107]))), (c (.str (bs [108, 97, 107, 101]))), (c (.str (bs [105, 110, 110])))])])
 (.seq (opC 5 33 0 [(t 4)] .sc)
 (.ops [s 2 (.mv (t 5))])))
 .ret)), none, [2], []⟩
def i117 : Comp := ⟨(.seq (.ops [s 2 (.alc [(i 0), (i 0)])])
 (.seq (.seq (.ops [s 3 (.mv (c .junk))])
 (.seq (opC 4 52 0 [(c (i 12))] .sc)
 (.seq (.ops [s 5 (.mv (c .junk))])
 (.seq (opC 6 52 0 [(c (i 12))] .sc)
 (.ops [s 7 (.bld [(i 0), (i 0)] [(0, 1, (t 4)), (1, 1, (t 6))]),
  s 2 (.stB 2 0 2 (t 7) false)])))))
 .ret)), (some ⟨2, 42, 2, true⟩), [], []⟩
def i118 : Comp := ⟨(.seq (.ops [s 2 (.mv (c (.lst 2 true [])))])
 (.seq (.seq (.ops [s 7 (.mv (c .junk))])
 (.seq (opC 8 52 0 [(c (i 8))] .sc)
 (.ops [s 3 (.mv (t 8))])))
 (.seq (.seq (.ops [s 9 (.mv (c .junk))])
 (.seq (opC 10 52 0 [(c (i 8))] .sc)
 (.ops [s 4 (.mv (t 10))])))
 (.seq (.seq (.ops [s 11 (.mv (c .junk))])
 (.seq (opC 12 52 0 [(c (i 6))] .sc)
 (.ops [s 13 (.bin .add (c (i 2)) (t 12)),
  s 5 (.mv (t 13))])))
 (.seq (.seq (.ops [s 14 (.mv (c .junk))])
 (.seq (opC 15 52 0 [(c (i 6))] .sc)
 (.ops [s 16 (.bin .add (c (i 2)) (t 15)),
  s 6 (.mv (t 16))])))
 (.seq (.seq (.seq (.ops [s 17 (.mv (c .junk))])
 (.seq (opC 18 52 0 [(c (i 4))] .sc)
 (.ops [])))
 (.block 0 (.seq (.ops [s 20 (.bin .eql (t 18) (c (i 0))),
  s 19 (.mv (t 20))])
 (.cond (t 19) (.seq (.ops [s 21 (.mv (t 3)),
  s 22 (.mv (t 4)),
  k 23 131 [(t 21), (t 22)] .sc,
  s 24 (.mv (t 3)),
  s 25 (.mv (t 5)),
  s 26 (.bin .add (t 24) (t 25)),
  s 27 (.mv (t 4)),
  k 28 131 [(t 26), (t 27)] .sc,
  s 29 (.mv (t 3)),
  s 30 (.mv (t 5)),
  s 31 (.bin .add (t 29) (t 30)),
  s 32 (.mv (t 4)),
  s 33 (.mv (t 6)),
  s 34 (.bin .add (t 32) (t 33)),
  k 35 131 [(t 31), (t 34)] .sc,
  s 36 (.mv (t 3)),
  s 37 (.mv (t 4)),
  s 38 (.mv (t 6)),
  s 39 (.bin .add (t 37) (t 38)),
  k 40 131 [(t 36), (t 39)] .sc,
  s 41 (.bsl 2 [(t 23), (t 28), (t 35), (t 40)]),
  s 2 (.mv (t 41))])
 .ret) (.seq (.ops [s 43 (.bin .eql (t 18) (c (i 1))),
  s 42 (.mv (t 43))])
 (.cond (t 42) (.seq (.ops [s 44 (.mv (t 3)),
  s 45 (.mv (t 4)),
  k 46 131 [(t 44), (t 45)] .sc,
  s 47 (.mv (t 3)),
  s 48 (.mv (t 5)),
  s 49 (.bin .add (t 47) (t 48)),
  s 50 (.mv (t 4)),
  k 51 131 [(t 49), (t 50)] .sc,
  s 52 (.mv (t 3)),
  s 53 (.mv (t 4)),
  s 54 (.mv (t 6)),
  s 55 (.bin .add (t 53) (t 54)),
  k 56 131 [(t 52), (t 55)] .sc,
  s 57 (.bsl 2 [(t 46), (t 51), (t 56)]),
  s 2 (.mv (t 57))])
 .ret) (.seq (.ops [s 59 (.bin .eql (t 18) (c (i 2))),
  s 58 (.mv (t 59))])
 (.cond (t 58) (.seq (.ops [s 60 (.mv (t 3)),
  s 61 (.mv (t 4)),
  k 62 131 [(t 60), (t 61)] .sc,
  s 63 (.mv (t 3)),
  s 64 (.mv (t 5)),
  s 65 (.bin .mul (c (i 2)) (t 64)),
  s 66 (.bin .add (t 63) (t 65)),
  s 67 (.mv (t 4)),
  k 68 131 [(t 66), (t 67)] .sc,
  s 69 (.mv (t 3)),
  s 70 (.mv (t 5)),
  s 71 (.bin .mul (c (i 2)) (t 70)),
  s 72 (.bin .add (t 69) (t 71)),
  s 73 (.mv (t 4)),
  s 74 (.mv (t 6)),
  s 75 (.bin .add (t 73) (t 74)),
  k 76 131 [(t 72), (t 75)] .sc,
  s 77 (.mv (t 3)),
  s 78 (.mv (t 5)),
  s 79 (.bin .add (t 77) (t 78)),
  s 80 (.mv (t 4)),
  s 81 (.mv (t 6)),
  s 82 (.bin .add (t 80) (t 81)),
  k 83 131 [(t 79), (t 82)] .sc,
  s 84 (.mv (t 3)),
  s 85 (.mv (t 5)),
  s 86 (.bin .add (t 84) (t 85)),
  s 87 (.mv (t 4)),
  s 88 (.mv (t 6)),
  s 89 (.bin .mul (c (i 2)) (t 88)),
  s 90 (.bin .add (t 87) (t 89)),
  k 91 131 [(t 86), (t 90)] .sc,
  s 92 (.mv (t 3)),
  s 93 (.mv (t 4)),
  s 94 (.mv (t 6)),
  s 95 (.bin .mul (c (i 2)) (t 94)),
  s 96 (.bin .add (t 93) (t 95)),
  k 97 131 [(t 92), (t 96)] .sc,
  s 98 (.bsl 2 [(t 62), (t 68), (t 76), (t 83), (t 91), (t 97)]),
  s 2 (.mv (t 98))])
 .ret) .skip))))))))
 (.seq (.ops [s 99 (.mv (t 3)),
  s 100 (.mv (t 4)),
  k 101 131 [(t 99), (t 100)] .sc,
  s 102 (.mv (t 3)),
  s 103 (.mv (t 5)),
  s 104 (.bin .add (t 102) (t 103)),
  s 105 (.mv (t 4)),
  s 106 (.bin .add (t 105) (c (i 1))),
  k 107 131 [(t 104), (t 106)] .sc,
  s 108 (.mv (t 3)),
  s 109 (.mv (t 5)),
  s 110 (.bin .mul (c (i 2)) (t 109)),
  s 111 (.bin .add (t 108) (t 110)),
  s 112 (.mv (t 4)),
  k 113 131 [(t 111), (t 112)] .sc,
  s 114 (.mv (t 3)),
  s 115 (.mv (t 5)),
  s 116 (.bin .add (t 114) (t 115)),
  s 117 (.mv (t 4)),
  s 118 (.mv (t 6)),
  s 119 (.bin .add (t 117) (t 118)),
  k 120 131 [(t 116), (t 119)] .sc,
  s 121 (.bsl 2 [(t 101), (t 107), (t 113), (t 120)]),
  s 2 (.mv (t 121))])
 .ret))))))), none, [2], []⟩
def i119 : Comp := ⟨(.seq (.ops [s 4 (.mv (c (i 0)))])
 (.seq (.seq (.ops [s 5 (.mv (t 1)),
  s 6 (.mv (t 0)),
  s 7 (.bin .lss (t 5) (t 6))])
 (.cond (t 7) (.seq (.ops [s 8 (.mv (t 1)),
  s 4 (.mv (t 8))])
 .ret) .skip))
 (.seq (.ops [s 9 (.mv (t 0)),
  s 4 (.mv (t 9))])
 .ret))), none, [4], [true, true]⟩
def i120 : Comp := ⟨(.seq (.ops [s 2 (.mv (c (i 0)))])
 (.seq (.seq (.ops [s 3 (.mv (c .junk)),
  s 4 (.bsl 1 [(c (i (-1))), (c (i 0)), (c (i 200)), (c (i 201)), (c (i 1000)), (c (i 1001)), (c (i 9223372036854775807)), (c (i (-9223372036854775808)))])])
 (.seq (opC 5 54 0 [(t 4)] .sc)
 (.ops [s 2 (.mv (t 5))])))
 .ret)), none, [2], []⟩
def i121 : Comp := ⟨(.seq (.ops [s 2 (.mv (c (.str (bs []))))])
 (.seq (.ops [s 3 (.mv (t 0)),
  k 4 132 [(t 3), (c (i 10))] .sc,
  s 2 (.mv (t 4))])
 .ret)), none, [2], [true]⟩
def i123 : Comp := ⟨(.seq (.ops [s 2 (.mv (c (.lst 4 true [])))])
 (.seq (.ops [s 5 (.bsl 4 []),
  s 3 (.mv (t 5))])
 (.seq (.seq (.ops [s 4 (.mv (c (i 1)))])
 (.block 0 (.loop (.seq (.seq (.ops [s 6 (.mv (t 4)),
  s 7 (.mv (t 0)),
  s 8 (.len false (t 7)),
  s 9 (.bin .lss (t 6) (t 8)),
  s 10 (.mv (t 9)),
  sg [(10, true)] 11 (.mv (t 0)),
  kg [(10, true)] 12 124 [(t 11)] .sc,
  s 13 (.pick (t 10) (t 12) (c (.bool false)))])
 (.cond (t 13) .skip (.exit 0)))
 (.seq (.block 1 (.ops [s 16 (.mv (t 3)),
  s 17 (.mv (t 0)),
  s 18 (.mv (t 4)),
  s 19 (.bin .sub (t 18) (c (i 1))),
  s 20 (.idx (t 17) (t 19) 2),
  s 21 (.ldE 17 20 0 2 true true 2),
  s 22 (.mv (t 0)),
  s 23 (.mv (t 4)),
  s 24 (.idx (t 22) (t 23) 2),
  s 25 (.ldE 22 24 0 2 true true 2),
  s 26 (.bld [(i 0), (i 0), (i 0), (i 0)] [(0, 2, (t 21)), (2, 2, (t 25))]),
  s 27 (.bsl 4 [(t 26)]),
  s 28 (.app (t 16) (t 27) 4 32),
  s 3 (.mv (t 28))]))
 (.ops [s 14 (.mv (t 4)),
  s 15 (.bin .add (t 14) (c (i 1))),
  s 4 (.mv (t 15))]))))))
 (.seq (.ops [s 29 (.mv (t 3)),
  s 2 (.mv (t 29))])
 .ret)))), none, [2], [false]⟩
def i124 : Comp := ⟨(.seq (.ops [s 2 (.mv (c (.bool false)))])
 (.seq (.seq (.ops [s 3 (.mv (c (i 0)))])
 (.block 0 (.loop (.seq (.seq (.ops [s 4 (.mv (t 3)),
  s 5 (.mv (t 0)),
  s 6 (.len false (t 5)),
  s 7 (.bin .lss (t 4) (t 6))])
 (.cond (t 7) .skip (.exit 0)))
 (.seq (.block 1 (.seq (.ops [s 10 (.mv (t 0)),
  s 11 (.mv (t 3)),
  s 12 (.idx (t 10) (t 11) 2),
  s 13 (.ldE 10 12 0 2 true true 2),
  k 14 73 [(t 13)] .sc,
  s 15 (.not (t 14)),
  s 16 (.mv (t 15)),
  sg [(16, false)] 17 (.mv (t 3)),
  sg [(16, false)] 18 (.bin .gtr (t 17) (c (i 0))),
  sg [(16, false)] 19 (.mv (t 18)),
  sg [(19, true), (16, false)] 20 (.mv (t 0)),
  sg [(19, true), (16, false)] 21 (.mv (t 3)),
  sg [(19, true), (16, false)] 22 (.bin .sub (t 21) (c (i 1))),
  sg [(19, true), (16, false)] 23 (.idx (t 20) (t 22) 2),
  sg [(19, true), (16, false)] 24 (.ldE 20 23 0 2 true true 2),
  sg [(19, true), (16, false)] 25 (.mv (t 0)),
  sg [(19, true), (16, false)] 26 (.mv (t 3)),
  sg [(19, true), (16, false)] 27 (.idx (t 25) (t 26) 2),
  sg [(19, true), (16, false)] 28 (.ldE 25 27 0 2 true true 2),
  sg [(19, true), (16, false)] 29 (.eqa false [0, 0] (t 24) (t 28)),
  sg [(16, false)] 30 (.pick (t 19) (t 29) (c (.bool false))),
  s 31 (.pick (t 16) (c (.bool true)) (t 30))])
 (.cond (t 31) (.seq (.ops [s 2 (.mv (c (.bool false)))])
 .ret) .skip)))
 (.ops [s 8 (.mv (t 3)),
  s 9 (.bin .add (t 8) (c (i 1))),
  s 3 (.mv (t 9))]))))))
 (.seq (.ops [s 32 (.mv (t 0)),
  s 33 (.len false (t 32)),
  k 34 71 [(t 33), (c (i 2)), (c (i 10))] .sc,
  s 2 (.mv (t 34))])
 .ret))), none, [2], [false]⟩
def i125 : Comp := ⟨(.seq (.ops [s 4 (.mv (c (i 0)))])
 (.seq (.seq (.ops [s 5 (.mv (t 1)),
  s 6 (.mv (t 0)),
  s 7 (.bin .gtr (t 5) (t 6))])
 (.cond (t 7) (.seq (.ops [s 8 (.mv (t 1)),
  s 4 (.mv (t 8))])
 .ret) .skip))
 (.seq (.ops [s 9 (.mv (t 0)),
  s 4 (.mv (t 9))])
 .ret))), none, [4], [true, true]⟩
def i126 : Comp := ⟨(.seq (.ops [s 2 (.box 4 (t 0)),
  s 3 (.box 4 (t 1)),
  s 4 (.mv (c (i 0)))])
 (.seq (.ops [s 10 (.bsl 2 []),
  s 5 (.mv (t 10))])
 (.seq (.ops [s 11 (.mv (c (i 0))),
  s 12 (.ldB 2 0 2 true true),
  s 13 (.mv (c (i 0))),
  s 14 (.ldB 2 2 2 true true),
  s 15 (.mv (c (i 0))),
  s 16 (.ldB 3 0 2 true true),
  s 17 (.mv (c (i 0))),
  s 18 (.ldB 3 2 2 true true),
  s 19 (.bsl 2 [(t 12), (t 14), (t 16), (t 18)]),
  s 6 (.mv (t 19))])
 (.seq (.seq (.ops [s 7 (.mv (c (i 0)))])
 (.block 0 (.loop (.seq (.seq (.ops [s 20 (.mv (t 7)),
  s 21 (.bin .lss (t 20) (c (i 4)))])
 (.cond (t 21) .skip (.exit 0)))
 (.seq (.block 1 (.seq (.ops [s 24 (.mv (t 7)),
  s 25 (.bin .lss (t 24) (c (i 2))),
  s 26 (.mv (t 25)),
  sg [(26, true)] 27 (.ldB 3 0 4 true true),
  sg [(26, true)] 28 (.mv (t 6)),
  sg [(26, true)] 29 (.mv (t 7)),
  sg [(26, true)] 30 (.idx (t 28) (t 29) 2),
  sg [(26, true)] 31 (.ldE 28 30 0 2 true true 2),
  kg [(26, true)] 32 133 [(t 27), (t 31)] .sc,
  s 33 (.pick (t 26) (t 32) (c (.bool false))),
  s 34 (.mv (t 33)),
  sg [(34, false)] 35 (.mv (t 7)),
  sg [(34, false)] 36 (.bin .geq (t 35) (c (i 2))),
  sg [(34, false)] 37 (.mv (t 36)),
  sg [(37, true), (34, false)] 38 (.ldB 2 0 4 true true),
  sg [(37, true), (34, false)] 39 (.mv (t 6)),
  sg [(37, true), (34, false)] 40 (.mv (t 7)),
  sg [(37, true), (34, false)] 41 (.idx (t 39) (t 40) 2),
  sg [(37, true), (34, false)] 42 (.ldE 39 41 0 2 true true 2),
  kg [(37, true), (34, false)] 43 133 [(t 38), (t 42)] .sc,
  sg [(34, false)] 44 (.pick (t 37) (t 43) (c (.bool false))),
  s 45 (.pick (t 34) (c (.bool true)) (t 44)),
  s 8 (.mv (t 45))])
 (.seq (.seq (.ops [s 9 (.mv (c (i 0)))])
 (.block 2 (.loop (.seq (.seq (.ops [s 46 (.mv (t 9)),
  s 47 (.mv (t 5)),
  s 48 (.len false (t 47)),
  s 49 (.bin .lss (t 46) (t 48))])
 (.cond (t 49) .skip (.exit 2)))
 (.seq (.block 3 (.ops [s 52 (.mv (t 8)),
  s 53 (.mv (t 52)),
  sg [(53, true)] 54 (.mv (t 5)),
  sg [(53, true)] 55 (.mv (t 9)),
  sg [(53, true)] 56 (.idx (t 54) (t 55) 2),
  sg [(53, true)] 57 (.ldE 54 56 0 2 true true 2),
  sg [(53, true)] 58 (.mv (t 6)),
  sg [(53, true)] 59 (.mv (t 7)),
  sg [(53, true)] 60 (.idx (t 58) (t 59) 2),
  sg [(53, true)] 61 (.ldE 58 60 0 2 true true 2),
  sg [(53, true)] 62 (.eqa true [0, 0] (t 57) (t 61)),
  s 63 (.pick (t 53) (t 62) (c (.bool false))),
  s 8 (.mv (t 63))]))
 (.ops [s 50 (.mv (t 9)),
  s 51 (.bin .add (t 50) (c (i 1))),
  s 9 (.mv (t 51))]))))))
 (.seq (.ops [s 64 (.mv (t 8))])
 (.cond (t 64) (.ops [s 65 (.mv (t 5)),
  s 66 (.mv (t 6)),
  s 67 (.mv (t 7)),
  s 68 (.idx (t 66) (t 67) 2),
  s 69 (.ldE 66 68 0 2 true true 2),
  s 70 (.bsl 2 [(t 69)]),
  s 71 (.app (t 65) (t 70) 2 16),
  s 5 (.mv (t 71))]) .skip)))))
 (.ops [s 22 (.mv (t 7)),
  s 23 (.bin .add (t 22) (c (i 1))),
  s 7 (.mv (t 23))]))))))
 (.seq (.ops [s 72 (.mv (t 5)),
  s 73 (.len false (t 72)),
  s 4 (.mv (t 73))])
 .ret))))), none, [4], [true, true]⟩
def i127 : Comp := ⟨(.seq (.ops [s 3 (.box 2 (t 0)),
  s 4 (.box 2 (t 1)),
  s 5 (.box 2 (t 2)),
  s 6 (.mv (c (i 0)))])
 (.seq (.seq (.ops [s 8 (.ldB 3 0 2 true true),
  k 9 73 [(t 8)] .sc,
  s 10 (.not (t 9)),
  s 11 (.mv (t 10)),
  sg [(11, false)] 12 (.ldB 4 0 2 true true),
  kg [(11, false)] 13 73 [(t 12)] .sc,
  sg [(11, false)] 14 (.not (t 13)),
  s 15 (.pick (t 11) (c (.bool true)) (t 14)),
  s 16 (.mv (t 15)),
  sg [(16, false)] 17 (.ldB 5 0 2 true true),
  kg [(16, false)] 18 73 [(t 17)] .sc,
  sg [(16, false)] 19 (.not (t 18)),
  s 20 (.pick (t 16) (c (.bool true)) (t 19))])
 (.cond (t 20) (.seq (.ops [s 6 (.mv (c (i 0)))])
 .ret) .skip))
 (.seq (.ops [s 21 (.ldB 3 0 2 true true),
  s 22 (.ldB 4 0 2 true true),
  s 23 (.ldB 5 0 2 true true),
  k 24 134 [(t 21), (t 22), (t 23)] .sc,
  s 7 (.mv (t 24))])
 (.seq (.block 0 (.seq (.ops [s 26 (.mv (t 7)),
  s 27 (.bin .gtr (t 26) (c (i 0))),
  s 25 (.mv (t 27))])
 (.cond (t 25) (.seq (.ops [s 6 (.mv (c (i 1)))])
 .ret) (.seq (.ops [s 29 (.mv (t 7)),
  s 30 (.bin .lss (t 29) (c (i 0))),
  s 28 (.mv (t 30))])
 (.cond (t 28) (.seq (.ops [s 6 (.mv (c (i (-1))))])
 .ret) .skip)))))
 (.seq (.ops [s 6 (.mv (c (i 0)))])
 .ret))))), none, [6], [true, true, true]⟩
def i128 : Comp := ⟨(.seq (.ops [s 3 (.box 2 (t 0)),
  s 4 (.box 2 (t 1)),
  s 5 (.box 2 (t 2)),
  s 6 (.mv (c (i 0)))])
 (.seq (.ops [s 7 (.mv (c (i 0))),
  s 8 (.ldB 4 0 1 false true),
  s 9 (.mv (c (i 0))),
  s 10 (.ldB 3 0 1 false true),
  s 11 (.bin .sub (t 8) (t 10)),
  s 12 (.mv (c (i 0))),
  s 13 (.ldB 5 1 1 false true),
  s 14 (.mv (c (i 0))),
  s 15 (.ldB 3 1 1 false true),
  s 16 (.bin .sub (t 13) (t 15)),
  s 17 (.bin .mul (t 11) (t 16)),
  s 18 (.mv (c (i 0))),
  s 19 (.ldB 4 1 1 false true),
  s 20 (.mv (c (i 0))),
  s 21 (.ldB 3 1 1 false true),
  s 22 (.bin .sub (t 19) (t 21)),
  s 23 (.mv (c (i 0))),
  s 24 (.ldB 5 0 1 false true),
  s 25 (.mv (c (i 0))),
  s 26 (.ldB 3 0 1 false true),
  s 27 (.bin .sub (t 24) (t 26)),
  s 28 (.bin .mul (t 22) (t 27)),
  s 29 (.bin .sub (t 17) (t 28)),
  s 6 (.mv (t 29))])
 .ret)), none, [6], [true, true, true]⟩
def i129 : Comp := ⟨(.seq (.ops [s 1 (.box 4 (t 0)),
  s 2 (.alc [(i 0), (i 0), (i 0), (i 0)])])
 (.seq (.ops [s 3 (.mv (c (i 0))),
  s 4 (.ldB 1 2 2 true true),
  s 5 (.mv (c (i 0))),
  s 6 (.ldB 1 0 2 true true),
  s 7 (.bld [(i 0), (i 0), (i 0), (i 0)] [(0, 2, (t 4)), (2, 2, (t 6))]),
  s 2 (.stB 2 0 4 (t 7) false)])
 .ret)), (some ⟨2, 104, 4, true⟩), [], [true]⟩
def i131 : Comp := ⟨(.seq (.ops [s 4 (.alc [(i 0), (i 0)])])
 (.seq (.ops [s 5 (.mv (t 0)),
  s 6 (.mv (t 1)),
  s 7 (.bld [(i 0), (i 0)] [(0, 1, (t 5)), (1, 1, (t 6))]),
  s 4 (.stB 4 0 2 (t 7) false)])
 .ret)), (some ⟨4, 42, 2, true⟩), [], [true, true]⟩
def i133 : Comp := ⟨(.seq (.ops [s 2 (.box 4 (t 0)),
  s 3 (.box 2 (t 1)),
  s 4 (.mv (c (.bool false)))])
 (.seq (.ops [s 5 (.ldB 2 0 4 true true),
  k 6 103 [(t 5)] .sc,
  s 7 (.mv (t 6)),
  sg [(7, true)] 8 (.ldB 3 0 2 true true),
  kg [(7, true)] 9 73 [(t 8)] .sc,
  s 10 (.pick (t 7) (t 9) (c (.bool false))),
  s 11 (.mv (t 10)),
  sg [(11, true)] 12 (.mv (c (i 0))),
  sg [(11, true)] 13 (.ldB 2 0 2 true true),
  sg [(11, true)] 14 (.mv (c (i 0))),
  sg [(11, true)] 15 (.ldB 2 2 2 true true),
  sg [(11, true)] 16 (.ldB 3 0 2 true true),
  kg [(11, true)] 17 134 [(t 13), (t 15), (t 16)] .sc,
  sg [(11, true)] 18 (.bin .eql (t 17) (c (i 0))),
  s 19 (.pick (t 11) (t 18) (c (.bool false))),
  s 20 (.mv (t 19)),
  sg [(20, true)] 21 (.mv (c (i 0))),
  sg [(20, true)] 22 (.ldB 3 0 1 false true),
  sg [(20, true)] 23 (.mv (c (i 0))),
  sg [(20, true)] 24 (.mv (t 23)),
  sg [(20, true)] 25 (.ldB 2 0 1 false true),
  sg [(20, true)] 26 (.mv (c (i 0))),
  sg [(20, true)] 27 (.mv (t 26)),
  sg [(20, true)] 28 (.ldB 2 2 1 false true),
  kg [(20, true)] 29 119 [(t 25), (t 28)] .sc,
  sg [(20, true)] 30 (.mv (c (i 0))),
  sg [(20, true)] 31 (.mv (t 30)),
  sg [(20, true)] 32 (.ldB 2 0 1 false true),
  sg [(20, true)] 33 (.mv (c (i 0))),
  sg [(20, true)] 34 (.mv (t 33)),
  sg [(20, true)] 35 (.ldB 2 2 1 false true),
  kg [(20, true)] 36 125 [(t 32), (t 35)] .sc,
  kg [(20, true)] 37 71 [(t 22), (t 29), (t 36)] .sc,
  s 38 (.pick (t 20) (t 37) (c (.bool false))),
  s 39 (.mv (t 38)),
  sg [(39, true)] 40 (.mv (c (i 0))),
  sg [(39, true)] 41 (.ldB 3 1 1 false true),
  sg [(39, true)] 42 (.mv (c (i 0))),
  sg [(39, true)] 43 (.mv (t 42)),
  sg [(39, true)] 44 (.ldB 2 1 1 false true),
  sg [(39, true)] 45 (.mv (c (i 0))),
  sg [(39, true)] 46 (.mv (t 45)),
  sg [(39, true)] 47 (.ldB 2 3 1 false true),
  kg [(39, true)] 48 119 [(t 44), (t 47)] .sc,
  sg [(39, true)] 49 (.mv (c (i 0))),
  sg [(39, true)] 50 (.mv (t 49)),
  sg [(39, true)] 51 (.ldB 2 1 1 false true),
  sg [(39, true)] 52 (.mv (c (i 0))),
  sg [(39, true)] 53 (.mv (t 52)),
  sg [(39, true)] 54 (.ldB 2 3 1 false true),
  kg [(39, true)] 55 125 [(t 51), (t 54)] .sc,
  kg [(39, true)] 56 71 [(t 41), (t 48), (t 55)] .sc,
  s 57 (.pick (t 39) (t 56) (c (.bool false))),
  s 4 (.mv (t 57))])
 .ret)), none, [4], [true, true]⟩
def i134 : Comp := ⟨(.seq (.ops [s 3 (.box 2 (t 0)),
  s 4 (.box 2 (t 1)),
  s 5 (.box 2 (t 2)),
  s 6 (.mv (c (i 0)))])
 (.seq (.ops [s 7 (.mv (c (i 0))),
  s 8 (.ldB 4 0 1 false true),
  s 9 (.mv (c (i 0))),
  s 10 (.ldB 3 0 1 false true),
  s 11 (.bin .sub (t 8) (t 10)),
  s 12 (.mv (c (i 0))),
  s 13 (.ldB 5 1 1 false true),
  s 14 (.mv (c (i 0))),
  s 15 (.ldB 3 1 1 false true),
  s 16 (.bin .sub (t 13) (t 15)),
  s 17 (.bin .mul (t 11) (t 16)),
  s 18 (.mv (c (i 0))),
  s 19 (.ldB 4 1 1 false true),
  s 20 (.mv (c (i 0))),
  s 21 (.ldB 3 1 1 false true),
  s 22 (.bin .sub (t 19) (t 21)),
  s 23 (.mv (c (i 0))),
  s 24 (.ldB 5 0 1 false true),
  s 25 (.mv (c (i 0))),
  s 26 (.ldB 3 0 1 false true),
  s 27 (.bin .sub (t 24) (t 26)),
  s 28 (.bin .mul (t 22) (t 27)),
  s 29 (.bin .sub (t 17) (t 28)),
  s 6 (.mv (t 29))])
 .ret)), none, [6], [true, true, true]⟩
def X : Cx := { tab := tbs, sig := sgs, wf := wfs, xf := xfs, rf := rfs, tl := tls }
end Go.Eng
namespace Go.Eng
open Go Go.Proofs
theorem hX : TabOK Tryz.prog X := TabOK.of (by kernel_rfl)
theorem c3 : compP Tryz.prog X 3 = some i3 := by kernel_rfl
theorem c4 : compP Tryz.prog X 4 = some i4 := by kernel_rfl
theorem c5 : compD Tryz.prog X 5 = some i5 := by kernel_rfl
theorem c6 : compP Tryz.prog X 6 = some i6 := by kernel_rfl
theorem c7 : compP Tryz.prog X 7 = some i7 := by kernel_rfl
theorem c8 : compP Tryz.prog X 8 = some i8 := by kernel_rfl
theorem c9 : compP Tryz.prog X 9 = some i9 := by kernel_rfl
theorem c10 : compP Tryz.prog X 10 = some i10 := by kernel_rfl
theorem c11 : compP Tryz.prog X 11 = some i11 := by kernel_rfl
theorem c12 : compD Tryz.prog X 12 = some i12 := by kernel_rfl
theorem c13 : compP Tryz.prog X 13 = some i13 := by kernel_rfl
theorem c14 : compD Tryz.prog X 14 = some i14 := by kernel_rfl
theorem c15 : compP Tryz.prog X 15 = some i15 := by kernel_rfl
theorem c16 : compD Tryz.prog X 16 = some i16 := by kernel_rfl
theorem c17 : compP Tryz.prog X 17 = some i17 := by kernel_rfl
theorem c18 : compP Tryz.prog X 18 = some i18 := by kernel_rfl
theorem c20 : compP Tryz.prog X 20 = some i20 := by kernel_rfl
theorem c21 : compP Tryz.prog X 21 = some i21 := by kernel_rfl
theorem c22 : compP Tryz.prog X 22 = some i22 := by kernel_rfl
theorem c23 : compP Tryz.prog X 23 = some i23 := by kernel_rfl
theorem c24 : compP Tryz.prog X 24 = some i24 := by kernel_rfl
theorem c25 : compP Tryz.prog X 25 = some i25 := by kernel_rfl
theorem c26 : compP Tryz.prog X 26 = some i26 := by kernel_rfl
theorem c27 : compP Tryz.prog X 27 = some i27 := by kernel_rfl
theorem c28 : compP Tryz.prog X 28 = some i28 := by kernel_rfl
theorem c32 : compC Tryz.prog X 32 = some i32 := by kernel_rfl
theorem c34 : compP Tryz.prog X 34 = some i34 := by kernel_rfl
theorem c35 : compC Tryz.prog X 35 = some i35 := by kernel_rfl
theorem c36 : compP Tryz.prog X 36 = some i36 := by kernel_rfl
theorem c37 : compP Tryz.prog X 37 = some i37 := by kernel_rfl
theorem c38 : compP Tryz.prog X 38 = some i38 := by kernel_rfl
theorem c39 : compP Tryz.prog X 39 = some i39 := by kernel_rfl
theorem c42 : compP Tryz.prog X 42 = some i42 := by kernel_rfl
theorem c43 : compP Tryz.prog X 43 = some i43 := by kernel_rfl
theorem c44 : compP Tryz.prog X 44 = some i44 := by kernel_rfl
theorem c45 : compP Tryz.prog X 45 = some i45 := by kernel_rfl
theorem c46 : compP Tryz.prog X 46 = some i46 := by kernel_rfl
theorem c47 : compP Tryz.prog X 47 = some i47 := by kernel_rfl
theorem c48 : compP Tryz.prog X 48 = some i48 := by kernel_rfl
theorem c49 : compP Tryz.prog X 49 = some i49 := by kernel_rfl
theorem c51 : compC Tryz.prog X 51 = some i51 := by kernel_rfl
theorem c52 : compC Tryz.prog X 52 = some i52 := by kernel_rfl
theorem c53 : compP Tryz.prog X 53 = some i53 := by kernel_rfl
theorem c55 : compC Tryz.prog X 55 = some i55 := by kernel_rfl
theorem c56 : compP Tryz.prog X 56 = some i56 := by kernel_rfl
theorem c57 : compP Tryz.prog X 57 = some i57 := by kernel_rfl
theorem c58 : compP Tryz.prog X 58 = some i58 := by kernel_rfl
theorem c69 : compP Tryz.prog X 69 = some i69 := by kernel_rfl
theorem c70 : compP Tryz.prog X 70 = some i70 := by kernel_rfl
theorem c71 : compP Tryz.prog X 71 = some i71 := by kernel_rfl
theorem c72 : compP Tryz.prog X 72 = some i72 := by kernel_rfl
theorem c73 : compP Tryz.prog X 73 = some i73 := by kernel_rfl
theorem c74 : compP Tryz.prog X 74 = some i74 := by kernel_rfl
theorem c75 : compP Tryz.prog X 75 = some i75 := by kernel_rfl
theorem c76 : compP Tryz.prog X 76 = some i76 := by kernel_rfl
theorem c77 : compP Tryz.prog X 77 = some i77 := by kernel_rfl
theorem c78 : compP Tryz.prog X 78 = some i78 := by kernel_rfl
theorem c79 : compP Tryz.prog X 79 = some i79 := by kernel_rfl
theorem c89 : compP Tryz.prog X 89 = some i89 := by kernel_rfl
theorem c90 : compC Tryz.prog X 90 = some i90 := by kernel_rfl
theorem c92 : compC Tryz.prog X 92 = some i92 := by kernel_rfl
theorem c93 : compC Tryz.prog X 93 = some i93 := by kernel_rfl
theorem c94 : compP Tryz.prog X 94 = some i94 := by kernel_rfl
theorem c100 : compP Tryz.prog X 100 = some i100 := by kernel_rfl
theorem c101 : compP Tryz.prog X 101 = some i101 := by kernel_rfl
theorem c102 : compP Tryz.prog X 102 = some i102 := by kernel_rfl
theorem c103 : compP Tryz.prog X 103 = some i103 := by kernel_rfl
theorem c104 : compP Tryz.prog X 104 = some i104 := by kernel_rfl
theorem c105 : compP Tryz.prog X 105 = some i105 := by kernel_rfl
theorem c106 : compP Tryz.prog X 106 = some i106 := by kernel_rfl
theorem c107 : compP Tryz.prog X 107 = some i107 := by kernel_rfl
theorem c108 : compP Tryz.prog X 108 = some i108 := by kernel_rfl
theorem c109 : compP Tryz.prog X 109 = some i109 := by kernel_rfl
theorem c110 : compP Tryz.prog X 110 = some i110 := by kernel_rfl
theorem c114 : compP Tryz.prog X 114 = some i114 := by kernel_rfl
theorem c115 : compP Tryz.prog X 115 = some i115 := by kernel_rfl
theorem c116 : compC Tryz.prog X 116 = some i116 := by kernel_rfl
theorem c117 : compC Tryz.prog X 117 = some i117 := by kernel_rfl
theorem c118 : compC Tryz.prog X 118 = some i118 := by kernel_rfl
theorem c119 : compP Tryz.prog X 119 = some i119 := by kernel_rfl
theorem c120 : compC Tryz.prog X 120 = some i120 := by kernel_rfl
theorem c121 : compP Tryz.prog X 121 = some i121 := by kernel_rfl
theorem c123 : compP Tryz.prog X 123 = some i123 := by kernel_rfl
theorem c124 : compP Tryz.prog X 124 = some i124 := by kernel_rfl
theorem c125 : compP Tryz.prog X 125 = some i125 := by kernel_rfl
theorem c126 : compP Tryz.prog X 126 = some i126 := by kernel_rfl
theorem c127 : compP Tryz.prog X 127 = some i127 := by kernel_rfl
theorem c128 : compP Tryz.prog X 128 = some i128 := by kernel_rfl
theorem c129 : compP Tryz.prog X 129 = some i129 := by kernel_rfl
theorem c131 : compP Tryz.prog X 131 = some i131 := by kernel_rfl
theorem c133 : compP Tryz.prog X 133 = some i133 := by kernel_rfl
theorem c134 : compP Tryz.prog X 134 = some i134 := by kernel_rfl
end Go.Eng
