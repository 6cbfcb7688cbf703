/- A part of the proof of a law's statement: for every input the law returns true and leaves its arguments as they were. No condition beyond the statement's own. The laws' functions in that calculus, checked by the kernel against the program. -/
import Derived.Test.YtmkhlnmkdgoihaaGreatProg
import Derived.Test.YtmkhlnmkdgoihaaGreatEe4
set_option linter.unusedVariables false
set_option linter.unusedSimpArgs false
set_option linter.unusedSectionVars false
set_option autoImplicit true
set_option relaxedAutoImplicit true
namespace Go.Eng
open Go
def tbs : List (Option TI) := [some ⟨(.tup []), 1, 0, [.junk], false⟩,
  some ⟨.func, 1, 8, [.junk], false⟩,
  some ⟨(.int .i64), 1, 8, [(i 0)], false⟩,
  some ⟨(.int .i64), 1, 8, [(i 0)], false⟩,
  some ⟨.bool, 1, 1, [(.bool false)], false⟩,
  some ⟨(.int .u8), 1, 1, [(.int .u8 (0))], false⟩,
  some ⟨(.int .u8), 1, 1, [(.int .u8 (0))], false⟩,
  some ⟨(.struct [(0, 2), (1, 3), (2, 4), (3, 6)]), 4, 24, [(i 0), (i 0), (.bool false), (.int .u8 (0))], true⟩,
  some ⟨(.struct [(0, 2), (1, 3), (2, 4), (3, 6)]), 4, 24, [(i 0), (i 0), (.bool false), (.int .u8 (0))], true⟩,
  some ⟨.str, 1, 16, [(.str (bs []))], false⟩,
  some ⟨.str, 1, 16, [(.str (bs []))], false⟩,
  some ⟨.str, 1, 16, [(.str (bs []))], false⟩,
  some ⟨(.int .u64), 1, 8, [(.int .u64 (0))], false⟩,
  some ⟨(.struct [(0, 9), (1, 12)]), 2, 24, [(.str (bs [])), (.int .u64 (0))], false⟩,
  some ⟨(.struct [(0, 9), (1, 12)]), 2, 24, [(.str (bs [])), (.int .u64 (0))], false⟩,
  some ⟨(.ptr 208), 1, 8, [.junk], false⟩,
  some ⟨(.ptr 211), 1, 8, [.junk], false⟩,
  some ⟨(.ptr 220), 1, 8, [.junk], false⟩,
  some ⟨(.struct [(0, 17)]), 1, 8, [.junk], false⟩,
  some ⟨(.struct [(0, 17)]), 1, 8, [.junk], false⟩,
  some ⟨.other, 1, 16, [.junk], false⟩,
  some ⟨(.int .i32), 1, 4, [(.int .i32 (0))], false⟩,
  some ⟨(.slice 25), 1, 24, [(.lst 5 true [])], false⟩,
  some ⟨(.slice 153), 1, 24, [(.lst 2 true [])], false⟩,
  some ⟨(.struct [(0, 3), (1, 3), (2, 3), (3, 9), (4, 23)]), 5, 64, [(i 0), (i 0), (i 0), (.str (bs [])), (.lst 2 true [])], true⟩,
  some ⟨(.struct [(0, 3), (1, 3), (2, 3), (3, 9), (4, 23)]), 5, 64, [(i 0), (i 0), (i 0), (.str (bs [])), (.lst 2 true [])], true⟩,
  some ⟨(.struct [(0, 3), (1, 25), (6, 3), (7, 3), (8, 3)]), 9, 96, [(i 0), (i 0), (i 0), (i 0), (.str (bs [])), (.lst 2 true []), (i 0), (i 0), (i 0)], true⟩,
  some ⟨(.struct [(0, 3), (1, 25), (6, 3), (7, 3), (8, 3)]), 9, 96, [(i 0), (i 0), (i 0), (i 0), (.str (bs [])), (.lst 2 true []), (i 0), (i 0), (i 0)], true⟩,
  some ⟨.func, 1, 8, [.junk], false⟩,
  some ⟨.func, 1, 8, [.junk], false⟩,
  some ⟨(.slice 3), 1, 24, [(.lst 1 true [])], false⟩,
  some ⟨.func, 1, 8, [.junk], false⟩,
  some ⟨(.slice 36), 1, 24, [(.lst 5 true [])], false⟩,
  some ⟨.func, 1, 8, [.junk], false⟩,
  some ⟨(.slice 65), 1, 24, [(.lst 2 true [])], false⟩,
  some ⟨(.struct [(0, 3), (1, 3), (2, 3), (3, 9), (4, 34)]), 5, 64, [(i 0), (i 0), (i 0), (.str (bs [])), (.lst 2 true [])], true⟩,
  some ⟨(.struct [(0, 3), (1, 3), (2, 3), (3, 9), (4, 34)]), 5, 64, [(i 0), (i 0), (i 0), (.str (bs [])), (.lst 2 true [])], true⟩,
  some ⟨(.struct [(0, 3), (1, 36), (6, 3), (7, 3), (8, 3)]), 9, 96, [(i 0), (i 0), (i 0), (i 0), (.str (bs [])), (.lst 2 true []), (i 0), (i 0), (i 0)], true⟩,
  some ⟨(.struct [(0, 3), (1, 36), (6, 3), (7, 3), (8, 3)]), 9, 96, [(i 0), (i 0), (i 0), (i 0), (.str (bs [])), (.lst 2 true []), (i 0), (i 0), (i 0)], true⟩,
  some ⟨.func, 1, 8, [.junk], false⟩,
  some ⟨.func, 1, 8, [.junk], false⟩,
  some ⟨.func, 1, 8, [.junk], false⟩,
  some ⟨.func, 1, 8, [.junk], false⟩,
  some ⟨.func, 1, 8, [.junk], false⟩,
  some ⟨.func, 1, 8, [.junk], false⟩,
  some ⟨.func, 1, 8, [.junk], false⟩,
  some ⟨.func, 1, 8, [.junk], false⟩,
  some ⟨(.slice 5), 1, 24, [(.lst 1 true [])], false⟩,
  some ⟨.func, 1, 8, [.junk], false⟩,
  some ⟨(.tup [32, 38]), 1, 0, [.junk], false⟩,
  some ⟨.func, 1, 8, [.junk], false⟩,
  some ⟨(.tup [32, 4]), 1, 0, [.junk], false⟩,
  some ⟨.func, 1, 8, [.junk], false⟩,
  some ⟨(.tup [38, 4]), 1, 0, [.junk], false⟩,
  some ⟨.func, 1, 8, [.junk], false⟩,
  some ⟨.func, 1, 8, [.junk], false⟩,
  some ⟨.func, 1, 8, [.junk], false⟩,
  some ⟨.func, 1, 8, [.junk], false⟩,
  some ⟨.func, 1, 8, [.junk], false⟩,
  some ⟨(.slice 38), 1, 24, [(.lst 9 true [])], false⟩,
  some ⟨(.tup [32, 59]), 1, 0, [.junk], false⟩,
  some ⟨.func, 1, 8, [.junk], false⟩,
  some ⟨(.tup [32, 3]), 1, 0, [.junk], false⟩,
  some ⟨.func, 1, 8, [.junk], false⟩,
  some ⟨(.struct [(0, 3), (1, 3)]), 2, 16, [(i 0), (i 0)], true⟩,
  some ⟨(.struct [(0, 3), (1, 3)]), 2, 16, [(i 0), (i 0)], true⟩,
  some ⟨(.tup [32, 65, 65, 3]), 1, 0, [.junk], false⟩,
  some ⟨.func, 1, 8, [.junk], false⟩,
  some ⟨(.tup [3, 4]), 1, 0, [.junk], false⟩,
  some ⟨.func, 1, 8, [.junk], false⟩,
  some ⟨.func, 1, 8, [.junk], false⟩,
  some ⟨.func, 1, 8, [.junk], false⟩,
  some ⟨.func, 1, 8, [.junk], false⟩,
  some ⟨(.tup [32, 65, 65, 3, 30]), 1, 0, [.junk], false⟩,
  some ⟨.func, 1, 8, [.junk], false⟩,
  some ⟨.func, 1, 8, [.junk], false⟩,
  some ⟨.func, 1, 8, [.junk], false⟩,
  some ⟨.func, 1, 8, [.junk], false⟩,
  some ⟨.func, 1, 8, [.junk], false⟩,
  some ⟨.func, 1, 8, [.junk], false⟩,
  some ⟨.func, 1, 8, [.junk], false⟩,
  some ⟨.func, 1, 8, [.junk], false⟩,
  some ⟨.func, 1, 8, [.junk], false⟩,
  some ⟨(.ptr 121), 1, 8, [.junk], false⟩,
  some ⟨.func, 1, 8, [.junk], false⟩,
  some ⟨.func, 1, 8, [.junk], false⟩,
  some ⟨.func, 1, 8, [.junk], false⟩,
  some ⟨.func, 1, 8, [.junk], false⟩,
  some ⟨.func, 1, 8, [.junk], false⟩,
  some ⟨.func, 1, 8, [.junk], false⟩,
  some ⟨.func, 1, 8, [.junk], false⟩,
  some ⟨.func, 1, 8, [.junk], false⟩,
  some ⟨.func, 1, 8, [.junk], false⟩,
  some ⟨.func, 1, 8, [.junk], false⟩,
  some ⟨.func, 1, 8, [.junk], false⟩,
  some ⟨.func, 1, 8, [.junk], false⟩,
  some ⟨.func, 1, 8, [.junk], false⟩,
  some ⟨(.tup [32, 65, 3]), 1, 0, [.junk], false⟩,
  some ⟨.func, 1, 8, [.junk], false⟩,
  some ⟨.func, 1, 8, [.junk], false⟩,
  some ⟨.other, 1, 8, [.junk], false⟩,
  some ⟨.func, 1, 8, [.junk], false⟩,
  some ⟨(.tup [34, 30]), 1, 0, [.junk], false⟩,
  some ⟨.func, 1, 8, [.junk], false⟩,
  some ⟨.func, 1, 8, [.junk], false⟩,
  some ⟨.func, 1, 8, [.junk], false⟩,
  some ⟨.func, 1, 8, [.junk], false⟩,
  some ⟨.func, 1, 8, [.junk], false⟩,
  some ⟨.func, 1, 8, [.junk], false⟩,
  some ⟨.func, 1, 8, [.junk], false⟩,
  some ⟨.func, 1, 8, [.junk], false⟩,
  some ⟨(.tup [65, 4]), 1, 0, [.junk], false⟩,
  some ⟨.func, 1, 8, [.junk], false⟩,
  some ⟨.func, 1, 8, [.junk], false⟩,
  some ⟨.func, 1, 8, [.junk], false⟩,
  some ⟨.func, 1, 8, [.junk], false⟩,
  some ⟨.func, 1, 8, [.junk], false⟩,
  some ⟨.func, 1, 8, [.junk], false⟩,
  some ⟨.func, 1, 8, [.junk], false⟩,
  some ⟨.func, 1, 8, [.junk], false⟩,
  some ⟨(.struct [(0, 47), (1, 3), (2, 3)]), 3, 40, [(.lst 1 true []), (i 0), (i 0)], true⟩,
  some ⟨(.struct [(0, 47), (1, 3), (2, 3)]), 3, 40, [(.lst 1 true []), (i 0), (i 0)], true⟩,
  some ⟨.func, 1, 8, [.junk], false⟩,
  some ⟨.func, 1, 8, [.junk], false⟩,
  some ⟨(.slice 9), 1, 24, [(.lst 1 true [])], false⟩,
  some ⟨.func, 1, 8, [.junk], false⟩,
  some ⟨.func, 1, 8, [.junk], false⟩,
  some ⟨.func, 1, 8, [.junk], false⟩,
  some ⟨.func, 1, 8, [.junk], false⟩,
  some ⟨.func, 1, 8, [.junk], false⟩,
  some ⟨.func, 1, 8, [.junk], false⟩,
  some ⟨.func, 1, 8, [.junk], false⟩,
  some ⟨.func, 1, 8, [.junk], false⟩,
  some ⟨.func, 1, 8, [.junk], false⟩,
  some ⟨(.struct [(0, 65), (2, 65)]), 4, 32, [(i 0), (i 0), (i 0), (i 0)], true⟩,
  some ⟨(.struct [(0, 65), (2, 65)]), 4, 32, [(i 0), (i 0), (i 0), (i 0)], true⟩,
  some ⟨(.tup [135, 4]), 1, 0, [.junk], false⟩,
  some ⟨.func, 1, 8, [.junk], false⟩,
  some ⟨.func, 1, 8, [.junk], false⟩,
  some ⟨.func, 1, 8, [.junk], false⟩,
  some ⟨(.slice 161), 1, 24, [(.lst 2 true [])], false⟩,
  some ⟨.func, 1, 8, [.junk], false⟩,
  some ⟨.func, 1, 8, [.junk], false⟩,
  some ⟨.func, 1, 8, [.junk], false⟩,
  some ⟨(.int .u64), 1, 8, [(.int .u64 (0))], false⟩,
  some ⟨(.slice 148), 1, 24, [(.lst 4 true [])], false⟩,
  some ⟨.func, 1, 8, [.junk], false⟩,
  some ⟨(.struct [(0, 65), (2, 65)]), 4, 32, [(i 0), (i 0), (i 0), (i 0)], true⟩,
  some ⟨(.struct [(0, 65), (2, 65)]), 4, 32, [(i 0), (i 0), (i 0), (i 0)], true⟩,
  some ⟨.func, 1, 8, [.junk], false⟩,
  some ⟨.func, 1, 8, [.junk], false⟩,
  some ⟨.func, 1, 8, [.junk], false⟩,
  some ⟨.func, 1, 8, [.junk], false⟩,
  some ⟨(.struct [(0, 3), (1, 3)]), 2, 16, [(i 0), (i 0)], true⟩,
  some ⟨.func, 1, 8, [.junk], false⟩,
  some ⟨.func, 1, 8, [.junk], false⟩,
  some ⟨.func, 1, 8, [.junk], false⟩,
  some ⟨.func, 1, 8, [.junk], false⟩,
  some ⟨.func, 1, 8, [.junk], false⟩,
  some ⟨.func, 1, 8, [.junk], false⟩,
  some ⟨(.struct [(0, 3), (1, 3)]), 2, 16, [(i 0), (i 0)], true⟩,
  some ⟨(.struct [(0, 3), (1, 3)]), 2, 16, [(i 0), (i 0)], true⟩,
  some ⟨.func, 1, 8, [.junk], false⟩,
  some ⟨.func, 1, 8, [.junk], false⟩,
  some ⟨(.int .i64), 1, 8, [(i 0)], false⟩,
  some ⟨(.tup [3, 164]), 1, 0, [.junk], false⟩,
  some ⟨.func, 1, 8, [.junk], false⟩,
  some ⟨.func, 1, 8, [.junk], false⟩,
  some ⟨.func, 1, 8, [.junk], false⟩,
  some ⟨.func, 1, 8, [.junk], false⟩,
  some ⟨.func, 1, 8, [.junk], false⟩,
  some ⟨(.int .u32), 1, 4, [(.int .u32 (0))], false⟩,
  some ⟨.func, 1, 8, [.junk], false⟩,
  some ⟨(.int .u64), 1, 8, [(.int .u64 (0))], false⟩,
  some ⟨.func, 1, 8, [.junk], false⟩,
  some ⟨.func, 1, 8, [.junk], false⟩,
  some ⟨.func, 1, 8, [.junk], false⟩,
  some ⟨.func, 1, 8, [.junk], false⟩,
  some ⟨.func, 1, 8, [.junk], false⟩,
  some ⟨.func, 1, 8, [.junk], false⟩,
  some ⟨.func, 1, 8, [.junk], false⟩,
  some ⟨.func, 1, 8, [.junk], false⟩,
  some ⟨.func, 1, 8, [.junk], false⟩,
  some ⟨.func, 1, 8, [.junk], false⟩,
  some ⟨.func, 1, 8, [.junk], false⟩,
  some ⟨.func, 1, 8, [.junk], false⟩,
  some ⟨.func, 1, 8, [.junk], false⟩,
  some ⟨.func, 1, 8, [.junk], false⟩,
  some ⟨(.int .u64), 1, 8, [(.int .u64 (0))], false⟩,
  some ⟨.func, 1, 8, [.junk], false⟩,
  some ⟨.func, 1, 8, [.junk], false⟩,
  some ⟨.func, 1, 8, [.junk], false⟩,
  some ⟨(.ptr 3), 1, 8, [.junk], false⟩,
  some ⟨.func, 1, 8, [.junk], false⟩,
  some ⟨.func, 1, 8, [.junk], false⟩,
  some ⟨.func, 1, 8, [.junk], false⟩,
  some ⟨.func, 1, 8, [.junk], false⟩,
  some ⟨.func, 1, 8, [.junk], false⟩,
  some ⟨.func, 1, 8, [.junk], false⟩,
  some ⟨.func, 1, 8, [.junk], false⟩,
  some ⟨.func, 1, 8, [.junk], false⟩,
  some ⟨(.ptr 188), 1, 8, [.junk], false⟩,
  some ⟨(.tup [3, 3]), 1, 0, [.junk], false⟩,
  some ⟨.func, 1, 8, [.junk], false⟩,
  some ⟨.func, 1, 8, [.junk], false⟩,
  some ⟨.func, 1, 8, [.junk], false⟩,
  some ⟨.func, 1, 8, [.junk], false⟩,
  some ⟨(.struct [(0, 17), (1, 17), (2, 17), (3, 9)]), 4, 40, [.junk], false⟩,
  some ⟨(.struct [(0, 17), (1, 17), (2, 17), (3, 9)]), 4, 40, [.junk], false⟩,
  some ⟨(.arr 0 16), 0, 0, [], false⟩,
  some ⟨(.struct [(0, 209)]), 0, 0, [], false⟩,
  some ⟨(.struct [(0, 209)]), 0, 0, [], false⟩,
  some ⟨.func, 1, 8, [.junk], false⟩,
  some ⟨(.int .u8), 1, 1, [(.int .u8 (0))], false⟩,
  some ⟨(.int .u8), 1, 1, [(.int .u8 (0))], false⟩,
  some ⟨.func, 1, 8, [.junk], false⟩,
  some ⟨(.ptr 5), 1, 8, [.junk], false⟩,
  some ⟨(.int .i32), 1, 4, [(.int .i32 (0))], false⟩,
  some ⟨(.int .i32), 1, 4, [(.int .i32 (0))], false⟩,
  some ⟨(.struct [(0, 12), (1, 12), (2, 171), (3, 213), (4, 5), (5, 5), (6, 214), (7, 215), (8, 216), (9, 217), (10, 218)]), 11, 48, [.junk], false⟩,
  some ⟨(.struct [(0, 12), (1, 12), (2, 171), (3, 213), (4, 5), (5, 5), (6, 214), (7, 215), (8, 216), (9, 217), (10, 218)]), 11, 48, [.junk], false⟩,
  some ⟨.other, 1, 8, [.junk], false⟩]
def wfs : List Nat := [16, 47, 73, 90, 149, 200, 15, 17, 46, 118]
def xfs : List Nat := [91, 98, 99]
def rfs : List (Nat × Bool × Bool × Bool) := [(20, false, true, false), (28, false, true, false), (30, false, true, false), (36, false, true, false), (48, false, false, true), (49, true, true, false), (50, true, true, false), (51, true, false, false), (52, true, false, false), (53, true, true, false), (65, true, true, false), (66, false, true, false), (67, true, false, false), (78, true, false, false), (93, true, false, false), (94, true, false, false), (95, true, true, false), (96, true, true, false), (97, true, false, false), (113, true, true, false), (114, true, false, false), (131, true, true, false), (132, true, false, false), (133, true, false, false), (134, true, true, false)]
def tls : List Nat := [95]
def sgs : List (Nat × Bool) := [(0, false), (1, false), (2, false), (3, false), (4, false), (5, false), (6, false), (7, false), (8, true), (9, true), (10, true), (11, true), (12, false), (13, false), (14, false), (18, false), (19, false), (21, true), (22, true), (23, false), (24, false), (25, false), (26, false), (27, false), (29, true), (31, false), (32, false), (33, true), (34, false), (35, false), (37, false), (38, false), (39, false), (40, true), (41, true), (42, true), (43, true), (44, false), (45, false), (54, true), (55, true), (56, true), (57, true), (58, false), (59, true), (60, false), (61, false), (62, false), (63, false), (64, false), (68, true), (69, false), (70, false), (71, true), (72, false), (74, false), (75, false), (76, true), (77, false), (79, false), (80, false), (81, false), (82, false), (83, true), (84, true), (85, true), (86, true), (88, true), (89, true), (92, false), (100, false), (101, false), (102, false), (103, true), (104, false), (105, false), (106, false), (107, false), (108, false), (109, false), (110, false), (111, true), (112, true), (115, false), (116, false), (117, false), (119, false), (120, true), (121, false), (122, true), (123, false), (124, false), (125, true), (126, true), (127, false), (128, true), (129, false), (130, false), (135, false), (136, false), (137, false), (138, false), (139, true), (140, false), (141, false), (142, false), (143, true), (144, false), (145, false), (146, false), (147, true), (148, false), (150, false), (151, false), (152, false), (153, false), (154, false), (155, false), (156, false), (157, false), (158, false), (159, false), (160, true), (161, false), (162, true), (163, false), (164, false), (165, false), (166, false), (167, false), (168, false), (169, false), (170, false), (171, false), (172, false), (173, false), (174, false), (175, false), (176, false), (177, false), (178, false), (179, true), (180, false), (181, false), (182, false), (183, false), (184, true), (185, false), (186, false), (187, false), (188, false), (189, false), (190, false), (191, false), (192, false), (193, true), (194, false), (195, false), (196, false), (197, false), (198, false), (199, false), (201, false), (202, false), (203, false), (204, true), (205, false), (206, false), (207, false), (208, false), (209, false), (210, false), (211, false), (212, false), (213, false), (214, false), (215, false), (216, false), (217, false), (218, false), (219, false), (220, false), (221, false), (222, false), (223, false), (224, false), (225, false), (226, false), (227, false), (228, false), (229, false), (230, false), (231, false), (232, false), (233, false)]
def i3 : Comp := ⟨(.seq (.ops [s 3 (.box 9 (t 1)),
  s 4 (.mv (c (.bool false)))])
 (.seq (.ops [s 5 (.mv (c (i 1048576)))])
 (.seq (.ops [s 14 (.mv (t 0)),
  s 15 (.mv (t 5)),
  k 16 6 [(t 14), (t 15)] .sc,
  s 5 (.mv (t 16))])
 (.seq (.seq (.ops [s 17 (.mv (t 5)),
  s 18 (.bin .lss (t 17) (c (i 0)))])
 (.cond (t 18) (.seq (.ops [s 4 (.mv (c (.bool true)))])
 .ret) .skip))
 (.seq (.ops [s 19 (.ldB 3 0 9 true false),
  s 20 (.mv (t 5)),
  k 21 7 [(t 19), (t 20)] .sc,
  s 5 (.mv (t 21))])
 (.seq (.seq (.ops [s 22 (.mv (t 5)),
  s 23 (.bin .lss (t 22) (c (i 0)))])
 (.cond (t 23) (.seq (.ops [s 4 (.mv (c (.bool true)))])
 .ret) .skip))
 (.seq (.ops [s 24 (.mv (t 0)),
  k 25 9 [(t 24)] .lin,
  s 26 (.ldB 3 0 9 true false),
  k 27 10 [(t 26)] .lin,
  k 28 8 [(t 25), (t 27)] .lin,
  s 6 (.mv (t 28))])
 (.seq (.ops [s 29 (.mv (t 0)),
  k 30 9 [(t 29)] .lin,
  s 7 (.mv (t 30))])
 (.seq (.ops [s 31 (.ldB 3 0 9 true false),
  k 32 10 [(t 31)] .lin,
  s 8 (.alc [(i 0), (i 0), (i 0), (i 0), (.str (bs [])), (.lst 2 true []), (i 0), (i 0), (i 0)]),
  s 8 (.stB 8 0 9 (t 32) false)])
 (.seq (.ops [s 33 (.mv (t 7)),
  s 34 (.ldB 8 0 9 true false),
  k 35 11 [(t 33), (t 34)] .lin,
  s 9 (.mv (t 35))])
 (.seq (.seq (.ops [s 36 (.mv (t 9)),
  s 37 (.mv (t 6)),
  k 38 12 [(t 36), (t 37)] .sc,
  s 39 (.not (t 38))])
 (.cond (t 39) (.seq (.ops [s 4 (.mv (c (.bool false)))])
 .ret) .skip))
 (.seq (.seq (.ops [s 40 (.mv (t 7)),
  s 41 (.mv (t 0)),
  k 42 9 [(t 41)] .lin,
  k 43 13 [(t 40), (t 42)] .sc,
  s 44 (.not (t 43))])
 (.cond (t 44) (.seq (.ops [s 4 (.mv (c (.bool false)))])
 .ret) .skip))
 (.seq (.seq (.ops [s 45 (.ldB 8 0 9 true false),
  s 46 (.ldB 3 0 9 true false),
  k 47 10 [(t 46)] .lin,
  k 48 14 [(t 45), (t 47)] .sc,
  s 49 (.not (t 48))])
 (.cond (t 49) (.seq (.ops [s 4 (.mv (c (.bool false)))])
 .ret) .skip))
 (.seq (.ops [s 10 (.mv (c (i 1)))])
 (.seq (.seq (.ops [s 50 (.mv (t 7)),
  s 51 (.mv (t 10))])
 (.seq (opM 52 15 7 [(t 51)])
 (.ops [s 10 (.mv (t 52))])))
 (.seq (.seq (.ops [s 53 (.ldB 8 0 9 true false),
  s 54 (.mv (t 10))])
 (.seq (opB 55 16 8 9 [(t 54)])
 (.ops [s 10 (.mv (t 55))])))
 (.seq (.seq (.ops [s 56 (.mv (t 10)),
  s 57 (.bin .lss (t 56) (c (i 0))),
  s 58 (.mv (t 57)),
  sg [(58, false)] 59 (.mv (t 9)),
  sg [(58, false)] 60 (.mv (t 6)),
  kg [(58, false)] 61 12 [(t 59), (t 60)] .sc,
  sg [(58, false)] 62 (.not (t 61)),
  s 63 (.pick (t 58) (c (.bool true)) (t 62))])
 (.cond (t 63) (.seq (.ops [s 4 (.mv (c (.bool false)))])
 .ret) .skip))
 (.seq (.ops [s 11 (.mv (c (i 1)))])
 (.seq (.seq (.ops [s 64 (.mv (t 9)),
  s 65 (.mv (t 11))])
 (.seq (opM 66 17 9 [(t 65)])
 (.ops [s 11 (.mv (t 66))])))
 (.seq (.ops [s 12 (.mv (c (i 1)))])
 (.seq (.ops [s 67 (.mv (t 9)),
  s 68 (.mv (t 12)),
  k 69 18 [(t 67), (t 68)] .sc,
  s 12 (.mv (t 69))])
 (.seq (.seq (.ops [s 70 (.mv (t 12)),
  s 71 (.bin .lss (t 70) (c (i 0)))])
 (.cond (t 71) (.seq (.ops [s 4 (.mv (c (.bool false)))])
 .ret) .skip))
 (.seq (.seq (.ops [s 72 (.mv (t 12)),
  s 73 (.mv (t 11)),
  s 74 (.bin .neq (t 72) (t 73))])
 (.cond (t 74) (.seq (.ops [s 4 (.mv (c (.bool false)))])
 .ret) .skip))
 (.seq (.ops [s 75 (.mv (t 0)),
  k 76 9 [(t 75)] .lin,
  s 77 (.ldB 3 0 9 true false),
  k 78 10 [(t 77)] .lin,
  k 79 11 [(t 76), (t 78)] .lin,
  s 13 (.mv (t 79))])
 (.seq (.seq (.ops [s 80 (.mv (t 13)),
  s 81 (.mv (t 6)),
  k 82 12 [(t 80), (t 81)] .sc,
  s 83 (.not (t 82))])
 (.cond (t 83) (.seq (.ops [s 4 (.mv (c (.bool false)))])
 .ret) .skip))
 (.seq (.ops [s 12 (.mv (c (i 1)))])
 (.seq (.ops [s 84 (.mv (t 9)),
  s 85 (.mv (t 12)),
  k 86 18 [(t 84), (t 85)] .sc,
  s 12 (.mv (t 86))])
 (.seq (.seq (.ops [s 87 (.mv (t 12)),
  s 88 (.bin .lss (t 87) (c (i 0)))])
 (.cond (t 88) (.seq (.ops [s 4 (.mv (c (.bool false)))])
 .ret) .skip))
 (.seq (.seq (.ops [s 89 (.mv (t 12)),
  s 90 (.mv (t 11)),
  s 91 (.bin .neq (t 89) (t 90))])
 (.cond (t 91) (.seq (.ops [s 4 (.mv (c (.bool false)))])
 .ret) .skip))
 (.seq (.ops [s 4 (.mv (c (.bool true)))])
 .ret)))))))))))))))))))))))))))))), none, [4], [false, false]⟩
def i6 : Comp := ⟨(.seq (.ops [s 4 (.mv (c (i 0)))])
 (.seq (.ops [s 6 (.mv (t 1)),
  s 7 (.mv (t 0)),
  s 8 (.len false (t 7)),
  s 9 (.bin .sub (t 6) (t 8)),
  s 1 (.mv (t 9))])
 (.seq (.seq (.ops [s 10 (.mv (t 1)),
  s 11 (.bin .lss (t 10) (c (i 0)))])
 (.cond (t 11) (.seq (.ops [s 4 (.mv (c (i (-1))))])
 .ret) .skip))
 (.seq (.seq (.ops [s 5 (.mv (c (i 0)))])
 (.block 0 (.loop (.seq (.seq (.ops [s 12 (.mv (t 5)),
  s 13 (.mv (t 0)),
  s 14 (.len false (t 13)),
  s 15 (.bin .lss (t 12) (t 14))])
 (.cond (t 15) .skip (.exit 0)))
 (.seq (.block 1 (.seq (.ops [s 18 (.mv (t 0)),
  s 19 (.mv (t 5)),
  s 20 (.idx (t 18) (t 19) 5),
  s 21 (.ldE 18 20 0 5 true false 5),
  s 22 (.mv (t 1)),
  k 23 39 [(t 21), (t 22)] .sc,
  s 1 (.mv (t 23))])
 (.seq (.ops [s 24 (.mv (t 1)),
  s 25 (.bin .lss (t 24) (c (i 0)))])
 (.cond (t 25) (.seq (.ops [s 4 (.mv (c (i (-1))))])
 .ret) .skip))))
 (.ops [s 16 (.mv (t 5)),
  s 17 (.bin .add (t 16) (c (i 1))),
  s 5 (.mv (t 17))]))))))
 (.seq (.ops [s 26 (.mv (t 1)),
  s 4 (.mv (t 26))])
 .ret))))), none, [4], [false, true]⟩
def i7 : Comp := ⟨(.seq (.ops [s 2 (.box 9 (t 0)),
  s 4 (.mv (c (i 0)))])
 (.seq (.ops [s 5 (.mv (c (i 0))),
  s 6 (.ldB 2 1 5 true false),
  s 7 (.mv (t 1)),
  k 8 39 [(t 6), (t 7)] .sc,
  s 1 (.mv (t 8))])
 (.seq (.seq (.ops [s 9 (.mv (t 1)),
  s 10 (.bin .lss (t 9) (c (i 0)))])
 (.cond (t 10) (.seq (.ops [s 4 (.mv (c (i (-1))))])
 .ret) .skip))
 (.seq (.ops [s 11 (.mv (t 1)),
  s 4 (.mv (t 11))])
 .ret)))), none, [4], [false, true]⟩
def i8 : Comp := ⟨(.seq (.ops [s 3 (.box 9 (t 1)),
  s 4 (.mv (c (.lst 1 true [])))])
 (.seq (.ops [s 8 (.mv (t 0)),
  s 9 (.ldB 3 0 9 true false),
  k 10 40 [(t 8), (t 9)] .tup,
  s 7 (.mv (t 10)),
  s 11 (.ext 7 0 false),
  s 12 (.ext 7 1 true),
  s 5 (.mv (t 11)),
  s 6 (.mv (t 12))])
 (.seq (.seq (.ops [s 13 (.mv (t 6)),
  s 14 (.not (t 13))])
 (.cond (t 14) (.seq (.ops [s 15 (.bsl 1 []),
  s 4 (.mv (t 15))])
 .ret) .skip))
 (.seq (.ops [s 16 (.mv (t 0)),
  s 17 (.mv (t 5)),
  k 18 41 [(t 16), (t 17)] .lin,
  s 4 (.mv (t 18))])
 .ret)))), none, [4], [false, false]⟩
def i9 : Comp := ⟨(.seq (.ops [s 2 (.mv (c (.lst 5 true [])))])
 (.seq (.ops [s 5 (.mv (t 0)),
  s 6 (.len false (t 5)),
  s 7 (.mks 5 64 [(i 0), (i 0), (i 0), (.str (bs [])), (.lst 2 true [])] (t 6)),
  s 3 (.mv (t 7))])
 (.seq (.seq (.ops [s 4 (.mv (c (i 0)))])
 (.block 0 (.loop (.seq (.seq (.ops [s 8 (.mv (t 4)),
  s 9 (.mv (t 0)),
  s 10 (.len false (t 9)),
  s 11 (.bin .lss (t 8) (t 10))])
 (.cond (t 11) .skip (.exit 0)))
 (.seq (.block 1 (.ops [s 14 (.mv (c .junk)),
  s 15 (.mv (t 4)),
  s 16 (.mv (t 0)),
  s 17 (.mv (t 4)),
  s 18 (.idx (t 16) (t 17) 5),
  s 19 (.ldE 16 18 0 5 true false 5),
  k 20 42 [(t 19)] .lin,
  s 21 (.idx (t 3) (t 15) 5),
  s 3 (.stF 3 21 5 (t 20))]))
 (.ops [s 12 (.mv (t 4)),
  s 13 (.bin .add (t 12) (c (i 1))),
  s 4 (.mv (t 13))]))))))
 (.seq (.ops [s 22 (.mv (c .junk)),
  s 2 (.mv (t 3))])
 .ret)))), none, [2], [false]⟩
def i10 : Comp := ⟨(.seq (.ops [s 1 (.box 9 (t 0)),
  s 2 (.alc [(i 0), (i 0), (i 0), (i 0), (.str (bs [])), (.lst 2 true []), (i 0), (i 0), (i 0)])])
 (.seq (.ops [s 3 (.alc [(i 0), (i 0), (i 0), (i 0), (.str (bs [])), (.lst 2 true []), (i 0), (i 0), (i 0)])])
 (.seq (.ops [s 4 (.mv (c (i 0))),
  s 5 (.ldB 1 0 1 false true),
  s 6 (.mv (c (i 0))),
  s 3 (.stB 3 0 1 (t 5) false)])
 (.seq (.ops [s 7 (.mv (c (i 0))),
  s 8 (.ldB 1 1 5 true false),
  k 9 42 [(t 8)] .lin,
  s 10 (.mv (c (i 0))),
  s 3 (.stB 3 1 5 (t 9) false)])
 (.seq (.ops [s 11 (.mv (c (i 0))),
  s 12 (.ldB 1 6 1 false true),
  s 13 (.mv (c (i 0))),
  s 3 (.stB 3 6 1 (t 12) false)])
 (.seq (.ops [s 14 (.mv (c (i 0))),
  s 15 (.ldB 1 7 1 false true),
  s 16 (.mv (c (i 0))),
  s 3 (.stB 3 7 1 (t 15) false)])
 (.seq (.ops [s 17 (.mv (c (i 0))),
  s 18 (.ldB 1 8 1 false true),
  s 19 (.mv (c (i 0))),
  s 3 (.stB 3 8 1 (t 18) false)])
 (.seq (.ops [s 20 (.ldB 3 0 9 true false),
  s 2 (.stB 2 0 9 (t 20) false)])
 .ret)))))))), (some ⟨2, 38, 9, true, false⟩), [], [false]⟩
def i11 : Comp := ⟨(.seq (.ops [s 3 (.box 9 (t 1)),
  s 4 (.mv (c (.lst 1 true [])))])
 (.seq (.ops [s 8 (.mv (t 0)),
  s 9 (.ldB 3 0 9 true false),
  k 10 21 [(t 8), (t 9)] .tup,
  s 7 (.mv (t 10)),
  s 11 (.ext 7 0 false),
  s 12 (.ext 7 1 true),
  s 5 (.mv (t 11)),
  s 6 (.mv (t 12))])
 (.seq (.seq (.ops [s 13 (.mv (t 6)),
  s 14 (.not (t 13))])
 (.cond (t 14) (.seq (.ops [s 15 (.bsl 1 []),
  s 4 (.mv (t 15))])
 .ret) .skip))
 (.seq (.ops [s 16 (.mv (t 0)),
  s 17 (.mv (t 5)),
  k 18 43 [(t 16), (t 17)] .lin,
  s 4 (.mv (t 18))])
 .ret)))), none, [4], [false, false]⟩
def i12 : Comp := ⟨(.seq (.ops [s 4 (.mv (c (.bool false)))])
 (.seq (.seq (.ops [s 6 (.mv (t 0)),
  s 7 (.len false (t 6)),
  s 8 (.mv (t 1)),
  s 9 (.len false (t 8)),
  s 10 (.bin .neq (t 7) (t 9))])
 (.cond (t 10) (.seq (.ops [s 4 (.mv (c (.bool false)))])
 .ret) .skip))
 (.seq (.seq (.ops [s 5 (.mv (c (i 0)))])
 (.block 0 (.loop (.seq (.seq (.ops [s 11 (.mv (t 5)),
  s 12 (.mv (t 0)),
  s 13 (.len false (t 12)),
  s 14 (.bin .lss (t 11) (t 13))])
 (.cond (t 14) .skip (.exit 0)))
 (.seq (.block 1 (.seq (.ops [s 17 (.mv (t 0)),
  s 18 (.mv (t 5)),
  s 19 (.idx (t 17) (t 18) 1),
  s 20 (.ldE 17 19 0 1 false true 1),
  s 21 (.mv (t 1)),
  s 22 (.mv (t 5)),
  s 23 (.idx (t 21) (t 22) 1),
  s 24 (.ldE 21 23 0 1 false true 1),
  s 25 (.bin .neq (t 20) (t 24))])
 (.cond (t 25) (.seq (.ops [s 4 (.mv (c (.bool false)))])
 .ret) .skip)))
 (.ops [s 15 (.mv (t 5)),
  s 16 (.bin .add (t 15) (c (i 1))),
  s 5 (.mv (t 16))]))))))
 (.seq (.ops [s 4 (.mv (c (.bool true)))])
 .ret)))), none, [4], [false, false]⟩
def i13 : Comp := ⟨(.seq (.ops [s 4 (.mv (c (.bool false)))])
 (.seq (.seq (.ops [s 6 (.mv (t 0)),
  s 7 (.len false (t 6)),
  s 8 (.mv (t 1)),
  s 9 (.len false (t 8)),
  s 10 (.bin .neq (t 7) (t 9))])
 (.cond (t 10) (.seq (.ops [s 4 (.mv (c (.bool false)))])
 .ret) .skip))
 (.seq (.seq (.ops [s 5 (.mv (c (i 0)))])
 (.block 0 (.loop (.seq (.seq (.ops [s 11 (.mv (t 5)),
  s 12 (.mv (t 0)),
  s 13 (.len false (t 12)),
  s 14 (.bin .lss (t 11) (t 13))])
 (.cond (t 14) .skip (.exit 0)))
 (.seq (.block 1 (.seq (.ops [s 17 (.mv (t 0)),
  s 18 (.mv (t 5)),
  s 19 (.idx (t 17) (t 18) 5),
  s 20 (.ldE 17 19 0 5 true false 5),
  s 21 (.mv (t 1)),
  s 22 (.mv (t 5)),
  s 23 (.idx (t 21) (t 22) 5),
  s 24 (.ldE 21 23 0 5 true false 5),
  k 25 44 [(t 20), (t 24)] .sc,
  s 26 (.not (t 25))])
 (.cond (t 26) (.seq (.ops [s 4 (.mv (c (.bool false)))])
 .ret) .skip)))
 (.ops [s 15 (.mv (t 5)),
  s 16 (.bin .add (t 15) (c (i 1))),
  s 5 (.mv (t 16))]))))))
 (.seq (.ops [s 4 (.mv (c (.bool true)))])
 .ret)))), none, [4], [false, false]⟩
def i14 : Comp := ⟨(.seq (.ops [s 2 (.box 9 (t 0)),
  s 3 (.box 9 (t 1)),
  s 4 (.mv (c (.bool false)))])
 (.seq (.seq (.ops [s 5 (.mv (c (i 0))),
  s 6 (.ldB 2 0 1 false true),
  s 7 (.mv (c (i 0))),
  s 8 (.ldB 3 0 1 false true),
  s 9 (.bin .neq (t 6) (t 8))])
 (.cond (t 9) (.seq (.ops [s 4 (.mv (c (.bool false)))])
 .ret) .skip))
 (.seq (.seq (.ops [s 10 (.mv (c (i 0))),
  s 11 (.ldB 2 1 5 true false),
  s 12 (.mv (c (i 0))),
  s 13 (.ldB 3 1 5 true false),
  k 14 44 [(t 11), (t 13)] .sc,
  s 15 (.not (t 14))])
 (.cond (t 15) (.seq (.ops [s 4 (.mv (c (.bool false)))])
 .ret) .skip))
 (.seq (.seq (.ops [s 16 (.mv (c (i 0))),
  s 17 (.ldB 2 6 1 false true),
  s 18 (.mv (c (i 0))),
  s 19 (.ldB 3 6 1 false true),
  s 20 (.bin .neq (t 17) (t 19))])
 (.cond (t 20) (.seq (.ops [s 4 (.mv (c (.bool false)))])
 .ret) .skip))
 (.seq (.seq (.ops [s 21 (.mv (c (i 0))),
  s 22 (.ldB 2 7 1 false true),
  s 23 (.mv (c (i 0))),
  s 24 (.ldB 3 7 1 false true),
  s 25 (.bin .neq (t 22) (t 24))])
 (.cond (t 25) (.seq (.ops [s 4 (.mv (c (.bool false)))])
 .ret) .skip))
 (.seq (.seq (.ops [s 26 (.mv (c (i 0))),
  s 27 (.ldB 2 8 1 false true),
  s 28 (.mv (c (i 0))),
  s 29 (.ldB 3 8 1 false true),
  s 30 (.bin .neq (t 27) (t 29))])
 (.cond (t 30) (.seq (.ops [s 4 (.mv (c (.bool false)))])
 .ret) .skip))
 (.seq (.ops [s 4 (.mv (c (.bool true)))])
 .ret))))))), none, [4], [false, false]⟩
def i15 : Comp := ⟨(.seq (.ops [s 4 (.mv (c (i 0)))])
 (.seq (.seq (.ops [s 5 (.mv (c (i 0)))])
 (.block 0 (.loop (.seq (.seq (.ops [s 6 (.mv (t 5)),
  s 7 (.mv (t 0)),
  s 8 (.len false (t 7)),
  s 9 (.bin .lss (t 6) (t 8))])
 (.cond (t 9) .skip (.exit 0)))
 (.seq (.block 1 (.seq (.seq (.ops [s 12 (.mv (t 0)),
  s 13 (.mv (t 5)),
  s 14 (.mv (t 1)),
  s 15 (.idx (t 12) (t 13) 5),
  s 16 (.mv (t 15))])
 (.seq (opW 0 16 0 1 5 (t 14))
 (.ops [])))
 (.seq (.ops [s 17 (.mv (t 1)),
  s 18 (.bin .add (t 17) (c (i 1))),
  s 1 (.mv (t 18))])
 (.seq (.seq (.ops [s 19 (.mv (t 0)),
  s 20 (.mv (t 5)),
  s 21 (.mv (t 1)),
  s 22 (.idx (t 19) (t 20) 5),
  s 23 (.mv (t 22))])
 (.seq (opW 0 23 1 1 5 (t 21))
 (.ops [])))
 (.seq (.ops [s 24 (.mv (t 1)),
  s 25 (.bin .add (t 24) (c (i 1))),
  s 1 (.mv (t 25))])
 (.seq (.seq (.ops [s 26 (.mv (t 0)),
  s 27 (.mv (t 5)),
  s 28 (.mv (t 1)),
  s 29 (.idx (t 26) (t 27) 5),
  s 30 (.mv (t 29))])
 (.seq (opW 0 30 2 1 5 (t 28))
 (.ops [])))
 (.seq (.ops [s 31 (.mv (t 1)),
  s 32 (.bin .add (t 31) (c (i 1))),
  s 1 (.mv (t 32))])
 (.seq (.seq (.ops [s 33 (.mv (t 0)),
  s 34 (.mv (t 5)),
  s 35 (.mv (t 1)),
  k 36 45 [(t 35)] .sc,
  s 37 (.idx (t 33) (t 34) 5),
  s 38 (.mv (t 37))])
 (.seq (opW 0 38 3 1 5 (t 36))
 (.ops [])))
 (.seq (.ops [s 39 (.mv (t 1)),
  s 40 (.bin .add (t 39) (c (i 1))),
  s 1 (.mv (t 40))])
 (.seq (.ops [s 41 (.mv (t 0)),
  s 42 (.mv (t 5)),
  s 43 (.idx (t 41) (t 42) 5),
  s 44 (.mv (t 43)),
  s 45 (.ldE 41 44 4 1 false false 5),
  s 46 (.mv (t 1))])
 (.seq (opE 47 46 0 44 4 5 [(t 46)])
 (.ops [s 1 (.mv (t 47))]))))))))))))
 (.ops [s 10 (.mv (t 5)),
  s 11 (.bin .add (t 10) (c (i 1))),
  s 5 (.mv (t 11))]))))))
 (.seq (.ops [s 48 (.mv (t 1)),
  s 4 (.mv (t 48))])
 .ret))), none, [4], [true]⟩
def i17 : Comp := ⟨(.seq (.ops [s 4 (.mv (c (i 0)))])
 (.seq (.seq (.ops [s 5 (.mv (c (i 0)))])
 (.block 0 (.loop (.seq (.seq (.ops [s 6 (.mv (t 5)),
  s 7 (.mv (t 0)),
  s 8 (.len false (t 7)),
  s 9 (.bin .lss (t 6) (t 8))])
 (.cond (t 9) .skip (.exit 0)))
 (.seq (.block 1 (.seq (.seq (.ops [s 12 (.mv (t 0)),
  s 13 (.mv (t 5)),
  s 14 (.mv (t 1)),
  s 15 (.idx (t 12) (t 13) 1)])
 (.seq (opW 0 15 0 1 1 (t 14))
 (.ops [])))
 (.ops [s 16 (.mv (t 1)),
  s 17 (.bin .add (t 16) (c (i 1))),
  s 1 (.mv (t 17))])))
 (.ops [s 10 (.mv (t 5)),
  s 11 (.bin .add (t 10) (c (i 1))),
  s 5 (.mv (t 11))]))))))
 (.seq (.ops [s 18 (.mv (t 1)),
  s 4 (.mv (t 18))])
 .ret))), none, [4], [true]⟩
def i18 : Comp := ⟨(.seq (.ops [s 4 (.mv (c (i 0)))])
 (.seq (.seq (.ops [s 5 (.mv (c (i 0)))])
 (.block 0 (.loop (.seq (.seq (.ops [s 6 (.mv (t 5)),
  s 7 (.mv (t 0)),
  s 8 (.len false (t 7)),
  s 9 (.bin .lss (t 6) (t 8))])
 (.cond (t 9) .skip (.exit 0)))
 (.seq (.block 1 (.seq (.seq (.ops [s 12 (.mv (t 0)),
  s 13 (.mv (t 5)),
  s 14 (.idx (t 12) (t 13) 1),
  s 15 (.ldE 12 14 0 1 false true 1),
  s 16 (.mv (t 1)),
  s 17 (.bin .neq (t 15) (t 16))])
 (.cond (t 17) (.seq (.ops [s 4 (.mv (c (i (-1))))])
 .ret) .skip))
 (.ops [s 18 (.mv (t 1)),
  s 19 (.bin .add (t 18) (c (i 1))),
  s 1 (.mv (t 19))])))
 (.ops [s 10 (.mv (t 5)),
  s 11 (.bin .add (t 10) (c (i 1))),
  s 5 (.mv (t 11))]))))))
 (.seq (.ops [s 20 (.mv (t 1)),
  s 4 (.mv (t 20))])
 .ret))), none, [4], [false, true]⟩
def i21 : Comp := ⟨(.seq (.ops [s 3 (.box 9 (t 1)),
  s 4 (.mv (c (.lst 5 true []))),
  s 5 (.mv (c (.bool false)))])
 (.seq (.seq (.ops [s 8 (.mv (c (i 0))),
  s 9 (.ldB 3 0 1 false true)])
 (.block 0 (.seq (.ops [s 11 (.bin .eql (t 9) (c (i 1))),
  s 10 (.mv (t 11))])
 (.cond (t 10) (.seq (.ops [s 12 (.mv (t 0)),
  s 13 (.mv (c (i 0))),
  s 14 (.ldB 3 1 5 true false),
  k 15 54 [(t 12), (t 14)] .tup,
  s 16 (.ext 15 0 false),
  s 17 (.ext 15 1 true),
  s 4 (.mv (t 16)),
  s 5 (.mv (t 17))])
 .ret) (.seq (.ops [s 19 (.bin .eql (t 9) (c (i 2))),
  s 18 (.mv (t 19))])
 (.cond (t 18) (.seq (.ops [s 20 (.mv (t 0)),
  s 21 (.mv (c (i 0))),
  s 22 (.ldB 3 6 1 false true),
  k 23 55 [(t 20), (t 22)] .tup,
  s 24 (.ext 23 0 false),
  s 25 (.ext 23 1 true),
  s 4 (.mv (t 24)),
  s 5 (.mv (t 25))])
 .ret) (.seq (.ops [s 27 (.bin .eql (t 9) (c (i 3))),
  s 26 (.mv (t 27))])
 (.cond (t 26) (.seq (.ops [s 29 (.mv (t 0)),
  s 30 (.ldB 3 0 9 true false),
  k 31 56 [(t 29), (t 30)] .tup,
  s 28 (.mv (t 31)),
  s 32 (.ext 28 0 false),
  s 33 (.ext 28 1 true),
  s 6 (.mv (t 32)),
  s 7 (.mv (t 33))])
 (.seq (.ops [s 34 (.mv (t 7))])
 (.cond (t 34) (.seq (.ops [s 35 (.mv (t 6)),
  s 4 (.mv (t 35)),
  s 5 (.mv (c (.bool true)))])
 .ret) .skip))) .skip))))))))
 (.seq (.ops [s 36 (.mv (t 0)),
  k 37 57 [(t 36)] .lin,
  s 4 (.mv (t 37)),
  s 5 (.mv (c (.bool false)))])
 .ret))), none, [4, 5], [false, false]⟩
def i24 : Comp := ⟨(.seq (.ops [s 2 (.mv (c (.bool false)))])
 (.seq (.seq (.ops [s 5 (.mv (t 0)),
  s 6 (.len false (t 5)),
  s 7 (.bin .gtr (t 6) (c (i 16)))])
 (.cond (t 7) (.seq (.ops [s 2 (.mv (c (.bool false)))])
 .ret) .skip))
 (.seq (.seq (.ops [s 8 (.mv (t 0)),
  s 9 (.len false (t 8)),
  s 10 (.mv (c (i 0)))])
 (.block 0 (.loop (.seq (.ops [s 11 (.bin .lss (t 10) (t 9))])
 (.seq (.cond (t 11) .skip (.exit 0))
 (.seq (.block 1 (.seq (.ops [s 12 (.mv (t 10)),
  s 13 (.idx (t 8) (t 10) 5),
  s 14 (.ldE 8 13 0 5 true false 5),
  s 4 (.alc [(i 0), (i 0), (i 0), (.str (bs [])), (.lst 2 true [])]),
  s 3 (.mv (t 12)),
  s 4 (.stB 4 0 5 (t 14) false)])
 (.seq (.ops [s 15 (.ldB 4 0 5 true false),
  k 16 62 [(t 15)] .sc,
  s 17 (.not (t 16)),
  s 18 (.mv (t 17)),
  sg [(18, false)] 19 (.mv (t 3)),
  sg [(18, false)] 20 (.bin .gtr (t 19) (c (i 0))),
  sg [(18, false)] 21 (.mv (t 20)),
  sg [(21, true), (18, false)] 22 (.mv (c (i 0))),
  sg [(21, true), (18, false)] 23 (.ldB 4 0 1 false true),
  sg [(21, true), (18, false)] 24 (.mv (t 0)),
  sg [(21, true), (18, false)] 25 (.mv (t 3)),
  sg [(21, true), (18, false)] 26 (.bin .sub (t 25) (c (i 1))),
  sg [(21, true), (18, false)] 27 (.idx (t 24) (t 26) 5),
  sg [(21, true), (18, false)] 28 (.mv (t 27)),
  sg [(21, true), (18, false)] 29 (.ldE 24 28 0 1 false true 5),
  sg [(21, true), (18, false)] 30 (.bin .leq (t 23) (t 29)),
  sg [(18, false)] 31 (.pick (t 21) (t 30) (c (.bool false))),
  s 32 (.pick (t 18) (c (.bool true)) (t 31))])
 (.cond (t 32) (.seq (.ops [s 2 (.mv (c (.bool false)))])
 .ret) .skip))))
 (.ops [s 33 (.bin .add (t 10) (c (i 1))),
  s 10 (.mv (t 33))])))))))
 (.seq (.ops [s 2 (.mv (c (.bool true)))])
 .ret)))), none, [2], [false]⟩
def i34 : Comp := ⟨(.seq (.ops [s 2 (.box 2 (t 0)),
  s 3 (.box 2 (t 1)),
  s 4 (.mv (c (.bool false)))])
 (.seq (.ops [s 5 (.mv (c (i 0))),
  s 6 (.ldB 2 1 1 false true),
  s 7 (.mv (c (i 0))),
  s 8 (.ldB 3 1 1 false true),
  s 9 (.bin .lss (t 6) (t 8)),
  s 10 (.mv (t 9)),
  sg [(10, false)] 11 (.mv (c (i 0))),
  sg [(10, false)] 12 (.ldB 2 1 1 false true),
  sg [(10, false)] 13 (.mv (c (i 0))),
  sg [(10, false)] 14 (.ldB 3 1 1 false true),
  sg [(10, false)] 15 (.bin .eql (t 12) (t 14)),
  sg [(10, false)] 16 (.mv (t 15)),
  sg [(16, true), (10, false)] 17 (.mv (c (i 0))),
  sg [(16, true), (10, false)] 18 (.ldB 2 0 1 false true),
  sg [(16, true), (10, false)] 19 (.mv (c (i 0))),
  sg [(16, true), (10, false)] 20 (.ldB 3 0 1 false true),
  sg [(16, true), (10, false)] 21 (.bin .lss (t 18) (t 20)),
  sg [(10, false)] 22 (.pick (t 16) (t 21) (c (.bool false))),
  s 23 (.pick (t 10) (c (.bool true)) (t 22)),
  s 4 (.mv (t 23))])
 .ret)), none, [4], [true, true]⟩
def i35 : Comp := ⟨(.seq (.ops [s 1 (.box 2 (t 0)),
  s 2 (.mv (c (.bool false)))])
 (.seq (.ops [s 3 (.mv (c (i 0))),
  s 4 (.ldB 1 0 1 false true),
  k 5 75 [(t 4), (c (i 0)), (c (i 200))] .sc,
  s 6 (.mv (t 5)),
  sg [(6, true)] 7 (.mv (c (i 0))),
  sg [(6, true)] 8 (.ldB 1 1 1 false true),
  kg [(6, true)] 9 75 [(t 8), (c (i 0)), (c (i 200))] .sc,
  s 10 (.pick (t 6) (t 9) (c (.bool false))),
  s 2 (.mv (t 10))])
 .ret)), none, [2], [true]⟩
def i39 : Comp := ⟨(.seq (.ops [s 2 (.box 5 (t 0)),
  s 4 (.mv (c (i 0)))])
 (.seq (.ops [s 5 (.mv (t 1)),
  s 6 (.mv (c (i 0))),
  s 7 (.ldB 2 3 1 false true),
  s 8 (.len true (t 7)),
  s 9 (.bin .sub (t 5) (t 8)),
  s 1 (.mv (t 9))])
 (.seq (.seq (.ops [s 10 (.mv (t 1)),
  s 11 (.bin .lss (t 10) (c (i 0)))])
 (.cond (t 11) (.seq (.ops [s 4 (.mv (c (i (-1))))])
 .ret) .skip))
 (.seq (.ops [s 12 (.mv (c (i 0))),
  s 13 (.ldB 2 4 1 false false),
  s 14 (.mv (t 1)),
  k 15 82 [(t 13), (t 14)] .sc,
  s 1 (.mv (t 15))])
 (.seq (.seq (.ops [s 16 (.mv (t 1)),
  s 17 (.bin .lss (t 16) (c (i 0)))])
 (.cond (t 17) (.seq (.ops [s 4 (.mv (c (i (-1))))])
 .ret) .skip))
 (.seq (.ops [s 18 (.mv (t 1)),
  s 4 (.mv (t 18))])
 .ret)))))), none, [4], [false, true]⟩
def i40 : Comp := ⟨(.seq (.ops [s 3 (.box 9 (t 1)),
  s 4 (.mv (c (.lst 5 true []))),
  s 5 (.mv (c (.bool false)))])
 (.seq (.ops [s 8 (.mv (t 0)),
  k 9 83 [(t 8)] .lin,
  s 6 (.mv (t 9))])
 (.seq (.ops [s 7 (.mv (c (.bool false)))])
 (.seq (.seq (.ops [s 10 (.mv (c (i 0))),
  s 11 (.ldB 3 0 1 false true)])
 (.block 0 (.seq (.ops [s 13 (.bin .eql (t 11) (c (i 1))),
  s 12 (.mv (t 13))])
 (.cond (t 12) (.ops [s 15 (.mv (t 0)),
  s 16 (.mv (c (i 0))),
  s 17 (.ldB 3 1 5 true false),
  k 18 84 [(t 15), (t 17)] .tup,
  s 14 (.mv (t 18)),
  s 19 (.ext 14 0 false),
  s 20 (.ext 14 1 true),
  s 6 (.mv (t 19)),
  s 7 (.mv (t 20))]) (.seq (.ops [s 22 (.bin .eql (t 11) (c (i 2))),
  s 21 (.mv (t 22))])
 (.cond (t 21) (.ops [s 24 (.mv (t 0)),
  s 25 (.mv (c (i 0))),
  s 26 (.ldB 3 6 1 false true),
  k 27 85 [(t 24), (t 26)] .tup,
  s 23 (.mv (t 27)),
  s 28 (.ext 23 0 false),
  s 29 (.ext 23 1 true),
  s 6 (.mv (t 28)),
  s 7 (.mv (t 29))]) (.seq (.ops [s 31 (.bin .eql (t 11) (c (i 3))),
  s 30 (.mv (t 31))])
 (.cond (t 30) (.ops [s 33 (.mv (t 0)),
  s 34 (.ldB 3 0 9 true false),
  k 35 86 [(t 33), (t 34)] .tup,
  s 32 (.mv (t 35)),
  s 36 (.ext 32 0 false),
  s 37 (.ext 32 1 true),
  s 6 (.mv (t 36)),
  s 7 (.mv (t 37))]) .skip))))))))
 (.seq (.seq (.ops [s 38 (.mv (t 7)),
  s 39 (.not (t 38)),
  s 40 (.mv (t 39)),
  sg [(40, false)] 41 (.mv (t 6)),
  kg [(40, false)] 42 69 [(t 41)] .sc,
  sg [(40, false)] 43 (.not (t 42)),
  s 44 (.pick (t 40) (c (.bool true)) (t 43))])
 (.cond (t 44) (.seq (.ops [s 45 (.mv (t 0)),
  k 46 83 [(t 45)] .lin,
  s 4 (.mv (t 46)),
  s 5 (.mv (c (.bool false)))])
 .ret) .skip))
 (.seq (.ops [s 47 (.mv (t 6)),
  s 4 (.mv (t 47)),
  s 5 (.mv (c (.bool true)))])
 .ret)))))), none, [4, 5], [false, false]⟩
def i42 : Comp := ⟨(.seq (.ops [s 1 (.box 5 (t 0)),
  s 2 (.alc [(i 0), (i 0), (i 0), (.str (bs [])), (.lst 2 true [])])])
 (.seq (.ops [s 3 (.alc [(i 0), (i 0), (i 0), (.str (bs [])), (.lst 2 true [])])])
 (.seq (.ops [s 4 (.mv (c (i 0))),
  s 5 (.ldB 1 0 1 false true),
  s 6 (.mv (c (i 0))),
  s 3 (.stB 3 0 1 (t 5) false)])
 (.seq (.ops [s 7 (.mv (c (i 0))),
  s 8 (.ldB 1 1 1 false true),
  s 9 (.mv (c (i 0))),
  s 3 (.stB 3 1 1 (t 8) false)])
 (.seq (.ops [s 10 (.mv (c (i 0))),
  s 11 (.ldB 1 2 1 false true),
  s 12 (.mv (c (i 0))),
  s 3 (.stB 3 2 1 (t 11) false)])
 (.seq (.ops [s 13 (.mv (c (i 0))),
  s 14 (.ldB 1 3 1 false true),
  s 15 (.mv (c (i 0))),
  s 3 (.stB 3 3 1 (t 14) false)])
 (.seq (.ops [s 16 (.mv (c (i 0))),
  s 17 (.ldB 1 4 1 false false),
  k 18 88 [(t 17)] .lin,
  s 19 (.mv (c (i 0))),
  s 3 (.stB 3 4 1 (t 18) false)])
 (.seq (.ops [s 20 (.ldB 3 0 5 true false),
  s 2 (.stB 2 0 5 (t 20) false)])
 .ret)))))))), (some ⟨2, 36, 5, true, false⟩), [], [false]⟩
def i43 : Comp := ⟨(.seq (.ops [s 4 (.mv (c (.lst 1 true [])))])
 (.seq (.seq (.ops [s 6 (.mv (t 0)),
  k 7 24 [(t 6)] .sc,
  s 8 (.not (t 7)),
  s 9 (.mv (t 8)),
  sg [(9, false)] 10 (.mv (t 1)),
  kg [(9, false)] 11 24 [(t 10)] .sc,
  sg [(9, false)] 12 (.not (t 11)),
  s 13 (.pick (t 9) (c (.bool true)) (t 12))])
 (.cond (t 13) (.seq (.ops [s 14 (.bsl 1 []),
  s 4 (.mv (t 14))])
 .ret) .skip))
 (.seq (.ops [s 15 (.mv (t 0)),
  s 16 (.mv (t 1)),
  k 17 89 [(t 15), (t 16)] .lin,
  s 18 (.mv (t 1)),
  s 19 (.mv (t 0)),
  k 20 89 [(t 18), (t 19)] .lin,
  s 21 (.app (t 17) (t 20) 1 8),
  s 5 (.mv (t 21))])
 (.seq (.seq (.ops [s 22 (.mv (t 5))])
 (.seq (opM 23 90 5 [])
 (.ops [])))
 (.seq (.seq (.ops [s 24 (.mv (t 5))])
 (.seq (opXL 25 91 [(t 24)])
 (.ops [s 4 (.mv (t 25))])))
 .ret))))), none, [4], [false, false]⟩
def i44 : Comp := ⟨(.seq (.ops [s 2 (.box 5 (t 0)),
  s 3 (.box 5 (t 1)),
  s 4 (.mv (c (.bool false)))])
 (.seq (.seq (.ops [s 5 (.mv (c (i 0))),
  s 6 (.ldB 2 0 1 false true),
  s 7 (.mv (c (i 0))),
  s 8 (.ldB 3 0 1 false true),
  s 9 (.bin .neq (t 6) (t 8))])
 (.cond (t 9) (.seq (.ops [s 4 (.mv (c (.bool false)))])
 .ret) .skip))
 (.seq (.seq (.ops [s 10 (.mv (c (i 0))),
  s 11 (.ldB 2 1 1 false true),
  s 12 (.mv (c (i 0))),
  s 13 (.ldB 3 1 1 false true),
  s 14 (.bin .neq (t 11) (t 13))])
 (.cond (t 14) (.seq (.ops [s 4 (.mv (c (.bool false)))])
 .ret) .skip))
 (.seq (.seq (.ops [s 15 (.mv (c (i 0))),
  s 16 (.ldB 2 2 1 false true),
  s 17 (.mv (c (i 0))),
  s 18 (.ldB 3 2 1 false true),
  s 19 (.bin .neq (t 16) (t 18))])
 (.cond (t 19) (.seq (.ops [s 4 (.mv (c (.bool false)))])
 .ret) .skip))
 (.seq (.seq (.ops [s 20 (.mv (c (i 0))),
  s 21 (.ldB 2 3 1 false true),
  s 22 (.mv (c (i 0))),
  s 23 (.ldB 3 3 1 false true),
  s 24 (.bin .neq (t 21) (t 23))])
 (.cond (t 24) (.seq (.ops [s 4 (.mv (c (.bool false)))])
 .ret) .skip))
 (.seq (.seq (.ops [s 25 (.mv (c (i 0))),
  s 26 (.ldB 2 4 1 false false),
  s 27 (.mv (c (i 0))),
  s 28 (.ldB 3 4 1 false false),
  k 29 92 [(t 26), (t 28)] .sc,
  s 30 (.not (t 29))])
 (.cond (t 30) (.seq (.ops [s 4 (.mv (c (.bool false)))])
 .ret) .skip))
 (.seq (.ops [s 4 (.mv (c (.bool true)))])
 .ret))))))), none, [4], [false, false]⟩
def i45 : Comp := ⟨(.seq (.ops [s 2 (.mv (c (.str (bs []))))])
 (.seq (.seq (.ops [s 4 (.mv (t 0)),
  s 5 (.bin .leq (t 4) (c (i 0)))])
 (.cond (t 5) (.seq (.ops [s 2 (.mv (c (.str (bs [109, 48]))))])
 .ret) .skip))
 (.seq (.ops [s 3 (.mv (c (.str (bs []))))])
 (.seq (.block 0 (.loop (.seq (.seq (.ops [s 6 (.mv (t 0)),
  s 7 (.bin .gtr (t 6) (c (i 0)))])
 (.cond (t 7) .skip (.exit 0)))
 (.block 1 (.seq (.ops [s 8 (.mv (t 0)),
  s 9 (.bin .rem (t 8) (c (i 10))),
  s 10 (.bin .add (c (i 48)) (t 9)),
  s 11 (.conv .u8 (t 10)),
  s 12 (.bsl 1 [(t 11)]),
  s 13 (.bst (t 12)),
  s 14 (.mv (t 3)),
  s 15 (.bin .add (t 13) (t 14)),
  s 3 (.mv (t 15))])
 (.ops [s 16 (.mv (t 0)),
  s 17 (.bin .quo (t 16) (c (i 10))),
  s 0 (.mv (t 17))]))))))
 (.seq (.ops [s 18 (.mv (t 3)),
  s 19 (.bin .add (c (.str (bs [109]))) (t 18)),
  s 2 (.mv (t 19))])
 .ret))))), none, [2], [true]⟩
def i46 : Comp := ⟨(.seq (.ops [s 4 (.mv (c (i 0)))])
 (.seq (.seq (.ops [s 5 (.mv (c (i 0)))])
 (.block 0 (.loop (.seq (.seq (.ops [s 6 (.mv (t 5)),
  s 7 (.mv (t 0)),
  s 8 (.len false (t 7)),
  s 9 (.bin .lss (t 6) (t 8))])
 (.cond (t 9) .skip (.exit 0)))
 (.seq (.block 1 (.seq (.seq (.ops [s 12 (.mv (t 0)),
  s 13 (.mv (t 5)),
  s 14 (.mv (t 1)),
  s 15 (.idx (t 12) (t 13) 2),
  s 16 (.mv (t 15))])
 (.seq (opW 0 16 0 1 2 (t 14))
 (.ops [])))
 (.seq (.ops [s 17 (.mv (t 1)),
  s 18 (.bin .add (t 17) (c (i 1))),
  s 1 (.mv (t 18))])
 (.seq (.seq (.ops [s 19 (.mv (t 0)),
  s 20 (.mv (t 5)),
  s 21 (.mv (t 1)),
  s 22 (.idx (t 19) (t 20) 2),
  s 23 (.mv (t 22))])
 (.seq (opW 0 23 1 1 2 (t 21))
 (.ops [])))
 (.ops [s 24 (.mv (t 1)),
  s 25 (.bin .add (t 24) (c (i 1))),
  s 1 (.mv (t 25))])))))
 (.ops [s 10 (.mv (t 5)),
  s 11 (.bin .add (t 10) (c (i 1))),
  s 5 (.mv (t 11))]))))))
 (.seq (.ops [s 26 (.mv (t 1)),
  s 4 (.mv (t 26))])
 .ret))), none, [4], [true]⟩
def i54 : Comp := ⟨(.seq (.ops [s 3 (.box 5 (t 1)),
  s 4 (.mv (c (.lst 5 true []))),
  s 5 (.mv (c (.bool false)))])
 (.seq (.ops [s 9 (.mv (t 0)),
  k 10 57 [(t 9)] .lin,
  s 6 (.mv (t 10))])
 (.seq (.seq (.ops [s 11 (.mv (t 0)),
  s 12 (.mv (c (i 0))),
  s 13 (.ldB 3 0 1 false true),
  k 14 58 [(t 11), (t 13)] .sc,
  s 7 (.mv (t 14))])
 (.seq (.ops [s 15 (.mv (t 7)),
  s 16 (.bin .geq (t 15) (c (i 0)))])
 (.cond (t 16) (.seq (.ops [s 17 (.mv (t 6)),
  s 18 (.mv (t 7)),
  s 19 (.ldB 3 0 5 true false),
  k 20 59 [(t 19)] .lin,
  s 21 (.idx (t 17) (t 18) 5)])
 (.seq (opW 6 21 0 5 5 (t 20))
 (.ops []))) (.seq (.ops [s 8 (.mv (c (i 0)))])
 (.seq (.block 0 (.loop (.seq (.seq (.ops [s 22 (.mv (t 8)),
  s 23 (.mv (t 0)),
  s 24 (.len false (t 23)),
  s 25 (.bin .lss (t 22) (t 24)),
  s 26 (.mv (t 25)),
  sg [(26, true)] 27 (.mv (t 0)),
  sg [(26, true)] 28 (.mv (t 8)),
  sg [(26, true)] 29 (.idx (t 27) (t 28) 5),
  sg [(26, true)] 30 (.mv (t 29)),
  sg [(26, true)] 31 (.ldE 27 30 0 1 false true 5),
  sg [(26, true)] 32 (.mv (c (i 0))),
  sg [(26, true)] 33 (.ldB 3 0 1 false true),
  sg [(26, true)] 34 (.bin .lss (t 31) (t 33)),
  s 35 (.pick (t 26) (t 34) (c (.bool false)))])
 (.cond (t 35) .skip (.exit 0)))
 (.block 1 (.ops [s 36 (.mv (t 8)),
  s 37 (.bin .add (t 36) (c (i 1))),
  s 8 (.mv (t 37))])))))
 (.seq (.ops [s 38 (.mv (t 6)),
  s 39 (.mv (t 8)),
  s 40 (.ldB 3 0 5 true false),
  k 41 59 [(t 40)] .lin,
  s 42 (.bsl 5 [(t 41)])])
 (.seq (opXL 43 98 [(t 38), (t 39), (t 42)])
 (.ops [s 6 (.mv (t 43))]))))))))
 (.seq (.seq (.ops [s 44 (.mv (t 6)),
  k 45 24 [(t 44)] .sc,
  s 46 (.not (t 45))])
 (.cond (t 46) (.seq (.ops [s 47 (.mv (t 0)),
  k 48 57 [(t 47)] .lin,
  s 4 (.mv (t 48)),
  s 5 (.mv (c (.bool false)))])
 .ret) .skip))
 (.seq (.ops [s 49 (.mv (t 6)),
  s 4 (.mv (t 49)),
  s 5 (.mv (c (.bool true)))])
 .ret))))), none, [4, 5], [false, false]⟩
def i55 : Comp := ⟨(.seq (.ops [s 4 (.mv (c (.lst 5 true []))),
  s 5 (.mv (c (.bool false)))])
 (.seq (.ops [s 8 (.mv (t 0)),
  k 9 57 [(t 8)] .lin,
  s 6 (.mv (t 9))])
 (.seq (.ops [s 10 (.mv (t 0)),
  s 11 (.mv (t 1)),
  k 12 58 [(t 10), (t 11)] .sc,
  s 7 (.mv (t 12))])
 (.seq (.seq (.ops [s 13 (.mv (t 0)),
  k 14 24 [(t 13)] .sc,
  s 15 (.not (t 14)),
  s 16 (.mv (t 15)),
  sg [(16, false)] 17 (.mv (t 7)),
  sg [(16, false)] 18 (.bin .lss (t 17) (c (i 0))),
  s 19 (.pick (t 16) (c (.bool true)) (t 18))])
 (.cond (t 19) (.seq (.ops [s 20 (.mv (t 6)),
  s 4 (.mv (t 20)),
  s 5 (.mv (c (.bool false)))])
 .ret) .skip))
 (.seq (.seq (.ops [s 21 (.mv (t 6)),
  s 22 (.mv (t 7)),
  s 23 (.mv (t 7)),
  s 24 (.bin .add (t 23) (c (i 1)))])
 (.seq (opXL 25 99 [(t 21), (t 22), (t 24)])
 (.ops [s 4 (.mv (t 25)),
  s 5 (.mv (c (.bool true)))])))
 .ret))))), none, [4, 5], [false, true]⟩
def i56 : Comp := ⟨(.seq (.ops [s 3 (.box 9 (t 1)),
  s 4 (.mv (c (.lst 5 true []))),
  s 5 (.mv (c (.bool false)))])
 (.seq (.ops [s 12 (.mv (t 0)),
  k 13 57 [(t 12)] .lin,
  s 6 (.mv (t 13))])
 (.seq (.ops [s 14 (.mv (t 0)),
  s 15 (.mv (c (i 0))),
  s 16 (.ldB 3 6 1 false true),
  k 17 58 [(t 14), (t 16)] .sc,
  s 7 (.mv (t 17))])
 (.seq (.seq (.ops [s 18 (.mv (t 7)),
  s 19 (.bin .lss (t 18) (c (i 0)))])
 (.cond (t 19) (.seq (.ops [s 20 (.mv (t 6)),
  s 4 (.mv (t 20)),
  s 5 (.mv (c (.bool false)))])
 .ret) .skip))
 (.seq (.seq (.ops [s 21 (.mv (t 0)),
  s 22 (.mv (t 7)),
  s 23 (.idx (t 21) (t 22) 5),
  s 24 (.mv (t 23)),
  s 25 (.ldE 21 24 4 1 false false 5),
  s 26 (.len false (t 25)),
  s 27 (.mv (c (i 0)))])
 (.block 0 (.loop (.seq (.ops [s 28 (.bin .lss (t 27) (t 26))])
 (.seq (.cond (t 28) .skip (.exit 0))
 (.seq (.block 1 (.seq (.ops [s 29 (.mv (t 27)),
  s 30 (.idx (t 25) (t 27) 2),
  s 31 (.ldE 25 30 0 2 true true 2),
  s 9 (.alc [(i 0), (i 0)]),
  s 8 (.mv (t 29)),
  s 9 (.stB 9 0 2 (t 31) false)])
 (.seq (.ops [s 33 (.ldB 9 0 2 true true),
  s 34 (.mv (c (i 0))),
  s 35 (.ldB 3 7 1 false true),
  s 36 (.mv (c (i 0))),
  s 37 (.ldB 3 8 1 false true),
  k 38 100 [(t 33), (t 35), (t 37)] .sc,
  s 32 (.mv (t 38)),
  s 39 (.ext 32 0 true),
  s 40 (.ext 32 1 true),
  s 10 (.alc [(i 0), (i 0)]),
  s 10 (.stB 10 0 2 (t 39) false),
  s 11 (.mv (t 40))])
 (.seq (.seq (.ops [s 41 (.mv (t 11)),
  s 42 (.not (t 41))])
 (.cond (t 42) (.seq (.ops [s 43 (.mv (t 6)),
  s 4 (.mv (t 43)),
  s 5 (.mv (c (.bool false)))])
 .ret) .skip))
 (.seq (.ops [s 44 (.mv (t 6)),
  s 45 (.mv (t 7)),
  s 46 (.idx (t 44) (t 45) 5),
  s 47 (.mv (t 46)),
  s 48 (.ldE 44 47 4 1 false false 5),
  s 49 (.mv (t 8)),
  s 50 (.ldB 10 0 2 true true),
  s 51 (.idx (t 48) (t 49) 2)])
 (.seq (opN 6 47 4 5 51 0 2 2 (t 50))
 (.ops [])))))))
 (.ops [s 52 (.bin .add (t 27) (c (i 1))),
  s 27 (.mv (t 52))])))))))
 (.seq (.ops [s 53 (.mv (t 6)),
  s 54 (.mv (t 6)),
  k 55 24 [(t 54)] .sc,
  s 4 (.mv (t 53)),
  s 5 (.mv (t 55))])
 .ret)))))), none, [4, 5], [false, false]⟩
def i57 : Comp := ⟨(.seq (.ops [s 2 (.mv (c (.lst 5 true [])))])
 (.seq (.ops [s 6 (.bsl 5 []),
  s 3 (.mv (t 6))])
 (.seq (.seq (.ops [s 7 (.mv (t 0)),
  s 8 (.len false (t 7)),
  s 9 (.mv (c (i 0)))])
 (.block 0 (.loop (.seq (.ops [s 10 (.bin .lss (t 9) (t 8))])
 (.seq (.cond (t 10) .skip (.exit 0))
 (.seq (.block 1 (.seq (.ops [s 11 (.idx (t 7) (t 9) 5),
  s 12 (.ldE 7 11 0 5 true false 5),
  s 5 (.alc [(i 0), (i 0), (i 0), (.str (bs [])), (.lst 2 true [])]),
  s 5 (.stB 5 0 5 (t 12) false)])
 (.ops [s 13 (.mv (t 3)),
  s 14 (.ldB 5 0 5 true false),
  k 15 59 [(t 14)] .lin,
  s 16 (.bsl 5 [(t 15)]),
  s 17 (.app (t 13) (t 16) 5 64),
  s 3 (.mv (t 17))])))
 (.ops [s 18 (.bin .add (t 9) (c (i 1))),
  s 9 (.mv (t 18))])))))))
 (.seq (.ops [s 19 (.mv (t 3)),
  s 2 (.mv (t 19))])
 .ret)))), none, [2], [false]⟩
def i58 : Comp := ⟨(.seq (.ops [s 3 (.box 1 (t 1)),
  s 4 (.mv (c (i 0)))])
 (.seq (.ops [s 5 (.mv (t 0)),
  s 6 (.mkf 102 [(t 3)]),
  k 7 101 [(t 5), (t 6)] .sc,
  s 4 (.mv (t 7))])
 .ret)), none, [4], [false, true]⟩
def i59 : Comp := ⟨(.seq (.ops [s 1 (.box 5 (t 0)),
  s 2 (.alc [(i 0), (i 0), (i 0), (.str (bs [])), (.lst 2 true [])])])
 (.seq (.ops [s 3 (.mv (c (i 0))),
  s 4 (.ldB 1 4 1 false false),
  k 5 103 [(t 4)] .lin,
  s 6 (.mv (c (i 0))),
  s 1 (.stB 1 4 1 (t 5) true)])
 (.seq (.ops [s 7 (.ldB 1 0 5 true false),
  s 2 (.stB 2 0 5 (t 7) false)])
 .ret))), (some ⟨2, 36, 5, true, false⟩), [], [false]⟩
def i61 : Comp := ⟨(.seq (.ops [s 2 (.box 5 (t 0)),
  s 3 (.box 5 (t 1)),
  s 4 (.mv (c (.bool false)))])
 (.seq (.ops [s 5 (.mv (c (i 0))),
  s 6 (.ldB 2 0 1 false true),
  s 7 (.mv (c (i 0))),
  s 8 (.ldB 3 0 1 false true),
  s 9 (.bin .eql (t 6) (t 8)),
  s 10 (.mv (t 9)),
  sg [(10, true)] 11 (.mv (c (i 0))),
  sg [(10, true)] 12 (.ldB 2 1 1 false true),
  sg [(10, true)] 13 (.mv (c (i 0))),
  sg [(10, true)] 14 (.ldB 3 1 1 false true),
  sg [(10, true)] 15 (.bin .eql (t 12) (t 14)),
  s 16 (.pick (t 10) (t 15) (c (.bool false))),
  s 17 (.mv (t 16)),
  sg [(17, true)] 18 (.mv (c (i 0))),
  sg [(17, true)] 19 (.ldB 2 2 1 false true),
  sg [(17, true)] 20 (.mv (c (i 0))),
  sg [(17, true)] 21 (.ldB 3 2 1 false true),
  sg [(17, true)] 22 (.bin .eql (t 19) (t 21)),
  s 23 (.pick (t 17) (t 22) (c (.bool false))),
  s 24 (.mv (t 23)),
  sg [(24, true)] 25 (.mv (c (i 0))),
  sg [(24, true)] 26 (.ldB 2 3 1 false true),
  sg [(24, true)] 27 (.mv (c (i 0))),
  sg [(24, true)] 28 (.ldB 3 3 1 false true),
  sg [(24, true)] 29 (.bin .eql (t 26) (t 28)),
  s 30 (.pick (t 24) (t 29) (c (.bool false))),
  s 31 (.mv (t 30)),
  sg [(31, true)] 32 (.mv (c (i 0))),
  sg [(31, true)] 33 (.ldB 2 4 1 false false),
  sg [(31, true)] 34 (.mv (c (i 0))),
  sg [(31, true)] 35 (.ldB 3 4 1 false false),
  kg [(31, true)] 36 104 [(t 33), (t 35)] .sc,
  s 37 (.pick (t 31) (t 36) (c (.bool false))),
  s 4 (.mv (t 37))])
 .ret)), none, [4], [false, false]⟩
def i62 : Comp := ⟨(.seq (.ops [s 1 (.box 5 (t 0)),
  s 2 (.mv (c (.bool false)))])
 (.seq (.seq (.ops [s 3 (.mv (c (i 0))),
  s 4 (.ldB 1 0 1 false true),
  k 5 75 [(t 4), (c (i 1)), (c (i 99))] .sc,
  s 6 (.not (t 5)),
  s 7 (.mv (t 6)),
  sg [(7, false)] 8 (.mv (c (i 0))),
  sg [(7, false)] 9 (.ldB 1 2 1 false true),
  kg [(7, false)] 10 75 [(t 9), (c (i 0)), (c (i 9))] .sc,
  sg [(7, false)] 11 (.not (t 10)),
  s 12 (.pick (t 7) (c (.bool true)) (t 11)),
  s 13 (.mv (t 12)),
  sg [(13, false)] 14 (.mv (c (i 0))),
  sg [(13, false)] 15 (.ldB 1 3 1 false true),
  sg [(13, false)] 16 (.bin .neq (t 15) (c (.str (bs [])))),
  sg [(13, false)] 17 (.mv (t 16)),
  sg [(17, true), (13, false)] 18 (.mv (c (i 0))),
  sg [(17, true), (13, false)] 19 (.ldB 1 3 1 false true),
  kg [(17, true), (13, false)] 20 105 [(t 19)] .sc,
  sg [(17, true), (13, false)] 21 (.not (t 20)),
  sg [(13, false)] 22 (.pick (t 17) (t 21) (c (.bool false))),
  s 23 (.pick (t 13) (c (.bool true)) (t 22))])
 (.cond (t 23) (.seq (.ops [s 2 (.mv (c (.bool false)))])
 .ret) .skip))
 (.seq (.seq (.ops [s 24 (.mv (c (i 0))),
  s 25 (.ldB 1 1 1 false true)])
 (.block 0 (.seq (.ops [s 27 (.bin .eql (t 25) (c (i 1))),
  s 26 (.mv (t 27))])
 (.cond (t 26) (.seq (.ops [s 28 (.mv (c (i 0))),
  s 29 (.ldB 1 4 1 false false),
  s 30 (.len false (t 29)),
  s 31 (.bin .eql (t 30) (c (i 1))),
  s 32 (.mv (t 31)),
  sg [(32, true)] 33 (.mv (c (i 0))),
  sg [(32, true)] 34 (.ldB 1 4 1 false false),
  sg [(32, true)] 35 (.idx (t 34) (c (i 0)) 2),
  sg [(32, true)] 36 (.ldE 34 35 0 2 true true 2),
  kg [(32, true)] 37 35 [(t 36)] .sc,
  s 38 (.pick (t 32) (t 37) (c (.bool false))),
  s 2 (.mv (t 38))])
 .ret) (.seq (.ops [s 40 (.bin .eql (t 25) (c (i 2))),
  s 39 (.mv (t 40))])
 (.cond (t 39) (.seq (.ops [s 41 (.mv (c (i 0))),
  s 42 (.ldB 1 4 1 false false),
  k 43 106 [(t 42)] .sc,
  s 2 (.mv (t 43))])
 .ret) (.seq (.ops [s 45 (.bin .eql (t 25) (c (i 3))),
  s 44 (.mv (t 45))])
 (.cond (t 44) (.seq (.ops [s 46 (.mv (c (i 0))),
  s 47 (.ldB 1 4 1 false false),
  k 48 107 [(t 47)] .sc,
  s 2 (.mv (t 48))])
 .ret) .skip))))))))
 (.seq (.ops [s 2 (.mv (c (.bool false)))])
 .ret)))), none, [2], [false]⟩
def i69 : Comp := ⟨(.seq (.ops [s 2 (.mv (c (.bool false)))])
 (.seq (.seq (.ops [s 3 (.mv (c (i 0)))])
 (.block 0 (.loop (.seq (.seq (.ops [s 4 (.mv (t 3)),
  s 5 (.mv (t 0)),
  s 6 (.len false (t 5)),
  s 7 (.bin .lss (t 4) (t 6))])
 (.cond (t 7) .skip (.exit 0)))
 (.seq (.block 1 (.seq (.ops [s 10 (.mv (t 0)),
  s 11 (.mv (t 3)),
  s 12 (.idx (t 10) (t 11) 5),
  s 13 (.ldE 10 12 0 5 true false 5),
  k 14 115 [(t 13)] .sc,
  s 15 (.not (t 14)),
  s 16 (.mv (t 15)),
  sg [(16, false)] 17 (.mv (t 3)),
  sg [(16, false)] 18 (.bin .gtr (t 17) (c (i 0))),
  sg [(16, false)] 19 (.mv (t 18)),
  sg [(19, true), (16, false)] 20 (.mv (t 0)),
  sg [(19, true), (16, false)] 21 (.mv (t 3)),
  sg [(19, true), (16, false)] 22 (.bin .sub (t 21) (c (i 1))),
  sg [(19, true), (16, false)] 23 (.idx (t 20) (t 22) 5),
  sg [(19, true), (16, false)] 24 (.mv (t 23)),
  sg [(19, true), (16, false)] 25 (.ldE 20 24 0 1 false true 5),
  sg [(19, true), (16, false)] 26 (.mv (t 0)),
  sg [(19, true), (16, false)] 27 (.mv (t 3)),
  sg [(19, true), (16, false)] 28 (.idx (t 26) (t 27) 5),
  sg [(19, true), (16, false)] 29 (.mv (t 28)),
  sg [(19, true), (16, false)] 30 (.ldE 26 29 0 1 false true 5),
  sg [(19, true), (16, false)] 31 (.bin .geq (t 25) (t 30)),
  sg [(16, false)] 32 (.pick (t 19) (t 31) (c (.bool false))),
  s 33 (.pick (t 16) (c (.bool true)) (t 32))])
 (.cond (t 33) (.seq (.ops [s 2 (.mv (c (.bool false)))])
 .ret) .skip)))
 (.ops [s 8 (.mv (t 3)),
  s 9 (.bin .add (t 8) (c (i 1))),
  s 3 (.mv (t 9))]))))))
 (.seq (.ops [s 34 (.mv (t 0)),
  s 35 (.len false (t 34)),
  s 36 (.bin .leq (t 35) (c (i 16))),
  s 2 (.mv (t 36))])
 .ret))), none, [2], [false]⟩
def i70 : Comp := ⟨(.seq (.ops [s 1 (.box 2 (t 0)),
  s 2 (.mv (c (.bool false)))])
 (.seq (.ops [s 3 (.mv (c (i 0))),
  s 4 (.ldB 1 0 1 false true),
  k 5 116 [(t 4), (c (i 0)), (c (i 200))] .sc,
  s 6 (.mv (t 5)),
  sg [(6, true)] 7 (.mv (c (i 0))),
  sg [(6, true)] 8 (.ldB 1 1 1 false true),
  kg [(6, true)] 9 116 [(t 8), (c (i 0)), (c (i 200))] .sc,
  s 10 (.pick (t 6) (t 9) (c (.bool false))),
  s 2 (.mv (t 10))])
 .ret)), none, [2], [true]⟩
def i75 : Comp := ⟨(.seq (.ops [s 6 (.mv (c (.bool false)))])
 (.seq (.ops [s 7 (.mv (t 1)),
  s 8 (.mv (t 0)),
  s 9 (.bin .leq (t 7) (t 8)),
  s 10 (.mv (t 9)),
  sg [(10, true)] 11 (.mv (t 0)),
  sg [(10, true)] 12 (.mv (t 2)),
  sg [(10, true)] 13 (.bin .leq (t 11) (t 12)),
  s 14 (.pick (t 10) (t 13) (c (.bool false))),
  s 6 (.mv (t 14))])
 .ret)), none, [6], [true, true, true]⟩
def i77 : Comp := ⟨(.seq (.ops [s 4 (.mv (c (i 0)))])
 (.seq (.seq (.ops [s 5 (.mv (c (i 0)))])
 (.block 0 (.loop (.seq (.seq (.ops [s 6 (.mv (t 5)),
  s 7 (.mv (t 0)),
  s 8 (.len false (t 7)),
  s 9 (.bin .lss (t 6) (t 8))])
 (.cond (t 9) .skip (.exit 0)))
 (.seq (.block 1 (.seq (.ops [s 12 (.mv (t 0)),
  s 13 (.mv (t 5)),
  s 14 (.idx (t 12) (t 13) 5),
  s 15 (.mv (t 14)),
  s 16 (.ldE 12 15 0 1 false true 5),
  s 17 (.mv (t 1)),
  s 18 (.bin .eql (t 16) (t 17))])
 (.cond (t 18) (.seq (.ops [s 19 (.mv (t 5)),
  s 4 (.mv (t 19))])
 .ret) .skip)))
 (.ops [s 10 (.mv (t 5)),
  s 11 (.bin .add (t 10) (c (i 1))),
  s 5 (.mv (t 11))]))))))
 (.seq (.ops [s 4 (.mv (c (i (-1))))])
 .ret))), none, [4], [false, true]⟩
def i82 : Comp := ⟨(.seq (.ops [s 4 (.mv (c (i 0)))])
 (.seq (.ops [s 5 (.mv (t 1)),
  s 6 (.mv (t 0)),
  s 7 (.len false (t 6)),
  s 8 (.bin .sub (t 5) (t 7)),
  s 1 (.mv (t 8))])
 (.seq (.seq (.ops [s 9 (.mv (t 1)),
  s 10 (.bin .lss (t 9) (c (i 0)))])
 (.cond (t 10) (.seq (.ops [s 4 (.mv (c (i (-1))))])
 .ret) .skip))
 (.seq (.ops [s 11 (.mv (t 1)),
  s 4 (.mv (t 11))])
 .ret)))), none, [4], [false, true]⟩
def i83 : Comp := ⟨(.seq (.ops [s 2 (.mv (c (.lst 5 true [])))])
 (.seq (.ops [s 5 (.bsl 5 []),
  s 3 (.mv (t 5))])
 (.seq (.seq (.ops [s 4 (.mv (c (i 0)))])
 (.block 0 (.loop (.seq (.seq (.ops [s 6 (.mv (t 4)),
  s 7 (.mv (t 0)),
  s 8 (.len false (t 7)),
  s 9 (.bin .lss (t 6) (t 8))])
 (.cond (t 9) .skip (.exit 0)))
 (.seq (.block 1 (.ops [s 12 (.mv (t 3)),
  s 13 (.mv (t 0)),
  s 14 (.mv (t 4)),
  s 15 (.idx (t 13) (t 14) 5),
  s 16 (.ldE 13 15 0 5 true false 5),
  k 17 122 [(t 16)] .lin,
  s 18 (.bsl 5 [(t 17)]),
  s 19 (.app (t 12) (t 18) 5 64),
  s 3 (.mv (t 19))]))
 (.ops [s 10 (.mv (t 4)),
  s 11 (.bin .add (t 10) (c (i 1))),
  s 4 (.mv (t 11))]))))))
 (.seq (.ops [s 20 (.mv (t 3)),
  s 2 (.mv (t 20))])
 .ret)))), none, [2], [false]⟩
def i84 : Comp := ⟨(.seq (.ops [s 3 (.box 5 (t 1)),
  s 4 (.mv (c (.lst 5 true []))),
  s 5 (.mv (c (.bool false)))])
 (.seq (.ops [s 6 (.mv (c (i 0)))])
 (.seq (.block 0 (.loop (.seq (.seq (.ops [s 9 (.mv (t 6)),
  s 10 (.mv (t 0)),
  s 11 (.len false (t 10)),
  s 12 (.bin .lss (t 9) (t 11)),
  s 13 (.mv (t 12)),
  sg [(13, true)] 14 (.mv (t 0)),
  sg [(13, true)] 15 (.mv (t 6)),
  sg [(13, true)] 16 (.idx (t 14) (t 15) 5),
  sg [(13, true)] 17 (.mv (t 16)),
  sg [(13, true)] 18 (.ldE 14 17 0 1 false true 5),
  sg [(13, true)] 19 (.mv (c (i 0))),
  sg [(13, true)] 20 (.ldB 3 0 1 false true),
  sg [(13, true)] 21 (.bin .lss (t 18) (t 20)),
  s 22 (.pick (t 13) (t 21) (c (.bool false)))])
 (.cond (t 22) .skip (.exit 0)))
 (.block 1 (.ops [s 23 (.mv (t 6)),
  s 24 (.bin .add (t 23) (c (i 1))),
  s 6 (.mv (t 24))])))))
 (.seq (.ops [s 25 (.mv (t 0)),
  s 26 (.mv (t 6)),
  s 27 (.sl 5 (t 25) (some (t 26)) none),
  s 7 (.mv (t 27))])
 (.seq (.seq (.ops [s 28 (.mv (t 7)),
  s 29 (.len false (t 28)),
  s 30 (.bin .gtr (t 29) (c (i 0))),
  s 31 (.mv (t 30)),
  sg [(31, true)] 32 (.mv (t 7)),
  sg [(31, true)] 33 (.idx (t 32) (c (i 0)) 5),
  sg [(31, true)] 34 (.mv (t 33)),
  sg [(31, true)] 35 (.ldE 32 34 0 1 false true 5),
  sg [(31, true)] 36 (.mv (c (i 0))),
  sg [(31, true)] 37 (.ldB 3 0 1 false true),
  sg [(31, true)] 38 (.bin .eql (t 35) (t 37)),
  s 39 (.pick (t 31) (t 38) (c (.bool false)))])
 (.cond (t 39) (.ops [s 40 (.mv (t 7)),
  s 41 (.sl 5 (t 40) (some (c (i 1))) none),
  s 7 (.mv (t 41))]) .skip))
 (.seq (.ops [s 42 (.mv (t 0)),
  s 43 (.mv (t 6)),
  s 44 (.sl 5 (t 42) none (some (t 43))),
  k 45 83 [(t 44)] .lin,
  s 46 (.ldB 3 0 5 true false),
  k 47 122 [(t 46)] .lin,
  s 48 (.bsl 5 [(t 47)]),
  s 49 (.app (t 45) (t 48) 5 64),
  s 50 (.mv (t 7)),
  k 51 83 [(t 50)] .lin,
  s 52 (.app (t 49) (t 51) 5 64),
  s 8 (.mv (t 52))])
 (.seq (.seq (.ops [s 53 (.mv (t 8)),
  k 54 69 [(t 53)] .sc,
  s 55 (.not (t 54))])
 (.cond (t 55) (.seq (.ops [s 56 (.mv (t 0)),
  k 57 83 [(t 56)] .lin,
  s 4 (.mv (t 57)),
  s 5 (.mv (c (.bool false)))])
 .ret) .skip))
 (.seq (.ops [s 58 (.mv (t 8)),
  s 4 (.mv (t 58)),
  s 5 (.mv (c (.bool true)))])
 .ret)))))))), none, [4, 5], [false, false]⟩
def i85 : Comp := ⟨(.seq (.ops [s 4 (.mv (c (.lst 5 true []))),
  s 5 (.mv (c (.bool false)))])
 (.seq (.ops [s 7 (.mv (t 0)),
  s 8 (.mv (t 1)),
  k 9 77 [(t 7), (t 8)] .sc,
  s 6 (.mv (t 9))])
 (.seq (.seq (.ops [s 10 (.mv (t 0)),
  k 11 69 [(t 10)] .sc,
  s 12 (.not (t 11)),
  s 13 (.mv (t 12)),
  sg [(13, false)] 14 (.mv (t 6)),
  sg [(13, false)] 15 (.bin .lss (t 14) (c (i 0))),
  s 16 (.pick (t 13) (c (.bool true)) (t 15))])
 (.cond (t 16) (.seq (.ops [s 17 (.mv (t 0)),
  k 18 83 [(t 17)] .lin,
  s 4 (.mv (t 18)),
  s 5 (.mv (c (.bool false)))])
 .ret) .skip))
 (.seq (.ops [s 19 (.mv (t 0)),
  s 20 (.mv (t 6)),
  s 21 (.sl 5 (t 19) none (some (t 20))),
  k 22 83 [(t 21)] .lin,
  s 23 (.mv (t 0)),
  s 24 (.mv (t 6)),
  s 25 (.bin .add (t 24) (c (i 1))),
  s 26 (.sl 5 (t 23) (some (t 25)) none),
  k 27 83 [(t 26)] .lin,
  s 28 (.app (t 22) (t 27) 5 64),
  s 4 (.mv (t 28)),
  s 5 (.mv (c (.bool true)))])
 .ret)))), none, [4, 5], [false, true]⟩
def i86 : Comp := ⟨(.seq (.ops [s 3 (.box 9 (t 1)),
  s 4 (.mv (c (.lst 5 true []))),
  s 5 (.mv (c (.bool false)))])
 (.seq (.ops [s 11 (.mv (t 0)),
  k 12 83 [(t 11)] .lin,
  s 6 (.mv (t 12))])
 (.seq (.ops [s 13 (.mv (t 0)),
  s 14 (.mv (c (i 0))),
  s 15 (.ldB 3 6 1 false true),
  k 16 77 [(t 13), (t 15)] .sc,
  s 7 (.mv (t 16))])
 (.seq (.seq (.ops [s 17 (.mv (t 7)),
  s 18 (.bin .lss (t 17) (c (i 0)))])
 (.cond (t 18) (.seq (.ops [s 19 (.mv (t 6)),
  s 4 (.mv (t 19)),
  s 5 (.mv (c (.bool false)))])
 .ret) .skip))
 (.seq (.seq (.ops [s 8 (.mv (c (i 0)))])
 (.block 0 (.loop (.seq (.seq (.ops [s 20 (.mv (t 8)),
  s 21 (.mv (t 6)),
  s 22 (.mv (t 7)),
  s 23 (.idx (t 21) (t 22) 5),
  s 24 (.mv (t 23)),
  s 25 (.ldE 21 24 4 1 false false 5),
  s 26 (.len false (t 25)),
  s 27 (.bin .lss (t 20) (t 26))])
 (.cond (t 27) .skip (.exit 0)))
 (.seq (.block 1 (.seq (.ops [s 31 (.mv (t 6)),
  s 32 (.mv (t 7)),
  s 33 (.idx (t 31) (t 32) 5),
  s 34 (.mv (t 33)),
  s 35 (.ldE 31 34 4 1 false false 5),
  s 36 (.mv (t 8)),
  s 37 (.idx (t 35) (t 36) 2),
  s 38 (.ldE 35 37 0 2 true true 2),
  s 39 (.mv (c (i 0))),
  s 40 (.ldB 3 7 1 false true),
  s 41 (.mv (c (i 0))),
  s 42 (.ldB 3 8 1 false true),
  k 43 123 [(t 38), (t 40), (t 42)] .sc,
  s 30 (.mv (t 43)),
  s 44 (.ext 30 0 true),
  s 45 (.ext 30 1 true),
  s 9 (.alc [(i 0), (i 0)]),
  s 9 (.stB 9 0 2 (t 44) false),
  s 10 (.mv (t 45))])
 (.seq (.seq (.ops [s 46 (.mv (t 10)),
  s 47 (.not (t 46))])
 (.cond (t 47) (.seq (.ops [s 48 (.mv (t 0)),
  k 49 83 [(t 48)] .lin,
  s 4 (.mv (t 49)),
  s 5 (.mv (c (.bool false)))])
 .ret) .skip))
 (.seq (.ops [s 50 (.mv (t 6)),
  s 51 (.mv (t 7)),
  s 52 (.idx (t 50) (t 51) 5),
  s 53 (.mv (t 52)),
  s 54 (.ldE 50 53 4 1 false false 5),
  s 55 (.mv (t 8)),
  s 56 (.ldB 9 0 2 true true),
  s 57 (.idx (t 54) (t 55) 2)])
 (.seq (opN 6 53 4 5 57 0 2 2 (t 56))
 (.ops []))))))
 (.ops [s 28 (.mv (t 8)),
  s 29 (.bin .add (t 28) (c (i 1))),
  s 8 (.mv (t 29))]))))))
 (.seq (.ops [s 58 (.mv (t 6)),
  s 4 (.mv (t 58)),
  s 5 (.mv (c (.bool true)))])
 .ret)))))), none, [4, 5], [false, false]⟩
def i87 : Comp := ⟨(.seq (.ops [s 6 (.mv (c (.lst 1 true [])))])
 (.seq (.seq (.ops [s 7 (.mv (c (i 0)))])
 (.block 0 (.loop (.seq (.seq (.ops [s 10 (.mv (t 7)),
  s 11 (.mv (t 1)),
  s 12 (.len false (t 11)),
  s 13 (.bin .lss (t 10) (t 12))])
 (.cond (t 13) .skip (.exit 0)))
 (.seq (.block 1 (.seq (.seq (.ops [s 16 (.mv (t 2)),
  s 17 (.mv (t 1)),
  s 18 (.mv (t 7)),
  s 19 (.idx (t 17) (t 18) 5),
  s 20 (.ldE 17 19 0 5 true false 5),
  k 21 124 [(t 16), (t 20)] .sc])
 (.cond (t 21) (.exit 1) .skip))
 (.seq (.ops [s 22 (.mv (t 1)),
  s 23 (.mv (t 7)),
  s 24 (.idx (t 22) (t 23) 5),
  s 25 (.ldE 22 24 0 5 true false 5),
  k 26 125 [(t 25)] .lin,
  s 8 (.mv (t 26))])
 (.seq (.ops [s 9 (.mv (c (i 0)))])
 (.block 2 (.loop (.seq (.seq (.ops [s 27 (.mv (t 9)),
  s 28 (.mv (t 8)),
  s 29 (.len false (t 28)),
  s 30 (.bin .lss (t 27) (t 29))])
 (.cond (t 30) .skip (.exit 2)))
 (.seq (.block 3 (.ops [s 33 (.mv (t 0)),
  s 34 (.mv (t 8)),
  s 35 (.mv (t 9)),
  s 36 (.idx (t 34) (t 35) 1),
  s 37 (.ldE 34 36 0 1 false true 1),
  k 38 126 [(t 33), (t 37)] .lin,
  s 0 (.mv (t 38))]))
 (.ops [s 31 (.mv (t 9)),
  s 32 (.bin .add (t 31) (c (i 1))),
  s 9 (.mv (t 32))])))))))))
 (.ops [s 14 (.mv (t 7)),
  s 15 (.bin .add (t 14) (c (i 1))),
  s 7 (.mv (t 15))]))))))
 (.seq (.ops [s 39 (.mv (t 0)),
  s 6 (.mv (t 39))])
 .ret))), none, [6], [false, false]⟩
def i88 : Comp := ⟨(.seq (.ops [s 2 (.mv (c (.lst 2 true [])))])
 (.seq (.ops [s 5 (.mv (t 0)),
  s 6 (.len false (t 5)),
  s 7 (.mks 2 16 [(i 0), (i 0)] (t 6)),
  s 3 (.mv (t 7))])
 (.seq (.seq (.ops [s 4 (.mv (c (i 0)))])
 (.block 0 (.loop (.seq (.seq (.ops [s 8 (.mv (t 4)),
  s 9 (.mv (t 0)),
  s 10 (.len false (t 9)),
  s 11 (.bin .lss (t 8) (t 10))])
 (.cond (t 11) .skip (.exit 0)))
 (.seq (.block 1 (.ops [s 14 (.mv (c .junk)),
  s 15 (.mv (t 4)),
  s 16 (.mv (t 0)),
  s 17 (.mv (t 4)),
  s 18 (.idx (t 16) (t 17) 2),
  s 19 (.ldE 16 18 0 2 true true 2),
  k 20 127 [(t 19)] .sc,
  s 21 (.idx (t 3) (t 15) 2),
  s 3 (.stF 3 21 2 (t 20))]))
 (.ops [s 12 (.mv (t 4)),
  s 13 (.bin .add (t 12) (c (i 1))),
  s 4 (.mv (t 13))]))))))
 (.seq (.ops [s 22 (.mv (c .junk)),
  s 2 (.mv (t 3))])
 .ret)))), none, [2], [false]⟩
def i89 : Comp := ⟨(.seq (.ops [s 4 (.mv (c (.lst 1 true [])))])
 (.seq (.ops [s 9 (.bsl 1 []),
  s 5 (.mv (t 9))])
 (.seq (.seq (.ops [s 10 (.mv (t 0)),
  s 11 (.len false (t 10)),
  s 12 (.mv (c (i 0)))])
 (.block 0 (.loop (.seq (.ops [s 13 (.bin .lss (t 12) (t 11))])
 (.seq (.cond (t 13) .skip (.exit 0))
 (.seq (.block 1 (.seq (.ops [s 14 (.idx (t 10) (t 12) 5),
  s 15 (.ldE 10 14 0 5 true false 5),
  s 7 (.alc [(i 0), (i 0), (i 0), (.str (bs [])), (.lst 2 true [])]),
  s 7 (.stB 7 0 5 (t 15) false)])
 (.seq (.ops [s 16 (.mv (t 1)),
  s 17 (.mv (c (i 0))),
  s 18 (.ldB 7 0 1 false true),
  k 19 58 [(t 16), (t 18)] .sc,
  s 8 (.mv (t 19))])
 (.seq (.ops [s 20 (.mv (t 8)),
  s 21 (.bin .lss (t 20) (c (i 0))),
  s 22 (.mv (t 21)),
  sg [(22, false)] 23 (.ldB 7 0 5 true false),
  sg [(22, false)] 24 (.mv (t 1)),
  sg [(22, false)] 25 (.mv (t 8)),
  sg [(22, false)] 26 (.idx (t 24) (t 25) 5),
  sg [(22, false)] 27 (.ldE 24 26 0 5 true false 5),
  kg [(22, false)] 28 61 [(t 23), (t 27)] .sc,
  sg [(22, false)] 29 (.not (t 28)),
  s 30 (.pick (t 22) (c (.bool true)) (t 29))])
 (.cond (t 30) (.ops [s 31 (.mv (t 5)),
  s 32 (.ldB 7 0 5 true false),
  k 33 128 [(t 32)] .lin,
  s 34 (.app (t 31) (t 33) 1 8),
  s 5 (.mv (t 34))]) .skip)))))
 (.ops [s 35 (.bin .add (t 12) (c (i 1))),
  s 12 (.mv (t 35))])))))))
 (.seq (.ops [s 36 (.mv (t 5)),
  s 4 (.mv (t 36))])
 .ret)))), none, [4], [false, false]⟩
def i92 : Comp := ⟨(.seq (.ops [s 4 (.mv (c (.bool false)))])
 (.seq (.seq (.ops [s 6 (.mv (t 0)),
  s 7 (.len false (t 6)),
  s 8 (.mv (t 1)),
  s 9 (.len false (t 8)),
  s 10 (.bin .neq (t 7) (t 9))])
 (.cond (t 10) (.seq (.ops [s 4 (.mv (c (.bool false)))])
 .ret) .skip))
 (.seq (.seq (.ops [s 5 (.mv (c (i 0)))])
 (.block 0 (.loop (.seq (.seq (.ops [s 11 (.mv (t 5)),
  s 12 (.mv (t 0)),
  s 13 (.len false (t 12)),
  s 14 (.bin .lss (t 11) (t 13))])
 (.cond (t 14) .skip (.exit 0)))
 (.seq (.block 1 (.seq (.ops [s 17 (.mv (t 0)),
  s 18 (.mv (t 5)),
  s 19 (.idx (t 17) (t 18) 2),
  s 20 (.ldE 17 19 0 2 true true 2),
  s 21 (.mv (t 1)),
  s 22 (.mv (t 5)),
  s 23 (.idx (t 21) (t 22) 2),
  s 24 (.ldE 21 23 0 2 true true 2),
  k 25 130 [(t 20), (t 24)] .sc,
  s 26 (.not (t 25))])
 (.cond (t 26) (.seq (.ops [s 4 (.mv (c (.bool false)))])
 .ret) .skip)))
 (.ops [s 15 (.mv (t 5)),
  s 16 (.bin .add (t 15) (c (i 1))),
  s 5 (.mv (t 16))]))))))
 (.seq (.ops [s 4 (.mv (c (.bool true)))])
 .ret)))), none, [4], [false, false]⟩
def i100 : Comp := ⟨(.seq (.ops [s 3 (.box 2 (t 0)),
  s 6 (.alc [(i 0), (i 0)]),
  s 7 (.mv (c (.bool false)))])
 (.seq (.ops [s 9 (.mv (c (i 0))),
  s 10 (.ldB 3 0 1 false true),
  s 11 (.mv (t 1)),
  s 12 (.bin .add (t 10) (t 11)),
  s 13 (.mv (c (i 0))),
  s 14 (.ldB 3 1 1 false true),
  s 15 (.mv (t 2)),
  s 16 (.bin .add (t 14) (t 15)),
  s 17 (.bld [(i 0), (i 0)] [(0, 1, (t 12)), (1, 1, (t 16))]),
  s 8 (.alc [(i 0), (i 0)]),
  s 8 (.stB 8 0 2 (t 17) false)])
 (.seq (.seq (.ops [s 18 (.ldB 3 0 2 true true),
  k 19 35 [(t 18)] .sc,
  s 20 (.not (t 19)),
  s 21 (.mv (t 20)),
  sg [(21, false)] 22 (.mv (t 1)),
  kg [(21, false)] 23 75 [(t 22), (c (i (-1000))), (c (i 1000))] .sc,
  sg [(21, false)] 24 (.not (t 23)),
  s 25 (.pick (t 21) (c (.bool true)) (t 24)),
  s 26 (.mv (t 25)),
  sg [(26, false)] 27 (.mv (t 2)),
  kg [(26, false)] 28 75 [(t 27), (c (i (-1000))), (c (i 1000))] .sc,
  sg [(26, false)] 29 (.not (t 28)),
  s 30 (.pick (t 26) (c (.bool true)) (t 29)),
  s 31 (.mv (t 30)),
  sg [(31, false)] 32 (.ldB 8 0 2 true true),
  kg [(31, false)] 33 35 [(t 32)] .sc,
  sg [(31, false)] 34 (.not (t 33)),
  s 35 (.pick (t 31) (c (.bool true)) (t 34))])
 (.cond (t 35) (.seq (.ops [s 36 (.ldB 3 0 2 true true),
  s 6 (.stB 6 0 2 (t 36) false),
  s 7 (.mv (c (.bool false)))])
 .ret) .skip))
 (.seq (.ops [s 37 (.ldB 8 0 2 true true),
  s 6 (.stB 6 0 2 (t 37) false),
  s 7 (.mv (c (.bool true)))])
 .ret)))), (some ⟨6, 65, 2, true, false⟩), [7], [true, true, true]⟩
def i101 : Comp := ⟨(.seq (.ops [s 4 (.mv (c (i 0)))])
 (.seq (.seq (.ops [s 6 (.mv (t 0)),
  s 7 (.len false (t 6)),
  s 8 (.mv (c (i 0)))])
 (.block 0 (.loop (.seq (.ops [s 9 (.bin .lss (t 8) (t 7))])
 (.seq (.cond (t 9) .skip (.exit 0))
 (.seq (.block 1 (.seq (.ops [s 10 (.mv (t 8)),
  s 5 (.mv (t 10))])
 (.seq (.ops [s 11 (.mv (t 1)),
  s 12 (.mv (t 0)),
  s 13 (.mv (t 5)),
  s 14 (.idx (t 12) (t 13) 5),
  s 15 (.ldE 12 14 0 5 true false 5),
  v 16 (t 11) [(t 15)]])
 (.cond (t 16) (.seq (.ops [s 17 (.mv (t 5)),
  s 4 (.mv (t 17))])
 .ret) .skip))))
 (.ops [s 18 (.bin .add (t 8) (c (i 1))),
  s 8 (.mv (t 18))])))))))
 (.seq (.ops [s 4 (.mv (c (i (-1))))])
 .ret))), none, [4], [false, false]⟩
def i102 : Comp := ⟨(.seq (.ops [s 2 (.box 5 (t 0)),
  s 3 (.mv (c (.bool false)))])
 (.seq (.ops [s 4 (.mv (c (i 0))),
  s 5 (.ldB 2 0 1 false true),
  s 6 (.ldB 1 0 1 false true),
  s 7 (.bin .eql (t 5) (t 6)),
  s 3 (.mv (t 7))])
 .ret)), none, [3], [false, false]⟩
def i103 : Comp := ⟨(.seq (.ops [s 2 (.mv (c (.lst 2 true [])))])
 (.seq (.seq (.ops [s 3 (.mv (t 0)),
  s 4 (.isn false (t 3))])
 (.cond (t 4) (.seq (.ops [s 2 (.mv (c (.lst 2 true [])))])
 .ret) .skip))
 (.seq (.ops [s 5 (.bsl 2 []),
  s 6 (.mv (t 0)),
  s 7 (.apf (t 5) (t 6) 2 16),
  s 2 (.mv (t 7))])
 .ret))), none, [2], [false]⟩
def i104 : Comp := ⟨(.seq (.ops [s 4 (.mv (c (.bool false)))])
 (.seq (.seq (.ops [s 6 (.mv (t 0)),
  s 7 (.len false (t 6)),
  s 8 (.mv (t 1)),
  s 9 (.len false (t 8)),
  s 10 (.bin .neq (t 7) (t 9))])
 (.cond (t 10) (.seq (.ops [s 4 (.mv (c (.bool false)))])
 .ret) .skip))
 (.seq (.seq (.ops [s 11 (.mv (t 0)),
  s 12 (.len false (t 11)),
  s 13 (.mv (c (i 0)))])
 (.block 0 (.loop (.seq (.ops [s 14 (.bin .lss (t 13) (t 12))])
 (.seq (.cond (t 14) .skip (.exit 0))
 (.seq (.block 1 (.seq (.ops [s 15 (.mv (t 13)),
  s 5 (.mv (t 15))])
 (.seq (.ops [s 16 (.mv (t 0)),
  s 17 (.mv (t 5)),
  s 18 (.idx (t 16) (t 17) 2),
  s 19 (.ldE 16 18 0 2 true true 2),
  s 20 (.mv (t 1)),
  s 21 (.mv (t 5)),
  s 22 (.idx (t 20) (t 21) 2),
  s 23 (.ldE 20 22 0 2 true true 2),
  s 24 (.eqa true [0, 0] (t 19) (t 23))])
 (.cond (t 24) (.seq (.ops [s 4 (.mv (c (.bool false)))])
 .ret) .skip))))
 (.ops [s 25 (.bin .add (t 13) (c (i 1))),
  s 13 (.mv (t 25))])))))))
 (.seq (.ops [s 4 (.mv (c (.bool true)))])
 .ret)))), none, [4], [false, false]⟩
def i105 : Comp := ⟨(.seq (.ops [s 2 (.mv (c (.bool false)))])
 (.seq (.seq (.ops [s 4 (.mv (t 0)),
  s 5 (.len true (t 4)),
  s 6 (.mv (c (i 0)))])
 (.block 0 (.loop (.seq (.ops [s 7 (.bin .lss (t 6) (t 5))])
 (.seq (.cond (t 7) .skip (.exit 0))
 (.seq (.block 1 (.seq (.ops [s 8 (.mv (t 6)),
  s 3 (.mv (t 8))])
 (.seq (.ops [s 9 (.mv (t 0)),
  s 10 (.mv (t 3)),
  s 11 (.six (t 9) (t 10)),
  s 12 (.bin .lss (t 11) (c (.int .u8 (97)))),
  s 13 (.mv (t 12)),
  sg [(13, false)] 14 (.mv (t 0)),
  sg [(13, false)] 15 (.mv (t 3)),
  sg [(13, false)] 16 (.six (t 14) (t 15)),
  sg [(13, false)] 17 (.bin .gtr (t 16) (c (.int .u8 (122)))),
  s 18 (.pick (t 13) (c (.bool true)) (t 17))])
 (.cond (t 18) (.seq (.ops [s 2 (.mv (c (.bool false)))])
 .ret) .skip))))
 (.ops [s 19 (.bin .add (t 6) (c (i 1))),
  s 6 (.mv (t 19))])))))))
 (.seq (.ops [s 20 (.mv (t 0)),
  s 21 (.len true (t 20)),
  k 22 75 [(t 21), (c (i 1)), (c (i 8))] .sc,
  s 2 (.mv (t 22))])
 .ret))), none, [2], [true]⟩
def i106 : Comp := ⟨(.seq (.ops [s 2 (.mv (c (.bool false)))])
 (.seq (.seq (.ops [s 7 (.mv (t 0)),
  k 8 137 [(t 7)] .sc,
  s 9 (.not (t 8))])
 (.cond (t 9) (.seq (.ops [s 2 (.mv (c (.bool false)))])
 .ret) .skip))
 (.seq (.ops [s 10 (.mv (t 0)),
  k 11 120 [(t 10)] .lin,
  s 3 (.mv (t 11))])
 (.seq (.seq (.ops [s 12 (.mv (t 3)),
  s 13 (.len false (t 12)),
  s 14 (.mv (c (i 0)))])
 (.block 0 (.loop (.seq (.ops [s 15 (.bin .lss (t 14) (t 13))])
 (.seq (.cond (t 15) .skip (.exit 0))
 (.seq (.block 1 (.seq (.ops [s 16 (.mv (t 14)),
  s 4 (.mv (t 16))])
 (.seq (.ops [s 17 (.mv (t 4)),
  s 18 (.mv (c (i 0)))])
 (.block 2 (.loop (.seq (.ops [s 19 (.bin .lss (t 18) (t 17))])
 (.seq (.cond (t 19) .skip (.exit 2))
 (.seq (.block 3 (.seq (.ops [s 20 (.mv (t 18)),
  s 5 (.mv (t 20))])
 (.seq (.ops [s 6 (.mv (c (i 0)))])
 (.seq (.seq (.ops [s 21 (.mv (t 5)),
  s 22 (.mv (t 4)),
  s 23 (.bin .sub (t 22) (c (i 1))),
  s 24 (.bin .eql (t 21) (t 23))])
 (.cond (t 24) (.ops [s 6 (.mv (c (i 1)))]) .skip))
 (.seq (.ops [s 25 (.mv (t 3)),
  s 26 (.mv (t 4)),
  s 27 (.idx (t 25) (t 26) 4),
  s 28 (.ldE 25 27 0 4 true true 4),
  s 29 (.mv (t 3)),
  s 30 (.mv (t 5)),
  s 31 (.idx (t 29) (t 30) 4),
  s 32 (.ldE 29 31 0 4 true true 4),
  k 33 138 [(t 28), (t 32)] .sc,
  s 34 (.mv (t 6)),
  s 35 (.bin .neq (t 33) (t 34))])
 (.cond (t 35) (.seq (.ops [s 2 (.mv (c (.bool false)))])
 .ret) .skip))))))
 (.ops [s 36 (.bin .add (t 18) (c (i 1))),
  s 18 (.mv (t 36))])))))))))
 (.ops [s 37 (.bin .add (t 14) (c (i 1))),
  s 14 (.mv (t 37))])))))))
 (.seq (.ops [s 2 (.mv (c (.bool true)))])
 .ret))))), none, [2], [false]⟩
def i107 : Comp := ⟨(.seq (.ops [s 2 (.mv (c (.bool false)))])
 (.seq (.seq (.ops [s 7 (.mv (t 0)),
  s 8 (.len false (t 7)),
  s 9 (.bin .lss (t 8) (c (i 3))),
  s 10 (.mv (t 9)),
  sg [(10, false)] 11 (.mv (t 0)),
  sg [(10, false)] 12 (.len false (t 11)),
  sg [(10, false)] 13 (.bin .gtr (t 12) (c (i 10))),
  s 14 (.pick (t 10) (c (.bool true)) (t 13))])
 (.cond (t 14) (.seq (.ops [s 2 (.mv (c (.bool false)))])
 .ret) .skip))
 (.seq (.ops [s 15 (.mv (t 0)),
  k 16 139 [(t 15)] .lin,
  s 3 (.mv (t 16))])
 (.seq (.seq (.ops [s 17 (.mv (t 3)),
  s 18 (.len false (t 17)),
  s 19 (.mv (c (i 0)))])
 (.block 0 (.loop (.seq (.ops [s 20 (.bin .lss (t 19) (t 18))])
 (.seq (.cond (t 20) .skip (.exit 0))
 (.seq (.block 1 (.seq (.ops [s 21 (.mv (t 19)),
  s 4 (.mv (t 21))])
 (.seq (.seq (.ops [s 22 (.mv (t 3)),
  s 23 (.mv (t 4)),
  s 24 (.idx (t 22) (t 23) 4),
  s 25 (.ldE 22 24 0 4 true true 4),
  k 26 140 [(t 25)] .sc,
  s 27 (.not (t 26))])
 (.cond (t 27) (.seq (.ops [s 2 (.mv (c (.bool false)))])
 .ret) .skip))
 (.seq (.ops [s 28 (.mv (t 4)),
  s 29 (.mv (c (i 0)))])
 (.block 2 (.loop (.seq (.ops [s 30 (.bin .lss (t 29) (t 28))])
 (.seq (.cond (t 30) .skip (.exit 2))
 (.seq (.block 3 (.seq (.ops [s 31 (.mv (t 29)),
  s 5 (.mv (t 31))])
 (.seq (.ops [s 6 (.mv (c (i 0)))])
 (.seq (.seq (.ops [s 32 (.mv (t 5)),
  s 33 (.mv (t 4)),
  s 34 (.bin .sub (t 33) (c (i 1))),
  s 35 (.bin .eql (t 32) (t 34)),
  s 36 (.mv (t 35)),
  sg [(36, false)] 37 (.mv (t 5)),
  sg [(36, false)] 38 (.bin .eql (t 37) (c (i 0))),
  sg [(36, false)] 39 (.mv (t 38)),
  sg [(39, true), (36, false)] 40 (.mv (t 4)),
  sg [(39, true), (36, false)] 41 (.mv (t 3)),
  sg [(39, true), (36, false)] 42 (.len false (t 41)),
  sg [(39, true), (36, false)] 43 (.bin .sub (t 42) (c (i 1))),
  sg [(39, true), (36, false)] 44 (.bin .eql (t 40) (t 43)),
  sg [(36, false)] 45 (.pick (t 39) (t 44) (c (.bool false))),
  s 46 (.pick (t 36) (c (.bool true)) (t 45))])
 (.cond (t 46) (.ops [s 6 (.mv (c (i 1)))]) .skip))
 (.seq (.ops [s 47 (.mv (t 3)),
  s 48 (.mv (t 4)),
  s 49 (.idx (t 47) (t 48) 4),
  s 50 (.ldE 47 49 0 4 true true 4),
  s 51 (.mv (t 3)),
  s 52 (.mv (t 5)),
  s 53 (.idx (t 51) (t 52) 4),
  s 54 (.ldE 51 53 0 4 true true 4),
  k 55 138 [(t 50), (t 54)] .sc,
  s 56 (.mv (t 6)),
  s 57 (.bin .neq (t 55) (t 56))])
 (.cond (t 57) (.seq (.ops [s 2 (.mv (c (.bool false)))])
 .ret) .skip))))))
 (.ops [s 58 (.bin .add (t 29) (c (i 1))),
  s 29 (.mv (t 58))]))))))))))
 (.ops [s 59 (.bin .add (t 19) (c (i 1))),
  s 19 (.mv (t 59))])))))))
 (.seq (.ops [s 2 (.mv (c (.bool true)))])
 .ret))))), none, [2], [false]⟩
def i109 : Comp := ⟨(.seq (.ops [s 2 (.alc [(i 0), (i 0), (i 0), (i 0)]),
  s 3 (.mv (c (.bool false)))])
 (.seq (.seq (.ops [s 6 (.mv (t 0)),
  k 7 75 [(t 6), (c (i 0)), (c (i 440))] .sc,
  s 8 (.not (t 7))])
 (.cond (t 8) (.seq (.ops [s 9 (.bld [(i 0), (i 0), (i 0), (i 0)] []),
  s 2 (.stB 2 0 4 (t 9) false),
  s 3 (.mv (c (.bool false)))])
 .ret) .skip))
 (.seq (.ops [s 10 (.mv (t 0)),
  s 11 (.bin .rem (t 10) (c (i 21))),
  s 12 (.bin .mul (t 11) (c (i 10))),
  s 13 (.mv (t 0)),
  s 14 (.bin .quo (t 13) (c (i 21))),
  s 15 (.bin .mul (t 14) (c (i 10))),
  s 4 (.mv (t 12)),
  s 5 (.mv (t 15))])
 (.seq (.ops [s 16 (.mv (t 4)),
  s 17 (.mv (t 5)),
  s 18 (.bld [(i 0), (i 0)] [(0, 1, (t 16)), (1, 1, (t 17))]),
  s 19 (.mv (t 4)),
  s 20 (.bin .add (t 19) (c (i 10))),
  s 21 (.mn (t 20) (c (i 200))),
  s 22 (.mv (t 5)),
  s 23 (.bin .add (t 22) (c (i 10))),
  s 24 (.mn (t 23) (c (i 200))),
  s 25 (.bld [(i 0), (i 0)] [(0, 1, (t 21)), (1, 1, (t 24))]),
  s 26 (.bld [(i 0), (i 0), (i 0), (i 0)] [(0, 2, (t 18)), (2, 2, (t 25))]),
  s 2 (.stB 2 0 4 (t 26) false),
  s 3 (.mv (c (.bool true)))])
 .ret)))), (some ⟨2, 135, 4, true, false⟩), [3], [true]⟩
def i115 : Comp := ⟨(.seq (.ops [s 1 (.box 5 (t 0)),
  s 2 (.mv (c (.bool false)))])
 (.seq (.seq (.ops [s 3 (.mv (c (i 0))),
  s 4 (.ldB 1 0 1 false true),
  k 5 116 [(t 4), (c (i 1)), (c (i 99))] .sc,
  s 6 (.not (t 5)),
  s 7 (.mv (t 6)),
  sg [(7, false)] 8 (.mv (c (i 0))),
  sg [(7, false)] 9 (.ldB 1 2 1 false true),
  kg [(7, false)] 10 116 [(t 9), (c (i 0)), (c (i 9))] .sc,
  sg [(7, false)] 11 (.not (t 10)),
  s 12 (.pick (t 7) (c (.bool true)) (t 11)),
  s 13 (.mv (t 12)),
  sg [(13, false)] 14 (.mv (c (i 0))),
  sg [(13, false)] 15 (.ldB 1 3 1 false true),
  sg [(13, false)] 16 (.bin .neq (t 15) (c (.str (bs [])))),
  sg [(13, false)] 17 (.mv (t 16)),
  sg [(17, true), (13, false)] 18 (.mv (c (i 0))),
  sg [(17, true), (13, false)] 19 (.ldB 1 3 1 false true),
  kg [(17, true), (13, false)] 20 144 [(t 19)] .sc,
  sg [(17, true), (13, false)] 21 (.not (t 20)),
  sg [(13, false)] 22 (.pick (t 17) (t 21) (c (.bool false))),
  s 23 (.pick (t 13) (c (.bool true)) (t 22))])
 (.cond (t 23) (.seq (.ops [s 2 (.mv (c (.bool false)))])
 .ret) .skip))
 (.seq (.seq (.ops [s 24 (.mv (c (i 0))),
  s 25 (.ldB 1 1 1 false true)])
 (.block 0 (.seq (.ops [s 27 (.bin .eql (t 25) (c (i 1))),
  s 26 (.mv (t 27))])
 (.cond (t 26) (.seq (.ops [s 28 (.mv (c (i 0))),
  s 29 (.ldB 1 4 1 false false),
  s 30 (.len false (t 29)),
  s 31 (.bin .eql (t 30) (c (i 1))),
  s 32 (.mv (t 31)),
  sg [(32, true)] 33 (.mv (c (i 0))),
  sg [(32, true)] 34 (.ldB 1 4 1 false false),
  sg [(32, true)] 35 (.idx (t 34) (c (i 0)) 2),
  sg [(32, true)] 36 (.ldE 34 35 0 2 true true 2),
  kg [(32, true)] 37 70 [(t 36)] .sc,
  s 38 (.pick (t 32) (t 37) (c (.bool false))),
  s 2 (.mv (t 38))])
 .ret) (.seq (.ops [s 40 (.bin .eql (t 25) (c (i 2))),
  s 39 (.mv (t 40))])
 (.cond (t 39) (.seq (.ops [s 41 (.mv (c (i 0))),
  s 42 (.ldB 1 4 1 false false),
  k 43 145 [(t 42)] .sc,
  s 2 (.mv (t 43))])
 .ret) (.seq (.ops [s 45 (.bin .eql (t 25) (c (i 3))),
  s 44 (.mv (t 45))])
 (.cond (t 44) (.seq (.ops [s 46 (.mv (c (i 0))),
  s 47 (.ldB 1 4 1 false false),
  k 48 146 [(t 47)] .sc,
  s 2 (.mv (t 48))])
 .ret) .skip))))))))
 (.seq (.ops [s 2 (.mv (c (.bool false)))])
 .ret)))), none, [2], [false]⟩
def i116 : Comp := ⟨(.seq (.ops [s 6 (.mv (c (.bool false)))])
 (.seq (.ops [s 7 (.mv (t 0)),
  s 8 (.mv (t 1)),
  s 9 (.bin .geq (t 7) (t 8)),
  s 10 (.mv (t 9)),
  sg [(10, true)] 11 (.mv (t 0)),
  sg [(10, true)] 12 (.mv (t 2)),
  sg [(10, true)] 13 (.bin .leq (t 11) (t 12)),
  s 14 (.pick (t 10) (t 13) (c (.bool false))),
  s 6 (.mv (t 14))])
 .ret)), none, [6], [true, true, true]⟩
def i120 : Comp := ⟨(.seq (.ops [s 2 (.mv (c (.lst 4 true [])))])
 (.seq (.ops [s 5 (.bsl 4 []),
  s 3 (.mv (t 5))])
 (.seq (.seq (.ops [s 6 (.mv (t 0)),
  k 7 137 [(t 6)] .sc,
  s 8 (.not (t 7))])
 (.cond (t 8) (.seq (.ops [s 9 (.mv (t 3)),
  s 2 (.mv (t 9))])
 .ret) .skip))
 (.seq (.seq (.ops [s 4 (.mv (c (i 1)))])
 (.block 0 (.loop (.seq (.seq (.ops [s 10 (.mv (t 4)),
  s 11 (.mv (t 0)),
  s 12 (.len false (t 11)),
  s 13 (.bin .lss (t 10) (t 12))])
 (.cond (t 13) .skip (.exit 0)))
 (.seq (.block 1 (.ops [s 16 (.mv (t 3)),
  s 17 (.mv (t 0)),
  s 18 (.mv (t 4)),
  s 19 (.bin .sub (t 18) (c (i 1))),
  s 20 (.idx (t 17) (t 19) 2),
  s 21 (.ldE 17 20 0 2 true true 2),
  s 22 (.mv (t 0)),
  s 23 (.mv (t 4)),
  s 24 (.idx (t 22) (t 23) 2),
  s 25 (.ldE 22 24 0 2 true true 2),
  s 26 (.bld [(i 0), (i 0), (i 0), (i 0)] [(0, 2, (t 21)), (2, 2, (t 25))]),
  s 27 (.bsl 4 [(t 26)]),
  s 28 (.app (t 16) (t 27) 4 32),
  s 3 (.mv (t 28))]))
 (.ops [s 14 (.mv (t 4)),
  s 15 (.bin .add (t 14) (c (i 1))),
  s 4 (.mv (t 15))]))))))
 (.seq (.ops [s 29 (.mv (t 3)),
  s 2 (.mv (t 29))])
 .ret))))), none, [2], [false]⟩
def i122 : Comp := ⟨(.seq (.ops [s 1 (.box 5 (t 0)),
  s 2 (.alc [(i 0), (i 0), (i 0), (.str (bs [])), (.lst 2 true [])])])
 (.seq (.ops [s 3 (.bsl 2 []),
  s 4 (.mv (c (i 0))),
  s 5 (.ldB 1 4 1 false false),
  s 6 (.apf (t 3) (t 5) 2 16),
  s 7 (.mv (c (i 0))),
  s 1 (.stB 1 4 1 (t 6) true)])
 (.seq (.ops [s 8 (.ldB 1 0 5 true false),
  s 2 (.stB 2 0 5 (t 8) false)])
 .ret))), (some ⟨2, 36, 5, true, false⟩), [], [false]⟩
def i123 : Comp := ⟨(.seq (.ops [s 3 (.box 2 (t 0)),
  s 6 (.alc [(i 0), (i 0)]),
  s 7 (.mv (c (.bool false)))])
 (.seq (.seq (.ops [s 9 (.ldB 3 0 2 true true),
  k 10 70 [(t 9)] .sc,
  s 11 (.not (t 10)),
  s 12 (.mv (t 11)),
  sg [(12, false)] 13 (.mv (t 1)),
  kg [(12, false)] 14 116 [(t 13), (c (i (-1000))), (c (i 1000))] .sc,
  sg [(12, false)] 15 (.not (t 14)),
  s 16 (.pick (t 12) (c (.bool true)) (t 15)),
  s 17 (.mv (t 16)),
  sg [(17, false)] 18 (.mv (t 2)),
  kg [(17, false)] 19 116 [(t 18), (c (i (-1000))), (c (i 1000))] .sc,
  sg [(17, false)] 20 (.not (t 19)),
  s 21 (.pick (t 17) (c (.bool true)) (t 20))])
 (.cond (t 21) (.seq (.ops [s 22 (.ldB 3 0 2 true true),
  s 6 (.stB 6 0 2 (t 22) false),
  s 7 (.mv (c (.bool false)))])
 .ret) .skip))
 (.seq (.ops [s 23 (.mv (c (i 0))),
  s 24 (.ldB 3 0 1 false true),
  s 25 (.mv (t 1)),
  s 26 (.bin .add (t 24) (t 25)),
  s 27 (.mv (c (i 0))),
  s 28 (.ldB 3 1 1 false true),
  s 29 (.mv (t 2)),
  s 30 (.bin .add (t 28) (t 29)),
  s 31 (.bld [(i 0), (i 0)] [(0, 1, (t 26)), (1, 1, (t 30))]),
  s 8 (.alc [(i 0), (i 0)]),
  s 8 (.stB 8 0 2 (t 31) false)])
 (.seq (.seq (.ops [s 32 (.ldB 8 0 2 true true),
  k 33 70 [(t 32)] .sc,
  s 34 (.not (t 33))])
 (.cond (t 34) (.seq (.ops [s 35 (.ldB 3 0 2 true true),
  s 6 (.stB 6 0 2 (t 35) false),
  s 7 (.mv (c (.bool false)))])
 .ret) .skip))
 (.seq (.ops [s 36 (.ldB 8 0 2 true true),
  s 6 (.stB 6 0 2 (t 36) false),
  s 7 (.mv (c (.bool true)))])
 .ret))))), (some ⟨6, 65, 2, true, false⟩), [7], [true, true, true]⟩
def i124 : Comp := ⟨(.seq (.ops [s 3 (.box 5 (t 1)),
  s 4 (.mv (c (.bool false)))])
 (.seq (.seq (.ops [s 5 (.mv (c (i 0)))])
 (.block 0 (.loop (.seq (.seq (.ops [s 6 (.mv (t 5)),
  s 7 (.mv (t 0)),
  s 8 (.len false (t 7)),
  s 9 (.bin .lss (t 6) (t 8))])
 (.cond (t 9) .skip (.exit 0)))
 (.seq (.block 1 (.seq (.ops [s 12 (.mv (t 0)),
  s 13 (.mv (t 5)),
  s 14 (.idx (t 12) (t 13) 5),
  s 15 (.ldE 12 14 0 5 true false 5),
  s 16 (.ldB 3 0 5 true false),
  k 17 159 [(t 15), (t 16)] .sc])
 (.cond (t 17) (.seq (.ops [s 4 (.mv (c (.bool true)))])
 .ret) .skip)))
 (.ops [s 10 (.mv (t 5)),
  s 11 (.bin .add (t 10) (c (i 1))),
  s 5 (.mv (t 11))]))))))
 (.seq (.ops [s 4 (.mv (c (.bool false)))])
 .ret))), none, [4], [false, false]⟩
def i125 : Comp := ⟨(.seq (.ops [s 1 (.box 5 (t 0)),
  s 2 (.mv (c (.lst 1 true [])))])
 (.seq (.ops [s 8 (.bsl 1 []),
  s 3 (.mv (t 8))])
 (.seq (.seq (.ops [s 9 (.ldB 1 0 5 true false),
  k 10 115 [(t 9)] .sc,
  s 11 (.not (t 10))])
 (.cond (t 11) (.seq (.ops [s 12 (.mv (t 3)),
  s 2 (.mv (t 12))])
 .ret) .skip))
 (.seq (.ops [s 13 (.ldB 1 0 5 true false),
  k 14 160 [(t 13)] .lin,
  s 4 (.mv (t 14))])
 (.seq (.seq (.ops [s 5 (.mv (c (i 0)))])
 (.block 0 (.loop (.seq (.seq (.ops [s 15 (.mv (t 5)),
  s 16 (.bin .lss (t 15) (c (i 441)))])
 (.cond (t 16) .skip (.exit 0)))
 (.seq (.block 1 (.seq (.ops [s 20 (.mv (t 5)),
  k 21 161 [(t 20)] .sc,
  s 19 (.mv (t 21)),
  s 22 (.ext 19 0 true),
  s 23 (.ext 19 1 true),
  s 6 (.alc [(i 0), (i 0), (i 0), (i 0)]),
  s 6 (.stB 6 0 4 (t 22) false),
  s 7 (.mv (t 23))])
 (.seq (.ops [s 24 (.ldB 1 0 5 true false),
  s 25 (.mv (t 4)),
  s 26 (.ldB 6 0 4 true true),
  k 27 162 [(t 24), (t 25), (t 26)] .lin,
  s 28 (.len false (t 27)),
  s 29 (.bin .gtr (t 28) (c (i 0)))])
 (.cond (t 29) (.ops [s 30 (.mv (t 3)),
  s 31 (.mv (t 5)),
  s 32 (.bsl 1 [(t 31)]),
  s 33 (.app (t 30) (t 32) 1 8),
  s 3 (.mv (t 33))]) .skip))))
 (.ops [s 17 (.mv (t 5)),
  s 18 (.bin .add (t 17) (c (i 1))),
  s 5 (.mv (t 18))]))))))
 (.seq (.ops [s 34 (.mv (t 3)),
  s 2 (.mv (t 34))])
 .ret)))))), none, [2], [false]⟩
def i126 : Comp := ⟨(.seq (.ops [s 4 (.mv (c (.lst 1 true [])))])
 (.seq (.ops [s 5 (.mv (c (i 0)))])
 (.seq (.block 0 (.loop (.seq (.seq (.ops [s 6 (.mv (t 5)),
  s 7 (.mv (t 0)),
  s 8 (.len false (t 7)),
  s 9 (.bin .lss (t 6) (t 8)),
  s 10 (.mv (t 9)),
  sg [(10, true)] 11 (.mv (t 0)),
  sg [(10, true)] 12 (.mv (t 5)),
  sg [(10, true)] 13 (.idx (t 11) (t 12) 1),
  sg [(10, true)] 14 (.ldE 11 13 0 1 false true 1),
  sg [(10, true)] 15 (.mv (t 1)),
  sg [(10, true)] 16 (.bin .lss (t 14) (t 15)),
  s 17 (.pick (t 10) (t 16) (c (.bool false)))])
 (.cond (t 17) .skip (.exit 0)))
 (.block 1 (.ops [s 18 (.mv (t 5)),
  s 19 (.bin .add (t 18) (c (i 1))),
  s 5 (.mv (t 19))])))))
 (.seq (.seq (.ops [s 20 (.mv (t 5)),
  s 21 (.mv (t 0)),
  s 22 (.len false (t 21)),
  s 23 (.bin .lss (t 20) (t 22)),
  s 24 (.mv (t 23)),
  sg [(24, true)] 25 (.mv (t 0)),
  sg [(24, true)] 26 (.mv (t 5)),
  sg [(24, true)] 27 (.idx (t 25) (t 26) 1),
  sg [(24, true)] 28 (.ldE 25 27 0 1 false true 1),
  sg [(24, true)] 29 (.mv (t 1)),
  sg [(24, true)] 30 (.bin .eql (t 28) (t 29)),
  s 31 (.pick (t 24) (t 30) (c (.bool false)))])
 (.cond (t 31) (.seq (.ops [s 32 (.bsl 1 []),
  s 33 (.mv (t 0)),
  s 34 (.apf (t 32) (t 33) 1 8),
  s 4 (.mv (t 34))])
 .ret) .skip))
 (.seq (.ops [s 35 (.bsl 1 []),
  s 36 (.mv (t 0)),
  s 37 (.mv (t 5)),
  s 38 (.sl 1 (t 36) none (some (t 37))),
  s 39 (.apf (t 35) (t 38) 1 8),
  s 40 (.mv (t 1)),
  s 41 (.bsl 1 [(t 40)]),
  s 42 (.app (t 39) (t 41) 1 8),
  s 43 (.mv (t 0)),
  s 44 (.mv (t 5)),
  s 45 (.sl 1 (t 43) (some (t 44)) none),
  s 46 (.apf (t 42) (t 45) 1 8),
  s 4 (.mv (t 46))])
 .ret))))), none, [4], [false, true]⟩
def i127 : Comp := ⟨(.seq (.ops [s 1 (.box 2 (t 0)),
  s 2 (.alc [(i 0), (i 0)])])
 (.seq (.ops [s 3 (.alc [(i 0), (i 0)])])
 (.seq (.ops [s 4 (.mv (c (i 0))),
  s 5 (.ldB 1 0 1 false true),
  s 6 (.mv (c (i 0))),
  s 3 (.stB 3 0 1 (t 5) false)])
 (.seq (.ops [s 7 (.mv (c (i 0))),
  s 8 (.ldB 1 1 1 false true),
  s 9 (.mv (c (i 0))),
  s 3 (.stB 3 1 1 (t 8) false)])
 (.seq (.ops [s 10 (.ldB 3 0 2 true true),
  s 2 (.stB 2 0 2 (t 10) false)])
 .ret))))), (some ⟨2, 65, 2, true, false⟩), [], [true]⟩
def i128 : Comp := ⟨(.seq (.ops [s 1 (.box 5 (t 0)),
  s 2 (.mv (c (.lst 1 true [])))])
 (.seq (.ops [s 7 (.bsl 1 []),
  s 3 (.mv (t 7))])
 (.seq (.seq (.ops [s 8 (.ldB 1 0 5 true false),
  k 9 62 [(t 8)] .sc,
  s 10 (.not (t 9))])
 (.cond (t 10) (.seq (.ops [s 11 (.mv (t 3)),
  s 2 (.mv (t 11))])
 .ret) .skip))
 (.seq (.seq (.ops [s 12 (.mv (c (i 0)))])
 (.block 0 (.loop (.seq (.ops [s 13 (.bin .lss (t 12) (c (i 441)))])
 (.seq (.cond (t 13) .skip (.exit 0))
 (.seq (.block 1 (.seq (.ops [s 14 (.mv (t 12)),
  s 4 (.mv (t 14))])
 (.seq (.ops [s 16 (.mv (t 4)),
  k 17 109 [(t 16)] .sc,
  s 15 (.mv (t 17)),
  s 18 (.ext 15 0 true),
  s 19 (.ext 15 1 true),
  s 5 (.alc [(i 0), (i 0), (i 0), (i 0)]),
  s 5 (.stB 5 0 4 (t 18) false),
  s 6 (.mv (t 19))])
 (.seq (.ops [s 20 (.ldB 1 0 5 true false),
  s 21 (.ldB 5 0 4 true true),
  k 22 143 [(t 20), (t 21), (c (.bool false))] .lin,
  s 23 (.len false (t 22)),
  s 24 (.bin .gtr (t 23) (c (i 0)))])
 (.cond (t 24) (.ops [s 25 (.mv (t 3)),
  s 26 (.mv (t 4)),
  s 27 (.bsl 1 [(t 26)]),
  s 28 (.app (t 25) (t 27) 1 8),
  s 3 (.mv (t 28))]) .skip)))))
 (.ops [s 29 (.bin .add (t 12) (c (i 1))),
  s 12 (.mv (t 29))])))))))
 (.seq (.ops [s 30 (.mv (t 3)),
  s 2 (.mv (t 30))])
 .ret))))), none, [2], [false]⟩
def i130 : Comp := ⟨(.seq (.ops [s 2 (.box 2 (t 0)),
  s 3 (.box 2 (t 1)),
  s 4 (.mv (c (.bool false)))])
 (.seq (.seq (.ops [s 5 (.mv (c (i 0))),
  s 6 (.ldB 2 0 1 false true),
  s 7 (.mv (c (i 0))),
  s 8 (.ldB 3 0 1 false true),
  s 9 (.bin .neq (t 6) (t 8))])
 (.cond (t 9) (.seq (.ops [s 4 (.mv (c (.bool false)))])
 .ret) .skip))
 (.seq (.seq (.ops [s 10 (.mv (c (i 0))),
  s 11 (.ldB 2 1 1 false true),
  s 12 (.mv (c (i 0))),
  s 13 (.ldB 3 1 1 false true),
  s 14 (.bin .neq (t 11) (t 13))])
 (.cond (t 14) (.seq (.ops [s 4 (.mv (c (.bool false)))])
 .ret) .skip))
 (.seq (.ops [s 4 (.mv (c (.bool true)))])
 .ret)))), none, [4], [true, true]⟩
def i137 : Comp := ⟨(.seq (.ops [s 2 (.mv (c (.bool false)))])
 (.seq (.seq (.ops [s 5 (.mv (t 0)),
  s 6 (.len false (t 5)),
  s 7 (.bin .lss (t 6) (c (i 2))),
  s 8 (.mv (t 7)),
  sg [(8, false)] 9 (.mv (t 0)),
  sg [(8, false)] 10 (.len false (t 9)),
  sg [(8, false)] 11 (.bin .gtr (t 10) (c (i 10))),
  s 12 (.pick (t 8) (c (.bool true)) (t 11))])
 (.cond (t 12) (.seq (.ops [s 2 (.mv (c (.bool false)))])
 .ret) .skip))
 (.seq (.seq (.ops [s 13 (.mv (t 0)),
  s 14 (.len false (t 13)),
  s 15 (.mv (c (i 0)))])
 (.block 0 (.loop (.seq (.ops [s 16 (.bin .lss (t 15) (t 14))])
 (.seq (.cond (t 16) .skip (.exit 0))
 (.seq (.block 1 (.seq (.ops [s 17 (.mv (t 15)),
  s 18 (.idx (t 13) (t 15) 2),
  s 19 (.ldE 13 18 0 2 true true 2),
  s 4 (.alc [(i 0), (i 0)]),
  s 3 (.mv (t 17)),
  s 4 (.stB 4 0 2 (t 19) false)])
 (.seq (.ops [s 20 (.ldB 4 0 2 true true),
  k 21 35 [(t 20)] .sc,
  s 22 (.not (t 21)),
  s 23 (.mv (t 22)),
  sg [(23, false)] 24 (.mv (t 3)),
  sg [(23, false)] 25 (.bin .gtr (t 24) (c (i 0))),
  sg [(23, false)] 26 (.mv (t 25)),
  sg [(26, true), (23, false)] 27 (.ldB 4 0 2 true true),
  sg [(26, true), (23, false)] 28 (.mv (t 0)),
  sg [(26, true), (23, false)] 29 (.mv (t 3)),
  sg [(26, true), (23, false)] 30 (.bin .sub (t 29) (c (i 1))),
  sg [(26, true), (23, false)] 31 (.idx (t 28) (t 30) 2),
  sg [(26, true), (23, false)] 32 (.ldE 28 31 0 2 true true 2),
  sg [(26, true), (23, false)] 33 (.eqa false [0, 0] (t 27) (t 32)),
  sg [(23, false)] 34 (.pick (t 26) (t 33) (c (.bool false))),
  s 35 (.pick (t 23) (c (.bool true)) (t 34))])
 (.cond (t 35) (.seq (.ops [s 2 (.mv (c (.bool false)))])
 .ret) .skip))))
 (.ops [s 36 (.bin .add (t 15) (c (i 1))),
  s 15 (.mv (t 36))])))))))
 (.seq (.ops [s 2 (.mv (c (.bool true)))])
 .ret)))), none, [2], [false]⟩
def i138 : Comp := ⟨(.seq (.ops [s 2 (.box 4 (t 0)),
  s 3 (.box 4 (t 1)),
  s 4 (.mv (c (i 0)))])
 (.seq (.seq (.ops [s 9 (.ldB 2 0 4 true true),
  k 10 140 [(t 9)] .sc,
  s 11 (.not (t 10)),
  s 12 (.mv (t 11)),
  sg [(12, false)] 13 (.ldB 3 0 4 true true),
  kg [(12, false)] 14 140 [(t 13)] .sc,
  sg [(12, false)] 15 (.not (t 14)),
  s 16 (.pick (t 12) (c (.bool true)) (t 15))])
 (.cond (t 16) (.seq (.ops [s 4 (.mv (c (i 0)))])
 .ret) .skip))
 (.seq (.ops [s 17 (.mv (c (i 0))),
  s 18 (.ldB 2 0 2 true true),
  s 19 (.mv (c (i 0))),
  s 20 (.ldB 2 2 2 true true),
  s 21 (.mv (c (i 0))),
  s 22 (.ldB 3 0 2 true true),
  k 23 175 [(t 18), (t 20), (t 22)] .sc,
  s 24 (.mv (c (i 0))),
  s 25 (.ldB 2 0 2 true true),
  s 26 (.mv (c (i 0))),
  s 27 (.ldB 2 2 2 true true),
  s 28 (.mv (c (i 0))),
  s 29 (.ldB 3 2 2 true true),
  k 30 175 [(t 25), (t 27), (t 29)] .sc,
  s 5 (.mv (t 23)),
  s 6 (.mv (t 30))])
 (.seq (.seq (.ops [s 31 (.mv (t 5)),
  s 32 (.bin .eql (t 31) (c (i 0))),
  s 33 (.mv (t 32)),
  sg [(33, true)] 34 (.mv (t 6)),
  sg [(33, true)] 35 (.bin .eql (t 34) (c (i 0))),
  s 36 (.pick (t 33) (t 35) (c (.bool false)))])
 (.cond (t 36) (.seq (.ops [s 37 (.ldB 2 0 4 true true),
  k 38 176 [(t 37)] .sc,
  s 39 (.ldB 3 0 4 true true),
  k 40 176 [(t 39)] .sc,
  s 2 (.stB 2 0 4 (t 38) false),
  s 3 (.stB 3 0 4 (t 40) false)])
 (.seq (.ops [s 41 (.mv (c (i 0))),
  s 42 (.ldB 2 0 2 true true),
  s 43 (.mv (c (i 0))),
  s 44 (.ldB 2 2 2 true true),
  s 7 (.alc [(i 0), (i 0)]),
  s 8 (.alc [(i 0), (i 0)]),
  s 7 (.stB 7 0 2 (t 42) false),
  s 8 (.stB 8 0 2 (t 44) false)])
 (.seq (.seq (.ops [s 45 (.ldB 7 0 2 true true),
  s 46 (.mv (c (i 0))),
  s 47 (.ldB 3 0 2 true true),
  k 48 34 [(t 45), (t 47)] .sc])
 (.cond (t 48) (.ops [s 49 (.mv (c (i 0))),
  s 50 (.ldB 3 0 2 true true),
  s 7 (.stB 7 0 2 (t 50) false)]) .skip))
 (.seq (.seq (.ops [s 51 (.mv (c (i 0))),
  s 52 (.ldB 3 2 2 true true),
  s 53 (.ldB 8 0 2 true true),
  k 54 34 [(t 52), (t 53)] .sc])
 (.cond (t 54) (.ops [s 55 (.mv (c (i 0))),
  s 56 (.ldB 3 2 2 true true),
  s 8 (.stB 8 0 2 (t 56) false)]) .skip))
 (.seq (.block 0 (.seq (.ops [s 58 (.ldB 8 0 2 true true),
  s 59 (.ldB 7 0 2 true true),
  k 60 34 [(t 58), (t 59)] .sc,
  s 57 (.mv (t 60))])
 (.cond (t 57) (.seq (.ops [s 4 (.mv (c (i 0)))])
 .ret) (.seq (.ops [s 62 (.ldB 7 0 2 true true),
  s 63 (.ldB 8 0 2 true true),
  s 64 (.eqa false [0, 0] (t 62) (t 63)),
  s 61 (.mv (t 64))])
 (.cond (t 61) (.seq (.ops [s 4 (.mv (c (i 1)))])
 .ret) .skip)))))
 (.seq (.ops [s 4 (.mv (c (i 3)))])
 .ret)))))) .skip))
 (.seq (.seq (.ops [s 65 (.mv (t 5)),
  s 66 (.mv (t 6)),
  s 67 (.bin .mul (t 65) (t 66)),
  s 68 (.bin .lss (t 67) (c (i 0))),
  s 69 (.mv (t 68)),
  sg [(69, true)] 70 (.mv (c (i 0))),
  sg [(69, true)] 71 (.ldB 3 0 2 true true),
  sg [(69, true)] 72 (.mv (c (i 0))),
  sg [(69, true)] 73 (.ldB 3 2 2 true true),
  sg [(69, true)] 74 (.mv (c (i 0))),
  sg [(69, true)] 75 (.ldB 2 0 2 true true),
  kg [(69, true)] 76 175 [(t 71), (t 73), (t 75)] .sc,
  sg [(69, true)] 77 (.mv (c (i 0))),
  sg [(69, true)] 78 (.ldB 3 0 2 true true),
  sg [(69, true)] 79 (.mv (c (i 0))),
  sg [(69, true)] 80 (.ldB 3 2 2 true true),
  sg [(69, true)] 81 (.mv (c (i 0))),
  sg [(69, true)] 82 (.ldB 2 2 2 true true),
  kg [(69, true)] 83 175 [(t 78), (t 80), (t 82)] .sc,
  sg [(69, true)] 84 (.bin .mul (t 76) (t 83)),
  sg [(69, true)] 85 (.bin .lss (t 84) (c (i 0))),
  s 86 (.pick (t 69) (t 85) (c (.bool false)))])
 (.cond (t 86) (.seq (.ops [s 4 (.mv (c (i 2)))])
 .ret) .skip))
 (.seq (.seq (.ops [s 87 (.ldB 2 0 4 true true),
  s 88 (.mv (c (i 0))),
  s 89 (.ldB 3 0 2 true true),
  k 90 177 [(t 87), (t 89)] .sc,
  s 91 (.mv (t 90)),
  sg [(91, false)] 92 (.ldB 2 0 4 true true),
  sg [(91, false)] 93 (.mv (c (i 0))),
  sg [(91, false)] 94 (.ldB 3 2 2 true true),
  kg [(91, false)] 95 177 [(t 92), (t 94)] .sc,
  s 96 (.pick (t 91) (c (.bool true)) (t 95)),
  s 97 (.mv (t 96)),
  sg [(97, false)] 98 (.ldB 3 0 4 true true),
  sg [(97, false)] 99 (.mv (c (i 0))),
  sg [(97, false)] 100 (.ldB 2 0 2 true true),
  kg [(97, false)] 101 177 [(t 98), (t 100)] .sc,
  s 102 (.pick (t 97) (c (.bool true)) (t 101)),
  s 103 (.mv (t 102)),
  sg [(103, false)] 104 (.ldB 3 0 4 true true),
  sg [(103, false)] 105 (.mv (c (i 0))),
  sg [(103, false)] 106 (.ldB 2 2 2 true true),
  kg [(103, false)] 107 177 [(t 104), (t 106)] .sc,
  s 108 (.pick (t 103) (c (.bool true)) (t 107))])
 (.cond (t 108) (.seq (.ops [s 4 (.mv (c (i 1)))])
 .ret) .skip))
 (.seq (.ops [s 4 (.mv (c (i 0)))])
 .ret))))))), none, [4], [true, true]⟩
def i139 : Comp := ⟨(.seq (.ops [s 2 (.mv (c (.lst 4 true [])))])
 (.seq (.ops [s 6 (.bsl 4 []),
  s 3 (.mv (t 6))])
 (.seq (.seq (.ops [s 7 (.mv (t 0)),
  s 8 (.len false (t 7)),
  s 9 (.mv (c (i 0)))])
 (.block 0 (.loop (.seq (.ops [s 10 (.bin .lss (t 9) (t 8))])
 (.seq (.cond (t 10) .skip (.exit 0))
 (.seq (.block 1 (.seq (.ops [s 11 (.mv (t 9)),
  s 12 (.idx (t 7) (t 9) 2),
  s 13 (.ldE 7 12 0 2 true true 2),
  s 5 (.alc [(i 0), (i 0)]),
  s 4 (.mv (t 11)),
  s 5 (.stB 5 0 2 (t 13) false)])
 (.ops [s 14 (.mv (t 3)),
  s 15 (.ldB 5 0 2 true true),
  s 16 (.mv (t 0)),
  s 17 (.mv (t 4)),
  s 18 (.bin .add (t 17) (c (i 1))),
  s 19 (.mv (t 0)),
  s 20 (.len false (t 19)),
  s 21 (.bin .rem (t 18) (t 20)),
  s 22 (.idx (t 16) (t 21) 2),
  s 23 (.ldE 16 22 0 2 true true 2),
  s 24 (.bld [(i 0), (i 0), (i 0), (i 0)] [(0, 2, (t 15)), (2, 2, (t 23))]),
  s 25 (.bsl 4 [(t 24)]),
  s 26 (.app (t 14) (t 25) 4 32),
  s 3 (.mv (t 26))])))
 (.ops [s 27 (.bin .add (t 9) (c (i 1))),
  s 9 (.mv (t 27))])))))))
 (.seq (.ops [s 28 (.mv (t 3)),
  s 2 (.mv (t 28))])
 .ret)))), none, [2], [false]⟩
def i140 : Comp := ⟨(.seq (.ops [s 1 (.box 4 (t 0)),
  s 2 (.mv (c (.bool false)))])
 (.seq (.ops [s 3 (.mv (c (i 0))),
  s 4 (.ldB 1 0 2 true true),
  k 5 35 [(t 4)] .sc,
  s 6 (.mv (t 5)),
  sg [(6, true)] 7 (.mv (c (i 0))),
  sg [(6, true)] 8 (.ldB 1 2 2 true true),
  kg [(6, true)] 9 35 [(t 8)] .sc,
  s 10 (.pick (t 6) (t 9) (c (.bool false))),
  s 11 (.mv (t 10)),
  sg [(11, true)] 12 (.mv (c (i 0))),
  sg [(11, true)] 13 (.ldB 1 0 2 true true),
  sg [(11, true)] 14 (.mv (c (i 0))),
  sg [(11, true)] 15 (.ldB 1 2 2 true true),
  sg [(11, true)] 16 (.eqa true [0, 0] (t 13) (t 15)),
  s 17 (.pick (t 11) (t 16) (c (.bool false))),
  s 2 (.mv (t 17))])
 .ret)), none, [2], [true]⟩
def i143 : Comp := ⟨(.seq (.ops [s 3 (.box 5 (t 0)),
  s 4 (.box 4 (t 1)),
  s 6 (.mv (c (.lst 2 true [])))])
 (.seq (.ops [s 10 (.bsl 2 []),
  s 7 (.mv (t 10))])
 (.seq (.seq (.ops [s 11 (.mv (c (i 0))),
  s 12 (.ldB 3 1 1 false true),
  s 13 (.bin .eql (t 12) (c (i 1))),
  s 14 (.mv (t 13)),
  sg [(14, true)] 15 (.mv (t 2)),
  sg [(14, true)] 16 (.mv (t 15)),
  sg [(16, false), (14, true)] 17 (.ldB 4 0 4 true true),
  sg [(16, false), (14, true)] 18 (.mv (c (i 0))),
  sg [(16, false), (14, true)] 19 (.ldB 3 4 1 false false),
  sg [(16, false), (14, true)] 20 (.idx (t 19) (c (i 0)) 2),
  sg [(16, false), (14, true)] 21 (.ldE 19 20 0 2 true true 2),
  kg [(16, false), (14, true)] 22 180 [(t 17), (t 21)] .sc,
  sg [(14, true)] 23 (.pick (t 16) (c (.bool true)) (t 22)),
  s 24 (.pick (t 14) (t 23) (c (.bool false)))])
 (.cond (t 24) (.ops [s 25 (.mv (t 7)),
  s 26 (.mv (c (i 0))),
  s 27 (.ldB 3 0 1 false true),
  s 28 (.bld [(i 0), (i 0)] [(0, 1, (t 27)), (1, 1, (c (i 0)))]),
  s 29 (.bsl 2 [(t 28)]),
  s 30 (.app (t 25) (t 29) 2 16),
  s 7 (.mv (t 30))]) .skip))
 (.seq (.seq (.ops [s 31 (.ldB 3 0 5 true false),
  k 32 179 [(t 31)] .lin,
  s 33 (.len false (t 32)),
  s 34 (.mv (c (i 0)))])
 (.block 0 (.loop (.seq (.ops [s 35 (.bin .lss (t 34) (t 33))])
 (.seq (.cond (t 35) .skip (.exit 0))
 (.seq (.block 1 (.seq (.ops [s 36 (.mv (t 34)),
  s 37 (.idx (t 32) (t 34) 4),
  s 38 (.ldE 32 37 0 4 true true 4),
  s 9 (.alc [(i 0), (i 0), (i 0), (i 0)]),
  s 8 (.mv (t 36)),
  s 9 (.stB 9 0 4 (t 38) false)])
 (.seq (.ops [s 39 (.mv (t 2)),
  s 40 (.mv (t 39)),
  sg [(40, false)] 41 (.ldB 9 0 4 true true),
  sg [(40, false)] 42 (.ldB 4 0 4 true true),
  kg [(40, false)] 43 181 [(t 41), (t 42)] .sc,
  s 44 (.pick (t 40) (c (.bool true)) (t 43))])
 (.cond (t 44) (.ops [s 45 (.mv (t 7)),
  s 46 (.mv (c (i 0))),
  s 47 (.ldB 3 0 1 false true),
  s 48 (.mv (t 8)),
  s 49 (.bld [(i 0), (i 0)] [(0, 1, (t 47)), (1, 1, (t 48))]),
  s 50 (.bsl 2 [(t 49)]),
  s 51 (.app (t 45) (t 50) 2 16),
  s 7 (.mv (t 51))]) .skip))))
 (.ops [s 52 (.bin .add (t 34) (c (i 1))),
  s 34 (.mv (t 52))])))))))
 (.seq (.ops [s 53 (.mv (t 7)),
  s 6 (.mv (t 53))])
 .ret))))), none, [6], [false, true, true]⟩
def i144 : Comp := ⟨(.seq (.ops [s 2 (.mv (c (.bool false)))])
 (.seq (.seq (.ops [s 3 (.mv (c (i 0)))])
 (.block 0 (.loop (.seq (.seq (.ops [s 4 (.mv (t 3)),
  s 5 (.mv (t 0)),
  s 6 (.len true (t 5)),
  s 7 (.bin .lss (t 4) (t 6))])
 (.cond (t 7) .skip (.exit 0)))
 (.seq (.block 1 (.seq (.ops [s 10 (.mv (t 0)),
  s 11 (.mv (t 3)),
  s 12 (.six (t 10) (t 11)),
  s 13 (.bin .lss (t 12) (c (.int .u8 (97)))),
  s 14 (.mv (t 13)),
  sg [(14, false)] 15 (.mv (t 0)),
  sg [(14, false)] 16 (.mv (t 3)),
  sg [(14, false)] 17 (.six (t 15) (t 16)),
  sg [(14, false)] 18 (.bin .gtr (t 17) (c (.int .u8 (122)))),
  s 19 (.pick (t 14) (c (.bool true)) (t 18))])
 (.cond (t 19) (.seq (.ops [s 2 (.mv (c (.bool false)))])
 .ret) .skip)))
 (.ops [s 8 (.mv (t 3)),
  s 9 (.bin .add (t 8) (c (i 1))),
  s 3 (.mv (t 9))]))))))
 (.seq (.ops [s 20 (.mv (t 0)),
  s 21 (.len true (t 20)),
  k 22 116 [(t 21), (c (i 1)), (c (i 8))] .sc,
  s 2 (.mv (t 22))])
 .ret))), none, [2], [true]⟩
def i145 : Comp := ⟨(.seq (.ops [s 2 (.mv (c (.bool false)))])
 (.seq (.ops [s 7 (.mv (t 0)),
  k 8 147 [(t 7)] .lin,
  s 3 (.mv (t 8))])
 (.seq (.seq (.ops [s 4 (.mv (c (i 0)))])
 (.block 0 (.loop (.seq (.seq (.ops [s 9 (.mv (t 4)),
  s 10 (.mv (t 3)),
  s 11 (.len false (t 10)),
  s 12 (.bin .lss (t 9) (t 11))])
 (.cond (t 12) .skip (.exit 0)))
 (.seq (.block 1 (.seq (.ops [s 5 (.mv (c (i 0)))])
 (.block 2 (.loop (.seq (.seq (.ops [s 15 (.mv (t 5)),
  s 16 (.mv (t 4)),
  s 17 (.bin .lss (t 15) (t 16))])
 (.cond (t 17) .skip (.exit 2)))
 (.seq (.block 3 (.seq (.ops [s 6 (.mv (c (i 0)))])
 (.seq (.seq (.ops [s 20 (.mv (t 5)),
  s 21 (.bin .add (t 20) (c (i 1))),
  s 22 (.mv (t 4)),
  s 23 (.bin .eql (t 21) (t 22))])
 (.cond (t 23) (.ops [s 6 (.mv (c (i 1)))]) .skip))
 (.seq (.ops [s 24 (.mv (t 3)),
  s 25 (.mv (t 4)),
  s 26 (.idx (t 24) (t 25) 4),
  s 27 (.ldE 24 26 0 4 true true 4),
  s 28 (.mv (t 3)),
  s 29 (.mv (t 5)),
  s 30 (.idx (t 28) (t 29) 4),
  s 31 (.ldE 28 30 0 4 true true 4),
  k 32 182 [(t 27), (t 31)] .sc,
  s 33 (.mv (t 6)),
  s 34 (.bin .neq (t 32) (t 33))])
 (.cond (t 34) (.seq (.ops [s 2 (.mv (c (.bool false)))])
 .ret) .skip)))))
 (.ops [s 18 (.mv (t 5)),
  s 19 (.bin .add (t 18) (c (i 1))),
  s 5 (.mv (t 19))])))))))
 (.ops [s 13 (.mv (t 4)),
  s 14 (.bin .add (t 13) (c (i 1))),
  s 4 (.mv (t 14))]))))))
 (.seq (.ops [s 35 (.mv (t 0)),
  k 36 183 [(t 35)] .sc,
  s 2 (.mv (t 36))])
 .ret)))), none, [2], [false]⟩
def i146 : Comp := ⟨(.seq (.ops [s 2 (.mv (c (.bool false)))])
 (.seq (.seq (.ops [s 7 (.mv (t 0)),
  s 8 (.len false (t 7)),
  k 9 116 [(t 8), (c (i 3)), (c (i 10))] .sc,
  s 10 (.not (t 9))])
 (.cond (t 10) (.seq (.ops [s 2 (.mv (c (.bool false)))])
 .ret) .skip))
 (.seq (.ops [s 11 (.mv (t 0)),
  k 12 184 [(t 11)] .lin,
  s 3 (.mv (t 12))])
 (.seq (.seq (.ops [s 4 (.mv (c (i 0)))])
 (.block 0 (.loop (.seq (.seq (.ops [s 13 (.mv (t 4)),
  s 14 (.mv (t 3)),
  s 15 (.len false (t 14)),
  s 16 (.bin .lss (t 13) (t 15))])
 (.cond (t 16) .skip (.exit 0)))
 (.seq (.block 1 (.seq (.seq (.ops [s 19 (.mv (t 3)),
  s 20 (.mv (t 4)),
  s 21 (.idx (t 19) (t 20) 4),
  s 22 (.ldE 19 21 0 4 true true 4),
  k 23 185 [(t 22)] .sc,
  s 24 (.not (t 23))])
 (.cond (t 24) (.seq (.ops [s 2 (.mv (c (.bool false)))])
 .ret) .skip))
 (.seq (.ops [s 5 (.mv (c (i 0)))])
 (.block 2 (.loop (.seq (.seq (.ops [s 25 (.mv (t 5)),
  s 26 (.mv (t 4)),
  s 27 (.bin .lss (t 25) (t 26))])
 (.cond (t 27) .skip (.exit 2)))
 (.seq (.block 3 (.seq (.ops [s 6 (.mv (c (i 0)))])
 (.seq (.seq (.ops [s 30 (.mv (t 5)),
  s 31 (.bin .add (t 30) (c (i 1))),
  s 32 (.mv (t 4)),
  s 33 (.bin .eql (t 31) (t 32)),
  s 34 (.mv (t 33)),
  sg [(34, false)] 35 (.mv (t 5)),
  sg [(34, false)] 36 (.bin .eql (t 35) (c (i 0))),
  sg [(34, false)] 37 (.mv (t 36)),
  sg [(37, true), (34, false)] 38 (.mv (t 4)),
  sg [(37, true), (34, false)] 39 (.bin .add (t 38) (c (i 1))),
  sg [(37, true), (34, false)] 40 (.mv (t 3)),
  sg [(37, true), (34, false)] 41 (.len false (t 40)),
  sg [(37, true), (34, false)] 42 (.bin .eql (t 39) (t 41)),
  sg [(34, false)] 43 (.pick (t 37) (t 42) (c (.bool false))),
  s 44 (.pick (t 34) (c (.bool true)) (t 43))])
 (.cond (t 44) (.ops [s 6 (.mv (c (i 1)))]) .skip))
 (.seq (.ops [s 45 (.mv (t 3)),
  s 46 (.mv (t 4)),
  s 47 (.idx (t 45) (t 46) 4),
  s 48 (.ldE 45 47 0 4 true true 4),
  s 49 (.mv (t 3)),
  s 50 (.mv (t 5)),
  s 51 (.idx (t 49) (t 50) 4),
  s 52 (.ldE 49 51 0 4 true true 4),
  k 53 182 [(t 48), (t 52)] .sc,
  s 54 (.mv (t 6)),
  s 55 (.bin .neq (t 53) (t 54))])
 (.cond (t 55) (.seq (.ops [s 2 (.mv (c (.bool false)))])
 .ret) .skip)))))
 (.ops [s 28 (.mv (t 5)),
  s 29 (.bin .add (t 28) (c (i 1))),
  s 5 (.mv (t 29))]))))))))
 (.ops [s 17 (.mv (t 4)),
  s 18 (.bin .add (t 17) (c (i 1))),
  s 4 (.mv (t 18))]))))))
 (.seq (.ops [s 2 (.mv (c (.bool true)))])
 .ret))))), none, [2], [false]⟩
def i147 : Comp := ⟨(.seq (.ops [s 2 (.mv (c (.lst 4 true [])))])
 (.seq (.ops [s 5 (.bsl 4 []),
  s 3 (.mv (t 5))])
 (.seq (.seq (.ops [s 4 (.mv (c (i 1)))])
 (.block 0 (.loop (.seq (.seq (.ops [s 6 (.mv (t 4)),
  s 7 (.mv (t 0)),
  s 8 (.len false (t 7)),
  s 9 (.bin .lss (t 6) (t 8)),
  s 10 (.mv (t 9)),
  sg [(10, true)] 11 (.mv (t 0)),
  kg [(10, true)] 12 183 [(t 11)] .sc,
  s 13 (.pick (t 10) (t 12) (c (.bool false)))])
 (.cond (t 13) .skip (.exit 0)))
 (.seq (.block 1 (.ops [s 16 (.mv (t 3)),
  s 17 (.mv (t 0)),
  s 18 (.mv (t 4)),
  s 19 (.bin .sub (t 18) (c (i 1))),
  s 20 (.idx (t 17) (t 19) 2),
  s 21 (.ldE 17 20 0 2 true true 2),
  s 22 (.mv (t 0)),
  s 23 (.mv (t 4)),
  s 24 (.idx (t 22) (t 23) 2),
  s 25 (.ldE 22 24 0 2 true true 2),
  s 26 (.bld [(i 0), (i 0), (i 0), (i 0)] [(0, 2, (t 21)), (2, 2, (t 25))]),
  s 27 (.bsl 4 [(t 26)]),
  s 28 (.app (t 16) (t 27) 4 32),
  s 3 (.mv (t 28))]))
 (.ops [s 14 (.mv (t 4)),
  s 15 (.bin .add (t 14) (c (i 1))),
  s 4 (.mv (t 15))]))))))
 (.seq (.ops [s 29 (.mv (t 3)),
  s 2 (.mv (t 29))])
 .ret)))), none, [2], [false]⟩
def i159 : Comp := ⟨(.seq (.ops [s 2 (.box 5 (t 0)),
  s 3 (.box 5 (t 1)),
  s 4 (.mv (c (.bool false)))])
 (.seq (.ops [s 5 (.mv (c (i 0))),
  s 6 (.ldB 2 0 1 false true),
  s 7 (.mv (c (i 0))),
  s 8 (.ldB 3 0 1 false true),
  s 9 (.bin .eql (t 6) (t 8)),
  s 10 (.mv (t 9)),
  sg [(10, true)] 11 (.mv (c (i 0))),
  sg [(10, true)] 12 (.ldB 2 1 1 false true),
  sg [(10, true)] 13 (.mv (c (i 0))),
  sg [(10, true)] 14 (.ldB 3 1 1 false true),
  sg [(10, true)] 15 (.bin .eql (t 12) (t 14)),
  s 16 (.pick (t 10) (t 15) (c (.bool false))),
  s 17 (.mv (t 16)),
  sg [(17, true)] 18 (.mv (c (i 0))),
  sg [(17, true)] 19 (.ldB 2 2 1 false true),
  sg [(17, true)] 20 (.mv (c (i 0))),
  sg [(17, true)] 21 (.ldB 3 2 1 false true),
  sg [(17, true)] 22 (.bin .eql (t 19) (t 21)),
  s 23 (.pick (t 17) (t 22) (c (.bool false))),
  s 24 (.mv (t 23)),
  sg [(24, true)] 25 (.mv (c (i 0))),
  sg [(24, true)] 26 (.ldB 2 3 1 false true),
  sg [(24, true)] 27 (.mv (c (i 0))),
  sg [(24, true)] 28 (.ldB 3 3 1 false true),
  sg [(24, true)] 29 (.bin .eql (t 26) (t 28)),
  s 30 (.pick (t 24) (t 29) (c (.bool false))),
  s 31 (.mv (t 30)),
  sg [(31, true)] 32 (.mv (c (i 0))),
  sg [(31, true)] 33 (.ldB 2 4 1 false false),
  sg [(31, true)] 34 (.mv (c (i 0))),
  sg [(31, true)] 35 (.ldB 3 4 1 false false),
  kg [(31, true)] 36 192 [(t 33), (t 35)] .sc,
  s 37 (.pick (t 31) (t 36) (c (.bool false))),
  s 4 (.mv (t 37))])
 .ret)), none, [4], [false, false]⟩
def i160 : Comp := ⟨(.seq (.ops [s 1 (.box 5 (t 0)),
  s 2 (.mv (c (.lst 4 true [])))])
 (.seq (.seq (.ops [s 3 (.ldB 1 0 5 true false),
  k 4 115 [(t 3)] .sc,
  s 5 (.not (t 4))])
 (.cond (t 5) (.seq (.ops [s 6 (.bsl 4 []),
  s 2 (.mv (t 6))])
 .ret) .skip))
 (.seq (.seq (.ops [s 7 (.mv (c (i 0))),
  s 8 (.ldB 1 1 1 false true)])
 (.block 0 (.seq (.ops [s 10 (.bin .eql (t 8) (c (i 2))),
  s 9 (.mv (t 10))])
 (.cond (t 9) (.seq (.ops [s 11 (.mv (c (i 0))),
  s 12 (.ldB 1 4 1 false false),
  k 13 147 [(t 12)] .lin,
  s 2 (.mv (t 13))])
 .ret) (.seq (.ops [s 15 (.bin .eql (t 8) (c (i 3))),
  s 14 (.mv (t 15))])
 (.cond (t 14) (.seq (.ops [s 16 (.mv (c (i 0))),
  s 17 (.ldB 1 4 1 false false),
  k 18 193 [(t 17)] .lin,
  s 2 (.mv (t 18))])
 .ret) .skip))))))
 (.seq (.ops [s 19 (.bsl 4 []),
  s 2 (.mv (t 19))])
 .ret)))), none, [2], [false]⟩
def i161 : Comp := ⟨(.seq (.ops [s 2 (.alc [(i 0), (i 0), (i 0), (i 0)]),
  s 3 (.mv (c (.bool false)))])
 (.seq (.seq (.ops [s 6 (.mv (t 0)),
  k 7 116 [(t 6), (c (i 0)), (c (i 440))] .sc,
  s 8 (.not (t 7))])
 (.cond (t 8) (.seq (.ops [s 9 (.bld [(i 0), (i 0), (i 0), (i 0)] []),
  s 2 (.stB 2 0 4 (t 9) false),
  s 3 (.mv (c (.bool false)))])
 .ret) .skip))
 (.seq (.ops [s 10 (.mv (t 0)),
  s 11 (.bin .rem (t 10) (c (i 21))),
  s 12 (.bin .mul (t 11) (c (i 10))),
  s 4 (.mv (t 12))])
 (.seq (.ops [s 13 (.mv (t 0)),
  s 14 (.bin .quo (t 13) (c (i 21))),
  s 15 (.bin .mul (t 14) (c (i 10))),
  s 5 (.mv (t 15))])
 (.seq (.ops [s 16 (.mv (t 4)),
  s 17 (.mv (t 5)),
  s 18 (.bld [(i 0), (i 0)] [(0, 1, (t 16)), (1, 1, (t 17))]),
  s 19 (.mv (t 4)),
  s 20 (.bin .add (t 19) (c (i 10))),
  k 21 172 [(c (i 200)), (t 20)] .sc,
  s 22 (.mv (t 5)),
  s 23 (.bin .add (t 22) (c (i 10))),
  k 24 172 [(c (i 200)), (t 23)] .sc,
  s 25 (.bld [(i 0), (i 0)] [(0, 1, (t 21)), (1, 1, (t 24))]),
  s 26 (.bld [(i 0), (i 0), (i 0), (i 0)] [(0, 2, (t 18)), (2, 2, (t 25))]),
  s 2 (.stB 2 0 4 (t 26) false),
  s 3 (.mv (c (.bool true)))])
 .ret))))), (some ⟨2, 135, 4, true, false⟩), [3], [true]⟩
def i162 : Comp := ⟨(.seq (.ops [s 3 (.box 5 (t 0)),
  s 5 (.box 4 (t 2)),
  s 6 (.mv (c (.lst 2 true [])))])
 (.seq (.ops [s 9 (.bsl 2 []),
  s 7 (.mv (t 9))])
 (.seq (.seq (.ops [s 10 (.mv (c (i 0))),
  s 11 (.ldB 3 1 1 false true),
  s 12 (.bin .eql (t 11) (c (i 1))),
  s 13 (.mv (t 12)),
  sg [(13, true)] 14 (.ldB 5 0 4 true true),
  sg [(13, true)] 15 (.mv (c (i 0))),
  sg [(13, true)] 16 (.ldB 3 4 1 false false),
  sg [(13, true)] 17 (.idx (t 16) (c (i 0)) 2),
  sg [(13, true)] 18 (.ldE 16 17 0 2 true true 2),
  kg [(13, true)] 19 194 [(t 14), (t 18)] .sc,
  s 20 (.pick (t 13) (t 19) (c (.bool false)))])
 (.cond (t 20) (.seq (.ops [s 21 (.mv (c (i 0))),
  s 22 (.ldB 3 0 1 false true),
  s 23 (.bld [(i 0), (i 0)] [(0, 1, (t 22))]),
  s 24 (.bsl 2 [(t 23)]),
  s 6 (.mv (t 24))])
 .ret) .skip))
 (.seq (.seq (.ops [s 8 (.mv (c (i 0)))])
 (.block 0 (.loop (.seq (.seq (.ops [s 25 (.mv (t 8)),
  s 26 (.mv (t 1)),
  s 27 (.len false (t 26)),
  s 28 (.bin .lss (t 25) (t 27))])
 (.cond (t 28) .skip (.exit 0)))
 (.seq (.block 1 (.seq (.ops [s 31 (.mv (t 1)),
  s 32 (.mv (t 8)),
  s 33 (.idx (t 31) (t 32) 4),
  s 34 (.ldE 31 33 0 4 true true 4),
  s 35 (.ldB 5 0 4 true true),
  k 36 195 [(t 34), (t 35)] .sc])
 (.cond (t 36) (.ops [s 37 (.mv (t 7)),
  s 38 (.mv (c (i 0))),
  s 39 (.ldB 3 0 1 false true),
  s 40 (.mv (t 8)),
  s 41 (.bld [(i 0), (i 0)] [(0, 1, (t 39)), (1, 1, (t 40))]),
  s 42 (.bsl 2 [(t 41)]),
  s 43 (.app (t 37) (t 42) 2 16),
  s 7 (.mv (t 43))]) .skip)))
 (.ops [s 29 (.mv (t 8)),
  s 30 (.bin .add (t 29) (c (i 1))),
  s 8 (.mv (t 30))]))))))
 (.seq (.ops [s 44 (.mv (t 7)),
  s 6 (.mv (t 44))])
 .ret))))), none, [6], [false, false, true]⟩
def i172 : Comp := ⟨(.seq (.ops [s 4 (.mv (c (i 0)))])
 (.seq (.seq (.ops [s 5 (.mv (t 1)),
  s 6 (.mv (t 0)),
  s 7 (.bin .lss (t 5) (t 6))])
 (.cond (t 7) (.seq (.ops [s 8 (.mv (t 1)),
  s 4 (.mv (t 8))])
 .ret) .skip))
 (.seq (.ops [s 9 (.mv (t 0)),
  s 4 (.mv (t 9))])
 .ret))), none, [4], [true, true]⟩
def i175 : Comp := ⟨(.seq (.ops [s 3 (.box 2 (t 0)),
  s 4 (.box 2 (t 1)),
  s 5 (.box 2 (t 2)),
  s 6 (.mv (c (i 0)))])
 (.seq (.seq (.ops [s 7 (.ldB 3 0 2 true true),
  k 8 35 [(t 7)] .sc,
  s 9 (.not (t 8)),
  s 10 (.mv (t 9)),
  sg [(10, false)] 11 (.ldB 4 0 2 true true),
  kg [(10, false)] 12 35 [(t 11)] .sc,
  sg [(10, false)] 13 (.not (t 12)),
  s 14 (.pick (t 10) (c (.bool true)) (t 13)),
  s 15 (.mv (t 14)),
  sg [(15, false)] 16 (.ldB 5 0 2 true true),
  kg [(15, false)] 17 35 [(t 16)] .sc,
  sg [(15, false)] 18 (.not (t 17)),
  s 19 (.pick (t 15) (c (.bool true)) (t 18))])
 (.cond (t 19) (.seq (.ops [s 6 (.mv (c (i 0)))])
 .ret) .skip))
 (.seq (.ops [s 20 (.ldB 3 0 2 true true),
  s 21 (.ldB 4 0 2 true true),
  s 22 (.ldB 5 0 2 true true),
  k 23 202 [(t 20), (t 21), (t 22)] .sc,
  k 24 201 [(t 23), (c (i 0))] .sc,
  s 6 (.mv (t 24))])
 .ret))), none, [6], [true, true, true]⟩
def i176 : Comp := ⟨(.seq (.ops [s 1 (.box 4 (t 0)),
  s 2 (.alc [(i 0), (i 0), (i 0), (i 0)])])
 (.seq (.seq (.ops [s 3 (.mv (c (i 0))),
  s 4 (.ldB 1 2 2 true true),
  s 5 (.mv (c (i 0))),
  s 6 (.ldB 1 0 2 true true),
  k 7 34 [(t 4), (t 6)] .sc])
 (.cond (t 7) (.seq (.ops [s 8 (.ldB 1 0 4 true true),
  k 9 203 [(t 8)] .sc,
  s 2 (.stB 2 0 4 (t 9) false)])
 .ret) .skip))
 (.seq (.ops [s 10 (.ldB 1 0 4 true true),
  s 2 (.stB 2 0 4 (t 10) false)])
 .ret))), (some ⟨2, 148, 4, true, false⟩), [], [true]⟩
def i177 : Comp := ⟨(.seq (.ops [s 2 (.box 4 (t 0)),
  s 3 (.box 2 (t 1)),
  s 4 (.mv (c (.bool false)))])
 (.seq (.ops [s 5 (.ldB 2 0 4 true true),
  k 6 140 [(t 5)] .sc,
  s 7 (.mv (t 6)),
  sg [(7, true)] 8 (.ldB 3 0 2 true true),
  kg [(7, true)] 9 35 [(t 8)] .sc,
  s 10 (.pick (t 7) (t 9) (c (.bool false))),
  s 11 (.mv (t 10)),
  sg [(11, true)] 12 (.mv (c (i 0))),
  sg [(11, true)] 13 (.ldB 2 0 2 true true),
  sg [(11, true)] 14 (.mv (c (i 0))),
  sg [(11, true)] 15 (.ldB 2 2 2 true true),
  sg [(11, true)] 16 (.ldB 3 0 2 true true),
  kg [(11, true)] 17 175 [(t 13), (t 15), (t 16)] .sc,
  sg [(11, true)] 18 (.bin .eql (t 17) (c (i 0))),
  s 19 (.pick (t 11) (t 18) (c (.bool false))),
  s 20 (.mv (t 19)),
  sg [(20, true)] 21 (.mv (c (i 0))),
  sg [(20, true)] 22 (.ldB 3 0 1 false true),
  sg [(20, true)] 23 (.mv (c (i 0))),
  sg [(20, true)] 24 (.mv (t 23)),
  sg [(20, true)] 25 (.ldB 2 0 1 false true),
  sg [(20, true)] 26 (.mv (c (i 0))),
  sg [(20, true)] 27 (.mv (t 26)),
  sg [(20, true)] 28 (.ldB 2 2 1 false true),
  sg [(20, true)] 29 (.mn (t 25) (t 28)),
  sg [(20, true)] 30 (.mv (c (i 0))),
  sg [(20, true)] 31 (.mv (t 30)),
  sg [(20, true)] 32 (.ldB 2 0 1 false true),
  sg [(20, true)] 33 (.mv (c (i 0))),
  sg [(20, true)] 34 (.mv (t 33)),
  sg [(20, true)] 35 (.ldB 2 2 1 false true),
  sg [(20, true)] 36 (.mx (t 32) (t 35)),
  kg [(20, true)] 37 75 [(t 22), (t 29), (t 36)] .sc,
  s 38 (.pick (t 20) (t 37) (c (.bool false))),
  s 39 (.mv (t 38)),
  sg [(39, true)] 40 (.mv (c (i 0))),
  sg [(39, true)] 41 (.ldB 3 1 1 false true),
  sg [(39, true)] 42 (.mv (c (i 0))),
  sg [(39, true)] 43 (.mv (t 42)),
  sg [(39, true)] 44 (.ldB 2 1 1 false true),
  sg [(39, true)] 45 (.mv (c (i 0))),
  sg [(39, true)] 46 (.mv (t 45)),
  sg [(39, true)] 47 (.ldB 2 3 1 false true),
  sg [(39, true)] 48 (.mn (t 44) (t 47)),
  sg [(39, true)] 49 (.mv (c (i 0))),
  sg [(39, true)] 50 (.mv (t 49)),
  sg [(39, true)] 51 (.ldB 2 1 1 false true),
  sg [(39, true)] 52 (.mv (c (i 0))),
  sg [(39, true)] 53 (.mv (t 52)),
  sg [(39, true)] 54 (.ldB 2 3 1 false true),
  sg [(39, true)] 55 (.mx (t 51) (t 54)),
  kg [(39, true)] 56 75 [(t 41), (t 48), (t 55)] .sc,
  s 57 (.pick (t 39) (t 56) (c (.bool false))),
  s 4 (.mv (t 57))])
 .ret)), none, [4], [true, true]⟩
def i179 : Comp := ⟨(.seq (.ops [s 1 (.box 5 (t 0)),
  s 2 (.mv (c (.lst 4 true [])))])
 (.seq (.seq (.ops [s 3 (.ldB 1 0 5 true false),
  k 4 62 [(t 3)] .sc])
 (.cond (t 4) (.seq (.ops [s 5 (.mv (c (i 0))),
  s 6 (.ldB 1 1 1 false true)])
 (.block 0 (.seq (.ops [s 8 (.bin .eql (t 6) (c (i 2))),
  s 7 (.mv (t 8))])
 (.cond (t 7) (.seq (.ops [s 9 (.mv (c (i 0))),
  s 10 (.ldB 1 4 1 false false),
  k 11 120 [(t 10)] .lin,
  s 2 (.mv (t 11))])
 .ret) (.seq (.ops [s 13 (.bin .eql (t 6) (c (i 3))),
  s 12 (.mv (t 13))])
 (.cond (t 12) (.seq (.ops [s 14 (.mv (c (i 0))),
  s 15 (.ldB 1 4 1 false false),
  k 16 204 [(t 15)] .lin,
  s 2 (.mv (t 16))])
 .ret) .skip)))))) .skip))
 (.seq (.ops [s 17 (.bsl 4 []),
  s 2 (.mv (t 17))])
 .ret))), none, [2], [false]⟩
def i180 : Comp := ⟨(.seq (.ops [s 2 (.box 4 (t 0)),
  s 3 (.box 2 (t 1)),
  s 4 (.mv (c (.bool false)))])
 (.seq (.ops [s 5 (.ldB 2 0 4 true true),
  k 6 205 [(t 5)] .sc,
  s 7 (.mv (t 6)),
  sg [(7, true)] 8 (.mv (c (i 0))),
  sg [(7, true)] 9 (.ldB 3 0 1 false true),
  sg [(7, true)] 10 (.mv (c (i 0))),
  sg [(7, true)] 11 (.mv (t 10)),
  sg [(7, true)] 12 (.ldB 2 0 1 false true),
  sg [(7, true)] 13 (.mv (c (i 0))),
  sg [(7, true)] 14 (.mv (t 13)),
  sg [(7, true)] 15 (.ldB 2 2 1 false true),
  kg [(7, true)] 16 75 [(t 9), (t 12), (t 15)] .sc,
  s 17 (.pick (t 7) (t 16) (c (.bool false))),
  s 18 (.mv (t 17)),
  sg [(18, true)] 19 (.mv (c (i 0))),
  sg [(18, true)] 20 (.ldB 3 1 1 false true),
  sg [(18, true)] 21 (.mv (c (i 0))),
  sg [(18, true)] 22 (.mv (t 21)),
  sg [(18, true)] 23 (.ldB 2 1 1 false true),
  sg [(18, true)] 24 (.mv (c (i 0))),
  sg [(18, true)] 25 (.mv (t 24)),
  sg [(18, true)] 26 (.ldB 2 3 1 false true),
  kg [(18, true)] 27 75 [(t 20), (t 23), (t 26)] .sc,
  s 28 (.pick (t 18) (t 27) (c (.bool false))),
  s 4 (.mv (t 28))])
 .ret)), none, [4], [true, true]⟩
def i181 : Comp := ⟨(.seq (.ops [s 2 (.box 4 (t 0)),
  s 3 (.box 4 (t 1)),
  s 4 (.mv (c (.bool false)))])
 (.seq (.seq (.ops [s 11 (.ldB 2 0 4 true true),
  k 12 140 [(t 11)] .sc,
  s 13 (.not (t 12)),
  s 14 (.mv (t 13)),
  sg [(14, false)] 15 (.ldB 3 0 4 true true),
  kg [(14, false)] 16 205 [(t 15)] .sc,
  sg [(14, false)] 17 (.not (t 16)),
  s 18 (.pick (t 14) (c (.bool true)) (t 17))])
 (.cond (t 18) (.seq (.ops [s 4 (.mv (c (.bool false)))])
 .ret) .skip))
 (.seq (.seq (.ops [s 20 (.mv (c (i 0))),
  s 21 (.ldB 2 0 2 true true),
  s 22 (.mv (c (i 0))),
  s 23 (.ldB 2 2 2 true true),
  s 24 (.bsl 2 [(t 21), (t 23)]),
  k 25 206 [(t 24)] .sc,
  s 19 (.mv (t 25)),
  s 26 (.ext 19 0 true),
  s 27 (.ext 19 1 true),
  s 5 (.alc [(i 0), (i 0), (i 0), (i 0)]),
  s 5 (.stB 5 0 4 (t 26) false),
  s 6 (.mv (t 27))])
 (.seq (.ops [s 28 (.ldB 5 0 4 true true),
  s 29 (.ldB 3 0 4 true true),
  k 30 207 [(t 28), (t 29)] .sc,
  s 31 (.not (t 30))])
 (.cond (t 31) (.seq (.ops [s 4 (.mv (c (.bool false)))])
 .ret) .skip)))
 (.seq (.ops [s 7 (.mv (c (i 0))),
  s 8 (.mv (c (i 0)))])
 (.seq (.seq (.ops [s 32 (.mv (c (i 0))),
  s 33 (.ldB 3 0 2 true true),
  s 34 (.mv (c (i 0))),
  s 35 (.ldB 3 2 2 true true),
  s 36 (.mv (c (i 0))),
  s 37 (.mv (t 36)),
  s 38 (.ldB 3 0 1 false true),
  s 39 (.mv (c (i 0))),
  s 40 (.mv (t 39)),
  s 41 (.ldB 3 3 1 false true),
  s 42 (.bld [(i 0), (i 0)] [(0, 1, (t 38)), (1, 1, (t 41))]),
  s 43 (.mv (c (i 0))),
  s 44 (.mv (t 43)),
  s 45 (.ldB 3 2 1 false true),
  s 46 (.mv (c (i 0))),
  s 47 (.mv (t 46)),
  s 48 (.ldB 3 1 1 false true),
  s 49 (.bld [(i 0), (i 0)] [(0, 1, (t 45)), (1, 1, (t 48))]),
  s 50 (.bsl 2 [(t 33), (t 35), (t 42), (t 49)]),
  s 51 (.len false (t 50)),
  s 52 (.mv (c (i 0)))])
 (.block 0 (.loop (.seq (.ops [s 53 (.bin .lss (t 52) (t 51))])
 (.seq (.cond (t 53) .skip (.exit 0))
 (.seq (.block 1 (.seq (.ops [s 54 (.idx (t 50) (t 52) 2),
  s 55 (.ldE 50 54 0 2 true true 2),
  s 10 (.alc [(i 0), (i 0)]),
  s 10 (.stB 10 0 2 (t 55) false)])
 (.seq (.ops [s 56 (.mv (c (i 0))),
  s 57 (.ldB 2 0 2 true true),
  s 58 (.mv (c (i 0))),
  s 59 (.ldB 2 2 2 true true),
  s 60 (.ldB 10 0 2 true true),
  k 61 175 [(t 57), (t 59), (t 60)] .sc])
 (.block 2 (.seq (.ops [s 63 (.bin .eql (t 61) (c (i 1))),
  s 62 (.mv (t 63))])
 (.cond (t 62) (.ops [s 64 (.mv (t 7)),
  s 65 (.bin .add (t 64) (c (i 1))),
  s 7 (.mv (t 65))]) (.seq (.ops [s 67 (.bin .eql (t 61) (c (i (-1)))),
  s 66 (.mv (t 67))])
 (.cond (t 66) (.ops [s 68 (.mv (t 8)),
  s 69 (.bin .add (t 68) (c (i 1))),
  s 8 (.mv (t 69))]) .skip))))))))
 (.ops [s 70 (.bin .add (t 52) (c (i 1))),
  s 52 (.mv (t 70))])))))))
 (.seq (.ops [s 71 (.mv (t 7)),
  s 72 (.bin .lss (t 71) (c (i 4))),
  s 73 (.mv (t 72)),
  sg [(73, true)] 74 (.mv (t 8)),
  sg [(73, true)] 75 (.bin .lss (t 74) (c (i 4))),
  s 76 (.pick (t 73) (t 75) (c (.bool false))),
  s 4 (.mv (t 76))])
 .ret)))))), none, [4], [true, true]⟩
def i182 : Comp := ⟨(.seq (.ops [s 2 (.box 4 (t 0)),
  s 3 (.box 4 (t 1)),
  s 4 (.mv (c (i 0)))])
 (.seq (.seq (.ops [s 5 (.ldB 2 0 4 true true),
  k 6 185 [(t 5)] .sc,
  s 7 (.not (t 6)),
  s 8 (.mv (t 7)),
  sg [(8, false)] 9 (.ldB 3 0 4 true true),
  kg [(8, false)] 10 185 [(t 9)] .sc,
  sg [(8, false)] 11 (.not (t 10)),
  s 12 (.pick (t 8) (c (.bool true)) (t 11))])
 (.cond (t 12) (.seq (.ops [s 4 (.mv (c (i 0)))])
 .ret) .skip))
 (.seq (.seq (.ops [s 13 (.mv (c (i 0))),
  s 14 (.mv (t 13)),
  s 15 (.ldB 2 0 1 false true),
  s 16 (.mv (c (i 0))),
  s 17 (.mv (t 16)),
  s 18 (.ldB 2 2 1 false true),
  k 19 186 [(t 15), (t 18)] .sc,
  s 20 (.mv (c (i 0))),
  s 21 (.mv (t 20)),
  s 22 (.ldB 3 0 1 false true),
  s 23 (.mv (c (i 0))),
  s 24 (.mv (t 23)),
  s 25 (.ldB 3 2 1 false true),
  k 26 172 [(t 22), (t 25)] .sc,
  s 27 (.bin .lss (t 19) (t 26)),
  s 28 (.mv (t 27)),
  sg [(28, false)] 29 (.mv (c (i 0))),
  sg [(28, false)] 30 (.mv (t 29)),
  sg [(28, false)] 31 (.ldB 3 0 1 false true),
  sg [(28, false)] 32 (.mv (c (i 0))),
  sg [(28, false)] 33 (.mv (t 32)),
  sg [(28, false)] 34 (.ldB 3 2 1 false true),
  kg [(28, false)] 35 186 [(t 31), (t 34)] .sc,
  sg [(28, false)] 36 (.mv (c (i 0))),
  sg [(28, false)] 37 (.mv (t 36)),
  sg [(28, false)] 38 (.ldB 2 0 1 false true),
  sg [(28, false)] 39 (.mv (c (i 0))),
  sg [(28, false)] 40 (.mv (t 39)),
  sg [(28, false)] 41 (.ldB 2 2 1 false true),
  kg [(28, false)] 42 172 [(t 38), (t 41)] .sc,
  sg [(28, false)] 43 (.bin .lss (t 35) (t 42)),
  s 44 (.pick (t 28) (c (.bool true)) (t 43)),
  s 45 (.mv (t 44)),
  sg [(45, false)] 46 (.mv (c (i 0))),
  sg [(45, false)] 47 (.mv (t 46)),
  sg [(45, false)] 48 (.ldB 2 1 1 false true),
  sg [(45, false)] 49 (.mv (c (i 0))),
  sg [(45, false)] 50 (.mv (t 49)),
  sg [(45, false)] 51 (.ldB 2 3 1 false true),
  kg [(45, false)] 52 186 [(t 48), (t 51)] .sc,
  sg [(45, false)] 53 (.mv (c (i 0))),
  sg [(45, false)] 54 (.mv (t 53)),
  sg [(45, false)] 55 (.ldB 3 1 1 false true),
  sg [(45, false)] 56 (.mv (c (i 0))),
  sg [(45, false)] 57 (.mv (t 56)),
  sg [(45, false)] 58 (.ldB 3 3 1 false true),
  kg [(45, false)] 59 172 [(t 55), (t 58)] .sc,
  sg [(45, false)] 60 (.bin .lss (t 52) (t 59)),
  s 61 (.pick (t 45) (c (.bool true)) (t 60)),
  s 62 (.mv (t 61)),
  sg [(62, false)] 63 (.mv (c (i 0))),
  sg [(62, false)] 64 (.mv (t 63)),
  sg [(62, false)] 65 (.ldB 3 1 1 false true),
  sg [(62, false)] 66 (.mv (c (i 0))),
  sg [(62, false)] 67 (.mv (t 66)),
  sg [(62, false)] 68 (.ldB 3 3 1 false true),
  kg [(62, false)] 69 186 [(t 65), (t 68)] .sc,
  sg [(62, false)] 70 (.mv (c (i 0))),
  sg [(62, false)] 71 (.mv (t 70)),
  sg [(62, false)] 72 (.ldB 2 1 1 false true),
  sg [(62, false)] 73 (.mv (c (i 0))),
  sg [(62, false)] 74 (.mv (t 73)),
  sg [(62, false)] 75 (.ldB 2 3 1 false true),
  kg [(62, false)] 76 172 [(t 72), (t 75)] .sc,
  sg [(62, false)] 77 (.bin .lss (t 69) (t 76)),
  s 78 (.pick (t 62) (c (.bool true)) (t 77))])
 (.cond (t 78) (.seq (.ops [s 4 (.mv (c (i 0)))])
 .ret) .skip))
 (.seq (.seq (.ops [s 79 (.ldB 2 0 4 true true),
  s 80 (.ldB 3 0 4 true true),
  k 81 208 [(t 79), (t 80)] .sc])
 (.block 0 (.seq (.ops [s 83 (.bin .eql (t 81) (c (i 0))),
  s 82 (.mv (t 83))])
 (.cond (t 82) (.seq (.seq (.ops [s 84 (.mv (c (i 0))),
  s 85 (.ldB 2 0 2 true true),
  s 86 (.mv (c (i 0))),
  s 87 (.ldB 2 2 2 true true),
  s 88 (.mv (c (i 0))),
  s 89 (.ldB 3 0 2 true true),
  k 90 209 [(t 85), (t 87), (t 89)] .sc,
  s 91 (.mv (c (i 0))),
  s 92 (.ldB 2 0 2 true true),
  s 93 (.mv (c (i 0))),
  s 94 (.ldB 2 2 2 true true),
  s 95 (.mv (c (i 0))),
  s 96 (.ldB 3 2 2 true true),
  k 97 209 [(t 92), (t 94), (t 96)] .sc,
  s 98 (.bin .mul (t 90) (t 97)),
  s 99 (.bin .lss (t 98) (c (i 0))),
  s 100 (.mv (t 99)),
  sg [(100, true)] 101 (.mv (c (i 0))),
  sg [(100, true)] 102 (.ldB 3 0 2 true true),
  sg [(100, true)] 103 (.mv (c (i 0))),
  sg [(100, true)] 104 (.ldB 3 2 2 true true),
  sg [(100, true)] 105 (.mv (c (i 0))),
  sg [(100, true)] 106 (.ldB 2 0 2 true true),
  kg [(100, true)] 107 209 [(t 102), (t 104), (t 106)] .sc,
  sg [(100, true)] 108 (.mv (c (i 0))),
  sg [(100, true)] 109 (.ldB 3 0 2 true true),
  sg [(100, true)] 110 (.mv (c (i 0))),
  sg [(100, true)] 111 (.ldB 3 2 2 true true),
  sg [(100, true)] 112 (.mv (c (i 0))),
  sg [(100, true)] 113 (.ldB 2 2 2 true true),
  kg [(100, true)] 114 209 [(t 109), (t 111), (t 113)] .sc,
  sg [(100, true)] 115 (.bin .mul (t 107) (t 114)),
  sg [(100, true)] 116 (.bin .lss (t 115) (c (i 0))),
  s 117 (.pick (t 100) (t 116) (c (.bool false)))])
 (.cond (t 117) (.seq (.ops [s 4 (.mv (c (i 2)))])
 .ret) .skip))
 (.seq (.ops [s 4 (.mv (c (i 0)))])
 .ret)) (.seq (.ops [s 119 (.bin .eql (t 81) (c (i 1))),
  s 118 (.mv (t 119))])
 (.cond (t 118) (.seq (.ops [s 4 (.mv (c (i 1)))])
 .ret) .skip))))))
 (.seq (.ops [s 4 (.mv (c (i 3)))])
 .ret))))), none, [4], [true, true]⟩
def i183 : Comp := ⟨(.seq (.ops [s 2 (.mv (c (.bool false)))])
 (.seq (.seq (.ops [s 3 (.mv (c (i 0)))])
 (.block 0 (.loop (.seq (.seq (.ops [s 4 (.mv (t 3)),
  s 5 (.mv (t 0)),
  s 6 (.len false (t 5)),
  s 7 (.bin .lss (t 4) (t 6))])
 (.cond (t 7) .skip (.exit 0)))
 (.seq (.block 1 (.seq (.ops [s 10 (.mv (t 0)),
  s 11 (.mv (t 3)),
  s 12 (.idx (t 10) (t 11) 2),
  s 13 (.ldE 10 12 0 2 true true 2),
  k 14 70 [(t 13)] .sc,
  s 15 (.not (t 14)),
  s 16 (.mv (t 15)),
  sg [(16, false)] 17 (.mv (t 3)),
  sg [(16, false)] 18 (.bin .gtr (t 17) (c (i 0))),
  sg [(16, false)] 19 (.mv (t 18)),
  sg [(19, true), (16, false)] 20 (.mv (t 0)),
  sg [(19, true), (16, false)] 21 (.mv (t 3)),
  sg [(19, true), (16, false)] 22 (.bin .sub (t 21) (c (i 1))),
  sg [(19, true), (16, false)] 23 (.idx (t 20) (t 22) 2),
  sg [(19, true), (16, false)] 24 (.ldE 20 23 0 2 true true 2),
  sg [(19, true), (16, false)] 25 (.mv (t 0)),
  sg [(19, true), (16, false)] 26 (.mv (t 3)),
  sg [(19, true), (16, false)] 27 (.idx (t 25) (t 26) 2),
  sg [(19, true), (16, false)] 28 (.ldE 25 27 0 2 true true 2),
  sg [(19, true), (16, false)] 29 (.eqa false [0, 0] (t 24) (t 28)),
  sg [(16, false)] 30 (.pick (t 19) (t 29) (c (.bool false))),
  s 31 (.pick (t 16) (c (.bool true)) (t 30))])
 (.cond (t 31) (.seq (.ops [s 2 (.mv (c (.bool false)))])
 .ret) .skip)))
 (.ops [s 8 (.mv (t 3)),
  s 9 (.bin .add (t 8) (c (i 1))),
  s 3 (.mv (t 9))]))))))
 (.seq (.ops [s 32 (.mv (t 0)),
  s 33 (.len false (t 32)),
  k 34 116 [(t 33), (c (i 2)), (c (i 10))] .sc,
  s 2 (.mv (t 34))])
 .ret))), none, [2], [false]⟩
def i184 : Comp := ⟨(.seq (.ops [s 2 (.mv (c (.lst 4 true [])))])
 (.seq (.ops [s 5 (.bsl 4 []),
  s 3 (.mv (t 5))])
 (.seq (.seq (.ops [s 4 (.mv (c (i 0)))])
 (.block 0 (.loop (.seq (.seq (.ops [s 6 (.mv (t 4)),
  s 7 (.mv (t 0)),
  s 8 (.len false (t 7)),
  s 9 (.bin .lss (t 6) (t 8))])
 (.cond (t 9) .skip (.exit 0)))
 (.seq (.block 1 (.ops [s 12 (.mv (t 3)),
  s 13 (.mv (t 0)),
  s 14 (.mv (t 4)),
  s 15 (.idx (t 13) (t 14) 2),
  s 16 (.ldE 13 15 0 2 true true 2),
  s 17 (.mv (t 0)),
  s 18 (.mv (t 4)),
  s 19 (.bin .add (t 18) (c (i 1))),
  s 20 (.mv (t 0)),
  s 21 (.len false (t 20)),
  s 22 (.bin .rem (t 19) (t 21)),
  s 23 (.idx (t 17) (t 22) 2),
  s 24 (.ldE 17 23 0 2 true true 2),
  s 25 (.bld [(i 0), (i 0), (i 0), (i 0)] [(0, 2, (t 16)), (2, 2, (t 24))]),
  s 26 (.bsl 4 [(t 25)]),
  s 27 (.app (t 12) (t 26) 4 32),
  s 3 (.mv (t 27))]))
 (.ops [s 10 (.mv (t 4)),
  s 11 (.bin .add (t 10) (c (i 1))),
  s 4 (.mv (t 11))]))))))
 (.seq (.ops [s 28 (.mv (t 3)),
  s 2 (.mv (t 28))])
 .ret)))), none, [2], [false]⟩
def i185 : Comp := ⟨(.seq (.ops [s 1 (.box 4 (t 0)),
  s 2 (.mv (c (.bool false)))])
 (.seq (.ops [s 3 (.mv (c (i 0))),
  s 4 (.ldB 1 0 2 true true),
  k 5 70 [(t 4)] .sc,
  s 6 (.mv (t 5)),
  sg [(6, true)] 7 (.mv (c (i 0))),
  sg [(6, true)] 8 (.ldB 1 2 2 true true),
  kg [(6, true)] 9 70 [(t 8)] .sc,
  s 10 (.pick (t 6) (t 9) (c (.bool false))),
  s 11 (.mv (t 10)),
  sg [(11, true)] 12 (.mv (c (i 0))),
  sg [(11, true)] 13 (.ldB 1 0 2 true true),
  sg [(11, true)] 14 (.mv (c (i 0))),
  sg [(11, true)] 15 (.ldB 1 2 2 true true),
  sg [(11, true)] 16 (.eqa true [0, 0] (t 13) (t 15)),
  s 17 (.pick (t 11) (t 16) (c (.bool false))),
  s 2 (.mv (t 17))])
 .ret)), none, [2], [true]⟩
def i186 : Comp := ⟨(.seq (.ops [s 4 (.mv (c (i 0)))])
 (.seq (.seq (.ops [s 5 (.mv (t 1)),
  s 6 (.mv (t 0)),
  s 7 (.bin .gtr (t 5) (t 6))])
 (.cond (t 7) (.seq (.ops [s 8 (.mv (t 1)),
  s 4 (.mv (t 8))])
 .ret) .skip))
 (.seq (.ops [s 9 (.mv (t 0)),
  s 4 (.mv (t 9))])
 .ret))), none, [4], [true, true]⟩
def i192 : Comp := ⟨(.seq (.ops [s 4 (.mv (c (.bool false)))])
 (.seq (.seq (.ops [s 6 (.mv (t 0)),
  s 7 (.len false (t 6)),
  s 8 (.mv (t 1)),
  s 9 (.len false (t 8)),
  s 10 (.bin .neq (t 7) (t 9))])
 (.cond (t 10) (.seq (.ops [s 4 (.mv (c (.bool false)))])
 .ret) .skip))
 (.seq (.seq (.ops [s 5 (.mv (c (i 0)))])
 (.block 0 (.loop (.seq (.seq (.ops [s 11 (.mv (t 5)),
  s 12 (.mv (t 0)),
  s 13 (.len false (t 12)),
  s 14 (.bin .lss (t 11) (t 13))])
 (.cond (t 14) .skip (.exit 0)))
 (.seq (.block 1 (.seq (.ops [s 17 (.mv (t 0)),
  s 18 (.mv (t 5)),
  s 19 (.idx (t 17) (t 18) 2),
  s 20 (.ldE 17 19 0 2 true true 2),
  s 21 (.mv (t 1)),
  s 22 (.mv (t 5)),
  s 23 (.idx (t 21) (t 22) 2),
  s 24 (.ldE 21 23 0 2 true true 2),
  s 25 (.eqa true [0, 0] (t 20) (t 24))])
 (.cond (t 25) (.seq (.ops [s 4 (.mv (c (.bool false)))])
 .ret) .skip)))
 (.ops [s 15 (.mv (t 5)),
  s 16 (.bin .add (t 15) (c (i 1))),
  s 5 (.mv (t 16))]))))))
 (.seq (.ops [s 4 (.mv (c (.bool true)))])
 .ret)))), none, [4], [false, false]⟩
def i193 : Comp := ⟨(.seq (.ops [s 2 (.mv (c (.lst 4 true [])))])
 (.seq (.seq (.ops [s 3 (.mv (t 0)),
  k 4 146 [(t 3)] .sc,
  s 5 (.not (t 4))])
 (.cond (t 5) (.seq (.ops [s 6 (.bsl 4 []),
  s 2 (.mv (t 6))])
 .ret) .skip))
 (.seq (.ops [s 7 (.mv (t 0)),
  k 8 184 [(t 7)] .lin,
  s 2 (.mv (t 8))])
 .ret))), none, [2], [false]⟩
def i194 : Comp := ⟨(.seq (.ops [s 2 (.box 4 (t 0)),
  s 3 (.box 2 (t 1)),
  s 4 (.mv (c (.bool false)))])
 (.seq (.ops [s 5 (.ldB 2 0 4 true true),
  k 6 211 [(t 5)] .sc,
  s 7 (.mv (t 6)),
  sg [(7, true)] 8 (.mv (c (i 0))),
  sg [(7, true)] 9 (.ldB 3 0 1 false true),
  sg [(7, true)] 10 (.mv (c (i 0))),
  sg [(7, true)] 11 (.mv (t 10)),
  sg [(7, true)] 12 (.ldB 2 0 1 false true),
  sg [(7, true)] 13 (.mv (c (i 0))),
  sg [(7, true)] 14 (.mv (t 13)),
  sg [(7, true)] 15 (.ldB 2 2 1 false true),
  kg [(7, true)] 16 116 [(t 9), (t 12), (t 15)] .sc,
  s 17 (.pick (t 7) (t 16) (c (.bool false))),
  s 18 (.mv (t 17)),
  sg [(18, true)] 19 (.mv (c (i 0))),
  sg [(18, true)] 20 (.ldB 3 1 1 false true),
  sg [(18, true)] 21 (.mv (c (i 0))),
  sg [(18, true)] 22 (.mv (t 21)),
  sg [(18, true)] 23 (.ldB 2 1 1 false true),
  sg [(18, true)] 24 (.mv (c (i 0))),
  sg [(18, true)] 25 (.mv (t 24)),
  sg [(18, true)] 26 (.ldB 2 3 1 false true),
  kg [(18, true)] 27 116 [(t 20), (t 23), (t 26)] .sc,
  s 28 (.pick (t 18) (t 27) (c (.bool false))),
  s 4 (.mv (t 28))])
 .ret)), none, [4], [true, true]⟩
def i195 : Comp := ⟨(.seq (.ops [s 2 (.box 4 (t 0)),
  s 3 (.box 4 (t 1)),
  s 4 (.mv (c (.bool false)))])
 (.seq (.ops [s 12 (.mv (c (i 0))),
  s 13 (.ldB 2 0 2 true true),
  s 14 (.mv (c (i 0))),
  s 15 (.ldB 2 2 2 true true),
  s 16 (.bsl 2 [(t 13), (t 15)]),
  k 17 212 [(t 16)] .sc,
  s 11 (.mv (t 17)),
  s 18 (.ext 11 0 true),
  s 19 (.ext 11 1 true),
  s 5 (.alc [(i 0), (i 0), (i 0), (i 0)]),
  s 5 (.stB 5 0 4 (t 18) false),
  s 6 (.mv (t 19))])
 (.seq (.seq (.ops [s 20 (.ldB 2 0 4 true true),
  k 21 185 [(t 20)] .sc,
  s 22 (.not (t 21)),
  s 23 (.mv (t 22)),
  sg [(23, false)] 24 (.ldB 5 0 4 true true),
  sg [(23, false)] 25 (.ldB 3 0 4 true true),
  kg [(23, false)] 26 213 [(t 24), (t 25)] .sc,
  sg [(23, false)] 27 (.not (t 26)),
  s 28 (.pick (t 23) (c (.bool true)) (t 27))])
 (.cond (t 28) (.seq (.ops [s 4 (.mv (c (.bool false)))])
 .ret) .skip))
 (.seq (.ops [s 29 (.mv (c (i 0))),
  s 30 (.ldB 3 0 2 true true),
  s 31 (.mv (c (i 0))),
  s 32 (.mv (t 31)),
  s 33 (.ldB 3 0 1 false true),
  s 34 (.mv (c (i 0))),
  s 35 (.mv (t 34)),
  s 36 (.ldB 3 3 1 false true),
  s 37 (.bld [(i 0), (i 0)] [(0, 1, (t 33)), (1, 1, (t 36))]),
  s 38 (.mv (c (i 0))),
  s 39 (.ldB 3 2 2 true true),
  s 40 (.mv (c (i 0))),
  s 41 (.mv (t 40)),
  s 42 (.ldB 3 2 1 false true),
  s 43 (.mv (c (i 0))),
  s 44 (.mv (t 43)),
  s 45 (.ldB 3 1 1 false true),
  s 46 (.bld [(i 0), (i 0)] [(0, 1, (t 42)), (1, 1, (t 45))]),
  s 47 (.bsl 2 [(t 30), (t 37), (t 39), (t 46)]),
  s 7 (.mv (t 47))])
 (.seq (.ops [s 8 (.mv (c (i 0)))])
 (.seq (.ops [s 9 (.mv (c (i 0)))])
 (.seq (.seq (.ops [s 10 (.mv (c (i 0)))])
 (.block 0 (.loop (.seq (.seq (.ops [s 48 (.mv (t 10)),
  s 49 (.bin .lss (t 48) (c (i 4)))])
 (.cond (t 49) .skip (.exit 0)))
 (.seq (.block 1 (.seq (.ops [s 52 (.mv (c (i 0))),
  s 53 (.ldB 2 0 2 true true),
  s 54 (.mv (c (i 0))),
  s 55 (.ldB 2 2 2 true true),
  s 56 (.mv (t 7)),
  s 57 (.mv (t 10)),
  s 58 (.idx (t 56) (t 57) 2),
  s 59 (.ldE 56 58 0 2 true true 2),
  k 60 209 [(t 53), (t 55), (t 59)] .sc])
 (.block 2 (.seq (.ops [s 62 (.bin .eql (t 60) (c (i 1))),
  s 61 (.mv (t 62))])
 (.cond (t 61) (.ops [s 63 (.mv (t 8)),
  s 64 (.bin .add (t 63) (c (i 1))),
  s 8 (.mv (t 64))]) (.seq (.ops [s 66 (.bin .eql (t 60) (c (i (-1)))),
  s 65 (.mv (t 66))])
 (.cond (t 65) (.ops [s 67 (.mv (t 9)),
  s 68 (.bin .add (t 67) (c (i 1))),
  s 9 (.mv (t 68))]) .skip)))))))
 (.ops [s 50 (.mv (t 10)),
  s 51 (.bin .add (t 50) (c (i 1))),
  s 10 (.mv (t 51))]))))))
 (.seq (.ops [s 69 (.mv (t 8)),
  s 70 (.bin .lss (t 69) (c (i 4))),
  s 71 (.mv (t 70)),
  sg [(71, true)] 72 (.mv (t 9)),
  sg [(71, true)] 73 (.bin .lss (t 72) (c (i 4))),
  s 74 (.pick (t 71) (t 73) (c (.bool false))),
  s 4 (.mv (t 74))])
 .ret)))))))), none, [4], [true, true]⟩
def i199 : Comp := ⟨(.seq (.ops [s 2 (.mv (c (.bool false)))])
 (.seq (.ops [s 3 (.mv (t 0)),
  s 4 (.mv (t 0)),
  s 5 (.bin .neq (t 3) (t 4)),
  s 2 (.mv (t 5))])
 .ret)), none, [2], [true]⟩
def i201 : Comp := ⟨(.seq (.ops [s 4 (.mv (c (i 0)))])
 (.seq (.ops [s 7 (.mv (t 0)),
  k 8 199 [(t 7)] .sc,
  s 5 (.mv (t 8))])
 (.seq (.ops [s 9 (.mv (t 1)),
  k 10 199 [(t 9)] .sc,
  s 6 (.mv (t 10))])
 (.seq (.seq (.ops [s 11 (.mv (t 5))])
 (.cond (t 11) (.seq (.seq (.ops [s 12 (.mv (t 6))])
 (.cond (t 12) (.seq (.ops [s 4 (.mv (c (i 0)))])
 .ret) .skip))
 (.seq (.ops [s 4 (.mv (c (i (-1))))])
 .ret)) .skip))
 (.seq (.seq (.ops [s 13 (.mv (t 6))])
 (.cond (t 13) (.seq (.ops [s 4 (.mv (c (i 1)))])
 .ret) .skip))
 (.seq (.seq (.ops [s 14 (.mv (t 0)),
  s 15 (.mv (t 1)),
  s 16 (.bin .lss (t 14) (t 15))])
 (.cond (t 16) (.seq (.ops [s 4 (.mv (c (i (-1))))])
 .ret) .skip))
 (.seq (.seq (.ops [s 17 (.mv (t 0)),
  s 18 (.mv (t 1)),
  s 19 (.bin .gtr (t 17) (t 18))])
 (.cond (t 19) (.seq (.ops [s 4 (.mv (c (i 1)))])
 .ret) .skip))
 (.seq (.ops [s 4 (.mv (c (i 0)))])
 .ret)))))))), none, [4], [true, true]⟩
def i202 : Comp := ⟨(.seq (.ops [s 3 (.box 2 (t 0)),
  s 4 (.box 2 (t 1)),
  s 5 (.box 2 (t 2)),
  s 6 (.mv (c (i 0)))])
 (.seq (.ops [s 7 (.mv (c (i 0))),
  s 8 (.ldB 4 0 1 false true),
  s 9 (.mv (c (i 0))),
  s 10 (.ldB 3 0 1 false true),
  s 11 (.bin .sub (t 8) (t 10)),
  s 12 (.mv (c (i 0))),
  s 13 (.ldB 5 1 1 false true),
  s 14 (.mv (c (i 0))),
  s 15 (.ldB 3 1 1 false true),
  s 16 (.bin .sub (t 13) (t 15)),
  s 17 (.bin .mul (t 11) (t 16)),
  s 18 (.mv (c (i 0))),
  s 19 (.ldB 4 1 1 false true),
  s 20 (.mv (c (i 0))),
  s 21 (.ldB 3 1 1 false true),
  s 22 (.bin .sub (t 19) (t 21)),
  s 23 (.mv (c (i 0))),
  s 24 (.ldB 5 0 1 false true),
  s 25 (.mv (c (i 0))),
  s 26 (.ldB 3 0 1 false true),
  s 27 (.bin .sub (t 24) (t 26)),
  s 28 (.bin .mul (t 22) (t 27)),
  s 29 (.bin .sub (t 17) (t 28)),
  s 6 (.mv (t 29))])
 .ret)), none, [6], [true, true, true]⟩
def i203 : Comp := ⟨(.seq (.ops [s 1 (.box 4 (t 0)),
  s 2 (.alc [(i 0), (i 0), (i 0), (i 0)])])
 (.seq (.ops [s 3 (.mv (c (i 0))),
  s 4 (.ldB 1 2 2 true true),
  s 5 (.mv (c (i 0))),
  s 6 (.ldB 1 0 2 true true),
  s 7 (.bld [(i 0), (i 0), (i 0), (i 0)] [(0, 2, (t 4)), (2, 2, (t 6))]),
  s 2 (.stB 2 0 4 (t 7) false)])
 .ret)), (some ⟨2, 148, 4, true, false⟩), [], [true]⟩
def i204 : Comp := ⟨(.seq (.ops [s 2 (.mv (c (.lst 4 true [])))])
 (.seq (.seq (.ops [s 3 (.mv (t 0)),
  k 4 107 [(t 3)] .sc,
  s 5 (.not (t 4))])
 (.cond (t 5) (.seq (.ops [s 6 (.bsl 4 []),
  s 2 (.mv (t 6))])
 .ret) .skip))
 (.seq (.ops [s 7 (.mv (t 0)),
  k 8 139 [(t 7)] .lin,
  s 2 (.mv (t 8))])
 .ret))), none, [2], [false]⟩
def i205 : Comp := ⟨(.seq (.ops [s 1 (.box 4 (t 0)),
  s 2 (.mv (c (.bool false)))])
 (.seq (.ops [s 3 (.mv (c (i 0))),
  s 4 (.ldB 1 0 2 true true),
  k 5 35 [(t 4)] .sc,
  s 6 (.mv (t 5)),
  sg [(6, true)] 7 (.mv (c (i 0))),
  sg [(6, true)] 8 (.ldB 1 2 2 true true),
  kg [(6, true)] 9 35 [(t 8)] .sc,
  s 10 (.pick (t 6) (t 9) (c (.bool false))),
  s 11 (.mv (t 10)),
  sg [(11, true)] 12 (.mv (c (i 0))),
  sg [(11, true)] 13 (.mv (t 12)),
  sg [(11, true)] 14 (.ldB 1 0 1 false true),
  sg [(11, true)] 15 (.mv (c (i 0))),
  sg [(11, true)] 16 (.mv (t 15)),
  sg [(11, true)] 17 (.ldB 1 2 1 false true),
  sg [(11, true)] 18 (.bin .leq (t 14) (t 17)),
  s 19 (.pick (t 11) (t 18) (c (.bool false))),
  s 20 (.mv (t 19)),
  sg [(20, true)] 21 (.mv (c (i 0))),
  sg [(20, true)] 22 (.mv (t 21)),
  sg [(20, true)] 23 (.ldB 1 1 1 false true),
  sg [(20, true)] 24 (.mv (c (i 0))),
  sg [(20, true)] 25 (.mv (t 24)),
  sg [(20, true)] 26 (.ldB 1 3 1 false true),
  sg [(20, true)] 27 (.bin .leq (t 23) (t 26)),
  s 28 (.pick (t 20) (t 27) (c (.bool false))),
  s 2 (.mv (t 28))])
 .ret)), none, [2], [true]⟩
def i206 : Comp := ⟨(.seq (.ops [s 2 (.alc [(i 0), (i 0), (i 0), (i 0)]),
  s 3 (.mv (c (.bool false)))])
 (.seq (.seq (.ops [s 7 (.mv (t 0)),
  s 8 (.len false (t 7)),
  s 9 (.bin .eql (t 8) (c (i 0)))])
 (.cond (t 9) (.seq (.ops [s 10 (.bld [(i 0), (i 0), (i 0), (i 0)] []),
  s 2 (.stB 2 0 4 (t 10) false),
  s 3 (.mv (c (.bool false)))])
 .ret) .skip))
 (.seq (.ops [s 11 (.mv (t 0)),
  s 12 (.idx (t 11) (c (i 0)) 2),
  s 13 (.ldE 11 12 0 2 true true 2),
  s 14 (.mv (t 0)),
  s 15 (.idx (t 14) (c (i 0)) 2),
  s 16 (.ldE 14 15 0 2 true true 2),
  s 17 (.bld [(i 0), (i 0), (i 0), (i 0)] [(0, 2, (t 13)), (2, 2, (t 16))]),
  s 4 (.alc [(i 0), (i 0), (i 0), (i 0)]),
  s 4 (.stB 4 0 4 (t 17) false)])
 (.seq (.seq (.ops [s 18 (.mv (t 0)),
  s 19 (.len false (t 18)),
  s 20 (.mv (c (i 0)))])
 (.block 0 (.loop (.seq (.ops [s 21 (.bin .lss (t 20) (t 19))])
 (.seq (.cond (t 21) .skip (.exit 0))
 (.seq (.block 1 (.seq (.ops [s 22 (.idx (t 18) (t 20) 2),
  s 23 (.ldE 18 22 0 2 true true 2),
  s 6 (.alc [(i 0), (i 0)]),
  s 6 (.stB 6 0 2 (t 23) false)])
 (.seq (.seq (.ops [s 24 (.ldB 6 0 2 true true),
  k 25 35 [(t 24)] .sc,
  s 26 (.not (t 25))])
 (.cond (t 26) (.seq (.ops [s 27 (.bld [(i 0), (i 0), (i 0), (i 0)] []),
  s 2 (.stB 2 0 4 (t 27) false),
  s 3 (.mv (c (.bool false)))])
 .ret) .skip))
 (.ops [s 28 (.mv (c (i 0))),
  s 29 (.mv (t 28)),
  s 30 (.ldB 4 0 1 false true),
  s 31 (.mv (c (i 0))),
  s 32 (.ldB 6 0 1 false true),
  s 33 (.mn (t 30) (t 32)),
  s 34 (.mv (c (i 0))),
  s 35 (.mv (t 34)),
  s 36 (.ldB 4 1 1 false true),
  s 37 (.mv (c (i 0))),
  s 38 (.ldB 6 1 1 false true),
  s 39 (.mn (t 36) (t 38)),
  s 40 (.bld [(i 0), (i 0)] [(0, 1, (t 33)), (1, 1, (t 39))]),
  s 41 (.mv (c (i 0))),
  s 42 (.mv (t 41)),
  s 43 (.ldB 4 2 1 false true),
  s 44 (.mv (c (i 0))),
  s 45 (.ldB 6 0 1 false true),
  s 46 (.mx (t 43) (t 45)),
  s 47 (.mv (c (i 0))),
  s 48 (.mv (t 47)),
  s 49 (.ldB 4 3 1 false true),
  s 50 (.mv (c (i 0))),
  s 51 (.ldB 6 1 1 false true),
  s 52 (.mx (t 49) (t 51)),
  s 53 (.bld [(i 0), (i 0)] [(0, 1, (t 46)), (1, 1, (t 52))]),
  s 54 (.mv (c (i 0))),
  s 4 (.stB 4 0 2 (t 40) false),
  s 55 (.mv (c (i 0))),
  s 4 (.stB 4 2 2 (t 53) false)]))))
 (.ops [s 56 (.bin .add (t 20) (c (i 1))),
  s 20 (.mv (t 56))])))))))
 (.seq (.ops [s 57 (.ldB 4 0 4 true true),
  s 2 (.stB 2 0 4 (t 57) false),
  s 3 (.mv (c (.bool true)))])
 .ret))))), (some ⟨2, 135, 4, true, false⟩), [3], [false]⟩
def i207 : Comp := ⟨(.seq (.ops [s 2 (.box 4 (t 0)),
  s 3 (.box 4 (t 1)),
  s 4 (.mv (c (.bool false)))])
 (.seq (.ops [s 8 (.ldB 2 0 4 true true),
  s 9 (.ldB 3 0 4 true true),
  k 10 215 [(t 8), (t 9)] .sc,
  s 7 (.mv (t 10)),
  s 11 (.ext 7 0 true),
  s 12 (.ext 7 1 true),
  s 5 (.mv (t 11)),
  s 6 (.mv (t 12))])
 (.seq (.ops [s 13 (.ldB 2 0 4 true true),
  k 14 205 [(t 13)] .sc,
  s 15 (.mv (t 14)),
  sg [(15, true)] 16 (.ldB 3 0 4 true true),
  kg [(15, true)] 17 205 [(t 16)] .sc,
  s 18 (.pick (t 15) (t 17) (c (.bool false))),
  s 19 (.mv (t 18)),
  sg [(19, true)] 20 (.mv (t 5)),
  sg [(19, true)] 21 (.bin .geq (t 20) (c (i 0))),
  s 22 (.pick (t 19) (t 21) (c (.bool false))),
  s 23 (.mv (t 22)),
  sg [(23, true)] 24 (.mv (t 6)),
  sg [(23, true)] 25 (.bin .geq (t 24) (c (i 0))),
  s 26 (.pick (t 23) (t 25) (c (.bool false))),
  s 4 (.mv (t 26))])
 .ret))), none, [4], [true, true]⟩
def i208 : Comp := ⟨(.seq (.ops [s 2 (.box 4 (t 0)),
  s 3 (.box 4 (t 1)),
  s 4 (.mv (c (i 0)))])
 (.seq (.ops [s 10 (.bsl 2 []),
  s 5 (.mv (t 10))])
 (.seq (.ops [s 11 (.mv (c (i 0))),
  s 12 (.ldB 2 0 2 true true),
  s 13 (.mv (c (i 0))),
  s 14 (.ldB 2 2 2 true true),
  s 15 (.mv (c (i 0))),
  s 16 (.ldB 3 0 2 true true),
  s 17 (.mv (c (i 0))),
  s 18 (.ldB 3 2 2 true true),
  s 19 (.bsl 2 [(t 12), (t 14), (t 16), (t 18)]),
  s 6 (.mv (t 19))])
 (.seq (.seq (.ops [s 7 (.mv (c (i 0)))])
 (.block 0 (.loop (.seq (.seq (.ops [s 20 (.mv (t 7)),
  s 21 (.bin .lss (t 20) (c (i 4)))])
 (.cond (t 21) .skip (.exit 0)))
 (.seq (.block 1 (.seq (.ops [s 24 (.mv (t 7)),
  s 25 (.bin .lss (t 24) (c (i 2))),
  s 26 (.mv (t 25)),
  sg [(26, true)] 27 (.ldB 3 0 4 true true),
  sg [(26, true)] 28 (.mv (t 6)),
  sg [(26, true)] 29 (.mv (t 7)),
  sg [(26, true)] 30 (.idx (t 28) (t 29) 2),
  sg [(26, true)] 31 (.ldE 28 30 0 2 true true 2),
  kg [(26, true)] 32 216 [(t 27), (t 31)] .sc,
  s 33 (.pick (t 26) (t 32) (c (.bool false))),
  s 34 (.mv (t 33)),
  sg [(34, false)] 35 (.mv (t 7)),
  sg [(34, false)] 36 (.bin .geq (t 35) (c (i 2))),
  sg [(34, false)] 37 (.mv (t 36)),
  sg [(37, true), (34, false)] 38 (.ldB 2 0 4 true true),
  sg [(37, true), (34, false)] 39 (.mv (t 6)),
  sg [(37, true), (34, false)] 40 (.mv (t 7)),
  sg [(37, true), (34, false)] 41 (.idx (t 39) (t 40) 2),
  sg [(37, true), (34, false)] 42 (.ldE 39 41 0 2 true true 2),
  kg [(37, true), (34, false)] 43 216 [(t 38), (t 42)] .sc,
  sg [(34, false)] 44 (.pick (t 37) (t 43) (c (.bool false))),
  s 45 (.pick (t 34) (c (.bool true)) (t 44)),
  s 8 (.mv (t 45))])
 (.seq (.seq (.ops [s 9 (.mv (c (i 0)))])
 (.block 2 (.loop (.seq (.seq (.ops [s 46 (.mv (t 9)),
  s 47 (.mv (t 5)),
  s 48 (.len false (t 47)),
  s 49 (.bin .lss (t 46) (t 48))])
 (.cond (t 49) .skip (.exit 2)))
 (.seq (.block 3 (.ops [s 52 (.mv (t 8)),
  s 53 (.mv (t 52)),
  sg [(53, true)] 54 (.mv (t 5)),
  sg [(53, true)] 55 (.mv (t 9)),
  sg [(53, true)] 56 (.idx (t 54) (t 55) 2),
  sg [(53, true)] 57 (.ldE 54 56 0 2 true true 2),
  sg [(53, true)] 58 (.mv (t 6)),
  sg [(53, true)] 59 (.mv (t 7)),
  sg [(53, true)] 60 (.idx (t 58) (t 59) 2),
  sg [(53, true)] 61 (.ldE 58 60 0 2 true true 2),
  sg [(53, true)] 62 (.eqa true [0, 0] (t 57) (t 61)),
  s 63 (.pick (t 53) (t 62) (c (.bool false))),
  s 8 (.mv (t 63))]))
 (.ops [s 50 (.mv (t 9)),
  s 51 (.bin .add (t 50) (c (i 1))),
  s 9 (.mv (t 51))]))))))
 (.seq (.ops [s 64 (.mv (t 8))])
 (.cond (t 64) (.ops [s 65 (.mv (t 5)),
  s 66 (.mv (t 6)),
  s 67 (.mv (t 7)),
  s 68 (.idx (t 66) (t 67) 2),
  s 69 (.ldE 66 68 0 2 true true 2),
  s 70 (.bsl 2 [(t 69)]),
  s 71 (.app (t 65) (t 70) 2 16),
  s 5 (.mv (t 71))]) .skip)))))
 (.ops [s 22 (.mv (t 7)),
  s 23 (.bin .add (t 22) (c (i 1))),
  s 7 (.mv (t 23))]))))))
 (.seq (.ops [s 72 (.mv (t 5)),
  s 73 (.len false (t 72)),
  s 4 (.mv (t 73))])
 .ret))))), none, [4], [true, true]⟩
def i209 : Comp := ⟨(.seq (.ops [s 3 (.box 2 (t 0)),
  s 4 (.box 2 (t 1)),
  s 5 (.box 2 (t 2)),
  s 6 (.mv (c (i 0)))])
 (.seq (.seq (.ops [s 8 (.ldB 3 0 2 true true),
  k 9 70 [(t 8)] .sc,
  s 10 (.not (t 9)),
  s 11 (.mv (t 10)),
  sg [(11, false)] 12 (.ldB 4 0 2 true true),
  kg [(11, false)] 13 70 [(t 12)] .sc,
  sg [(11, false)] 14 (.not (t 13)),
  s 15 (.pick (t 11) (c (.bool true)) (t 14)),
  s 16 (.mv (t 15)),
  sg [(16, false)] 17 (.ldB 5 0 2 true true),
  kg [(16, false)] 18 70 [(t 17)] .sc,
  sg [(16, false)] 19 (.not (t 18)),
  s 20 (.pick (t 16) (c (.bool true)) (t 19))])
 (.cond (t 20) (.seq (.ops [s 6 (.mv (c (i 0)))])
 .ret) .skip))
 (.seq (.ops [s 21 (.ldB 3 0 2 true true),
  s 22 (.ldB 4 0 2 true true),
  s 23 (.ldB 5 0 2 true true),
  k 24 217 [(t 21), (t 22), (t 23)] .sc,
  s 7 (.mv (t 24))])
 (.seq (.block 0 (.seq (.ops [s 26 (.mv (t 7)),
  s 27 (.bin .gtr (t 26) (c (i 0))),
  s 25 (.mv (t 27))])
 (.cond (t 25) (.seq (.ops [s 6 (.mv (c (i 1)))])
 .ret) (.seq (.ops [s 29 (.mv (t 7)),
  s 30 (.bin .lss (t 29) (c (i 0))),
  s 28 (.mv (t 30))])
 (.cond (t 28) (.seq (.ops [s 6 (.mv (c (i (-1))))])
 .ret) .skip)))))
 (.seq (.ops [s 6 (.mv (c (i 0)))])
 .ret))))), none, [6], [true, true, true]⟩
def i211 : Comp := ⟨(.seq (.ops [s 1 (.box 4 (t 0)),
  s 2 (.mv (c (.bool false)))])
 (.seq (.ops [s 3 (.mv (c (i 0))),
  s 4 (.ldB 1 0 2 true true),
  k 5 70 [(t 4)] .sc,
  s 6 (.mv (t 5)),
  sg [(6, true)] 7 (.mv (c (i 0))),
  sg [(6, true)] 8 (.ldB 1 2 2 true true),
  kg [(6, true)] 9 70 [(t 8)] .sc,
  s 10 (.pick (t 6) (t 9) (c (.bool false))),
  s 11 (.mv (t 10)),
  sg [(11, true)] 12 (.mv (c (i 0))),
  sg [(11, true)] 13 (.mv (t 12)),
  sg [(11, true)] 14 (.ldB 1 0 1 false true),
  sg [(11, true)] 15 (.mv (c (i 0))),
  sg [(11, true)] 16 (.mv (t 15)),
  sg [(11, true)] 17 (.ldB 1 2 1 false true),
  sg [(11, true)] 18 (.bin .leq (t 14) (t 17)),
  s 19 (.pick (t 11) (t 18) (c (.bool false))),
  s 20 (.mv (t 19)),
  sg [(20, true)] 21 (.mv (c (i 0))),
  sg [(20, true)] 22 (.mv (t 21)),
  sg [(20, true)] 23 (.ldB 1 1 1 false true),
  sg [(20, true)] 24 (.mv (c (i 0))),
  sg [(20, true)] 25 (.mv (t 24)),
  sg [(20, true)] 26 (.ldB 1 3 1 false true),
  sg [(20, true)] 27 (.bin .leq (t 23) (t 26)),
  s 28 (.pick (t 20) (t 27) (c (.bool false))),
  s 2 (.mv (t 28))])
 .ret)), none, [2], [true]⟩
def i212 : Comp := ⟨(.seq (.ops [s 2 (.alc [(i 0), (i 0), (i 0), (i 0)]),
  s 3 (.mv (c (.bool false)))])
 (.seq (.seq (.ops [s 6 (.mv (t 0)),
  s 7 (.len false (t 6)),
  s 8 (.bin .eql (t 7) (c (i 0)))])
 (.cond (t 8) (.seq (.ops [s 9 (.bld [(i 0), (i 0), (i 0), (i 0)] []),
  s 2 (.stB 2 0 4 (t 9) false),
  s 3 (.mv (c (.bool false)))])
 .ret) .skip))
 (.seq (.ops [s 10 (.mv (t 0)),
  s 11 (.idx (t 10) (c (i 0)) 2),
  s 12 (.ldE 10 11 0 2 true true 2),
  s 13 (.mv (t 0)),
  s 14 (.idx (t 13) (c (i 0)) 2),
  s 15 (.ldE 13 14 0 2 true true 2),
  s 16 (.bld [(i 0), (i 0), (i 0), (i 0)] [(0, 2, (t 12)), (2, 2, (t 15))]),
  s 4 (.alc [(i 0), (i 0), (i 0), (i 0)]),
  s 4 (.stB 4 0 4 (t 16) false)])
 (.seq (.seq (.ops [s 5 (.mv (c (i 0)))])
 (.block 0 (.loop (.seq (.seq (.ops [s 17 (.mv (t 5)),
  s 18 (.mv (t 0)),
  s 19 (.len false (t 18)),
  s 20 (.bin .lss (t 17) (t 19))])
 (.cond (t 20) .skip (.exit 0)))
 (.seq (.block 1 (.seq (.seq (.ops [s 23 (.mv (t 0)),
  s 24 (.mv (t 5)),
  s 25 (.idx (t 23) (t 24) 2),
  s 26 (.ldE 23 25 0 2 true true 2),
  k 27 70 [(t 26)] .sc,
  s 28 (.not (t 27))])
 (.cond (t 28) (.seq (.ops [s 29 (.bld [(i 0), (i 0), (i 0), (i 0)] []),
  s 2 (.stB 2 0 4 (t 29) false),
  s 3 (.mv (c (.bool false)))])
 .ret) .skip))
 (.seq (.ops [s 30 (.mv (c (i 0))),
  s 31 (.mv (t 30)),
  s 32 (.ldB 4 0 1 false true),
  s 33 (.mv (t 0)),
  s 34 (.mv (t 5)),
  s 35 (.idx (t 33) (t 34) 2),
  s 36 (.mv (t 35)),
  s 37 (.ldE 33 36 0 1 false true 2),
  k 38 172 [(t 32), (t 37)] .sc,
  s 39 (.mv (c (i 0))),
  s 40 (.mv (t 39)),
  s 4 (.stB 4 0 1 (t 38) false)])
 (.seq (.ops [s 41 (.mv (c (i 0))),
  s 42 (.mv (t 41)),
  s 43 (.ldB 4 1 1 false true),
  s 44 (.mv (t 0)),
  s 45 (.mv (t 5)),
  s 46 (.idx (t 44) (t 45) 2),
  s 47 (.mv (t 46)),
  s 48 (.ldE 44 47 1 1 false true 2),
  k 49 172 [(t 43), (t 48)] .sc,
  s 50 (.mv (c (i 0))),
  s 51 (.mv (t 50)),
  s 4 (.stB 4 1 1 (t 49) false)])
 (.seq (.ops [s 52 (.mv (c (i 0))),
  s 53 (.mv (t 52)),
  s 54 (.ldB 4 2 1 false true),
  s 55 (.mv (t 0)),
  s 56 (.mv (t 5)),
  s 57 (.idx (t 55) (t 56) 2),
  s 58 (.mv (t 57)),
  s 59 (.ldE 55 58 0 1 false true 2),
  k 60 186 [(t 54), (t 59)] .sc,
  s 61 (.mv (c (i 0))),
  s 62 (.mv (t 61)),
  s 4 (.stB 4 2 1 (t 60) false)])
 (.ops [s 63 (.mv (c (i 0))),
  s 64 (.mv (t 63)),
  s 65 (.ldB 4 3 1 false true),
  s 66 (.mv (t 0)),
  s 67 (.mv (t 5)),
  s 68 (.idx (t 66) (t 67) 2),
  s 69 (.mv (t 68)),
  s 70 (.ldE 66 69 1 1 false true 2),
  k 71 186 [(t 65), (t 70)] .sc,
  s 72 (.mv (c (i 0))),
  s 73 (.mv (t 72)),
  s 4 (.stB 4 3 1 (t 71) false)]))))))
 (.ops [s 21 (.mv (t 5)),
  s 22 (.bin .add (t 21) (c (i 1))),
  s 5 (.mv (t 22))]))))))
 (.seq (.ops [s 74 (.ldB 4 0 4 true true),
  s 2 (.stB 2 0 4 (t 74) false),
  s 3 (.mv (c (.bool true)))])
 .ret))))), (some ⟨2, 135, 4, true, false⟩), [3], [false]⟩
def i213 : Comp := ⟨(.seq (.ops [s 2 (.box 4 (t 0)),
  s 3 (.box 4 (t 1)),
  s 4 (.mv (c (.bool false)))])
 (.seq (.ops [s 5 (.ldB 2 0 4 true true),
  k 6 211 [(t 5)] .sc,
  s 7 (.mv (t 6)),
  sg [(7, true)] 8 (.ldB 3 0 4 true true),
  kg [(7, true)] 9 211 [(t 8)] .sc,
  s 10 (.pick (t 7) (t 9) (c (.bool false))),
  s 11 (.mv (t 10)),
  sg [(11, true)] 12 (.mv (c (i 0))),
  sg [(11, true)] 13 (.mv (t 12)),
  sg [(11, true)] 14 (.ldB 2 0 1 false true),
  sg [(11, true)] 15 (.mv (c (i 0))),
  sg [(11, true)] 16 (.mv (t 15)),
  sg [(11, true)] 17 (.ldB 3 2 1 false true),
  sg [(11, true)] 18 (.bin .leq (t 14) (t 17)),
  s 19 (.pick (t 11) (t 18) (c (.bool false))),
  s 20 (.mv (t 19)),
  sg [(20, true)] 21 (.mv (c (i 0))),
  sg [(20, true)] 22 (.mv (t 21)),
  sg [(20, true)] 23 (.ldB 3 0 1 false true),
  sg [(20, true)] 24 (.mv (c (i 0))),
  sg [(20, true)] 25 (.mv (t 24)),
  sg [(20, true)] 26 (.ldB 2 2 1 false true),
  sg [(20, true)] 27 (.bin .leq (t 23) (t 26)),
  s 28 (.pick (t 20) (t 27) (c (.bool false))),
  s 29 (.mv (t 28)),
  sg [(29, true)] 30 (.mv (c (i 0))),
  sg [(29, true)] 31 (.mv (t 30)),
  sg [(29, true)] 32 (.ldB 2 1 1 false true),
  sg [(29, true)] 33 (.mv (c (i 0))),
  sg [(29, true)] 34 (.mv (t 33)),
  sg [(29, true)] 35 (.ldB 3 3 1 false true),
  sg [(29, true)] 36 (.bin .leq (t 32) (t 35)),
  s 37 (.pick (t 29) (t 36) (c (.bool false))),
  s 38 (.mv (t 37)),
  sg [(38, true)] 39 (.mv (c (i 0))),
  sg [(38, true)] 40 (.mv (t 39)),
  sg [(38, true)] 41 (.ldB 3 1 1 false true),
  sg [(38, true)] 42 (.mv (c (i 0))),
  sg [(38, true)] 43 (.mv (t 42)),
  sg [(38, true)] 44 (.ldB 2 3 1 false true),
  sg [(38, true)] 45 (.bin .leq (t 41) (t 44)),
  s 46 (.pick (t 38) (t 45) (c (.bool false))),
  s 4 (.mv (t 46))])
 .ret)), none, [4], [true, true]⟩
def i215 : Comp := ⟨(.seq (.ops [s 2 (.box 4 (t 0)),
  s 3 (.box 4 (t 1)),
  s 4 (.mv (c (i 0))),
  s 5 (.mv (c (i 0)))])
 (.seq (.ops [s 6 (.mv (c (i 0))),
  s 7 (.mv (t 6)),
  s 8 (.ldB 2 2 1 false true),
  s 9 (.mv (c (i 0))),
  s 10 (.mv (t 9)),
  s 11 (.ldB 3 2 1 false true),
  s 12 (.mn (t 8) (t 11)),
  s 13 (.mv (c (i 0))),
  s 14 (.mv (t 13)),
  s 15 (.ldB 2 0 1 false true),
  s 16 (.mv (c (i 0))),
  s 17 (.mv (t 16)),
  s 18 (.ldB 3 0 1 false true),
  s 19 (.mx (t 15) (t 18)),
  s 20 (.bin .sub (t 12) (t 19)),
  s 21 (.mv (c (i 0))),
  s 22 (.mv (t 21)),
  s 23 (.ldB 2 3 1 false true),
  s 24 (.mv (c (i 0))),
  s 25 (.mv (t 24)),
  s 26 (.ldB 3 3 1 false true),
  s 27 (.mn (t 23) (t 26)),
  s 28 (.mv (c (i 0))),
  s 29 (.mv (t 28)),
  s 30 (.ldB 2 1 1 false true),
  s 31 (.mv (c (i 0))),
  s 32 (.mv (t 31)),
  s 33 (.ldB 3 1 1 false true),
  s 34 (.mx (t 30) (t 33)),
  s 35 (.bin .sub (t 27) (t 34)),
  s 4 (.mv (t 20)),
  s 5 (.mv (t 35))])
 .ret)), none, [4, 5], [true, true]⟩
def i216 : Comp := ⟨(.seq (.ops [s 2 (.box 4 (t 0)),
  s 3 (.box 2 (t 1)),
  s 4 (.mv (c (.bool false)))])
 (.seq (.ops [s 5 (.ldB 2 0 4 true true),
  k 6 185 [(t 5)] .sc,
  s 7 (.mv (t 6)),
  sg [(7, true)] 8 (.ldB 3 0 2 true true),
  kg [(7, true)] 9 70 [(t 8)] .sc,
  s 10 (.pick (t 7) (t 9) (c (.bool false))),
  s 11 (.mv (t 10)),
  sg [(11, true)] 12 (.mv (c (i 0))),
  sg [(11, true)] 13 (.ldB 2 0 2 true true),
  sg [(11, true)] 14 (.mv (c (i 0))),
  sg [(11, true)] 15 (.ldB 2 2 2 true true),
  sg [(11, true)] 16 (.ldB 3 0 2 true true),
  kg [(11, true)] 17 217 [(t 13), (t 15), (t 16)] .sc,
  sg [(11, true)] 18 (.bin .eql (t 17) (c (i 0))),
  s 19 (.pick (t 11) (t 18) (c (.bool false))),
  s 20 (.mv (t 19)),
  sg [(20, true)] 21 (.mv (c (i 0))),
  sg [(20, true)] 22 (.ldB 3 0 1 false true),
  sg [(20, true)] 23 (.mv (c (i 0))),
  sg [(20, true)] 24 (.mv (t 23)),
  sg [(20, true)] 25 (.ldB 2 0 1 false true),
  sg [(20, true)] 26 (.mv (c (i 0))),
  sg [(20, true)] 27 (.mv (t 26)),
  sg [(20, true)] 28 (.ldB 2 2 1 false true),
  kg [(20, true)] 29 172 [(t 25), (t 28)] .sc,
  sg [(20, true)] 30 (.mv (c (i 0))),
  sg [(20, true)] 31 (.mv (t 30)),
  sg [(20, true)] 32 (.ldB 2 0 1 false true),
  sg [(20, true)] 33 (.mv (c (i 0))),
  sg [(20, true)] 34 (.mv (t 33)),
  sg [(20, true)] 35 (.ldB 2 2 1 false true),
  kg [(20, true)] 36 186 [(t 32), (t 35)] .sc,
  kg [(20, true)] 37 116 [(t 22), (t 29), (t 36)] .sc,
  s 38 (.pick (t 20) (t 37) (c (.bool false))),
  s 39 (.mv (t 38)),
  sg [(39, true)] 40 (.mv (c (i 0))),
  sg [(39, true)] 41 (.ldB 3 1 1 false true),
  sg [(39, true)] 42 (.mv (c (i 0))),
  sg [(39, true)] 43 (.mv (t 42)),
  sg [(39, true)] 44 (.ldB 2 1 1 false true),
  sg [(39, true)] 45 (.mv (c (i 0))),
  sg [(39, true)] 46 (.mv (t 45)),
  sg [(39, true)] 47 (.ldB 2 3 1 false true),
  kg [(39, true)] 48 172 [(t 44), (t 47)] .sc,
  sg [(39, true)] 49 (.mv (c (i 0))),
  sg [(39, true)] 50 (.mv (t 49)),
  sg [(39, true)] 51 (.ldB 2 1 1 false true),
  sg [(39, true)] 52 (.mv (c (i 0))),
  sg [(39, true)] 53 (.mv (t 52)),
  sg [(39, true)] 54 (.ldB 2 3 1 false true),
  kg [(39, true)] 55 186 [(t 51), (t 54)] .sc,
  kg [(39, true)] 56 116 [(t 41), (t 48), (t 55)] .sc,
  s 57 (.pick (t 39) (t 56) (c (.bool false))),
  s 4 (.mv (t 57))])
 .ret)), none, [4], [true, true]⟩
def i217 : Comp := ⟨(.seq (.ops [s 3 (.box 2 (t 0)),
  s 4 (.box 2 (t 1)),
  s 5 (.box 2 (t 2)),
  s 6 (.mv (c (i 0)))])
 (.seq (.ops [s 7 (.mv (c (i 0))),
  s 8 (.ldB 4 0 1 false true),
  s 9 (.mv (c (i 0))),
  s 10 (.ldB 3 0 1 false true),
  s 11 (.bin .sub (t 8) (t 10)),
  s 12 (.mv (c (i 0))),
  s 13 (.ldB 5 1 1 false true),
  s 14 (.mv (c (i 0))),
  s 15 (.ldB 3 1 1 false true),
  s 16 (.bin .sub (t 13) (t 15)),
  s 17 (.bin .mul (t 11) (t 16)),
  s 18 (.mv (c (i 0))),
  s 19 (.ldB 4 1 1 false true),
  s 20 (.mv (c (i 0))),
  s 21 (.ldB 3 1 1 false true),
  s 22 (.bin .sub (t 19) (t 21)),
  s 23 (.mv (c (i 0))),
  s 24 (.ldB 5 0 1 false true),
  s 25 (.mv (c (i 0))),
  s 26 (.ldB 3 0 1 false true),
  s 27 (.bin .sub (t 24) (t 26)),
  s 28 (.bin .mul (t 22) (t 27)),
  s 29 (.bin .sub (t 17) (t 28)),
  s 6 (.mv (t 29))])
 .ret)), none, [6], [true, true, true]⟩
def X : Cx := { tab := tbs, sig := sgs, wf := wfs, xf := xfs, rf := rfs, tl := tls }
end Go.Eng
namespace Go.Eng
open Go Go.Proofs
theorem hX : TabOK Tryz.prog X := TabOK.of (by kernel_rfl)
theorem c3 : compP Tryz.prog X 3 = some i3 := by kernel_rfl
theorem c6 : compP Tryz.prog X 6 = some i6 := by kernel_rfl
theorem c7 : compP Tryz.prog X 7 = some i7 := by kernel_rfl
theorem c8 : compP Tryz.prog X 8 = some i8 := by kernel_rfl
theorem c9 : compP Tryz.prog X 9 = some i9 := by kernel_rfl
theorem c10 : compP Tryz.prog X 10 = some i10 := by kernel_rfl
theorem c11 : compP Tryz.prog X 11 = some i11 := by kernel_rfl
theorem c12 : compP Tryz.prog X 12 = some i12 := by kernel_rfl
theorem c13 : compP Tryz.prog X 13 = some i13 := by kernel_rfl
theorem c14 : compP Tryz.prog X 14 = some i14 := by kernel_rfl
theorem c15 : compM Tryz.prog X 15 = some i15 := by kernel_rfl
theorem c17 : compM Tryz.prog X 17 = some i17 := by kernel_rfl
theorem c18 : compP Tryz.prog X 18 = some i18 := by kernel_rfl
theorem c21 : compP Tryz.prog X 21 = some i21 := by kernel_rfl
theorem c24 : compP Tryz.prog X 24 = some i24 := by kernel_rfl
theorem c34 : compP Tryz.prog X 34 = some i34 := by kernel_rfl
theorem c35 : compP Tryz.prog X 35 = some i35 := by kernel_rfl
theorem c39 : compP Tryz.prog X 39 = some i39 := by kernel_rfl
theorem c40 : compP Tryz.prog X 40 = some i40 := by kernel_rfl
theorem c42 : compP Tryz.prog X 42 = some i42 := by kernel_rfl
theorem c43 : compP Tryz.prog X 43 = some i43 := by kernel_rfl
theorem c44 : compP Tryz.prog X 44 = some i44 := by kernel_rfl
theorem c45 : compP Tryz.prog X 45 = some i45 := by kernel_rfl
theorem c46 : compM Tryz.prog X 46 = some i46 := by kernel_rfl
theorem c54 : compP Tryz.prog X 54 = some i54 := by kernel_rfl
theorem c55 : compP Tryz.prog X 55 = some i55 := by kernel_rfl
theorem c56 : compP Tryz.prog X 56 = some i56 := by kernel_rfl
theorem c57 : compP Tryz.prog X 57 = some i57 := by kernel_rfl
theorem c58 : compP Tryz.prog X 58 = some i58 := by kernel_rfl
theorem c59 : compP Tryz.prog X 59 = some i59 := by kernel_rfl
theorem c61 : compP Tryz.prog X 61 = some i61 := by kernel_rfl
theorem c62 : compP Tryz.prog X 62 = some i62 := by kernel_rfl
theorem c69 : compP Tryz.prog X 69 = some i69 := by kernel_rfl
theorem c70 : compP Tryz.prog X 70 = some i70 := by kernel_rfl
theorem c75 : compP Tryz.prog X 75 = some i75 := by kernel_rfl
theorem c77 : compP Tryz.prog X 77 = some i77 := by kernel_rfl
theorem c82 : compP Tryz.prog X 82 = some i82 := by kernel_rfl
theorem c83 : compP Tryz.prog X 83 = some i83 := by kernel_rfl
theorem c84 : compP Tryz.prog X 84 = some i84 := by kernel_rfl
theorem c85 : compP Tryz.prog X 85 = some i85 := by kernel_rfl
theorem c86 : compP Tryz.prog X 86 = some i86 := by kernel_rfl
theorem c87 : compY Tryz.prog X 87 = some i87 := by kernel_rfl
theorem c88 : compP Tryz.prog X 88 = some i88 := by kernel_rfl
theorem c89 : compP Tryz.prog X 89 = some i89 := by kernel_rfl
theorem c92 : compP Tryz.prog X 92 = some i92 := by kernel_rfl
theorem c100 : compP Tryz.prog X 100 = some i100 := by kernel_rfl
theorem c101 : compP Tryz.prog X 101 = some i101 := by kernel_rfl
theorem c102 : compP Tryz.prog X 102 = some i102 := by kernel_rfl
theorem c103 : compP Tryz.prog X 103 = some i103 := by kernel_rfl
theorem c104 : compP Tryz.prog X 104 = some i104 := by kernel_rfl
theorem c105 : compP Tryz.prog X 105 = some i105 := by kernel_rfl
theorem c106 : compP Tryz.prog X 106 = some i106 := by kernel_rfl
theorem c107 : compP Tryz.prog X 107 = some i107 := by kernel_rfl
theorem c109 : compP Tryz.prog X 109 = some i109 := by kernel_rfl
theorem c115 : compP Tryz.prog X 115 = some i115 := by kernel_rfl
theorem c116 : compP Tryz.prog X 116 = some i116 := by kernel_rfl
theorem c120 : compP Tryz.prog X 120 = some i120 := by kernel_rfl
theorem c122 : compP Tryz.prog X 122 = some i122 := by kernel_rfl
theorem c123 : compP Tryz.prog X 123 = some i123 := by kernel_rfl
theorem c124 : compP Tryz.prog X 124 = some i124 := by kernel_rfl
theorem c125 : compP Tryz.prog X 125 = some i125 := by kernel_rfl
theorem c126 : compP Tryz.prog X 126 = some i126 := by kernel_rfl
theorem c127 : compP Tryz.prog X 127 = some i127 := by kernel_rfl
theorem c128 : compP Tryz.prog X 128 = some i128 := by kernel_rfl
theorem c130 : compP Tryz.prog X 130 = some i130 := by kernel_rfl
theorem c137 : compP Tryz.prog X 137 = some i137 := by kernel_rfl
theorem c138 : compP Tryz.prog X 138 = some i138 := by kernel_rfl
theorem c139 : compP Tryz.prog X 139 = some i139 := by kernel_rfl
theorem c140 : compP Tryz.prog X 140 = some i140 := by kernel_rfl
theorem c143 : compP Tryz.prog X 143 = some i143 := by kernel_rfl
theorem c144 : compP Tryz.prog X 144 = some i144 := by kernel_rfl
theorem c145 : compP Tryz.prog X 145 = some i145 := by kernel_rfl
theorem c146 : compP Tryz.prog X 146 = some i146 := by kernel_rfl
theorem c147 : compP Tryz.prog X 147 = some i147 := by kernel_rfl
theorem c159 : compP Tryz.prog X 159 = some i159 := by kernel_rfl
theorem c160 : compP Tryz.prog X 160 = some i160 := by kernel_rfl
theorem c161 : compP Tryz.prog X 161 = some i161 := by kernel_rfl
theorem c162 : compP Tryz.prog X 162 = some i162 := by kernel_rfl
theorem c172 : compP Tryz.prog X 172 = some i172 := by kernel_rfl
theorem c175 : compP Tryz.prog X 175 = some i175 := by kernel_rfl
theorem c176 : compP Tryz.prog X 176 = some i176 := by kernel_rfl
theorem c177 : compP Tryz.prog X 177 = some i177 := by kernel_rfl
theorem c179 : compP Tryz.prog X 179 = some i179 := by kernel_rfl
theorem c180 : compP Tryz.prog X 180 = some i180 := by kernel_rfl
theorem c181 : compP Tryz.prog X 181 = some i181 := by kernel_rfl
theorem c182 : compP Tryz.prog X 182 = some i182 := by kernel_rfl
theorem c183 : compP Tryz.prog X 183 = some i183 := by kernel_rfl
theorem c184 : compP Tryz.prog X 184 = some i184 := by kernel_rfl
theorem c185 : compP Tryz.prog X 185 = some i185 := by kernel_rfl
theorem c186 : compP Tryz.prog X 186 = some i186 := by kernel_rfl
theorem c192 : compP Tryz.prog X 192 = some i192 := by kernel_rfl
theorem c193 : compP Tryz.prog X 193 = some i193 := by kernel_rfl
theorem c194 : compP Tryz.prog X 194 = some i194 := by kernel_rfl
theorem c195 : compP Tryz.prog X 195 = some i195 := by kernel_rfl
theorem c199 : compP Tryz.prog X 199 = some i199 := by kernel_rfl
theorem c201 : compP Tryz.prog X 201 = some i201 := by kernel_rfl
theorem c202 : compP Tryz.prog X 202 = some i202 := by kernel_rfl
theorem c203 : compP Tryz.prog X 203 = some i203 := by kernel_rfl
theorem c204 : compP Tryz.prog X 204 = some i204 := by kernel_rfl
theorem c205 : compP Tryz.prog X 205 = some i205 := by kernel_rfl
theorem c206 : compP Tryz.prog X 206 = some i206 := by kernel_rfl
theorem c207 : compP Tryz.prog X 207 = some i207 := by kernel_rfl
theorem c208 : compP Tryz.prog X 208 = some i208 := by kernel_rfl
theorem c209 : compP Tryz.prog X 209 = some i209 := by kernel_rfl
theorem c211 : compP Tryz.prog X 211 = some i211 := by kernel_rfl
theorem c212 : compP Tryz.prog X 212 = some i212 := by kernel_rfl
theorem c213 : compP Tryz.prog X 213 = some i213 := by kernel_rfl
theorem c215 : compP Tryz.prog X 215 = some i215 := by kernel_rfl
theorem c216 : compP Tryz.prog X 216 = some i216 := by kernel_rfl
theorem c217 : compP Tryz.prog X 217 = some i217 := by kernel_rfl
end Go.Eng
