/- A part of the proof of a law's statement: for every input the law returns true and leaves its arguments as they were. No condition beyond the statement's own. The laws' functions in that calculus, checked by the kernel against the program. -/
import Derived.Test.YtamfklkdhhjmhaaGreatProg
import Derived.Test.YtamfklkdhhjmhaaGreatFe3
set_option linter.unusedVariables false
set_option linter.unusedSimpArgs false
set_option linter.unusedSectionVars false
set_option autoImplicit true
set_option relaxedAutoImplicit true
namespace Go.Eng
open Go
def tbs : List (Option TI) := [some ⟨(.tup []), 1, 0, [.junk], false⟩,
  some ⟨.func, 1, 8, [.junk], false⟩,
  some ⟨(.int .i64), 1, 8, [(i 0)], false⟩,
  some ⟨(.int .i64), 1, 8, [(i 0)], false⟩,
  some ⟨.bool, 1, 1, [(.bool false)], false⟩,
  some ⟨(.int .u8), 1, 1, [(.int .u8 (0))], false⟩,
  some ⟨(.int .u8), 1, 1, [(.int .u8 (0))], false⟩,
  some ⟨(.struct [(0, 2), (1, 3), (2, 4), (3, 6)]), 4, 24, [(i 0), (i 0), (.bool false), (.int .u8 (0))], true⟩,
  some ⟨(.struct [(0, 2), (1, 3), (2, 4), (3, 6)]), 4, 24, [(i 0), (i 0), (.bool false), (.int .u8 (0))], true⟩,
  some ⟨.str, 1, 16, [(.str (bs []))], false⟩,
  some ⟨.str, 1, 16, [(.str (bs []))], false⟩,
  some ⟨.str, 1, 16, [(.str (bs []))], false⟩,
  some ⟨(.int .u64), 1, 8, [(.int .u64 (0))], false⟩,
  some ⟨(.struct [(0, 9), (1, 12)]), 2, 24, [(.str (bs [])), (.int .u64 (0))], false⟩,
  some ⟨(.struct [(0, 9), (1, 12)]), 2, 24, [(.str (bs [])), (.int .u64 (0))], false⟩,
  some ⟨(.ptr 209), 1, 8, [.junk], false⟩,
  some ⟨(.ptr 212), 1, 8, [.junk], false⟩,
  some ⟨(.ptr 221), 1, 8, [.junk], false⟩,
  some ⟨(.struct [(0, 17)]), 1, 8, [.junk], false⟩,
  some ⟨(.struct [(0, 17)]), 1, 8, [.junk], false⟩,
  some ⟨.other, 1, 16, [.junk], false⟩,
  some ⟨(.int .i32), 1, 4, [(.int .i32 (0))], false⟩,
  some ⟨(.slice 69), 1, 24, [(.lst 5 true [])], false⟩,
  some ⟨(.struct [(0, 3), (1, 3), (2, 3)]), 3, 24, [(i 0), (i 0), (i 0)], true⟩,
  some ⟨(.struct [(0, 3), (1, 3), (2, 3)]), 3, 24, [(i 0), (i 0), (i 0)], true⟩,
  some ⟨.func, 1, 8, [.junk], false⟩,
  some ⟨(.slice 3), 1, 24, [(.lst 1 true [])], false⟩,
  some ⟨.func, 1, 8, [.junk], false⟩,
  some ⟨(.slice 48), 1, 24, [(.lst 5 true [])], false⟩,
  some ⟨.func, 1, 8, [.junk], false⟩,
  some ⟨(.struct [(0, 3), (1, 3), (2, 3)]), 3, 24, [(i 0), (i 0), (i 0)], true⟩,
  some ⟨.func, 1, 8, [.junk], false⟩,
  some ⟨.func, 1, 8, [.junk], false⟩,
  some ⟨.func, 1, 8, [.junk], false⟩,
  some ⟨.func, 1, 8, [.junk], false⟩,
  some ⟨.func, 1, 8, [.junk], false⟩,
  some ⟨.func, 1, 8, [.junk], false⟩,
  some ⟨(.slice 24), 1, 24, [(.lst 3 true [])], false⟩,
  some ⟨.func, 1, 8, [.junk], false⟩,
  some ⟨.func, 1, 8, [.junk], false⟩,
  some ⟨(.slice 30), 1, 24, [(.lst 3 true [])], false⟩,
  some ⟨.func, 1, 8, [.junk], false⟩,
  some ⟨.func, 1, 8, [.junk], false⟩,
  some ⟨.func, 1, 8, [.junk], false⟩,
  some ⟨(.slice 5), 1, 24, [(.lst 1 true [])], false⟩,
  some ⟨.func, 1, 8, [.junk], false⟩,
  some ⟨(.slice 110), 1, 24, [(.lst 2 true [])], false⟩,
  some ⟨(.struct [(0, 3), (1, 3), (2, 3), (3, 9), (4, 46)]), 5, 64, [(i 0), (i 0), (i 0), (.str (bs [])), (.lst 2 true [])], true⟩,
  some ⟨(.struct [(0, 3), (1, 3), (2, 3), (3, 9), (4, 46)]), 5, 64, [(i 0), (i 0), (i 0), (.str (bs [])), (.lst 2 true [])], true⟩,
  some ⟨(.struct [(0, 3), (1, 48), (6, 3), (7, 3), (8, 3)]), 9, 96, [(i 0), (i 0), (i 0), (i 0), (.str (bs [])), (.lst 2 true []), (i 0), (i 0), (i 0)], true⟩,
  some ⟨(.struct [(0, 3), (1, 48), (6, 3), (7, 3), (8, 3)]), 9, 96, [(i 0), (i 0), (i 0), (i 0), (.str (bs [])), (.lst 2 true []), (i 0), (i 0), (i 0)], true⟩,
  some ⟨(.tup [28, 50]), 1, 0, [.junk], false⟩,
  some ⟨.func, 1, 8, [.junk], false⟩,
  some ⟨(.tup [28, 4]), 1, 0, [.junk], false⟩,
  some ⟨.func, 1, 8, [.junk], false⟩,
  some ⟨(.tup [50, 4]), 1, 0, [.junk], false⟩,
  some ⟨.func, 1, 8, [.junk], false⟩,
  some ⟨.func, 1, 8, [.junk], false⟩,
  some ⟨.func, 1, 8, [.junk], false⟩,
  some ⟨.func, 1, 8, [.junk], false⟩,
  some ⟨.func, 1, 8, [.junk], false⟩,
  some ⟨.func, 1, 8, [.junk], false⟩,
  some ⟨(.slice 50), 1, 24, [(.lst 9 true [])], false⟩,
  some ⟨(.tup [28, 62]), 1, 0, [.junk], false⟩,
  some ⟨.func, 1, 8, [.junk], false⟩,
  some ⟨(.tup [28, 3]), 1, 0, [.junk], false⟩,
  some ⟨.func, 1, 8, [.junk], false⟩,
  some ⟨(.slice 143), 1, 24, [(.lst 2 true [])], false⟩,
  some ⟨(.struct [(0, 3), (1, 3), (2, 3), (3, 9), (4, 67)]), 5, 64, [(i 0), (i 0), (i 0), (.str (bs [])), (.lst 2 true [])], true⟩,
  some ⟨(.struct [(0, 3), (1, 3), (2, 3), (3, 9), (4, 67)]), 5, 64, [(i 0), (i 0), (i 0), (.str (bs [])), (.lst 2 true [])], true⟩,
  some ⟨(.struct [(0, 3), (1, 69), (6, 3), (7, 3), (8, 3)]), 9, 96, [(i 0), (i 0), (i 0), (i 0), (.str (bs [])), (.lst 2 true []), (i 0), (i 0), (i 0)], true⟩,
  some ⟨(.struct [(0, 3), (1, 69), (6, 3), (7, 3), (8, 3)]), 9, 96, [(i 0), (i 0), (i 0), (i 0), (.str (bs [])), (.lst 2 true []), (i 0), (i 0), (i 0)], true⟩,
  some ⟨.func, 1, 8, [.junk], false⟩,
  some ⟨.func, 1, 8, [.junk], false⟩,
  some ⟨.func, 1, 8, [.junk], false⟩,
  some ⟨.func, 1, 8, [.junk], false⟩,
  some ⟨.func, 1, 8, [.junk], false⟩,
  some ⟨.func, 1, 8, [.junk], false⟩,
  some ⟨.func, 1, 8, [.junk], false⟩,
  some ⟨.func, 1, 8, [.junk], false⟩,
  some ⟨.func, 1, 8, [.junk], false⟩,
  some ⟨.func, 1, 8, [.junk], false⟩,
  some ⟨.func, 1, 8, [.junk], false⟩,
  some ⟨.func, 1, 8, [.junk], false⟩,
  some ⟨(.ptr 113), 1, 8, [.junk], false⟩,
  some ⟨.func, 1, 8, [.junk], false⟩,
  some ⟨.func, 1, 8, [.junk], false⟩,
  some ⟨.func, 1, 8, [.junk], false⟩,
  some ⟨.func, 1, 8, [.junk], false⟩,
  some ⟨.func, 1, 8, [.junk], false⟩,
  some ⟨.func, 1, 8, [.junk], false⟩,
  some ⟨.func, 1, 8, [.junk], false⟩,
  some ⟨.func, 1, 8, [.junk], false⟩,
  some ⟨.func, 1, 8, [.junk], false⟩,
  some ⟨.func, 1, 8, [.junk], false⟩,
  some ⟨.func, 1, 8, [.junk], false⟩,
  some ⟨.func, 1, 8, [.junk], false⟩,
  some ⟨.func, 1, 8, [.junk], false⟩,
  some ⟨.func, 1, 8, [.junk], false⟩,
  some ⟨.func, 1, 8, [.junk], false⟩,
  some ⟨.func, 1, 8, [.junk], false⟩,
  some ⟨.func, 1, 8, [.junk], false⟩,
  some ⟨.func, 1, 8, [.junk], false⟩,
  some ⟨(.slice 141), 1, 24, [(.lst 4 true [])], false⟩,
  some ⟨.func, 1, 8, [.junk], false⟩,
  some ⟨.func, 1, 8, [.junk], false⟩,
  some ⟨.func, 1, 8, [.junk], false⟩,
  some ⟨.func, 1, 8, [.junk], false⟩,
  some ⟨.func, 1, 8, [.junk], false⟩,
  some ⟨(.struct [(0, 3), (1, 3)]), 2, 16, [(i 0), (i 0)], true⟩,
  some ⟨(.struct [(0, 3), (1, 3)]), 2, 16, [(i 0), (i 0)], true⟩,
  some ⟨.func, 1, 8, [.junk], false⟩,
  some ⟨(.struct [(0, 44), (1, 3), (2, 3)]), 3, 40, [(.lst 1 true []), (i 0), (i 0)], true⟩,
  some ⟨(.struct [(0, 44), (1, 3), (2, 3)]), 3, 40, [(.lst 1 true []), (i 0), (i 0)], true⟩,
  some ⟨.func, 1, 8, [.junk], false⟩,
  some ⟨.func, 1, 8, [.junk], false⟩,
  some ⟨(.slice 9), 1, 24, [(.lst 1 true [])], false⟩,
  some ⟨.func, 1, 8, [.junk], false⟩,
  some ⟨.func, 1, 8, [.junk], false⟩,
  some ⟨.func, 1, 8, [.junk], false⟩,
  some ⟨.func, 1, 8, [.junk], false⟩,
  some ⟨(.tup [110, 4]), 1, 0, [.junk], false⟩,
  some ⟨.func, 1, 8, [.junk], false⟩,
  some ⟨.func, 1, 8, [.junk], false⟩,
  some ⟨.func, 1, 8, [.junk], false⟩,
  some ⟨.func, 1, 8, [.junk], false⟩,
  some ⟨.func, 1, 8, [.junk], false⟩,
  some ⟨.func, 1, 8, [.junk], false⟩,
  some ⟨(.struct [(0, 110), (2, 110)]), 4, 32, [(i 0), (i 0), (i 0), (i 0)], true⟩,
  some ⟨(.struct [(0, 110), (2, 110)]), 4, 32, [(i 0), (i 0), (i 0), (i 0)], true⟩,
  some ⟨(.tup [129, 4]), 1, 0, [.junk], false⟩,
  some ⟨.func, 1, 8, [.junk], false⟩,
  some ⟨.func, 1, 8, [.junk], false⟩,
  some ⟨.func, 1, 8, [.junk], false⟩,
  some ⟨(.slice 160), 1, 24, [(.lst 2 true [])], false⟩,
  some ⟨.func, 1, 8, [.junk], false⟩,
  some ⟨.func, 1, 8, [.junk], false⟩,
  some ⟨.func, 1, 8, [.junk], false⟩,
  some ⟨.func, 1, 8, [.junk], false⟩,
  some ⟨.func, 1, 8, [.junk], false⟩,
  some ⟨(.struct [(0, 3), (1, 110), (3, 3)]), 4, 32, [(i 0), (i 0), (i 0), (i 0)], true⟩,
  some ⟨(.struct [(0, 3), (1, 110), (3, 3)]), 4, 32, [(i 0), (i 0), (i 0), (i 0)], true⟩,
  some ⟨.func, 1, 8, [.junk], false⟩,
  some ⟨(.struct [(0, 3), (1, 3)]), 2, 16, [(i 0), (i 0)], true⟩,
  some ⟨.func, 1, 8, [.junk], false⟩,
  some ⟨.func, 1, 8, [.junk], false⟩,
  some ⟨(.int .u64), 1, 8, [(.int .u64 (0))], false⟩,
  some ⟨.func, 1, 8, [.junk], false⟩,
  some ⟨.func, 1, 8, [.junk], false⟩,
  some ⟨.func, 1, 8, [.junk], false⟩,
  some ⟨.func, 1, 8, [.junk], false⟩,
  some ⟨(.slice 155), 1, 24, [(.lst 4 true [])], false⟩,
  some ⟨.func, 1, 8, [.junk], false⟩,
  some ⟨.func, 1, 8, [.junk], false⟩,
  some ⟨(.struct [(0, 110), (2, 110)]), 4, 32, [(i 0), (i 0), (i 0), (i 0)], true⟩,
  some ⟨(.struct [(0, 110), (2, 110)]), 4, 32, [(i 0), (i 0), (i 0), (i 0)], true⟩,
  some ⟨.func, 1, 8, [.junk], false⟩,
  some ⟨.func, 1, 8, [.junk], false⟩,
  some ⟨.func, 1, 8, [.junk], false⟩,
  some ⟨(.struct [(0, 3), (1, 3)]), 2, 16, [(i 0), (i 0)], true⟩,
  some ⟨(.struct [(0, 3), (1, 3)]), 2, 16, [(i 0), (i 0)], true⟩,
  some ⟨.func, 1, 8, [.junk], false⟩,
  some ⟨.func, 1, 8, [.junk], false⟩,
  some ⟨.func, 1, 8, [.junk], false⟩,
  some ⟨.func, 1, 8, [.junk], false⟩,
  some ⟨.func, 1, 8, [.junk], false⟩,
  some ⟨.func, 1, 8, [.junk], false⟩,
  some ⟨(.int .i64), 1, 8, [(i 0)], false⟩,
  some ⟨(.tup [3, 167]), 1, 0, [.junk], false⟩,
  some ⟨.func, 1, 8, [.junk], false⟩,
  some ⟨.func, 1, 8, [.junk], false⟩,
  some ⟨.func, 1, 8, [.junk], false⟩,
  some ⟨.func, 1, 8, [.junk], false⟩,
  some ⟨(.tup [3, 4]), 1, 0, [.junk], false⟩,
  some ⟨.func, 1, 8, [.junk], false⟩,
  some ⟨.func, 1, 8, [.junk], false⟩,
  some ⟨(.int .u32), 1, 4, [(.int .u32 (0))], false⟩,
  some ⟨.func, 1, 8, [.junk], false⟩,
  some ⟨(.int .u64), 1, 8, [(.int .u64 (0))], false⟩,
  some ⟨.func, 1, 8, [.junk], false⟩,
  some ⟨.func, 1, 8, [.junk], false⟩,
  some ⟨.func, 1, 8, [.junk], false⟩,
  some ⟨.func, 1, 8, [.junk], false⟩,
  some ⟨.func, 1, 8, [.junk], false⟩,
  some ⟨.func, 1, 8, [.junk], false⟩,
  some ⟨.func, 1, 8, [.junk], false⟩,
  some ⟨.func, 1, 8, [.junk], false⟩,
  some ⟨.func, 1, 8, [.junk], false⟩,
  some ⟨.func, 1, 8, [.junk], false⟩,
  some ⟨(.int .u64), 1, 8, [(.int .u64 (0))], false⟩,
  some ⟨.func, 1, 8, [.junk], false⟩,
  some ⟨.func, 1, 8, [.junk], false⟩,
  some ⟨.func, 1, 8, [.junk], false⟩,
  some ⟨(.ptr 3), 1, 8, [.junk], false⟩,
  some ⟨.func, 1, 8, [.junk], false⟩,
  some ⟨.func, 1, 8, [.junk], false⟩,
  some ⟨.func, 1, 8, [.junk], false⟩,
  some ⟨.func, 1, 8, [.junk], false⟩,
  some ⟨.func, 1, 8, [.junk], false⟩,
  some ⟨.func, 1, 8, [.junk], false⟩,
  some ⟨.func, 1, 8, [.junk], false⟩,
  some ⟨(.ptr 189), 1, 8, [.junk], false⟩,
  some ⟨(.tup [3, 3]), 1, 0, [.junk], false⟩,
  some ⟨.func, 1, 8, [.junk], false⟩,
  some ⟨.func, 1, 8, [.junk], false⟩,
  some ⟨.func, 1, 8, [.junk], false⟩,
  some ⟨.func, 1, 8, [.junk], false⟩,
  some ⟨.func, 1, 8, [.junk], false⟩,
  some ⟨(.struct [(0, 17), (1, 17), (2, 17), (3, 9)]), 4, 40, [.junk], false⟩,
  some ⟨(.struct [(0, 17), (1, 17), (2, 17), (3, 9)]), 4, 40, [.junk], false⟩,
  some ⟨(.arr 0 16), 0, 0, [], false⟩,
  some ⟨(.struct [(0, 210)]), 0, 0, [], false⟩,
  some ⟨(.struct [(0, 210)]), 0, 0, [], false⟩,
  some ⟨.func, 1, 8, [.junk], false⟩,
  some ⟨(.int .u8), 1, 1, [(.int .u8 (0))], false⟩,
  some ⟨(.int .u8), 1, 1, [(.int .u8 (0))], false⟩,
  some ⟨.func, 1, 8, [.junk], false⟩,
  some ⟨(.ptr 5), 1, 8, [.junk], false⟩,
  some ⟨(.int .i32), 1, 4, [(.int .i32 (0))], false⟩,
  some ⟨(.int .i32), 1, 4, [(.int .i32 (0))], false⟩,
  some ⟨(.struct [(0, 12), (1, 12), (2, 176), (3, 214), (4, 5), (5, 5), (6, 215), (7, 216), (8, 217), (9, 218), (10, 219)]), 11, 48, [.junk], false⟩,
  some ⟨(.struct [(0, 12), (1, 12), (2, 176), (3, 214), (4, 5), (5, 5), (6, 215), (7, 216), (8, 217), (9, 218), (10, 219)]), 11, 48, [.junk], false⟩,
  some ⟨.other, 1, 8, [.junk], false⟩]
def wfs : List Nat := [38, 73, 84, 198, 218, 219, 14, 15, 47, 210, 186]
def xfs : List Nat := [97, 98, 107]
def rfs : List (Nat × Bool × Bool × Bool) := [(23, false, true, false), (32, false, true, false), (54, false, false, true), (55, true, true, false), (56, true, true, false), (57, true, false, false), (58, true, false, false), (59, true, true, false), (70, true, true, false), (92, true, false, false), (93, true, false, false), (94, true, true, false), (95, true, true, false), (96, true, false, false), (130, true, true, false), (131, true, false, false), (132, true, false, false), (133, true, false, false), (134, true, true, false)]
def tls : List Nat := [94]
def sgs : List (Nat × Bool) := [(0, false), (1, false), (2, false), (3, false), (4, false), (5, false), (6, false), (7, false), (8, true), (9, true), (10, false), (11, true), (12, false), (13, false), (16, false), (17, false), (18, false), (19, true), (20, false), (21, false), (22, false), (24, true), (25, true), (26, false), (27, false), (28, false), (29, true), (30, false), (31, false), (33, true), (34, false), (35, false), (36, true), (37, false), (39, false), (40, true), (41, false), (42, true), (43, true), (44, false), (45, false), (46, false), (48, false), (49, false), (50, false), (51, false), (52, false), (53, false), (60, true), (61, true), (62, true), (63, true), (64, true), (65, false), (66, false), (67, false), (68, true), (69, false), (71, true), (72, false), (74, false), (75, false), (76, true), (77, true), (78, true), (79, true), (80, false), (81, false), (82, true), (83, true), (85, false), (86, false), (87, false), (88, false), (89, false), (90, false), (91, false), (99, false), (100, true), (101, false), (102, false), (103, false), (104, false), (105, false), (106, true), (108, false), (109, false), (110, true), (111, true), (112, true), (113, true), (114, true), (115, true), (116, false), (117, true), (118, false), (119, true), (120, true), (121, false), (122, true), (123, false), (124, false), (125, false), (126, false), (127, false), (128, false), (129, false), (135, false), (136, false), (137, false), (138, true), (139, false), (140, true), (141, false), (142, true), (143, false), (144, false), (145, true), (146, false), (147, false), (148, true), (149, false), (150, false), (151, false), (152, true), (153, false), (154, false), (155, false), (156, false), (157, false), (158, false), (159, false), (160, false), (161, false), (162, false), (163, false), (164, false), (165, true), (166, false), (167, false), (168, true), (169, false), (170, false), (171, false), (172, false), (173, false), (174, false), (175, false), (176, false), (177, false), (178, true), (179, false), (180, false), (181, false), (182, true), (183, false), (184, true), (185, true), (187, false), (188, false), (189, false), (190, false), (191, false), (192, false), (193, false), (194, false), (195, false), (196, false), (197, false), (199, false), (200, false), (201, false), (202, true), (203, false), (204, false), (205, false), (206, false), (207, true), (208, false), (209, false), (211, false), (212, false), (213, false), (214, false), (215, false), (216, false), (217, false), (220, false), (221, false), (222, false), (223, false), (224, false), (225, false), (226, false), (227, false), (228, false), (229, false), (230, false), (231, false), (232, false), (233, false), (234, false), (235, false), (236, false), (237, false)]
def i3 : Comp := ⟨(.seq (.ops [s 3 (.box 3 (t 1)),
  s 4 (.mv (c (.bool false)))])
 (.seq (.ops [s 5 (.mv (c (i 1048576)))])
 (.seq (.ops [s 13 (.mv (t 0)),
  s 14 (.mv (t 5)),
  k 15 7 [(t 13), (t 14)] .sc,
  s 5 (.mv (t 15))])
 (.seq (.seq (.ops [s 16 (.mv (t 5)),
  s 17 (.bin .lss (t 16) (c (i 0)))])
 (.cond (t 17) (.seq (.ops [s 4 (.mv (c (.bool true)))])
 .ret) .skip))
 (.seq (.ops [s 18 (.mv (t 0)),
  k 19 9 [(t 18)] .lin,
  s 20 (.ldB 3 0 3 true true),
  k 21 10 [(t 20)] .sc,
  k 22 8 [(t 19), (t 21)] .lin,
  s 6 (.mv (t 22))])
 (.seq (.ops [s 23 (.mv (t 0)),
  k 24 9 [(t 23)] .lin,
  s 7 (.mv (t 24))])
 (.seq (.ops [s 25 (.mv (t 7)),
  s 26 (.ldB 3 0 3 true true),
  k 27 10 [(t 26)] .sc,
  k 28 11 [(t 25), (t 27)] .lin,
  s 8 (.mv (t 28))])
 (.seq (.seq (.ops [s 29 (.mv (t 8)),
  s 30 (.mv (t 6)),
  k 31 12 [(t 29), (t 30)] .sc,
  s 32 (.not (t 31))])
 (.cond (t 32) (.seq (.ops [s 4 (.mv (c (.bool false)))])
 .ret) .skip))
 (.seq (.seq (.ops [s 33 (.mv (t 7)),
  s 34 (.mv (t 0)),
  k 35 9 [(t 34)] .lin,
  k 36 13 [(t 33), (t 35)] .sc,
  s 37 (.not (t 36))])
 (.cond (t 37) (.seq (.ops [s 4 (.mv (c (.bool false)))])
 .ret) .skip))
 (.seq (.ops [s 9 (.mv (c (i 1)))])
 (.seq (.seq (.ops [s 38 (.mv (t 7)),
  s 39 (.mv (t 9))])
 (.seq (opM 40 14 7 [(t 39)])
 (.ops [s 9 (.mv (t 40))])))
 (.seq (.seq (.ops [s 41 (.mv (t 9)),
  s 42 (.bin .lss (t 41) (c (i 0))),
  s 43 (.mv (t 42)),
  sg [(43, false)] 44 (.mv (t 8)),
  sg [(43, false)] 45 (.mv (t 6)),
  kg [(43, false)] 46 12 [(t 44), (t 45)] .sc,
  sg [(43, false)] 47 (.not (t 46)),
  s 48 (.pick (t 43) (c (.bool true)) (t 47))])
 (.cond (t 48) (.seq (.ops [s 4 (.mv (c (.bool false)))])
 .ret) .skip))
 (.seq (.ops [s 10 (.mv (c (i 1)))])
 (.seq (.seq (.ops [s 49 (.mv (t 8)),
  s 50 (.mv (t 10))])
 (.seq (opM 51 15 8 [(t 50)])
 (.ops [s 10 (.mv (t 51))])))
 (.seq (.ops [s 11 (.mv (c (i 1)))])
 (.seq (.ops [s 52 (.mv (t 8)),
  s 53 (.mv (t 11)),
  k 54 16 [(t 52), (t 53)] .sc,
  s 11 (.mv (t 54))])
 (.seq (.seq (.ops [s 55 (.mv (t 11)),
  s 56 (.bin .lss (t 55) (c (i 0)))])
 (.cond (t 56) (.seq (.ops [s 4 (.mv (c (.bool false)))])
 .ret) .skip))
 (.seq (.seq (.ops [s 57 (.mv (t 11)),
  s 58 (.mv (t 10)),
  s 59 (.bin .neq (t 57) (t 58))])
 (.cond (t 59) (.seq (.ops [s 4 (.mv (c (.bool false)))])
 .ret) .skip))
 (.seq (.ops [s 60 (.mv (t 0)),
  k 61 9 [(t 60)] .lin,
  s 62 (.ldB 3 0 3 true true),
  k 63 10 [(t 62)] .sc,
  k 64 11 [(t 61), (t 63)] .lin,
  s 12 (.mv (t 64))])
 (.seq (.seq (.ops [s 65 (.mv (t 12)),
  s 66 (.mv (t 6)),
  k 67 12 [(t 65), (t 66)] .sc,
  s 68 (.not (t 67))])
 (.cond (t 68) (.seq (.ops [s 4 (.mv (c (.bool false)))])
 .ret) .skip))
 (.seq (.ops [s 11 (.mv (c (i 1)))])
 (.seq (.ops [s 69 (.mv (t 8)),
  s 70 (.mv (t 11)),
  k 71 16 [(t 69), (t 70)] .sc,
  s 11 (.mv (t 71))])
 (.seq (.seq (.ops [s 72 (.mv (t 11)),
  s 73 (.bin .lss (t 72) (c (i 0)))])
 (.cond (t 73) (.seq (.ops [s 4 (.mv (c (.bool false)))])
 .ret) .skip))
 (.seq (.seq (.ops [s 74 (.mv (t 11)),
  s 75 (.mv (t 10)),
  s 76 (.bin .neq (t 74) (t 75))])
 (.cond (t 76) (.seq (.ops [s 4 (.mv (c (.bool false)))])
 .ret) .skip))
 (.seq (.ops [s 4 (.mv (c (.bool true)))])
 .ret))))))))))))))))))))))))), none, [4], [false, true]⟩
def i4 : Comp := ⟨(.seq (.ops [s 6 (.mv (c (.bool false)))])
 (.seq (.ops [s 7 (.mv (c (i 1048576)))])
 (.seq (.ops [s 12 (.mv (t 0)),
  s 13 (.mv (t 7)),
  k 14 7 [(t 12), (t 13)] .sc,
  s 7 (.mv (t 14))])
 (.seq (.seq (.ops [s 15 (.mv (t 7)),
  s 16 (.bin .lss (t 15) (c (i 0)))])
 (.cond (t 16) (.seq (.ops [s 6 (.mv (c (.bool true)))])
 .ret) .skip))
 (.seq (.ops [s 17 (.mv (t 1)),
  s 18 (.mv (t 7)),
  k 19 17 [(t 17), (t 18)] .sc,
  s 7 (.mv (t 19))])
 (.seq (.seq (.ops [s 20 (.mv (t 7)),
  s 21 (.bin .lss (t 20) (c (i 0)))])
 (.cond (t 21) (.seq (.ops [s 6 (.mv (c (.bool true)))])
 .ret) .skip))
 (.seq (.ops [s 22 (.mv (t 0)),
  k 23 9 [(t 22)] .lin,
  s 24 (.mv (t 1)),
  k 25 19 [(t 24)] .lin,
  s 26 (.mv (t 2)),
  k 27 18 [(t 23), (t 25), (t 26)] .sc,
  s 8 (.mv (t 27))])
 (.seq (.ops [s 28 (.mv (t 0)),
  k 29 9 [(t 28)] .lin,
  s 9 (.mv (t 29))])
 (.seq (.ops [s 30 (.mv (t 1)),
  k 31 19 [(t 30)] .lin,
  s 10 (.mv (t 31))])
 (.seq (.ops [s 32 (.mv (t 9)),
  s 33 (.mv (t 10)),
  s 34 (.mv (t 2)),
  k 35 20 [(t 32), (t 33), (t 34)] .sc,
  s 11 (.mv (t 35))])
 (.seq (.seq (.ops [s 36 (.mv (t 11)),
  s 37 (.mv (t 8)),
  s 38 (.bin .neq (t 36) (t 37))])
 (.cond (t 38) (.seq (.ops [s 6 (.mv (c (.bool false)))])
 .ret) .skip))
 (.seq (.seq (.ops [s 39 (.mv (t 9)),
  s 40 (.mv (t 0)),
  k 41 9 [(t 40)] .lin,
  k 42 13 [(t 39), (t 41)] .sc,
  s 43 (.not (t 42))])
 (.cond (t 43) (.seq (.ops [s 6 (.mv (c (.bool false)))])
 .ret) .skip))
 (.seq (.seq (.ops [s 44 (.mv (t 10)),
  s 45 (.mv (t 1)),
  k 46 19 [(t 45)] .lin,
  k 47 21 [(t 44), (t 46)] .sc,
  s 48 (.not (t 47))])
 (.cond (t 48) (.seq (.ops [s 6 (.mv (c (.bool false)))])
 .ret) .skip))
 (.seq (.ops [s 6 (.mv (c (.bool true)))])
 .ret)))))))))))))), none, [6], [false, false, true]⟩
def i7 : Comp := ⟨(.seq (.ops [s 4 (.mv (c (i 0)))])
 (.seq (.ops [s 6 (.mv (t 1)),
  s 7 (.mv (t 0)),
  s 8 (.len false (t 7)),
  s 9 (.bin .sub (t 6) (t 8)),
  s 1 (.mv (t 9))])
 (.seq (.seq (.ops [s 10 (.mv (t 1)),
  s 11 (.bin .lss (t 10) (c (i 0)))])
 (.cond (t 11) (.seq (.ops [s 4 (.mv (c (i (-1))))])
 .ret) .skip))
 (.seq (.seq (.ops [s 5 (.mv (c (i 0)))])
 (.block 0 (.loop (.seq (.seq (.ops [s 12 (.mv (t 5)),
  s 13 (.mv (t 0)),
  s 14 (.len false (t 13)),
  s 15 (.bin .lss (t 12) (t 14))])
 (.cond (t 15) .skip (.exit 0)))
 (.seq (.block 1 (.seq (.ops [s 18 (.mv (t 0)),
  s 19 (.mv (t 5)),
  s 20 (.idx (t 18) (t 19) 5),
  s 21 (.ldE 18 20 0 5 true false 5),
  s 22 (.mv (t 1)),
  k 23 39 [(t 21), (t 22)] .sc,
  s 1 (.mv (t 23))])
 (.seq (.ops [s 24 (.mv (t 1)),
  s 25 (.bin .lss (t 24) (c (i 0)))])
 (.cond (t 25) (.seq (.ops [s 4 (.mv (c (i (-1))))])
 .ret) .skip))))
 (.ops [s 16 (.mv (t 5)),
  s 17 (.bin .add (t 16) (c (i 1))),
  s 5 (.mv (t 17))]))))))
 (.seq (.ops [s 26 (.mv (t 1)),
  s 4 (.mv (t 26))])
 .ret))))), none, [4], [false, true]⟩
def i8 : Comp := ⟨(.seq (.ops [s 3 (.box 3 (t 1)),
  s 4 (.mv (c (.lst 1 true [])))])
 (.seq (.ops [s 8 (.bsl 1 []),
  s 5 (.mv (t 8))])
 (.seq (.ops [s 9 (.mv (t 0)),
  s 10 (.ldB 3 0 3 true true),
  k 11 40 [(t 9), (t 10)] .lin,
  s 6 (.mv (t 11))])
 (.seq (.seq (.ops [s 7 (.mv (c (i 0)))])
 (.block 0 (.loop (.seq (.seq (.ops [s 12 (.mv (t 7)),
  s 13 (.mv (t 6)),
  s 14 (.len false (t 13)),
  s 15 (.bin .lss (t 12) (t 14))])
 (.cond (t 15) .skip (.exit 0)))
 (.seq (.block 1 (.seq (.ops [s 18 (.mv (t 0)),
  s 19 (.mv (t 0)),
  s 20 (.mv (t 6)),
  s 21 (.mv (t 7)),
  s 22 (.idx (t 20) (t 21) 1),
  s 23 (.ldE 20 22 0 1 false true 1),
  k 24 41 [(t 19), (t 23)] .sc,
  s 25 (.idx (t 18) (t 24) 5),
  s 26 (.mv (t 25)),
  s 27 (.ldE 18 26 1 1 false true 5),
  s 28 (.bin .neq (t 27) (c (i 1)))])
 (.cond (t 28) (.ops [s 29 (.mv (t 5)),
  s 30 (.mv (t 6)),
  s 31 (.mv (t 7)),
  s 32 (.idx (t 30) (t 31) 1),
  s 33 (.ldE 30 32 0 1 false true 1),
  s 34 (.bsl 1 [(t 33)]),
  s 35 (.app (t 29) (t 34) 1 8),
  s 5 (.mv (t 35))]) .skip)))
 (.ops [s 16 (.mv (t 7)),
  s 17 (.bin .add (t 16) (c (i 1))),
  s 7 (.mv (t 17))]))))))
 (.seq (.ops [s 36 (.mv (t 5)),
  s 4 (.mv (t 36))])
 .ret))))), none, [4], [false, true]⟩
def i9 : Comp := ⟨(.seq (.ops [s 2 (.mv (c (.lst 5 true [])))])
 (.seq (.ops [s 5 (.mv (t 0)),
  s 6 (.len false (t 5)),
  s 7 (.mks 5 64 [(i 0), (i 0), (i 0), (.str (bs [])), (.lst 2 true [])] (t 6)),
  s 3 (.mv (t 7))])
 (.seq (.seq (.ops [s 4 (.mv (c (i 0)))])
 (.block 0 (.loop (.seq (.seq (.ops [s 8 (.mv (t 4)),
  s 9 (.mv (t 0)),
  s 10 (.len false (t 9)),
  s 11 (.bin .lss (t 8) (t 10))])
 (.cond (t 11) .skip (.exit 0)))
 (.seq (.block 1 (.ops [s 14 (.mv (c .junk)),
  s 15 (.mv (t 4)),
  s 16 (.mv (t 0)),
  s 17 (.mv (t 4)),
  s 18 (.idx (t 16) (t 17) 5),
  s 19 (.ldE 16 18 0 5 true false 5),
  k 20 42 [(t 19)] .lin,
  s 21 (.idx (t 3) (t 15) 5),
  s 3 (.stF 3 21 5 (t 20))]))
 (.ops [s 12 (.mv (t 4)),
  s 13 (.bin .add (t 12) (c (i 1))),
  s 4 (.mv (t 13))]))))))
 (.seq (.ops [s 22 (.mv (c .junk)),
  s 2 (.mv (t 3))])
 .ret)))), none, [2], [false]⟩
def i10 : Comp := ⟨(.seq (.ops [s 1 (.box 3 (t 0)),
  s 2 (.alc [(i 0), (i 0), (i 0)])])
 (.seq (.ops [s 3 (.alc [(i 0), (i 0), (i 0)])])
 (.seq (.ops [s 4 (.mv (c (i 0))),
  s 5 (.ldB 1 0 1 false true),
  s 6 (.mv (c (i 0))),
  s 3 (.stB 3 0 1 (t 5) false)])
 (.seq (.ops [s 7 (.mv (c (i 0))),
  s 8 (.ldB 1 1 1 false true),
  s 9 (.mv (c (i 0))),
  s 3 (.stB 3 1 1 (t 8) false)])
 (.seq (.ops [s 10 (.mv (c (i 0))),
  s 11 (.ldB 1 2 1 false true),
  s 12 (.mv (c (i 0))),
  s 3 (.stB 3 2 1 (t 11) false)])
 (.seq (.ops [s 13 (.ldB 3 0 3 true true),
  s 2 (.stB 2 0 3 (t 13) false)])
 .ret)))))), (some ⟨2, 30, 3, true, false⟩), [], [true]⟩
def i11 : Comp := ⟨(.seq (.ops [s 3 (.box 3 (t 1)),
  s 4 (.mv (c (.lst 1 true [])))])
 (.seq (.ops [s 8 (.bsl 1 []),
  s 5 (.mv (t 8))])
 (.seq (.seq (.ops [s 9 (.mv (t 0)),
  s 10 (.ldB 3 0 3 true true),
  k 11 43 [(t 9), (t 10)] .lin,
  s 12 (.len false (t 11)),
  s 13 (.mv (c (i 0)))])
 (.block 0 (.loop (.seq (.ops [s 14 (.bin .lss (t 13) (t 12))])
 (.seq (.cond (t 14) .skip (.exit 0))
 (.seq (.block 1 (.seq (.ops [s 15 (.idx (t 11) (t 13) 1),
  s 16 (.ldE 11 15 0 1 false true 1),
  s 7 (.mv (t 16))])
 (.seq (.ops [s 17 (.mv (t 0)),
  s 18 (.mv (t 0)),
  s 19 (.mv (t 7)),
  k 20 44 [(t 18), (t 19)] .sc,
  s 21 (.idx (t 17) (t 20) 5),
  s 22 (.mv (t 21)),
  s 23 (.ldE 17 22 1 1 false true 5),
  s 24 (.bin .neq (t 23) (c (i 1)))])
 (.cond (t 24) (.ops [s 25 (.mv (t 5)),
  s 26 (.mv (t 7)),
  s 27 (.bsl 1 [(t 26)]),
  s 28 (.app (t 25) (t 27) 1 8),
  s 5 (.mv (t 28))]) .skip))))
 (.ops [s 29 (.bin .add (t 13) (c (i 1))),
  s 13 (.mv (t 29))])))))))
 (.seq (.ops [s 30 (.mv (t 5)),
  s 4 (.mv (t 30))])
 .ret)))), none, [4], [false, true]⟩
def i12 : Comp := ⟨(.seq (.ops [s 4 (.mv (c (.bool false)))])
 (.seq (.seq (.ops [s 6 (.mv (t 0)),
  s 7 (.len false (t 6)),
  s 8 (.mv (t 1)),
  s 9 (.len false (t 8)),
  s 10 (.bin .neq (t 7) (t 9))])
 (.cond (t 10) (.seq (.ops [s 4 (.mv (c (.bool false)))])
 .ret) .skip))
 (.seq (.seq (.ops [s 5 (.mv (c (i 0)))])
 (.block 0 (.loop (.seq (.seq (.ops [s 11 (.mv (t 5)),
  s 12 (.mv (t 0)),
  s 13 (.len false (t 12)),
  s 14 (.bin .lss (t 11) (t 13))])
 (.cond (t 14) .skip (.exit 0)))
 (.seq (.block 1 (.seq (.ops [s 17 (.mv (t 0)),
  s 18 (.mv (t 5)),
  s 19 (.idx (t 17) (t 18) 1),
  s 20 (.ldE 17 19 0 1 false true 1),
  s 21 (.mv (t 1)),
  s 22 (.mv (t 5)),
  s 23 (.idx (t 21) (t 22) 1),
  s 24 (.ldE 21 23 0 1 false true 1),
  s 25 (.bin .neq (t 20) (t 24))])
 (.cond (t 25) (.seq (.ops [s 4 (.mv (c (.bool false)))])
 .ret) .skip)))
 (.ops [s 15 (.mv (t 5)),
  s 16 (.bin .add (t 15) (c (i 1))),
  s 5 (.mv (t 16))]))))))
 (.seq (.ops [s 4 (.mv (c (.bool true)))])
 .ret)))), none, [4], [false, false]⟩
def i13 : Comp := ⟨(.seq (.ops [s 4 (.mv (c (.bool false)))])
 (.seq (.seq (.ops [s 6 (.mv (t 0)),
  s 7 (.len false (t 6)),
  s 8 (.mv (t 1)),
  s 9 (.len false (t 8)),
  s 10 (.bin .neq (t 7) (t 9))])
 (.cond (t 10) (.seq (.ops [s 4 (.mv (c (.bool false)))])
 .ret) .skip))
 (.seq (.seq (.ops [s 5 (.mv (c (i 0)))])
 (.block 0 (.loop (.seq (.seq (.ops [s 11 (.mv (t 5)),
  s 12 (.mv (t 0)),
  s 13 (.len false (t 12)),
  s 14 (.bin .lss (t 11) (t 13))])
 (.cond (t 14) .skip (.exit 0)))
 (.seq (.block 1 (.seq (.ops [s 17 (.mv (t 0)),
  s 18 (.mv (t 5)),
  s 19 (.idx (t 17) (t 18) 5),
  s 20 (.ldE 17 19 0 5 true false 5),
  s 21 (.mv (t 1)),
  s 22 (.mv (t 5)),
  s 23 (.idx (t 21) (t 22) 5),
  s 24 (.ldE 21 23 0 5 true false 5),
  k 25 45 [(t 20), (t 24)] .sc,
  s 26 (.not (t 25))])
 (.cond (t 26) (.seq (.ops [s 4 (.mv (c (.bool false)))])
 .ret) .skip)))
 (.ops [s 15 (.mv (t 5)),
  s 16 (.bin .add (t 15) (c (i 1))),
  s 5 (.mv (t 16))]))))))
 (.seq (.ops [s 4 (.mv (c (.bool true)))])
 .ret)))), none, [4], [false, false]⟩
def i14 : Comp := ⟨(.seq (.ops [s 4 (.mv (c (i 0)))])
 (.seq (.seq (.ops [s 5 (.mv (c (i 0)))])
 (.block 0 (.loop (.seq (.seq (.ops [s 6 (.mv (t 5)),
  s 7 (.mv (t 0)),
  s 8 (.len false (t 7)),
  s 9 (.bin .lss (t 6) (t 8))])
 (.cond (t 9) .skip (.exit 0)))
 (.seq (.block 1 (.seq (.seq (.ops [s 12 (.mv (t 0)),
  s 13 (.mv (t 5)),
  s 14 (.mv (t 1)),
  s 15 (.idx (t 12) (t 13) 5),
  s 16 (.mv (t 15))])
 (.seq (opW 0 16 0 1 5 (t 14))
 (.ops [])))
 (.seq (.ops [s 17 (.mv (t 1)),
  s 18 (.bin .add (t 17) (c (i 1))),
  s 1 (.mv (t 18))])
 (.seq (.seq (.ops [s 19 (.mv (t 0)),
  s 20 (.mv (t 5)),
  s 21 (.mv (t 1)),
  s 22 (.idx (t 19) (t 20) 5),
  s 23 (.mv (t 22))])
 (.seq (opW 0 23 1 1 5 (t 21))
 (.ops [])))
 (.seq (.ops [s 24 (.mv (t 1)),
  s 25 (.bin .add (t 24) (c (i 1))),
  s 1 (.mv (t 25))])
 (.seq (.seq (.ops [s 26 (.mv (t 0)),
  s 27 (.mv (t 5)),
  s 28 (.mv (t 1)),
  s 29 (.idx (t 26) (t 27) 5),
  s 30 (.mv (t 29))])
 (.seq (opW 0 30 2 1 5 (t 28))
 (.ops [])))
 (.seq (.ops [s 31 (.mv (t 1)),
  s 32 (.bin .add (t 31) (c (i 1))),
  s 1 (.mv (t 32))])
 (.seq (.seq (.ops [s 33 (.mv (t 0)),
  s 34 (.mv (t 5)),
  s 35 (.mv (t 1)),
  k 36 46 [(t 35)] .sc,
  s 37 (.idx (t 33) (t 34) 5),
  s 38 (.mv (t 37))])
 (.seq (opW 0 38 3 1 5 (t 36))
 (.ops [])))
 (.seq (.ops [s 39 (.mv (t 1)),
  s 40 (.bin .add (t 39) (c (i 1))),
  s 1 (.mv (t 40))])
 (.seq (.ops [s 41 (.mv (t 0)),
  s 42 (.mv (t 5)),
  s 43 (.idx (t 41) (t 42) 5),
  s 44 (.mv (t 43)),
  s 45 (.ldE 41 44 4 1 false false 5),
  s 46 (.mv (t 1))])
 (.seq (opE 47 47 0 44 4 5 [(t 46)])
 (.ops [s 1 (.mv (t 47))]))))))))))))
 (.ops [s 10 (.mv (t 5)),
  s 11 (.bin .add (t 10) (c (i 1))),
  s 5 (.mv (t 11))]))))))
 (.seq (.ops [s 48 (.mv (t 1)),
  s 4 (.mv (t 48))])
 .ret))), none, [4], [true]⟩
def i15 : Comp := ⟨(.seq (.ops [s 4 (.mv (c (i 0)))])
 (.seq (.seq (.ops [s 5 (.mv (c (i 0)))])
 (.block 0 (.loop (.seq (.seq (.ops [s 6 (.mv (t 5)),
  s 7 (.mv (t 0)),
  s 8 (.len false (t 7)),
  s 9 (.bin .lss (t 6) (t 8))])
 (.cond (t 9) .skip (.exit 0)))
 (.seq (.block 1 (.seq (.seq (.ops [s 12 (.mv (t 0)),
  s 13 (.mv (t 5)),
  s 14 (.mv (t 1)),
  s 15 (.idx (t 12) (t 13) 1)])
 (.seq (opW 0 15 0 1 1 (t 14))
 (.ops [])))
 (.ops [s 16 (.mv (t 1)),
  s 17 (.bin .add (t 16) (c (i 1))),
  s 1 (.mv (t 17))])))
 (.ops [s 10 (.mv (t 5)),
  s 11 (.bin .add (t 10) (c (i 1))),
  s 5 (.mv (t 11))]))))))
 (.seq (.ops [s 18 (.mv (t 1)),
  s 4 (.mv (t 18))])
 .ret))), none, [4], [true]⟩
def i16 : Comp := ⟨(.seq (.ops [s 4 (.mv (c (i 0)))])
 (.seq (.seq (.ops [s 5 (.mv (c (i 0)))])
 (.block 0 (.loop (.seq (.seq (.ops [s 6 (.mv (t 5)),
  s 7 (.mv (t 0)),
  s 8 (.len false (t 7)),
  s 9 (.bin .lss (t 6) (t 8))])
 (.cond (t 9) .skip (.exit 0)))
 (.seq (.block 1 (.seq (.seq (.ops [s 12 (.mv (t 0)),
  s 13 (.mv (t 5)),
  s 14 (.idx (t 12) (t 13) 1),
  s 15 (.ldE 12 14 0 1 false true 1),
  s 16 (.mv (t 1)),
  s 17 (.bin .neq (t 15) (t 16))])
 (.cond (t 17) (.seq (.ops [s 4 (.mv (c (i (-1))))])
 .ret) .skip))
 (.ops [s 18 (.mv (t 1)),
  s 19 (.bin .add (t 18) (c (i 1))),
  s 1 (.mv (t 19))])))
 (.ops [s 10 (.mv (t 5)),
  s 11 (.bin .add (t 10) (c (i 1))),
  s 5 (.mv (t 11))]))))))
 (.seq (.ops [s 20 (.mv (t 1)),
  s 4 (.mv (t 20))])
 .ret))), none, [4], [false, true]⟩
def i17 : Comp := ⟨(.seq (.ops [s 4 (.mv (c (i 0)))])
 (.seq (.ops [s 5 (.mv (t 1)),
  s 6 (.mv (t 0)),
  s 7 (.len false (t 6)),
  s 8 (.bin .sub (t 5) (t 7)),
  s 1 (.mv (t 8))])
 (.seq (.seq (.ops [s 9 (.mv (t 1)),
  s 10 (.bin .lss (t 9) (c (i 0)))])
 (.cond (t 10) (.seq (.ops [s 4 (.mv (c (i (-1))))])
 .ret) .skip))
 (.seq (.ops [s 11 (.mv (t 1)),
  s 4 (.mv (t 11))])
 .ret)))), none, [4], [false, true]⟩
def i18 : Comp := ⟨(.seq (.ops [s 6 (.mv (c (i 0)))])
 (.seq (.seq (.ops [s 8 (.mv (t 1)),
  k 9 48 [(t 8)] .sc,
  s 10 (.not (t 9)),
  s 11 (.mv (t 10)),
  sg [(11, false)] 12 (.mv (t 0)),
  kg [(11, false)] 13 49 [(t 12)] .sc,
  sg [(11, false)] 14 (.not (t 13)),
  s 15 (.pick (t 11) (c (.bool true)) (t 14)),
  s 16 (.mv (t 15)),
  sg [(16, false)] 17 (.mv (t 0)),
  sg [(16, false)] 18 (.mv (t 2)),
  kg [(16, false)] 19 41 [(t 17), (t 18)] .sc,
  sg [(16, false)] 20 (.bin .lss (t 19) (c (i 0))),
  s 21 (.pick (t 16) (c (.bool true)) (t 20))])
 (.cond (t 21) (.seq (.ops [s 6 (.mv (c (i (-1))))])
 .ret) .skip))
 (.seq (.seq (.ops [s 7 (.mv (c (i 0)))])
 (.block 0 (.loop (.seq (.seq (.ops [s 22 (.mv (t 7)),
  s 23 (.mv (t 1)),
  s 24 (.len false (t 23)),
  s 25 (.bin .lss (t 22) (t 24))])
 (.cond (t 25) .skip (.exit 0)))
 (.seq (.block 1 (.seq (.ops [s 28 (.mv (t 0)),
  s 29 (.mv (t 1)),
  s 30 (.mv (t 7)),
  s 31 (.idx (t 29) (t 30) 3),
  s 32 (.ldE 29 31 0 3 true true 3),
  k 33 40 [(t 28), (t 32)] .lin,
  s 34 (.mv (t 2)),
  k 35 50 [(t 33), (t 34)] .sc,
  s 36 (.not (t 35))])
 (.cond (t 36) (.seq (.ops [s 37 (.mv (t 7)),
  s 6 (.mv (t 37))])
 .ret) .skip)))
 (.ops [s 26 (.mv (t 7)),
  s 27 (.bin .add (t 26) (c (i 1))),
  s 7 (.mv (t 27))]))))))
 (.seq (.ops [s 38 (.mv (t 1)),
  s 39 (.len false (t 38)),
  s 6 (.mv (t 39))])
 .ret)))), none, [6], [false, false, true]⟩
def i19 : Comp := ⟨(.seq (.ops [s 2 (.mv (c (.lst 3 true [])))])
 (.seq (.ops [s 5 (.mv (t 0)),
  s 6 (.len false (t 5)),
  s 7 (.mks 3 24 [(i 0), (i 0), (i 0)] (t 6)),
  s 3 (.mv (t 7))])
 (.seq (.seq (.ops [s 4 (.mv (c (i 0)))])
 (.block 0 (.loop (.seq (.seq (.ops [s 8 (.mv (t 4)),
  s 9 (.mv (t 0)),
  s 10 (.len false (t 9)),
  s 11 (.bin .lss (t 8) (t 10))])
 (.cond (t 11) .skip (.exit 0)))
 (.seq (.block 1 (.ops [s 14 (.mv (c .junk)),
  s 15 (.mv (t 4)),
  s 16 (.mv (t 0)),
  s 17 (.mv (t 4)),
  s 18 (.idx (t 16) (t 17) 3),
  s 19 (.ldE 16 18 0 3 true true 3),
  k 20 10 [(t 19)] .sc,
  s 21 (.idx (t 3) (t 15) 3),
  s 3 (.stF 3 21 3 (t 20))]))
 (.ops [s 12 (.mv (t 4)),
  s 13 (.bin .add (t 12) (c (i 1))),
  s 4 (.mv (t 13))]))))))
 (.seq (.ops [s 22 (.mv (c .junk)),
  s 2 (.mv (t 3))])
 .ret)))), none, [2], [false]⟩
def i20 : Comp := ⟨(.seq (.ops [s 6 (.mv (c (i 0)))])
 (.seq (.seq (.ops [s 9 (.mv (t 1)),
  k 10 51 [(t 9)] .sc,
  s 11 (.not (t 10)),
  s 12 (.mv (t 11)),
  sg [(12, false)] 13 (.mv (t 0)),
  kg [(12, false)] 14 27 [(t 13)] .sc,
  sg [(12, false)] 15 (.not (t 14)),
  s 16 (.pick (t 12) (c (.bool true)) (t 15)),
  s 17 (.mv (t 16)),
  sg [(17, false)] 18 (.mv (t 0)),
  sg [(17, false)] 19 (.mv (t 2)),
  kg [(17, false)] 20 44 [(t 18), (t 19)] .sc,
  sg [(17, false)] 21 (.bin .lss (t 20) (c (i 0))),
  s 22 (.pick (t 17) (c (.bool true)) (t 21))])
 (.cond (t 22) (.seq (.ops [s 6 (.mv (c (i (-1))))])
 .ret) .skip))
 (.seq (.seq (.ops [s 23 (.mv (t 1)),
  s 24 (.len false (t 23)),
  s 25 (.mv (c (i 0)))])
 (.block 0 (.loop (.seq (.ops [s 26 (.bin .lss (t 25) (t 24))])
 (.seq (.cond (t 26) .skip (.exit 0))
 (.seq (.block 1 (.seq (.ops [s 27 (.mv (t 25)),
  s 28 (.idx (t 23) (t 25) 3),
  s 29 (.ldE 23 28 0 3 true true 3),
  s 8 (.alc [(i 0), (i 0), (i 0)]),
  s 7 (.mv (t 27)),
  s 8 (.stB 8 0 3 (t 29) false)])
 (.seq (.ops [s 30 (.mv (t 0)),
  s 31 (.ldB 8 0 3 true true),
  k 32 43 [(t 30), (t 31)] .lin,
  s 33 (.mv (t 2)),
  k 34 52 [(t 32), (t 33)] .sc,
  s 35 (.not (t 34))])
 (.cond (t 35) (.seq (.ops [s 36 (.mv (t 7)),
  s 6 (.mv (t 36))])
 .ret) .skip))))
 (.ops [s 37 (.bin .add (t 25) (c (i 1))),
  s 25 (.mv (t 37))])))))))
 (.seq (.ops [s 38 (.mv (t 1)),
  s 39 (.len false (t 38)),
  s 6 (.mv (t 39))])
 .ret)))), none, [6], [false, false, true]⟩
def i21 : Comp := ⟨(.seq (.ops [s 4 (.mv (c (.bool false)))])
 (.seq (.seq (.ops [s 6 (.mv (t 0)),
  s 7 (.len false (t 6)),
  s 8 (.mv (t 1)),
  s 9 (.len false (t 8)),
  s 10 (.bin .neq (t 7) (t 9))])
 (.cond (t 10) (.seq (.ops [s 4 (.mv (c (.bool false)))])
 .ret) .skip))
 (.seq (.seq (.ops [s 5 (.mv (c (i 0)))])
 (.block 0 (.loop (.seq (.seq (.ops [s 11 (.mv (t 5)),
  s 12 (.mv (t 0)),
  s 13 (.len false (t 12)),
  s 14 (.bin .lss (t 11) (t 13))])
 (.cond (t 14) .skip (.exit 0)))
 (.seq (.block 1 (.seq (.ops [s 17 (.mv (t 0)),
  s 18 (.mv (t 5)),
  s 19 (.idx (t 17) (t 18) 3),
  s 20 (.ldE 17 19 0 3 true true 3),
  s 21 (.mv (t 1)),
  s 22 (.mv (t 5)),
  s 23 (.idx (t 21) (t 22) 3),
  s 24 (.ldE 21 23 0 3 true true 3),
  k 25 53 [(t 20), (t 24)] .sc,
  s 26 (.not (t 25))])
 (.cond (t 26) (.seq (.ops [s 4 (.mv (c (.bool false)))])
 .ret) .skip)))
 (.ops [s 15 (.mv (t 5)),
  s 16 (.bin .add (t 15) (c (i 1))),
  s 5 (.mv (t 16))]))))))
 (.seq (.ops [s 4 (.mv (c (.bool true)))])
 .ret)))), none, [4], [false, false]⟩
def i27 : Comp := ⟨(.seq (.ops [s 2 (.mv (c (.bool false)))])
 (.seq (.seq (.ops [s 5 (.mv (t 0)),
  s 6 (.len false (t 5)),
  s 7 (.bin .gtr (t 6) (c (i 16)))])
 (.cond (t 7) (.seq (.ops [s 2 (.mv (c (.bool false)))])
 .ret) .skip))
 (.seq (.seq (.ops [s 8 (.mv (t 0)),
  s 9 (.len false (t 8)),
  s 10 (.mv (c (i 0)))])
 (.block 0 (.loop (.seq (.ops [s 11 (.bin .lss (t 10) (t 9))])
 (.seq (.cond (t 11) .skip (.exit 0))
 (.seq (.block 1 (.seq (.ops [s 12 (.mv (t 10)),
  s 13 (.idx (t 8) (t 10) 5),
  s 14 (.ldE 8 13 0 5 true false 5),
  s 4 (.alc [(i 0), (i 0), (i 0), (.str (bs [])), (.lst 2 true [])]),
  s 3 (.mv (t 12)),
  s 4 (.stB 4 0 5 (t 14) false)])
 (.seq (.ops [s 15 (.ldB 4 0 5 true false),
  k 16 67 [(t 15)] .sc,
  s 17 (.not (t 16)),
  s 18 (.mv (t 17)),
  sg [(18, false)] 19 (.mv (t 3)),
  sg [(18, false)] 20 (.bin .gtr (t 19) (c (i 0))),
  sg [(18, false)] 21 (.mv (t 20)),
  sg [(21, true), (18, false)] 22 (.mv (c (i 0))),
  sg [(21, true), (18, false)] 23 (.ldB 4 0 1 false true),
  sg [(21, true), (18, false)] 24 (.mv (t 0)),
  sg [(21, true), (18, false)] 25 (.mv (t 3)),
  sg [(21, true), (18, false)] 26 (.bin .sub (t 25) (c (i 1))),
  sg [(21, true), (18, false)] 27 (.idx (t 24) (t 26) 5),
  sg [(21, true), (18, false)] 28 (.mv (t 27)),
  sg [(21, true), (18, false)] 29 (.ldE 24 28 0 1 false true 5),
  sg [(21, true), (18, false)] 30 (.bin .leq (t 23) (t 29)),
  sg [(18, false)] 31 (.pick (t 21) (t 30) (c (.bool false))),
  s 32 (.pick (t 18) (c (.bool true)) (t 31))])
 (.cond (t 32) (.seq (.ops [s 2 (.mv (c (.bool false)))])
 .ret) .skip))))
 (.ops [s 33 (.bin .add (t 10) (c (i 1))),
  s 10 (.mv (t 33))])))))))
 (.seq (.ops [s 2 (.mv (c (.bool true)))])
 .ret)))), none, [2], [false]⟩
def i39 : Comp := ⟨(.seq (.ops [s 2 (.box 5 (t 0)),
  s 4 (.mv (c (i 0)))])
 (.seq (.ops [s 5 (.mv (t 1)),
  s 6 (.mv (c (i 0))),
  s 7 (.ldB 2 3 1 false true),
  s 8 (.len true (t 7)),
  s 9 (.bin .sub (t 5) (t 8)),
  s 1 (.mv (t 9))])
 (.seq (.seq (.ops [s 10 (.mv (t 1)),
  s 11 (.bin .lss (t 10) (c (i 0)))])
 (.cond (t 11) (.seq (.ops [s 4 (.mv (c (i (-1))))])
 .ret) .skip))
 (.seq (.ops [s 12 (.mv (c (i 0))),
  s 13 (.ldB 2 4 1 false false),
  s 14 (.mv (t 1)),
  k 15 74 [(t 13), (t 14)] .sc,
  s 1 (.mv (t 15))])
 (.seq (.seq (.ops [s 16 (.mv (t 1)),
  s 17 (.bin .lss (t 16) (c (i 0)))])
 (.cond (t 17) (.seq (.ops [s 4 (.mv (c (i (-1))))])
 .ret) .skip))
 (.seq (.ops [s 18 (.mv (t 1)),
  s 4 (.mv (t 18))])
 .ret)))))), none, [4], [false, true]⟩
def i40 : Comp := ⟨(.seq (.ops [s 3 (.box 3 (t 1)),
  s 4 (.mv (c (.lst 1 true [])))])
 (.seq (.ops [s 9 (.bsl 1 []),
  s 5 (.mv (t 9))])
 (.seq (.seq (.ops [s 10 (.mv (t 0)),
  k 11 49 [(t 10)] .sc,
  s 12 (.not (t 11)),
  s 13 (.mv (t 12)),
  sg [(13, false)] 14 (.ldB 3 0 3 true true),
  kg [(13, false)] 15 75 [(t 14)] .sc,
  sg [(13, false)] 16 (.not (t 15)),
  s 17 (.pick (t 13) (c (.bool true)) (t 16))])
 (.cond (t 17) (.seq (.ops [s 18 (.mv (t 5)),
  s 4 (.mv (t 18))])
 .ret) .skip))
 (.seq (.ops [s 19 (.mv (t 0)),
  s 20 (.mv (c (i 0))),
  s 21 (.ldB 3 0 1 false true),
  k 22 76 [(t 19), (t 21)] .lin,
  s 6 (.mv (t 22))])
 (.seq (.ops [s 23 (.mv (t 6)),
  k 24 78 [(t 23)] .lin,
  s 25 (.mv (c (i 0))),
  s 26 (.ldB 3 1 1 false true),
  k 27 77 [(t 24), (t 26)] .lin,
  s 7 (.mv (t 27))])
 (.seq (.seq (.ops [s 8 (.mv (c (i 0)))])
 (.block 0 (.loop (.seq (.seq (.ops [s 28 (.mv (t 8)),
  s 29 (.mv (t 6)),
  s 30 (.len false (t 29)),
  s 31 (.bin .lss (t 28) (t 30))])
 (.cond (t 31) .skip (.exit 0)))
 (.seq (.block 1 (.seq (.ops [s 34 (.mv (t 6)),
  s 35 (.mv (t 8)),
  s 36 (.idx (t 34) (t 35) 5),
  s 37 (.mv (t 36)),
  s 38 (.ldE 34 37 1 1 false true 5),
  s 39 (.bin .neq (t 38) (c (i 1))),
  s 40 (.mv (t 39)),
  sg [(40, false)] 41 (.mv (t 7)),
  sg [(40, false)] 42 (.mv (t 6)),
  sg [(40, false)] 43 (.mv (t 8)),
  sg [(40, false)] 44 (.idx (t 42) (t 43) 5),
  sg [(40, false)] 45 (.mv (t 44)),
  sg [(40, false)] 46 (.ldE 42 45 0 1 false true 5),
  kg [(40, false)] 47 50 [(t 41), (t 46)] .sc,
  s 48 (.pick (t 40) (c (.bool true)) (t 47))])
 (.cond (t 48) (.ops [s 49 (.mv (t 5)),
  s 50 (.mv (t 6)),
  s 51 (.mv (t 8)),
  s 52 (.idx (t 50) (t 51) 5),
  s 53 (.mv (t 52)),
  s 54 (.ldE 50 53 0 1 false true 5),
  s 55 (.bsl 1 [(t 54)]),
  s 56 (.app (t 49) (t 55) 1 8),
  s 5 (.mv (t 56))]) .skip)))
 (.ops [s 32 (.mv (t 8)),
  s 33 (.bin .add (t 32) (c (i 1))),
  s 8 (.mv (t 33))]))))))
 (.seq (.ops [s 57 (.mv (t 5)),
  s 4 (.mv (t 57))])
 .ret))))))), none, [4], [false, true]⟩
def i41 : Comp := ⟨(.seq (.ops [s 4 (.mv (c (i 0)))])
 (.seq (.seq (.ops [s 5 (.mv (c (i 0)))])
 (.block 0 (.loop (.seq (.seq (.ops [s 6 (.mv (t 5)),
  s 7 (.mv (t 0)),
  s 8 (.len false (t 7)),
  s 9 (.bin .lss (t 6) (t 8))])
 (.cond (t 9) .skip (.exit 0)))
 (.seq (.block 1 (.seq (.ops [s 12 (.mv (t 0)),
  s 13 (.mv (t 5)),
  s 14 (.idx (t 12) (t 13) 5),
  s 15 (.mv (t 14)),
  s 16 (.ldE 12 15 0 1 false true 5),
  s 17 (.mv (t 1)),
  s 18 (.bin .eql (t 16) (t 17))])
 (.cond (t 18) (.seq (.ops [s 19 (.mv (t 5)),
  s 4 (.mv (t 19))])
 .ret) .skip)))
 (.ops [s 10 (.mv (t 5)),
  s 11 (.bin .add (t 10) (c (i 1))),
  s 5 (.mv (t 11))]))))))
 (.seq (.ops [s 4 (.mv (c (i (-1))))])
 .ret))), none, [4], [false, true]⟩
def i42 : Comp := ⟨(.seq (.ops [s 1 (.box 5 (t 0)),
  s 2 (.alc [(i 0), (i 0), (i 0), (.str (bs [])), (.lst 2 true [])])])
 (.seq (.ops [s 3 (.alc [(i 0), (i 0), (i 0), (.str (bs [])), (.lst 2 true [])])])
 (.seq (.ops [s 4 (.mv (c (i 0))),
  s 5 (.ldB 1 0 1 false true),
  s 6 (.mv (c (i 0))),
  s 3 (.stB 3 0 1 (t 5) false)])
 (.seq (.ops [s 7 (.mv (c (i 0))),
  s 8 (.ldB 1 1 1 false true),
  s 9 (.mv (c (i 0))),
  s 3 (.stB 3 1 1 (t 8) false)])
 (.seq (.ops [s 10 (.mv (c (i 0))),
  s 11 (.ldB 1 2 1 false true),
  s 12 (.mv (c (i 0))),
  s 3 (.stB 3 2 1 (t 11) false)])
 (.seq (.ops [s 13 (.mv (c (i 0))),
  s 14 (.ldB 1 3 1 false true),
  s 15 (.mv (c (i 0))),
  s 3 (.stB 3 3 1 (t 14) false)])
 (.seq (.ops [s 16 (.mv (c (i 0))),
  s 17 (.ldB 1 4 1 false false),
  k 18 79 [(t 17)] .lin,
  s 19 (.mv (c (i 0))),
  s 3 (.stB 3 4 1 (t 18) false)])
 (.seq (.ops [s 20 (.ldB 3 0 5 true false),
  s 2 (.stB 2 0 5 (t 20) false)])
 .ret)))))))), (some ⟨2, 48, 5, true, false⟩), [], [false]⟩
def i43 : Comp := ⟨(.seq (.ops [s 3 (.box 3 (t 1)),
  s 4 (.mv (c (.lst 1 true [])))])
 (.seq (.ops [s 9 (.bsl 1 []),
  s 5 (.mv (t 9))])
 (.seq (.seq (.ops [s 10 (.mv (t 0)),
  k 11 27 [(t 10)] .sc,
  s 12 (.not (t 11)),
  s 13 (.mv (t 12)),
  sg [(13, false)] 14 (.ldB 3 0 3 true true),
  kg [(13, false)] 15 80 [(t 14)] .sc,
  sg [(13, false)] 16 (.not (t 15)),
  s 17 (.pick (t 13) (c (.bool true)) (t 16))])
 (.cond (t 17) (.seq (.ops [s 18 (.mv (t 5)),
  s 4 (.mv (t 18))])
 .ret) .skip))
 (.seq (.ops [s 19 (.mv (t 0)),
  s 20 (.mv (c (i 0))),
  s 21 (.ldB 3 0 1 false true),
  k 22 81 [(t 19), (t 21)] .ext,
  s 6 (.mv (t 22))])
 (.seq (.ops [s 23 (.mv (t 6)),
  k 24 83 [(t 23)] .lin,
  s 25 (.mv (c (i 0))),
  s 26 (.ldB 3 1 1 false true),
  k 27 82 [(t 24), (t 26)] .lin,
  s 5 (.mv (t 27))])
 (.seq (.seq (.ops [s 28 (.mv (t 6)),
  s 29 (.len false (t 28)),
  s 30 (.mv (c (i 0)))])
 (.block 0 (.loop (.seq (.ops [s 31 (.bin .lss (t 30) (t 29))])
 (.seq (.cond (t 31) .skip (.exit 0))
 (.seq (.block 1 (.seq (.ops [s 32 (.idx (t 28) (t 30) 5),
  s 33 (.ldE 28 32 0 5 true false 5),
  s 8 (.alc [(i 0), (i 0), (i 0), (.str (bs [])), (.lst 2 true [])]),
  s 8 (.stB 8 0 5 (t 33) false)])
 (.seq (.ops [s 34 (.mv (c (i 0))),
  s 35 (.ldB 8 1 1 false true),
  s 36 (.bin .neq (t 35) (c (i 1)))])
 (.cond (t 36) (.ops [s 37 (.mv (t 5)),
  s 38 (.mv (c (i 0))),
  s 39 (.ldB 8 0 1 false true),
  s 40 (.bsl 1 [(t 39)]),
  s 41 (.app (t 37) (t 40) 1 8),
  s 5 (.mv (t 41))]) .skip))))
 (.ops [s 42 (.bin .add (t 30) (c (i 1))),
  s 30 (.mv (t 42))])))))))
 (.seq (.seq (.ops [s 43 (.mv (t 5))])
 (.seq (opM 44 84 5 [])
 (.ops [])))
 (.seq (.ops [s 45 (.mv (t 5)),
  s 4 (.mv (t 45))])
 .ret)))))))), none, [4], [false, true]⟩
def i44 : Comp := ⟨(.seq (.ops [s 3 (.box 1 (t 1)),
  s 4 (.mv (c (i 0)))])
 (.seq (.ops [s 5 (.mv (t 0)),
  s 6 (.mkf 86 [(t 3)]),
  k 7 85 [(t 5), (t 6)] .sc,
  s 4 (.mv (t 7))])
 .ret)), none, [4], [false, true]⟩
def i45 : Comp := ⟨(.seq (.ops [s 2 (.box 5 (t 0)),
  s 3 (.box 5 (t 1)),
  s 4 (.mv (c (.bool false)))])
 (.seq (.seq (.ops [s 5 (.mv (c (i 0))),
  s 6 (.ldB 2 0 1 false true),
  s 7 (.mv (c (i 0))),
  s 8 (.ldB 3 0 1 false true),
  s 9 (.bin .neq (t 6) (t 8))])
 (.cond (t 9) (.seq (.ops [s 4 (.mv (c (.bool false)))])
 .ret) .skip))
 (.seq (.seq (.ops [s 10 (.mv (c (i 0))),
  s 11 (.ldB 2 1 1 false true),
  s 12 (.mv (c (i 0))),
  s 13 (.ldB 3 1 1 false true),
  s 14 (.bin .neq (t 11) (t 13))])
 (.cond (t 14) (.seq (.ops [s 4 (.mv (c (.bool false)))])
 .ret) .skip))
 (.seq (.seq (.ops [s 15 (.mv (c (i 0))),
  s 16 (.ldB 2 2 1 false true),
  s 17 (.mv (c (i 0))),
  s 18 (.ldB 3 2 1 false true),
  s 19 (.bin .neq (t 16) (t 18))])
 (.cond (t 19) (.seq (.ops [s 4 (.mv (c (.bool false)))])
 .ret) .skip))
 (.seq (.seq (.ops [s 20 (.mv (c (i 0))),
  s 21 (.ldB 2 3 1 false true),
  s 22 (.mv (c (i 0))),
  s 23 (.ldB 3 3 1 false true),
  s 24 (.bin .neq (t 21) (t 23))])
 (.cond (t 24) (.seq (.ops [s 4 (.mv (c (.bool false)))])
 .ret) .skip))
 (.seq (.seq (.ops [s 25 (.mv (c (i 0))),
  s 26 (.ldB 2 4 1 false false),
  s 27 (.mv (c (i 0))),
  s 28 (.ldB 3 4 1 false false),
  k 29 87 [(t 26), (t 28)] .sc,
  s 30 (.not (t 29))])
 (.cond (t 30) (.seq (.ops [s 4 (.mv (c (.bool false)))])
 .ret) .skip))
 (.seq (.ops [s 4 (.mv (c (.bool true)))])
 .ret))))))), none, [4], [false, false]⟩
def i46 : Comp := ⟨(.seq (.ops [s 2 (.mv (c (.str (bs []))))])
 (.seq (.seq (.ops [s 4 (.mv (t 0)),
  s 5 (.bin .leq (t 4) (c (i 0)))])
 (.cond (t 5) (.seq (.ops [s 2 (.mv (c (.str (bs [109, 48]))))])
 .ret) .skip))
 (.seq (.ops [s 3 (.mv (c (.str (bs []))))])
 (.seq (.block 0 (.loop (.seq (.seq (.ops [s 6 (.mv (t 0)),
  s 7 (.bin .gtr (t 6) (c (i 0)))])
 (.cond (t 7) .skip (.exit 0)))
 (.block 1 (.seq (.ops [s 8 (.mv (t 0)),
  s 9 (.bin .rem (t 8) (c (i 10))),
  s 10 (.bin .add (c (i 48)) (t 9)),
  s 11 (.conv .u8 (t 10)),
  s 12 (.bsl 1 [(t 11)]),
  s 13 (.bst (t 12)),
  s 14 (.mv (t 3)),
  s 15 (.bin .add (t 13) (t 14)),
  s 3 (.mv (t 15))])
 (.ops [s 16 (.mv (t 0)),
  s 17 (.bin .quo (t 16) (c (i 10))),
  s 0 (.mv (t 17))]))))))
 (.seq (.ops [s 18 (.mv (t 3)),
  s 19 (.bin .add (c (.str (bs [109]))) (t 18)),
  s 2 (.mv (t 19))])
 .ret))))), none, [2], [true]⟩
def i47 : Comp := ⟨(.seq (.ops [s 4 (.mv (c (i 0)))])
 (.seq (.seq (.ops [s 5 (.mv (c (i 0)))])
 (.block 0 (.loop (.seq (.seq (.ops [s 6 (.mv (t 5)),
  s 7 (.mv (t 0)),
  s 8 (.len false (t 7)),
  s 9 (.bin .lss (t 6) (t 8))])
 (.cond (t 9) .skip (.exit 0)))
 (.seq (.block 1 (.seq (.seq (.ops [s 12 (.mv (t 0)),
  s 13 (.mv (t 5)),
  s 14 (.mv (t 1)),
  s 15 (.idx (t 12) (t 13) 2),
  s 16 (.mv (t 15))])
 (.seq (opW 0 16 0 1 2 (t 14))
 (.ops [])))
 (.seq (.ops [s 17 (.mv (t 1)),
  s 18 (.bin .add (t 17) (c (i 1))),
  s 1 (.mv (t 18))])
 (.seq (.seq (.ops [s 19 (.mv (t 0)),
  s 20 (.mv (t 5)),
  s 21 (.mv (t 1)),
  s 22 (.idx (t 19) (t 20) 2),
  s 23 (.mv (t 22))])
 (.seq (opW 0 23 1 1 2 (t 21))
 (.ops [])))
 (.ops [s 24 (.mv (t 1)),
  s 25 (.bin .add (t 24) (c (i 1))),
  s 1 (.mv (t 25))])))))
 (.ops [s 10 (.mv (t 5)),
  s 11 (.bin .add (t 10) (c (i 1))),
  s 5 (.mv (t 11))]))))))
 (.seq (.ops [s 26 (.mv (t 1)),
  s 4 (.mv (t 26))])
 .ret))), none, [4], [true]⟩
def i48 : Comp := ⟨(.seq (.ops [s 2 (.mv (c (.bool false)))])
 (.seq (.seq (.ops [s 3 (.mv (c (i 0)))])
 (.block 0 (.loop (.seq (.seq (.ops [s 4 (.mv (t 3)),
  s 5 (.mv (t 0)),
  s 6 (.len false (t 5)),
  s 7 (.bin .lss (t 4) (t 6))])
 (.cond (t 7) .skip (.exit 0)))
 (.seq (.block 1 (.seq (.ops [s 10 (.mv (t 0)),
  s 11 (.mv (t 3)),
  s 12 (.idx (t 10) (t 11) 3),
  s 13 (.ldE 10 12 0 3 true true 3),
  k 14 75 [(t 13)] .sc,
  s 15 (.not (t 14)),
  s 16 (.mv (t 15)),
  sg [(16, false)] 17 (.mv (t 3)),
  sg [(16, false)] 18 (.bin .gtr (t 17) (c (i 0))),
  sg [(16, false)] 19 (.mv (t 18)),
  sg [(19, true), (16, false)] 20 (.mv (t 0)),
  sg [(19, true), (16, false)] 21 (.mv (t 3)),
  sg [(19, true), (16, false)] 22 (.bin .sub (t 21) (c (i 1))),
  sg [(19, true), (16, false)] 23 (.idx (t 20) (t 22) 3),
  sg [(19, true), (16, false)] 24 (.mv (t 23)),
  sg [(19, true), (16, false)] 25 (.ldE 20 24 0 1 false true 3),
  sg [(19, true), (16, false)] 26 (.mv (t 0)),
  sg [(19, true), (16, false)] 27 (.mv (t 3)),
  sg [(19, true), (16, false)] 28 (.idx (t 26) (t 27) 3),
  sg [(19, true), (16, false)] 29 (.mv (t 28)),
  sg [(19, true), (16, false)] 30 (.ldE 26 29 0 1 false true 3),
  sg [(19, true), (16, false)] 31 (.bin .gtr (t 25) (t 30)),
  sg [(19, true), (16, false)] 32 (.mv (t 31)),
  sg [(32, false), (19, true), (16, false)] 33 (.mv (t 0)),
  sg [(32, false), (19, true), (16, false)] 34 (.mv (t 3)),
  sg [(32, false), (19, true), (16, false)] 35 (.bin .sub (t 34) (c (i 1))),
  sg [(32, false), (19, true), (16, false)] 36 (.idx (t 33) (t 35) 3),
  sg [(32, false), (19, true), (16, false)] 37 (.mv (t 36)),
  sg [(32, false), (19, true), (16, false)] 38 (.ldE 33 37 1 1 false true 3),
  sg [(32, false), (19, true), (16, false)] 39 (.mv (t 0)),
  sg [(32, false), (19, true), (16, false)] 40 (.mv (t 3)),
  sg [(32, false), (19, true), (16, false)] 41 (.idx (t 39) (t 40) 3),
  sg [(32, false), (19, true), (16, false)] 42 (.mv (t 41)),
  sg [(32, false), (19, true), (16, false)] 43 (.ldE 39 42 1 1 false true 3),
  sg [(32, false), (19, true), (16, false)] 44 (.bin .gtr (t 38) (t 43)),
  sg [(19, true), (16, false)] 45 (.pick (t 32) (c (.bool true)) (t 44)),
  sg [(19, true), (16, false)] 46 (.mv (t 45)),
  sg [(46, false), (19, true), (16, false)] 47 (.mv (t 0)),
  sg [(46, false), (19, true), (16, false)] 48 (.mv (t 3)),
  sg [(46, false), (19, true), (16, false)] 49 (.bin .sub (t 48) (c (i 1))),
  sg [(46, false), (19, true), (16, false)] 50 (.idx (t 47) (t 49) 3),
  sg [(46, false), (19, true), (16, false)] 51 (.mv (t 50)),
  sg [(46, false), (19, true), (16, false)] 52 (.ldE 47 51 2 1 false true 3),
  sg [(46, false), (19, true), (16, false)] 53 (.mv (t 0)),
  sg [(46, false), (19, true), (16, false)] 54 (.mv (t 3)),
  sg [(46, false), (19, true), (16, false)] 55 (.idx (t 53) (t 54) 3),
  sg [(46, false), (19, true), (16, false)] 56 (.mv (t 55)),
  sg [(46, false), (19, true), (16, false)] 57 (.ldE 53 56 2 1 false true 3),
  sg [(46, false), (19, true), (16, false)] 58 (.bin .gtr (t 52) (t 57)),
  sg [(19, true), (16, false)] 59 (.pick (t 46) (c (.bool true)) (t 58)),
  sg [(16, false)] 60 (.pick (t 19) (t 59) (c (.bool false))),
  s 61 (.pick (t 16) (c (.bool true)) (t 60))])
 (.cond (t 61) (.seq (.ops [s 2 (.mv (c (.bool false)))])
 .ret) .skip)))
 (.ops [s 8 (.mv (t 3)),
  s 9 (.bin .add (t 8) (c (i 1))),
  s 3 (.mv (t 9))]))))))
 (.seq (.ops [s 62 (.mv (t 0)),
  s 63 (.len false (t 62)),
  k 64 88 [(t 63), (c (i 1)), (c (i 5))] .sc,
  s 2 (.mv (t 64))])
 .ret))), none, [2], [false]⟩
def i49 : Comp := ⟨(.seq (.ops [s 2 (.mv (c (.bool false)))])
 (.seq (.seq (.ops [s 3 (.mv (c (i 0)))])
 (.block 0 (.loop (.seq (.seq (.ops [s 4 (.mv (t 3)),
  s 5 (.mv (t 0)),
  s 6 (.len false (t 5)),
  s 7 (.bin .lss (t 4) (t 6))])
 (.cond (t 7) .skip (.exit 0)))
 (.seq (.block 1 (.seq (.ops [s 10 (.mv (t 0)),
  s 11 (.mv (t 3)),
  s 12 (.idx (t 10) (t 11) 5),
  s 13 (.ldE 10 12 0 5 true false 5),
  k 14 89 [(t 13)] .sc,
  s 15 (.not (t 14)),
  s 16 (.mv (t 15)),
  sg [(16, false)] 17 (.mv (t 3)),
  sg [(16, false)] 18 (.bin .gtr (t 17) (c (i 0))),
  sg [(16, false)] 19 (.mv (t 18)),
  sg [(19, true), (16, false)] 20 (.mv (t 0)),
  sg [(19, true), (16, false)] 21 (.mv (t 3)),
  sg [(19, true), (16, false)] 22 (.bin .sub (t 21) (c (i 1))),
  sg [(19, true), (16, false)] 23 (.idx (t 20) (t 22) 5),
  sg [(19, true), (16, false)] 24 (.mv (t 23)),
  sg [(19, true), (16, false)] 25 (.ldE 20 24 0 1 false true 5),
  sg [(19, true), (16, false)] 26 (.mv (t 0)),
  sg [(19, true), (16, false)] 27 (.mv (t 3)),
  sg [(19, true), (16, false)] 28 (.idx (t 26) (t 27) 5),
  sg [(19, true), (16, false)] 29 (.mv (t 28)),
  sg [(19, true), (16, false)] 30 (.ldE 26 29 0 1 false true 5),
  sg [(19, true), (16, false)] 31 (.bin .geq (t 25) (t 30)),
  sg [(16, false)] 32 (.pick (t 19) (t 31) (c (.bool false))),
  s 33 (.pick (t 16) (c (.bool true)) (t 32))])
 (.cond (t 33) (.seq (.ops [s 2 (.mv (c (.bool false)))])
 .ret) .skip)))
 (.ops [s 8 (.mv (t 3)),
  s 9 (.bin .add (t 8) (c (i 1))),
  s 3 (.mv (t 9))]))))))
 (.seq (.ops [s 34 (.mv (t 0)),
  s 35 (.len false (t 34)),
  s 36 (.bin .leq (t 35) (c (i 16))),
  s 2 (.mv (t 36))])
 .ret))), none, [2], [false]⟩
def i50 : Comp := ⟨(.seq (.ops [s 4 (.mv (c (.bool false)))])
 (.seq (.seq (.ops [s 5 (.mv (c (i 0)))])
 (.block 0 (.loop (.seq (.seq (.ops [s 6 (.mv (t 5)),
  s 7 (.mv (t 0)),
  s 8 (.len false (t 7)),
  s 9 (.bin .lss (t 6) (t 8))])
 (.cond (t 9) .skip (.exit 0)))
 (.seq (.block 1 (.seq (.ops [s 12 (.mv (t 0)),
  s 13 (.mv (t 5)),
  s 14 (.idx (t 12) (t 13) 1),
  s 15 (.ldE 12 14 0 1 false true 1),
  s 16 (.mv (t 1)),
  s 17 (.bin .eql (t 15) (t 16))])
 (.cond (t 17) (.seq (.ops [s 4 (.mv (c (.bool true)))])
 .ret) .skip)))
 (.ops [s 10 (.mv (t 5)),
  s 11 (.bin .add (t 10) (c (i 1))),
  s 5 (.mv (t 11))]))))))
 (.seq (.ops [s 4 (.mv (c (.bool false)))])
 .ret))), none, [4], [false, true]⟩
def i51 : Comp := ⟨(.seq (.ops [s 2 (.mv (c (.bool false)))])
 (.seq (.seq (.ops [s 5 (.mv (t 0)),
  s 6 (.len false (t 5)),
  k 7 90 [(t 6), (c (i 1)), (c (i 5))] .sc,
  s 8 (.not (t 7))])
 (.cond (t 8) (.seq (.ops [s 2 (.mv (c (.bool false)))])
 .ret) .skip))
 (.seq (.seq (.ops [s 9 (.mv (t 0)),
  s 10 (.len false (t 9)),
  s 11 (.mv (c (i 0)))])
 (.block 0 (.loop (.seq (.ops [s 12 (.bin .lss (t 11) (t 10))])
 (.seq (.cond (t 12) .skip (.exit 0))
 (.seq (.block 1 (.seq (.ops [s 13 (.mv (t 11)),
  s 14 (.idx (t 9) (t 11) 3),
  s 15 (.ldE 9 14 0 3 true true 3),
  s 4 (.alc [(i 0), (i 0), (i 0)]),
  s 3 (.mv (t 13)),
  s 4 (.stB 4 0 3 (t 15) false)])
 (.seq (.ops [s 16 (.ldB 4 0 3 true true),
  k 17 80 [(t 16)] .sc,
  s 18 (.not (t 17)),
  s 19 (.mv (t 18)),
  sg [(19, false)] 20 (.mv (t 3)),
  sg [(19, false)] 21 (.bin .gtr (t 20) (c (i 0))),
  sg [(19, false)] 22 (.mv (t 21)),
  sg [(22, true), (19, false)] 23 (.mv (c (i 0))),
  sg [(22, true), (19, false)] 24 (.ldB 4 0 1 false true),
  sg [(22, true), (19, false)] 25 (.mv (t 0)),
  sg [(22, true), (19, false)] 26 (.mv (t 3)),
  sg [(22, true), (19, false)] 27 (.bin .sub (t 26) (c (i 1))),
  sg [(22, true), (19, false)] 28 (.idx (t 25) (t 27) 3),
  sg [(22, true), (19, false)] 29 (.mv (t 28)),
  sg [(22, true), (19, false)] 30 (.ldE 25 29 0 1 false true 3),
  sg [(22, true), (19, false)] 31 (.bin .lss (t 24) (t 30)),
  sg [(22, true), (19, false)] 32 (.mv (t 31)),
  sg [(32, false), (22, true), (19, false)] 33 (.mv (c (i 0))),
  sg [(32, false), (22, true), (19, false)] 34 (.ldB 4 1 1 false true),
  sg [(32, false), (22, true), (19, false)] 35 (.mv (t 0)),
  sg [(32, false), (22, true), (19, false)] 36 (.mv (t 3)),
  sg [(32, false), (22, true), (19, false)] 37 (.bin .sub (t 36) (c (i 1))),
  sg [(32, false), (22, true), (19, false)] 38 (.idx (t 35) (t 37) 3),
  sg [(32, false), (22, true), (19, false)] 39 (.mv (t 38)),
  sg [(32, false), (22, true), (19, false)] 40 (.ldE 35 39 1 1 false true 3),
  sg [(32, false), (22, true), (19, false)] 41 (.bin .lss (t 34) (t 40)),
  sg [(22, true), (19, false)] 42 (.pick (t 32) (c (.bool true)) (t 41)),
  sg [(22, true), (19, false)] 43 (.mv (t 42)),
  sg [(43, false), (22, true), (19, false)] 44 (.mv (c (i 0))),
  sg [(43, false), (22, true), (19, false)] 45 (.ldB 4 2 1 false true),
  sg [(43, false), (22, true), (19, false)] 46 (.mv (t 0)),
  sg [(43, false), (22, true), (19, false)] 47 (.mv (t 3)),
  sg [(43, false), (22, true), (19, false)] 48 (.bin .sub (t 47) (c (i 1))),
  sg [(43, false), (22, true), (19, false)] 49 (.idx (t 46) (t 48) 3),
  sg [(43, false), (22, true), (19, false)] 50 (.mv (t 49)),
  sg [(43, false), (22, true), (19, false)] 51 (.ldE 46 50 2 1 false true 3),
  sg [(43, false), (22, true), (19, false)] 52 (.bin .lss (t 45) (t 51)),
  sg [(22, true), (19, false)] 53 (.pick (t 43) (c (.bool true)) (t 52)),
  sg [(19, false)] 54 (.pick (t 22) (t 53) (c (.bool false))),
  s 55 (.pick (t 19) (c (.bool true)) (t 54))])
 (.cond (t 55) (.seq (.ops [s 2 (.mv (c (.bool false)))])
 .ret) .skip))))
 (.ops [s 56 (.bin .add (t 11) (c (i 1))),
  s 11 (.mv (t 56))])))))))
 (.seq (.ops [s 2 (.mv (c (.bool true)))])
 .ret)))), none, [2], [false]⟩
def i52 : Comp := ⟨(.seq (.ops [s 4 (.mv (c (.bool false)))])
 (.seq (.ops [s 5 (.mv (t 0)),
  s 6 (.mv (t 1)),
  k 7 91 [(t 5), (t 6)] .sc,
  s 8 (.bin .geq (t 7) (c (i 0))),
  s 4 (.mv (t 8))])
 .ret)), none, [4], [false, true]⟩
def i53 : Comp := ⟨(.seq (.ops [s 2 (.box 3 (t 0)),
  s 3 (.box 3 (t 1)),
  s 4 (.mv (c (.bool false)))])
 (.seq (.seq (.ops [s 5 (.mv (c (i 0))),
  s 6 (.ldB 2 0 1 false true),
  s 7 (.mv (c (i 0))),
  s 8 (.ldB 3 0 1 false true),
  s 9 (.bin .neq (t 6) (t 8))])
 (.cond (t 9) (.seq (.ops [s 4 (.mv (c (.bool false)))])
 .ret) .skip))
 (.seq (.seq (.ops [s 10 (.mv (c (i 0))),
  s 11 (.ldB 2 1 1 false true),
  s 12 (.mv (c (i 0))),
  s 13 (.ldB 3 1 1 false true),
  s 14 (.bin .neq (t 11) (t 13))])
 (.cond (t 14) (.seq (.ops [s 4 (.mv (c (.bool false)))])
 .ret) .skip))
 (.seq (.seq (.ops [s 15 (.mv (c (i 0))),
  s 16 (.ldB 2 2 1 false true),
  s 17 (.mv (c (i 0))),
  s 18 (.ldB 3 2 1 false true),
  s 19 (.bin .neq (t 16) (t 18))])
 (.cond (t 19) (.seq (.ops [s 4 (.mv (c (.bool false)))])
 .ret) .skip))
 (.seq (.ops [s 4 (.mv (c (.bool true)))])
 .ret))))), none, [4], [true, true]⟩
def i67 : Comp := ⟨(.seq (.ops [s 1 (.box 5 (t 0)),
  s 2 (.mv (c (.bool false)))])
 (.seq (.seq (.ops [s 3 (.mv (c (i 0))),
  s 4 (.ldB 1 0 1 false true),
  k 5 90 [(t 4), (c (i 1)), (c (i 99))] .sc,
  s 6 (.not (t 5)),
  s 7 (.mv (t 6)),
  sg [(7, false)] 8 (.mv (c (i 0))),
  sg [(7, false)] 9 (.ldB 1 2 1 false true),
  kg [(7, false)] 10 90 [(t 9), (c (i 0)), (c (i 9))] .sc,
  sg [(7, false)] 11 (.not (t 10)),
  s 12 (.pick (t 7) (c (.bool true)) (t 11)),
  s 13 (.mv (t 12)),
  sg [(13, false)] 14 (.mv (c (i 0))),
  sg [(13, false)] 15 (.ldB 1 3 1 false true),
  sg [(13, false)] 16 (.bin .neq (t 15) (c (.str (bs [])))),
  sg [(13, false)] 17 (.mv (t 16)),
  sg [(17, true), (13, false)] 18 (.mv (c (i 0))),
  sg [(17, true), (13, false)] 19 (.ldB 1 3 1 false true),
  kg [(17, true), (13, false)] 20 102 [(t 19)] .sc,
  sg [(17, true), (13, false)] 21 (.not (t 20)),
  sg [(13, false)] 22 (.pick (t 17) (t 21) (c (.bool false))),
  s 23 (.pick (t 13) (c (.bool true)) (t 22))])
 (.cond (t 23) (.seq (.ops [s 2 (.mv (c (.bool false)))])
 .ret) .skip))
 (.seq (.seq (.ops [s 24 (.mv (c (i 0))),
  s 25 (.ldB 1 1 1 false true)])
 (.block 0 (.seq (.ops [s 27 (.bin .eql (t 25) (c (i 1))),
  s 26 (.mv (t 27))])
 (.cond (t 26) (.seq (.ops [s 28 (.mv (c (i 0))),
  s 29 (.ldB 1 4 1 false false),
  s 30 (.len false (t 29)),
  s 31 (.bin .eql (t 30) (c (i 1))),
  s 32 (.mv (t 31)),
  sg [(32, true)] 33 (.mv (c (i 0))),
  sg [(32, true)] 34 (.ldB 1 4 1 false false),
  sg [(32, true)] 35 (.idx (t 34) (c (i 0)) 2),
  sg [(32, true)] 36 (.ldE 34 35 0 2 true true 2),
  kg [(32, true)] 37 103 [(t 36)] .sc,
  s 38 (.pick (t 32) (t 37) (c (.bool false))),
  s 2 (.mv (t 38))])
 .ret) (.seq (.ops [s 40 (.bin .eql (t 25) (c (i 2))),
  s 39 (.mv (t 40))])
 (.cond (t 39) (.seq (.ops [s 41 (.mv (c (i 0))),
  s 42 (.ldB 1 4 1 false false),
  k 43 104 [(t 42)] .sc,
  s 2 (.mv (t 43))])
 .ret) (.seq (.ops [s 45 (.bin .eql (t 25) (c (i 3))),
  s 44 (.mv (t 45))])
 (.cond (t 44) (.seq (.ops [s 46 (.mv (c (i 0))),
  s 47 (.ldB 1 4 1 false false),
  k 48 105 [(t 47)] .sc,
  s 2 (.mv (t 48))])
 .ret) .skip))))))))
 (.seq (.ops [s 2 (.mv (c (.bool false)))])
 .ret)))), none, [2], [false]⟩
def i74 : Comp := ⟨(.seq (.ops [s 4 (.mv (c (i 0)))])
 (.seq (.ops [s 5 (.mv (t 1)),
  s 6 (.mv (t 0)),
  s 7 (.len false (t 6)),
  s 8 (.bin .sub (t 5) (t 7)),
  s 1 (.mv (t 8))])
 (.seq (.seq (.ops [s 9 (.mv (t 1)),
  s 10 (.bin .lss (t 9) (c (i 0)))])
 (.cond (t 10) (.seq (.ops [s 4 (.mv (c (i (-1))))])
 .ret) .skip))
 (.seq (.ops [s 11 (.mv (t 1)),
  s 4 (.mv (t 11))])
 .ret)))), none, [4], [false, true]⟩
def i75 : Comp := ⟨(.seq (.ops [s 1 (.box 3 (t 0)),
  s 2 (.mv (c (.bool false)))])
 (.seq (.ops [s 3 (.mv (c (i 0))),
  s 4 (.ldB 1 0 1 false true),
  k 5 88 [(t 4), (c (i 0)), (c (i 9))] .sc,
  s 6 (.mv (t 5)),
  sg [(6, true)] 7 (.mv (c (i 0))),
  sg [(6, true)] 8 (.ldB 1 1 1 false true),
  kg [(6, true)] 9 88 [(t 8), (c (i 0)), (c (i 200))] .sc,
  s 10 (.pick (t 6) (t 9) (c (.bool false))),
  s 11 (.mv (t 10)),
  sg [(11, true)] 12 (.mv (c (i 0))),
  sg [(11, true)] 13 (.ldB 1 2 1 false true),
  kg [(11, true)] 14 88 [(t 13), (c (i 0)), (c (i 100000))] .sc,
  s 15 (.pick (t 11) (t 14) (c (.bool false))),
  s 2 (.mv (t 15))])
 .ret)), none, [2], [true]⟩
def i76 : Comp := ⟨(.seq (.ops [s 4 (.mv (c (.lst 5 true [])))])
 (.seq (.ops [s 7 (.bsl 5 []),
  s 5 (.mv (t 7))])
 (.seq (.seq (.ops [s 6 (.mv (c (i 0)))])
 (.block 0 (.loop (.seq (.seq (.ops [s 8 (.mv (t 6)),
  s 9 (.mv (t 0)),
  s 10 (.len false (t 9)),
  s 11 (.bin .lss (t 8) (t 10))])
 (.cond (t 11) .skip (.exit 0)))
 (.seq (.block 1 (.seq (.ops [s 14 (.mv (t 0)),
  s 15 (.mv (t 6)),
  s 16 (.idx (t 14) (t 15) 5),
  s 17 (.mv (t 16)),
  s 18 (.ldE 14 17 2 1 false true 5),
  s 19 (.mv (t 1)),
  s 20 (.bin .geq (t 18) (t 19))])
 (.cond (t 20) (.ops [s 21 (.mv (t 5)),
  s 22 (.mv (t 0)),
  s 23 (.mv (t 6)),
  s 24 (.idx (t 22) (t 23) 5),
  s 25 (.ldE 22 24 0 5 true false 5),
  k 26 117 [(t 25)] .lin,
  s 27 (.bsl 5 [(t 26)]),
  s 28 (.app (t 21) (t 27) 5 64),
  s 5 (.mv (t 28))]) .skip)))
 (.ops [s 12 (.mv (t 6)),
  s 13 (.bin .add (t 12) (c (i 1))),
  s 6 (.mv (t 13))]))))))
 (.seq (.ops [s 29 (.mv (t 5)),
  s 4 (.mv (t 29))])
 .ret)))), none, [4], [false, true]⟩
def i77 : Comp := ⟨(.seq (.ops [s 4 (.mv (c (.lst 1 true [])))])
 (.seq (.ops [s 8 (.bsl 1 []),
  s 5 (.mv (t 8))])
 (.seq (.seq (.ops [s 9 (.mv (t 0)),
  k 10 118 [(t 9)] .sc,
  s 11 (.not (t 10)),
  s 12 (.mv (t 11)),
  sg [(12, false)] 13 (.mv (t 1)),
  kg [(12, false)] 14 88 [(t 13), (c (i 0)), (c (i 200))] .sc,
  sg [(12, false)] 15 (.not (t 14)),
  s 16 (.pick (t 12) (c (.bool true)) (t 15))])
 (.cond (t 16) (.seq (.ops [s 17 (.mv (t 5)),
  s 4 (.mv (t 17))])
 .ret) .skip))
 (.seq (.ops [s 18 (.mv (t 0)),
  s 19 (.mv (t 1)),
  k 20 119 [(t 18), (t 19)] .lin,
  s 6 (.mv (t 20))])
 (.seq (.seq (.ops [s 7 (.mv (c (i 0)))])
 (.block 0 (.loop (.seq (.seq (.ops [s 21 (.mv (t 7)),
  s 22 (.mv (t 6)),
  s 23 (.len false (t 22)),
  s 24 (.bin .lss (t 21) (t 23))])
 (.cond (t 24) .skip (.exit 0)))
 (.seq (.block 1 (.ops [s 27 (.mv (t 5)),
  s 28 (.mv (t 6)),
  s 29 (.mv (t 7)),
  s 30 (.idx (t 28) (t 29) 4),
  s 31 (.mv (t 30)),
  s 32 (.ldE 28 31 0 1 false true 4),
  k 33 120 [(t 27), (t 32)] .lin,
  s 5 (.mv (t 33))]))
 (.ops [s 25 (.mv (t 7)),
  s 26 (.bin .add (t 25) (c (i 1))),
  s 7 (.mv (t 26))]))))))
 (.seq (.ops [s 34 (.mv (t 5)),
  s 4 (.mv (t 34))])
 .ret)))))), none, [4], [false, true]⟩
def i78 : Comp := ⟨(.seq (.ops [s 2 (.mv (c (.lst 4 true [])))])
 (.seq (.ops [s 5 (.bsl 4 []),
  s 3 (.mv (t 5))])
 (.seq (.seq (.ops [s 4 (.mv (c (i 0)))])
 (.block 0 (.loop (.seq (.seq (.ops [s 6 (.mv (t 4)),
  s 7 (.mv (t 0)),
  s 8 (.len false (t 7)),
  s 9 (.bin .lss (t 6) (t 8)),
  s 10 (.mv (t 9)),
  sg [(10, true)] 11 (.mv (t 0)),
  kg [(10, true)] 12 49 [(t 11)] .sc,
  s 13 (.pick (t 10) (t 12) (c (.bool false)))])
 (.cond (t 13) .skip (.exit 0)))
 (.seq (.block 1 (.seq (.ops [s 16 (.mv (t 0)),
  s 17 (.mv (t 4)),
  s 18 (.idx (t 16) (t 17) 5),
  s 19 (.mv (t 18)),
  s 20 (.ldE 16 19 1 1 false true 5),
  s 21 (.bin .eql (t 20) (c (i 1)))])
 (.cond (t 21) (.ops [s 22 (.mv (t 3)),
  s 23 (.mv (t 0)),
  s 24 (.mv (t 4)),
  s 25 (.idx (t 23) (t 24) 5),
  s 26 (.mv (t 25)),
  s 27 (.ldE 23 26 0 1 false true 5),
  s 28 (.mv (t 0)),
  s 29 (.mv (t 4)),
  s 30 (.idx (t 28) (t 29) 5),
  s 31 (.mv (t 30)),
  s 32 (.ldE 28 31 4 1 false false 5),
  s 33 (.idx (t 32) (c (i 0)) 2),
  s 34 (.ldE 32 33 0 2 true true 2),
  s 35 (.mv (t 0)),
  s 36 (.mv (t 4)),
  s 37 (.idx (t 35) (t 36) 5),
  s 38 (.mv (t 37)),
  s 39 (.ldE 35 38 2 1 false true 5),
  s 40 (.bld [(i 0), (i 0), (i 0), (i 0)] [(0, 1, (t 27)), (1, 2, (t 34)), (3, 1, (t 39))]),
  s 41 (.bsl 4 [(t 40)]),
  s 42 (.app (t 22) (t 41) 4 32),
  s 3 (.mv (t 42))]) .skip)))
 (.ops [s 14 (.mv (t 4)),
  s 15 (.bin .add (t 14) (c (i 1))),
  s 4 (.mv (t 15))]))))))
 (.seq (.ops [s 43 (.mv (t 3)),
  s 2 (.mv (t 43))])
 .ret)))), none, [2], [false]⟩
def i79 : Comp := ⟨(.seq (.ops [s 2 (.mv (c (.lst 2 true [])))])
 (.seq (.ops [s 5 (.mv (t 0)),
  s 6 (.len false (t 5)),
  s 7 (.mks 2 16 [(i 0), (i 0)] (t 6)),
  s 3 (.mv (t 7))])
 (.seq (.seq (.ops [s 4 (.mv (c (i 0)))])
 (.block 0 (.loop (.seq (.seq (.ops [s 8 (.mv (t 4)),
  s 9 (.mv (t 0)),
  s 10 (.len false (t 9)),
  s 11 (.bin .lss (t 8) (t 10))])
 (.cond (t 11) .skip (.exit 0)))
 (.seq (.block 1 (.ops [s 14 (.mv (c .junk)),
  s 15 (.mv (t 4)),
  s 16 (.mv (t 0)),
  s 17 (.mv (t 4)),
  s 18 (.idx (t 16) (t 17) 2),
  s 19 (.ldE 16 18 0 2 true true 2),
  k 20 121 [(t 19)] .sc,
  s 21 (.idx (t 3) (t 15) 2),
  s 3 (.stF 3 21 2 (t 20))]))
 (.ops [s 12 (.mv (t 4)),
  s 13 (.bin .add (t 12) (c (i 1))),
  s 4 (.mv (t 13))]))))))
 (.seq (.ops [s 22 (.mv (c .junk)),
  s 2 (.mv (t 3))])
 .ret)))), none, [2], [false]⟩
def i80 : Comp := ⟨(.seq (.ops [s 1 (.box 3 (t 0)),
  s 2 (.mv (c (.bool false)))])
 (.seq (.ops [s 3 (.mv (c (i 0))),
  s 4 (.ldB 1 0 1 false true),
  k 5 90 [(t 4), (c (i 0)), (c (i 9))] .sc,
  s 6 (.mv (t 5)),
  sg [(6, true)] 7 (.mv (c (i 0))),
  sg [(6, true)] 8 (.ldB 1 1 1 false true),
  kg [(6, true)] 9 90 [(t 8), (c (i 0)), (c (i 200))] .sc,
  s 10 (.pick (t 6) (t 9) (c (.bool false))),
  s 11 (.mv (t 10)),
  sg [(11, true)] 12 (.mv (c (i 0))),
  sg [(11, true)] 13 (.ldB 1 2 1 false true),
  kg [(11, true)] 14 90 [(t 13), (c (i 0)), (c (i 100000))] .sc,
  s 15 (.pick (t 11) (t 14) (c (.bool false))),
  s 2 (.mv (t 15))])
 .ret)), none, [2], [true]⟩
def i81 : Comp := ⟨(.seq (.ops [s 4 (.mv (c (.lst 5 true [])))])
 (.seq (.ops [s 8 (.bsl 5 []),
  s 5 (.mv (t 8))])
 (.seq (.seq (.ops [s 9 (.mv (t 0)),
  s 10 (.len false (t 9)),
  s 11 (.mv (c (i 0)))])
 (.block 0 (.loop (.seq (.ops [s 12 (.bin .lss (t 11) (t 10))])
 (.seq (.cond (t 12) .skip (.exit 0))
 (.seq (.block 1 (.seq (.ops [s 13 (.idx (t 9) (t 11) 5),
  s 14 (.ldE 9 13 0 5 true false 5),
  s 7 (.alc [(i 0), (i 0), (i 0), (.str (bs [])), (.lst 2 true [])]),
  s 7 (.stB 7 0 5 (t 14) false)])
 (.seq (.ops [s 15 (.mv (c (i 0))),
  s 16 (.ldB 7 2 1 false true),
  s 17 (.mv (t 1)),
  s 18 (.bin .geq (t 16) (t 17))])
 (.cond (t 18) (.ops [s 19 (.mv (t 5)),
  s 20 (.ldB 7 0 5 true false),
  s 21 (.bsl 5 [(t 20)]),
  s 22 (.app (t 19) (t 21) 5 64),
  s 5 (.mv (t 22))]) .skip))))
 (.ops [s 23 (.bin .add (t 11) (c (i 1))),
  s 11 (.mv (t 23))])))))))
 (.seq (.ops [s 24 (.mv (t 5)),
  s 4 (.mv (t 24))])
 .ret)))), none, [4], [false, true]⟩
def i82 : Comp := ⟨(.seq (.ops [s 4 (.mv (c (.lst 1 true [])))])
 (.seq (.ops [s 8 (.bsl 1 []),
  s 5 (.mv (t 8))])
 (.seq (.seq (.ops [s 9 (.mv (t 0)),
  s 10 (.mv (t 1)),
  k 11 122 [(t 9), (t 10)] .lin,
  s 12 (.len false (t 11)),
  s 13 (.mv (c (i 0)))])
 (.block 0 (.loop (.seq (.ops [s 14 (.bin .lss (t 13) (t 12))])
 (.seq (.cond (t 14) .skip (.exit 0))
 (.seq (.block 1 (.seq (.ops [s 15 (.idx (t 11) (t 13) 4),
  s 16 (.ldE 11 15 0 4 true true 4),
  s 7 (.alc [(i 0), (i 0), (i 0), (i 0)]),
  s 7 (.stB 7 0 4 (t 16) false)])
 (.ops [s 17 (.mv (t 5)),
  s 18 (.mv (c (i 0))),
  s 19 (.ldB 7 0 1 false true),
  s 20 (.bsl 1 [(t 19)]),
  s 21 (.app (t 17) (t 20) 1 8),
  s 5 (.mv (t 21))])))
 (.ops [s 22 (.bin .add (t 13) (c (i 1))),
  s 13 (.mv (t 22))])))))))
 (.seq (.seq (.ops [s 23 (.mv (t 5))])
 (.seq (opM 24 84 5 [])
 (.ops [])))
 (.seq (.ops [s 25 (.mv (t 5)),
  s 4 (.mv (t 25))])
 .ret))))), none, [4], [false, true]⟩
def i83 : Comp := ⟨(.seq (.ops [s 2 (.mv (c (.lst 4 true [])))])
 (.seq (.ops [s 6 (.bsl 4 []),
  s 3 (.mv (t 6))])
 (.seq (.seq (.ops [s 7 (.mv (t 0)),
  k 8 27 [(t 7)] .sc,
  s 9 (.not (t 8))])
 (.cond (t 9) (.seq (.ops [s 10 (.mv (t 3)),
  s 2 (.mv (t 10))])
 .ret) .skip))
 (.seq (.seq (.ops [s 11 (.mv (t 0)),
  s 12 (.len false (t 11)),
  s 13 (.mv (c (i 0)))])
 (.block 0 (.loop (.seq (.ops [s 14 (.bin .lss (t 13) (t 12))])
 (.seq (.cond (t 14) .skip (.exit 0))
 (.seq (.block 1 (.seq (.ops [s 15 (.idx (t 11) (t 13) 5),
  s 16 (.ldE 11 15 0 5 true false 5),
  s 5 (.alc [(i 0), (i 0), (i 0), (.str (bs [])), (.lst 2 true [])]),
  s 5 (.stB 5 0 5 (t 16) false)])
 (.seq (.ops [s 17 (.mv (c (i 0))),
  s 18 (.ldB 5 1 1 false true),
  s 19 (.bin .eql (t 18) (c (i 1)))])
 (.cond (t 19) (.ops [s 20 (.mv (t 3)),
  s 21 (.mv (c (i 0))),
  s 22 (.ldB 5 0 1 false true),
  s 23 (.mv (c (i 0))),
  s 24 (.ldB 5 4 1 false false),
  s 25 (.idx (t 24) (c (i 0)) 2),
  s 26 (.ldE 24 25 0 2 true true 2),
  s 27 (.mv (c (i 0))),
  s 28 (.ldB 5 2 1 false true),
  s 29 (.bld [(i 0), (i 0), (i 0), (i 0)] [(0, 1, (t 22)), (1, 2, (t 26)), (3, 1, (t 28))]),
  s 30 (.bsl 4 [(t 29)]),
  s 31 (.app (t 20) (t 30) 4 32),
  s 3 (.mv (t 31))]) .skip))))
 (.ops [s 32 (.bin .add (t 13) (c (i 1))),
  s 13 (.mv (t 32))])))))))
 (.seq (.ops [s 33 (.mv (t 3)),
  s 2 (.mv (t 33))])
 .ret))))), none, [2], [false]⟩
def i85 : Comp := ⟨(.seq (.ops [s 4 (.mv (c (i 0)))])
 (.seq (.seq (.ops [s 6 (.mv (t 0)),
  s 7 (.len false (t 6)),
  s 8 (.mv (c (i 0)))])
 (.block 0 (.loop (.seq (.ops [s 9 (.bin .lss (t 8) (t 7))])
 (.seq (.cond (t 9) .skip (.exit 0))
 (.seq (.block 1 (.seq (.ops [s 10 (.mv (t 8)),
  s 5 (.mv (t 10))])
 (.seq (.ops [s 11 (.mv (t 1)),
  s 12 (.mv (t 0)),
  s 13 (.mv (t 5)),
  s 14 (.idx (t 12) (t 13) 5),
  s 15 (.ldE 12 14 0 5 true false 5),
  v 16 (t 11) [(t 15)]])
 (.cond (t 16) (.seq (.ops [s 17 (.mv (t 5)),
  s 4 (.mv (t 17))])
 .ret) .skip))))
 (.ops [s 18 (.bin .add (t 8) (c (i 1))),
  s 8 (.mv (t 18))])))))))
 (.seq (.ops [s 4 (.mv (c (i (-1))))])
 .ret))), none, [4], [false, false]⟩
def i86 : Comp := ⟨(.seq (.ops [s 2 (.box 5 (t 0)),
  s 3 (.mv (c (.bool false)))])
 (.seq (.ops [s 4 (.mv (c (i 0))),
  s 5 (.ldB 2 0 1 false true),
  s 6 (.ldB 1 0 1 false true),
  s 7 (.bin .eql (t 5) (t 6)),
  s 3 (.mv (t 7))])
 .ret)), none, [3], [false, false]⟩
def i87 : Comp := ⟨(.seq (.ops [s 4 (.mv (c (.bool false)))])
 (.seq (.seq (.ops [s 6 (.mv (t 0)),
  s 7 (.len false (t 6)),
  s 8 (.mv (t 1)),
  s 9 (.len false (t 8)),
  s 10 (.bin .neq (t 7) (t 9))])
 (.cond (t 10) (.seq (.ops [s 4 (.mv (c (.bool false)))])
 .ret) .skip))
 (.seq (.seq (.ops [s 5 (.mv (c (i 0)))])
 (.block 0 (.loop (.seq (.seq (.ops [s 11 (.mv (t 5)),
  s 12 (.mv (t 0)),
  s 13 (.len false (t 12)),
  s 14 (.bin .lss (t 11) (t 13))])
 (.cond (t 14) .skip (.exit 0)))
 (.seq (.block 1 (.seq (.ops [s 17 (.mv (t 0)),
  s 18 (.mv (t 5)),
  s 19 (.idx (t 17) (t 18) 2),
  s 20 (.ldE 17 19 0 2 true true 2),
  s 21 (.mv (t 1)),
  s 22 (.mv (t 5)),
  s 23 (.idx (t 21) (t 22) 2),
  s 24 (.ldE 21 23 0 2 true true 2),
  k 25 125 [(t 20), (t 24)] .sc,
  s 26 (.not (t 25))])
 (.cond (t 26) (.seq (.ops [s 4 (.mv (c (.bool false)))])
 .ret) .skip)))
 (.ops [s 15 (.mv (t 5)),
  s 16 (.bin .add (t 15) (c (i 1))),
  s 5 (.mv (t 16))]))))))
 (.seq (.ops [s 4 (.mv (c (.bool true)))])
 .ret)))), none, [4], [false, false]⟩
def i88 : Comp := ⟨(.seq (.ops [s 6 (.mv (c (.bool false)))])
 (.seq (.ops [s 7 (.mv (t 0)),
  s 8 (.mv (t 1)),
  s 9 (.bin .geq (t 7) (t 8)),
  s 10 (.mv (t 9)),
  sg [(10, true)] 11 (.mv (t 0)),
  sg [(10, true)] 12 (.mv (t 2)),
  sg [(10, true)] 13 (.bin .leq (t 11) (t 12)),
  s 14 (.pick (t 10) (t 13) (c (.bool false))),
  s 6 (.mv (t 14))])
 .ret)), none, [6], [true, true, true]⟩
def i89 : Comp := ⟨(.seq (.ops [s 1 (.box 5 (t 0)),
  s 2 (.mv (c (.bool false)))])
 (.seq (.seq (.ops [s 3 (.mv (c (i 0))),
  s 4 (.ldB 1 0 1 false true),
  k 5 88 [(t 4), (c (i 1)), (c (i 99))] .sc,
  s 6 (.not (t 5)),
  s 7 (.mv (t 6)),
  sg [(7, false)] 8 (.mv (c (i 0))),
  sg [(7, false)] 9 (.ldB 1 2 1 false true),
  kg [(7, false)] 10 88 [(t 9), (c (i 0)), (c (i 9))] .sc,
  sg [(7, false)] 11 (.not (t 10)),
  s 12 (.pick (t 7) (c (.bool true)) (t 11)),
  s 13 (.mv (t 12)),
  sg [(13, false)] 14 (.mv (c (i 0))),
  sg [(13, false)] 15 (.ldB 1 3 1 false true),
  sg [(13, false)] 16 (.bin .neq (t 15) (c (.str (bs [])))),
  sg [(13, false)] 17 (.mv (t 16)),
  sg [(17, true), (13, false)] 18 (.mv (c (i 0))),
  sg [(17, true), (13, false)] 19 (.ldB 1 3 1 false true),
  kg [(17, true), (13, false)] 20 126 [(t 19)] .sc,
  sg [(17, true), (13, false)] 21 (.not (t 20)),
  sg [(13, false)] 22 (.pick (t 17) (t 21) (c (.bool false))),
  s 23 (.pick (t 13) (c (.bool true)) (t 22))])
 (.cond (t 23) (.seq (.ops [s 2 (.mv (c (.bool false)))])
 .ret) .skip))
 (.seq (.seq (.ops [s 24 (.mv (c (i 0))),
  s 25 (.ldB 1 1 1 false true)])
 (.block 0 (.seq (.ops [s 27 (.bin .eql (t 25) (c (i 1))),
  s 26 (.mv (t 27))])
 (.cond (t 26) (.seq (.ops [s 28 (.mv (c (i 0))),
  s 29 (.ldB 1 4 1 false false),
  s 30 (.len false (t 29)),
  s 31 (.bin .eql (t 30) (c (i 1))),
  s 32 (.mv (t 31)),
  sg [(32, true)] 33 (.mv (c (i 0))),
  sg [(32, true)] 34 (.ldB 1 4 1 false false),
  sg [(32, true)] 35 (.idx (t 34) (c (i 0)) 2),
  sg [(32, true)] 36 (.ldE 34 35 0 2 true true 2),
  kg [(32, true)] 37 127 [(t 36)] .sc,
  s 38 (.pick (t 32) (t 37) (c (.bool false))),
  s 2 (.mv (t 38))])
 .ret) (.seq (.ops [s 40 (.bin .eql (t 25) (c (i 2))),
  s 39 (.mv (t 40))])
 (.cond (t 39) (.seq (.ops [s 41 (.mv (c (i 0))),
  s 42 (.ldB 1 4 1 false false),
  k 43 128 [(t 42)] .sc,
  s 2 (.mv (t 43))])
 .ret) (.seq (.ops [s 45 (.bin .eql (t 25) (c (i 3))),
  s 44 (.mv (t 45))])
 (.cond (t 44) (.seq (.ops [s 46 (.mv (c (i 0))),
  s 47 (.ldB 1 4 1 false false),
  k 48 129 [(t 47)] .sc,
  s 2 (.mv (t 48))])
 .ret) .skip))))))))
 (.seq (.ops [s 2 (.mv (c (.bool false)))])
 .ret)))), none, [2], [false]⟩
def i90 : Comp := ⟨(.seq (.ops [s 6 (.mv (c (.bool false)))])
 (.seq (.ops [s 7 (.mv (t 1)),
  s 8 (.mv (t 0)),
  s 9 (.bin .leq (t 7) (t 8)),
  s 10 (.mv (t 9)),
  sg [(10, true)] 11 (.mv (t 0)),
  sg [(10, true)] 12 (.mv (t 2)),
  sg [(10, true)] 13 (.bin .leq (t 11) (t 12)),
  s 14 (.pick (t 10) (t 13) (c (.bool false))),
  s 6 (.mv (t 14))])
 .ret)), none, [6], [true, true, true]⟩
def i91 : Comp := ⟨(.seq (.ops [s 4 (.mv (c (i 0)))])
 (.seq (.seq (.ops [s 6 (.mv (t 0)),
  s 7 (.len false (t 6)),
  s 8 (.mv (c (i 0)))])
 (.block 0 (.loop (.seq (.ops [s 9 (.bin .lss (t 8) (t 7))])
 (.seq (.cond (t 9) .skip (.exit 0))
 (.seq (.block 1 (.seq (.ops [s 10 (.mv (t 8)),
  s 5 (.mv (t 10))])
 (.seq (.ops [s 11 (.mv (t 1)),
  s 12 (.mv (t 0)),
  s 13 (.mv (t 5)),
  s 14 (.idx (t 12) (t 13) 1),
  s 15 (.ldE 12 14 0 1 false true 1),
  s 16 (.bin .eql (t 11) (t 15))])
 (.cond (t 16) (.seq (.ops [s 17 (.mv (t 5)),
  s 4 (.mv (t 17))])
 .ret) .skip))))
 (.ops [s 18 (.bin .add (t 8) (c (i 1))),
  s 8 (.mv (t 18))])))))))
 (.seq (.ops [s 4 (.mv (c (i (-1))))])
 .ret))), none, [4], [false, true]⟩
def i102 : Comp := ⟨(.seq (.ops [s 2 (.mv (c (.bool false)))])
 (.seq (.seq (.ops [s 4 (.mv (t 0)),
  s 5 (.len true (t 4)),
  s 6 (.mv (c (i 0)))])
 (.block 0 (.loop (.seq (.ops [s 7 (.bin .lss (t 6) (t 5))])
 (.seq (.cond (t 7) .skip (.exit 0))
 (.seq (.block 1 (.seq (.ops [s 8 (.mv (t 6)),
  s 3 (.mv (t 8))])
 (.seq (.ops [s 9 (.mv (t 0)),
  s 10 (.mv (t 3)),
  s 11 (.six (t 9) (t 10)),
  s 12 (.bin .lss (t 11) (c (.int .u8 (97)))),
  s 13 (.mv (t 12)),
  sg [(13, false)] 14 (.mv (t 0)),
  sg [(13, false)] 15 (.mv (t 3)),
  sg [(13, false)] 16 (.six (t 14) (t 15)),
  sg [(13, false)] 17 (.bin .gtr (t 16) (c (.int .u8 (122)))),
  s 18 (.pick (t 13) (c (.bool true)) (t 17))])
 (.cond (t 18) (.seq (.ops [s 2 (.mv (c (.bool false)))])
 .ret) .skip))))
 (.ops [s 19 (.bin .add (t 6) (c (i 1))),
  s 6 (.mv (t 19))])))))))
 (.seq (.ops [s 20 (.mv (t 0)),
  s 21 (.len true (t 20)),
  k 22 90 [(t 21), (c (i 1)), (c (i 8))] .sc,
  s 2 (.mv (t 22))])
 .ret))), none, [2], [true]⟩
def i103 : Comp := ⟨(.seq (.ops [s 1 (.box 2 (t 0)),
  s 2 (.mv (c (.bool false)))])
 (.seq (.ops [s 3 (.mv (c (i 0))),
  s 4 (.ldB 1 0 1 false true),
  k 5 90 [(t 4), (c (i 0)), (c (i 200))] .sc,
  s 6 (.mv (t 5)),
  sg [(6, true)] 7 (.mv (c (i 0))),
  sg [(6, true)] 8 (.ldB 1 1 1 false true),
  kg [(6, true)] 9 90 [(t 8), (c (i 0)), (c (i 200))] .sc,
  s 10 (.pick (t 6) (t 9) (c (.bool false))),
  s 2 (.mv (t 10))])
 .ret)), none, [2], [true]⟩
def i104 : Comp := ⟨(.seq (.ops [s 2 (.mv (c (.bool false)))])
 (.seq (.seq (.ops [s 7 (.mv (t 0)),
  k 8 137 [(t 7)] .sc,
  s 9 (.not (t 8))])
 (.cond (t 9) (.seq (.ops [s 2 (.mv (c (.bool false)))])
 .ret) .skip))
 (.seq (.ops [s 10 (.mv (t 0)),
  k 11 138 [(t 10)] .lin,
  s 3 (.mv (t 11))])
 (.seq (.seq (.ops [s 12 (.mv (t 3)),
  s 13 (.len false (t 12)),
  s 14 (.mv (c (i 0)))])
 (.block 0 (.loop (.seq (.ops [s 15 (.bin .lss (t 14) (t 13))])
 (.seq (.cond (t 15) .skip (.exit 0))
 (.seq (.block 1 (.seq (.ops [s 16 (.mv (t 14)),
  s 4 (.mv (t 16))])
 (.seq (.ops [s 17 (.mv (t 4)),
  s 18 (.mv (c (i 0)))])
 (.block 2 (.loop (.seq (.ops [s 19 (.bin .lss (t 18) (t 17))])
 (.seq (.cond (t 19) .skip (.exit 2))
 (.seq (.block 3 (.seq (.ops [s 20 (.mv (t 18)),
  s 5 (.mv (t 20))])
 (.seq (.ops [s 6 (.mv (c (i 0)))])
 (.seq (.seq (.ops [s 21 (.mv (t 5)),
  s 22 (.mv (t 4)),
  s 23 (.bin .sub (t 22) (c (i 1))),
  s 24 (.bin .eql (t 21) (t 23))])
 (.cond (t 24) (.ops [s 6 (.mv (c (i 1)))]) .skip))
 (.seq (.ops [s 25 (.mv (t 3)),
  s 26 (.mv (t 4)),
  s 27 (.idx (t 25) (t 26) 4),
  s 28 (.ldE 25 27 0 4 true true 4),
  s 29 (.mv (t 3)),
  s 30 (.mv (t 5)),
  s 31 (.idx (t 29) (t 30) 4),
  s 32 (.ldE 29 31 0 4 true true 4),
  k 33 139 [(t 28), (t 32)] .sc,
  s 34 (.mv (t 6)),
  s 35 (.bin .neq (t 33) (t 34))])
 (.cond (t 35) (.seq (.ops [s 2 (.mv (c (.bool false)))])
 .ret) .skip))))))
 (.ops [s 36 (.bin .add (t 18) (c (i 1))),
  s 18 (.mv (t 36))])))))))))
 (.ops [s 37 (.bin .add (t 14) (c (i 1))),
  s 14 (.mv (t 37))])))))))
 (.seq (.ops [s 2 (.mv (c (.bool true)))])
 .ret))))), none, [2], [false]⟩
def i105 : Comp := ⟨(.seq (.ops [s 2 (.mv (c (.bool false)))])
 (.seq (.seq (.ops [s 7 (.mv (t 0)),
  s 8 (.len false (t 7)),
  s 9 (.bin .lss (t 8) (c (i 3))),
  s 10 (.mv (t 9)),
  sg [(10, false)] 11 (.mv (t 0)),
  sg [(10, false)] 12 (.len false (t 11)),
  sg [(10, false)] 13 (.bin .gtr (t 12) (c (i 10))),
  s 14 (.pick (t 10) (c (.bool true)) (t 13))])
 (.cond (t 14) (.seq (.ops [s 2 (.mv (c (.bool false)))])
 .ret) .skip))
 (.seq (.ops [s 15 (.mv (t 0)),
  k 16 140 [(t 15)] .lin,
  s 3 (.mv (t 16))])
 (.seq (.seq (.ops [s 17 (.mv (t 3)),
  s 18 (.len false (t 17)),
  s 19 (.mv (c (i 0)))])
 (.block 0 (.loop (.seq (.ops [s 20 (.bin .lss (t 19) (t 18))])
 (.seq (.cond (t 20) .skip (.exit 0))
 (.seq (.block 1 (.seq (.ops [s 21 (.mv (t 19)),
  s 4 (.mv (t 21))])
 (.seq (.seq (.ops [s 22 (.mv (t 3)),
  s 23 (.mv (t 4)),
  s 24 (.idx (t 22) (t 23) 4),
  s 25 (.ldE 22 24 0 4 true true 4),
  k 26 141 [(t 25)] .sc,
  s 27 (.not (t 26))])
 (.cond (t 27) (.seq (.ops [s 2 (.mv (c (.bool false)))])
 .ret) .skip))
 (.seq (.ops [s 28 (.mv (t 4)),
  s 29 (.mv (c (i 0)))])
 (.block 2 (.loop (.seq (.ops [s 30 (.bin .lss (t 29) (t 28))])
 (.seq (.cond (t 30) .skip (.exit 2))
 (.seq (.block 3 (.seq (.ops [s 31 (.mv (t 29)),
  s 5 (.mv (t 31))])
 (.seq (.ops [s 6 (.mv (c (i 0)))])
 (.seq (.seq (.ops [s 32 (.mv (t 5)),
  s 33 (.mv (t 4)),
  s 34 (.bin .sub (t 33) (c (i 1))),
  s 35 (.bin .eql (t 32) (t 34)),
  s 36 (.mv (t 35)),
  sg [(36, false)] 37 (.mv (t 5)),
  sg [(36, false)] 38 (.bin .eql (t 37) (c (i 0))),
  sg [(36, false)] 39 (.mv (t 38)),
  sg [(39, true), (36, false)] 40 (.mv (t 4)),
  sg [(39, true), (36, false)] 41 (.mv (t 3)),
  sg [(39, true), (36, false)] 42 (.len false (t 41)),
  sg [(39, true), (36, false)] 43 (.bin .sub (t 42) (c (i 1))),
  sg [(39, true), (36, false)] 44 (.bin .eql (t 40) (t 43)),
  sg [(36, false)] 45 (.pick (t 39) (t 44) (c (.bool false))),
  s 46 (.pick (t 36) (c (.bool true)) (t 45))])
 (.cond (t 46) (.ops [s 6 (.mv (c (i 1)))]) .skip))
 (.seq (.ops [s 47 (.mv (t 3)),
  s 48 (.mv (t 4)),
  s 49 (.idx (t 47) (t 48) 4),
  s 50 (.ldE 47 49 0 4 true true 4),
  s 51 (.mv (t 3)),
  s 52 (.mv (t 5)),
  s 53 (.idx (t 51) (t 52) 4),
  s 54 (.ldE 51 53 0 4 true true 4),
  k 55 139 [(t 50), (t 54)] .sc,
  s 56 (.mv (t 6)),
  s 57 (.bin .neq (t 55) (t 56))])
 (.cond (t 57) (.seq (.ops [s 2 (.mv (c (.bool false)))])
 .ret) .skip))))))
 (.ops [s 58 (.bin .add (t 29) (c (i 1))),
  s 29 (.mv (t 58))]))))))))))
 (.ops [s 59 (.bin .add (t 19) (c (i 1))),
  s 19 (.mv (t 59))])))))))
 (.seq (.ops [s 2 (.mv (c (.bool true)))])
 .ret))))), none, [2], [false]⟩
def i117 : Comp := ⟨(.seq (.ops [s 1 (.box 5 (t 0)),
  s 2 (.alc [(i 0), (i 0), (i 0), (.str (bs [])), (.lst 2 true [])])])
 (.seq (.ops [s 3 (.bsl 2 []),
  s 4 (.mv (c (i 0))),
  s 5 (.ldB 1 4 1 false false),
  s 6 (.apf (t 3) (t 5) 2 16),
  s 7 (.mv (c (i 0))),
  s 1 (.stB 1 4 1 (t 6) true)])
 (.seq (.ops [s 8 (.ldB 1 0 5 true false),
  s 2 (.stB 2 0 5 (t 8) false)])
 .ret))), (some ⟨2, 48, 5, true, false⟩), [], [false]⟩
def i118 : Comp := ⟨(.seq (.ops [s 2 (.mv (c (.bool false)))])
 (.seq (.seq (.ops [s 3 (.mv (c (i 0)))])
 (.block 0 (.loop (.seq (.seq (.ops [s 4 (.mv (t 3)),
  s 5 (.mv (t 0)),
  s 6 (.len false (t 5)),
  s 7 (.bin .lss (t 4) (t 6))])
 (.cond (t 7) .skip (.exit 0)))
 (.seq (.block 1 (.seq (.ops [s 10 (.mv (t 0)),
  s 11 (.mv (t 3)),
  s 12 (.idx (t 10) (t 11) 4),
  s 13 (.mv (t 12)),
  s 14 (.ldE 10 13 0 1 false true 4),
  k 15 88 [(t 14), (c (i 1)), (c (i 99))] .sc,
  s 16 (.not (t 15)),
  s 17 (.mv (t 16)),
  sg [(17, false)] 18 (.mv (t 0)),
  sg [(17, false)] 19 (.mv (t 3)),
  sg [(17, false)] 20 (.idx (t 18) (t 19) 4),
  sg [(17, false)] 21 (.mv (t 20)),
  sg [(17, false)] 22 (.ldE 18 21 1 2 true true 4),
  kg [(17, false)] 23 127 [(t 22)] .sc,
  sg [(17, false)] 24 (.not (t 23)),
  s 25 (.pick (t 17) (c (.bool true)) (t 24)),
  s 26 (.mv (t 25)),
  sg [(26, false)] 27 (.mv (t 0)),
  sg [(26, false)] 28 (.mv (t 3)),
  sg [(26, false)] 29 (.idx (t 27) (t 28) 4),
  sg [(26, false)] 30 (.mv (t 29)),
  sg [(26, false)] 31 (.ldE 27 30 3 1 false true 4),
  kg [(26, false)] 32 88 [(t 31), (c (i 0)), (c (i 9))] .sc,
  sg [(26, false)] 33 (.not (t 32)),
  s 34 (.pick (t 26) (c (.bool true)) (t 33)),
  s 35 (.mv (t 34)),
  sg [(35, false)] 36 (.mv (t 3)),
  sg [(35, false)] 37 (.bin .gtr (t 36) (c (i 0))),
  sg [(35, false)] 38 (.mv (t 37)),
  sg [(38, true), (35, false)] 39 (.mv (t 0)),
  sg [(38, true), (35, false)] 40 (.mv (t 3)),
  sg [(38, true), (35, false)] 41 (.bin .sub (t 40) (c (i 1))),
  sg [(38, true), (35, false)] 42 (.idx (t 39) (t 41) 4),
  sg [(38, true), (35, false)] 43 (.mv (t 42)),
  sg [(38, true), (35, false)] 44 (.ldE 39 43 0 1 false true 4),
  sg [(38, true), (35, false)] 45 (.mv (t 0)),
  sg [(38, true), (35, false)] 46 (.mv (t 3)),
  sg [(38, true), (35, false)] 47 (.idx (t 45) (t 46) 4),
  sg [(38, true), (35, false)] 48 (.mv (t 47)),
  sg [(38, true), (35, false)] 49 (.ldE 45 48 0 1 false true 4),
  sg [(38, true), (35, false)] 50 (.bin .geq (t 44) (t 49)),
  sg [(35, false)] 51 (.pick (t 38) (t 50) (c (.bool false))),
  s 52 (.pick (t 35) (c (.bool true)) (t 51))])
 (.cond (t 52) (.seq (.ops [s 2 (.mv (c (.bool false)))])
 .ret) .skip)))
 (.ops [s 8 (.mv (t 3)),
  s 9 (.bin .add (t 8) (c (i 1))),
  s 3 (.mv (t 9))]))))))
 (.seq (.ops [s 53 (.mv (t 0)),
  s 54 (.len false (t 53)),
  s 55 (.bin .leq (t 54) (c (i 16))),
  s 2 (.mv (t 55))])
 .ret))), none, [2], [false]⟩
def i119 : Comp := ⟨(.seq (.ops [s 4 (.mv (c (.lst 4 true [])))])
 (.seq (.ops [s 12 (.bsl 4 []),
  s 5 (.mv (t 12))])
 (.seq (.seq (.ops [s 6 (.mv (c (i 0)))])
 (.block 0 (.loop (.seq (.seq (.ops [s 13 (.mv (t 6)),
  s 14 (.mv (t 0)),
  s 15 (.len false (t 14)),
  s 16 (.bin .lss (t 13) (t 15))])
 (.cond (t 16) .skip (.exit 0)))
 (.seq (.block 1 (.seq (.ops [s 19 (.mv (t 5)),
  s 20 (.len false (t 19)),
  s 7 (.mv (t 20))])
 (.seq (.block 2 (.loop (.seq (.seq (.ops [s 21 (.mv (t 7)),
  s 22 (.bin .gtr (t 21) (c (i 0))),
  s 23 (.mv (t 22)),
  sg [(23, true)] 24 (.mv (t 0)),
  sg [(23, true)] 25 (.mv (t 6)),
  sg [(23, true)] 26 (.idx (t 24) (t 25) 4),
  sg [(23, true)] 27 (.ldE 24 26 0 4 true true 4),
  sg [(23, true)] 28 (.mv (t 5)),
  sg [(23, true)] 29 (.mv (t 7)),
  sg [(23, true)] 30 (.bin .sub (t 29) (c (i 1))),
  sg [(23, true)] 31 (.idx (t 28) (t 30) 4),
  sg [(23, true)] 32 (.ldE 28 31 0 4 true true 4),
  kg [(23, true)] 33 149 [(t 27), (t 32)] .sc,
  s 34 (.pick (t 23) (t 33) (c (.bool false)))])
 (.cond (t 34) .skip (.exit 2)))
 (.block 3 (.ops [s 35 (.mv (t 7)),
  s 36 (.bin .sub (t 35) (c (i 1))),
  s 7 (.mv (t 36))])))))
 (.ops [s 37 (.bsl 4 []),
  s 38 (.mv (t 5)),
  s 39 (.mv (t 7)),
  s 40 (.sl 4 (t 38) none (some (t 39))),
  s 41 (.apf (t 37) (t 40) 4 32),
  s 42 (.mv (t 0)),
  s 43 (.mv (t 6)),
  s 44 (.idx (t 42) (t 43) 4),
  s 45 (.ldE 42 44 0 4 true true 4),
  s 46 (.bsl 4 [(t 45)]),
  s 47 (.app (t 41) (t 46) 4 32),
  s 48 (.mv (t 5)),
  s 49 (.mv (t 7)),
  s 50 (.sl 4 (t 48) (some (t 49)) none),
  s 51 (.apf (t 47) (t 50) 4 32),
  s 5 (.mv (t 51))]))))
 (.ops [s 17 (.mv (t 6)),
  s 18 (.bin .add (t 17) (c (i 1))),
  s 6 (.mv (t 18))]))))))
 (.seq (.ops [s 52 (.bsl 4 []),
  s 8 (.mv (t 52))])
 (.seq (.seq (.ops [s 9 (.mv (c (i 0)))])
 (.block 4 (.loop (.seq (.seq (.ops [s 53 (.mv (t 9)),
  s 54 (.mv (t 5)),
  s 55 (.len false (t 54)),
  s 56 (.bin .lss (t 53) (t 55))])
 (.cond (t 56) .skip (.exit 4)))
 (.seq (.block 5 (.seq (.ops [s 10 (.mv (c (.bool true)))])
 (.seq (.seq (.ops [s 11 (.mv (c (i 0)))])
 (.block 6 (.loop (.seq (.seq (.ops [s 59 (.mv (t 11)),
  s 60 (.mv (t 8)),
  s 61 (.len false (t 60)),
  s 62 (.bin .lss (t 59) (t 61))])
 (.cond (t 62) .skip (.exit 6)))
 (.seq (.block 7 (.ops [s 65 (.mv (t 10)),
  s 66 (.mv (t 65)),
  sg [(66, true)] 67 (.mv (t 8)),
  sg [(66, true)] 68 (.mv (t 11)),
  sg [(66, true)] 69 (.idx (t 67) (t 68) 4),
  sg [(66, true)] 70 (.mv (t 69)),
  sg [(66, true)] 71 (.ldE 67 70 1 2 true true 4),
  sg [(66, true)] 72 (.mv (t 5)),
  sg [(66, true)] 73 (.mv (t 9)),
  sg [(66, true)] 74 (.idx (t 72) (t 73) 4),
  sg [(66, true)] 75 (.mv (t 74)),
  sg [(66, true)] 76 (.ldE 72 75 1 2 true true 4),
  kg [(66, true)] 77 150 [(t 71), (t 76)] .sc,
  sg [(66, true)] 78 (.mv (t 1)),
  sg [(66, true)] 79 (.mv (t 1)),
  sg [(66, true)] 80 (.bin .mul (t 78) (t 79)),
  sg [(66, true)] 81 (.bin .geq (t 77) (t 80)),
  s 82 (.pick (t 66) (t 81) (c (.bool false))),
  s 10 (.mv (t 82))]))
 (.ops [s 63 (.mv (t 11)),
  s 64 (.bin .add (t 63) (c (i 1))),
  s 11 (.mv (t 64))]))))))
 (.seq (.ops [s 83 (.mv (t 10))])
 (.cond (t 83) (.ops [s 84 (.mv (t 8)),
  s 85 (.mv (t 5)),
  s 86 (.mv (t 9)),
  s 87 (.idx (t 85) (t 86) 4),
  s 88 (.ldE 85 87 0 4 true true 4),
  s 89 (.bsl 4 [(t 88)]),
  s 90 (.app (t 84) (t 89) 4 32),
  s 8 (.mv (t 90))]) .skip)))))
 (.ops [s 57 (.mv (t 9)),
  s 58 (.bin .add (t 57) (c (i 1))),
  s 9 (.mv (t 58))]))))))
 (.seq (.ops [s 91 (.mv (t 8)),
  s 4 (.mv (t 91))])
 .ret)))))), none, [4], [false, true]⟩
def i120 : Comp := ⟨(.seq (.ops [s 4 (.mv (c (.lst 1 true [])))])
 (.seq (.ops [s 5 (.mv (c (i 0)))])
 (.seq (.block 0 (.loop (.seq (.seq (.ops [s 6 (.mv (t 5)),
  s 7 (.mv (t 0)),
  s 8 (.len false (t 7)),
  s 9 (.bin .lss (t 6) (t 8)),
  s 10 (.mv (t 9)),
  sg [(10, true)] 11 (.mv (t 0)),
  sg [(10, true)] 12 (.mv (t 5)),
  sg [(10, true)] 13 (.idx (t 11) (t 12) 1),
  sg [(10, true)] 14 (.ldE 11 13 0 1 false true 1),
  sg [(10, true)] 15 (.mv (t 1)),
  sg [(10, true)] 16 (.bin .lss (t 14) (t 15)),
  s 17 (.pick (t 10) (t 16) (c (.bool false)))])
 (.cond (t 17) .skip (.exit 0)))
 (.block 1 (.ops [s 18 (.mv (t 5)),
  s 19 (.bin .add (t 18) (c (i 1))),
  s 5 (.mv (t 19))])))))
 (.seq (.seq (.ops [s 20 (.mv (t 5)),
  s 21 (.mv (t 0)),
  s 22 (.len false (t 21)),
  s 23 (.bin .lss (t 20) (t 22)),
  s 24 (.mv (t 23)),
  sg [(24, true)] 25 (.mv (t 0)),
  sg [(24, true)] 26 (.mv (t 5)),
  sg [(24, true)] 27 (.idx (t 25) (t 26) 1),
  sg [(24, true)] 28 (.ldE 25 27 0 1 false true 1),
  sg [(24, true)] 29 (.mv (t 1)),
  sg [(24, true)] 30 (.bin .eql (t 28) (t 29)),
  s 31 (.pick (t 24) (t 30) (c (.bool false)))])
 (.cond (t 31) (.seq (.ops [s 32 (.bsl 1 []),
  s 33 (.mv (t 0)),
  s 34 (.apf (t 32) (t 33) 1 8),
  s 4 (.mv (t 34))])
 .ret) .skip))
 (.seq (.ops [s 35 (.bsl 1 []),
  s 36 (.mv (t 0)),
  s 37 (.mv (t 5)),
  s 38 (.sl 1 (t 36) none (some (t 37))),
  s 39 (.apf (t 35) (t 38) 1 8),
  s 40 (.mv (t 1)),
  s 41 (.bsl 1 [(t 40)]),
  s 42 (.app (t 39) (t 41) 1 8),
  s 43 (.mv (t 0)),
  s 44 (.mv (t 5)),
  s 45 (.sl 1 (t 43) (some (t 44)) none),
  s 46 (.apf (t 42) (t 45) 1 8),
  s 4 (.mv (t 46))])
 .ret))))), none, [4], [false, true]⟩
def i121 : Comp := ⟨(.seq (.ops [s 1 (.box 2 (t 0)),
  s 2 (.alc [(i 0), (i 0)])])
 (.seq (.ops [s 3 (.alc [(i 0), (i 0)])])
 (.seq (.ops [s 4 (.mv (c (i 0))),
  s 5 (.ldB 1 0 1 false true),
  s 6 (.mv (c (i 0))),
  s 3 (.stB 3 0 1 (t 5) false)])
 (.seq (.ops [s 7 (.mv (c (i 0))),
  s 8 (.ldB 1 1 1 false true),
  s 9 (.mv (c (i 0))),
  s 3 (.stB 3 1 1 (t 8) false)])
 (.seq (.ops [s 10 (.ldB 3 0 2 true true),
  s 2 (.stB 2 0 2 (t 10) false)])
 .ret))))), (some ⟨2, 110, 2, true, false⟩), [], [true]⟩
def i122 : Comp := ⟨(.seq (.ops [s 4 (.mv (c (.lst 4 true [])))])
 (.seq (.ops [s 11 (.bsl 4 []),
  s 5 (.mv (t 11))])
 (.seq (.seq (.ops [s 12 (.mv (t 0)),
  k 13 151 [(t 12)] .sc,
  s 14 (.not (t 13)),
  s 15 (.mv (t 14)),
  sg [(15, false)] 16 (.mv (t 1)),
  kg [(15, false)] 17 90 [(t 16), (c (i 0)), (c (i 200))] .sc,
  sg [(15, false)] 18 (.not (t 17)),
  s 19 (.pick (t 15) (c (.bool true)) (t 18))])
 (.cond (t 19) (.seq (.ops [s 20 (.mv (t 5)),
  s 4 (.mv (t 20))])
 .ret) .skip))
 (.seq (.seq (.ops [s 21 (.mv (t 0)),
  k 22 152 [(t 21)] .lin,
  s 23 (.len false (t 22)),
  s 24 (.mv (c (i 0)))])
 (.block 0 (.loop (.seq (.ops [s 25 (.bin .lss (t 24) (t 23))])
 (.seq (.cond (t 25) .skip (.exit 0))
 (.seq (.block 1 (.seq (.ops [s 26 (.idx (t 22) (t 24) 4),
  s 27 (.ldE 22 26 0 4 true true 4),
  s 7 (.alc [(i 0), (i 0), (i 0), (i 0)]),
  s 7 (.stB 7 0 4 (t 27) false)])
 (.seq (.ops [s 8 (.mv (c (.bool true)))])
 (.seq (.seq (.ops [s 28 (.mv (t 5)),
  s 29 (.len false (t 28)),
  s 30 (.mv (c (i 0)))])
 (.block 2 (.loop (.seq (.ops [s 31 (.bin .lss (t 30) (t 29))])
 (.seq (.cond (t 31) .skip (.exit 2))
 (.seq (.block 3 (.seq (.ops [s 32 (.idx (t 28) (t 30) 4),
  s 33 (.ldE 28 32 0 4 true true 4),
  s 10 (.alc [(i 0), (i 0), (i 0), (i 0)]),
  s 10 (.stB 10 0 4 (t 33) false)])
 (.ops [s 34 (.mv (t 8)),
  s 35 (.mv (t 34)),
  sg [(35, true)] 36 (.mv (c (i 0))),
  sg [(35, true)] 37 (.ldB 7 1 2 true true),
  sg [(35, true)] 38 (.mv (c (i 0))),
  sg [(35, true)] 39 (.ldB 10 1 2 true true),
  kg [(35, true)] 40 153 [(t 37), (t 39)] .sc,
  sg [(35, true)] 41 (.mv (t 1)),
  sg [(35, true)] 42 (.mv (t 1)),
  sg [(35, true)] 43 (.bin .mul (t 41) (t 42)),
  sg [(35, true)] 44 (.bin .geq (t 40) (t 43)),
  s 45 (.pick (t 35) (t 44) (c (.bool false))),
  s 8 (.mv (t 45))])))
 (.ops [s 46 (.bin .add (t 30) (c (i 1))),
  s 30 (.mv (t 46))])))))))
 (.seq (.ops [s 47 (.mv (t 8))])
 (.cond (t 47) (.ops [s 48 (.mv (t 5)),
  s 49 (.ldB 7 0 4 true true),
  s 50 (.bsl 4 [(t 49)]),
  s 51 (.app (t 48) (t 50) 4 32),
  s 5 (.mv (t 51))]) .skip))))))
 (.ops [s 52 (.bin .add (t 24) (c (i 1))),
  s 24 (.mv (t 52))])))))))
 (.seq (.ops [s 53 (.mv (t 5)),
  s 4 (.mv (t 53))])
 .ret))))), none, [4], [false, true]⟩
def i125 : Comp := ⟨(.seq (.ops [s 2 (.box 2 (t 0)),
  s 3 (.box 2 (t 1)),
  s 4 (.mv (c (.bool false)))])
 (.seq (.seq (.ops [s 5 (.mv (c (i 0))),
  s 6 (.ldB 2 0 1 false true),
  s 7 (.mv (c (i 0))),
  s 8 (.ldB 3 0 1 false true),
  s 9 (.bin .neq (t 6) (t 8))])
 (.cond (t 9) (.seq (.ops [s 4 (.mv (c (.bool false)))])
 .ret) .skip))
 (.seq (.seq (.ops [s 10 (.mv (c (i 0))),
  s 11 (.ldB 2 1 1 false true),
  s 12 (.mv (c (i 0))),
  s 13 (.ldB 3 1 1 false true),
  s 14 (.bin .neq (t 11) (t 13))])
 (.cond (t 14) (.seq (.ops [s 4 (.mv (c (.bool false)))])
 .ret) .skip))
 (.seq (.ops [s 4 (.mv (c (.bool true)))])
 .ret)))), none, [4], [true, true]⟩
def i126 : Comp := ⟨(.seq (.ops [s 2 (.mv (c (.bool false)))])
 (.seq (.seq (.ops [s 3 (.mv (c (i 0)))])
 (.block 0 (.loop (.seq (.seq (.ops [s 4 (.mv (t 3)),
  s 5 (.mv (t 0)),
  s 6 (.len true (t 5)),
  s 7 (.bin .lss (t 4) (t 6))])
 (.cond (t 7) .skip (.exit 0)))
 (.seq (.block 1 (.seq (.ops [s 10 (.mv (t 0)),
  s 11 (.mv (t 3)),
  s 12 (.six (t 10) (t 11)),
  s 13 (.bin .lss (t 12) (c (.int .u8 (97)))),
  s 14 (.mv (t 13)),
  sg [(14, false)] 15 (.mv (t 0)),
  sg [(14, false)] 16 (.mv (t 3)),
  sg [(14, false)] 17 (.six (t 15) (t 16)),
  sg [(14, false)] 18 (.bin .gtr (t 17) (c (.int .u8 (122)))),
  s 19 (.pick (t 14) (c (.bool true)) (t 18))])
 (.cond (t 19) (.seq (.ops [s 2 (.mv (c (.bool false)))])
 .ret) .skip)))
 (.ops [s 8 (.mv (t 3)),
  s 9 (.bin .add (t 8) (c (i 1))),
  s 3 (.mv (t 9))]))))))
 (.seq (.ops [s 20 (.mv (t 0)),
  s 21 (.len true (t 20)),
  k 22 88 [(t 21), (c (i 1)), (c (i 8))] .sc,
  s 2 (.mv (t 22))])
 .ret))), none, [2], [true]⟩
def i127 : Comp := ⟨(.seq (.ops [s 1 (.box 2 (t 0)),
  s 2 (.mv (c (.bool false)))])
 (.seq (.ops [s 3 (.mv (c (i 0))),
  s 4 (.ldB 1 0 1 false true),
  k 5 88 [(t 4), (c (i 0)), (c (i 200))] .sc,
  s 6 (.mv (t 5)),
  sg [(6, true)] 7 (.mv (c (i 0))),
  sg [(6, true)] 8 (.ldB 1 1 1 false true),
  kg [(6, true)] 9 88 [(t 8), (c (i 0)), (c (i 200))] .sc,
  s 10 (.pick (t 6) (t 9) (c (.bool false))),
  s 2 (.mv (t 10))])
 .ret)), none, [2], [true]⟩
def i128 : Comp := ⟨(.seq (.ops [s 2 (.mv (c (.bool false)))])
 (.seq (.ops [s 7 (.mv (t 0)),
  k 8 165 [(t 7)] .lin,
  s 3 (.mv (t 8))])
 (.seq (.seq (.ops [s 4 (.mv (c (i 0)))])
 (.block 0 (.loop (.seq (.seq (.ops [s 9 (.mv (t 4)),
  s 10 (.mv (t 3)),
  s 11 (.len false (t 10)),
  s 12 (.bin .lss (t 9) (t 11))])
 (.cond (t 12) .skip (.exit 0)))
 (.seq (.block 1 (.seq (.ops [s 5 (.mv (c (i 0)))])
 (.block 2 (.loop (.seq (.seq (.ops [s 15 (.mv (t 5)),
  s 16 (.mv (t 4)),
  s 17 (.bin .lss (t 15) (t 16))])
 (.cond (t 17) .skip (.exit 2)))
 (.seq (.block 3 (.seq (.ops [s 6 (.mv (c (i 0)))])
 (.seq (.seq (.ops [s 20 (.mv (t 5)),
  s 21 (.bin .add (t 20) (c (i 1))),
  s 22 (.mv (t 4)),
  s 23 (.bin .eql (t 21) (t 22))])
 (.cond (t 23) (.ops [s 6 (.mv (c (i 1)))]) .skip))
 (.seq (.ops [s 24 (.mv (t 3)),
  s 25 (.mv (t 4)),
  s 26 (.idx (t 24) (t 25) 4),
  s 27 (.ldE 24 26 0 4 true true 4),
  s 28 (.mv (t 3)),
  s 29 (.mv (t 5)),
  s 30 (.idx (t 28) (t 29) 4),
  s 31 (.ldE 28 30 0 4 true true 4),
  k 32 166 [(t 27), (t 31)] .sc,
  s 33 (.mv (t 6)),
  s 34 (.bin .neq (t 32) (t 33))])
 (.cond (t 34) (.seq (.ops [s 2 (.mv (c (.bool false)))])
 .ret) .skip)))))
 (.ops [s 18 (.mv (t 5)),
  s 19 (.bin .add (t 18) (c (i 1))),
  s 5 (.mv (t 19))])))))))
 (.ops [s 13 (.mv (t 4)),
  s 14 (.bin .add (t 13) (c (i 1))),
  s 4 (.mv (t 14))]))))))
 (.seq (.ops [s 35 (.mv (t 0)),
  k 36 167 [(t 35)] .sc,
  s 2 (.mv (t 36))])
 .ret)))), none, [2], [false]⟩
def i129 : Comp := ⟨(.seq (.ops [s 2 (.mv (c (.bool false)))])
 (.seq (.seq (.ops [s 7 (.mv (t 0)),
  s 8 (.len false (t 7)),
  k 9 88 [(t 8), (c (i 3)), (c (i 10))] .sc,
  s 10 (.not (t 9))])
 (.cond (t 10) (.seq (.ops [s 2 (.mv (c (.bool false)))])
 .ret) .skip))
 (.seq (.ops [s 11 (.mv (t 0)),
  k 12 168 [(t 11)] .lin,
  s 3 (.mv (t 12))])
 (.seq (.seq (.ops [s 4 (.mv (c (i 0)))])
 (.block 0 (.loop (.seq (.seq (.ops [s 13 (.mv (t 4)),
  s 14 (.mv (t 3)),
  s 15 (.len false (t 14)),
  s 16 (.bin .lss (t 13) (t 15))])
 (.cond (t 16) .skip (.exit 0)))
 (.seq (.block 1 (.seq (.seq (.ops [s 19 (.mv (t 3)),
  s 20 (.mv (t 4)),
  s 21 (.idx (t 19) (t 20) 4),
  s 22 (.ldE 19 21 0 4 true true 4),
  k 23 169 [(t 22)] .sc,
  s 24 (.not (t 23))])
 (.cond (t 24) (.seq (.ops [s 2 (.mv (c (.bool false)))])
 .ret) .skip))
 (.seq (.ops [s 5 (.mv (c (i 0)))])
 (.block 2 (.loop (.seq (.seq (.ops [s 25 (.mv (t 5)),
  s 26 (.mv (t 4)),
  s 27 (.bin .lss (t 25) (t 26))])
 (.cond (t 27) .skip (.exit 2)))
 (.seq (.block 3 (.seq (.ops [s 6 (.mv (c (i 0)))])
 (.seq (.seq (.ops [s 30 (.mv (t 5)),
  s 31 (.bin .add (t 30) (c (i 1))),
  s 32 (.mv (t 4)),
  s 33 (.bin .eql (t 31) (t 32)),
  s 34 (.mv (t 33)),
  sg [(34, false)] 35 (.mv (t 5)),
  sg [(34, false)] 36 (.bin .eql (t 35) (c (i 0))),
  sg [(34, false)] 37 (.mv (t 36)),
  sg [(37, true), (34, false)] 38 (.mv (t 4)),
  sg [(37, true), (34, false)] 39 (.bin .add (t 38) (c (i 1))),
  sg [(37, true), (34, false)] 40 (.mv (t 3)),
  sg [(37, true), (34, false)] 41 (.len false (t 40)),
  sg [(37, true), (34, false)] 42 (.bin .eql (t 39) (t 41)),
  sg [(34, false)] 43 (.pick (t 37) (t 42) (c (.bool false))),
  s 44 (.pick (t 34) (c (.bool true)) (t 43))])
 (.cond (t 44) (.ops [s 6 (.mv (c (i 1)))]) .skip))
 (.seq (.ops [s 45 (.mv (t 3)),
  s 46 (.mv (t 4)),
  s 47 (.idx (t 45) (t 46) 4),
  s 48 (.ldE 45 47 0 4 true true 4),
  s 49 (.mv (t 3)),
  s 50 (.mv (t 5)),
  s 51 (.idx (t 49) (t 50) 4),
  s 52 (.ldE 49 51 0 4 true true 4),
  k 53 166 [(t 48), (t 52)] .sc,
  s 54 (.mv (t 6)),
  s 55 (.bin .neq (t 53) (t 54))])
 (.cond (t 55) (.seq (.ops [s 2 (.mv (c (.bool false)))])
 .ret) .skip)))))
 (.ops [s 28 (.mv (t 5)),
  s 29 (.bin .add (t 28) (c (i 1))),
  s 5 (.mv (t 29))]))))))))
 (.ops [s 17 (.mv (t 4)),
  s 18 (.bin .add (t 17) (c (i 1))),
  s 4 (.mv (t 18))]))))))
 (.seq (.ops [s 2 (.mv (c (.bool true)))])
 .ret))))), none, [2], [false]⟩
def i137 : Comp := ⟨(.seq (.ops [s 2 (.mv (c (.bool false)))])
 (.seq (.seq (.ops [s 5 (.mv (t 0)),
  s 6 (.len false (t 5)),
  s 7 (.bin .lss (t 6) (c (i 2))),
  s 8 (.mv (t 7)),
  sg [(8, false)] 9 (.mv (t 0)),
  sg [(8, false)] 10 (.len false (t 9)),
  sg [(8, false)] 11 (.bin .gtr (t 10) (c (i 10))),
  s 12 (.pick (t 8) (c (.bool true)) (t 11))])
 (.cond (t 12) (.seq (.ops [s 2 (.mv (c (.bool false)))])
 .ret) .skip))
 (.seq (.seq (.ops [s 13 (.mv (t 0)),
  s 14 (.len false (t 13)),
  s 15 (.mv (c (i 0)))])
 (.block 0 (.loop (.seq (.ops [s 16 (.bin .lss (t 15) (t 14))])
 (.seq (.cond (t 16) .skip (.exit 0))
 (.seq (.block 1 (.seq (.ops [s 17 (.mv (t 15)),
  s 18 (.idx (t 13) (t 15) 2),
  s 19 (.ldE 13 18 0 2 true true 2),
  s 4 (.alc [(i 0), (i 0)]),
  s 3 (.mv (t 17)),
  s 4 (.stB 4 0 2 (t 19) false)])
 (.seq (.ops [s 20 (.ldB 4 0 2 true true),
  k 21 103 [(t 20)] .sc,
  s 22 (.not (t 21)),
  s 23 (.mv (t 22)),
  sg [(23, false)] 24 (.mv (t 3)),
  sg [(23, false)] 25 (.bin .gtr (t 24) (c (i 0))),
  sg [(23, false)] 26 (.mv (t 25)),
  sg [(26, true), (23, false)] 27 (.ldB 4 0 2 true true),
  sg [(26, true), (23, false)] 28 (.mv (t 0)),
  sg [(26, true), (23, false)] 29 (.mv (t 3)),
  sg [(26, true), (23, false)] 30 (.bin .sub (t 29) (c (i 1))),
  sg [(26, true), (23, false)] 31 (.idx (t 28) (t 30) 2),
  sg [(26, true), (23, false)] 32 (.ldE 28 31 0 2 true true 2),
  sg [(26, true), (23, false)] 33 (.eqa false [0, 0] (t 27) (t 32)),
  sg [(23, false)] 34 (.pick (t 26) (t 33) (c (.bool false))),
  s 35 (.pick (t 23) (c (.bool true)) (t 34))])
 (.cond (t 35) (.seq (.ops [s 2 (.mv (c (.bool false)))])
 .ret) .skip))))
 (.ops [s 36 (.bin .add (t 15) (c (i 1))),
  s 15 (.mv (t 36))])))))))
 (.seq (.ops [s 2 (.mv (c (.bool true)))])
 .ret)))), none, [2], [false]⟩
def i138 : Comp := ⟨(.seq (.ops [s 2 (.mv (c (.lst 4 true [])))])
 (.seq (.ops [s 5 (.bsl 4 []),
  s 3 (.mv (t 5))])
 (.seq (.seq (.ops [s 6 (.mv (t 0)),
  k 7 137 [(t 6)] .sc,
  s 8 (.not (t 7))])
 (.cond (t 8) (.seq (.ops [s 9 (.mv (t 3)),
  s 2 (.mv (t 9))])
 .ret) .skip))
 (.seq (.seq (.ops [s 4 (.mv (c (i 1)))])
 (.block 0 (.loop (.seq (.seq (.ops [s 10 (.mv (t 4)),
  s 11 (.mv (t 0)),
  s 12 (.len false (t 11)),
  s 13 (.bin .lss (t 10) (t 12))])
 (.cond (t 13) .skip (.exit 0)))
 (.seq (.block 1 (.ops [s 16 (.mv (t 3)),
  s 17 (.mv (t 0)),
  s 18 (.mv (t 4)),
  s 19 (.bin .sub (t 18) (c (i 1))),
  s 20 (.idx (t 17) (t 19) 2),
  s 21 (.ldE 17 20 0 2 true true 2),
  s 22 (.mv (t 0)),
  s 23 (.mv (t 4)),
  s 24 (.idx (t 22) (t 23) 2),
  s 25 (.ldE 22 24 0 2 true true 2),
  s 26 (.bld [(i 0), (i 0), (i 0), (i 0)] [(0, 2, (t 21)), (2, 2, (t 25))]),
  s 27 (.bsl 4 [(t 26)]),
  s 28 (.app (t 16) (t 27) 4 32),
  s 3 (.mv (t 28))]))
 (.ops [s 14 (.mv (t 4)),
  s 15 (.bin .add (t 14) (c (i 1))),
  s 4 (.mv (t 15))]))))))
 (.seq (.ops [s 29 (.mv (t 3)),
  s 2 (.mv (t 29))])
 .ret))))), none, [2], [false]⟩
def i139 : Comp := ⟨(.seq (.ops [s 2 (.box 4 (t 0)),
  s 3 (.box 4 (t 1)),
  s 4 (.mv (c (i 0)))])
 (.seq (.seq (.ops [s 9 (.ldB 2 0 4 true true),
  k 10 141 [(t 9)] .sc,
  s 11 (.not (t 10)),
  s 12 (.mv (t 11)),
  sg [(12, false)] 13 (.ldB 3 0 4 true true),
  kg [(12, false)] 14 141 [(t 13)] .sc,
  sg [(12, false)] 15 (.not (t 14)),
  s 16 (.pick (t 12) (c (.bool true)) (t 15))])
 (.cond (t 16) (.seq (.ops [s 4 (.mv (c (i 0)))])
 .ret) .skip))
 (.seq (.ops [s 17 (.mv (c (i 0))),
  s 18 (.ldB 2 0 2 true true),
  s 19 (.mv (c (i 0))),
  s 20 (.ldB 2 2 2 true true),
  s 21 (.mv (c (i 0))),
  s 22 (.ldB 3 0 2 true true),
  k 23 173 [(t 18), (t 20), (t 22)] .sc,
  s 24 (.mv (c (i 0))),
  s 25 (.ldB 2 0 2 true true),
  s 26 (.mv (c (i 0))),
  s 27 (.ldB 2 2 2 true true),
  s 28 (.mv (c (i 0))),
  s 29 (.ldB 3 2 2 true true),
  k 30 173 [(t 25), (t 27), (t 29)] .sc,
  s 5 (.mv (t 23)),
  s 6 (.mv (t 30))])
 (.seq (.seq (.ops [s 31 (.mv (t 5)),
  s 32 (.bin .eql (t 31) (c (i 0))),
  s 33 (.mv (t 32)),
  sg [(33, true)] 34 (.mv (t 6)),
  sg [(33, true)] 35 (.bin .eql (t 34) (c (i 0))),
  s 36 (.pick (t 33) (t 35) (c (.bool false)))])
 (.cond (t 36) (.seq (.ops [s 37 (.ldB 2 0 4 true true),
  k 38 174 [(t 37)] .sc,
  s 39 (.ldB 3 0 4 true true),
  k 40 174 [(t 39)] .sc,
  s 2 (.stB 2 0 4 (t 38) false),
  s 3 (.stB 3 0 4 (t 40) false)])
 (.seq (.ops [s 41 (.mv (c (i 0))),
  s 42 (.ldB 2 0 2 true true),
  s 43 (.mv (c (i 0))),
  s 44 (.ldB 2 2 2 true true),
  s 7 (.alc [(i 0), (i 0)]),
  s 8 (.alc [(i 0), (i 0)]),
  s 7 (.stB 7 0 2 (t 42) false),
  s 8 (.stB 8 0 2 (t 44) false)])
 (.seq (.seq (.ops [s 45 (.ldB 7 0 2 true true),
  s 46 (.mv (c (i 0))),
  s 47 (.ldB 3 0 2 true true),
  k 48 175 [(t 45), (t 47)] .sc])
 (.cond (t 48) (.ops [s 49 (.mv (c (i 0))),
  s 50 (.ldB 3 0 2 true true),
  s 7 (.stB 7 0 2 (t 50) false)]) .skip))
 (.seq (.seq (.ops [s 51 (.mv (c (i 0))),
  s 52 (.ldB 3 2 2 true true),
  s 53 (.ldB 8 0 2 true true),
  k 54 175 [(t 52), (t 53)] .sc])
 (.cond (t 54) (.ops [s 55 (.mv (c (i 0))),
  s 56 (.ldB 3 2 2 true true),
  s 8 (.stB 8 0 2 (t 56) false)]) .skip))
 (.seq (.block 0 (.seq (.ops [s 58 (.ldB 8 0 2 true true),
  s 59 (.ldB 7 0 2 true true),
  k 60 175 [(t 58), (t 59)] .sc,
  s 57 (.mv (t 60))])
 (.cond (t 57) (.seq (.ops [s 4 (.mv (c (i 0)))])
 .ret) (.seq (.ops [s 62 (.ldB 7 0 2 true true),
  s 63 (.ldB 8 0 2 true true),
  s 64 (.eqa false [0, 0] (t 62) (t 63)),
  s 61 (.mv (t 64))])
 (.cond (t 61) (.seq (.ops [s 4 (.mv (c (i 1)))])
 .ret) .skip)))))
 (.seq (.ops [s 4 (.mv (c (i 3)))])
 .ret)))))) .skip))
 (.seq (.seq (.ops [s 65 (.mv (t 5)),
  s 66 (.mv (t 6)),
  s 67 (.bin .mul (t 65) (t 66)),
  s 68 (.bin .lss (t 67) (c (i 0))),
  s 69 (.mv (t 68)),
  sg [(69, true)] 70 (.mv (c (i 0))),
  sg [(69, true)] 71 (.ldB 3 0 2 true true),
  sg [(69, true)] 72 (.mv (c (i 0))),
  sg [(69, true)] 73 (.ldB 3 2 2 true true),
  sg [(69, true)] 74 (.mv (c (i 0))),
  sg [(69, true)] 75 (.ldB 2 0 2 true true),
  kg [(69, true)] 76 173 [(t 71), (t 73), (t 75)] .sc,
  sg [(69, true)] 77 (.mv (c (i 0))),
  sg [(69, true)] 78 (.ldB 3 0 2 true true),
  sg [(69, true)] 79 (.mv (c (i 0))),
  sg [(69, true)] 80 (.ldB 3 2 2 true true),
  sg [(69, true)] 81 (.mv (c (i 0))),
  sg [(69, true)] 82 (.ldB 2 2 2 true true),
  kg [(69, true)] 83 173 [(t 78), (t 80), (t 82)] .sc,
  sg [(69, true)] 84 (.bin .mul (t 76) (t 83)),
  sg [(69, true)] 85 (.bin .lss (t 84) (c (i 0))),
  s 86 (.pick (t 69) (t 85) (c (.bool false)))])
 (.cond (t 86) (.seq (.ops [s 4 (.mv (c (i 2)))])
 .ret) .skip))
 (.seq (.seq (.ops [s 87 (.ldB 2 0 4 true true),
  s 88 (.mv (c (i 0))),
  s 89 (.ldB 3 0 2 true true),
  k 90 176 [(t 87), (t 89)] .sc,
  s 91 (.mv (t 90)),
  sg [(91, false)] 92 (.ldB 2 0 4 true true),
  sg [(91, false)] 93 (.mv (c (i 0))),
  sg [(91, false)] 94 (.ldB 3 2 2 true true),
  kg [(91, false)] 95 176 [(t 92), (t 94)] .sc,
  s 96 (.pick (t 91) (c (.bool true)) (t 95)),
  s 97 (.mv (t 96)),
  sg [(97, false)] 98 (.ldB 3 0 4 true true),
  sg [(97, false)] 99 (.mv (c (i 0))),
  sg [(97, false)] 100 (.ldB 2 0 2 true true),
  kg [(97, false)] 101 176 [(t 98), (t 100)] .sc,
  s 102 (.pick (t 97) (c (.bool true)) (t 101)),
  s 103 (.mv (t 102)),
  sg [(103, false)] 104 (.ldB 3 0 4 true true),
  sg [(103, false)] 105 (.mv (c (i 0))),
  sg [(103, false)] 106 (.ldB 2 2 2 true true),
  kg [(103, false)] 107 176 [(t 104), (t 106)] .sc,
  s 108 (.pick (t 103) (c (.bool true)) (t 107))])
 (.cond (t 108) (.seq (.ops [s 4 (.mv (c (i 1)))])
 .ret) .skip))
 (.seq (.ops [s 4 (.mv (c (i 0)))])
 .ret))))))), none, [4], [true, true]⟩
def i140 : Comp := ⟨(.seq (.ops [s 2 (.mv (c (.lst 4 true [])))])
 (.seq (.ops [s 6 (.bsl 4 []),
  s 3 (.mv (t 6))])
 (.seq (.seq (.ops [s 7 (.mv (t 0)),
  s 8 (.len false (t 7)),
  s 9 (.mv (c (i 0)))])
 (.block 0 (.loop (.seq (.ops [s 10 (.bin .lss (t 9) (t 8))])
 (.seq (.cond (t 10) .skip (.exit 0))
 (.seq (.block 1 (.seq (.ops [s 11 (.mv (t 9)),
  s 12 (.idx (t 7) (t 9) 2),
  s 13 (.ldE 7 12 0 2 true true 2),
  s 5 (.alc [(i 0), (i 0)]),
  s 4 (.mv (t 11)),
  s 5 (.stB 5 0 2 (t 13) false)])
 (.ops [s 14 (.mv (t 3)),
  s 15 (.ldB 5 0 2 true true),
  s 16 (.mv (t 0)),
  s 17 (.mv (t 4)),
  s 18 (.bin .add (t 17) (c (i 1))),
  s 19 (.mv (t 0)),
  s 20 (.len false (t 19)),
  s 21 (.bin .rem (t 18) (t 20)),
  s 22 (.idx (t 16) (t 21) 2),
  s 23 (.ldE 16 22 0 2 true true 2),
  s 24 (.bld [(i 0), (i 0), (i 0), (i 0)] [(0, 2, (t 15)), (2, 2, (t 23))]),
  s 25 (.bsl 4 [(t 24)]),
  s 26 (.app (t 14) (t 25) 4 32),
  s 3 (.mv (t 26))])))
 (.ops [s 27 (.bin .add (t 9) (c (i 1))),
  s 9 (.mv (t 27))])))))))
 (.seq (.ops [s 28 (.mv (t 3)),
  s 2 (.mv (t 28))])
 .ret)))), none, [2], [false]⟩
def i141 : Comp := ⟨(.seq (.ops [s 1 (.box 4 (t 0)),
  s 2 (.mv (c (.bool false)))])
 (.seq (.ops [s 3 (.mv (c (i 0))),
  s 4 (.ldB 1 0 2 true true),
  k 5 103 [(t 4)] .sc,
  s 6 (.mv (t 5)),
  sg [(6, true)] 7 (.mv (c (i 0))),
  sg [(6, true)] 8 (.ldB 1 2 2 true true),
  kg [(6, true)] 9 103 [(t 8)] .sc,
  s 10 (.pick (t 6) (t 9) (c (.bool false))),
  s 11 (.mv (t 10)),
  sg [(11, true)] 12 (.mv (c (i 0))),
  sg [(11, true)] 13 (.ldB 1 0 2 true true),
  sg [(11, true)] 14 (.mv (c (i 0))),
  sg [(11, true)] 15 (.ldB 1 2 2 true true),
  sg [(11, true)] 16 (.eqa true [0, 0] (t 13) (t 15)),
  s 17 (.pick (t 11) (t 16) (c (.bool false))),
  s 2 (.mv (t 17))])
 .ret)), none, [2], [true]⟩
def i149 : Comp := ⟨(.seq (.ops [s 2 (.box 4 (t 0)),
  s 3 (.box 4 (t 1)),
  s 4 (.mv (c (.bool false)))])
 (.seq (.ops [s 5 (.mv (c (i 0))),
  s 6 (.ldB 2 3 1 false true),
  s 7 (.mv (c (i 0))),
  s 8 (.ldB 3 3 1 false true),
  s 9 (.bin .gtr (t 6) (t 8)),
  s 10 (.mv (t 9)),
  sg [(10, false)] 11 (.mv (c (i 0))),
  sg [(10, false)] 12 (.ldB 2 3 1 false true),
  sg [(10, false)] 13 (.mv (c (i 0))),
  sg [(10, false)] 14 (.ldB 3 3 1 false true),
  sg [(10, false)] 15 (.bin .eql (t 12) (t 14)),
  sg [(10, false)] 16 (.mv (t 15)),
  sg [(16, true), (10, false)] 17 (.mv (c (i 0))),
  sg [(16, true), (10, false)] 18 (.ldB 2 0 1 false true),
  sg [(16, true), (10, false)] 19 (.mv (c (i 0))),
  sg [(16, true), (10, false)] 20 (.ldB 3 0 1 false true),
  sg [(16, true), (10, false)] 21 (.bin .lss (t 18) (t 20)),
  sg [(10, false)] 22 (.pick (t 16) (t 21) (c (.bool false))),
  s 23 (.pick (t 10) (c (.bool true)) (t 22)),
  s 4 (.mv (t 23))])
 .ret)), none, [4], [true, true]⟩
def i150 : Comp := ⟨(.seq (.ops [s 2 (.box 2 (t 0)),
  s 3 (.box 2 (t 1)),
  s 4 (.mv (c (i 0)))])
 (.seq (.seq (.ops [s 5 (.ldB 2 0 2 true true),
  k 6 127 [(t 5)] .sc,
  s 7 (.not (t 6)),
  s 8 (.mv (t 7)),
  sg [(8, false)] 9 (.ldB 3 0 2 true true),
  kg [(8, false)] 10 127 [(t 9)] .sc,
  sg [(8, false)] 11 (.not (t 10)),
  s 12 (.pick (t 8) (c (.bool true)) (t 11))])
 (.cond (t 12) (.seq (.ops [s 4 (.mv (c (i (-1))))])
 .ret) .skip))
 (.seq (.ops [s 13 (.mv (c (i 0))),
  s 14 (.ldB 2 0 1 false true),
  s 15 (.mv (c (i 0))),
  s 16 (.ldB 3 0 1 false true),
  s 17 (.bin .sub (t 14) (t 16)),
  s 18 (.mv (c (i 0))),
  s 19 (.ldB 2 0 1 false true),
  s 20 (.mv (c (i 0))),
  s 21 (.ldB 3 0 1 false true),
  s 22 (.bin .sub (t 19) (t 21)),
  s 23 (.bin .mul (t 17) (t 22)),
  s 24 (.mv (c (i 0))),
  s 25 (.ldB 2 1 1 false true),
  s 26 (.mv (c (i 0))),
  s 27 (.ldB 3 1 1 false true),
  s 28 (.bin .sub (t 25) (t 27)),
  s 29 (.mv (c (i 0))),
  s 30 (.ldB 2 1 1 false true),
  s 31 (.mv (c (i 0))),
  s 32 (.ldB 3 1 1 false true),
  s 33 (.bin .sub (t 30) (t 32)),
  s 34 (.bin .mul (t 28) (t 33)),
  s 35 (.bin .add (t 23) (t 34)),
  s 4 (.mv (t 35))])
 .ret))), none, [4], [true, true]⟩
def i151 : Comp := ⟨(.seq (.ops [s 2 (.mv (c (.bool false)))])
 (.seq (.seq (.ops [s 5 (.mv (t 0)),
  s 6 (.len false (t 5)),
  s 7 (.bin .gtr (t 6) (c (i 16)))])
 (.cond (t 7) (.seq (.ops [s 2 (.mv (c (.bool false)))])
 .ret) .skip))
 (.seq (.seq (.ops [s 8 (.mv (t 0)),
  s 9 (.len false (t 8)),
  s 10 (.mv (c (i 0)))])
 (.block 0 (.loop (.seq (.ops [s 11 (.bin .lss (t 10) (t 9))])
 (.seq (.cond (t 11) .skip (.exit 0))
 (.seq (.block 1 (.seq (.ops [s 12 (.mv (t 10)),
  s 13 (.idx (t 8) (t 10) 4),
  s 14 (.ldE 8 13 0 4 true true 4),
  s 4 (.alc [(i 0), (i 0), (i 0), (i 0)]),
  s 3 (.mv (t 12)),
  s 4 (.stB 4 0 4 (t 14) false)])
 (.seq (.ops [s 15 (.mv (c (i 0))),
  s 16 (.ldB 4 0 1 false true),
  k 17 90 [(t 16), (c (i 1)), (c (i 99))] .sc,
  s 18 (.not (t 17)),
  s 19 (.mv (t 18)),
  sg [(19, false)] 20 (.mv (c (i 0))),
  sg [(19, false)] 21 (.ldB 4 1 2 true true),
  kg [(19, false)] 22 103 [(t 21)] .sc,
  sg [(19, false)] 23 (.not (t 22)),
  s 24 (.pick (t 19) (c (.bool true)) (t 23)),
  s 25 (.mv (t 24)),
  sg [(25, false)] 26 (.mv (c (i 0))),
  sg [(25, false)] 27 (.ldB 4 3 1 false true),
  kg [(25, false)] 28 90 [(t 27), (c (i 0)), (c (i 9))] .sc,
  sg [(25, false)] 29 (.not (t 28)),
  s 30 (.pick (t 25) (c (.bool true)) (t 29)),
  s 31 (.mv (t 30)),
  sg [(31, false)] 32 (.mv (t 3)),
  sg [(31, false)] 33 (.bin .gtr (t 32) (c (i 0))),
  sg [(31, false)] 34 (.mv (t 33)),
  sg [(34, true), (31, false)] 35 (.mv (c (i 0))),
  sg [(34, true), (31, false)] 36 (.ldB 4 0 1 false true),
  sg [(34, true), (31, false)] 37 (.mv (t 0)),
  sg [(34, true), (31, false)] 38 (.mv (t 3)),
  sg [(34, true), (31, false)] 39 (.bin .sub (t 38) (c (i 1))),
  sg [(34, true), (31, false)] 40 (.idx (t 37) (t 39) 4),
  sg [(34, true), (31, false)] 41 (.mv (t 40)),
  sg [(34, true), (31, false)] 42 (.ldE 37 41 0 1 false true 4),
  sg [(34, true), (31, false)] 43 (.bin .leq (t 36) (t 42)),
  sg [(31, false)] 44 (.pick (t 34) (t 43) (c (.bool false))),
  s 45 (.pick (t 31) (c (.bool true)) (t 44))])
 (.cond (t 45) (.seq (.ops [s 2 (.mv (c (.bool false)))])
 .ret) .skip))))
 (.ops [s 46 (.bin .add (t 10) (c (i 1))),
  s 10 (.mv (t 46))])))))))
 (.seq (.ops [s 2 (.mv (c (.bool true)))])
 .ret)))), none, [2], [false]⟩
def i152 : Comp := ⟨(.seq (.ops [s 2 (.mv (c (.lst 4 true [])))])
 (.seq (.ops [s 4 (.mv (t 0)),
  k 5 185 [(t 4)] .lin,
  s 3 (.mv (t 5))])
 (.seq (.seq (.ops [s 6 (.mv (t 3))])
 (.seq (opM 7 186 3 [(c (.fn 187 []))])
 (.ops [])))
 (.seq (.ops [s 8 (.mv (t 3)),
  s 2 (.mv (t 8))])
 .ret)))), none, [2], [false]⟩
def i153 : Comp := ⟨(.seq (.ops [s 2 (.box 2 (t 0)),
  s 3 (.box 2 (t 1)),
  s 4 (.mv (c (i 0)))])
 (.seq (.seq (.ops [s 7 (.ldB 2 0 2 true true),
  k 8 103 [(t 7)] .sc,
  s 9 (.not (t 8)),
  s 10 (.mv (t 9)),
  sg [(10, false)] 11 (.ldB 3 0 2 true true),
  kg [(10, false)] 12 103 [(t 11)] .sc,
  sg [(10, false)] 13 (.not (t 12)),
  s 14 (.pick (t 10) (c (.bool true)) (t 13))])
 (.cond (t 14) (.seq (.ops [s 4 (.mv (c (i (-1))))])
 .ret) .skip))
 (.seq (.ops [s 15 (.mv (c (i 0))),
  s 16 (.ldB 2 0 1 false true),
  s 17 (.mv (c (i 0))),
  s 18 (.ldB 3 0 1 false true),
  s 19 (.bin .sub (t 16) (t 18)),
  s 20 (.mv (c (i 0))),
  s 21 (.ldB 2 1 1 false true),
  s 22 (.mv (c (i 0))),
  s 23 (.ldB 3 1 1 false true),
  s 24 (.bin .sub (t 21) (t 23)),
  s 5 (.mv (t 19)),
  s 6 (.mv (t 24))])
 (.seq (.ops [s 25 (.mv (t 5)),
  s 26 (.mv (t 5)),
  s 27 (.bin .mul (t 25) (t 26)),
  s 28 (.mv (t 6)),
  s 29 (.mv (t 6)),
  s 30 (.bin .mul (t 28) (t 29)),
  s 31 (.bin .add (t 27) (t 30)),
  s 4 (.mv (t 31))])
 .ret)))), none, [4], [true, true]⟩
def i165 : Comp := ⟨(.seq (.ops [s 2 (.mv (c (.lst 4 true [])))])
 (.seq (.ops [s 5 (.bsl 4 []),
  s 3 (.mv (t 5))])
 (.seq (.seq (.ops [s 4 (.mv (c (i 1)))])
 (.block 0 (.loop (.seq (.seq (.ops [s 6 (.mv (t 4)),
  s 7 (.mv (t 0)),
  s 8 (.len false (t 7)),
  s 9 (.bin .lss (t 6) (t 8)),
  s 10 (.mv (t 9)),
  sg [(10, true)] 11 (.mv (t 0)),
  kg [(10, true)] 12 167 [(t 11)] .sc,
  s 13 (.pick (t 10) (t 12) (c (.bool false)))])
 (.cond (t 13) .skip (.exit 0)))
 (.seq (.block 1 (.ops [s 16 (.mv (t 3)),
  s 17 (.mv (t 0)),
  s 18 (.mv (t 4)),
  s 19 (.bin .sub (t 18) (c (i 1))),
  s 20 (.idx (t 17) (t 19) 2),
  s 21 (.ldE 17 20 0 2 true true 2),
  s 22 (.mv (t 0)),
  s 23 (.mv (t 4)),
  s 24 (.idx (t 22) (t 23) 2),
  s 25 (.ldE 22 24 0 2 true true 2),
  s 26 (.bld [(i 0), (i 0), (i 0), (i 0)] [(0, 2, (t 21)), (2, 2, (t 25))]),
  s 27 (.bsl 4 [(t 26)]),
  s 28 (.app (t 16) (t 27) 4 32),
  s 3 (.mv (t 28))]))
 (.ops [s 14 (.mv (t 4)),
  s 15 (.bin .add (t 14) (c (i 1))),
  s 4 (.mv (t 15))]))))))
 (.seq (.ops [s 29 (.mv (t 3)),
  s 2 (.mv (t 29))])
 .ret)))), none, [2], [false]⟩
def i166 : Comp := ⟨(.seq (.ops [s 2 (.box 4 (t 0)),
  s 3 (.box 4 (t 1)),
  s 4 (.mv (c (i 0)))])
 (.seq (.seq (.ops [s 5 (.ldB 2 0 4 true true),
  k 6 169 [(t 5)] .sc,
  s 7 (.not (t 6)),
  s 8 (.mv (t 7)),
  sg [(8, false)] 9 (.ldB 3 0 4 true true),
  kg [(8, false)] 10 169 [(t 9)] .sc,
  sg [(8, false)] 11 (.not (t 10)),
  s 12 (.pick (t 8) (c (.bool true)) (t 11))])
 (.cond (t 12) (.seq (.ops [s 4 (.mv (c (i 0)))])
 .ret) .skip))
 (.seq (.seq (.ops [s 13 (.mv (c (i 0))),
  s 14 (.mv (t 13)),
  s 15 (.ldB 2 0 1 false true),
  s 16 (.mv (c (i 0))),
  s 17 (.mv (t 16)),
  s 18 (.ldB 2 2 1 false true),
  k 19 195 [(t 15), (t 18)] .sc,
  s 20 (.mv (c (i 0))),
  s 21 (.mv (t 20)),
  s 22 (.ldB 3 0 1 false true),
  s 23 (.mv (c (i 0))),
  s 24 (.mv (t 23)),
  s 25 (.ldB 3 2 1 false true),
  k 26 170 [(t 22), (t 25)] .sc,
  s 27 (.bin .lss (t 19) (t 26)),
  s 28 (.mv (t 27)),
  sg [(28, false)] 29 (.mv (c (i 0))),
  sg [(28, false)] 30 (.mv (t 29)),
  sg [(28, false)] 31 (.ldB 3 0 1 false true),
  sg [(28, false)] 32 (.mv (c (i 0))),
  sg [(28, false)] 33 (.mv (t 32)),
  sg [(28, false)] 34 (.ldB 3 2 1 false true),
  kg [(28, false)] 35 195 [(t 31), (t 34)] .sc,
  sg [(28, false)] 36 (.mv (c (i 0))),
  sg [(28, false)] 37 (.mv (t 36)),
  sg [(28, false)] 38 (.ldB 2 0 1 false true),
  sg [(28, false)] 39 (.mv (c (i 0))),
  sg [(28, false)] 40 (.mv (t 39)),
  sg [(28, false)] 41 (.ldB 2 2 1 false true),
  kg [(28, false)] 42 170 [(t 38), (t 41)] .sc,
  sg [(28, false)] 43 (.bin .lss (t 35) (t 42)),
  s 44 (.pick (t 28) (c (.bool true)) (t 43)),
  s 45 (.mv (t 44)),
  sg [(45, false)] 46 (.mv (c (i 0))),
  sg [(45, false)] 47 (.mv (t 46)),
  sg [(45, false)] 48 (.ldB 2 1 1 false true),
  sg [(45, false)] 49 (.mv (c (i 0))),
  sg [(45, false)] 50 (.mv (t 49)),
  sg [(45, false)] 51 (.ldB 2 3 1 false true),
  kg [(45, false)] 52 195 [(t 48), (t 51)] .sc,
  sg [(45, false)] 53 (.mv (c (i 0))),
  sg [(45, false)] 54 (.mv (t 53)),
  sg [(45, false)] 55 (.ldB 3 1 1 false true),
  sg [(45, false)] 56 (.mv (c (i 0))),
  sg [(45, false)] 57 (.mv (t 56)),
  sg [(45, false)] 58 (.ldB 3 3 1 false true),
  kg [(45, false)] 59 170 [(t 55), (t 58)] .sc,
  sg [(45, false)] 60 (.bin .lss (t 52) (t 59)),
  s 61 (.pick (t 45) (c (.bool true)) (t 60)),
  s 62 (.mv (t 61)),
  sg [(62, false)] 63 (.mv (c (i 0))),
  sg [(62, false)] 64 (.mv (t 63)),
  sg [(62, false)] 65 (.ldB 3 1 1 false true),
  sg [(62, false)] 66 (.mv (c (i 0))),
  sg [(62, false)] 67 (.mv (t 66)),
  sg [(62, false)] 68 (.ldB 3 3 1 false true),
  kg [(62, false)] 69 195 [(t 65), (t 68)] .sc,
  sg [(62, false)] 70 (.mv (c (i 0))),
  sg [(62, false)] 71 (.mv (t 70)),
  sg [(62, false)] 72 (.ldB 2 1 1 false true),
  sg [(62, false)] 73 (.mv (c (i 0))),
  sg [(62, false)] 74 (.mv (t 73)),
  sg [(62, false)] 75 (.ldB 2 3 1 false true),
  kg [(62, false)] 76 170 [(t 72), (t 75)] .sc,
  sg [(62, false)] 77 (.bin .lss (t 69) (t 76)),
  s 78 (.pick (t 62) (c (.bool true)) (t 77))])
 (.cond (t 78) (.seq (.ops [s 4 (.mv (c (i 0)))])
 .ret) .skip))
 (.seq (.seq (.ops [s 79 (.ldB 2 0 4 true true),
  s 80 (.ldB 3 0 4 true true),
  k 81 196 [(t 79), (t 80)] .sc])
 (.block 0 (.seq (.ops [s 83 (.bin .eql (t 81) (c (i 0))),
  s 82 (.mv (t 83))])
 (.cond (t 82) (.seq (.seq (.ops [s 84 (.mv (c (i 0))),
  s 85 (.ldB 2 0 2 true true),
  s 86 (.mv (c (i 0))),
  s 87 (.ldB 2 2 2 true true),
  s 88 (.mv (c (i 0))),
  s 89 (.ldB 3 0 2 true true),
  k 90 197 [(t 85), (t 87), (t 89)] .sc,
  s 91 (.mv (c (i 0))),
  s 92 (.ldB 2 0 2 true true),
  s 93 (.mv (c (i 0))),
  s 94 (.ldB 2 2 2 true true),
  s 95 (.mv (c (i 0))),
  s 96 (.ldB 3 2 2 true true),
  k 97 197 [(t 92), (t 94), (t 96)] .sc,
  s 98 (.bin .mul (t 90) (t 97)),
  s 99 (.bin .lss (t 98) (c (i 0))),
  s 100 (.mv (t 99)),
  sg [(100, true)] 101 (.mv (c (i 0))),
  sg [(100, true)] 102 (.ldB 3 0 2 true true),
  sg [(100, true)] 103 (.mv (c (i 0))),
  sg [(100, true)] 104 (.ldB 3 2 2 true true),
  sg [(100, true)] 105 (.mv (c (i 0))),
  sg [(100, true)] 106 (.ldB 2 0 2 true true),
  kg [(100, true)] 107 197 [(t 102), (t 104), (t 106)] .sc,
  sg [(100, true)] 108 (.mv (c (i 0))),
  sg [(100, true)] 109 (.ldB 3 0 2 true true),
  sg [(100, true)] 110 (.mv (c (i 0))),
  sg [(100, true)] 111 (.ldB 3 2 2 true true),
  sg [(100, true)] 112 (.mv (c (i 0))),
  sg [(100, true)] 113 (.ldB 2 2 2 true true),
  kg [(100, true)] 114 197 [(t 109), (t 111), (t 113)] .sc,
  sg [(100, true)] 115 (.bin .mul (t 107) (t 114)),
  sg [(100, true)] 116 (.bin .lss (t 115) (c (i 0))),
  s 117 (.pick (t 100) (t 116) (c (.bool false)))])
 (.cond (t 117) (.seq (.ops [s 4 (.mv (c (i 2)))])
 .ret) .skip))
 (.seq (.ops [s 4 (.mv (c (i 0)))])
 .ret)) (.seq (.ops [s 119 (.bin .eql (t 81) (c (i 1))),
  s 118 (.mv (t 119))])
 (.cond (t 118) (.seq (.ops [s 4 (.mv (c (i 1)))])
 .ret) .skip))))))
 (.seq (.ops [s 4 (.mv (c (i 3)))])
 .ret))))), none, [4], [true, true]⟩
def i167 : Comp := ⟨(.seq (.ops [s 2 (.mv (c (.bool false)))])
 (.seq (.seq (.ops [s 3 (.mv (c (i 0)))])
 (.block 0 (.loop (.seq (.seq (.ops [s 4 (.mv (t 3)),
  s 5 (.mv (t 0)),
  s 6 (.len false (t 5)),
  s 7 (.bin .lss (t 4) (t 6))])
 (.cond (t 7) .skip (.exit 0)))
 (.seq (.block 1 (.seq (.ops [s 10 (.mv (t 0)),
  s 11 (.mv (t 3)),
  s 12 (.idx (t 10) (t 11) 2),
  s 13 (.ldE 10 12 0 2 true true 2),
  k 14 127 [(t 13)] .sc,
  s 15 (.not (t 14)),
  s 16 (.mv (t 15)),
  sg [(16, false)] 17 (.mv (t 3)),
  sg [(16, false)] 18 (.bin .gtr (t 17) (c (i 0))),
  sg [(16, false)] 19 (.mv (t 18)),
  sg [(19, true), (16, false)] 20 (.mv (t 0)),
  sg [(19, true), (16, false)] 21 (.mv (t 3)),
  sg [(19, true), (16, false)] 22 (.bin .sub (t 21) (c (i 1))),
  sg [(19, true), (16, false)] 23 (.idx (t 20) (t 22) 2),
  sg [(19, true), (16, false)] 24 (.ldE 20 23 0 2 true true 2),
  sg [(19, true), (16, false)] 25 (.mv (t 0)),
  sg [(19, true), (16, false)] 26 (.mv (t 3)),
  sg [(19, true), (16, false)] 27 (.idx (t 25) (t 26) 2),
  sg [(19, true), (16, false)] 28 (.ldE 25 27 0 2 true true 2),
  sg [(19, true), (16, false)] 29 (.eqa false [0, 0] (t 24) (t 28)),
  sg [(16, false)] 30 (.pick (t 19) (t 29) (c (.bool false))),
  s 31 (.pick (t 16) (c (.bool true)) (t 30))])
 (.cond (t 31) (.seq (.ops [s 2 (.mv (c (.bool false)))])
 .ret) .skip)))
 (.ops [s 8 (.mv (t 3)),
  s 9 (.bin .add (t 8) (c (i 1))),
  s 3 (.mv (t 9))]))))))
 (.seq (.ops [s 32 (.mv (t 0)),
  s 33 (.len false (t 32)),
  k 34 88 [(t 33), (c (i 2)), (c (i 10))] .sc,
  s 2 (.mv (t 34))])
 .ret))), none, [2], [false]⟩
def i168 : Comp := ⟨(.seq (.ops [s 2 (.mv (c (.lst 4 true [])))])
 (.seq (.ops [s 5 (.bsl 4 []),
  s 3 (.mv (t 5))])
 (.seq (.seq (.ops [s 4 (.mv (c (i 0)))])
 (.block 0 (.loop (.seq (.seq (.ops [s 6 (.mv (t 4)),
  s 7 (.mv (t 0)),
  s 8 (.len false (t 7)),
  s 9 (.bin .lss (t 6) (t 8))])
 (.cond (t 9) .skip (.exit 0)))
 (.seq (.block 1 (.ops [s 12 (.mv (t 3)),
  s 13 (.mv (t 0)),
  s 14 (.mv (t 4)),
  s 15 (.idx (t 13) (t 14) 2),
  s 16 (.ldE 13 15 0 2 true true 2),
  s 17 (.mv (t 0)),
  s 18 (.mv (t 4)),
  s 19 (.bin .add (t 18) (c (i 1))),
  s 20 (.mv (t 0)),
  s 21 (.len false (t 20)),
  s 22 (.bin .rem (t 19) (t 21)),
  s 23 (.idx (t 17) (t 22) 2),
  s 24 (.ldE 17 23 0 2 true true 2),
  s 25 (.bld [(i 0), (i 0), (i 0), (i 0)] [(0, 2, (t 16)), (2, 2, (t 24))]),
  s 26 (.bsl 4 [(t 25)]),
  s 27 (.app (t 12) (t 26) 4 32),
  s 3 (.mv (t 27))]))
 (.ops [s 10 (.mv (t 4)),
  s 11 (.bin .add (t 10) (c (i 1))),
  s 4 (.mv (t 11))]))))))
 (.seq (.ops [s 28 (.mv (t 3)),
  s 2 (.mv (t 28))])
 .ret)))), none, [2], [false]⟩
def i169 : Comp := ⟨(.seq (.ops [s 1 (.box 4 (t 0)),
  s 2 (.mv (c (.bool false)))])
 (.seq (.ops [s 3 (.mv (c (i 0))),
  s 4 (.ldB 1 0 2 true true),
  k 5 127 [(t 4)] .sc,
  s 6 (.mv (t 5)),
  sg [(6, true)] 7 (.mv (c (i 0))),
  sg [(6, true)] 8 (.ldB 1 2 2 true true),
  kg [(6, true)] 9 127 [(t 8)] .sc,
  s 10 (.pick (t 6) (t 9) (c (.bool false))),
  s 11 (.mv (t 10)),
  sg [(11, true)] 12 (.mv (c (i 0))),
  sg [(11, true)] 13 (.ldB 1 0 2 true true),
  sg [(11, true)] 14 (.mv (c (i 0))),
  sg [(11, true)] 15 (.ldB 1 2 2 true true),
  sg [(11, true)] 16 (.eqa true [0, 0] (t 13) (t 15)),
  s 17 (.pick (t 11) (t 16) (c (.bool false))),
  s 2 (.mv (t 17))])
 .ret)), none, [2], [true]⟩
def i170 : Comp := ⟨(.seq (.ops [s 4 (.mv (c (i 0)))])
 (.seq (.seq (.ops [s 5 (.mv (t 1)),
  s 6 (.mv (t 0)),
  s 7 (.bin .lss (t 5) (t 6))])
 (.cond (t 7) (.seq (.ops [s 8 (.mv (t 1)),
  s 4 (.mv (t 8))])
 .ret) .skip))
 (.seq (.ops [s 9 (.mv (t 0)),
  s 4 (.mv (t 9))])
 .ret))), none, [4], [true, true]⟩
def i173 : Comp := ⟨(.seq (.ops [s 3 (.box 2 (t 0)),
  s 4 (.box 2 (t 1)),
  s 5 (.box 2 (t 2)),
  s 6 (.mv (c (i 0)))])
 (.seq (.seq (.ops [s 7 (.ldB 3 0 2 true true),
  k 8 103 [(t 7)] .sc,
  s 9 (.not (t 8)),
  s 10 (.mv (t 9)),
  sg [(10, false)] 11 (.ldB 4 0 2 true true),
  kg [(10, false)] 12 103 [(t 11)] .sc,
  sg [(10, false)] 13 (.not (t 12)),
  s 14 (.pick (t 10) (c (.bool true)) (t 13)),
  s 15 (.mv (t 14)),
  sg [(15, false)] 16 (.ldB 5 0 2 true true),
  kg [(15, false)] 17 103 [(t 16)] .sc,
  sg [(15, false)] 18 (.not (t 17)),
  s 19 (.pick (t 15) (c (.bool true)) (t 18))])
 (.cond (t 19) (.seq (.ops [s 6 (.mv (c (i 0)))])
 .ret) .skip))
 (.seq (.ops [s 20 (.ldB 3 0 2 true true),
  s 21 (.ldB 4 0 2 true true),
  s 22 (.ldB 5 0 2 true true),
  k 23 200 [(t 20), (t 21), (t 22)] .sc,
  k 24 199 [(t 23), (c (i 0))] .sc,
  s 6 (.mv (t 24))])
 .ret))), none, [6], [true, true, true]⟩
def i174 : Comp := ⟨(.seq (.ops [s 1 (.box 4 (t 0)),
  s 2 (.alc [(i 0), (i 0), (i 0), (i 0)])])
 (.seq (.seq (.ops [s 3 (.mv (c (i 0))),
  s 4 (.ldB 1 2 2 true true),
  s 5 (.mv (c (i 0))),
  s 6 (.ldB 1 0 2 true true),
  k 7 175 [(t 4), (t 6)] .sc])
 (.cond (t 7) (.seq (.ops [s 8 (.ldB 1 0 4 true true),
  k 9 201 [(t 8)] .sc,
  s 2 (.stB 2 0 4 (t 9) false)])
 .ret) .skip))
 (.seq (.ops [s 10 (.ldB 1 0 4 true true),
  s 2 (.stB 2 0 4 (t 10) false)])
 .ret))), (some ⟨2, 155, 4, true, false⟩), [], [true]⟩
def i175 : Comp := ⟨(.seq (.ops [s 2 (.box 2 (t 0)),
  s 3 (.box 2 (t 1)),
  s 4 (.mv (c (.bool false)))])
 (.seq (.ops [s 5 (.mv (c (i 0))),
  s 6 (.ldB 2 1 1 false true),
  s 7 (.mv (c (i 0))),
  s 8 (.ldB 3 1 1 false true),
  s 9 (.bin .lss (t 6) (t 8)),
  s 10 (.mv (t 9)),
  sg [(10, false)] 11 (.mv (c (i 0))),
  sg [(10, false)] 12 (.ldB 2 1 1 false true),
  sg [(10, false)] 13 (.mv (c (i 0))),
  sg [(10, false)] 14 (.ldB 3 1 1 false true),
  sg [(10, false)] 15 (.bin .eql (t 12) (t 14)),
  sg [(10, false)] 16 (.mv (t 15)),
  sg [(16, true), (10, false)] 17 (.mv (c (i 0))),
  sg [(16, true), (10, false)] 18 (.ldB 2 0 1 false true),
  sg [(16, true), (10, false)] 19 (.mv (c (i 0))),
  sg [(16, true), (10, false)] 20 (.ldB 3 0 1 false true),
  sg [(16, true), (10, false)] 21 (.bin .lss (t 18) (t 20)),
  sg [(10, false)] 22 (.pick (t 16) (t 21) (c (.bool false))),
  s 23 (.pick (t 10) (c (.bool true)) (t 22)),
  s 4 (.mv (t 23))])
 .ret)), none, [4], [true, true]⟩
def i176 : Comp := ⟨(.seq (.ops [s 2 (.box 4 (t 0)),
  s 3 (.box 2 (t 1)),
  s 4 (.mv (c (.bool false)))])
 (.seq (.ops [s 5 (.ldB 2 0 4 true true),
  k 6 141 [(t 5)] .sc,
  s 7 (.mv (t 6)),
  sg [(7, true)] 8 (.ldB 3 0 2 true true),
  kg [(7, true)] 9 103 [(t 8)] .sc,
  s 10 (.pick (t 7) (t 9) (c (.bool false))),
  s 11 (.mv (t 10)),
  sg [(11, true)] 12 (.mv (c (i 0))),
  sg [(11, true)] 13 (.ldB 2 0 2 true true),
  sg [(11, true)] 14 (.mv (c (i 0))),
  sg [(11, true)] 15 (.ldB 2 2 2 true true),
  sg [(11, true)] 16 (.ldB 3 0 2 true true),
  kg [(11, true)] 17 173 [(t 13), (t 15), (t 16)] .sc,
  sg [(11, true)] 18 (.bin .eql (t 17) (c (i 0))),
  s 19 (.pick (t 11) (t 18) (c (.bool false))),
  s 20 (.mv (t 19)),
  sg [(20, true)] 21 (.mv (c (i 0))),
  sg [(20, true)] 22 (.ldB 3 0 1 false true),
  sg [(20, true)] 23 (.mv (c (i 0))),
  sg [(20, true)] 24 (.mv (t 23)),
  sg [(20, true)] 25 (.ldB 2 0 1 false true),
  sg [(20, true)] 26 (.mv (c (i 0))),
  sg [(20, true)] 27 (.mv (t 26)),
  sg [(20, true)] 28 (.ldB 2 2 1 false true),
  sg [(20, true)] 29 (.mn (t 25) (t 28)),
  sg [(20, true)] 30 (.mv (c (i 0))),
  sg [(20, true)] 31 (.mv (t 30)),
  sg [(20, true)] 32 (.ldB 2 0 1 false true),
  sg [(20, true)] 33 (.mv (c (i 0))),
  sg [(20, true)] 34 (.mv (t 33)),
  sg [(20, true)] 35 (.ldB 2 2 1 false true),
  sg [(20, true)] 36 (.mx (t 32) (t 35)),
  kg [(20, true)] 37 90 [(t 22), (t 29), (t 36)] .sc,
  s 38 (.pick (t 20) (t 37) (c (.bool false))),
  s 39 (.mv (t 38)),
  sg [(39, true)] 40 (.mv (c (i 0))),
  sg [(39, true)] 41 (.ldB 3 1 1 false true),
  sg [(39, true)] 42 (.mv (c (i 0))),
  sg [(39, true)] 43 (.mv (t 42)),
  sg [(39, true)] 44 (.ldB 2 1 1 false true),
  sg [(39, true)] 45 (.mv (c (i 0))),
  sg [(39, true)] 46 (.mv (t 45)),
  sg [(39, true)] 47 (.ldB 2 3 1 false true),
  sg [(39, true)] 48 (.mn (t 44) (t 47)),
  sg [(39, true)] 49 (.mv (c (i 0))),
  sg [(39, true)] 50 (.mv (t 49)),
  sg [(39, true)] 51 (.ldB 2 1 1 false true),
  sg [(39, true)] 52 (.mv (c (i 0))),
  sg [(39, true)] 53 (.mv (t 52)),
  sg [(39, true)] 54 (.ldB 2 3 1 false true),
  sg [(39, true)] 55 (.mx (t 51) (t 54)),
  kg [(39, true)] 56 90 [(t 41), (t 48), (t 55)] .sc,
  s 57 (.pick (t 39) (t 56) (c (.bool false))),
  s 4 (.mv (t 57))])
 .ret)), none, [4], [true, true]⟩
def i185 : Comp := ⟨(.seq (.ops [s 2 (.mv (c (.lst 4 true [])))])
 (.seq (.seq (.ops [s 3 (.mv (t 0)),
  s 4 (.isn false (t 3))])
 (.cond (t 4) (.seq (.ops [s 2 (.mv (c (.lst 4 true [])))])
 .ret) .skip))
 (.seq (.ops [s 5 (.bsl 4 []),
  s 6 (.mv (t 0)),
  s 7 (.apf (t 5) (t 6) 4 32),
  s 2 (.mv (t 7))])
 .ret))), none, [2], [false]⟩
def i186 : Comp := ⟨(.seq (.ops [s 4 (.mv (t 0)),
  s 5 (.mv (t 0)),
  s 6 (.len false (t 5)),
  s 7 (.mv (t 1))])
 (.seq (opM 8 210 0 [(t 6), (t 7)])
 (.ops []))), none, [], [false]⟩
def i187 : Comp := ⟨(.seq (.ops [s 2 (.box 4 (t 0)),
  s 3 (.box 4 (t 1)),
  s 4 (.mv (c (i 0)))])
 (.seq (.block 0 (.seq (.ops [s 6 (.ldB 2 0 4 true true),
  s 7 (.ldB 3 0 4 true true),
  k 8 188 [(t 6), (t 7)] .sc,
  s 5 (.mv (t 8))])
 (.cond (t 5) (.seq (.ops [s 4 (.mv (c (i (-1))))])
 .ret) (.seq (.ops [s 10 (.ldB 3 0 4 true true),
  s 11 (.ldB 2 0 4 true true),
  k 12 188 [(t 10), (t 11)] .sc,
  s 9 (.mv (t 12))])
 (.cond (t 9) (.seq (.ops [s 4 (.mv (c (i 1)))])
 .ret) .skip)))))
 (.seq (.ops [s 4 (.mv (c (i 0)))])
 .ret))), none, [4], [true, true]⟩
def i188 : Comp := ⟨(.seq (.ops [s 2 (.box 4 (t 0)),
  s 3 (.box 4 (t 1)),
  s 4 (.mv (c (.bool false)))])
 (.seq (.ops [s 5 (.mv (c (i 0))),
  s 6 (.ldB 2 3 1 false true),
  s 7 (.mv (c (i 0))),
  s 8 (.ldB 3 3 1 false true),
  s 9 (.bin .gtr (t 6) (t 8)),
  s 10 (.mv (t 9)),
  sg [(10, false)] 11 (.mv (c (i 0))),
  sg [(10, false)] 12 (.ldB 2 3 1 false true),
  sg [(10, false)] 13 (.mv (c (i 0))),
  sg [(10, false)] 14 (.ldB 3 3 1 false true),
  sg [(10, false)] 15 (.bin .eql (t 12) (t 14)),
  sg [(10, false)] 16 (.mv (t 15)),
  sg [(16, true), (10, false)] 17 (.mv (c (i 0))),
  sg [(16, true), (10, false)] 18 (.ldB 2 0 1 false true),
  sg [(16, true), (10, false)] 19 (.mv (c (i 0))),
  sg [(16, true), (10, false)] 20 (.ldB 3 0 1 false true),
  sg [(16, true), (10, false)] 21 (.bin .lss (t 18) (t 20)),
  sg [(10, false)] 22 (.pick (t 16) (t 21) (c (.bool false))),
  s 23 (.pick (t 10) (c (.bool true)) (t 22)),
  s 4 (.mv (t 23))])
 .ret)), none, [4], [true, true]⟩
def i194 : Comp := ⟨(.seq (.ops [s 2 (.mv (c (.bool false)))])
 (.seq (.ops [s 3 (.mv (t 0)),
  s 4 (.mv (t 0)),
  s 5 (.bin .neq (t 3) (t 4)),
  s 2 (.mv (t 5))])
 .ret)), none, [2], [true]⟩
def i195 : Comp := ⟨(.seq (.ops [s 4 (.mv (c (i 0)))])
 (.seq (.seq (.ops [s 5 (.mv (t 1)),
  s 6 (.mv (t 0)),
  s 7 (.bin .gtr (t 5) (t 6))])
 (.cond (t 7) (.seq (.ops [s 8 (.mv (t 1)),
  s 4 (.mv (t 8))])
 .ret) .skip))
 (.seq (.ops [s 9 (.mv (t 0)),
  s 4 (.mv (t 9))])
 .ret))), none, [4], [true, true]⟩
def i196 : Comp := ⟨(.seq (.ops [s 2 (.box 4 (t 0)),
  s 3 (.box 4 (t 1)),
  s 4 (.mv (c (i 0)))])
 (.seq (.ops [s 10 (.bsl 2 []),
  s 5 (.mv (t 10))])
 (.seq (.ops [s 11 (.mv (c (i 0))),
  s 12 (.ldB 2 0 2 true true),
  s 13 (.mv (c (i 0))),
  s 14 (.ldB 2 2 2 true true),
  s 15 (.mv (c (i 0))),
  s 16 (.ldB 3 0 2 true true),
  s 17 (.mv (c (i 0))),
  s 18 (.ldB 3 2 2 true true),
  s 19 (.bsl 2 [(t 12), (t 14), (t 16), (t 18)]),
  s 6 (.mv (t 19))])
 (.seq (.seq (.ops [s 7 (.mv (c (i 0)))])
 (.block 0 (.loop (.seq (.seq (.ops [s 20 (.mv (t 7)),
  s 21 (.bin .lss (t 20) (c (i 4)))])
 (.cond (t 21) .skip (.exit 0)))
 (.seq (.block 1 (.seq (.ops [s 24 (.mv (t 7)),
  s 25 (.bin .lss (t 24) (c (i 2))),
  s 26 (.mv (t 25)),
  sg [(26, true)] 27 (.ldB 3 0 4 true true),
  sg [(26, true)] 28 (.mv (t 6)),
  sg [(26, true)] 29 (.mv (t 7)),
  sg [(26, true)] 30 (.idx (t 28) (t 29) 2),
  sg [(26, true)] 31 (.ldE 28 30 0 2 true true 2),
  kg [(26, true)] 32 212 [(t 27), (t 31)] .sc,
  s 33 (.pick (t 26) (t 32) (c (.bool false))),
  s 34 (.mv (t 33)),
  sg [(34, false)] 35 (.mv (t 7)),
  sg [(34, false)] 36 (.bin .geq (t 35) (c (i 2))),
  sg [(34, false)] 37 (.mv (t 36)),
  sg [(37, true), (34, false)] 38 (.ldB 2 0 4 true true),
  sg [(37, true), (34, false)] 39 (.mv (t 6)),
  sg [(37, true), (34, false)] 40 (.mv (t 7)),
  sg [(37, true), (34, false)] 41 (.idx (t 39) (t 40) 2),
  sg [(37, true), (34, false)] 42 (.ldE 39 41 0 2 true true 2),
  kg [(37, true), (34, false)] 43 212 [(t 38), (t 42)] .sc,
  sg [(34, false)] 44 (.pick (t 37) (t 43) (c (.bool false))),
  s 45 (.pick (t 34) (c (.bool true)) (t 44)),
  s 8 (.mv (t 45))])
 (.seq (.seq (.ops [s 9 (.mv (c (i 0)))])
 (.block 2 (.loop (.seq (.seq (.ops [s 46 (.mv (t 9)),
  s 47 (.mv (t 5)),
  s 48 (.len false (t 47)),
  s 49 (.bin .lss (t 46) (t 48))])
 (.cond (t 49) .skip (.exit 2)))
 (.seq (.block 3 (.ops [s 52 (.mv (t 8)),
  s 53 (.mv (t 52)),
  sg [(53, true)] 54 (.mv (t 5)),
  sg [(53, true)] 55 (.mv (t 9)),
  sg [(53, true)] 56 (.idx (t 54) (t 55) 2),
  sg [(53, true)] 57 (.ldE 54 56 0 2 true true 2),
  sg [(53, true)] 58 (.mv (t 6)),
  sg [(53, true)] 59 (.mv (t 7)),
  sg [(53, true)] 60 (.idx (t 58) (t 59) 2),
  sg [(53, true)] 61 (.ldE 58 60 0 2 true true 2),
  sg [(53, true)] 62 (.eqa true [0, 0] (t 57) (t 61)),
  s 63 (.pick (t 53) (t 62) (c (.bool false))),
  s 8 (.mv (t 63))]))
 (.ops [s 50 (.mv (t 9)),
  s 51 (.bin .add (t 50) (c (i 1))),
  s 9 (.mv (t 51))]))))))
 (.seq (.ops [s 64 (.mv (t 8))])
 (.cond (t 64) (.ops [s 65 (.mv (t 5)),
  s 66 (.mv (t 6)),
  s 67 (.mv (t 7)),
  s 68 (.idx (t 66) (t 67) 2),
  s 69 (.ldE 66 68 0 2 true true 2),
  s 70 (.bsl 2 [(t 69)]),
  s 71 (.app (t 65) (t 70) 2 16),
  s 5 (.mv (t 71))]) .skip)))))
 (.ops [s 22 (.mv (t 7)),
  s 23 (.bin .add (t 22) (c (i 1))),
  s 7 (.mv (t 23))]))))))
 (.seq (.ops [s 72 (.mv (t 5)),
  s 73 (.len false (t 72)),
  s 4 (.mv (t 73))])
 .ret))))), none, [4], [true, true]⟩
def i197 : Comp := ⟨(.seq (.ops [s 3 (.box 2 (t 0)),
  s 4 (.box 2 (t 1)),
  s 5 (.box 2 (t 2)),
  s 6 (.mv (c (i 0)))])
 (.seq (.seq (.ops [s 8 (.ldB 3 0 2 true true),
  k 9 127 [(t 8)] .sc,
  s 10 (.not (t 9)),
  s 11 (.mv (t 10)),
  sg [(11, false)] 12 (.ldB 4 0 2 true true),
  kg [(11, false)] 13 127 [(t 12)] .sc,
  sg [(11, false)] 14 (.not (t 13)),
  s 15 (.pick (t 11) (c (.bool true)) (t 14)),
  s 16 (.mv (t 15)),
  sg [(16, false)] 17 (.ldB 5 0 2 true true),
  kg [(16, false)] 18 127 [(t 17)] .sc,
  sg [(16, false)] 19 (.not (t 18)),
  s 20 (.pick (t 16) (c (.bool true)) (t 19))])
 (.cond (t 20) (.seq (.ops [s 6 (.mv (c (i 0)))])
 .ret) .skip))
 (.seq (.ops [s 21 (.ldB 3 0 2 true true),
  s 22 (.ldB 4 0 2 true true),
  s 23 (.ldB 5 0 2 true true),
  k 24 213 [(t 21), (t 22), (t 23)] .sc,
  s 7 (.mv (t 24))])
 (.seq (.block 0 (.seq (.ops [s 26 (.mv (t 7)),
  s 27 (.bin .gtr (t 26) (c (i 0))),
  s 25 (.mv (t 27))])
 (.cond (t 25) (.seq (.ops [s 6 (.mv (c (i 1)))])
 .ret) (.seq (.ops [s 29 (.mv (t 7)),
  s 30 (.bin .lss (t 29) (c (i 0))),
  s 28 (.mv (t 30))])
 (.cond (t 28) (.seq (.ops [s 6 (.mv (c (i (-1))))])
 .ret) .skip)))))
 (.seq (.ops [s 6 (.mv (c (i 0)))])
 .ret))))), none, [6], [true, true, true]⟩
def i199 : Comp := ⟨(.seq (.ops [s 4 (.mv (c (i 0)))])
 (.seq (.ops [s 7 (.mv (t 0)),
  k 8 194 [(t 7)] .sc,
  s 5 (.mv (t 8))])
 (.seq (.ops [s 9 (.mv (t 1)),
  k 10 194 [(t 9)] .sc,
  s 6 (.mv (t 10))])
 (.seq (.seq (.ops [s 11 (.mv (t 5))])
 (.cond (t 11) (.seq (.seq (.ops [s 12 (.mv (t 6))])
 (.cond (t 12) (.seq (.ops [s 4 (.mv (c (i 0)))])
 .ret) .skip))
 (.seq (.ops [s 4 (.mv (c (i (-1))))])
 .ret)) .skip))
 (.seq (.seq (.ops [s 13 (.mv (t 6))])
 (.cond (t 13) (.seq (.ops [s 4 (.mv (c (i 1)))])
 .ret) .skip))
 (.seq (.seq (.ops [s 14 (.mv (t 0)),
  s 15 (.mv (t 1)),
  s 16 (.bin .lss (t 14) (t 15))])
 (.cond (t 16) (.seq (.ops [s 4 (.mv (c (i (-1))))])
 .ret) .skip))
 (.seq (.seq (.ops [s 17 (.mv (t 0)),
  s 18 (.mv (t 1)),
  s 19 (.bin .gtr (t 17) (t 18))])
 (.cond (t 19) (.seq (.ops [s 4 (.mv (c (i 1)))])
 .ret) .skip))
 (.seq (.ops [s 4 (.mv (c (i 0)))])
 .ret)))))))), none, [4], [true, true]⟩
def i200 : Comp := ⟨(.seq (.ops [s 3 (.box 2 (t 0)),
  s 4 (.box 2 (t 1)),
  s 5 (.box 2 (t 2)),
  s 6 (.mv (c (i 0)))])
 (.seq (.ops [s 7 (.mv (c (i 0))),
  s 8 (.ldB 4 0 1 false true),
  s 9 (.mv (c (i 0))),
  s 10 (.ldB 3 0 1 false true),
  s 11 (.bin .sub (t 8) (t 10)),
  s 12 (.mv (c (i 0))),
  s 13 (.ldB 5 1 1 false true),
  s 14 (.mv (c (i 0))),
  s 15 (.ldB 3 1 1 false true),
  s 16 (.bin .sub (t 13) (t 15)),
  s 17 (.bin .mul (t 11) (t 16)),
  s 18 (.mv (c (i 0))),
  s 19 (.ldB 4 1 1 false true),
  s 20 (.mv (c (i 0))),
  s 21 (.ldB 3 1 1 false true),
  s 22 (.bin .sub (t 19) (t 21)),
  s 23 (.mv (c (i 0))),
  s 24 (.ldB 5 0 1 false true),
  s 25 (.mv (c (i 0))),
  s 26 (.ldB 3 0 1 false true),
  s 27 (.bin .sub (t 24) (t 26)),
  s 28 (.bin .mul (t 22) (t 27)),
  s 29 (.bin .sub (t 17) (t 28)),
  s 6 (.mv (t 29))])
 .ret)), none, [6], [true, true, true]⟩
def i201 : Comp := ⟨(.seq (.ops [s 1 (.box 4 (t 0)),
  s 2 (.alc [(i 0), (i 0), (i 0), (i 0)])])
 (.seq (.ops [s 3 (.mv (c (i 0))),
  s 4 (.ldB 1 2 2 true true),
  s 5 (.mv (c (i 0))),
  s 6 (.ldB 1 0 2 true true),
  s 7 (.bld [(i 0), (i 0), (i 0), (i 0)] [(0, 2, (t 4)), (2, 2, (t 6))]),
  s 2 (.stB 2 0 4 (t 7) false)])
 .ret)), (some ⟨2, 155, 4, true, false⟩), [], [true]⟩
def i210 : Comp := ⟨(.seq (.ops [s 6 (.mv (c (i 20)))])
 (.seq (.ops [s 10 (.mv (t 6)),
  s 7 (.mv (c (i 0))),
  s 8 (.mv (t 10))])
 (.seq (.block 0 (.loop (.seq (.seq (.ops [s 11 (.mv (t 8)),
  s 12 (.mv (t 1)),
  s 13 (.bin .leq (t 11) (t 12))])
 (.cond (t 13) .skip (.exit 0)))
 (.block 1 (.seq (.seq (.ops [s 14 (.mv (t 0)),
  s 15 (.mv (t 7)),
  s 16 (.mv (t 8)),
  s 17 (.mv (t 2))])
 (.seq (opM 18 218 0 [(t 15), (t 16), (t 17)])
 (.ops [])))
 (.seq (.ops [s 19 (.mv (t 8)),
  s 7 (.mv (t 19))])
 (.ops [s 20 (.mv (t 8)),
  s 21 (.mv (t 6)),
  s 22 (.bin .add (t 20) (t 21)),
  s 8 (.mv (t 22))])))))))
 (.seq (.seq (.ops [s 23 (.mv (t 0)),
  s 24 (.mv (t 7)),
  s 25 (.mv (t 1)),
  s 26 (.mv (t 2))])
 (.seq (opM 27 218 0 [(t 24), (t 25), (t 26)])
 (.ops [])))
 (.block 2 (.loop (.seq (.seq (.ops [s 28 (.mv (t 6)),
  s 29 (.mv (t 1)),
  s 30 (.bin .lss (t 28) (t 29))])
 (.cond (t 30) .skip (.exit 2)))
 (.block 3 (.seq (.ops [s 31 (.mv (t 6)),
  s 32 (.bin .mul (c (i 2)) (t 31)),
  s 7 (.mv (c (i 0))),
  s 8 (.mv (t 32))])
 (.seq (.block 4 (.loop (.seq (.seq (.ops [s 33 (.mv (t 8)),
  s 34 (.mv (t 1)),
  s 35 (.bin .leq (t 33) (t 34))])
 (.cond (t 35) .skip (.exit 4)))
 (.block 5 (.seq (.seq (.ops [s 36 (.mv (t 0)),
  s 37 (.mv (t 7)),
  s 38 (.mv (t 7)),
  s 39 (.mv (t 6)),
  s 40 (.bin .add (t 38) (t 39)),
  s 41 (.mv (t 8)),
  s 42 (.mv (t 2))])
 (.seq (opM 43 219 0 [(t 37), (t 40), (t 41), (t 42)])
 (.ops [])))
 (.seq (.ops [s 44 (.mv (t 8)),
  s 7 (.mv (t 44))])
 (.ops [s 45 (.mv (t 8)),
  s 46 (.mv (t 6)),
  s 47 (.bin .mul (c (i 2)) (t 46)),
  s 48 (.bin .add (t 45) (t 47)),
  s 8 (.mv (t 48))])))))))
 (.seq (.seq (.ops [s 49 (.mv (t 7)),
  s 50 (.mv (t 6)),
  s 51 (.bin .add (t 49) (t 50)),
  s 9 (.mv (t 51))])
 (.seq (.ops [s 52 (.mv (t 9)),
  s 53 (.mv (t 1)),
  s 54 (.bin .lss (t 52) (t 53))])
 (.cond (t 54) (.seq (.ops [s 55 (.mv (t 0)),
  s 56 (.mv (t 7)),
  s 57 (.mv (t 9)),
  s 58 (.mv (t 1)),
  s 59 (.mv (t 2))])
 (.seq (opM 60 219 0 [(t 56), (t 57), (t 58), (t 59)])
 (.ops []))) .skip)))
 (.ops [s 61 (.mv (t 6)),
  s 62 (.bin .mul (t 61) (c (i 2))),
  s 6 (.mv (t 62))])))))))))))), none, [], [true, false]⟩
def i212 : Comp := ⟨(.seq (.ops [s 2 (.box 4 (t 0)),
  s 3 (.box 2 (t 1)),
  s 4 (.mv (c (.bool false)))])
 (.seq (.ops [s 5 (.ldB 2 0 4 true true),
  k 6 169 [(t 5)] .sc,
  s 7 (.mv (t 6)),
  sg [(7, true)] 8 (.ldB 3 0 2 true true),
  kg [(7, true)] 9 127 [(t 8)] .sc,
  s 10 (.pick (t 7) (t 9) (c (.bool false))),
  s 11 (.mv (t 10)),
  sg [(11, true)] 12 (.mv (c (i 0))),
  sg [(11, true)] 13 (.ldB 2 0 2 true true),
  sg [(11, true)] 14 (.mv (c (i 0))),
  sg [(11, true)] 15 (.ldB 2 2 2 true true),
  sg [(11, true)] 16 (.ldB 3 0 2 true true),
  kg [(11, true)] 17 213 [(t 13), (t 15), (t 16)] .sc,
  sg [(11, true)] 18 (.bin .eql (t 17) (c (i 0))),
  s 19 (.pick (t 11) (t 18) (c (.bool false))),
  s 20 (.mv (t 19)),
  sg [(20, true)] 21 (.mv (c (i 0))),
  sg [(20, true)] 22 (.ldB 3 0 1 false true),
  sg [(20, true)] 23 (.mv (c (i 0))),
  sg [(20, true)] 24 (.mv (t 23)),
  sg [(20, true)] 25 (.ldB 2 0 1 false true),
  sg [(20, true)] 26 (.mv (c (i 0))),
  sg [(20, true)] 27 (.mv (t 26)),
  sg [(20, true)] 28 (.ldB 2 2 1 false true),
  kg [(20, true)] 29 170 [(t 25), (t 28)] .sc,
  sg [(20, true)] 30 (.mv (c (i 0))),
  sg [(20, true)] 31 (.mv (t 30)),
  sg [(20, true)] 32 (.ldB 2 0 1 false true),
  sg [(20, true)] 33 (.mv (c (i 0))),
  sg [(20, true)] 34 (.mv (t 33)),
  sg [(20, true)] 35 (.ldB 2 2 1 false true),
  kg [(20, true)] 36 195 [(t 32), (t 35)] .sc,
  kg [(20, true)] 37 88 [(t 22), (t 29), (t 36)] .sc,
  s 38 (.pick (t 20) (t 37) (c (.bool false))),
  s 39 (.mv (t 38)),
  sg [(39, true)] 40 (.mv (c (i 0))),
  sg [(39, true)] 41 (.ldB 3 1 1 false true),
  sg [(39, true)] 42 (.mv (c (i 0))),
  sg [(39, true)] 43 (.mv (t 42)),
  sg [(39, true)] 44 (.ldB 2 1 1 false true),
  sg [(39, true)] 45 (.mv (c (i 0))),
  sg [(39, true)] 46 (.mv (t 45)),
  sg [(39, true)] 47 (.ldB 2 3 1 false true),
  kg [(39, true)] 48 170 [(t 44), (t 47)] .sc,
  sg [(39, true)] 49 (.mv (c (i 0))),
  sg [(39, true)] 50 (.mv (t 49)),
  sg [(39, true)] 51 (.ldB 2 1 1 false true),
  sg [(39, true)] 52 (.mv (c (i 0))),
  sg [(39, true)] 53 (.mv (t 52)),
  sg [(39, true)] 54 (.ldB 2 3 1 false true),
  kg [(39, true)] 55 195 [(t 51), (t 54)] .sc,
  kg [(39, true)] 56 88 [(t 41), (t 48), (t 55)] .sc,
  s 57 (.pick (t 39) (t 56) (c (.bool false))),
  s 4 (.mv (t 57))])
 .ret)), none, [4], [true, true]⟩
def i213 : Comp := ⟨(.seq (.ops [s 3 (.box 2 (t 0)),
  s 4 (.box 2 (t 1)),
  s 5 (.box 2 (t 2)),
  s 6 (.mv (c (i 0)))])
 (.seq (.ops [s 7 (.mv (c (i 0))),
  s 8 (.ldB 4 0 1 false true),
  s 9 (.mv (c (i 0))),
  s 10 (.ldB 3 0 1 false true),
  s 11 (.bin .sub (t 8) (t 10)),
  s 12 (.mv (c (i 0))),
  s 13 (.ldB 5 1 1 false true),
  s 14 (.mv (c (i 0))),
  s 15 (.ldB 3 1 1 false true),
  s 16 (.bin .sub (t 13) (t 15)),
  s 17 (.bin .mul (t 11) (t 16)),
  s 18 (.mv (c (i 0))),
  s 19 (.ldB 4 1 1 false true),
  s 20 (.mv (c (i 0))),
  s 21 (.ldB 3 1 1 false true),
  s 22 (.bin .sub (t 19) (t 21)),
  s 23 (.mv (c (i 0))),
  s 24 (.ldB 5 0 1 false true),
  s 25 (.mv (c (i 0))),
  s 26 (.ldB 3 0 1 false true),
  s 27 (.bin .sub (t 24) (t 26)),
  s 28 (.bin .mul (t 22) (t 27)),
  s 29 (.bin .sub (t 17) (t 28)),
  s 6 (.mv (t 29))])
 .ret)), none, [6], [true, true, true]⟩
def X : Cx := { tab := tbs, sig := sgs, wf := wfs, xf := xfs, rf := rfs, tl := tls }
end Go.Eng
namespace Go.Eng
open Go Go.Proofs
theorem hX : TabOK Tryz.prog X := TabOK.of (by kernel_rfl)
theorem c3 : compP Tryz.prog X 3 = some i3 := by kernel_rfl
theorem c4 : compP Tryz.prog X 4 = some i4 := by kernel_rfl
theorem c7 : compP Tryz.prog X 7 = some i7 := by kernel_rfl
theorem c8 : compP Tryz.prog X 8 = some i8 := by kernel_rfl
theorem c9 : compP Tryz.prog X 9 = some i9 := by kernel_rfl
theorem c10 : compP Tryz.prog X 10 = some i10 := by kernel_rfl
theorem c11 : compP Tryz.prog X 11 = some i11 := by kernel_rfl
theorem c12 : compP Tryz.prog X 12 = some i12 := by kernel_rfl
theorem c13 : compP Tryz.prog X 13 = some i13 := by kernel_rfl
theorem c14 : compM Tryz.prog X 14 = some i14 := by kernel_rfl
theorem c15 : compM Tryz.prog X 15 = some i15 := by kernel_rfl
theorem c16 : compP Tryz.prog X 16 = some i16 := by kernel_rfl
theorem c17 : compP Tryz.prog X 17 = some i17 := by kernel_rfl
theorem c18 : compP Tryz.prog X 18 = some i18 := by kernel_rfl
theorem c19 : compP Tryz.prog X 19 = some i19 := by kernel_rfl
theorem c20 : compP Tryz.prog X 20 = some i20 := by kernel_rfl
theorem c21 : compP Tryz.prog X 21 = some i21 := by kernel_rfl
theorem c27 : compP Tryz.prog X 27 = some i27 := by kernel_rfl
theorem c39 : compP Tryz.prog X 39 = some i39 := by kernel_rfl
theorem c40 : compP Tryz.prog X 40 = some i40 := by kernel_rfl
theorem c41 : compP Tryz.prog X 41 = some i41 := by kernel_rfl
theorem c42 : compP Tryz.prog X 42 = some i42 := by kernel_rfl
theorem c43 : compP Tryz.prog X 43 = some i43 := by kernel_rfl
theorem c44 : compP Tryz.prog X 44 = some i44 := by kernel_rfl
theorem c45 : compP Tryz.prog X 45 = some i45 := by kernel_rfl
theorem c46 : compP Tryz.prog X 46 = some i46 := by kernel_rfl
theorem c47 : compM Tryz.prog X 47 = some i47 := by kernel_rfl
theorem c48 : compP Tryz.prog X 48 = some i48 := by kernel_rfl
theorem c49 : compP Tryz.prog X 49 = some i49 := by kernel_rfl
theorem c50 : compP Tryz.prog X 50 = some i50 := by kernel_rfl
theorem c51 : compP Tryz.prog X 51 = some i51 := by kernel_rfl
theorem c52 : compP Tryz.prog X 52 = some i52 := by kernel_rfl
theorem c53 : compP Tryz.prog X 53 = some i53 := by kernel_rfl
theorem c67 : compP Tryz.prog X 67 = some i67 := by kernel_rfl
theorem c74 : compP Tryz.prog X 74 = some i74 := by kernel_rfl
theorem c75 : compP Tryz.prog X 75 = some i75 := by kernel_rfl
theorem c76 : compP Tryz.prog X 76 = some i76 := by kernel_rfl
theorem c77 : compP Tryz.prog X 77 = some i77 := by kernel_rfl
theorem c78 : compP Tryz.prog X 78 = some i78 := by kernel_rfl
theorem c79 : compP Tryz.prog X 79 = some i79 := by kernel_rfl
theorem c80 : compP Tryz.prog X 80 = some i80 := by kernel_rfl
theorem c81 : compP Tryz.prog X 81 = some i81 := by kernel_rfl
theorem c82 : compP Tryz.prog X 82 = some i82 := by kernel_rfl
theorem c83 : compP Tryz.prog X 83 = some i83 := by kernel_rfl
theorem c85 : compP Tryz.prog X 85 = some i85 := by kernel_rfl
theorem c86 : compP Tryz.prog X 86 = some i86 := by kernel_rfl
theorem c87 : compP Tryz.prog X 87 = some i87 := by kernel_rfl
theorem c88 : compP Tryz.prog X 88 = some i88 := by kernel_rfl
theorem c89 : compP Tryz.prog X 89 = some i89 := by kernel_rfl
theorem c90 : compP Tryz.prog X 90 = some i90 := by kernel_rfl
theorem c91 : compP Tryz.prog X 91 = some i91 := by kernel_rfl
theorem c102 : compP Tryz.prog X 102 = some i102 := by kernel_rfl
theorem c103 : compP Tryz.prog X 103 = some i103 := by kernel_rfl
theorem c104 : compP Tryz.prog X 104 = some i104 := by kernel_rfl
theorem c105 : compP Tryz.prog X 105 = some i105 := by kernel_rfl
theorem c117 : compP Tryz.prog X 117 = some i117 := by kernel_rfl
theorem c118 : compP Tryz.prog X 118 = some i118 := by kernel_rfl
theorem c119 : compP Tryz.prog X 119 = some i119 := by kernel_rfl
theorem c120 : compP Tryz.prog X 120 = some i120 := by kernel_rfl
theorem c121 : compP Tryz.prog X 121 = some i121 := by kernel_rfl
theorem c122 : compP Tryz.prog X 122 = some i122 := by kernel_rfl
theorem c125 : compP Tryz.prog X 125 = some i125 := by kernel_rfl
theorem c126 : compP Tryz.prog X 126 = some i126 := by kernel_rfl
theorem c127 : compP Tryz.prog X 127 = some i127 := by kernel_rfl
theorem c128 : compP Tryz.prog X 128 = some i128 := by kernel_rfl
theorem c129 : compP Tryz.prog X 129 = some i129 := by kernel_rfl
theorem c137 : compP Tryz.prog X 137 = some i137 := by kernel_rfl
theorem c138 : compP Tryz.prog X 138 = some i138 := by kernel_rfl
theorem c139 : compP Tryz.prog X 139 = some i139 := by kernel_rfl
theorem c140 : compP Tryz.prog X 140 = some i140 := by kernel_rfl
theorem c141 : compP Tryz.prog X 141 = some i141 := by kernel_rfl
theorem c149 : compP Tryz.prog X 149 = some i149 := by kernel_rfl
theorem c150 : compP Tryz.prog X 150 = some i150 := by kernel_rfl
theorem c151 : compP Tryz.prog X 151 = some i151 := by kernel_rfl
theorem c152 : compP Tryz.prog X 152 = some i152 := by kernel_rfl
theorem c153 : compP Tryz.prog X 153 = some i153 := by kernel_rfl
theorem c165 : compP Tryz.prog X 165 = some i165 := by kernel_rfl
theorem c166 : compP Tryz.prog X 166 = some i166 := by kernel_rfl
theorem c167 : compP Tryz.prog X 167 = some i167 := by kernel_rfl
theorem c168 : compP Tryz.prog X 168 = some i168 := by kernel_rfl
theorem c169 : compP Tryz.prog X 169 = some i169 := by kernel_rfl
theorem c170 : compP Tryz.prog X 170 = some i170 := by kernel_rfl
theorem c173 : compP Tryz.prog X 173 = some i173 := by kernel_rfl
theorem c174 : compP Tryz.prog X 174 = some i174 := by kernel_rfl
theorem c175 : compP Tryz.prog X 175 = some i175 := by kernel_rfl
theorem c176 : compP Tryz.prog X 176 = some i176 := by kernel_rfl
theorem c185 : compP Tryz.prog X 185 = some i185 := by kernel_rfl
theorem c186 : compM Tryz.prog X 186 = some i186 := by kernel_rfl
theorem c187 : compP Tryz.prog X 187 = some i187 := by kernel_rfl
theorem c188 : compP Tryz.prog X 188 = some i188 := by kernel_rfl
theorem c194 : compP Tryz.prog X 194 = some i194 := by kernel_rfl
theorem c195 : compP Tryz.prog X 195 = some i195 := by kernel_rfl
theorem c196 : compP Tryz.prog X 196 = some i196 := by kernel_rfl
theorem c197 : compP Tryz.prog X 197 = some i197 := by kernel_rfl
theorem c199 : compP Tryz.prog X 199 = some i199 := by kernel_rfl
theorem c200 : compP Tryz.prog X 200 = some i200 := by kernel_rfl
theorem c201 : compP Tryz.prog X 201 = some i201 := by kernel_rfl
theorem c210 : compM Tryz.prog X 210 = some i210 := by kernel_rfl
theorem c212 : compP Tryz.prog X 212 = some i212 := by kernel_rfl
theorem c213 : compP Tryz.prog X 213 = some i213 := by kernel_rfl
end Go.Eng
