/- A part of the proof of a law's statement: for every input the law returns true and leaves its arguments as they were. No condition beyond the statement's own. The laws' functions in that calculus, checked by the kernel against the program. -/
import Derived.Test.YtpbkimkjofngmaaDoorProg
import Derived.Test.YtpbkimkjofngmaaDoorBe3
set_option linter.unusedVariables false
set_option linter.unusedSimpArgs false
set_option linter.unusedSectionVars false
set_option autoImplicit true
set_option relaxedAutoImplicit true
namespace Go.Eng
open Go
def tbs : List (Option TI) := [some ⟨(.tup []), 1, 0, [.junk], false⟩,
  some ⟨.func, 1, 8, [.junk], false⟩,
  some ⟨(.int .i64), 1, 8, [(i 0)], false⟩,
  some ⟨(.int .i64), 1, 8, [(i 0)], false⟩,
  some ⟨.bool, 1, 1, [(.bool false)], false⟩,
  some ⟨(.int .u8), 1, 1, [(.int .u8 (0))], false⟩,
  some ⟨(.int .u8), 1, 1, [(.int .u8 (0))], false⟩,
  some ⟨(.struct [(0, 2), (1, 3), (2, 4), (3, 6)]), 4, 24, [(i 0), (i 0), (.bool false), (.int .u8 (0))], true⟩,
  some ⟨(.struct [(0, 2), (1, 3), (2, 4), (3, 6)]), 4, 24, [(i 0), (i 0), (.bool false), (.int .u8 (0))], true⟩,
  some ⟨.str, 1, 16, [(.str (bs []))], false⟩,
  some ⟨.str, 1, 16, [(.str (bs []))], false⟩,
  some ⟨.str, 1, 16, [(.str (bs []))], false⟩,
  some ⟨(.int .u64), 1, 8, [(.int .u64 (0))], false⟩,
  some ⟨(.struct [(0, 9), (1, 12)]), 2, 24, [(.str (bs [])), (.int .u64 (0))], false⟩,
  some ⟨(.struct [(0, 9), (1, 12)]), 2, 24, [(.str (bs [])), (.int .u64 (0))], false⟩,
  some ⟨(.ptr 113), 1, 8, [.junk], false⟩,
  some ⟨(.ptr 116), 1, 8, [.junk], false⟩,
  some ⟨(.ptr 125), 1, 8, [.junk], false⟩,
  some ⟨(.struct [(0, 17)]), 1, 8, [.junk], false⟩,
  some ⟨(.struct [(0, 17)]), 1, 8, [.junk], false⟩,
  some ⟨.other, 1, 16, [.junk], false⟩,
  some ⟨(.int .i32), 1, 4, [(.int .i32 (0))], false⟩,
  some ⟨(.slice 5), 1, 24, [(.lst 1 true [])], false⟩,
  some ⟨.func, 1, 8, [.junk], false⟩,
  some ⟨.func, 1, 8, [.junk], false⟩,
  some ⟨.func, 1, 8, [.junk], false⟩,
  some ⟨(.tup [3, 3]), 1, 0, [.junk], false⟩,
  some ⟨.func, 1, 8, [.junk], false⟩,
  some ⟨.func, 1, 8, [.junk], false⟩,
  some ⟨.func, 1, 8, [.junk], false⟩,
  some ⟨(.slice 71), 1, 24, [(.lst 2 true [])], false⟩,
  some ⟨(.struct [(0, 3), (1, 3), (2, 3), (3, 9), (4, 30)]), 5, 64, [(i 0), (i 0), (i 0), (.str (bs [])), (.lst 2 true [])], true⟩,
  some ⟨(.struct [(0, 3), (1, 3), (2, 3), (3, 9), (4, 30)]), 5, 64, [(i 0), (i 0), (i 0), (.str (bs [])), (.lst 2 true [])], true⟩,
  some ⟨.func, 1, 8, [.junk], false⟩,
  some ⟨(.slice 9), 1, 24, [(.lst 1 true [])], false⟩,
  some ⟨.func, 1, 8, [.junk], false⟩,
  some ⟨(.slice 63), 1, 24, [(.lst 2 true [])], false⟩,
  some ⟨(.struct [(0, 3), (1, 3), (2, 3), (3, 9), (4, 36)]), 5, 64, [(i 0), (i 0), (i 0), (.str (bs [])), (.lst 2 true [])], true⟩,
  some ⟨(.struct [(0, 3), (1, 3), (2, 3), (3, 9), (4, 36)]), 5, 64, [(i 0), (i 0), (i 0), (.str (bs [])), (.lst 2 true [])], true⟩,
  some ⟨.func, 1, 8, [.junk], false⟩,
  some ⟨.func, 1, 8, [.junk], false⟩,
  some ⟨.func, 1, 8, [.junk], false⟩,
  some ⟨.func, 1, 8, [.junk], false⟩,
  some ⟨.func, 1, 8, [.junk], false⟩,
  some ⟨.func, 1, 8, [.junk], false⟩,
  some ⟨(.ptr 57), 1, 8, [.junk], false⟩,
  some ⟨.func, 1, 8, [.junk], false⟩,
  some ⟨.func, 1, 8, [.junk], false⟩,
  some ⟨.func, 1, 8, [.junk], false⟩,
  some ⟨.func, 1, 8, [.junk], false⟩,
  some ⟨(.slice 3), 1, 24, [(.lst 1 true [])], false⟩,
  some ⟨.func, 1, 8, [.junk], false⟩,
  some ⟨.func, 1, 8, [.junk], false⟩,
  some ⟨.func, 1, 8, [.junk], false⟩,
  some ⟨.func, 1, 8, [.junk], false⟩,
  some ⟨.func, 1, 8, [.junk], false⟩,
  some ⟨(.struct [(0, 22), (1, 3), (2, 3)]), 3, 40, [(.lst 1 true []), (i 0), (i 0)], true⟩,
  some ⟨(.struct [(0, 22), (1, 3), (2, 3)]), 3, 40, [(.lst 1 true []), (i 0), (i 0)], true⟩,
  some ⟨.func, 1, 8, [.junk], false⟩,
  some ⟨.func, 1, 8, [.junk], false⟩,
  some ⟨(.slice 84), 1, 24, [(.lst 4 true [])], false⟩,
  some ⟨.func, 1, 8, [.junk], false⟩,
  some ⟨(.struct [(0, 3), (1, 3)]), 2, 16, [(i 0), (i 0)], true⟩,
  some ⟨(.struct [(0, 3), (1, 3)]), 2, 16, [(i 0), (i 0)], true⟩,
  some ⟨(.struct [(0, 63), (2, 63)]), 4, 32, [(i 0), (i 0), (i 0), (i 0)], true⟩,
  some ⟨(.struct [(0, 63), (2, 63)]), 4, 32, [(i 0), (i 0), (i 0), (i 0)], true⟩,
  some ⟨(.tup [65, 4]), 1, 0, [.junk], false⟩,
  some ⟨.func, 1, 8, [.junk], false⟩,
  some ⟨(.slice 81), 1, 24, [(.lst 2 true [])], false⟩,
  some ⟨.func, 1, 8, [.junk], false⟩,
  some ⟨.func, 1, 8, [.junk], false⟩,
  some ⟨(.struct [(0, 3), (1, 3)]), 2, 16, [(i 0), (i 0)], true⟩,
  some ⟨.func, 1, 8, [.junk], false⟩,
  some ⟨.func, 1, 8, [.junk], false⟩,
  some ⟨.func, 1, 8, [.junk], false⟩,
  some ⟨.func, 1, 8, [.junk], false⟩,
  some ⟨.func, 1, 8, [.junk], false⟩,
  some ⟨.func, 1, 8, [.junk], false⟩,
  some ⟨.func, 1, 8, [.junk], false⟩,
  some ⟨.func, 1, 8, [.junk], false⟩,
  some ⟨(.struct [(0, 3), (1, 3)]), 2, 16, [(i 0), (i 0)], true⟩,
  some ⟨(.struct [(0, 3), (1, 3)]), 2, 16, [(i 0), (i 0)], true⟩,
  some ⟨.func, 1, 8, [.junk], false⟩,
  some ⟨(.struct [(0, 63), (2, 63)]), 4, 32, [(i 0), (i 0), (i 0), (i 0)], true⟩,
  some ⟨(.struct [(0, 63), (2, 63)]), 4, 32, [(i 0), (i 0), (i 0), (i 0)], true⟩,
  some ⟨.func, 1, 8, [.junk], false⟩,
  some ⟨(.int .u64), 1, 8, [(.int .u64 (0))], false⟩,
  some ⟨.func, 1, 8, [.junk], false⟩,
  some ⟨.func, 1, 8, [.junk], false⟩,
  some ⟨.func, 1, 8, [.junk], false⟩,
  some ⟨.func, 1, 8, [.junk], false⟩,
  some ⟨.func, 1, 8, [.junk], false⟩,
  some ⟨.func, 1, 8, [.junk], false⟩,
  some ⟨(.arr 24 5), 24, 24, [(.int .u8 (0)), (.int .u8 (0)), (.int .u8 (0)), (.int .u8 (0)), (.int .u8 (0)), (.int .u8 (0)), (.int .u8 (0)), (.int .u8 (0)), (.int .u8 (0)), (.int .u8 (0)), (.int .u8 (0)), (.int .u8 (0)), (.int .u8 (0)), (.int .u8 (0)), (.int .u8 (0)), (.int .u8 (0)), (.int .u8 (0)), (.int .u8 (0)), (.int .u8 (0)), (.int .u8 (0)), (.int .u8 (0)), (.int .u8 (0)), (.int .u8 (0)), (.int .u8 (0))], false⟩,
  some ⟨(.int .u64), 1, 8, [(.int .u64 (0))], false⟩,
  some ⟨.func, 1, 8, [.junk], false⟩,
  some ⟨.func, 1, 8, [.junk], false⟩,
  some ⟨(.tup [22, 9]), 1, 0, [.junk], false⟩,
  some ⟨.func, 1, 8, [.junk], false⟩,
  some ⟨.func, 1, 8, [.junk], false⟩,
  some ⟨.func, 1, 8, [.junk], false⟩,
  some ⟨.func, 1, 8, [.junk], false⟩,
  some ⟨.func, 1, 8, [.junk], false⟩,
  some ⟨(.arr 20 94), 20, 160, [(.int .u64 (0)), (.int .u64 (0)), (.int .u64 (0)), (.int .u64 (0)), (.int .u64 (0)), (.int .u64 (0)), (.int .u64 (0)), (.int .u64 (0)), (.int .u64 (0)), (.int .u64 (0)), (.int .u64 (0)), (.int .u64 (0)), (.int .u64 (0)), (.int .u64 (0)), (.int .u64 (0)), (.int .u64 (0)), (.int .u64 (0)), (.int .u64 (0)), (.int .u64 (0)), (.int .u64 (0))], false⟩,
  some ⟨(.int .u32), 1, 4, [(.int .u32 (0))], false⟩,
  some ⟨(.arr 65 5), 65, 65, [(.int .u8 (0)), (.int .u8 (0)), (.int .u8 (0)), (.int .u8 (0)), (.int .u8 (0)), (.int .u8 (0)), (.int .u8 (0)), (.int .u8 (0)), (.int .u8 (0)), (.int .u8 (0)), (.int .u8 (0)), (.int .u8 (0)), (.int .u8 (0)), (.int .u8 (0)), (.int .u8 (0)), (.int .u8 (0)), (.int .u8 (0)), (.int .u8 (0)), (.int .u8 (0)), (.int .u8 (0)), (.int .u8 (0)), (.int .u8 (0)), (.int .u8 (0)), (.int .u8 (0)), (.int .u8 (0)), (.int .u8 (0)), (.int .u8 (0)), (.int .u8 (0)), (.int .u8 (0)), (.int .u8 (0)), (.int .u8 (0)), (.int .u8 (0)), (.int .u8 (0)), (.int .u8 (0)), (.int .u8 (0)), (.int .u8 (0)), (.int .u8 (0)), (.int .u8 (0)), (.int .u8 (0)), (.int .u8 (0)), (.int .u8 (0)), (.int .u8 (0)), (.int .u8 (0)), (.int .u8 (0)), (.int .u8 (0)), (.int .u8 (0)), (.int .u8 (0)), (.int .u8 (0)), (.int .u8 (0)), (.int .u8 (0)), (.int .u8 (0)), (.int .u8 (0)), (.int .u8 (0)), (.int .u8 (0)), (.int .u8 (0)), (.int .u8 (0)), (.int .u8 (0)), (.int .u8 (0)), (.int .u8 (0)), (.int .u8 (0)), (.int .u8 (0)), (.int .u8 (0)), (.int .u8 (0)), (.int .u8 (0)), (.int .u8 (0))], false⟩,
  some ⟨.func, 1, 8, [.junk], false⟩,
  some ⟨.func, 1, 8, [.junk], false⟩,
  some ⟨.func, 1, 8, [.junk], false⟩,
  some ⟨(.arr 32 5), 32, 32, [(.int .u8 (0)), (.int .u8 (0)), (.int .u8 (0)), (.int .u8 (0)), (.int .u8 (0)), (.int .u8 (0)), (.int .u8 (0)), (.int .u8 (0)), (.int .u8 (0)), (.int .u8 (0)), (.int .u8 (0)), (.int .u8 (0)), (.int .u8 (0)), (.int .u8 (0)), (.int .u8 (0)), (.int .u8 (0)), (.int .u8 (0)), (.int .u8 (0)), (.int .u8 (0)), (.int .u8 (0)), (.int .u8 (0)), (.int .u8 (0)), (.int .u8 (0)), (.int .u8 (0)), (.int .u8 (0)), (.int .u8 (0)), (.int .u8 (0)), (.int .u8 (0)), (.int .u8 (0)), (.int .u8 (0)), (.int .u8 (0)), (.int .u8 (0))], false⟩,
  some ⟨(.arr 64 5), 64, 64, [(.int .u8 (0)), (.int .u8 (0)), (.int .u8 (0)), (.int .u8 (0)), (.int .u8 (0)), (.int .u8 (0)), (.int .u8 (0)), (.int .u8 (0)), (.int .u8 (0)), (.int .u8 (0)), (.int .u8 (0)), (.int .u8 (0)), (.int .u8 (0)), (.int .u8 (0)), (.int .u8 (0)), (.int .u8 (0)), (.int .u8 (0)), (.int .u8 (0)), (.int .u8 (0)), (.int .u8 (0)), (.int .u8 (0)), (.int .u8 (0)), (.int .u8 (0)), (.int .u8 (0)), (.int .u8 (0)), (.int .u8 (0)), (.int .u8 (0)), (.int .u8 (0)), (.int .u8 (0)), (.int .u8 (0)), (.int .u8 (0)), (.int .u8 (0)), (.int .u8 (0)), (.int .u8 (0)), (.int .u8 (0)), (.int .u8 (0)), (.int .u8 (0)), (.int .u8 (0)), (.int .u8 (0)), (.int .u8 (0)), (.int .u8 (0)), (.int .u8 (0)), (.int .u8 (0)), (.int .u8 (0)), (.int .u8 (0)), (.int .u8 (0)), (.int .u8 (0)), (.int .u8 (0)), (.int .u8 (0)), (.int .u8 (0)), (.int .u8 (0)), (.int .u8 (0)), (.int .u8 (0)), (.int .u8 (0)), (.int .u8 (0)), (.int .u8 (0)), (.int .u8 (0)), (.int .u8 (0)), (.int .u8 (0)), (.int .u8 (0)), (.int .u8 (0)), (.int .u8 (0)), (.int .u8 (0)), (.int .u8 (0))], false⟩,
  some ⟨.func, 1, 8, [.junk], false⟩,
  some ⟨(.struct [(0, 17), (1, 17), (2, 17), (3, 9)]), 4, 40, [.junk], false⟩,
  some ⟨(.struct [(0, 17), (1, 17), (2, 17), (3, 9)]), 4, 40, [.junk], false⟩,
  some ⟨(.arr 0 16), 0, 0, [], false⟩,
  some ⟨(.struct [(0, 114)]), 0, 0, [], false⟩,
  some ⟨(.struct [(0, 114)]), 0, 0, [], false⟩,
  some ⟨.func, 1, 8, [.junk], false⟩,
  some ⟨(.int .u8), 1, 1, [(.int .u8 (0))], false⟩,
  some ⟨(.int .u8), 1, 1, [(.int .u8 (0))], false⟩,
  some ⟨.func, 1, 8, [.junk], false⟩,
  some ⟨(.ptr 5), 1, 8, [.junk], false⟩,
  some ⟨(.int .i32), 1, 4, [(.int .i32 (0))], false⟩,
  some ⟨(.int .i32), 1, 4, [(.int .i32 (0))], false⟩,
  some ⟨(.struct [(0, 12), (1, 12), (2, 104), (3, 118), (4, 5), (5, 5), (6, 119), (7, 120), (8, 121), (9, 122), (10, 123)]), 11, 48, [.junk], false⟩,
  some ⟨(.struct [(0, 12), (1, 12), (2, 104), (3, 118), (4, 5), (5, 5), (6, 119), (7, 120), (8, 121), (9, 122), (10, 123)]), 11, 48, [.junk], false⟩,
  some ⟨.other, 1, 8, [.junk], false⟩]
def wfs : List Nat := [20, 21, 36]
def xfs : List Nat := []
def rfs : List (Nat × Bool × Bool × Bool) := [(6, false, false, false), (9, false, false, false), (11, false, false, false), (23, false, false, true), (24, true, false, false), (28, true, false, false), (39, true, false, false), (52, true, false, false)]
def tls : List Nat := []
def sgs : List (Nat × Bool) := [(0, false), (1, false), (2, false), (3, false), (4, false), (5, false), (7, false), (8, false), (10, false), (12, false), (13, false), (14, false), (15, true), (16, true), (17, true), (18, false), (19, false), (22, false), (25, false), (26, false), (27, false), (29, false), (30, true), (31, false), (32, true), (33, true), (34, false), (35, false), (37, false), (38, false), (40, false), (41, true), (42, false), (43, true), (44, false), (45, false), (46, false), (47, false), (48, false), (49, true), (50, false), (51, false), (53, false), (54, false), (55, false), (56, false), (57, true), (58, true), (59, false), (60, false), (61, false), (62, false), (63, false), (64, false), (65, false), (66, false), (67, true), (68, false), (69, false), (70, false), (71, false), (72, true), (73, false), (74, false), (75, false), (76, false), (77, false), (78, false), (79, true), (80, false), (81, true), (82, false), (83, false), (84, true), (85, false), (86, false), (87, false), (88, false), (89, false), (90, false), (91, true), (92, false), (93, false), (94, false), (95, false), (96, false), (97, false), (98, false), (99, false), (100, false), (101, false), (102, false), (103, false), (104, false), (105, false), (106, false), (107, false), (108, false), (109, false), (110, false), (111, false), (112, false), (113, false), (114, false), (115, false), (116, false), (117, false), (118, false), (119, false), (120, false), (121, false), (122, false), (123, false), (124, false), (125, false), (126, false), (127, false), (128, false), (129, false), (130, false), (131, false), (132, false)]
def i3 : Comp := ⟨(.seq (.ops [s 2 (.mv (c (.bool false)))])
 (.seq (.seq (.ops [s 12 (.mv (t 0)),
  k 13 5 [(t 12)] .sc])
 (.cond (t 13) (.seq (.ops [s 2 (.mv (c (.bool true)))])
 .ret) .skip))
 (.seq (.seq (.ops [s 14 (.mv (t 0))])
 (.seq (opD 15 6 [(t 14)] .sc)
 (.ops [s 3 (.mv (t 15))])))
 (.seq (.ops [s 16 (.mv (t 3)),
  k 17 7 [(t 16)] .sc,
  s 4 (.mv (t 17))])
 (.seq (.seq (.ops [s 18 (.mv (t 3)),
  s 19 (.bin .geq (t 18) (c (i 1))),
  s 20 (.mv (t 19)),
  sg [(20, true)] 21 (.mv (t 3)),
  sg [(20, true)] 22 (.bin .leq (t 21) (c (i 1000000000))),
  s 23 (.pick (t 20) (t 22) (c (.bool false))),
  s 24 (.mv (t 23)),
  sg [(24, true)] 25 (.mv (t 4)),
  sg [(24, true)] 26 (.bin .lss (t 25) (c (i 1))),
  sg [(24, true)] 27 (.mv (t 26)),
  sg [(27, false), (24, true)] 28 (.mv (t 4)),
  sg [(27, false), (24, true)] 29 (.mv (t 3)),
  sg [(27, false), (24, true)] 30 (.bin .gtr (t 28) (t 29)),
  sg [(24, true)] 31 (.pick (t 27) (c (.bool true)) (t 30)),
  sg [(24, true)] 32 (.mv (t 31)),
  sg [(32, false), (24, true)] 33 (.mv (t 4)),
  kg [(32, false), (24, true)] 34 7 [(t 33)] .sc,
  sg [(32, false), (24, true)] 35 (.mv (t 4)),
  sg [(32, false), (24, true)] 36 (.bin .neq (t 34) (t 35)),
  sg [(24, true)] 37 (.pick (t 32) (c (.bool true)) (t 36)),
  sg [(24, true)] 38 (.mv (t 37)),
  sg [(38, false), (24, true)] 39 (.mv (t 4)),
  sg [(38, false), (24, true)] 40 (.bin .mul (c (i 5)) (t 39)),
  sg [(38, false), (24, true)] 41 (.mv (t 3)),
  sg [(38, false), (24, true)] 42 (.bin .mul (c (i 2)) (t 41)),
  sg [(38, false), (24, true)] 43 (.bin .lss (t 40) (t 42)),
  sg [(24, true)] 44 (.pick (t 38) (c (.bool true)) (t 43)),
  s 45 (.pick (t 24) (t 44) (c (.bool false))),
  s 46 (.mv (t 45)),
  sg [(46, false)] 47 (.mv (t 3)),
  sg [(46, false)] 48 (.bin .lss (t 47) (c (i 1))),
  sg [(46, false)] 49 (.mv (t 48)),
  sg [(49, true), (46, false)] 50 (.mv (t 4)),
  sg [(49, true), (46, false)] 51 (.bin .neq (t 50) (c (i 0))),
  sg [(46, false)] 52 (.pick (t 49) (t 51) (c (.bool false))),
  s 53 (.pick (t 46) (c (.bool true)) (t 52))])
 (.cond (t 53) (.seq (.ops [s 2 (.mv (c (.bool false)))])
 .ret) .skip))
 (.seq (.ops [s 54 (.mv (t 4)),
  k 55 8 [(t 54)] .sc,
  s 5 (.mv (t 55))])
 (.seq (.seq (.ops [s 56 (.mv (t 4)),
  s 57 (.bin .geq (t 56) (c (i 10))),
  s 58 (.mv (t 57)),
  sg [(58, true)] 59 (.mv (t 4)),
  sg [(58, true)] 60 (.mv (t 5)),
  sg [(58, true)] 61 (.bin .rem (t 59) (t 60)),
  sg [(58, true)] 62 (.bin .neq (t 61) (c (i 0))),
  s 63 (.pick (t 58) (t 62) (c (.bool false)))])
 (.cond (t 63) (.seq (.ops [s 2 (.mv (c (.bool false)))])
 .ret) .skip))
 (.seq (.seq (.ops [s 65 (.mv (t 0))])
 (.seq (opD 66 9 [(t 65)] .sc)
 (.ops [s 64 (.mv (t 66)),
  s 67 (.ext 64 0 true),
  s 68 (.ext 64 1 true),
  s 6 (.mv (t 67)),
  s 7 (.mv (t 68))])))
 (.seq (.ops [s 70 (.mv (t 6)),
  s 71 (.mv (t 7)),
  k 72 10 [(t 70), (t 71)] .sc,
  s 69 (.mv (t 72)),
  s 73 (.ext 69 0 true),
  s 74 (.ext 69 1 true),
  s 8 (.mv (t 73)),
  s 9 (.mv (t 74))])
 (.seq (.seq (.ops [s 75 (.mv (t 8)),
  s 76 (.bin .gtr (t 75) (c (i 0))),
  s 77 (.mv (t 76)),
  sg [(77, true)] 78 (.mv (t 9)),
  sg [(77, true)] 79 (.mv (t 6)),
  sg [(77, true)] 80 (.bin .gtr (t 78) (t 79)),
  sg [(77, true)] 81 (.mv (t 80)),
  sg [(81, false), (77, true)] 82 (.mv (t 8)),
  sg [(81, false), (77, true)] 83 (.mv (t 6)),
  sg [(81, false), (77, true)] 84 (.mv (t 7)),
  sg [(81, false), (77, true)] 85 (.bin .mul (t 83) (t 84)),
  sg [(81, false), (77, true)] 86 (.bin .gtr (t 82) (t 85)),
  sg [(77, true)] 87 (.pick (t 81) (c (.bool true)) (t 86)),
  sg [(77, true)] 88 (.mv (t 87)),
  sg [(88, false), (77, true)] 89 (.mv (t 8)),
  kg [(88, false), (77, true)] 90 7 [(t 89)] .sc,
  sg [(88, false), (77, true)] 91 (.mv (t 8)),
  sg [(88, false), (77, true)] 92 (.bin .neq (t 90) (t 91)),
  sg [(77, true)] 93 (.pick (t 88) (c (.bool true)) (t 92)),
  s 94 (.pick (t 77) (t 93) (c (.bool false)))])
 (.cond (t 94) (.seq (.ops [s 2 (.mv (c (.bool false)))])
 .ret) .skip))
 (.seq (.seq (.ops [s 95 (.mv (t 0))])
 (.seq (opD 96 11 [(t 95)] .sc)
 (.ops [s 10 (.mv (t 96))])))
 (.seq (.ops [s 97 (.mv (t 10)),
  k 98 12 [(t 97)] .sc,
  s 11 (.mv (t 98))])
 (.seq (.ops [s 99 (.mv (t 11)),
  s 100 (.bin .eql (t 99) (c (i 0))),
  s 101 (.mv (t 10)),
  s 102 (.bin .lss (t 101) (c (i 1))),
  s 103 (.mv (t 102)),
  sg [(103, false)] 104 (.mv (t 10)),
  sg [(103, false)] 105 (.bin .geq (t 104) (c (i 500000000))),
  s 106 (.pick (t 103) (c (.bool true)) (t 105)),
  s 107 (.beq false (t 100) (t 106)),
  s 108 (.mv (t 107)),
  sg [(108, true)] 109 (.mv (t 11)),
  sg [(108, true)] 110 (.bin .eql (t 109) (c (i 0))),
  sg [(108, true)] 111 (.mv (t 110)),
  sg [(111, false), (108, true)] 112 (.mv (t 11)),
  sg [(111, false), (108, true)] 113 (.mv (t 10)),
  sg [(111, false), (108, true)] 114 (.bin .gtr (t 112) (t 113)),
  sg [(111, false), (108, true)] 115 (.mv (t 114)),
  sg [(115, true), (111, false), (108, true)] 116 (.mv (t 11)),
  kg [(115, true), (111, false), (108, true)] 117 7 [(t 116)] .sc,
  sg [(115, true), (111, false), (108, true)] 118 (.mv (t 11)),
  sg [(115, true), (111, false), (108, true)] 119 (.bin .eql (t 117) (t 118)),
  sg [(111, false), (108, true)] 120 (.pick (t 115) (t 119) (c (.bool false))),
  sg [(111, false), (108, true)] 121 (.mv (t 120)),
  sg [(121, true), (111, false), (108, true)] 122 (.mv (t 11)),
  sg [(121, true), (111, false), (108, true)] 123 (.bin .sub (t 122) (c (i 1))),
  kg [(121, true), (111, false), (108, true)] 124 7 [(t 123)] .sc,
  sg [(121, true), (111, false), (108, true)] 125 (.mv (t 10)),
  sg [(121, true), (111, false), (108, true)] 126 (.bin .leq (t 124) (t 125)),
  sg [(111, false), (108, true)] 127 (.pick (t 121) (t 126) (c (.bool false))),
  sg [(108, true)] 128 (.pick (t 111) (c (.bool true)) (t 127)),
  s 129 (.pick (t 108) (t 128) (c (.bool false))),
  s 130 (.mv (t 129)),
  sg [(130, true)] 131 (.mv (t 3)),
  kg [(130, true)] 132 13 [(t 131)] .sc,
  sg [(130, true)] 133 (.bin .eql (t 132) (c (.str (bs [])))),
  sg [(130, true)] 134 (.mv (t 3)),
  sg [(130, true)] 135 (.bin .lss (t 134) (c (i 1))),
  sg [(130, true)] 136 (.beq false (t 133) (t 135)),
  s 137 (.pick (t 130) (t 136) (c (.bool false))),
  s 2 (.mv (t 137))])
 .ret))))))))))))), none, [2], [false]⟩
def i5 : Comp := ⟨(.seq (.ops [s 2 (.mv (c (.bool false)))])
 (.seq (.ops [s 3 (.mv (t 0)),
  s 4 (.len false (t 3)),
  s 5 (.bin .gtr (t 4) (c (i 1048576))),
  s 2 (.mv (t 5))])
 .ret)), none, [2], [false]⟩
def i6 : Comp := ⟨(.seq (.ops [s 2 (.mv (c (i 0)))])
 (.seq (.seq (.ops [s 4 (.mv (t 0))])
 (.seq (opQ 5 23 [(t 4)])
 (.seq (.ops [])
 (.seq (opV 3 5)
 (.ops [])))))
 (.seq (.seq (.ops [s 6 (.mv (c .junk))])
 (.seq (opC 7 24 3 [] .sc)
 (.ops [s 2 (.mv (t 7))])))
 .ret))), none, [2], [false]⟩
def i7 : Comp := ⟨(.seq (.ops [s 2 (.mv (c (i 0)))])
 (.seq (.seq (.ops [s 4 (.mv (t 0)),
  k 5 25 [(t 4), (c (i 1)), (c (i 1000000000))] .sc,
  s 6 (.not (t 5))])
 (.cond (t 6) (.seq (.ops [s 2 (.mv (c (i 0)))])
 .ret) .skip))
 (.seq (.ops [s 3 (.mv (c (i 1)))])
 (.seq (.block 0 (.loop (.seq (.seq (.ops [s 7 (.mv (t 3)),
  k 8 26 [(t 7)] .sc,
  s 9 (.mv (t 0)),
  s 10 (.bin .leq (t 8) (t 9))])
 (.cond (t 10) .skip (.exit 0)))
 (.block 1 (.ops [s 11 (.mv (t 3)),
  k 12 26 [(t 11)] .sc,
  s 3 (.mv (t 12))])))))
 (.seq (.ops [s 13 (.mv (t 3)),
  s 2 (.mv (t 13))])
 .ret))))), none, [2], [true]⟩
def i8 : Comp := ⟨(.seq (.ops [s 2 (.mv (c (i 0)))])
 (.seq (.block 0 (.seq (.ops [s 4 (.mv (t 0)),
  s 5 (.bin .lss (t 4) (c (i 1))),
  s 3 (.mv (t 5))])
 (.cond (t 3) (.seq (.ops [s 2 (.mv (c (i 0)))])
 .ret) (.seq (.ops [s 7 (.mv (t 0)),
  k 8 27 [(t 7)] .sc,
  s 9 (.six (t 8) (c (i 0))),
  s 10 (.bin .eql (t 9) (c (.int .u8 (50)))),
  s 6 (.mv (t 10))])
 (.cond (t 6) (.seq (.ops [s 2 (.mv (c (i 4)))])
 .ret) .skip)))))
 (.seq (.ops [s 2 (.mv (c (i 5)))])
 .ret))), none, [2], [true]⟩
def i9 : Comp := ⟨(.seq (.ops [s 2 (.mv (c (i 0))),
  s 3 (.mv (c (i 0)))])
 (.seq (.seq (.ops [s 5 (.mv (t 0))])
 (.seq (opQ 6 23 [(t 5)])
 (.seq (.ops [])
 (.seq (opV 4 6)
 (.ops [])))))
 (.seq (.seq (.ops [s 7 (.mv (c .junk)),
  s 8 (.bsl 1 [(c (i 1)), (c (i 7)), (c (i 40)), (c (i 1000)), (c (i 1001)), (c (i 0))])])
 (.seq (opC 9 28 4 [(t 8)] .sc)
 (.seq (.ops [s 10 (.mv (c .junk)),
  s 11 (.bsl 1 [(c (i 1)), (c (i 3)), (c (i 25)), (c (i 100)), (c (i 100000)), (c (i 100001)), (c (i 0))])])
 (.seq (opC 12 28 4 [(t 11)] .sc)
 (.ops [s 2 (.mv (t 9)),
  s 3 (.mv (t 12))])))))
 .ret))), none, [2, 3], [false]⟩
def i10 : Comp := ⟨(.seq (.ops [s 4 (.mv (c (i 0))),
  s 5 (.mv (c (i 0)))])
 (.seq (.seq (.ops [s 7 (.mv (t 0)),
  k 8 25 [(t 7), (c (i 1)), (c (i 1000))] .sc,
  s 9 (.not (t 8)),
  s 10 (.mv (t 9)),
  sg [(10, false)] 11 (.mv (t 1)),
  kg [(10, false)] 12 25 [(t 11), (c (i 1)), (c (i 100000))] .sc,
  sg [(10, false)] 13 (.not (t 12)),
  s 14 (.pick (t 10) (c (.bool true)) (t 13))])
 (.cond (t 14) (.seq (.ops [s 4 (.mv (c (i 0))),
  s 5 (.mv (c (i 0)))])
 .ret) .skip))
 (.seq (.ops [s 15 (.mv (t 0)),
  s 16 (.mv (t 1)),
  s 17 (.bin .mul (t 15) (t 16)),
  k 18 7 [(t 17)] .sc,
  s 6 (.mv (t 18))])
 (.seq (.ops [s 19 (.mv (t 6)),
  s 20 (.mv (t 6)),
  s 21 (.mv (t 1)),
  s 22 (.bin .quo (t 20) (t 21)),
  s 4 (.mv (t 19)),
  s 5 (.mv (t 22))])
 .ret)))), none, [4, 5], [true, true]⟩
def i11 : Comp := ⟨(.seq (.ops [s 2 (.mv (c (i 0)))])
 (.seq (.seq (.ops [s 3 (.mv (t 0))])
 (.seq (opD 4 6 [(t 3)] .sc)
 (.ops [s 2 (.mv (t 4))])))
 .ret)), none, [2], [false]⟩
def i12 : Comp := ⟨(.seq (.ops [s 2 (.mv (c (i 0)))])
 (.seq (.seq (.ops [s 3 (.mv (t 0)),
  s 4 (.bin .lss (t 3) (c (i 1))),
  s 5 (.mv (t 4)),
  sg [(5, false)] 6 (.mv (t 0)),
  sg [(5, false)] 7 (.bin .geq (t 6) (c (i 500000000))),
  s 8 (.pick (t 5) (c (.bool true)) (t 7))])
 (.cond (t 8) (.seq (.ops [s 2 (.mv (c (i 0)))])
 .ret) .skip))
 (.seq (.ops [s 9 (.mv (t 0)),
  k 10 7 [(t 9)] .sc,
  k 11 26 [(t 10)] .sc,
  s 2 (.mv (t 11))])
 .ret))), none, [2], [true]⟩
def i13 : Comp := ⟨(.seq (.ops [s 2 (.mv (c (.str (bs []))))])
 (.seq (.block 0 (.seq (.ops [s 4 (.mv (t 0)),
  s 5 (.bin .lss (t 4) (c (i 1))),
  s 3 (.mv (t 5))])
 (.cond (t 3) (.seq (.ops [s 2 (.mv (c (.str (bs []))))])
 .ret) (.seq (.ops [s 7 (.mv (t 0)),
  s 8 (.bin .lss (t 7) (c (i 1000))),
  s 6 (.mv (t 8))])
 (.cond (t 6) (.seq (.ops [s 9 (.mv (t 0)),
  k 10 27 [(t 9)] .sc,
  s 11 (.bin .add (t 10) (c (.str (bs [109])))),
  s 2 (.mv (t 11))])
 .ret) .skip)))))
 (.seq (.ops [s 12 (.mv (t 0)),
  s 13 (.bin .quo (t 12) (c (i 1000))),
  k 14 27 [(t 13)] .sc,
  s 15 (.bin .add (t 14) (c (.str (bs [107, 109])))),
  s 2 (.mv (t 15))])
 .ret))), none, [2], [true]⟩
def i24 : Comp := ⟨(.seq (.ops [s 2 (.mv (c (i 0)))])
 (.seq (.seq (.ops [s 3 (.mv (c .junk)),
  s 4 (.bsl 1 [(c (i 0)), (c (i 1)), (c (i 2)), (c (i 4)), (c (i 5)), (c (i 9)), (c (i 10)), (c (i 19)), (c (i 20)), (c (i 49)), (c (i 99)), (c (i 1000)), (c (i 1999)), (c (i 123456)), (c (i 1000000000)), (c (i 1000000001)), (c (i 499999999)), (c (i 500000000)), (c (i (-5))), (c (i 9223372036854775807))])])
 (.seq (opC 5 28 0 [(t 4)] .sc)
 (.ops [s 2 (.mv (t 5))])))
 .ret)), none, [2], []⟩
def i25 : Comp := ⟨(.seq (.ops [s 6 (.mv (c (.bool false)))])
 (.seq (.ops [s 7 (.mv (t 1)),
  s 8 (.mv (t 0)),
  s 9 (.bin .leq (t 7) (t 8)),
  s 10 (.mv (t 9)),
  sg [(10, true)] 11 (.mv (t 0)),
  sg [(10, true)] 12 (.mv (t 2)),
  sg [(10, true)] 13 (.bin .leq (t 11) (t 12)),
  s 14 (.pick (t 10) (t 13) (c (.bool false))),
  s 6 (.mv (t 14))])
 .ret)), none, [6], [true, true, true]⟩
def i26 : Comp := ⟨(.seq (.ops [s 2 (.mv (c (i 0)))])
 (.seq (.seq (.ops [s 3 (.mv (t 0)),
  k 4 27 [(t 3)] .sc,
  s 5 (.six (t 4) (c (i 0))),
  s 6 (.bin .eql (t 5) (c (.int .u8 (50))))])
 (.cond (t 6) (.seq (.ops [s 7 (.mv (t 0)),
  s 8 (.bin .quo (t 7) (c (i 2))),
  s 9 (.bin .mul (t 8) (c (i 5))),
  s 2 (.mv (t 9))])
 .ret) .skip))
 (.seq (.ops [s 10 (.mv (t 0)),
  s 11 (.bin .mul (c (i 2)) (t 10)),
  s 2 (.mv (t 11))])
 .ret))), none, [2], [true]⟩
def i27 : Comp := ⟨(.seq (.ops [s 2 (.mv (c (.str (bs []))))])
 (.seq (.ops [s 3 (.mv (t 0)),
  k 4 38 [(t 3)] .sc,
  s 2 (.mv (t 4))])
 .ret)), none, [2], [true]⟩
def i38 : Comp := ⟨(.seq (.ops [s 2 (.mv (c (.str (bs []))))])
 (.seq (.ops [s 3 (.mv (t 0)),
  k 4 51 [(t 3)] .sc,
  s 2 (.mv (t 4))])
 .ret)), none, [2], [true]⟩
def i39 : Comp := ⟨(.seq (.ops [s 4 (.mv (c (i 0)))])
 (.seq (.seq (.ops [s 8 (.mv (t 1)),
  s 9 (.bin .leq (t 8) (c (i 0)))])
 (.cond (t 9) (.seq (.ops [s 4 (.mv (c (i 0)))])
 .ret) .skip))
 (.seq (.seq (.ops [s 10 (.mv (t 1)),
  s 11 (.bin .leq (t 10) (c (i 256)))])
 (.cond (t 11) (.seq (.seq (.ops [s 12 (.mv (c .junk))])
 (.seq (opC 13 52 0 [] .sc)
 (.ops [s 14 (.mv (t 1)),
  s 15 (.bin .rem (t 13) (t 14)),
  s 4 (.mv (t 15))])))
 .ret) .skip))
 (.seq (.seq (.ops [s 16 (.mv (c .junk))])
 (.seq (opC 17 52 0 [] .sc)
 (.ops [s 5 (.mv (t 17))])))
 (.seq (.seq (.ops [s 18 (.mv (c .junk))])
 (.seq (opC 19 52 0 [] .sc)
 (.ops [s 6 (.mv (t 19))])))
 (.seq (.seq (.ops [s 20 (.mv (c .junk))])
 (.seq (opC 21 52 0 [] .sc)
 (.ops [s 7 (.mv (t 21))])))
 (.seq (.ops [s 22 (.mv (t 5)),
  s 23 (.bin .mul (t 22) (c (i 65536))),
  s 24 (.mv (t 6)),
  s 25 (.bin .mul (t 24) (c (i 256))),
  s 26 (.bin .add (t 23) (t 25)),
  s 27 (.mv (t 7)),
  s 28 (.bin .add (t 26) (t 27)),
  s 29 (.mv (t 1)),
  s 30 (.bin .rem (t 28) (t 29)),
  s 4 (.mv (t 30))])
 .ret))))))), none, [4], [true]⟩
def i51 : Comp := ⟨(.seq (.ops [s 2 (.mv (c (.str (bs []))))])
 (.seq (.ops [s 3 (.mv (t 0)),
  k 4 69 [(t 3), (c (i 10))] .sc,
  s 2 (.mv (t 4))])
 .ret)), none, [2], [true]⟩
def X : Cx := { tab := tbs, sig := sgs, wf := wfs, xf := xfs, rf := rfs, tl := tls }
end Go.Eng
namespace Go.Eng
open Go Go.Proofs
theorem hX : TabOK Tryd.prog X := TabOK.of (by kernel_rfl)
theorem c3 : compP Tryd.prog X 3 = some i3 := by kernel_rfl
theorem c5 : compP Tryd.prog X 5 = some i5 := by kernel_rfl
theorem c6 : compD Tryd.prog X 6 = some i6 := by kernel_rfl
theorem c7 : compP Tryd.prog X 7 = some i7 := by kernel_rfl
theorem c8 : compP Tryd.prog X 8 = some i8 := by kernel_rfl
theorem c9 : compD Tryd.prog X 9 = some i9 := by kernel_rfl
theorem c10 : compP Tryd.prog X 10 = some i10 := by kernel_rfl
theorem c11 : compD Tryd.prog X 11 = some i11 := by kernel_rfl
theorem c12 : compP Tryd.prog X 12 = some i12 := by kernel_rfl
theorem c13 : compP Tryd.prog X 13 = some i13 := by kernel_rfl
theorem c24 : compC Tryd.prog X 24 = some i24 := by kernel_rfl
theorem c25 : compP Tryd.prog X 25 = some i25 := by kernel_rfl
theorem c26 : compP Tryd.prog X 26 = some i26 := by kernel_rfl
theorem c27 : compP Tryd.prog X 27 = some i27 := by kernel_rfl
theorem c38 : compP Tryd.prog X 38 = some i38 := by kernel_rfl
theorem c39 : compC Tryd.prog X 39 = some i39 := by kernel_rfl
theorem c51 : compP Tryd.prog X 51 = some i51 := by kernel_rfl
end Go.Eng
