/- A part of the proof of a law's statement: for every input the law returns true and leaves its arguments as they were. No condition beyond the statement's own. The laws' functions in that calculus, checked by the kernel against the program. -/
import Derived.Test.YtpbkimkjofngmaaDoorProg
import Derived.Test.YtpbkimkjofngmaaDoorRe3
set_option linter.unusedVariables false
set_option linter.unusedSimpArgs false
set_option linter.unusedSectionVars false
set_option autoImplicit true
set_option relaxedAutoImplicit true
namespace Go.Eng
open Go
def tbs : List (Option TI) := [some ⟨(.tup []), 1, 0, [.junk], false⟩,
  some ⟨.func, 1, 8, [.junk], false⟩,
  some ⟨(.int .i64), 1, 8, [(i 0)], false⟩,
  some ⟨(.int .i64), 1, 8, [(i 0)], false⟩,
  some ⟨.bool, 1, 1, [(.bool false)], false⟩,
  some ⟨(.int .u8), 1, 1, [(.int .u8 (0))], false⟩,
  some ⟨(.int .u8), 1, 1, [(.int .u8 (0))], false⟩,
  some ⟨(.struct [(0, 2), (1, 3), (2, 4), (3, 6)]), 4, 24, [(i 0), (i 0), (.bool false), (.int .u8 (0))], true⟩,
  some ⟨(.struct [(0, 2), (1, 3), (2, 4), (3, 6)]), 4, 24, [(i 0), (i 0), (.bool false), (.int .u8 (0))], true⟩,
  some ⟨.str, 1, 16, [(.str (bs []))], false⟩,
  some ⟨.str, 1, 16, [(.str (bs []))], false⟩,
  some ⟨.str, 1, 16, [(.str (bs []))], false⟩,
  some ⟨(.int .u64), 1, 8, [(.int .u64 (0))], false⟩,
  some ⟨(.struct [(0, 9), (1, 12)]), 2, 24, [(.str (bs [])), (.int .u64 (0))], false⟩,
  some ⟨(.struct [(0, 9), (1, 12)]), 2, 24, [(.str (bs [])), (.int .u64 (0))], false⟩,
  some ⟨(.ptr 113), 1, 8, [.junk], false⟩,
  some ⟨(.ptr 116), 1, 8, [.junk], false⟩,
  some ⟨(.ptr 125), 1, 8, [.junk], false⟩,
  some ⟨(.struct [(0, 17)]), 1, 8, [.junk], false⟩,
  some ⟨(.struct [(0, 17)]), 1, 8, [.junk], false⟩,
  some ⟨.other, 1, 16, [.junk], false⟩,
  some ⟨(.int .i32), 1, 4, [(.int .i32 (0))], false⟩,
  some ⟨(.slice 5), 1, 24, [(.lst 1 true [])], false⟩,
  some ⟨.func, 1, 8, [.junk], false⟩,
  some ⟨.func, 1, 8, [.junk], false⟩,
  some ⟨.func, 1, 8, [.junk], false⟩,
  some ⟨(.tup [3, 3]), 1, 0, [.junk], false⟩,
  some ⟨.func, 1, 8, [.junk], false⟩,
  some ⟨.func, 1, 8, [.junk], false⟩,
  some ⟨.func, 1, 8, [.junk], false⟩,
  some ⟨(.slice 71), 1, 24, [(.lst 2 true [])], false⟩,
  some ⟨(.struct [(0, 3), (1, 3), (2, 3), (3, 9), (4, 30)]), 5, 64, [(i 0), (i 0), (i 0), (.str (bs [])), (.lst 2 true [])], true⟩,
  some ⟨(.struct [(0, 3), (1, 3), (2, 3), (3, 9), (4, 30)]), 5, 64, [(i 0), (i 0), (i 0), (.str (bs [])), (.lst 2 true [])], true⟩,
  some ⟨.func, 1, 8, [.junk], false⟩,
  some ⟨(.slice 9), 1, 24, [(.lst 1 true [])], false⟩,
  some ⟨.func, 1, 8, [.junk], false⟩,
  some ⟨(.slice 63), 1, 24, [(.lst 2 true [])], false⟩,
  some ⟨(.struct [(0, 3), (1, 3), (2, 3), (3, 9), (4, 36)]), 5, 64, [(i 0), (i 0), (i 0), (.str (bs [])), (.lst 2 true [])], true⟩,
  some ⟨(.struct [(0, 3), (1, 3), (2, 3), (3, 9), (4, 36)]), 5, 64, [(i 0), (i 0), (i 0), (.str (bs [])), (.lst 2 true [])], true⟩,
  some ⟨.func, 1, 8, [.junk], false⟩,
  some ⟨.func, 1, 8, [.junk], false⟩,
  some ⟨.func, 1, 8, [.junk], false⟩,
  some ⟨.func, 1, 8, [.junk], false⟩,
  some ⟨.func, 1, 8, [.junk], false⟩,
  some ⟨.func, 1, 8, [.junk], false⟩,
  some ⟨(.ptr 57), 1, 8, [.junk], false⟩,
  some ⟨.func, 1, 8, [.junk], false⟩,
  some ⟨.func, 1, 8, [.junk], false⟩,
  some ⟨.func, 1, 8, [.junk], false⟩,
  some ⟨.func, 1, 8, [.junk], false⟩,
  some ⟨(.slice 3), 1, 24, [(.lst 1 true [])], false⟩,
  some ⟨.func, 1, 8, [.junk], false⟩,
  some ⟨.func, 1, 8, [.junk], false⟩,
  some ⟨.func, 1, 8, [.junk], false⟩,
  some ⟨.func, 1, 8, [.junk], false⟩,
  some ⟨.func, 1, 8, [.junk], false⟩,
  some ⟨(.struct [(0, 22), (1, 3), (2, 3)]), 3, 40, [(.lst 1 true []), (i 0), (i 0)], true⟩,
  some ⟨(.struct [(0, 22), (1, 3), (2, 3)]), 3, 40, [(.lst 1 true []), (i 0), (i 0)], true⟩,
  some ⟨.func, 1, 8, [.junk], false⟩,
  some ⟨.func, 1, 8, [.junk], false⟩,
  some ⟨(.slice 84), 1, 24, [(.lst 4 true [])], false⟩,
  some ⟨.func, 1, 8, [.junk], false⟩,
  some ⟨(.struct [(0, 3), (1, 3)]), 2, 16, [(i 0), (i 0)], true⟩,
  some ⟨(.struct [(0, 3), (1, 3)]), 2, 16, [(i 0), (i 0)], true⟩,
  some ⟨(.struct [(0, 63), (2, 63)]), 4, 32, [(i 0), (i 0), (i 0), (i 0)], true⟩,
  some ⟨(.struct [(0, 63), (2, 63)]), 4, 32, [(i 0), (i 0), (i 0), (i 0)], true⟩,
  some ⟨(.tup [65, 4]), 1, 0, [.junk], false⟩,
  some ⟨.func, 1, 8, [.junk], false⟩,
  some ⟨(.slice 81), 1, 24, [(.lst 2 true [])], false⟩,
  some ⟨.func, 1, 8, [.junk], false⟩,
  some ⟨.func, 1, 8, [.junk], false⟩,
  some ⟨(.struct [(0, 3), (1, 3)]), 2, 16, [(i 0), (i 0)], true⟩,
  some ⟨.func, 1, 8, [.junk], false⟩,
  some ⟨.func, 1, 8, [.junk], false⟩,
  some ⟨.func, 1, 8, [.junk], false⟩,
  some ⟨.func, 1, 8, [.junk], false⟩,
  some ⟨.func, 1, 8, [.junk], false⟩,
  some ⟨.func, 1, 8, [.junk], false⟩,
  some ⟨.func, 1, 8, [.junk], false⟩,
  some ⟨.func, 1, 8, [.junk], false⟩,
  some ⟨(.struct [(0, 3), (1, 3)]), 2, 16, [(i 0), (i 0)], true⟩,
  some ⟨(.struct [(0, 3), (1, 3)]), 2, 16, [(i 0), (i 0)], true⟩,
  some ⟨.func, 1, 8, [.junk], false⟩,
  some ⟨(.struct [(0, 63), (2, 63)]), 4, 32, [(i 0), (i 0), (i 0), (i 0)], true⟩,
  some ⟨(.struct [(0, 63), (2, 63)]), 4, 32, [(i 0), (i 0), (i 0), (i 0)], true⟩,
  some ⟨.func, 1, 8, [.junk], false⟩,
  some ⟨(.int .u64), 1, 8, [(.int .u64 (0))], false⟩,
  some ⟨.func, 1, 8, [.junk], false⟩,
  some ⟨.func, 1, 8, [.junk], false⟩,
  some ⟨.func, 1, 8, [.junk], false⟩,
  some ⟨.func, 1, 8, [.junk], false⟩,
  some ⟨.func, 1, 8, [.junk], false⟩,
  some ⟨.func, 1, 8, [.junk], false⟩,
  some ⟨(.arr 24 5), 24, 24, [(.int .u8 (0)), (.int .u8 (0)), (.int .u8 (0)), (.int .u8 (0)), (.int .u8 (0)), (.int .u8 (0)), (.int .u8 (0)), (.int .u8 (0)), (.int .u8 (0)), (.int .u8 (0)), (.int .u8 (0)), (.int .u8 (0)), (.int .u8 (0)), (.int .u8 (0)), (.int .u8 (0)), (.int .u8 (0)), (.int .u8 (0)), (.int .u8 (0)), (.int .u8 (0)), (.int .u8 (0)), (.int .u8 (0)), (.int .u8 (0)), (.int .u8 (0)), (.int .u8 (0))], false⟩,
  some ⟨(.int .u64), 1, 8, [(.int .u64 (0))], false⟩,
  some ⟨.func, 1, 8, [.junk], false⟩,
  some ⟨.func, 1, 8, [.junk], false⟩,
  some ⟨(.tup [22, 9]), 1, 0, [.junk], false⟩,
  some ⟨.func, 1, 8, [.junk], false⟩,
  some ⟨.func, 1, 8, [.junk], false⟩,
  some ⟨.func, 1, 8, [.junk], false⟩,
  some ⟨.func, 1, 8, [.junk], false⟩,
  some ⟨.func, 1, 8, [.junk], false⟩,
  some ⟨(.arr 20 94), 20, 160, [(.int .u64 (0)), (.int .u64 (0)), (.int .u64 (0)), (.int .u64 (0)), (.int .u64 (0)), (.int .u64 (0)), (.int .u64 (0)), (.int .u64 (0)), (.int .u64 (0)), (.int .u64 (0)), (.int .u64 (0)), (.int .u64 (0)), (.int .u64 (0)), (.int .u64 (0)), (.int .u64 (0)), (.int .u64 (0)), (.int .u64 (0)), (.int .u64 (0)), (.int .u64 (0)), (.int .u64 (0))], false⟩,
  some ⟨(.int .u32), 1, 4, [(.int .u32 (0))], false⟩,
  some ⟨(.arr 65 5), 65, 65, [(.int .u8 (0)), (.int .u8 (0)), (.int .u8 (0)), (.int .u8 (0)), (.int .u8 (0)), (.int .u8 (0)), (.int .u8 (0)), (.int .u8 (0)), (.int .u8 (0)), (.int .u8 (0)), (.int .u8 (0)), (.int .u8 (0)), (.int .u8 (0)), (.int .u8 (0)), (.int .u8 (0)), (.int .u8 (0)), (.int .u8 (0)), (.int .u8 (0)), (.int .u8 (0)), (.int .u8 (0)), (.int .u8 (0)), (.int .u8 (0)), (.int .u8 (0)), (.int .u8 (0)), (.int .u8 (0)), (.int .u8 (0)), (.int .u8 (0)), (.int .u8 (0)), (.int .u8 (0)), (.int .u8 (0)), (.int .u8 (0)), (.int .u8 (0)), (.int .u8 (0)), (.int .u8 (0)), (.int .u8 (0)), (.int .u8 (0)), (.int .u8 (0)), (.int .u8 (0)), (.int .u8 (0)), (.int .u8 (0)), (.int .u8 (0)), (.int .u8 (0)), (.int .u8 (0)), (.int .u8 (0)), (.int .u8 (0)), (.int .u8 (0)), (.int .u8 (0)), (.int .u8 (0)), (.int .u8 (0)), (.int .u8 (0)), (.int .u8 (0)), (.int .u8 (0)), (.int .u8 (0)), (.int .u8 (0)), (.int .u8 (0)), (.int .u8 (0)), (.int .u8 (0)), (.int .u8 (0)), (.int .u8 (0)), (.int .u8 (0)), (.int .u8 (0)), (.int .u8 (0)), (.int .u8 (0)), (.int .u8 (0)), (.int .u8 (0))], false⟩,
  some ⟨.func, 1, 8, [.junk], false⟩,
  some ⟨.func, 1, 8, [.junk], false⟩,
  some ⟨.func, 1, 8, [.junk], false⟩,
  some ⟨(.arr 32 5), 32, 32, [(.int .u8 (0)), (.int .u8 (0)), (.int .u8 (0)), (.int .u8 (0)), (.int .u8 (0)), (.int .u8 (0)), (.int .u8 (0)), (.int .u8 (0)), (.int .u8 (0)), (.int .u8 (0)), (.int .u8 (0)), (.int .u8 (0)), (.int .u8 (0)), (.int .u8 (0)), (.int .u8 (0)), (.int .u8 (0)), (.int .u8 (0)), (.int .u8 (0)), (.int .u8 (0)), (.int .u8 (0)), (.int .u8 (0)), (.int .u8 (0)), (.int .u8 (0)), (.int .u8 (0)), (.int .u8 (0)), (.int .u8 (0)), (.int .u8 (0)), (.int .u8 (0)), (.int .u8 (0)), (.int .u8 (0)), (.int .u8 (0)), (.int .u8 (0))], false⟩,
  some ⟨(.arr 64 5), 64, 64, [(.int .u8 (0)), (.int .u8 (0)), (.int .u8 (0)), (.int .u8 (0)), (.int .u8 (0)), (.int .u8 (0)), (.int .u8 (0)), (.int .u8 (0)), (.int .u8 (0)), (.int .u8 (0)), (.int .u8 (0)), (.int .u8 (0)), (.int .u8 (0)), (.int .u8 (0)), (.int .u8 (0)), (.int .u8 (0)), (.int .u8 (0)), (.int .u8 (0)), (.int .u8 (0)), (.int .u8 (0)), (.int .u8 (0)), (.int .u8 (0)), (.int .u8 (0)), (.int .u8 (0)), (.int .u8 (0)), (.int .u8 (0)), (.int .u8 (0)), (.int .u8 (0)), (.int .u8 (0)), (.int .u8 (0)), (.int .u8 (0)), (.int .u8 (0)), (.int .u8 (0)), (.int .u8 (0)), (.int .u8 (0)), (.int .u8 (0)), (.int .u8 (0)), (.int .u8 (0)), (.int .u8 (0)), (.int .u8 (0)), (.int .u8 (0)), (.int .u8 (0)), (.int .u8 (0)), (.int .u8 (0)), (.int .u8 (0)), (.int .u8 (0)), (.int .u8 (0)), (.int .u8 (0)), (.int .u8 (0)), (.int .u8 (0)), (.int .u8 (0)), (.int .u8 (0)), (.int .u8 (0)), (.int .u8 (0)), (.int .u8 (0)), (.int .u8 (0)), (.int .u8 (0)), (.int .u8 (0)), (.int .u8 (0)), (.int .u8 (0)), (.int .u8 (0)), (.int .u8 (0)), (.int .u8 (0)), (.int .u8 (0))], false⟩,
  some ⟨.func, 1, 8, [.junk], false⟩,
  some ⟨(.struct [(0, 17), (1, 17), (2, 17), (3, 9)]), 4, 40, [.junk], false⟩,
  some ⟨(.struct [(0, 17), (1, 17), (2, 17), (3, 9)]), 4, 40, [.junk], false⟩,
  some ⟨(.arr 0 16), 0, 0, [], false⟩,
  some ⟨(.struct [(0, 114)]), 0, 0, [], false⟩,
  some ⟨(.struct [(0, 114)]), 0, 0, [], false⟩,
  some ⟨.func, 1, 8, [.junk], false⟩,
  some ⟨(.int .u8), 1, 1, [(.int .u8 (0))], false⟩,
  some ⟨(.int .u8), 1, 1, [(.int .u8 (0))], false⟩,
  some ⟨.func, 1, 8, [.junk], false⟩,
  some ⟨(.ptr 5), 1, 8, [.junk], false⟩,
  some ⟨(.int .i32), 1, 4, [(.int .i32 (0))], false⟩,
  some ⟨(.int .i32), 1, 4, [(.int .i32 (0))], false⟩,
  some ⟨(.struct [(0, 12), (1, 12), (2, 104), (3, 118), (4, 5), (5, 5), (6, 119), (7, 120), (8, 121), (9, 122), (10, 123)]), 11, 48, [.junk], false⟩,
  some ⟨(.struct [(0, 12), (1, 12), (2, 104), (3, 118), (4, 5), (5, 5), (6, 119), (7, 120), (8, 121), (9, 122), (10, 123)]), 11, 48, [.junk], false⟩,
  some ⟨.other, 1, 8, [.junk], false⟩]
def wfs : List Nat := [20, 21, 36]
def xfs : List Nat := []
def rfs : List (Nat × Bool × Bool × Bool) := [(6, false, false, false), (9, false, false, false), (11, false, false, false), (23, false, false, true), (24, true, false, false), (28, true, false, false), (39, true, false, false), (52, true, false, false)]
def tls : List Nat := []
def sgs : List (Nat × Bool) := [(0, false), (1, false), (2, false), (3, false), (4, false), (5, false), (7, false), (8, false), (10, false), (12, false), (13, false), (14, false), (15, true), (16, true), (17, true), (18, false), (19, false), (22, false), (25, false), (26, false), (27, false), (29, false), (30, true), (31, false), (32, true), (33, true), (34, false), (35, false), (37, false), (38, false), (40, false), (41, true), (42, false), (43, true), (44, false), (45, false), (46, false), (47, false), (48, false), (49, true), (50, false), (51, false), (53, false), (54, false), (55, false), (56, false), (57, true), (58, true), (59, false), (60, false), (61, false), (62, false), (63, false), (64, false), (65, false), (66, false), (67, true), (68, false), (69, false), (70, false), (71, false), (72, true), (73, false), (74, false), (75, false), (76, false), (77, false), (78, false), (79, true), (80, false), (81, true), (82, false), (83, false), (84, true), (85, false), (86, false), (87, false), (88, false), (89, false), (90, false), (91, true), (92, false), (93, false), (94, false), (95, false), (96, false), (97, false), (98, false), (99, false), (100, false), (101, false), (102, false), (103, false), (104, false), (105, false), (106, false), (107, false), (108, false), (109, false), (110, false), (111, false), (112, false), (113, false), (114, false), (115, false), (116, false), (117, false), (118, false), (119, false), (120, false), (121, false), (122, false), (123, false), (124, false), (125, false), (126, false), (127, false), (128, false), (129, false), (130, false), (131, false), (132, false)]
def i4 : Comp := ⟨(.seq (.ops [s 1 (.box 5 (t 0)),
  s 2 (.mv (c (.bool false)))])
 (.seq (.ops [s 3 (.mv (c (i 1048576)))])
 (.seq (.ops [s 11 (.ldB 1 0 5 true false),
  s 12 (.mv (t 3)),
  k 13 14 [(t 11), (t 12)] .sc,
  s 3 (.mv (t 13))])
 (.seq (.seq (.ops [s 14 (.mv (t 3)),
  s 15 (.bin .lss (t 14) (c (i 0)))])
 (.cond (t 15) (.seq (.ops [s 2 (.mv (c (.bool true)))])
 .ret) .skip))
 (.seq (.ops [s 16 (.ldB 1 0 5 true false),
  k 17 16 [(t 16)] .lin,
  k 18 15 [(t 17)] .lin,
  s 4 (.mv (t 18))])
 (.seq (.ops [s 19 (.ldB 1 0 5 true false),
  k 20 16 [(t 19)] .lin,
  s 5 (.alc [(i 0), (i 0), (i 0), (.str (bs [])), (.lst 2 true [])]),
  s 5 (.stB 5 0 5 (t 20) false)])
 (.seq (.ops [s 21 (.ldB 5 0 5 true false),
  k 22 17 [(t 21)] .lin,
  s 6 (.mv (t 22))])
 (.seq (.seq (.ops [s 23 (.mv (t 6)),
  s 24 (.mv (t 4)),
  k 25 18 [(t 23), (t 24)] .sc,
  s 26 (.not (t 25))])
 (.cond (t 26) (.seq (.ops [s 2 (.mv (c (.bool false)))])
 .ret) .skip))
 (.seq (.seq (.ops [s 27 (.ldB 5 0 5 true false),
  s 28 (.ldB 1 0 5 true false),
  k 29 16 [(t 28)] .lin,
  k 30 19 [(t 27), (t 29)] .sc,
  s 31 (.not (t 30))])
 (.cond (t 31) (.seq (.ops [s 2 (.mv (c (.bool false)))])
 .ret) .skip))
 (.seq (.ops [s 7 (.mv (c (i 1)))])
 (.seq (.seq (.ops [s 32 (.ldB 5 0 5 true false),
  s 33 (.mv (t 7))])
 (.seq (opB 34 20 5 5 [(t 33)])
 (.ops [s 7 (.mv (t 34))])))
 (.seq (.seq (.ops [s 35 (.mv (t 7)),
  s 36 (.bin .lss (t 35) (c (i 0))),
  s 37 (.mv (t 36)),
  sg [(37, false)] 38 (.mv (t 6)),
  sg [(37, false)] 39 (.mv (t 4)),
  kg [(37, false)] 40 18 [(t 38), (t 39)] .sc,
  sg [(37, false)] 41 (.not (t 40)),
  s 42 (.pick (t 37) (c (.bool true)) (t 41))])
 (.cond (t 42) (.seq (.ops [s 2 (.mv (c (.bool false)))])
 .ret) .skip))
 (.seq (.ops [s 8 (.mv (c (i 1)))])
 (.seq (.seq (.ops [s 43 (.mv (t 6)),
  s 44 (.mv (t 8))])
 (.seq (opM 45 21 6 [(t 44)])
 (.ops [s 8 (.mv (t 45))])))
 (.seq (.ops [s 9 (.mv (c (i 1)))])
 (.seq (.ops [s 46 (.mv (t 6)),
  s 47 (.mv (t 9)),
  k 48 22 [(t 46), (t 47)] .sc,
  s 9 (.mv (t 48))])
 (.seq (.seq (.ops [s 49 (.mv (t 9)),
  s 50 (.bin .lss (t 49) (c (i 0)))])
 (.cond (t 50) (.seq (.ops [s 2 (.mv (c (.bool false)))])
 .ret) .skip))
 (.seq (.seq (.ops [s 51 (.mv (t 9)),
  s 52 (.mv (t 8)),
  s 53 (.bin .neq (t 51) (t 52))])
 (.cond (t 53) (.seq (.ops [s 2 (.mv (c (.bool false)))])
 .ret) .skip))
 (.seq (.ops [s 54 (.ldB 1 0 5 true false),
  k 55 16 [(t 54)] .lin,
  k 56 17 [(t 55)] .lin,
  s 10 (.mv (t 56))])
 (.seq (.seq (.ops [s 57 (.mv (t 10)),
  s 58 (.mv (t 4)),
  k 59 18 [(t 57), (t 58)] .sc,
  s 60 (.not (t 59))])
 (.cond (t 60) (.seq (.ops [s 2 (.mv (c (.bool false)))])
 .ret) .skip))
 (.seq (.ops [s 9 (.mv (c (i 1)))])
 (.seq (.ops [s 61 (.mv (t 6)),
  s 62 (.mv (t 9)),
  k 63 22 [(t 61), (t 62)] .sc,
  s 9 (.mv (t 63))])
 (.seq (.seq (.ops [s 64 (.mv (t 9)),
  s 65 (.bin .lss (t 64) (c (i 0)))])
 (.cond (t 65) (.seq (.ops [s 2 (.mv (c (.bool false)))])
 .ret) .skip))
 (.seq (.seq (.ops [s 66 (.mv (t 9)),
  s 67 (.mv (t 8)),
  s 68 (.bin .neq (t 66) (t 67))])
 (.cond (t 68) (.seq (.ops [s 2 (.mv (c (.bool false)))])
 .ret) .skip))
 (.seq (.ops [s 2 (.mv (c (.bool true)))])
 .ret))))))))))))))))))))))))), none, [2], [false]⟩
def i14 : Comp := ⟨(.seq (.ops [s 2 (.box 5 (t 0)),
  s 4 (.mv (c (i 0)))])
 (.seq (.ops [s 5 (.mv (t 1)),
  s 6 (.mv (c (i 0))),
  s 7 (.ldB 2 3 1 false true),
  s 8 (.len true (t 7)),
  s 9 (.bin .sub (t 5) (t 8)),
  s 1 (.mv (t 9))])
 (.seq (.seq (.ops [s 10 (.mv (t 1)),
  s 11 (.bin .lss (t 10) (c (i 0)))])
 (.cond (t 11) (.seq (.ops [s 4 (.mv (c (i (-1))))])
 .ret) .skip))
 (.seq (.ops [s 12 (.mv (c (i 0))),
  s 13 (.ldB 2 4 1 false false),
  s 14 (.mv (t 1)),
  k 15 29 [(t 13), (t 14)] .sc,
  s 1 (.mv (t 15))])
 (.seq (.seq (.ops [s 16 (.mv (t 1)),
  s 17 (.bin .lss (t 16) (c (i 0)))])
 (.cond (t 17) (.seq (.ops [s 4 (.mv (c (i (-1))))])
 .ret) .skip))
 (.seq (.ops [s 18 (.mv (t 1)),
  s 4 (.mv (t 18))])
 .ret)))))), none, [4], [false, true]⟩
def i15 : Comp := ⟨(.seq (.ops [s 1 (.box 5 (t 0)),
  s 2 (.mv (c (.lst 1 true [])))])
 (.seq (.ops [s 6 (.bsl 1 []),
  s 3 (.mv (t 6))])
 (.seq (.ops [s 7 (.ldB 1 0 5 true false),
  k 8 30 [(t 7)] .lin,
  s 4 (.mv (t 8))])
 (.seq (.seq (.ops [s 5 (.mv (c (i 0)))])
 (.block 0 (.loop (.seq (.seq (.ops [s 9 (.mv (t 5)),
  s 10 (.mv (t 4)),
  s 11 (.len false (t 10)),
  s 12 (.bin .lss (t 9) (t 11))])
 (.cond (t 12) .skip (.exit 0)))
 (.seq (.block 1 (.ops [s 15 (.mv (t 3)),
  s 16 (.mv (t 4)),
  s 17 (.mv (t 5)),
  s 18 (.idx (t 16) (t 17) 1),
  s 19 (.ldE 16 18 0 1 false true 1),
  k 20 31 [(t 19)] .sc,
  s 21 (.bsl 1 [(t 20)]),
  s 22 (.app (t 15) (t 21) 1 16),
  s 3 (.mv (t 22))]))
 (.ops [s 13 (.mv (t 5)),
  s 14 (.bin .add (t 13) (c (i 1))),
  s 5 (.mv (t 14))]))))))
 (.seq (.ops [s 23 (.mv (t 3)),
  s 2 (.mv (t 23))])
 .ret))))), none, [2], [false]⟩
def i16 : Comp := ⟨(.seq (.ops [s 1 (.box 5 (t 0)),
  s 2 (.alc [(i 0), (i 0), (i 0), (.str (bs [])), (.lst 2 true [])])])
 (.seq (.ops [s 3 (.alc [(i 0), (i 0), (i 0), (.str (bs [])), (.lst 2 true [])])])
 (.seq (.ops [s 4 (.mv (c (i 0))),
  s 5 (.ldB 1 0 1 false true),
  s 6 (.mv (c (i 0))),
  s 3 (.stB 3 0 1 (t 5) false)])
 (.seq (.ops [s 7 (.mv (c (i 0))),
  s 8 (.ldB 1 1 1 false true),
  s 9 (.mv (c (i 0))),
  s 3 (.stB 3 1 1 (t 8) false)])
 (.seq (.ops [s 10 (.mv (c (i 0))),
  s 11 (.ldB 1 2 1 false true),
  s 12 (.mv (c (i 0))),
  s 3 (.stB 3 2 1 (t 11) false)])
 (.seq (.ops [s 13 (.mv (c (i 0))),
  s 14 (.ldB 1 3 1 false true),
  s 15 (.mv (c (i 0))),
  s 3 (.stB 3 3 1 (t 14) false)])
 (.seq (.ops [s 16 (.mv (c (i 0))),
  s 17 (.ldB 1 4 1 false false),
  k 18 32 [(t 17)] .lin,
  s 19 (.mv (c (i 0))),
  s 3 (.stB 3 4 1 (t 18) false)])
 (.seq (.ops [s 20 (.ldB 3 0 5 true false),
  s 2 (.stB 2 0 5 (t 20) false)])
 .ret)))))))), (some ⟨2, 38, 5, true⟩), [], [false]⟩
def i17 : Comp := ⟨(.seq (.ops [s 1 (.box 5 (t 0)),
  s 2 (.mv (c (.lst 1 true [])))])
 (.seq (.ops [s 6 (.bsl 1 []),
  s 3 (.mv (t 6))])
 (.seq (.seq (.ops [s 7 (.ldB 1 0 5 true false),
  k 8 33 [(t 7)] .lin,
  s 9 (.len false (t 8)),
  s 10 (.mv (c (i 0)))])
 (.block 0 (.loop (.seq (.ops [s 11 (.bin .lss (t 10) (t 9))])
 (.seq (.cond (t 11) .skip (.exit 0))
 (.seq (.block 1 (.seq (.ops [s 12 (.idx (t 8) (t 10) 1),
  s 13 (.ldE 8 12 0 1 false true 1),
  s 5 (.mv (t 13))])
 (.ops [s 14 (.mv (t 3)),
  s 15 (.mv (t 5)),
  k 16 34 [(t 15)] .sc,
  s 17 (.bsl 1 [(t 16)]),
  s 18 (.app (t 14) (t 17) 1 16),
  s 3 (.mv (t 18))])))
 (.ops [s 19 (.bin .add (t 10) (c (i 1))),
  s 10 (.mv (t 19))])))))))
 (.seq (.ops [s 20 (.mv (t 3)),
  s 2 (.mv (t 20))])
 .ret)))), none, [2], [false]⟩
def i18 : Comp := ⟨(.seq (.ops [s 4 (.mv (c (.bool false)))])
 (.seq (.seq (.ops [s 6 (.mv (t 0)),
  s 7 (.len false (t 6)),
  s 8 (.mv (t 1)),
  s 9 (.len false (t 8)),
  s 10 (.bin .neq (t 7) (t 9))])
 (.cond (t 10) (.seq (.ops [s 4 (.mv (c (.bool false)))])
 .ret) .skip))
 (.seq (.seq (.ops [s 5 (.mv (c (i 0)))])
 (.block 0 (.loop (.seq (.seq (.ops [s 11 (.mv (t 5)),
  s 12 (.mv (t 0)),
  s 13 (.len false (t 12)),
  s 14 (.bin .lss (t 11) (t 13))])
 (.cond (t 14) .skip (.exit 0)))
 (.seq (.block 1 (.seq (.ops [s 17 (.mv (t 0)),
  s 18 (.mv (t 5)),
  s 19 (.idx (t 17) (t 18) 1),
  s 20 (.ldE 17 19 0 1 false true 1),
  s 21 (.mv (t 1)),
  s 22 (.mv (t 5)),
  s 23 (.idx (t 21) (t 22) 1),
  s 24 (.ldE 21 23 0 1 false true 1),
  s 25 (.bin .neq (t 20) (t 24))])
 (.cond (t 25) (.seq (.ops [s 4 (.mv (c (.bool false)))])
 .ret) .skip)))
 (.ops [s 15 (.mv (t 5)),
  s 16 (.bin .add (t 15) (c (i 1))),
  s 5 (.mv (t 16))]))))))
 (.seq (.ops [s 4 (.mv (c (.bool true)))])
 .ret)))), none, [4], [false, false]⟩
def i19 : Comp := ⟨(.seq (.ops [s 2 (.box 5 (t 0)),
  s 3 (.box 5 (t 1)),
  s 4 (.mv (c (.bool false)))])
 (.seq (.seq (.ops [s 5 (.mv (c (i 0))),
  s 6 (.ldB 2 0 1 false true),
  s 7 (.mv (c (i 0))),
  s 8 (.ldB 3 0 1 false true),
  s 9 (.bin .neq (t 6) (t 8))])
 (.cond (t 9) (.seq (.ops [s 4 (.mv (c (.bool false)))])
 .ret) .skip))
 (.seq (.seq (.ops [s 10 (.mv (c (i 0))),
  s 11 (.ldB 2 1 1 false true),
  s 12 (.mv (c (i 0))),
  s 13 (.ldB 3 1 1 false true),
  s 14 (.bin .neq (t 11) (t 13))])
 (.cond (t 14) (.seq (.ops [s 4 (.mv (c (.bool false)))])
 .ret) .skip))
 (.seq (.seq (.ops [s 15 (.mv (c (i 0))),
  s 16 (.ldB 2 2 1 false true),
  s 17 (.mv (c (i 0))),
  s 18 (.ldB 3 2 1 false true),
  s 19 (.bin .neq (t 16) (t 18))])
 (.cond (t 19) (.seq (.ops [s 4 (.mv (c (.bool false)))])
 .ret) .skip))
 (.seq (.seq (.ops [s 20 (.mv (c (i 0))),
  s 21 (.ldB 2 3 1 false true),
  s 22 (.mv (c (i 0))),
  s 23 (.ldB 3 3 1 false true),
  s 24 (.bin .neq (t 21) (t 23))])
 (.cond (t 24) (.seq (.ops [s 4 (.mv (c (.bool false)))])
 .ret) .skip))
 (.seq (.seq (.ops [s 25 (.mv (c (i 0))),
  s 26 (.ldB 2 4 1 false false),
  s 27 (.mv (c (i 0))),
  s 28 (.ldB 3 4 1 false false),
  k 29 35 [(t 26), (t 28)] .sc,
  s 30 (.not (t 29))])
 (.cond (t 30) (.seq (.ops [s 4 (.mv (c (.bool false)))])
 .ret) .skip))
 (.seq (.ops [s 4 (.mv (c (.bool true)))])
 .ret))))))), none, [4], [false, false]⟩
def i21 : Comp := ⟨(.seq (.ops [s 4 (.mv (c (i 0)))])
 (.seq (.seq (.ops [s 5 (.mv (c (i 0)))])
 (.block 0 (.loop (.seq (.seq (.ops [s 6 (.mv (t 5)),
  s 7 (.mv (t 0)),
  s 8 (.len false (t 7)),
  s 9 (.bin .lss (t 6) (t 8))])
 (.cond (t 9) .skip (.exit 0)))
 (.seq (.block 1 (.seq (.seq (.ops [s 12 (.mv (t 0)),
  s 13 (.mv (t 5)),
  s 14 (.mv (t 1)),
  k 15 37 [(t 14)] .sc,
  s 16 (.idx (t 12) (t 13) 1)])
 (.seq (opW 0 16 0 1 1 (t 15))
 (.ops [])))
 (.ops [s 17 (.mv (t 1)),
  s 18 (.bin .add (t 17) (c (i 1))),
  s 1 (.mv (t 18))])))
 (.ops [s 10 (.mv (t 5)),
  s 11 (.bin .add (t 10) (c (i 1))),
  s 5 (.mv (t 11))]))))))
 (.seq (.ops [s 19 (.mv (t 1)),
  s 4 (.mv (t 19))])
 .ret))), none, [4], [true]⟩
def i22 : Comp := ⟨(.seq (.ops [s 4 (.mv (c (i 0)))])
 (.seq (.seq (.ops [s 5 (.mv (c (i 0)))])
 (.block 0 (.loop (.seq (.seq (.ops [s 6 (.mv (t 5)),
  s 7 (.mv (t 0)),
  s 8 (.len false (t 7)),
  s 9 (.bin .lss (t 6) (t 8))])
 (.cond (t 9) .skip (.exit 0)))
 (.seq (.block 1 (.seq (.seq (.ops [s 12 (.mv (t 0)),
  s 13 (.mv (t 5)),
  s 14 (.idx (t 12) (t 13) 1),
  s 15 (.ldE 12 14 0 1 false true 1),
  s 16 (.mv (t 1)),
  k 17 37 [(t 16)] .sc,
  s 18 (.bin .neq (t 15) (t 17))])
 (.cond (t 18) (.seq (.ops [s 4 (.mv (c (i (-1))))])
 .ret) .skip))
 (.ops [s 19 (.mv (t 1)),
  s 20 (.bin .add (t 19) (c (i 1))),
  s 1 (.mv (t 20))])))
 (.ops [s 10 (.mv (t 5)),
  s 11 (.bin .add (t 10) (c (i 1))),
  s 5 (.mv (t 11))]))))))
 (.seq (.ops [s 21 (.mv (t 1)),
  s 4 (.mv (t 21))])
 .ret))), none, [4], [false, true]⟩
def i25 : Comp := ⟨(.seq (.ops [s 6 (.mv (c (.bool false)))])
 (.seq (.ops [s 7 (.mv (t 1)),
  s 8 (.mv (t 0)),
  s 9 (.bin .leq (t 7) (t 8)),
  s 10 (.mv (t 9)),
  sg [(10, true)] 11 (.mv (t 0)),
  sg [(10, true)] 12 (.mv (t 2)),
  sg [(10, true)] 13 (.bin .leq (t 11) (t 12)),
  s 14 (.pick (t 10) (t 13) (c (.bool false))),
  s 6 (.mv (t 14))])
 .ret)), none, [6], [true, true, true]⟩
def i27 : Comp := ⟨(.seq (.ops [s 2 (.mv (c (.str (bs []))))])
 (.seq (.ops [s 3 (.mv (t 0)),
  k 4 38 [(t 3)] .sc,
  s 2 (.mv (t 4))])
 .ret)), none, [2], [true]⟩
def i29 : Comp := ⟨(.seq (.ops [s 4 (.mv (c (i 0)))])
 (.seq (.ops [s 5 (.mv (t 1)),
  s 6 (.mv (t 0)),
  s 7 (.len false (t 6)),
  s 8 (.bin .sub (t 5) (t 7)),
  s 1 (.mv (t 8))])
 (.seq (.seq (.ops [s 9 (.mv (t 1)),
  s 10 (.bin .lss (t 9) (c (i 0)))])
 (.cond (t 10) (.seq (.ops [s 4 (.mv (c (i (-1))))])
 .ret) .skip))
 (.seq (.ops [s 11 (.mv (t 1)),
  s 4 (.mv (t 11))])
 .ret)))), none, [4], [false, true]⟩
def i30 : Comp := ⟨(.seq (.ops [s 1 (.box 5 (t 0)),
  s 2 (.mv (c (.lst 1 true [])))])
 (.seq (.ops [s 8 (.bsl 1 []),
  s 3 (.mv (t 8))])
 (.seq (.seq (.ops [s 9 (.ldB 1 0 5 true false),
  k 10 40 [(t 9)] .sc,
  s 11 (.not (t 10))])
 (.cond (t 11) (.seq (.ops [s 12 (.mv (t 3)),
  s 2 (.mv (t 12))])
 .ret) .skip))
 (.seq (.ops [s 13 (.ldB 1 0 5 true false),
  k 14 41 [(t 13)] .lin,
  s 4 (.mv (t 14))])
 (.seq (.seq (.ops [s 5 (.mv (c (i 0)))])
 (.block 0 (.loop (.seq (.seq (.ops [s 15 (.mv (t 5)),
  s 16 (.bin .lss (t 15) (c (i 441)))])
 (.cond (t 16) .skip (.exit 0)))
 (.seq (.block 1 (.seq (.ops [s 20 (.mv (t 5)),
  k 21 42 [(t 20)] .sc,
  s 19 (.mv (t 21)),
  s 22 (.ext 19 0 true),
  s 23 (.ext 19 1 true),
  s 6 (.alc [(i 0), (i 0), (i 0), (i 0)]),
  s 6 (.stB 6 0 4 (t 22) false),
  s 7 (.mv (t 23))])
 (.seq (.ops [s 24 (.ldB 1 0 5 true false),
  s 25 (.mv (t 4)),
  s 26 (.ldB 6 0 4 true true),
  k 27 43 [(t 24), (t 25), (t 26)] .lin,
  s 28 (.len false (t 27)),
  s 29 (.bin .gtr (t 28) (c (i 0)))])
 (.cond (t 29) (.ops [s 30 (.mv (t 3)),
  s 31 (.mv (t 5)),
  s 32 (.bsl 1 [(t 31)]),
  s 33 (.app (t 30) (t 32) 1 8),
  s 3 (.mv (t 33))]) .skip))))
 (.ops [s 17 (.mv (t 5)),
  s 18 (.bin .add (t 17) (c (i 1))),
  s 5 (.mv (t 18))]))))))
 (.seq (.ops [s 34 (.mv (t 3)),
  s 2 (.mv (t 34))])
 .ret)))))), none, [2], [false]⟩
def i31 : Comp := ⟨(.seq (.ops [s 2 (.mv (c (.str (bs []))))])
 (.seq (.seq (.ops [s 4 (.mv (t 0)),
  k 5 44 [(t 4), (c (i 0)), (c (i 440))] .sc,
  s 6 (.not (t 5))])
 (.cond (t 6) (.seq (.ops [s 2 (.mv (c (.str (bs []))))])
 .ret) .skip))
 (.seq (.ops [s 7 (.mv (t 0)),
  s 8 (.bin .rem (t 7) (c (i 21))),
  s 3 (.mv (t 8))])
 (.seq (.ops [s 9 (.mv (t 3)),
  s 10 (.mv (t 3)),
  s 11 (.bin .add (t 10) (c (i 1))),
  s 12 (.ssl (c (.str (bs [97, 98, 99, 100, 101, 102, 103, 104, 105, 106, 107, 108, 109, 110, 111, 112, 113, 114, 115, 116, 117]))) (some (t 9)) (some (t 11))),
  s 13 (.mv (t 0)),
  s 14 (.bin .quo (t 13) (c (i 21))),
  k 15 45 [(t 14)] .sc,
  s 16 (.bin .add (t 12) (t 15)),
  s 2 (.mv (t 16))])
 .ret)))), none, [2], [true]⟩
def i32 : Comp := ⟨(.seq (.ops [s 2 (.mv (c (.lst 2 true [])))])
 (.seq (.ops [s 5 (.mv (t 0)),
  s 6 (.len false (t 5)),
  s 7 (.mks 2 16 [(i 0), (i 0)] (t 6)),
  s 3 (.mv (t 7))])
 (.seq (.seq (.ops [s 4 (.mv (c (i 0)))])
 (.block 0 (.loop (.seq (.seq (.ops [s 8 (.mv (t 4)),
  s 9 (.mv (t 0)),
  s 10 (.len false (t 9)),
  s 11 (.bin .lss (t 8) (t 10))])
 (.cond (t 11) .skip (.exit 0)))
 (.seq (.block 1 (.ops [s 14 (.mv (c .junk)),
  s 15 (.mv (t 4)),
  s 16 (.mv (t 0)),
  s 17 (.mv (t 4)),
  s 18 (.idx (t 16) (t 17) 2),
  s 19 (.ldE 16 18 0 2 true true 2),
  k 20 46 [(t 19)] .sc,
  s 21 (.idx (t 3) (t 15) 2),
  s 3 (.stF 3 21 2 (t 20))]))
 (.ops [s 12 (.mv (t 4)),
  s 13 (.bin .add (t 12) (c (i 1))),
  s 4 (.mv (t 13))]))))))
 (.seq (.ops [s 22 (.mv (c .junk)),
  s 2 (.mv (t 3))])
 .ret)))), none, [2], [false]⟩
def i33 : Comp := ⟨(.seq (.ops [s 1 (.box 5 (t 0)),
  s 2 (.mv (c (.lst 1 true [])))])
 (.seq (.ops [s 7 (.bsl 1 []),
  s 3 (.mv (t 7))])
 (.seq (.seq (.ops [s 8 (.ldB 1 0 5 true false),
  k 9 47 [(t 8)] .sc,
  s 10 (.not (t 9))])
 (.cond (t 10) (.seq (.ops [s 11 (.mv (t 3)),
  s 2 (.mv (t 11))])
 .ret) .skip))
 (.seq (.seq (.ops [s 12 (.mv (c (i 0)))])
 (.block 0 (.loop (.seq (.ops [s 13 (.bin .lss (t 12) (c (i 441)))])
 (.seq (.cond (t 13) .skip (.exit 0))
 (.seq (.block 1 (.seq (.ops [s 14 (.mv (t 12)),
  s 4 (.mv (t 14))])
 (.seq (.ops [s 16 (.mv (t 4)),
  k 17 48 [(t 16)] .sc,
  s 15 (.mv (t 17)),
  s 18 (.ext 15 0 true),
  s 19 (.ext 15 1 true),
  s 5 (.alc [(i 0), (i 0), (i 0), (i 0)]),
  s 5 (.stB 5 0 4 (t 18) false),
  s 6 (.mv (t 19))])
 (.seq (.ops [s 20 (.ldB 1 0 5 true false),
  s 21 (.ldB 5 0 4 true true),
  k 22 49 [(t 20), (t 21), (c (.bool false))] .lin,
  s 23 (.len false (t 22)),
  s 24 (.bin .gtr (t 23) (c (i 0)))])
 (.cond (t 24) (.ops [s 25 (.mv (t 3)),
  s 26 (.mv (t 4)),
  s 27 (.bsl 1 [(t 26)]),
  s 28 (.app (t 25) (t 27) 1 8),
  s 3 (.mv (t 28))]) .skip)))))
 (.ops [s 29 (.bin .add (t 12) (c (i 1))),
  s 12 (.mv (t 29))])))))))
 (.seq (.ops [s 30 (.mv (t 3)),
  s 2 (.mv (t 30))])
 .ret))))), none, [2], [false]⟩
def i34 : Comp := ⟨(.seq (.ops [s 2 (.mv (c (.str (bs []))))])
 (.seq (.seq (.ops [s 6 (.mv (t 0)),
  k 7 48 [(t 6)] .sc,
  s 5 (.mv (t 7)),
  s 8 (.ext 5 0 true),
  s 9 (.ext 5 1 true),
  s 3 (.alc [(i 0), (i 0), (i 0), (i 0)]),
  s 3 (.stB 3 0 4 (t 8) false),
  s 4 (.mv (t 9))])
 (.seq (.ops [s 10 (.mv (t 4)),
  s 11 (.not (t 10))])
 (.cond (t 11) (.seq (.ops [s 2 (.mv (c (.str (bs []))))])
 .ret) .skip)))
 (.seq (.ops [s 12 (.mv (t 0)),
  s 13 (.bin .rem (t 12) (c (i 21))),
  s 14 (.bin .add (c (i 97)) (t 13)),
  s 15 (.conv .u8 (t 14)),
  s 16 (.bsl 1 [(t 15)]),
  s 17 (.bst (t 16)),
  s 18 (.mv (t 0)),
  s 19 (.bin .quo (t 18) (c (i 21))),
  k 20 27 [(t 19)] .sc,
  s 21 (.bin .add (t 17) (t 20)),
  s 2 (.mv (t 21))])
 .ret))), none, [2], [true]⟩
def i35 : Comp := ⟨(.seq (.ops [s 4 (.mv (c (.bool false)))])
 (.seq (.seq (.ops [s 6 (.mv (t 0)),
  s 7 (.len false (t 6)),
  s 8 (.mv (t 1)),
  s 9 (.len false (t 8)),
  s 10 (.bin .neq (t 7) (t 9))])
 (.cond (t 10) (.seq (.ops [s 4 (.mv (c (.bool false)))])
 .ret) .skip))
 (.seq (.seq (.ops [s 5 (.mv (c (i 0)))])
 (.block 0 (.loop (.seq (.seq (.ops [s 11 (.mv (t 5)),
  s 12 (.mv (t 0)),
  s 13 (.len false (t 12)),
  s 14 (.bin .lss (t 11) (t 13))])
 (.cond (t 14) .skip (.exit 0)))
 (.seq (.block 1 (.seq (.ops [s 17 (.mv (t 0)),
  s 18 (.mv (t 5)),
  s 19 (.idx (t 17) (t 18) 2),
  s 20 (.ldE 17 19 0 2 true true 2),
  s 21 (.mv (t 1)),
  s 22 (.mv (t 5)),
  s 23 (.idx (t 21) (t 22) 2),
  s 24 (.ldE 21 23 0 2 true true 2),
  k 25 50 [(t 20), (t 24)] .sc,
  s 26 (.not (t 25))])
 (.cond (t 26) (.seq (.ops [s 4 (.mv (c (.bool false)))])
 .ret) .skip)))
 (.ops [s 15 (.mv (t 5)),
  s 16 (.bin .add (t 15) (c (i 1))),
  s 5 (.mv (t 16))]))))))
 (.seq (.ops [s 4 (.mv (c (.bool true)))])
 .ret)))), none, [4], [false, false]⟩
def i36 : Comp := ⟨(.seq (.ops [s 4 (.mv (c (i 0)))])
 (.seq (.seq (.ops [s 5 (.mv (c (i 0)))])
 (.block 0 (.loop (.seq (.seq (.ops [s 6 (.mv (t 5)),
  s 7 (.mv (t 0)),
  s 8 (.len false (t 7)),
  s 9 (.bin .lss (t 6) (t 8))])
 (.cond (t 9) .skip (.exit 0)))
 (.seq (.block 1 (.seq (.seq (.ops [s 12 (.mv (t 0)),
  s 13 (.mv (t 5)),
  s 14 (.mv (t 1)),
  s 15 (.idx (t 12) (t 13) 2),
  s 16 (.mv (t 15))])
 (.seq (opW 0 16 0 1 2 (t 14))
 (.ops [])))
 (.seq (.ops [s 17 (.mv (t 1)),
  s 18 (.bin .add (t 17) (c (i 1))),
  s 1 (.mv (t 18))])
 (.seq (.seq (.ops [s 19 (.mv (t 0)),
  s 20 (.mv (t 5)),
  s 21 (.mv (t 1)),
  s 22 (.idx (t 19) (t 20) 2),
  s 23 (.mv (t 22))])
 (.seq (opW 0 23 1 1 2 (t 21))
 (.ops [])))
 (.ops [s 24 (.mv (t 1)),
  s 25 (.bin .add (t 24) (c (i 1))),
  s 1 (.mv (t 25))])))))
 (.ops [s 10 (.mv (t 5)),
  s 11 (.bin .add (t 10) (c (i 1))),
  s 5 (.mv (t 11))]))))))
 (.seq (.ops [s 26 (.mv (t 1)),
  s 4 (.mv (t 26))])
 .ret))), none, [4], [true]⟩
def i37 : Comp := ⟨(.seq (.ops [s 2 (.mv (c (.str (bs []))))])
 (.seq (.seq (.ops [s 4 (.mv (t 0)),
  s 5 (.bin .leq (t 4) (c (i 0)))])
 (.cond (t 5) (.seq (.ops [s 2 (.mv (c (.str (bs [109, 48]))))])
 .ret) .skip))
 (.seq (.ops [s 3 (.mv (c (.str (bs []))))])
 (.seq (.block 0 (.loop (.seq (.seq (.ops [s 6 (.mv (t 0)),
  s 7 (.bin .gtr (t 6) (c (i 0)))])
 (.cond (t 7) .skip (.exit 0)))
 (.block 1 (.seq (.ops [s 8 (.mv (t 0)),
  s 9 (.bin .rem (t 8) (c (i 10))),
  s 10 (.bin .add (c (i 48)) (t 9)),
  s 11 (.conv .u8 (t 10)),
  s 12 (.bsl 1 [(t 11)]),
  s 13 (.bst (t 12)),
  s 14 (.mv (t 3)),
  s 15 (.bin .add (t 13) (t 14)),
  s 3 (.mv (t 15))])
 (.ops [s 16 (.mv (t 0)),
  s 17 (.bin .quo (t 16) (c (i 10))),
  s 0 (.mv (t 17))]))))))
 (.seq (.ops [s 18 (.mv (t 3)),
  s 19 (.bin .add (c (.str (bs [109]))) (t 18)),
  s 2 (.mv (t 19))])
 .ret))))), none, [2], [true]⟩
def i38 : Comp := ⟨(.seq (.ops [s 2 (.mv (c (.str (bs []))))])
 (.seq (.ops [s 3 (.mv (t 0)),
  k 4 51 [(t 3)] .sc,
  s 2 (.mv (t 4))])
 .ret)), none, [2], [true]⟩
def i40 : Comp := ⟨(.seq (.ops [s 1 (.box 5 (t 0)),
  s 2 (.mv (c (.bool false)))])
 (.seq (.seq (.ops [s 3 (.mv (c (i 0))),
  s 4 (.ldB 1 0 1 false true),
  k 5 44 [(t 4), (c (i 1)), (c (i 99))] .sc,
  s 6 (.not (t 5)),
  s 7 (.mv (t 6)),
  sg [(7, false)] 8 (.mv (c (i 0))),
  sg [(7, false)] 9 (.ldB 1 2 1 false true),
  kg [(7, false)] 10 44 [(t 9), (c (i 0)), (c (i 9))] .sc,
  sg [(7, false)] 11 (.not (t 10)),
  s 12 (.pick (t 7) (c (.bool true)) (t 11)),
  s 13 (.mv (t 12)),
  sg [(13, false)] 14 (.mv (c (i 0))),
  sg [(13, false)] 15 (.ldB 1 3 1 false true),
  sg [(13, false)] 16 (.bin .neq (t 15) (c (.str (bs [])))),
  sg [(13, false)] 17 (.mv (t 16)),
  sg [(17, true), (13, false)] 18 (.mv (c (i 0))),
  sg [(17, true), (13, false)] 19 (.ldB 1 3 1 false true),
  kg [(17, true), (13, false)] 20 53 [(t 19)] .sc,
  sg [(17, true), (13, false)] 21 (.not (t 20)),
  sg [(13, false)] 22 (.pick (t 17) (t 21) (c (.bool false))),
  s 23 (.pick (t 13) (c (.bool true)) (t 22))])
 (.cond (t 23) (.seq (.ops [s 2 (.mv (c (.bool false)))])
 .ret) .skip))
 (.seq (.seq (.ops [s 24 (.mv (c (i 0))),
  s 25 (.ldB 1 1 1 false true)])
 (.block 0 (.seq (.ops [s 27 (.bin .eql (t 25) (c (i 1))),
  s 26 (.mv (t 27))])
 (.cond (t 26) (.seq (.ops [s 28 (.mv (c (i 0))),
  s 29 (.ldB 1 4 1 false false),
  s 30 (.len false (t 29)),
  s 31 (.bin .eql (t 30) (c (i 1))),
  s 32 (.mv (t 31)),
  sg [(32, true)] 33 (.mv (c (i 0))),
  sg [(32, true)] 34 (.ldB 1 4 1 false false),
  sg [(32, true)] 35 (.idx (t 34) (c (i 0)) 2),
  sg [(32, true)] 36 (.ldE 34 35 0 2 true true 2),
  kg [(32, true)] 37 54 [(t 36)] .sc,
  s 38 (.pick (t 32) (t 37) (c (.bool false))),
  s 2 (.mv (t 38))])
 .ret) (.seq (.ops [s 40 (.bin .eql (t 25) (c (i 2))),
  s 39 (.mv (t 40))])
 (.cond (t 39) (.seq (.ops [s 41 (.mv (c (i 0))),
  s 42 (.ldB 1 4 1 false false),
  k 43 55 [(t 42)] .sc,
  s 2 (.mv (t 43))])
 .ret) (.seq (.ops [s 45 (.bin .eql (t 25) (c (i 3))),
  s 44 (.mv (t 45))])
 (.cond (t 44) (.seq (.ops [s 46 (.mv (c (i 0))),
  s 47 (.ldB 1 4 1 false false),
  k 48 56 [(t 47)] .sc,
  s 2 (.mv (t 48))])
 .ret) .skip))))))))
 (.seq (.ops [s 2 (.mv (c (.bool false)))])
 .ret)))), none, [2], [false]⟩
def i41 : Comp := ⟨(.seq (.ops [s 1 (.box 5 (t 0)),
  s 2 (.mv (c (.lst 4 true [])))])
 (.seq (.seq (.ops [s 3 (.ldB 1 0 5 true false),
  k 4 40 [(t 3)] .sc,
  s 5 (.not (t 4))])
 (.cond (t 5) (.seq (.ops [s 6 (.bsl 4 []),
  s 2 (.mv (t 6))])
 .ret) .skip))
 (.seq (.seq (.ops [s 7 (.mv (c (i 0))),
  s 8 (.ldB 1 1 1 false true)])
 (.block 0 (.seq (.ops [s 10 (.bin .eql (t 8) (c (i 2))),
  s 9 (.mv (t 10))])
 (.cond (t 9) (.seq (.ops [s 11 (.mv (c (i 0))),
  s 12 (.ldB 1 4 1 false false),
  k 13 57 [(t 12)] .lin,
  s 2 (.mv (t 13))])
 .ret) (.seq (.ops [s 15 (.bin .eql (t 8) (c (i 3))),
  s 14 (.mv (t 15))])
 (.cond (t 14) (.seq (.ops [s 16 (.mv (c (i 0))),
  s 17 (.ldB 1 4 1 false false),
  k 18 58 [(t 17)] .lin,
  s 2 (.mv (t 18))])
 .ret) .skip))))))
 (.seq (.ops [s 19 (.bsl 4 []),
  s 2 (.mv (t 19))])
 .ret)))), none, [2], [false]⟩
def i42 : Comp := ⟨(.seq (.ops [s 2 (.alc [(i 0), (i 0), (i 0), (i 0)]),
  s 3 (.mv (c (.bool false)))])
 (.seq (.seq (.ops [s 6 (.mv (t 0)),
  k 7 44 [(t 6), (c (i 0)), (c (i 440))] .sc,
  s 8 (.not (t 7))])
 (.cond (t 8) (.seq (.ops [s 9 (.bld [(i 0), (i 0), (i 0), (i 0)] []),
  s 2 (.stB 2 0 4 (t 9) false),
  s 3 (.mv (c (.bool false)))])
 .ret) .skip))
 (.seq (.ops [s 10 (.mv (t 0)),
  s 11 (.bin .rem (t 10) (c (i 21))),
  s 12 (.bin .mul (t 11) (c (i 10))),
  s 4 (.mv (t 12))])
 (.seq (.ops [s 13 (.mv (t 0)),
  s 14 (.bin .quo (t 13) (c (i 21))),
  s 15 (.bin .mul (t 14) (c (i 10))),
  s 5 (.mv (t 15))])
 (.seq (.ops [s 16 (.mv (t 4)),
  s 17 (.mv (t 5)),
  s 18 (.bld [(i 0), (i 0)] [(0, 1, (t 16)), (1, 1, (t 17))]),
  s 19 (.mv (t 4)),
  s 20 (.bin .add (t 19) (c (i 10))),
  k 21 59 [(c (i 200)), (t 20)] .sc,
  s 22 (.mv (t 5)),
  s 23 (.bin .add (t 22) (c (i 10))),
  k 24 59 [(c (i 200)), (t 23)] .sc,
  s 25 (.bld [(i 0), (i 0)] [(0, 1, (t 21)), (1, 1, (t 24))]),
  s 26 (.bld [(i 0), (i 0), (i 0), (i 0)] [(0, 2, (t 18)), (2, 2, (t 25))]),
  s 2 (.stB 2 0 4 (t 26) false),
  s 3 (.mv (c (.bool true)))])
 .ret))))), (some ⟨2, 65, 4, true⟩), [3], [true]⟩
def i43 : Comp := ⟨(.seq (.ops [s 3 (.box 5 (t 0)),
  s 5 (.box 4 (t 2)),
  s 6 (.mv (c (.lst 2 true [])))])
 (.seq (.ops [s 9 (.bsl 2 []),
  s 7 (.mv (t 9))])
 (.seq (.seq (.ops [s 10 (.mv (c (i 0))),
  s 11 (.ldB 3 1 1 false true),
  s 12 (.bin .eql (t 11) (c (i 1))),
  s 13 (.mv (t 12)),
  sg [(13, true)] 14 (.ldB 5 0 4 true true),
  sg [(13, true)] 15 (.mv (c (i 0))),
  sg [(13, true)] 16 (.ldB 3 4 1 false false),
  sg [(13, true)] 17 (.idx (t 16) (c (i 0)) 2),
  sg [(13, true)] 18 (.ldE 16 17 0 2 true true 2),
  kg [(13, true)] 19 60 [(t 14), (t 18)] .sc,
  s 20 (.pick (t 13) (t 19) (c (.bool false)))])
 (.cond (t 20) (.seq (.ops [s 21 (.mv (c (i 0))),
  s 22 (.ldB 3 0 1 false true),
  s 23 (.bld [(i 0), (i 0)] [(0, 1, (t 22))]),
  s 24 (.bsl 2 [(t 23)]),
  s 6 (.mv (t 24))])
 .ret) .skip))
 (.seq (.seq (.ops [s 8 (.mv (c (i 0)))])
 (.block 0 (.loop (.seq (.seq (.ops [s 25 (.mv (t 8)),
  s 26 (.mv (t 1)),
  s 27 (.len false (t 26)),
  s 28 (.bin .lss (t 25) (t 27))])
 (.cond (t 28) .skip (.exit 0)))
 (.seq (.block 1 (.seq (.ops [s 31 (.mv (t 1)),
  s 32 (.mv (t 8)),
  s 33 (.idx (t 31) (t 32) 4),
  s 34 (.ldE 31 33 0 4 true true 4),
  s 35 (.ldB 5 0 4 true true),
  k 36 61 [(t 34), (t 35)] .sc])
 (.cond (t 36) (.ops [s 37 (.mv (t 7)),
  s 38 (.mv (c (i 0))),
  s 39 (.ldB 3 0 1 false true),
  s 40 (.mv (t 8)),
  s 41 (.bld [(i 0), (i 0)] [(0, 1, (t 39)), (1, 1, (t 40))]),
  s 42 (.bsl 2 [(t 41)]),
  s 43 (.app (t 37) (t 42) 2 16),
  s 7 (.mv (t 43))]) .skip)))
 (.ops [s 29 (.mv (t 8)),
  s 30 (.bin .add (t 29) (c (i 1))),
  s 8 (.mv (t 30))]))))))
 (.seq (.ops [s 44 (.mv (t 7)),
  s 6 (.mv (t 44))])
 .ret))))), none, [6], [false, false, true]⟩
def i44 : Comp := ⟨(.seq (.ops [s 6 (.mv (c (.bool false)))])
 (.seq (.ops [s 7 (.mv (t 0)),
  s 8 (.mv (t 1)),
  s 9 (.bin .geq (t 7) (t 8)),
  s 10 (.mv (t 9)),
  sg [(10, true)] 11 (.mv (t 0)),
  sg [(10, true)] 12 (.mv (t 2)),
  sg [(10, true)] 13 (.bin .leq (t 11) (t 12)),
  s 14 (.pick (t 10) (t 13) (c (.bool false))),
  s 6 (.mv (t 14))])
 .ret)), none, [6], [true, true, true]⟩
def i45 : Comp := ⟨(.seq (.ops [s 2 (.mv (c (.str (bs []))))])
 (.seq (.seq (.ops [s 6 (.mv (t 0)),
  s 7 (.bin .eql (t 6) (c (i 0)))])
 (.cond (t 7) (.seq (.ops [s 2 (.mv (c (.str (bs [48]))))])
 .ret) .skip))
 (.seq (.ops [s 3 (.mv (c (.str (bs []))))])
 (.seq (.seq (.ops [s 8 (.mv (t 0)),
  s 4 (.mv (t 8))])
 (.block 0 (.loop (.seq (.seq (.ops [s 9 (.mv (t 4)),
  s 10 (.bin .neq (t 9) (c (i 0)))])
 (.cond (t 10) .skip (.exit 0)))
 (.seq (.block 1 (.seq (.ops [s 13 (.mv (t 4)),
  s 14 (.bin .rem (t 13) (c (i 10))),
  s 5 (.mv (t 14))])
 (.seq (.seq (.ops [s 15 (.mv (t 5)),
  s 16 (.bin .lss (t 15) (c (i 0)))])
 (.cond (t 16) (.ops [s 17 (.mv (t 5)),
  s 18 (.neg (t 17)),
  s 5 (.mv (t 18))]) .skip))
 (.ops [s 19 (.mv (t 5)),
  s 20 (.bin .add (c (i 48)) (t 19)),
  s 21 (.conv .u8 (t 20)),
  s 22 (.bsl 1 [(t 21)]),
  s 23 (.bst (t 22)),
  s 24 (.mv (t 3)),
  s 25 (.bin .add (t 23) (t 24)),
  s 3 (.mv (t 25))]))))
 (.ops [s 11 (.mv (t 4)),
  s 12 (.bin .quo (t 11) (c (i 10))),
  s 4 (.mv (t 12))]))))))
 (.seq (.seq (.ops [s 26 (.mv (t 0)),
  s 27 (.bin .lss (t 26) (c (i 0)))])
 (.cond (t 27) (.seq (.ops [s 28 (.mv (t 3)),
  s 29 (.bin .add (c (.str (bs [45]))) (t 28)),
  s 2 (.mv (t 29))])
 .ret) .skip))
 (.seq (.ops [s 30 (.mv (t 3)),
  s 2 (.mv (t 30))])
 .ret)))))), none, [2], [true]⟩
def i46 : Comp := ⟨(.seq (.ops [s 1 (.box 2 (t 0)),
  s 2 (.alc [(i 0), (i 0)])])
 (.seq (.ops [s 3 (.alc [(i 0), (i 0)])])
 (.seq (.ops [s 4 (.mv (c (i 0))),
  s 5 (.ldB 1 0 1 false true),
  s 6 (.mv (c (i 0))),
  s 3 (.stB 3 0 1 (t 5) false)])
 (.seq (.ops [s 7 (.mv (c (i 0))),
  s 8 (.ldB 1 1 1 false true),
  s 9 (.mv (c (i 0))),
  s 3 (.stB 3 1 1 (t 8) false)])
 (.seq (.ops [s 10 (.ldB 3 0 2 true true),
  s 2 (.stB 2 0 2 (t 10) false)])
 .ret))))), (some ⟨2, 63, 2, true⟩), [], [true]⟩
def i47 : Comp := ⟨(.seq (.ops [s 1 (.box 5 (t 0)),
  s 2 (.mv (c (.bool false)))])
 (.seq (.seq (.ops [s 3 (.mv (c (i 0))),
  s 4 (.ldB 1 0 1 false true),
  k 5 25 [(t 4), (c (i 1)), (c (i 99))] .sc,
  s 6 (.not (t 5)),
  s 7 (.mv (t 6)),
  sg [(7, false)] 8 (.mv (c (i 0))),
  sg [(7, false)] 9 (.ldB 1 2 1 false true),
  kg [(7, false)] 10 25 [(t 9), (c (i 0)), (c (i 9))] .sc,
  sg [(7, false)] 11 (.not (t 10)),
  s 12 (.pick (t 7) (c (.bool true)) (t 11)),
  s 13 (.mv (t 12)),
  sg [(13, false)] 14 (.mv (c (i 0))),
  sg [(13, false)] 15 (.ldB 1 3 1 false true),
  sg [(13, false)] 16 (.bin .neq (t 15) (c (.str (bs [])))),
  sg [(13, false)] 17 (.mv (t 16)),
  sg [(17, true), (13, false)] 18 (.mv (c (i 0))),
  sg [(17, true), (13, false)] 19 (.ldB 1 3 1 false true),
  kg [(17, true), (13, false)] 20 62 [(t 19)] .sc,
  sg [(17, true), (13, false)] 21 (.not (t 20)),
  sg [(13, false)] 22 (.pick (t 17) (t 21) (c (.bool false))),
  s 23 (.pick (t 13) (c (.bool true)) (t 22))])
 (.cond (t 23) (.seq (.ops [s 2 (.mv (c (.bool false)))])
 .ret) .skip))
 (.seq (.seq (.ops [s 24 (.mv (c (i 0))),
  s 25 (.ldB 1 1 1 false true)])
 (.block 0 (.seq (.ops [s 27 (.bin .eql (t 25) (c (i 1))),
  s 26 (.mv (t 27))])
 (.cond (t 26) (.seq (.ops [s 28 (.mv (c (i 0))),
  s 29 (.ldB 1 4 1 false false),
  s 30 (.len false (t 29)),
  s 31 (.bin .eql (t 30) (c (i 1))),
  s 32 (.mv (t 31)),
  sg [(32, true)] 33 (.mv (c (i 0))),
  sg [(32, true)] 34 (.ldB 1 4 1 false false),
  sg [(32, true)] 35 (.idx (t 34) (c (i 0)) 2),
  sg [(32, true)] 36 (.ldE 34 35 0 2 true true 2),
  kg [(32, true)] 37 63 [(t 36)] .sc,
  s 38 (.pick (t 32) (t 37) (c (.bool false))),
  s 2 (.mv (t 38))])
 .ret) (.seq (.ops [s 40 (.bin .eql (t 25) (c (i 2))),
  s 39 (.mv (t 40))])
 (.cond (t 39) (.seq (.ops [s 41 (.mv (c (i 0))),
  s 42 (.ldB 1 4 1 false false),
  k 43 64 [(t 42)] .sc,
  s 2 (.mv (t 43))])
 .ret) (.seq (.ops [s 45 (.bin .eql (t 25) (c (i 3))),
  s 44 (.mv (t 45))])
 (.cond (t 44) (.seq (.ops [s 46 (.mv (c (i 0))),
  s 47 (.ldB 1 4 1 false false),
  k 48 65 [(t 47)] .sc,
  s 2 (.mv (t 48))])
 .ret) .skip))))))))
 (.seq (.ops [s 2 (.mv (c (.bool false)))])
 .ret)))), none, [2], [false]⟩
def i48 : Comp := ⟨(.seq (.ops [s 2 (.alc [(i 0), (i 0), (i 0), (i 0)]),
  s 3 (.mv (c (.bool false)))])
 (.seq (.seq (.ops [s 6 (.mv (t 0)),
  k 7 25 [(t 6), (c (i 0)), (c (i 440))] .sc,
  s 8 (.not (t 7))])
 (.cond (t 8) (.seq (.ops [s 9 (.bld [(i 0), (i 0), (i 0), (i 0)] []),
  s 2 (.stB 2 0 4 (t 9) false),
  s 3 (.mv (c (.bool false)))])
 .ret) .skip))
 (.seq (.ops [s 10 (.mv (t 0)),
  s 11 (.bin .rem (t 10) (c (i 21))),
  s 12 (.bin .mul (t 11) (c (i 10))),
  s 13 (.mv (t 0)),
  s 14 (.bin .quo (t 13) (c (i 21))),
  s 15 (.bin .mul (t 14) (c (i 10))),
  s 4 (.mv (t 12)),
  s 5 (.mv (t 15))])
 (.seq (.ops [s 16 (.mv (t 4)),
  s 17 (.mv (t 5)),
  s 18 (.bld [(i 0), (i 0)] [(0, 1, (t 16)), (1, 1, (t 17))]),
  s 19 (.mv (t 4)),
  s 20 (.bin .add (t 19) (c (i 10))),
  s 21 (.mn (t 20) (c (i 200))),
  s 22 (.mv (t 5)),
  s 23 (.bin .add (t 22) (c (i 10))),
  s 24 (.mn (t 23) (c (i 200))),
  s 25 (.bld [(i 0), (i 0)] [(0, 1, (t 21)), (1, 1, (t 24))]),
  s 26 (.bld [(i 0), (i 0), (i 0), (i 0)] [(0, 2, (t 18)), (2, 2, (t 25))]),
  s 2 (.stB 2 0 4 (t 26) false),
  s 3 (.mv (c (.bool true)))])
 .ret)))), (some ⟨2, 65, 4, true⟩), [3], [true]⟩
def i49 : Comp := ⟨(.seq (.ops [s 3 (.box 5 (t 0)),
  s 4 (.box 4 (t 1)),
  s 6 (.mv (c (.lst 2 true [])))])
 (.seq (.ops [s 10 (.bsl 2 []),
  s 7 (.mv (t 10))])
 (.seq (.seq (.ops [s 11 (.mv (c (i 0))),
  s 12 (.ldB 3 1 1 false true),
  s 13 (.bin .eql (t 12) (c (i 1))),
  s 14 (.mv (t 13)),
  sg [(14, true)] 15 (.mv (t 2)),
  sg [(14, true)] 16 (.mv (t 15)),
  sg [(16, false), (14, true)] 17 (.ldB 4 0 4 true true),
  sg [(16, false), (14, true)] 18 (.mv (c (i 0))),
  sg [(16, false), (14, true)] 19 (.ldB 3 4 1 false false),
  sg [(16, false), (14, true)] 20 (.idx (t 19) (c (i 0)) 2),
  sg [(16, false), (14, true)] 21 (.ldE 19 20 0 2 true true 2),
  kg [(16, false), (14, true)] 22 66 [(t 17), (t 21)] .sc,
  sg [(14, true)] 23 (.pick (t 16) (c (.bool true)) (t 22)),
  s 24 (.pick (t 14) (t 23) (c (.bool false)))])
 (.cond (t 24) (.ops [s 25 (.mv (t 7)),
  s 26 (.mv (c (i 0))),
  s 27 (.ldB 3 0 1 false true),
  s 28 (.bld [(i 0), (i 0)] [(0, 1, (t 27)), (1, 1, (c (i 0)))]),
  s 29 (.bsl 2 [(t 28)]),
  s 30 (.app (t 25) (t 29) 2 16),
  s 7 (.mv (t 30))]) .skip))
 (.seq (.seq (.ops [s 31 (.ldB 3 0 5 true false),
  k 32 67 [(t 31)] .lin,
  s 33 (.len false (t 32)),
  s 34 (.mv (c (i 0)))])
 (.block 0 (.loop (.seq (.ops [s 35 (.bin .lss (t 34) (t 33))])
 (.seq (.cond (t 35) .skip (.exit 0))
 (.seq (.block 1 (.seq (.ops [s 36 (.mv (t 34)),
  s 37 (.idx (t 32) (t 34) 4),
  s 38 (.ldE 32 37 0 4 true true 4),
  s 9 (.alc [(i 0), (i 0), (i 0), (i 0)]),
  s 8 (.mv (t 36)),
  s 9 (.stB 9 0 4 (t 38) false)])
 (.seq (.ops [s 39 (.mv (t 2)),
  s 40 (.mv (t 39)),
  sg [(40, false)] 41 (.ldB 9 0 4 true true),
  sg [(40, false)] 42 (.ldB 4 0 4 true true),
  kg [(40, false)] 43 68 [(t 41), (t 42)] .sc,
  s 44 (.pick (t 40) (c (.bool true)) (t 43))])
 (.cond (t 44) (.ops [s 45 (.mv (t 7)),
  s 46 (.mv (c (i 0))),
  s 47 (.ldB 3 0 1 false true),
  s 48 (.mv (t 8)),
  s 49 (.bld [(i 0), (i 0)] [(0, 1, (t 47)), (1, 1, (t 48))]),
  s 50 (.bsl 2 [(t 49)]),
  s 51 (.app (t 45) (t 50) 2 16),
  s 7 (.mv (t 51))]) .skip))))
 (.ops [s 52 (.bin .add (t 34) (c (i 1))),
  s 34 (.mv (t 52))])))))))
 (.seq (.ops [s 53 (.mv (t 7)),
  s 6 (.mv (t 53))])
 .ret))))), none, [6], [false, true, true]⟩
def i50 : Comp := ⟨(.seq (.ops [s 2 (.box 2 (t 0)),
  s 3 (.box 2 (t 1)),
  s 4 (.mv (c (.bool false)))])
 (.seq (.seq (.ops [s 5 (.mv (c (i 0))),
  s 6 (.ldB 2 0 1 false true),
  s 7 (.mv (c (i 0))),
  s 8 (.ldB 3 0 1 false true),
  s 9 (.bin .neq (t 6) (t 8))])
 (.cond (t 9) (.seq (.ops [s 4 (.mv (c (.bool false)))])
 .ret) .skip))
 (.seq (.seq (.ops [s 10 (.mv (c (i 0))),
  s 11 (.ldB 2 1 1 false true),
  s 12 (.mv (c (i 0))),
  s 13 (.ldB 3 1 1 false true),
  s 14 (.bin .neq (t 11) (t 13))])
 (.cond (t 14) (.seq (.ops [s 4 (.mv (c (.bool false)))])
 .ret) .skip))
 (.seq (.ops [s 4 (.mv (c (.bool true)))])
 .ret)))), none, [4], [true, true]⟩
def i51 : Comp := ⟨(.seq (.ops [s 2 (.mv (c (.str (bs []))))])
 (.seq (.ops [s 3 (.mv (t 0)),
  k 4 69 [(t 3), (c (i 10))] .sc,
  s 2 (.mv (t 4))])
 .ret)), none, [2], [true]⟩
def i53 : Comp := ⟨(.seq (.ops [s 2 (.mv (c (.bool false)))])
 (.seq (.seq (.ops [s 3 (.mv (c (i 0)))])
 (.block 0 (.loop (.seq (.seq (.ops [s 4 (.mv (t 3)),
  s 5 (.mv (t 0)),
  s 6 (.len true (t 5)),
  s 7 (.bin .lss (t 4) (t 6))])
 (.cond (t 7) .skip (.exit 0)))
 (.seq (.block 1 (.seq (.ops [s 10 (.mv (t 0)),
  s 11 (.mv (t 3)),
  s 12 (.six (t 10) (t 11)),
  s 13 (.bin .lss (t 12) (c (.int .u8 (97)))),
  s 14 (.mv (t 13)),
  sg [(14, false)] 15 (.mv (t 0)),
  sg [(14, false)] 16 (.mv (t 3)),
  sg [(14, false)] 17 (.six (t 15) (t 16)),
  sg [(14, false)] 18 (.bin .gtr (t 17) (c (.int .u8 (122)))),
  s 19 (.pick (t 14) (c (.bool true)) (t 18))])
 (.cond (t 19) (.seq (.ops [s 2 (.mv (c (.bool false)))])
 .ret) .skip)))
 (.ops [s 8 (.mv (t 3)),
  s 9 (.bin .add (t 8) (c (i 1))),
  s 3 (.mv (t 9))]))))))
 (.seq (.ops [s 20 (.mv (t 0)),
  s 21 (.len true (t 20)),
  k 22 44 [(t 21), (c (i 1)), (c (i 8))] .sc,
  s 2 (.mv (t 22))])
 .ret))), none, [2], [true]⟩
def i54 : Comp := ⟨(.seq (.ops [s 1 (.box 2 (t 0)),
  s 2 (.mv (c (.bool false)))])
 (.seq (.ops [s 3 (.mv (c (i 0))),
  s 4 (.ldB 1 0 1 false true),
  k 5 44 [(t 4), (c (i 0)), (c (i 200))] .sc,
  s 6 (.mv (t 5)),
  sg [(6, true)] 7 (.mv (c (i 0))),
  sg [(6, true)] 8 (.ldB 1 1 1 false true),
  kg [(6, true)] 9 44 [(t 8), (c (i 0)), (c (i 200))] .sc,
  s 10 (.pick (t 6) (t 9) (c (.bool false))),
  s 2 (.mv (t 10))])
 .ret)), none, [2], [true]⟩
def i55 : Comp := ⟨(.seq (.ops [s 2 (.mv (c (.bool false)))])
 (.seq (.ops [s 7 (.mv (t 0)),
  k 8 57 [(t 7)] .lin,
  s 3 (.mv (t 8))])
 (.seq (.seq (.ops [s 4 (.mv (c (i 0)))])
 (.block 0 (.loop (.seq (.seq (.ops [s 9 (.mv (t 4)),
  s 10 (.mv (t 3)),
  s 11 (.len false (t 10)),
  s 12 (.bin .lss (t 9) (t 11))])
 (.cond (t 12) .skip (.exit 0)))
 (.seq (.block 1 (.seq (.ops [s 5 (.mv (c (i 0)))])
 (.block 2 (.loop (.seq (.seq (.ops [s 15 (.mv (t 5)),
  s 16 (.mv (t 4)),
  s 17 (.bin .lss (t 15) (t 16))])
 (.cond (t 17) .skip (.exit 2)))
 (.seq (.block 3 (.seq (.ops [s 6 (.mv (c (i 0)))])
 (.seq (.seq (.ops [s 20 (.mv (t 5)),
  s 21 (.bin .add (t 20) (c (i 1))),
  s 22 (.mv (t 4)),
  s 23 (.bin .eql (t 21) (t 22))])
 (.cond (t 23) (.ops [s 6 (.mv (c (i 1)))]) .skip))
 (.seq (.ops [s 24 (.mv (t 3)),
  s 25 (.mv (t 4)),
  s 26 (.idx (t 24) (t 25) 4),
  s 27 (.ldE 24 26 0 4 true true 4),
  s 28 (.mv (t 3)),
  s 29 (.mv (t 5)),
  s 30 (.idx (t 28) (t 29) 4),
  s 31 (.ldE 28 30 0 4 true true 4),
  k 32 70 [(t 27), (t 31)] .sc,
  s 33 (.mv (t 6)),
  s 34 (.bin .neq (t 32) (t 33))])
 (.cond (t 34) (.seq (.ops [s 2 (.mv (c (.bool false)))])
 .ret) .skip)))))
 (.ops [s 18 (.mv (t 5)),
  s 19 (.bin .add (t 18) (c (i 1))),
  s 5 (.mv (t 19))])))))))
 (.ops [s 13 (.mv (t 4)),
  s 14 (.bin .add (t 13) (c (i 1))),
  s 4 (.mv (t 14))]))))))
 (.seq (.ops [s 35 (.mv (t 0)),
  k 36 71 [(t 35)] .sc,
  s 2 (.mv (t 36))])
 .ret)))), none, [2], [false]⟩
def i56 : Comp := ⟨(.seq (.ops [s 2 (.mv (c (.bool false)))])
 (.seq (.seq (.ops [s 7 (.mv (t 0)),
  s 8 (.len false (t 7)),
  k 9 44 [(t 8), (c (i 3)), (c (i 10))] .sc,
  s 10 (.not (t 9))])
 (.cond (t 10) (.seq (.ops [s 2 (.mv (c (.bool false)))])
 .ret) .skip))
 (.seq (.ops [s 11 (.mv (t 0)),
  k 12 72 [(t 11)] .lin,
  s 3 (.mv (t 12))])
 (.seq (.seq (.ops [s 4 (.mv (c (i 0)))])
 (.block 0 (.loop (.seq (.seq (.ops [s 13 (.mv (t 4)),
  s 14 (.mv (t 3)),
  s 15 (.len false (t 14)),
  s 16 (.bin .lss (t 13) (t 15))])
 (.cond (t 16) .skip (.exit 0)))
 (.seq (.block 1 (.seq (.seq (.ops [s 19 (.mv (t 3)),
  s 20 (.mv (t 4)),
  s 21 (.idx (t 19) (t 20) 4),
  s 22 (.ldE 19 21 0 4 true true 4),
  k 23 73 [(t 22)] .sc,
  s 24 (.not (t 23))])
 (.cond (t 24) (.seq (.ops [s 2 (.mv (c (.bool false)))])
 .ret) .skip))
 (.seq (.ops [s 5 (.mv (c (i 0)))])
 (.block 2 (.loop (.seq (.seq (.ops [s 25 (.mv (t 5)),
  s 26 (.mv (t 4)),
  s 27 (.bin .lss (t 25) (t 26))])
 (.cond (t 27) .skip (.exit 2)))
 (.seq (.block 3 (.seq (.ops [s 6 (.mv (c (i 0)))])
 (.seq (.seq (.ops [s 30 (.mv (t 5)),
  s 31 (.bin .add (t 30) (c (i 1))),
  s 32 (.mv (t 4)),
  s 33 (.bin .eql (t 31) (t 32)),
  s 34 (.mv (t 33)),
  sg [(34, false)] 35 (.mv (t 5)),
  sg [(34, false)] 36 (.bin .eql (t 35) (c (i 0))),
  sg [(34, false)] 37 (.mv (t 36)),
  sg [(37, true), (34, false)] 38 (.mv (t 4)),
  sg [(37, true), (34, false)] 39 (.bin .add (t 38) (c (i 1))),
  sg [(37, true), (34, false)] 40 (.mv (t 3)),
  sg [(37, true), (34, false)] 41 (.len false (t 40)),
  sg [(37, true), (34, false)] 42 (.bin .eql (t 39) (t 41)),
  sg [(34, false)] 43 (.pick (t 37) (t 42) (c (.bool false))),
  s 44 (.pick (t 34) (c (.bool true)) (t 43))])
 (.cond (t 44) (.ops [s 6 (.mv (c (i 1)))]) .skip))
 (.seq (.ops [s 45 (.mv (t 3)),
  s 46 (.mv (t 4)),
  s 47 (.idx (t 45) (t 46) 4),
  s 48 (.ldE 45 47 0 4 true true 4),
  s 49 (.mv (t 3)),
  s 50 (.mv (t 5)),
  s 51 (.idx (t 49) (t 50) 4),
  s 52 (.ldE 49 51 0 4 true true 4),
  k 53 70 [(t 48), (t 52)] .sc,
  s 54 (.mv (t 6)),
  s 55 (.bin .neq (t 53) (t 54))])
 (.cond (t 55) (.seq (.ops [s 2 (.mv (c (.bool false)))])
 .ret) .skip)))))
 (.ops [s 28 (.mv (t 5)),
  s 29 (.bin .add (t 28) (c (i 1))),
  s 5 (.mv (t 29))]))))))))
 (.ops [s 17 (.mv (t 4)),
  s 18 (.bin .add (t 17) (c (i 1))),
  s 4 (.mv (t 18))]))))))
 (.seq (.ops [s 2 (.mv (c (.bool true)))])
 .ret))))), none, [2], [false]⟩
def i57 : Comp := ⟨(.seq (.ops [s 2 (.mv (c (.lst 4 true [])))])
 (.seq (.ops [s 5 (.bsl 4 []),
  s 3 (.mv (t 5))])
 (.seq (.seq (.ops [s 4 (.mv (c (i 1)))])
 (.block 0 (.loop (.seq (.seq (.ops [s 6 (.mv (t 4)),
  s 7 (.mv (t 0)),
  s 8 (.len false (t 7)),
  s 9 (.bin .lss (t 6) (t 8)),
  s 10 (.mv (t 9)),
  sg [(10, true)] 11 (.mv (t 0)),
  kg [(10, true)] 12 71 [(t 11)] .sc,
  s 13 (.pick (t 10) (t 12) (c (.bool false)))])
 (.cond (t 13) .skip (.exit 0)))
 (.seq (.block 1 (.ops [s 16 (.mv (t 3)),
  s 17 (.mv (t 0)),
  s 18 (.mv (t 4)),
  s 19 (.bin .sub (t 18) (c (i 1))),
  s 20 (.idx (t 17) (t 19) 2),
  s 21 (.ldE 17 20 0 2 true true 2),
  s 22 (.mv (t 0)),
  s 23 (.mv (t 4)),
  s 24 (.idx (t 22) (t 23) 2),
  s 25 (.ldE 22 24 0 2 true true 2),
  s 26 (.bld [(i 0), (i 0), (i 0), (i 0)] [(0, 2, (t 21)), (2, 2, (t 25))]),
  s 27 (.bsl 4 [(t 26)]),
  s 28 (.app (t 16) (t 27) 4 32),
  s 3 (.mv (t 28))]))
 (.ops [s 14 (.mv (t 4)),
  s 15 (.bin .add (t 14) (c (i 1))),
  s 4 (.mv (t 15))]))))))
 (.seq (.ops [s 29 (.mv (t 3)),
  s 2 (.mv (t 29))])
 .ret)))), none, [2], [false]⟩
def i58 : Comp := ⟨(.seq (.ops [s 2 (.mv (c (.lst 4 true [])))])
 (.seq (.seq (.ops [s 3 (.mv (t 0)),
  k 4 56 [(t 3)] .sc,
  s 5 (.not (t 4))])
 (.cond (t 5) (.seq (.ops [s 6 (.bsl 4 []),
  s 2 (.mv (t 6))])
 .ret) .skip))
 (.seq (.ops [s 7 (.mv (t 0)),
  k 8 72 [(t 7)] .lin,
  s 2 (.mv (t 8))])
 .ret))), none, [2], [false]⟩
def i59 : Comp := ⟨(.seq (.ops [s 4 (.mv (c (i 0)))])
 (.seq (.seq (.ops [s 5 (.mv (t 1)),
  s 6 (.mv (t 0)),
  s 7 (.bin .lss (t 5) (t 6))])
 (.cond (t 7) (.seq (.ops [s 8 (.mv (t 1)),
  s 4 (.mv (t 8))])
 .ret) .skip))
 (.seq (.ops [s 9 (.mv (t 0)),
  s 4 (.mv (t 9))])
 .ret))), none, [4], [true, true]⟩
def i60 : Comp := ⟨(.seq (.ops [s 2 (.box 4 (t 0)),
  s 3 (.box 2 (t 1)),
  s 4 (.mv (c (.bool false)))])
 (.seq (.ops [s 5 (.ldB 2 0 4 true true),
  k 6 74 [(t 5)] .sc,
  s 7 (.mv (t 6)),
  sg [(7, true)] 8 (.mv (c (i 0))),
  sg [(7, true)] 9 (.ldB 3 0 1 false true),
  sg [(7, true)] 10 (.mv (c (i 0))),
  sg [(7, true)] 11 (.mv (t 10)),
  sg [(7, true)] 12 (.ldB 2 0 1 false true),
  sg [(7, true)] 13 (.mv (c (i 0))),
  sg [(7, true)] 14 (.mv (t 13)),
  sg [(7, true)] 15 (.ldB 2 2 1 false true),
  kg [(7, true)] 16 44 [(t 9), (t 12), (t 15)] .sc,
  s 17 (.pick (t 7) (t 16) (c (.bool false))),
  s 18 (.mv (t 17)),
  sg [(18, true)] 19 (.mv (c (i 0))),
  sg [(18, true)] 20 (.ldB 3 1 1 false true),
  sg [(18, true)] 21 (.mv (c (i 0))),
  sg [(18, true)] 22 (.mv (t 21)),
  sg [(18, true)] 23 (.ldB 2 1 1 false true),
  sg [(18, true)] 24 (.mv (c (i 0))),
  sg [(18, true)] 25 (.mv (t 24)),
  sg [(18, true)] 26 (.ldB 2 3 1 false true),
  kg [(18, true)] 27 44 [(t 20), (t 23), (t 26)] .sc,
  s 28 (.pick (t 18) (t 27) (c (.bool false))),
  s 4 (.mv (t 28))])
 .ret)), none, [4], [true, true]⟩
def i61 : Comp := ⟨(.seq (.ops [s 2 (.box 4 (t 0)),
  s 3 (.box 4 (t 1)),
  s 4 (.mv (c (.bool false)))])
 (.seq (.ops [s 12 (.mv (c (i 0))),
  s 13 (.ldB 2 0 2 true true),
  s 14 (.mv (c (i 0))),
  s 15 (.ldB 2 2 2 true true),
  s 16 (.bsl 2 [(t 13), (t 15)]),
  k 17 75 [(t 16)] .sc,
  s 11 (.mv (t 17)),
  s 18 (.ext 11 0 true),
  s 19 (.ext 11 1 true),
  s 5 (.alc [(i 0), (i 0), (i 0), (i 0)]),
  s 5 (.stB 5 0 4 (t 18) false),
  s 6 (.mv (t 19))])
 (.seq (.seq (.ops [s 20 (.ldB 2 0 4 true true),
  k 21 73 [(t 20)] .sc,
  s 22 (.not (t 21)),
  s 23 (.mv (t 22)),
  sg [(23, false)] 24 (.ldB 5 0 4 true true),
  sg [(23, false)] 25 (.ldB 3 0 4 true true),
  kg [(23, false)] 26 76 [(t 24), (t 25)] .sc,
  sg [(23, false)] 27 (.not (t 26)),
  s 28 (.pick (t 23) (c (.bool true)) (t 27))])
 (.cond (t 28) (.seq (.ops [s 4 (.mv (c (.bool false)))])
 .ret) .skip))
 (.seq (.ops [s 29 (.mv (c (i 0))),
  s 30 (.ldB 3 0 2 true true),
  s 31 (.mv (c (i 0))),
  s 32 (.mv (t 31)),
  s 33 (.ldB 3 0 1 false true),
  s 34 (.mv (c (i 0))),
  s 35 (.mv (t 34)),
  s 36 (.ldB 3 3 1 false true),
  s 37 (.bld [(i 0), (i 0)] [(0, 1, (t 33)), (1, 1, (t 36))]),
  s 38 (.mv (c (i 0))),
  s 39 (.ldB 3 2 2 true true),
  s 40 (.mv (c (i 0))),
  s 41 (.mv (t 40)),
  s 42 (.ldB 3 2 1 false true),
  s 43 (.mv (c (i 0))),
  s 44 (.mv (t 43)),
  s 45 (.ldB 3 1 1 false true),
  s 46 (.bld [(i 0), (i 0)] [(0, 1, (t 42)), (1, 1, (t 45))]),
  s 47 (.bsl 2 [(t 30), (t 37), (t 39), (t 46)]),
  s 7 (.mv (t 47))])
 (.seq (.ops [s 8 (.mv (c (i 0)))])
 (.seq (.ops [s 9 (.mv (c (i 0)))])
 (.seq (.seq (.ops [s 10 (.mv (c (i 0)))])
 (.block 0 (.loop (.seq (.seq (.ops [s 48 (.mv (t 10)),
  s 49 (.bin .lss (t 48) (c (i 4)))])
 (.cond (t 49) .skip (.exit 0)))
 (.seq (.block 1 (.seq (.ops [s 52 (.mv (c (i 0))),
  s 53 (.ldB 2 0 2 true true),
  s 54 (.mv (c (i 0))),
  s 55 (.ldB 2 2 2 true true),
  s 56 (.mv (t 7)),
  s 57 (.mv (t 10)),
  s 58 (.idx (t 56) (t 57) 2),
  s 59 (.ldE 56 58 0 2 true true 2),
  k 60 77 [(t 53), (t 55), (t 59)] .sc])
 (.block 2 (.seq (.ops [s 62 (.bin .eql (t 60) (c (i 1))),
  s 61 (.mv (t 62))])
 (.cond (t 61) (.ops [s 63 (.mv (t 8)),
  s 64 (.bin .add (t 63) (c (i 1))),
  s 8 (.mv (t 64))]) (.seq (.ops [s 66 (.bin .eql (t 60) (c (i (-1)))),
  s 65 (.mv (t 66))])
 (.cond (t 65) (.ops [s 67 (.mv (t 9)),
  s 68 (.bin .add (t 67) (c (i 1))),
  s 9 (.mv (t 68))]) .skip)))))))
 (.ops [s 50 (.mv (t 10)),
  s 51 (.bin .add (t 50) (c (i 1))),
  s 10 (.mv (t 51))]))))))
 (.seq (.ops [s 69 (.mv (t 8)),
  s 70 (.bin .lss (t 69) (c (i 4))),
  s 71 (.mv (t 70)),
  sg [(71, true)] 72 (.mv (t 9)),
  sg [(71, true)] 73 (.bin .lss (t 72) (c (i 4))),
  s 74 (.pick (t 71) (t 73) (c (.bool false))),
  s 4 (.mv (t 74))])
 .ret)))))))), none, [4], [true, true]⟩
def i62 : Comp := ⟨(.seq (.ops [s 2 (.mv (c (.bool false)))])
 (.seq (.seq (.ops [s 4 (.mv (t 0)),
  s 5 (.len true (t 4)),
  s 6 (.mv (c (i 0)))])
 (.block 0 (.loop (.seq (.ops [s 7 (.bin .lss (t 6) (t 5))])
 (.seq (.cond (t 7) .skip (.exit 0))
 (.seq (.block 1 (.seq (.ops [s 8 (.mv (t 6)),
  s 3 (.mv (t 8))])
 (.seq (.ops [s 9 (.mv (t 0)),
  s 10 (.mv (t 3)),
  s 11 (.six (t 9) (t 10)),
  s 12 (.bin .lss (t 11) (c (.int .u8 (97)))),
  s 13 (.mv (t 12)),
  sg [(13, false)] 14 (.mv (t 0)),
  sg [(13, false)] 15 (.mv (t 3)),
  sg [(13, false)] 16 (.six (t 14) (t 15)),
  sg [(13, false)] 17 (.bin .gtr (t 16) (c (.int .u8 (122)))),
  s 18 (.pick (t 13) (c (.bool true)) (t 17))])
 (.cond (t 18) (.seq (.ops [s 2 (.mv (c (.bool false)))])
 .ret) .skip))))
 (.ops [s 19 (.bin .add (t 6) (c (i 1))),
  s 6 (.mv (t 19))])))))))
 (.seq (.ops [s 20 (.mv (t 0)),
  s 21 (.len true (t 20)),
  k 22 25 [(t 21), (c (i 1)), (c (i 8))] .sc,
  s 2 (.mv (t 22))])
 .ret))), none, [2], [true]⟩
def i63 : Comp := ⟨(.seq (.ops [s 1 (.box 2 (t 0)),
  s 2 (.mv (c (.bool false)))])
 (.seq (.ops [s 3 (.mv (c (i 0))),
  s 4 (.ldB 1 0 1 false true),
  k 5 25 [(t 4), (c (i 0)), (c (i 200))] .sc,
  s 6 (.mv (t 5)),
  sg [(6, true)] 7 (.mv (c (i 0))),
  sg [(6, true)] 8 (.ldB 1 1 1 false true),
  kg [(6, true)] 9 25 [(t 8), (c (i 0)), (c (i 200))] .sc,
  s 10 (.pick (t 6) (t 9) (c (.bool false))),
  s 2 (.mv (t 10))])
 .ret)), none, [2], [true]⟩
def i64 : Comp := ⟨(.seq (.ops [s 2 (.mv (c (.bool false)))])
 (.seq (.seq (.ops [s 7 (.mv (t 0)),
  k 8 78 [(t 7)] .sc,
  s 9 (.not (t 8))])
 (.cond (t 9) (.seq (.ops [s 2 (.mv (c (.bool false)))])
 .ret) .skip))
 (.seq (.ops [s 10 (.mv (t 0)),
  k 11 79 [(t 10)] .lin,
  s 3 (.mv (t 11))])
 (.seq (.seq (.ops [s 12 (.mv (t 3)),
  s 13 (.len false (t 12)),
  s 14 (.mv (c (i 0)))])
 (.block 0 (.loop (.seq (.ops [s 15 (.bin .lss (t 14) (t 13))])
 (.seq (.cond (t 15) .skip (.exit 0))
 (.seq (.block 1 (.seq (.ops [s 16 (.mv (t 14)),
  s 4 (.mv (t 16))])
 (.seq (.ops [s 17 (.mv (t 4)),
  s 18 (.mv (c (i 0)))])
 (.block 2 (.loop (.seq (.ops [s 19 (.bin .lss (t 18) (t 17))])
 (.seq (.cond (t 19) .skip (.exit 2))
 (.seq (.block 3 (.seq (.ops [s 20 (.mv (t 18)),
  s 5 (.mv (t 20))])
 (.seq (.ops [s 6 (.mv (c (i 0)))])
 (.seq (.seq (.ops [s 21 (.mv (t 5)),
  s 22 (.mv (t 4)),
  s 23 (.bin .sub (t 22) (c (i 1))),
  s 24 (.bin .eql (t 21) (t 23))])
 (.cond (t 24) (.ops [s 6 (.mv (c (i 1)))]) .skip))
 (.seq (.ops [s 25 (.mv (t 3)),
  s 26 (.mv (t 4)),
  s 27 (.idx (t 25) (t 26) 4),
  s 28 (.ldE 25 27 0 4 true true 4),
  s 29 (.mv (t 3)),
  s 30 (.mv (t 5)),
  s 31 (.idx (t 29) (t 30) 4),
  s 32 (.ldE 29 31 0 4 true true 4),
  k 33 80 [(t 28), (t 32)] .sc,
  s 34 (.mv (t 6)),
  s 35 (.bin .neq (t 33) (t 34))])
 (.cond (t 35) (.seq (.ops [s 2 (.mv (c (.bool false)))])
 .ret) .skip))))))
 (.ops [s 36 (.bin .add (t 18) (c (i 1))),
  s 18 (.mv (t 36))])))))))))
 (.ops [s 37 (.bin .add (t 14) (c (i 1))),
  s 14 (.mv (t 37))])))))))
 (.seq (.ops [s 2 (.mv (c (.bool true)))])
 .ret))))), none, [2], [false]⟩
def i65 : Comp := ⟨(.seq (.ops [s 2 (.mv (c (.bool false)))])
 (.seq (.seq (.ops [s 7 (.mv (t 0)),
  s 8 (.len false (t 7)),
  s 9 (.bin .lss (t 8) (c (i 3))),
  s 10 (.mv (t 9)),
  sg [(10, false)] 11 (.mv (t 0)),
  sg [(10, false)] 12 (.len false (t 11)),
  sg [(10, false)] 13 (.bin .gtr (t 12) (c (i 10))),
  s 14 (.pick (t 10) (c (.bool true)) (t 13))])
 (.cond (t 14) (.seq (.ops [s 2 (.mv (c (.bool false)))])
 .ret) .skip))
 (.seq (.ops [s 15 (.mv (t 0)),
  k 16 81 [(t 15)] .lin,
  s 3 (.mv (t 16))])
 (.seq (.seq (.ops [s 17 (.mv (t 3)),
  s 18 (.len false (t 17)),
  s 19 (.mv (c (i 0)))])
 (.block 0 (.loop (.seq (.ops [s 20 (.bin .lss (t 19) (t 18))])
 (.seq (.cond (t 20) .skip (.exit 0))
 (.seq (.block 1 (.seq (.ops [s 21 (.mv (t 19)),
  s 4 (.mv (t 21))])
 (.seq (.seq (.ops [s 22 (.mv (t 3)),
  s 23 (.mv (t 4)),
  s 24 (.idx (t 22) (t 23) 4),
  s 25 (.ldE 22 24 0 4 true true 4),
  k 26 82 [(t 25)] .sc,
  s 27 (.not (t 26))])
 (.cond (t 27) (.seq (.ops [s 2 (.mv (c (.bool false)))])
 .ret) .skip))
 (.seq (.ops [s 28 (.mv (t 4)),
  s 29 (.mv (c (i 0)))])
 (.block 2 (.loop (.seq (.ops [s 30 (.bin .lss (t 29) (t 28))])
 (.seq (.cond (t 30) .skip (.exit 2))
 (.seq (.block 3 (.seq (.ops [s 31 (.mv (t 29)),
  s 5 (.mv (t 31))])
 (.seq (.ops [s 6 (.mv (c (i 0)))])
 (.seq (.seq (.ops [s 32 (.mv (t 5)),
  s 33 (.mv (t 4)),
  s 34 (.bin .sub (t 33) (c (i 1))),
  s 35 (.bin .eql (t 32) (t 34)),
  s 36 (.mv (t 35)),
  sg [(36, false)] 37 (.mv (t 5)),
  sg [(36, false)] 38 (.bin .eql (t 37) (c (i 0))),
  sg [(36, false)] 39 (.mv (t 38)),
  sg [(39, true), (36, false)] 40 (.mv (t 4)),
  sg [(39, true), (36, false)] 41 (.mv (t 3)),
  sg [(39, true), (36, false)] 42 (.len false (t 41)),
  sg [(39, true), (36, false)] 43 (.bin .sub (t 42) (c (i 1))),
  sg [(39, true), (36, false)] 44 (.bin .eql (t 40) (t 43)),
  sg [(36, false)] 45 (.pick (t 39) (t 44) (c (.bool false))),
  s 46 (.pick (t 36) (c (.bool true)) (t 45))])
 (.cond (t 46) (.ops [s 6 (.mv (c (i 1)))]) .skip))
 (.seq (.ops [s 47 (.mv (t 3)),
  s 48 (.mv (t 4)),
  s 49 (.idx (t 47) (t 48) 4),
  s 50 (.ldE 47 49 0 4 true true 4),
  s 51 (.mv (t 3)),
  s 52 (.mv (t 5)),
  s 53 (.idx (t 51) (t 52) 4),
  s 54 (.ldE 51 53 0 4 true true 4),
  k 55 80 [(t 50), (t 54)] .sc,
  s 56 (.mv (t 6)),
  s 57 (.bin .neq (t 55) (t 56))])
 (.cond (t 57) (.seq (.ops [s 2 (.mv (c (.bool false)))])
 .ret) .skip))))))
 (.ops [s 58 (.bin .add (t 29) (c (i 1))),
  s 29 (.mv (t 58))]))))))))))
 (.ops [s 59 (.bin .add (t 19) (c (i 1))),
  s 19 (.mv (t 59))])))))))
 (.seq (.ops [s 2 (.mv (c (.bool true)))])
 .ret))))), none, [2], [false]⟩
def i66 : Comp := ⟨(.seq (.ops [s 2 (.box 4 (t 0)),
  s 3 (.box 2 (t 1)),
  s 4 (.mv (c (.bool false)))])
 (.seq (.ops [s 5 (.ldB 2 0 4 true true),
  k 6 83 [(t 5)] .sc,
  s 7 (.mv (t 6)),
  sg [(7, true)] 8 (.mv (c (i 0))),
  sg [(7, true)] 9 (.ldB 3 0 1 false true),
  sg [(7, true)] 10 (.mv (c (i 0))),
  sg [(7, true)] 11 (.mv (t 10)),
  sg [(7, true)] 12 (.ldB 2 0 1 false true),
  sg [(7, true)] 13 (.mv (c (i 0))),
  sg [(7, true)] 14 (.mv (t 13)),
  sg [(7, true)] 15 (.ldB 2 2 1 false true),
  kg [(7, true)] 16 25 [(t 9), (t 12), (t 15)] .sc,
  s 17 (.pick (t 7) (t 16) (c (.bool false))),
  s 18 (.mv (t 17)),
  sg [(18, true)] 19 (.mv (c (i 0))),
  sg [(18, true)] 20 (.ldB 3 1 1 false true),
  sg [(18, true)] 21 (.mv (c (i 0))),
  sg [(18, true)] 22 (.mv (t 21)),
  sg [(18, true)] 23 (.ldB 2 1 1 false true),
  sg [(18, true)] 24 (.mv (c (i 0))),
  sg [(18, true)] 25 (.mv (t 24)),
  sg [(18, true)] 26 (.ldB 2 3 1 false true),
  kg [(18, true)] 27 25 [(t 20), (t 23), (t 26)] .sc,
  s 28 (.pick (t 18) (t 27) (c (.bool false))),
  s 4 (.mv (t 28))])
 .ret)), none, [4], [true, true]⟩
def i67 : Comp := ⟨(.seq (.ops [s 1 (.box 5 (t 0)),
  s 2 (.mv (c (.lst 4 true [])))])
 (.seq (.seq (.ops [s 3 (.ldB 1 0 5 true false),
  k 4 47 [(t 3)] .sc])
 (.cond (t 4) (.seq (.ops [s 5 (.mv (c (i 0))),
  s 6 (.ldB 1 1 1 false true)])
 (.block 0 (.seq (.ops [s 8 (.bin .eql (t 6) (c (i 2))),
  s 7 (.mv (t 8))])
 (.cond (t 7) (.seq (.ops [s 9 (.mv (c (i 0))),
  s 10 (.ldB 1 4 1 false false),
  k 11 79 [(t 10)] .lin,
  s 2 (.mv (t 11))])
 .ret) (.seq (.ops [s 13 (.bin .eql (t 6) (c (i 3))),
  s 12 (.mv (t 13))])
 (.cond (t 12) (.seq (.ops [s 14 (.mv (c (i 0))),
  s 15 (.ldB 1 4 1 false false),
  k 16 84 [(t 15)] .lin,
  s 2 (.mv (t 16))])
 .ret) .skip)))))) .skip))
 (.seq (.ops [s 17 (.bsl 4 []),
  s 2 (.mv (t 17))])
 .ret))), none, [2], [false]⟩
def i68 : Comp := ⟨(.seq (.ops [s 2 (.box 4 (t 0)),
  s 3 (.box 4 (t 1)),
  s 4 (.mv (c (.bool false)))])
 (.seq (.seq (.ops [s 11 (.ldB 2 0 4 true true),
  k 12 82 [(t 11)] .sc,
  s 13 (.not (t 12)),
  s 14 (.mv (t 13)),
  sg [(14, false)] 15 (.ldB 3 0 4 true true),
  kg [(14, false)] 16 83 [(t 15)] .sc,
  sg [(14, false)] 17 (.not (t 16)),
  s 18 (.pick (t 14) (c (.bool true)) (t 17))])
 (.cond (t 18) (.seq (.ops [s 4 (.mv (c (.bool false)))])
 .ret) .skip))
 (.seq (.seq (.ops [s 20 (.mv (c (i 0))),
  s 21 (.ldB 2 0 2 true true),
  s 22 (.mv (c (i 0))),
  s 23 (.ldB 2 2 2 true true),
  s 24 (.bsl 2 [(t 21), (t 23)]),
  k 25 85 [(t 24)] .sc,
  s 19 (.mv (t 25)),
  s 26 (.ext 19 0 true),
  s 27 (.ext 19 1 true),
  s 5 (.alc [(i 0), (i 0), (i 0), (i 0)]),
  s 5 (.stB 5 0 4 (t 26) false),
  s 6 (.mv (t 27))])
 (.seq (.ops [s 28 (.ldB 5 0 4 true true),
  s 29 (.ldB 3 0 4 true true),
  k 30 86 [(t 28), (t 29)] .sc,
  s 31 (.not (t 30))])
 (.cond (t 31) (.seq (.ops [s 4 (.mv (c (.bool false)))])
 .ret) .skip)))
 (.seq (.ops [s 7 (.mv (c (i 0))),
  s 8 (.mv (c (i 0)))])
 (.seq (.seq (.ops [s 32 (.mv (c (i 0))),
  s 33 (.ldB 3 0 2 true true),
  s 34 (.mv (c (i 0))),
  s 35 (.ldB 3 2 2 true true),
  s 36 (.mv (c (i 0))),
  s 37 (.mv (t 36)),
  s 38 (.ldB 3 0 1 false true),
  s 39 (.mv (c (i 0))),
  s 40 (.mv (t 39)),
  s 41 (.ldB 3 3 1 false true),
  s 42 (.bld [(i 0), (i 0)] [(0, 1, (t 38)), (1, 1, (t 41))]),
  s 43 (.mv (c (i 0))),
  s 44 (.mv (t 43)),
  s 45 (.ldB 3 2 1 false true),
  s 46 (.mv (c (i 0))),
  s 47 (.mv (t 46)),
  s 48 (.ldB 3 1 1 false true),
  s 49 (.bld [(i 0), (i 0)] [(0, 1, (t 45)), (1, 1, (t 48))]),
  s 50 (.bsl 2 [(t 33), (t 35), (t 42), (t 49)]),
  s 51 (.len false (t 50)),
  s 52 (.mv (c (i 0)))])
 (.block 0 (.loop (.seq (.ops [s 53 (.bin .lss (t 52) (t 51))])
 (.seq (.cond (t 53) .skip (.exit 0))
 (.seq (.block 1 (.seq (.ops [s 54 (.idx (t 50) (t 52) 2),
  s 55 (.ldE 50 54 0 2 true true 2),
  s 10 (.alc [(i 0), (i 0)]),
  s 10 (.stB 10 0 2 (t 55) false)])
 (.seq (.ops [s 56 (.mv (c (i 0))),
  s 57 (.ldB 2 0 2 true true),
  s 58 (.mv (c (i 0))),
  s 59 (.ldB 2 2 2 true true),
  s 60 (.ldB 10 0 2 true true),
  k 61 87 [(t 57), (t 59), (t 60)] .sc])
 (.block 2 (.seq (.ops [s 63 (.bin .eql (t 61) (c (i 1))),
  s 62 (.mv (t 63))])
 (.cond (t 62) (.ops [s 64 (.mv (t 7)),
  s 65 (.bin .add (t 64) (c (i 1))),
  s 7 (.mv (t 65))]) (.seq (.ops [s 67 (.bin .eql (t 61) (c (i (-1)))),
  s 66 (.mv (t 67))])
 (.cond (t 66) (.ops [s 68 (.mv (t 8)),
  s 69 (.bin .add (t 68) (c (i 1))),
  s 8 (.mv (t 69))]) .skip))))))))
 (.ops [s 70 (.bin .add (t 52) (c (i 1))),
  s 52 (.mv (t 70))])))))))
 (.seq (.ops [s 71 (.mv (t 7)),
  s 72 (.bin .lss (t 71) (c (i 4))),
  s 73 (.mv (t 72)),
  sg [(73, true)] 74 (.mv (t 8)),
  sg [(73, true)] 75 (.bin .lss (t 74) (c (i 4))),
  s 76 (.pick (t 73) (t 75) (c (.bool false))),
  s 4 (.mv (t 76))])
 .ret)))))), none, [4], [true, true]⟩
def i70 : Comp := ⟨(.seq (.ops [s 2 (.box 4 (t 0)),
  s 3 (.box 4 (t 1)),
  s 4 (.mv (c (i 0)))])
 (.seq (.seq (.ops [s 5 (.ldB 2 0 4 true true),
  k 6 73 [(t 5)] .sc,
  s 7 (.not (t 6)),
  s 8 (.mv (t 7)),
  sg [(8, false)] 9 (.ldB 3 0 4 true true),
  kg [(8, false)] 10 73 [(t 9)] .sc,
  sg [(8, false)] 11 (.not (t 10)),
  s 12 (.pick (t 8) (c (.bool true)) (t 11))])
 (.cond (t 12) (.seq (.ops [s 4 (.mv (c (i 0)))])
 .ret) .skip))
 (.seq (.seq (.ops [s 13 (.mv (c (i 0))),
  s 14 (.mv (t 13)),
  s 15 (.ldB 2 0 1 false true),
  s 16 (.mv (c (i 0))),
  s 17 (.mv (t 16)),
  s 18 (.ldB 2 2 1 false true),
  k 19 92 [(t 15), (t 18)] .sc,
  s 20 (.mv (c (i 0))),
  s 21 (.mv (t 20)),
  s 22 (.ldB 3 0 1 false true),
  s 23 (.mv (c (i 0))),
  s 24 (.mv (t 23)),
  s 25 (.ldB 3 2 1 false true),
  k 26 59 [(t 22), (t 25)] .sc,
  s 27 (.bin .lss (t 19) (t 26)),
  s 28 (.mv (t 27)),
  sg [(28, false)] 29 (.mv (c (i 0))),
  sg [(28, false)] 30 (.mv (t 29)),
  sg [(28, false)] 31 (.ldB 3 0 1 false true),
  sg [(28, false)] 32 (.mv (c (i 0))),
  sg [(28, false)] 33 (.mv (t 32)),
  sg [(28, false)] 34 (.ldB 3 2 1 false true),
  kg [(28, false)] 35 92 [(t 31), (t 34)] .sc,
  sg [(28, false)] 36 (.mv (c (i 0))),
  sg [(28, false)] 37 (.mv (t 36)),
  sg [(28, false)] 38 (.ldB 2 0 1 false true),
  sg [(28, false)] 39 (.mv (c (i 0))),
  sg [(28, false)] 40 (.mv (t 39)),
  sg [(28, false)] 41 (.ldB 2 2 1 false true),
  kg [(28, false)] 42 59 [(t 38), (t 41)] .sc,
  sg [(28, false)] 43 (.bin .lss (t 35) (t 42)),
  s 44 (.pick (t 28) (c (.bool true)) (t 43)),
  s 45 (.mv (t 44)),
  sg [(45, false)] 46 (.mv (c (i 0))),
  sg [(45, false)] 47 (.mv (t 46)),
  sg [(45, false)] 48 (.ldB 2 1 1 false true),
  sg [(45, false)] 49 (.mv (c (i 0))),
  sg [(45, false)] 50 (.mv (t 49)),
  sg [(45, false)] 51 (.ldB 2 3 1 false true),
  kg [(45, false)] 52 92 [(t 48), (t 51)] .sc,
  sg [(45, false)] 53 (.mv (c (i 0))),
  sg [(45, false)] 54 (.mv (t 53)),
  sg [(45, false)] 55 (.ldB 3 1 1 false true),
  sg [(45, false)] 56 (.mv (c (i 0))),
  sg [(45, false)] 57 (.mv (t 56)),
  sg [(45, false)] 58 (.ldB 3 3 1 false true),
  kg [(45, false)] 59 59 [(t 55), (t 58)] .sc,
  sg [(45, false)] 60 (.bin .lss (t 52) (t 59)),
  s 61 (.pick (t 45) (c (.bool true)) (t 60)),
  s 62 (.mv (t 61)),
  sg [(62, false)] 63 (.mv (c (i 0))),
  sg [(62, false)] 64 (.mv (t 63)),
  sg [(62, false)] 65 (.ldB 3 1 1 false true),
  sg [(62, false)] 66 (.mv (c (i 0))),
  sg [(62, false)] 67 (.mv (t 66)),
  sg [(62, false)] 68 (.ldB 3 3 1 false true),
  kg [(62, false)] 69 92 [(t 65), (t 68)] .sc,
  sg [(62, false)] 70 (.mv (c (i 0))),
  sg [(62, false)] 71 (.mv (t 70)),
  sg [(62, false)] 72 (.ldB 2 1 1 false true),
  sg [(62, false)] 73 (.mv (c (i 0))),
  sg [(62, false)] 74 (.mv (t 73)),
  sg [(62, false)] 75 (.ldB 2 3 1 false true),
  kg [(62, false)] 76 59 [(t 72), (t 75)] .sc,
  sg [(62, false)] 77 (.bin .lss (t 69) (t 76)),
  s 78 (.pick (t 62) (c (.bool true)) (t 77))])
 (.cond (t 78) (.seq (.ops [s 4 (.mv (c (i 0)))])
 .ret) .skip))
 (.seq (.seq (.ops [s 79 (.ldB 2 0 4 true true),
  s 80 (.ldB 3 0 4 true true),
  k 81 93 [(t 79), (t 80)] .sc])
 (.block 0 (.seq (.ops [s 83 (.bin .eql (t 81) (c (i 0))),
  s 82 (.mv (t 83))])
 (.cond (t 82) (.seq (.seq (.ops [s 84 (.mv (c (i 0))),
  s 85 (.ldB 2 0 2 true true),
  s 86 (.mv (c (i 0))),
  s 87 (.ldB 2 2 2 true true),
  s 88 (.mv (c (i 0))),
  s 89 (.ldB 3 0 2 true true),
  k 90 77 [(t 85), (t 87), (t 89)] .sc,
  s 91 (.mv (c (i 0))),
  s 92 (.ldB 2 0 2 true true),
  s 93 (.mv (c (i 0))),
  s 94 (.ldB 2 2 2 true true),
  s 95 (.mv (c (i 0))),
  s 96 (.ldB 3 2 2 true true),
  k 97 77 [(t 92), (t 94), (t 96)] .sc,
  s 98 (.bin .mul (t 90) (t 97)),
  s 99 (.bin .lss (t 98) (c (i 0))),
  s 100 (.mv (t 99)),
  sg [(100, true)] 101 (.mv (c (i 0))),
  sg [(100, true)] 102 (.ldB 3 0 2 true true),
  sg [(100, true)] 103 (.mv (c (i 0))),
  sg [(100, true)] 104 (.ldB 3 2 2 true true),
  sg [(100, true)] 105 (.mv (c (i 0))),
  sg [(100, true)] 106 (.ldB 2 0 2 true true),
  kg [(100, true)] 107 77 [(t 102), (t 104), (t 106)] .sc,
  sg [(100, true)] 108 (.mv (c (i 0))),
  sg [(100, true)] 109 (.ldB 3 0 2 true true),
  sg [(100, true)] 110 (.mv (c (i 0))),
  sg [(100, true)] 111 (.ldB 3 2 2 true true),
  sg [(100, true)] 112 (.mv (c (i 0))),
  sg [(100, true)] 113 (.ldB 2 2 2 true true),
  kg [(100, true)] 114 77 [(t 109), (t 111), (t 113)] .sc,
  sg [(100, true)] 115 (.bin .mul (t 107) (t 114)),
  sg [(100, true)] 116 (.bin .lss (t 115) (c (i 0))),
  s 117 (.pick (t 100) (t 116) (c (.bool false)))])
 (.cond (t 117) (.seq (.ops [s 4 (.mv (c (i 2)))])
 .ret) .skip))
 (.seq (.ops [s 4 (.mv (c (i 0)))])
 .ret)) (.seq (.ops [s 119 (.bin .eql (t 81) (c (i 1))),
  s 118 (.mv (t 119))])
 (.cond (t 118) (.seq (.ops [s 4 (.mv (c (i 1)))])
 .ret) .skip))))))
 (.seq (.ops [s 4 (.mv (c (i 3)))])
 .ret))))), none, [4], [true, true]⟩
def i71 : Comp := ⟨(.seq (.ops [s 2 (.mv (c (.bool false)))])
 (.seq (.seq (.ops [s 3 (.mv (c (i 0)))])
 (.block 0 (.loop (.seq (.seq (.ops [s 4 (.mv (t 3)),
  s 5 (.mv (t 0)),
  s 6 (.len false (t 5)),
  s 7 (.bin .lss (t 4) (t 6))])
 (.cond (t 7) .skip (.exit 0)))
 (.seq (.block 1 (.seq (.ops [s 10 (.mv (t 0)),
  s 11 (.mv (t 3)),
  s 12 (.idx (t 10) (t 11) 2),
  s 13 (.ldE 10 12 0 2 true true 2),
  k 14 54 [(t 13)] .sc,
  s 15 (.not (t 14)),
  s 16 (.mv (t 15)),
  sg [(16, false)] 17 (.mv (t 3)),
  sg [(16, false)] 18 (.bin .gtr (t 17) (c (i 0))),
  sg [(16, false)] 19 (.mv (t 18)),
  sg [(19, true), (16, false)] 20 (.mv (t 0)),
  sg [(19, true), (16, false)] 21 (.mv (t 3)),
  sg [(19, true), (16, false)] 22 (.bin .sub (t 21) (c (i 1))),
  sg [(19, true), (16, false)] 23 (.idx (t 20) (t 22) 2),
  sg [(19, true), (16, false)] 24 (.ldE 20 23 0 2 true true 2),
  sg [(19, true), (16, false)] 25 (.mv (t 0)),
  sg [(19, true), (16, false)] 26 (.mv (t 3)),
  sg [(19, true), (16, false)] 27 (.idx (t 25) (t 26) 2),
  sg [(19, true), (16, false)] 28 (.ldE 25 27 0 2 true true 2),
  sg [(19, true), (16, false)] 29 (.eqa false [0, 0] (t 24) (t 28)),
  sg [(16, false)] 30 (.pick (t 19) (t 29) (c (.bool false))),
  s 31 (.pick (t 16) (c (.bool true)) (t 30))])
 (.cond (t 31) (.seq (.ops [s 2 (.mv (c (.bool false)))])
 .ret) .skip)))
 (.ops [s 8 (.mv (t 3)),
  s 9 (.bin .add (t 8) (c (i 1))),
  s 3 (.mv (t 9))]))))))
 (.seq (.ops [s 32 (.mv (t 0)),
  s 33 (.len false (t 32)),
  k 34 44 [(t 33), (c (i 2)), (c (i 10))] .sc,
  s 2 (.mv (t 34))])
 .ret))), none, [2], [false]⟩
def i72 : Comp := ⟨(.seq (.ops [s 2 (.mv (c (.lst 4 true [])))])
 (.seq (.ops [s 5 (.bsl 4 []),
  s 3 (.mv (t 5))])
 (.seq (.seq (.ops [s 4 (.mv (c (i 0)))])
 (.block 0 (.loop (.seq (.seq (.ops [s 6 (.mv (t 4)),
  s 7 (.mv (t 0)),
  s 8 (.len false (t 7)),
  s 9 (.bin .lss (t 6) (t 8))])
 (.cond (t 9) .skip (.exit 0)))
 (.seq (.block 1 (.ops [s 12 (.mv (t 3)),
  s 13 (.mv (t 0)),
  s 14 (.mv (t 4)),
  s 15 (.idx (t 13) (t 14) 2),
  s 16 (.ldE 13 15 0 2 true true 2),
  s 17 (.mv (t 0)),
  s 18 (.mv (t 4)),
  s 19 (.bin .add (t 18) (c (i 1))),
  s 20 (.mv (t 0)),
  s 21 (.len false (t 20)),
  s 22 (.bin .rem (t 19) (t 21)),
  s 23 (.idx (t 17) (t 22) 2),
  s 24 (.ldE 17 23 0 2 true true 2),
  s 25 (.bld [(i 0), (i 0), (i 0), (i 0)] [(0, 2, (t 16)), (2, 2, (t 24))]),
  s 26 (.bsl 4 [(t 25)]),
  s 27 (.app (t 12) (t 26) 4 32),
  s 3 (.mv (t 27))]))
 (.ops [s 10 (.mv (t 4)),
  s 11 (.bin .add (t 10) (c (i 1))),
  s 4 (.mv (t 11))]))))))
 (.seq (.ops [s 28 (.mv (t 3)),
  s 2 (.mv (t 28))])
 .ret)))), none, [2], [false]⟩
def i73 : Comp := ⟨(.seq (.ops [s 1 (.box 4 (t 0)),
  s 2 (.mv (c (.bool false)))])
 (.seq (.ops [s 3 (.mv (c (i 0))),
  s 4 (.ldB 1 0 2 true true),
  k 5 54 [(t 4)] .sc,
  s 6 (.mv (t 5)),
  sg [(6, true)] 7 (.mv (c (i 0))),
  sg [(6, true)] 8 (.ldB 1 2 2 true true),
  kg [(6, true)] 9 54 [(t 8)] .sc,
  s 10 (.pick (t 6) (t 9) (c (.bool false))),
  s 11 (.mv (t 10)),
  sg [(11, true)] 12 (.mv (c (i 0))),
  sg [(11, true)] 13 (.ldB 1 0 2 true true),
  sg [(11, true)] 14 (.mv (c (i 0))),
  sg [(11, true)] 15 (.ldB 1 2 2 true true),
  sg [(11, true)] 16 (.eqa true [0, 0] (t 13) (t 15)),
  s 17 (.pick (t 11) (t 16) (c (.bool false))),
  s 2 (.mv (t 17))])
 .ret)), none, [2], [true]⟩
def i74 : Comp := ⟨(.seq (.ops [s 1 (.box 4 (t 0)),
  s 2 (.mv (c (.bool false)))])
 (.seq (.ops [s 3 (.mv (c (i 0))),
  s 4 (.ldB 1 0 2 true true),
  k 5 54 [(t 4)] .sc,
  s 6 (.mv (t 5)),
  sg [(6, true)] 7 (.mv (c (i 0))),
  sg [(6, true)] 8 (.ldB 1 2 2 true true),
  kg [(6, true)] 9 54 [(t 8)] .sc,
  s 10 (.pick (t 6) (t 9) (c (.bool false))),
  s 11 (.mv (t 10)),
  sg [(11, true)] 12 (.mv (c (i 0))),
  sg [(11, true)] 13 (.mv (t 12)),
  sg [(11, true)] 14 (.ldB 1 0 1 false true),
  sg [(11, true)] 15 (.mv (c (i 0))),
  sg [(11, true)] 16 (.mv (t 15)),
  sg [(11, true)] 17 (.ldB 1 2 1 false true),
  sg [(11, true)] 18 (.bin .leq (t 14) (t 17)),
  s 19 (.pick (t 11) (t 18) (c (.bool false))),
  s 20 (.mv (t 19)),
  sg [(20, true)] 21 (.mv (c (i 0))),
  sg [(20, true)] 22 (.mv (t 21)),
  sg [(20, true)] 23 (.ldB 1 1 1 false true),
  sg [(20, true)] 24 (.mv (c (i 0))),
  sg [(20, true)] 25 (.mv (t 24)),
  sg [(20, true)] 26 (.ldB 1 3 1 false true),
  sg [(20, true)] 27 (.bin .leq (t 23) (t 26)),
  s 28 (.pick (t 20) (t 27) (c (.bool false))),
  s 2 (.mv (t 28))])
 .ret)), none, [2], [true]⟩
def i75 : Comp := ⟨(.seq (.ops [s 2 (.alc [(i 0), (i 0), (i 0), (i 0)]),
  s 3 (.mv (c (.bool false)))])
 (.seq (.seq (.ops [s 6 (.mv (t 0)),
  s 7 (.len false (t 6)),
  s 8 (.bin .eql (t 7) (c (i 0)))])
 (.cond (t 8) (.seq (.ops [s 9 (.bld [(i 0), (i 0), (i 0), (i 0)] []),
  s 2 (.stB 2 0 4 (t 9) false),
  s 3 (.mv (c (.bool false)))])
 .ret) .skip))
 (.seq (.ops [s 10 (.mv (t 0)),
  s 11 (.idx (t 10) (c (i 0)) 2),
  s 12 (.ldE 10 11 0 2 true true 2),
  s 13 (.mv (t 0)),
  s 14 (.idx (t 13) (c (i 0)) 2),
  s 15 (.ldE 13 14 0 2 true true 2),
  s 16 (.bld [(i 0), (i 0), (i 0), (i 0)] [(0, 2, (t 12)), (2, 2, (t 15))]),
  s 4 (.alc [(i 0), (i 0), (i 0), (i 0)]),
  s 4 (.stB 4 0 4 (t 16) false)])
 (.seq (.seq (.ops [s 5 (.mv (c (i 0)))])
 (.block 0 (.loop (.seq (.seq (.ops [s 17 (.mv (t 5)),
  s 18 (.mv (t 0)),
  s 19 (.len false (t 18)),
  s 20 (.bin .lss (t 17) (t 19))])
 (.cond (t 20) .skip (.exit 0)))
 (.seq (.block 1 (.seq (.seq (.ops [s 23 (.mv (t 0)),
  s 24 (.mv (t 5)),
  s 25 (.idx (t 23) (t 24) 2),
  s 26 (.ldE 23 25 0 2 true true 2),
  k 27 54 [(t 26)] .sc,
  s 28 (.not (t 27))])
 (.cond (t 28) (.seq (.ops [s 29 (.bld [(i 0), (i 0), (i 0), (i 0)] []),
  s 2 (.stB 2 0 4 (t 29) false),
  s 3 (.mv (c (.bool false)))])
 .ret) .skip))
 (.seq (.ops [s 30 (.mv (c (i 0))),
  s 31 (.mv (t 30)),
  s 32 (.ldB 4 0 1 false true),
  s 33 (.mv (t 0)),
  s 34 (.mv (t 5)),
  s 35 (.idx (t 33) (t 34) 2),
  s 36 (.mv (t 35)),
  s 37 (.ldE 33 36 0 1 false true 2),
  k 38 59 [(t 32), (t 37)] .sc,
  s 39 (.mv (c (i 0))),
  s 40 (.mv (t 39)),
  s 4 (.stB 4 0 1 (t 38) false)])
 (.seq (.ops [s 41 (.mv (c (i 0))),
  s 42 (.mv (t 41)),
  s 43 (.ldB 4 1 1 false true),
  s 44 (.mv (t 0)),
  s 45 (.mv (t 5)),
  s 46 (.idx (t 44) (t 45) 2),
  s 47 (.mv (t 46)),
  s 48 (.ldE 44 47 1 1 false true 2),
  k 49 59 [(t 43), (t 48)] .sc,
  s 50 (.mv (c (i 0))),
  s 51 (.mv (t 50)),
  s 4 (.stB 4 1 1 (t 49) false)])
 (.seq (.ops [s 52 (.mv (c (i 0))),
  s 53 (.mv (t 52)),
  s 54 (.ldB 4 2 1 false true),
  s 55 (.mv (t 0)),
  s 56 (.mv (t 5)),
  s 57 (.idx (t 55) (t 56) 2),
  s 58 (.mv (t 57)),
  s 59 (.ldE 55 58 0 1 false true 2),
  k 60 92 [(t 54), (t 59)] .sc,
  s 61 (.mv (c (i 0))),
  s 62 (.mv (t 61)),
  s 4 (.stB 4 2 1 (t 60) false)])
 (.ops [s 63 (.mv (c (i 0))),
  s 64 (.mv (t 63)),
  s 65 (.ldB 4 3 1 false true),
  s 66 (.mv (t 0)),
  s 67 (.mv (t 5)),
  s 68 (.idx (t 66) (t 67) 2),
  s 69 (.mv (t 68)),
  s 70 (.ldE 66 69 1 1 false true 2),
  k 71 92 [(t 65), (t 70)] .sc,
  s 72 (.mv (c (i 0))),
  s 73 (.mv (t 72)),
  s 4 (.stB 4 3 1 (t 71) false)]))))))
 (.ops [s 21 (.mv (t 5)),
  s 22 (.bin .add (t 21) (c (i 1))),
  s 5 (.mv (t 22))]))))))
 (.seq (.ops [s 74 (.ldB 4 0 4 true true),
  s 2 (.stB 2 0 4 (t 74) false),
  s 3 (.mv (c (.bool true)))])
 .ret))))), (some ⟨2, 65, 4, true⟩), [3], [false]⟩
def i76 : Comp := ⟨(.seq (.ops [s 2 (.box 4 (t 0)),
  s 3 (.box 4 (t 1)),
  s 4 (.mv (c (.bool false)))])
 (.seq (.ops [s 5 (.ldB 2 0 4 true true),
  k 6 74 [(t 5)] .sc,
  s 7 (.mv (t 6)),
  sg [(7, true)] 8 (.ldB 3 0 4 true true),
  kg [(7, true)] 9 74 [(t 8)] .sc,
  s 10 (.pick (t 7) (t 9) (c (.bool false))),
  s 11 (.mv (t 10)),
  sg [(11, true)] 12 (.mv (c (i 0))),
  sg [(11, true)] 13 (.mv (t 12)),
  sg [(11, true)] 14 (.ldB 2 0 1 false true),
  sg [(11, true)] 15 (.mv (c (i 0))),
  sg [(11, true)] 16 (.mv (t 15)),
  sg [(11, true)] 17 (.ldB 3 2 1 false true),
  sg [(11, true)] 18 (.bin .leq (t 14) (t 17)),
  s 19 (.pick (t 11) (t 18) (c (.bool false))),
  s 20 (.mv (t 19)),
  sg [(20, true)] 21 (.mv (c (i 0))),
  sg [(20, true)] 22 (.mv (t 21)),
  sg [(20, true)] 23 (.ldB 3 0 1 false true),
  sg [(20, true)] 24 (.mv (c (i 0))),
  sg [(20, true)] 25 (.mv (t 24)),
  sg [(20, true)] 26 (.ldB 2 2 1 false true),
  sg [(20, true)] 27 (.bin .leq (t 23) (t 26)),
  s 28 (.pick (t 20) (t 27) (c (.bool false))),
  s 29 (.mv (t 28)),
  sg [(29, true)] 30 (.mv (c (i 0))),
  sg [(29, true)] 31 (.mv (t 30)),
  sg [(29, true)] 32 (.ldB 2 1 1 false true),
  sg [(29, true)] 33 (.mv (c (i 0))),
  sg [(29, true)] 34 (.mv (t 33)),
  sg [(29, true)] 35 (.ldB 3 3 1 false true),
  sg [(29, true)] 36 (.bin .leq (t 32) (t 35)),
  s 37 (.pick (t 29) (t 36) (c (.bool false))),
  s 38 (.mv (t 37)),
  sg [(38, true)] 39 (.mv (c (i 0))),
  sg [(38, true)] 40 (.mv (t 39)),
  sg [(38, true)] 41 (.ldB 3 1 1 false true),
  sg [(38, true)] 42 (.mv (c (i 0))),
  sg [(38, true)] 43 (.mv (t 42)),
  sg [(38, true)] 44 (.ldB 2 3 1 false true),
  sg [(38, true)] 45 (.bin .leq (t 41) (t 44)),
  s 46 (.pick (t 38) (t 45) (c (.bool false))),
  s 4 (.mv (t 46))])
 .ret)), none, [4], [true, true]⟩
def i77 : Comp := ⟨(.seq (.ops [s 3 (.box 2 (t 0)),
  s 4 (.box 2 (t 1)),
  s 5 (.box 2 (t 2)),
  s 6 (.mv (c (i 0)))])
 (.seq (.seq (.ops [s 8 (.ldB 3 0 2 true true),
  k 9 54 [(t 8)] .sc,
  s 10 (.not (t 9)),
  s 11 (.mv (t 10)),
  sg [(11, false)] 12 (.ldB 4 0 2 true true),
  kg [(11, false)] 13 54 [(t 12)] .sc,
  sg [(11, false)] 14 (.not (t 13)),
  s 15 (.pick (t 11) (c (.bool true)) (t 14)),
  s 16 (.mv (t 15)),
  sg [(16, false)] 17 (.ldB 5 0 2 true true),
  kg [(16, false)] 18 54 [(t 17)] .sc,
  sg [(16, false)] 19 (.not (t 18)),
  s 20 (.pick (t 16) (c (.bool true)) (t 19))])
 (.cond (t 20) (.seq (.ops [s 6 (.mv (c (i 0)))])
 .ret) .skip))
 (.seq (.ops [s 21 (.ldB 3 0 2 true true),
  s 22 (.ldB 4 0 2 true true),
  s 23 (.ldB 5 0 2 true true),
  k 24 94 [(t 21), (t 22), (t 23)] .sc,
  s 7 (.mv (t 24))])
 (.seq (.block 0 (.seq (.ops [s 26 (.mv (t 7)),
  s 27 (.bin .gtr (t 26) (c (i 0))),
  s 25 (.mv (t 27))])
 (.cond (t 25) (.seq (.ops [s 6 (.mv (c (i 1)))])
 .ret) (.seq (.ops [s 29 (.mv (t 7)),
  s 30 (.bin .lss (t 29) (c (i 0))),
  s 28 (.mv (t 30))])
 (.cond (t 28) (.seq (.ops [s 6 (.mv (c (i (-1))))])
 .ret) .skip)))))
 (.seq (.ops [s 6 (.mv (c (i 0)))])
 .ret))))), none, [6], [true, true, true]⟩
def i78 : Comp := ⟨(.seq (.ops [s 2 (.mv (c (.bool false)))])
 (.seq (.seq (.ops [s 5 (.mv (t 0)),
  s 6 (.len false (t 5)),
  s 7 (.bin .lss (t 6) (c (i 2))),
  s 8 (.mv (t 7)),
  sg [(8, false)] 9 (.mv (t 0)),
  sg [(8, false)] 10 (.len false (t 9)),
  sg [(8, false)] 11 (.bin .gtr (t 10) (c (i 10))),
  s 12 (.pick (t 8) (c (.bool true)) (t 11))])
 (.cond (t 12) (.seq (.ops [s 2 (.mv (c (.bool false)))])
 .ret) .skip))
 (.seq (.seq (.ops [s 13 (.mv (t 0)),
  s 14 (.len false (t 13)),
  s 15 (.mv (c (i 0)))])
 (.block 0 (.loop (.seq (.ops [s 16 (.bin .lss (t 15) (t 14))])
 (.seq (.cond (t 16) .skip (.exit 0))
 (.seq (.block 1 (.seq (.ops [s 17 (.mv (t 15)),
  s 18 (.idx (t 13) (t 15) 2),
  s 19 (.ldE 13 18 0 2 true true 2),
  s 4 (.alc [(i 0), (i 0)]),
  s 3 (.mv (t 17)),
  s 4 (.stB 4 0 2 (t 19) false)])
 (.seq (.ops [s 20 (.ldB 4 0 2 true true),
  k 21 63 [(t 20)] .sc,
  s 22 (.not (t 21)),
  s 23 (.mv (t 22)),
  sg [(23, false)] 24 (.mv (t 3)),
  sg [(23, false)] 25 (.bin .gtr (t 24) (c (i 0))),
  sg [(23, false)] 26 (.mv (t 25)),
  sg [(26, true), (23, false)] 27 (.ldB 4 0 2 true true),
  sg [(26, true), (23, false)] 28 (.mv (t 0)),
  sg [(26, true), (23, false)] 29 (.mv (t 3)),
  sg [(26, true), (23, false)] 30 (.bin .sub (t 29) (c (i 1))),
  sg [(26, true), (23, false)] 31 (.idx (t 28) (t 30) 2),
  sg [(26, true), (23, false)] 32 (.ldE 28 31 0 2 true true 2),
  sg [(26, true), (23, false)] 33 (.eqa false [0, 0] (t 27) (t 32)),
  sg [(23, false)] 34 (.pick (t 26) (t 33) (c (.bool false))),
  s 35 (.pick (t 23) (c (.bool true)) (t 34))])
 (.cond (t 35) (.seq (.ops [s 2 (.mv (c (.bool false)))])
 .ret) .skip))))
 (.ops [s 36 (.bin .add (t 15) (c (i 1))),
  s 15 (.mv (t 36))])))))))
 (.seq (.ops [s 2 (.mv (c (.bool true)))])
 .ret)))), none, [2], [false]⟩
def i79 : Comp := ⟨(.seq (.ops [s 2 (.mv (c (.lst 4 true [])))])
 (.seq (.ops [s 5 (.bsl 4 []),
  s 3 (.mv (t 5))])
 (.seq (.seq (.ops [s 6 (.mv (t 0)),
  k 7 78 [(t 6)] .sc,
  s 8 (.not (t 7))])
 (.cond (t 8) (.seq (.ops [s 9 (.mv (t 3)),
  s 2 (.mv (t 9))])
 .ret) .skip))
 (.seq (.seq (.ops [s 4 (.mv (c (i 1)))])
 (.block 0 (.loop (.seq (.seq (.ops [s 10 (.mv (t 4)),
  s 11 (.mv (t 0)),
  s 12 (.len false (t 11)),
  s 13 (.bin .lss (t 10) (t 12))])
 (.cond (t 13) .skip (.exit 0)))
 (.seq (.block 1 (.ops [s 16 (.mv (t 3)),
  s 17 (.mv (t 0)),
  s 18 (.mv (t 4)),
  s 19 (.bin .sub (t 18) (c (i 1))),
  s 20 (.idx (t 17) (t 19) 2),
  s 21 (.ldE 17 20 0 2 true true 2),
  s 22 (.mv (t 0)),
  s 23 (.mv (t 4)),
  s 24 (.idx (t 22) (t 23) 2),
  s 25 (.ldE 22 24 0 2 true true 2),
  s 26 (.bld [(i 0), (i 0), (i 0), (i 0)] [(0, 2, (t 21)), (2, 2, (t 25))]),
  s 27 (.bsl 4 [(t 26)]),
  s 28 (.app (t 16) (t 27) 4 32),
  s 3 (.mv (t 28))]))
 (.ops [s 14 (.mv (t 4)),
  s 15 (.bin .add (t 14) (c (i 1))),
  s 4 (.mv (t 15))]))))))
 (.seq (.ops [s 29 (.mv (t 3)),
  s 2 (.mv (t 29))])
 .ret))))), none, [2], [false]⟩
def i80 : Comp := ⟨(.seq (.ops [s 2 (.box 4 (t 0)),
  s 3 (.box 4 (t 1)),
  s 4 (.mv (c (i 0)))])
 (.seq (.seq (.ops [s 9 (.ldB 2 0 4 true true),
  k 10 82 [(t 9)] .sc,
  s 11 (.not (t 10)),
  s 12 (.mv (t 11)),
  sg [(12, false)] 13 (.ldB 3 0 4 true true),
  kg [(12, false)] 14 82 [(t 13)] .sc,
  sg [(12, false)] 15 (.not (t 14)),
  s 16 (.pick (t 12) (c (.bool true)) (t 15))])
 (.cond (t 16) (.seq (.ops [s 4 (.mv (c (i 0)))])
 .ret) .skip))
 (.seq (.ops [s 17 (.mv (c (i 0))),
  s 18 (.ldB 2 0 2 true true),
  s 19 (.mv (c (i 0))),
  s 20 (.ldB 2 2 2 true true),
  s 21 (.mv (c (i 0))),
  s 22 (.ldB 3 0 2 true true),
  k 23 87 [(t 18), (t 20), (t 22)] .sc,
  s 24 (.mv (c (i 0))),
  s 25 (.ldB 2 0 2 true true),
  s 26 (.mv (c (i 0))),
  s 27 (.ldB 2 2 2 true true),
  s 28 (.mv (c (i 0))),
  s 29 (.ldB 3 2 2 true true),
  k 30 87 [(t 25), (t 27), (t 29)] .sc,
  s 5 (.mv (t 23)),
  s 6 (.mv (t 30))])
 (.seq (.seq (.ops [s 31 (.mv (t 5)),
  s 32 (.bin .eql (t 31) (c (i 0))),
  s 33 (.mv (t 32)),
  sg [(33, true)] 34 (.mv (t 6)),
  sg [(33, true)] 35 (.bin .eql (t 34) (c (i 0))),
  s 36 (.pick (t 33) (t 35) (c (.bool false)))])
 (.cond (t 36) (.seq (.ops [s 37 (.ldB 2 0 4 true true),
  k 38 95 [(t 37)] .sc,
  s 39 (.ldB 3 0 4 true true),
  k 40 95 [(t 39)] .sc,
  s 2 (.stB 2 0 4 (t 38) false),
  s 3 (.stB 3 0 4 (t 40) false)])
 (.seq (.ops [s 41 (.mv (c (i 0))),
  s 42 (.ldB 2 0 2 true true),
  s 43 (.mv (c (i 0))),
  s 44 (.ldB 2 2 2 true true),
  s 7 (.alc [(i 0), (i 0)]),
  s 8 (.alc [(i 0), (i 0)]),
  s 7 (.stB 7 0 2 (t 42) false),
  s 8 (.stB 8 0 2 (t 44) false)])
 (.seq (.seq (.ops [s 45 (.ldB 7 0 2 true true),
  s 46 (.mv (c (i 0))),
  s 47 (.ldB 3 0 2 true true),
  k 48 96 [(t 45), (t 47)] .sc])
 (.cond (t 48) (.ops [s 49 (.mv (c (i 0))),
  s 50 (.ldB 3 0 2 true true),
  s 7 (.stB 7 0 2 (t 50) false)]) .skip))
 (.seq (.seq (.ops [s 51 (.mv (c (i 0))),
  s 52 (.ldB 3 2 2 true true),
  s 53 (.ldB 8 0 2 true true),
  k 54 96 [(t 52), (t 53)] .sc])
 (.cond (t 54) (.ops [s 55 (.mv (c (i 0))),
  s 56 (.ldB 3 2 2 true true),
  s 8 (.stB 8 0 2 (t 56) false)]) .skip))
 (.seq (.block 0 (.seq (.ops [s 58 (.ldB 8 0 2 true true),
  s 59 (.ldB 7 0 2 true true),
  k 60 96 [(t 58), (t 59)] .sc,
  s 57 (.mv (t 60))])
 (.cond (t 57) (.seq (.ops [s 4 (.mv (c (i 0)))])
 .ret) (.seq (.ops [s 62 (.ldB 7 0 2 true true),
  s 63 (.ldB 8 0 2 true true),
  s 64 (.eqa false [0, 0] (t 62) (t 63)),
  s 61 (.mv (t 64))])
 (.cond (t 61) (.seq (.ops [s 4 (.mv (c (i 1)))])
 .ret) .skip)))))
 (.seq (.ops [s 4 (.mv (c (i 3)))])
 .ret)))))) .skip))
 (.seq (.seq (.ops [s 65 (.mv (t 5)),
  s 66 (.mv (t 6)),
  s 67 (.bin .mul (t 65) (t 66)),
  s 68 (.bin .lss (t 67) (c (i 0))),
  s 69 (.mv (t 68)),
  sg [(69, true)] 70 (.mv (c (i 0))),
  sg [(69, true)] 71 (.ldB 3 0 2 true true),
  sg [(69, true)] 72 (.mv (c (i 0))),
  sg [(69, true)] 73 (.ldB 3 2 2 true true),
  sg [(69, true)] 74 (.mv (c (i 0))),
  sg [(69, true)] 75 (.ldB 2 0 2 true true),
  kg [(69, true)] 76 87 [(t 71), (t 73), (t 75)] .sc,
  sg [(69, true)] 77 (.mv (c (i 0))),
  sg [(69, true)] 78 (.ldB 3 0 2 true true),
  sg [(69, true)] 79 (.mv (c (i 0))),
  sg [(69, true)] 80 (.ldB 3 2 2 true true),
  sg [(69, true)] 81 (.mv (c (i 0))),
  sg [(69, true)] 82 (.ldB 2 2 2 true true),
  kg [(69, true)] 83 87 [(t 78), (t 80), (t 82)] .sc,
  sg [(69, true)] 84 (.bin .mul (t 76) (t 83)),
  sg [(69, true)] 85 (.bin .lss (t 84) (c (i 0))),
  s 86 (.pick (t 69) (t 85) (c (.bool false)))])
 (.cond (t 86) (.seq (.ops [s 4 (.mv (c (i 2)))])
 .ret) .skip))
 (.seq (.seq (.ops [s 87 (.ldB 2 0 4 true true),
  s 88 (.mv (c (i 0))),
  s 89 (.ldB 3 0 2 true true),
  k 90 97 [(t 87), (t 89)] .sc,
  s 91 (.mv (t 90)),
  sg [(91, false)] 92 (.ldB 2 0 4 true true),
  sg [(91, false)] 93 (.mv (c (i 0))),
  sg [(91, false)] 94 (.ldB 3 2 2 true true),
  kg [(91, false)] 95 97 [(t 92), (t 94)] .sc,
  s 96 (.pick (t 91) (c (.bool true)) (t 95)),
  s 97 (.mv (t 96)),
  sg [(97, false)] 98 (.ldB 3 0 4 true true),
  sg [(97, false)] 99 (.mv (c (i 0))),
  sg [(97, false)] 100 (.ldB 2 0 2 true true),
  kg [(97, false)] 101 97 [(t 98), (t 100)] .sc,
  s 102 (.pick (t 97) (c (.bool true)) (t 101)),
  s 103 (.mv (t 102)),
  sg [(103, false)] 104 (.ldB 3 0 4 true true),
  sg [(103, false)] 105 (.mv (c (i 0))),
  sg [(103, false)] 106 (.ldB 2 2 2 true true),
  kg [(103, false)] 107 97 [(t 104), (t 106)] .sc,
  s 108 (.pick (t 103) (c (.bool true)) (t 107))])
 (.cond (t 108) (.seq (.ops [s 4 (.mv (c (i 1)))])
 .ret) .skip))
 (.seq (.ops [s 4 (.mv (c (i 0)))])
 .ret))))))), none, [4], [true, true]⟩
def i81 : Comp := ⟨(.seq (.ops [s 2 (.mv (c (.lst 4 true [])))])
 (.seq (.ops [s 6 (.bsl 4 []),
  s 3 (.mv (t 6))])
 (.seq (.seq (.ops [s 7 (.mv (t 0)),
  s 8 (.len false (t 7)),
  s 9 (.mv (c (i 0)))])
 (.block 0 (.loop (.seq (.ops [s 10 (.bin .lss (t 9) (t 8))])
 (.seq (.cond (t 10) .skip (.exit 0))
 (.seq (.block 1 (.seq (.ops [s 11 (.mv (t 9)),
  s 12 (.idx (t 7) (t 9) 2),
  s 13 (.ldE 7 12 0 2 true true 2),
  s 5 (.alc [(i 0), (i 0)]),
  s 4 (.mv (t 11)),
  s 5 (.stB 5 0 2 (t 13) false)])
 (.ops [s 14 (.mv (t 3)),
  s 15 (.ldB 5 0 2 true true),
  s 16 (.mv (t 0)),
  s 17 (.mv (t 4)),
  s 18 (.bin .add (t 17) (c (i 1))),
  s 19 (.mv (t 0)),
  s 20 (.len false (t 19)),
  s 21 (.bin .rem (t 18) (t 20)),
  s 22 (.idx (t 16) (t 21) 2),
  s 23 (.ldE 16 22 0 2 true true 2),
  s 24 (.bld [(i 0), (i 0), (i 0), (i 0)] [(0, 2, (t 15)), (2, 2, (t 23))]),
  s 25 (.bsl 4 [(t 24)]),
  s 26 (.app (t 14) (t 25) 4 32),
  s 3 (.mv (t 26))])))
 (.ops [s 27 (.bin .add (t 9) (c (i 1))),
  s 9 (.mv (t 27))])))))))
 (.seq (.ops [s 28 (.mv (t 3)),
  s 2 (.mv (t 28))])
 .ret)))), none, [2], [false]⟩
def i82 : Comp := ⟨(.seq (.ops [s 1 (.box 4 (t 0)),
  s 2 (.mv (c (.bool false)))])
 (.seq (.ops [s 3 (.mv (c (i 0))),
  s 4 (.ldB 1 0 2 true true),
  k 5 63 [(t 4)] .sc,
  s 6 (.mv (t 5)),
  sg [(6, true)] 7 (.mv (c (i 0))),
  sg [(6, true)] 8 (.ldB 1 2 2 true true),
  kg [(6, true)] 9 63 [(t 8)] .sc,
  s 10 (.pick (t 6) (t 9) (c (.bool false))),
  s 11 (.mv (t 10)),
  sg [(11, true)] 12 (.mv (c (i 0))),
  sg [(11, true)] 13 (.ldB 1 0 2 true true),
  sg [(11, true)] 14 (.mv (c (i 0))),
  sg [(11, true)] 15 (.ldB 1 2 2 true true),
  sg [(11, true)] 16 (.eqa true [0, 0] (t 13) (t 15)),
  s 17 (.pick (t 11) (t 16) (c (.bool false))),
  s 2 (.mv (t 17))])
 .ret)), none, [2], [true]⟩
def i83 : Comp := ⟨(.seq (.ops [s 1 (.box 4 (t 0)),
  s 2 (.mv (c (.bool false)))])
 (.seq (.ops [s 3 (.mv (c (i 0))),
  s 4 (.ldB 1 0 2 true true),
  k 5 63 [(t 4)] .sc,
  s 6 (.mv (t 5)),
  sg [(6, true)] 7 (.mv (c (i 0))),
  sg [(6, true)] 8 (.ldB 1 2 2 true true),
  kg [(6, true)] 9 63 [(t 8)] .sc,
  s 10 (.pick (t 6) (t 9) (c (.bool false))),
  s 11 (.mv (t 10)),
  sg [(11, true)] 12 (.mv (c (i 0))),
  sg [(11, true)] 13 (.mv (t 12)),
  sg [(11, true)] 14 (.ldB 1 0 1 false true),
  sg [(11, true)] 15 (.mv (c (i 0))),
  sg [(11, true)] 16 (.mv (t 15)),
  sg [(11, true)] 17 (.ldB 1 2 1 false true),
  sg [(11, true)] 18 (.bin .leq (t 14) (t 17)),
  s 19 (.pick (t 11) (t 18) (c (.bool false))),
  s 20 (.mv (t 19)),
  sg [(20, true)] 21 (.mv (c (i 0))),
  sg [(20, true)] 22 (.mv (t 21)),
  sg [(20, true)] 23 (.ldB 1 1 1 false true),
  sg [(20, true)] 24 (.mv (c (i 0))),
  sg [(20, true)] 25 (.mv (t 24)),
  sg [(20, true)] 26 (.ldB 1 3 1 false true),
  sg [(20, true)] 27 (.bin .leq (t 23) (t 26)),
  s 28 (.pick (t 20) (t 27) (c (.bool false))),
  s 2 (.mv (t 28))])
 .ret)), none, [2], [true]⟩
def i84 : Comp := ⟨(.seq (.ops [s 2 (.mv (c (.lst 4 true [])))])
 (.seq (.seq (.ops [s 3 (.mv (t 0)),
  k 4 65 [(t 3)] .sc,
  s 5 (.not (t 4))])
 (.cond (t 5) (.seq (.ops [s 6 (.bsl 4 []),
  s 2 (.mv (t 6))])
 .ret) .skip))
 (.seq (.ops [s 7 (.mv (t 0)),
  k 8 81 [(t 7)] .lin,
  s 2 (.mv (t 8))])
 .ret))), none, [2], [false]⟩
def i85 : Comp := ⟨(.seq (.ops [s 2 (.alc [(i 0), (i 0), (i 0), (i 0)]),
  s 3 (.mv (c (.bool false)))])
 (.seq (.seq (.ops [s 7 (.mv (t 0)),
  s 8 (.len false (t 7)),
  s 9 (.bin .eql (t 8) (c (i 0)))])
 (.cond (t 9) (.seq (.ops [s 10 (.bld [(i 0), (i 0), (i 0), (i 0)] []),
  s 2 (.stB 2 0 4 (t 10) false),
  s 3 (.mv (c (.bool false)))])
 .ret) .skip))
 (.seq (.ops [s 11 (.mv (t 0)),
  s 12 (.idx (t 11) (c (i 0)) 2),
  s 13 (.ldE 11 12 0 2 true true 2),
  s 14 (.mv (t 0)),
  s 15 (.idx (t 14) (c (i 0)) 2),
  s 16 (.ldE 14 15 0 2 true true 2),
  s 17 (.bld [(i 0), (i 0), (i 0), (i 0)] [(0, 2, (t 13)), (2, 2, (t 16))]),
  s 4 (.alc [(i 0), (i 0), (i 0), (i 0)]),
  s 4 (.stB 4 0 4 (t 17) false)])
 (.seq (.seq (.ops [s 18 (.mv (t 0)),
  s 19 (.len false (t 18)),
  s 20 (.mv (c (i 0)))])
 (.block 0 (.loop (.seq (.ops [s 21 (.bin .lss (t 20) (t 19))])
 (.seq (.cond (t 21) .skip (.exit 0))
 (.seq (.block 1 (.seq (.ops [s 22 (.idx (t 18) (t 20) 2),
  s 23 (.ldE 18 22 0 2 true true 2),
  s 6 (.alc [(i 0), (i 0)]),
  s 6 (.stB 6 0 2 (t 23) false)])
 (.seq (.seq (.ops [s 24 (.ldB 6 0 2 true true),
  k 25 63 [(t 24)] .sc,
  s 26 (.not (t 25))])
 (.cond (t 26) (.seq (.ops [s 27 (.bld [(i 0), (i 0), (i 0), (i 0)] []),
  s 2 (.stB 2 0 4 (t 27) false),
  s 3 (.mv (c (.bool false)))])
 .ret) .skip))
 (.ops [s 28 (.mv (c (i 0))),
  s 29 (.mv (t 28)),
  s 30 (.ldB 4 0 1 false true),
  s 31 (.mv (c (i 0))),
  s 32 (.ldB 6 0 1 false true),
  s 33 (.mn (t 30) (t 32)),
  s 34 (.mv (c (i 0))),
  s 35 (.mv (t 34)),
  s 36 (.ldB 4 1 1 false true),
  s 37 (.mv (c (i 0))),
  s 38 (.ldB 6 1 1 false true),
  s 39 (.mn (t 36) (t 38)),
  s 40 (.bld [(i 0), (i 0)] [(0, 1, (t 33)), (1, 1, (t 39))]),
  s 41 (.mv (c (i 0))),
  s 42 (.mv (t 41)),
  s 43 (.ldB 4 2 1 false true),
  s 44 (.mv (c (i 0))),
  s 45 (.ldB 6 0 1 false true),
  s 46 (.mx (t 43) (t 45)),
  s 47 (.mv (c (i 0))),
  s 48 (.mv (t 47)),
  s 49 (.ldB 4 3 1 false true),
  s 50 (.mv (c (i 0))),
  s 51 (.ldB 6 1 1 false true),
  s 52 (.mx (t 49) (t 51)),
  s 53 (.bld [(i 0), (i 0)] [(0, 1, (t 46)), (1, 1, (t 52))]),
  s 54 (.mv (c (i 0))),
  s 4 (.stB 4 0 2 (t 40) false),
  s 55 (.mv (c (i 0))),
  s 4 (.stB 4 2 2 (t 53) false)]))))
 (.ops [s 56 (.bin .add (t 20) (c (i 1))),
  s 20 (.mv (t 56))])))))))
 (.seq (.ops [s 57 (.ldB 4 0 4 true true),
  s 2 (.stB 2 0 4 (t 57) false),
  s 3 (.mv (c (.bool true)))])
 .ret))))), (some ⟨2, 65, 4, true⟩), [3], [false]⟩
def i86 : Comp := ⟨(.seq (.ops [s 2 (.box 4 (t 0)),
  s 3 (.box 4 (t 1)),
  s 4 (.mv (c (.bool false)))])
 (.seq (.ops [s 8 (.ldB 2 0 4 true true),
  s 9 (.ldB 3 0 4 true true),
  k 10 98 [(t 8), (t 9)] .sc,
  s 7 (.mv (t 10)),
  s 11 (.ext 7 0 true),
  s 12 (.ext 7 1 true),
  s 5 (.mv (t 11)),
  s 6 (.mv (t 12))])
 (.seq (.ops [s 13 (.ldB 2 0 4 true true),
  k 14 83 [(t 13)] .sc,
  s 15 (.mv (t 14)),
  sg [(15, true)] 16 (.ldB 3 0 4 true true),
  kg [(15, true)] 17 83 [(t 16)] .sc,
  s 18 (.pick (t 15) (t 17) (c (.bool false))),
  s 19 (.mv (t 18)),
  sg [(19, true)] 20 (.mv (t 5)),
  sg [(19, true)] 21 (.bin .geq (t 20) (c (i 0))),
  s 22 (.pick (t 19) (t 21) (c (.bool false))),
  s 23 (.mv (t 22)),
  sg [(23, true)] 24 (.mv (t 6)),
  sg [(23, true)] 25 (.bin .geq (t 24) (c (i 0))),
  s 26 (.pick (t 23) (t 25) (c (.bool false))),
  s 4 (.mv (t 26))])
 .ret))), none, [4], [true, true]⟩
def i87 : Comp := ⟨(.seq (.ops [s 3 (.box 2 (t 0)),
  s 4 (.box 2 (t 1)),
  s 5 (.box 2 (t 2)),
  s 6 (.mv (c (i 0)))])
 (.seq (.seq (.ops [s 7 (.ldB 3 0 2 true true),
  k 8 63 [(t 7)] .sc,
  s 9 (.not (t 8)),
  s 10 (.mv (t 9)),
  sg [(10, false)] 11 (.ldB 4 0 2 true true),
  kg [(10, false)] 12 63 [(t 11)] .sc,
  sg [(10, false)] 13 (.not (t 12)),
  s 14 (.pick (t 10) (c (.bool true)) (t 13)),
  s 15 (.mv (t 14)),
  sg [(15, false)] 16 (.ldB 5 0 2 true true),
  kg [(15, false)] 17 63 [(t 16)] .sc,
  sg [(15, false)] 18 (.not (t 17)),
  s 19 (.pick (t 15) (c (.bool true)) (t 18))])
 (.cond (t 19) (.seq (.ops [s 6 (.mv (c (i 0)))])
 .ret) .skip))
 (.seq (.ops [s 20 (.ldB 3 0 2 true true),
  s 21 (.ldB 4 0 2 true true),
  s 22 (.ldB 5 0 2 true true),
  k 23 100 [(t 20), (t 21), (t 22)] .sc,
  k 24 99 [(t 23), (c (i 0))] .sc,
  s 6 (.mv (t 24))])
 .ret))), none, [6], [true, true, true]⟩
def i92 : Comp := ⟨(.seq (.ops [s 4 (.mv (c (i 0)))])
 (.seq (.seq (.ops [s 5 (.mv (t 1)),
  s 6 (.mv (t 0)),
  s 7 (.bin .gtr (t 5) (t 6))])
 (.cond (t 7) (.seq (.ops [s 8 (.mv (t 1)),
  s 4 (.mv (t 8))])
 .ret) .skip))
 (.seq (.ops [s 9 (.mv (t 0)),
  s 4 (.mv (t 9))])
 .ret))), none, [4], [true, true]⟩
def i93 : Comp := ⟨(.seq (.ops [s 2 (.box 4 (t 0)),
  s 3 (.box 4 (t 1)),
  s 4 (.mv (c (i 0)))])
 (.seq (.ops [s 10 (.bsl 2 []),
  s 5 (.mv (t 10))])
 (.seq (.ops [s 11 (.mv (c (i 0))),
  s 12 (.ldB 2 0 2 true true),
  s 13 (.mv (c (i 0))),
  s 14 (.ldB 2 2 2 true true),
  s 15 (.mv (c (i 0))),
  s 16 (.ldB 3 0 2 true true),
  s 17 (.mv (c (i 0))),
  s 18 (.ldB 3 2 2 true true),
  s 19 (.bsl 2 [(t 12), (t 14), (t 16), (t 18)]),
  s 6 (.mv (t 19))])
 (.seq (.seq (.ops [s 7 (.mv (c (i 0)))])
 (.block 0 (.loop (.seq (.seq (.ops [s 20 (.mv (t 7)),
  s 21 (.bin .lss (t 20) (c (i 4)))])
 (.cond (t 21) .skip (.exit 0)))
 (.seq (.block 1 (.seq (.ops [s 24 (.mv (t 7)),
  s 25 (.bin .lss (t 24) (c (i 2))),
  s 26 (.mv (t 25)),
  sg [(26, true)] 27 (.ldB 3 0 4 true true),
  sg [(26, true)] 28 (.mv (t 6)),
  sg [(26, true)] 29 (.mv (t 7)),
  sg [(26, true)] 30 (.idx (t 28) (t 29) 2),
  sg [(26, true)] 31 (.ldE 28 30 0 2 true true 2),
  kg [(26, true)] 32 106 [(t 27), (t 31)] .sc,
  s 33 (.pick (t 26) (t 32) (c (.bool false))),
  s 34 (.mv (t 33)),
  sg [(34, false)] 35 (.mv (t 7)),
  sg [(34, false)] 36 (.bin .geq (t 35) (c (i 2))),
  sg [(34, false)] 37 (.mv (t 36)),
  sg [(37, true), (34, false)] 38 (.ldB 2 0 4 true true),
  sg [(37, true), (34, false)] 39 (.mv (t 6)),
  sg [(37, true), (34, false)] 40 (.mv (t 7)),
  sg [(37, true), (34, false)] 41 (.idx (t 39) (t 40) 2),
  sg [(37, true), (34, false)] 42 (.ldE 39 41 0 2 true true 2),
  kg [(37, true), (34, false)] 43 106 [(t 38), (t 42)] .sc,
  sg [(34, false)] 44 (.pick (t 37) (t 43) (c (.bool false))),
  s 45 (.pick (t 34) (c (.bool true)) (t 44)),
  s 8 (.mv (t 45))])
 (.seq (.seq (.ops [s 9 (.mv (c (i 0)))])
 (.block 2 (.loop (.seq (.seq (.ops [s 46 (.mv (t 9)),
  s 47 (.mv (t 5)),
  s 48 (.len false (t 47)),
  s 49 (.bin .lss (t 46) (t 48))])
 (.cond (t 49) .skip (.exit 2)))
 (.seq (.block 3 (.ops [s 52 (.mv (t 8)),
  s 53 (.mv (t 52)),
  sg [(53, true)] 54 (.mv (t 5)),
  sg [(53, true)] 55 (.mv (t 9)),
  sg [(53, true)] 56 (.idx (t 54) (t 55) 2),
  sg [(53, true)] 57 (.ldE 54 56 0 2 true true 2),
  sg [(53, true)] 58 (.mv (t 6)),
  sg [(53, true)] 59 (.mv (t 7)),
  sg [(53, true)] 60 (.idx (t 58) (t 59) 2),
  sg [(53, true)] 61 (.ldE 58 60 0 2 true true 2),
  sg [(53, true)] 62 (.eqa true [0, 0] (t 57) (t 61)),
  s 63 (.pick (t 53) (t 62) (c (.bool false))),
  s 8 (.mv (t 63))]))
 (.ops [s 50 (.mv (t 9)),
  s 51 (.bin .add (t 50) (c (i 1))),
  s 9 (.mv (t 51))]))))))
 (.seq (.ops [s 64 (.mv (t 8))])
 (.cond (t 64) (.ops [s 65 (.mv (t 5)),
  s 66 (.mv (t 6)),
  s 67 (.mv (t 7)),
  s 68 (.idx (t 66) (t 67) 2),
  s 69 (.ldE 66 68 0 2 true true 2),
  s 70 (.bsl 2 [(t 69)]),
  s 71 (.app (t 65) (t 70) 2 16),
  s 5 (.mv (t 71))]) .skip)))))
 (.ops [s 22 (.mv (t 7)),
  s 23 (.bin .add (t 22) (c (i 1))),
  s 7 (.mv (t 23))]))))))
 (.seq (.ops [s 72 (.mv (t 5)),
  s 73 (.len false (t 72)),
  s 4 (.mv (t 73))])
 .ret))))), none, [4], [true, true]⟩
def i94 : Comp := ⟨(.seq (.ops [s 3 (.box 2 (t 0)),
  s 4 (.box 2 (t 1)),
  s 5 (.box 2 (t 2)),
  s 6 (.mv (c (i 0)))])
 (.seq (.ops [s 7 (.mv (c (i 0))),
  s 8 (.ldB 4 0 1 false true),
  s 9 (.mv (c (i 0))),
  s 10 (.ldB 3 0 1 false true),
  s 11 (.bin .sub (t 8) (t 10)),
  s 12 (.mv (c (i 0))),
  s 13 (.ldB 5 1 1 false true),
  s 14 (.mv (c (i 0))),
  s 15 (.ldB 3 1 1 false true),
  s 16 (.bin .sub (t 13) (t 15)),
  s 17 (.bin .mul (t 11) (t 16)),
  s 18 (.mv (c (i 0))),
  s 19 (.ldB 4 1 1 false true),
  s 20 (.mv (c (i 0))),
  s 21 (.ldB 3 1 1 false true),
  s 22 (.bin .sub (t 19) (t 21)),
  s 23 (.mv (c (i 0))),
  s 24 (.ldB 5 0 1 false true),
  s 25 (.mv (c (i 0))),
  s 26 (.ldB 3 0 1 false true),
  s 27 (.bin .sub (t 24) (t 26)),
  s 28 (.bin .mul (t 22) (t 27)),
  s 29 (.bin .sub (t 17) (t 28)),
  s 6 (.mv (t 29))])
 .ret)), none, [6], [true, true, true]⟩
def i95 : Comp := ⟨(.seq (.ops [s 1 (.box 4 (t 0)),
  s 2 (.alc [(i 0), (i 0), (i 0), (i 0)])])
 (.seq (.seq (.ops [s 3 (.mv (c (i 0))),
  s 4 (.ldB 1 2 2 true true),
  s 5 (.mv (c (i 0))),
  s 6 (.ldB 1 0 2 true true),
  k 7 96 [(t 4), (t 6)] .sc])
 (.cond (t 7) (.seq (.ops [s 8 (.ldB 1 0 4 true true),
  k 9 107 [(t 8)] .sc,
  s 2 (.stB 2 0 4 (t 9) false)])
 .ret) .skip))
 (.seq (.ops [s 10 (.ldB 1 0 4 true true),
  s 2 (.stB 2 0 4 (t 10) false)])
 .ret))), (some ⟨2, 84, 4, true⟩), [], [true]⟩
def i96 : Comp := ⟨(.seq (.ops [s 2 (.box 2 (t 0)),
  s 3 (.box 2 (t 1)),
  s 4 (.mv (c (.bool false)))])
 (.seq (.ops [s 5 (.mv (c (i 0))),
  s 6 (.ldB 2 1 1 false true),
  s 7 (.mv (c (i 0))),
  s 8 (.ldB 3 1 1 false true),
  s 9 (.bin .lss (t 6) (t 8)),
  s 10 (.mv (t 9)),
  sg [(10, false)] 11 (.mv (c (i 0))),
  sg [(10, false)] 12 (.ldB 2 1 1 false true),
  sg [(10, false)] 13 (.mv (c (i 0))),
  sg [(10, false)] 14 (.ldB 3 1 1 false true),
  sg [(10, false)] 15 (.bin .eql (t 12) (t 14)),
  sg [(10, false)] 16 (.mv (t 15)),
  sg [(16, true), (10, false)] 17 (.mv (c (i 0))),
  sg [(16, true), (10, false)] 18 (.ldB 2 0 1 false true),
  sg [(16, true), (10, false)] 19 (.mv (c (i 0))),
  sg [(16, true), (10, false)] 20 (.ldB 3 0 1 false true),
  sg [(16, true), (10, false)] 21 (.bin .lss (t 18) (t 20)),
  sg [(10, false)] 22 (.pick (t 16) (t 21) (c (.bool false))),
  s 23 (.pick (t 10) (c (.bool true)) (t 22)),
  s 4 (.mv (t 23))])
 .ret)), none, [4], [true, true]⟩
def i97 : Comp := ⟨(.seq (.ops [s 2 (.box 4 (t 0)),
  s 3 (.box 2 (t 1)),
  s 4 (.mv (c (.bool false)))])
 (.seq (.ops [s 5 (.ldB 2 0 4 true true),
  k 6 82 [(t 5)] .sc,
  s 7 (.mv (t 6)),
  sg [(7, true)] 8 (.ldB 3 0 2 true true),
  kg [(7, true)] 9 63 [(t 8)] .sc,
  s 10 (.pick (t 7) (t 9) (c (.bool false))),
  s 11 (.mv (t 10)),
  sg [(11, true)] 12 (.mv (c (i 0))),
  sg [(11, true)] 13 (.ldB 2 0 2 true true),
  sg [(11, true)] 14 (.mv (c (i 0))),
  sg [(11, true)] 15 (.ldB 2 2 2 true true),
  sg [(11, true)] 16 (.ldB 3 0 2 true true),
  kg [(11, true)] 17 87 [(t 13), (t 15), (t 16)] .sc,
  sg [(11, true)] 18 (.bin .eql (t 17) (c (i 0))),
  s 19 (.pick (t 11) (t 18) (c (.bool false))),
  s 20 (.mv (t 19)),
  sg [(20, true)] 21 (.mv (c (i 0))),
  sg [(20, true)] 22 (.ldB 3 0 1 false true),
  sg [(20, true)] 23 (.mv (c (i 0))),
  sg [(20, true)] 24 (.mv (t 23)),
  sg [(20, true)] 25 (.ldB 2 0 1 false true),
  sg [(20, true)] 26 (.mv (c (i 0))),
  sg [(20, true)] 27 (.mv (t 26)),
  sg [(20, true)] 28 (.ldB 2 2 1 false true),
  sg [(20, true)] 29 (.mn (t 25) (t 28)),
  sg [(20, true)] 30 (.mv (c (i 0))),
  sg [(20, true)] 31 (.mv (t 30)),
  sg [(20, true)] 32 (.ldB 2 0 1 false true),
  sg [(20, true)] 33 (.mv (c (i 0))),
  sg [(20, true)] 34 (.mv (t 33)),
  sg [(20, true)] 35 (.ldB 2 2 1 false true),
  sg [(20, true)] 36 (.mx (t 32) (t 35)),
  kg [(20, true)] 37 25 [(t 22), (t 29), (t 36)] .sc,
  s 38 (.pick (t 20) (t 37) (c (.bool false))),
  s 39 (.mv (t 38)),
  sg [(39, true)] 40 (.mv (c (i 0))),
  sg [(39, true)] 41 (.ldB 3 1 1 false true),
  sg [(39, true)] 42 (.mv (c (i 0))),
  sg [(39, true)] 43 (.mv (t 42)),
  sg [(39, true)] 44 (.ldB 2 1 1 false true),
  sg [(39, true)] 45 (.mv (c (i 0))),
  sg [(39, true)] 46 (.mv (t 45)),
  sg [(39, true)] 47 (.ldB 2 3 1 false true),
  sg [(39, true)] 48 (.mn (t 44) (t 47)),
  sg [(39, true)] 49 (.mv (c (i 0))),
  sg [(39, true)] 50 (.mv (t 49)),
  sg [(39, true)] 51 (.ldB 2 1 1 false true),
  sg [(39, true)] 52 (.mv (c (i 0))),
  sg [(39, true)] 53 (.mv (t 52)),
  sg [(39, true)] 54 (.ldB 2 3 1 false true),
  sg [(39, true)] 55 (.mx (t 51) (t 54)),
  kg [(39, true)] 56 25 [(t 41), (t 48), (t 55)] .sc,
  s 57 (.pick (t 39) (t 56) (c (.bool false))),
  s 4 (.mv (t 57))])
 .ret)), none, [4], [true, true]⟩
def i98 : Comp := ⟨(.seq (.ops [s 2 (.box 4 (t 0)),
  s 3 (.box 4 (t 1)),
  s 4 (.mv (c (i 0))),
  s 5 (.mv (c (i 0)))])
 (.seq (.ops [s 6 (.mv (c (i 0))),
  s 7 (.mv (t 6)),
  s 8 (.ldB 2 2 1 false true),
  s 9 (.mv (c (i 0))),
  s 10 (.mv (t 9)),
  s 11 (.ldB 3 2 1 false true),
  s 12 (.mn (t 8) (t 11)),
  s 13 (.mv (c (i 0))),
  s 14 (.mv (t 13)),
  s 15 (.ldB 2 0 1 false true),
  s 16 (.mv (c (i 0))),
  s 17 (.mv (t 16)),
  s 18 (.ldB 3 0 1 false true),
  s 19 (.mx (t 15) (t 18)),
  s 20 (.bin .sub (t 12) (t 19)),
  s 21 (.mv (c (i 0))),
  s 22 (.mv (t 21)),
  s 23 (.ldB 2 3 1 false true),
  s 24 (.mv (c (i 0))),
  s 25 (.mv (t 24)),
  s 26 (.ldB 3 3 1 false true),
  s 27 (.mn (t 23) (t 26)),
  s 28 (.mv (c (i 0))),
  s 29 (.mv (t 28)),
  s 30 (.ldB 2 1 1 false true),
  s 31 (.mv (c (i 0))),
  s 32 (.mv (t 31)),
  s 33 (.ldB 3 1 1 false true),
  s 34 (.mx (t 30) (t 33)),
  s 35 (.bin .sub (t 27) (t 34)),
  s 4 (.mv (t 20)),
  s 5 (.mv (t 35))])
 .ret)), none, [4, 5], [true, true]⟩
def i99 : Comp := ⟨(.seq (.ops [s 4 (.mv (c (i 0)))])
 (.seq (.ops [s 7 (.mv (t 0)),
  k 8 108 [(t 7)] .sc,
  s 5 (.mv (t 8))])
 (.seq (.ops [s 9 (.mv (t 1)),
  k 10 108 [(t 9)] .sc,
  s 6 (.mv (t 10))])
 (.seq (.seq (.ops [s 11 (.mv (t 5))])
 (.cond (t 11) (.seq (.seq (.ops [s 12 (.mv (t 6))])
 (.cond (t 12) (.seq (.ops [s 4 (.mv (c (i 0)))])
 .ret) .skip))
 (.seq (.ops [s 4 (.mv (c (i (-1))))])
 .ret)) .skip))
 (.seq (.seq (.ops [s 13 (.mv (t 6))])
 (.cond (t 13) (.seq (.ops [s 4 (.mv (c (i 1)))])
 .ret) .skip))
 (.seq (.seq (.ops [s 14 (.mv (t 0)),
  s 15 (.mv (t 1)),
  s 16 (.bin .lss (t 14) (t 15))])
 (.cond (t 16) (.seq (.ops [s 4 (.mv (c (i (-1))))])
 .ret) .skip))
 (.seq (.seq (.ops [s 17 (.mv (t 0)),
  s 18 (.mv (t 1)),
  s 19 (.bin .gtr (t 17) (t 18))])
 (.cond (t 19) (.seq (.ops [s 4 (.mv (c (i 1)))])
 .ret) .skip))
 (.seq (.ops [s 4 (.mv (c (i 0)))])
 .ret)))))))), none, [4], [true, true]⟩
def i100 : Comp := ⟨(.seq (.ops [s 3 (.box 2 (t 0)),
  s 4 (.box 2 (t 1)),
  s 5 (.box 2 (t 2)),
  s 6 (.mv (c (i 0)))])
 (.seq (.ops [s 7 (.mv (c (i 0))),
  s 8 (.ldB 4 0 1 false true),
  s 9 (.mv (c (i 0))),
  s 10 (.ldB 3 0 1 false true),
  s 11 (.bin .sub (t 8) (t 10)),
  s 12 (.mv (c (i 0))),
  s 13 (.ldB 5 1 1 false true),
  s 14 (.mv (c (i 0))),
  s 15 (.ldB 3 1 1 false true),
  s 16 (.bin .sub (t 13) (t 15)),
  s 17 (.bin .mul (t 11) (t 16)),
  s 18 (.mv (c (i 0))),
  s 19 (.ldB 4 1 1 false true),
  s 20 (.mv (c (i 0))),
  s 21 (.ldB 3 1 1 false true),
  s 22 (.bin .sub (t 19) (t 21)),
  s 23 (.mv (c (i 0))),
  s 24 (.ldB 5 0 1 false true),
  s 25 (.mv (c (i 0))),
  s 26 (.ldB 3 0 1 false true),
  s 27 (.bin .sub (t 24) (t 26)),
  s 28 (.bin .mul (t 22) (t 27)),
  s 29 (.bin .sub (t 17) (t 28)),
  s 6 (.mv (t 29))])
 .ret)), none, [6], [true, true, true]⟩
def i106 : Comp := ⟨(.seq (.ops [s 2 (.box 4 (t 0)),
  s 3 (.box 2 (t 1)),
  s 4 (.mv (c (.bool false)))])
 (.seq (.ops [s 5 (.ldB 2 0 4 true true),
  k 6 73 [(t 5)] .sc,
  s 7 (.mv (t 6)),
  sg [(7, true)] 8 (.ldB 3 0 2 true true),
  kg [(7, true)] 9 54 [(t 8)] .sc,
  s 10 (.pick (t 7) (t 9) (c (.bool false))),
  s 11 (.mv (t 10)),
  sg [(11, true)] 12 (.mv (c (i 0))),
  sg [(11, true)] 13 (.ldB 2 0 2 true true),
  sg [(11, true)] 14 (.mv (c (i 0))),
  sg [(11, true)] 15 (.ldB 2 2 2 true true),
  sg [(11, true)] 16 (.ldB 3 0 2 true true),
  kg [(11, true)] 17 94 [(t 13), (t 15), (t 16)] .sc,
  sg [(11, true)] 18 (.bin .eql (t 17) (c (i 0))),
  s 19 (.pick (t 11) (t 18) (c (.bool false))),
  s 20 (.mv (t 19)),
  sg [(20, true)] 21 (.mv (c (i 0))),
  sg [(20, true)] 22 (.ldB 3 0 1 false true),
  sg [(20, true)] 23 (.mv (c (i 0))),
  sg [(20, true)] 24 (.mv (t 23)),
  sg [(20, true)] 25 (.ldB 2 0 1 false true),
  sg [(20, true)] 26 (.mv (c (i 0))),
  sg [(20, true)] 27 (.mv (t 26)),
  sg [(20, true)] 28 (.ldB 2 2 1 false true),
  kg [(20, true)] 29 59 [(t 25), (t 28)] .sc,
  sg [(20, true)] 30 (.mv (c (i 0))),
  sg [(20, true)] 31 (.mv (t 30)),
  sg [(20, true)] 32 (.ldB 2 0 1 false true),
  sg [(20, true)] 33 (.mv (c (i 0))),
  sg [(20, true)] 34 (.mv (t 33)),
  sg [(20, true)] 35 (.ldB 2 2 1 false true),
  kg [(20, true)] 36 92 [(t 32), (t 35)] .sc,
  kg [(20, true)] 37 44 [(t 22), (t 29), (t 36)] .sc,
  s 38 (.pick (t 20) (t 37) (c (.bool false))),
  s 39 (.mv (t 38)),
  sg [(39, true)] 40 (.mv (c (i 0))),
  sg [(39, true)] 41 (.ldB 3 1 1 false true),
  sg [(39, true)] 42 (.mv (c (i 0))),
  sg [(39, true)] 43 (.mv (t 42)),
  sg [(39, true)] 44 (.ldB 2 1 1 false true),
  sg [(39, true)] 45 (.mv (c (i 0))),
  sg [(39, true)] 46 (.mv (t 45)),
  sg [(39, true)] 47 (.ldB 2 3 1 false true),
  kg [(39, true)] 48 59 [(t 44), (t 47)] .sc,
  sg [(39, true)] 49 (.mv (c (i 0))),
  sg [(39, true)] 50 (.mv (t 49)),
  sg [(39, true)] 51 (.ldB 2 1 1 false true),
  sg [(39, true)] 52 (.mv (c (i 0))),
  sg [(39, true)] 53 (.mv (t 52)),
  sg [(39, true)] 54 (.ldB 2 3 1 false true),
  kg [(39, true)] 55 92 [(t 51), (t 54)] .sc,
  kg [(39, true)] 56 44 [(t 41), (t 48), (t 55)] .sc,
  s 57 (.pick (t 39) (t 56) (c (.bool false))),
  s 4 (.mv (t 57))])
 .ret)), none, [4], [true, true]⟩
def i107 : Comp := ⟨(.seq (.ops [s 1 (.box 4 (t 0)),
  s 2 (.alc [(i 0), (i 0), (i 0), (i 0)])])
 (.seq (.ops [s 3 (.mv (c (i 0))),
  s 4 (.ldB 1 2 2 true true),
  s 5 (.mv (c (i 0))),
  s 6 (.ldB 1 0 2 true true),
  s 7 (.bld [(i 0), (i 0), (i 0), (i 0)] [(0, 2, (t 4)), (2, 2, (t 6))]),
  s 2 (.stB 2 0 4 (t 7) false)])
 .ret)), (some ⟨2, 84, 4, true⟩), [], [true]⟩
def i108 : Comp := ⟨(.seq (.ops [s 2 (.mv (c (.bool false)))])
 (.seq (.ops [s 3 (.mv (t 0)),
  s 4 (.mv (t 0)),
  s 5 (.bin .neq (t 3) (t 4)),
  s 2 (.mv (t 5))])
 .ret)), none, [2], [true]⟩
def X : Cx := { tab := tbs, sig := sgs, wf := wfs, xf := xfs, rf := rfs, tl := tls }
end Go.Eng
namespace Go.Eng
open Go Go.Proofs
theorem hX : TabOK Tryd.prog X := TabOK.of (by kernel_rfl)
theorem c4 : compP Tryd.prog X 4 = some i4 := by kernel_rfl
theorem c14 : compP Tryd.prog X 14 = some i14 := by kernel_rfl
theorem c15 : compP Tryd.prog X 15 = some i15 := by kernel_rfl
theorem c16 : compP Tryd.prog X 16 = some i16 := by kernel_rfl
theorem c17 : compP Tryd.prog X 17 = some i17 := by kernel_rfl
theorem c18 : compP Tryd.prog X 18 = some i18 := by kernel_rfl
theorem c19 : compP Tryd.prog X 19 = some i19 := by kernel_rfl
theorem c21 : compM Tryd.prog X 21 = some i21 := by kernel_rfl
theorem c22 : compP Tryd.prog X 22 = some i22 := by kernel_rfl
theorem c25 : compP Tryd.prog X 25 = some i25 := by kernel_rfl
theorem c27 : compP Tryd.prog X 27 = some i27 := by kernel_rfl
theorem c29 : compP Tryd.prog X 29 = some i29 := by kernel_rfl
theorem c30 : compP Tryd.prog X 30 = some i30 := by kernel_rfl
theorem c31 : compP Tryd.prog X 31 = some i31 := by kernel_rfl
theorem c32 : compP Tryd.prog X 32 = some i32 := by kernel_rfl
theorem c33 : compP Tryd.prog X 33 = some i33 := by kernel_rfl
theorem c34 : compP Tryd.prog X 34 = some i34 := by kernel_rfl
theorem c35 : compP Tryd.prog X 35 = some i35 := by kernel_rfl
theorem c36 : compM Tryd.prog X 36 = some i36 := by kernel_rfl
theorem c37 : compP Tryd.prog X 37 = some i37 := by kernel_rfl
theorem c38 : compP Tryd.prog X 38 = some i38 := by kernel_rfl
theorem c40 : compP Tryd.prog X 40 = some i40 := by kernel_rfl
theorem c41 : compP Tryd.prog X 41 = some i41 := by kernel_rfl
theorem c42 : compP Tryd.prog X 42 = some i42 := by kernel_rfl
theorem c43 : compP Tryd.prog X 43 = some i43 := by kernel_rfl
theorem c44 : compP Tryd.prog X 44 = some i44 := by kernel_rfl
theorem c45 : compP Tryd.prog X 45 = some i45 := by kernel_rfl
theorem c46 : compP Tryd.prog X 46 = some i46 := by kernel_rfl
theorem c47 : compP Tryd.prog X 47 = some i47 := by kernel_rfl
theorem c48 : compP Tryd.prog X 48 = some i48 := by kernel_rfl
theorem c49 : compP Tryd.prog X 49 = some i49 := by kernel_rfl
theorem c50 : compP Tryd.prog X 50 = some i50 := by kernel_rfl
theorem c51 : compP Tryd.prog X 51 = some i51 := by kernel_rfl
theorem c53 : compP Tryd.prog X 53 = some i53 := by kernel_rfl
theorem c54 : compP Tryd.prog X 54 = some i54 := by kernel_rfl
theorem c55 : compP Tryd.prog X 55 = some i55 := by kernel_rfl
theorem c56 : compP Tryd.prog X 56 = some i56 := by kernel_rfl
theorem c57 : compP Tryd.prog X 57 = some i57 := by kernel_rfl
theorem c58 : compP Tryd.prog X 58 = some i58 := by kernel_rfl
theorem c59 : compP Tryd.prog X 59 = some i59 := by kernel_rfl
theorem c60 : compP Tryd.prog X 60 = some i60 := by kernel_rfl
theorem c61 : compP Tryd.prog X 61 = some i61 := by kernel_rfl
theorem c62 : compP Tryd.prog X 62 = some i62 := by kernel_rfl
theorem c63 : compP Tryd.prog X 63 = some i63 := by kernel_rfl
theorem c64 : compP Tryd.prog X 64 = some i64 := by kernel_rfl
theorem c65 : compP Tryd.prog X 65 = some i65 := by kernel_rfl
theorem c66 : compP Tryd.prog X 66 = some i66 := by kernel_rfl
theorem c67 : compP Tryd.prog X 67 = some i67 := by kernel_rfl
theorem c68 : compP Tryd.prog X 68 = some i68 := by kernel_rfl
theorem c70 : compP Tryd.prog X 70 = some i70 := by kernel_rfl
theorem c71 : compP Tryd.prog X 71 = some i71 := by kernel_rfl
theorem c72 : compP Tryd.prog X 72 = some i72 := by kernel_rfl
theorem c73 : compP Tryd.prog X 73 = some i73 := by kernel_rfl
theorem c74 : compP Tryd.prog X 74 = some i74 := by kernel_rfl
theorem c75 : compP Tryd.prog X 75 = some i75 := by kernel_rfl
theorem c76 : compP Tryd.prog X 76 = some i76 := by kernel_rfl
theorem c77 : compP Tryd.prog X 77 = some i77 := by kernel_rfl
theorem c78 : compP Tryd.prog X 78 = some i78 := by kernel_rfl
theorem c79 : compP Tryd.prog X 79 = some i79 := by kernel_rfl
theorem c80 : compP Tryd.prog X 80 = some i80 := by kernel_rfl
theorem c81 : compP Tryd.prog X 81 = some i81 := by kernel_rfl
theorem c82 : compP Tryd.prog X 82 = some i82 := by kernel_rfl
theorem c83 : compP Tryd.prog X 83 = some i83 := by kernel_rfl
theorem c84 : compP Tryd.prog X 84 = some i84 := by kernel_rfl
theorem c85 : compP Tryd.prog X 85 = some i85 := by kernel_rfl
theorem c86 : compP Tryd.prog X 86 = some i86 := by kernel_rfl
theorem c87 : compP Tryd.prog X 87 = some i87 := by kernel_rfl
theorem c92 : compP Tryd.prog X 92 = some i92 := by kernel_rfl
theorem c93 : compP Tryd.prog X 93 = some i93 := by kernel_rfl
theorem c94 : compP Tryd.prog X 94 = some i94 := by kernel_rfl
theorem c95 : compP Tryd.prog X 95 = some i95 := by kernel_rfl
theorem c96 : compP Tryd.prog X 96 = some i96 := by kernel_rfl
theorem c97 : compP Tryd.prog X 97 = some i97 := by kernel_rfl
theorem c98 : compP Tryd.prog X 98 = some i98 := by kernel_rfl
theorem c99 : compP Tryd.prog X 99 = some i99 := by kernel_rfl
theorem c100 : compP Tryd.prog X 100 = some i100 := by kernel_rfl
theorem c106 : compP Tryd.prog X 106 = some i106 := by kernel_rfl
theorem c107 : compP Tryd.prog X 107 = some i107 := by kernel_rfl
theorem c108 : compP Tryd.prog X 108 = some i108 := by kernel_rfl
end Go.Eng
