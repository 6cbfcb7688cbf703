/- A part of the proof of a law's statement: for every input the law returns true and leaves its arguments as they were. No condition beyond the statement's own. The laws' functions in that calculus, checked by the kernel against the program. -/
import Derived.Test.YtpbaggfjagfcgaaDoorProg
import Derived.Test.YtpbaggfjagfcgaaDoorXe2
set_option linter.unusedVariables false
set_option linter.unusedSimpArgs false
set_option autoImplicit true
set_option relaxedAutoImplicit true
namespace Go.Eng
open Go
def tbs : List (Option TI) := [some ⟨(.tup []), 1, 0, [.junk], false⟩,
  some ⟨.func, 1, 8, [.junk], false⟩,
  some ⟨(.int .i64), 1, 8, [(i 0)], false⟩,
  some ⟨(.int .i64), 1, 8, [(i 0)], false⟩,
  some ⟨.bool, 1, 1, [(.bool false)], false⟩,
  some ⟨(.int .u8), 1, 1, [(.int .u8 (0))], false⟩,
  some ⟨(.int .u8), 1, 1, [(.int .u8 (0))], false⟩,
  some ⟨(.struct [(0, 2), (1, 3), (2, 4), (3, 6)]), 4, 24, [(i 0), (i 0), (.bool false), (.int .u8 (0))], true⟩,
  some ⟨(.struct [(0, 2), (1, 3), (2, 4), (3, 6)]), 4, 24, [(i 0), (i 0), (.bool false), (.int .u8 (0))], true⟩,
  some ⟨.str, 1, 16, [(.str (bs []))], false⟩,
  some ⟨.str, 1, 16, [(.str (bs []))], false⟩,
  some ⟨.str, 1, 16, [(.str (bs []))], false⟩,
  some ⟨(.int .u64), 1, 8, [(.int .u64 (0))], false⟩,
  some ⟨(.struct [(0, 9), (1, 12)]), 2, 24, [(.str (bs [])), (.int .u64 (0))], false⟩,
  some ⟨(.struct [(0, 9), (1, 12)]), 2, 24, [(.str (bs [])), (.int .u64 (0))], false⟩,
  some ⟨(.ptr 71), 1, 8, [.junk], false⟩,
  some ⟨(.ptr 74), 1, 8, [.junk], false⟩,
  some ⟨(.ptr 83), 1, 8, [.junk], false⟩,
  some ⟨(.struct [(0, 17)]), 1, 8, [.junk], false⟩,
  some ⟨(.struct [(0, 17)]), 1, 8, [.junk], false⟩,
  some ⟨.other, 1, 16, [.junk], false⟩,
  some ⟨(.int .i32), 1, 4, [(.int .i32 (0))], false⟩,
  some ⟨.func, 1, 8, [.junk], false⟩,
  some ⟨.func, 1, 8, [.junk], false⟩,
  some ⟨.func, 1, 8, [.junk], false⟩,
  some ⟨(.tup [3, 3]), 1, 0, [.junk], false⟩,
  some ⟨.func, 1, 8, [.junk], false⟩,
  some ⟨.func, 1, 8, [.junk], false⟩,
  some ⟨(.struct [(0, 3), (1, 3)]), 2, 16, [(i 0), (i 0)], true⟩,
  some ⟨(.struct [(0, 3), (1, 3)]), 2, 16, [(i 0), (i 0)], true⟩,
  some ⟨.func, 1, 8, [.junk], false⟩,
  some ⟨(.struct [(0, 3), (1, 3)]), 2, 16, [(i 0), (i 0)], true⟩,
  some ⟨.func, 1, 8, [.junk], false⟩,
  some ⟨.func, 1, 8, [.junk], false⟩,
  some ⟨(.slice 5), 1, 24, [(.lst 1 true [])], false⟩,
  some ⟨.func, 1, 8, [.junk], false⟩,
  some ⟨.func, 1, 8, [.junk], false⟩,
  some ⟨.func, 1, 8, [.junk], false⟩,
  some ⟨(.slice 3), 1, 24, [(.lst 1 true [])], false⟩,
  some ⟨.func, 1, 8, [.junk], false⟩,
  some ⟨(.struct [(0, 31), (2, 31)]), 4, 32, [(i 0), (i 0), (i 0), (i 0)], true⟩,
  some ⟨(.struct [(0, 31), (2, 31)]), 4, 32, [(i 0), (i 0), (i 0), (i 0)], true⟩,
  some ⟨(.tup [41, 4]), 1, 0, [.junk], false⟩,
  some ⟨.func, 1, 8, [.junk], false⟩,
  some ⟨.func, 1, 8, [.junk], false⟩,
  some ⟨(.ptr 51), 1, 8, [.junk], false⟩,
  some ⟨.func, 1, 8, [.junk], false⟩,
  some ⟨.func, 1, 8, [.junk], false⟩,
  some ⟨.func, 1, 8, [.junk], false⟩,
  some ⟨.func, 1, 8, [.junk], false⟩,
  some ⟨(.struct [(0, 34), (1, 3), (2, 3)]), 3, 40, [(.lst 1 true []), (i 0), (i 0)], true⟩,
  some ⟨(.struct [(0, 34), (1, 3), (2, 3)]), 3, 40, [(.lst 1 true []), (i 0), (i 0)], true⟩,
  some ⟨.func, 1, 8, [.junk], false⟩,
  some ⟨.func, 1, 8, [.junk], false⟩,
  some ⟨(.int .u64), 1, 8, [(.int .u64 (0))], false⟩,
  some ⟨(.arr 24 5), 24, 24, [(.int .u8 (0)), (.int .u8 (0)), (.int .u8 (0)), (.int .u8 (0)), (.int .u8 (0)), (.int .u8 (0)), (.int .u8 (0)), (.int .u8 (0)), (.int .u8 (0)), (.int .u8 (0)), (.int .u8 (0)), (.int .u8 (0)), (.int .u8 (0)), (.int .u8 (0)), (.int .u8 (0)), (.int .u8 (0)), (.int .u8 (0)), (.int .u8 (0)), (.int .u8 (0)), (.int .u8 (0)), (.int .u8 (0)), (.int .u8 (0)), (.int .u8 (0)), (.int .u8 (0))], false⟩,
  some ⟨(.int .u64), 1, 8, [(.int .u64 (0))], false⟩,
  some ⟨.func, 1, 8, [.junk], false⟩,
  some ⟨.func, 1, 8, [.junk], false⟩,
  some ⟨(.tup [34, 9]), 1, 0, [.junk], false⟩,
  some ⟨.func, 1, 8, [.junk], false⟩,
  some ⟨.func, 1, 8, [.junk], false⟩,
  some ⟨(.arr 20 56), 20, 160, [(.int .u64 (0)), (.int .u64 (0)), (.int .u64 (0)), (.int .u64 (0)), (.int .u64 (0)), (.int .u64 (0)), (.int .u64 (0)), (.int .u64 (0)), (.int .u64 (0)), (.int .u64 (0)), (.int .u64 (0)), (.int .u64 (0)), (.int .u64 (0)), (.int .u64 (0)), (.int .u64 (0)), (.int .u64 (0)), (.int .u64 (0)), (.int .u64 (0)), (.int .u64 (0)), (.int .u64 (0))], false⟩,
  some ⟨(.int .u32), 1, 4, [(.int .u32 (0))], false⟩,
  some ⟨(.arr 65 5), 65, 65, [(.int .u8 (0)), (.int .u8 (0)), (.int .u8 (0)), (.int .u8 (0)), (.int .u8 (0)), (.int .u8 (0)), (.int .u8 (0)), (.int .u8 (0)), (.int .u8 (0)), (.int .u8 (0)), (.int .u8 (0)), (.int .u8 (0)), (.int .u8 (0)), (.int .u8 (0)), (.int .u8 (0)), (.int .u8 (0)), (.int .u8 (0)), (.int .u8 (0)), (.int .u8 (0)), (.int .u8 (0)), (.int .u8 (0)), (.int .u8 (0)), (.int .u8 (0)), (.int .u8 (0)), (.int .u8 (0)), (.int .u8 (0)), (.int .u8 (0)), (.int .u8 (0)), (.int .u8 (0)), (.int .u8 (0)), (.int .u8 (0)), (.int .u8 (0)), (.int .u8 (0)), (.int .u8 (0)), (.int .u8 (0)), (.int .u8 (0)), (.int .u8 (0)), (.int .u8 (0)), (.int .u8 (0)), (.int .u8 (0)), (.int .u8 (0)), (.int .u8 (0)), (.int .u8 (0)), (.int .u8 (0)), (.int .u8 (0)), (.int .u8 (0)), (.int .u8 (0)), (.int .u8 (0)), (.int .u8 (0)), (.int .u8 (0)), (.int .u8 (0)), (.int .u8 (0)), (.int .u8 (0)), (.int .u8 (0)), (.int .u8 (0)), (.int .u8 (0)), (.int .u8 (0)), (.int .u8 (0)), (.int .u8 (0)), (.int .u8 (0)), (.int .u8 (0)), (.int .u8 (0)), (.int .u8 (0)), (.int .u8 (0)), (.int .u8 (0))], false⟩,
  some ⟨.func, 1, 8, [.junk], false⟩,
  some ⟨.func, 1, 8, [.junk], false⟩,
  some ⟨(.arr 32 5), 32, 32, [(.int .u8 (0)), (.int .u8 (0)), (.int .u8 (0)), (.int .u8 (0)), (.int .u8 (0)), (.int .u8 (0)), (.int .u8 (0)), (.int .u8 (0)), (.int .u8 (0)), (.int .u8 (0)), (.int .u8 (0)), (.int .u8 (0)), (.int .u8 (0)), (.int .u8 (0)), (.int .u8 (0)), (.int .u8 (0)), (.int .u8 (0)), (.int .u8 (0)), (.int .u8 (0)), (.int .u8 (0)), (.int .u8 (0)), (.int .u8 (0)), (.int .u8 (0)), (.int .u8 (0)), (.int .u8 (0)), (.int .u8 (0)), (.int .u8 (0)), (.int .u8 (0)), (.int .u8 (0)), (.int .u8 (0)), (.int .u8 (0)), (.int .u8 (0))], false⟩,
  some ⟨(.arr 64 5), 64, 64, [(.int .u8 (0)), (.int .u8 (0)), (.int .u8 (0)), (.int .u8 (0)), (.int .u8 (0)), (.int .u8 (0)), (.int .u8 (0)), (.int .u8 (0)), (.int .u8 (0)), (.int .u8 (0)), (.int .u8 (0)), (.int .u8 (0)), (.int .u8 (0)), (.int .u8 (0)), (.int .u8 (0)), (.int .u8 (0)), (.int .u8 (0)), (.int .u8 (0)), (.int .u8 (0)), (.int .u8 (0)), (.int .u8 (0)), (.int .u8 (0)), (.int .u8 (0)), (.int .u8 (0)), (.int .u8 (0)), (.int .u8 (0)), (.int .u8 (0)), (.int .u8 (0)), (.int .u8 (0)), (.int .u8 (0)), (.int .u8 (0)), (.int .u8 (0)), (.int .u8 (0)), (.int .u8 (0)), (.int .u8 (0)), (.int .u8 (0)), (.int .u8 (0)), (.int .u8 (0)), (.int .u8 (0)), (.int .u8 (0)), (.int .u8 (0)), (.int .u8 (0)), (.int .u8 (0)), (.int .u8 (0)), (.int .u8 (0)), (.int .u8 (0)), (.int .u8 (0)), (.int .u8 (0)), (.int .u8 (0)), (.int .u8 (0)), (.int .u8 (0)), (.int .u8 (0)), (.int .u8 (0)), (.int .u8 (0)), (.int .u8 (0)), (.int .u8 (0)), (.int .u8 (0)), (.int .u8 (0)), (.int .u8 (0)), (.int .u8 (0)), (.int .u8 (0)), (.int .u8 (0)), (.int .u8 (0)), (.int .u8 (0))], false⟩,
  some ⟨.func, 1, 8, [.junk], false⟩,
  some ⟨(.struct [(0, 17), (1, 17), (2, 17), (3, 9)]), 4, 40, [.junk], false⟩,
  some ⟨(.struct [(0, 17), (1, 17), (2, 17), (3, 9)]), 4, 40, [.junk], false⟩,
  some ⟨(.arr 0 16), 0, 0, [], false⟩,
  some ⟨(.struct [(0, 72)]), 0, 0, [], false⟩,
  some ⟨(.struct [(0, 72)]), 0, 0, [], false⟩,
  some ⟨.func, 1, 8, [.junk], false⟩,
  some ⟨(.int .u8), 1, 1, [(.int .u8 (0))], false⟩,
  some ⟨(.int .u8), 1, 1, [(.int .u8 (0))], false⟩,
  some ⟨.func, 1, 8, [.junk], false⟩,
  some ⟨(.ptr 5), 1, 8, [.junk], false⟩,
  some ⟨(.int .i32), 1, 4, [(.int .i32 (0))], false⟩,
  some ⟨(.int .i32), 1, 4, [(.int .i32 (0))], false⟩,
  some ⟨(.struct [(0, 12), (1, 12), (2, 63), (3, 76), (4, 5), (5, 5), (6, 77), (7, 78), (8, 79), (9, 80), (10, 81)]), 11, 48, [.junk], false⟩,
  some ⟨(.struct [(0, 12), (1, 12), (2, 63), (3, 76), (4, 5), (5, 5), (6, 77), (7, 78), (8, 79), (9, 80), (10, 81)]), 11, 48, [.junk], false⟩,
  some ⟨.other, 1, 8, [.junk], false⟩]
def sgs : List (Nat × Bool) := [(0, false), (1, false), (2, false), (3, false), (4, false), (5, false), (6, false), (7, false), (8, false), (9, false), (10, false), (11, false), (12, false), (13, false), (14, false), (15, false), (16, false), (17, false), (18, false), (19, false), (20, false), (21, false), (22, false), (23, false), (24, false), (25, false), (26, false), (27, false), (28, false), (29, false), (30, false), (31, false), (32, false), (33, false), (34, false), (35, false), (36, false), (37, false), (38, true), (39, false), (40, false), (41, false), (42, false), (43, false), (44, false), (45, false), (46, false), (47, false), (48, false), (49, false), (50, false), (51, true), (52, false), (53, false), (54, false), (55, false), (56, false), (57, false), (58, false), (59, false), (60, false), (61, false), (62, false), (63, false), (64, false), (65, false), (66, false), (67, false), (68, false), (69, false), (70, false), (71, false), (72, false), (73, false), (74, false), (75, false), (76, false), (77, false), (78, false), (79, false), (80, false)]
def i3 : Comp := ⟨(.seq (.ops [s 2 (.mv (c (.bool false)))])
 (.seq (.ops [s 5 (.mv (t 0)),
  k 6 11 [(t 5)] .sc,
  s 3 (.mv (t 6))])
 (.seq (.ops [s 7 (.mv (t 0)),
  k 8 12 [(t 7)] .sc,
  s 4 (.mv (t 8))])
 (.seq (.seq (.ops [s 9 (.mv (t 4)),
  s 10 (.mv (t 3)),
  s 11 (.bin .neq (t 9) (t 10))])
 (.cond (t 11) (.seq (.ops [s 2 (.mv (c (.bool false)))])
 .ret) .skip))
 (.seq (.ops [s 2 (.mv (c (.bool true)))])
 .ret))))), none, [2], [true]⟩
def i4 : Comp := ⟨(.seq (.ops [s 2 (.mv (c (.bool false)))])
 (.seq (.ops [s 5 (.mv (t 0)),
  k 6 13 [(t 5)] .sc,
  s 3 (.mv (t 6))])
 (.seq (.ops [s 7 (.mv (t 0)),
  k 8 14 [(t 7)] .sc,
  s 4 (.mv (t 8))])
 (.seq (.seq (.ops [s 9 (.mv (t 4)),
  s 10 (.mv (t 3)),
  s 11 (.bin .neq (t 9) (t 10))])
 (.cond (t 11) (.seq (.ops [s 2 (.mv (c (.bool false)))])
 .ret) .skip))
 (.seq (.ops [s 2 (.mv (c (.bool true)))])
 .ret))))), none, [2], [true]⟩
def i5 : Comp := ⟨(.seq (.ops [s 2 (.mv (c (.bool false)))])
 (.seq (.ops [s 5 (.mv (t 0)),
  k 6 15 [(t 5)] .sc,
  s 3 (.mv (t 6))])
 (.seq (.ops [s 7 (.mv (t 0)),
  k 8 16 [(t 7)] .sc,
  s 4 (.mv (t 8))])
 (.seq (.seq (.ops [s 9 (.mv (t 4)),
  s 10 (.mv (t 3)),
  s 11 (.bin .neq (t 9) (t 10))])
 (.cond (t 11) (.seq (.ops [s 2 (.mv (c (.bool false)))])
 .ret) .skip))
 (.seq (.ops [s 2 (.mv (c (.bool true)))])
 .ret))))), none, [2], [true]⟩
def i6 : Comp := ⟨(.seq (.ops [s 2 (.mv (c (.bool false)))])
 (.seq (.ops [s 5 (.mv (t 0)),
  k 6 17 [(t 5)] .sc,
  s 3 (.mv (t 6))])
 (.seq (.ops [s 7 (.mv (t 0)),
  k 8 18 [(t 7)] .sc,
  s 4 (.mv (t 8))])
 (.seq (.seq (.ops [s 9 (.mv (t 4)),
  s 10 (.mv (t 3)),
  s 11 (.bin .neq (t 9) (t 10))])
 (.cond (t 11) (.seq (.ops [s 2 (.mv (c (.bool false)))])
 .ret) .skip))
 (.seq (.ops [s 2 (.mv (c (.bool true)))])
 .ret))))), none, [2], [true]⟩
def i7 : Comp := ⟨(.seq (.ops [s 2 (.mv (c (.bool false)))])
 (.seq (.ops [s 5 (.mv (t 0)),
  k 6 19 [(t 5)] .sc,
  s 3 (.mv (t 6))])
 (.seq (.ops [s 7 (.mv (t 0)),
  k 8 20 [(t 7)] .sc,
  s 4 (.mv (t 8))])
 (.seq (.seq (.ops [s 9 (.mv (t 4)),
  s 10 (.mv (t 3)),
  s 11 (.bin .neq (t 9) (t 10))])
 (.cond (t 11) (.seq (.ops [s 2 (.mv (c (.bool false)))])
 .ret) .skip))
 (.seq (.ops [s 2 (.mv (c (.bool true)))])
 .ret))))), none, [2], [true]⟩
def i8 : Comp := ⟨(.seq (.ops [s 4 (.mv (c (.bool false)))])
 (.seq (.ops [s 10 (.mv (t 0)),
  s 11 (.mv (t 1)),
  k 12 21 [(t 10), (t 11)] .sc,
  s 9 (.mv (t 12)),
  s 13 (.ext 9 0 true),
  s 14 (.ext 9 1 true),
  s 5 (.mv (t 13)),
  s 6 (.mv (t 14))])
 (.seq (.ops [s 16 (.mv (t 0)),
  s 17 (.mv (t 1)),
  k 18 22 [(t 16), (t 17)] .sc,
  s 15 (.mv (t 18)),
  s 19 (.ext 15 0 true),
  s 20 (.ext 15 1 true),
  s 7 (.mv (t 19)),
  s 8 (.mv (t 20))])
 (.seq (.seq (.ops [s 21 (.mv (t 7)),
  s 22 (.mv (t 5)),
  s 23 (.bin .neq (t 21) (t 22)),
  s 24 (.mv (t 23)),
  sg [(24, false)] 25 (.mv (t 8)),
  sg [(24, false)] 26 (.mv (t 6)),
  sg [(24, false)] 27 (.bin .neq (t 25) (t 26)),
  s 28 (.pick (t 24) (c (.bool true)) (t 27))])
 (.cond (t 28) (.seq (.ops [s 4 (.mv (c (.bool false)))])
 .ret) .skip))
 (.seq (.ops [s 4 (.mv (c (.bool true)))])
 .ret))))), none, [4], [true, true]⟩
def i9 : Comp := ⟨(.seq (.ops [s 1 (.box 2 (t 0)),
  s 2 (.mv (c (.bool false)))])
 (.seq (.ops [s 5 (.ldB 1 0 2 true true),
  k 6 24 [(t 5)] .sc,
  k 7 23 [(t 6)] .sc,
  s 3 (.mv (t 7))])
 (.seq (.ops [s 8 (.ldB 1 0 2 true true),
  k 9 24 [(t 8)] .sc,
  k 10 25 [(t 9)] .sc,
  s 4 (.mv (t 10))])
 (.seq (.seq (.ops [s 11 (.mv (t 4)),
  s 12 (.mv (t 3)),
  s 13 (.bin .neq (t 11) (t 12))])
 (.cond (t 13) (.seq (.ops [s 2 (.mv (c (.bool false)))])
 .ret) .skip))
 (.seq (.ops [s 2 (.mv (c (.bool true)))])
 .ret))))), none, [2], [true]⟩
def i11 : Comp := ⟨(.seq (.ops [s 2 (.mv (c (i 0)))])
 (.seq (.seq (.ops [s 3 (.mv (t 0)),
  s 4 (.bin .lss (t 3) (c (i 1)))])
 (.cond (t 4) (.seq (.ops [s 2 (.mv (c (i 0)))])
 .ret) .skip))
 (.seq (.block 0 (.loop (.seq (.seq (.ops [s 5 (.mv (t 0)),
  s 6 (.bin .geq (t 5) (c (i 10)))])
 (.cond (t 6) .skip (.exit 0)))
 (.block 1 (.ops [s 7 (.mv (t 0)),
  s 8 (.bin .quo (t 7) (c (i 10))),
  s 0 (.mv (t 8))])))))
 (.seq (.seq (.ops [s 9 (.mv (t 0)),
  s 10 (.bin .eql (t 9) (c (i 2)))])
 (.cond (t 10) (.seq (.ops [s 2 (.mv (c (i 4)))])
 .ret) .skip))
 (.seq (.ops [s 2 (.mv (c (i 5)))])
 .ret))))), none, [2], [true]⟩
def i12 : Comp := ⟨(.seq (.ops [s 2 (.mv (c (i 0)))])
 (.seq (.block 0 (.seq (.ops [s 4 (.mv (t 0)),
  s 5 (.bin .lss (t 4) (c (i 1))),
  s 3 (.mv (t 5))])
 (.cond (t 3) (.seq (.ops [s 2 (.mv (c (i 0)))])
 .ret) (.seq (.ops [s 7 (.mv (t 0)),
  k 8 30 [(t 7)] .sc,
  s 9 (.six (t 8) (c (i 0))),
  s 10 (.bin .eql (t 9) (c (.int .u8 (50)))),
  s 6 (.mv (t 10))])
 (.cond (t 6) (.seq (.ops [s 2 (.mv (c (i 4)))])
 .ret) .skip)))))
 (.seq (.ops [s 2 (.mv (c (i 5)))])
 .ret))), none, [2], [true]⟩
def i13 : Comp := ⟨(.seq (.ops [s 2 (.mv (c (i 0)))])
 (.seq (.ops [s 3 (.mv (c (i 0)))])
 (.seq (.seq (.ops [s 7 (.mv (t 0)),
  s 8 (.bin .gtr (t 7) (c (i 1000000000)))])
 (.cond (t 8) (.seq (.ops [s 2 (.mv (c (i 0)))])
 .ret) .skip))
 (.seq (.seq (.ops [s 4 (.mv (c (i 1)))])
 (.block 0 (.loop (.seq (.seq (.ops [s 9 (.mv (t 4)),
  s 10 (.mv (t 0)),
  s 11 (.bin .leq (t 9) (t 10))])
 (.cond (t 11) .skip (.exit 0)))
 (.seq (.block 1 (.seq (.ops [s 14 (.bsl 1 [(c (i 1)), (c (i 2)), (c (i 5))]),
  s 15 (.len false (t 14)),
  s 16 (.mv (c (i 0)))])
 (.block 2 (.loop (.seq (.ops [s 17 (.bin .lss (t 16) (t 15))])
 (.seq (.cond (t 17) .skip (.exit 2))
 (.seq (.block 3 (.seq (.ops [s 18 (.idx (t 14) (t 16) 1),
  s 19 (.ldE 14 18 0 1 false true 1),
  s 6 (.mv (t 19))])
 (.seq (.ops [s 20 (.mv (t 6)),
  s 21 (.mv (t 4)),
  s 22 (.bin .mul (t 20) (t 21)),
  s 23 (.mv (t 0)),
  s 24 (.bin .leq (t 22) (t 23))])
 (.cond (t 24) (.ops [s 25 (.mv (t 6)),
  s 26 (.mv (t 4)),
  s 27 (.bin .mul (t 25) (t 26)),
  s 3 (.mv (t 27))]) .skip))))
 (.ops [s 28 (.bin .add (t 16) (c (i 1))),
  s 16 (.mv (t 28))]))))))))
 (.ops [s 12 (.mv (t 4)),
  s 13 (.bin .mul (t 12) (c (i 10))),
  s 4 (.mv (t 13))]))))))
 (.seq (.ops [s 29 (.mv (t 3)),
  s 2 (.mv (t 29))])
 .ret))))), none, [2], [true]⟩
def i14 : Comp := ⟨(.seq (.ops [s 2 (.mv (c (i 0)))])
 (.seq (.seq (.ops [s 4 (.mv (t 0)),
  k 5 31 [(t 4), (c (i 1)), (c (i 1000000000))] .sc,
  s 6 (.not (t 5))])
 (.cond (t 6) (.seq (.ops [s 2 (.mv (c (i 0)))])
 .ret) .skip))
 (.seq (.ops [s 3 (.mv (c (i 1)))])
 (.seq (.block 0 (.loop (.seq (.seq (.ops [s 7 (.mv (t 3)),
  k 8 32 [(t 7)] .sc,
  s 9 (.mv (t 0)),
  s 10 (.bin .leq (t 8) (t 9))])
 (.cond (t 10) .skip (.exit 0)))
 (.block 1 (.ops [s 11 (.mv (t 3)),
  k 12 32 [(t 11)] .sc,
  s 3 (.mv (t 12))])))))
 (.seq (.ops [s 13 (.mv (t 3)),
  s 2 (.mv (t 13))])
 .ret))))), none, [2], [true]⟩
def i15 : Comp := ⟨(.seq (.ops [s 2 (.mv (c (.str (bs []))))])
 (.seq (.block 0 (.seq (.ops [s 4 (.mv (t 0)),
  s 5 (.bin .lss (t 4) (c (i 1))),
  s 3 (.mv (t 5))])
 (.cond (t 3) (.seq (.ops [s 2 (.mv (c (.str (bs []))))])
 .ret) (.seq (.ops [s 7 (.mv (t 0)),
  s 8 (.bin .lss (t 7) (c (i 1000))),
  s 6 (.mv (t 8))])
 (.cond (t 6) (.seq (.ops [s 9 (.mv (t 0)),
  k 10 33 [(t 9)] .sc,
  s 11 (.bin .add (t 10) (c (.str (bs [109])))),
  s 2 (.mv (t 11))])
 .ret) .skip)))))
 (.seq (.ops [s 12 (.mv (t 0)),
  s 13 (.bin .quo (t 12) (c (i 1000))),
  k 14 33 [(t 13)] .sc,
  s 15 (.bin .add (t 14) (c (.str (bs [107, 109])))),
  s 2 (.mv (t 15))])
 .ret))), none, [2], [true]⟩
def i16 : Comp := ⟨(.seq (.ops [s 2 (.mv (c (.str (bs []))))])
 (.seq (.block 0 (.seq (.ops [s 4 (.mv (t 0)),
  s 5 (.bin .lss (t 4) (c (i 1))),
  s 3 (.mv (t 5))])
 (.cond (t 3) (.seq (.ops [s 2 (.mv (c (.str (bs []))))])
 .ret) (.seq (.ops [s 7 (.mv (t 0)),
  s 8 (.bin .lss (t 7) (c (i 1000))),
  s 6 (.mv (t 8))])
 (.cond (t 6) (.seq (.ops [s 9 (.mv (t 0)),
  k 10 30 [(t 9)] .sc,
  s 11 (.bin .add (t 10) (c (.str (bs [109])))),
  s 2 (.mv (t 11))])
 .ret) .skip)))))
 (.seq (.ops [s 12 (.mv (t 0)),
  s 13 (.bin .quo (t 12) (c (i 1000))),
  k 14 30 [(t 13)] .sc,
  s 15 (.bin .add (t 14) (c (.str (bs [107, 109])))),
  s 2 (.mv (t 15))])
 .ret))), none, [2], [true]⟩
def i17 : Comp := ⟨(.seq (.ops [s 2 (.mv (c (i 0)))])
 (.seq (.seq (.ops [s 6 (.mv (t 0)),
  k 7 34 [(t 6), (c (i 1)), (c (i 499999999))] .sc,
  s 8 (.not (t 7))])
 (.cond (t 8) (.seq (.ops [s 2 (.mv (c (i 0)))])
 .ret) .skip))
 (.seq (.ops [s 3 (.mv (c (i 1)))])
 (.block 0 (.loop (.seq (.block 1 (.seq (.ops [s 11 (.bsl 1 [(c (i 1)), (c (i 2)), (c (i 5))]),
  s 12 (.len false (t 11)),
  s 13 (.mv (c (i 0)))])
 (.block 2 (.loop (.seq (.ops [s 14 (.bin .lss (t 13) (t 12))])
 (.seq (.cond (t 14) .skip (.exit 2))
 (.seq (.block 3 (.seq (.ops [s 15 (.idx (t 11) (t 13) 1),
  s 16 (.ldE 11 15 0 1 false true 1),
  s 5 (.mv (t 16))])
 (.seq (.ops [s 17 (.mv (t 5)),
  s 18 (.mv (t 3)),
  s 19 (.bin .mul (t 17) (t 18)),
  s 20 (.mv (t 0)),
  s 21 (.bin .gtr (t 19) (t 20))])
 (.cond (t 21) (.seq (.ops [s 22 (.mv (t 5)),
  s 23 (.mv (t 3)),
  s 24 (.bin .mul (t 22) (t 23)),
  s 2 (.mv (t 24))])
 .ret) .skip))))
 (.ops [s 25 (.bin .add (t 13) (c (i 1))),
  s 13 (.mv (t 25))]))))))))
 (.ops [s 9 (.mv (t 3)),
  s 10 (.bin .mul (t 9) (c (i 10))),
  s 3 (.mv (t 10))]))))))), none, [2], [true]⟩
def i18 : Comp := ⟨(.seq (.ops [s 2 (.mv (c (i 0)))])
 (.seq (.seq (.ops [s 3 (.mv (t 0)),
  s 4 (.bin .lss (t 3) (c (i 1))),
  s 5 (.mv (t 4)),
  sg [(5, false)] 6 (.mv (t 0)),
  sg [(5, false)] 7 (.bin .geq (t 6) (c (i 500000000))),
  s 8 (.pick (t 5) (c (.bool true)) (t 7))])
 (.cond (t 8) (.seq (.ops [s 2 (.mv (c (i 0)))])
 .ret) .skip))
 (.seq (.ops [s 9 (.mv (t 0)),
  k 10 14 [(t 9)] .sc,
  k 11 32 [(t 10)] .sc,
  s 2 (.mv (t 11))])
 .ret))), none, [2], [true]⟩
def i19 : Comp := ⟨(.seq (.ops [s 2 (.mv (c (.str (bs []))))])
 (.seq (.seq (.ops [s 4 (.mv (t 0)),
  k 5 34 [(t 4), (c (i 0)), (c (i 440))] .sc,
  s 6 (.not (t 5))])
 (.cond (t 6) (.seq (.ops [s 2 (.mv (c (.str (bs []))))])
 .ret) .skip))
 (.seq (.ops [s 7 (.mv (t 0)),
  s 8 (.bin .rem (t 7) (c (i 21))),
  s 3 (.mv (t 8))])
 (.seq (.ops [s 9 (.mv (t 3)),
  s 10 (.mv (t 3)),
  s 11 (.bin .add (t 10) (c (i 1))),
  s 12 (.ssl (c (.str (bs [97, 98, 99, 100, 101, 102, 103, 104, 105, 106, 107, 108, 109, 110, 111, 112, 113, 114, 115, 116, 117]))) (some (t 9)) (some (t 11))),
  s 13 (.mv (t 0)),
  s 14 (.bin .quo (t 13) (c (i 21))),
  k 15 33 [(t 14)] .sc,
  s 16 (.bin .add (t 12) (t 15)),
  s 2 (.mv (t 16))])
 .ret)))), none, [2], [true]⟩
def i20 : Comp := ⟨(.seq (.ops [s 2 (.mv (c (.str (bs []))))])
 (.seq (.seq (.ops [s 6 (.mv (t 0)),
  k 7 35 [(t 6)] .sc,
  s 5 (.mv (t 7)),
  s 8 (.ext 5 0 true),
  s 9 (.ext 5 1 true),
  s 3 (.alc [(i 0), (i 0), (i 0), (i 0)]),
  s 3 (.stB 3 0 4 (t 8) false),
  s 4 (.mv (t 9))])
 (.seq (.ops [s 10 (.mv (t 4)),
  s 11 (.not (t 10))])
 (.cond (t 11) (.seq (.ops [s 2 (.mv (c (.str (bs []))))])
 .ret) .skip)))
 (.seq (.ops [s 12 (.mv (t 0)),
  s 13 (.bin .rem (t 12) (c (i 21))),
  s 14 (.bin .add (c (i 97)) (t 13)),
  s 15 (.conv .u8 (t 14)),
  s 16 (.bsl 1 [(t 15)]),
  s 17 (.bst (t 16)),
  s 18 (.mv (t 0)),
  s 19 (.bin .quo (t 18) (c (i 21))),
  k 20 30 [(t 19)] .sc,
  s 21 (.bin .add (t 17) (t 20)),
  s 2 (.mv (t 21))])
 .ret))), none, [2], [true]⟩
def i21 : Comp := ⟨(.seq (.ops [s 4 (.mv (c (i 0))),
  s 5 (.mv (c (i 0)))])
 (.seq (.seq (.ops [s 7 (.mv (t 0)),
  k 8 34 [(t 7), (c (i 1)), (c (i 1000))] .sc,
  s 9 (.not (t 8)),
  s 10 (.mv (t 9)),
  sg [(10, false)] 11 (.mv (t 1)),
  kg [(10, false)] 12 34 [(t 11), (c (i 1)), (c (i 100000))] .sc,
  sg [(10, false)] 13 (.not (t 12)),
  s 14 (.pick (t 10) (c (.bool true)) (t 13))])
 (.cond (t 14) (.seq (.ops [s 4 (.mv (c (i 0))),
  s 5 (.mv (c (i 0)))])
 .ret) .skip))
 (.seq (.ops [s 15 (.mv (t 0)),
  s 16 (.mv (t 1)),
  s 17 (.bin .mul (t 15) (t 16)),
  k 18 13 [(t 17)] .sc,
  s 6 (.mv (t 18))])
 (.seq (.ops [s 19 (.mv (t 6)),
  s 20 (.mv (t 6)),
  s 21 (.mv (t 1)),
  s 22 (.bin .quo (t 20) (t 21)),
  s 4 (.mv (t 19)),
  s 5 (.mv (t 22))])
 .ret)))), none, [4, 5], [true, true]⟩
def i22 : Comp := ⟨(.seq (.ops [s 4 (.mv (c (i 0))),
  s 5 (.mv (c (i 0)))])
 (.seq (.seq (.ops [s 7 (.mv (t 0)),
  k 8 31 [(t 7), (c (i 1)), (c (i 1000))] .sc,
  s 9 (.not (t 8)),
  s 10 (.mv (t 9)),
  sg [(10, false)] 11 (.mv (t 1)),
  kg [(10, false)] 12 31 [(t 11), (c (i 1)), (c (i 100000))] .sc,
  sg [(10, false)] 13 (.not (t 12)),
  s 14 (.pick (t 10) (c (.bool true)) (t 13))])
 (.cond (t 14) (.seq (.ops [s 4 (.mv (c (i 0))),
  s 5 (.mv (c (i 0)))])
 .ret) .skip))
 (.seq (.ops [s 15 (.mv (t 0)),
  s 16 (.mv (t 1)),
  s 17 (.bin .mul (t 15) (t 16)),
  k 18 14 [(t 17)] .sc,
  s 6 (.mv (t 18))])
 (.seq (.ops [s 19 (.mv (t 6)),
  s 20 (.mv (t 6)),
  s 21 (.mv (t 1)),
  s 22 (.bin .quo (t 20) (t 21)),
  s 4 (.mv (t 19)),
  s 5 (.mv (t 22))])
 .ret)))), none, [4, 5], [true, true]⟩
def i23 : Comp := ⟨(.seq (.ops [s 1 (.box 2 (t 0)),
  s 2 (.mv (c (.str (bs []))))])
 (.seq (.ops [s 3 (.ldB 1 0 2 true true),
  k 4 36 [(t 3)] .sc,
  k 5 19 [(t 4)] .sc,
  s 2 (.mv (t 5))])
 .ret)), none, [2], [true]⟩
def i24 : Comp := ⟨(.seq (.ops [s 1 (.box 2 (t 0)),
  s 2 (.alc [(i 0), (i 0)])])
 (.seq (.ops [s 3 (.alc [(i 0), (i 0)])])
 (.seq (.ops [s 4 (.mv (c (i 0))),
  s 5 (.ldB 1 0 1 false true),
  s 6 (.mv (c (i 0))),
  s 3 (.stB 3 0 1 (t 5) false)])
 (.seq (.ops [s 7 (.mv (c (i 0))),
  s 8 (.ldB 1 1 1 false true),
  s 9 (.mv (c (i 0))),
  s 3 (.stB 3 1 1 (t 8) false)])
 (.seq (.ops [s 10 (.ldB 3 0 2 true true),
  s 2 (.stB 2 0 2 (t 10) false)])
 .ret))))), (some ⟨2, 31, 2, true⟩), [], [true]⟩
def i25 : Comp := ⟨(.seq (.ops [s 1 (.box 2 (t 0)),
  s 2 (.mv (c (.str (bs []))))])
 (.seq (.ops [s 3 (.ldB 1 0 2 true true),
  k 4 37 [(t 3)] .sc,
  k 5 20 [(t 4)] .sc,
  s 2 (.mv (t 5))])
 .ret)), none, [2], [true]⟩
def i30 : Comp := ⟨(.seq (.ops [s 2 (.mv (c (.str (bs []))))])
 (.seq (.ops [s 3 (.mv (t 0)),
  k 4 41 [(t 3)] .sc,
  s 2 (.mv (t 4))])
 .ret)), none, [2], [true]⟩
def i31 : Comp := ⟨(.seq (.ops [s 6 (.mv (c (.bool false)))])
 (.seq (.ops [s 7 (.mv (t 1)),
  s 8 (.mv (t 0)),
  s 9 (.bin .leq (t 7) (t 8)),
  s 10 (.mv (t 9)),
  sg [(10, true)] 11 (.mv (t 0)),
  sg [(10, true)] 12 (.mv (t 2)),
  sg [(10, true)] 13 (.bin .leq (t 11) (t 12)),
  s 14 (.pick (t 10) (t 13) (c (.bool false))),
  s 6 (.mv (t 14))])
 .ret)), none, [6], [true, true, true]⟩
def i32 : Comp := ⟨(.seq (.ops [s 2 (.mv (c (i 0)))])
 (.seq (.seq (.ops [s 3 (.mv (t 0)),
  k 4 30 [(t 3)] .sc,
  s 5 (.six (t 4) (c (i 0))),
  s 6 (.bin .eql (t 5) (c (.int .u8 (50))))])
 (.cond (t 6) (.seq (.ops [s 7 (.mv (t 0)),
  s 8 (.bin .quo (t 7) (c (i 2))),
  s 9 (.bin .mul (t 8) (c (i 5))),
  s 2 (.mv (t 9))])
 .ret) .skip))
 (.seq (.ops [s 10 (.mv (t 0)),
  s 11 (.bin .mul (c (i 2)) (t 10)),
  s 2 (.mv (t 11))])
 .ret))), none, [2], [true]⟩
def i33 : Comp := ⟨(.seq (.ops [s 2 (.mv (c (.str (bs []))))])
 (.seq (.seq (.ops [s 6 (.mv (t 0)),
  s 7 (.bin .eql (t 6) (c (i 0)))])
 (.cond (t 7) (.seq (.ops [s 2 (.mv (c (.str (bs [48]))))])
 .ret) .skip))
 (.seq (.ops [s 3 (.mv (c (.str (bs []))))])
 (.seq (.seq (.ops [s 8 (.mv (t 0)),
  s 4 (.mv (t 8))])
 (.block 0 (.loop (.seq (.seq (.ops [s 9 (.mv (t 4)),
  s 10 (.bin .neq (t 9) (c (i 0)))])
 (.cond (t 10) .skip (.exit 0)))
 (.seq (.block 1 (.seq (.ops [s 13 (.mv (t 4)),
  s 14 (.bin .rem (t 13) (c (i 10))),
  s 5 (.mv (t 14))])
 (.seq (.seq (.ops [s 15 (.mv (t 5)),
  s 16 (.bin .lss (t 15) (c (i 0)))])
 (.cond (t 16) (.ops [s 17 (.mv (t 5)),
  s 18 (.neg (t 17)),
  s 5 (.mv (t 18))]) .skip))
 (.ops [s 19 (.mv (t 5)),
  s 20 (.bin .add (c (i 48)) (t 19)),
  s 21 (.conv .u8 (t 20)),
  s 22 (.bsl 1 [(t 21)]),
  s 23 (.bst (t 22)),
  s 24 (.mv (t 3)),
  s 25 (.bin .add (t 23) (t 24)),
  s 3 (.mv (t 25))]))))
 (.ops [s 11 (.mv (t 4)),
  s 12 (.bin .quo (t 11) (c (i 10))),
  s 4 (.mv (t 12))]))))))
 (.seq (.seq (.ops [s 26 (.mv (t 0)),
  s 27 (.bin .lss (t 26) (c (i 0)))])
 (.cond (t 27) (.seq (.ops [s 28 (.mv (t 3)),
  s 29 (.bin .add (c (.str (bs [45]))) (t 28)),
  s 2 (.mv (t 29))])
 .ret) .skip))
 (.seq (.ops [s 30 (.mv (t 3)),
  s 2 (.mv (t 30))])
 .ret)))))), none, [2], [true]⟩
def i34 : Comp := ⟨(.seq (.ops [s 6 (.mv (c (.bool false)))])
 (.seq (.ops [s 7 (.mv (t 0)),
  s 8 (.mv (t 1)),
  s 9 (.bin .geq (t 7) (t 8)),
  s 10 (.mv (t 9)),
  sg [(10, true)] 11 (.mv (t 0)),
  sg [(10, true)] 12 (.mv (t 2)),
  sg [(10, true)] 13 (.bin .leq (t 11) (t 12)),
  s 14 (.pick (t 10) (t 13) (c (.bool false))),
  s 6 (.mv (t 14))])
 .ret)), none, [6], [true, true, true]⟩
def i35 : Comp := ⟨(.seq (.ops [s 2 (.alc [(i 0), (i 0), (i 0), (i 0)]),
  s 3 (.mv (c (.bool false)))])
 (.seq (.seq (.ops [s 6 (.mv (t 0)),
  k 7 31 [(t 6), (c (i 0)), (c (i 440))] .sc,
  s 8 (.not (t 7))])
 (.cond (t 8) (.seq (.ops [s 9 (.bld [(i 0), (i 0), (i 0), (i 0)] []),
  s 2 (.stB 2 0 4 (t 9) false),
  s 3 (.mv (c (.bool false)))])
 .ret) .skip))
 (.seq (.ops [s 10 (.mv (t 0)),
  s 11 (.bin .rem (t 10) (c (i 21))),
  s 12 (.bin .mul (t 11) (c (i 10))),
  s 13 (.mv (t 0)),
  s 14 (.bin .quo (t 13) (c (i 21))),
  s 15 (.bin .mul (t 14) (c (i 10))),
  s 4 (.mv (t 12)),
  s 5 (.mv (t 15))])
 (.seq (.ops [s 16 (.mv (t 4)),
  s 17 (.mv (t 5)),
  s 18 (.bld [(i 0), (i 0)] [(0, 1, (t 16)), (1, 1, (t 17))]),
  s 19 (.mv (t 4)),
  s 20 (.bin .add (t 19) (c (i 10))),
  s 21 (.mn (t 20) (c (i 200))),
  s 22 (.mv (t 5)),
  s 23 (.bin .add (t 22) (c (i 10))),
  s 24 (.mn (t 23) (c (i 200))),
  s 25 (.bld [(i 0), (i 0)] [(0, 1, (t 21)), (1, 1, (t 24))]),
  s 26 (.bld [(i 0), (i 0), (i 0), (i 0)] [(0, 2, (t 18)), (2, 2, (t 25))]),
  s 2 (.stB 2 0 4 (t 26) false),
  s 3 (.mv (c (.bool true)))])
 .ret)))), (some ⟨2, 41, 4, true⟩), [3], [true]⟩
def i36 : Comp := ⟨(.seq (.ops [s 1 (.box 2 (t 0)),
  s 2 (.mv (c (i 0)))])
 (.seq (.seq (.ops [s 3 (.ldB 1 0 2 true true),
  k 4 42 [(t 3)] .sc,
  s 5 (.not (t 4))])
 (.cond (t 5) (.seq (.ops [s 2 (.mv (c (i (-1))))])
 .ret) .skip))
 (.seq (.ops [s 6 (.mv (c (i 0))),
  s 7 (.ldB 1 1 1 false true),
  s 8 (.bin .quo (t 7) (c (i 10))),
  s 9 (.bin .mul (t 8) (c (i 21))),
  s 10 (.mv (c (i 0))),
  s 11 (.ldB 1 0 1 false true),
  s 12 (.bin .quo (t 11) (c (i 10))),
  s 13 (.bin .add (t 9) (t 12)),
  s 2 (.mv (t 13))])
 .ret))), none, [2], [true]⟩
def i37 : Comp := ⟨(.seq (.ops [s 1 (.box 2 (t 0)),
  s 2 (.mv (c (i 0)))])
 (.seq (.seq (.ops [s 3 (.ldB 1 0 2 true true),
  k 4 43 [(t 3)] .sc,
  s 5 (.not (t 4))])
 (.cond (t 5) (.seq (.ops [s 2 (.mv (c (i (-1))))])
 .ret) .skip))
 (.seq (.ops [s 6 (.mv (c (i 0))),
  s 7 (.ldB 1 1 1 false true),
  s 8 (.bin .quo (t 7) (c (i 10))),
  s 9 (.bin .mul (t 8) (c (i 21))),
  s 10 (.mv (c (i 0))),
  s 11 (.ldB 1 0 1 false true),
  s 12 (.bin .quo (t 11) (c (i 10))),
  s 13 (.bin .add (t 9) (t 12)),
  s 2 (.mv (t 13))])
 .ret))), none, [2], [true]⟩
def i42 : Comp := ⟨(.seq (.ops [s 1 (.box 2 (t 0)),
  s 2 (.mv (c (.bool false)))])
 (.seq (.ops [s 3 (.mv (c (i 0))),
  s 4 (.ldB 1 0 1 false true),
  k 5 34 [(t 4), (c (i 0)), (c (i 200))] .sc,
  s 6 (.mv (t 5)),
  sg [(6, true)] 7 (.mv (c (i 0))),
  sg [(6, true)] 8 (.ldB 1 1 1 false true),
  kg [(6, true)] 9 34 [(t 8), (c (i 0)), (c (i 200))] .sc,
  s 10 (.pick (t 6) (t 9) (c (.bool false))),
  s 2 (.mv (t 10))])
 .ret)), none, [2], [true]⟩
def i43 : Comp := ⟨(.seq (.ops [s 1 (.box 2 (t 0)),
  s 2 (.mv (c (.bool false)))])
 (.seq (.ops [s 3 (.mv (c (i 0))),
  s 4 (.ldB 1 0 1 false true),
  k 5 31 [(t 4), (c (i 0)), (c (i 200))] .sc,
  s 6 (.mv (t 5)),
  sg [(6, true)] 7 (.mv (c (i 0))),
  sg [(6, true)] 8 (.ldB 1 1 1 false true),
  kg [(6, true)] 9 31 [(t 8), (c (i 0)), (c (i 200))] .sc,
  s 10 (.pick (t 6) (t 9) (c (.bool false))),
  s 2 (.mv (t 10))])
 .ret)), none, [2], [true]⟩
def X : Cx := ⟨tbs, sgs⟩
end Go.Eng
namespace Go.Eng
open Go Go.Proofs
theorem hX : TabOK Tryd.prog X := TabOK.of (by kernel_rfl)
theorem c3 : compP Tryd.prog X 3 = some i3 := by kernel_rfl
theorem c4 : compP Tryd.prog X 4 = some i4 := by kernel_rfl
theorem c5 : compP Tryd.prog X 5 = some i5 := by kernel_rfl
theorem c6 : compP Tryd.prog X 6 = some i6 := by kernel_rfl
theorem c7 : compP Tryd.prog X 7 = some i7 := by kernel_rfl
theorem c8 : compP Tryd.prog X 8 = some i8 := by kernel_rfl
theorem c9 : compP Tryd.prog X 9 = some i9 := by kernel_rfl
theorem c11 : compP Tryd.prog X 11 = some i11 := by kernel_rfl
theorem c12 : compP Tryd.prog X 12 = some i12 := by kernel_rfl
theorem c13 : compP Tryd.prog X 13 = some i13 := by kernel_rfl
theorem c14 : compP Tryd.prog X 14 = some i14 := by kernel_rfl
theorem c15 : compP Tryd.prog X 15 = some i15 := by kernel_rfl
theorem c16 : compP Tryd.prog X 16 = some i16 := by kernel_rfl
theorem c17 : compP Tryd.prog X 17 = some i17 := by kernel_rfl
theorem c18 : compP Tryd.prog X 18 = some i18 := by kernel_rfl
theorem c19 : compP Tryd.prog X 19 = some i19 := by kernel_rfl
theorem c20 : compP Tryd.prog X 20 = some i20 := by kernel_rfl
theorem c21 : compP Tryd.prog X 21 = some i21 := by kernel_rfl
theorem c22 : compP Tryd.prog X 22 = some i22 := by kernel_rfl
theorem c23 : compP Tryd.prog X 23 = some i23 := by kernel_rfl
theorem c24 : compP Tryd.prog X 24 = some i24 := by kernel_rfl
theorem c25 : compP Tryd.prog X 25 = some i25 := by kernel_rfl
theorem c30 : compP Tryd.prog X 30 = some i30 := by kernel_rfl
theorem c31 : compP Tryd.prog X 31 = some i31 := by kernel_rfl
theorem c32 : compP Tryd.prog X 32 = some i32 := by kernel_rfl
theorem c33 : compP Tryd.prog X 33 = some i33 := by kernel_rfl
theorem c34 : compP Tryd.prog X 34 = some i34 := by kernel_rfl
theorem c35 : compP Tryd.prog X 35 = some i35 := by kernel_rfl
theorem c36 : compP Tryd.prog X 36 = some i36 := by kernel_rfl
theorem c37 : compP Tryd.prog X 37 = some i37 := by kernel_rfl
theorem c42 : compP Tryd.prog X 42 = some i42 := by kernel_rfl
theorem c43 : compP Tryd.prog X 43 = some i43 := by kernel_rfl
end Go.Eng
