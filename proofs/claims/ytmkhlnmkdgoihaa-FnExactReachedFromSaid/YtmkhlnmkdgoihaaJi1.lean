/- A part of the proof of a law's statement: for every input the law returns true and leaves its arguments as they were. No condition beyond the statement's own. The laws' functions in that calculus, checked by the kernel against the program. -/
import Derived.Test.YtmkhlnmkdgoihaaProg
import Derived.Test.YtmkhlnmkdgoihaaJe3
set_option linter.unusedVariables false
set_option linter.unusedSimpArgs false
set_option linter.unusedSectionVars false
set_option autoImplicit true
set_option relaxedAutoImplicit true
namespace Go.Eng
open Go
def tbs : List (Option TI) := [some ⟨(.tup []), 1, 0, [.junk], false⟩,
  some ⟨.func, 1, 8, [.junk], false⟩,
  some ⟨(.int .i64), 1, 8, [(i 0)], false⟩,
  some ⟨(.int .i64), 1, 8, [(i 0)], false⟩,
  some ⟨.bool, 1, 1, [(.bool false)], false⟩,
  some ⟨(.int .u8), 1, 1, [(.int .u8 (0))], false⟩,
  some ⟨(.int .u8), 1, 1, [(.int .u8 (0))], false⟩,
  some ⟨(.struct [(0, 2), (1, 3), (2, 4), (3, 6)]), 4, 24, [(i 0), (i 0), (.bool false), (.int .u8 (0))], true⟩,
  some ⟨(.struct [(0, 2), (1, 3), (2, 4), (3, 6)]), 4, 24, [(i 0), (i 0), (.bool false), (.int .u8 (0))], true⟩,
  some ⟨.str, 1, 16, [(.str (bs []))], false⟩,
  some ⟨.str, 1, 16, [(.str (bs []))], false⟩,
  some ⟨.str, 1, 16, [(.str (bs []))], false⟩,
  some ⟨(.int .u64), 1, 8, [(.int .u64 (0))], false⟩,
  some ⟨(.struct [(0, 9), (1, 12)]), 2, 24, [(.str (bs [])), (.int .u64 (0))], false⟩,
  some ⟨(.struct [(0, 9), (1, 12)]), 2, 24, [(.str (bs [])), (.int .u64 (0))], false⟩,
  some ⟨(.ptr 107), 1, 8, [.junk], false⟩,
  some ⟨(.ptr 110), 1, 8, [.junk], false⟩,
  some ⟨(.ptr 119), 1, 8, [.junk], false⟩,
  some ⟨(.struct [(0, 17)]), 1, 8, [.junk], false⟩,
  some ⟨(.struct [(0, 17)]), 1, 8, [.junk], false⟩,
  some ⟨.other, 1, 16, [.junk], false⟩,
  some ⟨(.int .i32), 1, 4, [(.int .i32 (0))], false⟩,
  some ⟨(.slice 43), 1, 24, [(.lst 5 true [])], false⟩,
  some ⟨(.struct [(0, 3), (1, 3)]), 2, 16, [(i 0), (i 0)], true⟩,
  some ⟨(.struct [(0, 3), (1, 3)]), 2, 16, [(i 0), (i 0)], true⟩,
  some ⟨.func, 1, 8, [.junk], false⟩,
  some ⟨(.tup [3, 4]), 1, 0, [.junk], false⟩,
  some ⟨.func, 1, 8, [.junk], false⟩,
  some ⟨(.slice 51), 1, 24, [(.lst 5 true [])], false⟩,
  some ⟨.func, 1, 8, [.junk], false⟩,
  some ⟨(.struct [(0, 3), (1, 3)]), 2, 16, [(i 0), (i 0)], true⟩,
  some ⟨.func, 1, 8, [.junk], false⟩,
  some ⟨.func, 1, 8, [.junk], false⟩,
  some ⟨.func, 1, 8, [.junk], false⟩,
  some ⟨(.slice 30), 1, 24, [(.lst 2 true [])], false⟩,
  some ⟨.func, 1, 8, [.junk], false⟩,
  some ⟨.func, 1, 8, [.junk], false⟩,
  some ⟨.func, 1, 8, [.junk], false⟩,
  some ⟨.func, 1, 8, [.junk], false⟩,
  some ⟨.func, 1, 8, [.junk], false⟩,
  some ⟨.func, 1, 8, [.junk], false⟩,
  some ⟨(.slice 24), 1, 24, [(.lst 2 true [])], false⟩,
  some ⟨(.struct [(0, 3), (1, 3), (2, 3), (3, 9), (4, 41)]), 5, 64, [(i 0), (i 0), (i 0), (.str (bs [])), (.lst 2 true [])], true⟩,
  some ⟨(.struct [(0, 3), (1, 3), (2, 3), (3, 9), (4, 41)]), 5, 64, [(i 0), (i 0), (i 0), (.str (bs [])), (.lst 2 true [])], true⟩,
  some ⟨.func, 1, 8, [.junk], false⟩,
  some ⟨.func, 1, 8, [.junk], false⟩,
  some ⟨(.slice 3), 1, 24, [(.lst 1 true [])], false⟩,
  some ⟨(.tup [34, 46]), 1, 0, [.junk], false⟩,
  some ⟨.func, 1, 8, [.junk], false⟩,
  some ⟨.func, 1, 8, [.junk], false⟩,
  some ⟨(.struct [(0, 3), (1, 3), (2, 3), (3, 9), (4, 34)]), 5, 64, [(i 0), (i 0), (i 0), (.str (bs [])), (.lst 2 true [])], true⟩,
  some ⟨(.struct [(0, 3), (1, 3), (2, 3), (3, 9), (4, 34)]), 5, 64, [(i 0), (i 0), (i 0), (.str (bs [])), (.lst 2 true [])], true⟩,
  some ⟨.func, 1, 8, [.junk], false⟩,
  some ⟨.mapP, 1, 8, [.junk], false⟩,
  some ⟨.func, 1, 8, [.junk], false⟩,
  some ⟨.func, 1, 8, [.junk], false⟩,
  some ⟨.func, 1, 8, [.junk], false⟩,
  some ⟨.func, 1, 8, [.junk], false⟩,
  some ⟨.func, 1, 8, [.junk], false⟩,
  some ⟨.func, 1, 8, [.junk], false⟩,
  some ⟨.func, 1, 8, [.junk], false⟩,
  some ⟨.func, 1, 8, [.junk], false⟩,
  some ⟨.func, 1, 8, [.junk], false⟩,
  some ⟨.func, 1, 8, [.junk], false⟩,
  some ⟨.func, 1, 8, [.junk], false⟩,
  some ⟨.func, 1, 8, [.junk], false⟩,
  some ⟨(.tup [30, 4]), 1, 0, [.junk], false⟩,
  some ⟨.func, 1, 8, [.junk], false⟩,
  some ⟨.func, 1, 8, [.junk], false⟩,
  some ⟨.func, 1, 8, [.junk], false⟩,
  some ⟨(.int .u64), 1, 8, [(.int .u64 (0))], false⟩,
  some ⟨(.slice 5), 1, 24, [(.lst 1 true [])], false⟩,
  some ⟨.func, 1, 8, [.junk], false⟩,
  some ⟨.func, 1, 8, [.junk], false⟩,
  some ⟨(.slice 77), 1, 24, [(.lst 4 true [])], false⟩,
  some ⟨.func, 1, 8, [.junk], false⟩,
  some ⟨(.struct [(0, 30), (2, 30)]), 4, 32, [(i 0), (i 0), (i 0), (i 0)], true⟩,
  some ⟨(.struct [(0, 30), (2, 30)]), 4, 32, [(i 0), (i 0), (i 0), (i 0)], true⟩,
  some ⟨.func, 1, 8, [.junk], false⟩,
  some ⟨(.int .i64), 1, 8, [(i 0)], false⟩,
  some ⟨(.tup [3, 79]), 1, 0, [.junk], false⟩,
  some ⟨.func, 1, 8, [.junk], false⟩,
  some ⟨.func, 1, 8, [.junk], false⟩,
  some ⟨.func, 1, 8, [.junk], false⟩,
  some ⟨.func, 1, 8, [.junk], false⟩,
  some ⟨.func, 1, 8, [.junk], false⟩,
  some ⟨(.int .u32), 1, 4, [(.int .u32 (0))], false⟩,
  some ⟨.func, 1, 8, [.junk], false⟩,
  some ⟨(.int .u64), 1, 8, [(.int .u64 (0))], false⟩,
  some ⟨.func, 1, 8, [.junk], false⟩,
  some ⟨.func, 1, 8, [.junk], false⟩,
  some ⟨.func, 1, 8, [.junk], false⟩,
  some ⟨(.int .u64), 1, 8, [(.int .u64 (0))], false⟩,
  some ⟨.func, 1, 8, [.junk], false⟩,
  some ⟨.func, 1, 8, [.junk], false⟩,
  some ⟨.func, 1, 8, [.junk], false⟩,
  some ⟨(.ptr 3), 1, 8, [.junk], false⟩,
  some ⟨.func, 1, 8, [.junk], false⟩,
  some ⟨.func, 1, 8, [.junk], false⟩,
  some ⟨.func, 1, 8, [.junk], false⟩,
  some ⟨.func, 1, 8, [.junk], false⟩,
  some ⟨(.ptr 92), 1, 8, [.junk], false⟩,
  some ⟨(.tup [3, 3]), 1, 0, [.junk], false⟩,
  some ⟨.func, 1, 8, [.junk], false⟩,
  some ⟨.func, 1, 8, [.junk], false⟩,
  some ⟨.func, 1, 8, [.junk], false⟩,
  some ⟨(.struct [(0, 17), (1, 17), (2, 17), (3, 9)]), 4, 40, [.junk], false⟩,
  some ⟨(.struct [(0, 17), (1, 17), (2, 17), (3, 9)]), 4, 40, [.junk], false⟩,
  some ⟨(.arr 0 16), 0, 0, [], false⟩,
  some ⟨(.struct [(0, 108)]), 0, 0, [], false⟩,
  some ⟨(.struct [(0, 108)]), 0, 0, [], false⟩,
  some ⟨.func, 1, 8, [.junk], false⟩,
  some ⟨(.int .u8), 1, 1, [(.int .u8 (0))], false⟩,
  some ⟨(.int .u8), 1, 1, [(.int .u8 (0))], false⟩,
  some ⟨.func, 1, 8, [.junk], false⟩,
  some ⟨(.ptr 5), 1, 8, [.junk], false⟩,
  some ⟨(.int .i32), 1, 4, [(.int .i32 (0))], false⟩,
  some ⟨(.int .i32), 1, 4, [(.int .i32 (0))], false⟩,
  some ⟨(.struct [(0, 12), (1, 12), (2, 86), (3, 112), (4, 5), (5, 5), (6, 113), (7, 114), (8, 115), (9, 116), (10, 117)]), 11, 48, [.junk], false⟩,
  some ⟨(.struct [(0, 12), (1, 12), (2, 86), (3, 112), (4, 5), (5, 5), (6, 113), (7, 114), (8, 115), (9, 116), (10, 117)]), 11, 48, [.junk], false⟩,
  some ⟨.other, 1, 8, [.junk], false⟩]
def wfs : List Nat := [28, 55, 14, 15, 43]
def xfs : List Nat := []
def rfs : List (Nat × Bool × Bool × Bool) := []
def tls : List Nat := []
def pfs : List Nat := [25]
def sgs : List (Nat × Bool) := [(0, false), (1, false), (2, false), (3, false), (4, false), (5, false), (6, false), (7, true), (8, false), (9, false), (10, false), (11, true), (12, true), (13, false), (16, false), (17, false), (18, false), (19, false), (20, true), (21, false), (22, true), (23, false), (24, false), (25, true), (26, false), (27, false), (29, false), (30, false), (31, false), (32, false), (33, false), (34, false), (35, false), (36, false), (37, true), (38, false), (39, false), (40, false), (41, false), (42, false), (44, false), (45, false), (46, false), (47, false), (48, true), (49, false), (50, false), (51, false), (52, false), (53, true), (54, false), (56, false), (57, false), (58, false), (59, false), (60, false), (61, false), (62, false), (63, false), (64, false), (65, false), (66, false), (67, true), (68, false), (69, false), (70, false), (71, false), (72, true), (73, false), (74, false), (75, false), (76, false), (77, false), (78, false), (79, false), (80, false), (81, false), (82, false), (83, false), (84, false), (85, false), (86, false), (87, false), (88, false), (89, false), (90, false), (91, false), (92, false), (93, false), (94, false), (95, false), (96, false), (97, false), (98, false), (99, false), (100, false), (101, false), (102, false), (103, false), (104, false), (105, false), (106, false), (107, false)]
def i4 : Comp := ⟨(.seq (.ops [s 4 (.box 2 (t 1)),
  s 6 (.mv (c (.bool false)))])
 (.seq (.ops [s 7 (.mv (c (i 1048576)))])
 (.seq (.ops [s 15 (.mv (t 0)),
  s 16 (.mv (t 7)),
  k 17 5 [(t 15), (t 16)] .sc,
  s 7 (.mv (t 17))])
 (.seq (.seq (.ops [s 18 (.mv (t 7)),
  s 19 (.bin .lss (t 18) (c (i 0)))])
 (.cond (t 19) (.seq (.ops [s 6 (.mv (c (.bool true)))])
 .ret) .skip))
 (.seq (.ops [s 20 (.mv (t 0)),
  k 21 7 [(t 20)] .lin,
  s 22 (.ldB 4 0 2 true true),
  k 23 8 [(t 22)] .sc,
  s 24 (.mv (t 2)),
  k 25 11 [(t 21), (t 23), (t 24)] .lin,
  s 8 (.mv (t 25))])
 (.seq (.ops [s 26 (.mv (t 0)),
  k 27 7 [(t 26)] .lin,
  s 9 (.mv (t 27))])
 (.seq (.ops [s 28 (.mv (t 9)),
  s 29 (.ldB 4 0 2 true true),
  k 30 8 [(t 29)] .sc,
  s 31 (.mv (t 2)),
  k 32 12 [(t 28), (t 30), (t 31)] .lin,
  s 10 (.mv (t 32))])
 (.seq (.seq (.ops [s 33 (.mv (t 10)),
  s 34 (.mv (t 8)),
  k 35 13 [(t 33), (t 34)] .sc,
  s 36 (.not (t 35))])
 (.cond (t 36) (.seq (.ops [s 6 (.mv (c (.bool false)))])
 .ret) .skip))
 (.seq (.seq (.ops [s 37 (.mv (t 9)),
  s 38 (.mv (t 0)),
  k 39 7 [(t 38)] .lin,
  k 40 10 [(t 37), (t 39)] .sc,
  s 41 (.not (t 40))])
 (.cond (t 41) (.seq (.ops [s 6 (.mv (c (.bool false)))])
 .ret) .skip))
 (.seq (.ops [s 11 (.mv (c (i 1)))])
 (.seq (.seq (.ops [s 42 (.mv (t 9)),
  s 43 (.mv (t 11))])
 (.seq (opM 44 14 9 [(t 43)])
 (.ops [s 11 (.mv (t 44))])))
 (.seq (.seq (.ops [s 45 (.mv (t 11)),
  s 46 (.bin .lss (t 45) (c (i 0))),
  s 47 (.mv (t 46)),
  sg [(47, false)] 48 (.mv (t 10)),
  sg [(47, false)] 49 (.mv (t 8)),
  kg [(47, false)] 50 13 [(t 48), (t 49)] .sc,
  sg [(47, false)] 51 (.not (t 50)),
  s 52 (.pick (t 47) (c (.bool true)) (t 51))])
 (.cond (t 52) (.seq (.ops [s 6 (.mv (c (.bool false)))])
 .ret) .skip))
 (.seq (.ops [s 12 (.mv (c (i 1)))])
 (.seq (.seq (.ops [s 53 (.mv (t 10)),
  s 54 (.mv (t 12))])
 (.seq (opM 55 15 10 [(t 54)])
 (.ops [s 12 (.mv (t 55))])))
 (.seq (.ops [s 13 (.mv (c (i 1)))])
 (.seq (.ops [s 56 (.mv (t 10)),
  s 57 (.mv (t 13)),
  k 58 16 [(t 56), (t 57)] .sc,
  s 13 (.mv (t 58))])
 (.seq (.seq (.ops [s 59 (.mv (t 13)),
  s 60 (.bin .lss (t 59) (c (i 0)))])
 (.cond (t 60) (.seq (.ops [s 6 (.mv (c (.bool false)))])
 .ret) .skip))
 (.seq (.seq (.ops [s 61 (.mv (t 13)),
  s 62 (.mv (t 12)),
  s 63 (.bin .neq (t 61) (t 62))])
 (.cond (t 63) (.seq (.ops [s 6 (.mv (c (.bool false)))])
 .ret) .skip))
 (.seq (.ops [s 64 (.mv (t 0)),
  k 65 7 [(t 64)] .lin,
  s 66 (.ldB 4 0 2 true true),
  k 67 8 [(t 66)] .sc,
  s 68 (.mv (t 2)),
  k 69 12 [(t 65), (t 67), (t 68)] .lin,
  s 14 (.mv (t 69))])
 (.seq (.seq (.ops [s 70 (.mv (t 14)),
  s 71 (.mv (t 8)),
  k 72 13 [(t 70), (t 71)] .sc,
  s 73 (.not (t 72))])
 (.cond (t 73) (.seq (.ops [s 6 (.mv (c (.bool false)))])
 .ret) .skip))
 (.seq (.ops [s 13 (.mv (c (i 1)))])
 (.seq (.ops [s 74 (.mv (t 10)),
  s 75 (.mv (t 13)),
  k 76 16 [(t 74), (t 75)] .sc,
  s 13 (.mv (t 76))])
 (.seq (.seq (.ops [s 77 (.mv (t 13)),
  s 78 (.bin .lss (t 77) (c (i 0)))])
 (.cond (t 78) (.seq (.ops [s 6 (.mv (c (.bool false)))])
 .ret) .skip))
 (.seq (.seq (.ops [s 79 (.mv (t 13)),
  s 80 (.mv (t 12)),
  s 81 (.bin .neq (t 79) (t 80))])
 (.cond (t 81) (.seq (.ops [s 6 (.mv (c (.bool false)))])
 .ret) .skip))
 (.seq (.ops [s 6 (.mv (c (.bool true)))])
 .ret))))))))))))))))))))))))), none, [6], [false, true, true]⟩
def i5 : Comp := ⟨(.seq (.ops [s 4 (.mv (c (i 0)))])
 (.seq (.ops [s 6 (.mv (t 1)),
  s 7 (.mv (t 0)),
  s 8 (.len false (t 7)),
  s 9 (.bin .sub (t 6) (t 8)),
  s 1 (.mv (t 9))])
 (.seq (.seq (.ops [s 10 (.mv (t 1)),
  s 11 (.bin .lss (t 10) (c (i 0)))])
 (.cond (t 11) (.seq (.ops [s 4 (.mv (c (i (-1))))])
 .ret) .skip))
 (.seq (.seq (.ops [s 5 (.mv (c (i 0)))])
 (.block 0 (.loop (.seq (.seq (.ops [s 12 (.mv (t 5)),
  s 13 (.mv (t 0)),
  s 14 (.len false (t 13)),
  s 15 (.bin .lss (t 12) (t 14))])
 (.cond (t 15) .skip (.exit 0)))
 (.seq (.block 1 (.seq (.ops [s 18 (.mv (t 0)),
  s 19 (.mv (t 5)),
  s 20 (.idx (t 18) (t 19) 5),
  s 21 (.ldE 18 20 0 5 true false 5),
  s 22 (.mv (t 1)),
  k 23 17 [(t 21), (t 22)] .sc,
  s 1 (.mv (t 23))])
 (.seq (.ops [s 24 (.mv (t 1)),
  s 25 (.bin .lss (t 24) (c (i 0)))])
 (.cond (t 25) (.seq (.ops [s 4 (.mv (c (i (-1))))])
 .ret) .skip))))
 (.ops [s 16 (.mv (t 5)),
  s 17 (.bin .add (t 16) (c (i 1))),
  s 5 (.mv (t 17))]))))))
 (.seq (.ops [s 26 (.mv (t 1)),
  s 4 (.mv (t 26))])
 .ret))))), none, [4], [false, true]⟩
def i7 : Comp := ⟨(.seq (.ops [s 2 (.mv (c (.lst 5 true [])))])
 (.seq (.ops [s 5 (.mv (t 0)),
  s 6 (.len false (t 5)),
  s 7 (.mks 5 64 [(i 0), (i 0), (i 0), (.str (bs [])), (.lst 2 true [])] (t 6)),
  s 3 (.mv (t 7))])
 (.seq (.seq (.ops [s 4 (.mv (c (i 0)))])
 (.block 0 (.loop (.seq (.seq (.ops [s 8 (.mv (t 4)),
  s 9 (.mv (t 0)),
  s 10 (.len false (t 9)),
  s 11 (.bin .lss (t 8) (t 10))])
 (.cond (t 11) .skip (.exit 0)))
 (.seq (.block 1 (.ops [s 14 (.mv (c .junk)),
  s 15 (.mv (t 4)),
  s 16 (.mv (t 0)),
  s 17 (.mv (t 4)),
  s 18 (.idx (t 16) (t 17) 5),
  s 19 (.ldE 16 18 0 5 true false 5),
  k 20 22 [(t 19)] .lin,
  s 21 (.idx (t 3) (t 15) 5),
  s 3 (.stF 3 21 5 (t 20))]))
 (.ops [s 12 (.mv (t 4)),
  s 13 (.bin .add (t 12) (c (i 1))),
  s 4 (.mv (t 13))]))))))
 (.seq (.ops [s 22 (.mv (c .junk)),
  s 2 (.mv (t 3))])
 .ret)))), none, [2], [false]⟩
def i8 : Comp := ⟨(.seq (.ops [s 1 (.box 2 (t 0)),
  s 2 (.alc [(i 0), (i 0)])])
 (.seq (.ops [s 3 (.alc [(i 0), (i 0)])])
 (.seq (.ops [s 4 (.mv (c (i 0))),
  s 5 (.ldB 1 0 1 false true),
  s 6 (.mv (c (i 0))),
  s 3 (.stB 3 0 1 (t 5) false)])
 (.seq (.ops [s 7 (.mv (c (i 0))),
  s 8 (.ldB 1 1 1 false true),
  s 9 (.mv (c (i 0))),
  s 3 (.stB 3 1 1 (t 8) false)])
 (.seq (.ops [s 10 (.ldB 3 0 2 true true),
  s 2 (.stB 2 0 2 (t 10) false)])
 .ret))))), (some ⟨2, 30, 2, true, false⟩), [], [true]⟩
def i10 : Comp := ⟨(.seq (.ops [s 4 (.mv (c (.bool false)))])
 (.seq (.seq (.ops [s 6 (.mv (t 0)),
  s 7 (.len false (t 6)),
  s 8 (.mv (t 1)),
  s 9 (.len false (t 8)),
  s 10 (.bin .neq (t 7) (t 9))])
 (.cond (t 10) (.seq (.ops [s 4 (.mv (c (.bool false)))])
 .ret) .skip))
 (.seq (.seq (.ops [s 5 (.mv (c (i 0)))])
 (.block 0 (.loop (.seq (.seq (.ops [s 11 (.mv (t 5)),
  s 12 (.mv (t 0)),
  s 13 (.len false (t 12)),
  s 14 (.bin .lss (t 11) (t 13))])
 (.cond (t 14) .skip (.exit 0)))
 (.seq (.block 1 (.seq (.ops [s 17 (.mv (t 0)),
  s 18 (.mv (t 5)),
  s 19 (.idx (t 17) (t 18) 5),
  s 20 (.ldE 17 19 0 5 true false 5),
  s 21 (.mv (t 1)),
  s 22 (.mv (t 5)),
  s 23 (.idx (t 21) (t 22) 5),
  s 24 (.ldE 21 23 0 5 true false 5),
  k 25 26 [(t 20), (t 24)] .sc,
  s 26 (.not (t 25))])
 (.cond (t 26) (.seq (.ops [s 4 (.mv (c (.bool false)))])
 .ret) .skip)))
 (.ops [s 15 (.mv (t 5)),
  s 16 (.bin .add (t 15) (c (i 1))),
  s 5 (.mv (t 16))]))))))
 (.seq (.ops [s 4 (.mv (c (.bool true)))])
 .ret)))), none, [4], [false, false]⟩
def i11 : Comp := ⟨(.seq (.ops [s 4 (.box 2 (t 1)),
  s 6 (.mv (c (.lst 2 true [])))])
 (.seq (.ops [s 12 (.bsl 2 []),
  s 7 (.mv (t 12))])
 (.seq (.seq (.ops [s 13 (.mv (t 0)),
  k 14 18 [(t 13)] .sc,
  s 15 (.not (t 14)),
  s 16 (.mv (t 15)),
  sg [(16, false)] 17 (.ldB 4 0 2 true true),
  kg [(16, false)] 18 19 [(t 17)] .sc,
  sg [(16, false)] 19 (.not (t 18)),
  s 20 (.pick (t 16) (c (.bool true)) (t 19))])
 (.cond (t 20) (.seq (.ops [s 21 (.mv (t 7)),
  s 6 (.mv (t 21))])
 .ret) .skip))
 (.seq (.ops [s 23 (.mv (t 0)),
  s 24 (.ldB 4 0 2 true true),
  s 25 (.mv (t 2)),
  k 26 20 [(t 23), (t 24), (t 25)] .tup,
  s 22 (.mv (t 26)),
  s 27 (.ext 22 0 false),
  s 28 (.ext 22 1 false),
  s 8 (.mv (t 27)),
  s 9 (.mv (t 28))])
 (.seq (.seq (.ops [s 10 (.mv (c (i 0)))])
 (.block 0 (.loop (.seq (.seq (.ops [s 29 (.mv (t 10)),
  s 30 (.mv (t 8)),
  s 31 (.len false (t 30)),
  s 32 (.bin .lss (t 29) (t 31))])
 (.cond (t 32) .skip (.exit 0)))
 (.seq (.block 1 (.seq (.ops [s 35 (.mv (t 7)),
  s 36 (.len false (t 35)),
  s 11 (.mv (t 36))])
 (.seq (.block 2 (.loop (.seq (.seq (.ops [s 37 (.mv (t 11)),
  s 38 (.bin .gtr (t 37) (c (i 0))),
  s 39 (.mv (t 38)),
  sg [(39, true)] 40 (.mv (t 8)),
  sg [(39, true)] 41 (.mv (t 10)),
  sg [(39, true)] 42 (.idx (t 40) (t 41) 2),
  sg [(39, true)] 43 (.ldE 40 42 0 2 true true 2),
  sg [(39, true)] 44 (.mv (t 7)),
  sg [(39, true)] 45 (.mv (t 11)),
  sg [(39, true)] 46 (.bin .sub (t 45) (c (i 1))),
  sg [(39, true)] 47 (.idx (t 44) (t 46) 2),
  sg [(39, true)] 48 (.ldE 44 47 0 2 true true 2),
  kg [(39, true)] 49 27 [(t 43), (t 48)] .sc,
  s 50 (.pick (t 39) (t 49) (c (.bool false)))])
 (.cond (t 50) .skip (.exit 2)))
 (.block 3 (.ops [s 51 (.mv (t 11)),
  s 52 (.bin .sub (t 51) (c (i 1))),
  s 11 (.mv (t 52))])))))
 (.ops [s 53 (.bsl 2 []),
  s 54 (.mv (t 7)),
  s 55 (.mv (t 11)),
  s 56 (.sl 2 (t 54) none (some (t 55))),
  s 57 (.apf (t 53) (t 56) 2 16),
  s 58 (.mv (t 8)),
  s 59 (.mv (t 10)),
  s 60 (.idx (t 58) (t 59) 2),
  s 61 (.ldE 58 60 0 2 true true 2),
  s 62 (.bsl 2 [(t 61)]),
  s 63 (.app (t 57) (t 62) 2 16),
  s 64 (.mv (t 7)),
  s 65 (.mv (t 11)),
  s 66 (.sl 2 (t 64) (some (t 65)) none),
  s 67 (.apf (t 63) (t 66) 2 16),
  s 7 (.mv (t 67))]))))
 (.ops [s 33 (.mv (t 10)),
  s 34 (.bin .add (t 33) (c (i 1))),
  s 10 (.mv (t 34))]))))))
 (.seq (.ops [s 68 (.mv (t 7)),
  s 6 (.mv (t 68))])
 .ret)))))), none, [6], [false, true, true]⟩
def i13 : Comp := ⟨(.seq (.ops [s 4 (.mv (c (.bool false)))])
 (.seq (.seq (.ops [s 6 (.mv (t 0)),
  s 7 (.len false (t 6)),
  s 8 (.mv (t 1)),
  s 9 (.len false (t 8)),
  s 10 (.bin .neq (t 7) (t 9))])
 (.cond (t 10) (.seq (.ops [s 4 (.mv (c (.bool false)))])
 .ret) .skip))
 (.seq (.seq (.ops [s 5 (.mv (c (i 0)))])
 (.block 0 (.loop (.seq (.seq (.ops [s 11 (.mv (t 5)),
  s 12 (.mv (t 0)),
  s 13 (.len false (t 12)),
  s 14 (.bin .lss (t 11) (t 13))])
 (.cond (t 14) .skip (.exit 0)))
 (.seq (.block 1 (.seq (.ops [s 17 (.mv (t 0)),
  s 18 (.mv (t 5)),
  s 19 (.idx (t 17) (t 18) 2),
  s 20 (.ldE 17 19 0 2 true true 2),
  s 21 (.mv (t 1)),
  s 22 (.mv (t 5)),
  s 23 (.idx (t 21) (t 22) 2),
  s 24 (.ldE 21 23 0 2 true true 2),
  k 25 31 [(t 20), (t 24)] .sc,
  s 26 (.not (t 25))])
 (.cond (t 26) (.seq (.ops [s 4 (.mv (c (.bool false)))])
 .ret) .skip)))
 (.ops [s 15 (.mv (t 5)),
  s 16 (.bin .add (t 15) (c (i 1))),
  s 5 (.mv (t 16))]))))))
 (.seq (.ops [s 4 (.mv (c (.bool true)))])
 .ret)))), none, [4], [false, false]⟩
def i14 : Comp := ⟨(.seq (.ops [s 4 (.mv (c (i 0)))])
 (.seq (.seq (.ops [s 5 (.mv (c (i 0)))])
 (.block 0 (.loop (.seq (.seq (.ops [s 6 (.mv (t 5)),
  s 7 (.mv (t 0)),
  s 8 (.len false (t 7)),
  s 9 (.bin .lss (t 6) (t 8))])
 (.cond (t 9) .skip (.exit 0)))
 (.seq (.block 1 (.seq (.seq (.ops [s 12 (.mv (t 0)),
  s 13 (.mv (t 5)),
  s 14 (.mv (t 1)),
  s 15 (.idx (t 12) (t 13) 5),
  s 16 (.mv (t 15))])
 (.seq (opW 0 16 0 1 5 (t 14))
 (.ops [])))
 (.seq (.ops [s 17 (.mv (t 1)),
  s 18 (.bin .add (t 17) (c (i 1))),
  s 1 (.mv (t 18))])
 (.seq (.seq (.ops [s 19 (.mv (t 0)),
  s 20 (.mv (t 5)),
  s 21 (.mv (t 1)),
  s 22 (.idx (t 19) (t 20) 5),
  s 23 (.mv (t 22))])
 (.seq (opW 0 23 1 1 5 (t 21))
 (.ops [])))
 (.seq (.ops [s 24 (.mv (t 1)),
  s 25 (.bin .add (t 24) (c (i 1))),
  s 1 (.mv (t 25))])
 (.seq (.seq (.ops [s 26 (.mv (t 0)),
  s 27 (.mv (t 5)),
  s 28 (.mv (t 1)),
  s 29 (.idx (t 26) (t 27) 5),
  s 30 (.mv (t 29))])
 (.seq (opW 0 30 2 1 5 (t 28))
 (.ops [])))
 (.seq (.ops [s 31 (.mv (t 1)),
  s 32 (.bin .add (t 31) (c (i 1))),
  s 1 (.mv (t 32))])
 (.seq (.seq (.ops [s 33 (.mv (t 0)),
  s 34 (.mv (t 5)),
  s 35 (.mv (t 1)),
  k 36 32 [(t 35)] .sc,
  s 37 (.idx (t 33) (t 34) 5),
  s 38 (.mv (t 37))])
 (.seq (opW 0 38 3 1 5 (t 36))
 (.ops [])))
 (.seq (.ops [s 39 (.mv (t 1)),
  s 40 (.bin .add (t 39) (c (i 1))),
  s 1 (.mv (t 40))])
 (.seq (.ops [s 41 (.mv (t 0)),
  s 42 (.mv (t 5)),
  s 43 (.idx (t 41) (t 42) 5),
  s 44 (.mv (t 43)),
  s 45 (.ldE 41 44 4 1 false false 5),
  s 46 (.mv (t 1))])
 (.seq (opE 47 15 0 44 4 5 [(t 46)])
 (.ops [s 1 (.mv (t 47))]))))))))))))
 (.ops [s 10 (.mv (t 5)),
  s 11 (.bin .add (t 10) (c (i 1))),
  s 5 (.mv (t 11))]))))))
 (.seq (.ops [s 48 (.mv (t 1)),
  s 4 (.mv (t 48))])
 .ret))), none, [4], [true]⟩
def i15 : Comp := ⟨(.seq (.ops [s 4 (.mv (c (i 0)))])
 (.seq (.seq (.ops [s 5 (.mv (c (i 0)))])
 (.block 0 (.loop (.seq (.seq (.ops [s 6 (.mv (t 5)),
  s 7 (.mv (t 0)),
  s 8 (.len false (t 7)),
  s 9 (.bin .lss (t 6) (t 8))])
 (.cond (t 9) .skip (.exit 0)))
 (.seq (.block 1 (.seq (.seq (.ops [s 12 (.mv (t 0)),
  s 13 (.mv (t 5)),
  s 14 (.mv (t 1)),
  s 15 (.idx (t 12) (t 13) 2),
  s 16 (.mv (t 15))])
 (.seq (opW 0 16 0 1 2 (t 14))
 (.ops [])))
 (.seq (.ops [s 17 (.mv (t 1)),
  s 18 (.bin .add (t 17) (c (i 1))),
  s 1 (.mv (t 18))])
 (.seq (.seq (.ops [s 19 (.mv (t 0)),
  s 20 (.mv (t 5)),
  s 21 (.mv (t 1)),
  s 22 (.idx (t 19) (t 20) 2),
  s 23 (.mv (t 22))])
 (.seq (opW 0 23 1 1 2 (t 21))
 (.ops [])))
 (.ops [s 24 (.mv (t 1)),
  s 25 (.bin .add (t 24) (c (i 1))),
  s 1 (.mv (t 25))])))))
 (.ops [s 10 (.mv (t 5)),
  s 11 (.bin .add (t 10) (c (i 1))),
  s 5 (.mv (t 11))]))))))
 (.seq (.ops [s 26 (.mv (t 1)),
  s 4 (.mv (t 26))])
 .ret))), none, [4], [true]⟩
def i16 : Comp := ⟨(.seq (.ops [s 4 (.mv (c (i 0)))])
 (.seq (.seq (.ops [s 5 (.mv (c (i 0)))])
 (.block 0 (.loop (.seq (.seq (.ops [s 6 (.mv (t 5)),
  s 7 (.mv (t 0)),
  s 8 (.len false (t 7)),
  s 9 (.bin .lss (t 6) (t 8))])
 (.cond (t 9) .skip (.exit 0)))
 (.seq (.block 1 (.seq (.seq (.ops [s 12 (.mv (t 0)),
  s 13 (.mv (t 5)),
  s 14 (.idx (t 12) (t 13) 2),
  s 15 (.mv (t 14)),
  s 16 (.ldE 12 15 0 1 false true 2),
  s 17 (.mv (t 1)),
  s 18 (.bin .neq (t 16) (t 17))])
 (.cond (t 18) (.seq (.ops [s 4 (.mv (c (i (-1))))])
 .ret) .skip))
 (.seq (.ops [s 19 (.mv (t 1)),
  s 20 (.bin .add (t 19) (c (i 1))),
  s 1 (.mv (t 20))])
 (.seq (.seq (.ops [s 21 (.mv (t 0)),
  s 22 (.mv (t 5)),
  s 23 (.idx (t 21) (t 22) 2),
  s 24 (.mv (t 23)),
  s 25 (.ldE 21 24 1 1 false true 2),
  s 26 (.mv (t 1)),
  s 27 (.bin .neq (t 25) (t 26))])
 (.cond (t 27) (.seq (.ops [s 4 (.mv (c (i (-1))))])
 .ret) .skip))
 (.ops [s 28 (.mv (t 1)),
  s 29 (.bin .add (t 28) (c (i 1))),
  s 1 (.mv (t 29))])))))
 (.ops [s 10 (.mv (t 5)),
  s 11 (.bin .add (t 10) (c (i 1))),
  s 5 (.mv (t 11))]))))))
 (.seq (.ops [s 30 (.mv (t 1)),
  s 4 (.mv (t 30))])
 .ret))), none, [4], [false, true]⟩
def i17 : Comp := ⟨(.seq (.ops [s 2 (.box 5 (t 0)),
  s 4 (.mv (c (i 0)))])
 (.seq (.ops [s 5 (.mv (t 1)),
  s 6 (.mv (c (i 0))),
  s 7 (.ldB 2 3 1 false true),
  s 8 (.len true (t 7)),
  s 9 (.bin .sub (t 5) (t 8)),
  s 1 (.mv (t 9))])
 (.seq (.seq (.ops [s 10 (.mv (t 1)),
  s 11 (.bin .lss (t 10) (c (i 0)))])
 (.cond (t 11) (.seq (.ops [s 4 (.mv (c (i (-1))))])
 .ret) .skip))
 (.seq (.ops [s 12 (.mv (c (i 0))),
  s 13 (.ldB 2 4 1 false false),
  s 14 (.mv (t 1)),
  k 15 33 [(t 13), (t 14)] .sc,
  s 1 (.mv (t 15))])
 (.seq (.seq (.ops [s 16 (.mv (t 1)),
  s 17 (.bin .lss (t 16) (c (i 0)))])
 (.cond (t 17) (.seq (.ops [s 4 (.mv (c (i (-1))))])
 .ret) .skip))
 (.seq (.ops [s 18 (.mv (t 1)),
  s 4 (.mv (t 18))])
 .ret)))))), none, [4], [false, true]⟩
def i18 : Comp := ⟨(.seq (.ops [s 2 (.mv (c (.bool false)))])
 (.seq (.seq (.ops [s 3 (.mv (c (i 0)))])
 (.block 0 (.loop (.seq (.seq (.ops [s 4 (.mv (t 3)),
  s 5 (.mv (t 0)),
  s 6 (.len false (t 5)),
  s 7 (.bin .lss (t 4) (t 6))])
 (.cond (t 7) .skip (.exit 0)))
 (.seq (.block 1 (.seq (.ops [s 10 (.mv (t 0)),
  s 11 (.mv (t 3)),
  s 12 (.idx (t 10) (t 11) 5),
  s 13 (.ldE 10 12 0 5 true false 5),
  k 14 34 [(t 13)] .sc,
  s 15 (.not (t 14)),
  s 16 (.mv (t 15)),
  sg [(16, false)] 17 (.mv (t 3)),
  sg [(16, false)] 18 (.bin .gtr (t 17) (c (i 0))),
  sg [(16, false)] 19 (.mv (t 18)),
  sg [(19, true), (16, false)] 20 (.mv (t 0)),
  sg [(19, true), (16, false)] 21 (.mv (t 3)),
  sg [(19, true), (16, false)] 22 (.bin .sub (t 21) (c (i 1))),
  sg [(19, true), (16, false)] 23 (.idx (t 20) (t 22) 5),
  sg [(19, true), (16, false)] 24 (.mv (t 23)),
  sg [(19, true), (16, false)] 25 (.ldE 20 24 0 1 false true 5),
  sg [(19, true), (16, false)] 26 (.mv (t 0)),
  sg [(19, true), (16, false)] 27 (.mv (t 3)),
  sg [(19, true), (16, false)] 28 (.idx (t 26) (t 27) 5),
  sg [(19, true), (16, false)] 29 (.mv (t 28)),
  sg [(19, true), (16, false)] 30 (.ldE 26 29 0 1 false true 5),
  sg [(19, true), (16, false)] 31 (.bin .geq (t 25) (t 30)),
  sg [(16, false)] 32 (.pick (t 19) (t 31) (c (.bool false))),
  s 33 (.pick (t 16) (c (.bool true)) (t 32))])
 (.cond (t 33) (.seq (.ops [s 2 (.mv (c (.bool false)))])
 .ret) .skip)))
 (.ops [s 8 (.mv (t 3)),
  s 9 (.bin .add (t 8) (c (i 1))),
  s 3 (.mv (t 9))]))))))
 (.seq (.ops [s 34 (.mv (t 0)),
  s 35 (.len false (t 34)),
  s 36 (.bin .leq (t 35) (c (i 16))),
  s 2 (.mv (t 36))])
 .ret))), none, [2], [false]⟩
def i19 : Comp := ⟨(.seq (.ops [s 1 (.box 2 (t 0)),
  s 2 (.mv (c (.bool false)))])
 (.seq (.ops [s 3 (.mv (c (i 0))),
  s 4 (.ldB 1 0 1 false true),
  k 5 35 [(t 4), (c (i 0)), (c (i 200))] .sc,
  s 6 (.mv (t 5)),
  sg [(6, true)] 7 (.mv (c (i 0))),
  sg [(6, true)] 8 (.ldB 1 1 1 false true),
  kg [(6, true)] 9 35 [(t 8), (c (i 0)), (c (i 200))] .sc,
  s 10 (.pick (t 6) (t 9) (c (.bool false))),
  s 2 (.mv (t 10))])
 .ret)), none, [2], [true]⟩
def i20 : Comp := ⟨(.seq (.ops [s 4 (.box 2 (t 1)),
  s 6 (.mv (c (.lst 2 true []))),
  s 7 (.mv (c (.lst 1 true [])))])
 (.seq (.ops [s 18 (.ldB 4 0 2 true true),
  s 19 (.bsl 2 [(t 18)]),
  s 8 (.mv (t 19))])
 (.seq (.ops [s 20 (.bsl 1 [(c (i 0))]),
  s 9 (.mv (t 20))])
 (.seq (.seq (.ops [s 10 (.mv (c (.bool true)))])
 (.block 0 (.loop (.seq (.seq (.ops [s 21 (.mv (t 10))])
 (.cond (t 21) .skip (.exit 0)))
 (.block 1 (.seq (.ops [s 10 (.mv (c (.bool false)))])
 (.seq (.ops [s 11 (.mv (c (i 0)))])
 (.block 2 (.loop (.seq (.seq (.ops [s 22 (.mv (t 11)),
  s 23 (.mv (t 0)),
  s 24 (.len false (t 23)),
  s 25 (.bin .lss (t 22) (t 24))])
 (.cond (t 25) .skip (.exit 2)))
 (.seq (.block 3 (.seq (.ops [s 28 (.mv (t 0)),
  s 29 (.mv (t 11)),
  s 30 (.idx (t 28) (t 29) 5),
  s 31 (.ldE 28 30 0 5 true false 5),
  s 12 (.alc [(i 0), (i 0), (i 0), (.str (bs [])), (.lst 2 true [])]),
  s 12 (.stB 12 0 5 (t 31) true)])
 (.seq (.seq (.ops [s 32 (.mv (c (i 0))),
  s 33 (.ldB 12 1 1 false true),
  s 34 (.bin .neq (t 33) (c (i 2))),
  s 35 (.mv (t 34)),
  sg [(35, false)] 36 (.mv (c (i 0))),
  sg [(35, false)] 37 (.ldB 12 2 1 false true),
  sg [(35, false)] 38 (.mv (t 2)),
  sg [(35, false)] 39 (.bin .lss (t 37) (t 38)),
  s 40 (.pick (t 35) (c (.bool true)) (t 39))])
 (.cond (t 40) (.exit 3) .skip))
 (.seq (.ops [s 41 (.mv (c (i 0))),
  s 42 (.ldB 12 4 1 false false),
  s 43 (.idx (t 42) (c (i 0)) 2),
  s 44 (.ldE 42 43 0 2 true true 2),
  s 45 (.mv (c (i 0))),
  s 46 (.ldB 12 4 1 false false),
  s 47 (.mv (c (i 0))),
  s 48 (.ldB 12 4 1 false false),
  s 49 (.len false (t 48)),
  s 50 (.bin .sub (t 49) (c (i 1))),
  s 51 (.idx (t 46) (t 50) 2),
  s 52 (.ldE 46 51 0 2 true true 2),
  s 53 (.bsl 2 [(t 44), (t 52)]),
  s 13 (.mv (t 53))])
 (.seq (.ops [s 14 (.mv (c (i 0)))])
 (.block 4 (.loop (.seq (.seq (.ops [s 54 (.mv (t 14)),
  s 55 (.bin .lss (t 54) (c (i 2)))])
 (.cond (t 55) .skip (.exit 4)))
 (.seq (.block 5 (.seq (.ops [s 58 (.mv (t 8)),
  s 59 (.mv (t 13)),
  s 60 (.mv (t 14)),
  s 61 (.idx (t 59) (t 60) 2),
  s 62 (.ldE 59 61 0 2 true true 2),
  k 63 21 [(t 58), (t 62)] .sc,
  s 15 (.mv (t 63))])
 (.seq (.ops [s 64 (.mv (t 8)),
  s 65 (.mv (t 13)),
  s 66 (.mv (t 14)),
  s 67 (.bin .sub (c (i 1)) (t 66)),
  s 68 (.idx (t 65) (t 67) 2),
  s 69 (.ldE 65 68 0 2 true true 2),
  k 70 21 [(t 64), (t 69)] .sc,
  s 16 (.mv (t 70))])
 (.seq (.seq (.ops [s 71 (.mv (t 15)),
  s 72 (.bin .lss (t 71) (c (i 0)))])
 (.cond (t 72) (.exit 5) .skip))
 (.seq (.ops [s 73 (.mv (t 9)),
  s 74 (.mv (t 15)),
  s 75 (.idx (t 73) (t 74) 1),
  s 76 (.ldE 73 75 0 1 false true 1),
  s 77 (.mv (c (i 0))),
  s 78 (.ldB 12 4 1 false false),
  k 79 36 [(t 78)] .sc,
  s 80 (.bin .add (t 76) (t 79)),
  s 17 (.mv (t 80))])
 (.seq (.ops [s 81 (.mv (t 16)),
  s 82 (.bin .lss (t 81) (c (i 0)))])
 (.cond (t 82) (.seq (.ops [s 83 (.mv (t 8)),
  s 84 (.mv (t 13)),
  s 85 (.mv (t 14)),
  s 86 (.bin .sub (c (i 1)) (t 85)),
  s 87 (.idx (t 84) (t 86) 2),
  s 88 (.ldE 84 87 0 2 true true 2),
  s 89 (.bsl 2 [(t 88)]),
  s 90 (.app (t 83) (t 89) 2 16),
  s 8 (.mv (t 90))])
 (.seq (.ops [s 91 (.mv (t 9)),
  s 92 (.mv (t 17)),
  s 93 (.bsl 1 [(t 92)]),
  s 94 (.app (t 91) (t 93) 1 8),
  s 9 (.mv (t 94))])
 (.ops [s 10 (.mv (c (.bool true)))]))) (.seq (.ops [s 95 (.mv (t 17)),
  s 96 (.mv (t 9)),
  s 97 (.mv (t 16)),
  s 98 (.idx (t 96) (t 97) 1),
  s 99 (.ldE 96 98 0 1 false true 1),
  s 100 (.bin .lss (t 95) (t 99))])
 (.cond (t 100) (.seq (.seq (.ops [s 101 (.mv (t 9)),
  s 102 (.mv (t 16)),
  s 103 (.mv (t 17)),
  s 104 (.idx (t 101) (t 102) 1)])
 (.seq (opW 9 104 0 1 1 (t 103))
 (.ops [])))
 (.ops [s 10 (.mv (c (.bool true)))])) .skip)))))))))
 (.ops [s 56 (.mv (t 14)),
  s 57 (.bin .add (t 56) (c (i 1))),
  s 14 (.mv (t 57))]))))))))))
 (.ops [s 26 (.mv (t 11)),
  s 27 (.bin .add (t 26) (c (i 1))),
  s 11 (.mv (t 27))]))))))))))))
 (.seq (.ops [s 105 (.mv (t 8)),
  s 106 (.mv (t 9)),
  s 6 (.mv (t 105)),
  s 7 (.mv (t 106))])
 .ret))))), none, [6, 7], [false, true, true]⟩
def i21 : Comp := ⟨(.seq (.ops [s 3 (.box 2 (t 1)),
  s 4 (.mv (c (i 0)))])
 (.seq (.seq (.ops [s 5 (.mv (c (i 0)))])
 (.block 0 (.loop (.seq (.seq (.ops [s 6 (.mv (t 5)),
  s 7 (.mv (t 0)),
  s 8 (.len false (t 7)),
  s 9 (.bin .lss (t 6) (t 8))])
 (.cond (t 9) .skip (.exit 0)))
 (.seq (.block 1 (.seq (.ops [s 12 (.mv (t 0)),
  s 13 (.mv (t 5)),
  s 14 (.idx (t 12) (t 13) 2),
  s 15 (.ldE 12 14 0 2 true true 2),
  s 16 (.ldB 3 0 2 true true),
  s 17 (.eqa false [0, 0] (t 15) (t 16))])
 (.cond (t 17) (.seq (.ops [s 18 (.mv (t 5)),
  s 4 (.mv (t 18))])
 .ret) .skip)))
 (.ops [s 10 (.mv (t 5)),
  s 11 (.bin .add (t 10) (c (i 1))),
  s 5 (.mv (t 11))]))))))
 (.seq (.ops [s 4 (.mv (c (i (-1))))])
 .ret))), none, [4], [false, true]⟩
def i22 : Comp := ⟨(.seq (.ops [s 1 (.box 5 (t 0)),
  s 2 (.alc [(i 0), (i 0), (i 0), (.str (bs [])), (.lst 2 true [])])])
 (.seq (.ops [s 3 (.alc [(i 0), (i 0), (i 0), (.str (bs [])), (.lst 2 true [])])])
 (.seq (.ops [s 4 (.mv (c (i 0))),
  s 5 (.ldB 1 0 1 false true),
  s 6 (.mv (c (i 0))),
  s 3 (.stB 3 0 1 (t 5) false)])
 (.seq (.ops [s 7 (.mv (c (i 0))),
  s 8 (.ldB 1 1 1 false true),
  s 9 (.mv (c (i 0))),
  s 3 (.stB 3 1 1 (t 8) false)])
 (.seq (.ops [s 10 (.mv (c (i 0))),
  s 11 (.ldB 1 2 1 false true),
  s 12 (.mv (c (i 0))),
  s 3 (.stB 3 2 1 (t 11) false)])
 (.seq (.ops [s 13 (.mv (c (i 0))),
  s 14 (.ldB 1 3 1 false true),
  s 15 (.mv (c (i 0))),
  s 3 (.stB 3 3 1 (t 14) false)])
 (.seq (.ops [s 16 (.mv (c (i 0))),
  s 17 (.ldB 1 4 1 false false),
  k 18 37 [(t 17)] .lin,
  s 19 (.mv (c (i 0))),
  s 3 (.stB 3 4 1 (t 18) false)])
 (.seq (.ops [s 20 (.ldB 3 0 5 true false),
  s 2 (.stB 2 0 5 (t 20) false)])
 .ret)))))))), (some ⟨2, 51, 5, true, false⟩), [], [false]⟩
def i23 : Comp := ⟨(.seq (.ops [s 2 (.mv (c (.bool false)))])
 (.seq (.seq (.ops [s 5 (.mv (t 0)),
  s 6 (.len false (t 5)),
  s 7 (.bin .gtr (t 6) (c (i 16)))])
 (.cond (t 7) (.seq (.ops [s 2 (.mv (c (.bool false)))])
 .ret) .skip))
 (.seq (.seq (.ops [s 8 (.mv (t 0)),
  s 9 (.len false (t 8)),
  s 10 (.mv (c (i 0)))])
 (.block 0 (.loop (.seq (.ops [s 11 (.bin .lss (t 10) (t 9))])
 (.seq (.cond (t 11) .skip (.exit 0))
 (.seq (.block 1 (.seq (.ops [s 12 (.mv (t 10)),
  s 13 (.idx (t 8) (t 10) 5),
  s 14 (.ldE 8 13 0 5 true false 5),
  s 4 (.alc [(i 0), (i 0), (i 0), (.str (bs [])), (.lst 2 true [])]),
  s 3 (.mv (t 12)),
  s 4 (.stB 4 0 5 (t 14) true)])
 (.seq (.ops [s 15 (.ldB 4 0 5 true false),
  k 16 38 [(t 15)] .sc,
  s 17 (.not (t 16)),
  s 18 (.mv (t 17)),
  sg [(18, false)] 19 (.mv (t 3)),
  sg [(18, false)] 20 (.bin .gtr (t 19) (c (i 0))),
  sg [(18, false)] 21 (.mv (t 20)),
  sg [(21, true), (18, false)] 22 (.mv (c (i 0))),
  sg [(21, true), (18, false)] 23 (.ldB 4 0 1 false true),
  sg [(21, true), (18, false)] 24 (.mv (t 0)),
  sg [(21, true), (18, false)] 25 (.mv (t 3)),
  sg [(21, true), (18, false)] 26 (.bin .sub (t 25) (c (i 1))),
  sg [(21, true), (18, false)] 27 (.idx (t 24) (t 26) 5),
  sg [(21, true), (18, false)] 28 (.mv (t 27)),
  sg [(21, true), (18, false)] 29 (.ldE 24 28 0 1 false true 5),
  sg [(21, true), (18, false)] 30 (.bin .leq (t 23) (t 29)),
  sg [(18, false)] 31 (.pick (t 21) (t 30) (c (.bool false))),
  s 32 (.pick (t 18) (c (.bool true)) (t 31))])
 (.cond (t 32) (.seq (.ops [s 2 (.mv (c (.bool false)))])
 .ret) .skip))))
 (.ops [s 33 (.bin .add (t 10) (c (i 1))),
  s 10 (.mv (t 33))])))))))
 (.seq (.ops [s 2 (.mv (c (.bool true)))])
 .ret)))), none, [2], [false]⟩
def i24 : Comp := ⟨(.seq (.ops [s 1 (.box 2 (t 0)),
  s 2 (.mv (c (.bool false)))])
 (.seq (.ops [s 3 (.mv (c (i 0))),
  s 4 (.ldB 1 0 1 false true),
  k 5 39 [(t 4), (c (i 0)), (c (i 200))] .sc,
  s 6 (.mv (t 5)),
  sg [(6, true)] 7 (.mv (c (i 0))),
  sg [(6, true)] 8 (.ldB 1 1 1 false true),
  kg [(6, true)] 9 39 [(t 8), (c (i 0)), (c (i 200))] .sc,
  s 10 (.pick (t 6) (t 9) (c (.bool false))),
  s 2 (.mv (t 10))])
 .ret)), none, [2], [true]⟩
def i25 : Comp := ⟨(.seq (.ops [s 4 (.box 2 (t 1)),
  s 6 (.mv (c .junk))])
 (.seq (.ops [s 19 (.mv (c (.lst 3 false []))),
  s 20 (.ldB 4 0 2 true true),
  s 19 (.mpu 19 (t 20) (c (i 0))),
  s 21 (.mv (c .junk)),
  s 7 (.mv (t 19))])
 (.seq (.seq (.ops [s 8 (.mv (c (.bool true)))])
 (.block 0 (.loop (.seq (.seq (.ops [s 22 (.mv (t 8))])
 (.cond (t 22) .skip (.exit 0)))
 (.block 1 (.seq (.ops [s 8 (.mv (c (.bool false)))])
 (.seq (.ops [s 23 (.mv (t 0)),
  s 24 (.len false (t 23)),
  s 25 (.mv (c (i 0)))])
 (.block 2 (.loop (.seq (.ops [s 26 (.bin .lss (t 25) (t 24))])
 (.seq (.cond (t 26) .skip (.exit 2))
 (.seq (.block 3 (.seq (.ops [s 27 (.idx (t 23) (t 25) 5),
  s 28 (.ldE 23 27 0 5 true false 5),
  s 10 (.alc [(i 0), (i 0), (i 0), (.str (bs [])), (.lst 2 true [])]),
  s 10 (.stB 10 0 5 (t 28) true)])
 (.seq (.seq (.ops [s 29 (.ldB 10 0 5 true false),
  s 30 (.mv (t 2)),
  k 31 40 [(t 29), (t 30)] .sc,
  s 32 (.not (t 31))])
 (.cond (t 32) (.exit 3) .skip))
 (.seq (.ops [s 33 (.mv (c (i 0))),
  s 34 (.ldB 10 4 1 false false),
  s 35 (.idx (t 34) (c (i 0)) 2),
  s 36 (.ldE 34 35 0 2 true true 2),
  s 37 (.mv (c (i 0))),
  s 38 (.ldB 10 4 1 false false),
  s 39 (.mv (c (i 0))),
  s 40 (.ldB 10 4 1 false false),
  s 41 (.len false (t 40)),
  s 42 (.bin .sub (t 41) (c (i 1))),
  s 43 (.idx (t 38) (t 42) 2),
  s 44 (.ldE 38 43 0 2 true true 2),
  s 45 (.bsl 2 [(t 36), (t 44)]),
  s 46 (.len false (t 45)),
  s 47 (.mv (c (i 0)))])
 (.block 4 (.loop (.seq (.ops [s 48 (.bin .lss (t 47) (t 46))])
 (.seq (.cond (t 48) .skip (.exit 4))
 (.seq (.block 5 (.seq (.ops [s 49 (.idx (t 45) (t 47) 2),
  s 50 (.ldE 45 49 0 2 true true 2),
  s 12 (.alc [(i 0), (i 0)]),
  s 12 (.stB 12 0 2 (t 50) false)])
 (.seq (.ops [s 52 (.mv (c .junk)),
  s 53 (.ldB 12 0 2 true true),
  s 54 (.lk 7 (t 53)),
  s 51 (.mv (t 54)),
  s 55 (.ext 51 0 true),
  s 56 (.ext 51 1 true),
  s 13 (.mv (t 55)),
  s 14 (.mv (t 56))])
 (.seq (.seq (.ops [s 57 (.mv (t 14)),
  s 58 (.not (t 57))])
 (.cond (t 58) (.exit 5) .skip))
 (.seq (.ops [s 60 (.ldB 10 0 5 true false),
  s 61 (.ldB 12 0 2 true true),
  k 62 41 [(t 60), (t 61)] .sc,
  s 59 (.mv (t 62)),
  s 63 (.ext 59 0 true),
  s 64 (.ext 59 1 true),
  s 15 (.alc [(i 0), (i 0)]),
  s 15 (.stB 15 0 2 (t 63) false),
  s 16 (.mv (t 64))])
 (.seq (.ops [s 65 (.mv (t 13)),
  s 66 (.mv (c (i 0))),
  s 67 (.ldB 10 4 1 false false),
  k 68 42 [(t 67)] .sc,
  s 69 (.bin .add (t 65) (t 68)),
  s 13 (.mv (t 69))])
 (.seq (.ops [s 71 (.mv (c .junk)),
  s 72 (.ldB 15 0 2 true true),
  s 73 (.lk 7 (t 72)),
  s 70 (.mv (t 73)),
  s 74 (.ext 70 0 true),
  s 75 (.ext 70 1 true),
  s 17 (.mv (t 74)),
  s 18 (.mv (t 75))])
 (.seq (.ops [s 76 (.mv (t 18)),
  s 77 (.not (t 76)),
  s 78 (.mv (t 77)),
  sg [(78, false)] 79 (.mv (t 13)),
  sg [(78, false)] 80 (.mv (t 17)),
  sg [(78, false)] 81 (.bin .lss (t 79) (t 80)),
  s 82 (.pick (t 78) (c (.bool true)) (t 81))])
 (.cond (t 82) (.seq (.ops [s 83 (.mv (c .junk)),
  s 84 (.ldB 15 0 2 true true),
  s 85 (.mv (t 13)),
  s 7 (.mpu 7 (t 84) (t 85))])
 (.ops [s 8 (.mv (c (.bool true)))])) .skip)))))))))
 (.ops [s 86 (.bin .add (t 47) (c (i 1))),
  s 47 (.mv (t 86))]))))))))))
 (.ops [s 87 (.bin .add (t 25) (c (i 1))),
  s 25 (.mv (t 87))])))))))))))))
 (.seq (.ops [s 88 (.mv (c .junk)),
  s 6 (.mv (t 7))])
 .ret)))), none, [6], [false, true, true]⟩
def i26 : Comp := ⟨(.seq (.ops [s 2 (.box 5 (t 0)),
  s 3 (.box 5 (t 1)),
  s 4 (.mv (c (.bool false)))])
 (.seq (.seq (.ops [s 5 (.mv (c (i 0))),
  s 6 (.ldB 2 0 1 false true),
  s 7 (.mv (c (i 0))),
  s 8 (.ldB 3 0 1 false true),
  s 9 (.bin .neq (t 6) (t 8))])
 (.cond (t 9) (.seq (.ops [s 4 (.mv (c (.bool false)))])
 .ret) .skip))
 (.seq (.seq (.ops [s 10 (.mv (c (i 0))),
  s 11 (.ldB 2 1 1 false true),
  s 12 (.mv (c (i 0))),
  s 13 (.ldB 3 1 1 false true),
  s 14 (.bin .neq (t 11) (t 13))])
 (.cond (t 14) (.seq (.ops [s 4 (.mv (c (.bool false)))])
 .ret) .skip))
 (.seq (.seq (.ops [s 15 (.mv (c (i 0))),
  s 16 (.ldB 2 2 1 false true),
  s 17 (.mv (c (i 0))),
  s 18 (.ldB 3 2 1 false true),
  s 19 (.bin .neq (t 16) (t 18))])
 (.cond (t 19) (.seq (.ops [s 4 (.mv (c (.bool false)))])
 .ret) .skip))
 (.seq (.seq (.ops [s 20 (.mv (c (i 0))),
  s 21 (.ldB 2 3 1 false true),
  s 22 (.mv (c (i 0))),
  s 23 (.ldB 3 3 1 false true),
  s 24 (.bin .neq (t 21) (t 23))])
 (.cond (t 24) (.seq (.ops [s 4 (.mv (c (.bool false)))])
 .ret) .skip))
 (.seq (.seq (.ops [s 25 (.mv (c (i 0))),
  s 26 (.ldB 2 4 1 false false),
  s 27 (.mv (c (i 0))),
  s 28 (.ldB 3 4 1 false false),
  k 29 13 [(t 26), (t 28)] .sc,
  s 30 (.not (t 29))])
 (.cond (t 30) (.seq (.ops [s 4 (.mv (c (.bool false)))])
 .ret) .skip))
 (.seq (.ops [s 4 (.mv (c (.bool true)))])
 .ret))))))), none, [4], [false, false]⟩
def i27 : Comp := ⟨(.seq (.ops [s 2 (.box 2 (t 0)),
  s 3 (.box 2 (t 1)),
  s 4 (.mv (c (.bool false)))])
 (.seq (.ops [s 5 (.mv (c (i 0))),
  s 6 (.ldB 2 1 1 false true),
  s 7 (.mv (c (i 0))),
  s 8 (.ldB 3 1 1 false true),
  s 9 (.bin .lss (t 6) (t 8)),
  s 10 (.mv (t 9)),
  sg [(10, false)] 11 (.mv (c (i 0))),
  sg [(10, false)] 12 (.ldB 2 1 1 false true),
  sg [(10, false)] 13 (.mv (c (i 0))),
  sg [(10, false)] 14 (.ldB 3 1 1 false true),
  sg [(10, false)] 15 (.bin .eql (t 12) (t 14)),
  sg [(10, false)] 16 (.mv (t 15)),
  sg [(16, true), (10, false)] 17 (.mv (c (i 0))),
  sg [(16, true), (10, false)] 18 (.ldB 2 0 1 false true),
  sg [(16, true), (10, false)] 19 (.mv (c (i 0))),
  sg [(16, true), (10, false)] 20 (.ldB 3 0 1 false true),
  sg [(16, true), (10, false)] 21 (.bin .lss (t 18) (t 20)),
  sg [(10, false)] 22 (.pick (t 16) (t 21) (c (.bool false))),
  s 23 (.pick (t 10) (c (.bool true)) (t 22)),
  s 4 (.mv (t 23))])
 .ret)), none, [4], [true, true]⟩
def i29 : Comp := ⟨(.seq (.ops [s 2 (.box 2 (t 0)),
  s 3 (.box 2 (t 1)),
  s 4 (.mv (c (i 0)))])
 (.seq (.seq (.ops [s 5 (.ldB 2 0 2 true true),
  s 6 (.ldB 3 0 2 true true),
  k 7 30 [(t 5), (t 6)] .sc])
 (.cond (t 7) (.seq (.ops [s 4 (.mv (c (i (-1))))])
 .ret) .skip))
 (.seq (.ops [s 4 (.mv (c (i 1)))])
 .ret))), none, [4], [true, true]⟩
def i30 : Comp := ⟨(.seq (.ops [s 2 (.box 2 (t 0)),
  s 3 (.box 2 (t 1)),
  s 4 (.mv (c (.bool false)))])
 (.seq (.ops [s 5 (.mv (c (i 0))),
  s 6 (.ldB 2 1 1 false true),
  s 7 (.mv (c (i 0))),
  s 8 (.ldB 3 1 1 false true),
  s 9 (.bin .lss (t 6) (t 8)),
  s 10 (.mv (t 9)),
  sg [(10, false)] 11 (.mv (c (i 0))),
  sg [(10, false)] 12 (.ldB 2 1 1 false true),
  sg [(10, false)] 13 (.mv (c (i 0))),
  sg [(10, false)] 14 (.ldB 3 1 1 false true),
  sg [(10, false)] 15 (.bin .eql (t 12) (t 14)),
  sg [(10, false)] 16 (.mv (t 15)),
  sg [(16, true), (10, false)] 17 (.mv (c (i 0))),
  sg [(16, true), (10, false)] 18 (.ldB 2 0 1 false true),
  sg [(16, true), (10, false)] 19 (.mv (c (i 0))),
  sg [(16, true), (10, false)] 20 (.ldB 3 0 1 false true),
  sg [(16, true), (10, false)] 21 (.bin .lss (t 18) (t 20)),
  sg [(10, false)] 22 (.pick (t 16) (t 21) (c (.bool false))),
  s 23 (.pick (t 10) (c (.bool true)) (t 22)),
  s 4 (.mv (t 23))])
 .ret)), none, [4], [true, true]⟩
def i31 : Comp := ⟨(.seq (.ops [s 2 (.box 2 (t 0)),
  s 3 (.box 2 (t 1)),
  s 4 (.mv (c (.bool false)))])
 (.seq (.seq (.ops [s 5 (.mv (c (i 0))),
  s 6 (.ldB 2 0 1 false true),
  s 7 (.mv (c (i 0))),
  s 8 (.ldB 3 0 1 false true),
  s 9 (.bin .neq (t 6) (t 8))])
 (.cond (t 9) (.seq (.ops [s 4 (.mv (c (.bool false)))])
 .ret) .skip))
 (.seq (.seq (.ops [s 10 (.mv (c (i 0))),
  s 11 (.ldB 2 1 1 false true),
  s 12 (.mv (c (i 0))),
  s 13 (.ldB 3 1 1 false true),
  s 14 (.bin .neq (t 11) (t 13))])
 (.cond (t 14) (.seq (.ops [s 4 (.mv (c (.bool false)))])
 .ret) .skip))
 (.seq (.ops [s 4 (.mv (c (.bool true)))])
 .ret)))), none, [4], [true, true]⟩
def i32 : Comp := ⟨(.seq (.ops [s 2 (.mv (c (.str (bs []))))])
 (.seq (.seq (.ops [s 4 (.mv (t 0)),
  s 5 (.bin .leq (t 4) (c (i 0)))])
 (.cond (t 5) (.seq (.ops [s 2 (.mv (c (.str (bs [109, 48]))))])
 .ret) .skip))
 (.seq (.ops [s 3 (.mv (c (.str (bs []))))])
 (.seq (.block 0 (.loop (.seq (.seq (.ops [s 6 (.mv (t 0)),
  s 7 (.bin .gtr (t 6) (c (i 0)))])
 (.cond (t 7) .skip (.exit 0)))
 (.block 1 (.seq (.ops [s 8 (.mv (t 0)),
  s 9 (.bin .rem (t 8) (c (i 10))),
  s 10 (.bin .add (c (i 48)) (t 9)),
  s 11 (.conv .u8 (t 10)),
  s 12 (.bsl 1 [(t 11)]),
  s 13 (.bst (t 12)),
  s 14 (.mv (t 3)),
  s 15 (.bin .add (t 13) (t 14)),
  s 3 (.mv (t 15))])
 (.ops [s 16 (.mv (t 0)),
  s 17 (.bin .quo (t 16) (c (i 10))),
  s 0 (.mv (t 17))]))))))
 (.seq (.ops [s 18 (.mv (t 3)),
  s 19 (.bin .add (c (.str (bs [109]))) (t 18)),
  s 2 (.mv (t 19))])
 .ret))))), none, [2], [true]⟩
def i33 : Comp := ⟨(.seq (.ops [s 4 (.mv (c (i 0)))])
 (.seq (.ops [s 5 (.mv (t 1)),
  s 6 (.mv (t 0)),
  s 7 (.len false (t 6)),
  s 8 (.bin .sub (t 5) (t 7)),
  s 1 (.mv (t 8))])
 (.seq (.seq (.ops [s 9 (.mv (t 1)),
  s 10 (.bin .lss (t 9) (c (i 0)))])
 (.cond (t 10) (.seq (.ops [s 4 (.mv (c (i (-1))))])
 .ret) .skip))
 (.seq (.ops [s 11 (.mv (t 1)),
  s 4 (.mv (t 11))])
 .ret)))), none, [4], [false, true]⟩
def i34 : Comp := ⟨(.seq (.ops [s 1 (.box 5 (t 0)),
  s 2 (.mv (c (.bool false)))])
 (.seq (.seq (.ops [s 3 (.mv (c (i 0))),
  s 4 (.ldB 1 0 1 false true),
  k 5 35 [(t 4), (c (i 1)), (c (i 99))] .sc,
  s 6 (.not (t 5)),
  s 7 (.mv (t 6)),
  sg [(7, false)] 8 (.mv (c (i 0))),
  sg [(7, false)] 9 (.ldB 1 2 1 false true),
  kg [(7, false)] 10 35 [(t 9), (c (i 0)), (c (i 9))] .sc,
  sg [(7, false)] 11 (.not (t 10)),
  s 12 (.pick (t 7) (c (.bool true)) (t 11)),
  s 13 (.mv (t 12)),
  sg [(13, false)] 14 (.mv (c (i 0))),
  sg [(13, false)] 15 (.ldB 1 3 1 false true),
  sg [(13, false)] 16 (.bin .neq (t 15) (c (.str (bs [])))),
  sg [(13, false)] 17 (.mv (t 16)),
  sg [(17, true), (13, false)] 18 (.mv (c (i 0))),
  sg [(17, true), (13, false)] 19 (.ldB 1 3 1 false true),
  kg [(17, true), (13, false)] 20 45 [(t 19)] .sc,
  sg [(17, true), (13, false)] 21 (.not (t 20)),
  sg [(13, false)] 22 (.pick (t 17) (t 21) (c (.bool false))),
  s 23 (.pick (t 13) (c (.bool true)) (t 22))])
 (.cond (t 23) (.seq (.ops [s 2 (.mv (c (.bool false)))])
 .ret) .skip))
 (.seq (.seq (.ops [s 24 (.mv (c (i 0))),
  s 25 (.ldB 1 1 1 false true)])
 (.block 0 (.seq (.ops [s 27 (.bin .eql (t 25) (c (i 1))),
  s 26 (.mv (t 27))])
 (.cond (t 26) (.seq (.ops [s 28 (.mv (c (i 0))),
  s 29 (.ldB 1 4 1 false false),
  s 30 (.len false (t 29)),
  s 31 (.bin .eql (t 30) (c (i 1))),
  s 32 (.mv (t 31)),
  sg [(32, true)] 33 (.mv (c (i 0))),
  sg [(32, true)] 34 (.ldB 1 4 1 false false),
  sg [(32, true)] 35 (.idx (t 34) (c (i 0)) 2),
  sg [(32, true)] 36 (.ldE 34 35 0 2 true true 2),
  kg [(32, true)] 37 19 [(t 36)] .sc,
  s 38 (.pick (t 32) (t 37) (c (.bool false))),
  s 2 (.mv (t 38))])
 .ret) (.seq (.ops [s 40 (.bin .eql (t 25) (c (i 2))),
  s 39 (.mv (t 40))])
 (.cond (t 39) (.seq (.ops [s 41 (.mv (c (i 0))),
  s 42 (.ldB 1 4 1 false false),
  k 43 46 [(t 42)] .sc,
  s 2 (.mv (t 43))])
 .ret) (.seq (.ops [s 45 (.bin .eql (t 25) (c (i 3))),
  s 44 (.mv (t 45))])
 (.cond (t 44) (.seq (.ops [s 46 (.mv (c (i 0))),
  s 47 (.ldB 1 4 1 false false),
  k 48 47 [(t 47)] .sc,
  s 2 (.mv (t 48))])
 .ret) .skip))))))))
 (.seq (.ops [s 2 (.mv (c (.bool false)))])
 .ret)))), none, [2], [false]⟩
def i35 : Comp := ⟨(.seq (.ops [s 6 (.mv (c (.bool false)))])
 (.seq (.ops [s 7 (.mv (t 0)),
  s 8 (.mv (t 1)),
  s 9 (.bin .geq (t 7) (t 8)),
  s 10 (.mv (t 9)),
  sg [(10, true)] 11 (.mv (t 0)),
  sg [(10, true)] 12 (.mv (t 2)),
  sg [(10, true)] 13 (.bin .leq (t 11) (t 12)),
  s 14 (.pick (t 10) (t 13) (c (.bool false))),
  s 6 (.mv (t 14))])
 .ret)), none, [6], [true, true, true]⟩
def i36 : Comp := ⟨(.seq (.ops [s 2 (.mv (c (i 0)))])
 (.seq (.ops [s 3 (.mv (c (i 0)))])
 (.seq (.ops [s 6 (.mv (t 0)),
  k 7 48 [(t 6)] .lin,
  s 4 (.mv (t 7))])
 (.seq (.seq (.ops [s 5 (.mv (c (i 0)))])
 (.block 0 (.loop (.seq (.seq (.ops [s 8 (.mv (t 5)),
  s 9 (.mv (t 4)),
  s 10 (.len false (t 9)),
  s 11 (.bin .lss (t 8) (t 10))])
 (.cond (t 11) .skip (.exit 0)))
 (.seq (.block 1 (.ops [s 14 (.mv (t 3)),
  s 15 (.mv (t 4)),
  s 16 (.mv (t 5)),
  s 17 (.idx (t 15) (t 16) 4),
  s 18 (.mv (t 17)),
  s 19 (.ldE 15 18 0 2 true true 4),
  s 20 (.mv (t 4)),
  s 21 (.mv (t 5)),
  s 22 (.idx (t 20) (t 21) 4),
  s 23 (.mv (t 22)),
  s 24 (.ldE 20 23 2 2 true true 4),
  k 25 49 [(t 19), (t 24)] .sc,
  s 26 (.bin .add (t 14) (t 25)),
  s 3 (.mv (t 26))]))
 (.ops [s 12 (.mv (t 5)),
  s 13 (.bin .add (t 12) (c (i 1))),
  s 5 (.mv (t 13))]))))))
 (.seq (.ops [s 27 (.mv (t 3)),
  s 2 (.mv (t 27))])
 .ret))))), none, [2], [false]⟩
def i37 : Comp := ⟨(.seq (.ops [s 2 (.mv (c (.lst 2 true [])))])
 (.seq (.ops [s 5 (.mv (t 0)),
  s 6 (.len false (t 5)),
  s 7 (.mks 2 16 [(i 0), (i 0)] (t 6)),
  s 3 (.mv (t 7))])
 (.seq (.seq (.ops [s 4 (.mv (c (i 0)))])
 (.block 0 (.loop (.seq (.seq (.ops [s 8 (.mv (t 4)),
  s 9 (.mv (t 0)),
  s 10 (.len false (t 9)),
  s 11 (.bin .lss (t 8) (t 10))])
 (.cond (t 11) .skip (.exit 0)))
 (.seq (.block 1 (.ops [s 14 (.mv (c .junk)),
  s 15 (.mv (t 4)),
  s 16 (.mv (t 0)),
  s 17 (.mv (t 4)),
  s 18 (.idx (t 16) (t 17) 2),
  s 19 (.ldE 16 18 0 2 true true 2),
  k 20 8 [(t 19)] .sc,
  s 21 (.idx (t 3) (t 15) 2),
  s 3 (.stF 3 21 2 (t 20))]))
 (.ops [s 12 (.mv (t 4)),
  s 13 (.bin .add (t 12) (c (i 1))),
  s 4 (.mv (t 13))]))))))
 (.seq (.ops [s 22 (.mv (c .junk)),
  s 2 (.mv (t 3))])
 .ret)))), none, [2], [false]⟩
def i38 : Comp := ⟨(.seq (.ops [s 1 (.box 5 (t 0)),
  s 2 (.mv (c (.bool false)))])
 (.seq (.seq (.ops [s 3 (.mv (c (i 0))),
  s 4 (.ldB 1 0 1 false true),
  k 5 39 [(t 4), (c (i 1)), (c (i 99))] .sc,
  s 6 (.not (t 5)),
  s 7 (.mv (t 6)),
  sg [(7, false)] 8 (.mv (c (i 0))),
  sg [(7, false)] 9 (.ldB 1 2 1 false true),
  kg [(7, false)] 10 39 [(t 9), (c (i 0)), (c (i 9))] .sc,
  sg [(7, false)] 11 (.not (t 10)),
  s 12 (.pick (t 7) (c (.bool true)) (t 11)),
  s 13 (.mv (t 12)),
  sg [(13, false)] 14 (.mv (c (i 0))),
  sg [(13, false)] 15 (.ldB 1 3 1 false true),
  sg [(13, false)] 16 (.bin .neq (t 15) (c (.str (bs [])))),
  sg [(13, false)] 17 (.mv (t 16)),
  sg [(17, true), (13, false)] 18 (.mv (c (i 0))),
  sg [(17, true), (13, false)] 19 (.ldB 1 3 1 false true),
  kg [(17, true), (13, false)] 20 50 [(t 19)] .sc,
  sg [(17, true), (13, false)] 21 (.not (t 20)),
  sg [(13, false)] 22 (.pick (t 17) (t 21) (c (.bool false))),
  s 23 (.pick (t 13) (c (.bool true)) (t 22))])
 (.cond (t 23) (.seq (.ops [s 2 (.mv (c (.bool false)))])
 .ret) .skip))
 (.seq (.seq (.ops [s 24 (.mv (c (i 0))),
  s 25 (.ldB 1 1 1 false true)])
 (.block 0 (.seq (.ops [s 27 (.bin .eql (t 25) (c (i 1))),
  s 26 (.mv (t 27))])
 (.cond (t 26) (.seq (.ops [s 28 (.mv (c (i 0))),
  s 29 (.ldB 1 4 1 false false),
  s 30 (.len false (t 29)),
  s 31 (.bin .eql (t 30) (c (i 1))),
  s 32 (.mv (t 31)),
  sg [(32, true)] 33 (.mv (c (i 0))),
  sg [(32, true)] 34 (.ldB 1 4 1 false false),
  sg [(32, true)] 35 (.idx (t 34) (c (i 0)) 2),
  sg [(32, true)] 36 (.ldE 34 35 0 2 true true 2),
  kg [(32, true)] 37 24 [(t 36)] .sc,
  s 38 (.pick (t 32) (t 37) (c (.bool false))),
  s 2 (.mv (t 38))])
 .ret) (.seq (.ops [s 40 (.bin .eql (t 25) (c (i 2))),
  s 39 (.mv (t 40))])
 (.cond (t 39) (.seq (.ops [s 41 (.mv (c (i 0))),
  s 42 (.ldB 1 4 1 false false),
  k 43 51 [(t 42)] .sc,
  s 2 (.mv (t 43))])
 .ret) (.seq (.ops [s 45 (.bin .eql (t 25) (c (i 3))),
  s 44 (.mv (t 45))])
 (.cond (t 44) (.seq (.ops [s 46 (.mv (c (i 0))),
  s 47 (.ldB 1 4 1 false false),
  k 48 52 [(t 47)] .sc,
  s 2 (.mv (t 48))])
 .ret) .skip))))))))
 (.seq (.ops [s 2 (.mv (c (.bool false)))])
 .ret)))), none, [2], [false]⟩
def i39 : Comp := ⟨(.seq (.ops [s 6 (.mv (c (.bool false)))])
 (.seq (.ops [s 7 (.mv (t 1)),
  s 8 (.mv (t 0)),
  s 9 (.bin .leq (t 7) (t 8)),
  s 10 (.mv (t 9)),
  sg [(10, true)] 11 (.mv (t 0)),
  sg [(10, true)] 12 (.mv (t 2)),
  sg [(10, true)] 13 (.bin .leq (t 11) (t 12)),
  s 14 (.pick (t 10) (t 13) (c (.bool false))),
  s 6 (.mv (t 14))])
 .ret)), none, [6], [true, true, true]⟩
def i40 : Comp := ⟨(.seq (.ops [s 2 (.box 5 (t 0)),
  s 4 (.mv (c (.bool false)))])
 (.seq (.ops [s 5 (.mv (c (i 0))),
  s 6 (.ldB 2 1 1 false true),
  s 7 (.bin .eql (t 6) (c (i 2))),
  s 8 (.mv (t 7)),
  sg [(8, true)] 9 (.mv (c (i 0))),
  sg [(8, true)] 10 (.ldB 2 2 1 false true),
  sg [(8, true)] 11 (.mv (t 1)),
  sg [(8, true)] 12 (.bin .geq (t 10) (t 11)),
  s 13 (.pick (t 8) (t 12) (c (.bool false))),
  s 4 (.mv (t 13))])
 .ret)), none, [4], [false, true]⟩
def i41 : Comp := ⟨(.seq (.ops [s 2 (.box 5 (t 0)),
  s 3 (.box 2 (t 1)),
  s 4 (.alc [(i 0), (i 0)]),
  s 5 (.mv (c (.bool false)))])
 (.seq (.ops [s 8 (.mv (c (i 0))),
  s 9 (.ldB 2 4 1 false false),
  s 10 (.idx (t 9) (c (i 0)) 2),
  s 11 (.ldE 9 10 0 2 true true 2),
  s 12 (.mv (c (i 0))),
  s 13 (.ldB 2 4 1 false false),
  s 14 (.mv (c (i 0))),
  s 15 (.ldB 2 4 1 false false),
  s 16 (.len false (t 15)),
  s 17 (.bin .sub (t 16) (c (i 1))),
  s 18 (.idx (t 13) (t 17) 2),
  s 19 (.ldE 13 18 0 2 true true 2),
  s 6 (.alc [(i 0), (i 0)]),
  s 7 (.alc [(i 0), (i 0)]),
  s 6 (.stB 6 0 2 (t 11) false),
  s 7 (.stB 7 0 2 (t 19) false)])
 (.seq (.seq (.ops [s 20 (.ldB 6 0 2 true true),
  s 21 (.ldB 3 0 2 true true),
  s 22 (.eqa false [0, 0] (t 20) (t 21))])
 (.cond (t 22) (.seq (.ops [s 23 (.ldB 7 0 2 true true),
  s 4 (.stB 4 0 2 (t 23) false),
  s 5 (.mv (c (.bool true)))])
 .ret) .skip))
 (.seq (.ops [s 24 (.ldB 6 0 2 true true),
  s 25 (.ldB 7 0 2 true true),
  s 26 (.ldB 3 0 2 true true),
  s 27 (.eqa false [0, 0] (t 25) (t 26)),
  s 4 (.stB 4 0 2 (t 24) false),
  s 5 (.mv (t 27))])
 .ret)))), (some ⟨4, 30, 2, true, false⟩), [5], [false, true]⟩
def i42 : Comp := ⟨(.seq (.ops [s 2 (.mv (c (i 0)))])
 (.seq (.ops [s 3 (.mv (c (i 0)))])
 (.seq (.seq (.ops [s 6 (.mv (t 0)),
  k 7 53 [(t 6)] .lin,
  s 8 (.len false (t 7)),
  s 9 (.mv (c (i 0)))])
 (.block 0 (.loop (.seq (.ops [s 10 (.bin .lss (t 9) (t 8))])
 (.seq (.cond (t 10) .skip (.exit 0))
 (.seq (.block 1 (.seq (.ops [s 11 (.idx (t 7) (t 9) 4),
  s 12 (.ldE 7 11 0 4 true true 4),
  s 5 (.alc [(i 0), (i 0), (i 0), (i 0)]),
  s 5 (.stB 5 0 4 (t 12) false)])
 (.ops [s 13 (.mv (t 3)),
  s 14 (.mv (c (i 0))),
  s 15 (.ldB 5 0 2 true true),
  s 16 (.mv (c (i 0))),
  s 17 (.ldB 5 2 2 true true),
  k 18 54 [(t 15), (t 17)] .sc,
  s 19 (.bin .add (t 13) (t 18)),
  s 3 (.mv (t 19))])))
 (.ops [s 20 (.bin .add (t 9) (c (i 1))),
  s 9 (.mv (t 20))])))))))
 (.seq (.ops [s 21 (.mv (t 3)),
  s 2 (.mv (t 21))])
 .ret)))), none, [2], [false]⟩
def i45 : Comp := ⟨(.seq (.ops [s 2 (.mv (c (.bool false)))])
 (.seq (.seq (.ops [s 3 (.mv (c (i 0)))])
 (.block 0 (.loop (.seq (.seq (.ops [s 4 (.mv (t 3)),
  s 5 (.mv (t 0)),
  s 6 (.len true (t 5)),
  s 7 (.bin .lss (t 4) (t 6))])
 (.cond (t 7) .skip (.exit 0)))
 (.seq (.block 1 (.seq (.ops [s 10 (.mv (t 0)),
  s 11 (.mv (t 3)),
  s 12 (.six (t 10) (t 11)),
  s 13 (.bin .lss (t 12) (c (.int .u8 (97)))),
  s 14 (.mv (t 13)),
  sg [(14, false)] 15 (.mv (t 0)),
  sg [(14, false)] 16 (.mv (t 3)),
  sg [(14, false)] 17 (.six (t 15) (t 16)),
  sg [(14, false)] 18 (.bin .gtr (t 17) (c (.int .u8 (122)))),
  s 19 (.pick (t 14) (c (.bool true)) (t 18))])
 (.cond (t 19) (.seq (.ops [s 2 (.mv (c (.bool false)))])
 .ret) .skip)))
 (.ops [s 8 (.mv (t 3)),
  s 9 (.bin .add (t 8) (c (i 1))),
  s 3 (.mv (t 9))]))))))
 (.seq (.ops [s 20 (.mv (t 0)),
  s 21 (.len true (t 20)),
  k 22 35 [(t 21), (c (i 1)), (c (i 8))] .sc,
  s 2 (.mv (t 22))])
 .ret))), none, [2], [true]⟩
def i46 : Comp := ⟨(.seq (.ops [s 2 (.mv (c (.bool false)))])
 (.seq (.ops [s 7 (.mv (t 0)),
  k 8 48 [(t 7)] .lin,
  s 3 (.mv (t 8))])
 (.seq (.seq (.ops [s 4 (.mv (c (i 0)))])
 (.block 0 (.loop (.seq (.seq (.ops [s 9 (.mv (t 4)),
  s 10 (.mv (t 3)),
  s 11 (.len false (t 10)),
  s 12 (.bin .lss (t 9) (t 11))])
 (.cond (t 12) .skip (.exit 0)))
 (.seq (.block 1 (.seq (.ops [s 5 (.mv (c (i 0)))])
 (.block 2 (.loop (.seq (.seq (.ops [s 15 (.mv (t 5)),
  s 16 (.mv (t 4)),
  s 17 (.bin .lss (t 15) (t 16))])
 (.cond (t 17) .skip (.exit 2)))
 (.seq (.block 3 (.seq (.ops [s 6 (.mv (c (i 0)))])
 (.seq (.seq (.ops [s 20 (.mv (t 5)),
  s 21 (.bin .add (t 20) (c (i 1))),
  s 22 (.mv (t 4)),
  s 23 (.bin .eql (t 21) (t 22))])
 (.cond (t 23) (.ops [s 6 (.mv (c (i 1)))]) .skip))
 (.seq (.ops [s 24 (.mv (t 3)),
  s 25 (.mv (t 4)),
  s 26 (.idx (t 24) (t 25) 4),
  s 27 (.ldE 24 26 0 4 true true 4),
  s 28 (.mv (t 3)),
  s 29 (.mv (t 5)),
  s 30 (.idx (t 28) (t 29) 4),
  s 31 (.ldE 28 30 0 4 true true 4),
  k 32 65 [(t 27), (t 31)] .sc,
  s 33 (.mv (t 6)),
  s 34 (.bin .neq (t 32) (t 33))])
 (.cond (t 34) (.seq (.ops [s 2 (.mv (c (.bool false)))])
 .ret) .skip)))))
 (.ops [s 18 (.mv (t 5)),
  s 19 (.bin .add (t 18) (c (i 1))),
  s 5 (.mv (t 19))])))))))
 (.ops [s 13 (.mv (t 4)),
  s 14 (.bin .add (t 13) (c (i 1))),
  s 4 (.mv (t 14))]))))))
 (.seq (.ops [s 35 (.mv (t 0)),
  k 36 66 [(t 35)] .sc,
  s 2 (.mv (t 36))])
 .ret)))), none, [2], [false]⟩
def i47 : Comp := ⟨(.seq (.ops [s 2 (.mv (c (.bool false)))])
 (.seq (.seq (.ops [s 7 (.mv (t 0)),
  s 8 (.len false (t 7)),
  k 9 35 [(t 8), (c (i 3)), (c (i 10))] .sc,
  s 10 (.not (t 9))])
 (.cond (t 10) (.seq (.ops [s 2 (.mv (c (.bool false)))])
 .ret) .skip))
 (.seq (.ops [s 11 (.mv (t 0)),
  k 12 67 [(t 11)] .lin,
  s 3 (.mv (t 12))])
 (.seq (.seq (.ops [s 4 (.mv (c (i 0)))])
 (.block 0 (.loop (.seq (.seq (.ops [s 13 (.mv (t 4)),
  s 14 (.mv (t 3)),
  s 15 (.len false (t 14)),
  s 16 (.bin .lss (t 13) (t 15))])
 (.cond (t 16) .skip (.exit 0)))
 (.seq (.block 1 (.seq (.seq (.ops [s 19 (.mv (t 3)),
  s 20 (.mv (t 4)),
  s 21 (.idx (t 19) (t 20) 4),
  s 22 (.ldE 19 21 0 4 true true 4),
  k 23 68 [(t 22)] .sc,
  s 24 (.not (t 23))])
 (.cond (t 24) (.seq (.ops [s 2 (.mv (c (.bool false)))])
 .ret) .skip))
 (.seq (.ops [s 5 (.mv (c (i 0)))])
 (.block 2 (.loop (.seq (.seq (.ops [s 25 (.mv (t 5)),
  s 26 (.mv (t 4)),
  s 27 (.bin .lss (t 25) (t 26))])
 (.cond (t 27) .skip (.exit 2)))
 (.seq (.block 3 (.seq (.ops [s 6 (.mv (c (i 0)))])
 (.seq (.seq (.ops [s 30 (.mv (t 5)),
  s 31 (.bin .add (t 30) (c (i 1))),
  s 32 (.mv (t 4)),
  s 33 (.bin .eql (t 31) (t 32)),
  s 34 (.mv (t 33)),
  sg [(34, false)] 35 (.mv (t 5)),
  sg [(34, false)] 36 (.bin .eql (t 35) (c (i 0))),
  sg [(34, false)] 37 (.mv (t 36)),
  sg [(37, true), (34, false)] 38 (.mv (t 4)),
  sg [(37, true), (34, false)] 39 (.bin .add (t 38) (c (i 1))),
  sg [(37, true), (34, false)] 40 (.mv (t 3)),
  sg [(37, true), (34, false)] 41 (.len false (t 40)),
  sg [(37, true), (34, false)] 42 (.bin .eql (t 39) (t 41)),
  sg [(34, false)] 43 (.pick (t 37) (t 42) (c (.bool false))),
  s 44 (.pick (t 34) (c (.bool true)) (t 43))])
 (.cond (t 44) (.ops [s 6 (.mv (c (i 1)))]) .skip))
 (.seq (.ops [s 45 (.mv (t 3)),
  s 46 (.mv (t 4)),
  s 47 (.idx (t 45) (t 46) 4),
  s 48 (.ldE 45 47 0 4 true true 4),
  s 49 (.mv (t 3)),
  s 50 (.mv (t 5)),
  s 51 (.idx (t 49) (t 50) 4),
  s 52 (.ldE 49 51 0 4 true true 4),
  k 53 65 [(t 48), (t 52)] .sc,
  s 54 (.mv (t 6)),
  s 55 (.bin .neq (t 53) (t 54))])
 (.cond (t 55) (.seq (.ops [s 2 (.mv (c (.bool false)))])
 .ret) .skip)))))
 (.ops [s 28 (.mv (t 5)),
  s 29 (.bin .add (t 28) (c (i 1))),
  s 5 (.mv (t 29))]))))))))
 (.ops [s 17 (.mv (t 4)),
  s 18 (.bin .add (t 17) (c (i 1))),
  s 4 (.mv (t 18))]))))))
 (.seq (.ops [s 2 (.mv (c (.bool true)))])
 .ret))))), none, [2], [false]⟩
def i48 : Comp := ⟨(.seq (.ops [s 2 (.mv (c (.lst 4 true [])))])
 (.seq (.ops [s 5 (.bsl 4 []),
  s 3 (.mv (t 5))])
 (.seq (.seq (.ops [s 4 (.mv (c (i 1)))])
 (.block 0 (.loop (.seq (.seq (.ops [s 6 (.mv (t 4)),
  s 7 (.mv (t 0)),
  s 8 (.len false (t 7)),
  s 9 (.bin .lss (t 6) (t 8)),
  s 10 (.mv (t 9)),
  sg [(10, true)] 11 (.mv (t 0)),
  kg [(10, true)] 12 66 [(t 11)] .sc,
  s 13 (.pick (t 10) (t 12) (c (.bool false)))])
 (.cond (t 13) .skip (.exit 0)))
 (.seq (.block 1 (.ops [s 16 (.mv (t 3)),
  s 17 (.mv (t 0)),
  s 18 (.mv (t 4)),
  s 19 (.bin .sub (t 18) (c (i 1))),
  s 20 (.idx (t 17) (t 19) 2),
  s 21 (.ldE 17 20 0 2 true true 2),
  s 22 (.mv (t 0)),
  s 23 (.mv (t 4)),
  s 24 (.idx (t 22) (t 23) 2),
  s 25 (.ldE 22 24 0 2 true true 2),
  s 26 (.bld [(i 0), (i 0), (i 0), (i 0)] [(0, 2, (t 21)), (2, 2, (t 25))]),
  s 27 (.bsl 4 [(t 26)]),
  s 28 (.app (t 16) (t 27) 4 32),
  s 3 (.mv (t 28))]))
 (.ops [s 14 (.mv (t 4)),
  s 15 (.bin .add (t 14) (c (i 1))),
  s 4 (.mv (t 15))]))))))
 (.seq (.ops [s 29 (.mv (t 3)),
  s 2 (.mv (t 29))])
 .ret)))), none, [2], [false]⟩
def i49 : Comp := ⟨(.seq (.ops [s 2 (.box 2 (t 0)),
  s 3 (.box 2 (t 1)),
  s 4 (.mv (c (i 0)))])
 (.seq (.seq (.ops [s 5 (.ldB 2 0 2 true true),
  k 6 19 [(t 5)] .sc,
  s 7 (.not (t 6)),
  s 8 (.mv (t 7)),
  sg [(8, false)] 9 (.ldB 3 0 2 true true),
  kg [(8, false)] 10 19 [(t 9)] .sc,
  sg [(8, false)] 11 (.not (t 10)),
  s 12 (.pick (t 8) (c (.bool true)) (t 11))])
 (.cond (t 12) (.seq (.ops [s 4 (.mv (c (i (-1))))])
 .ret) .skip))
 (.seq (.ops [s 13 (.mv (c (i 0))),
  s 14 (.ldB 2 0 1 false true),
  s 15 (.mv (c (i 0))),
  s 16 (.ldB 3 0 1 false true),
  s 17 (.bin .sub (t 14) (t 16)),
  s 18 (.mv (c (i 0))),
  s 19 (.ldB 3 0 1 false true),
  s 20 (.mv (c (i 0))),
  s 21 (.ldB 2 0 1 false true),
  s 22 (.bin .sub (t 19) (t 21)),
  k 23 69 [(t 17), (t 22)] .sc,
  s 24 (.mv (c (i 0))),
  s 25 (.ldB 2 1 1 false true),
  s 26 (.mv (c (i 0))),
  s 27 (.ldB 3 1 1 false true),
  s 28 (.bin .sub (t 25) (t 27)),
  s 29 (.mv (c (i 0))),
  s 30 (.ldB 3 1 1 false true),
  s 31 (.mv (c (i 0))),
  s 32 (.ldB 2 1 1 false true),
  s 33 (.bin .sub (t 30) (t 32)),
  k 34 69 [(t 28), (t 33)] .sc,
  s 35 (.bin .add (t 23) (t 34)),
  s 4 (.mv (t 35))])
 .ret))), none, [4], [true, true]⟩
def i50 : Comp := ⟨(.seq (.ops [s 2 (.mv (c (.bool false)))])
 (.seq (.seq (.ops [s 4 (.mv (t 0)),
  s 5 (.len true (t 4)),
  s 6 (.mv (c (i 0)))])
 (.block 0 (.loop (.seq (.ops [s 7 (.bin .lss (t 6) (t 5))])
 (.seq (.cond (t 7) .skip (.exit 0))
 (.seq (.block 1 (.seq (.ops [s 8 (.mv (t 6)),
  s 3 (.mv (t 8))])
 (.seq (.ops [s 9 (.mv (t 0)),
  s 10 (.mv (t 3)),
  s 11 (.six (t 9) (t 10)),
  s 12 (.bin .lss (t 11) (c (.int .u8 (97)))),
  s 13 (.mv (t 12)),
  sg [(13, false)] 14 (.mv (t 0)),
  sg [(13, false)] 15 (.mv (t 3)),
  sg [(13, false)] 16 (.six (t 14) (t 15)),
  sg [(13, false)] 17 (.bin .gtr (t 16) (c (.int .u8 (122)))),
  s 18 (.pick (t 13) (c (.bool true)) (t 17))])
 (.cond (t 18) (.seq (.ops [s 2 (.mv (c (.bool false)))])
 .ret) .skip))))
 (.ops [s 19 (.bin .add (t 6) (c (i 1))),
  s 6 (.mv (t 19))])))))))
 (.seq (.ops [s 20 (.mv (t 0)),
  s 21 (.len true (t 20)),
  k 22 39 [(t 21), (c (i 1)), (c (i 8))] .sc,
  s 2 (.mv (t 22))])
 .ret))), none, [2], [true]⟩
def i51 : Comp := ⟨(.seq (.ops [s 2 (.mv (c (.bool false)))])
 (.seq (.seq (.ops [s 7 (.mv (t 0)),
  k 8 70 [(t 7)] .sc,
  s 9 (.not (t 8))])
 (.cond (t 9) (.seq (.ops [s 2 (.mv (c (.bool false)))])
 .ret) .skip))
 (.seq (.ops [s 10 (.mv (t 0)),
  k 11 53 [(t 10)] .lin,
  s 3 (.mv (t 11))])
 (.seq (.seq (.ops [s 12 (.mv (t 3)),
  s 13 (.len false (t 12)),
  s 14 (.mv (c (i 0)))])
 (.block 0 (.loop (.seq (.ops [s 15 (.bin .lss (t 14) (t 13))])
 (.seq (.cond (t 15) .skip (.exit 0))
 (.seq (.block 1 (.seq (.ops [s 16 (.mv (t 14)),
  s 4 (.mv (t 16))])
 (.seq (.ops [s 17 (.mv (t 4)),
  s 18 (.mv (c (i 0)))])
 (.block 2 (.loop (.seq (.ops [s 19 (.bin .lss (t 18) (t 17))])
 (.seq (.cond (t 19) .skip (.exit 2))
 (.seq (.block 3 (.seq (.ops [s 20 (.mv (t 18)),
  s 5 (.mv (t 20))])
 (.seq (.ops [s 6 (.mv (c (i 0)))])
 (.seq (.seq (.ops [s 21 (.mv (t 5)),
  s 22 (.mv (t 4)),
  s 23 (.bin .sub (t 22) (c (i 1))),
  s 24 (.bin .eql (t 21) (t 23))])
 (.cond (t 24) (.ops [s 6 (.mv (c (i 1)))]) .skip))
 (.seq (.ops [s 25 (.mv (t 3)),
  s 26 (.mv (t 4)),
  s 27 (.idx (t 25) (t 26) 4),
  s 28 (.ldE 25 27 0 4 true true 4),
  s 29 (.mv (t 3)),
  s 30 (.mv (t 5)),
  s 31 (.idx (t 29) (t 30) 4),
  s 32 (.ldE 29 31 0 4 true true 4),
  k 33 71 [(t 28), (t 32)] .sc,
  s 34 (.mv (t 6)),
  s 35 (.bin .neq (t 33) (t 34))])
 (.cond (t 35) (.seq (.ops [s 2 (.mv (c (.bool false)))])
 .ret) .skip))))))
 (.ops [s 36 (.bin .add (t 18) (c (i 1))),
  s 18 (.mv (t 36))])))))))))
 (.ops [s 37 (.bin .add (t 14) (c (i 1))),
  s 14 (.mv (t 37))])))))))
 (.seq (.ops [s 2 (.mv (c (.bool true)))])
 .ret))))), none, [2], [false]⟩
def i52 : Comp := ⟨(.seq (.ops [s 2 (.mv (c (.bool false)))])
 (.seq (.seq (.ops [s 7 (.mv (t 0)),
  s 8 (.len false (t 7)),
  s 9 (.bin .lss (t 8) (c (i 3))),
  s 10 (.mv (t 9)),
  sg [(10, false)] 11 (.mv (t 0)),
  sg [(10, false)] 12 (.len false (t 11)),
  sg [(10, false)] 13 (.bin .gtr (t 12) (c (i 10))),
  s 14 (.pick (t 10) (c (.bool true)) (t 13))])
 (.cond (t 14) (.seq (.ops [s 2 (.mv (c (.bool false)))])
 .ret) .skip))
 (.seq (.ops [s 15 (.mv (t 0)),
  k 16 72 [(t 15)] .lin,
  s 3 (.mv (t 16))])
 (.seq (.seq (.ops [s 17 (.mv (t 3)),
  s 18 (.len false (t 17)),
  s 19 (.mv (c (i 0)))])
 (.block 0 (.loop (.seq (.ops [s 20 (.bin .lss (t 19) (t 18))])
 (.seq (.cond (t 20) .skip (.exit 0))
 (.seq (.block 1 (.seq (.ops [s 21 (.mv (t 19)),
  s 4 (.mv (t 21))])
 (.seq (.seq (.ops [s 22 (.mv (t 3)),
  s 23 (.mv (t 4)),
  s 24 (.idx (t 22) (t 23) 4),
  s 25 (.ldE 22 24 0 4 true true 4),
  k 26 73 [(t 25)] .sc,
  s 27 (.not (t 26))])
 (.cond (t 27) (.seq (.ops [s 2 (.mv (c (.bool false)))])
 .ret) .skip))
 (.seq (.ops [s 28 (.mv (t 4)),
  s 29 (.mv (c (i 0)))])
 (.block 2 (.loop (.seq (.ops [s 30 (.bin .lss (t 29) (t 28))])
 (.seq (.cond (t 30) .skip (.exit 2))
 (.seq (.block 3 (.seq (.ops [s 31 (.mv (t 29)),
  s 5 (.mv (t 31))])
 (.seq (.ops [s 6 (.mv (c (i 0)))])
 (.seq (.seq (.ops [s 32 (.mv (t 5)),
  s 33 (.mv (t 4)),
  s 34 (.bin .sub (t 33) (c (i 1))),
  s 35 (.bin .eql (t 32) (t 34)),
  s 36 (.mv (t 35)),
  sg [(36, false)] 37 (.mv (t 5)),
  sg [(36, false)] 38 (.bin .eql (t 37) (c (i 0))),
  sg [(36, false)] 39 (.mv (t 38)),
  sg [(39, true), (36, false)] 40 (.mv (t 4)),
  sg [(39, true), (36, false)] 41 (.mv (t 3)),
  sg [(39, true), (36, false)] 42 (.len false (t 41)),
  sg [(39, true), (36, false)] 43 (.bin .sub (t 42) (c (i 1))),
  sg [(39, true), (36, false)] 44 (.bin .eql (t 40) (t 43)),
  sg [(36, false)] 45 (.pick (t 39) (t 44) (c (.bool false))),
  s 46 (.pick (t 36) (c (.bool true)) (t 45))])
 (.cond (t 46) (.ops [s 6 (.mv (c (i 1)))]) .skip))
 (.seq (.ops [s 47 (.mv (t 3)),
  s 48 (.mv (t 4)),
  s 49 (.idx (t 47) (t 48) 4),
  s 50 (.ldE 47 49 0 4 true true 4),
  s 51 (.mv (t 3)),
  s 52 (.mv (t 5)),
  s 53 (.idx (t 51) (t 52) 4),
  s 54 (.ldE 51 53 0 4 true true 4),
  k 55 71 [(t 50), (t 54)] .sc,
  s 56 (.mv (t 6)),
  s 57 (.bin .neq (t 55) (t 56))])
 (.cond (t 57) (.seq (.ops [s 2 (.mv (c (.bool false)))])
 .ret) .skip))))))
 (.ops [s 58 (.bin .add (t 29) (c (i 1))),
  s 29 (.mv (t 58))]))))))))))
 (.ops [s 59 (.bin .add (t 19) (c (i 1))),
  s 19 (.mv (t 59))])))))))
 (.seq (.ops [s 2 (.mv (c (.bool true)))])
 .ret))))), none, [2], [false]⟩
def i53 : Comp := ⟨(.seq (.ops [s 2 (.mv (c (.lst 4 true [])))])
 (.seq (.ops [s 5 (.bsl 4 []),
  s 3 (.mv (t 5))])
 (.seq (.seq (.ops [s 6 (.mv (t 0)),
  k 7 70 [(t 6)] .sc,
  s 8 (.not (t 7))])
 (.cond (t 8) (.seq (.ops [s 9 (.mv (t 3)),
  s 2 (.mv (t 9))])
 .ret) .skip))
 (.seq (.seq (.ops [s 4 (.mv (c (i 1)))])
 (.block 0 (.loop (.seq (.seq (.ops [s 10 (.mv (t 4)),
  s 11 (.mv (t 0)),
  s 12 (.len false (t 11)),
  s 13 (.bin .lss (t 10) (t 12))])
 (.cond (t 13) .skip (.exit 0)))
 (.seq (.block 1 (.ops [s 16 (.mv (t 3)),
  s 17 (.mv (t 0)),
  s 18 (.mv (t 4)),
  s 19 (.bin .sub (t 18) (c (i 1))),
  s 20 (.idx (t 17) (t 19) 2),
  s 21 (.ldE 17 20 0 2 true true 2),
  s 22 (.mv (t 0)),
  s 23 (.mv (t 4)),
  s 24 (.idx (t 22) (t 23) 2),
  s 25 (.ldE 22 24 0 2 true true 2),
  s 26 (.bld [(i 0), (i 0), (i 0), (i 0)] [(0, 2, (t 21)), (2, 2, (t 25))]),
  s 27 (.bsl 4 [(t 26)]),
  s 28 (.app (t 16) (t 27) 4 32),
  s 3 (.mv (t 28))]))
 (.ops [s 14 (.mv (t 4)),
  s 15 (.bin .add (t 14) (c (i 1))),
  s 4 (.mv (t 15))]))))))
 (.seq (.ops [s 29 (.mv (t 3)),
  s 2 (.mv (t 29))])
 .ret))))), none, [2], [false]⟩
def i54 : Comp := ⟨(.seq (.ops [s 2 (.box 2 (t 0)),
  s 3 (.box 2 (t 1)),
  s 4 (.mv (c (i 0)))])
 (.seq (.seq (.ops [s 5 (.ldB 2 0 2 true true),
  k 6 24 [(t 5)] .sc,
  s 7 (.not (t 6)),
  s 8 (.mv (t 7)),
  sg [(8, false)] 9 (.ldB 3 0 2 true true),
  kg [(8, false)] 10 24 [(t 9)] .sc,
  sg [(8, false)] 11 (.not (t 10)),
  s 12 (.pick (t 8) (c (.bool true)) (t 11))])
 (.cond (t 12) (.seq (.ops [s 4 (.mv (c (i (-1))))])
 .ret) .skip))
 (.seq (.ops [s 13 (.mv (c (i 0))),
  s 14 (.ldB 2 0 1 false true),
  s 15 (.mv (c (i 0))),
  s 16 (.ldB 3 0 1 false true),
  s 17 (.bin .sub (t 14) (t 16)),
  s 18 (.mv (c (i 0))),
  s 19 (.ldB 3 0 1 false true),
  s 20 (.mv (c (i 0))),
  s 21 (.ldB 2 0 1 false true),
  s 22 (.bin .sub (t 19) (t 21)),
  s 23 (.mx (t 17) (t 22)),
  s 24 (.mv (c (i 0))),
  s 25 (.ldB 2 1 1 false true),
  s 26 (.mv (c (i 0))),
  s 27 (.ldB 3 1 1 false true),
  s 28 (.bin .sub (t 25) (t 27)),
  s 29 (.mv (c (i 0))),
  s 30 (.ldB 3 1 1 false true),
  s 31 (.mv (c (i 0))),
  s 32 (.ldB 2 1 1 false true),
  s 33 (.bin .sub (t 30) (t 32)),
  s 34 (.mx (t 28) (t 33)),
  s 35 (.bin .add (t 23) (t 34)),
  s 4 (.mv (t 35))])
 .ret))), none, [4], [true, true]⟩
def i65 : Comp := ⟨(.seq (.ops [s 2 (.box 4 (t 0)),
  s 3 (.box 4 (t 1)),
  s 4 (.mv (c (i 0)))])
 (.seq (.seq (.ops [s 5 (.ldB 2 0 4 true true),
  k 6 68 [(t 5)] .sc,
  s 7 (.not (t 6)),
  s 8 (.mv (t 7)),
  sg [(8, false)] 9 (.ldB 3 0 4 true true),
  kg [(8, false)] 10 68 [(t 9)] .sc,
  sg [(8, false)] 11 (.not (t 10)),
  s 12 (.pick (t 8) (c (.bool true)) (t 11))])
 (.cond (t 12) (.seq (.ops [s 4 (.mv (c (i 0)))])
 .ret) .skip))
 (.seq (.seq (.ops [s 13 (.mv (c (i 0))),
  s 14 (.mv (t 13)),
  s 15 (.ldB 2 0 1 false true),
  s 16 (.mv (c (i 0))),
  s 17 (.mv (t 16)),
  s 18 (.ldB 2 2 1 false true),
  k 19 69 [(t 15), (t 18)] .sc,
  s 20 (.mv (c (i 0))),
  s 21 (.mv (t 20)),
  s 22 (.ldB 3 0 1 false true),
  s 23 (.mv (c (i 0))),
  s 24 (.mv (t 23)),
  s 25 (.ldB 3 2 1 false true),
  k 26 79 [(t 22), (t 25)] .sc,
  s 27 (.bin .lss (t 19) (t 26)),
  s 28 (.mv (t 27)),
  sg [(28, false)] 29 (.mv (c (i 0))),
  sg [(28, false)] 30 (.mv (t 29)),
  sg [(28, false)] 31 (.ldB 3 0 1 false true),
  sg [(28, false)] 32 (.mv (c (i 0))),
  sg [(28, false)] 33 (.mv (t 32)),
  sg [(28, false)] 34 (.ldB 3 2 1 false true),
  kg [(28, false)] 35 69 [(t 31), (t 34)] .sc,
  sg [(28, false)] 36 (.mv (c (i 0))),
  sg [(28, false)] 37 (.mv (t 36)),
  sg [(28, false)] 38 (.ldB 2 0 1 false true),
  sg [(28, false)] 39 (.mv (c (i 0))),
  sg [(28, false)] 40 (.mv (t 39)),
  sg [(28, false)] 41 (.ldB 2 2 1 false true),
  kg [(28, false)] 42 79 [(t 38), (t 41)] .sc,
  sg [(28, false)] 43 (.bin .lss (t 35) (t 42)),
  s 44 (.pick (t 28) (c (.bool true)) (t 43)),
  s 45 (.mv (t 44)),
  sg [(45, false)] 46 (.mv (c (i 0))),
  sg [(45, false)] 47 (.mv (t 46)),
  sg [(45, false)] 48 (.ldB 2 1 1 false true),
  sg [(45, false)] 49 (.mv (c (i 0))),
  sg [(45, false)] 50 (.mv (t 49)),
  sg [(45, false)] 51 (.ldB 2 3 1 false true),
  kg [(45, false)] 52 69 [(t 48), (t 51)] .sc,
  sg [(45, false)] 53 (.mv (c (i 0))),
  sg [(45, false)] 54 (.mv (t 53)),
  sg [(45, false)] 55 (.ldB 3 1 1 false true),
  sg [(45, false)] 56 (.mv (c (i 0))),
  sg [(45, false)] 57 (.mv (t 56)),
  sg [(45, false)] 58 (.ldB 3 3 1 false true),
  kg [(45, false)] 59 79 [(t 55), (t 58)] .sc,
  sg [(45, false)] 60 (.bin .lss (t 52) (t 59)),
  s 61 (.pick (t 45) (c (.bool true)) (t 60)),
  s 62 (.mv (t 61)),
  sg [(62, false)] 63 (.mv (c (i 0))),
  sg [(62, false)] 64 (.mv (t 63)),
  sg [(62, false)] 65 (.ldB 3 1 1 false true),
  sg [(62, false)] 66 (.mv (c (i 0))),
  sg [(62, false)] 67 (.mv (t 66)),
  sg [(62, false)] 68 (.ldB 3 3 1 false true),
  kg [(62, false)] 69 69 [(t 65), (t 68)] .sc,
  sg [(62, false)] 70 (.mv (c (i 0))),
  sg [(62, false)] 71 (.mv (t 70)),
  sg [(62, false)] 72 (.ldB 2 1 1 false true),
  sg [(62, false)] 73 (.mv (c (i 0))),
  sg [(62, false)] 74 (.mv (t 73)),
  sg [(62, false)] 75 (.ldB 2 3 1 false true),
  kg [(62, false)] 76 79 [(t 72), (t 75)] .sc,
  sg [(62, false)] 77 (.bin .lss (t 69) (t 76)),
  s 78 (.pick (t 62) (c (.bool true)) (t 77))])
 (.cond (t 78) (.seq (.ops [s 4 (.mv (c (i 0)))])
 .ret) .skip))
 (.seq (.seq (.ops [s 79 (.ldB 2 0 4 true true),
  s 80 (.ldB 3 0 4 true true),
  k 81 80 [(t 79), (t 80)] .sc])
 (.block 0 (.seq (.ops [s 83 (.bin .eql (t 81) (c (i 0))),
  s 82 (.mv (t 83))])
 (.cond (t 82) (.seq (.seq (.ops [s 84 (.mv (c (i 0))),
  s 85 (.ldB 2 0 2 true true),
  s 86 (.mv (c (i 0))),
  s 87 (.ldB 2 2 2 true true),
  s 88 (.mv (c (i 0))),
  s 89 (.ldB 3 0 2 true true),
  k 90 81 [(t 85), (t 87), (t 89)] .sc,
  s 91 (.mv (c (i 0))),
  s 92 (.ldB 2 0 2 true true),
  s 93 (.mv (c (i 0))),
  s 94 (.ldB 2 2 2 true true),
  s 95 (.mv (c (i 0))),
  s 96 (.ldB 3 2 2 true true),
  k 97 81 [(t 92), (t 94), (t 96)] .sc,
  s 98 (.bin .mul (t 90) (t 97)),
  s 99 (.bin .lss (t 98) (c (i 0))),
  s 100 (.mv (t 99)),
  sg [(100, true)] 101 (.mv (c (i 0))),
  sg [(100, true)] 102 (.ldB 3 0 2 true true),
  sg [(100, true)] 103 (.mv (c (i 0))),
  sg [(100, true)] 104 (.ldB 3 2 2 true true),
  sg [(100, true)] 105 (.mv (c (i 0))),
  sg [(100, true)] 106 (.ldB 2 0 2 true true),
  kg [(100, true)] 107 81 [(t 102), (t 104), (t 106)] .sc,
  sg [(100, true)] 108 (.mv (c (i 0))),
  sg [(100, true)] 109 (.ldB 3 0 2 true true),
  sg [(100, true)] 110 (.mv (c (i 0))),
  sg [(100, true)] 111 (.ldB 3 2 2 true true),
  sg [(100, true)] 112 (.mv (c (i 0))),
  sg [(100, true)] 113 (.ldB 2 2 2 true true),
  kg [(100, true)] 114 81 [(t 109), (t 111), (t 113)] .sc,
  sg [(100, true)] 115 (.bin .mul (t 107) (t 114)),
  sg [(100, true)] 116 (.bin .lss (t 115) (c (i 0))),
  s 117 (.pick (t 100) (t 116) (c (.bool false)))])
 (.cond (t 117) (.seq (.ops [s 4 (.mv (c (i 2)))])
 .ret) .skip))
 (.seq (.ops [s 4 (.mv (c (i 0)))])
 .ret)) (.seq (.ops [s 119 (.bin .eql (t 81) (c (i 1))),
  s 118 (.mv (t 119))])
 (.cond (t 118) (.seq (.ops [s 4 (.mv (c (i 1)))])
 .ret) .skip))))))
 (.seq (.ops [s 4 (.mv (c (i 3)))])
 .ret))))), none, [4], [true, true]⟩
def i66 : Comp := ⟨(.seq (.ops [s 2 (.mv (c (.bool false)))])
 (.seq (.seq (.ops [s 3 (.mv (c (i 0)))])
 (.block 0 (.loop (.seq (.seq (.ops [s 4 (.mv (t 3)),
  s 5 (.mv (t 0)),
  s 6 (.len false (t 5)),
  s 7 (.bin .lss (t 4) (t 6))])
 (.cond (t 7) .skip (.exit 0)))
 (.seq (.block 1 (.seq (.ops [s 10 (.mv (t 0)),
  s 11 (.mv (t 3)),
  s 12 (.idx (t 10) (t 11) 2),
  s 13 (.ldE 10 12 0 2 true true 2),
  k 14 19 [(t 13)] .sc,
  s 15 (.not (t 14)),
  s 16 (.mv (t 15)),
  sg [(16, false)] 17 (.mv (t 3)),
  sg [(16, false)] 18 (.bin .gtr (t 17) (c (i 0))),
  sg [(16, false)] 19 (.mv (t 18)),
  sg [(19, true), (16, false)] 20 (.mv (t 0)),
  sg [(19, true), (16, false)] 21 (.mv (t 3)),
  sg [(19, true), (16, false)] 22 (.bin .sub (t 21) (c (i 1))),
  sg [(19, true), (16, false)] 23 (.idx (t 20) (t 22) 2),
  sg [(19, true), (16, false)] 24 (.ldE 20 23 0 2 true true 2),
  sg [(19, true), (16, false)] 25 (.mv (t 0)),
  sg [(19, true), (16, false)] 26 (.mv (t 3)),
  sg [(19, true), (16, false)] 27 (.idx (t 25) (t 26) 2),
  sg [(19, true), (16, false)] 28 (.ldE 25 27 0 2 true true 2),
  sg [(19, true), (16, false)] 29 (.eqa false [0, 0] (t 24) (t 28)),
  sg [(16, false)] 30 (.pick (t 19) (t 29) (c (.bool false))),
  s 31 (.pick (t 16) (c (.bool true)) (t 30))])
 (.cond (t 31) (.seq (.ops [s 2 (.mv (c (.bool false)))])
 .ret) .skip)))
 (.ops [s 8 (.mv (t 3)),
  s 9 (.bin .add (t 8) (c (i 1))),
  s 3 (.mv (t 9))]))))))
 (.seq (.ops [s 32 (.mv (t 0)),
  s 33 (.len false (t 32)),
  k 34 35 [(t 33), (c (i 2)), (c (i 10))] .sc,
  s 2 (.mv (t 34))])
 .ret))), none, [2], [false]⟩
def i67 : Comp := ⟨(.seq (.ops [s 2 (.mv (c (.lst 4 true [])))])
 (.seq (.ops [s 5 (.bsl 4 []),
  s 3 (.mv (t 5))])
 (.seq (.seq (.ops [s 4 (.mv (c (i 0)))])
 (.block 0 (.loop (.seq (.seq (.ops [s 6 (.mv (t 4)),
  s 7 (.mv (t 0)),
  s 8 (.len false (t 7)),
  s 9 (.bin .lss (t 6) (t 8))])
 (.cond (t 9) .skip (.exit 0)))
 (.seq (.block 1 (.ops [s 12 (.mv (t 3)),
  s 13 (.mv (t 0)),
  s 14 (.mv (t 4)),
  s 15 (.idx (t 13) (t 14) 2),
  s 16 (.ldE 13 15 0 2 true true 2),
  s 17 (.mv (t 0)),
  s 18 (.mv (t 4)),
  s 19 (.bin .add (t 18) (c (i 1))),
  s 20 (.mv (t 0)),
  s 21 (.len false (t 20)),
  s 22 (.bin .rem (t 19) (t 21)),
  s 23 (.idx (t 17) (t 22) 2),
  s 24 (.ldE 17 23 0 2 true true 2),
  s 25 (.bld [(i 0), (i 0), (i 0), (i 0)] [(0, 2, (t 16)), (2, 2, (t 24))]),
  s 26 (.bsl 4 [(t 25)]),
  s 27 (.app (t 12) (t 26) 4 32),
  s 3 (.mv (t 27))]))
 (.ops [s 10 (.mv (t 4)),
  s 11 (.bin .add (t 10) (c (i 1))),
  s 4 (.mv (t 11))]))))))
 (.seq (.ops [s 28 (.mv (t 3)),
  s 2 (.mv (t 28))])
 .ret)))), none, [2], [false]⟩
def i68 : Comp := ⟨(.seq (.ops [s 1 (.box 4 (t 0)),
  s 2 (.mv (c (.bool false)))])
 (.seq (.ops [s 3 (.mv (c (i 0))),
  s 4 (.ldB 1 0 2 true true),
  k 5 19 [(t 4)] .sc,
  s 6 (.mv (t 5)),
  sg [(6, true)] 7 (.mv (c (i 0))),
  sg [(6, true)] 8 (.ldB 1 2 2 true true),
  kg [(6, true)] 9 19 [(t 8)] .sc,
  s 10 (.pick (t 6) (t 9) (c (.bool false))),
  s 11 (.mv (t 10)),
  sg [(11, true)] 12 (.mv (c (i 0))),
  sg [(11, true)] 13 (.ldB 1 0 2 true true),
  sg [(11, true)] 14 (.mv (c (i 0))),
  sg [(11, true)] 15 (.ldB 1 2 2 true true),
  sg [(11, true)] 16 (.eqa true [0, 0] (t 13) (t 15)),
  s 17 (.pick (t 11) (t 16) (c (.bool false))),
  s 2 (.mv (t 17))])
 .ret)), none, [2], [true]⟩
def i69 : Comp := ⟨(.seq (.ops [s 4 (.mv (c (i 0)))])
 (.seq (.seq (.ops [s 5 (.mv (t 1)),
  s 6 (.mv (t 0)),
  s 7 (.bin .gtr (t 5) (t 6))])
 (.cond (t 7) (.seq (.ops [s 8 (.mv (t 1)),
  s 4 (.mv (t 8))])
 .ret) .skip))
 (.seq (.ops [s 9 (.mv (t 0)),
  s 4 (.mv (t 9))])
 .ret))), none, [4], [true, true]⟩
def i70 : Comp := ⟨(.seq (.ops [s 2 (.mv (c (.bool false)))])
 (.seq (.seq (.ops [s 5 (.mv (t 0)),
  s 6 (.len false (t 5)),
  s 7 (.bin .lss (t 6) (c (i 2))),
  s 8 (.mv (t 7)),
  sg [(8, false)] 9 (.mv (t 0)),
  sg [(8, false)] 10 (.len false (t 9)),
  sg [(8, false)] 11 (.bin .gtr (t 10) (c (i 10))),
  s 12 (.pick (t 8) (c (.bool true)) (t 11))])
 (.cond (t 12) (.seq (.ops [s 2 (.mv (c (.bool false)))])
 .ret) .skip))
 (.seq (.seq (.ops [s 13 (.mv (t 0)),
  s 14 (.len false (t 13)),
  s 15 (.mv (c (i 0)))])
 (.block 0 (.loop (.seq (.ops [s 16 (.bin .lss (t 15) (t 14))])
 (.seq (.cond (t 16) .skip (.exit 0))
 (.seq (.block 1 (.seq (.ops [s 17 (.mv (t 15)),
  s 18 (.idx (t 13) (t 15) 2),
  s 19 (.ldE 13 18 0 2 true true 2),
  s 4 (.alc [(i 0), (i 0)]),
  s 3 (.mv (t 17)),
  s 4 (.stB 4 0 2 (t 19) false)])
 (.seq (.ops [s 20 (.ldB 4 0 2 true true),
  k 21 24 [(t 20)] .sc,
  s 22 (.not (t 21)),
  s 23 (.mv (t 22)),
  sg [(23, false)] 24 (.mv (t 3)),
  sg [(23, false)] 25 (.bin .gtr (t 24) (c (i 0))),
  sg [(23, false)] 26 (.mv (t 25)),
  sg [(26, true), (23, false)] 27 (.ldB 4 0 2 true true),
  sg [(26, true), (23, false)] 28 (.mv (t 0)),
  sg [(26, true), (23, false)] 29 (.mv (t 3)),
  sg [(26, true), (23, false)] 30 (.bin .sub (t 29) (c (i 1))),
  sg [(26, true), (23, false)] 31 (.idx (t 28) (t 30) 2),
  sg [(26, true), (23, false)] 32 (.ldE 28 31 0 2 true true 2),
  sg [(26, true), (23, false)] 33 (.eqa false [0, 0] (t 27) (t 32)),
  sg [(23, false)] 34 (.pick (t 26) (t 33) (c (.bool false))),
  s 35 (.pick (t 23) (c (.bool true)) (t 34))])
 (.cond (t 35) (.seq (.ops [s 2 (.mv (c (.bool false)))])
 .ret) .skip))))
 (.ops [s 36 (.bin .add (t 15) (c (i 1))),
  s 15 (.mv (t 36))])))))))
 (.seq (.ops [s 2 (.mv (c (.bool true)))])
 .ret)))), none, [2], [false]⟩
def i71 : Comp := ⟨(.seq (.ops [s 2 (.box 4 (t 0)),
  s 3 (.box 4 (t 1)),
  s 4 (.mv (c (i 0)))])
 (.seq (.seq (.ops [s 9 (.ldB 2 0 4 true true),
  k 10 73 [(t 9)] .sc,
  s 11 (.not (t 10)),
  s 12 (.mv (t 11)),
  sg [(12, false)] 13 (.ldB 3 0 4 true true),
  kg [(12, false)] 14 73 [(t 13)] .sc,
  sg [(12, false)] 15 (.not (t 14)),
  s 16 (.pick (t 12) (c (.bool true)) (t 15))])
 (.cond (t 16) (.seq (.ops [s 4 (.mv (c (i 0)))])
 .ret) .skip))
 (.seq (.ops [s 17 (.mv (c (i 0))),
  s 18 (.ldB 2 0 2 true true),
  s 19 (.mv (c (i 0))),
  s 20 (.ldB 2 2 2 true true),
  s 21 (.mv (c (i 0))),
  s 22 (.ldB 3 0 2 true true),
  k 23 82 [(t 18), (t 20), (t 22)] .sc,
  s 24 (.mv (c (i 0))),
  s 25 (.ldB 2 0 2 true true),
  s 26 (.mv (c (i 0))),
  s 27 (.ldB 2 2 2 true true),
  s 28 (.mv (c (i 0))),
  s 29 (.ldB 3 2 2 true true),
  k 30 82 [(t 25), (t 27), (t 29)] .sc,
  s 5 (.mv (t 23)),
  s 6 (.mv (t 30))])
 (.seq (.seq (.ops [s 31 (.mv (t 5)),
  s 32 (.bin .eql (t 31) (c (i 0))),
  s 33 (.mv (t 32)),
  sg [(33, true)] 34 (.mv (t 6)),
  sg [(33, true)] 35 (.bin .eql (t 34) (c (i 0))),
  s 36 (.pick (t 33) (t 35) (c (.bool false)))])
 (.cond (t 36) (.seq (.ops [s 37 (.ldB 2 0 4 true true),
  k 38 83 [(t 37)] .sc,
  s 39 (.ldB 3 0 4 true true),
  k 40 83 [(t 39)] .sc,
  s 2 (.stB 2 0 4 (t 38) false),
  s 3 (.stB 3 0 4 (t 40) false)])
 (.seq (.ops [s 41 (.mv (c (i 0))),
  s 42 (.ldB 2 0 2 true true),
  s 43 (.mv (c (i 0))),
  s 44 (.ldB 2 2 2 true true),
  s 7 (.alc [(i 0), (i 0)]),
  s 8 (.alc [(i 0), (i 0)]),
  s 7 (.stB 7 0 2 (t 42) false),
  s 8 (.stB 8 0 2 (t 44) false)])
 (.seq (.seq (.ops [s 45 (.ldB 7 0 2 true true),
  s 46 (.mv (c (i 0))),
  s 47 (.ldB 3 0 2 true true),
  k 48 30 [(t 45), (t 47)] .sc])
 (.cond (t 48) (.ops [s 49 (.mv (c (i 0))),
  s 50 (.ldB 3 0 2 true true),
  s 7 (.stB 7 0 2 (t 50) false)]) .skip))
 (.seq (.seq (.ops [s 51 (.mv (c (i 0))),
  s 52 (.ldB 3 2 2 true true),
  s 53 (.ldB 8 0 2 true true),
  k 54 30 [(t 52), (t 53)] .sc])
 (.cond (t 54) (.ops [s 55 (.mv (c (i 0))),
  s 56 (.ldB 3 2 2 true true),
  s 8 (.stB 8 0 2 (t 56) false)]) .skip))
 (.seq (.block 0 (.seq (.ops [s 58 (.ldB 8 0 2 true true),
  s 59 (.ldB 7 0 2 true true),
  k 60 30 [(t 58), (t 59)] .sc,
  s 57 (.mv (t 60))])
 (.cond (t 57) (.seq (.ops [s 4 (.mv (c (i 0)))])
 .ret) (.seq (.ops [s 62 (.ldB 7 0 2 true true),
  s 63 (.ldB 8 0 2 true true),
  s 64 (.eqa false [0, 0] (t 62) (t 63)),
  s 61 (.mv (t 64))])
 (.cond (t 61) (.seq (.ops [s 4 (.mv (c (i 1)))])
 .ret) .skip)))))
 (.seq (.ops [s 4 (.mv (c (i 3)))])
 .ret)))))) .skip))
 (.seq (.seq (.ops [s 65 (.mv (t 5)),
  s 66 (.mv (t 6)),
  s 67 (.bin .mul (t 65) (t 66)),
  s 68 (.bin .lss (t 67) (c (i 0))),
  s 69 (.mv (t 68)),
  sg [(69, true)] 70 (.mv (c (i 0))),
  sg [(69, true)] 71 (.ldB 3 0 2 true true),
  sg [(69, true)] 72 (.mv (c (i 0))),
  sg [(69, true)] 73 (.ldB 3 2 2 true true),
  sg [(69, true)] 74 (.mv (c (i 0))),
  sg [(69, true)] 75 (.ldB 2 0 2 true true),
  kg [(69, true)] 76 82 [(t 71), (t 73), (t 75)] .sc,
  sg [(69, true)] 77 (.mv (c (i 0))),
  sg [(69, true)] 78 (.ldB 3 0 2 true true),
  sg [(69, true)] 79 (.mv (c (i 0))),
  sg [(69, true)] 80 (.ldB 3 2 2 true true),
  sg [(69, true)] 81 (.mv (c (i 0))),
  sg [(69, true)] 82 (.ldB 2 2 2 true true),
  kg [(69, true)] 83 82 [(t 78), (t 80), (t 82)] .sc,
  sg [(69, true)] 84 (.bin .mul (t 76) (t 83)),
  sg [(69, true)] 85 (.bin .lss (t 84) (c (i 0))),
  s 86 (.pick (t 69) (t 85) (c (.bool false)))])
 (.cond (t 86) (.seq (.ops [s 4 (.mv (c (i 2)))])
 .ret) .skip))
 (.seq (.seq (.ops [s 87 (.ldB 2 0 4 true true),
  s 88 (.mv (c (i 0))),
  s 89 (.ldB 3 0 2 true true),
  k 90 84 [(t 87), (t 89)] .sc,
  s 91 (.mv (t 90)),
  sg [(91, false)] 92 (.ldB 2 0 4 true true),
  sg [(91, false)] 93 (.mv (c (i 0))),
  sg [(91, false)] 94 (.ldB 3 2 2 true true),
  kg [(91, false)] 95 84 [(t 92), (t 94)] .sc,
  s 96 (.pick (t 91) (c (.bool true)) (t 95)),
  s 97 (.mv (t 96)),
  sg [(97, false)] 98 (.ldB 3 0 4 true true),
  sg [(97, false)] 99 (.mv (c (i 0))),
  sg [(97, false)] 100 (.ldB 2 0 2 true true),
  kg [(97, false)] 101 84 [(t 98), (t 100)] .sc,
  s 102 (.pick (t 97) (c (.bool true)) (t 101)),
  s 103 (.mv (t 102)),
  sg [(103, false)] 104 (.ldB 3 0 4 true true),
  sg [(103, false)] 105 (.mv (c (i 0))),
  sg [(103, false)] 106 (.ldB 2 2 2 true true),
  kg [(103, false)] 107 84 [(t 104), (t 106)] .sc,
  s 108 (.pick (t 103) (c (.bool true)) (t 107))])
 (.cond (t 108) (.seq (.ops [s 4 (.mv (c (i 1)))])
 .ret) .skip))
 (.seq (.ops [s 4 (.mv (c (i 0)))])
 .ret))))))), none, [4], [true, true]⟩
def i72 : Comp := ⟨(.seq (.ops [s 2 (.mv (c (.lst 4 true [])))])
 (.seq (.ops [s 6 (.bsl 4 []),
  s 3 (.mv (t 6))])
 (.seq (.seq (.ops [s 7 (.mv (t 0)),
  s 8 (.len false (t 7)),
  s 9 (.mv (c (i 0)))])
 (.block 0 (.loop (.seq (.ops [s 10 (.bin .lss (t 9) (t 8))])
 (.seq (.cond (t 10) .skip (.exit 0))
 (.seq (.block 1 (.seq (.ops [s 11 (.mv (t 9)),
  s 12 (.idx (t 7) (t 9) 2),
  s 13 (.ldE 7 12 0 2 true true 2),
  s 5 (.alc [(i 0), (i 0)]),
  s 4 (.mv (t 11)),
  s 5 (.stB 5 0 2 (t 13) false)])
 (.ops [s 14 (.mv (t 3)),
  s 15 (.ldB 5 0 2 true true),
  s 16 (.mv (t 0)),
  s 17 (.mv (t 4)),
  s 18 (.bin .add (t 17) (c (i 1))),
  s 19 (.mv (t 0)),
  s 20 (.len false (t 19)),
  s 21 (.bin .rem (t 18) (t 20)),
  s 22 (.idx (t 16) (t 21) 2),
  s 23 (.ldE 16 22 0 2 true true 2),
  s 24 (.bld [(i 0), (i 0), (i 0), (i 0)] [(0, 2, (t 15)), (2, 2, (t 23))]),
  s 25 (.bsl 4 [(t 24)]),
  s 26 (.app (t 14) (t 25) 4 32),
  s 3 (.mv (t 26))])))
 (.ops [s 27 (.bin .add (t 9) (c (i 1))),
  s 9 (.mv (t 27))])))))))
 (.seq (.ops [s 28 (.mv (t 3)),
  s 2 (.mv (t 28))])
 .ret)))), none, [2], [false]⟩
def i73 : Comp := ⟨(.seq (.ops [s 1 (.box 4 (t 0)),
  s 2 (.mv (c (.bool false)))])
 (.seq (.ops [s 3 (.mv (c (i 0))),
  s 4 (.ldB 1 0 2 true true),
  k 5 24 [(t 4)] .sc,
  s 6 (.mv (t 5)),
  sg [(6, true)] 7 (.mv (c (i 0))),
  sg [(6, true)] 8 (.ldB 1 2 2 true true),
  kg [(6, true)] 9 24 [(t 8)] .sc,
  s 10 (.pick (t 6) (t 9) (c (.bool false))),
  s 11 (.mv (t 10)),
  sg [(11, true)] 12 (.mv (c (i 0))),
  sg [(11, true)] 13 (.ldB 1 0 2 true true),
  sg [(11, true)] 14 (.mv (c (i 0))),
  sg [(11, true)] 15 (.ldB 1 2 2 true true),
  sg [(11, true)] 16 (.eqa true [0, 0] (t 13) (t 15)),
  s 17 (.pick (t 11) (t 16) (c (.bool false))),
  s 2 (.mv (t 17))])
 .ret)), none, [2], [true]⟩
def i79 : Comp := ⟨(.seq (.ops [s 4 (.mv (c (i 0)))])
 (.seq (.seq (.ops [s 5 (.mv (t 1)),
  s 6 (.mv (t 0)),
  s 7 (.bin .lss (t 5) (t 6))])
 (.cond (t 7) (.seq (.ops [s 8 (.mv (t 1)),
  s 4 (.mv (t 8))])
 .ret) .skip))
 (.seq (.ops [s 9 (.mv (t 0)),
  s 4 (.mv (t 9))])
 .ret))), none, [4], [true, true]⟩
def i80 : Comp := ⟨(.seq (.ops [s 2 (.box 4 (t 0)),
  s 3 (.box 4 (t 1)),
  s 4 (.mv (c (i 0)))])
 (.seq (.ops [s 10 (.bsl 2 []),
  s 5 (.mv (t 10))])
 (.seq (.ops [s 11 (.mv (c (i 0))),
  s 12 (.ldB 2 0 2 true true),
  s 13 (.mv (c (i 0))),
  s 14 (.ldB 2 2 2 true true),
  s 15 (.mv (c (i 0))),
  s 16 (.ldB 3 0 2 true true),
  s 17 (.mv (c (i 0))),
  s 18 (.ldB 3 2 2 true true),
  s 19 (.bsl 2 [(t 12), (t 14), (t 16), (t 18)]),
  s 6 (.mv (t 19))])
 (.seq (.seq (.ops [s 7 (.mv (c (i 0)))])
 (.block 0 (.loop (.seq (.seq (.ops [s 20 (.mv (t 7)),
  s 21 (.bin .lss (t 20) (c (i 4)))])
 (.cond (t 21) .skip (.exit 0)))
 (.seq (.block 1 (.seq (.ops [s 24 (.mv (t 7)),
  s 25 (.bin .lss (t 24) (c (i 2))),
  s 26 (.mv (t 25)),
  sg [(26, true)] 27 (.ldB 3 0 4 true true),
  sg [(26, true)] 28 (.mv (t 6)),
  sg [(26, true)] 29 (.mv (t 7)),
  sg [(26, true)] 30 (.idx (t 28) (t 29) 2),
  sg [(26, true)] 31 (.ldE 28 30 0 2 true true 2),
  kg [(26, true)] 32 86 [(t 27), (t 31)] .sc,
  s 33 (.pick (t 26) (t 32) (c (.bool false))),
  s 34 (.mv (t 33)),
  sg [(34, false)] 35 (.mv (t 7)),
  sg [(34, false)] 36 (.bin .geq (t 35) (c (i 2))),
  sg [(34, false)] 37 (.mv (t 36)),
  sg [(37, true), (34, false)] 38 (.ldB 2 0 4 true true),
  sg [(37, true), (34, false)] 39 (.mv (t 6)),
  sg [(37, true), (34, false)] 40 (.mv (t 7)),
  sg [(37, true), (34, false)] 41 (.idx (t 39) (t 40) 2),
  sg [(37, true), (34, false)] 42 (.ldE 39 41 0 2 true true 2),
  kg [(37, true), (34, false)] 43 86 [(t 38), (t 42)] .sc,
  sg [(34, false)] 44 (.pick (t 37) (t 43) (c (.bool false))),
  s 45 (.pick (t 34) (c (.bool true)) (t 44)),
  s 8 (.mv (t 45))])
 (.seq (.seq (.ops [s 9 (.mv (c (i 0)))])
 (.block 2 (.loop (.seq (.seq (.ops [s 46 (.mv (t 9)),
  s 47 (.mv (t 5)),
  s 48 (.len false (t 47)),
  s 49 (.bin .lss (t 46) (t 48))])
 (.cond (t 49) .skip (.exit 2)))
 (.seq (.block 3 (.ops [s 52 (.mv (t 8)),
  s 53 (.mv (t 52)),
  sg [(53, true)] 54 (.mv (t 5)),
  sg [(53, true)] 55 (.mv (t 9)),
  sg [(53, true)] 56 (.idx (t 54) (t 55) 2),
  sg [(53, true)] 57 (.ldE 54 56 0 2 true true 2),
  sg [(53, true)] 58 (.mv (t 6)),
  sg [(53, true)] 59 (.mv (t 7)),
  sg [(53, true)] 60 (.idx (t 58) (t 59) 2),
  sg [(53, true)] 61 (.ldE 58 60 0 2 true true 2),
  sg [(53, true)] 62 (.eqa true [0, 0] (t 57) (t 61)),
  s 63 (.pick (t 53) (t 62) (c (.bool false))),
  s 8 (.mv (t 63))]))
 (.ops [s 50 (.mv (t 9)),
  s 51 (.bin .add (t 50) (c (i 1))),
  s 9 (.mv (t 51))]))))))
 (.seq (.ops [s 64 (.mv (t 8))])
 (.cond (t 64) (.ops [s 65 (.mv (t 5)),
  s 66 (.mv (t 6)),
  s 67 (.mv (t 7)),
  s 68 (.idx (t 66) (t 67) 2),
  s 69 (.ldE 66 68 0 2 true true 2),
  s 70 (.bsl 2 [(t 69)]),
  s 71 (.app (t 65) (t 70) 2 16),
  s 5 (.mv (t 71))]) .skip)))))
 (.ops [s 22 (.mv (t 7)),
  s 23 (.bin .add (t 22) (c (i 1))),
  s 7 (.mv (t 23))]))))))
 (.seq (.ops [s 72 (.mv (t 5)),
  s 73 (.len false (t 72)),
  s 4 (.mv (t 73))])
 .ret))))), none, [4], [true, true]⟩
def i81 : Comp := ⟨(.seq (.ops [s 3 (.box 2 (t 0)),
  s 4 (.box 2 (t 1)),
  s 5 (.box 2 (t 2)),
  s 6 (.mv (c (i 0)))])
 (.seq (.seq (.ops [s 8 (.ldB 3 0 2 true true),
  k 9 19 [(t 8)] .sc,
  s 10 (.not (t 9)),
  s 11 (.mv (t 10)),
  sg [(11, false)] 12 (.ldB 4 0 2 true true),
  kg [(11, false)] 13 19 [(t 12)] .sc,
  sg [(11, false)] 14 (.not (t 13)),
  s 15 (.pick (t 11) (c (.bool true)) (t 14)),
  s 16 (.mv (t 15)),
  sg [(16, false)] 17 (.ldB 5 0 2 true true),
  kg [(16, false)] 18 19 [(t 17)] .sc,
  sg [(16, false)] 19 (.not (t 18)),
  s 20 (.pick (t 16) (c (.bool true)) (t 19))])
 (.cond (t 20) (.seq (.ops [s 6 (.mv (c (i 0)))])
 .ret) .skip))
 (.seq (.ops [s 21 (.ldB 3 0 2 true true),
  s 22 (.ldB 4 0 2 true true),
  s 23 (.ldB 5 0 2 true true),
  k 24 87 [(t 21), (t 22), (t 23)] .sc,
  s 7 (.mv (t 24))])
 (.seq (.block 0 (.seq (.ops [s 26 (.mv (t 7)),
  s 27 (.bin .gtr (t 26) (c (i 0))),
  s 25 (.mv (t 27))])
 (.cond (t 25) (.seq (.ops [s 6 (.mv (c (i 1)))])
 .ret) (.seq (.ops [s 29 (.mv (t 7)),
  s 30 (.bin .lss (t 29) (c (i 0))),
  s 28 (.mv (t 30))])
 (.cond (t 28) (.seq (.ops [s 6 (.mv (c (i (-1))))])
 .ret) .skip)))))
 (.seq (.ops [s 6 (.mv (c (i 0)))])
 .ret))))), none, [6], [true, true, true]⟩
def i82 : Comp := ⟨(.seq (.ops [s 3 (.box 2 (t 0)),
  s 4 (.box 2 (t 1)),
  s 5 (.box 2 (t 2)),
  s 6 (.mv (c (i 0)))])
 (.seq (.seq (.ops [s 7 (.ldB 3 0 2 true true),
  k 8 24 [(t 7)] .sc,
  s 9 (.not (t 8)),
  s 10 (.mv (t 9)),
  sg [(10, false)] 11 (.ldB 4 0 2 true true),
  kg [(10, false)] 12 24 [(t 11)] .sc,
  sg [(10, false)] 13 (.not (t 12)),
  s 14 (.pick (t 10) (c (.bool true)) (t 13)),
  s 15 (.mv (t 14)),
  sg [(15, false)] 16 (.ldB 5 0 2 true true),
  kg [(15, false)] 17 24 [(t 16)] .sc,
  sg [(15, false)] 18 (.not (t 17)),
  s 19 (.pick (t 15) (c (.bool true)) (t 18))])
 (.cond (t 19) (.seq (.ops [s 6 (.mv (c (i 0)))])
 .ret) .skip))
 (.seq (.ops [s 20 (.ldB 3 0 2 true true),
  s 21 (.ldB 4 0 2 true true),
  s 22 (.ldB 5 0 2 true true),
  k 23 89 [(t 20), (t 21), (t 22)] .sc,
  k 24 88 [(t 23), (c (i 0))] .sc,
  s 6 (.mv (t 24))])
 .ret))), none, [6], [true, true, true]⟩
def i83 : Comp := ⟨(.seq (.ops [s 1 (.box 4 (t 0)),
  s 2 (.alc [(i 0), (i 0), (i 0), (i 0)])])
 (.seq (.seq (.ops [s 3 (.mv (c (i 0))),
  s 4 (.ldB 1 2 2 true true),
  s 5 (.mv (c (i 0))),
  s 6 (.ldB 1 0 2 true true),
  k 7 30 [(t 4), (t 6)] .sc])
 (.cond (t 7) (.seq (.ops [s 8 (.ldB 1 0 4 true true),
  k 9 90 [(t 8)] .sc,
  s 2 (.stB 2 0 4 (t 9) false)])
 .ret) .skip))
 (.seq (.ops [s 10 (.ldB 1 0 4 true true),
  s 2 (.stB 2 0 4 (t 10) false)])
 .ret))), (some ⟨2, 77, 4, true, false⟩), [], [true]⟩
def i84 : Comp := ⟨(.seq (.ops [s 2 (.box 4 (t 0)),
  s 3 (.box 2 (t 1)),
  s 4 (.mv (c (.bool false)))])
 (.seq (.ops [s 5 (.ldB 2 0 4 true true),
  k 6 73 [(t 5)] .sc,
  s 7 (.mv (t 6)),
  sg [(7, true)] 8 (.ldB 3 0 2 true true),
  kg [(7, true)] 9 24 [(t 8)] .sc,
  s 10 (.pick (t 7) (t 9) (c (.bool false))),
  s 11 (.mv (t 10)),
  sg [(11, true)] 12 (.mv (c (i 0))),
  sg [(11, true)] 13 (.ldB 2 0 2 true true),
  sg [(11, true)] 14 (.mv (c (i 0))),
  sg [(11, true)] 15 (.ldB 2 2 2 true true),
  sg [(11, true)] 16 (.ldB 3 0 2 true true),
  kg [(11, true)] 17 82 [(t 13), (t 15), (t 16)] .sc,
  sg [(11, true)] 18 (.bin .eql (t 17) (c (i 0))),
  s 19 (.pick (t 11) (t 18) (c (.bool false))),
  s 20 (.mv (t 19)),
  sg [(20, true)] 21 (.mv (c (i 0))),
  sg [(20, true)] 22 (.ldB 3 0 1 false true),
  sg [(20, true)] 23 (.mv (c (i 0))),
  sg [(20, true)] 24 (.mv (t 23)),
  sg [(20, true)] 25 (.ldB 2 0 1 false true),
  sg [(20, true)] 26 (.mv (c (i 0))),
  sg [(20, true)] 27 (.mv (t 26)),
  sg [(20, true)] 28 (.ldB 2 2 1 false true),
  sg [(20, true)] 29 (.mn (t 25) (t 28)),
  sg [(20, true)] 30 (.mv (c (i 0))),
  sg [(20, true)] 31 (.mv (t 30)),
  sg [(20, true)] 32 (.ldB 2 0 1 false true),
  sg [(20, true)] 33 (.mv (c (i 0))),
  sg [(20, true)] 34 (.mv (t 33)),
  sg [(20, true)] 35 (.ldB 2 2 1 false true),
  sg [(20, true)] 36 (.mx (t 32) (t 35)),
  kg [(20, true)] 37 39 [(t 22), (t 29), (t 36)] .sc,
  s 38 (.pick (t 20) (t 37) (c (.bool false))),
  s 39 (.mv (t 38)),
  sg [(39, true)] 40 (.mv (c (i 0))),
  sg [(39, true)] 41 (.ldB 3 1 1 false true),
  sg [(39, true)] 42 (.mv (c (i 0))),
  sg [(39, true)] 43 (.mv (t 42)),
  sg [(39, true)] 44 (.ldB 2 1 1 false true),
  sg [(39, true)] 45 (.mv (c (i 0))),
  sg [(39, true)] 46 (.mv (t 45)),
  sg [(39, true)] 47 (.ldB 2 3 1 false true),
  sg [(39, true)] 48 (.mn (t 44) (t 47)),
  sg [(39, true)] 49 (.mv (c (i 0))),
  sg [(39, true)] 50 (.mv (t 49)),
  sg [(39, true)] 51 (.ldB 2 1 1 false true),
  sg [(39, true)] 52 (.mv (c (i 0))),
  sg [(39, true)] 53 (.mv (t 52)),
  sg [(39, true)] 54 (.ldB 2 3 1 false true),
  sg [(39, true)] 55 (.mx (t 51) (t 54)),
  kg [(39, true)] 56 39 [(t 41), (t 48), (t 55)] .sc,
  s 57 (.pick (t 39) (t 56) (c (.bool false))),
  s 4 (.mv (t 57))])
 .ret)), none, [4], [true, true]⟩
def i86 : Comp := ⟨(.seq (.ops [s 2 (.box 4 (t 0)),
  s 3 (.box 2 (t 1)),
  s 4 (.mv (c (.bool false)))])
 (.seq (.ops [s 5 (.ldB 2 0 4 true true),
  k 6 68 [(t 5)] .sc,
  s 7 (.mv (t 6)),
  sg [(7, true)] 8 (.ldB 3 0 2 true true),
  kg [(7, true)] 9 19 [(t 8)] .sc,
  s 10 (.pick (t 7) (t 9) (c (.bool false))),
  s 11 (.mv (t 10)),
  sg [(11, true)] 12 (.mv (c (i 0))),
  sg [(11, true)] 13 (.ldB 2 0 2 true true),
  sg [(11, true)] 14 (.mv (c (i 0))),
  sg [(11, true)] 15 (.ldB 2 2 2 true true),
  sg [(11, true)] 16 (.ldB 3 0 2 true true),
  kg [(11, true)] 17 87 [(t 13), (t 15), (t 16)] .sc,
  sg [(11, true)] 18 (.bin .eql (t 17) (c (i 0))),
  s 19 (.pick (t 11) (t 18) (c (.bool false))),
  s 20 (.mv (t 19)),
  sg [(20, true)] 21 (.mv (c (i 0))),
  sg [(20, true)] 22 (.ldB 3 0 1 false true),
  sg [(20, true)] 23 (.mv (c (i 0))),
  sg [(20, true)] 24 (.mv (t 23)),
  sg [(20, true)] 25 (.ldB 2 0 1 false true),
  sg [(20, true)] 26 (.mv (c (i 0))),
  sg [(20, true)] 27 (.mv (t 26)),
  sg [(20, true)] 28 (.ldB 2 2 1 false true),
  kg [(20, true)] 29 79 [(t 25), (t 28)] .sc,
  sg [(20, true)] 30 (.mv (c (i 0))),
  sg [(20, true)] 31 (.mv (t 30)),
  sg [(20, true)] 32 (.ldB 2 0 1 false true),
  sg [(20, true)] 33 (.mv (c (i 0))),
  sg [(20, true)] 34 (.mv (t 33)),
  sg [(20, true)] 35 (.ldB 2 2 1 false true),
  kg [(20, true)] 36 69 [(t 32), (t 35)] .sc,
  kg [(20, true)] 37 35 [(t 22), (t 29), (t 36)] .sc,
  s 38 (.pick (t 20) (t 37) (c (.bool false))),
  s 39 (.mv (t 38)),
  sg [(39, true)] 40 (.mv (c (i 0))),
  sg [(39, true)] 41 (.ldB 3 1 1 false true),
  sg [(39, true)] 42 (.mv (c (i 0))),
  sg [(39, true)] 43 (.mv (t 42)),
  sg [(39, true)] 44 (.ldB 2 1 1 false true),
  sg [(39, true)] 45 (.mv (c (i 0))),
  sg [(39, true)] 46 (.mv (t 45)),
  sg [(39, true)] 47 (.ldB 2 3 1 false true),
  kg [(39, true)] 48 79 [(t 44), (t 47)] .sc,
  sg [(39, true)] 49 (.mv (c (i 0))),
  sg [(39, true)] 50 (.mv (t 49)),
  sg [(39, true)] 51 (.ldB 2 1 1 false true),
  sg [(39, true)] 52 (.mv (c (i 0))),
  sg [(39, true)] 53 (.mv (t 52)),
  sg [(39, true)] 54 (.ldB 2 3 1 false true),
  kg [(39, true)] 55 69 [(t 51), (t 54)] .sc,
  kg [(39, true)] 56 35 [(t 41), (t 48), (t 55)] .sc,
  s 57 (.pick (t 39) (t 56) (c (.bool false))),
  s 4 (.mv (t 57))])
 .ret)), none, [4], [true, true]⟩
def i87 : Comp := ⟨(.seq (.ops [s 3 (.box 2 (t 0)),
  s 4 (.box 2 (t 1)),
  s 5 (.box 2 (t 2)),
  s 6 (.mv (c (i 0)))])
 (.seq (.ops [s 7 (.mv (c (i 0))),
  s 8 (.ldB 4 0 1 false true),
  s 9 (.mv (c (i 0))),
  s 10 (.ldB 3 0 1 false true),
  s 11 (.bin .sub (t 8) (t 10)),
  s 12 (.mv (c (i 0))),
  s 13 (.ldB 5 1 1 false true),
  s 14 (.mv (c (i 0))),
  s 15 (.ldB 3 1 1 false true),
  s 16 (.bin .sub (t 13) (t 15)),
  s 17 (.bin .mul (t 11) (t 16)),
  s 18 (.mv (c (i 0))),
  s 19 (.ldB 4 1 1 false true),
  s 20 (.mv (c (i 0))),
  s 21 (.ldB 3 1 1 false true),
  s 22 (.bin .sub (t 19) (t 21)),
  s 23 (.mv (c (i 0))),
  s 24 (.ldB 5 0 1 false true),
  s 25 (.mv (c (i 0))),
  s 26 (.ldB 3 0 1 false true),
  s 27 (.bin .sub (t 24) (t 26)),
  s 28 (.bin .mul (t 22) (t 27)),
  s 29 (.bin .sub (t 17) (t 28)),
  s 6 (.mv (t 29))])
 .ret)), none, [6], [true, true, true]⟩
def i88 : Comp := ⟨(.seq (.ops [s 4 (.mv (c (i 0)))])
 (.seq (.ops [s 7 (.mv (t 0)),
  k 8 91 [(t 7)] .sc,
  s 5 (.mv (t 8))])
 (.seq (.ops [s 9 (.mv (t 1)),
  k 10 91 [(t 9)] .sc,
  s 6 (.mv (t 10))])
 (.seq (.seq (.ops [s 11 (.mv (t 5))])
 (.cond (t 11) (.seq (.seq (.ops [s 12 (.mv (t 6))])
 (.cond (t 12) (.seq (.ops [s 4 (.mv (c (i 0)))])
 .ret) .skip))
 (.seq (.ops [s 4 (.mv (c (i (-1))))])
 .ret)) .skip))
 (.seq (.seq (.ops [s 13 (.mv (t 6))])
 (.cond (t 13) (.seq (.ops [s 4 (.mv (c (i 1)))])
 .ret) .skip))
 (.seq (.seq (.ops [s 14 (.mv (t 0)),
  s 15 (.mv (t 1)),
  s 16 (.bin .lss (t 14) (t 15))])
 (.cond (t 16) (.seq (.ops [s 4 (.mv (c (i (-1))))])
 .ret) .skip))
 (.seq (.seq (.ops [s 17 (.mv (t 0)),
  s 18 (.mv (t 1)),
  s 19 (.bin .gtr (t 17) (t 18))])
 (.cond (t 19) (.seq (.ops [s 4 (.mv (c (i 1)))])
 .ret) .skip))
 (.seq (.ops [s 4 (.mv (c (i 0)))])
 .ret)))))))), none, [4], [true, true]⟩
def i89 : Comp := ⟨(.seq (.ops [s 3 (.box 2 (t 0)),
  s 4 (.box 2 (t 1)),
  s 5 (.box 2 (t 2)),
  s 6 (.mv (c (i 0)))])
 (.seq (.ops [s 7 (.mv (c (i 0))),
  s 8 (.ldB 4 0 1 false true),
  s 9 (.mv (c (i 0))),
  s 10 (.ldB 3 0 1 false true),
  s 11 (.bin .sub (t 8) (t 10)),
  s 12 (.mv (c (i 0))),
  s 13 (.ldB 5 1 1 false true),
  s 14 (.mv (c (i 0))),
  s 15 (.ldB 3 1 1 false true),
  s 16 (.bin .sub (t 13) (t 15)),
  s 17 (.bin .mul (t 11) (t 16)),
  s 18 (.mv (c (i 0))),
  s 19 (.ldB 4 1 1 false true),
  s 20 (.mv (c (i 0))),
  s 21 (.ldB 3 1 1 false true),
  s 22 (.bin .sub (t 19) (t 21)),
  s 23 (.mv (c (i 0))),
  s 24 (.ldB 5 0 1 false true),
  s 25 (.mv (c (i 0))),
  s 26 (.ldB 3 0 1 false true),
  s 27 (.bin .sub (t 24) (t 26)),
  s 28 (.bin .mul (t 22) (t 27)),
  s 29 (.bin .sub (t 17) (t 28)),
  s 6 (.mv (t 29))])
 .ret)), none, [6], [true, true, true]⟩
def i90 : Comp := ⟨(.seq (.ops [s 1 (.box 4 (t 0)),
  s 2 (.alc [(i 0), (i 0), (i 0), (i 0)])])
 (.seq (.ops [s 3 (.mv (c (i 0))),
  s 4 (.ldB 1 2 2 true true),
  s 5 (.mv (c (i 0))),
  s 6 (.ldB 1 0 2 true true),
  s 7 (.bld [(i 0), (i 0), (i 0), (i 0)] [(0, 2, (t 4)), (2, 2, (t 6))]),
  s 2 (.stB 2 0 4 (t 7) false)])
 .ret)), (some ⟨2, 77, 4, true, false⟩), [], [true]⟩
def i91 : Comp := ⟨(.seq (.ops [s 2 (.mv (c (.bool false)))])
 (.seq (.ops [s 3 (.mv (t 0)),
  s 4 (.mv (t 0)),
  s 5 (.bin .neq (t 3) (t 4)),
  s 2 (.mv (t 5))])
 .ret)), none, [2], [true]⟩
def X : Cx := { tab := tbs, sig := sgs, wf := wfs, xf := xfs, rf := rfs, tl := tls, pf := pfs }
end Go.Eng
namespace Go.Eng
open Go Go.Proofs
theorem hX : TabOK Try.prog X := TabOK.of (by kernel_rfl)
theorem c4 : compP Try.prog X 4 = some i4 := by kernel_rfl
theorem c5 : compP Try.prog X 5 = some i5 := by kernel_rfl
theorem c7 : compP Try.prog X 7 = some i7 := by kernel_rfl
theorem c8 : compP Try.prog X 8 = some i8 := by kernel_rfl
theorem c10 : compP Try.prog X 10 = some i10 := by kernel_rfl
theorem c11 : compP Try.prog X 11 = some i11 := by kernel_rfl
theorem c13 : compP Try.prog X 13 = some i13 := by kernel_rfl
theorem c14 : compM Try.prog X 14 = some i14 := by kernel_rfl
theorem c15 : compM Try.prog X 15 = some i15 := by kernel_rfl
theorem c16 : compP Try.prog X 16 = some i16 := by kernel_rfl
theorem c17 : compP Try.prog X 17 = some i17 := by kernel_rfl
theorem c18 : compP Try.prog X 18 = some i18 := by kernel_rfl
theorem c19 : compP Try.prog X 19 = some i19 := by kernel_rfl
theorem c20 : compP Try.prog X 20 = some i20 := by kernel_rfl
theorem c21 : compP Try.prog X 21 = some i21 := by kernel_rfl
theorem c22 : compP Try.prog X 22 = some i22 := by kernel_rfl
theorem c23 : compP Try.prog X 23 = some i23 := by kernel_rfl
theorem c24 : compP Try.prog X 24 = some i24 := by kernel_rfl
theorem c25 : compPM Try.prog X 25 = some i25 := by kernel_rfl
theorem c26 : compP Try.prog X 26 = some i26 := by kernel_rfl
theorem c27 : compP Try.prog X 27 = some i27 := by kernel_rfl
theorem c29 : compP Try.prog X 29 = some i29 := by kernel_rfl
theorem c30 : compP Try.prog X 30 = some i30 := by kernel_rfl
theorem c31 : compP Try.prog X 31 = some i31 := by kernel_rfl
theorem c32 : compP Try.prog X 32 = some i32 := by kernel_rfl
theorem c33 : compP Try.prog X 33 = some i33 := by kernel_rfl
theorem c34 : compP Try.prog X 34 = some i34 := by kernel_rfl
theorem c35 : compP Try.prog X 35 = some i35 := by kernel_rfl
theorem c36 : compP Try.prog X 36 = some i36 := by kernel_rfl
theorem c37 : compP Try.prog X 37 = some i37 := by kernel_rfl
theorem c38 : compP Try.prog X 38 = some i38 := by kernel_rfl
theorem c39 : compP Try.prog X 39 = some i39 := by kernel_rfl
theorem c40 : compP Try.prog X 40 = some i40 := by kernel_rfl
theorem c41 : compP Try.prog X 41 = some i41 := by kernel_rfl
theorem c42 : compP Try.prog X 42 = some i42 := by kernel_rfl
theorem c45 : compP Try.prog X 45 = some i45 := by kernel_rfl
theorem c46 : compP Try.prog X 46 = some i46 := by kernel_rfl
theorem c47 : compP Try.prog X 47 = some i47 := by kernel_rfl
theorem c48 : compP Try.prog X 48 = some i48 := by kernel_rfl
theorem c49 : compP Try.prog X 49 = some i49 := by kernel_rfl
theorem c50 : compP Try.prog X 50 = some i50 := by kernel_rfl
theorem c51 : compP Try.prog X 51 = some i51 := by kernel_rfl
theorem c52 : compP Try.prog X 52 = some i52 := by kernel_rfl
theorem c53 : compP Try.prog X 53 = some i53 := by kernel_rfl
theorem c54 : compP Try.prog X 54 = some i54 := by kernel_rfl
theorem c65 : compP Try.prog X 65 = some i65 := by kernel_rfl
theorem c66 : compP Try.prog X 66 = some i66 := by kernel_rfl
theorem c67 : compP Try.prog X 67 = some i67 := by kernel_rfl
theorem c68 : compP Try.prog X 68 = some i68 := by kernel_rfl
theorem c69 : compP Try.prog X 69 = some i69 := by kernel_rfl
theorem c70 : compP Try.prog X 70 = some i70 := by kernel_rfl
theorem c71 : compP Try.prog X 71 = some i71 := by kernel_rfl
theorem c72 : compP Try.prog X 72 = some i72 := by kernel_rfl
theorem c73 : compP Try.prog X 73 = some i73 := by kernel_rfl
theorem c79 : compP Try.prog X 79 = some i79 := by kernel_rfl
theorem c80 : compP Try.prog X 80 = some i80 := by kernel_rfl
theorem c81 : compP Try.prog X 81 = some i81 := by kernel_rfl
theorem c82 : compP Try.prog X 82 = some i82 := by kernel_rfl
theorem c83 : compP Try.prog X 83 = some i83 := by kernel_rfl
theorem c84 : compP Try.prog X 84 = some i84 := by kernel_rfl
theorem c86 : compP Try.prog X 86 = some i86 := by kernel_rfl
theorem c87 : compP Try.prog X 87 = some i87 := by kernel_rfl
theorem c88 : compP Try.prog X 88 = some i88 := by kernel_rfl
theorem c89 : compP Try.prog X 89 = some i89 := by kernel_rfl
theorem c90 : compP Try.prog X 90 = some i90 := by kernel_rfl
theorem c91 : compP Try.prog X 91 = some i91 := by kernel_rfl
end Go.Eng
