/- A part of the proof of a law's statement: for every input the law returns true and leaves its arguments as they were. No condition beyond the statement's own. The laws' functions in that calculus, checked by the kernel against the program. -/
import Derived.Test.YtlbflbdoncbonaaGreatProg
import Derived.Test.YtlbflbdoncbonaaGreatNe3
set_option linter.unusedVariables false
set_option linter.unusedSimpArgs false
set_option linter.unusedSectionVars false
set_option autoImplicit true
set_option relaxedAutoImplicit true
namespace Go.Eng
open Go
def tbs : List (Option TI) := [some ⟨(.tup []), 1, 0, [.junk], false⟩,
  some ⟨.func, 1, 8, [.junk], false⟩,
  some ⟨(.int .i64), 1, 8, [(i 0)], false⟩,
  some ⟨(.int .i64), 1, 8, [(i 0)], false⟩,
  some ⟨.bool, 1, 1, [(.bool false)], false⟩,
  some ⟨(.int .u8), 1, 1, [(.int .u8 (0))], false⟩,
  some ⟨(.int .u8), 1, 1, [(.int .u8 (0))], false⟩,
  some ⟨(.struct [(0, 2), (1, 3), (2, 4), (3, 6)]), 4, 24, [(i 0), (i 0), (.bool false), (.int .u8 (0))], true⟩,
  some ⟨(.struct [(0, 2), (1, 3), (2, 4), (3, 6)]), 4, 24, [(i 0), (i 0), (.bool false), (.int .u8 (0))], true⟩,
  some ⟨.str, 1, 16, [(.str (bs []))], false⟩,
  some ⟨.str, 1, 16, [(.str (bs []))], false⟩,
  some ⟨.str, 1, 16, [(.str (bs []))], false⟩,
  some ⟨(.int .u64), 1, 8, [(.int .u64 (0))], false⟩,
  some ⟨(.struct [(0, 9), (1, 12)]), 2, 24, [(.str (bs [])), (.int .u64 (0))], false⟩,
  some ⟨(.struct [(0, 9), (1, 12)]), 2, 24, [(.str (bs [])), (.int .u64 (0))], false⟩,
  some ⟨(.ptr 113), 1, 8, [.junk], false⟩,
  some ⟨(.ptr 116), 1, 8, [.junk], false⟩,
  some ⟨(.ptr 126), 1, 8, [.junk], false⟩,
  some ⟨(.struct [(0, 17)]), 1, 8, [.junk], false⟩,
  some ⟨(.struct [(0, 17)]), 1, 8, [.junk], false⟩,
  some ⟨.other, 1, 16, [.junk], false⟩,
  some ⟨(.int .i32), 1, 4, [(.int .i32 (0))], false⟩,
  some ⟨(.slice 5), 1, 24, [(.lst 1 true [])], false⟩,
  some ⟨.func, 1, 8, [.junk], false⟩,
  some ⟨(.slice 36), 1, 24, [(.lst 3 true [])], false⟩,
  some ⟨(.slice 53), 1, 24, [(.lst 5 true [])], false⟩,
  some ⟨(.tup [24, 3, 25]), 1, 0, [.junk], false⟩,
  some ⟨.func, 1, 8, [.junk], false⟩,
  some ⟨(.tup [24, 4]), 1, 0, [.junk], false⟩,
  some ⟨.func, 1, 8, [.junk], false⟩,
  some ⟨(.tup [25, 4]), 1, 0, [.junk], false⟩,
  some ⟨.func, 1, 8, [.junk], false⟩,
  some ⟨.func, 1, 8, [.junk], false⟩,
  some ⟨.func, 1, 8, [.junk], false⟩,
  some ⟨.func, 1, 8, [.junk], false⟩,
  some ⟨(.struct [(0, 3), (1, 25), (2, 3)]), 3, 40, [(i 0), (.lst 5 true []), (i 0)], true⟩,
  some ⟨(.struct [(0, 3), (1, 25), (2, 3)]), 3, 40, [(i 0), (.lst 5 true []), (i 0)], true⟩,
  some ⟨(.tup [24, 24]), 1, 0, [.junk], false⟩,
  some ⟨.func, 1, 8, [.junk], false⟩,
  some ⟨(.ptr 57), 1, 8, [.junk], false⟩,
  some ⟨.func, 1, 8, [.junk], false⟩,
  some ⟨.func, 1, 8, [.junk], false⟩,
  some ⟨.func, 1, 8, [.junk], false⟩,
  some ⟨(.slice 3), 1, 24, [(.lst 1 true [])], false⟩,
  some ⟨.func, 1, 8, [.junk], false⟩,
  some ⟨.func, 1, 8, [.junk], false⟩,
  some ⟨.func, 1, 8, [.junk], false⟩,
  some ⟨.func, 1, 8, [.junk], false⟩,
  some ⟨.func, 1, 8, [.junk], false⟩,
  some ⟨.func, 1, 8, [.junk], false⟩,
  some ⟨.func, 1, 8, [.junk], false⟩,
  some ⟨(.slice 70), 1, 24, [(.lst 2 true [])], false⟩,
  some ⟨(.struct [(0, 3), (1, 3), (2, 3), (3, 9), (4, 51)]), 5, 64, [(i 0), (i 0), (i 0), (.str (bs [])), (.lst 2 true [])], true⟩,
  some ⟨(.struct [(0, 3), (1, 3), (2, 3), (3, 9), (4, 51)]), 5, 64, [(i 0), (i 0), (i 0), (.str (bs [])), (.lst 2 true [])], true⟩,
  some ⟨.func, 1, 8, [.junk], false⟩,
  some ⟨.func, 1, 8, [.junk], false⟩,
  some ⟨(.struct [(0, 22), (1, 3), (2, 3)]), 3, 40, [(.lst 1 true []), (i 0), (i 0)], true⟩,
  some ⟨(.struct [(0, 22), (1, 3), (2, 3)]), 3, 40, [(.lst 1 true []), (i 0), (i 0)], true⟩,
  some ⟨.func, 1, 8, [.junk], false⟩,
  some ⟨.func, 1, 8, [.junk], false⟩,
  some ⟨(.slice 9), 1, 24, [(.lst 1 true [])], false⟩,
  some ⟨.func, 1, 8, [.junk], false⟩,
  some ⟨.func, 1, 8, [.junk], false⟩,
  some ⟨.func, 1, 8, [.junk], false⟩,
  some ⟨.func, 1, 8, [.junk], false⟩,
  some ⟨(.slice 78), 1, 24, [(.lst 2 true [])], false⟩,
  some ⟨.func, 1, 8, [.junk], false⟩,
  some ⟨.func, 1, 8, [.junk], false⟩,
  some ⟨.func, 1, 8, [.junk], false⟩,
  some ⟨(.struct [(0, 3), (1, 3)]), 2, 16, [(i 0), (i 0)], true⟩,
  some ⟨(.struct [(0, 3), (1, 3)]), 2, 16, [(i 0), (i 0)], true⟩,
  some ⟨.func, 1, 8, [.junk], false⟩,
  some ⟨.func, 1, 8, [.junk], false⟩,
  some ⟨.func, 1, 8, [.junk], false⟩,
  some ⟨.func, 1, 8, [.junk], false⟩,
  some ⟨.func, 1, 8, [.junk], false⟩,
  some ⟨.func, 1, 8, [.junk], false⟩,
  some ⟨(.struct [(0, 3), (1, 3)]), 2, 16, [(i 0), (i 0)], true⟩,
  some ⟨(.struct [(0, 3), (1, 3)]), 2, 16, [(i 0), (i 0)], true⟩,
  some ⟨.func, 1, 8, [.junk], false⟩,
  some ⟨.func, 1, 8, [.junk], false⟩,
  some ⟨.func, 1, 8, [.junk], false⟩,
  some ⟨(.struct [(0, 70), (2, 70)]), 4, 32, [(i 0), (i 0), (i 0), (i 0)], true⟩,
  some ⟨(.struct [(0, 70), (2, 70)]), 4, 32, [(i 0), (i 0), (i 0), (i 0)], true⟩,
  some ⟨.func, 1, 8, [.junk], false⟩,
  some ⟨.func, 1, 8, [.junk], false⟩,
  some ⟨.func, 1, 8, [.junk], false⟩,
  some ⟨.func, 1, 8, [.junk], false⟩,
  some ⟨(.int .u64), 1, 8, [(.int .u64 (0))], false⟩,
  some ⟨(.slice 92), 1, 24, [(.lst 4 true [])], false⟩,
  some ⟨.func, 1, 8, [.junk], false⟩,
  some ⟨(.struct [(0, 70), (2, 70)]), 4, 32, [(i 0), (i 0), (i 0), (i 0)], true⟩,
  some ⟨(.struct [(0, 70), (2, 70)]), 4, 32, [(i 0), (i 0), (i 0), (i 0)], true⟩,
  some ⟨.func, 1, 8, [.junk], false⟩,
  some ⟨.func, 1, 8, [.junk], false⟩,
  some ⟨.func, 1, 8, [.junk], false⟩,
  some ⟨.func, 1, 8, [.junk], false⟩,
  some ⟨.func, 1, 8, [.junk], false⟩,
  some ⟨.func, 1, 8, [.junk], false⟩,
  some ⟨.func, 1, 8, [.junk], false⟩,
  some ⟨.func, 1, 8, [.junk], false⟩,
  some ⟨(.tup [83, 4]), 1, 0, [.junk], false⟩,
  some ⟨.func, 1, 8, [.junk], false⟩,
  some ⟨.func, 1, 8, [.junk], false⟩,
  some ⟨.func, 1, 8, [.junk], false⟩,
  some ⟨.func, 1, 8, [.junk], false⟩,
  some ⟨.func, 1, 8, [.junk], false⟩,
  some ⟨.func, 1, 8, [.junk], false⟩,
  some ⟨(.tup [3, 3]), 1, 0, [.junk], false⟩,
  some ⟨.func, 1, 8, [.junk], false⟩,
  some ⟨.func, 1, 8, [.junk], false⟩,
  some ⟨.func, 1, 8, [.junk], false⟩,
  some ⟨(.struct [(0, 17), (1, 17), (2, 17), (3, 9)]), 4, 40, [.junk], false⟩,
  some ⟨(.struct [(0, 17), (1, 17), (2, 17), (3, 9)]), 4, 40, [.junk], false⟩,
  some ⟨(.arr 0 16), 0, 0, [], false⟩,
  some ⟨(.struct [(0, 114)]), 0, 0, [], false⟩,
  some ⟨(.struct [(0, 114)]), 0, 0, [], false⟩,
  some ⟨.func, 1, 8, [.junk], false⟩,
  some ⟨(.int .u32), 1, 4, [(.int .u32 (0))], false⟩,
  some ⟨(.int .u8), 1, 1, [(.int .u8 (0))], false⟩,
  some ⟨(.int .u8), 1, 1, [(.int .u8 (0))], false⟩,
  some ⟨.func, 1, 8, [.junk], false⟩,
  some ⟨(.ptr 5), 1, 8, [.junk], false⟩,
  some ⟨(.int .i32), 1, 4, [(.int .i32 (0))], false⟩,
  some ⟨(.int .i32), 1, 4, [(.int .i32 (0))], false⟩,
  some ⟨(.struct [(0, 12), (1, 12), (2, 118), (3, 119), (4, 5), (5, 5), (6, 120), (7, 121), (8, 122), (9, 123), (10, 124)]), 11, 48, [.junk], false⟩,
  some ⟨(.struct [(0, 12), (1, 12), (2, 118), (3, 119), (4, 5), (5, 5), (6, 120), (7, 121), (8, 122), (9, 123), (10, 124)]), 11, 48, [.junk], false⟩,
  some ⟨.other, 1, 8, [.junk], false⟩]
def wfs : List Nat := []
def xfs : List Nat := []
def rfs : List (Nat × Bool × Bool × Bool) := [(5, false, true, false), (11, false, false, false), (12, false, false, true), (13, true, true, false), (14, true, false, false), (15, true, true, false), (24, true, false, false), (26, true, true, false), (27, true, true, false), (28, true, false, false), (29, true, false, false), (30, true, true, false), (41, true, true, false), (42, true, false, false), (43, true, true, false), (44, true, false, false), (61, true, false, false), (62, true, false, false), (63, true, true, false), (65, true, false, false)]
def tls : List Nat := [30]
def sgs : List (Nat × Bool) := [(0, false), (1, false), (2, false), (3, false), (4, false), (6, true), (7, true), (8, false), (9, false), (10, false), (16, true), (17, true), (18, false), (19, false), (20, false), (21, false), (22, false), (23, true), (25, true), (31, true), (32, false), (33, true), (34, true), (35, false), (36, false), (37, true), (38, false), (39, false), (40, true), (45, true), (46, false), (47, false), (48, false), (49, true), (50, false), (51, false), (52, false), (53, false), (54, true), (55, true), (56, false), (57, false), (58, false), (59, false), (60, false), (64, false), (66, false), (67, true), (68, false), (69, false), (70, false), (71, false), (72, false), (73, true), (74, false), (75, true), (76, false), (77, true), (78, false), (79, false), (80, false), (81, true), (82, false), (83, false), (84, false), (85, false), (86, false), (87, false), (88, false), (89, true), (90, true), (91, false), (92, false), (93, false), (94, false), (95, false), (96, false), (97, false), (98, false), (99, false), (100, true), (101, false), (102, false), (103, false), (104, false), (105, false), (106, false), (107, false), (108, false), (109, false), (110, false), (111, false), (112, false), (113, false), (114, false), (115, false), (116, false), (117, false), (118, false), (119, false), (120, false), (121, false), (122, false), (123, false), (124, false)]
def i3 : Comp := ⟨(.seq (.ops [s 2 (.mv (c (.bool false)))])
 (.seq (.seq (.ops [s 16 (.mv (t 0)),
  k 17 4 [(t 16)] .sc])
 (.cond (t 17) (.seq (.ops [s 2 (.mv (c (.bool true)))])
 .ret) .skip))
 (.seq (.seq (.ops [s 19 (.mv (t 0))])
 (.seq (opD 20 5 [(t 19)] .tup)
 (.ops [s 18 (.mv (t 20)),
  s 21 (.ext 18 0 false),
  s 22 (.ext 18 1 true),
  s 23 (.ext 18 2 false),
  s 3 (.mv (t 21)),
  s 4 (.mv (t 22)),
  s 5 (.mv (t 23))])))
 (.seq (.ops [s 25 (.mv (t 3)),
  s 26 (.mv (t 4)),
  s 27 (.mv (t 5)),
  k 28 6 [(t 25), (t 26), (t 27)] .tup,
  s 24 (.mv (t 28)),
  s 29 (.ext 24 0 false),
  s 30 (.ext 24 1 true),
  s 6 (.mv (t 29)),
  s 7 (.mv (t 30))])
 (.seq (.seq (.ops [s 31 (.mv (t 7))])
 (.cond (t 31) (.seq (.ops [s 33 (.mv (t 6)),
  s 34 (.mv (t 4)),
  k 35 7 [(t 33), (t 34)] .tup,
  s 32 (.mv (t 35)),
  s 36 (.ext 32 0 false),
  s 37 (.ext 32 1 true),
  s 8 (.mv (t 36)),
  s 9 (.mv (t 37))])
 (.seq (.seq (.ops [s 38 (.mv (t 6)),
  k 39 8 [(t 38)] .sc,
  s 40 (.not (t 39)),
  s 41 (.mv (t 40)),
  sg [(41, false)] 42 (.mv (t 9)),
  sg [(41, false)] 43 (.not (t 42)),
  s 44 (.pick (t 41) (c (.bool true)) (t 43)),
  s 45 (.mv (t 44)),
  sg [(45, false)] 46 (.mv (t 8)),
  sg [(45, false)] 47 (.mv (t 5)),
  kg [(45, false)] 48 9 [(t 46), (t 47)] .sc,
  sg [(45, false)] 49 (.not (t 48)),
  s 50 (.pick (t 45) (c (.bool true)) (t 49)),
  s 51 (.mv (t 50)),
  sg [(51, false)] 52 (.mv (t 6)),
  sg [(51, false)] 53 (.mv (t 3)),
  kg [(51, false)] 54 10 [(t 52), (t 53)] .sc,
  sg [(51, false)] 55 (.mv (t 3)),
  sg [(51, false)] 56 (.len false (t 55)),
  sg [(51, false)] 57 (.bin .neq (t 54) (t 56)),
  s 58 (.pick (t 51) (c (.bool true)) (t 57))])
 (.cond (t 58) (.seq (.ops [s 2 (.mv (c (.bool false)))])
 .ret) .skip))
 (.seq (.ops [s 10 (.mv (c (i 0)))])
 (.block 0 (.loop (.seq (.seq (.ops [s 59 (.mv (t 10)),
  s 60 (.mv (t 3)),
  s 61 (.len false (t 60)),
  s 62 (.bin .lss (t 59) (t 61))])
 (.cond (t 62) .skip (.exit 0)))
 (.seq (.block 1 (.seq (.ops [s 66 (.mv (t 6)),
  s 67 (.mv (t 3)),
  s 68 (.mv (t 10)),
  s 69 (.idx (t 67) (t 68) 3),
  s 70 (.mv (t 69)),
  s 71 (.ldE 67 70 0 1 false true 3),
  k 72 7 [(t 66), (t 71)] .tup,
  s 65 (.mv (t 72)),
  s 73 (.ext 65 0 false),
  s 74 (.ext 65 1 true),
  s 11 (.mv (t 73)),
  s 12 (.mv (t 74))])
 (.seq (.ops [s 75 (.mv (t 12)),
  s 76 (.not (t 75)),
  s 77 (.mv (t 76)),
  sg [(77, false)] 78 (.mv (t 11)),
  sg [(77, false)] 79 (.mv (t 3)),
  sg [(77, false)] 80 (.mv (t 10)),
  sg [(77, false)] 81 (.idx (t 79) (t 80) 3),
  sg [(77, false)] 82 (.mv (t 81)),
  sg [(77, false)] 83 (.ldE 79 82 1 1 false false 3),
  kg [(77, false)] 84 9 [(t 78), (t 83)] .sc,
  sg [(77, false)] 85 (.not (t 84)),
  s 86 (.pick (t 77) (c (.bool true)) (t 85))])
 (.cond (t 86) (.seq (.ops [s 2 (.mv (c (.bool false)))])
 .ret) .skip))))
 (.ops [s 63 (.mv (t 10)),
  s 64 (.bin .add (t 63) (c (i 1))),
  s 10 (.mv (t 64))])))))))) (.seq (.ops [s 87 (.mv (t 6)),
  s 88 (.len false (t 87)),
  s 89 (.mv (t 3)),
  s 90 (.len false (t 89)),
  s 91 (.bin .neq (t 88) (t 90))])
 (.cond (t 91) (.seq (.ops [s 2 (.mv (c (.bool false)))])
 .ret) .skip))))
 (.seq (.seq (.ops [s 93 (.mv (t 0))])
 (.seq (opD 94 11 [(t 93)] .ext)
 (.ops [s 92 (.mv (t 94)),
  s 95 (.ext 92 0 false),
  s 96 (.ext 92 1 false),
  s 13 (.mv (t 95)),
  s 14 (.mv (t 96))])))
 (.seq (.ops [s 97 (.mv (t 13)),
  s 98 (.mv (t 14)),
  k 99 10 [(t 97), (t 98)] .sc,
  s 15 (.mv (t 99))])
 (.seq (.ops [s 100 (.mv (t 15)),
  s 101 (.mv (t 14)),
  s 102 (.mv (t 13)),
  k 103 10 [(t 101), (t 102)] .sc,
  s 104 (.bin .eql (t 100) (t 103)),
  s 105 (.mv (t 104)),
  sg [(105, true)] 106 (.mv (t 15)),
  sg [(105, true)] 107 (.mv (t 13)),
  sg [(105, true)] 108 (.len false (t 107)),
  sg [(105, true)] 109 (.bin .leq (t 106) (t 108)),
  s 110 (.pick (t 105) (t 109) (c (.bool false))),
  s 111 (.mv (t 110)),
  sg [(111, true)] 112 (.mv (t 15)),
  sg [(111, true)] 113 (.mv (t 14)),
  sg [(111, true)] 114 (.len false (t 113)),
  sg [(111, true)] 115 (.bin .leq (t 112) (t 114)),
  s 116 (.pick (t 111) (t 115) (c (.bool false))),
  s 117 (.mv (t 116)),
  sg [(117, true)] 118 (.mv (t 13)),
  sg [(117, true)] 119 (.mv (t 13)),
  kg [(117, true)] 120 10 [(t 118), (t 119)] .sc,
  sg [(117, true)] 121 (.mv (t 13)),
  sg [(117, true)] 122 (.len false (t 121)),
  sg [(117, true)] 123 (.bin .eql (t 120) (t 122)),
  s 124 (.pick (t 117) (t 123) (c (.bool false))),
  s 2 (.mv (t 124))])
 .ret)))))))), none, [2], [false]⟩
def i4 : Comp := ⟨(.seq (.ops [s 2 (.mv (c (.bool false)))])
 (.seq (.ops [s 3 (.mv (t 0)),
  s 4 (.len false (t 3)),
  s 5 (.bin .gtr (t 4) (c (i 1048576))),
  s 2 (.mv (t 5))])
 .ret)), none, [2], [false]⟩
def i5 : Comp := ⟨(.seq (.ops [s 2 (.mv (c (.lst 3 true []))),
  s 3 (.mv (c (i 0))),
  s 4 (.mv (c (.lst 5 true [])))])
 (.seq (.seq (.ops [s 7 (.mv (t 0))])
 (.seq (opQ 8 12 [(t 7)])
 (.seq (.ops [])
 (.seq (opV 5 8)
 (.ops [])))))
 (.seq (.seq (.ops [s 9 (.mv (c .junk))])
 (.seq (opC 10 13 5 [] .lin)
 (.ops [s 6 (.mv (t 10))])))
 (.seq (.seq (.ops [s 11 (.mv (t 6)),
  s 12 (.mv (c .junk)),
  s 13 (.bsl 1 [(c (i 0)), (c (i 5)), (c (i 12)), (c (i 20)), (c (i 100000)), (c (i 100001)), (c (i (-1)))])])
 (.seq (opC 14 14 5 [(t 13)] .sc)
 (.seq (.ops [s 15 (.mv (c .junk))])
 (.seq (opC 16 15 5 [] .lin)
 (.ops [s 2 (.mv (t 11)),
  s 3 (.mv (t 14)),
  s 4 (.mv (t 16))])))))
 .ret)))), none, [2, 3, 4], [false]⟩
def i6 : Comp := ⟨(.seq (.ops [s 6 (.mv (c (.lst 3 true []))),
  s 7 (.mv (c (.bool false)))])
 (.seq (.ops [s 8 (.mv (c (i 0)))])
 (.seq (.seq (.ops [s 10 (.mv (t 0)),
  s 11 (.len false (t 10)),
  s 12 (.bin .gtr (t 11) (c (i 0)))])
 (.cond (t 12) (.ops [s 13 (.mv (t 0)),
  s 14 (.mv (t 0)),
  s 15 (.len false (t 14)),
  s 16 (.bin .sub (t 15) (c (i 1))),
  s 17 (.idx (t 13) (t 16) 3),
  s 18 (.mv (t 17)),
  s 19 (.ldE 13 18 2 1 false true 3),
  s 8 (.mv (t 19))]) .skip))
 (.seq (.ops [s 20 (.mv (t 0)),
  k 21 16 [(t 20)] .lin,
  s 22 (.mv (t 1)),
  s 23 (.mv (t 2)),
  k 24 17 [(t 23)] .lin,
  s 25 (.mv (t 8)),
  s 26 (.mv (t 1)),
  s 27 (.mv (t 2)),
  k 28 18 [(t 25), (t 26), (t 27)] .sc,
  s 29 (.bld [(i 0), (.lst 5 true []), (i 0)] [(0, 1, (t 22)), (1, 1, (t 24)), (2, 1, (t 28))]),
  s 30 (.bsl 3 [(t 29)]),
  s 31 (.app (t 21) (t 30) 3 40),
  s 9 (.mv (t 31))])
 (.seq (.seq (.ops [s 32 (.mv (t 9)),
  k 33 8 [(t 32)] .sc,
  s 34 (.not (t 33))])
 (.cond (t 34) (.seq (.ops [s 35 (.mv (t 0)),
  k 36 16 [(t 35)] .lin,
  s 6 (.mv (t 36)),
  s 7 (.mv (c (.bool false)))])
 .ret) .skip))
 (.seq (.ops [s 37 (.mv (t 9)),
  s 6 (.mv (t 37)),
  s 7 (.mv (c (.bool true)))])
 .ret)))))), none, [6, 7], [false, true, false]⟩
def i7 : Comp := ⟨(.seq (.ops [s 4 (.mv (c (.lst 5 true []))),
  s 5 (.mv (c (.bool false)))])
 (.seq (.ops [s 10 (.bsl 5 []),
  s 6 (.mv (t 10)),
  s 7 (.mv (c (.bool false)))])
 (.seq (.seq (.ops [s 11 (.mv (t 0)),
  k 12 8 [(t 11)] .sc,
  s 13 (.not (t 12))])
 (.cond (t 13) (.seq (.ops [s 14 (.mv (t 6)),
  s 4 (.mv (t 14)),
  s 5 (.mv (c (.bool false)))])
 .ret) .skip))
 (.seq (.seq (.ops [s 15 (.mv (t 0)),
  s 16 (.len false (t 15)),
  s 17 (.mv (c (i 0)))])
 (.block 0 (.loop (.seq (.ops [s 18 (.bin .lss (t 17) (t 16))])
 (.seq (.cond (t 18) .skip (.exit 0))
 (.seq (.block 1 (.seq (.ops [s 19 (.idx (t 15) (t 17) 3),
  s 20 (.ldE 15 19 0 3 true false 3),
  s 9 (.alc [(i 0), (.lst 5 true []), (i 0)]),
  s 9 (.stB 9 0 3 (t 20) false)])
 (.seq (.ops [s 21 (.mv (c (i 0))),
  s 22 (.ldB 9 0 1 false true),
  s 23 (.mv (t 1)),
  s 24 (.bin .leq (t 22) (t 23))])
 (.cond (t 24) (.ops [s 25 (.mv (c (i 0))),
  s 26 (.ldB 9 1 1 false false),
  k 27 17 [(t 26)] .lin,
  s 6 (.mv (t 27)),
  s 7 (.mv (c (.bool true)))]) .skip))))
 (.ops [s 28 (.bin .add (t 17) (c (i 1))),
  s 17 (.mv (t 28))])))))))
 (.seq (.ops [s 29 (.mv (t 6)),
  s 30 (.mv (t 7)),
  s 4 (.mv (t 29)),
  s 5 (.mv (t 30))])
 .ret))))), none, [4, 5], [false, true]⟩
def i8 : Comp := ⟨(.seq (.ops [s 2 (.mv (c (.bool false)))])
 (.seq (.seq (.ops [s 6 (.mv (t 0)),
  s 7 (.len false (t 6)),
  s 8 (.bin .gtr (t 7) (c (i 6)))])
 (.cond (t 8) (.seq (.ops [s 2 (.mv (c (.bool false)))])
 .ret) .skip))
 (.seq (.ops [s 3 (.mv (c (i 0)))])
 (.seq (.seq (.ops [s 9 (.mv (t 0)),
  s 10 (.len false (t 9)),
  s 11 (.mv (c (i 0)))])
 (.block 0 (.loop (.seq (.ops [s 12 (.bin .lss (t 11) (t 10))])
 (.seq (.cond (t 12) .skip (.exit 0))
 (.seq (.block 1 (.seq (.ops [s 13 (.mv (t 11)),
  s 14 (.idx (t 9) (t 11) 3),
  s 15 (.ldE 9 14 0 3 true false 3),
  s 5 (.alc [(i 0), (.lst 5 true []), (i 0)]),
  s 4 (.mv (t 13)),
  s 5 (.stB 5 0 3 (t 15) false)])
 (.seq (.seq (.ops [s 16 (.mv (c (i 0))),
  s 17 (.ldB 5 0 1 false true),
  k 18 19 [(t 17), (c (i 0)), (c (i 100000))] .sc,
  s 19 (.not (t 18)),
  s 20 (.mv (t 19)),
  sg [(20, false)] 21 (.mv (t 4)),
  sg [(20, false)] 22 (.bin .gtr (t 21) (c (i 0))),
  sg [(20, false)] 23 (.mv (t 22)),
  sg [(23, true), (20, false)] 24 (.mv (c (i 0))),
  sg [(23, true), (20, false)] 25 (.ldB 5 0 1 false true),
  sg [(23, true), (20, false)] 26 (.mv (t 0)),
  sg [(23, true), (20, false)] 27 (.mv (t 4)),
  sg [(23, true), (20, false)] 28 (.bin .sub (t 27) (c (i 1))),
  sg [(23, true), (20, false)] 29 (.idx (t 26) (t 28) 3),
  sg [(23, true), (20, false)] 30 (.mv (t 29)),
  sg [(23, true), (20, false)] 31 (.ldE 26 30 0 1 false true 3),
  sg [(23, true), (20, false)] 32 (.bin .leq (t 25) (t 31)),
  sg [(20, false)] 33 (.pick (t 23) (t 32) (c (.bool false))),
  s 34 (.pick (t 20) (c (.bool true)) (t 33)),
  s 35 (.mv (t 34)),
  sg [(35, false)] 36 (.mv (c (i 0))),
  sg [(35, false)] 37 (.ldB 5 1 1 false false),
  kg [(35, false)] 38 20 [(t 37)] .sc,
  sg [(35, false)] 39 (.not (t 38)),
  s 40 (.pick (t 35) (c (.bool true)) (t 39)),
  s 41 (.mv (t 40)),
  sg [(41, false)] 42 (.mv (c (i 0))),
  sg [(41, false)] 43 (.ldB 5 2 1 false true),
  sg [(41, false)] 44 (.mv (t 3)),
  sg [(41, false)] 45 (.mv (c (i 0))),
  sg [(41, false)] 46 (.ldB 5 0 1 false true),
  sg [(41, false)] 47 (.mv (c (i 0))),
  sg [(41, false)] 48 (.ldB 5 1 1 false false),
  kg [(41, false)] 49 18 [(t 44), (t 46), (t 48)] .sc,
  sg [(41, false)] 50 (.bin .neq (t 43) (t 49)),
  s 51 (.pick (t 41) (c (.bool true)) (t 50))])
 (.cond (t 51) (.seq (.ops [s 2 (.mv (c (.bool false)))])
 .ret) .skip))
 (.ops [s 52 (.mv (c (i 0))),
  s 53 (.ldB 5 2 1 false true),
  s 3 (.mv (t 53))]))))
 (.ops [s 54 (.bin .add (t 11) (c (i 1))),
  s 11 (.mv (t 54))])))))))
 (.seq (.ops [s 2 (.mv (c (.bool true)))])
 .ret))))), none, [2], [false]⟩
def i9 : Comp := ⟨(.seq (.ops [s 4 (.mv (c (.bool false)))])
 (.seq (.ops [s 5 (.mv (t 0)),
  s 6 (.mv (t 1)),
  k 7 21 [(t 5), (t 6), (c (.fn 22 []))] .sc,
  s 4 (.mv (t 7))])
 .ret)), none, [4], [false, false]⟩
def i10 : Comp := ⟨(.seq (.ops [s 4 (.mv (c (i 0)))])
 (.seq (.ops [s 5 (.mv (c (i 0)))])
 (.seq (.block 0 (.loop (.seq (.seq (.ops [s 6 (.mv (t 5)),
  s 7 (.mv (t 0)),
  s 8 (.len false (t 7)),
  s 9 (.bin .lss (t 6) (t 8)),
  s 10 (.mv (t 9)),
  sg [(10, true)] 11 (.mv (t 5)),
  sg [(10, true)] 12 (.mv (t 1)),
  sg [(10, true)] 13 (.len false (t 12)),
  sg [(10, true)] 14 (.bin .lss (t 11) (t 13)),
  s 15 (.pick (t 10) (t 14) (c (.bool false))),
  s 16 (.mv (t 15)),
  sg [(16, true)] 17 (.mv (t 0)),
  sg [(16, true)] 18 (.mv (t 5)),
  sg [(16, true)] 19 (.idx (t 17) (t 18) 3),
  sg [(16, true)] 20 (.mv (t 19)),
  sg [(16, true)] 21 (.ldE 17 20 2 1 false true 3),
  sg [(16, true)] 22 (.mv (t 1)),
  sg [(16, true)] 23 (.mv (t 5)),
  sg [(16, true)] 24 (.idx (t 22) (t 23) 3),
  sg [(16, true)] 25 (.mv (t 24)),
  sg [(16, true)] 26 (.ldE 22 25 2 1 false true 3),
  sg [(16, true)] 27 (.bin .eql (t 21) (t 26)),
  s 28 (.pick (t 16) (t 27) (c (.bool false)))])
 (.cond (t 28) .skip (.exit 0)))
 (.block 1 (.ops [s 29 (.mv (t 5)),
  s 30 (.bin .add (t 29) (c (i 1))),
  s 5 (.mv (t 30))])))))
 (.seq (.ops [s 31 (.mv (t 5)),
  s 4 (.mv (t 31))])
 .ret)))), none, [4], [false, false]⟩
def i11 : Comp := ⟨(.seq (.ops [s 2 (.mv (c (.lst 3 true []))),
  s 3 (.mv (c (.lst 3 true [])))])
 (.seq (.seq (.ops [s 7 (.mv (t 0))])
 (.seq (opQ 8 12 [(t 7)])
 (.seq (.ops [])
 (.seq (opV 4 8)
 (.ops [])))))
 (.seq (.seq (.ops [s 9 (.mv (c .junk))])
 (.seq (opC 10 13 4 [] .lin)
 (.ops [s 5 (.mv (t 10))])))
 (.seq (.ops [s 11 (.mv (t 5)),
  k 12 23 [(t 11)] .lin,
  s 6 (.mv (t 12))])
 (.seq (.seq (.seq (.ops [s 13 (.mv (c .junk))])
 (.seq (opC 14 24 4 [(c (i 2))] .sc)
 (.ops [])))
 (.cond (t 14) (.seq (.ops [s 16 (.mv (t 6)),
  s 17 (.mv (c .junk))])
 (.seq (opC 18 26 4 [] .lin)
 (.ops [k 19 25 [(t 16), (c (i 50)), (t 18)] .tup,
  s 15 (.mv (t 19)),
  s 20 (.ext 15 0 false),
  s 21 (.ext 15 1 true),
  s 6 (.mv (t 20))]))) .skip))
 (.seq (.seq (.seq (.ops [s 22 (.mv (t 6)),
  s 23 (.len false (t 22)),
  s 24 (.bin .gtr (t 23) (c (i 0))),
  s 25 (.mv (t 24)),
  sg [(25, true)] 26 (.mv (c .junk))])
 (.seq (opG [(25, true)] 27 24 4 [(c (i 3))])
 (.ops [s 28 (.pick (t 25) (t 27) (c (.bool false)))])))
 (.cond (t 28) (.ops [s 29 (.mv (t 6)),
  s 30 (.mv (t 6)),
  s 31 (.len false (t 30)),
  s 32 (.bin .sub (t 31) (c (i 1))),
  s 33 (.sl 3 (t 29) none (some (t 32))),
  s 6 (.mv (t 33))]) .skip))
 (.seq (.ops [s 34 (.mv (t 5)),
  s 35 (.mv (t 6)),
  s 2 (.mv (t 34)),
  s 3 (.mv (t 35))])
 .ret))))))), none, [2, 3], [false]⟩
def i13 : Comp := ⟨(.seq (.ops [s 2 (.mv (c (.lst 3 true [])))])
 (.seq (.seq (.ops [s 5 (.mv (c .junk))])
 (.seq (opC 6 27 0 [] .lin)
 (.ops [s 3 (.mv (t 6))])))
 (.seq (.seq (.ops [s 7 (.mv (t 3)),
  s 8 (.len false (t 7)),
  s 9 (.bin .eql (t 8) (c (i 0)))])
 (.cond (t 9) (.seq (.ops [s 10 (.mv (t 3)),
  s 2 (.mv (t 10))])
 .ret) .skip))
 (.seq (.seq (.ops [s 11 (.mv (c .junk)),
  s 12 (.mv (t 3)),
  s 13 (.len false (t 12))])
 (.seq (opC 14 28 0 [(t 13)] .sc)
 (.ops [s 4 (.mv (t 14))])))
 (.seq (.seq (.seq (.ops [s 15 (.mv (c .junk))])
 (.seq (opC 16 28 0 [(c (i 8))] .sc)
 (.ops [])))
 (.block 0 (.seq (.ops [s 18 (.bin .eql (t 16) (c (i 0))),
  s 17 (.mv (t 18))])
 (.cond (t 17) (.seq (.ops [s 19 (.mv (t 3)),
  s 20 (.mv (t 4)),
  s 21 (.mv (t 3)),
  s 22 (.mv (t 4)),
  s 23 (.idx (t 21) (t 22) 3),
  s 24 (.mv (t 23)),
  s 25 (.ldE 21 24 0 1 false true 3),
  s 26 (.bin .add (t 25) (c (i 1))),
  s 27 (.idx (t 19) (t 20) 3),
  s 28 (.mv (t 27))])
 (.seq (opW 3 28 0 1 3 (t 26))
 (.ops []))) (.seq (.ops [s 30 (.bin .eql (t 16) (c (i 1))),
  s 29 (.mv (t 30))])
 (.cond (t 29) (.seq (.ops [s 31 (.mv (t 3)),
  s 32 (.mv (t 4)),
  s 33 (.mv (t 3)),
  s 34 (.mv (t 4)),
  s 35 (.idx (t 33) (t 34) 3),
  s 36 (.mv (t 35)),
  s 37 (.ldE 33 36 2 1 false true 3),
  s 38 (.bin .add (t 37) (c (i 1))),
  s 39 (.idx (t 31) (t 32) 3),
  s 40 (.mv (t 39))])
 (.seq (opW 3 40 2 1 3 (t 38))
 (.ops []))) (.seq (.ops [s 42 (.bin .eql (t 16) (c (i 2))),
  s 41 (.mv (t 42))])
 (.cond (t 41) (.seq (.ops [s 43 (.mv (t 3)),
  s 44 (.mv (t 4)),
  s 45 (.mv (c .junk))])
 (.seq (opC 46 15 0 [] .lin)
 (.seq (.ops [s 47 (.idx (t 43) (t 44) 3),
  s 48 (.mv (t 47))])
 (.seq (opW 3 48 1 1 3 (t 46))
 (.ops []))))) .skip))))))))
 (.seq (.ops [s 49 (.mv (t 3)),
  s 2 (.mv (t 49))])
 .ret)))))), none, [2], []⟩
def i15 : Comp := ⟨(.seq (.ops [s 2 (.mv (c (.lst 5 true [])))])
 (.seq (.seq (.ops [s 5 (.mv (c .junk))])
 (.seq (opC 6 26 0 [] .lin)
 (.ops [s 3 (.mv (t 6))])))
 (.seq (.seq (.ops [s 7 (.mv (t 3)),
  s 8 (.len false (t 7)),
  s 9 (.bin .eql (t 8) (c (i 0)))])
 (.cond (t 9) (.seq (.ops [s 10 (.mv (t 3)),
  s 2 (.mv (t 10))])
 .ret) .skip))
 (.seq (.seq (.ops [s 11 (.mv (c .junk)),
  s 12 (.mv (t 3)),
  s 13 (.len false (t 12))])
 (.seq (opC 14 28 0 [(t 13)] .sc)
 (.ops [s 4 (.mv (t 14))])))
 (.seq (.seq (.seq (.ops [s 15 (.mv (c .junk))])
 (.seq (opC 16 28 0 [(c (i 10))] .sc)
 (.ops [])))
 (.block 0 (.seq (.ops [s 18 (.bin .eql (t 16) (c (i 0))),
  s 17 (.mv (t 18))])
 (.cond (t 17) (.seq (.ops [s 19 (.mv (t 3)),
  s 20 (.mv (t 4)),
  s 21 (.mv (c .junk)),
  s 22 (.bsl 1 [(c (i 0)), (c (i 1)), (c (i 99)), (c (i 100))])])
 (.seq (opC 23 14 0 [(t 22)] .sc)
 (.seq (.ops [s 24 (.idx (t 19) (t 20) 5),
  s 25 (.mv (t 24))])
 (.seq (opW 3 25 0 1 5 (t 23))
 (.ops []))))) (.seq (.ops [s 27 (.bin .eql (t 16) (c (i 1))),
  s 26 (.mv (t 27))])
 (.cond (t 26) (.seq (.ops [s 28 (.mv (t 3)),
  s 29 (.mv (t 4)),
  s 30 (.mv (c .junk)),
  s 31 (.bsl 1 [(c (i (-1))), (c (i 9)), (c (i 10))])])
 (.seq (opC 32 14 0 [(t 31)] .sc)
 (.seq (.ops [s 33 (.idx (t 28) (t 29) 5),
  s 34 (.mv (t 33))])
 (.seq (opW 3 34 2 1 5 (t 32))
 (.ops []))))) (.seq (.ops [s 36 (.bin .eql (t 16) (c (i 2))),
  s 35 (.mv (t 36))])
 (.cond (t 35) (.seq (.ops [s 37 (.mv (t 3)),
  s 38 (.mv (t 4)),
  s 39 (.mv (c .junk)),
  s 40 (.bsl 1 [(c (.str (bs [65]))), (c (.str (bs [116, 111, 111, 108, 111, 110, 103, 97, 97]))), (c (.str (bs [97, 32, 98])))])])
 (.seq (opC 41 29 0 [(t 40)] .sc)
 (.seq (.ops [s 42 (.idx (t 37) (t 38) 5),
  s 43 (.mv (t 42))])
 (.seq (opW 3 43 3 1 5 (t 41))
 (.ops []))))) (.seq (.ops [s 45 (.bin .eql (t 16) (c (i 3))),
  s 44 (.mv (t 45))])
 (.cond (t 44) (.seq (.ops [s 46 (.mv (t 3)),
  s 47 (.mv (t 4)),
  s 48 (.mv (c .junk)),
  s 49 (.bsl 1 [(c (i 0)), (c (i 1)), (c (i 2)), (c (i 3)), (c (i 4))])])
 (.seq (opC 50 14 0 [(t 49)] .sc)
 (.seq (.ops [s 51 (.idx (t 46) (t 47) 5),
  s 52 (.mv (t 51))])
 (.seq (opW 3 52 1 1 5 (t 50))
 (.ops []))))) (.seq (.ops [s 54 (.bin .eql (t 16) (c (i 4))),
  s 53 (.mv (t 54))])
 (.cond (t 53) (.seq (.ops [s 55 (.mv (t 3)),
  s 56 (.mv (t 4)),
  s 57 (.mv (c .junk))])
 (.seq (opC 58 30 0 [] .lin)
 (.seq (.ops [s 59 (.idx (t 55) (t 56) 5),
  s 60 (.mv (t 59))])
 (.seq (opW 3 60 4 1 5 (t 58))
 (.ops []))))) .skip))))))))))))
 (.seq (.ops [s 61 (.mv (t 3)),
  s 2 (.mv (t 61))])
 .ret)))))), none, [2], []⟩
def i16 : Comp := ⟨(.seq (.ops [s 2 (.mv (c (.lst 3 true [])))])
 (.seq (.ops [s 6 (.bsl 3 []),
  s 3 (.mv (t 6))])
 (.seq (.seq (.ops [s 7 (.mv (t 0)),
  s 8 (.len false (t 7)),
  s 9 (.mv (c (i 0)))])
 (.block 0 (.loop (.seq (.ops [s 10 (.bin .lss (t 9) (t 8))])
 (.seq (.cond (t 10) .skip (.exit 0))
 (.seq (.block 1 (.seq (.ops [s 11 (.idx (t 7) (t 9) 3),
  s 12 (.ldE 7 11 0 3 true false 3),
  s 5 (.alc [(i 0), (.lst 5 true []), (i 0)]),
  s 5 (.stB 5 0 3 (t 12) false)])
 (.seq (.ops [s 13 (.mv (c (i 0))),
  s 14 (.ldB 5 1 1 false false),
  k 15 17 [(t 14)] .lin,
  s 16 (.mv (c (i 0))),
  s 5 (.stB 5 1 1 (t 15) true)])
 (.ops [s 17 (.mv (t 3)),
  s 18 (.ldB 5 0 3 true false),
  s 19 (.bsl 3 [(t 18)]),
  s 20 (.app (t 17) (t 19) 3 40),
  s 3 (.mv (t 20))]))))
 (.ops [s 21 (.bin .add (t 9) (c (i 1))),
  s 9 (.mv (t 21))])))))))
 (.seq (.ops [s 22 (.mv (t 3)),
  s 2 (.mv (t 22))])
 .ret)))), none, [2], [false]⟩
def i17 : Comp := ⟨(.seq (.ops [s 2 (.mv (c (.lst 5 true [])))])
 (.seq (.ops [s 6 (.bsl 5 []),
  s 3 (.mv (t 6))])
 (.seq (.seq (.ops [s 7 (.mv (t 0)),
  s 8 (.len false (t 7)),
  s 9 (.mv (c (i 0)))])
 (.block 0 (.loop (.seq (.ops [s 10 (.bin .lss (t 9) (t 8))])
 (.seq (.cond (t 10) .skip (.exit 0))
 (.seq (.block 1 (.seq (.ops [s 11 (.idx (t 7) (t 9) 5),
  s 12 (.ldE 7 11 0 5 true false 5),
  s 5 (.alc [(i 0), (i 0), (i 0), (.str (bs [])), (.lst 2 true [])]),
  s 5 (.stB 5 0 5 (t 12) false)])
 (.ops [s 13 (.mv (t 3)),
  s 14 (.ldB 5 0 5 true false),
  k 15 31 [(t 14)] .lin,
  s 16 (.bsl 5 [(t 15)]),
  s 17 (.app (t 13) (t 16) 5 64),
  s 3 (.mv (t 17))])))
 (.ops [s 18 (.bin .add (t 9) (c (i 1))),
  s 9 (.mv (t 18))])))))))
 (.seq (.ops [s 19 (.mv (t 3)),
  s 2 (.mv (t 19))])
 .ret)))), none, [2], [false]⟩
def i18 : Comp := ⟨(.seq (.ops [s 6 (.mv (c (i 0)))])
 (.seq (.ops [s 7 (.mv (t 0)),
  s 8 (.mv (t 1)),
  s 9 (.bsl 1 [(t 7), (t 8)]),
  s 10 (.mv (t 2)),
  s 11 (.mv (t 2)),
  k 12 34 [(t 11)] .lin,
  k 13 33 [(t 10), (t 12)] .lin,
  s 14 (.app (t 9) (t 13) 1 8),
  k 15 32 [(t 14)] .sc,
  s 6 (.mv (t 15))])
 .ret)), none, [6], [true, true, false]⟩
def i19 : Comp := ⟨(.seq (.ops [s 6 (.mv (c (.bool false)))])
 (.seq (.ops [s 7 (.mv (t 1)),
  s 8 (.mv (t 0)),
  s 9 (.bin .leq (t 7) (t 8)),
  s 10 (.mv (t 9)),
  sg [(10, true)] 11 (.mv (t 0)),
  sg [(10, true)] 12 (.mv (t 2)),
  sg [(10, true)] 13 (.bin .leq (t 11) (t 12)),
  s 14 (.pick (t 10) (t 13) (c (.bool false))),
  s 6 (.mv (t 14))])
 .ret)), none, [6], [true, true, true]⟩
def i20 : Comp := ⟨(.seq (.ops [s 2 (.mv (c (.bool false)))])
 (.seq (.seq (.ops [s 5 (.mv (t 0)),
  s 6 (.len false (t 5)),
  s 7 (.bin .gtr (t 6) (c (i 16)))])
 (.cond (t 7) (.seq (.ops [s 2 (.mv (c (.bool false)))])
 .ret) .skip))
 (.seq (.seq (.ops [s 8 (.mv (t 0)),
  s 9 (.len false (t 8)),
  s 10 (.mv (c (i 0)))])
 (.block 0 (.loop (.seq (.ops [s 11 (.bin .lss (t 10) (t 9))])
 (.seq (.cond (t 11) .skip (.exit 0))
 (.seq (.block 1 (.seq (.ops [s 12 (.mv (t 10)),
  s 13 (.idx (t 8) (t 10) 5),
  s 14 (.ldE 8 13 0 5 true false 5),
  s 4 (.alc [(i 0), (i 0), (i 0), (.str (bs [])), (.lst 2 true [])]),
  s 3 (.mv (t 12)),
  s 4 (.stB 4 0 5 (t 14) false)])
 (.seq (.ops [s 15 (.ldB 4 0 5 true false),
  k 16 35 [(t 15)] .sc,
  s 17 (.not (t 16)),
  s 18 (.mv (t 17)),
  sg [(18, false)] 19 (.mv (t 3)),
  sg [(18, false)] 20 (.bin .gtr (t 19) (c (i 0))),
  sg [(18, false)] 21 (.mv (t 20)),
  sg [(21, true), (18, false)] 22 (.mv (c (i 0))),
  sg [(21, true), (18, false)] 23 (.ldB 4 0 1 false true),
  sg [(21, true), (18, false)] 24 (.mv (t 0)),
  sg [(21, true), (18, false)] 25 (.mv (t 3)),
  sg [(21, true), (18, false)] 26 (.bin .sub (t 25) (c (i 1))),
  sg [(21, true), (18, false)] 27 (.idx (t 24) (t 26) 5),
  sg [(21, true), (18, false)] 28 (.mv (t 27)),
  sg [(21, true), (18, false)] 29 (.ldE 24 28 0 1 false true 5),
  sg [(21, true), (18, false)] 30 (.bin .leq (t 23) (t 29)),
  sg [(18, false)] 31 (.pick (t 21) (t 30) (c (.bool false))),
  s 32 (.pick (t 18) (c (.bool true)) (t 31))])
 (.cond (t 32) (.seq (.ops [s 2 (.mv (c (.bool false)))])
 .ret) .skip))))
 (.ops [s 33 (.bin .add (t 10) (c (i 1))),
  s 10 (.mv (t 33))])))))))
 (.seq (.ops [s 2 (.mv (c (.bool true)))])
 .ret)))), none, [2], [false]⟩
def i21 : Comp := ⟨(.seq (.ops [s 6 (.mv (c (.bool false)))])
 (.seq (.seq (.ops [s 10 (.mv (t 0)),
  s 11 (.len false (t 10)),
  s 12 (.mv (t 1)),
  s 13 (.len false (t 12)),
  s 14 (.bin .neq (t 11) (t 13))])
 (.cond (t 14) (.seq (.ops [s 6 (.mv (c (.bool false)))])
 .ret) .skip))
 (.seq (.seq (.ops [s 15 (.mv (t 0)),
  s 16 (.len false (t 15)),
  s 17 (.mv (c (i 0)))])
 (.block 0 (.loop (.seq (.ops [s 18 (.bin .lss (t 17) (t 16))])
 (.seq (.cond (t 18) .skip (.exit 0))
 (.seq (.block 1 (.seq (.ops [s 19 (.mv (t 17)),
  s 20 (.idx (t 15) (t 17) 5),
  s 21 (.ldE 15 20 0 5 true false 5),
  s 8 (.alc [(i 0), (i 0), (i 0), (.str (bs [])), (.lst 2 true [])]),
  s 7 (.mv (t 19)),
  s 8 (.stB 8 0 5 (t 21) false)])
 (.seq (.ops [s 22 (.mv (t 1)),
  s 23 (.mv (t 7)),
  s 24 (.idx (t 22) (t 23) 5),
  s 25 (.ldE 22 24 0 5 true false 5),
  s 9 (.alc [(i 0), (i 0), (i 0), (.str (bs [])), (.lst 2 true [])]),
  s 9 (.stB 9 0 5 (t 25) false)])
 (.seq (.ops [s 26 (.mv (t 2)),
  s 27 (.ldB 8 0 5 true false),
  s 28 (.ldB 9 0 5 true false),
  v 29 (t 26) [(t 27), (t 28)],
  s 30 (.not (t 29))])
 (.cond (t 30) (.seq (.ops [s 6 (.mv (c (.bool false)))])
 .ret) .skip)))))
 (.ops [s 31 (.bin .add (t 17) (c (i 1))),
  s 17 (.mv (t 31))])))))))
 (.seq (.ops [s 6 (.mv (c (.bool true)))])
 .ret)))), none, [6], [false, false, false]⟩
def i22 : Comp := ⟨(.seq (.ops [s 2 (.box 5 (t 0)),
  s 3 (.box 5 (t 1)),
  s 4 (.mv (c (.bool false)))])
 (.seq (.ops [s 5 (.mv (c (i 0))),
  s 6 (.ldB 2 0 1 false true),
  s 7 (.mv (c (i 0))),
  s 8 (.ldB 3 0 1 false true),
  s 9 (.bin .eql (t 6) (t 8)),
  s 10 (.mv (t 9)),
  sg [(10, true)] 11 (.mv (c (i 0))),
  sg [(10, true)] 12 (.ldB 2 1 1 false true),
  sg [(10, true)] 13 (.mv (c (i 0))),
  sg [(10, true)] 14 (.ldB 3 1 1 false true),
  sg [(10, true)] 15 (.bin .eql (t 12) (t 14)),
  s 16 (.pick (t 10) (t 15) (c (.bool false))),
  s 17 (.mv (t 16)),
  sg [(17, true)] 18 (.mv (c (i 0))),
  sg [(17, true)] 19 (.ldB 2 2 1 false true),
  sg [(17, true)] 20 (.mv (c (i 0))),
  sg [(17, true)] 21 (.ldB 3 2 1 false true),
  sg [(17, true)] 22 (.bin .eql (t 19) (t 21)),
  s 23 (.pick (t 17) (t 22) (c (.bool false))),
  s 24 (.mv (t 23)),
  sg [(24, true)] 25 (.mv (c (i 0))),
  sg [(24, true)] 26 (.ldB 2 3 1 false true),
  sg [(24, true)] 27 (.mv (c (i 0))),
  sg [(24, true)] 28 (.ldB 3 3 1 false true),
  sg [(24, true)] 29 (.bin .eql (t 26) (t 28)),
  s 30 (.pick (t 24) (t 29) (c (.bool false))),
  s 31 (.mv (t 30)),
  sg [(31, true)] 32 (.mv (c (i 0))),
  sg [(31, true)] 33 (.ldB 2 4 1 false false),
  sg [(31, true)] 34 (.mv (c (i 0))),
  sg [(31, true)] 35 (.ldB 3 4 1 false false),
  kg [(31, true)] 36 36 [(t 33), (t 35)] .sc,
  s 37 (.pick (t 31) (t 36) (c (.bool false))),
  s 4 (.mv (t 37))])
 .ret)), none, [4], [false, false]⟩
def i23 : Comp := ⟨(.seq (.ops [s 2 (.mv (c (.lst 3 true [])))])
 (.seq (.ops [s 5 (.bsl 3 []),
  s 3 (.mv (t 5))])
 (.seq (.seq (.ops [s 4 (.mv (c (i 0)))])
 (.block 0 (.loop (.seq (.seq (.ops [s 6 (.mv (t 4)),
  s 7 (.mv (t 0)),
  s 8 (.len false (t 7)),
  s 9 (.bin .lss (t 6) (t 8))])
 (.cond (t 9) .skip (.exit 0)))
 (.seq (.block 1 (.ops [s 12 (.mv (t 3)),
  s 13 (.mv (t 0)),
  s 14 (.mv (t 4)),
  s 15 (.idx (t 13) (t 14) 3),
  s 16 (.mv (t 15)),
  s 17 (.ldE 13 16 0 1 false true 3),
  s 18 (.mv (t 0)),
  s 19 (.mv (t 4)),
  s 20 (.idx (t 18) (t 19) 3),
  s 21 (.mv (t 20)),
  s 22 (.ldE 18 21 1 1 false false 3),
  k 23 37 [(t 22)] .lin,
  s 24 (.mv (t 0)),
  s 25 (.mv (t 4)),
  s 26 (.idx (t 24) (t 25) 3),
  s 27 (.mv (t 26)),
  s 28 (.ldE 24 27 2 1 false true 3),
  s 29 (.bld [(i 0), (.lst 5 true []), (i 0)] [(0, 1, (t 17)), (1, 1, (t 23)), (2, 1, (t 28))]),
  s 30 (.bsl 3 [(t 29)]),
  s 31 (.app (t 12) (t 30) 3 40),
  s 3 (.mv (t 31))]))
 (.ops [s 10 (.mv (t 4)),
  s 11 (.bin .add (t 10) (c (i 1))),
  s 4 (.mv (t 11))]))))))
 (.seq (.ops [s 32 (.mv (t 3)),
  s 2 (.mv (t 32))])
 .ret)))), none, [2], [false]⟩
def i24 : Comp := ⟨(.seq (.ops [s 4 (.mv (c (.bool false)))])
 (.seq (.seq (.ops [s 5 (.mv (c .junk)),
  s 6 (.mv (t 1))])
 (.seq (opC 7 28 0 [(t 6)] .sc)
 (.ops [s 8 (.bin .eql (t 7) (c (i 0))),
  s 4 (.mv (t 8))])))
 .ret)), none, [4], [true]⟩
def i25 : Comp := ⟨(.seq (.ops [s 6 (.mv (c (.lst 3 true []))),
  s 7 (.mv (c (.bool false)))])
 (.seq (.ops [s 8 (.mv (c (i 0)))])
 (.seq (.seq (.ops [s 10 (.mv (t 0)),
  s 11 (.len false (t 10)),
  s 12 (.bin .gtr (t 11) (c (i 0)))])
 (.cond (t 12) (.ops [s 13 (.mv (t 0)),
  s 14 (.mv (t 0)),
  s 15 (.len false (t 14)),
  s 16 (.bin .sub (t 15) (c (i 1))),
  s 17 (.idx (t 13) (t 16) 3),
  s 18 (.mv (t 17)),
  s 19 (.ldE 13 18 2 1 false true 3),
  s 8 (.mv (t 19))]) .skip))
 (.seq (.ops [s 20 (.mv (t 0)),
  k 21 23 [(t 20)] .lin,
  s 22 (.mv (t 1)),
  s 23 (.mv (t 2)),
  k 24 37 [(t 23)] .lin,
  s 25 (.mv (t 8)),
  s 26 (.mv (t 1)),
  s 27 (.mv (t 2)),
  k 28 38 [(t 25), (t 26), (t 27)] .sc,
  s 29 (.bld [(i 0), (.lst 5 true []), (i 0)] [(0, 1, (t 22)), (1, 1, (t 24)), (2, 1, (t 28))]),
  s 30 (.bsl 3 [(t 29)]),
  s 31 (.app (t 21) (t 30) 3 40),
  s 9 (.mv (t 31))])
 (.seq (.seq (.ops [s 32 (.mv (t 9)),
  k 33 39 [(t 32)] .sc,
  s 34 (.not (t 33))])
 (.cond (t 34) (.seq (.ops [s 35 (.mv (t 0)),
  k 36 23 [(t 35)] .lin,
  s 6 (.mv (t 36)),
  s 7 (.mv (c (.bool false)))])
 .ret) .skip))
 (.seq (.ops [s 37 (.mv (t 9)),
  s 6 (.mv (t 37)),
  s 7 (.mv (c (.bool true)))])
 .ret)))))), none, [6, 7], [false, true, false]⟩
def i26 : Comp := ⟨(.seq (.ops [s 2 (.mv (c (.lst 5 true [])))])
 (.seq (.ops [s 5 (.bsl 5 []),
  s 3 (.mv (t 5))])
 (.seq (.seq (.ops [s 4 (.mv (c (i 1)))])
 (.block 0 (.loop (.seq (.seq (.seq (.ops [s 6 (.mv (t 4)),
  s 7 (.mv (c .junk))])
 (.seq (opC 8 28 0 [(c (i 6))] .sc)
 (.ops [s 9 (.bin .add (c (i 1)) (t 8)),
  s 10 (.bin .leq (t 6) (t 9))])))
 (.cond (t 10) .skip (.exit 0)))
 (.seq (.block 1 (.seq (.ops [s 14 (.mv (t 3)),
  s 15 (.mv (c .junk)),
  s 16 (.mv (t 4))])
 (.seq (opC 17 41 0 [(t 16)] .lin)
 (.ops [k 18 40 [(t 14), (t 17)] .tup,
  s 13 (.mv (t 18)),
  s 19 (.ext 13 0 false),
  s 20 (.ext 13 1 true),
  s 3 (.mv (t 19))]))))
 (.ops [s 11 (.mv (t 4)),
  s 12 (.bin .add (t 11) (c (i 1))),
  s 4 (.mv (t 12))]))))))
 (.seq (.ops [s 21 (.mv (t 3)),
  s 2 (.mv (t 21))])
 .ret)))), none, [2], []⟩
def i27 : Comp := ⟨(.seq (.ops [s 2 (.mv (c (.lst 3 true [])))])
 (.seq (.ops [s 6 (.bsl 3 []),
  s 3 (.mv (t 6))])
 (.seq (.ops [s 7 (.bsl 5 []),
  s 4 (.mv (t 7))])
 (.seq (.seq (.ops [s 5 (.mv (c (i 0)))])
 (.block 0 (.loop (.seq (.seq (.seq (.ops [s 8 (.mv (t 5)),
  s 9 (.mv (c .junk))])
 (.seq (opC 10 28 0 [(c (i 4))] .sc)
 (.ops [s 11 (.bin .lss (t 8) (t 10))])))
 (.cond (t 11) .skip (.exit 0)))
 (.seq (.block 1 (.seq (.seq (.ops [s 15 (.mv (t 4)),
  s 16 (.mv (c .junk)),
  s 17 (.mv (c .junk))])
 (.seq (opC 18 28 0 [(c (i 5))] .sc)
 (.seq (.ops [s 19 (.bin .add (c (i 1)) (t 18))])
 (.seq (opC 20 41 0 [(t 19)] .lin)
 (.ops [k 21 40 [(t 15), (t 20)] .tup,
  s 14 (.mv (t 21)),
  s 22 (.ext 14 0 false),
  s 23 (.ext 14 1 true),
  s 4 (.mv (t 22))])))))
 (.seq (.ops [s 25 (.mv (t 3)),
  s 26 (.mv (t 5)),
  s 27 (.bin .mul (c (i 3)) (t 26)),
  s 28 (.mv (c .junk))])
 (.seq (opC 29 28 0 [(c (i 3))] .sc)
 (.ops [s 30 (.bin .add (t 27) (t 29)),
  s 31 (.mv (t 4)),
  k 32 25 [(t 25), (t 30), (t 31)] .tup,
  s 24 (.mv (t 32)),
  s 33 (.ext 24 0 false),
  s 34 (.ext 24 1 true),
  s 3 (.mv (t 33))])))))
 (.ops [s 12 (.mv (t 5)),
  s 13 (.bin .add (t 12) (c (i 1))),
  s 5 (.mv (t 13))]))))))
 (.seq (.ops [s 35 (.mv (t 3)),
  s 2 (.mv (t 35))])
 .ret))))), none, [2], []⟩
def i28 : Comp := ⟨(.seq (.ops [s 4 (.mv (c (i 0)))])
 (.seq (.seq (.ops [s 8 (.mv (t 1)),
  s 9 (.bin .leq (t 8) (c (i 0)))])
 (.cond (t 9) (.seq (.ops [s 4 (.mv (c (i 0)))])
 .ret) .skip))
 (.seq (.seq (.ops [s 10 (.mv (t 1)),
  s 11 (.bin .leq (t 10) (c (i 256)))])
 (.cond (t 11) (.seq (.seq (.ops [s 12 (.mv (c .junk))])
 (.seq (opC 13 42 0 [] .sc)
 (.ops [s 14 (.mv (t 1)),
  s 15 (.bin .rem (t 13) (t 14)),
  s 4 (.mv (t 15))])))
 .ret) .skip))
 (.seq (.seq (.ops [s 16 (.mv (c .junk))])
 (.seq (opC 17 42 0 [] .sc)
 (.ops [s 5 (.mv (t 17))])))
 (.seq (.seq (.ops [s 18 (.mv (c .junk))])
 (.seq (opC 19 42 0 [] .sc)
 (.ops [s 6 (.mv (t 19))])))
 (.seq (.seq (.ops [s 20 (.mv (c .junk))])
 (.seq (opC 21 42 0 [] .sc)
 (.ops [s 7 (.mv (t 21))])))
 (.seq (.ops [s 22 (.mv (t 5)),
  s 23 (.bin .mul (t 22) (c (i 65536))),
  s 24 (.mv (t 6)),
  s 25 (.bin .mul (t 24) (c (i 256))),
  s 26 (.bin .add (t 23) (t 25)),
  s 27 (.mv (t 7)),
  s 28 (.bin .add (t 26) (t 27)),
  s 29 (.mv (t 1)),
  s 30 (.bin .rem (t 28) (t 29)),
  s 4 (.mv (t 30))])
 .ret))))))), none, [4], [true]⟩
def i30 : Comp := ⟨(.seq (.ops [s 2 (.mv (c (.lst 2 true [])))])
 (.seq (.seq (.ops [s 4 (.mv (c .junk))])
 (.seq (opC 5 43 0 [] .lin)
 (.ops [s 3 (.mv (t 5))])))
 (.seq (.seq (.seq (.ops [s 6 (.mv (c .junk))])
 (.seq (opC 7 28 0 [(c (i 12))] .sc)
 (.ops [])))
 (.block 0 (.seq (.ops [s 9 (.bin .eql (t 7) (c (i 0))),
  s 8 (.mv (t 9))])
 (.cond (t 8) (.seq (.ops [s 10 (.mv (t 3)),
  s 11 (.mv (c .junk))])
 (.seq (opC 12 44 0 [] .sc)
 (.seq (.ops [s 13 (.idx (t 10) (c (i 0)) 2)])
 (.seq (opW 3 13 0 2 2 (t 12))
 (.ops []))))) (.seq (.ops [s 15 (.bin .eql (t 7) (c (i 1))),
  s 14 (.mv (t 15))])
 (.cond (t 14) (.ops [s 16 (.mv (t 3)),
  s 17 (.mv (t 3)),
  s 18 (.mv (t 3)),
  s 19 (.len false (t 18)),
  s 20 (.bin .sub (t 19) (c (i 1))),
  s 21 (.idx (t 17) (t 20) 2),
  s 22 (.ldE 17 21 0 2 true true 2),
  s 23 (.bsl 2 [(t 22)]),
  s 24 (.app (t 16) (t 23) 2 16),
  s 3 (.mv (t 24))]) (.seq (.ops [s 26 (.bin .eql (t 7) (c (i 2))),
  s 25 (.mv (t 26))])
 (.cond (t 25) (.seq (.ops [s 27 (.mv (t 3))])
 (.seq (opS 28 2 (t 27) none (some (c (i 1))))
 (.ops [s 3 (.mv (t 28))]))) (.seq (.ops [s 30 (.bin .eql (t 7) (c (i 3))),
  s 29 (.mv (t 30))])
 (.cond (t 29) (.block 1 (.loop (.seq (.seq (.ops [s 31 (.mv (t 3)),
  s 32 (.len false (t 31)),
  s 33 (.bin .lss (t 32) (c (i 11)))])
 (.cond (t 33) .skip (.exit 1)))
 (.block 2 (.ops [s 34 (.mv (t 3)),
  s 35 (.mv (t 3)),
  s 36 (.len false (t 35)),
  s 37 (.mv (t 3)),
  s 38 (.len false (t 37)),
  s 39 (.bin .add (c (i 50)) (t 38)),
  s 40 (.bld [(i 0), (i 0)] [(0, 1, (t 36)), (1, 1, (t 39))]),
  s 41 (.bsl 2 [(t 40)]),
  s 42 (.app (t 34) (t 41) 2 16),
  s 3 (.mv (t 42))]))))) .skip))))))))))
 (.seq (.ops [s 43 (.mv (t 3)),
  s 2 (.mv (t 43))])
 .ret)))), none, [2], []⟩
def i31 : Comp := ⟨(.seq (.ops [s 1 (.box 5 (t 0)),
  s 2 (.alc [(i 0), (i 0), (i 0), (.str (bs [])), (.lst 2 true [])])])
 (.seq (.ops [s 3 (.mv (c (i 0))),
  s 4 (.ldB 1 4 1 false false),
  k 5 45 [(t 4)] .lin,
  s 6 (.mv (c (i 0))),
  s 1 (.stB 1 4 1 (t 5) true)])
 (.seq (.ops [s 7 (.ldB 1 0 5 true false),
  s 2 (.stB 2 0 5 (t 7) false)])
 .ret))), (some ⟨2, 53, 5, true⟩), [], [false]⟩
def i32 : Comp := ⟨(.seq (.ops [s 2 (.mv (c (i 0)))])
 (.seq (.ops [s 3 (.mv (c (i 11)))])
 (.seq (.seq (.ops [s 6 (.mv (t 0)),
  s 7 (.len false (t 6)),
  s 8 (.mv (c (i 0)))])
 (.block 0 (.loop (.seq (.ops [s 9 (.bin .lss (t 8) (t 7))])
 (.seq (.cond (t 9) .skip (.exit 0))
 (.seq (.block 1 (.seq (.ops [s 10 (.idx (t 6) (t 8) 1),
  s 11 (.ldE 6 10 0 1 false true 1),
  s 5 (.mv (t 11))])
 (.ops [s 12 (.mv (t 3)),
  s 13 (.mv (t 5)),
  k 14 46 [(t 12), (t 13)] .sc,
  s 3 (.mv (t 14))])))
 (.ops [s 15 (.bin .add (t 8) (c (i 1))),
  s 8 (.mv (t 15))])))))))
 (.seq (.ops [s 16 (.mv (t 3)),
  s 2 (.mv (t 16))])
 .ret)))), none, [2], [false]⟩
def i33 : Comp := ⟨(.seq (.ops [s 4 (.mv (c (.lst 1 true [])))])
 (.seq (.ops [s 8 (.bsl 1 []),
  s 5 (.mv (t 8))])
 (.seq (.seq (.ops [s 9 (.mv (t 1)),
  s 10 (.len false (t 9)),
  s 11 (.mv (c (i 0)))])
 (.block 0 (.loop (.seq (.ops [s 12 (.bin .lss (t 11) (t 10))])
 (.seq (.cond (t 12) .skip (.exit 0))
 (.seq (.block 1 (.seq (.ops [s 13 (.idx (t 9) (t 11) 2),
  s 14 (.ldE 9 13 0 2 true true 2),
  s 7 (.alc [(i 0), (i 0)]),
  s 7 (.stB 7 0 2 (t 14) false)])
 (.ops [s 15 (.mv (t 5)),
  s 16 (.mv (t 0)),
  s 17 (.mv (t 0)),
  s 18 (.mv (c (i 0))),
  s 19 (.ldB 7 0 1 false true),
  k 20 48 [(t 17), (t 19)] .sc,
  s 21 (.idx (t 16) (t 20) 5),
  s 22 (.ldE 16 21 0 5 true false 5),
  s 23 (.mv (c (i 0))),
  s 24 (.ldB 7 1 1 false true),
  k 25 47 [(t 22), (t 24)] .sc,
  s 26 (.bsl 1 [(t 25)]),
  s 27 (.app (t 15) (t 26) 1 8),
  s 5 (.mv (t 27))])))
 (.ops [s 28 (.bin .add (t 11) (c (i 1))),
  s 11 (.mv (t 28))])))))))
 (.seq (.ops [s 29 (.mv (t 5)),
  s 4 (.mv (t 29))])
 .ret)))), none, [4], [false, false]⟩
def i34 : Comp := ⟨(.seq (.ops [s 2 (.mv (c (.lst 2 true [])))])
 (.seq (.ops [s 6 (.bsl 2 []),
  s 3 (.mv (t 6))])
 (.seq (.seq (.ops [s 7 (.mv (t 0)),
  k 8 20 [(t 7)] .sc,
  s 9 (.not (t 8))])
 (.cond (t 9) (.seq (.ops [s 10 (.mv (t 3)),
  s 2 (.mv (t 10))])
 .ret) .skip))
 (.seq (.seq (.ops [s 11 (.mv (t 0)),
  s 12 (.len false (t 11)),
  s 13 (.mv (c (i 0)))])
 (.block 0 (.loop (.seq (.ops [s 14 (.bin .lss (t 13) (t 12))])
 (.seq (.cond (t 14) .skip (.exit 0))
 (.seq (.block 1 (.seq (.ops [s 15 (.idx (t 11) (t 13) 5),
  s 16 (.ldE 11 15 0 5 true false 5),
  s 5 (.alc [(i 0), (i 0), (i 0), (.str (bs [])), (.lst 2 true [])]),
  s 5 (.stB 5 0 5 (t 16) false)])
 (.ops [s 17 (.mv (t 3)),
  s 18 (.ldB 5 0 5 true false),
  s 19 (.bld [(i 0), (i 0), (i 0), (i 0)] []),
  k 20 49 [(t 18), (t 19), (c (.bool true))] .lin,
  s 21 (.app (t 17) (t 20) 2 16),
  s 3 (.mv (t 21))])))
 (.ops [s 22 (.bin .add (t 13) (c (i 1))),
  s 13 (.mv (t 22))])))))))
 (.seq (.ops [s 23 (.mv (t 3)),
  s 2 (.mv (t 23))])
 .ret))))), none, [2], [false]⟩
def i35 : Comp := ⟨(.seq (.ops [s 1 (.box 5 (t 0)),
  s 2 (.mv (c (.bool false)))])
 (.seq (.seq (.ops [s 3 (.mv (c (i 0))),
  s 4 (.ldB 1 0 1 false true),
  k 5 19 [(t 4), (c (i 1)), (c (i 99))] .sc,
  s 6 (.not (t 5)),
  s 7 (.mv (t 6)),
  sg [(7, false)] 8 (.mv (c (i 0))),
  sg [(7, false)] 9 (.ldB 1 2 1 false true),
  kg [(7, false)] 10 19 [(t 9), (c (i 0)), (c (i 9))] .sc,
  sg [(7, false)] 11 (.not (t 10)),
  s 12 (.pick (t 7) (c (.bool true)) (t 11)),
  s 13 (.mv (t 12)),
  sg [(13, false)] 14 (.mv (c (i 0))),
  sg [(13, false)] 15 (.ldB 1 3 1 false true),
  sg [(13, false)] 16 (.bin .neq (t 15) (c (.str (bs [])))),
  sg [(13, false)] 17 (.mv (t 16)),
  sg [(17, true), (13, false)] 18 (.mv (c (i 0))),
  sg [(17, true), (13, false)] 19 (.ldB 1 3 1 false true),
  kg [(17, true), (13, false)] 20 50 [(t 19)] .sc,
  sg [(17, true), (13, false)] 21 (.not (t 20)),
  sg [(13, false)] 22 (.pick (t 17) (t 21) (c (.bool false))),
  s 23 (.pick (t 13) (c (.bool true)) (t 22))])
 (.cond (t 23) (.seq (.ops [s 2 (.mv (c (.bool false)))])
 .ret) .skip))
 (.seq (.seq (.ops [s 24 (.mv (c (i 0))),
  s 25 (.ldB 1 1 1 false true)])
 (.block 0 (.seq (.ops [s 27 (.bin .eql (t 25) (c (i 1))),
  s 26 (.mv (t 27))])
 (.cond (t 26) (.seq (.ops [s 28 (.mv (c (i 0))),
  s 29 (.ldB 1 4 1 false false),
  s 30 (.len false (t 29)),
  s 31 (.bin .eql (t 30) (c (i 1))),
  s 32 (.mv (t 31)),
  sg [(32, true)] 33 (.mv (c (i 0))),
  sg [(32, true)] 34 (.ldB 1 4 1 false false),
  sg [(32, true)] 35 (.idx (t 34) (c (i 0)) 2),
  sg [(32, true)] 36 (.ldE 34 35 0 2 true true 2),
  kg [(32, true)] 37 51 [(t 36)] .sc,
  s 38 (.pick (t 32) (t 37) (c (.bool false))),
  s 2 (.mv (t 38))])
 .ret) (.seq (.ops [s 40 (.bin .eql (t 25) (c (i 2))),
  s 39 (.mv (t 40))])
 (.cond (t 39) (.seq (.ops [s 41 (.mv (c (i 0))),
  s 42 (.ldB 1 4 1 false false),
  k 43 52 [(t 42)] .sc,
  s 2 (.mv (t 43))])
 .ret) (.seq (.ops [s 45 (.bin .eql (t 25) (c (i 3))),
  s 44 (.mv (t 45))])
 (.cond (t 44) (.seq (.ops [s 46 (.mv (c (i 0))),
  s 47 (.ldB 1 4 1 false false),
  k 48 53 [(t 47)] .sc,
  s 2 (.mv (t 48))])
 .ret) .skip))))))))
 (.seq (.ops [s 2 (.mv (c (.bool false)))])
 .ret)))), none, [2], [false]⟩
def i36 : Comp := ⟨(.seq (.ops [s 4 (.mv (c (.bool false)))])
 (.seq (.seq (.ops [s 6 (.mv (t 0)),
  s 7 (.len false (t 6)),
  s 8 (.mv (t 1)),
  s 9 (.len false (t 8)),
  s 10 (.bin .neq (t 7) (t 9))])
 (.cond (t 10) (.seq (.ops [s 4 (.mv (c (.bool false)))])
 .ret) .skip))
 (.seq (.seq (.ops [s 11 (.mv (t 0)),
  s 12 (.len false (t 11)),
  s 13 (.mv (c (i 0)))])
 (.block 0 (.loop (.seq (.ops [s 14 (.bin .lss (t 13) (t 12))])
 (.seq (.cond (t 14) .skip (.exit 0))
 (.seq (.block 1 (.seq (.ops [s 15 (.mv (t 13)),
  s 5 (.mv (t 15))])
 (.seq (.ops [s 16 (.mv (t 0)),
  s 17 (.mv (t 5)),
  s 18 (.idx (t 16) (t 17) 2),
  s 19 (.ldE 16 18 0 2 true true 2),
  s 20 (.mv (t 1)),
  s 21 (.mv (t 5)),
  s 22 (.idx (t 20) (t 21) 2),
  s 23 (.ldE 20 22 0 2 true true 2),
  s 24 (.eqa true [0, 0] (t 19) (t 23))])
 (.cond (t 24) (.seq (.ops [s 4 (.mv (c (.bool false)))])
 .ret) .skip))))
 (.ops [s 25 (.bin .add (t 13) (c (i 1))),
  s 13 (.mv (t 25))])))))))
 (.seq (.ops [s 4 (.mv (c (.bool true)))])
 .ret)))), none, [4], [false, false]⟩
def i37 : Comp := ⟨(.seq (.ops [s 2 (.mv (c (.lst 5 true [])))])
 (.seq (.ops [s 5 (.bsl 5 []),
  s 3 (.mv (t 5))])
 (.seq (.seq (.ops [s 4 (.mv (c (i 0)))])
 (.block 0 (.loop (.seq (.seq (.ops [s 6 (.mv (t 4)),
  s 7 (.mv (t 0)),
  s 8 (.len false (t 7)),
  s 9 (.bin .lss (t 6) (t 8))])
 (.cond (t 9) .skip (.exit 0)))
 (.seq (.block 1 (.ops [s 12 (.mv (t 3)),
  s 13 (.mv (t 0)),
  s 14 (.mv (t 4)),
  s 15 (.idx (t 13) (t 14) 5),
  s 16 (.ldE 13 15 0 5 true false 5),
  k 17 54 [(t 16)] .lin,
  s 18 (.bsl 5 [(t 17)]),
  s 19 (.app (t 12) (t 18) 5 64),
  s 3 (.mv (t 19))]))
 (.ops [s 10 (.mv (t 4)),
  s 11 (.bin .add (t 10) (c (i 1))),
  s 4 (.mv (t 11))]))))))
 (.seq (.ops [s 20 (.mv (t 3)),
  s 2 (.mv (t 20))])
 .ret)))), none, [2], [false]⟩
def i38 : Comp := ⟨(.seq (.ops [s 6 (.mv (c (i 0)))])
 (.seq (.ops [s 10 (.mv (t 0)),
  s 11 (.mv (t 1)),
  s 12 (.bsl 1 [(t 10), (t 11)]),
  s 7 (.mv (t 12))])
 (.seq (.ops [s 13 (.mv (t 2)),
  k 14 55 [(t 13)] .lin,
  s 8 (.mv (t 14))])
 (.seq (.seq (.ops [s 9 (.mv (c (i 0)))])
 (.block 0 (.loop (.seq (.seq (.ops [s 15 (.mv (t 9)),
  s 16 (.mv (t 8)),
  s 17 (.len false (t 16)),
  s 18 (.bin .lss (t 15) (t 17))])
 (.cond (t 18) .skip (.exit 0)))
 (.seq (.block 1 (.ops [s 21 (.mv (t 7)),
  s 22 (.mv (t 2)),
  s 23 (.mv (t 2)),
  s 24 (.mv (t 8)),
  s 25 (.mv (t 9)),
  s 26 (.idx (t 24) (t 25) 2),
  s 27 (.mv (t 26)),
  s 28 (.ldE 24 27 0 1 false true 2),
  k 29 57 [(t 23), (t 28)] .sc,
  s 30 (.idx (t 22) (t 29) 5),
  s 31 (.ldE 22 30 0 5 true false 5),
  s 32 (.mv (t 8)),
  s 33 (.mv (t 9)),
  s 34 (.idx (t 32) (t 33) 2),
  s 35 (.mv (t 34)),
  s 36 (.ldE 32 35 1 1 false true 2),
  k 37 56 [(t 31), (t 36)] .sc,
  s 38 (.bsl 1 [(t 37)]),
  s 39 (.app (t 21) (t 38) 1 8),
  s 7 (.mv (t 39))]))
 (.ops [s 19 (.mv (t 9)),
  s 20 (.bin .add (t 19) (c (i 1))),
  s 9 (.mv (t 20))]))))))
 (.seq (.ops [s 40 (.mv (t 7)),
  k 41 58 [(t 40)] .sc,
  s 6 (.mv (t 41))])
 .ret))))), none, [6], [true, true, false]⟩
def i39 : Comp := ⟨(.seq (.ops [s 2 (.mv (c (.bool false)))])
 (.seq (.ops [s 3 (.mv (c (i 0)))])
 (.seq (.seq (.ops [s 4 (.mv (c (i 0)))])
 (.block 0 (.loop (.seq (.seq (.ops [s 5 (.mv (t 4)),
  s 6 (.mv (t 0)),
  s 7 (.len false (t 6)),
  s 8 (.bin .lss (t 5) (t 7)),
  s 9 (.mv (t 8)),
  sg [(9, true)] 10 (.mv (t 0)),
  sg [(9, true)] 11 (.len false (t 10)),
  sg [(9, true)] 12 (.bin .leq (t 11) (c (i 6))),
  s 13 (.pick (t 9) (t 12) (c (.bool false)))])
 (.cond (t 13) .skip (.exit 0)))
 (.seq (.block 1 (.seq (.ops [s 16 (.mv (t 3)),
  s 17 (.mv (t 0)),
  s 18 (.mv (t 4)),
  s 19 (.idx (t 17) (t 18) 3),
  s 20 (.mv (t 19)),
  s 21 (.ldE 17 20 0 1 false true 3),
  s 22 (.mv (t 0)),
  s 23 (.mv (t 4)),
  s 24 (.idx (t 22) (t 23) 3),
  s 25 (.mv (t 24)),
  s 26 (.ldE 22 25 1 1 false false 3),
  k 27 38 [(t 16), (t 21), (t 26)] .sc,
  s 3 (.mv (t 27))])
 (.seq (.ops [s 28 (.mv (t 0)),
  s 29 (.mv (t 4)),
  s 30 (.idx (t 28) (t 29) 3),
  s 31 (.mv (t 30)),
  s 32 (.ldE 28 31 0 1 false true 3),
  k 33 59 [(t 32), (c (i 0)), (c (i 100000))] .sc,
  s 34 (.not (t 33)),
  s 35 (.mv (t 34)),
  sg [(35, false)] 36 (.mv (t 0)),
  sg [(35, false)] 37 (.mv (t 4)),
  sg [(35, false)] 38 (.idx (t 36) (t 37) 3),
  sg [(35, false)] 39 (.mv (t 38)),
  sg [(35, false)] 40 (.ldE 36 39 1 1 false false 3),
  kg [(35, false)] 41 60 [(t 40)] .sc,
  sg [(35, false)] 42 (.not (t 41)),
  s 43 (.pick (t 35) (c (.bool true)) (t 42)),
  s 44 (.mv (t 43)),
  sg [(44, false)] 45 (.mv (t 0)),
  sg [(44, false)] 46 (.mv (t 4)),
  sg [(44, false)] 47 (.idx (t 45) (t 46) 3),
  sg [(44, false)] 48 (.mv (t 47)),
  sg [(44, false)] 49 (.ldE 45 48 2 1 false true 3),
  sg [(44, false)] 50 (.mv (t 3)),
  sg [(44, false)] 51 (.bin .neq (t 49) (t 50)),
  s 52 (.pick (t 44) (c (.bool true)) (t 51)),
  s 53 (.mv (t 52)),
  sg [(53, false)] 54 (.mv (t 4)),
  sg [(53, false)] 55 (.bin .gtr (t 54) (c (i 0))),
  sg [(53, false)] 56 (.mv (t 55)),
  sg [(56, true), (53, false)] 57 (.mv (t 0)),
  sg [(56, true), (53, false)] 58 (.mv (t 4)),
  sg [(56, true), (53, false)] 59 (.bin .sub (t 58) (c (i 1))),
  sg [(56, true), (53, false)] 60 (.idx (t 57) (t 59) 3),
  sg [(56, true), (53, false)] 61 (.mv (t 60)),
  sg [(56, true), (53, false)] 62 (.ldE 57 61 0 1 false true 3),
  sg [(56, true), (53, false)] 63 (.mv (t 0)),
  sg [(56, true), (53, false)] 64 (.mv (t 4)),
  sg [(56, true), (53, false)] 65 (.idx (t 63) (t 64) 3),
  sg [(56, true), (53, false)] 66 (.mv (t 65)),
  sg [(56, true), (53, false)] 67 (.ldE 63 66 0 1 false true 3),
  sg [(56, true), (53, false)] 68 (.bin .geq (t 62) (t 67)),
  sg [(53, false)] 69 (.pick (t 56) (t 68) (c (.bool false))),
  s 70 (.pick (t 53) (c (.bool true)) (t 69))])
 (.cond (t 70) (.seq (.ops [s 2 (.mv (c (.bool false)))])
 .ret) .skip))))
 (.ops [s 14 (.mv (t 4)),
  s 15 (.bin .add (t 14) (c (i 1))),
  s 4 (.mv (t 15))]))))))
 (.seq (.ops [s 71 (.mv (t 0)),
  s 72 (.len false (t 71)),
  s 73 (.bin .leq (t 72) (c (i 6))),
  s 2 (.mv (t 73))])
 .ret)))), none, [2], [false]⟩
def i40 : Comp := ⟨(.seq (.ops [s 3 (.box 5 (t 1)),
  s 4 (.mv (c (.lst 5 true []))),
  s 5 (.mv (c (.bool false)))])
 (.seq (.ops [s 6 (.mv (c (i 0)))])
 (.seq (.block 0 (.loop (.seq (.seq (.ops [s 9 (.mv (t 6)),
  s 10 (.mv (t 0)),
  s 11 (.len false (t 10)),
  s 12 (.bin .lss (t 9) (t 11)),
  s 13 (.mv (t 12)),
  sg [(13, true)] 14 (.mv (t 0)),
  sg [(13, true)] 15 (.mv (t 6)),
  sg [(13, true)] 16 (.idx (t 14) (t 15) 5),
  sg [(13, true)] 17 (.mv (t 16)),
  sg [(13, true)] 18 (.ldE 14 17 0 1 false true 5),
  sg [(13, true)] 19 (.mv (c (i 0))),
  sg [(13, true)] 20 (.ldB 3 0 1 false true),
  sg [(13, true)] 21 (.bin .lss (t 18) (t 20)),
  s 22 (.pick (t 13) (t 21) (c (.bool false)))])
 (.cond (t 22) .skip (.exit 0)))
 (.block 1 (.ops [s 23 (.mv (t 6)),
  s 24 (.bin .add (t 23) (c (i 1))),
  s 6 (.mv (t 24))])))))
 (.seq (.ops [s 25 (.mv (t 0)),
  s 26 (.mv (t 6)),
  s 27 (.sl 5 (t 25) (some (t 26)) none),
  s 7 (.mv (t 27))])
 (.seq (.seq (.ops [s 28 (.mv (t 7)),
  s 29 (.len false (t 28)),
  s 30 (.bin .gtr (t 29) (c (i 0))),
  s 31 (.mv (t 30)),
  sg [(31, true)] 32 (.mv (t 7)),
  sg [(31, true)] 33 (.idx (t 32) (c (i 0)) 5),
  sg [(31, true)] 34 (.mv (t 33)),
  sg [(31, true)] 35 (.ldE 32 34 0 1 false true 5),
  sg [(31, true)] 36 (.mv (c (i 0))),
  sg [(31, true)] 37 (.ldB 3 0 1 false true),
  sg [(31, true)] 38 (.bin .eql (t 35) (t 37)),
  s 39 (.pick (t 31) (t 38) (c (.bool false)))])
 (.cond (t 39) (.ops [s 40 (.mv (t 7)),
  s 41 (.sl 5 (t 40) (some (c (i 1))) none),
  s 7 (.mv (t 41))]) .skip))
 (.seq (.ops [s 42 (.mv (t 0)),
  s 43 (.mv (t 6)),
  s 44 (.sl 5 (t 42) none (some (t 43))),
  k 45 37 [(t 44)] .lin,
  s 46 (.ldB 3 0 5 true false),
  k 47 54 [(t 46)] .lin,
  s 48 (.bsl 5 [(t 47)]),
  s 49 (.app (t 45) (t 48) 5 64),
  s 50 (.mv (t 7)),
  k 51 37 [(t 50)] .lin,
  s 52 (.app (t 49) (t 51) 5 64),
  s 8 (.mv (t 52))])
 (.seq (.seq (.ops [s 53 (.mv (t 8)),
  k 54 60 [(t 53)] .sc,
  s 55 (.not (t 54))])
 (.cond (t 55) (.seq (.ops [s 56 (.mv (t 0)),
  k 57 37 [(t 56)] .lin,
  s 4 (.mv (t 57)),
  s 5 (.mv (c (.bool false)))])
 .ret) .skip))
 (.seq (.ops [s 58 (.mv (t 8)),
  s 4 (.mv (t 58)),
  s 5 (.mv (c (.bool true)))])
 .ret)))))))), none, [4, 5], [false, false]⟩
def i41 : Comp := ⟨(.seq (.ops [s 4 (.alc [(i 0), (i 0), (i 0), (.str (bs [])), (.lst 2 true [])])])
 (.seq (.seq (.ops [s 6 (.mv (t 1)),
  s 7 (.mv (c .junk))])
 (.seq (opC 8 28 0 [(c (i 3))] .sc)
 (.seq (.ops [s 9 (.bin .add (c (i 1)) (t 8)),
  s 10 (.mv (c .junk))])
 (.seq (opC 11 28 0 [(c (i 6))] .sc)
 (.seq (.ops [s 12 (.mv (c .junk))])
 (.seq (opC 13 61 0 [] .sc)
 (.ops [s 14 (.bld [(i 0), (i 0), (i 0), (.str (bs [])), (.lst 2 true [])] [(0, 1, (t 6)), (1, 1, (t 9)), (2, 1, (t 11)), (3, 1, (t 13))]),
  s 5 (.alc [(i 0), (i 0), (i 0), (.str (bs [])), (.lst 2 true [])]),
  s 5 (.stB 5 0 5 (t 14) false)])))))))
 (.seq (.seq (.ops [s 15 (.mv (c (i 0))),
  s 16 (.ldB 5 1 1 false true)])
 (.block 0 (.seq (.ops [s 21 (.bin .eql (t 16) (c (i 1))),
  s 20 (.mv (t 21))])
 (.cond (t 20) (.seq (.ops [s 22 (.mv (c .junk))])
 (.seq (opC 23 62 0 [] .sc)
 (.ops [s 24 (.bsl 2 [(t 23)]),
  s 25 (.mv (c (i 0))),
  s 5 (.stB 5 4 1 (t 24) false)]))) (.seq (.ops [s 27 (.bin .eql (t 16) (c (i 2))),
  s 26 (.mv (t 27))])
 (.cond (t 26) (.seq (.ops [s 28 (.mv (c .junk))])
 (.seq (opC 29 43 0 [] .lin)
 (.ops [s 30 (.mv (c (i 0))),
  s 5 (.stB 5 4 1 (t 29) false)]))) (.seq (.ops [s 17 (.mv (c .junk))])
 (.seq (opC 18 63 0 [] .lin)
 (.ops [s 19 (.mv (c (i 0))),
  s 5 (.stB 5 4 1 (t 18) false)])))))))))
 (.seq (.ops [s 31 (.ldB 5 0 5 true false),
  s 4 (.stB 4 0 5 (t 31) false)])
 .ret)))), (some ⟨4, 53, 5, true⟩), [], [true]⟩
def i43 : Comp := ⟨(.seq (.ops [s 2 (.mv (c (.lst 2 true [])))])
 (.seq (.seq (.ops [s 7 (.mv (c .junk))])
 (.seq (opC 8 62 0 [] .sc)
 (.ops [s 9 (.bsl 2 [(t 8)]),
  s 3 (.mv (t 9))])))
 (.seq (.seq (.seq (.ops [s 10 (.mv (c .junk))])
 (.seq (opC 11 28 0 [(c (i 5))] .sc)
 (.ops [s 12 (.bin .add (c (i 1)) (t 11)),
  s 4 (.mv (t 12))])))
 (.block 0 (.loop (.seq (.seq (.ops [s 13 (.mv (t 4)),
  s 14 (.bin .gtr (t 13) (c (i 0)))])
 (.cond (t 14) .skip (.exit 0)))
 (.seq (.block 1 (.seq (.ops [s 17 (.mv (t 3)),
  s 18 (.mv (t 3)),
  s 19 (.len false (t 18)),
  s 20 (.bin .sub (t 19) (c (i 1))),
  s 21 (.idx (t 17) (t 20) 2),
  s 22 (.ldE 17 21 0 2 true true 2),
  s 5 (.alc [(i 0), (i 0)]),
  s 5 (.stB 5 0 2 (t 22) false)])
 (.seq (.seq (.ops [s 23 (.mv (c .junk)),
  s 25 (.mv (c (i 0))),
  s 26 (.ldB 5 1 1 false true),
  s 27 (.mv (c .junk)),
  s 6 (.alc [(i 0), (i 0)])])
 (.seq (opC 24 28 0 [(c (i 14))] .sc)
 (.seq (.ops [])
 (.seq (opC 28 28 0 [(c (i 4))] .sc)
 (.ops [s 29 (.bin .add (t 26) (t 28)),
  k 30 64 [(c (i 200)), (t 29)] .sc,
  s 31 (.bld [(i 0), (i 0)] [(0, 1, (t 24)), (1, 1, (t 30))]),
  s 6 (.stB 6 0 2 (t 31) false)])))))
 (.seq (.seq (.ops [s 32 (.ldB 6 0 2 true true),
  s 33 (.ldB 5 0 2 true true),
  s 34 (.eqa false [0, 0] (t 32) (t 33))])
 (.cond (t 34) (.ops [s 35 (.mv (c (i 0))),
  s 36 (.ldB 6 0 1 false true),
  s 37 (.bin .add (t 36) (c (i 1))),
  s 38 (.mv (c (i 0))),
  s 6 (.stB 6 0 1 (t 37) false)]) .skip))
 (.ops [s 39 (.mv (t 3)),
  s 40 (.ldB 6 0 2 true true),
  s 41 (.bsl 2 [(t 40)]),
  s 42 (.app (t 39) (t 41) 2 16),
  s 3 (.mv (t 42))])))))
 (.ops [s 15 (.mv (t 4)),
  s 16 (.bin .sub (t 15) (c (i 1))),
  s 4 (.mv (t 16))]))))))
 (.seq (.ops [s 43 (.mv (t 3)),
  s 2 (.mv (t 43))])
 .ret)))), none, [2], []⟩
def i44 : Comp := ⟨(.seq (.ops [s 2 (.alc [(i 0), (i 0)])])
 (.seq (.seq (.ops [s 4 (.mv (c .junk))])
 (.seq (opC 5 62 0 [] .sc)
 (.ops [s 3 (.alc [(i 0), (i 0)]),
  s 3 (.stB 3 0 2 (t 5) false)])))
 (.seq (.seq (.seq (.ops [s 6 (.mv (c .junk))])
 (.seq (opC 7 28 0 [(c (i 12))] .sc)
 (.ops [])))
 (.block 0 (.seq (.ops [s 9 (.bin .eql (t 7) (c (i 0))),
  s 8 (.mv (t 9))])
 (.cond (t 8) (.seq (.ops [s 10 (.mv (c .junk))])
 (.seq (opC 11 65 0 [] .sc)
 (.ops [s 12 (.mv (c (i 0))),
  s 3 (.stB 3 0 1 (t 11) false)]))) (.seq (.ops [s 14 (.bin .eql (t 7) (c (i 1))),
  s 13 (.mv (t 14))])
 (.cond (t 13) (.seq (.ops [s 15 (.mv (c .junk))])
 (.seq (opC 16 65 0 [] .sc)
 (.ops [s 17 (.mv (c (i 0))),
  s 3 (.stB 3 1 1 (t 16) false)]))) .skip))))))
 (.seq (.ops [s 18 (.ldB 3 0 2 true true),
  s 2 (.stB 2 0 2 (t 18) false)])
 .ret)))), (some ⟨2, 70, 2, true⟩), [], []⟩
def i45 : Comp := ⟨(.seq (.ops [s 2 (.mv (c (.lst 2 true [])))])
 (.seq (.seq (.ops [s 3 (.mv (t 0)),
  s 4 (.isn false (t 3))])
 (.cond (t 4) (.seq (.ops [s 2 (.mv (c (.lst 2 true [])))])
 .ret) .skip))
 (.seq (.ops [s 5 (.bsl 2 []),
  s 6 (.mv (t 0)),
  s 7 (.apf (t 5) (t 6) 2 16),
  s 2 (.mv (t 7))])
 .ret))), none, [2], [false]⟩
def i46 : Comp := ⟨(.seq (.ops [s 4 (.mv (c (i 0)))])
 (.seq (.ops [s 5 (.mv (t 0)),
  s 6 (.bin .mul (t 5) (c (i 1000003))),
  s 7 (.mv (t 1)),
  k 8 66 [(t 7), (c (i 2147483647))] .sc,
  s 9 (.bin .add (t 6) (t 8)),
  s 10 (.bin .add (t 9) (c (i 13))),
  s 11 (.bin .rem (t 10) (c (i 2147483647))),
  s 4 (.mv (t 11))])
 .ret)), none, [4], [true, true]⟩
def i47 : Comp := ⟨(.seq (.ops [s 2 (.box 5 (t 0)),
  s 4 (.mv (c (i 0)))])
 (.seq (.seq (.ops [s 9 (.ldB 2 0 5 true false),
  k 10 35 [(t 9)] .sc,
  s 11 (.not (t 10))])
 (.cond (t 11) (.seq (.ops [s 4 (.mv (c (i 0)))])
 .ret) .skip))
 (.seq (.ops [s 12 (.mv (c (i 0))),
  s 13 (.ldB 2 0 1 false true),
  s 14 (.mv (c (i 0))),
  s 15 (.ldB 2 1 1 false true),
  s 16 (.mv (c (i 0))),
  s 17 (.ldB 2 2 1 false true),
  s 18 (.mv (c (i 0))),
  s 19 (.ldB 2 3 1 false true),
  s 20 (.len true (t 19)),
  s 21 (.bsl 1 [(t 13), (t 15), (t 17), (t 20)]),
  s 5 (.mv (t 21))])
 (.seq (.seq (.ops [s 22 (.mv (c (i 0))),
  s 23 (.ldB 2 3 1 false true),
  s 24 (.len true (t 23)),
  s 25 (.mv (c (i 0)))])
 (.block 0 (.loop (.seq (.ops [s 26 (.bin .lss (t 25) (t 24))])
 (.seq (.cond (t 26) .skip (.exit 0))
 (.seq (.block 1 (.seq (.ops [s 27 (.mv (t 25)),
  s 6 (.mv (t 27))])
 (.ops [s 28 (.mv (t 5)),
  s 29 (.mv (c (i 0))),
  s 30 (.ldB 2 3 1 false true),
  s 31 (.mv (t 6)),
  s 32 (.six (t 30) (t 31)),
  s 33 (.conv .i64 (t 32)),
  s 34 (.bsl 1 [(t 33)]),
  s 35 (.app (t 28) (t 34) 1 8),
  s 5 (.mv (t 35))])))
 (.ops [s 36 (.bin .add (t 25) (c (i 1))),
  s 25 (.mv (t 36))])))))))
 (.seq (.ops [s 37 (.mv (t 5)),
  s 38 (.mv (t 1)),
  s 39 (.bsl 1 [(t 38)]),
  s 40 (.app (t 37) (t 39) 1 8),
  s 5 (.mv (t 40))])
 (.seq (.seq (.ops [s 41 (.mv (c (i 0))),
  s 42 (.ldB 2 1 1 false true),
  s 43 (.bin .eql (t 42) (c (i 1)))])
 (.cond (t 43) (.seq (.seq (.ops [s 44 (.mv (t 1)),
  s 45 (.bin .neq (t 44) (c (i 0)))])
 (.cond (t 45) (.seq (.ops [s 4 (.mv (c (i 0)))])
 .ret) .skip))
 (.seq (.ops [s 46 (.mv (t 5)),
  s 47 (.mv (c (i 0))),
  s 48 (.ldB 2 4 1 false false),
  s 49 (.idx (t 48) (c (i 0)) 2),
  s 50 (.mv (t 49)),
  s 51 (.ldE 48 50 0 1 false true 2),
  s 52 (.mv (c (i 0))),
  s 53 (.ldB 2 4 1 false false),
  s 54 (.idx (t 53) (c (i 0)) 2),
  s 55 (.mv (t 54)),
  s 56 (.ldE 53 55 1 1 false true 2),
  s 57 (.bsl 1 [(t 51), (t 56)]),
  s 58 (.app (t 46) (t 57) 1 8),
  k 59 32 [(t 58)] .sc,
  s 4 (.mv (t 59))])
 .ret)) .skip))
 (.seq (.ops [s 60 (.ldB 2 0 5 true false),
  k 61 67 [(t 60)] .lin,
  s 7 (.mv (t 61))])
 (.seq (.seq (.ops [s 62 (.mv (t 1)),
  s 63 (.bin .lss (t 62) (c (i 0))),
  s 64 (.mv (t 63)),
  sg [(64, false)] 65 (.mv (t 1)),
  sg [(64, false)] 66 (.mv (t 7)),
  sg [(64, false)] 67 (.len false (t 66)),
  sg [(64, false)] 68 (.bin .geq (t 65) (t 67)),
  s 69 (.pick (t 64) (c (.bool true)) (t 68))])
 (.cond (t 69) (.seq (.ops [s 4 (.mv (c (i 0)))])
 .ret) .skip))
 (.seq (.ops [s 70 (.mv (t 7)),
  s 71 (.mv (t 1)),
  s 72 (.idx (t 70) (t 71) 4),
  s 73 (.ldE 70 72 0 4 true true 4),
  s 8 (.alc [(i 0), (i 0), (i 0), (i 0)]),
  s 8 (.stB 8 0 4 (t 73) false)])
 (.seq (.ops [s 74 (.mv (t 5)),
  s 75 (.mv (c (i 0))),
  s 76 (.mv (t 75)),
  s 77 (.ldB 8 0 1 false true),
  s 78 (.mv (c (i 0))),
  s 79 (.mv (t 78)),
  s 80 (.ldB 8 1 1 false true),
  s 81 (.mv (c (i 0))),
  s 82 (.mv (t 81)),
  s 83 (.ldB 8 2 1 false true),
  s 84 (.mv (c (i 0))),
  s 85 (.mv (t 84)),
  s 86 (.ldB 8 3 1 false true),
  s 87 (.bsl 1 [(t 77), (t 80), (t 83), (t 86)]),
  s 88 (.app (t 74) (t 87) 1 8),
  k 89 32 [(t 88)] .sc,
  s 4 (.mv (t 89))])
 .ret)))))))))), none, [4], [false, true]⟩
def i48 : Comp := ⟨(.seq (.ops [s 3 (.box 1 (t 1)),
  s 4 (.mv (c (i 0)))])
 (.seq (.ops [s 5 (.mv (t 0)),
  s 6 (.mkf 69 [(t 3)]),
  k 7 68 [(t 5), (t 6)] .sc,
  s 4 (.mv (t 7))])
 .ret)), none, [4], [false, true]⟩
def i49 : Comp := ⟨(.seq (.ops [s 3 (.box 5 (t 0)),
  s 4 (.box 4 (t 1)),
  s 6 (.mv (c (.lst 2 true [])))])
 (.seq (.ops [s 10 (.bsl 2 []),
  s 7 (.mv (t 10))])
 (.seq (.seq (.ops [s 11 (.mv (c (i 0))),
  s 12 (.ldB 3 1 1 false true),
  s 13 (.bin .eql (t 12) (c (i 1))),
  s 14 (.mv (t 13)),
  sg [(14, true)] 15 (.mv (t 2)),
  sg [(14, true)] 16 (.mv (t 15)),
  sg [(16, false), (14, true)] 17 (.ldB 4 0 4 true true),
  sg [(16, false), (14, true)] 18 (.mv (c (i 0))),
  sg [(16, false), (14, true)] 19 (.ldB 3 4 1 false false),
  sg [(16, false), (14, true)] 20 (.idx (t 19) (c (i 0)) 2),
  sg [(16, false), (14, true)] 21 (.ldE 19 20 0 2 true true 2),
  kg [(16, false), (14, true)] 22 70 [(t 17), (t 21)] .sc,
  sg [(14, true)] 23 (.pick (t 16) (c (.bool true)) (t 22)),
  s 24 (.pick (t 14) (t 23) (c (.bool false)))])
 (.cond (t 24) (.ops [s 25 (.mv (t 7)),
  s 26 (.mv (c (i 0))),
  s 27 (.ldB 3 0 1 false true),
  s 28 (.bld [(i 0), (i 0)] [(0, 1, (t 27)), (1, 1, (c (i 0)))]),
  s 29 (.bsl 2 [(t 28)]),
  s 30 (.app (t 25) (t 29) 2 16),
  s 7 (.mv (t 30))]) .skip))
 (.seq (.seq (.ops [s 31 (.ldB 3 0 5 true false),
  k 32 67 [(t 31)] .lin,
  s 33 (.len false (t 32)),
  s 34 (.mv (c (i 0)))])
 (.block 0 (.loop (.seq (.ops [s 35 (.bin .lss (t 34) (t 33))])
 (.seq (.cond (t 35) .skip (.exit 0))
 (.seq (.block 1 (.seq (.ops [s 36 (.mv (t 34)),
  s 37 (.idx (t 32) (t 34) 4),
  s 38 (.ldE 32 37 0 4 true true 4),
  s 9 (.alc [(i 0), (i 0), (i 0), (i 0)]),
  s 8 (.mv (t 36)),
  s 9 (.stB 9 0 4 (t 38) false)])
 (.seq (.ops [s 39 (.mv (t 2)),
  s 40 (.mv (t 39)),
  sg [(40, false)] 41 (.ldB 9 0 4 true true),
  sg [(40, false)] 42 (.ldB 4 0 4 true true),
  kg [(40, false)] 43 71 [(t 41), (t 42)] .sc,
  s 44 (.pick (t 40) (c (.bool true)) (t 43))])
 (.cond (t 44) (.ops [s 45 (.mv (t 7)),
  s 46 (.mv (c (i 0))),
  s 47 (.ldB 3 0 1 false true),
  s 48 (.mv (t 8)),
  s 49 (.bld [(i 0), (i 0)] [(0, 1, (t 47)), (1, 1, (t 48))]),
  s 50 (.bsl 2 [(t 49)]),
  s 51 (.app (t 45) (t 50) 2 16),
  s 7 (.mv (t 51))]) .skip))))
 (.ops [s 52 (.bin .add (t 34) (c (i 1))),
  s 34 (.mv (t 52))])))))))
 (.seq (.ops [s 53 (.mv (t 7)),
  s 6 (.mv (t 53))])
 .ret))))), none, [6], [false, true, true]⟩
def i50 : Comp := ⟨(.seq (.ops [s 2 (.mv (c (.bool false)))])
 (.seq (.seq (.ops [s 4 (.mv (t 0)),
  s 5 (.len true (t 4)),
  s 6 (.mv (c (i 0)))])
 (.block 0 (.loop (.seq (.ops [s 7 (.bin .lss (t 6) (t 5))])
 (.seq (.cond (t 7) .skip (.exit 0))
 (.seq (.block 1 (.seq (.ops [s 8 (.mv (t 6)),
  s 3 (.mv (t 8))])
 (.seq (.ops [s 9 (.mv (t 0)),
  s 10 (.mv (t 3)),
  s 11 (.six (t 9) (t 10)),
  s 12 (.bin .lss (t 11) (c (.int .u8 (97)))),
  s 13 (.mv (t 12)),
  sg [(13, false)] 14 (.mv (t 0)),
  sg [(13, false)] 15 (.mv (t 3)),
  sg [(13, false)] 16 (.six (t 14) (t 15)),
  sg [(13, false)] 17 (.bin .gtr (t 16) (c (.int .u8 (122)))),
  s 18 (.pick (t 13) (c (.bool true)) (t 17))])
 (.cond (t 18) (.seq (.ops [s 2 (.mv (c (.bool false)))])
 .ret) .skip))))
 (.ops [s 19 (.bin .add (t 6) (c (i 1))),
  s 6 (.mv (t 19))])))))))
 (.seq (.ops [s 20 (.mv (t 0)),
  s 21 (.len true (t 20)),
  k 22 19 [(t 21), (c (i 1)), (c (i 8))] .sc,
  s 2 (.mv (t 22))])
 .ret))), none, [2], [true]⟩
def i51 : Comp := ⟨(.seq (.ops [s 1 (.box 2 (t 0)),
  s 2 (.mv (c (.bool false)))])
 (.seq (.ops [s 3 (.mv (c (i 0))),
  s 4 (.ldB 1 0 1 false true),
  k 5 19 [(t 4), (c (i 0)), (c (i 200))] .sc,
  s 6 (.mv (t 5)),
  sg [(6, true)] 7 (.mv (c (i 0))),
  sg [(6, true)] 8 (.ldB 1 1 1 false true),
  kg [(6, true)] 9 19 [(t 8), (c (i 0)), (c (i 200))] .sc,
  s 10 (.pick (t 6) (t 9) (c (.bool false))),
  s 2 (.mv (t 10))])
 .ret)), none, [2], [true]⟩
def i52 : Comp := ⟨(.seq (.ops [s 2 (.mv (c (.bool false)))])
 (.seq (.seq (.ops [s 7 (.mv (t 0)),
  k 8 72 [(t 7)] .sc,
  s 9 (.not (t 8))])
 (.cond (t 9) (.seq (.ops [s 2 (.mv (c (.bool false)))])
 .ret) .skip))
 (.seq (.ops [s 10 (.mv (t 0)),
  k 11 73 [(t 10)] .lin,
  s 3 (.mv (t 11))])
 (.seq (.seq (.ops [s 12 (.mv (t 3)),
  s 13 (.len false (t 12)),
  s 14 (.mv (c (i 0)))])
 (.block 0 (.loop (.seq (.ops [s 15 (.bin .lss (t 14) (t 13))])
 (.seq (.cond (t 15) .skip (.exit 0))
 (.seq (.block 1 (.seq (.ops [s 16 (.mv (t 14)),
  s 4 (.mv (t 16))])
 (.seq (.ops [s 17 (.mv (t 4)),
  s 18 (.mv (c (i 0)))])
 (.block 2 (.loop (.seq (.ops [s 19 (.bin .lss (t 18) (t 17))])
 (.seq (.cond (t 19) .skip (.exit 2))
 (.seq (.block 3 (.seq (.ops [s 20 (.mv (t 18)),
  s 5 (.mv (t 20))])
 (.seq (.ops [s 6 (.mv (c (i 0)))])
 (.seq (.seq (.ops [s 21 (.mv (t 5)),
  s 22 (.mv (t 4)),
  s 23 (.bin .sub (t 22) (c (i 1))),
  s 24 (.bin .eql (t 21) (t 23))])
 (.cond (t 24) (.ops [s 6 (.mv (c (i 1)))]) .skip))
 (.seq (.ops [s 25 (.mv (t 3)),
  s 26 (.mv (t 4)),
  s 27 (.idx (t 25) (t 26) 4),
  s 28 (.ldE 25 27 0 4 true true 4),
  s 29 (.mv (t 3)),
  s 30 (.mv (t 5)),
  s 31 (.idx (t 29) (t 30) 4),
  s 32 (.ldE 29 31 0 4 true true 4),
  k 33 74 [(t 28), (t 32)] .sc,
  s 34 (.mv (t 6)),
  s 35 (.bin .neq (t 33) (t 34))])
 (.cond (t 35) (.seq (.ops [s 2 (.mv (c (.bool false)))])
 .ret) .skip))))))
 (.ops [s 36 (.bin .add (t 18) (c (i 1))),
  s 18 (.mv (t 36))])))))))))
 (.ops [s 37 (.bin .add (t 14) (c (i 1))),
  s 14 (.mv (t 37))])))))))
 (.seq (.ops [s 2 (.mv (c (.bool true)))])
 .ret))))), none, [2], [false]⟩
def i53 : Comp := ⟨(.seq (.ops [s 2 (.mv (c (.bool false)))])
 (.seq (.seq (.ops [s 7 (.mv (t 0)),
  s 8 (.len false (t 7)),
  s 9 (.bin .lss (t 8) (c (i 3))),
  s 10 (.mv (t 9)),
  sg [(10, false)] 11 (.mv (t 0)),
  sg [(10, false)] 12 (.len false (t 11)),
  sg [(10, false)] 13 (.bin .gtr (t 12) (c (i 10))),
  s 14 (.pick (t 10) (c (.bool true)) (t 13))])
 (.cond (t 14) (.seq (.ops [s 2 (.mv (c (.bool false)))])
 .ret) .skip))
 (.seq (.ops [s 15 (.mv (t 0)),
  k 16 75 [(t 15)] .lin,
  s 3 (.mv (t 16))])
 (.seq (.seq (.ops [s 17 (.mv (t 3)),
  s 18 (.len false (t 17)),
  s 19 (.mv (c (i 0)))])
 (.block 0 (.loop (.seq (.ops [s 20 (.bin .lss (t 19) (t 18))])
 (.seq (.cond (t 20) .skip (.exit 0))
 (.seq (.block 1 (.seq (.ops [s 21 (.mv (t 19)),
  s 4 (.mv (t 21))])
 (.seq (.seq (.ops [s 22 (.mv (t 3)),
  s 23 (.mv (t 4)),
  s 24 (.idx (t 22) (t 23) 4),
  s 25 (.ldE 22 24 0 4 true true 4),
  k 26 76 [(t 25)] .sc,
  s 27 (.not (t 26))])
 (.cond (t 27) (.seq (.ops [s 2 (.mv (c (.bool false)))])
 .ret) .skip))
 (.seq (.ops [s 28 (.mv (t 4)),
  s 29 (.mv (c (i 0)))])
 (.block 2 (.loop (.seq (.ops [s 30 (.bin .lss (t 29) (t 28))])
 (.seq (.cond (t 30) .skip (.exit 2))
 (.seq (.block 3 (.seq (.ops [s 31 (.mv (t 29)),
  s 5 (.mv (t 31))])
 (.seq (.ops [s 6 (.mv (c (i 0)))])
 (.seq (.seq (.ops [s 32 (.mv (t 5)),
  s 33 (.mv (t 4)),
  s 34 (.bin .sub (t 33) (c (i 1))),
  s 35 (.bin .eql (t 32) (t 34)),
  s 36 (.mv (t 35)),
  sg [(36, false)] 37 (.mv (t 5)),
  sg [(36, false)] 38 (.bin .eql (t 37) (c (i 0))),
  sg [(36, false)] 39 (.mv (t 38)),
  sg [(39, true), (36, false)] 40 (.mv (t 4)),
  sg [(39, true), (36, false)] 41 (.mv (t 3)),
  sg [(39, true), (36, false)] 42 (.len false (t 41)),
  sg [(39, true), (36, false)] 43 (.bin .sub (t 42) (c (i 1))),
  sg [(39, true), (36, false)] 44 (.bin .eql (t 40) (t 43)),
  sg [(36, false)] 45 (.pick (t 39) (t 44) (c (.bool false))),
  s 46 (.pick (t 36) (c (.bool true)) (t 45))])
 (.cond (t 46) (.ops [s 6 (.mv (c (i 1)))]) .skip))
 (.seq (.ops [s 47 (.mv (t 3)),
  s 48 (.mv (t 4)),
  s 49 (.idx (t 47) (t 48) 4),
  s 50 (.ldE 47 49 0 4 true true 4),
  s 51 (.mv (t 3)),
  s 52 (.mv (t 5)),
  s 53 (.idx (t 51) (t 52) 4),
  s 54 (.ldE 51 53 0 4 true true 4),
  k 55 74 [(t 50), (t 54)] .sc,
  s 56 (.mv (t 6)),
  s 57 (.bin .neq (t 55) (t 56))])
 (.cond (t 57) (.seq (.ops [s 2 (.mv (c (.bool false)))])
 .ret) .skip))))))
 (.ops [s 58 (.bin .add (t 29) (c (i 1))),
  s 29 (.mv (t 58))]))))))))))
 (.ops [s 59 (.bin .add (t 19) (c (i 1))),
  s 19 (.mv (t 59))])))))))
 (.seq (.ops [s 2 (.mv (c (.bool true)))])
 .ret))))), none, [2], [false]⟩
def i54 : Comp := ⟨(.seq (.ops [s 1 (.box 5 (t 0)),
  s 2 (.alc [(i 0), (i 0), (i 0), (.str (bs [])), (.lst 2 true [])])])
 (.seq (.ops [s 3 (.bsl 2 []),
  s 4 (.mv (c (i 0))),
  s 5 (.ldB 1 4 1 false false),
  s 6 (.apf (t 3) (t 5) 2 16),
  s 7 (.mv (c (i 0))),
  s 1 (.stB 1 4 1 (t 6) true)])
 (.seq (.ops [s 8 (.ldB 1 0 5 true false),
  s 2 (.stB 2 0 5 (t 8) false)])
 .ret))), (some ⟨2, 53, 5, true⟩), [], [false]⟩
def i55 : Comp := ⟨(.seq (.ops [s 2 (.mv (c (.lst 2 true [])))])
 (.seq (.ops [s 7 (.bsl 2 []),
  s 3 (.mv (t 7))])
 (.seq (.seq (.ops [s 4 (.mv (c (i 0)))])
 (.block 0 (.loop (.seq (.seq (.ops [s 8 (.mv (t 4)),
  s 9 (.mv (t 0)),
  s 10 (.len false (t 9)),
  s 11 (.bin .lss (t 8) (t 10)),
  s 12 (.mv (t 11)),
  sg [(12, true)] 13 (.mv (t 0)),
  kg [(12, true)] 14 60 [(t 13)] .sc,
  s 15 (.pick (t 12) (t 14) (c (.bool false)))])
 (.cond (t 15) .skip (.exit 0)))
 (.seq (.block 1 (.seq (.ops [s 18 (.mv (t 0)),
  s 19 (.mv (t 4)),
  s 20 (.idx (t 18) (t 19) 5),
  s 21 (.ldE 18 20 0 5 true false 5),
  k 22 77 [(t 21)] .lin,
  s 23 (.len false (t 22)),
  s 5 (.mv (t 23))])
 (.seq (.seq (.ops [s 24 (.mv (t 0)),
  s 25 (.mv (t 4)),
  s 26 (.idx (t 24) (t 25) 5),
  s 27 (.mv (t 26)),
  s 28 (.ldE 24 27 1 1 false true 5),
  s 29 (.bin .eql (t 28) (c (i 1)))])
 (.cond (t 29) (.ops [s 5 (.mv (c (i 1)))]) .skip))
 (.seq (.ops [s 6 (.mv (c (i 0)))])
 (.block 2 (.loop (.seq (.seq (.ops [s 30 (.mv (t 6)),
  s 31 (.mv (t 5)),
  s 32 (.bin .lss (t 30) (t 31))])
 (.cond (t 32) .skip (.exit 2)))
 (.seq (.block 3 (.ops [s 35 (.mv (t 3)),
  s 36 (.mv (t 0)),
  s 37 (.mv (t 4)),
  s 38 (.idx (t 36) (t 37) 5),
  s 39 (.mv (t 38)),
  s 40 (.ldE 36 39 0 1 false true 5),
  s 41 (.mv (t 6)),
  s 42 (.bld [(i 0), (i 0)] [(0, 1, (t 40)), (1, 1, (t 41))]),
  s 43 (.bsl 2 [(t 42)]),
  s 44 (.app (t 35) (t 43) 2 16),
  s 3 (.mv (t 44))]))
 (.ops [s 33 (.mv (t 6)),
  s 34 (.bin .add (t 33) (c (i 1))),
  s 6 (.mv (t 34))])))))))))
 (.ops [s 16 (.mv (t 4)),
  s 17 (.bin .add (t 16) (c (i 1))),
  s 4 (.mv (t 17))]))))))
 (.seq (.ops [s 45 (.mv (t 3)),
  s 2 (.mv (t 45))])
 .ret)))), none, [2], [false]⟩
def i56 : Comp := ⟨(.seq (.ops [s 2 (.box 5 (t 0)),
  s 4 (.mv (c (i 0)))])
 (.seq (.seq (.ops [s 8 (.ldB 2 0 5 true false),
  k 9 78 [(t 8)] .sc,
  s 10 (.not (t 9))])
 (.cond (t 10) (.seq (.ops [s 4 (.mv (c (i 0)))])
 .ret) .skip))
 (.seq (.ops [s 11 (.mv (c (i 0))),
  s 12 (.ldB 2 0 1 false true),
  s 13 (.mv (c (i 0))),
  s 14 (.ldB 2 1 1 false true),
  s 15 (.mv (c (i 0))),
  s 16 (.ldB 2 2 1 false true),
  s 17 (.mv (c (i 0))),
  s 18 (.ldB 2 3 1 false true),
  s 19 (.len true (t 18)),
  s 20 (.bsl 1 [(t 12), (t 14), (t 16), (t 19)]),
  s 5 (.mv (t 20))])
 (.seq (.seq (.ops [s 6 (.mv (c (i 0)))])
 (.block 0 (.loop (.seq (.seq (.ops [s 21 (.mv (t 6)),
  s 22 (.mv (c (i 0))),
  s 23 (.ldB 2 3 1 false true),
  s 24 (.len true (t 23)),
  s 25 (.bin .lss (t 21) (t 24))])
 (.cond (t 25) .skip (.exit 0)))
 (.seq (.block 1 (.ops [s 28 (.mv (t 5)),
  s 29 (.mv (c (i 0))),
  s 30 (.ldB 2 3 1 false true),
  s 31 (.mv (t 6)),
  s 32 (.six (t 30) (t 31)),
  s 33 (.conv .i64 (t 32)),
  s 34 (.bsl 1 [(t 33)]),
  s 35 (.app (t 28) (t 34) 1 8),
  s 5 (.mv (t 35))]))
 (.ops [s 26 (.mv (t 6)),
  s 27 (.bin .add (t 26) (c (i 1))),
  s 6 (.mv (t 27))]))))))
 (.seq (.ops [s 36 (.mv (t 5)),
  s 37 (.mv (t 1)),
  s 38 (.bsl 1 [(t 37)]),
  s 39 (.app (t 36) (t 38) 1 8),
  s 5 (.mv (t 39))])
 (.seq (.ops [s 40 (.ldB 2 0 5 true false),
  k 41 77 [(t 40)] .lin,
  s 7 (.mv (t 41))])
 (.seq (.block 2 (.seq (.ops [s 43 (.mv (c (i 0))),
  s 44 (.ldB 2 1 1 false true),
  s 45 (.bin .eql (t 44) (c (i 1))),
  s 46 (.mv (t 45)),
  sg [(46, true)] 47 (.mv (t 1)),
  sg [(46, true)] 48 (.bin .eql (t 47) (c (i 0))),
  s 49 (.pick (t 46) (t 48) (c (.bool false))),
  s 42 (.mv (t 49))])
 (.cond (t 42) (.seq (.ops [s 50 (.mv (t 5)),
  s 51 (.mv (c (i 0))),
  s 52 (.ldB 2 4 1 false false),
  s 53 (.idx (t 52) (c (i 0)) 2),
  s 54 (.mv (t 53)),
  s 55 (.ldE 52 54 0 1 false true 2),
  s 56 (.mv (c (i 0))),
  s 57 (.ldB 2 4 1 false false),
  s 58 (.idx (t 57) (c (i 0)) 2),
  s 59 (.mv (t 58)),
  s 60 (.ldE 57 59 1 1 false true 2),
  s 61 (.bsl 1 [(t 55), (t 60)]),
  s 62 (.app (t 50) (t 61) 1 8),
  k 63 58 [(t 62)] .sc,
  s 4 (.mv (t 63))])
 .ret) (.seq (.ops [s 65 (.mv (t 1)),
  s 66 (.mv (t 7)),
  s 67 (.len false (t 66)),
  s 68 (.bin .sub (t 67) (c (i 1))),
  k 69 59 [(t 65), (c (i 0)), (t 68)] .sc,
  s 64 (.mv (t 69))])
 (.cond (t 64) (.seq (.ops [s 70 (.mv (t 5)),
  s 71 (.mv (t 7)),
  s 72 (.mv (t 1)),
  s 73 (.idx (t 71) (t 72) 4),
  s 74 (.mv (t 73)),
  s 75 (.mv (t 74)),
  s 76 (.ldE 71 75 0 1 false true 4),
  s 77 (.mv (t 7)),
  s 78 (.mv (t 1)),
  s 79 (.idx (t 77) (t 78) 4),
  s 80 (.mv (t 79)),
  s 81 (.mv (t 80)),
  s 82 (.ldE 77 81 1 1 false true 4),
  s 83 (.mv (t 7)),
  s 84 (.mv (t 1)),
  s 85 (.idx (t 83) (t 84) 4),
  s 86 (.mv (t 85)),
  s 87 (.mv (t 86)),
  s 88 (.ldE 83 87 2 1 false true 4),
  s 89 (.mv (t 7)),
  s 90 (.mv (t 1)),
  s 91 (.idx (t 89) (t 90) 4),
  s 92 (.mv (t 91)),
  s 93 (.mv (t 92)),
  s 94 (.ldE 89 93 3 1 false true 4),
  s 95 (.bsl 1 [(t 76), (t 82), (t 88), (t 94)]),
  s 96 (.app (t 70) (t 95) 1 8),
  k 97 58 [(t 96)] .sc,
  s 4 (.mv (t 97))])
 .ret) .skip)))))
 (.seq (.ops [s 4 (.mv (c (i 0)))])
 .ret)))))))), none, [4], [false, true]⟩
def i57 : Comp := ⟨(.seq (.ops [s 4 (.mv (c (i 0)))])
 (.seq (.seq (.ops [s 5 (.mv (c (i 0)))])
 (.block 0 (.loop (.seq (.seq (.ops [s 6 (.mv (t 5)),
  s 7 (.mv (t 0)),
  s 8 (.len false (t 7)),
  s 9 (.bin .lss (t 6) (t 8))])
 (.cond (t 9) .skip (.exit 0)))
 (.seq (.block 1 (.seq (.ops [s 12 (.mv (t 0)),
  s 13 (.mv (t 5)),
  s 14 (.idx (t 12) (t 13) 5),
  s 15 (.mv (t 14)),
  s 16 (.ldE 12 15 0 1 false true 5),
  s 17 (.mv (t 1)),
  s 18 (.bin .eql (t 16) (t 17))])
 (.cond (t 18) (.seq (.ops [s 19 (.mv (t 5)),
  s 4 (.mv (t 19))])
 .ret) .skip)))
 (.ops [s 10 (.mv (t 5)),
  s 11 (.bin .add (t 10) (c (i 1))),
  s 5 (.mv (t 11))]))))))
 (.seq (.ops [s 4 (.mv (c (i (-1))))])
 .ret))), none, [4], [false, true]⟩
def i58 : Comp := ⟨(.seq (.ops [s 2 (.mv (c (i 0)))])
 (.seq (.ops [s 3 (.mv (c (i 11)))])
 (.seq (.seq (.ops [s 4 (.mv (c (i 0)))])
 (.block 0 (.loop (.seq (.seq (.ops [s 5 (.mv (t 4)),
  s 6 (.mv (t 0)),
  s 7 (.len false (t 6)),
  s 8 (.bin .lss (t 5) (t 7))])
 (.cond (t 8) .skip (.exit 0)))
 (.seq (.block 1 (.ops [s 11 (.mv (t 3)),
  s 12 (.bin .mul (t 11) (c (i 1000003))),
  s 13 (.mv (t 0)),
  s 14 (.mv (t 4)),
  s 15 (.idx (t 13) (t 14) 1),
  s 16 (.ldE 13 15 0 1 false true 1),
  k 17 79 [(t 16), (c (i 2147483647))] .sc,
  s 18 (.bin .add (t 12) (t 17)),
  s 19 (.bin .add (t 18) (c (i 13))),
  s 20 (.bin .rem (t 19) (c (i 2147483647))),
  s 3 (.mv (t 20))]))
 (.ops [s 9 (.mv (t 4)),
  s 10 (.bin .add (t 9) (c (i 1))),
  s 4 (.mv (t 10))]))))))
 (.seq (.ops [s 21 (.mv (t 3)),
  s 2 (.mv (t 21))])
 .ret)))), none, [2], [false]⟩
def i59 : Comp := ⟨(.seq (.ops [s 6 (.mv (c (.bool false)))])
 (.seq (.ops [s 7 (.mv (t 0)),
  s 8 (.mv (t 1)),
  s 9 (.bin .geq (t 7) (t 8)),
  s 10 (.mv (t 9)),
  sg [(10, true)] 11 (.mv (t 0)),
  sg [(10, true)] 12 (.mv (t 2)),
  sg [(10, true)] 13 (.bin .leq (t 11) (t 12)),
  s 14 (.pick (t 10) (t 13) (c (.bool false))),
  s 6 (.mv (t 14))])
 .ret)), none, [6], [true, true, true]⟩
def i60 : Comp := ⟨(.seq (.ops [s 2 (.mv (c (.bool false)))])
 (.seq (.seq (.ops [s 3 (.mv (c (i 0)))])
 (.block 0 (.loop (.seq (.seq (.ops [s 4 (.mv (t 3)),
  s 5 (.mv (t 0)),
  s 6 (.len false (t 5)),
  s 7 (.bin .lss (t 4) (t 6))])
 (.cond (t 7) .skip (.exit 0)))
 (.seq (.block 1 (.seq (.ops [s 10 (.mv (t 0)),
  s 11 (.mv (t 3)),
  s 12 (.idx (t 10) (t 11) 5),
  s 13 (.ldE 10 12 0 5 true false 5),
  k 14 78 [(t 13)] .sc,
  s 15 (.not (t 14)),
  s 16 (.mv (t 15)),
  sg [(16, false)] 17 (.mv (t 3)),
  sg [(16, false)] 18 (.bin .gtr (t 17) (c (i 0))),
  sg [(16, false)] 19 (.mv (t 18)),
  sg [(19, true), (16, false)] 20 (.mv (t 0)),
  sg [(19, true), (16, false)] 21 (.mv (t 3)),
  sg [(19, true), (16, false)] 22 (.bin .sub (t 21) (c (i 1))),
  sg [(19, true), (16, false)] 23 (.idx (t 20) (t 22) 5),
  sg [(19, true), (16, false)] 24 (.mv (t 23)),
  sg [(19, true), (16, false)] 25 (.ldE 20 24 0 1 false true 5),
  sg [(19, true), (16, false)] 26 (.mv (t 0)),
  sg [(19, true), (16, false)] 27 (.mv (t 3)),
  sg [(19, true), (16, false)] 28 (.idx (t 26) (t 27) 5),
  sg [(19, true), (16, false)] 29 (.mv (t 28)),
  sg [(19, true), (16, false)] 30 (.ldE 26 29 0 1 false true 5),
  sg [(19, true), (16, false)] 31 (.bin .geq (t 25) (t 30)),
  sg [(16, false)] 32 (.pick (t 19) (t 31) (c (.bool false))),
  s 33 (.pick (t 16) (c (.bool true)) (t 32))])
 (.cond (t 33) (.seq (.ops [s 2 (.mv (c (.bool false)))])
 .ret) .skip)))
 (.ops [s 8 (.mv (t 3)),
  s 9 (.bin .add (t 8) (c (i 1))),
  s 3 (.mv (t 9))]))))))
 (.seq (.ops [s 34 (.mv (t 0)),
  s 35 (.len false (t 34)),
  s 36 (.bin .leq (t 35) (c (i 16))),
  s 2 (.mv (t 36))])
 .ret))), none, [2], [false]⟩
def i61 : Comp := ⟨(.seq (.ops [s 2 (.mv (c (.str (bs []))))])
 (.seq (.seq (.ops [s 3 (.mv (c .junk)),
  s 4 (.bsl 1 [(c (.str (bs []))), (c (.str (bs [102, 111, 114, 100]))), (c (.str (bs [104, 105, 108, 108]))), (c (.str (bs [109, 105, 108, 108]))), (c (.str (bs [111, 97, 107]))), (c (.str (bs [108, 97, 107, 101]))), (c (.str (bs [105, 110, 110])))])])
 (.seq (opC 5 29 0 [(t 4)] .sc)
 (.ops [s 2 (.mv (t 5))])))
 .ret)), none, [2], []⟩
def i62 : Comp := ⟨(.seq (.ops [s 2 (.alc [(i 0), (i 0)])])
 (.seq (.seq (.ops [s 3 (.mv (c .junk))])
 (.seq (opC 4 28 0 [(c (i 12))] .sc)
 (.seq (.ops [s 5 (.mv (c .junk))])
 (.seq (opC 6 28 0 [(c (i 12))] .sc)
 (.ops [s 7 (.bld [(i 0), (i 0)] [(0, 1, (t 4)), (1, 1, (t 6))]),
  s 2 (.stB 2 0 2 (t 7) false)])))))
 .ret)), (some ⟨2, 70, 2, true⟩), [], []⟩
def i63 : Comp := ⟨(.seq (.ops [s 2 (.mv (c (.lst 2 true [])))])
 (.seq (.seq (.ops [s 7 (.mv (c .junk))])
 (.seq (opC 8 28 0 [(c (i 8))] .sc)
 (.ops [s 3 (.mv (t 8))])))
 (.seq (.seq (.ops [s 9 (.mv (c .junk))])
 (.seq (opC 10 28 0 [(c (i 8))] .sc)
 (.ops [s 4 (.mv (t 10))])))
 (.seq (.seq (.ops [s 11 (.mv (c .junk))])
 (.seq (opC 12 28 0 [(c (i 6))] .sc)
 (.ops [s 13 (.bin .add (c (i 2)) (t 12)),
  s 5 (.mv (t 13))])))
 (.seq (.seq (.ops [s 14 (.mv (c .junk))])
 (.seq (opC 15 28 0 [(c (i 6))] .sc)
 (.ops [s 16 (.bin .add (c (i 2)) (t 15)),
  s 6 (.mv (t 16))])))
 (.seq (.seq (.seq (.ops [s 17 (.mv (c .junk))])
 (.seq (opC 18 28 0 [(c (i 4))] .sc)
 (.ops [])))
 (.block 0 (.seq (.ops [s 20 (.bin .eql (t 18) (c (i 0))),
  s 19 (.mv (t 20))])
 (.cond (t 19) (.seq (.ops [s 21 (.mv (t 3)),
  s 22 (.mv (t 4)),
  k 23 80 [(t 21), (t 22)] .sc,
  s 24 (.mv (t 3)),
  s 25 (.mv (t 5)),
  s 26 (.bin .add (t 24) (t 25)),
  s 27 (.mv (t 4)),
  k 28 80 [(t 26), (t 27)] .sc,
  s 29 (.mv (t 3)),
  s 30 (.mv (t 5)),
  s 31 (.bin .add (t 29) (t 30)),
  s 32 (.mv (t 4)),
  s 33 (.mv (t 6)),
  s 34 (.bin .add (t 32) (t 33)),
  k 35 80 [(t 31), (t 34)] .sc,
  s 36 (.mv (t 3)),
  s 37 (.mv (t 4)),
  s 38 (.mv (t 6)),
  s 39 (.bin .add (t 37) (t 38)),
  k 40 80 [(t 36), (t 39)] .sc,
  s 41 (.bsl 2 [(t 23), (t 28), (t 35), (t 40)]),
  s 2 (.mv (t 41))])
 .ret) (.seq (.ops [s 43 (.bin .eql (t 18) (c (i 1))),
  s 42 (.mv (t 43))])
 (.cond (t 42) (.seq (.ops [s 44 (.mv (t 3)),
  s 45 (.mv (t 4)),
  k 46 80 [(t 44), (t 45)] .sc,
  s 47 (.mv (t 3)),
  s 48 (.mv (t 5)),
  s 49 (.bin .add (t 47) (t 48)),
  s 50 (.mv (t 4)),
  k 51 80 [(t 49), (t 50)] .sc,
  s 52 (.mv (t 3)),
  s 53 (.mv (t 4)),
  s 54 (.mv (t 6)),
  s 55 (.bin .add (t 53) (t 54)),
  k 56 80 [(t 52), (t 55)] .sc,
  s 57 (.bsl 2 [(t 46), (t 51), (t 56)]),
  s 2 (.mv (t 57))])
 .ret) (.seq (.ops [s 59 (.bin .eql (t 18) (c (i 2))),
  s 58 (.mv (t 59))])
 (.cond (t 58) (.seq (.ops [s 60 (.mv (t 3)),
  s 61 (.mv (t 4)),
  k 62 80 [(t 60), (t 61)] .sc,
  s 63 (.mv (t 3)),
  s 64 (.mv (t 5)),
  s 65 (.bin .mul (c (i 2)) (t 64)),
  s 66 (.bin .add (t 63) (t 65)),
  s 67 (.mv (t 4)),
  k 68 80 [(t 66), (t 67)] .sc,
  s 69 (.mv (t 3)),
  s 70 (.mv (t 5)),
  s 71 (.bin .mul (c (i 2)) (t 70)),
  s 72 (.bin .add (t 69) (t 71)),
  s 73 (.mv (t 4)),
  s 74 (.mv (t 6)),
  s 75 (.bin .add (t 73) (t 74)),
  k 76 80 [(t 72), (t 75)] .sc,
  s 77 (.mv (t 3)),
  s 78 (.mv (t 5)),
  s 79 (.bin .add (t 77) (t 78)),
  s 80 (.mv (t 4)),
  s 81 (.mv (t 6)),
  s 82 (.bin .add (t 80) (t 81)),
  k 83 80 [(t 79), (t 82)] .sc,
  s 84 (.mv (t 3)),
  s 85 (.mv (t 5)),
  s 86 (.bin .add (t 84) (t 85)),
  s 87 (.mv (t 4)),
  s 88 (.mv (t 6)),
  s 89 (.bin .mul (c (i 2)) (t 88)),
  s 90 (.bin .add (t 87) (t 89)),
  k 91 80 [(t 86), (t 90)] .sc,
  s 92 (.mv (t 3)),
  s 93 (.mv (t 4)),
  s 94 (.mv (t 6)),
  s 95 (.bin .mul (c (i 2)) (t 94)),
  s 96 (.bin .add (t 93) (t 95)),
  k 97 80 [(t 92), (t 96)] .sc,
  s 98 (.bsl 2 [(t 62), (t 68), (t 76), (t 83), (t 91), (t 97)]),
  s 2 (.mv (t 98))])
 .ret) .skip))))))))
 (.seq (.ops [s 99 (.mv (t 3)),
  s 100 (.mv (t 4)),
  k 101 80 [(t 99), (t 100)] .sc,
  s 102 (.mv (t 3)),
  s 103 (.mv (t 5)),
  s 104 (.bin .add (t 102) (t 103)),
  s 105 (.mv (t 4)),
  s 106 (.bin .add (t 105) (c (i 1))),
  k 107 80 [(t 104), (t 106)] .sc,
  s 108 (.mv (t 3)),
  s 109 (.mv (t 5)),
  s 110 (.bin .mul (c (i 2)) (t 109)),
  s 111 (.bin .add (t 108) (t 110)),
  s 112 (.mv (t 4)),
  k 113 80 [(t 111), (t 112)] .sc,
  s 114 (.mv (t 3)),
  s 115 (.mv (t 5)),
  s 116 (.bin .add (t 114) (t 115)),
  s 117 (.mv (t 4)),
  s 118 (.mv (t 6)),
  s 119 (.bin .add (t 117) (t 118)),
  k 120 80 [(t 116), (t 119)] .sc,
  s 121 (.bsl 2 [(t 101), (t 107), (t 113), (t 120)]),
  s 2 (.mv (t 121))])
 .ret))))))), none, [2], []⟩
def i64 : Comp := ⟨(.seq (.ops [s 4 (.mv (c (i 0)))])
 (.seq (.seq (.ops [s 5 (.mv (t 1)),
  s 6 (.mv (t 0)),
  s 7 (.bin .lss (t 5) (t 6))])
 (.cond (t 7) (.seq (.ops [s 8 (.mv (t 1)),
  s 4 (.mv (t 8))])
 .ret) .skip))
 (.seq (.ops [s 9 (.mv (t 0)),
  s 4 (.mv (t 9))])
 .ret))), none, [4], [true, true]⟩
def i65 : Comp := ⟨(.seq (.ops [s 2 (.mv (c (i 0)))])
 (.seq (.seq (.ops [s 3 (.mv (c .junk)),
  s 4 (.bsl 1 [(c (i (-1))), (c (i 0)), (c (i 200)), (c (i 201)), (c (i 1000)), (c (i 1001)), (c (i 9223372036854775807)), (c (i (-9223372036854775808)))])])
 (.seq (opC 5 14 0 [(t 4)] .sc)
 (.ops [s 2 (.mv (t 5))])))
 .ret)), none, [2], []⟩
def i66 : Comp := ⟨(.seq (.ops [s 4 (.mv (c (i 0)))])
 (.seq (.seq (.ops [s 6 (.mv (t 1)),
  k 7 19 [(t 6), (c (i 1)), (c (i 1000000000000))] .sc,
  s 8 (.not (t 7))])
 (.cond (t 8) (.seq (.ops [s 4 (.mv (c (i 0)))])
 .ret) .skip))
 (.seq (.ops [s 9 (.mv (t 0)),
  s 10 (.mv (t 1)),
  s 11 (.bin .rem (t 9) (t 10)),
  s 5 (.mv (t 11))])
 (.seq (.seq (.ops [s 12 (.mv (t 5)),
  s 13 (.bin .lss (t 12) (c (i 0)))])
 (.cond (t 13) (.ops [s 14 (.mv (t 5)),
  s 15 (.mv (t 1)),
  s 16 (.bin .add (t 14) (t 15)),
  s 5 (.mv (t 16))]) .skip))
 (.seq (.ops [s 17 (.mv (t 5)),
  s 4 (.mv (t 17))])
 .ret))))), none, [4], [true, true]⟩
def i67 : Comp := ⟨(.seq (.ops [s 1 (.box 5 (t 0)),
  s 2 (.mv (c (.lst 4 true [])))])
 (.seq (.seq (.ops [s 3 (.ldB 1 0 5 true false),
  k 4 35 [(t 3)] .sc])
 (.cond (t 4) (.seq (.ops [s 5 (.mv (c (i 0))),
  s 6 (.ldB 1 1 1 false true)])
 (.block 0 (.seq (.ops [s 8 (.bin .eql (t 6) (c (i 2))),
  s 7 (.mv (t 8))])
 (.cond (t 7) (.seq (.ops [s 9 (.mv (c (i 0))),
  s 10 (.ldB 1 4 1 false false),
  k 11 73 [(t 10)] .lin,
  s 2 (.mv (t 11))])
 .ret) (.seq (.ops [s 13 (.bin .eql (t 6) (c (i 3))),
  s 12 (.mv (t 13))])
 (.cond (t 12) (.seq (.ops [s 14 (.mv (c (i 0))),
  s 15 (.ldB 1 4 1 false false),
  k 16 81 [(t 15)] .lin,
  s 2 (.mv (t 16))])
 .ret) .skip)))))) .skip))
 (.seq (.ops [s 17 (.bsl 4 []),
  s 2 (.mv (t 17))])
 .ret))), none, [2], [false]⟩
def i68 : Comp := ⟨(.seq (.ops [s 4 (.mv (c (i 0)))])
 (.seq (.seq (.ops [s 6 (.mv (t 0)),
  s 7 (.len false (t 6)),
  s 8 (.mv (c (i 0)))])
 (.block 0 (.loop (.seq (.ops [s 9 (.bin .lss (t 8) (t 7))])
 (.seq (.cond (t 9) .skip (.exit 0))
 (.seq (.block 1 (.seq (.ops [s 10 (.mv (t 8)),
  s 5 (.mv (t 10))])
 (.seq (.ops [s 11 (.mv (t 1)),
  s 12 (.mv (t 0)),
  s 13 (.mv (t 5)),
  s 14 (.idx (t 12) (t 13) 5),
  s 15 (.ldE 12 14 0 5 true false 5),
  v 16 (t 11) [(t 15)]])
 (.cond (t 16) (.seq (.ops [s 17 (.mv (t 5)),
  s 4 (.mv (t 17))])
 .ret) .skip))))
 (.ops [s 18 (.bin .add (t 8) (c (i 1))),
  s 8 (.mv (t 18))])))))))
 (.seq (.ops [s 4 (.mv (c (i (-1))))])
 .ret))), none, [4], [false, false]⟩
def i69 : Comp := ⟨(.seq (.ops [s 2 (.box 5 (t 0)),
  s 3 (.mv (c (.bool false)))])
 (.seq (.ops [s 4 (.mv (c (i 0))),
  s 5 (.ldB 2 0 1 false true),
  s 6 (.ldB 1 0 1 false true),
  s 7 (.bin .eql (t 5) (t 6)),
  s 3 (.mv (t 7))])
 .ret)), none, [3], [false, false]⟩
def i70 : Comp := ⟨(.seq (.ops [s 2 (.box 4 (t 0)),
  s 3 (.box 2 (t 1)),
  s 4 (.mv (c (.bool false)))])
 (.seq (.ops [s 5 (.ldB 2 0 4 true true),
  k 6 82 [(t 5)] .sc,
  s 7 (.mv (t 6)),
  sg [(7, true)] 8 (.mv (c (i 0))),
  sg [(7, true)] 9 (.ldB 3 0 1 false true),
  sg [(7, true)] 10 (.mv (c (i 0))),
  sg [(7, true)] 11 (.mv (t 10)),
  sg [(7, true)] 12 (.ldB 2 0 1 false true),
  sg [(7, true)] 13 (.mv (c (i 0))),
  sg [(7, true)] 14 (.mv (t 13)),
  sg [(7, true)] 15 (.ldB 2 2 1 false true),
  kg [(7, true)] 16 19 [(t 9), (t 12), (t 15)] .sc,
  s 17 (.pick (t 7) (t 16) (c (.bool false))),
  s 18 (.mv (t 17)),
  sg [(18, true)] 19 (.mv (c (i 0))),
  sg [(18, true)] 20 (.ldB 3 1 1 false true),
  sg [(18, true)] 21 (.mv (c (i 0))),
  sg [(18, true)] 22 (.mv (t 21)),
  sg [(18, true)] 23 (.ldB 2 1 1 false true),
  sg [(18, true)] 24 (.mv (c (i 0))),
  sg [(18, true)] 25 (.mv (t 24)),
  sg [(18, true)] 26 (.ldB 2 3 1 false true),
  kg [(18, true)] 27 19 [(t 20), (t 23), (t 26)] .sc,
  s 28 (.pick (t 18) (t 27) (c (.bool false))),
  s 4 (.mv (t 28))])
 .ret)), none, [4], [true, true]⟩
def i71 : Comp := ⟨(.seq (.ops [s 2 (.box 4 (t 0)),
  s 3 (.box 4 (t 1)),
  s 4 (.mv (c (.bool false)))])
 (.seq (.seq (.ops [s 11 (.ldB 2 0 4 true true),
  k 12 76 [(t 11)] .sc,
  s 13 (.not (t 12)),
  s 14 (.mv (t 13)),
  sg [(14, false)] 15 (.ldB 3 0 4 true true),
  kg [(14, false)] 16 82 [(t 15)] .sc,
  sg [(14, false)] 17 (.not (t 16)),
  s 18 (.pick (t 14) (c (.bool true)) (t 17))])
 (.cond (t 18) (.seq (.ops [s 4 (.mv (c (.bool false)))])
 .ret) .skip))
 (.seq (.seq (.ops [s 20 (.mv (c (i 0))),
  s 21 (.ldB 2 0 2 true true),
  s 22 (.mv (c (i 0))),
  s 23 (.ldB 2 2 2 true true),
  s 24 (.bsl 2 [(t 21), (t 23)]),
  k 25 83 [(t 24)] .sc,
  s 19 (.mv (t 25)),
  s 26 (.ext 19 0 true),
  s 27 (.ext 19 1 true),
  s 5 (.alc [(i 0), (i 0), (i 0), (i 0)]),
  s 5 (.stB 5 0 4 (t 26) false),
  s 6 (.mv (t 27))])
 (.seq (.ops [s 28 (.ldB 5 0 4 true true),
  s 29 (.ldB 3 0 4 true true),
  k 30 84 [(t 28), (t 29)] .sc,
  s 31 (.not (t 30))])
 (.cond (t 31) (.seq (.ops [s 4 (.mv (c (.bool false)))])
 .ret) .skip)))
 (.seq (.ops [s 7 (.mv (c (i 0))),
  s 8 (.mv (c (i 0)))])
 (.seq (.seq (.ops [s 32 (.mv (c (i 0))),
  s 33 (.ldB 3 0 2 true true),
  s 34 (.mv (c (i 0))),
  s 35 (.ldB 3 2 2 true true),
  s 36 (.mv (c (i 0))),
  s 37 (.mv (t 36)),
  s 38 (.ldB 3 0 1 false true),
  s 39 (.mv (c (i 0))),
  s 40 (.mv (t 39)),
  s 41 (.ldB 3 3 1 false true),
  s 42 (.bld [(i 0), (i 0)] [(0, 1, (t 38)), (1, 1, (t 41))]),
  s 43 (.mv (c (i 0))),
  s 44 (.mv (t 43)),
  s 45 (.ldB 3 2 1 false true),
  s 46 (.mv (c (i 0))),
  s 47 (.mv (t 46)),
  s 48 (.ldB 3 1 1 false true),
  s 49 (.bld [(i 0), (i 0)] [(0, 1, (t 45)), (1, 1, (t 48))]),
  s 50 (.bsl 2 [(t 33), (t 35), (t 42), (t 49)]),
  s 51 (.len false (t 50)),
  s 52 (.mv (c (i 0)))])
 (.block 0 (.loop (.seq (.ops [s 53 (.bin .lss (t 52) (t 51))])
 (.seq (.cond (t 53) .skip (.exit 0))
 (.seq (.block 1 (.seq (.ops [s 54 (.idx (t 50) (t 52) 2),
  s 55 (.ldE 50 54 0 2 true true 2),
  s 10 (.alc [(i 0), (i 0)]),
  s 10 (.stB 10 0 2 (t 55) false)])
 (.seq (.ops [s 56 (.mv (c (i 0))),
  s 57 (.ldB 2 0 2 true true),
  s 58 (.mv (c (i 0))),
  s 59 (.ldB 2 2 2 true true),
  s 60 (.ldB 10 0 2 true true),
  k 61 85 [(t 57), (t 59), (t 60)] .sc])
 (.block 2 (.seq (.ops [s 63 (.bin .eql (t 61) (c (i 1))),
  s 62 (.mv (t 63))])
 (.cond (t 62) (.ops [s 64 (.mv (t 7)),
  s 65 (.bin .add (t 64) (c (i 1))),
  s 7 (.mv (t 65))]) (.seq (.ops [s 67 (.bin .eql (t 61) (c (i (-1)))),
  s 66 (.mv (t 67))])
 (.cond (t 66) (.ops [s 68 (.mv (t 8)),
  s 69 (.bin .add (t 68) (c (i 1))),
  s 8 (.mv (t 69))]) .skip))))))))
 (.ops [s 70 (.bin .add (t 52) (c (i 1))),
  s 52 (.mv (t 70))])))))))
 (.seq (.ops [s 71 (.mv (t 7)),
  s 72 (.bin .lss (t 71) (c (i 4))),
  s 73 (.mv (t 72)),
  sg [(73, true)] 74 (.mv (t 8)),
  sg [(73, true)] 75 (.bin .lss (t 74) (c (i 4))),
  s 76 (.pick (t 73) (t 75) (c (.bool false))),
  s 4 (.mv (t 76))])
 .ret)))))), none, [4], [true, true]⟩
def i72 : Comp := ⟨(.seq (.ops [s 2 (.mv (c (.bool false)))])
 (.seq (.seq (.ops [s 5 (.mv (t 0)),
  s 6 (.len false (t 5)),
  s 7 (.bin .lss (t 6) (c (i 2))),
  s 8 (.mv (t 7)),
  sg [(8, false)] 9 (.mv (t 0)),
  sg [(8, false)] 10 (.len false (t 9)),
  sg [(8, false)] 11 (.bin .gtr (t 10) (c (i 10))),
  s 12 (.pick (t 8) (c (.bool true)) (t 11))])
 (.cond (t 12) (.seq (.ops [s 2 (.mv (c (.bool false)))])
 .ret) .skip))
 (.seq (.seq (.ops [s 13 (.mv (t 0)),
  s 14 (.len false (t 13)),
  s 15 (.mv (c (i 0)))])
 (.block 0 (.loop (.seq (.ops [s 16 (.bin .lss (t 15) (t 14))])
 (.seq (.cond (t 16) .skip (.exit 0))
 (.seq (.block 1 (.seq (.ops [s 17 (.mv (t 15)),
  s 18 (.idx (t 13) (t 15) 2),
  s 19 (.ldE 13 18 0 2 true true 2),
  s 4 (.alc [(i 0), (i 0)]),
  s 3 (.mv (t 17)),
  s 4 (.stB 4 0 2 (t 19) false)])
 (.seq (.ops [s 20 (.ldB 4 0 2 true true),
  k 21 51 [(t 20)] .sc,
  s 22 (.not (t 21)),
  s 23 (.mv (t 22)),
  sg [(23, false)] 24 (.mv (t 3)),
  sg [(23, false)] 25 (.bin .gtr (t 24) (c (i 0))),
  sg [(23, false)] 26 (.mv (t 25)),
  sg [(26, true), (23, false)] 27 (.ldB 4 0 2 true true),
  sg [(26, true), (23, false)] 28 (.mv (t 0)),
  sg [(26, true), (23, false)] 29 (.mv (t 3)),
  sg [(26, true), (23, false)] 30 (.bin .sub (t 29) (c (i 1))),
  sg [(26, true), (23, false)] 31 (.idx (t 28) (t 30) 2),
  sg [(26, true), (23, false)] 32 (.ldE 28 31 0 2 true true 2),
  sg [(26, true), (23, false)] 33 (.eqa false [0, 0] (t 27) (t 32)),
  sg [(23, false)] 34 (.pick (t 26) (t 33) (c (.bool false))),
  s 35 (.pick (t 23) (c (.bool true)) (t 34))])
 (.cond (t 35) (.seq (.ops [s 2 (.mv (c (.bool false)))])
 .ret) .skip))))
 (.ops [s 36 (.bin .add (t 15) (c (i 1))),
  s 15 (.mv (t 36))])))))))
 (.seq (.ops [s 2 (.mv (c (.bool true)))])
 .ret)))), none, [2], [false]⟩
def i73 : Comp := ⟨(.seq (.ops [s 2 (.mv (c (.lst 4 true [])))])
 (.seq (.ops [s 5 (.bsl 4 []),
  s 3 (.mv (t 5))])
 (.seq (.seq (.ops [s 6 (.mv (t 0)),
  k 7 72 [(t 6)] .sc,
  s 8 (.not (t 7))])
 (.cond (t 8) (.seq (.ops [s 9 (.mv (t 3)),
  s 2 (.mv (t 9))])
 .ret) .skip))
 (.seq (.seq (.ops [s 4 (.mv (c (i 1)))])
 (.block 0 (.loop (.seq (.seq (.ops [s 10 (.mv (t 4)),
  s 11 (.mv (t 0)),
  s 12 (.len false (t 11)),
  s 13 (.bin .lss (t 10) (t 12))])
 (.cond (t 13) .skip (.exit 0)))
 (.seq (.block 1 (.ops [s 16 (.mv (t 3)),
  s 17 (.mv (t 0)),
  s 18 (.mv (t 4)),
  s 19 (.bin .sub (t 18) (c (i 1))),
  s 20 (.idx (t 17) (t 19) 2),
  s 21 (.ldE 17 20 0 2 true true 2),
  s 22 (.mv (t 0)),
  s 23 (.mv (t 4)),
  s 24 (.idx (t 22) (t 23) 2),
  s 25 (.ldE 22 24 0 2 true true 2),
  s 26 (.bld [(i 0), (i 0), (i 0), (i 0)] [(0, 2, (t 21)), (2, 2, (t 25))]),
  s 27 (.bsl 4 [(t 26)]),
  s 28 (.app (t 16) (t 27) 4 32),
  s 3 (.mv (t 28))]))
 (.ops [s 14 (.mv (t 4)),
  s 15 (.bin .add (t 14) (c (i 1))),
  s 4 (.mv (t 15))]))))))
 (.seq (.ops [s 29 (.mv (t 3)),
  s 2 (.mv (t 29))])
 .ret))))), none, [2], [false]⟩
def i74 : Comp := ⟨(.seq (.ops [s 2 (.box 4 (t 0)),
  s 3 (.box 4 (t 1)),
  s 4 (.mv (c (i 0)))])
 (.seq (.seq (.ops [s 9 (.ldB 2 0 4 true true),
  k 10 76 [(t 9)] .sc,
  s 11 (.not (t 10)),
  s 12 (.mv (t 11)),
  sg [(12, false)] 13 (.ldB 3 0 4 true true),
  kg [(12, false)] 14 76 [(t 13)] .sc,
  sg [(12, false)] 15 (.not (t 14)),
  s 16 (.pick (t 12) (c (.bool true)) (t 15))])
 (.cond (t 16) (.seq (.ops [s 4 (.mv (c (i 0)))])
 .ret) .skip))
 (.seq (.ops [s 17 (.mv (c (i 0))),
  s 18 (.ldB 2 0 2 true true),
  s 19 (.mv (c (i 0))),
  s 20 (.ldB 2 2 2 true true),
  s 21 (.mv (c (i 0))),
  s 22 (.ldB 3 0 2 true true),
  k 23 85 [(t 18), (t 20), (t 22)] .sc,
  s 24 (.mv (c (i 0))),
  s 25 (.ldB 2 0 2 true true),
  s 26 (.mv (c (i 0))),
  s 27 (.ldB 2 2 2 true true),
  s 28 (.mv (c (i 0))),
  s 29 (.ldB 3 2 2 true true),
  k 30 85 [(t 25), (t 27), (t 29)] .sc,
  s 5 (.mv (t 23)),
  s 6 (.mv (t 30))])
 (.seq (.seq (.ops [s 31 (.mv (t 5)),
  s 32 (.bin .eql (t 31) (c (i 0))),
  s 33 (.mv (t 32)),
  sg [(33, true)] 34 (.mv (t 6)),
  sg [(33, true)] 35 (.bin .eql (t 34) (c (i 0))),
  s 36 (.pick (t 33) (t 35) (c (.bool false)))])
 (.cond (t 36) (.seq (.ops [s 37 (.ldB 2 0 4 true true),
  k 38 86 [(t 37)] .sc,
  s 39 (.ldB 3 0 4 true true),
  k 40 86 [(t 39)] .sc,
  s 2 (.stB 2 0 4 (t 38) false),
  s 3 (.stB 3 0 4 (t 40) false)])
 (.seq (.ops [s 41 (.mv (c (i 0))),
  s 42 (.ldB 2 0 2 true true),
  s 43 (.mv (c (i 0))),
  s 44 (.ldB 2 2 2 true true),
  s 7 (.alc [(i 0), (i 0)]),
  s 8 (.alc [(i 0), (i 0)]),
  s 7 (.stB 7 0 2 (t 42) false),
  s 8 (.stB 8 0 2 (t 44) false)])
 (.seq (.seq (.ops [s 45 (.ldB 7 0 2 true true),
  s 46 (.mv (c (i 0))),
  s 47 (.ldB 3 0 2 true true),
  k 48 87 [(t 45), (t 47)] .sc])
 (.cond (t 48) (.ops [s 49 (.mv (c (i 0))),
  s 50 (.ldB 3 0 2 true true),
  s 7 (.stB 7 0 2 (t 50) false)]) .skip))
 (.seq (.seq (.ops [s 51 (.mv (c (i 0))),
  s 52 (.ldB 3 2 2 true true),
  s 53 (.ldB 8 0 2 true true),
  k 54 87 [(t 52), (t 53)] .sc])
 (.cond (t 54) (.ops [s 55 (.mv (c (i 0))),
  s 56 (.ldB 3 2 2 true true),
  s 8 (.stB 8 0 2 (t 56) false)]) .skip))
 (.seq (.block 0 (.seq (.ops [s 58 (.ldB 8 0 2 true true),
  s 59 (.ldB 7 0 2 true true),
  k 60 87 [(t 58), (t 59)] .sc,
  s 57 (.mv (t 60))])
 (.cond (t 57) (.seq (.ops [s 4 (.mv (c (i 0)))])
 .ret) (.seq (.ops [s 62 (.ldB 7 0 2 true true),
  s 63 (.ldB 8 0 2 true true),
  s 64 (.eqa false [0, 0] (t 62) (t 63)),
  s 61 (.mv (t 64))])
 (.cond (t 61) (.seq (.ops [s 4 (.mv (c (i 1)))])
 .ret) .skip)))))
 (.seq (.ops [s 4 (.mv (c (i 3)))])
 .ret)))))) .skip))
 (.seq (.seq (.ops [s 65 (.mv (t 5)),
  s 66 (.mv (t 6)),
  s 67 (.bin .mul (t 65) (t 66)),
  s 68 (.bin .lss (t 67) (c (i 0))),
  s 69 (.mv (t 68)),
  sg [(69, true)] 70 (.mv (c (i 0))),
  sg [(69, true)] 71 (.ldB 3 0 2 true true),
  sg [(69, true)] 72 (.mv (c (i 0))),
  sg [(69, true)] 73 (.ldB 3 2 2 true true),
  sg [(69, true)] 74 (.mv (c (i 0))),
  sg [(69, true)] 75 (.ldB 2 0 2 true true),
  kg [(69, true)] 76 85 [(t 71), (t 73), (t 75)] .sc,
  sg [(69, true)] 77 (.mv (c (i 0))),
  sg [(69, true)] 78 (.ldB 3 0 2 true true),
  sg [(69, true)] 79 (.mv (c (i 0))),
  sg [(69, true)] 80 (.ldB 3 2 2 true true),
  sg [(69, true)] 81 (.mv (c (i 0))),
  sg [(69, true)] 82 (.ldB 2 2 2 true true),
  kg [(69, true)] 83 85 [(t 78), (t 80), (t 82)] .sc,
  sg [(69, true)] 84 (.bin .mul (t 76) (t 83)),
  sg [(69, true)] 85 (.bin .lss (t 84) (c (i 0))),
  s 86 (.pick (t 69) (t 85) (c (.bool false)))])
 (.cond (t 86) (.seq (.ops [s 4 (.mv (c (i 2)))])
 .ret) .skip))
 (.seq (.seq (.ops [s 87 (.ldB 2 0 4 true true),
  s 88 (.mv (c (i 0))),
  s 89 (.ldB 3 0 2 true true),
  k 90 88 [(t 87), (t 89)] .sc,
  s 91 (.mv (t 90)),
  sg [(91, false)] 92 (.ldB 2 0 4 true true),
  sg [(91, false)] 93 (.mv (c (i 0))),
  sg [(91, false)] 94 (.ldB 3 2 2 true true),
  kg [(91, false)] 95 88 [(t 92), (t 94)] .sc,
  s 96 (.pick (t 91) (c (.bool true)) (t 95)),
  s 97 (.mv (t 96)),
  sg [(97, false)] 98 (.ldB 3 0 4 true true),
  sg [(97, false)] 99 (.mv (c (i 0))),
  sg [(97, false)] 100 (.ldB 2 0 2 true true),
  kg [(97, false)] 101 88 [(t 98), (t 100)] .sc,
  s 102 (.pick (t 97) (c (.bool true)) (t 101)),
  s 103 (.mv (t 102)),
  sg [(103, false)] 104 (.ldB 3 0 4 true true),
  sg [(103, false)] 105 (.mv (c (i 0))),
  sg [(103, false)] 106 (.ldB 2 2 2 true true),
  kg [(103, false)] 107 88 [(t 104), (t 106)] .sc,
  s 108 (.pick (t 103) (c (.bool true)) (t 107))])
 (.cond (t 108) (.seq (.ops [s 4 (.mv (c (i 1)))])
 .ret) .skip))
 (.seq (.ops [s 4 (.mv (c (i 0)))])
 .ret))))))), none, [4], [true, true]⟩
def i75 : Comp := ⟨(.seq (.ops [s 2 (.mv (c (.lst 4 true [])))])
 (.seq (.ops [s 6 (.bsl 4 []),
  s 3 (.mv (t 6))])
 (.seq (.seq (.ops [s 7 (.mv (t 0)),
  s 8 (.len false (t 7)),
  s 9 (.mv (c (i 0)))])
 (.block 0 (.loop (.seq (.ops [s 10 (.bin .lss (t 9) (t 8))])
 (.seq (.cond (t 10) .skip (.exit 0))
 (.seq (.block 1 (.seq (.ops [s 11 (.mv (t 9)),
  s 12 (.idx (t 7) (t 9) 2),
  s 13 (.ldE 7 12 0 2 true true 2),
  s 5 (.alc [(i 0), (i 0)]),
  s 4 (.mv (t 11)),
  s 5 (.stB 5 0 2 (t 13) false)])
 (.ops [s 14 (.mv (t 3)),
  s 15 (.ldB 5 0 2 true true),
  s 16 (.mv (t 0)),
  s 17 (.mv (t 4)),
  s 18 (.bin .add (t 17) (c (i 1))),
  s 19 (.mv (t 0)),
  s 20 (.len false (t 19)),
  s 21 (.bin .rem (t 18) (t 20)),
  s 22 (.idx (t 16) (t 21) 2),
  s 23 (.ldE 16 22 0 2 true true 2),
  s 24 (.bld [(i 0), (i 0), (i 0), (i 0)] [(0, 2, (t 15)), (2, 2, (t 23))]),
  s 25 (.bsl 4 [(t 24)]),
  s 26 (.app (t 14) (t 25) 4 32),
  s 3 (.mv (t 26))])))
 (.ops [s 27 (.bin .add (t 9) (c (i 1))),
  s 9 (.mv (t 27))])))))))
 (.seq (.ops [s 28 (.mv (t 3)),
  s 2 (.mv (t 28))])
 .ret)))), none, [2], [false]⟩
def i76 : Comp := ⟨(.seq (.ops [s 1 (.box 4 (t 0)),
  s 2 (.mv (c (.bool false)))])
 (.seq (.ops [s 3 (.mv (c (i 0))),
  s 4 (.ldB 1 0 2 true true),
  k 5 51 [(t 4)] .sc,
  s 6 (.mv (t 5)),
  sg [(6, true)] 7 (.mv (c (i 0))),
  sg [(6, true)] 8 (.ldB 1 2 2 true true),
  kg [(6, true)] 9 51 [(t 8)] .sc,
  s 10 (.pick (t 6) (t 9) (c (.bool false))),
  s 11 (.mv (t 10)),
  sg [(11, true)] 12 (.mv (c (i 0))),
  sg [(11, true)] 13 (.ldB 1 0 2 true true),
  sg [(11, true)] 14 (.mv (c (i 0))),
  sg [(11, true)] 15 (.ldB 1 2 2 true true),
  sg [(11, true)] 16 (.eqa true [0, 0] (t 13) (t 15)),
  s 17 (.pick (t 11) (t 16) (c (.bool false))),
  s 2 (.mv (t 17))])
 .ret)), none, [2], [true]⟩
def i77 : Comp := ⟨(.seq (.ops [s 1 (.box 5 (t 0)),
  s 2 (.mv (c (.lst 4 true [])))])
 (.seq (.seq (.ops [s 3 (.ldB 1 0 5 true false),
  k 4 78 [(t 3)] .sc,
  s 5 (.not (t 4))])
 (.cond (t 5) (.seq (.ops [s 6 (.bsl 4 []),
  s 2 (.mv (t 6))])
 .ret) .skip))
 (.seq (.seq (.ops [s 7 (.mv (c (i 0))),
  s 8 (.ldB 1 1 1 false true)])
 (.block 0 (.seq (.ops [s 10 (.bin .eql (t 8) (c (i 2))),
  s 9 (.mv (t 10))])
 (.cond (t 9) (.seq (.ops [s 11 (.mv (c (i 0))),
  s 12 (.ldB 1 4 1 false false),
  k 13 89 [(t 12)] .lin,
  s 2 (.mv (t 13))])
 .ret) (.seq (.ops [s 15 (.bin .eql (t 8) (c (i 3))),
  s 14 (.mv (t 15))])
 (.cond (t 14) (.seq (.ops [s 16 (.mv (c (i 0))),
  s 17 (.ldB 1 4 1 false false),
  k 18 90 [(t 17)] .lin,
  s 2 (.mv (t 18))])
 .ret) .skip))))))
 (.seq (.ops [s 19 (.bsl 4 []),
  s 2 (.mv (t 19))])
 .ret)))), none, [2], [false]⟩
def i78 : Comp := ⟨(.seq (.ops [s 1 (.box 5 (t 0)),
  s 2 (.mv (c (.bool false)))])
 (.seq (.seq (.ops [s 3 (.mv (c (i 0))),
  s 4 (.ldB 1 0 1 false true),
  k 5 59 [(t 4), (c (i 1)), (c (i 99))] .sc,
  s 6 (.not (t 5)),
  s 7 (.mv (t 6)),
  sg [(7, false)] 8 (.mv (c (i 0))),
  sg [(7, false)] 9 (.ldB 1 2 1 false true),
  kg [(7, false)] 10 59 [(t 9), (c (i 0)), (c (i 9))] .sc,
  sg [(7, false)] 11 (.not (t 10)),
  s 12 (.pick (t 7) (c (.bool true)) (t 11)),
  s 13 (.mv (t 12)),
  sg [(13, false)] 14 (.mv (c (i 0))),
  sg [(13, false)] 15 (.ldB 1 3 1 false true),
  sg [(13, false)] 16 (.bin .neq (t 15) (c (.str (bs [])))),
  sg [(13, false)] 17 (.mv (t 16)),
  sg [(17, true), (13, false)] 18 (.mv (c (i 0))),
  sg [(17, true), (13, false)] 19 (.ldB 1 3 1 false true),
  kg [(17, true), (13, false)] 20 91 [(t 19)] .sc,
  sg [(17, true), (13, false)] 21 (.not (t 20)),
  sg [(13, false)] 22 (.pick (t 17) (t 21) (c (.bool false))),
  s 23 (.pick (t 13) (c (.bool true)) (t 22))])
 (.cond (t 23) (.seq (.ops [s 2 (.mv (c (.bool false)))])
 .ret) .skip))
 (.seq (.seq (.ops [s 24 (.mv (c (i 0))),
  s 25 (.ldB 1 1 1 false true)])
 (.block 0 (.seq (.ops [s 27 (.bin .eql (t 25) (c (i 1))),
  s 26 (.mv (t 27))])
 (.cond (t 26) (.seq (.ops [s 28 (.mv (c (i 0))),
  s 29 (.ldB 1 4 1 false false),
  s 30 (.len false (t 29)),
  s 31 (.bin .eql (t 30) (c (i 1))),
  s 32 (.mv (t 31)),
  sg [(32, true)] 33 (.mv (c (i 0))),
  sg [(32, true)] 34 (.ldB 1 4 1 false false),
  sg [(32, true)] 35 (.idx (t 34) (c (i 0)) 2),
  sg [(32, true)] 36 (.ldE 34 35 0 2 true true 2),
  kg [(32, true)] 37 92 [(t 36)] .sc,
  s 38 (.pick (t 32) (t 37) (c (.bool false))),
  s 2 (.mv (t 38))])
 .ret) (.seq (.ops [s 40 (.bin .eql (t 25) (c (i 2))),
  s 39 (.mv (t 40))])
 (.cond (t 39) (.seq (.ops [s 41 (.mv (c (i 0))),
  s 42 (.ldB 1 4 1 false false),
  k 43 93 [(t 42)] .sc,
  s 2 (.mv (t 43))])
 .ret) (.seq (.ops [s 45 (.bin .eql (t 25) (c (i 3))),
  s 44 (.mv (t 45))])
 (.cond (t 44) (.seq (.ops [s 46 (.mv (c (i 0))),
  s 47 (.ldB 1 4 1 false false),
  k 48 94 [(t 47)] .sc,
  s 2 (.mv (t 48))])
 .ret) .skip))))))))
 (.seq (.ops [s 2 (.mv (c (.bool false)))])
 .ret)))), none, [2], [false]⟩
def i79 : Comp := ⟨(.seq (.ops [s 4 (.mv (c (i 0)))])
 (.seq (.seq (.ops [s 5 (.mv (t 1)),
  k 6 59 [(t 5), (c (i 1)), (c (i 1000000000000))] .sc,
  s 7 (.not (t 6))])
 (.cond (t 7) (.seq (.ops [s 4 (.mv (c (i 0)))])
 .ret) .skip))
 (.seq (.ops [s 8 (.mv (t 0)),
  s 9 (.mv (t 1)),
  s 10 (.bin .rem (t 8) (t 9)),
  s 11 (.mv (t 1)),
  s 12 (.bin .add (t 10) (t 11)),
  s 13 (.mv (t 1)),
  s 14 (.bin .rem (t 12) (t 13)),
  s 4 (.mv (t 14))])
 .ret))), none, [4], [true, true]⟩
def i80 : Comp := ⟨(.seq (.ops [s 4 (.alc [(i 0), (i 0)])])
 (.seq (.ops [s 5 (.mv (t 0)),
  s 6 (.mv (t 1)),
  s 7 (.bld [(i 0), (i 0)] [(0, 1, (t 5)), (1, 1, (t 6))]),
  s 4 (.stB 4 0 2 (t 7) false)])
 .ret)), (some ⟨4, 70, 2, true⟩), [], [true, true]⟩
def i81 : Comp := ⟨(.seq (.ops [s 2 (.mv (c (.lst 4 true [])))])
 (.seq (.seq (.ops [s 3 (.mv (t 0)),
  k 4 53 [(t 3)] .sc,
  s 5 (.not (t 4))])
 (.cond (t 5) (.seq (.ops [s 6 (.bsl 4 []),
  s 2 (.mv (t 6))])
 .ret) .skip))
 (.seq (.ops [s 7 (.mv (t 0)),
  k 8 75 [(t 7)] .lin,
  s 2 (.mv (t 8))])
 .ret))), none, [2], [false]⟩
def i82 : Comp := ⟨(.seq (.ops [s 1 (.box 4 (t 0)),
  s 2 (.mv (c (.bool false)))])
 (.seq (.ops [s 3 (.mv (c (i 0))),
  s 4 (.ldB 1 0 2 true true),
  k 5 51 [(t 4)] .sc,
  s 6 (.mv (t 5)),
  sg [(6, true)] 7 (.mv (c (i 0))),
  sg [(6, true)] 8 (.ldB 1 2 2 true true),
  kg [(6, true)] 9 51 [(t 8)] .sc,
  s 10 (.pick (t 6) (t 9) (c (.bool false))),
  s 11 (.mv (t 10)),
  sg [(11, true)] 12 (.mv (c (i 0))),
  sg [(11, true)] 13 (.mv (t 12)),
  sg [(11, true)] 14 (.ldB 1 0 1 false true),
  sg [(11, true)] 15 (.mv (c (i 0))),
  sg [(11, true)] 16 (.mv (t 15)),
  sg [(11, true)] 17 (.ldB 1 2 1 false true),
  sg [(11, true)] 18 (.bin .leq (t 14) (t 17)),
  s 19 (.pick (t 11) (t 18) (c (.bool false))),
  s 20 (.mv (t 19)),
  sg [(20, true)] 21 (.mv (c (i 0))),
  sg [(20, true)] 22 (.mv (t 21)),
  sg [(20, true)] 23 (.ldB 1 1 1 false true),
  sg [(20, true)] 24 (.mv (c (i 0))),
  sg [(20, true)] 25 (.mv (t 24)),
  sg [(20, true)] 26 (.ldB 1 3 1 false true),
  sg [(20, true)] 27 (.bin .leq (t 23) (t 26)),
  s 28 (.pick (t 20) (t 27) (c (.bool false))),
  s 2 (.mv (t 28))])
 .ret)), none, [2], [true]⟩
def i83 : Comp := ⟨(.seq (.ops [s 2 (.alc [(i 0), (i 0), (i 0), (i 0)]),
  s 3 (.mv (c (.bool false)))])
 (.seq (.seq (.ops [s 7 (.mv (t 0)),
  s 8 (.len false (t 7)),
  s 9 (.bin .eql (t 8) (c (i 0)))])
 (.cond (t 9) (.seq (.ops [s 10 (.bld [(i 0), (i 0), (i 0), (i 0)] []),
  s 2 (.stB 2 0 4 (t 10) false),
  s 3 (.mv (c (.bool false)))])
 .ret) .skip))
 (.seq (.ops [s 11 (.mv (t 0)),
  s 12 (.idx (t 11) (c (i 0)) 2),
  s 13 (.ldE 11 12 0 2 true true 2),
  s 14 (.mv (t 0)),
  s 15 (.idx (t 14) (c (i 0)) 2),
  s 16 (.ldE 14 15 0 2 true true 2),
  s 17 (.bld [(i 0), (i 0), (i 0), (i 0)] [(0, 2, (t 13)), (2, 2, (t 16))]),
  s 4 (.alc [(i 0), (i 0), (i 0), (i 0)]),
  s 4 (.stB 4 0 4 (t 17) false)])
 (.seq (.seq (.ops [s 18 (.mv (t 0)),
  s 19 (.len false (t 18)),
  s 20 (.mv (c (i 0)))])
 (.block 0 (.loop (.seq (.ops [s 21 (.bin .lss (t 20) (t 19))])
 (.seq (.cond (t 21) .skip (.exit 0))
 (.seq (.block 1 (.seq (.ops [s 22 (.idx (t 18) (t 20) 2),
  s 23 (.ldE 18 22 0 2 true true 2),
  s 6 (.alc [(i 0), (i 0)]),
  s 6 (.stB 6 0 2 (t 23) false)])
 (.seq (.seq (.ops [s 24 (.ldB 6 0 2 true true),
  k 25 51 [(t 24)] .sc,
  s 26 (.not (t 25))])
 (.cond (t 26) (.seq (.ops [s 27 (.bld [(i 0), (i 0), (i 0), (i 0)] []),
  s 2 (.stB 2 0 4 (t 27) false),
  s 3 (.mv (c (.bool false)))])
 .ret) .skip))
 (.ops [s 28 (.mv (c (i 0))),
  s 29 (.mv (t 28)),
  s 30 (.ldB 4 0 1 false true),
  s 31 (.mv (c (i 0))),
  s 32 (.ldB 6 0 1 false true),
  s 33 (.mn (t 30) (t 32)),
  s 34 (.mv (c (i 0))),
  s 35 (.mv (t 34)),
  s 36 (.ldB 4 1 1 false true),
  s 37 (.mv (c (i 0))),
  s 38 (.ldB 6 1 1 false true),
  s 39 (.mn (t 36) (t 38)),
  s 40 (.bld [(i 0), (i 0)] [(0, 1, (t 33)), (1, 1, (t 39))]),
  s 41 (.mv (c (i 0))),
  s 42 (.mv (t 41)),
  s 43 (.ldB 4 2 1 false true),
  s 44 (.mv (c (i 0))),
  s 45 (.ldB 6 0 1 false true),
  s 46 (.mx (t 43) (t 45)),
  s 47 (.mv (c (i 0))),
  s 48 (.mv (t 47)),
  s 49 (.ldB 4 3 1 false true),
  s 50 (.mv (c (i 0))),
  s 51 (.ldB 6 1 1 false true),
  s 52 (.mx (t 49) (t 51)),
  s 53 (.bld [(i 0), (i 0)] [(0, 1, (t 46)), (1, 1, (t 52))]),
  s 54 (.mv (c (i 0))),
  s 4 (.stB 4 0 2 (t 40) false),
  s 55 (.mv (c (i 0))),
  s 4 (.stB 4 2 2 (t 53) false)]))))
 (.ops [s 56 (.bin .add (t 20) (c (i 1))),
  s 20 (.mv (t 56))])))))))
 (.seq (.ops [s 57 (.ldB 4 0 4 true true),
  s 2 (.stB 2 0 4 (t 57) false),
  s 3 (.mv (c (.bool true)))])
 .ret))))), (some ⟨2, 83, 4, true⟩), [3], [false]⟩
def i84 : Comp := ⟨(.seq (.ops [s 2 (.box 4 (t 0)),
  s 3 (.box 4 (t 1)),
  s 4 (.mv (c (.bool false)))])
 (.seq (.ops [s 8 (.ldB 2 0 4 true true),
  s 9 (.ldB 3 0 4 true true),
  k 10 95 [(t 8), (t 9)] .sc,
  s 7 (.mv (t 10)),
  s 11 (.ext 7 0 true),
  s 12 (.ext 7 1 true),
  s 5 (.mv (t 11)),
  s 6 (.mv (t 12))])
 (.seq (.ops [s 13 (.ldB 2 0 4 true true),
  k 14 82 [(t 13)] .sc,
  s 15 (.mv (t 14)),
  sg [(15, true)] 16 (.ldB 3 0 4 true true),
  kg [(15, true)] 17 82 [(t 16)] .sc,
  s 18 (.pick (t 15) (t 17) (c (.bool false))),
  s 19 (.mv (t 18)),
  sg [(19, true)] 20 (.mv (t 5)),
  sg [(19, true)] 21 (.bin .geq (t 20) (c (i 0))),
  s 22 (.pick (t 19) (t 21) (c (.bool false))),
  s 23 (.mv (t 22)),
  sg [(23, true)] 24 (.mv (t 6)),
  sg [(23, true)] 25 (.bin .geq (t 24) (c (i 0))),
  s 26 (.pick (t 23) (t 25) (c (.bool false))),
  s 4 (.mv (t 26))])
 .ret))), none, [4], [true, true]⟩
def i85 : Comp := ⟨(.seq (.ops [s 3 (.box 2 (t 0)),
  s 4 (.box 2 (t 1)),
  s 5 (.box 2 (t 2)),
  s 6 (.mv (c (i 0)))])
 (.seq (.seq (.ops [s 7 (.ldB 3 0 2 true true),
  k 8 51 [(t 7)] .sc,
  s 9 (.not (t 8)),
  s 10 (.mv (t 9)),
  sg [(10, false)] 11 (.ldB 4 0 2 true true),
  kg [(10, false)] 12 51 [(t 11)] .sc,
  sg [(10, false)] 13 (.not (t 12)),
  s 14 (.pick (t 10) (c (.bool true)) (t 13)),
  s 15 (.mv (t 14)),
  sg [(15, false)] 16 (.ldB 5 0 2 true true),
  kg [(15, false)] 17 51 [(t 16)] .sc,
  sg [(15, false)] 18 (.not (t 17)),
  s 19 (.pick (t 15) (c (.bool true)) (t 18))])
 (.cond (t 19) (.seq (.ops [s 6 (.mv (c (i 0)))])
 .ret) .skip))
 (.seq (.ops [s 20 (.ldB 3 0 2 true true),
  s 21 (.ldB 4 0 2 true true),
  s 22 (.ldB 5 0 2 true true),
  k 23 97 [(t 20), (t 21), (t 22)] .sc,
  k 24 96 [(t 23), (c (i 0))] .sc,
  s 6 (.mv (t 24))])
 .ret))), none, [6], [true, true, true]⟩
def i86 : Comp := ⟨(.seq (.ops [s 1 (.box 4 (t 0)),
  s 2 (.alc [(i 0), (i 0), (i 0), (i 0)])])
 (.seq (.seq (.ops [s 3 (.mv (c (i 0))),
  s 4 (.ldB 1 2 2 true true),
  s 5 (.mv (c (i 0))),
  s 6 (.ldB 1 0 2 true true),
  k 7 87 [(t 4), (t 6)] .sc])
 (.cond (t 7) (.seq (.ops [s 8 (.ldB 1 0 4 true true),
  k 9 98 [(t 8)] .sc,
  s 2 (.stB 2 0 4 (t 9) false)])
 .ret) .skip))
 (.seq (.ops [s 10 (.ldB 1 0 4 true true),
  s 2 (.stB 2 0 4 (t 10) false)])
 .ret))), (some ⟨2, 92, 4, true⟩), [], [true]⟩
def i87 : Comp := ⟨(.seq (.ops [s 2 (.box 2 (t 0)),
  s 3 (.box 2 (t 1)),
  s 4 (.mv (c (.bool false)))])
 (.seq (.ops [s 5 (.mv (c (i 0))),
  s 6 (.ldB 2 1 1 false true),
  s 7 (.mv (c (i 0))),
  s 8 (.ldB 3 1 1 false true),
  s 9 (.bin .lss (t 6) (t 8)),
  s 10 (.mv (t 9)),
  sg [(10, false)] 11 (.mv (c (i 0))),
  sg [(10, false)] 12 (.ldB 2 1 1 false true),
  sg [(10, false)] 13 (.mv (c (i 0))),
  sg [(10, false)] 14 (.ldB 3 1 1 false true),
  sg [(10, false)] 15 (.bin .eql (t 12) (t 14)),
  sg [(10, false)] 16 (.mv (t 15)),
  sg [(16, true), (10, false)] 17 (.mv (c (i 0))),
  sg [(16, true), (10, false)] 18 (.ldB 2 0 1 false true),
  sg [(16, true), (10, false)] 19 (.mv (c (i 0))),
  sg [(16, true), (10, false)] 20 (.ldB 3 0 1 false true),
  sg [(16, true), (10, false)] 21 (.bin .lss (t 18) (t 20)),
  sg [(10, false)] 22 (.pick (t 16) (t 21) (c (.bool false))),
  s 23 (.pick (t 10) (c (.bool true)) (t 22)),
  s 4 (.mv (t 23))])
 .ret)), none, [4], [true, true]⟩
def i88 : Comp := ⟨(.seq (.ops [s 2 (.box 4 (t 0)),
  s 3 (.box 2 (t 1)),
  s 4 (.mv (c (.bool false)))])
 (.seq (.ops [s 5 (.ldB 2 0 4 true true),
  k 6 76 [(t 5)] .sc,
  s 7 (.mv (t 6)),
  sg [(7, true)] 8 (.ldB 3 0 2 true true),
  kg [(7, true)] 9 51 [(t 8)] .sc,
  s 10 (.pick (t 7) (t 9) (c (.bool false))),
  s 11 (.mv (t 10)),
  sg [(11, true)] 12 (.mv (c (i 0))),
  sg [(11, true)] 13 (.ldB 2 0 2 true true),
  sg [(11, true)] 14 (.mv (c (i 0))),
  sg [(11, true)] 15 (.ldB 2 2 2 true true),
  sg [(11, true)] 16 (.ldB 3 0 2 true true),
  kg [(11, true)] 17 85 [(t 13), (t 15), (t 16)] .sc,
  sg [(11, true)] 18 (.bin .eql (t 17) (c (i 0))),
  s 19 (.pick (t 11) (t 18) (c (.bool false))),
  s 20 (.mv (t 19)),
  sg [(20, true)] 21 (.mv (c (i 0))),
  sg [(20, true)] 22 (.ldB 3 0 1 false true),
  sg [(20, true)] 23 (.mv (c (i 0))),
  sg [(20, true)] 24 (.mv (t 23)),
  sg [(20, true)] 25 (.ldB 2 0 1 false true),
  sg [(20, true)] 26 (.mv (c (i 0))),
  sg [(20, true)] 27 (.mv (t 26)),
  sg [(20, true)] 28 (.ldB 2 2 1 false true),
  sg [(20, true)] 29 (.mn (t 25) (t 28)),
  sg [(20, true)] 30 (.mv (c (i 0))),
  sg [(20, true)] 31 (.mv (t 30)),
  sg [(20, true)] 32 (.ldB 2 0 1 false true),
  sg [(20, true)] 33 (.mv (c (i 0))),
  sg [(20, true)] 34 (.mv (t 33)),
  sg [(20, true)] 35 (.ldB 2 2 1 false true),
  sg [(20, true)] 36 (.mx (t 32) (t 35)),
  kg [(20, true)] 37 19 [(t 22), (t 29), (t 36)] .sc,
  s 38 (.pick (t 20) (t 37) (c (.bool false))),
  s 39 (.mv (t 38)),
  sg [(39, true)] 40 (.mv (c (i 0))),
  sg [(39, true)] 41 (.ldB 3 1 1 false true),
  sg [(39, true)] 42 (.mv (c (i 0))),
  sg [(39, true)] 43 (.mv (t 42)),
  sg [(39, true)] 44 (.ldB 2 1 1 false true),
  sg [(39, true)] 45 (.mv (c (i 0))),
  sg [(39, true)] 46 (.mv (t 45)),
  sg [(39, true)] 47 (.ldB 2 3 1 false true),
  sg [(39, true)] 48 (.mn (t 44) (t 47)),
  sg [(39, true)] 49 (.mv (c (i 0))),
  sg [(39, true)] 50 (.mv (t 49)),
  sg [(39, true)] 51 (.ldB 2 1 1 false true),
  sg [(39, true)] 52 (.mv (c (i 0))),
  sg [(39, true)] 53 (.mv (t 52)),
  sg [(39, true)] 54 (.ldB 2 3 1 false true),
  sg [(39, true)] 55 (.mx (t 51) (t 54)),
  kg [(39, true)] 56 19 [(t 41), (t 48), (t 55)] .sc,
  s 57 (.pick (t 39) (t 56) (c (.bool false))),
  s 4 (.mv (t 57))])
 .ret)), none, [4], [true, true]⟩
def i89 : Comp := ⟨(.seq (.ops [s 2 (.mv (c (.lst 4 true [])))])
 (.seq (.ops [s 5 (.bsl 4 []),
  s 3 (.mv (t 5))])
 (.seq (.seq (.ops [s 4 (.mv (c (i 1)))])
 (.block 0 (.loop (.seq (.seq (.ops [s 6 (.mv (t 4)),
  s 7 (.mv (t 0)),
  s 8 (.len false (t 7)),
  s 9 (.bin .lss (t 6) (t 8)),
  s 10 (.mv (t 9)),
  sg [(10, true)] 11 (.mv (t 0)),
  kg [(10, true)] 12 99 [(t 11)] .sc,
  s 13 (.pick (t 10) (t 12) (c (.bool false)))])
 (.cond (t 13) .skip (.exit 0)))
 (.seq (.block 1 (.ops [s 16 (.mv (t 3)),
  s 17 (.mv (t 0)),
  s 18 (.mv (t 4)),
  s 19 (.bin .sub (t 18) (c (i 1))),
  s 20 (.idx (t 17) (t 19) 2),
  s 21 (.ldE 17 20 0 2 true true 2),
  s 22 (.mv (t 0)),
  s 23 (.mv (t 4)),
  s 24 (.idx (t 22) (t 23) 2),
  s 25 (.ldE 22 24 0 2 true true 2),
  s 26 (.bld [(i 0), (i 0), (i 0), (i 0)] [(0, 2, (t 21)), (2, 2, (t 25))]),
  s 27 (.bsl 4 [(t 26)]),
  s 28 (.app (t 16) (t 27) 4 32),
  s 3 (.mv (t 28))]))
 (.ops [s 14 (.mv (t 4)),
  s 15 (.bin .add (t 14) (c (i 1))),
  s 4 (.mv (t 15))]))))))
 (.seq (.ops [s 29 (.mv (t 3)),
  s 2 (.mv (t 29))])
 .ret)))), none, [2], [false]⟩
def i90 : Comp := ⟨(.seq (.ops [s 2 (.mv (c (.lst 4 true [])))])
 (.seq (.seq (.ops [s 3 (.mv (t 0)),
  k 4 94 [(t 3)] .sc,
  s 5 (.not (t 4))])
 (.cond (t 5) (.seq (.ops [s 6 (.bsl 4 []),
  s 2 (.mv (t 6))])
 .ret) .skip))
 (.seq (.ops [s 7 (.mv (t 0)),
  k 8 100 [(t 7)] .lin,
  s 2 (.mv (t 8))])
 .ret))), none, [2], [false]⟩
def i91 : Comp := ⟨(.seq (.ops [s 2 (.mv (c (.bool false)))])
 (.seq (.seq (.ops [s 3 (.mv (c (i 0)))])
 (.block 0 (.loop (.seq (.seq (.ops [s 4 (.mv (t 3)),
  s 5 (.mv (t 0)),
  s 6 (.len true (t 5)),
  s 7 (.bin .lss (t 4) (t 6))])
 (.cond (t 7) .skip (.exit 0)))
 (.seq (.block 1 (.seq (.ops [s 10 (.mv (t 0)),
  s 11 (.mv (t 3)),
  s 12 (.six (t 10) (t 11)),
  s 13 (.bin .lss (t 12) (c (.int .u8 (97)))),
  s 14 (.mv (t 13)),
  sg [(14, false)] 15 (.mv (t 0)),
  sg [(14, false)] 16 (.mv (t 3)),
  sg [(14, false)] 17 (.six (t 15) (t 16)),
  sg [(14, false)] 18 (.bin .gtr (t 17) (c (.int .u8 (122)))),
  s 19 (.pick (t 14) (c (.bool true)) (t 18))])
 (.cond (t 19) (.seq (.ops [s 2 (.mv (c (.bool false)))])
 .ret) .skip)))
 (.ops [s 8 (.mv (t 3)),
  s 9 (.bin .add (t 8) (c (i 1))),
  s 3 (.mv (t 9))]))))))
 (.seq (.ops [s 20 (.mv (t 0)),
  s 21 (.len true (t 20)),
  k 22 59 [(t 21), (c (i 1)), (c (i 8))] .sc,
  s 2 (.mv (t 22))])
 .ret))), none, [2], [true]⟩
def i92 : Comp := ⟨(.seq (.ops [s 1 (.box 2 (t 0)),
  s 2 (.mv (c (.bool false)))])
 (.seq (.ops [s 3 (.mv (c (i 0))),
  s 4 (.ldB 1 0 1 false true),
  k 5 59 [(t 4), (c (i 0)), (c (i 200))] .sc,
  s 6 (.mv (t 5)),
  sg [(6, true)] 7 (.mv (c (i 0))),
  sg [(6, true)] 8 (.ldB 1 1 1 false true),
  kg [(6, true)] 9 59 [(t 8), (c (i 0)), (c (i 200))] .sc,
  s 10 (.pick (t 6) (t 9) (c (.bool false))),
  s 2 (.mv (t 10))])
 .ret)), none, [2], [true]⟩
def i93 : Comp := ⟨(.seq (.ops [s 2 (.mv (c (.bool false)))])
 (.seq (.ops [s 7 (.mv (t 0)),
  k 8 89 [(t 7)] .lin,
  s 3 (.mv (t 8))])
 (.seq (.seq (.ops [s 4 (.mv (c (i 0)))])
 (.block 0 (.loop (.seq (.seq (.ops [s 9 (.mv (t 4)),
  s 10 (.mv (t 3)),
  s 11 (.len false (t 10)),
  s 12 (.bin .lss (t 9) (t 11))])
 (.cond (t 12) .skip (.exit 0)))
 (.seq (.block 1 (.seq (.ops [s 5 (.mv (c (i 0)))])
 (.block 2 (.loop (.seq (.seq (.ops [s 15 (.mv (t 5)),
  s 16 (.mv (t 4)),
  s 17 (.bin .lss (t 15) (t 16))])
 (.cond (t 17) .skip (.exit 2)))
 (.seq (.block 3 (.seq (.ops [s 6 (.mv (c (i 0)))])
 (.seq (.seq (.ops [s 20 (.mv (t 5)),
  s 21 (.bin .add (t 20) (c (i 1))),
  s 22 (.mv (t 4)),
  s 23 (.bin .eql (t 21) (t 22))])
 (.cond (t 23) (.ops [s 6 (.mv (c (i 1)))]) .skip))
 (.seq (.ops [s 24 (.mv (t 3)),
  s 25 (.mv (t 4)),
  s 26 (.idx (t 24) (t 25) 4),
  s 27 (.ldE 24 26 0 4 true true 4),
  s 28 (.mv (t 3)),
  s 29 (.mv (t 5)),
  s 30 (.idx (t 28) (t 29) 4),
  s 31 (.ldE 28 30 0 4 true true 4),
  k 32 101 [(t 27), (t 31)] .sc,
  s 33 (.mv (t 6)),
  s 34 (.bin .neq (t 32) (t 33))])
 (.cond (t 34) (.seq (.ops [s 2 (.mv (c (.bool false)))])
 .ret) .skip)))))
 (.ops [s 18 (.mv (t 5)),
  s 19 (.bin .add (t 18) (c (i 1))),
  s 5 (.mv (t 19))])))))))
 (.ops [s 13 (.mv (t 4)),
  s 14 (.bin .add (t 13) (c (i 1))),
  s 4 (.mv (t 14))]))))))
 (.seq (.ops [s 35 (.mv (t 0)),
  k 36 99 [(t 35)] .sc,
  s 2 (.mv (t 36))])
 .ret)))), none, [2], [false]⟩
def i94 : Comp := ⟨(.seq (.ops [s 2 (.mv (c (.bool false)))])
 (.seq (.seq (.ops [s 7 (.mv (t 0)),
  s 8 (.len false (t 7)),
  k 9 59 [(t 8), (c (i 3)), (c (i 10))] .sc,
  s 10 (.not (t 9))])
 (.cond (t 10) (.seq (.ops [s 2 (.mv (c (.bool false)))])
 .ret) .skip))
 (.seq (.ops [s 11 (.mv (t 0)),
  k 12 100 [(t 11)] .lin,
  s 3 (.mv (t 12))])
 (.seq (.seq (.ops [s 4 (.mv (c (i 0)))])
 (.block 0 (.loop (.seq (.seq (.ops [s 13 (.mv (t 4)),
  s 14 (.mv (t 3)),
  s 15 (.len false (t 14)),
  s 16 (.bin .lss (t 13) (t 15))])
 (.cond (t 16) .skip (.exit 0)))
 (.seq (.block 1 (.seq (.seq (.ops [s 19 (.mv (t 3)),
  s 20 (.mv (t 4)),
  s 21 (.idx (t 19) (t 20) 4),
  s 22 (.ldE 19 21 0 4 true true 4),
  k 23 102 [(t 22)] .sc,
  s 24 (.not (t 23))])
 (.cond (t 24) (.seq (.ops [s 2 (.mv (c (.bool false)))])
 .ret) .skip))
 (.seq (.ops [s 5 (.mv (c (i 0)))])
 (.block 2 (.loop (.seq (.seq (.ops [s 25 (.mv (t 5)),
  s 26 (.mv (t 4)),
  s 27 (.bin .lss (t 25) (t 26))])
 (.cond (t 27) .skip (.exit 2)))
 (.seq (.block 3 (.seq (.ops [s 6 (.mv (c (i 0)))])
 (.seq (.seq (.ops [s 30 (.mv (t 5)),
  s 31 (.bin .add (t 30) (c (i 1))),
  s 32 (.mv (t 4)),
  s 33 (.bin .eql (t 31) (t 32)),
  s 34 (.mv (t 33)),
  sg [(34, false)] 35 (.mv (t 5)),
  sg [(34, false)] 36 (.bin .eql (t 35) (c (i 0))),
  sg [(34, false)] 37 (.mv (t 36)),
  sg [(37, true), (34, false)] 38 (.mv (t 4)),
  sg [(37, true), (34, false)] 39 (.bin .add (t 38) (c (i 1))),
  sg [(37, true), (34, false)] 40 (.mv (t 3)),
  sg [(37, true), (34, false)] 41 (.len false (t 40)),
  sg [(37, true), (34, false)] 42 (.bin .eql (t 39) (t 41)),
  sg [(34, false)] 43 (.pick (t 37) (t 42) (c (.bool false))),
  s 44 (.pick (t 34) (c (.bool true)) (t 43))])
 (.cond (t 44) (.ops [s 6 (.mv (c (i 1)))]) .skip))
 (.seq (.ops [s 45 (.mv (t 3)),
  s 46 (.mv (t 4)),
  s 47 (.idx (t 45) (t 46) 4),
  s 48 (.ldE 45 47 0 4 true true 4),
  s 49 (.mv (t 3)),
  s 50 (.mv (t 5)),
  s 51 (.idx (t 49) (t 50) 4),
  s 52 (.ldE 49 51 0 4 true true 4),
  k 53 101 [(t 48), (t 52)] .sc,
  s 54 (.mv (t 6)),
  s 55 (.bin .neq (t 53) (t 54))])
 (.cond (t 55) (.seq (.ops [s 2 (.mv (c (.bool false)))])
 .ret) .skip)))))
 (.ops [s 28 (.mv (t 5)),
  s 29 (.bin .add (t 28) (c (i 1))),
  s 5 (.mv (t 29))]))))))))
 (.ops [s 17 (.mv (t 4)),
  s 18 (.bin .add (t 17) (c (i 1))),
  s 4 (.mv (t 18))]))))))
 (.seq (.ops [s 2 (.mv (c (.bool true)))])
 .ret))))), none, [2], [false]⟩
def i95 : Comp := ⟨(.seq (.ops [s 2 (.box 4 (t 0)),
  s 3 (.box 4 (t 1)),
  s 4 (.mv (c (i 0))),
  s 5 (.mv (c (i 0)))])
 (.seq (.ops [s 6 (.mv (c (i 0))),
  s 7 (.mv (t 6)),
  s 8 (.ldB 2 2 1 false true),
  s 9 (.mv (c (i 0))),
  s 10 (.mv (t 9)),
  s 11 (.ldB 3 2 1 false true),
  s 12 (.mn (t 8) (t 11)),
  s 13 (.mv (c (i 0))),
  s 14 (.mv (t 13)),
  s 15 (.ldB 2 0 1 false true),
  s 16 (.mv (c (i 0))),
  s 17 (.mv (t 16)),
  s 18 (.ldB 3 0 1 false true),
  s 19 (.mx (t 15) (t 18)),
  s 20 (.bin .sub (t 12) (t 19)),
  s 21 (.mv (c (i 0))),
  s 22 (.mv (t 21)),
  s 23 (.ldB 2 3 1 false true),
  s 24 (.mv (c (i 0))),
  s 25 (.mv (t 24)),
  s 26 (.ldB 3 3 1 false true),
  s 27 (.mn (t 23) (t 26)),
  s 28 (.mv (c (i 0))),
  s 29 (.mv (t 28)),
  s 30 (.ldB 2 1 1 false true),
  s 31 (.mv (c (i 0))),
  s 32 (.mv (t 31)),
  s 33 (.ldB 3 1 1 false true),
  s 34 (.mx (t 30) (t 33)),
  s 35 (.bin .sub (t 27) (t 34)),
  s 4 (.mv (t 20)),
  s 5 (.mv (t 35))])
 .ret)), none, [4, 5], [true, true]⟩
def i96 : Comp := ⟨(.seq (.ops [s 4 (.mv (c (i 0)))])
 (.seq (.ops [s 7 (.mv (t 0)),
  k 8 103 [(t 7)] .sc,
  s 5 (.mv (t 8))])
 (.seq (.ops [s 9 (.mv (t 1)),
  k 10 103 [(t 9)] .sc,
  s 6 (.mv (t 10))])
 (.seq (.seq (.ops [s 11 (.mv (t 5))])
 (.cond (t 11) (.seq (.seq (.ops [s 12 (.mv (t 6))])
 (.cond (t 12) (.seq (.ops [s 4 (.mv (c (i 0)))])
 .ret) .skip))
 (.seq (.ops [s 4 (.mv (c (i (-1))))])
 .ret)) .skip))
 (.seq (.seq (.ops [s 13 (.mv (t 6))])
 (.cond (t 13) (.seq (.ops [s 4 (.mv (c (i 1)))])
 .ret) .skip))
 (.seq (.seq (.ops [s 14 (.mv (t 0)),
  s 15 (.mv (t 1)),
  s 16 (.bin .lss (t 14) (t 15))])
 (.cond (t 16) (.seq (.ops [s 4 (.mv (c (i (-1))))])
 .ret) .skip))
 (.seq (.seq (.ops [s 17 (.mv (t 0)),
  s 18 (.mv (t 1)),
  s 19 (.bin .gtr (t 17) (t 18))])
 (.cond (t 19) (.seq (.ops [s 4 (.mv (c (i 1)))])
 .ret) .skip))
 (.seq (.ops [s 4 (.mv (c (i 0)))])
 .ret)))))))), none, [4], [true, true]⟩
def i97 : Comp := ⟨(.seq (.ops [s 3 (.box 2 (t 0)),
  s 4 (.box 2 (t 1)),
  s 5 (.box 2 (t 2)),
  s 6 (.mv (c (i 0)))])
 (.seq (.ops [s 7 (.mv (c (i 0))),
  s 8 (.ldB 4 0 1 false true),
  s 9 (.mv (c (i 0))),
  s 10 (.ldB 3 0 1 false true),
  s 11 (.bin .sub (t 8) (t 10)),
  s 12 (.mv (c (i 0))),
  s 13 (.ldB 5 1 1 false true),
  s 14 (.mv (c (i 0))),
  s 15 (.ldB 3 1 1 false true),
  s 16 (.bin .sub (t 13) (t 15)),
  s 17 (.bin .mul (t 11) (t 16)),
  s 18 (.mv (c (i 0))),
  s 19 (.ldB 4 1 1 false true),
  s 20 (.mv (c (i 0))),
  s 21 (.ldB 3 1 1 false true),
  s 22 (.bin .sub (t 19) (t 21)),
  s 23 (.mv (c (i 0))),
  s 24 (.ldB 5 0 1 false true),
  s 25 (.mv (c (i 0))),
  s 26 (.ldB 3 0 1 false true),
  s 27 (.bin .sub (t 24) (t 26)),
  s 28 (.bin .mul (t 22) (t 27)),
  s 29 (.bin .sub (t 17) (t 28)),
  s 6 (.mv (t 29))])
 .ret)), none, [6], [true, true, true]⟩
def i98 : Comp := ⟨(.seq (.ops [s 1 (.box 4 (t 0)),
  s 2 (.alc [(i 0), (i 0), (i 0), (i 0)])])
 (.seq (.ops [s 3 (.mv (c (i 0))),
  s 4 (.ldB 1 2 2 true true),
  s 5 (.mv (c (i 0))),
  s 6 (.ldB 1 0 2 true true),
  s 7 (.bld [(i 0), (i 0), (i 0), (i 0)] [(0, 2, (t 4)), (2, 2, (t 6))]),
  s 2 (.stB 2 0 4 (t 7) false)])
 .ret)), (some ⟨2, 92, 4, true⟩), [], [true]⟩
def i99 : Comp := ⟨(.seq (.ops [s 2 (.mv (c (.bool false)))])
 (.seq (.seq (.ops [s 3 (.mv (c (i 0)))])
 (.block 0 (.loop (.seq (.seq (.ops [s 4 (.mv (t 3)),
  s 5 (.mv (t 0)),
  s 6 (.len false (t 5)),
  s 7 (.bin .lss (t 4) (t 6))])
 (.cond (t 7) .skip (.exit 0)))
 (.seq (.block 1 (.seq (.ops [s 10 (.mv (t 0)),
  s 11 (.mv (t 3)),
  s 12 (.idx (t 10) (t 11) 2),
  s 13 (.ldE 10 12 0 2 true true 2),
  k 14 92 [(t 13)] .sc,
  s 15 (.not (t 14)),
  s 16 (.mv (t 15)),
  sg [(16, false)] 17 (.mv (t 3)),
  sg [(16, false)] 18 (.bin .gtr (t 17) (c (i 0))),
  sg [(16, false)] 19 (.mv (t 18)),
  sg [(19, true), (16, false)] 20 (.mv (t 0)),
  sg [(19, true), (16, false)] 21 (.mv (t 3)),
  sg [(19, true), (16, false)] 22 (.bin .sub (t 21) (c (i 1))),
  sg [(19, true), (16, false)] 23 (.idx (t 20) (t 22) 2),
  sg [(19, true), (16, false)] 24 (.ldE 20 23 0 2 true true 2),
  sg [(19, true), (16, false)] 25 (.mv (t 0)),
  sg [(19, true), (16, false)] 26 (.mv (t 3)),
  sg [(19, true), (16, false)] 27 (.idx (t 25) (t 26) 2),
  sg [(19, true), (16, false)] 28 (.ldE 25 27 0 2 true true 2),
  sg [(19, true), (16, false)] 29 (.eqa false [0, 0] (t 24) (t 28)),
  sg [(16, false)] 30 (.pick (t 19) (t 29) (c (.bool false))),
  s 31 (.pick (t 16) (c (.bool true)) (t 30))])
 (.cond (t 31) (.seq (.ops [s 2 (.mv (c (.bool false)))])
 .ret) .skip)))
 (.ops [s 8 (.mv (t 3)),
  s 9 (.bin .add (t 8) (c (i 1))),
  s 3 (.mv (t 9))]))))))
 (.seq (.ops [s 32 (.mv (t 0)),
  s 33 (.len false (t 32)),
  k 34 59 [(t 33), (c (i 2)), (c (i 10))] .sc,
  s 2 (.mv (t 34))])
 .ret))), none, [2], [false]⟩
def i100 : Comp := ⟨(.seq (.ops [s 2 (.mv (c (.lst 4 true [])))])
 (.seq (.ops [s 5 (.bsl 4 []),
  s 3 (.mv (t 5))])
 (.seq (.seq (.ops [s 4 (.mv (c (i 0)))])
 (.block 0 (.loop (.seq (.seq (.ops [s 6 (.mv (t 4)),
  s 7 (.mv (t 0)),
  s 8 (.len false (t 7)),
  s 9 (.bin .lss (t 6) (t 8))])
 (.cond (t 9) .skip (.exit 0)))
 (.seq (.block 1 (.ops [s 12 (.mv (t 3)),
  s 13 (.mv (t 0)),
  s 14 (.mv (t 4)),
  s 15 (.idx (t 13) (t 14) 2),
  s 16 (.ldE 13 15 0 2 true true 2),
  s 17 (.mv (t 0)),
  s 18 (.mv (t 4)),
  s 19 (.bin .add (t 18) (c (i 1))),
  s 20 (.mv (t 0)),
  s 21 (.len false (t 20)),
  s 22 (.bin .rem (t 19) (t 21)),
  s 23 (.idx (t 17) (t 22) 2),
  s 24 (.ldE 17 23 0 2 true true 2),
  s 25 (.bld [(i 0), (i 0), (i 0), (i 0)] [(0, 2, (t 16)), (2, 2, (t 24))]),
  s 26 (.bsl 4 [(t 25)]),
  s 27 (.app (t 12) (t 26) 4 32),
  s 3 (.mv (t 27))]))
 (.ops [s 10 (.mv (t 4)),
  s 11 (.bin .add (t 10) (c (i 1))),
  s 4 (.mv (t 11))]))))))
 (.seq (.ops [s 28 (.mv (t 3)),
  s 2 (.mv (t 28))])
 .ret)))), none, [2], [false]⟩
def i101 : Comp := ⟨(.seq (.ops [s 2 (.box 4 (t 0)),
  s 3 (.box 4 (t 1)),
  s 4 (.mv (c (i 0)))])
 (.seq (.seq (.ops [s 5 (.ldB 2 0 4 true true),
  k 6 102 [(t 5)] .sc,
  s 7 (.not (t 6)),
  s 8 (.mv (t 7)),
  sg [(8, false)] 9 (.ldB 3 0 4 true true),
  kg [(8, false)] 10 102 [(t 9)] .sc,
  sg [(8, false)] 11 (.not (t 10)),
  s 12 (.pick (t 8) (c (.bool true)) (t 11))])
 (.cond (t 12) (.seq (.ops [s 4 (.mv (c (i 0)))])
 .ret) .skip))
 (.seq (.seq (.ops [s 13 (.mv (c (i 0))),
  s 14 (.mv (t 13)),
  s 15 (.ldB 2 0 1 false true),
  s 16 (.mv (c (i 0))),
  s 17 (.mv (t 16)),
  s 18 (.ldB 2 2 1 false true),
  k 19 104 [(t 15), (t 18)] .sc,
  s 20 (.mv (c (i 0))),
  s 21 (.mv (t 20)),
  s 22 (.ldB 3 0 1 false true),
  s 23 (.mv (c (i 0))),
  s 24 (.mv (t 23)),
  s 25 (.ldB 3 2 1 false true),
  k 26 64 [(t 22), (t 25)] .sc,
  s 27 (.bin .lss (t 19) (t 26)),
  s 28 (.mv (t 27)),
  sg [(28, false)] 29 (.mv (c (i 0))),
  sg [(28, false)] 30 (.mv (t 29)),
  sg [(28, false)] 31 (.ldB 3 0 1 false true),
  sg [(28, false)] 32 (.mv (c (i 0))),
  sg [(28, false)] 33 (.mv (t 32)),
  sg [(28, false)] 34 (.ldB 3 2 1 false true),
  kg [(28, false)] 35 104 [(t 31), (t 34)] .sc,
  sg [(28, false)] 36 (.mv (c (i 0))),
  sg [(28, false)] 37 (.mv (t 36)),
  sg [(28, false)] 38 (.ldB 2 0 1 false true),
  sg [(28, false)] 39 (.mv (c (i 0))),
  sg [(28, false)] 40 (.mv (t 39)),
  sg [(28, false)] 41 (.ldB 2 2 1 false true),
  kg [(28, false)] 42 64 [(t 38), (t 41)] .sc,
  sg [(28, false)] 43 (.bin .lss (t 35) (t 42)),
  s 44 (.pick (t 28) (c (.bool true)) (t 43)),
  s 45 (.mv (t 44)),
  sg [(45, false)] 46 (.mv (c (i 0))),
  sg [(45, false)] 47 (.mv (t 46)),
  sg [(45, false)] 48 (.ldB 2 1 1 false true),
  sg [(45, false)] 49 (.mv (c (i 0))),
  sg [(45, false)] 50 (.mv (t 49)),
  sg [(45, false)] 51 (.ldB 2 3 1 false true),
  kg [(45, false)] 52 104 [(t 48), (t 51)] .sc,
  sg [(45, false)] 53 (.mv (c (i 0))),
  sg [(45, false)] 54 (.mv (t 53)),
  sg [(45, false)] 55 (.ldB 3 1 1 false true),
  sg [(45, false)] 56 (.mv (c (i 0))),
  sg [(45, false)] 57 (.mv (t 56)),
  sg [(45, false)] 58 (.ldB 3 3 1 false true),
  kg [(45, false)] 59 64 [(t 55), (t 58)] .sc,
  sg [(45, false)] 60 (.bin .lss (t 52) (t 59)),
  s 61 (.pick (t 45) (c (.bool true)) (t 60)),
  s 62 (.mv (t 61)),
  sg [(62, false)] 63 (.mv (c (i 0))),
  sg [(62, false)] 64 (.mv (t 63)),
  sg [(62, false)] 65 (.ldB 3 1 1 false true),
  sg [(62, false)] 66 (.mv (c (i 0))),
  sg [(62, false)] 67 (.mv (t 66)),
  sg [(62, false)] 68 (.ldB 3 3 1 false true),
  kg [(62, false)] 69 104 [(t 65), (t 68)] .sc,
  sg [(62, false)] 70 (.mv (c (i 0))),
  sg [(62, false)] 71 (.mv (t 70)),
  sg [(62, false)] 72 (.ldB 2 1 1 false true),
  sg [(62, false)] 73 (.mv (c (i 0))),
  sg [(62, false)] 74 (.mv (t 73)),
  sg [(62, false)] 75 (.ldB 2 3 1 false true),
  kg [(62, false)] 76 64 [(t 72), (t 75)] .sc,
  sg [(62, false)] 77 (.bin .lss (t 69) (t 76)),
  s 78 (.pick (t 62) (c (.bool true)) (t 77))])
 (.cond (t 78) (.seq (.ops [s 4 (.mv (c (i 0)))])
 .ret) .skip))
 (.seq (.seq (.ops [s 79 (.ldB 2 0 4 true true),
  s 80 (.ldB 3 0 4 true true),
  k 81 105 [(t 79), (t 80)] .sc])
 (.block 0 (.seq (.ops [s 83 (.bin .eql (t 81) (c (i 0))),
  s 82 (.mv (t 83))])
 (.cond (t 82) (.seq (.seq (.ops [s 84 (.mv (c (i 0))),
  s 85 (.ldB 2 0 2 true true),
  s 86 (.mv (c (i 0))),
  s 87 (.ldB 2 2 2 true true),
  s 88 (.mv (c (i 0))),
  s 89 (.ldB 3 0 2 true true),
  k 90 106 [(t 85), (t 87), (t 89)] .sc,
  s 91 (.mv (c (i 0))),
  s 92 (.ldB 2 0 2 true true),
  s 93 (.mv (c (i 0))),
  s 94 (.ldB 2 2 2 true true),
  s 95 (.mv (c (i 0))),
  s 96 (.ldB 3 2 2 true true),
  k 97 106 [(t 92), (t 94), (t 96)] .sc,
  s 98 (.bin .mul (t 90) (t 97)),
  s 99 (.bin .lss (t 98) (c (i 0))),
  s 100 (.mv (t 99)),
  sg [(100, true)] 101 (.mv (c (i 0))),
  sg [(100, true)] 102 (.ldB 3 0 2 true true),
  sg [(100, true)] 103 (.mv (c (i 0))),
  sg [(100, true)] 104 (.ldB 3 2 2 true true),
  sg [(100, true)] 105 (.mv (c (i 0))),
  sg [(100, true)] 106 (.ldB 2 0 2 true true),
  kg [(100, true)] 107 106 [(t 102), (t 104), (t 106)] .sc,
  sg [(100, true)] 108 (.mv (c (i 0))),
  sg [(100, true)] 109 (.ldB 3 0 2 true true),
  sg [(100, true)] 110 (.mv (c (i 0))),
  sg [(100, true)] 111 (.ldB 3 2 2 true true),
  sg [(100, true)] 112 (.mv (c (i 0))),
  sg [(100, true)] 113 (.ldB 2 2 2 true true),
  kg [(100, true)] 114 106 [(t 109), (t 111), (t 113)] .sc,
  sg [(100, true)] 115 (.bin .mul (t 107) (t 114)),
  sg [(100, true)] 116 (.bin .lss (t 115) (c (i 0))),
  s 117 (.pick (t 100) (t 116) (c (.bool false)))])
 (.cond (t 117) (.seq (.ops [s 4 (.mv (c (i 2)))])
 .ret) .skip))
 (.seq (.ops [s 4 (.mv (c (i 0)))])
 .ret)) (.seq (.ops [s 119 (.bin .eql (t 81) (c (i 1))),
  s 118 (.mv (t 119))])
 (.cond (t 118) (.seq (.ops [s 4 (.mv (c (i 1)))])
 .ret) .skip))))))
 (.seq (.ops [s 4 (.mv (c (i 3)))])
 .ret))))), none, [4], [true, true]⟩
def i102 : Comp := ⟨(.seq (.ops [s 1 (.box 4 (t 0)),
  s 2 (.mv (c (.bool false)))])
 (.seq (.ops [s 3 (.mv (c (i 0))),
  s 4 (.ldB 1 0 2 true true),
  k 5 92 [(t 4)] .sc,
  s 6 (.mv (t 5)),
  sg [(6, true)] 7 (.mv (c (i 0))),
  sg [(6, true)] 8 (.ldB 1 2 2 true true),
  kg [(6, true)] 9 92 [(t 8)] .sc,
  s 10 (.pick (t 6) (t 9) (c (.bool false))),
  s 11 (.mv (t 10)),
  sg [(11, true)] 12 (.mv (c (i 0))),
  sg [(11, true)] 13 (.ldB 1 0 2 true true),
  sg [(11, true)] 14 (.mv (c (i 0))),
  sg [(11, true)] 15 (.ldB 1 2 2 true true),
  sg [(11, true)] 16 (.eqa true [0, 0] (t 13) (t 15)),
  s 17 (.pick (t 11) (t 16) (c (.bool false))),
  s 2 (.mv (t 17))])
 .ret)), none, [2], [true]⟩
def i103 : Comp := ⟨(.seq (.ops [s 2 (.mv (c (.bool false)))])
 (.seq (.ops [s 3 (.mv (t 0)),
  s 4 (.mv (t 0)),
  s 5 (.bin .neq (t 3) (t 4)),
  s 2 (.mv (t 5))])
 .ret)), none, [2], [true]⟩
def i104 : Comp := ⟨(.seq (.ops [s 4 (.mv (c (i 0)))])
 (.seq (.seq (.ops [s 5 (.mv (t 1)),
  s 6 (.mv (t 0)),
  s 7 (.bin .gtr (t 5) (t 6))])
 (.cond (t 7) (.seq (.ops [s 8 (.mv (t 1)),
  s 4 (.mv (t 8))])
 .ret) .skip))
 (.seq (.ops [s 9 (.mv (t 0)),
  s 4 (.mv (t 9))])
 .ret))), none, [4], [true, true]⟩
def i105 : Comp := ⟨(.seq (.ops [s 2 (.box 4 (t 0)),
  s 3 (.box 4 (t 1)),
  s 4 (.mv (c (i 0)))])
 (.seq (.ops [s 10 (.bsl 2 []),
  s 5 (.mv (t 10))])
 (.seq (.ops [s 11 (.mv (c (i 0))),
  s 12 (.ldB 2 0 2 true true),
  s 13 (.mv (c (i 0))),
  s 14 (.ldB 2 2 2 true true),
  s 15 (.mv (c (i 0))),
  s 16 (.ldB 3 0 2 true true),
  s 17 (.mv (c (i 0))),
  s 18 (.ldB 3 2 2 true true),
  s 19 (.bsl 2 [(t 12), (t 14), (t 16), (t 18)]),
  s 6 (.mv (t 19))])
 (.seq (.seq (.ops [s 7 (.mv (c (i 0)))])
 (.block 0 (.loop (.seq (.seq (.ops [s 20 (.mv (t 7)),
  s 21 (.bin .lss (t 20) (c (i 4)))])
 (.cond (t 21) .skip (.exit 0)))
 (.seq (.block 1 (.seq (.ops [s 24 (.mv (t 7)),
  s 25 (.bin .lss (t 24) (c (i 2))),
  s 26 (.mv (t 25)),
  sg [(26, true)] 27 (.ldB 3 0 4 true true),
  sg [(26, true)] 28 (.mv (t 6)),
  sg [(26, true)] 29 (.mv (t 7)),
  sg [(26, true)] 30 (.idx (t 28) (t 29) 2),
  sg [(26, true)] 31 (.ldE 28 30 0 2 true true 2),
  kg [(26, true)] 32 107 [(t 27), (t 31)] .sc,
  s 33 (.pick (t 26) (t 32) (c (.bool false))),
  s 34 (.mv (t 33)),
  sg [(34, false)] 35 (.mv (t 7)),
  sg [(34, false)] 36 (.bin .geq (t 35) (c (i 2))),
  sg [(34, false)] 37 (.mv (t 36)),
  sg [(37, true), (34, false)] 38 (.ldB 2 0 4 true true),
  sg [(37, true), (34, false)] 39 (.mv (t 6)),
  sg [(37, true), (34, false)] 40 (.mv (t 7)),
  sg [(37, true), (34, false)] 41 (.idx (t 39) (t 40) 2),
  sg [(37, true), (34, false)] 42 (.ldE 39 41 0 2 true true 2),
  kg [(37, true), (34, false)] 43 107 [(t 38), (t 42)] .sc,
  sg [(34, false)] 44 (.pick (t 37) (t 43) (c (.bool false))),
  s 45 (.pick (t 34) (c (.bool true)) (t 44)),
  s 8 (.mv (t 45))])
 (.seq (.seq (.ops [s 9 (.mv (c (i 0)))])
 (.block 2 (.loop (.seq (.seq (.ops [s 46 (.mv (t 9)),
  s 47 (.mv (t 5)),
  s 48 (.len false (t 47)),
  s 49 (.bin .lss (t 46) (t 48))])
 (.cond (t 49) .skip (.exit 2)))
 (.seq (.block 3 (.ops [s 52 (.mv (t 8)),
  s 53 (.mv (t 52)),
  sg [(53, true)] 54 (.mv (t 5)),
  sg [(53, true)] 55 (.mv (t 9)),
  sg [(53, true)] 56 (.idx (t 54) (t 55) 2),
  sg [(53, true)] 57 (.ldE 54 56 0 2 true true 2),
  sg [(53, true)] 58 (.mv (t 6)),
  sg [(53, true)] 59 (.mv (t 7)),
  sg [(53, true)] 60 (.idx (t 58) (t 59) 2),
  sg [(53, true)] 61 (.ldE 58 60 0 2 true true 2),
  sg [(53, true)] 62 (.eqa true [0, 0] (t 57) (t 61)),
  s 63 (.pick (t 53) (t 62) (c (.bool false))),
  s 8 (.mv (t 63))]))
 (.ops [s 50 (.mv (t 9)),
  s 51 (.bin .add (t 50) (c (i 1))),
  s 9 (.mv (t 51))]))))))
 (.seq (.ops [s 64 (.mv (t 8))])
 (.cond (t 64) (.ops [s 65 (.mv (t 5)),
  s 66 (.mv (t 6)),
  s 67 (.mv (t 7)),
  s 68 (.idx (t 66) (t 67) 2),
  s 69 (.ldE 66 68 0 2 true true 2),
  s 70 (.bsl 2 [(t 69)]),
  s 71 (.app (t 65) (t 70) 2 16),
  s 5 (.mv (t 71))]) .skip)))))
 (.ops [s 22 (.mv (t 7)),
  s 23 (.bin .add (t 22) (c (i 1))),
  s 7 (.mv (t 23))]))))))
 (.seq (.ops [s 72 (.mv (t 5)),
  s 73 (.len false (t 72)),
  s 4 (.mv (t 73))])
 .ret))))), none, [4], [true, true]⟩
def i106 : Comp := ⟨(.seq (.ops [s 3 (.box 2 (t 0)),
  s 4 (.box 2 (t 1)),
  s 5 (.box 2 (t 2)),
  s 6 (.mv (c (i 0)))])
 (.seq (.seq (.ops [s 8 (.ldB 3 0 2 true true),
  k 9 92 [(t 8)] .sc,
  s 10 (.not (t 9)),
  s 11 (.mv (t 10)),
  sg [(11, false)] 12 (.ldB 4 0 2 true true),
  kg [(11, false)] 13 92 [(t 12)] .sc,
  sg [(11, false)] 14 (.not (t 13)),
  s 15 (.pick (t 11) (c (.bool true)) (t 14)),
  s 16 (.mv (t 15)),
  sg [(16, false)] 17 (.ldB 5 0 2 true true),
  kg [(16, false)] 18 92 [(t 17)] .sc,
  sg [(16, false)] 19 (.not (t 18)),
  s 20 (.pick (t 16) (c (.bool true)) (t 19))])
 (.cond (t 20) (.seq (.ops [s 6 (.mv (c (i 0)))])
 .ret) .skip))
 (.seq (.ops [s 21 (.ldB 3 0 2 true true),
  s 22 (.ldB 4 0 2 true true),
  s 23 (.ldB 5 0 2 true true),
  k 24 108 [(t 21), (t 22), (t 23)] .sc,
  s 7 (.mv (t 24))])
 (.seq (.block 0 (.seq (.ops [s 26 (.mv (t 7)),
  s 27 (.bin .gtr (t 26) (c (i 0))),
  s 25 (.mv (t 27))])
 (.cond (t 25) (.seq (.ops [s 6 (.mv (c (i 1)))])
 .ret) (.seq (.ops [s 29 (.mv (t 7)),
  s 30 (.bin .lss (t 29) (c (i 0))),
  s 28 (.mv (t 30))])
 (.cond (t 28) (.seq (.ops [s 6 (.mv (c (i (-1))))])
 .ret) .skip)))))
 (.seq (.ops [s 6 (.mv (c (i 0)))])
 .ret))))), none, [6], [true, true, true]⟩
def i107 : Comp := ⟨(.seq (.ops [s 2 (.box 4 (t 0)),
  s 3 (.box 2 (t 1)),
  s 4 (.mv (c (.bool false)))])
 (.seq (.ops [s 5 (.ldB 2 0 4 true true),
  k 6 102 [(t 5)] .sc,
  s 7 (.mv (t 6)),
  sg [(7, true)] 8 (.ldB 3 0 2 true true),
  kg [(7, true)] 9 92 [(t 8)] .sc,
  s 10 (.pick (t 7) (t 9) (c (.bool false))),
  s 11 (.mv (t 10)),
  sg [(11, true)] 12 (.mv (c (i 0))),
  sg [(11, true)] 13 (.ldB 2 0 2 true true),
  sg [(11, true)] 14 (.mv (c (i 0))),
  sg [(11, true)] 15 (.ldB 2 2 2 true true),
  sg [(11, true)] 16 (.ldB 3 0 2 true true),
  kg [(11, true)] 17 108 [(t 13), (t 15), (t 16)] .sc,
  sg [(11, true)] 18 (.bin .eql (t 17) (c (i 0))),
  s 19 (.pick (t 11) (t 18) (c (.bool false))),
  s 20 (.mv (t 19)),
  sg [(20, true)] 21 (.mv (c (i 0))),
  sg [(20, true)] 22 (.ldB 3 0 1 false true),
  sg [(20, true)] 23 (.mv (c (i 0))),
  sg [(20, true)] 24 (.mv (t 23)),
  sg [(20, true)] 25 (.ldB 2 0 1 false true),
  sg [(20, true)] 26 (.mv (c (i 0))),
  sg [(20, true)] 27 (.mv (t 26)),
  sg [(20, true)] 28 (.ldB 2 2 1 false true),
  kg [(20, true)] 29 64 [(t 25), (t 28)] .sc,
  sg [(20, true)] 30 (.mv (c (i 0))),
  sg [(20, true)] 31 (.mv (t 30)),
  sg [(20, true)] 32 (.ldB 2 0 1 false true),
  sg [(20, true)] 33 (.mv (c (i 0))),
  sg [(20, true)] 34 (.mv (t 33)),
  sg [(20, true)] 35 (.ldB 2 2 1 false true),
  kg [(20, true)] 36 104 [(t 32), (t 35)] .sc,
  kg [(20, true)] 37 59 [(t 22), (t 29), (t 36)] .sc,
  s 38 (.pick (t 20) (t 37) (c (.bool false))),
  s 39 (.mv (t 38)),
  sg [(39, true)] 40 (.mv (c (i 0))),
  sg [(39, true)] 41 (.ldB 3 1 1 false true),
  sg [(39, true)] 42 (.mv (c (i 0))),
  sg [(39, true)] 43 (.mv (t 42)),
  sg [(39, true)] 44 (.ldB 2 1 1 false true),
  sg [(39, true)] 45 (.mv (c (i 0))),
  sg [(39, true)] 46 (.mv (t 45)),
  sg [(39, true)] 47 (.ldB 2 3 1 false true),
  kg [(39, true)] 48 64 [(t 44), (t 47)] .sc,
  sg [(39, true)] 49 (.mv (c (i 0))),
  sg [(39, true)] 50 (.mv (t 49)),
  sg [(39, true)] 51 (.ldB 2 1 1 false true),
  sg [(39, true)] 52 (.mv (c (i 0))),
  sg [(39, true)] 53 (.mv (t 52)),
  sg [(39, true)] 54 (.ldB 2 3 1 false true),
  kg [(39, true)] 55 104 [(t 51), (t 54)] .sc,
  kg [(39, true)] 56 59 [(t 41), (t 48), (t 55)] .sc,
  s 57 (.pick (t 39) (t 56) (c (.bool false))),
  s 4 (.mv (t 57))])
 .ret)), none, [4], [true, true]⟩
def i108 : Comp := ⟨(.seq (.ops [s 3 (.box 2 (t 0)),
  s 4 (.box 2 (t 1)),
  s 5 (.box 2 (t 2)),
  s 6 (.mv (c (i 0)))])
 (.seq (.ops [s 7 (.mv (c (i 0))),
  s 8 (.ldB 4 0 1 false true),
  s 9 (.mv (c (i 0))),
  s 10 (.ldB 3 0 1 false true),
  s 11 (.bin .sub (t 8) (t 10)),
  s 12 (.mv (c (i 0))),
  s 13 (.ldB 5 1 1 false true),
  s 14 (.mv (c (i 0))),
  s 15 (.ldB 3 1 1 false true),
  s 16 (.bin .sub (t 13) (t 15)),
  s 17 (.bin .mul (t 11) (t 16)),
  s 18 (.mv (c (i 0))),
  s 19 (.ldB 4 1 1 false true),
  s 20 (.mv (c (i 0))),
  s 21 (.ldB 3 1 1 false true),
  s 22 (.bin .sub (t 19) (t 21)),
  s 23 (.mv (c (i 0))),
  s 24 (.ldB 5 0 1 false true),
  s 25 (.mv (c (i 0))),
  s 26 (.ldB 3 0 1 false true),
  s 27 (.bin .sub (t 24) (t 26)),
  s 28 (.bin .mul (t 22) (t 27)),
  s 29 (.bin .sub (t 17) (t 28)),
  s 6 (.mv (t 29))])
 .ret)), none, [6], [true, true, true]⟩
def X : Cx := { tab := tbs, sig := sgs, wf := wfs, xf := xfs, rf := rfs, tl := tls }
end Go.Eng
namespace Go.Eng
open Go Go.Proofs
theorem hX : TabOK Tryz.prog X := TabOK.of (by kernel_rfl)
theorem c3 : compP Tryz.prog X 3 = some i3 := by kernel_rfl
theorem c4 : compP Tryz.prog X 4 = some i4 := by kernel_rfl
theorem c5 : compD Tryz.prog X 5 = some i5 := by kernel_rfl
theorem c6 : compP Tryz.prog X 6 = some i6 := by kernel_rfl
theorem c7 : compP Tryz.prog X 7 = some i7 := by kernel_rfl
theorem c8 : compP Tryz.prog X 8 = some i8 := by kernel_rfl
theorem c9 : compP Tryz.prog X 9 = some i9 := by kernel_rfl
theorem c10 : compP Tryz.prog X 10 = some i10 := by kernel_rfl
theorem c11 : compD Tryz.prog X 11 = some i11 := by kernel_rfl
theorem c13 : compC Tryz.prog X 13 = some i13 := by kernel_rfl
theorem c15 : compC Tryz.prog X 15 = some i15 := by kernel_rfl
theorem c16 : compP Tryz.prog X 16 = some i16 := by kernel_rfl
theorem c17 : compP Tryz.prog X 17 = some i17 := by kernel_rfl
theorem c18 : compP Tryz.prog X 18 = some i18 := by kernel_rfl
theorem c19 : compP Tryz.prog X 19 = some i19 := by kernel_rfl
theorem c20 : compP Tryz.prog X 20 = some i20 := by kernel_rfl
theorem c21 : compP Tryz.prog X 21 = some i21 := by kernel_rfl
theorem c22 : compP Tryz.prog X 22 = some i22 := by kernel_rfl
theorem c23 : compP Tryz.prog X 23 = some i23 := by kernel_rfl
theorem c24 : compC Tryz.prog X 24 = some i24 := by kernel_rfl
theorem c25 : compP Tryz.prog X 25 = some i25 := by kernel_rfl
theorem c26 : compC Tryz.prog X 26 = some i26 := by kernel_rfl
theorem c27 : compC Tryz.prog X 27 = some i27 := by kernel_rfl
theorem c28 : compC Tryz.prog X 28 = some i28 := by kernel_rfl
theorem c30 : compC Tryz.prog X 30 = some i30 := by kernel_rfl
theorem c31 : compP Tryz.prog X 31 = some i31 := by kernel_rfl
theorem c32 : compP Tryz.prog X 32 = some i32 := by kernel_rfl
theorem c33 : compP Tryz.prog X 33 = some i33 := by kernel_rfl
theorem c34 : compP Tryz.prog X 34 = some i34 := by kernel_rfl
theorem c35 : compP Tryz.prog X 35 = some i35 := by kernel_rfl
theorem c36 : compP Tryz.prog X 36 = some i36 := by kernel_rfl
theorem c37 : compP Tryz.prog X 37 = some i37 := by kernel_rfl
theorem c38 : compP Tryz.prog X 38 = some i38 := by kernel_rfl
theorem c39 : compP Tryz.prog X 39 = some i39 := by kernel_rfl
theorem c40 : compP Tryz.prog X 40 = some i40 := by kernel_rfl
theorem c41 : compC Tryz.prog X 41 = some i41 := by kernel_rfl
theorem c43 : compC Tryz.prog X 43 = some i43 := by kernel_rfl
theorem c44 : compC Tryz.prog X 44 = some i44 := by kernel_rfl
theorem c45 : compP Tryz.prog X 45 = some i45 := by kernel_rfl
theorem c46 : compP Tryz.prog X 46 = some i46 := by kernel_rfl
theorem c47 : compP Tryz.prog X 47 = some i47 := by kernel_rfl
theorem c48 : compP Tryz.prog X 48 = some i48 := by kernel_rfl
theorem c49 : compP Tryz.prog X 49 = some i49 := by kernel_rfl
theorem c50 : compP Tryz.prog X 50 = some i50 := by kernel_rfl
theorem c51 : compP Tryz.prog X 51 = some i51 := by kernel_rfl
theorem c52 : compP Tryz.prog X 52 = some i52 := by kernel_rfl
theorem c53 : compP Tryz.prog X 53 = some i53 := by kernel_rfl
theorem c54 : compP Tryz.prog X 54 = some i54 := by kernel_rfl
theorem c55 : compP Tryz.prog X 55 = some i55 := by kernel_rfl
theorem c56 : compP Tryz.prog X 56 = some i56 := by kernel_rfl
theorem c57 : compP Tryz.prog X 57 = some i57 := by kernel_rfl
theorem c58 : compP Tryz.prog X 58 = some i58 := by kernel_rfl
theorem c59 : compP Tryz.prog X 59 = some i59 := by kernel_rfl
theorem c60 : compP Tryz.prog X 60 = some i60 := by kernel_rfl
theorem c61 : compC Tryz.prog X 61 = some i61 := by kernel_rfl
theorem c62 : compC Tryz.prog X 62 = some i62 := by kernel_rfl
theorem c63 : compC Tryz.prog X 63 = some i63 := by kernel_rfl
theorem c64 : compP Tryz.prog X 64 = some i64 := by kernel_rfl
theorem c65 : compC Tryz.prog X 65 = some i65 := by kernel_rfl
theorem c66 : compP Tryz.prog X 66 = some i66 := by kernel_rfl
theorem c67 : compP Tryz.prog X 67 = some i67 := by kernel_rfl
theorem c68 : compP Tryz.prog X 68 = some i68 := by kernel_rfl
theorem c69 : compP Tryz.prog X 69 = some i69 := by kernel_rfl
theorem c70 : compP Tryz.prog X 70 = some i70 := by kernel_rfl
theorem c71 : compP Tryz.prog X 71 = some i71 := by kernel_rfl
theorem c72 : compP Tryz.prog X 72 = some i72 := by kernel_rfl
theorem c73 : compP Tryz.prog X 73 = some i73 := by kernel_rfl
theorem c74 : compP Tryz.prog X 74 = some i74 := by kernel_rfl
theorem c75 : compP Tryz.prog X 75 = some i75 := by kernel_rfl
theorem c76 : compP Tryz.prog X 76 = some i76 := by kernel_rfl
theorem c77 : compP Tryz.prog X 77 = some i77 := by kernel_rfl
theorem c78 : compP Tryz.prog X 78 = some i78 := by kernel_rfl
theorem c79 : compP Tryz.prog X 79 = some i79 := by kernel_rfl
theorem c80 : compP Tryz.prog X 80 = some i80 := by kernel_rfl
theorem c81 : compP Tryz.prog X 81 = some i81 := by kernel_rfl
theorem c82 : compP Tryz.prog X 82 = some i82 := by kernel_rfl
theorem c83 : compP Tryz.prog X 83 = some i83 := by kernel_rfl
theorem c84 : compP Tryz.prog X 84 = some i84 := by kernel_rfl
theorem c85 : compP Tryz.prog X 85 = some i85 := by kernel_rfl
theorem c86 : compP Tryz.prog X 86 = some i86 := by kernel_rfl
theorem c87 : compP Tryz.prog X 87 = some i87 := by kernel_rfl
theorem c88 : compP Tryz.prog X 88 = some i88 := by kernel_rfl
theorem c89 : compP Tryz.prog X 89 = some i89 := by kernel_rfl
theorem c90 : compP Tryz.prog X 90 = some i90 := by kernel_rfl
theorem c91 : compP Tryz.prog X 91 = some i91 := by kernel_rfl
theorem c92 : compP Tryz.prog X 92 = some i92 := by kernel_rfl
theorem c93 : compP Tryz.prog X 93 = some i93 := by kernel_rfl
theorem c94 : compP Tryz.prog X 94 = some i94 := by kernel_rfl
theorem c95 : compP Tryz.prog X 95 = some i95 := by kernel_rfl
theorem c96 : compP Tryz.prog X 96 = some i96 := by kernel_rfl
theorem c97 : compP Tryz.prog X 97 = some i97 := by kernel_rfl
theorem c98 : compP Tryz.prog X 98 = some i98 := by kernel_rfl
theorem c99 : compP Tryz.prog X 99 = some i99 := by kernel_rfl
theorem c100 : compP Tryz.prog X 100 = some i100 := by kernel_rfl
theorem c101 : compP Tryz.prog X 101 = some i101 := by kernel_rfl
theorem c102 : compP Tryz.prog X 102 = some i102 := by kernel_rfl
theorem c103 : compP Tryz.prog X 103 = some i103 := by kernel_rfl
theorem c104 : compP Tryz.prog X 104 = some i104 := by kernel_rfl
theorem c105 : compP Tryz.prog X 105 = some i105 := by kernel_rfl
theorem c106 : compP Tryz.prog X 106 = some i106 := by kernel_rfl
theorem c107 : compP Tryz.prog X 107 = some i107 := by kernel_rfl
theorem c108 : compP Tryz.prog X 108 = some i108 := by kernel_rfl
end Go.Eng
