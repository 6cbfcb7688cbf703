/- A part of the proof of a law's statement: for every input the law returns true and leaves its arguments as they were. No condition beyond the statement's own. The laws' functions in that calculus, checked by the kernel against the program. -/
import Derived.Test.YtgkichfdmgkfmaaProg
import Derived.Test.YtgkichfdmgkfmaaXe2
set_option linter.unusedVariables false
set_option linter.unusedSimpArgs false
set_option autoImplicit true
set_option relaxedAutoImplicit true
namespace Go.Eng
open Go
def tbs : List (Option TI) := [some ⟨(.tup []), 1, 0, [.junk], false⟩,
  some ⟨.func, 1, 8, [.junk], false⟩,
  some ⟨(.int .i64), 1, 8, [(i 0)], false⟩,
  some ⟨(.int .i64), 1, 8, [(i 0)], false⟩,
  some ⟨.bool, 1, 1, [(.bool false)], false⟩,
  some ⟨(.int .u8), 1, 1, [(.int .u8 (0))], false⟩,
  some ⟨(.int .u8), 1, 1, [(.int .u8 (0))], false⟩,
  some ⟨(.struct [(0, 2), (1, 3), (2, 4), (3, 6)]), 4, 24, [(i 0), (i 0), (.bool false), (.int .u8 (0))], true⟩,
  some ⟨(.struct [(0, 2), (1, 3), (2, 4), (3, 6)]), 4, 24, [(i 0), (i 0), (.bool false), (.int .u8 (0))], true⟩,
  some ⟨.str, 1, 16, [(.str (bs []))], false⟩,
  some ⟨.str, 1, 16, [(.str (bs []))], false⟩,
  some ⟨.str, 1, 16, [(.str (bs []))], false⟩,
  some ⟨(.int .u64), 1, 8, [(.int .u64 (0))], false⟩,
  some ⟨(.struct [(0, 9), (1, 12)]), 2, 24, [(.str (bs [])), (.int .u64 (0))], false⟩,
  some ⟨(.struct [(0, 9), (1, 12)]), 2, 24, [(.str (bs [])), (.int .u64 (0))], false⟩,
  some ⟨(.ptr 55), 1, 8, [.junk], false⟩,
  some ⟨(.ptr 58), 1, 8, [.junk], false⟩,
  some ⟨(.ptr 68), 1, 8, [.junk], false⟩,
  some ⟨(.struct [(0, 17)]), 1, 8, [.junk], false⟩,
  some ⟨(.struct [(0, 17)]), 1, 8, [.junk], false⟩,
  some ⟨.other, 1, 16, [.junk], false⟩,
  some ⟨(.int .i32), 1, 4, [(.int .i32 (0))], false⟩,
  some ⟨(.slice 33), 1, 24, [(.lst 8 true [])], false⟩,
  some ⟨.func, 1, 8, [.junk], false⟩,
  some ⟨.func, 1, 8, [.junk], false⟩,
  some ⟨(.slice 39), 1, 24, [(.lst 8 true [])], false⟩,
  some ⟨.func, 1, 8, [.junk], false⟩,
  some ⟨.func, 1, 8, [.junk], false⟩,
  some ⟨.func, 1, 8, [.junk], false⟩,
  some ⟨(.slice 51), 1, 24, [(.lst 2 true [])], false⟩,
  some ⟨(.struct [(0, 3), (1, 3), (2, 3), (3, 9), (4, 29)]), 5, 64, [(i 0), (i 0), (i 0), (.str (bs [])), (.lst 2 true [])], true⟩,
  some ⟨(.struct [(0, 3), (1, 3), (2, 3), (3, 9), (4, 29)]), 5, 64, [(i 0), (i 0), (i 0), (.str (bs [])), (.lst 2 true [])], true⟩,
  some ⟨(.struct [(0, 31), (5, 3), (6, 3), (7, 4)]), 8, 88, [(i 0), (i 0), (i 0), (.str (bs [])), (.lst 2 true []), (i 0), (i 0), (.bool false)], true⟩,
  some ⟨(.struct [(0, 31), (5, 3), (6, 3), (7, 4)]), 8, 88, [(i 0), (i 0), (i 0), (.str (bs [])), (.lst 2 true []), (i 0), (i 0), (.bool false)], true⟩,
  some ⟨.func, 1, 8, [.junk], false⟩,
  some ⟨(.slice 47), 1, 24, [(.lst 2 true [])], false⟩,
  some ⟨(.struct [(0, 3), (1, 3), (2, 3), (3, 9), (4, 35)]), 5, 64, [(i 0), (i 0), (i 0), (.str (bs [])), (.lst 2 true [])], true⟩,
  some ⟨(.struct [(0, 3), (1, 3), (2, 3), (3, 9), (4, 35)]), 5, 64, [(i 0), (i 0), (i 0), (.str (bs [])), (.lst 2 true [])], true⟩,
  some ⟨(.struct [(0, 37), (5, 3), (6, 3), (7, 4)]), 8, 88, [(i 0), (i 0), (i 0), (.str (bs [])), (.lst 2 true []), (i 0), (i 0), (.bool false)], true⟩,
  some ⟨(.struct [(0, 37), (5, 3), (6, 3), (7, 4)]), 8, 88, [(i 0), (i 0), (i 0), (.str (bs [])), (.lst 2 true []), (i 0), (i 0), (.bool false)], true⟩,
  some ⟨.func, 1, 8, [.junk], false⟩,
  some ⟨.func, 1, 8, [.junk], false⟩,
  some ⟨.func, 1, 8, [.junk], false⟩,
  some ⟨.func, 1, 8, [.junk], false⟩,
  some ⟨.func, 1, 8, [.junk], false⟩,
  some ⟨.func, 1, 8, [.junk], false⟩,
  some ⟨(.struct [(0, 3), (1, 3)]), 2, 16, [(i 0), (i 0)], true⟩,
  some ⟨(.struct [(0, 3), (1, 3)]), 2, 16, [(i 0), (i 0)], true⟩,
  some ⟨.func, 1, 8, [.junk], false⟩,
  some ⟨.func, 1, 8, [.junk], false⟩,
  some ⟨.func, 1, 8, [.junk], false⟩,
  some ⟨(.struct [(0, 3), (1, 3)]), 2, 16, [(i 0), (i 0)], true⟩,
  some ⟨.func, 1, 8, [.junk], false⟩,
  some ⟨.func, 1, 8, [.junk], false⟩,
  some ⟨(.struct [(0, 17), (1, 17), (2, 17), (3, 9)]), 4, 40, [.junk], false⟩,
  some ⟨(.struct [(0, 17), (1, 17), (2, 17), (3, 9)]), 4, 40, [.junk], false⟩,
  some ⟨(.arr 0 16), 0, 0, [], false⟩,
  some ⟨(.struct [(0, 56)]), 0, 0, [], false⟩,
  some ⟨(.struct [(0, 56)]), 0, 0, [], false⟩,
  some ⟨.func, 1, 8, [.junk], false⟩,
  some ⟨(.int .u32), 1, 4, [(.int .u32 (0))], false⟩,
  some ⟨(.int .u8), 1, 1, [(.int .u8 (0))], false⟩,
  some ⟨(.int .u8), 1, 1, [(.int .u8 (0))], false⟩,
  some ⟨.func, 1, 8, [.junk], false⟩,
  some ⟨(.ptr 5), 1, 8, [.junk], false⟩,
  some ⟨(.int .i32), 1, 4, [(.int .i32 (0))], false⟩,
  some ⟨(.int .i32), 1, 4, [(.int .i32 (0))], false⟩,
  some ⟨(.struct [(0, 12), (1, 12), (2, 60), (3, 61), (4, 5), (5, 5), (6, 62), (7, 63), (8, 64), (9, 65), (10, 66)]), 11, 48, [.junk], false⟩,
  some ⟨(.struct [(0, 12), (1, 12), (2, 60), (3, 61), (4, 5), (5, 5), (6, 62), (7, 63), (8, 64), (9, 65), (10, 66)]), 11, 48, [.junk], false⟩,
  some ⟨.other, 1, 8, [.junk], false⟩]
def sgs : List (Nat × Bool) := [(0, false), (1, false), (2, false), (3, false), (4, false), (5, false), (6, true), (7, false), (8, false), (9, false), (10, false), (11, true), (12, false), (13, false), (14, false), (15, false), (16, false), (17, false), (18, true), (19, false), (20, false), (21, false), (22, true), (23, false), (24, false), (25, false), (26, false), (27, false), (28, false), (29, false), (30, false), (31, false), (32, false), (33, false), (34, false), (35, false), (36, false), (37, false), (38, false), (39, false), (40, false), (41, false)]
def i3 : Comp := ⟨(.seq (.ops [s 4 (.mv (c (.bool false)))])
 (.seq (.ops [s 5 (.mv (c (i 1048576)))])
 (.seq (.ops [s 10 (.mv (t 0)),
  s 11 (.mv (t 5)),
  k 12 4 [(t 10), (t 11)] .sc,
  s 5 (.mv (t 12))])
 (.seq (.seq (.ops [s 13 (.mv (t 5)),
  s 14 (.bin .lss (t 13) (c (i 0)))])
 (.cond (t 14) (.seq (.ops [s 4 (.mv (c (.bool true)))])
 .ret) .skip))
 (.seq (.ops [s 15 (.mv (t 1)),
  s 16 (.mv (t 5)),
  k 17 4 [(t 15), (t 16)] .sc,
  s 5 (.mv (t 17))])
 (.seq (.seq (.ops [s 18 (.mv (t 5)),
  s 19 (.bin .lss (t 18) (c (i 0)))])
 (.cond (t 19) (.seq (.ops [s 4 (.mv (c (.bool true)))])
 .ret) .skip))
 (.seq (.ops [s 20 (.mv (t 0)),
  k 21 6 [(t 20)] .lin,
  s 22 (.mv (t 1)),
  k 23 6 [(t 22)] .lin,
  k 24 5 [(t 21), (t 23)] .sc,
  s 6 (.mv (t 24))])
 (.seq (.ops [s 25 (.mv (t 0)),
  k 26 6 [(t 25)] .lin,
  s 7 (.mv (t 26))])
 (.seq (.ops [s 27 (.mv (t 1)),
  k 28 6 [(t 27)] .lin,
  s 8 (.mv (t 28))])
 (.seq (.ops [s 29 (.mv (t 7)),
  s 30 (.mv (t 8)),
  k 31 7 [(t 29), (t 30)] .sc,
  s 9 (.mv (t 31))])
 (.seq (.seq (.ops [s 32 (.mv (t 9)),
  s 33 (.mv (t 6)),
  s 34 (.beq true (t 32) (t 33))])
 (.cond (t 34) (.seq (.ops [s 4 (.mv (c (.bool false)))])
 .ret) .skip))
 (.seq (.seq (.ops [s 35 (.mv (t 7)),
  s 36 (.mv (t 0)),
  k 37 6 [(t 36)] .lin,
  k 38 8 [(t 35), (t 37)] .sc,
  s 39 (.not (t 38))])
 (.cond (t 39) (.seq (.ops [s 4 (.mv (c (.bool false)))])
 .ret) .skip))
 (.seq (.seq (.ops [s 40 (.mv (t 8)),
  s 41 (.mv (t 1)),
  k 42 6 [(t 41)] .lin,
  k 43 8 [(t 40), (t 42)] .sc,
  s 44 (.not (t 43))])
 (.cond (t 44) (.seq (.ops [s 4 (.mv (c (.bool false)))])
 .ret) .skip))
 (.seq (.ops [s 4 (.mv (c (.bool true)))])
 .ret)))))))))))))), none, [4], [false, false]⟩
def i4 : Comp := ⟨(.seq (.ops [s 4 (.mv (c (i 0)))])
 (.seq (.ops [s 6 (.mv (t 1)),
  s 7 (.mv (t 0)),
  s 8 (.len false (t 7)),
  s 9 (.bin .sub (t 6) (t 8)),
  s 1 (.mv (t 9))])
 (.seq (.seq (.ops [s 10 (.mv (t 1)),
  s 11 (.bin .lss (t 10) (c (i 0)))])
 (.cond (t 11) (.seq (.ops [s 4 (.mv (c (i (-1))))])
 .ret) .skip))
 (.seq (.seq (.ops [s 5 (.mv (c (i 0)))])
 (.block 0 (.loop (.seq (.seq (.ops [s 12 (.mv (t 5)),
  s 13 (.mv (t 0)),
  s 14 (.len false (t 13)),
  s 15 (.bin .lss (t 12) (t 14))])
 (.cond (t 15) .skip (.exit 0)))
 (.seq (.block 1 (.seq (.ops [s 18 (.mv (t 0)),
  s 19 (.mv (t 5)),
  s 20 (.idx (t 18) (t 19) 8),
  s 21 (.ldE 18 20 0 8 true false 8),
  s 22 (.mv (t 1)),
  k 23 9 [(t 21), (t 22)] .sc,
  s 1 (.mv (t 23))])
 (.seq (.ops [s 24 (.mv (t 1)),
  s 25 (.bin .lss (t 24) (c (i 0)))])
 (.cond (t 25) (.seq (.ops [s 4 (.mv (c (i (-1))))])
 .ret) .skip))))
 (.ops [s 16 (.mv (t 5)),
  s 17 (.bin .add (t 16) (c (i 1))),
  s 5 (.mv (t 17))]))))))
 (.seq (.ops [s 26 (.mv (t 1)),
  s 4 (.mv (t 26))])
 .ret))))), none, [4], [false, true]⟩
def i5 : Comp := ⟨(.seq (.ops [s 4 (.mv (c (.bool false)))])
 (.seq (.seq (.ops [s 6 (.mv (t 0)),
  s 7 (.len false (t 6)),
  s 8 (.mv (t 1)),
  s 9 (.len false (t 8)),
  s 10 (.bin .neq (t 7) (t 9))])
 (.cond (t 10) (.seq (.ops [s 4 (.mv (c (.bool false)))])
 .ret) .skip))
 (.seq (.seq (.ops [s 5 (.mv (c (i 0)))])
 (.block 0 (.loop (.seq (.seq (.ops [s 11 (.mv (t 5)),
  s 12 (.mv (t 0)),
  s 13 (.len false (t 12)),
  s 14 (.bin .lss (t 11) (t 13))])
 (.cond (t 14) .skip (.exit 0)))
 (.seq (.block 1 (.seq (.ops [s 17 (.mv (t 0)),
  s 18 (.mv (t 5)),
  s 19 (.idx (t 17) (t 18) 8),
  s 20 (.mv (t 19)),
  s 21 (.ldE 17 20 0 5 true false 8),
  s 22 (.mv (t 1)),
  s 23 (.mv (t 5)),
  s 24 (.idx (t 22) (t 23) 8),
  s 25 (.mv (t 24)),
  s 26 (.ldE 22 25 0 5 true false 8),
  k 27 10 [(t 21), (t 26)] .sc,
  s 28 (.not (t 27)),
  s 29 (.mv (t 28)),
  sg [(29, false)] 30 (.mv (t 0)),
  sg [(29, false)] 31 (.mv (t 5)),
  sg [(29, false)] 32 (.idx (t 30) (t 31) 8),
  sg [(29, false)] 33 (.mv (t 32)),
  sg [(29, false)] 34 (.ldE 30 33 5 1 false true 8),
  sg [(29, false)] 35 (.mv (t 1)),
  sg [(29, false)] 36 (.mv (t 5)),
  sg [(29, false)] 37 (.idx (t 35) (t 36) 8),
  sg [(29, false)] 38 (.mv (t 37)),
  sg [(29, false)] 39 (.ldE 35 38 5 1 false true 8),
  sg [(29, false)] 40 (.bin .neq (t 34) (t 39)),
  s 41 (.pick (t 29) (c (.bool true)) (t 40)),
  s 42 (.mv (t 41)),
  sg [(42, false)] 43 (.mv (t 0)),
  sg [(42, false)] 44 (.mv (t 5)),
  sg [(42, false)] 45 (.idx (t 43) (t 44) 8),
  sg [(42, false)] 46 (.mv (t 45)),
  sg [(42, false)] 47 (.ldE 43 46 6 1 false true 8),
  sg [(42, false)] 48 (.mv (t 1)),
  sg [(42, false)] 49 (.mv (t 5)),
  sg [(42, false)] 50 (.idx (t 48) (t 49) 8),
  sg [(42, false)] 51 (.mv (t 50)),
  sg [(42, false)] 52 (.ldE 48 51 6 1 false true 8),
  sg [(42, false)] 53 (.bin .neq (t 47) (t 52)),
  s 54 (.pick (t 42) (c (.bool true)) (t 53)),
  s 55 (.mv (t 54)),
  sg [(55, false)] 56 (.mv (t 0)),
  sg [(55, false)] 57 (.mv (t 5)),
  sg [(55, false)] 58 (.idx (t 56) (t 57) 8),
  sg [(55, false)] 59 (.mv (t 58)),
  sg [(55, false)] 60 (.ldE 56 59 7 1 false true 8),
  sg [(55, false)] 61 (.mv (t 1)),
  sg [(55, false)] 62 (.mv (t 5)),
  sg [(55, false)] 63 (.idx (t 61) (t 62) 8),
  sg [(55, false)] 64 (.mv (t 63)),
  sg [(55, false)] 65 (.ldE 61 64 7 1 false true 8),
  sg [(55, false)] 66 (.beq true (t 60) (t 65)),
  s 67 (.pick (t 55) (c (.bool true)) (t 66))])
 (.cond (t 67) (.seq (.ops [s 4 (.mv (c (.bool false)))])
 .ret) .skip)))
 (.ops [s 15 (.mv (t 5)),
  s 16 (.bin .add (t 15) (c (i 1))),
  s 5 (.mv (t 16))]))))))
 (.seq (.ops [s 4 (.mv (c (.bool true)))])
 .ret)))), none, [4], [false, false]⟩
def i6 : Comp := ⟨(.seq (.ops [s 2 (.mv (c (.lst 8 true [])))])
 (.seq (.ops [s 5 (.mv (t 0)),
  s 6 (.len false (t 5)),
  s 7 (.mks 8 88 [(i 0), (i 0), (i 0), (.str (bs [])), (.lst 2 true []), (i 0), (i 0), (.bool false)] (t 6)),
  s 3 (.mv (t 7))])
 (.seq (.seq (.ops [s 4 (.mv (c (i 0)))])
 (.block 0 (.loop (.seq (.seq (.ops [s 8 (.mv (t 4)),
  s 9 (.mv (t 0)),
  s 10 (.len false (t 9)),
  s 11 (.bin .lss (t 8) (t 10))])
 (.cond (t 11) .skip (.exit 0)))
 (.seq (.block 1 (.ops [s 14 (.mv (c .junk)),
  s 15 (.mv (t 4)),
  s 16 (.mv (t 0)),
  s 17 (.mv (t 4)),
  s 18 (.idx (t 16) (t 17) 8),
  s 19 (.ldE 16 18 0 8 true false 8),
  k 20 11 [(t 19)] .lin,
  s 21 (.idx (t 3) (t 15) 8),
  s 3 (.stF 3 21 8 (t 20))]))
 (.ops [s 12 (.mv (t 4)),
  s 13 (.bin .add (t 12) (c (i 1))),
  s 4 (.mv (t 13))]))))))
 (.seq (.ops [s 22 (.mv (c .junk)),
  s 2 (.mv (t 3))])
 .ret)))), none, [2], [false]⟩
def i7 : Comp := ⟨(.seq (.ops [s 4 (.mv (c (.bool false)))])
 (.seq (.ops [s 5 (.mv (t 0)),
  s 6 (.mv (t 1)),
  k 7 12 [(t 5), (t 6), (c (.fn 13 []))] .sc,
  s 4 (.mv (t 7))])
 .ret)), none, [4], [false, false]⟩
def i8 : Comp := ⟨(.seq (.ops [s 4 (.mv (c (.bool false)))])
 (.seq (.seq (.ops [s 6 (.mv (t 0)),
  s 7 (.len false (t 6)),
  s 8 (.mv (t 1)),
  s 9 (.len false (t 8)),
  s 10 (.bin .neq (t 7) (t 9))])
 (.cond (t 10) (.seq (.ops [s 4 (.mv (c (.bool false)))])
 .ret) .skip))
 (.seq (.seq (.ops [s 5 (.mv (c (i 0)))])
 (.block 0 (.loop (.seq (.seq (.ops [s 11 (.mv (t 5)),
  s 12 (.mv (t 0)),
  s 13 (.len false (t 12)),
  s 14 (.bin .lss (t 11) (t 13))])
 (.cond (t 14) .skip (.exit 0)))
 (.seq (.block 1 (.seq (.ops [s 17 (.mv (t 0)),
  s 18 (.mv (t 5)),
  s 19 (.idx (t 17) (t 18) 8),
  s 20 (.ldE 17 19 0 8 true false 8),
  s 21 (.mv (t 1)),
  s 22 (.mv (t 5)),
  s 23 (.idx (t 21) (t 22) 8),
  s 24 (.ldE 21 23 0 8 true false 8),
  k 25 15 [(t 20), (t 24)] .sc,
  s 26 (.not (t 25))])
 (.cond (t 26) (.seq (.ops [s 4 (.mv (c (.bool false)))])
 .ret) .skip)))
 (.ops [s 15 (.mv (t 5)),
  s 16 (.bin .add (t 15) (c (i 1))),
  s 5 (.mv (t 16))]))))))
 (.seq (.ops [s 4 (.mv (c (.bool true)))])
 .ret)))), none, [4], [false, false]⟩
def i9 : Comp := ⟨(.seq (.ops [s 2 (.box 8 (t 0)),
  s 4 (.mv (c (i 0)))])
 (.seq (.ops [s 5 (.mv (c (i 0))),
  s 6 (.ldB 2 0 5 true false),
  s 7 (.mv (t 1)),
  k 8 16 [(t 6), (t 7)] .sc,
  s 1 (.mv (t 8))])
 (.seq (.seq (.ops [s 9 (.mv (t 1)),
  s 10 (.bin .lss (t 9) (c (i 0)))])
 (.cond (t 10) (.seq (.ops [s 4 (.mv (c (i (-1))))])
 .ret) .skip))
 (.seq (.ops [s 11 (.mv (t 1)),
  s 4 (.mv (t 11))])
 .ret)))), none, [4], [false, true]⟩
def i10 : Comp := ⟨(.seq (.ops [s 2 (.box 5 (t 0)),
  s 3 (.box 5 (t 1)),
  s 4 (.mv (c (.bool false)))])
 (.seq (.ops [s 5 (.mv (c (i 0))),
  s 6 (.ldB 2 0 1 false true),
  s 7 (.mv (c (i 0))),
  s 8 (.ldB 3 0 1 false true),
  s 9 (.bin .eql (t 6) (t 8)),
  s 10 (.mv (t 9)),
  sg [(10, true)] 11 (.mv (c (i 0))),
  sg [(10, true)] 12 (.ldB 2 1 1 false true),
  sg [(10, true)] 13 (.mv (c (i 0))),
  sg [(10, true)] 14 (.ldB 3 1 1 false true),
  sg [(10, true)] 15 (.bin .eql (t 12) (t 14)),
  s 16 (.pick (t 10) (t 15) (c (.bool false))),
  s 17 (.mv (t 16)),
  sg [(17, true)] 18 (.mv (c (i 0))),
  sg [(17, true)] 19 (.ldB 2 2 1 false true),
  sg [(17, true)] 20 (.mv (c (i 0))),
  sg [(17, true)] 21 (.ldB 3 2 1 false true),
  sg [(17, true)] 22 (.bin .eql (t 19) (t 21)),
  s 23 (.pick (t 17) (t 22) (c (.bool false))),
  s 24 (.mv (t 23)),
  sg [(24, true)] 25 (.mv (c (i 0))),
  sg [(24, true)] 26 (.ldB 2 3 1 false true),
  sg [(24, true)] 27 (.mv (c (i 0))),
  sg [(24, true)] 28 (.ldB 3 3 1 false true),
  sg [(24, true)] 29 (.bin .eql (t 26) (t 28)),
  s 30 (.pick (t 24) (t 29) (c (.bool false))),
  s 31 (.mv (t 30)),
  sg [(31, true)] 32 (.mv (c (i 0))),
  sg [(31, true)] 33 (.ldB 2 4 1 false false),
  sg [(31, true)] 34 (.mv (c (i 0))),
  sg [(31, true)] 35 (.ldB 3 4 1 false false),
  kg [(31, true)] 36 17 [(t 33), (t 35)] .sc,
  s 37 (.pick (t 31) (t 36) (c (.bool false))),
  s 4 (.mv (t 37))])
 .ret)), none, [4], [false, false]⟩
def i11 : Comp := ⟨(.seq (.ops [s 1 (.box 8 (t 0)),
  s 2 (.alc [(i 0), (i 0), (i 0), (.str (bs [])), (.lst 2 true []), (i 0), (i 0), (.bool false)])])
 (.seq (.ops [s 3 (.alc [(i 0), (i 0), (i 0), (.str (bs [])), (.lst 2 true []), (i 0), (i 0), (.bool false)])])
 (.seq (.ops [s 4 (.mv (c (i 0))),
  s 5 (.ldB 1 0 5 true false),
  k 6 18 [(t 5)] .lin,
  s 7 (.mv (c (i 0))),
  s 3 (.stB 3 0 5 (t 6) false)])
 (.seq (.ops [s 8 (.mv (c (i 0))),
  s 9 (.ldB 1 5 1 false true),
  s 10 (.mv (c (i 0))),
  s 3 (.stB 3 5 1 (t 9) false)])
 (.seq (.ops [s 11 (.mv (c (i 0))),
  s 12 (.ldB 1 6 1 false true),
  s 13 (.mv (c (i 0))),
  s 3 (.stB 3 6 1 (t 12) false)])
 (.seq (.ops [s 14 (.mv (c (i 0))),
  s 15 (.ldB 1 7 1 false true),
  s 16 (.mv (c (i 0))),
  s 3 (.stB 3 7 1 (t 15) false)])
 (.seq (.ops [s 17 (.ldB 3 0 8 true false),
  s 2 (.stB 2 0 8 (t 17) false)])
 .ret))))))), (some ⟨2, 39, 8, true⟩), [], [false]⟩
def i12 : Comp := ⟨(.seq (.ops [s 6 (.mv (c (.bool false)))])
 (.seq (.seq (.ops [s 10 (.mv (t 0)),
  s 11 (.len false (t 10)),
  s 12 (.mv (t 1)),
  s 13 (.len false (t 12)),
  s 14 (.bin .neq (t 11) (t 13))])
 (.cond (t 14) (.seq (.ops [s 6 (.mv (c (.bool false)))])
 .ret) .skip))
 (.seq (.seq (.ops [s 15 (.mv (t 0)),
  s 16 (.len false (t 15)),
  s 17 (.mv (c (i 0)))])
 (.block 0 (.loop (.seq (.ops [s 18 (.bin .lss (t 17) (t 16))])
 (.seq (.cond (t 18) .skip (.exit 0))
 (.seq (.block 1 (.seq (.ops [s 19 (.mv (t 17)),
  s 20 (.idx (t 15) (t 17) 8),
  s 21 (.ldE 15 20 0 8 true false 8),
  s 8 (.alc [(i 0), (i 0), (i 0), (.str (bs [])), (.lst 2 true []), (i 0), (i 0), (.bool false)]),
  s 7 (.mv (t 19)),
  s 8 (.stB 8 0 8 (t 21) false)])
 (.seq (.ops [s 22 (.mv (t 1)),
  s 23 (.mv (t 7)),
  s 24 (.idx (t 22) (t 23) 8),
  s 25 (.ldE 22 24 0 8 true false 8),
  s 9 (.alc [(i 0), (i 0), (i 0), (.str (bs [])), (.lst 2 true []), (i 0), (i 0), (.bool false)]),
  s 9 (.stB 9 0 8 (t 25) false)])
 (.seq (.ops [s 26 (.mv (t 2)),
  s 27 (.ldB 8 0 8 true false),
  s 28 (.ldB 9 0 8 true false),
  v 29 (t 26) [(t 27), (t 28)],
  s 30 (.not (t 29))])
 (.cond (t 30) (.seq (.ops [s 6 (.mv (c (.bool false)))])
 .ret) .skip)))))
 (.ops [s 31 (.bin .add (t 17) (c (i 1))),
  s 17 (.mv (t 31))])))))))
 (.seq (.ops [s 6 (.mv (c (.bool true)))])
 .ret)))), none, [6], [false, false, false]⟩
def i13 : Comp := ⟨(.seq (.ops [s 2 (.box 8 (t 0)),
  s 3 (.box 8 (t 1)),
  s 4 (.mv (c (.bool false)))])
 (.seq (.ops [s 5 (.mv (c (i 0))),
  s 6 (.ldB 2 5 1 false true),
  s 7 (.mv (c (i 0))),
  s 8 (.ldB 3 5 1 false true),
  s 9 (.bin .eql (t 6) (t 8)),
  s 10 (.mv (t 9)),
  sg [(10, true)] 11 (.mv (c (i 0))),
  sg [(10, true)] 12 (.ldB 2 6 1 false true),
  sg [(10, true)] 13 (.mv (c (i 0))),
  sg [(10, true)] 14 (.ldB 3 6 1 false true),
  sg [(10, true)] 15 (.bin .eql (t 12) (t 14)),
  s 16 (.pick (t 10) (t 15) (c (.bool false))),
  s 17 (.mv (t 16)),
  sg [(17, true)] 18 (.mv (c (i 0))),
  sg [(17, true)] 19 (.ldB 2 7 1 false true),
  sg [(17, true)] 20 (.mv (c (i 0))),
  sg [(17, true)] 21 (.ldB 3 7 1 false true),
  sg [(17, true)] 22 (.beq false (t 19) (t 21)),
  s 23 (.pick (t 17) (t 22) (c (.bool false))),
  s 24 (.mv (t 23)),
  sg [(24, true)] 25 (.mv (c (i 0))),
  sg [(24, true)] 26 (.ldB 2 0 5 true false),
  sg [(24, true)] 27 (.mv (c (i 0))),
  sg [(24, true)] 28 (.ldB 3 0 5 true false),
  kg [(24, true)] 29 14 [(t 26), (t 28)] .sc,
  s 30 (.pick (t 24) (t 29) (c (.bool false))),
  s 4 (.mv (t 30))])
 .ret)), none, [4], [false, false]⟩
def i14 : Comp := ⟨(.seq (.ops [s 2 (.box 5 (t 0)),
  s 3 (.box 5 (t 1)),
  s 4 (.mv (c (.bool false)))])
 (.seq (.ops [s 5 (.mv (c (i 0))),
  s 6 (.ldB 2 0 1 false true),
  s 7 (.mv (c (i 0))),
  s 8 (.ldB 3 0 1 false true),
  s 9 (.bin .eql (t 6) (t 8)),
  s 10 (.mv (t 9)),
  sg [(10, true)] 11 (.mv (c (i 0))),
  sg [(10, true)] 12 (.ldB 2 1 1 false true),
  sg [(10, true)] 13 (.mv (c (i 0))),
  sg [(10, true)] 14 (.ldB 3 1 1 false true),
  sg [(10, true)] 15 (.bin .eql (t 12) (t 14)),
  s 16 (.pick (t 10) (t 15) (c (.bool false))),
  s 17 (.mv (t 16)),
  sg [(17, true)] 18 (.mv (c (i 0))),
  sg [(17, true)] 19 (.ldB 2 2 1 false true),
  sg [(17, true)] 20 (.mv (c (i 0))),
  sg [(17, true)] 21 (.ldB 3 2 1 false true),
  sg [(17, true)] 22 (.bin .eql (t 19) (t 21)),
  s 23 (.pick (t 17) (t 22) (c (.bool false))),
  s 24 (.mv (t 23)),
  sg [(24, true)] 25 (.mv (c (i 0))),
  sg [(24, true)] 26 (.ldB 2 3 1 false true),
  sg [(24, true)] 27 (.mv (c (i 0))),
  sg [(24, true)] 28 (.ldB 3 3 1 false true),
  sg [(24, true)] 29 (.bin .eql (t 26) (t 28)),
  s 30 (.pick (t 24) (t 29) (c (.bool false))),
  s 31 (.mv (t 30)),
  sg [(31, true)] 32 (.mv (c (i 0))),
  sg [(31, true)] 33 (.ldB 2 4 1 false false),
  sg [(31, true)] 34 (.mv (c (i 0))),
  sg [(31, true)] 35 (.ldB 3 4 1 false false),
  kg [(31, true)] 36 19 [(t 33), (t 35)] .sc,
  s 37 (.pick (t 31) (t 36) (c (.bool false))),
  s 4 (.mv (t 37))])
 .ret)), none, [4], [false, false]⟩
def i15 : Comp := ⟨(.seq (.ops [s 2 (.box 8 (t 0)),
  s 3 (.box 8 (t 1)),
  s 4 (.mv (c (.bool false)))])
 (.seq (.seq (.ops [s 5 (.mv (c (i 0))),
  s 6 (.ldB 2 0 5 true false),
  s 7 (.mv (c (i 0))),
  s 8 (.ldB 3 0 5 true false),
  k 9 20 [(t 6), (t 8)] .sc,
  s 10 (.not (t 9))])
 (.cond (t 10) (.seq (.ops [s 4 (.mv (c (.bool false)))])
 .ret) .skip))
 (.seq (.seq (.ops [s 11 (.mv (c (i 0))),
  s 12 (.ldB 2 5 1 false true),
  s 13 (.mv (c (i 0))),
  s 14 (.ldB 3 5 1 false true),
  s 15 (.bin .neq (t 12) (t 14))])
 (.cond (t 15) (.seq (.ops [s 4 (.mv (c (.bool false)))])
 .ret) .skip))
 (.seq (.seq (.ops [s 16 (.mv (c (i 0))),
  s 17 (.ldB 2 6 1 false true),
  s 18 (.mv (c (i 0))),
  s 19 (.ldB 3 6 1 false true),
  s 20 (.bin .neq (t 17) (t 19))])
 (.cond (t 20) (.seq (.ops [s 4 (.mv (c (.bool false)))])
 .ret) .skip))
 (.seq (.seq (.ops [s 21 (.mv (c (i 0))),
  s 22 (.ldB 2 7 1 false true),
  s 23 (.mv (c (i 0))),
  s 24 (.ldB 3 7 1 false true),
  s 25 (.beq true (t 22) (t 24))])
 (.cond (t 25) (.seq (.ops [s 4 (.mv (c (.bool false)))])
 .ret) .skip))
 (.seq (.ops [s 4 (.mv (c (.bool true)))])
 .ret)))))), none, [4], [false, false]⟩
def i16 : Comp := ⟨(.seq (.ops [s 2 (.box 5 (t 0)),
  s 4 (.mv (c (i 0)))])
 (.seq (.ops [s 5 (.mv (t 1)),
  s 6 (.mv (c (i 0))),
  s 7 (.ldB 2 3 1 false true),
  s 8 (.len true (t 7)),
  s 9 (.bin .sub (t 5) (t 8)),
  s 1 (.mv (t 9))])
 (.seq (.seq (.ops [s 10 (.mv (t 1)),
  s 11 (.bin .lss (t 10) (c (i 0)))])
 (.cond (t 11) (.seq (.ops [s 4 (.mv (c (i (-1))))])
 .ret) .skip))
 (.seq (.ops [s 12 (.mv (c (i 0))),
  s 13 (.ldB 2 4 1 false false),
  s 14 (.mv (t 1)),
  k 15 21 [(t 13), (t 14)] .sc,
  s 1 (.mv (t 15))])
 (.seq (.seq (.ops [s 16 (.mv (t 1)),
  s 17 (.bin .lss (t 16) (c (i 0)))])
 (.cond (t 17) (.seq (.ops [s 4 (.mv (c (i (-1))))])
 .ret) .skip))
 (.seq (.ops [s 18 (.mv (t 1)),
  s 4 (.mv (t 18))])
 .ret)))))), none, [4], [false, true]⟩
def i17 : Comp := ⟨(.seq (.ops [s 4 (.mv (c (.bool false)))])
 (.seq (.seq (.ops [s 6 (.mv (t 0)),
  s 7 (.len false (t 6)),
  s 8 (.mv (t 1)),
  s 9 (.len false (t 8)),
  s 10 (.bin .neq (t 7) (t 9))])
 (.cond (t 10) (.seq (.ops [s 4 (.mv (c (.bool false)))])
 .ret) .skip))
 (.seq (.seq (.ops [s 5 (.mv (c (i 0)))])
 (.block 0 (.loop (.seq (.seq (.ops [s 11 (.mv (t 5)),
  s 12 (.mv (t 0)),
  s 13 (.len false (t 12)),
  s 14 (.bin .lss (t 11) (t 13))])
 (.cond (t 14) .skip (.exit 0)))
 (.seq (.block 1 (.seq (.ops [s 17 (.mv (t 0)),
  s 18 (.mv (t 5)),
  s 19 (.idx (t 17) (t 18) 2),
  s 20 (.ldE 17 19 0 2 true true 2),
  s 21 (.mv (t 1)),
  s 22 (.mv (t 5)),
  s 23 (.idx (t 21) (t 22) 2),
  s 24 (.ldE 21 23 0 2 true true 2),
  s 25 (.eqa true [0, 0] (t 20) (t 24))])
 (.cond (t 25) (.seq (.ops [s 4 (.mv (c (.bool false)))])
 .ret) .skip)))
 (.ops [s 15 (.mv (t 5)),
  s 16 (.bin .add (t 15) (c (i 1))),
  s 5 (.mv (t 16))]))))))
 (.seq (.ops [s 4 (.mv (c (.bool true)))])
 .ret)))), none, [4], [false, false]⟩
def i18 : Comp := ⟨(.seq (.ops [s 1 (.box 5 (t 0)),
  s 2 (.alc [(i 0), (i 0), (i 0), (.str (bs [])), (.lst 2 true [])])])
 (.seq (.ops [s 3 (.alc [(i 0), (i 0), (i 0), (.str (bs [])), (.lst 2 true [])])])
 (.seq (.ops [s 4 (.mv (c (i 0))),
  s 5 (.ldB 1 0 1 false true),
  s 6 (.mv (c (i 0))),
  s 3 (.stB 3 0 1 (t 5) false)])
 (.seq (.ops [s 7 (.mv (c (i 0))),
  s 8 (.ldB 1 1 1 false true),
  s 9 (.mv (c (i 0))),
  s 3 (.stB 3 1 1 (t 8) false)])
 (.seq (.ops [s 10 (.mv (c (i 0))),
  s 11 (.ldB 1 2 1 false true),
  s 12 (.mv (c (i 0))),
  s 3 (.stB 3 2 1 (t 11) false)])
 (.seq (.ops [s 13 (.mv (c (i 0))),
  s 14 (.ldB 1 3 1 false true),
  s 15 (.mv (c (i 0))),
  s 3 (.stB 3 3 1 (t 14) false)])
 (.seq (.ops [s 16 (.mv (c (i 0))),
  s 17 (.ldB 1 4 1 false false),
  k 18 22 [(t 17)] .lin,
  s 19 (.mv (c (i 0))),
  s 3 (.stB 3 4 1 (t 18) false)])
 (.seq (.ops [s 20 (.ldB 3 0 5 true false),
  s 2 (.stB 2 0 5 (t 20) false)])
 .ret)))))))), (some ⟨2, 37, 5, true⟩), [], [false]⟩
def i19 : Comp := ⟨(.seq (.ops [s 4 (.mv (c (.bool false)))])
 (.seq (.seq (.ops [s 6 (.mv (t 0)),
  s 7 (.len false (t 6)),
  s 8 (.mv (t 1)),
  s 9 (.len false (t 8)),
  s 10 (.bin .neq (t 7) (t 9))])
 (.cond (t 10) (.seq (.ops [s 4 (.mv (c (.bool false)))])
 .ret) .skip))
 (.seq (.seq (.ops [s 11 (.mv (t 0)),
  s 12 (.len false (t 11)),
  s 13 (.mv (c (i 0)))])
 (.block 0 (.loop (.seq (.ops [s 14 (.bin .lss (t 13) (t 12))])
 (.seq (.cond (t 14) .skip (.exit 0))
 (.seq (.block 1 (.seq (.ops [s 15 (.mv (t 13)),
  s 5 (.mv (t 15))])
 (.seq (.ops [s 16 (.mv (t 0)),
  s 17 (.mv (t 5)),
  s 18 (.idx (t 16) (t 17) 2),
  s 19 (.ldE 16 18 0 2 true true 2),
  s 20 (.mv (t 1)),
  s 21 (.mv (t 5)),
  s 22 (.idx (t 20) (t 21) 2),
  s 23 (.ldE 20 22 0 2 true true 2),
  s 24 (.eqa true [0, 0] (t 19) (t 23))])
 (.cond (t 24) (.seq (.ops [s 4 (.mv (c (.bool false)))])
 .ret) .skip))))
 (.ops [s 25 (.bin .add (t 13) (c (i 1))),
  s 13 (.mv (t 25))])))))))
 (.seq (.ops [s 4 (.mv (c (.bool true)))])
 .ret)))), none, [4], [false, false]⟩
def i20 : Comp := ⟨(.seq (.ops [s 2 (.box 5 (t 0)),
  s 3 (.box 5 (t 1)),
  s 4 (.mv (c (.bool false)))])
 (.seq (.seq (.ops [s 5 (.mv (c (i 0))),
  s 6 (.ldB 2 0 1 false true),
  s 7 (.mv (c (i 0))),
  s 8 (.ldB 3 0 1 false true),
  s 9 (.bin .neq (t 6) (t 8))])
 (.cond (t 9) (.seq (.ops [s 4 (.mv (c (.bool false)))])
 .ret) .skip))
 (.seq (.seq (.ops [s 10 (.mv (c (i 0))),
  s 11 (.ldB 2 1 1 false true),
  s 12 (.mv (c (i 0))),
  s 13 (.ldB 3 1 1 false true),
  s 14 (.bin .neq (t 11) (t 13))])
 (.cond (t 14) (.seq (.ops [s 4 (.mv (c (.bool false)))])
 .ret) .skip))
 (.seq (.seq (.ops [s 15 (.mv (c (i 0))),
  s 16 (.ldB 2 2 1 false true),
  s 17 (.mv (c (i 0))),
  s 18 (.ldB 3 2 1 false true),
  s 19 (.bin .neq (t 16) (t 18))])
 (.cond (t 19) (.seq (.ops [s 4 (.mv (c (.bool false)))])
 .ret) .skip))
 (.seq (.seq (.ops [s 20 (.mv (c (i 0))),
  s 21 (.ldB 2 3 1 false true),
  s 22 (.mv (c (i 0))),
  s 23 (.ldB 3 3 1 false true),
  s 24 (.bin .neq (t 21) (t 23))])
 (.cond (t 24) (.seq (.ops [s 4 (.mv (c (.bool false)))])
 .ret) .skip))
 (.seq (.seq (.ops [s 25 (.mv (c (i 0))),
  s 26 (.ldB 2 4 1 false false),
  s 27 (.mv (c (i 0))),
  s 28 (.ldB 3 4 1 false false),
  k 29 23 [(t 26), (t 28)] .sc,
  s 30 (.not (t 29))])
 (.cond (t 30) (.seq (.ops [s 4 (.mv (c (.bool false)))])
 .ret) .skip))
 (.seq (.ops [s 4 (.mv (c (.bool true)))])
 .ret))))))), none, [4], [false, false]⟩
def i21 : Comp := ⟨(.seq (.ops [s 4 (.mv (c (i 0)))])
 (.seq (.ops [s 5 (.mv (t 1)),
  s 6 (.mv (t 0)),
  s 7 (.len false (t 6)),
  s 8 (.bin .sub (t 5) (t 7)),
  s 1 (.mv (t 8))])
 (.seq (.seq (.ops [s 9 (.mv (t 1)),
  s 10 (.bin .lss (t 9) (c (i 0)))])
 (.cond (t 10) (.seq (.ops [s 4 (.mv (c (i (-1))))])
 .ret) .skip))
 (.seq (.ops [s 11 (.mv (t 1)),
  s 4 (.mv (t 11))])
 .ret)))), none, [4], [false, true]⟩
def i22 : Comp := ⟨(.seq (.ops [s 2 (.mv (c (.lst 2 true [])))])
 (.seq (.ops [s 5 (.mv (t 0)),
  s 6 (.len false (t 5)),
  s 7 (.mks 2 16 [(i 0), (i 0)] (t 6)),
  s 3 (.mv (t 7))])
 (.seq (.seq (.ops [s 4 (.mv (c (i 0)))])
 (.block 0 (.loop (.seq (.seq (.ops [s 8 (.mv (t 4)),
  s 9 (.mv (t 0)),
  s 10 (.len false (t 9)),
  s 11 (.bin .lss (t 8) (t 10))])
 (.cond (t 11) .skip (.exit 0)))
 (.seq (.block 1 (.ops [s 14 (.mv (c .junk)),
  s 15 (.mv (t 4)),
  s 16 (.mv (t 0)),
  s 17 (.mv (t 4)),
  s 18 (.idx (t 16) (t 17) 2),
  s 19 (.ldE 16 18 0 2 true true 2),
  k 20 24 [(t 19)] .sc,
  s 21 (.idx (t 3) (t 15) 2),
  s 3 (.stF 3 21 2 (t 20))]))
 (.ops [s 12 (.mv (t 4)),
  s 13 (.bin .add (t 12) (c (i 1))),
  s 4 (.mv (t 13))]))))))
 (.seq (.ops [s 22 (.mv (c .junk)),
  s 2 (.mv (t 3))])
 .ret)))), none, [2], [false]⟩
def i23 : Comp := ⟨(.seq (.ops [s 4 (.mv (c (.bool false)))])
 (.seq (.seq (.ops [s 6 (.mv (t 0)),
  s 7 (.len false (t 6)),
  s 8 (.mv (t 1)),
  s 9 (.len false (t 8)),
  s 10 (.bin .neq (t 7) (t 9))])
 (.cond (t 10) (.seq (.ops [s 4 (.mv (c (.bool false)))])
 .ret) .skip))
 (.seq (.seq (.ops [s 5 (.mv (c (i 0)))])
 (.block 0 (.loop (.seq (.seq (.ops [s 11 (.mv (t 5)),
  s 12 (.mv (t 0)),
  s 13 (.len false (t 12)),
  s 14 (.bin .lss (t 11) (t 13))])
 (.cond (t 14) .skip (.exit 0)))
 (.seq (.block 1 (.seq (.ops [s 17 (.mv (t 0)),
  s 18 (.mv (t 5)),
  s 19 (.idx (t 17) (t 18) 2),
  s 20 (.ldE 17 19 0 2 true true 2),
  s 21 (.mv (t 1)),
  s 22 (.mv (t 5)),
  s 23 (.idx (t 21) (t 22) 2),
  s 24 (.ldE 21 23 0 2 true true 2),
  k 25 25 [(t 20), (t 24)] .sc,
  s 26 (.not (t 25))])
 (.cond (t 26) (.seq (.ops [s 4 (.mv (c (.bool false)))])
 .ret) .skip)))
 (.ops [s 15 (.mv (t 5)),
  s 16 (.bin .add (t 15) (c (i 1))),
  s 5 (.mv (t 16))]))))))
 (.seq (.ops [s 4 (.mv (c (.bool true)))])
 .ret)))), none, [4], [false, false]⟩
def i24 : Comp := ⟨(.seq (.ops [s 1 (.box 2 (t 0)),
  s 2 (.alc [(i 0), (i 0)])])
 (.seq (.ops [s 3 (.alc [(i 0), (i 0)])])
 (.seq (.ops [s 4 (.mv (c (i 0))),
  s 5 (.ldB 1 0 1 false true),
  s 6 (.mv (c (i 0))),
  s 3 (.stB 3 0 1 (t 5) false)])
 (.seq (.ops [s 7 (.mv (c (i 0))),
  s 8 (.ldB 1 1 1 false true),
  s 9 (.mv (c (i 0))),
  s 3 (.stB 3 1 1 (t 8) false)])
 (.seq (.ops [s 10 (.ldB 3 0 2 true true),
  s 2 (.stB 2 0 2 (t 10) false)])
 .ret))))), (some ⟨2, 47, 2, true⟩), [], [true]⟩
def i25 : Comp := ⟨(.seq (.ops [s 2 (.box 2 (t 0)),
  s 3 (.box 2 (t 1)),
  s 4 (.mv (c (.bool false)))])
 (.seq (.seq (.ops [s 5 (.mv (c (i 0))),
  s 6 (.ldB 2 0 1 false true),
  s 7 (.mv (c (i 0))),
  s 8 (.ldB 3 0 1 false true),
  s 9 (.bin .neq (t 6) (t 8))])
 (.cond (t 9) (.seq (.ops [s 4 (.mv (c (.bool false)))])
 .ret) .skip))
 (.seq (.seq (.ops [s 10 (.mv (c (i 0))),
  s 11 (.ldB 2 1 1 false true),
  s 12 (.mv (c (i 0))),
  s 13 (.ldB 3 1 1 false true),
  s 14 (.bin .neq (t 11) (t 13))])
 (.cond (t 14) (.seq (.ops [s 4 (.mv (c (.bool false)))])
 .ret) .skip))
 (.seq (.ops [s 4 (.mv (c (.bool true)))])
 .ret)))), none, [4], [true, true]⟩
def X : Cx := ⟨tbs, sgs⟩
end Go.Eng
namespace Go.Eng
open Go Go.Proofs
theorem hX : TabOK Try.prog X := TabOK.of (by kernel_rfl)
theorem c3 : compP Try.prog X 3 = some i3 := by kernel_rfl
theorem c4 : compP Try.prog X 4 = some i4 := by kernel_rfl
theorem c5 : compP Try.prog X 5 = some i5 := by kernel_rfl
theorem c6 : compP Try.prog X 6 = some i6 := by kernel_rfl
theorem c7 : compP Try.prog X 7 = some i7 := by kernel_rfl
theorem c8 : compP Try.prog X 8 = some i8 := by kernel_rfl
theorem c9 : compP Try.prog X 9 = some i9 := by kernel_rfl
theorem c10 : compP Try.prog X 10 = some i10 := by kernel_rfl
theorem c11 : compP Try.prog X 11 = some i11 := by kernel_rfl
theorem c12 : compP Try.prog X 12 = some i12 := by kernel_rfl
theorem c13 : compP Try.prog X 13 = some i13 := by kernel_rfl
theorem c14 : compP Try.prog X 14 = some i14 := by kernel_rfl
theorem c15 : compP Try.prog X 15 = some i15 := by kernel_rfl
theorem c16 : compP Try.prog X 16 = some i16 := by kernel_rfl
theorem c17 : compP Try.prog X 17 = some i17 := by kernel_rfl
theorem c18 : compP Try.prog X 18 = some i18 := by kernel_rfl
theorem c19 : compP Try.prog X 19 = some i19 := by kernel_rfl
theorem c20 : compP Try.prog X 20 = some i20 := by kernel_rfl
theorem c21 : compP Try.prog X 21 = some i21 := by kernel_rfl
theorem c22 : compP Try.prog X 22 = some i22 := by kernel_rfl
theorem c23 : compP Try.prog X 23 = some i23 := by kernel_rfl
theorem c24 : compP Try.prog X 24 = some i24 := by kernel_rfl
theorem c25 : compP Try.prog X 25 = some i25 := by kernel_rfl
end Go.Eng
