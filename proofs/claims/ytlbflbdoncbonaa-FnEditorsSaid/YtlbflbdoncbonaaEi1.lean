/- A part of the proof of a law's statement: for every input the law returns true and leaves its arguments as they were. No condition beyond the statement's own. The laws' functions in that calculus, checked by the kernel against the program. -/
import Derived.Test.YtlbflbdoncbonaaProg
import Derived.Test.YtlbflbdoncbonaaEe3
set_option linter.unusedVariables false
set_option linter.unusedSimpArgs false
set_option linter.unusedSectionVars false
set_option autoImplicit true
set_option relaxedAutoImplicit true
namespace Go.Eng
open Go
def tbs : List (Option TI) := [some ⟨(.tup []), 1, 0, [.junk], false⟩,
  some ⟨.func, 1, 8, [.junk], false⟩,
  some ⟨(.int .i64), 1, 8, [(i 0)], false⟩,
  some ⟨(.int .i64), 1, 8, [(i 0)], false⟩,
  some ⟨.bool, 1, 1, [(.bool false)], false⟩,
  some ⟨(.int .u8), 1, 1, [(.int .u8 (0))], false⟩,
  some ⟨(.int .u8), 1, 1, [(.int .u8 (0))], false⟩,
  some ⟨(.struct [(0, 2), (1, 3), (2, 4), (3, 6)]), 4, 24, [(i 0), (i 0), (.bool false), (.int .u8 (0))], true⟩,
  some ⟨(.struct [(0, 2), (1, 3), (2, 4), (3, 6)]), 4, 24, [(i 0), (i 0), (.bool false), (.int .u8 (0))], true⟩,
  some ⟨.str, 1, 16, [(.str (bs []))], false⟩,
  some ⟨.str, 1, 16, [(.str (bs []))], false⟩,
  some ⟨.str, 1, 16, [(.str (bs []))], false⟩,
  some ⟨(.int .u64), 1, 8, [(.int .u64 (0))], false⟩,
  some ⟨(.struct [(0, 9), (1, 12)]), 2, 24, [(.str (bs [])), (.int .u64 (0))], false⟩,
  some ⟨(.struct [(0, 9), (1, 12)]), 2, 24, [(.str (bs [])), (.int .u64 (0))], false⟩,
  some ⟨(.ptr 95), 1, 8, [.junk], false⟩,
  some ⟨(.ptr 98), 1, 8, [.junk], false⟩,
  some ⟨(.ptr 108), 1, 8, [.junk], false⟩,
  some ⟨(.struct [(0, 17)]), 1, 8, [.junk], false⟩,
  some ⟨(.struct [(0, 17)]), 1, 8, [.junk], false⟩,
  some ⟨.other, 1, 16, [.junk], false⟩,
  some ⟨(.int .i32), 1, 4, [(.int .i32 (0))], false⟩,
  some ⟨(.slice 5), 1, 24, [(.lst 1 true [])], false⟩,
  some ⟨.func, 1, 8, [.junk], false⟩,
  some ⟨(.slice 33), 1, 24, [(.lst 8 true [])], false⟩,
  some ⟨(.tup [24, 24]), 1, 0, [.junk], false⟩,
  some ⟨.func, 1, 8, [.junk], false⟩,
  some ⟨.func, 1, 8, [.junk], false⟩,
  some ⟨.func, 1, 8, [.junk], false⟩,
  some ⟨(.slice 59), 1, 24, [(.lst 2 true [])], false⟩,
  some ⟨(.struct [(0, 3), (1, 3), (2, 3), (3, 9), (4, 29)]), 5, 64, [(i 0), (i 0), (i 0), (.str (bs [])), (.lst 2 true [])], true⟩,
  some ⟨(.struct [(0, 3), (1, 3), (2, 3), (3, 9), (4, 29)]), 5, 64, [(i 0), (i 0), (i 0), (.str (bs [])), (.lst 2 true [])], true⟩,
  some ⟨(.struct [(0, 31), (5, 3), (6, 3), (7, 4)]), 8, 88, [(i 0), (i 0), (i 0), (.str (bs [])), (.lst 2 true []), (i 0), (i 0), (.bool false)], true⟩,
  some ⟨(.struct [(0, 31), (5, 3), (6, 3), (7, 4)]), 8, 88, [(i 0), (i 0), (i 0), (.str (bs [])), (.lst 2 true []), (i 0), (i 0), (.bool false)], true⟩,
  some ⟨.func, 1, 8, [.junk], false⟩,
  some ⟨.func, 1, 8, [.junk], false⟩,
  some ⟨(.slice 31), 1, 24, [(.lst 5 true [])], false⟩,
  some ⟨.func, 1, 8, [.junk], false⟩,
  some ⟨.func, 1, 8, [.junk], false⟩,
  some ⟨(.ptr 50), 1, 8, [.junk], false⟩,
  some ⟨.func, 1, 8, [.junk], false⟩,
  some ⟨.func, 1, 8, [.junk], false⟩,
  some ⟨.func, 1, 8, [.junk], false⟩,
  some ⟨.func, 1, 8, [.junk], false⟩,
  some ⟨.func, 1, 8, [.junk], false⟩,
  some ⟨.func, 1, 8, [.junk], false⟩,
  some ⟨.func, 1, 8, [.junk], false⟩,
  some ⟨.func, 1, 8, [.junk], false⟩,
  some ⟨.func, 1, 8, [.junk], false⟩,
  some ⟨(.struct [(0, 22), (1, 3), (2, 3)]), 3, 40, [(.lst 1 true []), (i 0), (i 0)], true⟩,
  some ⟨(.struct [(0, 22), (1, 3), (2, 3)]), 3, 40, [(.lst 1 true []), (i 0), (i 0)], true⟩,
  some ⟨.func, 1, 8, [.junk], false⟩,
  some ⟨.func, 1, 8, [.junk], false⟩,
  some ⟨(.slice 3), 1, 24, [(.lst 1 true [])], false⟩,
  some ⟨.func, 1, 8, [.junk], false⟩,
  some ⟨.func, 1, 8, [.junk], false⟩,
  some ⟨.func, 1, 8, [.junk], false⟩,
  some ⟨.func, 1, 8, [.junk], false⟩,
  some ⟨(.struct [(0, 3), (1, 3)]), 2, 16, [(i 0), (i 0)], true⟩,
  some ⟨(.struct [(0, 3), (1, 3)]), 2, 16, [(i 0), (i 0)], true⟩,
  some ⟨.func, 1, 8, [.junk], false⟩,
  some ⟨.func, 1, 8, [.junk], false⟩,
  some ⟨.func, 1, 8, [.junk], false⟩,
  some ⟨.func, 1, 8, [.junk], false⟩,
  some ⟨.func, 1, 8, [.junk], false⟩,
  some ⟨.func, 1, 8, [.junk], false⟩,
  some ⟨.func, 1, 8, [.junk], false⟩,
  some ⟨(.slice 71), 1, 24, [(.lst 4 true [])], false⟩,
  some ⟨.func, 1, 8, [.junk], false⟩,
  some ⟨.func, 1, 8, [.junk], false⟩,
  some ⟨(.struct [(0, 59), (2, 59)]), 4, 32, [(i 0), (i 0), (i 0), (i 0)], true⟩,
  some ⟨(.struct [(0, 59), (2, 59)]), 4, 32, [(i 0), (i 0), (i 0), (i 0)], true⟩,
  some ⟨.func, 1, 8, [.junk], false⟩,
  some ⟨.func, 1, 8, [.junk], false⟩,
  some ⟨.func, 1, 8, [.junk], false⟩,
  some ⟨.func, 1, 8, [.junk], false⟩,
  some ⟨(.int .u64), 1, 8, [(.int .u64 (0))], false⟩,
  some ⟨.func, 1, 8, [.junk], false⟩,
  some ⟨(.slice 9), 1, 24, [(.lst 1 true [])], false⟩,
  some ⟨.func, 1, 8, [.junk], false⟩,
  some ⟨.func, 1, 8, [.junk], false⟩,
  some ⟨.func, 1, 8, [.junk], false⟩,
  some ⟨.func, 1, 8, [.junk], false⟩,
  some ⟨.func, 1, 8, [.junk], false⟩,
  some ⟨.func, 1, 8, [.junk], false⟩,
  some ⟨.func, 1, 8, [.junk], false⟩,
  some ⟨.func, 1, 8, [.junk], false⟩,
  some ⟨(.tup [36, 4]), 1, 0, [.junk], false⟩,
  some ⟨.func, 1, 8, [.junk], false⟩,
  some ⟨.func, 1, 8, [.junk], false⟩,
  some ⟨.func, 1, 8, [.junk], false⟩,
  some ⟨.func, 1, 8, [.junk], false⟩,
  some ⟨.func, 1, 8, [.junk], false⟩,
  some ⟨.func, 1, 8, [.junk], false⟩,
  some ⟨(.struct [(0, 17), (1, 17), (2, 17), (3, 9)]), 4, 40, [.junk], false⟩,
  some ⟨(.struct [(0, 17), (1, 17), (2, 17), (3, 9)]), 4, 40, [.junk], false⟩,
  some ⟨(.arr 0 16), 0, 0, [], false⟩,
  some ⟨(.struct [(0, 96)]), 0, 0, [], false⟩,
  some ⟨(.struct [(0, 96)]), 0, 0, [], false⟩,
  some ⟨.func, 1, 8, [.junk], false⟩,
  some ⟨(.int .u32), 1, 4, [(.int .u32 (0))], false⟩,
  some ⟨(.int .u8), 1, 1, [(.int .u8 (0))], false⟩,
  some ⟨(.int .u8), 1, 1, [(.int .u8 (0))], false⟩,
  some ⟨.func, 1, 8, [.junk], false⟩,
  some ⟨(.ptr 5), 1, 8, [.junk], false⟩,
  some ⟨(.int .i32), 1, 4, [(.int .i32 (0))], false⟩,
  some ⟨(.int .i32), 1, 4, [(.int .i32 (0))], false⟩,
  some ⟨(.struct [(0, 12), (1, 12), (2, 100), (3, 101), (4, 5), (5, 5), (6, 102), (7, 103), (8, 104), (9, 105), (10, 106)]), 11, 48, [.junk], false⟩,
  some ⟨(.struct [(0, 12), (1, 12), (2, 100), (3, 101), (4, 5), (5, 5), (6, 102), (7, 103), (8, 104), (9, 105), (10, 106)]), 11, 48, [.junk], false⟩,
  some ⟨.other, 1, 8, [.junk], false⟩]
def wfs : List Nat := [80]
def xfs : List Nat := [29]
def rfs : List (Nat × Bool × Bool × Bool) := [(5, false, true, false), (13, false, false, true), (14, true, true, false), (25, true, true, false), (26, true, false, false), (27, true, false, false), (28, true, true, false), (41, true, true, false), (42, true, false, false), (43, true, true, false), (59, true, true, false), (60, true, false, false), (61, true, true, false), (62, true, false, false), (63, true, true, false), (74, true, false, false), (75, true, false, false), (76, true, true, false), (77, true, true, false), (79, true, false, false), (89, true, false, false)]
def tls : List Nat := [63]
def sgs : List (Nat × Bool) := [(0, false), (1, false), (2, false), (3, false), (4, false), (6, true), (7, false), (8, false), (9, false), (10, false), (11, true), (12, false), (15, true), (16, true), (17, false), (18, false), (19, false), (20, false), (21, false), (22, false), (23, false), (24, true), (30, false), (31, false), (32, false), (33, false), (34, false), (35, false), (36, false), (37, false), (38, false), (39, true), (40, true), (44, false), (45, false), (46, false), (47, true), (48, false), (49, true), (50, false), (51, true), (52, false), (53, false), (54, true), (55, false), (56, false), (57, true), (58, true), (64, false), (65, false), (66, false), (67, false), (68, false), (69, false), (70, false), (71, false), (72, false), (73, true), (78, true), (81, false), (82, false), (83, false), (84, false), (85, false), (86, false), (87, true), (88, false), (90, false), (91, false), (92, false), (93, false), (94, false), (95, false), (96, false), (97, false), (98, false), (99, false), (100, false), (101, false), (102, false), (103, false), (104, false), (105, false), (106, false)]
def i3 : Comp := ⟨(.seq (.ops [s 2 (.mv (c (.bool false)))])
 (.seq (.seq (.ops [s 13 (.mv (t 0)),
  k 14 4 [(t 13)] .sc])
 (.cond (t 14) (.seq (.ops [s 2 (.mv (c (.bool true)))])
 .ret) .skip))
 (.seq (.seq (.ops [s 16 (.mv (t 0))])
 (.seq (opD 17 5 [(t 16)] .tup)
 (.ops [s 15 (.mv (t 17)),
  s 18 (.ext 15 0 false),
  s 19 (.ext 15 1 false),
  s 3 (.mv (t 18)),
  s 4 (.mv (t 19))])))
 (.seq (.ops [s 20 (.mv (t 3)),
  s 21 (.mv (t 4)),
  k 22 6 [(t 20), (t 21)] .lin,
  s 5 (.mv (t 22))])
 (.seq (.seq (.ops [s 23 (.mv (t 3)),
  k 24 7 [(t 23)] .sc,
  s 25 (.mv (t 3)),
  k 26 8 [(t 25)] .sc,
  s 27 (.beq true (t 24) (t 26))])
 (.cond (t 27) (.seq (.ops [s 2 (.mv (c (.bool false)))])
 .ret) .skip))
 (.seq (.seq (.ops [s 28 (.mv (t 3)),
  k 29 7 [(t 28)] .sc,
  s 30 (.not (t 29)),
  s 31 (.mv (t 30)),
  sg [(31, false)] 32 (.mv (t 4)),
  kg [(31, false)] 33 7 [(t 32)] .sc,
  sg [(31, false)] 34 (.not (t 33)),
  s 35 (.pick (t 31) (c (.bool true)) (t 34))])
 (.cond (t 35) (.seq (.ops [s 36 (.mv (t 5)),
  s 37 (.len false (t 36)),
  s 38 (.bin .eql (t 37) (c (i 0))),
  s 2 (.mv (t 38))])
 .ret) .skip))
 (.seq (.seq (.ops [s 6 (.mv (c (i 0)))])
 (.block 0 (.loop (.seq (.seq (.ops [s 39 (.mv (t 6)),
  s 40 (.mv (t 3)),
  s 41 (.len false (t 40)),
  s 42 (.bin .lss (t 39) (t 41))])
 (.cond (t 42) .skip (.exit 0)))
 (.seq (.block 1 (.seq (.ops [s 7 (.mv (c (i 0)))])
 (.block 2 (.loop (.seq (.seq (.ops [s 45 (.mv (t 7)),
  s 46 (.mv (t 4)),
  s 47 (.len false (t 46)),
  s 48 (.bin .lss (t 45) (t 47))])
 (.cond (t 48) .skip (.exit 2)))
 (.seq (.block 3 (.seq (.ops [s 51 (.mv (t 3)),
  s 52 (.mv (t 6)),
  s 53 (.idx (t 51) (t 52) 8),
  s 54 (.mv (t 53)),
  s 55 (.mv (t 54)),
  s 56 (.ldE 51 55 0 1 false true 8),
  s 57 (.mv (t 4)),
  s 58 (.mv (t 7)),
  s 59 (.idx (t 57) (t 58) 8),
  s 60 (.mv (t 59)),
  s 61 (.mv (t 60)),
  s 62 (.ldE 57 61 0 1 false true 8),
  s 63 (.bin .eql (t 56) (t 62)),
  s 64 (.mv (t 63)),
  sg [(64, true)] 65 (.mv (t 3)),
  sg [(64, true)] 66 (.mv (t 6)),
  sg [(64, true)] 67 (.idx (t 65) (t 66) 8),
  sg [(64, true)] 68 (.mv (t 67)),
  sg [(64, true)] 69 (.ldE 65 68 5 1 false true 8),
  sg [(64, true)] 70 (.mv (t 4)),
  sg [(64, true)] 71 (.mv (t 7)),
  sg [(64, true)] 72 (.idx (t 70) (t 71) 8),
  sg [(64, true)] 73 (.mv (t 72)),
  sg [(64, true)] 74 (.ldE 70 73 5 1 false true 8),
  sg [(64, true)] 75 (.bin .eql (t 69) (t 74)),
  s 76 (.pick (t 64) (t 75) (c (.bool false))),
  s 77 (.mv (t 76)),
  sg [(77, true)] 78 (.mv (t 3)),
  sg [(77, true)] 79 (.mv (t 6)),
  sg [(77, true)] 80 (.idx (t 78) (t 79) 8),
  sg [(77, true)] 81 (.mv (t 80)),
  sg [(77, true)] 82 (.ldE 78 81 6 1 false true 8),
  sg [(77, true)] 83 (.mv (t 4)),
  sg [(77, true)] 84 (.mv (t 7)),
  sg [(77, true)] 85 (.idx (t 83) (t 84) 8),
  sg [(77, true)] 86 (.mv (t 85)),
  sg [(77, true)] 87 (.ldE 83 86 6 1 false true 8),
  sg [(77, true)] 88 (.bin .eql (t 82) (t 87)),
  s 89 (.pick (t 77) (t 88) (c (.bool false)))])
 (.cond (t 89) (.seq (.ops [s 90 (.mv (t 5)),
  k 91 7 [(t 90)] .sc,
  s 2 (.mv (t 91))])
 .ret) .skip)))
 (.ops [s 49 (.mv (t 7)),
  s 50 (.bin .add (t 49) (c (i 1))),
  s 7 (.mv (t 50))])))))))
 (.ops [s 43 (.mv (t 6)),
  s 44 (.bin .add (t 43) (c (i 1))),
  s 6 (.mv (t 44))]))))))
 (.seq (.seq (.ops [s 92 (.mv (t 3)),
  s 93 (.len false (t 92)),
  s 94 (.mv (t 4)),
  s 95 (.len false (t 94)),
  s 96 (.bin .add (t 93) (t 95)),
  s 97 (.bin .gtr (t 96) (c (i 16)))])
 (.cond (t 97) (.seq (.ops [s 98 (.mv (t 5)),
  k 99 7 [(t 98)] .sc,
  s 2 (.mv (t 99))])
 .ret) .skip))
 (.seq (.seq (.ops [s 100 (.mv (t 5)),
  k 101 7 [(t 100)] .sc,
  s 102 (.not (t 101)),
  s 103 (.mv (t 102)),
  sg [(103, false)] 104 (.mv (t 5)),
  sg [(103, false)] 105 (.mv (t 4)),
  sg [(103, false)] 106 (.mv (t 3)),
  kg [(103, false)] 107 6 [(t 105), (t 106)] .ext,
  kg [(103, false)] 108 9 [(t 104), (t 107)] .sc,
  sg [(103, false)] 109 (.not (t 108)),
  s 110 (.pick (t 103) (c (.bool true)) (t 109)),
  s 111 (.mv (t 110)),
  sg [(111, false)] 112 (.mv (t 5)),
  sg [(111, false)] 113 (.mv (t 4)),
  kg [(111, false)] 114 6 [(t 112), (t 113)] .ext,
  sg [(111, false)] 115 (.mv (t 5)),
  kg [(111, false)] 116 9 [(t 114), (t 115)] .sc,
  sg [(111, false)] 117 (.not (t 116)),
  s 118 (.pick (t 111) (c (.bool true)) (t 117)),
  s 119 (.mv (t 118)),
  sg [(119, false)] 120 (.mv (t 3)),
  sg [(119, false)] 121 (.mv (t 3)),
  kg [(119, false)] 122 6 [(t 120), (t 121)] .ext,
  sg [(119, false)] 123 (.mv (t 3)),
  kg [(119, false)] 124 9 [(t 122), (t 123)] .sc,
  sg [(119, false)] 125 (.not (t 124)),
  s 126 (.pick (t 119) (c (.bool true)) (t 125))])
 (.cond (t 126) (.seq (.ops [s 2 (.mv (c (.bool false)))])
 .ret) .skip))
 (.seq (.ops [s 127 (.bsl 8 []),
  s 128 (.mv (t 3)),
  s 129 (.app (t 127) (t 128) 8 88),
  s 130 (.mv (t 4)),
  s 131 (.app (t 129) (t 130) 8 88),
  s 8 (.mv (t 131))])
 (.seq (.seq (.ops [s 9 (.mv (c (i 0)))])
 (.block 4 (.loop (.seq (.seq (.ops [s 132 (.mv (t 9)),
  s 133 (.mv (t 8)),
  s 134 (.len false (t 133)),
  s 135 (.bin .lss (t 132) (t 134))])
 (.cond (t 135) .skip (.exit 4)))
 (.seq (.block 5 (.seq (.ops [s 10 (.mv (c (.bool false)))])
 (.seq (.seq (.ops [s 11 (.mv (c (i 0)))])
 (.block 6 (.loop (.seq (.seq (.ops [s 138 (.mv (t 11)),
  s 139 (.mv (t 5)),
  s 140 (.len false (t 139)),
  s 141 (.bin .lss (t 138) (t 140))])
 (.cond (t 141) .skip (.exit 6)))
 (.seq (.block 7 (.ops [s 144 (.mv (t 10)),
  s 145 (.mv (t 144)),
  sg [(145, false)] 146 (.mv (t 5)),
  sg [(145, false)] 147 (.mv (t 11)),
  sg [(145, false)] 148 (.idx (t 146) (t 147) 8),
  sg [(145, false)] 149 (.mv (t 148)),
  sg [(145, false)] 150 (.mv (t 149)),
  sg [(145, false)] 151 (.ldE 146 150 0 1 false true 8),
  sg [(145, false)] 152 (.mv (t 8)),
  sg [(145, false)] 153 (.mv (t 9)),
  sg [(145, false)] 154 (.idx (t 152) (t 153) 8),
  sg [(145, false)] 155 (.mv (t 154)),
  sg [(145, false)] 156 (.mv (t 155)),
  sg [(145, false)] 157 (.ldE 152 156 0 1 false true 8),
  sg [(145, false)] 158 (.bin .eql (t 151) (t 157)),
  sg [(145, false)] 159 (.mv (t 158)),
  sg [(159, true), (145, false)] 160 (.mv (t 8)),
  sg [(159, true), (145, false)] 161 (.mv (t 9)),
  sg [(159, true), (145, false)] 162 (.idx (t 160) (t 161) 8),
  sg [(159, true), (145, false)] 163 (.ldE 160 162 0 8 true false 8),
  sg [(159, true), (145, false)] 164 (.mv (t 5)),
  sg [(159, true), (145, false)] 165 (.mv (t 11)),
  sg [(159, true), (145, false)] 166 (.idx (t 164) (t 165) 8),
  sg [(159, true), (145, false)] 167 (.ldE 164 166 0 8 true false 8),
  kg [(159, true), (145, false)] 168 10 [(t 163), (t 167)] .sc,
  sg [(159, true), (145, false)] 169 (.not (t 168)),
  sg [(145, false)] 170 (.pick (t 159) (t 169) (c (.bool false))),
  s 171 (.pick (t 145) (c (.bool true)) (t 170)),
  s 10 (.mv (t 171))]))
 (.ops [s 142 (.mv (t 11)),
  s 143 (.bin .add (t 142) (c (i 1))),
  s 11 (.mv (t 143))]))))))
 (.seq (.ops [s 172 (.mv (t 10)),
  s 173 (.not (t 172))])
 (.cond (t 173) (.seq (.ops [s 2 (.mv (c (.bool false)))])
 .ret) .skip)))))
 (.ops [s 136 (.mv (t 9)),
  s 137 (.bin .add (t 136) (c (i 1))),
  s 9 (.mv (t 137))]))))))
 (.seq (.ops [s 174 (.mv (t 5)),
  k 175 11 [(t 174)] .lin,
  s 12 (.mv (t 175))])
 (.seq (.ops [s 176 (.mv (t 12)),
  k 177 12 [(t 176)] .sc,
  s 178 (.mv (t 177)),
  sg [(178, true)] 179 (.mv (t 12)),
  sg [(178, true)] 180 (.len false (t 179)),
  sg [(178, true)] 181 (.mv (t 5)),
  sg [(178, true)] 182 (.len false (t 181)),
  sg [(178, true)] 183 (.bin .leq (t 180) (t 182)),
  s 184 (.pick (t 178) (t 183) (c (.bool false))),
  s 2 (.mv (t 184))])
 .ret))))))))))))), none, [2], [false]⟩
def i4 : Comp := ⟨(.seq (.ops [s 2 (.mv (c (.bool false)))])
 (.seq (.ops [s 3 (.mv (t 0)),
  s 4 (.len false (t 3)),
  s 5 (.bin .gtr (t 4) (c (i 1048576))),
  s 2 (.mv (t 5))])
 .ret)), none, [2], [false]⟩
def i5 : Comp := ⟨(.seq (.ops [s 2 (.mv (c (.lst 8 true []))),
  s 3 (.mv (c (.lst 8 true [])))])
 (.seq (.seq (.ops [s 6 (.mv (t 0))])
 (.seq (opQ 7 13 [(t 6)])
 (.seq (.ops [])
 (.seq (opV 4 7)
 (.ops [])))))
 (.seq (.seq (.ops [s 8 (.mv (c .junk))])
 (.seq (opC 9 14 4 [(c (i 1))] .lin)
 (.ops [s 5 (.mv (t 9))])))
 (.seq (.seq (.ops [s 10 (.mv (t 5)),
  s 11 (.mv (c .junk))])
 (.seq (opC 12 14 4 [(c (i 2))] .lin)
 (.ops [s 2 (.mv (t 10)),
  s 3 (.mv (t 12))])))
 .ret)))), none, [2, 3], [false]⟩
def i6 : Comp := ⟨(.seq (.ops [s 4 (.mv (c (.lst 8 true [])))])
 (.seq (.seq (.ops [s 8 (.mv (t 0)),
  k 9 7 [(t 8)] .sc,
  s 10 (.not (t 9)),
  s 11 (.mv (t 10)),
  sg [(11, false)] 12 (.mv (t 1)),
  kg [(11, false)] 13 7 [(t 12)] .sc,
  sg [(11, false)] 14 (.not (t 13)),
  s 15 (.pick (t 11) (c (.bool true)) (t 14))])
 (.cond (t 15) (.seq (.ops [s 16 (.bsl 8 []),
  s 4 (.mv (t 16))])
 .ret) .skip))
 (.seq (.ops [s 17 (.mv (t 0)),
  k 18 15 [(t 17)] .lin,
  s 5 (.mv (t 18))])
 (.seq (.seq (.ops [s 19 (.mv (t 1)),
  s 20 (.len false (t 19)),
  s 21 (.mv (c (i 0)))])
 (.block 0 (.loop (.seq (.ops [s 22 (.bin .lss (t 21) (t 20))])
 (.seq (.cond (t 22) .skip (.exit 0))
 (.seq (.block 1 (.seq (.ops [s 23 (.idx (t 19) (t 21) 8),
  s 24 (.ldE 19 23 0 8 true false 8),
  s 7 (.alc [(i 0), (i 0), (i 0), (.str (bs [])), (.lst 2 true []), (i 0), (i 0), (.bool false)]),
  s 7 (.stB 7 0 8 (t 24) false)])
 (.ops [s 25 (.mv (t 5)),
  s 26 (.ldB 7 0 8 true false),
  k 27 16 [(t 25), (t 26)] .lin,
  s 5 (.mv (t 27))])))
 (.ops [s 28 (.bin .add (t 21) (c (i 1))),
  s 21 (.mv (t 28))])))))))
 (.seq (.ops [s 29 (.mv (t 5)),
  s 4 (.mv (t 29))])
 .ret))))), none, [4], [false, false]⟩
def i7 : Comp := ⟨(.seq (.ops [s 2 (.mv (c (.bool false)))])
 (.seq (.seq (.ops [s 5 (.mv (t 0)),
  s 6 (.len false (t 5)),
  s 7 (.bin .gtr (t 6) (c (i 16)))])
 (.cond (t 7) (.seq (.ops [s 2 (.mv (c (.bool false)))])
 .ret) .skip))
 (.seq (.seq (.ops [s 8 (.mv (t 0)),
  s 9 (.len false (t 8)),
  s 10 (.mv (c (i 0)))])
 (.block 0 (.loop (.seq (.ops [s 11 (.bin .lss (t 10) (t 9))])
 (.seq (.cond (t 11) .skip (.exit 0))
 (.seq (.block 1 (.seq (.ops [s 12 (.mv (t 10)),
  s 13 (.idx (t 8) (t 10) 8),
  s 14 (.ldE 8 13 0 8 true false 8),
  s 4 (.alc [(i 0), (i 0), (i 0), (.str (bs [])), (.lst 2 true []), (i 0), (i 0), (.bool false)]),
  s 3 (.mv (t 12)),
  s 4 (.stB 4 0 8 (t 14) false)])
 (.seq (.ops [s 15 (.mv (c (i 0))),
  s 16 (.ldB 4 0 5 true false),
  k 17 17 [(t 16)] .sc,
  s 18 (.not (t 17)),
  s 19 (.mv (t 18)),
  sg [(19, false)] 20 (.mv (c (i 0))),
  sg [(19, false)] 21 (.ldB 4 5 1 false true),
  kg [(19, false)] 22 18 [(t 21), (c (i 0)), (c (i 100000))] .sc,
  sg [(19, false)] 23 (.not (t 22)),
  s 24 (.pick (t 19) (c (.bool true)) (t 23)),
  s 25 (.mv (t 24)),
  sg [(25, false)] 26 (.mv (c (i 0))),
  sg [(25, false)] 27 (.ldB 4 6 1 false true),
  kg [(25, false)] 28 18 [(t 27), (c (i 1)), (c (i 99))] .sc,
  sg [(25, false)] 29 (.not (t 28)),
  s 30 (.pick (t 25) (c (.bool true)) (t 29)),
  s 31 (.mv (t 30)),
  sg [(31, false)] 32 (.mv (t 3)),
  sg [(31, false)] 33 (.bin .gtr (t 32) (c (i 0))),
  sg [(31, false)] 34 (.mv (t 33)),
  sg [(34, true), (31, false)] 35 (.mv (c (i 0))),
  sg [(34, true), (31, false)] 36 (.mv (t 35)),
  sg [(34, true), (31, false)] 37 (.ldB 4 0 1 false true),
  sg [(34, true), (31, false)] 38 (.mv (t 0)),
  sg [(34, true), (31, false)] 39 (.mv (t 3)),
  sg [(34, true), (31, false)] 40 (.bin .sub (t 39) (c (i 1))),
  sg [(34, true), (31, false)] 41 (.idx (t 38) (t 40) 8),
  sg [(34, true), (31, false)] 42 (.mv (t 41)),
  sg [(34, true), (31, false)] 43 (.mv (t 42)),
  sg [(34, true), (31, false)] 44 (.ldE 38 43 0 1 false true 8),
  sg [(34, true), (31, false)] 45 (.bin .leq (t 37) (t 44)),
  sg [(31, false)] 46 (.pick (t 34) (t 45) (c (.bool false))),
  s 47 (.pick (t 31) (c (.bool true)) (t 46))])
 (.cond (t 47) (.seq (.ops [s 2 (.mv (c (.bool false)))])
 .ret) .skip))))
 (.ops [s 48 (.bin .add (t 10) (c (i 1))),
  s 10 (.mv (t 48))])))))))
 (.seq (.ops [s 2 (.mv (c (.bool true)))])
 .ret)))), none, [2], [false]⟩
def i8 : Comp := ⟨(.seq (.ops [s 2 (.mv (c (.bool false)))])
 (.seq (.seq (.ops [s 3 (.mv (c (i 0)))])
 (.block 0 (.loop (.seq (.seq (.ops [s 4 (.mv (t 3)),
  s 5 (.mv (t 0)),
  s 6 (.len false (t 5)),
  s 7 (.bin .lss (t 4) (t 6))])
 (.cond (t 7) .skip (.exit 0)))
 (.seq (.block 1 (.seq (.ops [s 10 (.mv (t 0)),
  s 11 (.mv (t 3)),
  s 12 (.idx (t 10) (t 11) 8),
  s 13 (.mv (t 12)),
  s 14 (.ldE 10 13 0 5 true false 8),
  k 15 19 [(t 14)] .sc,
  s 16 (.not (t 15)),
  s 17 (.mv (t 16)),
  sg [(17, false)] 18 (.mv (t 0)),
  sg [(17, false)] 19 (.mv (t 3)),
  sg [(17, false)] 20 (.idx (t 18) (t 19) 8),
  sg [(17, false)] 21 (.mv (t 20)),
  sg [(17, false)] 22 (.ldE 18 21 5 1 false true 8),
  kg [(17, false)] 23 20 [(t 22), (c (i 0)), (c (i 100000))] .sc,
  sg [(17, false)] 24 (.not (t 23)),
  s 25 (.pick (t 17) (c (.bool true)) (t 24)),
  s 26 (.mv (t 25)),
  sg [(26, false)] 27 (.mv (t 0)),
  sg [(26, false)] 28 (.mv (t 3)),
  sg [(26, false)] 29 (.idx (t 27) (t 28) 8),
  sg [(26, false)] 30 (.mv (t 29)),
  sg [(26, false)] 31 (.ldE 27 30 6 1 false true 8),
  kg [(26, false)] 32 20 [(t 31), (c (i 1)), (c (i 99))] .sc,
  sg [(26, false)] 33 (.not (t 32)),
  s 34 (.pick (t 26) (c (.bool true)) (t 33)),
  s 35 (.mv (t 34)),
  sg [(35, false)] 36 (.mv (t 3)),
  sg [(35, false)] 37 (.bin .gtr (t 36) (c (i 0))),
  sg [(35, false)] 38 (.mv (t 37)),
  sg [(38, true), (35, false)] 39 (.mv (t 0)),
  sg [(38, true), (35, false)] 40 (.mv (t 3)),
  sg [(38, true), (35, false)] 41 (.bin .sub (t 40) (c (i 1))),
  sg [(38, true), (35, false)] 42 (.idx (t 39) (t 41) 8),
  sg [(38, true), (35, false)] 43 (.mv (t 42)),
  sg [(38, true), (35, false)] 44 (.mv (t 43)),
  sg [(38, true), (35, false)] 45 (.ldE 39 44 0 1 false true 8),
  sg [(38, true), (35, false)] 46 (.mv (t 0)),
  sg [(38, true), (35, false)] 47 (.mv (t 3)),
  sg [(38, true), (35, false)] 48 (.idx (t 46) (t 47) 8),
  sg [(38, true), (35, false)] 49 (.mv (t 48)),
  sg [(38, true), (35, false)] 50 (.mv (t 49)),
  sg [(38, true), (35, false)] 51 (.ldE 46 50 0 1 false true 8),
  sg [(38, true), (35, false)] 52 (.bin .geq (t 45) (t 51)),
  sg [(35, false)] 53 (.pick (t 38) (t 52) (c (.bool false))),
  s 54 (.pick (t 35) (c (.bool true)) (t 53))])
 (.cond (t 54) (.seq (.ops [s 2 (.mv (c (.bool false)))])
 .ret) .skip)))
 (.ops [s 8 (.mv (t 3)),
  s 9 (.bin .add (t 8) (c (i 1))),
  s 3 (.mv (t 9))]))))))
 (.seq (.ops [s 55 (.mv (t 0)),
  s 56 (.len false (t 55)),
  s 57 (.bin .leq (t 56) (c (i 16))),
  s 2 (.mv (t 57))])
 .ret))), none, [2], [false]⟩
def i9 : Comp := ⟨(.seq (.ops [s 4 (.mv (c (.bool false)))])
 (.seq (.ops [s 5 (.mv (t 0)),
  s 6 (.mv (t 1)),
  k 7 21 [(t 5), (t 6), (c (.fn 22 []))] .sc,
  s 4 (.mv (t 7))])
 .ret)), none, [4], [false, false]⟩
def i10 : Comp := ⟨(.seq (.ops [s 2 (.box 8 (t 0)),
  s 3 (.box 8 (t 1)),
  s 4 (.mv (c (.bool false)))])
 (.seq (.ops [s 5 (.mv (c (i 0))),
  s 6 (.ldB 2 5 1 false true),
  s 7 (.mv (c (i 0))),
  s 8 (.ldB 3 5 1 false true),
  s 9 (.bin .gtr (t 6) (t 8)),
  s 10 (.mv (t 9)),
  sg [(10, false)] 11 (.mv (c (i 0))),
  sg [(10, false)] 12 (.ldB 2 5 1 false true),
  sg [(10, false)] 13 (.mv (c (i 0))),
  sg [(10, false)] 14 (.ldB 3 5 1 false true),
  sg [(10, false)] 15 (.bin .eql (t 12) (t 14)),
  sg [(10, false)] 16 (.mv (t 15)),
  sg [(16, true), (10, false)] 17 (.mv (c (i 0))),
  sg [(16, true), (10, false)] 18 (.ldB 2 6 1 false true),
  sg [(16, true), (10, false)] 19 (.mv (c (i 0))),
  sg [(16, true), (10, false)] 20 (.ldB 3 6 1 false true),
  sg [(16, true), (10, false)] 21 (.bin .gtr (t 18) (t 20)),
  sg [(10, false)] 22 (.pick (t 16) (t 21) (c (.bool false))),
  s 23 (.pick (t 10) (c (.bool true)) (t 22)),
  s 4 (.mv (t 23))])
 .ret)), none, [4], [false, false]⟩
def i11 : Comp := ⟨(.seq (.ops [s 2 (.mv (c (.lst 5 true [])))])
 (.seq (.ops [s 6 (.bsl 5 []),
  s 3 (.mv (t 6))])
 (.seq (.seq (.ops [s 7 (.mv (t 0)),
  k 8 7 [(t 7)] .sc,
  s 9 (.not (t 8))])
 (.cond (t 9) (.seq (.ops [s 10 (.mv (t 3)),
  s 2 (.mv (t 10))])
 .ret) .skip))
 (.seq (.seq (.ops [s 11 (.mv (t 0)),
  s 12 (.len false (t 11)),
  s 13 (.mv (c (i 0)))])
 (.block 0 (.loop (.seq (.ops [s 14 (.bin .lss (t 13) (t 12))])
 (.seq (.cond (t 14) .skip (.exit 0))
 (.seq (.block 1 (.seq (.ops [s 15 (.idx (t 11) (t 13) 8),
  s 16 (.ldE 11 15 0 8 true false 8),
  s 5 (.alc [(i 0), (i 0), (i 0), (.str (bs [])), (.lst 2 true []), (i 0), (i 0), (.bool false)]),
  s 5 (.stB 5 0 8 (t 16) false)])
 (.seq (.ops [s 17 (.mv (c (i 0))),
  s 18 (.ldB 5 7 1 false true),
  s 19 (.not (t 18))])
 (.cond (t 19) (.ops [s 20 (.mv (t 3)),
  s 21 (.mv (c (i 0))),
  s 22 (.ldB 5 0 5 true false),
  k 23 24 [(t 22)] .lin,
  s 24 (.bsl 5 [(t 23)]),
  s 25 (.app (t 20) (t 24) 5 64),
  s 3 (.mv (t 25))]) .skip))))
 (.ops [s 26 (.bin .add (t 13) (c (i 1))),
  s 13 (.mv (t 26))])))))))
 (.seq (.ops [s 27 (.mv (t 3)),
  s 2 (.mv (t 27))])
 .ret))))), none, [2], [false]⟩
def i12 : Comp := ⟨(.seq (.ops [s 2 (.mv (c (.bool false)))])
 (.seq (.seq (.ops [s 5 (.mv (t 0)),
  s 6 (.len false (t 5)),
  s 7 (.bin .gtr (t 6) (c (i 16)))])
 (.cond (t 7) (.seq (.ops [s 2 (.mv (c (.bool false)))])
 .ret) .skip))
 (.seq (.seq (.ops [s 8 (.mv (t 0)),
  s 9 (.len false (t 8)),
  s 10 (.mv (c (i 0)))])
 (.block 0 (.loop (.seq (.ops [s 11 (.bin .lss (t 10) (t 9))])
 (.seq (.cond (t 11) .skip (.exit 0))
 (.seq (.block 1 (.seq (.ops [s 12 (.mv (t 10)),
  s 13 (.idx (t 8) (t 10) 5),
  s 14 (.ldE 8 13 0 5 true false 5),
  s 4 (.alc [(i 0), (i 0), (i 0), (.str (bs [])), (.lst 2 true [])]),
  s 3 (.mv (t 12)),
  s 4 (.stB 4 0 5 (t 14) false)])
 (.seq (.ops [s 15 (.ldB 4 0 5 true false),
  k 16 17 [(t 15)] .sc,
  s 17 (.not (t 16)),
  s 18 (.mv (t 17)),
  sg [(18, false)] 19 (.mv (t 3)),
  sg [(18, false)] 20 (.bin .gtr (t 19) (c (i 0))),
  sg [(18, false)] 21 (.mv (t 20)),
  sg [(21, true), (18, false)] 22 (.mv (c (i 0))),
  sg [(21, true), (18, false)] 23 (.ldB 4 0 1 false true),
  sg [(21, true), (18, false)] 24 (.mv (t 0)),
  sg [(21, true), (18, false)] 25 (.mv (t 3)),
  sg [(21, true), (18, false)] 26 (.bin .sub (t 25) (c (i 1))),
  sg [(21, true), (18, false)] 27 (.idx (t 24) (t 26) 5),
  sg [(21, true), (18, false)] 28 (.mv (t 27)),
  sg [(21, true), (18, false)] 29 (.ldE 24 28 0 1 false true 5),
  sg [(21, true), (18, false)] 30 (.bin .leq (t 23) (t 29)),
  sg [(18, false)] 31 (.pick (t 21) (t 30) (c (.bool false))),
  s 32 (.pick (t 18) (c (.bool true)) (t 31))])
 (.cond (t 32) (.seq (.ops [s 2 (.mv (c (.bool false)))])
 .ret) .skip))))
 (.ops [s 33 (.bin .add (t 10) (c (i 1))),
  s 10 (.mv (t 33))])))))))
 (.seq (.ops [s 2 (.mv (c (.bool true)))])
 .ret)))), none, [2], [false]⟩
def i14 : Comp := ⟨(.seq (.ops [s 4 (.mv (c (.lst 8 true [])))])
 (.seq (.seq (.ops [s 7 (.mv (c .junk)),
  s 8 (.mv (t 1))])
 (.seq (opC 9 25 0 [(t 8)] .lin)
 (.ops [s 5 (.mv (t 9))])))
 (.seq (.seq (.ops [s 10 (.mv (t 5)),
  s 11 (.len false (t 10)),
  s 12 (.bin .eql (t 11) (c (i 0)))])
 (.cond (t 12) (.seq (.ops [s 13 (.mv (t 5)),
  s 4 (.mv (t 13))])
 .ret) .skip))
 (.seq (.seq (.ops [s 14 (.mv (c .junk)),
  s 15 (.mv (t 5)),
  s 16 (.len false (t 15))])
 (.seq (opC 17 26 0 [(t 16)] .sc)
 (.ops [s 6 (.mv (t 17))])))
 (.seq (.seq (.seq (.ops [s 18 (.mv (c .junk))])
 (.seq (opC 19 26 0 [(c (i 10))] .sc)
 (.ops [])))
 (.block 0 (.seq (.ops [s 21 (.bin .eql (t 19) (c (i 0))),
  s 20 (.mv (t 21))])
 (.cond (t 20) (.seq (.ops [s 22 (.mv (t 5)),
  s 23 (.mv (t 6)),
  s 24 (.mv (c .junk)),
  s 25 (.bsl 1 [(c (i (-1))), (c (i 100000)), (c (i 100001))])])
 (.seq (opC 26 27 0 [(t 25)] .sc)
 (.seq (.ops [s 27 (.idx (t 22) (t 23) 8),
  s 28 (.mv (t 27))])
 (.seq (opW 5 28 5 1 8 (t 26))
 (.ops []))))) (.seq (.ops [s 30 (.bin .eql (t 19) (c (i 1))),
  s 29 (.mv (t 30))])
 (.cond (t 29) (.seq (.ops [s 31 (.mv (t 5)),
  s 32 (.mv (t 6)),
  s 33 (.mv (c .junk)),
  s 34 (.bsl 1 [(c (i 0)), (c (i 99)), (c (i 100))])])
 (.seq (opC 35 27 0 [(t 34)] .sc)
 (.seq (.ops [s 36 (.idx (t 31) (t 32) 8),
  s 37 (.mv (t 36))])
 (.seq (opW 5 37 6 1 8 (t 35))
 (.ops []))))) (.seq (.ops [s 39 (.bin .eql (t 19) (c (i 2))),
  s 38 (.mv (t 39))])
 (.cond (t 38) (.seq (.ops [s 40 (.mv (t 5)),
  s 41 (.mv (t 6)),
  s 42 (.mv (c .junk))])
 (.seq (opC 43 28 0 [] .lin)
 (.seq (.ops [s 44 (.idx (t 40) (t 41) 8),
  s 45 (.mv (t 44))])
 (.seq (opW 5 45 0 5 8 (t 43))
 (.ops []))))) .skip))))))))
 (.seq (.ops [s 46 (.mv (t 5)),
  s 4 (.mv (t 46))])
 .ret)))))), none, [4], [true]⟩
def i15 : Comp := ⟨(.seq (.ops [s 2 (.mv (c (.lst 8 true [])))])
 (.seq (.ops [s 6 (.bsl 8 []),
  s 3 (.mv (t 6))])
 (.seq (.seq (.ops [s 7 (.mv (t 0)),
  s 8 (.len false (t 7)),
  s 9 (.mv (c (i 0)))])
 (.block 0 (.loop (.seq (.ops [s 10 (.bin .lss (t 9) (t 8))])
 (.seq (.cond (t 10) .skip (.exit 0))
 (.seq (.block 1 (.seq (.ops [s 11 (.idx (t 7) (t 9) 8),
  s 12 (.ldE 7 11 0 8 true false 8),
  s 5 (.alc [(i 0), (i 0), (i 0), (.str (bs [])), (.lst 2 true []), (i 0), (i 0), (.bool false)]),
  s 5 (.stB 5 0 8 (t 12) false)])
 (.seq (.ops [s 13 (.mv (c (i 0))),
  s 14 (.ldB 5 0 5 true false),
  k 15 24 [(t 14)] .lin,
  s 16 (.mv (c (i 0))),
  s 5 (.stB 5 0 5 (t 15) true)])
 (.ops [s 17 (.mv (t 3)),
  s 18 (.ldB 5 0 8 true false),
  s 19 (.bsl 8 [(t 18)]),
  s 20 (.app (t 17) (t 19) 8 88),
  s 3 (.mv (t 20))]))))
 (.ops [s 21 (.bin .add (t 9) (c (i 1))),
  s 9 (.mv (t 21))])))))))
 (.seq (.ops [s 22 (.mv (t 3)),
  s 2 (.mv (t 22))])
 .ret)))), none, [2], [false]⟩
def i16 : Comp := ⟨(.seq (.ops [s 3 (.box 8 (t 1)),
  s 4 (.mv (c (.lst 8 true [])))])
 (.seq (.ops [s 7 (.mv (t 0)),
  k 8 15 [(t 7)] .lin,
  s 5 (.mv (t 8))])
 (.seq (.seq (.ops [s 9 (.mv (t 0)),
  k 10 7 [(t 9)] .sc,
  s 11 (.not (t 10))])
 (.cond (t 11) (.seq (.ops [s 12 (.mv (t 5)),
  s 4 (.mv (t 12))])
 .ret) .skip))
 (.seq (.ops [s 6 (.mv (c (i 0)))])
 (.seq (.block 0 (.loop (.seq (.seq (.ops [s 13 (.mv (t 6)),
  s 14 (.mv (t 0)),
  s 15 (.len false (t 14)),
  s 16 (.bin .lss (t 13) (t 15)),
  s 17 (.mv (t 16)),
  sg [(17, true)] 18 (.mv (t 0)),
  sg [(17, true)] 19 (.mv (t 6)),
  sg [(17, true)] 20 (.idx (t 18) (t 19) 8),
  sg [(17, true)] 21 (.mv (t 20)),
  sg [(17, true)] 22 (.mv (t 21)),
  sg [(17, true)] 23 (.ldE 18 22 0 1 false true 8),
  sg [(17, true)] 24 (.mv (c (i 0))),
  sg [(17, true)] 25 (.mv (t 24)),
  sg [(17, true)] 26 (.ldB 3 0 1 false true),
  sg [(17, true)] 27 (.bin .lss (t 23) (t 26)),
  s 28 (.pick (t 17) (t 27) (c (.bool false)))])
 (.cond (t 28) .skip (.exit 0)))
 (.block 1 (.ops [s 29 (.mv (t 6)),
  s 30 (.bin .add (t 29) (c (i 1))),
  s 6 (.mv (t 30))])))))
 (.seq (.ops [s 31 (.mv (c (i 0))),
  s 32 (.ldB 3 0 5 true false),
  k 33 24 [(t 32)] .lin,
  s 34 (.mv (c (i 0))),
  s 3 (.stB 3 0 5 (t 33) true)])
 (.seq (.seq (.ops [s 35 (.mv (t 6)),
  s 36 (.mv (t 0)),
  s 37 (.len false (t 36)),
  s 38 (.bin .lss (t 35) (t 37)),
  s 39 (.mv (t 38)),
  sg [(39, true)] 40 (.mv (t 0)),
  sg [(39, true)] 41 (.mv (t 6)),
  sg [(39, true)] 42 (.idx (t 40) (t 41) 8),
  sg [(39, true)] 43 (.mv (t 42)),
  sg [(39, true)] 44 (.mv (t 43)),
  sg [(39, true)] 45 (.ldE 40 44 0 1 false true 8),
  sg [(39, true)] 46 (.mv (c (i 0))),
  sg [(39, true)] 47 (.mv (t 46)),
  sg [(39, true)] 48 (.ldB 3 0 1 false true),
  sg [(39, true)] 49 (.bin .eql (t 45) (t 48)),
  s 50 (.pick (t 39) (t 49) (c (.bool false)))])
 (.cond (t 50) (.seq (.seq (.ops [s 51 (.ldB 3 0 8 true false),
  s 52 (.mv (t 0)),
  s 53 (.mv (t 6)),
  s 54 (.idx (t 52) (t 53) 8),
  s 55 (.ldE 52 54 0 8 true false 8),
  k 56 10 [(t 51), (t 55)] .sc,
  s 57 (.not (t 56))])
 (.cond (t 57) (.seq (.ops [s 58 (.mv (t 5)),
  s 4 (.mv (t 58))])
 .ret) .skip))
 (.seq (.ops [s 59 (.mv (t 5)),
  s 60 (.mv (t 6)),
  s 61 (.ldB 3 0 8 true false),
  s 62 (.idx (t 59) (t 60) 8)])
 (.seq (opW 5 62 0 8 8 (t 61))
 (.ops [])))) (.seq (.ops [s 63 (.mv (t 5)),
  s 64 (.mv (t 6)),
  s 65 (.ldB 3 0 8 true false),
  s 66 (.bsl 8 [(t 65)])])
 (.seq (opXL 67 29 [(t 63), (t 64), (t 66)])
 (.ops [s 5 (.mv (t 67))])))))
 (.seq (.seq (.ops [s 68 (.mv (t 5)),
  k 69 7 [(t 68)] .sc,
  s 70 (.not (t 69))])
 (.cond (t 70) (.seq (.ops [s 71 (.mv (t 0)),
  k 72 15 [(t 71)] .lin,
  s 4 (.mv (t 72))])
 .ret) .skip))
 (.seq (.ops [s 73 (.mv (t 5)),
  s 4 (.mv (t 73))])
 .ret))))))))), none, [4], [false, false]⟩
def i17 : Comp := ⟨(.seq (.ops [s 1 (.box 5 (t 0)),
  s 2 (.mv (c (.bool false)))])
 (.seq (.seq (.ops [s 3 (.mv (c (i 0))),
  s 4 (.ldB 1 0 1 false true),
  k 5 18 [(t 4), (c (i 1)), (c (i 99))] .sc,
  s 6 (.not (t 5)),
  s 7 (.mv (t 6)),
  sg [(7, false)] 8 (.mv (c (i 0))),
  sg [(7, false)] 9 (.ldB 1 2 1 false true),
  kg [(7, false)] 10 18 [(t 9), (c (i 0)), (c (i 9))] .sc,
  sg [(7, false)] 11 (.not (t 10)),
  s 12 (.pick (t 7) (c (.bool true)) (t 11)),
  s 13 (.mv (t 12)),
  sg [(13, false)] 14 (.mv (c (i 0))),
  sg [(13, false)] 15 (.ldB 1 3 1 false true),
  sg [(13, false)] 16 (.bin .neq (t 15) (c (.str (bs [])))),
  sg [(13, false)] 17 (.mv (t 16)),
  sg [(17, true), (13, false)] 18 (.mv (c (i 0))),
  sg [(17, true), (13, false)] 19 (.ldB 1 3 1 false true),
  kg [(17, true), (13, false)] 20 30 [(t 19)] .sc,
  sg [(17, true), (13, false)] 21 (.not (t 20)),
  sg [(13, false)] 22 (.pick (t 17) (t 21) (c (.bool false))),
  s 23 (.pick (t 13) (c (.bool true)) (t 22))])
 (.cond (t 23) (.seq (.ops [s 2 (.mv (c (.bool false)))])
 .ret) .skip))
 (.seq (.seq (.ops [s 24 (.mv (c (i 0))),
  s 25 (.ldB 1 1 1 false true)])
 (.block 0 (.seq (.ops [s 27 (.bin .eql (t 25) (c (i 1))),
  s 26 (.mv (t 27))])
 (.cond (t 26) (.seq (.ops [s 28 (.mv (c (i 0))),
  s 29 (.ldB 1 4 1 false false),
  s 30 (.len false (t 29)),
  s 31 (.bin .eql (t 30) (c (i 1))),
  s 32 (.mv (t 31)),
  sg [(32, true)] 33 (.mv (c (i 0))),
  sg [(32, true)] 34 (.ldB 1 4 1 false false),
  sg [(32, true)] 35 (.idx (t 34) (c (i 0)) 2),
  sg [(32, true)] 36 (.ldE 34 35 0 2 true true 2),
  kg [(32, true)] 37 31 [(t 36)] .sc,
  s 38 (.pick (t 32) (t 37) (c (.bool false))),
  s 2 (.mv (t 38))])
 .ret) (.seq (.ops [s 40 (.bin .eql (t 25) (c (i 2))),
  s 39 (.mv (t 40))])
 (.cond (t 39) (.seq (.ops [s 41 (.mv (c (i 0))),
  s 42 (.ldB 1 4 1 false false),
  k 43 32 [(t 42)] .sc,
  s 2 (.mv (t 43))])
 .ret) (.seq (.ops [s 45 (.bin .eql (t 25) (c (i 3))),
  s 44 (.mv (t 45))])
 (.cond (t 44) (.seq (.ops [s 46 (.mv (c (i 0))),
  s 47 (.ldB 1 4 1 false false),
  k 48 33 [(t 47)] .sc,
  s 2 (.mv (t 48))])
 .ret) .skip))))))))
 (.seq (.ops [s 2 (.mv (c (.bool false)))])
 .ret)))), none, [2], [false]⟩
def i18 : Comp := ⟨(.seq (.ops [s 6 (.mv (c (.bool false)))])
 (.seq (.ops [s 7 (.mv (t 1)),
  s 8 (.mv (t 0)),
  s 9 (.bin .leq (t 7) (t 8)),
  s 10 (.mv (t 9)),
  sg [(10, true)] 11 (.mv (t 0)),
  sg [(10, true)] 12 (.mv (t 2)),
  sg [(10, true)] 13 (.bin .leq (t 11) (t 12)),
  s 14 (.pick (t 10) (t 13) (c (.bool false))),
  s 6 (.mv (t 14))])
 .ret)), none, [6], [true, true, true]⟩
def i19 : Comp := ⟨(.seq (.ops [s 1 (.box 5 (t 0)),
  s 2 (.mv (c (.bool false)))])
 (.seq (.seq (.ops [s 3 (.mv (c (i 0))),
  s 4 (.ldB 1 0 1 false true),
  k 5 20 [(t 4), (c (i 1)), (c (i 99))] .sc,
  s 6 (.not (t 5)),
  s 7 (.mv (t 6)),
  sg [(7, false)] 8 (.mv (c (i 0))),
  sg [(7, false)] 9 (.ldB 1 2 1 false true),
  kg [(7, false)] 10 20 [(t 9), (c (i 0)), (c (i 9))] .sc,
  sg [(7, false)] 11 (.not (t 10)),
  s 12 (.pick (t 7) (c (.bool true)) (t 11)),
  s 13 (.mv (t 12)),
  sg [(13, false)] 14 (.mv (c (i 0))),
  sg [(13, false)] 15 (.ldB 1 3 1 false true),
  sg [(13, false)] 16 (.bin .neq (t 15) (c (.str (bs [])))),
  sg [(13, false)] 17 (.mv (t 16)),
  sg [(17, true), (13, false)] 18 (.mv (c (i 0))),
  sg [(17, true), (13, false)] 19 (.ldB 1 3 1 false true),
  kg [(17, true), (13, false)] 20 34 [(t 19)] .sc,
  sg [(17, true), (13, false)] 21 (.not (t 20)),
  sg [(13, false)] 22 (.pick (t 17) (t 21) (c (.bool false))),
  s 23 (.pick (t 13) (c (.bool true)) (t 22))])
 (.cond (t 23) (.seq (.ops [s 2 (.mv (c (.bool false)))])
 .ret) .skip))
 (.seq (.seq (.ops [s 24 (.mv (c (i 0))),
  s 25 (.ldB 1 1 1 false true)])
 (.block 0 (.seq (.ops [s 27 (.bin .eql (t 25) (c (i 1))),
  s 26 (.mv (t 27))])
 (.cond (t 26) (.seq (.ops [s 28 (.mv (c (i 0))),
  s 29 (.ldB 1 4 1 false false),
  s 30 (.len false (t 29)),
  s 31 (.bin .eql (t 30) (c (i 1))),
  s 32 (.mv (t 31)),
  sg [(32, true)] 33 (.mv (c (i 0))),
  sg [(32, true)] 34 (.ldB 1 4 1 false false),
  sg [(32, true)] 35 (.idx (t 34) (c (i 0)) 2),
  sg [(32, true)] 36 (.ldE 34 35 0 2 true true 2),
  kg [(32, true)] 37 35 [(t 36)] .sc,
  s 38 (.pick (t 32) (t 37) (c (.bool false))),
  s 2 (.mv (t 38))])
 .ret) (.seq (.ops [s 40 (.bin .eql (t 25) (c (i 2))),
  s 39 (.mv (t 40))])
 (.cond (t 39) (.seq (.ops [s 41 (.mv (c (i 0))),
  s 42 (.ldB 1 4 1 false false),
  k 43 36 [(t 42)] .sc,
  s 2 (.mv (t 43))])
 .ret) (.seq (.ops [s 45 (.bin .eql (t 25) (c (i 3))),
  s 44 (.mv (t 45))])
 (.cond (t 44) (.seq (.ops [s 46 (.mv (c (i 0))),
  s 47 (.ldB 1 4 1 false false),
  k 48 37 [(t 47)] .sc,
  s 2 (.mv (t 48))])
 .ret) .skip))))))))
 (.seq (.ops [s 2 (.mv (c (.bool false)))])
 .ret)))), none, [2], [false]⟩
def i20 : Comp := ⟨(.seq (.ops [s 6 (.mv (c (.bool false)))])
 (.seq (.ops [s 7 (.mv (t 0)),
  s 8 (.mv (t 1)),
  s 9 (.bin .geq (t 7) (t 8)),
  s 10 (.mv (t 9)),
  sg [(10, true)] 11 (.mv (t 0)),
  sg [(10, true)] 12 (.mv (t 2)),
  sg [(10, true)] 13 (.bin .leq (t 11) (t 12)),
  s 14 (.pick (t 10) (t 13) (c (.bool false))),
  s 6 (.mv (t 14))])
 .ret)), none, [6], [true, true, true]⟩
def i21 : Comp := ⟨(.seq (.ops [s 6 (.mv (c (.bool false)))])
 (.seq (.seq (.ops [s 10 (.mv (t 0)),
  s 11 (.len false (t 10)),
  s 12 (.mv (t 1)),
  s 13 (.len false (t 12)),
  s 14 (.bin .neq (t 11) (t 13))])
 (.cond (t 14) (.seq (.ops [s 6 (.mv (c (.bool false)))])
 .ret) .skip))
 (.seq (.seq (.ops [s 15 (.mv (t 0)),
  s 16 (.len false (t 15)),
  s 17 (.mv (c (i 0)))])
 (.block 0 (.loop (.seq (.ops [s 18 (.bin .lss (t 17) (t 16))])
 (.seq (.cond (t 18) .skip (.exit 0))
 (.seq (.block 1 (.seq (.ops [s 19 (.mv (t 17)),
  s 20 (.idx (t 15) (t 17) 8),
  s 21 (.ldE 15 20 0 8 true false 8),
  s 8 (.alc [(i 0), (i 0), (i 0), (.str (bs [])), (.lst 2 true []), (i 0), (i 0), (.bool false)]),
  s 7 (.mv (t 19)),
  s 8 (.stB 8 0 8 (t 21) false)])
 (.seq (.ops [s 22 (.mv (t 1)),
  s 23 (.mv (t 7)),
  s 24 (.idx (t 22) (t 23) 8),
  s 25 (.ldE 22 24 0 8 true false 8),
  s 9 (.alc [(i 0), (i 0), (i 0), (.str (bs [])), (.lst 2 true []), (i 0), (i 0), (.bool false)]),
  s 9 (.stB 9 0 8 (t 25) false)])
 (.seq (.ops [s 26 (.mv (t 2)),
  s 27 (.ldB 8 0 8 true false),
  s 28 (.ldB 9 0 8 true false),
  v 29 (t 26) [(t 27), (t 28)],
  s 30 (.not (t 29))])
 (.cond (t 30) (.seq (.ops [s 6 (.mv (c (.bool false)))])
 .ret) .skip)))))
 (.ops [s 31 (.bin .add (t 17) (c (i 1))),
  s 17 (.mv (t 31))])))))))
 (.seq (.ops [s 6 (.mv (c (.bool true)))])
 .ret)))), none, [6], [false, false, false]⟩
def i22 : Comp := ⟨(.seq (.ops [s 2 (.box 8 (t 0)),
  s 3 (.box 8 (t 1)),
  s 4 (.mv (c (.bool false)))])
 (.seq (.ops [s 5 (.mv (c (i 0))),
  s 6 (.ldB 2 5 1 false true),
  s 7 (.mv (c (i 0))),
  s 8 (.ldB 3 5 1 false true),
  s 9 (.bin .eql (t 6) (t 8)),
  s 10 (.mv (t 9)),
  sg [(10, true)] 11 (.mv (c (i 0))),
  sg [(10, true)] 12 (.ldB 2 6 1 false true),
  sg [(10, true)] 13 (.mv (c (i 0))),
  sg [(10, true)] 14 (.ldB 3 6 1 false true),
  sg [(10, true)] 15 (.bin .eql (t 12) (t 14)),
  s 16 (.pick (t 10) (t 15) (c (.bool false))),
  s 17 (.mv (t 16)),
  sg [(17, true)] 18 (.mv (c (i 0))),
  sg [(17, true)] 19 (.ldB 2 7 1 false true),
  sg [(17, true)] 20 (.mv (c (i 0))),
  sg [(17, true)] 21 (.ldB 3 7 1 false true),
  sg [(17, true)] 22 (.beq false (t 19) (t 21)),
  s 23 (.pick (t 17) (t 22) (c (.bool false))),
  s 24 (.mv (t 23)),
  sg [(24, true)] 25 (.mv (c (i 0))),
  sg [(24, true)] 26 (.ldB 2 0 5 true false),
  sg [(24, true)] 27 (.mv (c (i 0))),
  sg [(24, true)] 28 (.ldB 3 0 5 true false),
  kg [(24, true)] 29 23 [(t 26), (t 28)] .sc,
  s 30 (.pick (t 24) (t 29) (c (.bool false))),
  s 4 (.mv (t 30))])
 .ret)), none, [4], [false, false]⟩
def i23 : Comp := ⟨(.seq (.ops [s 2 (.box 5 (t 0)),
  s 3 (.box 5 (t 1)),
  s 4 (.mv (c (.bool false)))])
 (.seq (.ops [s 5 (.mv (c (i 0))),
  s 6 (.ldB 2 0 1 false true),
  s 7 (.mv (c (i 0))),
  s 8 (.ldB 3 0 1 false true),
  s 9 (.bin .eql (t 6) (t 8)),
  s 10 (.mv (t 9)),
  sg [(10, true)] 11 (.mv (c (i 0))),
  sg [(10, true)] 12 (.ldB 2 1 1 false true),
  sg [(10, true)] 13 (.mv (c (i 0))),
  sg [(10, true)] 14 (.ldB 3 1 1 false true),
  sg [(10, true)] 15 (.bin .eql (t 12) (t 14)),
  s 16 (.pick (t 10) (t 15) (c (.bool false))),
  s 17 (.mv (t 16)),
  sg [(17, true)] 18 (.mv (c (i 0))),
  sg [(17, true)] 19 (.ldB 2 2 1 false true),
  sg [(17, true)] 20 (.mv (c (i 0))),
  sg [(17, true)] 21 (.ldB 3 2 1 false true),
  sg [(17, true)] 22 (.bin .eql (t 19) (t 21)),
  s 23 (.pick (t 17) (t 22) (c (.bool false))),
  s 24 (.mv (t 23)),
  sg [(24, true)] 25 (.mv (c (i 0))),
  sg [(24, true)] 26 (.ldB 2 3 1 false true),
  sg [(24, true)] 27 (.mv (c (i 0))),
  sg [(24, true)] 28 (.ldB 3 3 1 false true),
  sg [(24, true)] 29 (.bin .eql (t 26) (t 28)),
  s 30 (.pick (t 24) (t 29) (c (.bool false))),
  s 31 (.mv (t 30)),
  sg [(31, true)] 32 (.mv (c (i 0))),
  sg [(31, true)] 33 (.ldB 2 4 1 false false),
  sg [(31, true)] 34 (.mv (c (i 0))),
  sg [(31, true)] 35 (.ldB 3 4 1 false false),
  kg [(31, true)] 36 38 [(t 33), (t 35)] .sc,
  s 37 (.pick (t 31) (t 36) (c (.bool false))),
  s 4 (.mv (t 37))])
 .ret)), none, [4], [false, false]⟩
def i24 : Comp := ⟨(.seq (.ops [s 1 (.box 5 (t 0)),
  s 2 (.alc [(i 0), (i 0), (i 0), (.str (bs [])), (.lst 2 true [])])])
 (.seq (.ops [s 3 (.mv (c (i 0))),
  s 4 (.ldB 1 4 1 false false),
  k 5 39 [(t 4)] .lin,
  s 6 (.mv (c (i 0))),
  s 1 (.stB 1 4 1 (t 5) true)])
 (.seq (.ops [s 7 (.ldB 1 0 5 true false),
  s 2 (.stB 2 0 5 (t 7) false)])
 .ret))), (some ⟨2, 31, 5, true⟩), [], [false]⟩
def i25 : Comp := ⟨(.seq (.ops [s 4 (.mv (c (.lst 8 true [])))])
 (.seq (.ops [s 7 (.bsl 8 []),
  s 5 (.mv (t 7))])
 (.seq (.seq (.seq (.ops [s 8 (.mv (c .junk))])
 (.seq (opC 9 26 0 [(c (i 6))] .sc)
 (.ops [s 6 (.mv (t 9))])))
 (.block 0 (.loop (.seq (.seq (.ops [s 10 (.mv (t 6)),
  s 11 (.bin .gtr (t 10) (c (i 0)))])
 (.cond (t 11) .skip (.exit 0)))
 (.seq (.block 1 (.seq (.ops [s 14 (.mv (t 5)),
  s 15 (.mv (c .junk)),
  s 16 (.mv (t 1))])
 (.seq (opC 17 41 0 [(t 16)] .lin)
 (.ops [k 18 40 [(t 14), (t 17)] .lin,
  s 5 (.mv (t 18))]))))
 (.ops [s 12 (.mv (t 6)),
  s 13 (.bin .sub (t 12) (c (i 1))),
  s 6 (.mv (t 13))]))))))
 (.seq (.ops [s 19 (.mv (t 5)),
  s 4 (.mv (t 19))])
 .ret)))), none, [4], [true]⟩
def i26 : Comp := ⟨(.seq (.ops [s 4 (.mv (c (i 0)))])
 (.seq (.seq (.ops [s 8 (.mv (t 1)),
  s 9 (.bin .leq (t 8) (c (i 0)))])
 (.cond (t 9) (.seq (.ops [s 4 (.mv (c (i 0)))])
 .ret) .skip))
 (.seq (.seq (.ops [s 10 (.mv (t 1)),
  s 11 (.bin .leq (t 10) (c (i 256)))])
 (.cond (t 11) (.seq (.seq (.ops [s 12 (.mv (c .junk))])
 (.seq (opC 13 42 0 [] .sc)
 (.ops [s 14 (.mv (t 1)),
  s 15 (.bin .rem (t 13) (t 14)),
  s 4 (.mv (t 15))])))
 .ret) .skip))
 (.seq (.seq (.ops [s 16 (.mv (c .junk))])
 (.seq (opC 17 42 0 [] .sc)
 (.ops [s 5 (.mv (t 17))])))
 (.seq (.seq (.ops [s 18 (.mv (c .junk))])
 (.seq (opC 19 42 0 [] .sc)
 (.ops [s 6 (.mv (t 19))])))
 (.seq (.seq (.ops [s 20 (.mv (c .junk))])
 (.seq (opC 21 42 0 [] .sc)
 (.ops [s 7 (.mv (t 21))])))
 (.seq (.ops [s 22 (.mv (t 5)),
  s 23 (.bin .mul (t 22) (c (i 65536))),
  s 24 (.mv (t 6)),
  s 25 (.bin .mul (t 24) (c (i 256))),
  s 26 (.bin .add (t 23) (t 25)),
  s 27 (.mv (t 7)),
  s 28 (.bin .add (t 26) (t 27)),
  s 29 (.mv (t 1)),
  s 30 (.bin .rem (t 28) (t 29)),
  s 4 (.mv (t 30))])
 .ret))))))), none, [4], [true]⟩
def i28 : Comp := ⟨(.seq (.ops [s 2 (.alc [(i 0), (i 0), (i 0), (.str (bs [])), (.lst 2 true [])])])
 (.seq (.seq (.ops [s 4 (.mv (c .junk))])
 (.seq (opC 5 43 0 [] .lin)
 (.ops [s 3 (.mv (t 5))])))
 (.seq (.seq (.ops [s 6 (.mv (t 3)),
  s 7 (.len false (t 6)),
  s 8 (.bin .eql (t 7) (c (i 0)))])
 (.cond (t 8) (.seq (.ops [s 9 (.bld [(i 0), (i 0), (i 0), (.str (bs [])), (.lst 2 true [])] []),
  s 2 (.stB 2 0 5 (t 9) false)])
 .ret) .skip))
 (.seq (.ops [s 10 (.mv (t 3)),
  s 11 (.idx (t 10) (c (i 0)) 5),
  s 12 (.ldE 10 11 0 5 true false 5),
  s 2 (.stB 2 0 5 (t 12) false)])
 .ret)))), (some ⟨2, 31, 5, true⟩), [], []⟩
def i30 : Comp := ⟨(.seq (.ops [s 2 (.mv (c (.bool false)))])
 (.seq (.seq (.ops [s 4 (.mv (t 0)),
  s 5 (.len true (t 4)),
  s 6 (.mv (c (i 0)))])
 (.block 0 (.loop (.seq (.ops [s 7 (.bin .lss (t 6) (t 5))])
 (.seq (.cond (t 7) .skip (.exit 0))
 (.seq (.block 1 (.seq (.ops [s 8 (.mv (t 6)),
  s 3 (.mv (t 8))])
 (.seq (.ops [s 9 (.mv (t 0)),
  s 10 (.mv (t 3)),
  s 11 (.six (t 9) (t 10)),
  s 12 (.bin .lss (t 11) (c (.int .u8 (97)))),
  s 13 (.mv (t 12)),
  sg [(13, false)] 14 (.mv (t 0)),
  sg [(13, false)] 15 (.mv (t 3)),
  sg [(13, false)] 16 (.six (t 14) (t 15)),
  sg [(13, false)] 17 (.bin .gtr (t 16) (c (.int .u8 (122)))),
  s 18 (.pick (t 13) (c (.bool true)) (t 17))])
 (.cond (t 18) (.seq (.ops [s 2 (.mv (c (.bool false)))])
 .ret) .skip))))
 (.ops [s 19 (.bin .add (t 6) (c (i 1))),
  s 6 (.mv (t 19))])))))))
 (.seq (.ops [s 20 (.mv (t 0)),
  s 21 (.len true (t 20)),
  k 22 18 [(t 21), (c (i 1)), (c (i 8))] .sc,
  s 2 (.mv (t 22))])
 .ret))), none, [2], [true]⟩
def i31 : Comp := ⟨(.seq (.ops [s 1 (.box 2 (t 0)),
  s 2 (.mv (c (.bool false)))])
 (.seq (.ops [s 3 (.mv (c (i 0))),
  s 4 (.ldB 1 0 1 false true),
  k 5 18 [(t 4), (c (i 0)), (c (i 200))] .sc,
  s 6 (.mv (t 5)),
  sg [(6, true)] 7 (.mv (c (i 0))),
  sg [(6, true)] 8 (.ldB 1 1 1 false true),
  kg [(6, true)] 9 18 [(t 8), (c (i 0)), (c (i 200))] .sc,
  s 10 (.pick (t 6) (t 9) (c (.bool false))),
  s 2 (.mv (t 10))])
 .ret)), none, [2], [true]⟩
def i32 : Comp := ⟨(.seq (.ops [s 2 (.mv (c (.bool false)))])
 (.seq (.seq (.ops [s 7 (.mv (t 0)),
  k 8 46 [(t 7)] .sc,
  s 9 (.not (t 8))])
 (.cond (t 9) (.seq (.ops [s 2 (.mv (c (.bool false)))])
 .ret) .skip))
 (.seq (.ops [s 10 (.mv (t 0)),
  k 11 47 [(t 10)] .lin,
  s 3 (.mv (t 11))])
 (.seq (.seq (.ops [s 12 (.mv (t 3)),
  s 13 (.len false (t 12)),
  s 14 (.mv (c (i 0)))])
 (.block 0 (.loop (.seq (.ops [s 15 (.bin .lss (t 14) (t 13))])
 (.seq (.cond (t 15) .skip (.exit 0))
 (.seq (.block 1 (.seq (.ops [s 16 (.mv (t 14)),
  s 4 (.mv (t 16))])
 (.seq (.ops [s 17 (.mv (t 4)),
  s 18 (.mv (c (i 0)))])
 (.block 2 (.loop (.seq (.ops [s 19 (.bin .lss (t 18) (t 17))])
 (.seq (.cond (t 19) .skip (.exit 2))
 (.seq (.block 3 (.seq (.ops [s 20 (.mv (t 18)),
  s 5 (.mv (t 20))])
 (.seq (.ops [s 6 (.mv (c (i 0)))])
 (.seq (.seq (.ops [s 21 (.mv (t 5)),
  s 22 (.mv (t 4)),
  s 23 (.bin .sub (t 22) (c (i 1))),
  s 24 (.bin .eql (t 21) (t 23))])
 (.cond (t 24) (.ops [s 6 (.mv (c (i 1)))]) .skip))
 (.seq (.ops [s 25 (.mv (t 3)),
  s 26 (.mv (t 4)),
  s 27 (.idx (t 25) (t 26) 4),
  s 28 (.ldE 25 27 0 4 true true 4),
  s 29 (.mv (t 3)),
  s 30 (.mv (t 5)),
  s 31 (.idx (t 29) (t 30) 4),
  s 32 (.ldE 29 31 0 4 true true 4),
  k 33 48 [(t 28), (t 32)] .sc,
  s 34 (.mv (t 6)),
  s 35 (.bin .neq (t 33) (t 34))])
 (.cond (t 35) (.seq (.ops [s 2 (.mv (c (.bool false)))])
 .ret) .skip))))))
 (.ops [s 36 (.bin .add (t 18) (c (i 1))),
  s 18 (.mv (t 36))])))))))))
 (.ops [s 37 (.bin .add (t 14) (c (i 1))),
  s 14 (.mv (t 37))])))))))
 (.seq (.ops [s 2 (.mv (c (.bool true)))])
 .ret))))), none, [2], [false]⟩
def i33 : Comp := ⟨(.seq (.ops [s 2 (.mv (c (.bool false)))])
 (.seq (.seq (.ops [s 7 (.mv (t 0)),
  s 8 (.len false (t 7)),
  s 9 (.bin .lss (t 8) (c (i 3))),
  s 10 (.mv (t 9)),
  sg [(10, false)] 11 (.mv (t 0)),
  sg [(10, false)] 12 (.len false (t 11)),
  sg [(10, false)] 13 (.bin .gtr (t 12) (c (i 10))),
  s 14 (.pick (t 10) (c (.bool true)) (t 13))])
 (.cond (t 14) (.seq (.ops [s 2 (.mv (c (.bool false)))])
 .ret) .skip))
 (.seq (.ops [s 15 (.mv (t 0)),
  k 16 49 [(t 15)] .lin,
  s 3 (.mv (t 16))])
 (.seq (.seq (.ops [s 17 (.mv (t 3)),
  s 18 (.len false (t 17)),
  s 19 (.mv (c (i 0)))])
 (.block 0 (.loop (.seq (.ops [s 20 (.bin .lss (t 19) (t 18))])
 (.seq (.cond (t 20) .skip (.exit 0))
 (.seq (.block 1 (.seq (.ops [s 21 (.mv (t 19)),
  s 4 (.mv (t 21))])
 (.seq (.seq (.ops [s 22 (.mv (t 3)),
  s 23 (.mv (t 4)),
  s 24 (.idx (t 22) (t 23) 4),
  s 25 (.ldE 22 24 0 4 true true 4),
  k 26 50 [(t 25)] .sc,
  s 27 (.not (t 26))])
 (.cond (t 27) (.seq (.ops [s 2 (.mv (c (.bool false)))])
 .ret) .skip))
 (.seq (.ops [s 28 (.mv (t 4)),
  s 29 (.mv (c (i 0)))])
 (.block 2 (.loop (.seq (.ops [s 30 (.bin .lss (t 29) (t 28))])
 (.seq (.cond (t 30) .skip (.exit 2))
 (.seq (.block 3 (.seq (.ops [s 31 (.mv (t 29)),
  s 5 (.mv (t 31))])
 (.seq (.ops [s 6 (.mv (c (i 0)))])
 (.seq (.seq (.ops [s 32 (.mv (t 5)),
  s 33 (.mv (t 4)),
  s 34 (.bin .sub (t 33) (c (i 1))),
  s 35 (.bin .eql (t 32) (t 34)),
  s 36 (.mv (t 35)),
  sg [(36, false)] 37 (.mv (t 5)),
  sg [(36, false)] 38 (.bin .eql (t 37) (c (i 0))),
  sg [(36, false)] 39 (.mv (t 38)),
  sg [(39, true), (36, false)] 40 (.mv (t 4)),
  sg [(39, true), (36, false)] 41 (.mv (t 3)),
  sg [(39, true), (36, false)] 42 (.len false (t 41)),
  sg [(39, true), (36, false)] 43 (.bin .sub (t 42) (c (i 1))),
  sg [(39, true), (36, false)] 44 (.bin .eql (t 40) (t 43)),
  sg [(36, false)] 45 (.pick (t 39) (t 44) (c (.bool false))),
  s 46 (.pick (t 36) (c (.bool true)) (t 45))])
 (.cond (t 46) (.ops [s 6 (.mv (c (i 1)))]) .skip))
 (.seq (.ops [s 47 (.mv (t 3)),
  s 48 (.mv (t 4)),
  s 49 (.idx (t 47) (t 48) 4),
  s 50 (.ldE 47 49 0 4 true true 4),
  s 51 (.mv (t 3)),
  s 52 (.mv (t 5)),
  s 53 (.idx (t 51) (t 52) 4),
  s 54 (.ldE 51 53 0 4 true true 4),
  k 55 48 [(t 50), (t 54)] .sc,
  s 56 (.mv (t 6)),
  s 57 (.bin .neq (t 55) (t 56))])
 (.cond (t 57) (.seq (.ops [s 2 (.mv (c (.bool false)))])
 .ret) .skip))))))
 (.ops [s 58 (.bin .add (t 29) (c (i 1))),
  s 29 (.mv (t 58))]))))))))))
 (.ops [s 59 (.bin .add (t 19) (c (i 1))),
  s 19 (.mv (t 59))])))))))
 (.seq (.ops [s 2 (.mv (c (.bool true)))])
 .ret))))), none, [2], [false]⟩
def i34 : Comp := ⟨(.seq (.ops [s 2 (.mv (c (.bool false)))])
 (.seq (.seq (.ops [s 3 (.mv (c (i 0)))])
 (.block 0 (.loop (.seq (.seq (.ops [s 4 (.mv (t 3)),
  s 5 (.mv (t 0)),
  s 6 (.len true (t 5)),
  s 7 (.bin .lss (t 4) (t 6))])
 (.cond (t 7) .skip (.exit 0)))
 (.seq (.block 1 (.seq (.ops [s 10 (.mv (t 0)),
  s 11 (.mv (t 3)),
  s 12 (.six (t 10) (t 11)),
  s 13 (.bin .lss (t 12) (c (.int .u8 (97)))),
  s 14 (.mv (t 13)),
  sg [(14, false)] 15 (.mv (t 0)),
  sg [(14, false)] 16 (.mv (t 3)),
  sg [(14, false)] 17 (.six (t 15) (t 16)),
  sg [(14, false)] 18 (.bin .gtr (t 17) (c (.int .u8 (122)))),
  s 19 (.pick (t 14) (c (.bool true)) (t 18))])
 (.cond (t 19) (.seq (.ops [s 2 (.mv (c (.bool false)))])
 .ret) .skip)))
 (.ops [s 8 (.mv (t 3)),
  s 9 (.bin .add (t 8) (c (i 1))),
  s 3 (.mv (t 9))]))))))
 (.seq (.ops [s 20 (.mv (t 0)),
  s 21 (.len true (t 20)),
  k 22 20 [(t 21), (c (i 1)), (c (i 8))] .sc,
  s 2 (.mv (t 22))])
 .ret))), none, [2], [true]⟩
def i35 : Comp := ⟨(.seq (.ops [s 1 (.box 2 (t 0)),
  s 2 (.mv (c (.bool false)))])
 (.seq (.ops [s 3 (.mv (c (i 0))),
  s 4 (.ldB 1 0 1 false true),
  k 5 20 [(t 4), (c (i 0)), (c (i 200))] .sc,
  s 6 (.mv (t 5)),
  sg [(6, true)] 7 (.mv (c (i 0))),
  sg [(6, true)] 8 (.ldB 1 1 1 false true),
  kg [(6, true)] 9 20 [(t 8), (c (i 0)), (c (i 200))] .sc,
  s 10 (.pick (t 6) (t 9) (c (.bool false))),
  s 2 (.mv (t 10))])
 .ret)), none, [2], [true]⟩
def i36 : Comp := ⟨(.seq (.ops [s 2 (.mv (c (.bool false)))])
 (.seq (.ops [s 7 (.mv (t 0)),
  k 8 51 [(t 7)] .lin,
  s 3 (.mv (t 8))])
 (.seq (.seq (.ops [s 4 (.mv (c (i 0)))])
 (.block 0 (.loop (.seq (.seq (.ops [s 9 (.mv (t 4)),
  s 10 (.mv (t 3)),
  s 11 (.len false (t 10)),
  s 12 (.bin .lss (t 9) (t 11))])
 (.cond (t 12) .skip (.exit 0)))
 (.seq (.block 1 (.seq (.ops [s 5 (.mv (c (i 0)))])
 (.block 2 (.loop (.seq (.seq (.ops [s 15 (.mv (t 5)),
  s 16 (.mv (t 4)),
  s 17 (.bin .lss (t 15) (t 16))])
 (.cond (t 17) .skip (.exit 2)))
 (.seq (.block 3 (.seq (.ops [s 6 (.mv (c (i 0)))])
 (.seq (.seq (.ops [s 20 (.mv (t 5)),
  s 21 (.bin .add (t 20) (c (i 1))),
  s 22 (.mv (t 4)),
  s 23 (.bin .eql (t 21) (t 22))])
 (.cond (t 23) (.ops [s 6 (.mv (c (i 1)))]) .skip))
 (.seq (.ops [s 24 (.mv (t 3)),
  s 25 (.mv (t 4)),
  s 26 (.idx (t 24) (t 25) 4),
  s 27 (.ldE 24 26 0 4 true true 4),
  s 28 (.mv (t 3)),
  s 29 (.mv (t 5)),
  s 30 (.idx (t 28) (t 29) 4),
  s 31 (.ldE 28 30 0 4 true true 4),
  k 32 52 [(t 27), (t 31)] .sc,
  s 33 (.mv (t 6)),
  s 34 (.bin .neq (t 32) (t 33))])
 (.cond (t 34) (.seq (.ops [s 2 (.mv (c (.bool false)))])
 .ret) .skip)))))
 (.ops [s 18 (.mv (t 5)),
  s 19 (.bin .add (t 18) (c (i 1))),
  s 5 (.mv (t 19))])))))))
 (.ops [s 13 (.mv (t 4)),
  s 14 (.bin .add (t 13) (c (i 1))),
  s 4 (.mv (t 14))]))))))
 (.seq (.ops [s 35 (.mv (t 0)),
  k 36 53 [(t 35)] .sc,
  s 2 (.mv (t 36))])
 .ret)))), none, [2], [false]⟩
def i37 : Comp := ⟨(.seq (.ops [s 2 (.mv (c (.bool false)))])
 (.seq (.seq (.ops [s 7 (.mv (t 0)),
  s 8 (.len false (t 7)),
  k 9 20 [(t 8), (c (i 3)), (c (i 10))] .sc,
  s 10 (.not (t 9))])
 (.cond (t 10) (.seq (.ops [s 2 (.mv (c (.bool false)))])
 .ret) .skip))
 (.seq (.ops [s 11 (.mv (t 0)),
  k 12 54 [(t 11)] .lin,
  s 3 (.mv (t 12))])
 (.seq (.seq (.ops [s 4 (.mv (c (i 0)))])
 (.block 0 (.loop (.seq (.seq (.ops [s 13 (.mv (t 4)),
  s 14 (.mv (t 3)),
  s 15 (.len false (t 14)),
  s 16 (.bin .lss (t 13) (t 15))])
 (.cond (t 16) .skip (.exit 0)))
 (.seq (.block 1 (.seq (.seq (.ops [s 19 (.mv (t 3)),
  s 20 (.mv (t 4)),
  s 21 (.idx (t 19) (t 20) 4),
  s 22 (.ldE 19 21 0 4 true true 4),
  k 23 55 [(t 22)] .sc,
  s 24 (.not (t 23))])
 (.cond (t 24) (.seq (.ops [s 2 (.mv (c (.bool false)))])
 .ret) .skip))
 (.seq (.ops [s 5 (.mv (c (i 0)))])
 (.block 2 (.loop (.seq (.seq (.ops [s 25 (.mv (t 5)),
  s 26 (.mv (t 4)),
  s 27 (.bin .lss (t 25) (t 26))])
 (.cond (t 27) .skip (.exit 2)))
 (.seq (.block 3 (.seq (.ops [s 6 (.mv (c (i 0)))])
 (.seq (.seq (.ops [s 30 (.mv (t 5)),
  s 31 (.bin .add (t 30) (c (i 1))),
  s 32 (.mv (t 4)),
  s 33 (.bin .eql (t 31) (t 32)),
  s 34 (.mv (t 33)),
  sg [(34, false)] 35 (.mv (t 5)),
  sg [(34, false)] 36 (.bin .eql (t 35) (c (i 0))),
  sg [(34, false)] 37 (.mv (t 36)),
  sg [(37, true), (34, false)] 38 (.mv (t 4)),
  sg [(37, true), (34, false)] 39 (.bin .add (t 38) (c (i 1))),
  sg [(37, true), (34, false)] 40 (.mv (t 3)),
  sg [(37, true), (34, false)] 41 (.len false (t 40)),
  sg [(37, true), (34, false)] 42 (.bin .eql (t 39) (t 41)),
  sg [(34, false)] 43 (.pick (t 37) (t 42) (c (.bool false))),
  s 44 (.pick (t 34) (c (.bool true)) (t 43))])
 (.cond (t 44) (.ops [s 6 (.mv (c (i 1)))]) .skip))
 (.seq (.ops [s 45 (.mv (t 3)),
  s 46 (.mv (t 4)),
  s 47 (.idx (t 45) (t 46) 4),
  s 48 (.ldE 45 47 0 4 true true 4),
  s 49 (.mv (t 3)),
  s 50 (.mv (t 5)),
  s 51 (.idx (t 49) (t 50) 4),
  s 52 (.ldE 49 51 0 4 true true 4),
  k 53 52 [(t 48), (t 52)] .sc,
  s 54 (.mv (t 6)),
  s 55 (.bin .neq (t 53) (t 54))])
 (.cond (t 55) (.seq (.ops [s 2 (.mv (c (.bool false)))])
 .ret) .skip)))))
 (.ops [s 28 (.mv (t 5)),
  s 29 (.bin .add (t 28) (c (i 1))),
  s 5 (.mv (t 29))]))))))))
 (.ops [s 17 (.mv (t 4)),
  s 18 (.bin .add (t 17) (c (i 1))),
  s 4 (.mv (t 18))]))))))
 (.seq (.ops [s 2 (.mv (c (.bool true)))])
 .ret))))), none, [2], [false]⟩
def i38 : Comp := ⟨(.seq (.ops [s 4 (.mv (c (.bool false)))])
 (.seq (.seq (.ops [s 6 (.mv (t 0)),
  s 7 (.len false (t 6)),
  s 8 (.mv (t 1)),
  s 9 (.len false (t 8)),
  s 10 (.bin .neq (t 7) (t 9))])
 (.cond (t 10) (.seq (.ops [s 4 (.mv (c (.bool false)))])
 .ret) .skip))
 (.seq (.seq (.ops [s 11 (.mv (t 0)),
  s 12 (.len false (t 11)),
  s 13 (.mv (c (i 0)))])
 (.block 0 (.loop (.seq (.ops [s 14 (.bin .lss (t 13) (t 12))])
 (.seq (.cond (t 14) .skip (.exit 0))
 (.seq (.block 1 (.seq (.ops [s 15 (.mv (t 13)),
  s 5 (.mv (t 15))])
 (.seq (.ops [s 16 (.mv (t 0)),
  s 17 (.mv (t 5)),
  s 18 (.idx (t 16) (t 17) 2),
  s 19 (.ldE 16 18 0 2 true true 2),
  s 20 (.mv (t 1)),
  s 21 (.mv (t 5)),
  s 22 (.idx (t 20) (t 21) 2),
  s 23 (.ldE 20 22 0 2 true true 2),
  s 24 (.eqa true [0, 0] (t 19) (t 23))])
 (.cond (t 24) (.seq (.ops [s 4 (.mv (c (.bool false)))])
 .ret) .skip))))
 (.ops [s 25 (.bin .add (t 13) (c (i 1))),
  s 13 (.mv (t 25))])))))))
 (.seq (.ops [s 4 (.mv (c (.bool true)))])
 .ret)))), none, [4], [false, false]⟩
def i39 : Comp := ⟨(.seq (.ops [s 2 (.mv (c (.lst 2 true [])))])
 (.seq (.seq (.ops [s 3 (.mv (t 0)),
  s 4 (.isn false (t 3))])
 (.cond (t 4) (.seq (.ops [s 2 (.mv (c (.lst 2 true [])))])
 .ret) .skip))
 (.seq (.ops [s 5 (.bsl 2 []),
  s 6 (.mv (t 0)),
  s 7 (.apf (t 5) (t 6) 2 16),
  s 2 (.mv (t 7))])
 .ret))), none, [2], [false]⟩
def i40 : Comp := ⟨(.seq (.ops [s 3 (.box 8 (t 1)),
  s 4 (.mv (c (.lst 8 true [])))])
 (.seq (.ops [s 5 (.mv (c (i 0)))])
 (.seq (.block 0 (.loop (.seq (.seq (.ops [s 8 (.mv (t 5)),
  s 9 (.mv (t 0)),
  s 10 (.len false (t 9)),
  s 11 (.bin .lss (t 8) (t 10)),
  s 12 (.mv (t 11)),
  sg [(12, true)] 13 (.mv (t 0)),
  sg [(12, true)] 14 (.mv (t 5)),
  sg [(12, true)] 15 (.idx (t 13) (t 14) 8),
  sg [(12, true)] 16 (.mv (t 15)),
  sg [(12, true)] 17 (.mv (t 16)),
  sg [(12, true)] 18 (.ldE 13 17 0 1 false true 8),
  sg [(12, true)] 19 (.mv (c (i 0))),
  sg [(12, true)] 20 (.mv (t 19)),
  sg [(12, true)] 21 (.ldB 3 0 1 false true),
  sg [(12, true)] 22 (.bin .lss (t 18) (t 21)),
  s 23 (.pick (t 12) (t 22) (c (.bool false)))])
 (.cond (t 23) .skip (.exit 0)))
 (.block 1 (.ops [s 24 (.mv (t 5)),
  s 25 (.bin .add (t 24) (c (i 1))),
  s 5 (.mv (t 25))])))))
 (.seq (.ops [s 26 (.mv (t 0)),
  s 27 (.mv (t 5)),
  s 28 (.sl 8 (t 26) (some (t 27)) none),
  s 6 (.mv (t 28))])
 (.seq (.seq (.ops [s 29 (.mv (t 6)),
  s 30 (.len false (t 29)),
  s 31 (.bin .gtr (t 30) (c (i 0))),
  s 32 (.mv (t 31)),
  sg [(32, true)] 33 (.mv (t 6)),
  sg [(32, true)] 34 (.idx (t 33) (c (i 0)) 8),
  sg [(32, true)] 35 (.mv (t 34)),
  sg [(32, true)] 36 (.mv (t 35)),
  sg [(32, true)] 37 (.ldE 33 36 0 1 false true 8),
  sg [(32, true)] 38 (.mv (c (i 0))),
  sg [(32, true)] 39 (.mv (t 38)),
  sg [(32, true)] 40 (.ldB 3 0 1 false true),
  sg [(32, true)] 41 (.bin .eql (t 37) (t 40)),
  s 42 (.pick (t 32) (t 41) (c (.bool false)))])
 (.cond (t 42) (.seq (.seq (.ops [s 43 (.ldB 3 0 8 true false),
  s 44 (.mv (t 6)),
  s 45 (.idx (t 44) (c (i 0)) 8),
  s 46 (.ldE 44 45 0 8 true false 8),
  k 47 56 [(t 43), (t 46)] .sc,
  s 48 (.not (t 47))])
 (.cond (t 48) (.seq (.ops [s 49 (.mv (t 0)),
  k 50 57 [(t 49)] .lin,
  s 4 (.mv (t 50))])
 .ret) .skip))
 (.ops [s 51 (.mv (t 6)),
  s 52 (.sl 8 (t 51) (some (c (i 1))) none),
  s 6 (.mv (t 52))])) .skip))
 (.seq (.ops [s 53 (.mv (t 0)),
  s 54 (.mv (t 5)),
  s 55 (.sl 8 (t 53) none (some (t 54))),
  k 56 57 [(t 55)] .lin,
  s 57 (.ldB 3 0 8 true false),
  k 58 58 [(t 57)] .lin,
  s 59 (.bsl 8 [(t 58)]),
  s 60 (.app (t 56) (t 59) 8 88),
  s 61 (.mv (t 6)),
  k 62 57 [(t 61)] .lin,
  s 63 (.app (t 60) (t 62) 8 88),
  s 7 (.mv (t 63))])
 (.seq (.seq (.ops [s 64 (.mv (t 0)),
  k 65 8 [(t 64)] .sc,
  s 66 (.not (t 65)),
  s 67 (.mv (t 66)),
  sg [(67, false)] 68 (.mv (t 7)),
  kg [(67, false)] 69 8 [(t 68)] .sc,
  sg [(67, false)] 70 (.not (t 69)),
  s 71 (.pick (t 67) (c (.bool true)) (t 70))])
 (.cond (t 71) (.seq (.ops [s 72 (.mv (t 0)),
  k 73 57 [(t 72)] .lin,
  s 4 (.mv (t 73))])
 .ret) .skip))
 (.seq (.ops [s 74 (.mv (t 7)),
  s 4 (.mv (t 74))])
 .ret)))))))), none, [4], [false, false]⟩
def i41 : Comp := ⟨(.seq (.ops [s 4 (.alc [(i 0), (i 0), (i 0), (.str (bs [])), (.lst 2 true []), (i 0), (i 0), (.bool false)])])
 (.seq (.seq (.ops [s 5 (.mv (c .junk)),
  s 6 (.mv (c .junk))])
 (.seq (opC 7 26 0 [(c (i 7))] .sc)
 (.seq (.ops [s 8 (.bin .add (c (i 1)) (t 7))])
 (.seq (opC 9 59 0 [(t 8)] .lin)
 (.seq (.ops [s 10 (.mv (c .junk))])
 (.seq (opC 11 26 0 [(c (i 6))] .sc)
 (.seq (.ops [s 12 (.mv (t 1)),
  s 13 (.mv (c .junk))])
 (.seq (opC 14 60 0 [(c (i 4))] .sc)
 (.ops [s 15 (.bld [(i 0), (i 0), (i 0), (.str (bs [])), (.lst 2 true []), (i 0), (i 0), (.bool false)] [(0, 5, (t 9)), (5, 1, (t 11)), (6, 1, (t 12)), (7, 1, (t 14))]),
  s 4 (.stB 4 0 8 (t 15) false)])))))))))
 .ret)), (some ⟨4, 33, 8, true⟩), [], [true]⟩
def i43 : Comp := ⟨(.seq (.ops [s 2 (.mv (c (.lst 5 true [])))])
 (.seq (.seq (.ops [s 5 (.mv (c .junk))])
 (.seq (opC 6 61 0 [] .lin)
 (.ops [s 3 (.mv (t 6))])))
 (.seq (.seq (.ops [s 7 (.mv (t 3)),
  s 8 (.len false (t 7)),
  s 9 (.bin .eql (t 8) (c (i 0)))])
 (.cond (t 9) (.seq (.ops [s 10 (.mv (t 3)),
  s 2 (.mv (t 10))])
 .ret) .skip))
 (.seq (.seq (.ops [s 11 (.mv (c .junk)),
  s 12 (.mv (t 3)),
  s 13 (.len false (t 12))])
 (.seq (opC 14 26 0 [(t 13)] .sc)
 (.ops [s 4 (.mv (t 14))])))
 (.seq (.seq (.seq (.ops [s 15 (.mv (c .junk))])
 (.seq (opC 16 26 0 [(c (i 10))] .sc)
 (.ops [])))
 (.block 0 (.seq (.ops [s 18 (.bin .eql (t 16) (c (i 0))),
  s 17 (.mv (t 18))])
 (.cond (t 17) (.seq (.ops [s 19 (.mv (t 3)),
  s 20 (.mv (t 4)),
  s 21 (.mv (c .junk)),
  s 22 (.bsl 1 [(c (i 0)), (c (i 1)), (c (i 99)), (c (i 100))])])
 (.seq (opC 23 27 0 [(t 22)] .sc)
 (.seq (.ops [s 24 (.idx (t 19) (t 20) 5),
  s 25 (.mv (t 24))])
 (.seq (opW 3 25 0 1 5 (t 23))
 (.ops []))))) (.seq (.ops [s 27 (.bin .eql (t 16) (c (i 1))),
  s 26 (.mv (t 27))])
 (.cond (t 26) (.seq (.ops [s 28 (.mv (t 3)),
  s 29 (.mv (t 4)),
  s 30 (.mv (c .junk)),
  s 31 (.bsl 1 [(c (i (-1))), (c (i 9)), (c (i 10))])])
 (.seq (opC 32 27 0 [(t 31)] .sc)
 (.seq (.ops [s 33 (.idx (t 28) (t 29) 5),
  s 34 (.mv (t 33))])
 (.seq (opW 3 34 2 1 5 (t 32))
 (.ops []))))) (.seq (.ops [s 36 (.bin .eql (t 16) (c (i 2))),
  s 35 (.mv (t 36))])
 (.cond (t 35) (.seq (.ops [s 37 (.mv (t 3)),
  s 38 (.mv (t 4)),
  s 39 (.mv (c .junk)),
  s 40 (.bsl 1 [(c (.str (bs [65]))), (c (.str (bs [116, 111, 111, 108, 111, 110, 103, 97, 97]))), (c (.str (bs [97, 32, 98])))])])
 (.seq (opC 41 62 0 [(t 40)] .sc)
 (.seq (.ops [s 42 (.idx (t 37) (t 38) 5),
  s 43 (.mv (t 42))])
 (.seq (opW 3 43 3 1 5 (t 41))
 (.ops []))))) (.seq (.ops [s 45 (.bin .eql (t 16) (c (i 3))),
  s 44 (.mv (t 45))])
 (.cond (t 44) (.seq (.ops [s 46 (.mv (t 3)),
  s 47 (.mv (t 4)),
  s 48 (.mv (c .junk)),
  s 49 (.bsl 1 [(c (i 0)), (c (i 1)), (c (i 2)), (c (i 3)), (c (i 4))])])
 (.seq (opC 50 27 0 [(t 49)] .sc)
 (.seq (.ops [s 51 (.idx (t 46) (t 47) 5),
  s 52 (.mv (t 51))])
 (.seq (opW 3 52 1 1 5 (t 50))
 (.ops []))))) (.seq (.ops [s 54 (.bin .eql (t 16) (c (i 4))),
  s 53 (.mv (t 54))])
 (.cond (t 53) (.seq (.ops [s 55 (.mv (t 3)),
  s 56 (.mv (t 4)),
  s 57 (.mv (c .junk))])
 (.seq (opC 58 63 0 [] .lin)
 (.seq (.ops [s 59 (.idx (t 55) (t 56) 5),
  s 60 (.mv (t 59))])
 (.seq (opW 3 60 4 1 5 (t 58))
 (.ops []))))) .skip))))))))))))
 (.seq (.ops [s 61 (.mv (t 3)),
  s 2 (.mv (t 61))])
 .ret)))))), none, [2], []⟩
def i46 : Comp := ⟨(.seq (.ops [s 2 (.mv (c (.bool false)))])
 (.seq (.seq (.ops [s 5 (.mv (t 0)),
  s 6 (.len false (t 5)),
  s 7 (.bin .lss (t 6) (c (i 2))),
  s 8 (.mv (t 7)),
  sg [(8, false)] 9 (.mv (t 0)),
  sg [(8, false)] 10 (.len false (t 9)),
  sg [(8, false)] 11 (.bin .gtr (t 10) (c (i 10))),
  s 12 (.pick (t 8) (c (.bool true)) (t 11))])
 (.cond (t 12) (.seq (.ops [s 2 (.mv (c (.bool false)))])
 .ret) .skip))
 (.seq (.seq (.ops [s 13 (.mv (t 0)),
  s 14 (.len false (t 13)),
  s 15 (.mv (c (i 0)))])
 (.block 0 (.loop (.seq (.ops [s 16 (.bin .lss (t 15) (t 14))])
 (.seq (.cond (t 16) .skip (.exit 0))
 (.seq (.block 1 (.seq (.ops [s 17 (.mv (t 15)),
  s 18 (.idx (t 13) (t 15) 2),
  s 19 (.ldE 13 18 0 2 true true 2),
  s 4 (.alc [(i 0), (i 0)]),
  s 3 (.mv (t 17)),
  s 4 (.stB 4 0 2 (t 19) false)])
 (.seq (.ops [s 20 (.ldB 4 0 2 true true),
  k 21 31 [(t 20)] .sc,
  s 22 (.not (t 21)),
  s 23 (.mv (t 22)),
  sg [(23, false)] 24 (.mv (t 3)),
  sg [(23, false)] 25 (.bin .gtr (t 24) (c (i 0))),
  sg [(23, false)] 26 (.mv (t 25)),
  sg [(26, true), (23, false)] 27 (.ldB 4 0 2 true true),
  sg [(26, true), (23, false)] 28 (.mv (t 0)),
  sg [(26, true), (23, false)] 29 (.mv (t 3)),
  sg [(26, true), (23, false)] 30 (.bin .sub (t 29) (c (i 1))),
  sg [(26, true), (23, false)] 31 (.idx (t 28) (t 30) 2),
  sg [(26, true), (23, false)] 32 (.ldE 28 31 0 2 true true 2),
  sg [(26, true), (23, false)] 33 (.eqa false [0, 0] (t 27) (t 32)),
  sg [(23, false)] 34 (.pick (t 26) (t 33) (c (.bool false))),
  s 35 (.pick (t 23) (c (.bool true)) (t 34))])
 (.cond (t 35) (.seq (.ops [s 2 (.mv (c (.bool false)))])
 .ret) .skip))))
 (.ops [s 36 (.bin .add (t 15) (c (i 1))),
  s 15 (.mv (t 36))])))))))
 (.seq (.ops [s 2 (.mv (c (.bool true)))])
 .ret)))), none, [2], [false]⟩
def i47 : Comp := ⟨(.seq (.ops [s 2 (.mv (c (.lst 4 true [])))])
 (.seq (.ops [s 5 (.bsl 4 []),
  s 3 (.mv (t 5))])
 (.seq (.seq (.ops [s 6 (.mv (t 0)),
  k 7 46 [(t 6)] .sc,
  s 8 (.not (t 7))])
 (.cond (t 8) (.seq (.ops [s 9 (.mv (t 3)),
  s 2 (.mv (t 9))])
 .ret) .skip))
 (.seq (.seq (.ops [s 4 (.mv (c (i 1)))])
 (.block 0 (.loop (.seq (.seq (.ops [s 10 (.mv (t 4)),
  s 11 (.mv (t 0)),
  s 12 (.len false (t 11)),
  s 13 (.bin .lss (t 10) (t 12))])
 (.cond (t 13) .skip (.exit 0)))
 (.seq (.block 1 (.ops [s 16 (.mv (t 3)),
  s 17 (.mv (t 0)),
  s 18 (.mv (t 4)),
  s 19 (.bin .sub (t 18) (c (i 1))),
  s 20 (.idx (t 17) (t 19) 2),
  s 21 (.ldE 17 20 0 2 true true 2),
  s 22 (.mv (t 0)),
  s 23 (.mv (t 4)),
  s 24 (.idx (t 22) (t 23) 2),
  s 25 (.ldE 22 24 0 2 true true 2),
  s 26 (.bld [(i 0), (i 0), (i 0), (i 0)] [(0, 2, (t 21)), (2, 2, (t 25))]),
  s 27 (.bsl 4 [(t 26)]),
  s 28 (.app (t 16) (t 27) 4 32),
  s 3 (.mv (t 28))]))
 (.ops [s 14 (.mv (t 4)),
  s 15 (.bin .add (t 14) (c (i 1))),
  s 4 (.mv (t 15))]))))))
 (.seq (.ops [s 29 (.mv (t 3)),
  s 2 (.mv (t 29))])
 .ret))))), none, [2], [false]⟩
def i48 : Comp := ⟨(.seq (.ops [s 2 (.box 4 (t 0)),
  s 3 (.box 4 (t 1)),
  s 4 (.mv (c (i 0)))])
 (.seq (.seq (.ops [s 9 (.ldB 2 0 4 true true),
  k 10 50 [(t 9)] .sc,
  s 11 (.not (t 10)),
  s 12 (.mv (t 11)),
  sg [(12, false)] 13 (.ldB 3 0 4 true true),
  kg [(12, false)] 14 50 [(t 13)] .sc,
  sg [(12, false)] 15 (.not (t 14)),
  s 16 (.pick (t 12) (c (.bool true)) (t 15))])
 (.cond (t 16) (.seq (.ops [s 4 (.mv (c (i 0)))])
 .ret) .skip))
 (.seq (.ops [s 17 (.mv (c (i 0))),
  s 18 (.ldB 2 0 2 true true),
  s 19 (.mv (c (i 0))),
  s 20 (.ldB 2 2 2 true true),
  s 21 (.mv (c (i 0))),
  s 22 (.ldB 3 0 2 true true),
  k 23 65 [(t 18), (t 20), (t 22)] .sc,
  s 24 (.mv (c (i 0))),
  s 25 (.ldB 2 0 2 true true),
  s 26 (.mv (c (i 0))),
  s 27 (.ldB 2 2 2 true true),
  s 28 (.mv (c (i 0))),
  s 29 (.ldB 3 2 2 true true),
  k 30 65 [(t 25), (t 27), (t 29)] .sc,
  s 5 (.mv (t 23)),
  s 6 (.mv (t 30))])
 (.seq (.seq (.ops [s 31 (.mv (t 5)),
  s 32 (.bin .eql (t 31) (c (i 0))),
  s 33 (.mv (t 32)),
  sg [(33, true)] 34 (.mv (t 6)),
  sg [(33, true)] 35 (.bin .eql (t 34) (c (i 0))),
  s 36 (.pick (t 33) (t 35) (c (.bool false)))])
 (.cond (t 36) (.seq (.ops [s 37 (.ldB 2 0 4 true true),
  k 38 66 [(t 37)] .sc,
  s 39 (.ldB 3 0 4 true true),
  k 40 66 [(t 39)] .sc,
  s 2 (.stB 2 0 4 (t 38) false),
  s 3 (.stB 3 0 4 (t 40) false)])
 (.seq (.ops [s 41 (.mv (c (i 0))),
  s 42 (.ldB 2 0 2 true true),
  s 43 (.mv (c (i 0))),
  s 44 (.ldB 2 2 2 true true),
  s 7 (.alc [(i 0), (i 0)]),
  s 8 (.alc [(i 0), (i 0)]),
  s 7 (.stB 7 0 2 (t 42) false),
  s 8 (.stB 8 0 2 (t 44) false)])
 (.seq (.seq (.ops [s 45 (.ldB 7 0 2 true true),
  s 46 (.mv (c (i 0))),
  s 47 (.ldB 3 0 2 true true),
  k 48 67 [(t 45), (t 47)] .sc])
 (.cond (t 48) (.ops [s 49 (.mv (c (i 0))),
  s 50 (.ldB 3 0 2 true true),
  s 7 (.stB 7 0 2 (t 50) false)]) .skip))
 (.seq (.seq (.ops [s 51 (.mv (c (i 0))),
  s 52 (.ldB 3 2 2 true true),
  s 53 (.ldB 8 0 2 true true),
  k 54 67 [(t 52), (t 53)] .sc])
 (.cond (t 54) (.ops [s 55 (.mv (c (i 0))),
  s 56 (.ldB 3 2 2 true true),
  s 8 (.stB 8 0 2 (t 56) false)]) .skip))
 (.seq (.block 0 (.seq (.ops [s 58 (.ldB 8 0 2 true true),
  s 59 (.ldB 7 0 2 true true),
  k 60 67 [(t 58), (t 59)] .sc,
  s 57 (.mv (t 60))])
 (.cond (t 57) (.seq (.ops [s 4 (.mv (c (i 0)))])
 .ret) (.seq (.ops [s 62 (.ldB 7 0 2 true true),
  s 63 (.ldB 8 0 2 true true),
  s 64 (.eqa false [0, 0] (t 62) (t 63)),
  s 61 (.mv (t 64))])
 (.cond (t 61) (.seq (.ops [s 4 (.mv (c (i 1)))])
 .ret) .skip)))))
 (.seq (.ops [s 4 (.mv (c (i 3)))])
 .ret)))))) .skip))
 (.seq (.seq (.ops [s 65 (.mv (t 5)),
  s 66 (.mv (t 6)),
  s 67 (.bin .mul (t 65) (t 66)),
  s 68 (.bin .lss (t 67) (c (i 0))),
  s 69 (.mv (t 68)),
  sg [(69, true)] 70 (.mv (c (i 0))),
  sg [(69, true)] 71 (.ldB 3 0 2 true true),
  sg [(69, true)] 72 (.mv (c (i 0))),
  sg [(69, true)] 73 (.ldB 3 2 2 true true),
  sg [(69, true)] 74 (.mv (c (i 0))),
  sg [(69, true)] 75 (.ldB 2 0 2 true true),
  kg [(69, true)] 76 65 [(t 71), (t 73), (t 75)] .sc,
  sg [(69, true)] 77 (.mv (c (i 0))),
  sg [(69, true)] 78 (.ldB 3 0 2 true true),
  sg [(69, true)] 79 (.mv (c (i 0))),
  sg [(69, true)] 80 (.ldB 3 2 2 true true),
  sg [(69, true)] 81 (.mv (c (i 0))),
  sg [(69, true)] 82 (.ldB 2 2 2 true true),
  kg [(69, true)] 83 65 [(t 78), (t 80), (t 82)] .sc,
  sg [(69, true)] 84 (.bin .mul (t 76) (t 83)),
  sg [(69, true)] 85 (.bin .lss (t 84) (c (i 0))),
  s 86 (.pick (t 69) (t 85) (c (.bool false)))])
 (.cond (t 86) (.seq (.ops [s 4 (.mv (c (i 2)))])
 .ret) .skip))
 (.seq (.seq (.ops [s 87 (.ldB 2 0 4 true true),
  s 88 (.mv (c (i 0))),
  s 89 (.ldB 3 0 2 true true),
  k 90 68 [(t 87), (t 89)] .sc,
  s 91 (.mv (t 90)),
  sg [(91, false)] 92 (.ldB 2 0 4 true true),
  sg [(91, false)] 93 (.mv (c (i 0))),
  sg [(91, false)] 94 (.ldB 3 2 2 true true),
  kg [(91, false)] 95 68 [(t 92), (t 94)] .sc,
  s 96 (.pick (t 91) (c (.bool true)) (t 95)),
  s 97 (.mv (t 96)),
  sg [(97, false)] 98 (.ldB 3 0 4 true true),
  sg [(97, false)] 99 (.mv (c (i 0))),
  sg [(97, false)] 100 (.ldB 2 0 2 true true),
  kg [(97, false)] 101 68 [(t 98), (t 100)] .sc,
  s 102 (.pick (t 97) (c (.bool true)) (t 101)),
  s 103 (.mv (t 102)),
  sg [(103, false)] 104 (.ldB 3 0 4 true true),
  sg [(103, false)] 105 (.mv (c (i 0))),
  sg [(103, false)] 106 (.ldB 2 2 2 true true),
  kg [(103, false)] 107 68 [(t 104), (t 106)] .sc,
  s 108 (.pick (t 103) (c (.bool true)) (t 107))])
 (.cond (t 108) (.seq (.ops [s 4 (.mv (c (i 1)))])
 .ret) .skip))
 (.seq (.ops [s 4 (.mv (c (i 0)))])
 .ret))))))), none, [4], [true, true]⟩
def i49 : Comp := ⟨(.seq (.ops [s 2 (.mv (c (.lst 4 true [])))])
 (.seq (.ops [s 6 (.bsl 4 []),
  s 3 (.mv (t 6))])
 (.seq (.seq (.ops [s 7 (.mv (t 0)),
  s 8 (.len false (t 7)),
  s 9 (.mv (c (i 0)))])
 (.block 0 (.loop (.seq (.ops [s 10 (.bin .lss (t 9) (t 8))])
 (.seq (.cond (t 10) .skip (.exit 0))
 (.seq (.block 1 (.seq (.ops [s 11 (.mv (t 9)),
  s 12 (.idx (t 7) (t 9) 2),
  s 13 (.ldE 7 12 0 2 true true 2),
  s 5 (.alc [(i 0), (i 0)]),
  s 4 (.mv (t 11)),
  s 5 (.stB 5 0 2 (t 13) false)])
 (.ops [s 14 (.mv (t 3)),
  s 15 (.ldB 5 0 2 true true),
  s 16 (.mv (t 0)),
  s 17 (.mv (t 4)),
  s 18 (.bin .add (t 17) (c (i 1))),
  s 19 (.mv (t 0)),
  s 20 (.len false (t 19)),
  s 21 (.bin .rem (t 18) (t 20)),
  s 22 (.idx (t 16) (t 21) 2),
  s 23 (.ldE 16 22 0 2 true true 2),
  s 24 (.bld [(i 0), (i 0), (i 0), (i 0)] [(0, 2, (t 15)), (2, 2, (t 23))]),
  s 25 (.bsl 4 [(t 24)]),
  s 26 (.app (t 14) (t 25) 4 32),
  s 3 (.mv (t 26))])))
 (.ops [s 27 (.bin .add (t 9) (c (i 1))),
  s 9 (.mv (t 27))])))))))
 (.seq (.ops [s 28 (.mv (t 3)),
  s 2 (.mv (t 28))])
 .ret)))), none, [2], [false]⟩
def i50 : Comp := ⟨(.seq (.ops [s 1 (.box 4 (t 0)),
  s 2 (.mv (c (.bool false)))])
 (.seq (.ops [s 3 (.mv (c (i 0))),
  s 4 (.ldB 1 0 2 true true),
  k 5 31 [(t 4)] .sc,
  s 6 (.mv (t 5)),
  sg [(6, true)] 7 (.mv (c (i 0))),
  sg [(6, true)] 8 (.ldB 1 2 2 true true),
  kg [(6, true)] 9 31 [(t 8)] .sc,
  s 10 (.pick (t 6) (t 9) (c (.bool false))),
  s 11 (.mv (t 10)),
  sg [(11, true)] 12 (.mv (c (i 0))),
  sg [(11, true)] 13 (.ldB 1 0 2 true true),
  sg [(11, true)] 14 (.mv (c (i 0))),
  sg [(11, true)] 15 (.ldB 1 2 2 true true),
  sg [(11, true)] 16 (.eqa true [0, 0] (t 13) (t 15)),
  s 17 (.pick (t 11) (t 16) (c (.bool false))),
  s 2 (.mv (t 17))])
 .ret)), none, [2], [true]⟩
def i51 : Comp := ⟨(.seq (.ops [s 2 (.mv (c (.lst 4 true [])))])
 (.seq (.ops [s 5 (.bsl 4 []),
  s 3 (.mv (t 5))])
 (.seq (.seq (.ops [s 4 (.mv (c (i 1)))])
 (.block 0 (.loop (.seq (.seq (.ops [s 6 (.mv (t 4)),
  s 7 (.mv (t 0)),
  s 8 (.len false (t 7)),
  s 9 (.bin .lss (t 6) (t 8)),
  s 10 (.mv (t 9)),
  sg [(10, true)] 11 (.mv (t 0)),
  kg [(10, true)] 12 53 [(t 11)] .sc,
  s 13 (.pick (t 10) (t 12) (c (.bool false)))])
 (.cond (t 13) .skip (.exit 0)))
 (.seq (.block 1 (.ops [s 16 (.mv (t 3)),
  s 17 (.mv (t 0)),
  s 18 (.mv (t 4)),
  s 19 (.bin .sub (t 18) (c (i 1))),
  s 20 (.idx (t 17) (t 19) 2),
  s 21 (.ldE 17 20 0 2 true true 2),
  s 22 (.mv (t 0)),
  s 23 (.mv (t 4)),
  s 24 (.idx (t 22) (t 23) 2),
  s 25 (.ldE 22 24 0 2 true true 2),
  s 26 (.bld [(i 0), (i 0), (i 0), (i 0)] [(0, 2, (t 21)), (2, 2, (t 25))]),
  s 27 (.bsl 4 [(t 26)]),
  s 28 (.app (t 16) (t 27) 4 32),
  s 3 (.mv (t 28))]))
 (.ops [s 14 (.mv (t 4)),
  s 15 (.bin .add (t 14) (c (i 1))),
  s 4 (.mv (t 15))]))))))
 (.seq (.ops [s 29 (.mv (t 3)),
  s 2 (.mv (t 29))])
 .ret)))), none, [2], [false]⟩
def i52 : Comp := ⟨(.seq (.ops [s 2 (.box 4 (t 0)),
  s 3 (.box 4 (t 1)),
  s 4 (.mv (c (i 0)))])
 (.seq (.seq (.ops [s 5 (.ldB 2 0 4 true true),
  k 6 55 [(t 5)] .sc,
  s 7 (.not (t 6)),
  s 8 (.mv (t 7)),
  sg [(8, false)] 9 (.ldB 3 0 4 true true),
  kg [(8, false)] 10 55 [(t 9)] .sc,
  sg [(8, false)] 11 (.not (t 10)),
  s 12 (.pick (t 8) (c (.bool true)) (t 11))])
 (.cond (t 12) (.seq (.ops [s 4 (.mv (c (i 0)))])
 .ret) .skip))
 (.seq (.seq (.ops [s 13 (.mv (c (i 0))),
  s 14 (.mv (t 13)),
  s 15 (.ldB 2 0 1 false true),
  s 16 (.mv (c (i 0))),
  s 17 (.mv (t 16)),
  s 18 (.ldB 2 2 1 false true),
  k 19 69 [(t 15), (t 18)] .sc,
  s 20 (.mv (c (i 0))),
  s 21 (.mv (t 20)),
  s 22 (.ldB 3 0 1 false true),
  s 23 (.mv (c (i 0))),
  s 24 (.mv (t 23)),
  s 25 (.ldB 3 2 1 false true),
  k 26 70 [(t 22), (t 25)] .sc,
  s 27 (.bin .lss (t 19) (t 26)),
  s 28 (.mv (t 27)),
  sg [(28, false)] 29 (.mv (c (i 0))),
  sg [(28, false)] 30 (.mv (t 29)),
  sg [(28, false)] 31 (.ldB 3 0 1 false true),
  sg [(28, false)] 32 (.mv (c (i 0))),
  sg [(28, false)] 33 (.mv (t 32)),
  sg [(28, false)] 34 (.ldB 3 2 1 false true),
  kg [(28, false)] 35 69 [(t 31), (t 34)] .sc,
  sg [(28, false)] 36 (.mv (c (i 0))),
  sg [(28, false)] 37 (.mv (t 36)),
  sg [(28, false)] 38 (.ldB 2 0 1 false true),
  sg [(28, false)] 39 (.mv (c (i 0))),
  sg [(28, false)] 40 (.mv (t 39)),
  sg [(28, false)] 41 (.ldB 2 2 1 false true),
  kg [(28, false)] 42 70 [(t 38), (t 41)] .sc,
  sg [(28, false)] 43 (.bin .lss (t 35) (t 42)),
  s 44 (.pick (t 28) (c (.bool true)) (t 43)),
  s 45 (.mv (t 44)),
  sg [(45, false)] 46 (.mv (c (i 0))),
  sg [(45, false)] 47 (.mv (t 46)),
  sg [(45, false)] 48 (.ldB 2 1 1 false true),
  sg [(45, false)] 49 (.mv (c (i 0))),
  sg [(45, false)] 50 (.mv (t 49)),
  sg [(45, false)] 51 (.ldB 2 3 1 false true),
  kg [(45, false)] 52 69 [(t 48), (t 51)] .sc,
  sg [(45, false)] 53 (.mv (c (i 0))),
  sg [(45, false)] 54 (.mv (t 53)),
  sg [(45, false)] 55 (.ldB 3 1 1 false true),
  sg [(45, false)] 56 (.mv (c (i 0))),
  sg [(45, false)] 57 (.mv (t 56)),
  sg [(45, false)] 58 (.ldB 3 3 1 false true),
  kg [(45, false)] 59 70 [(t 55), (t 58)] .sc,
  sg [(45, false)] 60 (.bin .lss (t 52) (t 59)),
  s 61 (.pick (t 45) (c (.bool true)) (t 60)),
  s 62 (.mv (t 61)),
  sg [(62, false)] 63 (.mv (c (i 0))),
  sg [(62, false)] 64 (.mv (t 63)),
  sg [(62, false)] 65 (.ldB 3 1 1 false true),
  sg [(62, false)] 66 (.mv (c (i 0))),
  sg [(62, false)] 67 (.mv (t 66)),
  sg [(62, false)] 68 (.ldB 3 3 1 false true),
  kg [(62, false)] 69 69 [(t 65), (t 68)] .sc,
  sg [(62, false)] 70 (.mv (c (i 0))),
  sg [(62, false)] 71 (.mv (t 70)),
  sg [(62, false)] 72 (.ldB 2 1 1 false true),
  sg [(62, false)] 73 (.mv (c (i 0))),
  sg [(62, false)] 74 (.mv (t 73)),
  sg [(62, false)] 75 (.ldB 2 3 1 false true),
  kg [(62, false)] 76 70 [(t 72), (t 75)] .sc,
  sg [(62, false)] 77 (.bin .lss (t 69) (t 76)),
  s 78 (.pick (t 62) (c (.bool true)) (t 77))])
 (.cond (t 78) (.seq (.ops [s 4 (.mv (c (i 0)))])
 .ret) .skip))
 (.seq (.seq (.ops [s 79 (.ldB 2 0 4 true true),
  s 80 (.ldB 3 0 4 true true),
  k 81 71 [(t 79), (t 80)] .sc])
 (.block 0 (.seq (.ops [s 83 (.bin .eql (t 81) (c (i 0))),
  s 82 (.mv (t 83))])
 (.cond (t 82) (.seq (.seq (.ops [s 84 (.mv (c (i 0))),
  s 85 (.ldB 2 0 2 true true),
  s 86 (.mv (c (i 0))),
  s 87 (.ldB 2 2 2 true true),
  s 88 (.mv (c (i 0))),
  s 89 (.ldB 3 0 2 true true),
  k 90 72 [(t 85), (t 87), (t 89)] .sc,
  s 91 (.mv (c (i 0))),
  s 92 (.ldB 2 0 2 true true),
  s 93 (.mv (c (i 0))),
  s 94 (.ldB 2 2 2 true true),
  s 95 (.mv (c (i 0))),
  s 96 (.ldB 3 2 2 true true),
  k 97 72 [(t 92), (t 94), (t 96)] .sc,
  s 98 (.bin .mul (t 90) (t 97)),
  s 99 (.bin .lss (t 98) (c (i 0))),
  s 100 (.mv (t 99)),
  sg [(100, true)] 101 (.mv (c (i 0))),
  sg [(100, true)] 102 (.ldB 3 0 2 true true),
  sg [(100, true)] 103 (.mv (c (i 0))),
  sg [(100, true)] 104 (.ldB 3 2 2 true true),
  sg [(100, true)] 105 (.mv (c (i 0))),
  sg [(100, true)] 106 (.ldB 2 0 2 true true),
  kg [(100, true)] 107 72 [(t 102), (t 104), (t 106)] .sc,
  sg [(100, true)] 108 (.mv (c (i 0))),
  sg [(100, true)] 109 (.ldB 3 0 2 true true),
  sg [(100, true)] 110 (.mv (c (i 0))),
  sg [(100, true)] 111 (.ldB 3 2 2 true true),
  sg [(100, true)] 112 (.mv (c (i 0))),
  sg [(100, true)] 113 (.ldB 2 2 2 true true),
  kg [(100, true)] 114 72 [(t 109), (t 111), (t 113)] .sc,
  sg [(100, true)] 115 (.bin .mul (t 107) (t 114)),
  sg [(100, true)] 116 (.bin .lss (t 115) (c (i 0))),
  s 117 (.pick (t 100) (t 116) (c (.bool false)))])
 (.cond (t 117) (.seq (.ops [s 4 (.mv (c (i 2)))])
 .ret) .skip))
 (.seq (.ops [s 4 (.mv (c (i 0)))])
 .ret)) (.seq (.ops [s 119 (.bin .eql (t 81) (c (i 1))),
  s 118 (.mv (t 119))])
 (.cond (t 118) (.seq (.ops [s 4 (.mv (c (i 1)))])
 .ret) .skip))))))
 (.seq (.ops [s 4 (.mv (c (i 3)))])
 .ret))))), none, [4], [true, true]⟩
def i53 : Comp := ⟨(.seq (.ops [s 2 (.mv (c (.bool false)))])
 (.seq (.seq (.ops [s 3 (.mv (c (i 0)))])
 (.block 0 (.loop (.seq (.seq (.ops [s 4 (.mv (t 3)),
  s 5 (.mv (t 0)),
  s 6 (.len false (t 5)),
  s 7 (.bin .lss (t 4) (t 6))])
 (.cond (t 7) .skip (.exit 0)))
 (.seq (.block 1 (.seq (.ops [s 10 (.mv (t 0)),
  s 11 (.mv (t 3)),
  s 12 (.idx (t 10) (t 11) 2),
  s 13 (.ldE 10 12 0 2 true true 2),
  k 14 35 [(t 13)] .sc,
  s 15 (.not (t 14)),
  s 16 (.mv (t 15)),
  sg [(16, false)] 17 (.mv (t 3)),
  sg [(16, false)] 18 (.bin .gtr (t 17) (c (i 0))),
  sg [(16, false)] 19 (.mv (t 18)),
  sg [(19, true), (16, false)] 20 (.mv (t 0)),
  sg [(19, true), (16, false)] 21 (.mv (t 3)),
  sg [(19, true), (16, false)] 22 (.bin .sub (t 21) (c (i 1))),
  sg [(19, true), (16, false)] 23 (.idx (t 20) (t 22) 2),
  sg [(19, true), (16, false)] 24 (.ldE 20 23 0 2 true true 2),
  sg [(19, true), (16, false)] 25 (.mv (t 0)),
  sg [(19, true), (16, false)] 26 (.mv (t 3)),
  sg [(19, true), (16, false)] 27 (.idx (t 25) (t 26) 2),
  sg [(19, true), (16, false)] 28 (.ldE 25 27 0 2 true true 2),
  sg [(19, true), (16, false)] 29 (.eqa false [0, 0] (t 24) (t 28)),
  sg [(16, false)] 30 (.pick (t 19) (t 29) (c (.bool false))),
  s 31 (.pick (t 16) (c (.bool true)) (t 30))])
 (.cond (t 31) (.seq (.ops [s 2 (.mv (c (.bool false)))])
 .ret) .skip)))
 (.ops [s 8 (.mv (t 3)),
  s 9 (.bin .add (t 8) (c (i 1))),
  s 3 (.mv (t 9))]))))))
 (.seq (.ops [s 32 (.mv (t 0)),
  s 33 (.len false (t 32)),
  k 34 20 [(t 33), (c (i 2)), (c (i 10))] .sc,
  s 2 (.mv (t 34))])
 .ret))), none, [2], [false]⟩
def i54 : Comp := ⟨(.seq (.ops [s 2 (.mv (c (.lst 4 true [])))])
 (.seq (.ops [s 5 (.bsl 4 []),
  s 3 (.mv (t 5))])
 (.seq (.seq (.ops [s 4 (.mv (c (i 0)))])
 (.block 0 (.loop (.seq (.seq (.ops [s 6 (.mv (t 4)),
  s 7 (.mv (t 0)),
  s 8 (.len false (t 7)),
  s 9 (.bin .lss (t 6) (t 8))])
 (.cond (t 9) .skip (.exit 0)))
 (.seq (.block 1 (.ops [s 12 (.mv (t 3)),
  s 13 (.mv (t 0)),
  s 14 (.mv (t 4)),
  s 15 (.idx (t 13) (t 14) 2),
  s 16 (.ldE 13 15 0 2 true true 2),
  s 17 (.mv (t 0)),
  s 18 (.mv (t 4)),
  s 19 (.bin .add (t 18) (c (i 1))),
  s 20 (.mv (t 0)),
  s 21 (.len false (t 20)),
  s 22 (.bin .rem (t 19) (t 21)),
  s 23 (.idx (t 17) (t 22) 2),
  s 24 (.ldE 17 23 0 2 true true 2),
  s 25 (.bld [(i 0), (i 0), (i 0), (i 0)] [(0, 2, (t 16)), (2, 2, (t 24))]),
  s 26 (.bsl 4 [(t 25)]),
  s 27 (.app (t 12) (t 26) 4 32),
  s 3 (.mv (t 27))]))
 (.ops [s 10 (.mv (t 4)),
  s 11 (.bin .add (t 10) (c (i 1))),
  s 4 (.mv (t 11))]))))))
 (.seq (.ops [s 28 (.mv (t 3)),
  s 2 (.mv (t 28))])
 .ret)))), none, [2], [false]⟩
def i55 : Comp := ⟨(.seq (.ops [s 1 (.box 4 (t 0)),
  s 2 (.mv (c (.bool false)))])
 (.seq (.ops [s 3 (.mv (c (i 0))),
  s 4 (.ldB 1 0 2 true true),
  k 5 35 [(t 4)] .sc,
  s 6 (.mv (t 5)),
  sg [(6, true)] 7 (.mv (c (i 0))),
  sg [(6, true)] 8 (.ldB 1 2 2 true true),
  kg [(6, true)] 9 35 [(t 8)] .sc,
  s 10 (.pick (t 6) (t 9) (c (.bool false))),
  s 11 (.mv (t 10)),
  sg [(11, true)] 12 (.mv (c (i 0))),
  sg [(11, true)] 13 (.ldB 1 0 2 true true),
  sg [(11, true)] 14 (.mv (c (i 0))),
  sg [(11, true)] 15 (.ldB 1 2 2 true true),
  sg [(11, true)] 16 (.eqa true [0, 0] (t 13) (t 15)),
  s 17 (.pick (t 11) (t 16) (c (.bool false))),
  s 2 (.mv (t 17))])
 .ret)), none, [2], [true]⟩
def i56 : Comp := ⟨(.seq (.ops [s 2 (.box 8 (t 0)),
  s 3 (.box 8 (t 1)),
  s 4 (.mv (c (.bool false)))])
 (.seq (.ops [s 5 (.mv (c (i 0))),
  s 6 (.ldB 2 5 1 false true),
  s 7 (.mv (c (i 0))),
  s 8 (.ldB 3 5 1 false true),
  s 9 (.bin .gtr (t 6) (t 8)),
  s 10 (.mv (t 9)),
  sg [(10, false)] 11 (.mv (c (i 0))),
  sg [(10, false)] 12 (.ldB 2 5 1 false true),
  sg [(10, false)] 13 (.mv (c (i 0))),
  sg [(10, false)] 14 (.ldB 3 5 1 false true),
  sg [(10, false)] 15 (.bin .eql (t 12) (t 14)),
  sg [(10, false)] 16 (.mv (t 15)),
  sg [(16, true), (10, false)] 17 (.mv (c (i 0))),
  sg [(16, true), (10, false)] 18 (.ldB 2 6 1 false true),
  sg [(16, true), (10, false)] 19 (.mv (c (i 0))),
  sg [(16, true), (10, false)] 20 (.ldB 3 6 1 false true),
  sg [(16, true), (10, false)] 21 (.bin .gtr (t 18) (t 20)),
  sg [(10, false)] 22 (.pick (t 16) (t 21) (c (.bool false))),
  s 23 (.pick (t 10) (c (.bool true)) (t 22)),
  s 4 (.mv (t 23))])
 .ret)), none, [4], [false, false]⟩
def i57 : Comp := ⟨(.seq (.ops [s 2 (.mv (c (.lst 8 true [])))])
 (.seq (.ops [s 5 (.bsl 8 []),
  s 3 (.mv (t 5))])
 (.seq (.seq (.ops [s 4 (.mv (c (i 0)))])
 (.block 0 (.loop (.seq (.seq (.ops [s 6 (.mv (t 4)),
  s 7 (.mv (t 0)),
  s 8 (.len false (t 7)),
  s 9 (.bin .lss (t 6) (t 8))])
 (.cond (t 9) .skip (.exit 0)))
 (.seq (.block 1 (.ops [s 12 (.mv (t 3)),
  s 13 (.mv (t 0)),
  s 14 (.mv (t 4)),
  s 15 (.idx (t 13) (t 14) 8),
  s 16 (.ldE 13 15 0 8 true false 8),
  k 17 58 [(t 16)] .lin,
  s 18 (.bsl 8 [(t 17)]),
  s 19 (.app (t 12) (t 18) 8 88),
  s 3 (.mv (t 19))]))
 (.ops [s 10 (.mv (t 4)),
  s 11 (.bin .add (t 10) (c (i 1))),
  s 4 (.mv (t 11))]))))))
 (.seq (.ops [s 20 (.mv (t 3)),
  s 2 (.mv (t 20))])
 .ret)))), none, [2], [false]⟩
def i58 : Comp := ⟨(.seq (.ops [s 1 (.box 8 (t 0)),
  s 2 (.alc [(i 0), (i 0), (i 0), (.str (bs [])), (.lst 2 true []), (i 0), (i 0), (.bool false)])])
 (.seq (.ops [s 3 (.mv (c (i 0))),
  s 4 (.ldB 1 0 5 true false),
  k 5 73 [(t 4)] .lin,
  s 6 (.mv (c (i 0))),
  s 1 (.stB 1 0 5 (t 5) true)])
 (.seq (.ops [s 7 (.ldB 1 0 8 true false),
  s 2 (.stB 2 0 8 (t 7) false)])
 .ret))), (some ⟨2, 33, 8, true⟩), [], [false]⟩
def i59 : Comp := ⟨(.seq (.ops [s 4 (.alc [(i 0), (i 0), (i 0), (.str (bs [])), (.lst 2 true [])])])
 (.seq (.seq (.ops [s 6 (.mv (t 1)),
  s 7 (.mv (c .junk))])
 (.seq (opC 8 26 0 [(c (i 3))] .sc)
 (.seq (.ops [s 9 (.bin .add (c (i 1)) (t 8)),
  s 10 (.mv (c .junk))])
 (.seq (opC 11 26 0 [(c (i 6))] .sc)
 (.seq (.ops [s 12 (.mv (c .junk))])
 (.seq (opC 13 74 0 [] .sc)
 (.ops [s 14 (.bld [(i 0), (i 0), (i 0), (.str (bs [])), (.lst 2 true [])] [(0, 1, (t 6)), (1, 1, (t 9)), (2, 1, (t 11)), (3, 1, (t 13))]),
  s 5 (.alc [(i 0), (i 0), (i 0), (.str (bs [])), (.lst 2 true [])]),
  s 5 (.stB 5 0 5 (t 14) false)])))))))
 (.seq (.seq (.ops [s 15 (.mv (c (i 0))),
  s 16 (.ldB 5 1 1 false true)])
 (.block 0 (.seq (.ops [s 21 (.bin .eql (t 16) (c (i 1))),
  s 20 (.mv (t 21))])
 (.cond (t 20) (.seq (.ops [s 22 (.mv (c .junk))])
 (.seq (opC 23 75 0 [] .sc)
 (.ops [s 24 (.bsl 2 [(t 23)]),
  s 25 (.mv (c (i 0))),
  s 5 (.stB 5 4 1 (t 24) false)]))) (.seq (.ops [s 27 (.bin .eql (t 16) (c (i 2))),
  s 26 (.mv (t 27))])
 (.cond (t 26) (.seq (.ops [s 28 (.mv (c .junk))])
 (.seq (opC 29 76 0 [] .lin)
 (.ops [s 30 (.mv (c (i 0))),
  s 5 (.stB 5 4 1 (t 29) false)]))) (.seq (.ops [s 17 (.mv (c .junk))])
 (.seq (opC 18 77 0 [] .lin)
 (.ops [s 19 (.mv (c (i 0))),
  s 5 (.stB 5 4 1 (t 18) false)])))))))))
 (.seq (.ops [s 31 (.ldB 5 0 5 true false),
  s 4 (.stB 4 0 5 (t 31) false)])
 .ret)))), (some ⟨4, 31, 5, true⟩), [], [true]⟩
def i60 : Comp := ⟨(.seq (.ops [s 4 (.mv (c (.bool false)))])
 (.seq (.seq (.ops [s 5 (.mv (c .junk)),
  s 6 (.mv (t 1))])
 (.seq (opC 7 26 0 [(t 6)] .sc)
 (.ops [s 8 (.bin .eql (t 7) (c (i 0))),
  s 4 (.mv (t 8))])))
 .ret)), none, [4], [true]⟩
def i61 : Comp := ⟨(.seq (.ops [s 2 (.mv (c (.lst 5 true [])))])
 (.seq (.ops [s 5 (.bsl 5 []),
  s 3 (.mv (t 5))])
 (.seq (.seq (.ops [s 4 (.mv (c (i 1)))])
 (.block 0 (.loop (.seq (.seq (.seq (.ops [s 6 (.mv (t 4)),
  s 7 (.mv (c .junk))])
 (.seq (opC 8 26 0 [(c (i 6))] .sc)
 (.ops [s 9 (.bin .add (c (i 1)) (t 8)),
  s 10 (.bin .leq (t 6) (t 9))])))
 (.cond (t 10) .skip (.exit 0)))
 (.seq (.block 1 (.seq (.ops [s 14 (.mv (t 3)),
  s 15 (.mv (c .junk)),
  s 16 (.mv (t 4))])
 (.seq (opC 17 59 0 [(t 16)] .lin)
 (.ops [k 18 78 [(t 14), (t 17)] .tup,
  s 13 (.mv (t 18)),
  s 19 (.ext 13 0 false),
  s 20 (.ext 13 1 true),
  s 3 (.mv (t 19))]))))
 (.ops [s 11 (.mv (t 4)),
  s 12 (.bin .add (t 11) (c (i 1))),
  s 4 (.mv (t 12))]))))))
 (.seq (.ops [s 21 (.mv (t 3)),
  s 2 (.mv (t 21))])
 .ret)))), none, [2], []⟩
def i63 : Comp := ⟨(.seq (.ops [s 2 (.mv (c (.lst 2 true [])))])
 (.seq (.seq (.ops [s 4 (.mv (c .junk))])
 (.seq (opC 5 76 0 [] .lin)
 (.ops [s 3 (.mv (t 5))])))
 (.seq (.seq (.seq (.ops [s 6 (.mv (c .junk))])
 (.seq (opC 7 26 0 [(c (i 12))] .sc)
 (.ops [])))
 (.block 0 (.seq (.ops [s 9 (.bin .eql (t 7) (c (i 0))),
  s 8 (.mv (t 9))])
 (.cond (t 8) (.seq (.ops [s 10 (.mv (t 3)),
  s 11 (.mv (c .junk))])
 (.seq (opC 12 79 0 [] .sc)
 (.seq (.ops [s 13 (.idx (t 10) (c (i 0)) 2)])
 (.seq (opW 3 13 0 2 2 (t 12))
 (.ops []))))) (.seq (.ops [s 15 (.bin .eql (t 7) (c (i 1))),
  s 14 (.mv (t 15))])
 (.cond (t 14) (.ops [s 16 (.mv (t 3)),
  s 17 (.mv (t 3)),
  s 18 (.mv (t 3)),
  s 19 (.len false (t 18)),
  s 20 (.bin .sub (t 19) (c (i 1))),
  s 21 (.idx (t 17) (t 20) 2),
  s 22 (.ldE 17 21 0 2 true true 2),
  s 23 (.bsl 2 [(t 22)]),
  s 24 (.app (t 16) (t 23) 2 16),
  s 3 (.mv (t 24))]) (.seq (.ops [s 26 (.bin .eql (t 7) (c (i 2))),
  s 25 (.mv (t 26))])
 (.cond (t 25) (.seq (.ops [s 27 (.mv (t 3))])
 (.seq (opS 28 2 (t 27) none (some (c (i 1))))
 (.ops [s 3 (.mv (t 28))]))) (.seq (.ops [s 30 (.bin .eql (t 7) (c (i 3))),
  s 29 (.mv (t 30))])
 (.cond (t 29) (.block 1 (.loop (.seq (.seq (.ops [s 31 (.mv (t 3)),
  s 32 (.len false (t 31)),
  s 33 (.bin .lss (t 32) (c (i 11)))])
 (.cond (t 33) .skip (.exit 1)))
 (.block 2 (.ops [s 34 (.mv (t 3)),
  s 35 (.mv (t 3)),
  s 36 (.len false (t 35)),
  s 37 (.mv (t 3)),
  s 38 (.len false (t 37)),
  s 39 (.bin .add (c (i 50)) (t 38)),
  s 40 (.bld [(i 0), (i 0)] [(0, 1, (t 36)), (1, 1, (t 39))]),
  s 41 (.bsl 2 [(t 40)]),
  s 42 (.app (t 34) (t 41) 2 16),
  s 3 (.mv (t 42))]))))) .skip))))))))))
 (.seq (.ops [s 43 (.mv (t 3)),
  s 2 (.mv (t 43))])
 .ret)))), none, [2], []⟩
def i65 : Comp := ⟨(.seq (.ops [s 3 (.box 2 (t 0)),
  s 4 (.box 2 (t 1)),
  s 5 (.box 2 (t 2)),
  s 6 (.mv (c (i 0)))])
 (.seq (.seq (.ops [s 7 (.ldB 3 0 2 true true),
  k 8 31 [(t 7)] .sc,
  s 9 (.not (t 8)),
  s 10 (.mv (t 9)),
  sg [(10, false)] 11 (.ldB 4 0 2 true true),
  kg [(10, false)] 12 31 [(t 11)] .sc,
  sg [(10, false)] 13 (.not (t 12)),
  s 14 (.pick (t 10) (c (.bool true)) (t 13)),
  s 15 (.mv (t 14)),
  sg [(15, false)] 16 (.ldB 5 0 2 true true),
  kg [(15, false)] 17 31 [(t 16)] .sc,
  sg [(15, false)] 18 (.not (t 17)),
  s 19 (.pick (t 15) (c (.bool true)) (t 18))])
 (.cond (t 19) (.seq (.ops [s 6 (.mv (c (i 0)))])
 .ret) .skip))
 (.seq (.ops [s 20 (.ldB 3 0 2 true true),
  s 21 (.ldB 4 0 2 true true),
  s 22 (.ldB 5 0 2 true true),
  k 23 82 [(t 20), (t 21), (t 22)] .sc,
  k 24 81 [(t 23), (c (i 0))] .sc,
  s 6 (.mv (t 24))])
 .ret))), none, [6], [true, true, true]⟩
def i66 : Comp := ⟨(.seq (.ops [s 1 (.box 4 (t 0)),
  s 2 (.alc [(i 0), (i 0), (i 0), (i 0)])])
 (.seq (.seq (.ops [s 3 (.mv (c (i 0))),
  s 4 (.ldB 1 2 2 true true),
  s 5 (.mv (c (i 0))),
  s 6 (.ldB 1 0 2 true true),
  k 7 67 [(t 4), (t 6)] .sc])
 (.cond (t 7) (.seq (.ops [s 8 (.ldB 1 0 4 true true),
  k 9 83 [(t 8)] .sc,
  s 2 (.stB 2 0 4 (t 9) false)])
 .ret) .skip))
 (.seq (.ops [s 10 (.ldB 1 0 4 true true),
  s 2 (.stB 2 0 4 (t 10) false)])
 .ret))), (some ⟨2, 71, 4, true⟩), [], [true]⟩
def i67 : Comp := ⟨(.seq (.ops [s 2 (.box 2 (t 0)),
  s 3 (.box 2 (t 1)),
  s 4 (.mv (c (.bool false)))])
 (.seq (.ops [s 5 (.mv (c (i 0))),
  s 6 (.ldB 2 1 1 false true),
  s 7 (.mv (c (i 0))),
  s 8 (.ldB 3 1 1 false true),
  s 9 (.bin .lss (t 6) (t 8)),
  s 10 (.mv (t 9)),
  sg [(10, false)] 11 (.mv (c (i 0))),
  sg [(10, false)] 12 (.ldB 2 1 1 false true),
  sg [(10, false)] 13 (.mv (c (i 0))),
  sg [(10, false)] 14 (.ldB 3 1 1 false true),
  sg [(10, false)] 15 (.bin .eql (t 12) (t 14)),
  sg [(10, false)] 16 (.mv (t 15)),
  sg [(16, true), (10, false)] 17 (.mv (c (i 0))),
  sg [(16, true), (10, false)] 18 (.ldB 2 0 1 false true),
  sg [(16, true), (10, false)] 19 (.mv (c (i 0))),
  sg [(16, true), (10, false)] 20 (.ldB 3 0 1 false true),
  sg [(16, true), (10, false)] 21 (.bin .lss (t 18) (t 20)),
  sg [(10, false)] 22 (.pick (t 16) (t 21) (c (.bool false))),
  s 23 (.pick (t 10) (c (.bool true)) (t 22)),
  s 4 (.mv (t 23))])
 .ret)), none, [4], [true, true]⟩
def i68 : Comp := ⟨(.seq (.ops [s 2 (.box 4 (t 0)),
  s 3 (.box 2 (t 1)),
  s 4 (.mv (c (.bool false)))])
 (.seq (.ops [s 5 (.ldB 2 0 4 true true),
  k 6 50 [(t 5)] .sc,
  s 7 (.mv (t 6)),
  sg [(7, true)] 8 (.ldB 3 0 2 true true),
  kg [(7, true)] 9 31 [(t 8)] .sc,
  s 10 (.pick (t 7) (t 9) (c (.bool false))),
  s 11 (.mv (t 10)),
  sg [(11, true)] 12 (.mv (c (i 0))),
  sg [(11, true)] 13 (.ldB 2 0 2 true true),
  sg [(11, true)] 14 (.mv (c (i 0))),
  sg [(11, true)] 15 (.ldB 2 2 2 true true),
  sg [(11, true)] 16 (.ldB 3 0 2 true true),
  kg [(11, true)] 17 65 [(t 13), (t 15), (t 16)] .sc,
  sg [(11, true)] 18 (.bin .eql (t 17) (c (i 0))),
  s 19 (.pick (t 11) (t 18) (c (.bool false))),
  s 20 (.mv (t 19)),
  sg [(20, true)] 21 (.mv (c (i 0))),
  sg [(20, true)] 22 (.ldB 3 0 1 false true),
  sg [(20, true)] 23 (.mv (c (i 0))),
  sg [(20, true)] 24 (.mv (t 23)),
  sg [(20, true)] 25 (.ldB 2 0 1 false true),
  sg [(20, true)] 26 (.mv (c (i 0))),
  sg [(20, true)] 27 (.mv (t 26)),
  sg [(20, true)] 28 (.ldB 2 2 1 false true),
  sg [(20, true)] 29 (.mn (t 25) (t 28)),
  sg [(20, true)] 30 (.mv (c (i 0))),
  sg [(20, true)] 31 (.mv (t 30)),
  sg [(20, true)] 32 (.ldB 2 0 1 false true),
  sg [(20, true)] 33 (.mv (c (i 0))),
  sg [(20, true)] 34 (.mv (t 33)),
  sg [(20, true)] 35 (.ldB 2 2 1 false true),
  sg [(20, true)] 36 (.mx (t 32) (t 35)),
  kg [(20, true)] 37 18 [(t 22), (t 29), (t 36)] .sc,
  s 38 (.pick (t 20) (t 37) (c (.bool false))),
  s 39 (.mv (t 38)),
  sg [(39, true)] 40 (.mv (c (i 0))),
  sg [(39, true)] 41 (.ldB 3 1 1 false true),
  sg [(39, true)] 42 (.mv (c (i 0))),
  sg [(39, true)] 43 (.mv (t 42)),
  sg [(39, true)] 44 (.ldB 2 1 1 false true),
  sg [(39, true)] 45 (.mv (c (i 0))),
  sg [(39, true)] 46 (.mv (t 45)),
  sg [(39, true)] 47 (.ldB 2 3 1 false true),
  sg [(39, true)] 48 (.mn (t 44) (t 47)),
  sg [(39, true)] 49 (.mv (c (i 0))),
  sg [(39, true)] 50 (.mv (t 49)),
  sg [(39, true)] 51 (.ldB 2 1 1 false true),
  sg [(39, true)] 52 (.mv (c (i 0))),
  sg [(39, true)] 53 (.mv (t 52)),
  sg [(39, true)] 54 (.ldB 2 3 1 false true),
  sg [(39, true)] 55 (.mx (t 51) (t 54)),
  kg [(39, true)] 56 18 [(t 41), (t 48), (t 55)] .sc,
  s 57 (.pick (t 39) (t 56) (c (.bool false))),
  s 4 (.mv (t 57))])
 .ret)), none, [4], [true, true]⟩
def i69 : Comp := ⟨(.seq (.ops [s 4 (.mv (c (i 0)))])
 (.seq (.seq (.ops [s 5 (.mv (t 1)),
  s 6 (.mv (t 0)),
  s 7 (.bin .gtr (t 5) (t 6))])
 (.cond (t 7) (.seq (.ops [s 8 (.mv (t 1)),
  s 4 (.mv (t 8))])
 .ret) .skip))
 (.seq (.ops [s 9 (.mv (t 0)),
  s 4 (.mv (t 9))])
 .ret))), none, [4], [true, true]⟩
def i70 : Comp := ⟨(.seq (.ops [s 4 (.mv (c (i 0)))])
 (.seq (.seq (.ops [s 5 (.mv (t 1)),
  s 6 (.mv (t 0)),
  s 7 (.bin .lss (t 5) (t 6))])
 (.cond (t 7) (.seq (.ops [s 8 (.mv (t 1)),
  s 4 (.mv (t 8))])
 .ret) .skip))
 (.seq (.ops [s 9 (.mv (t 0)),
  s 4 (.mv (t 9))])
 .ret))), none, [4], [true, true]⟩
def i71 : Comp := ⟨(.seq (.ops [s 2 (.box 4 (t 0)),
  s 3 (.box 4 (t 1)),
  s 4 (.mv (c (i 0)))])
 (.seq (.ops [s 10 (.bsl 2 []),
  s 5 (.mv (t 10))])
 (.seq (.ops [s 11 (.mv (c (i 0))),
  s 12 (.ldB 2 0 2 true true),
  s 13 (.mv (c (i 0))),
  s 14 (.ldB 2 2 2 true true),
  s 15 (.mv (c (i 0))),
  s 16 (.ldB 3 0 2 true true),
  s 17 (.mv (c (i 0))),
  s 18 (.ldB 3 2 2 true true),
  s 19 (.bsl 2 [(t 12), (t 14), (t 16), (t 18)]),
  s 6 (.mv (t 19))])
 (.seq (.seq (.ops [s 7 (.mv (c (i 0)))])
 (.block 0 (.loop (.seq (.seq (.ops [s 20 (.mv (t 7)),
  s 21 (.bin .lss (t 20) (c (i 4)))])
 (.cond (t 21) .skip (.exit 0)))
 (.seq (.block 1 (.seq (.ops [s 24 (.mv (t 7)),
  s 25 (.bin .lss (t 24) (c (i 2))),
  s 26 (.mv (t 25)),
  sg [(26, true)] 27 (.ldB 3 0 4 true true),
  sg [(26, true)] 28 (.mv (t 6)),
  sg [(26, true)] 29 (.mv (t 7)),
  sg [(26, true)] 30 (.idx (t 28) (t 29) 2),
  sg [(26, true)] 31 (.ldE 28 30 0 2 true true 2),
  kg [(26, true)] 32 84 [(t 27), (t 31)] .sc,
  s 33 (.pick (t 26) (t 32) (c (.bool false))),
  s 34 (.mv (t 33)),
  sg [(34, false)] 35 (.mv (t 7)),
  sg [(34, false)] 36 (.bin .geq (t 35) (c (i 2))),
  sg [(34, false)] 37 (.mv (t 36)),
  sg [(37, true), (34, false)] 38 (.ldB 2 0 4 true true),
  sg [(37, true), (34, false)] 39 (.mv (t 6)),
  sg [(37, true), (34, false)] 40 (.mv (t 7)),
  sg [(37, true), (34, false)] 41 (.idx (t 39) (t 40) 2),
  sg [(37, true), (34, false)] 42 (.ldE 39 41 0 2 true true 2),
  kg [(37, true), (34, false)] 43 84 [(t 38), (t 42)] .sc,
  sg [(34, false)] 44 (.pick (t 37) (t 43) (c (.bool false))),
  s 45 (.pick (t 34) (c (.bool true)) (t 44)),
  s 8 (.mv (t 45))])
 (.seq (.seq (.ops [s 9 (.mv (c (i 0)))])
 (.block 2 (.loop (.seq (.seq (.ops [s 46 (.mv (t 9)),
  s 47 (.mv (t 5)),
  s 48 (.len false (t 47)),
  s 49 (.bin .lss (t 46) (t 48))])
 (.cond (t 49) .skip (.exit 2)))
 (.seq (.block 3 (.ops [s 52 (.mv (t 8)),
  s 53 (.mv (t 52)),
  sg [(53, true)] 54 (.mv (t 5)),
  sg [(53, true)] 55 (.mv (t 9)),
  sg [(53, true)] 56 (.idx (t 54) (t 55) 2),
  sg [(53, true)] 57 (.ldE 54 56 0 2 true true 2),
  sg [(53, true)] 58 (.mv (t 6)),
  sg [(53, true)] 59 (.mv (t 7)),
  sg [(53, true)] 60 (.idx (t 58) (t 59) 2),
  sg [(53, true)] 61 (.ldE 58 60 0 2 true true 2),
  sg [(53, true)] 62 (.eqa true [0, 0] (t 57) (t 61)),
  s 63 (.pick (t 53) (t 62) (c (.bool false))),
  s 8 (.mv (t 63))]))
 (.ops [s 50 (.mv (t 9)),
  s 51 (.bin .add (t 50) (c (i 1))),
  s 9 (.mv (t 51))]))))))
 (.seq (.ops [s 64 (.mv (t 8))])
 (.cond (t 64) (.ops [s 65 (.mv (t 5)),
  s 66 (.mv (t 6)),
  s 67 (.mv (t 7)),
  s 68 (.idx (t 66) (t 67) 2),
  s 69 (.ldE 66 68 0 2 true true 2),
  s 70 (.bsl 2 [(t 69)]),
  s 71 (.app (t 65) (t 70) 2 16),
  s 5 (.mv (t 71))]) .skip)))))
 (.ops [s 22 (.mv (t 7)),
  s 23 (.bin .add (t 22) (c (i 1))),
  s 7 (.mv (t 23))]))))))
 (.seq (.ops [s 72 (.mv (t 5)),
  s 73 (.len false (t 72)),
  s 4 (.mv (t 73))])
 .ret))))), none, [4], [true, true]⟩
def i72 : Comp := ⟨(.seq (.ops [s 3 (.box 2 (t 0)),
  s 4 (.box 2 (t 1)),
  s 5 (.box 2 (t 2)),
  s 6 (.mv (c (i 0)))])
 (.seq (.seq (.ops [s 8 (.ldB 3 0 2 true true),
  k 9 35 [(t 8)] .sc,
  s 10 (.not (t 9)),
  s 11 (.mv (t 10)),
  sg [(11, false)] 12 (.ldB 4 0 2 true true),
  kg [(11, false)] 13 35 [(t 12)] .sc,
  sg [(11, false)] 14 (.not (t 13)),
  s 15 (.pick (t 11) (c (.bool true)) (t 14)),
  s 16 (.mv (t 15)),
  sg [(16, false)] 17 (.ldB 5 0 2 true true),
  kg [(16, false)] 18 35 [(t 17)] .sc,
  sg [(16, false)] 19 (.not (t 18)),
  s 20 (.pick (t 16) (c (.bool true)) (t 19))])
 (.cond (t 20) (.seq (.ops [s 6 (.mv (c (i 0)))])
 .ret) .skip))
 (.seq (.ops [s 21 (.ldB 3 0 2 true true),
  s 22 (.ldB 4 0 2 true true),
  s 23 (.ldB 5 0 2 true true),
  k 24 85 [(t 21), (t 22), (t 23)] .sc,
  s 7 (.mv (t 24))])
 (.seq (.block 0 (.seq (.ops [s 26 (.mv (t 7)),
  s 27 (.bin .gtr (t 26) (c (i 0))),
  s 25 (.mv (t 27))])
 (.cond (t 25) (.seq (.ops [s 6 (.mv (c (i 1)))])
 .ret) (.seq (.ops [s 29 (.mv (t 7)),
  s 30 (.bin .lss (t 29) (c (i 0))),
  s 28 (.mv (t 30))])
 (.cond (t 28) (.seq (.ops [s 6 (.mv (c (i (-1))))])
 .ret) .skip)))))
 (.seq (.ops [s 6 (.mv (c (i 0)))])
 .ret))))), none, [6], [true, true, true]⟩
def i73 : Comp := ⟨(.seq (.ops [s 1 (.box 5 (t 0)),
  s 2 (.alc [(i 0), (i 0), (i 0), (.str (bs [])), (.lst 2 true [])])])
 (.seq (.ops [s 3 (.bsl 2 []),
  s 4 (.mv (c (i 0))),
  s 5 (.ldB 1 4 1 false false),
  s 6 (.apf (t 3) (t 5) 2 16),
  s 7 (.mv (c (i 0))),
  s 1 (.stB 1 4 1 (t 6) true)])
 (.seq (.ops [s 8 (.ldB 1 0 5 true false),
  s 2 (.stB 2 0 5 (t 8) false)])
 .ret))), (some ⟨2, 31, 5, true⟩), [], [false]⟩
def i74 : Comp := ⟨(.seq (.ops [s 2 (.mv (c (.str (bs []))))])
 (.seq (.seq (.ops [s 3 (.mv (c .junk)),
  s 4 (.bsl 1 [(c (.str (bs []))), (c (.str (bs [102, 111, 114, 100]))), (c (.str (bs [104, 105, 108, 108]))), (c (.str (bs [109, 105, 108, 108]))), (c (.str (bs [111, 97, 107]))), (c (.str (bs [108, 97, 107, 101]))), (c (.str (bs [105, 110, 110])))])])
 (.seq (opC 5 62 0 [(t 4)] .sc)
 (.ops [s 2 (.mv (t 5))])))
 .ret)), none, [2], []⟩
def i75 : Comp := ⟨(.seq (.ops [s 2 (.alc [(i 0), (i 0)])])
 (.seq (.seq (.ops [s 3 (.mv (c .junk))])
 (.seq (opC 4 26 0 [(c (i 12))] .sc)
 (.seq (.ops [s 5 (.mv (c .junk))])
 (.seq (opC 6 26 0 [(c (i 12))] .sc)
 (.ops [s 7 (.bld [(i 0), (i 0)] [(0, 1, (t 4)), (1, 1, (t 6))]),
  s 2 (.stB 2 0 2 (t 7) false)])))))
 .ret)), (some ⟨2, 59, 2, true⟩), [], []⟩
def i76 : Comp := ⟨(.seq (.ops [s 2 (.mv (c (.lst 2 true [])))])
 (.seq (.seq (.ops [s 7 (.mv (c .junk))])
 (.seq (opC 8 75 0 [] .sc)
 (.ops [s 9 (.bsl 2 [(t 8)]),
  s 3 (.mv (t 9))])))
 (.seq (.seq (.seq (.ops [s 10 (.mv (c .junk))])
 (.seq (opC 11 26 0 [(c (i 5))] .sc)
 (.ops [s 12 (.bin .add (c (i 1)) (t 11)),
  s 4 (.mv (t 12))])))
 (.block 0 (.loop (.seq (.seq (.ops [s 13 (.mv (t 4)),
  s 14 (.bin .gtr (t 13) (c (i 0)))])
 (.cond (t 14) .skip (.exit 0)))
 (.seq (.block 1 (.seq (.ops [s 17 (.mv (t 3)),
  s 18 (.mv (t 3)),
  s 19 (.len false (t 18)),
  s 20 (.bin .sub (t 19) (c (i 1))),
  s 21 (.idx (t 17) (t 20) 2),
  s 22 (.ldE 17 21 0 2 true true 2),
  s 5 (.alc [(i 0), (i 0)]),
  s 5 (.stB 5 0 2 (t 22) false)])
 (.seq (.seq (.ops [s 23 (.mv (c .junk)),
  s 25 (.mv (c (i 0))),
  s 26 (.ldB 5 1 1 false true),
  s 27 (.mv (c .junk)),
  s 6 (.alc [(i 0), (i 0)])])
 (.seq (opC 24 26 0 [(c (i 14))] .sc)
 (.seq (.ops [])
 (.seq (opC 28 26 0 [(c (i 4))] .sc)
 (.ops [s 29 (.bin .add (t 26) (t 28)),
  k 30 70 [(c (i 200)), (t 29)] .sc,
  s 31 (.bld [(i 0), (i 0)] [(0, 1, (t 24)), (1, 1, (t 30))]),
  s 6 (.stB 6 0 2 (t 31) false)])))))
 (.seq (.seq (.ops [s 32 (.ldB 6 0 2 true true),
  s 33 (.ldB 5 0 2 true true),
  s 34 (.eqa false [0, 0] (t 32) (t 33))])
 (.cond (t 34) (.ops [s 35 (.mv (c (i 0))),
  s 36 (.ldB 6 0 1 false true),
  s 37 (.bin .add (t 36) (c (i 1))),
  s 38 (.mv (c (i 0))),
  s 6 (.stB 6 0 1 (t 37) false)]) .skip))
 (.ops [s 39 (.mv (t 3)),
  s 40 (.ldB 6 0 2 true true),
  s 41 (.bsl 2 [(t 40)]),
  s 42 (.app (t 39) (t 41) 2 16),
  s 3 (.mv (t 42))])))))
 (.ops [s 15 (.mv (t 4)),
  s 16 (.bin .sub (t 15) (c (i 1))),
  s 4 (.mv (t 16))]))))))
 (.seq (.ops [s 43 (.mv (t 3)),
  s 2 (.mv (t 43))])
 .ret)))), none, [2], []⟩
def i77 : Comp := ⟨(.seq (.ops [s 2 (.mv (c (.lst 2 true [])))])
 (.seq (.seq (.ops [s 7 (.mv (c .junk))])
 (.seq (opC 8 26 0 [(c (i 8))] .sc)
 (.ops [s 3 (.mv (t 8))])))
 (.seq (.seq (.ops [s 9 (.mv (c .junk))])
 (.seq (opC 10 26 0 [(c (i 8))] .sc)
 (.ops [s 4 (.mv (t 10))])))
 (.seq (.seq (.ops [s 11 (.mv (c .junk))])
 (.seq (opC 12 26 0 [(c (i 6))] .sc)
 (.ops [s 13 (.bin .add (c (i 2)) (t 12)),
  s 5 (.mv (t 13))])))
 (.seq (.seq (.ops [s 14 (.mv (c .junk))])
 (.seq (opC 15 26 0 [(c (i 6))] .sc)
 (.ops [s 16 (.bin .add (c (i 2)) (t 15)),
  s 6 (.mv (t 16))])))
 (.seq (.seq (.seq (.ops [s 17 (.mv (c .junk))])
 (.seq (opC 18 26 0 [(c (i 4))] .sc)
 (.ops [])))
 (.block 0 (.seq (.ops [s 20 (.bin .eql (t 18) (c (i 0))),
  s 19 (.mv (t 20))])
 (.cond (t 19) (.seq (.ops [s 21 (.mv (t 3)),
  s 22 (.mv (t 4)),
  k 23 86 [(t 21), (t 22)] .sc,
  s 24 (.mv (t 3)),
  s 25 (.mv (t 5)),
  s 26 (.bin .add (t 24) (t 25)),
  s 27 (.mv (t 4)),
  k 28 86 [(t 26), (t 27)] .sc,
  s 29 (.mv (t 3)),
  s 30 (.mv (t 5)),
  s 31 (.bin .add (t 29) (t 30)),
  s 32 (.mv (t 4)),
  s 33 (.mv (t 6)),
  s 34 (.bin .add (t 32) (t 33)),
  k 35 86 [(t 31), (t 34)] .sc,
  s 36 (.mv (t 3)),
  s 37 (.mv (t 4)),
  s 38 (.mv (t 6)),
  s 39 (.bin .add (t 37) (t 38)),
  k 40 86 [(t 36), (t 39)] .sc,
  s 41 (.bsl 2 [(t 23), (t 28), (t 35), (t 40)]),
  s 2 (.mv (t 41))])
 .ret) (.seq (.ops [s 43 (.bin .eql (t 18) (c (i 1))),
  s 42 (.mv (t 43))])
 (.cond (t 42) (.seq (.ops [s 44 (.mv (t 3)),
  s 45 (.mv (t 4)),
  k 46 86 [(t 44), (t 45)] .sc,
  s 47 (.mv (t 3)),
  s 48 (.mv (t 5)),
  s 49 (.bin .add (t 47) (t 48)),
  s 50 (.mv (t 4)),
  k 51 86 [(t 49), (t 50)] .sc,
  s 52 (.mv (t 3)),
  s 53 (.mv (t 4)),
  s 54 (.mv (t 6)),
  s 55 (.bin .add (t 53) (t 54)),
  k 56 86 [(t 52), (t 55)] .sc,
  s 57 (.bsl 2 [(t 46), (t 51), (t 56)]),
  s 2 (.mv (t 57))])
 .ret) (.seq (.ops [s 59 (.bin .eql (t 18) (c (i 2))),
  s 58 (.mv (t 59))])
 (.cond (t 58) (.seq (.ops [s 60 (.mv (t 3)),
  s 61 (.mv (t 4)),
  k 62 86 [(t 60), (t 61)] .sc,
  s 63 (.mv (t 3)),
  s 64 (.mv (t 5)),
  s 65 (.bin .mul (c (i 2)) (t 64)),
  s 66 (.bin .add (t 63) (t 65)),
  s 67 (.mv (t 4)),
  k 68 86 [(t 66), (t 67)] .sc,
  s 69 (.mv (t 3)),
  s 70 (.mv (t 5)),
  s 71 (.bin .mul (c (i 2)) (t 70)),
  s 72 (.bin .add (t 69) (t 71)),
  s 73 (.mv (t 4)),
  s 74 (.mv (t 6)),
  s 75 (.bin .add (t 73) (t 74)),
  k 76 86 [(t 72), (t 75)] .sc,
  s 77 (.mv (t 3)),
  s 78 (.mv (t 5)),
  s 79 (.bin .add (t 77) (t 78)),
  s 80 (.mv (t 4)),
  s 81 (.mv (t 6)),
  s 82 (.bin .add (t 80) (t 81)),
  k 83 86 [(t 79), (t 82)] .sc,
  s 84 (.mv (t 3)),
  s 85 (.mv (t 5)),
  s 86 (.bin .add (t 84) (t 85)),
  s 87 (.mv (t 4)),
  s 88 (.mv (t 6)),
  s 89 (.bin .mul (c (i 2)) (t 88)),
  s 90 (.bin .add (t 87) (t 89)),
  k 91 86 [(t 86), (t 90)] .sc,
  s 92 (.mv (t 3)),
  s 93 (.mv (t 4)),
  s 94 (.mv (t 6)),
  s 95 (.bin .mul (c (i 2)) (t 94)),
  s 96 (.bin .add (t 93) (t 95)),
  k 97 86 [(t 92), (t 96)] .sc,
  s 98 (.bsl 2 [(t 62), (t 68), (t 76), (t 83), (t 91), (t 97)]),
  s 2 (.mv (t 98))])
 .ret) .skip))))))))
 (.seq (.ops [s 99 (.mv (t 3)),
  s 100 (.mv (t 4)),
  k 101 86 [(t 99), (t 100)] .sc,
  s 102 (.mv (t 3)),
  s 103 (.mv (t 5)),
  s 104 (.bin .add (t 102) (t 103)),
  s 105 (.mv (t 4)),
  s 106 (.bin .add (t 105) (c (i 1))),
  k 107 86 [(t 104), (t 106)] .sc,
  s 108 (.mv (t 3)),
  s 109 (.mv (t 5)),
  s 110 (.bin .mul (c (i 2)) (t 109)),
  s 111 (.bin .add (t 108) (t 110)),
  s 112 (.mv (t 4)),
  k 113 86 [(t 111), (t 112)] .sc,
  s 114 (.mv (t 3)),
  s 115 (.mv (t 5)),
  s 116 (.bin .add (t 114) (t 115)),
  s 117 (.mv (t 4)),
  s 118 (.mv (t 6)),
  s 119 (.bin .add (t 117) (t 118)),
  k 120 86 [(t 116), (t 119)] .sc,
  s 121 (.bsl 2 [(t 101), (t 107), (t 113), (t 120)]),
  s 2 (.mv (t 121))])
 .ret))))))), none, [2], []⟩
def i78 : Comp := ⟨(.seq (.ops [s 3 (.box 5 (t 1)),
  s 4 (.mv (c (.lst 5 true []))),
  s 5 (.mv (c (.bool false)))])
 (.seq (.ops [s 6 (.mv (c (i 0)))])
 (.seq (.block 0 (.loop (.seq (.seq (.ops [s 9 (.mv (t 6)),
  s 10 (.mv (t 0)),
  s 11 (.len false (t 10)),
  s 12 (.bin .lss (t 9) (t 11)),
  s 13 (.mv (t 12)),
  sg [(13, true)] 14 (.mv (t 0)),
  sg [(13, true)] 15 (.mv (t 6)),
  sg [(13, true)] 16 (.idx (t 14) (t 15) 5),
  sg [(13, true)] 17 (.mv (t 16)),
  sg [(13, true)] 18 (.ldE 14 17 0 1 false true 5),
  sg [(13, true)] 19 (.mv (c (i 0))),
  sg [(13, true)] 20 (.ldB 3 0 1 false true),
  sg [(13, true)] 21 (.bin .lss (t 18) (t 20)),
  s 22 (.pick (t 13) (t 21) (c (.bool false)))])
 (.cond (t 22) .skip (.exit 0)))
 (.block 1 (.ops [s 23 (.mv (t 6)),
  s 24 (.bin .add (t 23) (c (i 1))),
  s 6 (.mv (t 24))])))))
 (.seq (.ops [s 25 (.mv (t 0)),
  s 26 (.mv (t 6)),
  s 27 (.sl 5 (t 25) (some (t 26)) none),
  s 7 (.mv (t 27))])
 (.seq (.seq (.ops [s 28 (.mv (t 7)),
  s 29 (.len false (t 28)),
  s 30 (.bin .gtr (t 29) (c (i 0))),
  s 31 (.mv (t 30)),
  sg [(31, true)] 32 (.mv (t 7)),
  sg [(31, true)] 33 (.idx (t 32) (c (i 0)) 5),
  sg [(31, true)] 34 (.mv (t 33)),
  sg [(31, true)] 35 (.ldE 32 34 0 1 false true 5),
  sg [(31, true)] 36 (.mv (c (i 0))),
  sg [(31, true)] 37 (.ldB 3 0 1 false true),
  sg [(31, true)] 38 (.bin .eql (t 35) (t 37)),
  s 39 (.pick (t 31) (t 38) (c (.bool false)))])
 (.cond (t 39) (.ops [s 40 (.mv (t 7)),
  s 41 (.sl 5 (t 40) (some (c (i 1))) none),
  s 7 (.mv (t 41))]) .skip))
 (.seq (.ops [s 42 (.mv (t 0)),
  s 43 (.mv (t 6)),
  s 44 (.sl 5 (t 42) none (some (t 43))),
  k 45 87 [(t 44)] .lin,
  s 46 (.ldB 3 0 5 true false),
  k 47 73 [(t 46)] .lin,
  s 48 (.bsl 5 [(t 47)]),
  s 49 (.app (t 45) (t 48) 5 64),
  s 50 (.mv (t 7)),
  k 51 87 [(t 50)] .lin,
  s 52 (.app (t 49) (t 51) 5 64),
  s 8 (.mv (t 52))])
 (.seq (.seq (.ops [s 53 (.mv (t 8)),
  k 54 88 [(t 53)] .sc,
  s 55 (.not (t 54))])
 (.cond (t 55) (.seq (.ops [s 56 (.mv (t 0)),
  k 57 87 [(t 56)] .lin,
  s 4 (.mv (t 57)),
  s 5 (.mv (c (.bool false)))])
 .ret) .skip))
 (.seq (.ops [s 58 (.mv (t 8)),
  s 4 (.mv (t 58)),
  s 5 (.mv (c (.bool true)))])
 .ret)))))))), none, [4, 5], [false, false]⟩
def i79 : Comp := ⟨(.seq (.ops [s 2 (.alc [(i 0), (i 0)])])
 (.seq (.seq (.ops [s 4 (.mv (c .junk))])
 (.seq (opC 5 75 0 [] .sc)
 (.ops [s 3 (.alc [(i 0), (i 0)]),
  s 3 (.stB 3 0 2 (t 5) false)])))
 (.seq (.seq (.seq (.ops [s 6 (.mv (c .junk))])
 (.seq (opC 7 26 0 [(c (i 12))] .sc)
 (.ops [])))
 (.block 0 (.seq (.ops [s 9 (.bin .eql (t 7) (c (i 0))),
  s 8 (.mv (t 9))])
 (.cond (t 8) (.seq (.ops [s 10 (.mv (c .junk))])
 (.seq (opC 11 89 0 [] .sc)
 (.ops [s 12 (.mv (c (i 0))),
  s 3 (.stB 3 0 1 (t 11) false)]))) (.seq (.ops [s 14 (.bin .eql (t 7) (c (i 1))),
  s 13 (.mv (t 14))])
 (.cond (t 13) (.seq (.ops [s 15 (.mv (c .junk))])
 (.seq (opC 16 89 0 [] .sc)
 (.ops [s 17 (.mv (c (i 0))),
  s 3 (.stB 3 1 1 (t 16) false)]))) .skip))))))
 (.seq (.ops [s 18 (.ldB 3 0 2 true true),
  s 2 (.stB 2 0 2 (t 18) false)])
 .ret)))), (some ⟨2, 59, 2, true⟩), [], []⟩
def i81 : Comp := ⟨(.seq (.ops [s 4 (.mv (c (i 0)))])
 (.seq (.ops [s 7 (.mv (t 0)),
  k 8 90 [(t 7)] .sc,
  s 5 (.mv (t 8))])
 (.seq (.ops [s 9 (.mv (t 1)),
  k 10 90 [(t 9)] .sc,
  s 6 (.mv (t 10))])
 (.seq (.seq (.ops [s 11 (.mv (t 5))])
 (.cond (t 11) (.seq (.seq (.ops [s 12 (.mv (t 6))])
 (.cond (t 12) (.seq (.ops [s 4 (.mv (c (i 0)))])
 .ret) .skip))
 (.seq (.ops [s 4 (.mv (c (i (-1))))])
 .ret)) .skip))
 (.seq (.seq (.ops [s 13 (.mv (t 6))])
 (.cond (t 13) (.seq (.ops [s 4 (.mv (c (i 1)))])
 .ret) .skip))
 (.seq (.seq (.ops [s 14 (.mv (t 0)),
  s 15 (.mv (t 1)),
  s 16 (.bin .lss (t 14) (t 15))])
 (.cond (t 16) (.seq (.ops [s 4 (.mv (c (i (-1))))])
 .ret) .skip))
 (.seq (.seq (.ops [s 17 (.mv (t 0)),
  s 18 (.mv (t 1)),
  s 19 (.bin .gtr (t 17) (t 18))])
 (.cond (t 19) (.seq (.ops [s 4 (.mv (c (i 1)))])
 .ret) .skip))
 (.seq (.ops [s 4 (.mv (c (i 0)))])
 .ret)))))))), none, [4], [true, true]⟩
def i82 : Comp := ⟨(.seq (.ops [s 3 (.box 2 (t 0)),
  s 4 (.box 2 (t 1)),
  s 5 (.box 2 (t 2)),
  s 6 (.mv (c (i 0)))])
 (.seq (.ops [s 7 (.mv (c (i 0))),
  s 8 (.ldB 4 0 1 false true),
  s 9 (.mv (c (i 0))),
  s 10 (.ldB 3 0 1 false true),
  s 11 (.bin .sub (t 8) (t 10)),
  s 12 (.mv (c (i 0))),
  s 13 (.ldB 5 1 1 false true),
  s 14 (.mv (c (i 0))),
  s 15 (.ldB 3 1 1 false true),
  s 16 (.bin .sub (t 13) (t 15)),
  s 17 (.bin .mul (t 11) (t 16)),
  s 18 (.mv (c (i 0))),
  s 19 (.ldB 4 1 1 false true),
  s 20 (.mv (c (i 0))),
  s 21 (.ldB 3 1 1 false true),
  s 22 (.bin .sub (t 19) (t 21)),
  s 23 (.mv (c (i 0))),
  s 24 (.ldB 5 0 1 false true),
  s 25 (.mv (c (i 0))),
  s 26 (.ldB 3 0 1 false true),
  s 27 (.bin .sub (t 24) (t 26)),
  s 28 (.bin .mul (t 22) (t 27)),
  s 29 (.bin .sub (t 17) (t 28)),
  s 6 (.mv (t 29))])
 .ret)), none, [6], [true, true, true]⟩
def i83 : Comp := ⟨(.seq (.ops [s 1 (.box 4 (t 0)),
  s 2 (.alc [(i 0), (i 0), (i 0), (i 0)])])
 (.seq (.ops [s 3 (.mv (c (i 0))),
  s 4 (.ldB 1 2 2 true true),
  s 5 (.mv (c (i 0))),
  s 6 (.ldB 1 0 2 true true),
  s 7 (.bld [(i 0), (i 0), (i 0), (i 0)] [(0, 2, (t 4)), (2, 2, (t 6))]),
  s 2 (.stB 2 0 4 (t 7) false)])
 .ret)), (some ⟨2, 71, 4, true⟩), [], [true]⟩
def i84 : Comp := ⟨(.seq (.ops [s 2 (.box 4 (t 0)),
  s 3 (.box 2 (t 1)),
  s 4 (.mv (c (.bool false)))])
 (.seq (.ops [s 5 (.ldB 2 0 4 true true),
  k 6 55 [(t 5)] .sc,
  s 7 (.mv (t 6)),
  sg [(7, true)] 8 (.ldB 3 0 2 true true),
  kg [(7, true)] 9 35 [(t 8)] .sc,
  s 10 (.pick (t 7) (t 9) (c (.bool false))),
  s 11 (.mv (t 10)),
  sg [(11, true)] 12 (.mv (c (i 0))),
  sg [(11, true)] 13 (.ldB 2 0 2 true true),
  sg [(11, true)] 14 (.mv (c (i 0))),
  sg [(11, true)] 15 (.ldB 2 2 2 true true),
  sg [(11, true)] 16 (.ldB 3 0 2 true true),
  kg [(11, true)] 17 85 [(t 13), (t 15), (t 16)] .sc,
  sg [(11, true)] 18 (.bin .eql (t 17) (c (i 0))),
  s 19 (.pick (t 11) (t 18) (c (.bool false))),
  s 20 (.mv (t 19)),
  sg [(20, true)] 21 (.mv (c (i 0))),
  sg [(20, true)] 22 (.ldB 3 0 1 false true),
  sg [(20, true)] 23 (.mv (c (i 0))),
  sg [(20, true)] 24 (.mv (t 23)),
  sg [(20, true)] 25 (.ldB 2 0 1 false true),
  sg [(20, true)] 26 (.mv (c (i 0))),
  sg [(20, true)] 27 (.mv (t 26)),
  sg [(20, true)] 28 (.ldB 2 2 1 false true),
  kg [(20, true)] 29 70 [(t 25), (t 28)] .sc,
  sg [(20, true)] 30 (.mv (c (i 0))),
  sg [(20, true)] 31 (.mv (t 30)),
  sg [(20, true)] 32 (.ldB 2 0 1 false true),
  sg [(20, true)] 33 (.mv (c (i 0))),
  sg [(20, true)] 34 (.mv (t 33)),
  sg [(20, true)] 35 (.ldB 2 2 1 false true),
  kg [(20, true)] 36 69 [(t 32), (t 35)] .sc,
  kg [(20, true)] 37 20 [(t 22), (t 29), (t 36)] .sc,
  s 38 (.pick (t 20) (t 37) (c (.bool false))),
  s 39 (.mv (t 38)),
  sg [(39, true)] 40 (.mv (c (i 0))),
  sg [(39, true)] 41 (.ldB 3 1 1 false true),
  sg [(39, true)] 42 (.mv (c (i 0))),
  sg [(39, true)] 43 (.mv (t 42)),
  sg [(39, true)] 44 (.ldB 2 1 1 false true),
  sg [(39, true)] 45 (.mv (c (i 0))),
  sg [(39, true)] 46 (.mv (t 45)),
  sg [(39, true)] 47 (.ldB 2 3 1 false true),
  kg [(39, true)] 48 70 [(t 44), (t 47)] .sc,
  sg [(39, true)] 49 (.mv (c (i 0))),
  sg [(39, true)] 50 (.mv (t 49)),
  sg [(39, true)] 51 (.ldB 2 1 1 false true),
  sg [(39, true)] 52 (.mv (c (i 0))),
  sg [(39, true)] 53 (.mv (t 52)),
  sg [(39, true)] 54 (.ldB 2 3 1 false true),
  kg [(39, true)] 55 69 [(t 51), (t 54)] .sc,
  kg [(39, true)] 56 20 [(t 41), (t 48), (t 55)] .sc,
  s 57 (.pick (t 39) (t 56) (c (.bool false))),
  s 4 (.mv (t 57))])
 .ret)), none, [4], [true, true]⟩
def i85 : Comp := ⟨(.seq (.ops [s 3 (.box 2 (t 0)),
  s 4 (.box 2 (t 1)),
  s 5 (.box 2 (t 2)),
  s 6 (.mv (c (i 0)))])
 (.seq (.ops [s 7 (.mv (c (i 0))),
  s 8 (.ldB 4 0 1 false true),
  s 9 (.mv (c (i 0))),
  s 10 (.ldB 3 0 1 false true),
  s 11 (.bin .sub (t 8) (t 10)),
  s 12 (.mv (c (i 0))),
  s 13 (.ldB 5 1 1 false true),
  s 14 (.mv (c (i 0))),
  s 15 (.ldB 3 1 1 false true),
  s 16 (.bin .sub (t 13) (t 15)),
  s 17 (.bin .mul (t 11) (t 16)),
  s 18 (.mv (c (i 0))),
  s 19 (.ldB 4 1 1 false true),
  s 20 (.mv (c (i 0))),
  s 21 (.ldB 3 1 1 false true),
  s 22 (.bin .sub (t 19) (t 21)),
  s 23 (.mv (c (i 0))),
  s 24 (.ldB 5 0 1 false true),
  s 25 (.mv (c (i 0))),
  s 26 (.ldB 3 0 1 false true),
  s 27 (.bin .sub (t 24) (t 26)),
  s 28 (.bin .mul (t 22) (t 27)),
  s 29 (.bin .sub (t 17) (t 28)),
  s 6 (.mv (t 29))])
 .ret)), none, [6], [true, true, true]⟩
def i86 : Comp := ⟨(.seq (.ops [s 4 (.alc [(i 0), (i 0)])])
 (.seq (.ops [s 5 (.mv (t 0)),
  s 6 (.mv (t 1)),
  s 7 (.bld [(i 0), (i 0)] [(0, 1, (t 5)), (1, 1, (t 6))]),
  s 4 (.stB 4 0 2 (t 7) false)])
 .ret)), (some ⟨4, 59, 2, true⟩), [], [true, true]⟩
def i87 : Comp := ⟨(.seq (.ops [s 2 (.mv (c (.lst 5 true [])))])
 (.seq (.ops [s 5 (.bsl 5 []),
  s 3 (.mv (t 5))])
 (.seq (.seq (.ops [s 4 (.mv (c (i 0)))])
 (.block 0 (.loop (.seq (.seq (.ops [s 6 (.mv (t 4)),
  s 7 (.mv (t 0)),
  s 8 (.len false (t 7)),
  s 9 (.bin .lss (t 6) (t 8))])
 (.cond (t 9) .skip (.exit 0)))
 (.seq (.block 1 (.ops [s 12 (.mv (t 3)),
  s 13 (.mv (t 0)),
  s 14 (.mv (t 4)),
  s 15 (.idx (t 13) (t 14) 5),
  s 16 (.ldE 13 15 0 5 true false 5),
  k 17 73 [(t 16)] .lin,
  s 18 (.bsl 5 [(t 17)]),
  s 19 (.app (t 12) (t 18) 5 64),
  s 3 (.mv (t 19))]))
 (.ops [s 10 (.mv (t 4)),
  s 11 (.bin .add (t 10) (c (i 1))),
  s 4 (.mv (t 11))]))))))
 (.seq (.ops [s 20 (.mv (t 3)),
  s 2 (.mv (t 20))])
 .ret)))), none, [2], [false]⟩
def i88 : Comp := ⟨(.seq (.ops [s 2 (.mv (c (.bool false)))])
 (.seq (.seq (.ops [s 3 (.mv (c (i 0)))])
 (.block 0 (.loop (.seq (.seq (.ops [s 4 (.mv (t 3)),
  s 5 (.mv (t 0)),
  s 6 (.len false (t 5)),
  s 7 (.bin .lss (t 4) (t 6))])
 (.cond (t 7) .skip (.exit 0)))
 (.seq (.block 1 (.seq (.ops [s 10 (.mv (t 0)),
  s 11 (.mv (t 3)),
  s 12 (.idx (t 10) (t 11) 5),
  s 13 (.ldE 10 12 0 5 true false 5),
  k 14 19 [(t 13)] .sc,
  s 15 (.not (t 14)),
  s 16 (.mv (t 15)),
  sg [(16, false)] 17 (.mv (t 3)),
  sg [(16, false)] 18 (.bin .gtr (t 17) (c (i 0))),
  sg [(16, false)] 19 (.mv (t 18)),
  sg [(19, true), (16, false)] 20 (.mv (t 0)),
  sg [(19, true), (16, false)] 21 (.mv (t 3)),
  sg [(19, true), (16, false)] 22 (.bin .sub (t 21) (c (i 1))),
  sg [(19, true), (16, false)] 23 (.idx (t 20) (t 22) 5),
  sg [(19, true), (16, false)] 24 (.mv (t 23)),
  sg [(19, true), (16, false)] 25 (.ldE 20 24 0 1 false true 5),
  sg [(19, true), (16, false)] 26 (.mv (t 0)),
  sg [(19, true), (16, false)] 27 (.mv (t 3)),
  sg [(19, true), (16, false)] 28 (.idx (t 26) (t 27) 5),
  sg [(19, true), (16, false)] 29 (.mv (t 28)),
  sg [(19, true), (16, false)] 30 (.ldE 26 29 0 1 false true 5),
  sg [(19, true), (16, false)] 31 (.bin .geq (t 25) (t 30)),
  sg [(16, false)] 32 (.pick (t 19) (t 31) (c (.bool false))),
  s 33 (.pick (t 16) (c (.bool true)) (t 32))])
 (.cond (t 33) (.seq (.ops [s 2 (.mv (c (.bool false)))])
 .ret) .skip)))
 (.ops [s 8 (.mv (t 3)),
  s 9 (.bin .add (t 8) (c (i 1))),
  s 3 (.mv (t 9))]))))))
 (.seq (.ops [s 34 (.mv (t 0)),
  s 35 (.len false (t 34)),
  s 36 (.bin .leq (t 35) (c (i 16))),
  s 2 (.mv (t 36))])
 .ret))), none, [2], [false]⟩
def i89 : Comp := ⟨(.seq (.ops [s 2 (.mv (c (i 0)))])
 (.seq (.seq (.ops [s 3 (.mv (c .junk)),
  s 4 (.bsl 1 [(c (i (-1))), (c (i 0)), (c (i 200)), (c (i 201)), (c (i 1000)), (c (i 1001)), (c (i 9223372036854775807)), (c (i (-9223372036854775808)))])])
 (.seq (opC 5 27 0 [(t 4)] .sc)
 (.ops [s 2 (.mv (t 5))])))
 .ret)), none, [2], []⟩
def i90 : Comp := ⟨(.seq (.ops [s 2 (.mv (c (.bool false)))])
 (.seq (.ops [s 3 (.mv (t 0)),
  s 4 (.mv (t 0)),
  s 5 (.bin .neq (t 3) (t 4)),
  s 2 (.mv (t 5))])
 .ret)), none, [2], [true]⟩
def X : Cx := { tab := tbs, sig := sgs, wf := wfs, xf := xfs, rf := rfs, tl := tls }
end Go.Eng
namespace Go.Eng
open Go Go.Proofs
theorem hX : TabOK Try.prog X := TabOK.of (by kernel_rfl)
theorem c3 : compP Try.prog X 3 = some i3 := by kernel_rfl
theorem c4 : compP Try.prog X 4 = some i4 := by kernel_rfl
theorem c5 : compD Try.prog X 5 = some i5 := by kernel_rfl
theorem c6 : compP Try.prog X 6 = some i6 := by kernel_rfl
theorem c7 : compP Try.prog X 7 = some i7 := by kernel_rfl
theorem c8 : compP Try.prog X 8 = some i8 := by kernel_rfl
theorem c9 : compP Try.prog X 9 = some i9 := by kernel_rfl
theorem c10 : compP Try.prog X 10 = some i10 := by kernel_rfl
theorem c11 : compP Try.prog X 11 = some i11 := by kernel_rfl
theorem c12 : compP Try.prog X 12 = some i12 := by kernel_rfl
theorem c14 : compC Try.prog X 14 = some i14 := by kernel_rfl
theorem c15 : compP Try.prog X 15 = some i15 := by kernel_rfl
theorem c16 : compP Try.prog X 16 = some i16 := by kernel_rfl
theorem c17 : compP Try.prog X 17 = some i17 := by kernel_rfl
theorem c18 : compP Try.prog X 18 = some i18 := by kernel_rfl
theorem c19 : compP Try.prog X 19 = some i19 := by kernel_rfl
theorem c20 : compP Try.prog X 20 = some i20 := by kernel_rfl
theorem c21 : compP Try.prog X 21 = some i21 := by kernel_rfl
theorem c22 : compP Try.prog X 22 = some i22 := by kernel_rfl
theorem c23 : compP Try.prog X 23 = some i23 := by kernel_rfl
theorem c24 : compP Try.prog X 24 = some i24 := by kernel_rfl
theorem c25 : compC Try.prog X 25 = some i25 := by kernel_rfl
theorem c26 : compC Try.prog X 26 = some i26 := by kernel_rfl
theorem c28 : compC Try.prog X 28 = some i28 := by kernel_rfl
theorem c30 : compP Try.prog X 30 = some i30 := by kernel_rfl
theorem c31 : compP Try.prog X 31 = some i31 := by kernel_rfl
theorem c32 : compP Try.prog X 32 = some i32 := by kernel_rfl
theorem c33 : compP Try.prog X 33 = some i33 := by kernel_rfl
theorem c34 : compP Try.prog X 34 = some i34 := by kernel_rfl
theorem c35 : compP Try.prog X 35 = some i35 := by kernel_rfl
theorem c36 : compP Try.prog X 36 = some i36 := by kernel_rfl
theorem c37 : compP Try.prog X 37 = some i37 := by kernel_rfl
theorem c38 : compP Try.prog X 38 = some i38 := by kernel_rfl
theorem c39 : compP Try.prog X 39 = some i39 := by kernel_rfl
theorem c40 : compP Try.prog X 40 = some i40 := by kernel_rfl
theorem c41 : compC Try.prog X 41 = some i41 := by kernel_rfl
theorem c43 : compC Try.prog X 43 = some i43 := by kernel_rfl
theorem c46 : compP Try.prog X 46 = some i46 := by kernel_rfl
theorem c47 : compP Try.prog X 47 = some i47 := by kernel_rfl
theorem c48 : compP Try.prog X 48 = some i48 := by kernel_rfl
theorem c49 : compP Try.prog X 49 = some i49 := by kernel_rfl
theorem c50 : compP Try.prog X 50 = some i50 := by kernel_rfl
theorem c51 : compP Try.prog X 51 = some i51 := by kernel_rfl
theorem c52 : compP Try.prog X 52 = some i52 := by kernel_rfl
theorem c53 : compP Try.prog X 53 = some i53 := by kernel_rfl
theorem c54 : compP Try.prog X 54 = some i54 := by kernel_rfl
theorem c55 : compP Try.prog X 55 = some i55 := by kernel_rfl
theorem c56 : compP Try.prog X 56 = some i56 := by kernel_rfl
theorem c57 : compP Try.prog X 57 = some i57 := by kernel_rfl
theorem c58 : compP Try.prog X 58 = some i58 := by kernel_rfl
theorem c59 : compC Try.prog X 59 = some i59 := by kernel_rfl
theorem c60 : compC Try.prog X 60 = some i60 := by kernel_rfl
theorem c61 : compC Try.prog X 61 = some i61 := by kernel_rfl
theorem c63 : compC Try.prog X 63 = some i63 := by kernel_rfl
theorem c65 : compP Try.prog X 65 = some i65 := by kernel_rfl
theorem c66 : compP Try.prog X 66 = some i66 := by kernel_rfl
theorem c67 : compP Try.prog X 67 = some i67 := by kernel_rfl
theorem c68 : compP Try.prog X 68 = some i68 := by kernel_rfl
theorem c69 : compP Try.prog X 69 = some i69 := by kernel_rfl
theorem c70 : compP Try.prog X 70 = some i70 := by kernel_rfl
theorem c71 : compP Try.prog X 71 = some i71 := by kernel_rfl
theorem c72 : compP Try.prog X 72 = some i72 := by kernel_rfl
theorem c73 : compP Try.prog X 73 = some i73 := by kernel_rfl
theorem c74 : compC Try.prog X 74 = some i74 := by kernel_rfl
theorem c75 : compC Try.prog X 75 = some i75 := by kernel_rfl
theorem c76 : compC Try.prog X 76 = some i76 := by kernel_rfl
theorem c77 : compC Try.prog X 77 = some i77 := by kernel_rfl
theorem c78 : compP Try.prog X 78 = some i78 := by kernel_rfl
theorem c79 : compC Try.prog X 79 = some i79 := by kernel_rfl
theorem c81 : compP Try.prog X 81 = some i81 := by kernel_rfl
theorem c82 : compP Try.prog X 82 = some i82 := by kernel_rfl
theorem c83 : compP Try.prog X 83 = some i83 := by kernel_rfl
theorem c84 : compP Try.prog X 84 = some i84 := by kernel_rfl
theorem c85 : compP Try.prog X 85 = some i85 := by kernel_rfl
theorem c86 : compP Try.prog X 86 = some i86 := by kernel_rfl
theorem c87 : compP Try.prog X 87 = some i87 := by kernel_rfl
theorem c88 : compP Try.prog X 88 = some i88 := by kernel_rfl
theorem c89 : compC Try.prog X 89 = some i89 := by kernel_rfl
theorem c90 : compP Try.prog X 90 = some i90 := by kernel_rfl
end Go.Eng
