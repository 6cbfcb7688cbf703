/- A part of the proof of a law's statement: for every input the law returns true and leaves its arguments as they were. No condition beyond the statement's own. The laws' functions in that calculus, checked by the kernel against the program. -/
import Derived.Test.YtjbjkhdflkmccaaProg
import Derived.Test.YtjbjkhdflkmccaaAe4
set_option linter.unusedVariables false
set_option linter.unusedSimpArgs false
set_option autoImplicit true
set_option relaxedAutoImplicit true
namespace Go.Eng
open Go
def tbs : List (Option TI) := [some ⟨(.tup []), 1, 0, [.junk], false⟩,
  some ⟨.func, 1, 8, [.junk], false⟩,
  some ⟨(.int .i64), 1, 8, [(i 0)], false⟩,
  some ⟨(.int .i64), 1, 8, [(i 0)], false⟩,
  some ⟨.bool, 1, 1, [(.bool false)], false⟩,
  some ⟨(.int .u8), 1, 1, [(.int .u8 (0))], false⟩,
  some ⟨(.int .u8), 1, 1, [(.int .u8 (0))], false⟩,
  some ⟨(.struct [(0, 2), (1, 3), (2, 4), (3, 6)]), 4, 24, [(i 0), (i 0), (.bool false), (.int .u8 (0))], true⟩,
  some ⟨(.struct [(0, 2), (1, 3), (2, 4), (3, 6)]), 4, 24, [(i 0), (i 0), (.bool false), (.int .u8 (0))], true⟩,
  some ⟨.str, 1, 16, [(.str (bs []))], false⟩,
  some ⟨.str, 1, 16, [(.str (bs []))], false⟩,
  some ⟨.str, 1, 16, [(.str (bs []))], false⟩,
  some ⟨(.int .u64), 1, 8, [(.int .u64 (0))], false⟩,
  some ⟨(.struct [(0, 9), (1, 12)]), 2, 24, [(.str (bs [])), (.int .u64 (0))], false⟩,
  some ⟨(.struct [(0, 9), (1, 12)]), 2, 24, [(.str (bs [])), (.int .u64 (0))], false⟩,
  some ⟨(.ptr 252), 1, 8, [.junk], false⟩,
  some ⟨(.ptr 255), 1, 8, [.junk], false⟩,
  some ⟨(.ptr 264), 1, 8, [.junk], false⟩,
  some ⟨(.struct [(0, 17)]), 1, 8, [.junk], false⟩,
  some ⟨(.struct [(0, 17)]), 1, 8, [.junk], false⟩,
  some ⟨.other, 1, 16, [.junk], false⟩,
  some ⟨(.int .i32), 1, 4, [(.int .i32 (0))], false⟩,
  some ⟨(.slice 37), 1, 24, [(.lst 5 true [])], false⟩,
  some ⟨(.struct [(0, 3), (1, 3)]), 2, 16, [(i 0), (i 0)], true⟩,
  some ⟨(.struct [(0, 3), (1, 3)]), 2, 16, [(i 0), (i 0)], true⟩,
  some ⟨.func, 1, 8, [.junk], false⟩,
  some ⟨(.tup [3, 4]), 1, 0, [.junk], false⟩,
  some ⟨.func, 1, 8, [.junk], false⟩,
  some ⟨(.slice 47), 1, 24, [(.lst 5 true [])], false⟩,
  some ⟨.func, 1, 8, [.junk], false⟩,
  some ⟨(.struct [(0, 3), (1, 3)]), 2, 16, [(i 0), (i 0)], true⟩,
  some ⟨.func, 1, 8, [.junk], false⟩,
  some ⟨.func, 1, 8, [.junk], false⟩,
  some ⟨.func, 1, 8, [.junk], false⟩,
  some ⟨(.slice 39), 1, 24, [(.lst 8 true [])], false⟩,
  some ⟨(.slice 24), 1, 24, [(.lst 2 true [])], false⟩,
  some ⟨(.struct [(0, 3), (1, 3), (2, 3), (3, 9), (4, 35)]), 5, 64, [(i 0), (i 0), (i 0), (.str (bs [])), (.lst 2 true [])], true⟩,
  some ⟨(.struct [(0, 3), (1, 3), (2, 3), (3, 9), (4, 35)]), 5, 64, [(i 0), (i 0), (i 0), (.str (bs [])), (.lst 2 true [])], true⟩,
  some ⟨(.struct [(0, 37), (5, 3), (6, 3), (7, 4)]), 8, 88, [(i 0), (i 0), (i 0), (.str (bs [])), (.lst 2 true []), (i 0), (i 0), (.bool false)], true⟩,
  some ⟨(.struct [(0, 37), (5, 3), (6, 3), (7, 4)]), 8, 88, [(i 0), (i 0), (i 0), (.str (bs [])), (.lst 2 true []), (i 0), (i 0), (.bool false)], true⟩,
  some ⟨.func, 1, 8, [.junk], false⟩,
  some ⟨.func, 1, 8, [.junk], false⟩,
  some ⟨(.slice 49), 1, 24, [(.lst 8 true [])], false⟩,
  some ⟨.func, 1, 8, [.junk], false⟩,
  some ⟨.func, 1, 8, [.junk], false⟩,
  some ⟨(.slice 30), 1, 24, [(.lst 2 true [])], false⟩,
  some ⟨(.struct [(0, 3), (1, 3), (2, 3), (3, 9), (4, 45)]), 5, 64, [(i 0), (i 0), (i 0), (.str (bs [])), (.lst 2 true [])], true⟩,
  some ⟨(.struct [(0, 3), (1, 3), (2, 3), (3, 9), (4, 45)]), 5, 64, [(i 0), (i 0), (i 0), (.str (bs [])), (.lst 2 true [])], true⟩,
  some ⟨(.struct [(0, 47), (5, 3), (6, 3), (7, 4)]), 8, 88, [(i 0), (i 0), (i 0), (.str (bs [])), (.lst 2 true []), (i 0), (i 0), (.bool false)], true⟩,
  some ⟨(.struct [(0, 47), (5, 3), (6, 3), (7, 4)]), 8, 88, [(i 0), (i 0), (i 0), (.str (bs [])), (.lst 2 true []), (i 0), (i 0), (.bool false)], true⟩,
  some ⟨.func, 1, 8, [.junk], false⟩,
  some ⟨.func, 1, 8, [.junk], false⟩,
  some ⟨.func, 1, 8, [.junk], false⟩,
  some ⟨.func, 1, 8, [.junk], false⟩,
  some ⟨.func, 1, 8, [.junk], false⟩,
  some ⟨.func, 1, 8, [.junk], false⟩,
  some ⟨.func, 1, 8, [.junk], false⟩,
  some ⟨.func, 1, 8, [.junk], false⟩,
  some ⟨(.slice 5), 1, 24, [(.lst 1 true [])], false⟩,
  some ⟨.func, 1, 8, [.junk], false⟩,
  some ⟨(.tup [42, 42]), 1, 0, [.junk], false⟩,
  some ⟨.func, 1, 8, [.junk], false⟩,
  some ⟨.func, 1, 8, [.junk], false⟩,
  some ⟨.func, 1, 8, [.junk], false⟩,
  some ⟨.func, 1, 8, [.junk], false⟩,
  some ⟨(.struct [(0, 3), (1, 37), (6, 3), (7, 3), (8, 3)]), 9, 96, [(i 0), (i 0), (i 0), (i 0), (.str (bs [])), (.lst 2 true []), (i 0), (i 0), (i 0)], true⟩,
  some ⟨(.struct [(0, 3), (1, 37), (6, 3), (7, 3), (8, 3)]), 9, 96, [(i 0), (i 0), (i 0), (i 0), (.str (bs [])), (.lst 2 true []), (i 0), (i 0), (i 0)], true⟩,
  some ⟨.func, 1, 8, [.junk], false⟩,
  some ⟨(.tup [28, 4]), 1, 0, [.junk], false⟩,
  some ⟨.func, 1, 8, [.junk], false⟩,
  some ⟨(.struct [(0, 3), (1, 47), (6, 3), (7, 3), (8, 3)]), 9, 96, [(i 0), (i 0), (i 0), (i 0), (.str (bs [])), (.lst 2 true []), (i 0), (i 0), (i 0)], true⟩,
  some ⟨(.struct [(0, 3), (1, 47), (6, 3), (7, 3), (8, 3)]), 9, 96, [(i 0), (i 0), (i 0), (i 0), (.str (bs [])), (.lst 2 true []), (i 0), (i 0), (i 0)], true⟩,
  some ⟨.func, 1, 8, [.junk], false⟩,
  some ⟨.func, 1, 8, [.junk], false⟩,
  some ⟨.func, 1, 8, [.junk], false⟩,
  some ⟨.func, 1, 8, [.junk], false⟩,
  some ⟨.func, 1, 8, [.junk], false⟩,
  some ⟨(.tup [71, 4]), 1, 0, [.junk], false⟩,
  some ⟨.func, 1, 8, [.junk], false⟩,
  some ⟨(.slice 137), 1, 24, [(.lst 3 true [])], false⟩,
  some ⟨.func, 1, 8, [.junk], false⟩,
  some ⟨.func, 1, 8, [.junk], false⟩,
  some ⟨(.slice 138), 1, 24, [(.lst 3 true [])], false⟩,
  some ⟨.func, 1, 8, [.junk], false⟩,
  some ⟨.func, 1, 8, [.junk], false⟩,
  some ⟨.func, 1, 8, [.junk], false⟩,
  some ⟨(.slice 146), 1, 24, [(.lst 3 true [])], false⟩,
  some ⟨.func, 1, 8, [.junk], false⟩,
  some ⟨.func, 1, 8, [.junk], false⟩,
  some ⟨(.slice 148), 1, 24, [(.lst 3 true [])], false⟩,
  some ⟨.func, 1, 8, [.junk], false⟩,
  some ⟨.func, 1, 8, [.junk], false⟩,
  some ⟨.func, 1, 8, [.junk], false⟩,
  some ⟨.func, 1, 8, [.junk], false⟩,
  some ⟨(.tup [89, 4]), 1, 0, [.junk], false⟩,
  some ⟨.func, 1, 8, [.junk], false⟩,
  some ⟨.func, 1, 8, [.junk], false⟩,
  some ⟨(.slice 66), 1, 24, [(.lst 9 true [])], false⟩,
  some ⟨.func, 1, 8, [.junk], false⟩,
  some ⟨(.tup [28, 3]), 1, 0, [.junk], false⟩,
  some ⟨.func, 1, 8, [.junk], false⟩,
  some ⟨(.slice 71), 1, 24, [(.lst 9 true [])], false⟩,
  some ⟨.func, 1, 8, [.junk], false⟩,
  some ⟨.func, 1, 8, [.junk], false⟩,
  some ⟨.func, 1, 8, [.junk], false⟩,
  some ⟨.func, 1, 8, [.junk], false⟩,
  some ⟨.func, 1, 8, [.junk], false⟩,
  some ⟨.func, 1, 8, [.junk], false⟩,
  some ⟨.func, 1, 8, [.junk], false⟩,
  some ⟨.func, 1, 8, [.junk], false⟩,
  some ⟨.func, 1, 8, [.junk], false⟩,
  some ⟨.func, 1, 8, [.junk], false⟩,
  some ⟨(.slice 3), 1, 24, [(.lst 1 true [])], false⟩,
  some ⟨(.tup [45, 112]), 1, 0, [.junk], false⟩,
  some ⟨.func, 1, 8, [.junk], false⟩,
  some ⟨.func, 1, 8, [.junk], false⟩,
  some ⟨.func, 1, 8, [.junk], false⟩,
  some ⟨.other, 1, 8, [.junk], false⟩,
  some ⟨.func, 1, 8, [.junk], false⟩,
  some ⟨.func, 1, 8, [.junk], false⟩,
  some ⟨.func, 1, 8, [.junk], false⟩,
  some ⟨.func, 1, 8, [.junk], false⟩,
  some ⟨.func, 1, 8, [.junk], false⟩,
  some ⟨.func, 1, 8, [.junk], false⟩,
  some ⟨.func, 1, 8, [.junk], false⟩,
  some ⟨.func, 1, 8, [.junk], false⟩,
  some ⟨(.ptr 166), 1, 8, [.junk], false⟩,
  some ⟨.func, 1, 8, [.junk], false⟩,
  some ⟨.func, 1, 8, [.junk], false⟩,
  some ⟨.func, 1, 8, [.junk], false⟩,
  some ⟨.func, 1, 8, [.junk], false⟩,
  some ⟨.func, 1, 8, [.junk], false⟩,
  some ⟨.func, 1, 8, [.junk], false⟩,
  some ⟨.func, 1, 8, [.junk], false⟩,
  some ⟨.func, 1, 8, [.junk], false⟩,
  some ⟨.func, 1, 8, [.junk], false⟩,
  some ⟨(.struct [(0, 9), (1, 3), (2, 9)]), 3, 40, [(.str (bs [])), (i 0), (.str (bs []))], true⟩,
  some ⟨(.struct [(0, 9), (1, 3), (2, 9)]), 3, 40, [(.str (bs [])), (i 0), (.str (bs []))], true⟩,
  some ⟨(.struct [(0, 9), (1, 3), (2, 9)]), 3, 40, [(.str (bs [])), (i 0), (.str (bs []))], true⟩,
  some ⟨.func, 1, 8, [.junk], false⟩,
  some ⟨(.slice 9), 1, 24, [(.lst 1 true [])], false⟩,
  some ⟨.func, 1, 8, [.junk], false⟩,
  some ⟨.func, 1, 8, [.junk], false⟩,
  some ⟨.func, 1, 8, [.junk], false⟩,
  some ⟨.func, 1, 8, [.junk], false⟩,
  some ⟨(.struct [(0, 3), (1, 22), (2, 3)]), 3, 40, [(i 0), (.lst 5 true []), (i 0)], true⟩,
  some ⟨(.struct [(0, 3), (1, 22), (2, 3)]), 3, 40, [(i 0), (.lst 5 true []), (i 0)], true⟩,
  some ⟨(.struct [(0, 3), (1, 28), (2, 3)]), 3, 40, [(i 0), (.lst 5 true []), (i 0)], true⟩,
  some ⟨(.struct [(0, 3), (1, 28), (2, 3)]), 3, 40, [(i 0), (.lst 5 true []), (i 0)], true⟩,
  some ⟨.func, 1, 8, [.junk], false⟩,
  some ⟨.func, 1, 8, [.junk], false⟩,
  some ⟨.func, 1, 8, [.junk], false⟩,
  some ⟨.func, 1, 8, [.junk], false⟩,
  some ⟨.func, 1, 8, [.junk], false⟩,
  some ⟨.func, 1, 8, [.junk], false⟩,
  some ⟨.func, 1, 8, [.junk], false⟩,
  some ⟨.func, 1, 8, [.junk], false⟩,
  some ⟨.func, 1, 8, [.junk], false⟩,
  some ⟨.func, 1, 8, [.junk], false⟩,
  some ⟨.func, 1, 8, [.junk], false⟩,
  some ⟨.func, 1, 8, [.junk], false⟩,
  some ⟨(.tup [30, 4]), 1, 0, [.junk], false⟩,
  some ⟨.func, 1, 8, [.junk], false⟩,
  some ⟨.func, 1, 8, [.junk], false⟩,
  some ⟨.func, 1, 8, [.junk], false⟩,
  some ⟨(.struct [(0, 58), (1, 3), (2, 3)]), 3, 40, [(.lst 1 true []), (i 0), (i 0)], true⟩,
  some ⟨(.struct [(0, 58), (1, 3), (2, 3)]), 3, 40, [(.lst 1 true []), (i 0), (i 0)], true⟩,
  some ⟨.func, 1, 8, [.junk], false⟩,
  some ⟨.func, 1, 8, [.junk], false⟩,
  some ⟨.func, 1, 8, [.junk], false⟩,
  some ⟨.func, 1, 8, [.junk], false⟩,
  some ⟨.func, 1, 8, [.junk], false⟩,
  some ⟨.func, 1, 8, [.junk], false⟩,
  some ⟨.func, 1, 8, [.junk], false⟩,
  some ⟨.func, 1, 8, [.junk], false⟩,
  some ⟨.func, 1, 8, [.junk], false⟩,
  some ⟨.func, 1, 8, [.junk], false⟩,
  some ⟨.func, 1, 8, [.junk], false⟩,
  some ⟨(.int .u64), 1, 8, [(.int .u64 (0))], false⟩,
  some ⟨(.slice 182), 1, 24, [(.lst 2 true [])], false⟩,
  some ⟨.func, 1, 8, [.junk], false⟩,
  some ⟨(.struct [(0, 3), (1, 3)]), 2, 16, [(i 0), (i 0)], true⟩,
  some ⟨(.struct [(0, 3), (1, 3)]), 2, 16, [(i 0), (i 0)], true⟩,
  some ⟨.func, 1, 8, [.junk], false⟩,
  some ⟨.func, 1, 8, [.junk], false⟩,
  some ⟨.func, 1, 8, [.junk], false⟩,
  some ⟨(.slice 189), 1, 24, [(.lst 4 true [])], false⟩,
  some ⟨.func, 1, 8, [.junk], false⟩,
  some ⟨(.struct [(0, 30), (2, 30)]), 4, 32, [(i 0), (i 0), (i 0), (i 0)], true⟩,
  some ⟨(.struct [(0, 30), (2, 30)]), 4, 32, [(i 0), (i 0), (i 0), (i 0)], true⟩,
  some ⟨.func, 1, 8, [.junk], false⟩,
  some ⟨.func, 1, 8, [.junk], false⟩,
  some ⟨.func, 1, 8, [.junk], false⟩,
  some ⟨.func, 1, 8, [.junk], false⟩,
  some ⟨.func, 1, 8, [.junk], false⟩,
  some ⟨.func, 1, 8, [.junk], false⟩,
  some ⟨.func, 1, 8, [.junk], false⟩,
  some ⟨(.int .i64), 1, 8, [(i 0)], false⟩,
  some ⟨(.tup [3, 197]), 1, 0, [.junk], false⟩,
  some ⟨.func, 1, 8, [.junk], false⟩,
  some ⟨.func, 1, 8, [.junk], false⟩,
  some ⟨.func, 1, 8, [.junk], false⟩,
  some ⟨.func, 1, 8, [.junk], false⟩,
  some ⟨.func, 1, 8, [.junk], false⟩,
  some ⟨.func, 1, 8, [.junk], false⟩,
  some ⟨(.int .u32), 1, 4, [(.int .u32 (0))], false⟩,
  some ⟨.func, 1, 8, [.junk], false⟩,
  some ⟨(.int .u64), 1, 8, [(.int .u64 (0))], false⟩,
  some ⟨.func, 1, 8, [.junk], false⟩,
  some ⟨.func, 1, 8, [.junk], false⟩,
  some ⟨.func, 1, 8, [.junk], false⟩,
  some ⟨(.struct [(0, 30), (2, 30)]), 4, 32, [(i 0), (i 0), (i 0), (i 0)], true⟩,
  some ⟨(.struct [(0, 30), (2, 30)]), 4, 32, [(i 0), (i 0), (i 0), (i 0)], true⟩,
  some ⟨.func, 1, 8, [.junk], false⟩,
  some ⟨.func, 1, 8, [.junk], false⟩,
  some ⟨.func, 1, 8, [.junk], false⟩,
  some ⟨.func, 1, 8, [.junk], false⟩,
  some ⟨.func, 1, 8, [.junk], false⟩,
  some ⟨.func, 1, 8, [.junk], false⟩,
  some ⟨.func, 1, 8, [.junk], false⟩,
  some ⟨.func, 1, 8, [.junk], false⟩,
  some ⟨.func, 1, 8, [.junk], false⟩,
  some ⟨.func, 1, 8, [.junk], false⟩,
  some ⟨.func, 1, 8, [.junk], false⟩,
  some ⟨.func, 1, 8, [.junk], false⟩,
  some ⟨.func, 1, 8, [.junk], false⟩,
  some ⟨(.int .u64), 1, 8, [(.int .u64 (0))], false⟩,
  some ⟨.func, 1, 8, [.junk], false⟩,
  some ⟨.func, 1, 8, [.junk], false⟩,
  some ⟨.func, 1, 8, [.junk], false⟩,
  some ⟨(.ptr 3), 1, 8, [.junk], false⟩,
  some ⟨.func, 1, 8, [.junk], false⟩,
  some ⟨.func, 1, 8, [.junk], false⟩,
  some ⟨.func, 1, 8, [.junk], false⟩,
  some ⟨.func, 1, 8, [.junk], false⟩,
  some ⟨.func, 1, 8, [.junk], false⟩,
  some ⟨.func, 1, 8, [.junk], false⟩,
  some ⟨.func, 1, 8, [.junk], false⟩,
  some ⟨.func, 1, 8, [.junk], false⟩,
  some ⟨(.ptr 226), 1, 8, [.junk], false⟩,
  some ⟨(.tup [3, 3]), 1, 0, [.junk], false⟩,
  some ⟨.func, 1, 8, [.junk], false⟩,
  some ⟨.func, 1, 8, [.junk], false⟩,
  some ⟨(.tup [212, 4]), 1, 0, [.junk], false⟩,
  some ⟨.func, 1, 8, [.junk], false⟩,
  some ⟨.func, 1, 8, [.junk], false⟩,
  some ⟨.func, 1, 8, [.junk], false⟩,
  some ⟨.func, 1, 8, [.junk], false⟩,
  some ⟨.func, 1, 8, [.junk], false⟩,
  some ⟨.func, 1, 8, [.junk], false⟩,
  some ⟨.func, 1, 8, [.junk], false⟩,
  some ⟨(.struct [(0, 17), (1, 17), (2, 17), (3, 9)]), 4, 40, [.junk], false⟩,
  some ⟨(.struct [(0, 17), (1, 17), (2, 17), (3, 9)]), 4, 40, [.junk], false⟩,
  some ⟨(.arr 0 16), 0, 0, [], false⟩,
  some ⟨(.struct [(0, 253)]), 0, 0, [], false⟩,
  some ⟨(.struct [(0, 253)]), 0, 0, [], false⟩,
  some ⟨.func, 1, 8, [.junk], false⟩,
  some ⟨(.int .u8), 1, 1, [(.int .u8 (0))], false⟩,
  some ⟨(.int .u8), 1, 1, [(.int .u8 (0))], false⟩,
  some ⟨.func, 1, 8, [.junk], false⟩,
  some ⟨(.ptr 5), 1, 8, [.junk], false⟩,
  some ⟨(.int .i32), 1, 4, [(.int .i32 (0))], false⟩,
  some ⟨(.int .i32), 1, 4, [(.int .i32 (0))], false⟩,
  some ⟨(.struct [(0, 12), (1, 12), (2, 205), (3, 257), (4, 5), (5, 5), (6, 258), (7, 259), (8, 260), (9, 261), (10, 262)]), 11, 48, [.junk], false⟩,
  some ⟨(.struct [(0, 12), (1, 12), (2, 205), (3, 257), (4, 5), (5, 5), (6, 258), (7, 259), (8, 260), (9, 261), (10, 262)]), 11, 48, [.junk], false⟩,
  some ⟨.other, 1, 8, [.junk], false⟩]
def wfs : List Nat := [29, 47, 93, 117, 130, 212, 249, 28, 46, 62, 71, 75]
def xfs : List Nat := [91, 118, 155, 156]
def rfs : List (Nat × Bool × Bool × Bool) := [(34, false, true, false), (94, false, false, true), (95, true, true, false), (143, true, true, false), (144, true, false, false), (145, true, false, false), (146, true, true, false), (174, true, true, false), (175, true, false, false), (176, true, true, false), (213, true, true, false), (214, true, false, false), (215, true, true, false), (216, true, false, false), (217, true, true, false), (239, true, false, false), (240, true, false, false), (241, true, true, false), (242, true, true, false), (243, true, false, false), (257, true, false, false)]
def tls : List Nat := [217]
def sgs : List (Nat × Bool) := [(0, false), (1, false), (2, false), (3, false), (4, false), (5, false), (6, false), (7, false), (8, false), (9, false), (10, false), (11, false), (12, false), (13, false), (14, false), (15, false), (16, true), (17, false), (18, false), (19, false), (20, false), (21, false), (22, true), (23, true), (24, true), (25, true), (26, false), (27, false), (30, false), (31, true), (32, true), (33, false), (35, false), (36, false), (37, false), (38, false), (39, true), (40, false), (41, false), (42, true), (43, true), (44, true), (45, false), (48, false), (49, true), (50, true), (51, false), (52, false), (53, false), (54, true), (55, false), (56, false), (57, false), (58, true), (59, true), (60, true), (61, false), (63, true), (64, true), (65, false), (66, false), (67, true), (68, true), (69, true), (70, false), (72, true), (73, true), (74, false), (76, false), (77, false), (78, false), (79, false), (80, true), (81, false), (82, true), (83, false), (84, true), (85, false), (86, false), (87, true), (88, true), (89, true), (90, true), (92, false), (96, false), (97, false), (98, false), (99, false), (100, false), (101, false), (102, false), (103, true), (104, true), (105, true), (106, true), (107, true), (108, true), (109, true), (110, true), (111, false), (112, true), (113, false), (114, false), (115, false), (116, false), (119, false), (120, false), (121, false), (122, true), (123, false), (124, false), (125, true), (126, false), (127, true), (128, false), (129, false), (131, false), (132, false), (133, false), (134, false), (135, false), (136, true), (137, false), (138, false), (139, false), (140, true), (141, false), (142, false), (147, false), (148, false), (149, false), (150, false), (151, false), (152, false), (153, false), (154, false), (157, false), (158, false), (159, false), (160, false), (161, false), (162, true), (163, false), (164, false), (165, false), (166, true), (167, true), (168, false), (169, true), (170, false), (171, true), (172, false), (173, false), (177, false), (178, false), (179, true), (180, false), (181, false), (182, false), (183, true), (184, false), (185, false), (186, false), (187, false), (188, false), (189, false), (190, false), (191, false), (192, false), (193, false), (194, false), (195, false), (196, false), (197, false), (198, true), (199, false), (200, false), (201, false), (202, true), (203, false), (204, false), (205, false), (206, false), (207, false), (208, false), (209, false), (210, false), (211, false), (218, false), (219, false), (220, false), (221, false), (222, false), (223, false), (224, false), (225, false), (226, false), (227, false), (228, false), (229, false), (230, false), (231, true), (232, false), (233, true), (234, false), (235, false), (236, false), (237, false), (238, false), (244, false), (245, false), (246, false), (247, false), (248, false), (250, false), (251, true), (252, false), (253, false), (254, false), (255, false), (256, false), (258, false), (259, false), (260, false), (261, false), (262, false), (263, false), (264, false), (265, false), (266, false), (267, false), (268, false), (269, false), (270, false), (271, false), (272, false), (273, false), (274, false), (275, false)]
def i7 : Comp := ⟨(.seq (.ops [s 3 (.box 9 (t 1)),
  s 4 (.mv (c (.bool false)))])
 (.seq (.ops [s 5 (.mv (c (i 1048576)))])
 (.seq (.ops [s 17 (.mv (t 0)),
  s 18 (.mv (t 5)),
  k 19 14 [(t 17), (t 18)] .sc,
  s 5 (.mv (t 19))])
 (.seq (.seq (.ops [s 20 (.mv (t 5)),
  s 21 (.bin .lss (t 20) (c (i 0)))])
 (.cond (t 21) (.seq (.ops [s 4 (.mv (c (.bool true)))])
 .ret) .skip))
 (.seq (.ops [s 22 (.ldB 3 0 9 true false),
  s 23 (.mv (t 5)),
  k 24 41 [(t 22), (t 23)] .sc,
  s 5 (.mv (t 24))])
 (.seq (.seq (.ops [s 25 (.mv (t 5)),
  s 26 (.bin .lss (t 25) (c (i 0)))])
 (.cond (t 26) (.seq (.ops [s 4 (.mv (c (.bool true)))])
 .ret) .skip))
 (.seq (.ops [s 28 (.mv (t 0)),
  k 29 16 [(t 28)] .lin,
  s 30 (.ldB 3 0 9 true false),
  k 31 43 [(t 30)] .lin,
  k 32 42 [(t 29), (t 31)] .tup,
  s 27 (.mv (t 32)),
  s 33 (.ext 27 0 false),
  s 34 (.ext 27 1 true),
  s 6 (.mv (t 33)),
  s 7 (.mv (t 34))])
 (.seq (.ops [s 35 (.mv (t 0)),
  k 36 16 [(t 35)] .lin,
  s 8 (.mv (t 36))])
 (.seq (.ops [s 37 (.ldB 3 0 9 true false),
  k 38 43 [(t 37)] .lin,
  s 9 (.alc [(i 0), (i 0), (i 0), (i 0), (.str (bs [])), (.lst 2 true []), (i 0), (i 0), (i 0)]),
  s 9 (.stB 9 0 9 (t 38) false)])
 (.seq (.ops [s 40 (.mv (t 8)),
  s 41 (.ldB 9 0 9 true false),
  k 42 44 [(t 40), (t 41)] .tup,
  s 39 (.mv (t 42)),
  s 43 (.ext 39 0 false),
  s 44 (.ext 39 1 true),
  s 10 (.mv (t 43)),
  s 11 (.mv (t 44))])
 (.seq (.seq (.ops [s 45 (.mv (t 10)),
  s 46 (.mv (t 6)),
  k 47 19 [(t 45), (t 46)] .sc,
  s 48 (.not (t 47)),
  s 49 (.mv (t 48)),
  sg [(49, false)] 50 (.mv (t 11)),
  sg [(49, false)] 51 (.mv (t 7)),
  sg [(49, false)] 52 (.beq true (t 50) (t 51)),
  s 53 (.pick (t 49) (c (.bool true)) (t 52))])
 (.cond (t 53) (.seq (.ops [s 4 (.mv (c (.bool false)))])
 .ret) .skip))
 (.seq (.seq (.ops [s 54 (.mv (t 8)),
  s 55 (.mv (t 0)),
  k 56 16 [(t 55)] .lin,
  k 57 19 [(t 54), (t 56)] .sc,
  s 58 (.not (t 57))])
 (.cond (t 58) (.seq (.ops [s 4 (.mv (c (.bool false)))])
 .ret) .skip))
 (.seq (.seq (.ops [s 59 (.ldB 9 0 9 true false),
  s 60 (.ldB 3 0 9 true false),
  k 61 43 [(t 60)] .lin,
  k 62 45 [(t 59), (t 61)] .sc,
  s 63 (.not (t 62))])
 (.cond (t 63) (.seq (.ops [s 4 (.mv (c (.bool false)))])
 .ret) .skip))
 (.seq (.ops [s 12 (.mv (c (i 1)))])
 (.seq (.seq (.ops [s 64 (.mv (t 8)),
  s 65 (.mv (t 12))])
 (.seq (opM 66 46 8 [(t 65)])
 (.ops [s 12 (.mv (t 66))])))
 (.seq (.seq (.ops [s 67 (.ldB 9 0 9 true false),
  s 68 (.mv (t 12))])
 (.seq (opB 69 47 9 9 [(t 68)])
 (.ops [s 12 (.mv (t 69))])))
 (.seq (.seq (.ops [s 70 (.mv (t 12)),
  s 71 (.bin .lss (t 70) (c (i 0))),
  s 72 (.mv (t 71)),
  sg [(72, false)] 73 (.mv (t 10)),
  sg [(72, false)] 74 (.mv (t 6)),
  kg [(72, false)] 75 19 [(t 73), (t 74)] .sc,
  sg [(72, false)] 76 (.not (t 75)),
  s 77 (.pick (t 72) (c (.bool true)) (t 76)),
  s 78 (.mv (t 77)),
  sg [(78, false)] 79 (.mv (t 11)),
  sg [(78, false)] 80 (.mv (t 7)),
  sg [(78, false)] 81 (.beq true (t 79) (t 80)),
  s 82 (.pick (t 78) (c (.bool true)) (t 81))])
 (.cond (t 82) (.seq (.ops [s 4 (.mv (c (.bool false)))])
 .ret) .skip))
 (.seq (.ops [s 13 (.mv (c (i 1)))])
 (.seq (.seq (.ops [s 83 (.mv (t 10)),
  s 84 (.mv (t 13))])
 (.seq (opM 85 46 10 [(t 84)])
 (.ops [s 13 (.mv (t 85))])))
 (.seq (.ops [s 14 (.mv (c (i 1)))])
 (.seq (.ops [s 86 (.mv (t 10)),
  s 87 (.mv (t 14)),
  k 88 48 [(t 86), (t 87)] .sc,
  s 14 (.mv (t 88))])
 (.seq (.seq (.ops [s 89 (.mv (t 14)),
  s 90 (.bin .lss (t 89) (c (i 0)))])
 (.cond (t 90) (.seq (.ops [s 4 (.mv (c (.bool false)))])
 .ret) .skip))
 (.seq (.seq (.ops [s 91 (.mv (t 14)),
  s 92 (.mv (t 13)),
  s 93 (.bin .neq (t 91) (t 92))])
 (.cond (t 93) (.seq (.ops [s 4 (.mv (c (.bool false)))])
 .ret) .skip))
 (.seq (.ops [s 95 (.mv (t 0)),
  k 96 16 [(t 95)] .lin,
  s 97 (.ldB 3 0 9 true false),
  k 98 43 [(t 97)] .lin,
  k 99 44 [(t 96), (t 98)] .tup,
  s 94 (.mv (t 99)),
  s 100 (.ext 94 0 false),
  s 101 (.ext 94 1 true),
  s 15 (.mv (t 100)),
  s 16 (.mv (t 101))])
 (.seq (.seq (.ops [s 102 (.mv (t 15)),
  s 103 (.mv (t 6)),
  k 104 19 [(t 102), (t 103)] .sc,
  s 105 (.not (t 104)),
  s 106 (.mv (t 105)),
  sg [(106, false)] 107 (.mv (t 16)),
  sg [(106, false)] 108 (.mv (t 7)),
  sg [(106, false)] 109 (.beq true (t 107) (t 108)),
  s 110 (.pick (t 106) (c (.bool true)) (t 109))])
 (.cond (t 110) (.seq (.ops [s 4 (.mv (c (.bool false)))])
 .ret) .skip))
 (.seq (.ops [s 14 (.mv (c (i 1)))])
 (.seq (.ops [s 111 (.mv (t 10)),
  s 112 (.mv (t 14)),
  k 113 48 [(t 111), (t 112)] .sc,
  s 14 (.mv (t 113))])
 (.seq (.seq (.ops [s 114 (.mv (t 14)),
  s 115 (.bin .lss (t 114) (c (i 0)))])
 (.cond (t 115) (.seq (.ops [s 4 (.mv (c (.bool false)))])
 .ret) .skip))
 (.seq (.seq (.ops [s 116 (.mv (t 14)),
  s 117 (.mv (t 13)),
  s 118 (.bin .neq (t 116) (t 117))])
 (.cond (t 118) (.seq (.ops [s 4 (.mv (c (.bool false)))])
 .ret) .skip))
 (.seq (.ops [s 4 (.mv (c (.bool true)))])
 .ret)))))))))))))))))))))))))))))), none, [4], [false, false]⟩
def i8 : Comp := ⟨(.seq (.ops [s 3 (.box 9 (t 1)),
  s 4 (.mv (c (.bool false)))])
 (.seq (.ops [s 5 (.mv (c (i 1048576)))])
 (.seq (.ops [s 17 (.mv (t 0)),
  s 18 (.mv (t 5)),
  k 19 14 [(t 17), (t 18)] .sc,
  s 5 (.mv (t 19))])
 (.seq (.seq (.ops [s 20 (.mv (t 5)),
  s 21 (.bin .lss (t 20) (c (i 0)))])
 (.cond (t 21) (.seq (.ops [s 4 (.mv (c (.bool true)))])
 .ret) .skip))
 (.seq (.ops [s 22 (.ldB 3 0 9 true false),
  s 23 (.mv (t 5)),
  k 24 41 [(t 22), (t 23)] .sc,
  s 5 (.mv (t 24))])
 (.seq (.seq (.ops [s 25 (.mv (t 5)),
  s 26 (.bin .lss (t 25) (c (i 0)))])
 (.cond (t 26) (.seq (.ops [s 4 (.mv (c (.bool true)))])
 .ret) .skip))
 (.seq (.ops [s 28 (.mv (t 0)),
  k 29 16 [(t 28)] .lin,
  s 30 (.ldB 3 0 9 true false),
  k 31 43 [(t 30)] .lin,
  k 32 49 [(t 29), (t 31)] .tup,
  s 27 (.mv (t 32)),
  s 33 (.ext 27 0 false),
  s 34 (.ext 27 1 true),
  s 6 (.alc [(i 0), (i 0), (i 0), (i 0), (.str (bs [])), (.lst 2 true []), (i 0), (i 0), (i 0)]),
  s 6 (.stB 6 0 9 (t 33) false),
  s 7 (.mv (t 34))])
 (.seq (.ops [s 35 (.mv (t 0)),
  k 36 16 [(t 35)] .lin,
  s 8 (.mv (t 36))])
 (.seq (.ops [s 37 (.ldB 3 0 9 true false),
  k 38 43 [(t 37)] .lin,
  s 9 (.alc [(i 0), (i 0), (i 0), (i 0), (.str (bs [])), (.lst 2 true []), (i 0), (i 0), (i 0)]),
  s 9 (.stB 9 0 9 (t 38) false)])
 (.seq (.ops [s 40 (.mv (t 8)),
  s 41 (.ldB 9 0 9 true false),
  k 42 50 [(t 40), (t 41)] .tup,
  s 39 (.mv (t 42)),
  s 43 (.ext 39 0 false),
  s 44 (.ext 39 1 true),
  s 10 (.alc [(i 0), (i 0), (i 0), (i 0), (.str (bs [])), (.lst 2 true []), (i 0), (i 0), (i 0)]),
  s 10 (.stB 10 0 9 (t 43) false),
  s 11 (.mv (t 44))])
 (.seq (.seq (.ops [s 45 (.ldB 10 0 9 true false),
  s 46 (.ldB 6 0 9 true false),
  k 47 45 [(t 45), (t 46)] .sc,
  s 48 (.not (t 47)),
  s 49 (.mv (t 48)),
  sg [(49, false)] 50 (.mv (t 11)),
  sg [(49, false)] 51 (.mv (t 7)),
  sg [(49, false)] 52 (.beq true (t 50) (t 51)),
  s 53 (.pick (t 49) (c (.bool true)) (t 52))])
 (.cond (t 53) (.seq (.ops [s 4 (.mv (c (.bool false)))])
 .ret) .skip))
 (.seq (.seq (.ops [s 54 (.mv (t 8)),
  s 55 (.mv (t 0)),
  k 56 16 [(t 55)] .lin,
  k 57 19 [(t 54), (t 56)] .sc,
  s 58 (.not (t 57))])
 (.cond (t 58) (.seq (.ops [s 4 (.mv (c (.bool false)))])
 .ret) .skip))
 (.seq (.seq (.ops [s 59 (.ldB 9 0 9 true false),
  s 60 (.ldB 3 0 9 true false),
  k 61 43 [(t 60)] .lin,
  k 62 45 [(t 59), (t 61)] .sc,
  s 63 (.not (t 62))])
 (.cond (t 63) (.seq (.ops [s 4 (.mv (c (.bool false)))])
 .ret) .skip))
 (.seq (.ops [s 12 (.mv (c (i 1)))])
 (.seq (.seq (.ops [s 64 (.mv (t 8)),
  s 65 (.mv (t 12))])
 (.seq (opM 66 46 8 [(t 65)])
 (.ops [s 12 (.mv (t 66))])))
 (.seq (.seq (.ops [s 67 (.ldB 9 0 9 true false),
  s 68 (.mv (t 12))])
 (.seq (opB 69 47 9 9 [(t 68)])
 (.ops [s 12 (.mv (t 69))])))
 (.seq (.seq (.ops [s 70 (.mv (t 12)),
  s 71 (.bin .lss (t 70) (c (i 0))),
  s 72 (.mv (t 71)),
  sg [(72, false)] 73 (.ldB 10 0 9 true false),
  sg [(72, false)] 74 (.ldB 6 0 9 true false),
  kg [(72, false)] 75 45 [(t 73), (t 74)] .sc,
  sg [(72, false)] 76 (.not (t 75)),
  s 77 (.pick (t 72) (c (.bool true)) (t 76)),
  s 78 (.mv (t 77)),
  sg [(78, false)] 79 (.mv (t 11)),
  sg [(78, false)] 80 (.mv (t 7)),
  sg [(78, false)] 81 (.beq true (t 79) (t 80)),
  s 82 (.pick (t 78) (c (.bool true)) (t 81))])
 (.cond (t 82) (.seq (.ops [s 4 (.mv (c (.bool false)))])
 .ret) .skip))
 (.seq (.ops [s 13 (.mv (c (i 1)))])
 (.seq (.seq (.ops [s 83 (.ldB 10 0 9 true false),
  s 84 (.mv (t 13))])
 (.seq (opB 85 47 10 9 [(t 84)])
 (.ops [s 13 (.mv (t 85))])))
 (.seq (.ops [s 14 (.mv (c (i 1)))])
 (.seq (.ops [s 86 (.ldB 10 0 9 true false),
  s 87 (.mv (t 14)),
  k 88 51 [(t 86), (t 87)] .sc,
  s 14 (.mv (t 88))])
 (.seq (.seq (.ops [s 89 (.mv (t 14)),
  s 90 (.bin .lss (t 89) (c (i 0)))])
 (.cond (t 90) (.seq (.ops [s 4 (.mv (c (.bool false)))])
 .ret) .skip))
 (.seq (.seq (.ops [s 91 (.mv (t 14)),
  s 92 (.mv (t 13)),
  s 93 (.bin .neq (t 91) (t 92))])
 (.cond (t 93) (.seq (.ops [s 4 (.mv (c (.bool false)))])
 .ret) .skip))
 (.seq (.ops [s 95 (.mv (t 0)),
  k 96 16 [(t 95)] .lin,
  s 97 (.ldB 3 0 9 true false),
  k 98 43 [(t 97)] .lin,
  k 99 50 [(t 96), (t 98)] .tup,
  s 94 (.mv (t 99)),
  s 100 (.ext 94 0 false),
  s 101 (.ext 94 1 true),
  s 15 (.alc [(i 0), (i 0), (i 0), (i 0), (.str (bs [])), (.lst 2 true []), (i 0), (i 0), (i 0)]),
  s 15 (.stB 15 0 9 (t 100) false),
  s 16 (.mv (t 101))])
 (.seq (.seq (.ops [s 102 (.ldB 15 0 9 true false),
  s 103 (.ldB 6 0 9 true false),
  k 104 45 [(t 102), (t 103)] .sc,
  s 105 (.not (t 104)),
  s 106 (.mv (t 105)),
  sg [(106, false)] 107 (.mv (t 16)),
  sg [(106, false)] 108 (.mv (t 7)),
  sg [(106, false)] 109 (.beq true (t 107) (t 108)),
  s 110 (.pick (t 106) (c (.bool true)) (t 109))])
 (.cond (t 110) (.seq (.ops [s 4 (.mv (c (.bool false)))])
 .ret) .skip))
 (.seq (.ops [s 14 (.mv (c (i 1)))])
 (.seq (.ops [s 111 (.ldB 10 0 9 true false),
  s 112 (.mv (t 14)),
  k 113 51 [(t 111), (t 112)] .sc,
  s 14 (.mv (t 113))])
 (.seq (.seq (.ops [s 114 (.mv (t 14)),
  s 115 (.bin .lss (t 114) (c (i 0)))])
 (.cond (t 115) (.seq (.ops [s 4 (.mv (c (.bool false)))])
 .ret) .skip))
 (.seq (.seq (.ops [s 116 (.mv (t 14)),
  s 117 (.mv (t 13)),
  s 118 (.bin .neq (t 116) (t 117))])
 (.cond (t 118) (.seq (.ops [s 4 (.mv (c (.bool false)))])
 .ret) .skip))
 (.seq (.ops [s 4 (.mv (c (.bool true)))])
 .ret)))))))))))))))))))))))))))))), none, [4], [false, false]⟩
def i14 : Comp := ⟨(.seq (.ops [s 4 (.mv (c (i 0)))])
 (.seq (.ops [s 6 (.mv (t 1)),
  s 7 (.mv (t 0)),
  s 8 (.len false (t 7)),
  s 9 (.bin .sub (t 6) (t 8)),
  s 1 (.mv (t 9))])
 (.seq (.seq (.ops [s 10 (.mv (t 1)),
  s 11 (.bin .lss (t 10) (c (i 0)))])
 (.cond (t 11) (.seq (.ops [s 4 (.mv (c (i (-1))))])
 .ret) .skip))
 (.seq (.seq (.ops [s 5 (.mv (c (i 0)))])
 (.block 0 (.loop (.seq (.seq (.ops [s 12 (.mv (t 5)),
  s 13 (.mv (t 0)),
  s 14 (.len false (t 13)),
  s 15 (.bin .lss (t 12) (t 14))])
 (.cond (t 15) .skip (.exit 0)))
 (.seq (.block 1 (.seq (.ops [s 18 (.mv (t 0)),
  s 19 (.mv (t 5)),
  s 20 (.idx (t 18) (t 19) 5),
  s 21 (.ldE 18 20 0 5 true false 5),
  s 22 (.mv (t 1)),
  k 23 77 [(t 21), (t 22)] .sc,
  s 1 (.mv (t 23))])
 (.seq (.ops [s 24 (.mv (t 1)),
  s 25 (.bin .lss (t 24) (c (i 0)))])
 (.cond (t 25) (.seq (.ops [s 4 (.mv (c (i (-1))))])
 .ret) .skip))))
 (.ops [s 16 (.mv (t 5)),
  s 17 (.bin .add (t 16) (c (i 1))),
  s 5 (.mv (t 17))]))))))
 (.seq (.ops [s 26 (.mv (t 1)),
  s 4 (.mv (t 26))])
 .ret))))), none, [4], [false, true]⟩
def i16 : Comp := ⟨(.seq (.ops [s 2 (.mv (c (.lst 5 true [])))])
 (.seq (.ops [s 5 (.mv (t 0)),
  s 6 (.len false (t 5)),
  s 7 (.mks 5 64 [(i 0), (i 0), (i 0), (.str (bs [])), (.lst 2 true [])] (t 6)),
  s 3 (.mv (t 7))])
 (.seq (.seq (.ops [s 4 (.mv (c (i 0)))])
 (.block 0 (.loop (.seq (.seq (.ops [s 8 (.mv (t 4)),
  s 9 (.mv (t 0)),
  s 10 (.len false (t 9)),
  s 11 (.bin .lss (t 8) (t 10))])
 (.cond (t 11) .skip (.exit 0)))
 (.seq (.block 1 (.ops [s 14 (.mv (c .junk)),
  s 15 (.mv (t 4)),
  s 16 (.mv (t 0)),
  s 17 (.mv (t 4)),
  s 18 (.idx (t 16) (t 17) 5),
  s 19 (.ldE 16 18 0 5 true false 5),
  k 20 82 [(t 19)] .lin,
  s 21 (.idx (t 3) (t 15) 5),
  s 3 (.stF 3 21 5 (t 20))]))
 (.ops [s 12 (.mv (t 4)),
  s 13 (.bin .add (t 12) (c (i 1))),
  s 4 (.mv (t 13))]))))))
 (.seq (.ops [s 22 (.mv (c .junk)),
  s 2 (.mv (t 3))])
 .ret)))), none, [2], [false]⟩
def i17 : Comp := ⟨(.seq (.ops [s 1 (.box 2 (t 0)),
  s 2 (.alc [(i 0), (i 0)])])
 (.seq (.ops [s 3 (.alc [(i 0), (i 0)])])
 (.seq (.ops [s 4 (.mv (c (i 0))),
  s 5 (.ldB 1 0 1 false true),
  s 6 (.mv (c (i 0))),
  s 3 (.stB 3 0 1 (t 5) false)])
 (.seq (.ops [s 7 (.mv (c (i 0))),
  s 8 (.ldB 1 1 1 false true),
  s 9 (.mv (c (i 0))),
  s 3 (.stB 3 1 1 (t 8) false)])
 (.seq (.ops [s 10 (.ldB 3 0 2 true true),
  s 2 (.stB 2 0 2 (t 10) false)])
 .ret))))), (some ⟨2, 30, 2, true⟩), [], [true]⟩
def i19 : Comp := ⟨(.seq (.ops [s 4 (.mv (c (.bool false)))])
 (.seq (.seq (.ops [s 6 (.mv (t 0)),
  s 7 (.len false (t 6)),
  s 8 (.mv (t 1)),
  s 9 (.len false (t 8)),
  s 10 (.bin .neq (t 7) (t 9))])
 (.cond (t 10) (.seq (.ops [s 4 (.mv (c (.bool false)))])
 .ret) .skip))
 (.seq (.seq (.ops [s 5 (.mv (c (i 0)))])
 (.block 0 (.loop (.seq (.seq (.ops [s 11 (.mv (t 5)),
  s 12 (.mv (t 0)),
  s 13 (.len false (t 12)),
  s 14 (.bin .lss (t 11) (t 13))])
 (.cond (t 14) .skip (.exit 0)))
 (.seq (.block 1 (.seq (.ops [s 17 (.mv (t 0)),
  s 18 (.mv (t 5)),
  s 19 (.idx (t 17) (t 18) 5),
  s 20 (.ldE 17 19 0 5 true false 5),
  s 21 (.mv (t 1)),
  s 22 (.mv (t 5)),
  s 23 (.idx (t 21) (t 22) 5),
  s 24 (.ldE 21 23 0 5 true false 5),
  k 25 85 [(t 20), (t 24)] .sc,
  s 26 (.not (t 25))])
 (.cond (t 26) (.seq (.ops [s 4 (.mv (c (.bool false)))])
 .ret) .skip)))
 (.ops [s 15 (.mv (t 5)),
  s 16 (.bin .add (t 15) (c (i 1))),
  s 5 (.mv (t 16))]))))))
 (.seq (.ops [s 4 (.mv (c (.bool true)))])
 .ret)))), none, [4], [false, false]⟩
def i40 : Comp := ⟨(.seq (.ops [s 2 (.mv (c (.bool false)))])
 (.seq (.seq (.ops [s 5 (.mv (t 0)),
  s 6 (.len false (t 5)),
  s 7 (.bin .gtr (t 6) (c (i 16)))])
 (.cond (t 7) (.seq (.ops [s 2 (.mv (c (.bool false)))])
 .ret) .skip))
 (.seq (.seq (.ops [s 8 (.mv (t 0)),
  s 9 (.len false (t 8)),
  s 10 (.mv (c (i 0)))])
 (.block 0 (.loop (.seq (.ops [s 11 (.bin .lss (t 10) (t 9))])
 (.seq (.cond (t 11) .skip (.exit 0))
 (.seq (.block 1 (.seq (.ops [s 12 (.mv (t 10)),
  s 13 (.idx (t 8) (t 10) 5),
  s 14 (.ldE 8 13 0 5 true false 5),
  s 4 (.alc [(i 0), (i 0), (i 0), (.str (bs [])), (.lst 2 true [])]),
  s 3 (.mv (t 12)),
  s 4 (.stB 4 0 5 (t 14) false)])
 (.seq (.ops [s 15 (.ldB 4 0 5 true false),
  k 16 96 [(t 15)] .sc,
  s 17 (.not (t 16)),
  s 18 (.mv (t 17)),
  sg [(18, false)] 19 (.mv (t 3)),
  sg [(18, false)] 20 (.bin .gtr (t 19) (c (i 0))),
  sg [(18, false)] 21 (.mv (t 20)),
  sg [(21, true), (18, false)] 22 (.mv (c (i 0))),
  sg [(21, true), (18, false)] 23 (.ldB 4 0 1 false true),
  sg [(21, true), (18, false)] 24 (.mv (t 0)),
  sg [(21, true), (18, false)] 25 (.mv (t 3)),
  sg [(21, true), (18, false)] 26 (.bin .sub (t 25) (c (i 1))),
  sg [(21, true), (18, false)] 27 (.idx (t 24) (t 26) 5),
  sg [(21, true), (18, false)] 28 (.mv (t 27)),
  sg [(21, true), (18, false)] 29 (.ldE 24 28 0 1 false true 5),
  sg [(21, true), (18, false)] 30 (.bin .leq (t 23) (t 29)),
  sg [(18, false)] 31 (.pick (t 21) (t 30) (c (.bool false))),
  s 32 (.pick (t 18) (c (.bool true)) (t 31))])
 (.cond (t 32) (.seq (.ops [s 2 (.mv (c (.bool false)))])
 .ret) .skip))))
 (.ops [s 33 (.bin .add (t 10) (c (i 1))),
  s 10 (.mv (t 33))])))))))
 (.seq (.ops [s 2 (.mv (c (.bool true)))])
 .ret)))), none, [2], [false]⟩
def i41 : Comp := ⟨(.seq (.ops [s 2 (.box 9 (t 0)),
  s 4 (.mv (c (i 0)))])
 (.seq (.ops [s 5 (.mv (c (i 0))),
  s 6 (.ldB 2 1 5 true false),
  s 7 (.mv (t 1)),
  k 8 77 [(t 6), (t 7)] .sc,
  s 1 (.mv (t 8))])
 (.seq (.seq (.ops [s 9 (.mv (t 1)),
  s 10 (.bin .lss (t 9) (c (i 0)))])
 (.cond (t 10) (.seq (.ops [s 4 (.mv (c (i (-1))))])
 .ret) .skip))
 (.seq (.ops [s 11 (.mv (t 1)),
  s 4 (.mv (t 11))])
 .ret)))), none, [4], [false, true]⟩
def i42 : Comp := ⟨(.seq (.ops [s 3 (.box 9 (t 1)),
  s 4 (.mv (c (.lst 5 true []))),
  s 5 (.mv (c (.bool false)))])
 (.seq (.ops [s 8 (.mv (t 0)),
  k 9 103 [(t 8)] .lin,
  s 6 (.mv (t 9))])
 (.seq (.ops [s 7 (.mv (c (.bool false)))])
 (.seq (.seq (.ops [s 10 (.mv (c (i 0))),
  s 11 (.ldB 3 0 1 false true)])
 (.block 0 (.seq (.ops [s 13 (.bin .eql (t 11) (c (i 1))),
  s 12 (.mv (t 13))])
 (.cond (t 12) (.ops [s 15 (.mv (t 0)),
  s 16 (.mv (c (i 0))),
  s 17 (.ldB 3 1 5 true false),
  k 18 104 [(t 15), (t 17)] .tup,
  s 14 (.mv (t 18)),
  s 19 (.ext 14 0 false),
  s 20 (.ext 14 1 true),
  s 6 (.mv (t 19)),
  s 7 (.mv (t 20))]) (.seq (.ops [s 22 (.bin .eql (t 11) (c (i 2))),
  s 21 (.mv (t 22))])
 (.cond (t 21) (.ops [s 24 (.mv (t 0)),
  s 25 (.mv (c (i 0))),
  s 26 (.ldB 3 6 1 false true),
  k 27 105 [(t 24), (t 26)] .tup,
  s 23 (.mv (t 27)),
  s 28 (.ext 23 0 false),
  s 29 (.ext 23 1 true),
  s 6 (.mv (t 28)),
  s 7 (.mv (t 29))]) (.seq (.ops [s 31 (.bin .eql (t 11) (c (i 3))),
  s 30 (.mv (t 31))])
 (.cond (t 30) (.ops [s 33 (.mv (t 0)),
  s 34 (.ldB 3 0 9 true false),
  k 35 106 [(t 33), (t 34)] .tup,
  s 32 (.mv (t 35)),
  s 36 (.ext 32 0 false),
  s 37 (.ext 32 1 true),
  s 6 (.mv (t 36)),
  s 7 (.mv (t 37))]) .skip))))))))
 (.seq (.seq (.ops [s 38 (.mv (t 7)),
  s 39 (.not (t 38)),
  s 40 (.mv (t 39)),
  sg [(40, false)] 41 (.mv (t 6)),
  kg [(40, false)] 42 78 [(t 41)] .sc,
  sg [(40, false)] 43 (.not (t 42)),
  s 44 (.pick (t 40) (c (.bool true)) (t 43))])
 (.cond (t 44) (.seq (.ops [s 45 (.mv (t 0)),
  k 46 103 [(t 45)] .lin,
  s 4 (.mv (t 46)),
  s 5 (.mv (c (.bool false)))])
 .ret) .skip))
 (.seq (.ops [s 47 (.mv (t 6)),
  s 4 (.mv (t 47)),
  s 5 (.mv (c (.bool true)))])
 .ret)))))), none, [4, 5], [false, false]⟩
def i43 : Comp := ⟨(.seq (.ops [s 1 (.box 9 (t 0)),
  s 2 (.alc [(i 0), (i 0), (i 0), (i 0), (.str (bs [])), (.lst 2 true []), (i 0), (i 0), (i 0)])])
 (.seq (.ops [s 3 (.alc [(i 0), (i 0), (i 0), (i 0), (.str (bs [])), (.lst 2 true []), (i 0), (i 0), (i 0)])])
 (.seq (.ops [s 4 (.mv (c (i 0))),
  s 5 (.ldB 1 0 1 false true),
  s 6 (.mv (c (i 0))),
  s 3 (.stB 3 0 1 (t 5) false)])
 (.seq (.ops [s 7 (.mv (c (i 0))),
  s 8 (.ldB 1 1 5 true false),
  k 9 82 [(t 8)] .lin,
  s 10 (.mv (c (i 0))),
  s 3 (.stB 3 1 5 (t 9) false)])
 (.seq (.ops [s 11 (.mv (c (i 0))),
  s 12 (.ldB 1 6 1 false true),
  s 13 (.mv (c (i 0))),
  s 3 (.stB 3 6 1 (t 12) false)])
 (.seq (.ops [s 14 (.mv (c (i 0))),
  s 15 (.ldB 1 7 1 false true),
  s 16 (.mv (c (i 0))),
  s 3 (.stB 3 7 1 (t 15) false)])
 (.seq (.ops [s 17 (.mv (c (i 0))),
  s 18 (.ldB 1 8 1 false true),
  s 19 (.mv (c (i 0))),
  s 3 (.stB 3 8 1 (t 18) false)])
 (.seq (.ops [s 20 (.ldB 3 0 9 true false),
  s 2 (.stB 2 0 9 (t 20) false)])
 .ret)))))))), (some ⟨2, 71, 9, true⟩), [], [false]⟩
def i44 : Comp := ⟨(.seq (.ops [s 3 (.box 9 (t 1)),
  s 4 (.mv (c (.lst 5 true []))),
  s 5 (.mv (c (.bool false)))])
 (.seq (.seq (.ops [s 8 (.mv (c (i 0))),
  s 9 (.ldB 3 0 1 false true)])
 (.block 0 (.seq (.ops [s 11 (.bin .eql (t 9) (c (i 1))),
  s 10 (.mv (t 11))])
 (.cond (t 10) (.seq (.ops [s 12 (.mv (t 0)),
  s 13 (.mv (c (i 0))),
  s 14 (.ldB 3 1 5 true false),
  k 15 107 [(t 12), (t 14)] .tup,
  s 16 (.ext 15 0 false),
  s 17 (.ext 15 1 true),
  s 4 (.mv (t 16)),
  s 5 (.mv (t 17))])
 .ret) (.seq (.ops [s 19 (.bin .eql (t 9) (c (i 2))),
  s 18 (.mv (t 19))])
 (.cond (t 18) (.seq (.ops [s 20 (.mv (t 0)),
  s 21 (.mv (c (i 0))),
  s 22 (.ldB 3 6 1 false true),
  k 23 108 [(t 20), (t 22)] .tup,
  s 24 (.ext 23 0 false),
  s 25 (.ext 23 1 true),
  s 4 (.mv (t 24)),
  s 5 (.mv (t 25))])
 .ret) (.seq (.ops [s 27 (.bin .eql (t 9) (c (i 3))),
  s 26 (.mv (t 27))])
 (.cond (t 26) (.seq (.ops [s 29 (.mv (t 0)),
  s 30 (.ldB 3 0 9 true false),
  k 31 109 [(t 29), (t 30)] .tup,
  s 28 (.mv (t 31)),
  s 32 (.ext 28 0 false),
  s 33 (.ext 28 1 true),
  s 6 (.mv (t 32)),
  s 7 (.mv (t 33))])
 (.seq (.ops [s 34 (.mv (t 7))])
 (.cond (t 34) (.seq (.ops [s 35 (.mv (t 6)),
  s 4 (.mv (t 35)),
  s 5 (.mv (c (.bool true)))])
 .ret) .skip))) .skip))))))))
 (.seq (.ops [s 36 (.mv (t 0)),
  k 37 110 [(t 36)] .lin,
  s 4 (.mv (t 37)),
  s 5 (.mv (c (.bool false)))])
 .ret))), none, [4, 5], [false, false]⟩
def i45 : Comp := ⟨(.seq (.ops [s 2 (.box 9 (t 0)),
  s 3 (.box 9 (t 1)),
  s 4 (.mv (c (.bool false)))])
 (.seq (.seq (.ops [s 5 (.mv (c (i 0))),
  s 6 (.ldB 2 0 1 false true),
  s 7 (.mv (c (i 0))),
  s 8 (.ldB 3 0 1 false true),
  s 9 (.bin .neq (t 6) (t 8))])
 (.cond (t 9) (.seq (.ops [s 4 (.mv (c (.bool false)))])
 .ret) .skip))
 (.seq (.seq (.ops [s 10 (.mv (c (i 0))),
  s 11 (.ldB 2 1 5 true false),
  s 12 (.mv (c (i 0))),
  s 13 (.ldB 3 1 5 true false),
  k 14 85 [(t 11), (t 13)] .sc,
  s 15 (.not (t 14))])
 (.cond (t 15) (.seq (.ops [s 4 (.mv (c (.bool false)))])
 .ret) .skip))
 (.seq (.seq (.ops [s 16 (.mv (c (i 0))),
  s 17 (.ldB 2 6 1 false true),
  s 18 (.mv (c (i 0))),
  s 19 (.ldB 3 6 1 false true),
  s 20 (.bin .neq (t 17) (t 19))])
 (.cond (t 20) (.seq (.ops [s 4 (.mv (c (.bool false)))])
 .ret) .skip))
 (.seq (.seq (.ops [s 21 (.mv (c (i 0))),
  s 22 (.ldB 2 7 1 false true),
  s 23 (.mv (c (i 0))),
  s 24 (.ldB 3 7 1 false true),
  s 25 (.bin .neq (t 22) (t 24))])
 (.cond (t 25) (.seq (.ops [s 4 (.mv (c (.bool false)))])
 .ret) .skip))
 (.seq (.seq (.ops [s 26 (.mv (c (i 0))),
  s 27 (.ldB 2 8 1 false true),
  s 28 (.mv (c (i 0))),
  s 29 (.ldB 3 8 1 false true),
  s 30 (.bin .neq (t 27) (t 29))])
 (.cond (t 30) (.seq (.ops [s 4 (.mv (c (.bool false)))])
 .ret) .skip))
 (.seq (.ops [s 4 (.mv (c (.bool true)))])
 .ret))))))), none, [4], [false, false]⟩
def i46 : Comp := ⟨(.seq (.ops [s 4 (.mv (c (i 0)))])
 (.seq (.seq (.ops [s 5 (.mv (c (i 0)))])
 (.block 0 (.loop (.seq (.seq (.ops [s 6 (.mv (t 5)),
  s 7 (.mv (t 0)),
  s 8 (.len false (t 7)),
  s 9 (.bin .lss (t 6) (t 8))])
 (.cond (t 9) .skip (.exit 0)))
 (.seq (.block 1 (.seq (.seq (.ops [s 12 (.mv (t 0)),
  s 13 (.mv (t 5)),
  s 14 (.mv (t 1)),
  s 15 (.idx (t 12) (t 13) 5),
  s 16 (.mv (t 15))])
 (.seq (opW 0 16 0 1 5 (t 14))
 (.ops [])))
 (.seq (.ops [s 17 (.mv (t 1)),
  s 18 (.bin .add (t 17) (c (i 1))),
  s 1 (.mv (t 18))])
 (.seq (.seq (.ops [s 19 (.mv (t 0)),
  s 20 (.mv (t 5)),
  s 21 (.mv (t 1)),
  s 22 (.idx (t 19) (t 20) 5),
  s 23 (.mv (t 22))])
 (.seq (opW 0 23 1 1 5 (t 21))
 (.ops [])))
 (.seq (.ops [s 24 (.mv (t 1)),
  s 25 (.bin .add (t 24) (c (i 1))),
  s 1 (.mv (t 25))])
 (.seq (.seq (.ops [s 26 (.mv (t 0)),
  s 27 (.mv (t 5)),
  s 28 (.mv (t 1)),
  s 29 (.idx (t 26) (t 27) 5),
  s 30 (.mv (t 29))])
 (.seq (opW 0 30 2 1 5 (t 28))
 (.ops [])))
 (.seq (.ops [s 31 (.mv (t 1)),
  s 32 (.bin .add (t 31) (c (i 1))),
  s 1 (.mv (t 32))])
 (.seq (.seq (.ops [s 33 (.mv (t 0)),
  s 34 (.mv (t 5)),
  s 35 (.mv (t 1)),
  k 36 92 [(t 35)] .sc,
  s 37 (.idx (t 33) (t 34) 5),
  s 38 (.mv (t 37))])
 (.seq (opW 0 38 3 1 5 (t 36))
 (.ops [])))
 (.seq (.ops [s 39 (.mv (t 1)),
  s 40 (.bin .add (t 39) (c (i 1))),
  s 1 (.mv (t 40))])
 (.seq (.ops [s 41 (.mv (t 0)),
  s 42 (.mv (t 5)),
  s 43 (.idx (t 41) (t 42) 5),
  s 44 (.mv (t 43)),
  s 45 (.ldE 41 44 4 1 false false 5),
  s 46 (.mv (t 1))])
 (.seq (opE 47 75 0 44 4 5 [(t 46)])
 (.ops [s 1 (.mv (t 47))]))))))))))))
 (.ops [s 10 (.mv (t 5)),
  s 11 (.bin .add (t 10) (c (i 1))),
  s 5 (.mv (t 11))]))))))
 (.seq (.ops [s 48 (.mv (t 1)),
  s 4 (.mv (t 48))])
 .ret))), none, [4], [true]⟩
def i48 : Comp := ⟨(.seq (.ops [s 4 (.mv (c (i 0)))])
 (.seq (.seq (.ops [s 5 (.mv (c (i 0)))])
 (.block 0 (.loop (.seq (.seq (.ops [s 6 (.mv (t 5)),
  s 7 (.mv (t 0)),
  s 8 (.len false (t 7)),
  s 9 (.bin .lss (t 6) (t 8))])
 (.cond (t 9) .skip (.exit 0)))
 (.seq (.block 1 (.seq (.seq (.ops [s 12 (.mv (t 0)),
  s 13 (.mv (t 5)),
  s 14 (.idx (t 12) (t 13) 5),
  s 15 (.mv (t 14)),
  s 16 (.ldE 12 15 0 1 false true 5),
  s 17 (.mv (t 1)),
  s 18 (.bin .neq (t 16) (t 17))])
 (.cond (t 18) (.seq (.ops [s 4 (.mv (c (i (-1))))])
 .ret) .skip))
 (.seq (.ops [s 19 (.mv (t 1)),
  s 20 (.bin .add (t 19) (c (i 1))),
  s 1 (.mv (t 20))])
 (.seq (.seq (.ops [s 21 (.mv (t 0)),
  s 22 (.mv (t 5)),
  s 23 (.idx (t 21) (t 22) 5),
  s 24 (.mv (t 23)),
  s 25 (.ldE 21 24 1 1 false true 5),
  s 26 (.mv (t 1)),
  s 27 (.bin .neq (t 25) (t 26))])
 (.cond (t 27) (.seq (.ops [s 4 (.mv (c (i (-1))))])
 .ret) .skip))
 (.seq (.ops [s 28 (.mv (t 1)),
  s 29 (.bin .add (t 28) (c (i 1))),
  s 1 (.mv (t 29))])
 (.seq (.seq (.ops [s 30 (.mv (t 0)),
  s 31 (.mv (t 5)),
  s 32 (.idx (t 30) (t 31) 5),
  s 33 (.mv (t 32)),
  s 34 (.ldE 30 33 2 1 false true 5),
  s 35 (.mv (t 1)),
  s 36 (.bin .neq (t 34) (t 35))])
 (.cond (t 36) (.seq (.ops [s 4 (.mv (c (i (-1))))])
 .ret) .skip))
 (.seq (.ops [s 37 (.mv (t 1)),
  s 38 (.bin .add (t 37) (c (i 1))),
  s 1 (.mv (t 38))])
 (.seq (.seq (.ops [s 39 (.mv (t 0)),
  s 40 (.mv (t 5)),
  s 41 (.idx (t 39) (t 40) 5),
  s 42 (.mv (t 41)),
  s 43 (.ldE 39 42 3 1 false true 5),
  s 44 (.mv (t 1)),
  k 45 92 [(t 44)] .sc,
  s 46 (.bin .neq (t 43) (t 45))])
 (.cond (t 46) (.seq (.ops [s 4 (.mv (c (i (-1))))])
 .ret) .skip))
 (.seq (.ops [s 47 (.mv (t 1)),
  s 48 (.bin .add (t 47) (c (i 1))),
  s 1 (.mv (t 48))])
 (.seq (.ops [s 49 (.mv (t 0)),
  s 50 (.mv (t 5)),
  s 51 (.idx (t 49) (t 50) 5),
  s 52 (.mv (t 51)),
  s 53 (.ldE 49 52 4 1 false false 5),
  s 54 (.mv (t 1)),
  k 55 76 [(t 53), (t 54)] .sc,
  s 1 (.mv (t 55))])
 (.seq (.ops [s 56 (.mv (t 1)),
  s 57 (.bin .lss (t 56) (c (i 0)))])
 (.cond (t 57) (.seq (.ops [s 4 (.mv (c (i (-1))))])
 .ret) .skip))))))))))))
 (.ops [s 10 (.mv (t 5)),
  s 11 (.bin .add (t 10) (c (i 1))),
  s 5 (.mv (t 11))]))))))
 (.seq (.ops [s 58 (.mv (t 1)),
  s 4 (.mv (t 58))])
 .ret))), none, [4], [false, true]⟩
def i49 : Comp := ⟨(.seq (.ops [s 3 (.box 9 (t 1)),
  s 4 (.alc [(i 0), (i 0), (i 0), (i 0), (.str (bs [])), (.lst 2 true []), (i 0), (i 0), (i 0)]),
  s 5 (.mv (c (.bool false)))])
 (.seq (.seq (.ops [s 11 (.mv (t 0)),
  s 12 (.ldB 3 0 9 true false),
  k 13 42 [(t 11), (t 12)] .tup,
  s 10 (.mv (t 13)),
  s 14 (.ext 10 0 false),
  s 15 (.ext 10 1 true),
  s 6 (.mv (t 14)),
  s 7 (.mv (t 15))])
 (.seq (.ops [s 16 (.mv (t 7)),
  s 17 (.not (t 16))])
 (.cond (t 17) (.seq (.ops [s 18 (.bld [(i 0), (i 0), (i 0), (i 0), (.str (bs [])), (.lst 2 true []), (i 0), (i 0), (i 0)] []),
  s 4 (.stB 4 0 9 (t 18) false),
  s 5 (.mv (c (.bool false)))])
 .ret) .skip)))
 (.seq (.ops [s 19 (.mv (c (i 0))),
  s 20 (.ldB 3 6 1 false true),
  s 8 (.mv (t 20))])
 (.seq (.seq (.ops [s 21 (.mv (c (i 0))),
  s 22 (.ldB 3 0 1 false true)])
 (.block 0 (.seq (.ops [s 24 (.bin .eql (t 22) (c (i 3))),
  s 23 (.mv (t 24))])
 (.cond (t 23) (.seq (.ops [s 25 (.mv (c (i 0))),
  s 26 (.ldB 3 6 1 false true),
  s 27 (.mv (c (i 0))),
  s 28 (.ldB 3 7 1 false true),
  s 29 (.neg (t 28)),
  s 30 (.mv (c (i 0))),
  s 31 (.ldB 3 8 1 false true),
  s 32 (.neg (t 31)),
  s 33 (.bld [(i 0), (i 0), (i 0), (i 0), (.str (bs [])), (.lst 2 true []), (i 0), (i 0), (i 0)] [(0, 1, (c (i 3))), (6, 1, (t 26)), (7, 1, (t 29)), (8, 1, (t 32))]),
  s 4 (.stB 4 0 9 (t 33) false),
  s 5 (.mv (c (.bool true)))])
 .ret) (.seq (.ops [s 35 (.bin .eql (t 22) (c (i 1))),
  s 34 (.mv (t 35))])
 (.cond (t 34) (.ops [s 36 (.mv (c (i 0))),
  s 37 (.mv (t 36)),
  s 38 (.ldB 3 1 1 false true),
  s 8 (.mv (t 38))]) .skip))))))
 (.seq (.ops [s 39 (.mv (t 0)),
  s 40 (.mv (t 8)),
  k 41 111 [(t 39), (t 40)] .sc,
  s 9 (.mv (t 41))])
 (.seq (.seq (.ops [s 42 (.mv (t 9)),
  s 43 (.bin .lss (t 42) (c (i 0)))])
 (.cond (t 43) (.seq (.ops [s 44 (.mv (t 8)),
  s 45 (.bld [(i 0), (i 0), (i 0), (i 0), (.str (bs [])), (.lst 2 true []), (i 0), (i 0), (i 0)] [(0, 1, (c (i 2))), (6, 1, (t 44))]),
  s 4 (.stB 4 0 9 (t 45) false),
  s 5 (.mv (c (.bool true)))])
 .ret) .skip))
 (.seq (.ops [s 46 (.mv (t 0)),
  s 47 (.mv (t 9)),
  s 48 (.idx (t 46) (t 47) 5),
  s 49 (.ldE 46 48 0 5 true false 5),
  k 50 112 [(t 49)] .lin,
  s 51 (.bld [(i 0), (i 0), (i 0), (i 0), (.str (bs [])), (.lst 2 true []), (i 0), (i 0), (i 0)] [(0, 1, (c (i 1))), (1, 5, (t 50))]),
  s 4 (.stB 4 0 9 (t 51) false),
  s 5 (.mv (c (.bool true)))])
 .ret))))))), (some ⟨4, 71, 9, true⟩), [5], [false, false]⟩
def i50 : Comp := ⟨(.seq (.ops [s 3 (.box 9 (t 1)),
  s 4 (.alc [(i 0), (i 0), (i 0), (i 0), (.str (bs [])), (.lst 2 true []), (i 0), (i 0), (i 0)]),
  s 5 (.mv (c (.bool false)))])
 (.seq (.seq (.ops [s 10 (.mv (t 0)),
  s 11 (.ldB 3 0 9 true false),
  k 12 44 [(t 10), (t 11)] .tup,
  s 9 (.mv (t 12)),
  s 13 (.ext 9 0 false),
  s 14 (.ext 9 1 true),
  s 6 (.mv (t 13)),
  s 7 (.mv (t 14))])
 (.seq (.ops [s 15 (.mv (t 7)),
  s 16 (.not (t 15))])
 (.cond (t 16) (.seq (.ops [s 17 (.bld [(i 0), (i 0), (i 0), (i 0), (.str (bs [])), (.lst 2 true []), (i 0), (i 0), (i 0)] []),
  s 4 (.stB 4 0 9 (t 17) false),
  s 5 (.mv (c (.bool false)))])
 .ret) .skip)))
 (.seq (.seq (.ops [s 18 (.mv (c (i 0))),
  s 19 (.ldB 3 0 1 false true)])
 (.block 0 (.seq (.ops [s 21 (.bin .eql (t 19) (c (i 1))),
  s 20 (.mv (t 21))])
 (.cond (t 20) (.seq (.ops [s 22 (.mv (t 0)),
  s 23 (.mv (c (i 0))),
  s 24 (.mv (t 23)),
  s 25 (.ldB 3 1 1 false true),
  k 26 113 [(t 22), (t 25)] .sc,
  s 8 (.mv (t 26))])
 (.seq (.seq (.ops [s 27 (.mv (t 8)),
  s 28 (.bin .lss (t 27) (c (i 0)))])
 (.cond (t 28) (.seq (.ops [s 29 (.mv (c (i 0))),
  s 30 (.mv (t 29)),
  s 31 (.ldB 3 1 1 false true),
  s 32 (.bld [(i 0), (i 0), (i 0), (i 0), (.str (bs [])), (.lst 2 true []), (i 0), (i 0), (i 0)] [(0, 1, (c (i 2))), (6, 1, (t 31))]),
  s 4 (.stB 4 0 9 (t 32) false),
  s 5 (.mv (c (.bool true)))])
 .ret) .skip))
 (.seq (.ops [s 33 (.mv (t 0)),
  s 34 (.mv (t 8)),
  s 35 (.idx (t 33) (t 34) 5),
  s 36 (.ldE 33 35 0 5 true false 5),
  k 37 90 [(t 36)] .lin,
  s 38 (.bld [(i 0), (i 0), (i 0), (i 0), (.str (bs [])), (.lst 2 true []), (i 0), (i 0), (i 0)] [(0, 1, (c (i 1))), (1, 5, (t 37))]),
  s 4 (.stB 4 0 9 (t 38) false),
  s 5 (.mv (c (.bool true)))])
 .ret))) (.seq (.ops [s 40 (.bin .eql (t 19) (c (i 2))),
  s 39 (.mv (t 40))])
 (.cond (t 39) (.seq (.ops [s 41 (.mv (t 0)),
  s 42 (.mv (t 0)),
  s 43 (.mv (c (i 0))),
  s 44 (.ldB 3 6 1 false true),
  k 45 113 [(t 42), (t 44)] .sc,
  s 46 (.idx (t 41) (t 45) 5),
  s 47 (.ldE 41 46 0 5 true false 5),
  k 48 90 [(t 47)] .lin,
  s 49 (.bld [(i 0), (i 0), (i 0), (i 0), (.str (bs [])), (.lst 2 true []), (i 0), (i 0), (i 0)] [(0, 1, (c (i 1))), (1, 5, (t 48))]),
  s 4 (.stB 4 0 9 (t 49) false),
  s 5 (.mv (c (.bool true)))])
 .ret) .skip))))))
 (.seq (.ops [s 50 (.mv (c (i 0))),
  s 51 (.ldB 3 6 1 false true),
  s 52 (.mv (c (i 0))),
  s 53 (.ldB 3 7 1 false true),
  s 54 (.neg (t 53)),
  s 55 (.mv (c (i 0))),
  s 56 (.ldB 3 8 1 false true),
  s 57 (.neg (t 56)),
  s 58 (.bld [(i 0), (i 0), (i 0), (i 0), (.str (bs [])), (.lst 2 true []), (i 0), (i 0), (i 0)] [(0, 1, (c (i 3))), (6, 1, (t 51)), (7, 1, (t 54)), (8, 1, (t 57))]),
  s 4 (.stB 4 0 9 (t 58) false),
  s 5 (.mv (c (.bool true)))])
 .ret)))), (some ⟨4, 71, 9, true⟩), [5], [false, false]⟩
def i51 : Comp := ⟨(.seq (.ops [s 2 (.box 9 (t 0)),
  s 4 (.mv (c (i 0)))])
 (.seq (.ops [s 5 (.mv (c (i 0))),
  s 6 (.ldB 2 1 5 true false),
  s 7 (.mv (t 1)),
  k 8 114 [(t 6), (t 7)] .sc,
  s 1 (.mv (t 8))])
 (.seq (.seq (.ops [s 9 (.mv (t 1)),
  s 10 (.bin .lss (t 9) (c (i 0)))])
 (.cond (t 10) (.seq (.ops [s 4 (.mv (c (i (-1))))])
 .ret) .skip))
 (.seq (.ops [s 11 (.mv (t 1)),
  s 4 (.mv (t 11))])
 .ret)))), none, [4], [false, true]⟩
def i74 : Comp := ⟨(.seq (.ops [s 4 (.mv (c (.bool false)))])
 (.seq (.seq (.ops [s 6 (.mv (t 0)),
  s 7 (.len false (t 6)),
  s 8 (.mv (t 1)),
  s 9 (.len false (t 8)),
  s 10 (.bin .neq (t 7) (t 9))])
 (.cond (t 10) (.seq (.ops [s 4 (.mv (c (.bool false)))])
 .ret) .skip))
 (.seq (.seq (.ops [s 5 (.mv (c (i 0)))])
 (.block 0 (.loop (.seq (.seq (.ops [s 11 (.mv (t 5)),
  s 12 (.mv (t 0)),
  s 13 (.len false (t 12)),
  s 14 (.bin .lss (t 11) (t 13))])
 (.cond (t 14) .skip (.exit 0)))
 (.seq (.block 1 (.seq (.ops [s 17 (.mv (t 0)),
  s 18 (.mv (t 5)),
  s 19 (.idx (t 17) (t 18) 2),
  s 20 (.ldE 17 19 0 2 true true 2),
  s 21 (.mv (t 1)),
  s 22 (.mv (t 5)),
  s 23 (.idx (t 21) (t 22) 2),
  s 24 (.ldE 21 23 0 2 true true 2),
  k 25 133 [(t 20), (t 24)] .sc,
  s 26 (.not (t 25))])
 (.cond (t 26) (.seq (.ops [s 4 (.mv (c (.bool false)))])
 .ret) .skip)))
 (.ops [s 15 (.mv (t 5)),
  s 16 (.bin .add (t 15) (c (i 1))),
  s 5 (.mv (t 16))]))))))
 (.seq (.ops [s 4 (.mv (c (.bool true)))])
 .ret)))), none, [4], [false, false]⟩
def i75 : Comp := ⟨(.seq (.ops [s 4 (.mv (c (i 0)))])
 (.seq (.seq (.ops [s 5 (.mv (c (i 0)))])
 (.block 0 (.loop (.seq (.seq (.ops [s 6 (.mv (t 5)),
  s 7 (.mv (t 0)),
  s 8 (.len false (t 7)),
  s 9 (.bin .lss (t 6) (t 8))])
 (.cond (t 9) .skip (.exit 0)))
 (.seq (.block 1 (.seq (.seq (.ops [s 12 (.mv (t 0)),
  s 13 (.mv (t 5)),
  s 14 (.mv (t 1)),
  s 15 (.idx (t 12) (t 13) 2),
  s 16 (.mv (t 15))])
 (.seq (opW 0 16 0 1 2 (t 14))
 (.ops [])))
 (.seq (.ops [s 17 (.mv (t 1)),
  s 18 (.bin .add (t 17) (c (i 1))),
  s 1 (.mv (t 18))])
 (.seq (.seq (.ops [s 19 (.mv (t 0)),
  s 20 (.mv (t 5)),
  s 21 (.mv (t 1)),
  s 22 (.idx (t 19) (t 20) 2),
  s 23 (.mv (t 22))])
 (.seq (opW 0 23 1 1 2 (t 21))
 (.ops [])))
 (.ops [s 24 (.mv (t 1)),
  s 25 (.bin .add (t 24) (c (i 1))),
  s 1 (.mv (t 25))])))))
 (.ops [s 10 (.mv (t 5)),
  s 11 (.bin .add (t 10) (c (i 1))),
  s 5 (.mv (t 11))]))))))
 (.seq (.ops [s 26 (.mv (t 1)),
  s 4 (.mv (t 26))])
 .ret))), none, [4], [true]⟩
def i76 : Comp := ⟨(.seq (.ops [s 4 (.mv (c (i 0)))])
 (.seq (.seq (.ops [s 5 (.mv (c (i 0)))])
 (.block 0 (.loop (.seq (.seq (.ops [s 6 (.mv (t 5)),
  s 7 (.mv (t 0)),
  s 8 (.len false (t 7)),
  s 9 (.bin .lss (t 6) (t 8))])
 (.cond (t 9) .skip (.exit 0)))
 (.seq (.block 1 (.seq (.seq (.ops [s 12 (.mv (t 0)),
  s 13 (.mv (t 5)),
  s 14 (.idx (t 12) (t 13) 2),
  s 15 (.mv (t 14)),
  s 16 (.ldE 12 15 0 1 false true 2),
  s 17 (.mv (t 1)),
  s 18 (.bin .neq (t 16) (t 17))])
 (.cond (t 18) (.seq (.ops [s 4 (.mv (c (i (-1))))])
 .ret) .skip))
 (.seq (.ops [s 19 (.mv (t 1)),
  s 20 (.bin .add (t 19) (c (i 1))),
  s 1 (.mv (t 20))])
 (.seq (.seq (.ops [s 21 (.mv (t 0)),
  s 22 (.mv (t 5)),
  s 23 (.idx (t 21) (t 22) 2),
  s 24 (.mv (t 23)),
  s 25 (.ldE 21 24 1 1 false true 2),
  s 26 (.mv (t 1)),
  s 27 (.bin .neq (t 25) (t 26))])
 (.cond (t 27) (.seq (.ops [s 4 (.mv (c (i (-1))))])
 .ret) .skip))
 (.ops [s 28 (.mv (t 1)),
  s 29 (.bin .add (t 28) (c (i 1))),
  s 1 (.mv (t 29))])))))
 (.ops [s 10 (.mv (t 5)),
  s 11 (.bin .add (t 10) (c (i 1))),
  s 5 (.mv (t 11))]))))))
 (.seq (.ops [s 30 (.mv (t 1)),
  s 4 (.mv (t 30))])
 .ret))), none, [4], [false, true]⟩
def i77 : Comp := ⟨(.seq (.ops [s 2 (.box 5 (t 0)),
  s 4 (.mv (c (i 0)))])
 (.seq (.ops [s 5 (.mv (t 1)),
  s 6 (.mv (c (i 0))),
  s 7 (.ldB 2 3 1 false true),
  s 8 (.len true (t 7)),
  s 9 (.bin .sub (t 5) (t 8)),
  s 1 (.mv (t 9))])
 (.seq (.seq (.ops [s 10 (.mv (t 1)),
  s 11 (.bin .lss (t 10) (c (i 0)))])
 (.cond (t 11) (.seq (.ops [s 4 (.mv (c (i (-1))))])
 .ret) .skip))
 (.seq (.ops [s 12 (.mv (c (i 0))),
  s 13 (.ldB 2 4 1 false false),
  s 14 (.mv (t 1)),
  k 15 134 [(t 13), (t 14)] .sc,
  s 1 (.mv (t 15))])
 (.seq (.seq (.ops [s 16 (.mv (t 1)),
  s 17 (.bin .lss (t 16) (c (i 0)))])
 (.cond (t 17) (.seq (.ops [s 4 (.mv (c (i (-1))))])
 .ret) .skip))
 (.seq (.ops [s 18 (.mv (t 1)),
  s 4 (.mv (t 18))])
 .ret)))))), none, [4], [false, true]⟩
def i78 : Comp := ⟨(.seq (.ops [s 2 (.mv (c (.bool false)))])
 (.seq (.seq (.ops [s 3 (.mv (c (i 0)))])
 (.block 0 (.loop (.seq (.seq (.ops [s 4 (.mv (t 3)),
  s 5 (.mv (t 0)),
  s 6 (.len false (t 5)),
  s 7 (.bin .lss (t 4) (t 6))])
 (.cond (t 7) .skip (.exit 0)))
 (.seq (.block 1 (.seq (.ops [s 10 (.mv (t 0)),
  s 11 (.mv (t 3)),
  s 12 (.idx (t 10) (t 11) 5),
  s 13 (.ldE 10 12 0 5 true false 5),
  k 14 98 [(t 13)] .sc,
  s 15 (.not (t 14)),
  s 16 (.mv (t 15)),
  sg [(16, false)] 17 (.mv (t 3)),
  sg [(16, false)] 18 (.bin .gtr (t 17) (c (i 0))),
  sg [(16, false)] 19 (.mv (t 18)),
  sg [(19, true), (16, false)] 20 (.mv (t 0)),
  sg [(19, true), (16, false)] 21 (.mv (t 3)),
  sg [(19, true), (16, false)] 22 (.bin .sub (t 21) (c (i 1))),
  sg [(19, true), (16, false)] 23 (.idx (t 20) (t 22) 5),
  sg [(19, true), (16, false)] 24 (.mv (t 23)),
  sg [(19, true), (16, false)] 25 (.ldE 20 24 0 1 false true 5),
  sg [(19, true), (16, false)] 26 (.mv (t 0)),
  sg [(19, true), (16, false)] 27 (.mv (t 3)),
  sg [(19, true), (16, false)] 28 (.idx (t 26) (t 27) 5),
  sg [(19, true), (16, false)] 29 (.mv (t 28)),
  sg [(19, true), (16, false)] 30 (.ldE 26 29 0 1 false true 5),
  sg [(19, true), (16, false)] 31 (.bin .geq (t 25) (t 30)),
  sg [(16, false)] 32 (.pick (t 19) (t 31) (c (.bool false))),
  s 33 (.pick (t 16) (c (.bool true)) (t 32))])
 (.cond (t 33) (.seq (.ops [s 2 (.mv (c (.bool false)))])
 .ret) .skip)))
 (.ops [s 8 (.mv (t 3)),
  s 9 (.bin .add (t 8) (c (i 1))),
  s 3 (.mv (t 9))]))))))
 (.seq (.ops [s 34 (.mv (t 0)),
  s 35 (.len false (t 34)),
  s 36 (.bin .leq (t 35) (c (i 16))),
  s 2 (.mv (t 36))])
 .ret))), none, [2], [false]⟩
def i79 : Comp := ⟨(.seq (.ops [s 1 (.box 2 (t 0)),
  s 2 (.mv (c (.bool false)))])
 (.seq (.ops [s 3 (.mv (c (i 0))),
  s 4 (.ldB 1 0 1 false true),
  k 5 99 [(t 4), (c (i 0)), (c (i 200))] .sc,
  s 6 (.mv (t 5)),
  sg [(6, true)] 7 (.mv (c (i 0))),
  sg [(6, true)] 8 (.ldB 1 1 1 false true),
  kg [(6, true)] 9 99 [(t 8), (c (i 0)), (c (i 200))] .sc,
  s 10 (.pick (t 6) (t 9) (c (.bool false))),
  s 2 (.mv (t 10))])
 .ret)), none, [2], [true]⟩
def i82 : Comp := ⟨(.seq (.ops [s 1 (.box 5 (t 0)),
  s 2 (.alc [(i 0), (i 0), (i 0), (.str (bs [])), (.lst 2 true [])])])
 (.seq (.ops [s 3 (.alc [(i 0), (i 0), (i 0), (.str (bs [])), (.lst 2 true [])])])
 (.seq (.ops [s 4 (.mv (c (i 0))),
  s 5 (.ldB 1 0 1 false true),
  s 6 (.mv (c (i 0))),
  s 3 (.stB 3 0 1 (t 5) false)])
 (.seq (.ops [s 7 (.mv (c (i 0))),
  s 8 (.ldB 1 1 1 false true),
  s 9 (.mv (c (i 0))),
  s 3 (.stB 3 1 1 (t 8) false)])
 (.seq (.ops [s 10 (.mv (c (i 0))),
  s 11 (.ldB 1 2 1 false true),
  s 12 (.mv (c (i 0))),
  s 3 (.stB 3 2 1 (t 11) false)])
 (.seq (.ops [s 13 (.mv (c (i 0))),
  s 14 (.ldB 1 3 1 false true),
  s 15 (.mv (c (i 0))),
  s 3 (.stB 3 3 1 (t 14) false)])
 (.seq (.ops [s 16 (.mv (c (i 0))),
  s 17 (.ldB 1 4 1 false false),
  k 18 136 [(t 17)] .lin,
  s 19 (.mv (c (i 0))),
  s 3 (.stB 3 4 1 (t 18) false)])
 (.seq (.ops [s 20 (.ldB 3 0 5 true false),
  s 2 (.stB 2 0 5 (t 20) false)])
 .ret)))))))), (some ⟨2, 47, 5, true⟩), [], [false]⟩
def i83 : Comp := ⟨(.seq (.ops [s 1 (.box 2 (t 0)),
  s 2 (.mv (c (.bool false)))])
 (.seq (.ops [s 3 (.mv (c (i 0))),
  s 4 (.ldB 1 0 1 false true),
  k 5 97 [(t 4), (c (i 0)), (c (i 200))] .sc,
  s 6 (.mv (t 5)),
  sg [(6, true)] 7 (.mv (c (i 0))),
  sg [(6, true)] 8 (.ldB 1 1 1 false true),
  kg [(6, true)] 9 97 [(t 8), (c (i 0)), (c (i 200))] .sc,
  s 10 (.pick (t 6) (t 9) (c (.bool false))),
  s 2 (.mv (t 10))])
 .ret)), none, [2], [true]⟩
def i85 : Comp := ⟨(.seq (.ops [s 2 (.box 5 (t 0)),
  s 3 (.box 5 (t 1)),
  s 4 (.mv (c (.bool false)))])
 (.seq (.seq (.ops [s 5 (.mv (c (i 0))),
  s 6 (.ldB 2 0 1 false true),
  s 7 (.mv (c (i 0))),
  s 8 (.ldB 3 0 1 false true),
  s 9 (.bin .neq (t 6) (t 8))])
 (.cond (t 9) (.seq (.ops [s 4 (.mv (c (.bool false)))])
 .ret) .skip))
 (.seq (.seq (.ops [s 10 (.mv (c (i 0))),
  s 11 (.ldB 2 1 1 false true),
  s 12 (.mv (c (i 0))),
  s 13 (.ldB 3 1 1 false true),
  s 14 (.bin .neq (t 11) (t 13))])
 (.cond (t 14) (.seq (.ops [s 4 (.mv (c (.bool false)))])
 .ret) .skip))
 (.seq (.seq (.ops [s 15 (.mv (c (i 0))),
  s 16 (.ldB 2 2 1 false true),
  s 17 (.mv (c (i 0))),
  s 18 (.ldB 3 2 1 false true),
  s 19 (.bin .neq (t 16) (t 18))])
 (.cond (t 19) (.seq (.ops [s 4 (.mv (c (.bool false)))])
 .ret) .skip))
 (.seq (.seq (.ops [s 20 (.mv (c (i 0))),
  s 21 (.ldB 2 3 1 false true),
  s 22 (.mv (c (i 0))),
  s 23 (.ldB 3 3 1 false true),
  s 24 (.bin .neq (t 21) (t 23))])
 (.cond (t 24) (.seq (.ops [s 4 (.mv (c (.bool false)))])
 .ret) .skip))
 (.seq (.seq (.ops [s 25 (.mv (c (i 0))),
  s 26 (.ldB 2 4 1 false false),
  s 27 (.mv (c (i 0))),
  s 28 (.ldB 3 4 1 false false),
  k 29 74 [(t 26), (t 28)] .sc,
  s 30 (.not (t 29))])
 (.cond (t 30) (.seq (.ops [s 4 (.mv (c (.bool false)))])
 .ret) .skip))
 (.seq (.ops [s 4 (.mv (c (.bool true)))])
 .ret))))))), none, [4], [false, false]⟩
def i90 : Comp := ⟨(.seq (.ops [s 1 (.box 5 (t 0)),
  s 2 (.alc [(i 0), (i 0), (i 0), (.str (bs [])), (.lst 2 true [])])])
 (.seq (.ops [s 3 (.mv (c (i 0))),
  s 4 (.ldB 1 4 1 false false),
  k 5 140 [(t 4)] .lin,
  s 6 (.mv (c (i 0))),
  s 1 (.stB 1 4 1 (t 5) true)])
 (.seq (.ops [s 7 (.ldB 1 0 5 true false),
  s 2 (.stB 2 0 5 (t 7) false)])
 .ret))), (some ⟨2, 47, 5, true⟩), [], [false]⟩
def i92 : Comp := ⟨(.seq (.ops [s 2 (.mv (c (.str (bs []))))])
 (.seq (.seq (.ops [s 4 (.mv (t 0)),
  s 5 (.bin .leq (t 4) (c (i 0)))])
 (.cond (t 5) (.seq (.ops [s 2 (.mv (c (.str (bs [109, 48]))))])
 .ret) .skip))
 (.seq (.ops [s 3 (.mv (c (.str (bs []))))])
 (.seq (.block 0 (.loop (.seq (.seq (.ops [s 6 (.mv (t 0)),
  s 7 (.bin .gtr (t 6) (c (i 0)))])
 (.cond (t 7) .skip (.exit 0)))
 (.block 1 (.seq (.ops [s 8 (.mv (t 0)),
  s 9 (.bin .rem (t 8) (c (i 10))),
  s 10 (.bin .add (c (i 48)) (t 9)),
  s 11 (.conv .u8 (t 10)),
  s 12 (.bsl 1 [(t 11)]),
  s 13 (.bst (t 12)),
  s 14 (.mv (t 3)),
  s 15 (.bin .add (t 13) (t 14)),
  s 3 (.mv (t 15))])
 (.ops [s 16 (.mv (t 0)),
  s 17 (.bin .quo (t 16) (c (i 10))),
  s 0 (.mv (t 17))]))))))
 (.seq (.ops [s 18 (.mv (t 3)),
  s 19 (.bin .add (c (.str (bs [109]))) (t 18)),
  s 2 (.mv (t 19))])
 .ret))))), none, [2], [true]⟩
def i96 : Comp := ⟨(.seq (.ops [s 1 (.box 5 (t 0)),
  s 2 (.mv (c (.bool false)))])
 (.seq (.seq (.ops [s 3 (.mv (c (i 0))),
  s 4 (.ldB 1 0 1 false true),
  k 5 97 [(t 4), (c (i 1)), (c (i 99))] .sc,
  s 6 (.not (t 5)),
  s 7 (.mv (t 6)),
  sg [(7, false)] 8 (.mv (c (i 0))),
  sg [(7, false)] 9 (.ldB 1 2 1 false true),
  kg [(7, false)] 10 97 [(t 9), (c (i 0)), (c (i 9))] .sc,
  sg [(7, false)] 11 (.not (t 10)),
  s 12 (.pick (t 7) (c (.bool true)) (t 11)),
  s 13 (.mv (t 12)),
  sg [(13, false)] 14 (.mv (c (i 0))),
  sg [(13, false)] 15 (.ldB 1 3 1 false true),
  sg [(13, false)] 16 (.bin .neq (t 15) (c (.str (bs [])))),
  sg [(13, false)] 17 (.mv (t 16)),
  sg [(17, true), (13, false)] 18 (.mv (c (i 0))),
  sg [(17, true), (13, false)] 19 (.ldB 1 3 1 false true),
  kg [(17, true), (13, false)] 20 147 [(t 19)] .sc,
  sg [(17, true), (13, false)] 21 (.not (t 20)),
  sg [(13, false)] 22 (.pick (t 17) (t 21) (c (.bool false))),
  s 23 (.pick (t 13) (c (.bool true)) (t 22))])
 (.cond (t 23) (.seq (.ops [s 2 (.mv (c (.bool false)))])
 .ret) .skip))
 (.seq (.seq (.ops [s 24 (.mv (c (i 0))),
  s 25 (.ldB 1 1 1 false true)])
 (.block 0 (.seq (.ops [s 27 (.bin .eql (t 25) (c (i 1))),
  s 26 (.mv (t 27))])
 (.cond (t 26) (.seq (.ops [s 28 (.mv (c (i 0))),
  s 29 (.ldB 1 4 1 false false),
  s 30 (.len false (t 29)),
  s 31 (.bin .eql (t 30) (c (i 1))),
  s 32 (.mv (t 31)),
  sg [(32, true)] 33 (.mv (c (i 0))),
  sg [(32, true)] 34 (.ldB 1 4 1 false false),
  sg [(32, true)] 35 (.idx (t 34) (c (i 0)) 2),
  sg [(32, true)] 36 (.ldE 34 35 0 2 true true 2),
  kg [(32, true)] 37 83 [(t 36)] .sc,
  s 38 (.pick (t 32) (t 37) (c (.bool false))),
  s 2 (.mv (t 38))])
 .ret) (.seq (.ops [s 40 (.bin .eql (t 25) (c (i 2))),
  s 39 (.mv (t 40))])
 (.cond (t 39) (.seq (.ops [s 41 (.mv (c (i 0))),
  s 42 (.ldB 1 4 1 false false),
  k 43 148 [(t 42)] .sc,
  s 2 (.mv (t 43))])
 .ret) (.seq (.ops [s 45 (.bin .eql (t 25) (c (i 3))),
  s 44 (.mv (t 45))])
 (.cond (t 44) (.seq (.ops [s 46 (.mv (c (i 0))),
  s 47 (.ldB 1 4 1 false false),
  k 48 149 [(t 47)] .sc,
  s 2 (.mv (t 48))])
 .ret) .skip))))))))
 (.seq (.ops [s 2 (.mv (c (.bool false)))])
 .ret)))), none, [2], [false]⟩
def i97 : Comp := ⟨(.seq (.ops [s 6 (.mv (c (.bool false)))])
 (.seq (.ops [s 7 (.mv (t 1)),
  s 8 (.mv (t 0)),
  s 9 (.bin .leq (t 7) (t 8)),
  s 10 (.mv (t 9)),
  sg [(10, true)] 11 (.mv (t 0)),
  sg [(10, true)] 12 (.mv (t 2)),
  sg [(10, true)] 13 (.bin .leq (t 11) (t 12)),
  s 14 (.pick (t 10) (t 13) (c (.bool false))),
  s 6 (.mv (t 14))])
 .ret)), none, [6], [true, true, true]⟩
def i98 : Comp := ⟨(.seq (.ops [s 1 (.box 5 (t 0)),
  s 2 (.mv (c (.bool false)))])
 (.seq (.seq (.ops [s 3 (.mv (c (i 0))),
  s 4 (.ldB 1 0 1 false true),
  k 5 99 [(t 4), (c (i 1)), (c (i 99))] .sc,
  s 6 (.not (t 5)),
  s 7 (.mv (t 6)),
  sg [(7, false)] 8 (.mv (c (i 0))),
  sg [(7, false)] 9 (.ldB 1 2 1 false true),
  kg [(7, false)] 10 99 [(t 9), (c (i 0)), (c (i 9))] .sc,
  sg [(7, false)] 11 (.not (t 10)),
  s 12 (.pick (t 7) (c (.bool true)) (t 11)),
  s 13 (.mv (t 12)),
  sg [(13, false)] 14 (.mv (c (i 0))),
  sg [(13, false)] 15 (.ldB 1 3 1 false true),
  sg [(13, false)] 16 (.bin .neq (t 15) (c (.str (bs [])))),
  sg [(13, false)] 17 (.mv (t 16)),
  sg [(17, true), (13, false)] 18 (.mv (c (i 0))),
  sg [(17, true), (13, false)] 19 (.ldB 1 3 1 false true),
  kg [(17, true), (13, false)] 20 150 [(t 19)] .sc,
  sg [(17, true), (13, false)] 21 (.not (t 20)),
  sg [(13, false)] 22 (.pick (t 17) (t 21) (c (.bool false))),
  s 23 (.pick (t 13) (c (.bool true)) (t 22))])
 (.cond (t 23) (.seq (.ops [s 2 (.mv (c (.bool false)))])
 .ret) .skip))
 (.seq (.seq (.ops [s 24 (.mv (c (i 0))),
  s 25 (.ldB 1 1 1 false true)])
 (.block 0 (.seq (.ops [s 27 (.bin .eql (t 25) (c (i 1))),
  s 26 (.mv (t 27))])
 (.cond (t 26) (.seq (.ops [s 28 (.mv (c (i 0))),
  s 29 (.ldB 1 4 1 false false),
  s 30 (.len false (t 29)),
  s 31 (.bin .eql (t 30) (c (i 1))),
  s 32 (.mv (t 31)),
  sg [(32, true)] 33 (.mv (c (i 0))),
  sg [(32, true)] 34 (.ldB 1 4 1 false false),
  sg [(32, true)] 35 (.idx (t 34) (c (i 0)) 2),
  sg [(32, true)] 36 (.ldE 34 35 0 2 true true 2),
  kg [(32, true)] 37 79 [(t 36)] .sc,
  s 38 (.pick (t 32) (t 37) (c (.bool false))),
  s 2 (.mv (t 38))])
 .ret) (.seq (.ops [s 40 (.bin .eql (t 25) (c (i 2))),
  s 39 (.mv (t 40))])
 (.cond (t 39) (.seq (.ops [s 41 (.mv (c (i 0))),
  s 42 (.ldB 1 4 1 false false),
  k 43 151 [(t 42)] .sc,
  s 2 (.mv (t 43))])
 .ret) (.seq (.ops [s 45 (.bin .eql (t 25) (c (i 3))),
  s 44 (.mv (t 45))])
 (.cond (t 44) (.seq (.ops [s 46 (.mv (c (i 0))),
  s 47 (.ldB 1 4 1 false false),
  k 48 152 [(t 47)] .sc,
  s 2 (.mv (t 48))])
 .ret) .skip))))))))
 (.seq (.ops [s 2 (.mv (c (.bool false)))])
 .ret)))), none, [2], [false]⟩
def i99 : Comp := ⟨(.seq (.ops [s 6 (.mv (c (.bool false)))])
 (.seq (.ops [s 7 (.mv (t 0)),
  s 8 (.mv (t 1)),
  s 9 (.bin .geq (t 7) (t 8)),
  s 10 (.mv (t 9)),
  sg [(10, true)] 11 (.mv (t 0)),
  sg [(10, true)] 12 (.mv (t 2)),
  sg [(10, true)] 13 (.bin .leq (t 11) (t 12)),
  s 14 (.pick (t 10) (t 13) (c (.bool false))),
  s 6 (.mv (t 14))])
 .ret)), none, [6], [true, true, true]⟩
def i103 : Comp := ⟨(.seq (.ops [s 2 (.mv (c (.lst 5 true [])))])
 (.seq (.ops [s 5 (.bsl 5 []),
  s 3 (.mv (t 5))])
 (.seq (.seq (.ops [s 4 (.mv (c (i 0)))])
 (.block 0 (.loop (.seq (.seq (.ops [s 6 (.mv (t 4)),
  s 7 (.mv (t 0)),
  s 8 (.len false (t 7)),
  s 9 (.bin .lss (t 6) (t 8))])
 (.cond (t 9) .skip (.exit 0)))
 (.seq (.block 1 (.ops [s 12 (.mv (t 3)),
  s 13 (.mv (t 0)),
  s 14 (.mv (t 4)),
  s 15 (.idx (t 13) (t 14) 5),
  s 16 (.ldE 13 15 0 5 true false 5),
  k 17 112 [(t 16)] .lin,
  s 18 (.bsl 5 [(t 17)]),
  s 19 (.app (t 12) (t 18) 5 64),
  s 3 (.mv (t 19))]))
 (.ops [s 10 (.mv (t 4)),
  s 11 (.bin .add (t 10) (c (i 1))),
  s 4 (.mv (t 11))]))))))
 (.seq (.ops [s 20 (.mv (t 3)),
  s 2 (.mv (t 20))])
 .ret)))), none, [2], [false]⟩
def i104 : Comp := ⟨(.seq (.ops [s 3 (.box 5 (t 1)),
  s 4 (.mv (c (.lst 5 true []))),
  s 5 (.mv (c (.bool false)))])
 (.seq (.ops [s 6 (.mv (c (i 0)))])
 (.seq (.block 0 (.loop (.seq (.seq (.ops [s 9 (.mv (t 6)),
  s 10 (.mv (t 0)),
  s 11 (.len false (t 10)),
  s 12 (.bin .lss (t 9) (t 11)),
  s 13 (.mv (t 12)),
  sg [(13, true)] 14 (.mv (t 0)),
  sg [(13, true)] 15 (.mv (t 6)),
  sg [(13, true)] 16 (.idx (t 14) (t 15) 5),
  sg [(13, true)] 17 (.mv (t 16)),
  sg [(13, true)] 18 (.ldE 14 17 0 1 false true 5),
  sg [(13, true)] 19 (.mv (c (i 0))),
  sg [(13, true)] 20 (.ldB 3 0 1 false true),
  sg [(13, true)] 21 (.bin .lss (t 18) (t 20)),
  s 22 (.pick (t 13) (t 21) (c (.bool false)))])
 (.cond (t 22) .skip (.exit 0)))
 (.block 1 (.ops [s 23 (.mv (t 6)),
  s 24 (.bin .add (t 23) (c (i 1))),
  s 6 (.mv (t 24))])))))
 (.seq (.ops [s 25 (.mv (t 0)),
  s 26 (.mv (t 6)),
  s 27 (.sl 5 (t 25) (some (t 26)) none),
  s 7 (.mv (t 27))])
 (.seq (.seq (.ops [s 28 (.mv (t 7)),
  s 29 (.len false (t 28)),
  s 30 (.bin .gtr (t 29) (c (i 0))),
  s 31 (.mv (t 30)),
  sg [(31, true)] 32 (.mv (t 7)),
  sg [(31, true)] 33 (.idx (t 32) (c (i 0)) 5),
  sg [(31, true)] 34 (.mv (t 33)),
  sg [(31, true)] 35 (.ldE 32 34 0 1 false true 5),
  sg [(31, true)] 36 (.mv (c (i 0))),
  sg [(31, true)] 37 (.ldB 3 0 1 false true),
  sg [(31, true)] 38 (.bin .eql (t 35) (t 37)),
  s 39 (.pick (t 31) (t 38) (c (.bool false)))])
 (.cond (t 39) (.ops [s 40 (.mv (t 7)),
  s 41 (.sl 5 (t 40) (some (c (i 1))) none),
  s 7 (.mv (t 41))]) .skip))
 (.seq (.ops [s 42 (.mv (t 0)),
  s 43 (.mv (t 6)),
  s 44 (.sl 5 (t 42) none (some (t 43))),
  k 45 103 [(t 44)] .lin,
  s 46 (.ldB 3 0 5 true false),
  k 47 112 [(t 46)] .lin,
  s 48 (.bsl 5 [(t 47)]),
  s 49 (.app (t 45) (t 48) 5 64),
  s 50 (.mv (t 7)),
  k 51 103 [(t 50)] .lin,
  s 52 (.app (t 49) (t 51) 5 64),
  s 8 (.mv (t 52))])
 (.seq (.seq (.ops [s 53 (.mv (t 8)),
  k 54 78 [(t 53)] .sc,
  s 55 (.not (t 54))])
 (.cond (t 55) (.seq (.ops [s 56 (.mv (t 0)),
  k 57 103 [(t 56)] .lin,
  s 4 (.mv (t 57)),
  s 5 (.mv (c (.bool false)))])
 .ret) .skip))
 (.seq (.ops [s 58 (.mv (t 8)),
  s 4 (.mv (t 58)),
  s 5 (.mv (c (.bool true)))])
 .ret)))))))), none, [4, 5], [false, false]⟩
def i105 : Comp := ⟨(.seq (.ops [s 4 (.mv (c (.lst 5 true []))),
  s 5 (.mv (c (.bool false)))])
 (.seq (.ops [s 7 (.mv (t 0)),
  s 8 (.mv (t 1)),
  k 9 111 [(t 7), (t 8)] .sc,
  s 6 (.mv (t 9))])
 (.seq (.seq (.ops [s 10 (.mv (t 0)),
  k 11 78 [(t 10)] .sc,
  s 12 (.not (t 11)),
  s 13 (.mv (t 12)),
  sg [(13, false)] 14 (.mv (t 6)),
  sg [(13, false)] 15 (.bin .lss (t 14) (c (i 0))),
  s 16 (.pick (t 13) (c (.bool true)) (t 15))])
 (.cond (t 16) (.seq (.ops [s 17 (.mv (t 0)),
  k 18 103 [(t 17)] .lin,
  s 4 (.mv (t 18)),
  s 5 (.mv (c (.bool false)))])
 .ret) .skip))
 (.seq (.ops [s 19 (.mv (t 0)),
  s 20 (.mv (t 6)),
  s 21 (.sl 5 (t 19) none (some (t 20))),
  k 22 103 [(t 21)] .lin,
  s 23 (.mv (t 0)),
  s 24 (.mv (t 6)),
  s 25 (.bin .add (t 24) (c (i 1))),
  s 26 (.sl 5 (t 23) (some (t 25)) none),
  k 27 103 [(t 26)] .lin,
  s 28 (.app (t 22) (t 27) 5 64),
  s 4 (.mv (t 28)),
  s 5 (.mv (c (.bool true)))])
 .ret)))), none, [4, 5], [false, true]⟩
def i106 : Comp := ⟨(.seq (.ops [s 3 (.box 9 (t 1)),
  s 4 (.mv (c (.lst 5 true []))),
  s 5 (.mv (c (.bool false)))])
 (.seq (.ops [s 11 (.mv (t 0)),
  k 12 103 [(t 11)] .lin,
  s 6 (.mv (t 12))])
 (.seq (.ops [s 13 (.mv (t 0)),
  s 14 (.mv (c (i 0))),
  s 15 (.ldB 3 6 1 false true),
  k 16 111 [(t 13), (t 15)] .sc,
  s 7 (.mv (t 16))])
 (.seq (.seq (.ops [s 17 (.mv (t 7)),
  s 18 (.bin .lss (t 17) (c (i 0)))])
 (.cond (t 18) (.seq (.ops [s 19 (.mv (t 6)),
  s 4 (.mv (t 19)),
  s 5 (.mv (c (.bool false)))])
 .ret) .skip))
 (.seq (.seq (.ops [s 8 (.mv (c (i 0)))])
 (.block 0 (.loop (.seq (.seq (.ops [s 20 (.mv (t 8)),
  s 21 (.mv (t 6)),
  s 22 (.mv (t 7)),
  s 23 (.idx (t 21) (t 22) 5),
  s 24 (.mv (t 23)),
  s 25 (.ldE 21 24 4 1 false false 5),
  s 26 (.len false (t 25)),
  s 27 (.bin .lss (t 20) (t 26))])
 (.cond (t 27) .skip (.exit 0)))
 (.seq (.block 1 (.seq (.ops [s 31 (.mv (t 6)),
  s 32 (.mv (t 7)),
  s 33 (.idx (t 31) (t 32) 5),
  s 34 (.mv (t 33)),
  s 35 (.ldE 31 34 4 1 false false 5),
  s 36 (.mv (t 8)),
  s 37 (.idx (t 35) (t 36) 2),
  s 38 (.ldE 35 37 0 2 true true 2),
  s 39 (.mv (c (i 0))),
  s 40 (.ldB 3 7 1 false true),
  s 41 (.mv (c (i 0))),
  s 42 (.ldB 3 8 1 false true),
  k 43 154 [(t 38), (t 40), (t 42)] .sc,
  s 30 (.mv (t 43)),
  s 44 (.ext 30 0 true),
  s 45 (.ext 30 1 true),
  s 9 (.alc [(i 0), (i 0)]),
  s 9 (.stB 9 0 2 (t 44) false),
  s 10 (.mv (t 45))])
 (.seq (.seq (.ops [s 46 (.mv (t 10)),
  s 47 (.not (t 46))])
 (.cond (t 47) (.seq (.ops [s 48 (.mv (t 0)),
  k 49 103 [(t 48)] .lin,
  s 4 (.mv (t 49)),
  s 5 (.mv (c (.bool false)))])
 .ret) .skip))
 (.seq (.ops [s 50 (.mv (t 6)),
  s 51 (.mv (t 7)),
  s 52 (.idx (t 50) (t 51) 5),
  s 53 (.mv (t 52)),
  s 54 (.ldE 50 53 4 1 false false 5),
  s 55 (.mv (t 8)),
  s 56 (.ldB 9 0 2 true true),
  s 57 (.idx (t 54) (t 55) 2)])
 (.seq (opN 6 53 4 5 57 0 2 2 (t 56))
 (.ops []))))))
 (.ops [s 28 (.mv (t 8)),
  s 29 (.bin .add (t 28) (c (i 1))),
  s 8 (.mv (t 29))]))))))
 (.seq (.ops [s 58 (.mv (t 6)),
  s 4 (.mv (t 58)),
  s 5 (.mv (c (.bool true)))])
 .ret)))))), none, [4, 5], [false, false]⟩
def i107 : Comp := ⟨(.seq (.ops [s 3 (.box 5 (t 1)),
  s 4 (.mv (c (.lst 5 true []))),
  s 5 (.mv (c (.bool false)))])
 (.seq (.ops [s 9 (.mv (t 0)),
  k 10 110 [(t 9)] .lin,
  s 6 (.mv (t 10))])
 (.seq (.seq (.ops [s 11 (.mv (t 0)),
  s 12 (.mv (c (i 0))),
  s 13 (.ldB 3 0 1 false true),
  k 14 113 [(t 11), (t 13)] .sc,
  s 7 (.mv (t 14))])
 (.seq (.ops [s 15 (.mv (t 7)),
  s 16 (.bin .geq (t 15) (c (i 0)))])
 (.cond (t 16) (.seq (.ops [s 17 (.mv (t 6)),
  s 18 (.mv (t 7)),
  s 19 (.ldB 3 0 5 true false),
  k 20 90 [(t 19)] .lin,
  s 21 (.idx (t 17) (t 18) 5)])
 (.seq (opW 6 21 0 5 5 (t 20))
 (.ops []))) (.seq (.ops [s 8 (.mv (c (i 0)))])
 (.seq (.block 0 (.loop (.seq (.seq (.ops [s 22 (.mv (t 8)),
  s 23 (.mv (t 0)),
  s 24 (.len false (t 23)),
  s 25 (.bin .lss (t 22) (t 24)),
  s 26 (.mv (t 25)),
  sg [(26, true)] 27 (.mv (t 0)),
  sg [(26, true)] 28 (.mv (t 8)),
  sg [(26, true)] 29 (.idx (t 27) (t 28) 5),
  sg [(26, true)] 30 (.mv (t 29)),
  sg [(26, true)] 31 (.ldE 27 30 0 1 false true 5),
  sg [(26, true)] 32 (.mv (c (i 0))),
  sg [(26, true)] 33 (.ldB 3 0 1 false true),
  sg [(26, true)] 34 (.bin .lss (t 31) (t 33)),
  s 35 (.pick (t 26) (t 34) (c (.bool false)))])
 (.cond (t 35) .skip (.exit 0)))
 (.block 1 (.ops [s 36 (.mv (t 8)),
  s 37 (.bin .add (t 36) (c (i 1))),
  s 8 (.mv (t 37))])))))
 (.seq (.ops [s 38 (.mv (t 6)),
  s 39 (.mv (t 8)),
  s 40 (.ldB 3 0 5 true false),
  k 41 90 [(t 40)] .lin,
  s 42 (.bsl 5 [(t 41)])])
 (.seq (opXL 43 155 [(t 38), (t 39), (t 42)])
 (.ops [s 6 (.mv (t 43))]))))))))
 (.seq (.seq (.ops [s 44 (.mv (t 6)),
  k 45 40 [(t 44)] .sc,
  s 46 (.not (t 45))])
 (.cond (t 46) (.seq (.ops [s 47 (.mv (t 0)),
  k 48 110 [(t 47)] .lin,
  s 4 (.mv (t 48)),
  s 5 (.mv (c (.bool false)))])
 .ret) .skip))
 (.seq (.ops [s 49 (.mv (t 6)),
  s 4 (.mv (t 49)),
  s 5 (.mv (c (.bool true)))])
 .ret))))), none, [4, 5], [false, false]⟩
def i108 : Comp := ⟨(.seq (.ops [s 4 (.mv (c (.lst 5 true []))),
  s 5 (.mv (c (.bool false)))])
 (.seq (.ops [s 8 (.mv (t 0)),
  k 9 110 [(t 8)] .lin,
  s 6 (.mv (t 9))])
 (.seq (.ops [s 10 (.mv (t 0)),
  s 11 (.mv (t 1)),
  k 12 113 [(t 10), (t 11)] .sc,
  s 7 (.mv (t 12))])
 (.seq (.seq (.ops [s 13 (.mv (t 0)),
  k 14 40 [(t 13)] .sc,
  s 15 (.not (t 14)),
  s 16 (.mv (t 15)),
  sg [(16, false)] 17 (.mv (t 7)),
  sg [(16, false)] 18 (.bin .lss (t 17) (c (i 0))),
  s 19 (.pick (t 16) (c (.bool true)) (t 18))])
 (.cond (t 19) (.seq (.ops [s 20 (.mv (t 6)),
  s 4 (.mv (t 20)),
  s 5 (.mv (c (.bool false)))])
 .ret) .skip))
 (.seq (.seq (.ops [s 21 (.mv (t 6)),
  s 22 (.mv (t 7)),
  s 23 (.mv (t 7)),
  s 24 (.bin .add (t 23) (c (i 1)))])
 (.seq (opXL 25 156 [(t 21), (t 22), (t 24)])
 (.ops [s 4 (.mv (t 25)),
  s 5 (.mv (c (.bool true)))])))
 .ret))))), none, [4, 5], [false, true]⟩
def i109 : Comp := ⟨(.seq (.ops [s 3 (.box 9 (t 1)),
  s 4 (.mv (c (.lst 5 true []))),
  s 5 (.mv (c (.bool false)))])
 (.seq (.ops [s 12 (.mv (t 0)),
  k 13 110 [(t 12)] .lin,
  s 6 (.mv (t 13))])
 (.seq (.ops [s 14 (.mv (t 0)),
  s 15 (.mv (c (i 0))),
  s 16 (.ldB 3 6 1 false true),
  k 17 113 [(t 14), (t 16)] .sc,
  s 7 (.mv (t 17))])
 (.seq (.seq (.ops [s 18 (.mv (t 7)),
  s 19 (.bin .lss (t 18) (c (i 0)))])
 (.cond (t 19) (.seq (.ops [s 20 (.mv (t 6)),
  s 4 (.mv (t 20)),
  s 5 (.mv (c (.bool false)))])
 .ret) .skip))
 (.seq (.seq (.ops [s 21 (.mv (t 0)),
  s 22 (.mv (t 7)),
  s 23 (.idx (t 21) (t 22) 5),
  s 24 (.mv (t 23)),
  s 25 (.ldE 21 24 4 1 false false 5),
  s 26 (.len false (t 25)),
  s 27 (.mv (c (i 0)))])
 (.block 0 (.loop (.seq (.ops [s 28 (.bin .lss (t 27) (t 26))])
 (.seq (.cond (t 28) .skip (.exit 0))
 (.seq (.block 1 (.seq (.ops [s 29 (.mv (t 27)),
  s 30 (.idx (t 25) (t 27) 2),
  s 31 (.ldE 25 30 0 2 true true 2),
  s 9 (.alc [(i 0), (i 0)]),
  s 8 (.mv (t 29)),
  s 9 (.stB 9 0 2 (t 31) false)])
 (.seq (.ops [s 33 (.ldB 9 0 2 true true),
  s 34 (.mv (c (i 0))),
  s 35 (.ldB 3 7 1 false true),
  s 36 (.mv (c (i 0))),
  s 37 (.ldB 3 8 1 false true),
  k 38 157 [(t 33), (t 35), (t 37)] .sc,
  s 32 (.mv (t 38)),
  s 39 (.ext 32 0 true),
  s 40 (.ext 32 1 true),
  s 10 (.alc [(i 0), (i 0)]),
  s 10 (.stB 10 0 2 (t 39) false),
  s 11 (.mv (t 40))])
 (.seq (.seq (.ops [s 41 (.mv (t 11)),
  s 42 (.not (t 41))])
 (.cond (t 42) (.seq (.ops [s 43 (.mv (t 6)),
  s 4 (.mv (t 43)),
  s 5 (.mv (c (.bool false)))])
 .ret) .skip))
 (.seq (.ops [s 44 (.mv (t 6)),
  s 45 (.mv (t 7)),
  s 46 (.idx (t 44) (t 45) 5),
  s 47 (.mv (t 46)),
  s 48 (.ldE 44 47 4 1 false false 5),
  s 49 (.mv (t 8)),
  s 50 (.ldB 10 0 2 true true),
  s 51 (.idx (t 48) (t 49) 2)])
 (.seq (opN 6 47 4 5 51 0 2 2 (t 50))
 (.ops [])))))))
 (.ops [s 52 (.bin .add (t 27) (c (i 1))),
  s 27 (.mv (t 52))])))))))
 (.seq (.ops [s 53 (.mv (t 6)),
  s 54 (.mv (t 6)),
  k 55 40 [(t 54)] .sc,
  s 4 (.mv (t 53)),
  s 5 (.mv (t 55))])
 .ret)))))), none, [4, 5], [false, false]⟩
def i110 : Comp := ⟨(.seq (.ops [s 2 (.mv (c (.lst 5 true [])))])
 (.seq (.ops [s 6 (.bsl 5 []),
  s 3 (.mv (t 6))])
 (.seq (.seq (.ops [s 7 (.mv (t 0)),
  s 8 (.len false (t 7)),
  s 9 (.mv (c (i 0)))])
 (.block 0 (.loop (.seq (.ops [s 10 (.bin .lss (t 9) (t 8))])
 (.seq (.cond (t 10) .skip (.exit 0))
 (.seq (.block 1 (.seq (.ops [s 11 (.idx (t 7) (t 9) 5),
  s 12 (.ldE 7 11 0 5 true false 5),
  s 5 (.alc [(i 0), (i 0), (i 0), (.str (bs [])), (.lst 2 true [])]),
  s 5 (.stB 5 0 5 (t 12) false)])
 (.ops [s 13 (.mv (t 3)),
  s 14 (.ldB 5 0 5 true false),
  k 15 90 [(t 14)] .lin,
  s 16 (.bsl 5 [(t 15)]),
  s 17 (.app (t 13) (t 16) 5 64),
  s 3 (.mv (t 17))])))
 (.ops [s 18 (.bin .add (t 9) (c (i 1))),
  s 9 (.mv (t 18))])))))))
 (.seq (.ops [s 19 (.mv (t 3)),
  s 2 (.mv (t 19))])
 .ret)))), none, [2], [false]⟩
def i111 : Comp := ⟨(.seq (.ops [s 4 (.mv (c (i 0)))])
 (.seq (.seq (.ops [s 5 (.mv (c (i 0)))])
 (.block 0 (.loop (.seq (.seq (.ops [s 6 (.mv (t 5)),
  s 7 (.mv (t 0)),
  s 8 (.len false (t 7)),
  s 9 (.bin .lss (t 6) (t 8))])
 (.cond (t 9) .skip (.exit 0)))
 (.seq (.block 1 (.seq (.ops [s 12 (.mv (t 0)),
  s 13 (.mv (t 5)),
  s 14 (.idx (t 12) (t 13) 5),
  s 15 (.mv (t 14)),
  s 16 (.ldE 12 15 0 1 false true 5),
  s 17 (.mv (t 1)),
  s 18 (.bin .eql (t 16) (t 17))])
 (.cond (t 18) (.seq (.ops [s 19 (.mv (t 5)),
  s 4 (.mv (t 19))])
 .ret) .skip)))
 (.ops [s 10 (.mv (t 5)),
  s 11 (.bin .add (t 10) (c (i 1))),
  s 5 (.mv (t 11))]))))))
 (.seq (.ops [s 4 (.mv (c (i (-1))))])
 .ret))), none, [4], [false, true]⟩
def i112 : Comp := ⟨(.seq (.ops [s 1 (.box 5 (t 0)),
  s 2 (.alc [(i 0), (i 0), (i 0), (.str (bs [])), (.lst 2 true [])])])
 (.seq (.ops [s 3 (.bsl 2 []),
  s 4 (.mv (c (i 0))),
  s 5 (.ldB 1 4 1 false false),
  s 6 (.apf (t 3) (t 5) 2 16),
  s 7 (.mv (c (i 0))),
  s 1 (.stB 1 4 1 (t 6) true)])
 (.seq (.ops [s 8 (.ldB 1 0 5 true false),
  s 2 (.stB 2 0 5 (t 8) false)])
 .ret))), (some ⟨2, 47, 5, true⟩), [], [false]⟩
def i113 : Comp := ⟨(.seq (.ops [s 3 (.box 1 (t 1)),
  s 4 (.mv (c (i 0)))])
 (.seq (.ops [s 5 (.mv (t 0)),
  s 6 (.mkf 159 [(t 3)]),
  k 7 158 [(t 5), (t 6)] .sc,
  s 4 (.mv (t 7))])
 .ret)), none, [4], [false, true]⟩
def i114 : Comp := ⟨(.seq (.ops [s 2 (.box 5 (t 0)),
  s 4 (.mv (c (i 0)))])
 (.seq (.ops [s 5 (.mv (c (i 0))),
  s 6 (.ldB 2 4 1 false false),
  s 7 (.mv (t 1)),
  k 8 76 [(t 6), (t 7)] .sc,
  s 1 (.mv (t 8))])
 (.seq (.seq (.ops [s 9 (.mv (t 1)),
  s 10 (.bin .lss (t 9) (c (i 0)))])
 (.cond (t 10) (.seq (.ops [s 4 (.mv (c (i (-1))))])
 .ret) .skip))
 (.seq (.ops [s 11 (.mv (t 1)),
  s 4 (.mv (t 11))])
 .ret)))), none, [4], [false, true]⟩
def i132 : Comp := ⟨(.seq (.ops [s 2 (.box 2 (t 0)),
  s 3 (.box 2 (t 1)),
  s 4 (.mv (c (.bool false)))])
 (.seq (.ops [s 5 (.mv (c (i 0))),
  s 6 (.ldB 2 1 1 false true),
  s 7 (.mv (c (i 0))),
  s 8 (.ldB 3 1 1 false true),
  s 9 (.bin .lss (t 6) (t 8)),
  s 10 (.mv (t 9)),
  sg [(10, false)] 11 (.mv (c (i 0))),
  sg [(10, false)] 12 (.ldB 2 1 1 false true),
  sg [(10, false)] 13 (.mv (c (i 0))),
  sg [(10, false)] 14 (.ldB 3 1 1 false true),
  sg [(10, false)] 15 (.bin .eql (t 12) (t 14)),
  sg [(10, false)] 16 (.mv (t 15)),
  sg [(16, true), (10, false)] 17 (.mv (c (i 0))),
  sg [(16, true), (10, false)] 18 (.ldB 2 0 1 false true),
  sg [(16, true), (10, false)] 19 (.mv (c (i 0))),
  sg [(16, true), (10, false)] 20 (.ldB 3 0 1 false true),
  sg [(16, true), (10, false)] 21 (.bin .lss (t 18) (t 20)),
  sg [(10, false)] 22 (.pick (t 16) (t 21) (c (.bool false))),
  s 23 (.pick (t 10) (c (.bool true)) (t 22)),
  s 4 (.mv (t 23))])
 .ret)), none, [4], [true, true]⟩
def i133 : Comp := ⟨(.seq (.ops [s 2 (.box 2 (t 0)),
  s 3 (.box 2 (t 1)),
  s 4 (.mv (c (.bool false)))])
 (.seq (.seq (.ops [s 5 (.mv (c (i 0))),
  s 6 (.ldB 2 0 1 false true),
  s 7 (.mv (c (i 0))),
  s 8 (.ldB 3 0 1 false true),
  s 9 (.bin .neq (t 6) (t 8))])
 (.cond (t 9) (.seq (.ops [s 4 (.mv (c (.bool false)))])
 .ret) .skip))
 (.seq (.seq (.ops [s 10 (.mv (c (i 0))),
  s 11 (.ldB 2 1 1 false true),
  s 12 (.mv (c (i 0))),
  s 13 (.ldB 3 1 1 false true),
  s 14 (.bin .neq (t 11) (t 13))])
 (.cond (t 14) (.seq (.ops [s 4 (.mv (c (.bool false)))])
 .ret) .skip))
 (.seq (.ops [s 4 (.mv (c (.bool true)))])
 .ret)))), none, [4], [true, true]⟩
def i134 : Comp := ⟨(.seq (.ops [s 4 (.mv (c (i 0)))])
 (.seq (.ops [s 5 (.mv (t 1)),
  s 6 (.mv (t 0)),
  s 7 (.len false (t 6)),
  s 8 (.bin .sub (t 5) (t 7)),
  s 1 (.mv (t 8))])
 (.seq (.seq (.ops [s 9 (.mv (t 1)),
  s 10 (.bin .lss (t 9) (c (i 0)))])
 (.cond (t 10) (.seq (.ops [s 4 (.mv (c (i (-1))))])
 .ret) .skip))
 (.seq (.ops [s 11 (.mv (t 1)),
  s 4 (.mv (t 11))])
 .ret)))), none, [4], [false, true]⟩
def i136 : Comp := ⟨(.seq (.ops [s 2 (.mv (c (.lst 2 true [])))])
 (.seq (.ops [s 5 (.mv (t 0)),
  s 6 (.len false (t 5)),
  s 7 (.mks 2 16 [(i 0), (i 0)] (t 6)),
  s 3 (.mv (t 7))])
 (.seq (.seq (.ops [s 4 (.mv (c (i 0)))])
 (.block 0 (.loop (.seq (.seq (.ops [s 8 (.mv (t 4)),
  s 9 (.mv (t 0)),
  s 10 (.len false (t 9)),
  s 11 (.bin .lss (t 8) (t 10))])
 (.cond (t 11) .skip (.exit 0)))
 (.seq (.block 1 (.ops [s 14 (.mv (c .junk)),
  s 15 (.mv (t 4)),
  s 16 (.mv (t 0)),
  s 17 (.mv (t 4)),
  s 18 (.idx (t 16) (t 17) 2),
  s 19 (.ldE 16 18 0 2 true true 2),
  k 20 17 [(t 19)] .sc,
  s 21 (.idx (t 3) (t 15) 2),
  s 3 (.stF 3 21 2 (t 20))]))
 (.ops [s 12 (.mv (t 4)),
  s 13 (.bin .add (t 12) (c (i 1))),
  s 4 (.mv (t 13))]))))))
 (.seq (.ops [s 22 (.mv (c .junk)),
  s 2 (.mv (t 3))])
 .ret)))), none, [2], [false]⟩
def i140 : Comp := ⟨(.seq (.ops [s 2 (.mv (c (.lst 2 true [])))])
 (.seq (.seq (.ops [s 3 (.mv (t 0)),
  s 4 (.isn false (t 3))])
 (.cond (t 4) (.seq (.ops [s 2 (.mv (c (.lst 2 true [])))])
 .ret) .skip))
 (.seq (.ops [s 5 (.bsl 2 []),
  s 6 (.mv (t 0)),
  s 7 (.apf (t 5) (t 6) 2 16),
  s 2 (.mv (t 7))])
 .ret))), none, [2], [false]⟩
def i147 : Comp := ⟨(.seq (.ops [s 2 (.mv (c (.bool false)))])
 (.seq (.seq (.ops [s 4 (.mv (t 0)),
  s 5 (.len true (t 4)),
  s 6 (.mv (c (i 0)))])
 (.block 0 (.loop (.seq (.ops [s 7 (.bin .lss (t 6) (t 5))])
 (.seq (.cond (t 7) .skip (.exit 0))
 (.seq (.block 1 (.seq (.ops [s 8 (.mv (t 6)),
  s 3 (.mv (t 8))])
 (.seq (.ops [s 9 (.mv (t 0)),
  s 10 (.mv (t 3)),
  s 11 (.six (t 9) (t 10)),
  s 12 (.bin .lss (t 11) (c (.int .u8 (97)))),
  s 13 (.mv (t 12)),
  sg [(13, false)] 14 (.mv (t 0)),
  sg [(13, false)] 15 (.mv (t 3)),
  sg [(13, false)] 16 (.six (t 14) (t 15)),
  sg [(13, false)] 17 (.bin .gtr (t 16) (c (.int .u8 (122)))),
  s 18 (.pick (t 13) (c (.bool true)) (t 17))])
 (.cond (t 18) (.seq (.ops [s 2 (.mv (c (.bool false)))])
 .ret) .skip))))
 (.ops [s 19 (.bin .add (t 6) (c (i 1))),
  s 6 (.mv (t 19))])))))))
 (.seq (.ops [s 20 (.mv (t 0)),
  s 21 (.len true (t 20)),
  k 22 97 [(t 21), (c (i 1)), (c (i 8))] .sc,
  s 2 (.mv (t 22))])
 .ret))), none, [2], [true]⟩
def i148 : Comp := ⟨(.seq (.ops [s 2 (.mv (c (.bool false)))])
 (.seq (.seq (.ops [s 7 (.mv (t 0)),
  k 8 177 [(t 7)] .sc,
  s 9 (.not (t 8))])
 (.cond (t 9) (.seq (.ops [s 2 (.mv (c (.bool false)))])
 .ret) .skip))
 (.seq (.ops [s 10 (.mv (t 0)),
  k 11 171 [(t 10)] .lin,
  s 3 (.mv (t 11))])
 (.seq (.seq (.ops [s 12 (.mv (t 3)),
  s 13 (.len false (t 12)),
  s 14 (.mv (c (i 0)))])
 (.block 0 (.loop (.seq (.ops [s 15 (.bin .lss (t 14) (t 13))])
 (.seq (.cond (t 15) .skip (.exit 0))
 (.seq (.block 1 (.seq (.ops [s 16 (.mv (t 14)),
  s 4 (.mv (t 16))])
 (.seq (.ops [s 17 (.mv (t 4)),
  s 18 (.mv (c (i 0)))])
 (.block 2 (.loop (.seq (.ops [s 19 (.bin .lss (t 18) (t 17))])
 (.seq (.cond (t 19) .skip (.exit 2))
 (.seq (.block 3 (.seq (.ops [s 20 (.mv (t 18)),
  s 5 (.mv (t 20))])
 (.seq (.ops [s 6 (.mv (c (i 0)))])
 (.seq (.seq (.ops [s 21 (.mv (t 5)),
  s 22 (.mv (t 4)),
  s 23 (.bin .sub (t 22) (c (i 1))),
  s 24 (.bin .eql (t 21) (t 23))])
 (.cond (t 24) (.ops [s 6 (.mv (c (i 1)))]) .skip))
 (.seq (.ops [s 25 (.mv (t 3)),
  s 26 (.mv (t 4)),
  s 27 (.idx (t 25) (t 26) 4),
  s 28 (.ldE 25 27 0 4 true true 4),
  s 29 (.mv (t 3)),
  s 30 (.mv (t 5)),
  s 31 (.idx (t 29) (t 30) 4),
  s 32 (.ldE 29 31 0 4 true true 4),
  k 33 178 [(t 28), (t 32)] .sc,
  s 34 (.mv (t 6)),
  s 35 (.bin .neq (t 33) (t 34))])
 (.cond (t 35) (.seq (.ops [s 2 (.mv (c (.bool false)))])
 .ret) .skip))))))
 (.ops [s 36 (.bin .add (t 18) (c (i 1))),
  s 18 (.mv (t 36))])))))))))
 (.ops [s 37 (.bin .add (t 14) (c (i 1))),
  s 14 (.mv (t 37))])))))))
 (.seq (.ops [s 2 (.mv (c (.bool true)))])
 .ret))))), none, [2], [false]⟩
def i149 : Comp := ⟨(.seq (.ops [s 2 (.mv (c (.bool false)))])
 (.seq (.seq (.ops [s 7 (.mv (t 0)),
  s 8 (.len false (t 7)),
  s 9 (.bin .lss (t 8) (c (i 3))),
  s 10 (.mv (t 9)),
  sg [(10, false)] 11 (.mv (t 0)),
  sg [(10, false)] 12 (.len false (t 11)),
  sg [(10, false)] 13 (.bin .gtr (t 12) (c (i 10))),
  s 14 (.pick (t 10) (c (.bool true)) (t 13))])
 (.cond (t 14) (.seq (.ops [s 2 (.mv (c (.bool false)))])
 .ret) .skip))
 (.seq (.ops [s 15 (.mv (t 0)),
  k 16 179 [(t 15)] .lin,
  s 3 (.mv (t 16))])
 (.seq (.seq (.ops [s 17 (.mv (t 3)),
  s 18 (.len false (t 17)),
  s 19 (.mv (c (i 0)))])
 (.block 0 (.loop (.seq (.ops [s 20 (.bin .lss (t 19) (t 18))])
 (.seq (.cond (t 20) .skip (.exit 0))
 (.seq (.block 1 (.seq (.ops [s 21 (.mv (t 19)),
  s 4 (.mv (t 21))])
 (.seq (.seq (.ops [s 22 (.mv (t 3)),
  s 23 (.mv (t 4)),
  s 24 (.idx (t 22) (t 23) 4),
  s 25 (.ldE 22 24 0 4 true true 4),
  k 26 180 [(t 25)] .sc,
  s 27 (.not (t 26))])
 (.cond (t 27) (.seq (.ops [s 2 (.mv (c (.bool false)))])
 .ret) .skip))
 (.seq (.ops [s 28 (.mv (t 4)),
  s 29 (.mv (c (i 0)))])
 (.block 2 (.loop (.seq (.ops [s 30 (.bin .lss (t 29) (t 28))])
 (.seq (.cond (t 30) .skip (.exit 2))
 (.seq (.block 3 (.seq (.ops [s 31 (.mv (t 29)),
  s 5 (.mv (t 31))])
 (.seq (.ops [s 6 (.mv (c (i 0)))])
 (.seq (.seq (.ops [s 32 (.mv (t 5)),
  s 33 (.mv (t 4)),
  s 34 (.bin .sub (t 33) (c (i 1))),
  s 35 (.bin .eql (t 32) (t 34)),
  s 36 (.mv (t 35)),
  sg [(36, false)] 37 (.mv (t 5)),
  sg [(36, false)] 38 (.bin .eql (t 37) (c (i 0))),
  sg [(36, false)] 39 (.mv (t 38)),
  sg [(39, true), (36, false)] 40 (.mv (t 4)),
  sg [(39, true), (36, false)] 41 (.mv (t 3)),
  sg [(39, true), (36, false)] 42 (.len false (t 41)),
  sg [(39, true), (36, false)] 43 (.bin .sub (t 42) (c (i 1))),
  sg [(39, true), (36, false)] 44 (.bin .eql (t 40) (t 43)),
  sg [(36, false)] 45 (.pick (t 39) (t 44) (c (.bool false))),
  s 46 (.pick (t 36) (c (.bool true)) (t 45))])
 (.cond (t 46) (.ops [s 6 (.mv (c (i 1)))]) .skip))
 (.seq (.ops [s 47 (.mv (t 3)),
  s 48 (.mv (t 4)),
  s 49 (.idx (t 47) (t 48) 4),
  s 50 (.ldE 47 49 0 4 true true 4),
  s 51 (.mv (t 3)),
  s 52 (.mv (t 5)),
  s 53 (.idx (t 51) (t 52) 4),
  s 54 (.ldE 51 53 0 4 true true 4),
  k 55 178 [(t 50), (t 54)] .sc,
  s 56 (.mv (t 6)),
  s 57 (.bin .neq (t 55) (t 56))])
 (.cond (t 57) (.seq (.ops [s 2 (.mv (c (.bool false)))])
 .ret) .skip))))))
 (.ops [s 58 (.bin .add (t 29) (c (i 1))),
  s 29 (.mv (t 58))]))))))))))
 (.ops [s 59 (.bin .add (t 19) (c (i 1))),
  s 19 (.mv (t 59))])))))))
 (.seq (.ops [s 2 (.mv (c (.bool true)))])
 .ret))))), none, [2], [false]⟩
def i150 : Comp := ⟨(.seq (.ops [s 2 (.mv (c (.bool false)))])
 (.seq (.seq (.ops [s 3 (.mv (c (i 0)))])
 (.block 0 (.loop (.seq (.seq (.ops [s 4 (.mv (t 3)),
  s 5 (.mv (t 0)),
  s 6 (.len true (t 5)),
  s 7 (.bin .lss (t 4) (t 6))])
 (.cond (t 7) .skip (.exit 0)))
 (.seq (.block 1 (.seq (.ops [s 10 (.mv (t 0)),
  s 11 (.mv (t 3)),
  s 12 (.six (t 10) (t 11)),
  s 13 (.bin .lss (t 12) (c (.int .u8 (97)))),
  s 14 (.mv (t 13)),
  sg [(14, false)] 15 (.mv (t 0)),
  sg [(14, false)] 16 (.mv (t 3)),
  sg [(14, false)] 17 (.six (t 15) (t 16)),
  sg [(14, false)] 18 (.bin .gtr (t 17) (c (.int .u8 (122)))),
  s 19 (.pick (t 14) (c (.bool true)) (t 18))])
 (.cond (t 19) (.seq (.ops [s 2 (.mv (c (.bool false)))])
 .ret) .skip)))
 (.ops [s 8 (.mv (t 3)),
  s 9 (.bin .add (t 8) (c (i 1))),
  s 3 (.mv (t 9))]))))))
 (.seq (.ops [s 20 (.mv (t 0)),
  s 21 (.len true (t 20)),
  k 22 99 [(t 21), (c (i 1)), (c (i 8))] .sc,
  s 2 (.mv (t 22))])
 .ret))), none, [2], [true]⟩
def i151 : Comp := ⟨(.seq (.ops [s 2 (.mv (c (.bool false)))])
 (.seq (.ops [s 7 (.mv (t 0)),
  k 8 169 [(t 7)] .lin,
  s 3 (.mv (t 8))])
 (.seq (.seq (.ops [s 4 (.mv (c (i 0)))])
 (.block 0 (.loop (.seq (.seq (.ops [s 9 (.mv (t 4)),
  s 10 (.mv (t 3)),
  s 11 (.len false (t 10)),
  s 12 (.bin .lss (t 9) (t 11))])
 (.cond (t 12) .skip (.exit 0)))
 (.seq (.block 1 (.seq (.ops [s 5 (.mv (c (i 0)))])
 (.block 2 (.loop (.seq (.seq (.ops [s 15 (.mv (t 5)),
  s 16 (.mv (t 4)),
  s 17 (.bin .lss (t 15) (t 16))])
 (.cond (t 17) .skip (.exit 2)))
 (.seq (.block 3 (.seq (.ops [s 6 (.mv (c (i 0)))])
 (.seq (.seq (.ops [s 20 (.mv (t 5)),
  s 21 (.bin .add (t 20) (c (i 1))),
  s 22 (.mv (t 4)),
  s 23 (.bin .eql (t 21) (t 22))])
 (.cond (t 23) (.ops [s 6 (.mv (c (i 1)))]) .skip))
 (.seq (.ops [s 24 (.mv (t 3)),
  s 25 (.mv (t 4)),
  s 26 (.idx (t 24) (t 25) 4),
  s 27 (.ldE 24 26 0 4 true true 4),
  s 28 (.mv (t 3)),
  s 29 (.mv (t 5)),
  s 30 (.idx (t 28) (t 29) 4),
  s 31 (.ldE 28 30 0 4 true true 4),
  k 32 181 [(t 27), (t 31)] .sc,
  s 33 (.mv (t 6)),
  s 34 (.bin .neq (t 32) (t 33))])
 (.cond (t 34) (.seq (.ops [s 2 (.mv (c (.bool false)))])
 .ret) .skip)))))
 (.ops [s 18 (.mv (t 5)),
  s 19 (.bin .add (t 18) (c (i 1))),
  s 5 (.mv (t 19))])))))))
 (.ops [s 13 (.mv (t 4)),
  s 14 (.bin .add (t 13) (c (i 1))),
  s 4 (.mv (t 14))]))))))
 (.seq (.ops [s 35 (.mv (t 0)),
  k 36 182 [(t 35)] .sc,
  s 2 (.mv (t 36))])
 .ret)))), none, [2], [false]⟩
def i152 : Comp := ⟨(.seq (.ops [s 2 (.mv (c (.bool false)))])
 (.seq (.seq (.ops [s 7 (.mv (t 0)),
  s 8 (.len false (t 7)),
  k 9 99 [(t 8), (c (i 3)), (c (i 10))] .sc,
  s 10 (.not (t 9))])
 (.cond (t 10) (.seq (.ops [s 2 (.mv (c (.bool false)))])
 .ret) .skip))
 (.seq (.ops [s 11 (.mv (t 0)),
  k 12 183 [(t 11)] .lin,
  s 3 (.mv (t 12))])
 (.seq (.seq (.ops [s 4 (.mv (c (i 0)))])
 (.block 0 (.loop (.seq (.seq (.ops [s 13 (.mv (t 4)),
  s 14 (.mv (t 3)),
  s 15 (.len false (t 14)),
  s 16 (.bin .lss (t 13) (t 15))])
 (.cond (t 16) .skip (.exit 0)))
 (.seq (.block 1 (.seq (.seq (.ops [s 19 (.mv (t 3)),
  s 20 (.mv (t 4)),
  s 21 (.idx (t 19) (t 20) 4),
  s 22 (.ldE 19 21 0 4 true true 4),
  k 23 184 [(t 22)] .sc,
  s 24 (.not (t 23))])
 (.cond (t 24) (.seq (.ops [s 2 (.mv (c (.bool false)))])
 .ret) .skip))
 (.seq (.ops [s 5 (.mv (c (i 0)))])
 (.block 2 (.loop (.seq (.seq (.ops [s 25 (.mv (t 5)),
  s 26 (.mv (t 4)),
  s 27 (.bin .lss (t 25) (t 26))])
 (.cond (t 27) .skip (.exit 2)))
 (.seq (.block 3 (.seq (.ops [s 6 (.mv (c (i 0)))])
 (.seq (.seq (.ops [s 30 (.mv (t 5)),
  s 31 (.bin .add (t 30) (c (i 1))),
  s 32 (.mv (t 4)),
  s 33 (.bin .eql (t 31) (t 32)),
  s 34 (.mv (t 33)),
  sg [(34, false)] 35 (.mv (t 5)),
  sg [(34, false)] 36 (.bin .eql (t 35) (c (i 0))),
  sg [(34, false)] 37 (.mv (t 36)),
  sg [(37, true), (34, false)] 38 (.mv (t 4)),
  sg [(37, true), (34, false)] 39 (.bin .add (t 38) (c (i 1))),
  sg [(37, true), (34, false)] 40 (.mv (t 3)),
  sg [(37, true), (34, false)] 41 (.len false (t 40)),
  sg [(37, true), (34, false)] 42 (.bin .eql (t 39) (t 41)),
  sg [(34, false)] 43 (.pick (t 37) (t 42) (c (.bool false))),
  s 44 (.pick (t 34) (c (.bool true)) (t 43))])
 (.cond (t 44) (.ops [s 6 (.mv (c (i 1)))]) .skip))
 (.seq (.ops [s 45 (.mv (t 3)),
  s 46 (.mv (t 4)),
  s 47 (.idx (t 45) (t 46) 4),
  s 48 (.ldE 45 47 0 4 true true 4),
  s 49 (.mv (t 3)),
  s 50 (.mv (t 5)),
  s 51 (.idx (t 49) (t 50) 4),
  s 52 (.ldE 49 51 0 4 true true 4),
  k 53 181 [(t 48), (t 52)] .sc,
  s 54 (.mv (t 6)),
  s 55 (.bin .neq (t 53) (t 54))])
 (.cond (t 55) (.seq (.ops [s 2 (.mv (c (.bool false)))])
 .ret) .skip)))))
 (.ops [s 28 (.mv (t 5)),
  s 29 (.bin .add (t 28) (c (i 1))),
  s 5 (.mv (t 29))]))))))))
 (.ops [s 17 (.mv (t 4)),
  s 18 (.bin .add (t 17) (c (i 1))),
  s 4 (.mv (t 18))]))))))
 (.seq (.ops [s 2 (.mv (c (.bool true)))])
 .ret))))), none, [2], [false]⟩
def i154 : Comp := ⟨(.seq (.ops [s 3 (.box 2 (t 0)),
  s 6 (.alc [(i 0), (i 0)]),
  s 7 (.mv (c (.bool false)))])
 (.seq (.seq (.ops [s 9 (.ldB 3 0 2 true true),
  k 10 79 [(t 9)] .sc,
  s 11 (.not (t 10)),
  s 12 (.mv (t 11)),
  sg [(12, false)] 13 (.mv (t 1)),
  kg [(12, false)] 14 99 [(t 13), (c (i (-1000))), (c (i 1000))] .sc,
  sg [(12, false)] 15 (.not (t 14)),
  s 16 (.pick (t 12) (c (.bool true)) (t 15)),
  s 17 (.mv (t 16)),
  sg [(17, false)] 18 (.mv (t 2)),
  kg [(17, false)] 19 99 [(t 18), (c (i (-1000))), (c (i 1000))] .sc,
  sg [(17, false)] 20 (.not (t 19)),
  s 21 (.pick (t 17) (c (.bool true)) (t 20))])
 (.cond (t 21) (.seq (.ops [s 22 (.ldB 3 0 2 true true),
  s 6 (.stB 6 0 2 (t 22) false),
  s 7 (.mv (c (.bool false)))])
 .ret) .skip))
 (.seq (.ops [s 23 (.mv (c (i 0))),
  s 24 (.ldB 3 0 1 false true),
  s 25 (.mv (t 1)),
  s 26 (.bin .add (t 24) (t 25)),
  s 27 (.mv (c (i 0))),
  s 28 (.ldB 3 1 1 false true),
  s 29 (.mv (t 2)),
  s 30 (.bin .add (t 28) (t 29)),
  s 31 (.bld [(i 0), (i 0)] [(0, 1, (t 26)), (1, 1, (t 30))]),
  s 8 (.alc [(i 0), (i 0)]),
  s 8 (.stB 8 0 2 (t 31) false)])
 (.seq (.seq (.ops [s 32 (.ldB 8 0 2 true true),
  k 33 79 [(t 32)] .sc,
  s 34 (.not (t 33))])
 (.cond (t 34) (.seq (.ops [s 35 (.ldB 3 0 2 true true),
  s 6 (.stB 6 0 2 (t 35) false),
  s 7 (.mv (c (.bool false)))])
 .ret) .skip))
 (.seq (.ops [s 36 (.ldB 8 0 2 true true),
  s 6 (.stB 6 0 2 (t 36) false),
  s 7 (.mv (c (.bool true)))])
 .ret))))), (some ⟨6, 30, 2, true⟩), [7], [true, true, true]⟩
def i157 : Comp := ⟨(.seq (.ops [s 3 (.box 2 (t 0)),
  s 6 (.alc [(i 0), (i 0)]),
  s 7 (.mv (c (.bool false)))])
 (.seq (.ops [s 9 (.mv (c (i 0))),
  s 10 (.ldB 3 0 1 false true),
  s 11 (.mv (t 1)),
  s 12 (.bin .add (t 10) (t 11)),
  s 13 (.mv (c (i 0))),
  s 14 (.ldB 3 1 1 false true),
  s 15 (.mv (t 2)),
  s 16 (.bin .add (t 14) (t 15)),
  s 17 (.bld [(i 0), (i 0)] [(0, 1, (t 12)), (1, 1, (t 16))]),
  s 8 (.alc [(i 0), (i 0)]),
  s 8 (.stB 8 0 2 (t 17) false)])
 (.seq (.seq (.ops [s 18 (.ldB 3 0 2 true true),
  k 19 83 [(t 18)] .sc,
  s 20 (.not (t 19)),
  s 21 (.mv (t 20)),
  sg [(21, false)] 22 (.mv (t 1)),
  kg [(21, false)] 23 97 [(t 22), (c (i (-1000))), (c (i 1000))] .sc,
  sg [(21, false)] 24 (.not (t 23)),
  s 25 (.pick (t 21) (c (.bool true)) (t 24)),
  s 26 (.mv (t 25)),
  sg [(26, false)] 27 (.mv (t 2)),
  kg [(26, false)] 28 97 [(t 27), (c (i (-1000))), (c (i 1000))] .sc,
  sg [(26, false)] 29 (.not (t 28)),
  s 30 (.pick (t 26) (c (.bool true)) (t 29)),
  s 31 (.mv (t 30)),
  sg [(31, false)] 32 (.ldB 8 0 2 true true),
  kg [(31, false)] 33 83 [(t 32)] .sc,
  sg [(31, false)] 34 (.not (t 33)),
  s 35 (.pick (t 31) (c (.bool true)) (t 34))])
 (.cond (t 35) (.seq (.ops [s 36 (.ldB 3 0 2 true true),
  s 6 (.stB 6 0 2 (t 36) false),
  s 7 (.mv (c (.bool false)))])
 .ret) .skip))
 (.seq (.ops [s 37 (.ldB 8 0 2 true true),
  s 6 (.stB 6 0 2 (t 37) false),
  s 7 (.mv (c (.bool true)))])
 .ret)))), (some ⟨6, 30, 2, true⟩), [7], [true, true, true]⟩
def i158 : Comp := ⟨(.seq (.ops [s 4 (.mv (c (i 0)))])
 (.seq (.seq (.ops [s 6 (.mv (t 0)),
  s 7 (.len false (t 6)),
  s 8 (.mv (c (i 0)))])
 (.block 0 (.loop (.seq (.ops [s 9 (.bin .lss (t 8) (t 7))])
 (.seq (.cond (t 9) .skip (.exit 0))
 (.seq (.block 1 (.seq (.ops [s 10 (.mv (t 8)),
  s 5 (.mv (t 10))])
 (.seq (.ops [s 11 (.mv (t 1)),
  s 12 (.mv (t 0)),
  s 13 (.mv (t 5)),
  s 14 (.idx (t 12) (t 13) 5),
  s 15 (.ldE 12 14 0 5 true false 5),
  v 16 (t 11) [(t 15)]])
 (.cond (t 16) (.seq (.ops [s 17 (.mv (t 5)),
  s 4 (.mv (t 17))])
 .ret) .skip))))
 (.ops [s 18 (.bin .add (t 8) (c (i 1))),
  s 8 (.mv (t 18))])))))))
 (.seq (.ops [s 4 (.mv (c (i (-1))))])
 .ret))), none, [4], [false, false]⟩
def i159 : Comp := ⟨(.seq (.ops [s 2 (.box 5 (t 0)),
  s 3 (.mv (c (.bool false)))])
 (.seq (.ops [s 4 (.mv (c (i 0))),
  s 5 (.ldB 2 0 1 false true),
  s 6 (.ldB 1 0 1 false true),
  s 7 (.bin .eql (t 5) (t 6)),
  s 3 (.mv (t 7))])
 .ret)), none, [3], [false, false]⟩
def i169 : Comp := ⟨(.seq (.ops [s 2 (.mv (c (.lst 4 true [])))])
 (.seq (.ops [s 5 (.bsl 4 []),
  s 3 (.mv (t 5))])
 (.seq (.seq (.ops [s 4 (.mv (c (i 1)))])
 (.block 0 (.loop (.seq (.seq (.ops [s 6 (.mv (t 4)),
  s 7 (.mv (t 0)),
  s 8 (.len false (t 7)),
  s 9 (.bin .lss (t 6) (t 8)),
  s 10 (.mv (t 9)),
  sg [(10, true)] 11 (.mv (t 0)),
  kg [(10, true)] 12 182 [(t 11)] .sc,
  s 13 (.pick (t 10) (t 12) (c (.bool false)))])
 (.cond (t 13) .skip (.exit 0)))
 (.seq (.block 1 (.ops [s 16 (.mv (t 3)),
  s 17 (.mv (t 0)),
  s 18 (.mv (t 4)),
  s 19 (.bin .sub (t 18) (c (i 1))),
  s 20 (.idx (t 17) (t 19) 2),
  s 21 (.ldE 17 20 0 2 true true 2),
  s 22 (.mv (t 0)),
  s 23 (.mv (t 4)),
  s 24 (.idx (t 22) (t 23) 2),
  s 25 (.ldE 22 24 0 2 true true 2),
  s 26 (.bld [(i 0), (i 0), (i 0), (i 0)] [(0, 2, (t 21)), (2, 2, (t 25))]),
  s 27 (.bsl 4 [(t 26)]),
  s 28 (.app (t 16) (t 27) 4 32),
  s 3 (.mv (t 28))]))
 (.ops [s 14 (.mv (t 4)),
  s 15 (.bin .add (t 14) (c (i 1))),
  s 4 (.mv (t 15))]))))))
 (.seq (.ops [s 29 (.mv (t 3)),
  s 2 (.mv (t 29))])
 .ret)))), none, [2], [false]⟩
def i171 : Comp := ⟨(.seq (.ops [s 2 (.mv (c (.lst 4 true [])))])
 (.seq (.ops [s 5 (.bsl 4 []),
  s 3 (.mv (t 5))])
 (.seq (.seq (.ops [s 6 (.mv (t 0)),
  k 7 177 [(t 6)] .sc,
  s 8 (.not (t 7))])
 (.cond (t 8) (.seq (.ops [s 9 (.mv (t 3)),
  s 2 (.mv (t 9))])
 .ret) .skip))
 (.seq (.seq (.ops [s 4 (.mv (c (i 1)))])
 (.block 0 (.loop (.seq (.seq (.ops [s 10 (.mv (t 4)),
  s 11 (.mv (t 0)),
  s 12 (.len false (t 11)),
  s 13 (.bin .lss (t 10) (t 12))])
 (.cond (t 13) .skip (.exit 0)))
 (.seq (.block 1 (.ops [s 16 (.mv (t 3)),
  s 17 (.mv (t 0)),
  s 18 (.mv (t 4)),
  s 19 (.bin .sub (t 18) (c (i 1))),
  s 20 (.idx (t 17) (t 19) 2),
  s 21 (.ldE 17 20 0 2 true true 2),
  s 22 (.mv (t 0)),
  s 23 (.mv (t 4)),
  s 24 (.idx (t 22) (t 23) 2),
  s 25 (.ldE 22 24 0 2 true true 2),
  s 26 (.bld [(i 0), (i 0), (i 0), (i 0)] [(0, 2, (t 21)), (2, 2, (t 25))]),
  s 27 (.bsl 4 [(t 26)]),
  s 28 (.app (t 16) (t 27) 4 32),
  s 3 (.mv (t 28))]))
 (.ops [s 14 (.mv (t 4)),
  s 15 (.bin .add (t 14) (c (i 1))),
  s 4 (.mv (t 15))]))))))
 (.seq (.ops [s 29 (.mv (t 3)),
  s 2 (.mv (t 29))])
 .ret))))), none, [2], [false]⟩
def i177 : Comp := ⟨(.seq (.ops [s 2 (.mv (c (.bool false)))])
 (.seq (.seq (.ops [s 5 (.mv (t 0)),
  s 6 (.len false (t 5)),
  s 7 (.bin .lss (t 6) (c (i 2))),
  s 8 (.mv (t 7)),
  sg [(8, false)] 9 (.mv (t 0)),
  sg [(8, false)] 10 (.len false (t 9)),
  sg [(8, false)] 11 (.bin .gtr (t 10) (c (i 10))),
  s 12 (.pick (t 8) (c (.bool true)) (t 11))])
 (.cond (t 12) (.seq (.ops [s 2 (.mv (c (.bool false)))])
 .ret) .skip))
 (.seq (.seq (.ops [s 13 (.mv (t 0)),
  s 14 (.len false (t 13)),
  s 15 (.mv (c (i 0)))])
 (.block 0 (.loop (.seq (.ops [s 16 (.bin .lss (t 15) (t 14))])
 (.seq (.cond (t 16) .skip (.exit 0))
 (.seq (.block 1 (.seq (.ops [s 17 (.mv (t 15)),
  s 18 (.idx (t 13) (t 15) 2),
  s 19 (.ldE 13 18 0 2 true true 2),
  s 4 (.alc [(i 0), (i 0)]),
  s 3 (.mv (t 17)),
  s 4 (.stB 4 0 2 (t 19) false)])
 (.seq (.ops [s 20 (.ldB 4 0 2 true true),
  k 21 83 [(t 20)] .sc,
  s 22 (.not (t 21)),
  s 23 (.mv (t 22)),
  sg [(23, false)] 24 (.mv (t 3)),
  sg [(23, false)] 25 (.bin .gtr (t 24) (c (i 0))),
  sg [(23, false)] 26 (.mv (t 25)),
  sg [(26, true), (23, false)] 27 (.ldB 4 0 2 true true),
  sg [(26, true), (23, false)] 28 (.mv (t 0)),
  sg [(26, true), (23, false)] 29 (.mv (t 3)),
  sg [(26, true), (23, false)] 30 (.bin .sub (t 29) (c (i 1))),
  sg [(26, true), (23, false)] 31 (.idx (t 28) (t 30) 2),
  sg [(26, true), (23, false)] 32 (.ldE 28 31 0 2 true true 2),
  sg [(26, true), (23, false)] 33 (.eqa false [0, 0] (t 27) (t 32)),
  sg [(23, false)] 34 (.pick (t 26) (t 33) (c (.bool false))),
  s 35 (.pick (t 23) (c (.bool true)) (t 34))])
 (.cond (t 35) (.seq (.ops [s 2 (.mv (c (.bool false)))])
 .ret) .skip))))
 (.ops [s 36 (.bin .add (t 15) (c (i 1))),
  s 15 (.mv (t 36))])))))))
 (.seq (.ops [s 2 (.mv (c (.bool true)))])
 .ret)))), none, [2], [false]⟩
def i178 : Comp := ⟨(.seq (.ops [s 2 (.box 4 (t 0)),
  s 3 (.box 4 (t 1)),
  s 4 (.mv (c (i 0)))])
 (.seq (.seq (.ops [s 9 (.ldB 2 0 4 true true),
  k 10 180 [(t 9)] .sc,
  s 11 (.not (t 10)),
  s 12 (.mv (t 11)),
  sg [(12, false)] 13 (.ldB 3 0 4 true true),
  kg [(12, false)] 14 180 [(t 13)] .sc,
  sg [(12, false)] 15 (.not (t 14)),
  s 16 (.pick (t 12) (c (.bool true)) (t 15))])
 (.cond (t 16) (.seq (.ops [s 4 (.mv (c (i 0)))])
 .ret) .skip))
 (.seq (.ops [s 17 (.mv (c (i 0))),
  s 18 (.ldB 2 0 2 true true),
  s 19 (.mv (c (i 0))),
  s 20 (.ldB 2 2 2 true true),
  s 21 (.mv (c (i 0))),
  s 22 (.ldB 3 0 2 true true),
  k 23 218 [(t 18), (t 20), (t 22)] .sc,
  s 24 (.mv (c (i 0))),
  s 25 (.ldB 2 0 2 true true),
  s 26 (.mv (c (i 0))),
  s 27 (.ldB 2 2 2 true true),
  s 28 (.mv (c (i 0))),
  s 29 (.ldB 3 2 2 true true),
  k 30 218 [(t 25), (t 27), (t 29)] .sc,
  s 5 (.mv (t 23)),
  s 6 (.mv (t 30))])
 (.seq (.seq (.ops [s 31 (.mv (t 5)),
  s 32 (.bin .eql (t 31) (c (i 0))),
  s 33 (.mv (t 32)),
  sg [(33, true)] 34 (.mv (t 6)),
  sg [(33, true)] 35 (.bin .eql (t 34) (c (i 0))),
  s 36 (.pick (t 33) (t 35) (c (.bool false)))])
 (.cond (t 36) (.seq (.ops [s 37 (.ldB 2 0 4 true true),
  k 38 219 [(t 37)] .sc,
  s 39 (.ldB 3 0 4 true true),
  k 40 219 [(t 39)] .sc,
  s 2 (.stB 2 0 4 (t 38) false),
  s 3 (.stB 3 0 4 (t 40) false)])
 (.seq (.ops [s 41 (.mv (c (i 0))),
  s 42 (.ldB 2 0 2 true true),
  s 43 (.mv (c (i 0))),
  s 44 (.ldB 2 2 2 true true),
  s 7 (.alc [(i 0), (i 0)]),
  s 8 (.alc [(i 0), (i 0)]),
  s 7 (.stB 7 0 2 (t 42) false),
  s 8 (.stB 8 0 2 (t 44) false)])
 (.seq (.seq (.ops [s 45 (.ldB 7 0 2 true true),
  s 46 (.mv (c (i 0))),
  s 47 (.ldB 3 0 2 true true),
  k 48 132 [(t 45), (t 47)] .sc])
 (.cond (t 48) (.ops [s 49 (.mv (c (i 0))),
  s 50 (.ldB 3 0 2 true true),
  s 7 (.stB 7 0 2 (t 50) false)]) .skip))
 (.seq (.seq (.ops [s 51 (.mv (c (i 0))),
  s 52 (.ldB 3 2 2 true true),
  s 53 (.ldB 8 0 2 true true),
  k 54 132 [(t 52), (t 53)] .sc])
 (.cond (t 54) (.ops [s 55 (.mv (c (i 0))),
  s 56 (.ldB 3 2 2 true true),
  s 8 (.stB 8 0 2 (t 56) false)]) .skip))
 (.seq (.block 0 (.seq (.ops [s 58 (.ldB 8 0 2 true true),
  s 59 (.ldB 7 0 2 true true),
  k 60 132 [(t 58), (t 59)] .sc,
  s 57 (.mv (t 60))])
 (.cond (t 57) (.seq (.ops [s 4 (.mv (c (i 0)))])
 .ret) (.seq (.ops [s 62 (.ldB 7 0 2 true true),
  s 63 (.ldB 8 0 2 true true),
  s 64 (.eqa false [0, 0] (t 62) (t 63)),
  s 61 (.mv (t 64))])
 (.cond (t 61) (.seq (.ops [s 4 (.mv (c (i 1)))])
 .ret) .skip)))))
 (.seq (.ops [s 4 (.mv (c (i 3)))])
 .ret)))))) .skip))
 (.seq (.seq (.ops [s 65 (.mv (t 5)),
  s 66 (.mv (t 6)),
  s 67 (.bin .mul (t 65) (t 66)),
  s 68 (.bin .lss (t 67) (c (i 0))),
  s 69 (.mv (t 68)),
  sg [(69, true)] 70 (.mv (c (i 0))),
  sg [(69, true)] 71 (.ldB 3 0 2 true true),
  sg [(69, true)] 72 (.mv (c (i 0))),
  sg [(69, true)] 73 (.ldB 3 2 2 true true),
  sg [(69, true)] 74 (.mv (c (i 0))),
  sg [(69, true)] 75 (.ldB 2 0 2 true true),
  kg [(69, true)] 76 218 [(t 71), (t 73), (t 75)] .sc,
  sg [(69, true)] 77 (.mv (c (i 0))),
  sg [(69, true)] 78 (.ldB 3 0 2 true true),
  sg [(69, true)] 79 (.mv (c (i 0))),
  sg [(69, true)] 80 (.ldB 3 2 2 true true),
  sg [(69, true)] 81 (.mv (c (i 0))),
  sg [(69, true)] 82 (.ldB 2 2 2 true true),
  kg [(69, true)] 83 218 [(t 78), (t 80), (t 82)] .sc,
  sg [(69, true)] 84 (.bin .mul (t 76) (t 83)),
  sg [(69, true)] 85 (.bin .lss (t 84) (c (i 0))),
  s 86 (.pick (t 69) (t 85) (c (.bool false)))])
 (.cond (t 86) (.seq (.ops [s 4 (.mv (c (i 2)))])
 .ret) .skip))
 (.seq (.seq (.ops [s 87 (.ldB 2 0 4 true true),
  s 88 (.mv (c (i 0))),
  s 89 (.ldB 3 0 2 true true),
  k 90 220 [(t 87), (t 89)] .sc,
  s 91 (.mv (t 90)),
  sg [(91, false)] 92 (.ldB 2 0 4 true true),
  sg [(91, false)] 93 (.mv (c (i 0))),
  sg [(91, false)] 94 (.ldB 3 2 2 true true),
  kg [(91, false)] 95 220 [(t 92), (t 94)] .sc,
  s 96 (.pick (t 91) (c (.bool true)) (t 95)),
  s 97 (.mv (t 96)),
  sg [(97, false)] 98 (.ldB 3 0 4 true true),
  sg [(97, false)] 99 (.mv (c (i 0))),
  sg [(97, false)] 100 (.ldB 2 0 2 true true),
  kg [(97, false)] 101 220 [(t 98), (t 100)] .sc,
  s 102 (.pick (t 97) (c (.bool true)) (t 101)),
  s 103 (.mv (t 102)),
  sg [(103, false)] 104 (.ldB 3 0 4 true true),
  sg [(103, false)] 105 (.mv (c (i 0))),
  sg [(103, false)] 106 (.ldB 2 2 2 true true),
  kg [(103, false)] 107 220 [(t 104), (t 106)] .sc,
  s 108 (.pick (t 103) (c (.bool true)) (t 107))])
 (.cond (t 108) (.seq (.ops [s 4 (.mv (c (i 1)))])
 .ret) .skip))
 (.seq (.ops [s 4 (.mv (c (i 0)))])
 .ret))))))), none, [4], [true, true]⟩
def i179 : Comp := ⟨(.seq (.ops [s 2 (.mv (c (.lst 4 true [])))])
 (.seq (.ops [s 6 (.bsl 4 []),
  s 3 (.mv (t 6))])
 (.seq (.seq (.ops [s 7 (.mv (t 0)),
  s 8 (.len false (t 7)),
  s 9 (.mv (c (i 0)))])
 (.block 0 (.loop (.seq (.ops [s 10 (.bin .lss (t 9) (t 8))])
 (.seq (.cond (t 10) .skip (.exit 0))
 (.seq (.block 1 (.seq (.ops [s 11 (.mv (t 9)),
  s 12 (.idx (t 7) (t 9) 2),
  s 13 (.ldE 7 12 0 2 true true 2),
  s 5 (.alc [(i 0), (i 0)]),
  s 4 (.mv (t 11)),
  s 5 (.stB 5 0 2 (t 13) false)])
 (.ops [s 14 (.mv (t 3)),
  s 15 (.ldB 5 0 2 true true),
  s 16 (.mv (t 0)),
  s 17 (.mv (t 4)),
  s 18 (.bin .add (t 17) (c (i 1))),
  s 19 (.mv (t 0)),
  s 20 (.len false (t 19)),
  s 21 (.bin .rem (t 18) (t 20)),
  s 22 (.idx (t 16) (t 21) 2),
  s 23 (.ldE 16 22 0 2 true true 2),
  s 24 (.bld [(i 0), (i 0), (i 0), (i 0)] [(0, 2, (t 15)), (2, 2, (t 23))]),
  s 25 (.bsl 4 [(t 24)]),
  s 26 (.app (t 14) (t 25) 4 32),
  s 3 (.mv (t 26))])))
 (.ops [s 27 (.bin .add (t 9) (c (i 1))),
  s 9 (.mv (t 27))])))))))
 (.seq (.ops [s 28 (.mv (t 3)),
  s 2 (.mv (t 28))])
 .ret)))), none, [2], [false]⟩
def i180 : Comp := ⟨(.seq (.ops [s 1 (.box 4 (t 0)),
  s 2 (.mv (c (.bool false)))])
 (.seq (.ops [s 3 (.mv (c (i 0))),
  s 4 (.ldB 1 0 2 true true),
  k 5 83 [(t 4)] .sc,
  s 6 (.mv (t 5)),
  sg [(6, true)] 7 (.mv (c (i 0))),
  sg [(6, true)] 8 (.ldB 1 2 2 true true),
  kg [(6, true)] 9 83 [(t 8)] .sc,
  s 10 (.pick (t 6) (t 9) (c (.bool false))),
  s 11 (.mv (t 10)),
  sg [(11, true)] 12 (.mv (c (i 0))),
  sg [(11, true)] 13 (.ldB 1 0 2 true true),
  sg [(11, true)] 14 (.mv (c (i 0))),
  sg [(11, true)] 15 (.ldB 1 2 2 true true),
  sg [(11, true)] 16 (.eqa true [0, 0] (t 13) (t 15)),
  s 17 (.pick (t 11) (t 16) (c (.bool false))),
  s 2 (.mv (t 17))])
 .ret)), none, [2], [true]⟩
def i181 : Comp := ⟨(.seq (.ops [s 2 (.box 4 (t 0)),
  s 3 (.box 4 (t 1)),
  s 4 (.mv (c (i 0)))])
 (.seq (.seq (.ops [s 5 (.ldB 2 0 4 true true),
  k 6 184 [(t 5)] .sc,
  s 7 (.not (t 6)),
  s 8 (.mv (t 7)),
  sg [(8, false)] 9 (.ldB 3 0 4 true true),
  kg [(8, false)] 10 184 [(t 9)] .sc,
  sg [(8, false)] 11 (.not (t 10)),
  s 12 (.pick (t 8) (c (.bool true)) (t 11))])
 (.cond (t 12) (.seq (.ops [s 4 (.mv (c (i 0)))])
 .ret) .skip))
 (.seq (.seq (.ops [s 13 (.mv (c (i 0))),
  s 14 (.mv (t 13)),
  s 15 (.ldB 2 0 1 false true),
  s 16 (.mv (c (i 0))),
  s 17 (.mv (t 16)),
  s 18 (.ldB 2 2 1 false true),
  k 19 211 [(t 15), (t 18)] .sc,
  s 20 (.mv (c (i 0))),
  s 21 (.mv (t 20)),
  s 22 (.ldB 3 0 1 false true),
  s 23 (.mv (c (i 0))),
  s 24 (.mv (t 23)),
  s 25 (.ldB 3 2 1 false true),
  k 26 221 [(t 22), (t 25)] .sc,
  s 27 (.bin .lss (t 19) (t 26)),
  s 28 (.mv (t 27)),
  sg [(28, false)] 29 (.mv (c (i 0))),
  sg [(28, false)] 30 (.mv (t 29)),
  sg [(28, false)] 31 (.ldB 3 0 1 false true),
  sg [(28, false)] 32 (.mv (c (i 0))),
  sg [(28, false)] 33 (.mv (t 32)),
  sg [(28, false)] 34 (.ldB 3 2 1 false true),
  kg [(28, false)] 35 211 [(t 31), (t 34)] .sc,
  sg [(28, false)] 36 (.mv (c (i 0))),
  sg [(28, false)] 37 (.mv (t 36)),
  sg [(28, false)] 38 (.ldB 2 0 1 false true),
  sg [(28, false)] 39 (.mv (c (i 0))),
  sg [(28, false)] 40 (.mv (t 39)),
  sg [(28, false)] 41 (.ldB 2 2 1 false true),
  kg [(28, false)] 42 221 [(t 38), (t 41)] .sc,
  sg [(28, false)] 43 (.bin .lss (t 35) (t 42)),
  s 44 (.pick (t 28) (c (.bool true)) (t 43)),
  s 45 (.mv (t 44)),
  sg [(45, false)] 46 (.mv (c (i 0))),
  sg [(45, false)] 47 (.mv (t 46)),
  sg [(45, false)] 48 (.ldB 2 1 1 false true),
  sg [(45, false)] 49 (.mv (c (i 0))),
  sg [(45, false)] 50 (.mv (t 49)),
  sg [(45, false)] 51 (.ldB 2 3 1 false true),
  kg [(45, false)] 52 211 [(t 48), (t 51)] .sc,
  sg [(45, false)] 53 (.mv (c (i 0))),
  sg [(45, false)] 54 (.mv (t 53)),
  sg [(45, false)] 55 (.ldB 3 1 1 false true),
  sg [(45, false)] 56 (.mv (c (i 0))),
  sg [(45, false)] 57 (.mv (t 56)),
  sg [(45, false)] 58 (.ldB 3 3 1 false true),
  kg [(45, false)] 59 221 [(t 55), (t 58)] .sc,
  sg [(45, false)] 60 (.bin .lss (t 52) (t 59)),
  s 61 (.pick (t 45) (c (.bool true)) (t 60)),
  s 62 (.mv (t 61)),
  sg [(62, false)] 63 (.mv (c (i 0))),
  sg [(62, false)] 64 (.mv (t 63)),
  sg [(62, false)] 65 (.ldB 3 1 1 false true),
  sg [(62, false)] 66 (.mv (c (i 0))),
  sg [(62, false)] 67 (.mv (t 66)),
  sg [(62, false)] 68 (.ldB 3 3 1 false true),
  kg [(62, false)] 69 211 [(t 65), (t 68)] .sc,
  sg [(62, false)] 70 (.mv (c (i 0))),
  sg [(62, false)] 71 (.mv (t 70)),
  sg [(62, false)] 72 (.ldB 2 1 1 false true),
  sg [(62, false)] 73 (.mv (c (i 0))),
  sg [(62, false)] 74 (.mv (t 73)),
  sg [(62, false)] 75 (.ldB 2 3 1 false true),
  kg [(62, false)] 76 221 [(t 72), (t 75)] .sc,
  sg [(62, false)] 77 (.bin .lss (t 69) (t 76)),
  s 78 (.pick (t 62) (c (.bool true)) (t 77))])
 (.cond (t 78) (.seq (.ops [s 4 (.mv (c (i 0)))])
 .ret) .skip))
 (.seq (.seq (.ops [s 79 (.ldB 2 0 4 true true),
  s 80 (.ldB 3 0 4 true true),
  k 81 222 [(t 79), (t 80)] .sc])
 (.block 0 (.seq (.ops [s 83 (.bin .eql (t 81) (c (i 0))),
  s 82 (.mv (t 83))])
 (.cond (t 82) (.seq (.seq (.ops [s 84 (.mv (c (i 0))),
  s 85 (.ldB 2 0 2 true true),
  s 86 (.mv (c (i 0))),
  s 87 (.ldB 2 2 2 true true),
  s 88 (.mv (c (i 0))),
  s 89 (.ldB 3 0 2 true true),
  k 90 223 [(t 85), (t 87), (t 89)] .sc,
  s 91 (.mv (c (i 0))),
  s 92 (.ldB 2 0 2 true true),
  s 93 (.mv (c (i 0))),
  s 94 (.ldB 2 2 2 true true),
  s 95 (.mv (c (i 0))),
  s 96 (.ldB 3 2 2 true true),
  k 97 223 [(t 92), (t 94), (t 96)] .sc,
  s 98 (.bin .mul (t 90) (t 97)),
  s 99 (.bin .lss (t 98) (c (i 0))),
  s 100 (.mv (t 99)),
  sg [(100, true)] 101 (.mv (c (i 0))),
  sg [(100, true)] 102 (.ldB 3 0 2 true true),
  sg [(100, true)] 103 (.mv (c (i 0))),
  sg [(100, true)] 104 (.ldB 3 2 2 true true),
  sg [(100, true)] 105 (.mv (c (i 0))),
  sg [(100, true)] 106 (.ldB 2 0 2 true true),
  kg [(100, true)] 107 223 [(t 102), (t 104), (t 106)] .sc,
  sg [(100, true)] 108 (.mv (c (i 0))),
  sg [(100, true)] 109 (.ldB 3 0 2 true true),
  sg [(100, true)] 110 (.mv (c (i 0))),
  sg [(100, true)] 111 (.ldB 3 2 2 true true),
  sg [(100, true)] 112 (.mv (c (i 0))),
  sg [(100, true)] 113 (.ldB 2 2 2 true true),
  kg [(100, true)] 114 223 [(t 109), (t 111), (t 113)] .sc,
  sg [(100, true)] 115 (.bin .mul (t 107) (t 114)),
  sg [(100, true)] 116 (.bin .lss (t 115) (c (i 0))),
  s 117 (.pick (t 100) (t 116) (c (.bool false)))])
 (.cond (t 117) (.seq (.ops [s 4 (.mv (c (i 2)))])
 .ret) .skip))
 (.seq (.ops [s 4 (.mv (c (i 0)))])
 .ret)) (.seq (.ops [s 119 (.bin .eql (t 81) (c (i 1))),
  s 118 (.mv (t 119))])
 (.cond (t 118) (.seq (.ops [s 4 (.mv (c (i 1)))])
 .ret) .skip))))))
 (.seq (.ops [s 4 (.mv (c (i 3)))])
 .ret))))), none, [4], [true, true]⟩
def i182 : Comp := ⟨(.seq (.ops [s 2 (.mv (c (.bool false)))])
 (.seq (.seq (.ops [s 3 (.mv (c (i 0)))])
 (.block 0 (.loop (.seq (.seq (.ops [s 4 (.mv (t 3)),
  s 5 (.mv (t 0)),
  s 6 (.len false (t 5)),
  s 7 (.bin .lss (t 4) (t 6))])
 (.cond (t 7) .skip (.exit 0)))
 (.seq (.block 1 (.seq (.ops [s 10 (.mv (t 0)),
  s 11 (.mv (t 3)),
  s 12 (.idx (t 10) (t 11) 2),
  s 13 (.ldE 10 12 0 2 true true 2),
  k 14 79 [(t 13)] .sc,
  s 15 (.not (t 14)),
  s 16 (.mv (t 15)),
  sg [(16, false)] 17 (.mv (t 3)),
  sg [(16, false)] 18 (.bin .gtr (t 17) (c (i 0))),
  sg [(16, false)] 19 (.mv (t 18)),
  sg [(19, true), (16, false)] 20 (.mv (t 0)),
  sg [(19, true), (16, false)] 21 (.mv (t 3)),
  sg [(19, true), (16, false)] 22 (.bin .sub (t 21) (c (i 1))),
  sg [(19, true), (16, false)] 23 (.idx (t 20) (t 22) 2),
  sg [(19, true), (16, false)] 24 (.ldE 20 23 0 2 true true 2),
  sg [(19, true), (16, false)] 25 (.mv (t 0)),
  sg [(19, true), (16, false)] 26 (.mv (t 3)),
  sg [(19, true), (16, false)] 27 (.idx (t 25) (t 26) 2),
  sg [(19, true), (16, false)] 28 (.ldE 25 27 0 2 true true 2),
  sg [(19, true), (16, false)] 29 (.eqa false [0, 0] (t 24) (t 28)),
  sg [(16, false)] 30 (.pick (t 19) (t 29) (c (.bool false))),
  s 31 (.pick (t 16) (c (.bool true)) (t 30))])
 (.cond (t 31) (.seq (.ops [s 2 (.mv (c (.bool false)))])
 .ret) .skip)))
 (.ops [s 8 (.mv (t 3)),
  s 9 (.bin .add (t 8) (c (i 1))),
  s 3 (.mv (t 9))]))))))
 (.seq (.ops [s 32 (.mv (t 0)),
  s 33 (.len false (t 32)),
  k 34 99 [(t 33), (c (i 2)), (c (i 10))] .sc,
  s 2 (.mv (t 34))])
 .ret))), none, [2], [false]⟩
def i183 : Comp := ⟨(.seq (.ops [s 2 (.mv (c (.lst 4 true [])))])
 (.seq (.ops [s 5 (.bsl 4 []),
  s 3 (.mv (t 5))])
 (.seq (.seq (.ops [s 4 (.mv (c (i 0)))])
 (.block 0 (.loop (.seq (.seq (.ops [s 6 (.mv (t 4)),
  s 7 (.mv (t 0)),
  s 8 (.len false (t 7)),
  s 9 (.bin .lss (t 6) (t 8))])
 (.cond (t 9) .skip (.exit 0)))
 (.seq (.block 1 (.ops [s 12 (.mv (t 3)),
  s 13 (.mv (t 0)),
  s 14 (.mv (t 4)),
  s 15 (.idx (t 13) (t 14) 2),
  s 16 (.ldE 13 15 0 2 true true 2),
  s 17 (.mv (t 0)),
  s 18 (.mv (t 4)),
  s 19 (.bin .add (t 18) (c (i 1))),
  s 20 (.mv (t 0)),
  s 21 (.len false (t 20)),
  s 22 (.bin .rem (t 19) (t 21)),
  s 23 (.idx (t 17) (t 22) 2),
  s 24 (.ldE 17 23 0 2 true true 2),
  s 25 (.bld [(i 0), (i 0), (i 0), (i 0)] [(0, 2, (t 16)), (2, 2, (t 24))]),
  s 26 (.bsl 4 [(t 25)]),
  s 27 (.app (t 12) (t 26) 4 32),
  s 3 (.mv (t 27))]))
 (.ops [s 10 (.mv (t 4)),
  s 11 (.bin .add (t 10) (c (i 1))),
  s 4 (.mv (t 11))]))))))
 (.seq (.ops [s 28 (.mv (t 3)),
  s 2 (.mv (t 28))])
 .ret)))), none, [2], [false]⟩
def i184 : Comp := ⟨(.seq (.ops [s 1 (.box 4 (t 0)),
  s 2 (.mv (c (.bool false)))])
 (.seq (.ops [s 3 (.mv (c (i 0))),
  s 4 (.ldB 1 0 2 true true),
  k 5 79 [(t 4)] .sc,
  s 6 (.mv (t 5)),
  sg [(6, true)] 7 (.mv (c (i 0))),
  sg [(6, true)] 8 (.ldB 1 2 2 true true),
  kg [(6, true)] 9 79 [(t 8)] .sc,
  s 10 (.pick (t 6) (t 9) (c (.bool false))),
  s 11 (.mv (t 10)),
  sg [(11, true)] 12 (.mv (c (i 0))),
  sg [(11, true)] 13 (.ldB 1 0 2 true true),
  sg [(11, true)] 14 (.mv (c (i 0))),
  sg [(11, true)] 15 (.ldB 1 2 2 true true),
  sg [(11, true)] 16 (.eqa true [0, 0] (t 13) (t 15)),
  s 17 (.pick (t 11) (t 16) (c (.bool false))),
  s 2 (.mv (t 17))])
 .ret)), none, [2], [true]⟩
def i211 : Comp := ⟨(.seq (.ops [s 4 (.mv (c (i 0)))])
 (.seq (.seq (.ops [s 5 (.mv (t 1)),
  s 6 (.mv (t 0)),
  s 7 (.bin .gtr (t 5) (t 6))])
 (.cond (t 7) (.seq (.ops [s 8 (.mv (t 1)),
  s 4 (.mv (t 8))])
 .ret) .skip))
 (.seq (.ops [s 9 (.mv (t 0)),
  s 4 (.mv (t 9))])
 .ret))), none, [4], [true, true]⟩
def i218 : Comp := ⟨(.seq (.ops [s 3 (.box 2 (t 0)),
  s 4 (.box 2 (t 1)),
  s 5 (.box 2 (t 2)),
  s 6 (.mv (c (i 0)))])
 (.seq (.seq (.ops [s 7 (.ldB 3 0 2 true true),
  k 8 83 [(t 7)] .sc,
  s 9 (.not (t 8)),
  s 10 (.mv (t 9)),
  sg [(10, false)] 11 (.ldB 4 0 2 true true),
  kg [(10, false)] 12 83 [(t 11)] .sc,
  sg [(10, false)] 13 (.not (t 12)),
  s 14 (.pick (t 10) (c (.bool true)) (t 13)),
  s 15 (.mv (t 14)),
  sg [(15, false)] 16 (.ldB 5 0 2 true true),
  kg [(15, false)] 17 83 [(t 16)] .sc,
  sg [(15, false)] 18 (.not (t 17)),
  s 19 (.pick (t 15) (c (.bool true)) (t 18))])
 (.cond (t 19) (.seq (.ops [s 6 (.mv (c (i 0)))])
 .ret) .skip))
 (.seq (.ops [s 20 (.ldB 3 0 2 true true),
  s 21 (.ldB 4 0 2 true true),
  s 22 (.ldB 5 0 2 true true),
  k 23 245 [(t 20), (t 21), (t 22)] .sc,
  k 24 244 [(t 23), (c (i 0))] .sc,
  s 6 (.mv (t 24))])
 .ret))), none, [6], [true, true, true]⟩
def i219 : Comp := ⟨(.seq (.ops [s 1 (.box 4 (t 0)),
  s 2 (.alc [(i 0), (i 0), (i 0), (i 0)])])
 (.seq (.seq (.ops [s 3 (.mv (c (i 0))),
  s 4 (.ldB 1 2 2 true true),
  s 5 (.mv (c (i 0))),
  s 6 (.ldB 1 0 2 true true),
  k 7 132 [(t 4), (t 6)] .sc])
 (.cond (t 7) (.seq (.ops [s 8 (.ldB 1 0 4 true true),
  k 9 246 [(t 8)] .sc,
  s 2 (.stB 2 0 4 (t 9) false)])
 .ret) .skip))
 (.seq (.ops [s 10 (.ldB 1 0 4 true true),
  s 2 (.stB 2 0 4 (t 10) false)])
 .ret))), (some ⟨2, 189, 4, true⟩), [], [true]⟩
def i220 : Comp := ⟨(.seq (.ops [s 2 (.box 4 (t 0)),
  s 3 (.box 2 (t 1)),
  s 4 (.mv (c (.bool false)))])
 (.seq (.ops [s 5 (.ldB 2 0 4 true true),
  k 6 180 [(t 5)] .sc,
  s 7 (.mv (t 6)),
  sg [(7, true)] 8 (.ldB 3 0 2 true true),
  kg [(7, true)] 9 83 [(t 8)] .sc,
  s 10 (.pick (t 7) (t 9) (c (.bool false))),
  s 11 (.mv (t 10)),
  sg [(11, true)] 12 (.mv (c (i 0))),
  sg [(11, true)] 13 (.ldB 2 0 2 true true),
  sg [(11, true)] 14 (.mv (c (i 0))),
  sg [(11, true)] 15 (.ldB 2 2 2 true true),
  sg [(11, true)] 16 (.ldB 3 0 2 true true),
  kg [(11, true)] 17 218 [(t 13), (t 15), (t 16)] .sc,
  sg [(11, true)] 18 (.bin .eql (t 17) (c (i 0))),
  s 19 (.pick (t 11) (t 18) (c (.bool false))),
  s 20 (.mv (t 19)),
  sg [(20, true)] 21 (.mv (c (i 0))),
  sg [(20, true)] 22 (.ldB 3 0 1 false true),
  sg [(20, true)] 23 (.mv (c (i 0))),
  sg [(20, true)] 24 (.mv (t 23)),
  sg [(20, true)] 25 (.ldB 2 0 1 false true),
  sg [(20, true)] 26 (.mv (c (i 0))),
  sg [(20, true)] 27 (.mv (t 26)),
  sg [(20, true)] 28 (.ldB 2 2 1 false true),
  sg [(20, true)] 29 (.mn (t 25) (t 28)),
  sg [(20, true)] 30 (.mv (c (i 0))),
  sg [(20, true)] 31 (.mv (t 30)),
  sg [(20, true)] 32 (.ldB 2 0 1 false true),
  sg [(20, true)] 33 (.mv (c (i 0))),
  sg [(20, true)] 34 (.mv (t 33)),
  sg [(20, true)] 35 (.ldB 2 2 1 false true),
  sg [(20, true)] 36 (.mx (t 32) (t 35)),
  kg [(20, true)] 37 97 [(t 22), (t 29), (t 36)] .sc,
  s 38 (.pick (t 20) (t 37) (c (.bool false))),
  s 39 (.mv (t 38)),
  sg [(39, true)] 40 (.mv (c (i 0))),
  sg [(39, true)] 41 (.ldB 3 1 1 false true),
  sg [(39, true)] 42 (.mv (c (i 0))),
  sg [(39, true)] 43 (.mv (t 42)),
  sg [(39, true)] 44 (.ldB 2 1 1 false true),
  sg [(39, true)] 45 (.mv (c (i 0))),
  sg [(39, true)] 46 (.mv (t 45)),
  sg [(39, true)] 47 (.ldB 2 3 1 false true),
  sg [(39, true)] 48 (.mn (t 44) (t 47)),
  sg [(39, true)] 49 (.mv (c (i 0))),
  sg [(39, true)] 50 (.mv (t 49)),
  sg [(39, true)] 51 (.ldB 2 1 1 false true),
  sg [(39, true)] 52 (.mv (c (i 0))),
  sg [(39, true)] 53 (.mv (t 52)),
  sg [(39, true)] 54 (.ldB 2 3 1 false true),
  sg [(39, true)] 55 (.mx (t 51) (t 54)),
  kg [(39, true)] 56 97 [(t 41), (t 48), (t 55)] .sc,
  s 57 (.pick (t 39) (t 56) (c (.bool false))),
  s 4 (.mv (t 57))])
 .ret)), none, [4], [true, true]⟩
def i221 : Comp := ⟨(.seq (.ops [s 4 (.mv (c (i 0)))])
 (.seq (.seq (.ops [s 5 (.mv (t 1)),
  s 6 (.mv (t 0)),
  s 7 (.bin .lss (t 5) (t 6))])
 (.cond (t 7) (.seq (.ops [s 8 (.mv (t 1)),
  s 4 (.mv (t 8))])
 .ret) .skip))
 (.seq (.ops [s 9 (.mv (t 0)),
  s 4 (.mv (t 9))])
 .ret))), none, [4], [true, true]⟩
def i222 : Comp := ⟨(.seq (.ops [s 2 (.box 4 (t 0)),
  s 3 (.box 4 (t 1)),
  s 4 (.mv (c (i 0)))])
 (.seq (.ops [s 10 (.bsl 2 []),
  s 5 (.mv (t 10))])
 (.seq (.ops [s 11 (.mv (c (i 0))),
  s 12 (.ldB 2 0 2 true true),
  s 13 (.mv (c (i 0))),
  s 14 (.ldB 2 2 2 true true),
  s 15 (.mv (c (i 0))),
  s 16 (.ldB 3 0 2 true true),
  s 17 (.mv (c (i 0))),
  s 18 (.ldB 3 2 2 true true),
  s 19 (.bsl 2 [(t 12), (t 14), (t 16), (t 18)]),
  s 6 (.mv (t 19))])
 (.seq (.seq (.ops [s 7 (.mv (c (i 0)))])
 (.block 0 (.loop (.seq (.seq (.ops [s 20 (.mv (t 7)),
  s 21 (.bin .lss (t 20) (c (i 4)))])
 (.cond (t 21) .skip (.exit 0)))
 (.seq (.block 1 (.seq (.ops [s 24 (.mv (t 7)),
  s 25 (.bin .lss (t 24) (c (i 2))),
  s 26 (.mv (t 25)),
  sg [(26, true)] 27 (.ldB 3 0 4 true true),
  sg [(26, true)] 28 (.mv (t 6)),
  sg [(26, true)] 29 (.mv (t 7)),
  sg [(26, true)] 30 (.idx (t 28) (t 29) 2),
  sg [(26, true)] 31 (.ldE 28 30 0 2 true true 2),
  kg [(26, true)] 32 247 [(t 27), (t 31)] .sc,
  s 33 (.pick (t 26) (t 32) (c (.bool false))),
  s 34 (.mv (t 33)),
  sg [(34, false)] 35 (.mv (t 7)),
  sg [(34, false)] 36 (.bin .geq (t 35) (c (i 2))),
  sg [(34, false)] 37 (.mv (t 36)),
  sg [(37, true), (34, false)] 38 (.ldB 2 0 4 true true),
  sg [(37, true), (34, false)] 39 (.mv (t 6)),
  sg [(37, true), (34, false)] 40 (.mv (t 7)),
  sg [(37, true), (34, false)] 41 (.idx (t 39) (t 40) 2),
  sg [(37, true), (34, false)] 42 (.ldE 39 41 0 2 true true 2),
  kg [(37, true), (34, false)] 43 247 [(t 38), (t 42)] .sc,
  sg [(34, false)] 44 (.pick (t 37) (t 43) (c (.bool false))),
  s 45 (.pick (t 34) (c (.bool true)) (t 44)),
  s 8 (.mv (t 45))])
 (.seq (.seq (.ops [s 9 (.mv (c (i 0)))])
 (.block 2 (.loop (.seq (.seq (.ops [s 46 (.mv (t 9)),
  s 47 (.mv (t 5)),
  s 48 (.len false (t 47)),
  s 49 (.bin .lss (t 46) (t 48))])
 (.cond (t 49) .skip (.exit 2)))
 (.seq (.block 3 (.ops [s 52 (.mv (t 8)),
  s 53 (.mv (t 52)),
  sg [(53, true)] 54 (.mv (t 5)),
  sg [(53, true)] 55 (.mv (t 9)),
  sg [(53, true)] 56 (.idx (t 54) (t 55) 2),
  sg [(53, true)] 57 (.ldE 54 56 0 2 true true 2),
  sg [(53, true)] 58 (.mv (t 6)),
  sg [(53, true)] 59 (.mv (t 7)),
  sg [(53, true)] 60 (.idx (t 58) (t 59) 2),
  sg [(53, true)] 61 (.ldE 58 60 0 2 true true 2),
  sg [(53, true)] 62 (.eqa true [0, 0] (t 57) (t 61)),
  s 63 (.pick (t 53) (t 62) (c (.bool false))),
  s 8 (.mv (t 63))]))
 (.ops [s 50 (.mv (t 9)),
  s 51 (.bin .add (t 50) (c (i 1))),
  s 9 (.mv (t 51))]))))))
 (.seq (.ops [s 64 (.mv (t 8))])
 (.cond (t 64) (.ops [s 65 (.mv (t 5)),
  s 66 (.mv (t 6)),
  s 67 (.mv (t 7)),
  s 68 (.idx (t 66) (t 67) 2),
  s 69 (.ldE 66 68 0 2 true true 2),
  s 70 (.bsl 2 [(t 69)]),
  s 71 (.app (t 65) (t 70) 2 16),
  s 5 (.mv (t 71))]) .skip)))))
 (.ops [s 22 (.mv (t 7)),
  s 23 (.bin .add (t 22) (c (i 1))),
  s 7 (.mv (t 23))]))))))
 (.seq (.ops [s 72 (.mv (t 5)),
  s 73 (.len false (t 72)),
  s 4 (.mv (t 73))])
 .ret))))), none, [4], [true, true]⟩
def i223 : Comp := ⟨(.seq (.ops [s 3 (.box 2 (t 0)),
  s 4 (.box 2 (t 1)),
  s 5 (.box 2 (t 2)),
  s 6 (.mv (c (i 0)))])
 (.seq (.seq (.ops [s 8 (.ldB 3 0 2 true true),
  k 9 79 [(t 8)] .sc,
  s 10 (.not (t 9)),
  s 11 (.mv (t 10)),
  sg [(11, false)] 12 (.ldB 4 0 2 true true),
  kg [(11, false)] 13 79 [(t 12)] .sc,
  sg [(11, false)] 14 (.not (t 13)),
  s 15 (.pick (t 11) (c (.bool true)) (t 14)),
  s 16 (.mv (t 15)),
  sg [(16, false)] 17 (.ldB 5 0 2 true true),
  kg [(16, false)] 18 79 [(t 17)] .sc,
  sg [(16, false)] 19 (.not (t 18)),
  s 20 (.pick (t 16) (c (.bool true)) (t 19))])
 (.cond (t 20) (.seq (.ops [s 6 (.mv (c (i 0)))])
 .ret) .skip))
 (.seq (.ops [s 21 (.ldB 3 0 2 true true),
  s 22 (.ldB 4 0 2 true true),
  s 23 (.ldB 5 0 2 true true),
  k 24 248 [(t 21), (t 22), (t 23)] .sc,
  s 7 (.mv (t 24))])
 (.seq (.block 0 (.seq (.ops [s 26 (.mv (t 7)),
  s 27 (.bin .gtr (t 26) (c (i 0))),
  s 25 (.mv (t 27))])
 (.cond (t 25) (.seq (.ops [s 6 (.mv (c (i 1)))])
 .ret) (.seq (.ops [s 29 (.mv (t 7)),
  s 30 (.bin .lss (t 29) (c (i 0))),
  s 28 (.mv (t 30))])
 (.cond (t 28) (.seq (.ops [s 6 (.mv (c (i (-1))))])
 .ret) .skip)))))
 (.seq (.ops [s 6 (.mv (c (i 0)))])
 .ret))))), none, [6], [true, true, true]⟩
def i244 : Comp := ⟨(.seq (.ops [s 4 (.mv (c (i 0)))])
 (.seq (.ops [s 7 (.mv (t 0)),
  k 8 258 [(t 7)] .sc,
  s 5 (.mv (t 8))])
 (.seq (.ops [s 9 (.mv (t 1)),
  k 10 258 [(t 9)] .sc,
  s 6 (.mv (t 10))])
 (.seq (.seq (.ops [s 11 (.mv (t 5))])
 (.cond (t 11) (.seq (.seq (.ops [s 12 (.mv (t 6))])
 (.cond (t 12) (.seq (.ops [s 4 (.mv (c (i 0)))])
 .ret) .skip))
 (.seq (.ops [s 4 (.mv (c (i (-1))))])
 .ret)) .skip))
 (.seq (.seq (.ops [s 13 (.mv (t 6))])
 (.cond (t 13) (.seq (.ops [s 4 (.mv (c (i 1)))])
 .ret) .skip))
 (.seq (.seq (.ops [s 14 (.mv (t 0)),
  s 15 (.mv (t 1)),
  s 16 (.bin .lss (t 14) (t 15))])
 (.cond (t 16) (.seq (.ops [s 4 (.mv (c (i (-1))))])
 .ret) .skip))
 (.seq (.seq (.ops [s 17 (.mv (t 0)),
  s 18 (.mv (t 1)),
  s 19 (.bin .gtr (t 17) (t 18))])
 (.cond (t 19) (.seq (.ops [s 4 (.mv (c (i 1)))])
 .ret) .skip))
 (.seq (.ops [s 4 (.mv (c (i 0)))])
 .ret)))))))), none, [4], [true, true]⟩
def i245 : Comp := ⟨(.seq (.ops [s 3 (.box 2 (t 0)),
  s 4 (.box 2 (t 1)),
  s 5 (.box 2 (t 2)),
  s 6 (.mv (c (i 0)))])
 (.seq (.ops [s 7 (.mv (c (i 0))),
  s 8 (.ldB 4 0 1 false true),
  s 9 (.mv (c (i 0))),
  s 10 (.ldB 3 0 1 false true),
  s 11 (.bin .sub (t 8) (t 10)),
  s 12 (.mv (c (i 0))),
  s 13 (.ldB 5 1 1 false true),
  s 14 (.mv (c (i 0))),
  s 15 (.ldB 3 1 1 false true),
  s 16 (.bin .sub (t 13) (t 15)),
  s 17 (.bin .mul (t 11) (t 16)),
  s 18 (.mv (c (i 0))),
  s 19 (.ldB 4 1 1 false true),
  s 20 (.mv (c (i 0))),
  s 21 (.ldB 3 1 1 false true),
  s 22 (.bin .sub (t 19) (t 21)),
  s 23 (.mv (c (i 0))),
  s 24 (.ldB 5 0 1 false true),
  s 25 (.mv (c (i 0))),
  s 26 (.ldB 3 0 1 false true),
  s 27 (.bin .sub (t 24) (t 26)),
  s 28 (.bin .mul (t 22) (t 27)),
  s 29 (.bin .sub (t 17) (t 28)),
  s 6 (.mv (t 29))])
 .ret)), none, [6], [true, true, true]⟩
def i246 : Comp := ⟨(.seq (.ops [s 1 (.box 4 (t 0)),
  s 2 (.alc [(i 0), (i 0), (i 0), (i 0)])])
 (.seq (.ops [s 3 (.mv (c (i 0))),
  s 4 (.ldB 1 2 2 true true),
  s 5 (.mv (c (i 0))),
  s 6 (.ldB 1 0 2 true true),
  s 7 (.bld [(i 0), (i 0), (i 0), (i 0)] [(0, 2, (t 4)), (2, 2, (t 6))]),
  s 2 (.stB 2 0 4 (t 7) false)])
 .ret)), (some ⟨2, 189, 4, true⟩), [], [true]⟩
def i247 : Comp := ⟨(.seq (.ops [s 2 (.box 4 (t 0)),
  s 3 (.box 2 (t 1)),
  s 4 (.mv (c (.bool false)))])
 (.seq (.ops [s 5 (.ldB 2 0 4 true true),
  k 6 184 [(t 5)] .sc,
  s 7 (.mv (t 6)),
  sg [(7, true)] 8 (.ldB 3 0 2 true true),
  kg [(7, true)] 9 79 [(t 8)] .sc,
  s 10 (.pick (t 7) (t 9) (c (.bool false))),
  s 11 (.mv (t 10)),
  sg [(11, true)] 12 (.mv (c (i 0))),
  sg [(11, true)] 13 (.ldB 2 0 2 true true),
  sg [(11, true)] 14 (.mv (c (i 0))),
  sg [(11, true)] 15 (.ldB 2 2 2 true true),
  sg [(11, true)] 16 (.ldB 3 0 2 true true),
  kg [(11, true)] 17 248 [(t 13), (t 15), (t 16)] .sc,
  sg [(11, true)] 18 (.bin .eql (t 17) (c (i 0))),
  s 19 (.pick (t 11) (t 18) (c (.bool false))),
  s 20 (.mv (t 19)),
  sg [(20, true)] 21 (.mv (c (i 0))),
  sg [(20, true)] 22 (.ldB 3 0 1 false true),
  sg [(20, true)] 23 (.mv (c (i 0))),
  sg [(20, true)] 24 (.mv (t 23)),
  sg [(20, true)] 25 (.ldB 2 0 1 false true),
  sg [(20, true)] 26 (.mv (c (i 0))),
  sg [(20, true)] 27 (.mv (t 26)),
  sg [(20, true)] 28 (.ldB 2 2 1 false true),
  kg [(20, true)] 29 221 [(t 25), (t 28)] .sc,
  sg [(20, true)] 30 (.mv (c (i 0))),
  sg [(20, true)] 31 (.mv (t 30)),
  sg [(20, true)] 32 (.ldB 2 0 1 false true),
  sg [(20, true)] 33 (.mv (c (i 0))),
  sg [(20, true)] 34 (.mv (t 33)),
  sg [(20, true)] 35 (.ldB 2 2 1 false true),
  kg [(20, true)] 36 211 [(t 32), (t 35)] .sc,
  kg [(20, true)] 37 99 [(t 22), (t 29), (t 36)] .sc,
  s 38 (.pick (t 20) (t 37) (c (.bool false))),
  s 39 (.mv (t 38)),
  sg [(39, true)] 40 (.mv (c (i 0))),
  sg [(39, true)] 41 (.ldB 3 1 1 false true),
  sg [(39, true)] 42 (.mv (c (i 0))),
  sg [(39, true)] 43 (.mv (t 42)),
  sg [(39, true)] 44 (.ldB 2 1 1 false true),
  sg [(39, true)] 45 (.mv (c (i 0))),
  sg [(39, true)] 46 (.mv (t 45)),
  sg [(39, true)] 47 (.ldB 2 3 1 false true),
  kg [(39, true)] 48 221 [(t 44), (t 47)] .sc,
  sg [(39, true)] 49 (.mv (c (i 0))),
  sg [(39, true)] 50 (.mv (t 49)),
  sg [(39, true)] 51 (.ldB 2 1 1 false true),
  sg [(39, true)] 52 (.mv (c (i 0))),
  sg [(39, true)] 53 (.mv (t 52)),
  sg [(39, true)] 54 (.ldB 2 3 1 false true),
  kg [(39, true)] 55 211 [(t 51), (t 54)] .sc,
  kg [(39, true)] 56 99 [(t 41), (t 48), (t 55)] .sc,
  s 57 (.pick (t 39) (t 56) (c (.bool false))),
  s 4 (.mv (t 57))])
 .ret)), none, [4], [true, true]⟩
def i248 : Comp := ⟨(.seq (.ops [s 3 (.box 2 (t 0)),
  s 4 (.box 2 (t 1)),
  s 5 (.box 2 (t 2)),
  s 6 (.mv (c (i 0)))])
 (.seq (.ops [s 7 (.mv (c (i 0))),
  s 8 (.ldB 4 0 1 false true),
  s 9 (.mv (c (i 0))),
  s 10 (.ldB 3 0 1 false true),
  s 11 (.bin .sub (t 8) (t 10)),
  s 12 (.mv (c (i 0))),
  s 13 (.ldB 5 1 1 false true),
  s 14 (.mv (c (i 0))),
  s 15 (.ldB 3 1 1 false true),
  s 16 (.bin .sub (t 13) (t 15)),
  s 17 (.bin .mul (t 11) (t 16)),
  s 18 (.mv (c (i 0))),
  s 19 (.ldB 4 1 1 false true),
  s 20 (.mv (c (i 0))),
  s 21 (.ldB 3 1 1 false true),
  s 22 (.bin .sub (t 19) (t 21)),
  s 23 (.mv (c (i 0))),
  s 24 (.ldB 5 0 1 false true),
  s 25 (.mv (c (i 0))),
  s 26 (.ldB 3 0 1 false true),
  s 27 (.bin .sub (t 24) (t 26)),
  s 28 (.bin .mul (t 22) (t 27)),
  s 29 (.bin .sub (t 17) (t 28)),
  s 6 (.mv (t 29))])
 .ret)), none, [6], [true, true, true]⟩
def i258 : Comp := ⟨(.seq (.ops [s 2 (.mv (c (.bool false)))])
 (.seq (.ops [s 3 (.mv (t 0)),
  s 4 (.mv (t 0)),
  s 5 (.bin .neq (t 3) (t 4)),
  s 2 (.mv (t 5))])
 .ret)), none, [2], [true]⟩
def X : Cx := { tab := tbs, sig := sgs, wf := wfs, xf := xfs, rf := rfs, tl := tls }
end Go.Eng
namespace Go.Eng
open Go Go.Proofs
theorem hX : TabOK Try.prog X := TabOK.of (by kernel_rfl)
theorem c7 : compP Try.prog X 7 = some i7 := by kernel_rfl
theorem c8 : compP Try.prog X 8 = some i8 := by kernel_rfl
theorem c14 : compP Try.prog X 14 = some i14 := by kernel_rfl
theorem c16 : compP Try.prog X 16 = some i16 := by kernel_rfl
theorem c17 : compP Try.prog X 17 = some i17 := by kernel_rfl
theorem c19 : compP Try.prog X 19 = some i19 := by kernel_rfl
theorem c40 : compP Try.prog X 40 = some i40 := by kernel_rfl
theorem c41 : compP Try.prog X 41 = some i41 := by kernel_rfl
theorem c42 : compP Try.prog X 42 = some i42 := by kernel_rfl
theorem c43 : compP Try.prog X 43 = some i43 := by kernel_rfl
theorem c44 : compP Try.prog X 44 = some i44 := by kernel_rfl
theorem c45 : compP Try.prog X 45 = some i45 := by kernel_rfl
theorem c46 : compM Try.prog X 46 = some i46 := by kernel_rfl
theorem c48 : compP Try.prog X 48 = some i48 := by kernel_rfl
theorem c49 : compP Try.prog X 49 = some i49 := by kernel_rfl
theorem c50 : compP Try.prog X 50 = some i50 := by kernel_rfl
theorem c51 : compP Try.prog X 51 = some i51 := by kernel_rfl
theorem c74 : compP Try.prog X 74 = some i74 := by kernel_rfl
theorem c75 : compM Try.prog X 75 = some i75 := by kernel_rfl
theorem c76 : compP Try.prog X 76 = some i76 := by kernel_rfl
theorem c77 : compP Try.prog X 77 = some i77 := by kernel_rfl
theorem c78 : compP Try.prog X 78 = some i78 := by kernel_rfl
theorem c79 : compP Try.prog X 79 = some i79 := by kernel_rfl
theorem c82 : compP Try.prog X 82 = some i82 := by kernel_rfl
theorem c83 : compP Try.prog X 83 = some i83 := by kernel_rfl
theorem c85 : compP Try.prog X 85 = some i85 := by kernel_rfl
theorem c90 : compP Try.prog X 90 = some i90 := by kernel_rfl
theorem c92 : compP Try.prog X 92 = some i92 := by kernel_rfl
theorem c96 : compP Try.prog X 96 = some i96 := by kernel_rfl
theorem c97 : compP Try.prog X 97 = some i97 := by kernel_rfl
theorem c98 : compP Try.prog X 98 = some i98 := by kernel_rfl
theorem c99 : compP Try.prog X 99 = some i99 := by kernel_rfl
theorem c103 : compP Try.prog X 103 = some i103 := by kernel_rfl
theorem c104 : compP Try.prog X 104 = some i104 := by kernel_rfl
theorem c105 : compP Try.prog X 105 = some i105 := by kernel_rfl
theorem c106 : compP Try.prog X 106 = some i106 := by kernel_rfl
theorem c107 : compP Try.prog X 107 = some i107 := by kernel_rfl
theorem c108 : compP Try.prog X 108 = some i108 := by kernel_rfl
theorem c109 : compP Try.prog X 109 = some i109 := by kernel_rfl
theorem c110 : compP Try.prog X 110 = some i110 := by kernel_rfl
theorem c111 : compP Try.prog X 111 = some i111 := by kernel_rfl
theorem c112 : compP Try.prog X 112 = some i112 := by kernel_rfl
theorem c113 : compP Try.prog X 113 = some i113 := by kernel_rfl
theorem c114 : compP Try.prog X 114 = some i114 := by kernel_rfl
theorem c132 : compP Try.prog X 132 = some i132 := by kernel_rfl
theorem c133 : compP Try.prog X 133 = some i133 := by kernel_rfl
theorem c134 : compP Try.prog X 134 = some i134 := by kernel_rfl
theorem c136 : compP Try.prog X 136 = some i136 := by kernel_rfl
theorem c140 : compP Try.prog X 140 = some i140 := by kernel_rfl
theorem c147 : compP Try.prog X 147 = some i147 := by kernel_rfl
theorem c148 : compP Try.prog X 148 = some i148 := by kernel_rfl
theorem c149 : compP Try.prog X 149 = some i149 := by kernel_rfl
theorem c150 : compP Try.prog X 150 = some i150 := by kernel_rfl
theorem c151 : compP Try.prog X 151 = some i151 := by kernel_rfl
theorem c152 : compP Try.prog X 152 = some i152 := by kernel_rfl
theorem c154 : compP Try.prog X 154 = some i154 := by kernel_rfl
theorem c157 : compP Try.prog X 157 = some i157 := by kernel_rfl
theorem c158 : compP Try.prog X 158 = some i158 := by kernel_rfl
theorem c159 : compP Try.prog X 159 = some i159 := by kernel_rfl
theorem c169 : compP Try.prog X 169 = some i169 := by kernel_rfl
theorem c171 : compP Try.prog X 171 = some i171 := by kernel_rfl
theorem c177 : compP Try.prog X 177 = some i177 := by kernel_rfl
theorem c178 : compP Try.prog X 178 = some i178 := by kernel_rfl
theorem c179 : compP Try.prog X 179 = some i179 := by kernel_rfl
theorem c180 : compP Try.prog X 180 = some i180 := by kernel_rfl
theorem c181 : compP Try.prog X 181 = some i181 := by kernel_rfl
theorem c182 : compP Try.prog X 182 = some i182 := by kernel_rfl
theorem c183 : compP Try.prog X 183 = some i183 := by kernel_rfl
theorem c184 : compP Try.prog X 184 = some i184 := by kernel_rfl
theorem c211 : compP Try.prog X 211 = some i211 := by kernel_rfl
theorem c218 : compP Try.prog X 218 = some i218 := by kernel_rfl
theorem c219 : compP Try.prog X 219 = some i219 := by kernel_rfl
theorem c220 : compP Try.prog X 220 = some i220 := by kernel_rfl
theorem c221 : compP Try.prog X 221 = some i221 := by kernel_rfl
theorem c222 : compP Try.prog X 222 = some i222 := by kernel_rfl
theorem c223 : compP Try.prog X 223 = some i223 := by kernel_rfl
theorem c244 : compP Try.prog X 244 = some i244 := by kernel_rfl
theorem c245 : compP Try.prog X 245 = some i245 := by kernel_rfl
theorem c246 : compP Try.prog X 246 = some i246 := by kernel_rfl
theorem c247 : compP Try.prog X 247 = some i247 := by kernel_rfl
theorem c248 : compP Try.prog X 248 = some i248 := by kernel_rfl
theorem c258 : compP Try.prog X 258 = some i258 := by kernel_rfl
end Go.Eng
