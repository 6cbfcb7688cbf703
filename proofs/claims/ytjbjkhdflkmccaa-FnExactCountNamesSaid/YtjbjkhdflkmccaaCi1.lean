/- A part of the proof of a law's statement: for every input the law returns true and leaves its arguments as they were. No condition beyond the statement's own. The laws' functions in that calculus, checked by the kernel against the program. -/
import Derived.Test.YtjbjkhdflkmccaaProg
import Derived.Test.YtjbjkhdflkmccaaCe4
set_option linter.unusedVariables false
set_option linter.unusedSimpArgs false
set_option linter.unusedSectionVars false
set_option autoImplicit true
set_option relaxedAutoImplicit true
namespace Go.Eng
open Go
def tbs : List (Option TI) := [some ⟨(.tup []), 1, 0, [.junk], false⟩,
  some ⟨.func, 1, 8, [.junk], false⟩,
  some ⟨(.int .i64), 1, 8, [(i 0)], false⟩,
  some ⟨(.int .i64), 1, 8, [(i 0)], false⟩,
  some ⟨.bool, 1, 1, [(.bool false)], false⟩,
  some ⟨(.int .u8), 1, 1, [(.int .u8 (0))], false⟩,
  some ⟨(.int .u8), 1, 1, [(.int .u8 (0))], false⟩,
  some ⟨(.struct [(0, 2), (1, 3), (2, 4), (3, 6)]), 4, 24, [(i 0), (i 0), (.bool false), (.int .u8 (0))], true⟩,
  some ⟨(.struct [(0, 2), (1, 3), (2, 4), (3, 6)]), 4, 24, [(i 0), (i 0), (.bool false), (.int .u8 (0))], true⟩,
  some ⟨.str, 1, 16, [(.str (bs []))], false⟩,
  some ⟨.str, 1, 16, [(.str (bs []))], false⟩,
  some ⟨.str, 1, 16, [(.str (bs []))], false⟩,
  some ⟨(.int .u64), 1, 8, [(.int .u64 (0))], false⟩,
  some ⟨(.struct [(0, 9), (1, 12)]), 2, 24, [(.str (bs [])), (.int .u64 (0))], false⟩,
  some ⟨(.struct [(0, 9), (1, 12)]), 2, 24, [(.str (bs [])), (.int .u64 (0))], false⟩,
  some ⟨(.ptr 252), 1, 8, [.junk], false⟩,
  some ⟨(.ptr 255), 1, 8, [.junk], false⟩,
  some ⟨(.ptr 264), 1, 8, [.junk], false⟩,
  some ⟨(.struct [(0, 17)]), 1, 8, [.junk], false⟩,
  some ⟨(.struct [(0, 17)]), 1, 8, [.junk], false⟩,
  some ⟨.other, 1, 16, [.junk], false⟩,
  some ⟨(.int .i32), 1, 4, [(.int .i32 (0))], false⟩,
  some ⟨(.slice 37), 1, 24, [(.lst 5 true [])], false⟩,
  some ⟨(.struct [(0, 3), (1, 3)]), 2, 16, [(i 0), (i 0)], true⟩,
  some ⟨(.struct [(0, 3), (1, 3)]), 2, 16, [(i 0), (i 0)], true⟩,
  some ⟨.func, 1, 8, [.junk], false⟩,
  some ⟨(.tup [3, 4]), 1, 0, [.junk], false⟩,
  some ⟨.func, 1, 8, [.junk], false⟩,
  some ⟨(.slice 47), 1, 24, [(.lst 5 true [])], false⟩,
  some ⟨.func, 1, 8, [.junk], false⟩,
  some ⟨(.struct [(0, 3), (1, 3)]), 2, 16, [(i 0), (i 0)], true⟩,
  some ⟨.func, 1, 8, [.junk], false⟩,
  some ⟨.func, 1, 8, [.junk], false⟩,
  some ⟨.func, 1, 8, [.junk], false⟩,
  some ⟨(.slice 39), 1, 24, [(.lst 8 true [])], false⟩,
  some ⟨(.slice 24), 1, 24, [(.lst 2 true [])], false⟩,
  some ⟨(.struct [(0, 3), (1, 3), (2, 3), (3, 9), (4, 35)]), 5, 64, [(i 0), (i 0), (i 0), (.str (bs [])), (.lst 2 true [])], true⟩,
  some ⟨(.struct [(0, 3), (1, 3), (2, 3), (3, 9), (4, 35)]), 5, 64, [(i 0), (i 0), (i 0), (.str (bs [])), (.lst 2 true [])], true⟩,
  some ⟨(.struct [(0, 37), (5, 3), (6, 3), (7, 4)]), 8, 88, [(i 0), (i 0), (i 0), (.str (bs [])), (.lst 2 true []), (i 0), (i 0), (.bool false)], true⟩,
  some ⟨(.struct [(0, 37), (5, 3), (6, 3), (7, 4)]), 8, 88, [(i 0), (i 0), (i 0), (.str (bs [])), (.lst 2 true []), (i 0), (i 0), (.bool false)], true⟩,
  some ⟨.func, 1, 8, [.junk], false⟩,
  some ⟨.func, 1, 8, [.junk], false⟩,
  some ⟨(.slice 49), 1, 24, [(.lst 8 true [])], false⟩,
  some ⟨.func, 1, 8, [.junk], false⟩,
  some ⟨.func, 1, 8, [.junk], false⟩,
  some ⟨(.slice 30), 1, 24, [(.lst 2 true [])], false⟩,
  some ⟨(.struct [(0, 3), (1, 3), (2, 3), (3, 9), (4, 45)]), 5, 64, [(i 0), (i 0), (i 0), (.str (bs [])), (.lst 2 true [])], true⟩,
  some ⟨(.struct [(0, 3), (1, 3), (2, 3), (3, 9), (4, 45)]), 5, 64, [(i 0), (i 0), (i 0), (.str (bs [])), (.lst 2 true [])], true⟩,
  some ⟨(.struct [(0, 47), (5, 3), (6, 3), (7, 4)]), 8, 88, [(i 0), (i 0), (i 0), (.str (bs [])), (.lst 2 true []), (i 0), (i 0), (.bool false)], true⟩,
  some ⟨(.struct [(0, 47), (5, 3), (6, 3), (7, 4)]), 8, 88, [(i 0), (i 0), (i 0), (.str (bs [])), (.lst 2 true []), (i 0), (i 0), (.bool false)], true⟩,
  some ⟨.func, 1, 8, [.junk], false⟩,
  some ⟨.func, 1, 8, [.junk], false⟩,
  some ⟨.func, 1, 8, [.junk], false⟩,
  some ⟨.func, 1, 8, [.junk], false⟩,
  some ⟨.func, 1, 8, [.junk], false⟩,
  some ⟨.func, 1, 8, [.junk], false⟩,
  some ⟨.func, 1, 8, [.junk], false⟩,
  some ⟨.func, 1, 8, [.junk], false⟩,
  some ⟨(.slice 5), 1, 24, [(.lst 1 true [])], false⟩,
  some ⟨.func, 1, 8, [.junk], false⟩,
  some ⟨(.tup [42, 42]), 1, 0, [.junk], false⟩,
  some ⟨.func, 1, 8, [.junk], false⟩,
  some ⟨.func, 1, 8, [.junk], false⟩,
  some ⟨.func, 1, 8, [.junk], false⟩,
  some ⟨.func, 1, 8, [.junk], false⟩,
  some ⟨(.struct [(0, 3), (1, 37), (6, 3), (7, 3), (8, 3)]), 9, 96, [(i 0), (i 0), (i 0), (i 0), (.str (bs [])), (.lst 2 true []), (i 0), (i 0), (i 0)], true⟩,
  some ⟨(.struct [(0, 3), (1, 37), (6, 3), (7, 3), (8, 3)]), 9, 96, [(i 0), (i 0), (i 0), (i 0), (.str (bs [])), (.lst 2 true []), (i 0), (i 0), (i 0)], true⟩,
  some ⟨.func, 1, 8, [.junk], false⟩,
  some ⟨(.tup [28, 4]), 1, 0, [.junk], false⟩,
  some ⟨.func, 1, 8, [.junk], false⟩,
  some ⟨(.struct [(0, 3), (1, 47), (6, 3), (7, 3), (8, 3)]), 9, 96, [(i 0), (i 0), (i 0), (i 0), (.str (bs [])), (.lst 2 true []), (i 0), (i 0), (i 0)], true⟩,
  some ⟨(.struct [(0, 3), (1, 47), (6, 3), (7, 3), (8, 3)]), 9, 96, [(i 0), (i 0), (i 0), (i 0), (.str (bs [])), (.lst 2 true []), (i 0), (i 0), (i 0)], true⟩,
  some ⟨.func, 1, 8, [.junk], false⟩,
  some ⟨.func, 1, 8, [.junk], false⟩,
  some ⟨.func, 1, 8, [.junk], false⟩,
  some ⟨.func, 1, 8, [.junk], false⟩,
  some ⟨.func, 1, 8, [.junk], false⟩,
  some ⟨(.tup [71, 4]), 1, 0, [.junk], false⟩,
  some ⟨.func, 1, 8, [.junk], false⟩,
  some ⟨(.slice 137), 1, 24, [(.lst 3 true [])], false⟩,
  some ⟨.func, 1, 8, [.junk], false⟩,
  some ⟨.func, 1, 8, [.junk], false⟩,
  some ⟨(.slice 138), 1, 24, [(.lst 3 true [])], false⟩,
  some ⟨.func, 1, 8, [.junk], false⟩,
  some ⟨.func, 1, 8, [.junk], false⟩,
  some ⟨.func, 1, 8, [.junk], false⟩,
  some ⟨(.slice 146), 1, 24, [(.lst 3 true [])], false⟩,
  some ⟨.func, 1, 8, [.junk], false⟩,
  some ⟨.func, 1, 8, [.junk], false⟩,
  some ⟨(.slice 148), 1, 24, [(.lst 3 true [])], false⟩,
  some ⟨.func, 1, 8, [.junk], false⟩,
  some ⟨.func, 1, 8, [.junk], false⟩,
  some ⟨.func, 1, 8, [.junk], false⟩,
  some ⟨.func, 1, 8, [.junk], false⟩,
  some ⟨(.tup [89, 4]), 1, 0, [.junk], false⟩,
  some ⟨.func, 1, 8, [.junk], false⟩,
  some ⟨.func, 1, 8, [.junk], false⟩,
  some ⟨(.slice 66), 1, 24, [(.lst 9 true [])], false⟩,
  some ⟨.func, 1, 8, [.junk], false⟩,
  some ⟨(.tup [28, 3]), 1, 0, [.junk], false⟩,
  some ⟨.func, 1, 8, [.junk], false⟩,
  some ⟨(.slice 71), 1, 24, [(.lst 9 true [])], false⟩,
  some ⟨.func, 1, 8, [.junk], false⟩,
  some ⟨.func, 1, 8, [.junk], false⟩,
  some ⟨.func, 1, 8, [.junk], false⟩,
  some ⟨.func, 1, 8, [.junk], false⟩,
  some ⟨.func, 1, 8, [.junk], false⟩,
  some ⟨.func, 1, 8, [.junk], false⟩,
  some ⟨.func, 1, 8, [.junk], false⟩,
  some ⟨.func, 1, 8, [.junk], false⟩,
  some ⟨.func, 1, 8, [.junk], false⟩,
  some ⟨.func, 1, 8, [.junk], false⟩,
  some ⟨(.slice 3), 1, 24, [(.lst 1 true [])], false⟩,
  some ⟨(.tup [45, 112]), 1, 0, [.junk], false⟩,
  some ⟨.func, 1, 8, [.junk], false⟩,
  some ⟨.func, 1, 8, [.junk], false⟩,
  some ⟨.func, 1, 8, [.junk], false⟩,
  some ⟨.other, 1, 8, [.junk], false⟩,
  some ⟨.func, 1, 8, [.junk], false⟩,
  some ⟨.func, 1, 8, [.junk], false⟩,
  some ⟨.func, 1, 8, [.junk], false⟩,
  some ⟨.func, 1, 8, [.junk], false⟩,
  some ⟨.func, 1, 8, [.junk], false⟩,
  some ⟨.func, 1, 8, [.junk], false⟩,
  some ⟨.func, 1, 8, [.junk], false⟩,
  some ⟨.func, 1, 8, [.junk], false⟩,
  some ⟨(.ptr 166), 1, 8, [.junk], false⟩,
  some ⟨.func, 1, 8, [.junk], false⟩,
  some ⟨.func, 1, 8, [.junk], false⟩,
  some ⟨.func, 1, 8, [.junk], false⟩,
  some ⟨.func, 1, 8, [.junk], false⟩,
  some ⟨.func, 1, 8, [.junk], false⟩,
  some ⟨.func, 1, 8, [.junk], false⟩,
  some ⟨.func, 1, 8, [.junk], false⟩,
  some ⟨.func, 1, 8, [.junk], false⟩,
  some ⟨.func, 1, 8, [.junk], false⟩,
  some ⟨(.struct [(0, 9), (1, 3), (2, 9)]), 3, 40, [(.str (bs [])), (i 0), (.str (bs []))], true⟩,
  some ⟨(.struct [(0, 9), (1, 3), (2, 9)]), 3, 40, [(.str (bs [])), (i 0), (.str (bs []))], true⟩,
  some ⟨(.struct [(0, 9), (1, 3), (2, 9)]), 3, 40, [(.str (bs [])), (i 0), (.str (bs []))], true⟩,
  some ⟨.func, 1, 8, [.junk], false⟩,
  some ⟨(.slice 9), 1, 24, [(.lst 1 true [])], false⟩,
  some ⟨.func, 1, 8, [.junk], false⟩,
  some ⟨.func, 1, 8, [.junk], false⟩,
  some ⟨.func, 1, 8, [.junk], false⟩,
  some ⟨.func, 1, 8, [.junk], false⟩,
  some ⟨(.struct [(0, 3), (1, 22), (2, 3)]), 3, 40, [(i 0), (.lst 5 true []), (i 0)], true⟩,
  some ⟨(.struct [(0, 3), (1, 22), (2, 3)]), 3, 40, [(i 0), (.lst 5 true []), (i 0)], true⟩,
  some ⟨(.struct [(0, 3), (1, 28), (2, 3)]), 3, 40, [(i 0), (.lst 5 true []), (i 0)], true⟩,
  some ⟨(.struct [(0, 3), (1, 28), (2, 3)]), 3, 40, [(i 0), (.lst 5 true []), (i 0)], true⟩,
  some ⟨.func, 1, 8, [.junk], false⟩,
  some ⟨.func, 1, 8, [.junk], false⟩,
  some ⟨.func, 1, 8, [.junk], false⟩,
  some ⟨.func, 1, 8, [.junk], false⟩,
  some ⟨.func, 1, 8, [.junk], false⟩,
  some ⟨.func, 1, 8, [.junk], false⟩,
  some ⟨.func, 1, 8, [.junk], false⟩,
  some ⟨.func, 1, 8, [.junk], false⟩,
  some ⟨.func, 1, 8, [.junk], false⟩,
  some ⟨.func, 1, 8, [.junk], false⟩,
  some ⟨.func, 1, 8, [.junk], false⟩,
  some ⟨.func, 1, 8, [.junk], false⟩,
  some ⟨(.tup [30, 4]), 1, 0, [.junk], false⟩,
  some ⟨.func, 1, 8, [.junk], false⟩,
  some ⟨.func, 1, 8, [.junk], false⟩,
  some ⟨.func, 1, 8, [.junk], false⟩,
  some ⟨(.struct [(0, 58), (1, 3), (2, 3)]), 3, 40, [(.lst 1 true []), (i 0), (i 0)], true⟩,
  some ⟨(.struct [(0, 58), (1, 3), (2, 3)]), 3, 40, [(.lst 1 true []), (i 0), (i 0)], true⟩,
  some ⟨.func, 1, 8, [.junk], false⟩,
  some ⟨.func, 1, 8, [.junk], false⟩,
  some ⟨.func, 1, 8, [.junk], false⟩,
  some ⟨.func, 1, 8, [.junk], false⟩,
  some ⟨.func, 1, 8, [.junk], false⟩,
  some ⟨.func, 1, 8, [.junk], false⟩,
  some ⟨.func, 1, 8, [.junk], false⟩,
  some ⟨.func, 1, 8, [.junk], false⟩,
  some ⟨.func, 1, 8, [.junk], false⟩,
  some ⟨.func, 1, 8, [.junk], false⟩,
  some ⟨.func, 1, 8, [.junk], false⟩,
  some ⟨(.int .u64), 1, 8, [(.int .u64 (0))], false⟩,
  some ⟨(.slice 182), 1, 24, [(.lst 2 true [])], false⟩,
  some ⟨.func, 1, 8, [.junk], false⟩,
  some ⟨(.struct [(0, 3), (1, 3)]), 2, 16, [(i 0), (i 0)], true⟩,
  some ⟨(.struct [(0, 3), (1, 3)]), 2, 16, [(i 0), (i 0)], true⟩,
  some ⟨.func, 1, 8, [.junk], false⟩,
  some ⟨.func, 1, 8, [.junk], false⟩,
  some ⟨.func, 1, 8, [.junk], false⟩,
  some ⟨(.slice 189), 1, 24, [(.lst 4 true [])], false⟩,
  some ⟨.func, 1, 8, [.junk], false⟩,
  some ⟨(.struct [(0, 30), (2, 30)]), 4, 32, [(i 0), (i 0), (i 0), (i 0)], true⟩,
  some ⟨(.struct [(0, 30), (2, 30)]), 4, 32, [(i 0), (i 0), (i 0), (i 0)], true⟩,
  some ⟨.func, 1, 8, [.junk], false⟩,
  some ⟨.func, 1, 8, [.junk], false⟩,
  some ⟨.func, 1, 8, [.junk], false⟩,
  some ⟨.func, 1, 8, [.junk], false⟩,
  some ⟨.func, 1, 8, [.junk], false⟩,
  some ⟨.func, 1, 8, [.junk], false⟩,
  some ⟨.func, 1, 8, [.junk], false⟩,
  some ⟨(.int .i64), 1, 8, [(i 0)], false⟩,
  some ⟨(.tup [3, 197]), 1, 0, [.junk], false⟩,
  some ⟨.func, 1, 8, [.junk], false⟩,
  some ⟨.func, 1, 8, [.junk], false⟩,
  some ⟨.func, 1, 8, [.junk], false⟩,
  some ⟨.func, 1, 8, [.junk], false⟩,
  some ⟨.func, 1, 8, [.junk], false⟩,
  some ⟨.func, 1, 8, [.junk], false⟩,
  some ⟨(.int .u32), 1, 4, [(.int .u32 (0))], false⟩,
  some ⟨.func, 1, 8, [.junk], false⟩,
  some ⟨(.int .u64), 1, 8, [(.int .u64 (0))], false⟩,
  some ⟨.func, 1, 8, [.junk], false⟩,
  some ⟨.func, 1, 8, [.junk], false⟩,
  some ⟨.func, 1, 8, [.junk], false⟩,
  some ⟨(.struct [(0, 30), (2, 30)]), 4, 32, [(i 0), (i 0), (i 0), (i 0)], true⟩,
  some ⟨(.struct [(0, 30), (2, 30)]), 4, 32, [(i 0), (i 0), (i 0), (i 0)], true⟩,
  some ⟨.func, 1, 8, [.junk], false⟩,
  some ⟨.func, 1, 8, [.junk], false⟩,
  some ⟨.func, 1, 8, [.junk], false⟩,
  some ⟨.func, 1, 8, [.junk], false⟩,
  some ⟨.func, 1, 8, [.junk], false⟩,
  some ⟨.func, 1, 8, [.junk], false⟩,
  some ⟨.func, 1, 8, [.junk], false⟩,
  some ⟨.func, 1, 8, [.junk], false⟩,
  some ⟨.func, 1, 8, [.junk], false⟩,
  some ⟨.func, 1, 8, [.junk], false⟩,
  some ⟨.func, 1, 8, [.junk], false⟩,
  some ⟨.func, 1, 8, [.junk], false⟩,
  some ⟨.func, 1, 8, [.junk], false⟩,
  some ⟨(.int .u64), 1, 8, [(.int .u64 (0))], false⟩,
  some ⟨.func, 1, 8, [.junk], false⟩,
  some ⟨.func, 1, 8, [.junk], false⟩,
  some ⟨.func, 1, 8, [.junk], false⟩,
  some ⟨(.ptr 3), 1, 8, [.junk], false⟩,
  some ⟨.func, 1, 8, [.junk], false⟩,
  some ⟨.func, 1, 8, [.junk], false⟩,
  some ⟨.func, 1, 8, [.junk], false⟩,
  some ⟨.func, 1, 8, [.junk], false⟩,
  some ⟨.func, 1, 8, [.junk], false⟩,
  some ⟨.func, 1, 8, [.junk], false⟩,
  some ⟨.func, 1, 8, [.junk], false⟩,
  some ⟨.func, 1, 8, [.junk], false⟩,
  some ⟨(.ptr 226), 1, 8, [.junk], false⟩,
  some ⟨(.tup [3, 3]), 1, 0, [.junk], false⟩,
  some ⟨.func, 1, 8, [.junk], false⟩,
  some ⟨.func, 1, 8, [.junk], false⟩,
  some ⟨(.tup [212, 4]), 1, 0, [.junk], false⟩,
  some ⟨.func, 1, 8, [.junk], false⟩,
  some ⟨.func, 1, 8, [.junk], false⟩,
  some ⟨.func, 1, 8, [.junk], false⟩,
  some ⟨.func, 1, 8, [.junk], false⟩,
  some ⟨.func, 1, 8, [.junk], false⟩,
  some ⟨.func, 1, 8, [.junk], false⟩,
  some ⟨.func, 1, 8, [.junk], false⟩,
  some ⟨(.struct [(0, 17), (1, 17), (2, 17), (3, 9)]), 4, 40, [.junk], false⟩,
  some ⟨(.struct [(0, 17), (1, 17), (2, 17), (3, 9)]), 4, 40, [.junk], false⟩,
  some ⟨(.arr 0 16), 0, 0, [], false⟩,
  some ⟨(.struct [(0, 253)]), 0, 0, [], false⟩,
  some ⟨(.struct [(0, 253)]), 0, 0, [], false⟩,
  some ⟨.func, 1, 8, [.junk], false⟩,
  some ⟨(.int .u8), 1, 1, [(.int .u8 (0))], false⟩,
  some ⟨(.int .u8), 1, 1, [(.int .u8 (0))], false⟩,
  some ⟨.func, 1, 8, [.junk], false⟩,
  some ⟨(.ptr 5), 1, 8, [.junk], false⟩,
  some ⟨(.int .i32), 1, 4, [(.int .i32 (0))], false⟩,
  some ⟨(.int .i32), 1, 4, [(.int .i32 (0))], false⟩,
  some ⟨(.struct [(0, 12), (1, 12), (2, 205), (3, 257), (4, 5), (5, 5), (6, 258), (7, 259), (8, 260), (9, 261), (10, 262)]), 11, 48, [.junk], false⟩,
  some ⟨(.struct [(0, 12), (1, 12), (2, 205), (3, 257), (4, 5), (5, 5), (6, 258), (7, 259), (8, 260), (9, 261), (10, 262)]), 11, 48, [.junk], false⟩,
  some ⟨.other, 1, 8, [.junk], false⟩]
def wfs : List Nat := [29, 47, 93, 117, 130, 212, 249, 28, 46, 62, 71, 75]
def xfs : List Nat := [91, 118, 155, 156]
def rfs : List (Nat × Bool × Bool × Bool) := [(34, false, true, false), (94, false, false, true), (95, true, true, false), (143, true, true, false), (144, true, false, false), (145, true, false, false), (146, true, true, false), (174, true, true, false), (175, true, false, false), (176, true, true, false), (213, true, true, false), (214, true, false, false), (215, true, true, false), (216, true, false, false), (217, true, true, false), (239, true, false, false), (240, true, false, false), (241, true, true, false), (242, true, true, false), (243, true, false, false), (257, true, false, false)]
def tls : List Nat := [217]
def sgs : List (Nat × Bool) := [(0, false), (1, false), (2, false), (3, false), (4, false), (5, false), (6, false), (7, false), (8, false), (9, false), (10, false), (11, false), (12, false), (13, false), (14, false), (15, false), (16, true), (17, false), (18, false), (19, false), (20, false), (21, false), (22, true), (23, true), (24, true), (25, true), (26, false), (27, false), (30, false), (31, true), (32, true), (33, false), (35, false), (36, false), (37, false), (38, false), (39, true), (40, false), (41, false), (42, true), (43, true), (44, true), (45, false), (48, false), (49, true), (50, true), (51, false), (52, false), (53, false), (54, true), (55, false), (56, false), (57, false), (58, true), (59, true), (60, true), (61, false), (63, true), (64, true), (65, false), (66, false), (67, true), (68, true), (69, true), (70, false), (72, true), (73, true), (74, false), (76, false), (77, false), (78, false), (79, false), (80, true), (81, false), (82, true), (83, false), (84, true), (85, false), (86, false), (87, true), (88, true), (89, true), (90, true), (92, false), (96, false), (97, false), (98, false), (99, false), (100, false), (101, false), (102, false), (103, true), (104, true), (105, true), (106, true), (107, true), (108, true), (109, true), (110, true), (111, false), (112, true), (113, false), (114, false), (115, false), (116, false), (119, false), (120, false), (121, false), (122, true), (123, false), (124, false), (125, true), (126, false), (127, true), (128, false), (129, false), (131, false), (132, false), (133, false), (134, false), (135, false), (136, true), (137, false), (138, false), (139, false), (140, true), (141, false), (142, false), (147, false), (148, false), (149, false), (150, false), (151, false), (152, false), (153, false), (154, false), (157, false), (158, false), (159, false), (160, false), (161, false), (162, true), (163, false), (164, false), (165, false), (166, true), (167, true), (168, false), (169, true), (170, false), (171, true), (172, false), (173, false), (177, false), (178, false), (179, true), (180, false), (181, false), (182, false), (183, true), (184, false), (185, false), (186, false), (187, false), (188, false), (189, false), (190, false), (191, false), (192, false), (193, false), (194, false), (195, false), (196, false), (197, false), (198, true), (199, false), (200, false), (201, false), (202, true), (203, false), (204, false), (205, false), (206, false), (207, false), (208, false), (209, false), (210, false), (211, false), (218, false), (219, false), (220, false), (221, false), (222, false), (223, false), (224, false), (225, false), (226, false), (227, false), (228, false), (229, false), (230, false), (231, true), (232, false), (233, true), (234, false), (235, false), (236, false), (237, false), (238, false), (244, false), (245, false), (246, false), (247, false), (248, false), (250, false), (251, true), (252, false), (253, false), (254, false), (255, false), (256, false), (258, false), (259, false), (260, false), (261, false), (262, false), (263, false), (264, false), (265, false), (266, false), (267, false), (268, false), (269, false), (270, false), (271, false), (272, false), (273, false), (274, false), (275, false)]
def i9 : Comp := ⟨(.seq (.ops [s 2 (.mv (c (.bool false)))])
 (.seq (.ops [s 3 (.mv (c (i 1048576)))])
 (.seq (.ops [s 7 (.mv (t 0)),
  s 8 (.mv (t 3)),
  k 9 52 [(t 7), (t 8)] .sc,
  s 3 (.mv (t 9))])
 (.seq (.seq (.ops [s 10 (.mv (t 3)),
  s 11 (.bin .lss (t 10) (c (i 0)))])
 (.cond (t 11) (.seq (.ops [s 2 (.mv (c (.bool true)))])
 .ret) .skip))
 (.seq (.ops [s 12 (.mv (t 0)),
  k 13 54 [(t 12)] .lin,
  k 14 53 [(t 13)] .sc,
  s 4 (.mv (t 14))])
 (.seq (.ops [s 15 (.mv (t 0)),
  k 16 54 [(t 15)] .lin,
  s 5 (.mv (t 16))])
 (.seq (.ops [s 17 (.mv (t 5)),
  k 18 55 [(t 17)] .sc,
  s 6 (.mv (t 18))])
 (.seq (.seq (.ops [s 19 (.mv (t 6)),
  s 20 (.mv (t 4)),
  s 21 (.bin .neq (t 19) (t 20))])
 (.cond (t 21) (.seq (.ops [s 2 (.mv (c (.bool false)))])
 .ret) .skip))
 (.seq (.seq (.ops [s 22 (.mv (t 5)),
  s 23 (.mv (t 0)),
  k 24 54 [(t 23)] .lin,
  k 25 56 [(t 22), (t 24)] .sc,
  s 26 (.not (t 25))])
 (.cond (t 26) (.seq (.ops [s 2 (.mv (c (.bool false)))])
 .ret) .skip))
 (.seq (.ops [s 2 (.mv (c (.bool true)))])
 .ret)))))))))), none, [2], [false]⟩
def i52 : Comp := ⟨(.seq (.ops [s 4 (.mv (c (i 0)))])
 (.seq (.ops [s 6 (.mv (t 1)),
  s 7 (.mv (t 0)),
  s 8 (.len false (t 7)),
  s 9 (.bin .sub (t 6) (t 8)),
  s 1 (.mv (t 9))])
 (.seq (.seq (.ops [s 10 (.mv (t 1)),
  s 11 (.bin .lss (t 10) (c (i 0)))])
 (.cond (t 11) (.seq (.ops [s 4 (.mv (c (i (-1))))])
 .ret) .skip))
 (.seq (.seq (.ops [s 5 (.mv (c (i 0)))])
 (.block 0 (.loop (.seq (.seq (.ops [s 12 (.mv (t 5)),
  s 13 (.mv (t 0)),
  s 14 (.len false (t 13)),
  s 15 (.bin .lss (t 12) (t 14))])
 (.cond (t 15) .skip (.exit 0)))
 (.seq (.block 1 (.seq (.ops [s 18 (.mv (t 0)),
  s 19 (.mv (t 5)),
  s 20 (.idx (t 18) (t 19) 3),
  s 21 (.ldE 18 20 0 3 true true 3),
  s 22 (.mv (t 1)),
  k 23 115 [(t 21), (t 22)] .sc,
  s 1 (.mv (t 23))])
 (.seq (.ops [s 24 (.mv (t 1)),
  s 25 (.bin .lss (t 24) (c (i 0)))])
 (.cond (t 25) (.seq (.ops [s 4 (.mv (c (i (-1))))])
 .ret) .skip))))
 (.ops [s 16 (.mv (t 5)),
  s 17 (.bin .add (t 16) (c (i 1))),
  s 5 (.mv (t 17))]))))))
 (.seq (.ops [s 26 (.mv (t 1)),
  s 4 (.mv (t 26))])
 .ret))))), none, [4], [false, true]⟩
def i53 : Comp := ⟨(.seq (.ops [s 2 (.mv (c (i 0)))])
 (.seq (.ops [s 3 (.mv (c (i 0)))])
 (.seq (.seq (.ops [s 4 (.mv (c (i 0)))])
 (.block 0 (.loop (.seq (.seq (.ops [s 7 (.mv (t 4)),
  s 8 (.mv (t 0)),
  s 9 (.len false (t 8)),
  s 10 (.bin .lss (t 7) (t 9))])
 (.cond (t 10) .skip (.exit 0)))
 (.seq (.block 1 (.seq (.ops [s 5 (.mv (c (.bool true)))])
 (.seq (.seq (.ops [s 6 (.mv (c (i 0)))])
 (.block 2 (.loop (.seq (.seq (.ops [s 13 (.mv (t 6)),
  s 14 (.mv (t 4)),
  s 15 (.bin .lss (t 13) (t 14))])
 (.cond (t 15) .skip (.exit 2)))
 (.seq (.block 3 (.ops [s 18 (.mv (t 5)),
  s 19 (.mv (t 18)),
  sg [(19, true)] 20 (.mv (t 0)),
  sg [(19, true)] 21 (.mv (t 6)),
  sg [(19, true)] 22 (.idx (t 20) (t 21) 3),
  sg [(19, true)] 23 (.mv (t 22)),
  sg [(19, true)] 24 (.ldE 20 23 0 1 false true 3),
  sg [(19, true)] 25 (.mv (t 0)),
  sg [(19, true)] 26 (.mv (t 4)),
  sg [(19, true)] 27 (.idx (t 25) (t 26) 3),
  sg [(19, true)] 28 (.mv (t 27)),
  sg [(19, true)] 29 (.ldE 25 28 0 1 false true 3),
  sg [(19, true)] 30 (.bin .neq (t 24) (t 29)),
  s 31 (.pick (t 19) (t 30) (c (.bool false))),
  s 5 (.mv (t 31))]))
 (.ops [s 16 (.mv (t 6)),
  s 17 (.bin .add (t 16) (c (i 1))),
  s 6 (.mv (t 17))]))))))
 (.seq (.ops [s 32 (.mv (t 5))])
 (.cond (t 32) (.ops [s 33 (.mv (t 3)),
  s 34 (.bin .add (t 33) (c (i 1))),
  s 3 (.mv (t 34))]) .skip)))))
 (.ops [s 11 (.mv (t 4)),
  s 12 (.bin .add (t 11) (c (i 1))),
  s 4 (.mv (t 12))]))))))
 (.seq (.ops [s 35 (.mv (t 3)),
  s 2 (.mv (t 35))])
 .ret)))), none, [2], [false]⟩
def i54 : Comp := ⟨(.seq (.ops [s 2 (.mv (c (.lst 3 true [])))])
 (.seq (.ops [s 5 (.mv (t 0)),
  s 6 (.len false (t 5)),
  s 7 (.mks 3 40 [(.str (bs [])), (i 0), (.str (bs []))] (t 6)),
  s 3 (.mv (t 7))])
 (.seq (.seq (.ops [s 4 (.mv (c (i 0)))])
 (.block 0 (.loop (.seq (.seq (.ops [s 8 (.mv (t 4)),
  s 9 (.mv (t 0)),
  s 10 (.len false (t 9)),
  s 11 (.bin .lss (t 8) (t 10))])
 (.cond (t 11) .skip (.exit 0)))
 (.seq (.block 1 (.ops [s 14 (.mv (c .junk)),
  s 15 (.mv (t 4)),
  s 16 (.mv (t 0)),
  s 17 (.mv (t 4)),
  s 18 (.idx (t 16) (t 17) 3),
  s 19 (.ldE 16 18 0 3 true true 3),
  k 20 116 [(t 19)] .sc,
  s 21 (.idx (t 3) (t 15) 3),
  s 3 (.stF 3 21 3 (t 20))]))
 (.ops [s 12 (.mv (t 4)),
  s 13 (.bin .add (t 12) (c (i 1))),
  s 4 (.mv (t 13))]))))))
 (.seq (.ops [s 22 (.mv (c .junk)),
  s 2 (.mv (t 3))])
 .ret)))), none, [2], [false]⟩
def i55 : Comp := ⟨(.seq (.ops [s 2 (.mv (c (i 0)))])
 (.seq (.ops [s 6 (.bsl 1 []),
  s 3 (.mv (t 6))])
 (.seq (.seq (.ops [s 7 (.mv (t 0)),
  s 8 (.len false (t 7)),
  s 9 (.mv (c (i 0)))])
 (.block 0 (.loop (.seq (.ops [s 10 (.bin .lss (t 9) (t 8))])
 (.seq (.cond (t 10) .skip (.exit 0))
 (.seq (.block 1 (.seq (.ops [s 11 (.idx (t 7) (t 9) 3),
  s 12 (.ldE 7 11 0 3 true true 3),
  s 5 (.alc [(.str (bs [])), (i 0), (.str (bs []))]),
  s 5 (.stB 5 0 3 (t 12) false)])
 (.ops [s 13 (.mv (t 3)),
  s 14 (.mv (c (i 0))),
  s 15 (.ldB 5 0 1 false true),
  s 16 (.bsl 1 [(t 15)]),
  s 17 (.app (t 13) (t 16) 1 16),
  s 3 (.mv (t 17))])))
 (.ops [s 18 (.bin .add (t 9) (c (i 1))),
  s 9 (.mv (t 18))])))))))
 (.seq (.seq (.ops [s 19 (.mv (t 3))])
 (.seq (opM 20 117 3 [])
 (.ops [])))
 (.seq (.seq (.ops [s 21 (.mv (t 3))])
 (.seq (opXL 22 118 [(t 21)])
 (.ops [s 23 (.len false (t 22)),
  s 2 (.mv (t 23))])))
 .ret))))), none, [2], [false]⟩
def i56 : Comp := ⟨(.seq (.ops [s 4 (.mv (c (.bool false)))])
 (.seq (.seq (.ops [s 6 (.mv (t 0)),
  s 7 (.len false (t 6)),
  s 8 (.mv (t 1)),
  s 9 (.len false (t 8)),
  s 10 (.bin .neq (t 7) (t 9))])
 (.cond (t 10) (.seq (.ops [s 4 (.mv (c (.bool false)))])
 .ret) .skip))
 (.seq (.seq (.ops [s 5 (.mv (c (i 0)))])
 (.block 0 (.loop (.seq (.seq (.ops [s 11 (.mv (t 5)),
  s 12 (.mv (t 0)),
  s 13 (.len false (t 12)),
  s 14 (.bin .lss (t 11) (t 13))])
 (.cond (t 14) .skip (.exit 0)))
 (.seq (.block 1 (.seq (.ops [s 17 (.mv (t 0)),
  s 18 (.mv (t 5)),
  s 19 (.idx (t 17) (t 18) 3),
  s 20 (.ldE 17 19 0 3 true true 3),
  s 21 (.mv (t 1)),
  s 22 (.mv (t 5)),
  s 23 (.idx (t 21) (t 22) 3),
  s 24 (.ldE 21 23 0 3 true true 3),
  k 25 119 [(t 20), (t 24)] .sc,
  s 26 (.not (t 25))])
 (.cond (t 26) (.seq (.ops [s 4 (.mv (c (.bool false)))])
 .ret) .skip)))
 (.ops [s 15 (.mv (t 5)),
  s 16 (.bin .add (t 15) (c (i 1))),
  s 5 (.mv (t 16))]))))))
 (.seq (.ops [s 4 (.mv (c (.bool true)))])
 .ret)))), none, [4], [false, false]⟩
def i115 : Comp := ⟨(.seq (.ops [s 2 (.box 3 (t 0)),
  s 4 (.mv (c (i 0)))])
 (.seq (.ops [s 5 (.mv (t 1)),
  s 6 (.mv (c (i 0))),
  s 7 (.ldB 2 0 1 false true),
  s 8 (.len true (t 7)),
  s 9 (.bin .sub (t 5) (t 8)),
  s 1 (.mv (t 9))])
 (.seq (.seq (.ops [s 10 (.mv (t 1)),
  s 11 (.bin .lss (t 10) (c (i 0)))])
 (.cond (t 11) (.seq (.ops [s 4 (.mv (c (i (-1))))])
 .ret) .skip))
 (.seq (.ops [s 12 (.mv (t 1)),
  s 13 (.mv (c (i 0))),
  s 14 (.ldB 2 2 1 false true),
  s 15 (.len true (t 14)),
  s 16 (.bin .sub (t 12) (t 15)),
  s 1 (.mv (t 16))])
 (.seq (.seq (.ops [s 17 (.mv (t 1)),
  s 18 (.bin .lss (t 17) (c (i 0)))])
 (.cond (t 18) (.seq (.ops [s 4 (.mv (c (i (-1))))])
 .ret) .skip))
 (.seq (.ops [s 19 (.mv (t 1)),
  s 4 (.mv (t 19))])
 .ret)))))), none, [4], [true, true]⟩
def i116 : Comp := ⟨(.seq (.ops [s 1 (.box 3 (t 0)),
  s 2 (.alc [(.str (bs [])), (i 0), (.str (bs []))])])
 (.seq (.ops [s 3 (.alc [(.str (bs [])), (i 0), (.str (bs []))])])
 (.seq (.ops [s 4 (.mv (c (i 0))),
  s 5 (.ldB 1 0 1 false true),
  s 6 (.mv (c (i 0))),
  s 3 (.stB 3 0 1 (t 5) false)])
 (.seq (.ops [s 7 (.mv (c (i 0))),
  s 8 (.ldB 1 1 1 false true),
  s 9 (.mv (c (i 0))),
  s 3 (.stB 3 1 1 (t 8) false)])
 (.seq (.ops [s 10 (.mv (c (i 0))),
  s 11 (.ldB 1 2 1 false true),
  s 12 (.mv (c (i 0))),
  s 3 (.stB 3 2 1 (t 11) false)])
 (.seq (.ops [s 13 (.ldB 3 0 3 true true),
  s 2 (.stB 2 0 3 (t 13) false)])
 .ret)))))), (some ⟨2, 138, 3, true⟩), [], [true]⟩
def i119 : Comp := ⟨(.seq (.ops [s 2 (.box 3 (t 0)),
  s 3 (.box 3 (t 1)),
  s 4 (.mv (c (.bool false)))])
 (.seq (.seq (.ops [s 5 (.mv (c (i 0))),
  s 6 (.ldB 2 0 1 false true),
  s 7 (.mv (c (i 0))),
  s 8 (.ldB 3 0 1 false true),
  s 9 (.bin .neq (t 6) (t 8))])
 (.cond (t 9) (.seq (.ops [s 4 (.mv (c (.bool false)))])
 .ret) .skip))
 (.seq (.seq (.ops [s 10 (.mv (c (i 0))),
  s 11 (.ldB 2 1 1 false true),
  s 12 (.mv (c (i 0))),
  s 13 (.ldB 3 1 1 false true),
  s 14 (.bin .neq (t 11) (t 13))])
 (.cond (t 14) (.seq (.ops [s 4 (.mv (c (.bool false)))])
 .ret) .skip))
 (.seq (.seq (.ops [s 15 (.mv (c (i 0))),
  s 16 (.ldB 2 2 1 false true),
  s 17 (.mv (c (i 0))),
  s 18 (.ldB 3 2 1 false true),
  s 19 (.bin .neq (t 16) (t 18))])
 (.cond (t 19) (.seq (.ops [s 4 (.mv (c (.bool false)))])
 .ret) .skip))
 (.seq (.ops [s 4 (.mv (c (.bool true)))])
 .ret))))), none, [4], [true, true]⟩
def X : Cx := { tab := tbs, sig := sgs, wf := wfs, xf := xfs, rf := rfs, tl := tls }
end Go.Eng
namespace Go.Eng
open Go Go.Proofs
theorem hX : TabOK Try.prog X := TabOK.of (by kernel_rfl)
theorem c9 : compP Try.prog X 9 = some i9 := by kernel_rfl
theorem c52 : compP Try.prog X 52 = some i52 := by kernel_rfl
theorem c53 : compP Try.prog X 53 = some i53 := by kernel_rfl
theorem c54 : compP Try.prog X 54 = some i54 := by kernel_rfl
theorem c55 : compP Try.prog X 55 = some i55 := by kernel_rfl
theorem c56 : compP Try.prog X 56 = some i56 := by kernel_rfl
theorem c115 : compP Try.prog X 115 = some i115 := by kernel_rfl
theorem c116 : compP Try.prog X 116 = some i116 := by kernel_rfl
theorem c119 : compP Try.prog X 119 = some i119 := by kernel_rfl
end Go.Eng
