/- A part of the proof of a law's statement: for every input the law returns true and leaves its arguments as they were. No condition beyond the statement's own. What each function computes. -/
import Derived.Shelf.Strconv.Itoa0
import Derived.Shelf.Strconv.Itoa1
import Derived.Shelf.LaysM
import Derived.Shelf.Strconv.Itoa2
import Derived.Shelf.Strconv.Itoa3
import Derived.Test.YtpbaggfjagfcgaaDoorProg
import Derived.Lib.AppendIntMem
import Derived.Test.YtpbaggfjagfcgaaDoorXi1
set_option linter.unusedVariables false
set_option linter.unusedSimpArgs false
set_option autoImplicit true
set_option relaxedAutoImplicit true
namespace Go.Proofs
open Go.Shelf
def Tryd.lays129_ren : Go.Shelf.Ren := ⟨fun | 129 => 53 | n => n, fun | 53 => 56 | 3 => 3 | 4 => 4 | 46 => 54 | 5 => 5 | 9 => 9 | n => n, fun | n => n⟩
theorem Tryd.lays129 : Go.Proofs.Lays.n129 Tryd.prog Tryd.lays129_ren := {
  mixed := by kernel_rfl
  f129 := Tryd.func53.trans (congrArg some (by kernel_rfl))
  t3 := Tryd.underlying3
  a3 := Tryd.isAgg3
  z3 := Tryd.sizeOf3
  v3 := Tryd.zeroValue3
  t4 := Tryd.underlying4
  a4 := Tryd.isAgg4
  z4 := Tryd.sizeOf4
  v4 := Tryd.zeroValue4
  t5 := Tryd.underlying5
  a5 := Tryd.isAgg5
  z5 := Tryd.sizeOf5
  v5 := Tryd.zeroValue5
  t9 := Tryd.underlying9
  a9 := Tryd.isAgg9
  z9 := Tryd.sizeOf9
  v9 := Tryd.zeroValue9
  t46 := Tryd.underlying54
  a46 := Tryd.isAgg54
  z46 := Tryd.sizeOf54
  v46 := Tryd.zeroValue54
  t53 := Tryd.underlying56
  a53 := Tryd.isAgg56
  z53 := Tryd.sizeOf56
  v53 := Tryd.zeroValue56 }
/-- bits.Len64: "Len64 returns the minimum number of bits required to represent x; the result is 0 for x == 0.": IT RETURNS 'Lib.bitLen x'; the world is as it was. ('h0', 'h1': x is a uint64.) (LAID: no walk: one application.) -/
theorem Tryd.bits_Len64 (x : Int) (w : World) (h0 : 0 ≤ x) (h1 : x ≤ 18446744073709551615) :
    Calls Tryd.prog 53 #[.int .u64 x] w fun e w' => e = .returned (.int .i64 (Lib.bitLen x.toNat)) ∧ w' = w := Any.bits_Len64 Tryd.lays129 x w h0 h1
def Tryd.lays317_ren : Go.Shelf.Ren := ⟨fun | 317 => 52 | n => n, fun | 3 => 3 | 46 => 54 | n => n, fun | n => n⟩
theorem Tryd.lays317 : Go.Proofs.Lays.n317 Tryd.prog Tryd.lays317_ren := {
  mixed := by kernel_rfl
  f317 := Tryd.func52.trans (congrArg some (by kernel_rfl))
  t3 := Tryd.underlying3
  a3 := Tryd.isAgg3
  z3 := Tryd.sizeOf3
  v3 := Tryd.zeroValue3
  t46 := Tryd.underlying54
  a46 := Tryd.isAgg54
  z46 := Tryd.sizeOf54
  v46 := Tryd.zeroValue54 }
open Go.Lib in
/-- internal/strconv.log10Pow2: "log10Pow2(x) returns ⌊log₁₀ 2**x⌋ = ⌊x * log₁₀ 2⌋.": '(x * 78913) >> 18', at an x up to 64 (a length in bits). The world is as it was. (LAID: no walk: one application.) -/
theorem Tryd.internal_strconv_log10Pow2 (x : Nat) (h : x ≤ 64) (w : World) :
    Calls Tryd.prog 52 #[.int .i64 x] w fun e w' => e = .returned (.int .i64 (Lib.l10 x)) ∧ w' = w := Any.internal_strconv_log10Pow2 Tryd.lays317 x h w
def Tryd.lays318_ren : Go.Shelf.Ren := ⟨fun | 318 => 54 | n => n, fun | 3 => 3 | 4 => 4 | n => n, fun | n => n⟩
theorem Tryd.lays318 : Go.Proofs.Lays.n318 Tryd.prog Tryd.lays318_ren := {
  mixed := by kernel_rfl
  f318 := Tryd.func54.trans (congrArg some (by kernel_rfl))
  t3 := Tryd.underlying3
  a3 := Tryd.isAgg3
  z3 := Tryd.sizeOf3
  v3 := Tryd.zeroValue3
  t4 := Tryd.underlying4
  a4 := Tryd.isAgg4
  z4 := Tryd.sizeOf4
  v4 := Tryd.zeroValue4 }
open Go.Lib in
/-- internal/strconv.bool2: "bool2 converts b to an integer: 1 for true, 0 for false." The world is as it was. (LAID: no walk: one application.) -/
theorem Tryd.internal_strconv_bool2_int (b : Bool) (w : World) :
    Calls Tryd.prog 54 #[.bool b] w fun e w' => e = .returned (.int .i64 (if b then 1 else 0)) ∧ w' = w := Any.internal_strconv_bool2_int Tryd.lays318 b w
def Tryd.lays283_ren : Go.Shelf.Ren := ⟨fun | 283 => 48 | n => n, fun | 3 => 3 | 9 => 9 | 4 => 4 | n => n, fun | n => n⟩
theorem Tryd.lays283 : Go.Proofs.Lays.n283 Tryd.prog Tryd.lays283_ren := {
  mixed := by kernel_rfl
  f283 := Tryd.func48.trans (congrArg some (by kernel_rfl))
  t3 := Tryd.underlying3
  a3 := Tryd.isAgg3
  z3 := Tryd.sizeOf3
  v3 := Tryd.zeroValue3
  t4 := Tryd.underlying4
  a4 := Tryd.isAgg4
  z4 := Tryd.sizeOf4
  v4 := Tryd.zeroValue4
  t9 := Tryd.underlying9
  a9 := Tryd.isAgg9
  z9 := Tryd.sizeOf9
  v9 := Tryd.zeroValue9 }
open Go.Lib in
/-- internal/strconv.small: "small returns the string for an i with 0 <= i < nSmalls.": i's decimal numeral. The world is as it was. (LAID: no walk: one application.) -/
theorem Tryd.internal_strconv_small (i : Nat) (h : i < 100) (w : World) :
    Calls Tryd.prog 48 #[.int .i64 i] w fun e w' => e = .returned (.string ⟨(Lib.decDigits i).toArray⟩) ∧ w' = w := Any.internal_strconv_small Tryd.lays283 i h w
def Tryd.laysM284_ren : Go.Shelf.Ren := ⟨fun | 284 => 49 | 129 => 53 | 317 => 52 | 318 => 54 | n => n, fun | 53 => 56 | 3 => 3 | 212 => 62 | 0 => 0 | 4 => 4 | 46 => 54 | 5 => 5 | 9 => 9 | n => n, fun | 17 => 0 | n => n⟩
theorem Tryd.laysM284 : Go.Proofs.LaysM.n284 Tryd.prog Tryd.laysM284_ren := {
  mixed := by kernel_rfl
  f129 := Tryd.func53.trans (congrArg some (by kernel_rfl))
  f284 := Tryd.func49.trans (congrArg some (by kernel_rfl))
  f317 := Tryd.func52.trans (congrArg some (by kernel_rfl))
  f318 := Tryd.func54.trans (congrArg some (by kernel_rfl))
  t0 := Tryd.underlying0
  a0 := Tryd.isAgg0
  z0 := Tryd.sizeOf0
  v0 := Tryd.zeroValue0
  t3 := Tryd.underlying3
  a3 := Tryd.isAgg3
  z3 := Tryd.sizeOf3
  v3 := Tryd.zeroValue3
  t4 := Tryd.underlying4
  a4 := Tryd.isAgg4
  z4 := Tryd.sizeOf4
  v4 := Tryd.zeroValue4
  t5 := Tryd.underlying5
  a5 := Tryd.isAgg5
  z5 := Tryd.sizeOf5
  v5 := Tryd.zeroValue5
  t9 := Tryd.underlying9
  a9 := Tryd.isAgg9
  z9 := Tryd.sizeOf9
  v9 := Tryd.zeroValue9
  t46 := Tryd.underlying54
  a46 := Tryd.isAgg54
  z46 := Tryd.sizeOf54
  v46 := Tryd.zeroValue54
  t53 := Tryd.underlying56
  a53 := Tryd.isAgg56
  z53 := Tryd.sizeOf56
  v53 := Tryd.zeroValue56
  t212 := Tryd.underlying62
  a212 := Tryd.isAgg62
  z212 := Tryd.sizeOf62
  v212 := Tryd.zeroValue62
  g17 := by kernel_rfl
  i0 := by kernel_rfl
  i3 := by kernel_rfl
  i4 := by kernel_rfl
  i5 := by kernel_rfl
  i9 := by kernel_rfl
  i46 := by kernel_rfl
  i53 := by kernel_rfl
  i212 := by kernel_rfl
  m17 := by kernel_rfl }
open Go.Lib in
/-- internal/strconv.numDigits, at a d that is not 0: THE NUMBER OF d's DECIMAL DIGITS. The world is as it was. (LAID: no walk: one application.) -/
theorem Tryd.internal_strconv_numDigits (u : Nat) (h1 : 1 ≤ u) (h2 : u < 18446744073709551616) (w : World) (htab : Lib.TabIs Tryd.prog w "internal/strconv.uint64pow10" .u64 Lib.pow10Tab) :
    Calls Tryd.prog 49 #[.int .u64 u] w fun e w' => e = .returned (.int .i64 (Lib.nDigits u)) ∧ w' = w := Any.internal_strconv_numDigits Tryd.laysM284 u h1 h2 w htab
def Tryd.lays285_ren : Go.Shelf.Ren := ⟨fun | 285 => 50 | n => n, fun | 37 => 34 | 53 => 56 | 3 => 3 | 4 => 4 | 51 => 63 | 9 => 9 | 5 => 5 | 0 => 0 | n => n, fun | n => n⟩
theorem Tryd.lays285 : Go.Proofs.Lays.n285 Tryd.prog Tryd.lays285_ren := {
  mixed := by kernel_rfl
  f285 := Tryd.func50.trans (congrArg some (by kernel_rfl))
  t0 := Tryd.underlying0
  a0 := Tryd.isAgg0
  z0 := Tryd.sizeOf0
  v0 := Tryd.zeroValue0
  t3 := Tryd.underlying3
  a3 := Tryd.isAgg3
  z3 := Tryd.sizeOf3
  v3 := Tryd.zeroValue3
  t4 := Tryd.underlying4
  a4 := Tryd.isAgg4
  z4 := Tryd.sizeOf4
  v4 := Tryd.zeroValue4
  t5 := Tryd.underlying5
  a5 := Tryd.isAgg5
  z5 := Tryd.sizeOf5
  v5 := Tryd.zeroValue5
  t9 := Tryd.underlying9
  a9 := Tryd.isAgg9
  z9 := Tryd.sizeOf9
  v9 := Tryd.zeroValue9
  t37 := Tryd.underlying34
  a37 := Tryd.isAgg34
  z37 := Tryd.sizeOf34
  v37 := Tryd.zeroValue34
  t51 := Tryd.underlying63
  a51 := Tryd.isAgg63
  z51 := Tryd.sizeOf63
  v51 := Tryd.zeroValue63
  t53 := Tryd.underlying56
  a53 := Tryd.isAgg56
  z53 := Tryd.sizeOf56
  v53 := Tryd.zeroValue56 }
open Go.RowKit Go.Sort Go.Lib in
/-- internal/strconv.formatBase10: "formatBase10 formats the decimal representation of u into a. The caller is responsible for ensuring that a is big enough to hold u. If a is too big, leading zeros will be filled in as needed.": THE ROW HOLDS u's DIGITS ('FmtInv .. 0 ..': every place t holds 'dg u (len - 1 - t)'); all else is as it was but for the count of draws. (LAID: no walk: one application.) -/
theorem Tryd.internal_strconv_formatBase10 (blk off cap : Nat) (u : Nat) (d : Array UInt8) (w : World) (hH : Holds (fun (b : UInt8) => Value.int .u8 (b.toNat : Int)) w blk off d) (hu : u < 10 ^ d.size) (hu64 : u < 18446744073709551616) (hsz : d.size < 4611686018427387904) :
    Calls Tryd.prog 50 #[.slice (some ⟨blk, off, none⟩) d.size cap, .int .u64 u] w fun e w' =>
      e = .returned (.tuple #[]) ∧ ∃ (n v' : Nat) (dk : Array UInt8), w' = (putRow (fun (b : UInt8) => Value.int .u8 (b.toNat : Int)) w blk off dk).drewN n ∧ FmtInv d.size u 0 v' dk := Any.internal_strconv_formatBase10 Tryd.lays285 blk off cap u d w hH hu hu64 hsz
def Tryd.laysM246_ren : Go.Shelf.Ren := ⟨fun | 246 => 47 | 283 => 48 | 284 => 49 | 285 => 50 | 286 => 51 | 129 => 53 | 317 => 52 | 318 => 54 | 319 => 55 | 320 => 56 | 337 => 57 | 338 => 58 | n => n, fun | 2 => 2 | 3 => 3 | 9 => 9 | 4 => 4 | 171 => 55 | 0 => 0 | 53 => 56 | 37 => 34 | 5 => 5 | 173 => 59 | 212 => 62 | 51 => 63 | 20 => 20 | 213 => 64 | 46 => 54 | 232 => 67 | 233 => 68 | n => n, fun | 17 => 0 | 18 => 1 | 19 => 2 | n => n⟩
theorem Tryd.laysM246 : Go.Proofs.LaysM.n246 Tryd.prog Tryd.laysM246_ren := {
  mixed := by kernel_rfl
  f129 := Tryd.func53.trans (congrArg some (by kernel_rfl))
  f246 := Tryd.func47.trans (congrArg some (by kernel_rfl))
  f283 := Tryd.func48.trans (congrArg some (by kernel_rfl))
  f284 := Tryd.func49.trans (congrArg some (by kernel_rfl))
  f285 := Tryd.func50.trans (congrArg some (by kernel_rfl))
  f286 := Tryd.func51.trans (congrArg some (by kernel_rfl))
  f317 := Tryd.func52.trans (congrArg some (by kernel_rfl))
  f318 := Tryd.func54.trans (congrArg some (by kernel_rfl))
  f319 := Tryd.func55.trans (congrArg some (by kernel_rfl))
  f320 := Tryd.func56.trans (congrArg some (by kernel_rfl))
  f337 := Tryd.func57.trans (congrArg some (by kernel_rfl))
  f338 := Tryd.func58.trans (congrArg some (by kernel_rfl))
  t0 := Tryd.underlying0
  a0 := Tryd.isAgg0
  z0 := Tryd.sizeOf0
  v0 := Tryd.zeroValue0
  t2 := Tryd.underlying2
  a2 := Tryd.isAgg2
  z2 := Tryd.sizeOf2
  v2 := Tryd.zeroValue2
  t3 := Tryd.underlying3
  a3 := Tryd.isAgg3
  z3 := Tryd.sizeOf3
  v3 := Tryd.zeroValue3
  t4 := Tryd.underlying4
  a4 := Tryd.isAgg4
  z4 := Tryd.sizeOf4
  v4 := Tryd.zeroValue4
  t5 := Tryd.underlying5
  a5 := Tryd.isAgg5
  z5 := Tryd.sizeOf5
  v5 := Tryd.zeroValue5
  t9 := Tryd.underlying9
  a9 := Tryd.isAgg9
  z9 := Tryd.sizeOf9
  v9 := Tryd.zeroValue9
  t20 := Tryd.underlying20
  a20 := Tryd.isAgg20
  z20 := Tryd.sizeOf20
  v20 := Tryd.zeroValue20
  t37 := Tryd.underlying34
  a37 := Tryd.isAgg34
  z37 := Tryd.sizeOf34
  v37 := Tryd.zeroValue34
  t46 := Tryd.underlying54
  a46 := Tryd.isAgg54
  z46 := Tryd.sizeOf54
  v46 := Tryd.zeroValue54
  t51 := Tryd.underlying63
  a51 := Tryd.isAgg63
  z51 := Tryd.sizeOf63
  v51 := Tryd.zeroValue63
  t53 := Tryd.underlying56
  a53 := Tryd.isAgg56
  z53 := Tryd.sizeOf56
  v53 := Tryd.zeroValue56
  t171 := Tryd.underlying55
  a171 := Tryd.isAgg55
  z171 := Tryd.sizeOf55
  v171 := Tryd.zeroValue55
  t173 := Tryd.underlying59
  a173 := Tryd.isAgg59
  z173 := Tryd.sizeOf59
  v173 := Tryd.zeroValue59
  t212 := Tryd.underlying62
  a212 := Tryd.isAgg62
  z212 := Tryd.sizeOf62
  v212 := Tryd.zeroValue62
  t213 := Tryd.underlying64
  a213 := Tryd.isAgg64
  z213 := Tryd.sizeOf64
  t232 := Tryd.underlying67
  a232 := Tryd.isAgg67
  z232 := Tryd.sizeOf67
  v232 := Tryd.zeroValue67
  t233 := Tryd.underlying68
  a233 := Tryd.isAgg68
  z233 := Tryd.sizeOf68
  v233 := Tryd.zeroValue68
  g17 := by kernel_rfl
  g18 := by kernel_rfl
  g19 := by kernel_rfl
  i0 := by kernel_rfl
  i2 := by kernel_rfl
  i3 := by kernel_rfl
  i4 := by kernel_rfl
  i5 := by kernel_rfl
  i9 := by kernel_rfl
  i20 := by kernel_rfl
  i37 := by kernel_rfl
  i46 := by kernel_rfl
  i51 := by kernel_rfl
  i53 := by kernel_rfl
  i171 := by kernel_rfl
  i173 := by kernel_rfl
  i212 := by kernel_rfl
  i232 := by kernel_rfl
  i233 := by kernel_rfl
  m17 := by kernel_rfl
  m18 := by kernel_rfl
  m19 := by kernel_rfl }
open Go.RowKit Go.Sort Go.Lib in
/-- internal/strconv.FormatInt: "FormatInt returns the string representation of i in the given base": AT BASE 10: i's decimal numeral, for every int64. The world behind the call: the world before it, new blocks behind the heap, draws. (LAID: no walk: one application.) -/
theorem Tryd.internal_strconv_FormatInt_10 (n : Int) (h0 : -9223372036854775808 ≤ n) (h1 : n ≤ 9223372036854775807) (w : World) (htab : Lib.TabIs Tryd.prog w "internal/strconv.uint64pow10" .u64 Lib.pow10Tab) :
    Calls Tryd.prog 47 #[.int .i64 n, .int .i64 10] w fun e w' => e = .returned (.string ⟨(Lib.itoa n).toArray⟩) ∧ ∃ k os, w' = grow (w.drewN k) os := Any.internal_strconv_FormatInt_10 Tryd.laysM246 n h0 h1 w htab
def Tryd.lays246_ren : Go.Shelf.Ren := ⟨fun | 246 => 47 | 283 => 48 | 284 => 49 | 285 => 50 | 286 => 51 | 129 => 53 | 317 => 52 | 318 => 54 | 319 => 55 | 320 => 56 | 337 => 57 | 338 => 58 | n => n, fun | 2 => 2 | 3 => 3 | 9 => 9 | 4 => 4 | 171 => 55 | 0 => 0 | 53 => 56 | 37 => 34 | 5 => 5 | 173 => 59 | 212 => 62 | 51 => 63 | 20 => 20 | 213 => 64 | 46 => 54 | 232 => 67 | 233 => 68 | n => n, fun | 17 => 0 | 18 => 1 | 19 => 2 | n => n⟩
theorem Tryd.lays246 : Go.Proofs.Lays.n246 Tryd.prog Tryd.lays246_ren := {
  mixed := by kernel_rfl
  f129 := Tryd.func53.trans (congrArg some (by kernel_rfl))
  f246 := Tryd.func47.trans (congrArg some (by kernel_rfl))
  f283 := Tryd.func48.trans (congrArg some (by kernel_rfl))
  f284 := Tryd.func49.trans (congrArg some (by kernel_rfl))
  f285 := Tryd.func50.trans (congrArg some (by kernel_rfl))
  f286 := Tryd.func51.trans (congrArg some (by kernel_rfl))
  f317 := Tryd.func52.trans (congrArg some (by kernel_rfl))
  f318 := Tryd.func54.trans (congrArg some (by kernel_rfl))
  f319 := Tryd.func55.trans (congrArg some (by kernel_rfl))
  f320 := Tryd.func56.trans (congrArg some (by kernel_rfl))
  f337 := Tryd.func57.trans (congrArg some (by kernel_rfl))
  f338 := Tryd.func58.trans (congrArg some (by kernel_rfl))
  t0 := Tryd.underlying0
  a0 := Tryd.isAgg0
  z0 := Tryd.sizeOf0
  v0 := Tryd.zeroValue0
  t2 := Tryd.underlying2
  a2 := Tryd.isAgg2
  z2 := Tryd.sizeOf2
  v2 := Tryd.zeroValue2
  t3 := Tryd.underlying3
  a3 := Tryd.isAgg3
  z3 := Tryd.sizeOf3
  v3 := Tryd.zeroValue3
  t4 := Tryd.underlying4
  a4 := Tryd.isAgg4
  z4 := Tryd.sizeOf4
  v4 := Tryd.zeroValue4
  t5 := Tryd.underlying5
  a5 := Tryd.isAgg5
  z5 := Tryd.sizeOf5
  v5 := Tryd.zeroValue5
  t9 := Tryd.underlying9
  a9 := Tryd.isAgg9
  z9 := Tryd.sizeOf9
  v9 := Tryd.zeroValue9
  t20 := Tryd.underlying20
  a20 := Tryd.isAgg20
  z20 := Tryd.sizeOf20
  v20 := Tryd.zeroValue20
  t37 := Tryd.underlying34
  a37 := Tryd.isAgg34
  z37 := Tryd.sizeOf34
  v37 := Tryd.zeroValue34
  t46 := Tryd.underlying54
  a46 := Tryd.isAgg54
  z46 := Tryd.sizeOf54
  v46 := Tryd.zeroValue54
  t51 := Tryd.underlying63
  a51 := Tryd.isAgg63
  z51 := Tryd.sizeOf63
  v51 := Tryd.zeroValue63
  t53 := Tryd.underlying56
  a53 := Tryd.isAgg56
  z53 := Tryd.sizeOf56
  v53 := Tryd.zeroValue56
  t171 := Tryd.underlying55
  a171 := Tryd.isAgg55
  z171 := Tryd.sizeOf55
  v171 := Tryd.zeroValue55
  t173 := Tryd.underlying59
  a173 := Tryd.isAgg59
  z173 := Tryd.sizeOf59
  v173 := Tryd.zeroValue59
  t212 := Tryd.underlying62
  a212 := Tryd.isAgg62
  z212 := Tryd.sizeOf62
  v212 := Tryd.zeroValue62
  t213 := Tryd.underlying64
  a213 := Tryd.isAgg64
  z213 := Tryd.sizeOf64
  t232 := Tryd.underlying67
  a232 := Tryd.isAgg67
  z232 := Tryd.sizeOf67
  v232 := Tryd.zeroValue67
  t233 := Tryd.underlying68
  a233 := Tryd.isAgg68
  z233 := Tryd.sizeOf68
  v233 := Tryd.zeroValue68
  g17 := by kernel_rfl
  g18 := by kernel_rfl
  g19 := by kernel_rfl }
open Go.RowKit Go.Sort Go.Lib in
/-- THE ROAD WITHOUT THE TABLE: 0 <= i < 100: two constants are read, nothing is laid: no premise on the world, and the world is as it was. (LAID: no walk: one application.) -/
theorem Tryd.internal_strconv_FormatInt_10_small (i : Nat) (hi : i < 100) (w : World) :
    Calls Tryd.prog 47 #[.int .i64 i, .int .i64 10] w fun e w' => e = .returned (.string ⟨(Lib.decDigits i).toArray⟩) ∧ w' = w := Any.internal_strconv_FormatInt_10_small Tryd.lays246 i hi w
def Tryd.laysM243_ren : Go.Shelf.Ren := ⟨fun | 243 => 45 | 246 => 47 | 283 => 48 | 284 => 49 | 285 => 50 | 286 => 51 | 129 => 53 | 317 => 52 | 318 => 54 | 319 => 55 | 320 => 56 | 337 => 57 | 338 => 58 | n => n, fun | 3 => 3 | 9 => 9 | 2 => 2 | 4 => 4 | 171 => 55 | 0 => 0 | 53 => 56 | 37 => 34 | 5 => 5 | 173 => 59 | 212 => 62 | 51 => 63 | 20 => 20 | 213 => 64 | 46 => 54 | 232 => 67 | 233 => 68 | n => n, fun | 17 => 0 | 18 => 1 | 19 => 2 | n => n⟩
theorem Tryd.laysM243 : Go.Proofs.LaysM.n243 Tryd.prog Tryd.laysM243_ren := {
  mixed := by kernel_rfl
  f129 := Tryd.func53.trans (congrArg some (by kernel_rfl))
  f243 := Tryd.func45.trans (congrArg some (by kernel_rfl))
  f246 := Tryd.func47.trans (congrArg some (by kernel_rfl))
  f283 := Tryd.func48.trans (congrArg some (by kernel_rfl))
  f284 := Tryd.func49.trans (congrArg some (by kernel_rfl))
  f285 := Tryd.func50.trans (congrArg some (by kernel_rfl))
  f286 := Tryd.func51.trans (congrArg some (by kernel_rfl))
  f317 := Tryd.func52.trans (congrArg some (by kernel_rfl))
  f318 := Tryd.func54.trans (congrArg some (by kernel_rfl))
  f319 := Tryd.func55.trans (congrArg some (by kernel_rfl))
  f320 := Tryd.func56.trans (congrArg some (by kernel_rfl))
  f337 := Tryd.func57.trans (congrArg some (by kernel_rfl))
  f338 := Tryd.func58.trans (congrArg some (by kernel_rfl))
  t0 := Tryd.underlying0
  a0 := Tryd.isAgg0
  z0 := Tryd.sizeOf0
  v0 := Tryd.zeroValue0
  t2 := Tryd.underlying2
  a2 := Tryd.isAgg2
  z2 := Tryd.sizeOf2
  v2 := Tryd.zeroValue2
  t3 := Tryd.underlying3
  a3 := Tryd.isAgg3
  z3 := Tryd.sizeOf3
  v3 := Tryd.zeroValue3
  t4 := Tryd.underlying4
  a4 := Tryd.isAgg4
  z4 := Tryd.sizeOf4
  v4 := Tryd.zeroValue4
  t5 := Tryd.underlying5
  a5 := Tryd.isAgg5
  z5 := Tryd.sizeOf5
  v5 := Tryd.zeroValue5
  t9 := Tryd.underlying9
  a9 := Tryd.isAgg9
  z9 := Tryd.sizeOf9
  v9 := Tryd.zeroValue9
  t20 := Tryd.underlying20
  a20 := Tryd.isAgg20
  z20 := Tryd.sizeOf20
  v20 := Tryd.zeroValue20
  t37 := Tryd.underlying34
  a37 := Tryd.isAgg34
  z37 := Tryd.sizeOf34
  v37 := Tryd.zeroValue34
  t46 := Tryd.underlying54
  a46 := Tryd.isAgg54
  z46 := Tryd.sizeOf54
  v46 := Tryd.zeroValue54
  t51 := Tryd.underlying63
  a51 := Tryd.isAgg63
  z51 := Tryd.sizeOf63
  v51 := Tryd.zeroValue63
  t53 := Tryd.underlying56
  a53 := Tryd.isAgg56
  z53 := Tryd.sizeOf56
  v53 := Tryd.zeroValue56
  t171 := Tryd.underlying55
  a171 := Tryd.isAgg55
  z171 := Tryd.sizeOf55
  v171 := Tryd.zeroValue55
  t173 := Tryd.underlying59
  a173 := Tryd.isAgg59
  z173 := Tryd.sizeOf59
  v173 := Tryd.zeroValue59
  t212 := Tryd.underlying62
  a212 := Tryd.isAgg62
  z212 := Tryd.sizeOf62
  v212 := Tryd.zeroValue62
  t213 := Tryd.underlying64
  a213 := Tryd.isAgg64
  z213 := Tryd.sizeOf64
  t232 := Tryd.underlying67
  a232 := Tryd.isAgg67
  z232 := Tryd.sizeOf67
  v232 := Tryd.zeroValue67
  t233 := Tryd.underlying68
  a233 := Tryd.isAgg68
  z233 := Tryd.sizeOf68
  v233 := Tryd.zeroValue68
  g17 := by kernel_rfl
  g18 := by kernel_rfl
  g19 := by kernel_rfl
  i0 := by kernel_rfl
  i2 := by kernel_rfl
  i3 := by kernel_rfl
  i4 := by kernel_rfl
  i5 := by kernel_rfl
  i9 := by kernel_rfl
  i20 := by kernel_rfl
  i37 := by kernel_rfl
  i46 := by kernel_rfl
  i51 := by kernel_rfl
  i53 := by kernel_rfl
  i171 := by kernel_rfl
  i173 := by kernel_rfl
  i212 := by kernel_rfl
  i232 := by kernel_rfl
  i233 := by kernel_rfl
  m17 := by kernel_rfl
  m18 := by kernel_rfl
  m19 := by kernel_rfl }
open Go.RowKit Go.Sort Go.Lib in
/-- internal/strconv.Itoa: "Itoa is equivalent to FormatInt(int64(i), 10).": i's decimal numeral, for every int. (LAID: no walk: one application.) -/
theorem Tryd.internal_strconv_Itoa (n : Int) (h0 : -9223372036854775808 ≤ n) (h1 : n ≤ 9223372036854775807) (w : World) (htab : Lib.TabIs Tryd.prog w "internal/strconv.uint64pow10" .u64 Lib.pow10Tab) :
    Calls Tryd.prog 45 #[.int .i64 n] w fun e w' => e = .returned (.string ⟨(Lib.itoa n).toArray⟩) ∧ ∃ k os, w' = grow (w.drewN k) os := Any.internal_strconv_Itoa Tryd.laysM243 n h0 h1 w htab
def Tryd.lays243_ren : Go.Shelf.Ren := ⟨fun | 243 => 45 | 246 => 47 | 283 => 48 | 284 => 49 | 285 => 50 | 286 => 51 | 129 => 53 | 317 => 52 | 318 => 54 | 319 => 55 | 320 => 56 | 337 => 57 | 338 => 58 | n => n, fun | 3 => 3 | 9 => 9 | 2 => 2 | 4 => 4 | 171 => 55 | 0 => 0 | 53 => 56 | 37 => 34 | 5 => 5 | 173 => 59 | 212 => 62 | 51 => 63 | 20 => 20 | 213 => 64 | 46 => 54 | 232 => 67 | 233 => 68 | n => n, fun | 17 => 0 | 18 => 1 | 19 => 2 | n => n⟩
theorem Tryd.lays243 : Go.Proofs.Lays.n243 Tryd.prog Tryd.lays243_ren := {
  mixed := by kernel_rfl
  f129 := Tryd.func53.trans (congrArg some (by kernel_rfl))
  f243 := Tryd.func45.trans (congrArg some (by kernel_rfl))
  f246 := Tryd.func47.trans (congrArg some (by kernel_rfl))
  f283 := Tryd.func48.trans (congrArg some (by kernel_rfl))
  f284 := Tryd.func49.trans (congrArg some (by kernel_rfl))
  f285 := Tryd.func50.trans (congrArg some (by kernel_rfl))
  f286 := Tryd.func51.trans (congrArg some (by kernel_rfl))
  f317 := Tryd.func52.trans (congrArg some (by kernel_rfl))
  f318 := Tryd.func54.trans (congrArg some (by kernel_rfl))
  f319 := Tryd.func55.trans (congrArg some (by kernel_rfl))
  f320 := Tryd.func56.trans (congrArg some (by kernel_rfl))
  f337 := Tryd.func57.trans (congrArg some (by kernel_rfl))
  f338 := Tryd.func58.trans (congrArg some (by kernel_rfl))
  t0 := Tryd.underlying0
  a0 := Tryd.isAgg0
  z0 := Tryd.sizeOf0
  v0 := Tryd.zeroValue0
  t2 := Tryd.underlying2
  a2 := Tryd.isAgg2
  z2 := Tryd.sizeOf2
  v2 := Tryd.zeroValue2
  t3 := Tryd.underlying3
  a3 := Tryd.isAgg3
  z3 := Tryd.sizeOf3
  v3 := Tryd.zeroValue3
  t4 := Tryd.underlying4
  a4 := Tryd.isAgg4
  z4 := Tryd.sizeOf4
  v4 := Tryd.zeroValue4
  t5 := Tryd.underlying5
  a5 := Tryd.isAgg5
  z5 := Tryd.sizeOf5
  v5 := Tryd.zeroValue5
  t9 := Tryd.underlying9
  a9 := Tryd.isAgg9
  z9 := Tryd.sizeOf9
  v9 := Tryd.zeroValue9
  t20 := Tryd.underlying20
  a20 := Tryd.isAgg20
  z20 := Tryd.sizeOf20
  v20 := Tryd.zeroValue20
  t37 := Tryd.underlying34
  a37 := Tryd.isAgg34
  z37 := Tryd.sizeOf34
  v37 := Tryd.zeroValue34
  t46 := Tryd.underlying54
  a46 := Tryd.isAgg54
  z46 := Tryd.sizeOf54
  v46 := Tryd.zeroValue54
  t51 := Tryd.underlying63
  a51 := Tryd.isAgg63
  z51 := Tryd.sizeOf63
  v51 := Tryd.zeroValue63
  t53 := Tryd.underlying56
  a53 := Tryd.isAgg56
  z53 := Tryd.sizeOf56
  v53 := Tryd.zeroValue56
  t171 := Tryd.underlying55
  a171 := Tryd.isAgg55
  z171 := Tryd.sizeOf55
  v171 := Tryd.zeroValue55
  t173 := Tryd.underlying59
  a173 := Tryd.isAgg59
  z173 := Tryd.sizeOf59
  v173 := Tryd.zeroValue59
  t212 := Tryd.underlying62
  a212 := Tryd.isAgg62
  z212 := Tryd.sizeOf62
  v212 := Tryd.zeroValue62
  t213 := Tryd.underlying64
  a213 := Tryd.isAgg64
  z213 := Tryd.sizeOf64
  t232 := Tryd.underlying67
  a232 := Tryd.isAgg67
  z232 := Tryd.sizeOf67
  v232 := Tryd.zeroValue67
  t233 := Tryd.underlying68
  a233 := Tryd.isAgg68
  z233 := Tryd.sizeOf68
  v233 := Tryd.zeroValue68
  g17 := by kernel_rfl
  g18 := by kernel_rfl
  g19 := by kernel_rfl }
open Go.RowKit Go.Sort Go.Lib in
/-- THE ROAD WITHOUT THE TABLE: 0 <= i < 100. (LAID: no walk: one application.) -/
theorem Tryd.internal_strconv_Itoa_small (i : Nat) (hi : i < 100) (w : World) :
    Calls Tryd.prog 45 #[.int .i64 i] w fun e w' => e = .returned (.string ⟨(Lib.decDigits i).toArray⟩) ∧ w' = w := Any.internal_strconv_Itoa_small Tryd.lays243 i hi w
def Tryd.laysM171_ren : Go.Shelf.Ren := ⟨fun | 171 => 41 | 243 => 45 | 246 => 47 | 283 => 48 | 284 => 49 | 285 => 50 | 286 => 51 | 129 => 53 | 317 => 52 | 318 => 54 | 319 => 55 | 320 => 56 | 337 => 57 | 338 => 58 | n => n, fun | 3 => 3 | 9 => 9 | 2 => 2 | 4 => 4 | 171 => 55 | 0 => 0 | 53 => 56 | 37 => 34 | 5 => 5 | 173 => 59 | 212 => 62 | 51 => 63 | 20 => 20 | 213 => 64 | 46 => 54 | 232 => 67 | 233 => 68 | n => n, fun | 17 => 0 | 18 => 1 | 19 => 2 | n => n⟩
theorem Tryd.laysM171 : Go.Proofs.LaysM.n171 Tryd.prog Tryd.laysM171_ren := {
  mixed := by kernel_rfl
  f129 := Tryd.func53.trans (congrArg some (by kernel_rfl))
  f171 := Tryd.func41.trans (congrArg some (by kernel_rfl))
  f243 := Tryd.func45.trans (congrArg some (by kernel_rfl))
  f246 := Tryd.func47.trans (congrArg some (by kernel_rfl))
  f283 := Tryd.func48.trans (congrArg some (by kernel_rfl))
  f284 := Tryd.func49.trans (congrArg some (by kernel_rfl))
  f285 := Tryd.func50.trans (congrArg some (by kernel_rfl))
  f286 := Tryd.func51.trans (congrArg some (by kernel_rfl))
  f317 := Tryd.func52.trans (congrArg some (by kernel_rfl))
  f318 := Tryd.func54.trans (congrArg some (by kernel_rfl))
  f319 := Tryd.func55.trans (congrArg some (by kernel_rfl))
  f320 := Tryd.func56.trans (congrArg some (by kernel_rfl))
  f337 := Tryd.func57.trans (congrArg some (by kernel_rfl))
  f338 := Tryd.func58.trans (congrArg some (by kernel_rfl))
  t0 := Tryd.underlying0
  a0 := Tryd.isAgg0
  z0 := Tryd.sizeOf0
  v0 := Tryd.zeroValue0
  t2 := Tryd.underlying2
  a2 := Tryd.isAgg2
  z2 := Tryd.sizeOf2
  v2 := Tryd.zeroValue2
  t3 := Tryd.underlying3
  a3 := Tryd.isAgg3
  z3 := Tryd.sizeOf3
  v3 := Tryd.zeroValue3
  t4 := Tryd.underlying4
  a4 := Tryd.isAgg4
  z4 := Tryd.sizeOf4
  v4 := Tryd.zeroValue4
  t5 := Tryd.underlying5
  a5 := Tryd.isAgg5
  z5 := Tryd.sizeOf5
  v5 := Tryd.zeroValue5
  t9 := Tryd.underlying9
  a9 := Tryd.isAgg9
  z9 := Tryd.sizeOf9
  v9 := Tryd.zeroValue9
  t20 := Tryd.underlying20
  a20 := Tryd.isAgg20
  z20 := Tryd.sizeOf20
  v20 := Tryd.zeroValue20
  t37 := Tryd.underlying34
  a37 := Tryd.isAgg34
  z37 := Tryd.sizeOf34
  v37 := Tryd.zeroValue34
  t46 := Tryd.underlying54
  a46 := Tryd.isAgg54
  z46 := Tryd.sizeOf54
  v46 := Tryd.zeroValue54
  t51 := Tryd.underlying63
  a51 := Tryd.isAgg63
  z51 := Tryd.sizeOf63
  v51 := Tryd.zeroValue63
  t53 := Tryd.underlying56
  a53 := Tryd.isAgg56
  z53 := Tryd.sizeOf56
  v53 := Tryd.zeroValue56
  t171 := Tryd.underlying55
  a171 := Tryd.isAgg55
  z171 := Tryd.sizeOf55
  v171 := Tryd.zeroValue55
  t173 := Tryd.underlying59
  a173 := Tryd.isAgg59
  z173 := Tryd.sizeOf59
  v173 := Tryd.zeroValue59
  t212 := Tryd.underlying62
  a212 := Tryd.isAgg62
  z212 := Tryd.sizeOf62
  v212 := Tryd.zeroValue62
  t213 := Tryd.underlying64
  a213 := Tryd.isAgg64
  z213 := Tryd.sizeOf64
  t232 := Tryd.underlying67
  a232 := Tryd.isAgg67
  z232 := Tryd.sizeOf67
  v232 := Tryd.zeroValue67
  t233 := Tryd.underlying68
  a233 := Tryd.isAgg68
  z233 := Tryd.sizeOf68
  v233 := Tryd.zeroValue68
  g17 := by kernel_rfl
  g18 := by kernel_rfl
  g19 := by kernel_rfl
  i0 := by kernel_rfl
  i2 := by kernel_rfl
  i3 := by kernel_rfl
  i4 := by kernel_rfl
  i5 := by kernel_rfl
  i9 := by kernel_rfl
  i20 := by kernel_rfl
  i37 := by kernel_rfl
  i46 := by kernel_rfl
  i51 := by kernel_rfl
  i53 := by kernel_rfl
  i171 := by kernel_rfl
  i173 := by kernel_rfl
  i212 := by kernel_rfl
  i232 := by kernel_rfl
  i233 := by kernel_rfl
  m17 := by kernel_rfl
  m18 := by kernel_rfl
  m19 := by kernel_rfl }
open Go.RowKit Go.Sort Go.Lib in
/-- strconv.Itoa: "Itoa is equivalent to FormatInt(int64(i), 10).": i's DECIMAL NUMERAL ('Lib.itoa': a '-' where i is negative, then the digits), FOR EVERY int. The world behind the call: the world before it, new blocks behind the heap (the library's 'var a [24]byte'), draws. (LAID: no walk: one application.) -/
theorem Tryd.strconv_Itoa (n : Int) (h0 : -9223372036854775808 ≤ n) (h1 : n ≤ 9223372036854775807) (w : World) (htab : Lib.TabIs Tryd.prog w "internal/strconv.uint64pow10" .u64 Lib.pow10Tab) :
    Calls Tryd.prog 41 #[.int .i64 n] w fun e w' => e = .returned (.string ⟨(Lib.itoa n).toArray⟩) ∧ ∃ k os, w' = grow (w.drewN k) os := Any.strconv_Itoa Tryd.laysM171 n h0 h1 w htab
def Tryd.lays171_ren : Go.Shelf.Ren := ⟨fun | 171 => 41 | 243 => 45 | 246 => 47 | 283 => 48 | 284 => 49 | 285 => 50 | 286 => 51 | 129 => 53 | 317 => 52 | 318 => 54 | 319 => 55 | 320 => 56 | 337 => 57 | 338 => 58 | n => n, fun | 3 => 3 | 9 => 9 | 2 => 2 | 4 => 4 | 171 => 55 | 0 => 0 | 53 => 56 | 37 => 34 | 5 => 5 | 173 => 59 | 212 => 62 | 51 => 63 | 20 => 20 | 213 => 64 | 46 => 54 | 232 => 67 | 233 => 68 | n => n, fun | 17 => 0 | 18 => 1 | 19 => 2 | n => n⟩
theorem Tryd.lays171 : Go.Proofs.Lays.n171 Tryd.prog Tryd.lays171_ren := {
  mixed := by kernel_rfl
  f129 := Tryd.func53.trans (congrArg some (by kernel_rfl))
  f171 := Tryd.func41.trans (congrArg some (by kernel_rfl))
  f243 := Tryd.func45.trans (congrArg some (by kernel_rfl))
  f246 := Tryd.func47.trans (congrArg some (by kernel_rfl))
  f283 := Tryd.func48.trans (congrArg some (by kernel_rfl))
  f284 := Tryd.func49.trans (congrArg some (by kernel_rfl))
  f285 := Tryd.func50.trans (congrArg some (by kernel_rfl))
  f286 := Tryd.func51.trans (congrArg some (by kernel_rfl))
  f317 := Tryd.func52.trans (congrArg some (by kernel_rfl))
  f318 := Tryd.func54.trans (congrArg some (by kernel_rfl))
  f319 := Tryd.func55.trans (congrArg some (by kernel_rfl))
  f320 := Tryd.func56.trans (congrArg some (by kernel_rfl))
  f337 := Tryd.func57.trans (congrArg some (by kernel_rfl))
  f338 := Tryd.func58.trans (congrArg some (by kernel_rfl))
  t0 := Tryd.underlying0
  a0 := Tryd.isAgg0
  z0 := Tryd.sizeOf0
  v0 := Tryd.zeroValue0
  t2 := Tryd.underlying2
  a2 := Tryd.isAgg2
  z2 := Tryd.sizeOf2
  v2 := Tryd.zeroValue2
  t3 := Tryd.underlying3
  a3 := Tryd.isAgg3
  z3 := Tryd.sizeOf3
  v3 := Tryd.zeroValue3
  t4 := Tryd.underlying4
  a4 := Tryd.isAgg4
  z4 := Tryd.sizeOf4
  v4 := Tryd.zeroValue4
  t5 := Tryd.underlying5
  a5 := Tryd.isAgg5
  z5 := Tryd.sizeOf5
  v5 := Tryd.zeroValue5
  t9 := Tryd.underlying9
  a9 := Tryd.isAgg9
  z9 := Tryd.sizeOf9
  v9 := Tryd.zeroValue9
  t20 := Tryd.underlying20
  a20 := Tryd.isAgg20
  z20 := Tryd.sizeOf20
  v20 := Tryd.zeroValue20
  t37 := Tryd.underlying34
  a37 := Tryd.isAgg34
  z37 := Tryd.sizeOf34
  v37 := Tryd.zeroValue34
  t46 := Tryd.underlying54
  a46 := Tryd.isAgg54
  z46 := Tryd.sizeOf54
  v46 := Tryd.zeroValue54
  t51 := Tryd.underlying63
  a51 := Tryd.isAgg63
  z51 := Tryd.sizeOf63
  v51 := Tryd.zeroValue63
  t53 := Tryd.underlying56
  a53 := Tryd.isAgg56
  z53 := Tryd.sizeOf56
  v53 := Tryd.zeroValue56
  t171 := Tryd.underlying55
  a171 := Tryd.isAgg55
  z171 := Tryd.sizeOf55
  v171 := Tryd.zeroValue55
  t173 := Tryd.underlying59
  a173 := Tryd.isAgg59
  z173 := Tryd.sizeOf59
  v173 := Tryd.zeroValue59
  t212 := Tryd.underlying62
  a212 := Tryd.isAgg62
  z212 := Tryd.sizeOf62
  v212 := Tryd.zeroValue62
  t213 := Tryd.underlying64
  a213 := Tryd.isAgg64
  z213 := Tryd.sizeOf64
  t232 := Tryd.underlying67
  a232 := Tryd.isAgg67
  z232 := Tryd.sizeOf67
  v232 := Tryd.zeroValue67
  t233 := Tryd.underlying68
  a233 := Tryd.isAgg68
  z233 := Tryd.sizeOf68
  v233 := Tryd.zeroValue68
  g17 := by kernel_rfl
  g18 := by kernel_rfl
  g19 := by kernel_rfl }
open Go.RowKit Go.Sort Go.Lib in
/-- THE ROAD WITHOUT THE TABLE: 0 <= i < 100: NO PREMISE ON THE WORLD, AND THE WORLD IS AS IT WAS: a row that keeps its argument in that range need list no table ('laid = []'). (LAID: no walk: one application.) -/
theorem Tryd.strconv_Itoa_small (i : Nat) (hi : i < 100) (w : World) :
    Calls Tryd.prog 41 #[.int .i64 i] w fun e w' => e = .returned (.string ⟨(Lib.decDigits i).toArray⟩) ∧ w' = w := Any.strconv_Itoa_small Tryd.lays171 i hi w
end Go.Proofs
namespace Go.Eng
open Go Go.Proofs
set_option linter.unusedSimpArgs false
set_option linter.unusedVariables false
set_option maxRecDepth 20000

def inR (x l m : Int) : Bool := decide (l ≤ x ∧ x ≤ m)
theorem f34 (x l m : Int) : Fn Tryd.prog 34 false [i x, i l, i m] (.bool (inR x l m)) := by
  refine Fn.by_sx hX (by kernel_rfl) c34 (by kernel_rfl) (by rfl) ?_
  simp [i34, sx_skip, sx_ops, sx_seq, sx_cond, sx_block, sx_exit, sx_ret, sxl_nil, sxl_set, sxl_call, sxl_callv, sxl_g1, sxl_g2, sxl_g3, sxl_g4, OkS_true, GrdS_tt, GrdS_tf, GrdS_ft, GrdS_ff, CondS_t, CondS_f, then_n, then_e, then_r, blk_n, blk_e, blk_r, upd_app, Ex.ok, Ex.val, Opd.val, POp.dst, bin_int, binOK_int, bin_str, binOK_str, resOK, resV, RB.val, sub, putc, scB, scL, oneB, conf, Ex.val.eqP, Ex.val.eqL, negV, mxV, mnV, ← wr_eq, wr_zero, wr_one, wr_m1, partsOK, putAll, appV, slV, sslV, optB, optNum, and_assoc, exists_and_left, exists_eq_left']
  repeat' (first | intro _ | (simp [sx_skip, sx_ops, sx_seq, sx_cond, sx_block, sx_exit, sx_ret, sxl_nil, sxl_set, sxl_call, sxl_callv, sxl_g1, sxl_g2, sxl_g3, sxl_g4, OkS_true, GrdS_tt, GrdS_tf, GrdS_ft, GrdS_ff, CondS_t, CondS_f, then_n, then_e, then_r, blk_n, blk_e, blk_r, upd_app, Ex.ok, Ex.val, Opd.val, POp.dst, bin_int, binOK_int, bin_str, binOK_str, resOK, resV, RB.val, sub, putc, scB, scL, oneB, conf, Ex.val.eqP, Ex.val.eqL, negV, mxV, mnV, ← wr_eq, wr_zero, wr_one, wr_m1, partsOK, putAll, appV, slV, sslV, optB, optNum, and_assoc, exists_and_left, exists_eq_left', *]) | refine CondS_d (fun h => ?_) (fun h => ?_) | refine CondS_b (fun h => ?_) (fun h => ?_) | refine GrdS_d (fun h => ?_) (fun h => ?_) | refine GrdS_b (fun h => ?_) (fun h => ?_) | refine OkS_i (by omega) ?_ | fail)
  all_goals simp_all [inR]
  all_goals omega
theorem f31 (x l m : Int) : Fn Tryd.prog 31 false [i x, i l, i m] (.bool (inR x l m)) := by
  refine Fn.by_sx hX (by kernel_rfl) c31 (by kernel_rfl) (by rfl) ?_
  simp [i31, sx_skip, sx_ops, sx_seq, sx_cond, sx_block, sx_exit, sx_ret, sxl_nil, sxl_set, sxl_call, sxl_callv, sxl_g1, sxl_g2, sxl_g3, sxl_g4, OkS_true, GrdS_tt, GrdS_tf, GrdS_ft, GrdS_ff, CondS_t, CondS_f, then_n, then_e, then_r, blk_n, blk_e, blk_r, upd_app, Ex.ok, Ex.val, Opd.val, POp.dst, bin_int, binOK_int, bin_str, binOK_str, resOK, resV, RB.val, sub, putc, scB, scL, oneB, conf, Ex.val.eqP, Ex.val.eqL, negV, mxV, mnV, ← wr_eq, wr_zero, wr_one, wr_m1, partsOK, putAll, appV, slV, sslV, optB, optNum, and_assoc, exists_and_left, exists_eq_left']
  repeat' (first | intro _ | (simp [sx_skip, sx_ops, sx_seq, sx_cond, sx_block, sx_exit, sx_ret, sxl_nil, sxl_set, sxl_call, sxl_callv, sxl_g1, sxl_g2, sxl_g3, sxl_g4, OkS_true, GrdS_tt, GrdS_tf, GrdS_ft, GrdS_ff, CondS_t, CondS_f, then_n, then_e, then_r, blk_n, blk_e, blk_r, upd_app, Ex.ok, Ex.val, Opd.val, POp.dst, bin_int, binOK_int, bin_str, binOK_str, resOK, resV, RB.val, sub, putc, scB, scL, oneB, conf, Ex.val.eqP, Ex.val.eqL, negV, mxV, mnV, ← wr_eq, wr_zero, wr_one, wr_m1, partsOK, putAll, appV, slV, sslV, optB, optNum, and_assoc, exists_and_left, exists_eq_left', *]) | refine CondS_d (fun h => ?_) (fun h => ?_) | refine CondS_b (fun h => ?_) (fun h => ?_) | refine GrdS_d (fun h => ?_) (fun h => ?_) | refine GrdS_b (fun h => ?_) (fun h => ?_) | refine OkS_i (by omega) ?_ | fail)
  all_goals simp_all [inR]
  all_goals omega
def dec (n : Int) : ByteArray := ⟨(Lib.itoa n).toArray⟩
theorem f41 (n : Int) (h0 : -9223372036854775808 ≤ n) (h1 : n ≤ 9223372036854775807) : Fn Tryd.prog 41 false [i n] (.str (dec n)) := by
  refine ⟨by kernel_rfl, fun w xs Fs hi hr hlt => ?_⟩
  obtain ⟨x, xs', F1, F2, rfl, rfl, hx, hr'⟩ := RepL.cons_inv hr
  obtain ⟨rfl, rfl⟩ := hr'.nil_inv
  obtain ⟨rfl, rfl⟩ := hx.int_inv
  have hn : (Tryd.prog.globalNamed pow10N).isNone = false := by kernel_rfl
  have htab : Lib.TabIs Tryd.prog w "internal/strconv.uint64pow10" .u64 Lib.pow10Tab := hi.resolve_left (fun h => by rw [h] at hn; cases hn)
  refine (Tryd.strconv_Itoa n h0 h1 w htab).mono ?_
  rintro e w' ⟨rfl, k, os, rfl⟩
  exact ⟨_, [], rfl, .str _, Lib.below_grow _ _ (Nat.le_refl _) _ _, by simp, by simp⟩
theorem f30 (n : Int) (h0 : -9223372036854775808 ≤ n) (h1 : n ≤ 9223372036854775807) : Fn Tryd.prog 30 false [i n] (.str (dec n)) := by
  refine Fn.by_sx hX (by kernel_rfl) c30 (by kernel_rfl) (by rfl) ?_
  simp [i30, sx_skip, sx_ops, sx_seq, sx_cond, sx_block, sx_exit, sx_ret, sxl_nil, sxl_set, sxl_call, sxl_callv, sxl_g1, sxl_g2, sxl_g3, sxl_g4, OkS_true, GrdS_tt, GrdS_tf, GrdS_ft, GrdS_ff, CondS_t, CondS_f, then_n, then_e, then_r, blk_n, blk_e, blk_r, upd_app, Ex.ok, Ex.val, Opd.val, POp.dst, bin_int, binOK_int, bin_str, binOK_str, resOK, resV, RB.val, sub, putc, scB, scL, oneB, conf, Ex.val.eqP, Ex.val.eqL, negV, mxV, mnV, ← wr_eq, wr_zero, wr_one, wr_m1, partsOK, putAll, appV, slV, sslV, optB, optNum, and_assoc, exists_and_left, exists_eq_left']
  repeat' (first | intro _ | (simp [sx_skip, sx_ops, sx_seq, sx_cond, sx_block, sx_exit, sx_ret, sxl_nil, sxl_set, sxl_call, sxl_callv, sxl_g1, sxl_g2, sxl_g3, sxl_g4, OkS_true, GrdS_tt, GrdS_tf, GrdS_ft, GrdS_ff, CondS_t, CondS_f, then_n, then_e, then_r, blk_n, blk_e, blk_r, upd_app, Ex.ok, Ex.val, Opd.val, POp.dst, bin_int, binOK_int, bin_str, binOK_str, resOK, resV, RB.val, sub, putc, scB, scL, oneB, conf, Ex.val.eqP, Ex.val.eqL, negV, mxV, mnV, ← wr_eq, wr_zero, wr_one, wr_m1, partsOK, putAll, appV, slV, sslV, optB, optNum, and_assoc, exists_and_left, exists_eq_left', *]) | refine CallS_i (f41 n h0 h1) ?_ | refine CondS_d (fun h => ?_) (fun h => ?_) | refine CondS_b (fun h => ?_) (fun h => ?_) | refine GrdS_d (fun h => ?_) (fun h => ?_) | refine GrdS_b (fun h => ?_) (fun h => ?_) | refine OkS_i (by omega) ?_ | fail)
/-! the first digit -/
def leadF : Nat → Nat → Nat
  | 0, u => u
  | f + 1, u => if u < 10 then u else leadF f (u / 10)
def lead (u : Nat) : Nat := leadF 20 u
theorem leadF_le : ∀ f u, u < 10 ^ f → leadF f u ≤ 9
  | 0, u, h => by simp at h; simp [leadF, h]
  | f + 1, u, h => by
    unfold leadF
    split
    · omega
    · exact leadF_le f _ (by rw [Nat.pow_succ] at h; omega)
theorem leadF_more : ∀ f u, u < 10 ^ f → leadF (f + 1) u = leadF f u
  | 0, u, h => by simp at h; simp [leadF, h]
  | f + 1, u, h => by
    unfold leadF
    split
    · rfl
    · exact leadF_more f _ (by rw [Nat.pow_succ] at h; omega)
theorem lead_div {u : Nat} (h : 10 ≤ u) (h2 : u < 10 ^ 19) : lead u = lead (u / 10) := by
  have e : lead u = leadF 19 (u / 10) := by
    show (if u < 10 then u else leadF 19 (u / 10)) = _
    rw [if_neg (by omega)]
  rw [e]
  exact (leadF_more 19 (u / 10) (by omega)).symm
theorem lead_small {u : Nat} (h : u < 10) : lead u = u := by
  show (if u < 10 then u else leadF 19 (u / 10)) = _
  rw [if_pos h]
theorem head_dec : ∀ f u, u < 10 ^ f → (Lib.decDigits u)[0]? = some (UInt8.ofNat (48 + leadF f u))
  | 0, u, h => by
    simp at h
    subst h
    rw [Lib.decDigits]; simp [leadF]
  | f + 1, u, h => by
    rw [Lib.decDigits]
    unfold leadF
    split
    · simp
    · have ih := head_dec f (u / 10) (by rw [Nat.pow_succ] at h; omega)
      have : 0 < (Lib.decDigits (u / 10)).length := by
        rcases Nat.eq_zero_or_pos (Lib.decDigits (u / 10)).length with h0 | h0
        · rw [List.getElem?_eq_none (by omega)] at ih; cases ih
        · exact h0
      rw [List.getElem?_append_left this]; exact ih
theorem dec_head {n : Int} (h : 1 ≤ n) (h2 : n ≤ 9223372036854775807) : sixV (.str (dec n)) 0 = .int .u8 (48 + lead n.toNat : Nat) ∧ 0 < (dec n).size := by
  have hn : Lib.itoa n = Lib.decDigits n.toNat := by unfold Lib.itoa; rw [if_neg (by omega)]
  have hd := head_dec 20 n.toNat (by omega)
  have hl := leadF_le 20 n.toNat (by omega)
  have hs : (dec n).data[0]? = some (UInt8.ofNat (48 + lead n.toNat)) := by
    show (Lib.itoa n).toArray[0]? = _
    rw [hn, List.getElem?_toArray]; exact hd
  constructor
  · show PV.int .u8 (((dec n).data[(0 : Int).toNat]?).getD 0).toNat = _
    rw [show (0 : Int).toNat = 0 from rfl, hs, Option.getD_some]
    congr 1
    have : (UInt8.ofNat (48 + lead n.toNat)).toNat = 48 + lead n.toNat := by
      rw [UInt8.toNat_ofNat']; show (48 + leadF 20 n.toNat) % 2 ^ 8 = _; unfold lead; omega
    rw [this]
  · show 0 < (dec n).data.size
    rcases Nat.eq_zero_or_pos (dec n).data.size with h0 | h0
    · rw [Array.getElem?_eq_none (by omega)] at hs; cases hs
    · exact h0
/-! BarParts -/
def wBar (n : Int) : Int := if n < 1 then 0 else if lead n.toNat = 2 then 4 else 5
theorem f12 (n : Int) (h1 : n ≤ 9223372036854775807) : Fn Tryd.prog 12 false [i n] (i (wBar n)) := by
  refine Fn.by_sx hX (by kernel_rfl) c12 (by kernel_rfl) (by rfl) ?_
  simp [i12, sx_skip, sx_ops, sx_seq, sx_cond, sx_block, sx_exit, sx_ret, sxl_nil, sxl_set, sxl_call, sxl_callv, sxl_g1, sxl_g2, sxl_g3, sxl_g4, OkS_true, GrdS_tt, GrdS_tf, GrdS_ft, GrdS_ff, CondS_t, CondS_f, then_n, then_e, then_r, blk_n, blk_e, blk_r, upd_app, Ex.ok, Ex.val, Opd.val, POp.dst, bin_int, binOK_int, bin_str, binOK_str, resOK, resV, RB.val, sub, putc, scB, scL, oneB, conf, Ex.val.eqP, Ex.val.eqL, negV, mxV, mnV, ← wr_eq, wr_zero, wr_one, wr_m1, partsOK, putAll, appV, slV, sslV, optB, optNum, and_assoc, exists_and_left, exists_eq_left']
  by_cases h : n < 1
  · repeat' (first | intro _ | (simp [sx_skip, sx_ops, sx_seq, sx_cond, sx_block, sx_exit, sx_ret, sxl_nil, sxl_set, sxl_call, sxl_callv, sxl_g1, sxl_g2, sxl_g3, sxl_g4, OkS_true, GrdS_tt, GrdS_tf, GrdS_ft, GrdS_ff, CondS_t, CondS_f, then_n, then_e, then_r, blk_n, blk_e, blk_r, upd_app, Ex.ok, Ex.val, Opd.val, POp.dst, bin_int, binOK_int, bin_str, binOK_str, resOK, resV, RB.val, sub, putc, scB, scL, oneB, conf, Ex.val.eqP, Ex.val.eqL, negV, mxV, mnV, ← wr_eq, wr_zero, wr_one, wr_m1, partsOK, putAll, appV, slV, sslV, optB, optNum, and_assoc, exists_and_left, exists_eq_left', *]) | refine CondS_d (fun h => ?_) (fun h => ?_) | refine CondS_b (fun h => ?_) (fun h => ?_) | refine GrdS_d (fun h => ?_) (fun h => ?_) | refine GrdS_b (fun h => ?_) (fun h => ?_) | refine OkS_i (by omega) ?_ | fail)
    all_goals simp_all [wBar]
  · obtain ⟨h6, hsz⟩ := dec_head (n := n) (by omega) h1
    repeat' (first | intro _ | (simp [sx_skip, sx_ops, sx_seq, sx_cond, sx_block, sx_exit, sx_ret, sxl_nil, sxl_set, sxl_call, sxl_callv, sxl_g1, sxl_g2, sxl_g3, sxl_g4, OkS_true, GrdS_tt, GrdS_tf, GrdS_ft, GrdS_ff, CondS_t, CondS_f, then_n, then_e, then_r, blk_n, blk_e, blk_r, upd_app, Ex.ok, Ex.val, Opd.val, POp.dst, bin_int, binOK_int, bin_str, binOK_str, resOK, resV, RB.val, sub, putc, scB, scL, oneB, conf, Ex.val.eqP, Ex.val.eqL, negV, mxV, mnV, ← wr_eq, wr_zero, wr_one, wr_m1, partsOK, putAll, appV, slV, sslV, optB, optNum, and_assoc, exists_and_left, exists_eq_left', *]) | refine CallS_i (f30 n (by omega) h1) ?_ | refine CondS_d (fun h => ?_) (fun h => ?_) | refine CondS_b (fun h => ?_) (fun h => ?_) | refine GrdS_d (fun h => ?_) (fun h => ?_) | refine GrdS_b (fun h => ?_) (fun h => ?_) | refine OkS_i (by omega) ?_ | fail)
    all_goals (unfold wBar; split <;> (try split) <;> omega)
theorem f11 (n : Int) (h1 : n ≤ 9223372036854775807) : Fn Tryd.prog 11 false [i n] (i (wBar n)) := by
  refine Fn.by_sx hX (by kernel_rfl) c11 (by kernel_rfl) (by rfl) ?_
  simp [i11, sx_skip, sx_ops, sx_seq, sx_cond, sx_block, sx_exit, sx_ret, sxl_nil, sxl_set, sxl_call, sxl_callv, sxl_g1, sxl_g2, sxl_g3, sxl_g4, OkS_true, GrdS_tt, GrdS_tf, GrdS_ft, GrdS_ff, CondS_t, CondS_f, then_n, then_e, then_r, blk_n, blk_e, blk_r, upd_app, Ex.ok, Ex.val, Opd.val, POp.dst, bin_int, binOK_int, bin_str, binOK_str, resOK, resV, RB.val, sub, putc, scB, scL, oneB, conf, Ex.val.eqP, Ex.val.eqL, negV, mxV, mnV, ← wr_eq, wr_zero, wr_one, wr_m1, partsOK, putAll, appV, slV, sslV, optB, optNum, and_assoc, exists_and_left, exists_eq_left']
  by_cases h : n < 1
  · repeat' (first | intro _ | (simp [sx_skip, sx_ops, sx_seq, sx_cond, sx_block, sx_exit, sx_ret, sxl_nil, sxl_set, sxl_call, sxl_callv, sxl_g1, sxl_g2, sxl_g3, sxl_g4, OkS_true, GrdS_tt, GrdS_tf, GrdS_ft, GrdS_ff, CondS_t, CondS_f, then_n, then_e, then_r, blk_n, blk_e, blk_r, upd_app, Ex.ok, Ex.val, Opd.val, POp.dst, bin_int, binOK_int, bin_str, binOK_str, resOK, resV, RB.val, sub, putc, scB, scL, oneB, conf, Ex.val.eqP, Ex.val.eqL, negV, mxV, mnV, ← wr_eq, wr_zero, wr_one, wr_m1, partsOK, putAll, appV, slV, sslV, optB, optNum, and_assoc, exists_and_left, exists_eq_left', *]) | refine CondS_d (fun h => ?_) (fun h => ?_) | refine CondS_b (fun h => ?_) (fun h => ?_) | refine GrdS_d (fun h => ?_) (fun h => ?_) | refine GrdS_b (fun h => ?_) (fun h => ?_) | refine OkS_i (by omega) ?_ | fail)
    all_goals simp_all [wBar]
  · repeat' (first | intro _ | (simp [sx_skip, sx_ops, sx_seq, sx_cond, sx_block, sx_exit, sx_ret, sxl_nil, sxl_set, sxl_call, sxl_callv, sxl_g1, sxl_g2, sxl_g3, sxl_g4, OkS_true, GrdS_tt, GrdS_tf, GrdS_ft, GrdS_ff, CondS_t, CondS_f, then_n, then_e, then_r, blk_n, blk_e, blk_r, upd_app, Ex.ok, Ex.val, Opd.val, POp.dst, bin_int, binOK_int, bin_str, binOK_str, resOK, resV, RB.val, sub, putc, scB, scL, oneB, conf, Ex.val.eqP, Ex.val.eqL, negV, mxV, mnV, ← wr_eq, wr_zero, wr_one, wr_m1, partsOK, putAll, appV, slV, sslV, optB, optNum, and_assoc, exists_and_left, exists_eq_left', *]) | refine CondS_d (fun h => ?_) (fun h => ?_) | refine CondS_b (fun h => ?_) (fun h => ?_) | refine GrdS_d (fun h => ?_) (fun h => ?_) | refine GrdS_b (fun h => ?_) (fun h => ?_) | refine OkS_i (by omega) ?_ | fail)
    obtain ⟨u, rfl⟩ : ∃ u : Nat, n = u := ⟨n.toNat, by omega⟩
    refine sx_down (fun m V => 1 ≤ m ∧ m ≤ 9223372036854775807 ∧ lead m = lead u ∧ V 0 = i m) u ⟨by omega, by omega, rfl, by simp [sx_skip, sx_ops, sx_seq, sx_cond, sx_block, sx_exit, sx_ret, sxl_nil, sxl_set, sxl_call, sxl_callv, sxl_g1, sxl_g2, sxl_g3, sxl_g4, OkS_true, GrdS_tt, GrdS_tf, GrdS_ft, GrdS_ff, CondS_t, CondS_f, then_n, then_e, then_r, blk_n, blk_e, blk_r, upd_app, Ex.ok, Ex.val, Opd.val, POp.dst, bin_int, binOK_int, bin_str, binOK_str, resOK, resV, RB.val, sub, putc, scB, scL, oneB, conf, Ex.val.eqP, Ex.val.eqL, negV, mxV, mnV, ← wr_eq, wr_zero, wr_one, wr_m1, partsOK, putAll, appV, slV, sslV, optB, optNum, and_assoc, exists_and_left, exists_eq_left']⟩ ?_
    rintro x V ⟨x1, x2, hl, h0⟩
    simp [sx_skip, sx_ops, sx_seq, sx_cond, sx_block, sx_exit, sx_ret, sxl_nil, sxl_set, sxl_call, sxl_callv, sxl_g1, sxl_g2, sxl_g3, sxl_g4, OkS_true, GrdS_tt, GrdS_tf, GrdS_ft, GrdS_ff, CondS_t, CondS_f, then_n, then_e, then_r, blk_n, blk_e, blk_r, upd_app, Ex.ok, Ex.val, Opd.val, POp.dst, bin_int, binOK_int, bin_str, binOK_str, resOK, resV, RB.val, sub, putc, scB, scL, oneB, conf, Ex.val.eqP, Ex.val.eqL, negV, mxV, mnV, ← wr_eq, wr_zero, wr_one, wr_m1, partsOK, putAll, appV, slV, sslV, optB, optNum, and_assoc, exists_and_left, exists_eq_left', h0]
    refine CondS_d (fun hx => ?_) (fun hx => ?_)
    · obtain ⟨q, hq⟩ : ∃ q, x / 10 = q := ⟨_, rfl⟩
      have hw : wr .i64 ((x : Int) / 10) = q := by
        rw [wr_in (by omega) (by omega)]; omega
      have hld := lead_div (u := x) (by omega) (by omega)
      simp [sx_skip, sx_ops, sx_seq, sx_cond, sx_block, sx_exit, sx_ret, sxl_nil, sxl_set, sxl_call, sxl_callv, sxl_g1, sxl_g2, sxl_g3, sxl_g4, OkS_true, GrdS_tt, GrdS_tf, GrdS_ft, GrdS_ff, CondS_t, CondS_f, then_n, then_e, then_r, blk_n, blk_e, blk_r, upd_app, Ex.ok, Ex.val, Opd.val, POp.dst, bin_int, binOK_int, bin_str, binOK_str, resOK, resV, RB.val, sub, putc, scB, scL, oneB, conf, Ex.val.eqP, Ex.val.eqL, negV, mxV, mnV, ← wr_eq, wr_zero, wr_one, wr_m1, partsOK, putAll, appV, slV, sslV, optB, optNum, and_assoc, exists_and_left, exists_eq_left', h0, hw]
      exact ⟨q, by omega, by omega, by omega, by rw [← hq, ← hld, hl], rfl⟩
    · have hs := lead_small (u := x) (by omega)
      repeat' (first | intro _ | (simp [sx_skip, sx_ops, sx_seq, sx_cond, sx_block, sx_exit, sx_ret, sxl_nil, sxl_set, sxl_call, sxl_callv, sxl_g1, sxl_g2, sxl_g3, sxl_g4, OkS_true, GrdS_tt, GrdS_tf, GrdS_ft, GrdS_ff, CondS_t, CondS_f, then_n, then_e, then_r, blk_n, blk_e, blk_r, upd_app, Ex.ok, Ex.val, Opd.val, POp.dst, bin_int, binOK_int, bin_str, binOK_str, resOK, resV, RB.val, sub, putc, scB, scL, oneB, conf, Ex.val.eqP, Ex.val.eqL, negV, mxV, mnV, ← wr_eq, wr_zero, wr_one, wr_m1, partsOK, putAll, appV, slV, sslV, optB, optNum, and_assoc, exists_and_left, exists_eq_left', *]) | refine CondS_d (fun h => ?_) (fun h => ?_) | refine CondS_b (fun h => ?_) (fun h => ?_) | refine GrdS_d (fun h => ?_) (fun h => ?_) | refine GrdS_b (fun h => ?_) (fun h => ?_) | refine OkS_i (by omega) ?_ | fail)
      all_goals (unfold wBar; rw [Int.toNat_natCast]; split <;> (try split) <;> omega)
/-! RoundLength, ScaleStep -/
def rs (k : Nat) : Nat := [1, 2, 5].getD (k % 3) 0 * 10 ^ (k / 3)
def ra (u : Nat) : Nat := if lead u = 2 then u / 2 * 5 else 2 * u
theorem ra_rs : ∀ k : _root_.Fin 30, ra (rs k.val) = rs (k.val + 1) := by decide +kernel
theorem rs_lt : ∀ k : _root_.Fin 30, rs k.val < rs (k.val + 1) := by decide +kernel
theorem rs_f : ∀ q : _root_.Fin 11, rs (3 * q.val) = 10 ^ q.val ∧ rs (3 * q.val + 1) = 2 * 10 ^ q.val ∧ rs (3 * q.val + 2) = 5 * 10 ^ q.val := by decide +kernel
theorem rs_pos : ∀ k : _root_.Fin 31, 1 ≤ rs k.val := by decide +kernel
theorem rs_top : rs 28 = 2000000000 := by decide +kernel
theorem rs_mono {k m : Nat} (h : k ≤ m) (hm : m ≤ 30) : rs k ≤ rs m := by
  induction m with
  | zero => rw [show k = 0 by omega]; exact Nat.le_refl _
  | succ m ih =>
    rcases Nat.lt_or_ge m k with h' | h'
    · rw [show k = m + 1 by omega]; exact Nat.le_refl _
    · exact Nat.le_trans (ih h' (by omega)) (Nat.le_of_lt (rs_lt ⟨m, by omega⟩))
/-- the greatest of the first m that is at most n -/
def rlTo (n : Int) : Nat → Int
  | 0 => 0
  | m + 1 => if (rs m : Int) ≤ n then rs m else rlTo n m
theorem rlTo_eq {n : Int} {k : Nat} (hk : (rs k : Int) ≤ n) (hk2 : n < rs (k + 1)) : ∀ m, k + 1 ≤ m → m ≤ 30 → rlTo n m = rs k := by
  intro m
  induction m with
  | zero => intro h; omega
  | succ m ih =>
    intro h h30
    unfold rlTo
    rcases Nat.lt_or_ge k m with h' | h'
    · have := rs_mono (k := k + 1) (m := m) h' (by omega)
      rw [if_neg (by omega)]
      exact ih h' (by omega)
    · rw [show m = k by omega, if_pos hk]
def rl (n : Int) : Int := if 1 ≤ n ∧ n ≤ 1000000000 then rlTo n 30 else 0
theorem rl_has {n : Int} (h : 1 ≤ n) (h2 : n ≤ 1000000000) : ∃ k, k < 28 ∧ (rs k : Int) ≤ n ∧ n < rs (k + 1) := by
  have : ∀ m, n < rs m → m ≤ 28 → ∃ k, k < m ∧ (rs k : Int) ≤ n ∧ n < rs (k + 1) := by
    intro m
    induction m with
    | zero => intro h0; have : rs 0 = 1 := rfl; omega
    | succ m ih =>
      intro h0 hm
      rcases Int.lt_or_le n (rs m) with h' | h'
      · obtain ⟨k, k1, k2⟩ := ih h' (by omega); exact ⟨k, by omega, k2⟩
      · exact ⟨m, by omega, h', h0⟩
  exact this 28 (by rw [rs_top]; omega) (Nat.le_refl _)
theorem rl_eq {n : Int} {k : Nat} (h : 1 ≤ n) (h2 : n ≤ 1000000000) (hk : k < 30) (h3 : (rs k : Int) ≤ n) (h4 : n < rs (k + 1)) : rl n = rs k := by
  unfold rl; rw [if_pos ⟨h, h2⟩]; exact rlTo_eq h3 h4 30 (by omega) (Nat.le_refl _)
theorem f32 (u : Nat) (h : 1 ≤ u) (h2 : u ≤ 1000000000000) : Fn Tryd.prog 32 false [i u] (i (ra u : Nat)) := by
  refine Fn.by_sx hX (by kernel_rfl) c32 (by kernel_rfl) (by rfl) ?_
  simp [i32, sx_skip, sx_ops, sx_seq, sx_cond, sx_block, sx_exit, sx_ret, sxl_nil, sxl_set, sxl_call, sxl_callv, sxl_g1, sxl_g2, sxl_g3, sxl_g4, OkS_true, GrdS_tt, GrdS_tf, GrdS_ft, GrdS_ff, CondS_t, CondS_f, then_n, then_e, then_r, blk_n, blk_e, blk_r, upd_app, Ex.ok, Ex.val, Opd.val, POp.dst, bin_int, binOK_int, bin_str, binOK_str, resOK, resV, RB.val, sub, putc, scB, scL, oneB, conf, Ex.val.eqP, Ex.val.eqL, negV, mxV, mnV, ← wr_eq, wr_zero, wr_one, wr_m1, partsOK, putAll, appV, slV, sslV, optB, optNum, and_assoc, exists_and_left, exists_eq_left']
  obtain ⟨h6, hsz⟩ := dec_head (n := u) (by omega) (by omega)
  rw [Int.toNat_natCast] at h6
  have hq : ((u : Int)) / 2 = ((u / 2 : Nat) : Int) := rfl
  obtain ⟨q, hqq⟩ : ∃ q, u / 2 = q := ⟨_, rfl⟩
  rw [hqq] at hq
  have hw1 : wr .i64 (q : Int) = q := wr_in (by omega) (by omega)
  have hw2 : wr .i64 ((q : Int) * 5) = q * 5 := wr_in (by omega) (by omega)
  have hw3 : wr .i64 (2 * (u : Int)) = 2 * u := wr_in (by omega) (by omega)
  repeat' (first | intro _ | (simp [sx_skip, sx_ops, sx_seq, sx_cond, sx_block, sx_exit, sx_ret, sxl_nil, sxl_set, sxl_call, sxl_callv, sxl_g1, sxl_g2, sxl_g3, sxl_g4, OkS_true, GrdS_tt, GrdS_tf, GrdS_ft, GrdS_ff, CondS_t, CondS_f, then_n, then_e, then_r, blk_n, blk_e, blk_r, upd_app, Ex.ok, Ex.val, Opd.val, POp.dst, bin_int, binOK_int, bin_str, binOK_str, resOK, resV, RB.val, sub, putc, scB, scL, oneB, conf, Ex.val.eqP, Ex.val.eqL, negV, mxV, mnV, ← wr_eq, wr_zero, wr_one, wr_m1, partsOK, putAll, appV, slV, sslV, optB, optNum, and_assoc, exists_and_left, exists_eq_left', *]) | refine CallS_i (f30 u (by omega) (by omega)) ?_ | refine CondS_d (fun h => ?_) (fun h => ?_) | refine CondS_b (fun h => ?_) (fun h => ?_) | refine GrdS_d (fun h => ?_) (fun h => ?_) | refine GrdS_b (fun h => ?_) (fun h => ?_) | refine OkS_i (by omega) ?_ | fail)
  · unfold ra; rw [if_pos (by omega), hqq]; omega
  · unfold ra; rw [if_neg (by omega)]; omega
theorem f14 (n : Int) (h1 : n ≤ 9223372036854775807) : Fn Tryd.prog 14 false [i n] (i (rl n)) := by
  refine Fn.by_sx hX (by kernel_rfl) c14 (by kernel_rfl) (by rfl) ?_
  simp [i14, sx_skip, sx_ops, sx_seq, sx_cond, sx_block, sx_exit, sx_ret, sxl_nil, sxl_set, sxl_call, sxl_callv, sxl_g1, sxl_g2, sxl_g3, sxl_g4, OkS_true, GrdS_tt, GrdS_tf, GrdS_ft, GrdS_ff, CondS_t, CondS_f, then_n, then_e, then_r, blk_n, blk_e, blk_r, upd_app, Ex.ok, Ex.val, Opd.val, POp.dst, bin_int, binOK_int, bin_str, binOK_str, resOK, resV, RB.val, sub, putc, scB, scL, oneB, conf, Ex.val.eqP, Ex.val.eqL, negV, mxV, mnV, ← wr_eq, wr_zero, wr_one, wr_m1, partsOK, putAll, appV, slV, sslV, optB, optNum, and_assoc, exists_and_left, exists_eq_left']
  refine CallS_b (f31 _ _ _) (fun h => ?_) (fun h => ?_)
  · have hr : 1 ≤ n ∧ n ≤ 1000000000 := by simpa [inR] using h
    repeat' (first | intro _ | (simp [sx_skip, sx_ops, sx_seq, sx_cond, sx_block, sx_exit, sx_ret, sxl_nil, sxl_set, sxl_call, sxl_callv, sxl_g1, sxl_g2, sxl_g3, sxl_g4, OkS_true, GrdS_tt, GrdS_tf, GrdS_ft, GrdS_ff, CondS_t, CondS_f, then_n, then_e, then_r, blk_n, blk_e, blk_r, upd_app, Ex.ok, Ex.val, Opd.val, POp.dst, bin_int, binOK_int, bin_str, binOK_str, resOK, resV, RB.val, sub, putc, scB, scL, oneB, conf, Ex.val.eqP, Ex.val.eqL, negV, mxV, mnV, ← wr_eq, wr_zero, wr_one, wr_m1, partsOK, putAll, appV, slV, sslV, optB, optNum, and_assoc, exists_and_left, exists_eq_left', *]) | refine CondS_d (fun h => ?_) (fun h => ?_) | refine CondS_b (fun h => ?_) (fun h => ?_) | refine GrdS_d (fun h => ?_) (fun h => ?_) | refine GrdS_b (fun h => ?_) (fun h => ?_) | refine OkS_i (by omega) ?_ | fail)
    refine sx_count 29 (fun k V => V 0 = i n ∧ V 3 = i (rs k : Nat) ∧ (rs k : Int) ≤ n) 0 (by omega) (by simp [sx_skip, sx_ops, sx_seq, sx_cond, sx_block, sx_exit, sx_ret, sxl_nil, sxl_set, sxl_call, sxl_callv, sxl_g1, sxl_g2, sxl_g3, sxl_g4, OkS_true, GrdS_tt, GrdS_tf, GrdS_ft, GrdS_ff, CondS_t, CondS_f, then_n, then_e, then_r, blk_n, blk_e, blk_r, upd_app, Ex.ok, Ex.val, Opd.val, POp.dst, bin_int, binOK_int, bin_str, binOK_str, resOK, resV, RB.val, sub, putc, scB, scL, oneB, conf, Ex.val.eqP, Ex.val.eqL, negV, mxV, mnV, ← wr_eq, wr_zero, wr_one, wr_m1, partsOK, putAll, appV, slV, sslV, optB, optNum, and_assoc, exists_and_left, exists_eq_left']; exact ⟨rfl, hr.1⟩) ?_
    rintro k V hk ⟨h0, h3, hle⟩
    simp [sx_skip, sx_ops, sx_seq, sx_cond, sx_block, sx_exit, sx_ret, sxl_nil, sxl_set, sxl_call, sxl_callv, sxl_g1, sxl_g2, sxl_g3, sxl_g4, OkS_true, GrdS_tt, GrdS_tf, GrdS_ft, GrdS_ff, CondS_t, CondS_f, then_n, then_e, then_r, blk_n, blk_e, blk_r, upd_app, Ex.ok, Ex.val, Opd.val, POp.dst, bin_int, binOK_int, bin_str, binOK_str, resOK, resV, RB.val, sub, putc, scB, scL, oneB, conf, Ex.val.eqP, Ex.val.eqL, negV, mxV, mnV, ← wr_eq, wr_zero, wr_one, wr_m1, partsOK, putAll, appV, slV, sslV, optB, optNum, and_assoc, exists_and_left, exists_eq_left', h0, h3]
    have hk28 : k < 28 := by
      rcases Nat.lt_or_ge k 28 with h | h
      · exact h
      · have := rs_mono h (by omega); rw [rs_top] at this; omega
    have c32 := f32 (rs k) (rs_pos ⟨k, by omega⟩) (by omega)
    rw [ra_rs ⟨k, by omega⟩] at c32
    repeat' (first | intro _ | (simp [sx_skip, sx_ops, sx_seq, sx_cond, sx_block, sx_exit, sx_ret, sxl_nil, sxl_set, sxl_call, sxl_callv, sxl_g1, sxl_g2, sxl_g3, sxl_g4, OkS_true, GrdS_tt, GrdS_tf, GrdS_ft, GrdS_ff, CondS_t, CondS_f, then_n, then_e, then_r, blk_n, blk_e, blk_r, upd_app, Ex.ok, Ex.val, Opd.val, POp.dst, bin_int, binOK_int, bin_str, binOK_str, resOK, resV, RB.val, sub, putc, scB, scL, oneB, conf, Ex.val.eqP, Ex.val.eqL, negV, mxV, mnV, ← wr_eq, wr_zero, wr_one, wr_m1, partsOK, putAll, appV, slV, sslV, optB, optNum, and_assoc, exists_and_left, exists_eq_left', *]) | refine CallS_i (c32) ?_ | refine CondS_d (fun h => ?_) (fun h => ?_) | refine CondS_b (fun h => ?_) (fun h => ?_) | refine GrdS_d (fun h => ?_) (fun h => ?_) | refine GrdS_b (fun h => ?_) (fun h => ?_) | refine OkS_i (by omega) ?_ | fail)
    · omega
    · rw [rl_eq hr.1 hr.2 (by omega) hle (by omega)]
  · have hr : rl n = 0 := by unfold rl; rw [if_neg (by simpa [inR] using h)]
    repeat' (first | intro _ | (simp [sx_skip, sx_ops, sx_seq, sx_cond, sx_block, sx_exit, sx_ret, sxl_nil, sxl_set, sxl_call, sxl_callv, sxl_g1, sxl_g2, sxl_g3, sxl_g4, OkS_true, GrdS_tt, GrdS_tf, GrdS_ft, GrdS_ff, CondS_t, CondS_f, then_n, then_e, then_r, blk_n, blk_e, blk_r, upd_app, Ex.ok, Ex.val, Opd.val, POp.dst, bin_int, binOK_int, bin_str, binOK_str, resOK, resV, RB.val, sub, putc, scB, scL, oneB, conf, Ex.val.eqP, Ex.val.eqL, negV, mxV, mnV, ← wr_eq, wr_zero, wr_one, wr_m1, partsOK, putAll, appV, slV, sslV, optB, optNum, and_assoc, exists_and_left, exists_eq_left', *]) | refine CondS_d (fun h => ?_) (fun h => ?_) | refine CondS_b (fun h => ?_) (fun h => ?_) | refine GrdS_d (fun h => ?_) (fun h => ?_) | refine GrdS_b (fun h => ?_) (fun h => ?_) | refine OkS_i (by omega) ?_ | fail)
end Go.Eng
namespace Go.Eng
open Go Go.Proofs
set_option linter.unusedSimpArgs false
set_option linter.unusedVariables false
set_option maxRecDepth 20000

theorem rlTo_succ (n : Int) (m : Nat) : rlTo n (m + 1) = if (rs m : Int) ≤ n then (rs m : Int) else rlTo n m := rfl
theorem l13_2 {n : Int} {q P : Nat} {V : Env} (hn : n ≤ 1000000000) (hq : q ≤ 9) (hP : 10 ^ q = P) (hPn : (P : Int) ≤ n) (h0 : V 0 = i n) (h3 : V 3 = i (rlTo n (3 * q))) (h4 : V 4 = i P) (h14 : V 14 = .lst 1 false [[i 1], [i 2], [i 5]]) (h15 : V 15 = i 3) (h16 : V 16 = i 0) :
    sx (Fn Tryd.prog) (.loop (.seq (.ops [s 17 (.bin .lss (t 16) (t 15))])
 (.seq (.cond (t 17) .skip (.exit 2))
 (.seq (.block 3 (.seq (.ops [s 18 (.idx (t 14) (t 16) 1),
  s 19 (.ldE 14 18 0 1 false true 1),
  s 6 (.mv (t 19))])
 (.seq (.ops [s 20 (.mv (t 6)),
  s 21 (.mv (t 4)),
  s 22 (.bin .mul (t 20) (t 21)),
  s 23 (.mv (t 0)),
  s 24 (.bin .leq (t 22) (t 23))])
 (.cond (t 24) (.ops [s 25 (.mv (t 6)),
  s 26 (.mv (t 4)),
  s 27 (.bin .mul (t 25) (t 26)),
  s 3 (.mv (t 27))]) .skip))))
 (.ops [s 28 (.bin .add (t 16) (c (i 1))),
  s 16 (.mv (t 28))]))))) (fun x V' => x = .exit 2 ∧ V' 0 = V 0 ∧ V' 4 = V 4 ∧ V' 3 = i (rlTo n (3 * q + 3))) V := by
  refine sx_count 3 (fun j V' => V' 0 = V 0 ∧ V' 4 = V 4 ∧ V' 14 = V 14 ∧ V' 15 = V 15 ∧ V' 16 = i j ∧ V' 3 = i (rlTo n (3 * q + j))) 0 (by omega) ⟨rfl, rfl, rfl, rfl, h16, h3⟩ ?_
  rintro j V' hj ⟨g0, g4, g14, g15, g16, g3⟩
  obtain ⟨r0, r1, r2⟩ := rs_f ⟨q, by omega⟩
  simp only [hP] at r0 r1 r2
  rcases Nat.lt_or_ge j 3 with hlt | hge
  · obtain rfl | rfl | rfl : j = 0 ∨ j = 1 ∨ j = 2 := by omega
    · have hw : wr .i64 (1 * (P : Int)) = P := by rw [wr_in (by omega) (by omega)]; omega
      have hs := rlTo_succ n (3 * q)
      rw [r0] at hs
      simp only [Int.one_mul] at hw
      repeat' (first | intro _ | (simp [sx_skip, sx_ops, sx_seq, sx_cond, sx_block, sx_exit, sx_ret, sxl_nil, sxl_set, sxl_call, sxl_callv, sxl_g1, sxl_g2, sxl_g3, sxl_g4, OkS_true, GrdS_tt, GrdS_tf, GrdS_ft, GrdS_ff, CondS_t, CondS_f, then_n, then_e, then_r, blk_n, blk_e, blk_r, upd_app, Ex.ok, Ex.val, Opd.val, POp.dst, bin_int, binOK_int, bin_str, binOK_str, resOK, resV, RB.val, sub, putc, scB, scL, oneB, conf, Ex.val.eqP, Ex.val.eqL, negV, mxV, mnV, ← wr_eq, wr_zero, wr_one, wr_m1, partsOK, putAll, appV, slV, sslV, optB, optNum, and_assoc, exists_and_left, exists_eq_left', *]) | refine CondS_d (fun h => ?_) (fun h => ?_) | refine CondS_b (fun h => ?_) (fun h => ?_) | refine GrdS_d (fun h => ?_) (fun h => ?_) | refine GrdS_b (fun h => ?_) (fun h => ?_) | refine OkS_i (by omega) ?_ | fail)
    · have hw : wr .i64 (2 * (P : Int)) = 2 * P := wr_in (by omega) (by omega)
      have hs := rlTo_succ n (3 * q + 1)
      rw [r1] at hs
      repeat' (first | intro _ | (simp [sx_skip, sx_ops, sx_seq, sx_cond, sx_block, sx_exit, sx_ret, sxl_nil, sxl_set, sxl_call, sxl_callv, sxl_g1, sxl_g2, sxl_g3, sxl_g4, OkS_true, GrdS_tt, GrdS_tf, GrdS_ft, GrdS_ff, CondS_t, CondS_f, then_n, then_e, then_r, blk_n, blk_e, blk_r, upd_app, Ex.ok, Ex.val, Opd.val, POp.dst, bin_int, binOK_int, bin_str, binOK_str, resOK, resV, RB.val, sub, putc, scB, scL, oneB, conf, Ex.val.eqP, Ex.val.eqL, negV, mxV, mnV, ← wr_eq, wr_zero, wr_one, wr_m1, partsOK, putAll, appV, slV, sslV, optB, optNum, and_assoc, exists_and_left, exists_eq_left', *]) | refine CondS_d (fun h => ?_) (fun h => ?_) | refine CondS_b (fun h => ?_) (fun h => ?_) | refine GrdS_d (fun h => ?_) (fun h => ?_) | refine GrdS_b (fun h => ?_) (fun h => ?_) | refine OkS_i (by omega) ?_ | fail)
      all_goals exact wr_in (by omega) (by omega)
    · have hw : wr .i64 (5 * (P : Int)) = 5 * P := wr_in (by omega) (by omega)
      have hs := rlTo_succ n (3 * q + 2)
      rw [r2] at hs
      repeat' (first | intro _ | (simp [sx_skip, sx_ops, sx_seq, sx_cond, sx_block, sx_exit, sx_ret, sxl_nil, sxl_set, sxl_call, sxl_callv, sxl_g1, sxl_g2, sxl_g3, sxl_g4, OkS_true, GrdS_tt, GrdS_tf, GrdS_ft, GrdS_ff, CondS_t, CondS_f, then_n, then_e, then_r, blk_n, blk_e, blk_r, upd_app, Ex.ok, Ex.val, Opd.val, POp.dst, bin_int, binOK_int, bin_str, binOK_str, resOK, resV, RB.val, sub, putc, scB, scL, oneB, conf, Ex.val.eqP, Ex.val.eqL, negV, mxV, mnV, ← wr_eq, wr_zero, wr_one, wr_m1, partsOK, putAll, appV, slV, sslV, optB, optNum, and_assoc, exists_and_left, exists_eq_left', *]) | refine CondS_d (fun h => ?_) (fun h => ?_) | refine CondS_b (fun h => ?_) (fun h => ?_) | refine GrdS_d (fun h => ?_) (fun h => ?_) | refine GrdS_b (fun h => ?_) (fun h => ?_) | refine OkS_i (by omega) ?_ | fail)
      all_goals exact wr_in (by omega) (by omega)
  · obtain rfl : j = 3 := by omega
    repeat' (first | intro _ | (simp [sx_skip, sx_ops, sx_seq, sx_cond, sx_block, sx_exit, sx_ret, sxl_nil, sxl_set, sxl_call, sxl_callv, sxl_g1, sxl_g2, sxl_g3, sxl_g4, OkS_true, GrdS_tt, GrdS_tf, GrdS_ft, GrdS_ff, CondS_t, CondS_f, then_n, then_e, then_r, blk_n, blk_e, blk_r, upd_app, Ex.ok, Ex.val, Opd.val, POp.dst, bin_int, binOK_int, bin_str, binOK_str, resOK, resV, RB.val, sub, putc, scB, scL, oneB, conf, Ex.val.eqP, Ex.val.eqL, negV, mxV, mnV, ← wr_eq, wr_zero, wr_one, wr_m1, partsOK, putAll, appV, slV, sslV, optB, optNum, and_assoc, exists_and_left, exists_eq_left', *]) | refine CondS_d (fun h => ?_) (fun h => ?_) | refine CondS_b (fun h => ?_) (fun h => ?_) | refine GrdS_d (fun h => ?_) (fun h => ?_) | refine GrdS_b (fun h => ?_) (fun h => ?_) | refine OkS_i (by omega) ?_ | fail)
theorem f13 (n : Int) (h1 : -9223372036854775808 ≤ n) : Fn Tryd.prog 13 false [i n] (i (rl n)) := by
  refine Fn.by_sx hX (by kernel_rfl) c13 (by kernel_rfl) (by rfl) ?_
  simp [i13, sx_skip, sx_ops, sx_seq, sx_cond, sx_block, sx_exit, sx_ret, sxl_nil, sxl_set, sxl_call, sxl_callv, sxl_g1, sxl_g2, sxl_g3, sxl_g4, OkS_true, GrdS_tt, GrdS_tf, GrdS_ft, GrdS_ff, CondS_t, CondS_f, then_n, then_e, then_r, blk_n, blk_e, blk_r, upd_app, Ex.ok, Ex.val, Opd.val, POp.dst, bin_int, binOK_int, bin_str, binOK_str, resOK, resV, RB.val, sub, putc, scB, scL, oneB, conf, Ex.val.eqP, Ex.val.eqL, negV, mxV, mnV, ← wr_eq, wr_zero, wr_one, wr_m1, partsOK, putAll, appV, slV, sslV, optB, optNum, and_assoc, exists_and_left, exists_eq_left']
  by_cases hbig : 1000000000 < n
  · have : rl n = 0 := by unfold rl; rw [if_neg (by omega)]
    repeat' (first | intro _ | (simp [sx_skip, sx_ops, sx_seq, sx_cond, sx_block, sx_exit, sx_ret, sxl_nil, sxl_set, sxl_call, sxl_callv, sxl_g1, sxl_g2, sxl_g3, sxl_g4, OkS_true, GrdS_tt, GrdS_tf, GrdS_ft, GrdS_ff, CondS_t, CondS_f, then_n, then_e, then_r, blk_n, blk_e, blk_r, upd_app, Ex.ok, Ex.val, Opd.val, POp.dst, bin_int, binOK_int, bin_str, binOK_str, resOK, resV, RB.val, sub, putc, scB, scL, oneB, conf, Ex.val.eqP, Ex.val.eqL, negV, mxV, mnV, ← wr_eq, wr_zero, wr_one, wr_m1, partsOK, putAll, appV, slV, sslV, optB, optNum, and_assoc, exists_and_left, exists_eq_left', *]) | refine CondS_d (fun h => ?_) (fun h => ?_) | refine CondS_b (fun h => ?_) (fun h => ?_) | refine GrdS_d (fun h => ?_) (fun h => ?_) | refine GrdS_b (fun h => ?_) (fun h => ?_) | refine OkS_i (by omega) ?_ | fail)
  have hn : n ≤ 1000000000 := by omega
  repeat' (first | intro _ | (simp [sx_skip, sx_ops, sx_seq, sx_cond, sx_block, sx_exit, sx_ret, sxl_nil, sxl_set, sxl_call, sxl_callv, sxl_g1, sxl_g2, sxl_g3, sxl_g4, OkS_true, GrdS_tt, GrdS_tf, GrdS_ft, GrdS_ff, CondS_t, CondS_f, then_n, then_e, then_r, blk_n, blk_e, blk_r, upd_app, Ex.ok, Ex.val, Opd.val, POp.dst, bin_int, binOK_int, bin_str, binOK_str, resOK, resV, RB.val, sub, putc, scB, scL, oneB, conf, Ex.val.eqP, Ex.val.eqL, negV, mxV, mnV, ← wr_eq, wr_zero, wr_one, wr_m1, partsOK, putAll, appV, slV, sslV, optB, optNum, and_assoc, exists_and_left, exists_eq_left', *]) | refine CondS_d (fun h => ?_) (fun h => ?_) | refine CondS_b (fun h => ?_) (fun h => ?_) | refine GrdS_d (fun h => ?_) (fun h => ?_) | refine GrdS_b (fun h => ?_) (fun h => ?_) | refine OkS_i (by omega) ?_ | fail)
  refine sx_count 10 (fun q V => V 0 = i n ∧ V 3 = i (rlTo n (3 * q)) ∧ V 4 = i (10 ^ q : Nat) ∧ ∀ k, k < q → ((10 ^ k : Nat) : Int) ≤ n) 0 (by omega) (by simp [sx_skip, sx_ops, sx_seq, sx_cond, sx_block, sx_exit, sx_ret, sxl_nil, sxl_set, sxl_call, sxl_callv, sxl_g1, sxl_g2, sxl_g3, sxl_g4, OkS_true, GrdS_tt, GrdS_tf, GrdS_ft, GrdS_ff, CondS_t, CondS_f, then_n, then_e, then_r, blk_n, blk_e, blk_r, upd_app, Ex.ok, Ex.val, Opd.val, POp.dst, bin_int, binOK_int, bin_str, binOK_str, resOK, resV, RB.val, sub, putc, scB, scL, oneB, conf, Ex.val.eqP, Ex.val.eqL, negV, mxV, mnV, ← wr_eq, wr_zero, wr_one, wr_m1, partsOK, putAll, appV, slV, sslV, optB, optNum, and_assoc, exists_and_left, exists_eq_left']; rfl) ?_
  rintro q V hq ⟨h0, h3, h4, hall⟩
  obtain ⟨P, hP⟩ : ∃ P, 10 ^ q = P := ⟨_, rfl⟩
  rw [hP] at h4
  simp [sx_skip, sx_ops, sx_seq, sx_cond, sx_block, sx_exit, sx_ret, sxl_nil, sxl_set, sxl_call, sxl_callv, sxl_g1, sxl_g2, sxl_g3, sxl_g4, OkS_true, GrdS_tt, GrdS_tf, GrdS_ft, GrdS_ff, CondS_t, CondS_f, then_n, then_e, then_r, blk_n, blk_e, blk_r, upd_app, Ex.ok, Ex.val, Opd.val, POp.dst, bin_int, binOK_int, bin_str, binOK_str, resOK, resV, RB.val, sub, putc, scB, scL, oneB, conf, Ex.val.eqP, Ex.val.eqL, negV, mxV, mnV, ← wr_eq, wr_zero, wr_one, wr_m1, partsOK, putAll, appV, slV, sslV, optB, optNum, and_assoc, exists_and_left, exists_eq_left', h0, h4]
  refine CondS_d (fun hle => ?_) (fun hgt => ?_)
  · have hq9 : q ≤ 9 := by
      rcases Nat.lt_or_ge q 10 with h | h
      · omega
      · have : q = 10 := by omega
        subst this
        have : P = 10000000000 := by rw [← hP]
        omega
    have hPp : 10 ^ (q + 1) = 10 * P := by rw [Nat.pow_succ, hP]; omega
    have hPm : P ≤ 1000000000 := by omega
    have hw : wr .i64 ((P : Int) * 10) = (10 * P : Nat) := by rw [wr_in (by omega) (by omega)]; omega
    simp [sx_skip, sx_ops, sx_seq, sx_cond, sx_block, sx_exit, sx_ret, sxl_nil, sxl_set, sxl_call, sxl_callv, sxl_g1, sxl_g2, sxl_g3, sxl_g4, OkS_true, GrdS_tt, GrdS_tf, GrdS_ft, GrdS_ff, CondS_t, CondS_f, then_n, then_e, then_r, blk_n, blk_e, blk_r, upd_app, Ex.ok, Ex.val, Opd.val, POp.dst, bin_int, binOK_int, bin_str, binOK_str, resOK, resV, RB.val, sub, putc, scB, scL, oneB, conf, Ex.val.eqP, Ex.val.eqL, negV, mxV, mnV, ← wr_eq, wr_zero, wr_one, wr_m1, partsOK, putAll, appV, slV, sslV, optB, optNum, and_assoc, exists_and_left, exists_eq_left']
    refine sx_mono _ _ _ _ ?_ (l13_2 hn hq9 hP hle (by simp [sx_skip, sx_ops, sx_seq, sx_cond, sx_block, sx_exit, sx_ret, sxl_nil, sxl_set, sxl_call, sxl_callv, sxl_g1, sxl_g2, sxl_g3, sxl_g4, OkS_true, GrdS_tt, GrdS_tf, GrdS_ft, GrdS_ff, CondS_t, CondS_f, then_n, then_e, then_r, blk_n, blk_e, blk_r, upd_app, Ex.ok, Ex.val, Opd.val, POp.dst, bin_int, binOK_int, bin_str, binOK_str, resOK, resV, RB.val, sub, putc, scB, scL, oneB, conf, Ex.val.eqP, Ex.val.eqL, negV, mxV, mnV, ← wr_eq, wr_zero, wr_one, wr_m1, partsOK, putAll, appV, slV, sslV, optB, optNum, and_assoc, exists_and_left, exists_eq_left', h0]) (by simp [sx_skip, sx_ops, sx_seq, sx_cond, sx_block, sx_exit, sx_ret, sxl_nil, sxl_set, sxl_call, sxl_callv, sxl_g1, sxl_g2, sxl_g3, sxl_g4, OkS_true, GrdS_tt, GrdS_tf, GrdS_ft, GrdS_ff, CondS_t, CondS_f, then_n, then_e, then_r, blk_n, blk_e, blk_r, upd_app, Ex.ok, Ex.val, Opd.val, POp.dst, bin_int, binOK_int, bin_str, binOK_str, resOK, resV, RB.val, sub, putc, scB, scL, oneB, conf, Ex.val.eqP, Ex.val.eqL, negV, mxV, mnV, ← wr_eq, wr_zero, wr_one, wr_m1, partsOK, putAll, appV, slV, sslV, optB, optNum, and_assoc, exists_and_left, exists_eq_left', h3]) (by simp [sx_skip, sx_ops, sx_seq, sx_cond, sx_block, sx_exit, sx_ret, sxl_nil, sxl_set, sxl_call, sxl_callv, sxl_g1, sxl_g2, sxl_g3, sxl_g4, OkS_true, GrdS_tt, GrdS_tf, GrdS_ft, GrdS_ff, CondS_t, CondS_f, then_n, then_e, then_r, blk_n, blk_e, blk_r, upd_app, Ex.ok, Ex.val, Opd.val, POp.dst, bin_int, binOK_int, bin_str, binOK_str, resOK, resV, RB.val, sub, putc, scB, scL, oneB, conf, Ex.val.eqP, Ex.val.eqL, negV, mxV, mnV, ← wr_eq, wr_zero, wr_one, wr_m1, partsOK, putAll, appV, slV, sslV, optB, optNum, and_assoc, exists_and_left, exists_eq_left', h4]) (by simp [sx_skip, sx_ops, sx_seq, sx_cond, sx_block, sx_exit, sx_ret, sxl_nil, sxl_set, sxl_call, sxl_callv, sxl_g1, sxl_g2, sxl_g3, sxl_g4, OkS_true, GrdS_tt, GrdS_tf, GrdS_ft, GrdS_ff, CondS_t, CondS_f, then_n, then_e, then_r, blk_n, blk_e, blk_r, upd_app, Ex.ok, Ex.val, Opd.val, POp.dst, bin_int, binOK_int, bin_str, binOK_str, resOK, resV, RB.val, sub, putc, scB, scL, oneB, conf, Ex.val.eqP, Ex.val.eqL, negV, mxV, mnV, ← wr_eq, wr_zero, wr_one, wr_m1, partsOK, putAll, appV, slV, sslV, optB, optNum, and_assoc, exists_and_left, exists_eq_left']) (by simp [sx_skip, sx_ops, sx_seq, sx_cond, sx_block, sx_exit, sx_ret, sxl_nil, sxl_set, sxl_call, sxl_callv, sxl_g1, sxl_g2, sxl_g3, sxl_g4, OkS_true, GrdS_tt, GrdS_tf, GrdS_ft, GrdS_ff, CondS_t, CondS_f, then_n, then_e, then_r, blk_n, blk_e, blk_r, upd_app, Ex.ok, Ex.val, Opd.val, POp.dst, bin_int, binOK_int, bin_str, binOK_str, resOK, resV, RB.val, sub, putc, scB, scL, oneB, conf, Ex.val.eqP, Ex.val.eqL, negV, mxV, mnV, ← wr_eq, wr_zero, wr_one, wr_m1, partsOK, putAll, appV, slV, sslV, optB, optNum, and_assoc, exists_and_left, exists_eq_left']) (by simp [sx_skip, sx_ops, sx_seq, sx_cond, sx_block, sx_exit, sx_ret, sxl_nil, sxl_set, sxl_call, sxl_callv, sxl_g1, sxl_g2, sxl_g3, sxl_g4, OkS_true, GrdS_tt, GrdS_tf, GrdS_ft, GrdS_ff, CondS_t, CondS_f, then_n, then_e, then_r, blk_n, blk_e, blk_r, upd_app, Ex.ok, Ex.val, Opd.val, POp.dst, bin_int, binOK_int, bin_str, binOK_str, resOK, resV, RB.val, sub, putc, scB, scL, oneB, conf, Ex.val.eqP, Ex.val.eqL, negV, mxV, mnV, ← wr_eq, wr_zero, wr_one, wr_m1, partsOK, putAll, appV, slV, sslV, optB, optNum, and_assoc, exists_and_left, exists_eq_left']))
    rintro x V' ⟨rfl, g0, g4, g3⟩
    simp [sx_skip, sx_ops, sx_seq, sx_cond, sx_block, sx_exit, sx_ret, sxl_nil, sxl_set, sxl_call, sxl_callv, sxl_g1, sxl_g2, sxl_g3, sxl_g4, OkS_true, GrdS_tt, GrdS_tf, GrdS_ft, GrdS_ff, CondS_t, CondS_f, then_n, then_e, then_r, blk_n, blk_e, blk_r, upd_app, Ex.ok, Ex.val, Opd.val, POp.dst, bin_int, binOK_int, bin_str, binOK_str, resOK, resV, RB.val, sub, putc, scB, scL, oneB, conf, Ex.val.eqP, Ex.val.eqL, negV, mxV, mnV, ← wr_eq, wr_zero, wr_one, wr_m1, partsOK, putAll, appV, slV, sslV, optB, optNum, and_assoc, exists_and_left, exists_eq_left'] at g0 g4
    simp [sx_skip, sx_ops, sx_seq, sx_cond, sx_block, sx_exit, sx_ret, sxl_nil, sxl_set, sxl_call, sxl_callv, sxl_g1, sxl_g2, sxl_g3, sxl_g4, OkS_true, GrdS_tt, GrdS_tf, GrdS_ft, GrdS_ff, CondS_t, CondS_f, then_n, then_e, then_r, blk_n, blk_e, blk_r, upd_app, Ex.ok, Ex.val, Opd.val, POp.dst, bin_int, binOK_int, bin_str, binOK_str, resOK, resV, RB.val, sub, putc, scB, scL, oneB, conf, Ex.val.eqP, Ex.val.eqL, negV, mxV, mnV, ← wr_eq, wr_zero, wr_one, wr_m1, partsOK, putAll, appV, slV, sslV, optB, optNum, and_assoc, exists_and_left, exists_eq_left', g0, g4, g3, h0, h4, hw, hPp]
    refine ⟨by omega, by rw [show 3 * (q + 1) = 3 * q + 3 by omega], by have := congrArg (Nat.cast : Nat → Int) hPp; simpa using this.symm, fun k hk => ?_⟩
    rcases Nat.lt_or_ge k q with h | h
    · simpa using hall k h
    · have : k = q := by omega
      subst this
      have e : ((10 : Int)) ^ k = P := by have := congrArg (Nat.cast : Nat → Int) hP; simpa using this
      rw [e]; exact hle
  · have hr : rl n = rlTo n (3 * q) := by
      unfold rl
      by_cases hp : 1 ≤ n
      · rw [if_pos ⟨hp, hn⟩]
        obtain ⟨k, k1, k2, k3⟩ := rl_has hp hn
        have hk : k + 1 ≤ 3 * q := by
          rcases Nat.lt_or_ge k (3 * q) with h | h
          · exact h
          · have := rs_mono (k := 3 * q) (m := k) h (by omega)
            have hr0 := (rs_f ⟨q, by omega⟩).1
            simp only [hP] at hr0
            omega
        rw [rlTo_eq k2 k3 30 (by omega) (by omega), rlTo_eq k2 k3 (3 * q) hk (by omega)]
      · rw [if_neg (by omega)]
        have : ∀ m, m ≤ 30 → rlTo n m = 0 := by
          intro m
          induction m with
          | zero => intro _; rfl
          | succ m ih =>
            intro hm
            have := rs_pos ⟨m, by omega⟩
            simp only at this
            rw [rlTo_succ, if_neg (by omega)]; exact ih (by omega)
        exact (this _ (by omega)).symm
    repeat' (first | intro _ | (simp [sx_skip, sx_ops, sx_seq, sx_cond, sx_block, sx_exit, sx_ret, sxl_nil, sxl_set, sxl_call, sxl_callv, sxl_g1, sxl_g2, sxl_g3, sxl_g4, OkS_true, GrdS_tt, GrdS_tf, GrdS_ft, GrdS_ff, CondS_t, CondS_f, then_n, then_e, then_r, blk_n, blk_e, blk_r, upd_app, Ex.ok, Ex.val, Opd.val, POp.dst, bin_int, binOK_int, bin_str, binOK_str, resOK, resV, RB.val, sub, putc, scB, scL, oneB, conf, Ex.val.eqP, Ex.val.eqL, negV, mxV, mnV, ← wr_eq, wr_zero, wr_one, wr_m1, partsOK, putAll, appV, slV, sslV, optB, optNum, and_assoc, exists_and_left, exists_eq_left', *]) | refine CondS_d (fun h => ?_) (fun h => ?_) | refine CondS_b (fun h => ?_) (fun h => ?_) | refine GrdS_d (fun h => ?_) (fun h => ?_) | refine GrdS_b (fun h => ?_) (fun h => ?_) | refine OkS_i (by omega) ?_ | fail)
/-! ScaleStep -/
def ss (n : Int) : Int := if 1 ≤ n ∧ n ≤ 499999999 then (ra (rl n).toNat : Nat) else 0
theorem ss_eq {n : Int} {k : Nat} (h : 1 ≤ n) (h2 : n ≤ 499999999) (hk : k < 30) (h3 : (rs k : Int) ≤ n) (h4 : n < rs (k + 1)) : ss n = rs (k + 1) := by
  unfold ss
  rw [if_pos ⟨h, h2⟩, rl_eq h (by omega) hk h3 h4, Int.toNat_natCast, ra_rs ⟨k, hk⟩]
theorem f18 (n : Int) (h1 : n ≤ 9223372036854775807) : Fn Tryd.prog 18 false [i n] (i (ss n)) := by
  refine Fn.by_sx hX (by kernel_rfl) c18 (by kernel_rfl) (by rfl) ?_
  simp [i18, sx_skip, sx_ops, sx_seq, sx_cond, sx_block, sx_exit, sx_ret, sxl_nil, sxl_set, sxl_call, sxl_callv, sxl_g1, sxl_g2, sxl_g3, sxl_g4, OkS_true, GrdS_tt, GrdS_tf, GrdS_ft, GrdS_ff, CondS_t, CondS_f, then_n, then_e, then_r, blk_n, blk_e, blk_r, upd_app, Ex.ok, Ex.val, Opd.val, POp.dst, bin_int, binOK_int, bin_str, binOK_str, resOK, resV, RB.val, sub, putc, scB, scL, oneB, conf, Ex.val.eqP, Ex.val.eqL, negV, mxV, mnV, ← wr_eq, wr_zero, wr_one, wr_m1, partsOK, putAll, appV, slV, sslV, optB, optNum, and_assoc, exists_and_left, exists_eq_left']
  by_cases hr : 1 ≤ n ∧ n ≤ 499999999
  · obtain ⟨k, k1, k2, k3⟩ := rl_has hr.1 (by omega)
    have hs : ss n = (ra (rs k) : Nat) := by rw [ss_eq hr.1 hr.2 (by omega) k2 k3, ra_rs ⟨k, by omega⟩]
    have hl := rl_eq hr.1 (by omega) (by omega) k2 k3
    have c32 := f32 (rs k) (rs_pos ⟨k, by omega⟩) (by omega)
    have n1 : ¬ n < 1 := by omega
    have n2 : ¬ 500000000 ≤ n := by omega
    have c14 := f14 n h1
    rw [hl] at c14
    repeat' (first | intro _ | (simp [sx_skip, sx_ops, sx_seq, sx_cond, sx_block, sx_exit, sx_ret, sxl_nil, sxl_set, sxl_call, sxl_callv, sxl_g1, sxl_g2, sxl_g3, sxl_g4, OkS_true, GrdS_tt, GrdS_tf, GrdS_ft, GrdS_ff, CondS_t, CondS_f, then_n, then_e, then_r, blk_n, blk_e, blk_r, upd_app, Ex.ok, Ex.val, Opd.val, POp.dst, bin_int, binOK_int, bin_str, binOK_str, resOK, resV, RB.val, sub, putc, scB, scL, oneB, conf, Ex.val.eqP, Ex.val.eqL, negV, mxV, mnV, ← wr_eq, wr_zero, wr_one, wr_m1, partsOK, putAll, appV, slV, sslV, optB, optNum, and_assoc, exists_and_left, exists_eq_left', *]) | refine CallS_i (c14) ?_ | refine CallS_i (c32) ?_ | refine CondS_d (fun h => ?_) (fun h => ?_) | refine CondS_b (fun h => ?_) (fun h => ?_) | refine GrdS_d (fun h => ?_) (fun h => ?_) | refine GrdS_b (fun h => ?_) (fun h => ?_) | refine OkS_i (by omega) ?_ | fail)
  · have hs : ss n = 0 := by unfold ss; rw [if_neg hr]
    repeat' (first | intro _ | (simp [sx_skip, sx_ops, sx_seq, sx_cond, sx_block, sx_exit, sx_ret, sxl_nil, sxl_set, sxl_call, sxl_callv, sxl_g1, sxl_g2, sxl_g3, sxl_g4, OkS_true, GrdS_tt, GrdS_tf, GrdS_ft, GrdS_ff, CondS_t, CondS_f, then_n, then_e, then_r, blk_n, blk_e, blk_r, upd_app, Ex.ok, Ex.val, Opd.val, POp.dst, bin_int, binOK_int, bin_str, binOK_str, resOK, resV, RB.val, sub, putc, scB, scL, oneB, conf, Ex.val.eqP, Ex.val.eqL, negV, mxV, mnV, ← wr_eq, wr_zero, wr_one, wr_m1, partsOK, putAll, appV, slV, sslV, optB, optNum, and_assoc, exists_and_left, exists_eq_left', *]) | refine CondS_d (fun h => ?_) (fun h => ?_) | refine CondS_b (fun h => ?_) (fun h => ?_) | refine GrdS_d (fun h => ?_) (fun h => ?_) | refine GrdS_b (fun h => ?_) (fun h => ?_) | refine OkS_i (by omega) ?_ | fail)
    all_goals omega
theorem l17_2 {n : Int} {q P : Nat} {V : Env} (hn : n ≤ 499999999) (hn1 : 1 ≤ n) (hq : q ≤ 9) (hP : 10 ^ q = P) (hlt : ∀ m, m < 3 * q → (rs m : Int) ≤ n) (h0 : V 0 = i n) (h3 : V 3 = i P) (h11 : V 11 = .lst 1 false [[i 1], [i 2], [i 5]]) (h12 : V 12 = i 3) (h13 : V 13 = i 0) :
    sx (Fn Tryd.prog) (.loop (.seq (.ops [s 14 (.bin .lss (t 13) (t 12))])
 (.seq (.cond (t 14) .skip (.exit 2))
 (.seq (.block 3 (.seq (.ops [s 15 (.idx (t 11) (t 13) 1),
  s 16 (.ldE 11 15 0 1 false true 1),
  s 5 (.mv (t 16))])
 (.seq (.ops [s 17 (.mv (t 5)),
  s 18 (.mv (t 3)),
  s 19 (.bin .mul (t 17) (t 18)),
  s 20 (.mv (t 0)),
  s 21 (.bin .gtr (t 19) (t 20))])
 (.cond (t 21) (.seq (.ops [s 22 (.mv (t 5)),
  s 23 (.mv (t 3)),
  s 24 (.bin .mul (t 22) (t 23)),
  s 2 (.mv (t 24))])
 .ret) .skip))))
 (.ops [s 25 (.bin .add (t 13) (c (i 1))),
  s 13 (.mv (t 25))]))))) (fun x V' => (x = .exit 2 ∧ V' 0 = V 0 ∧ V' 3 = V 3 ∧ ∀ m, m < 3 * q + 3 → (rs m : Int) ≤ n) ∨ (x = .ret ∧ V' 2 = i (ss n))) V := by
  refine sx_count 3 (fun j V' => V' 0 = V 0 ∧ V' 3 = V 3 ∧ V' 11 = V 11 ∧ V' 12 = V 12 ∧ V' 13 = i j ∧ ∀ m, m < 3 * q + j → (rs m : Int) ≤ n) 0 (by omega) ⟨rfl, rfl, rfl, rfl, h13, hlt⟩ ?_
  rintro j V' hj ⟨g0, g3, g11, g12, g13, ga⟩
  obtain ⟨r0, r1, r2⟩ := rs_f ⟨q, by omega⟩
  simp only [hP] at r0 r1 r2
  have hPm : P ≤ 1000000000 := by
    rw [← hP]
    exact Nat.pow_le_pow_right (by omega) hq
  have key : ∀ m, m = 3 * q + j → m < 30 → n < rs m → ss n = rs m := by
    intro m hm hm30 hnm
    have : 1 ≤ m := by
      rcases Nat.eq_zero_or_pos m with h | h
      · subst h; have : rs 0 = 1 := rfl; omega
      · exact h
    have h1 := ga (m - 1) (by omega)
    have e : m - 1 + 1 = m := by omega
    have := ss_eq hn1 hn (k := m - 1) (by omega) h1 (by rw [e]; exact hnm)
    rw [e] at this; exact this
  have next : ∀ m, m = 3 * q + j → ¬ n < rs m → ∀ m', m' < 3 * q + (j + 1) → (rs m' : Int) ≤ n := by
    intro m hm hnm m' hm'
    rcases Nat.lt_or_ge m' m with h | h
    · exact ga m' (by omega)
    · have : m' = m := by omega
      subst this; omega
  rcases Nat.lt_or_ge j 3 with hlt | hge
  · obtain rfl | rfl | rfl : j = 0 ∨ j = 1 ∨ j = 2 := by omega
    · have hw : wr .i64 ((P : Int)) = P := wr_in (by omega) (by omega)
      have k' := key (3 * q) rfl (by omega)
      have n' := next (3 * q) rfl
      rw [r0] at k' n'
      clear key next ga
      repeat' (first | intro _ | (simp [sx_skip, sx_ops, sx_seq, sx_cond, sx_block, sx_exit, sx_ret, sxl_nil, sxl_set, sxl_call, sxl_callv, sxl_g1, sxl_g2, sxl_g3, sxl_g4, OkS_true, GrdS_tt, GrdS_tf, GrdS_ft, GrdS_ff, CondS_t, CondS_f, then_n, then_e, then_r, blk_n, blk_e, blk_r, upd_app, Ex.ok, Ex.val, Opd.val, POp.dst, bin_int, binOK_int, bin_str, binOK_str, resOK, resV, RB.val, sub, putc, scB, scL, oneB, conf, Ex.val.eqP, Ex.val.eqL, negV, mxV, mnV, ← wr_eq, wr_zero, wr_one, wr_m1, partsOK, putAll, appV, slV, sslV, optB, optNum, and_assoc, exists_and_left, exists_eq_left', *]) | refine CondS_d (fun h => ?_) (fun h => ?_) | refine CondS_b (fun h => ?_) (fun h => ?_) | refine GrdS_d (fun h => ?_) (fun h => ?_) | refine GrdS_b (fun h => ?_) (fun h => ?_) | refine OkS_i (by omega) ?_ | fail)
    · have hw : wr .i64 (2 * (P : Int)) = 2 * P := wr_in (by omega) (by omega)
      have k' := key (3 * q + 1) rfl (by omega)
      have n' := next (3 * q + 1) rfl
      rw [r1] at k' n'
      clear key next ga
      repeat' (first | intro _ | (simp [sx_skip, sx_ops, sx_seq, sx_cond, sx_block, sx_exit, sx_ret, sxl_nil, sxl_set, sxl_call, sxl_callv, sxl_g1, sxl_g2, sxl_g3, sxl_g4, OkS_true, GrdS_tt, GrdS_tf, GrdS_ft, GrdS_ff, CondS_t, CondS_f, then_n, then_e, then_r, blk_n, blk_e, blk_r, upd_app, Ex.ok, Ex.val, Opd.val, POp.dst, bin_int, binOK_int, bin_str, binOK_str, resOK, resV, RB.val, sub, putc, scB, scL, oneB, conf, Ex.val.eqP, Ex.val.eqL, negV, mxV, mnV, ← wr_eq, wr_zero, wr_one, wr_m1, partsOK, putAll, appV, slV, sslV, optB, optNum, and_assoc, exists_and_left, exists_eq_left', *]) | refine CondS_d (fun h => ?_) (fun h => ?_) | refine CondS_b (fun h => ?_) (fun h => ?_) | refine GrdS_d (fun h => ?_) (fun h => ?_) | refine GrdS_b (fun h => ?_) (fun h => ?_) | refine OkS_i (by omega) ?_ | fail)
      exact ⟨wr_in (by omega) (by omega), n' (by omega)⟩
    · have hw : wr .i64 (5 * (P : Int)) = 5 * P := wr_in (by omega) (by omega)
      have k' := key (3 * q + 2) rfl (by omega)
      have n' := next (3 * q + 2) rfl
      rw [r2] at k' n'
      clear key next ga
      repeat' (first | intro _ | (simp [sx_skip, sx_ops, sx_seq, sx_cond, sx_block, sx_exit, sx_ret, sxl_nil, sxl_set, sxl_call, sxl_callv, sxl_g1, sxl_g2, sxl_g3, sxl_g4, OkS_true, GrdS_tt, GrdS_tf, GrdS_ft, GrdS_ff, CondS_t, CondS_f, then_n, then_e, then_r, blk_n, blk_e, blk_r, upd_app, Ex.ok, Ex.val, Opd.val, POp.dst, bin_int, binOK_int, bin_str, binOK_str, resOK, resV, RB.val, sub, putc, scB, scL, oneB, conf, Ex.val.eqP, Ex.val.eqL, negV, mxV, mnV, ← wr_eq, wr_zero, wr_one, wr_m1, partsOK, putAll, appV, slV, sslV, optB, optNum, and_assoc, exists_and_left, exists_eq_left', *]) | refine CondS_d (fun h => ?_) (fun h => ?_) | refine CondS_b (fun h => ?_) (fun h => ?_) | refine GrdS_d (fun h => ?_) (fun h => ?_) | refine GrdS_b (fun h => ?_) (fun h => ?_) | refine OkS_i (by omega) ?_ | fail)
      exact ⟨wr_in (by omega) (by omega), n' (by omega)⟩
  · obtain rfl : j = 3 := by omega
    clear key next
    repeat' (first | intro _ | (simp [sx_skip, sx_ops, sx_seq, sx_cond, sx_block, sx_exit, sx_ret, sxl_nil, sxl_set, sxl_call, sxl_callv, sxl_g1, sxl_g2, sxl_g3, sxl_g4, OkS_true, GrdS_tt, GrdS_tf, GrdS_ft, GrdS_ff, CondS_t, CondS_f, then_n, then_e, then_r, blk_n, blk_e, blk_r, upd_app, Ex.ok, Ex.val, Opd.val, POp.dst, bin_int, binOK_int, bin_str, binOK_str, resOK, resV, RB.val, sub, putc, scB, scL, oneB, conf, Ex.val.eqP, Ex.val.eqL, negV, mxV, mnV, ← wr_eq, wr_zero, wr_one, wr_m1, partsOK, putAll, appV, slV, sslV, optB, optNum, and_assoc, exists_and_left, exists_eq_left', *]) | refine CondS_d (fun h => ?_) (fun h => ?_) | refine CondS_b (fun h => ?_) (fun h => ?_) | refine GrdS_d (fun h => ?_) (fun h => ?_) | refine GrdS_b (fun h => ?_) (fun h => ?_) | refine OkS_i (by omega) ?_ | fail)
theorem f17 (n : Int) : Fn Tryd.prog 17 false [i n] (i (ss n)) := by
  refine Fn.by_sx hX (by kernel_rfl) c17 (by kernel_rfl) (by rfl) ?_
  simp [i17, sx_skip, sx_ops, sx_seq, sx_cond, sx_block, sx_exit, sx_ret, sxl_nil, sxl_set, sxl_call, sxl_callv, sxl_g1, sxl_g2, sxl_g3, sxl_g4, OkS_true, GrdS_tt, GrdS_tf, GrdS_ft, GrdS_ff, CondS_t, CondS_f, then_n, then_e, then_r, blk_n, blk_e, blk_r, upd_app, Ex.ok, Ex.val, Opd.val, POp.dst, bin_int, binOK_int, bin_str, binOK_str, resOK, resV, RB.val, sub, putc, scB, scL, oneB, conf, Ex.val.eqP, Ex.val.eqL, negV, mxV, mnV, ← wr_eq, wr_zero, wr_one, wr_m1, partsOK, putAll, appV, slV, sslV, optB, optNum, and_assoc, exists_and_left, exists_eq_left']
  refine CallS_b (f34 _ _ _) (fun h => ?_) (fun h => ?_)
  · have hr : 1 ≤ n ∧ n ≤ 499999999 := by simpa [inR] using h
    repeat' (first | intro _ | (simp [sx_skip, sx_ops, sx_seq, sx_cond, sx_block, sx_exit, sx_ret, sxl_nil, sxl_set, sxl_call, sxl_callv, sxl_g1, sxl_g2, sxl_g3, sxl_g4, OkS_true, GrdS_tt, GrdS_tf, GrdS_ft, GrdS_ff, CondS_t, CondS_f, then_n, then_e, then_r, blk_n, blk_e, blk_r, upd_app, Ex.ok, Ex.val, Opd.val, POp.dst, bin_int, binOK_int, bin_str, binOK_str, resOK, resV, RB.val, sub, putc, scB, scL, oneB, conf, Ex.val.eqP, Ex.val.eqL, negV, mxV, mnV, ← wr_eq, wr_zero, wr_one, wr_m1, partsOK, putAll, appV, slV, sslV, optB, optNum, and_assoc, exists_and_left, exists_eq_left', *]) | refine CondS_d (fun h => ?_) (fun h => ?_) | refine CondS_b (fun h => ?_) (fun h => ?_) | refine GrdS_d (fun h => ?_) (fun h => ?_) | refine GrdS_b (fun h => ?_) (fun h => ?_) | refine OkS_i (by omega) ?_ | fail)
    refine sx_count 10 (fun q V => V 0 = i n ∧ V 3 = i (10 ^ q : Nat) ∧ ∀ m, m < 3 * q → (rs m : Int) ≤ n) 0 (by omega) (by simp [sx_skip, sx_ops, sx_seq, sx_cond, sx_block, sx_exit, sx_ret, sxl_nil, sxl_set, sxl_call, sxl_callv, sxl_g1, sxl_g2, sxl_g3, sxl_g4, OkS_true, GrdS_tt, GrdS_tf, GrdS_ft, GrdS_ff, CondS_t, CondS_f, then_n, then_e, then_r, blk_n, blk_e, blk_r, upd_app, Ex.ok, Ex.val, Opd.val, POp.dst, bin_int, binOK_int, bin_str, binOK_str, resOK, resV, RB.val, sub, putc, scB, scL, oneB, conf, Ex.val.eqP, Ex.val.eqL, negV, mxV, mnV, ← wr_eq, wr_zero, wr_one, wr_m1, partsOK, putAll, appV, slV, sslV, optB, optNum, and_assoc, exists_and_left, exists_eq_left']) ?_
    rintro q V hq ⟨h0, h3, hall⟩
    obtain ⟨P, hP⟩ : ∃ P, 10 ^ q = P := ⟨_, rfl⟩
    rw [hP] at h3
    have hq9 : q ≤ 9 := by
      rcases Nat.lt_or_ge q 10 with h | h
      · omega
      · have h28 := hall 28 (by omega)
        rw [rs_top] at h28; omega
    have hPp : 10 ^ (q + 1) = 10 * P := by rw [Nat.pow_succ, hP]; omega
    have hPm : P ≤ 1000000000 := by
      rw [← hP]
      exact Nat.pow_le_pow_right (by omega) hq9
    have hw : wr .i64 ((P : Int) * 10) = (10 * P : Nat) := by rw [wr_in (by omega) (by omega)]; omega
    simp [sx_skip, sx_ops, sx_seq, sx_cond, sx_block, sx_exit, sx_ret, sxl_nil, sxl_set, sxl_call, sxl_callv, sxl_g1, sxl_g2, sxl_g3, sxl_g4, OkS_true, GrdS_tt, GrdS_tf, GrdS_ft, GrdS_ff, CondS_t, CondS_f, then_n, then_e, then_r, blk_n, blk_e, blk_r, upd_app, Ex.ok, Ex.val, Opd.val, POp.dst, bin_int, binOK_int, bin_str, binOK_str, resOK, resV, RB.val, sub, putc, scB, scL, oneB, conf, Ex.val.eqP, Ex.val.eqL, negV, mxV, mnV, ← wr_eq, wr_zero, wr_one, wr_m1, partsOK, putAll, appV, slV, sslV, optB, optNum, and_assoc, exists_and_left, exists_eq_left', h0, h3]
    refine sx_mono _ _ _ _ ?_ (l17_2 hr.2 hr.1 hq9 hP hall (by simp [sx_skip, sx_ops, sx_seq, sx_cond, sx_block, sx_exit, sx_ret, sxl_nil, sxl_set, sxl_call, sxl_callv, sxl_g1, sxl_g2, sxl_g3, sxl_g4, OkS_true, GrdS_tt, GrdS_tf, GrdS_ft, GrdS_ff, CondS_t, CondS_f, then_n, then_e, then_r, blk_n, blk_e, blk_r, upd_app, Ex.ok, Ex.val, Opd.val, POp.dst, bin_int, binOK_int, bin_str, binOK_str, resOK, resV, RB.val, sub, putc, scB, scL, oneB, conf, Ex.val.eqP, Ex.val.eqL, negV, mxV, mnV, ← wr_eq, wr_zero, wr_one, wr_m1, partsOK, putAll, appV, slV, sslV, optB, optNum, and_assoc, exists_and_left, exists_eq_left', h0]) (by simp [sx_skip, sx_ops, sx_seq, sx_cond, sx_block, sx_exit, sx_ret, sxl_nil, sxl_set, sxl_call, sxl_callv, sxl_g1, sxl_g2, sxl_g3, sxl_g4, OkS_true, GrdS_tt, GrdS_tf, GrdS_ft, GrdS_ff, CondS_t, CondS_f, then_n, then_e, then_r, blk_n, blk_e, blk_r, upd_app, Ex.ok, Ex.val, Opd.val, POp.dst, bin_int, binOK_int, bin_str, binOK_str, resOK, resV, RB.val, sub, putc, scB, scL, oneB, conf, Ex.val.eqP, Ex.val.eqL, negV, mxV, mnV, ← wr_eq, wr_zero, wr_one, wr_m1, partsOK, putAll, appV, slV, sslV, optB, optNum, and_assoc, exists_and_left, exists_eq_left', h3]) (by simp [sx_skip, sx_ops, sx_seq, sx_cond, sx_block, sx_exit, sx_ret, sxl_nil, sxl_set, sxl_call, sxl_callv, sxl_g1, sxl_g2, sxl_g3, sxl_g4, OkS_true, GrdS_tt, GrdS_tf, GrdS_ft, GrdS_ff, CondS_t, CondS_f, then_n, then_e, then_r, blk_n, blk_e, blk_r, upd_app, Ex.ok, Ex.val, Opd.val, POp.dst, bin_int, binOK_int, bin_str, binOK_str, resOK, resV, RB.val, sub, putc, scB, scL, oneB, conf, Ex.val.eqP, Ex.val.eqL, negV, mxV, mnV, ← wr_eq, wr_zero, wr_one, wr_m1, partsOK, putAll, appV, slV, sslV, optB, optNum, and_assoc, exists_and_left, exists_eq_left']) (by simp [sx_skip, sx_ops, sx_seq, sx_cond, sx_block, sx_exit, sx_ret, sxl_nil, sxl_set, sxl_call, sxl_callv, sxl_g1, sxl_g2, sxl_g3, sxl_g4, OkS_true, GrdS_tt, GrdS_tf, GrdS_ft, GrdS_ff, CondS_t, CondS_f, then_n, then_e, then_r, blk_n, blk_e, blk_r, upd_app, Ex.ok, Ex.val, Opd.val, POp.dst, bin_int, binOK_int, bin_str, binOK_str, resOK, resV, RB.val, sub, putc, scB, scL, oneB, conf, Ex.val.eqP, Ex.val.eqL, negV, mxV, mnV, ← wr_eq, wr_zero, wr_one, wr_m1, partsOK, putAll, appV, slV, sslV, optB, optNum, and_assoc, exists_and_left, exists_eq_left']) (by simp [sx_skip, sx_ops, sx_seq, sx_cond, sx_block, sx_exit, sx_ret, sxl_nil, sxl_set, sxl_call, sxl_callv, sxl_g1, sxl_g2, sxl_g3, sxl_g4, OkS_true, GrdS_tt, GrdS_tf, GrdS_ft, GrdS_ff, CondS_t, CondS_f, then_n, then_e, then_r, blk_n, blk_e, blk_r, upd_app, Ex.ok, Ex.val, Opd.val, POp.dst, bin_int, binOK_int, bin_str, binOK_str, resOK, resV, RB.val, sub, putc, scB, scL, oneB, conf, Ex.val.eqP, Ex.val.eqL, negV, mxV, mnV, ← wr_eq, wr_zero, wr_one, wr_m1, partsOK, putAll, appV, slV, sslV, optB, optNum, and_assoc, exists_and_left, exists_eq_left']))
    rintro x V' (⟨rfl, g0, g3, ga⟩ | ⟨rfl, g2⟩)
    · simp [sx_skip, sx_ops, sx_seq, sx_cond, sx_block, sx_exit, sx_ret, sxl_nil, sxl_set, sxl_call, sxl_callv, sxl_g1, sxl_g2, sxl_g3, sxl_g4, OkS_true, GrdS_tt, GrdS_tf, GrdS_ft, GrdS_ff, CondS_t, CondS_f, then_n, then_e, then_r, blk_n, blk_e, blk_r, upd_app, Ex.ok, Ex.val, Opd.val, POp.dst, bin_int, binOK_int, bin_str, binOK_str, resOK, resV, RB.val, sub, putc, scB, scL, oneB, conf, Ex.val.eqP, Ex.val.eqL, negV, mxV, mnV, ← wr_eq, wr_zero, wr_one, wr_m1, partsOK, putAll, appV, slV, sslV, optB, optNum, and_assoc, exists_and_left, exists_eq_left'] at g0 g3
      simp [sx_skip, sx_ops, sx_seq, sx_cond, sx_block, sx_exit, sx_ret, sxl_nil, sxl_set, sxl_call, sxl_callv, sxl_g1, sxl_g2, sxl_g3, sxl_g4, OkS_true, GrdS_tt, GrdS_tf, GrdS_ft, GrdS_ff, CondS_t, CondS_f, then_n, then_e, then_r, blk_n, blk_e, blk_r, upd_app, Ex.ok, Ex.val, Opd.val, POp.dst, bin_int, binOK_int, bin_str, binOK_str, resOK, resV, RB.val, sub, putc, scB, scL, oneB, conf, Ex.val.eqP, Ex.val.eqL, negV, mxV, mnV, ← wr_eq, wr_zero, wr_one, wr_m1, partsOK, putAll, appV, slV, sslV, optB, optNum, and_assoc, exists_and_left, exists_eq_left', g0, g3, h0, h3, hw]
      refine ⟨by omega, by have := congrArg (Nat.cast : Nat → Int) hPp; simpa using this.symm, fun k hk => ga k (by omega)⟩
    · simp [sx_skip, sx_ops, sx_seq, sx_cond, sx_block, sx_exit, sx_ret, sxl_nil, sxl_set, sxl_call, sxl_callv, sxl_g1, sxl_g2, sxl_g3, sxl_g4, OkS_true, GrdS_tt, GrdS_tf, GrdS_ft, GrdS_ff, CondS_t, CondS_f, then_n, then_e, then_r, blk_n, blk_e, blk_r, upd_app, Ex.ok, Ex.val, Opd.val, POp.dst, bin_int, binOK_int, bin_str, binOK_str, resOK, resV, RB.val, sub, putc, scB, scL, oneB, conf, Ex.val.eqP, Ex.val.eqL, negV, mxV, mnV, ← wr_eq, wr_zero, wr_one, wr_m1, partsOK, putAll, appV, slV, sslV, optB, optNum, and_assoc, exists_and_left, exists_eq_left', g2]
  · have hr : ss n = 0 := by unfold ss; rw [if_neg (by simpa [inR] using h)]
    repeat' (first | intro _ | (simp [sx_skip, sx_ops, sx_seq, sx_cond, sx_block, sx_exit, sx_ret, sxl_nil, sxl_set, sxl_call, sxl_callv, sxl_g1, sxl_g2, sxl_g3, sxl_g4, OkS_true, GrdS_tt, GrdS_tf, GrdS_ft, GrdS_ff, CondS_t, CondS_f, then_n, then_e, then_r, blk_n, blk_e, blk_r, upd_app, Ex.ok, Ex.val, Opd.val, POp.dst, bin_int, binOK_int, bin_str, binOK_str, resOK, resV, RB.val, sub, putc, scB, scL, oneB, conf, Ex.val.eqP, Ex.val.eqL, negV, mxV, mnV, ← wr_eq, wr_zero, wr_one, wr_m1, partsOK, putAll, appV, slV, sslV, optB, optNum, and_assoc, exists_and_left, exists_eq_left', *]) | refine CondS_d (fun h => ?_) (fun h => ?_) | refine CondS_b (fun h => ?_) (fun h => ?_) | refine GrdS_d (fun h => ?_) (fun h => ?_) | refine GrdS_b (fun h => ?_) (fun h => ?_) | refine OkS_i (by omega) ?_ | fail)
theorem f21 (a b : Int) : Fn Tryd.prog 21 false [i a, i b] (if 1 ≤ a ∧ a ≤ 1000 ∧ 1 ≤ b ∧ b ≤ 100000 then .tup [i (rl (a * b)), i (wr .i64 ((rl (a * b)).tdiv b))] else .tup [i 0, i 0]) := by
  refine Fn.by_sx hX (by kernel_rfl) c21 (by kernel_rfl) (by rfl) ?_
  simp [i21, sx_skip, sx_ops, sx_seq, sx_cond, sx_block, sx_exit, sx_ret, sxl_nil, sxl_set, sxl_call, sxl_callv, sxl_g1, sxl_g2, sxl_g3, sxl_g4, OkS_true, GrdS_tt, GrdS_tf, GrdS_ft, GrdS_ff, CondS_t, CondS_f, then_n, then_e, then_r, blk_n, blk_e, blk_r, upd_app, Ex.ok, Ex.val, Opd.val, POp.dst, bin_int, binOK_int, bin_str, binOK_str, resOK, resV, RB.val, sub, putc, scB, scL, oneB, conf, Ex.val.eqP, Ex.val.eqL, negV, mxV, mnV, ← wr_eq, wr_zero, wr_one, wr_m1, partsOK, putAll, appV, slV, sslV, optB, optNum, and_assoc, exists_and_left, exists_eq_left']
  by_cases h : 1 ≤ a ∧ a ≤ 1000 ∧ 1 ≤ b ∧ b ≤ 100000
  · rw [if_pos h]
    have m1 : 1 ≤ a * b := Int.mul_pos (by omega) (by omega)
    have m2 : a * b ≤ 1000 * 100000 := Int.mul_le_mul h.2.1 h.2.2.2 (by omega) (by omega)
    have hw : wr .i64 (a * b) = a * b := wr_in (by omega) (by omega)
    have hb0 : ¬ b = 0 := by omega
    have c1 := f34 a 1 1000
    have c2 := f34 b 1 100000
    rw [show inR a 1 1000 = true by simp [inR]; omega] at c1
    rw [show inR b 1 100000 = true by simp [inR]; omega] at c2
    repeat' (first | intro _ | (simp [sx_skip, sx_ops, sx_seq, sx_cond, sx_block, sx_exit, sx_ret, sxl_nil, sxl_set, sxl_call, sxl_callv, sxl_g1, sxl_g2, sxl_g3, sxl_g4, OkS_true, GrdS_tt, GrdS_tf, GrdS_ft, GrdS_ff, CondS_t, CondS_f, then_n, then_e, then_r, blk_n, blk_e, blk_r, upd_app, Ex.ok, Ex.val, Opd.val, POp.dst, bin_int, binOK_int, bin_str, binOK_str, resOK, resV, RB.val, sub, putc, scB, scL, oneB, conf, Ex.val.eqP, Ex.val.eqL, negV, mxV, mnV, ← wr_eq, wr_zero, wr_one, wr_m1, partsOK, putAll, appV, slV, sslV, optB, optNum, and_assoc, exists_and_left, exists_eq_left', *]) | refine CallS_i (c1) ?_ | refine CallS_i (c2) ?_ | refine CallS_i (f13 (a * b) (by omega)) ?_ | refine CondS_d (fun h => ?_) (fun h => ?_) | refine CondS_b (fun h => ?_) (fun h => ?_) | refine GrdS_d (fun h => ?_) (fun h => ?_) | refine GrdS_b (fun h => ?_) (fun h => ?_) | refine OkS_i (by omega) ?_ | fail)
  · rw [if_neg h]
    repeat' (first | intro _ | (simp [sx_skip, sx_ops, sx_seq, sx_cond, sx_block, sx_exit, sx_ret, sxl_nil, sxl_set, sxl_call, sxl_callv, sxl_g1, sxl_g2, sxl_g3, sxl_g4, OkS_true, GrdS_tt, GrdS_tf, GrdS_ft, GrdS_ff, CondS_t, CondS_f, then_n, then_e, then_r, blk_n, blk_e, blk_r, upd_app, Ex.ok, Ex.val, Opd.val, POp.dst, bin_int, binOK_int, bin_str, binOK_str, resOK, resV, RB.val, sub, putc, scB, scL, oneB, conf, Ex.val.eqP, Ex.val.eqL, negV, mxV, mnV, ← wr_eq, wr_zero, wr_one, wr_m1, partsOK, putAll, appV, slV, sslV, optB, optNum, and_assoc, exists_and_left, exists_eq_left', *]) | refine CallS_b (f34 _ _ _) (fun h => ?_) (fun h => ?_) | refine CondS_d (fun h => ?_) (fun h => ?_) | refine CondS_b (fun h => ?_) (fun h => ?_) | refine GrdS_d (fun h => ?_) (fun h => ?_) | refine GrdS_b (fun h => ?_) (fun h => ?_) | refine OkS_i (by omega) ?_ | fail)
    all_goals (exfalso; simp [inR] at *; omega)

theorem f22 (a b : Int) : Fn Tryd.prog 22 false [i a, i b] (if 1 ≤ a ∧ a ≤ 1000 ∧ 1 ≤ b ∧ b ≤ 100000 then .tup [i (rl (a * b)), i (wr .i64 ((rl (a * b)).tdiv b))] else .tup [i 0, i 0]) := by
  refine Fn.by_sx hX (by kernel_rfl) c22 (by kernel_rfl) (by rfl) ?_
  simp [i22, sx_skip, sx_ops, sx_seq, sx_cond, sx_block, sx_exit, sx_ret, sxl_nil, sxl_set, sxl_call, sxl_callv, sxl_g1, sxl_g2, sxl_g3, sxl_g4, OkS_true, GrdS_tt, GrdS_tf, GrdS_ft, GrdS_ff, CondS_t, CondS_f, then_n, then_e, then_r, blk_n, blk_e, blk_r, upd_app, Ex.ok, Ex.val, Opd.val, POp.dst, bin_int, binOK_int, bin_str, binOK_str, resOK, resV, RB.val, sub, putc, scB, scL, oneB, conf, Ex.val.eqP, Ex.val.eqL, negV, mxV, mnV, ← wr_eq, wr_zero, wr_one, wr_m1, partsOK, putAll, appV, slV, sslV, optB, optNum, and_assoc, exists_and_left, exists_eq_left']
  by_cases h : 1 ≤ a ∧ a ≤ 1000 ∧ 1 ≤ b ∧ b ≤ 100000
  · rw [if_pos h]
    have m1 : 1 ≤ a * b := Int.mul_pos (by omega) (by omega)
    have m2 : a * b ≤ 1000 * 100000 := Int.mul_le_mul h.2.1 h.2.2.2 (by omega) (by omega)
    have hw : wr .i64 (a * b) = a * b := wr_in (by omega) (by omega)
    have hb0 : ¬ b = 0 := by omega
    have c1 := f31 a 1 1000
    have c2 := f31 b 1 100000
    rw [show inR a 1 1000 = true by simp [inR]; omega] at c1
    rw [show inR b 1 100000 = true by simp [inR]; omega] at c2
    repeat' (first | intro _ | (simp [sx_skip, sx_ops, sx_seq, sx_cond, sx_block, sx_exit, sx_ret, sxl_nil, sxl_set, sxl_call, sxl_callv, sxl_g1, sxl_g2, sxl_g3, sxl_g4, OkS_true, GrdS_tt, GrdS_tf, GrdS_ft, GrdS_ff, CondS_t, CondS_f, then_n, then_e, then_r, blk_n, blk_e, blk_r, upd_app, Ex.ok, Ex.val, Opd.val, POp.dst, bin_int, binOK_int, bin_str, binOK_str, resOK, resV, RB.val, sub, putc, scB, scL, oneB, conf, Ex.val.eqP, Ex.val.eqL, negV, mxV, mnV, ← wr_eq, wr_zero, wr_one, wr_m1, partsOK, putAll, appV, slV, sslV, optB, optNum, and_assoc, exists_and_left, exists_eq_left', *]) | refine CallS_i (c1) ?_ | refine CallS_i (c2) ?_ | refine CallS_i (f14 (a * b) (by omega)) ?_ | refine CondS_d (fun h => ?_) (fun h => ?_) | refine CondS_b (fun h => ?_) (fun h => ?_) | refine GrdS_d (fun h => ?_) (fun h => ?_) | refine GrdS_b (fun h => ?_) (fun h => ?_) | refine OkS_i (by omega) ?_ | fail)
  · rw [if_neg h]
    repeat' (first | intro _ | (simp [sx_skip, sx_ops, sx_seq, sx_cond, sx_block, sx_exit, sx_ret, sxl_nil, sxl_set, sxl_call, sxl_callv, sxl_g1, sxl_g2, sxl_g3, sxl_g4, OkS_true, GrdS_tt, GrdS_tf, GrdS_ft, GrdS_ff, CondS_t, CondS_f, then_n, then_e, then_r, blk_n, blk_e, blk_r, upd_app, Ex.ok, Ex.val, Opd.val, POp.dst, bin_int, binOK_int, bin_str, binOK_str, resOK, resV, RB.val, sub, putc, scB, scL, oneB, conf, Ex.val.eqP, Ex.val.eqL, negV, mxV, mnV, ← wr_eq, wr_zero, wr_one, wr_m1, partsOK, putAll, appV, slV, sslV, optB, optNum, and_assoc, exists_and_left, exists_eq_left', *]) | refine CallS_b (f31 _ _ _) (fun h => ?_) (fun h => ?_) | refine CondS_d (fun h => ?_) (fun h => ?_) | refine CondS_b (fun h => ?_) (fun h => ?_) | refine GrdS_d (fun h => ?_) (fun h => ?_) | refine GrdS_b (fun h => ?_) (fun h => ?_) | refine OkS_i (by omega) ?_ | fail)
    all_goals (exfalso; simp [inR] at *; omega)
end Go.Eng
namespace Go.Eng
open Go Go.Proofs
set_option linter.unusedSimpArgs false
set_option linter.unusedVariables false
set_option maxRecDepth 20000

theorem dec_nat (u : Nat) : dec u = ⟨(Lib.decDigits u).toArray⟩ := by
  unfold dec Lib.itoa; rw [if_neg (by omega), Int.toNat_natCast]
theorem digits_len (u : Nat) : ∀ f, u < 10 ^ f → (Lib.decDigits u).length ≤ f + 1 := by
  intro f
  induction f generalizing u with
  | zero => intro h; rw [Lib.decDigits]; simp at h; subst h; simp
  | succ f ih =>
    intro h
    rw [Lib.decDigits]
    split
    · simp
    · have := ih (u / 10) (by rw [Nat.pow_succ] at h; omega)
      rw [List.length_append]; simp; omega
theorem dec_size {n : Int} (h : 0 ≤ n) (h2 : n ≤ 9223372036854775807) : (dec n).size ≤ 21 := by
  obtain ⟨u, rfl⟩ : ∃ u : Nat, n = u := ⟨n.toNat, by omega⟩
  rw [dec_nat]
  exact digits_len u 20 (by omega)
/-- the digits of u, none of nought, ahead of l -/
def digs (u : Nat) (l : List UInt8) : List UInt8 := (if u = 0 then [] else Lib.decDigits u) ++ l
theorem digs_step {u : Nat} (h : 0 < u) (l : List UInt8) : digs u l = digs (u / 10) (UInt8.ofNat (48 + u % 10) :: l) := by
  unfold digs
  rw [if_neg (by omega), Lib.decDigits]
  split
  · rename_i h10
    rw [if_pos (by omega), show u % 10 = u by omega]; rfl
  · rw [if_neg (by omega)]; simp
theorem str_app (a b : List UInt8) : (⟨a.toArray⟩ : ByteArray) ++ (⟨b.toArray⟩ : ByteArray) = ⟨(a ++ b).toArray⟩ := by
  apply ByteArray.ext
  simp
theorem f33 (u : Nat) (h1 : u ≤ 9223372036854775807) : Fn Tryd.prog 33 false [i u] (.str (dec u)) := by
  refine Fn.by_sx hX (by kernel_rfl) c33 (by kernel_rfl) (by rfl) ?_
  simp [i33, sx_skip, sx_ops, sx_seq, sx_cond, sx_block, sx_exit, sx_ret, sxl_nil, sxl_set, sxl_call, sxl_callv, sxl_g1, sxl_g2, sxl_g3, sxl_g4, OkS_true, GrdS_tt, GrdS_tf, GrdS_ft, GrdS_ff, CondS_t, CondS_f, then_n, then_e, then_r, blk_n, blk_e, blk_r, upd_app, Ex.ok, Ex.val, Opd.val, POp.dst, bin_int, binOK_int, bin_str, binOK_str, resOK, resV, RB.val, sub, putc, scB, scL, oneB, conf, Ex.val.eqP, Ex.val.eqL, negV, mxV, mnV, ← wr_eq, wr_zero, wr_one, wr_m1, bst_lst, byteC, partsOK, putAll, appV, slV, sslV, optB, optNum, and_assoc, exists_and_left, exists_eq_left']
  by_cases hz : u = 0
  · subst hz
    have : dec (0 : Int) = bs [48] := by have := dec_nat 0; rw [Lib.decDigits] at this; simpa using this
    repeat' (first | intro _ | (simp [sx_skip, sx_ops, sx_seq, sx_cond, sx_block, sx_exit, sx_ret, sxl_nil, sxl_set, sxl_call, sxl_callv, sxl_g1, sxl_g2, sxl_g3, sxl_g4, OkS_true, GrdS_tt, GrdS_tf, GrdS_ft, GrdS_ff, CondS_t, CondS_f, then_n, then_e, then_r, blk_n, blk_e, blk_r, upd_app, Ex.ok, Ex.val, Opd.val, POp.dst, bin_int, binOK_int, bin_str, binOK_str, resOK, resV, RB.val, sub, putc, scB, scL, oneB, conf, Ex.val.eqP, Ex.val.eqL, negV, mxV, mnV, ← wr_eq, wr_zero, wr_one, wr_m1, bst_lst, byteC, partsOK, putAll, appV, slV, sslV, optB, optNum, and_assoc, exists_and_left, exists_eq_left', *]) | refine CondS_d (fun h => ?_) (fun h => ?_) | refine CondS_b (fun h => ?_) (fun h => ?_) | refine GrdS_d (fun h => ?_) (fun h => ?_) | refine GrdS_b (fun h => ?_) (fun h => ?_) | refine OkS_i (by omega) ?_ | fail)
  have hzi : ¬ (u : Int) = 0 := by omega
  repeat' (first | intro _ | (simp [sx_skip, sx_ops, sx_seq, sx_cond, sx_block, sx_exit, sx_ret, sxl_nil, sxl_set, sxl_call, sxl_callv, sxl_g1, sxl_g2, sxl_g3, sxl_g4, OkS_true, GrdS_tt, GrdS_tf, GrdS_ft, GrdS_ff, CondS_t, CondS_f, then_n, then_e, then_r, blk_n, blk_e, blk_r, upd_app, Ex.ok, Ex.val, Opd.val, POp.dst, bin_int, binOK_int, bin_str, binOK_str, resOK, resV, RB.val, sub, putc, scB, scL, oneB, conf, Ex.val.eqP, Ex.val.eqL, negV, mxV, mnV, ← wr_eq, wr_zero, wr_one, wr_m1, bst_lst, byteC, partsOK, putAll, appV, slV, sslV, optB, optNum, and_assoc, exists_and_left, exists_eq_left', *]) | refine CondS_d (fun h => ?_) (fun h => ?_) | refine CondS_b (fun h => ?_) (fun h => ?_) | refine GrdS_d (fun h => ?_) (fun h => ?_) | refine GrdS_b (fun h => ?_) (fun h => ?_) | refine OkS_i (by omega) ?_ | fail)
  refine sx_down (fun m V => ∃ l : List UInt8, V 0 = i u ∧ V 4 = i m ∧ V 3 = .str ⟨l.toArray⟩ ∧ m ≤ 9223372036854775807 ∧ digs m l = Lib.decDigits u) u ⟨[], by simp [sx_skip, sx_ops, sx_seq, sx_cond, sx_block, sx_exit, sx_ret, sxl_nil, sxl_set, sxl_call, sxl_callv, sxl_g1, sxl_g2, sxl_g3, sxl_g4, OkS_true, GrdS_tt, GrdS_tf, GrdS_ft, GrdS_ff, CondS_t, CondS_f, then_n, then_e, then_r, blk_n, blk_e, blk_r, upd_app, Ex.ok, Ex.val, Opd.val, POp.dst, bin_int, binOK_int, bin_str, binOK_str, resOK, resV, RB.val, sub, putc, scB, scL, oneB, conf, Ex.val.eqP, Ex.val.eqL, negV, mxV, mnV, ← wr_eq, wr_zero, wr_one, wr_m1, bst_lst, byteC, partsOK, putAll, appV, slV, sslV, optB, optNum, and_assoc, exists_and_left, exists_eq_left', digs, hz]; exact h1⟩ ?_
  rintro m V ⟨l, h0, h4, h3, hm, hd⟩
  simp [sx_skip, sx_ops, sx_seq, sx_cond, sx_block, sx_exit, sx_ret, sxl_nil, sxl_set, sxl_call, sxl_callv, sxl_g1, sxl_g2, sxl_g3, sxl_g4, OkS_true, GrdS_tt, GrdS_tf, GrdS_ft, GrdS_ff, CondS_t, CondS_f, then_n, then_e, then_r, blk_n, blk_e, blk_r, upd_app, Ex.ok, Ex.val, Opd.val, POp.dst, bin_int, binOK_int, bin_str, binOK_str, resOK, resV, RB.val, sub, putc, scB, scL, oneB, conf, Ex.val.eqP, Ex.val.eqL, negV, mxV, mnV, ← wr_eq, wr_zero, wr_one, wr_m1, bst_lst, byteC, partsOK, putAll, appV, slV, sslV, optB, optNum, and_assoc, exists_and_left, exists_eq_left', h0, h4]
  have hll : l.length ≤ 21 := by
    have := digits_len u 20 (by omega)
    rw [← hd] at this
    unfold digs at this
    rw [List.length_append] at this; omega
  by_cases hm0 : m = 0
  · subst hm0
    have hr : dec u = ⟨l.toArray⟩ := by rw [dec_nat, ← hd]; unfold digs; simp
    repeat' (first | intro _ | (simp [sx_skip, sx_ops, sx_seq, sx_cond, sx_block, sx_exit, sx_ret, sxl_nil, sxl_set, sxl_call, sxl_callv, sxl_g1, sxl_g2, sxl_g3, sxl_g4, OkS_true, GrdS_tt, GrdS_tf, GrdS_ft, GrdS_ff, CondS_t, CondS_f, then_n, then_e, then_r, blk_n, blk_e, blk_r, upd_app, Ex.ok, Ex.val, Opd.val, POp.dst, bin_int, binOK_int, bin_str, binOK_str, resOK, resV, RB.val, sub, putc, scB, scL, oneB, conf, Ex.val.eqP, Ex.val.eqL, negV, mxV, mnV, ← wr_eq, wr_zero, wr_one, wr_m1, bst_lst, byteC, partsOK, putAll, appV, slV, sslV, optB, optNum, and_assoc, exists_and_left, exists_eq_left', *]) | refine CondS_d (fun h => ?_) (fun h => ?_) | refine CondS_b (fun h => ?_) (fun h => ?_) | refine GrdS_d (fun h => ?_) (fun h => ?_) | refine GrdS_b (fun h => ?_) (fun h => ?_) | refine OkS_i (by omega) ?_ | fail)
    all_goals (exfalso; omega)
  · obtain ⟨q, hq⟩ : ∃ q, m / 10 = q := ⟨_, rfl⟩
    obtain ⟨d, hdd⟩ : ∃ d, m % 10 = d := ⟨_, rfl⟩
    have e1 : (m : Int) / 10 = q := by omega
    have e2 : (m : Int) % 10 = d := by omega
    have e3 : (m : Int).tmod 10 = d := by rw [Int.tmod_eq_emod_of_nonneg (by omega)]; exact e2
    have w1 : wr .i64 (q : Int) = q := wr_in (by omega) (by omega)
    have w2 : wr .i64 (48 + (d : Int)) = 48 + d := wr_in (by omega) (by omega)
    have w3 : wr .u8 (48 + (d : Int)) = 48 + d := wr_u8 (by omega) (by omega)
    have hneg : ¬ (d : Int) < 0 := by omega
    have hb : (48 + (d : Int)).toNat = 48 + d := by omega
    have hs := digs_step (u := m) (by omega) l
    rw [hq, hdd, hd] at hs
    repeat' (first | intro _ | (simp [sx_skip, sx_ops, sx_seq, sx_cond, sx_block, sx_exit, sx_ret, sxl_nil, sxl_set, sxl_call, sxl_callv, sxl_g1, sxl_g2, sxl_g3, sxl_g4, OkS_true, GrdS_tt, GrdS_tf, GrdS_ft, GrdS_ff, CondS_t, CondS_f, then_n, then_e, then_r, blk_n, blk_e, blk_r, upd_app, Ex.ok, Ex.val, Opd.val, POp.dst, bin_int, binOK_int, bin_str, binOK_str, resOK, resV, RB.val, sub, putc, scB, scL, oneB, conf, Ex.val.eqP, Ex.val.eqL, negV, mxV, mnV, ← wr_eq, wr_zero, wr_one, wr_m1, bst_lst, byteC, partsOK, putAll, appV, slV, sslV, optB, optNum, and_assoc, exists_and_left, exists_eq_left', *]) | refine CondS_d (fun h => ?_) (fun h => ?_) | refine CondS_b (fun h => ?_) (fun h => ?_) | refine GrdS_d (fun h => ?_) (fun h => ?_) | refine GrdS_b (fun h => ?_) (fun h => ?_) | refine OkS_i (by omega) ?_ | fail)
    refine OkS_i ⟨[48 + (d : Int)], rfl⟩ ?_
    have happ : (⟨#[48 + UInt8.ofNat d]⟩ : ByteArray) ++ ⟨l.toArray⟩ = ⟨((48 + UInt8.ofNat d) :: l).toArray⟩ := str_app [48 + UInt8.ofNat d] l
    have hsz : ((⟨#[48 + UInt8.ofNat d]⟩ : ByteArray).size + (⟨l.toArray⟩ : ByteArray).size < 4611686018427387904) := by
      show 1 + l.length < _; omega
    simp [sx_skip, sx_ops, sx_seq, sx_cond, sx_block, sx_exit, sx_ret, sxl_nil, sxl_set, sxl_call, sxl_callv, sxl_g1, sxl_g2, sxl_g3, sxl_g4, OkS_true, GrdS_tt, GrdS_tf, GrdS_ft, GrdS_ff, CondS_t, CondS_f, then_n, then_e, then_r, blk_n, blk_e, blk_r, upd_app, Ex.ok, Ex.val, Opd.val, POp.dst, bin_int, binOK_int, bin_str, binOK_str, resOK, resV, RB.val, sub, putc, scB, scL, oneB, conf, Ex.val.eqP, Ex.val.eqL, negV, mxV, mnV, ← wr_eq, wr_zero, wr_one, wr_m1, bst_lst, byteC, partsOK, putAll, appV, slV, sslV, optB, optNum, and_assoc, exists_and_left, exists_eq_left', h3, hsz, happ, e1, w1, h0, h4]
    exact ⟨q, by omega, rfl, by omega, rfl⟩
/-! BarText -/
def wText (n : Int) : ByteArray := if n < 1 then bs [] else if n < 1000 then dec n ++ bs [109] else dec (n / 1000) ++ bs [107, 109]
theorem f33' (n : Int) (h0 : 0 ≤ n) (h1 : n ≤ 9223372036854775807) : Fn Tryd.prog 33 false [i n] (.str (dec n)) := by
  obtain ⟨u, rfl⟩ : ∃ u : Nat, n = u := ⟨n.toNat, by omega⟩
  exact f33 u (by omega)
theorem f15 (n : Int) (h1 : n ≤ 9223372036854775807) : Fn Tryd.prog 15 false [i n] (.str (wText n)) := by
  refine Fn.by_sx hX (by kernel_rfl) c15 (by kernel_rfl) (by rfl) ?_
  simp [i15, sx_skip, sx_ops, sx_seq, sx_cond, sx_block, sx_exit, sx_ret, sxl_nil, sxl_set, sxl_call, sxl_callv, sxl_g1, sxl_g2, sxl_g3, sxl_g4, OkS_true, GrdS_tt, GrdS_tf, GrdS_ft, GrdS_ff, CondS_t, CondS_f, then_n, then_e, then_r, blk_n, blk_e, blk_r, upd_app, Ex.ok, Ex.val, Opd.val, POp.dst, bin_int, binOK_int, bin_str, binOK_str, resOK, resV, RB.val, sub, putc, scB, scL, oneB, conf, Ex.val.eqP, Ex.val.eqL, negV, mxV, mnV, ← wr_eq, wr_zero, wr_one, wr_m1, bst_lst, byteC, partsOK, putAll, appV, slV, sslV, optB, optNum, and_assoc, exists_and_left, exists_eq_left']
  by_cases h : n < 1
  · repeat' (first | intro _ | (simp [sx_skip, sx_ops, sx_seq, sx_cond, sx_block, sx_exit, sx_ret, sxl_nil, sxl_set, sxl_call, sxl_callv, sxl_g1, sxl_g2, sxl_g3, sxl_g4, OkS_true, GrdS_tt, GrdS_tf, GrdS_ft, GrdS_ff, CondS_t, CondS_f, then_n, then_e, then_r, blk_n, blk_e, blk_r, upd_app, Ex.ok, Ex.val, Opd.val, POp.dst, bin_int, binOK_int, bin_str, binOK_str, resOK, resV, RB.val, sub, putc, scB, scL, oneB, conf, Ex.val.eqP, Ex.val.eqL, negV, mxV, mnV, ← wr_eq, wr_zero, wr_one, wr_m1, bst_lst, byteC, partsOK, putAll, appV, slV, sslV, optB, optNum, and_assoc, exists_and_left, exists_eq_left', *]) | refine CondS_d (fun h => ?_) (fun h => ?_) | refine CondS_b (fun h => ?_) (fun h => ?_) | refine GrdS_d (fun h => ?_) (fun h => ?_) | refine GrdS_b (fun h => ?_) (fun h => ?_) | refine OkS_i (by omega) ?_ | fail)
    all_goals simp_all [wText]
  · by_cases h2 : n < 1000
    · have hwt : wText n = dec n ++ bs [109] := by unfold wText; rw [if_neg h, if_pos h2]
      have hs : (dec n).size + (bs [109]).size < 4611686018427387904 := by
        have := dec_size (n := n) (by omega) h1
        show _ + 1 < _; omega
      repeat' (first | intro _ | (simp [sx_skip, sx_ops, sx_seq, sx_cond, sx_block, sx_exit, sx_ret, sxl_nil, sxl_set, sxl_call, sxl_callv, sxl_g1, sxl_g2, sxl_g3, sxl_g4, OkS_true, GrdS_tt, GrdS_tf, GrdS_ft, GrdS_ff, CondS_t, CondS_f, then_n, then_e, then_r, blk_n, blk_e, blk_r, upd_app, Ex.ok, Ex.val, Opd.val, POp.dst, bin_int, binOK_int, bin_str, binOK_str, resOK, resV, RB.val, sub, putc, scB, scL, oneB, conf, Ex.val.eqP, Ex.val.eqL, negV, mxV, mnV, ← wr_eq, wr_zero, wr_one, wr_m1, bst_lst, byteC, partsOK, putAll, appV, slV, sslV, optB, optNum, and_assoc, exists_and_left, exists_eq_left', *]) | refine CallS_i (f33' n (by omega) h1) ?_ | refine CondS_d (fun h => ?_) (fun h => ?_) | refine CondS_b (fun h => ?_) (fun h => ?_) | refine GrdS_d (fun h => ?_) (fun h => ?_) | refine GrdS_b (fun h => ?_) (fun h => ?_) | refine OkS_i (by omega) ?_ | fail)
    · have hd : n.tdiv 1000 = n / 1000 := Int.tdiv_eq_ediv_of_nonneg (by omega)
      obtain ⟨q, hq⟩ : ∃ q, n / 1000 = q := ⟨_, rfl⟩
      rw [hq] at hd
      have hwt : wText n = dec q ++ bs [107, 109] := by unfold wText; rw [if_neg h, if_neg h2, hq]
      have hw : wr .i64 q = q := wr_in (by omega) (by omega)
      have hs : (dec q).size + (bs [107, 109]).size < 4611686018427387904 := by
        have := dec_size (n := q) (by omega) (by omega)
        show _ + 2 < _; omega
      repeat' (first | intro _ | (simp [sx_skip, sx_ops, sx_seq, sx_cond, sx_block, sx_exit, sx_ret, sxl_nil, sxl_set, sxl_call, sxl_callv, sxl_g1, sxl_g2, sxl_g3, sxl_g4, OkS_true, GrdS_tt, GrdS_tf, GrdS_ft, GrdS_ff, CondS_t, CondS_f, then_n, then_e, then_r, blk_n, blk_e, blk_r, upd_app, Ex.ok, Ex.val, Opd.val, POp.dst, bin_int, binOK_int, bin_str, binOK_str, resOK, resV, RB.val, sub, putc, scB, scL, oneB, conf, Ex.val.eqP, Ex.val.eqL, negV, mxV, mnV, ← wr_eq, wr_zero, wr_one, wr_m1, bst_lst, byteC, partsOK, putAll, appV, slV, sslV, optB, optNum, and_assoc, exists_and_left, exists_eq_left', *]) | refine CallS_i (f33' q (by omega) (by omega)) ?_ | refine CondS_d (fun h => ?_) (fun h => ?_) | refine CondS_b (fun h => ?_) (fun h => ?_) | refine GrdS_d (fun h => ?_) (fun h => ?_) | refine GrdS_b (fun h => ?_) (fun h => ?_) | refine OkS_i (by omega) ?_ | fail)
theorem f16 (n : Int) (h1 : n ≤ 9223372036854775807) : Fn Tryd.prog 16 false [i n] (.str (wText n)) := by
  refine Fn.by_sx hX (by kernel_rfl) c16 (by kernel_rfl) (by rfl) ?_
  simp [i16, sx_skip, sx_ops, sx_seq, sx_cond, sx_block, sx_exit, sx_ret, sxl_nil, sxl_set, sxl_call, sxl_callv, sxl_g1, sxl_g2, sxl_g3, sxl_g4, OkS_true, GrdS_tt, GrdS_tf, GrdS_ft, GrdS_ff, CondS_t, CondS_f, then_n, then_e, then_r, blk_n, blk_e, blk_r, upd_app, Ex.ok, Ex.val, Opd.val, POp.dst, bin_int, binOK_int, bin_str, binOK_str, resOK, resV, RB.val, sub, putc, scB, scL, oneB, conf, Ex.val.eqP, Ex.val.eqL, negV, mxV, mnV, ← wr_eq, wr_zero, wr_one, wr_m1, bst_lst, byteC, partsOK, putAll, appV, slV, sslV, optB, optNum, and_assoc, exists_and_left, exists_eq_left']
  by_cases h : n < 1
  · repeat' (first | intro _ | (simp [sx_skip, sx_ops, sx_seq, sx_cond, sx_block, sx_exit, sx_ret, sxl_nil, sxl_set, sxl_call, sxl_callv, sxl_g1, sxl_g2, sxl_g3, sxl_g4, OkS_true, GrdS_tt, GrdS_tf, GrdS_ft, GrdS_ff, CondS_t, CondS_f, then_n, then_e, then_r, blk_n, blk_e, blk_r, upd_app, Ex.ok, Ex.val, Opd.val, POp.dst, bin_int, binOK_int, bin_str, binOK_str, resOK, resV, RB.val, sub, putc, scB, scL, oneB, conf, Ex.val.eqP, Ex.val.eqL, negV, mxV, mnV, ← wr_eq, wr_zero, wr_one, wr_m1, bst_lst, byteC, partsOK, putAll, appV, slV, sslV, optB, optNum, and_assoc, exists_and_left, exists_eq_left', *]) | refine CondS_d (fun h => ?_) (fun h => ?_) | refine CondS_b (fun h => ?_) (fun h => ?_) | refine GrdS_d (fun h => ?_) (fun h => ?_) | refine GrdS_b (fun h => ?_) (fun h => ?_) | refine OkS_i (by omega) ?_ | fail)
    all_goals simp_all [wText]
  · by_cases h2 : n < 1000
    · have hwt : wText n = dec n ++ bs [109] := by unfold wText; rw [if_neg h, if_pos h2]
      have hs : (dec n).size + (bs [109]).size < 4611686018427387904 := by
        have := dec_size (n := n) (by omega) h1
        show _ + 1 < _; omega
      repeat' (first | intro _ | (simp [sx_skip, sx_ops, sx_seq, sx_cond, sx_block, sx_exit, sx_ret, sxl_nil, sxl_set, sxl_call, sxl_callv, sxl_g1, sxl_g2, sxl_g3, sxl_g4, OkS_true, GrdS_tt, GrdS_tf, GrdS_ft, GrdS_ff, CondS_t, CondS_f, then_n, then_e, then_r, blk_n, blk_e, blk_r, upd_app, Ex.ok, Ex.val, Opd.val, POp.dst, bin_int, binOK_int, bin_str, binOK_str, resOK, resV, RB.val, sub, putc, scB, scL, oneB, conf, Ex.val.eqP, Ex.val.eqL, negV, mxV, mnV, ← wr_eq, wr_zero, wr_one, wr_m1, bst_lst, byteC, partsOK, putAll, appV, slV, sslV, optB, optNum, and_assoc, exists_and_left, exists_eq_left', *]) | refine CallS_i (f30 n (by omega) h1) ?_ | refine CondS_d (fun h => ?_) (fun h => ?_) | refine CondS_b (fun h => ?_) (fun h => ?_) | refine GrdS_d (fun h => ?_) (fun h => ?_) | refine GrdS_b (fun h => ?_) (fun h => ?_) | refine OkS_i (by omega) ?_ | fail)
    · have hd : n.tdiv 1000 = n / 1000 := Int.tdiv_eq_ediv_of_nonneg (by omega)
      obtain ⟨q, hq⟩ : ∃ q, n / 1000 = q := ⟨_, rfl⟩
      rw [hq] at hd
      have hwt : wText n = dec q ++ bs [107, 109] := by unfold wText; rw [if_neg h, if_neg h2, hq]
      have hw : wr .i64 q = q := wr_in (by omega) (by omega)
      have hs : (dec q).size + (bs [107, 109]).size < 4611686018427387904 := by
        have := dec_size (n := q) (by omega) (by omega)
        show _ + 2 < _; omega
      repeat' (first | intro _ | (simp [sx_skip, sx_ops, sx_seq, sx_cond, sx_block, sx_exit, sx_ret, sxl_nil, sxl_set, sxl_call, sxl_callv, sxl_g1, sxl_g2, sxl_g3, sxl_g4, OkS_true, GrdS_tt, GrdS_tf, GrdS_ft, GrdS_ff, CondS_t, CondS_f, then_n, then_e, then_r, blk_n, blk_e, blk_r, upd_app, Ex.ok, Ex.val, Opd.val, POp.dst, bin_int, binOK_int, bin_str, binOK_str, resOK, resV, RB.val, sub, putc, scB, scL, oneB, conf, Ex.val.eqP, Ex.val.eqL, negV, mxV, mnV, ← wr_eq, wr_zero, wr_one, wr_m1, bst_lst, byteC, partsOK, putAll, appV, slV, sslV, optB, optNum, and_assoc, exists_and_left, exists_eq_left', *]) | refine CallS_i (f30 q (by omega) (by omega)) ?_ | refine CondS_d (fun h => ?_) (fun h => ?_) | refine CondS_b (fun h => ?_) (fun h => ?_) | refine GrdS_d (fun h => ?_) (fun h => ?_) | refine GrdS_b (fun h => ?_) (fun h => ?_) | refine OkS_i (by omega) ?_ | fail)
/-! references -/
def abc : ByteArray := bs [97, 98, 99, 100, 101, 102, 103, 104, 105, 106, 107, 108, 109, 110, 111, 112, 113, 114, 115, 116, 117]
def wRef (n : Int) : ByteArray := if 0 ≤ n ∧ n ≤ 440 then bs [97 + UInt8.ofNat (n % 21).toNat] ++ dec (n / 21) else bs []
theorem abc_at : ∀ k : _root_.Fin 21, abc.extract k.val (k.val + 1) = bs [97 + UInt8.ofNat k.val] := by decide +kernel
theorem f19 (n : Int) : Fn Tryd.prog 19 false [i n] (.str (wRef n)) := by
  refine Fn.by_sx hX (by kernel_rfl) c19 (by kernel_rfl) (by rfl) ?_
  simp [i19, sx_skip, sx_ops, sx_seq, sx_cond, sx_block, sx_exit, sx_ret, sxl_nil, sxl_set, sxl_call, sxl_callv, sxl_g1, sxl_g2, sxl_g3, sxl_g4, OkS_true, GrdS_tt, GrdS_tf, GrdS_ft, GrdS_ff, CondS_t, CondS_f, then_n, then_e, then_r, blk_n, blk_e, blk_r, upd_app, Ex.ok, Ex.val, Opd.val, POp.dst, bin_int, binOK_int, bin_str, binOK_str, resOK, resV, RB.val, sub, putc, scB, scL, oneB, conf, Ex.val.eqP, Ex.val.eqL, negV, mxV, mnV, ← wr_eq, wr_zero, wr_one, wr_m1, bst_lst, byteC, partsOK, putAll, appV, slV, sslV, optB, optNum, and_assoc, exists_and_left, exists_eq_left']
  refine CallS_b (f34 _ _ _) (fun h => ?_) (fun h => ?_)
  · have hr : 0 ≤ n ∧ n ≤ 440 := by simpa [inR] using h
    obtain ⟨u, rfl⟩ : ∃ u : Nat, n = u := ⟨n.toNat, by omega⟩
    obtain ⟨d, hd⟩ : ∃ d, u % 21 = d := ⟨_, rfl⟩
    obtain ⟨q, hq⟩ : ∃ q, u / 21 = q := ⟨_, rfl⟩
    have e1 : (u : Int).tmod 21 = d := by rw [Int.tmod_eq_emod_of_nonneg (by omega)]; omega
    have e2 : (u : Int) % 21 = d := by omega
    have e3 : (u : Int).tdiv 21 = q := by rw [Int.tdiv_eq_ediv_of_nonneg (by omega)]; omega
    have e4 : (u : Int) / 21 = q := by omega
    have w1 : wr .i64 ((d : Int) + 1) = d + 1 := wr_in (by omega) (by omega)
    have w2 : wr .i64 (q : Int) = q := wr_in (by omega) (by omega)
    have ha := abc_at ⟨d, by omega⟩
    have hwr : wRef u = bs [97 + UInt8.ofNat d] ++ dec q := by
      unfold wRef; rw [if_pos hr, e2, e4]; simp
    have hsz : (bs [97 + UInt8.ofNat d]).size + (dec q).size < 4611686018427387904 := by
      have := dec_size (n := q) (by omega) (by omega)
      show 1 + _ < _; omega
    have hab : abc.size = 21 := by decide +kernel
    unfold abc at ha hab
    simp only at ha
    repeat' (first | intro _ | (simp [sx_skip, sx_ops, sx_seq, sx_cond, sx_block, sx_exit, sx_ret, sxl_nil, sxl_set, sxl_call, sxl_callv, sxl_g1, sxl_g2, sxl_g3, sxl_g4, OkS_true, GrdS_tt, GrdS_tf, GrdS_ft, GrdS_ff, CondS_t, CondS_f, then_n, then_e, then_r, blk_n, blk_e, blk_r, upd_app, Ex.ok, Ex.val, Opd.val, POp.dst, bin_int, binOK_int, bin_str, binOK_str, resOK, resV, RB.val, sub, putc, scB, scL, oneB, conf, Ex.val.eqP, Ex.val.eqL, negV, mxV, mnV, ← wr_eq, wr_zero, wr_one, wr_m1, bst_lst, byteC, partsOK, putAll, appV, slV, sslV, optB, optNum, and_assoc, exists_and_left, exists_eq_left', *]) | refine CallS_i (f33 q (by omega)) ?_ | refine CondS_d (fun h => ?_) (fun h => ?_) | refine CondS_b (fun h => ?_) (fun h => ?_) | refine GrdS_d (fun h => ?_) (fun h => ?_) | refine GrdS_b (fun h => ?_) (fun h => ?_) | refine OkS_i (by omega) ?_ | fail)
  · have hr : wRef n = bs [] := by unfold wRef; rw [if_neg (by simpa [inR] using h)]
    repeat' (first | intro _ | (simp [sx_skip, sx_ops, sx_seq, sx_cond, sx_block, sx_exit, sx_ret, sxl_nil, sxl_set, sxl_call, sxl_callv, sxl_g1, sxl_g2, sxl_g3, sxl_g4, OkS_true, GrdS_tt, GrdS_tf, GrdS_ft, GrdS_ff, CondS_t, CondS_f, then_n, then_e, then_r, blk_n, blk_e, blk_r, upd_app, Ex.ok, Ex.val, Opd.val, POp.dst, bin_int, binOK_int, bin_str, binOK_str, resOK, resV, RB.val, sub, putc, scB, scL, oneB, conf, Ex.val.eqP, Ex.val.eqL, negV, mxV, mnV, ← wr_eq, wr_zero, wr_one, wr_m1, bst_lst, byteC, partsOK, putAll, appV, slV, sslV, optB, optNum, and_assoc, exists_and_left, exists_eq_left', *]) | refine CondS_d (fun h => ?_) (fun h => ?_) | refine CondS_b (fun h => ?_) (fun h => ?_) | refine GrdS_d (fun h => ?_) (fun h => ?_) | refine GrdS_b (fun h => ?_) (fun h => ?_) | refine OkS_i (by omega) ?_ | fail)
def cap2 (x : Int) : Int := if (200 : Int) < x then 200 else x
def tbox (n : Int) : List PV := if 0 ≤ n ∧ n ≤ 440 then [i (n % 21 * 10), i (n / 21 * 10), i (cap2 (n % 21 * 10 + 10)), i (cap2 (n / 21 * 10 + 10))] else [i 0, i 0, i 0, i 0]
theorem f35 (n : Int) : Fn Tryd.prog 35 false [i n] (.tup [.agg (tbox n), .bool (inR n 0 440)]) := by
  refine Fn.by_sx hX (by kernel_rfl) c35 (by kernel_rfl) (by rfl) ?_
  simp [i35, sx_skip, sx_ops, sx_seq, sx_cond, sx_block, sx_exit, sx_ret, sxl_nil, sxl_set, sxl_call, sxl_callv, sxl_g1, sxl_g2, sxl_g3, sxl_g4, OkS_true, GrdS_tt, GrdS_tf, GrdS_ft, GrdS_ff, CondS_t, CondS_f, then_n, then_e, then_r, blk_n, blk_e, blk_r, upd_app, Ex.ok, Ex.val, Opd.val, POp.dst, bin_int, binOK_int, bin_str, binOK_str, resOK, resV, RB.val, sub, putc, scB, scL, oneB, conf, Ex.val.eqP, Ex.val.eqL, negV, mxV, mnV, ← wr_eq, wr_zero, wr_one, wr_m1, bst_lst, byteC, partsOK, putAll, appV, slV, sslV, optB, optNum, and_assoc, exists_and_left, exists_eq_left']
  by_cases hr : 0 ≤ n ∧ n ≤ 440
  · have h : inR n 0 440 = true := by simpa [inR] using hr
    have hc := f31 n 0 440
    rw [h] at hc
    have e1 : n.tmod 21 = n % 21 := Int.tmod_eq_emod_of_nonneg (by omega)
    have e3 : n.tdiv 21 = n / 21 := Int.tdiv_eq_ediv_of_nonneg (by omega)
    obtain ⟨d, hd, hd2⟩ : ∃ d, n % 21 = d ∧ 0 ≤ d ∧ d ≤ 20 := ⟨_, rfl, by omega⟩
    obtain ⟨q, hq, hq2⟩ : ∃ q, n / 21 = q ∧ 0 ≤ q ∧ q ≤ 20 := ⟨_, rfl, by omega⟩
    have ht : tbox n = [i (d * 10), i (q * 10), i (cap2 (d * 10 + 10)), i (cap2 (q * 10 + 10))] := by unfold tbox; rw [if_pos hr, hd, hq]
    rw [hd] at e1
    rw [hq] at e3
    have w0 : wr .i64 q = q := wr_in (by omega) (by omega)
    have w1 : wr .i64 (d * 10) = d * 10 := wr_in (by omega) (by omega)
    have w2 : wr .i64 (q * 10) = q * 10 := wr_in (by omega) (by omega)
    have w3 : wr .i64 (d * 10 + 10) = d * 10 + 10 := wr_in (by omega) (by omega)
    have w4 : wr .i64 (q * 10 + 10) = q * 10 + 10 := wr_in (by omega) (by omega)
    rw [h]
    repeat' (first | intro _ | (simp [sx_skip, sx_ops, sx_seq, sx_cond, sx_block, sx_exit, sx_ret, sxl_nil, sxl_set, sxl_call, sxl_callv, sxl_g1, sxl_g2, sxl_g3, sxl_g4, OkS_true, GrdS_tt, GrdS_tf, GrdS_ft, GrdS_ff, CondS_t, CondS_f, then_n, then_e, then_r, blk_n, blk_e, blk_r, upd_app, Ex.ok, Ex.val, Opd.val, POp.dst, bin_int, binOK_int, bin_str, binOK_str, resOK, resV, RB.val, sub, putc, scB, scL, oneB, conf, Ex.val.eqP, Ex.val.eqL, negV, mxV, mnV, ← wr_eq, wr_zero, wr_one, wr_m1, bst_lst, byteC, partsOK, putAll, appV, slV, sslV, optB, optNum, and_assoc, exists_and_left, exists_eq_left', cap2, *]) | refine CallS_i (hc) ?_ | refine CondS_d (fun h => ?_) (fun h => ?_) | refine CondS_b (fun h => ?_) (fun h => ?_) | refine GrdS_d (fun h => ?_) (fun h => ?_) | refine GrdS_b (fun h => ?_) (fun h => ?_) | refine OkS_i (by omega) ?_ | fail)
  · have h : inR n 0 440 = false := by simpa [inR] using fun h => by omega
    have hc := f31 n 0 440
    rw [h] at hc
    have ht : tbox n = [i 0, i 0, i 0, i 0] := by unfold tbox; rw [if_neg hr]
    rw [h]
    repeat' (first | intro _ | (simp [sx_skip, sx_ops, sx_seq, sx_cond, sx_block, sx_exit, sx_ret, sxl_nil, sxl_set, sxl_call, sxl_callv, sxl_g1, sxl_g2, sxl_g3, sxl_g4, OkS_true, GrdS_tt, GrdS_tf, GrdS_ft, GrdS_ff, CondS_t, CondS_f, then_n, then_e, then_r, blk_n, blk_e, blk_r, upd_app, Ex.ok, Ex.val, Opd.val, POp.dst, bin_int, binOK_int, bin_str, binOK_str, resOK, resV, RB.val, sub, putc, scB, scL, oneB, conf, Ex.val.eqP, Ex.val.eqL, negV, mxV, mnV, ← wr_eq, wr_zero, wr_one, wr_m1, bst_lst, byteC, partsOK, putAll, appV, slV, sslV, optB, optNum, and_assoc, exists_and_left, exists_eq_left', *]) | refine CallS_i (hc) ?_ | refine CondS_d (fun h => ?_) (fun h => ?_) | refine CondS_b (fun h => ?_) (fun h => ?_) | refine GrdS_d (fun h => ?_) (fun h => ?_) | refine GrdS_b (fun h => ?_) (fun h => ?_) | refine OkS_i (by omega) ?_ | fail)
theorem tbox_4 (n : Int) : ∃ a b c d : Int, tbox n = [i a, i b, i c, i d] := by
  unfold tbox; split <;> exact ⟨_, _, _, _, rfl⟩
theorem f20 (n : Int) : Fn Tryd.prog 20 false [i n] (.str (wRef n)) := by
  have hc := f35 n
  obtain ⟨b0, b1, b2, b3, hb⟩ := tbox_4 n
  rw [hb] at hc
  refine Fn.by_sx hX (by kernel_rfl) c20 (by kernel_rfl) (by rfl) ?_
  simp [i20, sx_skip, sx_ops, sx_seq, sx_cond, sx_block, sx_exit, sx_ret, sxl_nil, sxl_set, sxl_call, sxl_callv, sxl_g1, sxl_g2, sxl_g3, sxl_g4, OkS_true, GrdS_tt, GrdS_tf, GrdS_ft, GrdS_ff, CondS_t, CondS_f, then_n, then_e, then_r, blk_n, blk_e, blk_r, upd_app, Ex.ok, Ex.val, Opd.val, POp.dst, bin_int, binOK_int, bin_str, binOK_str, resOK, resV, RB.val, sub, putc, scB, scL, oneB, conf, Ex.val.eqP, Ex.val.eqL, negV, mxV, mnV, ← wr_eq, wr_zero, wr_one, wr_m1, bst_lst, byteC, partsOK, putAll, appV, slV, sslV, optB, optNum, and_assoc, exists_and_left, exists_eq_left']
  by_cases hr : 0 ≤ n ∧ n ≤ 440
  · have h : inR n 0 440 = true := by simpa [inR] using hr
    rw [h] at hc
    obtain ⟨u, rfl⟩ : ∃ u : Nat, n = u := ⟨n.toNat, by omega⟩
    obtain ⟨d, hd⟩ : ∃ d, u % 21 = d := ⟨_, rfl⟩
    obtain ⟨q, hq⟩ : ∃ q, u / 21 = q := ⟨_, rfl⟩
    have e1 : (u : Int).tmod 21 = d := by rw [Int.tmod_eq_emod_of_nonneg (by omega)]; omega
    have e2 : (u : Int) % 21 = d := by omega
    have e3 : (u : Int).tdiv 21 = q := by rw [Int.tdiv_eq_ediv_of_nonneg (by omega)]; omega
    have e4 : (u : Int) / 21 = q := by omega
    have w1 : wr .i64 (97 + (d : Int)) = 97 + d := wr_in (by omega) (by omega)
    have w3 : wr .u8 (97 + (d : Int)) = 97 + d := wr_u8 (by omega) (by omega)
    have w2 : wr .i64 (q : Int) = q := wr_in (by omega) (by omega)
    have hwr : wRef u = bs [97 + UInt8.ofNat d] ++ dec q := by
      unfold wRef; rw [if_pos hr, e2, e4]; simp
    have hbb : (97 + (d : Int)).toNat = 97 + d := by omega
    have hsz : (bs [97 + UInt8.ofNat d]).size + (dec q).size < 4611686018427387904 := by
      have := dec_size (n := q) (by omega) (by omega)
      show 1 + _ < _; omega
    repeat' (first | intro _ | (simp [sx_skip, sx_ops, sx_seq, sx_cond, sx_block, sx_exit, sx_ret, sxl_nil, sxl_set, sxl_call, sxl_callv, sxl_g1, sxl_g2, sxl_g3, sxl_g4, OkS_true, GrdS_tt, GrdS_tf, GrdS_ft, GrdS_ff, CondS_t, CondS_f, then_n, then_e, then_r, blk_n, blk_e, blk_r, upd_app, Ex.ok, Ex.val, Opd.val, POp.dst, bin_int, binOK_int, bin_str, binOK_str, resOK, resV, RB.val, sub, putc, scB, scL, oneB, conf, Ex.val.eqP, Ex.val.eqL, negV, mxV, mnV, ← wr_eq, wr_zero, wr_one, wr_m1, bst_lst, byteC, partsOK, putAll, appV, slV, sslV, optB, optNum, and_assoc, exists_and_left, exists_eq_left', *]) | refine CallS_i (hc) ?_ | refine CallS_i (f30 q (by omega) (by omega)) ?_ | refine CondS_d (fun h => ?_) (fun h => ?_) | refine CondS_b (fun h => ?_) (fun h => ?_) | refine GrdS_d (fun h => ?_) (fun h => ?_) | refine GrdS_b (fun h => ?_) (fun h => ?_) | refine OkS_i (by omega) ?_ | fail)
    refine OkS_i ⟨[97 + (d : Int)], rfl⟩ ?_
    repeat' (first | intro _ | (simp [sx_skip, sx_ops, sx_seq, sx_cond, sx_block, sx_exit, sx_ret, sxl_nil, sxl_set, sxl_call, sxl_callv, sxl_g1, sxl_g2, sxl_g3, sxl_g4, OkS_true, GrdS_tt, GrdS_tf, GrdS_ft, GrdS_ff, CondS_t, CondS_f, then_n, then_e, then_r, blk_n, blk_e, blk_r, upd_app, Ex.ok, Ex.val, Opd.val, POp.dst, bin_int, binOK_int, bin_str, binOK_str, resOK, resV, RB.val, sub, putc, scB, scL, oneB, conf, Ex.val.eqP, Ex.val.eqL, negV, mxV, mnV, ← wr_eq, wr_zero, wr_one, wr_m1, bst_lst, byteC, partsOK, putAll, appV, slV, sslV, optB, optNum, and_assoc, exists_and_left, exists_eq_left', *]) | refine CallS_i (hc) ?_ | refine CallS_i (f30 q (by omega) (by omega)) ?_ | refine CondS_d (fun h => ?_) (fun h => ?_) | refine CondS_b (fun h => ?_) (fun h => ?_) | refine GrdS_d (fun h => ?_) (fun h => ?_) | refine GrdS_b (fun h => ?_) (fun h => ?_) | refine OkS_i (by omega) ?_ | fail)
  · have h : inR n 0 440 = false := by simpa [inR] using fun h => by omega
    rw [h] at hc
    have hwr : wRef n = bs [] := by unfold wRef; rw [if_neg hr]
    repeat' (first | intro _ | (simp [sx_skip, sx_ops, sx_seq, sx_cond, sx_block, sx_exit, sx_ret, sxl_nil, sxl_set, sxl_call, sxl_callv, sxl_g1, sxl_g2, sxl_g3, sxl_g4, OkS_true, GrdS_tt, GrdS_tf, GrdS_ft, GrdS_ff, CondS_t, CondS_f, then_n, then_e, then_r, blk_n, blk_e, blk_r, upd_app, Ex.ok, Ex.val, Opd.val, POp.dst, bin_int, binOK_int, bin_str, binOK_str, resOK, resV, RB.val, sub, putc, scB, scL, oneB, conf, Ex.val.eqP, Ex.val.eqL, negV, mxV, mnV, ← wr_eq, wr_zero, wr_one, wr_m1, bst_lst, byteC, partsOK, putAll, appV, slV, sslV, optB, optNum, and_assoc, exists_and_left, exists_eq_left', *]) | refine CallS_i (hc) ?_ | refine CondS_d (fun h => ?_) (fun h => ?_) | refine CondS_b (fun h => ?_) (fun h => ?_) | refine GrdS_d (fun h => ?_) (fun h => ?_) | refine GrdS_b (fun h => ?_) (fun h => ?_) | refine OkS_i (by omega) ?_ | fail)
def isP (x y : Int) : Bool := inR x 0 200 && inR y 0 200
theorem f42 (x y : Int) : Fn Tryd.prog 42 false [.agg [i x, i y]] (.bool (isP x y)) := by
  refine Fn.by_sx hX (by kernel_rfl) c42 (by kernel_rfl) (by rfl) ?_
  simp [i42, sx_skip, sx_ops, sx_seq, sx_cond, sx_block, sx_exit, sx_ret, sxl_nil, sxl_set, sxl_call, sxl_callv, sxl_g1, sxl_g2, sxl_g3, sxl_g4, OkS_true, GrdS_tt, GrdS_tf, GrdS_ft, GrdS_ff, CondS_t, CondS_f, then_n, then_e, then_r, blk_n, blk_e, blk_r, upd_app, Ex.ok, Ex.val, Opd.val, POp.dst, bin_int, binOK_int, bin_str, binOK_str, resOK, resV, RB.val, sub, putc, scB, scL, oneB, conf, Ex.val.eqP, Ex.val.eqL, negV, mxV, mnV, ← wr_eq, wr_zero, wr_one, wr_m1, bst_lst, byteC, partsOK, putAll, appV, slV, sslV, optB, optNum, and_assoc, exists_and_left, exists_eq_left']
  repeat' (first | intro _ | (simp [sx_skip, sx_ops, sx_seq, sx_cond, sx_block, sx_exit, sx_ret, sxl_nil, sxl_set, sxl_call, sxl_callv, sxl_g1, sxl_g2, sxl_g3, sxl_g4, OkS_true, GrdS_tt, GrdS_tf, GrdS_ft, GrdS_ff, CondS_t, CondS_f, then_n, then_e, then_r, blk_n, blk_e, blk_r, upd_app, Ex.ok, Ex.val, Opd.val, POp.dst, bin_int, binOK_int, bin_str, binOK_str, resOK, resV, RB.val, sub, putc, scB, scL, oneB, conf, Ex.val.eqP, Ex.val.eqL, negV, mxV, mnV, ← wr_eq, wr_zero, wr_one, wr_m1, bst_lst, byteC, partsOK, putAll, appV, slV, sslV, optB, optNum, and_assoc, exists_and_left, exists_eq_left', *]) | refine CallS_b (f34 _ _ _) (fun h => ?_) (fun h => ?_) | refine CondS_d (fun h => ?_) (fun h => ?_) | refine CondS_b (fun h => ?_) (fun h => ?_) | refine GrdS_d (fun h => ?_) (fun h => ?_) | refine GrdS_b (fun h => ?_) (fun h => ?_) | refine OkS_i (by omega) ?_ | fail)
  all_goals simp_all [isP]

theorem f43 (x y : Int) : Fn Tryd.prog 43 false [.agg [i x, i y]] (.bool (isP x y)) := by
  refine Fn.by_sx hX (by kernel_rfl) c43 (by kernel_rfl) (by rfl) ?_
  simp [i43, sx_skip, sx_ops, sx_seq, sx_cond, sx_block, sx_exit, sx_ret, sxl_nil, sxl_set, sxl_call, sxl_callv, sxl_g1, sxl_g2, sxl_g3, sxl_g4, OkS_true, GrdS_tt, GrdS_tf, GrdS_ft, GrdS_ff, CondS_t, CondS_f, then_n, then_e, then_r, blk_n, blk_e, blk_r, upd_app, Ex.ok, Ex.val, Opd.val, POp.dst, bin_int, binOK_int, bin_str, binOK_str, resOK, resV, RB.val, sub, putc, scB, scL, oneB, conf, Ex.val.eqP, Ex.val.eqL, negV, mxV, mnV, ← wr_eq, wr_zero, wr_one, wr_m1, bst_lst, byteC, partsOK, putAll, appV, slV, sslV, optB, optNum, and_assoc, exists_and_left, exists_eq_left']
  repeat' (first | intro _ | (simp [sx_skip, sx_ops, sx_seq, sx_cond, sx_block, sx_exit, sx_ret, sxl_nil, sxl_set, sxl_call, sxl_callv, sxl_g1, sxl_g2, sxl_g3, sxl_g4, OkS_true, GrdS_tt, GrdS_tf, GrdS_ft, GrdS_ff, CondS_t, CondS_f, then_n, then_e, then_r, blk_n, blk_e, blk_r, upd_app, Ex.ok, Ex.val, Opd.val, POp.dst, bin_int, binOK_int, bin_str, binOK_str, resOK, resV, RB.val, sub, putc, scB, scL, oneB, conf, Ex.val.eqP, Ex.val.eqL, negV, mxV, mnV, ← wr_eq, wr_zero, wr_one, wr_m1, bst_lst, byteC, partsOK, putAll, appV, slV, sslV, optB, optNum, and_assoc, exists_and_left, exists_eq_left', *]) | refine CallS_b (f31 _ _ _) (fun h => ?_) (fun h => ?_) | refine CondS_d (fun h => ?_) (fun h => ?_) | refine CondS_b (fun h => ?_) (fun h => ?_) | refine GrdS_d (fun h => ?_) (fun h => ?_) | refine GrdS_b (fun h => ?_) (fun h => ?_) | refine OkS_i (by omega) ?_ | fail)
  all_goals simp_all [isP]
def wTile (x y : Int) : Int := if isP x y = true then y / 10 * 21 + x / 10 else -1
theorem f36 (x y : Int) : Fn Tryd.prog 36 false [.agg [i x, i y]] (i (wTile x y)) := by
  refine Fn.by_sx hX (by kernel_rfl) c36 (by kernel_rfl) (by rfl) ?_
  simp [i36, sx_skip, sx_ops, sx_seq, sx_cond, sx_block, sx_exit, sx_ret, sxl_nil, sxl_set, sxl_call, sxl_callv, sxl_g1, sxl_g2, sxl_g3, sxl_g4, OkS_true, GrdS_tt, GrdS_tf, GrdS_ft, GrdS_ff, CondS_t, CondS_f, then_n, then_e, then_r, blk_n, blk_e, blk_r, upd_app, Ex.ok, Ex.val, Opd.val, POp.dst, bin_int, binOK_int, bin_str, binOK_str, resOK, resV, RB.val, sub, putc, scB, scL, oneB, conf, Ex.val.eqP, Ex.val.eqL, negV, mxV, mnV, ← wr_eq, wr_zero, wr_one, wr_m1, bst_lst, byteC, partsOK, putAll, appV, slV, sslV, optB, optNum, and_assoc, exists_and_left, exists_eq_left']
  by_cases h : isP x y = true
  · have hr : (0 ≤ x ∧ x ≤ 200) ∧ (0 ≤ y ∧ y ≤ 200) := by simpa [isP, inR] using h
    have ht : wTile x y = y / 10 * 21 + x / 10 := by unfold wTile; rw [if_pos h]
    have e1 : y.tdiv 10 = y / 10 := Int.tdiv_eq_ediv_of_nonneg (by omega)
    have e2 : x.tdiv 10 = x / 10 := Int.tdiv_eq_ediv_of_nonneg (by omega)
    obtain ⟨p, hp⟩ : ∃ p, y / 10 = p := ⟨_, rfl⟩
    obtain ⟨q, hq⟩ : ∃ q, x / 10 = q := ⟨_, rfl⟩
    rw [hp] at e1
    rw [hq] at e2
    have w0 : wr .i64 p = p := wr_in (by omega) (by omega)
    have w1 : wr .i64 q = q := wr_in (by omega) (by omega)
    have w2 : wr .i64 (p * 21) = p * 21 := wr_in (by omega) (by omega)
    have w3 : wr .i64 (p * 21 + q) = p * 21 + q := wr_in (by omega) (by omega)
    have hc := f42 x y
    rw [h] at hc
    repeat' (first | intro _ | (simp [sx_skip, sx_ops, sx_seq, sx_cond, sx_block, sx_exit, sx_ret, sxl_nil, sxl_set, sxl_call, sxl_callv, sxl_g1, sxl_g2, sxl_g3, sxl_g4, OkS_true, GrdS_tt, GrdS_tf, GrdS_ft, GrdS_ff, CondS_t, CondS_f, then_n, then_e, then_r, blk_n, blk_e, blk_r, upd_app, Ex.ok, Ex.val, Opd.val, POp.dst, bin_int, binOK_int, bin_str, binOK_str, resOK, resV, RB.val, sub, putc, scB, scL, oneB, conf, Ex.val.eqP, Ex.val.eqL, negV, mxV, mnV, ← wr_eq, wr_zero, wr_one, wr_m1, bst_lst, byteC, partsOK, putAll, appV, slV, sslV, optB, optNum, and_assoc, exists_and_left, exists_eq_left', *]) | refine CallS_i (hc) ?_ | refine CondS_d (fun h => ?_) (fun h => ?_) | refine CondS_b (fun h => ?_) (fun h => ?_) | refine GrdS_d (fun h => ?_) (fun h => ?_) | refine GrdS_b (fun h => ?_) (fun h => ?_) | refine OkS_i (by omega) ?_ | fail)
  · have ht : wTile x y = -1 := by unfold wTile; rw [if_neg h]
    have hc := f42 x y
    rw [show isP x y = false by simpa using h] at hc
    repeat' (first | intro _ | (simp [sx_skip, sx_ops, sx_seq, sx_cond, sx_block, sx_exit, sx_ret, sxl_nil, sxl_set, sxl_call, sxl_callv, sxl_g1, sxl_g2, sxl_g3, sxl_g4, OkS_true, GrdS_tt, GrdS_tf, GrdS_ft, GrdS_ff, CondS_t, CondS_f, then_n, then_e, then_r, blk_n, blk_e, blk_r, upd_app, Ex.ok, Ex.val, Opd.val, POp.dst, bin_int, binOK_int, bin_str, binOK_str, resOK, resV, RB.val, sub, putc, scB, scL, oneB, conf, Ex.val.eqP, Ex.val.eqL, negV, mxV, mnV, ← wr_eq, wr_zero, wr_one, wr_m1, bst_lst, byteC, partsOK, putAll, appV, slV, sslV, optB, optNum, and_assoc, exists_and_left, exists_eq_left', *]) | refine CallS_i (hc) ?_ | refine CondS_d (fun h => ?_) (fun h => ?_) | refine CondS_b (fun h => ?_) (fun h => ?_) | refine GrdS_d (fun h => ?_) (fun h => ?_) | refine GrdS_b (fun h => ?_) (fun h => ?_) | refine OkS_i (by omega) ?_ | fail)

theorem f37 (x y : Int) : Fn Tryd.prog 37 false [.agg [i x, i y]] (i (wTile x y)) := by
  refine Fn.by_sx hX (by kernel_rfl) c37 (by kernel_rfl) (by rfl) ?_
  simp [i37, sx_skip, sx_ops, sx_seq, sx_cond, sx_block, sx_exit, sx_ret, sxl_nil, sxl_set, sxl_call, sxl_callv, sxl_g1, sxl_g2, sxl_g3, sxl_g4, OkS_true, GrdS_tt, GrdS_tf, GrdS_ft, GrdS_ff, CondS_t, CondS_f, then_n, then_e, then_r, blk_n, blk_e, blk_r, upd_app, Ex.ok, Ex.val, Opd.val, POp.dst, bin_int, binOK_int, bin_str, binOK_str, resOK, resV, RB.val, sub, putc, scB, scL, oneB, conf, Ex.val.eqP, Ex.val.eqL, negV, mxV, mnV, ← wr_eq, wr_zero, wr_one, wr_m1, bst_lst, byteC, partsOK, putAll, appV, slV, sslV, optB, optNum, and_assoc, exists_and_left, exists_eq_left']
  by_cases h : isP x y = true
  · have hr : (0 ≤ x ∧ x ≤ 200) ∧ (0 ≤ y ∧ y ≤ 200) := by simpa [isP, inR] using h
    have ht : wTile x y = y / 10 * 21 + x / 10 := by unfold wTile; rw [if_pos h]
    have e1 : y.tdiv 10 = y / 10 := Int.tdiv_eq_ediv_of_nonneg (by omega)
    have e2 : x.tdiv 10 = x / 10 := Int.tdiv_eq_ediv_of_nonneg (by omega)
    obtain ⟨p, hp⟩ : ∃ p, y / 10 = p := ⟨_, rfl⟩
    obtain ⟨q, hq⟩ : ∃ q, x / 10 = q := ⟨_, rfl⟩
    rw [hp] at e1
    rw [hq] at e2
    have w0 : wr .i64 p = p := wr_in (by omega) (by omega)
    have w1 : wr .i64 q = q := wr_in (by omega) (by omega)
    have w2 : wr .i64 (p * 21) = p * 21 := wr_in (by omega) (by omega)
    have w3 : wr .i64 (p * 21 + q) = p * 21 + q := wr_in (by omega) (by omega)
    have hc := f43 x y
    rw [h] at hc
    repeat' (first | intro _ | (simp [sx_skip, sx_ops, sx_seq, sx_cond, sx_block, sx_exit, sx_ret, sxl_nil, sxl_set, sxl_call, sxl_callv, sxl_g1, sxl_g2, sxl_g3, sxl_g4, OkS_true, GrdS_tt, GrdS_tf, GrdS_ft, GrdS_ff, CondS_t, CondS_f, then_n, then_e, then_r, blk_n, blk_e, blk_r, upd_app, Ex.ok, Ex.val, Opd.val, POp.dst, bin_int, binOK_int, bin_str, binOK_str, resOK, resV, RB.val, sub, putc, scB, scL, oneB, conf, Ex.val.eqP, Ex.val.eqL, negV, mxV, mnV, ← wr_eq, wr_zero, wr_one, wr_m1, bst_lst, byteC, partsOK, putAll, appV, slV, sslV, optB, optNum, and_assoc, exists_and_left, exists_eq_left', *]) | refine CallS_i (hc) ?_ | refine CondS_d (fun h => ?_) (fun h => ?_) | refine CondS_b (fun h => ?_) (fun h => ?_) | refine GrdS_d (fun h => ?_) (fun h => ?_) | refine GrdS_b (fun h => ?_) (fun h => ?_) | refine OkS_i (by omega) ?_ | fail)
  · have ht : wTile x y = -1 := by unfold wTile; rw [if_neg h]
    have hc := f43 x y
    rw [show isP x y = false by simpa using h] at hc
    repeat' (first | intro _ | (simp [sx_skip, sx_ops, sx_seq, sx_cond, sx_block, sx_exit, sx_ret, sxl_nil, sxl_set, sxl_call, sxl_callv, sxl_g1, sxl_g2, sxl_g3, sxl_g4, OkS_true, GrdS_tt, GrdS_tf, GrdS_ft, GrdS_ff, CondS_t, CondS_f, then_n, then_e, then_r, blk_n, blk_e, blk_r, upd_app, Ex.ok, Ex.val, Opd.val, POp.dst, bin_int, binOK_int, bin_str, binOK_str, resOK, resV, RB.val, sub, putc, scB, scL, oneB, conf, Ex.val.eqP, Ex.val.eqL, negV, mxV, mnV, ← wr_eq, wr_zero, wr_one, wr_m1, bst_lst, byteC, partsOK, putAll, appV, slV, sslV, optB, optNum, and_assoc, exists_and_left, exists_eq_left', *]) | refine CallS_i (hc) ?_ | refine CondS_d (fun h => ?_) (fun h => ?_) | refine CondS_b (fun h => ?_) (fun h => ?_) | refine GrdS_d (fun h => ?_) (fun h => ?_) | refine GrdS_b (fun h => ?_) (fun h => ?_) | refine OkS_i (by omega) ?_ | fail)
theorem f23 (x y : Int) : Fn Tryd.prog 23 false [.agg [i x, i y]] (.str (wRef (wTile x y))) := by
  refine Fn.by_sx hX (by kernel_rfl) c23 (by kernel_rfl) (by rfl) ?_
  simp [i23, sx_skip, sx_ops, sx_seq, sx_cond, sx_block, sx_exit, sx_ret, sxl_nil, sxl_set, sxl_call, sxl_callv, sxl_g1, sxl_g2, sxl_g3, sxl_g4, OkS_true, GrdS_tt, GrdS_tf, GrdS_ft, GrdS_ff, CondS_t, CondS_f, then_n, then_e, then_r, blk_n, blk_e, blk_r, upd_app, Ex.ok, Ex.val, Opd.val, POp.dst, bin_int, binOK_int, bin_str, binOK_str, resOK, resV, RB.val, sub, putc, scB, scL, oneB, conf, Ex.val.eqP, Ex.val.eqL, negV, mxV, mnV, ← wr_eq, wr_zero, wr_one, wr_m1, bst_lst, byteC, partsOK, putAll, appV, slV, sslV, optB, optNum, and_assoc, exists_and_left, exists_eq_left']
  repeat' (first | intro _ | (simp [sx_skip, sx_ops, sx_seq, sx_cond, sx_block, sx_exit, sx_ret, sxl_nil, sxl_set, sxl_call, sxl_callv, sxl_g1, sxl_g2, sxl_g3, sxl_g4, OkS_true, GrdS_tt, GrdS_tf, GrdS_ft, GrdS_ff, CondS_t, CondS_f, then_n, then_e, then_r, blk_n, blk_e, blk_r, upd_app, Ex.ok, Ex.val, Opd.val, POp.dst, bin_int, binOK_int, bin_str, binOK_str, resOK, resV, RB.val, sub, putc, scB, scL, oneB, conf, Ex.val.eqP, Ex.val.eqL, negV, mxV, mnV, ← wr_eq, wr_zero, wr_one, wr_m1, bst_lst, byteC, partsOK, putAll, appV, slV, sslV, optB, optNum, and_assoc, exists_and_left, exists_eq_left', *]) | refine CallS_i (f36 _ _) ?_ | refine CallS_i (f19 _) ?_ | refine CondS_d (fun h => ?_) (fun h => ?_) | refine CondS_b (fun h => ?_) (fun h => ?_) | refine GrdS_d (fun h => ?_) (fun h => ?_) | refine GrdS_b (fun h => ?_) (fun h => ?_) | refine OkS_i (by omega) ?_ | fail)

theorem f25 (x y : Int) : Fn Tryd.prog 25 false [.agg [i x, i y]] (.str (wRef (wTile x y))) := by
  refine Fn.by_sx hX (by kernel_rfl) c25 (by kernel_rfl) (by rfl) ?_
  simp [i25, sx_skip, sx_ops, sx_seq, sx_cond, sx_block, sx_exit, sx_ret, sxl_nil, sxl_set, sxl_call, sxl_callv, sxl_g1, sxl_g2, sxl_g3, sxl_g4, OkS_true, GrdS_tt, GrdS_tf, GrdS_ft, GrdS_ff, CondS_t, CondS_f, then_n, then_e, then_r, blk_n, blk_e, blk_r, upd_app, Ex.ok, Ex.val, Opd.val, POp.dst, bin_int, binOK_int, bin_str, binOK_str, resOK, resV, RB.val, sub, putc, scB, scL, oneB, conf, Ex.val.eqP, Ex.val.eqL, negV, mxV, mnV, ← wr_eq, wr_zero, wr_one, wr_m1, bst_lst, byteC, partsOK, putAll, appV, slV, sslV, optB, optNum, and_assoc, exists_and_left, exists_eq_left']
  repeat' (first | intro _ | (simp [sx_skip, sx_ops, sx_seq, sx_cond, sx_block, sx_exit, sx_ret, sxl_nil, sxl_set, sxl_call, sxl_callv, sxl_g1, sxl_g2, sxl_g3, sxl_g4, OkS_true, GrdS_tt, GrdS_tf, GrdS_ft, GrdS_ff, CondS_t, CondS_f, then_n, then_e, then_r, blk_n, blk_e, blk_r, upd_app, Ex.ok, Ex.val, Opd.val, POp.dst, bin_int, binOK_int, bin_str, binOK_str, resOK, resV, RB.val, sub, putc, scB, scL, oneB, conf, Ex.val.eqP, Ex.val.eqL, negV, mxV, mnV, ← wr_eq, wr_zero, wr_one, wr_m1, bst_lst, byteC, partsOK, putAll, appV, slV, sslV, optB, optNum, and_assoc, exists_and_left, exists_eq_left', *]) | refine CallS_i (f37 _ _) ?_ | refine CallS_i (f20 _) ?_ | refine CondS_d (fun h => ?_) (fun h => ?_) | refine CondS_b (fun h => ?_) (fun h => ?_) | refine GrdS_d (fun h => ?_) (fun h => ?_) | refine GrdS_b (fun h => ?_) (fun h => ?_) | refine OkS_i (by omega) ?_ | fail)
theorem f24 (x y : Int) : Fn Tryd.prog 24 false [.agg [i x, i y]] (.agg [i x, i y]) := by
  refine Fn.by_sx hX (by kernel_rfl) c24 (by kernel_rfl) (by rfl) ?_
  simp [i24, sx_skip, sx_ops, sx_seq, sx_cond, sx_block, sx_exit, sx_ret, sxl_nil, sxl_set, sxl_call, sxl_callv, sxl_g1, sxl_g2, sxl_g3, sxl_g4, OkS_true, GrdS_tt, GrdS_tf, GrdS_ft, GrdS_ff, CondS_t, CondS_f, then_n, then_e, then_r, blk_n, blk_e, blk_r, upd_app, Ex.ok, Ex.val, Opd.val, POp.dst, bin_int, binOK_int, bin_str, binOK_str, resOK, resV, RB.val, sub, putc, scB, scL, oneB, conf, Ex.val.eqP, Ex.val.eqL, negV, mxV, mnV, ← wr_eq, wr_zero, wr_one, wr_m1, bst_lst, byteC, partsOK, putAll, appV, slV, sslV, optB, optNum, and_assoc, exists_and_left, exists_eq_left']
/-! the laws -/
theorem f3 (n : Int) (h1 : n ≤ 9223372036854775807) : Fn Tryd.prog 3 false [i n] (.bool true) := by
  refine Fn.by_sx hX (by kernel_rfl) c3 (by kernel_rfl) (by rfl) ?_
  simp [i3, sx_skip, sx_ops, sx_seq, sx_cond, sx_block, sx_exit, sx_ret, sxl_nil, sxl_set, sxl_call, sxl_callv, sxl_g1, sxl_g2, sxl_g3, sxl_g4, OkS_true, GrdS_tt, GrdS_tf, GrdS_ft, GrdS_ff, CondS_t, CondS_f, then_n, then_e, then_r, blk_n, blk_e, blk_r, upd_app, Ex.ok, Ex.val, Opd.val, POp.dst, bin_int, binOK_int, bin_str, binOK_str, resOK, resV, RB.val, sub, putc, scB, scL, oneB, conf, Ex.val.eqP, Ex.val.eqL, negV, mxV, mnV, ← wr_eq, wr_zero, wr_one, wr_m1, bst_lst, byteC, partsOK, putAll, appV, slV, sslV, optB, optNum, and_assoc, exists_and_left, exists_eq_left']
  repeat' (first | intro _ | (simp [sx_skip, sx_ops, sx_seq, sx_cond, sx_block, sx_exit, sx_ret, sxl_nil, sxl_set, sxl_call, sxl_callv, sxl_g1, sxl_g2, sxl_g3, sxl_g4, OkS_true, GrdS_tt, GrdS_tf, GrdS_ft, GrdS_ff, CondS_t, CondS_f, then_n, then_e, then_r, blk_n, blk_e, blk_r, upd_app, Ex.ok, Ex.val, Opd.val, POp.dst, bin_int, binOK_int, bin_str, binOK_str, resOK, resV, RB.val, sub, putc, scB, scL, oneB, conf, Ex.val.eqP, Ex.val.eqL, negV, mxV, mnV, ← wr_eq, wr_zero, wr_one, wr_m1, bst_lst, byteC, partsOK, putAll, appV, slV, sslV, optB, optNum, and_assoc, exists_and_left, exists_eq_left', *]) | refine CallS_i (f11 n h1) ?_ | refine CallS_i (f12 n h1) ?_ | refine CondS_d (fun h => ?_) (fun h => ?_) | refine CondS_b (fun h => ?_) (fun h => ?_) | refine GrdS_d (fun h => ?_) (fun h => ?_) | refine GrdS_b (fun h => ?_) (fun h => ?_) | refine OkS_i (by omega) ?_ | fail)
theorem f4 (n : Int) (h0 : -9223372036854775808 ≤ n) (h1 : n ≤ 9223372036854775807) : Fn Tryd.prog 4 false [i n] (.bool true) := by
  refine Fn.by_sx hX (by kernel_rfl) c4 (by kernel_rfl) (by rfl) ?_
  simp [i4, sx_skip, sx_ops, sx_seq, sx_cond, sx_block, sx_exit, sx_ret, sxl_nil, sxl_set, sxl_call, sxl_callv, sxl_g1, sxl_g2, sxl_g3, sxl_g4, OkS_true, GrdS_tt, GrdS_tf, GrdS_ft, GrdS_ff, CondS_t, CondS_f, then_n, then_e, then_r, blk_n, blk_e, blk_r, upd_app, Ex.ok, Ex.val, Opd.val, POp.dst, bin_int, binOK_int, bin_str, binOK_str, resOK, resV, RB.val, sub, putc, scB, scL, oneB, conf, Ex.val.eqP, Ex.val.eqL, negV, mxV, mnV, ← wr_eq, wr_zero, wr_one, wr_m1, bst_lst, byteC, partsOK, putAll, appV, slV, sslV, optB, optNum, and_assoc, exists_and_left, exists_eq_left']
  repeat' (first | intro _ | (simp [sx_skip, sx_ops, sx_seq, sx_cond, sx_block, sx_exit, sx_ret, sxl_nil, sxl_set, sxl_call, sxl_callv, sxl_g1, sxl_g2, sxl_g3, sxl_g4, OkS_true, GrdS_tt, GrdS_tf, GrdS_ft, GrdS_ff, CondS_t, CondS_f, then_n, then_e, then_r, blk_n, blk_e, blk_r, upd_app, Ex.ok, Ex.val, Opd.val, POp.dst, bin_int, binOK_int, bin_str, binOK_str, resOK, resV, RB.val, sub, putc, scB, scL, oneB, conf, Ex.val.eqP, Ex.val.eqL, negV, mxV, mnV, ← wr_eq, wr_zero, wr_one, wr_m1, bst_lst, byteC, partsOK, putAll, appV, slV, sslV, optB, optNum, and_assoc, exists_and_left, exists_eq_left', *]) | refine CallS_i (f13 n h0) ?_ | refine CallS_i (f14 n h1) ?_ | refine CondS_d (fun h => ?_) (fun h => ?_) | refine CondS_b (fun h => ?_) (fun h => ?_) | refine GrdS_d (fun h => ?_) (fun h => ?_) | refine GrdS_b (fun h => ?_) (fun h => ?_) | refine OkS_i (by omega) ?_ | fail)
theorem f5 (n : Int) (h1 : n ≤ 9223372036854775807) : Fn Tryd.prog 5 false [i n] (.bool true) := by
  refine Fn.by_sx hX (by kernel_rfl) c5 (by kernel_rfl) (by rfl) ?_
  simp [i5, sx_skip, sx_ops, sx_seq, sx_cond, sx_block, sx_exit, sx_ret, sxl_nil, sxl_set, sxl_call, sxl_callv, sxl_g1, sxl_g2, sxl_g3, sxl_g4, OkS_true, GrdS_tt, GrdS_tf, GrdS_ft, GrdS_ff, CondS_t, CondS_f, then_n, then_e, then_r, blk_n, blk_e, blk_r, upd_app, Ex.ok, Ex.val, Opd.val, POp.dst, bin_int, binOK_int, bin_str, binOK_str, resOK, resV, RB.val, sub, putc, scB, scL, oneB, conf, Ex.val.eqP, Ex.val.eqL, negV, mxV, mnV, ← wr_eq, wr_zero, wr_one, wr_m1, bst_lst, byteC, partsOK, putAll, appV, slV, sslV, optB, optNum, and_assoc, exists_and_left, exists_eq_left']
  repeat' (first | intro _ | (simp [sx_skip, sx_ops, sx_seq, sx_cond, sx_block, sx_exit, sx_ret, sxl_nil, sxl_set, sxl_call, sxl_callv, sxl_g1, sxl_g2, sxl_g3, sxl_g4, OkS_true, GrdS_tt, GrdS_tf, GrdS_ft, GrdS_ff, CondS_t, CondS_f, then_n, then_e, then_r, blk_n, blk_e, blk_r, upd_app, Ex.ok, Ex.val, Opd.val, POp.dst, bin_int, binOK_int, bin_str, binOK_str, resOK, resV, RB.val, sub, putc, scB, scL, oneB, conf, Ex.val.eqP, Ex.val.eqL, negV, mxV, mnV, ← wr_eq, wr_zero, wr_one, wr_m1, bst_lst, byteC, partsOK, putAll, appV, slV, sslV, optB, optNum, and_assoc, exists_and_left, exists_eq_left', *]) | refine CallS_i (f15 n h1) ?_ | refine CallS_i (f16 n h1) ?_ | refine CondS_d (fun h => ?_) (fun h => ?_) | refine CondS_b (fun h => ?_) (fun h => ?_) | refine GrdS_d (fun h => ?_) (fun h => ?_) | refine GrdS_b (fun h => ?_) (fun h => ?_) | refine OkS_i (by omega) ?_ | fail)
theorem f6 (n : Int) (h1 : n ≤ 9223372036854775807) : Fn Tryd.prog 6 false [i n] (.bool true) := by
  refine Fn.by_sx hX (by kernel_rfl) c6 (by kernel_rfl) (by rfl) ?_
  simp [i6, sx_skip, sx_ops, sx_seq, sx_cond, sx_block, sx_exit, sx_ret, sxl_nil, sxl_set, sxl_call, sxl_callv, sxl_g1, sxl_g2, sxl_g3, sxl_g4, OkS_true, GrdS_tt, GrdS_tf, GrdS_ft, GrdS_ff, CondS_t, CondS_f, then_n, then_e, then_r, blk_n, blk_e, blk_r, upd_app, Ex.ok, Ex.val, Opd.val, POp.dst, bin_int, binOK_int, bin_str, binOK_str, resOK, resV, RB.val, sub, putc, scB, scL, oneB, conf, Ex.val.eqP, Ex.val.eqL, negV, mxV, mnV, ← wr_eq, wr_zero, wr_one, wr_m1, bst_lst, byteC, partsOK, putAll, appV, slV, sslV, optB, optNum, and_assoc, exists_and_left, exists_eq_left']
  repeat' (first | intro _ | (simp [sx_skip, sx_ops, sx_seq, sx_cond, sx_block, sx_exit, sx_ret, sxl_nil, sxl_set, sxl_call, sxl_callv, sxl_g1, sxl_g2, sxl_g3, sxl_g4, OkS_true, GrdS_tt, GrdS_tf, GrdS_ft, GrdS_ff, CondS_t, CondS_f, then_n, then_e, then_r, blk_n, blk_e, blk_r, upd_app, Ex.ok, Ex.val, Opd.val, POp.dst, bin_int, binOK_int, bin_str, binOK_str, resOK, resV, RB.val, sub, putc, scB, scL, oneB, conf, Ex.val.eqP, Ex.val.eqL, negV, mxV, mnV, ← wr_eq, wr_zero, wr_one, wr_m1, bst_lst, byteC, partsOK, putAll, appV, slV, sslV, optB, optNum, and_assoc, exists_and_left, exists_eq_left', *]) | refine CallS_i (f17 n) ?_ | refine CallS_i (f18 n h1) ?_ | refine CondS_d (fun h => ?_) (fun h => ?_) | refine CondS_b (fun h => ?_) (fun h => ?_) | refine GrdS_d (fun h => ?_) (fun h => ?_) | refine GrdS_b (fun h => ?_) (fun h => ?_) | refine OkS_i (by omega) ?_ | fail)
theorem f7 (n : Int) : Fn Tryd.prog 7 false [i n] (.bool true) := by
  refine Fn.by_sx hX (by kernel_rfl) c7 (by kernel_rfl) (by rfl) ?_
  simp [i7, sx_skip, sx_ops, sx_seq, sx_cond, sx_block, sx_exit, sx_ret, sxl_nil, sxl_set, sxl_call, sxl_callv, sxl_g1, sxl_g2, sxl_g3, sxl_g4, OkS_true, GrdS_tt, GrdS_tf, GrdS_ft, GrdS_ff, CondS_t, CondS_f, then_n, then_e, then_r, blk_n, blk_e, blk_r, upd_app, Ex.ok, Ex.val, Opd.val, POp.dst, bin_int, binOK_int, bin_str, binOK_str, resOK, resV, RB.val, sub, putc, scB, scL, oneB, conf, Ex.val.eqP, Ex.val.eqL, negV, mxV, mnV, ← wr_eq, wr_zero, wr_one, wr_m1, bst_lst, byteC, partsOK, putAll, appV, slV, sslV, optB, optNum, and_assoc, exists_and_left, exists_eq_left']
  repeat' (first | intro _ | (simp [sx_skip, sx_ops, sx_seq, sx_cond, sx_block, sx_exit, sx_ret, sxl_nil, sxl_set, sxl_call, sxl_callv, sxl_g1, sxl_g2, sxl_g3, sxl_g4, OkS_true, GrdS_tt, GrdS_tf, GrdS_ft, GrdS_ff, CondS_t, CondS_f, then_n, then_e, then_r, blk_n, blk_e, blk_r, upd_app, Ex.ok, Ex.val, Opd.val, POp.dst, bin_int, binOK_int, bin_str, binOK_str, resOK, resV, RB.val, sub, putc, scB, scL, oneB, conf, Ex.val.eqP, Ex.val.eqL, negV, mxV, mnV, ← wr_eq, wr_zero, wr_one, wr_m1, bst_lst, byteC, partsOK, putAll, appV, slV, sslV, optB, optNum, and_assoc, exists_and_left, exists_eq_left', *]) | refine CallS_i (f19 n) ?_ | refine CallS_i (f20 n) ?_ | refine CondS_d (fun h => ?_) (fun h => ?_) | refine CondS_b (fun h => ?_) (fun h => ?_) | refine GrdS_d (fun h => ?_) (fun h => ?_) | refine GrdS_b (fun h => ?_) (fun h => ?_) | refine OkS_i (by omega) ?_ | fail)
theorem f8 (a b : Int) : Fn Tryd.prog 8 false [i a, i b] (.bool true) := by
  have c1 := f21 a b
  have c2 := f22 a b
  refine Fn.by_sx hX (by kernel_rfl) c8 (by kernel_rfl) (by rfl) ?_
  simp [i8, sx_skip, sx_ops, sx_seq, sx_cond, sx_block, sx_exit, sx_ret, sxl_nil, sxl_set, sxl_call, sxl_callv, sxl_g1, sxl_g2, sxl_g3, sxl_g4, OkS_true, GrdS_tt, GrdS_tf, GrdS_ft, GrdS_ff, CondS_t, CondS_f, then_n, then_e, then_r, blk_n, blk_e, blk_r, upd_app, Ex.ok, Ex.val, Opd.val, POp.dst, bin_int, binOK_int, bin_str, binOK_str, resOK, resV, RB.val, sub, putc, scB, scL, oneB, conf, Ex.val.eqP, Ex.val.eqL, negV, mxV, mnV, ← wr_eq, wr_zero, wr_one, wr_m1, bst_lst, byteC, partsOK, putAll, appV, slV, sslV, optB, optNum, and_assoc, exists_and_left, exists_eq_left']
  by_cases h : 1 ≤ a ∧ a ≤ 1000 ∧ 1 ≤ b ∧ b ≤ 100000
  · rw [if_pos h] at c1 c2
    repeat' (first | intro _ | (simp [sx_skip, sx_ops, sx_seq, sx_cond, sx_block, sx_exit, sx_ret, sxl_nil, sxl_set, sxl_call, sxl_callv, sxl_g1, sxl_g2, sxl_g3, sxl_g4, OkS_true, GrdS_tt, GrdS_tf, GrdS_ft, GrdS_ff, CondS_t, CondS_f, then_n, then_e, then_r, blk_n, blk_e, blk_r, upd_app, Ex.ok, Ex.val, Opd.val, POp.dst, bin_int, binOK_int, bin_str, binOK_str, resOK, resV, RB.val, sub, putc, scB, scL, oneB, conf, Ex.val.eqP, Ex.val.eqL, negV, mxV, mnV, ← wr_eq, wr_zero, wr_one, wr_m1, bst_lst, byteC, partsOK, putAll, appV, slV, sslV, optB, optNum, and_assoc, exists_and_left, exists_eq_left', *]) | refine CallS_i (c1) ?_ | refine CallS_i (c2) ?_ | refine CondS_d (fun h => ?_) (fun h => ?_) | refine CondS_b (fun h => ?_) (fun h => ?_) | refine GrdS_d (fun h => ?_) (fun h => ?_) | refine GrdS_b (fun h => ?_) (fun h => ?_) | refine OkS_i (by omega) ?_ | fail)
  · rw [if_neg h] at c1 c2
    repeat' (first | intro _ | (simp [sx_skip, sx_ops, sx_seq, sx_cond, sx_block, sx_exit, sx_ret, sxl_nil, sxl_set, sxl_call, sxl_callv, sxl_g1, sxl_g2, sxl_g3, sxl_g4, OkS_true, GrdS_tt, GrdS_tf, GrdS_ft, GrdS_ff, CondS_t, CondS_f, then_n, then_e, then_r, blk_n, blk_e, blk_r, upd_app, Ex.ok, Ex.val, Opd.val, POp.dst, bin_int, binOK_int, bin_str, binOK_str, resOK, resV, RB.val, sub, putc, scB, scL, oneB, conf, Ex.val.eqP, Ex.val.eqL, negV, mxV, mnV, ← wr_eq, wr_zero, wr_one, wr_m1, bst_lst, byteC, partsOK, putAll, appV, slV, sslV, optB, optNum, and_assoc, exists_and_left, exists_eq_left', *]) | refine CallS_i (c1) ?_ | refine CallS_i (c2) ?_ | refine CondS_d (fun h => ?_) (fun h => ?_) | refine CondS_b (fun h => ?_) (fun h => ?_) | refine GrdS_d (fun h => ?_) (fun h => ?_) | refine GrdS_b (fun h => ?_) (fun h => ?_) | refine OkS_i (by omega) ?_ | fail)
theorem f9 (x y : Int) : Fn Tryd.prog 9 false [.agg [i x, i y]] (.bool true) := by
  refine Fn.by_sx hX (by kernel_rfl) c9 (by kernel_rfl) (by rfl) ?_
  simp [i9, sx_skip, sx_ops, sx_seq, sx_cond, sx_block, sx_exit, sx_ret, sxl_nil, sxl_set, sxl_call, sxl_callv, sxl_g1, sxl_g2, sxl_g3, sxl_g4, OkS_true, GrdS_tt, GrdS_tf, GrdS_ft, GrdS_ff, CondS_t, CondS_f, then_n, then_e, then_r, blk_n, blk_e, blk_r, upd_app, Ex.ok, Ex.val, Opd.val, POp.dst, bin_int, binOK_int, bin_str, binOK_str, resOK, resV, RB.val, sub, putc, scB, scL, oneB, conf, Ex.val.eqP, Ex.val.eqL, negV, mxV, mnV, ← wr_eq, wr_zero, wr_one, wr_m1, bst_lst, byteC, partsOK, putAll, appV, slV, sslV, optB, optNum, and_assoc, exists_and_left, exists_eq_left']
  repeat' (first | intro _ | (simp [sx_skip, sx_ops, sx_seq, sx_cond, sx_block, sx_exit, sx_ret, sxl_nil, sxl_set, sxl_call, sxl_callv, sxl_g1, sxl_g2, sxl_g3, sxl_g4, OkS_true, GrdS_tt, GrdS_tf, GrdS_ft, GrdS_ff, CondS_t, CondS_f, then_n, then_e, then_r, blk_n, blk_e, blk_r, upd_app, Ex.ok, Ex.val, Opd.val, POp.dst, bin_int, binOK_int, bin_str, binOK_str, resOK, resV, RB.val, sub, putc, scB, scL, oneB, conf, Ex.val.eqP, Ex.val.eqL, negV, mxV, mnV, ← wr_eq, wr_zero, wr_one, wr_m1, bst_lst, byteC, partsOK, putAll, appV, slV, sslV, optB, optNum, and_assoc, exists_and_left, exists_eq_left', *]) | refine CallS_i (f24 x y) ?_ | refine CallS_i (f23 x y) ?_ | refine CallS_i (f25 x y) ?_ | refine CondS_d (fun h => ?_) (fun h => ?_) | refine CondS_b (fun h => ?_) (fun h => ?_) | refine GrdS_d (fun h => ?_) (fun h => ?_) | refine GrdS_b (fun h => ?_) (fun h => ?_) | refine OkS_i (by omega) ?_ | fail)
end Go.Eng
namespace Go.Eng
open Go Go.Proofs
set_option linter.unusedSimpArgs false
set_option linter.unusedVariables false
set_option maxRecDepth 20000
/-! what the arguments hold -/
theorem d_intb {X : Cx} {t n : Nat} {i0 : TI} {vs : List PV} (hi : X.ti t = some i0) (hk : i0.k = .int .i64) (h : shp X n t vs) : ∃ m : Int, vs = [i m] ∧ -9223372036854775808 ≤ m ∧ m ≤ 9223372036854775807 := by
  cases n with
  | zero => cases h
  | succ n =>
    unfold shp at h; rw [hi] at h; simp only [hk] at h
    obtain ⟨m, hm, hw⟩ := h
    refine ⟨m, hm, ?_⟩
    simpa [Lit.wf, IntKind.min, IntKind.max, IntKind.signed, IntKind.bits] using hw
theorem d_int {X : Cx} {t n : Nat} {i0 : TI} {vs : List PV} (hi : X.ti t = some i0) (hk : i0.k = .int .i64) (h : shp X n t vs) : ∃ m, vs = [i m] := by
  cases n with
  | zero => cases h
  | succ n => unfold shp at h; rw [hi] at h; simp only [hk] at h; obtain ⟨m, hm, _⟩ := h; exact ⟨m, hm⟩
theorem d_bool {X : Cx} {t n : Nat} {i0 : TI} {vs : List PV} (hi : X.ti t = some i0) (hk : i0.k = .bool) (h : shp X n t vs) : ∃ b, vs = [.bool b] := by
  cases n with
  | zero => cases h
  | succ n => unfold shp at h; rw [hi] at h; simp only [hk] at h; exact h
theorem d_str {X : Cx} {t n : Nat} {i0 : TI} {vs : List PV} (hi : X.ti t = some i0) (hk : i0.k = .str) (h : shp X n t vs) : ∃ s, vs = [.str s] ∧ s.size ≤ 9223372036854775807 := by
  cases n with
  | zero => cases h
  | succ n => unfold shp at h; rw [hi] at h; simp only [hk] at h; exact h
theorem d_slice {X : Cx} {t n e sz : Nat} {i0 : TI} {vs : List PV} {α : Type} {g : α → List PV} {q : α → Prop} (hi : X.ti t = some i0) (hk : i0.k = .slice e) (hs : szOf X e = sz)
    (hd : ∀ n vs, shp X n e vs → ∃ x, vs = g x ∧ q x) (h : shp X n t vs) : ∃ (l : List α) (nl : Bool), vs = [.lst sz nl (l.map g)] ∧ l.length ≤ 9223372036854775807 ∧ ∀ x ∈ l, q x := by
  cases n with
  | zero => cases h
  | succ n =>
    unfold shp at h; rw [hi] at h; simp only [hk, hs] at h
    rcases h with rfl | ⟨els, rfl, hl, he⟩
    · exact ⟨[], true, rfl, by simp, by simp⟩
    · have : ∀ els : List (List PV), (∀ cs ∈ els, shp X n e cs) → ∃ l : List α, els = l.map g ∧ ∀ x ∈ l, q x := by
        intro els
        induction els with
        | nil => intro _; exact ⟨[], rfl, by simp⟩
        | cons c r ih =>
          intro h
          obtain ⟨l, h1, h2⟩ := ih fun cs hcs => h cs (List.mem_cons_of_mem _ hcs)
          obtain ⟨x, h3, h4⟩ := hd n c (h c (List.mem_cons_self ..))
          exact ⟨x :: l, by rw [h1, h3]; rfl, fun y hy => by
            rcases List.mem_cons.1 hy with rfl | hy
            · exact h4
            · exact h2 y hy⟩
      obtain ⟨l, h1, h2⟩ := this els he
      subst h1
      exact ⟨l, false, rfl, by have := hl; rw [List.length_map] at this; exact this, h2⟩
theorem d_struct {X : Cx} {t n : Nat} {i0 : TI} {fl : List (Nat × Nat)} {vs : List PV} (hi : X.ti t = some i0) (hk : i0.k = .struct fl) (h : shp X n t vs) : vs.length = i0.sz ∧ ∀ q ∈ fl, ∃ n, shp X n q.2 (sub vs q.1 (szOf X q.2)) := by
  cases n with
  | zero => cases h
  | succ n => unfold shp at h; rw [hi] at h; simp only [hk] at h; exact ⟨h.1, fun q hq => ⟨n, h.2 q hq⟩⟩
theorem shpL_cons {X : Cx} {n t : Nat} {ts : List Nat} {pvs : List PV} (h : shpL X n (t :: ts) pvs) : ∃ v vs, pvs = v :: vs ∧ shpV X n t v ∧ shpL X n ts vs := by
  cases pvs with
  | nil => cases h
  | cons v vs => exact ⟨v, vs, rfl, h.1, h.2⟩
theorem shpL_nil {X : Cx} {n : Nat} {pvs : List PV} (h : shpL X n [] pvs) : pvs = [] := by
  cases pvs with
  | nil => rfl
  | cons v vs => cases h
theorem shpV_one {X : Cx} {n t : Nat} {i0 : TI} {v : PV} (hi : X.ti t = some i0) (ha : i0.k.agg = false) (h : shpV X n t v) : shp X n t [v] := by
  unfold shpV at h; rw [hi] at h; simp only [ha, Bool.false_eq_true, if_false] at h; exact h
theorem shpV_agg {X : Cx} {n t : Nat} {i0 : TI} {v : PV} (hi : X.ti t = some i0) (ha : i0.k.agg = true) (h : shpV X n t v) : ∃ vs, v = .agg vs ∧ shp X n t vs := by
  unfold shpV at h; rw [hi] at h; simp only [ha, if_true] at h; exact h
theorem ti3 : X.ti 3 = some ⟨(.int .i64), 1, 8, [(i 0)], false⟩ := by rfl
theorem dI {n : Nat} {v : PV} (h : shpV X n 3 v) : ∃ m : Int, v = i m ∧ -9223372036854775808 ≤ m ∧ m ≤ 9223372036854775807 := by
  obtain ⟨m, hm, hb⟩ := d_intb ti3 rfl (shpV_one ti3 rfl h)
  exact ⟨m, (List.cons.inj hm).1, hb⟩
theorem argI {pvs : List PV} (h : shpL X 8 [3] pvs) : ∃ n : Int, pvs = [i n] ∧ -9223372036854775808 ≤ n ∧ n ≤ 9223372036854775807 := by
  obtain ⟨v, vs, rfl, h1, h2⟩ := shpL_cons h
  obtain rfl := shpL_nil h2
  obtain ⟨m, rfl, hb⟩ := dI h1
  exact ⟨m, rfl, hb⟩
theorem law3 {pvs : List PV} (h : shpL X 8 [3] pvs) : Fn Tryd.prog 3 false pvs (.bool true) := by
  obtain ⟨n, rfl, h0, h1⟩ := argI h
  exact f3 n h1
theorem law4 {pvs : List PV} (h : shpL X 8 [3] pvs) : Fn Tryd.prog 4 false pvs (.bool true) := by
  obtain ⟨n, rfl, h0, h1⟩ := argI h
  exact f4 n h0 h1
theorem law5 {pvs : List PV} (h : shpL X 8 [3] pvs) : Fn Tryd.prog 5 false pvs (.bool true) := by
  obtain ⟨n, rfl, h0, h1⟩ := argI h
  exact f5 n h1
theorem law6 {pvs : List PV} (h : shpL X 8 [3] pvs) : Fn Tryd.prog 6 false pvs (.bool true) := by
  obtain ⟨n, rfl, h0, h1⟩ := argI h
  exact f6 n h1
theorem law7 {pvs : List PV} (h : shpL X 8 [3] pvs) : Fn Tryd.prog 7 false pvs (.bool true) := by
  obtain ⟨n, rfl, h0, h1⟩ := argI h
  exact f7 n
theorem law8 {pvs : List PV} (h : shpL X 8 [3, 3] pvs) : Fn Tryd.prog 8 false pvs (.bool true) := by
  obtain ⟨v, vs, rfl, h1, h2⟩ := shpL_cons h
  obtain ⟨w, ws, rfl, h3, h4⟩ := shpL_cons h2
  obtain rfl := shpL_nil h4
  obtain ⟨a, rfl, _⟩ := dI h1
  obtain ⟨b, rfl, _⟩ := dI h3
  exact f8 a b
theorem ti29 : X.ti 29 = some ⟨(.struct [(0, 3), (1, 3)]), 2, 16, [(i 0), (i 0)], true⟩ := by rfl
theorem law9 {pvs : List PV} (h : shpL X 8 [29] pvs) : Fn Tryd.prog 9 false pvs (.bool true) := by
  obtain ⟨v, vs, rfl, h1, h2⟩ := shpL_cons h
  obtain rfl := shpL_nil h2
  obtain ⟨vs, rfl, hs⟩ := shpV_agg ti29 rfl h1
  obtain ⟨hl, hf⟩ := d_struct ti29 rfl hs
  match vs, hl with
  | [a, b], _ =>
    obtain ⟨_, h0⟩ := hf (0, 3) (by simp)
    obtain ⟨_, h1⟩ := hf (1, 3) (by simp)
    obtain ⟨x, e0⟩ := d_int ti3 rfl h0
    obtain ⟨y, e1⟩ := d_int ti3 rfl h1
    obtain rfl : a = i x := (List.cons.inj e0).1
    obtain rfl : b = i y := (List.cons.inj e1).1
    exact f9 x y
end Go.Eng
