/- A part of the proof of a law's statement: for every input the law returns true and leaves its arguments as they were. No condition beyond the statement's own. What each function computes. -/
import Derived.Shelf.LaysM
import Derived.Shelf.Strconv.Itoa3
import Derived.Lib.AppendIntMem
import Derived.WalkKit
import Derived.LoopTactic
import Derived.StillTailTactics
import Derived.Deep.QuietTactic
import Derived.BigQuiet
import Derived.Laws.Cover1
import Derived.Handy
import Derived.Test.YtpbkimkjofngmaaGreatDoorLp1
set_option linter.unusedVariables false
set_option linter.unusedSimpArgs false
set_option linter.unusedSectionVars false
set_option autoImplicit true
set_option relaxedAutoImplicit true
namespace Go.Eng
open Go Go.Proofs
set_option linter.unusedSimpArgs false
set_option linter.unusedVariables false
set_option maxRecDepth 20000
set_option maxHeartbeats 1000000

/-! numerals, bars, references of tiles -/
def rho_laysM171 : Go.Shelf.Ren := ⟨fun | 171 => 96 | 243 => 133 | 246 => 161 | 283 => 174 | 284 => 175 | 285 => 176 | 286 => 177 | 129 => 114 | 317 => 180 | 318 => 181 | 319 => 182 | 320 => 183 | 337 => 184 | 338 => 185 | n => n, fun | 3 => 3 | 9 => 9 | 2 => 2 | 4 => 4 | 171 => 177 | 0 => 0 | 53 => 139 | 37 => 33 | 5 => 5 | 173 => 179 | 212 => 183 | 51 => 137 | 20 => 20 | 213 => 184 | 46 => 107 | 232 => 185 | 233 => 186 | n => n, fun | 17 => 0 | 18 => 1 | 19 => 2 | n => n⟩
theorem L_laysM171 : Go.Proofs.LaysM.n171 Tryz.prog rho_laysM171 := {
  mixed := by kernel_rfl
  f129 := Tryz.func114.trans (congrArg some (by kernel_rfl))
  f171 := Tryz.func96.trans (congrArg some (by kernel_rfl))
  f243 := Tryz.func133.trans (congrArg some (by kernel_rfl))
  f246 := Tryz.func161.trans (congrArg some (by kernel_rfl))
  f283 := Tryz.func174.trans (congrArg some (by kernel_rfl))
  f284 := Tryz.func175.trans (congrArg some (by kernel_rfl))
  f285 := Tryz.func176.trans (congrArg some (by kernel_rfl))
  f286 := Tryz.func177.trans (congrArg some (by kernel_rfl))
  f317 := Tryz.func180.trans (congrArg some (by kernel_rfl))
  f318 := Tryz.func181.trans (congrArg some (by kernel_rfl))
  f319 := Tryz.func182.trans (congrArg some (by kernel_rfl))
  f320 := Tryz.func183.trans (congrArg some (by kernel_rfl))
  f337 := Tryz.func184.trans (congrArg some (by kernel_rfl))
  f338 := Tryz.func185.trans (congrArg some (by kernel_rfl))
  t0 := Tryz.underlying0
  a0 := Tryz.isAgg0
  z0 := Tryz.sizeOf0
  v0 := Tryz.zeroValue0
  t2 := Tryz.underlying2
  a2 := Tryz.isAgg2
  z2 := Tryz.sizeOf2
  v2 := Tryz.zeroValue2
  t3 := Tryz.underlying3
  a3 := Tryz.isAgg3
  z3 := Tryz.sizeOf3
  v3 := Tryz.zeroValue3
  t4 := Tryz.underlying4
  a4 := Tryz.isAgg4
  z4 := Tryz.sizeOf4
  v4 := Tryz.zeroValue4
  t5 := Tryz.underlying5
  a5 := Tryz.isAgg5
  z5 := Tryz.sizeOf5
  v5 := Tryz.zeroValue5
  t9 := Tryz.underlying9
  a9 := Tryz.isAgg9
  z9 := Tryz.sizeOf9
  v9 := Tryz.zeroValue9
  t20 := Tryz.underlying20
  a20 := Tryz.isAgg20
  z20 := Tryz.sizeOf20
  v20 := Tryz.zeroValue20
  t37 := Tryz.underlying33
  a37 := Tryz.isAgg33
  z37 := Tryz.sizeOf33
  v37 := Tryz.zeroValue33
  t46 := Tryz.underlying107
  a46 := Tryz.isAgg107
  z46 := Tryz.sizeOf107
  v46 := Tryz.zeroValue107
  t51 := Tryz.underlying137
  a51 := Tryz.isAgg137
  z51 := Tryz.sizeOf137
  v51 := Tryz.zeroValue137
  t53 := Tryz.underlying139
  a53 := Tryz.isAgg139
  z53 := Tryz.sizeOf139
  v53 := Tryz.zeroValue139
  t171 := Tryz.underlying177
  a171 := Tryz.isAgg177
  z171 := Tryz.sizeOf177
  v171 := Tryz.zeroValue177
  t173 := Tryz.underlying179
  a173 := Tryz.isAgg179
  z173 := Tryz.sizeOf179
  v173 := Tryz.zeroValue179
  t212 := Tryz.underlying183
  a212 := Tryz.isAgg183
  z212 := Tryz.sizeOf183
  v212 := Tryz.zeroValue183
  t213 := Tryz.underlying184
  a213 := Tryz.isAgg184
  z213 := Tryz.sizeOf184
  t232 := Tryz.underlying185
  a232 := Tryz.isAgg185
  z232 := Tryz.sizeOf185
  v232 := Tryz.zeroValue185
  t233 := Tryz.underlying186
  a233 := Tryz.isAgg186
  z233 := Tryz.sizeOf186
  v233 := Tryz.zeroValue186
  g17 := by kernel_rfl
  g18 := by kernel_rfl
  g19 := by kernel_rfl
  i0 := by kernel_rfl
  i2 := by kernel_rfl
  i3 := by kernel_rfl
  i4 := by kernel_rfl
  i5 := by kernel_rfl
  i9 := by kernel_rfl
  i20 := by kernel_rfl
  i37 := by kernel_rfl
  i46 := by kernel_rfl
  i51 := by kernel_rfl
  i53 := by kernel_rfl
  i171 := by kernel_rfl
  i173 := by kernel_rfl
  i212 := by kernel_rfl
  i232 := by kernel_rfl
  i233 := by kernel_rfl
  m17 := by kernel_rfl
  m18 := by kernel_rfl
  m19 := by kernel_rfl }
def dec (n : Int) : ByteArray := ⟨(Lib.itoa n).toArray⟩
theorem f96 (n : Int) (h0 : -9223372036854775808 ≤ n) (h1 : n ≤ 9223372036854775807) : Fn Tryz.prog 96 false [i n] (.str (dec n)) := by
  refine ⟨by kernel_rfl, fun w xs Fs hi hr hlt => ?_⟩
  obtain ⟨x, xs', F1, F2, rfl, rfl, hx, hr'⟩ := RepL.cons_inv hr
  obtain ⟨rfl, rfl⟩ := hr'.nil_inv
  obtain ⟨rfl, rfl⟩ := hx.int_inv
  have hn : (Tryz.prog.globalNamed pow10N).isNone = false := by kernel_rfl
  have htab : Lib.TabIs Tryz.prog w "internal/strconv.uint64pow10" .u64 Lib.pow10Tab := hi.resolve_left (fun h => by rw [h] at hn; cases hn)
  refine (Any.strconv_Itoa L_laysM171 n h0 h1 w htab).mono ?_
  rintro e w' ⟨rfl, k, os, rfl⟩
  exact ⟨_, [], rfl, .str _, Lib.below_grow _ _ (Nat.le_refl _) _ _, by simp, by simp⟩
theorem f70 (n : Int) (h0 : -9223372036854775808 ≤ n) (h1 : n ≤ 9223372036854775807) : Fn Tryz.prog 70 false [i n] (.str (dec n)) := by
  refine Fn.by_sx hX (by kernel_rfl) c70 (by kernel_rfl) (by rfl) ?_
  simp [i70, sxa, isPtrN, PV.pcs, elAt, setEl, inAt, elIn, setIn, isLst, cellsOf, Ex.ok, Ex.val, Opd.val, POp.dst, bin_int, binOK_int, bin_str, binOK_str, resOK, resV, RB.val, sub, putc, scB, scL, oneB, conf, Ex.val.eqP, Ex.val.eqL, negV, mxV, mnV, ← wr_eq, wr_zero, wr_one, wr_m1, bst_lst, byteC, partsOK, putAll, appV, nilV, slV, sslV, optB, optNum, and_assoc, exists_and_left, exists_eq_left']
  repeat' (first | intro _ | (simp [sxa, isPtrN, PV.pcs, elAt, setEl, inAt, elIn, setIn, isLst, cellsOf, Ex.ok, Ex.val, Opd.val, POp.dst, bin_int, binOK_int, bin_str, binOK_str, resOK, resV, RB.val, sub, putc, scB, scL, oneB, conf, Ex.val.eqP, Ex.val.eqL, negV, mxV, mnV, ← wr_eq, wr_zero, wr_one, wr_m1, bst_lst, byteC, partsOK, putAll, appV, nilV, slV, sslV, optB, optNum, and_assoc, exists_and_left, exists_eq_left', *]) | refine CallS_i (f96 n h0 h1) ?_ | refine CondS_d (fun h => ?_) (fun h => ?_) | refine CondS_b (fun h => ?_) (fun h => ?_) | refine GrdS_d (fun h => ?_) (fun h => ?_) | refine GrdS_b (fun h => ?_) (fun h => ?_) | refine OkS_i (by omega) ?_ | fail)
/-! the first digit -/
def leadF : Nat → Nat → Nat
  | 0, u => u
  | f + 1, u => if u < 10 then u else leadF f (u / 10)
def lead (u : Nat) : Nat := leadF 20 u
theorem leadF_le : ∀ f u, u < 10 ^ f → leadF f u ≤ 9
  | 0, u, h => by simp at h; simp [leadF, h]
  | f + 1, u, h => by
    unfold leadF
    split
    · omega
    · exact leadF_le f _ (by rw [Nat.pow_succ] at h; omega)
theorem leadF_more : ∀ f u, u < 10 ^ f → leadF (f + 1) u = leadF f u
  | 0, u, h => by simp at h; simp [leadF, h]
  | f + 1, u, h => by
    unfold leadF
    split
    · rfl
    · exact leadF_more f _ (by rw [Nat.pow_succ] at h; omega)
theorem lead_div {u : Nat} (h : 10 ≤ u) (h2 : u < 10 ^ 19) : lead u = lead (u / 10) := by
  have e : lead u = leadF 19 (u / 10) := by
    show (if u < 10 then u else leadF 19 (u / 10)) = _
    rw [if_neg (by omega)]
  rw [e]
  exact (leadF_more 19 (u / 10) (by omega)).symm
theorem lead_small {u : Nat} (h : u < 10) : lead u = u := by
  show (if u < 10 then u else leadF 19 (u / 10)) = _
  rw [if_pos h]
theorem head_dec : ∀ f u, u < 10 ^ f → (Lib.decDigits u)[0]? = some (UInt8.ofNat (48 + leadF f u))
  | 0, u, h => by
    simp at h
    subst h
    rw [Lib.decDigits]; simp [leadF]
  | f + 1, u, h => by
    rw [Lib.decDigits]
    unfold leadF
    split
    · simp
    · have ih := head_dec f (u / 10) (by rw [Nat.pow_succ] at h; omega)
      have : 0 < (Lib.decDigits (u / 10)).length := by
        rcases Nat.eq_zero_or_pos (Lib.decDigits (u / 10)).length with h0 | h0
        · rw [List.getElem?_eq_none (by omega)] at ih; cases ih
        · exact h0
      rw [List.getElem?_append_left this]; exact ih
theorem dec_head {n : Int} (h : 1 ≤ n) (h2 : n ≤ 9223372036854775807) : sixV (.str (dec n)) 0 = .int .u8 (48 + lead n.toNat : Nat) ∧ 0 < (dec n).size := by
  have hn : Lib.itoa n = Lib.decDigits n.toNat := by unfold Lib.itoa; rw [if_neg (by omega)]
  have hd := head_dec 20 n.toNat (by omega)
  have hl := leadF_le 20 n.toNat (by omega)
  have hs : (dec n).data[0]? = some (UInt8.ofNat (48 + lead n.toNat)) := by
    show (Lib.itoa n).toArray[0]? = _
    rw [hn, List.getElem?_toArray]; exact hd
  constructor
  · show PV.int .u8 (((dec n).data[(0 : Int).toNat]?).getD 0).toNat = _
    rw [show (0 : Int).toNat = 0 from rfl, hs, Option.getD_some]
    congr 1
    have : (UInt8.ofNat (48 + lead n.toNat)).toNat = 48 + lead n.toNat := by
      rw [UInt8.toNat_ofNat']; show (48 + leadF 20 n.toNat) % 2 ^ 8 = _; unfold lead; omega
    rw [this]
  · show 0 < (dec n).data.size
    rcases Nat.eq_zero_or_pos (dec n).data.size with h0 | h0
    · rw [Array.getElem?_eq_none (by omega)] at hs; cases hs
    · exact h0
/-! BarParts -/
def wBar (n : Int) : Int := if n < 1 then 0 else if lead n.toNat = 2 then 4 else 5
/-! RoundLength, ScaleStep -/
def rs (k : Nat) : Nat := [1, 2, 5].getD (k % 3) 0 * 10 ^ (k / 3)
def ra (u : Nat) : Nat := if lead u = 2 then u / 2 * 5 else 2 * u
theorem ra_rs : ∀ k : _root_.Fin 30, ra (rs k.val) = rs (k.val + 1) := by decide +kernel
theorem rs_lt : ∀ k : _root_.Fin 30, rs k.val < rs (k.val + 1) := by decide +kernel
theorem rs_f : ∀ q : _root_.Fin 11, rs (3 * q.val) = 10 ^ q.val ∧ rs (3 * q.val + 1) = 2 * 10 ^ q.val ∧ rs (3 * q.val + 2) = 5 * 10 ^ q.val := by decide +kernel
theorem rs_pos : ∀ k : _root_.Fin 31, 1 ≤ rs k.val := by decide +kernel
theorem rs_top : rs 28 = 2000000000 := by decide +kernel
theorem rs_mono {k m : Nat} (h : k ≤ m) (hm : m ≤ 30) : rs k ≤ rs m := by
  induction m with
  | zero => rw [show k = 0 by omega]; exact Nat.le_refl _
  | succ m ih =>
    rcases Nat.lt_or_ge m k with h' | h'
    · rw [show k = m + 1 by omega]; exact Nat.le_refl _
    · exact Nat.le_trans (ih h' (by omega)) (Nat.le_of_lt (rs_lt ⟨m, by omega⟩))
/-- the greatest of the first m that is at most n -/
def rlTo (n : Int) : Nat → Int
  | 0 => 0
  | m + 1 => if (rs m : Int) ≤ n then rs m else rlTo n m
theorem rlTo_eq {n : Int} {k : Nat} (hk : (rs k : Int) ≤ n) (hk2 : n < rs (k + 1)) : ∀ m, k + 1 ≤ m → m ≤ 30 → rlTo n m = rs k := by
  intro m
  induction m with
  | zero => intro h; omega
  | succ m ih =>
    intro h h30
    unfold rlTo
    rcases Nat.lt_or_ge k m with h' | h'
    · have := rs_mono (k := k + 1) (m := m) h' (by omega)
      rw [if_neg (by omega)]
      exact ih h' (by omega)
    · rw [show m = k by omega, if_pos hk]
def rl (n : Int) : Int := if 1 ≤ n ∧ n ≤ 1000000000 then rlTo n 30 else 0
theorem rl_has {n : Int} (h : 1 ≤ n) (h2 : n ≤ 1000000000) : ∃ k, k < 28 ∧ (rs k : Int) ≤ n ∧ n < rs (k + 1) := by
  have : ∀ m, n < rs m → m ≤ 28 → ∃ k, k < m ∧ (rs k : Int) ≤ n ∧ n < rs (k + 1) := by
    intro m
    induction m with
    | zero => intro h0; have : rs 0 = 1 := rfl; omega
    | succ m ih =>
      intro h0 hm
      rcases Int.lt_or_le n (rs m) with h' | h'
      · obtain ⟨k, k1, k2⟩ := ih h' (by omega); exact ⟨k, by omega, k2⟩
      · exact ⟨m, by omega, h', h0⟩
  exact this 28 (by rw [rs_top]; omega) (Nat.le_refl _)
theorem rl_eq {n : Int} {k : Nat} (h : 1 ≤ n) (h2 : n ≤ 1000000000) (hk : k < 30) (h3 : (rs k : Int) ≤ n) (h4 : n < rs (k + 1)) : rl n = rs k := by
  unfold rl; rw [if_pos ⟨h, h2⟩]; exact rlTo_eq h3 h4 30 (by omega) (Nat.le_refl _)
theorem rlTo_succ (n : Int) (m : Nat) : rlTo n (m + 1) = if (rs m : Int) ≤ n then (rs m : Int) else rlTo n m := rfl
/-! ScaleStep -/
def ss (n : Int) : Int := if 1 ≤ n ∧ n ≤ 499999999 then (ra (rl n).toNat : Nat) else 0
theorem ss_eq {n : Int} {k : Nat} (h : 1 ≤ n) (h2 : n ≤ 499999999) (hk : k < 30) (h3 : (rs k : Int) ≤ n) (h4 : n < rs (k + 1)) : ss n = rs (k + 1) := by
  unfold ss
  rw [if_pos ⟨h, h2⟩, rl_eq h (by omega) hk h3 h4, Int.toNat_natCast, ra_rs ⟨k, hk⟩]
theorem dec_nat (u : Nat) : dec u = ⟨(Lib.decDigits u).toArray⟩ := by
  unfold dec Lib.itoa; rw [if_neg (by omega), Int.toNat_natCast]
theorem digits_len (u : Nat) : ∀ f, u < 10 ^ f → (Lib.decDigits u).length ≤ f + 1 := by
  intro f
  induction f generalizing u with
  | zero => intro h; rw [Lib.decDigits]; simp at h; subst h; simp
  | succ f ih =>
    intro h
    rw [Lib.decDigits]
    split
    · simp
    · have := ih (u / 10) (by rw [Nat.pow_succ] at h; omega)
      rw [List.length_append]; simp; omega
theorem dec_size {n : Int} (h : 0 ≤ n) (h2 : n ≤ 9223372036854775807) : (dec n).size ≤ 21 := by
  obtain ⟨u, rfl⟩ : ∃ u : Nat, n = u := ⟨n.toNat, by omega⟩
  rw [dec_nat]
  exact digits_len u 20 (by omega)
/-- the digits of u, none of nought, ahead of l -/
def digs (u : Nat) (l : List UInt8) : List UInt8 := (if u = 0 then [] else Lib.decDigits u) ++ l
theorem digs_step {u : Nat} (h : 0 < u) (l : List UInt8) : digs u l = digs (u / 10) (UInt8.ofNat (48 + u % 10) :: l) := by
  unfold digs
  rw [if_neg (by omega), Lib.decDigits]
  split
  · rename_i h10
    rw [if_pos (by omega), show u % 10 = u by omega]; rfl
  · rw [if_neg (by omega)]; simp
theorem str_app (a b : List UInt8) : (⟨a.toArray⟩ : ByteArray) ++ (⟨b.toArray⟩ : ByteArray) = ⟨(a ++ b).toArray⟩ := by
  apply ByteArray.ext
  simp
theorem f103 (u : Nat) (h1 : u ≤ 9223372036854775807) : Fn Tryz.prog 103 false [i u] (.str (dec u)) := by
  refine Fn.by_sx hX (by kernel_rfl) c103 (by kernel_rfl) (by rfl) ?_
  simp [i103, sxa, isPtrN, PV.pcs, elAt, setEl, inAt, elIn, setIn, isLst, cellsOf, Ex.ok, Ex.val, Opd.val, POp.dst, bin_int, binOK_int, bin_str, binOK_str, resOK, resV, RB.val, sub, putc, scB, scL, oneB, conf, Ex.val.eqP, Ex.val.eqL, negV, mxV, mnV, ← wr_eq, wr_zero, wr_one, wr_m1, bst_lst, byteC, partsOK, putAll, appV, nilV, slV, sslV, optB, optNum, and_assoc, exists_and_left, exists_eq_left']
  by_cases hz : u = 0
  · subst hz
    have : dec (0 : Int) = bs [48] := by have := dec_nat 0; rw [Lib.decDigits] at this; simpa using this
    repeat' (first | intro _ | (simp [sxa, isPtrN, PV.pcs, elAt, setEl, inAt, elIn, setIn, isLst, cellsOf, Ex.ok, Ex.val, Opd.val, POp.dst, bin_int, binOK_int, bin_str, binOK_str, resOK, resV, RB.val, sub, putc, scB, scL, oneB, conf, Ex.val.eqP, Ex.val.eqL, negV, mxV, mnV, ← wr_eq, wr_zero, wr_one, wr_m1, bst_lst, byteC, partsOK, putAll, appV, nilV, slV, sslV, optB, optNum, and_assoc, exists_and_left, exists_eq_left', *]) | refine CondS_d (fun h => ?_) (fun h => ?_) | refine CondS_b (fun h => ?_) (fun h => ?_) | refine GrdS_d (fun h => ?_) (fun h => ?_) | refine GrdS_b (fun h => ?_) (fun h => ?_) | refine OkS_i (by omega) ?_ | fail)
  have hzi : ¬ (u : Int) = 0 := by omega
  repeat' (first | intro _ | (simp [sxa, isPtrN, PV.pcs, elAt, setEl, inAt, elIn, setIn, isLst, cellsOf, Ex.ok, Ex.val, Opd.val, POp.dst, bin_int, binOK_int, bin_str, binOK_str, resOK, resV, RB.val, sub, putc, scB, scL, oneB, conf, Ex.val.eqP, Ex.val.eqL, negV, mxV, mnV, ← wr_eq, wr_zero, wr_one, wr_m1, bst_lst, byteC, partsOK, putAll, appV, nilV, slV, sslV, optB, optNum, and_assoc, exists_and_left, exists_eq_left', *]) | refine CondS_d (fun h => ?_) (fun h => ?_) | refine CondS_b (fun h => ?_) (fun h => ?_) | refine GrdS_d (fun h => ?_) (fun h => ?_) | refine GrdS_b (fun h => ?_) (fun h => ?_) | refine OkS_i (by omega) ?_ | fail)
  refine sx_down (fun m V => ∃ l : List UInt8, V 0 = i u ∧ V 4 = i m ∧ V 3 = .str ⟨l.toArray⟩ ∧ m ≤ 9223372036854775807 ∧ digs m l = Lib.decDigits u) u ⟨[], by simp [sxa, isPtrN, PV.pcs, elAt, setEl, inAt, elIn, setIn, isLst, cellsOf, Ex.ok, Ex.val, Opd.val, POp.dst, bin_int, binOK_int, bin_str, binOK_str, resOK, resV, RB.val, sub, putc, scB, scL, oneB, conf, Ex.val.eqP, Ex.val.eqL, negV, mxV, mnV, ← wr_eq, wr_zero, wr_one, wr_m1, bst_lst, byteC, partsOK, putAll, appV, nilV, slV, sslV, optB, optNum, and_assoc, exists_and_left, exists_eq_left', digs, hz]; exact h1⟩ ?_
  rintro m V ⟨l, h0, h4, h3, hm, hd⟩
  simp [sxa, isPtrN, PV.pcs, elAt, setEl, inAt, elIn, setIn, isLst, cellsOf, Ex.ok, Ex.val, Opd.val, POp.dst, bin_int, binOK_int, bin_str, binOK_str, resOK, resV, RB.val, sub, putc, scB, scL, oneB, conf, Ex.val.eqP, Ex.val.eqL, negV, mxV, mnV, ← wr_eq, wr_zero, wr_one, wr_m1, bst_lst, byteC, partsOK, putAll, appV, nilV, slV, sslV, optB, optNum, and_assoc, exists_and_left, exists_eq_left', h0, h4]
  have hll : l.length ≤ 21 := by
    have := digits_len u 20 (by omega)
    rw [← hd] at this
    unfold digs at this
    rw [List.length_append] at this; omega
  by_cases hm0 : m = 0
  · subst hm0
    have hr : dec u = ⟨l.toArray⟩ := by rw [dec_nat, ← hd]; unfold digs; simp
    repeat' (first | intro _ | (simp [sxa, isPtrN, PV.pcs, elAt, setEl, inAt, elIn, setIn, isLst, cellsOf, Ex.ok, Ex.val, Opd.val, POp.dst, bin_int, binOK_int, bin_str, binOK_str, resOK, resV, RB.val, sub, putc, scB, scL, oneB, conf, Ex.val.eqP, Ex.val.eqL, negV, mxV, mnV, ← wr_eq, wr_zero, wr_one, wr_m1, bst_lst, byteC, partsOK, putAll, appV, nilV, slV, sslV, optB, optNum, and_assoc, exists_and_left, exists_eq_left', *]) | refine CondS_d (fun h => ?_) (fun h => ?_) | refine CondS_b (fun h => ?_) (fun h => ?_) | refine GrdS_d (fun h => ?_) (fun h => ?_) | refine GrdS_b (fun h => ?_) (fun h => ?_) | refine OkS_i (by omega) ?_ | fail)
    all_goals (exfalso; omega)
  · obtain ⟨q, hq⟩ : ∃ q, m / 10 = q := ⟨_, rfl⟩
    obtain ⟨d, hdd⟩ : ∃ d, m % 10 = d := ⟨_, rfl⟩
    have e1 : (m : Int) / 10 = q := by omega
    have e2 : (m : Int) % 10 = d := by omega
    have e3 : (m : Int).tmod 10 = d := by rw [Int.tmod_eq_emod_of_nonneg (by omega)]; exact e2
    have w1 : wr .i64 (q : Int) = q := wr_in (by omega) (by omega)
    have w2 : wr .i64 (48 + (d : Int)) = 48 + d := wr_in (by omega) (by omega)
    have w3 : wr .u8 (48 + (d : Int)) = 48 + d := wr_u8 (by omega) (by omega)
    have hneg : ¬ (d : Int) < 0 := by omega
    have hb : (48 + (d : Int)).toNat = 48 + d := by omega
    have hs := digs_step (u := m) (by omega) l
    rw [hq, hdd, hd] at hs
    repeat' (first | intro _ | (simp [sxa, isPtrN, PV.pcs, elAt, setEl, inAt, elIn, setIn, isLst, cellsOf, Ex.ok, Ex.val, Opd.val, POp.dst, bin_int, binOK_int, bin_str, binOK_str, resOK, resV, RB.val, sub, putc, scB, scL, oneB, conf, Ex.val.eqP, Ex.val.eqL, negV, mxV, mnV, ← wr_eq, wr_zero, wr_one, wr_m1, bst_lst, byteC, partsOK, putAll, appV, nilV, slV, sslV, optB, optNum, and_assoc, exists_and_left, exists_eq_left', *]) | refine CondS_d (fun h => ?_) (fun h => ?_) | refine CondS_b (fun h => ?_) (fun h => ?_) | refine GrdS_d (fun h => ?_) (fun h => ?_) | refine GrdS_b (fun h => ?_) (fun h => ?_) | refine OkS_i (by omega) ?_ | fail)
    refine OkS_i ⟨[48 + (d : Int)], rfl⟩ ?_
    have happ : (⟨#[48 + UInt8.ofNat d]⟩ : ByteArray) ++ ⟨l.toArray⟩ = ⟨((48 + UInt8.ofNat d) :: l).toArray⟩ := str_app [48 + UInt8.ofNat d] l
    have hsz : ((⟨#[48 + UInt8.ofNat d]⟩ : ByteArray).size + (⟨l.toArray⟩ : ByteArray).size < 4611686018427387904) := by
      show 1 + l.length < _; omega
    simp [sxa, isPtrN, PV.pcs, elAt, setEl, inAt, elIn, setIn, isLst, cellsOf, Ex.ok, Ex.val, Opd.val, POp.dst, bin_int, binOK_int, bin_str, binOK_str, resOK, resV, RB.val, sub, putc, scB, scL, oneB, conf, Ex.val.eqP, Ex.val.eqL, negV, mxV, mnV, ← wr_eq, wr_zero, wr_one, wr_m1, bst_lst, byteC, partsOK, putAll, appV, nilV, slV, sslV, optB, optNum, and_assoc, exists_and_left, exists_eq_left', h3, hsz, happ, e1, w1, h0, h4]
    exact ⟨q, by omega, rfl, by omega, rfl⟩
/-! BarText -/
def wText (n : Int) : ByteArray := if n < 1 then bs [] else if n < 1000 then dec n ++ bs [109] else dec (n / 1000) ++ bs [107, 109]
theorem f103' (n : Int) (h0 : 0 ≤ n) (h1 : n ≤ 9223372036854775807) : Fn Tryz.prog 103 false [i n] (.str (dec n)) := by
  obtain ⟨u, rfl⟩ : ∃ u : Nat, n = u := ⟨n.toNat, by omega⟩
  exact f103 u (by omega)
/-! references -/
def abc : ByteArray := bs [97, 98, 99, 100, 101, 102, 103, 104, 105, 106, 107, 108, 109, 110, 111, 112, 113, 114, 115, 116, 117]
def wRef (n : Int) : ByteArray := if 0 ≤ n ∧ n ≤ 440 then bs [97 + UInt8.ofNat (n % 21).toNat] ++ dec (n / 21) else bs []
theorem abc_at : ∀ k : _root_.Fin 21, abc.extract k.val (k.val + 1) = bs [97 + UInt8.ofNat k.val] := by decide +kernel
theorem f76 (n : Int) : Fn Tryz.prog 76 false [i n] (.str (wRef n)) := by
  refine Fn.by_sx hX (by kernel_rfl) c76 (by kernel_rfl) (by rfl) ?_
  simp [i76, sxa, isPtrN, PV.pcs, elAt, setEl, inAt, elIn, setIn, isLst, cellsOf, Ex.ok, Ex.val, Opd.val, POp.dst, bin_int, binOK_int, bin_str, binOK_str, resOK, resV, RB.val, sub, putc, scB, scL, oneB, conf, Ex.val.eqP, Ex.val.eqL, negV, mxV, mnV, ← wr_eq, wr_zero, wr_one, wr_m1, bst_lst, byteC, partsOK, putAll, appV, nilV, slV, sslV, optB, optNum, and_assoc, exists_and_left, exists_eq_left']
  refine CallS_b (f65 _ _ _) (fun h => ?_) (fun h => ?_)
  · have hr : 0 ≤ n ∧ n ≤ 440 := by simpa [inR] using h
    obtain ⟨u, rfl⟩ : ∃ u : Nat, n = u := ⟨n.toNat, by omega⟩
    obtain ⟨d, hd⟩ : ∃ d, u % 21 = d := ⟨_, rfl⟩
    obtain ⟨q, hq⟩ : ∃ q, u / 21 = q := ⟨_, rfl⟩
    have e1 : (u : Int).tmod 21 = d := by rw [Int.tmod_eq_emod_of_nonneg (by omega)]; omega
    have e2 : (u : Int) % 21 = d := by omega
    have e3 : (u : Int).tdiv 21 = q := by rw [Int.tdiv_eq_ediv_of_nonneg (by omega)]; omega
    have e4 : (u : Int) / 21 = q := by omega
    have w1 : wr .i64 ((d : Int) + 1) = d + 1 := wr_in (by omega) (by omega)
    have w2 : wr .i64 (q : Int) = q := wr_in (by omega) (by omega)
    have ha := abc_at ⟨d, by omega⟩
    have hwr : wRef u = bs [97 + UInt8.ofNat d] ++ dec q := by
      unfold wRef; rw [if_pos hr, e2, e4]; simp
    have hsz : (bs [97 + UInt8.ofNat d]).size + (dec q).size < 4611686018427387904 := by
      have := dec_size (n := q) (by omega) (by omega)
      show 1 + _ < _; omega
    have hab : abc.size = 21 := by decide +kernel
    unfold abc at ha hab
    simp only at ha
    repeat' (first | intro _ | (simp [sxa, isPtrN, PV.pcs, elAt, setEl, inAt, elIn, setIn, isLst, cellsOf, Ex.ok, Ex.val, Opd.val, POp.dst, bin_int, binOK_int, bin_str, binOK_str, resOK, resV, RB.val, sub, putc, scB, scL, oneB, conf, Ex.val.eqP, Ex.val.eqL, negV, mxV, mnV, ← wr_eq, wr_zero, wr_one, wr_m1, bst_lst, byteC, partsOK, putAll, appV, nilV, slV, sslV, optB, optNum, and_assoc, exists_and_left, exists_eq_left', *]) | refine CallS_i (f103 q (by omega)) ?_ | refine CondS_d (fun h => ?_) (fun h => ?_) | refine CondS_b (fun h => ?_) (fun h => ?_) | refine GrdS_d (fun h => ?_) (fun h => ?_) | refine GrdS_b (fun h => ?_) (fun h => ?_) | refine OkS_i (by omega) ?_ | fail)
  · have hr : wRef n = bs [] := by unfold wRef; rw [if_neg (by simpa [inR] using h)]
    repeat' (first | intro _ | (simp [sxa, isPtrN, PV.pcs, elAt, setEl, inAt, elIn, setIn, isLst, cellsOf, Ex.ok, Ex.val, Opd.val, POp.dst, bin_int, binOK_int, bin_str, binOK_str, resOK, resV, RB.val, sub, putc, scB, scL, oneB, conf, Ex.val.eqP, Ex.val.eqL, negV, mxV, mnV, ← wr_eq, wr_zero, wr_one, wr_m1, bst_lst, byteC, partsOK, putAll, appV, nilV, slV, sslV, optB, optNum, and_assoc, exists_and_left, exists_eq_left', *]) | refine CondS_d (fun h => ?_) (fun h => ?_) | refine CondS_b (fun h => ?_) (fun h => ?_) | refine GrdS_d (fun h => ?_) (fun h => ?_) | refine GrdS_b (fun h => ?_) (fun h => ?_) | refine OkS_i (by omega) ?_ | fail)
def cap2 (x : Int) : Int := if (200 : Int) < x then 200 else x
def tbox (n : Int) : List PV := if 0 ≤ n ∧ n ≤ 440 then [i (n % 21 * 10), i (n / 21 * 10), i (cap2 (n % 21 * 10 + 10)), i (cap2 (n / 21 * 10 + 10))] else [i 0, i 0, i 0, i 0]
theorem f66 (n : Int) : Fn Tryz.prog 66 false [i n] (.tup [.agg (tbox n), .bool (inR n 0 440)]) := by
  refine Fn.by_sx hX (by kernel_rfl) c66 (by kernel_rfl) (by rfl) ?_
  simp [i66, sxa, isPtrN, PV.pcs, elAt, setEl, inAt, elIn, setIn, isLst, cellsOf, Ex.ok, Ex.val, Opd.val, POp.dst, bin_int, binOK_int, bin_str, binOK_str, resOK, resV, RB.val, sub, putc, scB, scL, oneB, conf, Ex.val.eqP, Ex.val.eqL, negV, mxV, mnV, ← wr_eq, wr_zero, wr_one, wr_m1, bst_lst, byteC, partsOK, putAll, appV, nilV, slV, sslV, optB, optNum, and_assoc, exists_and_left, exists_eq_left']
  by_cases hr : 0 ≤ n ∧ n ≤ 440
  · have h : inR n 0 440 = true := by simpa [inR] using hr
    have hc := f64 n 0 440
    rw [h] at hc
    have e1 : n.tmod 21 = n % 21 := Int.tmod_eq_emod_of_nonneg (by omega)
    have e3 : n.tdiv 21 = n / 21 := Int.tdiv_eq_ediv_of_nonneg (by omega)
    obtain ⟨d, hd, hd2⟩ : ∃ d, n % 21 = d ∧ 0 ≤ d ∧ d ≤ 20 := ⟨_, rfl, by omega⟩
    obtain ⟨q, hq, hq2⟩ : ∃ q, n / 21 = q ∧ 0 ≤ q ∧ q ≤ 20 := ⟨_, rfl, by omega⟩
    have ht : tbox n = [i (d * 10), i (q * 10), i (cap2 (d * 10 + 10)), i (cap2 (q * 10 + 10))] := by unfold tbox; rw [if_pos hr, hd, hq]
    rw [hd] at e1
    rw [hq] at e3
    have w0 : wr .i64 q = q := wr_in (by omega) (by omega)
    have w1 : wr .i64 (d * 10) = d * 10 := wr_in (by omega) (by omega)
    have w2 : wr .i64 (q * 10) = q * 10 := wr_in (by omega) (by omega)
    have w3 : wr .i64 (d * 10 + 10) = d * 10 + 10 := wr_in (by omega) (by omega)
    have w4 : wr .i64 (q * 10 + 10) = q * 10 + 10 := wr_in (by omega) (by omega)
    rw [h]
    repeat' (first | intro _ | (simp [sxa, isPtrN, PV.pcs, elAt, setEl, inAt, elIn, setIn, isLst, cellsOf, Ex.ok, Ex.val, Opd.val, POp.dst, bin_int, binOK_int, bin_str, binOK_str, resOK, resV, RB.val, sub, putc, scB, scL, oneB, conf, Ex.val.eqP, Ex.val.eqL, negV, mxV, mnV, ← wr_eq, wr_zero, wr_one, wr_m1, bst_lst, byteC, partsOK, putAll, appV, nilV, slV, sslV, optB, optNum, and_assoc, exists_and_left, exists_eq_left', cap2, *]) | refine CallS_i (hc) ?_ | refine CondS_d (fun h => ?_) (fun h => ?_) | refine CondS_b (fun h => ?_) (fun h => ?_) | refine GrdS_d (fun h => ?_) (fun h => ?_) | refine GrdS_b (fun h => ?_) (fun h => ?_) | refine OkS_i (by omega) ?_ | fail)
  · have h : inR n 0 440 = false := by simpa [inR] using fun h => by omega
    have hc := f64 n 0 440
    rw [h] at hc
    have ht : tbox n = [i 0, i 0, i 0, i 0] := by unfold tbox; rw [if_neg hr]
    rw [h]
    repeat' (first | intro _ | (simp [sxa, isPtrN, PV.pcs, elAt, setEl, inAt, elIn, setIn, isLst, cellsOf, Ex.ok, Ex.val, Opd.val, POp.dst, bin_int, binOK_int, bin_str, binOK_str, resOK, resV, RB.val, sub, putc, scB, scL, oneB, conf, Ex.val.eqP, Ex.val.eqL, negV, mxV, mnV, ← wr_eq, wr_zero, wr_one, wr_m1, bst_lst, byteC, partsOK, putAll, appV, nilV, slV, sslV, optB, optNum, and_assoc, exists_and_left, exists_eq_left', *]) | refine CallS_i (hc) ?_ | refine CondS_d (fun h => ?_) (fun h => ?_) | refine CondS_b (fun h => ?_) (fun h => ?_) | refine GrdS_d (fun h => ?_) (fun h => ?_) | refine GrdS_b (fun h => ?_) (fun h => ?_) | refine OkS_i (by omega) ?_ | fail)
theorem tbox_4 (n : Int) : ∃ a b c d : Int, tbox n = [i a, i b, i c, i d] := by
  unfold tbox; split <;> exact ⟨_, _, _, _, rfl⟩
theorem f35 (n : Int) : Fn Tryz.prog 35 false [i n] (.str (wRef n)) := by
  have hc := f66 n
  obtain ⟨b0, b1, b2, b3, hb⟩ := tbox_4 n
  rw [hb] at hc
  refine Fn.by_sx hX (by kernel_rfl) c35 (by kernel_rfl) (by rfl) ?_
  simp [i35, sxa, isPtrN, PV.pcs, elAt, setEl, inAt, elIn, setIn, isLst, cellsOf, Ex.ok, Ex.val, Opd.val, POp.dst, bin_int, binOK_int, bin_str, binOK_str, resOK, resV, RB.val, sub, putc, scB, scL, oneB, conf, Ex.val.eqP, Ex.val.eqL, negV, mxV, mnV, ← wr_eq, wr_zero, wr_one, wr_m1, bst_lst, byteC, partsOK, putAll, appV, nilV, slV, sslV, optB, optNum, and_assoc, exists_and_left, exists_eq_left']
  by_cases hr : 0 ≤ n ∧ n ≤ 440
  · have h : inR n 0 440 = true := by simpa [inR] using hr
    rw [h] at hc
    obtain ⟨u, rfl⟩ : ∃ u : Nat, n = u := ⟨n.toNat, by omega⟩
    obtain ⟨d, hd⟩ : ∃ d, u % 21 = d := ⟨_, rfl⟩
    obtain ⟨q, hq⟩ : ∃ q, u / 21 = q := ⟨_, rfl⟩
    have e1 : (u : Int).tmod 21 = d := by rw [Int.tmod_eq_emod_of_nonneg (by omega)]; omega
    have e2 : (u : Int) % 21 = d := by omega
    have e3 : (u : Int).tdiv 21 = q := by rw [Int.tdiv_eq_ediv_of_nonneg (by omega)]; omega
    have e4 : (u : Int) / 21 = q := by omega
    have w1 : wr .i64 (97 + (d : Int)) = 97 + d := wr_in (by omega) (by omega)
    have w3 : wr .u8 (97 + (d : Int)) = 97 + d := wr_u8 (by omega) (by omega)
    have w2 : wr .i64 (q : Int) = q := wr_in (by omega) (by omega)
    have hwr : wRef u = bs [97 + UInt8.ofNat d] ++ dec q := by
      unfold wRef; rw [if_pos hr, e2, e4]; simp
    have hbb : (97 + (d : Int)).toNat = 97 + d := by omega
    have hsz : (bs [97 + UInt8.ofNat d]).size + (dec q).size < 4611686018427387904 := by
      have := dec_size (n := q) (by omega) (by omega)
      show 1 + _ < _; omega
    repeat' (first | intro _ | (simp [sxa, isPtrN, PV.pcs, elAt, setEl, inAt, elIn, setIn, isLst, cellsOf, Ex.ok, Ex.val, Opd.val, POp.dst, bin_int, binOK_int, bin_str, binOK_str, resOK, resV, RB.val, sub, putc, scB, scL, oneB, conf, Ex.val.eqP, Ex.val.eqL, negV, mxV, mnV, ← wr_eq, wr_zero, wr_one, wr_m1, bst_lst, byteC, partsOK, putAll, appV, nilV, slV, sslV, optB, optNum, and_assoc, exists_and_left, exists_eq_left', *]) | refine CallS_i (hc) ?_ | refine CallS_i (f70 q (by omega) (by omega)) ?_ | refine CondS_d (fun h => ?_) (fun h => ?_) | refine CondS_b (fun h => ?_) (fun h => ?_) | refine GrdS_d (fun h => ?_) (fun h => ?_) | refine GrdS_b (fun h => ?_) (fun h => ?_) | refine OkS_i (by omega) ?_ | fail)
    refine OkS_i ⟨[97 + (d : Int)], rfl⟩ ?_
    repeat' (first | intro _ | (simp [sxa, isPtrN, PV.pcs, elAt, setEl, inAt, elIn, setIn, isLst, cellsOf, Ex.ok, Ex.val, Opd.val, POp.dst, bin_int, binOK_int, bin_str, binOK_str, resOK, resV, RB.val, sub, putc, scB, scL, oneB, conf, Ex.val.eqP, Ex.val.eqL, negV, mxV, mnV, ← wr_eq, wr_zero, wr_one, wr_m1, bst_lst, byteC, partsOK, putAll, appV, nilV, slV, sslV, optB, optNum, and_assoc, exists_and_left, exists_eq_left', *]) | refine CallS_i (hc) ?_ | refine CallS_i (f70 q (by omega) (by omega)) ?_ | refine CondS_d (fun h => ?_) (fun h => ?_) | refine CondS_b (fun h => ?_) (fun h => ?_) | refine GrdS_d (fun h => ?_) (fun h => ?_) | refine GrdS_b (fun h => ?_) (fun h => ?_) | refine OkS_i (by omega) ?_ | fail)
  · have h : inR n 0 440 = false := by simpa [inR] using fun h => by omega
    rw [h] at hc
    have hwr : wRef n = bs [] := by unfold wRef; rw [if_neg hr]
    repeat' (first | intro _ | (simp [sxa, isPtrN, PV.pcs, elAt, setEl, inAt, elIn, setIn, isLst, cellsOf, Ex.ok, Ex.val, Opd.val, POp.dst, bin_int, binOK_int, bin_str, binOK_str, resOK, resV, RB.val, sub, putc, scB, scL, oneB, conf, Ex.val.eqP, Ex.val.eqL, negV, mxV, mnV, ← wr_eq, wr_zero, wr_one, wr_m1, bst_lst, byteC, partsOK, putAll, appV, nilV, slV, sslV, optB, optNum, and_assoc, exists_and_left, exists_eq_left', *]) | refine CallS_i (hc) ?_ | refine CondS_d (fun h => ?_) (fun h => ?_) | refine CondS_b (fun h => ?_) (fun h => ?_) | refine GrdS_d (fun h => ?_) (fun h => ?_) | refine GrdS_b (fun h => ?_) (fun h => ?_) | refine OkS_i (by omega) ?_ | fail)
def isP (x y : Int) : Bool := inR x 0 200 && inR y 0 200
theorem isP_eq (x y : Int) : M_IsPoint x y = isP x y := by
  simp [M_IsPoint, isP, inR]
  all_goals omega
def wTile (x y : Int) : Int := if isP x y = true then y / 10 * 21 + x / 10 else -1
theorem f77 (x y : Int) : Fn Tryz.prog 77 false [.agg [i x, i y]] (i (wTile x y)) := by
  refine Fn.by_sx hX (by kernel_rfl) c77 (by kernel_rfl) (by rfl) ?_
  simp [i77, sxa, isPtrN, PV.pcs, elAt, setEl, inAt, elIn, setIn, isLst, cellsOf, Ex.ok, Ex.val, Opd.val, POp.dst, bin_int, binOK_int, bin_str, binOK_str, resOK, resV, RB.val, sub, putc, scB, scL, oneB, conf, Ex.val.eqP, Ex.val.eqL, negV, mxV, mnV, ← wr_eq, wr_zero, wr_one, wr_m1, bst_lst, byteC, partsOK, putAll, appV, nilV, slV, sslV, optB, optNum, and_assoc, exists_and_left, exists_eq_left']
  by_cases h : isP x y = true
  · have hr : (0 ≤ x ∧ x ≤ 200) ∧ (0 ≤ y ∧ y ≤ 200) := by simpa [isP, inR] using h
    have ht : wTile x y = y / 10 * 21 + x / 10 := by unfold wTile; rw [if_pos h]
    have e1 : y.tdiv 10 = y / 10 := Int.tdiv_eq_ediv_of_nonneg (by omega)
    have e2 : x.tdiv 10 = x / 10 := Int.tdiv_eq_ediv_of_nonneg (by omega)
    obtain ⟨p, hp⟩ : ∃ p, y / 10 = p := ⟨_, rfl⟩
    obtain ⟨q, hq⟩ : ∃ q, x / 10 = q := ⟨_, rfl⟩
    rw [hp] at e1
    rw [hq] at e2
    have w0 : wr .i64 p = p := wr_in (by omega) (by omega)
    have w1 : wr .i64 q = q := wr_in (by omega) (by omega)
    have w2 : wr .i64 (p * 21) = p * 21 := wr_in (by omega) (by omega)
    have w3 : wr .i64 (p * 21 + q) = p * 21 + q := wr_in (by omega) (by omega)
    have hc := f29 x y
    rw [isP_eq] at hc
    rw [h] at hc
    repeat' (first | intro _ | (simp [sxa, isPtrN, PV.pcs, elAt, setEl, inAt, elIn, setIn, isLst, cellsOf, Ex.ok, Ex.val, Opd.val, POp.dst, bin_int, binOK_int, bin_str, binOK_str, resOK, resV, RB.val, sub, putc, scB, scL, oneB, conf, Ex.val.eqP, Ex.val.eqL, negV, mxV, mnV, ← wr_eq, wr_zero, wr_one, wr_m1, bst_lst, byteC, partsOK, putAll, appV, nilV, slV, sslV, optB, optNum, and_assoc, exists_and_left, exists_eq_left', *]) | refine CallS_i (hc) ?_ | refine CondS_d (fun h => ?_) (fun h => ?_) | refine CondS_b (fun h => ?_) (fun h => ?_) | refine GrdS_d (fun h => ?_) (fun h => ?_) | refine GrdS_b (fun h => ?_) (fun h => ?_) | refine OkS_i (by omega) ?_ | fail)
  · have ht : wTile x y = -1 := by unfold wTile; rw [if_neg h]
    have hc := f29 x y
    rw [isP_eq] at hc
    rw [show isP x y = false by simpa using h] at hc
    repeat' (first | intro _ | (simp [sxa, isPtrN, PV.pcs, elAt, setEl, inAt, elIn, setIn, isLst, cellsOf, Ex.ok, Ex.val, Opd.val, POp.dst, bin_int, binOK_int, bin_str, binOK_str, resOK, resV, RB.val, sub, putc, scB, scL, oneB, conf, Ex.val.eqP, Ex.val.eqL, negV, mxV, mnV, ← wr_eq, wr_zero, wr_one, wr_m1, bst_lst, byteC, partsOK, putAll, appV, nilV, slV, sslV, optB, optNum, and_assoc, exists_and_left, exists_eq_left', *]) | refine CallS_i (hc) ?_ | refine CondS_d (fun h => ?_) (fun h => ?_) | refine CondS_b (fun h => ?_) (fun h => ?_) | refine GrdS_d (fun h => ?_) (fun h => ?_) | refine GrdS_b (fun h => ?_) (fun h => ?_) | refine OkS_i (by omega) ?_ | fail)

theorem f30 (x y : Int) : Fn Tryz.prog 30 false [.agg [i x, i y]] (i (wTile x y)) := by
  refine Fn.by_sx hX (by kernel_rfl) c30 (by kernel_rfl) (by rfl) ?_
  simp [i30, sxa, isPtrN, PV.pcs, elAt, setEl, inAt, elIn, setIn, isLst, cellsOf, Ex.ok, Ex.val, Opd.val, POp.dst, bin_int, binOK_int, bin_str, binOK_str, resOK, resV, RB.val, sub, putc, scB, scL, oneB, conf, Ex.val.eqP, Ex.val.eqL, negV, mxV, mnV, ← wr_eq, wr_zero, wr_one, wr_m1, bst_lst, byteC, partsOK, putAll, appV, nilV, slV, sslV, optB, optNum, and_assoc, exists_and_left, exists_eq_left']
  by_cases h : isP x y = true
  · have hr : (0 ≤ x ∧ x ≤ 200) ∧ (0 ≤ y ∧ y ≤ 200) := by simpa [isP, inR] using h
    have ht : wTile x y = y / 10 * 21 + x / 10 := by unfold wTile; rw [if_pos h]
    have e1 : y.tdiv 10 = y / 10 := Int.tdiv_eq_ediv_of_nonneg (by omega)
    have e2 : x.tdiv 10 = x / 10 := Int.tdiv_eq_ediv_of_nonneg (by omega)
    obtain ⟨p, hp⟩ : ∃ p, y / 10 = p := ⟨_, rfl⟩
    obtain ⟨q, hq⟩ : ∃ q, x / 10 = q := ⟨_, rfl⟩
    rw [hp] at e1
    rw [hq] at e2
    have w0 : wr .i64 p = p := wr_in (by omega) (by omega)
    have w1 : wr .i64 q = q := wr_in (by omega) (by omega)
    have w2 : wr .i64 (p * 21) = p * 21 := wr_in (by omega) (by omega)
    have w3 : wr .i64 (p * 21 + q) = p * 21 + q := wr_in (by omega) (by omega)
    have hc := f28 x y
    rw [isP_eq] at hc
    rw [h] at hc
    repeat' (first | intro _ | (simp [sxa, isPtrN, PV.pcs, elAt, setEl, inAt, elIn, setIn, isLst, cellsOf, Ex.ok, Ex.val, Opd.val, POp.dst, bin_int, binOK_int, bin_str, binOK_str, resOK, resV, RB.val, sub, putc, scB, scL, oneB, conf, Ex.val.eqP, Ex.val.eqL, negV, mxV, mnV, ← wr_eq, wr_zero, wr_one, wr_m1, bst_lst, byteC, partsOK, putAll, appV, nilV, slV, sslV, optB, optNum, and_assoc, exists_and_left, exists_eq_left', *]) | refine CallS_i (hc) ?_ | refine CondS_d (fun h => ?_) (fun h => ?_) | refine CondS_b (fun h => ?_) (fun h => ?_) | refine GrdS_d (fun h => ?_) (fun h => ?_) | refine GrdS_b (fun h => ?_) (fun h => ?_) | refine OkS_i (by omega) ?_ | fail)
  · have ht : wTile x y = -1 := by unfold wTile; rw [if_neg h]
    have hc := f28 x y
    rw [isP_eq] at hc
    rw [show isP x y = false by simpa using h] at hc
    repeat' (first | intro _ | (simp [sxa, isPtrN, PV.pcs, elAt, setEl, inAt, elIn, setIn, isLst, cellsOf, Ex.ok, Ex.val, Opd.val, POp.dst, bin_int, binOK_int, bin_str, binOK_str, resOK, resV, RB.val, sub, putc, scB, scL, oneB, conf, Ex.val.eqP, Ex.val.eqL, negV, mxV, mnV, ← wr_eq, wr_zero, wr_one, wr_m1, bst_lst, byteC, partsOK, putAll, appV, nilV, slV, sslV, optB, optNum, and_assoc, exists_and_left, exists_eq_left', *]) | refine CallS_i (hc) ?_ | refine CondS_d (fun h => ?_) (fun h => ?_) | refine CondS_b (fun h => ?_) (fun h => ?_) | refine GrdS_d (fun h => ?_) (fun h => ?_) | refine GrdS_b (fun h => ?_) (fun h => ?_) | refine OkS_i (by omega) ?_ | fail)
theorem f41 (x y : Int) : Fn Tryz.prog 41 false [.agg [i x, i y]] (.str (wRef (wTile x y))) := by
  refine Fn.by_sx hX (by kernel_rfl) c41 (by kernel_rfl) (by rfl) ?_
  simp [i41, sxa, isPtrN, PV.pcs, elAt, setEl, inAt, elIn, setIn, isLst, cellsOf, Ex.ok, Ex.val, Opd.val, POp.dst, bin_int, binOK_int, bin_str, binOK_str, resOK, resV, RB.val, sub, putc, scB, scL, oneB, conf, Ex.val.eqP, Ex.val.eqL, negV, mxV, mnV, ← wr_eq, wr_zero, wr_one, wr_m1, bst_lst, byteC, partsOK, putAll, appV, nilV, slV, sslV, optB, optNum, and_assoc, exists_and_left, exists_eq_left']
  repeat' (first | intro _ | (simp [sxa, isPtrN, PV.pcs, elAt, setEl, inAt, elIn, setIn, isLst, cellsOf, Ex.ok, Ex.val, Opd.val, POp.dst, bin_int, binOK_int, bin_str, binOK_str, resOK, resV, RB.val, sub, putc, scB, scL, oneB, conf, Ex.val.eqP, Ex.val.eqL, negV, mxV, mnV, ← wr_eq, wr_zero, wr_one, wr_m1, bst_lst, byteC, partsOK, putAll, appV, nilV, slV, sslV, optB, optNum, and_assoc, exists_and_left, exists_eq_left', *]) | refine CallS_i (f77 _ _) ?_ | refine CallS_i (f76 _) ?_ | refine CondS_d (fun h => ?_) (fun h => ?_) | refine CondS_b (fun h => ?_) (fun h => ?_) | refine GrdS_d (fun h => ?_) (fun h => ?_) | refine GrdS_b (fun h => ?_) (fun h => ?_) | refine OkS_i (by omega) ?_ | fail)

theorem f26 (x y : Int) : Fn Tryz.prog 26 false [.agg [i x, i y]] (.str (wRef (wTile x y))) := by
  refine Fn.by_sx hX (by kernel_rfl) c26 (by kernel_rfl) (by rfl) ?_
  simp [i26, sxa, isPtrN, PV.pcs, elAt, setEl, inAt, elIn, setIn, isLst, cellsOf, Ex.ok, Ex.val, Opd.val, POp.dst, bin_int, binOK_int, bin_str, binOK_str, resOK, resV, RB.val, sub, putc, scB, scL, oneB, conf, Ex.val.eqP, Ex.val.eqL, negV, mxV, mnV, ← wr_eq, wr_zero, wr_one, wr_m1, bst_lst, byteC, partsOK, putAll, appV, nilV, slV, sslV, optB, optNum, and_assoc, exists_and_left, exists_eq_left']
  repeat' (first | intro _ | (simp [sxa, isPtrN, PV.pcs, elAt, setEl, inAt, elIn, setIn, isLst, cellsOf, Ex.ok, Ex.val, Opd.val, POp.dst, bin_int, binOK_int, bin_str, binOK_str, resOK, resV, RB.val, sub, putc, scB, scL, oneB, conf, Ex.val.eqP, Ex.val.eqL, negV, mxV, mnV, ← wr_eq, wr_zero, wr_one, wr_m1, bst_lst, byteC, partsOK, putAll, appV, nilV, slV, sslV, optB, optNum, and_assoc, exists_and_left, exists_eq_left', *]) | refine CallS_i (f30 _ _) ?_ | refine CallS_i (f35 _) ?_ | refine CondS_d (fun h => ?_) (fun h => ?_) | refine CondS_b (fun h => ?_) (fun h => ?_) | refine GrdS_d (fun h => ?_) (fun h => ?_) | refine GrdS_b (fun h => ?_) (fun h => ?_) | refine OkS_i (by omega) ?_ | fail)
end Go.Eng
namespace Go.Eng
open Go Go.Proofs
set_option linter.unusedSimpArgs false
set_option linter.unusedVariables false
set_option maxRecDepth 20000
set_option maxHeartbeats 1000000

/-! lists of listings: sizes, copies, what is read as it was -/
structure Li where
  f0 : ByteArray
  f1 : Int
  f2 : ByteArray
def li (x : Li) : List PV := [.str x.f0, i x.f1, .str x.f2]
def liD : Li := ⟨⟨#[]⟩, 0, ⟨#[]⟩⟩
def wtLi (x : Li) : Nat := x.f0.size + x.f2.size
def Li.fits (x : Li) : Prop := x.f0.size ≤ 9223372036854775807 ∧ x.f2.size ≤ 9223372036854775807
def wtToL (l : List Li) (n : Nat) : Nat := ((l.take n).map fun x => wtLi x).sum
theorem wtToL_zero (l : List Li) : wtToL l 0 = 0 := rfl
theorem wtToL_succ {l : List Li} {n : Nat} (h : n < l.length) : wtToL l (n + 1) = wtToL l n + wtLi l[n] := by
  unfold wtToL
  rw [List.take_add_one, List.getElem?_eq_getElem h, List.map_append, List.sum_append]
  simp
theorem wtToL_le {l : List Li} {n m : Nat} (h : n ≤ m) : wtToL l n ≤ wtToL l m := by
  unfold wtToL
  have : l.take m = l.take n ++ (l.take m).drop n := by
    have := List.take_append_drop n (l.take m)
    rw [List.take_take, Nat.min_eq_left h] at this
    exact this.symm
  rw [this, List.map_append, List.sum_append]
  omega
def wtLL (l : List Li) : Nat := l.length + wtToL l l.length
def liz : List PV := [.str (bs []), i 0, .str (bs [])]
theorem f49 (x : Li) : Fn Tryz.prog 49 false [.agg (li x), .agg (li x)] (.bool true) := by
  unfold li
  refine Fn.by_sx hX (by kernel_rfl) c49 (by kernel_rfl) (by rfl) ?_
  simp [i49, sxa, isPtrN, PV.pcs, elAt, setEl, inAt, elIn, setIn, isLst, cellsOf, Ex.ok, Ex.val, Opd.val, POp.dst, bin_int, binOK_int, bin_str, binOK_str, resOK, resV, RB.val, sub, putc, scB, scL, oneB, conf, Ex.val.eqP, Ex.val.eqL, negV, mxV, mnV, ← wr_eq, wr_zero, wr_one, wr_m1, bst_lst, byteC, partsOK, putAll, appV, nilV, slV, sslV, optB, optNum, and_assoc, exists_and_left, exists_eq_left']
  repeat' (first | intro _ | (simp [sxa, isPtrN, PV.pcs, elAt, setEl, inAt, elIn, setIn, isLst, cellsOf, Ex.ok, Ex.val, Opd.val, POp.dst, bin_int, binOK_int, bin_str, binOK_str, resOK, resV, RB.val, sub, putc, scB, scL, oneB, conf, Ex.val.eqP, Ex.val.eqL, negV, mxV, mnV, ← wr_eq, wr_zero, wr_one, wr_m1, bst_lst, byteC, partsOK, putAll, appV, nilV, slV, sslV, optB, optNum, and_assoc, exists_and_left, exists_eq_left', *]) | refine CondS_d (fun h => ?_) (fun h => ?_) | refine CondS_b (fun h => ?_) (fun h => ?_) | refine GrdS_d (fun h => ?_) (fun h => ?_) | refine GrdS_b (fun h => ?_) (fun h => ?_) | refine OkS_i (by omega) ?_ | fail)
theorem f10 (l : List Li) (n1 n2 : Bool) (hl : l.length ≤ 1000000000000) : Fn Tryz.prog 10 false [.lst 3 n1 (l.map li), .lst 3 n2 (l.map li)] (.bool true) := by
  refine Fn.by_sx hX (by kernel_rfl) c10 (by kernel_rfl) (by rfl) ?_
  simp [i10, sxa, isPtrN, PV.pcs, elAt, setEl, inAt, elIn, setIn, isLst, cellsOf, Ex.ok, Ex.val, Opd.val, POp.dst, bin_int, binOK_int, bin_str, binOK_str, resOK, resV, RB.val, sub, putc, scB, scL, oneB, conf, Ex.val.eqP, Ex.val.eqL, negV, mxV, mnV, ← wr_eq, wr_zero, wr_one, wr_m1, bst_lst, byteC, partsOK, putAll, appV, nilV, slV, sslV, optB, optNum, and_assoc, exists_and_left, exists_eq_left']
  repeat' (first | intro _ | (simp [sxa, isPtrN, PV.pcs, elAt, setEl, inAt, elIn, setIn, isLst, cellsOf, Ex.ok, Ex.val, Opd.val, POp.dst, bin_int, binOK_int, bin_str, binOK_str, resOK, resV, RB.val, sub, putc, scB, scL, oneB, conf, Ex.val.eqP, Ex.val.eqL, negV, mxV, mnV, ← wr_eq, wr_zero, wr_one, wr_m1, bst_lst, byteC, partsOK, putAll, appV, nilV, slV, sslV, optB, optNum, and_assoc, exists_and_left, exists_eq_left', *]) | refine CondS_d (fun h => ?_) (fun h => ?_) | refine CondS_b (fun h => ?_) (fun h => ?_) | refine GrdS_d (fun h => ?_) (fun h => ?_) | refine GrdS_b (fun h => ?_) (fun h => ?_) | refine OkS_i (by omega) ?_ | fail)
  refine sx_count l.length (fun n V => V 0 = .lst 3 n1 (l.map li) ∧ V 1 = .lst 3 n2 (l.map li) ∧ V 5 = i n) 0 (by omega) (by simp [sxa, isPtrN, PV.pcs, elAt, setEl, inAt, elIn, setIn, isLst, cellsOf, Ex.ok, Ex.val, Opd.val, POp.dst, bin_int, binOK_int, bin_str, binOK_str, resOK, resV, RB.val, sub, putc, scB, scL, oneB, conf, Ex.val.eqP, Ex.val.eqL, negV, mxV, mnV, ← wr_eq, wr_zero, wr_one, wr_m1, bst_lst, byteC, partsOK, putAll, appV, nilV, slV, sslV, optB, optNum, and_assoc, exists_and_left, exists_eq_left']) ?_
  rintro n V hn ⟨h0, h1, h5⟩
  have hw : wr .i64 ((n : Int) + 1) = n + 1 := wr_in (by omega) (by omega)
  simp [sxa, isPtrN, PV.pcs, elAt, setEl, inAt, elIn, setIn, isLst, cellsOf, Ex.ok, Ex.val, Opd.val, POp.dst, bin_int, binOK_int, bin_str, binOK_str, resOK, resV, RB.val, sub, putc, scB, scL, oneB, conf, Ex.val.eqP, Ex.val.eqL, negV, mxV, mnV, ← wr_eq, wr_zero, wr_one, wr_m1, bst_lst, byteC, partsOK, putAll, appV, nilV, slV, sslV, optB, optNum, and_assoc, exists_and_left, exists_eq_left', h0, h5]
  refine CondS_d (fun hlt => ?_) (fun hge => ?_)
  · have hlt' : n < l.length := by omega
    have hc := f49 l[n]
    unfold li at hc
    repeat' (first | intro _ | (simp [sxa, isPtrN, PV.pcs, elAt, setEl, inAt, elIn, setIn, isLst, cellsOf, Ex.ok, Ex.val, Opd.val, POp.dst, bin_int, binOK_int, bin_str, binOK_str, resOK, resV, RB.val, sub, putc, scB, scL, oneB, conf, Ex.val.eqP, Ex.val.eqL, negV, mxV, mnV, ← wr_eq, wr_zero, wr_one, wr_m1, bst_lst, byteC, partsOK, putAll, appV, nilV, slV, sslV, optB, optNum, and_assoc, exists_and_left, exists_eq_left', li, *]) | refine CallS_i (hc) ?_ | refine CondS_d (fun h => ?_) (fun h => ?_) | refine CondS_b (fun h => ?_) (fun h => ?_) | refine GrdS_d (fun h => ?_) (fun h => ?_) | refine GrdS_b (fun h => ?_) (fun h => ?_) | refine OkS_i (by omega) ?_ | fail)
    all_goals simp_all
  · have : n = l.length := by omega
    subst this
    repeat' (first | intro _ | (simp [sxa, isPtrN, PV.pcs, elAt, setEl, inAt, elIn, setIn, isLst, cellsOf, Ex.ok, Ex.val, Opd.val, POp.dst, bin_int, binOK_int, bin_str, binOK_str, resOK, resV, RB.val, sub, putc, scB, scL, oneB, conf, Ex.val.eqP, Ex.val.eqL, negV, mxV, mnV, ← wr_eq, wr_zero, wr_one, wr_m1, bst_lst, byteC, partsOK, putAll, appV, nilV, slV, sslV, optB, optNum, and_assoc, exists_and_left, exists_eq_left', *]) | refine CondS_d (fun h => ?_) (fun h => ?_) | refine CondS_b (fun h => ?_) (fun h => ?_) | refine GrdS_d (fun h => ?_) (fun h => ?_) | refine GrdS_b (fun h => ?_) (fun h => ?_) | refine OkS_i (by omega) ?_ | fail)
theorem wtLL_len (l : List Li) : l.length ≤ wtLL l := Nat.le_add_right ..
end Go.Eng
namespace Go.Eng
open Go Go.Proofs Go.Sort Go.Shelf Geo
set_option linter.unusedSimpArgs false
set_option linter.unusedVariables false
set_option maxRecDepth 20000

/-! listings in their order -/
def bl (a b : ByteArray) : Bool := Op.bytesLess a.toList b.toList
theorem bl_lt {a b : ByteArray} : bl a b = true ↔ a.toList < b.toList := by unfold bl; rw [bytesLess_eq]; simp
theorem bl_irr (a : ByteArray) : bl a a = false := by
  cases h : bl a a
  · rfl
  · exact absurd (bl_lt.1 h) (List.lt_irrefl _)
theorem bl_tr {a b c : ByteArray} (h : bl a b = true) (h2 : bl b c = true) : bl a c = true := bl_lt.2 (List.lt_trans (bl_lt.1 h) (bl_lt.1 h2))
theorem bl_tri {a b : ByteArray} (h : bl a b = false) (h2 : bl b a = false) : a = b := by
  have h1' : ¬ a.toList < b.toList := fun hh => by rw [bl_lt.2 hh] at h; cases h
  have h2' : ¬ b.toList < a.toList := fun hh => by rw [bl_lt.2 hh] at h2; cases h2
  have e : a.toList = b.toList := List.le_antisymm (List.not_lt.1 h2') (List.not_lt.1 h1')
  have := bytes_beq a b
  rw [e] at this
  simpa using this.symm
def ltLi (x y : Li) : Bool := bl x.f0 y.f0 || (decide (x.f0 = y.f0) && decide (x.f1 < y.f1))
theorem ltLi_irr (x : Li) : ltLi x x = false := by simp [ltLi, bl_irr]
theorem ltLi_tr {x y z : Li} (h : ltLi x y = true) (h2 : ltLi y z = true) : ltLi x z = true := by
  unfold ltLi at *
  simp only [Bool.or_eq_true, Bool.and_eq_true, decide_eq_true_eq] at *
  rcases h with h | ⟨h, hl⟩ <;> rcases h2 with h2 | ⟨h2, hl2⟩
  · exact .inl (bl_tr h h2)
  · exact .inl (by rw [← h2]; exact h)
  · exact .inl (by rw [h]; exact h2)
  · exact .inr ⟨h.trans h2, by omega⟩
theorem ltLi_tri {x y : Li} (h : ltLi x y = false) (h2 : ltLi y x = false) : x.f0 = y.f0 ∧ x.f1 = y.f1 := by
  unfold ltLi at *
  simp only [Bool.or_eq_false_iff, Bool.and_eq_false_iff, decide_eq_false_iff_not] at *
  have e := bl_tri h.1 h2.1
  refine ⟨e, ?_⟩
  rcases h.2 with h3 | h3
  · exact absurd e h3
  · rcases h2.2 with h4 | h4
    · exact absurd e.symm h4
    · omega
theorem ltLi_ntr {x y z : Li} (h : ltLi x y = false) (h2 : ltLi y z = false) : ltLi x z = false := by
  cases hxz : ltLi x z
  · rfl
  · exfalso
    cases hyx : ltLi y x
    · have e := ltLi_tri h hyx
      unfold ltLi at hxz h2
      rw [e.1, e.2, h2] at hxz
      cases hxz
    · rw [ltLi_tr hyx hxz] at h2; cases h2
def cfLi (x y : Li) : Int := if bl x.f0 y.f0 = true then -1 else if x.f0 = y.f0 then sgn (x.f1 - y.f1) else 1
theorem lt_cf (x y : Li) : ltOf cfLi x y = ltLi x y := by
  unfold ltOf cfLi ltLi
  by_cases h : bl x.f0 y.f0 = true
  · simp [h]
  · rw [if_neg h]
    by_cases h2 : x.f0 = y.f0
    · have := sgn_neg (x.f1 - y.f1)
      have h' : bl x.f0 y.f0 = false := by simpa using h
      rw [if_pos h2, h', decide_eq_true h2, Bool.eq_iff_iff]
      simp
      rw [this]; omega
    · simp [h2, h]
theorem swoLi : SWO (ltOf cfLi) := ⟨fun x => by rw [lt_cf]; exact ltLi_irr x, fun x y z h h2 => by rw [lt_cf] at *; exact ltLi_tr h h2, fun x y z h h2 => by rw [lt_cf] at *; exact ltLi_ntr h h2⟩
/-! a place is looked for from behind -/
def insK (x : Li) (l : List Li) : Nat → Nat
  | 0 => 0
  | k + 1 => if ltLi x (l.getD k liD) = true then insK x l k else k + 1
theorem insK_le (x : Li) (l : List Li) (k : Nat) : insK x l k ≤ k := by
  induction k with
  | zero => exact Nat.le_refl _
  | succ k ih => unfold insK; split <;> omega
theorem insK_hi {x : Li} {l : List Li} : ∀ k j, insK x l k ≤ j → j < k → ltLi x (l.getD j liD) = true := by
  intro k
  induction k with
  | zero => intro j _ h; omega
  | succ k ih =>
    intro j h1 h2
    unfold insK at h1
    split at h1
    · rename_i h
      rcases Nat.lt_or_ge j k with h3 | h3
      · exact ih j h1 h3
      · obtain rfl : j = k := by omega
        exact h
    · omega
theorem insK_lo {x : Li} {l : List Li} : ∀ k, 0 < insK x l k → ltLi x (l.getD (insK x l k - 1) liD) = false := by
  intro k
  induction k with
  | zero => intro h; exact absurd h (by simp [insK])
  | succ k ih =>
    intro h
    unfold insK at h ⊢
    split
    · rename_i h2; rw [if_pos h2] at h; exact ih h
    · rename_i h2; simpa using h2
def insL (x : Li) (l : List Li) : List Li := l.take (insK x l l.length) ++ x :: l.drop (insK x l l.length)
def srd (l : List Li) : Prop := l.Pairwise fun a b => ltLi b a = false
theorem insL_perm (x : Li) (l : List Li) : (insL x l).Perm (x :: l) := by
  unfold insL
  refine List.perm_middle.trans ?_
  rw [List.take_append_drop]
theorem insL_srd {x : Li} {l : List Li} (h : srd l) : srd (insL x l) := by
  unfold srd insL at *
  have hk := insK_le x l l.length
  have hg : ∀ j, j < l.length → l.getD j liD = l[j]?.getD liD := fun j _ => by simp
  have hdrop : ∀ b ∈ l.drop (insK x l l.length), ltLi x b = true := by
    intro b hb
    obtain ⟨j, hj⟩ := List.mem_iff_getElem?.1 hb
    rw [List.getElem?_drop] at hj
    have hlt : insK x l l.length + j < l.length := by
      rcases Nat.lt_or_ge (insK x l l.length + j) l.length with h1 | h1
      · exact h1
      · rw [List.getElem?_eq_none h1] at hj; cases hj
    have := insK_hi (x := x) (l := l) l.length (insK x l l.length + j) (by omega) hlt
    rw [hg _ hlt, hj] at this
    exact this
  have htake : ∀ a ∈ l.take (insK x l l.length), ltLi x a = false := by
    intro a ha
    obtain ⟨j, hj⟩ := List.mem_iff_getElem?.1 ha
    have hjk : j < insK x l l.length := by
      rcases Nat.lt_or_ge j (insK x l l.length) with h1 | h1
      · exact h1
      · rw [List.getElem?_eq_none (by simp; omega)] at hj; cases hj
    rw [List.getElem?_take_of_lt hjk] at hj
    have hlo := insK_lo (x := x) (l := l) l.length (by omega)
    have hlast : insK x l l.length - 1 < l.length := by omega
    rw [hg _ hlast, List.getElem?_eq_getElem hlast, Option.getD_some] at hlo
    have hjl : j < l.length := by omega
    rw [List.getElem?_eq_getElem hjl] at hj
    obtain rfl := Option.some.inj hj
    rcases Nat.lt_or_ge j (insK x l l.length - 1) with h1 | h1
    · exact ltLi_ntr hlo (List.pairwise_iff_getElem.1 h j _ hjl hlast h1)
    · have : j = insK x l l.length - 1 := by omega
      subst this; exact hlo
  rw [List.pairwise_append]
  refine ⟨h.sublist (List.take_sublist ..), List.pairwise_cons.2 ⟨fun b hb => ?_, h.sublist (List.drop_sublist ..)⟩, fun a ha b hb => ?_⟩
  · cases hbx : ltLi b x
    · rfl
    · have := ltLi_tr hbx (hdrop b hb); rw [ltLi_irr] at this; cases this
  · rcases List.mem_cons.1 hb with rfl | hb
    · exact htake a ha
    · cases hba : ltLi b a
      · rfl
      · have := ltLi_tr (hdrop b hb) hba
        rw [htake a ha] at this; cases this
def insTo (d : List Li) : Nat → List Li
  | 0 => []
  | n + 1 => insL (d.getD n liD) (insTo d n)
theorem insTo_perm (d : List Li) : ∀ n, n ≤ d.length → (insTo d n).Perm (d.take n) := by
  intro n
  induction n with
  | zero => intro _; exact .refl _
  | succ n ih =>
    intro h
    have hg : d.getD n liD = d[n] := by simp [show n < d.length by omega]
    unfold insTo
    rw [List.take_add_one, List.getElem?_eq_getElem (by omega), hg]
    exact (insL_perm _ _).trans (((ih (by omega)).cons _).trans (by
      have := List.perm_append_comm (l₁ := [d[n]]) (l₂ := d.take n)
      simpa using this))
theorem insTo_srd (d : List Li) : ∀ n, srd (insTo d n) := by
  intro n
  induction n with
  | zero => exact List.Pairwise.nil
  | succ n ih => exact insL_srd ih
theorem insTo_len (d : List Li) (n : Nat) (h : n ≤ d.length) : (insTo d n).length = n := by
  rw [(insTo_perm d n h).length_eq]; simp; omega
theorem pw_inj : ∀ {d : List Li}, d.Pairwise (fun a b => a.f1 < b.f1) → ∀ a ∈ d, ∀ b ∈ d, a.f1 = b.f1 → a = b
  | [], _, a, ha, _, _, _ => by cases ha
  | x :: r, h, a, ha, b, hb, e => by
    have h' := List.pairwise_cons.1 h
    rcases List.mem_cons.1 ha with e1 | ha2
    · rcases List.mem_cons.1 hb with e2 | hb2
      · rw [e1, e2]
      · have := h'.1 b hb2; rw [e1] at e; omega
    · rcases List.mem_cons.1 hb with e2 | hb2
      · have := h'.1 a ha2; rw [e2] at e; omega
      · exact pw_inj h'.2 a ha2 b hb2 e
instance : Inhabited Li := ⟨liD⟩
theorem ins_srt {d : List Li} (h : d.Pairwise fun a b => a.f1 < b.f1) : srtL cfLi d = insTo d d.length := by
  have p1 := srt_perm swoLi d
  have p2 := insTo_perm d d.length (Nat.le_refl _)
  rw [List.take_length] at p2
  have s1 : (srtL cfLi d).Pairwise fun a b => ltLi b a = false := by
    have := srt_sorted swoLi d
    simpa only [lt_cf] using this
  refine List.Perm.eq_of_pairwise (le := fun a b => ltLi b a = false) ?_ s1 (insTo_srd d d.length) (p1.trans p2.symm)
  intro a b ha hb h1 h2
  have e := ltLi_tri h2 h1
  exact pw_inj h a (p1.mem_iff.1 ha) b (p2.mem_iff.1 hb) e.2
end Go.Eng
namespace Go.Eng
open Go Go.Proofs Go.RowKit Geo
set_option linter.unusedSimpArgs false
set_option linter.unusedVariables false
set_option maxRecDepth 100000
set_option maxHeartbeats 4000000

/-! how listings are compared, walked -/
def cmpB (x y : ByteArray) : Int := if bl x y = true then -1 else if x = y then 0 else 1
theorem w83 (x : ByteArray) (W : World) : Calls Tryz.prog 83 #[.string x] W fun e w' => e = .returned (.bool false) ∧ w' = W := by
  go_enter Tryz.func83, Tryz.ntmps83
  go_wp
  go_ret
  simp
theorem w84 (x : Int) (W : World) : Calls Tryz.prog 84 #[.int .i64 x] W fun e w' => e = .returned (.bool false) ∧ w' = W := by
  go_enter Tryz.func84, Tryz.ntmps84
  go_wp
  go_ret
  simp
theorem w47 (x y : ByteArray) (W : World) : Calls Tryz.prog 47 #[.string x, .string y] W fun e w' => e = .returned (.int .i64 (cmpB x y)) ∧ w' = W := by
  go_enter Tryz.func47, Tryz.ntmps47
  go_wp
  refine (w83 x W).mono ?_
  rintro e w1 ⟨rfl, rfl⟩
  dsimp only
  go_wp
  refine (w83 y w1).mono ?_
  rintro e w2 ⟨rfl, rfl⟩
  dsimp only
  have hbb := bytes_beq x y
  by_cases h1 : Op.bytesLess x.toList y.toList = true
  · go_wp
    go_ret
    exact ⟨by unfold cmpB bl; rw [if_pos h1]; rfl, rfl⟩
  · have h1' : Op.bytesLess x.toList y.toList = false := by simpa using h1
    by_cases h2 : x = y
    · subst h2
      have h3 : (x.toList == x.toList) = true := by simp
      go_wp
      go_ret
      exact ⟨by unfold cmpB bl; rw [h1']; simp, rfl⟩
    · have h3 : (x.toList == y.toList) = false := by rw [hbb]; simp [h2]
      go_wp
      go_ret
      exact ⟨by unfold cmpB bl; rw [h1']; simp [h2], rfl⟩
theorem w48 (x y : Int) (W : World) : Calls Tryz.prog 48 #[.int .i64 x, .int .i64 y] W fun e w' => e = .returned (.int .i64 (sgn (x - y))) ∧ w' = W := by
  go_enter Tryz.func48, Tryz.ntmps48
  go_wp
  refine (w84 x W).mono ?_
  rintro e w1 ⟨rfl, rfl⟩
  dsimp only
  go_wp
  refine (w84 y w1).mono ?_
  rintro e w2 ⟨rfl, rfl⟩
  dsimp only
  have hs : sgn (x - y) = if y < x then 1 else if x < y then -1 else 0 := by unfold sgn; split <;> split <;> omega
  by_cases h1 : x < y
  · go_wp
    go_ret
    exact ⟨by rw [hs, if_neg (by omega), if_pos h1]; rfl, rfl⟩
  · by_cases h2 : y < x
    · go_wp
      go_ret
      exact ⟨by rw [hs, if_pos h2]; rfl, rfl⟩
    · go_wp
      go_ret
      exact ⟨by rw [hs, if_neg h2, if_neg h1]; rfl, rfl⟩
theorem w46 (x y : Int) (a : Nat) (cc : Nat) (W : World) (h0 : W.cell? ⟨a, 0, none⟩ = some (.int .i64 x)) (h1 : W.cell? ⟨a, 1, none⟩ = some (.int .i64 y)) :
    Calls Tryz.prog 46 #[.slice (some ⟨a, 0, none⟩) 2 cc] W fun e w' => e = .returned (.int .i64 (if x = 0 then y else x)) ∧ w' = W := by
  go_enter Tryz.func46, Tryz.ntmps46
  by_cases hx : x = 0
  · subst hx
    by_cases hy : y = 0
    · subst hy
      go_wp
      go_rounds 3
      go_ret
      exact ⟨rfl, rfl⟩
    · go_wp
      go_rounds 3
      go_ret
      exact ⟨rfl, rfl⟩
  · go_wp
    go_rounds 3
    go_ret
    exact ⟨rfl, rfl⟩
def encLi (x : Li) : List Value := [.string x.f0, .int .i64 x.f1, .string x.f2]
theorem w45 (x y : Li) (W : World) : Calls Tryz.prog 45 #[.agg (encLi x).toArray, .agg (encLi y).toArray] W fun e w' => e = .returned (.int .i64 (cfLi x y)) ∧ ∃ q os', w' = Sort.grow (W.drewN q) os' := by
  unfold encLi
  go_enter Tryz.func45, Tryz.ntmps45
  go_wp
  have hsz := alloc_size W (.cells #[.string x.f0, .int .i64 x.f1, .string x.f2] 43)
  have hn1 := alloc_new W (.cells #[.string x.f0, .int .i64 x.f1, .string x.f2] 43)
  have hn2 := alloc_new (W.alloc (.cells #[.string x.f0, .int .i64 x.f1, .string x.f2] 43)) (.cells #[.string y.f0, .int .i64 y.f1, .string y.f2] 43)
  rw [hsz] at hn2
  have hn3 := (alloc_blocks (W.alloc (.cells #[.string x.f0, .int .i64 x.f1, .string x.f2] 43)) (.cells #[.string y.f0, .int .i64 y.f1, .string y.f2] 43) W.heap.size (by rw [hsz]; omega)).trans hn1
  have hend : ∃ os : Array Obj, ((W.alloc (.cells #[.string x.f0, .int .i64 x.f1, .string x.f2] 43)).alloc (.cells #[.string y.f0, .int .i64 y.f1, .string y.f2] 43)) = Sort.grow (W.drewN 0) os :=
    ⟨#[.cells #[.string x.f0, .int .i64 x.f1, .string x.f2] 43, .cells #[.string y.f0, .int .i64 y.f1, .string y.f2] 43], rfl⟩
  generalize ((W.alloc (.cells #[.string x.f0, .int .i64 x.f1, .string x.f2] 43)).alloc (.cells #[.string y.f0, .int .i64 y.f1, .string y.f2] 43)) = W2 at *
  have a0 : W2.cell? ⟨W.heap.size, 0, none⟩ = some (.string x.f0) := by simp [World.cell?, hn3]
  have a1 : W2.cell? ⟨W.heap.size, 1, none⟩ = some (.int .i64 x.f1) := by simp [World.cell?, hn3]
  have b0 : W2.cell? ⟨W.heap.size + 1, 0, none⟩ = some (.string y.f0) := by simp [World.cell?, hn2]
  have b1 : W2.cell? ⟨W.heap.size + 1, 1, none⟩ = some (.int .i64 y.f1) := by simp [World.cell?, hn2]
  clear hn1 hn2 hn3 hsz
  go_still_tail 10, (by kernel_rfl)
  still_call (w47 x.f0 y.f0 _)
  repeat still_step
  still_call (w48 x.f1 y.f1 _)
  refine wpStill_nil ?_
  change wpList _ _ _ _ _ W2.drew
  obtain ⟨os, hend⟩ := hend
  have hend3 : W2.drew = Sort.grow (W.drewN 1) os := by rw [hend]; rfl
  generalize W2.drew = w3 at *
  clear a0 a1 b0 b1
  go_wp
  have hs3 : (Sort.grow (W.drewN 1) os).heap.size = W.heap.size + os.size := by show (W.heap ++ os).size = _; simp
  have hn := alloc_new (Sort.grow (W.drewN 1) os) (.cells #[.int .i64 (cmpB x.f0 y.f0), .int .i64 (sgn (x.f1 - y.f1))] 3)
  rw [hs3] at hn
  have e : cfLi x y = if cmpB x.f0 y.f0 = 0 then sgn (x.f1 - y.f1) else cmpB x.f0 y.f0 := by
    unfold cfLi cmpB
    split
    · simp
    · split <;> simp
  have q0 : ((Sort.grow (W.drewN 1) os).alloc (.cells #[.int .i64 (cmpB x.f0 y.f0), .int .i64 (sgn (x.f1 - y.f1))] 3)).cell? ⟨W.heap.size + os.size, 0, none⟩ = some (.int .i64 (cmpB x.f0 y.f0)) := by unfold World.cell?; simp only; rw [hn]; rfl
  have q1 : ((Sort.grow (W.drewN 1) os).alloc (.cells #[.int .i64 (cmpB x.f0 y.f0), .int .i64 (sgn (x.f1 - y.f1))] 3)).cell? ⟨W.heap.size + os.size, 1, none⟩ = some (.int .i64 (sgn (x.f1 - y.f1))) := by unfold World.cell?; simp only; rw [hn]; rfl
  refine (w46 _ _ _ 2 _ q0 q1).mono ?_
  rintro e w4 ⟨rfl, rfl⟩
  dsimp only
  go_wp
  go_ret
  refine ⟨by rw [e]; rfl, 1, os.push (.cells #[.int .i64 (cmpB x.f0 y.f0), .int .i64 (sgn (x.f1 - y.f1))] 3), ?_⟩
  simp [Sort.grow, World.alloc]
end Go.Eng
namespace Go.Eng
open Go Go.Proofs Go.Shelf Go.Sort
set_option linter.unusedSimpArgs false
set_option linter.unusedVariables false
set_option maxRecDepth 100000

/-! slices.SortFunc at listings. WRITES -/
def rhoSortL : Ren := ⟨fun n => if n = 6 then 44 else if n = 14 then 81 else if n = 15 then 82 else if n = 20 then 105 else if n = 21 then 106 else if n = 22 then 107 else if n = 23 then 108 else if n = 24 then 109 else if n = 25 then 110 else if n = 26 then 111 else if n = 27 then 112 else if n = 28 then 113 else if n = 29 then 114 else if n = 46 then 145 else if n = 47 then 146 else if n = 48 then 147 else if n = 49 then 148 else if n = 50 then 149 else if n = 57 then 170 else 0, fun n => if n = 0 then 0 else if n = 3 then 3 else if n = 4 then 4 else if n = 5 then 5 else if n = 9 then 9 else if n = 22 then 24 else if n = 24 then 43 else if n = 25 then 81 else if n = 39 then 107 else if n = 45 then 130 else if n = 46 then 131 else if n = 50 then 53 else if n = 53 then 137 else if n = 55 then 139 else if n = 66 then 157 else if n = 70 then 161 else if n = 76 then 173 else if n = 77 then 171 else 0, fun n => n⟩
theorem LSortL : SlLaysF0.n6 Tryz.prog rhoSortL where
  mixed := by kernel_rfl
  f6 := ⟨fnm Tryz.prog 44, by kernel_rfl, by kernel_rfl⟩
  f14 := ⟨fnm Tryz.prog 81, by kernel_rfl, by kernel_rfl⟩
  f15 := by kernel_rfl
  f20 := ⟨fnm Tryz.prog 105, by kernel_rfl, by kernel_rfl⟩
  f21 := ⟨fnm Tryz.prog 106, by kernel_rfl, by kernel_rfl⟩
  f22 := ⟨fnm Tryz.prog 107, by kernel_rfl, by kernel_rfl⟩
  f23 := ⟨fnm Tryz.prog 108, by kernel_rfl, by kernel_rfl⟩
  f24 := ⟨fnm Tryz.prog 109, by kernel_rfl, by kernel_rfl⟩
  f25 := ⟨fnm Tryz.prog 110, by kernel_rfl, by kernel_rfl⟩
  f26 := ⟨fnm Tryz.prog 111, by kernel_rfl, by kernel_rfl⟩
  f27 := ⟨fnm Tryz.prog 112, by kernel_rfl, by kernel_rfl⟩
  f28 := by kernel_rfl
  f29 := by kernel_rfl
  f46 := ⟨fnm Tryz.prog 145, by kernel_rfl, by kernel_rfl⟩
  f47 := by kernel_rfl
  f48 := by kernel_rfl
  f49 := ⟨fnm Tryz.prog 148, by kernel_rfl, by kernel_rfl⟩
  f50 := ⟨fnm Tryz.prog 149, by kernel_rfl, by kernel_rfl⟩
  f57 := ⟨fnm Tryz.prog 170, by kernel_rfl, by kernel_rfl⟩
  t0 := by kernel_rfl
  a0 := fun _ => by kernel_rfl
  z0 := fun _ => by kernel_rfl
  v0 := fun _ => by kernel_rfl
  t3 := by kernel_rfl
  a3 := fun _ => by kernel_rfl
  z3 := fun _ => by kernel_rfl
  v3 := fun _ => by kernel_rfl
  t4 := by kernel_rfl
  a4 := fun _ => by kernel_rfl
  z4 := fun _ => by kernel_rfl
  v4 := fun _ => by kernel_rfl
  t5 := by kernel_rfl
  a5 := fun _ => by kernel_rfl
  z5 := fun _ => by kernel_rfl
  v5 := fun _ => by kernel_rfl
  t9 := by kernel_rfl
  a9 := fun _ => by kernel_rfl
  z9 := fun _ => by kernel_rfl
  v9 := fun _ => by kernel_rfl
  t22 := by kernel_rfl
  a22 := fun _ => by kernel_rfl
  z22 := fun _ => by kernel_rfl
  v22 := fun _ => by kernel_rfl
  t25 := by kernel_rfl
  a25 := fun _ => by kernel_rfl
  z25 := fun _ => by kernel_rfl
  v25 := fun _ => by kernel_rfl
  t39 := by kernel_rfl
  a39 := fun _ => by kernel_rfl
  z39 := fun _ => by kernel_rfl
  v39 := fun _ => by kernel_rfl
  t45 := by kernel_rfl
  a45 := fun _ => by kernel_rfl
  z45 := fun _ => by kernel_rfl
  v45 := fun _ => by kernel_rfl
  t46 := by kernel_rfl
  a46 := fun _ => by kernel_rfl
  z46 := fun _ => by kernel_rfl
  v46 := fun _ => by kernel_rfl
  t50 := by kernel_rfl
  a50 := fun _ => by kernel_rfl
  z50 := fun _ => by kernel_rfl
  v50 := fun _ => by kernel_rfl
  t53 := by kernel_rfl
  a53 := fun _ => by kernel_rfl
  z53 := fun _ => by kernel_rfl
  v53 := fun _ => by kernel_rfl
  t55 := by kernel_rfl
  a55 := fun _ => by kernel_rfl
  z55 := fun _ => by kernel_rfl
  v55 := fun _ => by kernel_rfl
  t66 := by kernel_rfl
  a66 := fun _ => by kernel_rfl
  z66 := fun _ => by kernel_rfl
  v66 := fun _ => by kernel_rfl
  t70 := by kernel_rfl
  a70 := fun _ => by kernel_rfl
  z70 := fun _ => by kernel_rfl
  v70 := fun _ => by kernel_rfl
  t76 := by kernel_rfl
  a76 := fun _ => by kernel_rfl
  z76 := fun _ => by kernel_rfl
  v76 := fun _ => by kernel_rfl
  t77 := by kernel_rfl
  a77 := fun _ => by kernel_rfl
  z77 := fun _ => by kernel_rfl
  v77 := fun _ => by kernel_rfl
theorem f44 (nl : Bool) (d : List Li) (hsz : d.length < 4611686018427387904) :
    FnM Tryz.prog 44 [.lst 3 nl (d.map li), .fn 45 []] (.tup []) (.lst 3 nl ((srtL cfLi d).map li)) := by
  refine sort_M (k := 3) LSortL (by omega) (fun _ => by kernel_rfl) (fun _ => by kernel_rfl) encLi li (fun _ => rfl) ?_ ?_ ?_ ?_ cfLi swoLi 45 (by kernel_rfl) (fun x y W => w45 x y W) (by kernel_rfl) nl d hsz
  · intro x v hv
    simp [encLi] at hv
    rcases hv with rfl | rfl | rfl <;> rfl
  · intro w x
    exact .cons (.str _) (.cons (.int _ _) (.cons (.str _) .nil))
  · intro w x ys F h
    obtain ⟨a, r, F1, F2, rfl, rfl, h1, h2⟩ := RepL.cons_inv h
    obtain ⟨b, r2, F3, F4, rfl, rfl, h3, h4⟩ := RepL.cons_inv h2
    obtain ⟨c, r3, F5, F6, rfl, rfl, h5, h6⟩ := RepL.cons_inv h4
    obtain ⟨rfl, rfl⟩ := h6.nil_inv
    obtain ⟨rfl, rfl⟩ := h1.str_inv
    obtain ⟨rfl, rfl⟩ := h3.int_inv
    obtain ⟨rfl, rfl⟩ := h5.str_inv
    exact ⟨rfl, rfl⟩
  · intro x c hc
    simp [li] at hc
    rcases hc with rfl | rfl | rfl <;> rfl
end Go.Eng
namespace Go.Eng
open Go Go.Proofs Geo
set_option linter.unusedSimpArgs false
set_option linter.unusedVariables false
set_option maxRecDepth 20000
set_option maxHeartbeats 1000000

/-! middles of rings; anchors -/
def sXT (g : Pt → Int) (l : List Pt) : Nat → Int
  | 0 => 0
  | n + 1 => wr .i64 (sXT g l n + g (l.getD n ⟨0, 0⟩))
def rMid (l : List Pt) : Pt := if wRing l = true then ⟨wr .i64 ((sXT (fun p => p.f0) l l.length).tdiv l.length), wr .i64 ((sXT (fun p => p.f1) l l.length).tdiv l.length)⟩ else ⟨0, 0⟩
theorem wRing_len {l : List Pt} (h : wRing l = true) : 3 ≤ l.length := by
  unfold wRing at h
  simp [inR] at h
  omega
theorem f75 (l : List Pt) (nl : Bool) (hl : l.length ≤ 1000000000000) : Fn Tryz.prog 75 false [.lst 2 nl (l.map cp)] (.tup [.agg [i (rMid l).f0, i (rMid l).f1], .bool (wRing l)]) := by
  have hc := f102 l nl hl
  refine Fn.by_sx hX (by kernel_rfl) c75 (by kernel_rfl) (by rfl) ?_
  simp [i75, sxa, isPtrN, PV.pcs, elAt, setEl, inAt, elIn, setIn, isLst, cellsOf, Ex.ok, Ex.val, Opd.val, POp.dst, bin_int, binOK_int, bin_str, binOK_str, resOK, resV, RB.val, sub, putc, scB, scL, oneB, conf, Ex.val.eqP, Ex.val.eqL, negV, mxV, mnV, ← wr_eq, wr_zero, wr_one, wr_m1, bst_lst, byteC, partsOK, putAll, appV, nilV, slV, sslV, optB, optNum, and_assoc, exists_and_left, exists_eq_left']
  by_cases hr : wRing l = true
  case neg =>
    have hm : rMid l = ⟨0, 0⟩ := if_neg hr
    rw [show wRing l = false by simpa using hr] at hc ⊢
    rw [hm]
    repeat' (first | intro _ | (simp [sxa, isPtrN, PV.pcs, elAt, setEl, inAt, elIn, setIn, isLst, cellsOf, Ex.ok, Ex.val, Opd.val, POp.dst, bin_int, binOK_int, bin_str, binOK_str, resOK, resV, RB.val, sub, putc, scB, scL, oneB, conf, Ex.val.eqP, Ex.val.eqL, negV, mxV, mnV, ← wr_eq, wr_zero, wr_one, wr_m1, bst_lst, byteC, partsOK, putAll, appV, nilV, slV, sslV, optB, optNum, and_assoc, exists_and_left, exists_eq_left', *]) | refine CallS_i (hc) ?_ | refine CondS_d (fun h => ?_) (fun h => ?_) | refine CondS_b (fun h => ?_) (fun h => ?_) | refine GrdS_d (fun h => ?_) (fun h => ?_) | refine GrdS_b (fun h => ?_) (fun h => ?_) | refine OkS_i (by omega) ?_ | fail)
  have hm : rMid l = ⟨wr .i64 ((sXT (fun p => p.f0) l l.length).tdiv l.length), wr .i64 ((sXT (fun p => p.f1) l l.length).tdiv l.length)⟩ := if_pos hr
  have h3 := wRing_len hr
  rw [hr] at hc ⊢
  rw [hm]
  repeat' (first | intro _ | (simp [sxa, isPtrN, PV.pcs, elAt, setEl, inAt, elIn, setIn, isLst, cellsOf, Ex.ok, Ex.val, Opd.val, POp.dst, bin_int, binOK_int, bin_str, binOK_str, resOK, resV, RB.val, sub, putc, scB, scL, oneB, conf, Ex.val.eqP, Ex.val.eqL, negV, mxV, mnV, ← wr_eq, wr_zero, wr_one, wr_m1, bst_lst, byteC, partsOK, putAll, appV, nilV, slV, sslV, optB, optNum, and_assoc, exists_and_left, exists_eq_left', *]) | refine CallS_i (hc) ?_ | refine CondS_d (fun h => ?_) (fun h => ?_) | refine CondS_b (fun h => ?_) (fun h => ?_) | refine GrdS_d (fun h => ?_) (fun h => ?_) | refine GrdS_b (fun h => ?_) (fun h => ?_) | refine OkS_i (by omega) ?_ | fail)
  refine sx_count l.length (fun n V => V 0 = .lst 2 nl (l.map cp) ∧ V 5 = i n ∧ V 4 = .ptr [i (sXT (fun p => p.f0) l n), i (sXT (fun p => p.f1) l n)] ∧ V 2 = .ptr [i 0, i 0]) 0 (by omega) (by simp [sxa, isPtrN, PV.pcs, elAt, setEl, inAt, elIn, setIn, isLst, cellsOf, Ex.ok, Ex.val, Opd.val, POp.dst, bin_int, binOK_int, bin_str, binOK_str, resOK, resV, RB.val, sub, putc, scB, scL, oneB, conf, Ex.val.eqP, Ex.val.eqL, negV, mxV, mnV, ← wr_eq, wr_zero, wr_one, wr_m1, bst_lst, byteC, partsOK, putAll, appV, nilV, slV, sslV, optB, optNum, and_assoc, exists_and_left, exists_eq_left', sXT]) ?_
  rintro n V hn ⟨g0, g5, g4, g2⟩
  simp [sxa, isPtrN, PV.pcs, elAt, setEl, inAt, elIn, setIn, isLst, cellsOf, Ex.ok, Ex.val, Opd.val, POp.dst, bin_int, binOK_int, bin_str, binOK_str, resOK, resV, RB.val, sub, putc, scB, scL, oneB, conf, Ex.val.eqP, Ex.val.eqL, negV, mxV, mnV, ← wr_eq, wr_zero, wr_one, wr_m1, bst_lst, byteC, partsOK, putAll, appV, nilV, slV, sslV, optB, optNum, and_assoc, exists_and_left, exists_eq_left', g0, g5]
  refine CondS_d (fun hlt => ?_) (fun hge => ?_)
  · have hlt' : n < l.length := by omega
    have hw : wr .i64 ((n : Int) + 1) = n + 1 := wr_in (by omega) (by omega)
    have s1 : sXT (fun p => p.f0) l (n + 1) = wr .i64 (sXT (fun p => p.f0) l n + l[n].f0) := by simp [sXT, hlt']
    have s2 : sXT (fun p => p.f1) l (n + 1) = wr .i64 (sXT (fun p => p.f1) l n + l[n].f1) := by simp [sXT, hlt']
    repeat' (first | intro _ | (simp [sxa, isPtrN, PV.pcs, elAt, setEl, inAt, elIn, setIn, isLst, cellsOf, Ex.ok, Ex.val, Opd.val, POp.dst, bin_int, binOK_int, bin_str, binOK_str, resOK, resV, RB.val, sub, putc, scB, scL, oneB, conf, Ex.val.eqP, Ex.val.eqL, negV, mxV, mnV, ← wr_eq, wr_zero, wr_one, wr_m1, bst_lst, byteC, partsOK, putAll, appV, nilV, slV, sslV, optB, optNum, and_assoc, exists_and_left, exists_eq_left', cp, *]) | refine CondS_d (fun h => ?_) (fun h => ?_) | refine CondS_b (fun h => ?_) (fun h => ?_) | refine GrdS_d (fun h => ?_) (fun h => ?_) | refine GrdS_b (fun h => ?_) (fun h => ?_) | refine OkS_i (by omega) ?_ | fail)
  · have : n = l.length := by omega
    subst this
    have hz : ¬ l.length = 0 := by omega
    have hz2 : ¬ l = [] := fun h => hz (by rw [h]; rfl)
    repeat' (first | intro _ | (simp [sxa, isPtrN, PV.pcs, elAt, setEl, inAt, elIn, setIn, isLst, cellsOf, Ex.ok, Ex.val, Opd.val, POp.dst, bin_int, binOK_int, bin_str, binOK_str, resOK, resV, RB.val, sub, putc, scB, scL, oneB, conf, Ex.val.eqP, Ex.val.eqL, negV, mxV, mnV, ← wr_eq, wr_zero, wr_one, wr_m1, bst_lst, byteC, partsOK, putAll, appV, nilV, slV, sslV, optB, optNum, and_assoc, exists_and_left, exists_eq_left', *]) | refine CondS_d (fun h => ?_) (fun h => ?_) | refine CondS_b (fun h => ?_) (fun h => ?_) | refine GrdS_d (fun h => ?_) (fun h => ?_) | refine GrdS_b (fun h => ?_) (fun h => ?_) | refine OkS_i (by omega) ?_ | fail)
theorem f55 (l : List Pt) (nl : Bool) (hl : l.length ≤ 1000000000000) : Fn Tryz.prog 55 false [.lst 2 nl (l.map cp)] (.tup [.agg [i (rMid l).f0, i (rMid l).f1], .bool (wRing l)]) := by
  have hc := f87 l nl hl
  refine Fn.by_sx hX (by kernel_rfl) c55 (by kernel_rfl) (by rfl) ?_
  simp [i55, sxa, isPtrN, PV.pcs, elAt, setEl, inAt, elIn, setIn, isLst, cellsOf, Ex.ok, Ex.val, Opd.val, POp.dst, bin_int, binOK_int, bin_str, binOK_str, resOK, resV, RB.val, sub, putc, scB, scL, oneB, conf, Ex.val.eqP, Ex.val.eqL, negV, mxV, mnV, ← wr_eq, wr_zero, wr_one, wr_m1, bst_lst, byteC, partsOK, putAll, appV, nilV, slV, sslV, optB, optNum, and_assoc, exists_and_left, exists_eq_left']
  by_cases hr : wRing l = true
  case neg =>
    have hm : rMid l = ⟨0, 0⟩ := if_neg hr
    rw [show wRing l = false by simpa using hr] at hc ⊢
    rw [hm]
    repeat' (first | intro _ | (simp [sxa, isPtrN, PV.pcs, elAt, setEl, inAt, elIn, setIn, isLst, cellsOf, Ex.ok, Ex.val, Opd.val, POp.dst, bin_int, binOK_int, bin_str, binOK_str, resOK, resV, RB.val, sub, putc, scB, scL, oneB, conf, Ex.val.eqP, Ex.val.eqL, negV, mxV, mnV, ← wr_eq, wr_zero, wr_one, wr_m1, bst_lst, byteC, partsOK, putAll, appV, nilV, slV, sslV, optB, optNum, and_assoc, exists_and_left, exists_eq_left', *]) | refine CallS_i (hc) ?_ | refine CondS_d (fun h => ?_) (fun h => ?_) | refine CondS_b (fun h => ?_) (fun h => ?_) | refine GrdS_d (fun h => ?_) (fun h => ?_) | refine GrdS_b (fun h => ?_) (fun h => ?_) | refine OkS_i (by omega) ?_ | fail)
  have hm : rMid l = ⟨wr .i64 ((sXT (fun p => p.f0) l l.length).tdiv l.length), wr .i64 ((sXT (fun p => p.f1) l l.length).tdiv l.length)⟩ := if_pos hr
  have h3 := wRing_len hr
  rw [hr] at hc ⊢
  rw [hm]
  repeat' (first | intro _ | (simp [sxa, isPtrN, PV.pcs, elAt, setEl, inAt, elIn, setIn, isLst, cellsOf, Ex.ok, Ex.val, Opd.val, POp.dst, bin_int, binOK_int, bin_str, binOK_str, resOK, resV, RB.val, sub, putc, scB, scL, oneB, conf, Ex.val.eqP, Ex.val.eqL, negV, mxV, mnV, ← wr_eq, wr_zero, wr_one, wr_m1, bst_lst, byteC, partsOK, putAll, appV, nilV, slV, sslV, optB, optNum, and_assoc, exists_and_left, exists_eq_left', *]) | refine CallS_i (hc) ?_ | refine CondS_d (fun h => ?_) (fun h => ?_) | refine CondS_b (fun h => ?_) (fun h => ?_) | refine GrdS_d (fun h => ?_) (fun h => ?_) | refine GrdS_b (fun h => ?_) (fun h => ?_) | refine OkS_i (by omega) ?_ | fail)
  refine sx_count l.length (fun n V => V 0 = .lst 2 nl (l.map cp) ∧ V 12 = .lst 2 nl (l.map cp) ∧ V 13 = i l.length ∧ V 14 = i n ∧ V 4 = .ptr [i (sXT (fun p => p.f0) l n), i (sXT (fun p => p.f1) l n)] ∧ V 2 = .ptr [i 0, i 0]) 0 (by omega) (by simp [sxa, isPtrN, PV.pcs, elAt, setEl, inAt, elIn, setIn, isLst, cellsOf, Ex.ok, Ex.val, Opd.val, POp.dst, bin_int, binOK_int, bin_str, binOK_str, resOK, resV, RB.val, sub, putc, scB, scL, oneB, conf, Ex.val.eqP, Ex.val.eqL, negV, mxV, mnV, ← wr_eq, wr_zero, wr_one, wr_m1, bst_lst, byteC, partsOK, putAll, appV, nilV, slV, sslV, optB, optNum, and_assoc, exists_and_left, exists_eq_left', sXT]) ?_
  rintro n V hn ⟨g0, g12, g13, g5, g4, g2⟩
  simp [sxa, isPtrN, PV.pcs, elAt, setEl, inAt, elIn, setIn, isLst, cellsOf, Ex.ok, Ex.val, Opd.val, POp.dst, bin_int, binOK_int, bin_str, binOK_str, resOK, resV, RB.val, sub, putc, scB, scL, oneB, conf, Ex.val.eqP, Ex.val.eqL, negV, mxV, mnV, ← wr_eq, wr_zero, wr_one, wr_m1, bst_lst, byteC, partsOK, putAll, appV, nilV, slV, sslV, optB, optNum, and_assoc, exists_and_left, exists_eq_left', g13, g5]
  refine CondS_d (fun hlt => ?_) (fun hge => ?_)
  · have hlt' : n < l.length := by omega
    have hw : wr .i64 ((n : Int) + 1) = n + 1 := wr_in (by omega) (by omega)
    have s1 : sXT (fun p => p.f0) l (n + 1) = wr .i64 (sXT (fun p => p.f0) l n + l[n].f0) := by simp [sXT, hlt']
    have s2 : sXT (fun p => p.f1) l (n + 1) = wr .i64 (sXT (fun p => p.f1) l n + l[n].f1) := by simp [sXT, hlt']
    repeat' (first | intro _ | (simp [sxa, isPtrN, PV.pcs, elAt, setEl, inAt, elIn, setIn, isLst, cellsOf, Ex.ok, Ex.val, Opd.val, POp.dst, bin_int, binOK_int, bin_str, binOK_str, resOK, resV, RB.val, sub, putc, scB, scL, oneB, conf, Ex.val.eqP, Ex.val.eqL, negV, mxV, mnV, ← wr_eq, wr_zero, wr_one, wr_m1, bst_lst, byteC, partsOK, putAll, appV, nilV, slV, sslV, optB, optNum, and_assoc, exists_and_left, exists_eq_left', cp, *]) | refine CondS_d (fun h => ?_) (fun h => ?_) | refine CondS_b (fun h => ?_) (fun h => ?_) | refine GrdS_d (fun h => ?_) (fun h => ?_) | refine GrdS_b (fun h => ?_) (fun h => ?_) | refine OkS_i (by omega) ?_ | fail)
  · have : n = l.length := by omega
    subst this
    have hz : ¬ l.length = 0 := by omega
    have hz2 : ¬ l = [] := fun h => hz (by rw [h]; rfl)
    repeat' (first | intro _ | (simp [sxa, isPtrN, PV.pcs, elAt, setEl, inAt, elIn, setIn, isLst, cellsOf, Ex.ok, Ex.val, Opd.val, POp.dst, bin_int, binOK_int, bin_str, binOK_str, resOK, resV, RB.val, sub, putc, scB, scL, oneB, conf, Ex.val.eqP, Ex.val.eqL, negV, mxV, mnV, ← wr_eq, wr_zero, wr_one, wr_m1, bst_lst, byteC, partsOK, putAll, appV, nilV, slV, sslV, optB, optNum, and_assoc, exists_and_left, exists_eq_left', *]) | refine CondS_d (fun h => ?_) (fun h => ?_) | refine CondS_b (fun h => ?_) (fun h => ?_) | refine GrdS_d (fun h => ?_) (fun h => ?_) | refine GrdS_b (fun h => ?_) (fun h => ?_) | refine OkS_i (by omega) ?_ | fail)
structure Pl where
  f0 : Int
  f1 : Pt
  f2 : Int
def pl (x : Pl) : List PV := [i x.f0, i x.f1.f0, i x.f1.f1, i x.f2]
def anAt (x : Ft) : Pt := if x.f1 = 3 then rMid x.f4 else x.f4.getD (x.f4.length / 2) ⟨0, 0⟩
def anOf (x : Ft) : Pl := ⟨x.f0, anAt x, x.f2⟩
def anTo (l : List Ft) : Nat → List Pl
  | 0 => []
  | n + 1 => anTo l n ++ (if (l.getD n ftD).f3 = bs [] then [] else [anOf (l.getD n ftD)])
def anchors (l : List Ft) : List Pl := if wSrc l = true then anTo l l.length else []
theorem anTo_len (l : List Ft) (n : Nat) : (anTo l n).length ≤ n := by
  induction n with
  | zero => simp [anTo]
  | succ n ih => unfold anTo; rw [List.length_append]; split <;> simp <;> omega
theorem allTo_get {ok : Nat → Bool} {N k : Nat} (h : allTo ok N = true) (hk : k < N) : ok k = true := by
  unfold allTo at h
  exact List.all_eq_true.1 h k (List.mem_range.2 hk)
theorem src_feat {l : List Ft} (h : wSrc l = true) {n : Nat} (hn : n < l.length) : wFeat l[n] = true := by
  unfold wSrc at h
  simp only [Bool.and_eq_true] at h
  have := allTo_get h.2 hn
  unfold srcAt at this
  simp [hn] at this
  exact this.1
theorem feat_pts {x : Ft} (h : wFeat x = true) : 0 < x.f4.length ∧ (x.f1 = 1 → x.f4.length = 1) ∧ (x.f1 = 1 ∨ x.f1 = 2 ∨ x.f1 = 3) := by
  unfold wFeat at h
  simp only [Bool.and_eq_true] at h
  have h := h.2
  unfold wShape at h
  by_cases h1 : x.f1 = 1
  · rw [if_pos h1] at h
    simp at h
    exact ⟨by omega, fun _ => h.1, .inl h1⟩
  · rw [if_neg h1] at h
    by_cases h2 : x.f1 = 2
    · rw [if_pos h2] at h
      unfold wSimple at h
      simp only [Bool.and_eq_true] at h
      have := wLine_len h.1
      exact ⟨by omega, fun h => absurd h h1, .inr (.inl h2)⟩
    · rw [if_neg h2] at h
      by_cases h3 : x.f1 = 3
      · rw [if_pos h3] at h
        have := wRing_len h
        exact ⟨by omega, fun h => absurd h h1, .inr (.inr h3)⟩
      · rw [if_neg h3] at h; cases h
theorem f39 (l : List Ft) (nl : Bool) (hl : l.length ≤ 1000000000000) (hb : ∀ x ∈ l, x.okay) : Fn Tryz.prog 39 true [.lst 5 nl (l.map ft)] (.lst 4 false ((anchors l).map pl)) := by
  have hsrc := f74 l nl hl hb
  refine Fn.by_sx hX (by kernel_rfl) c39 (by kernel_rfl) (by rfl) ?_
  simp [i39, sxa, isPtrN, PV.pcs, elAt, setEl, inAt, elIn, setIn, isLst, cellsOf, Ex.ok, Ex.val, Opd.val, POp.dst, bin_int, binOK_int, bin_str, binOK_str, resOK, resV, RB.val, sub, putc, scB, scL, oneB, conf, Ex.val.eqP, Ex.val.eqL, negV, mxV, mnV, ← wr_eq, wr_zero, wr_one, wr_m1, bst_lst, byteC, partsOK, putAll, appV, nilV, slV, sslV, optB, optNum, and_assoc, exists_and_left, exists_eq_left']
  by_cases hs : wSrc l = true
  case neg =>
    have ha : anchors l = [] := if_neg hs
    rw [show wSrc l = false by simpa using hs] at hsrc
    rw [ha]
    refine sx_count 0 (fun n V => V 0 = .lst 5 nl (l.map ft) ∧ V 3 = .lst 4 false [] ∧ V 4 = i 0) 0 (by omega) (by simp [sxa, isPtrN, PV.pcs, elAt, setEl, inAt, elIn, setIn, isLst, cellsOf, Ex.ok, Ex.val, Opd.val, POp.dst, bin_int, binOK_int, bin_str, binOK_str, resOK, resV, RB.val, sub, putc, scB, scL, oneB, conf, Ex.val.eqP, Ex.val.eqL, negV, mxV, mnV, ← wr_eq, wr_zero, wr_one, wr_m1, bst_lst, byteC, partsOK, putAll, appV, nilV, slV, sslV, optB, optNum, and_assoc, exists_and_left, exists_eq_left']) ?_
    rintro n V hn ⟨g0, g3, g4⟩
    repeat' (first | intro _ | (simp [sxa, isPtrN, PV.pcs, elAt, setEl, inAt, elIn, setIn, isLst, cellsOf, Ex.ok, Ex.val, Opd.val, POp.dst, bin_int, binOK_int, bin_str, binOK_str, resOK, resV, RB.val, sub, putc, scB, scL, oneB, conf, Ex.val.eqP, Ex.val.eqL, negV, mxV, mnV, ← wr_eq, wr_zero, wr_one, wr_m1, bst_lst, byteC, partsOK, putAll, appV, nilV, slV, sslV, optB, optNum, and_assoc, exists_and_left, exists_eq_left', *]) | refine CallS_i (hsrc) ?_ | refine CondS_d (fun h => ?_) (fun h => ?_) | refine CondS_b (fun h => ?_) (fun h => ?_) | refine GrdS_d (fun h => ?_) (fun h => ?_) | refine GrdS_b (fun h => ?_) (fun h => ?_) | refine OkS_i (by omega) ?_ | fail)
  have ha : anchors l = anTo l l.length := if_pos hs
  rw [hs] at hsrc
  rw [ha]
  refine sx_count l.length (fun n V => V 0 = .lst 5 nl (l.map ft) ∧ V 3 = .lst 4 false ((anTo l n).map pl) ∧ V 4 = i n) 0 (by omega) (by simp [sxa, isPtrN, PV.pcs, elAt, setEl, inAt, elIn, setIn, isLst, cellsOf, Ex.ok, Ex.val, Opd.val, POp.dst, bin_int, binOK_int, bin_str, binOK_str, resOK, resV, RB.val, sub, putc, scB, scL, oneB, conf, Ex.val.eqP, Ex.val.eqL, negV, mxV, mnV, ← wr_eq, wr_zero, wr_one, wr_m1, bst_lst, byteC, partsOK, putAll, appV, nilV, slV, sslV, optB, optNum, and_assoc, exists_and_left, exists_eq_left', anTo]) ?_
  rintro n V hn ⟨g0, g3, g4⟩
  simp [sxa, isPtrN, PV.pcs, elAt, setEl, inAt, elIn, setIn, isLst, cellsOf, Ex.ok, Ex.val, Opd.val, POp.dst, bin_int, binOK_int, bin_str, binOK_str, resOK, resV, RB.val, sub, putc, scB, scL, oneB, conf, Ex.val.eqP, Ex.val.eqL, negV, mxV, mnV, ← wr_eq, wr_zero, wr_one, wr_m1, bst_lst, byteC, partsOK, putAll, appV, nilV, slV, sslV, optB, optNum, and_assoc, exists_and_left, exists_eq_left', g0, g4]
  refine GrdS_d (fun hlt => ?_) (fun hge => ?_)
  · have hlt' : n < l.length := by omega
    have hw : wr .i64 ((n : Int) + 1) = n + 1 := wr_in (by omega) (by omega)
    have hln := anTo_len l n
    obtain ⟨p1, p2, p3⟩ := feat_pts (src_feat hs hlt')
    have hok := (hb _ (List.getElem_mem hlt')).2
    have hgd : l.getD n ftD = l[n] := by simp [hlt']
    have hs1 : anTo l (n + 1) = anTo l n ++ (if l[n].f3 = bs [] then [] else [anOf l[n]]) := by rw [anTo, hgd]
    have hmid := f75 l[n].f4 l[n].nl (by omega)
    have hdv : ((l[n].f4.length : Int)).tdiv 2 = ((l[n].f4.length / 2 : Nat) : Int) := by rw [Int.tdiv_eq_ediv_of_nonneg (by omega)]; omega
    obtain ⟨m, hm⟩ : ∃ m, l[n].f4.length / 2 = m := ⟨_, rfl⟩
    have hml : m < l[n].f4.length := by omega
    rw [hm] at hdv
    have hwm : wr .i64 (m : Int) = m := wr_in (by omega) (by omega)
    have hat : anAt l[n] = if l[n].f1 = 3 then rMid l[n].f4 else l[n].f4[m] := by unfold anAt; rw [hm]; simp [hml]
    by_cases hnm : l[n].f3 = bs []
    · rw [if_pos hnm, List.append_nil] at hs1
      repeat' (first | intro _ | (simp [sxa, isPtrN, PV.pcs, elAt, setEl, inAt, elIn, setIn, isLst, cellsOf, Ex.ok, Ex.val, Opd.val, POp.dst, bin_int, binOK_int, bin_str, binOK_str, resOK, resV, RB.val, sub, putc, scB, scL, oneB, conf, Ex.val.eqP, Ex.val.eqL, negV, mxV, mnV, ← wr_eq, wr_zero, wr_one, wr_m1, bst_lst, byteC, partsOK, putAll, appV, nilV, slV, sslV, optB, optNum, and_assoc, exists_and_left, exists_eq_left', ft, *]) | refine CallS_i (hsrc) ?_ | refine CondS_d (fun h => ?_) (fun h => ?_) | refine CondS_b (fun h => ?_) (fun h => ?_) | refine GrdS_d (fun h => ?_) (fun h => ?_) | refine GrdS_b (fun h => ?_) (fun h => ?_) | refine OkS_i (by omega) ?_ | fail)
    · rw [if_neg hnm] at hs1
      by_cases hk3 : l[n].f1 = 3
      · rw [if_pos hk3] at hat
        repeat' (first | intro _ | (simp [sxa, isPtrN, PV.pcs, elAt, setEl, inAt, elIn, setIn, isLst, cellsOf, Ex.ok, Ex.val, Opd.val, POp.dst, bin_int, binOK_int, bin_str, binOK_str, resOK, resV, RB.val, sub, putc, scB, scL, oneB, conf, Ex.val.eqP, Ex.val.eqL, negV, mxV, mnV, ← wr_eq, wr_zero, wr_one, wr_m1, bst_lst, byteC, partsOK, putAll, appV, nilV, slV, sslV, optB, optNum, and_assoc, exists_and_left, exists_eq_left', ft, cp, pl, anOf, *]) | refine CallS_i (hsrc) ?_ | refine CallS_i (hmid) ?_ | refine CondS_d (fun h => ?_) (fun h => ?_) | refine CondS_b (fun h => ?_) (fun h => ?_) | refine GrdS_d (fun h => ?_) (fun h => ?_) | refine GrdS_b (fun h => ?_) (fun h => ?_) | refine OkS_i (by omega) ?_ | fail)
      · rw [if_neg hk3] at hat
        repeat' (first | intro _ | (simp [sxa, isPtrN, PV.pcs, elAt, setEl, inAt, elIn, setIn, isLst, cellsOf, Ex.ok, Ex.val, Opd.val, POp.dst, bin_int, binOK_int, bin_str, binOK_str, resOK, resV, RB.val, sub, putc, scB, scL, oneB, conf, Ex.val.eqP, Ex.val.eqL, negV, mxV, mnV, ← wr_eq, wr_zero, wr_one, wr_m1, bst_lst, byteC, partsOK, putAll, appV, nilV, slV, sslV, optB, optNum, and_assoc, exists_and_left, exists_eq_left', ft, cp, pl, anOf, *]) | refine CallS_i (hsrc) ?_ | refine CondS_d (fun h => ?_) (fun h => ?_) | refine CondS_b (fun h => ?_) (fun h => ?_) | refine GrdS_d (fun h => ?_) (fun h => ?_) | refine GrdS_b (fun h => ?_) (fun h => ?_) | refine OkS_i (by omega) ?_ | fail)
  · have : n = l.length := by omega
    subst this
    repeat' (first | intro _ | (simp [sxa, isPtrN, PV.pcs, elAt, setEl, inAt, elIn, setIn, isLst, cellsOf, Ex.ok, Ex.val, Opd.val, POp.dst, bin_int, binOK_int, bin_str, binOK_str, resOK, resV, RB.val, sub, putc, scB, scL, oneB, conf, Ex.val.eqP, Ex.val.eqL, negV, mxV, mnV, ← wr_eq, wr_zero, wr_one, wr_m1, bst_lst, byteC, partsOK, putAll, appV, nilV, slV, sslV, optB, optNum, and_assoc, exists_and_left, exists_eq_left', *]) | refine CondS_d (fun h => ?_) (fun h => ?_) | refine CondS_b (fun h => ?_) (fun h => ?_) | refine GrdS_d (fun h => ?_) (fun h => ?_) | refine GrdS_b (fun h => ?_) (fun h => ?_) | refine OkS_i (by omega) ?_ | fail)
end Go.Eng
namespace Go.Eng
open Go Go.Proofs Geo
set_option linter.unusedSimpArgs false
set_option linter.unusedVariables false
set_option maxRecDepth 20000
set_option maxHeartbeats 1000000

/-! anchors of the program; the list of names. WRITES -/
theorem f17 (l : List Ft) (nl : Bool) (hl : l.length ≤ 1000000000000) (hb : ∀ x ∈ l, x.okay) : Fn Tryz.prog 17 true [.lst 5 nl (l.map ft)] (.lst 4 false ((anchors l).map pl)) := by
  have hsrc := f54 l nl hl hb
  refine Fn.by_sx hX (by kernel_rfl) c17 (by kernel_rfl) (by rfl) ?_
  simp [i17, sxa, isPtrN, PV.pcs, elAt, setEl, inAt, elIn, setIn, isLst, cellsOf, Ex.ok, Ex.val, Opd.val, POp.dst, bin_int, binOK_int, bin_str, binOK_str, resOK, resV, RB.val, sub, putc, scB, scL, oneB, conf, Ex.val.eqP, Ex.val.eqL, negV, mxV, mnV, ← wr_eq, wr_zero, wr_one, wr_m1, bst_lst, byteC, partsOK, putAll, appV, nilV, slV, sslV, optB, optNum, and_assoc, exists_and_left, exists_eq_left']
  by_cases hs : wSrc l = true
  case neg =>
    have ha : anchors l = [] := if_neg hs
    rw [show wSrc l = false by simpa using hs] at hsrc
    rw [ha]
    repeat' (first | intro _ | (simp [sxa, isPtrN, PV.pcs, elAt, setEl, inAt, elIn, setIn, isLst, cellsOf, Ex.ok, Ex.val, Opd.val, POp.dst, bin_int, binOK_int, bin_str, binOK_str, resOK, resV, RB.val, sub, putc, scB, scL, oneB, conf, Ex.val.eqP, Ex.val.eqL, negV, mxV, mnV, ← wr_eq, wr_zero, wr_one, wr_m1, bst_lst, byteC, partsOK, putAll, appV, nilV, slV, sslV, optB, optNum, and_assoc, exists_and_left, exists_eq_left', *]) | refine CallS_i (hsrc) ?_ | refine CallM_i (hsrc) ?_ | refine CallE_i (hsrc) ?_ | refine CallX_i (hsrc) ?_ | refine CallB_i (hsrc) ?_ | refine CondS_d (fun h => ?_) (fun h => ?_) | refine CondS_b (fun h => ?_) (fun h => ?_) | refine GrdS_d (fun h => ?_) (fun h => ?_) | refine GrdS_b (fun h => ?_) (fun h => ?_) | refine OkS_i (by omega) ?_ | fail)
  have ha : anchors l = anTo l l.length := if_pos hs
  rw [hs] at hsrc
  rw [ha]
  repeat' (first | intro _ | (simp [sxa, isPtrN, PV.pcs, elAt, setEl, inAt, elIn, setIn, isLst, cellsOf, Ex.ok, Ex.val, Opd.val, POp.dst, bin_int, binOK_int, bin_str, binOK_str, resOK, resV, RB.val, sub, putc, scB, scL, oneB, conf, Ex.val.eqP, Ex.val.eqL, negV, mxV, mnV, ← wr_eq, wr_zero, wr_one, wr_m1, bst_lst, byteC, partsOK, putAll, appV, nilV, slV, sslV, optB, optNum, and_assoc, exists_and_left, exists_eq_left', *]) | refine CallS_i (hsrc) ?_ | refine CallM_i (hsrc) ?_ | refine CallE_i (hsrc) ?_ | refine CallX_i (hsrc) ?_ | refine CallB_i (hsrc) ?_ | refine CondS_d (fun h => ?_) (fun h => ?_) | refine CondS_b (fun h => ?_) (fun h => ?_) | refine GrdS_d (fun h => ?_) (fun h => ?_) | refine GrdS_b (fun h => ?_) (fun h => ?_) | refine OkS_i (by omega) ?_ | fail)
  refine sx_count l.length (fun n V => V 0 = .lst 5 nl (l.map ft) ∧ V 12 = .lst 5 nl (l.map ft) ∧ V 13 = i l.length ∧ V 3 = .lst 4 false ((anTo l n).map pl) ∧ V 14 = i n) 0 (by omega) (by simp [sxa, isPtrN, PV.pcs, elAt, setEl, inAt, elIn, setIn, isLst, cellsOf, Ex.ok, Ex.val, Opd.val, POp.dst, bin_int, binOK_int, bin_str, binOK_str, resOK, resV, RB.val, sub, putc, scB, scL, oneB, conf, Ex.val.eqP, Ex.val.eqL, negV, mxV, mnV, ← wr_eq, wr_zero, wr_one, wr_m1, bst_lst, byteC, partsOK, putAll, appV, nilV, slV, sslV, optB, optNum, and_assoc, exists_and_left, exists_eq_left', anTo]) ?_
  rintro n V hn ⟨g0, g12, g13, g3, g4⟩
  simp [sxa, isPtrN, PV.pcs, elAt, setEl, inAt, elIn, setIn, isLst, cellsOf, Ex.ok, Ex.val, Opd.val, POp.dst, bin_int, binOK_int, bin_str, binOK_str, resOK, resV, RB.val, sub, putc, scB, scL, oneB, conf, Ex.val.eqP, Ex.val.eqL, negV, mxV, mnV, ← wr_eq, wr_zero, wr_one, wr_m1, bst_lst, byteC, partsOK, putAll, appV, nilV, slV, sslV, optB, optNum, and_assoc, exists_and_left, exists_eq_left', g13, g4]
  refine CondS_d (fun hlt => ?_) (fun hge => ?_)
  · have hlt' : n < l.length := by omega
    have hw : wr .i64 ((n : Int) + 1) = n + 1 := wr_in (by omega) (by omega)
    have hln := anTo_len l n
    obtain ⟨p1, p2, p3⟩ := feat_pts (src_feat hs hlt')
    have hok := (hb _ (List.getElem_mem hlt')).2
    have hgd : l.getD n ftD = l[n] := by simp [hlt']
    have hs1 : anTo l (n + 1) = anTo l n ++ (if l[n].f3 = bs [] then [] else [anOf l[n]]) := by rw [anTo, hgd]
    have hmid := f55 l[n].f4 l[n].nl (by omega)
    have hdv : ((l[n].f4.length : Int)).tdiv 2 = ((l[n].f4.length / 2 : Nat) : Int) := by rw [Int.tdiv_eq_ediv_of_nonneg (by omega)]; omega
    obtain ⟨m, hm⟩ : ∃ m, l[n].f4.length / 2 = m := ⟨_, rfl⟩
    have hml : m < l[n].f4.length := by omega
    rw [hm] at hdv
    have hwm : wr .i64 (m : Int) = m := wr_in (by omega) (by omega)
    have hat : anAt l[n] = if l[n].f1 = 3 then rMid l[n].f4 else l[n].f4[m] := by unfold anAt; rw [hm]; simp [hml]
    by_cases hnm : l[n].f3 = bs []
    · rw [if_pos hnm, List.append_nil] at hs1
      repeat' (first | intro _ | (simp [sxa, isPtrN, PV.pcs, elAt, setEl, inAt, elIn, setIn, isLst, cellsOf, Ex.ok, Ex.val, Opd.val, POp.dst, bin_int, binOK_int, bin_str, binOK_str, resOK, resV, RB.val, sub, putc, scB, scL, oneB, conf, Ex.val.eqP, Ex.val.eqL, negV, mxV, mnV, ← wr_eq, wr_zero, wr_one, wr_m1, bst_lst, byteC, partsOK, putAll, appV, nilV, slV, sslV, optB, optNum, and_assoc, exists_and_left, exists_eq_left', ft, *]) | refine CondS_d (fun h => ?_) (fun h => ?_) | refine CondS_b (fun h => ?_) (fun h => ?_) | refine GrdS_d (fun h => ?_) (fun h => ?_) | refine GrdS_b (fun h => ?_) (fun h => ?_) | refine OkS_i (by omega) ?_ | fail)
    · rw [if_neg hnm] at hs1
      rcases p3 with hk | hk | hk
      · have hm0 : m = 0 := by have := p2 hk; omega
        subst hm0
        have hne : ¬ l[n].f4 = [] := fun h => by rw [h] at p1; cases p1
        rw [if_neg (by omega)] at hat
        clear hdv hwm hm p2
        repeat' (first | intro _ | (simp [sxa, isPtrN, PV.pcs, elAt, setEl, inAt, elIn, setIn, isLst, cellsOf, Ex.ok, Ex.val, Opd.val, POp.dst, bin_int, binOK_int, bin_str, binOK_str, resOK, resV, RB.val, sub, putc, scB, scL, oneB, conf, Ex.val.eqP, Ex.val.eqL, negV, mxV, mnV, ← wr_eq, wr_zero, wr_one, wr_m1, bst_lst, byteC, partsOK, putAll, appV, nilV, slV, sslV, optB, optNum, and_assoc, exists_and_left, exists_eq_left', ft, cp, pl, anOf, *]) | refine CondS_d (fun h => ?_) (fun h => ?_) | refine CondS_b (fun h => ?_) (fun h => ?_) | refine GrdS_d (fun h => ?_) (fun h => ?_) | refine GrdS_b (fun h => ?_) (fun h => ?_) | refine OkS_i (by omega) ?_ | fail)
      · rw [if_neg (by omega)] at hat
        clear p2
        repeat' (first | intro _ | (simp [sxa, isPtrN, PV.pcs, elAt, setEl, inAt, elIn, setIn, isLst, cellsOf, Ex.ok, Ex.val, Opd.val, POp.dst, bin_int, binOK_int, bin_str, binOK_str, resOK, resV, RB.val, sub, putc, scB, scL, oneB, conf, Ex.val.eqP, Ex.val.eqL, negV, mxV, mnV, ← wr_eq, wr_zero, wr_one, wr_m1, bst_lst, byteC, partsOK, putAll, appV, nilV, slV, sslV, optB, optNum, and_assoc, exists_and_left, exists_eq_left', ft, cp, pl, anOf, *]) | refine CondS_d (fun h => ?_) (fun h => ?_) | refine CondS_b (fun h => ?_) (fun h => ?_) | refine GrdS_d (fun h => ?_) (fun h => ?_) | refine GrdS_b (fun h => ?_) (fun h => ?_) | refine OkS_i (by omega) ?_ | fail)
      · rw [if_pos hk] at hat
        clear p2
        repeat' (first | intro _ | (simp [sxa, isPtrN, PV.pcs, elAt, setEl, inAt, elIn, setIn, isLst, cellsOf, Ex.ok, Ex.val, Opd.val, POp.dst, bin_int, binOK_int, bin_str, binOK_str, resOK, resV, RB.val, sub, putc, scB, scL, oneB, conf, Ex.val.eqP, Ex.val.eqL, negV, mxV, mnV, ← wr_eq, wr_zero, wr_one, wr_m1, bst_lst, byteC, partsOK, putAll, appV, nilV, slV, sslV, optB, optNum, and_assoc, exists_and_left, exists_eq_left', ft, cp, pl, anOf, *]) | refine CallS_i (hmid) ?_ | refine CallM_i (hmid) ?_ | refine CallE_i (hmid) ?_ | refine CallX_i (hmid) ?_ | refine CallB_i (hmid) ?_ | refine CondS_d (fun h => ?_) (fun h => ?_) | refine CondS_b (fun h => ?_) (fun h => ?_) | refine GrdS_d (fun h => ?_) (fun h => ?_) | refine GrdS_b (fun h => ?_) (fun h => ?_) | refine OkS_i (by omega) ?_ | fail)
  · have : n = l.length := by omega
    subst this
    repeat' (first | intro _ | (simp [sxa, isPtrN, PV.pcs, elAt, setEl, inAt, elIn, setIn, isLst, cellsOf, Ex.ok, Ex.val, Opd.val, POp.dst, bin_int, binOK_int, bin_str, binOK_str, resOK, resV, RB.val, sub, putc, scB, scL, oneB, conf, Ex.val.eqP, Ex.val.eqL, negV, mxV, mnV, ← wr_eq, wr_zero, wr_one, wr_m1, bst_lst, byteC, partsOK, putAll, appV, nilV, slV, sslV, optB, optNum, and_assoc, exists_and_left, exists_eq_left', *]) | refine CondS_d (fun h => ?_) (fun h => ?_) | refine CondS_b (fun h => ?_) (fun h => ?_) | refine GrdS_d (fun h => ?_) (fun h => ?_) | refine GrdS_b (fun h => ?_) (fun h => ?_) | refine OkS_i (by omega) ?_ | fail)
theorem firstFrom_no {ok : Nat → Bool} : ∀ d n : Nat, firstFrom ok d n = -1 → ∀ j, n ≤ j → j < n + d → ok j = false
  | 0, n, _, j, h1, h2 => by omega
  | d + 1, n, h, j, h1, h2 => by
    unfold firstFrom at h
    split at h
    · omega
    · rename_i hne
      rcases Nat.lt_or_ge n j with h3 | h3
      · exact firstFrom_no d (n + 1) h j (by omega) (by omega)
      · obtain rfl : j = n := by omega
        simpa using hne
theorem find_id {l : List Ft} {id : Int} {j : Nat} (hj : j < l.length) (h : l[j].f0 = id) : ∃ k : Nat, wFind l id = k ∧ k < l.length := by
  have hb := wFind_bound l id
  have h0 : ¬ wFind l id = -1 := fun hh => by
    have := firstFrom_no _ _ hh j (by omega) (by omega)
    unfold hasId at this
    simp [hj, h] at this
  exact ⟨(wFind l id).toNat, by omega, by omega⟩
theorem an_mem {l : List Ft} : ∀ n, n ≤ l.length → ∀ x ∈ anTo l n, ∃ j, ∃ hj : j < l.length, j < n ∧ x = anOf l[j] := by
  intro n
  induction n with
  | zero => intro _ x hx; cases hx
  | succ n ih =>
    intro hn x hx
    unfold anTo at hx
    have hgd : l.getD n ftD = l[n] := by simp [show n < l.length by omega]
    rcases List.mem_append.1 hx with h | h
    · obtain ⟨j, hj, h1, h2⟩ := ih (by omega) x h
      exact ⟨j, hj, by omega, h2⟩
    · rw [hgd] at h
      split at h
      · cases h
      · exact ⟨n, by omega, by omega, by simpa using h⟩
theorem src_up {l : List Ft} (h : wSrc l = true) : ∀ j k, j < k → (hk : k < l.length) → (hj : j < l.length) → l[j].f0 < l[k].f0 := by
  intro j k
  induction k with
  | zero => intro h1; omega
  | succ k ih =>
    intro h1 hk hj
    unfold wSrc at h
    simp only [Bool.and_eq_true] at h
    have h2 := allTo_get h.2 hk
    unfold srcAt at h2
    simp [hk, show k < l.length by omega] at h2
    rcases Nat.lt_or_ge j k with h3 | h3
    · have := ih h3 (by omega) hj; omega
    · obtain rfl : j = k := by omega
      omega
theorem an_up {l : List Ft} (h : wSrc l = true) : ∀ n, n ≤ l.length → (anTo l n).Pairwise fun a b => a.f0 < b.f0 := by
  intro n
  induction n with
  | zero => intro _; exact List.Pairwise.nil
  | succ n ih =>
    intro hn
    have hgd : l.getD n ftD = l[n] := by simp [show n < l.length by omega]
    unfold anTo
    rw [hgd]
    split
    · rw [List.append_nil]; exact ih (by omega)
    · rw [List.pairwise_append]
      refine ⟨ih (by omega), by simp, fun a ha b hb => ?_⟩
      obtain ⟨j, hj, h1, rfl⟩ := an_mem n (by omega) a ha
      obtain rfl : b = anOf l[n] := by simpa using hb
      exact src_up h j n h1 (by omega) hj
/-- what is listed of an anchor -/
def liOf (l : List Ft) (x : Pl) : Li := ⟨(l.getD (wFind l x.f0).toNat ftD).f3, x.f0, wRef (wTile x.f1.f0 x.f1.f1)⟩
def lstD (l : List Ft) : List Li := (anchors l).map (liOf l)
theorem lstD_up (l : List Ft) : (lstD l).Pairwise fun a b => a.f1 < b.f1 := by
  unfold lstD anchors
  split
  · rename_i h
    rw [List.pairwise_map]
    exact an_up h l.length (Nat.le_refl _)
  · exact List.Pairwise.nil
theorem an_find {l : List Ft} {n : Nat} (hn : n < (anchors l).length) : ∃ k : Nat, wFind l (anchors l)[n].f0 = k ∧ k < l.length := by
  have hx : (anchors l)[n] ∈ anchors l := List.getElem_mem hn
  generalize (anchors l)[n] = x at hx
  unfold anchors at hx
  split at hx
  · obtain ⟨j, hj, _, rfl⟩ := an_mem l.length (Nat.le_refl _) x hx
    exact find_id hj rfl
  · cases hx
theorem anchors_len (l : List Ft) : (anchors l).length ≤ l.length := by
  unfold anchors
  split
  · exact anTo_len l l.length
  · simp
end Go.Eng
namespace Go.Eng
open Go Go.Proofs Geo
set_option linter.unusedSimpArgs false
set_option linter.unusedVariables false
set_option maxRecDepth 20000
set_option maxHeartbeats 2000000

/-! the list of names. WRITES -/
theorem f9 (l : List Ft) (nl : Bool) (hl : l.length ≤ 1048576) (hb : ∀ x ∈ l, x.okay) : Fn Tryz.prog 9 true [.lst 5 nl (l.map ft)] (.lst 3 false ((srtL cfLi (lstD l)).map li)) := by
  have ha := f17 l nl (by omega) hb
  have hal := anchors_len l
  have hdl : (lstD l).length = (anchors l).length := by unfold lstD; rw [List.length_map]
  have hfind : ∀ n, (hn : n < (anchors l).length) → ∃ k : Nat, wFind l (anchors l)[n].f0 = k ∧ k < l.length := fun n hn => an_find hn
  have hD : ∀ n, (hn : n < (anchors l).length) → (lstD l).take (n + 1) = (lstD l).take n ++ [liOf l (anchors l)[n]] := by
    intro n hn
    rw [List.take_add_one, List.getElem?_eq_getElem (by omega)]
    simp [lstD]
  have hof : ∀ x, liOf l x = ⟨(l.getD (wFind l x.f0).toNat ftD).f3, x.f0, wRef (wTile x.f1.f0 x.f1.f1)⟩ := fun _ => rfl
  obtain ⟨D, hDe⟩ : ∃ D, lstD l = D := ⟨_, rfl⟩
  rw [hDe] at hdl ⊢
  simp only [hDe] at hD
  obtain ⟨A, hA⟩ : ∃ A, anchors l = A := ⟨_, rfl⟩
  simp only [hA] at hfind hD hdl hal ha
  have hsort := f44 false D (by omega)
  clear hDe
  refine Fn.by_sx hX (by kernel_rfl) c9 (by kernel_rfl) (by rfl) ?_
  simp [i9, sxa, isPtrN, PV.pcs, elAt, setEl, inAt, elIn, setIn, isLst, cellsOf, Ex.ok, Ex.val, Opd.val, POp.dst, bin_int, binOK_int, bin_str, binOK_str, resOK, resV, RB.val, sub, putc, scB, scL, oneB, conf, Ex.val.eqP, Ex.val.eqL, negV, mxV, mnV, ← wr_eq, wr_zero, wr_one, wr_m1, bst_lst, byteC, partsOK, putAll, appV, nilV, slV, sslV, optB, optNum, and_assoc, exists_and_left, exists_eq_left']
  repeat' (first | intro _ | (simp [sxa, isPtrN, PV.pcs, elAt, setEl, inAt, elIn, setIn, isLst, cellsOf, Ex.ok, Ex.val, Opd.val, POp.dst, bin_int, binOK_int, bin_str, binOK_str, resOK, resV, RB.val, sub, putc, scB, scL, oneB, conf, Ex.val.eqP, Ex.val.eqL, negV, mxV, mnV, ← wr_eq, wr_zero, wr_one, wr_m1, bst_lst, byteC, partsOK, putAll, appV, nilV, slV, sslV, optB, optNum, and_assoc, exists_and_left, exists_eq_left', *]) | refine CallS_i (ha) ?_ | refine CallM_i (ha) ?_ | refine CallE_i (ha) ?_ | refine CallX_i (ha) ?_ | refine CallB_i (ha) ?_ | refine CondS_d (fun h => ?_) (fun h => ?_) | refine CondS_b (fun h => ?_) (fun h => ?_) | refine GrdS_d (fun h => ?_) (fun h => ?_) | refine GrdS_b (fun h => ?_) (fun h => ?_) | refine OkS_i (by omega) ?_ | fail)
  refine sx_count A.length (fun n V => V 0 = .lst 5 nl (l.map ft) ∧ V 8 = .lst 4 false (A.map pl) ∧ V 9 = i A.length ∧ V 10 = i n ∧ V 3 = .lst 3 false ((D.take n).map li)) 0 (by omega) (by simp [sxa, isPtrN, PV.pcs, elAt, setEl, inAt, elIn, setIn, isLst, cellsOf, Ex.ok, Ex.val, Opd.val, POp.dst, bin_int, binOK_int, bin_str, binOK_str, resOK, resV, RB.val, sub, putc, scB, scL, oneB, conf, Ex.val.eqP, Ex.val.eqL, negV, mxV, mnV, ← wr_eq, wr_zero, wr_one, wr_m1, bst_lst, byteC, partsOK, putAll, appV, nilV, slV, sslV, optB, optNum, and_assoc, exists_and_left, exists_eq_left']) ?_
  rintro n V hn ⟨g0, g8, g9, g10, g3⟩
  simp [sxa, isPtrN, PV.pcs, elAt, setEl, inAt, elIn, setIn, isLst, cellsOf, Ex.ok, Ex.val, Opd.val, POp.dst, bin_int, binOK_int, bin_str, binOK_str, resOK, resV, RB.val, sub, putc, scB, scL, oneB, conf, Ex.val.eqP, Ex.val.eqL, negV, mxV, mnV, ← wr_eq, wr_zero, wr_one, wr_m1, bst_lst, byteC, partsOK, putAll, appV, nilV, slV, sslV, optB, optNum, and_assoc, exists_and_left, exists_eq_left', g9, g10]
  refine CondS_d (fun hlt => ?_) (fun hge => ?_)
  · have hlt' : n < A.length := by omega
    have hw : wr .i64 ((n : Int) + 1) = n + 1 := wr_in (by omega) (by omega)
    obtain ⟨k, hk, hkl⟩ := hfind n hlt'
    have hf := f43 l nl A[n].f0 (by omega)
    have hr := f26 A[n].f1.f0 A[n].f1.f1
    have hd := hD n hlt'
    rw [hof, hk] at hd
    rw [hk] at hf
    have hg : l.getD k ftD = l[k] := by simp [hkl]
    rw [show ((k : Int)).toNat = k from rfl, hg] at hd
    have hll : (D.take n).length = n := by simp; omega
    obtain ⟨Q, hQ⟩ : ∃ Q, D.take n = Q := ⟨_, rfl⟩
    rw [hQ] at hd g3 hll
    clear hQ hfind hD hof hsort hk hg
    repeat' (first | intro _ | (simp [sxa, isPtrN, PV.pcs, elAt, setEl, inAt, elIn, setIn, isLst, cellsOf, Ex.ok, Ex.val, Opd.val, POp.dst, bin_int, binOK_int, bin_str, binOK_str, resOK, resV, RB.val, sub, putc, scB, scL, oneB, conf, Ex.val.eqP, Ex.val.eqL, negV, mxV, mnV, ← wr_eq, wr_zero, wr_one, wr_m1, bst_lst, byteC, partsOK, putAll, appV, nilV, slV, sslV, optB, optNum, and_assoc, exists_and_left, exists_eq_left', pl, ft, *]) | refine CallS_i (hf) ?_ | refine CallS_i (hr) ?_ | refine CallM_i (hf) ?_ | refine CallM_i (hr) ?_ | refine CallE_i (hf) ?_ | refine CallE_i (hr) ?_ | refine CallX_i (hf) ?_ | refine CallX_i (hr) ?_ | refine CallB_i (hf) ?_ | refine CallB_i (hr) ?_ | refine CondS_d (fun h => ?_) (fun h => ?_) | refine CondS_b (fun h => ?_) (fun h => ?_) | refine GrdS_d (fun h => ?_) (fun h => ?_) | refine GrdS_b (fun h => ?_) (fun h => ?_) | refine OkS_i (by omega) ?_ | fail)
    all_goals (rw [← List.map_take, hd]; simp [li])
  · have : n = A.length := by omega
    subst this
    rw [← hdl, List.take_length] at g3
    clear hfind hD hof
    repeat' (first | intro _ | (simp [sxa, isPtrN, PV.pcs, elAt, setEl, inAt, elIn, setIn, isLst, cellsOf, Ex.ok, Ex.val, Opd.val, POp.dst, bin_int, binOK_int, bin_str, binOK_str, resOK, resV, RB.val, sub, putc, scB, scL, oneB, conf, Ex.val.eqP, Ex.val.eqL, negV, mxV, mnV, ← wr_eq, wr_zero, wr_one, wr_m1, bst_lst, byteC, partsOK, putAll, appV, nilV, slV, sslV, optB, optNum, and_assoc, exists_and_left, exists_eq_left', *]) | refine CallS_i (hsort) ?_ | refine CallM_i (hsort) ?_ | refine CallE_i (hsort) ?_ | refine CallX_i (hsort) ?_ | refine CallB_i (hsort) ?_ | refine CondS_d (fun h => ?_) (fun h => ?_) | refine CondS_b (fun h => ?_) (fun h => ?_) | refine GrdS_d (fun h => ?_) (fun h => ?_) | refine GrdS_b (fun h => ?_) (fun h => ?_) | refine OkS_i (by omega) ?_ | fail)
theorem l7_2 {x : Li} {O : List Li} {V : Env} (hO : O.length ≤ 2000000) (h3 : V 3 = .lst 3 false (O.map li)) (h6 : V 6 = .ptr [.str x.f0, i x.f1, .str x.f2]) (h7 : V 7 = i O.length) :
    sx (FC Tryz.prog) (.loop (.seq (.seq (.ops [s 42 (.mv (t 7)),
  s 43 (.bin .gtr (t 42) (c (i 0))),
  s 44 (.mv (t 43)),
  sg [(44, true)] 45 (.mv (c (i 0))),
  sg [(44, true)] 46 (.ldB 6 0 1 false true),
  sg [(44, true)] 47 (.mv (t 3)),
  sg [(44, true)] 48 (.mv (t 7)),
  sg [(44, true)] 49 (.bin .sub (t 48) (c (i 1))),
  sg [(44, true)] 50 (.idx (t 47) (t 49) 3),
  sg [(44, true)] 51 (.mv (t 50)),
  sg [(44, true)] 52 (.ldE 47 51 0 1 false true 3),
  sg [(44, true)] 53 (.bin .lss (t 46) (t 52)),
  sg [(44, true)] 54 (.mv (t 53)),
  sg [(54, false), (44, true)] 55 (.mv (c (i 0))),
  sg [(54, false), (44, true)] 56 (.ldB 6 0 1 false true),
  sg [(54, false), (44, true)] 57 (.mv (t 3)),
  sg [(54, false), (44, true)] 58 (.mv (t 7)),
  sg [(54, false), (44, true)] 59 (.bin .sub (t 58) (c (i 1))),
  sg [(54, false), (44, true)] 60 (.idx (t 57) (t 59) 3),
  sg [(54, false), (44, true)] 61 (.mv (t 60)),
  sg [(54, false), (44, true)] 62 (.ldE 57 61 0 1 false true 3),
  sg [(54, false), (44, true)] 63 (.bin .eql (t 56) (t 62)),
  sg [(54, false), (44, true)] 64 (.mv (t 63)),
  sg [(64, true), (54, false), (44, true)] 65 (.mv (c (i 0))),
  sg [(64, true), (54, false), (44, true)] 66 (.ldB 6 1 1 false true),
  sg [(64, true), (54, false), (44, true)] 67 (.mv (t 3)),
  sg [(64, true), (54, false), (44, true)] 68 (.mv (t 7)),
  sg [(64, true), (54, false), (44, true)] 69 (.bin .sub (t 68) (c (i 1))),
  sg [(64, true), (54, false), (44, true)] 70 (.idx (t 67) (t 69) 3),
  sg [(64, true), (54, false), (44, true)] 71 (.mv (t 70)),
  sg [(64, true), (54, false), (44, true)] 72 (.ldE 67 71 1 1 false true 3),
  sg [(64, true), (54, false), (44, true)] 73 (.bin .lss (t 66) (t 72)),
  sg [(54, false), (44, true)] 74 (.pick (t 64) (t 73) (c (.bool false))),
  sg [(44, true)] 75 (.pick (t 54) (c (.bool true)) (t 74)),
  s 76 (.pick (t 44) (t 75) (c (.bool false)))])
 (.cond (t 76) .skip (.exit 2)))
 (.block 3 (.ops [s 77 (.mv (t 7)),
  s 78 (.bin .sub (t 77) (c (i 1))),
  s 7 (.mv (t 78))])))) (fun y V' => y = .exit 2 ∧ V' 0 = V 0 ∧ V' 3 = V 3 ∧ V' 4 = V 4 ∧ V' 5 = V 5 ∧ V' 6 = V 6 ∧ V' 7 = i (insK x O O.length : Nat)) V := by
  refine sx_down (fun m V' => m ≤ O.length ∧ V' 0 = V 0 ∧ V' 3 = V 3 ∧ V' 4 = V 4 ∧ V' 5 = V 5 ∧ V' 6 = V 6 ∧ V' 7 = i m ∧ insK x O m = insK x O O.length) O.length ⟨Nat.le_refl _, rfl, rfl, rfl, rfl, rfl, h7, rfl⟩ ?_
  rintro m V' ⟨hm, g0, g3, g4, g5, g6, g7, hk⟩
  cases m with
  | zero =>
    have hk0 : insK x O O.length = 0 := by rw [← hk]; rfl
    clear hk
    repeat' (first | intro _ | (simp [sxa, isPtrN, PV.pcs, elAt, setEl, inAt, elIn, setIn, isLst, cellsOf, Ex.ok, Ex.val, Opd.val, POp.dst, bin_int, binOK_int, bin_str, binOK_str, resOK, resV, RB.val, sub, putc, scB, scL, oneB, conf, Ex.val.eqP, Ex.val.eqL, negV, mxV, mnV, ← wr_eq, wr_zero, wr_one, wr_m1, bst_lst, byteC, partsOK, putAll, appV, nilV, slV, sslV, optB, optNum, and_assoc, exists_and_left, exists_eq_left', *]) | refine CondS_d (fun h => ?_) (fun h => ?_) | refine CondS_b (fun h => ?_) (fun h => ?_) | refine GrdS_d (fun h => ?_) (fun h => ?_) | refine GrdS_b (fun h => ?_) (fun h => ?_) | refine OkS_i (by omega) ?_ | fail)
  | succ m =>
    have hlt : m < O.length := by omega
    have hw : wr .i64 (((m + 1 : Nat) : Int) - 1) = m := by rw [wr_in (by omega) (by omega)]; omega
    have hgd : O.getD m liD = O[m] := by simp [hlt]
    have hpos : (0 : Int) < ((m + 1 : Nat) : Int) := by omega
    rw [insK, hgd] at hk
    rw [h3] at g3
    rw [h6] at g6
    obtain ⟨N, hN⟩ : ∃ N : Int, ((m + 1 : Nat) : Int) = N := ⟨_, rfl⟩
    rw [hN] at g7 hw hpos
    obtain ⟨K, hK⟩ : ∃ K, insK x O O.length = K := ⟨_, rfl⟩
    rw [hK] at hk ⊢
    by_cases b1 : Op.bytesLess x.f0.toList O[m].f0.toList = true
    · rw [if_pos (by unfold ltLi bl; rw [b1]; rfl)] at hk
      repeat' (first | intro _ | (simp [sxa, isPtrN, PV.pcs, elAt, setEl, inAt, elIn, setIn, isLst, cellsOf, Ex.ok, Ex.val, Opd.val, POp.dst, bin_int, binOK_int, bin_str, binOK_str, resOK, resV, RB.val, sub, putc, scB, scL, oneB, conf, Ex.val.eqP, Ex.val.eqL, negV, mxV, mnV, ← wr_eq, wr_zero, wr_one, wr_m1, bst_lst, byteC, partsOK, putAll, appV, nilV, slV, sslV, optB, optNum, and_assoc, exists_and_left, exists_eq_left', li, *]) | refine CondS_d (fun h => ?_) (fun h => ?_) | refine CondS_b (fun h => ?_) (fun h => ?_) | refine GrdS_d (fun h => ?_) (fun h => ?_) | refine GrdS_b (fun h => ?_) (fun h => ?_) | refine OkS_i (by omega) ?_ | fail)
      all_goals (first | omega | exact ⟨m, by omega, by omega, rfl, hk⟩ | simp_all)
    · have b1' : Op.bytesLess x.f0.toList O[m].f0.toList = false := by simpa using b1
      by_cases b2 : x.f0 = O[m].f0
      · by_cases b3 : x.f1 < O[m].f1
        · rw [if_pos (by unfold ltLi; simp [b2, b3])] at hk
          repeat' (first | intro _ | (simp [sxa, isPtrN, PV.pcs, elAt, setEl, inAt, elIn, setIn, isLst, cellsOf, Ex.ok, Ex.val, Opd.val, POp.dst, bin_int, binOK_int, bin_str, binOK_str, resOK, resV, RB.val, sub, putc, scB, scL, oneB, conf, Ex.val.eqP, Ex.val.eqL, negV, mxV, mnV, ← wr_eq, wr_zero, wr_one, wr_m1, bst_lst, byteC, partsOK, putAll, appV, nilV, slV, sslV, optB, optNum, and_assoc, exists_and_left, exists_eq_left', li, *]) | refine CondS_d (fun h => ?_) (fun h => ?_) | refine CondS_b (fun h => ?_) (fun h => ?_) | refine GrdS_d (fun h => ?_) (fun h => ?_) | refine GrdS_b (fun h => ?_) (fun h => ?_) | refine OkS_i (by omega) ?_ | fail)
          all_goals (first | omega | exact ⟨m, by omega, by omega, rfl, hk⟩ | simp_all)
        · have hnl : ¬ ltLi x O[m] = true := by unfold ltLi bl; rw [b1']; simp [b3]
          rw [if_neg hnl] at hk
          repeat' (first | intro _ | (simp [sxa, isPtrN, PV.pcs, elAt, setEl, inAt, elIn, setIn, isLst, cellsOf, Ex.ok, Ex.val, Opd.val, POp.dst, bin_int, binOK_int, bin_str, binOK_str, resOK, resV, RB.val, sub, putc, scB, scL, oneB, conf, Ex.val.eqP, Ex.val.eqL, negV, mxV, mnV, ← wr_eq, wr_zero, wr_one, wr_m1, bst_lst, byteC, partsOK, putAll, appV, nilV, slV, sslV, optB, optNum, and_assoc, exists_and_left, exists_eq_left', li, *]) | refine CondS_d (fun h => ?_) (fun h => ?_) | refine CondS_b (fun h => ?_) (fun h => ?_) | refine GrdS_d (fun h => ?_) (fun h => ?_) | refine GrdS_b (fun h => ?_) (fun h => ?_) | refine OkS_i (by omega) ?_ | fail)
          all_goals (first | omega | simp_all)
      · have hnl : ¬ ltLi x O[m] = true := by unfold ltLi bl; rw [b1']; simp [b2]
        rw [if_neg hnl] at hk
        repeat' (first | intro _ | (simp [sxa, isPtrN, PV.pcs, elAt, setEl, inAt, elIn, setIn, isLst, cellsOf, Ex.ok, Ex.val, Opd.val, POp.dst, bin_int, binOK_int, bin_str, binOK_str, resOK, resV, RB.val, sub, putc, scB, scL, oneB, conf, Ex.val.eqP, Ex.val.eqL, negV, mxV, mnV, ← wr_eq, wr_zero, wr_one, wr_m1, bst_lst, byteC, partsOK, putAll, appV, nilV, slV, sslV, optB, optNum, and_assoc, exists_and_left, exists_eq_left', li, *]) | refine CondS_d (fun h => ?_) (fun h => ?_) | refine CondS_b (fun h => ?_) (fun h => ?_) | refine GrdS_d (fun h => ?_) (fun h => ?_) | refine GrdS_b (fun h => ?_) (fun h => ?_) | refine OkS_i (by omega) ?_ | fail)
        all_goals (first | omega | simp_all)
theorem insTo_le (D : List Li) (n : Nat) : (insTo D n).length = n := by
  induction n with
  | zero => rfl
  | succ n ih => unfold insTo; rw [(insL_perm _ _).length_eq, List.length_cons, ih]
theorem f7 (l : List Ft) (nl : Bool) (hl : l.length ≤ 1048576) (hb : ∀ x ∈ l, x.okay) : Fn Tryz.prog 7 true [.lst 5 nl (l.map ft)] (.lst 3 false ((srtL cfLi (lstD l)).map li)) := by
  rw [ins_srt (lstD_up l)]
  have ha := f39 l nl (by omega) hb
  have hal := anchors_len l
  have hdl : (lstD l).length = (anchors l).length := by unfold lstD; rw [List.length_map]
  have hfind : ∀ n, (hn : n < (anchors l).length) → ∃ k : Nat, wFind l (anchors l)[n].f0 = k ∧ k < l.length := fun n hn => an_find hn
  have hD : ∀ n, (hn : n < (anchors l).length) → (lstD l).getD n liD = liOf l (anchors l)[n] := by
    intro n hn
    simp [lstD, hn]
  have hof : ∀ x, liOf l x = ⟨(l.getD (wFind l x.f0).toNat ftD).f3, x.f0, wRef (wTile x.f1.f0 x.f1.f1)⟩ := fun _ => rfl
  obtain ⟨D, hDe⟩ : ∃ D, lstD l = D := ⟨_, rfl⟩
  rw [hDe] at hdl ⊢
  simp only [hDe] at hD
  obtain ⟨A, hA⟩ : ∃ A, anchors l = A := ⟨_, rfl⟩
  simp only [hA] at hfind hD hdl hal ha
  rw [hdl]
  clear hDe
  refine Fn.by_sx hX (by kernel_rfl) c7 (by kernel_rfl) (by rfl) ?_
  simp [i7, sxa, isPtrN, PV.pcs, elAt, setEl, inAt, elIn, setIn, isLst, cellsOf, Ex.ok, Ex.val, Opd.val, POp.dst, bin_int, binOK_int, bin_str, binOK_str, resOK, resV, RB.val, sub, putc, scB, scL, oneB, conf, Ex.val.eqP, Ex.val.eqL, negV, mxV, mnV, ← wr_eq, wr_zero, wr_one, wr_m1, bst_lst, byteC, partsOK, putAll, appV, nilV, slV, sslV, optB, optNum, and_assoc, exists_and_left, exists_eq_left']
  repeat' (first | intro _ | (simp [sxa, isPtrN, PV.pcs, elAt, setEl, inAt, elIn, setIn, isLst, cellsOf, Ex.ok, Ex.val, Opd.val, POp.dst, bin_int, binOK_int, bin_str, binOK_str, resOK, resV, RB.val, sub, putc, scB, scL, oneB, conf, Ex.val.eqP, Ex.val.eqL, negV, mxV, mnV, ← wr_eq, wr_zero, wr_one, wr_m1, bst_lst, byteC, partsOK, putAll, appV, nilV, slV, sslV, optB, optNum, and_assoc, exists_and_left, exists_eq_left', *]) | refine CallS_i (ha) ?_ | refine CallM_i (ha) ?_ | refine CallE_i (ha) ?_ | refine CallX_i (ha) ?_ | refine CallB_i (ha) ?_ | refine CondS_d (fun h => ?_) (fun h => ?_) | refine CondS_b (fun h => ?_) (fun h => ?_) | refine GrdS_d (fun h => ?_) (fun h => ?_) | refine GrdS_b (fun h => ?_) (fun h => ?_) | refine OkS_i (by omega) ?_ | fail)
  refine sx_count A.length (fun n V => V 0 = .lst 5 nl (l.map ft) ∧ V 4 = .lst 4 false (A.map pl) ∧ V 5 = i n ∧ V 3 = .lst 3 false ((insTo D n).map li)) 0 (by omega) (by simp [sxa, isPtrN, PV.pcs, elAt, setEl, inAt, elIn, setIn, isLst, cellsOf, Ex.ok, Ex.val, Opd.val, POp.dst, bin_int, binOK_int, bin_str, binOK_str, resOK, resV, RB.val, sub, putc, scB, scL, oneB, conf, Ex.val.eqP, Ex.val.eqL, negV, mxV, mnV, ← wr_eq, wr_zero, wr_one, wr_m1, bst_lst, byteC, partsOK, putAll, appV, nilV, slV, sslV, optB, optNum, and_assoc, exists_and_left, exists_eq_left', insTo]) ?_
  rintro n V hn ⟨g0, g4, g5, g3⟩
  simp [sxa, isPtrN, PV.pcs, elAt, setEl, inAt, elIn, setIn, isLst, cellsOf, Ex.ok, Ex.val, Opd.val, POp.dst, bin_int, binOK_int, bin_str, binOK_str, resOK, resV, RB.val, sub, putc, scB, scL, oneB, conf, Ex.val.eqP, Ex.val.eqL, negV, mxV, mnV, ← wr_eq, wr_zero, wr_one, wr_m1, bst_lst, byteC, partsOK, putAll, appV, nilV, slV, sslV, optB, optNum, and_assoc, exists_and_left, exists_eq_left', g4, g5]
  refine CondS_d (fun hlt => ?_) (fun hge => ?_)
  · have hlt' : n < A.length := by omega
    have hw : wr .i64 ((n : Int) + 1) = n + 1 := wr_in (by omega) (by omega)
    obtain ⟨k, hk, hkl⟩ := hfind n hlt'
    have hf := f40 l nl A[n].f0 (by omega)
    have hr := f41 A[n].f1.f0 A[n].f1.f1
    have hd := hD n hlt'
    rw [hof, hk] at hd
    rw [hk] at hf
    have hg : l.getD k ftD = l[k] := by simp [hkl]
    rw [show ((k : Int)).toNat = k from rfl, hg] at hd
    have hll := insTo_le D n
    have hs : insTo D (n + 1) = insL (D.getD n liD) (insTo D n) := rfl
    rw [hd] at hs
    obtain ⟨O, hO⟩ : ∃ O, insTo D n = O := ⟨_, rfl⟩
    rw [hO] at hs g3 hll
    clear hO hfind hD hof hk hg
    repeat' (first | intro _ | (simp [sxa, isPtrN, PV.pcs, elAt, setEl, inAt, elIn, setIn, isLst, cellsOf, Ex.ok, Ex.val, Opd.val, POp.dst, bin_int, binOK_int, bin_str, binOK_str, resOK, resV, RB.val, sub, putc, scB, scL, oneB, conf, Ex.val.eqP, Ex.val.eqL, negV, mxV, mnV, ← wr_eq, wr_zero, wr_one, wr_m1, bst_lst, byteC, partsOK, putAll, appV, nilV, slV, sslV, optB, optNum, and_assoc, exists_and_left, exists_eq_left', pl, ft, *]) | refine CallS_i (hf) ?_ | refine CallS_i (hr) ?_ | refine CallM_i (hf) ?_ | refine CallM_i (hr) ?_ | refine CallE_i (hf) ?_ | refine CallE_i (hr) ?_ | refine CallX_i (hf) ?_ | refine CallX_i (hr) ?_ | refine CallB_i (hf) ?_ | refine CallB_i (hr) ?_ | refine CondS_d (fun h => ?_) (fun h => ?_) | refine CondS_b (fun h => ?_) (fun h => ?_) | refine GrdS_d (fun h => ?_) (fun h => ?_) | refine GrdS_b (fun h => ?_) (fun h => ?_) | refine OkS_i (by omega) ?_ | fail)
    obtain ⟨X0, hX0⟩ : ∃ X0 : Li, X0 = ⟨l[k].f3, A[n].f0, wRef (wTile A[n].f1.f0 A[n].f1.f1)⟩ := ⟨_, rfl⟩
    rw [← hX0] at hs
    have x0 : l[k].f3 = X0.f0 := by rw [hX0]
    have x1 : A[n].f0 = X0.f1 := by rw [hX0]
    have x2 : wRef (wTile A[n].f1.f0 A[n].f1.f1) = X0.f2 := by rw [hX0]
    rw [x0, x1, x2]
    refine sx_mono _ _ _ _ ?_ (l7_2 (x := X0) (O := O) (by omega) (by simp [sxa, isPtrN, PV.pcs, elAt, setEl, inAt, elIn, setIn, isLst, cellsOf, Ex.ok, Ex.val, Opd.val, POp.dst, bin_int, binOK_int, bin_str, binOK_str, resOK, resV, RB.val, sub, putc, scB, scL, oneB, conf, Ex.val.eqP, Ex.val.eqL, negV, mxV, mnV, ← wr_eq, wr_zero, wr_one, wr_m1, bst_lst, byteC, partsOK, putAll, appV, nilV, slV, sslV, optB, optNum, and_assoc, exists_and_left, exists_eq_left', g3]) (by simp [sxa, isPtrN, PV.pcs, elAt, setEl, inAt, elIn, setIn, isLst, cellsOf, Ex.ok, Ex.val, Opd.val, POp.dst, bin_int, binOK_int, bin_str, binOK_str, resOK, resV, RB.val, sub, putc, scB, scL, oneB, conf, Ex.val.eqP, Ex.val.eqL, negV, mxV, mnV, ← wr_eq, wr_zero, wr_one, wr_m1, bst_lst, byteC, partsOK, putAll, appV, nilV, slV, sslV, optB, optNum, and_assoc, exists_and_left, exists_eq_left']) (by simp [sxa, isPtrN, PV.pcs, elAt, setEl, inAt, elIn, setIn, isLst, cellsOf, Ex.ok, Ex.val, Opd.val, POp.dst, bin_int, binOK_int, bin_str, binOK_str, resOK, resV, RB.val, sub, putc, scB, scL, oneB, conf, Ex.val.eqP, Ex.val.eqL, negV, mxV, mnV, ← wr_eq, wr_zero, wr_one, wr_m1, bst_lst, byteC, partsOK, putAll, appV, nilV, slV, sslV, optB, optNum, and_assoc, exists_and_left, exists_eq_left', hll]))
    rintro y V' ⟨rfl, e0, e3, e4, e5, e6, e7⟩
    have hKl := insK_le X0 O O.length
    obtain ⟨K, hK⟩ : ∃ K, insK X0 O O.length = K := ⟨_, rfl⟩
    have hins : insL X0 O = O.take K ++ X0 :: O.drop K := by unfold insL; rw [hK]
    rw [hK] at e7 hKl
    simp [sxa, isPtrN, PV.pcs, elAt, setEl, inAt, elIn, setIn, isLst, cellsOf, Ex.ok, Ex.val, Opd.val, POp.dst, bin_int, binOK_int, bin_str, binOK_str, resOK, resV, RB.val, sub, putc, scB, scL, oneB, conf, Ex.val.eqP, Ex.val.eqL, negV, mxV, mnV, ← wr_eq, wr_zero, wr_one, wr_m1, bst_lst, byteC, partsOK, putAll, appV, nilV, slV, sslV, optB, optNum, and_assoc, exists_and_left, exists_eq_left', g0, g3, g4, g5] at e0 e3 e4 e5 e6
    clear hK hX0 x0 x1 x2 hf hr hd
    repeat' (first | intro _ | (simp [sxa, isPtrN, PV.pcs, elAt, setEl, inAt, elIn, setIn, isLst, cellsOf, Ex.ok, Ex.val, Opd.val, POp.dst, bin_int, binOK_int, bin_str, binOK_str, resOK, resV, RB.val, sub, putc, scB, scL, oneB, conf, Ex.val.eqP, Ex.val.eqL, negV, mxV, mnV, ← wr_eq, wr_zero, wr_one, wr_m1, bst_lst, byteC, partsOK, putAll, appV, nilV, slV, sslV, optB, optNum, and_assoc, exists_and_left, exists_eq_left', *]) | refine CondS_d (fun h => ?_) (fun h => ?_) | refine CondS_b (fun h => ?_) (fun h => ?_) | refine GrdS_d (fun h => ?_) (fun h => ?_) | refine GrdS_b (fun h => ?_) (fun h => ?_) | refine OkS_i (by omega) ?_ | fail)
    have hsc : ∀ cs ∈ O.map li, scL cs = true := by
      intro cs h
      obtain ⟨z, _, rfl⟩ := List.mem_map.1 h
      rfl
    refine OkS_i ⟨by omega, fun cs h => hsc cs (List.mem_of_mem_take h)⟩ ?_
    have htk : List.take n (List.map li O) = List.map li O := List.take_of_length_le (by rw [List.length_map]; omega)
    repeat' (first | intro _ | (simp [sxa, isPtrN, PV.pcs, elAt, setEl, inAt, elIn, setIn, isLst, cellsOf, Ex.ok, Ex.val, Opd.val, POp.dst, bin_int, binOK_int, bin_str, binOK_str, resOK, resV, RB.val, sub, putc, scB, scL, oneB, conf, Ex.val.eqP, Ex.val.eqL, negV, mxV, mnV, ← wr_eq, wr_zero, wr_one, wr_m1, bst_lst, byteC, partsOK, putAll, appV, nilV, slV, sslV, optB, optNum, and_assoc, exists_and_left, exists_eq_left', li, *]) | refine CondS_d (fun h => ?_) (fun h => ?_) | refine CondS_b (fun h => ?_) (fun h => ?_) | refine GrdS_d (fun h => ?_) (fun h => ?_) | refine GrdS_b (fun h => ?_) (fun h => ?_) | refine OkS_i (by omega) ?_ | fail)
    refine OkS_i ⟨by omega, fun cs h => ?_, fun cs h => hsc cs (List.mem_of_mem_drop h)⟩ ?_
    · rcases h with h | rfl
      · exact hsc cs (List.mem_of_mem_take h)
      · rfl
    repeat' (first | intro _ | (simp [sxa, isPtrN, PV.pcs, elAt, setEl, inAt, elIn, setIn, isLst, cellsOf, Ex.ok, Ex.val, Opd.val, POp.dst, bin_int, binOK_int, bin_str, binOK_str, resOK, resV, RB.val, sub, putc, scB, scL, oneB, conf, Ex.val.eqP, Ex.val.eqL, negV, mxV, mnV, ← wr_eq, wr_zero, wr_one, wr_m1, bst_lst, byteC, partsOK, putAll, appV, nilV, slV, sslV, optB, optNum, and_assoc, exists_and_left, exists_eq_left', li, *]) | refine CondS_d (fun h => ?_) (fun h => ?_) | refine CondS_b (fun h => ?_) (fun h => ?_) | refine GrdS_d (fun h => ?_) (fun h => ?_) | refine GrdS_b (fun h => ?_) (fun h => ?_) | refine OkS_i (by omega) ?_ | fail)
  · have : n = A.length := by omega
    subst this
    clear hfind hD hof
    repeat' (first | intro _ | (simp [sxa, isPtrN, PV.pcs, elAt, setEl, inAt, elIn, setIn, isLst, cellsOf, Ex.ok, Ex.val, Opd.val, POp.dst, bin_int, binOK_int, bin_str, binOK_str, resOK, resV, RB.val, sub, putc, scB, scL, oneB, conf, Ex.val.eqP, Ex.val.eqL, negV, mxV, mnV, ← wr_eq, wr_zero, wr_one, wr_m1, bst_lst, byteC, partsOK, putAll, appV, nilV, slV, sslV, optB, optNum, and_assoc, exists_and_left, exists_eq_left', *]) | refine CondS_d (fun h => ?_) (fun h => ?_) | refine CondS_b (fun h => ?_) (fun h => ?_) | refine GrdS_d (fun h => ?_) (fun h => ?_) | refine GrdS_b (fun h => ?_) (fun h => ?_) | refine OkS_i (by omega) ?_ | fail)
end Go.Eng
namespace Go.Eng
open Go Go.Proofs Geo
set_option linter.unusedSimpArgs false
set_option linter.unusedVariables false
set_option maxRecDepth 20000
set_option maxHeartbeats 2000000

/-! marks of listings; the law. WRITES -/
def mkLi (k : Int) (j : Nat) : List PV := [.str (mt (k + 3 * j)), i (k + 3 * j + 1), .str (mt (k + 3 * j + 2))]
theorem f13 (l : List Li) (nl : Bool) (k : Int) (hnl : nl = true → l = []) (hk0 : 0 ≤ k) (hk : k + 3 * l.length ≤ 1000000000000) :
    FnM Tryz.prog 13 [.lst 3 nl (l.map li), i k] (i (k + 3 * l.length)) (.lst 3 nl (upTo (mkLi k) l.length)) := by
  obtain ⟨b, hb⟩ : ∃ b : List (List PV), l.map li = b := ⟨_, rfl⟩
  have hbl : b.length = l.length := by rw [← hb]; simp
  obtain ⟨a, ha⟩ : ∃ a, upTo (mkLi k) l.length = a := ⟨_, rfl⟩
  have hal : a.length = b.length := by rw [← ha, upTo_length, hbl]
  rw [ha, hb]
  refine FnM.by_sx hX (by kernel_rfl) c13 rfl rfl ?_
  simp [i13, sxa, isPtrN, PV.pcs, elAt, setEl, inAt, elIn, setIn, isLst, cellsOf, Ex.ok, Ex.val, Opd.val, POp.dst, bin_int, binOK_int, bin_str, binOK_str, resOK, resV, RB.val, sub, putc, scB, scL, oneB, conf, Ex.val.eqP, Ex.val.eqL, negV, mxV, mnV, ← wr_eq, wr_zero, wr_one, wr_m1, bst_lst, byteC, partsOK, putAll, appV, nilV, slV, sslV, optB, optNum, and_assoc, exists_and_left, exists_eq_left']
  refine sx_count l.length (fun n V => V 0 = .lst 3 nl (mix a b n) ∧ V 5 = i n ∧ V 1 = i (k + 3 * n)) 0 (by omega) (by simp [sxa, isPtrN, PV.pcs, elAt, setEl, inAt, elIn, setIn, isLst, cellsOf, Ex.ok, Ex.val, Opd.val, POp.dst, bin_int, binOK_int, bin_str, binOK_str, resOK, resV, RB.val, sub, putc, scB, scL, oneB, conf, Ex.val.eqP, Ex.val.eqL, negV, mxV, mnV, ← wr_eq, wr_zero, wr_one, wr_m1, bst_lst, byteC, partsOK, putAll, appV, nilV, slV, sslV, optB, optNum, and_assoc, exists_and_left, exists_eq_left', mix_zero]) ?_
  rintro n V hn ⟨h0, h5, h1⟩
  have hml := mix_len (n := n) hal
  rw [hbl] at hml
  simp [sxa, isPtrN, PV.pcs, elAt, setEl, inAt, elIn, setIn, isLst, cellsOf, Ex.ok, Ex.val, Opd.val, POp.dst, bin_int, binOK_int, bin_str, binOK_str, resOK, resV, RB.val, sub, putc, scB, scL, oneB, conf, Ex.val.eqP, Ex.val.eqL, negV, mxV, mnV, ← wr_eq, wr_zero, wr_one, wr_m1, bst_lst, byteC, partsOK, putAll, appV, nilV, slV, sslV, optB, optNum, and_assoc, exists_and_left, exists_eq_left', h0, h5]
  refine CondS_d (fun hlt => ?_) (fun hge => ?_)
  · have hlt' : n < l.length := by omega
    have hnb : n < b.length := by omega
    have hf : nl = false := by cases nl with | false => rfl | true => rw [hnl rfl] at hlt'; simp at hlt'
    subst hf
    obtain ⟨x, hxe⟩ : ∃ x, l[n] = x := ⟨_, rfl⟩
    have hat : (mix a b n)[n]? = some [.str x.f0, i x.f1, .str x.f2] := by rw [mix_at hal hnb]; subst hb; simp [li, hxe]
    have hmk : mkLi k n = [.str (mt (k + 3 * n)), i (k + 3 * n + 1), .str (mt (k + 3 * n + 2))] := rfl
    have hq3 : k + 3 * (n : Int) + 3 = k + 3 * ((n : Int) + 1) := by omega
    obtain ⟨q, hq⟩ : ∃ q, k + 3 * (n : Int) = q := ⟨_, rfl⟩
    rw [hq] at hmk h1 hq3
    have hst : (mix a b n).set n [.str (mt q), i (q + 1), .str (mt (q + 2))] = mix a b (n + 1) := mix_set hal hnb (by rw [← ha, upTo_get hlt', hmk])
    obtain ⟨hlm, hat'⟩ := get_of hat
    have hw : wr .i64 ((n : Int) + 1) = n + 1 := wr_in (by omega) (by omega)
    have w1 : wr .i64 (q + 1) = q + 1 := wr_in (by omega) (by omega)
    have w2 : wr .i64 (q + 1 + 1) = q + 2 := by rw [wr_in (by omega) (by omega)]; omega
    have w3 : wr .i64 (q + 2 + 1) = k + 3 * ((n : Int) + 1) := by rw [wr_in (by omega) (by omega)]; omega
    have c1 := f51 q (by omega)
    have c2 := f51 (q + 2) (by omega)
    clear ha hb hq hmk hq3
    repeat' (first | intro _ | (simp [sxa, isPtrN, PV.pcs, elAt, setEl, inAt, elIn, setIn, isLst, cellsOf, Ex.ok, Ex.val, Opd.val, POp.dst, bin_int, binOK_int, bin_str, binOK_str, resOK, resV, RB.val, sub, putc, scB, scL, oneB, conf, Ex.val.eqP, Ex.val.eqL, negV, mxV, mnV, ← wr_eq, wr_zero, wr_one, wr_m1, bst_lst, byteC, partsOK, putAll, appV, nilV, slV, sslV, optB, optNum, and_assoc, exists_and_left, exists_eq_left', *]) | refine CallS_i (c1) ?_ | refine CallS_i (c2) ?_ | refine CallM_i (c1) ?_ | refine CallM_i (c2) ?_ | refine CallE_i (c1) ?_ | refine CallE_i (c2) ?_ | refine CallX_i (c1) ?_ | refine CallX_i (c2) ?_ | refine CallB_i (c1) ?_ | refine CallB_i (c2) ?_ | refine CondS_d (fun h => ?_) (fun h => ?_) | refine CondS_b (fun h => ?_) (fun h => ?_) | refine GrdS_d (fun h => ?_) (fun h => ?_) | refine GrdS_b (fun h => ?_) (fun h => ?_) | refine OkS_i (by omega) ?_ | fail)
  · have : n = l.length := by omega
    subst this
    have hfu := mix_full hal
    rw [hbl] at hfu
    repeat' (first | intro _ | (simp [sxa, isPtrN, PV.pcs, elAt, setEl, inAt, elIn, setIn, isLst, cellsOf, Ex.ok, Ex.val, Opd.val, POp.dst, bin_int, binOK_int, bin_str, binOK_str, resOK, resV, RB.val, sub, putc, scB, scL, oneB, conf, Ex.val.eqP, Ex.val.eqL, negV, mxV, mnV, ← wr_eq, wr_zero, wr_one, wr_m1, bst_lst, byteC, partsOK, putAll, appV, nilV, slV, sslV, optB, optNum, and_assoc, exists_and_left, exists_eq_left', *]) | refine CondS_d (fun h => ?_) (fun h => ?_) | refine CondS_b (fun h => ?_) (fun h => ?_) | refine GrdS_d (fun h => ?_) (fun h => ?_) | refine GrdS_b (fun h => ?_) (fun h => ?_) | refine OkS_i (by omega) ?_ | fail)
theorem f14 (N : Nat) (nl : Bool) (k : Int) (hk0 : 0 ≤ k) (hk : k + 3 * N ≤ 1000000000000) :
    Fn Tryz.prog 14 false [.lst 3 nl (upTo (mkLi k) N), i k] (i (k + 3 * N)) := by
  obtain ⟨a, ha⟩ : ∃ a, upTo (mkLi k) N = a := ⟨_, rfl⟩
  have hal : a.length = N := by rw [← ha, upTo_length]
  rw [ha]
  refine Fn.by_sx hX (by kernel_rfl) c14 (by kernel_rfl) (by rfl) ?_
  simp [i14, sxa, isPtrN, PV.pcs, elAt, setEl, inAt, elIn, setIn, isLst, cellsOf, Ex.ok, Ex.val, Opd.val, POp.dst, bin_int, binOK_int, bin_str, binOK_str, resOK, resV, RB.val, sub, putc, scB, scL, oneB, conf, Ex.val.eqP, Ex.val.eqL, negV, mxV, mnV, ← wr_eq, wr_zero, wr_one, wr_m1, bst_lst, byteC, partsOK, putAll, appV, nilV, slV, sslV, optB, optNum, and_assoc, exists_and_left, exists_eq_left']
  refine sx_count N (fun n V => V 0 = .lst 3 nl a ∧ V 5 = i n ∧ V 1 = i (k + 3 * n)) 0 (by omega) (by simp [sxa, isPtrN, PV.pcs, elAt, setEl, inAt, elIn, setIn, isLst, cellsOf, Ex.ok, Ex.val, Opd.val, POp.dst, bin_int, binOK_int, bin_str, binOK_str, resOK, resV, RB.val, sub, putc, scB, scL, oneB, conf, Ex.val.eqP, Ex.val.eqL, negV, mxV, mnV, ← wr_eq, wr_zero, wr_one, wr_m1, bst_lst, byteC, partsOK, putAll, appV, nilV, slV, sslV, optB, optNum, and_assoc, exists_and_left, exists_eq_left']) ?_
  rintro n V hn ⟨h0, h5, h1⟩
  simp [sxa, isPtrN, PV.pcs, elAt, setEl, inAt, elIn, setIn, isLst, cellsOf, Ex.ok, Ex.val, Opd.val, POp.dst, bin_int, binOK_int, bin_str, binOK_str, resOK, resV, RB.val, sub, putc, scB, scL, oneB, conf, Ex.val.eqP, Ex.val.eqL, negV, mxV, mnV, ← wr_eq, wr_zero, wr_one, wr_m1, bst_lst, byteC, partsOK, putAll, appV, nilV, slV, sslV, optB, optNum, and_assoc, exists_and_left, exists_eq_left', h0, h5]
  refine CondS_d (fun hlt => ?_) (fun hge => ?_)
  · have hlt' : n < N := by omega
    have hat0 : a[n]? = some (mkLi k n) := by rw [← ha, upTo_get hlt']
    have hmk : mkLi k n = [.str (mt (k + 3 * n)), i (k + 3 * n + 1), .str (mt (k + 3 * n + 2))] := rfl
    obtain ⟨q, hq⟩ : ∃ q, k + 3 * (n : Int) = q := ⟨_, rfl⟩
    rw [hq] at hmk h1
    rw [hmk] at hat0
    have c1 := f51 q (by omega)
    have c2 := f51 (q + 2) (by omega)
    obtain ⟨T1, hT1⟩ : ∃ T, mt q = T := ⟨_, rfl⟩
    obtain ⟨T2, hT2⟩ : ∃ T, mt (q + 2) = T := ⟨_, rfl⟩
    rw [hT1] at c1 hat0
    rw [hT2] at c2 hat0
    obtain ⟨hlm, hat'⟩ := get_of hat0
    have hw : wr .i64 ((n : Int) + 1) = n + 1 := wr_in (by omega) (by omega)
    have w1 : wr .i64 (q + 1) = q + 1 := wr_in (by omega) (by omega)
    have w2 : wr .i64 (q + 1 + 1) = q + 2 := by rw [wr_in (by omega) (by omega)]; omega
    have w3 : wr .i64 (q + 2 + 1) = k + 3 * ((n : Int) + 1) := by rw [wr_in (by omega) (by omega)]; omega
    clear hT1 hT2 hmk hq ha
    repeat' (first | intro _ | (simp [sxa, isPtrN, PV.pcs, elAt, setEl, inAt, elIn, setIn, isLst, cellsOf, Ex.ok, Ex.val, Opd.val, POp.dst, bin_int, binOK_int, bin_str, binOK_str, resOK, resV, RB.val, sub, putc, scB, scL, oneB, conf, Ex.val.eqP, Ex.val.eqL, negV, mxV, mnV, ← wr_eq, wr_zero, wr_one, wr_m1, bst_lst, byteC, partsOK, putAll, appV, nilV, slV, sslV, optB, optNum, and_assoc, exists_and_left, exists_eq_left', *]) | refine CallS_i (c1) ?_ | refine CallS_i (c2) ?_ | refine CallM_i (c1) ?_ | refine CallM_i (c2) ?_ | refine CallE_i (c1) ?_ | refine CallE_i (c2) ?_ | refine CallX_i (c1) ?_ | refine CallX_i (c2) ?_ | refine CallB_i (c1) ?_ | refine CallB_i (c2) ?_ | refine CondS_d (fun h => ?_) (fun h => ?_) | refine CondS_b (fun h => ?_) (fun h => ?_) | refine GrdS_d (fun h => ?_) (fun h => ?_) | refine GrdS_b (fun h => ?_) (fun h => ?_) | refine OkS_i (by omega) ?_ | fail)
  · have : n = N := by omega
    subst this
    repeat' (first | intro _ | (simp [sxa, isPtrN, PV.pcs, elAt, setEl, inAt, elIn, setIn, isLst, cellsOf, Ex.ok, Ex.val, Opd.val, POp.dst, bin_int, binOK_int, bin_str, binOK_str, resOK, resV, RB.val, sub, putc, scB, scL, oneB, conf, Ex.val.eqP, Ex.val.eqL, negV, mxV, mnV, ← wr_eq, wr_zero, wr_one, wr_m1, bst_lst, byteC, partsOK, putAll, appV, nilV, slV, sslV, optB, optNum, and_assoc, exists_and_left, exists_eq_left', *]) | refine CondS_d (fun h => ?_) (fun h => ?_) | refine CondS_b (fun h => ?_) (fun h => ?_) | refine GrdS_d (fun h => ?_) (fun h => ?_) | refine GrdS_b (fun h => ?_) (fun h => ?_) | refine OkS_i (by omega) ?_ | fail)
theorem wtLF_frN (l : List Ft) : wtLF (l.map Ft.fr) = wtLF l := by
  unfold wtLF wtToF
  rw [List.take_of_length_le (Nat.le_refl _), List.take_of_length_le (Nat.le_refl _), List.map_map, List.length_map]
  rfl
theorem f3 (l : List Ft) (n1 : Bool) (hl : l.length ≤ 9223372036854775807) (hx : ∀ x ∈ l, x.fits) : Fn Tryz.prog 3 false [.lst 5 n1 (l.map ft)] (.bool true) := by
  refine Fn.by_sx hX (by kernel_rfl) c3 (by kernel_rfl) (by rfl) ?_
  simp [i3, sxa, isPtrN, PV.pcs, elAt, setEl, inAt, elIn, setIn, isLst, cellsOf, Ex.ok, Ex.val, Opd.val, POp.dst, bin_int, binOK_int, bin_str, binOK_str, resOK, resV, RB.val, sub, putc, scB, scL, oneB, conf, Ex.val.eqP, Ex.val.eqL, negV, mxV, mnV, ← wr_eq, wr_zero, wr_one, wr_m1, bst_lst, byteC, partsOK, putAll, appV, nilV, slV, sslV, optB, optNum, and_assoc, exists_and_left, exists_eq_left']
  refine CallS_s (f6 l n1 1048576 (by omega) (by omega) hl hx) rfl ?_
  by_cases hbig : (1048576 : Int) - wtLF l < 0
  · have : szr 1048576 (wtLF l : Nat) = -1 := if_pos hbig
    rw [this]
    repeat' (first | intro _ | (simp [sxa, isPtrN, PV.pcs, elAt, setEl, inAt, elIn, setIn, isLst, cellsOf, Ex.ok, Ex.val, Opd.val, POp.dst, bin_int, binOK_int, bin_str, binOK_str, resOK, resV, RB.val, sub, putc, scB, scL, oneB, conf, Ex.val.eqP, Ex.val.eqL, negV, mxV, mnV, ← wr_eq, wr_zero, wr_one, wr_m1, bst_lst, byteC, partsOK, putAll, appV, nilV, slV, sslV, optB, optNum, and_assoc, exists_and_left, exists_eq_left', *]) | refine CondS_d (fun h => ?_) (fun h => ?_) | refine CondS_b (fun h => ?_) (fun h => ?_) | refine GrdS_d (fun h => ?_) (fun h => ?_) | refine GrdS_b (fun h => ?_) (fun h => ?_) | refine OkS_i (by omega) ?_ | fail)
  have hz : szr 1048576 (wtLF l : Nat) = 1048576 - wtLF l := if_neg hbig
  rw [hz]
  have hnn : ¬ (1048576 : Int) - wtLF l < 0 := by omega
  have hL := wtLF_len l
  have hl' : l.length ≤ 1048576 := by omega
  have hm : ∀ x ∈ l, x.f3.size ≤ 1048576 ∧ x.f4.length ≤ 1048576 := fun x hx => by have := wtLF_mem hx; omega
  have c1 := f8 l n1 hl' fun x h => (hm x h).2
  have wr := wtLF_frN l
  obtain ⟨r, hr⟩ : ∃ r, l.map Ft.fr = r := ⟨_, rfl⟩
  have hrl : r.length ≤ 1048576 := by rw [← hr, List.length_map]; exact hl'
  have hrm : ∀ x ∈ r, x.f3.size ≤ 1048576 ∧ x.f4.length ≤ 1048576 ∧ x.nl = false := by
    intro x hx
    rw [← hr] at hx
    obtain ⟨y, hy, rfl⟩ := List.mem_map.1 hx
    exact ⟨(hm y hy).1, (hm y hy).2, rfl⟩
  rw [hr] at c1 wr
  have hro : ∀ x ∈ r, x.okay := fun x hx => by have := hrm x hx; unfold Ft.okay; omega
  have c3 := f7 r false hrl hro
  have c4 := f9 r false hrl hro
  have c5 := f11 r false false (by omega) fun x h => by have := hrm x h; omega
  have hGl : (srtL cfLi (lstD r)).length ≤ 1048576 := by
    rw [srt_len swoLi]
    have := anchors_len r
    unfold lstD
    rw [List.length_map]; omega
  obtain ⟨G, hG⟩ : ∃ G, srtL cfLi (lstD r) = G := ⟨_, rfl⟩
  rw [hG] at c3 c4 hGl
  have c6 := f10 G false false (by omega)
  have nlo : ∀ x ∈ r, x.nlok := fun x hx hh => by rw [(hrm x hx).2.2] at hh; cases hh
  have hk1 := kTo_mono (l := r) (k := 1) (n := 0) (m := r.length) (by omega)
  have hk1 : 1 ≤ kTo r 1 r.length := hk1
  have hrk := kTo_le r r.length (Nat.le_refl _) 1
  have d1 := f12 r false 1 (by simp) nlo (by omega) (by omega) (by unfold wtLF at *; omega)
  have d2 := f13 G false 1 (by simp) (by omega) (by omega)
  have d3 := f14 G.length false 1 (by omega) (by omega)
  obtain ⟨K, hK⟩ : ∃ K, kTo r 1 r.length = K := ⟨_, rfl⟩
  rw [hK] at d1 hk1 hrk
  obtain ⟨R, hR⟩ : ∃ R, (upTo (mkFtAt r 1) r.length).map ft = R := ⟨_, rfl⟩
  rw [hR] at d1
  obtain ⟨m, hme⟩ : ∃ m : Int, 1 + 3 * (G.length : Int) = m := ⟨_, rfl⟩
  have hK0 : ¬ K < 0 := by omega
  have hm0 : ¬ m < 0 := by omega
  rw [hme] at d2 d3
  clear hr hz hG hK hR hme hrk hrm nlo wr hm hro hGl
  repeat' (first | intro _ | (simp [sxa, isPtrN, PV.pcs, elAt, setEl, inAt, elIn, setIn, isLst, cellsOf, Ex.ok, Ex.val, Opd.val, POp.dst, bin_int, binOK_int, bin_str, binOK_str, resOK, resV, RB.val, sub, putc, scB, scL, oneB, conf, Ex.val.eqP, Ex.val.eqL, negV, mxV, mnV, ← wr_eq, wr_zero, wr_one, wr_m1, bst_lst, byteC, partsOK, putAll, appV, nilV, slV, sslV, optB, optNum, and_assoc, exists_and_left, exists_eq_left', *]) | refine CallS_i (c1) ?_ | refine CallS_i (c3) ?_ | refine CallS_i (c4) ?_ | refine CallS_i (c5) ?_ | refine CallS_i (c6) ?_ | refine CallS_i (d1) ?_ | refine CallS_i (d2) ?_ | refine CallS_i (d3) ?_ | refine CallM_i (c1) ?_ | refine CallM_i (c3) ?_ | refine CallM_i (c4) ?_ | refine CallM_i (c5) ?_ | refine CallM_i (c6) ?_ | refine CallM_i (d1) ?_ | refine CallM_i (d2) ?_ | refine CallM_i (d3) ?_ | refine CallE_i (c1) ?_ | refine CallE_i (c3) ?_ | refine CallE_i (c4) ?_ | refine CallE_i (c5) ?_ | refine CallE_i (c6) ?_ | refine CallE_i (d1) ?_ | refine CallE_i (d2) ?_ | refine CallE_i (d3) ?_ | refine CallX_i (c1) ?_ | refine CallX_i (c3) ?_ | refine CallX_i (c4) ?_ | refine CallX_i (c5) ?_ | refine CallX_i (c6) ?_ | refine CallX_i (d1) ?_ | refine CallX_i (d2) ?_ | refine CallX_i (d3) ?_ | refine CallB_i (c1) ?_ | refine CallB_i (c3) ?_ | refine CallB_i (c4) ?_ | refine CallB_i (c5) ?_ | refine CallB_i (c6) ?_ | refine CallB_i (d1) ?_ | refine CallB_i (d2) ?_ | refine CallB_i (d3) ?_ | refine CondS_d (fun h => ?_) (fun h => ?_) | refine CondS_b (fun h => ?_) (fun h => ?_) | refine GrdS_d (fun h => ?_) (fun h => ?_) | refine GrdS_b (fun h => ?_) (fun h => ?_) | refine OkS_i (by omega) ?_ | fail)
end Go.Eng
namespace Go.Eng
open Go Go.Proofs
set_option linter.unusedSimpArgs false
set_option linter.unusedVariables false
set_option maxRecDepth 20000
/-! what the arguments hold -/
theorem d_intb {X : Cx} {t n : Nat} {i0 : TI} {vs : List PV} (hi : X.ti t = some i0) (hk : i0.k = .int .i64) (h : shp X n t vs) : ∃ m : Int, vs = [i m] ∧ -9223372036854775808 ≤ m ∧ m ≤ 9223372036854775807 := by
  cases n with
  | zero => cases h
  | succ n =>
    unfold shp at h; rw [hi] at h; simp only [hk] at h
    obtain ⟨m, hm, hw⟩ := h
    refine ⟨m, hm, ?_⟩
    simpa [Lit.wf, IntKind.min, IntKind.max, IntKind.signed, IntKind.bits] using hw
theorem d_int {X : Cx} {t n : Nat} {i0 : TI} {vs : List PV} (hi : X.ti t = some i0) (hk : i0.k = .int .i64) (h : shp X n t vs) : ∃ m, vs = [i m] := by
  cases n with
  | zero => cases h
  | succ n => unfold shp at h; rw [hi] at h; simp only [hk] at h; obtain ⟨m, hm, _⟩ := h; exact ⟨m, hm⟩
theorem d_bool {X : Cx} {t n : Nat} {i0 : TI} {vs : List PV} (hi : X.ti t = some i0) (hk : i0.k = .bool) (h : shp X n t vs) : ∃ b, vs = [.bool b] := by
  cases n with
  | zero => cases h
  | succ n => unfold shp at h; rw [hi] at h; simp only [hk] at h; exact h
theorem d_str {X : Cx} {t n : Nat} {i0 : TI} {vs : List PV} (hi : X.ti t = some i0) (hk : i0.k = .str) (h : shp X n t vs) : ∃ s, vs = [.str s] ∧ s.size ≤ 9223372036854775807 := by
  cases n with
  | zero => cases h
  | succ n => unfold shp at h; rw [hi] at h; simp only [hk] at h; exact h
theorem d_slice {X : Cx} {t n e sz : Nat} {i0 : TI} {vs : List PV} {α : Type} {g : α → List PV} {q : α → Prop} (hi : X.ti t = some i0) (hk : i0.k = .slice e) (hs : szOf X e = sz)
    (hd : ∀ n vs, shp X n e vs → ∃ x, vs = g x ∧ q x) (h : shp X n t vs) : ∃ (l : List α) (nl : Bool), vs = [.lst sz nl (l.map g)] ∧ l.length ≤ 9223372036854775807 ∧ ∀ x ∈ l, q x := by
  cases n with
  | zero => cases h
  | succ n =>
    unfold shp at h; rw [hi] at h; simp only [hk, hs] at h
    rcases h with rfl | ⟨els, rfl, hl, he⟩
    · exact ⟨[], true, rfl, by simp, by simp⟩
    · have : ∀ els : List (List PV), (∀ cs ∈ els, shp X n e cs) → ∃ l : List α, els = l.map g ∧ ∀ x ∈ l, q x := by
        intro els
        induction els with
        | nil => intro _; exact ⟨[], rfl, by simp⟩
        | cons c r ih =>
          intro h
          obtain ⟨l, h1, h2⟩ := ih fun cs hcs => h cs (List.mem_cons_of_mem _ hcs)
          obtain ⟨x, h3, h4⟩ := hd n c (h c (List.mem_cons_self ..))
          exact ⟨x :: l, by rw [h1, h3]; rfl, fun y hy => by
            rcases List.mem_cons.1 hy with rfl | hy
            · exact h4
            · exact h2 y hy⟩
      obtain ⟨l, h1, h2⟩ := this els he
      subst h1
      exact ⟨l, false, rfl, by have := hl; rw [List.length_map] at this; exact this, h2⟩
theorem d_struct {X : Cx} {t n : Nat} {i0 : TI} {fl : List (Nat × Nat)} {vs : List PV} (hi : X.ti t = some i0) (hk : i0.k = .struct fl) (h : shp X n t vs) : vs.length = i0.sz ∧ ∀ q ∈ fl, ∃ n, shp X n q.2 (sub vs q.1 (szOf X q.2)) := by
  cases n with
  | zero => cases h
  | succ n => unfold shp at h; rw [hi] at h; simp only [hk] at h; exact ⟨h.1, fun q hq => ⟨n, h.2 q hq⟩⟩
theorem shpL_cons {X : Cx} {n t : Nat} {ts : List Nat} {pvs : List PV} (h : shpL X n (t :: ts) pvs) : ∃ v vs, pvs = v :: vs ∧ shpV X n t v ∧ shpL X n ts vs := by
  cases pvs with
  | nil => cases h
  | cons v vs => exact ⟨v, vs, rfl, h.1, h.2⟩
theorem shpL_nil {X : Cx} {n : Nat} {pvs : List PV} (h : shpL X n [] pvs) : pvs = [] := by
  cases pvs with
  | nil => rfl
  | cons v vs => cases h
theorem shpV_one {X : Cx} {n t : Nat} {i0 : TI} {v : PV} (hi : X.ti t = some i0) (ha : i0.k.agg = false) (h : shpV X n t v) : shp X n t [v] := by
  unfold shpV at h; rw [hi] at h; simp only [ha, Bool.false_eq_true, if_false] at h; exact h
theorem shpV_agg {X : Cx} {n t : Nat} {i0 : TI} {v : PV} (hi : X.ti t = some i0) (ha : i0.k.agg = true) (h : shpV X n t v) : ∃ vs, v = .agg vs ∧ shp X n t vs := by
  unfold shpV at h; rw [hi] at h; simp only [ha, if_true] at h; exact h
theorem dPt {n : Nat} {vs : List PV} (h : shp X n 128 vs) : ∃ p : Pt, vs = cp p ∧ True := by
  obtain ⟨hl, hf⟩ := d_struct (i0 := (X.ti 128).getD default) rfl rfl h
  match vs, hl with
  | [a, b], _ =>
    obtain ⟨_, h0⟩ := hf (0, 3) (by simp)
    obtain ⟨_, h1⟩ := hf (1, 3) (by simp)
    obtain ⟨x, e0⟩ := d_int (i0 := (X.ti 3).getD default) rfl rfl h0
    obtain ⟨y, e1⟩ := d_int (i0 := (X.ti 3).getD default) rfl rfl h1
    obtain rfl : a = i x := (List.cons.inj e0).1
    obtain rfl : b = i y := (List.cons.inj e1).1
    exact ⟨⟨x, y⟩, rfl, trivial⟩
theorem dFt {n : Nat} {vs : List PV} (h : shp X n 73 vs) : ∃ x : Ft, vs = ft x ∧ x.fits := by
  obtain ⟨hl, hf⟩ := d_struct (i0 := (X.ti 73).getD default) rfl rfl h
  match vs, hl with
  | [a, b, c, d, e], _ =>
    obtain ⟨_, h0⟩ := hf (0, 3) (by simp)
    obtain ⟨_, h1⟩ := hf (1, 3) (by simp)
    obtain ⟨_, h2⟩ := hf (2, 3) (by simp)
    obtain ⟨_, h3⟩ := hf (3, 9) (by simp)
    obtain ⟨_, h4⟩ := hf (4, 71) (by simp)
    obtain ⟨x0, e0⟩ := d_int (i0 := (X.ti 3).getD default) rfl rfl h0
    obtain ⟨x1, e1⟩ := d_int (i0 := (X.ti 3).getD default) rfl rfl h1
    obtain ⟨x2, e2⟩ := d_int (i0 := (X.ti 3).getD default) rfl rfl h2
    obtain ⟨x3, e3, b3⟩ := d_str (i0 := (X.ti 9).getD default) rfl rfl h3
    obtain ⟨x4, nl, e4, b4, _⟩ := d_slice (i0 := (X.ti 71).getD default) (sz := 2) rfl rfl rfl (fun _ _ => dPt) h4
    obtain rfl : a = i x0 := (List.cons.inj e0).1
    obtain rfl : b = i x1 := (List.cons.inj e1).1
    obtain rfl : c = i x2 := (List.cons.inj e2).1
    obtain rfl : d = .str x3 := (List.cons.inj e3).1
    obtain rfl : e = .lst 2 nl (x4.map cp) := (List.cons.inj e4).1
    exact ⟨⟨x0, x1, x2, x3, x4, nl⟩, rfl, b3, b4⟩
theorem dFtS {n : Nat} {v : PV} (h : shpV X n 22 v) : ∃ (l : List Ft) (nl : Bool), v = .lst 5 nl (l.map ft) ∧ l.length ≤ 9223372036854775807 ∧ ∀ x ∈ l, x.fits := by
  have h := shpV_one (i0 := (X.ti 22).getD default) rfl rfl h
  obtain ⟨l, nl, e, h1, h2⟩ := d_slice (i0 := (X.ti 22).getD default) (sz := 5) rfl rfl rfl (fun _ _ => dFt) h
  exact ⟨l, nl, (List.cons.inj e).1, h1, h2⟩
theorem dInt {n : Nat} {v : PV} (h : shpV X n 3 v) : ∃ m : Int, v = i m ∧ -9223372036854775808 ≤ m ∧ m ≤ 9223372036854775807 := by
  obtain ⟨m, hm, hb⟩ := d_intb (i0 := (X.ti 3).getD default) rfl rfl (shpV_one (i0 := (X.ti 3).getD default) rfl rfl h)
  exact ⟨m, (List.cons.inj hm).1, hb⟩
theorem dIntS {n : Nat} {v : PV} (h : shpV X n 40 v) : ∃ (l : List Int) (nl : Bool), v = .lst 1 nl (l.map fun m => [i m]) ∧ l.length ≤ 9223372036854775807 ∧ ∀ x ∈ l, -9223372036854775808 ≤ x ∧ x ≤ 9223372036854775807 := by
  have h := shpV_one (i0 := (X.ti 40).getD default) rfl rfl h
  obtain ⟨l, nl, e, h1, h2⟩ := d_slice (i0 := (X.ti 40).getD default) (sz := 1) (g := fun m : Int => [i m]) (q := fun m => -9223372036854775808 ≤ m ∧ m ≤ 9223372036854775807) rfl rfl rfl (fun _ _ h => d_intb (i0 := (X.ti 3).getD default) rfl rfl h) h
  exact ⟨l, nl, (List.cons.inj e).1, h1, h2⟩
theorem dPtV {n : Nat} {v : PV} (h : shpV X n 128 v) : ∃ p : Pt, v = .agg (cp p) := by
  obtain ⟨vs, rfl, hs⟩ := shpV_agg (i0 := (X.ti 128).getD default) rfl rfl h
  obtain ⟨p, rfl, _⟩ := dPt hs
  exact ⟨p, rfl⟩
theorem dFtV {n : Nat} {v : PV} (h : shpV X n 73 v) : ∃ x : Ft, v = .agg (ft x) ∧ x.fits := by
  obtain ⟨vs, rfl, hs⟩ := shpV_agg (i0 := (X.ti 73).getD default) rfl rfl h
  obtain ⟨p, rfl, hp⟩ := dFt hs
  exact ⟨p, rfl, hp⟩
end Go.Eng
namespace Go.Eng
open Go Go.Proofs
theorem law3 {pvs : List PV} (h : shpL X 8 [22] pvs) : Fn Tryz.prog 3 false pvs (.bool true) := by
  obtain ⟨_, _, rfl, h1, h2⟩ := shpL_cons h
  obtain rfl := shpL_nil h2
  obtain ⟨l, n1, rfl, a1, a2⟩ := dFtS h1
  exact f3 l n1 a1 a2
end Go.Eng
