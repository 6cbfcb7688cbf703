/- A part of the proof of a law's statement: for every input the law returns true and leaves its arguments as they were. No condition beyond the statement's own. What each function computes. -/
import Derived.Test.YtjbjkhdflkmccaaEp1
set_option linter.unusedVariables false
set_option linter.unusedSimpArgs false
set_option autoImplicit true
set_option relaxedAutoImplicit true
namespace Go.Eng
open Go Go.Proofs Geo
set_option linter.unusedSimpArgs false
set_option linter.unusedVariables false
set_option maxRecDepth 20000
set_option maxHeartbeats 1000000

/-! lengths -/
def wSt (ax ay bx by' : Int) : Int := if M_IsPoint ax ay = true ∧ M_IsPoint bx by' = true then max (ax - bx) (bx - ax) + max (ay - by') (by' - ay) else -1
theorem wSt_ok {ax ay bx by' : Int} (h1 : M_IsPoint ax ay = true) (h2 : M_IsPoint bx by' = true) : wSt ax ay bx by' = max (ax - bx) (bx - ax) + max (ay - by') (by' - ay) ∧
    (wr .i64 (ax - bx) = ax - bx ∧ wr .i64 (bx - ax) = bx - ax ∧ wr .i64 (ay - by') = ay - by' ∧ wr .i64 (by' - ay) = by' - ay) ∧
    wr .i64 (max (ax - bx) (bx - ax) + max (ay - by') (by' - ay)) = max (ax - bx) (bx - ax) + max (ay - by') (by' - ay) := by
  have v1 := (M_IsPoint_iff _ _).1 h1
  have v2 := (M_IsPoint_iff _ _).1 h2
  unfold Vl at v1 v2
  refine ⟨if_pos ⟨h1, h2⟩, ⟨wr_in (by omega) (by omega), wr_in (by omega) (by omega), wr_in (by omega) (by omega), wr_in (by omega) (by omega)⟩, wr_in (by omega) (by omega)⟩
theorem wSt_bound (ax ay bx by' : Int) : -1 ≤ wSt ax ay bx by' ∧ wSt ax ay bx by' ≤ 400 := by
  unfold wSt
  split
  · rename_i h
    have v1 := (M_IsPoint_iff _ _).1 h.1
    have v2 := (M_IsPoint_iff _ _).1 h.2
    unfold Vl at v1 v2
    omega
  · omega
theorem mx_max (a b : Int) : (if a < b then b else a) = max a b := by omega
def sumTo (f : Nat → Int) : Nat → Int
  | 0 => 0
  | n + 1 => sumTo f n + f n
theorem sumTo_zero {f : Nat → Int} : sumTo f 0 = 0 := rfl
theorem sumTo_succ {f : Nat → Int} {n : Nat} : sumTo f (n + 1) = sumTo f n + f n := rfl
theorem sumTo_bound {f : Nat → Int} {a b : Int} (h : ∀ k, -a ≤ f k ∧ f k ≤ b) : ∀ n : Nat, -(a * n) ≤ sumTo f n ∧ sumTo f n ≤ b * n := by
  intro n
  induction n with
  | zero => simp [sumTo]
  | succ n ih =>
    have := h n
    have e1 : a * ((n + 1 : Nat) : Int) = a * n + a := by rw [Int.natCast_add, Int.mul_add]; simp
    have e2 : b * ((n + 1 : Nat) : Int) = b * n + b := by rw [Int.natCast_add, Int.mul_add]; simp
    rw [sumTo_succ, e1, e2]
    omega
def sSt (S : List Sg) (k : Nat) : Int := wSt (sgD S k).f0.f0 (sgD S k).f0.f1 (sgD S k).f1.f0 (sgD S k).f1.f1
def wSteps (l : List Pt) : Int := sumTo (sSt (wSegs l)) (wSegs l).length
theorem sSt_sum (S : List Sg) (n : Nat) : -(1 * (n : Int)) ≤ sumTo (sSt S) n ∧ sumTo (sSt S) n ≤ 400 * n := sumTo_bound (fun k => wSt_bound ..) n
theorem wSteps_bound (l : List Pt) : -9 ≤ wSteps l ∧ wSteps l ≤ 3600 := by
  have := sSt_sum (wSegs l) (wSegs l).length
  have h9 := wSegs_len l
  unfold wSteps
  omega
/-! the first that is found -/
def firstFrom (ok : Nat → Bool) : Nat → Nat → Int
  | 0, _ => -1
  | d + 1, i => if ok i = true then i else firstFrom ok d (i + 1)
theorem firstFrom_step {ok : Nat → Bool} {n N : Nat} (h : n < N) : firstFrom ok (N - n) n = if ok n = true then (n : Int) else firstFrom ok (N - (n + 1)) (n + 1) := by
  rw [show N - n = (N - (n + 1)) + 1 by omega]; rfl
theorem firstFrom_end {ok : Nat → Bool} {N : Nat} : firstFrom ok (N - N) N = -1 := by rw [Nat.sub_self]; rfl
theorem firstFrom_bound {ok : Nat → Bool} : ∀ d n : Nat, -1 ≤ firstFrom ok d n ∧ firstFrom ok d n < (n : Int) + d
  | 0, n => ⟨by simp [firstFrom], by simp [firstFrom]; omega⟩
  | d + 1, n => by
    unfold firstFrom
    split
    · omega
    · have := firstFrom_bound (ok := ok) d (n + 1)
      omega
def ftD : Ft := ⟨0, 0, 0, ⟨#[]⟩, [], true⟩
def hasId (l : List Ft) (id : Int) (n : Nat) : Bool := decide ((l.getD n ftD).f0 = id)
def wFind (l : List Ft) (id : Int) : Int := firstFrom (hasId l id) (l.length - 0) 0
theorem wFind_bound (l : List Ft) (id : Int) : -1 ≤ wFind l id ∧ wFind l id < l.length := by
  have := firstFrom_bound (ok := hasId l id) (l.length - 0) 0
  unfold wFind
  omega
theorem f111 (l : List Ft) (nl : Bool) (id : Int) (hl : l.length ≤ 1000000000000) : Fn Try.prog 111 false [.lst 5 nl (l.map ft), i id] (i (wFind l id)) := by
  refine Fn.by_sx hX (by kernel_rfl) c111 (by kernel_rfl) (by rfl) ?_
  simp [i111, sx_skip, sx_ops, sx_seq, sx_cond, sx_block, sx_exit, sx_ret, sx_mcall, sx_mcell, sx_mset, elAt, setEl, isLst, cellsOf, sxl_nil, sxl_set, sxl_call, sxl_callv, sxl_g1, sxl_g2, sxl_g3, sxl_g4, OkS_true, GrdS_tt, GrdS_tf, GrdS_ft, GrdS_ff, CondS_t, CondS_f, then_n, then_e, then_r, blk_n, blk_e, blk_r, upd_app, Ex.ok, Ex.val, Opd.val, POp.dst, bin_int, binOK_int, bin_str, binOK_str, resOK, resV, RB.val, sub, putc, scB, scL, oneB, conf, Ex.val.eqP, Ex.val.eqL, negV, mxV, mnV, ← wr_eq, wr_zero, wr_one, wr_m1, bst_lst, byteC, partsOK, putAll, appV, nilV, slV, sslV, optB, optNum, and_assoc, exists_and_left, exists_eq_left']
  refine sx_count l.length (fun n V => V 0 = .lst 5 nl (l.map ft) ∧ V 1 = i id ∧ V 5 = i n ∧ wFind l id = firstFrom (hasId l id) (l.length - n) n) 0 (by omega) (by simp [sx_skip, sx_ops, sx_seq, sx_cond, sx_block, sx_exit, sx_ret, sx_mcall, sx_mcell, sx_mset, elAt, setEl, isLst, cellsOf, sxl_nil, sxl_set, sxl_call, sxl_callv, sxl_g1, sxl_g2, sxl_g3, sxl_g4, OkS_true, GrdS_tt, GrdS_tf, GrdS_ft, GrdS_ff, CondS_t, CondS_f, then_n, then_e, then_r, blk_n, blk_e, blk_r, upd_app, Ex.ok, Ex.val, Opd.val, POp.dst, bin_int, binOK_int, bin_str, binOK_str, resOK, resV, RB.val, sub, putc, scB, scL, oneB, conf, Ex.val.eqP, Ex.val.eqL, negV, mxV, mnV, ← wr_eq, wr_zero, wr_one, wr_m1, bst_lst, byteC, partsOK, putAll, appV, nilV, slV, sslV, optB, optNum, and_assoc, exists_and_left, exists_eq_left']; rfl) ?_
  rintro n V hn ⟨h0, h1, h5, hf⟩
  have hw : wr .i64 ((n : Int) + 1) = n + 1 := wr_in (by omega) (by omega)
  simp [sx_skip, sx_ops, sx_seq, sx_cond, sx_block, sx_exit, sx_ret, sx_mcall, sx_mcell, sx_mset, elAt, setEl, isLst, cellsOf, sxl_nil, sxl_set, sxl_call, sxl_callv, sxl_g1, sxl_g2, sxl_g3, sxl_g4, OkS_true, GrdS_tt, GrdS_tf, GrdS_ft, GrdS_ff, CondS_t, CondS_f, then_n, then_e, then_r, blk_n, blk_e, blk_r, upd_app, Ex.ok, Ex.val, Opd.val, POp.dst, bin_int, binOK_int, bin_str, binOK_str, resOK, resV, RB.val, sub, putc, scB, scL, oneB, conf, Ex.val.eqP, Ex.val.eqL, negV, mxV, mnV, ← wr_eq, wr_zero, wr_one, wr_m1, bst_lst, byteC, partsOK, putAll, appV, nilV, slV, sslV, optB, optNum, and_assoc, exists_and_left, exists_eq_left', h0, h5]
  refine CondS_d (fun hlt => ?_) (fun hge => ?_)
  · have hlt' : n < l.length := by omega
    rw [firstFrom_step hlt'] at hf
    have hr : hasId l id n = decide (l[n].f0 = id) := by simp [hasId, hlt']
    rw [hr] at hf
    by_cases he : l[n].f0 = id
    · simp only [he, decide_true, if_true] at hf
      repeat' (first | intro _ | (simp [sx_skip, sx_ops, sx_seq, sx_cond, sx_block, sx_exit, sx_ret, sx_mcall, sx_mcell, sx_mset, elAt, setEl, isLst, cellsOf, sxl_nil, sxl_set, sxl_call, sxl_callv, sxl_g1, sxl_g2, sxl_g3, sxl_g4, OkS_true, GrdS_tt, GrdS_tf, GrdS_ft, GrdS_ff, CondS_t, CondS_f, then_n, then_e, then_r, blk_n, blk_e, blk_r, upd_app, Ex.ok, Ex.val, Opd.val, POp.dst, bin_int, binOK_int, bin_str, binOK_str, resOK, resV, RB.val, sub, putc, scB, scL, oneB, conf, Ex.val.eqP, Ex.val.eqL, negV, mxV, mnV, ← wr_eq, wr_zero, wr_one, wr_m1, bst_lst, byteC, partsOK, putAll, appV, nilV, slV, sslV, optB, optNum, and_assoc, exists_and_left, exists_eq_left', ft, *]) | refine CondS_d (fun h => ?_) (fun h => ?_) | refine CondS_b (fun h => ?_) (fun h => ?_) | refine GrdS_d (fun h => ?_) (fun h => ?_) | refine GrdS_b (fun h => ?_) (fun h => ?_) | refine OkS_i (by omega) ?_ | fail)
    · simp only [he, decide_false, Bool.false_eq_true, if_false] at hf
      repeat' (first | intro _ | (simp [sx_skip, sx_ops, sx_seq, sx_cond, sx_block, sx_exit, sx_ret, sx_mcall, sx_mcell, sx_mset, elAt, setEl, isLst, cellsOf, sxl_nil, sxl_set, sxl_call, sxl_callv, sxl_g1, sxl_g2, sxl_g3, sxl_g4, OkS_true, GrdS_tt, GrdS_tf, GrdS_ft, GrdS_ff, CondS_t, CondS_f, then_n, then_e, then_r, blk_n, blk_e, blk_r, upd_app, Ex.ok, Ex.val, Opd.val, POp.dst, bin_int, binOK_int, bin_str, binOK_str, resOK, resV, RB.val, sub, putc, scB, scL, oneB, conf, Ex.val.eqP, Ex.val.eqL, negV, mxV, mnV, ← wr_eq, wr_zero, wr_one, wr_m1, bst_lst, byteC, partsOK, putAll, appV, nilV, slV, sslV, optB, optNum, and_assoc, exists_and_left, exists_eq_left', ft, *]) | refine CondS_d (fun h => ?_) (fun h => ?_) | refine CondS_b (fun h => ?_) (fun h => ?_) | refine GrdS_d (fun h => ?_) (fun h => ?_) | refine GrdS_b (fun h => ?_) (fun h => ?_) | refine OkS_i (by omega) ?_ | fail)
  · have : n = l.length := by omega
    subst this
    rw [firstFrom_end] at hf
    repeat' (first | intro _ | (simp [sx_skip, sx_ops, sx_seq, sx_cond, sx_block, sx_exit, sx_ret, sx_mcall, sx_mcell, sx_mset, elAt, setEl, isLst, cellsOf, sxl_nil, sxl_set, sxl_call, sxl_callv, sxl_g1, sxl_g2, sxl_g3, sxl_g4, OkS_true, GrdS_tt, GrdS_tf, GrdS_ft, GrdS_ff, CondS_t, CondS_f, then_n, then_e, then_r, blk_n, blk_e, blk_r, upd_app, Ex.ok, Ex.val, Opd.val, POp.dst, bin_int, binOK_int, bin_str, binOK_str, resOK, resV, RB.val, sub, putc, scB, scL, oneB, conf, Ex.val.eqP, Ex.val.eqL, negV, mxV, mnV, ← wr_eq, wr_zero, wr_one, wr_m1, bst_lst, byteC, partsOK, putAll, appV, nilV, slV, sslV, optB, optNum, and_assoc, exists_and_left, exists_eq_left', *]) | refine CondS_d (fun h => ?_) (fun h => ?_) | refine CondS_b (fun h => ?_) (fun h => ?_) | refine GrdS_d (fun h => ?_) (fun h => ?_) | refine GrdS_b (fun h => ?_) (fun h => ?_) | refine OkS_i (by omega) ?_ | fail)
theorem f159 (x : Ft) (id : Int) : Fn Try.prog 159 false [.agg (ft x), .ptr [i id]] (.bool (decide (x.f0 = id))) := by
  unfold ft
  refine Fn.by_sx hX (by kernel_rfl) c159 (by kernel_rfl) (by rfl) ?_
  simp [i159, sx_skip, sx_ops, sx_seq, sx_cond, sx_block, sx_exit, sx_ret, sx_mcall, sx_mcell, sx_mset, elAt, setEl, isLst, cellsOf, sxl_nil, sxl_set, sxl_call, sxl_callv, sxl_g1, sxl_g2, sxl_g3, sxl_g4, OkS_true, GrdS_tt, GrdS_tf, GrdS_ft, GrdS_ff, CondS_t, CondS_f, then_n, then_e, then_r, blk_n, blk_e, blk_r, upd_app, Ex.ok, Ex.val, Opd.val, POp.dst, bin_int, binOK_int, bin_str, binOK_str, resOK, resV, RB.val, sub, putc, scB, scL, oneB, conf, Ex.val.eqP, Ex.val.eqL, negV, mxV, mnV, ← wr_eq, wr_zero, wr_one, wr_m1, bst_lst, byteC, partsOK, putAll, appV, nilV, slV, sslV, optB, optNum, and_assoc, exists_and_left, exists_eq_left']
theorem f158 (l : List Ft) (nl : Bool) (id : Int) (hl : l.length ≤ 1000000000000) : Fn Try.prog 158 false [.lst 5 nl (l.map ft), .fn 159 [.ptr [i id]]] (i (wFind l id)) := by
  refine Fn.by_sx hX (by kernel_rfl) c158 (by kernel_rfl) (by rfl) ?_
  simp [i158, sx_skip, sx_ops, sx_seq, sx_cond, sx_block, sx_exit, sx_ret, sx_mcall, sx_mcell, sx_mset, elAt, setEl, isLst, cellsOf, sxl_nil, sxl_set, sxl_call, sxl_callv, sxl_g1, sxl_g2, sxl_g3, sxl_g4, OkS_true, GrdS_tt, GrdS_tf, GrdS_ft, GrdS_ff, CondS_t, CondS_f, then_n, then_e, then_r, blk_n, blk_e, blk_r, upd_app, Ex.ok, Ex.val, Opd.val, POp.dst, bin_int, binOK_int, bin_str, binOK_str, resOK, resV, RB.val, sub, putc, scB, scL, oneB, conf, Ex.val.eqP, Ex.val.eqL, negV, mxV, mnV, ← wr_eq, wr_zero, wr_one, wr_m1, bst_lst, byteC, partsOK, putAll, appV, nilV, slV, sslV, optB, optNum, and_assoc, exists_and_left, exists_eq_left']
  refine sx_count l.length (fun n V => V 0 = .lst 5 nl (l.map ft) ∧ V 1 = .fn 159 [.ptr [i id]] ∧ V 7 = i l.length ∧ V 8 = i n ∧ firstFrom (hasId l id) (l.length - n) n = wFind l id) 0 (by omega) (by simp [sx_skip, sx_ops, sx_seq, sx_cond, sx_block, sx_exit, sx_ret, sx_mcall, sx_mcell, sx_mset, elAt, setEl, isLst, cellsOf, sxl_nil, sxl_set, sxl_call, sxl_callv, sxl_g1, sxl_g2, sxl_g3, sxl_g4, OkS_true, GrdS_tt, GrdS_tf, GrdS_ft, GrdS_ff, CondS_t, CondS_f, then_n, then_e, then_r, blk_n, blk_e, blk_r, upd_app, Ex.ok, Ex.val, Opd.val, POp.dst, bin_int, binOK_int, bin_str, binOK_str, resOK, resV, RB.val, sub, putc, scB, scL, oneB, conf, Ex.val.eqP, Ex.val.eqL, negV, mxV, mnV, ← wr_eq, wr_zero, wr_one, wr_m1, bst_lst, byteC, partsOK, putAll, appV, nilV, slV, sslV, optB, optNum, and_assoc, exists_and_left, exists_eq_left']; rfl) ?_
  rintro n V hn ⟨h0, h1, h7, h8, hf⟩
  have hw : wr .i64 ((n : Int) + 1) = n + 1 := wr_in (by omega) (by omega)
  simp [sx_skip, sx_ops, sx_seq, sx_cond, sx_block, sx_exit, sx_ret, sx_mcall, sx_mcell, sx_mset, elAt, setEl, isLst, cellsOf, sxl_nil, sxl_set, sxl_call, sxl_callv, sxl_g1, sxl_g2, sxl_g3, sxl_g4, OkS_true, GrdS_tt, GrdS_tf, GrdS_ft, GrdS_ff, CondS_t, CondS_f, then_n, then_e, then_r, blk_n, blk_e, blk_r, upd_app, Ex.ok, Ex.val, Opd.val, POp.dst, bin_int, binOK_int, bin_str, binOK_str, resOK, resV, RB.val, sub, putc, scB, scL, oneB, conf, Ex.val.eqP, Ex.val.eqL, negV, mxV, mnV, ← wr_eq, wr_zero, wr_one, wr_m1, bst_lst, byteC, partsOK, putAll, appV, nilV, slV, sslV, optB, optNum, and_assoc, exists_and_left, exists_eq_left', h7, h8]
  refine CondS_d (fun hlt => ?_) (fun hge => ?_)
  · have hlt' : n < l.length := by omega
    rw [firstFrom_step hlt'] at hf
    have hr : hasId l id n = decide (l[n].f0 = id) := by simp [hasId, hlt']
    have hc := f159 l[n] id
    rw [← hr] at hc
    clear hr
    unfold ft at hc
    repeat' (first | intro _ | (simp [sx_skip, sx_ops, sx_seq, sx_cond, sx_block, sx_exit, sx_ret, sx_mcall, sx_mcell, sx_mset, elAt, setEl, isLst, cellsOf, sxl_nil, sxl_set, sxl_call, sxl_callv, sxl_g1, sxl_g2, sxl_g3, sxl_g4, OkS_true, GrdS_tt, GrdS_tf, GrdS_ft, GrdS_ff, CondS_t, CondS_f, then_n, then_e, then_r, blk_n, blk_e, blk_r, upd_app, Ex.ok, Ex.val, Opd.val, POp.dst, bin_int, binOK_int, bin_str, binOK_str, resOK, resV, RB.val, sub, putc, scB, scL, oneB, conf, Ex.val.eqP, Ex.val.eqL, negV, mxV, mnV, ← wr_eq, wr_zero, wr_one, wr_m1, bst_lst, byteC, partsOK, putAll, appV, nilV, slV, sslV, optB, optNum, and_assoc, exists_and_left, exists_eq_left', ft, *]) | refine CondS_d (fun h => ?_) (fun h => ?_) | refine CondS_b (fun h => ?_) (fun h => ?_) | refine GrdS_d (fun h => ?_) (fun h => ?_) | refine GrdS_b (fun h => ?_) (fun h => ?_) | refine OkS_i (by omega) ?_ | fail)
    refine CallvS_b (by simpa using hc) (fun h => ?_) (fun h => ?_)
    · rw [h] at hf
      simp only [if_true] at hf
      repeat' (first | intro _ | (simp [sx_skip, sx_ops, sx_seq, sx_cond, sx_block, sx_exit, sx_ret, sx_mcall, sx_mcell, sx_mset, elAt, setEl, isLst, cellsOf, sxl_nil, sxl_set, sxl_call, sxl_callv, sxl_g1, sxl_g2, sxl_g3, sxl_g4, OkS_true, GrdS_tt, GrdS_tf, GrdS_ft, GrdS_ff, CondS_t, CondS_f, then_n, then_e, then_r, blk_n, blk_e, blk_r, upd_app, Ex.ok, Ex.val, Opd.val, POp.dst, bin_int, binOK_int, bin_str, binOK_str, resOK, resV, RB.val, sub, putc, scB, scL, oneB, conf, Ex.val.eqP, Ex.val.eqL, negV, mxV, mnV, ← wr_eq, wr_zero, wr_one, wr_m1, bst_lst, byteC, partsOK, putAll, appV, nilV, slV, sslV, optB, optNum, and_assoc, exists_and_left, exists_eq_left', *]) | refine CondS_d (fun h => ?_) (fun h => ?_) | refine CondS_b (fun h => ?_) (fun h => ?_) | refine GrdS_d (fun h => ?_) (fun h => ?_) | refine GrdS_b (fun h => ?_) (fun h => ?_) | refine OkS_i (by omega) ?_ | fail)
    · rw [h] at hf
      simp only [Bool.false_eq_true, if_false] at hf
      repeat' (first | intro _ | (simp [sx_skip, sx_ops, sx_seq, sx_cond, sx_block, sx_exit, sx_ret, sx_mcall, sx_mcell, sx_mset, elAt, setEl, isLst, cellsOf, sxl_nil, sxl_set, sxl_call, sxl_callv, sxl_g1, sxl_g2, sxl_g3, sxl_g4, OkS_true, GrdS_tt, GrdS_tf, GrdS_ft, GrdS_ff, CondS_t, CondS_f, then_n, then_e, then_r, blk_n, blk_e, blk_r, upd_app, Ex.ok, Ex.val, Opd.val, POp.dst, bin_int, binOK_int, bin_str, binOK_str, resOK, resV, RB.val, sub, putc, scB, scL, oneB, conf, Ex.val.eqP, Ex.val.eqL, negV, mxV, mnV, ← wr_eq, wr_zero, wr_one, wr_m1, bst_lst, byteC, partsOK, putAll, appV, nilV, slV, sslV, optB, optNum, and_assoc, exists_and_left, exists_eq_left', *]) | refine CondS_d (fun h => ?_) (fun h => ?_) | refine CondS_b (fun h => ?_) (fun h => ?_) | refine GrdS_d (fun h => ?_) (fun h => ?_) | refine GrdS_b (fun h => ?_) (fun h => ?_) | refine OkS_i (by omega) ?_ | fail)
  · have : n = l.length := by omega
    subst this
    rw [firstFrom_end] at hf
    repeat' (first | intro _ | (simp [sx_skip, sx_ops, sx_seq, sx_cond, sx_block, sx_exit, sx_ret, sx_mcall, sx_mcell, sx_mset, elAt, setEl, isLst, cellsOf, sxl_nil, sxl_set, sxl_call, sxl_callv, sxl_g1, sxl_g2, sxl_g3, sxl_g4, OkS_true, GrdS_tt, GrdS_tf, GrdS_ft, GrdS_ff, CondS_t, CondS_f, then_n, then_e, then_r, blk_n, blk_e, blk_r, upd_app, Ex.ok, Ex.val, Opd.val, POp.dst, bin_int, binOK_int, bin_str, binOK_str, resOK, resV, RB.val, sub, putc, scB, scL, oneB, conf, Ex.val.eqP, Ex.val.eqL, negV, mxV, mnV, ← wr_eq, wr_zero, wr_one, wr_m1, bst_lst, byteC, partsOK, putAll, appV, nilV, slV, sslV, optB, optNum, and_assoc, exists_and_left, exists_eq_left', *]) | refine CondS_d (fun h => ?_) (fun h => ?_) | refine CondS_b (fun h => ?_) (fun h => ?_) | refine GrdS_d (fun h => ?_) (fun h => ?_) | refine GrdS_b (fun h => ?_) (fun h => ?_) | refine OkS_i (by omega) ?_ | fail)
theorem f113 (l : List Ft) (nl : Bool) (id : Int) (hl : l.length ≤ 1000000000000) : Fn Try.prog 113 false [.lst 5 nl (l.map ft), i id] (i (wFind l id)) := by
  refine Fn.by_sx hX (by kernel_rfl) c113 (by kernel_rfl) (by rfl) ?_
  simp [i113, sx_skip, sx_ops, sx_seq, sx_cond, sx_block, sx_exit, sx_ret, sx_mcall, sx_mcell, sx_mset, elAt, setEl, isLst, cellsOf, sxl_nil, sxl_set, sxl_call, sxl_callv, sxl_g1, sxl_g2, sxl_g3, sxl_g4, OkS_true, GrdS_tt, GrdS_tf, GrdS_ft, GrdS_ff, CondS_t, CondS_f, then_n, then_e, then_r, blk_n, blk_e, blk_r, upd_app, Ex.ok, Ex.val, Opd.val, POp.dst, bin_int, binOK_int, bin_str, binOK_str, resOK, resV, RB.val, sub, putc, scB, scL, oneB, conf, Ex.val.eqP, Ex.val.eqL, negV, mxV, mnV, ← wr_eq, wr_zero, wr_one, wr_m1, bst_lst, byteC, partsOK, putAll, appV, nilV, slV, sslV, optB, optNum, and_assoc, exists_and_left, exists_eq_left']
  repeat' (first | intro _ | (simp [sx_skip, sx_ops, sx_seq, sx_cond, sx_block, sx_exit, sx_ret, sx_mcall, sx_mcell, sx_mset, elAt, setEl, isLst, cellsOf, sxl_nil, sxl_set, sxl_call, sxl_callv, sxl_g1, sxl_g2, sxl_g3, sxl_g4, OkS_true, GrdS_tt, GrdS_tf, GrdS_ft, GrdS_ff, CondS_t, CondS_f, then_n, then_e, then_r, blk_n, blk_e, blk_r, upd_app, Ex.ok, Ex.val, Opd.val, POp.dst, bin_int, binOK_int, bin_str, binOK_str, resOK, resV, RB.val, sub, putc, scB, scL, oneB, conf, Ex.val.eqP, Ex.val.eqL, negV, mxV, mnV, ← wr_eq, wr_zero, wr_one, wr_m1, bst_lst, byteC, partsOK, putAll, appV, nilV, slV, sslV, optB, optNum, and_assoc, exists_and_left, exists_eq_left', *]) | refine CallS_i (f158 l nl id hl) ?_ | refine CondS_d (fun h => ?_) (fun h => ?_) | refine CondS_b (fun h => ?_) (fun h => ?_) | refine GrdS_d (fun h => ?_) (fun h => ?_) | refine GrdS_b (fun h => ?_) (fun h => ?_) | refine OkS_i (by omega) ?_ | fail)
end Go.Eng
namespace Go.Eng
open Go Go.Proofs Geo
set_option linter.unusedSimpArgs false
set_option linter.unusedVariables false
set_option maxRecDepth 20000
set_option maxHeartbeats 1000000

/-! the length of a way -/
def ints (l : List Int) : List (List PV) := l.map fun m => [i m]
def wayAt (l : List Ft) (ids : List Int) (j : Nat) : Int :=
  if 0 ≤ wFind l (ids.getD j 0) ∧ (l.getD (wFind l (ids.getD j 0)).toNat ftD).f1 = 2 then wSteps (l.getD (wFind l (ids.getD j 0)).toNat ftD).f4 else 0
def wWay (l : List Ft) (ids : List Int) : Int := sumTo (wayAt l ids) ids.length
theorem wayAt_bound (l : List Ft) (ids : List Int) (j : Nat) : -9 ≤ wayAt l ids j ∧ wayAt l ids j ≤ 3600 := by
  unfold wayAt
  split
  · exact wSteps_bound _
  · omega
theorem find_cases (l : List Ft) (id : Int) : wFind l id = -1 ∨ ∃ k : Nat, wFind l id = k ∧ k < l.length := by
  have := wFind_bound l id
  rcases Int.lt_or_le (wFind l id) 0 with h | h
  · left; omega
  · right; exact ⟨(wFind l id).toNat, by omega, by omega⟩
theorem frF_small {l r : List Ft} (hr : l.map Ft.fr = r) {B : Nat} (h : ∀ x ∈ l, x.f3.size ≤ B ∧ x.f4.length ≤ B) : ∀ x ∈ r, x.f3.size ≤ B ∧ x.f4.length ≤ B := by
  intro x hx
  rw [← hr] at hx
  obtain ⟨y, hy, rfl⟩ := List.mem_map.1 hx
  exact h y hy
end Go.Eng
namespace Go.Eng
open Go Go.Proofs Geo
set_option linter.unusedSimpArgs false
set_option linter.unusedVariables false
set_option maxRecDepth 20000
set_option maxHeartbeats 1000000

/-! a source, and a way -/
def srcAt (l : List Ft) (n : Nat) : Bool := wFeat (l.getD n ftD) && !(decide (0 < n) && decide ((l.getD n ftD).f0 ≤ (l.getD (n - 1) ftD).f0))
def wSrc (l : List Ft) : Bool := decide (l.length ≤ 16) && allTo (srcAt l) l.length
theorem f78 (l : List Ft) (nl : Bool) (hl : l.length ≤ 1000000000000) (hb : ∀ x ∈ l, x.okay) : Fn Try.prog 78 false [.lst 5 nl (l.map ft)] (.bool (wSrc l)) := by
  refine Fn.by_sx hX (by kernel_rfl) c78 (by kernel_rfl) (by rfl) ?_
  simp [i78, sx_skip, sx_ops, sx_seq, sx_cond, sx_block, sx_exit, sx_ret, sx_mcall, sx_mcell, sx_mset, elAt, setEl, isLst, cellsOf, sxl_nil, sxl_set, sxl_call, sxl_callv, sxl_g1, sxl_g2, sxl_g3, sxl_g4, OkS_true, GrdS_tt, GrdS_tf, GrdS_ft, GrdS_ff, CondS_t, CondS_f, then_n, then_e, then_r, blk_n, blk_e, blk_r, upd_app, Ex.ok, Ex.val, Opd.val, POp.dst, bin_int, binOK_int, bin_str, binOK_str, resOK, resV, RB.val, sub, putc, scB, scL, oneB, conf, Ex.val.eqP, Ex.val.eqL, negV, mxV, mnV, ← wr_eq, wr_zero, wr_one, wr_m1, bst_lst, byteC, partsOK, putAll, appV, nilV, slV, sslV, optB, optNum, and_assoc, exists_and_left, exists_eq_left']
  refine sx_count l.length (fun n V => V 0 = .lst 5 nl (l.map ft) ∧ V 3 = i n ∧ allTo (srcAt l) n = true) 0 (by omega) (by simp [sx_skip, sx_ops, sx_seq, sx_cond, sx_block, sx_exit, sx_ret, sx_mcall, sx_mcell, sx_mset, elAt, setEl, isLst, cellsOf, sxl_nil, sxl_set, sxl_call, sxl_callv, sxl_g1, sxl_g2, sxl_g3, sxl_g4, OkS_true, GrdS_tt, GrdS_tf, GrdS_ft, GrdS_ff, CondS_t, CondS_f, then_n, then_e, then_r, blk_n, blk_e, blk_r, upd_app, Ex.ok, Ex.val, Opd.val, POp.dst, bin_int, binOK_int, bin_str, binOK_str, resOK, resV, RB.val, sub, putc, scB, scL, oneB, conf, Ex.val.eqP, Ex.val.eqL, negV, mxV, mnV, ← wr_eq, wr_zero, wr_one, wr_m1, bst_lst, byteC, partsOK, putAll, appV, nilV, slV, sslV, optB, optNum, and_assoc, exists_and_left, exists_eq_left', allTo_zero]) ?_
  rintro n V hn ⟨h0, h3, ha⟩
  simp [sx_skip, sx_ops, sx_seq, sx_cond, sx_block, sx_exit, sx_ret, sx_mcall, sx_mcell, sx_mset, elAt, setEl, isLst, cellsOf, sxl_nil, sxl_set, sxl_call, sxl_callv, sxl_g1, sxl_g2, sxl_g3, sxl_g4, OkS_true, GrdS_tt, GrdS_tf, GrdS_ft, GrdS_ff, CondS_t, CondS_f, then_n, then_e, then_r, blk_n, blk_e, blk_r, upd_app, Ex.ok, Ex.val, Opd.val, POp.dst, bin_int, binOK_int, bin_str, binOK_str, resOK, resV, RB.val, sub, putc, scB, scL, oneB, conf, Ex.val.eqP, Ex.val.eqL, negV, mxV, mnV, ← wr_eq, wr_zero, wr_one, wr_m1, bst_lst, byteC, partsOK, putAll, appV, nilV, slV, sslV, optB, optNum, and_assoc, exists_and_left, exists_eq_left', h0, h3]
  refine CondS_d (fun hlt => ?_) (fun hge => ?_)
  · have hlt' : n < l.length := by omega
    have hbad : srcAt l n = false → wSrc l = false := fun h => by simp [wSrc, allTo_bad hlt' h]
    have hok : l[n].okay := hb _ (List.getElem_mem ..)
    have hc := f98 l[n] hok
    rcases Nat.eq_zero_or_pos n with rfl | hpos
    · repeat' (first | intro _ | (simp [sx_skip, sx_ops, sx_seq, sx_cond, sx_block, sx_exit, sx_ret, sx_mcall, sx_mcell, sx_mset, elAt, setEl, isLst, cellsOf, sxl_nil, sxl_set, sxl_call, sxl_callv, sxl_g1, sxl_g2, sxl_g3, sxl_g4, OkS_true, GrdS_tt, GrdS_tf, GrdS_ft, GrdS_ff, CondS_t, CondS_f, then_n, then_e, then_r, blk_n, blk_e, blk_r, upd_app, Ex.ok, Ex.val, Opd.val, POp.dst, bin_int, binOK_int, bin_str, binOK_str, resOK, resV, RB.val, sub, putc, scB, scL, oneB, conf, Ex.val.eqP, Ex.val.eqL, negV, mxV, mnV, ← wr_eq, wr_zero, wr_one, wr_m1, bst_lst, byteC, partsOK, putAll, appV, nilV, slV, sslV, optB, optNum, and_assoc, exists_and_left, exists_eq_left', ft, allTo_succ, *]) | refine CallS_b (hc) (fun h => ?_) (fun h => ?_) | refine CondS_d (fun h => ?_) (fun h => ?_) | refine CondS_b (fun h => ?_) (fun h => ?_) | refine GrdS_d (fun h => ?_) (fun h => ?_) | refine GrdS_b (fun h => ?_) (fun h => ?_) | refine OkS_i (by omega) ?_ | fail)
      all_goals first | (apply hbad; simp_all [srcAt]; done) | simp_all [srcAt]
    · have hw : wr .i64 ((n : Int) + 1) = n + 1 := wr_in (by omega) (by omega)
      have hw2 : wr .i64 ((n : Int) - 1) = ((n - 1 : Nat) : Int) := wrap_down n hpos (by omega)
      have hpos' : (0 : Int) < n := by omega
      have hm : n - 1 < l.length := by omega
      repeat' (first | intro _ | (simp [sx_skip, sx_ops, sx_seq, sx_cond, sx_block, sx_exit, sx_ret, sx_mcall, sx_mcell, sx_mset, elAt, setEl, isLst, cellsOf, sxl_nil, sxl_set, sxl_call, sxl_callv, sxl_g1, sxl_g2, sxl_g3, sxl_g4, OkS_true, GrdS_tt, GrdS_tf, GrdS_ft, GrdS_ff, CondS_t, CondS_f, then_n, then_e, then_r, blk_n, blk_e, blk_r, upd_app, Ex.ok, Ex.val, Opd.val, POp.dst, bin_int, binOK_int, bin_str, binOK_str, resOK, resV, RB.val, sub, putc, scB, scL, oneB, conf, Ex.val.eqP, Ex.val.eqL, negV, mxV, mnV, ← wr_eq, wr_zero, wr_one, wr_m1, bst_lst, byteC, partsOK, putAll, appV, nilV, slV, sslV, optB, optNum, and_assoc, exists_and_left, exists_eq_left', ft, allTo_succ, *]) | refine CallS_b (hc) (fun h => ?_) (fun h => ?_) | refine CondS_d (fun h => ?_) (fun h => ?_) | refine CondS_b (fun h => ?_) (fun h => ?_) | refine GrdS_d (fun h => ?_) (fun h => ?_) | refine GrdS_b (fun h => ?_) (fun h => ?_) | refine OkS_i (by omega) ?_ | fail)
      all_goals first | (apply hbad; simp_all [srcAt]; done) | simp_all [srcAt]
      all_goals omega
  · have : n = l.length := by omega
    subst this
    repeat' (first | intro _ | (simp [sx_skip, sx_ops, sx_seq, sx_cond, sx_block, sx_exit, sx_ret, sx_mcall, sx_mcell, sx_mset, elAt, setEl, isLst, cellsOf, sxl_nil, sxl_set, sxl_call, sxl_callv, sxl_g1, sxl_g2, sxl_g3, sxl_g4, OkS_true, GrdS_tt, GrdS_tf, GrdS_ft, GrdS_ff, CondS_t, CondS_f, then_n, then_e, then_r, blk_n, blk_e, blk_r, upd_app, Ex.ok, Ex.val, Opd.val, POp.dst, bin_int, binOK_int, bin_str, binOK_str, resOK, resV, RB.val, sub, putc, scB, scL, oneB, conf, Ex.val.eqP, Ex.val.eqL, negV, mxV, mnV, ← wr_eq, wr_zero, wr_one, wr_m1, bst_lst, byteC, partsOK, putAll, appV, nilV, slV, sslV, optB, optNum, and_assoc, exists_and_left, exists_eq_left', *]) | refine CondS_d (fun h => ?_) (fun h => ?_) | refine CondS_b (fun h => ?_) (fun h => ?_) | refine GrdS_d (fun h => ?_) (fun h => ?_) | refine GrdS_b (fun h => ?_) (fun h => ?_) | refine OkS_i (by omega) ?_ | fail)
    all_goals simp_all [wSrc]
    all_goals omega
theorem f40 (l : List Ft) (nl : Bool) (hl : l.length ≤ 1000000000000) (hb : ∀ x ∈ l, x.okay) : Fn Try.prog 40 false [.lst 5 nl (l.map ft)] (.bool (wSrc l)) := by
  refine Fn.by_sx hX (by kernel_rfl) c40 (by kernel_rfl) (by rfl) ?_
  simp [i40, sx_skip, sx_ops, sx_seq, sx_cond, sx_block, sx_exit, sx_ret, sx_mcall, sx_mcell, sx_mset, elAt, setEl, isLst, cellsOf, sxl_nil, sxl_set, sxl_call, sxl_callv, sxl_g1, sxl_g2, sxl_g3, sxl_g4, OkS_true, GrdS_tt, GrdS_tf, GrdS_ft, GrdS_ff, CondS_t, CondS_f, then_n, then_e, then_r, blk_n, blk_e, blk_r, upd_app, Ex.ok, Ex.val, Opd.val, POp.dst, bin_int, binOK_int, bin_str, binOK_str, resOK, resV, RB.val, sub, putc, scB, scL, oneB, conf, Ex.val.eqP, Ex.val.eqL, negV, mxV, mnV, ← wr_eq, wr_zero, wr_one, wr_m1, bst_lst, byteC, partsOK, putAll, appV, nilV, slV, sslV, optB, optNum, and_assoc, exists_and_left, exists_eq_left']
  by_cases hL : (l.length : Int) > 16
  · have hf : wSrc l = false := by simp [wSrc]; omega
    repeat' (first | intro _ | (simp [sx_skip, sx_ops, sx_seq, sx_cond, sx_block, sx_exit, sx_ret, sx_mcall, sx_mcell, sx_mset, elAt, setEl, isLst, cellsOf, sxl_nil, sxl_set, sxl_call, sxl_callv, sxl_g1, sxl_g2, sxl_g3, sxl_g4, OkS_true, GrdS_tt, GrdS_tf, GrdS_ft, GrdS_ff, CondS_t, CondS_f, then_n, then_e, then_r, blk_n, blk_e, blk_r, upd_app, Ex.ok, Ex.val, Opd.val, POp.dst, bin_int, binOK_int, bin_str, binOK_str, resOK, resV, RB.val, sub, putc, scB, scL, oneB, conf, Ex.val.eqP, Ex.val.eqL, negV, mxV, mnV, ← wr_eq, wr_zero, wr_one, wr_m1, bst_lst, byteC, partsOK, putAll, appV, nilV, slV, sslV, optB, optNum, and_assoc, exists_and_left, exists_eq_left', *]) | refine CondS_d (fun h => ?_) (fun h => ?_) | refine CondS_b (fun h => ?_) (fun h => ?_) | refine GrdS_d (fun h => ?_) (fun h => ?_) | refine GrdS_b (fun h => ?_) (fun h => ?_) | refine OkS_i (by omega) ?_ | fail)
  have hL' : l.length ≤ 16 := by omega
  repeat' (first | intro _ | (simp [sx_skip, sx_ops, sx_seq, sx_cond, sx_block, sx_exit, sx_ret, sx_mcall, sx_mcell, sx_mset, elAt, setEl, isLst, cellsOf, sxl_nil, sxl_set, sxl_call, sxl_callv, sxl_g1, sxl_g2, sxl_g3, sxl_g4, OkS_true, GrdS_tt, GrdS_tf, GrdS_ft, GrdS_ff, CondS_t, CondS_f, then_n, then_e, then_r, blk_n, blk_e, blk_r, upd_app, Ex.ok, Ex.val, Opd.val, POp.dst, bin_int, binOK_int, bin_str, binOK_str, resOK, resV, RB.val, sub, putc, scB, scL, oneB, conf, Ex.val.eqP, Ex.val.eqL, negV, mxV, mnV, ← wr_eq, wr_zero, wr_one, wr_m1, bst_lst, byteC, partsOK, putAll, appV, nilV, slV, sslV, optB, optNum, and_assoc, exists_and_left, exists_eq_left', *]) | refine CondS_d (fun h => ?_) (fun h => ?_) | refine CondS_b (fun h => ?_) (fun h => ?_) | refine GrdS_d (fun h => ?_) (fun h => ?_) | refine GrdS_b (fun h => ?_) (fun h => ?_) | refine OkS_i (by omega) ?_ | fail)
  refine sx_count l.length (fun n V => V 0 = .lst 5 nl (l.map ft) ∧ V 8 = .lst 5 nl (l.map ft) ∧ V 9 = i l.length ∧ V 10 = i n ∧ allTo (srcAt l) n = true) 0 (by omega) (by simp [sx_skip, sx_ops, sx_seq, sx_cond, sx_block, sx_exit, sx_ret, sx_mcall, sx_mcell, sx_mset, elAt, setEl, isLst, cellsOf, sxl_nil, sxl_set, sxl_call, sxl_callv, sxl_g1, sxl_g2, sxl_g3, sxl_g4, OkS_true, GrdS_tt, GrdS_tf, GrdS_ft, GrdS_ff, CondS_t, CondS_f, then_n, then_e, then_r, blk_n, blk_e, blk_r, upd_app, Ex.ok, Ex.val, Opd.val, POp.dst, bin_int, binOK_int, bin_str, binOK_str, resOK, resV, RB.val, sub, putc, scB, scL, oneB, conf, Ex.val.eqP, Ex.val.eqL, negV, mxV, mnV, ← wr_eq, wr_zero, wr_one, wr_m1, bst_lst, byteC, partsOK, putAll, appV, nilV, slV, sslV, optB, optNum, and_assoc, exists_and_left, exists_eq_left', allTo_zero]) ?_
  rintro n V hn ⟨h0, h8, h9, h10, ha⟩
  simp [sx_skip, sx_ops, sx_seq, sx_cond, sx_block, sx_exit, sx_ret, sx_mcall, sx_mcell, sx_mset, elAt, setEl, isLst, cellsOf, sxl_nil, sxl_set, sxl_call, sxl_callv, sxl_g1, sxl_g2, sxl_g3, sxl_g4, OkS_true, GrdS_tt, GrdS_tf, GrdS_ft, GrdS_ff, CondS_t, CondS_f, then_n, then_e, then_r, blk_n, blk_e, blk_r, upd_app, Ex.ok, Ex.val, Opd.val, POp.dst, bin_int, binOK_int, bin_str, binOK_str, resOK, resV, RB.val, sub, putc, scB, scL, oneB, conf, Ex.val.eqP, Ex.val.eqL, negV, mxV, mnV, ← wr_eq, wr_zero, wr_one, wr_m1, bst_lst, byteC, partsOK, putAll, appV, nilV, slV, sslV, optB, optNum, and_assoc, exists_and_left, exists_eq_left', h9, h10]
  refine CondS_d (fun hlt => ?_) (fun hge => ?_)
  · have hlt' : n < l.length := by omega
    have hbad : srcAt l n = false → wSrc l = false := fun h => by simp [wSrc, allTo_bad hlt' h]
    have hok : l[n].okay := hb _ (List.getElem_mem ..)
    have hc := f96 l[n] hok
    rcases Nat.eq_zero_or_pos n with rfl | hpos
    · repeat' (first | intro _ | (simp [sx_skip, sx_ops, sx_seq, sx_cond, sx_block, sx_exit, sx_ret, sx_mcall, sx_mcell, sx_mset, elAt, setEl, isLst, cellsOf, sxl_nil, sxl_set, sxl_call, sxl_callv, sxl_g1, sxl_g2, sxl_g3, sxl_g4, OkS_true, GrdS_tt, GrdS_tf, GrdS_ft, GrdS_ff, CondS_t, CondS_f, then_n, then_e, then_r, blk_n, blk_e, blk_r, upd_app, Ex.ok, Ex.val, Opd.val, POp.dst, bin_int, binOK_int, bin_str, binOK_str, resOK, resV, RB.val, sub, putc, scB, scL, oneB, conf, Ex.val.eqP, Ex.val.eqL, negV, mxV, mnV, ← wr_eq, wr_zero, wr_one, wr_m1, bst_lst, byteC, partsOK, putAll, appV, nilV, slV, sslV, optB, optNum, and_assoc, exists_and_left, exists_eq_left', ft, allTo_succ, *]) | refine CallS_b (hc) (fun h => ?_) (fun h => ?_) | refine CondS_d (fun h => ?_) (fun h => ?_) | refine CondS_b (fun h => ?_) (fun h => ?_) | refine GrdS_d (fun h => ?_) (fun h => ?_) | refine GrdS_b (fun h => ?_) (fun h => ?_) | refine OkS_i (by omega) ?_ | fail)
      all_goals first | (apply hbad; simp_all [srcAt]; done) | simp_all [srcAt]
    · have hw : wr .i64 ((n : Int) + 1) = n + 1 := wr_in (by omega) (by omega)
      have hw2 : wr .i64 ((n : Int) - 1) = ((n - 1 : Nat) : Int) := wrap_down n hpos (by omega)
      have hpos' : (0 : Int) < n := by omega
      have hm : n - 1 < l.length := by omega
      repeat' (first | intro _ | (simp [sx_skip, sx_ops, sx_seq, sx_cond, sx_block, sx_exit, sx_ret, sx_mcall, sx_mcell, sx_mset, elAt, setEl, isLst, cellsOf, sxl_nil, sxl_set, sxl_call, sxl_callv, sxl_g1, sxl_g2, sxl_g3, sxl_g4, OkS_true, GrdS_tt, GrdS_tf, GrdS_ft, GrdS_ff, CondS_t, CondS_f, then_n, then_e, then_r, blk_n, blk_e, blk_r, upd_app, Ex.ok, Ex.val, Opd.val, POp.dst, bin_int, binOK_int, bin_str, binOK_str, resOK, resV, RB.val, sub, putc, scB, scL, oneB, conf, Ex.val.eqP, Ex.val.eqL, negV, mxV, mnV, ← wr_eq, wr_zero, wr_one, wr_m1, bst_lst, byteC, partsOK, putAll, appV, nilV, slV, sslV, optB, optNum, and_assoc, exists_and_left, exists_eq_left', ft, allTo_succ, *]) | refine CallS_b (hc) (fun h => ?_) (fun h => ?_) | refine CondS_d (fun h => ?_) (fun h => ?_) | refine CondS_b (fun h => ?_) (fun h => ?_) | refine GrdS_d (fun h => ?_) (fun h => ?_) | refine GrdS_b (fun h => ?_) (fun h => ?_) | refine OkS_i (by omega) ?_ | fail)
      all_goals first | (apply hbad; simp_all [srcAt]; done) | simp_all [srcAt]
      all_goals omega
  · have : n = l.length := by omega
    subst this
    repeat' (first | intro _ | (simp [sx_skip, sx_ops, sx_seq, sx_cond, sx_block, sx_exit, sx_ret, sx_mcall, sx_mcell, sx_mset, elAt, setEl, isLst, cellsOf, sxl_nil, sxl_set, sxl_call, sxl_callv, sxl_g1, sxl_g2, sxl_g3, sxl_g4, OkS_true, GrdS_tt, GrdS_tf, GrdS_ft, GrdS_ff, CondS_t, CondS_f, then_n, then_e, then_r, blk_n, blk_e, blk_r, upd_app, Ex.ok, Ex.val, Opd.val, POp.dst, bin_int, binOK_int, bin_str, binOK_str, resOK, resV, RB.val, sub, putc, scB, scL, oneB, conf, Ex.val.eqP, Ex.val.eqL, negV, mxV, mnV, ← wr_eq, wr_zero, wr_one, wr_m1, bst_lst, byteC, partsOK, putAll, appV, nilV, slV, sslV, optB, optNum, and_assoc, exists_and_left, exists_eq_left', *]) | refine CondS_d (fun h => ?_) (fun h => ?_) | refine CondS_b (fun h => ?_) (fun h => ?_) | refine GrdS_d (fun h => ?_) (fun h => ?_) | refine GrdS_b (fun h => ?_) (fun h => ?_) | refine OkS_i (by omega) ?_ | fail)
    all_goals simp_all [wSrc]
theorem allTo_at {ok : Nat → Bool} {n N : Nat} (h : allTo ok N = true) (hn : n < N) : ok n = true := by
  cases hb : ok n with
  | true => rfl
  | false => rw [allTo_bad hn hb] at h; cases h
theorem wSrc_line {l : List Ft} (h : wSrc l = true) {k : Nat} (hk : k < l.length) (h2 : l[k].f1 = 2) : 2 ≤ l[k].f4.length ∧ l[k].f4.length ≤ 10 := by
  unfold wSrc at h
  rw [Bool.and_eq_true] at h
  have := allTo_at h.2 hk
  simp [srcAt, hk, wFeat, wShape, h2, wSimple] at this
  exact wLine_len this.1.2.1
def pe (p q : Pt) : Bool := decide (p.f0 = q.f0) && decide (p.f1 = q.f1)
def endA (x : Ft) : Pt := x.f4.getD 0 ⟨0, 0⟩
def endB (x : Ft) : Pt := x.f4.getD (x.f4.length - 1) ⟨0, 0⟩
theorem pe_comm (p q : Pt) : pe p q = pe q p := by
  unfold pe
  have h1 : decide (p.f0 = q.f0) = decide (q.f0 = p.f0) := by simp [eq_comm]
  have h2 : decide (p.f1 = q.f1) = decide (q.f1 = p.f1) := by simp [eq_comm]
  rw [h1, h2]
def hopF (x : Ft) (rank : Int) (p : Pt) : Option Pt := if x.f1 = 2 ∧ ¬ x.f2 < rank then (if pe p (endA x) = true then some (endB x) else if pe p (endB x) = true then some (endA x) else none) else none
def hop (l : List Ft) (rank : Int) (p : Pt) (id : Int) : Option Pt := if wFind l id < 0 then none else hopF (l.getD (wFind l id).toNat ftD) rank p
def curTo (l : List Ft) (rank : Int) (ids : List Int) (s : Pt) : Nat → Option Pt
  | 0 => some s
  | n + 1 => match curTo l rank ids s n with
    | some p => hop l rank p (ids.getD n 0)
    | none => none
theorem curTo_none {l : List Ft} {rank : Int} {ids : List Int} {s : Pt} {n : Nat} (h : curTo l rank ids s n = none) : ∀ N, n ≤ N → curTo l rank ids s N = none
  | 0, hN => by obtain rfl : n = 0 := by omega
                exact h
  | N + 1, hN => by
    rcases Nat.lt_or_ge N n with h1 | h1
    · obtain rfl : n = N + 1 := by omega
      exact h
    · unfold curTo; rw [curTo_none h N h1]
def isWay (l : List Ft) (s e : Pt) (rank : Int) (ids : List Int) : Bool := wSrc l && (match curTo l rank ids s ids.length with
  | some p => pe p e
  | none => false)
theorem isWay_bad {l : List Ft} {s e : Pt} {rank : Int} {ids : List Int} {n : Nat} (hn : n < ids.length) {p : Pt} (hp : curTo l rank ids s n = some p) (h : hop l rank p ids[n] = none) : isWay l s e rank ids = false := by
  have : curTo l rank ids s (n + 1) = none := by unfold curTo; rw [hp]; simp [hn, h]
  unfold isWay
  rw [curTo_none this _ hn]
  simp
theorem frF_ok {l r : List Ft} (hr : l.map Ft.fr = r) (h : ∀ x ∈ l, x.f3.size ≤ 1048576 ∧ x.f4.length ≤ 1048576) : ∀ x ∈ r, x.okay := by
  intro x hx
  have := frF_small hr h x hx
  unfold Ft.okay
  omega
end Go.Eng
namespace Go.Eng
open Go Go.Proofs Geo
set_option linter.unusedSimpArgs false
set_option linter.unusedVariables false
set_option maxRecDepth 20000
set_option maxHeartbeats 1000000

/-! digests -/
def iv (m : Int) : List PV := [i m]
def md (n : Int) : Int := (n.tmod 2147483647 + 2147483647) % 2147483647
def stepD (d v : Int) : Int := (d * 1000003 + md v + 13) % 2147483647
def hTo (l : List Int) : Nat → Int
  | 0 => 11
  | n + 1 => stepD (hTo l n) (l.getD n 0)
def hsh (l : List Int) : Int := hTo l l.length
theorem tm_lt (n : Int) : -2147483647 < n.tmod 2147483647 ∧ n.tmod 2147483647 < 2147483647 := by
  have h := Int.tmod_lt_of_pos n (b := 2147483647) (by decide)
  have h2 := Int.tmod_lt_of_pos (-n) (b := 2147483647) (by decide)
  rw [Int.neg_tmod] at h2
  omega
theorem tm_pos {n : Int} (h : 0 ≤ n) : n.tmod 2147483647 = n % 2147483647 := Int.tmod_eq_emod_of_nonneg h
theorem md_lt (n : Int) : 0 ≤ md n ∧ md n < 2147483647 := by unfold md; omega
theorem stepD_lt (d v : Int) : 0 ≤ stepD d v ∧ stepD d v < 2147483647 := by unfold stepD; omega
theorem hTo_lt (l : List Int) (n : Nat) : 0 ≤ hTo l n ∧ hTo l n < 2147483647 := by
  cases n with
  | zero => simp [hTo]
  | succ n => unfold hTo; exact stepD_lt _ _
theorem f199 (n : Int) : Fn Try.prog 199 false [i n, i 2147483647] (i (md n)) := by
  have hb := tm_lt n
  have hm : md n = (n.tmod 2147483647 + 2147483647).tmod 2147483647 := by rw [tm_pos (by omega)]; rfl
  have hw : wr .i64 (n.tmod 2147483647 + 2147483647) = n.tmod 2147483647 + 2147483647 := wr_in (by omega) (by omega)
  have hi : inR 2147483647 1 1000000000000 = true := by decide
  have hc := f99 2147483647 1 1000000000000
  rw [hi] at hc
  refine Fn.by_sx hX (by kernel_rfl) c199 (by kernel_rfl) (by rfl) ?_
  simp [i199, sx_skip, sx_ops, sx_seq, sx_cond, sx_block, sx_exit, sx_ret, sx_mcall, sx_mcell, sx_mset, elAt, setEl, isLst, cellsOf, sxl_nil, sxl_set, sxl_call, sxl_callv, sxl_g1, sxl_g2, sxl_g3, sxl_g4, OkS_true, GrdS_tt, GrdS_tf, GrdS_ft, GrdS_ff, CondS_t, CondS_f, then_n, then_e, then_r, blk_n, blk_e, blk_r, upd_app, Ex.ok, Ex.val, Opd.val, POp.dst, bin_int, binOK_int, bin_str, binOK_str, resOK, resV, RB.val, sub, putc, scB, scL, oneB, conf, Ex.val.eqP, Ex.val.eqL, negV, mxV, mnV, ← wr_eq, wr_zero, wr_one, wr_m1, bst_lst, byteC, partsOK, putAll, appV, nilV, slV, sslV, optB, optNum, and_assoc, exists_and_left, exists_eq_left']
  repeat' (first | intro _ | (simp [sx_skip, sx_ops, sx_seq, sx_cond, sx_block, sx_exit, sx_ret, sx_mcall, sx_mcell, sx_mset, elAt, setEl, isLst, cellsOf, sxl_nil, sxl_set, sxl_call, sxl_callv, sxl_g1, sxl_g2, sxl_g3, sxl_g4, OkS_true, GrdS_tt, GrdS_tf, GrdS_ft, GrdS_ff, CondS_t, CondS_f, then_n, then_e, then_r, blk_n, blk_e, blk_r, upd_app, Ex.ok, Ex.val, Opd.val, POp.dst, bin_int, binOK_int, bin_str, binOK_str, resOK, resV, RB.val, sub, putc, scB, scL, oneB, conf, Ex.val.eqP, Ex.val.eqL, negV, mxV, mnV, ← wr_eq, wr_zero, wr_one, wr_m1, bst_lst, byteC, partsOK, putAll, appV, nilV, slV, sslV, optB, optNum, and_assoc, exists_and_left, exists_eq_left', *]) | refine CallS_i (hc) ?_ | refine CondS_d (fun h => ?_) (fun h => ?_) | refine CondS_b (fun h => ?_) (fun h => ?_) | refine GrdS_d (fun h => ?_) (fun h => ?_) | refine GrdS_b (fun h => ?_) (fun h => ?_) | refine OkS_i (by omega) ?_ | fail)
theorem f232 (n : Int) : Fn Try.prog 232 false [i n, i 2147483647] (i (md n)) := by
  have hb := tm_lt n
  obtain ⟨r, hr⟩ : ∃ r, n.tmod 2147483647 = r := ⟨_, rfl⟩
  rw [hr] at hb
  have hm : md n = if r < 0 then r + 2147483647 else r := by unfold md; rw [hr]; split <;> omega
  have hw : wr .i64 (r + 2147483647) = r + 2147483647 := wr_in (by omega) (by omega)
  have hi : inR 2147483647 1 1000000000000 = true := by decide
  have hc := f97 2147483647 1 1000000000000
  rw [hi] at hc
  refine Fn.by_sx hX (by kernel_rfl) c232 (by kernel_rfl) (by rfl) ?_
  simp [i232, sx_skip, sx_ops, sx_seq, sx_cond, sx_block, sx_exit, sx_ret, sx_mcall, sx_mcell, sx_mset, elAt, setEl, isLst, cellsOf, sxl_nil, sxl_set, sxl_call, sxl_callv, sxl_g1, sxl_g2, sxl_g3, sxl_g4, OkS_true, GrdS_tt, GrdS_tf, GrdS_ft, GrdS_ff, CondS_t, CondS_f, then_n, then_e, then_r, blk_n, blk_e, blk_r, upd_app, Ex.ok, Ex.val, Opd.val, POp.dst, bin_int, binOK_int, bin_str, binOK_str, resOK, resV, RB.val, sub, putc, scB, scL, oneB, conf, Ex.val.eqP, Ex.val.eqL, negV, mxV, mnV, ← wr_eq, wr_zero, wr_one, wr_m1, bst_lst, byteC, partsOK, putAll, appV, nilV, slV, sslV, optB, optNum, and_assoc, exists_and_left, exists_eq_left']
  repeat' (first | intro _ | (simp [sx_skip, sx_ops, sx_seq, sx_cond, sx_block, sx_exit, sx_ret, sx_mcall, sx_mcell, sx_mset, elAt, setEl, isLst, cellsOf, sxl_nil, sxl_set, sxl_call, sxl_callv, sxl_g1, sxl_g2, sxl_g3, sxl_g4, OkS_true, GrdS_tt, GrdS_tf, GrdS_ft, GrdS_ff, CondS_t, CondS_f, then_n, then_e, then_r, blk_n, blk_e, blk_r, upd_app, Ex.ok, Ex.val, Opd.val, POp.dst, bin_int, binOK_int, bin_str, binOK_str, resOK, resV, RB.val, sub, putc, scB, scL, oneB, conf, Ex.val.eqP, Ex.val.eqL, negV, mxV, mnV, ← wr_eq, wr_zero, wr_one, wr_m1, bst_lst, byteC, partsOK, putAll, appV, nilV, slV, sslV, optB, optNum, and_assoc, exists_and_left, exists_eq_left', *]) | refine CallS_i (hc) ?_ | refine CondS_d (fun h => ?_) (fun h => ?_) | refine CondS_b (fun h => ?_) (fun h => ?_) | refine GrdS_d (fun h => ?_) (fun h => ?_) | refine GrdS_b (fun h => ?_) (fun h => ?_) | refine OkS_i (by omega) ?_ | fail)
theorem mulw {d : Int} (h : 0 ≤ d ∧ d < 2147483647) : wr .i64 (d * 1000003) = d * 1000003 := wr_in (by omega) (by omega)
theorem f200 (d v : Int) (hd : 0 ≤ d ∧ d < 2147483647) : Fn Try.prog 200 false [i d, i v] (i (stepD d v)) := by
  have hb := md_lt v
  have hc := f232 v
  have hs : stepD d v = (d * 1000003 + md v + 13).tmod 2147483647 := by rw [tm_pos (by omega)]; rfl
  obtain ⟨q, hq⟩ : ∃ q, md v = q := ⟨_, rfl⟩
  rw [hq] at hc hb hs
  obtain ⟨p, hp⟩ : ∃ p, d * 1000003 = p := ⟨_, rfl⟩
  have w1 : wr .i64 p = p := by rw [← hp]; exact mulw hd
  have hpb : 0 ≤ p ∧ p < 2147483647 * 1000003 := by omega
  have w2 : wr .i64 (p + q) = p + q := wr_in (by omega) (by omega)
  have w3 : wr .i64 (p + q + 13) = p + q + 13 := wr_in (by omega) (by omega)
  rw [hp] at hs
  clear hq
  refine Fn.by_sx hX (by kernel_rfl) c200 (by kernel_rfl) (by rfl) ?_
  simp [i200, sx_skip, sx_ops, sx_seq, sx_cond, sx_block, sx_exit, sx_ret, sx_mcall, sx_mcell, sx_mset, elAt, setEl, isLst, cellsOf, sxl_nil, sxl_set, sxl_call, sxl_callv, sxl_g1, sxl_g2, sxl_g3, sxl_g4, OkS_true, GrdS_tt, GrdS_tf, GrdS_ft, GrdS_ff, CondS_t, CondS_f, then_n, then_e, then_r, blk_n, blk_e, blk_r, upd_app, Ex.ok, Ex.val, Opd.val, POp.dst, bin_int, binOK_int, bin_str, binOK_str, resOK, resV, RB.val, sub, putc, scB, scL, oneB, conf, Ex.val.eqP, Ex.val.eqL, negV, mxV, mnV, ← wr_eq, wr_zero, wr_one, wr_m1, bst_lst, byteC, partsOK, putAll, appV, nilV, slV, sslV, optB, optNum, and_assoc, exists_and_left, exists_eq_left']
  repeat' (first | intro _ | (simp [sx_skip, sx_ops, sx_seq, sx_cond, sx_block, sx_exit, sx_ret, sx_mcall, sx_mcell, sx_mset, elAt, setEl, isLst, cellsOf, sxl_nil, sxl_set, sxl_call, sxl_callv, sxl_g1, sxl_g2, sxl_g3, sxl_g4, OkS_true, GrdS_tt, GrdS_tf, GrdS_ft, GrdS_ff, CondS_t, CondS_f, then_n, then_e, then_r, blk_n, blk_e, blk_r, upd_app, Ex.ok, Ex.val, Opd.val, POp.dst, bin_int, binOK_int, bin_str, binOK_str, resOK, resV, RB.val, sub, putc, scB, scL, oneB, conf, Ex.val.eqP, Ex.val.eqL, negV, mxV, mnV, ← wr_eq, wr_zero, wr_one, wr_m1, bst_lst, byteC, partsOK, putAll, appV, nilV, slV, sslV, optB, optNum, and_assoc, exists_and_left, exists_eq_left', *]) | refine CallS_i (hc) ?_ | refine CondS_d (fun h => ?_) (fun h => ?_) | refine CondS_b (fun h => ?_) (fun h => ?_) | refine GrdS_d (fun h => ?_) (fun h => ?_) | refine GrdS_b (fun h => ?_) (fun h => ?_) | refine OkS_i (by omega) ?_ | fail)
theorem f165 (l : List Int) (nl : Bool) (hl : l.length ≤ 1000000000000) : Fn Try.prog 165 false [.lst 1 nl (l.map iv)] (i (hsh l)) := by
  refine Fn.by_sx hX (by kernel_rfl) c165 (by kernel_rfl) (by rfl) ?_
  simp [i165, sx_skip, sx_ops, sx_seq, sx_cond, sx_block, sx_exit, sx_ret, sx_mcall, sx_mcell, sx_mset, elAt, setEl, isLst, cellsOf, sxl_nil, sxl_set, sxl_call, sxl_callv, sxl_g1, sxl_g2, sxl_g3, sxl_g4, OkS_true, GrdS_tt, GrdS_tf, GrdS_ft, GrdS_ff, CondS_t, CondS_f, then_n, then_e, then_r, blk_n, blk_e, blk_r, upd_app, Ex.ok, Ex.val, Opd.val, POp.dst, bin_int, binOK_int, bin_str, binOK_str, resOK, resV, RB.val, sub, putc, scB, scL, oneB, conf, Ex.val.eqP, Ex.val.eqL, negV, mxV, mnV, ← wr_eq, wr_zero, wr_one, wr_m1, bst_lst, byteC, partsOK, putAll, appV, nilV, slV, sslV, optB, optNum, and_assoc, exists_and_left, exists_eq_left']
  refine sx_count l.length (fun n V => V 6 = .lst 1 nl (l.map iv) ∧ V 7 = i l.length ∧ V 8 = i n ∧ V 3 = i (hTo l n)) 0 (by omega) (by simp [sx_skip, sx_ops, sx_seq, sx_cond, sx_block, sx_exit, sx_ret, sx_mcall, sx_mcell, sx_mset, elAt, setEl, isLst, cellsOf, sxl_nil, sxl_set, sxl_call, sxl_callv, sxl_g1, sxl_g2, sxl_g3, sxl_g4, OkS_true, GrdS_tt, GrdS_tf, GrdS_ft, GrdS_ff, CondS_t, CondS_f, then_n, then_e, then_r, blk_n, blk_e, blk_r, upd_app, Ex.ok, Ex.val, Opd.val, POp.dst, bin_int, binOK_int, bin_str, binOK_str, resOK, resV, RB.val, sub, putc, scB, scL, oneB, conf, Ex.val.eqP, Ex.val.eqL, negV, mxV, mnV, ← wr_eq, wr_zero, wr_one, wr_m1, bst_lst, byteC, partsOK, putAll, appV, nilV, slV, sslV, optB, optNum, and_assoc, exists_and_left, exists_eq_left', hTo]) ?_
  rintro n V hn ⟨h6, h7, h8, h3⟩
  have hw : wr .i64 ((n : Int) + 1) = n + 1 := wr_in (by omega) (by omega)
  simp [sx_skip, sx_ops, sx_seq, sx_cond, sx_block, sx_exit, sx_ret, sx_mcall, sx_mcell, sx_mset, elAt, setEl, isLst, cellsOf, sxl_nil, sxl_set, sxl_call, sxl_callv, sxl_g1, sxl_g2, sxl_g3, sxl_g4, OkS_true, GrdS_tt, GrdS_tf, GrdS_ft, GrdS_ff, CondS_t, CondS_f, then_n, then_e, then_r, blk_n, blk_e, blk_r, upd_app, Ex.ok, Ex.val, Opd.val, POp.dst, bin_int, binOK_int, bin_str, binOK_str, resOK, resV, RB.val, sub, putc, scB, scL, oneB, conf, Ex.val.eqP, Ex.val.eqL, negV, mxV, mnV, ← wr_eq, wr_zero, wr_one, wr_m1, bst_lst, byteC, partsOK, putAll, appV, nilV, slV, sslV, optB, optNum, and_assoc, exists_and_left, exists_eq_left', h7, h8]
  refine CondS_d (fun hlt => ?_) (fun hge => ?_)
  · have hlt' : n < l.length := by omega
    have hc := f200 (hTo l n) l[n] (hTo_lt l n)
    have hs : hTo l (n + 1) = stepD (hTo l n) l[n] := by simp [hTo, hlt']
    repeat' (first | intro _ | (simp [sx_skip, sx_ops, sx_seq, sx_cond, sx_block, sx_exit, sx_ret, sx_mcall, sx_mcell, sx_mset, elAt, setEl, isLst, cellsOf, sxl_nil, sxl_set, sxl_call, sxl_callv, sxl_g1, sxl_g2, sxl_g3, sxl_g4, OkS_true, GrdS_tt, GrdS_tf, GrdS_ft, GrdS_ff, CondS_t, CondS_f, then_n, then_e, then_r, blk_n, blk_e, blk_r, upd_app, Ex.ok, Ex.val, Opd.val, POp.dst, bin_int, binOK_int, bin_str, binOK_str, resOK, resV, RB.val, sub, putc, scB, scL, oneB, conf, Ex.val.eqP, Ex.val.eqL, negV, mxV, mnV, ← wr_eq, wr_zero, wr_one, wr_m1, bst_lst, byteC, partsOK, putAll, appV, nilV, slV, sslV, optB, optNum, and_assoc, exists_and_left, exists_eq_left', iv, *]) | refine CallS_i (hc) ?_ | refine CondS_d (fun h => ?_) (fun h => ?_) | refine CondS_b (fun h => ?_) (fun h => ?_) | refine GrdS_d (fun h => ?_) (fun h => ?_) | refine GrdS_b (fun h => ?_) (fun h => ?_) | refine OkS_i (by omega) ?_ | fail)
  · have : n = l.length := by omega
    subst this
    have hh : hTo l l.length = hsh l := rfl
    repeat' (first | intro _ | (simp [sx_skip, sx_ops, sx_seq, sx_cond, sx_block, sx_exit, sx_ret, sx_mcall, sx_mcell, sx_mset, elAt, setEl, isLst, cellsOf, sxl_nil, sxl_set, sxl_call, sxl_callv, sxl_g1, sxl_g2, sxl_g3, sxl_g4, OkS_true, GrdS_tt, GrdS_tf, GrdS_ft, GrdS_ff, CondS_t, CondS_f, then_n, then_e, then_r, blk_n, blk_e, blk_r, upd_app, Ex.ok, Ex.val, Opd.val, POp.dst, bin_int, binOK_int, bin_str, binOK_str, resOK, resV, RB.val, sub, putc, scB, scL, oneB, conf, Ex.val.eqP, Ex.val.eqL, negV, mxV, mnV, ← wr_eq, wr_zero, wr_one, wr_m1, bst_lst, byteC, partsOK, putAll, appV, nilV, slV, sslV, optB, optNum, and_assoc, exists_and_left, exists_eq_left', *]) | refine CondS_d (fun h => ?_) (fun h => ?_) | refine CondS_b (fun h => ?_) (fun h => ?_) | refine GrdS_d (fun h => ?_) (fun h => ?_) | refine GrdS_b (fun h => ?_) (fun h => ?_) | refine OkS_i (by omega) ?_ | fail)
theorem f164 (l : List Int) (nl : Bool) (hl : l.length ≤ 1000000000000) : Fn Try.prog 164 false [.lst 1 nl (l.map iv)] (i (hsh l)) := by
  refine Fn.by_sx hX (by kernel_rfl) c164 (by kernel_rfl) (by rfl) ?_
  simp [i164, sx_skip, sx_ops, sx_seq, sx_cond, sx_block, sx_exit, sx_ret, sx_mcall, sx_mcell, sx_mset, elAt, setEl, isLst, cellsOf, sxl_nil, sxl_set, sxl_call, sxl_callv, sxl_g1, sxl_g2, sxl_g3, sxl_g4, OkS_true, GrdS_tt, GrdS_tf, GrdS_ft, GrdS_ff, CondS_t, CondS_f, then_n, then_e, then_r, blk_n, blk_e, blk_r, upd_app, Ex.ok, Ex.val, Opd.val, POp.dst, bin_int, binOK_int, bin_str, binOK_str, resOK, resV, RB.val, sub, putc, scB, scL, oneB, conf, Ex.val.eqP, Ex.val.eqL, negV, mxV, mnV, ← wr_eq, wr_zero, wr_one, wr_m1, bst_lst, byteC, partsOK, putAll, appV, nilV, slV, sslV, optB, optNum, and_assoc, exists_and_left, exists_eq_left']
  refine sx_count l.length (fun n V => V 0 = .lst 1 nl (l.map iv) ∧ V 4 = i n ∧ V 3 = i (hTo l n)) 0 (by omega) (by simp [sx_skip, sx_ops, sx_seq, sx_cond, sx_block, sx_exit, sx_ret, sx_mcall, sx_mcell, sx_mset, elAt, setEl, isLst, cellsOf, sxl_nil, sxl_set, sxl_call, sxl_callv, sxl_g1, sxl_g2, sxl_g3, sxl_g4, OkS_true, GrdS_tt, GrdS_tf, GrdS_ft, GrdS_ff, CondS_t, CondS_f, then_n, then_e, then_r, blk_n, blk_e, blk_r, upd_app, Ex.ok, Ex.val, Opd.val, POp.dst, bin_int, binOK_int, bin_str, binOK_str, resOK, resV, RB.val, sub, putc, scB, scL, oneB, conf, Ex.val.eqP, Ex.val.eqL, negV, mxV, mnV, ← wr_eq, wr_zero, wr_one, wr_m1, bst_lst, byteC, partsOK, putAll, appV, nilV, slV, sslV, optB, optNum, and_assoc, exists_and_left, exists_eq_left', hTo]) ?_
  rintro n V hn ⟨h0, h4, h3⟩
  have hw : wr .i64 ((n : Int) + 1) = n + 1 := wr_in (by omega) (by omega)
  simp [sx_skip, sx_ops, sx_seq, sx_cond, sx_block, sx_exit, sx_ret, sx_mcall, sx_mcell, sx_mset, elAt, setEl, isLst, cellsOf, sxl_nil, sxl_set, sxl_call, sxl_callv, sxl_g1, sxl_g2, sxl_g3, sxl_g4, OkS_true, GrdS_tt, GrdS_tf, GrdS_ft, GrdS_ff, CondS_t, CondS_f, then_n, then_e, then_r, blk_n, blk_e, blk_r, upd_app, Ex.ok, Ex.val, Opd.val, POp.dst, bin_int, binOK_int, bin_str, binOK_str, resOK, resV, RB.val, sub, putc, scB, scL, oneB, conf, Ex.val.eqP, Ex.val.eqL, negV, mxV, mnV, ← wr_eq, wr_zero, wr_one, wr_m1, bst_lst, byteC, partsOK, putAll, appV, nilV, slV, sslV, optB, optNum, and_assoc, exists_and_left, exists_eq_left', h0, h4]
  refine CondS_d (fun hlt => ?_) (fun hge => ?_)
  · have hlt' : n < l.length := by omega
    have hc := f199 l[n]
    obtain ⟨v, hv⟩ : ∃ v, l[n] = v := ⟨_, rfl⟩
    have hs : hTo l (n + 1) = stepD (hTo l n) v := by simp [hTo, hlt', hv]
    rw [hv] at hc
    have hd := hTo_lt l n
    have hb := md_lt v
    obtain ⟨d, hde⟩ : ∃ d, hTo l n = d := ⟨_, rfl⟩
    rw [hde] at hs hd h3
    have hs' : stepD d v = (d * 1000003 + md v + 13).tmod 2147483647 := by rw [tm_pos (by omega)]; rfl
    obtain ⟨q, hq⟩ : ∃ q, md v = q := ⟨_, rfl⟩
    obtain ⟨p, hp⟩ : ∃ p, d * 1000003 = p := ⟨_, rfl⟩
    rw [hq] at hc hb hs'
    have w1 : wr .i64 p = p := by rw [← hp]; exact mulw hd
    have w2 : wr .i64 (p + q) = p + q := wr_in (by omega) (by omega)
    have w3 : wr .i64 (p + q + 13) = p + q + 13 := wr_in (by omega) (by omega)
    rw [hp] at hs'
    clear hq hde
    repeat' (first | intro _ | (simp [sx_skip, sx_ops, sx_seq, sx_cond, sx_block, sx_exit, sx_ret, sx_mcall, sx_mcell, sx_mset, elAt, setEl, isLst, cellsOf, sxl_nil, sxl_set, sxl_call, sxl_callv, sxl_g1, sxl_g2, sxl_g3, sxl_g4, OkS_true, GrdS_tt, GrdS_tf, GrdS_ft, GrdS_ff, CondS_t, CondS_f, then_n, then_e, then_r, blk_n, blk_e, blk_r, upd_app, Ex.ok, Ex.val, Opd.val, POp.dst, bin_int, binOK_int, bin_str, binOK_str, resOK, resV, RB.val, sub, putc, scB, scL, oneB, conf, Ex.val.eqP, Ex.val.eqL, negV, mxV, mnV, ← wr_eq, wr_zero, wr_one, wr_m1, bst_lst, byteC, partsOK, putAll, appV, nilV, slV, sslV, optB, optNum, and_assoc, exists_and_left, exists_eq_left', iv, *]) | refine CallS_i (hc) ?_ | refine CondS_d (fun h => ?_) (fun h => ?_) | refine CondS_b (fun h => ?_) (fun h => ?_) | refine GrdS_d (fun h => ?_) (fun h => ?_) | refine GrdS_b (fun h => ?_) (fun h => ?_) | refine OkS_i (by omega) ?_ | fail)
  · have : n = l.length := by omega
    subst this
    have hh : hTo l l.length = hsh l := rfl
    repeat' (first | intro _ | (simp [sx_skip, sx_ops, sx_seq, sx_cond, sx_block, sx_exit, sx_ret, sx_mcall, sx_mcell, sx_mset, elAt, setEl, isLst, cellsOf, sxl_nil, sxl_set, sxl_call, sxl_callv, sxl_g1, sxl_g2, sxl_g3, sxl_g4, OkS_true, GrdS_tt, GrdS_tf, GrdS_ft, GrdS_ff, CondS_t, CondS_f, then_n, then_e, then_r, blk_n, blk_e, blk_r, upd_app, Ex.ok, Ex.val, Opd.val, POp.dst, bin_int, binOK_int, bin_str, binOK_str, resOK, resV, RB.val, sub, putc, scB, scL, oneB, conf, Ex.val.eqP, Ex.val.eqL, negV, mxV, mnV, ← wr_eq, wr_zero, wr_one, wr_m1, bst_lst, byteC, partsOK, putAll, appV, nilV, slV, sslV, optB, optNum, and_assoc, exists_and_left, exists_eq_left', *]) | refine CondS_d (fun h => ?_) (fun h => ?_) | refine CondS_b (fun h => ?_) (fun h => ?_) | refine GrdS_d (fun h => ?_) (fun h => ?_) | refine GrdS_b (fun h => ?_) (fun h => ?_) | refine OkS_i (by omega) ?_ | fail)
def rSegs (l : List Pt) : List Sg := if wRing l = true then upTo (rgAt l) l.length else []
theorem f231 (l : List Pt) (nl : Bool) (hl : l.length ≤ 1000000000000) : Fn Try.prog 231 true [.lst 2 nl (l.map cp)] (.lst 4 false ((rSegs l).map cs)) := by
  have h1 := f152 l nl hl
  have h2 := f183 l nl hl
  unfold rSegs
  refine Fn.by_sx hX (by kernel_rfl) c231 (by kernel_rfl) (by rfl) ?_
  simp [i231, sx_skip, sx_ops, sx_seq, sx_cond, sx_block, sx_exit, sx_ret, sx_mcall, sx_mcell, sx_mset, elAt, setEl, isLst, cellsOf, sxl_nil, sxl_set, sxl_call, sxl_callv, sxl_g1, sxl_g2, sxl_g3, sxl_g4, OkS_true, GrdS_tt, GrdS_tf, GrdS_ft, GrdS_ff, CondS_t, CondS_f, then_n, then_e, then_r, blk_n, blk_e, blk_r, upd_app, Ex.ok, Ex.val, Opd.val, POp.dst, bin_int, binOK_int, bin_str, binOK_str, resOK, resV, RB.val, sub, putc, scB, scL, oneB, conf, Ex.val.eqP, Ex.val.eqL, negV, mxV, mnV, ← wr_eq, wr_zero, wr_one, wr_m1, bst_lst, byteC, partsOK, putAll, appV, nilV, slV, sslV, optB, optNum, and_assoc, exists_and_left, exists_eq_left']
  by_cases h : wRing l = true
  · rw [h] at h1
    repeat' (first | intro _ | (simp [sx_skip, sx_ops, sx_seq, sx_cond, sx_block, sx_exit, sx_ret, sx_mcall, sx_mcell, sx_mset, elAt, setEl, isLst, cellsOf, sxl_nil, sxl_set, sxl_call, sxl_callv, sxl_g1, sxl_g2, sxl_g3, sxl_g4, OkS_true, GrdS_tt, GrdS_tf, GrdS_ft, GrdS_ff, CondS_t, CondS_f, then_n, then_e, then_r, blk_n, blk_e, blk_r, upd_app, Ex.ok, Ex.val, Opd.val, POp.dst, bin_int, binOK_int, bin_str, binOK_str, resOK, resV, RB.val, sub, putc, scB, scL, oneB, conf, Ex.val.eqP, Ex.val.eqL, negV, mxV, mnV, ← wr_eq, wr_zero, wr_one, wr_m1, bst_lst, byteC, partsOK, putAll, appV, nilV, slV, sslV, optB, optNum, and_assoc, exists_and_left, exists_eq_left', *]) | refine CallS_i (h1) ?_ | refine CallS_i (h2) ?_ | refine CondS_d (fun h => ?_) (fun h => ?_) | refine CondS_b (fun h => ?_) (fun h => ?_) | refine GrdS_d (fun h => ?_) (fun h => ?_) | refine GrdS_b (fun h => ?_) (fun h => ?_) | refine OkS_i (by omega) ?_ | fail)
  · have h : wRing l = false := by simpa using h
    rw [h] at h1
    repeat' (first | intro _ | (simp [sx_skip, sx_ops, sx_seq, sx_cond, sx_block, sx_exit, sx_ret, sx_mcall, sx_mcell, sx_mset, elAt, setEl, isLst, cellsOf, sxl_nil, sxl_set, sxl_call, sxl_callv, sxl_g1, sxl_g2, sxl_g3, sxl_g4, OkS_true, GrdS_tt, GrdS_tf, GrdS_ft, GrdS_ff, CondS_t, CondS_f, then_n, then_e, then_r, blk_n, blk_e, blk_r, upd_app, Ex.ok, Ex.val, Opd.val, POp.dst, bin_int, binOK_int, bin_str, binOK_str, resOK, resV, RB.val, sub, putc, scB, scL, oneB, conf, Ex.val.eqP, Ex.val.eqL, negV, mxV, mnV, ← wr_eq, wr_zero, wr_one, wr_m1, bst_lst, byteC, partsOK, putAll, appV, nilV, slV, sslV, optB, optNum, and_assoc, exists_and_left, exists_eq_left', *]) | refine CallS_i (h1) ?_ | refine CondS_d (fun h => ?_) (fun h => ?_) | refine CondS_b (fun h => ?_) (fun h => ?_) | refine GrdS_d (fun h => ?_) (fun h => ?_) | refine GrdS_b (fun h => ?_) (fun h => ?_) | refine OkS_i (by omega) ?_ | fail)
theorem f251 (l : List Pt) (nl : Bool) (hl : l.length ≤ 1000000000000) : Fn Try.prog 251 true [.lst 2 nl (l.map cp)] (.lst 4 false ((rSegs l).map cs)) := by
  have h1 := f149 l nl hl
  have h2 := f179 l nl hl
  unfold rSegs
  refine Fn.by_sx hX (by kernel_rfl) c251 (by kernel_rfl) (by rfl) ?_
  simp [i251, sx_skip, sx_ops, sx_seq, sx_cond, sx_block, sx_exit, sx_ret, sx_mcall, sx_mcell, sx_mset, elAt, setEl, isLst, cellsOf, sxl_nil, sxl_set, sxl_call, sxl_callv, sxl_g1, sxl_g2, sxl_g3, sxl_g4, OkS_true, GrdS_tt, GrdS_tf, GrdS_ft, GrdS_ff, CondS_t, CondS_f, then_n, then_e, then_r, blk_n, blk_e, blk_r, upd_app, Ex.ok, Ex.val, Opd.val, POp.dst, bin_int, binOK_int, bin_str, binOK_str, resOK, resV, RB.val, sub, putc, scB, scL, oneB, conf, Ex.val.eqP, Ex.val.eqL, negV, mxV, mnV, ← wr_eq, wr_zero, wr_one, wr_m1, bst_lst, byteC, partsOK, putAll, appV, nilV, slV, sslV, optB, optNum, and_assoc, exists_and_left, exists_eq_left']
  by_cases h : wRing l = true
  · rw [h] at h1
    repeat' (first | intro _ | (simp [sx_skip, sx_ops, sx_seq, sx_cond, sx_block, sx_exit, sx_ret, sx_mcall, sx_mcell, sx_mset, elAt, setEl, isLst, cellsOf, sxl_nil, sxl_set, sxl_call, sxl_callv, sxl_g1, sxl_g2, sxl_g3, sxl_g4, OkS_true, GrdS_tt, GrdS_tf, GrdS_ft, GrdS_ff, CondS_t, CondS_f, then_n, then_e, then_r, blk_n, blk_e, blk_r, upd_app, Ex.ok, Ex.val, Opd.val, POp.dst, bin_int, binOK_int, bin_str, binOK_str, resOK, resV, RB.val, sub, putc, scB, scL, oneB, conf, Ex.val.eqP, Ex.val.eqL, negV, mxV, mnV, ← wr_eq, wr_zero, wr_one, wr_m1, bst_lst, byteC, partsOK, putAll, appV, nilV, slV, sslV, optB, optNum, and_assoc, exists_and_left, exists_eq_left', *]) | refine CallS_i (h1) ?_ | refine CallS_i (h2) ?_ | refine CondS_d (fun h => ?_) (fun h => ?_) | refine CondS_b (fun h => ?_) (fun h => ?_) | refine GrdS_d (fun h => ?_) (fun h => ?_) | refine GrdS_b (fun h => ?_) (fun h => ?_) | refine OkS_i (by omega) ?_ | fail)
  · have h : wRing l = false := by simpa using h
    rw [h] at h1
    repeat' (first | intro _ | (simp [sx_skip, sx_ops, sx_seq, sx_cond, sx_block, sx_exit, sx_ret, sx_mcall, sx_mcell, sx_mset, elAt, setEl, isLst, cellsOf, sxl_nil, sxl_set, sxl_call, sxl_callv, sxl_g1, sxl_g2, sxl_g3, sxl_g4, OkS_true, GrdS_tt, GrdS_tf, GrdS_ft, GrdS_ff, CondS_t, CondS_f, then_n, then_e, then_r, blk_n, blk_e, blk_r, upd_app, Ex.ok, Ex.val, Opd.val, POp.dst, bin_int, binOK_int, bin_str, binOK_str, resOK, resV, RB.val, sub, putc, scB, scL, oneB, conf, Ex.val.eqP, Ex.val.eqL, negV, mxV, mnV, ← wr_eq, wr_zero, wr_one, wr_m1, bst_lst, byteC, partsOK, putAll, appV, nilV, slV, sslV, optB, optNum, and_assoc, exists_and_left, exists_eq_left', *]) | refine CallS_i (h1) ?_ | refine CondS_d (fun h => ?_) (fun h => ?_) | refine CondS_b (fun h => ?_) (fun h => ?_) | refine GrdS_d (fun h => ?_) (fun h => ?_) | refine GrdS_b (fun h => ?_) (fun h => ?_) | refine OkS_i (by omega) ?_ | fail)
def parts (x : Ft) : List Sg := if wFeat x = true then (if x.f1 = 2 then wSegs x.f4 else if x.f1 = 3 then rSegs x.f4 else []) else []
theorem f198 (x : Ft) (hx : x.okay) : Fn Try.prog 198 true [.agg (ft x)] (.lst 4 false ((parts x).map cs)) := by
  have h1 := f98 x hx
  obtain ⟨hx1, hx2⟩ := hx
  have h2 := f169 x.f4 x.nl (by omega)
  have h3 := f231 x.f4 x.nl (by omega)
  obtain ⟨B, hB⟩ : ∃ B, parts x = B := ⟨_, rfl⟩
  rw [hB]
  unfold parts at hB
  unfold ft at h1 ⊢
  refine Fn.by_sx hX (by kernel_rfl) c198 (by kernel_rfl) (by rfl) ?_
  simp [i198, sx_skip, sx_ops, sx_seq, sx_cond, sx_block, sx_exit, sx_ret, sx_mcall, sx_mcell, sx_mset, elAt, setEl, isLst, cellsOf, sxl_nil, sxl_set, sxl_call, sxl_callv, sxl_g1, sxl_g2, sxl_g3, sxl_g4, OkS_true, GrdS_tt, GrdS_tf, GrdS_ft, GrdS_ff, CondS_t, CondS_f, then_n, then_e, then_r, blk_n, blk_e, blk_r, upd_app, Ex.ok, Ex.val, Opd.val, POp.dst, bin_int, binOK_int, bin_str, binOK_str, resOK, resV, RB.val, sub, putc, scB, scL, oneB, conf, Ex.val.eqP, Ex.val.eqL, negV, mxV, mnV, ← wr_eq, wr_zero, wr_one, wr_m1, bst_lst, byteC, partsOK, putAll, appV, nilV, slV, sslV, optB, optNum, and_assoc, exists_and_left, exists_eq_left']
  by_cases h : wFeat x = true
  · rw [h] at h1
    rw [if_pos h] at hB
    repeat' (first | intro _ | (simp [sx_skip, sx_ops, sx_seq, sx_cond, sx_block, sx_exit, sx_ret, sx_mcall, sx_mcell, sx_mset, elAt, setEl, isLst, cellsOf, sxl_nil, sxl_set, sxl_call, sxl_callv, sxl_g1, sxl_g2, sxl_g3, sxl_g4, OkS_true, GrdS_tt, GrdS_tf, GrdS_ft, GrdS_ff, CondS_t, CondS_f, then_n, then_e, then_r, blk_n, blk_e, blk_r, upd_app, Ex.ok, Ex.val, Opd.val, POp.dst, bin_int, binOK_int, bin_str, binOK_str, resOK, resV, RB.val, sub, putc, scB, scL, oneB, conf, Ex.val.eqP, Ex.val.eqL, negV, mxV, mnV, ← wr_eq, wr_zero, wr_one, wr_m1, bst_lst, byteC, partsOK, putAll, appV, nilV, slV, sslV, optB, optNum, and_assoc, exists_and_left, exists_eq_left', *]) | refine CallS_i (h1) ?_ | refine CallS_i (h2) ?_ | refine CallS_i (h3) ?_ | refine CondS_d (fun h => ?_) (fun h => ?_) | refine CondS_b (fun h => ?_) (fun h => ?_) | refine GrdS_d (fun h => ?_) (fun h => ?_) | refine GrdS_b (fun h => ?_) (fun h => ?_) | refine OkS_i (by omega) ?_ | fail)
    all_goals simp_all
  · have h : wFeat x = false := by simpa using h
    rw [h] at h1
    rw [if_neg (by simp [h])] at hB
    subst hB
    repeat' (first | intro _ | (simp [sx_skip, sx_ops, sx_seq, sx_cond, sx_block, sx_exit, sx_ret, sx_mcall, sx_mcell, sx_mset, elAt, setEl, isLst, cellsOf, sxl_nil, sxl_set, sxl_call, sxl_callv, sxl_g1, sxl_g2, sxl_g3, sxl_g4, OkS_true, GrdS_tt, GrdS_tf, GrdS_ft, GrdS_ff, CondS_t, CondS_f, then_n, then_e, then_r, blk_n, blk_e, blk_r, upd_app, Ex.ok, Ex.val, Opd.val, POp.dst, bin_int, binOK_int, bin_str, binOK_str, resOK, resV, RB.val, sub, putc, scB, scL, oneB, conf, Ex.val.eqP, Ex.val.eqL, negV, mxV, mnV, ← wr_eq, wr_zero, wr_one, wr_m1, bst_lst, byteC, partsOK, putAll, appV, nilV, slV, sslV, optB, optNum, and_assoc, exists_and_left, exists_eq_left', *]) | refine CallS_i (h1) ?_ | refine CondS_d (fun h => ?_) (fun h => ?_) | refine CondS_b (fun h => ?_) (fun h => ?_) | refine GrdS_d (fun h => ?_) (fun h => ?_) | refine GrdS_b (fun h => ?_) (fun h => ?_) | refine OkS_i (by omega) ?_ | fail)
theorem f233 (x : Ft) (hx : x.okay) : Fn Try.prog 233 true [.agg (ft x)] (.lst 4 false ((parts x).map cs)) := by
  have h1 := f96 x hx
  obtain ⟨hx1, hx2⟩ := hx
  have h2 := f171 x.f4 x.nl (by omega)
  have h3 := f251 x.f4 x.nl (by omega)
  obtain ⟨B, hB⟩ : ∃ B, parts x = B := ⟨_, rfl⟩
  rw [hB]
  unfold parts at hB
  unfold ft at h1 ⊢
  refine Fn.by_sx hX (by kernel_rfl) c233 (by kernel_rfl) (by rfl) ?_
  simp [i233, sx_skip, sx_ops, sx_seq, sx_cond, sx_block, sx_exit, sx_ret, sx_mcall, sx_mcell, sx_mset, elAt, setEl, isLst, cellsOf, sxl_nil, sxl_set, sxl_call, sxl_callv, sxl_g1, sxl_g2, sxl_g3, sxl_g4, OkS_true, GrdS_tt, GrdS_tf, GrdS_ft, GrdS_ff, CondS_t, CondS_f, then_n, then_e, then_r, blk_n, blk_e, blk_r, upd_app, Ex.ok, Ex.val, Opd.val, POp.dst, bin_int, binOK_int, bin_str, binOK_str, resOK, resV, RB.val, sub, putc, scB, scL, oneB, conf, Ex.val.eqP, Ex.val.eqL, negV, mxV, mnV, ← wr_eq, wr_zero, wr_one, wr_m1, bst_lst, byteC, partsOK, putAll, appV, nilV, slV, sslV, optB, optNum, and_assoc, exists_and_left, exists_eq_left']
  by_cases h : wFeat x = true
  · rw [h] at h1
    rw [if_pos h] at hB
    repeat' (first | intro _ | (simp [sx_skip, sx_ops, sx_seq, sx_cond, sx_block, sx_exit, sx_ret, sx_mcall, sx_mcell, sx_mset, elAt, setEl, isLst, cellsOf, sxl_nil, sxl_set, sxl_call, sxl_callv, sxl_g1, sxl_g2, sxl_g3, sxl_g4, OkS_true, GrdS_tt, GrdS_tf, GrdS_ft, GrdS_ff, CondS_t, CondS_f, then_n, then_e, then_r, blk_n, blk_e, blk_r, upd_app, Ex.ok, Ex.val, Opd.val, POp.dst, bin_int, binOK_int, bin_str, binOK_str, resOK, resV, RB.val, sub, putc, scB, scL, oneB, conf, Ex.val.eqP, Ex.val.eqL, negV, mxV, mnV, ← wr_eq, wr_zero, wr_one, wr_m1, bst_lst, byteC, partsOK, putAll, appV, nilV, slV, sslV, optB, optNum, and_assoc, exists_and_left, exists_eq_left', *]) | refine CallS_i (h1) ?_ | refine CallS_i (h2) ?_ | refine CallS_i (h3) ?_ | refine CondS_d (fun h => ?_) (fun h => ?_) | refine CondS_b (fun h => ?_) (fun h => ?_) | refine GrdS_d (fun h => ?_) (fun h => ?_) | refine GrdS_b (fun h => ?_) (fun h => ?_) | refine OkS_i (by omega) ?_ | fail)
    all_goals simp_all
  · have h : wFeat x = false := by simpa using h
    rw [h] at h1
    rw [if_neg (by simp [h])] at hB
    subst hB
    repeat' (first | intro _ | (simp [sx_skip, sx_ops, sx_seq, sx_cond, sx_block, sx_exit, sx_ret, sx_mcall, sx_mcell, sx_mset, elAt, setEl, isLst, cellsOf, sxl_nil, sxl_set, sxl_call, sxl_callv, sxl_g1, sxl_g2, sxl_g3, sxl_g4, OkS_true, GrdS_tt, GrdS_tf, GrdS_ft, GrdS_ff, CondS_t, CondS_f, then_n, then_e, then_r, blk_n, blk_e, blk_r, upd_app, Ex.ok, Ex.val, Opd.val, POp.dst, bin_int, binOK_int, bin_str, binOK_str, resOK, resV, RB.val, sub, putc, scB, scL, oneB, conf, Ex.val.eqP, Ex.val.eqL, negV, mxV, mnV, ← wr_eq, wr_zero, wr_one, wr_m1, bst_lst, byteC, partsOK, putAll, appV, nilV, slV, sslV, optB, optNum, and_assoc, exists_and_left, exists_eq_left', *]) | refine CallS_i (h1) ?_ | refine CondS_d (fun h => ?_) (fun h => ?_) | refine CondS_b (fun h => ?_) (fun h => ?_) | refine GrdS_d (fun h => ?_) (fun h => ?_) | refine GrdS_b (fun h => ?_) (fun h => ?_) | refine OkS_i (by omega) ?_ | fail)
end Go.Eng
namespace Go.Eng
open Go Go.Proofs Geo
set_option linter.unusedSimpArgs false
set_option linter.unusedVariables false
set_option maxRecDepth 20000
set_option maxHeartbeats 1000000

/-! pieces, their digests, and seals -/
def pcAt (x : Ft) (k : Nat) : Pt := ⟨x.f0, k⟩
def nPc (x : Ft) : Nat := if x.f1 = 1 then 1 else (parts x).length
def pcs (x : Ft) : List Pt := upTo (pcAt x) (nPc x)
def pcsTo (l : List Ft) : Nat → List Pt
  | 0 => []
  | n + 1 => pcsTo l n ++ pcs (l.getD n ftD)
def pieces (l : List Ft) : List Pt := if wSrc l = true then pcsTo l l.length else []
theorem parts_len (x : Ft) : (parts x).length ≤ 10 := by
  unfold parts
  split
  · split
    · unfold wSegs
      split
      · rename_i h; have := wLine_len h; rw [upTo_length]; omega
      · simp
    · split
      · unfold rSegs
        split
        · rename_i h; rw [upTo_length]; unfold wRing inR at h; simp at h; omega
        · simp
      · simp
  · simp
theorem nPc_le (x : Ft) : nPc x ≤ 10 := by unfold nPc; have := parts_len x; split <;> omega
theorem pcsTo_len (l : List Ft) (n : Nat) : (pcsTo l n).length ≤ 10 * n := by
  induction n with
  | zero => simp [pcsTo]
  | succ n ih => unfold pcsTo pcs; rw [List.length_append, upTo_length]; have := nPc_le (l.getD n ftD); omega
theorem parts_pt {x : Ft} (h : x.f1 = 1) : parts x = [] := by unfold parts; rw [h]; simp
theorem wSrc_len {l : List Ft} (h : wSrc l = true) : l.length ≤ 16 := by unfold wSrc at h; simp at h; exact h.1
theorem wSrc_at {l : List Ft} (h : wSrc l = true) {k : Nat} (hk : k < l.length) : wFeat l[k] = true := by
  unfold wSrc at h
  rw [Bool.and_eq_true] at h
  have := allTo_at h.2 hk
  simp [srcAt, hk] at this
  exact this.1
theorem l162_2 {l : List Ft} {n1 : Bool} {n N : Nat} {B : List (List PV)} {V : Env} (hn : n < l.length) (hN : N ≤ 10) (hB : B.length ≤ 10000) (h0 : V 0 = .lst 5 n1 (l.map ft)) (h3 : V 3 = .lst 2 false B) (h4 : V 4 = i n) (h5 : V 5 = i N) (h6 : V 6 = i 0) :
    sx (FC Try.prog) (.loop (.seq (.seq (.ops [s 30 (.mv (t 6)),
  s 31 (.mv (t 5)),
  s 32 (.bin .lss (t 30) (t 31))])
 (.cond (t 32) .skip (.exit 2)))
 (.seq (.block 3 (.ops [s 35 (.mv (t 3)),
  s 36 (.mv (t 0)),
  s 37 (.mv (t 4)),
  s 38 (.idx (t 36) (t 37) 5),
  s 39 (.mv (t 38)),
  s 40 (.ldE 36 39 0 1 false true 5),
  s 41 (.mv (t 6)),
  s 42 (.bld [(i 0), (i 0)] [(0, 1, (t 40)), (1, 1, (t 41))]),
  s 43 (.bsl 2 [(t 42)]),
  s 44 (.app (t 35) (t 43) 2 16),
  s 3 (.mv (t 44))]))
 (.ops [s 33 (.mv (t 6)),
  s 34 (.bin .add (t 33) (c (i 1))),
  s 6 (.mv (t 34))])))) (fun x V' => x = .exit 2 ∧ V' 0 = V 0 ∧ V' 4 = V 4 ∧ V' 3 = .lst 2 false (B ++ (upTo (pcAt l[n]) N).map cp)) V := by
  refine sx_count N (fun k V' => V' 0 = V 0 ∧ V' 4 = V 4 ∧ V' 5 = V 5 ∧ V' 6 = i k ∧ V' 3 = .lst 2 false (B ++ (upTo (pcAt l[n]) k).map cp)) 0 (by omega) ⟨rfl, rfl, rfl, h6, by simp [h3, upTo_zero]⟩ ?_
  rintro k V' hk ⟨g0, g4, g5, g6, g3⟩
  rw [h0] at g0
  rw [h4] at g4
  rw [h5] at g5
  rw [h0, h4]
  have hw : wr .i64 ((k : Int) + 1) = k + 1 := wr_in (by omega) (by omega)
  simp [sx_skip, sx_ops, sx_seq, sx_cond, sx_block, sx_exit, sx_ret, sx_mcall, sx_mcell, sx_mset, elAt, setEl, isLst, cellsOf, sxl_nil, sxl_set, sxl_call, sxl_callv, sxl_g1, sxl_g2, sxl_g3, sxl_g4, OkS_true, GrdS_tt, GrdS_tf, GrdS_ft, GrdS_ff, CondS_t, CondS_f, then_n, then_e, then_r, blk_n, blk_e, blk_r, upd_app, Ex.ok, Ex.val, Opd.val, POp.dst, bin_int, binOK_int, bin_str, binOK_str, resOK, resV, RB.val, sub, putc, scB, scL, oneB, conf, Ex.val.eqP, Ex.val.eqL, negV, mxV, mnV, ← wr_eq, wr_zero, wr_one, wr_m1, bst_lst, byteC, partsOK, putAll, appV, nilV, slV, sslV, optB, optNum, and_assoc, exists_and_left, exists_eq_left', g5, g6]
  refine CondS_d (fun hlt => ?_) (fun hge => ?_)
  · have hk' : k < N := by omega
    have hul : (upTo (pcAt l[n]) k).length = k := upTo_length
    repeat' (first | intro _ | (simp [sx_skip, sx_ops, sx_seq, sx_cond, sx_block, sx_exit, sx_ret, sx_mcall, sx_mcell, sx_mset, elAt, setEl, isLst, cellsOf, sxl_nil, sxl_set, sxl_call, sxl_callv, sxl_g1, sxl_g2, sxl_g3, sxl_g4, OkS_true, GrdS_tt, GrdS_tf, GrdS_ft, GrdS_ff, CondS_t, CondS_f, then_n, then_e, then_r, blk_n, blk_e, blk_r, upd_app, Ex.ok, Ex.val, Opd.val, POp.dst, bin_int, binOK_int, bin_str, binOK_str, resOK, resV, RB.val, sub, putc, scB, scL, oneB, conf, Ex.val.eqP, Ex.val.eqL, negV, mxV, mnV, ← wr_eq, wr_zero, wr_one, wr_m1, bst_lst, byteC, partsOK, putAll, appV, nilV, slV, sslV, optB, optNum, and_assoc, exists_and_left, exists_eq_left', upTo_succ, cp, pcAt, upTo_length, ft, *]) | refine CondS_d (fun h => ?_) (fun h => ?_) | refine CondS_b (fun h => ?_) (fun h => ?_) | refine GrdS_d (fun h => ?_) (fun h => ?_) | refine GrdS_b (fun h => ?_) (fun h => ?_) | refine OkS_i (by omega) ?_ | fail)
    all_goals omega
  · have : k = N := by omega
    subst this
    repeat' (first | intro _ | (simp [sx_skip, sx_ops, sx_seq, sx_cond, sx_block, sx_exit, sx_ret, sx_mcall, sx_mcell, sx_mset, elAt, setEl, isLst, cellsOf, sxl_nil, sxl_set, sxl_call, sxl_callv, sxl_g1, sxl_g2, sxl_g3, sxl_g4, OkS_true, GrdS_tt, GrdS_tf, GrdS_ft, GrdS_ff, CondS_t, CondS_f, then_n, then_e, then_r, blk_n, blk_e, blk_r, upd_app, Ex.ok, Ex.val, Opd.val, POp.dst, bin_int, binOK_int, bin_str, binOK_str, resOK, resV, RB.val, sub, putc, scB, scL, oneB, conf, Ex.val.eqP, Ex.val.eqL, negV, mxV, mnV, ← wr_eq, wr_zero, wr_one, wr_m1, bst_lst, byteC, partsOK, putAll, appV, nilV, slV, sslV, optB, optNum, and_assoc, exists_and_left, exists_eq_left', *]) | refine CondS_d (fun h => ?_) (fun h => ?_) | refine CondS_b (fun h => ?_) (fun h => ?_) | refine GrdS_d (fun h => ?_) (fun h => ?_) | refine GrdS_b (fun h => ?_) (fun h => ?_) | refine OkS_i (by omega) ?_ | fail)
theorem f162 (l : List Ft) (n1 : Bool) (hl : l.length ≤ 1000000000000) (hb : ∀ x ∈ l, x.okay) : Fn Try.prog 162 true [.lst 5 n1 (l.map ft)] (.lst 2 false ((pieces l).map cp)) := by
  have hsrc := f78 l n1 hl hb
  refine Fn.by_sx hX (by kernel_rfl) c162 (by kernel_rfl) (by rfl) ?_
  simp [i162, sx_skip, sx_ops, sx_seq, sx_cond, sx_block, sx_exit, sx_ret, sx_mcall, sx_mcell, sx_mset, elAt, setEl, isLst, cellsOf, sxl_nil, sxl_set, sxl_call, sxl_callv, sxl_g1, sxl_g2, sxl_g3, sxl_g4, OkS_true, GrdS_tt, GrdS_tf, GrdS_ft, GrdS_ff, CondS_t, CondS_f, then_n, then_e, then_r, blk_n, blk_e, blk_r, upd_app, Ex.ok, Ex.val, Opd.val, POp.dst, bin_int, binOK_int, bin_str, binOK_str, resOK, resV, RB.val, sub, putc, scB, scL, oneB, conf, Ex.val.eqP, Ex.val.eqL, negV, mxV, mnV, ← wr_eq, wr_zero, wr_one, wr_m1, bst_lst, byteC, partsOK, putAll, appV, nilV, slV, sslV, optB, optNum, and_assoc, exists_and_left, exists_eq_left']
  by_cases hs : wSrc l = true
  · rw [hs] at hsrc
    have hlen := wSrc_len hs
    have hp : pieces l = pcsTo l l.length := by unfold pieces; rw [if_pos hs]
    rw [hp]
    refine sx_count l.length (fun n V => V 0 = .lst 5 n1 (l.map ft) ∧ V 4 = i n ∧ V 3 = .lst 2 false ((pcsTo l n).map cp)) 0 (by omega) (by simp [sx_skip, sx_ops, sx_seq, sx_cond, sx_block, sx_exit, sx_ret, sx_mcall, sx_mcell, sx_mset, elAt, setEl, isLst, cellsOf, sxl_nil, sxl_set, sxl_call, sxl_callv, sxl_g1, sxl_g2, sxl_g3, sxl_g4, OkS_true, GrdS_tt, GrdS_tf, GrdS_ft, GrdS_ff, CondS_t, CondS_f, then_n, then_e, then_r, blk_n, blk_e, blk_r, upd_app, Ex.ok, Ex.val, Opd.val, POp.dst, bin_int, binOK_int, bin_str, binOK_str, resOK, resV, RB.val, sub, putc, scB, scL, oneB, conf, Ex.val.eqP, Ex.val.eqL, negV, mxV, mnV, ← wr_eq, wr_zero, wr_one, wr_m1, bst_lst, byteC, partsOK, putAll, appV, nilV, slV, sslV, optB, optNum, and_assoc, exists_and_left, exists_eq_left', pcsTo]) ?_
    rintro n V hn ⟨h0, h4, h3⟩
    have hw : wr .i64 ((n : Int) + 1) = n + 1 := wr_in (by omega) (by omega)
    simp [sx_skip, sx_ops, sx_seq, sx_cond, sx_block, sx_exit, sx_ret, sx_mcall, sx_mcell, sx_mset, elAt, setEl, isLst, cellsOf, sxl_nil, sxl_set, sxl_call, sxl_callv, sxl_g1, sxl_g2, sxl_g3, sxl_g4, OkS_true, GrdS_tt, GrdS_tf, GrdS_ft, GrdS_ff, CondS_t, CondS_f, then_n, then_e, then_r, blk_n, blk_e, blk_r, upd_app, Ex.ok, Ex.val, Opd.val, POp.dst, bin_int, binOK_int, bin_str, binOK_str, resOK, resV, RB.val, sub, putc, scB, scL, oneB, conf, Ex.val.eqP, Ex.val.eqL, negV, mxV, mnV, ← wr_eq, wr_zero, wr_one, wr_m1, bst_lst, byteC, partsOK, putAll, appV, nilV, slV, sslV, optB, optNum, and_assoc, exists_and_left, exists_eq_left', h0, h4]
    refine GrdS_d (fun hlt => ?_) (fun hge => ?_)
    · have hlt' : n < l.length := by omega
      have hok : l[n].okay := hb _ (List.getElem_mem ..)
      have hc := f198 l[n] hok
      have hpl := parts_len l[n]
      have hbl := pcsTo_len l n
      have hnx : pcsTo l (n + 1) = pcsTo l n ++ upTo (pcAt l[n]) (nPc l[n]) := by simp [pcsTo, pcs, hlt']
      by_cases h1 : l[n].f1 = 1
      · have hnp : nPc l[n] = 1 := by unfold nPc; rw [if_pos h1]
        rw [hnp] at hnx
        unfold ft at hc
        rw [h1] at hc
        repeat' (first | intro _ | (simp [sx_skip, sx_ops, sx_seq, sx_cond, sx_block, sx_exit, sx_ret, sx_mcall, sx_mcell, sx_mset, elAt, setEl, isLst, cellsOf, sxl_nil, sxl_set, sxl_call, sxl_callv, sxl_g1, sxl_g2, sxl_g3, sxl_g4, OkS_true, GrdS_tt, GrdS_tf, GrdS_ft, GrdS_ff, CondS_t, CondS_f, then_n, then_e, then_r, blk_n, blk_e, blk_r, upd_app, Ex.ok, Ex.val, Opd.val, POp.dst, bin_int, binOK_int, bin_str, binOK_str, resOK, resV, RB.val, sub, putc, scB, scL, oneB, conf, Ex.val.eqP, Ex.val.eqL, negV, mxV, mnV, ← wr_eq, wr_zero, wr_one, wr_m1, bst_lst, byteC, partsOK, putAll, appV, nilV, slV, sslV, optB, optNum, and_assoc, exists_and_left, exists_eq_left', ft, *]) | refine CallS_i (hsrc) ?_ | refine CallS_i (hc) ?_ | refine CondS_d (fun h => ?_) (fun h => ?_) | refine CondS_b (fun h => ?_) (fun h => ?_) | refine GrdS_d (fun h => ?_) (fun h => ?_) | refine GrdS_b (fun h => ?_) (fun h => ?_) | refine OkS_i (by omega) ?_ | fail)
        refine sx_mono _ _ _ _ ?_ (l162_2 (n1 := n1) (N := 1) hlt' (by omega) (B := (pcsTo l n).map cp) (by simp; omega) (by simp [sx_skip, sx_ops, sx_seq, sx_cond, sx_block, sx_exit, sx_ret, sx_mcall, sx_mcell, sx_mset, elAt, setEl, isLst, cellsOf, sxl_nil, sxl_set, sxl_call, sxl_callv, sxl_g1, sxl_g2, sxl_g3, sxl_g4, OkS_true, GrdS_tt, GrdS_tf, GrdS_ft, GrdS_ff, CondS_t, CondS_f, then_n, then_e, then_r, blk_n, blk_e, blk_r, upd_app, Ex.ok, Ex.val, Opd.val, POp.dst, bin_int, binOK_int, bin_str, binOK_str, resOK, resV, RB.val, sub, putc, scB, scL, oneB, conf, Ex.val.eqP, Ex.val.eqL, negV, mxV, mnV, ← wr_eq, wr_zero, wr_one, wr_m1, bst_lst, byteC, partsOK, putAll, appV, nilV, slV, sslV, optB, optNum, and_assoc, exists_and_left, exists_eq_left', h0]) (by simp [sx_skip, sx_ops, sx_seq, sx_cond, sx_block, sx_exit, sx_ret, sx_mcall, sx_mcell, sx_mset, elAt, setEl, isLst, cellsOf, sxl_nil, sxl_set, sxl_call, sxl_callv, sxl_g1, sxl_g2, sxl_g3, sxl_g4, OkS_true, GrdS_tt, GrdS_tf, GrdS_ft, GrdS_ff, CondS_t, CondS_f, then_n, then_e, then_r, blk_n, blk_e, blk_r, upd_app, Ex.ok, Ex.val, Opd.val, POp.dst, bin_int, binOK_int, bin_str, binOK_str, resOK, resV, RB.val, sub, putc, scB, scL, oneB, conf, Ex.val.eqP, Ex.val.eqL, negV, mxV, mnV, ← wr_eq, wr_zero, wr_one, wr_m1, bst_lst, byteC, partsOK, putAll, appV, nilV, slV, sslV, optB, optNum, and_assoc, exists_and_left, exists_eq_left', h3]) (by simp [sx_skip, sx_ops, sx_seq, sx_cond, sx_block, sx_exit, sx_ret, sx_mcall, sx_mcell, sx_mset, elAt, setEl, isLst, cellsOf, sxl_nil, sxl_set, sxl_call, sxl_callv, sxl_g1, sxl_g2, sxl_g3, sxl_g4, OkS_true, GrdS_tt, GrdS_tf, GrdS_ft, GrdS_ff, CondS_t, CondS_f, then_n, then_e, then_r, blk_n, blk_e, blk_r, upd_app, Ex.ok, Ex.val, Opd.val, POp.dst, bin_int, binOK_int, bin_str, binOK_str, resOK, resV, RB.val, sub, putc, scB, scL, oneB, conf, Ex.val.eqP, Ex.val.eqL, negV, mxV, mnV, ← wr_eq, wr_zero, wr_one, wr_m1, bst_lst, byteC, partsOK, putAll, appV, nilV, slV, sslV, optB, optNum, and_assoc, exists_and_left, exists_eq_left', h4]) (by simp [sx_skip, sx_ops, sx_seq, sx_cond, sx_block, sx_exit, sx_ret, sx_mcall, sx_mcell, sx_mset, elAt, setEl, isLst, cellsOf, sxl_nil, sxl_set, sxl_call, sxl_callv, sxl_g1, sxl_g2, sxl_g3, sxl_g4, OkS_true, GrdS_tt, GrdS_tf, GrdS_ft, GrdS_ff, CondS_t, CondS_f, then_n, then_e, then_r, blk_n, blk_e, blk_r, upd_app, Ex.ok, Ex.val, Opd.val, POp.dst, bin_int, binOK_int, bin_str, binOK_str, resOK, resV, RB.val, sub, putc, scB, scL, oneB, conf, Ex.val.eqP, Ex.val.eqL, negV, mxV, mnV, ← wr_eq, wr_zero, wr_one, wr_m1, bst_lst, byteC, partsOK, putAll, appV, nilV, slV, sslV, optB, optNum, and_assoc, exists_and_left, exists_eq_left']) (by simp [sx_skip, sx_ops, sx_seq, sx_cond, sx_block, sx_exit, sx_ret, sx_mcall, sx_mcell, sx_mset, elAt, setEl, isLst, cellsOf, sxl_nil, sxl_set, sxl_call, sxl_callv, sxl_g1, sxl_g2, sxl_g3, sxl_g4, OkS_true, GrdS_tt, GrdS_tf, GrdS_ft, GrdS_ff, CondS_t, CondS_f, then_n, then_e, then_r, blk_n, blk_e, blk_r, upd_app, Ex.ok, Ex.val, Opd.val, POp.dst, bin_int, binOK_int, bin_str, binOK_str, resOK, resV, RB.val, sub, putc, scB, scL, oneB, conf, Ex.val.eqP, Ex.val.eqL, negV, mxV, mnV, ← wr_eq, wr_zero, wr_one, wr_m1, bst_lst, byteC, partsOK, putAll, appV, nilV, slV, sslV, optB, optNum, and_assoc, exists_and_left, exists_eq_left']))
        rintro e V' ⟨rfl, g0, g4, g3⟩
        simp [sx_skip, sx_ops, sx_seq, sx_cond, sx_block, sx_exit, sx_ret, sx_mcall, sx_mcell, sx_mset, elAt, setEl, isLst, cellsOf, sxl_nil, sxl_set, sxl_call, sxl_callv, sxl_g1, sxl_g2, sxl_g3, sxl_g4, OkS_true, GrdS_tt, GrdS_tf, GrdS_ft, GrdS_ff, CondS_t, CondS_f, then_n, then_e, then_r, blk_n, blk_e, blk_r, upd_app, Ex.ok, Ex.val, Opd.val, POp.dst, bin_int, binOK_int, bin_str, binOK_str, resOK, resV, RB.val, sub, putc, scB, scL, oneB, conf, Ex.val.eqP, Ex.val.eqL, negV, mxV, mnV, ← wr_eq, wr_zero, wr_one, wr_m1, bst_lst, byteC, partsOK, putAll, appV, nilV, slV, sslV, optB, optNum, and_assoc, exists_and_left, exists_eq_left', h0, h4] at g0 g4
        repeat' (first | intro _ | (simp [sx_skip, sx_ops, sx_seq, sx_cond, sx_block, sx_exit, sx_ret, sx_mcall, sx_mcell, sx_mset, elAt, setEl, isLst, cellsOf, sxl_nil, sxl_set, sxl_call, sxl_callv, sxl_g1, sxl_g2, sxl_g3, sxl_g4, OkS_true, GrdS_tt, GrdS_tf, GrdS_ft, GrdS_ff, CondS_t, CondS_f, then_n, then_e, then_r, blk_n, blk_e, blk_r, upd_app, Ex.ok, Ex.val, Opd.val, POp.dst, bin_int, binOK_int, bin_str, binOK_str, resOK, resV, RB.val, sub, putc, scB, scL, oneB, conf, Ex.val.eqP, Ex.val.eqL, negV, mxV, mnV, ← wr_eq, wr_zero, wr_one, wr_m1, bst_lst, byteC, partsOK, putAll, appV, nilV, slV, sslV, optB, optNum, and_assoc, exists_and_left, exists_eq_left', *]) | refine CondS_d (fun h => ?_) (fun h => ?_) | refine CondS_b (fun h => ?_) (fun h => ?_) | refine GrdS_d (fun h => ?_) (fun h => ?_) | refine GrdS_b (fun h => ?_) (fun h => ?_) | refine OkS_i (by omega) ?_ | fail)
      · have hnp : nPc l[n] = (parts l[n]).length := by unfold nPc; rw [if_neg h1]
        rw [hnp] at hnx
        repeat' (first | intro _ | (simp [sx_skip, sx_ops, sx_seq, sx_cond, sx_block, sx_exit, sx_ret, sx_mcall, sx_mcell, sx_mset, elAt, setEl, isLst, cellsOf, sxl_nil, sxl_set, sxl_call, sxl_callv, sxl_g1, sxl_g2, sxl_g3, sxl_g4, OkS_true, GrdS_tt, GrdS_tf, GrdS_ft, GrdS_ff, CondS_t, CondS_f, then_n, then_e, then_r, blk_n, blk_e, blk_r, upd_app, Ex.ok, Ex.val, Opd.val, POp.dst, bin_int, binOK_int, bin_str, binOK_str, resOK, resV, RB.val, sub, putc, scB, scL, oneB, conf, Ex.val.eqP, Ex.val.eqL, negV, mxV, mnV, ← wr_eq, wr_zero, wr_one, wr_m1, bst_lst, byteC, partsOK, putAll, appV, nilV, slV, sslV, optB, optNum, and_assoc, exists_and_left, exists_eq_left', ft, *]) | refine CallS_i (hsrc) ?_ | refine CallS_i (hc) ?_ | refine CondS_d (fun h => ?_) (fun h => ?_) | refine CondS_b (fun h => ?_) (fun h => ?_) | refine GrdS_d (fun h => ?_) (fun h => ?_) | refine GrdS_b (fun h => ?_) (fun h => ?_) | refine OkS_i (by omega) ?_ | fail)
        refine sx_mono _ _ _ _ ?_ (l162_2 (n1 := n1) (N := (parts l[n]).length) hlt' hpl (B := (pcsTo l n).map cp) (by simp; omega) (by simp [sx_skip, sx_ops, sx_seq, sx_cond, sx_block, sx_exit, sx_ret, sx_mcall, sx_mcell, sx_mset, elAt, setEl, isLst, cellsOf, sxl_nil, sxl_set, sxl_call, sxl_callv, sxl_g1, sxl_g2, sxl_g3, sxl_g4, OkS_true, GrdS_tt, GrdS_tf, GrdS_ft, GrdS_ff, CondS_t, CondS_f, then_n, then_e, then_r, blk_n, blk_e, blk_r, upd_app, Ex.ok, Ex.val, Opd.val, POp.dst, bin_int, binOK_int, bin_str, binOK_str, resOK, resV, RB.val, sub, putc, scB, scL, oneB, conf, Ex.val.eqP, Ex.val.eqL, negV, mxV, mnV, ← wr_eq, wr_zero, wr_one, wr_m1, bst_lst, byteC, partsOK, putAll, appV, nilV, slV, sslV, optB, optNum, and_assoc, exists_and_left, exists_eq_left', h0]) (by simp [sx_skip, sx_ops, sx_seq, sx_cond, sx_block, sx_exit, sx_ret, sx_mcall, sx_mcell, sx_mset, elAt, setEl, isLst, cellsOf, sxl_nil, sxl_set, sxl_call, sxl_callv, sxl_g1, sxl_g2, sxl_g3, sxl_g4, OkS_true, GrdS_tt, GrdS_tf, GrdS_ft, GrdS_ff, CondS_t, CondS_f, then_n, then_e, then_r, blk_n, blk_e, blk_r, upd_app, Ex.ok, Ex.val, Opd.val, POp.dst, bin_int, binOK_int, bin_str, binOK_str, resOK, resV, RB.val, sub, putc, scB, scL, oneB, conf, Ex.val.eqP, Ex.val.eqL, negV, mxV, mnV, ← wr_eq, wr_zero, wr_one, wr_m1, bst_lst, byteC, partsOK, putAll, appV, nilV, slV, sslV, optB, optNum, and_assoc, exists_and_left, exists_eq_left', h3]) (by simp [sx_skip, sx_ops, sx_seq, sx_cond, sx_block, sx_exit, sx_ret, sx_mcall, sx_mcell, sx_mset, elAt, setEl, isLst, cellsOf, sxl_nil, sxl_set, sxl_call, sxl_callv, sxl_g1, sxl_g2, sxl_g3, sxl_g4, OkS_true, GrdS_tt, GrdS_tf, GrdS_ft, GrdS_ff, CondS_t, CondS_f, then_n, then_e, then_r, blk_n, blk_e, blk_r, upd_app, Ex.ok, Ex.val, Opd.val, POp.dst, bin_int, binOK_int, bin_str, binOK_str, resOK, resV, RB.val, sub, putc, scB, scL, oneB, conf, Ex.val.eqP, Ex.val.eqL, negV, mxV, mnV, ← wr_eq, wr_zero, wr_one, wr_m1, bst_lst, byteC, partsOK, putAll, appV, nilV, slV, sslV, optB, optNum, and_assoc, exists_and_left, exists_eq_left', h4]) (by simp [sx_skip, sx_ops, sx_seq, sx_cond, sx_block, sx_exit, sx_ret, sx_mcall, sx_mcell, sx_mset, elAt, setEl, isLst, cellsOf, sxl_nil, sxl_set, sxl_call, sxl_callv, sxl_g1, sxl_g2, sxl_g3, sxl_g4, OkS_true, GrdS_tt, GrdS_tf, GrdS_ft, GrdS_ff, CondS_t, CondS_f, then_n, then_e, then_r, blk_n, blk_e, blk_r, upd_app, Ex.ok, Ex.val, Opd.val, POp.dst, bin_int, binOK_int, bin_str, binOK_str, resOK, resV, RB.val, sub, putc, scB, scL, oneB, conf, Ex.val.eqP, Ex.val.eqL, negV, mxV, mnV, ← wr_eq, wr_zero, wr_one, wr_m1, bst_lst, byteC, partsOK, putAll, appV, nilV, slV, sslV, optB, optNum, and_assoc, exists_and_left, exists_eq_left']) (by simp [sx_skip, sx_ops, sx_seq, sx_cond, sx_block, sx_exit, sx_ret, sx_mcall, sx_mcell, sx_mset, elAt, setEl, isLst, cellsOf, sxl_nil, sxl_set, sxl_call, sxl_callv, sxl_g1, sxl_g2, sxl_g3, sxl_g4, OkS_true, GrdS_tt, GrdS_tf, GrdS_ft, GrdS_ff, CondS_t, CondS_f, then_n, then_e, then_r, blk_n, blk_e, blk_r, upd_app, Ex.ok, Ex.val, Opd.val, POp.dst, bin_int, binOK_int, bin_str, binOK_str, resOK, resV, RB.val, sub, putc, scB, scL, oneB, conf, Ex.val.eqP, Ex.val.eqL, negV, mxV, mnV, ← wr_eq, wr_zero, wr_one, wr_m1, bst_lst, byteC, partsOK, putAll, appV, nilV, slV, sslV, optB, optNum, and_assoc, exists_and_left, exists_eq_left']))
        rintro e V' ⟨rfl, g0, g4, g3⟩
        simp [sx_skip, sx_ops, sx_seq, sx_cond, sx_block, sx_exit, sx_ret, sx_mcall, sx_mcell, sx_mset, elAt, setEl, isLst, cellsOf, sxl_nil, sxl_set, sxl_call, sxl_callv, sxl_g1, sxl_g2, sxl_g3, sxl_g4, OkS_true, GrdS_tt, GrdS_tf, GrdS_ft, GrdS_ff, CondS_t, CondS_f, then_n, then_e, then_r, blk_n, blk_e, blk_r, upd_app, Ex.ok, Ex.val, Opd.val, POp.dst, bin_int, binOK_int, bin_str, binOK_str, resOK, resV, RB.val, sub, putc, scB, scL, oneB, conf, Ex.val.eqP, Ex.val.eqL, negV, mxV, mnV, ← wr_eq, wr_zero, wr_one, wr_m1, bst_lst, byteC, partsOK, putAll, appV, nilV, slV, sslV, optB, optNum, and_assoc, exists_and_left, exists_eq_left', h0, h4] at g0 g4
        repeat' (first | intro _ | (simp [sx_skip, sx_ops, sx_seq, sx_cond, sx_block, sx_exit, sx_ret, sx_mcall, sx_mcell, sx_mset, elAt, setEl, isLst, cellsOf, sxl_nil, sxl_set, sxl_call, sxl_callv, sxl_g1, sxl_g2, sxl_g3, sxl_g4, OkS_true, GrdS_tt, GrdS_tf, GrdS_ft, GrdS_ff, CondS_t, CondS_f, then_n, then_e, then_r, blk_n, blk_e, blk_r, upd_app, Ex.ok, Ex.val, Opd.val, POp.dst, bin_int, binOK_int, bin_str, binOK_str, resOK, resV, RB.val, sub, putc, scB, scL, oneB, conf, Ex.val.eqP, Ex.val.eqL, negV, mxV, mnV, ← wr_eq, wr_zero, wr_one, wr_m1, bst_lst, byteC, partsOK, putAll, appV, nilV, slV, sslV, optB, optNum, and_assoc, exists_and_left, exists_eq_left', *]) | refine CondS_d (fun h => ?_) (fun h => ?_) | refine CondS_b (fun h => ?_) (fun h => ?_) | refine GrdS_d (fun h => ?_) (fun h => ?_) | refine GrdS_b (fun h => ?_) (fun h => ?_) | refine OkS_i (by omega) ?_ | fail)
    · have : n = l.length := by omega
      subst this
      repeat' (first | intro _ | (simp [sx_skip, sx_ops, sx_seq, sx_cond, sx_block, sx_exit, sx_ret, sx_mcall, sx_mcell, sx_mset, elAt, setEl, isLst, cellsOf, sxl_nil, sxl_set, sxl_call, sxl_callv, sxl_g1, sxl_g2, sxl_g3, sxl_g4, OkS_true, GrdS_tt, GrdS_tf, GrdS_ft, GrdS_ff, CondS_t, CondS_f, then_n, then_e, then_r, blk_n, blk_e, blk_r, upd_app, Ex.ok, Ex.val, Opd.val, POp.dst, bin_int, binOK_int, bin_str, binOK_str, resOK, resV, RB.val, sub, putc, scB, scL, oneB, conf, Ex.val.eqP, Ex.val.eqL, negV, mxV, mnV, ← wr_eq, wr_zero, wr_one, wr_m1, bst_lst, byteC, partsOK, putAll, appV, nilV, slV, sslV, optB, optNum, and_assoc, exists_and_left, exists_eq_left', *]) | refine CondS_d (fun h => ?_) (fun h => ?_) | refine CondS_b (fun h => ?_) (fun h => ?_) | refine GrdS_d (fun h => ?_) (fun h => ?_) | refine GrdS_b (fun h => ?_) (fun h => ?_) | refine OkS_i (by omega) ?_ | fail)
  · have hs : wSrc l = false := by simpa using hs
    rw [hs] at hsrc
    have hp : pieces l = [] := by unfold pieces; rw [hs]; rfl
    rw [hp]
    refine sx_count l.length (fun n V => V 0 = .lst 5 n1 (l.map ft) ∧ V 4 = i n ∧ V 3 = .lst 2 false []) 0 (by omega) (by simp [sx_skip, sx_ops, sx_seq, sx_cond, sx_block, sx_exit, sx_ret, sx_mcall, sx_mcell, sx_mset, elAt, setEl, isLst, cellsOf, sxl_nil, sxl_set, sxl_call, sxl_callv, sxl_g1, sxl_g2, sxl_g3, sxl_g4, OkS_true, GrdS_tt, GrdS_tf, GrdS_ft, GrdS_ff, CondS_t, CondS_f, then_n, then_e, then_r, blk_n, blk_e, blk_r, upd_app, Ex.ok, Ex.val, Opd.val, POp.dst, bin_int, binOK_int, bin_str, binOK_str, resOK, resV, RB.val, sub, putc, scB, scL, oneB, conf, Ex.val.eqP, Ex.val.eqL, negV, mxV, mnV, ← wr_eq, wr_zero, wr_one, wr_m1, bst_lst, byteC, partsOK, putAll, appV, nilV, slV, sslV, optB, optNum, and_assoc, exists_and_left, exists_eq_left', pcsTo]) ?_
    rintro n V hn ⟨h0, h4, h3⟩
    simp [sx_skip, sx_ops, sx_seq, sx_cond, sx_block, sx_exit, sx_ret, sx_mcall, sx_mcell, sx_mset, elAt, setEl, isLst, cellsOf, sxl_nil, sxl_set, sxl_call, sxl_callv, sxl_g1, sxl_g2, sxl_g3, sxl_g4, OkS_true, GrdS_tt, GrdS_tf, GrdS_ft, GrdS_ff, CondS_t, CondS_f, then_n, then_e, then_r, blk_n, blk_e, blk_r, upd_app, Ex.ok, Ex.val, Opd.val, POp.dst, bin_int, binOK_int, bin_str, binOK_str, resOK, resV, RB.val, sub, putc, scB, scL, oneB, conf, Ex.val.eqP, Ex.val.eqL, negV, mxV, mnV, ← wr_eq, wr_zero, wr_one, wr_m1, bst_lst, byteC, partsOK, putAll, appV, nilV, slV, sslV, optB, optNum, and_assoc, exists_and_left, exists_eq_left', h0, h4]
    refine GrdS_d (fun hlt => ?_) (fun hge => ?_)
    · repeat' (first | intro _ | (simp [sx_skip, sx_ops, sx_seq, sx_cond, sx_block, sx_exit, sx_ret, sx_mcall, sx_mcell, sx_mset, elAt, setEl, isLst, cellsOf, sxl_nil, sxl_set, sxl_call, sxl_callv, sxl_g1, sxl_g2, sxl_g3, sxl_g4, OkS_true, GrdS_tt, GrdS_tf, GrdS_ft, GrdS_ff, CondS_t, CondS_f, then_n, then_e, then_r, blk_n, blk_e, blk_r, upd_app, Ex.ok, Ex.val, Opd.val, POp.dst, bin_int, binOK_int, bin_str, binOK_str, resOK, resV, RB.val, sub, putc, scB, scL, oneB, conf, Ex.val.eqP, Ex.val.eqL, negV, mxV, mnV, ← wr_eq, wr_zero, wr_one, wr_m1, bst_lst, byteC, partsOK, putAll, appV, nilV, slV, sslV, optB, optNum, and_assoc, exists_and_left, exists_eq_left', *]) | refine CallS_i (hsrc) ?_ | refine CondS_d (fun h => ?_) (fun h => ?_) | refine CondS_b (fun h => ?_) (fun h => ?_) | refine GrdS_d (fun h => ?_) (fun h => ?_) | refine GrdS_b (fun h => ?_) (fun h => ?_) | refine OkS_i (by omega) ?_ | fail)
    · repeat' (first | intro _ | (simp [sx_skip, sx_ops, sx_seq, sx_cond, sx_block, sx_exit, sx_ret, sx_mcall, sx_mcell, sx_mset, elAt, setEl, isLst, cellsOf, sxl_nil, sxl_set, sxl_call, sxl_callv, sxl_g1, sxl_g2, sxl_g3, sxl_g4, OkS_true, GrdS_tt, GrdS_tf, GrdS_ft, GrdS_ff, CondS_t, CondS_f, then_n, then_e, then_r, blk_n, blk_e, blk_r, upd_app, Ex.ok, Ex.val, Opd.val, POp.dst, bin_int, binOK_int, bin_str, binOK_str, resOK, resV, RB.val, sub, putc, scB, scL, oneB, conf, Ex.val.eqP, Ex.val.eqL, negV, mxV, mnV, ← wr_eq, wr_zero, wr_one, wr_m1, bst_lst, byteC, partsOK, putAll, appV, nilV, slV, sslV, optB, optNum, and_assoc, exists_and_left, exists_eq_left', *]) | refine CondS_d (fun h => ?_) (fun h => ?_) | refine CondS_b (fun h => ?_) (fun h => ?_) | refine GrdS_d (fun h => ?_) (fun h => ?_) | refine GrdS_b (fun h => ?_) (fun h => ?_) | refine OkS_i (by omega) ?_ | fail)
theorem f202 (x : Ft) (hx : x.okay) : Fn Try.prog 202 true [.agg (ft x), .agg [i 0, i 0, i 0, i 0], .bool true] (.lst 2 false ((pcs x).map cp)) := by
  have hc := f233 x hx
  have hpl := parts_len x
  obtain ⟨B, hB⟩ : ∃ B : List Pt, (if x.f1 = 1 then [⟨x.f0, 0⟩] else []) = B := ⟨_, rfl⟩
  have hp : pcs x = B ++ upTo (pcAt x) (parts x).length := by
    unfold pcs nPc
    by_cases h1 : x.f1 = 1
    · rw [if_pos h1] at hB ⊢
      rw [parts_pt h1, ← hB]
      rfl
    · rw [if_neg h1] at hB ⊢
      rw [← hB]
      rfl
  have hBl : B.length ≤ 1 := by rw [← hB]; split <;> simp
  rw [hp]
  unfold ft at *
  refine Fn.by_sx hX (by kernel_rfl) c202 (by kernel_rfl) (by rfl) ?_
  simp [i202, sx_skip, sx_ops, sx_seq, sx_cond, sx_block, sx_exit, sx_ret, sx_mcall, sx_mcell, sx_mset, elAt, setEl, isLst, cellsOf, sxl_nil, sxl_set, sxl_call, sxl_callv, sxl_g1, sxl_g2, sxl_g3, sxl_g4, OkS_true, GrdS_tt, GrdS_tf, GrdS_ft, GrdS_ff, CondS_t, CondS_f, then_n, then_e, then_r, blk_n, blk_e, blk_r, upd_app, Ex.ok, Ex.val, Opd.val, POp.dst, bin_int, binOK_int, bin_str, binOK_str, resOK, resV, RB.val, sub, putc, scB, scL, oneB, conf, Ex.val.eqP, Ex.val.eqL, negV, mxV, mnV, ← wr_eq, wr_zero, wr_one, wr_m1, bst_lst, byteC, partsOK, putAll, appV, nilV, slV, sslV, optB, optNum, and_assoc, exists_and_left, exists_eq_left']
  by_cases h1 : x.f1 = 1
  · rw [if_pos h1] at hB
    rw [h1] at hc
    repeat' (first | intro _ | (simp [sx_skip, sx_ops, sx_seq, sx_cond, sx_block, sx_exit, sx_ret, sx_mcall, sx_mcell, sx_mset, elAt, setEl, isLst, cellsOf, sxl_nil, sxl_set, sxl_call, sxl_callv, sxl_g1, sxl_g2, sxl_g3, sxl_g4, OkS_true, GrdS_tt, GrdS_tf, GrdS_ft, GrdS_ff, CondS_t, CondS_f, then_n, then_e, then_r, blk_n, blk_e, blk_r, upd_app, Ex.ok, Ex.val, Opd.val, POp.dst, bin_int, binOK_int, bin_str, binOK_str, resOK, resV, RB.val, sub, putc, scB, scL, oneB, conf, Ex.val.eqP, Ex.val.eqL, negV, mxV, mnV, ← wr_eq, wr_zero, wr_one, wr_m1, bst_lst, byteC, partsOK, putAll, appV, nilV, slV, sslV, optB, optNum, and_assoc, exists_and_left, exists_eq_left', *]) | refine CallS_i (hc) ?_ | refine CondS_d (fun h => ?_) (fun h => ?_) | refine CondS_b (fun h => ?_) (fun h => ?_) | refine GrdS_d (fun h => ?_) (fun h => ?_) | refine GrdS_b (fun h => ?_) (fun h => ?_) | refine OkS_i (by omega) ?_ | fail)
    refine sx_count (parts x).length (fun n V => V 3 = .ptr [i x.f0, i 1, i x.f2, .str x.f3, .lst 2 x.nl (x.f4.map cp)] ∧ V 2 = .bool true ∧ V 32 = .lst 4 false ((parts x).map cs) ∧ V 33 = i (parts x).length ∧ V 34 = i n ∧ V 7 = .lst 2 false (B.map cp ++ (upTo (pcAt x) n).map cp)) 0 (by omega) (by simp [sx_skip, sx_ops, sx_seq, sx_cond, sx_block, sx_exit, sx_ret, sx_mcall, sx_mcell, sx_mset, elAt, setEl, isLst, cellsOf, sxl_nil, sxl_set, sxl_call, sxl_callv, sxl_g1, sxl_g2, sxl_g3, sxl_g4, OkS_true, GrdS_tt, GrdS_tf, GrdS_ft, GrdS_ff, CondS_t, CondS_f, then_n, then_e, then_r, blk_n, blk_e, blk_r, upd_app, Ex.ok, Ex.val, Opd.val, POp.dst, bin_int, binOK_int, bin_str, binOK_str, resOK, resV, RB.val, sub, putc, scB, scL, oneB, conf, Ex.val.eqP, Ex.val.eqL, negV, mxV, mnV, ← wr_eq, wr_zero, wr_one, wr_m1, bst_lst, byteC, partsOK, putAll, appV, nilV, slV, sslV, optB, optNum, and_assoc, exists_and_left, exists_eq_left', upTo_zero, ← hB, cp]) ?_
    rintro n V hn ⟨h3, h2, h32, h33, h34, h7⟩
    have hw : wr .i64 ((n : Int) + 1) = n + 1 := wr_in (by omega) (by omega)
    simp [sx_skip, sx_ops, sx_seq, sx_cond, sx_block, sx_exit, sx_ret, sx_mcall, sx_mcell, sx_mset, elAt, setEl, isLst, cellsOf, sxl_nil, sxl_set, sxl_call, sxl_callv, sxl_g1, sxl_g2, sxl_g3, sxl_g4, OkS_true, GrdS_tt, GrdS_tf, GrdS_ft, GrdS_ff, CondS_t, CondS_f, then_n, then_e, then_r, blk_n, blk_e, blk_r, upd_app, Ex.ok, Ex.val, Opd.val, POp.dst, bin_int, binOK_int, bin_str, binOK_str, resOK, resV, RB.val, sub, putc, scB, scL, oneB, conf, Ex.val.eqP, Ex.val.eqL, negV, mxV, mnV, ← wr_eq, wr_zero, wr_one, wr_m1, bst_lst, byteC, partsOK, putAll, appV, nilV, slV, sslV, optB, optNum, and_assoc, exists_and_left, exists_eq_left', h33, h34]
    refine CondS_d (fun hlt => ?_) (fun hge => ?_)
    · have hlt' : n < (parts x).length := by omega
      repeat' (first | intro _ | (simp [sx_skip, sx_ops, sx_seq, sx_cond, sx_block, sx_exit, sx_ret, sx_mcall, sx_mcell, sx_mset, elAt, setEl, isLst, cellsOf, sxl_nil, sxl_set, sxl_call, sxl_callv, sxl_g1, sxl_g2, sxl_g3, sxl_g4, OkS_true, GrdS_tt, GrdS_tf, GrdS_ft, GrdS_ff, CondS_t, CondS_f, then_n, then_e, then_r, blk_n, blk_e, blk_r, upd_app, Ex.ok, Ex.val, Opd.val, POp.dst, bin_int, binOK_int, bin_str, binOK_str, resOK, resV, RB.val, sub, putc, scB, scL, oneB, conf, Ex.val.eqP, Ex.val.eqL, negV, mxV, mnV, ← wr_eq, wr_zero, wr_one, wr_m1, bst_lst, byteC, partsOK, putAll, appV, nilV, slV, sslV, optB, optNum, and_assoc, exists_and_left, exists_eq_left', upTo_succ, cp, cs, pcAt, upTo_length, *]) | refine CondS_d (fun h => ?_) (fun h => ?_) | refine CondS_b (fun h => ?_) (fun h => ?_) | refine GrdS_d (fun h => ?_) (fun h => ?_) | refine GrdS_b (fun h => ?_) (fun h => ?_) | refine OkS_i (by omega) ?_ | fail)
      all_goals omega
    · have : n = (parts x).length := by omega
      repeat' (first | intro _ | (simp [sx_skip, sx_ops, sx_seq, sx_cond, sx_block, sx_exit, sx_ret, sx_mcall, sx_mcell, sx_mset, elAt, setEl, isLst, cellsOf, sxl_nil, sxl_set, sxl_call, sxl_callv, sxl_g1, sxl_g2, sxl_g3, sxl_g4, OkS_true, GrdS_tt, GrdS_tf, GrdS_ft, GrdS_ff, CondS_t, CondS_f, then_n, then_e, then_r, blk_n, blk_e, blk_r, upd_app, Ex.ok, Ex.val, Opd.val, POp.dst, bin_int, binOK_int, bin_str, binOK_str, resOK, resV, RB.val, sub, putc, scB, scL, oneB, conf, Ex.val.eqP, Ex.val.eqL, negV, mxV, mnV, ← wr_eq, wr_zero, wr_one, wr_m1, bst_lst, byteC, partsOK, putAll, appV, nilV, slV, sslV, optB, optNum, and_assoc, exists_and_left, exists_eq_left', *]) | refine CondS_d (fun h => ?_) (fun h => ?_) | refine CondS_b (fun h => ?_) (fun h => ?_) | refine GrdS_d (fun h => ?_) (fun h => ?_) | refine GrdS_b (fun h => ?_) (fun h => ?_) | refine OkS_i (by omega) ?_ | fail)
  · rw [if_neg h1] at hB
    repeat' (first | intro _ | (simp [sx_skip, sx_ops, sx_seq, sx_cond, sx_block, sx_exit, sx_ret, sx_mcall, sx_mcell, sx_mset, elAt, setEl, isLst, cellsOf, sxl_nil, sxl_set, sxl_call, sxl_callv, sxl_g1, sxl_g2, sxl_g3, sxl_g4, OkS_true, GrdS_tt, GrdS_tf, GrdS_ft, GrdS_ff, CondS_t, CondS_f, then_n, then_e, then_r, blk_n, blk_e, blk_r, upd_app, Ex.ok, Ex.val, Opd.val, POp.dst, bin_int, binOK_int, bin_str, binOK_str, resOK, resV, RB.val, sub, putc, scB, scL, oneB, conf, Ex.val.eqP, Ex.val.eqL, negV, mxV, mnV, ← wr_eq, wr_zero, wr_one, wr_m1, bst_lst, byteC, partsOK, putAll, appV, nilV, slV, sslV, optB, optNum, and_assoc, exists_and_left, exists_eq_left', *]) | refine CallS_i (hc) ?_ | refine CondS_d (fun h => ?_) (fun h => ?_) | refine CondS_b (fun h => ?_) (fun h => ?_) | refine GrdS_d (fun h => ?_) (fun h => ?_) | refine GrdS_b (fun h => ?_) (fun h => ?_) | refine OkS_i (by omega) ?_ | fail)
    refine sx_count (parts x).length (fun n V => V 3 = .ptr [i x.f0, i x.f1, i x.f2, .str x.f3, .lst 2 x.nl (x.f4.map cp)] ∧ V 2 = .bool true ∧ V 32 = .lst 4 false ((parts x).map cs) ∧ V 33 = i (parts x).length ∧ V 34 = i n ∧ V 7 = .lst 2 false (B.map cp ++ (upTo (pcAt x) n).map cp)) 0 (by omega) (by simp [sx_skip, sx_ops, sx_seq, sx_cond, sx_block, sx_exit, sx_ret, sx_mcall, sx_mcell, sx_mset, elAt, setEl, isLst, cellsOf, sxl_nil, sxl_set, sxl_call, sxl_callv, sxl_g1, sxl_g2, sxl_g3, sxl_g4, OkS_true, GrdS_tt, GrdS_tf, GrdS_ft, GrdS_ff, CondS_t, CondS_f, then_n, then_e, then_r, blk_n, blk_e, blk_r, upd_app, Ex.ok, Ex.val, Opd.val, POp.dst, bin_int, binOK_int, bin_str, binOK_str, resOK, resV, RB.val, sub, putc, scB, scL, oneB, conf, Ex.val.eqP, Ex.val.eqL, negV, mxV, mnV, ← wr_eq, wr_zero, wr_one, wr_m1, bst_lst, byteC, partsOK, putAll, appV, nilV, slV, sslV, optB, optNum, and_assoc, exists_and_left, exists_eq_left', upTo_zero, ← hB, cp]) ?_
    rintro n V hn ⟨h3, h2, h32, h33, h34, h7⟩
    have hw : wr .i64 ((n : Int) + 1) = n + 1 := wr_in (by omega) (by omega)
    simp [sx_skip, sx_ops, sx_seq, sx_cond, sx_block, sx_exit, sx_ret, sx_mcall, sx_mcell, sx_mset, elAt, setEl, isLst, cellsOf, sxl_nil, sxl_set, sxl_call, sxl_callv, sxl_g1, sxl_g2, sxl_g3, sxl_g4, OkS_true, GrdS_tt, GrdS_tf, GrdS_ft, GrdS_ff, CondS_t, CondS_f, then_n, then_e, then_r, blk_n, blk_e, blk_r, upd_app, Ex.ok, Ex.val, Opd.val, POp.dst, bin_int, binOK_int, bin_str, binOK_str, resOK, resV, RB.val, sub, putc, scB, scL, oneB, conf, Ex.val.eqP, Ex.val.eqL, negV, mxV, mnV, ← wr_eq, wr_zero, wr_one, wr_m1, bst_lst, byteC, partsOK, putAll, appV, nilV, slV, sslV, optB, optNum, and_assoc, exists_and_left, exists_eq_left', h33, h34]
    refine CondS_d (fun hlt => ?_) (fun hge => ?_)
    · have hlt' : n < (parts x).length := by omega
      repeat' (first | intro _ | (simp [sx_skip, sx_ops, sx_seq, sx_cond, sx_block, sx_exit, sx_ret, sx_mcall, sx_mcell, sx_mset, elAt, setEl, isLst, cellsOf, sxl_nil, sxl_set, sxl_call, sxl_callv, sxl_g1, sxl_g2, sxl_g3, sxl_g4, OkS_true, GrdS_tt, GrdS_tf, GrdS_ft, GrdS_ff, CondS_t, CondS_f, then_n, then_e, then_r, blk_n, blk_e, blk_r, upd_app, Ex.ok, Ex.val, Opd.val, POp.dst, bin_int, binOK_int, bin_str, binOK_str, resOK, resV, RB.val, sub, putc, scB, scL, oneB, conf, Ex.val.eqP, Ex.val.eqL, negV, mxV, mnV, ← wr_eq, wr_zero, wr_one, wr_m1, bst_lst, byteC, partsOK, putAll, appV, nilV, slV, sslV, optB, optNum, and_assoc, exists_and_left, exists_eq_left', upTo_succ, cp, cs, pcAt, upTo_length, *]) | refine CondS_d (fun h => ?_) (fun h => ?_) | refine CondS_b (fun h => ?_) (fun h => ?_) | refine GrdS_d (fun h => ?_) (fun h => ?_) | refine GrdS_b (fun h => ?_) (fun h => ?_) | refine OkS_i (by omega) ?_ | fail)
      all_goals omega
    · have : n = (parts x).length := by omega
      repeat' (first | intro _ | (simp [sx_skip, sx_ops, sx_seq, sx_cond, sx_block, sx_exit, sx_ret, sx_mcall, sx_mcell, sx_mset, elAt, setEl, isLst, cellsOf, sxl_nil, sxl_set, sxl_call, sxl_callv, sxl_g1, sxl_g2, sxl_g3, sxl_g4, OkS_true, GrdS_tt, GrdS_tf, GrdS_ft, GrdS_ff, CondS_t, CondS_f, then_n, then_e, then_r, blk_n, blk_e, blk_r, upd_app, Ex.ok, Ex.val, Opd.val, POp.dst, bin_int, binOK_int, bin_str, binOK_str, resOK, resV, RB.val, sub, putc, scB, scL, oneB, conf, Ex.val.eqP, Ex.val.eqL, negV, mxV, mnV, ← wr_eq, wr_zero, wr_one, wr_m1, bst_lst, byteC, partsOK, putAll, appV, nilV, slV, sslV, optB, optNum, and_assoc, exists_and_left, exists_eq_left', *]) | refine CondS_d (fun h => ?_) (fun h => ?_) | refine CondS_b (fun h => ?_) (fun h => ?_) | refine GrdS_d (fun h => ?_) (fun h => ?_) | refine GrdS_b (fun h => ?_) (fun h => ?_) | refine OkS_i (by omega) ?_ | fail)
end Go.Eng
namespace Go.Eng
open Go Go.Proofs Geo
set_option linter.unusedSimpArgs false
set_option linter.unusedVariables false
set_option maxRecDepth 20000
set_option maxHeartbeats 1000000

def byAt (s : ByteArray) (n : Nat) : Int := ((s.data[n]?.getD 0).toNat : Int)
def dgL (x : Ft) (n : Nat) : List Int := [x.f0, x.f1, x.f2, x.f3.size] ++ upTo (byAt x.f3) n
def sg4 (s : Sg) : List Int := [s.f0.f0, s.f0.f1, s.f1.f0, s.f1.f1]
def dig (x : Ft) (part : Int) : Int :=
  if wFeat x = true then
    if x.f1 = 1 then (if part = 0 then hsh (dgL x x.f3.size ++ [part, (x.f4.getD 0 ⟨0, 0⟩).f0, (x.f4.getD 0 ⟨0, 0⟩).f1]) else 0)
    else if 0 ≤ part ∧ part < (parts x).length then hsh (dgL x x.f3.size ++ part :: sg4 ((parts x).getD part.toNat ⟨⟨0, 0⟩, ⟨0, 0⟩⟩)) else 0
  else 0
theorem dgL_len (x : Ft) (n : Nat) : (dgL x n).length = 4 + n := by unfold dgL; rw [List.length_append, upTo_length]; rfl
theorem wFeat_name {x : Ft} (h : wFeat x = true) : x.f3.size ≤ 8 := by
  unfold wFeat at h
  simp at h
  rcases h.1.2.2 with h | h
  · rw [h]; decide
  · unfold isNm inR at h; simp at h; omega
theorem wFeat_pt {x : Ft} (h : wFeat x = true) (h1 : x.f1 = 1) : x.f4.length = 1 := by
  unfold wFeat wShape at h
  simp [h1] at h
  exact h.2.1
theorem byAt_at {s : ByteArray} {n : Nat} (h : n < s.data.size) : byAt s n = (s.data[n].toNat : Int) := by unfold byAt; rw [Array.getElem?_eq_getElem h]; rfl
theorem f163 (x : Ft) (part : Int) (hx : x.okay) : Fn Try.prog 163 false [.agg (ft x), i part] (i (dig x part)) := by
  have hc := f98 x hx
  have hp := f198 x hx
  obtain ⟨D, hD⟩ : ∃ D, dig x part = D := ⟨_, rfl⟩
  rw [hD]
  unfold dig at hD
  unfold ft at *
  refine Fn.by_sx hX (by kernel_rfl) c163 (by kernel_rfl) (by rfl) ?_
  simp [i163, sx_skip, sx_ops, sx_seq, sx_cond, sx_block, sx_exit, sx_ret, sx_mcall, sx_mcell, sx_mset, elAt, setEl, isLst, cellsOf, sxl_nil, sxl_set, sxl_call, sxl_callv, sxl_g1, sxl_g2, sxl_g3, sxl_g4, OkS_true, GrdS_tt, GrdS_tf, GrdS_ft, GrdS_ff, CondS_t, CondS_f, then_n, then_e, then_r, blk_n, blk_e, blk_r, upd_app, Ex.ok, Ex.val, Opd.val, POp.dst, bin_int, binOK_int, bin_str, binOK_str, resOK, resV, RB.val, sub, putc, scB, scL, oneB, conf, Ex.val.eqP, Ex.val.eqL, negV, mxV, mnV, ← wr_eq, wr_zero, wr_one, wr_m1, bst_lst, byteC, partsOK, putAll, appV, nilV, slV, sslV, optB, optNum, and_assoc, exists_and_left, exists_eq_left']
  by_cases hf : wFeat x = true
  case neg =>
    have hf : wFeat x = false := by simpa using hf
    rw [hf] at hc
    rw [if_neg (by simp [hf])] at hD
    repeat' (first | intro _ | (simp [sx_skip, sx_ops, sx_seq, sx_cond, sx_block, sx_exit, sx_ret, sx_mcall, sx_mcell, sx_mset, elAt, setEl, isLst, cellsOf, sxl_nil, sxl_set, sxl_call, sxl_callv, sxl_g1, sxl_g2, sxl_g3, sxl_g4, OkS_true, GrdS_tt, GrdS_tf, GrdS_ft, GrdS_ff, CondS_t, CondS_f, then_n, then_e, then_r, blk_n, blk_e, blk_r, upd_app, Ex.ok, Ex.val, Opd.val, POp.dst, bin_int, binOK_int, bin_str, binOK_str, resOK, resV, RB.val, sub, putc, scB, scL, oneB, conf, Ex.val.eqP, Ex.val.eqL, negV, mxV, mnV, ← wr_eq, wr_zero, wr_one, wr_m1, bst_lst, byteC, partsOK, putAll, appV, nilV, slV, sslV, optB, optNum, and_assoc, exists_and_left, exists_eq_left', *]) | refine CallS_i (hc) ?_ | refine CondS_d (fun h => ?_) (fun h => ?_) | refine CondS_b (fun h => ?_) (fun h => ?_) | refine GrdS_d (fun h => ?_) (fun h => ?_) | refine GrdS_b (fun h => ?_) (fun h => ?_) | refine OkS_i (by omega) ?_ | fail)
  rw [hf] at hc
  rw [if_pos hf] at hD
  have hnm := wFeat_name hf
  have hpl := parts_len x
  repeat' (first | intro _ | (simp [sx_skip, sx_ops, sx_seq, sx_cond, sx_block, sx_exit, sx_ret, sx_mcall, sx_mcell, sx_mset, elAt, setEl, isLst, cellsOf, sxl_nil, sxl_set, sxl_call, sxl_callv, sxl_g1, sxl_g2, sxl_g3, sxl_g4, OkS_true, GrdS_tt, GrdS_tf, GrdS_ft, GrdS_ff, CondS_t, CondS_f, then_n, then_e, then_r, blk_n, blk_e, blk_r, upd_app, Ex.ok, Ex.val, Opd.val, POp.dst, bin_int, binOK_int, bin_str, binOK_str, resOK, resV, RB.val, sub, putc, scB, scL, oneB, conf, Ex.val.eqP, Ex.val.eqL, negV, mxV, mnV, ← wr_eq, wr_zero, wr_one, wr_m1, bst_lst, byteC, partsOK, putAll, appV, nilV, slV, sslV, optB, optNum, and_assoc, exists_and_left, exists_eq_left', *]) | refine CallS_i (hc) ?_ | refine CondS_d (fun h => ?_) (fun h => ?_) | refine CondS_b (fun h => ?_) (fun h => ?_) | refine GrdS_d (fun h => ?_) (fun h => ?_) | refine GrdS_b (fun h => ?_) (fun h => ?_) | refine OkS_i (by omega) ?_ | fail)
  refine sx_count x.f3.size (fun n V => V 2 = .ptr [i x.f0, i x.f1, i x.f2, .str x.f3, .lst 2 x.nl (x.f4.map cp)] ∧ V 1 = i part ∧ V 6 = i n ∧ V 5 = .lst 1 false ((dgL x n).map iv)) 0 (by omega) (by simp [sx_skip, sx_ops, sx_seq, sx_cond, sx_block, sx_exit, sx_ret, sx_mcall, sx_mcell, sx_mset, elAt, setEl, isLst, cellsOf, sxl_nil, sxl_set, sxl_call, sxl_callv, sxl_g1, sxl_g2, sxl_g3, sxl_g4, OkS_true, GrdS_tt, GrdS_tf, GrdS_ft, GrdS_ff, CondS_t, CondS_f, then_n, then_e, then_r, blk_n, blk_e, blk_r, upd_app, Ex.ok, Ex.val, Opd.val, POp.dst, bin_int, binOK_int, bin_str, binOK_str, resOK, resV, RB.val, sub, putc, scB, scL, oneB, conf, Ex.val.eqP, Ex.val.eqL, negV, mxV, mnV, ← wr_eq, wr_zero, wr_one, wr_m1, bst_lst, byteC, partsOK, putAll, appV, nilV, slV, sslV, optB, optNum, and_assoc, exists_and_left, exists_eq_left', upTo_zero, iv, dgL]) ?_
  rintro n V hn ⟨h2, h1, h6, h5⟩
  have hw : wr .i64 ((n : Int) + 1) = n + 1 := wr_in (by omega) (by omega)
  simp [sx_skip, sx_ops, sx_seq, sx_cond, sx_block, sx_exit, sx_ret, sx_mcall, sx_mcell, sx_mset, elAt, setEl, isLst, cellsOf, sxl_nil, sxl_set, sxl_call, sxl_callv, sxl_g1, sxl_g2, sxl_g3, sxl_g4, OkS_true, GrdS_tt, GrdS_tf, GrdS_ft, GrdS_ff, CondS_t, CondS_f, then_n, then_e, then_r, blk_n, blk_e, blk_r, upd_app, Ex.ok, Ex.val, Opd.val, POp.dst, bin_int, binOK_int, bin_str, binOK_str, resOK, resV, RB.val, sub, putc, scB, scL, oneB, conf, Ex.val.eqP, Ex.val.eqL, negV, mxV, mnV, ← wr_eq, wr_zero, wr_one, wr_m1, bst_lst, byteC, partsOK, putAll, appV, nilV, slV, sslV, optB, optNum, and_assoc, exists_and_left, exists_eq_left', h2, h6]
  refine CondS_d (fun hlt => ?_) (fun hge => ?_)
  · have hlt' : n < x.f3.size := by omega
    have hlt2 : n < x.f3.data.size := hlt'
    have hb := byAt_at hlt2
    have hbl : x.f3.data[n].toNat < 256 := x.f3.data[n].toNat_lt
    obtain ⟨b, hbe⟩ : ∃ b : Int, (x.f3.data[n].toNat : Int) = b := ⟨_, rfl⟩
    rw [hbe] at hb
    have hwb : wr .i64 b = b := wr_in (by omega) (by omega)
    have hL := dgL_len x n
    have hsu : dgL x (n + 1) = dgL x n ++ [b] := by unfold dgL; rw [upTo_succ, hb]; simp
    repeat' (first | intro _ | (simp [sx_skip, sx_ops, sx_seq, sx_cond, sx_block, sx_exit, sx_ret, sx_mcall, sx_mcell, sx_mset, elAt, setEl, isLst, cellsOf, sxl_nil, sxl_set, sxl_call, sxl_callv, sxl_g1, sxl_g2, sxl_g3, sxl_g4, OkS_true, GrdS_tt, GrdS_tf, GrdS_ft, GrdS_ff, CondS_t, CondS_f, then_n, then_e, then_r, blk_n, blk_e, blk_r, upd_app, Ex.ok, Ex.val, Opd.val, POp.dst, bin_int, binOK_int, bin_str, binOK_str, resOK, resV, RB.val, sub, putc, scB, scL, oneB, conf, Ex.val.eqP, Ex.val.eqL, negV, mxV, mnV, ← wr_eq, wr_zero, wr_one, wr_m1, bst_lst, byteC, partsOK, putAll, appV, nilV, slV, sslV, optB, optNum, and_assoc, exists_and_left, exists_eq_left', iv, *]) | refine CondS_d (fun h => ?_) (fun h => ?_) | refine CondS_b (fun h => ?_) (fun h => ?_) | refine GrdS_d (fun h => ?_) (fun h => ?_) | refine GrdS_b (fun h => ?_) (fun h => ?_) | refine OkS_i (by omega) ?_ | fail)
    all_goals omega
  · have : n = x.f3.size := by omega
    subst this
    have hL := dgL_len x x.f3.size
    obtain ⟨L, hLe⟩ : ∃ L, dgL x x.f3.size = L := ⟨_, rfl⟩
    rw [hLe] at h5 hL hD
    by_cases hk : x.f1 = 1
    · have h0l := wFeat_pt hf hk
      have h0p : 0 < x.f4.length := by omega
      rw [if_pos hk] at hD
      rw [parts_pt hk] at hp
      obtain ⟨p, hpe⟩ : ∃ p, x.f4[0] = p := ⟨_, rfl⟩
      have hpg : x.f4.getD 0 ⟨0, 0⟩ = p := by simp [h0p, hpe]
      rw [hpg] at hD
      have hh := f164 (L ++ [part, p.f0, p.f1]) false (by simp; omega)
      rw [hk] at h2 hp
      by_cases hz : part = 0
      · rw [if_pos hz] at hD
        rw [hD] at hh
        subst hz
        simp [iv] at hh
        repeat' (first | intro _ | (simp [sx_skip, sx_ops, sx_seq, sx_cond, sx_block, sx_exit, sx_ret, sx_mcall, sx_mcell, sx_mset, elAt, setEl, isLst, cellsOf, sxl_nil, sxl_set, sxl_call, sxl_callv, sxl_g1, sxl_g2, sxl_g3, sxl_g4, OkS_true, GrdS_tt, GrdS_tf, GrdS_ft, GrdS_ff, CondS_t, CondS_f, then_n, then_e, then_r, blk_n, blk_e, blk_r, upd_app, Ex.ok, Ex.val, Opd.val, POp.dst, bin_int, binOK_int, bin_str, binOK_str, resOK, resV, RB.val, sub, putc, scB, scL, oneB, conf, Ex.val.eqP, Ex.val.eqL, negV, mxV, mnV, ← wr_eq, wr_zero, wr_one, wr_m1, bst_lst, byteC, partsOK, putAll, appV, nilV, slV, sslV, optB, optNum, and_assoc, exists_and_left, exists_eq_left', iv, cp, *]) | refine CallS_i (hp) ?_ | refine CallS_i (hh) ?_ | refine CondS_d (fun h => ?_) (fun h => ?_) | refine CondS_b (fun h => ?_) (fun h => ?_) | refine GrdS_d (fun h => ?_) (fun h => ?_) | refine GrdS_b (fun h => ?_) (fun h => ?_) | refine OkS_i (by omega) ?_ | fail)
        all_goals omega
      · rw [if_neg hz] at hD
        subst hD
        have hc1 := f99 part 0 (-1)
        have hi : inR part 0 (-1) = false := by unfold inR; simp; omega
        rw [hi] at hc1
        repeat' (first | intro _ | (simp [sx_skip, sx_ops, sx_seq, sx_cond, sx_block, sx_exit, sx_ret, sx_mcall, sx_mcell, sx_mset, elAt, setEl, isLst, cellsOf, sxl_nil, sxl_set, sxl_call, sxl_callv, sxl_g1, sxl_g2, sxl_g3, sxl_g4, OkS_true, GrdS_tt, GrdS_tf, GrdS_ft, GrdS_ff, CondS_t, CondS_f, then_n, then_e, then_r, blk_n, blk_e, blk_r, upd_app, Ex.ok, Ex.val, Opd.val, POp.dst, bin_int, binOK_int, bin_str, binOK_str, resOK, resV, RB.val, sub, putc, scB, scL, oneB, conf, Ex.val.eqP, Ex.val.eqL, negV, mxV, mnV, ← wr_eq, wr_zero, wr_one, wr_m1, bst_lst, byteC, partsOK, putAll, appV, nilV, slV, sslV, optB, optNum, and_assoc, exists_and_left, exists_eq_left', iv, cp, *]) | refine CallS_i (hp) ?_ | refine CallS_i (hc1) ?_ | refine CondS_d (fun h => ?_) (fun h => ?_) | refine CondS_b (fun h => ?_) (fun h => ?_) | refine GrdS_d (fun h => ?_) (fun h => ?_) | refine GrdS_b (fun h => ?_) (fun h => ?_) | refine OkS_i (by omega) ?_ | fail)
        all_goals omega
    · rw [if_neg hk] at hD
      have hws : wr .i64 (((parts x).length : Int) - 1) = (parts x).length - 1 := wr_in (by omega) (by omega)
      have hc1 := f99 part 0 ((parts x).length - 1)
      by_cases hr : 0 ≤ part ∧ part < (parts x).length
      · rw [if_pos hr] at hD
        obtain ⟨k, rfl⟩ : ∃ k : Nat, part = k := ⟨part.toNat, by omega⟩
        have hkl : k < (parts x).length := by omega
        have hi : inR (k : Int) 0 ((parts x).length - 1) = true := by unfold inR; simp; omega
        rw [hi] at hc1
        obtain ⟨S, hSe⟩ : ∃ S, (parts x)[k] = S := ⟨_, rfl⟩
        have hSg : (parts x).getD (k : Int).toNat ⟨⟨0, 0⟩, ⟨0, 0⟩⟩ = S := by simp [hkl, hSe]
        rw [hSg] at hD
        have hh := f164 (L ++ (k : Int) :: sg4 S) false (by simp [sg4]; omega)
        rw [hD] at hh
        simp [iv, sg4] at hh
        repeat' (first | intro _ | (simp [sx_skip, sx_ops, sx_seq, sx_cond, sx_block, sx_exit, sx_ret, sx_mcall, sx_mcell, sx_mset, elAt, setEl, isLst, cellsOf, sxl_nil, sxl_set, sxl_call, sxl_callv, sxl_g1, sxl_g2, sxl_g3, sxl_g4, OkS_true, GrdS_tt, GrdS_tf, GrdS_ft, GrdS_ff, CondS_t, CondS_f, then_n, then_e, then_r, blk_n, blk_e, blk_r, upd_app, Ex.ok, Ex.val, Opd.val, POp.dst, bin_int, binOK_int, bin_str, binOK_str, resOK, resV, RB.val, sub, putc, scB, scL, oneB, conf, Ex.val.eqP, Ex.val.eqL, negV, mxV, mnV, ← wr_eq, wr_zero, wr_one, wr_m1, bst_lst, byteC, partsOK, putAll, appV, nilV, slV, sslV, optB, optNum, and_assoc, exists_and_left, exists_eq_left', iv, cs, *]) | refine CallS_i (hp) ?_ | refine CallS_i (hc1) ?_ | refine CallS_i (hh) ?_ | refine CondS_d (fun h => ?_) (fun h => ?_) | refine CondS_b (fun h => ?_) (fun h => ?_) | refine GrdS_d (fun h => ?_) (fun h => ?_) | refine GrdS_b (fun h => ?_) (fun h => ?_) | refine OkS_i (by omega) ?_ | fail)
        all_goals omega
      · rw [if_neg hr] at hD
        subst hD
        have hi : inR part 0 ((parts x).length - 1) = false := by unfold inR; simp; omega
        rw [hi] at hc1
        repeat' (first | intro _ | (simp [sx_skip, sx_ops, sx_seq, sx_cond, sx_block, sx_exit, sx_ret, sx_mcall, sx_mcell, sx_mset, elAt, setEl, isLst, cellsOf, sxl_nil, sxl_set, sxl_call, sxl_callv, sxl_g1, sxl_g2, sxl_g3, sxl_g4, OkS_true, GrdS_tt, GrdS_tf, GrdS_ft, GrdS_ff, CondS_t, CondS_f, then_n, then_e, then_r, blk_n, blk_e, blk_r, upd_app, Ex.ok, Ex.val, Opd.val, POp.dst, bin_int, binOK_int, bin_str, binOK_str, resOK, resV, RB.val, sub, putc, scB, scL, oneB, conf, Ex.val.eqP, Ex.val.eqL, negV, mxV, mnV, ← wr_eq, wr_zero, wr_one, wr_m1, bst_lst, byteC, partsOK, putAll, appV, nilV, slV, sslV, optB, optNum, and_assoc, exists_and_left, exists_eq_left', iv, cs, *]) | refine CallS_i (hp) ?_ | refine CallS_i (hc1) ?_ | refine CondS_d (fun h => ?_) (fun h => ?_) | refine CondS_b (fun h => ?_) (fun h => ?_) | refine GrdS_d (fun h => ?_) (fun h => ?_) | refine GrdS_b (fun h => ?_) (fun h => ?_) | refine OkS_i (by omega) ?_ | fail)
        all_goals omega
theorem f201 (x : Ft) (part : Int) (hx : x.okay) : Fn Try.prog 201 false [.agg (ft x), i part] (i (dig x part)) := by
  have hc := f96 x hx
  have hp := f233 x hx
  obtain ⟨D, hD⟩ : ∃ D, dig x part = D := ⟨_, rfl⟩
  rw [hD]
  unfold dig at hD
  unfold ft at *
  refine Fn.by_sx hX (by kernel_rfl) c201 (by kernel_rfl) (by rfl) ?_
  simp [i201, sx_skip, sx_ops, sx_seq, sx_cond, sx_block, sx_exit, sx_ret, sx_mcall, sx_mcell, sx_mset, elAt, setEl, isLst, cellsOf, sxl_nil, sxl_set, sxl_call, sxl_callv, sxl_g1, sxl_g2, sxl_g3, sxl_g4, OkS_true, GrdS_tt, GrdS_tf, GrdS_ft, GrdS_ff, CondS_t, CondS_f, then_n, then_e, then_r, blk_n, blk_e, blk_r, upd_app, Ex.ok, Ex.val, Opd.val, POp.dst, bin_int, binOK_int, bin_str, binOK_str, resOK, resV, RB.val, sub, putc, scB, scL, oneB, conf, Ex.val.eqP, Ex.val.eqL, negV, mxV, mnV, ← wr_eq, wr_zero, wr_one, wr_m1, bst_lst, byteC, partsOK, putAll, appV, nilV, slV, sslV, optB, optNum, and_assoc, exists_and_left, exists_eq_left']
  by_cases hf : wFeat x = true
  case neg =>
    have hf : wFeat x = false := by simpa using hf
    rw [hf] at hc
    rw [if_neg (by simp [hf])] at hD
    repeat' (first | intro _ | (simp [sx_skip, sx_ops, sx_seq, sx_cond, sx_block, sx_exit, sx_ret, sx_mcall, sx_mcell, sx_mset, elAt, setEl, isLst, cellsOf, sxl_nil, sxl_set, sxl_call, sxl_callv, sxl_g1, sxl_g2, sxl_g3, sxl_g4, OkS_true, GrdS_tt, GrdS_tf, GrdS_ft, GrdS_ff, CondS_t, CondS_f, then_n, then_e, then_r, blk_n, blk_e, blk_r, upd_app, Ex.ok, Ex.val, Opd.val, POp.dst, bin_int, binOK_int, bin_str, binOK_str, resOK, resV, RB.val, sub, putc, scB, scL, oneB, conf, Ex.val.eqP, Ex.val.eqL, negV, mxV, mnV, ← wr_eq, wr_zero, wr_one, wr_m1, bst_lst, byteC, partsOK, putAll, appV, nilV, slV, sslV, optB, optNum, and_assoc, exists_and_left, exists_eq_left', *]) | refine CallS_i (hc) ?_ | refine CondS_d (fun h => ?_) (fun h => ?_) | refine CondS_b (fun h => ?_) (fun h => ?_) | refine GrdS_d (fun h => ?_) (fun h => ?_) | refine GrdS_b (fun h => ?_) (fun h => ?_) | refine OkS_i (by omega) ?_ | fail)
  rw [hf] at hc
  rw [if_pos hf] at hD
  have hnm := wFeat_name hf
  have hpl := parts_len x
  repeat' (first | intro _ | (simp [sx_skip, sx_ops, sx_seq, sx_cond, sx_block, sx_exit, sx_ret, sx_mcall, sx_mcell, sx_mset, elAt, setEl, isLst, cellsOf, sxl_nil, sxl_set, sxl_call, sxl_callv, sxl_g1, sxl_g2, sxl_g3, sxl_g4, OkS_true, GrdS_tt, GrdS_tf, GrdS_ft, GrdS_ff, CondS_t, CondS_f, then_n, then_e, then_r, blk_n, blk_e, blk_r, upd_app, Ex.ok, Ex.val, Opd.val, POp.dst, bin_int, binOK_int, bin_str, binOK_str, resOK, resV, RB.val, sub, putc, scB, scL, oneB, conf, Ex.val.eqP, Ex.val.eqL, negV, mxV, mnV, ← wr_eq, wr_zero, wr_one, wr_m1, bst_lst, byteC, partsOK, putAll, appV, nilV, slV, sslV, optB, optNum, and_assoc, exists_and_left, exists_eq_left', *]) | refine CallS_i (hc) ?_ | refine CondS_d (fun h => ?_) (fun h => ?_) | refine CondS_b (fun h => ?_) (fun h => ?_) | refine GrdS_d (fun h => ?_) (fun h => ?_) | refine GrdS_b (fun h => ?_) (fun h => ?_) | refine OkS_i (by omega) ?_ | fail)
  refine sx_count x.f3.size (fun n V => V 2 = .ptr [i x.f0, i x.f1, i x.f2, .str x.f3, .lst 2 x.nl (x.f4.map cp)] ∧ V 1 = i part ∧ V 24 = i x.f3.size ∧ V 25 = i n ∧ V 5 = .lst 1 false ((dgL x n).map iv)) 0 (by omega) (by simp [sx_skip, sx_ops, sx_seq, sx_cond, sx_block, sx_exit, sx_ret, sx_mcall, sx_mcell, sx_mset, elAt, setEl, isLst, cellsOf, sxl_nil, sxl_set, sxl_call, sxl_callv, sxl_g1, sxl_g2, sxl_g3, sxl_g4, OkS_true, GrdS_tt, GrdS_tf, GrdS_ft, GrdS_ff, CondS_t, CondS_f, then_n, then_e, then_r, blk_n, blk_e, blk_r, upd_app, Ex.ok, Ex.val, Opd.val, POp.dst, bin_int, binOK_int, bin_str, binOK_str, resOK, resV, RB.val, sub, putc, scB, scL, oneB, conf, Ex.val.eqP, Ex.val.eqL, negV, mxV, mnV, ← wr_eq, wr_zero, wr_one, wr_m1, bst_lst, byteC, partsOK, putAll, appV, nilV, slV, sslV, optB, optNum, and_assoc, exists_and_left, exists_eq_left', upTo_zero, iv, dgL]) ?_
  rintro n V hn ⟨h2, h1, h24, h25, h5⟩
  have hw : wr .i64 ((n : Int) + 1) = n + 1 := wr_in (by omega) (by omega)
  simp [sx_skip, sx_ops, sx_seq, sx_cond, sx_block, sx_exit, sx_ret, sx_mcall, sx_mcell, sx_mset, elAt, setEl, isLst, cellsOf, sxl_nil, sxl_set, sxl_call, sxl_callv, sxl_g1, sxl_g2, sxl_g3, sxl_g4, OkS_true, GrdS_tt, GrdS_tf, GrdS_ft, GrdS_ff, CondS_t, CondS_f, then_n, then_e, then_r, blk_n, blk_e, blk_r, upd_app, Ex.ok, Ex.val, Opd.val, POp.dst, bin_int, binOK_int, bin_str, binOK_str, resOK, resV, RB.val, sub, putc, scB, scL, oneB, conf, Ex.val.eqP, Ex.val.eqL, negV, mxV, mnV, ← wr_eq, wr_zero, wr_one, wr_m1, bst_lst, byteC, partsOK, putAll, appV, nilV, slV, sslV, optB, optNum, and_assoc, exists_and_left, exists_eq_left', h24, h25]
  refine CondS_d (fun hlt => ?_) (fun hge => ?_)
  · have hlt' : n < x.f3.size := by omega
    have hlt2 : n < x.f3.data.size := hlt'
    have hb := byAt_at hlt2
    have hbl : x.f3.data[n].toNat < 256 := x.f3.data[n].toNat_lt
    obtain ⟨b, hbe⟩ : ∃ b : Int, (x.f3.data[n].toNat : Int) = b := ⟨_, rfl⟩
    rw [hbe] at hb
    have hwb : wr .i64 b = b := wr_in (by omega) (by omega)
    have hL := dgL_len x n
    have hsu : dgL x (n + 1) = dgL x n ++ [b] := by unfold dgL; rw [upTo_succ, hb]; simp
    repeat' (first | intro _ | (simp [sx_skip, sx_ops, sx_seq, sx_cond, sx_block, sx_exit, sx_ret, sx_mcall, sx_mcell, sx_mset, elAt, setEl, isLst, cellsOf, sxl_nil, sxl_set, sxl_call, sxl_callv, sxl_g1, sxl_g2, sxl_g3, sxl_g4, OkS_true, GrdS_tt, GrdS_tf, GrdS_ft, GrdS_ff, CondS_t, CondS_f, then_n, then_e, then_r, blk_n, blk_e, blk_r, upd_app, Ex.ok, Ex.val, Opd.val, POp.dst, bin_int, binOK_int, bin_str, binOK_str, resOK, resV, RB.val, sub, putc, scB, scL, oneB, conf, Ex.val.eqP, Ex.val.eqL, negV, mxV, mnV, ← wr_eq, wr_zero, wr_one, wr_m1, bst_lst, byteC, partsOK, putAll, appV, nilV, slV, sslV, optB, optNum, and_assoc, exists_and_left, exists_eq_left', iv, *]) | refine CondS_d (fun h => ?_) (fun h => ?_) | refine CondS_b (fun h => ?_) (fun h => ?_) | refine GrdS_d (fun h => ?_) (fun h => ?_) | refine GrdS_b (fun h => ?_) (fun h => ?_) | refine OkS_i (by omega) ?_ | fail)
    all_goals omega
  · have : n = x.f3.size := by omega
    subst this
    have hL := dgL_len x x.f3.size
    obtain ⟨L, hLe⟩ : ∃ L, dgL x x.f3.size = L := ⟨_, rfl⟩
    rw [hLe] at h5 hL hD
    by_cases hk : x.f1 = 1
    · have h0l := wFeat_pt hf hk
      have h0p : 0 < x.f4.length := by omega
      rw [if_pos hk] at hD
      rw [parts_pt hk] at hp
      obtain ⟨p, hpe⟩ : ∃ p, x.f4[0] = p := ⟨_, rfl⟩
      have hpg : x.f4.getD 0 ⟨0, 0⟩ = p := by simp [h0p, hpe]
      rw [hpg] at hD
      have hh := f165 (L ++ [part, p.f0, p.f1]) false (by simp; omega)
      rw [hk] at h2 hp
      by_cases hz : part = 0
      · rw [if_pos hz] at hD
        rw [hD] at hh
        subst hz
        simp [iv] at hh
        repeat' (first | intro _ | (simp [sx_skip, sx_ops, sx_seq, sx_cond, sx_block, sx_exit, sx_ret, sx_mcall, sx_mcell, sx_mset, elAt, setEl, isLst, cellsOf, sxl_nil, sxl_set, sxl_call, sxl_callv, sxl_g1, sxl_g2, sxl_g3, sxl_g4, OkS_true, GrdS_tt, GrdS_tf, GrdS_ft, GrdS_ff, CondS_t, CondS_f, then_n, then_e, then_r, blk_n, blk_e, blk_r, upd_app, Ex.ok, Ex.val, Opd.val, POp.dst, bin_int, binOK_int, bin_str, binOK_str, resOK, resV, RB.val, sub, putc, scB, scL, oneB, conf, Ex.val.eqP, Ex.val.eqL, negV, mxV, mnV, ← wr_eq, wr_zero, wr_one, wr_m1, bst_lst, byteC, partsOK, putAll, appV, nilV, slV, sslV, optB, optNum, and_assoc, exists_and_left, exists_eq_left', iv, cp, *]) | refine CallS_i (hp) ?_ | refine CallS_i (hh) ?_ | refine CondS_d (fun h => ?_) (fun h => ?_) | refine CondS_b (fun h => ?_) (fun h => ?_) | refine GrdS_d (fun h => ?_) (fun h => ?_) | refine GrdS_b (fun h => ?_) (fun h => ?_) | refine OkS_i (by omega) ?_ | fail)
        all_goals omega
      · rw [if_neg hz] at hD
        subst hD
        repeat' (first | intro _ | (simp [sx_skip, sx_ops, sx_seq, sx_cond, sx_block, sx_exit, sx_ret, sx_mcall, sx_mcell, sx_mset, elAt, setEl, isLst, cellsOf, sxl_nil, sxl_set, sxl_call, sxl_callv, sxl_g1, sxl_g2, sxl_g3, sxl_g4, OkS_true, GrdS_tt, GrdS_tf, GrdS_ft, GrdS_ff, CondS_t, CondS_f, then_n, then_e, then_r, blk_n, blk_e, blk_r, upd_app, Ex.ok, Ex.val, Opd.val, POp.dst, bin_int, binOK_int, bin_str, binOK_str, resOK, resV, RB.val, sub, putc, scB, scL, oneB, conf, Ex.val.eqP, Ex.val.eqL, negV, mxV, mnV, ← wr_eq, wr_zero, wr_one, wr_m1, bst_lst, byteC, partsOK, putAll, appV, nilV, slV, sslV, optB, optNum, and_assoc, exists_and_left, exists_eq_left', iv, cp, *]) | refine CallS_i (hp) ?_ | refine CondS_d (fun h => ?_) (fun h => ?_) | refine CondS_b (fun h => ?_) (fun h => ?_) | refine GrdS_d (fun h => ?_) (fun h => ?_) | refine GrdS_b (fun h => ?_) (fun h => ?_) | refine OkS_i (by omega) ?_ | fail)
        all_goals omega
    · rw [if_neg hk] at hD
      have hws : wr .i64 (((parts x).length : Int) - 1) = (parts x).length - 1 := wr_in (by omega) (by omega)
      by_cases hr : 0 ≤ part ∧ part < (parts x).length
      · rw [if_pos hr] at hD
        obtain ⟨k, rfl⟩ : ∃ k : Nat, part = k := ⟨part.toNat, by omega⟩
        have hkl : k < (parts x).length := by omega
        obtain ⟨S, hSe⟩ : ∃ S, (parts x)[k] = S := ⟨_, rfl⟩
        have hSg : (parts x).getD (k : Int).toNat ⟨⟨0, 0⟩, ⟨0, 0⟩⟩ = S := by simp [hkl, hSe]
        rw [hSg] at hD
        have hh := f165 (L ++ (k : Int) :: sg4 S) false (by simp [sg4]; omega)
        rw [hD] at hh
        simp [iv, sg4] at hh
        repeat' (first | intro _ | (simp [sx_skip, sx_ops, sx_seq, sx_cond, sx_block, sx_exit, sx_ret, sx_mcall, sx_mcell, sx_mset, elAt, setEl, isLst, cellsOf, sxl_nil, sxl_set, sxl_call, sxl_callv, sxl_g1, sxl_g2, sxl_g3, sxl_g4, OkS_true, GrdS_tt, GrdS_tf, GrdS_ft, GrdS_ff, CondS_t, CondS_f, then_n, then_e, then_r, blk_n, blk_e, blk_r, upd_app, Ex.ok, Ex.val, Opd.val, POp.dst, bin_int, binOK_int, bin_str, binOK_str, resOK, resV, RB.val, sub, putc, scB, scL, oneB, conf, Ex.val.eqP, Ex.val.eqL, negV, mxV, mnV, ← wr_eq, wr_zero, wr_one, wr_m1, bst_lst, byteC, partsOK, putAll, appV, nilV, slV, sslV, optB, optNum, and_assoc, exists_and_left, exists_eq_left', iv, cs, *]) | refine CallS_i (hp) ?_ | refine CallS_i (hh) ?_ | refine CondS_d (fun h => ?_) (fun h => ?_) | refine CondS_b (fun h => ?_) (fun h => ?_) | refine GrdS_d (fun h => ?_) (fun h => ?_) | refine GrdS_b (fun h => ?_) (fun h => ?_) | refine OkS_i (by omega) ?_ | fail)
        all_goals omega
      · rw [if_neg hr] at hD
        subst hD
        repeat' (first | intro _ | (simp [sx_skip, sx_ops, sx_seq, sx_cond, sx_block, sx_exit, sx_ret, sx_mcall, sx_mcell, sx_mset, elAt, setEl, isLst, cellsOf, sxl_nil, sxl_set, sxl_call, sxl_callv, sxl_g1, sxl_g2, sxl_g3, sxl_g4, OkS_true, GrdS_tt, GrdS_tf, GrdS_ft, GrdS_ff, CondS_t, CondS_f, then_n, then_e, then_r, blk_n, blk_e, blk_r, upd_app, Ex.ok, Ex.val, Opd.val, POp.dst, bin_int, binOK_int, bin_str, binOK_str, resOK, resV, RB.val, sub, putc, scB, scL, oneB, conf, Ex.val.eqP, Ex.val.eqL, negV, mxV, mnV, ← wr_eq, wr_zero, wr_one, wr_m1, bst_lst, byteC, partsOK, putAll, appV, nilV, slV, sslV, optB, optNum, and_assoc, exists_and_left, exists_eq_left', iv, cs, *]) | refine CallS_i (hp) ?_ | refine CondS_d (fun h => ?_) (fun h => ?_) | refine CondS_b (fun h => ?_) (fun h => ?_) | refine GrdS_d (fun h => ?_) (fun h => ?_) | refine GrdS_b (fun h => ?_) (fun h => ?_) | refine OkS_i (by omega) ?_ | fail)
        all_goals omega
end Go.Eng
namespace Go.Eng
open Go Go.Proofs Geo
set_option linter.unusedSimpArgs false
set_option linter.unusedVariables false
set_option maxRecDepth 20000
set_option maxHeartbeats 1000000

theorem firstFrom_none {ok : Nat → Bool} : ∀ d n : Nat, firstFrom ok d n = -1 → ∀ j, n ≤ j → j < n + d → ok j = false
  | 0, n, _, j, h1, h2 => by omega
  | d + 1, n, h, j, h1, h2 => by
    unfold firstFrom at h
    split at h
    · omega
    · rename_i hne
      rcases Nat.lt_or_ge n j with h3 | h3
      · exact firstFrom_none d (n + 1) h j (by omega) (by omega)
      · obtain rfl : j = n := by omega
        simpa using hne
theorem find_some {l : List Ft} {id : Int} {j : Nat} (hj : j < l.length) (h : l[j].f0 = id) : ∃ k : Nat, wFind l id = k ∧ k < l.length := by
  rcases find_cases l id with h1 | h1
  · have := firstFrom_none _ _ h1 j (by omega) (by omega)
    simp [hasId, hj, h] at this
  · exact h1
theorem pcsTo_id {l : List Ft} : ∀ n : Nat, n ≤ l.length → ∀ p ∈ pcsTo l n, ∃ j : Nat, ∃ hj : j < l.length, l[j].f0 = p.f0
  | 0, _, p, hp => by simp [pcsTo] at hp
  | n + 1, hn, p, hp => by
    unfold pcsTo at hp
    rcases List.mem_append.1 hp with h | h
    · exact pcsTo_id n (by omega) p h
    · unfold pcs upTo at h
      obtain ⟨k, _, rfl⟩ := List.mem_map.1 h
      have hn' : n < l.length := by omega
      exact ⟨n, hn', by simp [pcAt, hn']⟩
theorem pieces_find {l : List Ft} {k : Nat} (hk : k < (pieces l).length) : ∃ j : Nat, wFind l (pieces l)[k].f0 = j ∧ j < l.length := by
  have hm : (pieces l)[k] ∈ pieces l := List.getElem_mem hk
  have hm2 : ∀ q ∈ pieces l, q ∈ pcsTo l l.length := by
    intro q hq
    unfold pieces at hq
    split at hq
    · exact hq
    · simp at hq
  have hm2 := hm2 _ hm
  obtain ⟨j, hj, h⟩ := pcsTo_id l.length (Nat.le_refl _) _ hm2
  exact find_some hj h
theorem pieces_len (l : List Ft) : (pieces l).length ≤ 160 := by
  unfold pieces
  split
  · rename_i h; have := wSrc_len h; have := pcsTo_len l l.length; omega
  · simp
def dgAt (l : List Ft) (P : List Pt) (k : Nat) : Int := dig (l.getD (wFind l (P.getD k ⟨0, 0⟩).f0).toNat ftD) (P.getD k ⟨0, 0⟩).f1
def slOf (before tick : Int) (l : List Ft) : Int := hsh ([before, tick] ++ upTo (dgAt l (pieces l)) (pieces l).length)
theorem f126 (before tick : Int) (l : List Ft) (n1 : Bool) (hl : l.length ≤ 1000000000000) (hb : ∀ x ∈ l, x.okay) : Fn Try.prog 126 false [i before, i tick, .lst 5 n1 (l.map ft)] (i (slOf before tick l)) := by
  have hp := f162 l n1 hl hb
  have hpl := pieces_len l
  have hfi := fun k hk => pieces_find (l := l) (k := k) hk
  obtain ⟨S, hS⟩ : ∃ S, slOf before tick l = S := ⟨_, rfl⟩
  rw [hS]
  unfold slOf at hS
  obtain ⟨P, hPe⟩ : ∃ P, pieces l = P := ⟨_, rfl⟩
  rw [hPe] at hp hpl hS
  have hfi' : ∀ k (hk : k < P.length), ∃ j : Nat, wFind l P[k].f0 = j ∧ j < l.length := by subst hPe; exact hfi
  clear hfi hPe
  refine Fn.by_sx hX (by kernel_rfl) c126 (by kernel_rfl) (by rfl) ?_
  simp [i126, sx_skip, sx_ops, sx_seq, sx_cond, sx_block, sx_exit, sx_ret, sx_mcall, sx_mcell, sx_mset, elAt, setEl, isLst, cellsOf, sxl_nil, sxl_set, sxl_call, sxl_callv, sxl_g1, sxl_g2, sxl_g3, sxl_g4, OkS_true, GrdS_tt, GrdS_tf, GrdS_ft, GrdS_ff, CondS_t, CondS_f, then_n, then_e, then_r, blk_n, blk_e, blk_r, upd_app, Ex.ok, Ex.val, Opd.val, POp.dst, bin_int, binOK_int, bin_str, binOK_str, resOK, resV, RB.val, sub, putc, scB, scL, oneB, conf, Ex.val.eqP, Ex.val.eqL, negV, mxV, mnV, ← wr_eq, wr_zero, wr_one, wr_m1, bst_lst, byteC, partsOK, putAll, appV, nilV, slV, sslV, optB, optNum, and_assoc, exists_and_left, exists_eq_left']
  repeat' (first | intro _ | (simp [sx_skip, sx_ops, sx_seq, sx_cond, sx_block, sx_exit, sx_ret, sx_mcall, sx_mcell, sx_mset, elAt, setEl, isLst, cellsOf, sxl_nil, sxl_set, sxl_call, sxl_callv, sxl_g1, sxl_g2, sxl_g3, sxl_g4, OkS_true, GrdS_tt, GrdS_tf, GrdS_ft, GrdS_ff, CondS_t, CondS_f, then_n, then_e, then_r, blk_n, blk_e, blk_r, upd_app, Ex.ok, Ex.val, Opd.val, POp.dst, bin_int, binOK_int, bin_str, binOK_str, resOK, resV, RB.val, sub, putc, scB, scL, oneB, conf, Ex.val.eqP, Ex.val.eqL, negV, mxV, mnV, ← wr_eq, wr_zero, wr_one, wr_m1, bst_lst, byteC, partsOK, putAll, appV, nilV, slV, sslV, optB, optNum, and_assoc, exists_and_left, exists_eq_left', *]) | refine CallS_i (hp) ?_ | refine CondS_d (fun h => ?_) (fun h => ?_) | refine CondS_b (fun h => ?_) (fun h => ?_) | refine GrdS_d (fun h => ?_) (fun h => ?_) | refine GrdS_b (fun h => ?_) (fun h => ?_) | refine OkS_i (by omega) ?_ | fail)
  refine sx_count P.length (fun n V => V 2 = .lst 5 n1 (l.map ft) ∧ V 8 = .lst 2 false (P.map cp) ∧ V 9 = i n ∧ V 7 = .lst 1 false (([before, tick] ++ upTo (dgAt l P) n).map iv)) 0 (by omega) (by simp [sx_skip, sx_ops, sx_seq, sx_cond, sx_block, sx_exit, sx_ret, sx_mcall, sx_mcell, sx_mset, elAt, setEl, isLst, cellsOf, sxl_nil, sxl_set, sxl_call, sxl_callv, sxl_g1, sxl_g2, sxl_g3, sxl_g4, OkS_true, GrdS_tt, GrdS_tf, GrdS_ft, GrdS_ff, CondS_t, CondS_f, then_n, then_e, then_r, blk_n, blk_e, blk_r, upd_app, Ex.ok, Ex.val, Opd.val, POp.dst, bin_int, binOK_int, bin_str, binOK_str, resOK, resV, RB.val, sub, putc, scB, scL, oneB, conf, Ex.val.eqP, Ex.val.eqL, negV, mxV, mnV, ← wr_eq, wr_zero, wr_one, wr_m1, bst_lst, byteC, partsOK, putAll, appV, nilV, slV, sslV, optB, optNum, and_assoc, exists_and_left, exists_eq_left', upTo_zero, iv]) ?_
  rintro n V hn ⟨h2, h8, h9, h7⟩
  have hw : wr .i64 ((n : Int) + 1) = n + 1 := wr_in (by omega) (by omega)
  simp [sx_skip, sx_ops, sx_seq, sx_cond, sx_block, sx_exit, sx_ret, sx_mcall, sx_mcell, sx_mset, elAt, setEl, isLst, cellsOf, sxl_nil, sxl_set, sxl_call, sxl_callv, sxl_g1, sxl_g2, sxl_g3, sxl_g4, OkS_true, GrdS_tt, GrdS_tf, GrdS_ft, GrdS_ff, CondS_t, CondS_f, then_n, then_e, then_r, blk_n, blk_e, blk_r, upd_app, Ex.ok, Ex.val, Opd.val, POp.dst, bin_int, binOK_int, bin_str, binOK_str, resOK, resV, RB.val, sub, putc, scB, scL, oneB, conf, Ex.val.eqP, Ex.val.eqL, negV, mxV, mnV, ← wr_eq, wr_zero, wr_one, wr_m1, bst_lst, byteC, partsOK, putAll, appV, nilV, slV, sslV, optB, optNum, and_assoc, exists_and_left, exists_eq_left', h8, h9]
  refine CondS_d (fun hlt => ?_) (fun hge => ?_)
  · have hlt' : n < P.length := by omega
    obtain ⟨k, hk, hkl⟩ := hfi' n hlt'
    obtain ⟨p, hpe⟩ : ∃ p, P[n] = p := ⟨_, rfl⟩
    rw [hpe] at hk
    have hc := f111 l n1 p.f0 hl
    rw [hk] at hc
    have hd := f163 l[k] p.f1 (hb _ (List.getElem_mem ..))
    have hda : dgAt l P n = dig l[k] p.f1 := by unfold dgAt; simp [hlt', hpe, hk, hkl]
    obtain ⟨d, hde⟩ : ∃ d, dig l[k] p.f1 = d := ⟨_, rfl⟩
    rw [hde] at hd hda
    have hup : upTo (dgAt l P) (n + 1) = upTo (dgAt l P) n ++ [d] := by rw [upTo_succ, hda]
    have hul : (upTo (dgAt l P) n).length = n := upTo_length
    clear hde hda
    repeat' (first | intro _ | (simp [sx_skip, sx_ops, sx_seq, sx_cond, sx_block, sx_exit, sx_ret, sx_mcall, sx_mcell, sx_mset, elAt, setEl, isLst, cellsOf, sxl_nil, sxl_set, sxl_call, sxl_callv, sxl_g1, sxl_g2, sxl_g3, sxl_g4, OkS_true, GrdS_tt, GrdS_tf, GrdS_ft, GrdS_ff, CondS_t, CondS_f, then_n, then_e, then_r, blk_n, blk_e, blk_r, upd_app, Ex.ok, Ex.val, Opd.val, POp.dst, bin_int, binOK_int, bin_str, binOK_str, resOK, resV, RB.val, sub, putc, scB, scL, oneB, conf, Ex.val.eqP, Ex.val.eqL, negV, mxV, mnV, ← wr_eq, wr_zero, wr_one, wr_m1, bst_lst, byteC, partsOK, putAll, appV, nilV, slV, sslV, optB, optNum, and_assoc, exists_and_left, exists_eq_left', cp, iv, *]) | refine CallS_i (hc) ?_ | refine CallS_i (hd) ?_ | refine CondS_d (fun h => ?_) (fun h => ?_) | refine CondS_b (fun h => ?_) (fun h => ?_) | refine GrdS_d (fun h => ?_) (fun h => ?_) | refine GrdS_b (fun h => ?_) (fun h => ?_) | refine OkS_i (by omega) ?_ | fail)
    all_goals omega
  · have : n = P.length := by omega
    subst this
    have hul : (upTo (dgAt l P) P.length).length = P.length := upTo_length
    have hh := f164 ([before, tick] ++ upTo (dgAt l P) P.length) false (by simp; omega)
    rw [hS] at hh
    simp [iv] at hh h7
    repeat' (first | intro _ | (simp [sx_skip, sx_ops, sx_seq, sx_cond, sx_block, sx_exit, sx_ret, sx_mcall, sx_mcell, sx_mset, elAt, setEl, isLst, cellsOf, sxl_nil, sxl_set, sxl_call, sxl_callv, sxl_g1, sxl_g2, sxl_g3, sxl_g4, OkS_true, GrdS_tt, GrdS_tf, GrdS_ft, GrdS_ff, CondS_t, CondS_f, then_n, then_e, then_r, blk_n, blk_e, blk_r, upd_app, Ex.ok, Ex.val, Opd.val, POp.dst, bin_int, binOK_int, bin_str, binOK_str, resOK, resV, RB.val, sub, putc, scB, scL, oneB, conf, Ex.val.eqP, Ex.val.eqL, negV, mxV, mnV, ← wr_eq, wr_zero, wr_one, wr_m1, bst_lst, byteC, partsOK, putAll, appV, nilV, slV, sslV, optB, optNum, and_assoc, exists_and_left, exists_eq_left', *]) | refine CallS_i (hh) ?_ | refine CondS_d (fun h => ?_) (fun h => ?_) | refine CondS_b (fun h => ?_) (fun h => ?_) | refine GrdS_d (fun h => ?_) (fun h => ?_) | refine GrdS_b (fun h => ?_) (fun h => ?_) | refine OkS_i (by omega) ?_ | fail)
theorem f166 (l : List Ft) (n1 : Bool) (P : List Pt) (hl : l.length ≤ 1000000000000) (hb : ∀ x ∈ l, x.okay) (hpl : P.length ≤ 160) (hfi' : ∀ k (hk : k < P.length), ∃ j : Nat, wFind l P[k].f0 = j ∧ j < l.length) : Fn Try.prog 166 true [.lst 5 n1 (l.map ft), .lst 2 false (P.map cp)] (.lst 1 false ((upTo (dgAt l P) P.length).map iv)) := by
  refine Fn.by_sx hX (by kernel_rfl) c166 (by kernel_rfl) (by rfl) ?_
  simp [i166, sx_skip, sx_ops, sx_seq, sx_cond, sx_block, sx_exit, sx_ret, sx_mcall, sx_mcell, sx_mset, elAt, setEl, isLst, cellsOf, sxl_nil, sxl_set, sxl_call, sxl_callv, sxl_g1, sxl_g2, sxl_g3, sxl_g4, OkS_true, GrdS_tt, GrdS_tf, GrdS_ft, GrdS_ff, CondS_t, CondS_f, then_n, then_e, then_r, blk_n, blk_e, blk_r, upd_app, Ex.ok, Ex.val, Opd.val, POp.dst, bin_int, binOK_int, bin_str, binOK_str, resOK, resV, RB.val, sub, putc, scB, scL, oneB, conf, Ex.val.eqP, Ex.val.eqL, negV, mxV, mnV, ← wr_eq, wr_zero, wr_one, wr_m1, bst_lst, byteC, partsOK, putAll, appV, nilV, slV, sslV, optB, optNum, and_assoc, exists_and_left, exists_eq_left']
  refine sx_count P.length (fun n V => V 0 = .lst 5 n1 (l.map ft) ∧ V 9 = .lst 2 false (P.map cp) ∧ V 10 = i P.length ∧ V 11 = i n ∧ V 5 = .lst 1 false ((upTo (dgAt l P) n).map iv)) 0 (by omega) (by simp [sx_skip, sx_ops, sx_seq, sx_cond, sx_block, sx_exit, sx_ret, sx_mcall, sx_mcell, sx_mset, elAt, setEl, isLst, cellsOf, sxl_nil, sxl_set, sxl_call, sxl_callv, sxl_g1, sxl_g2, sxl_g3, sxl_g4, OkS_true, GrdS_tt, GrdS_tf, GrdS_ft, GrdS_ff, CondS_t, CondS_f, then_n, then_e, then_r, blk_n, blk_e, blk_r, upd_app, Ex.ok, Ex.val, Opd.val, POp.dst, bin_int, binOK_int, bin_str, binOK_str, resOK, resV, RB.val, sub, putc, scB, scL, oneB, conf, Ex.val.eqP, Ex.val.eqL, negV, mxV, mnV, ← wr_eq, wr_zero, wr_one, wr_m1, bst_lst, byteC, partsOK, putAll, appV, nilV, slV, sslV, optB, optNum, and_assoc, exists_and_left, exists_eq_left', upTo_zero, iv]) ?_
  rintro n V hn ⟨h0, h9, h10, h11, h5⟩
  have hw : wr .i64 ((n : Int) + 1) = n + 1 := wr_in (by omega) (by omega)
  simp [sx_skip, sx_ops, sx_seq, sx_cond, sx_block, sx_exit, sx_ret, sx_mcall, sx_mcell, sx_mset, elAt, setEl, isLst, cellsOf, sxl_nil, sxl_set, sxl_call, sxl_callv, sxl_g1, sxl_g2, sxl_g3, sxl_g4, OkS_true, GrdS_tt, GrdS_tf, GrdS_ft, GrdS_ff, CondS_t, CondS_f, then_n, then_e, then_r, blk_n, blk_e, blk_r, upd_app, Ex.ok, Ex.val, Opd.val, POp.dst, bin_int, binOK_int, bin_str, binOK_str, resOK, resV, RB.val, sub, putc, scB, scL, oneB, conf, Ex.val.eqP, Ex.val.eqL, negV, mxV, mnV, ← wr_eq, wr_zero, wr_one, wr_m1, bst_lst, byteC, partsOK, putAll, appV, nilV, slV, sslV, optB, optNum, and_assoc, exists_and_left, exists_eq_left', h10, h11]
  refine CondS_d (fun hlt => ?_) (fun hge => ?_)
  · have hlt' : n < P.length := by omega
    obtain ⟨k, hk, hkl⟩ := hfi' n hlt'
    obtain ⟨p, hpe⟩ : ∃ p, P[n] = p := ⟨_, rfl⟩
    rw [hpe] at hk
    have hc := f113 l n1 p.f0 hl
    rw [hk] at hc
    have hd := f201 l[k] p.f1 (hb _ (List.getElem_mem ..))
    have hda : dgAt l P n = dig l[k] p.f1 := by unfold dgAt; simp [hlt', hpe, hk, hkl]
    obtain ⟨d, hde⟩ : ∃ d, dig l[k] p.f1 = d := ⟨_, rfl⟩
    rw [hde] at hd hda
    have hup : upTo (dgAt l P) (n + 1) = upTo (dgAt l P) n ++ [d] := by rw [upTo_succ, hda]
    have hul : (upTo (dgAt l P) n).length = n := upTo_length
    clear hde hda
    repeat' (first | intro _ | (simp [sx_skip, sx_ops, sx_seq, sx_cond, sx_block, sx_exit, sx_ret, sx_mcall, sx_mcell, sx_mset, elAt, setEl, isLst, cellsOf, sxl_nil, sxl_set, sxl_call, sxl_callv, sxl_g1, sxl_g2, sxl_g3, sxl_g4, OkS_true, GrdS_tt, GrdS_tf, GrdS_ft, GrdS_ff, CondS_t, CondS_f, then_n, then_e, then_r, blk_n, blk_e, blk_r, upd_app, Ex.ok, Ex.val, Opd.val, POp.dst, bin_int, binOK_int, bin_str, binOK_str, resOK, resV, RB.val, sub, putc, scB, scL, oneB, conf, Ex.val.eqP, Ex.val.eqL, negV, mxV, mnV, ← wr_eq, wr_zero, wr_one, wr_m1, bst_lst, byteC, partsOK, putAll, appV, nilV, slV, sslV, optB, optNum, and_assoc, exists_and_left, exists_eq_left', cp, iv, *]) | refine CallS_i (hc) ?_ | refine CallS_i (hd) ?_ | refine CondS_d (fun h => ?_) (fun h => ?_) | refine CondS_b (fun h => ?_) (fun h => ?_) | refine GrdS_d (fun h => ?_) (fun h => ?_) | refine GrdS_b (fun h => ?_) (fun h => ?_) | refine OkS_i (by omega) ?_ | fail)
    all_goals omega
  · have : n = P.length := by omega
    subst this
    repeat' (first | intro _ | (simp [sx_skip, sx_ops, sx_seq, sx_cond, sx_block, sx_exit, sx_ret, sx_mcall, sx_mcell, sx_mset, elAt, setEl, isLst, cellsOf, sxl_nil, sxl_set, sxl_call, sxl_callv, sxl_g1, sxl_g2, sxl_g3, sxl_g4, OkS_true, GrdS_tt, GrdS_tf, GrdS_ft, GrdS_ff, CondS_t, CondS_f, then_n, then_e, then_r, blk_n, blk_e, blk_r, upd_app, Ex.ok, Ex.val, Opd.val, POp.dst, bin_int, binOK_int, bin_str, binOK_str, resOK, resV, RB.val, sub, putc, scB, scL, oneB, conf, Ex.val.eqP, Ex.val.eqL, negV, mxV, mnV, ← wr_eq, wr_zero, wr_one, wr_m1, bst_lst, byteC, partsOK, putAll, appV, nilV, slV, sslV, optB, optNum, and_assoc, exists_and_left, exists_eq_left', *]) | refine CondS_d (fun h => ?_) (fun h => ?_) | refine CondS_b (fun h => ?_) (fun h => ?_) | refine GrdS_d (fun h => ?_) (fun h => ?_) | refine GrdS_b (fun h => ?_) (fun h => ?_) | refine OkS_i (by omega) ?_ | fail)
theorem f167 (l : List Ft) (n1 : Bool) (hl : l.length ≤ 1000000000000) (hb : ∀ x ∈ l, x.okay) : Fn Try.prog 167 true [.lst 5 n1 (l.map ft)] (.lst 2 false ((pieces l).map cp)) := by
  have hsrc := f40 l n1 hl hb
  refine Fn.by_sx hX (by kernel_rfl) c167 (by kernel_rfl) (by rfl) ?_
  simp [i167, sx_skip, sx_ops, sx_seq, sx_cond, sx_block, sx_exit, sx_ret, sx_mcall, sx_mcell, sx_mset, elAt, setEl, isLst, cellsOf, sxl_nil, sxl_set, sxl_call, sxl_callv, sxl_g1, sxl_g2, sxl_g3, sxl_g4, OkS_true, GrdS_tt, GrdS_tf, GrdS_ft, GrdS_ff, CondS_t, CondS_f, then_n, then_e, then_r, blk_n, blk_e, blk_r, upd_app, Ex.ok, Ex.val, Opd.val, POp.dst, bin_int, binOK_int, bin_str, binOK_str, resOK, resV, RB.val, sub, putc, scB, scL, oneB, conf, Ex.val.eqP, Ex.val.eqL, negV, mxV, mnV, ← wr_eq, wr_zero, wr_one, wr_m1, bst_lst, byteC, partsOK, putAll, appV, nilV, slV, sslV, optB, optNum, and_assoc, exists_and_left, exists_eq_left']
  by_cases hs : wSrc l = true
  · rw [hs] at hsrc
    have hlen := wSrc_len hs
    have hp : pieces l = pcsTo l l.length := by unfold pieces; rw [if_pos hs]
    rw [hp]
    repeat' (first | intro _ | (simp [sx_skip, sx_ops, sx_seq, sx_cond, sx_block, sx_exit, sx_ret, sx_mcall, sx_mcell, sx_mset, elAt, setEl, isLst, cellsOf, sxl_nil, sxl_set, sxl_call, sxl_callv, sxl_g1, sxl_g2, sxl_g3, sxl_g4, OkS_true, GrdS_tt, GrdS_tf, GrdS_ft, GrdS_ff, CondS_t, CondS_f, then_n, then_e, then_r, blk_n, blk_e, blk_r, upd_app, Ex.ok, Ex.val, Opd.val, POp.dst, bin_int, binOK_int, bin_str, binOK_str, resOK, resV, RB.val, sub, putc, scB, scL, oneB, conf, Ex.val.eqP, Ex.val.eqL, negV, mxV, mnV, ← wr_eq, wr_zero, wr_one, wr_m1, bst_lst, byteC, partsOK, putAll, appV, nilV, slV, sslV, optB, optNum, and_assoc, exists_and_left, exists_eq_left', *]) | refine CallS_i (hsrc) ?_ | refine CondS_d (fun h => ?_) (fun h => ?_) | refine CondS_b (fun h => ?_) (fun h => ?_) | refine GrdS_d (fun h => ?_) (fun h => ?_) | refine GrdS_b (fun h => ?_) (fun h => ?_) | refine OkS_i (by omega) ?_ | fail)
    refine sx_count l.length (fun n V => V 11 = .lst 5 n1 (l.map ft) ∧ V 12 = i l.length ∧ V 13 = i n ∧ V 3 = .lst 2 false ((pcsTo l n).map cp)) 0 (by omega) (by simp [sx_skip, sx_ops, sx_seq, sx_cond, sx_block, sx_exit, sx_ret, sx_mcall, sx_mcell, sx_mset, elAt, setEl, isLst, cellsOf, sxl_nil, sxl_set, sxl_call, sxl_callv, sxl_g1, sxl_g2, sxl_g3, sxl_g4, OkS_true, GrdS_tt, GrdS_tf, GrdS_ft, GrdS_ff, CondS_t, CondS_f, then_n, then_e, then_r, blk_n, blk_e, blk_r, upd_app, Ex.ok, Ex.val, Opd.val, POp.dst, bin_int, binOK_int, bin_str, binOK_str, resOK, resV, RB.val, sub, putc, scB, scL, oneB, conf, Ex.val.eqP, Ex.val.eqL, negV, mxV, mnV, ← wr_eq, wr_zero, wr_one, wr_m1, bst_lst, byteC, partsOK, putAll, appV, nilV, slV, sslV, optB, optNum, and_assoc, exists_and_left, exists_eq_left', pcsTo]) ?_
    rintro n V hn ⟨h11, h12, h13, h3⟩
    have hw : wr .i64 ((n : Int) + 1) = n + 1 := wr_in (by omega) (by omega)
    simp [sx_skip, sx_ops, sx_seq, sx_cond, sx_block, sx_exit, sx_ret, sx_mcall, sx_mcell, sx_mset, elAt, setEl, isLst, cellsOf, sxl_nil, sxl_set, sxl_call, sxl_callv, sxl_g1, sxl_g2, sxl_g3, sxl_g4, OkS_true, GrdS_tt, GrdS_tf, GrdS_ft, GrdS_ff, CondS_t, CondS_f, then_n, then_e, then_r, blk_n, blk_e, blk_r, upd_app, Ex.ok, Ex.val, Opd.val, POp.dst, bin_int, binOK_int, bin_str, binOK_str, resOK, resV, RB.val, sub, putc, scB, scL, oneB, conf, Ex.val.eqP, Ex.val.eqL, negV, mxV, mnV, ← wr_eq, wr_zero, wr_one, wr_m1, bst_lst, byteC, partsOK, putAll, appV, nilV, slV, sslV, optB, optNum, and_assoc, exists_and_left, exists_eq_left', h12, h13]
    refine CondS_d (fun hlt => ?_) (fun hge => ?_)
    · have hlt' : n < l.length := by omega
      have hok : l[n].okay := hb _ (List.getElem_mem ..)
      have hc := f202 l[n] hok
      have hbl := pcsTo_len l n
      have hpn : (pcs l[n]).length ≤ 10 := by unfold pcs; rw [upTo_length]; exact nPc_le _
      have hnx : pcsTo l (n + 1) = pcsTo l n ++ pcs l[n] := by simp [pcsTo, hlt']
      repeat' (first | intro _ | (simp [sx_skip, sx_ops, sx_seq, sx_cond, sx_block, sx_exit, sx_ret, sx_mcall, sx_mcell, sx_mset, elAt, setEl, isLst, cellsOf, sxl_nil, sxl_set, sxl_call, sxl_callv, sxl_g1, sxl_g2, sxl_g3, sxl_g4, OkS_true, GrdS_tt, GrdS_tf, GrdS_ft, GrdS_ff, CondS_t, CondS_f, then_n, then_e, then_r, blk_n, blk_e, blk_r, upd_app, Ex.ok, Ex.val, Opd.val, POp.dst, bin_int, binOK_int, bin_str, binOK_str, resOK, resV, RB.val, sub, putc, scB, scL, oneB, conf, Ex.val.eqP, Ex.val.eqL, negV, mxV, mnV, ← wr_eq, wr_zero, wr_one, wr_m1, bst_lst, byteC, partsOK, putAll, appV, nilV, slV, sslV, optB, optNum, and_assoc, exists_and_left, exists_eq_left', ft, *]) | refine CallS_i (hc) ?_ | refine CondS_d (fun h => ?_) (fun h => ?_) | refine CondS_b (fun h => ?_) (fun h => ?_) | refine GrdS_d (fun h => ?_) (fun h => ?_) | refine GrdS_b (fun h => ?_) (fun h => ?_) | refine OkS_i (by omega) ?_ | fail)
      all_goals omega
    · have : n = l.length := by omega
      subst this
      repeat' (first | intro _ | (simp [sx_skip, sx_ops, sx_seq, sx_cond, sx_block, sx_exit, sx_ret, sx_mcall, sx_mcell, sx_mset, elAt, setEl, isLst, cellsOf, sxl_nil, sxl_set, sxl_call, sxl_callv, sxl_g1, sxl_g2, sxl_g3, sxl_g4, OkS_true, GrdS_tt, GrdS_tf, GrdS_ft, GrdS_ff, CondS_t, CondS_f, then_n, then_e, then_r, blk_n, blk_e, blk_r, upd_app, Ex.ok, Ex.val, Opd.val, POp.dst, bin_int, binOK_int, bin_str, binOK_str, resOK, resV, RB.val, sub, putc, scB, scL, oneB, conf, Ex.val.eqP, Ex.val.eqL, negV, mxV, mnV, ← wr_eq, wr_zero, wr_one, wr_m1, bst_lst, byteC, partsOK, putAll, appV, nilV, slV, sslV, optB, optNum, and_assoc, exists_and_left, exists_eq_left', *]) | refine CondS_d (fun h => ?_) (fun h => ?_) | refine CondS_b (fun h => ?_) (fun h => ?_) | refine GrdS_d (fun h => ?_) (fun h => ?_) | refine GrdS_b (fun h => ?_) (fun h => ?_) | refine OkS_i (by omega) ?_ | fail)
  · have hs : wSrc l = false := by simpa using hs
    rw [hs] at hsrc
    have hp : pieces l = [] := by unfold pieces; rw [hs]; rfl
    rw [hp]
    repeat' (first | intro _ | (simp [sx_skip, sx_ops, sx_seq, sx_cond, sx_block, sx_exit, sx_ret, sx_mcall, sx_mcell, sx_mset, elAt, setEl, isLst, cellsOf, sxl_nil, sxl_set, sxl_call, sxl_callv, sxl_g1, sxl_g2, sxl_g3, sxl_g4, OkS_true, GrdS_tt, GrdS_tf, GrdS_ft, GrdS_ff, CondS_t, CondS_f, then_n, then_e, then_r, blk_n, blk_e, blk_r, upd_app, Ex.ok, Ex.val, Opd.val, POp.dst, bin_int, binOK_int, bin_str, binOK_str, resOK, resV, RB.val, sub, putc, scB, scL, oneB, conf, Ex.val.eqP, Ex.val.eqL, negV, mxV, mnV, ← wr_eq, wr_zero, wr_one, wr_m1, bst_lst, byteC, partsOK, putAll, appV, nilV, slV, sslV, optB, optNum, and_assoc, exists_and_left, exists_eq_left', *]) | refine CallS_i (hsrc) ?_ | refine CondS_d (fun h => ?_) (fun h => ?_) | refine CondS_b (fun h => ?_) (fun h => ?_) | refine GrdS_d (fun h => ?_) (fun h => ?_) | refine GrdS_b (fun h => ?_) (fun h => ?_) | refine OkS_i (by omega) ?_ | fail)
theorem f128 (before tick : Int) (l : List Ft) (n1 : Bool) (hl : l.length ≤ 1000000000000) (hb : ∀ x ∈ l, x.okay) : Fn Try.prog 128 false [i before, i tick, .lst 5 n1 (l.map ft)] (i (slOf before tick l)) := by
  have hp := f167 l n1 hl hb
  have hpl := pieces_len l
  have hdg := f166 l n1 (pieces l) hl hb hpl (fun k hk => pieces_find hk)
  obtain ⟨S, hS⟩ : ∃ S, slOf before tick l = S := ⟨_, rfl⟩
  rw [hS]
  unfold slOf at hS
  have hul : (upTo (dgAt l (pieces l)) (pieces l).length).length = (pieces l).length := upTo_length
  have hh := f165 ([before, tick] ++ upTo (dgAt l (pieces l)) (pieces l).length) false (by simp; omega)
  rw [hS] at hh
  simp [iv] at hh hdg
  refine Fn.by_sx hX (by kernel_rfl) c128 (by kernel_rfl) (by rfl) ?_
  simp [i128, sx_skip, sx_ops, sx_seq, sx_cond, sx_block, sx_exit, sx_ret, sx_mcall, sx_mcell, sx_mset, elAt, setEl, isLst, cellsOf, sxl_nil, sxl_set, sxl_call, sxl_callv, sxl_g1, sxl_g2, sxl_g3, sxl_g4, OkS_true, GrdS_tt, GrdS_tf, GrdS_ft, GrdS_ff, CondS_t, CondS_f, then_n, then_e, then_r, blk_n, blk_e, blk_r, upd_app, Ex.ok, Ex.val, Opd.val, POp.dst, bin_int, binOK_int, bin_str, binOK_str, resOK, resV, RB.val, sub, putc, scB, scL, oneB, conf, Ex.val.eqP, Ex.val.eqL, negV, mxV, mnV, ← wr_eq, wr_zero, wr_one, wr_m1, bst_lst, byteC, partsOK, putAll, appV, nilV, slV, sslV, optB, optNum, and_assoc, exists_and_left, exists_eq_left']
  repeat' (first | intro _ | (simp [sx_skip, sx_ops, sx_seq, sx_cond, sx_block, sx_exit, sx_ret, sx_mcall, sx_mcell, sx_mset, elAt, setEl, isLst, cellsOf, sxl_nil, sxl_set, sxl_call, sxl_callv, sxl_g1, sxl_g2, sxl_g3, sxl_g4, OkS_true, GrdS_tt, GrdS_tf, GrdS_ft, GrdS_ff, CondS_t, CondS_f, then_n, then_e, then_r, blk_n, blk_e, blk_r, upd_app, Ex.ok, Ex.val, Opd.val, POp.dst, bin_int, binOK_int, bin_str, binOK_str, resOK, resV, RB.val, sub, putc, scB, scL, oneB, conf, Ex.val.eqP, Ex.val.eqL, negV, mxV, mnV, ← wr_eq, wr_zero, wr_one, wr_m1, bst_lst, byteC, partsOK, putAll, appV, nilV, slV, sslV, optB, optNum, and_assoc, exists_and_left, exists_eq_left', *]) | refine CallS_i (hp) ?_ | refine CallS_i (hdg) ?_ | refine CallS_i (hh) ?_ | refine CondS_d (fun h => ?_) (fun h => ?_) | refine CondS_b (fun h => ?_) (fun h => ?_) | refine GrdS_d (fun h => ?_) (fun h => ?_) | refine GrdS_b (fun h => ?_) (fun h => ?_) | refine OkS_i (by omega) ?_ | fail)
  all_goals omega
end Go.Eng
namespace Go.Eng
open Go Go.Proofs Geo
set_option linter.unusedSimpArgs false
set_option linter.unusedVariables false
set_option maxRecDepth 20000
set_option maxHeartbeats 1000000

/-! editions -/
structure Ed where
  f0 : Int
  f1 : List Ft
  f2 : Int
  nl : Bool
def ed (x : Ed) : List PV := [i x.f0, .lst 5 x.nl (x.f1.map ft), i x.f2]
def edD : Ed := ⟨0, [], 0, true⟩
def Ed.fr (x : Ed) : Ed := ⟨x.f0, x.f1.map Ft.fr, x.f2, false⟩
def Ed.fits (x : Ed) : Prop := x.f1.length ≤ 9223372036854775807 ∧ ∀ y ∈ x.f1, y.fits
def Ed.small (x : Ed) : Prop := x.f1.length ≤ 1048576 ∧ ∀ y ∈ x.f1, y.f3.size ≤ 1048576 ∧ y.f4.length ≤ 1048576
theorem f120 (x : Ed) (left : Int) (h0 : 0 ≤ left) (h1 : left ≤ 1048576) (hx : x.fits) : Fn Try.prog 120 false [.agg (ed x), i left] (i (szr left (wtLF x.f1 : Nat))) := by
  unfold ed
  refine Fn.by_sx hX (by kernel_rfl) c120 (by kernel_rfl) (by rfl) ?_
  simp [i120, sx_skip, sx_ops, sx_seq, sx_cond, sx_block, sx_exit, sx_ret, sx_mcall, sx_mcell, sx_mset, elAt, setEl, isLst, cellsOf, sxl_nil, sxl_set, sxl_call, sxl_callv, sxl_g1, sxl_g2, sxl_g3, sxl_g4, OkS_true, GrdS_tt, GrdS_tf, GrdS_ft, GrdS_ff, CondS_t, CondS_f, then_n, then_e, then_r, blk_n, blk_e, blk_r, upd_app, Ex.ok, Ex.val, Opd.val, POp.dst, bin_int, binOK_int, bin_str, binOK_str, resOK, resV, RB.val, sub, putc, scB, scL, oneB, conf, Ex.val.eqP, Ex.val.eqL, negV, mxV, mnV, ← wr_eq, wr_zero, wr_one, wr_m1, bst_lst, byteC, partsOK, putAll, appV, nilV, slV, sslV, optB, optNum, and_assoc, exists_and_left, exists_eq_left']
  have hc := f14 x.f1 x.nl left h0 h1 hx.1 hx.2
  repeat' (first | intro _ | (simp [sx_skip, sx_ops, sx_seq, sx_cond, sx_block, sx_exit, sx_ret, sx_mcall, sx_mcell, sx_mset, elAt, setEl, isLst, cellsOf, sxl_nil, sxl_set, sxl_call, sxl_callv, sxl_g1, sxl_g2, sxl_g3, sxl_g4, OkS_true, GrdS_tt, GrdS_tf, GrdS_ft, GrdS_ff, CondS_t, CondS_f, then_n, then_e, then_r, blk_n, blk_e, blk_r, upd_app, Ex.ok, Ex.val, Opd.val, POp.dst, bin_int, binOK_int, bin_str, binOK_str, resOK, resV, RB.val, sub, putc, scB, scL, oneB, conf, Ex.val.eqP, Ex.val.eqL, negV, mxV, mnV, ← wr_eq, wr_zero, wr_one, wr_m1, bst_lst, byteC, partsOK, putAll, appV, nilV, slV, sslV, optB, optNum, and_assoc, exists_and_left, exists_eq_left', *]) | refine CallS_i (hc) ?_ | refine CondS_d (fun h => ?_) (fun h => ?_) | refine CondS_b (fun h => ?_) (fun h => ?_) | refine GrdS_d (fun h => ?_) (fun h => ?_) | refine GrdS_b (fun h => ?_) (fun h => ?_) | refine OkS_i (by omega) ?_ | fail)
  all_goals (unfold szr at *; split at * <;> omega)
def wtToE (l : List Ed) (n : Nat) : Nat := ((l.take n).map fun x => wtLF x.f1).sum
theorem wtToE_zero (l : List Ed) : wtToE l 0 = 0 := rfl
theorem wtToE_succ {l : List Ed} {n : Nat} (h : n < l.length) : wtToE l (n + 1) = wtToE l n + wtLF l[n].f1 := by
  unfold wtToE
  rw [List.take_add_one, List.getElem?_eq_getElem h, List.map_append, List.sum_append]
  simp
theorem wtToE_le {l : List Ed} {n m : Nat} (h : n ≤ m) : wtToE l n ≤ wtToE l m := by
  unfold wtToE
  have : l.take m = l.take n ++ (l.take m).drop n := by
    have := List.take_append_drop n (l.take m)
    rw [List.take_take, Nat.min_eq_left h] at this
    exact this.symm
  rw [this, List.map_append, List.sum_append]
  omega
def wtLE (l : List Ed) : Nat := l.length + wtToE l l.length
theorem f57 (l : List Ed) (nl : Bool) (left : Int) (h0 : 0 ≤ left) (h1 : left ≤ 1048576) (hl : l.length ≤ 9223372036854775807) (hx : ∀ x ∈ l, x.fits) : Fn Try.prog 57 false [.lst 3 nl (l.map ed), i left] (i (szr left (wtLE l : Nat))) := by
  refine Fn.by_sx hX (by kernel_rfl) c57 (by kernel_rfl) (by rfl) ?_
  simp [i57, sx_skip, sx_ops, sx_seq, sx_cond, sx_block, sx_exit, sx_ret, sx_mcall, sx_mcell, sx_mset, elAt, setEl, isLst, cellsOf, sxl_nil, sxl_set, sxl_call, sxl_callv, sxl_g1, sxl_g2, sxl_g3, sxl_g4, OkS_true, GrdS_tt, GrdS_tf, GrdS_ft, GrdS_ff, CondS_t, CondS_f, then_n, then_e, then_r, blk_n, blk_e, blk_r, upd_app, Ex.ok, Ex.val, Opd.val, POp.dst, bin_int, binOK_int, bin_str, binOK_str, resOK, resV, RB.val, sub, putc, scB, scL, oneB, conf, Ex.val.eqP, Ex.val.eqL, negV, mxV, mnV, ← wr_eq, wr_zero, wr_one, wr_m1, bst_lst, byteC, partsOK, putAll, appV, nilV, slV, sslV, optB, optNum, and_assoc, exists_and_left, exists_eq_left']
  have hw : wr .i64 (left - l.length) = left - l.length := wr_in (by omega) (by omega)
  by_cases hc : left - l.length < 0
  · repeat' (first | intro _ | (simp [sx_skip, sx_ops, sx_seq, sx_cond, sx_block, sx_exit, sx_ret, sx_mcall, sx_mcell, sx_mset, elAt, setEl, isLst, cellsOf, sxl_nil, sxl_set, sxl_call, sxl_callv, sxl_g1, sxl_g2, sxl_g3, sxl_g4, OkS_true, GrdS_tt, GrdS_tf, GrdS_ft, GrdS_ff, CondS_t, CondS_f, then_n, then_e, then_r, blk_n, blk_e, blk_r, upd_app, Ex.ok, Ex.val, Opd.val, POp.dst, bin_int, binOK_int, bin_str, binOK_str, resOK, resV, RB.val, sub, putc, scB, scL, oneB, conf, Ex.val.eqP, Ex.val.eqL, negV, mxV, mnV, ← wr_eq, wr_zero, wr_one, wr_m1, bst_lst, byteC, partsOK, putAll, appV, nilV, slV, sslV, optB, optNum, and_assoc, exists_and_left, exists_eq_left', *]) | refine CondS_d (fun h => ?_) (fun h => ?_) | refine CondS_b (fun h => ?_) (fun h => ?_) | refine GrdS_d (fun h => ?_) (fun h => ?_) | refine GrdS_b (fun h => ?_) (fun h => ?_) | refine OkS_i (by omega) ?_ | fail)
    unfold szr wtLE; split <;> omega
  · repeat' (first | intro _ | (simp [sx_skip, sx_ops, sx_seq, sx_cond, sx_block, sx_exit, sx_ret, sx_mcall, sx_mcell, sx_mset, elAt, setEl, isLst, cellsOf, sxl_nil, sxl_set, sxl_call, sxl_callv, sxl_g1, sxl_g2, sxl_g3, sxl_g4, OkS_true, GrdS_tt, GrdS_tf, GrdS_ft, GrdS_ff, CondS_t, CondS_f, then_n, then_e, then_r, blk_n, blk_e, blk_r, upd_app, Ex.ok, Ex.val, Opd.val, POp.dst, bin_int, binOK_int, bin_str, binOK_str, resOK, resV, RB.val, sub, putc, scB, scL, oneB, conf, Ex.val.eqP, Ex.val.eqL, negV, mxV, mnV, ← wr_eq, wr_zero, wr_one, wr_m1, bst_lst, byteC, partsOK, putAll, appV, nilV, slV, sslV, optB, optNum, and_assoc, exists_and_left, exists_eq_left', *]) | refine CondS_d (fun h => ?_) (fun h => ?_) | refine CondS_b (fun h => ?_) (fun h => ?_) | refine GrdS_d (fun h => ?_) (fun h => ?_) | refine GrdS_b (fun h => ?_) (fun h => ?_) | refine OkS_i (by omega) ?_ | fail)
    refine sx_count l.length (fun n V => V 0 = .lst 3 nl (l.map ed) ∧ V 5 = i n ∧ V 1 = i (left - l.length - wtToE l n) ∧ 0 ≤ left - l.length - wtToE l n) 0 (by omega) (by simp [sx_skip, sx_ops, sx_seq, sx_cond, sx_block, sx_exit, sx_ret, sx_mcall, sx_mcell, sx_mset, elAt, setEl, isLst, cellsOf, sxl_nil, sxl_set, sxl_call, sxl_callv, sxl_g1, sxl_g2, sxl_g3, sxl_g4, OkS_true, GrdS_tt, GrdS_tf, GrdS_ft, GrdS_ff, CondS_t, CondS_f, then_n, then_e, then_r, blk_n, blk_e, blk_r, upd_app, Ex.ok, Ex.val, Opd.val, POp.dst, bin_int, binOK_int, bin_str, binOK_str, resOK, resV, RB.val, sub, putc, scB, scL, oneB, conf, Ex.val.eqP, Ex.val.eqL, negV, mxV, mnV, ← wr_eq, wr_zero, wr_one, wr_m1, bst_lst, byteC, partsOK, putAll, appV, nilV, slV, sslV, optB, optNum, and_assoc, exists_and_left, exists_eq_left', wtToE_zero]; omega) ?_
    rintro n V hn ⟨h0, h5, h1, hp⟩
    have hw : wr .i64 ((n : Int) + 1) = n + 1 := wr_in (by omega) (by omega)
    simp [sx_skip, sx_ops, sx_seq, sx_cond, sx_block, sx_exit, sx_ret, sx_mcall, sx_mcell, sx_mset, elAt, setEl, isLst, cellsOf, sxl_nil, sxl_set, sxl_call, sxl_callv, sxl_g1, sxl_g2, sxl_g3, sxl_g4, OkS_true, GrdS_tt, GrdS_tf, GrdS_ft, GrdS_ff, CondS_t, CondS_f, then_n, then_e, then_r, blk_n, blk_e, blk_r, upd_app, Ex.ok, Ex.val, Opd.val, POp.dst, bin_int, binOK_int, bin_str, binOK_str, resOK, resV, RB.val, sub, putc, scB, scL, oneB, conf, Ex.val.eqP, Ex.val.eqL, negV, mxV, mnV, ← wr_eq, wr_zero, wr_one, wr_m1, bst_lst, byteC, partsOK, putAll, appV, nilV, slV, sslV, optB, optNum, and_assoc, exists_and_left, exists_eq_left', h0, h5]
    refine CondS_d (fun hlt => ?_) (fun hge => ?_)
    · have hlt' : n < l.length := by omega
      have hs := wtToE_succ hlt'
      have hle := wtToE_le (l := l) (n := n + 1) (m := l.length) hlt'
      have hc := f120 l[n] (left - l.length - wtToE l n) hp (by omega) (hx _ (List.getElem_mem ..))
      have hz : szr (left - l.length - wtToE l n) (wtLF l[n].f1 : Nat) = if left - l.length - wtToE l (n + 1) < 0 then -1 else left - l.length - wtToE l (n + 1) := by
        unfold szr; rw [hs]; split <;> split <;> omega
      rw [hz] at hc
      by_cases hneg : left - l.length - wtToE l (n + 1) < 0
      · rw [if_pos hneg] at hc
        repeat' (first | intro _ | (simp [sx_skip, sx_ops, sx_seq, sx_cond, sx_block, sx_exit, sx_ret, sx_mcall, sx_mcell, sx_mset, elAt, setEl, isLst, cellsOf, sxl_nil, sxl_set, sxl_call, sxl_callv, sxl_g1, sxl_g2, sxl_g3, sxl_g4, OkS_true, GrdS_tt, GrdS_tf, GrdS_ft, GrdS_ff, CondS_t, CondS_f, then_n, then_e, then_r, blk_n, blk_e, blk_r, upd_app, Ex.ok, Ex.val, Opd.val, POp.dst, bin_int, binOK_int, bin_str, binOK_str, resOK, resV, RB.val, sub, putc, scB, scL, oneB, conf, Ex.val.eqP, Ex.val.eqL, negV, mxV, mnV, ← wr_eq, wr_zero, wr_one, wr_m1, bst_lst, byteC, partsOK, putAll, appV, nilV, slV, sslV, optB, optNum, and_assoc, exists_and_left, exists_eq_left', ed, *]) | refine CallS_i (hc) ?_ | refine CondS_d (fun h => ?_) (fun h => ?_) | refine CondS_b (fun h => ?_) (fun h => ?_) | refine GrdS_d (fun h => ?_) (fun h => ?_) | refine GrdS_b (fun h => ?_) (fun h => ?_) | refine OkS_i (by omega) ?_ | fail)
        unfold szr wtLE; split <;> omega
      · rw [if_neg hneg] at hc
        repeat' (first | intro _ | (simp [sx_skip, sx_ops, sx_seq, sx_cond, sx_block, sx_exit, sx_ret, sx_mcall, sx_mcell, sx_mset, elAt, setEl, isLst, cellsOf, sxl_nil, sxl_set, sxl_call, sxl_callv, sxl_g1, sxl_g2, sxl_g3, sxl_g4, OkS_true, GrdS_tt, GrdS_tf, GrdS_ft, GrdS_ff, CondS_t, CondS_f, then_n, then_e, then_r, blk_n, blk_e, blk_r, upd_app, Ex.ok, Ex.val, Opd.val, POp.dst, bin_int, binOK_int, bin_str, binOK_str, resOK, resV, RB.val, sub, putc, scB, scL, oneB, conf, Ex.val.eqP, Ex.val.eqL, negV, mxV, mnV, ← wr_eq, wr_zero, wr_one, wr_m1, bst_lst, byteC, partsOK, putAll, appV, nilV, slV, sslV, optB, optNum, and_assoc, exists_and_left, exists_eq_left', ed, *]) | refine CallS_i (hc) ?_ | refine CondS_d (fun h => ?_) (fun h => ?_) | refine CondS_b (fun h => ?_) (fun h => ?_) | refine GrdS_d (fun h => ?_) (fun h => ?_) | refine GrdS_b (fun h => ?_) (fun h => ?_) | refine OkS_i (by omega) ?_ | fail)
        all_goals omega
    · have : n = l.length := by omega
      subst this
      repeat' (first | intro _ | (simp [sx_skip, sx_ops, sx_seq, sx_cond, sx_block, sx_exit, sx_ret, sx_mcall, sx_mcell, sx_mset, elAt, setEl, isLst, cellsOf, sxl_nil, sxl_set, sxl_call, sxl_callv, sxl_g1, sxl_g2, sxl_g3, sxl_g4, OkS_true, GrdS_tt, GrdS_tf, GrdS_ft, GrdS_ff, CondS_t, CondS_f, then_n, then_e, then_r, blk_n, blk_e, blk_r, upd_app, Ex.ok, Ex.val, Opd.val, POp.dst, bin_int, binOK_int, bin_str, binOK_str, resOK, resV, RB.val, sub, putc, scB, scL, oneB, conf, Ex.val.eqP, Ex.val.eqL, negV, mxV, mnV, ← wr_eq, wr_zero, wr_one, wr_m1, bst_lst, byteC, partsOK, putAll, appV, nilV, slV, sslV, optB, optNum, and_assoc, exists_and_left, exists_eq_left', *]) | refine CondS_d (fun h => ?_) (fun h => ?_) | refine CondS_b (fun h => ?_) (fun h => ?_) | refine GrdS_d (fun h => ?_) (fun h => ?_) | refine GrdS_b (fun h => ?_) (fun h => ?_) | refine OkS_i (by omega) ?_ | fail)
      unfold szr wtLE; split <;> omega
theorem wtLE_len (l : List Ed) : l.length ≤ wtLE l := Nat.le_add_right ..
theorem wtLE_mem {l : List Ed} {x : Ed} (h : x ∈ l) : wtLF x.f1 ≤ wtLE l := by
  unfold wtLE wtToE
  rw [List.take_of_length_le (Nat.le_refl _)]
  have : ∀ (l : List Ed), x ∈ l → wtLF x.f1 ≤ (l.map fun x => wtLF x.f1).sum := by
    intro l
    induction l with
    | nil => intro h; cases h
    | cons y r ih =>
      intro h
      rw [List.map_cons, List.sum_cons]
      rcases List.mem_cons.1 h with rfl | h
      · exact Nat.le_add_right ..
      · have := ih h; omega
  have := this l h
  omega
theorem Ed.small_of {l : List Ed} {x : Ed} (h : x ∈ l) (hb : wtLE l ≤ 1048576) : x.small := by
  have h1 := wtLE_mem h
  have h2 := wtLF_len x.f1
  exact ⟨by omega, fun y hy => by have := wtLF_mem hy; omega⟩
theorem Ed.small_fr {x : Ed} (h : x.small) : x.fr.small := by
  refine ⟨by simp [Ed.fr]; exact h.1, fun y hy => ?_⟩
  unfold Ed.fr at hy
  obtain ⟨z, hz, rfl⟩ := List.mem_map.1 hy
  exact h.2 z hz
theorem f122 (x : Ed) (hx : x.small) : Fn Try.prog 122 true [.agg (ed x)] (.agg (ed x.fr)) := by
  have hc := f16 x.f1 x.nl hx.1 fun y hy => (hx.2 y hy).2
  unfold ed Ed.fr
  obtain ⟨r, hr⟩ : ∃ r, x.f1.map Ft.fr = r := ⟨_, rfl⟩
  rw [hr] at hc ⊢
  clear hr
  refine Fn.by_sx hX (by kernel_rfl) c122 (by kernel_rfl) (by rfl) ?_
  simp [i122, sx_skip, sx_ops, sx_seq, sx_cond, sx_block, sx_exit, sx_ret, sx_mcall, sx_mcell, sx_mset, elAt, setEl, isLst, cellsOf, sxl_nil, sxl_set, sxl_call, sxl_callv, sxl_g1, sxl_g2, sxl_g3, sxl_g4, OkS_true, GrdS_tt, GrdS_tf, GrdS_ft, GrdS_ff, CondS_t, CondS_f, then_n, then_e, then_r, blk_n, blk_e, blk_r, upd_app, Ex.ok, Ex.val, Opd.val, POp.dst, bin_int, binOK_int, bin_str, binOK_str, resOK, resV, RB.val, sub, putc, scB, scL, oneB, conf, Ex.val.eqP, Ex.val.eqL, negV, mxV, mnV, ← wr_eq, wr_zero, wr_one, wr_m1, bst_lst, byteC, partsOK, putAll, appV, nilV, slV, sslV, optB, optNum, and_assoc, exists_and_left, exists_eq_left']
  repeat' (first | intro _ | (simp [sx_skip, sx_ops, sx_seq, sx_cond, sx_block, sx_exit, sx_ret, sx_mcall, sx_mcell, sx_mset, elAt, setEl, isLst, cellsOf, sxl_nil, sxl_set, sxl_call, sxl_callv, sxl_g1, sxl_g2, sxl_g3, sxl_g4, OkS_true, GrdS_tt, GrdS_tf, GrdS_ft, GrdS_ff, CondS_t, CondS_f, then_n, then_e, then_r, blk_n, blk_e, blk_r, upd_app, Ex.ok, Ex.val, Opd.val, POp.dst, bin_int, binOK_int, bin_str, binOK_str, resOK, resV, RB.val, sub, putc, scB, scL, oneB, conf, Ex.val.eqP, Ex.val.eqL, negV, mxV, mnV, ← wr_eq, wr_zero, wr_one, wr_m1, bst_lst, byteC, partsOK, putAll, appV, nilV, slV, sslV, optB, optNum, and_assoc, exists_and_left, exists_eq_left', *]) | refine CallS_i (hc) ?_ | refine CondS_d (fun h => ?_) (fun h => ?_) | refine CondS_b (fun h => ?_) (fun h => ?_) | refine GrdS_d (fun h => ?_) (fun h => ?_) | refine GrdS_b (fun h => ?_) (fun h => ?_) | refine OkS_i (by omega) ?_ | fail)
def edz : List PV := [i 0, .lst 5 true [], i 0]
def edf (x : Ed) : List PV := ed x.fr
theorem f59 (l : List Ed) (nl : Bool) (hl : l.length ≤ 1048576) (hx : ∀ x ∈ l, x.small) : Fn Try.prog 59 true [.lst 3 nl (l.map ed)] (.lst 3 false ((l.map Ed.fr).map ed)) := by
  have he : (l.map Ed.fr).map ed = l.map edf := by rw [List.map_map]; rfl
  rw [he]
  refine Fn.by_sx hX (by kernel_rfl) c59 (by kernel_rfl) (by rfl) ?_
  simp [i59, sx_skip, sx_ops, sx_seq, sx_cond, sx_block, sx_exit, sx_ret, sx_mcall, sx_mcell, sx_mset, elAt, setEl, isLst, cellsOf, sxl_nil, sxl_set, sxl_call, sxl_callv, sxl_g1, sxl_g2, sxl_g3, sxl_g4, OkS_true, GrdS_tt, GrdS_tf, GrdS_ft, GrdS_ff, CondS_t, CondS_f, then_n, then_e, then_r, blk_n, blk_e, blk_r, upd_app, Ex.ok, Ex.val, Opd.val, POp.dst, bin_int, binOK_int, bin_str, binOK_str, resOK, resV, RB.val, sub, putc, scB, scL, oneB, conf, Ex.val.eqP, Ex.val.eqL, negV, mxV, mnV, ← wr_eq, wr_zero, wr_one, wr_m1, bst_lst, byteC, partsOK, putAll, appV, nilV, slV, sslV, optB, optNum, and_assoc, exists_and_left, exists_eq_left']
  repeat' (first | intro _ | (simp [sx_skip, sx_ops, sx_seq, sx_cond, sx_block, sx_exit, sx_ret, sx_mcall, sx_mcell, sx_mset, elAt, setEl, isLst, cellsOf, sxl_nil, sxl_set, sxl_call, sxl_callv, sxl_g1, sxl_g2, sxl_g3, sxl_g4, OkS_true, GrdS_tt, GrdS_tf, GrdS_ft, GrdS_ff, CondS_t, CondS_f, then_n, then_e, then_r, blk_n, blk_e, blk_r, upd_app, Ex.ok, Ex.val, Opd.val, POp.dst, bin_int, binOK_int, bin_str, binOK_str, resOK, resV, RB.val, sub, putc, scB, scL, oneB, conf, Ex.val.eqP, Ex.val.eqL, negV, mxV, mnV, ← wr_eq, wr_zero, wr_one, wr_m1, bst_lst, byteC, partsOK, putAll, appV, nilV, slV, sslV, optB, optNum, and_assoc, exists_and_left, exists_eq_left', *]) | refine CondS_d (fun h => ?_) (fun h => ?_) | refine CondS_b (fun h => ?_) (fun h => ?_) | refine GrdS_d (fun h => ?_) (fun h => ?_) | refine GrdS_b (fun h => ?_) (fun h => ?_) | refine OkS_i (by omega) ?_ | fail)
  refine sx_count l.length (fun n V => V 0 = .lst 3 nl (l.map ed) ∧ V 4 = i n ∧ V 3 = .lst 3 false (fillTo edf edz l n)) 0 (by omega) (by simp [sx_skip, sx_ops, sx_seq, sx_cond, sx_block, sx_exit, sx_ret, sx_mcall, sx_mcell, sx_mset, elAt, setEl, isLst, cellsOf, sxl_nil, sxl_set, sxl_call, sxl_callv, sxl_g1, sxl_g2, sxl_g3, sxl_g4, OkS_true, GrdS_tt, GrdS_tf, GrdS_ft, GrdS_ff, CondS_t, CondS_f, then_n, then_e, then_r, blk_n, blk_e, blk_r, upd_app, Ex.ok, Ex.val, Opd.val, POp.dst, bin_int, binOK_int, bin_str, binOK_str, resOK, resV, RB.val, sub, putc, scB, scL, oneB, conf, Ex.val.eqP, Ex.val.eqL, negV, mxV, mnV, ← wr_eq, wr_zero, wr_one, wr_m1, bst_lst, byteC, partsOK, putAll, appV, nilV, slV, sslV, optB, optNum, and_assoc, exists_and_left, exists_eq_left', fillTo_zero, edz]) ?_
  rintro n V hn ⟨h0, h4, h3⟩
  have hw : wr .i64 ((n : Int) + 1) = n + 1 := wr_in (by omega) (by omega)
  simp [sx_skip, sx_ops, sx_seq, sx_cond, sx_block, sx_exit, sx_ret, sx_mcall, sx_mcell, sx_mset, elAt, setEl, isLst, cellsOf, sxl_nil, sxl_set, sxl_call, sxl_callv, sxl_g1, sxl_g2, sxl_g3, sxl_g4, OkS_true, GrdS_tt, GrdS_tf, GrdS_ft, GrdS_ff, CondS_t, CondS_f, then_n, then_e, then_r, blk_n, blk_e, blk_r, upd_app, Ex.ok, Ex.val, Opd.val, POp.dst, bin_int, binOK_int, bin_str, binOK_str, resOK, resV, RB.val, sub, putc, scB, scL, oneB, conf, Ex.val.eqP, Ex.val.eqL, negV, mxV, mnV, ← wr_eq, wr_zero, wr_one, wr_m1, bst_lst, byteC, partsOK, putAll, appV, nilV, slV, sslV, optB, optNum, and_assoc, exists_and_left, exists_eq_left', h0, h4]
  refine CondS_d (fun hlt => ?_) (fun hge => ?_)
  · have hlt' : n < l.length := by omega
    have hs := fillTo_set (g := edf) (z := edz) hlt'
    have hfl := fillTo_len (g := edf) (z := edz) (l := l) (n := n) (by omega)
    have hc := f122 l[n] (hx _ (List.getElem_mem ..))
    obtain ⟨y, hy⟩ : ∃ y, l[n].fr = y := ⟨_, rfl⟩
    have hee : edf l[n] = ed y := by rw [← hy]; rfl
    rw [hee] at hs
    rw [hy] at hc
    clear hy hee
    unfold ed at hs hc
    repeat' (first | intro _ | (simp [sx_skip, sx_ops, sx_seq, sx_cond, sx_block, sx_exit, sx_ret, sx_mcall, sx_mcell, sx_mset, elAt, setEl, isLst, cellsOf, sxl_nil, sxl_set, sxl_call, sxl_callv, sxl_g1, sxl_g2, sxl_g3, sxl_g4, OkS_true, GrdS_tt, GrdS_tf, GrdS_ft, GrdS_ff, CondS_t, CondS_f, then_n, then_e, then_r, blk_n, blk_e, blk_r, upd_app, Ex.ok, Ex.val, Opd.val, POp.dst, bin_int, binOK_int, bin_str, binOK_str, resOK, resV, RB.val, sub, putc, scB, scL, oneB, conf, Ex.val.eqP, Ex.val.eqL, negV, mxV, mnV, ← wr_eq, wr_zero, wr_one, wr_m1, bst_lst, byteC, partsOK, putAll, appV, nilV, slV, sslV, optB, optNum, and_assoc, exists_and_left, exists_eq_left', ed, *]) | refine CallS_i (hc) ?_ | refine CondS_d (fun h => ?_) (fun h => ?_) | refine CondS_b (fun h => ?_) (fun h => ?_) | refine GrdS_d (fun h => ?_) (fun h => ?_) | refine GrdS_b (fun h => ?_) (fun h => ?_) | refine OkS_i (by omega) ?_ | fail)
  · have : n = l.length := by omega
    subst this
    have hfu := fillTo_full (g := edf) (z := edz) (l := l)
    repeat' (first | intro _ | (simp [sx_skip, sx_ops, sx_seq, sx_cond, sx_block, sx_exit, sx_ret, sx_mcall, sx_mcell, sx_mset, elAt, setEl, isLst, cellsOf, sxl_nil, sxl_set, sxl_call, sxl_callv, sxl_g1, sxl_g2, sxl_g3, sxl_g4, OkS_true, GrdS_tt, GrdS_tf, GrdS_ft, GrdS_ff, CondS_t, CondS_f, then_n, then_e, then_r, blk_n, blk_e, blk_r, upd_app, Ex.ok, Ex.val, Opd.val, POp.dst, bin_int, binOK_int, bin_str, binOK_str, resOK, resV, RB.val, sub, putc, scB, scL, oneB, conf, Ex.val.eqP, Ex.val.eqL, negV, mxV, mnV, ← wr_eq, wr_zero, wr_one, wr_m1, bst_lst, byteC, partsOK, putAll, appV, nilV, slV, sslV, optB, optNum, and_assoc, exists_and_left, exists_eq_left', *]) | refine CondS_d (fun h => ?_) (fun h => ?_) | refine CondS_b (fun h => ?_) (fun h => ?_) | refine GrdS_d (fun h => ?_) (fun h => ?_) | refine GrdS_b (fun h => ?_) (fun h => ?_) | refine OkS_i (by omega) ?_ | fail)
theorem f124 (x : Ed) (hx : x.small) : Fn Try.prog 124 false [.agg (ed x), .agg (ed x)] (.bool true) := by
  have hc := f19 x.f1 x.nl x.nl (by have := hx.1; omega) fun y hy => by have := hx.2 y hy; omega
  unfold ed
  refine Fn.by_sx hX (by kernel_rfl) c124 (by kernel_rfl) (by rfl) ?_
  simp [i124, sx_skip, sx_ops, sx_seq, sx_cond, sx_block, sx_exit, sx_ret, sx_mcall, sx_mcell, sx_mset, elAt, setEl, isLst, cellsOf, sxl_nil, sxl_set, sxl_call, sxl_callv, sxl_g1, sxl_g2, sxl_g3, sxl_g4, OkS_true, GrdS_tt, GrdS_tf, GrdS_ft, GrdS_ff, CondS_t, CondS_f, then_n, then_e, then_r, blk_n, blk_e, blk_r, upd_app, Ex.ok, Ex.val, Opd.val, POp.dst, bin_int, binOK_int, bin_str, binOK_str, resOK, resV, RB.val, sub, putc, scB, scL, oneB, conf, Ex.val.eqP, Ex.val.eqL, negV, mxV, mnV, ← wr_eq, wr_zero, wr_one, wr_m1, bst_lst, byteC, partsOK, putAll, appV, nilV, slV, sslV, optB, optNum, and_assoc, exists_and_left, exists_eq_left']
  repeat' (first | intro _ | (simp [sx_skip, sx_ops, sx_seq, sx_cond, sx_block, sx_exit, sx_ret, sx_mcall, sx_mcell, sx_mset, elAt, setEl, isLst, cellsOf, sxl_nil, sxl_set, sxl_call, sxl_callv, sxl_g1, sxl_g2, sxl_g3, sxl_g4, OkS_true, GrdS_tt, GrdS_tf, GrdS_ft, GrdS_ff, CondS_t, CondS_f, then_n, then_e, then_r, blk_n, blk_e, blk_r, upd_app, Ex.ok, Ex.val, Opd.val, POp.dst, bin_int, binOK_int, bin_str, binOK_str, resOK, resV, RB.val, sub, putc, scB, scL, oneB, conf, Ex.val.eqP, Ex.val.eqL, negV, mxV, mnV, ← wr_eq, wr_zero, wr_one, wr_m1, bst_lst, byteC, partsOK, putAll, appV, nilV, slV, sslV, optB, optNum, and_assoc, exists_and_left, exists_eq_left', *]) | refine CallS_i (hc) ?_ | refine CondS_d (fun h => ?_) (fun h => ?_) | refine CondS_b (fun h => ?_) (fun h => ?_) | refine GrdS_d (fun h => ?_) (fun h => ?_) | refine GrdS_b (fun h => ?_) (fun h => ?_) | refine OkS_i (by omega) ?_ | fail)
theorem f61 (l : List Ed) (n1 n2 : Bool) (hl : l.length ≤ 1000000000000) (hx : ∀ x ∈ l, x.small) : Fn Try.prog 61 false [.lst 3 n1 (l.map ed), .lst 3 n2 (l.map ed)] (.bool true) := by
  refine Fn.by_sx hX (by kernel_rfl) c61 (by kernel_rfl) (by rfl) ?_
  simp [i61, sx_skip, sx_ops, sx_seq, sx_cond, sx_block, sx_exit, sx_ret, sx_mcall, sx_mcell, sx_mset, elAt, setEl, isLst, cellsOf, sxl_nil, sxl_set, sxl_call, sxl_callv, sxl_g1, sxl_g2, sxl_g3, sxl_g4, OkS_true, GrdS_tt, GrdS_tf, GrdS_ft, GrdS_ff, CondS_t, CondS_f, then_n, then_e, then_r, blk_n, blk_e, blk_r, upd_app, Ex.ok, Ex.val, Opd.val, POp.dst, bin_int, binOK_int, bin_str, binOK_str, resOK, resV, RB.val, sub, putc, scB, scL, oneB, conf, Ex.val.eqP, Ex.val.eqL, negV, mxV, mnV, ← wr_eq, wr_zero, wr_one, wr_m1, bst_lst, byteC, partsOK, putAll, appV, nilV, slV, sslV, optB, optNum, and_assoc, exists_and_left, exists_eq_left']
  repeat' (first | intro _ | (simp [sx_skip, sx_ops, sx_seq, sx_cond, sx_block, sx_exit, sx_ret, sx_mcall, sx_mcell, sx_mset, elAt, setEl, isLst, cellsOf, sxl_nil, sxl_set, sxl_call, sxl_callv, sxl_g1, sxl_g2, sxl_g3, sxl_g4, OkS_true, GrdS_tt, GrdS_tf, GrdS_ft, GrdS_ff, CondS_t, CondS_f, then_n, then_e, then_r, blk_n, blk_e, blk_r, upd_app, Ex.ok, Ex.val, Opd.val, POp.dst, bin_int, binOK_int, bin_str, binOK_str, resOK, resV, RB.val, sub, putc, scB, scL, oneB, conf, Ex.val.eqP, Ex.val.eqL, negV, mxV, mnV, ← wr_eq, wr_zero, wr_one, wr_m1, bst_lst, byteC, partsOK, putAll, appV, nilV, slV, sslV, optB, optNum, and_assoc, exists_and_left, exists_eq_left', *]) | refine CondS_d (fun h => ?_) (fun h => ?_) | refine CondS_b (fun h => ?_) (fun h => ?_) | refine GrdS_d (fun h => ?_) (fun h => ?_) | refine GrdS_b (fun h => ?_) (fun h => ?_) | refine OkS_i (by omega) ?_ | fail)
  refine sx_count l.length (fun n V => V 0 = .lst 3 n1 (l.map ed) ∧ V 1 = .lst 3 n2 (l.map ed) ∧ V 5 = i n) 0 (by omega) (by simp [sx_skip, sx_ops, sx_seq, sx_cond, sx_block, sx_exit, sx_ret, sx_mcall, sx_mcell, sx_mset, elAt, setEl, isLst, cellsOf, sxl_nil, sxl_set, sxl_call, sxl_callv, sxl_g1, sxl_g2, sxl_g3, sxl_g4, OkS_true, GrdS_tt, GrdS_tf, GrdS_ft, GrdS_ff, CondS_t, CondS_f, then_n, then_e, then_r, blk_n, blk_e, blk_r, upd_app, Ex.ok, Ex.val, Opd.val, POp.dst, bin_int, binOK_int, bin_str, binOK_str, resOK, resV, RB.val, sub, putc, scB, scL, oneB, conf, Ex.val.eqP, Ex.val.eqL, negV, mxV, mnV, ← wr_eq, wr_zero, wr_one, wr_m1, bst_lst, byteC, partsOK, putAll, appV, nilV, slV, sslV, optB, optNum, and_assoc, exists_and_left, exists_eq_left']) ?_
  rintro n V hn ⟨h0, h1, h5⟩
  have hw : wr .i64 ((n : Int) + 1) = n + 1 := wr_in (by omega) (by omega)
  simp [sx_skip, sx_ops, sx_seq, sx_cond, sx_block, sx_exit, sx_ret, sx_mcall, sx_mcell, sx_mset, elAt, setEl, isLst, cellsOf, sxl_nil, sxl_set, sxl_call, sxl_callv, sxl_g1, sxl_g2, sxl_g3, sxl_g4, OkS_true, GrdS_tt, GrdS_tf, GrdS_ft, GrdS_ff, CondS_t, CondS_f, then_n, then_e, then_r, blk_n, blk_e, blk_r, upd_app, Ex.ok, Ex.val, Opd.val, POp.dst, bin_int, binOK_int, bin_str, binOK_str, resOK, resV, RB.val, sub, putc, scB, scL, oneB, conf, Ex.val.eqP, Ex.val.eqL, negV, mxV, mnV, ← wr_eq, wr_zero, wr_one, wr_m1, bst_lst, byteC, partsOK, putAll, appV, nilV, slV, sslV, optB, optNum, and_assoc, exists_and_left, exists_eq_left', h0, h5]
  refine CondS_d (fun hlt => ?_) (fun hge => ?_)
  · have hlt' : n < l.length := by omega
    have hc := f124 l[n] (hx _ (List.getElem_mem ..))
    unfold ed at hc
    repeat' (first | intro _ | (simp [sx_skip, sx_ops, sx_seq, sx_cond, sx_block, sx_exit, sx_ret, sx_mcall, sx_mcell, sx_mset, elAt, setEl, isLst, cellsOf, sxl_nil, sxl_set, sxl_call, sxl_callv, sxl_g1, sxl_g2, sxl_g3, sxl_g4, OkS_true, GrdS_tt, GrdS_tf, GrdS_ft, GrdS_ff, CondS_t, CondS_f, then_n, then_e, then_r, blk_n, blk_e, blk_r, upd_app, Ex.ok, Ex.val, Opd.val, POp.dst, bin_int, binOK_int, bin_str, binOK_str, resOK, resV, RB.val, sub, putc, scB, scL, oneB, conf, Ex.val.eqP, Ex.val.eqL, negV, mxV, mnV, ← wr_eq, wr_zero, wr_one, wr_m1, bst_lst, byteC, partsOK, putAll, appV, nilV, slV, sslV, optB, optNum, and_assoc, exists_and_left, exists_eq_left', ed, *]) | refine CallS_i (hc) ?_ | refine CondS_d (fun h => ?_) (fun h => ?_) | refine CondS_b (fun h => ?_) (fun h => ?_) | refine GrdS_d (fun h => ?_) (fun h => ?_) | refine GrdS_b (fun h => ?_) (fun h => ?_) | refine OkS_i (by omega) ?_ | fail)
  · have : n = l.length := by omega
    subst this
    repeat' (first | intro _ | (simp [sx_skip, sx_ops, sx_seq, sx_cond, sx_block, sx_exit, sx_ret, sx_mcall, sx_mcell, sx_mset, elAt, setEl, isLst, cellsOf, sxl_nil, sxl_set, sxl_call, sxl_callv, sxl_g1, sxl_g2, sxl_g3, sxl_g4, OkS_true, GrdS_tt, GrdS_tf, GrdS_ft, GrdS_ff, CondS_t, CondS_f, then_n, then_e, then_r, blk_n, blk_e, blk_r, upd_app, Ex.ok, Ex.val, Opd.val, POp.dst, bin_int, binOK_int, bin_str, binOK_str, resOK, resV, RB.val, sub, putc, scB, scL, oneB, conf, Ex.val.eqP, Ex.val.eqL, negV, mxV, mnV, ← wr_eq, wr_zero, wr_one, wr_m1, bst_lst, byteC, partsOK, putAll, appV, nilV, slV, sslV, optB, optNum, and_assoc, exists_and_left, exists_eq_left', *]) | refine CondS_d (fun h => ?_) (fun h => ?_) | refine CondS_b (fun h => ?_) (fun h => ?_) | refine GrdS_d (fun h => ?_) (fun h => ?_) | refine GrdS_b (fun h => ?_) (fun h => ?_) | refine OkS_i (by omega) ?_ | fail)
def prevS (l : List Ed) (n : Nat) : Int := if n = 0 then 0 else (l.getD (n - 1) edD).f2
def edAt (l : List Ed) (n : Nat) : Bool :=
  inR (l.getD n edD).f0 0 100000 && wSrc (l.getD n edD).f1 && decide ((l.getD n edD).f2 = slOf (prevS l n) (l.getD n edD).f0 (l.getD n edD).f1) && !(decide (0 < n) && decide ((l.getD n edD).f0 ≤ (l.getD (n - 1) edD).f0))
def wEds (l : List Ed) : Bool := decide (l.length ≤ 6) && allTo (edAt l) l.length
def Ed.okay (x : Ed) : Prop := x.f1.length ≤ 1000000000000 ∧ ∀ y ∈ x.f1, y.okay
theorem Ed.okay_of {x : Ed} (h : x.small) : x.okay := ⟨by have := h.1; omega, fun y hy => by have := h.2 y hy; unfold Ft.okay; omega⟩
theorem f121 (l : List Ed) (nl : Bool) (hl : l.length ≤ 1000000000000) (hb : ∀ x ∈ l, x.okay) : Fn Try.prog 121 false [.lst 3 nl (l.map ed)] (.bool (wEds l)) := by
  refine Fn.by_sx hX (by kernel_rfl) c121 (by kernel_rfl) (by rfl) ?_
  simp [i121, sx_skip, sx_ops, sx_seq, sx_cond, sx_block, sx_exit, sx_ret, sx_mcall, sx_mcell, sx_mset, elAt, setEl, isLst, cellsOf, sxl_nil, sxl_set, sxl_call, sxl_callv, sxl_g1, sxl_g2, sxl_g3, sxl_g4, OkS_true, GrdS_tt, GrdS_tf, GrdS_ft, GrdS_ff, CondS_t, CondS_f, then_n, then_e, then_r, blk_n, blk_e, blk_r, upd_app, Ex.ok, Ex.val, Opd.val, POp.dst, bin_int, binOK_int, bin_str, binOK_str, resOK, resV, RB.val, sub, putc, scB, scL, oneB, conf, Ex.val.eqP, Ex.val.eqL, negV, mxV, mnV, ← wr_eq, wr_zero, wr_one, wr_m1, bst_lst, byteC, partsOK, putAll, appV, nilV, slV, sslV, optB, optNum, and_assoc, exists_and_left, exists_eq_left']
  refine sx_count l.length (fun n V => V 0 = .lst 3 nl (l.map ed) ∧ V 4 = i n ∧ V 3 = i (prevS l n) ∧ allTo (edAt l) n = true) 0 (by omega) (by simp [sx_skip, sx_ops, sx_seq, sx_cond, sx_block, sx_exit, sx_ret, sx_mcall, sx_mcell, sx_mset, elAt, setEl, isLst, cellsOf, sxl_nil, sxl_set, sxl_call, sxl_callv, sxl_g1, sxl_g2, sxl_g3, sxl_g4, OkS_true, GrdS_tt, GrdS_tf, GrdS_ft, GrdS_ff, CondS_t, CondS_f, then_n, then_e, then_r, blk_n, blk_e, blk_r, upd_app, Ex.ok, Ex.val, Opd.val, POp.dst, bin_int, binOK_int, bin_str, binOK_str, resOK, resV, RB.val, sub, putc, scB, scL, oneB, conf, Ex.val.eqP, Ex.val.eqL, negV, mxV, mnV, ← wr_eq, wr_zero, wr_one, wr_m1, bst_lst, byteC, partsOK, putAll, appV, nilV, slV, sslV, optB, optNum, and_assoc, exists_and_left, exists_eq_left', allTo_zero, prevS]) ?_
  rintro n V hn ⟨h0, h4, h3, ha⟩
  have hw : wr .i64 ((n : Int) + 1) = n + 1 := wr_in (by omega) (by omega)
  simp [sx_skip, sx_ops, sx_seq, sx_cond, sx_block, sx_exit, sx_ret, sx_mcall, sx_mcell, sx_mset, elAt, setEl, isLst, cellsOf, sxl_nil, sxl_set, sxl_call, sxl_callv, sxl_g1, sxl_g2, sxl_g3, sxl_g4, OkS_true, GrdS_tt, GrdS_tf, GrdS_ft, GrdS_ff, CondS_t, CondS_f, then_n, then_e, then_r, blk_n, blk_e, blk_r, upd_app, Ex.ok, Ex.val, Opd.val, POp.dst, bin_int, binOK_int, bin_str, binOK_str, resOK, resV, RB.val, sub, putc, scB, scL, oneB, conf, Ex.val.eqP, Ex.val.eqL, negV, mxV, mnV, ← wr_eq, wr_zero, wr_one, wr_m1, bst_lst, byteC, partsOK, putAll, appV, nilV, slV, sslV, optB, optNum, and_assoc, exists_and_left, exists_eq_left', h0, h4]
  by_cases hL : (l.length : Int) ≤ 6
  · by_cases hlt : (n : Int) < l.length
    · have hlt' : n < l.length := by omega
      have hbad : edAt l n = false → wEds l = false := fun h => by simp [wEds, allTo_bad hlt' h]
      have hgood : edAt l n = true → allTo (edAt l) (n + 1) = true := fun h => by rw [allTo_succ, ha, h]; rfl
      have hok := hb l[n] (List.getElem_mem ..)
      have hsr := f78 l[n].f1 l[n].nl hok.1 hok.2
      have hin := f99 l[n].f0 0 100000
      have hse := f126 (prevS l n) l[n].f0 l[n].f1 l[n].nl hok.1 hok.2
      obtain ⟨S, hS⟩ : ∃ S, slOf (prevS l n) l[n].f0 l[n].f1 = S := ⟨_, rfl⟩
      rw [hS] at hse
      have hpn : prevS l (n + 1) = l[n].f2 := by simp [prevS, hlt']
      have hed : edAt l n = (inR l[n].f0 0 100000 && wSrc l[n].f1 && decide (l[n].f2 = S) && !(decide (0 < n) && decide (l[n].f0 ≤ (l.getD (n - 1) edD).f0))) := by unfold edAt; simp [hlt', hS]
      clear hS
      rcases Nat.eq_zero_or_pos n with rfl | hpos
      · repeat' (first | intro _ | (simp [sx_skip, sx_ops, sx_seq, sx_cond, sx_block, sx_exit, sx_ret, sx_mcall, sx_mcell, sx_mset, elAt, setEl, isLst, cellsOf, sxl_nil, sxl_set, sxl_call, sxl_callv, sxl_g1, sxl_g2, sxl_g3, sxl_g4, OkS_true, GrdS_tt, GrdS_tf, GrdS_ft, GrdS_ff, CondS_t, CondS_f, then_n, then_e, then_r, blk_n, blk_e, blk_r, upd_app, Ex.ok, Ex.val, Opd.val, POp.dst, bin_int, binOK_int, bin_str, binOK_str, resOK, resV, RB.val, sub, putc, scB, scL, oneB, conf, Ex.val.eqP, Ex.val.eqL, negV, mxV, mnV, ← wr_eq, wr_zero, wr_one, wr_m1, bst_lst, byteC, partsOK, putAll, appV, nilV, slV, sslV, optB, optNum, and_assoc, exists_and_left, exists_eq_left', ed, *]) | refine CallS_b (hsr) (fun h => ?_) (fun h => ?_) | refine CallS_b (hin) (fun h => ?_) (fun h => ?_) | refine CallS_i (hse) ?_ | refine CondS_d (fun h => ?_) (fun h => ?_) | refine CondS_b (fun h => ?_) (fun h => ?_) | refine GrdS_d (fun h => ?_) (fun h => ?_) | refine GrdS_b (fun h => ?_) (fun h => ?_) | refine OkS_i (by omega) ?_ | fail)
        all_goals first | (apply hbad; simp_all; done) | (have := hgood (by simp_all); simp_all)
      · have hw2 : wr .i64 ((n : Int) - 1) = ((n - 1 : Nat) : Int) := wrap_down n hpos (by omega)
        have hpos' : (0 : Int) < n := by omega
        have hm : n - 1 < l.length := by omega
        repeat' (first | intro _ | (simp [sx_skip, sx_ops, sx_seq, sx_cond, sx_block, sx_exit, sx_ret, sx_mcall, sx_mcell, sx_mset, elAt, setEl, isLst, cellsOf, sxl_nil, sxl_set, sxl_call, sxl_callv, sxl_g1, sxl_g2, sxl_g3, sxl_g4, OkS_true, GrdS_tt, GrdS_tf, GrdS_ft, GrdS_ff, CondS_t, CondS_f, then_n, then_e, then_r, blk_n, blk_e, blk_r, upd_app, Ex.ok, Ex.val, Opd.val, POp.dst, bin_int, binOK_int, bin_str, binOK_str, resOK, resV, RB.val, sub, putc, scB, scL, oneB, conf, Ex.val.eqP, Ex.val.eqL, negV, mxV, mnV, ← wr_eq, wr_zero, wr_one, wr_m1, bst_lst, byteC, partsOK, putAll, appV, nilV, slV, sslV, optB, optNum, and_assoc, exists_and_left, exists_eq_left', ed, *]) | refine CallS_b (hsr) (fun h => ?_) (fun h => ?_) | refine CallS_b (hin) (fun h => ?_) (fun h => ?_) | refine CallS_i (hse) ?_ | refine CondS_d (fun h => ?_) (fun h => ?_) | refine CondS_b (fun h => ?_) (fun h => ?_) | refine GrdS_d (fun h => ?_) (fun h => ?_) | refine GrdS_b (fun h => ?_) (fun h => ?_) | refine OkS_i (by omega) ?_ | fail)
        all_goals first | (apply hbad; simp_all; done) | (have := hgood (by simp_all); simp_all; done) | (have := hgood (by simp_all; omega); simp_all; done)
    · have : n = l.length := by omega
      subst this
      repeat' (first | intro _ | (simp [sx_skip, sx_ops, sx_seq, sx_cond, sx_block, sx_exit, sx_ret, sx_mcall, sx_mcell, sx_mset, elAt, setEl, isLst, cellsOf, sxl_nil, sxl_set, sxl_call, sxl_callv, sxl_g1, sxl_g2, sxl_g3, sxl_g4, OkS_true, GrdS_tt, GrdS_tf, GrdS_ft, GrdS_ff, CondS_t, CondS_f, then_n, then_e, then_r, blk_n, blk_e, blk_r, upd_app, Ex.ok, Ex.val, Opd.val, POp.dst, bin_int, binOK_int, bin_str, binOK_str, resOK, resV, RB.val, sub, putc, scB, scL, oneB, conf, Ex.val.eqP, Ex.val.eqL, negV, mxV, mnV, ← wr_eq, wr_zero, wr_one, wr_m1, bst_lst, byteC, partsOK, putAll, appV, nilV, slV, sslV, optB, optNum, and_assoc, exists_and_left, exists_eq_left', *]) | refine CondS_d (fun h => ?_) (fun h => ?_) | refine CondS_b (fun h => ?_) (fun h => ?_) | refine GrdS_d (fun h => ?_) (fun h => ?_) | refine GrdS_b (fun h => ?_) (fun h => ?_) | refine OkS_i (by omega) ?_ | fail)
      all_goals simp_all [wEds]
      all_goals omega
  · have hf : wEds l = false := by simp [wEds]; omega
    repeat' (first | intro _ | (simp [sx_skip, sx_ops, sx_seq, sx_cond, sx_block, sx_exit, sx_ret, sx_mcall, sx_mcell, sx_mset, elAt, setEl, isLst, cellsOf, sxl_nil, sxl_set, sxl_call, sxl_callv, sxl_g1, sxl_g2, sxl_g3, sxl_g4, OkS_true, GrdS_tt, GrdS_tf, GrdS_ft, GrdS_ff, CondS_t, CondS_f, then_n, then_e, then_r, blk_n, blk_e, blk_r, upd_app, Ex.ok, Ex.val, Opd.val, POp.dst, bin_int, binOK_int, bin_str, binOK_str, resOK, resV, RB.val, sub, putc, scB, scL, oneB, conf, Ex.val.eqP, Ex.val.eqL, negV, mxV, mnV, ← wr_eq, wr_zero, wr_one, wr_m1, bst_lst, byteC, partsOK, putAll, appV, nilV, slV, sslV, optB, optNum, and_assoc, exists_and_left, exists_eq_left', *]) | refine CondS_d (fun h => ?_) (fun h => ?_) | refine CondS_b (fun h => ?_) (fun h => ?_) | refine GrdS_d (fun h => ?_) (fun h => ?_) | refine GrdS_b (fun h => ?_) (fun h => ?_) | refine OkS_i (by omega) ?_ | fail)
theorem f123 (l : List Ed) (nl : Bool) (hl : l.length ≤ 1000000000000) (hb : ∀ x ∈ l, x.okay) : Fn Try.prog 123 false [.lst 3 nl (l.map ed)] (.bool (wEds l)) := by
  refine Fn.by_sx hX (by kernel_rfl) c123 (by kernel_rfl) (by rfl) ?_
  simp [i123, sx_skip, sx_ops, sx_seq, sx_cond, sx_block, sx_exit, sx_ret, sx_mcall, sx_mcell, sx_mset, elAt, setEl, isLst, cellsOf, sxl_nil, sxl_set, sxl_call, sxl_callv, sxl_g1, sxl_g2, sxl_g3, sxl_g4, OkS_true, GrdS_tt, GrdS_tf, GrdS_ft, GrdS_ff, CondS_t, CondS_f, then_n, then_e, then_r, blk_n, blk_e, blk_r, upd_app, Ex.ok, Ex.val, Opd.val, POp.dst, bin_int, binOK_int, bin_str, binOK_str, resOK, resV, RB.val, sub, putc, scB, scL, oneB, conf, Ex.val.eqP, Ex.val.eqL, negV, mxV, mnV, ← wr_eq, wr_zero, wr_one, wr_m1, bst_lst, byteC, partsOK, putAll, appV, nilV, slV, sslV, optB, optNum, and_assoc, exists_and_left, exists_eq_left']
  by_cases hL : (l.length : Int) > 6
  · have hf : wEds l = false := by simp [wEds]; omega
    repeat' (first | intro _ | (simp [sx_skip, sx_ops, sx_seq, sx_cond, sx_block, sx_exit, sx_ret, sx_mcall, sx_mcell, sx_mset, elAt, setEl, isLst, cellsOf, sxl_nil, sxl_set, sxl_call, sxl_callv, sxl_g1, sxl_g2, sxl_g3, sxl_g4, OkS_true, GrdS_tt, GrdS_tf, GrdS_ft, GrdS_ff, CondS_t, CondS_f, then_n, then_e, then_r, blk_n, blk_e, blk_r, upd_app, Ex.ok, Ex.val, Opd.val, POp.dst, bin_int, binOK_int, bin_str, binOK_str, resOK, resV, RB.val, sub, putc, scB, scL, oneB, conf, Ex.val.eqP, Ex.val.eqL, negV, mxV, mnV, ← wr_eq, wr_zero, wr_one, wr_m1, bst_lst, byteC, partsOK, putAll, appV, nilV, slV, sslV, optB, optNum, and_assoc, exists_and_left, exists_eq_left', *]) | refine CondS_d (fun h => ?_) (fun h => ?_) | refine CondS_b (fun h => ?_) (fun h => ?_) | refine GrdS_d (fun h => ?_) (fun h => ?_) | refine GrdS_b (fun h => ?_) (fun h => ?_) | refine OkS_i (by omega) ?_ | fail)
  have hL' : l.length ≤ 6 := by omega
  repeat' (first | intro _ | (simp [sx_skip, sx_ops, sx_seq, sx_cond, sx_block, sx_exit, sx_ret, sx_mcall, sx_mcell, sx_mset, elAt, setEl, isLst, cellsOf, sxl_nil, sxl_set, sxl_call, sxl_callv, sxl_g1, sxl_g2, sxl_g3, sxl_g4, OkS_true, GrdS_tt, GrdS_tf, GrdS_ft, GrdS_ff, CondS_t, CondS_f, then_n, then_e, then_r, blk_n, blk_e, blk_r, upd_app, Ex.ok, Ex.val, Opd.val, POp.dst, bin_int, binOK_int, bin_str, binOK_str, resOK, resV, RB.val, sub, putc, scB, scL, oneB, conf, Ex.val.eqP, Ex.val.eqL, negV, mxV, mnV, ← wr_eq, wr_zero, wr_one, wr_m1, bst_lst, byteC, partsOK, putAll, appV, nilV, slV, sslV, optB, optNum, and_assoc, exists_and_left, exists_eq_left', *]) | refine CondS_d (fun h => ?_) (fun h => ?_) | refine CondS_b (fun h => ?_) (fun h => ?_) | refine GrdS_d (fun h => ?_) (fun h => ?_) | refine GrdS_b (fun h => ?_) (fun h => ?_) | refine OkS_i (by omega) ?_ | fail)
  refine sx_count l.length (fun n V => V 0 = .lst 3 nl (l.map ed) ∧ V 9 = .lst 3 nl (l.map ed) ∧ V 10 = i l.length ∧ V 11 = i n ∧ V 3 = i (prevS l n) ∧ allTo (edAt l) n = true) 0 (by omega) (by simp [sx_skip, sx_ops, sx_seq, sx_cond, sx_block, sx_exit, sx_ret, sx_mcall, sx_mcell, sx_mset, elAt, setEl, isLst, cellsOf, sxl_nil, sxl_set, sxl_call, sxl_callv, sxl_g1, sxl_g2, sxl_g3, sxl_g4, OkS_true, GrdS_tt, GrdS_tf, GrdS_ft, GrdS_ff, CondS_t, CondS_f, then_n, then_e, then_r, blk_n, blk_e, blk_r, upd_app, Ex.ok, Ex.val, Opd.val, POp.dst, bin_int, binOK_int, bin_str, binOK_str, resOK, resV, RB.val, sub, putc, scB, scL, oneB, conf, Ex.val.eqP, Ex.val.eqL, negV, mxV, mnV, ← wr_eq, wr_zero, wr_one, wr_m1, bst_lst, byteC, partsOK, putAll, appV, nilV, slV, sslV, optB, optNum, and_assoc, exists_and_left, exists_eq_left', allTo_zero, prevS]) ?_
  rintro n V hn ⟨h0, h9, h10, h11, h3, ha⟩
  have hw : wr .i64 ((n : Int) + 1) = n + 1 := wr_in (by omega) (by omega)
  simp [sx_skip, sx_ops, sx_seq, sx_cond, sx_block, sx_exit, sx_ret, sx_mcall, sx_mcell, sx_mset, elAt, setEl, isLst, cellsOf, sxl_nil, sxl_set, sxl_call, sxl_callv, sxl_g1, sxl_g2, sxl_g3, sxl_g4, OkS_true, GrdS_tt, GrdS_tf, GrdS_ft, GrdS_ff, CondS_t, CondS_f, then_n, then_e, then_r, blk_n, blk_e, blk_r, upd_app, Ex.ok, Ex.val, Opd.val, POp.dst, bin_int, binOK_int, bin_str, binOK_str, resOK, resV, RB.val, sub, putc, scB, scL, oneB, conf, Ex.val.eqP, Ex.val.eqL, negV, mxV, mnV, ← wr_eq, wr_zero, wr_one, wr_m1, bst_lst, byteC, partsOK, putAll, appV, nilV, slV, sslV, optB, optNum, and_assoc, exists_and_left, exists_eq_left', h10, h11]
  refine CondS_d (fun hlt => ?_) (fun hge => ?_)
  · have hlt' : n < l.length := by omega
    have hbad : edAt l n = false → wEds l = false := fun h => by simp [wEds, allTo_bad hlt' h]
    have hgood : edAt l n = true → allTo (edAt l) (n + 1) = true := fun h => by rw [allTo_succ, ha, h]; rfl
    have hok := hb l[n] (List.getElem_mem ..)
    have hsr := f40 l[n].f1 l[n].nl hok.1 hok.2
    have hin := f97 l[n].f0 0 100000
    have hse := f128 (prevS l n) l[n].f0 l[n].f1 l[n].nl hok.1 hok.2
    obtain ⟨S, hS⟩ : ∃ S, slOf (prevS l n) l[n].f0 l[n].f1 = S := ⟨_, rfl⟩
    rw [hS] at hse
    have hpn : prevS l (n + 1) = l[n].f2 := by simp [prevS, hlt']
    have hed : edAt l n = (inR l[n].f0 0 100000 && wSrc l[n].f1 && decide (l[n].f2 = S) && !(decide (0 < n) && decide (l[n].f0 ≤ (l.getD (n - 1) edD).f0))) := by unfold edAt; simp [hlt', hS]
    clear hS
    rcases Nat.eq_zero_or_pos n with rfl | hpos
    · repeat' (first | intro _ | (simp [sx_skip, sx_ops, sx_seq, sx_cond, sx_block, sx_exit, sx_ret, sx_mcall, sx_mcell, sx_mset, elAt, setEl, isLst, cellsOf, sxl_nil, sxl_set, sxl_call, sxl_callv, sxl_g1, sxl_g2, sxl_g3, sxl_g4, OkS_true, GrdS_tt, GrdS_tf, GrdS_ft, GrdS_ff, CondS_t, CondS_f, then_n, then_e, then_r, blk_n, blk_e, blk_r, upd_app, Ex.ok, Ex.val, Opd.val, POp.dst, bin_int, binOK_int, bin_str, binOK_str, resOK, resV, RB.val, sub, putc, scB, scL, oneB, conf, Ex.val.eqP, Ex.val.eqL, negV, mxV, mnV, ← wr_eq, wr_zero, wr_one, wr_m1, bst_lst, byteC, partsOK, putAll, appV, nilV, slV, sslV, optB, optNum, and_assoc, exists_and_left, exists_eq_left', ed, *]) | refine CallS_b (hsr) (fun h => ?_) (fun h => ?_) | refine CallS_b (hin) (fun h => ?_) (fun h => ?_) | refine CallS_i (hse) ?_ | refine CondS_d (fun h => ?_) (fun h => ?_) | refine CondS_b (fun h => ?_) (fun h => ?_) | refine GrdS_d (fun h => ?_) (fun h => ?_) | refine GrdS_b (fun h => ?_) (fun h => ?_) | refine OkS_i (by omega) ?_ | fail)
      all_goals first | (apply hbad; simp_all; done) | (have := hgood (by simp_all); simp_all)
    · have hw2 : wr .i64 ((n : Int) - 1) = ((n - 1 : Nat) : Int) := wrap_down n hpos (by omega)
      have hpos' : (0 : Int) < n := by omega
      have hm : n - 1 < l.length := by omega
      repeat' (first | intro _ | (simp [sx_skip, sx_ops, sx_seq, sx_cond, sx_block, sx_exit, sx_ret, sx_mcall, sx_mcell, sx_mset, elAt, setEl, isLst, cellsOf, sxl_nil, sxl_set, sxl_call, sxl_callv, sxl_g1, sxl_g2, sxl_g3, sxl_g4, OkS_true, GrdS_tt, GrdS_tf, GrdS_ft, GrdS_ff, CondS_t, CondS_f, then_n, then_e, then_r, blk_n, blk_e, blk_r, upd_app, Ex.ok, Ex.val, Opd.val, POp.dst, bin_int, binOK_int, bin_str, binOK_str, resOK, resV, RB.val, sub, putc, scB, scL, oneB, conf, Ex.val.eqP, Ex.val.eqL, negV, mxV, mnV, ← wr_eq, wr_zero, wr_one, wr_m1, bst_lst, byteC, partsOK, putAll, appV, nilV, slV, sslV, optB, optNum, and_assoc, exists_and_left, exists_eq_left', ed, *]) | refine CallS_b (hsr) (fun h => ?_) (fun h => ?_) | refine CallS_b (hin) (fun h => ?_) (fun h => ?_) | refine CallS_i (hse) ?_ | refine CondS_d (fun h => ?_) (fun h => ?_) | refine CondS_b (fun h => ?_) (fun h => ?_) | refine GrdS_d (fun h => ?_) (fun h => ?_) | refine GrdS_b (fun h => ?_) (fun h => ?_) | refine OkS_i (by omega) ?_ | fail)
      all_goals first | (apply hbad; simp_all; done) | (have := hgood (by simp_all); simp_all; done) | (have := hgood (by simp_all; omega); simp_all; done)
  · have : n = l.length := by omega
    subst this
    repeat' (first | intro _ | (simp [sx_skip, sx_ops, sx_seq, sx_cond, sx_block, sx_exit, sx_ret, sx_mcall, sx_mcell, sx_mset, elAt, setEl, isLst, cellsOf, sxl_nil, sxl_set, sxl_call, sxl_callv, sxl_g1, sxl_g2, sxl_g3, sxl_g4, OkS_true, GrdS_tt, GrdS_tf, GrdS_ft, GrdS_ff, CondS_t, CondS_f, then_n, then_e, then_r, blk_n, blk_e, blk_r, upd_app, Ex.ok, Ex.val, Opd.val, POp.dst, bin_int, binOK_int, bin_str, binOK_str, resOK, resV, RB.val, sub, putc, scB, scL, oneB, conf, Ex.val.eqP, Ex.val.eqL, negV, mxV, mnV, ← wr_eq, wr_zero, wr_one, wr_m1, bst_lst, byteC, partsOK, putAll, appV, nilV, slV, sslV, optB, optNum, and_assoc, exists_and_left, exists_eq_left', *]) | refine CondS_d (fun h => ?_) (fun h => ?_) | refine CondS_b (fun h => ?_) (fun h => ?_) | refine GrdS_d (fun h => ?_) (fun h => ?_) | refine GrdS_b (fun h => ?_) (fun h => ?_) | refine OkS_i (by omega) ?_ | fail)
    all_goals simp_all [wEds]
end Go.Eng
namespace Go.Eng
open Go Go.Proofs Geo
set_option linter.unusedSimpArgs false
set_option linter.unusedVariables false
set_option maxRecDepth 20000
set_option maxHeartbeats 1000000

/-! marks. WRITES -/
def dig1 (m : Nat) : ByteArray := ⟨#[UInt8.ofNat (48 + m % 10)]⟩
def mtd (m : Nat) (acc : ByteArray) : ByteArray := if h : m = 0 then acc else mtd (m / 10) (dig1 m ++ acc)
termination_by m
decreasing_by omega
def mt (k : Int) : ByteArray := if k ≤ 0 then bs [109, 48] else bs [109] ++ mtd k.toNat (bs [])
theorem f92 (k : Int) (hk : k ≤ 1000000000000) : Fn Try.prog 92 false [i k] (.str (mt k)) := by
  refine Fn.by_sx hX (by kernel_rfl) c92 (by kernel_rfl) (by rfl) ?_
  simp [i92, sx_skip, sx_ops, sx_seq, sx_cond, sx_block, sx_exit, sx_ret, sx_mcall, sx_mcell, sx_mset, elAt, setEl, isLst, cellsOf, sxl_nil, sxl_set, sxl_call, sxl_callv, sxl_g1, sxl_g2, sxl_g3, sxl_g4, OkS_true, GrdS_tt, GrdS_tf, GrdS_ft, GrdS_ff, CondS_t, CondS_f, then_n, then_e, then_r, blk_n, blk_e, blk_r, upd_app, Ex.ok, Ex.val, Opd.val, POp.dst, bin_int, binOK_int, bin_str, binOK_str, resOK, resV, RB.val, sub, putc, scB, scL, oneB, conf, Ex.val.eqP, Ex.val.eqL, negV, mxV, mnV, ← wr_eq, wr_zero, wr_one, wr_m1, bst_lst, byteC, partsOK, putAll, appV, nilV, slV, sslV, optB, optNum, and_assoc, exists_and_left, exists_eq_left']
  by_cases h0 : k ≤ 0
  · have : mt k = bs [109, 48] := if_pos h0
    repeat' (first | intro _ | (simp [sx_skip, sx_ops, sx_seq, sx_cond, sx_block, sx_exit, sx_ret, sx_mcall, sx_mcell, sx_mset, elAt, setEl, isLst, cellsOf, sxl_nil, sxl_set, sxl_call, sxl_callv, sxl_g1, sxl_g2, sxl_g3, sxl_g4, OkS_true, GrdS_tt, GrdS_tf, GrdS_ft, GrdS_ff, CondS_t, CondS_f, then_n, then_e, then_r, blk_n, blk_e, blk_r, upd_app, Ex.ok, Ex.val, Opd.val, POp.dst, bin_int, binOK_int, bin_str, binOK_str, resOK, resV, RB.val, sub, putc, scB, scL, oneB, conf, Ex.val.eqP, Ex.val.eqL, negV, mxV, mnV, ← wr_eq, wr_zero, wr_one, wr_m1, bst_lst, byteC, partsOK, putAll, appV, nilV, slV, sslV, optB, optNum, and_assoc, exists_and_left, exists_eq_left', *]) | refine CondS_d (fun h => ?_) (fun h => ?_) | refine CondS_b (fun h => ?_) (fun h => ?_) | refine GrdS_d (fun h => ?_) (fun h => ?_) | refine GrdS_b (fun h => ?_) (fun h => ?_) | refine OkS_i (by omega) ?_ | fail)
  · obtain ⟨N, rfl⟩ : ∃ N : Nat, k = N := ⟨k.toNat, by omega⟩
    obtain ⟨D, hD⟩ : ∃ D, mtd N (bs []) = D := ⟨_, rfl⟩
    have hm : mt (N : Int) = bs [109] ++ D := by unfold mt; rw [if_neg h0, Int.toNat_natCast, hD]
    rw [hm]
    clear hm
    have hN0 : ¬ N = 0 := by omega
    repeat' (first | intro _ | (simp [sx_skip, sx_ops, sx_seq, sx_cond, sx_block, sx_exit, sx_ret, sx_mcall, sx_mcell, sx_mset, elAt, setEl, isLst, cellsOf, sxl_nil, sxl_set, sxl_call, sxl_callv, sxl_g1, sxl_g2, sxl_g3, sxl_g4, OkS_true, GrdS_tt, GrdS_tf, GrdS_ft, GrdS_ff, CondS_t, CondS_f, then_n, then_e, then_r, blk_n, blk_e, blk_r, upd_app, Ex.ok, Ex.val, Opd.val, POp.dst, bin_int, binOK_int, bin_str, binOK_str, resOK, resV, RB.val, sub, putc, scB, scL, oneB, conf, Ex.val.eqP, Ex.val.eqL, negV, mxV, mnV, ← wr_eq, wr_zero, wr_one, wr_m1, bst_lst, byteC, partsOK, putAll, appV, nilV, slV, sslV, optB, optNum, and_assoc, exists_and_left, exists_eq_left', *]) | refine CondS_d (fun h => ?_) (fun h => ?_) | refine CondS_b (fun h => ?_) (fun h => ?_) | refine GrdS_d (fun h => ?_) (fun h => ?_) | refine GrdS_b (fun h => ?_) (fun h => ?_) | refine OkS_i (by omega) ?_ | fail)
    refine sx_down (fun m V => ∃ acc : ByteArray, V 3 = .str acc ∧ V 0 = i m ∧ mtd m acc = D ∧ acc.size + m ≤ N) N ⟨bs [], by simp [sx_skip, sx_ops, sx_seq, sx_cond, sx_block, sx_exit, sx_ret, sx_mcall, sx_mcell, sx_mset, elAt, setEl, isLst, cellsOf, sxl_nil, sxl_set, sxl_call, sxl_callv, sxl_g1, sxl_g2, sxl_g3, sxl_g4, OkS_true, GrdS_tt, GrdS_tf, GrdS_ft, GrdS_ff, CondS_t, CondS_f, then_n, then_e, then_r, blk_n, blk_e, blk_r, upd_app, Ex.ok, Ex.val, Opd.val, POp.dst, bin_int, binOK_int, bin_str, binOK_str, resOK, resV, RB.val, sub, putc, scB, scL, oneB, conf, Ex.val.eqP, Ex.val.eqL, negV, mxV, mnV, ← wr_eq, wr_zero, wr_one, wr_m1, bst_lst, byteC, partsOK, putAll, appV, nilV, slV, sslV, optB, optNum, and_assoc, exists_and_left, exists_eq_left'], by simp [sx_skip, sx_ops, sx_seq, sx_cond, sx_block, sx_exit, sx_ret, sx_mcall, sx_mcell, sx_mset, elAt, setEl, isLst, cellsOf, sxl_nil, sxl_set, sxl_call, sxl_callv, sxl_g1, sxl_g2, sxl_g3, sxl_g4, OkS_true, GrdS_tt, GrdS_tf, GrdS_ft, GrdS_ff, CondS_t, CondS_f, then_n, then_e, then_r, blk_n, blk_e, blk_r, upd_app, Ex.ok, Ex.val, Opd.val, POp.dst, bin_int, binOK_int, bin_str, binOK_str, resOK, resV, RB.val, sub, putc, scB, scL, oneB, conf, Ex.val.eqP, Ex.val.eqL, negV, mxV, mnV, ← wr_eq, wr_zero, wr_one, wr_m1, bst_lst, byteC, partsOK, putAll, appV, nilV, slV, sslV, optB, optNum, and_assoc, exists_and_left, exists_eq_left'], hD, by show 0 + N ≤ N; omega⟩ ?_
    rintro m V ⟨acc, h3, h0, hd, hsz⟩
    simp [sx_skip, sx_ops, sx_seq, sx_cond, sx_block, sx_exit, sx_ret, sx_mcall, sx_mcell, sx_mset, elAt, setEl, isLst, cellsOf, sxl_nil, sxl_set, sxl_call, sxl_callv, sxl_g1, sxl_g2, sxl_g3, sxl_g4, OkS_true, GrdS_tt, GrdS_tf, GrdS_ft, GrdS_ff, CondS_t, CondS_f, then_n, then_e, then_r, blk_n, blk_e, blk_r, upd_app, Ex.ok, Ex.val, Opd.val, POp.dst, bin_int, binOK_int, bin_str, binOK_str, resOK, resV, RB.val, sub, putc, scB, scL, oneB, conf, Ex.val.eqP, Ex.val.eqL, negV, mxV, mnV, ← wr_eq, wr_zero, wr_one, wr_m1, bst_lst, byteC, partsOK, putAll, appV, nilV, slV, sslV, optB, optNum, and_assoc, exists_and_left, exists_eq_left', h0, h3]
    refine CondS_d (fun hlt => ?_) (fun hge => ?_)
    · have hm0 : ¬ m = 0 := by omega
      have hmt : ((m : Int).tmod 10) = (m : Int) % 10 := Int.tmod_eq_emod_of_nonneg (by omega)
      have hmq : ((m : Int).tdiv 10) = (m : Int) / 10 := Int.tdiv_eq_ediv_of_nonneg (by omega)
      have hw1 : wr .i64 (48 + (m : Int) % 10) = 48 + (m : Int) % 10 := wr_in (by omega) (by omega)
      have hw2 : wr .u8 (48 + (m : Int) % 10) = 48 + (m : Int) % 10 := wr_u8 (by omega) (by omega)
      have hw3 : wr .i64 ((m : Int) / 10) = (m : Int) / 10 := wr_in (by omega) (by omega)
      rw [mtd, dif_neg hm0] at hd
      have hds : (dig1 m).size = 1 := rfl
      have hlt2 : m / 10 < m := by omega
      have htn : (48 + (m : Int) % 10).toNat = 48 + m % 10 := by omega
      have hdd : (⟨#[48 + UInt8.ofNat (m % 10)]⟩ : ByteArray) = dig1 m := by unfold dig1; rw [UInt8.ofNat_add]; rfl
      repeat' (first | intro _ | (simp [sx_skip, sx_ops, sx_seq, sx_cond, sx_block, sx_exit, sx_ret, sx_mcall, sx_mcell, sx_mset, elAt, setEl, isLst, cellsOf, sxl_nil, sxl_set, sxl_call, sxl_callv, sxl_g1, sxl_g2, sxl_g3, sxl_g4, OkS_true, GrdS_tt, GrdS_tf, GrdS_ft, GrdS_ff, CondS_t, CondS_f, then_n, then_e, then_r, blk_n, blk_e, blk_r, upd_app, Ex.ok, Ex.val, Opd.val, POp.dst, bin_int, binOK_int, bin_str, binOK_str, resOK, resV, RB.val, sub, putc, scB, scL, oneB, conf, Ex.val.eqP, Ex.val.eqL, negV, mxV, mnV, ← wr_eq, wr_zero, wr_one, wr_m1, bst_lst, byteC, partsOK, putAll, appV, nilV, slV, sslV, optB, optNum, and_assoc, exists_and_left, exists_eq_left', *]) | refine CondS_d (fun h => ?_) (fun h => ?_) | refine CondS_b (fun h => ?_) (fun h => ?_) | refine GrdS_d (fun h => ?_) (fun h => ?_) | refine GrdS_b (fun h => ?_) (fun h => ?_) | refine OkS_i (by omega) ?_ | fail)
      refine OkS_i ⟨[_], rfl⟩ ?_
      repeat' (first | intro _ | (simp [sx_skip, sx_ops, sx_seq, sx_cond, sx_block, sx_exit, sx_ret, sx_mcall, sx_mcell, sx_mset, elAt, setEl, isLst, cellsOf, sxl_nil, sxl_set, sxl_call, sxl_callv, sxl_g1, sxl_g2, sxl_g3, sxl_g4, OkS_true, GrdS_tt, GrdS_tf, GrdS_ft, GrdS_ff, CondS_t, CondS_f, then_n, then_e, then_r, blk_n, blk_e, blk_r, upd_app, Ex.ok, Ex.val, Opd.val, POp.dst, bin_int, binOK_int, bin_str, binOK_str, resOK, resV, RB.val, sub, putc, scB, scL, oneB, conf, Ex.val.eqP, Ex.val.eqL, negV, mxV, mnV, ← wr_eq, wr_zero, wr_one, wr_m1, bst_lst, byteC, partsOK, putAll, appV, nilV, slV, sslV, optB, optNum, and_assoc, exists_and_left, exists_eq_left', *]) | refine CondS_d (fun h => ?_) (fun h => ?_) | refine CondS_b (fun h => ?_) (fun h => ?_) | refine GrdS_d (fun h => ?_) (fun h => ?_) | refine GrdS_b (fun h => ?_) (fun h => ?_) | refine OkS_i (by omega) ?_ | fail)
      refine ⟨m / 10, hlt2, by omega, hd, ?_⟩
      omega
    · have : m = 0 := by omega
      subst this
      rw [mtd, dif_pos rfl] at hd
      subst hd
      have hb1 : (bs [109]).size = 1 := rfl
      repeat' (first | intro _ | (simp [sx_skip, sx_ops, sx_seq, sx_cond, sx_block, sx_exit, sx_ret, sx_mcall, sx_mcell, sx_mset, elAt, setEl, isLst, cellsOf, sxl_nil, sxl_set, sxl_call, sxl_callv, sxl_g1, sxl_g2, sxl_g3, sxl_g4, OkS_true, GrdS_tt, GrdS_tf, GrdS_ft, GrdS_ff, CondS_t, CondS_f, then_n, then_e, then_r, blk_n, blk_e, blk_r, upd_app, Ex.ok, Ex.val, Opd.val, POp.dst, bin_int, binOK_int, bin_str, binOK_str, resOK, resV, RB.val, sub, putc, scB, scL, oneB, conf, Ex.val.eqP, Ex.val.eqL, negV, mxV, mnV, ← wr_eq, wr_zero, wr_one, wr_m1, bst_lst, byteC, partsOK, putAll, appV, nilV, slV, sslV, optB, optNum, and_assoc, exists_and_left, exists_eq_left', *]) | refine CondS_d (fun h => ?_) (fun h => ?_) | refine CondS_b (fun h => ?_) (fun h => ?_) | refine GrdS_d (fun h => ?_) (fun h => ?_) | refine GrdS_b (fun h => ?_) (fun h => ?_) | refine OkS_i (by omega) ?_ | fail)
      all_goals (rw [hb1]; omega)
/-- a list that is new as far as n, and old behind -/
def mix (a b : List (List PV)) (n : Nat) : List (List PV) := a.take n ++ b.drop n
theorem mix_zero {a b : List (List PV)} : mix a b 0 = b := rfl
theorem mix_full {a b : List (List PV)} (h : a.length = b.length) : mix a b b.length = a := by unfold mix; rw [← h, List.take_length, h, List.drop_length, List.append_nil]
theorem mix_len {a b : List (List PV)} {n : Nat} (h : a.length = b.length) : (mix a b n).length = b.length := by unfold mix; simp; omega
theorem mix_at {a b : List (List PV)} {n : Nat} (h : a.length = b.length) (hn : n < b.length) : (mix a b n)[n]? = some b[n] := by
  unfold mix
  rw [List.getElem?_append_right (by simp; omega), List.getElem?_drop]
  have : n + (n - (a.take n).length) = n := by simp; omega
  rw [this, List.getElem?_eq_getElem hn]
theorem get_of {α : Type} {l : List α} {n : Nat} {x : α} (h : l[n]? = some x) : ∃ hn : n < l.length, l[n] = x := by
  have hn : n < l.length := by
    rcases Nat.lt_or_ge n l.length with h1 | h1
    · exact h1
    · rw [List.getElem?_eq_none h1] at h; cases h
  exact ⟨hn, by rw [List.getElem?_eq_getElem hn] at h; exact Option.some.inj h⟩
theorem mix_set {a b : List (List PV)} {n : Nat} (h : a.length = b.length) (hn : n < b.length) {e : List PV} (he : a[n]? = some e) : (mix a b n).set n e = mix a b (n + 1) := by
  unfold mix
  rw [List.set_append_right _ _ (by simp; omega)]
  have e1 : n - (a.take n).length = 0 := by simp; omega
  rw [e1, List.drop_eq_getElem_cons hn, List.set_cons_zero, List.take_add_one, he]
  simp
def mkInt (k : Int) (j : Nat) : List PV := [i (k + j)]
def mkPt (k : Int) (j : Nat) : Pt := ⟨k + 2 * j, k + 2 * j + 1⟩
theorem f75 (l : List Pt) (nl : Bool) (k : Int) (hnl : nl = true → l = []) (hk0 : 0 ≤ k) (hk : k + 2 * l.length ≤ 1000000000000) :
    FnM Try.prog 75 [.lst 2 nl (l.map cp), i k] (i (k + 2 * l.length)) (.lst 2 nl ((upTo (mkPt k) l.length).map cp)) := by
  obtain ⟨b, hb⟩ : ∃ b : List (List PV), l.map cp = b := ⟨_, rfl⟩
  have hbl : b.length = l.length := by rw [← hb]; simp
  obtain ⟨a, ha⟩ : ∃ a, (upTo (mkPt k) l.length).map cp = a := ⟨_, rfl⟩
  have hal : a.length = b.length := by rw [← ha, List.length_map, upTo_length, hbl]
  rw [ha, hb]
  refine FnM.by_sx hX (by kernel_rfl) c75 rfl rfl rfl ?_
  simp [i75, sx_skip, sx_ops, sx_seq, sx_cond, sx_block, sx_exit, sx_ret, sx_mcall, sx_mcell, sx_mset, elAt, setEl, isLst, cellsOf, sxl_nil, sxl_set, sxl_call, sxl_callv, sxl_g1, sxl_g2, sxl_g3, sxl_g4, OkS_true, GrdS_tt, GrdS_tf, GrdS_ft, GrdS_ff, CondS_t, CondS_f, then_n, then_e, then_r, blk_n, blk_e, blk_r, upd_app, Ex.ok, Ex.val, Opd.val, POp.dst, bin_int, binOK_int, bin_str, binOK_str, resOK, resV, RB.val, sub, putc, scB, scL, oneB, conf, Ex.val.eqP, Ex.val.eqL, negV, mxV, mnV, ← wr_eq, wr_zero, wr_one, wr_m1, bst_lst, byteC, partsOK, putAll, appV, nilV, slV, sslV, optB, optNum, and_assoc, exists_and_left, exists_eq_left']
  refine sx_count l.length (fun n V => V 0 = .lst 2 nl (mix a b n) ∧ V 5 = i n ∧ V 1 = i (k + 2 * n)) 0 (by omega) (by simp [sx_skip, sx_ops, sx_seq, sx_cond, sx_block, sx_exit, sx_ret, sx_mcall, sx_mcell, sx_mset, elAt, setEl, isLst, cellsOf, sxl_nil, sxl_set, sxl_call, sxl_callv, sxl_g1, sxl_g2, sxl_g3, sxl_g4, OkS_true, GrdS_tt, GrdS_tf, GrdS_ft, GrdS_ff, CondS_t, CondS_f, then_n, then_e, then_r, blk_n, blk_e, blk_r, upd_app, Ex.ok, Ex.val, Opd.val, POp.dst, bin_int, binOK_int, bin_str, binOK_str, resOK, resV, RB.val, sub, putc, scB, scL, oneB, conf, Ex.val.eqP, Ex.val.eqL, negV, mxV, mnV, ← wr_eq, wr_zero, wr_one, wr_m1, bst_lst, byteC, partsOK, putAll, appV, nilV, slV, sslV, optB, optNum, and_assoc, exists_and_left, exists_eq_left', mix_zero]) ?_
  rintro n V hn ⟨h0, h5, h1⟩
  have hml := mix_len (n := n) hal
  rw [hbl] at hml
  simp [sx_skip, sx_ops, sx_seq, sx_cond, sx_block, sx_exit, sx_ret, sx_mcall, sx_mcell, sx_mset, elAt, setEl, isLst, cellsOf, sxl_nil, sxl_set, sxl_call, sxl_callv, sxl_g1, sxl_g2, sxl_g3, sxl_g4, OkS_true, GrdS_tt, GrdS_tf, GrdS_ft, GrdS_ff, CondS_t, CondS_f, then_n, then_e, then_r, blk_n, blk_e, blk_r, upd_app, Ex.ok, Ex.val, Opd.val, POp.dst, bin_int, binOK_int, bin_str, binOK_str, resOK, resV, RB.val, sub, putc, scB, scL, oneB, conf, Ex.val.eqP, Ex.val.eqL, negV, mxV, mnV, ← wr_eq, wr_zero, wr_one, wr_m1, bst_lst, byteC, partsOK, putAll, appV, nilV, slV, sslV, optB, optNum, and_assoc, exists_and_left, exists_eq_left', h0, h5]
  refine CondS_d (fun hlt => ?_) (fun hge => ?_)
  · have hlt' : n < l.length := by omega
    have hnb : n < b.length := by omega
    have hf : nl = false := by cases nl with | false => rfl | true => rw [hnl rfl] at hlt'; simp at hlt'
    subst hf
    have hw : wr .i64 ((n : Int) + 1) = n + 1 := wr_in (by omega) (by omega)
    have hw2 : wr .i64 (k + 2 * n + 1) = k + 2 * n + 1 := wr_in (by omega) (by omega)
    have hw3 : wr .i64 (k + 2 * n + 1 + 1) = k + 2 * (n + 1) := by rw [wr_in (by omega) (by omega)]; omega
    have hat : (mix a b n)[n]? = some [i l[n].f0, i l[n].f1] := by rw [mix_at hal hnb]; subst hb; simp [cp]
    obtain ⟨hlm, hat'⟩ := get_of hat
    have hst : (mix a b n).set n [i (k + 2 * n), i (k + 2 * n + 1)] = mix a b (n + 1) := mix_set hal hnb (by rw [← ha, List.getElem?_map, upTo_get hlt']; rfl)
    repeat' (first | intro _ | (simp [sx_skip, sx_ops, sx_seq, sx_cond, sx_block, sx_exit, sx_ret, sx_mcall, sx_mcell, sx_mset, elAt, setEl, isLst, cellsOf, sxl_nil, sxl_set, sxl_call, sxl_callv, sxl_g1, sxl_g2, sxl_g3, sxl_g4, OkS_true, GrdS_tt, GrdS_tf, GrdS_ft, GrdS_ff, CondS_t, CondS_f, then_n, then_e, then_r, blk_n, blk_e, blk_r, upd_app, Ex.ok, Ex.val, Opd.val, POp.dst, bin_int, binOK_int, bin_str, binOK_str, resOK, resV, RB.val, sub, putc, scB, scL, oneB, conf, Ex.val.eqP, Ex.val.eqL, negV, mxV, mnV, ← wr_eq, wr_zero, wr_one, wr_m1, bst_lst, byteC, partsOK, putAll, appV, nilV, slV, sslV, optB, optNum, and_assoc, exists_and_left, exists_eq_left', *]) | refine CondS_d (fun h => ?_) (fun h => ?_) | refine CondS_b (fun h => ?_) (fun h => ?_) | refine GrdS_d (fun h => ?_) (fun h => ?_) | refine GrdS_b (fun h => ?_) (fun h => ?_) | refine OkS_i (by omega) ?_ | fail)
  · have : n = l.length := by omega
    subst this
    have hfu := mix_full hal
    rw [hbl] at hfu
    repeat' (first | intro _ | (simp [sx_skip, sx_ops, sx_seq, sx_cond, sx_block, sx_exit, sx_ret, sx_mcall, sx_mcell, sx_mset, elAt, setEl, isLst, cellsOf, sxl_nil, sxl_set, sxl_call, sxl_callv, sxl_g1, sxl_g2, sxl_g3, sxl_g4, OkS_true, GrdS_tt, GrdS_tf, GrdS_ft, GrdS_ff, CondS_t, CondS_f, then_n, then_e, then_r, blk_n, blk_e, blk_r, upd_app, Ex.ok, Ex.val, Opd.val, POp.dst, bin_int, binOK_int, bin_str, binOK_str, resOK, resV, RB.val, sub, putc, scB, scL, oneB, conf, Ex.val.eqP, Ex.val.eqL, negV, mxV, mnV, ← wr_eq, wr_zero, wr_one, wr_m1, bst_lst, byteC, partsOK, putAll, appV, nilV, slV, sslV, optB, optNum, and_assoc, exists_and_left, exists_eq_left', *]) | refine CondS_d (fun h => ?_) (fun h => ?_) | refine CondS_b (fun h => ?_) (fun h => ?_) | refine GrdS_d (fun h => ?_) (fun h => ?_) | refine GrdS_b (fun h => ?_) (fun h => ?_) | refine OkS_i (by omega) ?_ | fail)
end Go.Eng
namespace Go.Eng
open Go Go.Proofs Geo
set_option linter.unusedSimpArgs false
set_option linter.unusedVariables false
set_option maxRecDepth 20000
set_option maxHeartbeats 1000000

/-! marks of features. WRITES -/
def kTo (l : List Ft) (k : Int) : Nat → Int
  | 0 => k
  | n + 1 => kTo l k n + 4 + 2 * ((l.getD n ftD).f4.length : Nat)
def mkFt (k : Int) (x : Ft) : Ft := ⟨k, k + 1, k + 2, mt (k + 3), upTo (mkPt (k + 4)) x.f4.length, x.nl⟩
def mkFtAt (l : List Ft) (k : Int) (j : Nat) : Ft := mkFt (kTo l k j) (l.getD j ftD)
def Ft.nlok (x : Ft) : Prop := x.nl = true → x.f4 = []
theorem kTo_mono {l : List Ft} {k : Int} {n m : Nat} (h : n ≤ m) : kTo l k n ≤ kTo l k m := by
  induction m with
  | zero => obtain rfl : n = 0 := by omega
            exact Int.le_refl _
  | succ m ih =>
    rcases Nat.lt_or_ge m n with h1 | h1
    · obtain rfl : n = m + 1 := by omega
      exact Int.le_refl _
    · have := ih h1
      have h2 : kTo l k (m + 1) = kTo l k m + 4 + 2 * ((l.getD m ftD).f4.length : Nat) := rfl
      omega
theorem f46 (l : List Ft) (nl : Bool) (k : Int) (hnl : nl = true → l = []) (hx : ∀ x ∈ l, x.nlok) (hk0 : 0 ≤ k) (hl : l.length ≤ 1000000000) (hk : kTo l k l.length ≤ 1000000000) :
    FnM Try.prog 46 [.lst 5 nl (l.map ft), i k] (i (kTo l k l.length)) (.lst 5 nl ((upTo (mkFtAt l k) l.length).map ft)) := by
  obtain ⟨b, hb⟩ : ∃ b : List (List PV), l.map ft = b := ⟨_, rfl⟩
  have hbl : b.length = l.length := by rw [← hb]; simp
  obtain ⟨a, ha⟩ : ∃ a, (upTo (mkFtAt l k) l.length).map ft = a := ⟨_, rfl⟩
  have hal : a.length = b.length := by rw [← ha, List.length_map, upTo_length, hbl]
  rw [ha, hb]
  refine FnM.by_sx hX (by kernel_rfl) c46 rfl rfl rfl ?_
  simp [i46, sx_skip, sx_ops, sx_seq, sx_cond, sx_block, sx_exit, sx_ret, sx_mcall, sx_mcell, sx_mset, elAt, setEl, isLst, cellsOf, sxl_nil, sxl_set, sxl_call, sxl_callv, sxl_g1, sxl_g2, sxl_g3, sxl_g4, OkS_true, GrdS_tt, GrdS_tf, GrdS_ft, GrdS_ff, CondS_t, CondS_f, then_n, then_e, then_r, blk_n, blk_e, blk_r, upd_app, Ex.ok, Ex.val, Opd.val, POp.dst, bin_int, binOK_int, bin_str, binOK_str, resOK, resV, RB.val, sub, putc, scB, scL, oneB, conf, Ex.val.eqP, Ex.val.eqL, negV, mxV, mnV, ← wr_eq, wr_zero, wr_one, wr_m1, bst_lst, byteC, partsOK, putAll, appV, nilV, slV, sslV, optB, optNum, and_assoc, exists_and_left, exists_eq_left']
  refine sx_count l.length (fun n V => V 0 = .lst 5 nl (mix a b n) ∧ V 5 = i n ∧ V 1 = i (kTo l k n)) 0 (by omega) (by simp [sx_skip, sx_ops, sx_seq, sx_cond, sx_block, sx_exit, sx_ret, sx_mcall, sx_mcell, sx_mset, elAt, setEl, isLst, cellsOf, sxl_nil, sxl_set, sxl_call, sxl_callv, sxl_g1, sxl_g2, sxl_g3, sxl_g4, OkS_true, GrdS_tt, GrdS_tf, GrdS_ft, GrdS_ff, CondS_t, CondS_f, then_n, then_e, then_r, blk_n, blk_e, blk_r, upd_app, Ex.ok, Ex.val, Opd.val, POp.dst, bin_int, binOK_int, bin_str, binOK_str, resOK, resV, RB.val, sub, putc, scB, scL, oneB, conf, Ex.val.eqP, Ex.val.eqL, negV, mxV, mnV, ← wr_eq, wr_zero, wr_one, wr_m1, bst_lst, byteC, partsOK, putAll, appV, nilV, slV, sslV, optB, optNum, and_assoc, exists_and_left, exists_eq_left', mix_zero, kTo]) ?_
  rintro n V hn ⟨h0, h5, h1⟩
  have hml := mix_len (n := n) hal
  rw [hbl] at hml
  simp [sx_skip, sx_ops, sx_seq, sx_cond, sx_block, sx_exit, sx_ret, sx_mcall, sx_mcell, sx_mset, elAt, setEl, isLst, cellsOf, sxl_nil, sxl_set, sxl_call, sxl_callv, sxl_g1, sxl_g2, sxl_g3, sxl_g4, OkS_true, GrdS_tt, GrdS_tf, GrdS_ft, GrdS_ff, CondS_t, CondS_f, then_n, then_e, then_r, blk_n, blk_e, blk_r, upd_app, Ex.ok, Ex.val, Opd.val, POp.dst, bin_int, binOK_int, bin_str, binOK_str, resOK, resV, RB.val, sub, putc, scB, scL, oneB, conf, Ex.val.eqP, Ex.val.eqL, negV, mxV, mnV, ← wr_eq, wr_zero, wr_one, wr_m1, bst_lst, byteC, partsOK, putAll, appV, nilV, slV, sslV, optB, optNum, and_assoc, exists_and_left, exists_eq_left', h0, h5]
  refine CondS_d (fun hlt => ?_) (fun hge => ?_)
  · have hlt' : n < l.length := by omega
    have hnb : n < b.length := by omega
    have hf : nl = false := by cases nl with | false => rfl | true => rw [hnl rfl] at hlt'; simp at hlt'
    subst hf
    have hm1 := kTo_mono (l := l) (k := k) (n := 0) (m := n) (by omega)
    have hm2 := kTo_mono (l := l) (k := k) (n := n + 1) (m := l.length) (by omega)
    have hks : kTo l k (n + 1) = kTo l k n + 4 + 2 * (l[n].f4.length : Nat) := by simp [kTo, hlt']
    have hm1 : k ≤ kTo l k n := hm1
    have hmk : ft (mkFtAt l k n) = [i (kTo l k n), i (kTo l k n + 1), i (kTo l k n + 2), .str (mt (kTo l k n + 3)), .lst 2 l[n].nl ((upTo (mkPt (kTo l k n + 4)) l[n].f4.length).map cp)] := by unfold mkFtAt mkFt ft; simp [hlt']
    obtain ⟨x, hxe⟩ : ∃ x, l[n] = x := ⟨_, rfl⟩
    have hxo := hx l[n] (List.getElem_mem ..)
    have hat : (mix a b n)[n]? = some [i x.f0, i x.f1, i x.f2, .str x.f3, .lst 2 x.nl (x.f4.map cp)] := by rw [mix_at hal hnb]; subst hb; simp [ft, hxe]
    rw [hxe] at hks hmk hxo
    obtain ⟨q, hq⟩ : ∃ q, kTo l k n = q := ⟨_, rfl⟩
    rw [hq] at hks hmk h1 hm1
    have hst : (mix a b n).set n [i q, i (q + 1), i (q + 2), .str (mt (q + 3)), .lst 2 x.nl ((upTo (mkPt (q + 4)) x.f4.length).map cp)] = mix a b (n + 1) := mix_set hal hnb (by rw [← ha, List.getElem?_map, upTo_get hlt', Option.map_some, hmk])
    obtain ⟨hlm, hat'⟩ := get_of hat
    have hw : wr .i64 ((n : Int) + 1) = n + 1 := wr_in (by omega) (by omega)
    have w1 : wr .i64 (q + 1) = q + 1 := wr_in (by omega) (by omega)
    have w2 : wr .i64 (q + 1 + 1) = q + 2 := by rw [wr_in (by omega) (by omega)]; omega
    have w3 : wr .i64 (q + 2 + 1) = q + 3 := by rw [wr_in (by omega) (by omega)]; omega
    have w4 : wr .i64 (q + 3 + 1) = q + 4 := by rw [wr_in (by omega) (by omega)]; omega
    have c1 := f92 (q + 3) (by omega)
    have c2 := f75 x.f4 x.nl (q + 4) hxo (by omega) (by omega)
    have hks' : q + 4 + 2 * (x.f4.length : Int) = kTo l k (n + 1) := hks.symm
    clear hks hmk ha hb hq
    rw [hks'] at c2
    repeat' (first | intro _ | (simp [sx_skip, sx_ops, sx_seq, sx_cond, sx_block, sx_exit, sx_ret, sx_mcall, sx_mcell, sx_mset, elAt, setEl, isLst, cellsOf, sxl_nil, sxl_set, sxl_call, sxl_callv, sxl_g1, sxl_g2, sxl_g3, sxl_g4, OkS_true, GrdS_tt, GrdS_tf, GrdS_ft, GrdS_ff, CondS_t, CondS_f, then_n, then_e, then_r, blk_n, blk_e, blk_r, upd_app, Ex.ok, Ex.val, Opd.val, POp.dst, bin_int, binOK_int, bin_str, binOK_str, resOK, resV, RB.val, sub, putc, scB, scL, oneB, conf, Ex.val.eqP, Ex.val.eqL, negV, mxV, mnV, ← wr_eq, wr_zero, wr_one, wr_m1, bst_lst, byteC, partsOK, putAll, appV, nilV, slV, sslV, optB, optNum, and_assoc, exists_and_left, exists_eq_left', cp, *]) | refine CallS_i (c1) ?_ | refine CallS_i (c2) ?_ | refine CallM_i (c1) ?_ | refine CallM_i (c2) ?_ | refine CallE_i (c1) ?_ | refine CallE_i (c2) ?_ | refine CondS_d (fun h => ?_) (fun h => ?_) | refine CondS_b (fun h => ?_) (fun h => ?_) | refine GrdS_d (fun h => ?_) (fun h => ?_) | refine GrdS_b (fun h => ?_) (fun h => ?_) | refine OkS_i (by omega) ?_ | fail)
  · have : n = l.length := by omega
    subst this
    have hfu := mix_full hal
    rw [hbl] at hfu
    repeat' (first | intro _ | (simp [sx_skip, sx_ops, sx_seq, sx_cond, sx_block, sx_exit, sx_ret, sx_mcall, sx_mcell, sx_mset, elAt, setEl, isLst, cellsOf, sxl_nil, sxl_set, sxl_call, sxl_callv, sxl_g1, sxl_g2, sxl_g3, sxl_g4, OkS_true, GrdS_tt, GrdS_tf, GrdS_ft, GrdS_ff, CondS_t, CondS_f, then_n, then_e, then_r, blk_n, blk_e, blk_r, upd_app, Ex.ok, Ex.val, Opd.val, POp.dst, bin_int, binOK_int, bin_str, binOK_str, resOK, resV, RB.val, sub, putc, scB, scL, oneB, conf, Ex.val.eqP, Ex.val.eqL, negV, mxV, mnV, ← wr_eq, wr_zero, wr_one, wr_m1, bst_lst, byteC, partsOK, putAll, appV, nilV, slV, sslV, optB, optNum, and_assoc, exists_and_left, exists_eq_left', *]) | refine CondS_d (fun h => ?_) (fun h => ?_) | refine CondS_b (fun h => ?_) (fun h => ?_) | refine GrdS_d (fun h => ?_) (fun h => ?_) | refine GrdS_b (fun h => ?_) (fun h => ?_) | refine OkS_i (by omega) ?_ | fail)
theorem kTo_le (l : List Ft) : ∀ n : Nat, n ≤ l.length → ∀ k : Int, kTo l k n ≤ k + 4 * n + 2 * (wtToF l n : Nat)
  | 0, _, k => by simp [kTo]; omega
  | n + 1, hn, k => by
    have h1 := kTo_le l n (by omega) k
    have h2 := wtToF_succ (l := l) (n := n) (by omega)
    have h3 : wtF l[n] = l[n].f3.size + l[n].f4.length := rfl
    have h4 : kTo l k (n + 1) = kTo l k n + 4 + 2 * (l[n].f4.length : Nat) := by simp [kTo, show n < l.length by omega]
    omega
end Go.Eng
namespace Go.Eng
open Go Go.Proofs Geo
set_option linter.unusedSimpArgs false
set_option linter.unusedVariables false
set_option maxRecDepth 20000
set_option maxHeartbeats 1000000

/-! marks that are read again. WRITES -/
theorem f76 (N : Nat) (nl : Bool) (k : Int) (hk0 : 0 ≤ k) (hk : k + 2 * N ≤ 1000000000000) :
    Fn Try.prog 76 false [.lst 2 nl ((upTo (mkPt k) N).map cp), i k] (i (k + 2 * N)) := by
  obtain ⟨a, ha⟩ : ∃ a, (upTo (mkPt k) N).map cp = a := ⟨_, rfl⟩
  have hal : a.length = N := by rw [← ha, List.length_map, upTo_length]
  rw [ha]
  refine Fn.by_sx hX (by kernel_rfl) c76 (by kernel_rfl) (by rfl) ?_
  simp [i76, sx_skip, sx_ops, sx_seq, sx_cond, sx_block, sx_exit, sx_ret, sx_mcall, sx_mcell, sx_mset, elAt, setEl, isLst, cellsOf, sxl_nil, sxl_set, sxl_call, sxl_callv, sxl_g1, sxl_g2, sxl_g3, sxl_g4, OkS_true, GrdS_tt, GrdS_tf, GrdS_ft, GrdS_ff, CondS_t, CondS_f, then_n, then_e, then_r, blk_n, blk_e, blk_r, upd_app, Ex.ok, Ex.val, Opd.val, POp.dst, bin_int, binOK_int, bin_str, binOK_str, resOK, resV, RB.val, sub, putc, scB, scL, oneB, conf, Ex.val.eqP, Ex.val.eqL, negV, mxV, mnV, ← wr_eq, wr_zero, wr_one, wr_m1, bst_lst, byteC, partsOK, putAll, appV, nilV, slV, sslV, optB, optNum, and_assoc, exists_and_left, exists_eq_left']
  refine sx_count N (fun n V => V 0 = .lst 2 nl a ∧ V 5 = i n ∧ V 1 = i (k + 2 * n)) 0 (by omega) (by simp [sx_skip, sx_ops, sx_seq, sx_cond, sx_block, sx_exit, sx_ret, sx_mcall, sx_mcell, sx_mset, elAt, setEl, isLst, cellsOf, sxl_nil, sxl_set, sxl_call, sxl_callv, sxl_g1, sxl_g2, sxl_g3, sxl_g4, OkS_true, GrdS_tt, GrdS_tf, GrdS_ft, GrdS_ff, CondS_t, CondS_f, then_n, then_e, then_r, blk_n, blk_e, blk_r, upd_app, Ex.ok, Ex.val, Opd.val, POp.dst, bin_int, binOK_int, bin_str, binOK_str, resOK, resV, RB.val, sub, putc, scB, scL, oneB, conf, Ex.val.eqP, Ex.val.eqL, negV, mxV, mnV, ← wr_eq, wr_zero, wr_one, wr_m1, bst_lst, byteC, partsOK, putAll, appV, nilV, slV, sslV, optB, optNum, and_assoc, exists_and_left, exists_eq_left']) ?_
  rintro n V hn ⟨h0, h5, h1⟩
  simp [sx_skip, sx_ops, sx_seq, sx_cond, sx_block, sx_exit, sx_ret, sx_mcall, sx_mcell, sx_mset, elAt, setEl, isLst, cellsOf, sxl_nil, sxl_set, sxl_call, sxl_callv, sxl_g1, sxl_g2, sxl_g3, sxl_g4, OkS_true, GrdS_tt, GrdS_tf, GrdS_ft, GrdS_ff, CondS_t, CondS_f, then_n, then_e, then_r, blk_n, blk_e, blk_r, upd_app, Ex.ok, Ex.val, Opd.val, POp.dst, bin_int, binOK_int, bin_str, binOK_str, resOK, resV, RB.val, sub, putc, scB, scL, oneB, conf, Ex.val.eqP, Ex.val.eqL, negV, mxV, mnV, ← wr_eq, wr_zero, wr_one, wr_m1, bst_lst, byteC, partsOK, putAll, appV, nilV, slV, sslV, optB, optNum, and_assoc, exists_and_left, exists_eq_left', h0, h5]
  refine CondS_d (fun hlt => ?_) (fun hge => ?_)
  · have hlt' : n < N := by omega
    have hw : wr .i64 ((n : Int) + 1) = n + 1 := wr_in (by omega) (by omega)
    have hw2 : wr .i64 (k + 2 * n + 1) = k + 2 * n + 1 := wr_in (by omega) (by omega)
    have hw3 : wr .i64 (k + 2 * n + 1 + 1) = k + 2 * (n + 1) := by rw [wr_in (by omega) (by omega)]; omega
    have hat : a[n]? = some [i (k + 2 * n), i (k + 2 * n + 1)] := by rw [← ha, List.getElem?_map, upTo_get hlt']; rfl
    obtain ⟨hlm, hat'⟩ := get_of hat
    repeat' (first | intro _ | (simp [sx_skip, sx_ops, sx_seq, sx_cond, sx_block, sx_exit, sx_ret, sx_mcall, sx_mcell, sx_mset, elAt, setEl, isLst, cellsOf, sxl_nil, sxl_set, sxl_call, sxl_callv, sxl_g1, sxl_g2, sxl_g3, sxl_g4, OkS_true, GrdS_tt, GrdS_tf, GrdS_ft, GrdS_ff, CondS_t, CondS_f, then_n, then_e, then_r, blk_n, blk_e, blk_r, upd_app, Ex.ok, Ex.val, Opd.val, POp.dst, bin_int, binOK_int, bin_str, binOK_str, resOK, resV, RB.val, sub, putc, scB, scL, oneB, conf, Ex.val.eqP, Ex.val.eqL, negV, mxV, mnV, ← wr_eq, wr_zero, wr_one, wr_m1, bst_lst, byteC, partsOK, putAll, appV, nilV, slV, sslV, optB, optNum, and_assoc, exists_and_left, exists_eq_left', *]) | refine CondS_d (fun h => ?_) (fun h => ?_) | refine CondS_b (fun h => ?_) (fun h => ?_) | refine GrdS_d (fun h => ?_) (fun h => ?_) | refine GrdS_b (fun h => ?_) (fun h => ?_) | refine OkS_i (by omega) ?_ | fail)
  · have : n = N := by omega
    subst this
    repeat' (first | intro _ | (simp [sx_skip, sx_ops, sx_seq, sx_cond, sx_block, sx_exit, sx_ret, sx_mcall, sx_mcell, sx_mset, elAt, setEl, isLst, cellsOf, sxl_nil, sxl_set, sxl_call, sxl_callv, sxl_g1, sxl_g2, sxl_g3, sxl_g4, OkS_true, GrdS_tt, GrdS_tf, GrdS_ft, GrdS_ff, CondS_t, CondS_f, then_n, then_e, then_r, blk_n, blk_e, blk_r, upd_app, Ex.ok, Ex.val, Opd.val, POp.dst, bin_int, binOK_int, bin_str, binOK_str, resOK, resV, RB.val, sub, putc, scB, scL, oneB, conf, Ex.val.eqP, Ex.val.eqL, negV, mxV, mnV, ← wr_eq, wr_zero, wr_one, wr_m1, bst_lst, byteC, partsOK, putAll, appV, nilV, slV, sslV, optB, optNum, and_assoc, exists_and_left, exists_eq_left', *]) | refine CondS_d (fun h => ?_) (fun h => ?_) | refine CondS_b (fun h => ?_) (fun h => ?_) | refine GrdS_d (fun h => ?_) (fun h => ?_) | refine GrdS_b (fun h => ?_) (fun h => ?_) | refine OkS_i (by omega) ?_ | fail)
theorem f48 (l : List Ft) (nl : Bool) (k : Int) (hk0 : 0 ≤ k) (hl : l.length ≤ 1000000000) (hk : kTo l k l.length ≤ 1000000000) :
    Fn Try.prog 48 false [.lst 5 nl ((upTo (mkFtAt l k) l.length).map ft), i k] (i (kTo l k l.length)) := by
  obtain ⟨a, ha⟩ : ∃ a, (upTo (mkFtAt l k) l.length).map ft = a := ⟨_, rfl⟩
  have hal : a.length = l.length := by rw [← ha, List.length_map, upTo_length]
  rw [ha]
  refine Fn.by_sx hX (by kernel_rfl) c48 (by kernel_rfl) (by rfl) ?_
  simp [i48, sx_skip, sx_ops, sx_seq, sx_cond, sx_block, sx_exit, sx_ret, sx_mcall, sx_mcell, sx_mset, elAt, setEl, isLst, cellsOf, sxl_nil, sxl_set, sxl_call, sxl_callv, sxl_g1, sxl_g2, sxl_g3, sxl_g4, OkS_true, GrdS_tt, GrdS_tf, GrdS_ft, GrdS_ff, CondS_t, CondS_f, then_n, then_e, then_r, blk_n, blk_e, blk_r, upd_app, Ex.ok, Ex.val, Opd.val, POp.dst, bin_int, binOK_int, bin_str, binOK_str, resOK, resV, RB.val, sub, putc, scB, scL, oneB, conf, Ex.val.eqP, Ex.val.eqL, negV, mxV, mnV, ← wr_eq, wr_zero, wr_one, wr_m1, bst_lst, byteC, partsOK, putAll, appV, nilV, slV, sslV, optB, optNum, and_assoc, exists_and_left, exists_eq_left']
  refine sx_count l.length (fun n V => V 0 = .lst 5 nl a ∧ V 5 = i n ∧ V 1 = i (kTo l k n)) 0 (by omega) (by simp [sx_skip, sx_ops, sx_seq, sx_cond, sx_block, sx_exit, sx_ret, sx_mcall, sx_mcell, sx_mset, elAt, setEl, isLst, cellsOf, sxl_nil, sxl_set, sxl_call, sxl_callv, sxl_g1, sxl_g2, sxl_g3, sxl_g4, OkS_true, GrdS_tt, GrdS_tf, GrdS_ft, GrdS_ff, CondS_t, CondS_f, then_n, then_e, then_r, blk_n, blk_e, blk_r, upd_app, Ex.ok, Ex.val, Opd.val, POp.dst, bin_int, binOK_int, bin_str, binOK_str, resOK, resV, RB.val, sub, putc, scB, scL, oneB, conf, Ex.val.eqP, Ex.val.eqL, negV, mxV, mnV, ← wr_eq, wr_zero, wr_one, wr_m1, bst_lst, byteC, partsOK, putAll, appV, nilV, slV, sslV, optB, optNum, and_assoc, exists_and_left, exists_eq_left', kTo]) ?_
  rintro n V hn ⟨h0, h5, h1⟩
  simp [sx_skip, sx_ops, sx_seq, sx_cond, sx_block, sx_exit, sx_ret, sx_mcall, sx_mcell, sx_mset, elAt, setEl, isLst, cellsOf, sxl_nil, sxl_set, sxl_call, sxl_callv, sxl_g1, sxl_g2, sxl_g3, sxl_g4, OkS_true, GrdS_tt, GrdS_tf, GrdS_ft, GrdS_ff, CondS_t, CondS_f, then_n, then_e, then_r, blk_n, blk_e, blk_r, upd_app, Ex.ok, Ex.val, Opd.val, POp.dst, bin_int, binOK_int, bin_str, binOK_str, resOK, resV, RB.val, sub, putc, scB, scL, oneB, conf, Ex.val.eqP, Ex.val.eqL, negV, mxV, mnV, ← wr_eq, wr_zero, wr_one, wr_m1, bst_lst, byteC, partsOK, putAll, appV, nilV, slV, sslV, optB, optNum, and_assoc, exists_and_left, exists_eq_left', h0, h5]
  refine CondS_d (fun hlt => ?_) (fun hge => ?_)
  · have hlt' : n < l.length := by omega
    have hm1 := kTo_mono (l := l) (k := k) (n := 0) (m := n) (by omega)
    have hm2 := kTo_mono (l := l) (k := k) (n := n + 1) (m := l.length) (by omega)
    have hks : kTo l k (n + 1) = kTo l k n + 4 + 2 * (l[n].f4.length : Nat) := by simp [kTo, hlt']
    have hm1 : k ≤ kTo l k n := hm1
    have hmk : ft (mkFtAt l k n) = [i (kTo l k n), i (kTo l k n + 1), i (kTo l k n + 2), .str (mt (kTo l k n + 3)), .lst 2 l[n].nl ((upTo (mkPt (kTo l k n + 4)) l[n].f4.length).map cp)] := by unfold mkFtAt mkFt ft; simp [hlt']
    obtain ⟨x, hxe⟩ : ∃ x, l[n] = x := ⟨_, rfl⟩
    rw [hxe] at hks hmk
    obtain ⟨q, hq⟩ : ∃ q, kTo l k n = q := ⟨_, rfl⟩
    rw [hq] at hks hmk h1 hm1
    have hat : a[n]? = some [i q, i (q + 1), i (q + 2), .str (mt (q + 3)), .lst 2 x.nl ((upTo (mkPt (q + 4)) x.f4.length).map cp)] := by rw [← ha, List.getElem?_map, upTo_get hlt', Option.map_some, hmk]
    obtain ⟨hlm, hat'⟩ := get_of hat
    have hw : wr .i64 ((n : Int) + 1) = n + 1 := wr_in (by omega) (by omega)
    have w1 : wr .i64 (q + 1) = q + 1 := wr_in (by omega) (by omega)
    have w2 : wr .i64 (q + 1 + 1) = q + 2 := by rw [wr_in (by omega) (by omega)]; omega
    have w3 : wr .i64 (q + 2 + 1) = q + 3 := by rw [wr_in (by omega) (by omega)]; omega
    have w4 : wr .i64 (q + 3 + 1) = q + 4 := by rw [wr_in (by omega) (by omega)]; omega
    have c1 := f92 (q + 3) (by omega)
    have c2 := f76 x.f4.length x.nl (q + 4) (by omega) (by omega)
    have hks' : q + 4 + 2 * (x.f4.length : Int) = kTo l k (n + 1) := hks.symm
    have hneg : ¬ kTo l k (n + 1) < 0 := by omega
    clear hks hmk ha hq
    rw [hks'] at c2
    obtain ⟨T, hT⟩ : ∃ T, mt (q + 3) = T := ⟨_, rfl⟩
    rw [hT] at c1 hat hat'
    clear hT
    repeat' (first | intro _ | (simp [sx_skip, sx_ops, sx_seq, sx_cond, sx_block, sx_exit, sx_ret, sx_mcall, sx_mcell, sx_mset, elAt, setEl, isLst, cellsOf, sxl_nil, sxl_set, sxl_call, sxl_callv, sxl_g1, sxl_g2, sxl_g3, sxl_g4, OkS_true, GrdS_tt, GrdS_tf, GrdS_ft, GrdS_ff, CondS_t, CondS_f, then_n, then_e, then_r, blk_n, blk_e, blk_r, upd_app, Ex.ok, Ex.val, Opd.val, POp.dst, bin_int, binOK_int, bin_str, binOK_str, resOK, resV, RB.val, sub, putc, scB, scL, oneB, conf, Ex.val.eqP, Ex.val.eqL, negV, mxV, mnV, ← wr_eq, wr_zero, wr_one, wr_m1, bst_lst, byteC, partsOK, putAll, appV, nilV, slV, sslV, optB, optNum, and_assoc, exists_and_left, exists_eq_left', *]) | refine CallS_i (c1) ?_ | refine CallS_i (c2) ?_ | refine CallM_i (c1) ?_ | refine CallM_i (c2) ?_ | refine CallE_i (c1) ?_ | refine CallE_i (c2) ?_ | refine CondS_d (fun h => ?_) (fun h => ?_) | refine CondS_b (fun h => ?_) (fun h => ?_) | refine GrdS_d (fun h => ?_) (fun h => ?_) | refine GrdS_b (fun h => ?_) (fun h => ?_) | refine OkS_i (by omega) ?_ | fail)
  · have : n = l.length := by omega
    subst this
    repeat' (first | intro _ | (simp [sx_skip, sx_ops, sx_seq, sx_cond, sx_block, sx_exit, sx_ret, sx_mcall, sx_mcell, sx_mset, elAt, setEl, isLst, cellsOf, sxl_nil, sxl_set, sxl_call, sxl_callv, sxl_g1, sxl_g2, sxl_g3, sxl_g4, OkS_true, GrdS_tt, GrdS_tf, GrdS_ft, GrdS_ff, CondS_t, CondS_f, then_n, then_e, then_r, blk_n, blk_e, blk_r, upd_app, Ex.ok, Ex.val, Opd.val, POp.dst, bin_int, binOK_int, bin_str, binOK_str, resOK, resV, RB.val, sub, putc, scB, scL, oneB, conf, Ex.val.eqP, Ex.val.eqL, negV, mxV, mnV, ← wr_eq, wr_zero, wr_one, wr_m1, bst_lst, byteC, partsOK, putAll, appV, nilV, slV, sslV, optB, optNum, and_assoc, exists_and_left, exists_eq_left', *]) | refine CondS_d (fun h => ?_) (fun h => ?_) | refine CondS_b (fun h => ?_) (fun h => ?_) | refine GrdS_d (fun h => ?_) (fun h => ?_) | refine GrdS_b (fun h => ?_) (fun h => ?_) | refine OkS_i (by omega) ?_ | fail)
def kToE (l : List En) (k : Int) : Nat → Int
  | 0 => k
  | n + 1 => kToE l k n + 7 + 2 * ((l.getD n enD).f0.f4.length : Nat)
def mkEn (k : Int) (x : En) : En := ⟨mkFt k x.f0, k + 4 + 2 * (x.f0.f4.length : Nat), k + 5 + 2 * (x.f0.f4.length : Nat), decide ((k + 6 + 2 * (x.f0.f4.length : Nat)).tmod 3 = 0)⟩
def mkEnAt (l : List En) (k : Int) (j : Nat) : En := mkEn (kToE l k j) (l.getD j enD)
theorem kToE_mono {l : List En} {k : Int} {n m : Nat} (h : n ≤ m) : kToE l k n ≤ kToE l k m := by
  induction m with
  | zero => obtain rfl : n = 0 := by omega
            exact Int.le_refl _
  | succ m ih =>
    rcases Nat.lt_or_ge m n with h1 | h1
    · obtain rfl : n = m + 1 := by omega
      exact Int.le_refl _
    · have := ih h1
      have h2 : kToE l k (m + 1) = kToE l k m + 7 + 2 * ((l.getD m enD).f0.f4.length : Nat) := rfl
      omega
theorem kToE_le (l : List En) : ∀ n : Nat, n ≤ l.length → ∀ k : Int, kToE l k n ≤ k + 7 * n + 2 * (wtTo l n : Nat)
  | 0, _, k => by simp [kToE]; omega
  | n + 1, hn, k => by
    have h1 := kToE_le l n (by omega) k
    have h2 := wtTo_succ (l := l) (n := n) (by omega)
    have h3 : wtF l[n].f0 = l[n].f0.f3.size + l[n].f0.f4.length := rfl
    have h4 : kToE l k (n + 1) = kToE l k n + 7 + 2 * (l[n].f0.f4.length : Nat) := by simp [kToE, show n < l.length by omega]
    omega
end Go.Eng
namespace Go.Eng
open Go Go.Proofs Geo
set_option linter.unusedSimpArgs false
set_option linter.unusedVariables false
set_option maxRecDepth 20000
set_option maxHeartbeats 1000000

/-! the source of a log. WRITES -/
theorem cp_sc (l : List Pt) : ∀ cs ∈ l.map cp, scL cs = true := by
  intro cs hcs
  obtain ⟨p, _, rfl⟩ := List.mem_map.1 hcs
  rfl
theorem cp_sc2 (l : List Pt) : (∀ cs ∈ l.map cp, scL cs = true) = True := by simp only [eq_iff_iff, iff_true]; exact cp_sc l
theorem cp_sc3 (l : List Pt) : (∀ a ∈ l, scL (cp a) = true) = True := by simp only [eq_iff_iff, iff_true]; exact fun _ _ => rfl
theorem f112 (x : Ft) (hx : x.f4.length ≤ 1000000000) : Fn Try.prog 112 true [.agg (ft x)] (.agg (ft x.fr)) := by
  have hs := cp_sc3 x.f4
  unfold ft Ft.fr
  refine Fn.by_sx hX (by kernel_rfl) c112 (by kernel_rfl) (by rfl) ?_
  simp [i112, sx_skip, sx_ops, sx_seq, sx_cond, sx_block, sx_exit, sx_ret, sx_mcall, sx_mcell, sx_mset, elAt, setEl, isLst, cellsOf, sxl_nil, sxl_set, sxl_call, sxl_callv, sxl_g1, sxl_g2, sxl_g3, sxl_g4, OkS_true, GrdS_tt, GrdS_tf, GrdS_ft, GrdS_ff, CondS_t, CondS_f, then_n, then_e, then_r, blk_n, blk_e, blk_r, upd_app, Ex.ok, Ex.val, Opd.val, POp.dst, bin_int, binOK_int, bin_str, binOK_str, resOK, resV, RB.val, sub, putc, scB, scL, oneB, conf, Ex.val.eqP, Ex.val.eqL, negV, mxV, mnV, ← wr_eq, wr_zero, wr_one, wr_m1, bst_lst, byteC, partsOK, putAll, appV, nilV, slV, sslV, optB, optNum, and_assoc, exists_and_left, exists_eq_left']
  repeat' (first | intro _ | (simp [sx_skip, sx_ops, sx_seq, sx_cond, sx_block, sx_exit, sx_ret, sx_mcall, sx_mcell, sx_mset, elAt, setEl, isLst, cellsOf, sxl_nil, sxl_set, sxl_call, sxl_callv, sxl_g1, sxl_g2, sxl_g3, sxl_g4, OkS_true, GrdS_tt, GrdS_tf, GrdS_ft, GrdS_ff, CondS_t, CondS_f, then_n, then_e, then_r, blk_n, blk_e, blk_r, upd_app, Ex.ok, Ex.val, Opd.val, POp.dst, bin_int, binOK_int, bin_str, binOK_str, resOK, resV, RB.val, sub, putc, scB, scL, oneB, conf, Ex.val.eqP, Ex.val.eqL, negV, mxV, mnV, ← wr_eq, wr_zero, wr_one, wr_m1, bst_lst, byteC, partsOK, putAll, appV, nilV, slV, sslV, optB, optNum, and_assoc, exists_and_left, exists_eq_left', *]) | refine CondS_d (fun h => ?_) (fun h => ?_) | refine CondS_b (fun h => ?_) (fun h => ?_) | refine GrdS_d (fun h => ?_) (fun h => ?_) | refine GrdS_b (fun h => ?_) (fun h => ?_) | refine OkS_i (by omega) ?_ | fail)
  all_goals omega
theorem f140 (l : List Pt) (hl : l.length ≤ 1000000000) : Fn Try.prog 140 true [.lst 2 false (l.map cp)] (.lst 2 false (l.map cp)) := by
  have hs := cp_sc3 l
  refine Fn.by_sx hX (by kernel_rfl) c140 (by kernel_rfl) (by rfl) ?_
  simp [i140, sx_skip, sx_ops, sx_seq, sx_cond, sx_block, sx_exit, sx_ret, sx_mcall, sx_mcell, sx_mset, elAt, setEl, isLst, cellsOf, sxl_nil, sxl_set, sxl_call, sxl_callv, sxl_g1, sxl_g2, sxl_g3, sxl_g4, OkS_true, GrdS_tt, GrdS_tf, GrdS_ft, GrdS_ff, CondS_t, CondS_f, then_n, then_e, then_r, blk_n, blk_e, blk_r, upd_app, Ex.ok, Ex.val, Opd.val, POp.dst, bin_int, binOK_int, bin_str, binOK_str, resOK, resV, RB.val, sub, putc, scB, scL, oneB, conf, Ex.val.eqP, Ex.val.eqL, negV, mxV, mnV, ← wr_eq, wr_zero, wr_one, wr_m1, bst_lst, byteC, partsOK, putAll, appV, nilV, slV, sslV, optB, optNum, and_assoc, exists_and_left, exists_eq_left']
  repeat' (first | intro _ | (simp [sx_skip, sx_ops, sx_seq, sx_cond, sx_block, sx_exit, sx_ret, sx_mcall, sx_mcell, sx_mset, elAt, setEl, isLst, cellsOf, sxl_nil, sxl_set, sxl_call, sxl_callv, sxl_g1, sxl_g2, sxl_g3, sxl_g4, OkS_true, GrdS_tt, GrdS_tf, GrdS_ft, GrdS_ff, CondS_t, CondS_f, then_n, then_e, then_r, blk_n, blk_e, blk_r, upd_app, Ex.ok, Ex.val, Opd.val, POp.dst, bin_int, binOK_int, bin_str, binOK_str, resOK, resV, RB.val, sub, putc, scB, scL, oneB, conf, Ex.val.eqP, Ex.val.eqL, negV, mxV, mnV, ← wr_eq, wr_zero, wr_one, wr_m1, bst_lst, byteC, partsOK, putAll, appV, nilV, slV, sslV, optB, optNum, and_assoc, exists_and_left, exists_eq_left', *]) | refine CondS_d (fun h => ?_) (fun h => ?_) | refine CondS_b (fun h => ?_) (fun h => ?_) | refine GrdS_d (fun h => ?_) (fun h => ?_) | refine GrdS_b (fun h => ?_) (fun h => ?_) | refine OkS_i (by omega) ?_ | fail)
  all_goals omega
theorem f90 (x : Ft) (hn : x.nl = false) (hx : x.f4.length ≤ 1000000000) : Fn Try.prog 90 true [.agg (ft x)] (.agg (ft x.fr)) := by
  have hc := f140 x.f4 hx
  unfold ft Ft.fr
  rw [hn]
  refine Fn.by_sx hX (by kernel_rfl) c90 (by kernel_rfl) (by rfl) ?_
  simp [i90, sx_skip, sx_ops, sx_seq, sx_cond, sx_block, sx_exit, sx_ret, sx_mcall, sx_mcell, sx_mset, elAt, setEl, isLst, cellsOf, sxl_nil, sxl_set, sxl_call, sxl_callv, sxl_g1, sxl_g2, sxl_g3, sxl_g4, OkS_true, GrdS_tt, GrdS_tf, GrdS_ft, GrdS_ff, CondS_t, CondS_f, then_n, then_e, then_r, blk_n, blk_e, blk_r, upd_app, Ex.ok, Ex.val, Opd.val, POp.dst, bin_int, binOK_int, bin_str, binOK_str, resOK, resV, RB.val, sub, putc, scB, scL, oneB, conf, Ex.val.eqP, Ex.val.eqL, negV, mxV, mnV, ← wr_eq, wr_zero, wr_one, wr_m1, bst_lst, byteC, partsOK, putAll, appV, nilV, slV, sslV, optB, optNum, and_assoc, exists_and_left, exists_eq_left']
  repeat' (first | intro _ | (simp [sx_skip, sx_ops, sx_seq, sx_cond, sx_block, sx_exit, sx_ret, sx_mcall, sx_mcell, sx_mset, elAt, setEl, isLst, cellsOf, sxl_nil, sxl_set, sxl_call, sxl_callv, sxl_g1, sxl_g2, sxl_g3, sxl_g4, OkS_true, GrdS_tt, GrdS_tf, GrdS_ft, GrdS_ff, CondS_t, CondS_f, then_n, then_e, then_r, blk_n, blk_e, blk_r, upd_app, Ex.ok, Ex.val, Opd.val, POp.dst, bin_int, binOK_int, bin_str, binOK_str, resOK, resV, RB.val, sub, putc, scB, scL, oneB, conf, Ex.val.eqP, Ex.val.eqL, negV, mxV, mnV, ← wr_eq, wr_zero, wr_one, wr_m1, bst_lst, byteC, partsOK, putAll, appV, nilV, slV, sslV, optB, optNum, and_assoc, exists_and_left, exists_eq_left', *]) | refine CallS_i (hc) ?_ | refine CallM_i (hc) ?_ | refine CallE_i (hc) ?_ | refine CondS_d (fun h => ?_) (fun h => ?_) | refine CondS_b (fun h => ?_) (fun h => ?_) | refine GrdS_d (fun h => ?_) (fun h => ?_) | refine GrdS_b (fun h => ?_) (fun h => ?_) | refine OkS_i (by omega) ?_ | fail)
def soTo (l : List En) : Nat → List Ft
  | 0 => []
  | n + 1 => soTo l n ++ (if (l.getD n enD).f3 = true then [] else [(l.getD n enD).f0.fr])
def soOf (l : List En) : List Ft := if wLog l = true then soTo l l.length else []
theorem wLog_len {l : List En} (h : wLog l = true) : l.length ≤ 16 := by unfold wLog at h; simp at h; exact h.1
theorem soTo_len (l : List En) (n : Nat) : (soTo l n).length ≤ n := by
  induction n with
  | zero => simp [soTo]
  | succ n ih => unfold soTo; rw [List.length_append]; split <;> simp <;> omega
theorem soTo_mem {l : List En} : ∀ n : Nat, ∀ y ∈ soTo l n, y.nl = false ∧ ∃ x : En, (x ∈ l ∨ x = enD) ∧ y.f4 = x.f0.f4
  | 0, y, h => by simp [soTo] at h
  | n + 1, y, h => by
    unfold soTo at h
    rcases List.mem_append.1 h with h | h
    · exact soTo_mem n y h
    · split at h
      · cases h
      · simp only [List.mem_singleton] at h
        subst h
        refine ⟨rfl, l.getD n enD, ?_, rfl⟩
        rcases Nat.lt_or_ge n l.length with h1 | h1
        · left; simp [h1]
        · right; simp [h1]
theorem frE_small {l r : List En} (hr : l.map En.fr = r) (hm : ∀ x ∈ l, x.f0.f3.size ≤ 1048576 ∧ x.f0.f4.length ≤ 1048576) : ∀ x ∈ r, (x.f0.f3.size ≤ 1048576 ∧ x.f0.f4.length ≤ 1048576) ∧ x.f0.nl = false := by
  intro x hx
  rw [← hr] at hx
  obtain ⟨y, hy, rfl⟩ := List.mem_map.1 hx
  exact ⟨hm y hy, rfl⟩
theorem frE_k {l r : List En} (hr : l.map En.fr = r) (hb : wtL l ≤ 1048576) : kToE r 1 r.length ≤ 1000000000 := by
  have h1 := kToE_le r r.length (Nat.le_refl _) 1
  have h2 : wtTo r r.length = wtTo l l.length := by
    rw [← hr]
    unfold wtTo
    rw [List.take_of_length_le (by simp), List.take_of_length_le (Nat.le_refl _), List.map_map]
    rfl
  have h3 : r.length = l.length := by rw [← hr, List.length_map]
  unfold wtL at hb
  omega
theorem kTo_ge {l : List Ft} {B : Nat} (h : ∀ x ∈ l, x.f4.length ≤ B) : ∀ n : Nat, n ≤ l.length → ∀ k : Int, kTo l k n ≤ k + n * (4 + 2 * (B : Int))
  | 0, _, k => by simp [kTo]
  | n + 1, hn, k => by
    have h1 := kTo_ge h n (by omega) k
    have h2 : kTo l k (n + 1) = kTo l k n + 4 + 2 * (l[n].f4.length : Nat) := by simp [kTo, show n < l.length by omega]
    have h3 := h l[n] (List.getElem_mem ..)
    have h4 : ((n + 1 : Nat) : Int) * (4 + 2 * (B : Int)) = n * (4 + 2 * (B : Int)) + (4 + 2 * (B : Int)) := by rw [Int.natCast_add, Int.add_mul]; omega
    rw [h4, h2]; omega
end Go.Eng
namespace Go.Eng
open Go Go.Proofs Geo
set_option linter.unusedSimpArgs false
set_option linter.unusedVariables false
set_option maxRecDepth 20000
set_option maxHeartbeats 1000000

/-! copies of sources and of editions. WRITES -/
def frTo (l : List Ft) (n : Nat) : List Ft := (l.take n).map Ft.fr
theorem frTo_succ {l : List Ft} {n : Nat} (h : n < l.length) : frTo l (n + 1) = frTo l n ++ [l[n].fr] := by
  unfold frTo
  rw [List.take_add_one, List.getElem?_eq_getElem h, List.map_append]
  rfl
theorem frTo_all (l : List Ft) : frTo l l.length = l.map Ft.fr := by unfold frTo; rw [List.take_of_length_le (Nat.le_refl _)]
theorem frTo_len {l : List Ft} {n : Nat} (h : n ≤ l.length) : (frTo l n).length = n := by unfold frTo; simp; omega
theorem f103 (l : List Ft) (nl : Bool) (hl : l.length ≤ 1000000000) (hb : ∀ x ∈ l, x.f4.length ≤ 1000000000) : Fn Try.prog 103 true [.lst 5 nl (l.map ft)] (.lst 5 false ((l.map Ft.fr).map ft)) := by
  refine Fn.by_sx hX (by kernel_rfl) c103 (by kernel_rfl) (by rfl) ?_
  simp [i103, sx_skip, sx_ops, sx_seq, sx_cond, sx_block, sx_exit, sx_ret, sx_mcall, sx_mcell, sx_mset, elAt, setEl, isLst, cellsOf, sxl_nil, sxl_set, sxl_call, sxl_callv, sxl_g1, sxl_g2, sxl_g3, sxl_g4, OkS_true, GrdS_tt, GrdS_tf, GrdS_ft, GrdS_ff, CondS_t, CondS_f, then_n, then_e, then_r, blk_n, blk_e, blk_r, upd_app, Ex.ok, Ex.val, Opd.val, POp.dst, bin_int, binOK_int, bin_str, binOK_str, resOK, resV, RB.val, sub, putc, scB, scL, oneB, conf, Ex.val.eqP, Ex.val.eqL, negV, mxV, mnV, ← wr_eq, wr_zero, wr_one, wr_m1, bst_lst, byteC, partsOK, putAll, appV, nilV, slV, sslV, optB, optNum, and_assoc, exists_and_left, exists_eq_left']
  refine sx_count l.length (fun n V => V 0 = .lst 5 nl (l.map ft) ∧ V 4 = i n ∧ V 3 = .lst 5 false ((frTo l n).map ft)) 0 (by omega) (by simp [sx_skip, sx_ops, sx_seq, sx_cond, sx_block, sx_exit, sx_ret, sx_mcall, sx_mcell, sx_mset, elAt, setEl, isLst, cellsOf, sxl_nil, sxl_set, sxl_call, sxl_callv, sxl_g1, sxl_g2, sxl_g3, sxl_g4, OkS_true, GrdS_tt, GrdS_tf, GrdS_ft, GrdS_ff, CondS_t, CondS_f, then_n, then_e, then_r, blk_n, blk_e, blk_r, upd_app, Ex.ok, Ex.val, Opd.val, POp.dst, bin_int, binOK_int, bin_str, binOK_str, resOK, resV, RB.val, sub, putc, scB, scL, oneB, conf, Ex.val.eqP, Ex.val.eqL, negV, mxV, mnV, ← wr_eq, wr_zero, wr_one, wr_m1, bst_lst, byteC, partsOK, putAll, appV, nilV, slV, sslV, optB, optNum, and_assoc, exists_and_left, exists_eq_left', frTo]) ?_
  rintro n V hn ⟨h0, h4, h3⟩
  have hw : wr .i64 ((n : Int) + 1) = n + 1 := wr_in (by omega) (by omega)
  simp [sx_skip, sx_ops, sx_seq, sx_cond, sx_block, sx_exit, sx_ret, sx_mcall, sx_mcell, sx_mset, elAt, setEl, isLst, cellsOf, sxl_nil, sxl_set, sxl_call, sxl_callv, sxl_g1, sxl_g2, sxl_g3, sxl_g4, OkS_true, GrdS_tt, GrdS_tf, GrdS_ft, GrdS_ff, CondS_t, CondS_f, then_n, then_e, then_r, blk_n, blk_e, blk_r, upd_app, Ex.ok, Ex.val, Opd.val, POp.dst, bin_int, binOK_int, bin_str, binOK_str, resOK, resV, RB.val, sub, putc, scB, scL, oneB, conf, Ex.val.eqP, Ex.val.eqL, negV, mxV, mnV, ← wr_eq, wr_zero, wr_one, wr_m1, bst_lst, byteC, partsOK, putAll, appV, nilV, slV, sslV, optB, optNum, and_assoc, exists_and_left, exists_eq_left', h0, h4]
  refine CondS_d (fun hlt => ?_) (fun hge => ?_)
  · have hlt' : n < l.length := by omega
    have hnx := frTo_succ hlt'
    have hlen := frTo_len (l := l) (n := n) (by omega)
    have hc := f112 l[n] (hb _ (List.getElem_mem ..))
    unfold ft at hc
    repeat' (first | intro _ | (simp [sx_skip, sx_ops, sx_seq, sx_cond, sx_block, sx_exit, sx_ret, sx_mcall, sx_mcell, sx_mset, elAt, setEl, isLst, cellsOf, sxl_nil, sxl_set, sxl_call, sxl_callv, sxl_g1, sxl_g2, sxl_g3, sxl_g4, OkS_true, GrdS_tt, GrdS_tf, GrdS_ft, GrdS_ff, CondS_t, CondS_f, then_n, then_e, then_r, blk_n, blk_e, blk_r, upd_app, Ex.ok, Ex.val, Opd.val, POp.dst, bin_int, binOK_int, bin_str, binOK_str, resOK, resV, RB.val, sub, putc, scB, scL, oneB, conf, Ex.val.eqP, Ex.val.eqL, negV, mxV, mnV, ← wr_eq, wr_zero, wr_one, wr_m1, bst_lst, byteC, partsOK, putAll, appV, nilV, slV, sslV, optB, optNum, and_assoc, exists_and_left, exists_eq_left', ft, *]) | refine CallS_i (hc) ?_ | refine CallM_i (hc) ?_ | refine CallE_i (hc) ?_ | refine CondS_d (fun h => ?_) (fun h => ?_) | refine CondS_b (fun h => ?_) (fun h => ?_) | refine GrdS_d (fun h => ?_) (fun h => ?_) | refine GrdS_b (fun h => ?_) (fun h => ?_) | refine OkS_i (by omega) ?_ | fail)
    all_goals omega
  · have : n = l.length := by omega
    subst this
    have ha := frTo_all l
    repeat' (first | intro _ | (simp [sx_skip, sx_ops, sx_seq, sx_cond, sx_block, sx_exit, sx_ret, sx_mcall, sx_mcell, sx_mset, elAt, setEl, isLst, cellsOf, sxl_nil, sxl_set, sxl_call, sxl_callv, sxl_g1, sxl_g2, sxl_g3, sxl_g4, OkS_true, GrdS_tt, GrdS_tf, GrdS_ft, GrdS_ff, CondS_t, CondS_f, then_n, then_e, then_r, blk_n, blk_e, blk_r, upd_app, Ex.ok, Ex.val, Opd.val, POp.dst, bin_int, binOK_int, bin_str, binOK_str, resOK, resV, RB.val, sub, putc, scB, scL, oneB, conf, Ex.val.eqP, Ex.val.eqL, negV, mxV, mnV, ← wr_eq, wr_zero, wr_one, wr_m1, bst_lst, byteC, partsOK, putAll, appV, nilV, slV, sslV, optB, optNum, and_assoc, exists_and_left, exists_eq_left', *]) | refine CondS_d (fun h => ?_) (fun h => ?_) | refine CondS_b (fun h => ?_) (fun h => ?_) | refine GrdS_d (fun h => ?_) (fun h => ?_) | refine GrdS_b (fun h => ?_) (fun h => ?_) | refine OkS_i (by omega) ?_ | fail)
theorem f110 (l : List Ft) (nl : Bool) (hl : l.length ≤ 1000000000) (hb : ∀ x ∈ l, x.f4.length ≤ 1000000000) (hnn : ∀ x ∈ l, x.nl = false) : Fn Try.prog 110 true [.lst 5 nl (l.map ft)] (.lst 5 false ((l.map Ft.fr).map ft)) := by
  refine Fn.by_sx hX (by kernel_rfl) c110 (by kernel_rfl) (by rfl) ?_
  simp [i110, sx_skip, sx_ops, sx_seq, sx_cond, sx_block, sx_exit, sx_ret, sx_mcall, sx_mcell, sx_mset, elAt, setEl, isLst, cellsOf, sxl_nil, sxl_set, sxl_call, sxl_callv, sxl_g1, sxl_g2, sxl_g3, sxl_g4, OkS_true, GrdS_tt, GrdS_tf, GrdS_ft, GrdS_ff, CondS_t, CondS_f, then_n, then_e, then_r, blk_n, blk_e, blk_r, upd_app, Ex.ok, Ex.val, Opd.val, POp.dst, bin_int, binOK_int, bin_str, binOK_str, resOK, resV, RB.val, sub, putc, scB, scL, oneB, conf, Ex.val.eqP, Ex.val.eqL, negV, mxV, mnV, ← wr_eq, wr_zero, wr_one, wr_m1, bst_lst, byteC, partsOK, putAll, appV, nilV, slV, sslV, optB, optNum, and_assoc, exists_and_left, exists_eq_left']
  refine sx_count l.length (fun n V => V 7 = .lst 5 nl (l.map ft) ∧ V 8 = i l.length ∧ V 9 = i n ∧ V 3 = .lst 5 false ((frTo l n).map ft)) 0 (by omega) (by simp [sx_skip, sx_ops, sx_seq, sx_cond, sx_block, sx_exit, sx_ret, sx_mcall, sx_mcell, sx_mset, elAt, setEl, isLst, cellsOf, sxl_nil, sxl_set, sxl_call, sxl_callv, sxl_g1, sxl_g2, sxl_g3, sxl_g4, OkS_true, GrdS_tt, GrdS_tf, GrdS_ft, GrdS_ff, CondS_t, CondS_f, then_n, then_e, then_r, blk_n, blk_e, blk_r, upd_app, Ex.ok, Ex.val, Opd.val, POp.dst, bin_int, binOK_int, bin_str, binOK_str, resOK, resV, RB.val, sub, putc, scB, scL, oneB, conf, Ex.val.eqP, Ex.val.eqL, negV, mxV, mnV, ← wr_eq, wr_zero, wr_one, wr_m1, bst_lst, byteC, partsOK, putAll, appV, nilV, slV, sslV, optB, optNum, and_assoc, exists_and_left, exists_eq_left', frTo]) ?_
  rintro n V hn ⟨h7, h8, h9, h3⟩
  have hw : wr .i64 ((n : Int) + 1) = n + 1 := wr_in (by omega) (by omega)
  simp [sx_skip, sx_ops, sx_seq, sx_cond, sx_block, sx_exit, sx_ret, sx_mcall, sx_mcell, sx_mset, elAt, setEl, isLst, cellsOf, sxl_nil, sxl_set, sxl_call, sxl_callv, sxl_g1, sxl_g2, sxl_g3, sxl_g4, OkS_true, GrdS_tt, GrdS_tf, GrdS_ft, GrdS_ff, CondS_t, CondS_f, then_n, then_e, then_r, blk_n, blk_e, blk_r, upd_app, Ex.ok, Ex.val, Opd.val, POp.dst, bin_int, binOK_int, bin_str, binOK_str, resOK, resV, RB.val, sub, putc, scB, scL, oneB, conf, Ex.val.eqP, Ex.val.eqL, negV, mxV, mnV, ← wr_eq, wr_zero, wr_one, wr_m1, bst_lst, byteC, partsOK, putAll, appV, nilV, slV, sslV, optB, optNum, and_assoc, exists_and_left, exists_eq_left', h8, h9]
  refine CondS_d (fun hlt => ?_) (fun hge => ?_)
  · have hlt' : n < l.length := by omega
    have hnx := frTo_succ hlt'
    have hlen := frTo_len (l := l) (n := n) (by omega)
    have hc := f90 l[n] (hnn _ (List.getElem_mem ..)) (hb _ (List.getElem_mem ..))
    have hnn' := hnn _ (List.getElem_mem hlt')
    clear hnn
    unfold ft at hc
    rw [hnn'] at hc
    repeat' (first | intro _ | (simp [sx_skip, sx_ops, sx_seq, sx_cond, sx_block, sx_exit, sx_ret, sx_mcall, sx_mcell, sx_mset, elAt, setEl, isLst, cellsOf, sxl_nil, sxl_set, sxl_call, sxl_callv, sxl_g1, sxl_g2, sxl_g3, sxl_g4, OkS_true, GrdS_tt, GrdS_tf, GrdS_ft, GrdS_ff, CondS_t, CondS_f, then_n, then_e, then_r, blk_n, blk_e, blk_r, upd_app, Ex.ok, Ex.val, Opd.val, POp.dst, bin_int, binOK_int, bin_str, binOK_str, resOK, resV, RB.val, sub, putc, scB, scL, oneB, conf, Ex.val.eqP, Ex.val.eqL, negV, mxV, mnV, ← wr_eq, wr_zero, wr_one, wr_m1, bst_lst, byteC, partsOK, putAll, appV, nilV, slV, sslV, optB, optNum, and_assoc, exists_and_left, exists_eq_left', ft, *]) | refine CallS_i (hc) ?_ | refine CallM_i (hc) ?_ | refine CallE_i (hc) ?_ | refine CondS_d (fun h => ?_) (fun h => ?_) | refine CondS_b (fun h => ?_) (fun h => ?_) | refine GrdS_d (fun h => ?_) (fun h => ?_) | refine GrdS_b (fun h => ?_) (fun h => ?_) | refine OkS_i (by omega) ?_ | fail)
    all_goals omega
  · have : n = l.length := by omega
    subst this
    have ha := frTo_all l
    repeat' (first | intro _ | (simp [sx_skip, sx_ops, sx_seq, sx_cond, sx_block, sx_exit, sx_ret, sx_mcall, sx_mcell, sx_mset, elAt, setEl, isLst, cellsOf, sxl_nil, sxl_set, sxl_call, sxl_callv, sxl_g1, sxl_g2, sxl_g3, sxl_g4, OkS_true, GrdS_tt, GrdS_tf, GrdS_ft, GrdS_ff, CondS_t, CondS_f, then_n, then_e, then_r, blk_n, blk_e, blk_r, upd_app, Ex.ok, Ex.val, Opd.val, POp.dst, bin_int, binOK_int, bin_str, binOK_str, resOK, resV, RB.val, sub, putc, scB, scL, oneB, conf, Ex.val.eqP, Ex.val.eqL, negV, mxV, mnV, ← wr_eq, wr_zero, wr_one, wr_m1, bst_lst, byteC, partsOK, putAll, appV, nilV, slV, sslV, optB, optNum, and_assoc, exists_and_left, exists_eq_left', *]) | refine CondS_d (fun h => ?_) (fun h => ?_) | refine CondS_b (fun h => ?_) (fun h => ?_) | refine GrdS_d (fun h => ?_) (fun h => ?_) | refine GrdS_b (fun h => ?_) (fun h => ?_) | refine OkS_i (by omega) ?_ | fail)
def lastTo (l : List Ed) (tick : Int) : Nat → Int
  | 0 => -1
  | n + 1 => if (l.getD n edD).f0 ≤ tick then (n : Int) else lastTo l tick n
theorem lastTo_b (l : List Ed) (tick : Int) (n : Nat) : -1 ≤ lastTo l tick n ∧ lastTo l tick n < n := by
  induction n with
  | zero => simp [lastTo]
  | succ n ih => unfold lastTo; split <;> omega
def curS (l : List Ed) (tick : Int) (n : Nat) : List Ft := if lastTo l tick n < 0 then [] else (l.getD (lastTo l tick n).toNat edD).f1.map Ft.fr
def curB (l : List Ed) (tick : Int) (n : Nat) : Bool := decide (0 ≤ lastTo l tick n)
def edS (l : List Ed) (tick : Int) : List Ft := if wEds l = true then curS l tick l.length else []
def edB (l : List Ed) (tick : Int) : Bool := wEds l && curB l tick l.length
def Ed.fine (x : Ed) : Prop := x.f1.length ≤ 1000000000 ∧ ∀ y ∈ x.f1, y.f4.length ≤ 1000000000 ∧ y.nl = false
theorem f58 (l : List Ed) (nl : Bool) (tick : Int) (hl : l.length ≤ 1000000000000) (hb : ∀ x ∈ l, x.okay) (hf : ∀ x ∈ l, x.fine) : Fn Try.prog 58 true [.lst 3 nl (l.map ed), i tick] (.tup [.lst 5 false ((edS l tick).map ft), .bool (edB l tick)]) := by
  have hare := f121 l nl hl hb
  refine Fn.by_sx hX (by kernel_rfl) c58 (by kernel_rfl) (by rfl) ?_
  simp [i58, sx_skip, sx_ops, sx_seq, sx_cond, sx_block, sx_exit, sx_ret, sx_mcall, sx_mcell, sx_mset, elAt, setEl, isLst, cellsOf, sxl_nil, sxl_set, sxl_call, sxl_callv, sxl_g1, sxl_g2, sxl_g3, sxl_g4, OkS_true, GrdS_tt, GrdS_tf, GrdS_ft, GrdS_ff, CondS_t, CondS_f, then_n, then_e, then_r, blk_n, blk_e, blk_r, upd_app, Ex.ok, Ex.val, Opd.val, POp.dst, bin_int, binOK_int, bin_str, binOK_str, resOK, resV, RB.val, sub, putc, scB, scL, oneB, conf, Ex.val.eqP, Ex.val.eqL, negV, mxV, mnV, ← wr_eq, wr_zero, wr_one, wr_m1, bst_lst, byteC, partsOK, putAll, appV, nilV, slV, sslV, optB, optNum, and_assoc, exists_and_left, exists_eq_left']
  refine sx_count l.length (fun n V => V 0 = .lst 3 nl (l.map ed) ∧ V 1 = i tick ∧ V 7 = i n ∧ V 6 = i (lastTo l tick n)) 0 (by omega) (by simp [sx_skip, sx_ops, sx_seq, sx_cond, sx_block, sx_exit, sx_ret, sx_mcall, sx_mcell, sx_mset, elAt, setEl, isLst, cellsOf, sxl_nil, sxl_set, sxl_call, sxl_callv, sxl_g1, sxl_g2, sxl_g3, sxl_g4, OkS_true, GrdS_tt, GrdS_tf, GrdS_ft, GrdS_ff, CondS_t, CondS_f, then_n, then_e, then_r, blk_n, blk_e, blk_r, upd_app, Ex.ok, Ex.val, Opd.val, POp.dst, bin_int, binOK_int, bin_str, binOK_str, resOK, resV, RB.val, sub, putc, scB, scL, oneB, conf, Ex.val.eqP, Ex.val.eqL, negV, mxV, mnV, ← wr_eq, wr_zero, wr_one, wr_m1, bst_lst, byteC, partsOK, putAll, appV, nilV, slV, sslV, optB, optNum, and_assoc, exists_and_left, exists_eq_left', lastTo]) ?_
  rintro n V hn ⟨h0, h1, h7, h6⟩
  have hw : wr .i64 ((n : Int) + 1) = n + 1 := wr_in (by omega) (by omega)
  simp [sx_skip, sx_ops, sx_seq, sx_cond, sx_block, sx_exit, sx_ret, sx_mcall, sx_mcell, sx_mset, elAt, setEl, isLst, cellsOf, sxl_nil, sxl_set, sxl_call, sxl_callv, sxl_g1, sxl_g2, sxl_g3, sxl_g4, OkS_true, GrdS_tt, GrdS_tf, GrdS_ft, GrdS_ff, CondS_t, CondS_f, then_n, then_e, then_r, blk_n, blk_e, blk_r, upd_app, Ex.ok, Ex.val, Opd.val, POp.dst, bin_int, binOK_int, bin_str, binOK_str, resOK, resV, RB.val, sub, putc, scB, scL, oneB, conf, Ex.val.eqP, Ex.val.eqL, negV, mxV, mnV, ← wr_eq, wr_zero, wr_one, wr_m1, bst_lst, byteC, partsOK, putAll, appV, nilV, slV, sslV, optB, optNum, and_assoc, exists_and_left, exists_eq_left', h0, h7]
  refine CondS_d (fun hlt => ?_) (fun hge => ?_)
  · have hlt' : n < l.length := by omega
    have hnx : lastTo l tick (n + 1) = if l[n].f0 ≤ tick then (n : Int) else lastTo l tick n := by simp [lastTo, hlt']
    repeat' (first | intro _ | (simp [sx_skip, sx_ops, sx_seq, sx_cond, sx_block, sx_exit, sx_ret, sx_mcall, sx_mcell, sx_mset, elAt, setEl, isLst, cellsOf, sxl_nil, sxl_set, sxl_call, sxl_callv, sxl_g1, sxl_g2, sxl_g3, sxl_g4, OkS_true, GrdS_tt, GrdS_tf, GrdS_ft, GrdS_ff, CondS_t, CondS_f, then_n, then_e, then_r, blk_n, blk_e, blk_r, upd_app, Ex.ok, Ex.val, Opd.val, POp.dst, bin_int, binOK_int, bin_str, binOK_str, resOK, resV, RB.val, sub, putc, scB, scL, oneB, conf, Ex.val.eqP, Ex.val.eqL, negV, mxV, mnV, ← wr_eq, wr_zero, wr_one, wr_m1, bst_lst, byteC, partsOK, putAll, appV, nilV, slV, sslV, optB, optNum, and_assoc, exists_and_left, exists_eq_left', ed, *]) | refine CondS_d (fun h => ?_) (fun h => ?_) | refine CondS_b (fun h => ?_) (fun h => ?_) | refine GrdS_d (fun h => ?_) (fun h => ?_) | refine GrdS_b (fun h => ?_) (fun h => ?_) | refine OkS_i (by omega) ?_ | fail)
    all_goals simp_all
  · have : n = l.length := by omega
    subst this
    have hlb := lastTo_b l tick l.length
    by_cases hneg : lastTo l tick l.length < 0
    · have e1 : edS l tick = [] := by unfold edS curS; rw [if_pos hneg]; split <;> rfl
      have e2 : edB l tick = false := by unfold edB curB; rw [decide_eq_false (by omega)]; simp
      rw [e1, e2]
      repeat' (first | intro _ | (simp [sx_skip, sx_ops, sx_seq, sx_cond, sx_block, sx_exit, sx_ret, sx_mcall, sx_mcell, sx_mset, elAt, setEl, isLst, cellsOf, sxl_nil, sxl_set, sxl_call, sxl_callv, sxl_g1, sxl_g2, sxl_g3, sxl_g4, OkS_true, GrdS_tt, GrdS_tf, GrdS_ft, GrdS_ff, CondS_t, CondS_f, then_n, then_e, then_r, blk_n, blk_e, blk_r, upd_app, Ex.ok, Ex.val, Opd.val, POp.dst, bin_int, binOK_int, bin_str, binOK_str, resOK, resV, RB.val, sub, putc, scB, scL, oneB, conf, Ex.val.eqP, Ex.val.eqL, negV, mxV, mnV, ← wr_eq, wr_zero, wr_one, wr_m1, bst_lst, byteC, partsOK, putAll, appV, nilV, slV, sslV, optB, optNum, and_assoc, exists_and_left, exists_eq_left', *]) | refine CallS_i (hare) ?_ | refine CallM_i (hare) ?_ | refine CallE_i (hare) ?_ | refine CondS_d (fun h => ?_) (fun h => ?_) | refine CondS_b (fun h => ?_) (fun h => ?_) | refine GrdS_d (fun h => ?_) (fun h => ?_) | refine GrdS_b (fun h => ?_) (fun h => ?_) | refine OkS_i (by omega) ?_ | fail)
    · obtain ⟨k, hk⟩ : ∃ k : Nat, lastTo l tick l.length = k := ⟨(lastTo l tick l.length).toNat, by omega⟩
      have hkl : k < l.length := by omega
      cases hE : wEds l with
      | false =>
        have e1 : edS l tick = [] := by unfold edS; rw [hE]; rfl
        have e2 : edB l tick = false := by unfold edB; rw [hE]; rfl
        rw [hE] at hare
        rw [e1, e2]
        repeat' (first | intro _ | (simp [sx_skip, sx_ops, sx_seq, sx_cond, sx_block, sx_exit, sx_ret, sx_mcall, sx_mcell, sx_mset, elAt, setEl, isLst, cellsOf, sxl_nil, sxl_set, sxl_call, sxl_callv, sxl_g1, sxl_g2, sxl_g3, sxl_g4, OkS_true, GrdS_tt, GrdS_tf, GrdS_ft, GrdS_ff, CondS_t, CondS_f, then_n, then_e, then_r, blk_n, blk_e, blk_r, upd_app, Ex.ok, Ex.val, Opd.val, POp.dst, bin_int, binOK_int, bin_str, binOK_str, resOK, resV, RB.val, sub, putc, scB, scL, oneB, conf, Ex.val.eqP, Ex.val.eqL, negV, mxV, mnV, ← wr_eq, wr_zero, wr_one, wr_m1, bst_lst, byteC, partsOK, putAll, appV, nilV, slV, sslV, optB, optNum, and_assoc, exists_and_left, exists_eq_left', *]) | refine CallS_i (hare) ?_ | refine CallM_i (hare) ?_ | refine CallE_i (hare) ?_ | refine CondS_d (fun h => ?_) (fun h => ?_) | refine CondS_b (fun h => ?_) (fun h => ?_) | refine GrdS_d (fun h => ?_) (fun h => ?_) | refine GrdS_b (fun h => ?_) (fun h => ?_) | refine OkS_i (by omega) ?_ | fail)
      | true =>
        have hd := hf l[k] (List.getElem_mem ..)
        have e1 : edS l tick = l[k].f1.map Ft.fr := by unfold edS curS; rw [if_pos hE, if_neg hneg, hk]; simp [hkl]
        have e2 : edB l tick = true := by unfold edB curB; rw [hE, hk]; simp
        have hc := f103 l[k].f1 l[k].nl hd.1 (fun y hy => (hd.2 y hy).1)
        rw [hE] at hare
        rw [hk] at h6
        rw [← e1] at hc
        rw [e2]
        have hk0 : ¬ (k : Int) < 0 := by omega
        obtain ⟨Z, hZ⟩ : ∃ Z, (edS l tick).map ft = Z := ⟨_, rfl⟩
        rw [hZ] at hc ⊢
        clear hZ e1 e2 hneg hlb hb hf hd
        repeat' (first | intro _ | (simp [sx_skip, sx_ops, sx_seq, sx_cond, sx_block, sx_exit, sx_ret, sx_mcall, sx_mcell, sx_mset, elAt, setEl, isLst, cellsOf, sxl_nil, sxl_set, sxl_call, sxl_callv, sxl_g1, sxl_g2, sxl_g3, sxl_g4, OkS_true, GrdS_tt, GrdS_tf, GrdS_ft, GrdS_ff, CondS_t, CondS_f, then_n, then_e, then_r, blk_n, blk_e, blk_r, upd_app, Ex.ok, Ex.val, Opd.val, POp.dst, bin_int, binOK_int, bin_str, binOK_str, resOK, resV, RB.val, sub, putc, scB, scL, oneB, conf, Ex.val.eqP, Ex.val.eqL, negV, mxV, mnV, ← wr_eq, wr_zero, wr_one, wr_m1, bst_lst, byteC, partsOK, putAll, appV, nilV, slV, sslV, optB, optNum, and_assoc, exists_and_left, exists_eq_left', ed, *]) | refine CallS_i (hare) ?_ | refine CallS_i (hc) ?_ | refine CallM_i (hare) ?_ | refine CallM_i (hc) ?_ | refine CallE_i (hare) ?_ | refine CallE_i (hc) ?_ | refine CondS_d (fun h => ?_) (fun h => ?_) | refine CondS_b (fun h => ?_) (fun h => ?_) | refine GrdS_d (fun h => ?_) (fun h => ?_) | refine GrdS_b (fun h => ?_) (fun h => ?_) | refine OkS_i (by omega) ?_ | fail)
theorem f60 (l : List Ed) (nl : Bool) (tick : Int) (hl : l.length ≤ 1000000000000) (hb : ∀ x ∈ l, x.okay) (hf : ∀ x ∈ l, x.fine) : Fn Try.prog 60 true [.lst 3 nl (l.map ed), i tick] (.tup [.lst 5 false ((edS l tick).map ft), .bool (edB l tick)]) := by
  have hare := f123 l nl hl hb
  refine Fn.by_sx hX (by kernel_rfl) c60 (by kernel_rfl) (by rfl) ?_
  simp [i60, sx_skip, sx_ops, sx_seq, sx_cond, sx_block, sx_exit, sx_ret, sx_mcall, sx_mcell, sx_mset, elAt, setEl, isLst, cellsOf, sxl_nil, sxl_set, sxl_call, sxl_callv, sxl_g1, sxl_g2, sxl_g3, sxl_g4, OkS_true, GrdS_tt, GrdS_tf, GrdS_ft, GrdS_ff, CondS_t, CondS_f, then_n, then_e, then_r, blk_n, blk_e, blk_r, upd_app, Ex.ok, Ex.val, Opd.val, POp.dst, bin_int, binOK_int, bin_str, binOK_str, resOK, resV, RB.val, sub, putc, scB, scL, oneB, conf, Ex.val.eqP, Ex.val.eqL, negV, mxV, mnV, ← wr_eq, wr_zero, wr_one, wr_m1, bst_lst, byteC, partsOK, putAll, appV, nilV, slV, sslV, optB, optNum, and_assoc, exists_and_left, exists_eq_left']
  cases hE : wEds l with
  | false =>
    have e1 : edS l tick = [] := by unfold edS; rw [hE]; rfl
    have e2 : edB l tick = false := by unfold edB; rw [hE]; rfl
    rw [hE] at hare
    rw [e1, e2]
    repeat' (first | intro _ | (simp [sx_skip, sx_ops, sx_seq, sx_cond, sx_block, sx_exit, sx_ret, sx_mcall, sx_mcell, sx_mset, elAt, setEl, isLst, cellsOf, sxl_nil, sxl_set, sxl_call, sxl_callv, sxl_g1, sxl_g2, sxl_g3, sxl_g4, OkS_true, GrdS_tt, GrdS_tf, GrdS_ft, GrdS_ff, CondS_t, CondS_f, then_n, then_e, then_r, blk_n, blk_e, blk_r, upd_app, Ex.ok, Ex.val, Opd.val, POp.dst, bin_int, binOK_int, bin_str, binOK_str, resOK, resV, RB.val, sub, putc, scB, scL, oneB, conf, Ex.val.eqP, Ex.val.eqL, negV, mxV, mnV, ← wr_eq, wr_zero, wr_one, wr_m1, bst_lst, byteC, partsOK, putAll, appV, nilV, slV, sslV, optB, optNum, and_assoc, exists_and_left, exists_eq_left', *]) | refine CallS_i (hare) ?_ | refine CallM_i (hare) ?_ | refine CallE_i (hare) ?_ | refine CondS_d (fun h => ?_) (fun h => ?_) | refine CondS_b (fun h => ?_) (fun h => ?_) | refine GrdS_d (fun h => ?_) (fun h => ?_) | refine GrdS_b (fun h => ?_) (fun h => ?_) | refine OkS_i (by omega) ?_ | fail)
  | true =>
    have e1 : edS l tick = curS l tick l.length := by unfold edS; rw [if_pos hE]
    have e2 : edB l tick = curB l tick l.length := by unfold edB; rw [hE]; rfl
    rw [hE] at hare
    rw [e1, e2]
    repeat' (first | intro _ | (simp [sx_skip, sx_ops, sx_seq, sx_cond, sx_block, sx_exit, sx_ret, sx_mcall, sx_mcell, sx_mset, elAt, setEl, isLst, cellsOf, sxl_nil, sxl_set, sxl_call, sxl_callv, sxl_g1, sxl_g2, sxl_g3, sxl_g4, OkS_true, GrdS_tt, GrdS_tf, GrdS_ft, GrdS_ff, CondS_t, CondS_f, then_n, then_e, then_r, blk_n, blk_e, blk_r, upd_app, Ex.ok, Ex.val, Opd.val, POp.dst, bin_int, binOK_int, bin_str, binOK_str, resOK, resV, RB.val, sub, putc, scB, scL, oneB, conf, Ex.val.eqP, Ex.val.eqL, negV, mxV, mnV, ← wr_eq, wr_zero, wr_one, wr_m1, bst_lst, byteC, partsOK, putAll, appV, nilV, slV, sslV, optB, optNum, and_assoc, exists_and_left, exists_eq_left', *]) | refine CallS_i (hare) ?_ | refine CallM_i (hare) ?_ | refine CallE_i (hare) ?_ | refine CondS_d (fun h => ?_) (fun h => ?_) | refine CondS_b (fun h => ?_) (fun h => ?_) | refine GrdS_d (fun h => ?_) (fun h => ?_) | refine GrdS_b (fun h => ?_) (fun h => ?_) | refine OkS_i (by omega) ?_ | fail)
    refine sx_count l.length (fun n V => V 15 = .lst 3 nl (l.map ed) ∧ V 16 = i l.length ∧ V 17 = i n ∧ V 1 = i tick ∧ V 6 = .lst 5 false ((curS l tick n).map ft) ∧ V 7 = .bool (curB l tick n)) 0 (by omega) (by simp [sx_skip, sx_ops, sx_seq, sx_cond, sx_block, sx_exit, sx_ret, sx_mcall, sx_mcell, sx_mset, elAt, setEl, isLst, cellsOf, sxl_nil, sxl_set, sxl_call, sxl_callv, sxl_g1, sxl_g2, sxl_g3, sxl_g4, OkS_true, GrdS_tt, GrdS_tf, GrdS_ft, GrdS_ff, CondS_t, CondS_f, then_n, then_e, then_r, blk_n, blk_e, blk_r, upd_app, Ex.ok, Ex.val, Opd.val, POp.dst, bin_int, binOK_int, bin_str, binOK_str, resOK, resV, RB.val, sub, putc, scB, scL, oneB, conf, Ex.val.eqP, Ex.val.eqL, negV, mxV, mnV, ← wr_eq, wr_zero, wr_one, wr_m1, bst_lst, byteC, partsOK, putAll, appV, nilV, slV, sslV, optB, optNum, and_assoc, exists_and_left, exists_eq_left', curS, curB, lastTo]) ?_
    rintro n V hn ⟨h15, h16, h17, h1, h6, h7⟩
    have hw : wr .i64 ((n : Int) + 1) = n + 1 := wr_in (by omega) (by omega)
    simp [sx_skip, sx_ops, sx_seq, sx_cond, sx_block, sx_exit, sx_ret, sx_mcall, sx_mcell, sx_mset, elAt, setEl, isLst, cellsOf, sxl_nil, sxl_set, sxl_call, sxl_callv, sxl_g1, sxl_g2, sxl_g3, sxl_g4, OkS_true, GrdS_tt, GrdS_tf, GrdS_ft, GrdS_ff, CondS_t, CondS_f, then_n, then_e, then_r, blk_n, blk_e, blk_r, upd_app, Ex.ok, Ex.val, Opd.val, POp.dst, bin_int, binOK_int, bin_str, binOK_str, resOK, resV, RB.val, sub, putc, scB, scL, oneB, conf, Ex.val.eqP, Ex.val.eqL, negV, mxV, mnV, ← wr_eq, wr_zero, wr_one, wr_m1, bst_lst, byteC, partsOK, putAll, appV, nilV, slV, sslV, optB, optNum, and_assoc, exists_and_left, exists_eq_left', h16, h17]
    refine CondS_d (fun hlt => ?_) (fun hge => ?_)
    · have hlt' : n < l.length := by omega
      by_cases ht : l[n].f0 ≤ tick
      · have hnx : lastTo l tick (n + 1) = n := by simp [lastTo, hlt', ht]
        have n1 : curS l tick (n + 1) = l[n].f1.map Ft.fr := by unfold curS; rw [hnx, if_neg (by omega)]; simp [hlt']
        have n2 : curB l tick (n + 1) = true := by unfold curB; rw [hnx]; simp
        have hd := hf l[n] (List.getElem_mem ..)
        have hc := f110 l[n].f1 l[n].nl hd.1 (fun y hy => (hd.2 y hy).1) (fun y hy => (hd.2 y hy).2)
        rw [← n1] at hc
        obtain ⟨Z, hZ⟩ : ∃ Z, (curS l tick (n + 1)).map ft = Z := ⟨_, rfl⟩
        rw [hZ] at hc
        clear hb hf hd n1 hnx
        repeat' (first | intro _ | (simp [sx_skip, sx_ops, sx_seq, sx_cond, sx_block, sx_exit, sx_ret, sx_mcall, sx_mcell, sx_mset, elAt, setEl, isLst, cellsOf, sxl_nil, sxl_set, sxl_call, sxl_callv, sxl_g1, sxl_g2, sxl_g3, sxl_g4, OkS_true, GrdS_tt, GrdS_tf, GrdS_ft, GrdS_ff, CondS_t, CondS_f, then_n, then_e, then_r, blk_n, blk_e, blk_r, upd_app, Ex.ok, Ex.val, Opd.val, POp.dst, bin_int, binOK_int, bin_str, binOK_str, resOK, resV, RB.val, sub, putc, scB, scL, oneB, conf, Ex.val.eqP, Ex.val.eqL, negV, mxV, mnV, ← wr_eq, wr_zero, wr_one, wr_m1, bst_lst, byteC, partsOK, putAll, appV, nilV, slV, sslV, optB, optNum, and_assoc, exists_and_left, exists_eq_left', ed, *]) | refine CallS_i (hc) ?_ | refine CallM_i (hc) ?_ | refine CallE_i (hc) ?_ | refine CondS_d (fun h => ?_) (fun h => ?_) | refine CondS_b (fun h => ?_) (fun h => ?_) | refine GrdS_d (fun h => ?_) (fun h => ?_) | refine GrdS_b (fun h => ?_) (fun h => ?_) | refine OkS_i (by omega) ?_ | fail)
      · have hnx : lastTo l tick (n + 1) = lastTo l tick n := by simp [lastTo, hlt', ht]
        have n1 : curS l tick (n + 1) = curS l tick n := by unfold curS; rw [hnx]
        have n2 : curB l tick (n + 1) = curB l tick n := by unfold curB; rw [hnx]
        have ht' : ¬ l[n].f0 ≤ tick := ht
        clear hb hf hnx
        repeat' (first | intro _ | (simp [sx_skip, sx_ops, sx_seq, sx_cond, sx_block, sx_exit, sx_ret, sx_mcall, sx_mcell, sx_mset, elAt, setEl, isLst, cellsOf, sxl_nil, sxl_set, sxl_call, sxl_callv, sxl_g1, sxl_g2, sxl_g3, sxl_g4, OkS_true, GrdS_tt, GrdS_tf, GrdS_ft, GrdS_ff, CondS_t, CondS_f, then_n, then_e, then_r, blk_n, blk_e, blk_r, upd_app, Ex.ok, Ex.val, Opd.val, POp.dst, bin_int, binOK_int, bin_str, binOK_str, resOK, resV, RB.val, sub, putc, scB, scL, oneB, conf, Ex.val.eqP, Ex.val.eqL, negV, mxV, mnV, ← wr_eq, wr_zero, wr_one, wr_m1, bst_lst, byteC, partsOK, putAll, appV, nilV, slV, sslV, optB, optNum, and_assoc, exists_and_left, exists_eq_left', ed, *]) | refine CondS_d (fun h => ?_) (fun h => ?_) | refine CondS_b (fun h => ?_) (fun h => ?_) | refine GrdS_d (fun h => ?_) (fun h => ?_) | refine GrdS_b (fun h => ?_) (fun h => ?_) | refine OkS_i (by omega) ?_ | fail)
    · have : n = l.length := by omega
      subst this
      repeat' (first | intro _ | (simp [sx_skip, sx_ops, sx_seq, sx_cond, sx_block, sx_exit, sx_ret, sx_mcall, sx_mcell, sx_mset, elAt, setEl, isLst, cellsOf, sxl_nil, sxl_set, sxl_call, sxl_callv, sxl_g1, sxl_g2, sxl_g3, sxl_g4, OkS_true, GrdS_tt, GrdS_tf, GrdS_ft, GrdS_ff, CondS_t, CondS_f, then_n, then_e, then_r, blk_n, blk_e, blk_r, upd_app, Ex.ok, Ex.val, Opd.val, POp.dst, bin_int, binOK_int, bin_str, binOK_str, resOK, resV, RB.val, sub, putc, scB, scL, oneB, conf, Ex.val.eqP, Ex.val.eqL, negV, mxV, mnV, ← wr_eq, wr_zero, wr_one, wr_m1, bst_lst, byteC, partsOK, putAll, appV, nilV, slV, sslV, optB, optNum, and_assoc, exists_and_left, exists_eq_left', *]) | refine CondS_d (fun h => ?_) (fun h => ?_) | refine CondS_b (fun h => ?_) (fun h => ?_) | refine GrdS_d (fun h => ?_) (fun h => ?_) | refine GrdS_b (fun h => ?_) (fun h => ?_) | refine OkS_i (by omega) ?_ | fail)
end Go.Eng
