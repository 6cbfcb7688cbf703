/- A part of the proof of a law's statement: for every input the law returns true and leaves its arguments as they were. No condition beyond the statement's own. What each function computes. -/
import Derived.Test.YtjbjkhdflkmccaaPp1
set_option linter.unusedVariables false
set_option linter.unusedSimpArgs false
set_option autoImplicit true
set_option relaxedAutoImplicit true
namespace Go.Eng
open Go Go.Proofs
set_option linter.unusedSimpArgs false
set_option linter.unusedVariables false
set_option maxRecDepth 20000
set_option maxHeartbeats 1000000

/-! lists of features and of numbers: sizes, copies, what is read as it was -/
def wtToF (l : List Ft) (n : Nat) : Nat := ((l.take n).map fun x => wtF x).sum
theorem wtToF_zero (l : List Ft) : wtToF l 0 = 0 := rfl
theorem wtToF_succ {l : List Ft} {n : Nat} (h : n < l.length) : wtToF l (n + 1) = wtToF l n + wtF l[n] := by
  unfold wtToF
  rw [List.take_add_one, List.getElem?_eq_getElem h, List.map_append, List.sum_append]
  simp
theorem wtToF_le {l : List Ft} {n m : Nat} (h : n ≤ m) : wtToF l n ≤ wtToF l m := by
  unfold wtToF
  have : l.take m = l.take n ++ (l.take m).drop n := by
    have := List.take_append_drop n (l.take m)
    rw [List.take_take, Nat.min_eq_left h] at this
    exact this.symm
  rw [this, List.map_append, List.sum_append]
  omega
def wtLF (l : List Ft) : Nat := l.length + wtToF l l.length
theorem f14 (l : List Ft) (nl : Bool) (left : Int) (h0 : 0 ≤ left) (h1 : left ≤ 1048576) (hl : l.length ≤ 9223372036854775807) (hx : ∀ x ∈ l, x.fits) : Fn Try.prog 14 false [.lst 5 nl (l.map ft), i left] (i (szr left (wtLF l : Nat))) := by
  refine Fn.by_sx hX (by kernel_rfl) c14 (by kernel_rfl) (by rfl) ?_
  simp [i14, sx_skip, sx_ops, sx_seq, sx_cond, sx_block, sx_exit, sx_ret, sx_mcall, sx_mcallx, sx_mcell, sx_mset, sx_mnset, elAt, setEl, inAt, elIn, setIn, isLst, cellsOf, sxl_nil, sxl_set, sxl_call, sxl_callv, sxl_g1, sxl_g2, sxl_g3, sxl_g4, OkS_true, GrdS_tt, GrdS_tf, GrdS_ft, GrdS_ff, CondS_t, CondS_f, then_n, then_e, then_r, blk_n, blk_e, blk_r, upd_app, Ex.ok, Ex.val, Opd.val, POp.dst, bin_int, binOK_int, bin_str, binOK_str, resOK, resV, RB.val, sub, putc, scB, scL, oneB, conf, Ex.val.eqP, Ex.val.eqL, negV, mxV, mnV, ← wr_eq, wr_zero, wr_one, wr_m1, bst_lst, byteC, partsOK, putAll, appV, nilV, slV, sslV, optB, optNum, and_assoc, exists_and_left, exists_eq_left']
  have hw : wr .i64 (left - l.length) = left - l.length := wr_in (by omega) (by omega)
  by_cases hc : left - l.length < 0
  · repeat' (first | intro _ | (simp [sx_skip, sx_ops, sx_seq, sx_cond, sx_block, sx_exit, sx_ret, sx_mcall, sx_mcallx, sx_mcell, sx_mset, sx_mnset, elAt, setEl, inAt, elIn, setIn, isLst, cellsOf, sxl_nil, sxl_set, sxl_call, sxl_callv, sxl_g1, sxl_g2, sxl_g3, sxl_g4, OkS_true, GrdS_tt, GrdS_tf, GrdS_ft, GrdS_ff, CondS_t, CondS_f, then_n, then_e, then_r, blk_n, blk_e, blk_r, upd_app, Ex.ok, Ex.val, Opd.val, POp.dst, bin_int, binOK_int, bin_str, binOK_str, resOK, resV, RB.val, sub, putc, scB, scL, oneB, conf, Ex.val.eqP, Ex.val.eqL, negV, mxV, mnV, ← wr_eq, wr_zero, wr_one, wr_m1, bst_lst, byteC, partsOK, putAll, appV, nilV, slV, sslV, optB, optNum, and_assoc, exists_and_left, exists_eq_left', *]) | refine CondS_d (fun h => ?_) (fun h => ?_) | refine CondS_b (fun h => ?_) (fun h => ?_) | refine GrdS_d (fun h => ?_) (fun h => ?_) | refine GrdS_b (fun h => ?_) (fun h => ?_) | refine OkS_i (by omega) ?_ | fail)
    unfold szr wtLF; split <;> omega
  · repeat' (first | intro _ | (simp [sx_skip, sx_ops, sx_seq, sx_cond, sx_block, sx_exit, sx_ret, sx_mcall, sx_mcallx, sx_mcell, sx_mset, sx_mnset, elAt, setEl, inAt, elIn, setIn, isLst, cellsOf, sxl_nil, sxl_set, sxl_call, sxl_callv, sxl_g1, sxl_g2, sxl_g3, sxl_g4, OkS_true, GrdS_tt, GrdS_tf, GrdS_ft, GrdS_ff, CondS_t, CondS_f, then_n, then_e, then_r, blk_n, blk_e, blk_r, upd_app, Ex.ok, Ex.val, Opd.val, POp.dst, bin_int, binOK_int, bin_str, binOK_str, resOK, resV, RB.val, sub, putc, scB, scL, oneB, conf, Ex.val.eqP, Ex.val.eqL, negV, mxV, mnV, ← wr_eq, wr_zero, wr_one, wr_m1, bst_lst, byteC, partsOK, putAll, appV, nilV, slV, sslV, optB, optNum, and_assoc, exists_and_left, exists_eq_left', *]) | refine CondS_d (fun h => ?_) (fun h => ?_) | refine CondS_b (fun h => ?_) (fun h => ?_) | refine GrdS_d (fun h => ?_) (fun h => ?_) | refine GrdS_b (fun h => ?_) (fun h => ?_) | refine OkS_i (by omega) ?_ | fail)
    refine sx_count l.length (fun n V => V 0 = .lst 5 nl (l.map ft) ∧ V 5 = i n ∧ V 1 = i (left - l.length - wtToF l n) ∧ 0 ≤ left - l.length - wtToF l n) 0 (by omega) (by simp [sx_skip, sx_ops, sx_seq, sx_cond, sx_block, sx_exit, sx_ret, sx_mcall, sx_mcallx, sx_mcell, sx_mset, sx_mnset, elAt, setEl, inAt, elIn, setIn, isLst, cellsOf, sxl_nil, sxl_set, sxl_call, sxl_callv, sxl_g1, sxl_g2, sxl_g3, sxl_g4, OkS_true, GrdS_tt, GrdS_tf, GrdS_ft, GrdS_ff, CondS_t, CondS_f, then_n, then_e, then_r, blk_n, blk_e, blk_r, upd_app, Ex.ok, Ex.val, Opd.val, POp.dst, bin_int, binOK_int, bin_str, binOK_str, resOK, resV, RB.val, sub, putc, scB, scL, oneB, conf, Ex.val.eqP, Ex.val.eqL, negV, mxV, mnV, ← wr_eq, wr_zero, wr_one, wr_m1, bst_lst, byteC, partsOK, putAll, appV, nilV, slV, sslV, optB, optNum, and_assoc, exists_and_left, exists_eq_left', wtToF_zero]; omega) ?_
    rintro n V hn ⟨h0, h5, h1, hp⟩
    have hw : wr .i64 ((n : Int) + 1) = n + 1 := wr_in (by omega) (by omega)
    simp [sx_skip, sx_ops, sx_seq, sx_cond, sx_block, sx_exit, sx_ret, sx_mcall, sx_mcallx, sx_mcell, sx_mset, sx_mnset, elAt, setEl, inAt, elIn, setIn, isLst, cellsOf, sxl_nil, sxl_set, sxl_call, sxl_callv, sxl_g1, sxl_g2, sxl_g3, sxl_g4, OkS_true, GrdS_tt, GrdS_tf, GrdS_ft, GrdS_ff, CondS_t, CondS_f, then_n, then_e, then_r, blk_n, blk_e, blk_r, upd_app, Ex.ok, Ex.val, Opd.val, POp.dst, bin_int, binOK_int, bin_str, binOK_str, resOK, resV, RB.val, sub, putc, scB, scL, oneB, conf, Ex.val.eqP, Ex.val.eqL, negV, mxV, mnV, ← wr_eq, wr_zero, wr_one, wr_m1, bst_lst, byteC, partsOK, putAll, appV, nilV, slV, sslV, optB, optNum, and_assoc, exists_and_left, exists_eq_left', h0, h5]
    refine CondS_d (fun hlt => ?_) (fun hge => ?_)
    · have hlt' : n < l.length := by omega
      have hs := wtToF_succ hlt'
      have hle := wtToF_le (l := l) (n := n + 1) (m := l.length) hlt'
      have hc := f77 l[n] (left - l.length - wtToF l n) hp (by omega) (hx _ (List.getElem_mem ..))
      have hz : szr (left - l.length - wtToF l n) (wtF l[n] : Nat) = if left - l.length - wtToF l (n + 1) < 0 then -1 else left - l.length - wtToF l (n + 1) := by
        unfold szr; rw [hs]; split <;> split <;> omega
      rw [hz] at hc
      by_cases hneg : left - l.length - wtToF l (n + 1) < 0
      · rw [if_pos hneg] at hc
        repeat' (first | intro _ | (simp [sx_skip, sx_ops, sx_seq, sx_cond, sx_block, sx_exit, sx_ret, sx_mcall, sx_mcallx, sx_mcell, sx_mset, sx_mnset, elAt, setEl, inAt, elIn, setIn, isLst, cellsOf, sxl_nil, sxl_set, sxl_call, sxl_callv, sxl_g1, sxl_g2, sxl_g3, sxl_g4, OkS_true, GrdS_tt, GrdS_tf, GrdS_ft, GrdS_ff, CondS_t, CondS_f, then_n, then_e, then_r, blk_n, blk_e, blk_r, upd_app, Ex.ok, Ex.val, Opd.val, POp.dst, bin_int, binOK_int, bin_str, binOK_str, resOK, resV, RB.val, sub, putc, scB, scL, oneB, conf, Ex.val.eqP, Ex.val.eqL, negV, mxV, mnV, ← wr_eq, wr_zero, wr_one, wr_m1, bst_lst, byteC, partsOK, putAll, appV, nilV, slV, sslV, optB, optNum, and_assoc, exists_and_left, exists_eq_left', ft, *]) | refine CallS_i (hc) ?_ | refine CondS_d (fun h => ?_) (fun h => ?_) | refine CondS_b (fun h => ?_) (fun h => ?_) | refine GrdS_d (fun h => ?_) (fun h => ?_) | refine GrdS_b (fun h => ?_) (fun h => ?_) | refine OkS_i (by omega) ?_ | fail)
        unfold szr wtLF; split <;> omega
      · rw [if_neg hneg] at hc
        repeat' (first | intro _ | (simp [sx_skip, sx_ops, sx_seq, sx_cond, sx_block, sx_exit, sx_ret, sx_mcall, sx_mcallx, sx_mcell, sx_mset, sx_mnset, elAt, setEl, inAt, elIn, setIn, isLst, cellsOf, sxl_nil, sxl_set, sxl_call, sxl_callv, sxl_g1, sxl_g2, sxl_g3, sxl_g4, OkS_true, GrdS_tt, GrdS_tf, GrdS_ft, GrdS_ff, CondS_t, CondS_f, then_n, then_e, then_r, blk_n, blk_e, blk_r, upd_app, Ex.ok, Ex.val, Opd.val, POp.dst, bin_int, binOK_int, bin_str, binOK_str, resOK, resV, RB.val, sub, putc, scB, scL, oneB, conf, Ex.val.eqP, Ex.val.eqL, negV, mxV, mnV, ← wr_eq, wr_zero, wr_one, wr_m1, bst_lst, byteC, partsOK, putAll, appV, nilV, slV, sslV, optB, optNum, and_assoc, exists_and_left, exists_eq_left', ft, *]) | refine CallS_i (hc) ?_ | refine CondS_d (fun h => ?_) (fun h => ?_) | refine CondS_b (fun h => ?_) (fun h => ?_) | refine GrdS_d (fun h => ?_) (fun h => ?_) | refine GrdS_b (fun h => ?_) (fun h => ?_) | refine OkS_i (by omega) ?_ | fail)
        all_goals omega
    · have : n = l.length := by omega
      subst this
      repeat' (first | intro _ | (simp [sx_skip, sx_ops, sx_seq, sx_cond, sx_block, sx_exit, sx_ret, sx_mcall, sx_mcallx, sx_mcell, sx_mset, sx_mnset, elAt, setEl, inAt, elIn, setIn, isLst, cellsOf, sxl_nil, sxl_set, sxl_call, sxl_callv, sxl_g1, sxl_g2, sxl_g3, sxl_g4, OkS_true, GrdS_tt, GrdS_tf, GrdS_ft, GrdS_ff, CondS_t, CondS_f, then_n, then_e, then_r, blk_n, blk_e, blk_r, upd_app, Ex.ok, Ex.val, Opd.val, POp.dst, bin_int, binOK_int, bin_str, binOK_str, resOK, resV, RB.val, sub, putc, scB, scL, oneB, conf, Ex.val.eqP, Ex.val.eqL, negV, mxV, mnV, ← wr_eq, wr_zero, wr_one, wr_m1, bst_lst, byteC, partsOK, putAll, appV, nilV, slV, sslV, optB, optNum, and_assoc, exists_and_left, exists_eq_left', *]) | refine CondS_d (fun h => ?_) (fun h => ?_) | refine CondS_b (fun h => ?_) (fun h => ?_) | refine GrdS_d (fun h => ?_) (fun h => ?_) | refine GrdS_b (fun h => ?_) (fun h => ?_) | refine OkS_i (by omega) ?_ | fail)
      unfold szr wtLF; split <;> omega
def ftz : List PV := [i 0, i 0, i 0, .str (bs []), .lst 2 true []]
def ftf (x : Ft) : List PV := [i x.f0, i x.f1, i x.f2, .str x.f3, .lst 2 false (x.f4.map cp)]
theorem f16w (l : List Ft) (nl : Bool) (hl : l.length ≤ 1048576) (hx : ∀ x ∈ l, x.f4.length ≤ 1048576) : Fn Try.prog 16 true [.lst 5 nl (l.map ft)] (.lst 5 false (l.map ftf)) := by
  refine Fn.by_sx hX (by kernel_rfl) c16 (by kernel_rfl) (by rfl) ?_
  simp [i16, sx_skip, sx_ops, sx_seq, sx_cond, sx_block, sx_exit, sx_ret, sx_mcall, sx_mcallx, sx_mcell, sx_mset, sx_mnset, elAt, setEl, inAt, elIn, setIn, isLst, cellsOf, sxl_nil, sxl_set, sxl_call, sxl_callv, sxl_g1, sxl_g2, sxl_g3, sxl_g4, OkS_true, GrdS_tt, GrdS_tf, GrdS_ft, GrdS_ff, CondS_t, CondS_f, then_n, then_e, then_r, blk_n, blk_e, blk_r, upd_app, Ex.ok, Ex.val, Opd.val, POp.dst, bin_int, binOK_int, bin_str, binOK_str, resOK, resV, RB.val, sub, putc, scB, scL, oneB, conf, Ex.val.eqP, Ex.val.eqL, negV, mxV, mnV, ← wr_eq, wr_zero, wr_one, wr_m1, bst_lst, byteC, partsOK, putAll, appV, nilV, slV, sslV, optB, optNum, and_assoc, exists_and_left, exists_eq_left']
  repeat' (first | intro _ | (simp [sx_skip, sx_ops, sx_seq, sx_cond, sx_block, sx_exit, sx_ret, sx_mcall, sx_mcallx, sx_mcell, sx_mset, sx_mnset, elAt, setEl, inAt, elIn, setIn, isLst, cellsOf, sxl_nil, sxl_set, sxl_call, sxl_callv, sxl_g1, sxl_g2, sxl_g3, sxl_g4, OkS_true, GrdS_tt, GrdS_tf, GrdS_ft, GrdS_ff, CondS_t, CondS_f, then_n, then_e, then_r, blk_n, blk_e, blk_r, upd_app, Ex.ok, Ex.val, Opd.val, POp.dst, bin_int, binOK_int, bin_str, binOK_str, resOK, resV, RB.val, sub, putc, scB, scL, oneB, conf, Ex.val.eqP, Ex.val.eqL, negV, mxV, mnV, ← wr_eq, wr_zero, wr_one, wr_m1, bst_lst, byteC, partsOK, putAll, appV, nilV, slV, sslV, optB, optNum, and_assoc, exists_and_left, exists_eq_left', *]) | refine CondS_d (fun h => ?_) (fun h => ?_) | refine CondS_b (fun h => ?_) (fun h => ?_) | refine GrdS_d (fun h => ?_) (fun h => ?_) | refine GrdS_b (fun h => ?_) (fun h => ?_) | refine OkS_i (by omega) ?_ | fail)
  refine sx_count l.length (fun n V => V 0 = .lst 5 nl (l.map ft) ∧ V 4 = i n ∧ V 3 = .lst 5 false (fillTo ftf ftz l n)) 0 (by omega) (by simp [sx_skip, sx_ops, sx_seq, sx_cond, sx_block, sx_exit, sx_ret, sx_mcall, sx_mcallx, sx_mcell, sx_mset, sx_mnset, elAt, setEl, inAt, elIn, setIn, isLst, cellsOf, sxl_nil, sxl_set, sxl_call, sxl_callv, sxl_g1, sxl_g2, sxl_g3, sxl_g4, OkS_true, GrdS_tt, GrdS_tf, GrdS_ft, GrdS_ff, CondS_t, CondS_f, then_n, then_e, then_r, blk_n, blk_e, blk_r, upd_app, Ex.ok, Ex.val, Opd.val, POp.dst, bin_int, binOK_int, bin_str, binOK_str, resOK, resV, RB.val, sub, putc, scB, scL, oneB, conf, Ex.val.eqP, Ex.val.eqL, negV, mxV, mnV, ← wr_eq, wr_zero, wr_one, wr_m1, bst_lst, byteC, partsOK, putAll, appV, nilV, slV, sslV, optB, optNum, and_assoc, exists_and_left, exists_eq_left', fillTo_zero, ftz]) ?_
  rintro n V hn ⟨h0, h4, h3⟩
  have hw : wr .i64 ((n : Int) + 1) = n + 1 := wr_in (by omega) (by omega)
  simp [sx_skip, sx_ops, sx_seq, sx_cond, sx_block, sx_exit, sx_ret, sx_mcall, sx_mcallx, sx_mcell, sx_mset, sx_mnset, elAt, setEl, inAt, elIn, setIn, isLst, cellsOf, sxl_nil, sxl_set, sxl_call, sxl_callv, sxl_g1, sxl_g2, sxl_g3, sxl_g4, OkS_true, GrdS_tt, GrdS_tf, GrdS_ft, GrdS_ff, CondS_t, CondS_f, then_n, then_e, then_r, blk_n, blk_e, blk_r, upd_app, Ex.ok, Ex.val, Opd.val, POp.dst, bin_int, binOK_int, bin_str, binOK_str, resOK, resV, RB.val, sub, putc, scB, scL, oneB, conf, Ex.val.eqP, Ex.val.eqL, negV, mxV, mnV, ← wr_eq, wr_zero, wr_one, wr_m1, bst_lst, byteC, partsOK, putAll, appV, nilV, slV, sslV, optB, optNum, and_assoc, exists_and_left, exists_eq_left', h0, h4]
  refine CondS_d (fun hlt => ?_) (fun hge => ?_)
  · have hlt' : n < l.length := by omega
    have hs : (fillTo ftf ftz l n).set n [i l[n].f0, i l[n].f1, i l[n].f2, .str l[n].f3, .lst 2 false (l[n].f4.map cp)] = fillTo ftf ftz l (n + 1) := fillTo_set hlt'
    have hfl := fillTo_len (g := ftf) (z := ftz) (l := l) (n := n) (by omega)
    have hc := f82 l[n] (hx _ (List.getElem_mem ..))
    unfold ft Ft.fr at hc
    repeat' (first | intro _ | (simp [sx_skip, sx_ops, sx_seq, sx_cond, sx_block, sx_exit, sx_ret, sx_mcall, sx_mcallx, sx_mcell, sx_mset, sx_mnset, elAt, setEl, inAt, elIn, setIn, isLst, cellsOf, sxl_nil, sxl_set, sxl_call, sxl_callv, sxl_g1, sxl_g2, sxl_g3, sxl_g4, OkS_true, GrdS_tt, GrdS_tf, GrdS_ft, GrdS_ff, CondS_t, CondS_f, then_n, then_e, then_r, blk_n, blk_e, blk_r, upd_app, Ex.ok, Ex.val, Opd.val, POp.dst, bin_int, binOK_int, bin_str, binOK_str, resOK, resV, RB.val, sub, putc, scB, scL, oneB, conf, Ex.val.eqP, Ex.val.eqL, negV, mxV, mnV, ← wr_eq, wr_zero, wr_one, wr_m1, bst_lst, byteC, partsOK, putAll, appV, nilV, slV, sslV, optB, optNum, and_assoc, exists_and_left, exists_eq_left', ft, *]) | refine CallS_i (hc) ?_ | refine CondS_d (fun h => ?_) (fun h => ?_) | refine CondS_b (fun h => ?_) (fun h => ?_) | refine GrdS_d (fun h => ?_) (fun h => ?_) | refine GrdS_b (fun h => ?_) (fun h => ?_) | refine OkS_i (by omega) ?_ | fail)
  · have : n = l.length := by omega
    subst this
    have hfu := fillTo_full (g := ftf) (z := ftz) (l := l)
    repeat' (first | intro _ | (simp [sx_skip, sx_ops, sx_seq, sx_cond, sx_block, sx_exit, sx_ret, sx_mcall, sx_mcallx, sx_mcell, sx_mset, sx_mnset, elAt, setEl, inAt, elIn, setIn, isLst, cellsOf, sxl_nil, sxl_set, sxl_call, sxl_callv, sxl_g1, sxl_g2, sxl_g3, sxl_g4, OkS_true, GrdS_tt, GrdS_tf, GrdS_ft, GrdS_ff, CondS_t, CondS_f, then_n, then_e, then_r, blk_n, blk_e, blk_r, upd_app, Ex.ok, Ex.val, Opd.val, POp.dst, bin_int, binOK_int, bin_str, binOK_str, resOK, resV, RB.val, sub, putc, scB, scL, oneB, conf, Ex.val.eqP, Ex.val.eqL, negV, mxV, mnV, ← wr_eq, wr_zero, wr_one, wr_m1, bst_lst, byteC, partsOK, putAll, appV, nilV, slV, sslV, optB, optNum, and_assoc, exists_and_left, exists_eq_left', *]) | refine CondS_d (fun h => ?_) (fun h => ?_) | refine CondS_b (fun h => ?_) (fun h => ?_) | refine GrdS_d (fun h => ?_) (fun h => ?_) | refine GrdS_b (fun h => ?_) (fun h => ?_) | refine OkS_i (by omega) ?_ | fail)
theorem f16 (l : List Ft) (nl : Bool) (hl : l.length ≤ 1048576) (hx : ∀ x ∈ l, x.f4.length ≤ 1048576) : Fn Try.prog 16 true [.lst 5 nl (l.map ft)] (.lst 5 false ((l.map Ft.fr).map ft)) := by
  have := f16w l nl hl hx
  rw [List.map_map]
  exact this
theorem f19 (l : List Ft) (n1 n2 : Bool) (hl : l.length ≤ 1000000000000) (hx : ∀ x ∈ l, x.f4.length ≤ 1000000000000) : Fn Try.prog 19 false [.lst 5 n1 (l.map ft), .lst 5 n2 (l.map ft)] (.bool true) := by
  refine Fn.by_sx hX (by kernel_rfl) c19 (by kernel_rfl) (by rfl) ?_
  simp [i19, sx_skip, sx_ops, sx_seq, sx_cond, sx_block, sx_exit, sx_ret, sx_mcall, sx_mcallx, sx_mcell, sx_mset, sx_mnset, elAt, setEl, inAt, elIn, setIn, isLst, cellsOf, sxl_nil, sxl_set, sxl_call, sxl_callv, sxl_g1, sxl_g2, sxl_g3, sxl_g4, OkS_true, GrdS_tt, GrdS_tf, GrdS_ft, GrdS_ff, CondS_t, CondS_f, then_n, then_e, then_r, blk_n, blk_e, blk_r, upd_app, Ex.ok, Ex.val, Opd.val, POp.dst, bin_int, binOK_int, bin_str, binOK_str, resOK, resV, RB.val, sub, putc, scB, scL, oneB, conf, Ex.val.eqP, Ex.val.eqL, negV, mxV, mnV, ← wr_eq, wr_zero, wr_one, wr_m1, bst_lst, byteC, partsOK, putAll, appV, nilV, slV, sslV, optB, optNum, and_assoc, exists_and_left, exists_eq_left']
  repeat' (first | intro _ | (simp [sx_skip, sx_ops, sx_seq, sx_cond, sx_block, sx_exit, sx_ret, sx_mcall, sx_mcallx, sx_mcell, sx_mset, sx_mnset, elAt, setEl, inAt, elIn, setIn, isLst, cellsOf, sxl_nil, sxl_set, sxl_call, sxl_callv, sxl_g1, sxl_g2, sxl_g3, sxl_g4, OkS_true, GrdS_tt, GrdS_tf, GrdS_ft, GrdS_ff, CondS_t, CondS_f, then_n, then_e, then_r, blk_n, blk_e, blk_r, upd_app, Ex.ok, Ex.val, Opd.val, POp.dst, bin_int, binOK_int, bin_str, binOK_str, resOK, resV, RB.val, sub, putc, scB, scL, oneB, conf, Ex.val.eqP, Ex.val.eqL, negV, mxV, mnV, ← wr_eq, wr_zero, wr_one, wr_m1, bst_lst, byteC, partsOK, putAll, appV, nilV, slV, sslV, optB, optNum, and_assoc, exists_and_left, exists_eq_left', *]) | refine CondS_d (fun h => ?_) (fun h => ?_) | refine CondS_b (fun h => ?_) (fun h => ?_) | refine GrdS_d (fun h => ?_) (fun h => ?_) | refine GrdS_b (fun h => ?_) (fun h => ?_) | refine OkS_i (by omega) ?_ | fail)
  refine sx_count l.length (fun n V => V 0 = .lst 5 n1 (l.map ft) ∧ V 1 = .lst 5 n2 (l.map ft) ∧ V 5 = i n) 0 (by omega) (by simp [sx_skip, sx_ops, sx_seq, sx_cond, sx_block, sx_exit, sx_ret, sx_mcall, sx_mcallx, sx_mcell, sx_mset, sx_mnset, elAt, setEl, inAt, elIn, setIn, isLst, cellsOf, sxl_nil, sxl_set, sxl_call, sxl_callv, sxl_g1, sxl_g2, sxl_g3, sxl_g4, OkS_true, GrdS_tt, GrdS_tf, GrdS_ft, GrdS_ff, CondS_t, CondS_f, then_n, then_e, then_r, blk_n, blk_e, blk_r, upd_app, Ex.ok, Ex.val, Opd.val, POp.dst, bin_int, binOK_int, bin_str, binOK_str, resOK, resV, RB.val, sub, putc, scB, scL, oneB, conf, Ex.val.eqP, Ex.val.eqL, negV, mxV, mnV, ← wr_eq, wr_zero, wr_one, wr_m1, bst_lst, byteC, partsOK, putAll, appV, nilV, slV, sslV, optB, optNum, and_assoc, exists_and_left, exists_eq_left']) ?_
  rintro n V hn ⟨h0, h1, h5⟩
  have hw : wr .i64 ((n : Int) + 1) = n + 1 := wr_in (by omega) (by omega)
  simp [sx_skip, sx_ops, sx_seq, sx_cond, sx_block, sx_exit, sx_ret, sx_mcall, sx_mcallx, sx_mcell, sx_mset, sx_mnset, elAt, setEl, inAt, elIn, setIn, isLst, cellsOf, sxl_nil, sxl_set, sxl_call, sxl_callv, sxl_g1, sxl_g2, sxl_g3, sxl_g4, OkS_true, GrdS_tt, GrdS_tf, GrdS_ft, GrdS_ff, CondS_t, CondS_f, then_n, then_e, then_r, blk_n, blk_e, blk_r, upd_app, Ex.ok, Ex.val, Opd.val, POp.dst, bin_int, binOK_int, bin_str, binOK_str, resOK, resV, RB.val, sub, putc, scB, scL, oneB, conf, Ex.val.eqP, Ex.val.eqL, negV, mxV, mnV, ← wr_eq, wr_zero, wr_one, wr_m1, bst_lst, byteC, partsOK, putAll, appV, nilV, slV, sslV, optB, optNum, and_assoc, exists_and_left, exists_eq_left', h0, h5]
  refine CondS_d (fun hlt => ?_) (fun hge => ?_)
  · have hlt' : n < l.length := by omega
    have hc := f85 l[n] l[n].nl l[n].nl (hx _ (List.getElem_mem ..))
    unfold ft at hc
    repeat' (first | intro _ | (simp [sx_skip, sx_ops, sx_seq, sx_cond, sx_block, sx_exit, sx_ret, sx_mcall, sx_mcallx, sx_mcell, sx_mset, sx_mnset, elAt, setEl, inAt, elIn, setIn, isLst, cellsOf, sxl_nil, sxl_set, sxl_call, sxl_callv, sxl_g1, sxl_g2, sxl_g3, sxl_g4, OkS_true, GrdS_tt, GrdS_tf, GrdS_ft, GrdS_ff, CondS_t, CondS_f, then_n, then_e, then_r, blk_n, blk_e, blk_r, upd_app, Ex.ok, Ex.val, Opd.val, POp.dst, bin_int, binOK_int, bin_str, binOK_str, resOK, resV, RB.val, sub, putc, scB, scL, oneB, conf, Ex.val.eqP, Ex.val.eqL, negV, mxV, mnV, ← wr_eq, wr_zero, wr_one, wr_m1, bst_lst, byteC, partsOK, putAll, appV, nilV, slV, sslV, optB, optNum, and_assoc, exists_and_left, exists_eq_left', ft, *]) | refine CallS_i (hc) ?_ | refine CondS_d (fun h => ?_) (fun h => ?_) | refine CondS_b (fun h => ?_) (fun h => ?_) | refine GrdS_d (fun h => ?_) (fun h => ?_) | refine GrdS_b (fun h => ?_) (fun h => ?_) | refine OkS_i (by omega) ?_ | fail)
    all_goals simp_all
  · have : n = l.length := by omega
    subst this
    repeat' (first | intro _ | (simp [sx_skip, sx_ops, sx_seq, sx_cond, sx_block, sx_exit, sx_ret, sx_mcall, sx_mcallx, sx_mcell, sx_mset, sx_mnset, elAt, setEl, inAt, elIn, setIn, isLst, cellsOf, sxl_nil, sxl_set, sxl_call, sxl_callv, sxl_g1, sxl_g2, sxl_g3, sxl_g4, OkS_true, GrdS_tt, GrdS_tf, GrdS_ft, GrdS_ff, CondS_t, CondS_f, then_n, then_e, then_r, blk_n, blk_e, blk_r, upd_app, Ex.ok, Ex.val, Opd.val, POp.dst, bin_int, binOK_int, bin_str, binOK_str, resOK, resV, RB.val, sub, putc, scB, scL, oneB, conf, Ex.val.eqP, Ex.val.eqL, negV, mxV, mnV, ← wr_eq, wr_zero, wr_one, wr_m1, bst_lst, byteC, partsOK, putAll, appV, nilV, slV, sslV, optB, optNum, and_assoc, exists_and_left, exists_eq_left', *]) | refine CondS_d (fun h => ?_) (fun h => ?_) | refine CondS_b (fun h => ?_) (fun h => ?_) | refine GrdS_d (fun h => ?_) (fun h => ?_) | refine GrdS_b (fun h => ?_) (fun h => ?_) | refine OkS_i (by omega) ?_ | fail)
theorem wtLF_len (l : List Ft) : l.length ≤ wtLF l := Nat.le_add_right ..
theorem wtLF_mem {l : List Ft} {x : Ft} (h : x ∈ l) : x.f3.size + x.f4.length ≤ wtLF l := by
  unfold wtLF wtToF
  rw [List.take_of_length_le (Nat.le_refl _)]
  have : ∀ (l : List Ft), x ∈ l → wtF x ≤ (l.map fun x => wtF x).sum := by
    intro l
    induction l with
    | nil => intro h; cases h
    | cons y r ih =>
      intro h
      rw [List.map_cons, List.sum_cons]
      rcases List.mem_cons.1 h with rfl | h
      · exact Nat.le_add_right ..
      · have := ih h; omega
  have := this l h
  have e : wtF x = x.f3.size + x.f4.length := rfl
  omega
end Go.Eng
namespace Go.Eng
open Go Go.Proofs Geo
set_option linter.unusedSimpArgs false
set_option linter.unusedVariables false
set_option maxRecDepth 20000
set_option maxHeartbeats 1000000

/-! lengths -/
def wSt (ax ay bx by' : Int) : Int := if M_IsPoint ax ay = true ∧ M_IsPoint bx by' = true then max (ax - bx) (bx - ax) + max (ay - by') (by' - ay) else -1
theorem wSt_ok {ax ay bx by' : Int} (h1 : M_IsPoint ax ay = true) (h2 : M_IsPoint bx by' = true) : wSt ax ay bx by' = max (ax - bx) (bx - ax) + max (ay - by') (by' - ay) ∧
    (wr .i64 (ax - bx) = ax - bx ∧ wr .i64 (bx - ax) = bx - ax ∧ wr .i64 (ay - by') = ay - by' ∧ wr .i64 (by' - ay) = by' - ay) ∧
    wr .i64 (max (ax - bx) (bx - ax) + max (ay - by') (by' - ay)) = max (ax - bx) (bx - ax) + max (ay - by') (by' - ay) := by
  have v1 := (M_IsPoint_iff _ _).1 h1
  have v2 := (M_IsPoint_iff _ _).1 h2
  unfold Vl at v1 v2
  refine ⟨if_pos ⟨h1, h2⟩, ⟨wr_in (by omega) (by omega), wr_in (by omega) (by omega), wr_in (by omega) (by omega), wr_in (by omega) (by omega)⟩, wr_in (by omega) (by omega)⟩
theorem wSt_bound (ax ay bx by' : Int) : -1 ≤ wSt ax ay bx by' ∧ wSt ax ay bx by' ≤ 400 := by
  unfold wSt
  split
  · rename_i h
    have v1 := (M_IsPoint_iff _ _).1 h.1
    have v2 := (M_IsPoint_iff _ _).1 h.2
    unfold Vl at v1 v2
    omega
  · omega
theorem mx_max (a b : Int) : (if a < b then b else a) = max a b := by omega
def sumTo (f : Nat → Int) : Nat → Int
  | 0 => 0
  | n + 1 => sumTo f n + f n
theorem sumTo_zero {f : Nat → Int} : sumTo f 0 = 0 := rfl
theorem sumTo_succ {f : Nat → Int} {n : Nat} : sumTo f (n + 1) = sumTo f n + f n := rfl
theorem sumTo_bound {f : Nat → Int} {a b : Int} (h : ∀ k, -a ≤ f k ∧ f k ≤ b) : ∀ n : Nat, -(a * n) ≤ sumTo f n ∧ sumTo f n ≤ b * n := by
  intro n
  induction n with
  | zero => simp [sumTo]
  | succ n ih =>
    have := h n
    have e1 : a * ((n + 1 : Nat) : Int) = a * n + a := by rw [Int.natCast_add, Int.mul_add]; simp
    have e2 : b * ((n + 1 : Nat) : Int) = b * n + b := by rw [Int.natCast_add, Int.mul_add]; simp
    rw [sumTo_succ, e1, e2]
    omega
def sSt (S : List Sg) (k : Nat) : Int := wSt (sgD S k).f0.f0 (sgD S k).f0.f1 (sgD S k).f1.f0 (sgD S k).f1.f1
def wSteps (l : List Pt) : Int := sumTo (sSt (wSegs l)) (wSegs l).length
theorem sSt_sum (S : List Sg) (n : Nat) : -(1 * (n : Int)) ≤ sumTo (sSt S) n ∧ sumTo (sSt S) n ≤ 400 * n := sumTo_bound (fun k => wSt_bound ..) n
theorem wSteps_bound (l : List Pt) : -9 ≤ wSteps l ∧ wSteps l ≤ 3600 := by
  have := sSt_sum (wSegs l) (wSegs l).length
  have h9 := wSegs_len l
  unfold wSteps
  omega
/-! the first that is found -/
def firstFrom (ok : Nat → Bool) : Nat → Nat → Int
  | 0, _ => -1
  | d + 1, i => if ok i = true then i else firstFrom ok d (i + 1)
theorem firstFrom_step {ok : Nat → Bool} {n N : Nat} (h : n < N) : firstFrom ok (N - n) n = if ok n = true then (n : Int) else firstFrom ok (N - (n + 1)) (n + 1) := by
  rw [show N - n = (N - (n + 1)) + 1 by omega]; rfl
theorem firstFrom_end {ok : Nat → Bool} {N : Nat} : firstFrom ok (N - N) N = -1 := by rw [Nat.sub_self]; rfl
theorem firstFrom_bound {ok : Nat → Bool} : ∀ d n : Nat, -1 ≤ firstFrom ok d n ∧ firstFrom ok d n < (n : Int) + d
  | 0, n => ⟨by simp [firstFrom], by simp [firstFrom]; omega⟩
  | d + 1, n => by
    unfold firstFrom
    split
    · omega
    · have := firstFrom_bound (ok := ok) d (n + 1)
      omega
def ftD : Ft := ⟨0, 0, 0, ⟨#[]⟩, [], true⟩
def hasId (l : List Ft) (id : Int) (n : Nat) : Bool := decide ((l.getD n ftD).f0 = id)
def wFind (l : List Ft) (id : Int) : Int := firstFrom (hasId l id) (l.length - 0) 0
theorem wFind_bound (l : List Ft) (id : Int) : -1 ≤ wFind l id ∧ wFind l id < l.length := by
  have := firstFrom_bound (ok := hasId l id) (l.length - 0) 0
  unfold wFind
  omega
theorem f111 (l : List Ft) (nl : Bool) (id : Int) (hl : l.length ≤ 1000000000000) : Fn Try.prog 111 false [.lst 5 nl (l.map ft), i id] (i (wFind l id)) := by
  refine Fn.by_sx hX (by kernel_rfl) c111 (by kernel_rfl) (by rfl) ?_
  simp [i111, sx_skip, sx_ops, sx_seq, sx_cond, sx_block, sx_exit, sx_ret, sx_mcall, sx_mcallx, sx_mcell, sx_mset, sx_mnset, elAt, setEl, inAt, elIn, setIn, isLst, cellsOf, sxl_nil, sxl_set, sxl_call, sxl_callv, sxl_g1, sxl_g2, sxl_g3, sxl_g4, OkS_true, GrdS_tt, GrdS_tf, GrdS_ft, GrdS_ff, CondS_t, CondS_f, then_n, then_e, then_r, blk_n, blk_e, blk_r, upd_app, Ex.ok, Ex.val, Opd.val, POp.dst, bin_int, binOK_int, bin_str, binOK_str, resOK, resV, RB.val, sub, putc, scB, scL, oneB, conf, Ex.val.eqP, Ex.val.eqL, negV, mxV, mnV, ← wr_eq, wr_zero, wr_one, wr_m1, bst_lst, byteC, partsOK, putAll, appV, nilV, slV, sslV, optB, optNum, and_assoc, exists_and_left, exists_eq_left']
  refine sx_count l.length (fun n V => V 0 = .lst 5 nl (l.map ft) ∧ V 1 = i id ∧ V 5 = i n ∧ wFind l id = firstFrom (hasId l id) (l.length - n) n) 0 (by omega) (by simp [sx_skip, sx_ops, sx_seq, sx_cond, sx_block, sx_exit, sx_ret, sx_mcall, sx_mcallx, sx_mcell, sx_mset, sx_mnset, elAt, setEl, inAt, elIn, setIn, isLst, cellsOf, sxl_nil, sxl_set, sxl_call, sxl_callv, sxl_g1, sxl_g2, sxl_g3, sxl_g4, OkS_true, GrdS_tt, GrdS_tf, GrdS_ft, GrdS_ff, CondS_t, CondS_f, then_n, then_e, then_r, blk_n, blk_e, blk_r, upd_app, Ex.ok, Ex.val, Opd.val, POp.dst, bin_int, binOK_int, bin_str, binOK_str, resOK, resV, RB.val, sub, putc, scB, scL, oneB, conf, Ex.val.eqP, Ex.val.eqL, negV, mxV, mnV, ← wr_eq, wr_zero, wr_one, wr_m1, bst_lst, byteC, partsOK, putAll, appV, nilV, slV, sslV, optB, optNum, and_assoc, exists_and_left, exists_eq_left']; rfl) ?_
  rintro n V hn ⟨h0, h1, h5, hf⟩
  have hw : wr .i64 ((n : Int) + 1) = n + 1 := wr_in (by omega) (by omega)
  simp [sx_skip, sx_ops, sx_seq, sx_cond, sx_block, sx_exit, sx_ret, sx_mcall, sx_mcallx, sx_mcell, sx_mset, sx_mnset, elAt, setEl, inAt, elIn, setIn, isLst, cellsOf, sxl_nil, sxl_set, sxl_call, sxl_callv, sxl_g1, sxl_g2, sxl_g3, sxl_g4, OkS_true, GrdS_tt, GrdS_tf, GrdS_ft, GrdS_ff, CondS_t, CondS_f, then_n, then_e, then_r, blk_n, blk_e, blk_r, upd_app, Ex.ok, Ex.val, Opd.val, POp.dst, bin_int, binOK_int, bin_str, binOK_str, resOK, resV, RB.val, sub, putc, scB, scL, oneB, conf, Ex.val.eqP, Ex.val.eqL, negV, mxV, mnV, ← wr_eq, wr_zero, wr_one, wr_m1, bst_lst, byteC, partsOK, putAll, appV, nilV, slV, sslV, optB, optNum, and_assoc, exists_and_left, exists_eq_left', h0, h5]
  refine CondS_d (fun hlt => ?_) (fun hge => ?_)
  · have hlt' : n < l.length := by omega
    rw [firstFrom_step hlt'] at hf
    have hr : hasId l id n = decide (l[n].f0 = id) := by simp [hasId, hlt']
    rw [hr] at hf
    by_cases he : l[n].f0 = id
    · simp only [he, decide_true, if_true] at hf
      repeat' (first | intro _ | (simp [sx_skip, sx_ops, sx_seq, sx_cond, sx_block, sx_exit, sx_ret, sx_mcall, sx_mcallx, sx_mcell, sx_mset, sx_mnset, elAt, setEl, inAt, elIn, setIn, isLst, cellsOf, sxl_nil, sxl_set, sxl_call, sxl_callv, sxl_g1, sxl_g2, sxl_g3, sxl_g4, OkS_true, GrdS_tt, GrdS_tf, GrdS_ft, GrdS_ff, CondS_t, CondS_f, then_n, then_e, then_r, blk_n, blk_e, blk_r, upd_app, Ex.ok, Ex.val, Opd.val, POp.dst, bin_int, binOK_int, bin_str, binOK_str, resOK, resV, RB.val, sub, putc, scB, scL, oneB, conf, Ex.val.eqP, Ex.val.eqL, negV, mxV, mnV, ← wr_eq, wr_zero, wr_one, wr_m1, bst_lst, byteC, partsOK, putAll, appV, nilV, slV, sslV, optB, optNum, and_assoc, exists_and_left, exists_eq_left', ft, *]) | refine CondS_d (fun h => ?_) (fun h => ?_) | refine CondS_b (fun h => ?_) (fun h => ?_) | refine GrdS_d (fun h => ?_) (fun h => ?_) | refine GrdS_b (fun h => ?_) (fun h => ?_) | refine OkS_i (by omega) ?_ | fail)
    · simp only [he, decide_false, Bool.false_eq_true, if_false] at hf
      repeat' (first | intro _ | (simp [sx_skip, sx_ops, sx_seq, sx_cond, sx_block, sx_exit, sx_ret, sx_mcall, sx_mcallx, sx_mcell, sx_mset, sx_mnset, elAt, setEl, inAt, elIn, setIn, isLst, cellsOf, sxl_nil, sxl_set, sxl_call, sxl_callv, sxl_g1, sxl_g2, sxl_g3, sxl_g4, OkS_true, GrdS_tt, GrdS_tf, GrdS_ft, GrdS_ff, CondS_t, CondS_f, then_n, then_e, then_r, blk_n, blk_e, blk_r, upd_app, Ex.ok, Ex.val, Opd.val, POp.dst, bin_int, binOK_int, bin_str, binOK_str, resOK, resV, RB.val, sub, putc, scB, scL, oneB, conf, Ex.val.eqP, Ex.val.eqL, negV, mxV, mnV, ← wr_eq, wr_zero, wr_one, wr_m1, bst_lst, byteC, partsOK, putAll, appV, nilV, slV, sslV, optB, optNum, and_assoc, exists_and_left, exists_eq_left', ft, *]) | refine CondS_d (fun h => ?_) (fun h => ?_) | refine CondS_b (fun h => ?_) (fun h => ?_) | refine GrdS_d (fun h => ?_) (fun h => ?_) | refine GrdS_b (fun h => ?_) (fun h => ?_) | refine OkS_i (by omega) ?_ | fail)
  · have : n = l.length := by omega
    subst this
    rw [firstFrom_end] at hf
    repeat' (first | intro _ | (simp [sx_skip, sx_ops, sx_seq, sx_cond, sx_block, sx_exit, sx_ret, sx_mcall, sx_mcallx, sx_mcell, sx_mset, sx_mnset, elAt, setEl, inAt, elIn, setIn, isLst, cellsOf, sxl_nil, sxl_set, sxl_call, sxl_callv, sxl_g1, sxl_g2, sxl_g3, sxl_g4, OkS_true, GrdS_tt, GrdS_tf, GrdS_ft, GrdS_ff, CondS_t, CondS_f, then_n, then_e, then_r, blk_n, blk_e, blk_r, upd_app, Ex.ok, Ex.val, Opd.val, POp.dst, bin_int, binOK_int, bin_str, binOK_str, resOK, resV, RB.val, sub, putc, scB, scL, oneB, conf, Ex.val.eqP, Ex.val.eqL, negV, mxV, mnV, ← wr_eq, wr_zero, wr_one, wr_m1, bst_lst, byteC, partsOK, putAll, appV, nilV, slV, sslV, optB, optNum, and_assoc, exists_and_left, exists_eq_left', *]) | refine CondS_d (fun h => ?_) (fun h => ?_) | refine CondS_b (fun h => ?_) (fun h => ?_) | refine GrdS_d (fun h => ?_) (fun h => ?_) | refine GrdS_b (fun h => ?_) (fun h => ?_) | refine OkS_i (by omega) ?_ | fail)
theorem f159 (x : Ft) (id : Int) : Fn Try.prog 159 false [.agg (ft x), .ptr [i id]] (.bool (decide (x.f0 = id))) := by
  unfold ft
  refine Fn.by_sx hX (by kernel_rfl) c159 (by kernel_rfl) (by rfl) ?_
  simp [i159, sx_skip, sx_ops, sx_seq, sx_cond, sx_block, sx_exit, sx_ret, sx_mcall, sx_mcallx, sx_mcell, sx_mset, sx_mnset, elAt, setEl, inAt, elIn, setIn, isLst, cellsOf, sxl_nil, sxl_set, sxl_call, sxl_callv, sxl_g1, sxl_g2, sxl_g3, sxl_g4, OkS_true, GrdS_tt, GrdS_tf, GrdS_ft, GrdS_ff, CondS_t, CondS_f, then_n, then_e, then_r, blk_n, blk_e, blk_r, upd_app, Ex.ok, Ex.val, Opd.val, POp.dst, bin_int, binOK_int, bin_str, binOK_str, resOK, resV, RB.val, sub, putc, scB, scL, oneB, conf, Ex.val.eqP, Ex.val.eqL, negV, mxV, mnV, ← wr_eq, wr_zero, wr_one, wr_m1, bst_lst, byteC, partsOK, putAll, appV, nilV, slV, sslV, optB, optNum, and_assoc, exists_and_left, exists_eq_left']
theorem f158 (l : List Ft) (nl : Bool) (id : Int) (hl : l.length ≤ 1000000000000) : Fn Try.prog 158 false [.lst 5 nl (l.map ft), .fn 159 [.ptr [i id]]] (i (wFind l id)) := by
  refine Fn.by_sx hX (by kernel_rfl) c158 (by kernel_rfl) (by rfl) ?_
  simp [i158, sx_skip, sx_ops, sx_seq, sx_cond, sx_block, sx_exit, sx_ret, sx_mcall, sx_mcallx, sx_mcell, sx_mset, sx_mnset, elAt, setEl, inAt, elIn, setIn, isLst, cellsOf, sxl_nil, sxl_set, sxl_call, sxl_callv, sxl_g1, sxl_g2, sxl_g3, sxl_g4, OkS_true, GrdS_tt, GrdS_tf, GrdS_ft, GrdS_ff, CondS_t, CondS_f, then_n, then_e, then_r, blk_n, blk_e, blk_r, upd_app, Ex.ok, Ex.val, Opd.val, POp.dst, bin_int, binOK_int, bin_str, binOK_str, resOK, resV, RB.val, sub, putc, scB, scL, oneB, conf, Ex.val.eqP, Ex.val.eqL, negV, mxV, mnV, ← wr_eq, wr_zero, wr_one, wr_m1, bst_lst, byteC, partsOK, putAll, appV, nilV, slV, sslV, optB, optNum, and_assoc, exists_and_left, exists_eq_left']
  refine sx_count l.length (fun n V => V 0 = .lst 5 nl (l.map ft) ∧ V 1 = .fn 159 [.ptr [i id]] ∧ V 7 = i l.length ∧ V 8 = i n ∧ firstFrom (hasId l id) (l.length - n) n = wFind l id) 0 (by omega) (by simp [sx_skip, sx_ops, sx_seq, sx_cond, sx_block, sx_exit, sx_ret, sx_mcall, sx_mcallx, sx_mcell, sx_mset, sx_mnset, elAt, setEl, inAt, elIn, setIn, isLst, cellsOf, sxl_nil, sxl_set, sxl_call, sxl_callv, sxl_g1, sxl_g2, sxl_g3, sxl_g4, OkS_true, GrdS_tt, GrdS_tf, GrdS_ft, GrdS_ff, CondS_t, CondS_f, then_n, then_e, then_r, blk_n, blk_e, blk_r, upd_app, Ex.ok, Ex.val, Opd.val, POp.dst, bin_int, binOK_int, bin_str, binOK_str, resOK, resV, RB.val, sub, putc, scB, scL, oneB, conf, Ex.val.eqP, Ex.val.eqL, negV, mxV, mnV, ← wr_eq, wr_zero, wr_one, wr_m1, bst_lst, byteC, partsOK, putAll, appV, nilV, slV, sslV, optB, optNum, and_assoc, exists_and_left, exists_eq_left']; rfl) ?_
  rintro n V hn ⟨h0, h1, h7, h8, hf⟩
  have hw : wr .i64 ((n : Int) + 1) = n + 1 := wr_in (by omega) (by omega)
  simp [sx_skip, sx_ops, sx_seq, sx_cond, sx_block, sx_exit, sx_ret, sx_mcall, sx_mcallx, sx_mcell, sx_mset, sx_mnset, elAt, setEl, inAt, elIn, setIn, isLst, cellsOf, sxl_nil, sxl_set, sxl_call, sxl_callv, sxl_g1, sxl_g2, sxl_g3, sxl_g4, OkS_true, GrdS_tt, GrdS_tf, GrdS_ft, GrdS_ff, CondS_t, CondS_f, then_n, then_e, then_r, blk_n, blk_e, blk_r, upd_app, Ex.ok, Ex.val, Opd.val, POp.dst, bin_int, binOK_int, bin_str, binOK_str, resOK, resV, RB.val, sub, putc, scB, scL, oneB, conf, Ex.val.eqP, Ex.val.eqL, negV, mxV, mnV, ← wr_eq, wr_zero, wr_one, wr_m1, bst_lst, byteC, partsOK, putAll, appV, nilV, slV, sslV, optB, optNum, and_assoc, exists_and_left, exists_eq_left', h7, h8]
  refine CondS_d (fun hlt => ?_) (fun hge => ?_)
  · have hlt' : n < l.length := by omega
    rw [firstFrom_step hlt'] at hf
    have hr : hasId l id n = decide (l[n].f0 = id) := by simp [hasId, hlt']
    have hc := f159 l[n] id
    rw [← hr] at hc
    clear hr
    unfold ft at hc
    repeat' (first | intro _ | (simp [sx_skip, sx_ops, sx_seq, sx_cond, sx_block, sx_exit, sx_ret, sx_mcall, sx_mcallx, sx_mcell, sx_mset, sx_mnset, elAt, setEl, inAt, elIn, setIn, isLst, cellsOf, sxl_nil, sxl_set, sxl_call, sxl_callv, sxl_g1, sxl_g2, sxl_g3, sxl_g4, OkS_true, GrdS_tt, GrdS_tf, GrdS_ft, GrdS_ff, CondS_t, CondS_f, then_n, then_e, then_r, blk_n, blk_e, blk_r, upd_app, Ex.ok, Ex.val, Opd.val, POp.dst, bin_int, binOK_int, bin_str, binOK_str, resOK, resV, RB.val, sub, putc, scB, scL, oneB, conf, Ex.val.eqP, Ex.val.eqL, negV, mxV, mnV, ← wr_eq, wr_zero, wr_one, wr_m1, bst_lst, byteC, partsOK, putAll, appV, nilV, slV, sslV, optB, optNum, and_assoc, exists_and_left, exists_eq_left', ft, *]) | refine CondS_d (fun h => ?_) (fun h => ?_) | refine CondS_b (fun h => ?_) (fun h => ?_) | refine GrdS_d (fun h => ?_) (fun h => ?_) | refine GrdS_b (fun h => ?_) (fun h => ?_) | refine OkS_i (by omega) ?_ | fail)
    refine CallvS_b (by simpa using hc) (fun h => ?_) (fun h => ?_)
    · rw [h] at hf
      simp only [if_true] at hf
      repeat' (first | intro _ | (simp [sx_skip, sx_ops, sx_seq, sx_cond, sx_block, sx_exit, sx_ret, sx_mcall, sx_mcallx, sx_mcell, sx_mset, sx_mnset, elAt, setEl, inAt, elIn, setIn, isLst, cellsOf, sxl_nil, sxl_set, sxl_call, sxl_callv, sxl_g1, sxl_g2, sxl_g3, sxl_g4, OkS_true, GrdS_tt, GrdS_tf, GrdS_ft, GrdS_ff, CondS_t, CondS_f, then_n, then_e, then_r, blk_n, blk_e, blk_r, upd_app, Ex.ok, Ex.val, Opd.val, POp.dst, bin_int, binOK_int, bin_str, binOK_str, resOK, resV, RB.val, sub, putc, scB, scL, oneB, conf, Ex.val.eqP, Ex.val.eqL, negV, mxV, mnV, ← wr_eq, wr_zero, wr_one, wr_m1, bst_lst, byteC, partsOK, putAll, appV, nilV, slV, sslV, optB, optNum, and_assoc, exists_and_left, exists_eq_left', *]) | refine CondS_d (fun h => ?_) (fun h => ?_) | refine CondS_b (fun h => ?_) (fun h => ?_) | refine GrdS_d (fun h => ?_) (fun h => ?_) | refine GrdS_b (fun h => ?_) (fun h => ?_) | refine OkS_i (by omega) ?_ | fail)
    · rw [h] at hf
      simp only [Bool.false_eq_true, if_false] at hf
      repeat' (first | intro _ | (simp [sx_skip, sx_ops, sx_seq, sx_cond, sx_block, sx_exit, sx_ret, sx_mcall, sx_mcallx, sx_mcell, sx_mset, sx_mnset, elAt, setEl, inAt, elIn, setIn, isLst, cellsOf, sxl_nil, sxl_set, sxl_call, sxl_callv, sxl_g1, sxl_g2, sxl_g3, sxl_g4, OkS_true, GrdS_tt, GrdS_tf, GrdS_ft, GrdS_ff, CondS_t, CondS_f, then_n, then_e, then_r, blk_n, blk_e, blk_r, upd_app, Ex.ok, Ex.val, Opd.val, POp.dst, bin_int, binOK_int, bin_str, binOK_str, resOK, resV, RB.val, sub, putc, scB, scL, oneB, conf, Ex.val.eqP, Ex.val.eqL, negV, mxV, mnV, ← wr_eq, wr_zero, wr_one, wr_m1, bst_lst, byteC, partsOK, putAll, appV, nilV, slV, sslV, optB, optNum, and_assoc, exists_and_left, exists_eq_left', *]) | refine CondS_d (fun h => ?_) (fun h => ?_) | refine CondS_b (fun h => ?_) (fun h => ?_) | refine GrdS_d (fun h => ?_) (fun h => ?_) | refine GrdS_b (fun h => ?_) (fun h => ?_) | refine OkS_i (by omega) ?_ | fail)
  · have : n = l.length := by omega
    subst this
    rw [firstFrom_end] at hf
    repeat' (first | intro _ | (simp [sx_skip, sx_ops, sx_seq, sx_cond, sx_block, sx_exit, sx_ret, sx_mcall, sx_mcallx, sx_mcell, sx_mset, sx_mnset, elAt, setEl, inAt, elIn, setIn, isLst, cellsOf, sxl_nil, sxl_set, sxl_call, sxl_callv, sxl_g1, sxl_g2, sxl_g3, sxl_g4, OkS_true, GrdS_tt, GrdS_tf, GrdS_ft, GrdS_ff, CondS_t, CondS_f, then_n, then_e, then_r, blk_n, blk_e, blk_r, upd_app, Ex.ok, Ex.val, Opd.val, POp.dst, bin_int, binOK_int, bin_str, binOK_str, resOK, resV, RB.val, sub, putc, scB, scL, oneB, conf, Ex.val.eqP, Ex.val.eqL, negV, mxV, mnV, ← wr_eq, wr_zero, wr_one, wr_m1, bst_lst, byteC, partsOK, putAll, appV, nilV, slV, sslV, optB, optNum, and_assoc, exists_and_left, exists_eq_left', *]) | refine CondS_d (fun h => ?_) (fun h => ?_) | refine CondS_b (fun h => ?_) (fun h => ?_) | refine GrdS_d (fun h => ?_) (fun h => ?_) | refine GrdS_b (fun h => ?_) (fun h => ?_) | refine OkS_i (by omega) ?_ | fail)
theorem f113 (l : List Ft) (nl : Bool) (id : Int) (hl : l.length ≤ 1000000000000) : Fn Try.prog 113 false [.lst 5 nl (l.map ft), i id] (i (wFind l id)) := by
  refine Fn.by_sx hX (by kernel_rfl) c113 (by kernel_rfl) (by rfl) ?_
  simp [i113, sx_skip, sx_ops, sx_seq, sx_cond, sx_block, sx_exit, sx_ret, sx_mcall, sx_mcallx, sx_mcell, sx_mset, sx_mnset, elAt, setEl, inAt, elIn, setIn, isLst, cellsOf, sxl_nil, sxl_set, sxl_call, sxl_callv, sxl_g1, sxl_g2, sxl_g3, sxl_g4, OkS_true, GrdS_tt, GrdS_tf, GrdS_ft, GrdS_ff, CondS_t, CondS_f, then_n, then_e, then_r, blk_n, blk_e, blk_r, upd_app, Ex.ok, Ex.val, Opd.val, POp.dst, bin_int, binOK_int, bin_str, binOK_str, resOK, resV, RB.val, sub, putc, scB, scL, oneB, conf, Ex.val.eqP, Ex.val.eqL, negV, mxV, mnV, ← wr_eq, wr_zero, wr_one, wr_m1, bst_lst, byteC, partsOK, putAll, appV, nilV, slV, sslV, optB, optNum, and_assoc, exists_and_left, exists_eq_left']
  repeat' (first | intro _ | (simp [sx_skip, sx_ops, sx_seq, sx_cond, sx_block, sx_exit, sx_ret, sx_mcall, sx_mcallx, sx_mcell, sx_mset, sx_mnset, elAt, setEl, inAt, elIn, setIn, isLst, cellsOf, sxl_nil, sxl_set, sxl_call, sxl_callv, sxl_g1, sxl_g2, sxl_g3, sxl_g4, OkS_true, GrdS_tt, GrdS_tf, GrdS_ft, GrdS_ff, CondS_t, CondS_f, then_n, then_e, then_r, blk_n, blk_e, blk_r, upd_app, Ex.ok, Ex.val, Opd.val, POp.dst, bin_int, binOK_int, bin_str, binOK_str, resOK, resV, RB.val, sub, putc, scB, scL, oneB, conf, Ex.val.eqP, Ex.val.eqL, negV, mxV, mnV, ← wr_eq, wr_zero, wr_one, wr_m1, bst_lst, byteC, partsOK, putAll, appV, nilV, slV, sslV, optB, optNum, and_assoc, exists_and_left, exists_eq_left', *]) | refine CallS_i (f158 l nl id hl) ?_ | refine CondS_d (fun h => ?_) (fun h => ?_) | refine CondS_b (fun h => ?_) (fun h => ?_) | refine GrdS_d (fun h => ?_) (fun h => ?_) | refine GrdS_b (fun h => ?_) (fun h => ?_) | refine OkS_i (by omega) ?_ | fail)
end Go.Eng
namespace Go.Eng
open Go Go.Proofs Geo
set_option linter.unusedSimpArgs false
set_option linter.unusedVariables false
set_option maxRecDepth 20000
set_option maxHeartbeats 1000000

/-! the length of a way -/
def ints (l : List Int) : List (List PV) := l.map fun m => [i m]
def wayAt (l : List Ft) (ids : List Int) (j : Nat) : Int :=
  if 0 ≤ wFind l (ids.getD j 0) ∧ (l.getD (wFind l (ids.getD j 0)).toNat ftD).f1 = 2 then wSteps (l.getD (wFind l (ids.getD j 0)).toNat ftD).f4 else 0
def wWay (l : List Ft) (ids : List Int) : Int := sumTo (wayAt l ids) ids.length
theorem wayAt_bound (l : List Ft) (ids : List Int) (j : Nat) : -9 ≤ wayAt l ids j ∧ wayAt l ids j ≤ 3600 := by
  unfold wayAt
  split
  · exact wSteps_bound _
  · omega
theorem find_cases (l : List Ft) (id : Int) : wFind l id = -1 ∨ ∃ k : Nat, wFind l id = k ∧ k < l.length := by
  have := wFind_bound l id
  rcases Int.lt_or_le (wFind l id) 0 with h | h
  · left; omega
  · right; exact ⟨(wFind l id).toNat, by omega, by omega⟩
theorem frF_small {l r : List Ft} (hr : l.map Ft.fr = r) {B : Nat} (h : ∀ x ∈ l, x.f3.size ≤ B ∧ x.f4.length ≤ B) : ∀ x ∈ r, x.f3.size ≤ B ∧ x.f4.length ≤ B := by
  intro x hx
  rw [← hr] at hx
  obtain ⟨y, hy, rfl⟩ := List.mem_map.1 hx
  exact h y hy
end Go.Eng
namespace Go.Eng
open Go Go.Proofs Geo
set_option linter.unusedSimpArgs false
set_option linter.unusedVariables false
set_option maxRecDepth 20000
set_option maxHeartbeats 1000000

/-! a source, and a way -/
def srcAt (l : List Ft) (n : Nat) : Bool := wFeat (l.getD n ftD) && !(decide (0 < n) && decide ((l.getD n ftD).f0 ≤ (l.getD (n - 1) ftD).f0))
def wSrc (l : List Ft) : Bool := decide (l.length ≤ 16) && allTo (srcAt l) l.length
theorem f78 (l : List Ft) (nl : Bool) (hl : l.length ≤ 1000000000000) (hb : ∀ x ∈ l, x.okay) : Fn Try.prog 78 false [.lst 5 nl (l.map ft)] (.bool (wSrc l)) := by
  refine Fn.by_sx hX (by kernel_rfl) c78 (by kernel_rfl) (by rfl) ?_
  simp [i78, sx_skip, sx_ops, sx_seq, sx_cond, sx_block, sx_exit, sx_ret, sx_mcall, sx_mcallx, sx_mcell, sx_mset, sx_mnset, elAt, setEl, inAt, elIn, setIn, isLst, cellsOf, sxl_nil, sxl_set, sxl_call, sxl_callv, sxl_g1, sxl_g2, sxl_g3, sxl_g4, OkS_true, GrdS_tt, GrdS_tf, GrdS_ft, GrdS_ff, CondS_t, CondS_f, then_n, then_e, then_r, blk_n, blk_e, blk_r, upd_app, Ex.ok, Ex.val, Opd.val, POp.dst, bin_int, binOK_int, bin_str, binOK_str, resOK, resV, RB.val, sub, putc, scB, scL, oneB, conf, Ex.val.eqP, Ex.val.eqL, negV, mxV, mnV, ← wr_eq, wr_zero, wr_one, wr_m1, bst_lst, byteC, partsOK, putAll, appV, nilV, slV, sslV, optB, optNum, and_assoc, exists_and_left, exists_eq_left']
  refine sx_count l.length (fun n V => V 0 = .lst 5 nl (l.map ft) ∧ V 3 = i n ∧ allTo (srcAt l) n = true) 0 (by omega) (by simp [sx_skip, sx_ops, sx_seq, sx_cond, sx_block, sx_exit, sx_ret, sx_mcall, sx_mcallx, sx_mcell, sx_mset, sx_mnset, elAt, setEl, inAt, elIn, setIn, isLst, cellsOf, sxl_nil, sxl_set, sxl_call, sxl_callv, sxl_g1, sxl_g2, sxl_g3, sxl_g4, OkS_true, GrdS_tt, GrdS_tf, GrdS_ft, GrdS_ff, CondS_t, CondS_f, then_n, then_e, then_r, blk_n, blk_e, blk_r, upd_app, Ex.ok, Ex.val, Opd.val, POp.dst, bin_int, binOK_int, bin_str, binOK_str, resOK, resV, RB.val, sub, putc, scB, scL, oneB, conf, Ex.val.eqP, Ex.val.eqL, negV, mxV, mnV, ← wr_eq, wr_zero, wr_one, wr_m1, bst_lst, byteC, partsOK, putAll, appV, nilV, slV, sslV, optB, optNum, and_assoc, exists_and_left, exists_eq_left', allTo_zero]) ?_
  rintro n V hn ⟨h0, h3, ha⟩
  simp [sx_skip, sx_ops, sx_seq, sx_cond, sx_block, sx_exit, sx_ret, sx_mcall, sx_mcallx, sx_mcell, sx_mset, sx_mnset, elAt, setEl, inAt, elIn, setIn, isLst, cellsOf, sxl_nil, sxl_set, sxl_call, sxl_callv, sxl_g1, sxl_g2, sxl_g3, sxl_g4, OkS_true, GrdS_tt, GrdS_tf, GrdS_ft, GrdS_ff, CondS_t, CondS_f, then_n, then_e, then_r, blk_n, blk_e, blk_r, upd_app, Ex.ok, Ex.val, Opd.val, POp.dst, bin_int, binOK_int, bin_str, binOK_str, resOK, resV, RB.val, sub, putc, scB, scL, oneB, conf, Ex.val.eqP, Ex.val.eqL, negV, mxV, mnV, ← wr_eq, wr_zero, wr_one, wr_m1, bst_lst, byteC, partsOK, putAll, appV, nilV, slV, sslV, optB, optNum, and_assoc, exists_and_left, exists_eq_left', h0, h3]
  refine CondS_d (fun hlt => ?_) (fun hge => ?_)
  · have hlt' : n < l.length := by omega
    have hbad : srcAt l n = false → wSrc l = false := fun h => by simp [wSrc, allTo_bad hlt' h]
    have hok : l[n].okay := hb _ (List.getElem_mem ..)
    have hc := f98 l[n] hok
    rcases Nat.eq_zero_or_pos n with rfl | hpos
    · repeat' (first | intro _ | (simp [sx_skip, sx_ops, sx_seq, sx_cond, sx_block, sx_exit, sx_ret, sx_mcall, sx_mcallx, sx_mcell, sx_mset, sx_mnset, elAt, setEl, inAt, elIn, setIn, isLst, cellsOf, sxl_nil, sxl_set, sxl_call, sxl_callv, sxl_g1, sxl_g2, sxl_g3, sxl_g4, OkS_true, GrdS_tt, GrdS_tf, GrdS_ft, GrdS_ff, CondS_t, CondS_f, then_n, then_e, then_r, blk_n, blk_e, blk_r, upd_app, Ex.ok, Ex.val, Opd.val, POp.dst, bin_int, binOK_int, bin_str, binOK_str, resOK, resV, RB.val, sub, putc, scB, scL, oneB, conf, Ex.val.eqP, Ex.val.eqL, negV, mxV, mnV, ← wr_eq, wr_zero, wr_one, wr_m1, bst_lst, byteC, partsOK, putAll, appV, nilV, slV, sslV, optB, optNum, and_assoc, exists_and_left, exists_eq_left', ft, allTo_succ, *]) | refine CallS_b (hc) (fun h => ?_) (fun h => ?_) | refine CondS_d (fun h => ?_) (fun h => ?_) | refine CondS_b (fun h => ?_) (fun h => ?_) | refine GrdS_d (fun h => ?_) (fun h => ?_) | refine GrdS_b (fun h => ?_) (fun h => ?_) | refine OkS_i (by omega) ?_ | fail)
      all_goals first | (apply hbad; simp_all [srcAt]; done) | simp_all [srcAt]
    · have hw : wr .i64 ((n : Int) + 1) = n + 1 := wr_in (by omega) (by omega)
      have hw2 : wr .i64 ((n : Int) - 1) = ((n - 1 : Nat) : Int) := wrap_down n hpos (by omega)
      have hpos' : (0 : Int) < n := by omega
      have hm : n - 1 < l.length := by omega
      repeat' (first | intro _ | (simp [sx_skip, sx_ops, sx_seq, sx_cond, sx_block, sx_exit, sx_ret, sx_mcall, sx_mcallx, sx_mcell, sx_mset, sx_mnset, elAt, setEl, inAt, elIn, setIn, isLst, cellsOf, sxl_nil, sxl_set, sxl_call, sxl_callv, sxl_g1, sxl_g2, sxl_g3, sxl_g4, OkS_true, GrdS_tt, GrdS_tf, GrdS_ft, GrdS_ff, CondS_t, CondS_f, then_n, then_e, then_r, blk_n, blk_e, blk_r, upd_app, Ex.ok, Ex.val, Opd.val, POp.dst, bin_int, binOK_int, bin_str, binOK_str, resOK, resV, RB.val, sub, putc, scB, scL, oneB, conf, Ex.val.eqP, Ex.val.eqL, negV, mxV, mnV, ← wr_eq, wr_zero, wr_one, wr_m1, bst_lst, byteC, partsOK, putAll, appV, nilV, slV, sslV, optB, optNum, and_assoc, exists_and_left, exists_eq_left', ft, allTo_succ, *]) | refine CallS_b (hc) (fun h => ?_) (fun h => ?_) | refine CondS_d (fun h => ?_) (fun h => ?_) | refine CondS_b (fun h => ?_) (fun h => ?_) | refine GrdS_d (fun h => ?_) (fun h => ?_) | refine GrdS_b (fun h => ?_) (fun h => ?_) | refine OkS_i (by omega) ?_ | fail)
      all_goals first | (apply hbad; simp_all [srcAt]; done) | simp_all [srcAt]
      all_goals omega
  · have : n = l.length := by omega
    subst this
    repeat' (first | intro _ | (simp [sx_skip, sx_ops, sx_seq, sx_cond, sx_block, sx_exit, sx_ret, sx_mcall, sx_mcallx, sx_mcell, sx_mset, sx_mnset, elAt, setEl, inAt, elIn, setIn, isLst, cellsOf, sxl_nil, sxl_set, sxl_call, sxl_callv, sxl_g1, sxl_g2, sxl_g3, sxl_g4, OkS_true, GrdS_tt, GrdS_tf, GrdS_ft, GrdS_ff, CondS_t, CondS_f, then_n, then_e, then_r, blk_n, blk_e, blk_r, upd_app, Ex.ok, Ex.val, Opd.val, POp.dst, bin_int, binOK_int, bin_str, binOK_str, resOK, resV, RB.val, sub, putc, scB, scL, oneB, conf, Ex.val.eqP, Ex.val.eqL, negV, mxV, mnV, ← wr_eq, wr_zero, wr_one, wr_m1, bst_lst, byteC, partsOK, putAll, appV, nilV, slV, sslV, optB, optNum, and_assoc, exists_and_left, exists_eq_left', *]) | refine CondS_d (fun h => ?_) (fun h => ?_) | refine CondS_b (fun h => ?_) (fun h => ?_) | refine GrdS_d (fun h => ?_) (fun h => ?_) | refine GrdS_b (fun h => ?_) (fun h => ?_) | refine OkS_i (by omega) ?_ | fail)
    all_goals simp_all [wSrc]
    all_goals omega
theorem f40 (l : List Ft) (nl : Bool) (hl : l.length ≤ 1000000000000) (hb : ∀ x ∈ l, x.okay) : Fn Try.prog 40 false [.lst 5 nl (l.map ft)] (.bool (wSrc l)) := by
  refine Fn.by_sx hX (by kernel_rfl) c40 (by kernel_rfl) (by rfl) ?_
  simp [i40, sx_skip, sx_ops, sx_seq, sx_cond, sx_block, sx_exit, sx_ret, sx_mcall, sx_mcallx, sx_mcell, sx_mset, sx_mnset, elAt, setEl, inAt, elIn, setIn, isLst, cellsOf, sxl_nil, sxl_set, sxl_call, sxl_callv, sxl_g1, sxl_g2, sxl_g3, sxl_g4, OkS_true, GrdS_tt, GrdS_tf, GrdS_ft, GrdS_ff, CondS_t, CondS_f, then_n, then_e, then_r, blk_n, blk_e, blk_r, upd_app, Ex.ok, Ex.val, Opd.val, POp.dst, bin_int, binOK_int, bin_str, binOK_str, resOK, resV, RB.val, sub, putc, scB, scL, oneB, conf, Ex.val.eqP, Ex.val.eqL, negV, mxV, mnV, ← wr_eq, wr_zero, wr_one, wr_m1, bst_lst, byteC, partsOK, putAll, appV, nilV, slV, sslV, optB, optNum, and_assoc, exists_and_left, exists_eq_left']
  by_cases hL : (l.length : Int) > 16
  · have hf : wSrc l = false := by simp [wSrc]; omega
    repeat' (first | intro _ | (simp [sx_skip, sx_ops, sx_seq, sx_cond, sx_block, sx_exit, sx_ret, sx_mcall, sx_mcallx, sx_mcell, sx_mset, sx_mnset, elAt, setEl, inAt, elIn, setIn, isLst, cellsOf, sxl_nil, sxl_set, sxl_call, sxl_callv, sxl_g1, sxl_g2, sxl_g3, sxl_g4, OkS_true, GrdS_tt, GrdS_tf, GrdS_ft, GrdS_ff, CondS_t, CondS_f, then_n, then_e, then_r, blk_n, blk_e, blk_r, upd_app, Ex.ok, Ex.val, Opd.val, POp.dst, bin_int, binOK_int, bin_str, binOK_str, resOK, resV, RB.val, sub, putc, scB, scL, oneB, conf, Ex.val.eqP, Ex.val.eqL, negV, mxV, mnV, ← wr_eq, wr_zero, wr_one, wr_m1, bst_lst, byteC, partsOK, putAll, appV, nilV, slV, sslV, optB, optNum, and_assoc, exists_and_left, exists_eq_left', *]) | refine CondS_d (fun h => ?_) (fun h => ?_) | refine CondS_b (fun h => ?_) (fun h => ?_) | refine GrdS_d (fun h => ?_) (fun h => ?_) | refine GrdS_b (fun h => ?_) (fun h => ?_) | refine OkS_i (by omega) ?_ | fail)
  have hL' : l.length ≤ 16 := by omega
  repeat' (first | intro _ | (simp [sx_skip, sx_ops, sx_seq, sx_cond, sx_block, sx_exit, sx_ret, sx_mcall, sx_mcallx, sx_mcell, sx_mset, sx_mnset, elAt, setEl, inAt, elIn, setIn, isLst, cellsOf, sxl_nil, sxl_set, sxl_call, sxl_callv, sxl_g1, sxl_g2, sxl_g3, sxl_g4, OkS_true, GrdS_tt, GrdS_tf, GrdS_ft, GrdS_ff, CondS_t, CondS_f, then_n, then_e, then_r, blk_n, blk_e, blk_r, upd_app, Ex.ok, Ex.val, Opd.val, POp.dst, bin_int, binOK_int, bin_str, binOK_str, resOK, resV, RB.val, sub, putc, scB, scL, oneB, conf, Ex.val.eqP, Ex.val.eqL, negV, mxV, mnV, ← wr_eq, wr_zero, wr_one, wr_m1, bst_lst, byteC, partsOK, putAll, appV, nilV, slV, sslV, optB, optNum, and_assoc, exists_and_left, exists_eq_left', *]) | refine CondS_d (fun h => ?_) (fun h => ?_) | refine CondS_b (fun h => ?_) (fun h => ?_) | refine GrdS_d (fun h => ?_) (fun h => ?_) | refine GrdS_b (fun h => ?_) (fun h => ?_) | refine OkS_i (by omega) ?_ | fail)
  refine sx_count l.length (fun n V => V 0 = .lst 5 nl (l.map ft) ∧ V 8 = .lst 5 nl (l.map ft) ∧ V 9 = i l.length ∧ V 10 = i n ∧ allTo (srcAt l) n = true) 0 (by omega) (by simp [sx_skip, sx_ops, sx_seq, sx_cond, sx_block, sx_exit, sx_ret, sx_mcall, sx_mcallx, sx_mcell, sx_mset, sx_mnset, elAt, setEl, inAt, elIn, setIn, isLst, cellsOf, sxl_nil, sxl_set, sxl_call, sxl_callv, sxl_g1, sxl_g2, sxl_g3, sxl_g4, OkS_true, GrdS_tt, GrdS_tf, GrdS_ft, GrdS_ff, CondS_t, CondS_f, then_n, then_e, then_r, blk_n, blk_e, blk_r, upd_app, Ex.ok, Ex.val, Opd.val, POp.dst, bin_int, binOK_int, bin_str, binOK_str, resOK, resV, RB.val, sub, putc, scB, scL, oneB, conf, Ex.val.eqP, Ex.val.eqL, negV, mxV, mnV, ← wr_eq, wr_zero, wr_one, wr_m1, bst_lst, byteC, partsOK, putAll, appV, nilV, slV, sslV, optB, optNum, and_assoc, exists_and_left, exists_eq_left', allTo_zero]) ?_
  rintro n V hn ⟨h0, h8, h9, h10, ha⟩
  simp [sx_skip, sx_ops, sx_seq, sx_cond, sx_block, sx_exit, sx_ret, sx_mcall, sx_mcallx, sx_mcell, sx_mset, sx_mnset, elAt, setEl, inAt, elIn, setIn, isLst, cellsOf, sxl_nil, sxl_set, sxl_call, sxl_callv, sxl_g1, sxl_g2, sxl_g3, sxl_g4, OkS_true, GrdS_tt, GrdS_tf, GrdS_ft, GrdS_ff, CondS_t, CondS_f, then_n, then_e, then_r, blk_n, blk_e, blk_r, upd_app, Ex.ok, Ex.val, Opd.val, POp.dst, bin_int, binOK_int, bin_str, binOK_str, resOK, resV, RB.val, sub, putc, scB, scL, oneB, conf, Ex.val.eqP, Ex.val.eqL, negV, mxV, mnV, ← wr_eq, wr_zero, wr_one, wr_m1, bst_lst, byteC, partsOK, putAll, appV, nilV, slV, sslV, optB, optNum, and_assoc, exists_and_left, exists_eq_left', h9, h10]
  refine CondS_d (fun hlt => ?_) (fun hge => ?_)
  · have hlt' : n < l.length := by omega
    have hbad : srcAt l n = false → wSrc l = false := fun h => by simp [wSrc, allTo_bad hlt' h]
    have hok : l[n].okay := hb _ (List.getElem_mem ..)
    have hc := f96 l[n] hok
    rcases Nat.eq_zero_or_pos n with rfl | hpos
    · repeat' (first | intro _ | (simp [sx_skip, sx_ops, sx_seq, sx_cond, sx_block, sx_exit, sx_ret, sx_mcall, sx_mcallx, sx_mcell, sx_mset, sx_mnset, elAt, setEl, inAt, elIn, setIn, isLst, cellsOf, sxl_nil, sxl_set, sxl_call, sxl_callv, sxl_g1, sxl_g2, sxl_g3, sxl_g4, OkS_true, GrdS_tt, GrdS_tf, GrdS_ft, GrdS_ff, CondS_t, CondS_f, then_n, then_e, then_r, blk_n, blk_e, blk_r, upd_app, Ex.ok, Ex.val, Opd.val, POp.dst, bin_int, binOK_int, bin_str, binOK_str, resOK, resV, RB.val, sub, putc, scB, scL, oneB, conf, Ex.val.eqP, Ex.val.eqL, negV, mxV, mnV, ← wr_eq, wr_zero, wr_one, wr_m1, bst_lst, byteC, partsOK, putAll, appV, nilV, slV, sslV, optB, optNum, and_assoc, exists_and_left, exists_eq_left', ft, allTo_succ, *]) | refine CallS_b (hc) (fun h => ?_) (fun h => ?_) | refine CondS_d (fun h => ?_) (fun h => ?_) | refine CondS_b (fun h => ?_) (fun h => ?_) | refine GrdS_d (fun h => ?_) (fun h => ?_) | refine GrdS_b (fun h => ?_) (fun h => ?_) | refine OkS_i (by omega) ?_ | fail)
      all_goals first | (apply hbad; simp_all [srcAt]; done) | simp_all [srcAt]
    · have hw : wr .i64 ((n : Int) + 1) = n + 1 := wr_in (by omega) (by omega)
      have hw2 : wr .i64 ((n : Int) - 1) = ((n - 1 : Nat) : Int) := wrap_down n hpos (by omega)
      have hpos' : (0 : Int) < n := by omega
      have hm : n - 1 < l.length := by omega
      repeat' (first | intro _ | (simp [sx_skip, sx_ops, sx_seq, sx_cond, sx_block, sx_exit, sx_ret, sx_mcall, sx_mcallx, sx_mcell, sx_mset, sx_mnset, elAt, setEl, inAt, elIn, setIn, isLst, cellsOf, sxl_nil, sxl_set, sxl_call, sxl_callv, sxl_g1, sxl_g2, sxl_g3, sxl_g4, OkS_true, GrdS_tt, GrdS_tf, GrdS_ft, GrdS_ff, CondS_t, CondS_f, then_n, then_e, then_r, blk_n, blk_e, blk_r, upd_app, Ex.ok, Ex.val, Opd.val, POp.dst, bin_int, binOK_int, bin_str, binOK_str, resOK, resV, RB.val, sub, putc, scB, scL, oneB, conf, Ex.val.eqP, Ex.val.eqL, negV, mxV, mnV, ← wr_eq, wr_zero, wr_one, wr_m1, bst_lst, byteC, partsOK, putAll, appV, nilV, slV, sslV, optB, optNum, and_assoc, exists_and_left, exists_eq_left', ft, allTo_succ, *]) | refine CallS_b (hc) (fun h => ?_) (fun h => ?_) | refine CondS_d (fun h => ?_) (fun h => ?_) | refine CondS_b (fun h => ?_) (fun h => ?_) | refine GrdS_d (fun h => ?_) (fun h => ?_) | refine GrdS_b (fun h => ?_) (fun h => ?_) | refine OkS_i (by omega) ?_ | fail)
      all_goals first | (apply hbad; simp_all [srcAt]; done) | simp_all [srcAt]
      all_goals omega
  · have : n = l.length := by omega
    subst this
    repeat' (first | intro _ | (simp [sx_skip, sx_ops, sx_seq, sx_cond, sx_block, sx_exit, sx_ret, sx_mcall, sx_mcallx, sx_mcell, sx_mset, sx_mnset, elAt, setEl, inAt, elIn, setIn, isLst, cellsOf, sxl_nil, sxl_set, sxl_call, sxl_callv, sxl_g1, sxl_g2, sxl_g3, sxl_g4, OkS_true, GrdS_tt, GrdS_tf, GrdS_ft, GrdS_ff, CondS_t, CondS_f, then_n, then_e, then_r, blk_n, blk_e, blk_r, upd_app, Ex.ok, Ex.val, Opd.val, POp.dst, bin_int, binOK_int, bin_str, binOK_str, resOK, resV, RB.val, sub, putc, scB, scL, oneB, conf, Ex.val.eqP, Ex.val.eqL, negV, mxV, mnV, ← wr_eq, wr_zero, wr_one, wr_m1, bst_lst, byteC, partsOK, putAll, appV, nilV, slV, sslV, optB, optNum, and_assoc, exists_and_left, exists_eq_left', *]) | refine CondS_d (fun h => ?_) (fun h => ?_) | refine CondS_b (fun h => ?_) (fun h => ?_) | refine GrdS_d (fun h => ?_) (fun h => ?_) | refine GrdS_b (fun h => ?_) (fun h => ?_) | refine OkS_i (by omega) ?_ | fail)
    all_goals simp_all [wSrc]
theorem allTo_at {ok : Nat → Bool} {n N : Nat} (h : allTo ok N = true) (hn : n < N) : ok n = true := by
  cases hb : ok n with
  | true => rfl
  | false => rw [allTo_bad hn hb] at h; cases h
theorem wSrc_line {l : List Ft} (h : wSrc l = true) {k : Nat} (hk : k < l.length) (h2 : l[k].f1 = 2) : 2 ≤ l[k].f4.length ∧ l[k].f4.length ≤ 10 := by
  unfold wSrc at h
  rw [Bool.and_eq_true] at h
  have := allTo_at h.2 hk
  simp [srcAt, hk, wFeat, wShape, h2, wSimple] at this
  exact wLine_len this.1.2.1
def pe (p q : Pt) : Bool := decide (p.f0 = q.f0) && decide (p.f1 = q.f1)
def endA (x : Ft) : Pt := x.f4.getD 0 ⟨0, 0⟩
def endB (x : Ft) : Pt := x.f4.getD (x.f4.length - 1) ⟨0, 0⟩
theorem pe_comm (p q : Pt) : pe p q = pe q p := by
  unfold pe
  have h1 : decide (p.f0 = q.f0) = decide (q.f0 = p.f0) := by simp [eq_comm]
  have h2 : decide (p.f1 = q.f1) = decide (q.f1 = p.f1) := by simp [eq_comm]
  rw [h1, h2]
def hopF (x : Ft) (rank : Int) (p : Pt) : Option Pt := if x.f1 = 2 ∧ ¬ x.f2 < rank then (if pe p (endA x) = true then some (endB x) else if pe p (endB x) = true then some (endA x) else none) else none
def hop (l : List Ft) (rank : Int) (p : Pt) (id : Int) : Option Pt := if wFind l id < 0 then none else hopF (l.getD (wFind l id).toNat ftD) rank p
def curTo (l : List Ft) (rank : Int) (ids : List Int) (s : Pt) : Nat → Option Pt
  | 0 => some s
  | n + 1 => match curTo l rank ids s n with
    | some p => hop l rank p (ids.getD n 0)
    | none => none
theorem curTo_none {l : List Ft} {rank : Int} {ids : List Int} {s : Pt} {n : Nat} (h : curTo l rank ids s n = none) : ∀ N, n ≤ N → curTo l rank ids s N = none
  | 0, hN => by obtain rfl : n = 0 := by omega
                exact h
  | N + 1, hN => by
    rcases Nat.lt_or_ge N n with h1 | h1
    · obtain rfl : n = N + 1 := by omega
      exact h
    · unfold curTo; rw [curTo_none h N h1]
def isWay (l : List Ft) (s e : Pt) (rank : Int) (ids : List Int) : Bool := wSrc l && (match curTo l rank ids s ids.length with
  | some p => pe p e
  | none => false)
theorem isWay_bad {l : List Ft} {s e : Pt} {rank : Int} {ids : List Int} {n : Nat} (hn : n < ids.length) {p : Pt} (hp : curTo l rank ids s n = some p) (h : hop l rank p ids[n] = none) : isWay l s e rank ids = false := by
  have : curTo l rank ids s (n + 1) = none := by unfold curTo; rw [hp]; simp [hn, h]
  unfold isWay
  rw [curTo_none this _ hn]
  simp
theorem frF_ok {l r : List Ft} (hr : l.map Ft.fr = r) (h : ∀ x ∈ l, x.f3.size ≤ 1048576 ∧ x.f4.length ≤ 1048576) : ∀ x ∈ r, x.okay := by
  intro x hx
  have := frF_small hr h x hx
  unfold Ft.okay
  omega
end Go.Eng
namespace Go.Eng
open Go Go.Proofs Geo
set_option linter.unusedSimpArgs false
set_option linter.unusedVariables false
set_option maxRecDepth 20000
set_option maxHeartbeats 1000000

/-! marks. WRITES -/
def dig1 (m : Nat) : ByteArray := ⟨#[UInt8.ofNat (48 + m % 10)]⟩
def mtd (m : Nat) (acc : ByteArray) : ByteArray := if h : m = 0 then acc else mtd (m / 10) (dig1 m ++ acc)
termination_by m
decreasing_by omega
def mt (k : Int) : ByteArray := if k ≤ 0 then bs [109, 48] else bs [109] ++ mtd k.toNat (bs [])
theorem f92 (k : Int) (hk : k ≤ 1000000000000) : Fn Try.prog 92 false [i k] (.str (mt k)) := by
  refine Fn.by_sx hX (by kernel_rfl) c92 (by kernel_rfl) (by rfl) ?_
  simp [i92, sx_skip, sx_ops, sx_seq, sx_cond, sx_block, sx_exit, sx_ret, sx_mcall, sx_mcallx, sx_mcell, sx_mset, sx_mnset, elAt, setEl, inAt, elIn, setIn, isLst, cellsOf, sxl_nil, sxl_set, sxl_call, sxl_callv, sxl_g1, sxl_g2, sxl_g3, sxl_g4, OkS_true, GrdS_tt, GrdS_tf, GrdS_ft, GrdS_ff, CondS_t, CondS_f, then_n, then_e, then_r, blk_n, blk_e, blk_r, upd_app, Ex.ok, Ex.val, Opd.val, POp.dst, bin_int, binOK_int, bin_str, binOK_str, resOK, resV, RB.val, sub, putc, scB, scL, oneB, conf, Ex.val.eqP, Ex.val.eqL, negV, mxV, mnV, ← wr_eq, wr_zero, wr_one, wr_m1, bst_lst, byteC, partsOK, putAll, appV, nilV, slV, sslV, optB, optNum, and_assoc, exists_and_left, exists_eq_left']
  by_cases h0 : k ≤ 0
  · have : mt k = bs [109, 48] := if_pos h0
    repeat' (first | intro _ | (simp [sx_skip, sx_ops, sx_seq, sx_cond, sx_block, sx_exit, sx_ret, sx_mcall, sx_mcallx, sx_mcell, sx_mset, sx_mnset, elAt, setEl, inAt, elIn, setIn, isLst, cellsOf, sxl_nil, sxl_set, sxl_call, sxl_callv, sxl_g1, sxl_g2, sxl_g3, sxl_g4, OkS_true, GrdS_tt, GrdS_tf, GrdS_ft, GrdS_ff, CondS_t, CondS_f, then_n, then_e, then_r, blk_n, blk_e, blk_r, upd_app, Ex.ok, Ex.val, Opd.val, POp.dst, bin_int, binOK_int, bin_str, binOK_str, resOK, resV, RB.val, sub, putc, scB, scL, oneB, conf, Ex.val.eqP, Ex.val.eqL, negV, mxV, mnV, ← wr_eq, wr_zero, wr_one, wr_m1, bst_lst, byteC, partsOK, putAll, appV, nilV, slV, sslV, optB, optNum, and_assoc, exists_and_left, exists_eq_left', *]) | refine CondS_d (fun h => ?_) (fun h => ?_) | refine CondS_b (fun h => ?_) (fun h => ?_) | refine GrdS_d (fun h => ?_) (fun h => ?_) | refine GrdS_b (fun h => ?_) (fun h => ?_) | refine OkS_i (by omega) ?_ | fail)
  · obtain ⟨N, rfl⟩ : ∃ N : Nat, k = N := ⟨k.toNat, by omega⟩
    obtain ⟨D, hD⟩ : ∃ D, mtd N (bs []) = D := ⟨_, rfl⟩
    have hm : mt (N : Int) = bs [109] ++ D := by unfold mt; rw [if_neg h0, Int.toNat_natCast, hD]
    rw [hm]
    clear hm
    have hN0 : ¬ N = 0 := by omega
    repeat' (first | intro _ | (simp [sx_skip, sx_ops, sx_seq, sx_cond, sx_block, sx_exit, sx_ret, sx_mcall, sx_mcallx, sx_mcell, sx_mset, sx_mnset, elAt, setEl, inAt, elIn, setIn, isLst, cellsOf, sxl_nil, sxl_set, sxl_call, sxl_callv, sxl_g1, sxl_g2, sxl_g3, sxl_g4, OkS_true, GrdS_tt, GrdS_tf, GrdS_ft, GrdS_ff, CondS_t, CondS_f, then_n, then_e, then_r, blk_n, blk_e, blk_r, upd_app, Ex.ok, Ex.val, Opd.val, POp.dst, bin_int, binOK_int, bin_str, binOK_str, resOK, resV, RB.val, sub, putc, scB, scL, oneB, conf, Ex.val.eqP, Ex.val.eqL, negV, mxV, mnV, ← wr_eq, wr_zero, wr_one, wr_m1, bst_lst, byteC, partsOK, putAll, appV, nilV, slV, sslV, optB, optNum, and_assoc, exists_and_left, exists_eq_left', *]) | refine CondS_d (fun h => ?_) (fun h => ?_) | refine CondS_b (fun h => ?_) (fun h => ?_) | refine GrdS_d (fun h => ?_) (fun h => ?_) | refine GrdS_b (fun h => ?_) (fun h => ?_) | refine OkS_i (by omega) ?_ | fail)
    refine sx_down (fun m V => ∃ acc : ByteArray, V 3 = .str acc ∧ V 0 = i m ∧ mtd m acc = D ∧ acc.size + m ≤ N) N ⟨bs [], by simp [sx_skip, sx_ops, sx_seq, sx_cond, sx_block, sx_exit, sx_ret, sx_mcall, sx_mcallx, sx_mcell, sx_mset, sx_mnset, elAt, setEl, inAt, elIn, setIn, isLst, cellsOf, sxl_nil, sxl_set, sxl_call, sxl_callv, sxl_g1, sxl_g2, sxl_g3, sxl_g4, OkS_true, GrdS_tt, GrdS_tf, GrdS_ft, GrdS_ff, CondS_t, CondS_f, then_n, then_e, then_r, blk_n, blk_e, blk_r, upd_app, Ex.ok, Ex.val, Opd.val, POp.dst, bin_int, binOK_int, bin_str, binOK_str, resOK, resV, RB.val, sub, putc, scB, scL, oneB, conf, Ex.val.eqP, Ex.val.eqL, negV, mxV, mnV, ← wr_eq, wr_zero, wr_one, wr_m1, bst_lst, byteC, partsOK, putAll, appV, nilV, slV, sslV, optB, optNum, and_assoc, exists_and_left, exists_eq_left'], by simp [sx_skip, sx_ops, sx_seq, sx_cond, sx_block, sx_exit, sx_ret, sx_mcall, sx_mcallx, sx_mcell, sx_mset, sx_mnset, elAt, setEl, inAt, elIn, setIn, isLst, cellsOf, sxl_nil, sxl_set, sxl_call, sxl_callv, sxl_g1, sxl_g2, sxl_g3, sxl_g4, OkS_true, GrdS_tt, GrdS_tf, GrdS_ft, GrdS_ff, CondS_t, CondS_f, then_n, then_e, then_r, blk_n, blk_e, blk_r, upd_app, Ex.ok, Ex.val, Opd.val, POp.dst, bin_int, binOK_int, bin_str, binOK_str, resOK, resV, RB.val, sub, putc, scB, scL, oneB, conf, Ex.val.eqP, Ex.val.eqL, negV, mxV, mnV, ← wr_eq, wr_zero, wr_one, wr_m1, bst_lst, byteC, partsOK, putAll, appV, nilV, slV, sslV, optB, optNum, and_assoc, exists_and_left, exists_eq_left'], hD, by show 0 + N ≤ N; omega⟩ ?_
    rintro m V ⟨acc, h3, h0, hd, hsz⟩
    simp [sx_skip, sx_ops, sx_seq, sx_cond, sx_block, sx_exit, sx_ret, sx_mcall, sx_mcallx, sx_mcell, sx_mset, sx_mnset, elAt, setEl, inAt, elIn, setIn, isLst, cellsOf, sxl_nil, sxl_set, sxl_call, sxl_callv, sxl_g1, sxl_g2, sxl_g3, sxl_g4, OkS_true, GrdS_tt, GrdS_tf, GrdS_ft, GrdS_ff, CondS_t, CondS_f, then_n, then_e, then_r, blk_n, blk_e, blk_r, upd_app, Ex.ok, Ex.val, Opd.val, POp.dst, bin_int, binOK_int, bin_str, binOK_str, resOK, resV, RB.val, sub, putc, scB, scL, oneB, conf, Ex.val.eqP, Ex.val.eqL, negV, mxV, mnV, ← wr_eq, wr_zero, wr_one, wr_m1, bst_lst, byteC, partsOK, putAll, appV, nilV, slV, sslV, optB, optNum, and_assoc, exists_and_left, exists_eq_left', h0, h3]
    refine CondS_d (fun hlt => ?_) (fun hge => ?_)
    · have hm0 : ¬ m = 0 := by omega
      have hmt : ((m : Int).tmod 10) = (m : Int) % 10 := Int.tmod_eq_emod_of_nonneg (by omega)
      have hmq : ((m : Int).tdiv 10) = (m : Int) / 10 := Int.tdiv_eq_ediv_of_nonneg (by omega)
      have hw1 : wr .i64 (48 + (m : Int) % 10) = 48 + (m : Int) % 10 := wr_in (by omega) (by omega)
      have hw2 : wr .u8 (48 + (m : Int) % 10) = 48 + (m : Int) % 10 := wr_u8 (by omega) (by omega)
      have hw3 : wr .i64 ((m : Int) / 10) = (m : Int) / 10 := wr_in (by omega) (by omega)
      rw [mtd, dif_neg hm0] at hd
      have hds : (dig1 m).size = 1 := rfl
      have hlt2 : m / 10 < m := by omega
      have htn : (48 + (m : Int) % 10).toNat = 48 + m % 10 := by omega
      have hdd : (⟨#[48 + UInt8.ofNat (m % 10)]⟩ : ByteArray) = dig1 m := by unfold dig1; rw [UInt8.ofNat_add]; rfl
      repeat' (first | intro _ | (simp [sx_skip, sx_ops, sx_seq, sx_cond, sx_block, sx_exit, sx_ret, sx_mcall, sx_mcallx, sx_mcell, sx_mset, sx_mnset, elAt, setEl, inAt, elIn, setIn, isLst, cellsOf, sxl_nil, sxl_set, sxl_call, sxl_callv, sxl_g1, sxl_g2, sxl_g3, sxl_g4, OkS_true, GrdS_tt, GrdS_tf, GrdS_ft, GrdS_ff, CondS_t, CondS_f, then_n, then_e, then_r, blk_n, blk_e, blk_r, upd_app, Ex.ok, Ex.val, Opd.val, POp.dst, bin_int, binOK_int, bin_str, binOK_str, resOK, resV, RB.val, sub, putc, scB, scL, oneB, conf, Ex.val.eqP, Ex.val.eqL, negV, mxV, mnV, ← wr_eq, wr_zero, wr_one, wr_m1, bst_lst, byteC, partsOK, putAll, appV, nilV, slV, sslV, optB, optNum, and_assoc, exists_and_left, exists_eq_left', *]) | refine CondS_d (fun h => ?_) (fun h => ?_) | refine CondS_b (fun h => ?_) (fun h => ?_) | refine GrdS_d (fun h => ?_) (fun h => ?_) | refine GrdS_b (fun h => ?_) (fun h => ?_) | refine OkS_i (by omega) ?_ | fail)
      refine OkS_i ⟨[_], rfl⟩ ?_
      repeat' (first | intro _ | (simp [sx_skip, sx_ops, sx_seq, sx_cond, sx_block, sx_exit, sx_ret, sx_mcall, sx_mcallx, sx_mcell, sx_mset, sx_mnset, elAt, setEl, inAt, elIn, setIn, isLst, cellsOf, sxl_nil, sxl_set, sxl_call, sxl_callv, sxl_g1, sxl_g2, sxl_g3, sxl_g4, OkS_true, GrdS_tt, GrdS_tf, GrdS_ft, GrdS_ff, CondS_t, CondS_f, then_n, then_e, then_r, blk_n, blk_e, blk_r, upd_app, Ex.ok, Ex.val, Opd.val, POp.dst, bin_int, binOK_int, bin_str, binOK_str, resOK, resV, RB.val, sub, putc, scB, scL, oneB, conf, Ex.val.eqP, Ex.val.eqL, negV, mxV, mnV, ← wr_eq, wr_zero, wr_one, wr_m1, bst_lst, byteC, partsOK, putAll, appV, nilV, slV, sslV, optB, optNum, and_assoc, exists_and_left, exists_eq_left', *]) | refine CondS_d (fun h => ?_) (fun h => ?_) | refine CondS_b (fun h => ?_) (fun h => ?_) | refine GrdS_d (fun h => ?_) (fun h => ?_) | refine GrdS_b (fun h => ?_) (fun h => ?_) | refine OkS_i (by omega) ?_ | fail)
      refine ⟨m / 10, hlt2, by omega, hd, ?_⟩
      omega
    · have : m = 0 := by omega
      subst this
      rw [mtd, dif_pos rfl] at hd
      subst hd
      have hb1 : (bs [109]).size = 1 := rfl
      repeat' (first | intro _ | (simp [sx_skip, sx_ops, sx_seq, sx_cond, sx_block, sx_exit, sx_ret, sx_mcall, sx_mcallx, sx_mcell, sx_mset, sx_mnset, elAt, setEl, inAt, elIn, setIn, isLst, cellsOf, sxl_nil, sxl_set, sxl_call, sxl_callv, sxl_g1, sxl_g2, sxl_g3, sxl_g4, OkS_true, GrdS_tt, GrdS_tf, GrdS_ft, GrdS_ff, CondS_t, CondS_f, then_n, then_e, then_r, blk_n, blk_e, blk_r, upd_app, Ex.ok, Ex.val, Opd.val, POp.dst, bin_int, binOK_int, bin_str, binOK_str, resOK, resV, RB.val, sub, putc, scB, scL, oneB, conf, Ex.val.eqP, Ex.val.eqL, negV, mxV, mnV, ← wr_eq, wr_zero, wr_one, wr_m1, bst_lst, byteC, partsOK, putAll, appV, nilV, slV, sslV, optB, optNum, and_assoc, exists_and_left, exists_eq_left', *]) | refine CondS_d (fun h => ?_) (fun h => ?_) | refine CondS_b (fun h => ?_) (fun h => ?_) | refine GrdS_d (fun h => ?_) (fun h => ?_) | refine GrdS_b (fun h => ?_) (fun h => ?_) | refine OkS_i (by omega) ?_ | fail)
      all_goals (rw [hb1]; omega)
/-- a list that is new as far as n, and old behind -/
def mix (a b : List (List PV)) (n : Nat) : List (List PV) := a.take n ++ b.drop n
theorem mix_zero {a b : List (List PV)} : mix a b 0 = b := rfl
theorem mix_full {a b : List (List PV)} (h : a.length = b.length) : mix a b b.length = a := by unfold mix; rw [← h, List.take_length, h, List.drop_length, List.append_nil]
theorem mix_len {a b : List (List PV)} {n : Nat} (h : a.length = b.length) : (mix a b n).length = b.length := by unfold mix; simp; omega
theorem mix_at {a b : List (List PV)} {n : Nat} (h : a.length = b.length) (hn : n < b.length) : (mix a b n)[n]? = some b[n] := by
  unfold mix
  rw [List.getElem?_append_right (by simp; omega), List.getElem?_drop]
  have : n + (n - (a.take n).length) = n := by simp; omega
  rw [this, List.getElem?_eq_getElem hn]
theorem get_of {α : Type} {l : List α} {n : Nat} {x : α} (h : l[n]? = some x) : ∃ hn : n < l.length, l[n] = x := by
  have hn : n < l.length := by
    rcases Nat.lt_or_ge n l.length with h1 | h1
    · exact h1
    · rw [List.getElem?_eq_none h1] at h; cases h
  exact ⟨hn, by rw [List.getElem?_eq_getElem hn] at h; exact Option.some.inj h⟩
theorem mix_set {a b : List (List PV)} {n : Nat} (h : a.length = b.length) (hn : n < b.length) {e : List PV} (he : a[n]? = some e) : (mix a b n).set n e = mix a b (n + 1) := by
  unfold mix
  rw [List.set_append_right _ _ (by simp; omega)]
  have e1 : n - (a.take n).length = 0 := by simp; omega
  rw [e1, List.drop_eq_getElem_cons hn, List.set_cons_zero, List.take_add_one, he]
  simp
def mkInt (k : Int) (j : Nat) : List PV := [i (k + j)]
def mkPt (k : Int) (j : Nat) : Pt := ⟨k + 2 * j, k + 2 * j + 1⟩
theorem f75 (l : List Pt) (nl : Bool) (k : Int) (hnl : nl = true → l = []) (hk0 : 0 ≤ k) (hk : k + 2 * l.length ≤ 1000000000000) :
    FnM Try.prog 75 [.lst 2 nl (l.map cp), i k] (i (k + 2 * l.length)) (.lst 2 nl ((upTo (mkPt k) l.length).map cp)) := by
  obtain ⟨b, hb⟩ : ∃ b : List (List PV), l.map cp = b := ⟨_, rfl⟩
  have hbl : b.length = l.length := by rw [← hb]; simp
  obtain ⟨a, ha⟩ : ∃ a, (upTo (mkPt k) l.length).map cp = a := ⟨_, rfl⟩
  have hal : a.length = b.length := by rw [← ha, List.length_map, upTo_length, hbl]
  rw [ha, hb]
  refine FnM.by_sx hX (by kernel_rfl) c75 rfl rfl ?_
  simp [i75, sx_skip, sx_ops, sx_seq, sx_cond, sx_block, sx_exit, sx_ret, sx_mcall, sx_mcallx, sx_mcell, sx_mset, sx_mnset, elAt, setEl, inAt, elIn, setIn, isLst, cellsOf, sxl_nil, sxl_set, sxl_call, sxl_callv, sxl_g1, sxl_g2, sxl_g3, sxl_g4, OkS_true, GrdS_tt, GrdS_tf, GrdS_ft, GrdS_ff, CondS_t, CondS_f, then_n, then_e, then_r, blk_n, blk_e, blk_r, upd_app, Ex.ok, Ex.val, Opd.val, POp.dst, bin_int, binOK_int, bin_str, binOK_str, resOK, resV, RB.val, sub, putc, scB, scL, oneB, conf, Ex.val.eqP, Ex.val.eqL, negV, mxV, mnV, ← wr_eq, wr_zero, wr_one, wr_m1, bst_lst, byteC, partsOK, putAll, appV, nilV, slV, sslV, optB, optNum, and_assoc, exists_and_left, exists_eq_left']
  refine sx_count l.length (fun n V => V 0 = .lst 2 nl (mix a b n) ∧ V 5 = i n ∧ V 1 = i (k + 2 * n)) 0 (by omega) (by simp [sx_skip, sx_ops, sx_seq, sx_cond, sx_block, sx_exit, sx_ret, sx_mcall, sx_mcallx, sx_mcell, sx_mset, sx_mnset, elAt, setEl, inAt, elIn, setIn, isLst, cellsOf, sxl_nil, sxl_set, sxl_call, sxl_callv, sxl_g1, sxl_g2, sxl_g3, sxl_g4, OkS_true, GrdS_tt, GrdS_tf, GrdS_ft, GrdS_ff, CondS_t, CondS_f, then_n, then_e, then_r, blk_n, blk_e, blk_r, upd_app, Ex.ok, Ex.val, Opd.val, POp.dst, bin_int, binOK_int, bin_str, binOK_str, resOK, resV, RB.val, sub, putc, scB, scL, oneB, conf, Ex.val.eqP, Ex.val.eqL, negV, mxV, mnV, ← wr_eq, wr_zero, wr_one, wr_m1, bst_lst, byteC, partsOK, putAll, appV, nilV, slV, sslV, optB, optNum, and_assoc, exists_and_left, exists_eq_left', mix_zero]) ?_
  rintro n V hn ⟨h0, h5, h1⟩
  have hml := mix_len (n := n) hal
  rw [hbl] at hml
  simp [sx_skip, sx_ops, sx_seq, sx_cond, sx_block, sx_exit, sx_ret, sx_mcall, sx_mcallx, sx_mcell, sx_mset, sx_mnset, elAt, setEl, inAt, elIn, setIn, isLst, cellsOf, sxl_nil, sxl_set, sxl_call, sxl_callv, sxl_g1, sxl_g2, sxl_g3, sxl_g4, OkS_true, GrdS_tt, GrdS_tf, GrdS_ft, GrdS_ff, CondS_t, CondS_f, then_n, then_e, then_r, blk_n, blk_e, blk_r, upd_app, Ex.ok, Ex.val, Opd.val, POp.dst, bin_int, binOK_int, bin_str, binOK_str, resOK, resV, RB.val, sub, putc, scB, scL, oneB, conf, Ex.val.eqP, Ex.val.eqL, negV, mxV, mnV, ← wr_eq, wr_zero, wr_one, wr_m1, bst_lst, byteC, partsOK, putAll, appV, nilV, slV, sslV, optB, optNum, and_assoc, exists_and_left, exists_eq_left', h0, h5]
  refine CondS_d (fun hlt => ?_) (fun hge => ?_)
  · have hlt' : n < l.length := by omega
    have hnb : n < b.length := by omega
    have hf : nl = false := by cases nl with | false => rfl | true => rw [hnl rfl] at hlt'; simp at hlt'
    subst hf
    have hw : wr .i64 ((n : Int) + 1) = n + 1 := wr_in (by omega) (by omega)
    have hw2 : wr .i64 (k + 2 * n + 1) = k + 2 * n + 1 := wr_in (by omega) (by omega)
    have hw3 : wr .i64 (k + 2 * n + 1 + 1) = k + 2 * (n + 1) := by rw [wr_in (by omega) (by omega)]; omega
    have hat : (mix a b n)[n]? = some [i l[n].f0, i l[n].f1] := by rw [mix_at hal hnb]; subst hb; simp [cp]
    obtain ⟨hlm, hat'⟩ := get_of hat
    have hst : (mix a b n).set n [i (k + 2 * n), i (k + 2 * n + 1)] = mix a b (n + 1) := mix_set hal hnb (by rw [← ha, List.getElem?_map, upTo_get hlt']; rfl)
    repeat' (first | intro _ | (simp [sx_skip, sx_ops, sx_seq, sx_cond, sx_block, sx_exit, sx_ret, sx_mcall, sx_mcallx, sx_mcell, sx_mset, sx_mnset, elAt, setEl, inAt, elIn, setIn, isLst, cellsOf, sxl_nil, sxl_set, sxl_call, sxl_callv, sxl_g1, sxl_g2, sxl_g3, sxl_g4, OkS_true, GrdS_tt, GrdS_tf, GrdS_ft, GrdS_ff, CondS_t, CondS_f, then_n, then_e, then_r, blk_n, blk_e, blk_r, upd_app, Ex.ok, Ex.val, Opd.val, POp.dst, bin_int, binOK_int, bin_str, binOK_str, resOK, resV, RB.val, sub, putc, scB, scL, oneB, conf, Ex.val.eqP, Ex.val.eqL, negV, mxV, mnV, ← wr_eq, wr_zero, wr_one, wr_m1, bst_lst, byteC, partsOK, putAll, appV, nilV, slV, sslV, optB, optNum, and_assoc, exists_and_left, exists_eq_left', *]) | refine CondS_d (fun h => ?_) (fun h => ?_) | refine CondS_b (fun h => ?_) (fun h => ?_) | refine GrdS_d (fun h => ?_) (fun h => ?_) | refine GrdS_b (fun h => ?_) (fun h => ?_) | refine OkS_i (by omega) ?_ | fail)
  · have : n = l.length := by omega
    subst this
    have hfu := mix_full hal
    rw [hbl] at hfu
    repeat' (first | intro _ | (simp [sx_skip, sx_ops, sx_seq, sx_cond, sx_block, sx_exit, sx_ret, sx_mcall, sx_mcallx, sx_mcell, sx_mset, sx_mnset, elAt, setEl, inAt, elIn, setIn, isLst, cellsOf, sxl_nil, sxl_set, sxl_call, sxl_callv, sxl_g1, sxl_g2, sxl_g3, sxl_g4, OkS_true, GrdS_tt, GrdS_tf, GrdS_ft, GrdS_ff, CondS_t, CondS_f, then_n, then_e, then_r, blk_n, blk_e, blk_r, upd_app, Ex.ok, Ex.val, Opd.val, POp.dst, bin_int, binOK_int, bin_str, binOK_str, resOK, resV, RB.val, sub, putc, scB, scL, oneB, conf, Ex.val.eqP, Ex.val.eqL, negV, mxV, mnV, ← wr_eq, wr_zero, wr_one, wr_m1, bst_lst, byteC, partsOK, putAll, appV, nilV, slV, sslV, optB, optNum, and_assoc, exists_and_left, exists_eq_left', *]) | refine CondS_d (fun h => ?_) (fun h => ?_) | refine CondS_b (fun h => ?_) (fun h => ?_) | refine GrdS_d (fun h => ?_) (fun h => ?_) | refine GrdS_b (fun h => ?_) (fun h => ?_) | refine OkS_i (by omega) ?_ | fail)
end Go.Eng
namespace Go.Eng
open Go Go.Proofs Geo
set_option linter.unusedSimpArgs false
set_option linter.unusedVariables false
set_option maxRecDepth 20000
set_option maxHeartbeats 1000000

/-! marks of features. WRITES -/
def kTo (l : List Ft) (k : Int) : Nat → Int
  | 0 => k
  | n + 1 => kTo l k n + 4 + 2 * ((l.getD n ftD).f4.length : Nat)
def mkFt (k : Int) (x : Ft) : Ft := ⟨k, k + 1, k + 2, mt (k + 3), upTo (mkPt (k + 4)) x.f4.length, x.nl⟩
def mkFtAt (l : List Ft) (k : Int) (j : Nat) : Ft := mkFt (kTo l k j) (l.getD j ftD)
def Ft.nlok (x : Ft) : Prop := x.nl = true → x.f4 = []
theorem kTo_mono {l : List Ft} {k : Int} {n m : Nat} (h : n ≤ m) : kTo l k n ≤ kTo l k m := by
  induction m with
  | zero => obtain rfl : n = 0 := by omega
            exact Int.le_refl _
  | succ m ih =>
    rcases Nat.lt_or_ge m n with h1 | h1
    · obtain rfl : n = m + 1 := by omega
      exact Int.le_refl _
    · have := ih h1
      have h2 : kTo l k (m + 1) = kTo l k m + 4 + 2 * ((l.getD m ftD).f4.length : Nat) := rfl
      omega
theorem f46 (l : List Ft) (nl : Bool) (k : Int) (hnl : nl = true → l = []) (hx : ∀ x ∈ l, x.nlok) (hk0 : 0 ≤ k) (hl : l.length ≤ 1000000000) (hk : kTo l k l.length ≤ 1000000000) :
    FnM Try.prog 46 [.lst 5 nl (l.map ft), i k] (i (kTo l k l.length)) (.lst 5 nl ((upTo (mkFtAt l k) l.length).map ft)) := by
  obtain ⟨b, hb⟩ : ∃ b : List (List PV), l.map ft = b := ⟨_, rfl⟩
  have hbl : b.length = l.length := by rw [← hb]; simp
  obtain ⟨a, ha⟩ : ∃ a, (upTo (mkFtAt l k) l.length).map ft = a := ⟨_, rfl⟩
  have hal : a.length = b.length := by rw [← ha, List.length_map, upTo_length, hbl]
  rw [ha, hb]
  refine FnM.by_sx hX (by kernel_rfl) c46 rfl rfl ?_
  simp [i46, sx_skip, sx_ops, sx_seq, sx_cond, sx_block, sx_exit, sx_ret, sx_mcall, sx_mcallx, sx_mcell, sx_mset, sx_mnset, elAt, setEl, inAt, elIn, setIn, isLst, cellsOf, sxl_nil, sxl_set, sxl_call, sxl_callv, sxl_g1, sxl_g2, sxl_g3, sxl_g4, OkS_true, GrdS_tt, GrdS_tf, GrdS_ft, GrdS_ff, CondS_t, CondS_f, then_n, then_e, then_r, blk_n, blk_e, blk_r, upd_app, Ex.ok, Ex.val, Opd.val, POp.dst, bin_int, binOK_int, bin_str, binOK_str, resOK, resV, RB.val, sub, putc, scB, scL, oneB, conf, Ex.val.eqP, Ex.val.eqL, negV, mxV, mnV, ← wr_eq, wr_zero, wr_one, wr_m1, bst_lst, byteC, partsOK, putAll, appV, nilV, slV, sslV, optB, optNum, and_assoc, exists_and_left, exists_eq_left']
  refine sx_count l.length (fun n V => V 0 = .lst 5 nl (mix a b n) ∧ V 5 = i n ∧ V 1 = i (kTo l k n)) 0 (by omega) (by simp [sx_skip, sx_ops, sx_seq, sx_cond, sx_block, sx_exit, sx_ret, sx_mcall, sx_mcallx, sx_mcell, sx_mset, sx_mnset, elAt, setEl, inAt, elIn, setIn, isLst, cellsOf, sxl_nil, sxl_set, sxl_call, sxl_callv, sxl_g1, sxl_g2, sxl_g3, sxl_g4, OkS_true, GrdS_tt, GrdS_tf, GrdS_ft, GrdS_ff, CondS_t, CondS_f, then_n, then_e, then_r, blk_n, blk_e, blk_r, upd_app, Ex.ok, Ex.val, Opd.val, POp.dst, bin_int, binOK_int, bin_str, binOK_str, resOK, resV, RB.val, sub, putc, scB, scL, oneB, conf, Ex.val.eqP, Ex.val.eqL, negV, mxV, mnV, ← wr_eq, wr_zero, wr_one, wr_m1, bst_lst, byteC, partsOK, putAll, appV, nilV, slV, sslV, optB, optNum, and_assoc, exists_and_left, exists_eq_left', mix_zero, kTo]) ?_
  rintro n V hn ⟨h0, h5, h1⟩
  have hml := mix_len (n := n) hal
  rw [hbl] at hml
  simp [sx_skip, sx_ops, sx_seq, sx_cond, sx_block, sx_exit, sx_ret, sx_mcall, sx_mcallx, sx_mcell, sx_mset, sx_mnset, elAt, setEl, inAt, elIn, setIn, isLst, cellsOf, sxl_nil, sxl_set, sxl_call, sxl_callv, sxl_g1, sxl_g2, sxl_g3, sxl_g4, OkS_true, GrdS_tt, GrdS_tf, GrdS_ft, GrdS_ff, CondS_t, CondS_f, then_n, then_e, then_r, blk_n, blk_e, blk_r, upd_app, Ex.ok, Ex.val, Opd.val, POp.dst, bin_int, binOK_int, bin_str, binOK_str, resOK, resV, RB.val, sub, putc, scB, scL, oneB, conf, Ex.val.eqP, Ex.val.eqL, negV, mxV, mnV, ← wr_eq, wr_zero, wr_one, wr_m1, bst_lst, byteC, partsOK, putAll, appV, nilV, slV, sslV, optB, optNum, and_assoc, exists_and_left, exists_eq_left', h0, h5]
  refine CondS_d (fun hlt => ?_) (fun hge => ?_)
  · have hlt' : n < l.length := by omega
    have hnb : n < b.length := by omega
    have hf : nl = false := by cases nl with | false => rfl | true => rw [hnl rfl] at hlt'; simp at hlt'
    subst hf
    have hm1 := kTo_mono (l := l) (k := k) (n := 0) (m := n) (by omega)
    have hm2 := kTo_mono (l := l) (k := k) (n := n + 1) (m := l.length) (by omega)
    have hks : kTo l k (n + 1) = kTo l k n + 4 + 2 * (l[n].f4.length : Nat) := by simp [kTo, hlt']
    have hm1 : k ≤ kTo l k n := hm1
    have hmk : ft (mkFtAt l k n) = [i (kTo l k n), i (kTo l k n + 1), i (kTo l k n + 2), .str (mt (kTo l k n + 3)), .lst 2 l[n].nl ((upTo (mkPt (kTo l k n + 4)) l[n].f4.length).map cp)] := by unfold mkFtAt mkFt ft; simp [hlt']
    obtain ⟨x, hxe⟩ : ∃ x, l[n] = x := ⟨_, rfl⟩
    have hxo := hx l[n] (List.getElem_mem ..)
    have hat : (mix a b n)[n]? = some [i x.f0, i x.f1, i x.f2, .str x.f3, .lst 2 x.nl (x.f4.map cp)] := by rw [mix_at hal hnb]; subst hb; simp [ft, hxe]
    rw [hxe] at hks hmk hxo
    obtain ⟨q, hq⟩ : ∃ q, kTo l k n = q := ⟨_, rfl⟩
    rw [hq] at hks hmk h1 hm1
    have hst : (mix a b n).set n [i q, i (q + 1), i (q + 2), .str (mt (q + 3)), .lst 2 x.nl ((upTo (mkPt (q + 4)) x.f4.length).map cp)] = mix a b (n + 1) := mix_set hal hnb (by rw [← ha, List.getElem?_map, upTo_get hlt', Option.map_some, hmk])
    obtain ⟨hlm, hat'⟩ := get_of hat
    have hw : wr .i64 ((n : Int) + 1) = n + 1 := wr_in (by omega) (by omega)
    have w1 : wr .i64 (q + 1) = q + 1 := wr_in (by omega) (by omega)
    have w2 : wr .i64 (q + 1 + 1) = q + 2 := by rw [wr_in (by omega) (by omega)]; omega
    have w3 : wr .i64 (q + 2 + 1) = q + 3 := by rw [wr_in (by omega) (by omega)]; omega
    have w4 : wr .i64 (q + 3 + 1) = q + 4 := by rw [wr_in (by omega) (by omega)]; omega
    have c1 := f92 (q + 3) (by omega)
    have c2 := f75 x.f4 x.nl (q + 4) hxo (by omega) (by omega)
    have hks' : q + 4 + 2 * (x.f4.length : Int) = kTo l k (n + 1) := hks.symm
    clear hks hmk ha hb hq
    rw [hks'] at c2
    repeat' (first | intro _ | (simp [sx_skip, sx_ops, sx_seq, sx_cond, sx_block, sx_exit, sx_ret, sx_mcall, sx_mcallx, sx_mcell, sx_mset, sx_mnset, elAt, setEl, inAt, elIn, setIn, isLst, cellsOf, sxl_nil, sxl_set, sxl_call, sxl_callv, sxl_g1, sxl_g2, sxl_g3, sxl_g4, OkS_true, GrdS_tt, GrdS_tf, GrdS_ft, GrdS_ff, CondS_t, CondS_f, then_n, then_e, then_r, blk_n, blk_e, blk_r, upd_app, Ex.ok, Ex.val, Opd.val, POp.dst, bin_int, binOK_int, bin_str, binOK_str, resOK, resV, RB.val, sub, putc, scB, scL, oneB, conf, Ex.val.eqP, Ex.val.eqL, negV, mxV, mnV, ← wr_eq, wr_zero, wr_one, wr_m1, bst_lst, byteC, partsOK, putAll, appV, nilV, slV, sslV, optB, optNum, and_assoc, exists_and_left, exists_eq_left', cp, *]) | refine CallS_i (c1) ?_ | refine CallS_i (c2) ?_ | refine CallM_i (c1) ?_ | refine CallM_i (c2) ?_ | refine CallE_i (c1) ?_ | refine CallE_i (c2) ?_ | refine CallX_i (c1) ?_ | refine CallX_i (c2) ?_ | refine CondS_d (fun h => ?_) (fun h => ?_) | refine CondS_b (fun h => ?_) (fun h => ?_) | refine GrdS_d (fun h => ?_) (fun h => ?_) | refine GrdS_b (fun h => ?_) (fun h => ?_) | refine OkS_i (by omega) ?_ | fail)
  · have : n = l.length := by omega
    subst this
    have hfu := mix_full hal
    rw [hbl] at hfu
    repeat' (first | intro _ | (simp [sx_skip, sx_ops, sx_seq, sx_cond, sx_block, sx_exit, sx_ret, sx_mcall, sx_mcallx, sx_mcell, sx_mset, sx_mnset, elAt, setEl, inAt, elIn, setIn, isLst, cellsOf, sxl_nil, sxl_set, sxl_call, sxl_callv, sxl_g1, sxl_g2, sxl_g3, sxl_g4, OkS_true, GrdS_tt, GrdS_tf, GrdS_ft, GrdS_ff, CondS_t, CondS_f, then_n, then_e, then_r, blk_n, blk_e, blk_r, upd_app, Ex.ok, Ex.val, Opd.val, POp.dst, bin_int, binOK_int, bin_str, binOK_str, resOK, resV, RB.val, sub, putc, scB, scL, oneB, conf, Ex.val.eqP, Ex.val.eqL, negV, mxV, mnV, ← wr_eq, wr_zero, wr_one, wr_m1, bst_lst, byteC, partsOK, putAll, appV, nilV, slV, sslV, optB, optNum, and_assoc, exists_and_left, exists_eq_left', *]) | refine CondS_d (fun h => ?_) (fun h => ?_) | refine CondS_b (fun h => ?_) (fun h => ?_) | refine GrdS_d (fun h => ?_) (fun h => ?_) | refine GrdS_b (fun h => ?_) (fun h => ?_) | refine OkS_i (by omega) ?_ | fail)
theorem kTo_le (l : List Ft) : ∀ n : Nat, n ≤ l.length → ∀ k : Int, kTo l k n ≤ k + 4 * n + 2 * (wtToF l n : Nat)
  | 0, _, k => by simp [kTo]; omega
  | n + 1, hn, k => by
    have h1 := kTo_le l n (by omega) k
    have h2 := wtToF_succ (l := l) (n := n) (by omega)
    have h3 : wtF l[n] = l[n].f3.size + l[n].f4.length := rfl
    have h4 : kTo l k (n + 1) = kTo l k n + 4 + 2 * (l[n].f4.length : Nat) := by simp [kTo, show n < l.length by omega]
    omega
end Go.Eng
namespace Go.Eng
open Go Go.Proofs Geo
set_option linter.unusedSimpArgs false
set_option linter.unusedVariables false
set_option maxRecDepth 20000
set_option maxHeartbeats 1000000

/-! marks that are read again. WRITES -/
theorem f76 (N : Nat) (nl : Bool) (k : Int) (hk0 : 0 ≤ k) (hk : k + 2 * N ≤ 1000000000000) :
    Fn Try.prog 76 false [.lst 2 nl ((upTo (mkPt k) N).map cp), i k] (i (k + 2 * N)) := by
  obtain ⟨a, ha⟩ : ∃ a, (upTo (mkPt k) N).map cp = a := ⟨_, rfl⟩
  have hal : a.length = N := by rw [← ha, List.length_map, upTo_length]
  rw [ha]
  refine Fn.by_sx hX (by kernel_rfl) c76 (by kernel_rfl) (by rfl) ?_
  simp [i76, sx_skip, sx_ops, sx_seq, sx_cond, sx_block, sx_exit, sx_ret, sx_mcall, sx_mcallx, sx_mcell, sx_mset, sx_mnset, elAt, setEl, inAt, elIn, setIn, isLst, cellsOf, sxl_nil, sxl_set, sxl_call, sxl_callv, sxl_g1, sxl_g2, sxl_g3, sxl_g4, OkS_true, GrdS_tt, GrdS_tf, GrdS_ft, GrdS_ff, CondS_t, CondS_f, then_n, then_e, then_r, blk_n, blk_e, blk_r, upd_app, Ex.ok, Ex.val, Opd.val, POp.dst, bin_int, binOK_int, bin_str, binOK_str, resOK, resV, RB.val, sub, putc, scB, scL, oneB, conf, Ex.val.eqP, Ex.val.eqL, negV, mxV, mnV, ← wr_eq, wr_zero, wr_one, wr_m1, bst_lst, byteC, partsOK, putAll, appV, nilV, slV, sslV, optB, optNum, and_assoc, exists_and_left, exists_eq_left']
  refine sx_count N (fun n V => V 0 = .lst 2 nl a ∧ V 5 = i n ∧ V 1 = i (k + 2 * n)) 0 (by omega) (by simp [sx_skip, sx_ops, sx_seq, sx_cond, sx_block, sx_exit, sx_ret, sx_mcall, sx_mcallx, sx_mcell, sx_mset, sx_mnset, elAt, setEl, inAt, elIn, setIn, isLst, cellsOf, sxl_nil, sxl_set, sxl_call, sxl_callv, sxl_g1, sxl_g2, sxl_g3, sxl_g4, OkS_true, GrdS_tt, GrdS_tf, GrdS_ft, GrdS_ff, CondS_t, CondS_f, then_n, then_e, then_r, blk_n, blk_e, blk_r, upd_app, Ex.ok, Ex.val, Opd.val, POp.dst, bin_int, binOK_int, bin_str, binOK_str, resOK, resV, RB.val, sub, putc, scB, scL, oneB, conf, Ex.val.eqP, Ex.val.eqL, negV, mxV, mnV, ← wr_eq, wr_zero, wr_one, wr_m1, bst_lst, byteC, partsOK, putAll, appV, nilV, slV, sslV, optB, optNum, and_assoc, exists_and_left, exists_eq_left']) ?_
  rintro n V hn ⟨h0, h5, h1⟩
  simp [sx_skip, sx_ops, sx_seq, sx_cond, sx_block, sx_exit, sx_ret, sx_mcall, sx_mcallx, sx_mcell, sx_mset, sx_mnset, elAt, setEl, inAt, elIn, setIn, isLst, cellsOf, sxl_nil, sxl_set, sxl_call, sxl_callv, sxl_g1, sxl_g2, sxl_g3, sxl_g4, OkS_true, GrdS_tt, GrdS_tf, GrdS_ft, GrdS_ff, CondS_t, CondS_f, then_n, then_e, then_r, blk_n, blk_e, blk_r, upd_app, Ex.ok, Ex.val, Opd.val, POp.dst, bin_int, binOK_int, bin_str, binOK_str, resOK, resV, RB.val, sub, putc, scB, scL, oneB, conf, Ex.val.eqP, Ex.val.eqL, negV, mxV, mnV, ← wr_eq, wr_zero, wr_one, wr_m1, bst_lst, byteC, partsOK, putAll, appV, nilV, slV, sslV, optB, optNum, and_assoc, exists_and_left, exists_eq_left', h0, h5]
  refine CondS_d (fun hlt => ?_) (fun hge => ?_)
  · have hlt' : n < N := by omega
    have hw : wr .i64 ((n : Int) + 1) = n + 1 := wr_in (by omega) (by omega)
    have hw2 : wr .i64 (k + 2 * n + 1) = k + 2 * n + 1 := wr_in (by omega) (by omega)
    have hw3 : wr .i64 (k + 2 * n + 1 + 1) = k + 2 * (n + 1) := by rw [wr_in (by omega) (by omega)]; omega
    have hat : a[n]? = some [i (k + 2 * n), i (k + 2 * n + 1)] := by rw [← ha, List.getElem?_map, upTo_get hlt']; rfl
    obtain ⟨hlm, hat'⟩ := get_of hat
    repeat' (first | intro _ | (simp [sx_skip, sx_ops, sx_seq, sx_cond, sx_block, sx_exit, sx_ret, sx_mcall, sx_mcallx, sx_mcell, sx_mset, sx_mnset, elAt, setEl, inAt, elIn, setIn, isLst, cellsOf, sxl_nil, sxl_set, sxl_call, sxl_callv, sxl_g1, sxl_g2, sxl_g3, sxl_g4, OkS_true, GrdS_tt, GrdS_tf, GrdS_ft, GrdS_ff, CondS_t, CondS_f, then_n, then_e, then_r, blk_n, blk_e, blk_r, upd_app, Ex.ok, Ex.val, Opd.val, POp.dst, bin_int, binOK_int, bin_str, binOK_str, resOK, resV, RB.val, sub, putc, scB, scL, oneB, conf, Ex.val.eqP, Ex.val.eqL, negV, mxV, mnV, ← wr_eq, wr_zero, wr_one, wr_m1, bst_lst, byteC, partsOK, putAll, appV, nilV, slV, sslV, optB, optNum, and_assoc, exists_and_left, exists_eq_left', *]) | refine CondS_d (fun h => ?_) (fun h => ?_) | refine CondS_b (fun h => ?_) (fun h => ?_) | refine GrdS_d (fun h => ?_) (fun h => ?_) | refine GrdS_b (fun h => ?_) (fun h => ?_) | refine OkS_i (by omega) ?_ | fail)
  · have : n = N := by omega
    subst this
    repeat' (first | intro _ | (simp [sx_skip, sx_ops, sx_seq, sx_cond, sx_block, sx_exit, sx_ret, sx_mcall, sx_mcallx, sx_mcell, sx_mset, sx_mnset, elAt, setEl, inAt, elIn, setIn, isLst, cellsOf, sxl_nil, sxl_set, sxl_call, sxl_callv, sxl_g1, sxl_g2, sxl_g3, sxl_g4, OkS_true, GrdS_tt, GrdS_tf, GrdS_ft, GrdS_ff, CondS_t, CondS_f, then_n, then_e, then_r, blk_n, blk_e, blk_r, upd_app, Ex.ok, Ex.val, Opd.val, POp.dst, bin_int, binOK_int, bin_str, binOK_str, resOK, resV, RB.val, sub, putc, scB, scL, oneB, conf, Ex.val.eqP, Ex.val.eqL, negV, mxV, mnV, ← wr_eq, wr_zero, wr_one, wr_m1, bst_lst, byteC, partsOK, putAll, appV, nilV, slV, sslV, optB, optNum, and_assoc, exists_and_left, exists_eq_left', *]) | refine CondS_d (fun h => ?_) (fun h => ?_) | refine CondS_b (fun h => ?_) (fun h => ?_) | refine GrdS_d (fun h => ?_) (fun h => ?_) | refine GrdS_b (fun h => ?_) (fun h => ?_) | refine OkS_i (by omega) ?_ | fail)
theorem f48 (l : List Ft) (nl : Bool) (k : Int) (hk0 : 0 ≤ k) (hl : l.length ≤ 1000000000) (hk : kTo l k l.length ≤ 1000000000) :
    Fn Try.prog 48 false [.lst 5 nl ((upTo (mkFtAt l k) l.length).map ft), i k] (i (kTo l k l.length)) := by
  obtain ⟨a, ha⟩ : ∃ a, (upTo (mkFtAt l k) l.length).map ft = a := ⟨_, rfl⟩
  have hal : a.length = l.length := by rw [← ha, List.length_map, upTo_length]
  rw [ha]
  refine Fn.by_sx hX (by kernel_rfl) c48 (by kernel_rfl) (by rfl) ?_
  simp [i48, sx_skip, sx_ops, sx_seq, sx_cond, sx_block, sx_exit, sx_ret, sx_mcall, sx_mcallx, sx_mcell, sx_mset, sx_mnset, elAt, setEl, inAt, elIn, setIn, isLst, cellsOf, sxl_nil, sxl_set, sxl_call, sxl_callv, sxl_g1, sxl_g2, sxl_g3, sxl_g4, OkS_true, GrdS_tt, GrdS_tf, GrdS_ft, GrdS_ff, CondS_t, CondS_f, then_n, then_e, then_r, blk_n, blk_e, blk_r, upd_app, Ex.ok, Ex.val, Opd.val, POp.dst, bin_int, binOK_int, bin_str, binOK_str, resOK, resV, RB.val, sub, putc, scB, scL, oneB, conf, Ex.val.eqP, Ex.val.eqL, negV, mxV, mnV, ← wr_eq, wr_zero, wr_one, wr_m1, bst_lst, byteC, partsOK, putAll, appV, nilV, slV, sslV, optB, optNum, and_assoc, exists_and_left, exists_eq_left']
  refine sx_count l.length (fun n V => V 0 = .lst 5 nl a ∧ V 5 = i n ∧ V 1 = i (kTo l k n)) 0 (by omega) (by simp [sx_skip, sx_ops, sx_seq, sx_cond, sx_block, sx_exit, sx_ret, sx_mcall, sx_mcallx, sx_mcell, sx_mset, sx_mnset, elAt, setEl, inAt, elIn, setIn, isLst, cellsOf, sxl_nil, sxl_set, sxl_call, sxl_callv, sxl_g1, sxl_g2, sxl_g3, sxl_g4, OkS_true, GrdS_tt, GrdS_tf, GrdS_ft, GrdS_ff, CondS_t, CondS_f, then_n, then_e, then_r, blk_n, blk_e, blk_r, upd_app, Ex.ok, Ex.val, Opd.val, POp.dst, bin_int, binOK_int, bin_str, binOK_str, resOK, resV, RB.val, sub, putc, scB, scL, oneB, conf, Ex.val.eqP, Ex.val.eqL, negV, mxV, mnV, ← wr_eq, wr_zero, wr_one, wr_m1, bst_lst, byteC, partsOK, putAll, appV, nilV, slV, sslV, optB, optNum, and_assoc, exists_and_left, exists_eq_left', kTo]) ?_
  rintro n V hn ⟨h0, h5, h1⟩
  simp [sx_skip, sx_ops, sx_seq, sx_cond, sx_block, sx_exit, sx_ret, sx_mcall, sx_mcallx, sx_mcell, sx_mset, sx_mnset, elAt, setEl, inAt, elIn, setIn, isLst, cellsOf, sxl_nil, sxl_set, sxl_call, sxl_callv, sxl_g1, sxl_g2, sxl_g3, sxl_g4, OkS_true, GrdS_tt, GrdS_tf, GrdS_ft, GrdS_ff, CondS_t, CondS_f, then_n, then_e, then_r, blk_n, blk_e, blk_r, upd_app, Ex.ok, Ex.val, Opd.val, POp.dst, bin_int, binOK_int, bin_str, binOK_str, resOK, resV, RB.val, sub, putc, scB, scL, oneB, conf, Ex.val.eqP, Ex.val.eqL, negV, mxV, mnV, ← wr_eq, wr_zero, wr_one, wr_m1, bst_lst, byteC, partsOK, putAll, appV, nilV, slV, sslV, optB, optNum, and_assoc, exists_and_left, exists_eq_left', h0, h5]
  refine CondS_d (fun hlt => ?_) (fun hge => ?_)
  · have hlt' : n < l.length := by omega
    have hm1 := kTo_mono (l := l) (k := k) (n := 0) (m := n) (by omega)
    have hm2 := kTo_mono (l := l) (k := k) (n := n + 1) (m := l.length) (by omega)
    have hks : kTo l k (n + 1) = kTo l k n + 4 + 2 * (l[n].f4.length : Nat) := by simp [kTo, hlt']
    have hm1 : k ≤ kTo l k n := hm1
    have hmk : ft (mkFtAt l k n) = [i (kTo l k n), i (kTo l k n + 1), i (kTo l k n + 2), .str (mt (kTo l k n + 3)), .lst 2 l[n].nl ((upTo (mkPt (kTo l k n + 4)) l[n].f4.length).map cp)] := by unfold mkFtAt mkFt ft; simp [hlt']
    obtain ⟨x, hxe⟩ : ∃ x, l[n] = x := ⟨_, rfl⟩
    rw [hxe] at hks hmk
    obtain ⟨q, hq⟩ : ∃ q, kTo l k n = q := ⟨_, rfl⟩
    rw [hq] at hks hmk h1 hm1
    have hat : a[n]? = some [i q, i (q + 1), i (q + 2), .str (mt (q + 3)), .lst 2 x.nl ((upTo (mkPt (q + 4)) x.f4.length).map cp)] := by rw [← ha, List.getElem?_map, upTo_get hlt', Option.map_some, hmk]
    obtain ⟨hlm, hat'⟩ := get_of hat
    have hw : wr .i64 ((n : Int) + 1) = n + 1 := wr_in (by omega) (by omega)
    have w1 : wr .i64 (q + 1) = q + 1 := wr_in (by omega) (by omega)
    have w2 : wr .i64 (q + 1 + 1) = q + 2 := by rw [wr_in (by omega) (by omega)]; omega
    have w3 : wr .i64 (q + 2 + 1) = q + 3 := by rw [wr_in (by omega) (by omega)]; omega
    have w4 : wr .i64 (q + 3 + 1) = q + 4 := by rw [wr_in (by omega) (by omega)]; omega
    have c1 := f92 (q + 3) (by omega)
    have c2 := f76 x.f4.length x.nl (q + 4) (by omega) (by omega)
    have hks' : q + 4 + 2 * (x.f4.length : Int) = kTo l k (n + 1) := hks.symm
    have hneg : ¬ kTo l k (n + 1) < 0 := by omega
    clear hks hmk ha hq
    rw [hks'] at c2
    obtain ⟨T, hT⟩ : ∃ T, mt (q + 3) = T := ⟨_, rfl⟩
    rw [hT] at c1 hat hat'
    clear hT
    repeat' (first | intro _ | (simp [sx_skip, sx_ops, sx_seq, sx_cond, sx_block, sx_exit, sx_ret, sx_mcall, sx_mcallx, sx_mcell, sx_mset, sx_mnset, elAt, setEl, inAt, elIn, setIn, isLst, cellsOf, sxl_nil, sxl_set, sxl_call, sxl_callv, sxl_g1, sxl_g2, sxl_g3, sxl_g4, OkS_true, GrdS_tt, GrdS_tf, GrdS_ft, GrdS_ff, CondS_t, CondS_f, then_n, then_e, then_r, blk_n, blk_e, blk_r, upd_app, Ex.ok, Ex.val, Opd.val, POp.dst, bin_int, binOK_int, bin_str, binOK_str, resOK, resV, RB.val, sub, putc, scB, scL, oneB, conf, Ex.val.eqP, Ex.val.eqL, negV, mxV, mnV, ← wr_eq, wr_zero, wr_one, wr_m1, bst_lst, byteC, partsOK, putAll, appV, nilV, slV, sslV, optB, optNum, and_assoc, exists_and_left, exists_eq_left', *]) | refine CallS_i (c1) ?_ | refine CallS_i (c2) ?_ | refine CallM_i (c1) ?_ | refine CallM_i (c2) ?_ | refine CallE_i (c1) ?_ | refine CallE_i (c2) ?_ | refine CallX_i (c1) ?_ | refine CallX_i (c2) ?_ | refine CondS_d (fun h => ?_) (fun h => ?_) | refine CondS_b (fun h => ?_) (fun h => ?_) | refine GrdS_d (fun h => ?_) (fun h => ?_) | refine GrdS_b (fun h => ?_) (fun h => ?_) | refine OkS_i (by omega) ?_ | fail)
  · have : n = l.length := by omega
    subst this
    repeat' (first | intro _ | (simp [sx_skip, sx_ops, sx_seq, sx_cond, sx_block, sx_exit, sx_ret, sx_mcall, sx_mcallx, sx_mcell, sx_mset, sx_mnset, elAt, setEl, inAt, elIn, setIn, isLst, cellsOf, sxl_nil, sxl_set, sxl_call, sxl_callv, sxl_g1, sxl_g2, sxl_g3, sxl_g4, OkS_true, GrdS_tt, GrdS_tf, GrdS_ft, GrdS_ff, CondS_t, CondS_f, then_n, then_e, then_r, blk_n, blk_e, blk_r, upd_app, Ex.ok, Ex.val, Opd.val, POp.dst, bin_int, binOK_int, bin_str, binOK_str, resOK, resV, RB.val, sub, putc, scB, scL, oneB, conf, Ex.val.eqP, Ex.val.eqL, negV, mxV, mnV, ← wr_eq, wr_zero, wr_one, wr_m1, bst_lst, byteC, partsOK, putAll, appV, nilV, slV, sslV, optB, optNum, and_assoc, exists_and_left, exists_eq_left', *]) | refine CondS_d (fun h => ?_) (fun h => ?_) | refine CondS_b (fun h => ?_) (fun h => ?_) | refine GrdS_d (fun h => ?_) (fun h => ?_) | refine GrdS_b (fun h => ?_) (fun h => ?_) | refine OkS_i (by omega) ?_ | fail)
def kToE (l : List En) (k : Int) : Nat → Int
  | 0 => k
  | n + 1 => kToE l k n + 7 + 2 * ((l.getD n enD).f0.f4.length : Nat)
def mkEn (k : Int) (x : En) : En := ⟨mkFt k x.f0, k + 4 + 2 * (x.f0.f4.length : Nat), k + 5 + 2 * (x.f0.f4.length : Nat), decide ((k + 6 + 2 * (x.f0.f4.length : Nat)).tmod 3 = 0)⟩
def mkEnAt (l : List En) (k : Int) (j : Nat) : En := mkEn (kToE l k j) (l.getD j enD)
theorem kToE_mono {l : List En} {k : Int} {n m : Nat} (h : n ≤ m) : kToE l k n ≤ kToE l k m := by
  induction m with
  | zero => obtain rfl : n = 0 := by omega
            exact Int.le_refl _
  | succ m ih =>
    rcases Nat.lt_or_ge m n with h1 | h1
    · obtain rfl : n = m + 1 := by omega
      exact Int.le_refl _
    · have := ih h1
      have h2 : kToE l k (m + 1) = kToE l k m + 7 + 2 * ((l.getD m enD).f0.f4.length : Nat) := rfl
      omega
theorem kToE_le (l : List En) : ∀ n : Nat, n ≤ l.length → ∀ k : Int, kToE l k n ≤ k + 7 * n + 2 * (wtTo l n : Nat)
  | 0, _, k => by simp [kToE]; omega
  | n + 1, hn, k => by
    have h1 := kToE_le l n (by omega) k
    have h2 := wtTo_succ (l := l) (n := n) (by omega)
    have h3 : wtF l[n].f0 = l[n].f0.f3.size + l[n].f0.f4.length := rfl
    have h4 : kToE l k (n + 1) = kToE l k n + 7 + 2 * (l[n].f0.f4.length : Nat) := by simp [kToE, show n < l.length by omega]
    omega
end Go.Eng
namespace Go.Eng
open Go Go.Proofs Geo
set_option linter.unusedSimpArgs false
set_option linter.unusedVariables false
set_option maxRecDepth 20000
set_option maxHeartbeats 1000000

/-! the source of a log. WRITES -/
theorem cp_sc (l : List Pt) : ∀ cs ∈ l.map cp, scL cs = true := by
  intro cs hcs
  obtain ⟨p, _, rfl⟩ := List.mem_map.1 hcs
  rfl
theorem cp_sc2 (l : List Pt) : (∀ cs ∈ l.map cp, scL cs = true) = True := by simp only [eq_iff_iff, iff_true]; exact cp_sc l
theorem cp_sc3 (l : List Pt) : (∀ a ∈ l, scL (cp a) = true) = True := by simp only [eq_iff_iff, iff_true]; exact fun _ _ => rfl
theorem f112 (x : Ft) (hx : x.f4.length ≤ 1000000000) : Fn Try.prog 112 true [.agg (ft x)] (.agg (ft x.fr)) := by
  have hs := cp_sc3 x.f4
  unfold ft Ft.fr
  refine Fn.by_sx hX (by kernel_rfl) c112 (by kernel_rfl) (by rfl) ?_
  simp [i112, sx_skip, sx_ops, sx_seq, sx_cond, sx_block, sx_exit, sx_ret, sx_mcall, sx_mcallx, sx_mcell, sx_mset, sx_mnset, elAt, setEl, inAt, elIn, setIn, isLst, cellsOf, sxl_nil, sxl_set, sxl_call, sxl_callv, sxl_g1, sxl_g2, sxl_g3, sxl_g4, OkS_true, GrdS_tt, GrdS_tf, GrdS_ft, GrdS_ff, CondS_t, CondS_f, then_n, then_e, then_r, blk_n, blk_e, blk_r, upd_app, Ex.ok, Ex.val, Opd.val, POp.dst, bin_int, binOK_int, bin_str, binOK_str, resOK, resV, RB.val, sub, putc, scB, scL, oneB, conf, Ex.val.eqP, Ex.val.eqL, negV, mxV, mnV, ← wr_eq, wr_zero, wr_one, wr_m1, bst_lst, byteC, partsOK, putAll, appV, nilV, slV, sslV, optB, optNum, and_assoc, exists_and_left, exists_eq_left']
  repeat' (first | intro _ | (simp [sx_skip, sx_ops, sx_seq, sx_cond, sx_block, sx_exit, sx_ret, sx_mcall, sx_mcallx, sx_mcell, sx_mset, sx_mnset, elAt, setEl, inAt, elIn, setIn, isLst, cellsOf, sxl_nil, sxl_set, sxl_call, sxl_callv, sxl_g1, sxl_g2, sxl_g3, sxl_g4, OkS_true, GrdS_tt, GrdS_tf, GrdS_ft, GrdS_ff, CondS_t, CondS_f, then_n, then_e, then_r, blk_n, blk_e, blk_r, upd_app, Ex.ok, Ex.val, Opd.val, POp.dst, bin_int, binOK_int, bin_str, binOK_str, resOK, resV, RB.val, sub, putc, scB, scL, oneB, conf, Ex.val.eqP, Ex.val.eqL, negV, mxV, mnV, ← wr_eq, wr_zero, wr_one, wr_m1, bst_lst, byteC, partsOK, putAll, appV, nilV, slV, sslV, optB, optNum, and_assoc, exists_and_left, exists_eq_left', *]) | refine CondS_d (fun h => ?_) (fun h => ?_) | refine CondS_b (fun h => ?_) (fun h => ?_) | refine GrdS_d (fun h => ?_) (fun h => ?_) | refine GrdS_b (fun h => ?_) (fun h => ?_) | refine OkS_i (by omega) ?_ | fail)
  all_goals omega
theorem f140 (l : List Pt) (hl : l.length ≤ 1000000000) : Fn Try.prog 140 true [.lst 2 false (l.map cp)] (.lst 2 false (l.map cp)) := by
  have hs := cp_sc3 l
  refine Fn.by_sx hX (by kernel_rfl) c140 (by kernel_rfl) (by rfl) ?_
  simp [i140, sx_skip, sx_ops, sx_seq, sx_cond, sx_block, sx_exit, sx_ret, sx_mcall, sx_mcallx, sx_mcell, sx_mset, sx_mnset, elAt, setEl, inAt, elIn, setIn, isLst, cellsOf, sxl_nil, sxl_set, sxl_call, sxl_callv, sxl_g1, sxl_g2, sxl_g3, sxl_g4, OkS_true, GrdS_tt, GrdS_tf, GrdS_ft, GrdS_ff, CondS_t, CondS_f, then_n, then_e, then_r, blk_n, blk_e, blk_r, upd_app, Ex.ok, Ex.val, Opd.val, POp.dst, bin_int, binOK_int, bin_str, binOK_str, resOK, resV, RB.val, sub, putc, scB, scL, oneB, conf, Ex.val.eqP, Ex.val.eqL, negV, mxV, mnV, ← wr_eq, wr_zero, wr_one, wr_m1, bst_lst, byteC, partsOK, putAll, appV, nilV, slV, sslV, optB, optNum, and_assoc, exists_and_left, exists_eq_left']
  repeat' (first | intro _ | (simp [sx_skip, sx_ops, sx_seq, sx_cond, sx_block, sx_exit, sx_ret, sx_mcall, sx_mcallx, sx_mcell, sx_mset, sx_mnset, elAt, setEl, inAt, elIn, setIn, isLst, cellsOf, sxl_nil, sxl_set, sxl_call, sxl_callv, sxl_g1, sxl_g2, sxl_g3, sxl_g4, OkS_true, GrdS_tt, GrdS_tf, GrdS_ft, GrdS_ff, CondS_t, CondS_f, then_n, then_e, then_r, blk_n, blk_e, blk_r, upd_app, Ex.ok, Ex.val, Opd.val, POp.dst, bin_int, binOK_int, bin_str, binOK_str, resOK, resV, RB.val, sub, putc, scB, scL, oneB, conf, Ex.val.eqP, Ex.val.eqL, negV, mxV, mnV, ← wr_eq, wr_zero, wr_one, wr_m1, bst_lst, byteC, partsOK, putAll, appV, nilV, slV, sslV, optB, optNum, and_assoc, exists_and_left, exists_eq_left', *]) | refine CondS_d (fun h => ?_) (fun h => ?_) | refine CondS_b (fun h => ?_) (fun h => ?_) | refine GrdS_d (fun h => ?_) (fun h => ?_) | refine GrdS_b (fun h => ?_) (fun h => ?_) | refine OkS_i (by omega) ?_ | fail)
  all_goals omega
theorem f90 (x : Ft) (hn : x.nl = false) (hx : x.f4.length ≤ 1000000000) : Fn Try.prog 90 true [.agg (ft x)] (.agg (ft x.fr)) := by
  have hc := f140 x.f4 hx
  unfold ft Ft.fr
  rw [hn]
  refine Fn.by_sx hX (by kernel_rfl) c90 (by kernel_rfl) (by rfl) ?_
  simp [i90, sx_skip, sx_ops, sx_seq, sx_cond, sx_block, sx_exit, sx_ret, sx_mcall, sx_mcallx, sx_mcell, sx_mset, sx_mnset, elAt, setEl, inAt, elIn, setIn, isLst, cellsOf, sxl_nil, sxl_set, sxl_call, sxl_callv, sxl_g1, sxl_g2, sxl_g3, sxl_g4, OkS_true, GrdS_tt, GrdS_tf, GrdS_ft, GrdS_ff, CondS_t, CondS_f, then_n, then_e, then_r, blk_n, blk_e, blk_r, upd_app, Ex.ok, Ex.val, Opd.val, POp.dst, bin_int, binOK_int, bin_str, binOK_str, resOK, resV, RB.val, sub, putc, scB, scL, oneB, conf, Ex.val.eqP, Ex.val.eqL, negV, mxV, mnV, ← wr_eq, wr_zero, wr_one, wr_m1, bst_lst, byteC, partsOK, putAll, appV, nilV, slV, sslV, optB, optNum, and_assoc, exists_and_left, exists_eq_left']
  repeat' (first | intro _ | (simp [sx_skip, sx_ops, sx_seq, sx_cond, sx_block, sx_exit, sx_ret, sx_mcall, sx_mcallx, sx_mcell, sx_mset, sx_mnset, elAt, setEl, inAt, elIn, setIn, isLst, cellsOf, sxl_nil, sxl_set, sxl_call, sxl_callv, sxl_g1, sxl_g2, sxl_g3, sxl_g4, OkS_true, GrdS_tt, GrdS_tf, GrdS_ft, GrdS_ff, CondS_t, CondS_f, then_n, then_e, then_r, blk_n, blk_e, blk_r, upd_app, Ex.ok, Ex.val, Opd.val, POp.dst, bin_int, binOK_int, bin_str, binOK_str, resOK, resV, RB.val, sub, putc, scB, scL, oneB, conf, Ex.val.eqP, Ex.val.eqL, negV, mxV, mnV, ← wr_eq, wr_zero, wr_one, wr_m1, bst_lst, byteC, partsOK, putAll, appV, nilV, slV, sslV, optB, optNum, and_assoc, exists_and_left, exists_eq_left', *]) | refine CallS_i (hc) ?_ | refine CallM_i (hc) ?_ | refine CallE_i (hc) ?_ | refine CallX_i (hc) ?_ | refine CondS_d (fun h => ?_) (fun h => ?_) | refine CondS_b (fun h => ?_) (fun h => ?_) | refine GrdS_d (fun h => ?_) (fun h => ?_) | refine GrdS_b (fun h => ?_) (fun h => ?_) | refine OkS_i (by omega) ?_ | fail)
def soTo (l : List En) : Nat → List Ft
  | 0 => []
  | n + 1 => soTo l n ++ (if (l.getD n enD).f3 = true then [] else [(l.getD n enD).f0.fr])
def soOf (l : List En) : List Ft := if wLog l = true then soTo l l.length else []
theorem wLog_len {l : List En} (h : wLog l = true) : l.length ≤ 16 := by unfold wLog at h; simp at h; exact h.1
theorem soTo_len (l : List En) (n : Nat) : (soTo l n).length ≤ n := by
  induction n with
  | zero => simp [soTo]
  | succ n ih => unfold soTo; rw [List.length_append]; split <;> simp <;> omega
theorem soTo_mem {l : List En} : ∀ n : Nat, ∀ y ∈ soTo l n, y.nl = false ∧ ∃ x : En, (x ∈ l ∨ x = enD) ∧ y.f4 = x.f0.f4
  | 0, y, h => by simp [soTo] at h
  | n + 1, y, h => by
    unfold soTo at h
    rcases List.mem_append.1 h with h | h
    · exact soTo_mem n y h
    · split at h
      · cases h
      · simp only [List.mem_singleton] at h
        subst h
        refine ⟨rfl, l.getD n enD, ?_, rfl⟩
        rcases Nat.lt_or_ge n l.length with h1 | h1
        · left; simp [h1]
        · right; simp [h1]
theorem frE_small {l r : List En} (hr : l.map En.fr = r) (hm : ∀ x ∈ l, x.f0.f3.size ≤ 1048576 ∧ x.f0.f4.length ≤ 1048576) : ∀ x ∈ r, (x.f0.f3.size ≤ 1048576 ∧ x.f0.f4.length ≤ 1048576) ∧ x.f0.nl = false := by
  intro x hx
  rw [← hr] at hx
  obtain ⟨y, hy, rfl⟩ := List.mem_map.1 hx
  exact ⟨hm y hy, rfl⟩
theorem frE_k {l r : List En} (hr : l.map En.fr = r) (hb : wtL l ≤ 1048576) : kToE r 1 r.length ≤ 1000000000 := by
  have h1 := kToE_le r r.length (Nat.le_refl _) 1
  have h2 : wtTo r r.length = wtTo l l.length := by
    rw [← hr]
    unfold wtTo
    rw [List.take_of_length_le (by simp), List.take_of_length_le (Nat.le_refl _), List.map_map]
    rfl
  have h3 : r.length = l.length := by rw [← hr, List.length_map]
  unfold wtL at hb
  omega
theorem kTo_ge {l : List Ft} {B : Nat} (h : ∀ x ∈ l, x.f4.length ≤ B) : ∀ n : Nat, n ≤ l.length → ∀ k : Int, kTo l k n ≤ k + n * (4 + 2 * (B : Int))
  | 0, _, k => by simp [kTo]
  | n + 1, hn, k => by
    have h1 := kTo_ge h n (by omega) k
    have h2 : kTo l k (n + 1) = kTo l k n + 4 + 2 * (l[n].f4.length : Nat) := by simp [kTo, show n < l.length by omega]
    have h3 := h l[n] (List.getElem_mem ..)
    have h4 : ((n + 1 : Nat) : Int) * (4 + 2 * (B : Int)) = n * (4 + 2 * (B : Int)) + (4 + 2 * (B : Int)) := by rw [Int.natCast_add, Int.add_mul]; omega
    rw [h4, h2]; omega
end Go.Eng
namespace Go.Eng
open Go Go.Proofs Geo
set_option linter.unusedSimpArgs false
set_option linter.unusedVariables false
set_option maxRecDepth 20000
set_option maxHeartbeats 1000000

/-! edits: sizes, copies, what is read again, marks. WRITES -/
structure Ei where
  f0 : Int
  f1 : Ft
  f2 : Int
  f3 : Int
  f4 : Int
def ei (x : Ei) : List PV := [i x.f0, i x.f1.f0, i x.f1.f1, i x.f1.f2, .str x.f1.f3, .lst 2 x.f1.nl (x.f1.f4.map cp), i x.f2, i x.f3, i x.f4]
def eiD : Ei := ⟨0, ⟨0, 0, 0, ⟨#[]⟩, [], true⟩, 0, 0, 0⟩
theorem f41 (x : Ei) (left : Int) (h0 : 0 ≤ left) (h1 : left ≤ 1048576) (hx : x.f1.fits) : Fn Try.prog 41 false [.agg (ei x), i left] (i (szr left (wtF x.f1 : Nat))) := by
  unfold ei
  refine Fn.by_sx hX (by kernel_rfl) c41 (by kernel_rfl) (by rfl) ?_
  simp [i41, sx_skip, sx_ops, sx_seq, sx_cond, sx_block, sx_exit, sx_ret, sx_mcall, sx_mcallx, sx_mcell, sx_mset, sx_mnset, elAt, setEl, inAt, elIn, setIn, isLst, cellsOf, sxl_nil, sxl_set, sxl_call, sxl_callv, sxl_g1, sxl_g2, sxl_g3, sxl_g4, OkS_true, GrdS_tt, GrdS_tf, GrdS_ft, GrdS_ff, CondS_t, CondS_f, then_n, then_e, then_r, blk_n, blk_e, blk_r, upd_app, Ex.ok, Ex.val, Opd.val, POp.dst, bin_int, binOK_int, bin_str, binOK_str, resOK, resV, RB.val, sub, putc, scB, scL, oneB, conf, Ex.val.eqP, Ex.val.eqL, negV, mxV, mnV, ← wr_eq, wr_zero, wr_one, wr_m1, bst_lst, byteC, partsOK, putAll, appV, nilV, slV, sslV, optB, optNum, and_assoc, exists_and_left, exists_eq_left']
  have hc := f77 x.f1 left h0 h1 hx
  unfold ft at hc
  repeat' (first | intro _ | (simp [sx_skip, sx_ops, sx_seq, sx_cond, sx_block, sx_exit, sx_ret, sx_mcall, sx_mcallx, sx_mcell, sx_mset, sx_mnset, elAt, setEl, inAt, elIn, setIn, isLst, cellsOf, sxl_nil, sxl_set, sxl_call, sxl_callv, sxl_g1, sxl_g2, sxl_g3, sxl_g4, OkS_true, GrdS_tt, GrdS_tf, GrdS_ft, GrdS_ff, CondS_t, CondS_f, then_n, then_e, then_r, blk_n, blk_e, blk_r, upd_app, Ex.ok, Ex.val, Opd.val, POp.dst, bin_int, binOK_int, bin_str, binOK_str, resOK, resV, RB.val, sub, putc, scB, scL, oneB, conf, Ex.val.eqP, Ex.val.eqL, negV, mxV, mnV, ← wr_eq, wr_zero, wr_one, wr_m1, bst_lst, byteC, partsOK, putAll, appV, nilV, slV, sslV, optB, optNum, and_assoc, exists_and_left, exists_eq_left', *]) | refine CallS_i (hc) ?_ | refine CallM_i (hc) ?_ | refine CallE_i (hc) ?_ | refine CallX_i (hc) ?_ | refine CondS_d (fun h => ?_) (fun h => ?_) | refine CondS_b (fun h => ?_) (fun h => ?_) | refine GrdS_d (fun h => ?_) (fun h => ?_) | refine GrdS_b (fun h => ?_) (fun h => ?_) | refine OkS_i (by omega) ?_ | fail)
  all_goals (unfold szr at *; split at * <;> omega)
def wtToI (l : List Ei) (n : Nat) : Nat := ((l.take n).map fun x => wtF x.f1).sum
theorem wtToI_zero (l : List Ei) : wtToI l 0 = 0 := rfl
theorem wtToI_succ {l : List Ei} {n : Nat} (h : n < l.length) : wtToI l (n + 1) = wtToI l n + wtF l[n].f1 := by
  unfold wtToI
  rw [List.take_add_one, List.getElem?_eq_getElem h, List.map_append, List.sum_append]
  simp
theorem wtToI_le {l : List Ei} {n m : Nat} (h : n ≤ m) : wtToI l n ≤ wtToI l m := by
  unfold wtToI
  have : l.take m = l.take n ++ (l.take m).drop n := by
    have := List.take_append_drop n (l.take m)
    rw [List.take_take, Nat.min_eq_left h] at this
    exact this.symm
  rw [this, List.map_append, List.sum_append]
  omega
def wtLI (l : List Ei) : Nat := l.length + wtToI l l.length
theorem f66 (l : List Ei) (nl : Bool) (left : Int) (h0 : 0 ≤ left) (h1 : left ≤ 1048576) (hl : l.length ≤ 9223372036854775807) (hx : ∀ x ∈ l, x.f1.fits) : Fn Try.prog 66 false [.lst 9 nl (l.map ei), i left] (i (szr left (wtLI l : Nat))) := by
  refine Fn.by_sx hX (by kernel_rfl) c66 (by kernel_rfl) (by rfl) ?_
  simp [i66, sx_skip, sx_ops, sx_seq, sx_cond, sx_block, sx_exit, sx_ret, sx_mcall, sx_mcallx, sx_mcell, sx_mset, sx_mnset, elAt, setEl, inAt, elIn, setIn, isLst, cellsOf, sxl_nil, sxl_set, sxl_call, sxl_callv, sxl_g1, sxl_g2, sxl_g3, sxl_g4, OkS_true, GrdS_tt, GrdS_tf, GrdS_ft, GrdS_ff, CondS_t, CondS_f, then_n, then_e, then_r, blk_n, blk_e, blk_r, upd_app, Ex.ok, Ex.val, Opd.val, POp.dst, bin_int, binOK_int, bin_str, binOK_str, resOK, resV, RB.val, sub, putc, scB, scL, oneB, conf, Ex.val.eqP, Ex.val.eqL, negV, mxV, mnV, ← wr_eq, wr_zero, wr_one, wr_m1, bst_lst, byteC, partsOK, putAll, appV, nilV, slV, sslV, optB, optNum, and_assoc, exists_and_left, exists_eq_left']
  have hw : wr .i64 (left - l.length) = left - l.length := wr_in (by omega) (by omega)
  by_cases hc : left - l.length < 0
  · repeat' (first | intro _ | (simp [sx_skip, sx_ops, sx_seq, sx_cond, sx_block, sx_exit, sx_ret, sx_mcall, sx_mcallx, sx_mcell, sx_mset, sx_mnset, elAt, setEl, inAt, elIn, setIn, isLst, cellsOf, sxl_nil, sxl_set, sxl_call, sxl_callv, sxl_g1, sxl_g2, sxl_g3, sxl_g4, OkS_true, GrdS_tt, GrdS_tf, GrdS_ft, GrdS_ff, CondS_t, CondS_f, then_n, then_e, then_r, blk_n, blk_e, blk_r, upd_app, Ex.ok, Ex.val, Opd.val, POp.dst, bin_int, binOK_int, bin_str, binOK_str, resOK, resV, RB.val, sub, putc, scB, scL, oneB, conf, Ex.val.eqP, Ex.val.eqL, negV, mxV, mnV, ← wr_eq, wr_zero, wr_one, wr_m1, bst_lst, byteC, partsOK, putAll, appV, nilV, slV, sslV, optB, optNum, and_assoc, exists_and_left, exists_eq_left', *]) | refine CondS_d (fun h => ?_) (fun h => ?_) | refine CondS_b (fun h => ?_) (fun h => ?_) | refine GrdS_d (fun h => ?_) (fun h => ?_) | refine GrdS_b (fun h => ?_) (fun h => ?_) | refine OkS_i (by omega) ?_ | fail)
    unfold szr wtLI; split <;> omega
  · repeat' (first | intro _ | (simp [sx_skip, sx_ops, sx_seq, sx_cond, sx_block, sx_exit, sx_ret, sx_mcall, sx_mcallx, sx_mcell, sx_mset, sx_mnset, elAt, setEl, inAt, elIn, setIn, isLst, cellsOf, sxl_nil, sxl_set, sxl_call, sxl_callv, sxl_g1, sxl_g2, sxl_g3, sxl_g4, OkS_true, GrdS_tt, GrdS_tf, GrdS_ft, GrdS_ff, CondS_t, CondS_f, then_n, then_e, then_r, blk_n, blk_e, blk_r, upd_app, Ex.ok, Ex.val, Opd.val, POp.dst, bin_int, binOK_int, bin_str, binOK_str, resOK, resV, RB.val, sub, putc, scB, scL, oneB, conf, Ex.val.eqP, Ex.val.eqL, negV, mxV, mnV, ← wr_eq, wr_zero, wr_one, wr_m1, bst_lst, byteC, partsOK, putAll, appV, nilV, slV, sslV, optB, optNum, and_assoc, exists_and_left, exists_eq_left', *]) | refine CondS_d (fun h => ?_) (fun h => ?_) | refine CondS_b (fun h => ?_) (fun h => ?_) | refine GrdS_d (fun h => ?_) (fun h => ?_) | refine GrdS_b (fun h => ?_) (fun h => ?_) | refine OkS_i (by omega) ?_ | fail)
    refine sx_count l.length (fun n V => V 0 = .lst 9 nl (l.map ei) ∧ V 5 = i n ∧ V 1 = i (left - l.length - wtToI l n) ∧ 0 ≤ left - l.length - wtToI l n) 0 (by omega) (by simp [sx_skip, sx_ops, sx_seq, sx_cond, sx_block, sx_exit, sx_ret, sx_mcall, sx_mcallx, sx_mcell, sx_mset, sx_mnset, elAt, setEl, inAt, elIn, setIn, isLst, cellsOf, sxl_nil, sxl_set, sxl_call, sxl_callv, sxl_g1, sxl_g2, sxl_g3, sxl_g4, OkS_true, GrdS_tt, GrdS_tf, GrdS_ft, GrdS_ff, CondS_t, CondS_f, then_n, then_e, then_r, blk_n, blk_e, blk_r, upd_app, Ex.ok, Ex.val, Opd.val, POp.dst, bin_int, binOK_int, bin_str, binOK_str, resOK, resV, RB.val, sub, putc, scB, scL, oneB, conf, Ex.val.eqP, Ex.val.eqL, negV, mxV, mnV, ← wr_eq, wr_zero, wr_one, wr_m1, bst_lst, byteC, partsOK, putAll, appV, nilV, slV, sslV, optB, optNum, and_assoc, exists_and_left, exists_eq_left', wtToI_zero]; omega) ?_
    rintro n V hn ⟨h0, h5, h1, hp⟩
    have hw : wr .i64 ((n : Int) + 1) = n + 1 := wr_in (by omega) (by omega)
    simp [sx_skip, sx_ops, sx_seq, sx_cond, sx_block, sx_exit, sx_ret, sx_mcall, sx_mcallx, sx_mcell, sx_mset, sx_mnset, elAt, setEl, inAt, elIn, setIn, isLst, cellsOf, sxl_nil, sxl_set, sxl_call, sxl_callv, sxl_g1, sxl_g2, sxl_g3, sxl_g4, OkS_true, GrdS_tt, GrdS_tf, GrdS_ft, GrdS_ff, CondS_t, CondS_f, then_n, then_e, then_r, blk_n, blk_e, blk_r, upd_app, Ex.ok, Ex.val, Opd.val, POp.dst, bin_int, binOK_int, bin_str, binOK_str, resOK, resV, RB.val, sub, putc, scB, scL, oneB, conf, Ex.val.eqP, Ex.val.eqL, negV, mxV, mnV, ← wr_eq, wr_zero, wr_one, wr_m1, bst_lst, byteC, partsOK, putAll, appV, nilV, slV, sslV, optB, optNum, and_assoc, exists_and_left, exists_eq_left', h0, h5]
    refine CondS_d (fun hlt => ?_) (fun hge => ?_)
    · have hlt' : n < l.length := by omega
      have hs := wtToI_succ hlt'
      have hle := wtToI_le (l := l) (n := n + 1) (m := l.length) hlt'
      have hc := f41 l[n] (left - l.length - wtToI l n) hp (by omega) (hx _ (List.getElem_mem ..))
      have hz : szr (left - l.length - wtToI l n) (wtF l[n].f1 : Nat) = if left - l.length - wtToI l (n + 1) < 0 then -1 else left - l.length - wtToI l (n + 1) := by
        unfold szr; rw [hs]; split <;> split <;> omega
      rw [hz] at hc
      by_cases hneg : left - l.length - wtToI l (n + 1) < 0
      · rw [if_pos hneg] at hc
        repeat' (first | intro _ | (simp [sx_skip, sx_ops, sx_seq, sx_cond, sx_block, sx_exit, sx_ret, sx_mcall, sx_mcallx, sx_mcell, sx_mset, sx_mnset, elAt, setEl, inAt, elIn, setIn, isLst, cellsOf, sxl_nil, sxl_set, sxl_call, sxl_callv, sxl_g1, sxl_g2, sxl_g3, sxl_g4, OkS_true, GrdS_tt, GrdS_tf, GrdS_ft, GrdS_ff, CondS_t, CondS_f, then_n, then_e, then_r, blk_n, blk_e, blk_r, upd_app, Ex.ok, Ex.val, Opd.val, POp.dst, bin_int, binOK_int, bin_str, binOK_str, resOK, resV, RB.val, sub, putc, scB, scL, oneB, conf, Ex.val.eqP, Ex.val.eqL, negV, mxV, mnV, ← wr_eq, wr_zero, wr_one, wr_m1, bst_lst, byteC, partsOK, putAll, appV, nilV, slV, sslV, optB, optNum, and_assoc, exists_and_left, exists_eq_left', ei, *]) | refine CallS_i (hc) ?_ | refine CallM_i (hc) ?_ | refine CallE_i (hc) ?_ | refine CallX_i (hc) ?_ | refine CondS_d (fun h => ?_) (fun h => ?_) | refine CondS_b (fun h => ?_) (fun h => ?_) | refine GrdS_d (fun h => ?_) (fun h => ?_) | refine GrdS_b (fun h => ?_) (fun h => ?_) | refine OkS_i (by omega) ?_ | fail)
        unfold szr wtLI; split <;> omega
      · rw [if_neg hneg] at hc
        repeat' (first | intro _ | (simp [sx_skip, sx_ops, sx_seq, sx_cond, sx_block, sx_exit, sx_ret, sx_mcall, sx_mcallx, sx_mcell, sx_mset, sx_mnset, elAt, setEl, inAt, elIn, setIn, isLst, cellsOf, sxl_nil, sxl_set, sxl_call, sxl_callv, sxl_g1, sxl_g2, sxl_g3, sxl_g4, OkS_true, GrdS_tt, GrdS_tf, GrdS_ft, GrdS_ff, CondS_t, CondS_f, then_n, then_e, then_r, blk_n, blk_e, blk_r, upd_app, Ex.ok, Ex.val, Opd.val, POp.dst, bin_int, binOK_int, bin_str, binOK_str, resOK, resV, RB.val, sub, putc, scB, scL, oneB, conf, Ex.val.eqP, Ex.val.eqL, negV, mxV, mnV, ← wr_eq, wr_zero, wr_one, wr_m1, bst_lst, byteC, partsOK, putAll, appV, nilV, slV, sslV, optB, optNum, and_assoc, exists_and_left, exists_eq_left', ei, *]) | refine CallS_i (hc) ?_ | refine CallM_i (hc) ?_ | refine CallE_i (hc) ?_ | refine CallX_i (hc) ?_ | refine CondS_d (fun h => ?_) (fun h => ?_) | refine CondS_b (fun h => ?_) (fun h => ?_) | refine GrdS_d (fun h => ?_) (fun h => ?_) | refine GrdS_b (fun h => ?_) (fun h => ?_) | refine OkS_i (by omega) ?_ | fail)
        all_goals omega
    · have : n = l.length := by omega
      subst this
      repeat' (first | intro _ | (simp [sx_skip, sx_ops, sx_seq, sx_cond, sx_block, sx_exit, sx_ret, sx_mcall, sx_mcallx, sx_mcell, sx_mset, sx_mnset, elAt, setEl, inAt, elIn, setIn, isLst, cellsOf, sxl_nil, sxl_set, sxl_call, sxl_callv, sxl_g1, sxl_g2, sxl_g3, sxl_g4, OkS_true, GrdS_tt, GrdS_tf, GrdS_ft, GrdS_ff, CondS_t, CondS_f, then_n, then_e, then_r, blk_n, blk_e, blk_r, upd_app, Ex.ok, Ex.val, Opd.val, POp.dst, bin_int, binOK_int, bin_str, binOK_str, resOK, resV, RB.val, sub, putc, scB, scL, oneB, conf, Ex.val.eqP, Ex.val.eqL, negV, mxV, mnV, ← wr_eq, wr_zero, wr_one, wr_m1, bst_lst, byteC, partsOK, putAll, appV, nilV, slV, sslV, optB, optNum, and_assoc, exists_and_left, exists_eq_left', *]) | refine CondS_d (fun h => ?_) (fun h => ?_) | refine CondS_b (fun h => ?_) (fun h => ?_) | refine GrdS_d (fun h => ?_) (fun h => ?_) | refine GrdS_b (fun h => ?_) (fun h => ?_) | refine OkS_i (by omega) ?_ | fail)
      unfold szr wtLI; split <;> omega
def Ei.fr (x : Ei) : Ei := { x with f1 := x.f1.fr }
theorem f43 (x : Ei) (hl : x.f1.f4.length ≤ 1048576) : Fn Try.prog 43 true [.agg (ei x)] (.agg (ei x.fr)) := by
  have hc := f82 x.f1 hl
  unfold ft Ft.fr at hc
  unfold ei Ei.fr Ft.fr
  refine Fn.by_sx hX (by kernel_rfl) c43 (by kernel_rfl) (by rfl) ?_
  simp [i43, sx_skip, sx_ops, sx_seq, sx_cond, sx_block, sx_exit, sx_ret, sx_mcall, sx_mcallx, sx_mcell, sx_mset, sx_mnset, elAt, setEl, inAt, elIn, setIn, isLst, cellsOf, sxl_nil, sxl_set, sxl_call, sxl_callv, sxl_g1, sxl_g2, sxl_g3, sxl_g4, OkS_true, GrdS_tt, GrdS_tf, GrdS_ft, GrdS_ff, CondS_t, CondS_f, then_n, then_e, then_r, blk_n, blk_e, blk_r, upd_app, Ex.ok, Ex.val, Opd.val, POp.dst, bin_int, binOK_int, bin_str, binOK_str, resOK, resV, RB.val, sub, putc, scB, scL, oneB, conf, Ex.val.eqP, Ex.val.eqL, negV, mxV, mnV, ← wr_eq, wr_zero, wr_one, wr_m1, bst_lst, byteC, partsOK, putAll, appV, nilV, slV, sslV, optB, optNum, and_assoc, exists_and_left, exists_eq_left']
  repeat' (first | intro _ | (simp [sx_skip, sx_ops, sx_seq, sx_cond, sx_block, sx_exit, sx_ret, sx_mcall, sx_mcallx, sx_mcell, sx_mset, sx_mnset, elAt, setEl, inAt, elIn, setIn, isLst, cellsOf, sxl_nil, sxl_set, sxl_call, sxl_callv, sxl_g1, sxl_g2, sxl_g3, sxl_g4, OkS_true, GrdS_tt, GrdS_tf, GrdS_ft, GrdS_ff, CondS_t, CondS_f, then_n, then_e, then_r, blk_n, blk_e, blk_r, upd_app, Ex.ok, Ex.val, Opd.val, POp.dst, bin_int, binOK_int, bin_str, binOK_str, resOK, resV, RB.val, sub, putc, scB, scL, oneB, conf, Ex.val.eqP, Ex.val.eqL, negV, mxV, mnV, ← wr_eq, wr_zero, wr_one, wr_m1, bst_lst, byteC, partsOK, putAll, appV, nilV, slV, sslV, optB, optNum, and_assoc, exists_and_left, exists_eq_left', *]) | refine CallS_i (hc) ?_ | refine CallM_i (hc) ?_ | refine CallE_i (hc) ?_ | refine CallX_i (hc) ?_ | refine CondS_d (fun h => ?_) (fun h => ?_) | refine CondS_b (fun h => ?_) (fun h => ?_) | refine GrdS_d (fun h => ?_) (fun h => ?_) | refine GrdS_b (fun h => ?_) (fun h => ?_) | refine OkS_i (by omega) ?_ | fail)
def eiz : List PV := [i 0, i 0, i 0, i 0, .str (bs []), .lst 2 true [], i 0, i 0, i 0]
def eif (x : Ei) : List PV := [i x.f0, i x.f1.f0, i x.f1.f1, i x.f1.f2, .str x.f1.f3, .lst 2 false (x.f1.f4.map cp), i x.f2, i x.f3, i x.f4]
theorem f68w (l : List Ei) (nl : Bool) (hl : l.length ≤ 1048576) (hx : ∀ x ∈ l, x.f1.f4.length ≤ 1048576) : Fn Try.prog 68 true [.lst 9 nl (l.map ei)] (.lst 9 false (l.map eif)) := by
  refine Fn.by_sx hX (by kernel_rfl) c68 (by kernel_rfl) (by rfl) ?_
  simp [i68, sx_skip, sx_ops, sx_seq, sx_cond, sx_block, sx_exit, sx_ret, sx_mcall, sx_mcallx, sx_mcell, sx_mset, sx_mnset, elAt, setEl, inAt, elIn, setIn, isLst, cellsOf, sxl_nil, sxl_set, sxl_call, sxl_callv, sxl_g1, sxl_g2, sxl_g3, sxl_g4, OkS_true, GrdS_tt, GrdS_tf, GrdS_ft, GrdS_ff, CondS_t, CondS_f, then_n, then_e, then_r, blk_n, blk_e, blk_r, upd_app, Ex.ok, Ex.val, Opd.val, POp.dst, bin_int, binOK_int, bin_str, binOK_str, resOK, resV, RB.val, sub, putc, scB, scL, oneB, conf, Ex.val.eqP, Ex.val.eqL, negV, mxV, mnV, ← wr_eq, wr_zero, wr_one, wr_m1, bst_lst, byteC, partsOK, putAll, appV, nilV, slV, sslV, optB, optNum, and_assoc, exists_and_left, exists_eq_left']
  repeat' (first | intro _ | (simp [sx_skip, sx_ops, sx_seq, sx_cond, sx_block, sx_exit, sx_ret, sx_mcall, sx_mcallx, sx_mcell, sx_mset, sx_mnset, elAt, setEl, inAt, elIn, setIn, isLst, cellsOf, sxl_nil, sxl_set, sxl_call, sxl_callv, sxl_g1, sxl_g2, sxl_g3, sxl_g4, OkS_true, GrdS_tt, GrdS_tf, GrdS_ft, GrdS_ff, CondS_t, CondS_f, then_n, then_e, then_r, blk_n, blk_e, blk_r, upd_app, Ex.ok, Ex.val, Opd.val, POp.dst, bin_int, binOK_int, bin_str, binOK_str, resOK, resV, RB.val, sub, putc, scB, scL, oneB, conf, Ex.val.eqP, Ex.val.eqL, negV, mxV, mnV, ← wr_eq, wr_zero, wr_one, wr_m1, bst_lst, byteC, partsOK, putAll, appV, nilV, slV, sslV, optB, optNum, and_assoc, exists_and_left, exists_eq_left', *]) | refine CondS_d (fun h => ?_) (fun h => ?_) | refine CondS_b (fun h => ?_) (fun h => ?_) | refine GrdS_d (fun h => ?_) (fun h => ?_) | refine GrdS_b (fun h => ?_) (fun h => ?_) | refine OkS_i (by omega) ?_ | fail)
  refine sx_count l.length (fun n V => V 0 = .lst 9 nl (l.map ei) ∧ V 4 = i n ∧ V 3 = .lst 9 false (fillTo eif eiz l n)) 0 (by omega) (by simp [sx_skip, sx_ops, sx_seq, sx_cond, sx_block, sx_exit, sx_ret, sx_mcall, sx_mcallx, sx_mcell, sx_mset, sx_mnset, elAt, setEl, inAt, elIn, setIn, isLst, cellsOf, sxl_nil, sxl_set, sxl_call, sxl_callv, sxl_g1, sxl_g2, sxl_g3, sxl_g4, OkS_true, GrdS_tt, GrdS_tf, GrdS_ft, GrdS_ff, CondS_t, CondS_f, then_n, then_e, then_r, blk_n, blk_e, blk_r, upd_app, Ex.ok, Ex.val, Opd.val, POp.dst, bin_int, binOK_int, bin_str, binOK_str, resOK, resV, RB.val, sub, putc, scB, scL, oneB, conf, Ex.val.eqP, Ex.val.eqL, negV, mxV, mnV, ← wr_eq, wr_zero, wr_one, wr_m1, bst_lst, byteC, partsOK, putAll, appV, nilV, slV, sslV, optB, optNum, and_assoc, exists_and_left, exists_eq_left', fillTo_zero, eiz]) ?_
  rintro n V hn ⟨h0, h4, h3⟩
  have hw : wr .i64 ((n : Int) + 1) = n + 1 := wr_in (by omega) (by omega)
  simp [sx_skip, sx_ops, sx_seq, sx_cond, sx_block, sx_exit, sx_ret, sx_mcall, sx_mcallx, sx_mcell, sx_mset, sx_mnset, elAt, setEl, inAt, elIn, setIn, isLst, cellsOf, sxl_nil, sxl_set, sxl_call, sxl_callv, sxl_g1, sxl_g2, sxl_g3, sxl_g4, OkS_true, GrdS_tt, GrdS_tf, GrdS_ft, GrdS_ff, CondS_t, CondS_f, then_n, then_e, then_r, blk_n, blk_e, blk_r, upd_app, Ex.ok, Ex.val, Opd.val, POp.dst, bin_int, binOK_int, bin_str, binOK_str, resOK, resV, RB.val, sub, putc, scB, scL, oneB, conf, Ex.val.eqP, Ex.val.eqL, negV, mxV, mnV, ← wr_eq, wr_zero, wr_one, wr_m1, bst_lst, byteC, partsOK, putAll, appV, nilV, slV, sslV, optB, optNum, and_assoc, exists_and_left, exists_eq_left', h0, h4]
  refine CondS_d (fun hlt => ?_) (fun hge => ?_)
  · have hlt' : n < l.length := by omega
    have hs : (fillTo eif eiz l n).set n [i l[n].f0, i l[n].f1.f0, i l[n].f1.f1, i l[n].f1.f2, .str l[n].f1.f3, .lst 2 false (l[n].f1.f4.map cp), i l[n].f2, i l[n].f3, i l[n].f4] = fillTo eif eiz l (n + 1) := fillTo_set hlt'
    have hfl := fillTo_len (g := eif) (z := eiz) (l := l) (n := n) (by omega)
    have hc := f43 l[n] (hx _ (List.getElem_mem ..))
    unfold ei Ei.fr Ft.fr at hc
    repeat' (first | intro _ | (simp [sx_skip, sx_ops, sx_seq, sx_cond, sx_block, sx_exit, sx_ret, sx_mcall, sx_mcallx, sx_mcell, sx_mset, sx_mnset, elAt, setEl, inAt, elIn, setIn, isLst, cellsOf, sxl_nil, sxl_set, sxl_call, sxl_callv, sxl_g1, sxl_g2, sxl_g3, sxl_g4, OkS_true, GrdS_tt, GrdS_tf, GrdS_ft, GrdS_ff, CondS_t, CondS_f, then_n, then_e, then_r, blk_n, blk_e, blk_r, upd_app, Ex.ok, Ex.val, Opd.val, POp.dst, bin_int, binOK_int, bin_str, binOK_str, resOK, resV, RB.val, sub, putc, scB, scL, oneB, conf, Ex.val.eqP, Ex.val.eqL, negV, mxV, mnV, ← wr_eq, wr_zero, wr_one, wr_m1, bst_lst, byteC, partsOK, putAll, appV, nilV, slV, sslV, optB, optNum, and_assoc, exists_and_left, exists_eq_left', ei, *]) | refine CallS_i (hc) ?_ | refine CallM_i (hc) ?_ | refine CallE_i (hc) ?_ | refine CallX_i (hc) ?_ | refine CondS_d (fun h => ?_) (fun h => ?_) | refine CondS_b (fun h => ?_) (fun h => ?_) | refine GrdS_d (fun h => ?_) (fun h => ?_) | refine GrdS_b (fun h => ?_) (fun h => ?_) | refine OkS_i (by omega) ?_ | fail)
  · have : n = l.length := by omega
    subst this
    have hfu := fillTo_full (g := eif) (z := eiz) (l := l)
    repeat' (first | intro _ | (simp [sx_skip, sx_ops, sx_seq, sx_cond, sx_block, sx_exit, sx_ret, sx_mcall, sx_mcallx, sx_mcell, sx_mset, sx_mnset, elAt, setEl, inAt, elIn, setIn, isLst, cellsOf, sxl_nil, sxl_set, sxl_call, sxl_callv, sxl_g1, sxl_g2, sxl_g3, sxl_g4, OkS_true, GrdS_tt, GrdS_tf, GrdS_ft, GrdS_ff, CondS_t, CondS_f, then_n, then_e, then_r, blk_n, blk_e, blk_r, upd_app, Ex.ok, Ex.val, Opd.val, POp.dst, bin_int, binOK_int, bin_str, binOK_str, resOK, resV, RB.val, sub, putc, scB, scL, oneB, conf, Ex.val.eqP, Ex.val.eqL, negV, mxV, mnV, ← wr_eq, wr_zero, wr_one, wr_m1, bst_lst, byteC, partsOK, putAll, appV, nilV, slV, sslV, optB, optNum, and_assoc, exists_and_left, exists_eq_left', *]) | refine CondS_d (fun h => ?_) (fun h => ?_) | refine CondS_b (fun h => ?_) (fun h => ?_) | refine GrdS_d (fun h => ?_) (fun h => ?_) | refine GrdS_b (fun h => ?_) (fun h => ?_) | refine OkS_i (by omega) ?_ | fail)
theorem f68 (l : List Ei) (nl : Bool) (hl : l.length ≤ 1048576) (hx : ∀ x ∈ l, x.f1.f4.length ≤ 1048576) : Fn Try.prog 68 true [.lst 9 nl (l.map ei)] (.lst 9 false ((l.map Ei.fr).map ei)) := by
  have := f68w l nl hl hx
  rw [List.map_map]
  exact this
theorem f45 (x : Ei) (n1 n2 : Bool) (hl : x.f1.f4.length ≤ 1000000000000) : Fn Try.prog 45 false [.agg (ei { x with f1 := { x.f1 with nl := n1 } }), .agg (ei { x with f1 := { x.f1 with nl := n2 } })] (.bool true) := by
  have hc := f85 x.f1 n1 n2 hl
  unfold ft at hc
  unfold ei
  refine Fn.by_sx hX (by kernel_rfl) c45 (by kernel_rfl) (by rfl) ?_
  simp [i45, sx_skip, sx_ops, sx_seq, sx_cond, sx_block, sx_exit, sx_ret, sx_mcall, sx_mcallx, sx_mcell, sx_mset, sx_mnset, elAt, setEl, inAt, elIn, setIn, isLst, cellsOf, sxl_nil, sxl_set, sxl_call, sxl_callv, sxl_g1, sxl_g2, sxl_g3, sxl_g4, OkS_true, GrdS_tt, GrdS_tf, GrdS_ft, GrdS_ff, CondS_t, CondS_f, then_n, then_e, then_r, blk_n, blk_e, blk_r, upd_app, Ex.ok, Ex.val, Opd.val, POp.dst, bin_int, binOK_int, bin_str, binOK_str, resOK, resV, RB.val, sub, putc, scB, scL, oneB, conf, Ex.val.eqP, Ex.val.eqL, negV, mxV, mnV, ← wr_eq, wr_zero, wr_one, wr_m1, bst_lst, byteC, partsOK, putAll, appV, nilV, slV, sslV, optB, optNum, and_assoc, exists_and_left, exists_eq_left']
  repeat' (first | intro _ | (simp [sx_skip, sx_ops, sx_seq, sx_cond, sx_block, sx_exit, sx_ret, sx_mcall, sx_mcallx, sx_mcell, sx_mset, sx_mnset, elAt, setEl, inAt, elIn, setIn, isLst, cellsOf, sxl_nil, sxl_set, sxl_call, sxl_callv, sxl_g1, sxl_g2, sxl_g3, sxl_g4, OkS_true, GrdS_tt, GrdS_tf, GrdS_ft, GrdS_ff, CondS_t, CondS_f, then_n, then_e, then_r, blk_n, blk_e, blk_r, upd_app, Ex.ok, Ex.val, Opd.val, POp.dst, bin_int, binOK_int, bin_str, binOK_str, resOK, resV, RB.val, sub, putc, scB, scL, oneB, conf, Ex.val.eqP, Ex.val.eqL, negV, mxV, mnV, ← wr_eq, wr_zero, wr_one, wr_m1, bst_lst, byteC, partsOK, putAll, appV, nilV, slV, sslV, optB, optNum, and_assoc, exists_and_left, exists_eq_left', *]) | refine CallS_i (hc) ?_ | refine CallM_i (hc) ?_ | refine CallE_i (hc) ?_ | refine CallX_i (hc) ?_ | refine CondS_d (fun h => ?_) (fun h => ?_) | refine CondS_b (fun h => ?_) (fun h => ?_) | refine GrdS_d (fun h => ?_) (fun h => ?_) | refine GrdS_b (fun h => ?_) (fun h => ?_) | refine OkS_i (by omega) ?_ | fail)
theorem f70 (l : List Ei) (n1 n2 : Bool) (hl : l.length ≤ 1000000000000) (hx : ∀ x ∈ l, x.f1.f4.length ≤ 1000000000000) : Fn Try.prog 70 false [.lst 9 n1 (l.map ei), .lst 9 n2 (l.map ei)] (.bool true) := by
  refine Fn.by_sx hX (by kernel_rfl) c70 (by kernel_rfl) (by rfl) ?_
  simp [i70, sx_skip, sx_ops, sx_seq, sx_cond, sx_block, sx_exit, sx_ret, sx_mcall, sx_mcallx, sx_mcell, sx_mset, sx_mnset, elAt, setEl, inAt, elIn, setIn, isLst, cellsOf, sxl_nil, sxl_set, sxl_call, sxl_callv, sxl_g1, sxl_g2, sxl_g3, sxl_g4, OkS_true, GrdS_tt, GrdS_tf, GrdS_ft, GrdS_ff, CondS_t, CondS_f, then_n, then_e, then_r, blk_n, blk_e, blk_r, upd_app, Ex.ok, Ex.val, Opd.val, POp.dst, bin_int, binOK_int, bin_str, binOK_str, resOK, resV, RB.val, sub, putc, scB, scL, oneB, conf, Ex.val.eqP, Ex.val.eqL, negV, mxV, mnV, ← wr_eq, wr_zero, wr_one, wr_m1, bst_lst, byteC, partsOK, putAll, appV, nilV, slV, sslV, optB, optNum, and_assoc, exists_and_left, exists_eq_left']
  repeat' (first | intro _ | (simp [sx_skip, sx_ops, sx_seq, sx_cond, sx_block, sx_exit, sx_ret, sx_mcall, sx_mcallx, sx_mcell, sx_mset, sx_mnset, elAt, setEl, inAt, elIn, setIn, isLst, cellsOf, sxl_nil, sxl_set, sxl_call, sxl_callv, sxl_g1, sxl_g2, sxl_g3, sxl_g4, OkS_true, GrdS_tt, GrdS_tf, GrdS_ft, GrdS_ff, CondS_t, CondS_f, then_n, then_e, then_r, blk_n, blk_e, blk_r, upd_app, Ex.ok, Ex.val, Opd.val, POp.dst, bin_int, binOK_int, bin_str, binOK_str, resOK, resV, RB.val, sub, putc, scB, scL, oneB, conf, Ex.val.eqP, Ex.val.eqL, negV, mxV, mnV, ← wr_eq, wr_zero, wr_one, wr_m1, bst_lst, byteC, partsOK, putAll, appV, nilV, slV, sslV, optB, optNum, and_assoc, exists_and_left, exists_eq_left', *]) | refine CondS_d (fun h => ?_) (fun h => ?_) | refine CondS_b (fun h => ?_) (fun h => ?_) | refine GrdS_d (fun h => ?_) (fun h => ?_) | refine GrdS_b (fun h => ?_) (fun h => ?_) | refine OkS_i (by omega) ?_ | fail)
  refine sx_count l.length (fun n V => V 0 = .lst 9 n1 (l.map ei) ∧ V 1 = .lst 9 n2 (l.map ei) ∧ V 5 = i n) 0 (by omega) (by simp [sx_skip, sx_ops, sx_seq, sx_cond, sx_block, sx_exit, sx_ret, sx_mcall, sx_mcallx, sx_mcell, sx_mset, sx_mnset, elAt, setEl, inAt, elIn, setIn, isLst, cellsOf, sxl_nil, sxl_set, sxl_call, sxl_callv, sxl_g1, sxl_g2, sxl_g3, sxl_g4, OkS_true, GrdS_tt, GrdS_tf, GrdS_ft, GrdS_ff, CondS_t, CondS_f, then_n, then_e, then_r, blk_n, blk_e, blk_r, upd_app, Ex.ok, Ex.val, Opd.val, POp.dst, bin_int, binOK_int, bin_str, binOK_str, resOK, resV, RB.val, sub, putc, scB, scL, oneB, conf, Ex.val.eqP, Ex.val.eqL, negV, mxV, mnV, ← wr_eq, wr_zero, wr_one, wr_m1, bst_lst, byteC, partsOK, putAll, appV, nilV, slV, sslV, optB, optNum, and_assoc, exists_and_left, exists_eq_left']) ?_
  rintro n V hn ⟨h0, h1, h5⟩
  have hw : wr .i64 ((n : Int) + 1) = n + 1 := wr_in (by omega) (by omega)
  simp [sx_skip, sx_ops, sx_seq, sx_cond, sx_block, sx_exit, sx_ret, sx_mcall, sx_mcallx, sx_mcell, sx_mset, sx_mnset, elAt, setEl, inAt, elIn, setIn, isLst, cellsOf, sxl_nil, sxl_set, sxl_call, sxl_callv, sxl_g1, sxl_g2, sxl_g3, sxl_g4, OkS_true, GrdS_tt, GrdS_tf, GrdS_ft, GrdS_ff, CondS_t, CondS_f, then_n, then_e, then_r, blk_n, blk_e, blk_r, upd_app, Ex.ok, Ex.val, Opd.val, POp.dst, bin_int, binOK_int, bin_str, binOK_str, resOK, resV, RB.val, sub, putc, scB, scL, oneB, conf, Ex.val.eqP, Ex.val.eqL, negV, mxV, mnV, ← wr_eq, wr_zero, wr_one, wr_m1, bst_lst, byteC, partsOK, putAll, appV, nilV, slV, sslV, optB, optNum, and_assoc, exists_and_left, exists_eq_left', h0, h5]
  refine CondS_d (fun hlt => ?_) (fun hge => ?_)
  · have hlt' : n < l.length := by omega
    have hc := f45 l[n] l[n].f1.nl l[n].f1.nl (hx _ (List.getElem_mem ..))
    unfold ei at hc
    repeat' (first | intro _ | (simp [sx_skip, sx_ops, sx_seq, sx_cond, sx_block, sx_exit, sx_ret, sx_mcall, sx_mcallx, sx_mcell, sx_mset, sx_mnset, elAt, setEl, inAt, elIn, setIn, isLst, cellsOf, sxl_nil, sxl_set, sxl_call, sxl_callv, sxl_g1, sxl_g2, sxl_g3, sxl_g4, OkS_true, GrdS_tt, GrdS_tf, GrdS_ft, GrdS_ff, CondS_t, CondS_f, then_n, then_e, then_r, blk_n, blk_e, blk_r, upd_app, Ex.ok, Ex.val, Opd.val, POp.dst, bin_int, binOK_int, bin_str, binOK_str, resOK, resV, RB.val, sub, putc, scB, scL, oneB, conf, Ex.val.eqP, Ex.val.eqL, negV, mxV, mnV, ← wr_eq, wr_zero, wr_one, wr_m1, bst_lst, byteC, partsOK, putAll, appV, nilV, slV, sslV, optB, optNum, and_assoc, exists_and_left, exists_eq_left', ei, *]) | refine CallS_i (hc) ?_ | refine CallM_i (hc) ?_ | refine CallE_i (hc) ?_ | refine CallX_i (hc) ?_ | refine CondS_d (fun h => ?_) (fun h => ?_) | refine CondS_b (fun h => ?_) (fun h => ?_) | refine GrdS_d (fun h => ?_) (fun h => ?_) | refine GrdS_b (fun h => ?_) (fun h => ?_) | refine OkS_i (by omega) ?_ | fail)
    all_goals simp_all
  · have : n = l.length := by omega
    subst this
    repeat' (first | intro _ | (simp [sx_skip, sx_ops, sx_seq, sx_cond, sx_block, sx_exit, sx_ret, sx_mcall, sx_mcallx, sx_mcell, sx_mset, sx_mnset, elAt, setEl, inAt, elIn, setIn, isLst, cellsOf, sxl_nil, sxl_set, sxl_call, sxl_callv, sxl_g1, sxl_g2, sxl_g3, sxl_g4, OkS_true, GrdS_tt, GrdS_tf, GrdS_ft, GrdS_ff, CondS_t, CondS_f, then_n, then_e, then_r, blk_n, blk_e, blk_r, upd_app, Ex.ok, Ex.val, Opd.val, POp.dst, bin_int, binOK_int, bin_str, binOK_str, resOK, resV, RB.val, sub, putc, scB, scL, oneB, conf, Ex.val.eqP, Ex.val.eqL, negV, mxV, mnV, ← wr_eq, wr_zero, wr_one, wr_m1, bst_lst, byteC, partsOK, putAll, appV, nilV, slV, sslV, optB, optNum, and_assoc, exists_and_left, exists_eq_left', *]) | refine CondS_d (fun h => ?_) (fun h => ?_) | refine CondS_b (fun h => ?_) (fun h => ?_) | refine GrdS_d (fun h => ?_) (fun h => ?_) | refine GrdS_b (fun h => ?_) (fun h => ?_) | refine OkS_i (by omega) ?_ | fail)
theorem wtLI_len (l : List Ei) : l.length ≤ wtLI l := Nat.le_add_right ..
theorem wtLI_mem {l : List Ei} {x : Ei} (h : x ∈ l) : x.f1.f3.size + x.f1.f4.length ≤ wtLI l := by
  unfold wtLI wtToI
  rw [List.take_of_length_le (Nat.le_refl _)]
  have : ∀ (l : List Ei), x ∈ l → wtF x.f1 ≤ (l.map fun x => wtF x.f1).sum := by
    intro l
    induction l with
    | nil => intro h; cases h
    | cons y r ih =>
      intro h
      rw [List.map_cons, List.sum_cons]
      rcases List.mem_cons.1 h with rfl | h
      · exact Nat.le_add_right ..
      · have := ih h; omega
  have := this l h
  have e : wtF x.f1 = x.f1.f3.size + x.f1.f4.length := rfl
  omega
def kToI (l : List Ei) (k : Int) : Nat → Int
  | 0 => k
  | n + 1 => kToI l k n + 8 + 2 * ((l.getD n eiD).f1.f4.length : Nat)
def mkEi (k : Int) (x : Ei) : Ei := ⟨k, mkFt (k + 1) x.f1, k + 5 + 2 * (x.f1.f4.length : Nat), k + 6 + 2 * (x.f1.f4.length : Nat), k + 7 + 2 * (x.f1.f4.length : Nat)⟩
def mkEiAt (l : List Ei) (k : Int) (j : Nat) : Ei := mkEi (kToI l k j) (l.getD j eiD)
theorem kToI_mono {l : List Ei} {k : Int} {n m : Nat} (h : n ≤ m) : kToI l k n ≤ kToI l k m := by
  induction m with
  | zero => obtain rfl : n = 0 := by omega
            exact Int.le_refl _
  | succ m ih =>
    rcases Nat.lt_or_ge m n with h1 | h1
    · obtain rfl : n = m + 1 := by omega
      exact Int.le_refl _
    · have := ih h1
      have h2 : kToI l k (m + 1) = kToI l k m + 8 + 2 * ((l.getD m eiD).f1.f4.length : Nat) := rfl
      omega
theorem f71 (l : List Ei) (nl : Bool) (k : Int) (hnl : nl = true → l = []) (hx : ∀ x ∈ l, x.f1.nlok) (hk0 : 0 ≤ k) (hl : l.length ≤ 1000000000) (hk : kToI l k l.length ≤ 1000000000) :
    FnM Try.prog 71 [.lst 9 nl (l.map ei), i k] (i (kToI l k l.length)) (.lst 9 nl ((upTo (mkEiAt l k) l.length).map ei)) := by
  obtain ⟨b, hb⟩ : ∃ b : List (List PV), l.map ei = b := ⟨_, rfl⟩
  have hbl : b.length = l.length := by rw [← hb]; simp
  obtain ⟨a, ha⟩ : ∃ a, (upTo (mkEiAt l k) l.length).map ei = a := ⟨_, rfl⟩
  have hal : a.length = b.length := by rw [← ha, List.length_map, upTo_length, hbl]
  rw [ha, hb]
  refine FnM.by_sx hX (by kernel_rfl) c71 rfl rfl ?_
  simp [i71, sx_skip, sx_ops, sx_seq, sx_cond, sx_block, sx_exit, sx_ret, sx_mcall, sx_mcallx, sx_mcell, sx_mset, sx_mnset, elAt, setEl, inAt, elIn, setIn, isLst, cellsOf, sxl_nil, sxl_set, sxl_call, sxl_callv, sxl_g1, sxl_g2, sxl_g3, sxl_g4, OkS_true, GrdS_tt, GrdS_tf, GrdS_ft, GrdS_ff, CondS_t, CondS_f, then_n, then_e, then_r, blk_n, blk_e, blk_r, upd_app, Ex.ok, Ex.val, Opd.val, POp.dst, bin_int, binOK_int, bin_str, binOK_str, resOK, resV, RB.val, sub, putc, scB, scL, oneB, conf, Ex.val.eqP, Ex.val.eqL, negV, mxV, mnV, ← wr_eq, wr_zero, wr_one, wr_m1, bst_lst, byteC, partsOK, putAll, appV, nilV, slV, sslV, optB, optNum, and_assoc, exists_and_left, exists_eq_left']
  refine sx_count l.length (fun n V => V 0 = .lst 9 nl (mix a b n) ∧ V 5 = i n ∧ V 1 = i (kToI l k n)) 0 (by omega) (by simp [sx_skip, sx_ops, sx_seq, sx_cond, sx_block, sx_exit, sx_ret, sx_mcall, sx_mcallx, sx_mcell, sx_mset, sx_mnset, elAt, setEl, inAt, elIn, setIn, isLst, cellsOf, sxl_nil, sxl_set, sxl_call, sxl_callv, sxl_g1, sxl_g2, sxl_g3, sxl_g4, OkS_true, GrdS_tt, GrdS_tf, GrdS_ft, GrdS_ff, CondS_t, CondS_f, then_n, then_e, then_r, blk_n, blk_e, blk_r, upd_app, Ex.ok, Ex.val, Opd.val, POp.dst, bin_int, binOK_int, bin_str, binOK_str, resOK, resV, RB.val, sub, putc, scB, scL, oneB, conf, Ex.val.eqP, Ex.val.eqL, negV, mxV, mnV, ← wr_eq, wr_zero, wr_one, wr_m1, bst_lst, byteC, partsOK, putAll, appV, nilV, slV, sslV, optB, optNum, and_assoc, exists_and_left, exists_eq_left', mix_zero, kToI]) ?_
  rintro n V hn ⟨h0, h5, h1⟩
  have hml := mix_len (n := n) hal
  rw [hbl] at hml
  simp [sx_skip, sx_ops, sx_seq, sx_cond, sx_block, sx_exit, sx_ret, sx_mcall, sx_mcallx, sx_mcell, sx_mset, sx_mnset, elAt, setEl, inAt, elIn, setIn, isLst, cellsOf, sxl_nil, sxl_set, sxl_call, sxl_callv, sxl_g1, sxl_g2, sxl_g3, sxl_g4, OkS_true, GrdS_tt, GrdS_tf, GrdS_ft, GrdS_ff, CondS_t, CondS_f, then_n, then_e, then_r, blk_n, blk_e, blk_r, upd_app, Ex.ok, Ex.val, Opd.val, POp.dst, bin_int, binOK_int, bin_str, binOK_str, resOK, resV, RB.val, sub, putc, scB, scL, oneB, conf, Ex.val.eqP, Ex.val.eqL, negV, mxV, mnV, ← wr_eq, wr_zero, wr_one, wr_m1, bst_lst, byteC, partsOK, putAll, appV, nilV, slV, sslV, optB, optNum, and_assoc, exists_and_left, exists_eq_left', h0, h5]
  refine CondS_d (fun hlt => ?_) (fun hge => ?_)
  · have hlt' : n < l.length := by omega
    have hnb : n < b.length := by omega
    have hf : nl = false := by cases nl with | false => rfl | true => rw [hnl rfl] at hlt'; simp at hlt'
    subst hf
    have hm1 := kToI_mono (l := l) (k := k) (n := 0) (m := n) (by omega)
    have hm2 := kToI_mono (l := l) (k := k) (n := n + 1) (m := l.length) (by omega)
    have hks : kToI l k (n + 1) = kToI l k n + 8 + 2 * (l[n].f1.f4.length : Nat) := by simp [kToI, hlt']
    have hm1 : k ≤ kToI l k n := hm1
    have hmk : ei (mkEiAt l k n) = [i (kToI l k n), i (kToI l k n + 1), i (kToI l k n + 1 + 1), i (kToI l k n + 1 + 2), .str (mt (kToI l k n + 1 + 3)), .lst 2 l[n].f1.nl ((upTo (mkPt (kToI l k n + 1 + 4)) l[n].f1.f4.length).map cp), i (kToI l k n + 5 + 2 * (l[n].f1.f4.length : Nat)), i (kToI l k n + 6 + 2 * (l[n].f1.f4.length : Nat)), i (kToI l k n + 7 + 2 * (l[n].f1.f4.length : Nat))] := by unfold mkEiAt mkEi mkFt ei; simp [hlt']
    obtain ⟨x, hxe⟩ : ∃ x, l[n] = x := ⟨_, rfl⟩
    have hxo := hx l[n] (List.getElem_mem ..)
    have hat : (mix a b n)[n]? = some [i x.f0, i x.f1.f0, i x.f1.f1, i x.f1.f2, .str x.f1.f3, .lst 2 x.f1.nl (x.f1.f4.map cp), i x.f2, i x.f3, i x.f4] := by rw [mix_at hal hnb]; subst hb; simp [ei, hxe]
    rw [hxe] at hks hmk hxo
    obtain ⟨q, hq⟩ : ∃ q, kToI l k n = q := ⟨_, rfl⟩
    rw [hq] at hks hmk h1 hm1
    obtain ⟨q2, hq2⟩ : ∃ q2 : Int, q + 5 + 2 * (x.f1.f4.length : Nat) = q2 := ⟨_, rfl⟩
    have e1 : q + 1 + 1 = q + 2 := by omega
    have e2 : q + 1 + 2 = q + 3 := by omega
    have e3 : q + 1 + 3 = q + 4 := by omega
    have e4 : q + 1 + 4 = q + 5 := by omega
    have e5 : q + 6 + 2 * (x.f1.f4.length : Nat) = q2 + 1 := by omega
    have e6 : q + 7 + 2 * (x.f1.f4.length : Nat) = q2 + 2 := by omega
    rw [hq2, e5, e6, e1, e2, e3, e4] at hmk
    have hst : (mix a b n).set n [i q, i (q + 1), i (q + 2), i (q + 3), .str (mt (q + 4)), .lst 2 x.f1.nl ((upTo (mkPt (q + 5)) x.f1.f4.length).map cp), i q2, i (q2 + 1), i (q2 + 2)] = mix a b (n + 1) := mix_set hal hnb (by rw [← ha, List.getElem?_map, upTo_get hlt', Option.map_some, hmk])
    obtain ⟨hlm, hat'⟩ := get_of hat
    have hw : wr .i64 ((n : Int) + 1) = n + 1 := wr_in (by omega) (by omega)
    have w1 : wr .i64 (q + 1) = q + 1 := wr_in (by omega) (by omega)
    have w2 : wr .i64 (q + 1 + 1) = q + 2 := by rw [wr_in (by omega) (by omega)]; omega
    have w3 : wr .i64 (q + 2 + 1) = q + 3 := by rw [wr_in (by omega) (by omega)]; omega
    have w4 : wr .i64 (q + 3 + 1) = q + 4 := by rw [wr_in (by omega) (by omega)]; omega
    have w4b : wr .i64 (q + 4 + 1) = q + 5 := by rw [wr_in (by omega) (by omega)]; omega
    have w5 : wr .i64 (q2 + 1) = q2 + 1 := wr_in (by omega) (by omega)
    have w6 : wr .i64 (q2 + 1 + 1) = q2 + 2 := by rw [wr_in (by omega) (by omega)]; omega
    have w7 : wr .i64 (q2 + 2 + 1) = kToI l k (n + 1) := by rw [wr_in (by omega) (by omega)]; omega
    have c1 := f92 (q + 4) (by omega)
    have c2 := f75 x.f1.f4 x.f1.nl (q + 5) hxo (by omega) (by omega)
    have hq2' : q + 5 + 2 * (x.f1.f4.length : Int) = q2 := hq2
    rw [hq2'] at c2
    clear hks hmk ha hb hq hq2 hq2' e1 e2 e3 e4 e5 e6
    repeat' (first | intro _ | (simp [sx_skip, sx_ops, sx_seq, sx_cond, sx_block, sx_exit, sx_ret, sx_mcall, sx_mcallx, sx_mcell, sx_mset, sx_mnset, elAt, setEl, inAt, elIn, setIn, isLst, cellsOf, sxl_nil, sxl_set, sxl_call, sxl_callv, sxl_g1, sxl_g2, sxl_g3, sxl_g4, OkS_true, GrdS_tt, GrdS_tf, GrdS_ft, GrdS_ff, CondS_t, CondS_f, then_n, then_e, then_r, blk_n, blk_e, blk_r, upd_app, Ex.ok, Ex.val, Opd.val, POp.dst, bin_int, binOK_int, bin_str, binOK_str, resOK, resV, RB.val, sub, putc, scB, scL, oneB, conf, Ex.val.eqP, Ex.val.eqL, negV, mxV, mnV, ← wr_eq, wr_zero, wr_one, wr_m1, bst_lst, byteC, partsOK, putAll, appV, nilV, slV, sslV, optB, optNum, and_assoc, exists_and_left, exists_eq_left', cp, *]) | refine CallS_i (c1) ?_ | refine CallS_i (c2) ?_ | refine CallM_i (c1) ?_ | refine CallM_i (c2) ?_ | refine CallE_i (c1) ?_ | refine CallE_i (c2) ?_ | refine CallX_i (c1) ?_ | refine CallX_i (c2) ?_ | refine CondS_d (fun h => ?_) (fun h => ?_) | refine CondS_b (fun h => ?_) (fun h => ?_) | refine GrdS_d (fun h => ?_) (fun h => ?_) | refine GrdS_b (fun h => ?_) (fun h => ?_) | refine OkS_i (by omega) ?_ | fail)
  · have : n = l.length := by omega
    subst this
    have hfu := mix_full hal
    rw [hbl] at hfu
    repeat' (first | intro _ | (simp [sx_skip, sx_ops, sx_seq, sx_cond, sx_block, sx_exit, sx_ret, sx_mcall, sx_mcallx, sx_mcell, sx_mset, sx_mnset, elAt, setEl, inAt, elIn, setIn, isLst, cellsOf, sxl_nil, sxl_set, sxl_call, sxl_callv, sxl_g1, sxl_g2, sxl_g3, sxl_g4, OkS_true, GrdS_tt, GrdS_tf, GrdS_ft, GrdS_ff, CondS_t, CondS_f, then_n, then_e, then_r, blk_n, blk_e, blk_r, upd_app, Ex.ok, Ex.val, Opd.val, POp.dst, bin_int, binOK_int, bin_str, binOK_str, resOK, resV, RB.val, sub, putc, scB, scL, oneB, conf, Ex.val.eqP, Ex.val.eqL, negV, mxV, mnV, ← wr_eq, wr_zero, wr_one, wr_m1, bst_lst, byteC, partsOK, putAll, appV, nilV, slV, sslV, optB, optNum, and_assoc, exists_and_left, exists_eq_left', *]) | refine CondS_d (fun h => ?_) (fun h => ?_) | refine CondS_b (fun h => ?_) (fun h => ?_) | refine GrdS_d (fun h => ?_) (fun h => ?_) | refine GrdS_b (fun h => ?_) (fun h => ?_) | refine OkS_i (by omega) ?_ | fail)
theorem kToI_le (l : List Ei) : ∀ n : Nat, n ≤ l.length → ∀ k : Int, kToI l k n ≤ k + 8 * n + 2 * (wtToI l n : Nat)
  | 0, _, k => by simp [kToI]; omega
  | n + 1, hn, k => by
    have h1 := kToI_le l n (by omega) k
    have h2 := wtToI_succ (l := l) (n := n) (by omega)
    have h3 : wtF l[n].f1 = l[n].f1.f3.size + l[n].f1.f4.length := rfl
    have h4 : kToI l k (n + 1) = kToI l k n + 8 + 2 * (l[n].f1.f4.length : Nat) := by simp [kToI, show n < l.length by omega]
    omega
end Go.Eng
namespace Go.Eng
open Go Go.Proofs Geo
set_option linter.unusedSimpArgs false
set_option linter.unusedVariables false
set_option maxRecDepth 20000
set_option maxHeartbeats 1000000

/-! copies of sources. WRITES -/
def frTo (l : List Ft) (n : Nat) : List Ft := (l.take n).map Ft.fr
theorem frTo_succ {l : List Ft} {n : Nat} (h : n < l.length) : frTo l (n + 1) = frTo l n ++ [l[n].fr] := by
  unfold frTo
  rw [List.take_add_one, List.getElem?_eq_getElem h, List.map_append]
  rfl
theorem frTo_all (l : List Ft) : frTo l l.length = l.map Ft.fr := by unfold frTo; rw [List.take_of_length_le (Nat.le_refl _)]
theorem frTo_len {l : List Ft} {n : Nat} (h : n ≤ l.length) : (frTo l n).length = n := by unfold frTo; simp; omega
theorem f103 (l : List Ft) (nl : Bool) (hl : l.length ≤ 1000000000) (hb : ∀ x ∈ l, x.f4.length ≤ 1000000000) : Fn Try.prog 103 true [.lst 5 nl (l.map ft)] (.lst 5 false ((l.map Ft.fr).map ft)) := by
  refine Fn.by_sx hX (by kernel_rfl) c103 (by kernel_rfl) (by rfl) ?_
  simp [i103, sx_skip, sx_ops, sx_seq, sx_cond, sx_block, sx_exit, sx_ret, sx_mcall, sx_mcallx, sx_mcell, sx_mset, sx_mnset, elAt, setEl, inAt, elIn, setIn, isLst, cellsOf, sxl_nil, sxl_set, sxl_call, sxl_callv, sxl_g1, sxl_g2, sxl_g3, sxl_g4, OkS_true, GrdS_tt, GrdS_tf, GrdS_ft, GrdS_ff, CondS_t, CondS_f, then_n, then_e, then_r, blk_n, blk_e, blk_r, upd_app, Ex.ok, Ex.val, Opd.val, POp.dst, bin_int, binOK_int, bin_str, binOK_str, resOK, resV, RB.val, sub, putc, scB, scL, oneB, conf, Ex.val.eqP, Ex.val.eqL, negV, mxV, mnV, ← wr_eq, wr_zero, wr_one, wr_m1, bst_lst, byteC, partsOK, putAll, appV, nilV, slV, sslV, optB, optNum, and_assoc, exists_and_left, exists_eq_left']
  refine sx_count l.length (fun n V => V 0 = .lst 5 nl (l.map ft) ∧ V 4 = i n ∧ V 3 = .lst 5 false ((frTo l n).map ft)) 0 (by omega) (by simp [sx_skip, sx_ops, sx_seq, sx_cond, sx_block, sx_exit, sx_ret, sx_mcall, sx_mcallx, sx_mcell, sx_mset, sx_mnset, elAt, setEl, inAt, elIn, setIn, isLst, cellsOf, sxl_nil, sxl_set, sxl_call, sxl_callv, sxl_g1, sxl_g2, sxl_g3, sxl_g4, OkS_true, GrdS_tt, GrdS_tf, GrdS_ft, GrdS_ff, CondS_t, CondS_f, then_n, then_e, then_r, blk_n, blk_e, blk_r, upd_app, Ex.ok, Ex.val, Opd.val, POp.dst, bin_int, binOK_int, bin_str, binOK_str, resOK, resV, RB.val, sub, putc, scB, scL, oneB, conf, Ex.val.eqP, Ex.val.eqL, negV, mxV, mnV, ← wr_eq, wr_zero, wr_one, wr_m1, bst_lst, byteC, partsOK, putAll, appV, nilV, slV, sslV, optB, optNum, and_assoc, exists_and_left, exists_eq_left', frTo]) ?_
  rintro n V hn ⟨h0, h4, h3⟩
  have hw : wr .i64 ((n : Int) + 1) = n + 1 := wr_in (by omega) (by omega)
  simp [sx_skip, sx_ops, sx_seq, sx_cond, sx_block, sx_exit, sx_ret, sx_mcall, sx_mcallx, sx_mcell, sx_mset, sx_mnset, elAt, setEl, inAt, elIn, setIn, isLst, cellsOf, sxl_nil, sxl_set, sxl_call, sxl_callv, sxl_g1, sxl_g2, sxl_g3, sxl_g4, OkS_true, GrdS_tt, GrdS_tf, GrdS_ft, GrdS_ff, CondS_t, CondS_f, then_n, then_e, then_r, blk_n, blk_e, blk_r, upd_app, Ex.ok, Ex.val, Opd.val, POp.dst, bin_int, binOK_int, bin_str, binOK_str, resOK, resV, RB.val, sub, putc, scB, scL, oneB, conf, Ex.val.eqP, Ex.val.eqL, negV, mxV, mnV, ← wr_eq, wr_zero, wr_one, wr_m1, bst_lst, byteC, partsOK, putAll, appV, nilV, slV, sslV, optB, optNum, and_assoc, exists_and_left, exists_eq_left', h0, h4]
  refine CondS_d (fun hlt => ?_) (fun hge => ?_)
  · have hlt' : n < l.length := by omega
    have hnx := frTo_succ hlt'
    have hlen := frTo_len (l := l) (n := n) (by omega)
    have hc := f112 l[n] (hb _ (List.getElem_mem ..))
    unfold ft at hc
    repeat' (first | intro _ | (simp [sx_skip, sx_ops, sx_seq, sx_cond, sx_block, sx_exit, sx_ret, sx_mcall, sx_mcallx, sx_mcell, sx_mset, sx_mnset, elAt, setEl, inAt, elIn, setIn, isLst, cellsOf, sxl_nil, sxl_set, sxl_call, sxl_callv, sxl_g1, sxl_g2, sxl_g3, sxl_g4, OkS_true, GrdS_tt, GrdS_tf, GrdS_ft, GrdS_ff, CondS_t, CondS_f, then_n, then_e, then_r, blk_n, blk_e, blk_r, upd_app, Ex.ok, Ex.val, Opd.val, POp.dst, bin_int, binOK_int, bin_str, binOK_str, resOK, resV, RB.val, sub, putc, scB, scL, oneB, conf, Ex.val.eqP, Ex.val.eqL, negV, mxV, mnV, ← wr_eq, wr_zero, wr_one, wr_m1, bst_lst, byteC, partsOK, putAll, appV, nilV, slV, sslV, optB, optNum, and_assoc, exists_and_left, exists_eq_left', ft, *]) | refine CallS_i (hc) ?_ | refine CallM_i (hc) ?_ | refine CallE_i (hc) ?_ | refine CallX_i (hc) ?_ | refine CondS_d (fun h => ?_) (fun h => ?_) | refine CondS_b (fun h => ?_) (fun h => ?_) | refine GrdS_d (fun h => ?_) (fun h => ?_) | refine GrdS_b (fun h => ?_) (fun h => ?_) | refine OkS_i (by omega) ?_ | fail)
    all_goals omega
  · have : n = l.length := by omega
    subst this
    have ha := frTo_all l
    repeat' (first | intro _ | (simp [sx_skip, sx_ops, sx_seq, sx_cond, sx_block, sx_exit, sx_ret, sx_mcall, sx_mcallx, sx_mcell, sx_mset, sx_mnset, elAt, setEl, inAt, elIn, setIn, isLst, cellsOf, sxl_nil, sxl_set, sxl_call, sxl_callv, sxl_g1, sxl_g2, sxl_g3, sxl_g4, OkS_true, GrdS_tt, GrdS_tf, GrdS_ft, GrdS_ff, CondS_t, CondS_f, then_n, then_e, then_r, blk_n, blk_e, blk_r, upd_app, Ex.ok, Ex.val, Opd.val, POp.dst, bin_int, binOK_int, bin_str, binOK_str, resOK, resV, RB.val, sub, putc, scB, scL, oneB, conf, Ex.val.eqP, Ex.val.eqL, negV, mxV, mnV, ← wr_eq, wr_zero, wr_one, wr_m1, bst_lst, byteC, partsOK, putAll, appV, nilV, slV, sslV, optB, optNum, and_assoc, exists_and_left, exists_eq_left', *]) | refine CondS_d (fun h => ?_) (fun h => ?_) | refine CondS_b (fun h => ?_) (fun h => ?_) | refine GrdS_d (fun h => ?_) (fun h => ?_) | refine GrdS_b (fun h => ?_) (fun h => ?_) | refine OkS_i (by omega) ?_ | fail)
theorem f110 (l : List Ft) (nl : Bool) (hl : l.length ≤ 1000000000) (hb : ∀ x ∈ l, x.f4.length ≤ 1000000000) (hnn : ∀ x ∈ l, x.nl = false) : Fn Try.prog 110 true [.lst 5 nl (l.map ft)] (.lst 5 false ((l.map Ft.fr).map ft)) := by
  refine Fn.by_sx hX (by kernel_rfl) c110 (by kernel_rfl) (by rfl) ?_
  simp [i110, sx_skip, sx_ops, sx_seq, sx_cond, sx_block, sx_exit, sx_ret, sx_mcall, sx_mcallx, sx_mcell, sx_mset, sx_mnset, elAt, setEl, inAt, elIn, setIn, isLst, cellsOf, sxl_nil, sxl_set, sxl_call, sxl_callv, sxl_g1, sxl_g2, sxl_g3, sxl_g4, OkS_true, GrdS_tt, GrdS_tf, GrdS_ft, GrdS_ff, CondS_t, CondS_f, then_n, then_e, then_r, blk_n, blk_e, blk_r, upd_app, Ex.ok, Ex.val, Opd.val, POp.dst, bin_int, binOK_int, bin_str, binOK_str, resOK, resV, RB.val, sub, putc, scB, scL, oneB, conf, Ex.val.eqP, Ex.val.eqL, negV, mxV, mnV, ← wr_eq, wr_zero, wr_one, wr_m1, bst_lst, byteC, partsOK, putAll, appV, nilV, slV, sslV, optB, optNum, and_assoc, exists_and_left, exists_eq_left']
  refine sx_count l.length (fun n V => V 7 = .lst 5 nl (l.map ft) ∧ V 8 = i l.length ∧ V 9 = i n ∧ V 3 = .lst 5 false ((frTo l n).map ft)) 0 (by omega) (by simp [sx_skip, sx_ops, sx_seq, sx_cond, sx_block, sx_exit, sx_ret, sx_mcall, sx_mcallx, sx_mcell, sx_mset, sx_mnset, elAt, setEl, inAt, elIn, setIn, isLst, cellsOf, sxl_nil, sxl_set, sxl_call, sxl_callv, sxl_g1, sxl_g2, sxl_g3, sxl_g4, OkS_true, GrdS_tt, GrdS_tf, GrdS_ft, GrdS_ff, CondS_t, CondS_f, then_n, then_e, then_r, blk_n, blk_e, blk_r, upd_app, Ex.ok, Ex.val, Opd.val, POp.dst, bin_int, binOK_int, bin_str, binOK_str, resOK, resV, RB.val, sub, putc, scB, scL, oneB, conf, Ex.val.eqP, Ex.val.eqL, negV, mxV, mnV, ← wr_eq, wr_zero, wr_one, wr_m1, bst_lst, byteC, partsOK, putAll, appV, nilV, slV, sslV, optB, optNum, and_assoc, exists_and_left, exists_eq_left', frTo]) ?_
  rintro n V hn ⟨h7, h8, h9, h3⟩
  have hw : wr .i64 ((n : Int) + 1) = n + 1 := wr_in (by omega) (by omega)
  simp [sx_skip, sx_ops, sx_seq, sx_cond, sx_block, sx_exit, sx_ret, sx_mcall, sx_mcallx, sx_mcell, sx_mset, sx_mnset, elAt, setEl, inAt, elIn, setIn, isLst, cellsOf, sxl_nil, sxl_set, sxl_call, sxl_callv, sxl_g1, sxl_g2, sxl_g3, sxl_g4, OkS_true, GrdS_tt, GrdS_tf, GrdS_ft, GrdS_ff, CondS_t, CondS_f, then_n, then_e, then_r, blk_n, blk_e, blk_r, upd_app, Ex.ok, Ex.val, Opd.val, POp.dst, bin_int, binOK_int, bin_str, binOK_str, resOK, resV, RB.val, sub, putc, scB, scL, oneB, conf, Ex.val.eqP, Ex.val.eqL, negV, mxV, mnV, ← wr_eq, wr_zero, wr_one, wr_m1, bst_lst, byteC, partsOK, putAll, appV, nilV, slV, sslV, optB, optNum, and_assoc, exists_and_left, exists_eq_left', h8, h9]
  refine CondS_d (fun hlt => ?_) (fun hge => ?_)
  · have hlt' : n < l.length := by omega
    have hnx := frTo_succ hlt'
    have hlen := frTo_len (l := l) (n := n) (by omega)
    have hc := f90 l[n] (hnn _ (List.getElem_mem ..)) (hb _ (List.getElem_mem ..))
    have hnn' := hnn _ (List.getElem_mem hlt')
    clear hnn
    unfold ft at hc
    rw [hnn'] at hc
    repeat' (first | intro _ | (simp [sx_skip, sx_ops, sx_seq, sx_cond, sx_block, sx_exit, sx_ret, sx_mcall, sx_mcallx, sx_mcell, sx_mset, sx_mnset, elAt, setEl, inAt, elIn, setIn, isLst, cellsOf, sxl_nil, sxl_set, sxl_call, sxl_callv, sxl_g1, sxl_g2, sxl_g3, sxl_g4, OkS_true, GrdS_tt, GrdS_tf, GrdS_ft, GrdS_ff, CondS_t, CondS_f, then_n, then_e, then_r, blk_n, blk_e, blk_r, upd_app, Ex.ok, Ex.val, Opd.val, POp.dst, bin_int, binOK_int, bin_str, binOK_str, resOK, resV, RB.val, sub, putc, scB, scL, oneB, conf, Ex.val.eqP, Ex.val.eqL, negV, mxV, mnV, ← wr_eq, wr_zero, wr_one, wr_m1, bst_lst, byteC, partsOK, putAll, appV, nilV, slV, sslV, optB, optNum, and_assoc, exists_and_left, exists_eq_left', ft, *]) | refine CallS_i (hc) ?_ | refine CallM_i (hc) ?_ | refine CallE_i (hc) ?_ | refine CallX_i (hc) ?_ | refine CondS_d (fun h => ?_) (fun h => ?_) | refine CondS_b (fun h => ?_) (fun h => ?_) | refine GrdS_d (fun h => ?_) (fun h => ?_) | refine GrdS_b (fun h => ?_) (fun h => ?_) | refine OkS_i (by omega) ?_ | fail)
    all_goals omega
  · have : n = l.length := by omega
    subst this
    have ha := frTo_all l
    repeat' (first | intro _ | (simp [sx_skip, sx_ops, sx_seq, sx_cond, sx_block, sx_exit, sx_ret, sx_mcall, sx_mcallx, sx_mcell, sx_mset, sx_mnset, elAt, setEl, inAt, elIn, setIn, isLst, cellsOf, sxl_nil, sxl_set, sxl_call, sxl_callv, sxl_g1, sxl_g2, sxl_g3, sxl_g4, OkS_true, GrdS_tt, GrdS_tf, GrdS_ft, GrdS_ff, CondS_t, CondS_f, then_n, then_e, then_r, blk_n, blk_e, blk_r, upd_app, Ex.ok, Ex.val, Opd.val, POp.dst, bin_int, binOK_int, bin_str, binOK_str, resOK, resV, RB.val, sub, putc, scB, scL, oneB, conf, Ex.val.eqP, Ex.val.eqL, negV, mxV, mnV, ← wr_eq, wr_zero, wr_one, wr_m1, bst_lst, byteC, partsOK, putAll, appV, nilV, slV, sslV, optB, optNum, and_assoc, exists_and_left, exists_eq_left', *]) | refine CondS_d (fun h => ?_) (fun h => ?_) | refine CondS_b (fun h => ?_) (fun h => ?_) | refine GrdS_d (fun h => ?_) (fun h => ?_) | refine GrdS_b (fun h => ?_) (fun h => ?_) | refine OkS_i (by omega) ?_ | fail)
end Go.Eng
namespace Go.Eng
open Go Go.Proofs Geo
set_option linter.unusedSimpArgs false
set_option linter.unusedVariables false
set_option maxRecDepth 20000
set_option maxHeartbeats 1000000

/-! the plain law of features put and taken -/
def inc (l : List Ft) : Prop := (l.map (·.f0)).Pairwise (· < ·)
theorem inc_of {l : List Ft} (h : ∀ n, 0 < n → (hn : n < l.length) → (l[n - 1]'(by omega)).f0 < l[n].f0) : inc l := by
  unfold inc
  rw [List.pairwise_iff_getElem]
  intro a b ha hb hab
  simp only [List.length_map] at ha hb
  simp only [List.getElem_map]
  induction b with
  | zero => omega
  | succ b ih =>
    have h1 := h (b + 1) (by omega) hb
    simp only [Nat.add_sub_cancel] at h1
    rcases Nat.lt_or_ge a b with h2 | h2
    · have := ih (by omega) h2 (by omega)
      omega
    · obtain rfl : a = b := by omega
      exact h1
theorem inc_at {l : List Ft} (h : inc l) {a b : Nat} (hab : a < b) (hb : b < l.length) : (l[a]'(by omega)).f0 < l[b].f0 := by
  unfold inc at h
  rw [List.pairwise_iff_getElem] at h
  have := h a b (by simpa using (by omega : a < l.length)) (by simpa using hb) hab
  simpa using this
theorem srcAt_iff {l : List Ft} {n : Nat} (hn : n < l.length) : srcAt l n = true ↔ wFeat l[n] = true ∧ (0 < n → (l[n - 1]'(by omega)).f0 < l[n].f0) := by
  unfold srcAt
  have h1 : l.getD n ftD = l[n] := by simp [hn]
  have h2 : l.getD (n - 1) ftD = l[n - 1]'(by omega) := by simp [show n - 1 < l.length by omega]
  rw [h1, h2]
  simp
  intro _
  constructor <;> intro h <;> omega
theorem wSrc_iff {l : List Ft} : wSrc l = true ↔ l.length ≤ 16 ∧ (∀ x ∈ l, wFeat x = true) ∧ inc l := by
  unfold wSrc
  rw [Bool.and_eq_true, decide_eq_true_iff]
  constructor
  · rintro ⟨h1, h2⟩
    refine ⟨h1, fun x hx => ?_, inc_of fun n h0 hn => ?_⟩
    · obtain ⟨n, hn, rfl⟩ := List.getElem_of_mem hx
      exact ((srcAt_iff hn).1 (allTo_at h2 hn)).1
    · exact ((srcAt_iff hn).1 (allTo_at h2 hn)).2 h0
  · rintro ⟨h1, h2, h3⟩
    refine ⟨h1, ?_⟩
    unfold allTo
    rw [List.all_eq_true]
    intro n hn
    have hn := List.mem_range.1 hn
    exact (srcAt_iff hn).2 ⟨h2 _ (List.getElem_mem hn), fun h => inc_at h3 (by omega) hn⟩
theorem wFeat_fr (x : Ft) : wFeat x.fr = wFeat x := rfl
def wAtF : List Ft → Int → Nat
  | [], _ => 0
  | x :: r, id => if x.f0 < id then wAtF r id + 1 else 0
theorem wAtF_le : ∀ (l : List Ft) (id : Int), wAtF l id ≤ l.length
  | [], _ => Nat.le_refl _
  | x :: r, id => by have := wAtF_le r id; unfold wAtF; split <;> simp <;> omega
theorem wAtF_lt : ∀ {l : List Ft} {id : Int} {j : Nat} (hj : j < wAtF l id) (h : j < l.length), l[j].f0 < id
  | [], _, _, _, h => by simp at h
  | x :: r, id, 0, hj, h => by
    unfold wAtF at hj
    split at hj
    · assumption
    · omega
  | x :: r, id, j + 1, hj, h => by
    unfold wAtF at hj
    split at hj
    · exact wAtF_lt (l := r) (j := j) (by omega) (by simpa using h)
    · omega
theorem wAtF_stop : ∀ {l : List Ft} {id : Int} (h : wAtF l id < l.length), ¬ l[wAtF l id].f0 < id
  | [], _, h => by simp at h
  | x :: r, id, h => by
    by_cases hx : x.f0 < id
    · have e : wAtF (x :: r) id = wAtF r id + 1 := by simp [wAtF, hx]
      simp only [e, List.getElem_cons_succ]
      exact wAtF_stop (l := r) (by rw [e] at h; simpa using h)
    · have e : wAtF (x :: r) id = 0 := by simp [wAtF, hx]
      simp only [e, List.getElem_cons_zero]
      exact hx
theorem firstFrom_get {ok : Nat → Bool} : ∀ d n : Nat, (0 ≤ firstFrom ok d n → ok (firstFrom ok d n).toNat = true) ∧ (firstFrom ok d n < 0 → ∀ m, n ≤ m → m < n + d → ok m = false)
  | 0, n => ⟨fun h => by simp [firstFrom] at h, fun _ m h1 h2 => by omega⟩
  | d + 1, n => by
    have ih := firstFrom_get (ok := ok) d (n + 1)
    unfold firstFrom
    by_cases h : ok n = true
    · simp only [h, if_true]
      exact ⟨fun _ => by simpa using h, fun h0 => by omega⟩
    · simp only [h, if_false]
      refine ⟨ih.1, fun h0 m h1 h2 => ?_⟩
      rcases Nat.eq_or_lt_of_le h1 with rfl | h1
      · simpa using h
      · exact ih.2 h0 m (by omega) (by omega)
theorem wFind_get {l : List Ft} {id : Int} (h : 0 ≤ wFind l id) : ∃ hk : (wFind l id).toNat < l.length, l[(wFind l id).toNat].f0 = id := by
  have h1 := (firstFrom_get (ok := hasId l id) (l.length - 0) 0).1 h
  have h2 := wFind_bound l id
  have hk : (wFind l id).toNat < l.length := by omega
  refine ⟨hk, ?_⟩
  change hasId l id (wFind l id).toNat = true at h1
  simpa [hasId, hk] using h1
theorem wFind_none {l : List Ft} {id : Int} (h : wFind l id < 0) {n : Nat} (hn : n < l.length) : l[n].f0 ≠ id := by
  have h1 := (firstFrom_get (ok := hasId l id) (l.length - 0) 0).2 h n (by omega) (by omega)
  simpa [hasId, hn] using h1
def hitF (l : List Ft) (f : Ft) : Bool := decide (wAtF l f.f0 < l.length) && decide ((l.getD (wAtF l f.f0) ftD).f0 = f.f0)
def pfS (l : List Ft) (f : Ft) : List Ft := (l.take (wAtF l f.f0)).map Ft.fr ++ f.fr :: (l.drop (if hitF l f = true then wAtF l f.f0 + 1 else wAtF l f.f0)).map Ft.fr
def pfI (l : List Ft) (f : Ft) : List Ft := if 0 ≤ wFind l f.f0 then (l.map Ft.fr).set (wFind l f.f0).toNat f.fr else (l.map Ft.fr).take (wAtF l f.f0) ++ f.fr :: (l.map Ft.fr).drop (wAtF l f.f0)
theorem inc_fr {l : List Ft} : inc (l.map Ft.fr) ↔ inc l := by unfold inc; rw [List.map_map]; rfl
theorem inc_sub {l m : List Ft} (h : l.Sublist m) (hm : inc m) : inc l := List.Pairwise.sublist (h.map _) hm
theorem pfS_inc {l : List Ft} {f : Ft} (h : inc (pfS l f)) : inc l := by
  unfold pfS at h
  have hk := wAtF_le l f.f0
  split at h
  · rename_i hh
    unfold hitF at hh
    simp only [Bool.and_eq_true, decide_eq_true_iff] at hh
    obtain ⟨h1, h2⟩ := hh
    have e : l = l.take (wAtF l f.f0) ++ l[wAtF l f.f0] :: l.drop (wAtF l f.f0 + 1) := by rw [← List.drop_eq_getElem_cons h1, List.take_append_drop]
    unfold inc at h ⊢
    rw [e]
    simp only [List.map_append, List.map_cons, List.map_map] at h ⊢
    have h3 : l[wAtF l f.f0].f0 = f.f0 := by simpa [h1] using h2
    rw [h3]
    exact h
  · rw [← inc_fr]
    refine inc_sub ?_ h
    conv => lhs; rw [← List.take_append_drop (wAtF l f.f0) l, List.map_append]
    exact List.Sublist.append (List.Sublist.refl _) (List.sublist_cons_self _ _)
theorem pfI_inc {l : List Ft} {f : Ft} (h : inc (pfI l f)) : inc l := by
  unfold pfI at h
  split at h
  · rename_i hh
    obtain ⟨hk, he⟩ := wFind_get hh
    unfold inc at h ⊢
    have e : ((l.map Ft.fr).set (wFind l f.f0).toNat f.fr).map (·.f0) = l.map (·.f0) := by
      rw [List.map_set, List.map_map]
      apply List.ext_getElem
      · simp
      · intro n h1 h2
        rw [List.getElem_set]
        split
        · rename_i h3
          subst h3
          have e : f.fr.f0 = f.f0 := rfl
          rw [e, List.getElem_map]
          exact he.symm
        · simp [Ft.fr]
    rw [e] at h
    exact h
  · rw [← inc_fr]
    refine inc_sub ?_ h
    conv => lhs; rw [← List.take_append_drop (wAtF l f.f0) (l.map Ft.fr)]
    exact List.Sublist.append (List.Sublist.refl _) (List.sublist_cons_self _ _)
theorem wAtF_of {l : List Ft} (hi : inc l) {n : Nat} (hn : n < l.length) : wAtF l l[n].f0 = n := by
  have hk := wAtF_le l l[n].f0
  rcases Nat.lt_trichotomy (wAtF l l[n].f0) n with h | h | h
  · have h1 := wAtF_stop (l := l) (id := l[n].f0) (by omega)
    exact absurd (inc_at hi h hn) h1
  · exact h
  · have h1 := wAtF_lt (l := l) (id := l[n].f0) h hn
    omega
theorem pf_eq {l : List Ft} {f : Ft} (hi : inc l) : pfI l f = pfS l f := by
  unfold pfI pfS
  have hle := wAtF_le l f.f0
  by_cases h : 0 ≤ wFind l f.f0
  · obtain ⟨hk, he⟩ := wFind_get h
    have hw := wAtF_of hi hk
    rw [he] at hw
    have hh : hitF l f = true := by unfold hitF; simp [hw, hk, he]
    rw [if_pos h, if_pos hh, ← hw, List.set_eq_take_append_cons_drop, if_pos (by simpa [hw] using hk)]
    simp
  · have hh : ¬ hitF l f = true := by
      intro hc
      unfold hitF at hc
      simp only [Bool.and_eq_true, decide_eq_true_iff] at hc
      obtain ⟨h1, h2⟩ := hc
      exact wFind_none (l := l) (id := f.f0) (by omega) h1 (by simpa [h1] using h2)
    rw [if_neg h, if_neg hh]
    simp
theorem pf_wSrc (l : List Ft) (f : Ft) : wSrc (pfI l f) = wSrc (pfS l f) ∧ (wSrc (pfS l f) = true → pfI l f = pfS l f) := by
  by_cases hi : inc l
  · rw [pf_eq hi]; exact ⟨rfl, fun _ => rfl⟩
  · have h1 : wSrc (pfI l f) = false := Bool.eq_false_iff.2 fun h => hi (pfI_inc (wSrc_iff.1 h).2.2)
    have h2 : wSrc (pfS l f) = false := Bool.eq_false_iff.2 fun h => hi (pfS_inc (wSrc_iff.1 h).2.2)
    exact ⟨by rw [h1, h2], fun h => by rw [h2] at h; cases h⟩
def tkF (l : List Ft) (id : Int) : List Ft := (l.map Ft.fr).take (wFind l id).toNat ++ (l.map Ft.fr).drop ((wFind l id).toNat + 1)
theorem tkF_sub (l : List Ft) (id : Int) : (tkF l id).Sublist (l.map Ft.fr) := by
  unfold tkF
  conv => rhs; rw [← List.take_append_drop (wFind l id).toNat (l.map Ft.fr)]
  exact List.Sublist.append (List.Sublist.refl _) (List.drop_sublist_drop_left _ (by omega))
theorem tkF_src {l : List Ft} {id : Int} (h : wSrc l = true) : wSrc (tkF l id) = true := by
  obtain ⟨h1, h2, h3⟩ := wSrc_iff.1 h
  refine wSrc_iff.2 ⟨?_, fun x hx => ?_, inc_sub (tkF_sub l id) (inc_fr.2 h3)⟩
  · have := (tkF_sub l id).length_le
    rw [List.length_map] at this
    omega
  · obtain ⟨y, hy, rfl⟩ := List.mem_map.1 ((tkF_sub l id).subset hx)
    exact h2 y hy
end Go.Eng
namespace Go.Eng
open Go Go.Proofs Geo
set_option linter.unusedSimpArgs false
set_option linter.unusedVariables false
set_option maxRecDepth 20000
set_option maxHeartbeats 1000000

/-! a point is moved. WRITES -/
def mvOK (p : Pt) (dx dy : Int) : Bool := M_IsPoint p.f0 p.f1 && (inR dx (-1000) 1000 && (inR dy (-1000) 1000 && M_IsPoint (wr .i64 (p.f0 + dx)) (wr .i64 (p.f1 + dy))))
def mv (p : Pt) (dx dy : Int) : Pt := ⟨wr .i64 (p.f0 + dx), wr .i64 (p.f1 + dy)⟩
def mvR (p : Pt) (dx dy : Int) : Pt := if mvOK p dx dy = true then mv p dx dy else p
theorem f154 (p : Pt) (dx dy : Int) : Fn Try.prog 154 false [.agg (cp p), i dx, i dy] (.tup [.agg (cp (mvR p dx dy)), .bool (mvOK p dx dy)]) := by
  have c1 := f79 p.f0 p.f1
  have c2 := f99 dx (-1000) 1000
  have c3 := f99 dy (-1000) 1000
  have c4 := f79 (wr .i64 (p.f0 + dx)) (wr .i64 (p.f1 + dy))
  unfold mvR mvOK mv
  obtain ⟨b1, h1⟩ : ∃ b, M_IsPoint p.f0 p.f1 = b := ⟨_, rfl⟩
  obtain ⟨b2, h2⟩ : ∃ b, inR dx (-1000) 1000 = b := ⟨_, rfl⟩
  obtain ⟨b3, h3⟩ : ∃ b, inR dy (-1000) 1000 = b := ⟨_, rfl⟩
  obtain ⟨b4, h4⟩ : ∃ b, M_IsPoint (wr .i64 (p.f0 + dx)) (wr .i64 (p.f1 + dy)) = b := ⟨_, rfl⟩
  rw [h1] at c1 ⊢
  rw [h2] at c2 ⊢
  rw [h3] at c3 ⊢
  rw [h4] at c4 ⊢
  clear h1 h2 h3 h4
  unfold cp
  refine Fn.by_sx hX (by kernel_rfl) c154 (by kernel_rfl) (by rfl) ?_
  simp [i154, sx_skip, sx_ops, sx_seq, sx_cond, sx_block, sx_exit, sx_ret, sx_mcall, sx_mcallx, sx_mcell, sx_mset, sx_mnset, elAt, setEl, inAt, elIn, setIn, isLst, cellsOf, sxl_nil, sxl_set, sxl_call, sxl_callv, sxl_g1, sxl_g2, sxl_g3, sxl_g4, OkS_true, GrdS_tt, GrdS_tf, GrdS_ft, GrdS_ff, CondS_t, CondS_f, then_n, then_e, then_r, blk_n, blk_e, blk_r, upd_app, Ex.ok, Ex.val, Opd.val, POp.dst, bin_int, binOK_int, bin_str, binOK_str, resOK, resV, RB.val, sub, putc, scB, scL, oneB, conf, Ex.val.eqP, Ex.val.eqL, negV, mxV, mnV, ← wr_eq, wr_zero, wr_one, wr_m1, bst_lst, byteC, partsOK, putAll, appV, nilV, slV, sslV, optB, optNum, and_assoc, exists_and_left, exists_eq_left']
  cases b1 <;> cases b2 <;> cases b3 <;> cases b4
  all_goals repeat' (first | intro _ | (simp [sx_skip, sx_ops, sx_seq, sx_cond, sx_block, sx_exit, sx_ret, sx_mcall, sx_mcallx, sx_mcell, sx_mset, sx_mnset, elAt, setEl, inAt, elIn, setIn, isLst, cellsOf, sxl_nil, sxl_set, sxl_call, sxl_callv, sxl_g1, sxl_g2, sxl_g3, sxl_g4, OkS_true, GrdS_tt, GrdS_tf, GrdS_ft, GrdS_ff, CondS_t, CondS_f, then_n, then_e, then_r, blk_n, blk_e, blk_r, upd_app, Ex.ok, Ex.val, Opd.val, POp.dst, bin_int, binOK_int, bin_str, binOK_str, resOK, resV, RB.val, sub, putc, scB, scL, oneB, conf, Ex.val.eqP, Ex.val.eqL, negV, mxV, mnV, ← wr_eq, wr_zero, wr_one, wr_m1, bst_lst, byteC, partsOK, putAll, appV, nilV, slV, sslV, optB, optNum, and_assoc, exists_and_left, exists_eq_left', *]) | refine CallS_i (c1) ?_ | refine CallS_i (c2) ?_ | refine CallS_i (c3) ?_ | refine CallS_i (c4) ?_ | refine CallM_i (c1) ?_ | refine CallM_i (c2) ?_ | refine CallM_i (c3) ?_ | refine CallM_i (c4) ?_ | refine CallE_i (c1) ?_ | refine CallE_i (c2) ?_ | refine CallE_i (c3) ?_ | refine CallE_i (c4) ?_ | refine CallX_i (c1) ?_ | refine CallX_i (c2) ?_ | refine CallX_i (c3) ?_ | refine CallX_i (c4) ?_ | refine CondS_d (fun h => ?_) (fun h => ?_) | refine CondS_b (fun h => ?_) (fun h => ?_) | refine GrdS_d (fun h => ?_) (fun h => ?_) | refine GrdS_b (fun h => ?_) (fun h => ?_) | refine OkS_i (by omega) ?_ | fail)
theorem f157 (p : Pt) (dx dy : Int) : Fn Try.prog 157 false [.agg (cp p), i dx, i dy] (.tup [.agg (cp (mvR p dx dy)), .bool (mvOK p dx dy)]) := by
  have c1 := f83 p.f0 p.f1
  have c2 := f97 dx (-1000) 1000
  have c3 := f97 dy (-1000) 1000
  have c4 := f83 (wr .i64 (p.f0 + dx)) (wr .i64 (p.f1 + dy))
  unfold mvR mvOK mv
  obtain ⟨b1, h1⟩ : ∃ b, M_IsPoint p.f0 p.f1 = b := ⟨_, rfl⟩
  obtain ⟨b2, h2⟩ : ∃ b, inR dx (-1000) 1000 = b := ⟨_, rfl⟩
  obtain ⟨b3, h3⟩ : ∃ b, inR dy (-1000) 1000 = b := ⟨_, rfl⟩
  obtain ⟨b4, h4⟩ : ∃ b, M_IsPoint (wr .i64 (p.f0 + dx)) (wr .i64 (p.f1 + dy)) = b := ⟨_, rfl⟩
  rw [h1] at c1 ⊢
  rw [h2] at c2 ⊢
  rw [h3] at c3 ⊢
  rw [h4] at c4 ⊢
  clear h1 h2 h3 h4
  unfold cp
  refine Fn.by_sx hX (by kernel_rfl) c157 (by kernel_rfl) (by rfl) ?_
  simp [i157, sx_skip, sx_ops, sx_seq, sx_cond, sx_block, sx_exit, sx_ret, sx_mcall, sx_mcallx, sx_mcell, sx_mset, sx_mnset, elAt, setEl, inAt, elIn, setIn, isLst, cellsOf, sxl_nil, sxl_set, sxl_call, sxl_callv, sxl_g1, sxl_g2, sxl_g3, sxl_g4, OkS_true, GrdS_tt, GrdS_tf, GrdS_ft, GrdS_ff, CondS_t, CondS_f, then_n, then_e, then_r, blk_n, blk_e, blk_r, upd_app, Ex.ok, Ex.val, Opd.val, POp.dst, bin_int, binOK_int, bin_str, binOK_str, resOK, resV, RB.val, sub, putc, scB, scL, oneB, conf, Ex.val.eqP, Ex.val.eqL, negV, mxV, mnV, ← wr_eq, wr_zero, wr_one, wr_m1, bst_lst, byteC, partsOK, putAll, appV, nilV, slV, sslV, optB, optNum, and_assoc, exists_and_left, exists_eq_left']
  cases b1 <;> cases b2 <;> cases b3 <;> cases b4
  all_goals repeat' (first | intro _ | (simp [sx_skip, sx_ops, sx_seq, sx_cond, sx_block, sx_exit, sx_ret, sx_mcall, sx_mcallx, sx_mcell, sx_mset, sx_mnset, elAt, setEl, inAt, elIn, setIn, isLst, cellsOf, sxl_nil, sxl_set, sxl_call, sxl_callv, sxl_g1, sxl_g2, sxl_g3, sxl_g4, OkS_true, GrdS_tt, GrdS_tf, GrdS_ft, GrdS_ff, CondS_t, CondS_f, then_n, then_e, then_r, blk_n, blk_e, blk_r, upd_app, Ex.ok, Ex.val, Opd.val, POp.dst, bin_int, binOK_int, bin_str, binOK_str, resOK, resV, RB.val, sub, putc, scB, scL, oneB, conf, Ex.val.eqP, Ex.val.eqL, negV, mxV, mnV, ← wr_eq, wr_zero, wr_one, wr_m1, bst_lst, byteC, partsOK, putAll, appV, nilV, slV, sslV, optB, optNum, and_assoc, exists_and_left, exists_eq_left', *]) | refine CallS_i (c1) ?_ | refine CallS_i (c2) ?_ | refine CallS_i (c3) ?_ | refine CallS_i (c4) ?_ | refine CallM_i (c1) ?_ | refine CallM_i (c2) ?_ | refine CallM_i (c3) ?_ | refine CallM_i (c4) ?_ | refine CallE_i (c1) ?_ | refine CallE_i (c2) ?_ | refine CallE_i (c3) ?_ | refine CallE_i (c4) ?_ | refine CallX_i (c1) ?_ | refine CallX_i (c2) ?_ | refine CallX_i (c3) ?_ | refine CallX_i (c4) ?_ | refine CondS_d (fun h => ?_) (fun h => ?_) | refine CondS_b (fun h => ?_) (fun h => ?_) | refine GrdS_d (fun h => ?_) (fun h => ?_) | refine GrdS_b (fun h => ?_) (fun h => ?_) | refine OkS_i (by omega) ?_ | fail)
def putL (l : List Ft) (f : Ft) : List Ft := if wSrc (pfS l f) = true then pfS l f else l.map Ft.fr
theorem hitF_eq {l : List Ft} {f : Ft} (h : wAtF l f.f0 < l.length) : hitF l f = decide (l[wAtF l f.f0].f0 = f.f0) := by unfold hitF; simp [h]
theorem hitF_end {l : List Ft} {f : Ft} (h : ¬ wAtF l f.f0 < l.length) : hitF l f = false := by unfold hitF; simp [h]
theorem pfS_len (l : List Ft) (f : Ft) : (pfS l f).length ≤ l.length + 1 := by
  have := wAtF_le l f.f0
  unfold pfS
  split <;> simp <;> omega
theorem pfS_ok {l : List Ft} {f : Ft} {p : Ft → Prop} (hl : ∀ x ∈ l, p x.fr) (he : p f.fr) : ∀ x ∈ pfS l f, p x := by
  intro x hx
  unfold pfS at hx
  rcases List.mem_append.1 hx with h | h
  · obtain ⟨y, hy, rfl⟩ := List.mem_map.1 h
    exact hl y (List.mem_of_mem_take hy)
  · rcases List.mem_cons.1 h with rfl | h
    · exact he
    · obtain ⟨y, hy, rfl⟩ := List.mem_map.1 h
      exact hl y (List.mem_of_mem_drop hy)
theorem f104 (l : List Ft) (e : Ft) (nl : Bool) (hl : l.length ≤ 1048576) (hb : ∀ x ∈ l, x.okay) (he : e.okay) (hp : ∀ x ∈ l, x.f4.length ≤ 1000000000) (hpe : e.f4.length ≤ 1000000000) :
    Fn Try.prog 104 true [.lst 5 nl (l.map ft), .agg (ft e)] (.tup [.lst 5 false ((putL l e).map ft), .bool (wSrc (pfS l e))]) := by
  have hk := wAtF_le l e.f0
  have hee : ft e = [i e.f0, i e.f1, i e.f2, .str e.f3, .lst 2 e.nl (e.f4.map cp)] := rfl
  have hef : ft e.fr = [i e.f0, i e.f1, i e.f2, .str e.f3, .lst 2 false (e.f4.map cp)] := rfl
  have cC := f103 l nl (by omega) hp
  have cO := f78 (pfS l e) false (by have := pfS_len l e; omega) (pfS_ok (p := fun x => x.okay) (fun x hx => hb x hx) he)
  have cE := f112 e hpe
  have cP := f103 (l.take (wAtF l e.f0)) nl (by simp; omega) (fun x hx => hp x (List.mem_of_mem_take hx))
  have cR : ∀ j, Fn Try.prog 103 true [.lst 5 nl ((l.map ft).drop j)] (.lst 5 false (((l.drop j).map Ft.fr).map ft)) := fun j => by
    have := f103 (l.drop j) nl (by simp; omega) (fun x hx => hp x (List.mem_of_mem_drop hx))
    rw [List.map_drop] at this
    exact this
  rw [List.map_take] at cP
  have hpl : (((l.take (wAtF l e.f0)).map Ft.fr).map ft).length = wAtF l e.f0 := by simp; omega
  rw [hee, hef] at cE
  rw [hee]
  have hR : (putL l e).map ft = if wSrc (pfS l e) = true then (pfS l e).map ft else (l.map Ft.fr).map ft := by unfold putL; split <;> rfl
  rw [hR]
  obtain ⟨b2, hb2⟩ : ∃ b, wSrc (pfS l e) = b := ⟨_, rfl⟩
  rw [hb2] at cO ⊢
  have hto : (pfS l e).map ft = ((l.take (wAtF l e.f0)).map Ft.fr).map ft ++ [i e.f0, i e.f1, i e.f2, .str e.f3, .lst 2 false (e.f4.map cp)] :: ((l.drop (if hitF l e = true then wAtF l e.f0 + 1 else wAtF l e.f0)).map Ft.fr).map ft := by
    unfold pfS; rw [List.map_append, List.map_cons, hef]
  rw [hto] at cO ⊢
  obtain ⟨P1, hP1⟩ : ∃ P, ((l.take (wAtF l e.f0)).map Ft.fr).map ft = P := ⟨_, rfl⟩
  rw [hP1] at cP cO hpl ⊢
  obtain ⟨C, hC⟩ : ∃ C, (l.map Ft.fr).map ft = C := ⟨_, rfl⟩
  rw [hC] at cC ⊢
  obtain ⟨j, hj⟩ : ∃ j, (if hitF l e = true then wAtF l e.f0 + 1 else wAtF l e.f0) = j := ⟨_, rfl⟩
  rw [hj] at cO ⊢
  have cR' := cR j
  obtain ⟨P2, hP2⟩ : ∃ P, ((l.drop j).map Ft.fr).map ft = P := ⟨_, rfl⟩
  rw [hP2] at cO cR' ⊢
  have hP2l : P2.length ≤ l.length := by rw [← hP2]; simp
  clear cR hP1 hP2 hC hto hb2 hb hp hR hef hee
  refine Fn.by_sx hX (by kernel_rfl) c104 (by kernel_rfl) (by rfl) ?_
  simp [i104, sx_skip, sx_ops, sx_seq, sx_cond, sx_block, sx_exit, sx_ret, sx_mcall, sx_mcallx, sx_mcell, sx_mset, sx_mnset, elAt, setEl, inAt, elIn, setIn, isLst, cellsOf, sxl_nil, sxl_set, sxl_call, sxl_callv, sxl_g1, sxl_g2, sxl_g3, sxl_g4, OkS_true, GrdS_tt, GrdS_tf, GrdS_ft, GrdS_ff, CondS_t, CondS_f, then_n, then_e, then_r, blk_n, blk_e, blk_r, upd_app, Ex.ok, Ex.val, Opd.val, POp.dst, bin_int, binOK_int, bin_str, binOK_str, resOK, resV, RB.val, sub, putc, scB, scL, oneB, conf, Ex.val.eqP, Ex.val.eqL, negV, mxV, mnV, ← wr_eq, wr_zero, wr_one, wr_m1, bst_lst, byteC, partsOK, putAll, appV, nilV, slV, sslV, optB, optNum, and_assoc, exists_and_left, exists_eq_left']
  refine sx_count (wAtF l e.f0) (fun n V => V 0 = .lst 5 nl (l.map ft) ∧ V 3 = .ptr [i e.f0, i e.f1, i e.f2, .str e.f3, .lst 2 e.nl (e.f4.map cp)] ∧ V 6 = i n) 0 (by omega) (by simp [sx_skip, sx_ops, sx_seq, sx_cond, sx_block, sx_exit, sx_ret, sx_mcall, sx_mcallx, sx_mcell, sx_mset, sx_mnset, elAt, setEl, inAt, elIn, setIn, isLst, cellsOf, sxl_nil, sxl_set, sxl_call, sxl_callv, sxl_g1, sxl_g2, sxl_g3, sxl_g4, OkS_true, GrdS_tt, GrdS_tf, GrdS_ft, GrdS_ff, CondS_t, CondS_f, then_n, then_e, then_r, blk_n, blk_e, blk_r, upd_app, Ex.ok, Ex.val, Opd.val, POp.dst, bin_int, binOK_int, bin_str, binOK_str, resOK, resV, RB.val, sub, putc, scB, scL, oneB, conf, Ex.val.eqP, Ex.val.eqL, negV, mxV, mnV, ← wr_eq, wr_zero, wr_one, wr_m1, bst_lst, byteC, partsOK, putAll, appV, nilV, slV, sslV, optB, optNum, and_assoc, exists_and_left, exists_eq_left']) ?_
  rintro n V hn ⟨h0, h3, h6⟩
  have hw : wr .i64 ((n : Int) + 1) = n + 1 := wr_in (by omega) (by omega)
  simp [sx_skip, sx_ops, sx_seq, sx_cond, sx_block, sx_exit, sx_ret, sx_mcall, sx_mcallx, sx_mcell, sx_mset, sx_mnset, elAt, setEl, inAt, elIn, setIn, isLst, cellsOf, sxl_nil, sxl_set, sxl_call, sxl_callv, sxl_g1, sxl_g2, sxl_g3, sxl_g4, OkS_true, GrdS_tt, GrdS_tf, GrdS_ft, GrdS_ff, CondS_t, CondS_f, then_n, then_e, then_r, blk_n, blk_e, blk_r, upd_app, Ex.ok, Ex.val, Opd.val, POp.dst, bin_int, binOK_int, bin_str, binOK_str, resOK, resV, RB.val, sub, putc, scB, scL, oneB, conf, Ex.val.eqP, Ex.val.eqL, negV, mxV, mnV, ← wr_eq, wr_zero, wr_one, wr_m1, bst_lst, byteC, partsOK, putAll, appV, nilV, slV, sslV, optB, optNum, and_assoc, exists_and_left, exists_eq_left', h0, h3, h6]
  rcases Nat.lt_or_ge n (wAtF l e.f0) with hlt | hge
  · have hlt' : n < l.length := by omega
    have hx := wAtF_lt hlt hlt'
    clear cC cO cE cP cR'
    repeat' (first | intro _ | (simp [sx_skip, sx_ops, sx_seq, sx_cond, sx_block, sx_exit, sx_ret, sx_mcall, sx_mcallx, sx_mcell, sx_mset, sx_mnset, elAt, setEl, inAt, elIn, setIn, isLst, cellsOf, sxl_nil, sxl_set, sxl_call, sxl_callv, sxl_g1, sxl_g2, sxl_g3, sxl_g4, OkS_true, GrdS_tt, GrdS_tf, GrdS_ft, GrdS_ff, CondS_t, CondS_f, then_n, then_e, then_r, blk_n, blk_e, blk_r, upd_app, Ex.ok, Ex.val, Opd.val, POp.dst, bin_int, binOK_int, bin_str, binOK_str, resOK, resV, RB.val, sub, putc, scB, scL, oneB, conf, Ex.val.eqP, Ex.val.eqL, negV, mxV, mnV, ← wr_eq, wr_zero, wr_one, wr_m1, bst_lst, byteC, partsOK, putAll, appV, nilV, slV, sslV, optB, optNum, and_assoc, exists_and_left, exists_eq_left', ft, *]) | refine CondS_d (fun h => ?_) (fun h => ?_) | refine CondS_b (fun h => ?_) (fun h => ?_) | refine GrdS_d (fun h => ?_) (fun h => ?_) | refine GrdS_b (fun h => ?_) (fun h => ?_) | refine OkS_i (by omega) ?_ | fail)
  obtain rfl : n = wAtF l e.f0 := by omega
  have hT1 : List.take l.length (List.map ft l) = List.map ft l := List.take_of_length_le (by simp)
  have hT2 : List.take (l.length - wAtF l e.f0) (List.drop (wAtF l e.f0) (List.map ft l)) = List.drop (wAtF l e.f0) (List.map ft l) := List.take_of_length_le (by simp)
  have hT3 : (List.drop (wAtF l e.f0) (List.map ft l)).tail = List.drop (wAtF l e.f0 + 1) (List.map ft l) := by rw [List.tail_drop]
  by_cases hlt' : wAtF l e.f0 < l.length
  · have hx := wAtF_stop hlt'
    have hpos : 0 < l.length - wAtF l e.f0 := by omega
    have hh := hitF_eq hlt'
    by_cases hid : l[wAtF l e.f0].f0 = e.f0
    · rw [hh, if_pos (by simp [hid])] at hj
      subst hj
      cases b2
      all_goals repeat' (first | intro _ | (simp [sx_skip, sx_ops, sx_seq, sx_cond, sx_block, sx_exit, sx_ret, sx_mcall, sx_mcallx, sx_mcell, sx_mset, sx_mnset, elAt, setEl, inAt, elIn, setIn, isLst, cellsOf, sxl_nil, sxl_set, sxl_call, sxl_callv, sxl_g1, sxl_g2, sxl_g3, sxl_g4, OkS_true, GrdS_tt, GrdS_tf, GrdS_ft, GrdS_ff, CondS_t, CondS_f, then_n, then_e, then_r, blk_n, blk_e, blk_r, upd_app, Ex.ok, Ex.val, Opd.val, POp.dst, bin_int, binOK_int, bin_str, binOK_str, resOK, resV, RB.val, sub, putc, scB, scL, oneB, conf, Ex.val.eqP, Ex.val.eqL, negV, mxV, mnV, ← wr_eq, wr_zero, wr_one, wr_m1, bst_lst, byteC, partsOK, putAll, appV, nilV, slV, sslV, optB, optNum, and_assoc, exists_and_left, exists_eq_left', ft, *]) | refine CallS_i (cP) ?_ | refine CallS_i (cE) ?_ | refine CallS_i (cR') ?_ | refine CallS_i (cO) ?_ | refine CallS_i (cC) ?_ | refine CallM_i (cP) ?_ | refine CallM_i (cE) ?_ | refine CallM_i (cR') ?_ | refine CallM_i (cO) ?_ | refine CallM_i (cC) ?_ | refine CallE_i (cP) ?_ | refine CallE_i (cE) ?_ | refine CallE_i (cR') ?_ | refine CallE_i (cO) ?_ | refine CallE_i (cC) ?_ | refine CallX_i (cP) ?_ | refine CallX_i (cE) ?_ | refine CallX_i (cR') ?_ | refine CallX_i (cO) ?_ | refine CallX_i (cC) ?_ | refine CondS_d (fun h => ?_) (fun h => ?_) | refine CondS_b (fun h => ?_) (fun h => ?_) | refine GrdS_d (fun h => ?_) (fun h => ?_) | refine GrdS_b (fun h => ?_) (fun h => ?_) | refine OkS_i (by omega) ?_ | fail)
      all_goals first | omega | simp_all
    · rw [hh, if_neg (by simp [hid])] at hj
      subst hj
      cases b2
      all_goals repeat' (first | intro _ | (simp [sx_skip, sx_ops, sx_seq, sx_cond, sx_block, sx_exit, sx_ret, sx_mcall, sx_mcallx, sx_mcell, sx_mset, sx_mnset, elAt, setEl, inAt, elIn, setIn, isLst, cellsOf, sxl_nil, sxl_set, sxl_call, sxl_callv, sxl_g1, sxl_g2, sxl_g3, sxl_g4, OkS_true, GrdS_tt, GrdS_tf, GrdS_ft, GrdS_ff, CondS_t, CondS_f, then_n, then_e, then_r, blk_n, blk_e, blk_r, upd_app, Ex.ok, Ex.val, Opd.val, POp.dst, bin_int, binOK_int, bin_str, binOK_str, resOK, resV, RB.val, sub, putc, scB, scL, oneB, conf, Ex.val.eqP, Ex.val.eqL, negV, mxV, mnV, ← wr_eq, wr_zero, wr_one, wr_m1, bst_lst, byteC, partsOK, putAll, appV, nilV, slV, sslV, optB, optNum, and_assoc, exists_and_left, exists_eq_left', ft, *]) | refine CallS_i (cP) ?_ | refine CallS_i (cE) ?_ | refine CallS_i (cR') ?_ | refine CallS_i (cO) ?_ | refine CallS_i (cC) ?_ | refine CallM_i (cP) ?_ | refine CallM_i (cE) ?_ | refine CallM_i (cR') ?_ | refine CallM_i (cO) ?_ | refine CallM_i (cC) ?_ | refine CallE_i (cP) ?_ | refine CallE_i (cE) ?_ | refine CallE_i (cR') ?_ | refine CallE_i (cO) ?_ | refine CallE_i (cC) ?_ | refine CallX_i (cP) ?_ | refine CallX_i (cE) ?_ | refine CallX_i (cR') ?_ | refine CallX_i (cO) ?_ | refine CallX_i (cC) ?_ | refine CondS_d (fun h => ?_) (fun h => ?_) | refine CondS_b (fun h => ?_) (fun h => ?_) | refine GrdS_d (fun h => ?_) (fun h => ?_) | refine GrdS_b (fun h => ?_) (fun h => ?_) | refine OkS_i (by omega) ?_ | fail)
      all_goals first | omega | simp_all
  · rw [hitF_end hlt', if_neg (by simp)] at hj
    subst hj
    have hz : l.length - wAtF l e.f0 = 0 := by omega
    cases b2
    all_goals repeat' (first | intro _ | (simp [sx_skip, sx_ops, sx_seq, sx_cond, sx_block, sx_exit, sx_ret, sx_mcall, sx_mcallx, sx_mcell, sx_mset, sx_mnset, elAt, setEl, inAt, elIn, setIn, isLst, cellsOf, sxl_nil, sxl_set, sxl_call, sxl_callv, sxl_g1, sxl_g2, sxl_g3, sxl_g4, OkS_true, GrdS_tt, GrdS_tf, GrdS_ft, GrdS_ff, CondS_t, CondS_f, then_n, then_e, then_r, blk_n, blk_e, blk_r, upd_app, Ex.ok, Ex.val, Opd.val, POp.dst, bin_int, binOK_int, bin_str, binOK_str, resOK, resV, RB.val, sub, putc, scB, scL, oneB, conf, Ex.val.eqP, Ex.val.eqL, negV, mxV, mnV, ← wr_eq, wr_zero, wr_one, wr_m1, bst_lst, byteC, partsOK, putAll, appV, nilV, slV, sslV, optB, optNum, and_assoc, exists_and_left, exists_eq_left', ft, *]) | refine CallS_i (cP) ?_ | refine CallS_i (cE) ?_ | refine CallS_i (cR') ?_ | refine CallS_i (cO) ?_ | refine CallS_i (cC) ?_ | refine CallM_i (cP) ?_ | refine CallM_i (cE) ?_ | refine CallM_i (cR') ?_ | refine CallM_i (cO) ?_ | refine CallM_i (cC) ?_ | refine CallE_i (cP) ?_ | refine CallE_i (cE) ?_ | refine CallE_i (cR') ?_ | refine CallE_i (cO) ?_ | refine CallE_i (cC) ?_ | refine CallX_i (cP) ?_ | refine CallX_i (cE) ?_ | refine CallX_i (cR') ?_ | refine CallX_i (cO) ?_ | refine CallX_i (cC) ?_ | refine CondS_d (fun h => ?_) (fun h => ?_) | refine CondS_b (fun h => ?_) (fun h => ?_) | refine GrdS_d (fun h => ?_) (fun h => ?_) | refine GrdS_b (fun h => ?_) (fun h => ?_) | refine OkS_i (by omega) ?_ | fail)
    all_goals first | omega | simp_all
theorem f105 (l : List Ft) (id : Int) (nl : Bool) (hl : l.length ≤ 1048576) (hb : ∀ x ∈ l, x.okay) (hp : ∀ x ∈ l, x.f4.length ≤ 1000000000) :
    Fn Try.prog 105 true [.lst 5 nl (l.map ft), i id] (.tup [.lst 5 false ((if (wSrc l && decide (0 ≤ wFind l id)) = true then tkF l id else l.map Ft.fr).map ft), .bool (wSrc l && decide (0 ≤ wFind l id))]) := by
  have cC := f103 l nl (by omega) hp
  have cL := f78 l nl (by omega) hb
  have cF := f111 l nl id (by omega)
  have hwb := wFind_bound l id
  have cP := f103 (l.take (wFind l id).toNat) nl (by simp; omega) (fun x hx => hp x (List.mem_of_mem_take hx))
  have cR := f103 (l.drop ((wFind l id).toNat + 1)) nl (by simp; omega) (fun x hx => hp x (List.mem_of_mem_drop hx))
  rw [List.map_take] at cP
  rw [List.map_drop] at cR
  have hto : (tkF l id).map ft = ((l.take (wFind l id).toNat).map Ft.fr).map ft ++ ((l.drop ((wFind l id).toNat + 1)).map Ft.fr).map ft := by unfold tkF; simp
  have hR : (if (wSrc l && decide (0 ≤ wFind l id)) = true then tkF l id else l.map Ft.fr).map ft = if (wSrc l && decide (0 ≤ wFind l id)) = true then (tkF l id).map ft else (l.map Ft.fr).map ft := by split <;> rfl
  rw [hR, hto]
  obtain ⟨b1, hb1⟩ : ∃ b, wSrc l = b := ⟨_, rfl⟩
  rw [hb1] at cL ⊢
  have hpl : (((l.take (wFind l id).toNat).map Ft.fr).map ft).length ≤ l.length := by simp; omega
  have hql : (((l.drop ((wFind l id).toNat + 1)).map Ft.fr).map ft).length ≤ l.length := by simp
  obtain ⟨P1, hP1⟩ : ∃ P, ((l.take (wFind l id).toNat).map Ft.fr).map ft = P := ⟨_, rfl⟩
  obtain ⟨P2, hP2⟩ : ∃ P, ((l.drop ((wFind l id).toNat + 1)).map Ft.fr).map ft = P := ⟨_, rfl⟩
  obtain ⟨C, hC⟩ : ∃ C, (l.map Ft.fr).map ft = C := ⟨_, rfl⟩
  rw [hP1] at cP hpl ⊢
  rw [hP2] at cR hql ⊢
  rw [hC] at cC ⊢
  clear hP1 hP2 hC hR hto hb hp hb1
  obtain ⟨w, hwe⟩ : ∃ w, wFind l id = w := ⟨_, rfl⟩
  rw [hwe] at cF cP cR hwb ⊢
  clear hwe
  refine Fn.by_sx hX (by kernel_rfl) c105 (by kernel_rfl) (by rfl) ?_
  simp [i105, sx_skip, sx_ops, sx_seq, sx_cond, sx_block, sx_exit, sx_ret, sx_mcall, sx_mcallx, sx_mcell, sx_mset, sx_mnset, elAt, setEl, inAt, elIn, setIn, isLst, cellsOf, sxl_nil, sxl_set, sxl_call, sxl_callv, sxl_g1, sxl_g2, sxl_g3, sxl_g4, OkS_true, GrdS_tt, GrdS_tf, GrdS_ft, GrdS_ff, CondS_t, CondS_f, then_n, then_e, then_r, blk_n, blk_e, blk_r, upd_app, Ex.ok, Ex.val, Opd.val, POp.dst, bin_int, binOK_int, bin_str, binOK_str, resOK, resV, RB.val, sub, putc, scB, scL, oneB, conf, Ex.val.eqP, Ex.val.eqL, negV, mxV, mnV, ← wr_eq, wr_zero, wr_one, wr_m1, bst_lst, byteC, partsOK, putAll, appV, nilV, slV, sslV, optB, optNum, and_assoc, exists_and_left, exists_eq_left']
  by_cases hneg : w < 0
  · have hnn : ¬ 0 ≤ w := by omega
    cases b1
    all_goals repeat' (first | intro _ | (simp [sx_skip, sx_ops, sx_seq, sx_cond, sx_block, sx_exit, sx_ret, sx_mcall, sx_mcallx, sx_mcell, sx_mset, sx_mnset, elAt, setEl, inAt, elIn, setIn, isLst, cellsOf, sxl_nil, sxl_set, sxl_call, sxl_callv, sxl_g1, sxl_g2, sxl_g3, sxl_g4, OkS_true, GrdS_tt, GrdS_tf, GrdS_ft, GrdS_ff, CondS_t, CondS_f, then_n, then_e, then_r, blk_n, blk_e, blk_r, upd_app, Ex.ok, Ex.val, Opd.val, POp.dst, bin_int, binOK_int, bin_str, binOK_str, resOK, resV, RB.val, sub, putc, scB, scL, oneB, conf, Ex.val.eqP, Ex.val.eqL, negV, mxV, mnV, ← wr_eq, wr_zero, wr_one, wr_m1, bst_lst, byteC, partsOK, putAll, appV, nilV, slV, sslV, optB, optNum, and_assoc, exists_and_left, exists_eq_left', *]) | refine CallS_i (cF) ?_ | refine CallS_i (cL) ?_ | refine CallS_i (cC) ?_ | refine CallM_i (cF) ?_ | refine CallM_i (cL) ?_ | refine CallM_i (cC) ?_ | refine CallE_i (cF) ?_ | refine CallE_i (cL) ?_ | refine CallE_i (cC) ?_ | refine CallX_i (cF) ?_ | refine CallX_i (cL) ?_ | refine CallX_i (cC) ?_ | refine CondS_d (fun h => ?_) (fun h => ?_) | refine CondS_b (fun h => ?_) (fun h => ?_) | refine GrdS_d (fun h => ?_) (fun h => ?_) | refine GrdS_b (fun h => ?_) (fun h => ?_) | refine OkS_i (by omega) ?_ | fail)
  · have hnn : 0 ≤ w := by omega
    obtain ⟨k, rfl⟩ : ∃ k : Nat, w = k := ⟨w.toNat, by omega⟩
    simp only [Int.toNat_natCast] at cP cR
    have hw : wr .i64 ((k : Int) + 1) = k + 1 := wr_in (by omega) (by omega)
    have hT1 : List.take l.length (List.map ft l) = List.map ft l := List.take_of_length_le (by simp)
    have hT2 : List.take (l.length - (k + 1)) (List.drop (k + 1) (List.map ft l)) = List.drop (k + 1) (List.map ft l) := List.take_of_length_le (by simp)
    have hkn : ((k : Int) + 1).toNat = k + 1 := by omega
    cases b1
    all_goals repeat' (first | intro _ | (simp [sx_skip, sx_ops, sx_seq, sx_cond, sx_block, sx_exit, sx_ret, sx_mcall, sx_mcallx, sx_mcell, sx_mset, sx_mnset, elAt, setEl, inAt, elIn, setIn, isLst, cellsOf, sxl_nil, sxl_set, sxl_call, sxl_callv, sxl_g1, sxl_g2, sxl_g3, sxl_g4, OkS_true, GrdS_tt, GrdS_tf, GrdS_ft, GrdS_ff, CondS_t, CondS_f, then_n, then_e, then_r, blk_n, blk_e, blk_r, upd_app, Ex.ok, Ex.val, Opd.val, POp.dst, bin_int, binOK_int, bin_str, binOK_str, resOK, resV, RB.val, sub, putc, scB, scL, oneB, conf, Ex.val.eqP, Ex.val.eqL, negV, mxV, mnV, ← wr_eq, wr_zero, wr_one, wr_m1, bst_lst, byteC, partsOK, putAll, appV, nilV, slV, sslV, optB, optNum, and_assoc, exists_and_left, exists_eq_left', *]) | refine CallS_i (cF) ?_ | refine CallS_i (cL) ?_ | refine CallS_i (cC) ?_ | refine CallS_i (cP) ?_ | refine CallS_i (cR) ?_ | refine CallM_i (cF) ?_ | refine CallM_i (cL) ?_ | refine CallM_i (cC) ?_ | refine CallM_i (cP) ?_ | refine CallM_i (cR) ?_ | refine CallE_i (cF) ?_ | refine CallE_i (cL) ?_ | refine CallE_i (cC) ?_ | refine CallE_i (cP) ?_ | refine CallE_i (cR) ?_ | refine CallX_i (cF) ?_ | refine CallX_i (cL) ?_ | refine CallX_i (cC) ?_ | refine CallX_i (cP) ?_ | refine CallX_i (cR) ?_ | refine CondS_d (fun h => ?_) (fun h => ?_) | refine CondS_b (fun h => ?_) (fun h => ?_) | refine GrdS_d (fun h => ?_) (fun h => ?_) | refine GrdS_b (fun h => ?_) (fun h => ?_) | refine OkS_i (by omega) ?_ | fail)
    all_goals first | omega | simp_all
end Go.Eng
namespace Go.Eng
open Go Go.Proofs Go.Shelf
set_option linter.unusedSimpArgs false
set_option linter.unusedVariables false
set_option maxRecDepth 20000
set_option maxHeartbeats 1000000

/-! slices.Insert, slices.Delete -/
def rho155 : Ren := rhoI 155 185 186 28 47
theorem L155 : InsL Try.prog rho155 5 64 (zvOf Try.prog 47) where
  mixed := by kernel_rfl
  f22 := ⟨fnm Try.prog 155, by kernel_rfl, by kernel_rfl⟩
  f29 := fun args w => by
    rw [run_callFunc_extern (f := rho155.f 29) (fn := { Body2.n29 rho155 with name := fnm Try.prog 185 }) (by kernel_rfl) (by kernel_rfl) (by kernel_rfl) (by kernel_rfl) (e := Extern.SlicesOverlaps.overlaps #[(rho155.t 24), (rho155.t 24)] #[(rho155.t 4)]) (by kernel_rfl)]
  t0 := by kernel_rfl
  a0 := fun _ => by kernel_rfl
  z0 := fun _ => by kernel_rfl
  v0 := fun _ => by kernel_rfl
  t3 := by kernel_rfl
  a3 := fun _ => by kernel_rfl
  z3 := fun _ => by kernel_rfl
  v3 := fun _ => by kernel_rfl
  t4 := by kernel_rfl
  a4 := fun _ => by kernel_rfl
  z4 := fun _ => by kernel_rfl
  v4 := fun _ => by kernel_rfl
  z9 := fun _ => by kernel_rfl
  t24 := by kernel_rfl
  a24 := fun _ => by kernel_rfl
  z24 := fun _ => by kernel_rfl
  v24 := fun _ => by kernel_rfl
  i9 := by kernel_rfl
  hz := by omega
  hzc := by kernel_rfl
theorem f155 {nl : Bool} {els : List (List PV)} {v : List PV} {k : Nat} (hi : k ≤ els.length)
    (h63 : els.length + 1 ≤ 70368744177664) (hbig : (els.length + 1) * 64 ≤ 140737488355328) :
    FnX Try.prog 155 [.lst 5 nl els, i k, .lst 5 false [v]] (.lst 5 false (els.take k ++ v :: els.drop k)) := ins_X L155 (by kernel_rfl) hi h63 hbig
def rho156 : Ren := rhoD 156 28 47
theorem L156 : DelL Try.prog rho156 5 64 (zvOf Try.prog 47) where
  mixed := by kernel_rfl
  f24 := ⟨fnm Try.prog 156, by kernel_rfl, by kernel_rfl⟩
  t0 := by kernel_rfl
  a0 := fun _ => by kernel_rfl
  z0 := fun _ => by kernel_rfl
  v0 := fun _ => by kernel_rfl
  t3 := by kernel_rfl
  a3 := fun _ => by kernel_rfl
  z3 := fun _ => by kernel_rfl
  v3 := fun _ => by kernel_rfl
  t4 := by kernel_rfl
  a4 := fun _ => by kernel_rfl
  z4 := fun _ => by kernel_rfl
  v4 := fun _ => by kernel_rfl
  z9 := fun _ => by kernel_rfl
  v9 := fun _ => by kernel_rfl
  t24 := by kernel_rfl
  a24 := fun _ => by kernel_rfl
  z24 := fun _ => by kernel_rfl
  v24 := fun _ => by kernel_rfl
  i9 := by kernel_rfl
  hz := by omega
  hzc := by kernel_rfl
  h1 := by kernel_rfl
theorem f156 {nl : Bool} {els : List (List PV)} {k : Nat} (hi : k < els.length) (h63 : els.length ≤ 70368744177664) :
    FnX Try.prog 156 [.lst 5 nl els, i k, i ((k : Int) + 1)] (.lst 5 false (els.take k ++ els.drop (k + 1))) := del_X L156 (by kernel_rfl) hi h63
end Go.Eng
namespace Go.Eng
open Go Go.Proofs Geo
set_option linter.unusedSimpArgs false
set_option linter.unusedVariables false
set_option maxRecDepth 20000
set_option maxHeartbeats 1000000

/-! features put and taken in place. WRITES -/
theorem pfI_len (l : List Ft) (f : Ft) : (pfI l f).length ≤ l.length + 1 := by
  have := wAtF_le l f.f0
  unfold pfI
  split <;> simp <;> omega
theorem pfI_ok {l : List Ft} {f : Ft} {p : Ft → Prop} (hl : ∀ x ∈ l, p x.fr) (he : p f.fr) : ∀ x ∈ pfI l f, p x := by
  have h1 : ∀ x ∈ l.map Ft.fr, p x := fun x hx => by
    obtain ⟨y, hy, rfl⟩ := List.mem_map.1 hx
    exact hl y hy
  intro x hx
  unfold pfI at hx
  split at hx
  · rcases List.mem_or_eq_of_mem_set hx with h | rfl
    · exact h1 x h
    · exact he
  · rcases List.mem_append.1 hx with h | h
    · exact h1 x (List.mem_of_mem_take h)
    · rcases List.mem_cons.1 h with rfl | h
      · exact he
      · exact h1 x (List.mem_of_mem_drop h)
theorem f107 (l : List Ft) (e : Ft) (nl : Bool) (hl : l.length ≤ 1048576) (hb : ∀ x ∈ l, x.okay) (he : e.okay) (hp : ∀ x ∈ l, x.f4.length ≤ 1000000000) (hpe : e.f4.length ≤ 1000000000)
    (hn : ∀ x ∈ l, x.nl = false) (hne : e.nl = false) :
    Fn Try.prog 107 true [.lst 5 nl (l.map ft), .agg (ft e)] (.tup [.lst 5 false ((putL l e).map ft), .bool (wSrc (pfS l e))]) := by
  have hk := wAtF_le l e.f0
  have hee : ft e = [i e.f0, i e.f1, i e.f2, .str e.f3, .lst 2 false (e.f4.map cp)] := by unfold ft; rw [hne]
  have hef : ft e.fr = [i e.f0, i e.f1, i e.f2, .str e.f3, .lst 2 false (e.f4.map cp)] := rfl
  have cC := f110 l nl (by omega) hp hn
  have cO := f40 (pfI l e) false (by have := pfI_len l e; omega) (pfI_ok (p := fun x => x.okay) (fun x hx => hb x hx) he)
  have cE := f90 e hne hpe
  have cF := f113 l nl e.f0 (by omega)
  have hwb := wFind_bound l e.f0
  rw [hee, hef] at cE
  rw [hee]
  obtain ⟨hw1, hw2⟩ := pf_wSrc l e
  have hR : (putL l e).map ft = if wSrc (pfS l e) = true then (pfI l e).map ft else (l.map Ft.fr).map ft := by
    unfold putL
    split
    · rename_i h; rw [hw2 h]
    · rfl
  rw [hR]
  obtain ⟨b2, hb2⟩ : ∃ b, wSrc (pfS l e) = b := ⟨_, rfl⟩
  rw [hw1, hb2] at cO
  rw [hb2]
  have hto : (pfI l e).map ft = if 0 ≤ wFind l e.f0 then ((l.map Ft.fr).map ft).set (wFind l e.f0).toNat (ft e.fr) else ((l.map Ft.fr).map ft).take (wAtF l e.f0) ++ ft e.fr :: ((l.map Ft.fr).map ft).drop (wAtF l e.f0) := by
    unfold pfI
    split
    · rw [List.map_set]
    · rw [List.map_append, List.map_cons, List.map_take, List.map_drop]
  rw [hef] at hto
  obtain ⟨T, hT⟩ : ∃ T, (pfI l e).map ft = T := ⟨_, rfl⟩
  rw [hT] at cO hto ⊢
  obtain ⟨C, hC⟩ : ∃ C, (l.map Ft.fr).map ft = C := ⟨_, rfl⟩
  rw [hC] at cC hto ⊢
  have hCl : C.length = l.length := by rw [← hC]; simp
  have hC5 : ∀ cs ∈ C, cs.length = 5 := fun cs hcs => by
    rw [← hC] at hcs
    obtain ⟨y, _, rfl⟩ := List.mem_map.1 hcs
    rfl
  clear hw1 hw2 hR hb2 hT hC hef hee hb hp hn
  obtain ⟨w, hwe⟩ : ∃ w, wFind l e.f0 = w := ⟨_, rfl⟩
  rw [hwe] at cF hwb hto
  clear hwe
  refine Fn.by_sx hX (by kernel_rfl) c107 (by kernel_rfl) (by rfl) ?_
  simp [i107, sx_skip, sx_ops, sx_seq, sx_cond, sx_block, sx_exit, sx_ret, sx_mcall, sx_mcallx, sx_mcell, sx_mset, sx_mnset, elAt, setEl, inAt, elIn, setIn, isLst, cellsOf, sxl_nil, sxl_set, sxl_call, sxl_callv, sxl_g1, sxl_g2, sxl_g3, sxl_g4, OkS_true, GrdS_tt, GrdS_tf, GrdS_ft, GrdS_ff, CondS_t, CondS_f, then_n, then_e, then_r, blk_n, blk_e, blk_r, upd_app, Ex.ok, Ex.val, Opd.val, POp.dst, bin_int, binOK_int, bin_str, binOK_str, resOK, resV, RB.val, sub, putc, scB, scL, oneB, conf, Ex.val.eqP, Ex.val.eqL, negV, mxV, mnV, ← wr_eq, wr_zero, wr_one, wr_m1, bst_lst, byteC, partsOK, putAll, appV, nilV, slV, sslV, optB, optNum, and_assoc, exists_and_left, exists_eq_left']
  by_cases hneg : 0 ≤ w
  · obtain ⟨k, rfl⟩ : ∃ k : Nat, w = k := ⟨w.toNat, by omega⟩
    rw [if_pos hneg, Int.toNat_natCast] at hto
    replace hto := hto.symm
    have hkC : k < C.length := by omega
    have hkl : k < l.length := by omega
    have hd5 : List.drop 5 C[k] = [] := List.drop_of_length_le (by rw [hC5 _ (List.getElem_mem hkC)]; omega)
    clear hC5
    cases b2
    all_goals repeat' (first | intro _ | (simp [sx_skip, sx_ops, sx_seq, sx_cond, sx_block, sx_exit, sx_ret, sx_mcall, sx_mcallx, sx_mcell, sx_mset, sx_mnset, elAt, setEl, inAt, elIn, setIn, isLst, cellsOf, sxl_nil, sxl_set, sxl_call, sxl_callv, sxl_g1, sxl_g2, sxl_g3, sxl_g4, OkS_true, GrdS_tt, GrdS_tf, GrdS_ft, GrdS_ff, CondS_t, CondS_f, then_n, then_e, then_r, blk_n, blk_e, blk_r, upd_app, Ex.ok, Ex.val, Opd.val, POp.dst, bin_int, binOK_int, bin_str, binOK_str, resOK, resV, RB.val, sub, putc, scB, scL, oneB, conf, Ex.val.eqP, Ex.val.eqL, negV, mxV, mnV, ← wr_eq, wr_zero, wr_one, wr_m1, bst_lst, byteC, partsOK, putAll, appV, nilV, slV, sslV, optB, optNum, and_assoc, exists_and_left, exists_eq_left', *]) | refine CallS_i (cC) ?_ | refine CallS_i (cF) ?_ | refine CallS_i (cE) ?_ | refine CallS_i (cO) ?_ | refine CallM_i (cC) ?_ | refine CallM_i (cF) ?_ | refine CallM_i (cE) ?_ | refine CallM_i (cO) ?_ | refine CallE_i (cC) ?_ | refine CallE_i (cF) ?_ | refine CallE_i (cE) ?_ | refine CallE_i (cO) ?_ | refine CallX_i (cC) ?_ | refine CallX_i (cF) ?_ | refine CallX_i (cE) ?_ | refine CallX_i (cO) ?_ | refine CondS_d (fun h => ?_) (fun h => ?_) | refine CondS_b (fun h => ?_) (fun h => ?_) | refine GrdS_d (fun h => ?_) (fun h => ?_) | refine GrdS_b (fun h => ?_) (fun h => ?_) | refine OkS_i (by omega) ?_ | fail)
    all_goals first | omega | simp_all
  rw [if_neg hneg] at hto
  replace hto := hto.symm
  clear hC5
  repeat' (first | intro _ | (simp [sx_skip, sx_ops, sx_seq, sx_cond, sx_block, sx_exit, sx_ret, sx_mcall, sx_mcallx, sx_mcell, sx_mset, sx_mnset, elAt, setEl, inAt, elIn, setIn, isLst, cellsOf, sxl_nil, sxl_set, sxl_call, sxl_callv, sxl_g1, sxl_g2, sxl_g3, sxl_g4, OkS_true, GrdS_tt, GrdS_tf, GrdS_ft, GrdS_ff, CondS_t, CondS_f, then_n, then_e, then_r, blk_n, blk_e, blk_r, upd_app, Ex.ok, Ex.val, Opd.val, POp.dst, bin_int, binOK_int, bin_str, binOK_str, resOK, resV, RB.val, sub, putc, scB, scL, oneB, conf, Ex.val.eqP, Ex.val.eqL, negV, mxV, mnV, ← wr_eq, wr_zero, wr_one, wr_m1, bst_lst, byteC, partsOK, putAll, appV, nilV, slV, sslV, optB, optNum, and_assoc, exists_and_left, exists_eq_left', *]) | refine CallS_i (cC) ?_ | refine CallS_i (cF) ?_ | refine CallM_i (cC) ?_ | refine CallM_i (cF) ?_ | refine CallE_i (cC) ?_ | refine CallE_i (cF) ?_ | refine CallX_i (cC) ?_ | refine CallX_i (cF) ?_ | refine CondS_d (fun h => ?_) (fun h => ?_) | refine CondS_b (fun h => ?_) (fun h => ?_) | refine GrdS_d (fun h => ?_) (fun h => ?_) | refine GrdS_b (fun h => ?_) (fun h => ?_) | refine OkS_i (by omega) ?_ | fail)
  refine sx_count (wAtF l e.f0) (fun n V => V 0 = .lst 5 nl (l.map ft) ∧ V 3 = .ptr [i e.f0, i e.f1, i e.f2, .str e.f3, .lst 2 false (e.f4.map cp)] ∧ V 6 = .lst 5 false C ∧ V 8 = i n) 0 (by omega) (by simp [sx_skip, sx_ops, sx_seq, sx_cond, sx_block, sx_exit, sx_ret, sx_mcall, sx_mcallx, sx_mcell, sx_mset, sx_mnset, elAt, setEl, inAt, elIn, setIn, isLst, cellsOf, sxl_nil, sxl_set, sxl_call, sxl_callv, sxl_g1, sxl_g2, sxl_g3, sxl_g4, OkS_true, GrdS_tt, GrdS_tf, GrdS_ft, GrdS_ff, CondS_t, CondS_f, then_n, then_e, then_r, blk_n, blk_e, blk_r, upd_app, Ex.ok, Ex.val, Opd.val, POp.dst, bin_int, binOK_int, bin_str, binOK_str, resOK, resV, RB.val, sub, putc, scB, scL, oneB, conf, Ex.val.eqP, Ex.val.eqL, negV, mxV, mnV, ← wr_eq, wr_zero, wr_one, wr_m1, bst_lst, byteC, partsOK, putAll, appV, nilV, slV, sslV, optB, optNum, and_assoc, exists_and_left, exists_eq_left']) ?_
  rintro n V hn ⟨h0, h3, h6, h8⟩
  have hw : wr .i64 ((n : Int) + 1) = n + 1 := wr_in (by omega) (by omega)
  simp [sx_skip, sx_ops, sx_seq, sx_cond, sx_block, sx_exit, sx_ret, sx_mcall, sx_mcallx, sx_mcell, sx_mset, sx_mnset, elAt, setEl, inAt, elIn, setIn, isLst, cellsOf, sxl_nil, sxl_set, sxl_call, sxl_callv, sxl_g1, sxl_g2, sxl_g3, sxl_g4, OkS_true, GrdS_tt, GrdS_tf, GrdS_ft, GrdS_ff, CondS_t, CondS_f, then_n, then_e, then_r, blk_n, blk_e, blk_r, upd_app, Ex.ok, Ex.val, Opd.val, POp.dst, bin_int, binOK_int, bin_str, binOK_str, resOK, resV, RB.val, sub, putc, scB, scL, oneB, conf, Ex.val.eqP, Ex.val.eqL, negV, mxV, mnV, ← wr_eq, wr_zero, wr_one, wr_m1, bst_lst, byteC, partsOK, putAll, appV, nilV, slV, sslV, optB, optNum, and_assoc, exists_and_left, exists_eq_left', h0, h3, h8]
  rcases Nat.lt_or_ge n (wAtF l e.f0) with hlt | hge
  · have hlt' : n < l.length := by omega
    have hx := wAtF_lt hlt hlt'
    clear cC cO cE cF hto
    repeat' (first | intro _ | (simp [sx_skip, sx_ops, sx_seq, sx_cond, sx_block, sx_exit, sx_ret, sx_mcall, sx_mcallx, sx_mcell, sx_mset, sx_mnset, elAt, setEl, inAt, elIn, setIn, isLst, cellsOf, sxl_nil, sxl_set, sxl_call, sxl_callv, sxl_g1, sxl_g2, sxl_g3, sxl_g4, OkS_true, GrdS_tt, GrdS_tf, GrdS_ft, GrdS_ff, CondS_t, CondS_f, then_n, then_e, then_r, blk_n, blk_e, blk_r, upd_app, Ex.ok, Ex.val, Opd.val, POp.dst, bin_int, binOK_int, bin_str, binOK_str, resOK, resV, RB.val, sub, putc, scB, scL, oneB, conf, Ex.val.eqP, Ex.val.eqL, negV, mxV, mnV, ← wr_eq, wr_zero, wr_one, wr_m1, bst_lst, byteC, partsOK, putAll, appV, nilV, slV, sslV, optB, optNum, and_assoc, exists_and_left, exists_eq_left', ft, *]) | refine CondS_d (fun h => ?_) (fun h => ?_) | refine CondS_b (fun h => ?_) (fun h => ?_) | refine GrdS_d (fun h => ?_) (fun h => ?_) | refine GrdS_b (fun h => ?_) (fun h => ?_) | refine OkS_i (by omega) ?_ | fail)
  obtain rfl : n = wAtF l e.f0 := by omega
  have hI := f155 (nl := false) (els := C) (v := [i e.f0, i e.f1, i e.f2, .str e.f3, .lst 2 false (e.f4.map cp)]) (k := wAtF l e.f0) (by omega) (by omega) (by omega)
  rw [hto] at hI
  clear hto
  by_cases hlt' : wAtF l e.f0 < l.length
  · have hx := wAtF_stop hlt'
    cases b2
    all_goals repeat' (first | intro _ | (simp [sx_skip, sx_ops, sx_seq, sx_cond, sx_block, sx_exit, sx_ret, sx_mcall, sx_mcallx, sx_mcell, sx_mset, sx_mnset, elAt, setEl, inAt, elIn, setIn, isLst, cellsOf, sxl_nil, sxl_set, sxl_call, sxl_callv, sxl_g1, sxl_g2, sxl_g3, sxl_g4, OkS_true, GrdS_tt, GrdS_tf, GrdS_ft, GrdS_ff, CondS_t, CondS_f, then_n, then_e, then_r, blk_n, blk_e, blk_r, upd_app, Ex.ok, Ex.val, Opd.val, POp.dst, bin_int, binOK_int, bin_str, binOK_str, resOK, resV, RB.val, sub, putc, scB, scL, oneB, conf, Ex.val.eqP, Ex.val.eqL, negV, mxV, mnV, ← wr_eq, wr_zero, wr_one, wr_m1, bst_lst, byteC, partsOK, putAll, appV, nilV, slV, sslV, optB, optNum, and_assoc, exists_and_left, exists_eq_left', ft, *]) | refine CallS_i (cE) ?_ | refine CallS_i (hI) ?_ | refine CallS_i (cO) ?_ | refine CallS_i (cC) ?_ | refine CallM_i (cE) ?_ | refine CallM_i (hI) ?_ | refine CallM_i (cO) ?_ | refine CallM_i (cC) ?_ | refine CallE_i (cE) ?_ | refine CallE_i (hI) ?_ | refine CallE_i (cO) ?_ | refine CallE_i (cC) ?_ | refine CallX_i (cE) ?_ | refine CallX_i (hI) ?_ | refine CallX_i (cO) ?_ | refine CallX_i (cC) ?_ | refine CondS_d (fun h => ?_) (fun h => ?_) | refine CondS_b (fun h => ?_) (fun h => ?_) | refine GrdS_d (fun h => ?_) (fun h => ?_) | refine GrdS_b (fun h => ?_) (fun h => ?_) | refine OkS_i (by omega) ?_ | fail)
    all_goals first | omega | simp_all
  · cases b2
    all_goals repeat' (first | intro _ | (simp [sx_skip, sx_ops, sx_seq, sx_cond, sx_block, sx_exit, sx_ret, sx_mcall, sx_mcallx, sx_mcell, sx_mset, sx_mnset, elAt, setEl, inAt, elIn, setIn, isLst, cellsOf, sxl_nil, sxl_set, sxl_call, sxl_callv, sxl_g1, sxl_g2, sxl_g3, sxl_g4, OkS_true, GrdS_tt, GrdS_tf, GrdS_ft, GrdS_ff, CondS_t, CondS_f, then_n, then_e, then_r, blk_n, blk_e, blk_r, upd_app, Ex.ok, Ex.val, Opd.val, POp.dst, bin_int, binOK_int, bin_str, binOK_str, resOK, resV, RB.val, sub, putc, scB, scL, oneB, conf, Ex.val.eqP, Ex.val.eqL, negV, mxV, mnV, ← wr_eq, wr_zero, wr_one, wr_m1, bst_lst, byteC, partsOK, putAll, appV, nilV, slV, sslV, optB, optNum, and_assoc, exists_and_left, exists_eq_left', ft, *]) | refine CallS_i (cE) ?_ | refine CallS_i (hI) ?_ | refine CallS_i (cO) ?_ | refine CallS_i (cC) ?_ | refine CallM_i (cE) ?_ | refine CallM_i (hI) ?_ | refine CallM_i (cO) ?_ | refine CallM_i (cC) ?_ | refine CallE_i (cE) ?_ | refine CallE_i (hI) ?_ | refine CallE_i (cO) ?_ | refine CallE_i (cC) ?_ | refine CallX_i (cE) ?_ | refine CallX_i (hI) ?_ | refine CallX_i (cO) ?_ | refine CallX_i (cC) ?_ | refine CondS_d (fun h => ?_) (fun h => ?_) | refine CondS_b (fun h => ?_) (fun h => ?_) | refine GrdS_d (fun h => ?_) (fun h => ?_) | refine GrdS_b (fun h => ?_) (fun h => ?_) | refine OkS_i (by omega) ?_ | fail)
    all_goals first | omega | simp_all
theorem f108 (l : List Ft) (id : Int) (nl : Bool) (hl : l.length ≤ 1048576) (hb : ∀ x ∈ l, x.okay) (hp : ∀ x ∈ l, x.f4.length ≤ 1000000000) (hn : ∀ x ∈ l, x.nl = false) :
    Fn Try.prog 108 true [.lst 5 nl (l.map ft), i id] (.tup [.lst 5 false ((if (wSrc l && decide (0 ≤ wFind l id)) = true then tkF l id else l.map Ft.fr).map ft), .bool (wSrc l && decide (0 ≤ wFind l id))]) := by
  have cC := f110 l nl (by omega) hp hn
  have cL := f40 l nl (by omega) hb
  have cF := f113 l nl id (by omega)
  have hwb := wFind_bound l id
  have hto : (tkF l id).map ft = ((l.map Ft.fr).map ft).take (wFind l id).toNat ++ ((l.map Ft.fr).map ft).drop ((wFind l id).toNat + 1) := by unfold tkF; simp
  have hR : (if (wSrc l && decide (0 ≤ wFind l id)) = true then tkF l id else l.map Ft.fr).map ft = if (wSrc l && decide (0 ≤ wFind l id)) = true then (tkF l id).map ft else (l.map Ft.fr).map ft := by split <;> rfl
  rw [hR]
  obtain ⟨b1, hb1⟩ : ∃ b, wSrc l = b := ⟨_, rfl⟩
  rw [hb1] at cL ⊢
  obtain ⟨C, hC⟩ : ∃ C, (l.map Ft.fr).map ft = C := ⟨_, rfl⟩
  obtain ⟨T, hT⟩ : ∃ T, (tkF l id).map ft = T := ⟨_, rfl⟩
  rw [hC] at cC hto ⊢
  rw [hT] at hto ⊢
  have hCl : C.length = l.length := by rw [← hC]; simp
  clear hC hT hR hb hp hb1 hn
  obtain ⟨w, hwe⟩ : ∃ w, wFind l id = w := ⟨_, rfl⟩
  rw [hwe] at cF hwb hto ⊢
  clear hwe
  refine Fn.by_sx hX (by kernel_rfl) c108 (by kernel_rfl) (by rfl) ?_
  simp [i108, sx_skip, sx_ops, sx_seq, sx_cond, sx_block, sx_exit, sx_ret, sx_mcall, sx_mcallx, sx_mcell, sx_mset, sx_mnset, elAt, setEl, inAt, elIn, setIn, isLst, cellsOf, sxl_nil, sxl_set, sxl_call, sxl_callv, sxl_g1, sxl_g2, sxl_g3, sxl_g4, OkS_true, GrdS_tt, GrdS_tf, GrdS_ft, GrdS_ff, CondS_t, CondS_f, then_n, then_e, then_r, blk_n, blk_e, blk_r, upd_app, Ex.ok, Ex.val, Opd.val, POp.dst, bin_int, binOK_int, bin_str, binOK_str, resOK, resV, RB.val, sub, putc, scB, scL, oneB, conf, Ex.val.eqP, Ex.val.eqL, negV, mxV, mnV, ← wr_eq, wr_zero, wr_one, wr_m1, bst_lst, byteC, partsOK, putAll, appV, nilV, slV, sslV, optB, optNum, and_assoc, exists_and_left, exists_eq_left']
  by_cases hneg : w < 0
  · have hnn : ¬ 0 ≤ w := by omega
    cases b1
    all_goals repeat' (first | intro _ | (simp [sx_skip, sx_ops, sx_seq, sx_cond, sx_block, sx_exit, sx_ret, sx_mcall, sx_mcallx, sx_mcell, sx_mset, sx_mnset, elAt, setEl, inAt, elIn, setIn, isLst, cellsOf, sxl_nil, sxl_set, sxl_call, sxl_callv, sxl_g1, sxl_g2, sxl_g3, sxl_g4, OkS_true, GrdS_tt, GrdS_tf, GrdS_ft, GrdS_ff, CondS_t, CondS_f, then_n, then_e, then_r, blk_n, blk_e, blk_r, upd_app, Ex.ok, Ex.val, Opd.val, POp.dst, bin_int, binOK_int, bin_str, binOK_str, resOK, resV, RB.val, sub, putc, scB, scL, oneB, conf, Ex.val.eqP, Ex.val.eqL, negV, mxV, mnV, ← wr_eq, wr_zero, wr_one, wr_m1, bst_lst, byteC, partsOK, putAll, appV, nilV, slV, sslV, optB, optNum, and_assoc, exists_and_left, exists_eq_left', *]) | refine CallS_i (cF) ?_ | refine CallS_i (cL) ?_ | refine CallS_i (cC) ?_ | refine CallM_i (cF) ?_ | refine CallM_i (cL) ?_ | refine CallM_i (cC) ?_ | refine CallE_i (cF) ?_ | refine CallE_i (cL) ?_ | refine CallE_i (cC) ?_ | refine CallX_i (cF) ?_ | refine CallX_i (cL) ?_ | refine CallX_i (cC) ?_ | refine CondS_d (fun h => ?_) (fun h => ?_) | refine CondS_b (fun h => ?_) (fun h => ?_) | refine GrdS_d (fun h => ?_) (fun h => ?_) | refine GrdS_b (fun h => ?_) (fun h => ?_) | refine OkS_i (by omega) ?_ | fail)
  · have hnn : 0 ≤ w := by omega
    obtain ⟨k, rfl⟩ : ∃ k : Nat, w = k := ⟨w.toNat, by omega⟩
    have hw : wr .i64 ((k : Int) + 1) = k + 1 := wr_in (by omega) (by omega)
    have hD := f156 (nl := false) (els := C) (k := k) (by omega) (by omega)
    rw [Int.toNat_natCast] at hto
    rw [← hto] at hD
    clear hto
    cases b1
    all_goals repeat' (first | intro _ | (simp [sx_skip, sx_ops, sx_seq, sx_cond, sx_block, sx_exit, sx_ret, sx_mcall, sx_mcallx, sx_mcell, sx_mset, sx_mnset, elAt, setEl, inAt, elIn, setIn, isLst, cellsOf, sxl_nil, sxl_set, sxl_call, sxl_callv, sxl_g1, sxl_g2, sxl_g3, sxl_g4, OkS_true, GrdS_tt, GrdS_tf, GrdS_ft, GrdS_ff, CondS_t, CondS_f, then_n, then_e, then_r, blk_n, blk_e, blk_r, upd_app, Ex.ok, Ex.val, Opd.val, POp.dst, bin_int, binOK_int, bin_str, binOK_str, resOK, resV, RB.val, sub, putc, scB, scL, oneB, conf, Ex.val.eqP, Ex.val.eqL, negV, mxV, mnV, ← wr_eq, wr_zero, wr_one, wr_m1, bst_lst, byteC, partsOK, putAll, appV, nilV, slV, sslV, optB, optNum, and_assoc, exists_and_left, exists_eq_left', *]) | refine CallS_i (cF) ?_ | refine CallS_i (cL) ?_ | refine CallS_i (cC) ?_ | refine CallS_i (hD) ?_ | refine CallM_i (cF) ?_ | refine CallM_i (cL) ?_ | refine CallM_i (cC) ?_ | refine CallM_i (hD) ?_ | refine CallE_i (cF) ?_ | refine CallE_i (cL) ?_ | refine CallE_i (cC) ?_ | refine CallE_i (hD) ?_ | refine CallX_i (cF) ?_ | refine CallX_i (cL) ?_ | refine CallX_i (cC) ?_ | refine CallX_i (hD) ?_ | refine CondS_d (fun h => ?_) (fun h => ?_) | refine CondS_b (fun h => ?_) (fun h => ?_) | refine GrdS_d (fun h => ?_) (fun h => ?_) | refine GrdS_b (fun h => ?_) (fun h => ?_) | refine OkS_i (by omega) ?_ | fail)
    all_goals first | omega | simp_all
end Go.Eng
namespace Go.Eng
open Go Go.Proofs Geo Go.RowKit
set_option linter.unusedSimpArgs false
set_option linter.unusedVariables false
set_option maxRecDepth 20000
set_option maxHeartbeats 1000000

/-! a feature is moved. WRITES -/
def mvN (dx dy : Int) : List Pt → Nat
  | [] => 0
  | p :: r => if mvOK p dx dy = true then mvN dx dy r + 1 else 0
theorem mvN_le (dx dy : Int) : ∀ l : List Pt, mvN dx dy l ≤ l.length
  | [] => Nat.le_refl _
  | p :: r => by have := mvN_le dx dy r; unfold mvN; split <;> simp <;> omega
theorem mvN_lt {dx dy : Int} : ∀ {l : List Pt} {n : Nat} (hn : n < mvN dx dy l) (h : n < l.length), mvOK l[n] dx dy = true
  | [], _, _, h => by simp at h
  | p :: r, 0, hn, h => by
    unfold mvN at hn
    split at hn
    · assumption
    · omega
  | p :: r, n + 1, hn, h => by
    unfold mvN at hn
    split at hn
    · exact mvN_lt (l := r) (n := n) (by omega) (by simpa using h)
    · omega
theorem mvN_stop {dx dy : Int} : ∀ {l : List Pt} (h : mvN dx dy l < l.length), mvOK l[mvN dx dy l] dx dy = false
  | [], h => by simp at h
  | p :: r, h => by
    by_cases hx : mvOK p dx dy = true
    · have e : mvN dx dy (p :: r) = mvN dx dy r + 1 := by simp [mvN, hx]
      simp only [e, List.getElem_cons_succ]
      exact mvN_stop (l := r) (by rw [e] at h; simpa using h)
    · have e : mvN dx dy (p :: r) = 0 := by simp [mvN, hx]
      simp only [e, List.getElem_cons_zero]
      simpa using hx
def mvTo (dx dy : Int) (l : List Pt) (n : Nat) : List Pt := (l.take n).map (fun p => mv p dx dy) ++ l.drop n
theorem mvTo_zero (dx dy : Int) (l : List Pt) : mvTo dx dy l 0 = l := rfl
theorem mvTo_len (dx dy : Int) (l : List Pt) (n : Nat) : (mvTo dx dy l n).length = l.length := by unfold mvTo; simp; omega
theorem mvTo_at {dx dy : Int} {l : List Pt} {n : Nat} (h : n < l.length) : (mvTo dx dy l n)[n]? = some l[n] := by
  unfold mvTo
  rw [List.getElem?_append_right (by simp; omega), List.length_map, List.length_take, Nat.min_eq_left (by omega), Nat.sub_self, List.getElem?_drop, Nat.add_zero, List.getElem?_eq_getElem h]
theorem mvTo_set {dx dy : Int} {l : List Pt} {n : Nat} (h : n < l.length) : (mvTo dx dy l n).set n (mv l[n] dx dy) = mvTo dx dy l (n + 1) := by
  unfold mvTo
  rw [List.set_append_right _ _ (by simp; omega), List.length_map, List.length_take, Nat.min_eq_left (by omega), Nat.sub_self, List.drop_eq_getElem_cons h, List.set_cons_zero, List.take_add_one, List.getElem?_eq_getElem h, List.map_append, List.append_assoc]
  rfl
def mvX (dx dy : Int) (x : Ft) (n : Nat) : Ft := { x.fr with f4 := mvTo dx dy x.f4 n }
def mvF (l : List Ft) (k : Nat) (dx dy : Int) (n : Nat) : List Ft := (l.map Ft.fr).set k (mvX dx dy (l.getD k ftD) n)
theorem mvF_zero {l : List Ft} {k : Nat} {dx dy : Int} (hk : k < l.length) : mvF l k dx dy 0 = l.map Ft.fr := by
  unfold mvF mvX
  rw [mvTo_zero]
  have e : l.getD k ftD = l[k] := by simp [hk]
  rw [e]
  have : ({ l[k].fr with f4 := l[k].f4 } : Ft) = (l.map Ft.fr)[k]'(by simpa using hk) := by simp [Ft.fr]
  rw [this, List.set_getElem_self]
theorem mvF_at {l : List Ft} {k : Nat} {dx dy : Int} {n : Nat} (hk : k < l.length) : ((mvF l k dx dy n).map ft)[k]? = some [i l[k].f0, i l[k].f1, i l[k].f2, .str l[k].f3, .lst 2 false ((mvTo dx dy l[k].f4 n).map cp)] := by
  have e : l.getD k ftD = l[k] := by simp [hk]
  unfold mvF
  rw [List.getElem?_map, List.getElem?_set_self (by simpa using hk), e]
  rfl
theorem mvF_set {l : List Ft} {k : Nat} {dx dy : Int} {n : Nat} (hk : k < l.length) (hn : n < l[k].f4.length) :
    ((mvF l k dx dy n).map ft).set k [i l[k].f0, i l[k].f1, i l[k].f2, .str l[k].f3, .lst 2 false (((mvTo dx dy l[k].f4 n).map cp).set n (cp (mv l[k].f4[n] dx dy)))] = (mvF l k dx dy (n + 1)).map ft := by
  have e : l.getD k ftD = l[k] := by simp [hk]
  unfold mvF
  rw [List.map_set, List.set_set, List.map_set, e]
  congr 1
  unfold mvX ft Ft.fr
  rw [← mvTo_set hn, List.map_set]
theorem mvF_len (l : List Ft) (k : Nat) (dx dy : Int) (n : Nat) : (mvF l k dx dy n).length = l.length := by unfold mvF; simp
def mvK (l : List Ft) (id : Int) : List Pt := (l.getD (wFind l id).toNat ftD).f4
def mvO (l : List Ft) (e : Ei) : List Ft := if 0 ≤ wFind l e.f2 then mvF l (wFind l e.f2).toNat e.f3 e.f4 (mvN e.f3 e.f4 (mvK l e.f2)) else l.map Ft.fr
def mvB (l : List Ft) (e : Ei) : Bool := decide (0 ≤ wFind l e.f2) && decide (mvN e.f3 e.f4 (mvK l e.f2) = (mvK l e.f2).length)
theorem f106 (l : List Ft) (e : Ei) (nl : Bool) (hl : l.length ≤ 1048576) (hp : ∀ x ∈ l, x.f4.length ≤ 1000000000) :
    Fn Try.prog 106 true [.lst 5 nl (l.map ft), .agg (ei e)] (.tup [.lst 5 false ((if mvB l e = true then mvO l e else l.map Ft.fr).map ft), .bool (mvB l e)]) := by
  have cC := f103 l nl (by omega) hp
  have cF := f111 l nl e.f2 (by omega)
  have hwb := wFind_bound l e.f2
  have hee : ei e = [i e.f0, i e.f1.f0, i e.f1.f1, i e.f1.f2, .str e.f1.f3, .lst 2 e.f1.nl (e.f1.f4.map cp), i e.f2, i e.f3, i e.f4] := rfl
  rw [hee]
  have hR : (if mvB l e = true then mvO l e else l.map Ft.fr).map ft = if mvB l e = true then (mvO l e).map ft else (l.map Ft.fr).map ft := by split <;> rfl
  rw [hR]
  unfold mvB mvO mvK
  obtain ⟨C, hC⟩ : ∃ C, (l.map Ft.fr).map ft = C := ⟨_, rfl⟩
  rw [hC] at cC ⊢
  have hCl : C.length = l.length := by rw [← hC]; simp
  obtain ⟨w, hwe⟩ : ∃ w, wFind l e.f2 = w := ⟨_, rfl⟩
  rw [hwe] at cF hwb ⊢
  clear hwe hR hee
  refine Fn.by_sx hX (by kernel_rfl) c106 (by kernel_rfl) (by rfl) ?_
  simp [i106, sx_skip, sx_ops, sx_seq, sx_cond, sx_block, sx_exit, sx_ret, sx_mcall, sx_mcallx, sx_mcell, sx_mset, sx_mnset, elAt, setEl, inAt, elIn, setIn, isLst, cellsOf, sxl_nil, sxl_set, sxl_call, sxl_callv, sxl_g1, sxl_g2, sxl_g3, sxl_g4, OkS_true, GrdS_tt, GrdS_tf, GrdS_ft, GrdS_ff, CondS_t, CondS_f, then_n, then_e, then_r, blk_n, blk_e, blk_r, upd_app, Ex.ok, Ex.val, Opd.val, POp.dst, bin_int, binOK_int, bin_str, binOK_str, resOK, resV, RB.val, sub, putc, scB, scL, oneB, conf, Ex.val.eqP, Ex.val.eqL, negV, mxV, mnV, ← wr_eq, wr_zero, wr_one, wr_m1, bst_lst, byteC, partsOK, putAll, appV, nilV, slV, sslV, optB, optNum, and_assoc, exists_and_left, exists_eq_left']
  by_cases hneg : w < 0
  · have hnn : ¬ 0 ≤ w := by omega
    repeat' (first | intro _ | (simp [sx_skip, sx_ops, sx_seq, sx_cond, sx_block, sx_exit, sx_ret, sx_mcall, sx_mcallx, sx_mcell, sx_mset, sx_mnset, elAt, setEl, inAt, elIn, setIn, isLst, cellsOf, sxl_nil, sxl_set, sxl_call, sxl_callv, sxl_g1, sxl_g2, sxl_g3, sxl_g4, OkS_true, GrdS_tt, GrdS_tf, GrdS_ft, GrdS_ff, CondS_t, CondS_f, then_n, then_e, then_r, blk_n, blk_e, blk_r, upd_app, Ex.ok, Ex.val, Opd.val, POp.dst, bin_int, binOK_int, bin_str, binOK_str, resOK, resV, RB.val, sub, putc, scB, scL, oneB, conf, Ex.val.eqP, Ex.val.eqL, negV, mxV, mnV, ← wr_eq, wr_zero, wr_one, wr_m1, bst_lst, byteC, partsOK, putAll, appV, nilV, slV, sslV, optB, optNum, and_assoc, exists_and_left, exists_eq_left', *]) | refine CallS_i (cF) ?_ | refine CallS_i (cC) ?_ | refine CallM_i (cF) ?_ | refine CallM_i (cC) ?_ | refine CallE_i (cF) ?_ | refine CallE_i (cC) ?_ | refine CallX_i (cF) ?_ | refine CallX_i (cC) ?_ | refine CondS_d (fun h => ?_) (fun h => ?_) | refine CondS_b (fun h => ?_) (fun h => ?_) | refine GrdS_d (fun h => ?_) (fun h => ?_) | refine GrdS_b (fun h => ?_) (fun h => ?_) | refine OkS_i (by omega) ?_ | fail)
  obtain ⟨k, rfl⟩ : ∃ k : Nat, w = k := ⟨w.toNat, by omega⟩
  have hkl : k < l.length := by omega
  have hd : l.getD k ftD = l[k] := by simp [hkl]
  have h0k : (0 : Int) ≤ k := by omega
  simp only [h0k, if_true, decide_true, Bool.true_and, Int.toNat_natCast, hd]
  have hxp := hp l[k] (List.getElem_mem ..)
  clear hp
  have hNle := mvN_le e.f3 e.f4 l[k].f4
  have hz2 : Hid (C = (mvF l k e.f3 e.f4 0).map ft) := by rw [mvF_zero (dx := e.f3) (dy := e.f4) hkl]; exact hC.symm
  clear hC
  repeat' (first | intro _ | (simp [sx_skip, sx_ops, sx_seq, sx_cond, sx_block, sx_exit, sx_ret, sx_mcall, sx_mcallx, sx_mcell, sx_mset, sx_mnset, elAt, setEl, inAt, elIn, setIn, isLst, cellsOf, sxl_nil, sxl_set, sxl_call, sxl_callv, sxl_g1, sxl_g2, sxl_g3, sxl_g4, OkS_true, GrdS_tt, GrdS_tf, GrdS_ft, GrdS_ff, CondS_t, CondS_f, then_n, then_e, then_r, blk_n, blk_e, blk_r, upd_app, Ex.ok, Ex.val, Opd.val, POp.dst, bin_int, binOK_int, bin_str, binOK_str, resOK, resV, RB.val, sub, putc, scB, scL, oneB, conf, Ex.val.eqP, Ex.val.eqL, negV, mxV, mnV, ← wr_eq, wr_zero, wr_one, wr_m1, bst_lst, byteC, partsOK, putAll, appV, nilV, slV, sslV, optB, optNum, and_assoc, exists_and_left, exists_eq_left', *]) | refine CallS_i (cF) ?_ | refine CallS_i (cC) ?_ | refine CallM_i (cF) ?_ | refine CallM_i (cC) ?_ | refine CallE_i (cF) ?_ | refine CallE_i (cC) ?_ | refine CallX_i (cF) ?_ | refine CallX_i (cC) ?_ | refine CondS_d (fun h => ?_) (fun h => ?_) | refine CondS_b (fun h => ?_) (fun h => ?_) | refine GrdS_d (fun h => ?_) (fun h => ?_) | refine GrdS_b (fun h => ?_) (fun h => ?_) | refine OkS_i (by omega) ?_ | fail)
  refine sx_count (mvN e.f3 e.f4 l[k].f4) (fun n V => V 0 = .lst 5 nl (l.map ft) ∧ V 3 = .ptr [i e.f0, i e.f1.f0, i e.f1.f1, i e.f1.f2, .str e.f1.f3, .lst 2 e.f1.nl (e.f1.f4.map cp), i e.f2, i e.f3, i e.f4] ∧ V 6 = .lst 5 false ((mvF l k e.f3 e.f4 n).map ft) ∧ V 7 = i k ∧ V 8 = i n) 0 (by omega) (by simp [sx_skip, sx_ops, sx_seq, sx_cond, sx_block, sx_exit, sx_ret, sx_mcall, sx_mcallx, sx_mcell, sx_mset, sx_mnset, elAt, setEl, inAt, elIn, setIn, isLst, cellsOf, sxl_nil, sxl_set, sxl_call, sxl_callv, sxl_g1, sxl_g2, sxl_g3, sxl_g4, OkS_true, GrdS_tt, GrdS_tf, GrdS_ft, GrdS_ff, CondS_t, CondS_f, then_n, then_e, then_r, blk_n, blk_e, blk_r, upd_app, Ex.ok, Ex.val, Opd.val, POp.dst, bin_int, binOK_int, bin_str, binOK_str, resOK, resV, RB.val, sub, putc, scB, scL, oneB, conf, Ex.val.eqP, Ex.val.eqL, negV, mxV, mnV, ← wr_eq, wr_zero, wr_one, wr_m1, bst_lst, byteC, partsOK, putAll, appV, nilV, slV, sslV, optB, optNum, and_assoc, exists_and_left, exists_eq_left']; exact hz2.out) ?_
  rintro n V hn ⟨h0, h3, h6, h7, h8⟩
  have hw : wr .i64 ((n : Int) + 1) = n + 1 := wr_in (by omega) (by omega)
  have hat := mvF_at (l := l) (k := k) (dx := e.f3) (dy := e.f4) (n := n) hkl
  have hal := mvF_len l k e.f3 e.f4 n
  have hbl := mvTo_len e.f3 e.f4 l[k].f4 n
  clear hz2
  obtain ⟨x, hx⟩ : ∃ x, l[k] = x := ⟨_, rfl⟩
  have hset : ∀ hn : n < x.f4.length, ((mvF l k e.f3 e.f4 n).map ft).set k [i x.f0, i x.f1, i x.f2, .str x.f3, .lst 2 false (((mvTo e.f3 e.f4 x.f4 n).map cp).set n (cp (mv x.f4[n] e.f3 e.f4)))] = (mvF l k e.f3 e.f4 (n + 1)).map ft := by
    subst hx
    exact fun hn => mvF_set hkl hn
  have hBl : ((mvTo e.f3 e.f4 l[k].f4 n).map cp).length = l[k].f4.length := by rw [List.length_map, mvTo_len]
  have hAl : ((mvF l k e.f3 e.f4 n).map ft).length = l.length := by rw [List.length_map, mvF_len]
  have hBt : ∀ hn : n < x.f4.length, ((mvTo e.f3 e.f4 x.f4 n).map cp)[n]? = some (cp x.f4[n]) := fun hn => by rw [List.getElem?_map, mvTo_at hn]; rfl
  rw [hx] at hat hBl hn hNle hxp hbl
  rw [hx]
  obtain ⟨A, hA⟩ : ∃ A, (mvF l k e.f3 e.f4 n).map ft = A := ⟨_, rfl⟩
  obtain ⟨A', hA'⟩ : ∃ A, (mvF l k e.f3 e.f4 (n + 1)).map ft = A := ⟨_, rfl⟩
  obtain ⟨B, hB⟩ : ∃ B, (mvTo e.f3 e.f4 x.f4 n).map cp = B := ⟨_, rfl⟩
  rw [hA, hB] at hset
  rw [hA'] at hset
  rw [hA] at hat hAl h6
  rw [hB] at hat hBt hBl
  obtain ⟨hkA, hatA⟩ := get_of hat
  simp [sx_skip, sx_ops, sx_seq, sx_cond, sx_block, sx_exit, sx_ret, sx_mcall, sx_mcallx, sx_mcell, sx_mset, sx_mnset, elAt, setEl, inAt, elIn, setIn, isLst, cellsOf, sxl_nil, sxl_set, sxl_call, sxl_callv, sxl_g1, sxl_g2, sxl_g3, sxl_g4, OkS_true, GrdS_tt, GrdS_tf, GrdS_ft, GrdS_ff, CondS_t, CondS_f, then_n, then_e, then_r, blk_n, blk_e, blk_r, upd_app, Ex.ok, Ex.val, Opd.val, POp.dst, bin_int, binOK_int, bin_str, binOK_str, resOK, resV, RB.val, sub, putc, scB, scL, oneB, conf, Ex.val.eqP, Ex.val.eqL, negV, mxV, mnV, ← wr_eq, wr_zero, wr_one, wr_m1, bst_lst, byteC, partsOK, putAll, appV, nilV, slV, sslV, optB, optNum, and_assoc, exists_and_left, exists_eq_left', h0, h3, h6, h7, h8]
  rcases Nat.lt_or_ge n (mvN e.f3 e.f4 x.f4) with hlt | hge
  · have hlt' : n < x.f4.length := by omega
    have hok := mvN_lt hlt hlt'
    have cM := f154 x.f4[n] e.f3 e.f4
    unfold mvR at cM
    rw [hok, if_pos rfl] at cM
    have hs := hset hlt'
    obtain ⟨hnB, hatB⟩ := get_of (hBt hlt')
    obtain ⟨p, hp⟩ : ∃ p, x.f4[n] = p := ⟨_, rfl⟩
    rw [hp] at cM hs hatB
    obtain ⟨q, hq⟩ : ∃ q, mv p e.f3 e.f4 = q := ⟨_, rfl⟩
    rw [hq] at cM hs
    unfold cp at cM hs hatB
    clear hset hBt hq hp hok cF cC hA hB hat hx
    repeat' (first | intro _ | (simp [sx_skip, sx_ops, sx_seq, sx_cond, sx_block, sx_exit, sx_ret, sx_mcall, sx_mcallx, sx_mcell, sx_mset, sx_mnset, elAt, setEl, inAt, elIn, setIn, isLst, cellsOf, sxl_nil, sxl_set, sxl_call, sxl_callv, sxl_g1, sxl_g2, sxl_g3, sxl_g4, OkS_true, GrdS_tt, GrdS_tf, GrdS_ft, GrdS_ff, CondS_t, CondS_f, then_n, then_e, then_r, blk_n, blk_e, blk_r, upd_app, Ex.ok, Ex.val, Opd.val, POp.dst, bin_int, binOK_int, bin_str, binOK_str, resOK, resV, RB.val, sub, putc, scB, scL, oneB, conf, Ex.val.eqP, Ex.val.eqL, negV, mxV, mnV, ← wr_eq, wr_zero, wr_one, wr_m1, bst_lst, byteC, partsOK, putAll, appV, nilV, slV, sslV, optB, optNum, and_assoc, exists_and_left, exists_eq_left', *]) | refine CallS_i (cM) ?_ | refine CallM_i (cM) ?_ | refine CallE_i (cM) ?_ | refine CallX_i (cM) ?_ | refine CondS_d (fun h => ?_) (fun h => ?_) | refine CondS_b (fun h => ?_) (fun h => ?_) | refine GrdS_d (fun h => ?_) (fun h => ?_) | refine GrdS_b (fun h => ?_) (fun h => ?_) | refine OkS_i (by omega) ?_ | fail)
  · obtain rfl : n = mvN e.f3 e.f4 x.f4 := by omega
    rw [hA]
    by_cases hend : mvN e.f3 e.f4 x.f4 = x.f4.length
    · clear hset hBt hat hx cF cC hA hA' hB
      repeat' (first | intro _ | (simp [sx_skip, sx_ops, sx_seq, sx_cond, sx_block, sx_exit, sx_ret, sx_mcall, sx_mcallx, sx_mcell, sx_mset, sx_mnset, elAt, setEl, inAt, elIn, setIn, isLst, cellsOf, sxl_nil, sxl_set, sxl_call, sxl_callv, sxl_g1, sxl_g2, sxl_g3, sxl_g4, OkS_true, GrdS_tt, GrdS_tf, GrdS_ft, GrdS_ff, CondS_t, CondS_f, then_n, then_e, then_r, blk_n, blk_e, blk_r, upd_app, Ex.ok, Ex.val, Opd.val, POp.dst, bin_int, binOK_int, bin_str, binOK_str, resOK, resV, RB.val, sub, putc, scB, scL, oneB, conf, Ex.val.eqP, Ex.val.eqL, negV, mxV, mnV, ← wr_eq, wr_zero, wr_one, wr_m1, bst_lst, byteC, partsOK, putAll, appV, nilV, slV, sslV, optB, optNum, and_assoc, exists_and_left, exists_eq_left', *]) | refine CondS_d (fun h => ?_) (fun h => ?_) | refine CondS_b (fun h => ?_) (fun h => ?_) | refine GrdS_d (fun h => ?_) (fun h => ?_) | refine GrdS_b (fun h => ?_) (fun h => ?_) | refine OkS_i (by omega) ?_ | fail)
    · have hlt' : mvN e.f3 e.f4 x.f4 < x.f4.length := by omega
      have hbad := mvN_stop hlt'
      have cM := f154 x.f4[mvN e.f3 e.f4 x.f4] e.f3 e.f4
      unfold mvR at cM
      rw [hbad, if_neg (by simp)] at cM
      obtain ⟨hnB, hatB⟩ := get_of (hBt hlt')
      obtain ⟨p, hp⟩ : ∃ p, x.f4[mvN e.f3 e.f4 x.f4] = p := ⟨_, rfl⟩
      rw [hp] at cM hatB
      unfold cp at cM hatB
      clear hset hBt hat hx hp cF hbad hA hA' hB
      repeat' (first | intro _ | (simp [sx_skip, sx_ops, sx_seq, sx_cond, sx_block, sx_exit, sx_ret, sx_mcall, sx_mcallx, sx_mcell, sx_mset, sx_mnset, elAt, setEl, inAt, elIn, setIn, isLst, cellsOf, sxl_nil, sxl_set, sxl_call, sxl_callv, sxl_g1, sxl_g2, sxl_g3, sxl_g4, OkS_true, GrdS_tt, GrdS_tf, GrdS_ft, GrdS_ff, CondS_t, CondS_f, then_n, then_e, then_r, blk_n, blk_e, blk_r, upd_app, Ex.ok, Ex.val, Opd.val, POp.dst, bin_int, binOK_int, bin_str, binOK_str, resOK, resV, RB.val, sub, putc, scB, scL, oneB, conf, Ex.val.eqP, Ex.val.eqL, negV, mxV, mnV, ← wr_eq, wr_zero, wr_one, wr_m1, bst_lst, byteC, partsOK, putAll, appV, nilV, slV, sslV, optB, optNum, and_assoc, exists_and_left, exists_eq_left', *]) | refine CallS_i (cM) ?_ | refine CallS_i (cC) ?_ | refine CallM_i (cM) ?_ | refine CallM_i (cC) ?_ | refine CallE_i (cM) ?_ | refine CallE_i (cC) ?_ | refine CallX_i (cM) ?_ | refine CallX_i (cC) ?_ | refine CondS_d (fun h => ?_) (fun h => ?_) | refine CondS_b (fun h => ?_) (fun h => ?_) | refine GrdS_d (fun h => ?_) (fun h => ?_) | refine GrdS_b (fun h => ?_) (fun h => ?_) | refine OkS_i (by omega) ?_ | fail)
end Go.Eng
namespace Go.Eng
open Go Go.Proofs Geo Go.RowKit
set_option linter.unusedSimpArgs false
set_option linter.unusedVariables false
set_option maxRecDepth 20000
set_option maxHeartbeats 1000000

/-! a feature is moved in place; edits applied. WRITES -/
theorem mvF_ok {l : List Ft} {k : Nat} {dx dy : Int} {n : Nat} {p : Ft → Prop} (hk : k < l.length) (h1 : ∀ x ∈ l, p x.fr) (h2 : ∀ x ∈ l, p (mvX dx dy x n)) : ∀ y ∈ mvF l k dx dy n, p y := by
  intro y hy
  unfold mvF at hy
  rcases List.mem_or_eq_of_mem_set hy with h | rfl
  · obtain ⟨z, hz, rfl⟩ := List.mem_map.1 h
    exact h1 z hz
  · have e : l.getD k ftD = l[k] := by simp [hk]
    rw [e]
    exact h2 _ (List.getElem_mem hk)
theorem mvX_len (dx dy : Int) (x : Ft) (n : Nat) : (mvX dx dy x n).f4.length = x.f4.length := by unfold mvX; exact mvTo_len dx dy x.f4 n
theorem f109 (l : List Ft) (e : Ei) (nl : Bool) (hl : l.length ≤ 1048576) (hp : ∀ x ∈ l, x.f4.length ≤ 1000000000) (hb : ∀ x ∈ l, x.okay) (hn : ∀ x ∈ l, x.nl = false) :
    Fn Try.prog 109 true [.lst 5 nl (l.map ft), .agg (ei e)] (.tup [.lst 5 false ((mvO l e).map ft), .bool (mvB l e && wSrc (mvO l e))]) := by
  have cC := f110 l nl (by omega) hp hn
  have cF := f113 l nl e.f2 (by omega)
  have hwb := wFind_bound l e.f2
  have hee : ei e = [i e.f0, i e.f1.f0, i e.f1.f1, i e.f1.f2, .str e.f1.f3, .lst 2 e.f1.nl (e.f1.f4.map cp), i e.f2, i e.f3, i e.f4] := rfl
  rw [hee]
  unfold mvB mvO mvK
  obtain ⟨C, hC⟩ : ∃ C, (l.map Ft.fr).map ft = C := ⟨_, rfl⟩
  rw [hC] at cC
  have hCl : C.length = l.length := by rw [← hC]; simp
  obtain ⟨w, hwe⟩ : ∃ w, wFind l e.f2 = w := ⟨_, rfl⟩
  rw [hwe] at cF hwb ⊢
  clear hwe hee
  refine Fn.by_sx hX (by kernel_rfl) c109 (by kernel_rfl) (by rfl) ?_
  simp [i109, sx_skip, sx_ops, sx_seq, sx_cond, sx_block, sx_exit, sx_ret, sx_mcall, sx_mcallx, sx_mcell, sx_mset, sx_mnset, elAt, setEl, inAt, elIn, setIn, isLst, cellsOf, sxl_nil, sxl_set, sxl_call, sxl_callv, sxl_g1, sxl_g2, sxl_g3, sxl_g4, OkS_true, GrdS_tt, GrdS_tf, GrdS_ft, GrdS_ff, CondS_t, CondS_f, then_n, then_e, then_r, blk_n, blk_e, blk_r, upd_app, Ex.ok, Ex.val, Opd.val, POp.dst, bin_int, binOK_int, bin_str, binOK_str, resOK, resV, RB.val, sub, putc, scB, scL, oneB, conf, Ex.val.eqP, Ex.val.eqL, negV, mxV, mnV, ← wr_eq, wr_zero, wr_one, wr_m1, bst_lst, byteC, partsOK, putAll, appV, nilV, slV, sslV, optB, optNum, and_assoc, exists_and_left, exists_eq_left']
  by_cases hneg : w < 0
  · have hnn : ¬ 0 ≤ w := by omega
    have hC2 : List.map (ft ∘ Ft.fr) l = C := by rw [← hC, List.map_map]
    repeat' (first | intro _ | (simp [sx_skip, sx_ops, sx_seq, sx_cond, sx_block, sx_exit, sx_ret, sx_mcall, sx_mcallx, sx_mcell, sx_mset, sx_mnset, elAt, setEl, inAt, elIn, setIn, isLst, cellsOf, sxl_nil, sxl_set, sxl_call, sxl_callv, sxl_g1, sxl_g2, sxl_g3, sxl_g4, OkS_true, GrdS_tt, GrdS_tf, GrdS_ft, GrdS_ff, CondS_t, CondS_f, then_n, then_e, then_r, blk_n, blk_e, blk_r, upd_app, Ex.ok, Ex.val, Opd.val, POp.dst, bin_int, binOK_int, bin_str, binOK_str, resOK, resV, RB.val, sub, putc, scB, scL, oneB, conf, Ex.val.eqP, Ex.val.eqL, negV, mxV, mnV, ← wr_eq, wr_zero, wr_one, wr_m1, bst_lst, byteC, partsOK, putAll, appV, nilV, slV, sslV, optB, optNum, and_assoc, exists_and_left, exists_eq_left', *]) | refine CallS_i (cF) ?_ | refine CallS_i (cC) ?_ | refine CallM_i (cF) ?_ | refine CallM_i (cC) ?_ | refine CallE_i (cF) ?_ | refine CallE_i (cC) ?_ | refine CallX_i (cF) ?_ | refine CallX_i (cC) ?_ | refine CondS_d (fun h => ?_) (fun h => ?_) | refine CondS_b (fun h => ?_) (fun h => ?_) | refine GrdS_d (fun h => ?_) (fun h => ?_) | refine GrdS_b (fun h => ?_) (fun h => ?_) | refine OkS_i (by omega) ?_ | fail)
  obtain ⟨k, rfl⟩ : ∃ k : Nat, w = k := ⟨w.toNat, by omega⟩
  have hkl : k < l.length := by omega
  have hd : l.getD k ftD = l[k] := by simp [hkl]
  have h0k : (0 : Int) ≤ k := by omega
  simp only [h0k, if_true, decide_true, Bool.true_and, Int.toNat_natCast, hd]
  have hxp := hp l[k] (List.getElem_mem ..)
  have cO := f40 (mvF l k e.f3 e.f4 l[k].f4.length) false (by rw [mvF_len]; omega) (mvF_ok (p := fun x => x.okay) hkl (fun x hx => hb x hx) (fun x hx => ⟨(hb x hx).1, by rw [mvX_len]; exact (hb x hx).2⟩))
  clear hp hb hn
  have hNle := mvN_le e.f3 e.f4 l[k].f4
  have hz2 : Hid (C = (mvF l k e.f3 e.f4 0).map ft) := by rw [mvF_zero (dx := e.f3) (dy := e.f4) hkl]; exact hC.symm
  clear hC
  repeat' (first | intro _ | (simp [sx_skip, sx_ops, sx_seq, sx_cond, sx_block, sx_exit, sx_ret, sx_mcall, sx_mcallx, sx_mcell, sx_mset, sx_mnset, elAt, setEl, inAt, elIn, setIn, isLst, cellsOf, sxl_nil, sxl_set, sxl_call, sxl_callv, sxl_g1, sxl_g2, sxl_g3, sxl_g4, OkS_true, GrdS_tt, GrdS_tf, GrdS_ft, GrdS_ff, CondS_t, CondS_f, then_n, then_e, then_r, blk_n, blk_e, blk_r, upd_app, Ex.ok, Ex.val, Opd.val, POp.dst, bin_int, binOK_int, bin_str, binOK_str, resOK, resV, RB.val, sub, putc, scB, scL, oneB, conf, Ex.val.eqP, Ex.val.eqL, negV, mxV, mnV, ← wr_eq, wr_zero, wr_one, wr_m1, bst_lst, byteC, partsOK, putAll, appV, nilV, slV, sslV, optB, optNum, and_assoc, exists_and_left, exists_eq_left', ft, *]) | refine CallS_i (cF) ?_ | refine CallS_i (cC) ?_ | refine CallM_i (cF) ?_ | refine CallM_i (cC) ?_ | refine CallE_i (cF) ?_ | refine CallE_i (cC) ?_ | refine CallX_i (cF) ?_ | refine CallX_i (cC) ?_ | refine CondS_d (fun h => ?_) (fun h => ?_) | refine CondS_b (fun h => ?_) (fun h => ?_) | refine GrdS_d (fun h => ?_) (fun h => ?_) | refine GrdS_b (fun h => ?_) (fun h => ?_) | refine OkS_i (by omega) ?_ | fail)
  refine sx_count (mvN e.f3 e.f4 l[k].f4) (fun n V => V 3 = .ptr [i e.f0, i e.f1.f0, i e.f1.f1, i e.f1.f2, .str e.f1.f3, .lst 2 e.f1.nl (e.f1.f4.map cp), i e.f2, i e.f3, i e.f4] ∧ V 6 = .lst 5 false ((mvF l k e.f3 e.f4 n).map ft) ∧ V 7 = i k ∧ V 25 = .lst 2 l[k].nl (l[k].f4.map cp) ∧ V 26 = i l[k].f4.length ∧ V 27 = i n) 0 (by omega) (by simp [sx_skip, sx_ops, sx_seq, sx_cond, sx_block, sx_exit, sx_ret, sx_mcall, sx_mcallx, sx_mcell, sx_mset, sx_mnset, elAt, setEl, inAt, elIn, setIn, isLst, cellsOf, sxl_nil, sxl_set, sxl_call, sxl_callv, sxl_g1, sxl_g2, sxl_g3, sxl_g4, OkS_true, GrdS_tt, GrdS_tf, GrdS_ft, GrdS_ff, CondS_t, CondS_f, then_n, then_e, then_r, blk_n, blk_e, blk_r, upd_app, Ex.ok, Ex.val, Opd.val, POp.dst, bin_int, binOK_int, bin_str, binOK_str, resOK, resV, RB.val, sub, putc, scB, scL, oneB, conf, Ex.val.eqP, Ex.val.eqL, negV, mxV, mnV, ← wr_eq, wr_zero, wr_one, wr_m1, bst_lst, byteC, partsOK, putAll, appV, nilV, slV, sslV, optB, optNum, and_assoc, exists_and_left, exists_eq_left']; exact hz2.out) ?_
  rintro n V hn ⟨h3, h6, h7, h25, h26, h27⟩
  have hw : wr .i64 ((n : Int) + 1) = n + 1 := wr_in (by omega) (by omega)
  have hat := mvF_at (l := l) (k := k) (dx := e.f3) (dy := e.f4) (n := n) hkl
  have hal := mvF_len l k e.f3 e.f4 n
  have hbl := mvTo_len e.f3 e.f4 l[k].f4 n
  clear hz2 cF cC
  obtain ⟨x, hx⟩ : ∃ x, l[k] = x := ⟨_, rfl⟩
  have hset : ∀ hn : n < x.f4.length, ((mvF l k e.f3 e.f4 n).map ft).set k [i x.f0, i x.f1, i x.f2, .str x.f3, .lst 2 false (((mvTo e.f3 e.f4 x.f4 n).map cp).set n (cp (mv x.f4[n] e.f3 e.f4)))] = (mvF l k e.f3 e.f4 (n + 1)).map ft := by
    subst hx
    exact fun hn => mvF_set hkl hn
  have hBl : ((mvTo e.f3 e.f4 l[k].f4 n).map cp).length = l[k].f4.length := by rw [List.length_map, mvTo_len]
  have hAl : ((mvF l k e.f3 e.f4 n).map ft).length = l.length := by rw [List.length_map, mvF_len]
  have hBt : ∀ hn : n < x.f4.length, ((mvTo e.f3 e.f4 x.f4 n).map cp)[n]? = some (cp x.f4[n]) := fun hn => by rw [List.getElem?_map, mvTo_at hn]; rfl
  rw [hx] at hat hBl hn hNle hxp hbl h25 h26 cO
  rw [hx]
  obtain ⟨B, hB⟩ : ∃ B, (mvTo e.f3 e.f4 x.f4 n).map cp = B := ⟨_, rfl⟩
  obtain ⟨A', hA'⟩ : ∃ A, (mvF l k e.f3 e.f4 (n + 1)).map ft = A := ⟨_, rfl⟩
  rw [hB, hA'] at hset
  rw [hB] at hat hBt hBl
  rcases Nat.lt_or_ge n (mvN e.f3 e.f4 x.f4) with hlt | hge
  · obtain ⟨A, hA⟩ : ∃ A, (mvF l k e.f3 e.f4 n).map ft = A := ⟨_, rfl⟩
    rw [hA] at hset hat hAl h6
    obtain ⟨hkA, hatA⟩ := get_of hat
    simp [sx_skip, sx_ops, sx_seq, sx_cond, sx_block, sx_exit, sx_ret, sx_mcall, sx_mcallx, sx_mcell, sx_mset, sx_mnset, elAt, setEl, inAt, elIn, setIn, isLst, cellsOf, sxl_nil, sxl_set, sxl_call, sxl_callv, sxl_g1, sxl_g2, sxl_g3, sxl_g4, OkS_true, GrdS_tt, GrdS_tf, GrdS_ft, GrdS_ff, CondS_t, CondS_f, then_n, then_e, then_r, blk_n, blk_e, blk_r, upd_app, Ex.ok, Ex.val, Opd.val, POp.dst, bin_int, binOK_int, bin_str, binOK_str, resOK, resV, RB.val, sub, putc, scB, scL, oneB, conf, Ex.val.eqP, Ex.val.eqL, negV, mxV, mnV, ← wr_eq, wr_zero, wr_one, wr_m1, bst_lst, byteC, partsOK, putAll, appV, nilV, slV, sslV, optB, optNum, and_assoc, exists_and_left, exists_eq_left', h26, h27]
    have hlt' : n < x.f4.length := by omega
    have hok := mvN_lt hlt hlt'
    have cM := f157 x.f4[n] e.f3 e.f4
    unfold mvR at cM
    rw [hok, if_pos rfl] at cM
    have hs := hset hlt'
    obtain ⟨hnB, hatB⟩ := get_of (hBt hlt')
    have hP : (x.f4.map cp)[n]'(by simpa using hlt') = cp x.f4[n] := by simp
    obtain ⟨p, hp⟩ : ∃ p, x.f4[n] = p := ⟨_, rfl⟩
    rw [hp] at cM hs hatB hP
    obtain ⟨q, hq⟩ : ∃ q, mv p e.f3 e.f4 = q := ⟨_, rfl⟩
    rw [hq] at cM hs
    unfold cp at cM hs hatB
    clear hset hBt hq hok hA hB hat hx cO hP
    repeat' (first | intro _ | (simp [sx_skip, sx_ops, sx_seq, sx_cond, sx_block, sx_exit, sx_ret, sx_mcall, sx_mcallx, sx_mcell, sx_mset, sx_mnset, elAt, setEl, inAt, elIn, setIn, isLst, cellsOf, sxl_nil, sxl_set, sxl_call, sxl_callv, sxl_g1, sxl_g2, sxl_g3, sxl_g4, OkS_true, GrdS_tt, GrdS_tf, GrdS_ft, GrdS_ff, CondS_t, CondS_f, then_n, then_e, then_r, blk_n, blk_e, blk_r, upd_app, Ex.ok, Ex.val, Opd.val, POp.dst, bin_int, binOK_int, bin_str, binOK_str, resOK, resV, RB.val, sub, putc, scB, scL, oneB, conf, Ex.val.eqP, Ex.val.eqL, negV, mxV, mnV, ← wr_eq, wr_zero, wr_one, wr_m1, bst_lst, byteC, partsOK, putAll, appV, nilV, slV, sslV, optB, optNum, and_assoc, exists_and_left, exists_eq_left', cp, *]) | refine CallS_i (cM) ?_ | refine CallM_i (cM) ?_ | refine CallE_i (cM) ?_ | refine CallX_i (cM) ?_ | refine CondS_d (fun h => ?_) (fun h => ?_) | refine CondS_b (fun h => ?_) (fun h => ?_) | refine GrdS_d (fun h => ?_) (fun h => ?_) | refine GrdS_b (fun h => ?_) (fun h => ?_) | refine OkS_i (by omega) ?_ | fail)
  · obtain rfl : n = mvN e.f3 e.f4 x.f4 := by omega
    simp [sx_skip, sx_ops, sx_seq, sx_cond, sx_block, sx_exit, sx_ret, sx_mcall, sx_mcallx, sx_mcell, sx_mset, sx_mnset, elAt, setEl, inAt, elIn, setIn, isLst, cellsOf, sxl_nil, sxl_set, sxl_call, sxl_callv, sxl_g1, sxl_g2, sxl_g3, sxl_g4, OkS_true, GrdS_tt, GrdS_tf, GrdS_ft, GrdS_ff, CondS_t, CondS_f, then_n, then_e, then_r, blk_n, blk_e, blk_r, upd_app, Ex.ok, Ex.val, Opd.val, POp.dst, bin_int, binOK_int, bin_str, binOK_str, resOK, resV, RB.val, sub, putc, scB, scL, oneB, conf, Ex.val.eqP, Ex.val.eqL, negV, mxV, mnV, ← wr_eq, wr_zero, wr_one, wr_m1, bst_lst, byteC, partsOK, putAll, appV, nilV, slV, sslV, optB, optNum, and_assoc, exists_and_left, exists_eq_left', h26, h27]
    by_cases hend : mvN e.f3 e.f4 x.f4 = x.f4.length
    · clear hset hBt hat hx hA' hB
      obtain ⟨bs, hbs⟩ : ∃ b, wSrc (mvF l k e.f3 e.f4 x.f4.length) = b := ⟨_, rfl⟩
      rw [hbs] at cO
      repeat' (first | intro _ | (simp [sx_skip, sx_ops, sx_seq, sx_cond, sx_block, sx_exit, sx_ret, sx_mcall, sx_mcallx, sx_mcell, sx_mset, sx_mnset, elAt, setEl, inAt, elIn, setIn, isLst, cellsOf, sxl_nil, sxl_set, sxl_call, sxl_callv, sxl_g1, sxl_g2, sxl_g3, sxl_g4, OkS_true, GrdS_tt, GrdS_tf, GrdS_ft, GrdS_ff, CondS_t, CondS_f, then_n, then_e, then_r, blk_n, blk_e, blk_r, upd_app, Ex.ok, Ex.val, Opd.val, POp.dst, bin_int, binOK_int, bin_str, binOK_str, resOK, resV, RB.val, sub, putc, scB, scL, oneB, conf, Ex.val.eqP, Ex.val.eqL, negV, mxV, mnV, ← wr_eq, wr_zero, wr_one, wr_m1, bst_lst, byteC, partsOK, putAll, appV, nilV, slV, sslV, optB, optNum, and_assoc, exists_and_left, exists_eq_left', *]) | refine CallS_i (cO) ?_ | refine CallM_i (cO) ?_ | refine CallE_i (cO) ?_ | refine CallX_i (cO) ?_ | refine CondS_d (fun h => ?_) (fun h => ?_) | refine CondS_b (fun h => ?_) (fun h => ?_) | refine GrdS_d (fun h => ?_) (fun h => ?_) | refine GrdS_b (fun h => ?_) (fun h => ?_) | refine OkS_i (by omega) ?_ | fail)
    · have hlt' : mvN e.f3 e.f4 x.f4 < x.f4.length := by omega
      have hbad := mvN_stop hlt'
      have cM := f157 x.f4[mvN e.f3 e.f4 x.f4] e.f3 e.f4
      unfold mvR at cM
      rw [hbad, if_neg (by simp)] at cM
      obtain ⟨p, hp⟩ : ∃ p, x.f4[mvN e.f3 e.f4 x.f4] = p := ⟨_, rfl⟩
      rw [hp] at cM
      unfold cp at cM
      clear hset hBt hat hx hbad hA' hB cO
      repeat' (first | intro _ | (simp [sx_skip, sx_ops, sx_seq, sx_cond, sx_block, sx_exit, sx_ret, sx_mcall, sx_mcallx, sx_mcell, sx_mset, sx_mnset, elAt, setEl, inAt, elIn, setIn, isLst, cellsOf, sxl_nil, sxl_set, sxl_call, sxl_callv, sxl_g1, sxl_g2, sxl_g3, sxl_g4, OkS_true, GrdS_tt, GrdS_tf, GrdS_ft, GrdS_ff, CondS_t, CondS_f, then_n, then_e, then_r, blk_n, blk_e, blk_r, upd_app, Ex.ok, Ex.val, Opd.val, POp.dst, bin_int, binOK_int, bin_str, binOK_str, resOK, resV, RB.val, sub, putc, scB, scL, oneB, conf, Ex.val.eqP, Ex.val.eqL, negV, mxV, mnV, ← wr_eq, wr_zero, wr_one, wr_m1, bst_lst, byteC, partsOK, putAll, appV, nilV, slV, sslV, optB, optNum, and_assoc, exists_and_left, exists_eq_left', cp, *]) | refine CallS_i (cM) ?_ | refine CallM_i (cM) ?_ | refine CallE_i (cM) ?_ | refine CallX_i (cM) ?_ | refine CondS_d (fun h => ?_) (fun h => ?_) | refine CondS_b (fun h => ?_) (fun h => ?_) | refine GrdS_d (fun h => ?_) (fun h => ?_) | refine GrdS_b (fun h => ?_) (fun h => ?_) | refine OkS_i (by omega) ?_ | fail)
end Go.Eng
namespace Go.Eng
open Go Go.Proofs Geo Go.RowKit
set_option linter.unusedSimpArgs false
set_option linter.unusedVariables false
set_option maxRecDepth 20000
set_option maxHeartbeats 1000000

/-! an edit is applied. WRITES -/
def apB (l : List Ft) (e : Ei) : Bool := if e.f0 = 1 then wSrc (pfS l e.f1) else if e.f0 = 2 then (wSrc l && decide (0 ≤ wFind l e.f2)) else if e.f0 = 3 then (mvB l e && wSrc (mvO l e)) else false
def apO (l : List Ft) (e : Ei) : List Ft := if e.f0 = 1 then pfS l e.f1 else if e.f0 = 2 then tkF l e.f2 else mvO l e
def apL (l : List Ft) (e : Ei) : List Ft := if apB l e = true then apO l e else l.map Ft.fr
theorem mvO_ok {l : List Ft} {e : Ei} {p : Ft → Prop} (h1 : ∀ x ∈ l, p x.fr) (h2 : ∀ x ∈ l, ∀ n, p (mvX e.f3 e.f4 x n)) : ∀ y ∈ mvO l e, p y := by
  unfold mvO
  have hwb := wFind_bound l e.f2
  split
  · exact mvF_ok (by omega) h1 (fun x hx => h2 x hx _)
  · intro y hy
    obtain ⟨z, hz, rfl⟩ := List.mem_map.1 hy
    exact h1 z hz
theorem mvO_len (l : List Ft) (e : Ei) : (mvO l e).length = l.length := by unfold mvO; split <;> simp [mvF_len]
theorem tkF_ok {l : List Ft} {id : Int} {p : Ft → Prop} (h1 : ∀ x ∈ l, p x.fr) : ∀ y ∈ tkF l id, p y := by
  intro y hy
  obtain ⟨z, hz, rfl⟩ := List.mem_map.1 ((tkF_sub l id).subset hy)
  exact h1 z hz
theorem tkF_len (l : List Ft) (id : Int) : (tkF l id).length ≤ l.length := by have := (tkF_sub l id).length_le; simpa using this
theorem f42 (l : List Ft) (e : Ei) (nl : Bool) (hl : l.length ≤ 1048576) (hb : ∀ x ∈ l, x.okay) (he : e.f1.okay) (hp : ∀ x ∈ l, x.f4.length ≤ 1000000000) (hpe : e.f1.f4.length ≤ 1000000000) :
    Fn Try.prog 42 true [.lst 5 nl (l.map ft), .agg (ei e)] (.tup [.lst 5 false ((apL l e).map ft), .bool (apB l e)]) := by
  have cC := f103 l nl (by omega) hp
  have c1 := f104 l e.f1 nl hl hb he hp hpe
  have c2 := f105 l e.f2 nl hl hb hp
  have c3 := f106 l e nl hl hp
  have s1 := f78 (pfS l e.f1) false (by have := pfS_len l e.f1; omega) (pfS_ok (p := fun x => x.okay) (fun x hx => hb x hx) he)
  have s2 := f78 (tkF l e.f2) false (by have := tkF_len l e.f2; omega) (tkF_ok (p := fun x => x.okay) (fun x hx => hb x hx))
  have s3 := f78 (mvO l e) false (by rw [mvO_len]; omega) (mvO_ok (p := fun x => x.okay) (fun x hx => hb x hx) (fun x hx n => ⟨(hb x hx).1, by rw [mvX_len]; exact (hb x hx).2⟩))
  have hee : ei e = [i e.f0, i e.f1.f0, i e.f1.f1, i e.f1.f2, .str e.f1.f3, .lst 2 e.f1.nl (e.f1.f4.map cp), i e.f2, i e.f3, i e.f4] := rfl
  have hff : ft e.f1 = [i e.f1.f0, i e.f1.f1, i e.f1.f2, .str e.f1.f3, .lst 2 e.f1.nl (e.f1.f4.map cp)] := rfl
  rw [hee] at c3 ⊢
  rw [hff] at c1
  obtain ⟨b, hbe⟩ : ∃ b, apB l e = b := ⟨_, rfl⟩
  obtain ⟨R, hRe⟩ : ∃ R, (apL l e).map ft = R := ⟨_, rfl⟩
  have hRR : R = if apB l e = true then (apO l e).map ft else (l.map Ft.fr).map ft := by rw [← hRe]; unfold apL; split <;> rfl
  rw [hbe, hRe]
  obtain ⟨C, hC⟩ : ∃ C, (l.map Ft.fr).map ft = C := ⟨_, rfl⟩
  rw [hC] at cC hRR
  have q1 : (putL l e.f1).map ft = if wSrc (pfS l e.f1) = true then (pfS l e.f1).map ft else C := by rw [← hC]; unfold putL; split <;> rfl
  have q2 : (if (wSrc l && decide (0 ≤ wFind l e.f2)) = true then tkF l e.f2 else l.map Ft.fr).map ft = if (wSrc l && decide (0 ≤ wFind l e.f2)) = true then (tkF l e.f2).map ft else C := by rw [← hC]; split <;> rfl
  have q3 : (if mvB l e = true then mvO l e else l.map Ft.fr).map ft = if mvB l e = true then (mvO l e).map ft else C := by rw [← hC]; split <;> rfl
  rw [q1] at c1
  rw [q2] at c2
  rw [q3] at c3
  have k2 : wSrc l = true → wSrc (tkF l e.f2) = true := tkF_src
  clear hb he hp hpe hRe hC q1 q2 q3 hee hff
  by_cases h1 : e.f0 = 1
  · have hO : apO l e = pfS l e.f1 := by unfold apO; rw [if_pos h1]
    have hB : apB l e = wSrc (pfS l e.f1) := by unfold apB; rw [if_pos h1]
    rw [hB] at hbe hRR
    rw [hO] at hRR
    obtain ⟨T, hT⟩ : ∃ T, (pfS l e.f1).map ft = T := ⟨_, rfl⟩
    rw [hT] at c1 s1 hRR
    rw [hbe] at c1 s1 hRR
    subst hRR
    clear hT hO hB hbe c2 c3 s2 s3 k2
    have hne2 : ¬ e.f0 = 2 := by omega
    have hne3 : ¬ e.f0 = 3 := by omega
    cases b
    all_goals refine Fn.by_sx hX (by kernel_rfl) c42 (by kernel_rfl) (by rfl) ?_
    all_goals simp [i42, sx_skip, sx_ops, sx_seq, sx_cond, sx_block, sx_exit, sx_ret, sx_mcall, sx_mcallx, sx_mcell, sx_mset, sx_mnset, elAt, setEl, inAt, elIn, setIn, isLst, cellsOf, sxl_nil, sxl_set, sxl_call, sxl_callv, sxl_g1, sxl_g2, sxl_g3, sxl_g4, OkS_true, GrdS_tt, GrdS_tf, GrdS_ft, GrdS_ff, CondS_t, CondS_f, then_n, then_e, then_r, blk_n, blk_e, blk_r, upd_app, Ex.ok, Ex.val, Opd.val, POp.dst, bin_int, binOK_int, bin_str, binOK_str, resOK, resV, RB.val, sub, putc, scB, scL, oneB, conf, Ex.val.eqP, Ex.val.eqL, negV, mxV, mnV, ← wr_eq, wr_zero, wr_one, wr_m1, bst_lst, byteC, partsOK, putAll, appV, nilV, slV, sslV, optB, optNum, and_assoc, exists_and_left, exists_eq_left']
    all_goals repeat' (first | intro _ | (simp [sx_skip, sx_ops, sx_seq, sx_cond, sx_block, sx_exit, sx_ret, sx_mcall, sx_mcallx, sx_mcell, sx_mset, sx_mnset, elAt, setEl, inAt, elIn, setIn, isLst, cellsOf, sxl_nil, sxl_set, sxl_call, sxl_callv, sxl_g1, sxl_g2, sxl_g3, sxl_g4, OkS_true, GrdS_tt, GrdS_tf, GrdS_ft, GrdS_ff, CondS_t, CondS_f, then_n, then_e, then_r, blk_n, blk_e, blk_r, upd_app, Ex.ok, Ex.val, Opd.val, POp.dst, bin_int, binOK_int, bin_str, binOK_str, resOK, resV, RB.val, sub, putc, scB, scL, oneB, conf, Ex.val.eqP, Ex.val.eqL, negV, mxV, mnV, ← wr_eq, wr_zero, wr_one, wr_m1, bst_lst, byteC, partsOK, putAll, appV, nilV, slV, sslV, optB, optNum, and_assoc, exists_and_left, exists_eq_left', *]) | refine CallS_i (cC) ?_ | refine CallS_i (c1) ?_ | refine CallS_i (s1) ?_ | refine CallM_i (cC) ?_ | refine CallM_i (c1) ?_ | refine CallM_i (s1) ?_ | refine CallE_i (cC) ?_ | refine CallE_i (c1) ?_ | refine CallE_i (s1) ?_ | refine CallX_i (cC) ?_ | refine CallX_i (c1) ?_ | refine CallX_i (s1) ?_ | refine CondS_d (fun h => ?_) (fun h => ?_) | refine CondS_b (fun h => ?_) (fun h => ?_) | refine GrdS_d (fun h => ?_) (fun h => ?_) | refine GrdS_b (fun h => ?_) (fun h => ?_) | refine OkS_i (by omega) ?_ | fail)
  by_cases h2 : e.f0 = 2
  · have hO : apO l e = tkF l e.f2 := by unfold apO; rw [if_neg h1, if_pos h2]
    have hB : apB l e = (wSrc l && decide (0 ≤ wFind l e.f2)) := by unfold apB; rw [if_neg h1, if_pos h2]
    rw [hB] at hbe hRR
    rw [hO] at hRR
    have k3 : b = true → wSrc (tkF l e.f2) = true := fun h => k2 (by rw [h] at hbe; simp at hbe; exact hbe.1)
    obtain ⟨T, hT⟩ : ∃ T, (tkF l e.f2).map ft = T := ⟨_, rfl⟩
    rw [hT] at c2 s2 hRR
    rw [hbe] at c2 hRR
    subst hRR
    clear hT hO hB hbe c1 c3 s1 s3 k2
    cases b
    all_goals try rw [k3 rfl] at s2
    all_goals clear k3
    all_goals refine Fn.by_sx hX (by kernel_rfl) c42 (by kernel_rfl) (by rfl) ?_
    all_goals simp [i42, sx_skip, sx_ops, sx_seq, sx_cond, sx_block, sx_exit, sx_ret, sx_mcall, sx_mcallx, sx_mcell, sx_mset, sx_mnset, elAt, setEl, inAt, elIn, setIn, isLst, cellsOf, sxl_nil, sxl_set, sxl_call, sxl_callv, sxl_g1, sxl_g2, sxl_g3, sxl_g4, OkS_true, GrdS_tt, GrdS_tf, GrdS_ft, GrdS_ff, CondS_t, CondS_f, then_n, then_e, then_r, blk_n, blk_e, blk_r, upd_app, Ex.ok, Ex.val, Opd.val, POp.dst, bin_int, binOK_int, bin_str, binOK_str, resOK, resV, RB.val, sub, putc, scB, scL, oneB, conf, Ex.val.eqP, Ex.val.eqL, negV, mxV, mnV, ← wr_eq, wr_zero, wr_one, wr_m1, bst_lst, byteC, partsOK, putAll, appV, nilV, slV, sslV, optB, optNum, and_assoc, exists_and_left, exists_eq_left']
    all_goals repeat' (first | intro _ | (simp [sx_skip, sx_ops, sx_seq, sx_cond, sx_block, sx_exit, sx_ret, sx_mcall, sx_mcallx, sx_mcell, sx_mset, sx_mnset, elAt, setEl, inAt, elIn, setIn, isLst, cellsOf, sxl_nil, sxl_set, sxl_call, sxl_callv, sxl_g1, sxl_g2, sxl_g3, sxl_g4, OkS_true, GrdS_tt, GrdS_tf, GrdS_ft, GrdS_ff, CondS_t, CondS_f, then_n, then_e, then_r, blk_n, blk_e, blk_r, upd_app, Ex.ok, Ex.val, Opd.val, POp.dst, bin_int, binOK_int, bin_str, binOK_str, resOK, resV, RB.val, sub, putc, scB, scL, oneB, conf, Ex.val.eqP, Ex.val.eqL, negV, mxV, mnV, ← wr_eq, wr_zero, wr_one, wr_m1, bst_lst, byteC, partsOK, putAll, appV, nilV, slV, sslV, optB, optNum, and_assoc, exists_and_left, exists_eq_left', *]) | refine CallS_i (cC) ?_ | refine CallS_i (c2) ?_ | refine CallS_i (s2) ?_ | refine CallM_i (cC) ?_ | refine CallM_i (c2) ?_ | refine CallM_i (s2) ?_ | refine CallE_i (cC) ?_ | refine CallE_i (c2) ?_ | refine CallE_i (s2) ?_ | refine CallX_i (cC) ?_ | refine CallX_i (c2) ?_ | refine CallX_i (s2) ?_ | refine CondS_d (fun h => ?_) (fun h => ?_) | refine CondS_b (fun h => ?_) (fun h => ?_) | refine GrdS_d (fun h => ?_) (fun h => ?_) | refine GrdS_b (fun h => ?_) (fun h => ?_) | refine OkS_i (by omega) ?_ | fail)
  by_cases h3 : e.f0 = 3
  · have hO : apO l e = mvO l e := by unfold apO; rw [if_neg h1, if_neg h2]
    have hB : apB l e = (mvB l e && wSrc (mvO l e)) := by unfold apB; rw [if_neg h1, if_neg h2, if_pos h3]
    rw [hB] at hbe hRR
    rw [hO] at hRR
    obtain ⟨T, hT⟩ : ∃ T, (mvO l e).map ft = T := ⟨_, rfl⟩
    obtain ⟨b3, hb3⟩ : ∃ b, mvB l e = b := ⟨_, rfl⟩
    obtain ⟨b4, hb4⟩ : ∃ b, wSrc (mvO l e) = b := ⟨_, rfl⟩
    rw [hT] at c3 s3 hRR
    rw [hb3] at c3 hRR hbe
    rw [hb4] at s3 hRR hbe
    subst hRR
    subst hbe
    clear hT hO hB c1 c2 s1 s2 k2 hb3 hb4
    rw [h3] at c3
    cases b3 <;> cases b4
    all_goals refine Fn.by_sx hX (by kernel_rfl) c42 (by kernel_rfl) (by rfl) ?_
    all_goals simp [i42, sx_skip, sx_ops, sx_seq, sx_cond, sx_block, sx_exit, sx_ret, sx_mcall, sx_mcallx, sx_mcell, sx_mset, sx_mnset, elAt, setEl, inAt, elIn, setIn, isLst, cellsOf, sxl_nil, sxl_set, sxl_call, sxl_callv, sxl_g1, sxl_g2, sxl_g3, sxl_g4, OkS_true, GrdS_tt, GrdS_tf, GrdS_ft, GrdS_ff, CondS_t, CondS_f, then_n, then_e, then_r, blk_n, blk_e, blk_r, upd_app, Ex.ok, Ex.val, Opd.val, POp.dst, bin_int, binOK_int, bin_str, binOK_str, resOK, resV, RB.val, sub, putc, scB, scL, oneB, conf, Ex.val.eqP, Ex.val.eqL, negV, mxV, mnV, ← wr_eq, wr_zero, wr_one, wr_m1, bst_lst, byteC, partsOK, putAll, appV, nilV, slV, sslV, optB, optNum, and_assoc, exists_and_left, exists_eq_left']
    all_goals repeat' (first | intro _ | (simp [sx_skip, sx_ops, sx_seq, sx_cond, sx_block, sx_exit, sx_ret, sx_mcall, sx_mcallx, sx_mcell, sx_mset, sx_mnset, elAt, setEl, inAt, elIn, setIn, isLst, cellsOf, sxl_nil, sxl_set, sxl_call, sxl_callv, sxl_g1, sxl_g2, sxl_g3, sxl_g4, OkS_true, GrdS_tt, GrdS_tf, GrdS_ft, GrdS_ff, CondS_t, CondS_f, then_n, then_e, then_r, blk_n, blk_e, blk_r, upd_app, Ex.ok, Ex.val, Opd.val, POp.dst, bin_int, binOK_int, bin_str, binOK_str, resOK, resV, RB.val, sub, putc, scB, scL, oneB, conf, Ex.val.eqP, Ex.val.eqL, negV, mxV, mnV, ← wr_eq, wr_zero, wr_one, wr_m1, bst_lst, byteC, partsOK, putAll, appV, nilV, slV, sslV, optB, optNum, and_assoc, exists_and_left, exists_eq_left', *]) | refine CallS_i (cC) ?_ | refine CallS_i (c3) ?_ | refine CallS_i (s3) ?_ | refine CallM_i (cC) ?_ | refine CallM_i (c3) ?_ | refine CallM_i (s3) ?_ | refine CallE_i (cC) ?_ | refine CallE_i (c3) ?_ | refine CallE_i (s3) ?_ | refine CallX_i (cC) ?_ | refine CallX_i (c3) ?_ | refine CallX_i (s3) ?_ | refine CondS_d (fun h => ?_) (fun h => ?_) | refine CondS_b (fun h => ?_) (fun h => ?_) | refine GrdS_d (fun h => ?_) (fun h => ?_) | refine GrdS_b (fun h => ?_) (fun h => ?_) | refine OkS_i (by omega) ?_ | fail)
  · have hB : apB l e = false := by unfold apB; rw [if_neg h1, if_neg h2, if_neg h3]
    rw [hB] at hbe hRR
    subst hRR
    subst hbe
    clear hB c1 c2 c3 s1 s2 s3 k2
    refine Fn.by_sx hX (by kernel_rfl) c42 (by kernel_rfl) (by rfl) ?_
    simp [i42, sx_skip, sx_ops, sx_seq, sx_cond, sx_block, sx_exit, sx_ret, sx_mcall, sx_mcallx, sx_mcell, sx_mset, sx_mnset, elAt, setEl, inAt, elIn, setIn, isLst, cellsOf, sxl_nil, sxl_set, sxl_call, sxl_callv, sxl_g1, sxl_g2, sxl_g3, sxl_g4, OkS_true, GrdS_tt, GrdS_tf, GrdS_ft, GrdS_ff, CondS_t, CondS_f, then_n, then_e, then_r, blk_n, blk_e, blk_r, upd_app, Ex.ok, Ex.val, Opd.val, POp.dst, bin_int, binOK_int, bin_str, binOK_str, resOK, resV, RB.val, sub, putc, scB, scL, oneB, conf, Ex.val.eqP, Ex.val.eqL, negV, mxV, mnV, ← wr_eq, wr_zero, wr_one, wr_m1, bst_lst, byteC, partsOK, putAll, appV, nilV, slV, sslV, optB, optNum, and_assoc, exists_and_left, exists_eq_left']
    repeat' (first | intro _ | (simp [sx_skip, sx_ops, sx_seq, sx_cond, sx_block, sx_exit, sx_ret, sx_mcall, sx_mcallx, sx_mcell, sx_mset, sx_mnset, elAt, setEl, inAt, elIn, setIn, isLst, cellsOf, sxl_nil, sxl_set, sxl_call, sxl_callv, sxl_g1, sxl_g2, sxl_g3, sxl_g4, OkS_true, GrdS_tt, GrdS_tf, GrdS_ft, GrdS_ff, CondS_t, CondS_f, then_n, then_e, then_r, blk_n, blk_e, blk_r, upd_app, Ex.ok, Ex.val, Opd.val, POp.dst, bin_int, binOK_int, bin_str, binOK_str, resOK, resV, RB.val, sub, putc, scB, scL, oneB, conf, Ex.val.eqP, Ex.val.eqL, negV, mxV, mnV, ← wr_eq, wr_zero, wr_one, wr_m1, bst_lst, byteC, partsOK, putAll, appV, nilV, slV, sslV, optB, optNum, and_assoc, exists_and_left, exists_eq_left', *]) | refine CallS_i (cC) ?_ | refine CallM_i (cC) ?_ | refine CallE_i (cC) ?_ | refine CallX_i (cC) ?_ | refine CondS_d (fun h => ?_) (fun h => ?_) | refine CondS_b (fun h => ?_) (fun h => ?_) | refine GrdS_d (fun h => ?_) (fun h => ?_) | refine GrdS_b (fun h => ?_) (fun h => ?_) | refine OkS_i (by omega) ?_ | fail)
theorem f44 (l : List Ft) (e : Ei) (nl : Bool) (hl : l.length ≤ 1048576) (hb : ∀ x ∈ l, x.okay) (he : e.f1.okay) (hp : ∀ x ∈ l, x.f4.length ≤ 1000000000) (hpe : e.f1.f4.length ≤ 1000000000)
    (hn : ∀ x ∈ l, x.nl = false) (hne : e.f1.nl = false) :
    Fn Try.prog 44 true [.lst 5 nl (l.map ft), .agg (ei e)] (.tup [.lst 5 false ((apL l e).map ft), .bool (apB l e)]) := by
  have cC := f110 l nl (by omega) hp hn
  have c1 := f107 l e.f1 nl hl hb he hp hpe hn hne
  have c2 := f108 l e.f2 nl hl hb hp hn
  have c3 := f109 l e nl hl hp hb hn
  have hee : ei e = [i e.f0, i e.f1.f0, i e.f1.f1, i e.f1.f2, .str e.f1.f3, .lst 2 e.f1.nl (e.f1.f4.map cp), i e.f2, i e.f3, i e.f4] := rfl
  have hff : ft e.f1 = [i e.f1.f0, i e.f1.f1, i e.f1.f2, .str e.f1.f3, .lst 2 e.f1.nl (e.f1.f4.map cp)] := rfl
  rw [hee] at c3 ⊢
  rw [hff] at c1
  rw [hne] at c1 c3
  clear hee hff
  by_cases h1 : e.f0 = 1
  · have hB : apB l e = wSrc (pfS l e.f1) := by unfold apB; rw [if_pos h1]
    have hL : apL l e = putL l e.f1 := by unfold apL apO putL; rw [hB, if_pos h1]
    rw [hB, hL]
    obtain ⟨T, hT⟩ : ∃ T, (putL l e.f1).map ft = T := ⟨_, rfl⟩
    obtain ⟨b, hbe⟩ : ∃ b, wSrc (pfS l e.f1) = b := ⟨_, rfl⟩
    rw [hT, hbe] at c1 ⊢
    have hne2 : ¬ e.f0 = 2 := by omega
    have hne3 : ¬ e.f0 = 3 := by omega
    clear hT hbe hL hB c2 c3 cC hb hp hn
    refine Fn.by_sx hX (by kernel_rfl) c44 (by kernel_rfl) (by rfl) ?_
    simp [i44, sx_skip, sx_ops, sx_seq, sx_cond, sx_block, sx_exit, sx_ret, sx_mcall, sx_mcallx, sx_mcell, sx_mset, sx_mnset, elAt, setEl, inAt, elIn, setIn, isLst, cellsOf, sxl_nil, sxl_set, sxl_call, sxl_callv, sxl_g1, sxl_g2, sxl_g3, sxl_g4, OkS_true, GrdS_tt, GrdS_tf, GrdS_ft, GrdS_ff, CondS_t, CondS_f, then_n, then_e, then_r, blk_n, blk_e, blk_r, upd_app, Ex.ok, Ex.val, Opd.val, POp.dst, bin_int, binOK_int, bin_str, binOK_str, resOK, resV, RB.val, sub, putc, scB, scL, oneB, conf, Ex.val.eqP, Ex.val.eqL, negV, mxV, mnV, ← wr_eq, wr_zero, wr_one, wr_m1, bst_lst, byteC, partsOK, putAll, appV, nilV, slV, sslV, optB, optNum, and_assoc, exists_and_left, exists_eq_left']
    repeat' (first | intro _ | (simp [sx_skip, sx_ops, sx_seq, sx_cond, sx_block, sx_exit, sx_ret, sx_mcall, sx_mcallx, sx_mcell, sx_mset, sx_mnset, elAt, setEl, inAt, elIn, setIn, isLst, cellsOf, sxl_nil, sxl_set, sxl_call, sxl_callv, sxl_g1, sxl_g2, sxl_g3, sxl_g4, OkS_true, GrdS_tt, GrdS_tf, GrdS_ft, GrdS_ff, CondS_t, CondS_f, then_n, then_e, then_r, blk_n, blk_e, blk_r, upd_app, Ex.ok, Ex.val, Opd.val, POp.dst, bin_int, binOK_int, bin_str, binOK_str, resOK, resV, RB.val, sub, putc, scB, scL, oneB, conf, Ex.val.eqP, Ex.val.eqL, negV, mxV, mnV, ← wr_eq, wr_zero, wr_one, wr_m1, bst_lst, byteC, partsOK, putAll, appV, nilV, slV, sslV, optB, optNum, and_assoc, exists_and_left, exists_eq_left', *]) | refine CallS_i (c1) ?_ | refine CallM_i (c1) ?_ | refine CallE_i (c1) ?_ | refine CallX_i (c1) ?_ | refine CondS_d (fun h => ?_) (fun h => ?_) | refine CondS_b (fun h => ?_) (fun h => ?_) | refine GrdS_d (fun h => ?_) (fun h => ?_) | refine GrdS_b (fun h => ?_) (fun h => ?_) | refine OkS_i (by omega) ?_ | fail)
  by_cases h2 : e.f0 = 2
  · have hB : apB l e = (wSrc l && decide (0 ≤ wFind l e.f2)) := by unfold apB; rw [if_neg h1, if_pos h2]
    have hL : apL l e = if (wSrc l && decide (0 ≤ wFind l e.f2)) = true then tkF l e.f2 else l.map Ft.fr := by unfold apL apO; rw [hB, if_neg h1, if_pos h2]
    rw [hB, hL]
    obtain ⟨T, hT⟩ : ∃ T, (if (wSrc l && decide (0 ≤ wFind l e.f2)) = true then tkF l e.f2 else l.map Ft.fr).map ft = T := ⟨_, rfl⟩
    rw [hT] at c2 ⊢
    obtain ⟨b, hbe⟩ : ∃ b, (wSrc l && decide (0 ≤ wFind l e.f2)) = b := ⟨_, rfl⟩
    rw [hbe] at c2 ⊢
    clear hT hbe hL hB c1 c3 cC hb hp hn
    refine Fn.by_sx hX (by kernel_rfl) c44 (by kernel_rfl) (by rfl) ?_
    simp [i44, sx_skip, sx_ops, sx_seq, sx_cond, sx_block, sx_exit, sx_ret, sx_mcall, sx_mcallx, sx_mcell, sx_mset, sx_mnset, elAt, setEl, inAt, elIn, setIn, isLst, cellsOf, sxl_nil, sxl_set, sxl_call, sxl_callv, sxl_g1, sxl_g2, sxl_g3, sxl_g4, OkS_true, GrdS_tt, GrdS_tf, GrdS_ft, GrdS_ff, CondS_t, CondS_f, then_n, then_e, then_r, blk_n, blk_e, blk_r, upd_app, Ex.ok, Ex.val, Opd.val, POp.dst, bin_int, binOK_int, bin_str, binOK_str, resOK, resV, RB.val, sub, putc, scB, scL, oneB, conf, Ex.val.eqP, Ex.val.eqL, negV, mxV, mnV, ← wr_eq, wr_zero, wr_one, wr_m1, bst_lst, byteC, partsOK, putAll, appV, nilV, slV, sslV, optB, optNum, and_assoc, exists_and_left, exists_eq_left']
    repeat' (first | intro _ | (simp [sx_skip, sx_ops, sx_seq, sx_cond, sx_block, sx_exit, sx_ret, sx_mcall, sx_mcallx, sx_mcell, sx_mset, sx_mnset, elAt, setEl, inAt, elIn, setIn, isLst, cellsOf, sxl_nil, sxl_set, sxl_call, sxl_callv, sxl_g1, sxl_g2, sxl_g3, sxl_g4, OkS_true, GrdS_tt, GrdS_tf, GrdS_ft, GrdS_ff, CondS_t, CondS_f, then_n, then_e, then_r, blk_n, blk_e, blk_r, upd_app, Ex.ok, Ex.val, Opd.val, POp.dst, bin_int, binOK_int, bin_str, binOK_str, resOK, resV, RB.val, sub, putc, scB, scL, oneB, conf, Ex.val.eqP, Ex.val.eqL, negV, mxV, mnV, ← wr_eq, wr_zero, wr_one, wr_m1, bst_lst, byteC, partsOK, putAll, appV, nilV, slV, sslV, optB, optNum, and_assoc, exists_and_left, exists_eq_left', *]) | refine CallS_i (c2) ?_ | refine CallM_i (c2) ?_ | refine CallE_i (c2) ?_ | refine CallX_i (c2) ?_ | refine CondS_d (fun h => ?_) (fun h => ?_) | refine CondS_b (fun h => ?_) (fun h => ?_) | refine GrdS_d (fun h => ?_) (fun h => ?_) | refine GrdS_b (fun h => ?_) (fun h => ?_) | refine OkS_i (by omega) ?_ | fail)
  by_cases h3 : e.f0 = 3
  · have hB : apB l e = (mvB l e && wSrc (mvO l e)) := by unfold apB; rw [if_neg h1, if_neg h2, if_pos h3]
    have hL : (apL l e).map ft = if (mvB l e && wSrc (mvO l e)) = true then (mvO l e).map ft else (l.map Ft.fr).map ft := by unfold apL apO; rw [hB, if_neg h1, if_neg h2]; split <;> rfl
    rw [hB, hL]
    obtain ⟨T, hT⟩ : ∃ T, (mvO l e).map ft = T := ⟨_, rfl⟩
    obtain ⟨C, hC⟩ : ∃ C, (l.map Ft.fr).map ft = C := ⟨_, rfl⟩
    rw [hT] at c3 ⊢
    rw [hC] at cC ⊢
    obtain ⟨b, hbe⟩ : ∃ b, (mvB l e && wSrc (mvO l e)) = b := ⟨_, rfl⟩
    rw [hbe] at c3 ⊢
    clear hT hC hbe hL hB c1 c2 hb hp hn
    rw [h3] at c3
    cases b
    all_goals refine Fn.by_sx hX (by kernel_rfl) c44 (by kernel_rfl) (by rfl) ?_
    all_goals simp [i44, sx_skip, sx_ops, sx_seq, sx_cond, sx_block, sx_exit, sx_ret, sx_mcall, sx_mcallx, sx_mcell, sx_mset, sx_mnset, elAt, setEl, inAt, elIn, setIn, isLst, cellsOf, sxl_nil, sxl_set, sxl_call, sxl_callv, sxl_g1, sxl_g2, sxl_g3, sxl_g4, OkS_true, GrdS_tt, GrdS_tf, GrdS_ft, GrdS_ff, CondS_t, CondS_f, then_n, then_e, then_r, blk_n, blk_e, blk_r, upd_app, Ex.ok, Ex.val, Opd.val, POp.dst, bin_int, binOK_int, bin_str, binOK_str, resOK, resV, RB.val, sub, putc, scB, scL, oneB, conf, Ex.val.eqP, Ex.val.eqL, negV, mxV, mnV, ← wr_eq, wr_zero, wr_one, wr_m1, bst_lst, byteC, partsOK, putAll, appV, nilV, slV, sslV, optB, optNum, and_assoc, exists_and_left, exists_eq_left']
    all_goals repeat' (first | intro _ | (simp [sx_skip, sx_ops, sx_seq, sx_cond, sx_block, sx_exit, sx_ret, sx_mcall, sx_mcallx, sx_mcell, sx_mset, sx_mnset, elAt, setEl, inAt, elIn, setIn, isLst, cellsOf, sxl_nil, sxl_set, sxl_call, sxl_callv, sxl_g1, sxl_g2, sxl_g3, sxl_g4, OkS_true, GrdS_tt, GrdS_tf, GrdS_ft, GrdS_ff, CondS_t, CondS_f, then_n, then_e, then_r, blk_n, blk_e, blk_r, upd_app, Ex.ok, Ex.val, Opd.val, POp.dst, bin_int, binOK_int, bin_str, binOK_str, resOK, resV, RB.val, sub, putc, scB, scL, oneB, conf, Ex.val.eqP, Ex.val.eqL, negV, mxV, mnV, ← wr_eq, wr_zero, wr_one, wr_m1, bst_lst, byteC, partsOK, putAll, appV, nilV, slV, sslV, optB, optNum, and_assoc, exists_and_left, exists_eq_left', *]) | refine CallS_i (c3) ?_ | refine CallS_i (cC) ?_ | refine CallM_i (c3) ?_ | refine CallM_i (cC) ?_ | refine CallE_i (c3) ?_ | refine CallE_i (cC) ?_ | refine CallX_i (c3) ?_ | refine CallX_i (cC) ?_ | refine CondS_d (fun h => ?_) (fun h => ?_) | refine CondS_b (fun h => ?_) (fun h => ?_) | refine GrdS_d (fun h => ?_) (fun h => ?_) | refine GrdS_b (fun h => ?_) (fun h => ?_) | refine OkS_i (by omega) ?_ | fail)
  · have hB : apB l e = false := by unfold apB; rw [if_neg h1, if_neg h2, if_neg h3]
    have hL : (apL l e).map ft = (l.map Ft.fr).map ft := by unfold apL; rw [hB]; rfl
    rw [hB, hL]
    obtain ⟨C, hC⟩ : ∃ C, (l.map Ft.fr).map ft = C := ⟨_, rfl⟩
    rw [hC] at cC ⊢
    clear hC hL hB c1 c2 c3 hb hp hn
    refine Fn.by_sx hX (by kernel_rfl) c44 (by kernel_rfl) (by rfl) ?_
    simp [i44, sx_skip, sx_ops, sx_seq, sx_cond, sx_block, sx_exit, sx_ret, sx_mcall, sx_mcallx, sx_mcell, sx_mset, sx_mnset, elAt, setEl, inAt, elIn, setIn, isLst, cellsOf, sxl_nil, sxl_set, sxl_call, sxl_callv, sxl_g1, sxl_g2, sxl_g3, sxl_g4, OkS_true, GrdS_tt, GrdS_tf, GrdS_ft, GrdS_ff, CondS_t, CondS_f, then_n, then_e, then_r, blk_n, blk_e, blk_r, upd_app, Ex.ok, Ex.val, Opd.val, POp.dst, bin_int, binOK_int, bin_str, binOK_str, resOK, resV, RB.val, sub, putc, scB, scL, oneB, conf, Ex.val.eqP, Ex.val.eqL, negV, mxV, mnV, ← wr_eq, wr_zero, wr_one, wr_m1, bst_lst, byteC, partsOK, putAll, appV, nilV, slV, sslV, optB, optNum, and_assoc, exists_and_left, exists_eq_left']
    repeat' (first | intro _ | (simp [sx_skip, sx_ops, sx_seq, sx_cond, sx_block, sx_exit, sx_ret, sx_mcall, sx_mcallx, sx_mcell, sx_mset, sx_mnset, elAt, setEl, inAt, elIn, setIn, isLst, cellsOf, sxl_nil, sxl_set, sxl_call, sxl_callv, sxl_g1, sxl_g2, sxl_g3, sxl_g4, OkS_true, GrdS_tt, GrdS_tf, GrdS_ft, GrdS_ff, CondS_t, CondS_f, then_n, then_e, then_r, blk_n, blk_e, blk_r, upd_app, Ex.ok, Ex.val, Opd.val, POp.dst, bin_int, binOK_int, bin_str, binOK_str, resOK, resV, RB.val, sub, putc, scB, scL, oneB, conf, Ex.val.eqP, Ex.val.eqL, negV, mxV, mnV, ← wr_eq, wr_zero, wr_one, wr_m1, bst_lst, byteC, partsOK, putAll, appV, nilV, slV, sslV, optB, optNum, and_assoc, exists_and_left, exists_eq_left', *]) | refine CallS_i (cC) ?_ | refine CallM_i (cC) ?_ | refine CallE_i (cC) ?_ | refine CallX_i (cC) ?_ | refine CondS_d (fun h => ?_) (fun h => ?_) | refine CondS_b (fun h => ?_) (fun h => ?_) | refine GrdS_d (fun h => ?_) (fun h => ?_) | refine GrdS_b (fun h => ?_) (fun h => ?_) | refine OkS_i (by omega) ?_ | fail)
end Go.Eng
namespace Go.Eng
open Go Go.Proofs Geo Go.RowKit
set_option linter.unusedSimpArgs false
set_option linter.unusedVariables false
set_option maxRecDepth 20000
set_option maxHeartbeats 1000000

/-! edits are applied one by one. WRITES -/
def apTo (l : List Ft) (es : List Ei) : Nat → List Ft
  | 0 => l.map Ft.fr
  | n + 1 => apL (apTo l es n) (es.getD n eiD)
def cnTo (l : List Ft) (es : List Ei) : Nat → Int
  | 0 => 0
  | n + 1 => cnTo l es n + (if apB (apTo l es n) (es.getD n eiD) = true then 1 else 0)
theorem cnTo_b (l : List Ft) (es : List Ei) : ∀ n, 0 ≤ cnTo l es n ∧ cnTo l es n ≤ n
  | 0 => by simp [cnTo]
  | n + 1 => by have := cnTo_b l es n; unfold cnTo; split <;> omega
def Ft.neat (x : Ft) : Prop := x.f3.size ≤ 1048576 ∧ x.f4.length ≤ 1048576 ∧ x.nl = false
theorem Ft.neat.ok {x : Ft} (h : x.neat) : x.okay := ⟨by have := h.1; omega, by have := h.2.1; omega⟩
theorem Ft.neat.frn {x : Ft} (h : x.neat) : x.fr.neat := ⟨h.1, h.2.1, rfl⟩
theorem Ft.neat.mvn {x : Ft} (h : x.neat) (dx dy : Int) (n : Nat) : (mvX dx dy x n).neat := ⟨h.1, by rw [mvX_len]; exact h.2.1, rfl⟩
theorem apL_neat {l : List Ft} {e : Ei} (hl : ∀ x ∈ l, x.neat) (he : e.f1.neat) : ∀ x ∈ apL l e, x.neat := by
  have h1 : ∀ x ∈ l.map Ft.fr, x.neat := fun x hx => by
    obtain ⟨y, hy, rfl⟩ := List.mem_map.1 hx
    exact (hl y hy).frn
  unfold apL
  split
  · unfold apO
    split
    · exact pfS_ok (p := Ft.neat) (fun x hx => (hl x hx).frn) he.frn
    · split
      · exact tkF_ok (p := Ft.neat) (fun x hx => (hl x hx).frn)
      · exact mvO_ok (p := Ft.neat) (fun x hx => (hl x hx).frn) (fun x hx n => (hl x hx).mvn _ _ n)
  · exact h1
theorem wSrc_len {l : List Ft} (h : wSrc l = true) : l.length ≤ 16 := (wSrc_iff.1 h).1
theorem apO_len {l : List Ft} {e : Ei} (h : apB l e = true) : (apO l e).length ≤ 16 := by
  unfold apB at h
  unfold apO
  split at h
  · rw [if_pos (by assumption)]; exact wSrc_len h
  · rw [if_neg (by assumption)]
    split at h
    · rw [if_pos (by assumption)]
      simp only [Bool.and_eq_true] at h
      exact wSrc_len (tkF_src h.1)
    · rw [if_neg (by assumption)]
      split at h
      · simp only [Bool.and_eq_true] at h
        exact wSrc_len h.2
      · cases h
theorem fr_fr (l : List Ft) : (l.map Ft.fr).map Ft.fr = l.map Ft.fr := by rw [List.map_map]; rfl
theorem apTo_good (l : List Ft) (es : List Ei) : ∀ n, apTo l es n = l.map Ft.fr ∨ (apTo l es n).length ≤ 16
  | 0 => .inl rfl
  | n + 1 => by
    unfold apTo apL
    split
    · rename_i h
      exact .inr (apO_len h)
    · rcases apTo_good l es n with h | h
      · rw [h, fr_fr]; exact .inl rfl
      · exact .inr (by simpa using h)
theorem apTo_len {l : List Ft} {es : List Ei} (n : Nat) (h : l.length ≤ 1048576) : (apTo l es n).length ≤ 1048576 := by
  rcases apTo_good l es n with h1 | h1
  · rw [h1, List.length_map]; exact h
  · omega
theorem apTo_neat {l : List Ft} {es : List Ei} (hl : ∀ x ∈ l, x.neat) (he : ∀ x ∈ es, x.f1.neat) : ∀ n, n ≤ es.length → ∀ x ∈ apTo l es n, x.neat
  | 0, _ => fun x hx => by
    unfold apTo at hx
    obtain ⟨y, hy, rfl⟩ := List.mem_map.1 hx
    exact (hl y hy).frn
  | n + 1, hn => by
    unfold apTo
    exact apL_neat (apTo_neat hl he n (by omega)) (by simp [show n < es.length by omega]; exact he _ (List.getElem_mem ..))
theorem f67 (l : List Ft) (es : List Ei) (n1 n2 : Bool) (hl : l.length ≤ 1048576 ∧ ∀ x ∈ l, x.neat) (he : es.length ≤ 1048576 ∧ ∀ x ∈ es, x.f1.neat) :
    Fn Try.prog 67 true [.lst 5 n1 (l.map ft), .lst 9 n2 (es.map ei)] (.tup [.lst 5 false ((apTo l es es.length).map ft), i (cnTo l es es.length)]) := by
  have cC := f103 l n1 (by omega) (fun x hx => by have := (hl.2 x hx).2.1; omega)
  have h00 : (apTo l es 0).map ft = (l.map Ft.fr).map ft := rfl
  rw [← h00] at cC
  clear h00
  refine Fn.by_sx hX (by kernel_rfl) c67 (by kernel_rfl) (by rfl) ?_
  simp [i67, sx_skip, sx_ops, sx_seq, sx_cond, sx_block, sx_exit, sx_ret, sx_mcall, sx_mcallx, sx_mcell, sx_mset, sx_mnset, elAt, setEl, inAt, elIn, setIn, isLst, cellsOf, sxl_nil, sxl_set, sxl_call, sxl_callv, sxl_g1, sxl_g2, sxl_g3, sxl_g4, OkS_true, GrdS_tt, GrdS_tf, GrdS_ft, GrdS_ff, CondS_t, CondS_f, then_n, then_e, then_r, blk_n, blk_e, blk_r, upd_app, Ex.ok, Ex.val, Opd.val, POp.dst, bin_int, binOK_int, bin_str, binOK_str, resOK, resV, RB.val, sub, putc, scB, scL, oneB, conf, Ex.val.eqP, Ex.val.eqL, negV, mxV, mnV, ← wr_eq, wr_zero, wr_one, wr_m1, bst_lst, byteC, partsOK, putAll, appV, nilV, slV, sslV, optB, optNum, and_assoc, exists_and_left, exists_eq_left']
  repeat' (first | intro _ | (simp [sx_skip, sx_ops, sx_seq, sx_cond, sx_block, sx_exit, sx_ret, sx_mcall, sx_mcallx, sx_mcell, sx_mset, sx_mnset, elAt, setEl, inAt, elIn, setIn, isLst, cellsOf, sxl_nil, sxl_set, sxl_call, sxl_callv, sxl_g1, sxl_g2, sxl_g3, sxl_g4, OkS_true, GrdS_tt, GrdS_tf, GrdS_ft, GrdS_ff, CondS_t, CondS_f, then_n, then_e, then_r, blk_n, blk_e, blk_r, upd_app, Ex.ok, Ex.val, Opd.val, POp.dst, bin_int, binOK_int, bin_str, binOK_str, resOK, resV, RB.val, sub, putc, scB, scL, oneB, conf, Ex.val.eqP, Ex.val.eqL, negV, mxV, mnV, ← wr_eq, wr_zero, wr_one, wr_m1, bst_lst, byteC, partsOK, putAll, appV, nilV, slV, sslV, optB, optNum, and_assoc, exists_and_left, exists_eq_left', *]) | refine CallS_i (cC) ?_ | refine CallM_i (cC) ?_ | refine CallE_i (cC) ?_ | refine CallX_i (cC) ?_ | refine CondS_d (fun h => ?_) (fun h => ?_) | refine CondS_b (fun h => ?_) (fun h => ?_) | refine GrdS_d (fun h => ?_) (fun h => ?_) | refine GrdS_b (fun h => ?_) (fun h => ?_) | refine OkS_i (by omega) ?_ | fail)
  refine sx_count es.length (fun n V => V 1 = .lst 9 n2 (es.map ei) ∧ V 6 = .lst 5 false ((apTo l es n).map ft) ∧ V 7 = i (cnTo l es n) ∧ V 8 = i n) 0 (by omega) (by simp [sx_skip, sx_ops, sx_seq, sx_cond, sx_block, sx_exit, sx_ret, sx_mcall, sx_mcallx, sx_mcell, sx_mset, sx_mnset, elAt, setEl, inAt, elIn, setIn, isLst, cellsOf, sxl_nil, sxl_set, sxl_call, sxl_callv, sxl_g1, sxl_g2, sxl_g3, sxl_g4, OkS_true, GrdS_tt, GrdS_tf, GrdS_ft, GrdS_ff, CondS_t, CondS_f, then_n, then_e, then_r, blk_n, blk_e, blk_r, upd_app, Ex.ok, Ex.val, Opd.val, POp.dst, bin_int, binOK_int, bin_str, binOK_str, resOK, resV, RB.val, sub, putc, scB, scL, oneB, conf, Ex.val.eqP, Ex.val.eqL, negV, mxV, mnV, ← wr_eq, wr_zero, wr_one, wr_m1, bst_lst, byteC, partsOK, putAll, appV, nilV, slV, sslV, optB, optNum, and_assoc, exists_and_left, exists_eq_left', cnTo]) ?_
  rintro n V hn ⟨h1, h6, h7, h8⟩
  have hw : wr .i64 ((n : Int) + 1) = n + 1 := wr_in (by omega) (by omega)
  simp [sx_skip, sx_ops, sx_seq, sx_cond, sx_block, sx_exit, sx_ret, sx_mcall, sx_mcallx, sx_mcell, sx_mset, sx_mnset, elAt, setEl, inAt, elIn, setIn, isLst, cellsOf, sxl_nil, sxl_set, sxl_call, sxl_callv, sxl_g1, sxl_g2, sxl_g3, sxl_g4, OkS_true, GrdS_tt, GrdS_tf, GrdS_ft, GrdS_ff, CondS_t, CondS_f, then_n, then_e, then_r, blk_n, blk_e, blk_r, upd_app, Ex.ok, Ex.val, Opd.val, POp.dst, bin_int, binOK_int, bin_str, binOK_str, resOK, resV, RB.val, sub, putc, scB, scL, oneB, conf, Ex.val.eqP, Ex.val.eqL, negV, mxV, mnV, ← wr_eq, wr_zero, wr_one, wr_m1, bst_lst, byteC, partsOK, putAll, appV, nilV, slV, sslV, optB, optNum, and_assoc, exists_and_left, exists_eq_left', h1, h8]
  refine CondS_d (fun hlt => ?_) (fun hge => ?_)
  · have hlt' : n < es.length := by omega
    have hne := apTo_neat hl.2 he.2 n (by omega)
    have hln := apTo_len (es := es) n hl.1
    have hbn := he.2 es[n] (List.getElem_mem ..)
    have cT := f42 (apTo l es n) es[n] false hln (fun x hx => (hne x hx).ok) hbn.ok (fun x hx => by have := (hne x hx).2.1; omega) (by have := hbn.2.1; omega)
    have hnx : apTo l es (n + 1) = apL (apTo l es n) es[n] := by simp [apTo, hlt']
    have hcx : cnTo l es (n + 1) = cnTo l es n + (if apB (apTo l es n) es[n] = true then 1 else 0) := by simp [cnTo, hlt']
    have hcb := cnTo_b l es n
    have hw2 : wr .i64 (cnTo l es n + 1) = cnTo l es n + 1 := wr_in (by omega) (by omega)
    rw [← hnx] at cT
    obtain ⟨b, hbe⟩ : ∃ b, apB (apTo l es n) es[n] = b := ⟨_, rfl⟩
    rw [hbe] at cT hcx
    unfold ei at cT
    clear hne hbn hnx hl he hbe cC
    cases b
    all_goals repeat' (first | intro _ | (simp [sx_skip, sx_ops, sx_seq, sx_cond, sx_block, sx_exit, sx_ret, sx_mcall, sx_mcallx, sx_mcell, sx_mset, sx_mnset, elAt, setEl, inAt, elIn, setIn, isLst, cellsOf, sxl_nil, sxl_set, sxl_call, sxl_callv, sxl_g1, sxl_g2, sxl_g3, sxl_g4, OkS_true, GrdS_tt, GrdS_tf, GrdS_ft, GrdS_ff, CondS_t, CondS_f, then_n, then_e, then_r, blk_n, blk_e, blk_r, upd_app, Ex.ok, Ex.val, Opd.val, POp.dst, bin_int, binOK_int, bin_str, binOK_str, resOK, resV, RB.val, sub, putc, scB, scL, oneB, conf, Ex.val.eqP, Ex.val.eqL, negV, mxV, mnV, ← wr_eq, wr_zero, wr_one, wr_m1, bst_lst, byteC, partsOK, putAll, appV, nilV, slV, sslV, optB, optNum, and_assoc, exists_and_left, exists_eq_left', ei, *]) | refine CallS_i (cT) ?_ | refine CallM_i (cT) ?_ | refine CallE_i (cT) ?_ | refine CallX_i (cT) ?_ | refine CondS_d (fun h => ?_) (fun h => ?_) | refine CondS_b (fun h => ?_) (fun h => ?_) | refine GrdS_d (fun h => ?_) (fun h => ?_) | refine GrdS_b (fun h => ?_) (fun h => ?_) | refine OkS_i (by omega) ?_ | fail)
    all_goals first | omega | simp_all
  · have : n = es.length := by omega
    subst this
    repeat' (first | intro _ | (simp [sx_skip, sx_ops, sx_seq, sx_cond, sx_block, sx_exit, sx_ret, sx_mcall, sx_mcallx, sx_mcell, sx_mset, sx_mnset, elAt, setEl, inAt, elIn, setIn, isLst, cellsOf, sxl_nil, sxl_set, sxl_call, sxl_callv, sxl_g1, sxl_g2, sxl_g3, sxl_g4, OkS_true, GrdS_tt, GrdS_tf, GrdS_ft, GrdS_ff, CondS_t, CondS_f, then_n, then_e, then_r, blk_n, blk_e, blk_r, upd_app, Ex.ok, Ex.val, Opd.val, POp.dst, bin_int, binOK_int, bin_str, binOK_str, resOK, resV, RB.val, sub, putc, scB, scL, oneB, conf, Ex.val.eqP, Ex.val.eqL, negV, mxV, mnV, ← wr_eq, wr_zero, wr_one, wr_m1, bst_lst, byteC, partsOK, putAll, appV, nilV, slV, sslV, optB, optNum, and_assoc, exists_and_left, exists_eq_left', *]) | refine CondS_d (fun h => ?_) (fun h => ?_) | refine CondS_b (fun h => ?_) (fun h => ?_) | refine GrdS_d (fun h => ?_) (fun h => ?_) | refine GrdS_b (fun h => ?_) (fun h => ?_) | refine OkS_i (by omega) ?_ | fail)
theorem f69 (l : List Ft) (es : List Ei) (n1 n2 : Bool) (hl : l.length ≤ 1048576 ∧ ∀ x ∈ l, x.neat) (he : es.length ≤ 1048576 ∧ ∀ x ∈ es, x.f1.neat) :
    Fn Try.prog 69 true [.lst 5 n1 (l.map ft), .lst 9 n2 (es.map ei)] (.tup [.lst 5 false ((apTo l es es.length).map ft), i (cnTo l es es.length)]) := by
  have cC := f110 l n1 (by omega) (fun x hx => by have := (hl.2 x hx).2.1; omega) (fun x hx => (hl.2 x hx).2.2)
  have h00 : (apTo l es 0).map ft = (l.map Ft.fr).map ft := rfl
  rw [← h00] at cC
  clear h00
  refine Fn.by_sx hX (by kernel_rfl) c69 (by kernel_rfl) (by rfl) ?_
  simp [i69, sx_skip, sx_ops, sx_seq, sx_cond, sx_block, sx_exit, sx_ret, sx_mcall, sx_mcallx, sx_mcell, sx_mset, sx_mnset, elAt, setEl, inAt, elIn, setIn, isLst, cellsOf, sxl_nil, sxl_set, sxl_call, sxl_callv, sxl_g1, sxl_g2, sxl_g3, sxl_g4, OkS_true, GrdS_tt, GrdS_tf, GrdS_ft, GrdS_ff, CondS_t, CondS_f, then_n, then_e, then_r, blk_n, blk_e, blk_r, upd_app, Ex.ok, Ex.val, Opd.val, POp.dst, bin_int, binOK_int, bin_str, binOK_str, resOK, resV, RB.val, sub, putc, scB, scL, oneB, conf, Ex.val.eqP, Ex.val.eqL, negV, mxV, mnV, ← wr_eq, wr_zero, wr_one, wr_m1, bst_lst, byteC, partsOK, putAll, appV, nilV, slV, sslV, optB, optNum, and_assoc, exists_and_left, exists_eq_left']
  repeat' (first | intro _ | (simp [sx_skip, sx_ops, sx_seq, sx_cond, sx_block, sx_exit, sx_ret, sx_mcall, sx_mcallx, sx_mcell, sx_mset, sx_mnset, elAt, setEl, inAt, elIn, setIn, isLst, cellsOf, sxl_nil, sxl_set, sxl_call, sxl_callv, sxl_g1, sxl_g2, sxl_g3, sxl_g4, OkS_true, GrdS_tt, GrdS_tf, GrdS_ft, GrdS_ff, CondS_t, CondS_f, then_n, then_e, then_r, blk_n, blk_e, blk_r, upd_app, Ex.ok, Ex.val, Opd.val, POp.dst, bin_int, binOK_int, bin_str, binOK_str, resOK, resV, RB.val, sub, putc, scB, scL, oneB, conf, Ex.val.eqP, Ex.val.eqL, negV, mxV, mnV, ← wr_eq, wr_zero, wr_one, wr_m1, bst_lst, byteC, partsOK, putAll, appV, nilV, slV, sslV, optB, optNum, and_assoc, exists_and_left, exists_eq_left', *]) | refine CallS_i (cC) ?_ | refine CallM_i (cC) ?_ | refine CallE_i (cC) ?_ | refine CallX_i (cC) ?_ | refine CondS_d (fun h => ?_) (fun h => ?_) | refine CondS_b (fun h => ?_) (fun h => ?_) | refine GrdS_d (fun h => ?_) (fun h => ?_) | refine GrdS_b (fun h => ?_) (fun h => ?_) | refine OkS_i (by omega) ?_ | fail)
  refine sx_count es.length (fun n V => V 13 = .lst 9 n2 (es.map ei) ∧ V 14 = i es.length ∧ V 15 = i n ∧ V 6 = .lst 5 false ((apTo l es n).map ft) ∧ V 7 = i (cnTo l es n)) 0 (by omega) (by simp [sx_skip, sx_ops, sx_seq, sx_cond, sx_block, sx_exit, sx_ret, sx_mcall, sx_mcallx, sx_mcell, sx_mset, sx_mnset, elAt, setEl, inAt, elIn, setIn, isLst, cellsOf, sxl_nil, sxl_set, sxl_call, sxl_callv, sxl_g1, sxl_g2, sxl_g3, sxl_g4, OkS_true, GrdS_tt, GrdS_tf, GrdS_ft, GrdS_ff, CondS_t, CondS_f, then_n, then_e, then_r, blk_n, blk_e, blk_r, upd_app, Ex.ok, Ex.val, Opd.val, POp.dst, bin_int, binOK_int, bin_str, binOK_str, resOK, resV, RB.val, sub, putc, scB, scL, oneB, conf, Ex.val.eqP, Ex.val.eqL, negV, mxV, mnV, ← wr_eq, wr_zero, wr_one, wr_m1, bst_lst, byteC, partsOK, putAll, appV, nilV, slV, sslV, optB, optNum, and_assoc, exists_and_left, exists_eq_left', cnTo]) ?_
  rintro n V hn ⟨h13, h14, h15, h6, h7⟩
  have hw : wr .i64 ((n : Int) + 1) = n + 1 := wr_in (by omega) (by omega)
  simp [sx_skip, sx_ops, sx_seq, sx_cond, sx_block, sx_exit, sx_ret, sx_mcall, sx_mcallx, sx_mcell, sx_mset, sx_mnset, elAt, setEl, inAt, elIn, setIn, isLst, cellsOf, sxl_nil, sxl_set, sxl_call, sxl_callv, sxl_g1, sxl_g2, sxl_g3, sxl_g4, OkS_true, GrdS_tt, GrdS_tf, GrdS_ft, GrdS_ff, CondS_t, CondS_f, then_n, then_e, then_r, blk_n, blk_e, blk_r, upd_app, Ex.ok, Ex.val, Opd.val, POp.dst, bin_int, binOK_int, bin_str, binOK_str, resOK, resV, RB.val, sub, putc, scB, scL, oneB, conf, Ex.val.eqP, Ex.val.eqL, negV, mxV, mnV, ← wr_eq, wr_zero, wr_one, wr_m1, bst_lst, byteC, partsOK, putAll, appV, nilV, slV, sslV, optB, optNum, and_assoc, exists_and_left, exists_eq_left', h14, h15]
  refine CondS_d (fun hlt => ?_) (fun hge => ?_)
  · have hlt' : n < es.length := by omega
    have hne := apTo_neat hl.2 he.2 n (by omega)
    have hln := apTo_len (es := es) n hl.1
    have hbn := he.2 es[n] (List.getElem_mem ..)
    have cT := f44 (apTo l es n) es[n] false hln (fun x hx => (hne x hx).ok) hbn.ok (fun x hx => by have := (hne x hx).2.1; omega) (by have := hbn.2.1; omega) (fun x hx => (hne x hx).2.2) hbn.2.2
    have hnx : apTo l es (n + 1) = apL (apTo l es n) es[n] := by simp [apTo, hlt']
    have hcx : cnTo l es (n + 1) = cnTo l es n + (if apB (apTo l es n) es[n] = true then 1 else 0) := by simp [cnTo, hlt']
    have hcb := cnTo_b l es n
    have hw2 : wr .i64 (cnTo l es n + 1) = cnTo l es n + 1 := wr_in (by omega) (by omega)
    rw [← hnx] at cT
    obtain ⟨b, hbe⟩ : ∃ b, apB (apTo l es n) es[n] = b := ⟨_, rfl⟩
    rw [hbe] at cT hcx
    unfold ei at cT
    clear hne hbn hnx hl he hbe cC
    cases b
    all_goals repeat' (first | intro _ | (simp [sx_skip, sx_ops, sx_seq, sx_cond, sx_block, sx_exit, sx_ret, sx_mcall, sx_mcallx, sx_mcell, sx_mset, sx_mnset, elAt, setEl, inAt, elIn, setIn, isLst, cellsOf, sxl_nil, sxl_set, sxl_call, sxl_callv, sxl_g1, sxl_g2, sxl_g3, sxl_g4, OkS_true, GrdS_tt, GrdS_tf, GrdS_ft, GrdS_ff, CondS_t, CondS_f, then_n, then_e, then_r, blk_n, blk_e, blk_r, upd_app, Ex.ok, Ex.val, Opd.val, POp.dst, bin_int, binOK_int, bin_str, binOK_str, resOK, resV, RB.val, sub, putc, scB, scL, oneB, conf, Ex.val.eqP, Ex.val.eqL, negV, mxV, mnV, ← wr_eq, wr_zero, wr_one, wr_m1, bst_lst, byteC, partsOK, putAll, appV, nilV, slV, sslV, optB, optNum, and_assoc, exists_and_left, exists_eq_left', ei, *]) | refine CallS_i (cT) ?_ | refine CallM_i (cT) ?_ | refine CallE_i (cT) ?_ | refine CallX_i (cT) ?_ | refine CondS_d (fun h => ?_) (fun h => ?_) | refine CondS_b (fun h => ?_) (fun h => ?_) | refine GrdS_d (fun h => ?_) (fun h => ?_) | refine GrdS_b (fun h => ?_) (fun h => ?_) | refine OkS_i (by omega) ?_ | fail)
    all_goals first | omega | simp_all
  · have : n = es.length := by omega
    subst this
    repeat' (first | intro _ | (simp [sx_skip, sx_ops, sx_seq, sx_cond, sx_block, sx_exit, sx_ret, sx_mcall, sx_mcallx, sx_mcell, sx_mset, sx_mnset, elAt, setEl, inAt, elIn, setIn, isLst, cellsOf, sxl_nil, sxl_set, sxl_call, sxl_callv, sxl_g1, sxl_g2, sxl_g3, sxl_g4, OkS_true, GrdS_tt, GrdS_tf, GrdS_ft, GrdS_ff, CondS_t, CondS_f, then_n, then_e, then_r, blk_n, blk_e, blk_r, upd_app, Ex.ok, Ex.val, Opd.val, POp.dst, bin_int, binOK_int, bin_str, binOK_str, resOK, resV, RB.val, sub, putc, scB, scL, oneB, conf, Ex.val.eqP, Ex.val.eqL, negV, mxV, mnV, ← wr_eq, wr_zero, wr_one, wr_m1, bst_lst, byteC, partsOK, putAll, appV, nilV, slV, sslV, optB, optNum, and_assoc, exists_and_left, exists_eq_left', *]) | refine CondS_d (fun h => ?_) (fun h => ?_) | refine CondS_b (fun h => ?_) (fun h => ?_) | refine GrdS_d (fun h => ?_) (fun h => ?_) | refine GrdS_b (fun h => ?_) (fun h => ?_) | refine OkS_i (by omega) ?_ | fail)
end Go.Eng
