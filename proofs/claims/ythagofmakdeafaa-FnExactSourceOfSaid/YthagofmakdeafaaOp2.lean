/- A part of the proof of a law's statement: for every input the law returns true and leaves its arguments as they were. No condition beyond the statement's own. What each function computes. -/
import Derived.Test.YthagofmakdeafaaOp1
set_option linter.unusedVariables false
set_option linter.unusedSimpArgs false
set_option autoImplicit true
set_option relaxedAutoImplicit true
namespace Go.Eng
open Go Go.Proofs Geo
set_option linter.unusedSimpArgs false
set_option linter.unusedVariables false
set_option maxRecDepth 20000
set_option maxHeartbeats 1000000

/-! copies -/
/-- a made slice that is filled as far as n -/
def fillTo {α : Type} (g : α → List PV) (z : List PV) (l : List α) (n : Nat) : List (List PV) := (l.map g).take n ++ List.replicate (l.length - n) z
theorem fillTo_zero {α : Type} {g : α → List PV} {z : List PV} {l : List α} : fillTo g z l 0 = List.replicate l.length z := rfl
theorem fillTo_full {α : Type} {g : α → List PV} {z : List PV} {l : List α} : fillTo g z l l.length = l.map g := by
  unfold fillTo; rw [Nat.sub_self, List.take_of_length_le (by simp)]; simp
theorem fillTo_len {α : Type} {g : α → List PV} {z : List PV} {l : List α} {n : Nat} (h : n ≤ l.length) : (fillTo g z l n).length = l.length := by
  unfold fillTo; simp; omega
theorem fillTo_set {α : Type} {g : α → List PV} {z : List PV} {l : List α} {n : Nat} (h : n < l.length) : (fillTo g z l n).set n (g l[n]) = fillTo g z l (n + 1) := by
  unfold fillTo
  have e : l.length - n = (l.length - (n + 1)) + 1 := by omega
  rw [e, List.replicate_succ, List.set_append_right _ _ (by simp; omega)]
  have e2 : n - ((l.map g).take n).length = 0 := by simp; omega
  rw [e2, List.set_cons_zero, List.take_add_one, List.getElem?_map, List.getElem?_eq_getElem h]
  simp
theorem f16 (x y : Int) : Fn Try.prog 16 false [.agg [i x, i y]] (.agg [i x, i y]) := by
  refine Fn.by_sx hX (by kernel_rfl) c16 (by kernel_rfl) (by rfl) ?_
  simp [i16, sx_skip, sx_ops, sx_seq, sx_cond, sx_block, sx_exit, sx_ret, sx_mcall, sx_mcell, sx_mset, elAt, setEl, isLst, cellsOf, sxl_nil, sxl_set, sxl_call, sxl_callv, sxl_g1, sxl_g2, sxl_g3, sxl_g4, OkS_true, GrdS_tt, GrdS_tf, GrdS_ft, GrdS_ff, CondS_t, CondS_f, then_n, then_e, then_r, blk_n, blk_e, blk_r, upd_app, Ex.ok, Ex.val, Opd.val, POp.dst, bin_int, binOK_int, bin_str, binOK_str, resOK, resV, RB.val, sub, putc, scB, scL, oneB, conf, Ex.val.eqP, Ex.val.eqL, negV, mxV, mnV, ← wr_eq, wr_zero, wr_one, wr_m1, bst_lst, byteC, partsOK, putAll, appV, nilV, slV, sslV, optB, optNum, and_assoc, exists_and_left, exists_eq_left']
theorem f116 (l : List Pt) (nl : Bool) (hl : l.length ≤ 1048576) : Fn Try.prog 116 true [.lst 2 nl (l.map cp)] (.lst 2 false (l.map cp)) := by
  refine Fn.by_sx hX (by kernel_rfl) c116 (by kernel_rfl) (by rfl) ?_
  simp [i116, sx_skip, sx_ops, sx_seq, sx_cond, sx_block, sx_exit, sx_ret, sx_mcall, sx_mcell, sx_mset, elAt, setEl, isLst, cellsOf, sxl_nil, sxl_set, sxl_call, sxl_callv, sxl_g1, sxl_g2, sxl_g3, sxl_g4, OkS_true, GrdS_tt, GrdS_tf, GrdS_ft, GrdS_ff, CondS_t, CondS_f, then_n, then_e, then_r, blk_n, blk_e, blk_r, upd_app, Ex.ok, Ex.val, Opd.val, POp.dst, bin_int, binOK_int, bin_str, binOK_str, resOK, resV, RB.val, sub, putc, scB, scL, oneB, conf, Ex.val.eqP, Ex.val.eqL, negV, mxV, mnV, ← wr_eq, wr_zero, wr_one, wr_m1, bst_lst, byteC, partsOK, putAll, appV, nilV, slV, sslV, optB, optNum, and_assoc, exists_and_left, exists_eq_left']
  repeat' (first | intro _ | (simp [sx_skip, sx_ops, sx_seq, sx_cond, sx_block, sx_exit, sx_ret, sx_mcall, sx_mcell, sx_mset, elAt, setEl, isLst, cellsOf, sxl_nil, sxl_set, sxl_call, sxl_callv, sxl_g1, sxl_g2, sxl_g3, sxl_g4, OkS_true, GrdS_tt, GrdS_tf, GrdS_ft, GrdS_ff, CondS_t, CondS_f, then_n, then_e, then_r, blk_n, blk_e, blk_r, upd_app, Ex.ok, Ex.val, Opd.val, POp.dst, bin_int, binOK_int, bin_str, binOK_str, resOK, resV, RB.val, sub, putc, scB, scL, oneB, conf, Ex.val.eqP, Ex.val.eqL, negV, mxV, mnV, ← wr_eq, wr_zero, wr_one, wr_m1, bst_lst, byteC, partsOK, putAll, appV, nilV, slV, sslV, optB, optNum, and_assoc, exists_and_left, exists_eq_left', *]) | refine CondS_d (fun h => ?_) (fun h => ?_) | refine CondS_b (fun h => ?_) (fun h => ?_) | refine GrdS_d (fun h => ?_) (fun h => ?_) | refine GrdS_b (fun h => ?_) (fun h => ?_) | refine OkS_i (by omega) ?_ | fail)
  refine sx_count l.length (fun n V => V 0 = .lst 2 nl (l.map cp) ∧ V 4 = i n ∧ V 3 = .lst 2 false (fillTo cp [i 0, i 0] l n)) 0 (by omega) (by simp [sx_skip, sx_ops, sx_seq, sx_cond, sx_block, sx_exit, sx_ret, sx_mcall, sx_mcell, sx_mset, elAt, setEl, isLst, cellsOf, sxl_nil, sxl_set, sxl_call, sxl_callv, sxl_g1, sxl_g2, sxl_g3, sxl_g4, OkS_true, GrdS_tt, GrdS_tf, GrdS_ft, GrdS_ff, CondS_t, CondS_f, then_n, then_e, then_r, blk_n, blk_e, blk_r, upd_app, Ex.ok, Ex.val, Opd.val, POp.dst, bin_int, binOK_int, bin_str, binOK_str, resOK, resV, RB.val, sub, putc, scB, scL, oneB, conf, Ex.val.eqP, Ex.val.eqL, negV, mxV, mnV, ← wr_eq, wr_zero, wr_one, wr_m1, bst_lst, byteC, partsOK, putAll, appV, nilV, slV, sslV, optB, optNum, and_assoc, exists_and_left, exists_eq_left', fillTo_zero]) ?_
  rintro n V hn ⟨h0, h4, h3⟩
  have hw : wr .i64 ((n : Int) + 1) = n + 1 := wr_in (by omega) (by omega)
  simp [sx_skip, sx_ops, sx_seq, sx_cond, sx_block, sx_exit, sx_ret, sx_mcall, sx_mcell, sx_mset, elAt, setEl, isLst, cellsOf, sxl_nil, sxl_set, sxl_call, sxl_callv, sxl_g1, sxl_g2, sxl_g3, sxl_g4, OkS_true, GrdS_tt, GrdS_tf, GrdS_ft, GrdS_ff, CondS_t, CondS_f, then_n, then_e, then_r, blk_n, blk_e, blk_r, upd_app, Ex.ok, Ex.val, Opd.val, POp.dst, bin_int, binOK_int, bin_str, binOK_str, resOK, resV, RB.val, sub, putc, scB, scL, oneB, conf, Ex.val.eqP, Ex.val.eqL, negV, mxV, mnV, ← wr_eq, wr_zero, wr_one, wr_m1, bst_lst, byteC, partsOK, putAll, appV, nilV, slV, sslV, optB, optNum, and_assoc, exists_and_left, exists_eq_left', h0, h4]
  refine CondS_d (fun hlt => ?_) (fun hge => ?_)
  · have hlt' : n < l.length := by omega
    have hs := fillTo_set (g := cp) (z := [i 0, i 0]) hlt'
    have hfl := fillTo_len (g := cp) (z := [i 0, i 0]) (l := l) (n := n) (by omega)
    simp only [cp] at hs
    repeat' (first | intro _ | (simp [sx_skip, sx_ops, sx_seq, sx_cond, sx_block, sx_exit, sx_ret, sx_mcall, sx_mcell, sx_mset, elAt, setEl, isLst, cellsOf, sxl_nil, sxl_set, sxl_call, sxl_callv, sxl_g1, sxl_g2, sxl_g3, sxl_g4, OkS_true, GrdS_tt, GrdS_tf, GrdS_ft, GrdS_ff, CondS_t, CondS_f, then_n, then_e, then_r, blk_n, blk_e, blk_r, upd_app, Ex.ok, Ex.val, Opd.val, POp.dst, bin_int, binOK_int, bin_str, binOK_str, resOK, resV, RB.val, sub, putc, scB, scL, oneB, conf, Ex.val.eqP, Ex.val.eqL, negV, mxV, mnV, ← wr_eq, wr_zero, wr_one, wr_m1, bst_lst, byteC, partsOK, putAll, appV, nilV, slV, sslV, optB, optNum, and_assoc, exists_and_left, exists_eq_left', cp, *]) | refine CallS_i (f16 _ _) ?_ | refine CondS_d (fun h => ?_) (fun h => ?_) | refine CondS_b (fun h => ?_) (fun h => ?_) | refine GrdS_d (fun h => ?_) (fun h => ?_) | refine GrdS_b (fun h => ?_) (fun h => ?_) | refine OkS_i (by omega) ?_ | fail)
  · have : n = l.length := by omega
    subst this
    repeat' (first | intro _ | (simp [sx_skip, sx_ops, sx_seq, sx_cond, sx_block, sx_exit, sx_ret, sx_mcall, sx_mcell, sx_mset, elAt, setEl, isLst, cellsOf, sxl_nil, sxl_set, sxl_call, sxl_callv, sxl_g1, sxl_g2, sxl_g3, sxl_g4, OkS_true, GrdS_tt, GrdS_tf, GrdS_ft, GrdS_ff, CondS_t, CondS_f, then_n, then_e, then_r, blk_n, blk_e, blk_r, upd_app, Ex.ok, Ex.val, Opd.val, POp.dst, bin_int, binOK_int, bin_str, binOK_str, resOK, resV, RB.val, sub, putc, scB, scL, oneB, conf, Ex.val.eqP, Ex.val.eqL, negV, mxV, mnV, ← wr_eq, wr_zero, wr_one, wr_m1, bst_lst, byteC, partsOK, putAll, appV, nilV, slV, sslV, optB, optNum, and_assoc, exists_and_left, exists_eq_left', fillTo_full, *]) | refine CondS_d (fun h => ?_) (fun h => ?_) | refine CondS_b (fun h => ?_) (fun h => ?_) | refine GrdS_d (fun h => ?_) (fun h => ?_) | refine GrdS_b (fun h => ?_) (fun h => ?_) | refine OkS_i (by omega) ?_ | fail)
def Ft.fr (x : Ft) : Ft := { x with nl := false }
def En.fr (x : En) : En := { x with f0 := x.f0.fr }
theorem f66 (x : Ft) (hl : x.f4.length ≤ 1048576) : Fn Try.prog 66 true [.agg (ft x)] (.agg (ft x.fr)) := by
  have hc := f116 x.f4 x.nl hl
  unfold ft Ft.fr
  refine Fn.by_sx hX (by kernel_rfl) c66 (by kernel_rfl) (by rfl) ?_
  simp [i66, sx_skip, sx_ops, sx_seq, sx_cond, sx_block, sx_exit, sx_ret, sx_mcall, sx_mcell, sx_mset, elAt, setEl, isLst, cellsOf, sxl_nil, sxl_set, sxl_call, sxl_callv, sxl_g1, sxl_g2, sxl_g3, sxl_g4, OkS_true, GrdS_tt, GrdS_tf, GrdS_ft, GrdS_ff, CondS_t, CondS_f, then_n, then_e, then_r, blk_n, blk_e, blk_r, upd_app, Ex.ok, Ex.val, Opd.val, POp.dst, bin_int, binOK_int, bin_str, binOK_str, resOK, resV, RB.val, sub, putc, scB, scL, oneB, conf, Ex.val.eqP, Ex.val.eqL, negV, mxV, mnV, ← wr_eq, wr_zero, wr_one, wr_m1, bst_lst, byteC, partsOK, putAll, appV, nilV, slV, sslV, optB, optNum, and_assoc, exists_and_left, exists_eq_left']
  repeat' (first | intro _ | (simp [sx_skip, sx_ops, sx_seq, sx_cond, sx_block, sx_exit, sx_ret, sx_mcall, sx_mcell, sx_mset, elAt, setEl, isLst, cellsOf, sxl_nil, sxl_set, sxl_call, sxl_callv, sxl_g1, sxl_g2, sxl_g3, sxl_g4, OkS_true, GrdS_tt, GrdS_tf, GrdS_ft, GrdS_ff, CondS_t, CondS_f, then_n, then_e, then_r, blk_n, blk_e, blk_r, upd_app, Ex.ok, Ex.val, Opd.val, POp.dst, bin_int, binOK_int, bin_str, binOK_str, resOK, resV, RB.val, sub, putc, scB, scL, oneB, conf, Ex.val.eqP, Ex.val.eqL, negV, mxV, mnV, ← wr_eq, wr_zero, wr_one, wr_m1, bst_lst, byteC, partsOK, putAll, appV, nilV, slV, sslV, optB, optNum, and_assoc, exists_and_left, exists_eq_left', *]) | refine CallS_i (hc) ?_ | refine CondS_d (fun h => ?_) (fun h => ?_) | refine CondS_b (fun h => ?_) (fun h => ?_) | refine GrdS_d (fun h => ?_) (fun h => ?_) | refine GrdS_b (fun h => ?_) (fun h => ?_) | refine OkS_i (by omega) ?_ | fail)
theorem f41 (x : En) (hl : x.f0.f4.length ≤ 1048576) : Fn Try.prog 41 true [.agg (en x)] (.agg (en x.fr)) := by
  have hc := f66 x.f0 hl
  unfold ft Ft.fr at hc
  unfold en En.fr Ft.fr
  refine Fn.by_sx hX (by kernel_rfl) c41 (by kernel_rfl) (by rfl) ?_
  simp [i41, sx_skip, sx_ops, sx_seq, sx_cond, sx_block, sx_exit, sx_ret, sx_mcall, sx_mcell, sx_mset, elAt, setEl, isLst, cellsOf, sxl_nil, sxl_set, sxl_call, sxl_callv, sxl_g1, sxl_g2, sxl_g3, sxl_g4, OkS_true, GrdS_tt, GrdS_tf, GrdS_ft, GrdS_ff, CondS_t, CondS_f, then_n, then_e, then_r, blk_n, blk_e, blk_r, upd_app, Ex.ok, Ex.val, Opd.val, POp.dst, bin_int, binOK_int, bin_str, binOK_str, resOK, resV, RB.val, sub, putc, scB, scL, oneB, conf, Ex.val.eqP, Ex.val.eqL, negV, mxV, mnV, ← wr_eq, wr_zero, wr_one, wr_m1, bst_lst, byteC, partsOK, putAll, appV, nilV, slV, sslV, optB, optNum, and_assoc, exists_and_left, exists_eq_left']
  repeat' (first | intro _ | (simp [sx_skip, sx_ops, sx_seq, sx_cond, sx_block, sx_exit, sx_ret, sx_mcall, sx_mcell, sx_mset, elAt, setEl, isLst, cellsOf, sxl_nil, sxl_set, sxl_call, sxl_callv, sxl_g1, sxl_g2, sxl_g3, sxl_g4, OkS_true, GrdS_tt, GrdS_tf, GrdS_ft, GrdS_ff, CondS_t, CondS_f, then_n, then_e, then_r, blk_n, blk_e, blk_r, upd_app, Ex.ok, Ex.val, Opd.val, POp.dst, bin_int, binOK_int, bin_str, binOK_str, resOK, resV, RB.val, sub, putc, scB, scL, oneB, conf, Ex.val.eqP, Ex.val.eqL, negV, mxV, mnV, ← wr_eq, wr_zero, wr_one, wr_m1, bst_lst, byteC, partsOK, putAll, appV, nilV, slV, sslV, optB, optNum, and_assoc, exists_and_left, exists_eq_left', *]) | refine CallS_i (hc) ?_ | refine CondS_d (fun h => ?_) (fun h => ?_) | refine CondS_b (fun h => ?_) (fun h => ?_) | refine GrdS_d (fun h => ?_) (fun h => ?_) | refine GrdS_b (fun h => ?_) (fun h => ?_) | refine OkS_i (by omega) ?_ | fail)
def enz : List PV := [i 0, i 0, i 0, .str (bs []), .lst 2 true [], i 0, i 0, .bool false]
def enf (x : En) : List PV := [i x.f0.f0, i x.f0.f1, i x.f0.f2, .str x.f0.f3, .lst 2 false (x.f0.f4.map cp), i x.f1, i x.f2, .bool x.f3]
theorem f27w (l : List En) (nl : Bool) (hl : l.length ≤ 1048576) (hx : ∀ x ∈ l, x.f0.f4.length ≤ 1048576) : Fn Try.prog 27 true [.lst 8 nl (l.map en)] (.lst 8 false (l.map enf)) := by
  refine Fn.by_sx hX (by kernel_rfl) c27 (by kernel_rfl) (by rfl) ?_
  simp [i27, sx_skip, sx_ops, sx_seq, sx_cond, sx_block, sx_exit, sx_ret, sx_mcall, sx_mcell, sx_mset, elAt, setEl, isLst, cellsOf, sxl_nil, sxl_set, sxl_call, sxl_callv, sxl_g1, sxl_g2, sxl_g3, sxl_g4, OkS_true, GrdS_tt, GrdS_tf, GrdS_ft, GrdS_ff, CondS_t, CondS_f, then_n, then_e, then_r, blk_n, blk_e, blk_r, upd_app, Ex.ok, Ex.val, Opd.val, POp.dst, bin_int, binOK_int, bin_str, binOK_str, resOK, resV, RB.val, sub, putc, scB, scL, oneB, conf, Ex.val.eqP, Ex.val.eqL, negV, mxV, mnV, ← wr_eq, wr_zero, wr_one, wr_m1, bst_lst, byteC, partsOK, putAll, appV, nilV, slV, sslV, optB, optNum, and_assoc, exists_and_left, exists_eq_left']
  repeat' (first | intro _ | (simp [sx_skip, sx_ops, sx_seq, sx_cond, sx_block, sx_exit, sx_ret, sx_mcall, sx_mcell, sx_mset, elAt, setEl, isLst, cellsOf, sxl_nil, sxl_set, sxl_call, sxl_callv, sxl_g1, sxl_g2, sxl_g3, sxl_g4, OkS_true, GrdS_tt, GrdS_tf, GrdS_ft, GrdS_ff, CondS_t, CondS_f, then_n, then_e, then_r, blk_n, blk_e, blk_r, upd_app, Ex.ok, Ex.val, Opd.val, POp.dst, bin_int, binOK_int, bin_str, binOK_str, resOK, resV, RB.val, sub, putc, scB, scL, oneB, conf, Ex.val.eqP, Ex.val.eqL, negV, mxV, mnV, ← wr_eq, wr_zero, wr_one, wr_m1, bst_lst, byteC, partsOK, putAll, appV, nilV, slV, sslV, optB, optNum, and_assoc, exists_and_left, exists_eq_left', *]) | refine CondS_d (fun h => ?_) (fun h => ?_) | refine CondS_b (fun h => ?_) (fun h => ?_) | refine GrdS_d (fun h => ?_) (fun h => ?_) | refine GrdS_b (fun h => ?_) (fun h => ?_) | refine OkS_i (by omega) ?_ | fail)
  refine sx_count l.length (fun n V => V 0 = .lst 8 nl (l.map en) ∧ V 4 = i n ∧ V 3 = .lst 8 false (fillTo enf enz l n)) 0 (by omega) (by simp [sx_skip, sx_ops, sx_seq, sx_cond, sx_block, sx_exit, sx_ret, sx_mcall, sx_mcell, sx_mset, elAt, setEl, isLst, cellsOf, sxl_nil, sxl_set, sxl_call, sxl_callv, sxl_g1, sxl_g2, sxl_g3, sxl_g4, OkS_true, GrdS_tt, GrdS_tf, GrdS_ft, GrdS_ff, CondS_t, CondS_f, then_n, then_e, then_r, blk_n, blk_e, blk_r, upd_app, Ex.ok, Ex.val, Opd.val, POp.dst, bin_int, binOK_int, bin_str, binOK_str, resOK, resV, RB.val, sub, putc, scB, scL, oneB, conf, Ex.val.eqP, Ex.val.eqL, negV, mxV, mnV, ← wr_eq, wr_zero, wr_one, wr_m1, bst_lst, byteC, partsOK, putAll, appV, nilV, slV, sslV, optB, optNum, and_assoc, exists_and_left, exists_eq_left', fillTo_zero, enz]) ?_
  rintro n V hn ⟨h0, h4, h3⟩
  have hw : wr .i64 ((n : Int) + 1) = n + 1 := wr_in (by omega) (by omega)
  simp [sx_skip, sx_ops, sx_seq, sx_cond, sx_block, sx_exit, sx_ret, sx_mcall, sx_mcell, sx_mset, elAt, setEl, isLst, cellsOf, sxl_nil, sxl_set, sxl_call, sxl_callv, sxl_g1, sxl_g2, sxl_g3, sxl_g4, OkS_true, GrdS_tt, GrdS_tf, GrdS_ft, GrdS_ff, CondS_t, CondS_f, then_n, then_e, then_r, blk_n, blk_e, blk_r, upd_app, Ex.ok, Ex.val, Opd.val, POp.dst, bin_int, binOK_int, bin_str, binOK_str, resOK, resV, RB.val, sub, putc, scB, scL, oneB, conf, Ex.val.eqP, Ex.val.eqL, negV, mxV, mnV, ← wr_eq, wr_zero, wr_one, wr_m1, bst_lst, byteC, partsOK, putAll, appV, nilV, slV, sslV, optB, optNum, and_assoc, exists_and_left, exists_eq_left', h0, h4]
  refine CondS_d (fun hlt => ?_) (fun hge => ?_)
  · have hlt' : n < l.length := by omega
    have hs : (fillTo enf enz l n).set n [i l[n].f0.f0, i l[n].f0.f1, i l[n].f0.f2, .str l[n].f0.f3, .lst 2 false (l[n].f0.f4.map cp), i l[n].f1, i l[n].f2, .bool l[n].f3] = fillTo enf enz l (n + 1) := fillTo_set hlt'
    have hfl := fillTo_len (g := enf) (z := enz) (l := l) (n := n) (by omega)
    have hc := f41 l[n] (hx _ (List.getElem_mem ..))
    unfold en En.fr Ft.fr at hc
    repeat' (first | intro _ | (simp [sx_skip, sx_ops, sx_seq, sx_cond, sx_block, sx_exit, sx_ret, sx_mcall, sx_mcell, sx_mset, elAt, setEl, isLst, cellsOf, sxl_nil, sxl_set, sxl_call, sxl_callv, sxl_g1, sxl_g2, sxl_g3, sxl_g4, OkS_true, GrdS_tt, GrdS_tf, GrdS_ft, GrdS_ff, CondS_t, CondS_f, then_n, then_e, then_r, blk_n, blk_e, blk_r, upd_app, Ex.ok, Ex.val, Opd.val, POp.dst, bin_int, binOK_int, bin_str, binOK_str, resOK, resV, RB.val, sub, putc, scB, scL, oneB, conf, Ex.val.eqP, Ex.val.eqL, negV, mxV, mnV, ← wr_eq, wr_zero, wr_one, wr_m1, bst_lst, byteC, partsOK, putAll, appV, nilV, slV, sslV, optB, optNum, and_assoc, exists_and_left, exists_eq_left', en, *]) | refine CallS_i (hc) ?_ | refine CondS_d (fun h => ?_) (fun h => ?_) | refine CondS_b (fun h => ?_) (fun h => ?_) | refine GrdS_d (fun h => ?_) (fun h => ?_) | refine GrdS_b (fun h => ?_) (fun h => ?_) | refine OkS_i (by omega) ?_ | fail)
  · have : n = l.length := by omega
    subst this
    have hfu := fillTo_full (g := enf) (z := enz) (l := l)
    repeat' (first | intro _ | (simp [sx_skip, sx_ops, sx_seq, sx_cond, sx_block, sx_exit, sx_ret, sx_mcall, sx_mcell, sx_mset, elAt, setEl, isLst, cellsOf, sxl_nil, sxl_set, sxl_call, sxl_callv, sxl_g1, sxl_g2, sxl_g3, sxl_g4, OkS_true, GrdS_tt, GrdS_tf, GrdS_ft, GrdS_ff, CondS_t, CondS_f, then_n, then_e, then_r, blk_n, blk_e, blk_r, upd_app, Ex.ok, Ex.val, Opd.val, POp.dst, bin_int, binOK_int, bin_str, binOK_str, resOK, resV, RB.val, sub, putc, scB, scL, oneB, conf, Ex.val.eqP, Ex.val.eqL, negV, mxV, mnV, ← wr_eq, wr_zero, wr_one, wr_m1, bst_lst, byteC, partsOK, putAll, appV, nilV, slV, sslV, optB, optNum, and_assoc, exists_and_left, exists_eq_left', *]) | refine CondS_d (fun h => ?_) (fun h => ?_) | refine CondS_b (fun h => ?_) (fun h => ?_) | refine GrdS_d (fun h => ?_) (fun h => ?_) | refine GrdS_b (fun h => ?_) (fun h => ?_) | refine OkS_i (by omega) ?_ | fail)
theorem f27 (l : List En) (nl : Bool) (hl : l.length ≤ 1048576) (hx : ∀ x ∈ l, x.f0.f4.length ≤ 1048576) : Fn Try.prog 27 true [.lst 8 nl (l.map en)] (.lst 8 false ((l.map En.fr).map en)) := by
  have := f27w l nl hl hx
  rw [List.map_map]
  exact this
/-! what is read as it was -/
theorem f145 (x y : Int) : Fn Try.prog 145 false [.agg [i x, i y], .agg [i x, i y]] (.bool true) := by
  refine Fn.by_sx hX (by kernel_rfl) c145 (by kernel_rfl) (by rfl) ?_
  simp [i145, sx_skip, sx_ops, sx_seq, sx_cond, sx_block, sx_exit, sx_ret, sx_mcall, sx_mcell, sx_mset, elAt, setEl, isLst, cellsOf, sxl_nil, sxl_set, sxl_call, sxl_callv, sxl_g1, sxl_g2, sxl_g3, sxl_g4, OkS_true, GrdS_tt, GrdS_tf, GrdS_ft, GrdS_ff, CondS_t, CondS_f, then_n, then_e, then_r, blk_n, blk_e, blk_r, upd_app, Ex.ok, Ex.val, Opd.val, POp.dst, bin_int, binOK_int, bin_str, binOK_str, resOK, resV, RB.val, sub, putc, scB, scL, oneB, conf, Ex.val.eqP, Ex.val.eqL, negV, mxV, mnV, ← wr_eq, wr_zero, wr_one, wr_m1, bst_lst, byteC, partsOK, putAll, appV, nilV, slV, sslV, optB, optNum, and_assoc, exists_and_left, exists_eq_left']
  repeat' (first | intro _ | (simp [sx_skip, sx_ops, sx_seq, sx_cond, sx_block, sx_exit, sx_ret, sx_mcall, sx_mcell, sx_mset, elAt, setEl, isLst, cellsOf, sxl_nil, sxl_set, sxl_call, sxl_callv, sxl_g1, sxl_g2, sxl_g3, sxl_g4, OkS_true, GrdS_tt, GrdS_tf, GrdS_ft, GrdS_ff, CondS_t, CondS_f, then_n, then_e, then_r, blk_n, blk_e, blk_r, upd_app, Ex.ok, Ex.val, Opd.val, POp.dst, bin_int, binOK_int, bin_str, binOK_str, resOK, resV, RB.val, sub, putc, scB, scL, oneB, conf, Ex.val.eqP, Ex.val.eqL, negV, mxV, mnV, ← wr_eq, wr_zero, wr_one, wr_m1, bst_lst, byteC, partsOK, putAll, appV, nilV, slV, sslV, optB, optNum, and_assoc, exists_and_left, exists_eq_left', *]) | refine CondS_d (fun h => ?_) (fun h => ?_) | refine CondS_b (fun h => ?_) (fun h => ?_) | refine GrdS_d (fun h => ?_) (fun h => ?_) | refine GrdS_b (fun h => ?_) (fun h => ?_) | refine OkS_i (by omega) ?_ | fail)
theorem f117 (l : List Pt) (n1 n2 : Bool) (hl : l.length ≤ 1000000000000) : Fn Try.prog 117 false [.lst 2 n1 (l.map cp), .lst 2 n2 (l.map cp)] (.bool true) := by
  refine Fn.by_sx hX (by kernel_rfl) c117 (by kernel_rfl) (by rfl) ?_
  simp [i117, sx_skip, sx_ops, sx_seq, sx_cond, sx_block, sx_exit, sx_ret, sx_mcall, sx_mcell, sx_mset, elAt, setEl, isLst, cellsOf, sxl_nil, sxl_set, sxl_call, sxl_callv, sxl_g1, sxl_g2, sxl_g3, sxl_g4, OkS_true, GrdS_tt, GrdS_tf, GrdS_ft, GrdS_ff, CondS_t, CondS_f, then_n, then_e, then_r, blk_n, blk_e, blk_r, upd_app, Ex.ok, Ex.val, Opd.val, POp.dst, bin_int, binOK_int, bin_str, binOK_str, resOK, resV, RB.val, sub, putc, scB, scL, oneB, conf, Ex.val.eqP, Ex.val.eqL, negV, mxV, mnV, ← wr_eq, wr_zero, wr_one, wr_m1, bst_lst, byteC, partsOK, putAll, appV, nilV, slV, sslV, optB, optNum, and_assoc, exists_and_left, exists_eq_left']
  repeat' (first | intro _ | (simp [sx_skip, sx_ops, sx_seq, sx_cond, sx_block, sx_exit, sx_ret, sx_mcall, sx_mcell, sx_mset, elAt, setEl, isLst, cellsOf, sxl_nil, sxl_set, sxl_call, sxl_callv, sxl_g1, sxl_g2, sxl_g3, sxl_g4, OkS_true, GrdS_tt, GrdS_tf, GrdS_ft, GrdS_ff, CondS_t, CondS_f, then_n, then_e, then_r, blk_n, blk_e, blk_r, upd_app, Ex.ok, Ex.val, Opd.val, POp.dst, bin_int, binOK_int, bin_str, binOK_str, resOK, resV, RB.val, sub, putc, scB, scL, oneB, conf, Ex.val.eqP, Ex.val.eqL, negV, mxV, mnV, ← wr_eq, wr_zero, wr_one, wr_m1, bst_lst, byteC, partsOK, putAll, appV, nilV, slV, sslV, optB, optNum, and_assoc, exists_and_left, exists_eq_left', *]) | refine CondS_d (fun h => ?_) (fun h => ?_) | refine CondS_b (fun h => ?_) (fun h => ?_) | refine GrdS_d (fun h => ?_) (fun h => ?_) | refine GrdS_b (fun h => ?_) (fun h => ?_) | refine OkS_i (by omega) ?_ | fail)
  refine sx_count l.length (fun n V => V 0 = .lst 2 n1 (l.map cp) ∧ V 1 = .lst 2 n2 (l.map cp) ∧ V 5 = i n) 0 (by omega) (by simp [sx_skip, sx_ops, sx_seq, sx_cond, sx_block, sx_exit, sx_ret, sx_mcall, sx_mcell, sx_mset, elAt, setEl, isLst, cellsOf, sxl_nil, sxl_set, sxl_call, sxl_callv, sxl_g1, sxl_g2, sxl_g3, sxl_g4, OkS_true, GrdS_tt, GrdS_tf, GrdS_ft, GrdS_ff, CondS_t, CondS_f, then_n, then_e, then_r, blk_n, blk_e, blk_r, upd_app, Ex.ok, Ex.val, Opd.val, POp.dst, bin_int, binOK_int, bin_str, binOK_str, resOK, resV, RB.val, sub, putc, scB, scL, oneB, conf, Ex.val.eqP, Ex.val.eqL, negV, mxV, mnV, ← wr_eq, wr_zero, wr_one, wr_m1, bst_lst, byteC, partsOK, putAll, appV, nilV, slV, sslV, optB, optNum, and_assoc, exists_and_left, exists_eq_left']) ?_
  rintro n V hn ⟨h0, h1, h5⟩
  have hw : wr .i64 ((n : Int) + 1) = n + 1 := wr_in (by omega) (by omega)
  simp [sx_skip, sx_ops, sx_seq, sx_cond, sx_block, sx_exit, sx_ret, sx_mcall, sx_mcell, sx_mset, elAt, setEl, isLst, cellsOf, sxl_nil, sxl_set, sxl_call, sxl_callv, sxl_g1, sxl_g2, sxl_g3, sxl_g4, OkS_true, GrdS_tt, GrdS_tf, GrdS_ft, GrdS_ff, CondS_t, CondS_f, then_n, then_e, then_r, blk_n, blk_e, blk_r, upd_app, Ex.ok, Ex.val, Opd.val, POp.dst, bin_int, binOK_int, bin_str, binOK_str, resOK, resV, RB.val, sub, putc, scB, scL, oneB, conf, Ex.val.eqP, Ex.val.eqL, negV, mxV, mnV, ← wr_eq, wr_zero, wr_one, wr_m1, bst_lst, byteC, partsOK, putAll, appV, nilV, slV, sslV, optB, optNum, and_assoc, exists_and_left, exists_eq_left', h0, h5]
  refine CondS_d (fun hlt => ?_) (fun hge => ?_)
  · have hlt' : n < l.length := by omega
    repeat' (first | intro _ | (simp [sx_skip, sx_ops, sx_seq, sx_cond, sx_block, sx_exit, sx_ret, sx_mcall, sx_mcell, sx_mset, elAt, setEl, isLst, cellsOf, sxl_nil, sxl_set, sxl_call, sxl_callv, sxl_g1, sxl_g2, sxl_g3, sxl_g4, OkS_true, GrdS_tt, GrdS_tf, GrdS_ft, GrdS_ff, CondS_t, CondS_f, then_n, then_e, then_r, blk_n, blk_e, blk_r, upd_app, Ex.ok, Ex.val, Opd.val, POp.dst, bin_int, binOK_int, bin_str, binOK_str, resOK, resV, RB.val, sub, putc, scB, scL, oneB, conf, Ex.val.eqP, Ex.val.eqL, negV, mxV, mnV, ← wr_eq, wr_zero, wr_one, wr_m1, bst_lst, byteC, partsOK, putAll, appV, nilV, slV, sslV, optB, optNum, and_assoc, exists_and_left, exists_eq_left', cp, *]) | refine CallS_b (f145 _ _) (fun h => ?_) (fun h => ?_) | refine CondS_d (fun h => ?_) (fun h => ?_) | refine CondS_b (fun h => ?_) (fun h => ?_) | refine GrdS_d (fun h => ?_) (fun h => ?_) | refine GrdS_b (fun h => ?_) (fun h => ?_) | refine OkS_i (by omega) ?_ | fail)
    all_goals simp_all
  · have : n = l.length := by omega
    subst this
    repeat' (first | intro _ | (simp [sx_skip, sx_ops, sx_seq, sx_cond, sx_block, sx_exit, sx_ret, sx_mcall, sx_mcell, sx_mset, elAt, setEl, isLst, cellsOf, sxl_nil, sxl_set, sxl_call, sxl_callv, sxl_g1, sxl_g2, sxl_g3, sxl_g4, OkS_true, GrdS_tt, GrdS_tf, GrdS_ft, GrdS_ff, CondS_t, CondS_f, then_n, then_e, then_r, blk_n, blk_e, blk_r, upd_app, Ex.ok, Ex.val, Opd.val, POp.dst, bin_int, binOK_int, bin_str, binOK_str, resOK, resV, RB.val, sub, putc, scB, scL, oneB, conf, Ex.val.eqP, Ex.val.eqL, negV, mxV, mnV, ← wr_eq, wr_zero, wr_one, wr_m1, bst_lst, byteC, partsOK, putAll, appV, nilV, slV, sslV, optB, optNum, and_assoc, exists_and_left, exists_eq_left', *]) | refine CondS_d (fun h => ?_) (fun h => ?_) | refine CondS_b (fun h => ?_) (fun h => ?_) | refine GrdS_d (fun h => ?_) (fun h => ?_) | refine GrdS_b (fun h => ?_) (fun h => ?_) | refine OkS_i (by omega) ?_ | fail)
theorem f69 (x : Ft) (n1 n2 : Bool) (hl : x.f4.length ≤ 1000000000000) : Fn Try.prog 69 false [.agg (ft { x with nl := n1 }), .agg (ft { x with nl := n2 })] (.bool true) := by
  have hc := f117 x.f4 n1 n2 hl
  unfold ft
  refine Fn.by_sx hX (by kernel_rfl) c69 (by kernel_rfl) (by rfl) ?_
  simp [i69, sx_skip, sx_ops, sx_seq, sx_cond, sx_block, sx_exit, sx_ret, sx_mcall, sx_mcell, sx_mset, elAt, setEl, isLst, cellsOf, sxl_nil, sxl_set, sxl_call, sxl_callv, sxl_g1, sxl_g2, sxl_g3, sxl_g4, OkS_true, GrdS_tt, GrdS_tf, GrdS_ft, GrdS_ff, CondS_t, CondS_f, then_n, then_e, then_r, blk_n, blk_e, blk_r, upd_app, Ex.ok, Ex.val, Opd.val, POp.dst, bin_int, binOK_int, bin_str, binOK_str, resOK, resV, RB.val, sub, putc, scB, scL, oneB, conf, Ex.val.eqP, Ex.val.eqL, negV, mxV, mnV, ← wr_eq, wr_zero, wr_one, wr_m1, bst_lst, byteC, partsOK, putAll, appV, nilV, slV, sslV, optB, optNum, and_assoc, exists_and_left, exists_eq_left']
  repeat' (first | intro _ | (simp [sx_skip, sx_ops, sx_seq, sx_cond, sx_block, sx_exit, sx_ret, sx_mcall, sx_mcell, sx_mset, elAt, setEl, isLst, cellsOf, sxl_nil, sxl_set, sxl_call, sxl_callv, sxl_g1, sxl_g2, sxl_g3, sxl_g4, OkS_true, GrdS_tt, GrdS_tf, GrdS_ft, GrdS_ff, CondS_t, CondS_f, then_n, then_e, then_r, blk_n, blk_e, blk_r, upd_app, Ex.ok, Ex.val, Opd.val, POp.dst, bin_int, binOK_int, bin_str, binOK_str, resOK, resV, RB.val, sub, putc, scB, scL, oneB, conf, Ex.val.eqP, Ex.val.eqL, negV, mxV, mnV, ← wr_eq, wr_zero, wr_one, wr_m1, bst_lst, byteC, partsOK, putAll, appV, nilV, slV, sslV, optB, optNum, and_assoc, exists_and_left, exists_eq_left', *]) | refine CallS_i (hc) ?_ | refine CondS_d (fun h => ?_) (fun h => ?_) | refine CondS_b (fun h => ?_) (fun h => ?_) | refine GrdS_d (fun h => ?_) (fun h => ?_) | refine GrdS_b (fun h => ?_) (fun h => ?_) | refine OkS_i (by omega) ?_ | fail)
theorem f43 (x : En) (n1 n2 : Bool) (hl : x.f0.f4.length ≤ 1000000000000) : Fn Try.prog 43 false [.agg (en { x with f0 := { x.f0 with nl := n1 } }), .agg (en { x with f0 := { x.f0 with nl := n2 } })] (.bool true) := by
  have hc := f69 x.f0 n1 n2 hl
  unfold ft at hc
  unfold en
  refine Fn.by_sx hX (by kernel_rfl) c43 (by kernel_rfl) (by rfl) ?_
  simp [i43, sx_skip, sx_ops, sx_seq, sx_cond, sx_block, sx_exit, sx_ret, sx_mcall, sx_mcell, sx_mset, elAt, setEl, isLst, cellsOf, sxl_nil, sxl_set, sxl_call, sxl_callv, sxl_g1, sxl_g2, sxl_g3, sxl_g4, OkS_true, GrdS_tt, GrdS_tf, GrdS_ft, GrdS_ff, CondS_t, CondS_f, then_n, then_e, then_r, blk_n, blk_e, blk_r, upd_app, Ex.ok, Ex.val, Opd.val, POp.dst, bin_int, binOK_int, bin_str, binOK_str, resOK, resV, RB.val, sub, putc, scB, scL, oneB, conf, Ex.val.eqP, Ex.val.eqL, negV, mxV, mnV, ← wr_eq, wr_zero, wr_one, wr_m1, bst_lst, byteC, partsOK, putAll, appV, nilV, slV, sslV, optB, optNum, and_assoc, exists_and_left, exists_eq_left']
  repeat' (first | intro _ | (simp [sx_skip, sx_ops, sx_seq, sx_cond, sx_block, sx_exit, sx_ret, sx_mcall, sx_mcell, sx_mset, elAt, setEl, isLst, cellsOf, sxl_nil, sxl_set, sxl_call, sxl_callv, sxl_g1, sxl_g2, sxl_g3, sxl_g4, OkS_true, GrdS_tt, GrdS_tf, GrdS_ft, GrdS_ff, CondS_t, CondS_f, then_n, then_e, then_r, blk_n, blk_e, blk_r, upd_app, Ex.ok, Ex.val, Opd.val, POp.dst, bin_int, binOK_int, bin_str, binOK_str, resOK, resV, RB.val, sub, putc, scB, scL, oneB, conf, Ex.val.eqP, Ex.val.eqL, negV, mxV, mnV, ← wr_eq, wr_zero, wr_one, wr_m1, bst_lst, byteC, partsOK, putAll, appV, nilV, slV, sslV, optB, optNum, and_assoc, exists_and_left, exists_eq_left', *]) | refine CallS_i (hc) ?_ | refine CondS_d (fun h => ?_) (fun h => ?_) | refine CondS_b (fun h => ?_) (fun h => ?_) | refine GrdS_d (fun h => ?_) (fun h => ?_) | refine GrdS_b (fun h => ?_) (fun h => ?_) | refine OkS_i (by omega) ?_ | fail)
theorem f29 (l : List En) (n1 n2 : Bool) (hl : l.length ≤ 1000000000000) (hx : ∀ x ∈ l, x.f0.f4.length ≤ 1000000000000) : Fn Try.prog 29 false [.lst 8 n1 (l.map en), .lst 8 n2 (l.map en)] (.bool true) := by
  refine Fn.by_sx hX (by kernel_rfl) c29 (by kernel_rfl) (by rfl) ?_
  simp [i29, sx_skip, sx_ops, sx_seq, sx_cond, sx_block, sx_exit, sx_ret, sx_mcall, sx_mcell, sx_mset, elAt, setEl, isLst, cellsOf, sxl_nil, sxl_set, sxl_call, sxl_callv, sxl_g1, sxl_g2, sxl_g3, sxl_g4, OkS_true, GrdS_tt, GrdS_tf, GrdS_ft, GrdS_ff, CondS_t, CondS_f, then_n, then_e, then_r, blk_n, blk_e, blk_r, upd_app, Ex.ok, Ex.val, Opd.val, POp.dst, bin_int, binOK_int, bin_str, binOK_str, resOK, resV, RB.val, sub, putc, scB, scL, oneB, conf, Ex.val.eqP, Ex.val.eqL, negV, mxV, mnV, ← wr_eq, wr_zero, wr_one, wr_m1, bst_lst, byteC, partsOK, putAll, appV, nilV, slV, sslV, optB, optNum, and_assoc, exists_and_left, exists_eq_left']
  repeat' (first | intro _ | (simp [sx_skip, sx_ops, sx_seq, sx_cond, sx_block, sx_exit, sx_ret, sx_mcall, sx_mcell, sx_mset, elAt, setEl, isLst, cellsOf, sxl_nil, sxl_set, sxl_call, sxl_callv, sxl_g1, sxl_g2, sxl_g3, sxl_g4, OkS_true, GrdS_tt, GrdS_tf, GrdS_ft, GrdS_ff, CondS_t, CondS_f, then_n, then_e, then_r, blk_n, blk_e, blk_r, upd_app, Ex.ok, Ex.val, Opd.val, POp.dst, bin_int, binOK_int, bin_str, binOK_str, resOK, resV, RB.val, sub, putc, scB, scL, oneB, conf, Ex.val.eqP, Ex.val.eqL, negV, mxV, mnV, ← wr_eq, wr_zero, wr_one, wr_m1, bst_lst, byteC, partsOK, putAll, appV, nilV, slV, sslV, optB, optNum, and_assoc, exists_and_left, exists_eq_left', *]) | refine CondS_d (fun h => ?_) (fun h => ?_) | refine CondS_b (fun h => ?_) (fun h => ?_) | refine GrdS_d (fun h => ?_) (fun h => ?_) | refine GrdS_b (fun h => ?_) (fun h => ?_) | refine OkS_i (by omega) ?_ | fail)
  refine sx_count l.length (fun n V => V 0 = .lst 8 n1 (l.map en) ∧ V 1 = .lst 8 n2 (l.map en) ∧ V 5 = i n) 0 (by omega) (by simp [sx_skip, sx_ops, sx_seq, sx_cond, sx_block, sx_exit, sx_ret, sx_mcall, sx_mcell, sx_mset, elAt, setEl, isLst, cellsOf, sxl_nil, sxl_set, sxl_call, sxl_callv, sxl_g1, sxl_g2, sxl_g3, sxl_g4, OkS_true, GrdS_tt, GrdS_tf, GrdS_ft, GrdS_ff, CondS_t, CondS_f, then_n, then_e, then_r, blk_n, blk_e, blk_r, upd_app, Ex.ok, Ex.val, Opd.val, POp.dst, bin_int, binOK_int, bin_str, binOK_str, resOK, resV, RB.val, sub, putc, scB, scL, oneB, conf, Ex.val.eqP, Ex.val.eqL, negV, mxV, mnV, ← wr_eq, wr_zero, wr_one, wr_m1, bst_lst, byteC, partsOK, putAll, appV, nilV, slV, sslV, optB, optNum, and_assoc, exists_and_left, exists_eq_left']) ?_
  rintro n V hn ⟨h0, h1, h5⟩
  have hw : wr .i64 ((n : Int) + 1) = n + 1 := wr_in (by omega) (by omega)
  simp [sx_skip, sx_ops, sx_seq, sx_cond, sx_block, sx_exit, sx_ret, sx_mcall, sx_mcell, sx_mset, elAt, setEl, isLst, cellsOf, sxl_nil, sxl_set, sxl_call, sxl_callv, sxl_g1, sxl_g2, sxl_g3, sxl_g4, OkS_true, GrdS_tt, GrdS_tf, GrdS_ft, GrdS_ff, CondS_t, CondS_f, then_n, then_e, then_r, blk_n, blk_e, blk_r, upd_app, Ex.ok, Ex.val, Opd.val, POp.dst, bin_int, binOK_int, bin_str, binOK_str, resOK, resV, RB.val, sub, putc, scB, scL, oneB, conf, Ex.val.eqP, Ex.val.eqL, negV, mxV, mnV, ← wr_eq, wr_zero, wr_one, wr_m1, bst_lst, byteC, partsOK, putAll, appV, nilV, slV, sslV, optB, optNum, and_assoc, exists_and_left, exists_eq_left', h0, h5]
  refine CondS_d (fun hlt => ?_) (fun hge => ?_)
  · have hlt' : n < l.length := by omega
    have hc := f43 l[n] l[n].f0.nl l[n].f0.nl (hx _ (List.getElem_mem ..))
    unfold en at hc
    repeat' (first | intro _ | (simp [sx_skip, sx_ops, sx_seq, sx_cond, sx_block, sx_exit, sx_ret, sx_mcall, sx_mcell, sx_mset, elAt, setEl, isLst, cellsOf, sxl_nil, sxl_set, sxl_call, sxl_callv, sxl_g1, sxl_g2, sxl_g3, sxl_g4, OkS_true, GrdS_tt, GrdS_tf, GrdS_ft, GrdS_ff, CondS_t, CondS_f, then_n, then_e, then_r, blk_n, blk_e, blk_r, upd_app, Ex.ok, Ex.val, Opd.val, POp.dst, bin_int, binOK_int, bin_str, binOK_str, resOK, resV, RB.val, sub, putc, scB, scL, oneB, conf, Ex.val.eqP, Ex.val.eqL, negV, mxV, mnV, ← wr_eq, wr_zero, wr_one, wr_m1, bst_lst, byteC, partsOK, putAll, appV, nilV, slV, sslV, optB, optNum, and_assoc, exists_and_left, exists_eq_left', en, *]) | refine CallS_i (hc) ?_ | refine CondS_d (fun h => ?_) (fun h => ?_) | refine CondS_b (fun h => ?_) (fun h => ?_) | refine GrdS_d (fun h => ?_) (fun h => ?_) | refine GrdS_b (fun h => ?_) (fun h => ?_) | refine OkS_i (by omega) ?_ | fail)
    all_goals simp_all
  · have : n = l.length := by omega
    subst this
    repeat' (first | intro _ | (simp [sx_skip, sx_ops, sx_seq, sx_cond, sx_block, sx_exit, sx_ret, sx_mcall, sx_mcell, sx_mset, elAt, setEl, isLst, cellsOf, sxl_nil, sxl_set, sxl_call, sxl_callv, sxl_g1, sxl_g2, sxl_g3, sxl_g4, OkS_true, GrdS_tt, GrdS_tf, GrdS_ft, GrdS_ff, CondS_t, CondS_f, then_n, then_e, then_r, blk_n, blk_e, blk_r, upd_app, Ex.ok, Ex.val, Opd.val, POp.dst, bin_int, binOK_int, bin_str, binOK_str, resOK, resV, RB.val, sub, putc, scB, scL, oneB, conf, Ex.val.eqP, Ex.val.eqL, negV, mxV, mnV, ← wr_eq, wr_zero, wr_one, wr_m1, bst_lst, byteC, partsOK, putAll, appV, nilV, slV, sslV, optB, optNum, and_assoc, exists_and_left, exists_eq_left', *]) | refine CondS_d (fun h => ?_) (fun h => ?_) | refine CondS_b (fun h => ?_) (fun h => ?_) | refine GrdS_d (fun h => ?_) (fun h => ?_) | refine GrdS_b (fun h => ?_) (fun h => ?_) | refine OkS_i (by omega) ?_ | fail)
theorem wtL_len (l : List En) : l.length ≤ wtL l := Nat.le_add_right ..
theorem wtL_mem {l : List En} {x : En} (h : x ∈ l) : x.f0.f3.size + x.f0.f4.length ≤ wtL l := by
  unfold wtL wtTo
  rw [List.take_of_length_le (Nat.le_refl _)]
  have : ∀ (l : List En), x ∈ l → wtF x.f0 ≤ (l.map fun x => wtF x.f0).sum := by
    intro l
    induction l with
    | nil => intro h; cases h
    | cons y r ih =>
      intro h
      rw [List.map_cons, List.sum_cons]
      rcases List.mem_cons.1 h with rfl | h
      · exact Nat.le_add_right ..
      · have := ih h; omega
  have := this l h
  have e : wtF x.f0 = x.f0.f3.size + x.f0.f4.length := rfl
  omega
end Go.Eng
namespace Go.Eng
open Go Go.Proofs
set_option linter.unusedSimpArgs false
set_option linter.unusedVariables false
set_option maxRecDepth 20000
set_option maxHeartbeats 1000000

/-! lists of features and of numbers: sizes, copies, what is read as it was -/
def wtToF (l : List Ft) (n : Nat) : Nat := ((l.take n).map fun x => wtF x).sum
theorem wtToF_zero (l : List Ft) : wtToF l 0 = 0 := rfl
theorem wtToF_succ {l : List Ft} {n : Nat} (h : n < l.length) : wtToF l (n + 1) = wtToF l n + wtF l[n] := by
  unfold wtToF
  rw [List.take_add_one, List.getElem?_eq_getElem h, List.map_append, List.sum_append]
  simp
theorem wtToF_le {l : List Ft} {n m : Nat} (h : n ≤ m) : wtToF l n ≤ wtToF l m := by
  unfold wtToF
  have : l.take m = l.take n ++ (l.take m).drop n := by
    have := List.take_append_drop n (l.take m)
    rw [List.take_take, Nat.min_eq_left h] at this
    exact this.symm
  rw [this, List.map_append, List.sum_append]
  omega
def wtLF (l : List Ft) : Nat := l.length + wtToF l l.length
def ftz : List PV := [i 0, i 0, i 0, .str (bs []), .lst 2 true []]
def ftf (x : Ft) : List PV := [i x.f0, i x.f1, i x.f2, .str x.f3, .lst 2 false (x.f4.map cp)]
theorem f19 (l : List Ft) (n1 n2 : Bool) (hl : l.length ≤ 1000000000000) (hx : ∀ x ∈ l, x.f4.length ≤ 1000000000000) : Fn Try.prog 19 false [.lst 5 n1 (l.map ft), .lst 5 n2 (l.map ft)] (.bool true) := by
  refine Fn.by_sx hX (by kernel_rfl) c19 (by kernel_rfl) (by rfl) ?_
  simp [i19, sx_skip, sx_ops, sx_seq, sx_cond, sx_block, sx_exit, sx_ret, sx_mcall, sx_mcell, sx_mset, elAt, setEl, isLst, cellsOf, sxl_nil, sxl_set, sxl_call, sxl_callv, sxl_g1, sxl_g2, sxl_g3, sxl_g4, OkS_true, GrdS_tt, GrdS_tf, GrdS_ft, GrdS_ff, CondS_t, CondS_f, then_n, then_e, then_r, blk_n, blk_e, blk_r, upd_app, Ex.ok, Ex.val, Opd.val, POp.dst, bin_int, binOK_int, bin_str, binOK_str, resOK, resV, RB.val, sub, putc, scB, scL, oneB, conf, Ex.val.eqP, Ex.val.eqL, negV, mxV, mnV, ← wr_eq, wr_zero, wr_one, wr_m1, bst_lst, byteC, partsOK, putAll, appV, nilV, slV, sslV, optB, optNum, and_assoc, exists_and_left, exists_eq_left']
  repeat' (first | intro _ | (simp [sx_skip, sx_ops, sx_seq, sx_cond, sx_block, sx_exit, sx_ret, sx_mcall, sx_mcell, sx_mset, elAt, setEl, isLst, cellsOf, sxl_nil, sxl_set, sxl_call, sxl_callv, sxl_g1, sxl_g2, sxl_g3, sxl_g4, OkS_true, GrdS_tt, GrdS_tf, GrdS_ft, GrdS_ff, CondS_t, CondS_f, then_n, then_e, then_r, blk_n, blk_e, blk_r, upd_app, Ex.ok, Ex.val, Opd.val, POp.dst, bin_int, binOK_int, bin_str, binOK_str, resOK, resV, RB.val, sub, putc, scB, scL, oneB, conf, Ex.val.eqP, Ex.val.eqL, negV, mxV, mnV, ← wr_eq, wr_zero, wr_one, wr_m1, bst_lst, byteC, partsOK, putAll, appV, nilV, slV, sslV, optB, optNum, and_assoc, exists_and_left, exists_eq_left', *]) | refine CondS_d (fun h => ?_) (fun h => ?_) | refine CondS_b (fun h => ?_) (fun h => ?_) | refine GrdS_d (fun h => ?_) (fun h => ?_) | refine GrdS_b (fun h => ?_) (fun h => ?_) | refine OkS_i (by omega) ?_ | fail)
  refine sx_count l.length (fun n V => V 0 = .lst 5 n1 (l.map ft) ∧ V 1 = .lst 5 n2 (l.map ft) ∧ V 5 = i n) 0 (by omega) (by simp [sx_skip, sx_ops, sx_seq, sx_cond, sx_block, sx_exit, sx_ret, sx_mcall, sx_mcell, sx_mset, elAt, setEl, isLst, cellsOf, sxl_nil, sxl_set, sxl_call, sxl_callv, sxl_g1, sxl_g2, sxl_g3, sxl_g4, OkS_true, GrdS_tt, GrdS_tf, GrdS_ft, GrdS_ff, CondS_t, CondS_f, then_n, then_e, then_r, blk_n, blk_e, blk_r, upd_app, Ex.ok, Ex.val, Opd.val, POp.dst, bin_int, binOK_int, bin_str, binOK_str, resOK, resV, RB.val, sub, putc, scB, scL, oneB, conf, Ex.val.eqP, Ex.val.eqL, negV, mxV, mnV, ← wr_eq, wr_zero, wr_one, wr_m1, bst_lst, byteC, partsOK, putAll, appV, nilV, slV, sslV, optB, optNum, and_assoc, exists_and_left, exists_eq_left']) ?_
  rintro n V hn ⟨h0, h1, h5⟩
  have hw : wr .i64 ((n : Int) + 1) = n + 1 := wr_in (by omega) (by omega)
  simp [sx_skip, sx_ops, sx_seq, sx_cond, sx_block, sx_exit, sx_ret, sx_mcall, sx_mcell, sx_mset, elAt, setEl, isLst, cellsOf, sxl_nil, sxl_set, sxl_call, sxl_callv, sxl_g1, sxl_g2, sxl_g3, sxl_g4, OkS_true, GrdS_tt, GrdS_tf, GrdS_ft, GrdS_ff, CondS_t, CondS_f, then_n, then_e, then_r, blk_n, blk_e, blk_r, upd_app, Ex.ok, Ex.val, Opd.val, POp.dst, bin_int, binOK_int, bin_str, binOK_str, resOK, resV, RB.val, sub, putc, scB, scL, oneB, conf, Ex.val.eqP, Ex.val.eqL, negV, mxV, mnV, ← wr_eq, wr_zero, wr_one, wr_m1, bst_lst, byteC, partsOK, putAll, appV, nilV, slV, sslV, optB, optNum, and_assoc, exists_and_left, exists_eq_left', h0, h5]
  refine CondS_d (fun hlt => ?_) (fun hge => ?_)
  · have hlt' : n < l.length := by omega
    have hc := f69 l[n] l[n].nl l[n].nl (hx _ (List.getElem_mem ..))
    unfold ft at hc
    repeat' (first | intro _ | (simp [sx_skip, sx_ops, sx_seq, sx_cond, sx_block, sx_exit, sx_ret, sx_mcall, sx_mcell, sx_mset, elAt, setEl, isLst, cellsOf, sxl_nil, sxl_set, sxl_call, sxl_callv, sxl_g1, sxl_g2, sxl_g3, sxl_g4, OkS_true, GrdS_tt, GrdS_tf, GrdS_ft, GrdS_ff, CondS_t, CondS_f, then_n, then_e, then_r, blk_n, blk_e, blk_r, upd_app, Ex.ok, Ex.val, Opd.val, POp.dst, bin_int, binOK_int, bin_str, binOK_str, resOK, resV, RB.val, sub, putc, scB, scL, oneB, conf, Ex.val.eqP, Ex.val.eqL, negV, mxV, mnV, ← wr_eq, wr_zero, wr_one, wr_m1, bst_lst, byteC, partsOK, putAll, appV, nilV, slV, sslV, optB, optNum, and_assoc, exists_and_left, exists_eq_left', ft, *]) | refine CallS_i (hc) ?_ | refine CondS_d (fun h => ?_) (fun h => ?_) | refine CondS_b (fun h => ?_) (fun h => ?_) | refine GrdS_d (fun h => ?_) (fun h => ?_) | refine GrdS_b (fun h => ?_) (fun h => ?_) | refine OkS_i (by omega) ?_ | fail)
    all_goals simp_all
  · have : n = l.length := by omega
    subst this
    repeat' (first | intro _ | (simp [sx_skip, sx_ops, sx_seq, sx_cond, sx_block, sx_exit, sx_ret, sx_mcall, sx_mcell, sx_mset, elAt, setEl, isLst, cellsOf, sxl_nil, sxl_set, sxl_call, sxl_callv, sxl_g1, sxl_g2, sxl_g3, sxl_g4, OkS_true, GrdS_tt, GrdS_tf, GrdS_ft, GrdS_ff, CondS_t, CondS_f, then_n, then_e, then_r, blk_n, blk_e, blk_r, upd_app, Ex.ok, Ex.val, Opd.val, POp.dst, bin_int, binOK_int, bin_str, binOK_str, resOK, resV, RB.val, sub, putc, scB, scL, oneB, conf, Ex.val.eqP, Ex.val.eqL, negV, mxV, mnV, ← wr_eq, wr_zero, wr_one, wr_m1, bst_lst, byteC, partsOK, putAll, appV, nilV, slV, sslV, optB, optNum, and_assoc, exists_and_left, exists_eq_left', *]) | refine CondS_d (fun h => ?_) (fun h => ?_) | refine CondS_b (fun h => ?_) (fun h => ?_) | refine GrdS_d (fun h => ?_) (fun h => ?_) | refine GrdS_b (fun h => ?_) (fun h => ?_) | refine OkS_i (by omega) ?_ | fail)
theorem wtLF_len (l : List Ft) : l.length ≤ wtLF l := Nat.le_add_right ..
theorem wtLF_mem {l : List Ft} {x : Ft} (h : x ∈ l) : x.f3.size + x.f4.length ≤ wtLF l := by
  unfold wtLF wtToF
  rw [List.take_of_length_le (Nat.le_refl _)]
  have : ∀ (l : List Ft), x ∈ l → wtF x ≤ (l.map fun x => wtF x).sum := by
    intro l
    induction l with
    | nil => intro h; cases h
    | cons y r ih =>
      intro h
      rw [List.map_cons, List.sum_cons]
      rcases List.mem_cons.1 h with rfl | h
      · exact Nat.le_add_right ..
      · have := ih h; omega
  have := this l h
  have e : wtF x = x.f3.size + x.f4.length := rfl
  omega
end Go.Eng
namespace Go.Eng
open Go Go.Proofs Geo
set_option linter.unusedSimpArgs false
set_option linter.unusedVariables false
set_option maxRecDepth 20000
set_option maxHeartbeats 1000000

/-! lengths -/
def wSt (ax ay bx by' : Int) : Int := if M_IsPoint ax ay = true ∧ M_IsPoint bx by' = true then max (ax - bx) (bx - ax) + max (ay - by') (by' - ay) else -1
theorem wSt_ok {ax ay bx by' : Int} (h1 : M_IsPoint ax ay = true) (h2 : M_IsPoint bx by' = true) : wSt ax ay bx by' = max (ax - bx) (bx - ax) + max (ay - by') (by' - ay) ∧
    (wr .i64 (ax - bx) = ax - bx ∧ wr .i64 (bx - ax) = bx - ax ∧ wr .i64 (ay - by') = ay - by' ∧ wr .i64 (by' - ay) = by' - ay) ∧
    wr .i64 (max (ax - bx) (bx - ax) + max (ay - by') (by' - ay)) = max (ax - bx) (bx - ax) + max (ay - by') (by' - ay) := by
  have v1 := (M_IsPoint_iff _ _).1 h1
  have v2 := (M_IsPoint_iff _ _).1 h2
  unfold Vl at v1 v2
  refine ⟨if_pos ⟨h1, h2⟩, ⟨wr_in (by omega) (by omega), wr_in (by omega) (by omega), wr_in (by omega) (by omega), wr_in (by omega) (by omega)⟩, wr_in (by omega) (by omega)⟩
theorem wSt_bound (ax ay bx by' : Int) : -1 ≤ wSt ax ay bx by' ∧ wSt ax ay bx by' ≤ 400 := by
  unfold wSt
  split
  · rename_i h
    have v1 := (M_IsPoint_iff _ _).1 h.1
    have v2 := (M_IsPoint_iff _ _).1 h.2
    unfold Vl at v1 v2
    omega
  · omega
theorem mx_max (a b : Int) : (if a < b then b else a) = max a b := by omega
def sumTo (f : Nat → Int) : Nat → Int
  | 0 => 0
  | n + 1 => sumTo f n + f n
theorem sumTo_zero {f : Nat → Int} : sumTo f 0 = 0 := rfl
theorem sumTo_succ {f : Nat → Int} {n : Nat} : sumTo f (n + 1) = sumTo f n + f n := rfl
theorem sumTo_bound {f : Nat → Int} {a b : Int} (h : ∀ k, -a ≤ f k ∧ f k ≤ b) : ∀ n : Nat, -(a * n) ≤ sumTo f n ∧ sumTo f n ≤ b * n := by
  intro n
  induction n with
  | zero => simp [sumTo]
  | succ n ih =>
    have := h n
    have e1 : a * ((n + 1 : Nat) : Int) = a * n + a := by rw [Int.natCast_add, Int.mul_add]; simp
    have e2 : b * ((n + 1 : Nat) : Int) = b * n + b := by rw [Int.natCast_add, Int.mul_add]; simp
    rw [sumTo_succ, e1, e2]
    omega
def sSt (S : List Sg) (k : Nat) : Int := wSt (sgD S k).f0.f0 (sgD S k).f0.f1 (sgD S k).f1.f0 (sgD S k).f1.f1
def wSteps (l : List Pt) : Int := sumTo (sSt (wSegs l)) (wSegs l).length
theorem sSt_sum (S : List Sg) (n : Nat) : -(1 * (n : Int)) ≤ sumTo (sSt S) n ∧ sumTo (sSt S) n ≤ 400 * n := sumTo_bound (fun k => wSt_bound ..) n
theorem wSteps_bound (l : List Pt) : -9 ≤ wSteps l ∧ wSteps l ≤ 3600 := by
  have := sSt_sum (wSegs l) (wSegs l).length
  have h9 := wSegs_len l
  unfold wSteps
  omega
/-! the first that is found -/
def firstFrom (ok : Nat → Bool) : Nat → Nat → Int
  | 0, _ => -1
  | d + 1, i => if ok i = true then i else firstFrom ok d (i + 1)
theorem firstFrom_step {ok : Nat → Bool} {n N : Nat} (h : n < N) : firstFrom ok (N - n) n = if ok n = true then (n : Int) else firstFrom ok (N - (n + 1)) (n + 1) := by
  rw [show N - n = (N - (n + 1)) + 1 by omega]; rfl
theorem firstFrom_end {ok : Nat → Bool} {N : Nat} : firstFrom ok (N - N) N = -1 := by rw [Nat.sub_self]; rfl
theorem firstFrom_bound {ok : Nat → Bool} : ∀ d n : Nat, -1 ≤ firstFrom ok d n ∧ firstFrom ok d n < (n : Int) + d
  | 0, n => ⟨by simp [firstFrom], by simp [firstFrom]; omega⟩
  | d + 1, n => by
    unfold firstFrom
    split
    · omega
    · have := firstFrom_bound (ok := ok) d (n + 1)
      omega
def ftD : Ft := ⟨0, 0, 0, ⟨#[]⟩, [], true⟩
def hasId (l : List Ft) (id : Int) (n : Nat) : Bool := decide ((l.getD n ftD).f0 = id)
def wFind (l : List Ft) (id : Int) : Int := firstFrom (hasId l id) (l.length - 0) 0
theorem wFind_bound (l : List Ft) (id : Int) : -1 ≤ wFind l id ∧ wFind l id < l.length := by
  have := firstFrom_bound (ok := hasId l id) (l.length - 0) 0
  unfold wFind
  omega
end Go.Eng
namespace Go.Eng
open Go Go.Proofs Geo
set_option linter.unusedSimpArgs false
set_option linter.unusedVariables false
set_option maxRecDepth 20000
set_option maxHeartbeats 1000000

/-! the length of a way -/
def ints (l : List Int) : List (List PV) := l.map fun m => [i m]
def wayAt (l : List Ft) (ids : List Int) (j : Nat) : Int :=
  if 0 ≤ wFind l (ids.getD j 0) ∧ (l.getD (wFind l (ids.getD j 0)).toNat ftD).f1 = 2 then wSteps (l.getD (wFind l (ids.getD j 0)).toNat ftD).f4 else 0
def wWay (l : List Ft) (ids : List Int) : Int := sumTo (wayAt l ids) ids.length
theorem wayAt_bound (l : List Ft) (ids : List Int) (j : Nat) : -9 ≤ wayAt l ids j ∧ wayAt l ids j ≤ 3600 := by
  unfold wayAt
  split
  · exact wSteps_bound _
  · omega
theorem find_cases (l : List Ft) (id : Int) : wFind l id = -1 ∨ ∃ k : Nat, wFind l id = k ∧ k < l.length := by
  have := wFind_bound l id
  rcases Int.lt_or_le (wFind l id) 0 with h | h
  · left; omega
  · right; exact ⟨(wFind l id).toNat, by omega, by omega⟩
theorem frF_small {l r : List Ft} (hr : l.map Ft.fr = r) {B : Nat} (h : ∀ x ∈ l, x.f3.size ≤ B ∧ x.f4.length ≤ B) : ∀ x ∈ r, x.f3.size ≤ B ∧ x.f4.length ≤ B := by
  intro x hx
  rw [← hr] at hx
  obtain ⟨y, hy, rfl⟩ := List.mem_map.1 hx
  exact h y hy
end Go.Eng
namespace Go.Eng
open Go Go.Proofs Geo
set_option linter.unusedSimpArgs false
set_option linter.unusedVariables false
set_option maxRecDepth 20000
set_option maxHeartbeats 1000000

/-! a source, and a way -/
def srcAt (l : List Ft) (n : Nat) : Bool := wFeat (l.getD n ftD) && !(decide (0 < n) && decide ((l.getD n ftD).f0 ≤ (l.getD (n - 1) ftD).f0))
def wSrc (l : List Ft) : Bool := decide (l.length ≤ 16) && allTo (srcAt l) l.length
theorem allTo_at {ok : Nat → Bool} {n N : Nat} (h : allTo ok N = true) (hn : n < N) : ok n = true := by
  cases hb : ok n with
  | true => rfl
  | false => rw [allTo_bad hn hb] at h; cases h
theorem wSrc_line {l : List Ft} (h : wSrc l = true) {k : Nat} (hk : k < l.length) (h2 : l[k].f1 = 2) : 2 ≤ l[k].f4.length ∧ l[k].f4.length ≤ 10 := by
  unfold wSrc at h
  rw [Bool.and_eq_true] at h
  have := allTo_at h.2 hk
  simp [srcAt, hk, wFeat, wShape, h2, wSimple] at this
  exact wLine_len this.1.2.1
def pe (p q : Pt) : Bool := decide (p.f0 = q.f0) && decide (p.f1 = q.f1)
def endA (x : Ft) : Pt := x.f4.getD 0 ⟨0, 0⟩
def endB (x : Ft) : Pt := x.f4.getD (x.f4.length - 1) ⟨0, 0⟩
theorem pe_comm (p q : Pt) : pe p q = pe q p := by
  unfold pe
  have h1 : decide (p.f0 = q.f0) = decide (q.f0 = p.f0) := by simp [eq_comm]
  have h2 : decide (p.f1 = q.f1) = decide (q.f1 = p.f1) := by simp [eq_comm]
  rw [h1, h2]
def hopF (x : Ft) (rank : Int) (p : Pt) : Option Pt := if x.f1 = 2 ∧ ¬ x.f2 < rank then (if pe p (endA x) = true then some (endB x) else if pe p (endB x) = true then some (endA x) else none) else none
def hop (l : List Ft) (rank : Int) (p : Pt) (id : Int) : Option Pt := if wFind l id < 0 then none else hopF (l.getD (wFind l id).toNat ftD) rank p
def curTo (l : List Ft) (rank : Int) (ids : List Int) (s : Pt) : Nat → Option Pt
  | 0 => some s
  | n + 1 => match curTo l rank ids s n with
    | some p => hop l rank p (ids.getD n 0)
    | none => none
theorem curTo_none {l : List Ft} {rank : Int} {ids : List Int} {s : Pt} {n : Nat} (h : curTo l rank ids s n = none) : ∀ N, n ≤ N → curTo l rank ids s N = none
  | 0, hN => by obtain rfl : n = 0 := by omega
                exact h
  | N + 1, hN => by
    rcases Nat.lt_or_ge N n with h1 | h1
    · obtain rfl : n = N + 1 := by omega
      exact h
    · unfold curTo; rw [curTo_none h N h1]
def isWay (l : List Ft) (s e : Pt) (rank : Int) (ids : List Int) : Bool := wSrc l && (match curTo l rank ids s ids.length with
  | some p => pe p e
  | none => false)
theorem isWay_bad {l : List Ft} {s e : Pt} {rank : Int} {ids : List Int} {n : Nat} (hn : n < ids.length) {p : Pt} (hp : curTo l rank ids s n = some p) (h : hop l rank p ids[n] = none) : isWay l s e rank ids = false := by
  have : curTo l rank ids s (n + 1) = none := by unfold curTo; rw [hp]; simp [hn, h]
  unfold isWay
  rw [curTo_none this _ hn]
  simp
theorem frF_ok {l r : List Ft} (hr : l.map Ft.fr = r) (h : ∀ x ∈ l, x.f3.size ≤ 1048576 ∧ x.f4.length ≤ 1048576) : ∀ x ∈ r, x.okay := by
  intro x hx
  have := frF_small hr h x hx
  unfold Ft.okay
  omega
end Go.Eng
namespace Go.Eng
open Go Go.Proofs Geo
set_option linter.unusedSimpArgs false
set_option linter.unusedVariables false
set_option maxRecDepth 20000
set_option maxHeartbeats 1000000

/-! marks. WRITES -/
def dig1 (m : Nat) : ByteArray := ⟨#[UInt8.ofNat (48 + m % 10)]⟩
def mtd (m : Nat) (acc : ByteArray) : ByteArray := if h : m = 0 then acc else mtd (m / 10) (dig1 m ++ acc)
termination_by m
decreasing_by omega
def mt (k : Int) : ByteArray := if k ≤ 0 then bs [109, 48] else bs [109] ++ mtd k.toNat (bs [])
theorem f70 (k : Int) (hk : k ≤ 1000000000000) : Fn Try.prog 70 false [i k] (.str (mt k)) := by
  refine Fn.by_sx hX (by kernel_rfl) c70 (by kernel_rfl) (by rfl) ?_
  simp [i70, sx_skip, sx_ops, sx_seq, sx_cond, sx_block, sx_exit, sx_ret, sx_mcall, sx_mcell, sx_mset, elAt, setEl, isLst, cellsOf, sxl_nil, sxl_set, sxl_call, sxl_callv, sxl_g1, sxl_g2, sxl_g3, sxl_g4, OkS_true, GrdS_tt, GrdS_tf, GrdS_ft, GrdS_ff, CondS_t, CondS_f, then_n, then_e, then_r, blk_n, blk_e, blk_r, upd_app, Ex.ok, Ex.val, Opd.val, POp.dst, bin_int, binOK_int, bin_str, binOK_str, resOK, resV, RB.val, sub, putc, scB, scL, oneB, conf, Ex.val.eqP, Ex.val.eqL, negV, mxV, mnV, ← wr_eq, wr_zero, wr_one, wr_m1, bst_lst, byteC, partsOK, putAll, appV, nilV, slV, sslV, optB, optNum, and_assoc, exists_and_left, exists_eq_left']
  by_cases h0 : k ≤ 0
  · have : mt k = bs [109, 48] := if_pos h0
    repeat' (first | intro _ | (simp [sx_skip, sx_ops, sx_seq, sx_cond, sx_block, sx_exit, sx_ret, sx_mcall, sx_mcell, sx_mset, elAt, setEl, isLst, cellsOf, sxl_nil, sxl_set, sxl_call, sxl_callv, sxl_g1, sxl_g2, sxl_g3, sxl_g4, OkS_true, GrdS_tt, GrdS_tf, GrdS_ft, GrdS_ff, CondS_t, CondS_f, then_n, then_e, then_r, blk_n, blk_e, blk_r, upd_app, Ex.ok, Ex.val, Opd.val, POp.dst, bin_int, binOK_int, bin_str, binOK_str, resOK, resV, RB.val, sub, putc, scB, scL, oneB, conf, Ex.val.eqP, Ex.val.eqL, negV, mxV, mnV, ← wr_eq, wr_zero, wr_one, wr_m1, bst_lst, byteC, partsOK, putAll, appV, nilV, slV, sslV, optB, optNum, and_assoc, exists_and_left, exists_eq_left', *]) | refine CondS_d (fun h => ?_) (fun h => ?_) | refine CondS_b (fun h => ?_) (fun h => ?_) | refine GrdS_d (fun h => ?_) (fun h => ?_) | refine GrdS_b (fun h => ?_) (fun h => ?_) | refine OkS_i (by omega) ?_ | fail)
  · obtain ⟨N, rfl⟩ : ∃ N : Nat, k = N := ⟨k.toNat, by omega⟩
    obtain ⟨D, hD⟩ : ∃ D, mtd N (bs []) = D := ⟨_, rfl⟩
    have hm : mt (N : Int) = bs [109] ++ D := by unfold mt; rw [if_neg h0, Int.toNat_natCast, hD]
    rw [hm]
    clear hm
    have hN0 : ¬ N = 0 := by omega
    repeat' (first | intro _ | (simp [sx_skip, sx_ops, sx_seq, sx_cond, sx_block, sx_exit, sx_ret, sx_mcall, sx_mcell, sx_mset, elAt, setEl, isLst, cellsOf, sxl_nil, sxl_set, sxl_call, sxl_callv, sxl_g1, sxl_g2, sxl_g3, sxl_g4, OkS_true, GrdS_tt, GrdS_tf, GrdS_ft, GrdS_ff, CondS_t, CondS_f, then_n, then_e, then_r, blk_n, blk_e, blk_r, upd_app, Ex.ok, Ex.val, Opd.val, POp.dst, bin_int, binOK_int, bin_str, binOK_str, resOK, resV, RB.val, sub, putc, scB, scL, oneB, conf, Ex.val.eqP, Ex.val.eqL, negV, mxV, mnV, ← wr_eq, wr_zero, wr_one, wr_m1, bst_lst, byteC, partsOK, putAll, appV, nilV, slV, sslV, optB, optNum, and_assoc, exists_and_left, exists_eq_left', *]) | refine CondS_d (fun h => ?_) (fun h => ?_) | refine CondS_b (fun h => ?_) (fun h => ?_) | refine GrdS_d (fun h => ?_) (fun h => ?_) | refine GrdS_b (fun h => ?_) (fun h => ?_) | refine OkS_i (by omega) ?_ | fail)
    refine sx_down (fun m V => ∃ acc : ByteArray, V 3 = .str acc ∧ V 0 = i m ∧ mtd m acc = D ∧ acc.size + m ≤ N) N ⟨bs [], by simp [sx_skip, sx_ops, sx_seq, sx_cond, sx_block, sx_exit, sx_ret, sx_mcall, sx_mcell, sx_mset, elAt, setEl, isLst, cellsOf, sxl_nil, sxl_set, sxl_call, sxl_callv, sxl_g1, sxl_g2, sxl_g3, sxl_g4, OkS_true, GrdS_tt, GrdS_tf, GrdS_ft, GrdS_ff, CondS_t, CondS_f, then_n, then_e, then_r, blk_n, blk_e, blk_r, upd_app, Ex.ok, Ex.val, Opd.val, POp.dst, bin_int, binOK_int, bin_str, binOK_str, resOK, resV, RB.val, sub, putc, scB, scL, oneB, conf, Ex.val.eqP, Ex.val.eqL, negV, mxV, mnV, ← wr_eq, wr_zero, wr_one, wr_m1, bst_lst, byteC, partsOK, putAll, appV, nilV, slV, sslV, optB, optNum, and_assoc, exists_and_left, exists_eq_left'], by simp [sx_skip, sx_ops, sx_seq, sx_cond, sx_block, sx_exit, sx_ret, sx_mcall, sx_mcell, sx_mset, elAt, setEl, isLst, cellsOf, sxl_nil, sxl_set, sxl_call, sxl_callv, sxl_g1, sxl_g2, sxl_g3, sxl_g4, OkS_true, GrdS_tt, GrdS_tf, GrdS_ft, GrdS_ff, CondS_t, CondS_f, then_n, then_e, then_r, blk_n, blk_e, blk_r, upd_app, Ex.ok, Ex.val, Opd.val, POp.dst, bin_int, binOK_int, bin_str, binOK_str, resOK, resV, RB.val, sub, putc, scB, scL, oneB, conf, Ex.val.eqP, Ex.val.eqL, negV, mxV, mnV, ← wr_eq, wr_zero, wr_one, wr_m1, bst_lst, byteC, partsOK, putAll, appV, nilV, slV, sslV, optB, optNum, and_assoc, exists_and_left, exists_eq_left'], hD, by show 0 + N ≤ N; omega⟩ ?_
    rintro m V ⟨acc, h3, h0, hd, hsz⟩
    simp [sx_skip, sx_ops, sx_seq, sx_cond, sx_block, sx_exit, sx_ret, sx_mcall, sx_mcell, sx_mset, elAt, setEl, isLst, cellsOf, sxl_nil, sxl_set, sxl_call, sxl_callv, sxl_g1, sxl_g2, sxl_g3, sxl_g4, OkS_true, GrdS_tt, GrdS_tf, GrdS_ft, GrdS_ff, CondS_t, CondS_f, then_n, then_e, then_r, blk_n, blk_e, blk_r, upd_app, Ex.ok, Ex.val, Opd.val, POp.dst, bin_int, binOK_int, bin_str, binOK_str, resOK, resV, RB.val, sub, putc, scB, scL, oneB, conf, Ex.val.eqP, Ex.val.eqL, negV, mxV, mnV, ← wr_eq, wr_zero, wr_one, wr_m1, bst_lst, byteC, partsOK, putAll, appV, nilV, slV, sslV, optB, optNum, and_assoc, exists_and_left, exists_eq_left', h0, h3]
    refine CondS_d (fun hlt => ?_) (fun hge => ?_)
    · have hm0 : ¬ m = 0 := by omega
      have hmt : ((m : Int).tmod 10) = (m : Int) % 10 := Int.tmod_eq_emod_of_nonneg (by omega)
      have hmq : ((m : Int).tdiv 10) = (m : Int) / 10 := Int.tdiv_eq_ediv_of_nonneg (by omega)
      have hw1 : wr .i64 (48 + (m : Int) % 10) = 48 + (m : Int) % 10 := wr_in (by omega) (by omega)
      have hw2 : wr .u8 (48 + (m : Int) % 10) = 48 + (m : Int) % 10 := wr_u8 (by omega) (by omega)
      have hw3 : wr .i64 ((m : Int) / 10) = (m : Int) / 10 := wr_in (by omega) (by omega)
      rw [mtd, dif_neg hm0] at hd
      have hds : (dig1 m).size = 1 := rfl
      have hlt2 : m / 10 < m := by omega
      have htn : (48 + (m : Int) % 10).toNat = 48 + m % 10 := by omega
      have hdd : (⟨#[48 + UInt8.ofNat (m % 10)]⟩ : ByteArray) = dig1 m := by unfold dig1; rw [UInt8.ofNat_add]; rfl
      repeat' (first | intro _ | (simp [sx_skip, sx_ops, sx_seq, sx_cond, sx_block, sx_exit, sx_ret, sx_mcall, sx_mcell, sx_mset, elAt, setEl, isLst, cellsOf, sxl_nil, sxl_set, sxl_call, sxl_callv, sxl_g1, sxl_g2, sxl_g3, sxl_g4, OkS_true, GrdS_tt, GrdS_tf, GrdS_ft, GrdS_ff, CondS_t, CondS_f, then_n, then_e, then_r, blk_n, blk_e, blk_r, upd_app, Ex.ok, Ex.val, Opd.val, POp.dst, bin_int, binOK_int, bin_str, binOK_str, resOK, resV, RB.val, sub, putc, scB, scL, oneB, conf, Ex.val.eqP, Ex.val.eqL, negV, mxV, mnV, ← wr_eq, wr_zero, wr_one, wr_m1, bst_lst, byteC, partsOK, putAll, appV, nilV, slV, sslV, optB, optNum, and_assoc, exists_and_left, exists_eq_left', *]) | refine CondS_d (fun h => ?_) (fun h => ?_) | refine CondS_b (fun h => ?_) (fun h => ?_) | refine GrdS_d (fun h => ?_) (fun h => ?_) | refine GrdS_b (fun h => ?_) (fun h => ?_) | refine OkS_i (by omega) ?_ | fail)
      refine OkS_i ⟨[_], rfl⟩ ?_
      repeat' (first | intro _ | (simp [sx_skip, sx_ops, sx_seq, sx_cond, sx_block, sx_exit, sx_ret, sx_mcall, sx_mcell, sx_mset, elAt, setEl, isLst, cellsOf, sxl_nil, sxl_set, sxl_call, sxl_callv, sxl_g1, sxl_g2, sxl_g3, sxl_g4, OkS_true, GrdS_tt, GrdS_tf, GrdS_ft, GrdS_ff, CondS_t, CondS_f, then_n, then_e, then_r, blk_n, blk_e, blk_r, upd_app, Ex.ok, Ex.val, Opd.val, POp.dst, bin_int, binOK_int, bin_str, binOK_str, resOK, resV, RB.val, sub, putc, scB, scL, oneB, conf, Ex.val.eqP, Ex.val.eqL, negV, mxV, mnV, ← wr_eq, wr_zero, wr_one, wr_m1, bst_lst, byteC, partsOK, putAll, appV, nilV, slV, sslV, optB, optNum, and_assoc, exists_and_left, exists_eq_left', *]) | refine CondS_d (fun h => ?_) (fun h => ?_) | refine CondS_b (fun h => ?_) (fun h => ?_) | refine GrdS_d (fun h => ?_) (fun h => ?_) | refine GrdS_b (fun h => ?_) (fun h => ?_) | refine OkS_i (by omega) ?_ | fail)
      refine ⟨m / 10, hlt2, by omega, hd, ?_⟩
      omega
    · have : m = 0 := by omega
      subst this
      rw [mtd, dif_pos rfl] at hd
      subst hd
      have hb1 : (bs [109]).size = 1 := rfl
      repeat' (first | intro _ | (simp [sx_skip, sx_ops, sx_seq, sx_cond, sx_block, sx_exit, sx_ret, sx_mcall, sx_mcell, sx_mset, elAt, setEl, isLst, cellsOf, sxl_nil, sxl_set, sxl_call, sxl_callv, sxl_g1, sxl_g2, sxl_g3, sxl_g4, OkS_true, GrdS_tt, GrdS_tf, GrdS_ft, GrdS_ff, CondS_t, CondS_f, then_n, then_e, then_r, blk_n, blk_e, blk_r, upd_app, Ex.ok, Ex.val, Opd.val, POp.dst, bin_int, binOK_int, bin_str, binOK_str, resOK, resV, RB.val, sub, putc, scB, scL, oneB, conf, Ex.val.eqP, Ex.val.eqL, negV, mxV, mnV, ← wr_eq, wr_zero, wr_one, wr_m1, bst_lst, byteC, partsOK, putAll, appV, nilV, slV, sslV, optB, optNum, and_assoc, exists_and_left, exists_eq_left', *]) | refine CondS_d (fun h => ?_) (fun h => ?_) | refine CondS_b (fun h => ?_) (fun h => ?_) | refine GrdS_d (fun h => ?_) (fun h => ?_) | refine GrdS_b (fun h => ?_) (fun h => ?_) | refine OkS_i (by omega) ?_ | fail)
      all_goals (rw [hb1]; omega)
/-- a list that is new as far as n, and old behind -/
def mix (a b : List (List PV)) (n : Nat) : List (List PV) := a.take n ++ b.drop n
theorem mix_zero {a b : List (List PV)} : mix a b 0 = b := rfl
theorem mix_full {a b : List (List PV)} (h : a.length = b.length) : mix a b b.length = a := by unfold mix; rw [← h, List.take_length, h, List.drop_length, List.append_nil]
theorem mix_len {a b : List (List PV)} {n : Nat} (h : a.length = b.length) : (mix a b n).length = b.length := by unfold mix; simp; omega
theorem mix_at {a b : List (List PV)} {n : Nat} (h : a.length = b.length) (hn : n < b.length) : (mix a b n)[n]? = some b[n] := by
  unfold mix
  rw [List.getElem?_append_right (by simp; omega), List.getElem?_drop]
  have : n + (n - (a.take n).length) = n := by simp; omega
  rw [this, List.getElem?_eq_getElem hn]
theorem get_of {α : Type} {l : List α} {n : Nat} {x : α} (h : l[n]? = some x) : ∃ hn : n < l.length, l[n] = x := by
  have hn : n < l.length := by
    rcases Nat.lt_or_ge n l.length with h1 | h1
    · exact h1
    · rw [List.getElem?_eq_none h1] at h; cases h
  exact ⟨hn, by rw [List.getElem?_eq_getElem hn] at h; exact Option.some.inj h⟩
theorem mix_set {a b : List (List PV)} {n : Nat} (h : a.length = b.length) (hn : n < b.length) {e : List PV} (he : a[n]? = some e) : (mix a b n).set n e = mix a b (n + 1) := by
  unfold mix
  rw [List.set_append_right _ _ (by simp; omega)]
  have e1 : n - (a.take n).length = 0 := by simp; omega
  rw [e1, List.drop_eq_getElem_cons hn, List.set_cons_zero, List.take_add_one, he]
  simp
def mkInt (k : Int) (j : Nat) : List PV := [i (k + j)]
def mkPt (k : Int) (j : Nat) : Pt := ⟨k + 2 * j, k + 2 * j + 1⟩
theorem f71 (l : List Pt) (nl : Bool) (k : Int) (hnl : nl = true → l = []) (hk0 : 0 ≤ k) (hk : k + 2 * l.length ≤ 1000000000000) :
    FnM Try.prog 71 [.lst 2 nl (l.map cp), i k] (i (k + 2 * l.length)) (.lst 2 nl ((upTo (mkPt k) l.length).map cp)) := by
  obtain ⟨b, hb⟩ : ∃ b : List (List PV), l.map cp = b := ⟨_, rfl⟩
  have hbl : b.length = l.length := by rw [← hb]; simp
  obtain ⟨a, ha⟩ : ∃ a, (upTo (mkPt k) l.length).map cp = a := ⟨_, rfl⟩
  have hal : a.length = b.length := by rw [← ha, List.length_map, upTo_length, hbl]
  rw [ha, hb]
  refine FnM.by_sx hX (by kernel_rfl) c71 rfl rfl rfl ?_
  simp [i71, sx_skip, sx_ops, sx_seq, sx_cond, sx_block, sx_exit, sx_ret, sx_mcall, sx_mcell, sx_mset, elAt, setEl, isLst, cellsOf, sxl_nil, sxl_set, sxl_call, sxl_callv, sxl_g1, sxl_g2, sxl_g3, sxl_g4, OkS_true, GrdS_tt, GrdS_tf, GrdS_ft, GrdS_ff, CondS_t, CondS_f, then_n, then_e, then_r, blk_n, blk_e, blk_r, upd_app, Ex.ok, Ex.val, Opd.val, POp.dst, bin_int, binOK_int, bin_str, binOK_str, resOK, resV, RB.val, sub, putc, scB, scL, oneB, conf, Ex.val.eqP, Ex.val.eqL, negV, mxV, mnV, ← wr_eq, wr_zero, wr_one, wr_m1, bst_lst, byteC, partsOK, putAll, appV, nilV, slV, sslV, optB, optNum, and_assoc, exists_and_left, exists_eq_left']
  refine sx_count l.length (fun n V => V 0 = .lst 2 nl (mix a b n) ∧ V 5 = i n ∧ V 1 = i (k + 2 * n)) 0 (by omega) (by simp [sx_skip, sx_ops, sx_seq, sx_cond, sx_block, sx_exit, sx_ret, sx_mcall, sx_mcell, sx_mset, elAt, setEl, isLst, cellsOf, sxl_nil, sxl_set, sxl_call, sxl_callv, sxl_g1, sxl_g2, sxl_g3, sxl_g4, OkS_true, GrdS_tt, GrdS_tf, GrdS_ft, GrdS_ff, CondS_t, CondS_f, then_n, then_e, then_r, blk_n, blk_e, blk_r, upd_app, Ex.ok, Ex.val, Opd.val, POp.dst, bin_int, binOK_int, bin_str, binOK_str, resOK, resV, RB.val, sub, putc, scB, scL, oneB, conf, Ex.val.eqP, Ex.val.eqL, negV, mxV, mnV, ← wr_eq, wr_zero, wr_one, wr_m1, bst_lst, byteC, partsOK, putAll, appV, nilV, slV, sslV, optB, optNum, and_assoc, exists_and_left, exists_eq_left', mix_zero]) ?_
  rintro n V hn ⟨h0, h5, h1⟩
  have hml := mix_len (n := n) hal
  rw [hbl] at hml
  simp [sx_skip, sx_ops, sx_seq, sx_cond, sx_block, sx_exit, sx_ret, sx_mcall, sx_mcell, sx_mset, elAt, setEl, isLst, cellsOf, sxl_nil, sxl_set, sxl_call, sxl_callv, sxl_g1, sxl_g2, sxl_g3, sxl_g4, OkS_true, GrdS_tt, GrdS_tf, GrdS_ft, GrdS_ff, CondS_t, CondS_f, then_n, then_e, then_r, blk_n, blk_e, blk_r, upd_app, Ex.ok, Ex.val, Opd.val, POp.dst, bin_int, binOK_int, bin_str, binOK_str, resOK, resV, RB.val, sub, putc, scB, scL, oneB, conf, Ex.val.eqP, Ex.val.eqL, negV, mxV, mnV, ← wr_eq, wr_zero, wr_one, wr_m1, bst_lst, byteC, partsOK, putAll, appV, nilV, slV, sslV, optB, optNum, and_assoc, exists_and_left, exists_eq_left', h0, h5]
  refine CondS_d (fun hlt => ?_) (fun hge => ?_)
  · have hlt' : n < l.length := by omega
    have hnb : n < b.length := by omega
    have hf : nl = false := by cases nl with | false => rfl | true => rw [hnl rfl] at hlt'; simp at hlt'
    subst hf
    have hw : wr .i64 ((n : Int) + 1) = n + 1 := wr_in (by omega) (by omega)
    have hw2 : wr .i64 (k + 2 * n + 1) = k + 2 * n + 1 := wr_in (by omega) (by omega)
    have hw3 : wr .i64 (k + 2 * n + 1 + 1) = k + 2 * (n + 1) := by rw [wr_in (by omega) (by omega)]; omega
    have hat : (mix a b n)[n]? = some [i l[n].f0, i l[n].f1] := by rw [mix_at hal hnb]; subst hb; simp [cp]
    obtain ⟨hlm, hat'⟩ := get_of hat
    have hst : (mix a b n).set n [i (k + 2 * n), i (k + 2 * n + 1)] = mix a b (n + 1) := mix_set hal hnb (by rw [← ha, List.getElem?_map, upTo_get hlt']; rfl)
    repeat' (first | intro _ | (simp [sx_skip, sx_ops, sx_seq, sx_cond, sx_block, sx_exit, sx_ret, sx_mcall, sx_mcell, sx_mset, elAt, setEl, isLst, cellsOf, sxl_nil, sxl_set, sxl_call, sxl_callv, sxl_g1, sxl_g2, sxl_g3, sxl_g4, OkS_true, GrdS_tt, GrdS_tf, GrdS_ft, GrdS_ff, CondS_t, CondS_f, then_n, then_e, then_r, blk_n, blk_e, blk_r, upd_app, Ex.ok, Ex.val, Opd.val, POp.dst, bin_int, binOK_int, bin_str, binOK_str, resOK, resV, RB.val, sub, putc, scB, scL, oneB, conf, Ex.val.eqP, Ex.val.eqL, negV, mxV, mnV, ← wr_eq, wr_zero, wr_one, wr_m1, bst_lst, byteC, partsOK, putAll, appV, nilV, slV, sslV, optB, optNum, and_assoc, exists_and_left, exists_eq_left', *]) | refine CondS_d (fun h => ?_) (fun h => ?_) | refine CondS_b (fun h => ?_) (fun h => ?_) | refine GrdS_d (fun h => ?_) (fun h => ?_) | refine GrdS_b (fun h => ?_) (fun h => ?_) | refine OkS_i (by omega) ?_ | fail)
  · have : n = l.length := by omega
    subst this
    have hfu := mix_full hal
    rw [hbl] at hfu
    repeat' (first | intro _ | (simp [sx_skip, sx_ops, sx_seq, sx_cond, sx_block, sx_exit, sx_ret, sx_mcall, sx_mcell, sx_mset, elAt, setEl, isLst, cellsOf, sxl_nil, sxl_set, sxl_call, sxl_callv, sxl_g1, sxl_g2, sxl_g3, sxl_g4, OkS_true, GrdS_tt, GrdS_tf, GrdS_ft, GrdS_ff, CondS_t, CondS_f, then_n, then_e, then_r, blk_n, blk_e, blk_r, upd_app, Ex.ok, Ex.val, Opd.val, POp.dst, bin_int, binOK_int, bin_str, binOK_str, resOK, resV, RB.val, sub, putc, scB, scL, oneB, conf, Ex.val.eqP, Ex.val.eqL, negV, mxV, mnV, ← wr_eq, wr_zero, wr_one, wr_m1, bst_lst, byteC, partsOK, putAll, appV, nilV, slV, sslV, optB, optNum, and_assoc, exists_and_left, exists_eq_left', *]) | refine CondS_d (fun h => ?_) (fun h => ?_) | refine CondS_b (fun h => ?_) (fun h => ?_) | refine GrdS_d (fun h => ?_) (fun h => ?_) | refine GrdS_b (fun h => ?_) (fun h => ?_) | refine OkS_i (by omega) ?_ | fail)
end Go.Eng
namespace Go.Eng
open Go Go.Proofs Geo
set_option linter.unusedSimpArgs false
set_option linter.unusedVariables false
set_option maxRecDepth 20000
set_option maxHeartbeats 1000000

/-! marks of features. WRITES -/
def kTo (l : List Ft) (k : Int) : Nat → Int
  | 0 => k
  | n + 1 => kTo l k n + 4 + 2 * ((l.getD n ftD).f4.length : Nat)
def mkFt (k : Int) (x : Ft) : Ft := ⟨k, k + 1, k + 2, mt (k + 3), upTo (mkPt (k + 4)) x.f4.length, x.nl⟩
def mkFtAt (l : List Ft) (k : Int) (j : Nat) : Ft := mkFt (kTo l k j) (l.getD j ftD)
def Ft.nlok (x : Ft) : Prop := x.nl = true → x.f4 = []
theorem kTo_mono {l : List Ft} {k : Int} {n m : Nat} (h : n ≤ m) : kTo l k n ≤ kTo l k m := by
  induction m with
  | zero => obtain rfl : n = 0 := by omega
            exact Int.le_refl _
  | succ m ih =>
    rcases Nat.lt_or_ge m n with h1 | h1
    · obtain rfl : n = m + 1 := by omega
      exact Int.le_refl _
    · have := ih h1
      have h2 : kTo l k (m + 1) = kTo l k m + 4 + 2 * ((l.getD m ftD).f4.length : Nat) := rfl
      omega
theorem f20 (l : List Ft) (nl : Bool) (k : Int) (hnl : nl = true → l = []) (hx : ∀ x ∈ l, x.nlok) (hk0 : 0 ≤ k) (hl : l.length ≤ 1000000000) (hk : kTo l k l.length ≤ 1000000000) :
    FnM Try.prog 20 [.lst 5 nl (l.map ft), i k] (i (kTo l k l.length)) (.lst 5 nl ((upTo (mkFtAt l k) l.length).map ft)) := by
  obtain ⟨b, hb⟩ : ∃ b : List (List PV), l.map ft = b := ⟨_, rfl⟩
  have hbl : b.length = l.length := by rw [← hb]; simp
  obtain ⟨a, ha⟩ : ∃ a, (upTo (mkFtAt l k) l.length).map ft = a := ⟨_, rfl⟩
  have hal : a.length = b.length := by rw [← ha, List.length_map, upTo_length, hbl]
  rw [ha, hb]
  refine FnM.by_sx hX (by kernel_rfl) c20 rfl rfl rfl ?_
  simp [i20, sx_skip, sx_ops, sx_seq, sx_cond, sx_block, sx_exit, sx_ret, sx_mcall, sx_mcell, sx_mset, elAt, setEl, isLst, cellsOf, sxl_nil, sxl_set, sxl_call, sxl_callv, sxl_g1, sxl_g2, sxl_g3, sxl_g4, OkS_true, GrdS_tt, GrdS_tf, GrdS_ft, GrdS_ff, CondS_t, CondS_f, then_n, then_e, then_r, blk_n, blk_e, blk_r, upd_app, Ex.ok, Ex.val, Opd.val, POp.dst, bin_int, binOK_int, bin_str, binOK_str, resOK, resV, RB.val, sub, putc, scB, scL, oneB, conf, Ex.val.eqP, Ex.val.eqL, negV, mxV, mnV, ← wr_eq, wr_zero, wr_one, wr_m1, bst_lst, byteC, partsOK, putAll, appV, nilV, slV, sslV, optB, optNum, and_assoc, exists_and_left, exists_eq_left']
  refine sx_count l.length (fun n V => V 0 = .lst 5 nl (mix a b n) ∧ V 5 = i n ∧ V 1 = i (kTo l k n)) 0 (by omega) (by simp [sx_skip, sx_ops, sx_seq, sx_cond, sx_block, sx_exit, sx_ret, sx_mcall, sx_mcell, sx_mset, elAt, setEl, isLst, cellsOf, sxl_nil, sxl_set, sxl_call, sxl_callv, sxl_g1, sxl_g2, sxl_g3, sxl_g4, OkS_true, GrdS_tt, GrdS_tf, GrdS_ft, GrdS_ff, CondS_t, CondS_f, then_n, then_e, then_r, blk_n, blk_e, blk_r, upd_app, Ex.ok, Ex.val, Opd.val, POp.dst, bin_int, binOK_int, bin_str, binOK_str, resOK, resV, RB.val, sub, putc, scB, scL, oneB, conf, Ex.val.eqP, Ex.val.eqL, negV, mxV, mnV, ← wr_eq, wr_zero, wr_one, wr_m1, bst_lst, byteC, partsOK, putAll, appV, nilV, slV, sslV, optB, optNum, and_assoc, exists_and_left, exists_eq_left', mix_zero, kTo]) ?_
  rintro n V hn ⟨h0, h5, h1⟩
  have hml := mix_len (n := n) hal
  rw [hbl] at hml
  simp [sx_skip, sx_ops, sx_seq, sx_cond, sx_block, sx_exit, sx_ret, sx_mcall, sx_mcell, sx_mset, elAt, setEl, isLst, cellsOf, sxl_nil, sxl_set, sxl_call, sxl_callv, sxl_g1, sxl_g2, sxl_g3, sxl_g4, OkS_true, GrdS_tt, GrdS_tf, GrdS_ft, GrdS_ff, CondS_t, CondS_f, then_n, then_e, then_r, blk_n, blk_e, blk_r, upd_app, Ex.ok, Ex.val, Opd.val, POp.dst, bin_int, binOK_int, bin_str, binOK_str, resOK, resV, RB.val, sub, putc, scB, scL, oneB, conf, Ex.val.eqP, Ex.val.eqL, negV, mxV, mnV, ← wr_eq, wr_zero, wr_one, wr_m1, bst_lst, byteC, partsOK, putAll, appV, nilV, slV, sslV, optB, optNum, and_assoc, exists_and_left, exists_eq_left', h0, h5]
  refine CondS_d (fun hlt => ?_) (fun hge => ?_)
  · have hlt' : n < l.length := by omega
    have hnb : n < b.length := by omega
    have hf : nl = false := by cases nl with | false => rfl | true => rw [hnl rfl] at hlt'; simp at hlt'
    subst hf
    have hm1 := kTo_mono (l := l) (k := k) (n := 0) (m := n) (by omega)
    have hm2 := kTo_mono (l := l) (k := k) (n := n + 1) (m := l.length) (by omega)
    have hks : kTo l k (n + 1) = kTo l k n + 4 + 2 * (l[n].f4.length : Nat) := by simp [kTo, hlt']
    have hm1 : k ≤ kTo l k n := hm1
    have hmk : ft (mkFtAt l k n) = [i (kTo l k n), i (kTo l k n + 1), i (kTo l k n + 2), .str (mt (kTo l k n + 3)), .lst 2 l[n].nl ((upTo (mkPt (kTo l k n + 4)) l[n].f4.length).map cp)] := by unfold mkFtAt mkFt ft; simp [hlt']
    obtain ⟨x, hxe⟩ : ∃ x, l[n] = x := ⟨_, rfl⟩
    have hxo := hx l[n] (List.getElem_mem ..)
    have hat : (mix a b n)[n]? = some [i x.f0, i x.f1, i x.f2, .str x.f3, .lst 2 x.nl (x.f4.map cp)] := by rw [mix_at hal hnb]; subst hb; simp [ft, hxe]
    rw [hxe] at hks hmk hxo
    obtain ⟨q, hq⟩ : ∃ q, kTo l k n = q := ⟨_, rfl⟩
    rw [hq] at hks hmk h1 hm1
    have hst : (mix a b n).set n [i q, i (q + 1), i (q + 2), .str (mt (q + 3)), .lst 2 x.nl ((upTo (mkPt (q + 4)) x.f4.length).map cp)] = mix a b (n + 1) := mix_set hal hnb (by rw [← ha, List.getElem?_map, upTo_get hlt', Option.map_some, hmk])
    obtain ⟨hlm, hat'⟩ := get_of hat
    have hw : wr .i64 ((n : Int) + 1) = n + 1 := wr_in (by omega) (by omega)
    have w1 : wr .i64 (q + 1) = q + 1 := wr_in (by omega) (by omega)
    have w2 : wr .i64 (q + 1 + 1) = q + 2 := by rw [wr_in (by omega) (by omega)]; omega
    have w3 : wr .i64 (q + 2 + 1) = q + 3 := by rw [wr_in (by omega) (by omega)]; omega
    have w4 : wr .i64 (q + 3 + 1) = q + 4 := by rw [wr_in (by omega) (by omega)]; omega
    have c1 := f70 (q + 3) (by omega)
    have c2 := f71 x.f4 x.nl (q + 4) hxo (by omega) (by omega)
    have hks' : q + 4 + 2 * (x.f4.length : Int) = kTo l k (n + 1) := hks.symm
    clear hks hmk ha hb hq
    rw [hks'] at c2
    repeat' (first | intro _ | (simp [sx_skip, sx_ops, sx_seq, sx_cond, sx_block, sx_exit, sx_ret, sx_mcall, sx_mcell, sx_mset, elAt, setEl, isLst, cellsOf, sxl_nil, sxl_set, sxl_call, sxl_callv, sxl_g1, sxl_g2, sxl_g3, sxl_g4, OkS_true, GrdS_tt, GrdS_tf, GrdS_ft, GrdS_ff, CondS_t, CondS_f, then_n, then_e, then_r, blk_n, blk_e, blk_r, upd_app, Ex.ok, Ex.val, Opd.val, POp.dst, bin_int, binOK_int, bin_str, binOK_str, resOK, resV, RB.val, sub, putc, scB, scL, oneB, conf, Ex.val.eqP, Ex.val.eqL, negV, mxV, mnV, ← wr_eq, wr_zero, wr_one, wr_m1, bst_lst, byteC, partsOK, putAll, appV, nilV, slV, sslV, optB, optNum, and_assoc, exists_and_left, exists_eq_left', cp, *]) | refine CallS_i (c1) ?_ | refine CallS_i (c2) ?_ | refine CallM_i (c1) ?_ | refine CallM_i (c2) ?_ | refine CallE_i (c1) ?_ | refine CallE_i (c2) ?_ | refine CondS_d (fun h => ?_) (fun h => ?_) | refine CondS_b (fun h => ?_) (fun h => ?_) | refine GrdS_d (fun h => ?_) (fun h => ?_) | refine GrdS_b (fun h => ?_) (fun h => ?_) | refine OkS_i (by omega) ?_ | fail)
  · have : n = l.length := by omega
    subst this
    have hfu := mix_full hal
    rw [hbl] at hfu
    repeat' (first | intro _ | (simp [sx_skip, sx_ops, sx_seq, sx_cond, sx_block, sx_exit, sx_ret, sx_mcall, sx_mcell, sx_mset, elAt, setEl, isLst, cellsOf, sxl_nil, sxl_set, sxl_call, sxl_callv, sxl_g1, sxl_g2, sxl_g3, sxl_g4, OkS_true, GrdS_tt, GrdS_tf, GrdS_ft, GrdS_ff, CondS_t, CondS_f, then_n, then_e, then_r, blk_n, blk_e, blk_r, upd_app, Ex.ok, Ex.val, Opd.val, POp.dst, bin_int, binOK_int, bin_str, binOK_str, resOK, resV, RB.val, sub, putc, scB, scL, oneB, conf, Ex.val.eqP, Ex.val.eqL, negV, mxV, mnV, ← wr_eq, wr_zero, wr_one, wr_m1, bst_lst, byteC, partsOK, putAll, appV, nilV, slV, sslV, optB, optNum, and_assoc, exists_and_left, exists_eq_left', *]) | refine CondS_d (fun h => ?_) (fun h => ?_) | refine CondS_b (fun h => ?_) (fun h => ?_) | refine GrdS_d (fun h => ?_) (fun h => ?_) | refine GrdS_b (fun h => ?_) (fun h => ?_) | refine OkS_i (by omega) ?_ | fail)
theorem kTo_le (l : List Ft) : ∀ n : Nat, n ≤ l.length → ∀ k : Int, kTo l k n ≤ k + 4 * n + 2 * (wtToF l n : Nat)
  | 0, _, k => by simp [kTo]; omega
  | n + 1, hn, k => by
    have h1 := kTo_le l n (by omega) k
    have h2 := wtToF_succ (l := l) (n := n) (by omega)
    have h3 : wtF l[n] = l[n].f3.size + l[n].f4.length := rfl
    have h4 : kTo l k (n + 1) = kTo l k n + 4 + 2 * (l[n].f4.length : Nat) := by simp [kTo, show n < l.length by omega]
    omega
end Go.Eng
namespace Go.Eng
open Go Go.Proofs Geo
set_option linter.unusedSimpArgs false
set_option linter.unusedVariables false
set_option maxRecDepth 20000
set_option maxHeartbeats 1000000

/-! marks that are read again. WRITES -/
theorem f79 (N : Nat) (nl : Bool) (k : Int) (hk0 : 0 ≤ k) (hk : k + 2 * N ≤ 1000000000000) :
    Fn Try.prog 79 false [.lst 2 nl ((upTo (mkPt k) N).map cp), i k] (i (k + 2 * N)) := by
  obtain ⟨a, ha⟩ : ∃ a, (upTo (mkPt k) N).map cp = a := ⟨_, rfl⟩
  have hal : a.length = N := by rw [← ha, List.length_map, upTo_length]
  rw [ha]
  refine Fn.by_sx hX (by kernel_rfl) c79 (by kernel_rfl) (by rfl) ?_
  simp [i79, sx_skip, sx_ops, sx_seq, sx_cond, sx_block, sx_exit, sx_ret, sx_mcall, sx_mcell, sx_mset, elAt, setEl, isLst, cellsOf, sxl_nil, sxl_set, sxl_call, sxl_callv, sxl_g1, sxl_g2, sxl_g3, sxl_g4, OkS_true, GrdS_tt, GrdS_tf, GrdS_ft, GrdS_ff, CondS_t, CondS_f, then_n, then_e, then_r, blk_n, blk_e, blk_r, upd_app, Ex.ok, Ex.val, Opd.val, POp.dst, bin_int, binOK_int, bin_str, binOK_str, resOK, resV, RB.val, sub, putc, scB, scL, oneB, conf, Ex.val.eqP, Ex.val.eqL, negV, mxV, mnV, ← wr_eq, wr_zero, wr_one, wr_m1, bst_lst, byteC, partsOK, putAll, appV, nilV, slV, sslV, optB, optNum, and_assoc, exists_and_left, exists_eq_left']
  refine sx_count N (fun n V => V 0 = .lst 2 nl a ∧ V 5 = i n ∧ V 1 = i (k + 2 * n)) 0 (by omega) (by simp [sx_skip, sx_ops, sx_seq, sx_cond, sx_block, sx_exit, sx_ret, sx_mcall, sx_mcell, sx_mset, elAt, setEl, isLst, cellsOf, sxl_nil, sxl_set, sxl_call, sxl_callv, sxl_g1, sxl_g2, sxl_g3, sxl_g4, OkS_true, GrdS_tt, GrdS_tf, GrdS_ft, GrdS_ff, CondS_t, CondS_f, then_n, then_e, then_r, blk_n, blk_e, blk_r, upd_app, Ex.ok, Ex.val, Opd.val, POp.dst, bin_int, binOK_int, bin_str, binOK_str, resOK, resV, RB.val, sub, putc, scB, scL, oneB, conf, Ex.val.eqP, Ex.val.eqL, negV, mxV, mnV, ← wr_eq, wr_zero, wr_one, wr_m1, bst_lst, byteC, partsOK, putAll, appV, nilV, slV, sslV, optB, optNum, and_assoc, exists_and_left, exists_eq_left']) ?_
  rintro n V hn ⟨h0, h5, h1⟩
  simp [sx_skip, sx_ops, sx_seq, sx_cond, sx_block, sx_exit, sx_ret, sx_mcall, sx_mcell, sx_mset, elAt, setEl, isLst, cellsOf, sxl_nil, sxl_set, sxl_call, sxl_callv, sxl_g1, sxl_g2, sxl_g3, sxl_g4, OkS_true, GrdS_tt, GrdS_tf, GrdS_ft, GrdS_ff, CondS_t, CondS_f, then_n, then_e, then_r, blk_n, blk_e, blk_r, upd_app, Ex.ok, Ex.val, Opd.val, POp.dst, bin_int, binOK_int, bin_str, binOK_str, resOK, resV, RB.val, sub, putc, scB, scL, oneB, conf, Ex.val.eqP, Ex.val.eqL, negV, mxV, mnV, ← wr_eq, wr_zero, wr_one, wr_m1, bst_lst, byteC, partsOK, putAll, appV, nilV, slV, sslV, optB, optNum, and_assoc, exists_and_left, exists_eq_left', h0, h5]
  refine CondS_d (fun hlt => ?_) (fun hge => ?_)
  · have hlt' : n < N := by omega
    have hw : wr .i64 ((n : Int) + 1) = n + 1 := wr_in (by omega) (by omega)
    have hw2 : wr .i64 (k + 2 * n + 1) = k + 2 * n + 1 := wr_in (by omega) (by omega)
    have hw3 : wr .i64 (k + 2 * n + 1 + 1) = k + 2 * (n + 1) := by rw [wr_in (by omega) (by omega)]; omega
    have hat : a[n]? = some [i (k + 2 * n), i (k + 2 * n + 1)] := by rw [← ha, List.getElem?_map, upTo_get hlt']; rfl
    obtain ⟨hlm, hat'⟩ := get_of hat
    repeat' (first | intro _ | (simp [sx_skip, sx_ops, sx_seq, sx_cond, sx_block, sx_exit, sx_ret, sx_mcall, sx_mcell, sx_mset, elAt, setEl, isLst, cellsOf, sxl_nil, sxl_set, sxl_call, sxl_callv, sxl_g1, sxl_g2, sxl_g3, sxl_g4, OkS_true, GrdS_tt, GrdS_tf, GrdS_ft, GrdS_ff, CondS_t, CondS_f, then_n, then_e, then_r, blk_n, blk_e, blk_r, upd_app, Ex.ok, Ex.val, Opd.val, POp.dst, bin_int, binOK_int, bin_str, binOK_str, resOK, resV, RB.val, sub, putc, scB, scL, oneB, conf, Ex.val.eqP, Ex.val.eqL, negV, mxV, mnV, ← wr_eq, wr_zero, wr_one, wr_m1, bst_lst, byteC, partsOK, putAll, appV, nilV, slV, sslV, optB, optNum, and_assoc, exists_and_left, exists_eq_left', *]) | refine CondS_d (fun h => ?_) (fun h => ?_) | refine CondS_b (fun h => ?_) (fun h => ?_) | refine GrdS_d (fun h => ?_) (fun h => ?_) | refine GrdS_b (fun h => ?_) (fun h => ?_) | refine OkS_i (by omega) ?_ | fail)
  · have : n = N := by omega
    subst this
    repeat' (first | intro _ | (simp [sx_skip, sx_ops, sx_seq, sx_cond, sx_block, sx_exit, sx_ret, sx_mcall, sx_mcell, sx_mset, elAt, setEl, isLst, cellsOf, sxl_nil, sxl_set, sxl_call, sxl_callv, sxl_g1, sxl_g2, sxl_g3, sxl_g4, OkS_true, GrdS_tt, GrdS_tf, GrdS_ft, GrdS_ff, CondS_t, CondS_f, then_n, then_e, then_r, blk_n, blk_e, blk_r, upd_app, Ex.ok, Ex.val, Opd.val, POp.dst, bin_int, binOK_int, bin_str, binOK_str, resOK, resV, RB.val, sub, putc, scB, scL, oneB, conf, Ex.val.eqP, Ex.val.eqL, negV, mxV, mnV, ← wr_eq, wr_zero, wr_one, wr_m1, bst_lst, byteC, partsOK, putAll, appV, nilV, slV, sslV, optB, optNum, and_assoc, exists_and_left, exists_eq_left', *]) | refine CondS_d (fun h => ?_) (fun h => ?_) | refine CondS_b (fun h => ?_) (fun h => ?_) | refine GrdS_d (fun h => ?_) (fun h => ?_) | refine GrdS_b (fun h => ?_) (fun h => ?_) | refine OkS_i (by omega) ?_ | fail)
theorem f31 (l : List Ft) (nl : Bool) (k : Int) (hk0 : 0 ≤ k) (hl : l.length ≤ 1000000000) (hk : kTo l k l.length ≤ 1000000000) :
    Fn Try.prog 31 false [.lst 5 nl ((upTo (mkFtAt l k) l.length).map ft), i k] (i (kTo l k l.length)) := by
  obtain ⟨a, ha⟩ : ∃ a, (upTo (mkFtAt l k) l.length).map ft = a := ⟨_, rfl⟩
  have hal : a.length = l.length := by rw [← ha, List.length_map, upTo_length]
  rw [ha]
  refine Fn.by_sx hX (by kernel_rfl) c31 (by kernel_rfl) (by rfl) ?_
  simp [i31, sx_skip, sx_ops, sx_seq, sx_cond, sx_block, sx_exit, sx_ret, sx_mcall, sx_mcell, sx_mset, elAt, setEl, isLst, cellsOf, sxl_nil, sxl_set, sxl_call, sxl_callv, sxl_g1, sxl_g2, sxl_g3, sxl_g4, OkS_true, GrdS_tt, GrdS_tf, GrdS_ft, GrdS_ff, CondS_t, CondS_f, then_n, then_e, then_r, blk_n, blk_e, blk_r, upd_app, Ex.ok, Ex.val, Opd.val, POp.dst, bin_int, binOK_int, bin_str, binOK_str, resOK, resV, RB.val, sub, putc, scB, scL, oneB, conf, Ex.val.eqP, Ex.val.eqL, negV, mxV, mnV, ← wr_eq, wr_zero, wr_one, wr_m1, bst_lst, byteC, partsOK, putAll, appV, nilV, slV, sslV, optB, optNum, and_assoc, exists_and_left, exists_eq_left']
  refine sx_count l.length (fun n V => V 0 = .lst 5 nl a ∧ V 5 = i n ∧ V 1 = i (kTo l k n)) 0 (by omega) (by simp [sx_skip, sx_ops, sx_seq, sx_cond, sx_block, sx_exit, sx_ret, sx_mcall, sx_mcell, sx_mset, elAt, setEl, isLst, cellsOf, sxl_nil, sxl_set, sxl_call, sxl_callv, sxl_g1, sxl_g2, sxl_g3, sxl_g4, OkS_true, GrdS_tt, GrdS_tf, GrdS_ft, GrdS_ff, CondS_t, CondS_f, then_n, then_e, then_r, blk_n, blk_e, blk_r, upd_app, Ex.ok, Ex.val, Opd.val, POp.dst, bin_int, binOK_int, bin_str, binOK_str, resOK, resV, RB.val, sub, putc, scB, scL, oneB, conf, Ex.val.eqP, Ex.val.eqL, negV, mxV, mnV, ← wr_eq, wr_zero, wr_one, wr_m1, bst_lst, byteC, partsOK, putAll, appV, nilV, slV, sslV, optB, optNum, and_assoc, exists_and_left, exists_eq_left', kTo]) ?_
  rintro n V hn ⟨h0, h5, h1⟩
  simp [sx_skip, sx_ops, sx_seq, sx_cond, sx_block, sx_exit, sx_ret, sx_mcall, sx_mcell, sx_mset, elAt, setEl, isLst, cellsOf, sxl_nil, sxl_set, sxl_call, sxl_callv, sxl_g1, sxl_g2, sxl_g3, sxl_g4, OkS_true, GrdS_tt, GrdS_tf, GrdS_ft, GrdS_ff, CondS_t, CondS_f, then_n, then_e, then_r, blk_n, blk_e, blk_r, upd_app, Ex.ok, Ex.val, Opd.val, POp.dst, bin_int, binOK_int, bin_str, binOK_str, resOK, resV, RB.val, sub, putc, scB, scL, oneB, conf, Ex.val.eqP, Ex.val.eqL, negV, mxV, mnV, ← wr_eq, wr_zero, wr_one, wr_m1, bst_lst, byteC, partsOK, putAll, appV, nilV, slV, sslV, optB, optNum, and_assoc, exists_and_left, exists_eq_left', h0, h5]
  refine CondS_d (fun hlt => ?_) (fun hge => ?_)
  · have hlt' : n < l.length := by omega
    have hm1 := kTo_mono (l := l) (k := k) (n := 0) (m := n) (by omega)
    have hm2 := kTo_mono (l := l) (k := k) (n := n + 1) (m := l.length) (by omega)
    have hks : kTo l k (n + 1) = kTo l k n + 4 + 2 * (l[n].f4.length : Nat) := by simp [kTo, hlt']
    have hm1 : k ≤ kTo l k n := hm1
    have hmk : ft (mkFtAt l k n) = [i (kTo l k n), i (kTo l k n + 1), i (kTo l k n + 2), .str (mt (kTo l k n + 3)), .lst 2 l[n].nl ((upTo (mkPt (kTo l k n + 4)) l[n].f4.length).map cp)] := by unfold mkFtAt mkFt ft; simp [hlt']
    obtain ⟨x, hxe⟩ : ∃ x, l[n] = x := ⟨_, rfl⟩
    rw [hxe] at hks hmk
    obtain ⟨q, hq⟩ : ∃ q, kTo l k n = q := ⟨_, rfl⟩
    rw [hq] at hks hmk h1 hm1
    have hat : a[n]? = some [i q, i (q + 1), i (q + 2), .str (mt (q + 3)), .lst 2 x.nl ((upTo (mkPt (q + 4)) x.f4.length).map cp)] := by rw [← ha, List.getElem?_map, upTo_get hlt', Option.map_some, hmk]
    obtain ⟨hlm, hat'⟩ := get_of hat
    have hw : wr .i64 ((n : Int) + 1) = n + 1 := wr_in (by omega) (by omega)
    have w1 : wr .i64 (q + 1) = q + 1 := wr_in (by omega) (by omega)
    have w2 : wr .i64 (q + 1 + 1) = q + 2 := by rw [wr_in (by omega) (by omega)]; omega
    have w3 : wr .i64 (q + 2 + 1) = q + 3 := by rw [wr_in (by omega) (by omega)]; omega
    have w4 : wr .i64 (q + 3 + 1) = q + 4 := by rw [wr_in (by omega) (by omega)]; omega
    have c1 := f70 (q + 3) (by omega)
    have c2 := f79 x.f4.length x.nl (q + 4) (by omega) (by omega)
    have hks' : q + 4 + 2 * (x.f4.length : Int) = kTo l k (n + 1) := hks.symm
    have hneg : ¬ kTo l k (n + 1) < 0 := by omega
    clear hks hmk ha hq
    rw [hks'] at c2
    obtain ⟨T, hT⟩ : ∃ T, mt (q + 3) = T := ⟨_, rfl⟩
    rw [hT] at c1 hat hat'
    clear hT
    repeat' (first | intro _ | (simp [sx_skip, sx_ops, sx_seq, sx_cond, sx_block, sx_exit, sx_ret, sx_mcall, sx_mcell, sx_mset, elAt, setEl, isLst, cellsOf, sxl_nil, sxl_set, sxl_call, sxl_callv, sxl_g1, sxl_g2, sxl_g3, sxl_g4, OkS_true, GrdS_tt, GrdS_tf, GrdS_ft, GrdS_ff, CondS_t, CondS_f, then_n, then_e, then_r, blk_n, blk_e, blk_r, upd_app, Ex.ok, Ex.val, Opd.val, POp.dst, bin_int, binOK_int, bin_str, binOK_str, resOK, resV, RB.val, sub, putc, scB, scL, oneB, conf, Ex.val.eqP, Ex.val.eqL, negV, mxV, mnV, ← wr_eq, wr_zero, wr_one, wr_m1, bst_lst, byteC, partsOK, putAll, appV, nilV, slV, sslV, optB, optNum, and_assoc, exists_and_left, exists_eq_left', *]) | refine CallS_i (c1) ?_ | refine CallS_i (c2) ?_ | refine CallM_i (c1) ?_ | refine CallM_i (c2) ?_ | refine CallE_i (c1) ?_ | refine CallE_i (c2) ?_ | refine CondS_d (fun h => ?_) (fun h => ?_) | refine CondS_b (fun h => ?_) (fun h => ?_) | refine GrdS_d (fun h => ?_) (fun h => ?_) | refine GrdS_b (fun h => ?_) (fun h => ?_) | refine OkS_i (by omega) ?_ | fail)
  · have : n = l.length := by omega
    subst this
    repeat' (first | intro _ | (simp [sx_skip, sx_ops, sx_seq, sx_cond, sx_block, sx_exit, sx_ret, sx_mcall, sx_mcell, sx_mset, elAt, setEl, isLst, cellsOf, sxl_nil, sxl_set, sxl_call, sxl_callv, sxl_g1, sxl_g2, sxl_g3, sxl_g4, OkS_true, GrdS_tt, GrdS_tf, GrdS_ft, GrdS_ff, CondS_t, CondS_f, then_n, then_e, then_r, blk_n, blk_e, blk_r, upd_app, Ex.ok, Ex.val, Opd.val, POp.dst, bin_int, binOK_int, bin_str, binOK_str, resOK, resV, RB.val, sub, putc, scB, scL, oneB, conf, Ex.val.eqP, Ex.val.eqL, negV, mxV, mnV, ← wr_eq, wr_zero, wr_one, wr_m1, bst_lst, byteC, partsOK, putAll, appV, nilV, slV, sslV, optB, optNum, and_assoc, exists_and_left, exists_eq_left', *]) | refine CondS_d (fun h => ?_) (fun h => ?_) | refine CondS_b (fun h => ?_) (fun h => ?_) | refine GrdS_d (fun h => ?_) (fun h => ?_) | refine GrdS_b (fun h => ?_) (fun h => ?_) | refine OkS_i (by omega) ?_ | fail)
def kToE (l : List En) (k : Int) : Nat → Int
  | 0 => k
  | n + 1 => kToE l k n + 7 + 2 * ((l.getD n enD).f0.f4.length : Nat)
def mkEn (k : Int) (x : En) : En := ⟨mkFt k x.f0, k + 4 + 2 * (x.f0.f4.length : Nat), k + 5 + 2 * (x.f0.f4.length : Nat), decide ((k + 6 + 2 * (x.f0.f4.length : Nat)).tmod 3 = 0)⟩
def mkEnAt (l : List En) (k : Int) (j : Nat) : En := mkEn (kToE l k j) (l.getD j enD)
theorem kToE_mono {l : List En} {k : Int} {n m : Nat} (h : n ≤ m) : kToE l k n ≤ kToE l k m := by
  induction m with
  | zero => obtain rfl : n = 0 := by omega
            exact Int.le_refl _
  | succ m ih =>
    rcases Nat.lt_or_ge m n with h1 | h1
    · obtain rfl : n = m + 1 := by omega
      exact Int.le_refl _
    · have := ih h1
      have h2 : kToE l k (m + 1) = kToE l k m + 7 + 2 * ((l.getD m enD).f0.f4.length : Nat) := rfl
      omega
theorem f30 (l : List En) (nl : Bool) (k : Int) (hnl : nl = true → l = []) (hx : ∀ x ∈ l, x.f0.nlok) (hk0 : 0 ≤ k) (hl : l.length ≤ 1000000000) (hk : kToE l k l.length ≤ 1000000000) :
    FnM Try.prog 30 [.lst 8 nl (l.map en), i k] (i (kToE l k l.length)) (.lst 8 nl ((upTo (mkEnAt l k) l.length).map en)) := by
  obtain ⟨b, hb⟩ : ∃ b : List (List PV), l.map en = b := ⟨_, rfl⟩
  have hbl : b.length = l.length := by rw [← hb]; simp
  obtain ⟨a, ha⟩ : ∃ a, (upTo (mkEnAt l k) l.length).map en = a := ⟨_, rfl⟩
  have hal : a.length = b.length := by rw [← ha, List.length_map, upTo_length, hbl]
  rw [ha, hb]
  refine FnM.by_sx hX (by kernel_rfl) c30 rfl rfl rfl ?_
  simp [i30, sx_skip, sx_ops, sx_seq, sx_cond, sx_block, sx_exit, sx_ret, sx_mcall, sx_mcell, sx_mset, elAt, setEl, isLst, cellsOf, sxl_nil, sxl_set, sxl_call, sxl_callv, sxl_g1, sxl_g2, sxl_g3, sxl_g4, OkS_true, GrdS_tt, GrdS_tf, GrdS_ft, GrdS_ff, CondS_t, CondS_f, then_n, then_e, then_r, blk_n, blk_e, blk_r, upd_app, Ex.ok, Ex.val, Opd.val, POp.dst, bin_int, binOK_int, bin_str, binOK_str, resOK, resV, RB.val, sub, putc, scB, scL, oneB, conf, Ex.val.eqP, Ex.val.eqL, negV, mxV, mnV, ← wr_eq, wr_zero, wr_one, wr_m1, bst_lst, byteC, partsOK, putAll, appV, nilV, slV, sslV, optB, optNum, and_assoc, exists_and_left, exists_eq_left']
  refine sx_count l.length (fun n V => V 0 = .lst 8 nl (mix a b n) ∧ V 5 = i n ∧ V 1 = i (kToE l k n)) 0 (by omega) (by simp [sx_skip, sx_ops, sx_seq, sx_cond, sx_block, sx_exit, sx_ret, sx_mcall, sx_mcell, sx_mset, elAt, setEl, isLst, cellsOf, sxl_nil, sxl_set, sxl_call, sxl_callv, sxl_g1, sxl_g2, sxl_g3, sxl_g4, OkS_true, GrdS_tt, GrdS_tf, GrdS_ft, GrdS_ff, CondS_t, CondS_f, then_n, then_e, then_r, blk_n, blk_e, blk_r, upd_app, Ex.ok, Ex.val, Opd.val, POp.dst, bin_int, binOK_int, bin_str, binOK_str, resOK, resV, RB.val, sub, putc, scB, scL, oneB, conf, Ex.val.eqP, Ex.val.eqL, negV, mxV, mnV, ← wr_eq, wr_zero, wr_one, wr_m1, bst_lst, byteC, partsOK, putAll, appV, nilV, slV, sslV, optB, optNum, and_assoc, exists_and_left, exists_eq_left', mix_zero, kToE]) ?_
  rintro n V hn ⟨h0, h5, h1⟩
  have hml := mix_len (n := n) hal
  rw [hbl] at hml
  simp [sx_skip, sx_ops, sx_seq, sx_cond, sx_block, sx_exit, sx_ret, sx_mcall, sx_mcell, sx_mset, elAt, setEl, isLst, cellsOf, sxl_nil, sxl_set, sxl_call, sxl_callv, sxl_g1, sxl_g2, sxl_g3, sxl_g4, OkS_true, GrdS_tt, GrdS_tf, GrdS_ft, GrdS_ff, CondS_t, CondS_f, then_n, then_e, then_r, blk_n, blk_e, blk_r, upd_app, Ex.ok, Ex.val, Opd.val, POp.dst, bin_int, binOK_int, bin_str, binOK_str, resOK, resV, RB.val, sub, putc, scB, scL, oneB, conf, Ex.val.eqP, Ex.val.eqL, negV, mxV, mnV, ← wr_eq, wr_zero, wr_one, wr_m1, bst_lst, byteC, partsOK, putAll, appV, nilV, slV, sslV, optB, optNum, and_assoc, exists_and_left, exists_eq_left', h0, h5]
  refine CondS_d (fun hlt => ?_) (fun hge => ?_)
  · have hlt' : n < l.length := by omega
    have hnb : n < b.length := by omega
    have hf : nl = false := by cases nl with | false => rfl | true => rw [hnl rfl] at hlt'; simp at hlt'
    subst hf
    have hm1 := kToE_mono (l := l) (k := k) (n := 0) (m := n) (by omega)
    have hm2 := kToE_mono (l := l) (k := k) (n := n + 1) (m := l.length) (by omega)
    have hks : kToE l k (n + 1) = kToE l k n + 7 + 2 * (l[n].f0.f4.length : Nat) := by simp [kToE, hlt']
    have hm1 : k ≤ kToE l k n := hm1
    have hmk : en (mkEnAt l k n) = [i (kToE l k n), i (kToE l k n + 1), i (kToE l k n + 2), .str (mt (kToE l k n + 3)), .lst 2 l[n].f0.nl ((upTo (mkPt (kToE l k n + 4)) l[n].f0.f4.length).map cp), i (kToE l k n + 4 + 2 * (l[n].f0.f4.length : Nat)), i (kToE l k n + 5 + 2 * (l[n].f0.f4.length : Nat)), .bool (decide ((kToE l k n + 6 + 2 * (l[n].f0.f4.length : Nat)).tmod 3 = 0))] := by unfold mkEnAt mkEn mkFt en; simp [hlt']
    obtain ⟨x, hxe⟩ : ∃ x, l[n] = x := ⟨_, rfl⟩
    have hxo := hx l[n] (List.getElem_mem ..)
    have hat : (mix a b n)[n]? = some [i x.f0.f0, i x.f0.f1, i x.f0.f2, .str x.f0.f3, .lst 2 x.f0.nl (x.f0.f4.map cp), i x.f1, i x.f2, .bool x.f3] := by rw [mix_at hal hnb]; subst hb; simp [en, hxe]
    rw [hxe] at hks hmk hxo
    obtain ⟨q, hq⟩ : ∃ q, kToE l k n = q := ⟨_, rfl⟩
    rw [hq] at hks hmk h1 hm1
    obtain ⟨q2, hq2⟩ : ∃ q2 : Int, q + 4 + 2 * (x.f0.f4.length : Nat) = q2 := ⟨_, rfl⟩
    have e5 : q + 5 + 2 * (x.f0.f4.length : Nat) = q2 + 1 := by omega
    have e6 : q + 6 + 2 * (x.f0.f4.length : Nat) = q2 + 2 := by omega
    rw [hq2, e5, e6] at hmk
    have hst : (mix a b n).set n [i q, i (q + 1), i (q + 2), .str (mt (q + 3)), .lst 2 x.f0.nl ((upTo (mkPt (q + 4)) x.f0.f4.length).map cp), i q2, i (q2 + 1), .bool (decide ((q2 + 2).tmod 3 = 0))] = mix a b (n + 1) := mix_set hal hnb (by rw [← ha, List.getElem?_map, upTo_get hlt', Option.map_some, hmk])
    obtain ⟨hlm, hat'⟩ := get_of hat
    have hw : wr .i64 ((n : Int) + 1) = n + 1 := wr_in (by omega) (by omega)
    have w1 : wr .i64 (q + 1) = q + 1 := wr_in (by omega) (by omega)
    have w2 : wr .i64 (q + 1 + 1) = q + 2 := by rw [wr_in (by omega) (by omega)]; omega
    have w3 : wr .i64 (q + 2 + 1) = q + 3 := by rw [wr_in (by omega) (by omega)]; omega
    have w4 : wr .i64 (q + 3 + 1) = q + 4 := by rw [wr_in (by omega) (by omega)]; omega
    have w5 : wr .i64 (q2 + 1) = q2 + 1 := wr_in (by omega) (by omega)
    have w6 : wr .i64 (q2 + 1 + 1) = q2 + 2 := by rw [wr_in (by omega) (by omega)]; omega
    have w7 : wr .i64 (q2 + 2 + 1) = kToE l k (n + 1) := by rw [wr_in (by omega) (by omega)]; omega
    have c1 := f70 (q + 3) (by omega)
    have c2 := f71 x.f0.f4 x.f0.nl (q + 4) hxo (by omega) (by omega)
    have hq2' : q + 4 + 2 * (x.f0.f4.length : Int) = q2 := hq2
    rw [hq2'] at c2
    obtain ⟨r3, hr3⟩ : ∃ r3, (q2 + 2).tmod 3 = r3 := ⟨_, rfl⟩
    rw [hr3] at hst
    clear hks hmk ha hb hq hq2 hq2' e5 e6
    repeat' (first | intro _ | (simp [sx_skip, sx_ops, sx_seq, sx_cond, sx_block, sx_exit, sx_ret, sx_mcall, sx_mcell, sx_mset, elAt, setEl, isLst, cellsOf, sxl_nil, sxl_set, sxl_call, sxl_callv, sxl_g1, sxl_g2, sxl_g3, sxl_g4, OkS_true, GrdS_tt, GrdS_tf, GrdS_ft, GrdS_ff, CondS_t, CondS_f, then_n, then_e, then_r, blk_n, blk_e, blk_r, upd_app, Ex.ok, Ex.val, Opd.val, POp.dst, bin_int, binOK_int, bin_str, binOK_str, resOK, resV, RB.val, sub, putc, scB, scL, oneB, conf, Ex.val.eqP, Ex.val.eqL, negV, mxV, mnV, ← wr_eq, wr_zero, wr_one, wr_m1, bst_lst, byteC, partsOK, putAll, appV, nilV, slV, sslV, optB, optNum, and_assoc, exists_and_left, exists_eq_left', cp, *]) | refine CallS_i (c1) ?_ | refine CallS_i (c2) ?_ | refine CallM_i (c1) ?_ | refine CallM_i (c2) ?_ | refine CallE_i (c1) ?_ | refine CallE_i (c2) ?_ | refine CondS_d (fun h => ?_) (fun h => ?_) | refine CondS_b (fun h => ?_) (fun h => ?_) | refine GrdS_d (fun h => ?_) (fun h => ?_) | refine GrdS_b (fun h => ?_) (fun h => ?_) | refine OkS_i (by omega) ?_ | fail)
  · have : n = l.length := by omega
    subst this
    have hfu := mix_full hal
    rw [hbl] at hfu
    repeat' (first | intro _ | (simp [sx_skip, sx_ops, sx_seq, sx_cond, sx_block, sx_exit, sx_ret, sx_mcall, sx_mcell, sx_mset, elAt, setEl, isLst, cellsOf, sxl_nil, sxl_set, sxl_call, sxl_callv, sxl_g1, sxl_g2, sxl_g3, sxl_g4, OkS_true, GrdS_tt, GrdS_tf, GrdS_ft, GrdS_ff, CondS_t, CondS_f, then_n, then_e, then_r, blk_n, blk_e, blk_r, upd_app, Ex.ok, Ex.val, Opd.val, POp.dst, bin_int, binOK_int, bin_str, binOK_str, resOK, resV, RB.val, sub, putc, scB, scL, oneB, conf, Ex.val.eqP, Ex.val.eqL, negV, mxV, mnV, ← wr_eq, wr_zero, wr_one, wr_m1, bst_lst, byteC, partsOK, putAll, appV, nilV, slV, sslV, optB, optNum, and_assoc, exists_and_left, exists_eq_left', *]) | refine CondS_d (fun h => ?_) (fun h => ?_) | refine CondS_b (fun h => ?_) (fun h => ?_) | refine GrdS_d (fun h => ?_) (fun h => ?_) | refine GrdS_b (fun h => ?_) (fun h => ?_) | refine OkS_i (by omega) ?_ | fail)
theorem kToE_le (l : List En) : ∀ n : Nat, n ≤ l.length → ∀ k : Int, kToE l k n ≤ k + 7 * n + 2 * (wtTo l n : Nat)
  | 0, _, k => by simp [kToE]; omega
  | n + 1, hn, k => by
    have h1 := kToE_le l n (by omega) k
    have h2 := wtTo_succ (l := l) (n := n) (by omega)
    have h3 : wtF l[n].f0 = l[n].f0.f3.size + l[n].f0.f4.length := rfl
    have h4 : kToE l k (n + 1) = kToE l k n + 7 + 2 * (l[n].f0.f4.length : Nat) := by simp [kToE, show n < l.length by omega]
    omega
end Go.Eng
namespace Go.Eng
open Go Go.Proofs Geo
set_option linter.unusedSimpArgs false
set_option linter.unusedVariables false
set_option maxRecDepth 20000
set_option maxHeartbeats 1000000

/-! the source of a log. WRITES -/
theorem cp_sc (l : List Pt) : ∀ cs ∈ l.map cp, scL cs = true := by
  intro cs hcs
  obtain ⟨p, _, rfl⟩ := List.mem_map.1 hcs
  rfl
theorem cp_sc2 (l : List Pt) : (∀ cs ∈ l.map cp, scL cs = true) = True := by simp only [eq_iff_iff, iff_true]; exact cp_sc l
theorem cp_sc3 (l : List Pt) : (∀ a ∈ l, scL (cp a) = true) = True := by simp only [eq_iff_iff, iff_true]; exact fun _ _ => rfl
theorem f77 (x : Ft) (hx : x.f4.length ≤ 1000000000) : Fn Try.prog 77 true [.agg (ft x)] (.agg (ft x.fr)) := by
  have hs := cp_sc3 x.f4
  unfold ft Ft.fr
  refine Fn.by_sx hX (by kernel_rfl) c77 (by kernel_rfl) (by rfl) ?_
  simp [i77, sx_skip, sx_ops, sx_seq, sx_cond, sx_block, sx_exit, sx_ret, sx_mcall, sx_mcell, sx_mset, elAt, setEl, isLst, cellsOf, sxl_nil, sxl_set, sxl_call, sxl_callv, sxl_g1, sxl_g2, sxl_g3, sxl_g4, OkS_true, GrdS_tt, GrdS_tf, GrdS_ft, GrdS_ff, CondS_t, CondS_f, then_n, then_e, then_r, blk_n, blk_e, blk_r, upd_app, Ex.ok, Ex.val, Opd.val, POp.dst, bin_int, binOK_int, bin_str, binOK_str, resOK, resV, RB.val, sub, putc, scB, scL, oneB, conf, Ex.val.eqP, Ex.val.eqL, negV, mxV, mnV, ← wr_eq, wr_zero, wr_one, wr_m1, bst_lst, byteC, partsOK, putAll, appV, nilV, slV, sslV, optB, optNum, and_assoc, exists_and_left, exists_eq_left']
  repeat' (first | intro _ | (simp [sx_skip, sx_ops, sx_seq, sx_cond, sx_block, sx_exit, sx_ret, sx_mcall, sx_mcell, sx_mset, elAt, setEl, isLst, cellsOf, sxl_nil, sxl_set, sxl_call, sxl_callv, sxl_g1, sxl_g2, sxl_g3, sxl_g4, OkS_true, GrdS_tt, GrdS_tf, GrdS_ft, GrdS_ff, CondS_t, CondS_f, then_n, then_e, then_r, blk_n, blk_e, blk_r, upd_app, Ex.ok, Ex.val, Opd.val, POp.dst, bin_int, binOK_int, bin_str, binOK_str, resOK, resV, RB.val, sub, putc, scB, scL, oneB, conf, Ex.val.eqP, Ex.val.eqL, negV, mxV, mnV, ← wr_eq, wr_zero, wr_one, wr_m1, bst_lst, byteC, partsOK, putAll, appV, nilV, slV, sslV, optB, optNum, and_assoc, exists_and_left, exists_eq_left', *]) | refine CondS_d (fun h => ?_) (fun h => ?_) | refine CondS_b (fun h => ?_) (fun h => ?_) | refine GrdS_d (fun h => ?_) (fun h => ?_) | refine GrdS_b (fun h => ?_) (fun h => ?_) | refine OkS_i (by omega) ?_ | fail)
  all_goals omega
theorem f120 (l : List Pt) (hl : l.length ≤ 1000000000) : Fn Try.prog 120 true [.lst 2 false (l.map cp)] (.lst 2 false (l.map cp)) := by
  have hs := cp_sc3 l
  refine Fn.by_sx hX (by kernel_rfl) c120 (by kernel_rfl) (by rfl) ?_
  simp [i120, sx_skip, sx_ops, sx_seq, sx_cond, sx_block, sx_exit, sx_ret, sx_mcall, sx_mcell, sx_mset, elAt, setEl, isLst, cellsOf, sxl_nil, sxl_set, sxl_call, sxl_callv, sxl_g1, sxl_g2, sxl_g3, sxl_g4, OkS_true, GrdS_tt, GrdS_tf, GrdS_ft, GrdS_ff, CondS_t, CondS_f, then_n, then_e, then_r, blk_n, blk_e, blk_r, upd_app, Ex.ok, Ex.val, Opd.val, POp.dst, bin_int, binOK_int, bin_str, binOK_str, resOK, resV, RB.val, sub, putc, scB, scL, oneB, conf, Ex.val.eqP, Ex.val.eqL, negV, mxV, mnV, ← wr_eq, wr_zero, wr_one, wr_m1, bst_lst, byteC, partsOK, putAll, appV, nilV, slV, sslV, optB, optNum, and_assoc, exists_and_left, exists_eq_left']
  repeat' (first | intro _ | (simp [sx_skip, sx_ops, sx_seq, sx_cond, sx_block, sx_exit, sx_ret, sx_mcall, sx_mcell, sx_mset, elAt, setEl, isLst, cellsOf, sxl_nil, sxl_set, sxl_call, sxl_callv, sxl_g1, sxl_g2, sxl_g3, sxl_g4, OkS_true, GrdS_tt, GrdS_tf, GrdS_ft, GrdS_ff, CondS_t, CondS_f, then_n, then_e, then_r, blk_n, blk_e, blk_r, upd_app, Ex.ok, Ex.val, Opd.val, POp.dst, bin_int, binOK_int, bin_str, binOK_str, resOK, resV, RB.val, sub, putc, scB, scL, oneB, conf, Ex.val.eqP, Ex.val.eqL, negV, mxV, mnV, ← wr_eq, wr_zero, wr_one, wr_m1, bst_lst, byteC, partsOK, putAll, appV, nilV, slV, sslV, optB, optNum, and_assoc, exists_and_left, exists_eq_left', *]) | refine CondS_d (fun h => ?_) (fun h => ?_) | refine CondS_b (fun h => ?_) (fun h => ?_) | refine GrdS_d (fun h => ?_) (fun h => ?_) | refine GrdS_b (fun h => ?_) (fun h => ?_) | refine OkS_i (by omega) ?_ | fail)
  all_goals omega
theorem f78 (x : Ft) (hn : x.nl = false) (hx : x.f4.length ≤ 1000000000) : Fn Try.prog 78 true [.agg (ft x)] (.agg (ft x.fr)) := by
  have hc := f120 x.f4 hx
  unfold ft Ft.fr
  rw [hn]
  refine Fn.by_sx hX (by kernel_rfl) c78 (by kernel_rfl) (by rfl) ?_
  simp [i78, sx_skip, sx_ops, sx_seq, sx_cond, sx_block, sx_exit, sx_ret, sx_mcall, sx_mcell, sx_mset, elAt, setEl, isLst, cellsOf, sxl_nil, sxl_set, sxl_call, sxl_callv, sxl_g1, sxl_g2, sxl_g3, sxl_g4, OkS_true, GrdS_tt, GrdS_tf, GrdS_ft, GrdS_ff, CondS_t, CondS_f, then_n, then_e, then_r, blk_n, blk_e, blk_r, upd_app, Ex.ok, Ex.val, Opd.val, POp.dst, bin_int, binOK_int, bin_str, binOK_str, resOK, resV, RB.val, sub, putc, scB, scL, oneB, conf, Ex.val.eqP, Ex.val.eqL, negV, mxV, mnV, ← wr_eq, wr_zero, wr_one, wr_m1, bst_lst, byteC, partsOK, putAll, appV, nilV, slV, sslV, optB, optNum, and_assoc, exists_and_left, exists_eq_left']
  repeat' (first | intro _ | (simp [sx_skip, sx_ops, sx_seq, sx_cond, sx_block, sx_exit, sx_ret, sx_mcall, sx_mcell, sx_mset, elAt, setEl, isLst, cellsOf, sxl_nil, sxl_set, sxl_call, sxl_callv, sxl_g1, sxl_g2, sxl_g3, sxl_g4, OkS_true, GrdS_tt, GrdS_tf, GrdS_ft, GrdS_ff, CondS_t, CondS_f, then_n, then_e, then_r, blk_n, blk_e, blk_r, upd_app, Ex.ok, Ex.val, Opd.val, POp.dst, bin_int, binOK_int, bin_str, binOK_str, resOK, resV, RB.val, sub, putc, scB, scL, oneB, conf, Ex.val.eqP, Ex.val.eqL, negV, mxV, mnV, ← wr_eq, wr_zero, wr_one, wr_m1, bst_lst, byteC, partsOK, putAll, appV, nilV, slV, sslV, optB, optNum, and_assoc, exists_and_left, exists_eq_left', *]) | refine CallS_i (hc) ?_ | refine CallM_i (hc) ?_ | refine CallE_i (hc) ?_ | refine CondS_d (fun h => ?_) (fun h => ?_) | refine CondS_b (fun h => ?_) (fun h => ?_) | refine GrdS_d (fun h => ?_) (fun h => ?_) | refine GrdS_b (fun h => ?_) (fun h => ?_) | refine OkS_i (by omega) ?_ | fail)
def soTo (l : List En) : Nat → List Ft
  | 0 => []
  | n + 1 => soTo l n ++ (if (l.getD n enD).f3 = true then [] else [(l.getD n enD).f0.fr])
def soOf (l : List En) : List Ft := if wLog l = true then soTo l l.length else []
theorem wLog_len {l : List En} (h : wLog l = true) : l.length ≤ 16 := by unfold wLog at h; simp at h; exact h.1
theorem soTo_len (l : List En) (n : Nat) : (soTo l n).length ≤ n := by
  induction n with
  | zero => simp [soTo]
  | succ n ih => unfold soTo; rw [List.length_append]; split <;> simp <;> omega
theorem f26 (l : List En) (nl : Bool) (hl : l.length ≤ 1000000000) (hb : ∀ x ∈ l, x.f0.okay) (hb2 : ∀ x ∈ l, x.f0.f4.length ≤ 1000000000) : Fn Try.prog 26 true [.lst 8 nl (l.map en)] (.lst 5 false ((soOf l).map ft)) := by
  have hlog := f51 l nl (by omega) hb
  refine Fn.by_sx hX (by kernel_rfl) c26 (by kernel_rfl) (by rfl) ?_
  simp [i26, sx_skip, sx_ops, sx_seq, sx_cond, sx_block, sx_exit, sx_ret, sx_mcall, sx_mcell, sx_mset, elAt, setEl, isLst, cellsOf, sxl_nil, sxl_set, sxl_call, sxl_callv, sxl_g1, sxl_g2, sxl_g3, sxl_g4, OkS_true, GrdS_tt, GrdS_tf, GrdS_ft, GrdS_ff, CondS_t, CondS_f, then_n, then_e, then_r, blk_n, blk_e, blk_r, upd_app, Ex.ok, Ex.val, Opd.val, POp.dst, bin_int, binOK_int, bin_str, binOK_str, resOK, resV, RB.val, sub, putc, scB, scL, oneB, conf, Ex.val.eqP, Ex.val.eqL, negV, mxV, mnV, ← wr_eq, wr_zero, wr_one, wr_m1, bst_lst, byteC, partsOK, putAll, appV, nilV, slV, sslV, optB, optNum, and_assoc, exists_and_left, exists_eq_left']
  by_cases hs : wLog l = true
  case neg =>
    have hs : wLog l = false := by simpa using hs
    rw [hs] at hlog
    have hp : soOf l = [] := by unfold soOf; rw [hs]; rfl
    rw [hp]
    refine sx_count l.length (fun n V => V 0 = .lst 8 nl (l.map en) ∧ V 4 = i n ∧ V 3 = .lst 5 false []) 0 (by omega) (by simp [sx_skip, sx_ops, sx_seq, sx_cond, sx_block, sx_exit, sx_ret, sx_mcall, sx_mcell, sx_mset, elAt, setEl, isLst, cellsOf, sxl_nil, sxl_set, sxl_call, sxl_callv, sxl_g1, sxl_g2, sxl_g3, sxl_g4, OkS_true, GrdS_tt, GrdS_tf, GrdS_ft, GrdS_ff, CondS_t, CondS_f, then_n, then_e, then_r, blk_n, blk_e, blk_r, upd_app, Ex.ok, Ex.val, Opd.val, POp.dst, bin_int, binOK_int, bin_str, binOK_str, resOK, resV, RB.val, sub, putc, scB, scL, oneB, conf, Ex.val.eqP, Ex.val.eqL, negV, mxV, mnV, ← wr_eq, wr_zero, wr_one, wr_m1, bst_lst, byteC, partsOK, putAll, appV, nilV, slV, sslV, optB, optNum, and_assoc, exists_and_left, exists_eq_left']) ?_
    rintro n V hn ⟨h0, h4, h3⟩
    simp [sx_skip, sx_ops, sx_seq, sx_cond, sx_block, sx_exit, sx_ret, sx_mcall, sx_mcell, sx_mset, elAt, setEl, isLst, cellsOf, sxl_nil, sxl_set, sxl_call, sxl_callv, sxl_g1, sxl_g2, sxl_g3, sxl_g4, OkS_true, GrdS_tt, GrdS_tf, GrdS_ft, GrdS_ff, CondS_t, CondS_f, then_n, then_e, then_r, blk_n, blk_e, blk_r, upd_app, Ex.ok, Ex.val, Opd.val, POp.dst, bin_int, binOK_int, bin_str, binOK_str, resOK, resV, RB.val, sub, putc, scB, scL, oneB, conf, Ex.val.eqP, Ex.val.eqL, negV, mxV, mnV, ← wr_eq, wr_zero, wr_one, wr_m1, bst_lst, byteC, partsOK, putAll, appV, nilV, slV, sslV, optB, optNum, and_assoc, exists_and_left, exists_eq_left', h0, h4]
    refine GrdS_d (fun hlt => ?_) (fun hge => ?_)
    · repeat' (first | intro _ | (simp [sx_skip, sx_ops, sx_seq, sx_cond, sx_block, sx_exit, sx_ret, sx_mcall, sx_mcell, sx_mset, elAt, setEl, isLst, cellsOf, sxl_nil, sxl_set, sxl_call, sxl_callv, sxl_g1, sxl_g2, sxl_g3, sxl_g4, OkS_true, GrdS_tt, GrdS_tf, GrdS_ft, GrdS_ff, CondS_t, CondS_f, then_n, then_e, then_r, blk_n, blk_e, blk_r, upd_app, Ex.ok, Ex.val, Opd.val, POp.dst, bin_int, binOK_int, bin_str, binOK_str, resOK, resV, RB.val, sub, putc, scB, scL, oneB, conf, Ex.val.eqP, Ex.val.eqL, negV, mxV, mnV, ← wr_eq, wr_zero, wr_one, wr_m1, bst_lst, byteC, partsOK, putAll, appV, nilV, slV, sslV, optB, optNum, and_assoc, exists_and_left, exists_eq_left', *]) | refine CallS_i (hlog) ?_ | refine CallM_i (hlog) ?_ | refine CallE_i (hlog) ?_ | refine CondS_d (fun h => ?_) (fun h => ?_) | refine CondS_b (fun h => ?_) (fun h => ?_) | refine GrdS_d (fun h => ?_) (fun h => ?_) | refine GrdS_b (fun h => ?_) (fun h => ?_) | refine OkS_i (by omega) ?_ | fail)
    · repeat' (first | intro _ | (simp [sx_skip, sx_ops, sx_seq, sx_cond, sx_block, sx_exit, sx_ret, sx_mcall, sx_mcell, sx_mset, elAt, setEl, isLst, cellsOf, sxl_nil, sxl_set, sxl_call, sxl_callv, sxl_g1, sxl_g2, sxl_g3, sxl_g4, OkS_true, GrdS_tt, GrdS_tf, GrdS_ft, GrdS_ff, CondS_t, CondS_f, then_n, then_e, then_r, blk_n, blk_e, blk_r, upd_app, Ex.ok, Ex.val, Opd.val, POp.dst, bin_int, binOK_int, bin_str, binOK_str, resOK, resV, RB.val, sub, putc, scB, scL, oneB, conf, Ex.val.eqP, Ex.val.eqL, negV, mxV, mnV, ← wr_eq, wr_zero, wr_one, wr_m1, bst_lst, byteC, partsOK, putAll, appV, nilV, slV, sslV, optB, optNum, and_assoc, exists_and_left, exists_eq_left', *]) | refine CondS_d (fun h => ?_) (fun h => ?_) | refine CondS_b (fun h => ?_) (fun h => ?_) | refine GrdS_d (fun h => ?_) (fun h => ?_) | refine GrdS_b (fun h => ?_) (fun h => ?_) | refine OkS_i (by omega) ?_ | fail)
  rw [hs] at hlog
  have hlen := wLog_len hs
  have hp : soOf l = soTo l l.length := by unfold soOf; rw [if_pos hs]
  rw [hp]
  refine sx_count l.length (fun n V => V 0 = .lst 8 nl (l.map en) ∧ V 4 = i n ∧ V 3 = .lst 5 false ((soTo l n).map ft)) 0 (by omega) (by simp [sx_skip, sx_ops, sx_seq, sx_cond, sx_block, sx_exit, sx_ret, sx_mcall, sx_mcell, sx_mset, elAt, setEl, isLst, cellsOf, sxl_nil, sxl_set, sxl_call, sxl_callv, sxl_g1, sxl_g2, sxl_g3, sxl_g4, OkS_true, GrdS_tt, GrdS_tf, GrdS_ft, GrdS_ff, CondS_t, CondS_f, then_n, then_e, then_r, blk_n, blk_e, blk_r, upd_app, Ex.ok, Ex.val, Opd.val, POp.dst, bin_int, binOK_int, bin_str, binOK_str, resOK, resV, RB.val, sub, putc, scB, scL, oneB, conf, Ex.val.eqP, Ex.val.eqL, negV, mxV, mnV, ← wr_eq, wr_zero, wr_one, wr_m1, bst_lst, byteC, partsOK, putAll, appV, nilV, slV, sslV, optB, optNum, and_assoc, exists_and_left, exists_eq_left', soTo]) ?_
  rintro n V hn ⟨h0, h4, h3⟩
  have hw : wr .i64 ((n : Int) + 1) = n + 1 := wr_in (by omega) (by omega)
  simp [sx_skip, sx_ops, sx_seq, sx_cond, sx_block, sx_exit, sx_ret, sx_mcall, sx_mcell, sx_mset, elAt, setEl, isLst, cellsOf, sxl_nil, sxl_set, sxl_call, sxl_callv, sxl_g1, sxl_g2, sxl_g3, sxl_g4, OkS_true, GrdS_tt, GrdS_tf, GrdS_ft, GrdS_ff, CondS_t, CondS_f, then_n, then_e, then_r, blk_n, blk_e, blk_r, upd_app, Ex.ok, Ex.val, Opd.val, POp.dst, bin_int, binOK_int, bin_str, binOK_str, resOK, resV, RB.val, sub, putc, scB, scL, oneB, conf, Ex.val.eqP, Ex.val.eqL, negV, mxV, mnV, ← wr_eq, wr_zero, wr_one, wr_m1, bst_lst, byteC, partsOK, putAll, appV, nilV, slV, sslV, optB, optNum, and_assoc, exists_and_left, exists_eq_left', h0, h4]
  refine GrdS_d (fun hlt => ?_) (fun hge => ?_)
  · have hlt' : n < l.length := by omega
    have hrl := soTo_len l n
    have hnx : soTo l (n + 1) = soTo l n ++ (if l[n].f3 = true then [] else [l[n].f0.fr]) := by simp [soTo, hlt']
    have hc := f77 l[n].f0 (hb2 _ (List.getElem_mem ..))
    cases hg : l[n].f3 with
    | true =>
      rw [hg] at hnx
      simp at hnx
      repeat' (first | intro _ | (simp [sx_skip, sx_ops, sx_seq, sx_cond, sx_block, sx_exit, sx_ret, sx_mcall, sx_mcell, sx_mset, elAt, setEl, isLst, cellsOf, sxl_nil, sxl_set, sxl_call, sxl_callv, sxl_g1, sxl_g2, sxl_g3, sxl_g4, OkS_true, GrdS_tt, GrdS_tf, GrdS_ft, GrdS_ff, CondS_t, CondS_f, then_n, then_e, then_r, blk_n, blk_e, blk_r, upd_app, Ex.ok, Ex.val, Opd.val, POp.dst, bin_int, binOK_int, bin_str, binOK_str, resOK, resV, RB.val, sub, putc, scB, scL, oneB, conf, Ex.val.eqP, Ex.val.eqL, negV, mxV, mnV, ← wr_eq, wr_zero, wr_one, wr_m1, bst_lst, byteC, partsOK, putAll, appV, nilV, slV, sslV, optB, optNum, and_assoc, exists_and_left, exists_eq_left', en, *]) | refine CallS_i (hlog) ?_ | refine CallM_i (hlog) ?_ | refine CallE_i (hlog) ?_ | refine CondS_d (fun h => ?_) (fun h => ?_) | refine CondS_b (fun h => ?_) (fun h => ?_) | refine GrdS_d (fun h => ?_) (fun h => ?_) | refine GrdS_b (fun h => ?_) (fun h => ?_) | refine OkS_i (by omega) ?_ | fail)
    | false =>
      rw [hg] at hnx
      simp at hnx
      unfold ft at hc
      repeat' (first | intro _ | (simp [sx_skip, sx_ops, sx_seq, sx_cond, sx_block, sx_exit, sx_ret, sx_mcall, sx_mcell, sx_mset, elAt, setEl, isLst, cellsOf, sxl_nil, sxl_set, sxl_call, sxl_callv, sxl_g1, sxl_g2, sxl_g3, sxl_g4, OkS_true, GrdS_tt, GrdS_tf, GrdS_ft, GrdS_ff, CondS_t, CondS_f, then_n, then_e, then_r, blk_n, blk_e, blk_r, upd_app, Ex.ok, Ex.val, Opd.val, POp.dst, bin_int, binOK_int, bin_str, binOK_str, resOK, resV, RB.val, sub, putc, scB, scL, oneB, conf, Ex.val.eqP, Ex.val.eqL, negV, mxV, mnV, ← wr_eq, wr_zero, wr_one, wr_m1, bst_lst, byteC, partsOK, putAll, appV, nilV, slV, sslV, optB, optNum, and_assoc, exists_and_left, exists_eq_left', en, ft, *]) | refine CallS_i (hlog) ?_ | refine CallS_i (hc) ?_ | refine CallM_i (hlog) ?_ | refine CallM_i (hc) ?_ | refine CallE_i (hlog) ?_ | refine CallE_i (hc) ?_ | refine CondS_d (fun h => ?_) (fun h => ?_) | refine CondS_b (fun h => ?_) (fun h => ?_) | refine GrdS_d (fun h => ?_) (fun h => ?_) | refine GrdS_b (fun h => ?_) (fun h => ?_) | refine OkS_i (by omega) ?_ | fail)
      all_goals first | omega | simp_all
  · have : n = l.length := by omega
    subst this
    repeat' (first | intro _ | (simp [sx_skip, sx_ops, sx_seq, sx_cond, sx_block, sx_exit, sx_ret, sx_mcall, sx_mcell, sx_mset, elAt, setEl, isLst, cellsOf, sxl_nil, sxl_set, sxl_call, sxl_callv, sxl_g1, sxl_g2, sxl_g3, sxl_g4, OkS_true, GrdS_tt, GrdS_tf, GrdS_ft, GrdS_ff, CondS_t, CondS_f, then_n, then_e, then_r, blk_n, blk_e, blk_r, upd_app, Ex.ok, Ex.val, Opd.val, POp.dst, bin_int, binOK_int, bin_str, binOK_str, resOK, resV, RB.val, sub, putc, scB, scL, oneB, conf, Ex.val.eqP, Ex.val.eqL, negV, mxV, mnV, ← wr_eq, wr_zero, wr_one, wr_m1, bst_lst, byteC, partsOK, putAll, appV, nilV, slV, sslV, optB, optNum, and_assoc, exists_and_left, exists_eq_left', *]) | refine CondS_d (fun h => ?_) (fun h => ?_) | refine CondS_b (fun h => ?_) (fun h => ?_) | refine GrdS_d (fun h => ?_) (fun h => ?_) | refine GrdS_b (fun h => ?_) (fun h => ?_) | refine OkS_i (by omega) ?_ | fail)
theorem f28 (l : List En) (nl : Bool) (hl : l.length ≤ 1000000000) (hb : ∀ x ∈ l, x.f0.okay) (hb2 : ∀ x ∈ l, x.f0.f4.length ≤ 1000000000) (hn : ∀ x ∈ l, x.f0.nl = false) : Fn Try.prog 28 true [.lst 8 nl (l.map en)] (.lst 5 false ((soOf l).map ft)) := by
  have hlog := f50 l nl (by omega) hb
  refine Fn.by_sx hX (by kernel_rfl) c28 (by kernel_rfl) (by rfl) ?_
  simp [i28, sx_skip, sx_ops, sx_seq, sx_cond, sx_block, sx_exit, sx_ret, sx_mcall, sx_mcell, sx_mset, elAt, setEl, isLst, cellsOf, sxl_nil, sxl_set, sxl_call, sxl_callv, sxl_g1, sxl_g2, sxl_g3, sxl_g4, OkS_true, GrdS_tt, GrdS_tf, GrdS_ft, GrdS_ff, CondS_t, CondS_f, then_n, then_e, then_r, blk_n, blk_e, blk_r, upd_app, Ex.ok, Ex.val, Opd.val, POp.dst, bin_int, binOK_int, bin_str, binOK_str, resOK, resV, RB.val, sub, putc, scB, scL, oneB, conf, Ex.val.eqP, Ex.val.eqL, negV, mxV, mnV, ← wr_eq, wr_zero, wr_one, wr_m1, bst_lst, byteC, partsOK, putAll, appV, nilV, slV, sslV, optB, optNum, and_assoc, exists_and_left, exists_eq_left']
  by_cases hs : wLog l = true
  case neg =>
    have hs : wLog l = false := by simpa using hs
    rw [hs] at hlog
    have hp : soOf l = [] := by unfold soOf; rw [hs]; rfl
    rw [hp]
    repeat' (first | intro _ | (simp [sx_skip, sx_ops, sx_seq, sx_cond, sx_block, sx_exit, sx_ret, sx_mcall, sx_mcell, sx_mset, elAt, setEl, isLst, cellsOf, sxl_nil, sxl_set, sxl_call, sxl_callv, sxl_g1, sxl_g2, sxl_g3, sxl_g4, OkS_true, GrdS_tt, GrdS_tf, GrdS_ft, GrdS_ff, CondS_t, CondS_f, then_n, then_e, then_r, blk_n, blk_e, blk_r, upd_app, Ex.ok, Ex.val, Opd.val, POp.dst, bin_int, binOK_int, bin_str, binOK_str, resOK, resV, RB.val, sub, putc, scB, scL, oneB, conf, Ex.val.eqP, Ex.val.eqL, negV, mxV, mnV, ← wr_eq, wr_zero, wr_one, wr_m1, bst_lst, byteC, partsOK, putAll, appV, nilV, slV, sslV, optB, optNum, and_assoc, exists_and_left, exists_eq_left', *]) | refine CallS_i (hlog) ?_ | refine CallM_i (hlog) ?_ | refine CallE_i (hlog) ?_ | refine CondS_d (fun h => ?_) (fun h => ?_) | refine CondS_b (fun h => ?_) (fun h => ?_) | refine GrdS_d (fun h => ?_) (fun h => ?_) | refine GrdS_b (fun h => ?_) (fun h => ?_) | refine OkS_i (by omega) ?_ | fail)
  rw [hs] at hlog
  have hlen := wLog_len hs
  have hp : soOf l = soTo l l.length := by unfold soOf; rw [if_pos hs]
  rw [hp]
  repeat' (first | intro _ | (simp [sx_skip, sx_ops, sx_seq, sx_cond, sx_block, sx_exit, sx_ret, sx_mcall, sx_mcell, sx_mset, elAt, setEl, isLst, cellsOf, sxl_nil, sxl_set, sxl_call, sxl_callv, sxl_g1, sxl_g2, sxl_g3, sxl_g4, OkS_true, GrdS_tt, GrdS_tf, GrdS_ft, GrdS_ff, CondS_t, CondS_f, then_n, then_e, then_r, blk_n, blk_e, blk_r, upd_app, Ex.ok, Ex.val, Opd.val, POp.dst, bin_int, binOK_int, bin_str, binOK_str, resOK, resV, RB.val, sub, putc, scB, scL, oneB, conf, Ex.val.eqP, Ex.val.eqL, negV, mxV, mnV, ← wr_eq, wr_zero, wr_one, wr_m1, bst_lst, byteC, partsOK, putAll, appV, nilV, slV, sslV, optB, optNum, and_assoc, exists_and_left, exists_eq_left', *]) | refine CallS_i (hlog) ?_ | refine CallM_i (hlog) ?_ | refine CallE_i (hlog) ?_ | refine CondS_d (fun h => ?_) (fun h => ?_) | refine CondS_b (fun h => ?_) (fun h => ?_) | refine GrdS_d (fun h => ?_) (fun h => ?_) | refine GrdS_b (fun h => ?_) (fun h => ?_) | refine OkS_i (by omega) ?_ | fail)
  refine sx_count l.length (fun n V => V 11 = .lst 8 nl (l.map en) ∧ V 12 = i l.length ∧ V 13 = i n ∧ V 3 = .lst 5 false ((soTo l n).map ft)) 0 (by omega) (by simp [sx_skip, sx_ops, sx_seq, sx_cond, sx_block, sx_exit, sx_ret, sx_mcall, sx_mcell, sx_mset, elAt, setEl, isLst, cellsOf, sxl_nil, sxl_set, sxl_call, sxl_callv, sxl_g1, sxl_g2, sxl_g3, sxl_g4, OkS_true, GrdS_tt, GrdS_tf, GrdS_ft, GrdS_ff, CondS_t, CondS_f, then_n, then_e, then_r, blk_n, blk_e, blk_r, upd_app, Ex.ok, Ex.val, Opd.val, POp.dst, bin_int, binOK_int, bin_str, binOK_str, resOK, resV, RB.val, sub, putc, scB, scL, oneB, conf, Ex.val.eqP, Ex.val.eqL, negV, mxV, mnV, ← wr_eq, wr_zero, wr_one, wr_m1, bst_lst, byteC, partsOK, putAll, appV, nilV, slV, sslV, optB, optNum, and_assoc, exists_and_left, exists_eq_left', soTo]) ?_
  rintro n V hn' ⟨h11, h12, h13, h3⟩
  have hw : wr .i64 ((n : Int) + 1) = n + 1 := wr_in (by omega) (by omega)
  simp [sx_skip, sx_ops, sx_seq, sx_cond, sx_block, sx_exit, sx_ret, sx_mcall, sx_mcell, sx_mset, elAt, setEl, isLst, cellsOf, sxl_nil, sxl_set, sxl_call, sxl_callv, sxl_g1, sxl_g2, sxl_g3, sxl_g4, OkS_true, GrdS_tt, GrdS_tf, GrdS_ft, GrdS_ff, CondS_t, CondS_f, then_n, then_e, then_r, blk_n, blk_e, blk_r, upd_app, Ex.ok, Ex.val, Opd.val, POp.dst, bin_int, binOK_int, bin_str, binOK_str, resOK, resV, RB.val, sub, putc, scB, scL, oneB, conf, Ex.val.eqP, Ex.val.eqL, negV, mxV, mnV, ← wr_eq, wr_zero, wr_one, wr_m1, bst_lst, byteC, partsOK, putAll, appV, nilV, slV, sslV, optB, optNum, and_assoc, exists_and_left, exists_eq_left', h12, h13]
  refine CondS_d (fun hlt => ?_) (fun hge => ?_)
  · have hlt' : n < l.length := by omega
    have hrl := soTo_len l n
    have hnx : soTo l (n + 1) = soTo l n ++ (if l[n].f3 = true then [] else [l[n].f0.fr]) := by simp [soTo, hlt']
    have hc := f78 l[n].f0 (hn _ (List.getElem_mem ..)) (hb2 _ (List.getElem_mem ..))
    have hnn := hn l[n] (List.getElem_mem ..)
    clear hn
    cases hg : l[n].f3 with
    | true =>
      rw [hg] at hnx
      simp at hnx
      repeat' (first | intro _ | (simp [sx_skip, sx_ops, sx_seq, sx_cond, sx_block, sx_exit, sx_ret, sx_mcall, sx_mcell, sx_mset, elAt, setEl, isLst, cellsOf, sxl_nil, sxl_set, sxl_call, sxl_callv, sxl_g1, sxl_g2, sxl_g3, sxl_g4, OkS_true, GrdS_tt, GrdS_tf, GrdS_ft, GrdS_ff, CondS_t, CondS_f, then_n, then_e, then_r, blk_n, blk_e, blk_r, upd_app, Ex.ok, Ex.val, Opd.val, POp.dst, bin_int, binOK_int, bin_str, binOK_str, resOK, resV, RB.val, sub, putc, scB, scL, oneB, conf, Ex.val.eqP, Ex.val.eqL, negV, mxV, mnV, ← wr_eq, wr_zero, wr_one, wr_m1, bst_lst, byteC, partsOK, putAll, appV, nilV, slV, sslV, optB, optNum, and_assoc, exists_and_left, exists_eq_left', en, *]) | refine CallS_i (hlog) ?_ | refine CallM_i (hlog) ?_ | refine CallE_i (hlog) ?_ | refine CondS_d (fun h => ?_) (fun h => ?_) | refine CondS_b (fun h => ?_) (fun h => ?_) | refine GrdS_d (fun h => ?_) (fun h => ?_) | refine GrdS_b (fun h => ?_) (fun h => ?_) | refine OkS_i (by omega) ?_ | fail)
    | false =>
      rw [hg] at hnx
      simp at hnx
      unfold ft at hc
      try rw [hnn] at hc
      repeat' (first | intro _ | (simp [sx_skip, sx_ops, sx_seq, sx_cond, sx_block, sx_exit, sx_ret, sx_mcall, sx_mcell, sx_mset, elAt, setEl, isLst, cellsOf, sxl_nil, sxl_set, sxl_call, sxl_callv, sxl_g1, sxl_g2, sxl_g3, sxl_g4, OkS_true, GrdS_tt, GrdS_tf, GrdS_ft, GrdS_ff, CondS_t, CondS_f, then_n, then_e, then_r, blk_n, blk_e, blk_r, upd_app, Ex.ok, Ex.val, Opd.val, POp.dst, bin_int, binOK_int, bin_str, binOK_str, resOK, resV, RB.val, sub, putc, scB, scL, oneB, conf, Ex.val.eqP, Ex.val.eqL, negV, mxV, mnV, ← wr_eq, wr_zero, wr_one, wr_m1, bst_lst, byteC, partsOK, putAll, appV, nilV, slV, sslV, optB, optNum, and_assoc, exists_and_left, exists_eq_left', en, ft, *]) | refine CallS_i (hc) ?_ | refine CallM_i (hc) ?_ | refine CallE_i (hc) ?_ | refine CondS_d (fun h => ?_) (fun h => ?_) | refine CondS_b (fun h => ?_) (fun h => ?_) | refine GrdS_d (fun h => ?_) (fun h => ?_) | refine GrdS_b (fun h => ?_) (fun h => ?_) | refine OkS_i (by omega) ?_ | fail)
      all_goals first | omega | simp_all
  · have : n = l.length := by omega
    subst this
    repeat' (first | intro _ | (simp [sx_skip, sx_ops, sx_seq, sx_cond, sx_block, sx_exit, sx_ret, sx_mcall, sx_mcell, sx_mset, elAt, setEl, isLst, cellsOf, sxl_nil, sxl_set, sxl_call, sxl_callv, sxl_g1, sxl_g2, sxl_g3, sxl_g4, OkS_true, GrdS_tt, GrdS_tf, GrdS_ft, GrdS_ff, CondS_t, CondS_f, then_n, then_e, then_r, blk_n, blk_e, blk_r, upd_app, Ex.ok, Ex.val, Opd.val, POp.dst, bin_int, binOK_int, bin_str, binOK_str, resOK, resV, RB.val, sub, putc, scB, scL, oneB, conf, Ex.val.eqP, Ex.val.eqL, negV, mxV, mnV, ← wr_eq, wr_zero, wr_one, wr_m1, bst_lst, byteC, partsOK, putAll, appV, nilV, slV, sslV, optB, optNum, and_assoc, exists_and_left, exists_eq_left', *]) | refine CondS_d (fun h => ?_) (fun h => ?_) | refine CondS_b (fun h => ?_) (fun h => ?_) | refine GrdS_d (fun h => ?_) (fun h => ?_) | refine GrdS_b (fun h => ?_) (fun h => ?_) | refine OkS_i (by omega) ?_ | fail)
theorem soTo_mem {l : List En} : ∀ n : Nat, ∀ y ∈ soTo l n, y.nl = false ∧ ∃ x : En, (x ∈ l ∨ x = enD) ∧ y.f4 = x.f0.f4
  | 0, y, h => by simp [soTo] at h
  | n + 1, y, h => by
    unfold soTo at h
    rcases List.mem_append.1 h with h | h
    · exact soTo_mem n y h
    · split at h
      · cases h
      · simp only [List.mem_singleton] at h
        subst h
        refine ⟨rfl, l.getD n enD, ?_, rfl⟩
        rcases Nat.lt_or_ge n l.length with h1 | h1
        · left; simp [h1]
        · right; simp [h1]
theorem frE_small {l r : List En} (hr : l.map En.fr = r) (hm : ∀ x ∈ l, x.f0.f3.size ≤ 1048576 ∧ x.f0.f4.length ≤ 1048576) : ∀ x ∈ r, (x.f0.f3.size ≤ 1048576 ∧ x.f0.f4.length ≤ 1048576) ∧ x.f0.nl = false := by
  intro x hx
  rw [← hr] at hx
  obtain ⟨y, hy, rfl⟩ := List.mem_map.1 hx
  exact ⟨hm y hy, rfl⟩
theorem frE_k {l r : List En} (hr : l.map En.fr = r) (hb : wtL l ≤ 1048576) : kToE r 1 r.length ≤ 1000000000 := by
  have h1 := kToE_le r r.length (Nat.le_refl _) 1
  have h2 : wtTo r r.length = wtTo l l.length := by
    rw [← hr]
    unfold wtTo
    rw [List.take_of_length_le (by simp), List.take_of_length_le (Nat.le_refl _), List.map_map]
    rfl
  have h3 : r.length = l.length := by rw [← hr, List.length_map]
  unfold wtL at hb
  omega
theorem kTo_ge {l : List Ft} {B : Nat} (h : ∀ x ∈ l, x.f4.length ≤ B) : ∀ n : Nat, n ≤ l.length → ∀ k : Int, kTo l k n ≤ k + n * (4 + 2 * (B : Int))
  | 0, _, k => by simp [kTo]
  | n + 1, hn, k => by
    have h1 := kTo_ge h n (by omega) k
    have h2 : kTo l k (n + 1) = kTo l k n + 4 + 2 * (l[n].f4.length : Nat) := by simp [kTo, show n < l.length by omega]
    have h3 := h l[n] (List.getElem_mem ..)
    have h4 : ((n + 1 : Nat) : Int) * (4 + 2 * (B : Int)) = n * (4 + 2 * (B : Int)) + (4 + 2 * (B : Int)) := by rw [Int.natCast_add, Int.add_mul]; omega
    rw [h4, h2]; omega
theorem f5 (l : List En) (n1 : Bool) (hl : l.length ≤ 9223372036854775807) (hx : ∀ x ∈ l, x.f0.fits) : Fn Try.prog 5 false [.lst 8 n1 (l.map en)] (.bool true) := by
  refine Fn.by_sx hX (by kernel_rfl) c5 (by kernel_rfl) (by rfl) ?_
  simp [i5, sx_skip, sx_ops, sx_seq, sx_cond, sx_block, sx_exit, sx_ret, sx_mcall, sx_mcell, sx_mset, elAt, setEl, isLst, cellsOf, sxl_nil, sxl_set, sxl_call, sxl_callv, sxl_g1, sxl_g2, sxl_g3, sxl_g4, OkS_true, GrdS_tt, GrdS_tf, GrdS_ft, GrdS_ff, CondS_t, CondS_f, then_n, then_e, then_r, blk_n, blk_e, blk_r, upd_app, Ex.ok, Ex.val, Opd.val, POp.dst, bin_int, binOK_int, bin_str, binOK_str, resOK, resV, RB.val, sub, putc, scB, scL, oneB, conf, Ex.val.eqP, Ex.val.eqL, negV, mxV, mnV, ← wr_eq, wr_zero, wr_one, wr_m1, bst_lst, byteC, partsOK, putAll, appV, nilV, slV, sslV, optB, optNum, and_assoc, exists_and_left, exists_eq_left']
  refine CallS_s (f25 l n1 1048576 (by omega) (by omega) hl hx) rfl ?_
  by_cases hbig : (1048576 : Int) - wtL l < 0
  · have : szr 1048576 (wtL l : Nat) = -1 := if_pos hbig
    rw [this]
    repeat' (first | intro _ | (simp [sx_skip, sx_ops, sx_seq, sx_cond, sx_block, sx_exit, sx_ret, sx_mcall, sx_mcell, sx_mset, elAt, setEl, isLst, cellsOf, sxl_nil, sxl_set, sxl_call, sxl_callv, sxl_g1, sxl_g2, sxl_g3, sxl_g4, OkS_true, GrdS_tt, GrdS_tf, GrdS_ft, GrdS_ff, CondS_t, CondS_f, then_n, then_e, then_r, blk_n, blk_e, blk_r, upd_app, Ex.ok, Ex.val, Opd.val, POp.dst, bin_int, binOK_int, bin_str, binOK_str, resOK, resV, RB.val, sub, putc, scB, scL, oneB, conf, Ex.val.eqP, Ex.val.eqL, negV, mxV, mnV, ← wr_eq, wr_zero, wr_one, wr_m1, bst_lst, byteC, partsOK, putAll, appV, nilV, slV, sslV, optB, optNum, and_assoc, exists_and_left, exists_eq_left', *]) | refine CondS_d (fun h => ?_) (fun h => ?_) | refine CondS_b (fun h => ?_) (fun h => ?_) | refine GrdS_d (fun h => ?_) (fun h => ?_) | refine GrdS_b (fun h => ?_) (fun h => ?_) | refine OkS_i (by omega) ?_ | fail)
  have hz : szr 1048576 (wtL l : Nat) = 1048576 - wtL l := if_neg hbig
  rw [hz]
  have hL := wtL_len l
  have hl' : l.length ≤ 1048576 := by omega
  have hm : ∀ x ∈ l, x.f0.f3.size ≤ 1048576 ∧ x.f0.f4.length ≤ 1048576 := fun x hx => by have := wtL_mem hx; omega
  have c1 := f27 l n1 hl' fun x h => (hm x h).2
  obtain ⟨r, hr⟩ : ∃ r, l.map En.fr = r := ⟨_, rfl⟩
  have hrl : r.length ≤ 1048576 := by rw [← hr, List.length_map]; exact hl'
  have hrm := frE_small hr hm
  have hrk := frE_k hr (by omega)
  rw [hr] at c1
  have hro : ∀ x ∈ r, x.f0.okay := fun x hx => by have := hrm x hx; unfold Ft.okay; omega
  have hr4 : ∀ x ∈ r, x.f0.f4.length ≤ 1000000000 := fun x hx => by have := hrm x hx; omega
  have c3 := f26 r false (by omega) hro hr4
  have c4 := f28 r false (by omega) hro hr4 (fun x hx => (hrm x hx).2)
  have c5 := f29 r false false (by omega) fun x h => by have := hrm x h; omega
  have hG : (soOf r).length ≤ 16 := by
    unfold soOf
    split
    · rename_i h; have := wLog_len h; have := soTo_len r r.length; omega
    · simp
  have hGm : ∀ y ∈ soOf r, y.nl = false ∧ y.f4.length ≤ 1048576 := by
    intro y hy
    unfold soOf at hy
    split at hy
    · obtain ⟨h1, x, h2, h3⟩ := soTo_mem _ y hy
      refine ⟨h1, ?_⟩
      rw [h3]
      rcases h2 with h2 | rfl
      · exact (hrm x h2).1.2
      · simp [enD]
    · cases hy
  obtain ⟨G, hGe⟩ : ∃ G, soOf r = G := ⟨_, rfl⟩
  rw [hGe] at c3 c4 hG hGm
  have c6 := f19 G false false (by omega) fun x h => by have := hGm x h; omega
  have hGk := kTo_ge (B := 1048576) (fun x h => (hGm x h).2) G.length (Nat.le_refl _) 1
  have hGk' : kTo G 1 G.length ≤ 1000000000 := by
    have : (G.length : Int) * (4 + 2 * ((1048576 : Nat) : Int)) ≤ 16 * (4 + 2 * ((1048576 : Nat) : Int)) := Int.mul_le_mul_of_nonneg_right (by omega) (by omega)
    omega
  have c7 := f30 r false 1 (by simp) (fun x hx h => by rw [(hrm x hx).2] at h; cases h) (by omega) (by omega) hrk
  have c8 := f20 G false 1 (by simp) (fun x hx h => by rw [(hGm x hx).1] at h; cases h) (by omega) (by omega) hGk'
  have c9 := f31 G false 1 (by omega) (by omega) hGk'
  have hk1 := kToE_mono (l := r) (k := 1) (n := 0) (m := r.length) (by omega)
  have hk1 : 1 ≤ kToE r 1 r.length := hk1
  have hk2 := kTo_mono (l := G) (k := 1) (n := 0) (m := G.length) (by omega)
  have hk2 : 1 ≤ kTo G 1 G.length := hk2
  obtain ⟨K, hK⟩ : ∃ K, kToE r 1 r.length = K := ⟨_, rfl⟩
  rw [hK] at c7 hk1
  obtain ⟨R, hR⟩ : ∃ R, (upTo (mkEnAt r 1) r.length).map en = R := ⟨_, rfl⟩
  rw [hR] at c7
  obtain ⟨m, hme⟩ : ∃ m : Int, kTo G 1 G.length = m := ⟨_, rfl⟩
  rw [hme] at c8 c9 hk2
  obtain ⟨GG, hGG⟩ : ∃ GG, (upTo (mkFtAt G 1) G.length).map ft = GG := ⟨_, rfl⟩
  rw [hGG] at c8 c9
  have hm0 : ¬ m < 0 := by omega
  have hK0 : ¬ K < 0 := by omega
  have hnn : ¬ (1048576 : Int) - wtL l < 0 := by omega
  clear hr hz hGe hK hR hme hGG hGk hGk' hrk
  repeat' (first | intro _ | (simp [sx_skip, sx_ops, sx_seq, sx_cond, sx_block, sx_exit, sx_ret, sx_mcall, sx_mcell, sx_mset, elAt, setEl, isLst, cellsOf, sxl_nil, sxl_set, sxl_call, sxl_callv, sxl_g1, sxl_g2, sxl_g3, sxl_g4, OkS_true, GrdS_tt, GrdS_tf, GrdS_ft, GrdS_ff, CondS_t, CondS_f, then_n, then_e, then_r, blk_n, blk_e, blk_r, upd_app, Ex.ok, Ex.val, Opd.val, POp.dst, bin_int, binOK_int, bin_str, binOK_str, resOK, resV, RB.val, sub, putc, scB, scL, oneB, conf, Ex.val.eqP, Ex.val.eqL, negV, mxV, mnV, ← wr_eq, wr_zero, wr_one, wr_m1, bst_lst, byteC, partsOK, putAll, appV, nilV, slV, sslV, optB, optNum, and_assoc, exists_and_left, exists_eq_left', *]) | refine CallS_i (c1) ?_ | refine CallS_i (c3) ?_ | refine CallS_i (c4) ?_ | refine CallS_i (c5) ?_ | refine CallS_i (c6) ?_ | refine CallS_i (c7) ?_ | refine CallS_i (c8) ?_ | refine CallS_i (c9) ?_ | refine CallM_i (c1) ?_ | refine CallM_i (c3) ?_ | refine CallM_i (c4) ?_ | refine CallM_i (c5) ?_ | refine CallM_i (c6) ?_ | refine CallM_i (c7) ?_ | refine CallM_i (c8) ?_ | refine CallM_i (c9) ?_ | refine CallE_i (c1) ?_ | refine CallE_i (c3) ?_ | refine CallE_i (c4) ?_ | refine CallE_i (c5) ?_ | refine CallE_i (c6) ?_ | refine CallE_i (c7) ?_ | refine CallE_i (c8) ?_ | refine CallE_i (c9) ?_ | refine CondS_d (fun h => ?_) (fun h => ?_) | refine CondS_b (fun h => ?_) (fun h => ?_) | refine GrdS_d (fun h => ?_) (fun h => ?_) | refine GrdS_b (fun h => ?_) (fun h => ?_) | refine OkS_i (by omega) ?_ | fail)
end Go.Eng
namespace Go.Eng
open Go Go.Proofs
set_option linter.unusedSimpArgs false
set_option linter.unusedVariables false
set_option maxRecDepth 20000
/-! what the arguments hold -/
theorem d_intb {X : Cx} {t n : Nat} {i0 : TI} {vs : List PV} (hi : X.ti t = some i0) (hk : i0.k = .int .i64) (h : shp X n t vs) : ∃ m : Int, vs = [i m] ∧ -9223372036854775808 ≤ m ∧ m ≤ 9223372036854775807 := by
  cases n with
  | zero => cases h
  | succ n =>
    unfold shp at h; rw [hi] at h; simp only [hk] at h
    obtain ⟨m, hm, hw⟩ := h
    refine ⟨m, hm, ?_⟩
    simpa [Lit.wf, IntKind.min, IntKind.max, IntKind.signed, IntKind.bits] using hw
theorem d_int {X : Cx} {t n : Nat} {i0 : TI} {vs : List PV} (hi : X.ti t = some i0) (hk : i0.k = .int .i64) (h : shp X n t vs) : ∃ m, vs = [i m] := by
  cases n with
  | zero => cases h
  | succ n => unfold shp at h; rw [hi] at h; simp only [hk] at h; obtain ⟨m, hm, _⟩ := h; exact ⟨m, hm⟩
theorem d_bool {X : Cx} {t n : Nat} {i0 : TI} {vs : List PV} (hi : X.ti t = some i0) (hk : i0.k = .bool) (h : shp X n t vs) : ∃ b, vs = [.bool b] := by
  cases n with
  | zero => cases h
  | succ n => unfold shp at h; rw [hi] at h; simp only [hk] at h; exact h
theorem d_str {X : Cx} {t n : Nat} {i0 : TI} {vs : List PV} (hi : X.ti t = some i0) (hk : i0.k = .str) (h : shp X n t vs) : ∃ s, vs = [.str s] ∧ s.size ≤ 9223372036854775807 := by
  cases n with
  | zero => cases h
  | succ n => unfold shp at h; rw [hi] at h; simp only [hk] at h; exact h
theorem d_slice {X : Cx} {t n e sz : Nat} {i0 : TI} {vs : List PV} {α : Type} {g : α → List PV} {q : α → Prop} (hi : X.ti t = some i0) (hk : i0.k = .slice e) (hs : szOf X e = sz)
    (hd : ∀ n vs, shp X n e vs → ∃ x, vs = g x ∧ q x) (h : shp X n t vs) : ∃ (l : List α) (nl : Bool), vs = [.lst sz nl (l.map g)] ∧ l.length ≤ 9223372036854775807 ∧ ∀ x ∈ l, q x := by
  cases n with
  | zero => cases h
  | succ n =>
    unfold shp at h; rw [hi] at h; simp only [hk, hs] at h
    rcases h with rfl | ⟨els, rfl, hl, he⟩
    · exact ⟨[], true, rfl, by simp, by simp⟩
    · have : ∀ els : List (List PV), (∀ cs ∈ els, shp X n e cs) → ∃ l : List α, els = l.map g ∧ ∀ x ∈ l, q x := by
        intro els
        induction els with
        | nil => intro _; exact ⟨[], rfl, by simp⟩
        | cons c r ih =>
          intro h
          obtain ⟨l, h1, h2⟩ := ih fun cs hcs => h cs (List.mem_cons_of_mem _ hcs)
          obtain ⟨x, h3, h4⟩ := hd n c (h c (List.mem_cons_self ..))
          exact ⟨x :: l, by rw [h1, h3]; rfl, fun y hy => by
            rcases List.mem_cons.1 hy with rfl | hy
            · exact h4
            · exact h2 y hy⟩
      obtain ⟨l, h1, h2⟩ := this els he
      subst h1
      exact ⟨l, false, rfl, by have := hl; rw [List.length_map] at this; exact this, h2⟩
theorem d_struct {X : Cx} {t n : Nat} {i0 : TI} {fl : List (Nat × Nat)} {vs : List PV} (hi : X.ti t = some i0) (hk : i0.k = .struct fl) (h : shp X n t vs) : vs.length = i0.sz ∧ ∀ q ∈ fl, ∃ n, shp X n q.2 (sub vs q.1 (szOf X q.2)) := by
  cases n with
  | zero => cases h
  | succ n => unfold shp at h; rw [hi] at h; simp only [hk] at h; exact ⟨h.1, fun q hq => ⟨n, h.2 q hq⟩⟩
theorem shpL_cons {X : Cx} {n t : Nat} {ts : List Nat} {pvs : List PV} (h : shpL X n (t :: ts) pvs) : ∃ v vs, pvs = v :: vs ∧ shpV X n t v ∧ shpL X n ts vs := by
  cases pvs with
  | nil => cases h
  | cons v vs => exact ⟨v, vs, rfl, h.1, h.2⟩
theorem shpL_nil {X : Cx} {n : Nat} {pvs : List PV} (h : shpL X n [] pvs) : pvs = [] := by
  cases pvs with
  | nil => rfl
  | cons v vs => cases h
theorem shpV_one {X : Cx} {n t : Nat} {i0 : TI} {v : PV} (hi : X.ti t = some i0) (ha : i0.k.agg = false) (h : shpV X n t v) : shp X n t [v] := by
  unfold shpV at h; rw [hi] at h; simp only [ha, Bool.false_eq_true, if_false] at h; exact h
theorem shpV_agg {X : Cx} {n t : Nat} {i0 : TI} {v : PV} (hi : X.ti t = some i0) (ha : i0.k.agg = true) (h : shpV X n t v) : ∃ vs, v = .agg vs ∧ shp X n t vs := by
  unfold shpV at h; rw [hi] at h; simp only [ha, if_true] at h; exact h
theorem dPt {n : Nat} {vs : List PV} (h : shp X n 24 vs) : ∃ p : Pt, vs = cp p ∧ True := by
  obtain ⟨hl, hf⟩ := d_struct (i0 := (X.ti 24).getD default) rfl rfl h
  match vs, hl with
  | [a, b], _ =>
    obtain ⟨_, h0⟩ := hf (0, 3) (by simp)
    obtain ⟨_, h1⟩ := hf (1, 3) (by simp)
    obtain ⟨x, e0⟩ := d_int (i0 := (X.ti 3).getD default) rfl rfl h0
    obtain ⟨y, e1⟩ := d_int (i0 := (X.ti 3).getD default) rfl rfl h1
    obtain rfl : a = i x := (List.cons.inj e0).1
    obtain rfl : b = i y := (List.cons.inj e1).1
    exact ⟨⟨x, y⟩, rfl, trivial⟩
theorem dFt {n : Nat} {vs : List PV} (h : shp X n 59 vs) : ∃ x : Ft, vs = ft x ∧ x.fits := by
  obtain ⟨hl, hf⟩ := d_struct (i0 := (X.ti 59).getD default) rfl rfl h
  match vs, hl with
  | [a, b, c, d, e], _ =>
    obtain ⟨_, h0⟩ := hf (0, 3) (by simp)
    obtain ⟨_, h1⟩ := hf (1, 3) (by simp)
    obtain ⟨_, h2⟩ := hf (2, 3) (by simp)
    obtain ⟨_, h3⟩ := hf (3, 9) (by simp)
    obtain ⟨_, h4⟩ := hf (4, 57) (by simp)
    obtain ⟨x0, e0⟩ := d_int (i0 := (X.ti 3).getD default) rfl rfl h0
    obtain ⟨x1, e1⟩ := d_int (i0 := (X.ti 3).getD default) rfl rfl h1
    obtain ⟨x2, e2⟩ := d_int (i0 := (X.ti 3).getD default) rfl rfl h2
    obtain ⟨x3, e3, b3⟩ := d_str (i0 := (X.ti 9).getD default) rfl rfl h3
    obtain ⟨x4, nl, e4, b4, _⟩ := d_slice (i0 := (X.ti 57).getD default) (sz := 2) rfl rfl rfl (fun _ _ => dPt) h4
    obtain rfl : a = i x0 := (List.cons.inj e0).1
    obtain rfl : b = i x1 := (List.cons.inj e1).1
    obtain rfl : c = i x2 := (List.cons.inj e2).1
    obtain rfl : d = .str x3 := (List.cons.inj e3).1
    obtain rfl : e = .lst 2 nl (x4.map cp) := (List.cons.inj e4).1
    exact ⟨⟨x0, x1, x2, x3, x4, nl⟩, rfl, b3, b4⟩
theorem dEn {n : Nat} {vs : List PV} (h : shp X n 61 vs) : ∃ x : En, vs = en x ∧ x.f0.fits := by
  obtain ⟨hl, hf⟩ := d_struct (i0 := (X.ti 61).getD default) rfl rfl h
  match vs, hl with
  | [a0, a1, a2, a3, a4, a, b, c], _ =>
    obtain ⟨_, h0⟩ := hf (0, 59) (by simp)
    obtain ⟨_, h1⟩ := hf (5, 3) (by simp)
    obtain ⟨_, h2⟩ := hf (6, 3) (by simp)
    obtain ⟨_, h3⟩ := hf (7, 4) (by simp)
    obtain ⟨x0, e0, p0⟩ := dFt h0
    obtain ⟨x1, e1⟩ := d_int (i0 := (X.ti 3).getD default) rfl rfl h1
    obtain ⟨x2, e2⟩ := d_int (i0 := (X.ti 3).getD default) rfl rfl h2
    obtain ⟨x3, e3⟩ := d_bool (i0 := (X.ti 4).getD default) rfl rfl h3
    have e0 : [a0, a1, a2, a3, a4] = ft x0 := e0
    simp only [ft, List.cons.injEq, and_true] at e0
    obtain ⟨rfl, rfl, rfl, rfl, rfl⟩ := e0
    obtain rfl : a = i x1 := (List.cons.inj e1).1
    obtain rfl : b = i x2 := (List.cons.inj e2).1
    obtain rfl : c = .bool x3 := (List.cons.inj e3).1
    exact ⟨⟨x0, x1, x2, x3⟩, rfl, p0⟩
theorem dEnS {n : Nat} {v : PV} (h : shpV X n 40 v) : ∃ (l : List En) (nl : Bool), v = .lst 8 nl (l.map en) ∧ l.length ≤ 9223372036854775807 ∧ ∀ x ∈ l, x.f0.fits := by
  have h := shpV_one (i0 := (X.ti 40).getD default) rfl rfl h
  obtain ⟨l, nl, e, h1, h2⟩ := d_slice (i0 := (X.ti 40).getD default) (sz := 8) rfl rfl rfl (fun _ _ => dEn) h
  exact ⟨l, nl, (List.cons.inj e).1, h1, h2⟩
theorem dFtS {n : Nat} {v : PV} (h : shpV X n 22 v) : ∃ (l : List Ft) (nl : Bool), v = .lst 5 nl (l.map ft) ∧ l.length ≤ 9223372036854775807 ∧ ∀ x ∈ l, x.fits := by
  have h := shpV_one (i0 := (X.ti 22).getD default) rfl rfl h
  obtain ⟨l, nl, e, h1, h2⟩ := d_slice (i0 := (X.ti 22).getD default) (sz := 5) rfl rfl rfl (fun _ _ => dFt) h
  exact ⟨l, nl, (List.cons.inj e).1, h1, h2⟩
theorem dInt {n : Nat} {v : PV} (h : shpV X n 3 v) : ∃ m : Int, v = i m ∧ -9223372036854775808 ≤ m ∧ m ≤ 9223372036854775807 := by
  obtain ⟨m, hm, hb⟩ := d_intb (i0 := (X.ti 3).getD default) rfl rfl (shpV_one (i0 := (X.ti 3).getD default) rfl rfl h)
  exact ⟨m, (List.cons.inj hm).1, hb⟩
theorem dIntS {n : Nat} {v : PV} (h : shpV X n 26 v) : ∃ (l : List Int) (nl : Bool), v = .lst 1 nl (l.map fun m => [i m]) ∧ l.length ≤ 9223372036854775807 ∧ ∀ x ∈ l, -9223372036854775808 ≤ x ∧ x ≤ 9223372036854775807 := by
  have h := shpV_one (i0 := (X.ti 26).getD default) rfl rfl h
  obtain ⟨l, nl, e, h1, h2⟩ := d_slice (i0 := (X.ti 26).getD default) (sz := 1) (g := fun m : Int => [i m]) (q := fun m => -9223372036854775808 ≤ m ∧ m ≤ 9223372036854775807) rfl rfl rfl (fun _ _ h => d_intb (i0 := (X.ti 3).getD default) rfl rfl h) h
  exact ⟨l, nl, (List.cons.inj e).1, h1, h2⟩
theorem dPtV {n : Nat} {v : PV} (h : shpV X n 24 v) : ∃ p : Pt, v = .agg (cp p) := by
  obtain ⟨vs, rfl, hs⟩ := shpV_agg (i0 := (X.ti 24).getD default) rfl rfl h
  obtain ⟨p, rfl, _⟩ := dPt hs
  exact ⟨p, rfl⟩
theorem dFtV {n : Nat} {v : PV} (h : shpV X n 59 v) : ∃ x : Ft, v = .agg (ft x) ∧ x.fits := by
  obtain ⟨vs, rfl, hs⟩ := shpV_agg (i0 := (X.ti 59).getD default) rfl rfl h
  obtain ⟨p, rfl, hp⟩ := dFt hs
  exact ⟨p, rfl, hp⟩
theorem dEnV {n : Nat} {v : PV} (h : shpV X n 61 v) : ∃ x : En, v = .agg (en x) ∧ x.f0.fits := by
  obtain ⟨vs, rfl, hs⟩ := shpV_agg (i0 := (X.ti 61).getD default) rfl rfl h
  obtain ⟨p, rfl, hp⟩ := dEn hs
  exact ⟨p, rfl, hp⟩
end Go.Eng
namespace Go.Eng
open Go Go.Proofs
theorem law5 {pvs : List PV} (h : shpL X 8 [40] pvs) : Fn Try.prog 5 false pvs (.bool true) := by
  obtain ⟨_, _, rfl, h1, h2⟩ := shpL_cons h
  obtain rfl := shpL_nil h2
  obtain ⟨l, n1, rfl, a1, a2⟩ := dEnS h1
  exact f5 l n1 a1 a2
end Go.Eng
