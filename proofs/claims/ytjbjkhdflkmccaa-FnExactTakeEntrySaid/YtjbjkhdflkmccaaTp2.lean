/- A part of the proof of a law's statement: for every input the law returns true and leaves its arguments as they were. No condition beyond the statement's own. What each function computes. -/
import Derived.WalkKit
import Derived.Test.YtjbjkhdflkmccaaTp1
set_option linter.unusedVariables false
set_option linter.unusedSimpArgs false
set_option autoImplicit true
set_option relaxedAutoImplicit true
namespace Go.Eng
open Go Go.Proofs Geo
set_option linter.unusedSimpArgs false
set_option linter.unusedVariables false
set_option maxRecDepth 20000
set_option maxHeartbeats 1000000

/-! copies -/
/-- a made slice that is filled as far as n -/
def fillTo {α : Type} (g : α → List PV) (z : List PV) (l : List α) (n : Nat) : List (List PV) := (l.map g).take n ++ List.replicate (l.length - n) z
theorem fillTo_zero {α : Type} {g : α → List PV} {z : List PV} {l : List α} : fillTo g z l 0 = List.replicate l.length z := rfl
theorem fillTo_full {α : Type} {g : α → List PV} {z : List PV} {l : List α} : fillTo g z l l.length = l.map g := by
  unfold fillTo; rw [Nat.sub_self, List.take_of_length_le (by simp)]; simp
theorem fillTo_len {α : Type} {g : α → List PV} {z : List PV} {l : List α} {n : Nat} (h : n ≤ l.length) : (fillTo g z l n).length = l.length := by
  unfold fillTo; simp; omega
theorem fillTo_set {α : Type} {g : α → List PV} {z : List PV} {l : List α} {n : Nat} (h : n < l.length) : (fillTo g z l n).set n (g l[n]) = fillTo g z l (n + 1) := by
  unfold fillTo
  have e : l.length - n = (l.length - (n + 1)) + 1 := by omega
  rw [e, List.replicate_succ, List.set_append_right _ _ (by simp; omega)]
  have e2 : n - ((l.map g).take n).length = 0 := by simp; omega
  rw [e2, List.set_cons_zero, List.take_add_one, List.getElem?_map, List.getElem?_eq_getElem h]
  simp
theorem f17 (x y : Int) : Fn Try.prog 17 false [.agg [i x, i y]] (.agg [i x, i y]) := by
  refine Fn.by_sx hX (by kernel_rfl) c17 (by kernel_rfl) (by rfl) ?_
  simp [i17, sx_skip, sx_ops, sx_seq, sx_cond, sx_block, sx_exit, sx_ret, sx_mcall, sx_mcallx, sx_mcallb, isPtrN, PV.pcs, sx_mcell, sx_mset, sx_mnset, elAt, setEl, inAt, elIn, setIn, isLst, cellsOf, sxl_nil, sxl_set, sxl_call, sxl_callv, sxl_g1, sxl_g2, sxl_g3, sxl_g4, OkS_true, GrdS_tt, GrdS_tf, GrdS_ft, GrdS_ff, CondS_t, CondS_f, then_n, then_e, then_r, blk_n, blk_e, blk_r, upd_app, Ex.ok, Ex.val, Opd.val, POp.dst, bin_int, binOK_int, bin_str, binOK_str, resOK, resV, RB.val, sub, putc, scB, scL, oneB, conf, Ex.val.eqP, Ex.val.eqL, negV, mxV, mnV, ← wr_eq, wr_zero, wr_one, wr_m1, bst_lst, byteC, partsOK, putAll, appV, nilV, slV, sslV, optB, optNum, and_assoc, exists_and_left, exists_eq_left']
theorem f136 (l : List Pt) (nl : Bool) (hl : l.length ≤ 1048576) : Fn Try.prog 136 true [.lst 2 nl (l.map cp)] (.lst 2 false (l.map cp)) := by
  refine Fn.by_sx hX (by kernel_rfl) c136 (by kernel_rfl) (by rfl) ?_
  simp [i136, sx_skip, sx_ops, sx_seq, sx_cond, sx_block, sx_exit, sx_ret, sx_mcall, sx_mcallx, sx_mcallb, isPtrN, PV.pcs, sx_mcell, sx_mset, sx_mnset, elAt, setEl, inAt, elIn, setIn, isLst, cellsOf, sxl_nil, sxl_set, sxl_call, sxl_callv, sxl_g1, sxl_g2, sxl_g3, sxl_g4, OkS_true, GrdS_tt, GrdS_tf, GrdS_ft, GrdS_ff, CondS_t, CondS_f, then_n, then_e, then_r, blk_n, blk_e, blk_r, upd_app, Ex.ok, Ex.val, Opd.val, POp.dst, bin_int, binOK_int, bin_str, binOK_str, resOK, resV, RB.val, sub, putc, scB, scL, oneB, conf, Ex.val.eqP, Ex.val.eqL, negV, mxV, mnV, ← wr_eq, wr_zero, wr_one, wr_m1, bst_lst, byteC, partsOK, putAll, appV, nilV, slV, sslV, optB, optNum, and_assoc, exists_and_left, exists_eq_left']
  repeat' (first | intro _ | (simp [sx_skip, sx_ops, sx_seq, sx_cond, sx_block, sx_exit, sx_ret, sx_mcall, sx_mcallx, sx_mcallb, isPtrN, PV.pcs, sx_mcell, sx_mset, sx_mnset, elAt, setEl, inAt, elIn, setIn, isLst, cellsOf, sxl_nil, sxl_set, sxl_call, sxl_callv, sxl_g1, sxl_g2, sxl_g3, sxl_g4, OkS_true, GrdS_tt, GrdS_tf, GrdS_ft, GrdS_ff, CondS_t, CondS_f, then_n, then_e, then_r, blk_n, blk_e, blk_r, upd_app, Ex.ok, Ex.val, Opd.val, POp.dst, bin_int, binOK_int, bin_str, binOK_str, resOK, resV, RB.val, sub, putc, scB, scL, oneB, conf, Ex.val.eqP, Ex.val.eqL, negV, mxV, mnV, ← wr_eq, wr_zero, wr_one, wr_m1, bst_lst, byteC, partsOK, putAll, appV, nilV, slV, sslV, optB, optNum, and_assoc, exists_and_left, exists_eq_left', *]) | refine CondS_d (fun h => ?_) (fun h => ?_) | refine CondS_b (fun h => ?_) (fun h => ?_) | refine GrdS_d (fun h => ?_) (fun h => ?_) | refine GrdS_b (fun h => ?_) (fun h => ?_) | refine OkS_i (by omega) ?_ | fail)
  refine sx_count l.length (fun n V => V 0 = .lst 2 nl (l.map cp) ∧ V 4 = i n ∧ V 3 = .lst 2 false (fillTo cp [i 0, i 0] l n)) 0 (by omega) (by simp [sx_skip, sx_ops, sx_seq, sx_cond, sx_block, sx_exit, sx_ret, sx_mcall, sx_mcallx, sx_mcallb, isPtrN, PV.pcs, sx_mcell, sx_mset, sx_mnset, elAt, setEl, inAt, elIn, setIn, isLst, cellsOf, sxl_nil, sxl_set, sxl_call, sxl_callv, sxl_g1, sxl_g2, sxl_g3, sxl_g4, OkS_true, GrdS_tt, GrdS_tf, GrdS_ft, GrdS_ff, CondS_t, CondS_f, then_n, then_e, then_r, blk_n, blk_e, blk_r, upd_app, Ex.ok, Ex.val, Opd.val, POp.dst, bin_int, binOK_int, bin_str, binOK_str, resOK, resV, RB.val, sub, putc, scB, scL, oneB, conf, Ex.val.eqP, Ex.val.eqL, negV, mxV, mnV, ← wr_eq, wr_zero, wr_one, wr_m1, bst_lst, byteC, partsOK, putAll, appV, nilV, slV, sslV, optB, optNum, and_assoc, exists_and_left, exists_eq_left', fillTo_zero]) ?_
  rintro n V hn ⟨h0, h4, h3⟩
  have hw : wr .i64 ((n : Int) + 1) = n + 1 := wr_in (by omega) (by omega)
  simp [sx_skip, sx_ops, sx_seq, sx_cond, sx_block, sx_exit, sx_ret, sx_mcall, sx_mcallx, sx_mcallb, isPtrN, PV.pcs, sx_mcell, sx_mset, sx_mnset, elAt, setEl, inAt, elIn, setIn, isLst, cellsOf, sxl_nil, sxl_set, sxl_call, sxl_callv, sxl_g1, sxl_g2, sxl_g3, sxl_g4, OkS_true, GrdS_tt, GrdS_tf, GrdS_ft, GrdS_ff, CondS_t, CondS_f, then_n, then_e, then_r, blk_n, blk_e, blk_r, upd_app, Ex.ok, Ex.val, Opd.val, POp.dst, bin_int, binOK_int, bin_str, binOK_str, resOK, resV, RB.val, sub, putc, scB, scL, oneB, conf, Ex.val.eqP, Ex.val.eqL, negV, mxV, mnV, ← wr_eq, wr_zero, wr_one, wr_m1, bst_lst, byteC, partsOK, putAll, appV, nilV, slV, sslV, optB, optNum, and_assoc, exists_and_left, exists_eq_left', h0, h4]
  refine CondS_d (fun hlt => ?_) (fun hge => ?_)
  · have hlt' : n < l.length := by omega
    have hs := fillTo_set (g := cp) (z := [i 0, i 0]) hlt'
    have hfl := fillTo_len (g := cp) (z := [i 0, i 0]) (l := l) (n := n) (by omega)
    simp only [cp] at hs
    repeat' (first | intro _ | (simp [sx_skip, sx_ops, sx_seq, sx_cond, sx_block, sx_exit, sx_ret, sx_mcall, sx_mcallx, sx_mcallb, isPtrN, PV.pcs, sx_mcell, sx_mset, sx_mnset, elAt, setEl, inAt, elIn, setIn, isLst, cellsOf, sxl_nil, sxl_set, sxl_call, sxl_callv, sxl_g1, sxl_g2, sxl_g3, sxl_g4, OkS_true, GrdS_tt, GrdS_tf, GrdS_ft, GrdS_ff, CondS_t, CondS_f, then_n, then_e, then_r, blk_n, blk_e, blk_r, upd_app, Ex.ok, Ex.val, Opd.val, POp.dst, bin_int, binOK_int, bin_str, binOK_str, resOK, resV, RB.val, sub, putc, scB, scL, oneB, conf, Ex.val.eqP, Ex.val.eqL, negV, mxV, mnV, ← wr_eq, wr_zero, wr_one, wr_m1, bst_lst, byteC, partsOK, putAll, appV, nilV, slV, sslV, optB, optNum, and_assoc, exists_and_left, exists_eq_left', cp, *]) | refine CallS_i (f17 _ _) ?_ | refine CondS_d (fun h => ?_) (fun h => ?_) | refine CondS_b (fun h => ?_) (fun h => ?_) | refine GrdS_d (fun h => ?_) (fun h => ?_) | refine GrdS_b (fun h => ?_) (fun h => ?_) | refine OkS_i (by omega) ?_ | fail)
  · have : n = l.length := by omega
    subst this
    repeat' (first | intro _ | (simp [sx_skip, sx_ops, sx_seq, sx_cond, sx_block, sx_exit, sx_ret, sx_mcall, sx_mcallx, sx_mcallb, isPtrN, PV.pcs, sx_mcell, sx_mset, sx_mnset, elAt, setEl, inAt, elIn, setIn, isLst, cellsOf, sxl_nil, sxl_set, sxl_call, sxl_callv, sxl_g1, sxl_g2, sxl_g3, sxl_g4, OkS_true, GrdS_tt, GrdS_tf, GrdS_ft, GrdS_ff, CondS_t, CondS_f, then_n, then_e, then_r, blk_n, blk_e, blk_r, upd_app, Ex.ok, Ex.val, Opd.val, POp.dst, bin_int, binOK_int, bin_str, binOK_str, resOK, resV, RB.val, sub, putc, scB, scL, oneB, conf, Ex.val.eqP, Ex.val.eqL, negV, mxV, mnV, ← wr_eq, wr_zero, wr_one, wr_m1, bst_lst, byteC, partsOK, putAll, appV, nilV, slV, sslV, optB, optNum, and_assoc, exists_and_left, exists_eq_left', fillTo_full, *]) | refine CondS_d (fun h => ?_) (fun h => ?_) | refine CondS_b (fun h => ?_) (fun h => ?_) | refine GrdS_d (fun h => ?_) (fun h => ?_) | refine GrdS_b (fun h => ?_) (fun h => ?_) | refine OkS_i (by omega) ?_ | fail)
def Ft.fr (x : Ft) : Ft := { x with nl := false }
def En.fr (x : En) : En := { x with f0 := x.f0.fr }
theorem f82 (x : Ft) (hl : x.f4.length ≤ 1048576) : Fn Try.prog 82 true [.agg (ft x)] (.agg (ft x.fr)) := by
  have hc := f136 x.f4 x.nl hl
  unfold ft Ft.fr
  refine Fn.by_sx hX (by kernel_rfl) c82 (by kernel_rfl) (by rfl) ?_
  simp [i82, sx_skip, sx_ops, sx_seq, sx_cond, sx_block, sx_exit, sx_ret, sx_mcall, sx_mcallx, sx_mcallb, isPtrN, PV.pcs, sx_mcell, sx_mset, sx_mnset, elAt, setEl, inAt, elIn, setIn, isLst, cellsOf, sxl_nil, sxl_set, sxl_call, sxl_callv, sxl_g1, sxl_g2, sxl_g3, sxl_g4, OkS_true, GrdS_tt, GrdS_tf, GrdS_ft, GrdS_ff, CondS_t, CondS_f, then_n, then_e, then_r, blk_n, blk_e, blk_r, upd_app, Ex.ok, Ex.val, Opd.val, POp.dst, bin_int, binOK_int, bin_str, binOK_str, resOK, resV, RB.val, sub, putc, scB, scL, oneB, conf, Ex.val.eqP, Ex.val.eqL, negV, mxV, mnV, ← wr_eq, wr_zero, wr_one, wr_m1, bst_lst, byteC, partsOK, putAll, appV, nilV, slV, sslV, optB, optNum, and_assoc, exists_and_left, exists_eq_left']
  repeat' (first | intro _ | (simp [sx_skip, sx_ops, sx_seq, sx_cond, sx_block, sx_exit, sx_ret, sx_mcall, sx_mcallx, sx_mcallb, isPtrN, PV.pcs, sx_mcell, sx_mset, sx_mnset, elAt, setEl, inAt, elIn, setIn, isLst, cellsOf, sxl_nil, sxl_set, sxl_call, sxl_callv, sxl_g1, sxl_g2, sxl_g3, sxl_g4, OkS_true, GrdS_tt, GrdS_tf, GrdS_ft, GrdS_ff, CondS_t, CondS_f, then_n, then_e, then_r, blk_n, blk_e, blk_r, upd_app, Ex.ok, Ex.val, Opd.val, POp.dst, bin_int, binOK_int, bin_str, binOK_str, resOK, resV, RB.val, sub, putc, scB, scL, oneB, conf, Ex.val.eqP, Ex.val.eqL, negV, mxV, mnV, ← wr_eq, wr_zero, wr_one, wr_m1, bst_lst, byteC, partsOK, putAll, appV, nilV, slV, sslV, optB, optNum, and_assoc, exists_and_left, exists_eq_left', *]) | refine CallS_i (hc) ?_ | refine CondS_d (fun h => ?_) (fun h => ?_) | refine CondS_b (fun h => ?_) (fun h => ?_) | refine GrdS_d (fun h => ?_) (fun h => ?_) | refine GrdS_b (fun h => ?_) (fun h => ?_) | refine OkS_i (by omega) ?_ | fail)
theorem f24 (x : En) (hl : x.f0.f4.length ≤ 1048576) : Fn Try.prog 24 true [.agg (en x)] (.agg (en x.fr)) := by
  have hc := f82 x.f0 hl
  unfold ft Ft.fr at hc
  unfold en En.fr Ft.fr
  refine Fn.by_sx hX (by kernel_rfl) c24 (by kernel_rfl) (by rfl) ?_
  simp [i24, sx_skip, sx_ops, sx_seq, sx_cond, sx_block, sx_exit, sx_ret, sx_mcall, sx_mcallx, sx_mcallb, isPtrN, PV.pcs, sx_mcell, sx_mset, sx_mnset, elAt, setEl, inAt, elIn, setIn, isLst, cellsOf, sxl_nil, sxl_set, sxl_call, sxl_callv, sxl_g1, sxl_g2, sxl_g3, sxl_g4, OkS_true, GrdS_tt, GrdS_tf, GrdS_ft, GrdS_ff, CondS_t, CondS_f, then_n, then_e, then_r, blk_n, blk_e, blk_r, upd_app, Ex.ok, Ex.val, Opd.val, POp.dst, bin_int, binOK_int, bin_str, binOK_str, resOK, resV, RB.val, sub, putc, scB, scL, oneB, conf, Ex.val.eqP, Ex.val.eqL, negV, mxV, mnV, ← wr_eq, wr_zero, wr_one, wr_m1, bst_lst, byteC, partsOK, putAll, appV, nilV, slV, sslV, optB, optNum, and_assoc, exists_and_left, exists_eq_left']
  repeat' (first | intro _ | (simp [sx_skip, sx_ops, sx_seq, sx_cond, sx_block, sx_exit, sx_ret, sx_mcall, sx_mcallx, sx_mcallb, isPtrN, PV.pcs, sx_mcell, sx_mset, sx_mnset, elAt, setEl, inAt, elIn, setIn, isLst, cellsOf, sxl_nil, sxl_set, sxl_call, sxl_callv, sxl_g1, sxl_g2, sxl_g3, sxl_g4, OkS_true, GrdS_tt, GrdS_tf, GrdS_ft, GrdS_ff, CondS_t, CondS_f, then_n, then_e, then_r, blk_n, blk_e, blk_r, upd_app, Ex.ok, Ex.val, Opd.val, POp.dst, bin_int, binOK_int, bin_str, binOK_str, resOK, resV, RB.val, sub, putc, scB, scL, oneB, conf, Ex.val.eqP, Ex.val.eqL, negV, mxV, mnV, ← wr_eq, wr_zero, wr_one, wr_m1, bst_lst, byteC, partsOK, putAll, appV, nilV, slV, sslV, optB, optNum, and_assoc, exists_and_left, exists_eq_left', *]) | refine CallS_i (hc) ?_ | refine CondS_d (fun h => ?_) (fun h => ?_) | refine CondS_b (fun h => ?_) (fun h => ?_) | refine GrdS_d (fun h => ?_) (fun h => ?_) | refine GrdS_b (fun h => ?_) (fun h => ?_) | refine OkS_i (by omega) ?_ | fail)
def enz : List PV := [i 0, i 0, i 0, .str (bs []), .lst 2 true [], i 0, i 0, .bool false]
def enf (x : En) : List PV := [i x.f0.f0, i x.f0.f1, i x.f0.f2, .str x.f0.f3, .lst 2 false (x.f0.f4.map cp), i x.f1, i x.f2, .bool x.f3]
theorem f23w (l : List En) (nl : Bool) (hl : l.length ≤ 1048576) (hx : ∀ x ∈ l, x.f0.f4.length ≤ 1048576) : Fn Try.prog 23 true [.lst 8 nl (l.map en)] (.lst 8 false (l.map enf)) := by
  refine Fn.by_sx hX (by kernel_rfl) c23 (by kernel_rfl) (by rfl) ?_
  simp [i23, sx_skip, sx_ops, sx_seq, sx_cond, sx_block, sx_exit, sx_ret, sx_mcall, sx_mcallx, sx_mcallb, isPtrN, PV.pcs, sx_mcell, sx_mset, sx_mnset, elAt, setEl, inAt, elIn, setIn, isLst, cellsOf, sxl_nil, sxl_set, sxl_call, sxl_callv, sxl_g1, sxl_g2, sxl_g3, sxl_g4, OkS_true, GrdS_tt, GrdS_tf, GrdS_ft, GrdS_ff, CondS_t, CondS_f, then_n, then_e, then_r, blk_n, blk_e, blk_r, upd_app, Ex.ok, Ex.val, Opd.val, POp.dst, bin_int, binOK_int, bin_str, binOK_str, resOK, resV, RB.val, sub, putc, scB, scL, oneB, conf, Ex.val.eqP, Ex.val.eqL, negV, mxV, mnV, ← wr_eq, wr_zero, wr_one, wr_m1, bst_lst, byteC, partsOK, putAll, appV, nilV, slV, sslV, optB, optNum, and_assoc, exists_and_left, exists_eq_left']
  repeat' (first | intro _ | (simp [sx_skip, sx_ops, sx_seq, sx_cond, sx_block, sx_exit, sx_ret, sx_mcall, sx_mcallx, sx_mcallb, isPtrN, PV.pcs, sx_mcell, sx_mset, sx_mnset, elAt, setEl, inAt, elIn, setIn, isLst, cellsOf, sxl_nil, sxl_set, sxl_call, sxl_callv, sxl_g1, sxl_g2, sxl_g3, sxl_g4, OkS_true, GrdS_tt, GrdS_tf, GrdS_ft, GrdS_ff, CondS_t, CondS_f, then_n, then_e, then_r, blk_n, blk_e, blk_r, upd_app, Ex.ok, Ex.val, Opd.val, POp.dst, bin_int, binOK_int, bin_str, binOK_str, resOK, resV, RB.val, sub, putc, scB, scL, oneB, conf, Ex.val.eqP, Ex.val.eqL, negV, mxV, mnV, ← wr_eq, wr_zero, wr_one, wr_m1, bst_lst, byteC, partsOK, putAll, appV, nilV, slV, sslV, optB, optNum, and_assoc, exists_and_left, exists_eq_left', *]) | refine CondS_d (fun h => ?_) (fun h => ?_) | refine CondS_b (fun h => ?_) (fun h => ?_) | refine GrdS_d (fun h => ?_) (fun h => ?_) | refine GrdS_b (fun h => ?_) (fun h => ?_) | refine OkS_i (by omega) ?_ | fail)
  refine sx_count l.length (fun n V => V 0 = .lst 8 nl (l.map en) ∧ V 4 = i n ∧ V 3 = .lst 8 false (fillTo enf enz l n)) 0 (by omega) (by simp [sx_skip, sx_ops, sx_seq, sx_cond, sx_block, sx_exit, sx_ret, sx_mcall, sx_mcallx, sx_mcallb, isPtrN, PV.pcs, sx_mcell, sx_mset, sx_mnset, elAt, setEl, inAt, elIn, setIn, isLst, cellsOf, sxl_nil, sxl_set, sxl_call, sxl_callv, sxl_g1, sxl_g2, sxl_g3, sxl_g4, OkS_true, GrdS_tt, GrdS_tf, GrdS_ft, GrdS_ff, CondS_t, CondS_f, then_n, then_e, then_r, blk_n, blk_e, blk_r, upd_app, Ex.ok, Ex.val, Opd.val, POp.dst, bin_int, binOK_int, bin_str, binOK_str, resOK, resV, RB.val, sub, putc, scB, scL, oneB, conf, Ex.val.eqP, Ex.val.eqL, negV, mxV, mnV, ← wr_eq, wr_zero, wr_one, wr_m1, bst_lst, byteC, partsOK, putAll, appV, nilV, slV, sslV, optB, optNum, and_assoc, exists_and_left, exists_eq_left', fillTo_zero, enz]) ?_
  rintro n V hn ⟨h0, h4, h3⟩
  have hw : wr .i64 ((n : Int) + 1) = n + 1 := wr_in (by omega) (by omega)
  simp [sx_skip, sx_ops, sx_seq, sx_cond, sx_block, sx_exit, sx_ret, sx_mcall, sx_mcallx, sx_mcallb, isPtrN, PV.pcs, sx_mcell, sx_mset, sx_mnset, elAt, setEl, inAt, elIn, setIn, isLst, cellsOf, sxl_nil, sxl_set, sxl_call, sxl_callv, sxl_g1, sxl_g2, sxl_g3, sxl_g4, OkS_true, GrdS_tt, GrdS_tf, GrdS_ft, GrdS_ff, CondS_t, CondS_f, then_n, then_e, then_r, blk_n, blk_e, blk_r, upd_app, Ex.ok, Ex.val, Opd.val, POp.dst, bin_int, binOK_int, bin_str, binOK_str, resOK, resV, RB.val, sub, putc, scB, scL, oneB, conf, Ex.val.eqP, Ex.val.eqL, negV, mxV, mnV, ← wr_eq, wr_zero, wr_one, wr_m1, bst_lst, byteC, partsOK, putAll, appV, nilV, slV, sslV, optB, optNum, and_assoc, exists_and_left, exists_eq_left', h0, h4]
  refine CondS_d (fun hlt => ?_) (fun hge => ?_)
  · have hlt' : n < l.length := by omega
    have hs : (fillTo enf enz l n).set n [i l[n].f0.f0, i l[n].f0.f1, i l[n].f0.f2, .str l[n].f0.f3, .lst 2 false (l[n].f0.f4.map cp), i l[n].f1, i l[n].f2, .bool l[n].f3] = fillTo enf enz l (n + 1) := fillTo_set hlt'
    have hfl := fillTo_len (g := enf) (z := enz) (l := l) (n := n) (by omega)
    have hc := f24 l[n] (hx _ (List.getElem_mem ..))
    unfold en En.fr Ft.fr at hc
    repeat' (first | intro _ | (simp [sx_skip, sx_ops, sx_seq, sx_cond, sx_block, sx_exit, sx_ret, sx_mcall, sx_mcallx, sx_mcallb, isPtrN, PV.pcs, sx_mcell, sx_mset, sx_mnset, elAt, setEl, inAt, elIn, setIn, isLst, cellsOf, sxl_nil, sxl_set, sxl_call, sxl_callv, sxl_g1, sxl_g2, sxl_g3, sxl_g4, OkS_true, GrdS_tt, GrdS_tf, GrdS_ft, GrdS_ff, CondS_t, CondS_f, then_n, then_e, then_r, blk_n, blk_e, blk_r, upd_app, Ex.ok, Ex.val, Opd.val, POp.dst, bin_int, binOK_int, bin_str, binOK_str, resOK, resV, RB.val, sub, putc, scB, scL, oneB, conf, Ex.val.eqP, Ex.val.eqL, negV, mxV, mnV, ← wr_eq, wr_zero, wr_one, wr_m1, bst_lst, byteC, partsOK, putAll, appV, nilV, slV, sslV, optB, optNum, and_assoc, exists_and_left, exists_eq_left', en, *]) | refine CallS_i (hc) ?_ | refine CondS_d (fun h => ?_) (fun h => ?_) | refine CondS_b (fun h => ?_) (fun h => ?_) | refine GrdS_d (fun h => ?_) (fun h => ?_) | refine GrdS_b (fun h => ?_) (fun h => ?_) | refine OkS_i (by omega) ?_ | fail)
  · have : n = l.length := by omega
    subst this
    have hfu := fillTo_full (g := enf) (z := enz) (l := l)
    repeat' (first | intro _ | (simp [sx_skip, sx_ops, sx_seq, sx_cond, sx_block, sx_exit, sx_ret, sx_mcall, sx_mcallx, sx_mcallb, isPtrN, PV.pcs, sx_mcell, sx_mset, sx_mnset, elAt, setEl, inAt, elIn, setIn, isLst, cellsOf, sxl_nil, sxl_set, sxl_call, sxl_callv, sxl_g1, sxl_g2, sxl_g3, sxl_g4, OkS_true, GrdS_tt, GrdS_tf, GrdS_ft, GrdS_ff, CondS_t, CondS_f, then_n, then_e, then_r, blk_n, blk_e, blk_r, upd_app, Ex.ok, Ex.val, Opd.val, POp.dst, bin_int, binOK_int, bin_str, binOK_str, resOK, resV, RB.val, sub, putc, scB, scL, oneB, conf, Ex.val.eqP, Ex.val.eqL, negV, mxV, mnV, ← wr_eq, wr_zero, wr_one, wr_m1, bst_lst, byteC, partsOK, putAll, appV, nilV, slV, sslV, optB, optNum, and_assoc, exists_and_left, exists_eq_left', *]) | refine CondS_d (fun h => ?_) (fun h => ?_) | refine CondS_b (fun h => ?_) (fun h => ?_) | refine GrdS_d (fun h => ?_) (fun h => ?_) | refine GrdS_b (fun h => ?_) (fun h => ?_) | refine OkS_i (by omega) ?_ | fail)
theorem f23 (l : List En) (nl : Bool) (hl : l.length ≤ 1048576) (hx : ∀ x ∈ l, x.f0.f4.length ≤ 1048576) : Fn Try.prog 23 true [.lst 8 nl (l.map en)] (.lst 8 false ((l.map En.fr).map en)) := by
  have := f23w l nl hl hx
  rw [List.map_map]
  exact this
/-! what is read as it was -/
theorem f133 (x y : Int) : Fn Try.prog 133 false [.agg [i x, i y], .agg [i x, i y]] (.bool true) := by
  refine Fn.by_sx hX (by kernel_rfl) c133 (by kernel_rfl) (by rfl) ?_
  simp [i133, sx_skip, sx_ops, sx_seq, sx_cond, sx_block, sx_exit, sx_ret, sx_mcall, sx_mcallx, sx_mcallb, isPtrN, PV.pcs, sx_mcell, sx_mset, sx_mnset, elAt, setEl, inAt, elIn, setIn, isLst, cellsOf, sxl_nil, sxl_set, sxl_call, sxl_callv, sxl_g1, sxl_g2, sxl_g3, sxl_g4, OkS_true, GrdS_tt, GrdS_tf, GrdS_ft, GrdS_ff, CondS_t, CondS_f, then_n, then_e, then_r, blk_n, blk_e, blk_r, upd_app, Ex.ok, Ex.val, Opd.val, POp.dst, bin_int, binOK_int, bin_str, binOK_str, resOK, resV, RB.val, sub, putc, scB, scL, oneB, conf, Ex.val.eqP, Ex.val.eqL, negV, mxV, mnV, ← wr_eq, wr_zero, wr_one, wr_m1, bst_lst, byteC, partsOK, putAll, appV, nilV, slV, sslV, optB, optNum, and_assoc, exists_and_left, exists_eq_left']
  repeat' (first | intro _ | (simp [sx_skip, sx_ops, sx_seq, sx_cond, sx_block, sx_exit, sx_ret, sx_mcall, sx_mcallx, sx_mcallb, isPtrN, PV.pcs, sx_mcell, sx_mset, sx_mnset, elAt, setEl, inAt, elIn, setIn, isLst, cellsOf, sxl_nil, sxl_set, sxl_call, sxl_callv, sxl_g1, sxl_g2, sxl_g3, sxl_g4, OkS_true, GrdS_tt, GrdS_tf, GrdS_ft, GrdS_ff, CondS_t, CondS_f, then_n, then_e, then_r, blk_n, blk_e, blk_r, upd_app, Ex.ok, Ex.val, Opd.val, POp.dst, bin_int, binOK_int, bin_str, binOK_str, resOK, resV, RB.val, sub, putc, scB, scL, oneB, conf, Ex.val.eqP, Ex.val.eqL, negV, mxV, mnV, ← wr_eq, wr_zero, wr_one, wr_m1, bst_lst, byteC, partsOK, putAll, appV, nilV, slV, sslV, optB, optNum, and_assoc, exists_and_left, exists_eq_left', *]) | refine CondS_d (fun h => ?_) (fun h => ?_) | refine CondS_b (fun h => ?_) (fun h => ?_) | refine GrdS_d (fun h => ?_) (fun h => ?_) | refine GrdS_b (fun h => ?_) (fun h => ?_) | refine OkS_i (by omega) ?_ | fail)
theorem f74 (l : List Pt) (n1 n2 : Bool) (hl : l.length ≤ 1000000000000) : Fn Try.prog 74 false [.lst 2 n1 (l.map cp), .lst 2 n2 (l.map cp)] (.bool true) := by
  refine Fn.by_sx hX (by kernel_rfl) c74 (by kernel_rfl) (by rfl) ?_
  simp [i74, sx_skip, sx_ops, sx_seq, sx_cond, sx_block, sx_exit, sx_ret, sx_mcall, sx_mcallx, sx_mcallb, isPtrN, PV.pcs, sx_mcell, sx_mset, sx_mnset, elAt, setEl, inAt, elIn, setIn, isLst, cellsOf, sxl_nil, sxl_set, sxl_call, sxl_callv, sxl_g1, sxl_g2, sxl_g3, sxl_g4, OkS_true, GrdS_tt, GrdS_tf, GrdS_ft, GrdS_ff, CondS_t, CondS_f, then_n, then_e, then_r, blk_n, blk_e, blk_r, upd_app, Ex.ok, Ex.val, Opd.val, POp.dst, bin_int, binOK_int, bin_str, binOK_str, resOK, resV, RB.val, sub, putc, scB, scL, oneB, conf, Ex.val.eqP, Ex.val.eqL, negV, mxV, mnV, ← wr_eq, wr_zero, wr_one, wr_m1, bst_lst, byteC, partsOK, putAll, appV, nilV, slV, sslV, optB, optNum, and_assoc, exists_and_left, exists_eq_left']
  repeat' (first | intro _ | (simp [sx_skip, sx_ops, sx_seq, sx_cond, sx_block, sx_exit, sx_ret, sx_mcall, sx_mcallx, sx_mcallb, isPtrN, PV.pcs, sx_mcell, sx_mset, sx_mnset, elAt, setEl, inAt, elIn, setIn, isLst, cellsOf, sxl_nil, sxl_set, sxl_call, sxl_callv, sxl_g1, sxl_g2, sxl_g3, sxl_g4, OkS_true, GrdS_tt, GrdS_tf, GrdS_ft, GrdS_ff, CondS_t, CondS_f, then_n, then_e, then_r, blk_n, blk_e, blk_r, upd_app, Ex.ok, Ex.val, Opd.val, POp.dst, bin_int, binOK_int, bin_str, binOK_str, resOK, resV, RB.val, sub, putc, scB, scL, oneB, conf, Ex.val.eqP, Ex.val.eqL, negV, mxV, mnV, ← wr_eq, wr_zero, wr_one, wr_m1, bst_lst, byteC, partsOK, putAll, appV, nilV, slV, sslV, optB, optNum, and_assoc, exists_and_left, exists_eq_left', *]) | refine CondS_d (fun h => ?_) (fun h => ?_) | refine CondS_b (fun h => ?_) (fun h => ?_) | refine GrdS_d (fun h => ?_) (fun h => ?_) | refine GrdS_b (fun h => ?_) (fun h => ?_) | refine OkS_i (by omega) ?_ | fail)
  refine sx_count l.length (fun n V => V 0 = .lst 2 n1 (l.map cp) ∧ V 1 = .lst 2 n2 (l.map cp) ∧ V 5 = i n) 0 (by omega) (by simp [sx_skip, sx_ops, sx_seq, sx_cond, sx_block, sx_exit, sx_ret, sx_mcall, sx_mcallx, sx_mcallb, isPtrN, PV.pcs, sx_mcell, sx_mset, sx_mnset, elAt, setEl, inAt, elIn, setIn, isLst, cellsOf, sxl_nil, sxl_set, sxl_call, sxl_callv, sxl_g1, sxl_g2, sxl_g3, sxl_g4, OkS_true, GrdS_tt, GrdS_tf, GrdS_ft, GrdS_ff, CondS_t, CondS_f, then_n, then_e, then_r, blk_n, blk_e, blk_r, upd_app, Ex.ok, Ex.val, Opd.val, POp.dst, bin_int, binOK_int, bin_str, binOK_str, resOK, resV, RB.val, sub, putc, scB, scL, oneB, conf, Ex.val.eqP, Ex.val.eqL, negV, mxV, mnV, ← wr_eq, wr_zero, wr_one, wr_m1, bst_lst, byteC, partsOK, putAll, appV, nilV, slV, sslV, optB, optNum, and_assoc, exists_and_left, exists_eq_left']) ?_
  rintro n V hn ⟨h0, h1, h5⟩
  have hw : wr .i64 ((n : Int) + 1) = n + 1 := wr_in (by omega) (by omega)
  simp [sx_skip, sx_ops, sx_seq, sx_cond, sx_block, sx_exit, sx_ret, sx_mcall, sx_mcallx, sx_mcallb, isPtrN, PV.pcs, sx_mcell, sx_mset, sx_mnset, elAt, setEl, inAt, elIn, setIn, isLst, cellsOf, sxl_nil, sxl_set, sxl_call, sxl_callv, sxl_g1, sxl_g2, sxl_g3, sxl_g4, OkS_true, GrdS_tt, GrdS_tf, GrdS_ft, GrdS_ff, CondS_t, CondS_f, then_n, then_e, then_r, blk_n, blk_e, blk_r, upd_app, Ex.ok, Ex.val, Opd.val, POp.dst, bin_int, binOK_int, bin_str, binOK_str, resOK, resV, RB.val, sub, putc, scB, scL, oneB, conf, Ex.val.eqP, Ex.val.eqL, negV, mxV, mnV, ← wr_eq, wr_zero, wr_one, wr_m1, bst_lst, byteC, partsOK, putAll, appV, nilV, slV, sslV, optB, optNum, and_assoc, exists_and_left, exists_eq_left', h0, h5]
  refine CondS_d (fun hlt => ?_) (fun hge => ?_)
  · have hlt' : n < l.length := by omega
    repeat' (first | intro _ | (simp [sx_skip, sx_ops, sx_seq, sx_cond, sx_block, sx_exit, sx_ret, sx_mcall, sx_mcallx, sx_mcallb, isPtrN, PV.pcs, sx_mcell, sx_mset, sx_mnset, elAt, setEl, inAt, elIn, setIn, isLst, cellsOf, sxl_nil, sxl_set, sxl_call, sxl_callv, sxl_g1, sxl_g2, sxl_g3, sxl_g4, OkS_true, GrdS_tt, GrdS_tf, GrdS_ft, GrdS_ff, CondS_t, CondS_f, then_n, then_e, then_r, blk_n, blk_e, blk_r, upd_app, Ex.ok, Ex.val, Opd.val, POp.dst, bin_int, binOK_int, bin_str, binOK_str, resOK, resV, RB.val, sub, putc, scB, scL, oneB, conf, Ex.val.eqP, Ex.val.eqL, negV, mxV, mnV, ← wr_eq, wr_zero, wr_one, wr_m1, bst_lst, byteC, partsOK, putAll, appV, nilV, slV, sslV, optB, optNum, and_assoc, exists_and_left, exists_eq_left', cp, *]) | refine CallS_b (f133 _ _) (fun h => ?_) (fun h => ?_) | refine CondS_d (fun h => ?_) (fun h => ?_) | refine CondS_b (fun h => ?_) (fun h => ?_) | refine GrdS_d (fun h => ?_) (fun h => ?_) | refine GrdS_b (fun h => ?_) (fun h => ?_) | refine OkS_i (by omega) ?_ | fail)
    all_goals simp_all
  · have : n = l.length := by omega
    subst this
    repeat' (first | intro _ | (simp [sx_skip, sx_ops, sx_seq, sx_cond, sx_block, sx_exit, sx_ret, sx_mcall, sx_mcallx, sx_mcallb, isPtrN, PV.pcs, sx_mcell, sx_mset, sx_mnset, elAt, setEl, inAt, elIn, setIn, isLst, cellsOf, sxl_nil, sxl_set, sxl_call, sxl_callv, sxl_g1, sxl_g2, sxl_g3, sxl_g4, OkS_true, GrdS_tt, GrdS_tf, GrdS_ft, GrdS_ff, CondS_t, CondS_f, then_n, then_e, then_r, blk_n, blk_e, blk_r, upd_app, Ex.ok, Ex.val, Opd.val, POp.dst, bin_int, binOK_int, bin_str, binOK_str, resOK, resV, RB.val, sub, putc, scB, scL, oneB, conf, Ex.val.eqP, Ex.val.eqL, negV, mxV, mnV, ← wr_eq, wr_zero, wr_one, wr_m1, bst_lst, byteC, partsOK, putAll, appV, nilV, slV, sslV, optB, optNum, and_assoc, exists_and_left, exists_eq_left', *]) | refine CondS_d (fun h => ?_) (fun h => ?_) | refine CondS_b (fun h => ?_) (fun h => ?_) | refine GrdS_d (fun h => ?_) (fun h => ?_) | refine GrdS_b (fun h => ?_) (fun h => ?_) | refine OkS_i (by omega) ?_ | fail)
theorem f85 (x : Ft) (n1 n2 : Bool) (hl : x.f4.length ≤ 1000000000000) : Fn Try.prog 85 false [.agg (ft { x with nl := n1 }), .agg (ft { x with nl := n2 })] (.bool true) := by
  have hc := f74 x.f4 n1 n2 hl
  unfold ft
  refine Fn.by_sx hX (by kernel_rfl) c85 (by kernel_rfl) (by rfl) ?_
  simp [i85, sx_skip, sx_ops, sx_seq, sx_cond, sx_block, sx_exit, sx_ret, sx_mcall, sx_mcallx, sx_mcallb, isPtrN, PV.pcs, sx_mcell, sx_mset, sx_mnset, elAt, setEl, inAt, elIn, setIn, isLst, cellsOf, sxl_nil, sxl_set, sxl_call, sxl_callv, sxl_g1, sxl_g2, sxl_g3, sxl_g4, OkS_true, GrdS_tt, GrdS_tf, GrdS_ft, GrdS_ff, CondS_t, CondS_f, then_n, then_e, then_r, blk_n, blk_e, blk_r, upd_app, Ex.ok, Ex.val, Opd.val, POp.dst, bin_int, binOK_int, bin_str, binOK_str, resOK, resV, RB.val, sub, putc, scB, scL, oneB, conf, Ex.val.eqP, Ex.val.eqL, negV, mxV, mnV, ← wr_eq, wr_zero, wr_one, wr_m1, bst_lst, byteC, partsOK, putAll, appV, nilV, slV, sslV, optB, optNum, and_assoc, exists_and_left, exists_eq_left']
  repeat' (first | intro _ | (simp [sx_skip, sx_ops, sx_seq, sx_cond, sx_block, sx_exit, sx_ret, sx_mcall, sx_mcallx, sx_mcallb, isPtrN, PV.pcs, sx_mcell, sx_mset, sx_mnset, elAt, setEl, inAt, elIn, setIn, isLst, cellsOf, sxl_nil, sxl_set, sxl_call, sxl_callv, sxl_g1, sxl_g2, sxl_g3, sxl_g4, OkS_true, GrdS_tt, GrdS_tf, GrdS_ft, GrdS_ff, CondS_t, CondS_f, then_n, then_e, then_r, blk_n, blk_e, blk_r, upd_app, Ex.ok, Ex.val, Opd.val, POp.dst, bin_int, binOK_int, bin_str, binOK_str, resOK, resV, RB.val, sub, putc, scB, scL, oneB, conf, Ex.val.eqP, Ex.val.eqL, negV, mxV, mnV, ← wr_eq, wr_zero, wr_one, wr_m1, bst_lst, byteC, partsOK, putAll, appV, nilV, slV, sslV, optB, optNum, and_assoc, exists_and_left, exists_eq_left', *]) | refine CallS_i (hc) ?_ | refine CondS_d (fun h => ?_) (fun h => ?_) | refine CondS_b (fun h => ?_) (fun h => ?_) | refine GrdS_d (fun h => ?_) (fun h => ?_) | refine GrdS_b (fun h => ?_) (fun h => ?_) | refine OkS_i (by omega) ?_ | fail)
theorem f27 (x : En) (n1 n2 : Bool) (hl : x.f0.f4.length ≤ 1000000000000) : Fn Try.prog 27 false [.agg (en { x with f0 := { x.f0 with nl := n1 } }), .agg (en { x with f0 := { x.f0 with nl := n2 } })] (.bool true) := by
  have hc := f85 x.f0 n1 n2 hl
  unfold ft at hc
  unfold en
  refine Fn.by_sx hX (by kernel_rfl) c27 (by kernel_rfl) (by rfl) ?_
  simp [i27, sx_skip, sx_ops, sx_seq, sx_cond, sx_block, sx_exit, sx_ret, sx_mcall, sx_mcallx, sx_mcallb, isPtrN, PV.pcs, sx_mcell, sx_mset, sx_mnset, elAt, setEl, inAt, elIn, setIn, isLst, cellsOf, sxl_nil, sxl_set, sxl_call, sxl_callv, sxl_g1, sxl_g2, sxl_g3, sxl_g4, OkS_true, GrdS_tt, GrdS_tf, GrdS_ft, GrdS_ff, CondS_t, CondS_f, then_n, then_e, then_r, blk_n, blk_e, blk_r, upd_app, Ex.ok, Ex.val, Opd.val, POp.dst, bin_int, binOK_int, bin_str, binOK_str, resOK, resV, RB.val, sub, putc, scB, scL, oneB, conf, Ex.val.eqP, Ex.val.eqL, negV, mxV, mnV, ← wr_eq, wr_zero, wr_one, wr_m1, bst_lst, byteC, partsOK, putAll, appV, nilV, slV, sslV, optB, optNum, and_assoc, exists_and_left, exists_eq_left']
  repeat' (first | intro _ | (simp [sx_skip, sx_ops, sx_seq, sx_cond, sx_block, sx_exit, sx_ret, sx_mcall, sx_mcallx, sx_mcallb, isPtrN, PV.pcs, sx_mcell, sx_mset, sx_mnset, elAt, setEl, inAt, elIn, setIn, isLst, cellsOf, sxl_nil, sxl_set, sxl_call, sxl_callv, sxl_g1, sxl_g2, sxl_g3, sxl_g4, OkS_true, GrdS_tt, GrdS_tf, GrdS_ft, GrdS_ff, CondS_t, CondS_f, then_n, then_e, then_r, blk_n, blk_e, blk_r, upd_app, Ex.ok, Ex.val, Opd.val, POp.dst, bin_int, binOK_int, bin_str, binOK_str, resOK, resV, RB.val, sub, putc, scB, scL, oneB, conf, Ex.val.eqP, Ex.val.eqL, negV, mxV, mnV, ← wr_eq, wr_zero, wr_one, wr_m1, bst_lst, byteC, partsOK, putAll, appV, nilV, slV, sslV, optB, optNum, and_assoc, exists_and_left, exists_eq_left', *]) | refine CallS_i (hc) ?_ | refine CondS_d (fun h => ?_) (fun h => ?_) | refine CondS_b (fun h => ?_) (fun h => ?_) | refine GrdS_d (fun h => ?_) (fun h => ?_) | refine GrdS_b (fun h => ?_) (fun h => ?_) | refine OkS_i (by omega) ?_ | fail)
theorem f26 (l : List En) (n1 n2 : Bool) (hl : l.length ≤ 1000000000000) (hx : ∀ x ∈ l, x.f0.f4.length ≤ 1000000000000) : Fn Try.prog 26 false [.lst 8 n1 (l.map en), .lst 8 n2 (l.map en)] (.bool true) := by
  refine Fn.by_sx hX (by kernel_rfl) c26 (by kernel_rfl) (by rfl) ?_
  simp [i26, sx_skip, sx_ops, sx_seq, sx_cond, sx_block, sx_exit, sx_ret, sx_mcall, sx_mcallx, sx_mcallb, isPtrN, PV.pcs, sx_mcell, sx_mset, sx_mnset, elAt, setEl, inAt, elIn, setIn, isLst, cellsOf, sxl_nil, sxl_set, sxl_call, sxl_callv, sxl_g1, sxl_g2, sxl_g3, sxl_g4, OkS_true, GrdS_tt, GrdS_tf, GrdS_ft, GrdS_ff, CondS_t, CondS_f, then_n, then_e, then_r, blk_n, blk_e, blk_r, upd_app, Ex.ok, Ex.val, Opd.val, POp.dst, bin_int, binOK_int, bin_str, binOK_str, resOK, resV, RB.val, sub, putc, scB, scL, oneB, conf, Ex.val.eqP, Ex.val.eqL, negV, mxV, mnV, ← wr_eq, wr_zero, wr_one, wr_m1, bst_lst, byteC, partsOK, putAll, appV, nilV, slV, sslV, optB, optNum, and_assoc, exists_and_left, exists_eq_left']
  repeat' (first | intro _ | (simp [sx_skip, sx_ops, sx_seq, sx_cond, sx_block, sx_exit, sx_ret, sx_mcall, sx_mcallx, sx_mcallb, isPtrN, PV.pcs, sx_mcell, sx_mset, sx_mnset, elAt, setEl, inAt, elIn, setIn, isLst, cellsOf, sxl_nil, sxl_set, sxl_call, sxl_callv, sxl_g1, sxl_g2, sxl_g3, sxl_g4, OkS_true, GrdS_tt, GrdS_tf, GrdS_ft, GrdS_ff, CondS_t, CondS_f, then_n, then_e, then_r, blk_n, blk_e, blk_r, upd_app, Ex.ok, Ex.val, Opd.val, POp.dst, bin_int, binOK_int, bin_str, binOK_str, resOK, resV, RB.val, sub, putc, scB, scL, oneB, conf, Ex.val.eqP, Ex.val.eqL, negV, mxV, mnV, ← wr_eq, wr_zero, wr_one, wr_m1, bst_lst, byteC, partsOK, putAll, appV, nilV, slV, sslV, optB, optNum, and_assoc, exists_and_left, exists_eq_left', *]) | refine CondS_d (fun h => ?_) (fun h => ?_) | refine CondS_b (fun h => ?_) (fun h => ?_) | refine GrdS_d (fun h => ?_) (fun h => ?_) | refine GrdS_b (fun h => ?_) (fun h => ?_) | refine OkS_i (by omega) ?_ | fail)
  refine sx_count l.length (fun n V => V 0 = .lst 8 n1 (l.map en) ∧ V 1 = .lst 8 n2 (l.map en) ∧ V 5 = i n) 0 (by omega) (by simp [sx_skip, sx_ops, sx_seq, sx_cond, sx_block, sx_exit, sx_ret, sx_mcall, sx_mcallx, sx_mcallb, isPtrN, PV.pcs, sx_mcell, sx_mset, sx_mnset, elAt, setEl, inAt, elIn, setIn, isLst, cellsOf, sxl_nil, sxl_set, sxl_call, sxl_callv, sxl_g1, sxl_g2, sxl_g3, sxl_g4, OkS_true, GrdS_tt, GrdS_tf, GrdS_ft, GrdS_ff, CondS_t, CondS_f, then_n, then_e, then_r, blk_n, blk_e, blk_r, upd_app, Ex.ok, Ex.val, Opd.val, POp.dst, bin_int, binOK_int, bin_str, binOK_str, resOK, resV, RB.val, sub, putc, scB, scL, oneB, conf, Ex.val.eqP, Ex.val.eqL, negV, mxV, mnV, ← wr_eq, wr_zero, wr_one, wr_m1, bst_lst, byteC, partsOK, putAll, appV, nilV, slV, sslV, optB, optNum, and_assoc, exists_and_left, exists_eq_left']) ?_
  rintro n V hn ⟨h0, h1, h5⟩
  have hw : wr .i64 ((n : Int) + 1) = n + 1 := wr_in (by omega) (by omega)
  simp [sx_skip, sx_ops, sx_seq, sx_cond, sx_block, sx_exit, sx_ret, sx_mcall, sx_mcallx, sx_mcallb, isPtrN, PV.pcs, sx_mcell, sx_mset, sx_mnset, elAt, setEl, inAt, elIn, setIn, isLst, cellsOf, sxl_nil, sxl_set, sxl_call, sxl_callv, sxl_g1, sxl_g2, sxl_g3, sxl_g4, OkS_true, GrdS_tt, GrdS_tf, GrdS_ft, GrdS_ff, CondS_t, CondS_f, then_n, then_e, then_r, blk_n, blk_e, blk_r, upd_app, Ex.ok, Ex.val, Opd.val, POp.dst, bin_int, binOK_int, bin_str, binOK_str, resOK, resV, RB.val, sub, putc, scB, scL, oneB, conf, Ex.val.eqP, Ex.val.eqL, negV, mxV, mnV, ← wr_eq, wr_zero, wr_one, wr_m1, bst_lst, byteC, partsOK, putAll, appV, nilV, slV, sslV, optB, optNum, and_assoc, exists_and_left, exists_eq_left', h0, h5]
  refine CondS_d (fun hlt => ?_) (fun hge => ?_)
  · have hlt' : n < l.length := by omega
    have hc := f27 l[n] l[n].f0.nl l[n].f0.nl (hx _ (List.getElem_mem ..))
    unfold en at hc
    repeat' (first | intro _ | (simp [sx_skip, sx_ops, sx_seq, sx_cond, sx_block, sx_exit, sx_ret, sx_mcall, sx_mcallx, sx_mcallb, isPtrN, PV.pcs, sx_mcell, sx_mset, sx_mnset, elAt, setEl, inAt, elIn, setIn, isLst, cellsOf, sxl_nil, sxl_set, sxl_call, sxl_callv, sxl_g1, sxl_g2, sxl_g3, sxl_g4, OkS_true, GrdS_tt, GrdS_tf, GrdS_ft, GrdS_ff, CondS_t, CondS_f, then_n, then_e, then_r, blk_n, blk_e, blk_r, upd_app, Ex.ok, Ex.val, Opd.val, POp.dst, bin_int, binOK_int, bin_str, binOK_str, resOK, resV, RB.val, sub, putc, scB, scL, oneB, conf, Ex.val.eqP, Ex.val.eqL, negV, mxV, mnV, ← wr_eq, wr_zero, wr_one, wr_m1, bst_lst, byteC, partsOK, putAll, appV, nilV, slV, sslV, optB, optNum, and_assoc, exists_and_left, exists_eq_left', en, *]) | refine CallS_i (hc) ?_ | refine CondS_d (fun h => ?_) (fun h => ?_) | refine CondS_b (fun h => ?_) (fun h => ?_) | refine GrdS_d (fun h => ?_) (fun h => ?_) | refine GrdS_b (fun h => ?_) (fun h => ?_) | refine OkS_i (by omega) ?_ | fail)
    all_goals simp_all
  · have : n = l.length := by omega
    subst this
    repeat' (first | intro _ | (simp [sx_skip, sx_ops, sx_seq, sx_cond, sx_block, sx_exit, sx_ret, sx_mcall, sx_mcallx, sx_mcallb, isPtrN, PV.pcs, sx_mcell, sx_mset, sx_mnset, elAt, setEl, inAt, elIn, setIn, isLst, cellsOf, sxl_nil, sxl_set, sxl_call, sxl_callv, sxl_g1, sxl_g2, sxl_g3, sxl_g4, OkS_true, GrdS_tt, GrdS_tf, GrdS_ft, GrdS_ff, CondS_t, CondS_f, then_n, then_e, then_r, blk_n, blk_e, blk_r, upd_app, Ex.ok, Ex.val, Opd.val, POp.dst, bin_int, binOK_int, bin_str, binOK_str, resOK, resV, RB.val, sub, putc, scB, scL, oneB, conf, Ex.val.eqP, Ex.val.eqL, negV, mxV, mnV, ← wr_eq, wr_zero, wr_one, wr_m1, bst_lst, byteC, partsOK, putAll, appV, nilV, slV, sslV, optB, optNum, and_assoc, exists_and_left, exists_eq_left', *]) | refine CondS_d (fun h => ?_) (fun h => ?_) | refine CondS_b (fun h => ?_) (fun h => ?_) | refine GrdS_d (fun h => ?_) (fun h => ?_) | refine GrdS_b (fun h => ?_) (fun h => ?_) | refine OkS_i (by omega) ?_ | fail)
theorem wtL_len (l : List En) : l.length ≤ wtL l := Nat.le_add_right ..
theorem wtL_mem {l : List En} {x : En} (h : x ∈ l) : x.f0.f3.size + x.f0.f4.length ≤ wtL l := by
  unfold wtL wtTo
  rw [List.take_of_length_le (Nat.le_refl _)]
  have : ∀ (l : List En), x ∈ l → wtF x.f0 ≤ (l.map fun x => wtF x.f0).sum := by
    intro l
    induction l with
    | nil => intro h; cases h
    | cons y r ih =>
      intro h
      rw [List.map_cons, List.sum_cons]
      rcases List.mem_cons.1 h with rfl | h
      · exact Nat.le_add_right ..
      · have := ih h; omega
  have := this l h
  have e : wtF x.f0 = x.f0.f3.size + x.f0.f4.length := rfl
  omega
end Go.Eng
namespace Go.Eng
open Go Go.Proofs
set_option linter.unusedSimpArgs false
set_option linter.unusedVariables false
set_option maxRecDepth 20000
set_option maxHeartbeats 1000000

/-! lists of features and of numbers: sizes, copies, what is read as it was -/
def wtToF (l : List Ft) (n : Nat) : Nat := ((l.take n).map fun x => wtF x).sum
theorem wtToF_zero (l : List Ft) : wtToF l 0 = 0 := rfl
theorem wtToF_succ {l : List Ft} {n : Nat} (h : n < l.length) : wtToF l (n + 1) = wtToF l n + wtF l[n] := by
  unfold wtToF
  rw [List.take_add_one, List.getElem?_eq_getElem h, List.map_append, List.sum_append]
  simp
theorem wtToF_le {l : List Ft} {n m : Nat} (h : n ≤ m) : wtToF l n ≤ wtToF l m := by
  unfold wtToF
  have : l.take m = l.take n ++ (l.take m).drop n := by
    have := List.take_append_drop n (l.take m)
    rw [List.take_take, Nat.min_eq_left h] at this
    exact this.symm
  rw [this, List.map_append, List.sum_append]
  omega
def wtLF (l : List Ft) : Nat := l.length + wtToF l l.length
def ftz : List PV := [i 0, i 0, i 0, .str (bs []), .lst 2 true []]
def ftf (x : Ft) : List PV := [i x.f0, i x.f1, i x.f2, .str x.f3, .lst 2 false (x.f4.map cp)]
theorem wtLF_len (l : List Ft) : l.length ≤ wtLF l := Nat.le_add_right ..
theorem wtLF_mem {l : List Ft} {x : Ft} (h : x ∈ l) : x.f3.size + x.f4.length ≤ wtLF l := by
  unfold wtLF wtToF
  rw [List.take_of_length_le (Nat.le_refl _)]
  have : ∀ (l : List Ft), x ∈ l → wtF x ≤ (l.map fun x => wtF x).sum := by
    intro l
    induction l with
    | nil => intro h; cases h
    | cons y r ih =>
      intro h
      rw [List.map_cons, List.sum_cons]
      rcases List.mem_cons.1 h with rfl | h
      · exact Nat.le_add_right ..
      · have := ih h; omega
  have := this l h
  have e : wtF x = x.f3.size + x.f4.length := rfl
  omega
end Go.Eng
namespace Go.Eng
open Go Go.Proofs Geo
set_option linter.unusedSimpArgs false
set_option linter.unusedVariables false
set_option maxRecDepth 20000
set_option maxHeartbeats 1000000

/-! lengths -/
def wSt (ax ay bx by' : Int) : Int := if M_IsPoint ax ay = true ∧ M_IsPoint bx by' = true then max (ax - bx) (bx - ax) + max (ay - by') (by' - ay) else -1
theorem wSt_ok {ax ay bx by' : Int} (h1 : M_IsPoint ax ay = true) (h2 : M_IsPoint bx by' = true) : wSt ax ay bx by' = max (ax - bx) (bx - ax) + max (ay - by') (by' - ay) ∧
    (wr .i64 (ax - bx) = ax - bx ∧ wr .i64 (bx - ax) = bx - ax ∧ wr .i64 (ay - by') = ay - by' ∧ wr .i64 (by' - ay) = by' - ay) ∧
    wr .i64 (max (ax - bx) (bx - ax) + max (ay - by') (by' - ay)) = max (ax - bx) (bx - ax) + max (ay - by') (by' - ay) := by
  have v1 := (M_IsPoint_iff _ _).1 h1
  have v2 := (M_IsPoint_iff _ _).1 h2
  unfold Vl at v1 v2
  refine ⟨if_pos ⟨h1, h2⟩, ⟨wr_in (by omega) (by omega), wr_in (by omega) (by omega), wr_in (by omega) (by omega), wr_in (by omega) (by omega)⟩, wr_in (by omega) (by omega)⟩
theorem wSt_bound (ax ay bx by' : Int) : -1 ≤ wSt ax ay bx by' ∧ wSt ax ay bx by' ≤ 400 := by
  unfold wSt
  split
  · rename_i h
    have v1 := (M_IsPoint_iff _ _).1 h.1
    have v2 := (M_IsPoint_iff _ _).1 h.2
    unfold Vl at v1 v2
    omega
  · omega
theorem mx_max (a b : Int) : (if a < b then b else a) = max a b := by omega
def sumTo (f : Nat → Int) : Nat → Int
  | 0 => 0
  | n + 1 => sumTo f n + f n
theorem sumTo_zero {f : Nat → Int} : sumTo f 0 = 0 := rfl
theorem sumTo_succ {f : Nat → Int} {n : Nat} : sumTo f (n + 1) = sumTo f n + f n := rfl
theorem sumTo_bound {f : Nat → Int} {a b : Int} (h : ∀ k, -a ≤ f k ∧ f k ≤ b) : ∀ n : Nat, -(a * n) ≤ sumTo f n ∧ sumTo f n ≤ b * n := by
  intro n
  induction n with
  | zero => simp [sumTo]
  | succ n ih =>
    have := h n
    have e1 : a * ((n + 1 : Nat) : Int) = a * n + a := by rw [Int.natCast_add, Int.mul_add]; simp
    have e2 : b * ((n + 1 : Nat) : Int) = b * n + b := by rw [Int.natCast_add, Int.mul_add]; simp
    rw [sumTo_succ, e1, e2]
    omega
def sSt (S : List Sg) (k : Nat) : Int := wSt (sgD S k).f0.f0 (sgD S k).f0.f1 (sgD S k).f1.f0 (sgD S k).f1.f1
def wSteps (l : List Pt) : Int := sumTo (sSt (wSegs l)) (wSegs l).length
theorem sSt_sum (S : List Sg) (n : Nat) : -(1 * (n : Int)) ≤ sumTo (sSt S) n ∧ sumTo (sSt S) n ≤ 400 * n := sumTo_bound (fun k => wSt_bound ..) n
theorem wSteps_bound (l : List Pt) : -9 ≤ wSteps l ∧ wSteps l ≤ 3600 := by
  have := sSt_sum (wSegs l) (wSegs l).length
  have h9 := wSegs_len l
  unfold wSteps
  omega
/-! the first that is found -/
def firstFrom (ok : Nat → Bool) : Nat → Nat → Int
  | 0, _ => -1
  | d + 1, i => if ok i = true then i else firstFrom ok d (i + 1)
theorem firstFrom_step {ok : Nat → Bool} {n N : Nat} (h : n < N) : firstFrom ok (N - n) n = if ok n = true then (n : Int) else firstFrom ok (N - (n + 1)) (n + 1) := by
  rw [show N - n = (N - (n + 1)) + 1 by omega]; rfl
theorem firstFrom_end {ok : Nat → Bool} {N : Nat} : firstFrom ok (N - N) N = -1 := by rw [Nat.sub_self]; rfl
theorem firstFrom_bound {ok : Nat → Bool} : ∀ d n : Nat, -1 ≤ firstFrom ok d n ∧ firstFrom ok d n < (n : Int) + d
  | 0, n => ⟨by simp [firstFrom], by simp [firstFrom]; omega⟩
  | d + 1, n => by
    unfold firstFrom
    split
    · omega
    · have := firstFrom_bound (ok := ok) d (n + 1)
      omega
def ftD : Ft := ⟨0, 0, 0, ⟨#[]⟩, [], true⟩
def hasId (l : List Ft) (id : Int) (n : Nat) : Bool := decide ((l.getD n ftD).f0 = id)
def wFind (l : List Ft) (id : Int) : Int := firstFrom (hasId l id) (l.length - 0) 0
theorem wFind_bound (l : List Ft) (id : Int) : -1 ≤ wFind l id ∧ wFind l id < l.length := by
  have := firstFrom_bound (ok := hasId l id) (l.length - 0) 0
  unfold wFind
  omega
end Go.Eng
namespace Go.Eng
open Go Go.Proofs Geo
set_option linter.unusedSimpArgs false
set_option linter.unusedVariables false
set_option maxRecDepth 20000
set_option maxHeartbeats 1000000

/-! the length of a way -/
def ints (l : List Int) : List (List PV) := l.map fun m => [i m]
def wayAt (l : List Ft) (ids : List Int) (j : Nat) : Int :=
  if 0 ≤ wFind l (ids.getD j 0) ∧ (l.getD (wFind l (ids.getD j 0)).toNat ftD).f1 = 2 then wSteps (l.getD (wFind l (ids.getD j 0)).toNat ftD).f4 else 0
def wWay (l : List Ft) (ids : List Int) : Int := sumTo (wayAt l ids) ids.length
theorem wayAt_bound (l : List Ft) (ids : List Int) (j : Nat) : -9 ≤ wayAt l ids j ∧ wayAt l ids j ≤ 3600 := by
  unfold wayAt
  split
  · exact wSteps_bound _
  · omega
theorem find_cases (l : List Ft) (id : Int) : wFind l id = -1 ∨ ∃ k : Nat, wFind l id = k ∧ k < l.length := by
  have := wFind_bound l id
  rcases Int.lt_or_le (wFind l id) 0 with h | h
  · left; omega
  · right; exact ⟨(wFind l id).toNat, by omega, by omega⟩
theorem frF_small {l r : List Ft} (hr : l.map Ft.fr = r) {B : Nat} (h : ∀ x ∈ l, x.f3.size ≤ B ∧ x.f4.length ≤ B) : ∀ x ∈ r, x.f3.size ≤ B ∧ x.f4.length ≤ B := by
  intro x hx
  rw [← hr] at hx
  obtain ⟨y, hy, rfl⟩ := List.mem_map.1 hx
  exact h y hy
end Go.Eng
namespace Go.Eng
open Go Go.Proofs Geo
set_option linter.unusedSimpArgs false
set_option linter.unusedVariables false
set_option maxRecDepth 20000
set_option maxHeartbeats 1000000

/-! a source, and a way -/
def srcAt (l : List Ft) (n : Nat) : Bool := wFeat (l.getD n ftD) && !(decide (0 < n) && decide ((l.getD n ftD).f0 ≤ (l.getD (n - 1) ftD).f0))
def wSrc (l : List Ft) : Bool := decide (l.length ≤ 16) && allTo (srcAt l) l.length
theorem allTo_at {ok : Nat → Bool} {n N : Nat} (h : allTo ok N = true) (hn : n < N) : ok n = true := by
  cases hb : ok n with
  | true => rfl
  | false => rw [allTo_bad hn hb] at h; cases h
theorem wSrc_line {l : List Ft} (h : wSrc l = true) {k : Nat} (hk : k < l.length) (h2 : l[k].f1 = 2) : 2 ≤ l[k].f4.length ∧ l[k].f4.length ≤ 10 := by
  unfold wSrc at h
  rw [Bool.and_eq_true] at h
  have := allTo_at h.2 hk
  simp [srcAt, hk, wFeat, wShape, h2, wSimple] at this
  exact wLine_len this.1.2.1
def pe (p q : Pt) : Bool := decide (p.f0 = q.f0) && decide (p.f1 = q.f1)
def endA (x : Ft) : Pt := x.f4.getD 0 ⟨0, 0⟩
def endB (x : Ft) : Pt := x.f4.getD (x.f4.length - 1) ⟨0, 0⟩
theorem pe_comm (p q : Pt) : pe p q = pe q p := by
  unfold pe
  have h1 : decide (p.f0 = q.f0) = decide (q.f0 = p.f0) := by simp [eq_comm]
  have h2 : decide (p.f1 = q.f1) = decide (q.f1 = p.f1) := by simp [eq_comm]
  rw [h1, h2]
def hopF (x : Ft) (rank : Int) (p : Pt) : Option Pt := if x.f1 = 2 ∧ ¬ x.f2 < rank then (if pe p (endA x) = true then some (endB x) else if pe p (endB x) = true then some (endA x) else none) else none
def hop (l : List Ft) (rank : Int) (p : Pt) (id : Int) : Option Pt := if wFind l id < 0 then none else hopF (l.getD (wFind l id).toNat ftD) rank p
def curTo (l : List Ft) (rank : Int) (ids : List Int) (s : Pt) : Nat → Option Pt
  | 0 => some s
  | n + 1 => match curTo l rank ids s n with
    | some p => hop l rank p (ids.getD n 0)
    | none => none
theorem curTo_none {l : List Ft} {rank : Int} {ids : List Int} {s : Pt} {n : Nat} (h : curTo l rank ids s n = none) : ∀ N, n ≤ N → curTo l rank ids s N = none
  | 0, hN => by obtain rfl : n = 0 := by omega
                exact h
  | N + 1, hN => by
    rcases Nat.lt_or_ge N n with h1 | h1
    · obtain rfl : n = N + 1 := by omega
      exact h
    · unfold curTo; rw [curTo_none h N h1]
def isWay (l : List Ft) (s e : Pt) (rank : Int) (ids : List Int) : Bool := wSrc l && (match curTo l rank ids s ids.length with
  | some p => pe p e
  | none => false)
theorem isWay_bad {l : List Ft} {s e : Pt} {rank : Int} {ids : List Int} {n : Nat} (hn : n < ids.length) {p : Pt} (hp : curTo l rank ids s n = some p) (h : hop l rank p ids[n] = none) : isWay l s e rank ids = false := by
  have : curTo l rank ids s (n + 1) = none := by unfold curTo; rw [hp]; simp [hn, h]
  unfold isWay
  rw [curTo_none this _ hn]
  simp
theorem frF_ok {l r : List Ft} (hr : l.map Ft.fr = r) (h : ∀ x ∈ l, x.f3.size ≤ 1048576 ∧ x.f4.length ≤ 1048576) : ∀ x ∈ r, x.okay := by
  intro x hx
  have := frF_small hr h x hx
  unfold Ft.okay
  omega
end Go.Eng
namespace Go.Eng
open Go Go.Proofs Geo
set_option linter.unusedSimpArgs false
set_option linter.unusedVariables false
set_option maxRecDepth 20000
set_option maxHeartbeats 1000000

/-! marks. WRITES -/
def dig1 (m : Nat) : ByteArray := ⟨#[UInt8.ofNat (48 + m % 10)]⟩
def mtd (m : Nat) (acc : ByteArray) : ByteArray := if h : m = 0 then acc else mtd (m / 10) (dig1 m ++ acc)
termination_by m
decreasing_by omega
def mt (k : Int) : ByteArray := if k ≤ 0 then bs [109, 48] else bs [109] ++ mtd k.toNat (bs [])
theorem f92 (k : Int) (hk : k ≤ 1000000000000) : Fn Try.prog 92 false [i k] (.str (mt k)) := by
  refine Fn.by_sx hX (by kernel_rfl) c92 (by kernel_rfl) (by rfl) ?_
  simp [i92, sx_skip, sx_ops, sx_seq, sx_cond, sx_block, sx_exit, sx_ret, sx_mcall, sx_mcallx, sx_mcallb, isPtrN, PV.pcs, sx_mcell, sx_mset, sx_mnset, elAt, setEl, inAt, elIn, setIn, isLst, cellsOf, sxl_nil, sxl_set, sxl_call, sxl_callv, sxl_g1, sxl_g2, sxl_g3, sxl_g4, OkS_true, GrdS_tt, GrdS_tf, GrdS_ft, GrdS_ff, CondS_t, CondS_f, then_n, then_e, then_r, blk_n, blk_e, blk_r, upd_app, Ex.ok, Ex.val, Opd.val, POp.dst, bin_int, binOK_int, bin_str, binOK_str, resOK, resV, RB.val, sub, putc, scB, scL, oneB, conf, Ex.val.eqP, Ex.val.eqL, negV, mxV, mnV, ← wr_eq, wr_zero, wr_one, wr_m1, bst_lst, byteC, partsOK, putAll, appV, nilV, slV, sslV, optB, optNum, and_assoc, exists_and_left, exists_eq_left']
  by_cases h0 : k ≤ 0
  · have : mt k = bs [109, 48] := if_pos h0
    repeat' (first | intro _ | (simp [sx_skip, sx_ops, sx_seq, sx_cond, sx_block, sx_exit, sx_ret, sx_mcall, sx_mcallx, sx_mcallb, isPtrN, PV.pcs, sx_mcell, sx_mset, sx_mnset, elAt, setEl, inAt, elIn, setIn, isLst, cellsOf, sxl_nil, sxl_set, sxl_call, sxl_callv, sxl_g1, sxl_g2, sxl_g3, sxl_g4, OkS_true, GrdS_tt, GrdS_tf, GrdS_ft, GrdS_ff, CondS_t, CondS_f, then_n, then_e, then_r, blk_n, blk_e, blk_r, upd_app, Ex.ok, Ex.val, Opd.val, POp.dst, bin_int, binOK_int, bin_str, binOK_str, resOK, resV, RB.val, sub, putc, scB, scL, oneB, conf, Ex.val.eqP, Ex.val.eqL, negV, mxV, mnV, ← wr_eq, wr_zero, wr_one, wr_m1, bst_lst, byteC, partsOK, putAll, appV, nilV, slV, sslV, optB, optNum, and_assoc, exists_and_left, exists_eq_left', *]) | refine CondS_d (fun h => ?_) (fun h => ?_) | refine CondS_b (fun h => ?_) (fun h => ?_) | refine GrdS_d (fun h => ?_) (fun h => ?_) | refine GrdS_b (fun h => ?_) (fun h => ?_) | refine OkS_i (by omega) ?_ | fail)
  · obtain ⟨N, rfl⟩ : ∃ N : Nat, k = N := ⟨k.toNat, by omega⟩
    obtain ⟨D, hD⟩ : ∃ D, mtd N (bs []) = D := ⟨_, rfl⟩
    have hm : mt (N : Int) = bs [109] ++ D := by unfold mt; rw [if_neg h0, Int.toNat_natCast, hD]
    rw [hm]
    clear hm
    have hN0 : ¬ N = 0 := by omega
    repeat' (first | intro _ | (simp [sx_skip, sx_ops, sx_seq, sx_cond, sx_block, sx_exit, sx_ret, sx_mcall, sx_mcallx, sx_mcallb, isPtrN, PV.pcs, sx_mcell, sx_mset, sx_mnset, elAt, setEl, inAt, elIn, setIn, isLst, cellsOf, sxl_nil, sxl_set, sxl_call, sxl_callv, sxl_g1, sxl_g2, sxl_g3, sxl_g4, OkS_true, GrdS_tt, GrdS_tf, GrdS_ft, GrdS_ff, CondS_t, CondS_f, then_n, then_e, then_r, blk_n, blk_e, blk_r, upd_app, Ex.ok, Ex.val, Opd.val, POp.dst, bin_int, binOK_int, bin_str, binOK_str, resOK, resV, RB.val, sub, putc, scB, scL, oneB, conf, Ex.val.eqP, Ex.val.eqL, negV, mxV, mnV, ← wr_eq, wr_zero, wr_one, wr_m1, bst_lst, byteC, partsOK, putAll, appV, nilV, slV, sslV, optB, optNum, and_assoc, exists_and_left, exists_eq_left', *]) | refine CondS_d (fun h => ?_) (fun h => ?_) | refine CondS_b (fun h => ?_) (fun h => ?_) | refine GrdS_d (fun h => ?_) (fun h => ?_) | refine GrdS_b (fun h => ?_) (fun h => ?_) | refine OkS_i (by omega) ?_ | fail)
    refine sx_down (fun m V => ∃ acc : ByteArray, V 3 = .str acc ∧ V 0 = i m ∧ mtd m acc = D ∧ acc.size + m ≤ N) N ⟨bs [], by simp [sx_skip, sx_ops, sx_seq, sx_cond, sx_block, sx_exit, sx_ret, sx_mcall, sx_mcallx, sx_mcallb, isPtrN, PV.pcs, sx_mcell, sx_mset, sx_mnset, elAt, setEl, inAt, elIn, setIn, isLst, cellsOf, sxl_nil, sxl_set, sxl_call, sxl_callv, sxl_g1, sxl_g2, sxl_g3, sxl_g4, OkS_true, GrdS_tt, GrdS_tf, GrdS_ft, GrdS_ff, CondS_t, CondS_f, then_n, then_e, then_r, blk_n, blk_e, blk_r, upd_app, Ex.ok, Ex.val, Opd.val, POp.dst, bin_int, binOK_int, bin_str, binOK_str, resOK, resV, RB.val, sub, putc, scB, scL, oneB, conf, Ex.val.eqP, Ex.val.eqL, negV, mxV, mnV, ← wr_eq, wr_zero, wr_one, wr_m1, bst_lst, byteC, partsOK, putAll, appV, nilV, slV, sslV, optB, optNum, and_assoc, exists_and_left, exists_eq_left'], by simp [sx_skip, sx_ops, sx_seq, sx_cond, sx_block, sx_exit, sx_ret, sx_mcall, sx_mcallx, sx_mcallb, isPtrN, PV.pcs, sx_mcell, sx_mset, sx_mnset, elAt, setEl, inAt, elIn, setIn, isLst, cellsOf, sxl_nil, sxl_set, sxl_call, sxl_callv, sxl_g1, sxl_g2, sxl_g3, sxl_g4, OkS_true, GrdS_tt, GrdS_tf, GrdS_ft, GrdS_ff, CondS_t, CondS_f, then_n, then_e, then_r, blk_n, blk_e, blk_r, upd_app, Ex.ok, Ex.val, Opd.val, POp.dst, bin_int, binOK_int, bin_str, binOK_str, resOK, resV, RB.val, sub, putc, scB, scL, oneB, conf, Ex.val.eqP, Ex.val.eqL, negV, mxV, mnV, ← wr_eq, wr_zero, wr_one, wr_m1, bst_lst, byteC, partsOK, putAll, appV, nilV, slV, sslV, optB, optNum, and_assoc, exists_and_left, exists_eq_left'], hD, by show 0 + N ≤ N; omega⟩ ?_
    rintro m V ⟨acc, h3, h0, hd, hsz⟩
    simp [sx_skip, sx_ops, sx_seq, sx_cond, sx_block, sx_exit, sx_ret, sx_mcall, sx_mcallx, sx_mcallb, isPtrN, PV.pcs, sx_mcell, sx_mset, sx_mnset, elAt, setEl, inAt, elIn, setIn, isLst, cellsOf, sxl_nil, sxl_set, sxl_call, sxl_callv, sxl_g1, sxl_g2, sxl_g3, sxl_g4, OkS_true, GrdS_tt, GrdS_tf, GrdS_ft, GrdS_ff, CondS_t, CondS_f, then_n, then_e, then_r, blk_n, blk_e, blk_r, upd_app, Ex.ok, Ex.val, Opd.val, POp.dst, bin_int, binOK_int, bin_str, binOK_str, resOK, resV, RB.val, sub, putc, scB, scL, oneB, conf, Ex.val.eqP, Ex.val.eqL, negV, mxV, mnV, ← wr_eq, wr_zero, wr_one, wr_m1, bst_lst, byteC, partsOK, putAll, appV, nilV, slV, sslV, optB, optNum, and_assoc, exists_and_left, exists_eq_left', h0, h3]
    refine CondS_d (fun hlt => ?_) (fun hge => ?_)
    · have hm0 : ¬ m = 0 := by omega
      have hmt : ((m : Int).tmod 10) = (m : Int) % 10 := Int.tmod_eq_emod_of_nonneg (by omega)
      have hmq : ((m : Int).tdiv 10) = (m : Int) / 10 := Int.tdiv_eq_ediv_of_nonneg (by omega)
      have hw1 : wr .i64 (48 + (m : Int) % 10) = 48 + (m : Int) % 10 := wr_in (by omega) (by omega)
      have hw2 : wr .u8 (48 + (m : Int) % 10) = 48 + (m : Int) % 10 := wr_u8 (by omega) (by omega)
      have hw3 : wr .i64 ((m : Int) / 10) = (m : Int) / 10 := wr_in (by omega) (by omega)
      rw [mtd, dif_neg hm0] at hd
      have hds : (dig1 m).size = 1 := rfl
      have hlt2 : m / 10 < m := by omega
      have htn : (48 + (m : Int) % 10).toNat = 48 + m % 10 := by omega
      have hdd : (⟨#[48 + UInt8.ofNat (m % 10)]⟩ : ByteArray) = dig1 m := by unfold dig1; rw [UInt8.ofNat_add]; rfl
      repeat' (first | intro _ | (simp [sx_skip, sx_ops, sx_seq, sx_cond, sx_block, sx_exit, sx_ret, sx_mcall, sx_mcallx, sx_mcallb, isPtrN, PV.pcs, sx_mcell, sx_mset, sx_mnset, elAt, setEl, inAt, elIn, setIn, isLst, cellsOf, sxl_nil, sxl_set, sxl_call, sxl_callv, sxl_g1, sxl_g2, sxl_g3, sxl_g4, OkS_true, GrdS_tt, GrdS_tf, GrdS_ft, GrdS_ff, CondS_t, CondS_f, then_n, then_e, then_r, blk_n, blk_e, blk_r, upd_app, Ex.ok, Ex.val, Opd.val, POp.dst, bin_int, binOK_int, bin_str, binOK_str, resOK, resV, RB.val, sub, putc, scB, scL, oneB, conf, Ex.val.eqP, Ex.val.eqL, negV, mxV, mnV, ← wr_eq, wr_zero, wr_one, wr_m1, bst_lst, byteC, partsOK, putAll, appV, nilV, slV, sslV, optB, optNum, and_assoc, exists_and_left, exists_eq_left', *]) | refine CondS_d (fun h => ?_) (fun h => ?_) | refine CondS_b (fun h => ?_) (fun h => ?_) | refine GrdS_d (fun h => ?_) (fun h => ?_) | refine GrdS_b (fun h => ?_) (fun h => ?_) | refine OkS_i (by omega) ?_ | fail)
      refine OkS_i ⟨[_], rfl⟩ ?_
      repeat' (first | intro _ | (simp [sx_skip, sx_ops, sx_seq, sx_cond, sx_block, sx_exit, sx_ret, sx_mcall, sx_mcallx, sx_mcallb, isPtrN, PV.pcs, sx_mcell, sx_mset, sx_mnset, elAt, setEl, inAt, elIn, setIn, isLst, cellsOf, sxl_nil, sxl_set, sxl_call, sxl_callv, sxl_g1, sxl_g2, sxl_g3, sxl_g4, OkS_true, GrdS_tt, GrdS_tf, GrdS_ft, GrdS_ff, CondS_t, CondS_f, then_n, then_e, then_r, blk_n, blk_e, blk_r, upd_app, Ex.ok, Ex.val, Opd.val, POp.dst, bin_int, binOK_int, bin_str, binOK_str, resOK, resV, RB.val, sub, putc, scB, scL, oneB, conf, Ex.val.eqP, Ex.val.eqL, negV, mxV, mnV, ← wr_eq, wr_zero, wr_one, wr_m1, bst_lst, byteC, partsOK, putAll, appV, nilV, slV, sslV, optB, optNum, and_assoc, exists_and_left, exists_eq_left', *]) | refine CondS_d (fun h => ?_) (fun h => ?_) | refine CondS_b (fun h => ?_) (fun h => ?_) | refine GrdS_d (fun h => ?_) (fun h => ?_) | refine GrdS_b (fun h => ?_) (fun h => ?_) | refine OkS_i (by omega) ?_ | fail)
      refine ⟨m / 10, hlt2, by omega, hd, ?_⟩
      omega
    · have : m = 0 := by omega
      subst this
      rw [mtd, dif_pos rfl] at hd
      subst hd
      have hb1 : (bs [109]).size = 1 := rfl
      repeat' (first | intro _ | (simp [sx_skip, sx_ops, sx_seq, sx_cond, sx_block, sx_exit, sx_ret, sx_mcall, sx_mcallx, sx_mcallb, isPtrN, PV.pcs, sx_mcell, sx_mset, sx_mnset, elAt, setEl, inAt, elIn, setIn, isLst, cellsOf, sxl_nil, sxl_set, sxl_call, sxl_callv, sxl_g1, sxl_g2, sxl_g3, sxl_g4, OkS_true, GrdS_tt, GrdS_tf, GrdS_ft, GrdS_ff, CondS_t, CondS_f, then_n, then_e, then_r, blk_n, blk_e, blk_r, upd_app, Ex.ok, Ex.val, Opd.val, POp.dst, bin_int, binOK_int, bin_str, binOK_str, resOK, resV, RB.val, sub, putc, scB, scL, oneB, conf, Ex.val.eqP, Ex.val.eqL, negV, mxV, mnV, ← wr_eq, wr_zero, wr_one, wr_m1, bst_lst, byteC, partsOK, putAll, appV, nilV, slV, sslV, optB, optNum, and_assoc, exists_and_left, exists_eq_left', *]) | refine CondS_d (fun h => ?_) (fun h => ?_) | refine CondS_b (fun h => ?_) (fun h => ?_) | refine GrdS_d (fun h => ?_) (fun h => ?_) | refine GrdS_b (fun h => ?_) (fun h => ?_) | refine OkS_i (by omega) ?_ | fail)
      all_goals (rw [hb1]; omega)
/-- a list that is new as far as n, and old behind -/
def mix (a b : List (List PV)) (n : Nat) : List (List PV) := a.take n ++ b.drop n
theorem mix_zero {a b : List (List PV)} : mix a b 0 = b := rfl
theorem mix_full {a b : List (List PV)} (h : a.length = b.length) : mix a b b.length = a := by unfold mix; rw [← h, List.take_length, h, List.drop_length, List.append_nil]
theorem mix_len {a b : List (List PV)} {n : Nat} (h : a.length = b.length) : (mix a b n).length = b.length := by unfold mix; simp; omega
theorem mix_at {a b : List (List PV)} {n : Nat} (h : a.length = b.length) (hn : n < b.length) : (mix a b n)[n]? = some b[n] := by
  unfold mix
  rw [List.getElem?_append_right (by simp; omega), List.getElem?_drop]
  have : n + (n - (a.take n).length) = n := by simp; omega
  rw [this, List.getElem?_eq_getElem hn]
theorem get_of {α : Type} {l : List α} {n : Nat} {x : α} (h : l[n]? = some x) : ∃ hn : n < l.length, l[n] = x := by
  have hn : n < l.length := by
    rcases Nat.lt_or_ge n l.length with h1 | h1
    · exact h1
    · rw [List.getElem?_eq_none h1] at h; cases h
  exact ⟨hn, by rw [List.getElem?_eq_getElem hn] at h; exact Option.some.inj h⟩
theorem mix_set {a b : List (List PV)} {n : Nat} (h : a.length = b.length) (hn : n < b.length) {e : List PV} (he : a[n]? = some e) : (mix a b n).set n e = mix a b (n + 1) := by
  unfold mix
  rw [List.set_append_right _ _ (by simp; omega)]
  have e1 : n - (a.take n).length = 0 := by simp; omega
  rw [e1, List.drop_eq_getElem_cons hn, List.set_cons_zero, List.take_add_one, he]
  simp
def mkInt (k : Int) (j : Nat) : List PV := [i (k + j)]
def mkPt (k : Int) (j : Nat) : Pt := ⟨k + 2 * j, k + 2 * j + 1⟩
theorem f75 (l : List Pt) (nl : Bool) (k : Int) (hnl : nl = true → l = []) (hk0 : 0 ≤ k) (hk : k + 2 * l.length ≤ 1000000000000) :
    FnM Try.prog 75 [.lst 2 nl (l.map cp), i k] (i (k + 2 * l.length)) (.lst 2 nl ((upTo (mkPt k) l.length).map cp)) := by
  obtain ⟨b, hb⟩ : ∃ b : List (List PV), l.map cp = b := ⟨_, rfl⟩
  have hbl : b.length = l.length := by rw [← hb]; simp
  obtain ⟨a, ha⟩ : ∃ a, (upTo (mkPt k) l.length).map cp = a := ⟨_, rfl⟩
  have hal : a.length = b.length := by rw [← ha, List.length_map, upTo_length, hbl]
  rw [ha, hb]
  refine FnM.by_sx hX (by kernel_rfl) c75 rfl rfl ?_
  simp [i75, sx_skip, sx_ops, sx_seq, sx_cond, sx_block, sx_exit, sx_ret, sx_mcall, sx_mcallx, sx_mcallb, isPtrN, PV.pcs, sx_mcell, sx_mset, sx_mnset, elAt, setEl, inAt, elIn, setIn, isLst, cellsOf, sxl_nil, sxl_set, sxl_call, sxl_callv, sxl_g1, sxl_g2, sxl_g3, sxl_g4, OkS_true, GrdS_tt, GrdS_tf, GrdS_ft, GrdS_ff, CondS_t, CondS_f, then_n, then_e, then_r, blk_n, blk_e, blk_r, upd_app, Ex.ok, Ex.val, Opd.val, POp.dst, bin_int, binOK_int, bin_str, binOK_str, resOK, resV, RB.val, sub, putc, scB, scL, oneB, conf, Ex.val.eqP, Ex.val.eqL, negV, mxV, mnV, ← wr_eq, wr_zero, wr_one, wr_m1, bst_lst, byteC, partsOK, putAll, appV, nilV, slV, sslV, optB, optNum, and_assoc, exists_and_left, exists_eq_left']
  refine sx_count l.length (fun n V => V 0 = .lst 2 nl (mix a b n) ∧ V 5 = i n ∧ V 1 = i (k + 2 * n)) 0 (by omega) (by simp [sx_skip, sx_ops, sx_seq, sx_cond, sx_block, sx_exit, sx_ret, sx_mcall, sx_mcallx, sx_mcallb, isPtrN, PV.pcs, sx_mcell, sx_mset, sx_mnset, elAt, setEl, inAt, elIn, setIn, isLst, cellsOf, sxl_nil, sxl_set, sxl_call, sxl_callv, sxl_g1, sxl_g2, sxl_g3, sxl_g4, OkS_true, GrdS_tt, GrdS_tf, GrdS_ft, GrdS_ff, CondS_t, CondS_f, then_n, then_e, then_r, blk_n, blk_e, blk_r, upd_app, Ex.ok, Ex.val, Opd.val, POp.dst, bin_int, binOK_int, bin_str, binOK_str, resOK, resV, RB.val, sub, putc, scB, scL, oneB, conf, Ex.val.eqP, Ex.val.eqL, negV, mxV, mnV, ← wr_eq, wr_zero, wr_one, wr_m1, bst_lst, byteC, partsOK, putAll, appV, nilV, slV, sslV, optB, optNum, and_assoc, exists_and_left, exists_eq_left', mix_zero]) ?_
  rintro n V hn ⟨h0, h5, h1⟩
  have hml := mix_len (n := n) hal
  rw [hbl] at hml
  simp [sx_skip, sx_ops, sx_seq, sx_cond, sx_block, sx_exit, sx_ret, sx_mcall, sx_mcallx, sx_mcallb, isPtrN, PV.pcs, sx_mcell, sx_mset, sx_mnset, elAt, setEl, inAt, elIn, setIn, isLst, cellsOf, sxl_nil, sxl_set, sxl_call, sxl_callv, sxl_g1, sxl_g2, sxl_g3, sxl_g4, OkS_true, GrdS_tt, GrdS_tf, GrdS_ft, GrdS_ff, CondS_t, CondS_f, then_n, then_e, then_r, blk_n, blk_e, blk_r, upd_app, Ex.ok, Ex.val, Opd.val, POp.dst, bin_int, binOK_int, bin_str, binOK_str, resOK, resV, RB.val, sub, putc, scB, scL, oneB, conf, Ex.val.eqP, Ex.val.eqL, negV, mxV, mnV, ← wr_eq, wr_zero, wr_one, wr_m1, bst_lst, byteC, partsOK, putAll, appV, nilV, slV, sslV, optB, optNum, and_assoc, exists_and_left, exists_eq_left', h0, h5]
  refine CondS_d (fun hlt => ?_) (fun hge => ?_)
  · have hlt' : n < l.length := by omega
    have hnb : n < b.length := by omega
    have hf : nl = false := by cases nl with | false => rfl | true => rw [hnl rfl] at hlt'; simp at hlt'
    subst hf
    have hw : wr .i64 ((n : Int) + 1) = n + 1 := wr_in (by omega) (by omega)
    have hw2 : wr .i64 (k + 2 * n + 1) = k + 2 * n + 1 := wr_in (by omega) (by omega)
    have hw3 : wr .i64 (k + 2 * n + 1 + 1) = k + 2 * (n + 1) := by rw [wr_in (by omega) (by omega)]; omega
    have hat : (mix a b n)[n]? = some [i l[n].f0, i l[n].f1] := by rw [mix_at hal hnb]; subst hb; simp [cp]
    obtain ⟨hlm, hat'⟩ := get_of hat
    have hst : (mix a b n).set n [i (k + 2 * n), i (k + 2 * n + 1)] = mix a b (n + 1) := mix_set hal hnb (by rw [← ha, List.getElem?_map, upTo_get hlt']; rfl)
    repeat' (first | intro _ | (simp [sx_skip, sx_ops, sx_seq, sx_cond, sx_block, sx_exit, sx_ret, sx_mcall, sx_mcallx, sx_mcallb, isPtrN, PV.pcs, sx_mcell, sx_mset, sx_mnset, elAt, setEl, inAt, elIn, setIn, isLst, cellsOf, sxl_nil, sxl_set, sxl_call, sxl_callv, sxl_g1, sxl_g2, sxl_g3, sxl_g4, OkS_true, GrdS_tt, GrdS_tf, GrdS_ft, GrdS_ff, CondS_t, CondS_f, then_n, then_e, then_r, blk_n, blk_e, blk_r, upd_app, Ex.ok, Ex.val, Opd.val, POp.dst, bin_int, binOK_int, bin_str, binOK_str, resOK, resV, RB.val, sub, putc, scB, scL, oneB, conf, Ex.val.eqP, Ex.val.eqL, negV, mxV, mnV, ← wr_eq, wr_zero, wr_one, wr_m1, bst_lst, byteC, partsOK, putAll, appV, nilV, slV, sslV, optB, optNum, and_assoc, exists_and_left, exists_eq_left', *]) | refine CondS_d (fun h => ?_) (fun h => ?_) | refine CondS_b (fun h => ?_) (fun h => ?_) | refine GrdS_d (fun h => ?_) (fun h => ?_) | refine GrdS_b (fun h => ?_) (fun h => ?_) | refine OkS_i (by omega) ?_ | fail)
  · have : n = l.length := by omega
    subst this
    have hfu := mix_full hal
    rw [hbl] at hfu
    repeat' (first | intro _ | (simp [sx_skip, sx_ops, sx_seq, sx_cond, sx_block, sx_exit, sx_ret, sx_mcall, sx_mcallx, sx_mcallb, isPtrN, PV.pcs, sx_mcell, sx_mset, sx_mnset, elAt, setEl, inAt, elIn, setIn, isLst, cellsOf, sxl_nil, sxl_set, sxl_call, sxl_callv, sxl_g1, sxl_g2, sxl_g3, sxl_g4, OkS_true, GrdS_tt, GrdS_tf, GrdS_ft, GrdS_ff, CondS_t, CondS_f, then_n, then_e, then_r, blk_n, blk_e, blk_r, upd_app, Ex.ok, Ex.val, Opd.val, POp.dst, bin_int, binOK_int, bin_str, binOK_str, resOK, resV, RB.val, sub, putc, scB, scL, oneB, conf, Ex.val.eqP, Ex.val.eqL, negV, mxV, mnV, ← wr_eq, wr_zero, wr_one, wr_m1, bst_lst, byteC, partsOK, putAll, appV, nilV, slV, sslV, optB, optNum, and_assoc, exists_and_left, exists_eq_left', *]) | refine CondS_d (fun h => ?_) (fun h => ?_) | refine CondS_b (fun h => ?_) (fun h => ?_) | refine GrdS_d (fun h => ?_) (fun h => ?_) | refine GrdS_b (fun h => ?_) (fun h => ?_) | refine OkS_i (by omega) ?_ | fail)
end Go.Eng
namespace Go.Eng
open Go Go.Proofs Geo
set_option linter.unusedSimpArgs false
set_option linter.unusedVariables false
set_option maxRecDepth 20000
set_option maxHeartbeats 1000000

/-! marks of features. WRITES -/
def kTo (l : List Ft) (k : Int) : Nat → Int
  | 0 => k
  | n + 1 => kTo l k n + 4 + 2 * ((l.getD n ftD).f4.length : Nat)
def mkFt (k : Int) (x : Ft) : Ft := ⟨k, k + 1, k + 2, mt (k + 3), upTo (mkPt (k + 4)) x.f4.length, x.nl⟩
def mkFtAt (l : List Ft) (k : Int) (j : Nat) : Ft := mkFt (kTo l k j) (l.getD j ftD)
def Ft.nlok (x : Ft) : Prop := x.nl = true → x.f4 = []
theorem kTo_mono {l : List Ft} {k : Int} {n m : Nat} (h : n ≤ m) : kTo l k n ≤ kTo l k m := by
  induction m with
  | zero => obtain rfl : n = 0 := by omega
            exact Int.le_refl _
  | succ m ih =>
    rcases Nat.lt_or_ge m n with h1 | h1
    · obtain rfl : n = m + 1 := by omega
      exact Int.le_refl _
    · have := ih h1
      have h2 : kTo l k (m + 1) = kTo l k m + 4 + 2 * ((l.getD m ftD).f4.length : Nat) := rfl
      omega
theorem kTo_le (l : List Ft) : ∀ n : Nat, n ≤ l.length → ∀ k : Int, kTo l k n ≤ k + 4 * n + 2 * (wtToF l n : Nat)
  | 0, _, k => by simp [kTo]; omega
  | n + 1, hn, k => by
    have h1 := kTo_le l n (by omega) k
    have h2 := wtToF_succ (l := l) (n := n) (by omega)
    have h3 : wtF l[n] = l[n].f3.size + l[n].f4.length := rfl
    have h4 : kTo l k (n + 1) = kTo l k n + 4 + 2 * (l[n].f4.length : Nat) := by simp [kTo, show n < l.length by omega]
    omega
end Go.Eng
namespace Go.Eng
open Go Go.Proofs Geo
set_option linter.unusedSimpArgs false
set_option linter.unusedVariables false
set_option maxRecDepth 20000
set_option maxHeartbeats 1000000

/-! marks that are read again. WRITES -/
theorem f76 (N : Nat) (nl : Bool) (k : Int) (hk0 : 0 ≤ k) (hk : k + 2 * N ≤ 1000000000000) :
    Fn Try.prog 76 false [.lst 2 nl ((upTo (mkPt k) N).map cp), i k] (i (k + 2 * N)) := by
  obtain ⟨a, ha⟩ : ∃ a, (upTo (mkPt k) N).map cp = a := ⟨_, rfl⟩
  have hal : a.length = N := by rw [← ha, List.length_map, upTo_length]
  rw [ha]
  refine Fn.by_sx hX (by kernel_rfl) c76 (by kernel_rfl) (by rfl) ?_
  simp [i76, sx_skip, sx_ops, sx_seq, sx_cond, sx_block, sx_exit, sx_ret, sx_mcall, sx_mcallx, sx_mcallb, isPtrN, PV.pcs, sx_mcell, sx_mset, sx_mnset, elAt, setEl, inAt, elIn, setIn, isLst, cellsOf, sxl_nil, sxl_set, sxl_call, sxl_callv, sxl_g1, sxl_g2, sxl_g3, sxl_g4, OkS_true, GrdS_tt, GrdS_tf, GrdS_ft, GrdS_ff, CondS_t, CondS_f, then_n, then_e, then_r, blk_n, blk_e, blk_r, upd_app, Ex.ok, Ex.val, Opd.val, POp.dst, bin_int, binOK_int, bin_str, binOK_str, resOK, resV, RB.val, sub, putc, scB, scL, oneB, conf, Ex.val.eqP, Ex.val.eqL, negV, mxV, mnV, ← wr_eq, wr_zero, wr_one, wr_m1, bst_lst, byteC, partsOK, putAll, appV, nilV, slV, sslV, optB, optNum, and_assoc, exists_and_left, exists_eq_left']
  refine sx_count N (fun n V => V 0 = .lst 2 nl a ∧ V 5 = i n ∧ V 1 = i (k + 2 * n)) 0 (by omega) (by simp [sx_skip, sx_ops, sx_seq, sx_cond, sx_block, sx_exit, sx_ret, sx_mcall, sx_mcallx, sx_mcallb, isPtrN, PV.pcs, sx_mcell, sx_mset, sx_mnset, elAt, setEl, inAt, elIn, setIn, isLst, cellsOf, sxl_nil, sxl_set, sxl_call, sxl_callv, sxl_g1, sxl_g2, sxl_g3, sxl_g4, OkS_true, GrdS_tt, GrdS_tf, GrdS_ft, GrdS_ff, CondS_t, CondS_f, then_n, then_e, then_r, blk_n, blk_e, blk_r, upd_app, Ex.ok, Ex.val, Opd.val, POp.dst, bin_int, binOK_int, bin_str, binOK_str, resOK, resV, RB.val, sub, putc, scB, scL, oneB, conf, Ex.val.eqP, Ex.val.eqL, negV, mxV, mnV, ← wr_eq, wr_zero, wr_one, wr_m1, bst_lst, byteC, partsOK, putAll, appV, nilV, slV, sslV, optB, optNum, and_assoc, exists_and_left, exists_eq_left']) ?_
  rintro n V hn ⟨h0, h5, h1⟩
  simp [sx_skip, sx_ops, sx_seq, sx_cond, sx_block, sx_exit, sx_ret, sx_mcall, sx_mcallx, sx_mcallb, isPtrN, PV.pcs, sx_mcell, sx_mset, sx_mnset, elAt, setEl, inAt, elIn, setIn, isLst, cellsOf, sxl_nil, sxl_set, sxl_call, sxl_callv, sxl_g1, sxl_g2, sxl_g3, sxl_g4, OkS_true, GrdS_tt, GrdS_tf, GrdS_ft, GrdS_ff, CondS_t, CondS_f, then_n, then_e, then_r, blk_n, blk_e, blk_r, upd_app, Ex.ok, Ex.val, Opd.val, POp.dst, bin_int, binOK_int, bin_str, binOK_str, resOK, resV, RB.val, sub, putc, scB, scL, oneB, conf, Ex.val.eqP, Ex.val.eqL, negV, mxV, mnV, ← wr_eq, wr_zero, wr_one, wr_m1, bst_lst, byteC, partsOK, putAll, appV, nilV, slV, sslV, optB, optNum, and_assoc, exists_and_left, exists_eq_left', h0, h5]
  refine CondS_d (fun hlt => ?_) (fun hge => ?_)
  · have hlt' : n < N := by omega
    have hw : wr .i64 ((n : Int) + 1) = n + 1 := wr_in (by omega) (by omega)
    have hw2 : wr .i64 (k + 2 * n + 1) = k + 2 * n + 1 := wr_in (by omega) (by omega)
    have hw3 : wr .i64 (k + 2 * n + 1 + 1) = k + 2 * (n + 1) := by rw [wr_in (by omega) (by omega)]; omega
    have hat : a[n]? = some [i (k + 2 * n), i (k + 2 * n + 1)] := by rw [← ha, List.getElem?_map, upTo_get hlt']; rfl
    obtain ⟨hlm, hat'⟩ := get_of hat
    repeat' (first | intro _ | (simp [sx_skip, sx_ops, sx_seq, sx_cond, sx_block, sx_exit, sx_ret, sx_mcall, sx_mcallx, sx_mcallb, isPtrN, PV.pcs, sx_mcell, sx_mset, sx_mnset, elAt, setEl, inAt, elIn, setIn, isLst, cellsOf, sxl_nil, sxl_set, sxl_call, sxl_callv, sxl_g1, sxl_g2, sxl_g3, sxl_g4, OkS_true, GrdS_tt, GrdS_tf, GrdS_ft, GrdS_ff, CondS_t, CondS_f, then_n, then_e, then_r, blk_n, blk_e, blk_r, upd_app, Ex.ok, Ex.val, Opd.val, POp.dst, bin_int, binOK_int, bin_str, binOK_str, resOK, resV, RB.val, sub, putc, scB, scL, oneB, conf, Ex.val.eqP, Ex.val.eqL, negV, mxV, mnV, ← wr_eq, wr_zero, wr_one, wr_m1, bst_lst, byteC, partsOK, putAll, appV, nilV, slV, sslV, optB, optNum, and_assoc, exists_and_left, exists_eq_left', *]) | refine CondS_d (fun h => ?_) (fun h => ?_) | refine CondS_b (fun h => ?_) (fun h => ?_) | refine GrdS_d (fun h => ?_) (fun h => ?_) | refine GrdS_b (fun h => ?_) (fun h => ?_) | refine OkS_i (by omega) ?_ | fail)
  · have : n = N := by omega
    subst this
    repeat' (first | intro _ | (simp [sx_skip, sx_ops, sx_seq, sx_cond, sx_block, sx_exit, sx_ret, sx_mcall, sx_mcallx, sx_mcallb, isPtrN, PV.pcs, sx_mcell, sx_mset, sx_mnset, elAt, setEl, inAt, elIn, setIn, isLst, cellsOf, sxl_nil, sxl_set, sxl_call, sxl_callv, sxl_g1, sxl_g2, sxl_g3, sxl_g4, OkS_true, GrdS_tt, GrdS_tf, GrdS_ft, GrdS_ff, CondS_t, CondS_f, then_n, then_e, then_r, blk_n, blk_e, blk_r, upd_app, Ex.ok, Ex.val, Opd.val, POp.dst, bin_int, binOK_int, bin_str, binOK_str, resOK, resV, RB.val, sub, putc, scB, scL, oneB, conf, Ex.val.eqP, Ex.val.eqL, negV, mxV, mnV, ← wr_eq, wr_zero, wr_one, wr_m1, bst_lst, byteC, partsOK, putAll, appV, nilV, slV, sslV, optB, optNum, and_assoc, exists_and_left, exists_eq_left', *]) | refine CondS_d (fun h => ?_) (fun h => ?_) | refine CondS_b (fun h => ?_) (fun h => ?_) | refine GrdS_d (fun h => ?_) (fun h => ?_) | refine GrdS_b (fun h => ?_) (fun h => ?_) | refine OkS_i (by omega) ?_ | fail)
def kToE (l : List En) (k : Int) : Nat → Int
  | 0 => k
  | n + 1 => kToE l k n + 7 + 2 * ((l.getD n enD).f0.f4.length : Nat)
def mkEn (k : Int) (x : En) : En := ⟨mkFt k x.f0, k + 4 + 2 * (x.f0.f4.length : Nat), k + 5 + 2 * (x.f0.f4.length : Nat), decide ((k + 6 + 2 * (x.f0.f4.length : Nat)).tmod 3 = 0)⟩
def mkEnAt (l : List En) (k : Int) (j : Nat) : En := mkEn (kToE l k j) (l.getD j enD)
theorem kToE_mono {l : List En} {k : Int} {n m : Nat} (h : n ≤ m) : kToE l k n ≤ kToE l k m := by
  induction m with
  | zero => obtain rfl : n = 0 := by omega
            exact Int.le_refl _
  | succ m ih =>
    rcases Nat.lt_or_ge m n with h1 | h1
    · obtain rfl : n = m + 1 := by omega
      exact Int.le_refl _
    · have := ih h1
      have h2 : kToE l k (m + 1) = kToE l k m + 7 + 2 * ((l.getD m enD).f0.f4.length : Nat) := rfl
      omega
theorem f28 (l : List En) (nl : Bool) (k : Int) (hnl : nl = true → l = []) (hx : ∀ x ∈ l, x.f0.nlok) (hk0 : 0 ≤ k) (hl : l.length ≤ 1000000000) (hk : kToE l k l.length ≤ 1000000000) :
    FnM Try.prog 28 [.lst 8 nl (l.map en), i k] (i (kToE l k l.length)) (.lst 8 nl ((upTo (mkEnAt l k) l.length).map en)) := by
  obtain ⟨b, hb⟩ : ∃ b : List (List PV), l.map en = b := ⟨_, rfl⟩
  have hbl : b.length = l.length := by rw [← hb]; simp
  obtain ⟨a, ha⟩ : ∃ a, (upTo (mkEnAt l k) l.length).map en = a := ⟨_, rfl⟩
  have hal : a.length = b.length := by rw [← ha, List.length_map, upTo_length, hbl]
  rw [ha, hb]
  refine FnM.by_sx hX (by kernel_rfl) c28 rfl rfl ?_
  simp [i28, sx_skip, sx_ops, sx_seq, sx_cond, sx_block, sx_exit, sx_ret, sx_mcall, sx_mcallx, sx_mcallb, isPtrN, PV.pcs, sx_mcell, sx_mset, sx_mnset, elAt, setEl, inAt, elIn, setIn, isLst, cellsOf, sxl_nil, sxl_set, sxl_call, sxl_callv, sxl_g1, sxl_g2, sxl_g3, sxl_g4, OkS_true, GrdS_tt, GrdS_tf, GrdS_ft, GrdS_ff, CondS_t, CondS_f, then_n, then_e, then_r, blk_n, blk_e, blk_r, upd_app, Ex.ok, Ex.val, Opd.val, POp.dst, bin_int, binOK_int, bin_str, binOK_str, resOK, resV, RB.val, sub, putc, scB, scL, oneB, conf, Ex.val.eqP, Ex.val.eqL, negV, mxV, mnV, ← wr_eq, wr_zero, wr_one, wr_m1, bst_lst, byteC, partsOK, putAll, appV, nilV, slV, sslV, optB, optNum, and_assoc, exists_and_left, exists_eq_left']
  refine sx_count l.length (fun n V => V 0 = .lst 8 nl (mix a b n) ∧ V 5 = i n ∧ V 1 = i (kToE l k n)) 0 (by omega) (by simp [sx_skip, sx_ops, sx_seq, sx_cond, sx_block, sx_exit, sx_ret, sx_mcall, sx_mcallx, sx_mcallb, isPtrN, PV.pcs, sx_mcell, sx_mset, sx_mnset, elAt, setEl, inAt, elIn, setIn, isLst, cellsOf, sxl_nil, sxl_set, sxl_call, sxl_callv, sxl_g1, sxl_g2, sxl_g3, sxl_g4, OkS_true, GrdS_tt, GrdS_tf, GrdS_ft, GrdS_ff, CondS_t, CondS_f, then_n, then_e, then_r, blk_n, blk_e, blk_r, upd_app, Ex.ok, Ex.val, Opd.val, POp.dst, bin_int, binOK_int, bin_str, binOK_str, resOK, resV, RB.val, sub, putc, scB, scL, oneB, conf, Ex.val.eqP, Ex.val.eqL, negV, mxV, mnV, ← wr_eq, wr_zero, wr_one, wr_m1, bst_lst, byteC, partsOK, putAll, appV, nilV, slV, sslV, optB, optNum, and_assoc, exists_and_left, exists_eq_left', mix_zero, kToE]) ?_
  rintro n V hn ⟨h0, h5, h1⟩
  have hml := mix_len (n := n) hal
  rw [hbl] at hml
  simp [sx_skip, sx_ops, sx_seq, sx_cond, sx_block, sx_exit, sx_ret, sx_mcall, sx_mcallx, sx_mcallb, isPtrN, PV.pcs, sx_mcell, sx_mset, sx_mnset, elAt, setEl, inAt, elIn, setIn, isLst, cellsOf, sxl_nil, sxl_set, sxl_call, sxl_callv, sxl_g1, sxl_g2, sxl_g3, sxl_g4, OkS_true, GrdS_tt, GrdS_tf, GrdS_ft, GrdS_ff, CondS_t, CondS_f, then_n, then_e, then_r, blk_n, blk_e, blk_r, upd_app, Ex.ok, Ex.val, Opd.val, POp.dst, bin_int, binOK_int, bin_str, binOK_str, resOK, resV, RB.val, sub, putc, scB, scL, oneB, conf, Ex.val.eqP, Ex.val.eqL, negV, mxV, mnV, ← wr_eq, wr_zero, wr_one, wr_m1, bst_lst, byteC, partsOK, putAll, appV, nilV, slV, sslV, optB, optNum, and_assoc, exists_and_left, exists_eq_left', h0, h5]
  refine CondS_d (fun hlt => ?_) (fun hge => ?_)
  · have hlt' : n < l.length := by omega
    have hnb : n < b.length := by omega
    have hf : nl = false := by cases nl with | false => rfl | true => rw [hnl rfl] at hlt'; simp at hlt'
    subst hf
    have hm1 := kToE_mono (l := l) (k := k) (n := 0) (m := n) (by omega)
    have hm2 := kToE_mono (l := l) (k := k) (n := n + 1) (m := l.length) (by omega)
    have hks : kToE l k (n + 1) = kToE l k n + 7 + 2 * (l[n].f0.f4.length : Nat) := by simp [kToE, hlt']
    have hm1 : k ≤ kToE l k n := hm1
    have hmk : en (mkEnAt l k n) = [i (kToE l k n), i (kToE l k n + 1), i (kToE l k n + 2), .str (mt (kToE l k n + 3)), .lst 2 l[n].f0.nl ((upTo (mkPt (kToE l k n + 4)) l[n].f0.f4.length).map cp), i (kToE l k n + 4 + 2 * (l[n].f0.f4.length : Nat)), i (kToE l k n + 5 + 2 * (l[n].f0.f4.length : Nat)), .bool (decide ((kToE l k n + 6 + 2 * (l[n].f0.f4.length : Nat)).tmod 3 = 0))] := by unfold mkEnAt mkEn mkFt en; simp [hlt']
    obtain ⟨x, hxe⟩ : ∃ x, l[n] = x := ⟨_, rfl⟩
    have hxo := hx l[n] (List.getElem_mem ..)
    have hat : (mix a b n)[n]? = some [i x.f0.f0, i x.f0.f1, i x.f0.f2, .str x.f0.f3, .lst 2 x.f0.nl (x.f0.f4.map cp), i x.f1, i x.f2, .bool x.f3] := by rw [mix_at hal hnb]; subst hb; simp [en, hxe]
    rw [hxe] at hks hmk hxo
    obtain ⟨q, hq⟩ : ∃ q, kToE l k n = q := ⟨_, rfl⟩
    rw [hq] at hks hmk h1 hm1
    obtain ⟨q2, hq2⟩ : ∃ q2 : Int, q + 4 + 2 * (x.f0.f4.length : Nat) = q2 := ⟨_, rfl⟩
    have e5 : q + 5 + 2 * (x.f0.f4.length : Nat) = q2 + 1 := by omega
    have e6 : q + 6 + 2 * (x.f0.f4.length : Nat) = q2 + 2 := by omega
    rw [hq2, e5, e6] at hmk
    have hst : (mix a b n).set n [i q, i (q + 1), i (q + 2), .str (mt (q + 3)), .lst 2 x.f0.nl ((upTo (mkPt (q + 4)) x.f0.f4.length).map cp), i q2, i (q2 + 1), .bool (decide ((q2 + 2).tmod 3 = 0))] = mix a b (n + 1) := mix_set hal hnb (by rw [← ha, List.getElem?_map, upTo_get hlt', Option.map_some, hmk])
    obtain ⟨hlm, hat'⟩ := get_of hat
    have hw : wr .i64 ((n : Int) + 1) = n + 1 := wr_in (by omega) (by omega)
    have w1 : wr .i64 (q + 1) = q + 1 := wr_in (by omega) (by omega)
    have w2 : wr .i64 (q + 1 + 1) = q + 2 := by rw [wr_in (by omega) (by omega)]; omega
    have w3 : wr .i64 (q + 2 + 1) = q + 3 := by rw [wr_in (by omega) (by omega)]; omega
    have w4 : wr .i64 (q + 3 + 1) = q + 4 := by rw [wr_in (by omega) (by omega)]; omega
    have w5 : wr .i64 (q2 + 1) = q2 + 1 := wr_in (by omega) (by omega)
    have w6 : wr .i64 (q2 + 1 + 1) = q2 + 2 := by rw [wr_in (by omega) (by omega)]; omega
    have w7 : wr .i64 (q2 + 2 + 1) = kToE l k (n + 1) := by rw [wr_in (by omega) (by omega)]; omega
    have c1 := f92 (q + 3) (by omega)
    have c2 := f75 x.f0.f4 x.f0.nl (q + 4) hxo (by omega) (by omega)
    have hq2' : q + 4 + 2 * (x.f0.f4.length : Int) = q2 := hq2
    rw [hq2'] at c2
    obtain ⟨r3, hr3⟩ : ∃ r3, (q2 + 2).tmod 3 = r3 := ⟨_, rfl⟩
    rw [hr3] at hst
    clear hks hmk ha hb hq hq2 hq2' e5 e6
    repeat' (first | intro _ | (simp [sx_skip, sx_ops, sx_seq, sx_cond, sx_block, sx_exit, sx_ret, sx_mcall, sx_mcallx, sx_mcallb, isPtrN, PV.pcs, sx_mcell, sx_mset, sx_mnset, elAt, setEl, inAt, elIn, setIn, isLst, cellsOf, sxl_nil, sxl_set, sxl_call, sxl_callv, sxl_g1, sxl_g2, sxl_g3, sxl_g4, OkS_true, GrdS_tt, GrdS_tf, GrdS_ft, GrdS_ff, CondS_t, CondS_f, then_n, then_e, then_r, blk_n, blk_e, blk_r, upd_app, Ex.ok, Ex.val, Opd.val, POp.dst, bin_int, binOK_int, bin_str, binOK_str, resOK, resV, RB.val, sub, putc, scB, scL, oneB, conf, Ex.val.eqP, Ex.val.eqL, negV, mxV, mnV, ← wr_eq, wr_zero, wr_one, wr_m1, bst_lst, byteC, partsOK, putAll, appV, nilV, slV, sslV, optB, optNum, and_assoc, exists_and_left, exists_eq_left', cp, *]) | refine CallS_i (c1) ?_ | refine CallS_i (c2) ?_ | refine CallM_i (c1) ?_ | refine CallM_i (c2) ?_ | refine CallE_i (c1) ?_ | refine CallE_i (c2) ?_ | refine CallX_i (c1) ?_ | refine CallX_i (c2) ?_ | refine CallB_i (c1) ?_ | refine CallB_i (c2) ?_ | refine CondS_d (fun h => ?_) (fun h => ?_) | refine CondS_b (fun h => ?_) (fun h => ?_) | refine GrdS_d (fun h => ?_) (fun h => ?_) | refine GrdS_b (fun h => ?_) (fun h => ?_) | refine OkS_i (by omega) ?_ | fail)
  · have : n = l.length := by omega
    subst this
    have hfu := mix_full hal
    rw [hbl] at hfu
    repeat' (first | intro _ | (simp [sx_skip, sx_ops, sx_seq, sx_cond, sx_block, sx_exit, sx_ret, sx_mcall, sx_mcallx, sx_mcallb, isPtrN, PV.pcs, sx_mcell, sx_mset, sx_mnset, elAt, setEl, inAt, elIn, setIn, isLst, cellsOf, sxl_nil, sxl_set, sxl_call, sxl_callv, sxl_g1, sxl_g2, sxl_g3, sxl_g4, OkS_true, GrdS_tt, GrdS_tf, GrdS_ft, GrdS_ff, CondS_t, CondS_f, then_n, then_e, then_r, blk_n, blk_e, blk_r, upd_app, Ex.ok, Ex.val, Opd.val, POp.dst, bin_int, binOK_int, bin_str, binOK_str, resOK, resV, RB.val, sub, putc, scB, scL, oneB, conf, Ex.val.eqP, Ex.val.eqL, negV, mxV, mnV, ← wr_eq, wr_zero, wr_one, wr_m1, bst_lst, byteC, partsOK, putAll, appV, nilV, slV, sslV, optB, optNum, and_assoc, exists_and_left, exists_eq_left', *]) | refine CondS_d (fun h => ?_) (fun h => ?_) | refine CondS_b (fun h => ?_) (fun h => ?_) | refine GrdS_d (fun h => ?_) (fun h => ?_) | refine GrdS_b (fun h => ?_) (fun h => ?_) | refine OkS_i (by omega) ?_ | fail)
theorem kToE_le (l : List En) : ∀ n : Nat, n ≤ l.length → ∀ k : Int, kToE l k n ≤ k + 7 * n + 2 * (wtTo l n : Nat)
  | 0, _, k => by simp [kToE]; omega
  | n + 1, hn, k => by
    have h1 := kToE_le l n (by omega) k
    have h2 := wtTo_succ (l := l) (n := n) (by omega)
    have h3 : wtF l[n].f0 = l[n].f0.f3.size + l[n].f0.f4.length := rfl
    have h4 : kToE l k (n + 1) = kToE l k n + 7 + 2 * (l[n].f0.f4.length : Nat) := by simp [kToE, show n < l.length by omega]
    omega
end Go.Eng
namespace Go.Eng
open Go Go.Proofs Geo
set_option linter.unusedSimpArgs false
set_option linter.unusedVariables false
set_option maxRecDepth 20000
set_option maxHeartbeats 1000000

/-! the source of a log. WRITES -/
theorem cp_sc (l : List Pt) : ∀ cs ∈ l.map cp, scL cs = true := by
  intro cs hcs
  obtain ⟨p, _, rfl⟩ := List.mem_map.1 hcs
  rfl
theorem cp_sc2 (l : List Pt) : (∀ cs ∈ l.map cp, scL cs = true) = True := by simp only [eq_iff_iff, iff_true]; exact cp_sc l
theorem cp_sc3 (l : List Pt) : (∀ a ∈ l, scL (cp a) = true) = True := by simp only [eq_iff_iff, iff_true]; exact fun _ _ => rfl
theorem f112 (x : Ft) (hx : x.f4.length ≤ 1000000000) : Fn Try.prog 112 true [.agg (ft x)] (.agg (ft x.fr)) := by
  have hs := cp_sc3 x.f4
  unfold ft Ft.fr
  refine Fn.by_sx hX (by kernel_rfl) c112 (by kernel_rfl) (by rfl) ?_
  simp [i112, sx_skip, sx_ops, sx_seq, sx_cond, sx_block, sx_exit, sx_ret, sx_mcall, sx_mcallx, sx_mcallb, isPtrN, PV.pcs, sx_mcell, sx_mset, sx_mnset, elAt, setEl, inAt, elIn, setIn, isLst, cellsOf, sxl_nil, sxl_set, sxl_call, sxl_callv, sxl_g1, sxl_g2, sxl_g3, sxl_g4, OkS_true, GrdS_tt, GrdS_tf, GrdS_ft, GrdS_ff, CondS_t, CondS_f, then_n, then_e, then_r, blk_n, blk_e, blk_r, upd_app, Ex.ok, Ex.val, Opd.val, POp.dst, bin_int, binOK_int, bin_str, binOK_str, resOK, resV, RB.val, sub, putc, scB, scL, oneB, conf, Ex.val.eqP, Ex.val.eqL, negV, mxV, mnV, ← wr_eq, wr_zero, wr_one, wr_m1, bst_lst, byteC, partsOK, putAll, appV, nilV, slV, sslV, optB, optNum, and_assoc, exists_and_left, exists_eq_left']
  repeat' (first | intro _ | (simp [sx_skip, sx_ops, sx_seq, sx_cond, sx_block, sx_exit, sx_ret, sx_mcall, sx_mcallx, sx_mcallb, isPtrN, PV.pcs, sx_mcell, sx_mset, sx_mnset, elAt, setEl, inAt, elIn, setIn, isLst, cellsOf, sxl_nil, sxl_set, sxl_call, sxl_callv, sxl_g1, sxl_g2, sxl_g3, sxl_g4, OkS_true, GrdS_tt, GrdS_tf, GrdS_ft, GrdS_ff, CondS_t, CondS_f, then_n, then_e, then_r, blk_n, blk_e, blk_r, upd_app, Ex.ok, Ex.val, Opd.val, POp.dst, bin_int, binOK_int, bin_str, binOK_str, resOK, resV, RB.val, sub, putc, scB, scL, oneB, conf, Ex.val.eqP, Ex.val.eqL, negV, mxV, mnV, ← wr_eq, wr_zero, wr_one, wr_m1, bst_lst, byteC, partsOK, putAll, appV, nilV, slV, sslV, optB, optNum, and_assoc, exists_and_left, exists_eq_left', *]) | refine CondS_d (fun h => ?_) (fun h => ?_) | refine CondS_b (fun h => ?_) (fun h => ?_) | refine GrdS_d (fun h => ?_) (fun h => ?_) | refine GrdS_b (fun h => ?_) (fun h => ?_) | refine OkS_i (by omega) ?_ | fail)
  all_goals omega
theorem f140 (l : List Pt) (hl : l.length ≤ 1000000000) : Fn Try.prog 140 true [.lst 2 false (l.map cp)] (.lst 2 false (l.map cp)) := by
  have hs := cp_sc3 l
  refine Fn.by_sx hX (by kernel_rfl) c140 (by kernel_rfl) (by rfl) ?_
  simp [i140, sx_skip, sx_ops, sx_seq, sx_cond, sx_block, sx_exit, sx_ret, sx_mcall, sx_mcallx, sx_mcallb, isPtrN, PV.pcs, sx_mcell, sx_mset, sx_mnset, elAt, setEl, inAt, elIn, setIn, isLst, cellsOf, sxl_nil, sxl_set, sxl_call, sxl_callv, sxl_g1, sxl_g2, sxl_g3, sxl_g4, OkS_true, GrdS_tt, GrdS_tf, GrdS_ft, GrdS_ff, CondS_t, CondS_f, then_n, then_e, then_r, blk_n, blk_e, blk_r, upd_app, Ex.ok, Ex.val, Opd.val, POp.dst, bin_int, binOK_int, bin_str, binOK_str, resOK, resV, RB.val, sub, putc, scB, scL, oneB, conf, Ex.val.eqP, Ex.val.eqL, negV, mxV, mnV, ← wr_eq, wr_zero, wr_one, wr_m1, bst_lst, byteC, partsOK, putAll, appV, nilV, slV, sslV, optB, optNum, and_assoc, exists_and_left, exists_eq_left']
  repeat' (first | intro _ | (simp [sx_skip, sx_ops, sx_seq, sx_cond, sx_block, sx_exit, sx_ret, sx_mcall, sx_mcallx, sx_mcallb, isPtrN, PV.pcs, sx_mcell, sx_mset, sx_mnset, elAt, setEl, inAt, elIn, setIn, isLst, cellsOf, sxl_nil, sxl_set, sxl_call, sxl_callv, sxl_g1, sxl_g2, sxl_g3, sxl_g4, OkS_true, GrdS_tt, GrdS_tf, GrdS_ft, GrdS_ff, CondS_t, CondS_f, then_n, then_e, then_r, blk_n, blk_e, blk_r, upd_app, Ex.ok, Ex.val, Opd.val, POp.dst, bin_int, binOK_int, bin_str, binOK_str, resOK, resV, RB.val, sub, putc, scB, scL, oneB, conf, Ex.val.eqP, Ex.val.eqL, negV, mxV, mnV, ← wr_eq, wr_zero, wr_one, wr_m1, bst_lst, byteC, partsOK, putAll, appV, nilV, slV, sslV, optB, optNum, and_assoc, exists_and_left, exists_eq_left', *]) | refine CondS_d (fun h => ?_) (fun h => ?_) | refine CondS_b (fun h => ?_) (fun h => ?_) | refine GrdS_d (fun h => ?_) (fun h => ?_) | refine GrdS_b (fun h => ?_) (fun h => ?_) | refine OkS_i (by omega) ?_ | fail)
  all_goals omega
theorem f90 (x : Ft) (hn : x.nl = false) (hx : x.f4.length ≤ 1000000000) : Fn Try.prog 90 true [.agg (ft x)] (.agg (ft x.fr)) := by
  have hc := f140 x.f4 hx
  unfold ft Ft.fr
  rw [hn]
  refine Fn.by_sx hX (by kernel_rfl) c90 (by kernel_rfl) (by rfl) ?_
  simp [i90, sx_skip, sx_ops, sx_seq, sx_cond, sx_block, sx_exit, sx_ret, sx_mcall, sx_mcallx, sx_mcallb, isPtrN, PV.pcs, sx_mcell, sx_mset, sx_mnset, elAt, setEl, inAt, elIn, setIn, isLst, cellsOf, sxl_nil, sxl_set, sxl_call, sxl_callv, sxl_g1, sxl_g2, sxl_g3, sxl_g4, OkS_true, GrdS_tt, GrdS_tf, GrdS_ft, GrdS_ff, CondS_t, CondS_f, then_n, then_e, then_r, blk_n, blk_e, blk_r, upd_app, Ex.ok, Ex.val, Opd.val, POp.dst, bin_int, binOK_int, bin_str, binOK_str, resOK, resV, RB.val, sub, putc, scB, scL, oneB, conf, Ex.val.eqP, Ex.val.eqL, negV, mxV, mnV, ← wr_eq, wr_zero, wr_one, wr_m1, bst_lst, byteC, partsOK, putAll, appV, nilV, slV, sslV, optB, optNum, and_assoc, exists_and_left, exists_eq_left']
  repeat' (first | intro _ | (simp [sx_skip, sx_ops, sx_seq, sx_cond, sx_block, sx_exit, sx_ret, sx_mcall, sx_mcallx, sx_mcallb, isPtrN, PV.pcs, sx_mcell, sx_mset, sx_mnset, elAt, setEl, inAt, elIn, setIn, isLst, cellsOf, sxl_nil, sxl_set, sxl_call, sxl_callv, sxl_g1, sxl_g2, sxl_g3, sxl_g4, OkS_true, GrdS_tt, GrdS_tf, GrdS_ft, GrdS_ff, CondS_t, CondS_f, then_n, then_e, then_r, blk_n, blk_e, blk_r, upd_app, Ex.ok, Ex.val, Opd.val, POp.dst, bin_int, binOK_int, bin_str, binOK_str, resOK, resV, RB.val, sub, putc, scB, scL, oneB, conf, Ex.val.eqP, Ex.val.eqL, negV, mxV, mnV, ← wr_eq, wr_zero, wr_one, wr_m1, bst_lst, byteC, partsOK, putAll, appV, nilV, slV, sslV, optB, optNum, and_assoc, exists_and_left, exists_eq_left', *]) | refine CallS_i (hc) ?_ | refine CallM_i (hc) ?_ | refine CallE_i (hc) ?_ | refine CallX_i (hc) ?_ | refine CallB_i (hc) ?_ | refine CondS_d (fun h => ?_) (fun h => ?_) | refine CondS_b (fun h => ?_) (fun h => ?_) | refine GrdS_d (fun h => ?_) (fun h => ?_) | refine GrdS_b (fun h => ?_) (fun h => ?_) | refine OkS_i (by omega) ?_ | fail)
def soTo (l : List En) : Nat → List Ft
  | 0 => []
  | n + 1 => soTo l n ++ (if (l.getD n enD).f3 = true then [] else [(l.getD n enD).f0.fr])
def soOf (l : List En) : List Ft := if wLog l = true then soTo l l.length else []
theorem wLog_len {l : List En} (h : wLog l = true) : l.length ≤ 16 := by unfold wLog at h; simp at h; exact h.1
theorem soTo_len (l : List En) (n : Nat) : (soTo l n).length ≤ n := by
  induction n with
  | zero => simp [soTo]
  | succ n ih => unfold soTo; rw [List.length_append]; split <;> simp <;> omega
theorem soTo_mem {l : List En} : ∀ n : Nat, ∀ y ∈ soTo l n, y.nl = false ∧ ∃ x : En, (x ∈ l ∨ x = enD) ∧ y.f4 = x.f0.f4
  | 0, y, h => by simp [soTo] at h
  | n + 1, y, h => by
    unfold soTo at h
    rcases List.mem_append.1 h with h | h
    · exact soTo_mem n y h
    · split at h
      · cases h
      · simp only [List.mem_singleton] at h
        subst h
        refine ⟨rfl, l.getD n enD, ?_, rfl⟩
        rcases Nat.lt_or_ge n l.length with h1 | h1
        · left; simp [h1]
        · right; simp [h1]
theorem frE_small {l r : List En} (hr : l.map En.fr = r) (hm : ∀ x ∈ l, x.f0.f3.size ≤ 1048576 ∧ x.f0.f4.length ≤ 1048576) : ∀ x ∈ r, (x.f0.f3.size ≤ 1048576 ∧ x.f0.f4.length ≤ 1048576) ∧ x.f0.nl = false := by
  intro x hx
  rw [← hr] at hx
  obtain ⟨y, hy, rfl⟩ := List.mem_map.1 hx
  exact ⟨hm y hy, rfl⟩
theorem frE_k {l r : List En} (hr : l.map En.fr = r) (hb : wtL l ≤ 1048576) : kToE r 1 r.length ≤ 1000000000 := by
  have h1 := kToE_le r r.length (Nat.le_refl _) 1
  have h2 : wtTo r r.length = wtTo l l.length := by
    rw [← hr]
    unfold wtTo
    rw [List.take_of_length_le (by simp), List.take_of_length_le (Nat.le_refl _), List.map_map]
    rfl
  have h3 : r.length = l.length := by rw [← hr, List.length_map]
  unfold wtL at hb
  omega
theorem kTo_ge {l : List Ft} {B : Nat} (h : ∀ x ∈ l, x.f4.length ≤ B) : ∀ n : Nat, n ≤ l.length → ∀ k : Int, kTo l k n ≤ k + n * (4 + 2 * (B : Int))
  | 0, _, k => by simp [kTo]
  | n + 1, hn, k => by
    have h1 := kTo_ge h n (by omega) k
    have h2 : kTo l k (n + 1) = kTo l k n + 4 + 2 * (l[n].f4.length : Nat) := by simp [kTo, show n < l.length by omega]
    have h3 := h l[n] (List.getElem_mem ..)
    have h4 : ((n + 1 : Nat) : Int) * (4 + 2 * (B : Int)) = n * (4 + 2 * (B : Int)) + (4 + 2 * (B : Int)) := by rw [Int.natCast_add, Int.add_mul]; omega
    rw [h4, h2]; omega
end Go.Eng
namespace Go.Eng
open Go Go.Proofs Geo
set_option linter.unusedSimpArgs false
set_option linter.unusedVariables false
set_option maxRecDepth 20000
set_option maxHeartbeats 1000000

/-! logs are copied; newer entries. WRITES -/
def wNew (x y : En) : Bool := decide (x.f1 > y.f1) || (decide (x.f1 = y.f1) && decide (x.f2 > y.f2))
theorem f86 (x y : En) : Fn Try.prog 86 false [.agg (en x), .agg (en y)] (.bool (wNew x y)) := by
  unfold en
  refine Fn.by_sx hX (by kernel_rfl) c86 (by kernel_rfl) (by rfl) ?_
  simp [i86, sx_skip, sx_ops, sx_seq, sx_cond, sx_block, sx_exit, sx_ret, sx_mcall, sx_mcallx, sx_mcallb, isPtrN, PV.pcs, sx_mcell, sx_mset, sx_mnset, elAt, setEl, inAt, elIn, setIn, isLst, cellsOf, sxl_nil, sxl_set, sxl_call, sxl_callv, sxl_g1, sxl_g2, sxl_g3, sxl_g4, OkS_true, GrdS_tt, GrdS_tf, GrdS_ft, GrdS_ff, CondS_t, CondS_f, then_n, then_e, then_r, blk_n, blk_e, blk_r, upd_app, Ex.ok, Ex.val, Opd.val, POp.dst, bin_int, binOK_int, bin_str, binOK_str, resOK, resV, RB.val, sub, putc, scB, scL, oneB, conf, Ex.val.eqP, Ex.val.eqL, negV, mxV, mnV, ← wr_eq, wr_zero, wr_one, wr_m1, bst_lst, byteC, partsOK, putAll, appV, nilV, slV, sslV, optB, optNum, and_assoc, exists_and_left, exists_eq_left']
  repeat' (first | intro _ | (simp [sx_skip, sx_ops, sx_seq, sx_cond, sx_block, sx_exit, sx_ret, sx_mcall, sx_mcallx, sx_mcallb, isPtrN, PV.pcs, sx_mcell, sx_mset, sx_mnset, elAt, setEl, inAt, elIn, setIn, isLst, cellsOf, sxl_nil, sxl_set, sxl_call, sxl_callv, sxl_g1, sxl_g2, sxl_g3, sxl_g4, OkS_true, GrdS_tt, GrdS_tf, GrdS_ft, GrdS_ff, CondS_t, CondS_f, then_n, then_e, then_r, blk_n, blk_e, blk_r, upd_app, Ex.ok, Ex.val, Opd.val, POp.dst, bin_int, binOK_int, bin_str, binOK_str, resOK, resV, RB.val, sub, putc, scB, scL, oneB, conf, Ex.val.eqP, Ex.val.eqL, negV, mxV, mnV, ← wr_eq, wr_zero, wr_one, wr_m1, bst_lst, byteC, partsOK, putAll, appV, nilV, slV, sslV, optB, optNum, and_assoc, exists_and_left, exists_eq_left', *]) | refine CondS_d (fun h => ?_) (fun h => ?_) | refine CondS_b (fun h => ?_) (fun h => ?_) | refine GrdS_d (fun h => ?_) (fun h => ?_) | refine GrdS_b (fun h => ?_) (fun h => ?_) | refine OkS_i (by omega) ?_ | fail)
  all_goals simp_all [wNew]
theorem f38 (x y : En) : Fn Try.prog 38 false [.agg (en x), .agg (en y)] (.bool (wNew x y)) := by
  unfold en
  refine Fn.by_sx hX (by kernel_rfl) c38 (by kernel_rfl) (by rfl) ?_
  simp [i38, sx_skip, sx_ops, sx_seq, sx_cond, sx_block, sx_exit, sx_ret, sx_mcall, sx_mcallx, sx_mcallb, isPtrN, PV.pcs, sx_mcell, sx_mset, sx_mnset, elAt, setEl, inAt, elIn, setIn, isLst, cellsOf, sxl_nil, sxl_set, sxl_call, sxl_callv, sxl_g1, sxl_g2, sxl_g3, sxl_g4, OkS_true, GrdS_tt, GrdS_tf, GrdS_ft, GrdS_ff, CondS_t, CondS_f, then_n, then_e, then_r, blk_n, blk_e, blk_r, upd_app, Ex.ok, Ex.val, Opd.val, POp.dst, bin_int, binOK_int, bin_str, binOK_str, resOK, resV, RB.val, sub, putc, scB, scL, oneB, conf, Ex.val.eqP, Ex.val.eqL, negV, mxV, mnV, ← wr_eq, wr_zero, wr_one, wr_m1, bst_lst, byteC, partsOK, putAll, appV, nilV, slV, sslV, optB, optNum, and_assoc, exists_and_left, exists_eq_left']
  repeat' (first | intro _ | (simp [sx_skip, sx_ops, sx_seq, sx_cond, sx_block, sx_exit, sx_ret, sx_mcall, sx_mcallx, sx_mcallb, isPtrN, PV.pcs, sx_mcell, sx_mset, sx_mnset, elAt, setEl, inAt, elIn, setIn, isLst, cellsOf, sxl_nil, sxl_set, sxl_call, sxl_callv, sxl_g1, sxl_g2, sxl_g3, sxl_g4, OkS_true, GrdS_tt, GrdS_tf, GrdS_ft, GrdS_ff, CondS_t, CondS_f, then_n, then_e, then_r, blk_n, blk_e, blk_r, upd_app, Ex.ok, Ex.val, Opd.val, POp.dst, bin_int, binOK_int, bin_str, binOK_str, resOK, resV, RB.val, sub, putc, scB, scL, oneB, conf, Ex.val.eqP, Ex.val.eqL, negV, mxV, mnV, ← wr_eq, wr_zero, wr_one, wr_m1, bst_lst, byteC, partsOK, putAll, appV, nilV, slV, sslV, optB, optNum, and_assoc, exists_and_left, exists_eq_left', *]) | refine CondS_d (fun h => ?_) (fun h => ?_) | refine CondS_b (fun h => ?_) (fun h => ?_) | refine GrdS_d (fun h => ?_) (fun h => ?_) | refine GrdS_b (fun h => ?_) (fun h => ?_) | refine OkS_i (by omega) ?_ | fail)
  all_goals simp_all [wNew]
def frEN (l : List En) (n : Nat) : List En := (l.take n).map En.fr
theorem frEN_succ {l : List En} {n : Nat} (h : n < l.length) : frEN l (n + 1) = frEN l n ++ [l[n].fr] := by
  unfold frEN
  rw [List.take_add_one, List.getElem?_eq_getElem h, List.map_append]
  rfl
theorem frEN_all (l : List En) : frEN l l.length = l.map En.fr := by unfold frEN; rw [List.take_of_length_le (Nat.le_refl _)]
theorem frEN_len {l : List En} {n : Nat} (h : n ≤ l.length) : (frEN l n).length = n := by unfold frEN; simp; omega
theorem f88 (x : En) (hx : x.f0.f4.length ≤ 1000000000) : Fn Try.prog 88 true [.agg (en x)] (.agg (en x.fr)) := by
  have hc := f112 x.f0 hx
  unfold ft Ft.fr at hc
  unfold en En.fr Ft.fr
  refine Fn.by_sx hX (by kernel_rfl) c88 (by kernel_rfl) (by rfl) ?_
  simp [i88, sx_skip, sx_ops, sx_seq, sx_cond, sx_block, sx_exit, sx_ret, sx_mcall, sx_mcallx, sx_mcallb, isPtrN, PV.pcs, sx_mcell, sx_mset, sx_mnset, elAt, setEl, inAt, elIn, setIn, isLst, cellsOf, sxl_nil, sxl_set, sxl_call, sxl_callv, sxl_g1, sxl_g2, sxl_g3, sxl_g4, OkS_true, GrdS_tt, GrdS_tf, GrdS_ft, GrdS_ff, CondS_t, CondS_f, then_n, then_e, then_r, blk_n, blk_e, blk_r, upd_app, Ex.ok, Ex.val, Opd.val, POp.dst, bin_int, binOK_int, bin_str, binOK_str, resOK, resV, RB.val, sub, putc, scB, scL, oneB, conf, Ex.val.eqP, Ex.val.eqL, negV, mxV, mnV, ← wr_eq, wr_zero, wr_one, wr_m1, bst_lst, byteC, partsOK, putAll, appV, nilV, slV, sslV, optB, optNum, and_assoc, exists_and_left, exists_eq_left']
  repeat' (first | intro _ | (simp [sx_skip, sx_ops, sx_seq, sx_cond, sx_block, sx_exit, sx_ret, sx_mcall, sx_mcallx, sx_mcallb, isPtrN, PV.pcs, sx_mcell, sx_mset, sx_mnset, elAt, setEl, inAt, elIn, setIn, isLst, cellsOf, sxl_nil, sxl_set, sxl_call, sxl_callv, sxl_g1, sxl_g2, sxl_g3, sxl_g4, OkS_true, GrdS_tt, GrdS_tf, GrdS_ft, GrdS_ff, CondS_t, CondS_f, then_n, then_e, then_r, blk_n, blk_e, blk_r, upd_app, Ex.ok, Ex.val, Opd.val, POp.dst, bin_int, binOK_int, bin_str, binOK_str, resOK, resV, RB.val, sub, putc, scB, scL, oneB, conf, Ex.val.eqP, Ex.val.eqL, negV, mxV, mnV, ← wr_eq, wr_zero, wr_one, wr_m1, bst_lst, byteC, partsOK, putAll, appV, nilV, slV, sslV, optB, optNum, and_assoc, exists_and_left, exists_eq_left', *]) | refine CallS_i (hc) ?_ | refine CallM_i (hc) ?_ | refine CallE_i (hc) ?_ | refine CallX_i (hc) ?_ | refine CallB_i (hc) ?_ | refine CondS_d (fun h => ?_) (fun h => ?_) | refine CondS_b (fun h => ?_) (fun h => ?_) | refine GrdS_d (fun h => ?_) (fun h => ?_) | refine GrdS_b (fun h => ?_) (fun h => ?_) | refine OkS_i (by omega) ?_ | fail)
theorem f87 (l : List En) (nl : Bool) (hl : l.length ≤ 1000000000) (hf : ∀ x ∈ l, x.f0.f4.length ≤ 1000000000) : Fn Try.prog 87 true [.lst 8 nl (l.map en)] (.lst 8 false ((l.map En.fr).map en)) := by
  refine Fn.by_sx hX (by kernel_rfl) c87 (by kernel_rfl) (by rfl) ?_
  simp [i87, sx_skip, sx_ops, sx_seq, sx_cond, sx_block, sx_exit, sx_ret, sx_mcall, sx_mcallx, sx_mcallb, isPtrN, PV.pcs, sx_mcell, sx_mset, sx_mnset, elAt, setEl, inAt, elIn, setIn, isLst, cellsOf, sxl_nil, sxl_set, sxl_call, sxl_callv, sxl_g1, sxl_g2, sxl_g3, sxl_g4, OkS_true, GrdS_tt, GrdS_tf, GrdS_ft, GrdS_ff, CondS_t, CondS_f, then_n, then_e, then_r, blk_n, blk_e, blk_r, upd_app, Ex.ok, Ex.val, Opd.val, POp.dst, bin_int, binOK_int, bin_str, binOK_str, resOK, resV, RB.val, sub, putc, scB, scL, oneB, conf, Ex.val.eqP, Ex.val.eqL, negV, mxV, mnV, ← wr_eq, wr_zero, wr_one, wr_m1, bst_lst, byteC, partsOK, putAll, appV, nilV, slV, sslV, optB, optNum, and_assoc, exists_and_left, exists_eq_left']
  refine sx_count l.length (fun n V => V 0 = .lst 8 nl (l.map en) ∧ V 4 = i n ∧ V 3 = .lst 8 false ((frEN l n).map en)) 0 (by omega) (by simp [sx_skip, sx_ops, sx_seq, sx_cond, sx_block, sx_exit, sx_ret, sx_mcall, sx_mcallx, sx_mcallb, isPtrN, PV.pcs, sx_mcell, sx_mset, sx_mnset, elAt, setEl, inAt, elIn, setIn, isLst, cellsOf, sxl_nil, sxl_set, sxl_call, sxl_callv, sxl_g1, sxl_g2, sxl_g3, sxl_g4, OkS_true, GrdS_tt, GrdS_tf, GrdS_ft, GrdS_ff, CondS_t, CondS_f, then_n, then_e, then_r, blk_n, blk_e, blk_r, upd_app, Ex.ok, Ex.val, Opd.val, POp.dst, bin_int, binOK_int, bin_str, binOK_str, resOK, resV, RB.val, sub, putc, scB, scL, oneB, conf, Ex.val.eqP, Ex.val.eqL, negV, mxV, mnV, ← wr_eq, wr_zero, wr_one, wr_m1, bst_lst, byteC, partsOK, putAll, appV, nilV, slV, sslV, optB, optNum, and_assoc, exists_and_left, exists_eq_left', frEN]) ?_
  rintro n V hn ⟨h0, h4, h3⟩
  have hw : wr .i64 ((n : Int) + 1) = n + 1 := wr_in (by omega) (by omega)
  simp [sx_skip, sx_ops, sx_seq, sx_cond, sx_block, sx_exit, sx_ret, sx_mcall, sx_mcallx, sx_mcallb, isPtrN, PV.pcs, sx_mcell, sx_mset, sx_mnset, elAt, setEl, inAt, elIn, setIn, isLst, cellsOf, sxl_nil, sxl_set, sxl_call, sxl_callv, sxl_g1, sxl_g2, sxl_g3, sxl_g4, OkS_true, GrdS_tt, GrdS_tf, GrdS_ft, GrdS_ff, CondS_t, CondS_f, then_n, then_e, then_r, blk_n, blk_e, blk_r, upd_app, Ex.ok, Ex.val, Opd.val, POp.dst, bin_int, binOK_int, bin_str, binOK_str, resOK, resV, RB.val, sub, putc, scB, scL, oneB, conf, Ex.val.eqP, Ex.val.eqL, negV, mxV, mnV, ← wr_eq, wr_zero, wr_one, wr_m1, bst_lst, byteC, partsOK, putAll, appV, nilV, slV, sslV, optB, optNum, and_assoc, exists_and_left, exists_eq_left', h0, h4]
  refine CondS_d (fun hlt => ?_) (fun hge => ?_)
  · have hlt' : n < l.length := by omega
    have hnx := frEN_succ hlt'
    have hlen := frEN_len (l := l) (n := n) (by omega)
    have hc := f88 l[n] (hf _ (List.getElem_mem ..))
    have hee : en l[n].fr = [i l[n].f0.f0, i l[n].f0.f1, i l[n].f0.f2, .str l[n].f0.f3, .lst 2 false (l[n].f0.f4.map cp), i l[n].f1, i l[n].f2, .bool l[n].f3] := rfl
    rw [hee] at hc
    clear hf
    repeat' (first | intro _ | (simp [sx_skip, sx_ops, sx_seq, sx_cond, sx_block, sx_exit, sx_ret, sx_mcall, sx_mcallx, sx_mcallb, isPtrN, PV.pcs, sx_mcell, sx_mset, sx_mnset, elAt, setEl, inAt, elIn, setIn, isLst, cellsOf, sxl_nil, sxl_set, sxl_call, sxl_callv, sxl_g1, sxl_g2, sxl_g3, sxl_g4, OkS_true, GrdS_tt, GrdS_tf, GrdS_ft, GrdS_ff, CondS_t, CondS_f, then_n, then_e, then_r, blk_n, blk_e, blk_r, upd_app, Ex.ok, Ex.val, Opd.val, POp.dst, bin_int, binOK_int, bin_str, binOK_str, resOK, resV, RB.val, sub, putc, scB, scL, oneB, conf, Ex.val.eqP, Ex.val.eqL, negV, mxV, mnV, ← wr_eq, wr_zero, wr_one, wr_m1, bst_lst, byteC, partsOK, putAll, appV, nilV, slV, sslV, optB, optNum, and_assoc, exists_and_left, exists_eq_left', en, *]) | refine CallS_i (hc) ?_ | refine CallM_i (hc) ?_ | refine CallE_i (hc) ?_ | refine CallX_i (hc) ?_ | refine CallB_i (hc) ?_ | refine CondS_d (fun h => ?_) (fun h => ?_) | refine CondS_b (fun h => ?_) (fun h => ?_) | refine GrdS_d (fun h => ?_) (fun h => ?_) | refine GrdS_b (fun h => ?_) (fun h => ?_) | refine OkS_i (by omega) ?_ | fail)
    all_goals first | omega | exact ⟨rfl, rfl, rfl, rfl, rfl, rfl, rfl, rfl, rfl⟩ | simp_all
  · have : n = l.length := by omega
    subst this
    have ha := frEN_all l
    repeat' (first | intro _ | (simp [sx_skip, sx_ops, sx_seq, sx_cond, sx_block, sx_exit, sx_ret, sx_mcall, sx_mcallx, sx_mcallb, isPtrN, PV.pcs, sx_mcell, sx_mset, sx_mnset, elAt, setEl, inAt, elIn, setIn, isLst, cellsOf, sxl_nil, sxl_set, sxl_call, sxl_callv, sxl_g1, sxl_g2, sxl_g3, sxl_g4, OkS_true, GrdS_tt, GrdS_tf, GrdS_ft, GrdS_ff, CondS_t, CondS_f, then_n, then_e, then_r, blk_n, blk_e, blk_r, upd_app, Ex.ok, Ex.val, Opd.val, POp.dst, bin_int, binOK_int, bin_str, binOK_str, resOK, resV, RB.val, sub, putc, scB, scL, oneB, conf, Ex.val.eqP, Ex.val.eqL, negV, mxV, mnV, ← wr_eq, wr_zero, wr_one, wr_m1, bst_lst, byteC, partsOK, putAll, appV, nilV, slV, sslV, optB, optNum, and_assoc, exists_and_left, exists_eq_left', *]) | refine CondS_d (fun h => ?_) (fun h => ?_) | refine CondS_b (fun h => ?_) (fun h => ?_) | refine GrdS_d (fun h => ?_) (fun h => ?_) | refine GrdS_b (fun h => ?_) (fun h => ?_) | refine OkS_i (by omega) ?_ | fail)
theorem f89 (l : List En) (nl : Bool) (hl : l.length ≤ 1000000000) (hf : ∀ x ∈ l, x.f0.f4.length ≤ 1000000000) (hn : ∀ x ∈ l, x.f0.nl = false) : Fn Try.prog 89 true [.lst 8 nl (l.map en)] (.lst 8 false ((l.map En.fr).map en)) := by
  refine Fn.by_sx hX (by kernel_rfl) c89 (by kernel_rfl) (by rfl) ?_
  simp [i89, sx_skip, sx_ops, sx_seq, sx_cond, sx_block, sx_exit, sx_ret, sx_mcall, sx_mcallx, sx_mcallb, isPtrN, PV.pcs, sx_mcell, sx_mset, sx_mnset, elAt, setEl, inAt, elIn, setIn, isLst, cellsOf, sxl_nil, sxl_set, sxl_call, sxl_callv, sxl_g1, sxl_g2, sxl_g3, sxl_g4, OkS_true, GrdS_tt, GrdS_tf, GrdS_ft, GrdS_ff, CondS_t, CondS_f, then_n, then_e, then_r, blk_n, blk_e, blk_r, upd_app, Ex.ok, Ex.val, Opd.val, POp.dst, bin_int, binOK_int, bin_str, binOK_str, resOK, resV, RB.val, sub, putc, scB, scL, oneB, conf, Ex.val.eqP, Ex.val.eqL, negV, mxV, mnV, ← wr_eq, wr_zero, wr_one, wr_m1, bst_lst, byteC, partsOK, putAll, appV, nilV, slV, sslV, optB, optNum, and_assoc, exists_and_left, exists_eq_left']
  refine sx_count l.length (fun n V => V 7 = .lst 8 nl (l.map en) ∧ V 8 = i l.length ∧ V 9 = i n ∧ V 3 = .lst 8 false ((frEN l n).map en)) 0 (by omega) (by simp [sx_skip, sx_ops, sx_seq, sx_cond, sx_block, sx_exit, sx_ret, sx_mcall, sx_mcallx, sx_mcallb, isPtrN, PV.pcs, sx_mcell, sx_mset, sx_mnset, elAt, setEl, inAt, elIn, setIn, isLst, cellsOf, sxl_nil, sxl_set, sxl_call, sxl_callv, sxl_g1, sxl_g2, sxl_g3, sxl_g4, OkS_true, GrdS_tt, GrdS_tf, GrdS_ft, GrdS_ff, CondS_t, CondS_f, then_n, then_e, then_r, blk_n, blk_e, blk_r, upd_app, Ex.ok, Ex.val, Opd.val, POp.dst, bin_int, binOK_int, bin_str, binOK_str, resOK, resV, RB.val, sub, putc, scB, scL, oneB, conf, Ex.val.eqP, Ex.val.eqL, negV, mxV, mnV, ← wr_eq, wr_zero, wr_one, wr_m1, bst_lst, byteC, partsOK, putAll, appV, nilV, slV, sslV, optB, optNum, and_assoc, exists_and_left, exists_eq_left', frEN]) ?_
  rintro n V hn' ⟨h7, h8, h9, h3⟩
  have hw : wr .i64 ((n : Int) + 1) = n + 1 := wr_in (by omega) (by omega)
  simp [sx_skip, sx_ops, sx_seq, sx_cond, sx_block, sx_exit, sx_ret, sx_mcall, sx_mcallx, sx_mcallb, isPtrN, PV.pcs, sx_mcell, sx_mset, sx_mnset, elAt, setEl, inAt, elIn, setIn, isLst, cellsOf, sxl_nil, sxl_set, sxl_call, sxl_callv, sxl_g1, sxl_g2, sxl_g3, sxl_g4, OkS_true, GrdS_tt, GrdS_tf, GrdS_ft, GrdS_ff, CondS_t, CondS_f, then_n, then_e, then_r, blk_n, blk_e, blk_r, upd_app, Ex.ok, Ex.val, Opd.val, POp.dst, bin_int, binOK_int, bin_str, binOK_str, resOK, resV, RB.val, sub, putc, scB, scL, oneB, conf, Ex.val.eqP, Ex.val.eqL, negV, mxV, mnV, ← wr_eq, wr_zero, wr_one, wr_m1, bst_lst, byteC, partsOK, putAll, appV, nilV, slV, sslV, optB, optNum, and_assoc, exists_and_left, exists_eq_left', h8, h9]
  refine CondS_d (fun hlt => ?_) (fun hge => ?_)
  · have hlt' : n < l.length := by omega
    have hnx := frEN_succ hlt'
    have hlen := frEN_len (l := l) (n := n) (by omega)
    have hc := f90 l[n].f0 (hn _ (List.getElem_mem ..)) (hf _ (List.getElem_mem ..))
    have hee : en l[n].fr = [i l[n].f0.f0, i l[n].f0.f1, i l[n].f0.f2, .str l[n].f0.f3, .lst 2 false (l[n].f0.f4.map cp), i l[n].f1, i l[n].f2, .bool l[n].f3] := rfl
    have hnn := hn l[n] (List.getElem_mem ..)
    unfold ft Ft.fr at hc
    rw [hnn] at hc
    clear hf hn
    repeat' (first | intro _ | (simp [sx_skip, sx_ops, sx_seq, sx_cond, sx_block, sx_exit, sx_ret, sx_mcall, sx_mcallx, sx_mcallb, isPtrN, PV.pcs, sx_mcell, sx_mset, sx_mnset, elAt, setEl, inAt, elIn, setIn, isLst, cellsOf, sxl_nil, sxl_set, sxl_call, sxl_callv, sxl_g1, sxl_g2, sxl_g3, sxl_g4, OkS_true, GrdS_tt, GrdS_tf, GrdS_ft, GrdS_ff, CondS_t, CondS_f, then_n, then_e, then_r, blk_n, blk_e, blk_r, upd_app, Ex.ok, Ex.val, Opd.val, POp.dst, bin_int, binOK_int, bin_str, binOK_str, resOK, resV, RB.val, sub, putc, scB, scL, oneB, conf, Ex.val.eqP, Ex.val.eqL, negV, mxV, mnV, ← wr_eq, wr_zero, wr_one, wr_m1, bst_lst, byteC, partsOK, putAll, appV, nilV, slV, sslV, optB, optNum, and_assoc, exists_and_left, exists_eq_left', en, *]) | refine CallS_i (hc) ?_ | refine CallM_i (hc) ?_ | refine CallE_i (hc) ?_ | refine CallX_i (hc) ?_ | refine CallB_i (hc) ?_ | refine CondS_d (fun h => ?_) (fun h => ?_) | refine CondS_b (fun h => ?_) (fun h => ?_) | refine GrdS_d (fun h => ?_) (fun h => ?_) | refine GrdS_b (fun h => ?_) (fun h => ?_) | refine OkS_i (by omega) ?_ | fail)
    all_goals first | omega | exact ⟨rfl, rfl, rfl, rfl, rfl, rfl, rfl, rfl, rfl⟩ | simp_all
  · have : n = l.length := by omega
    subst this
    have ha := frEN_all l
    repeat' (first | intro _ | (simp [sx_skip, sx_ops, sx_seq, sx_cond, sx_block, sx_exit, sx_ret, sx_mcall, sx_mcallx, sx_mcallb, isPtrN, PV.pcs, sx_mcell, sx_mset, sx_mnset, elAt, setEl, inAt, elIn, setIn, isLst, cellsOf, sxl_nil, sxl_set, sxl_call, sxl_callv, sxl_g1, sxl_g2, sxl_g3, sxl_g4, OkS_true, GrdS_tt, GrdS_tf, GrdS_ft, GrdS_ff, CondS_t, CondS_f, then_n, then_e, then_r, blk_n, blk_e, blk_r, upd_app, Ex.ok, Ex.val, Opd.val, POp.dst, bin_int, binOK_int, bin_str, binOK_str, resOK, resV, RB.val, sub, putc, scB, scL, oneB, conf, Ex.val.eqP, Ex.val.eqL, negV, mxV, mnV, ← wr_eq, wr_zero, wr_one, wr_m1, bst_lst, byteC, partsOK, putAll, appV, nilV, slV, sslV, optB, optNum, and_assoc, exists_and_left, exists_eq_left', *]) | refine CondS_d (fun h => ?_) (fun h => ?_) | refine CondS_b (fun h => ?_) (fun h => ?_) | refine GrdS_d (fun h => ?_) (fun h => ?_) | refine GrdS_b (fun h => ?_) (fun h => ?_) | refine OkS_i (by omega) ?_ | fail)
theorem f30 (l : List En) (nl : Bool) (k : Int) (hk0 : 0 ≤ k) (hl : l.length ≤ 1000000000) (hk : kToE l k l.length ≤ 1000000000) :
    Fn Try.prog 30 false [.lst 8 nl ((upTo (mkEnAt l k) l.length).map en), i k] (i (kToE l k l.length)) := by
  obtain ⟨a, ha⟩ : ∃ a, (upTo (mkEnAt l k) l.length).map en = a := ⟨_, rfl⟩
  have hal : a.length = l.length := by rw [← ha, List.length_map, upTo_length]
  rw [ha]
  refine Fn.by_sx hX (by kernel_rfl) c30 (by kernel_rfl) (by rfl) ?_
  simp [i30, sx_skip, sx_ops, sx_seq, sx_cond, sx_block, sx_exit, sx_ret, sx_mcall, sx_mcallx, sx_mcallb, isPtrN, PV.pcs, sx_mcell, sx_mset, sx_mnset, elAt, setEl, inAt, elIn, setIn, isLst, cellsOf, sxl_nil, sxl_set, sxl_call, sxl_callv, sxl_g1, sxl_g2, sxl_g3, sxl_g4, OkS_true, GrdS_tt, GrdS_tf, GrdS_ft, GrdS_ff, CondS_t, CondS_f, then_n, then_e, then_r, blk_n, blk_e, blk_r, upd_app, Ex.ok, Ex.val, Opd.val, POp.dst, bin_int, binOK_int, bin_str, binOK_str, resOK, resV, RB.val, sub, putc, scB, scL, oneB, conf, Ex.val.eqP, Ex.val.eqL, negV, mxV, mnV, ← wr_eq, wr_zero, wr_one, wr_m1, bst_lst, byteC, partsOK, putAll, appV, nilV, slV, sslV, optB, optNum, and_assoc, exists_and_left, exists_eq_left']
  refine sx_count l.length (fun n V => V 0 = .lst 8 nl a ∧ V 5 = i n ∧ V 1 = i (kToE l k n)) 0 (by omega) (by simp [sx_skip, sx_ops, sx_seq, sx_cond, sx_block, sx_exit, sx_ret, sx_mcall, sx_mcallx, sx_mcallb, isPtrN, PV.pcs, sx_mcell, sx_mset, sx_mnset, elAt, setEl, inAt, elIn, setIn, isLst, cellsOf, sxl_nil, sxl_set, sxl_call, sxl_callv, sxl_g1, sxl_g2, sxl_g3, sxl_g4, OkS_true, GrdS_tt, GrdS_tf, GrdS_ft, GrdS_ff, CondS_t, CondS_f, then_n, then_e, then_r, blk_n, blk_e, blk_r, upd_app, Ex.ok, Ex.val, Opd.val, POp.dst, bin_int, binOK_int, bin_str, binOK_str, resOK, resV, RB.val, sub, putc, scB, scL, oneB, conf, Ex.val.eqP, Ex.val.eqL, negV, mxV, mnV, ← wr_eq, wr_zero, wr_one, wr_m1, bst_lst, byteC, partsOK, putAll, appV, nilV, slV, sslV, optB, optNum, and_assoc, exists_and_left, exists_eq_left', kToE]) ?_
  rintro n V hn ⟨h0, h5, h1⟩
  simp [sx_skip, sx_ops, sx_seq, sx_cond, sx_block, sx_exit, sx_ret, sx_mcall, sx_mcallx, sx_mcallb, isPtrN, PV.pcs, sx_mcell, sx_mset, sx_mnset, elAt, setEl, inAt, elIn, setIn, isLst, cellsOf, sxl_nil, sxl_set, sxl_call, sxl_callv, sxl_g1, sxl_g2, sxl_g3, sxl_g4, OkS_true, GrdS_tt, GrdS_tf, GrdS_ft, GrdS_ff, CondS_t, CondS_f, then_n, then_e, then_r, blk_n, blk_e, blk_r, upd_app, Ex.ok, Ex.val, Opd.val, POp.dst, bin_int, binOK_int, bin_str, binOK_str, resOK, resV, RB.val, sub, putc, scB, scL, oneB, conf, Ex.val.eqP, Ex.val.eqL, negV, mxV, mnV, ← wr_eq, wr_zero, wr_one, wr_m1, bst_lst, byteC, partsOK, putAll, appV, nilV, slV, sslV, optB, optNum, and_assoc, exists_and_left, exists_eq_left', h0, h5]
  refine CondS_d (fun hlt => ?_) (fun hge => ?_)
  · have hlt' : n < l.length := by omega
    have hm1 := kToE_mono (l := l) (k := k) (n := 0) (m := n) (by omega)
    have hm2 := kToE_mono (l := l) (k := k) (n := n + 1) (m := l.length) (by omega)
    have hks : kToE l k (n + 1) = kToE l k n + 7 + 2 * (l[n].f0.f4.length : Nat) := by simp [kToE, hlt']
    have hm1 : k ≤ kToE l k n := hm1
    have hmk : en (mkEnAt l k n) = [i (kToE l k n), i (kToE l k n + 1), i (kToE l k n + 2), .str (mt (kToE l k n + 3)), .lst 2 l[n].f0.nl ((upTo (mkPt (kToE l k n + 4)) l[n].f0.f4.length).map cp), i (kToE l k n + 4 + 2 * (l[n].f0.f4.length : Nat)), i (kToE l k n + 5 + 2 * (l[n].f0.f4.length : Nat)), .bool (decide ((kToE l k n + 6 + 2 * (l[n].f0.f4.length : Nat)).tmod 3 = 0))] := by unfold mkEnAt mkEn mkFt en; simp [hlt']
    obtain ⟨x, hxe⟩ : ∃ x, l[n] = x := ⟨_, rfl⟩
    rw [hxe] at hks hmk
    obtain ⟨q, hq⟩ : ∃ q, kToE l k n = q := ⟨_, rfl⟩
    rw [hq] at hks hmk h1 hm1
    obtain ⟨q2, hq2⟩ : ∃ q2 : Int, q + 4 + 2 * (x.f0.f4.length : Nat) = q2 := ⟨_, rfl⟩
    have e5 : q + 5 + 2 * (x.f0.f4.length : Nat) = q2 + 1 := by omega
    have e6 : q + 6 + 2 * (x.f0.f4.length : Nat) = q2 + 2 := by omega
    rw [hq2, e5, e6] at hmk
    have hat : a[n]? = some [i q, i (q + 1), i (q + 2), .str (mt (q + 3)), .lst 2 x.f0.nl ((upTo (mkPt (q + 4)) x.f0.f4.length).map cp), i q2, i (q2 + 1), .bool (decide ((q2 + 2).tmod 3 = 0))] := by rw [← ha, List.getElem?_map, upTo_get hlt', Option.map_some, hmk]
    obtain ⟨hlm, hat'⟩ := get_of hat
    have hw : wr .i64 ((n : Int) + 1) = n + 1 := wr_in (by omega) (by omega)
    have w1 : wr .i64 (q + 1) = q + 1 := wr_in (by omega) (by omega)
    have w2 : wr .i64 (q + 1 + 1) = q + 2 := by rw [wr_in (by omega) (by omega)]; omega
    have w3 : wr .i64 (q + 2 + 1) = q + 3 := by rw [wr_in (by omega) (by omega)]; omega
    have w4 : wr .i64 (q + 3 + 1) = q + 4 := by rw [wr_in (by omega) (by omega)]; omega
    have w5 : wr .i64 (q2 + 1) = q2 + 1 := wr_in (by omega) (by omega)
    have w6 : wr .i64 (q2 + 1 + 1) = q2 + 2 := by rw [wr_in (by omega) (by omega)]; omega
    have w7 : wr .i64 (q2 + 2 + 1) = kToE l k (n + 1) := by rw [wr_in (by omega) (by omega)]; omega
    have c1 := f92 (q + 3) (by omega)
    have c2 := f76 x.f0.f4.length x.f0.nl (q + 4) (by omega) (by omega)
    have hq2' : q + 4 + 2 * (x.f0.f4.length : Int) = q2 := hq2
    have hneg : ¬ q2 < 0 := by omega
    rw [hq2'] at c2
    clear hks hmk ha hq hq2 hq2' e5 e6
    obtain ⟨T, hT⟩ : ∃ T, mt (q + 3) = T := ⟨_, rfl⟩
    rw [hT] at c1 hat hat'
    obtain ⟨r3, hr3⟩ : ∃ r3, (q2 + 2).tmod 3 = r3 := ⟨_, rfl⟩
    rw [hr3] at hat hat'
    clear hT
    repeat' (first | intro _ | (simp [sx_skip, sx_ops, sx_seq, sx_cond, sx_block, sx_exit, sx_ret, sx_mcall, sx_mcallx, sx_mcallb, isPtrN, PV.pcs, sx_mcell, sx_mset, sx_mnset, elAt, setEl, inAt, elIn, setIn, isLst, cellsOf, sxl_nil, sxl_set, sxl_call, sxl_callv, sxl_g1, sxl_g2, sxl_g3, sxl_g4, OkS_true, GrdS_tt, GrdS_tf, GrdS_ft, GrdS_ff, CondS_t, CondS_f, then_n, then_e, then_r, blk_n, blk_e, blk_r, upd_app, Ex.ok, Ex.val, Opd.val, POp.dst, bin_int, binOK_int, bin_str, binOK_str, resOK, resV, RB.val, sub, putc, scB, scL, oneB, conf, Ex.val.eqP, Ex.val.eqL, negV, mxV, mnV, ← wr_eq, wr_zero, wr_one, wr_m1, bst_lst, byteC, partsOK, putAll, appV, nilV, slV, sslV, optB, optNum, and_assoc, exists_and_left, exists_eq_left', *]) | refine CallS_i (c1) ?_ | refine CallS_i (c2) ?_ | refine CallM_i (c1) ?_ | refine CallM_i (c2) ?_ | refine CallE_i (c1) ?_ | refine CallE_i (c2) ?_ | refine CallX_i (c1) ?_ | refine CallX_i (c2) ?_ | refine CallB_i (c1) ?_ | refine CallB_i (c2) ?_ | refine CondS_d (fun h => ?_) (fun h => ?_) | refine CondS_b (fun h => ?_) (fun h => ?_) | refine GrdS_d (fun h => ?_) (fun h => ?_) | refine GrdS_b (fun h => ?_) (fun h => ?_) | refine OkS_i (by omega) ?_ | fail)
  · have : n = l.length := by omega
    subst this
    repeat' (first | intro _ | (simp [sx_skip, sx_ops, sx_seq, sx_cond, sx_block, sx_exit, sx_ret, sx_mcall, sx_mcallx, sx_mcallb, isPtrN, PV.pcs, sx_mcell, sx_mset, sx_mnset, elAt, setEl, inAt, elIn, setIn, isLst, cellsOf, sxl_nil, sxl_set, sxl_call, sxl_callv, sxl_g1, sxl_g2, sxl_g3, sxl_g4, OkS_true, GrdS_tt, GrdS_tf, GrdS_ft, GrdS_ff, CondS_t, CondS_f, then_n, then_e, then_r, blk_n, blk_e, blk_r, upd_app, Ex.ok, Ex.val, Opd.val, POp.dst, bin_int, binOK_int, bin_str, binOK_str, resOK, resV, RB.val, sub, putc, scB, scL, oneB, conf, Ex.val.eqP, Ex.val.eqL, negV, mxV, mnV, ← wr_eq, wr_zero, wr_one, wr_m1, bst_lst, byteC, partsOK, putAll, appV, nilV, slV, sslV, optB, optNum, and_assoc, exists_and_left, exists_eq_left', *]) | refine CondS_d (fun h => ?_) (fun h => ?_) | refine CondS_b (fun h => ?_) (fun h => ?_) | refine GrdS_d (fun h => ?_) (fun h => ?_) | refine GrdS_b (fun h => ?_) (fun h => ?_) | refine OkS_i (by omega) ?_ | fail)
end Go.Eng
namespace Go.Eng
open Go Go.Proofs Go.Shelf
set_option linter.unusedSimpArgs false
set_option linter.unusedVariables false
set_option maxRecDepth 20000
set_option maxHeartbeats 1000000

/-! slices.Insert, slices.Delete -/
def rho91 : Ren := rhoI 91 141 142 42 49
theorem L91 : InsL Try.prog rho91 8 88 (zvOf Try.prog 49) where
  mixed := by kernel_rfl
  f22 := ⟨fnm Try.prog 91, by kernel_rfl, by kernel_rfl⟩
  f29 := fun args w => by
    rw [run_callFunc_extern (f := rho91.f 29) (fn := { Body2.n29 rho91 with name := fnm Try.prog 141 }) (by kernel_rfl) (by kernel_rfl) (by kernel_rfl) (by kernel_rfl) (e := Extern.SlicesOverlaps.overlaps #[(rho91.t 24), (rho91.t 24)] #[(rho91.t 4)]) (by kernel_rfl)]
  t0 := by kernel_rfl
  a0 := fun _ => by kernel_rfl
  z0 := fun _ => by kernel_rfl
  v0 := fun _ => by kernel_rfl
  t3 := by kernel_rfl
  a3 := fun _ => by kernel_rfl
  z3 := fun _ => by kernel_rfl
  v3 := fun _ => by kernel_rfl
  t4 := by kernel_rfl
  a4 := fun _ => by kernel_rfl
  z4 := fun _ => by kernel_rfl
  v4 := fun _ => by kernel_rfl
  z9 := fun _ => by kernel_rfl
  t24 := by kernel_rfl
  a24 := fun _ => by kernel_rfl
  z24 := fun _ => by kernel_rfl
  v24 := fun _ => by kernel_rfl
  i9 := by kernel_rfl
  hz := by omega
  hzc := by kernel_rfl
theorem f91 {nl : Bool} {els : List (List PV)} {v : List PV} {k : Nat} (hi : k ≤ els.length)
    (h63 : els.length + 1 ≤ 70368744177664) (hbig : (els.length + 1) * 88 ≤ 140737488355328) :
    FnX Try.prog 91 [.lst 8 nl els, i k, .lst 8 false [v]] (.lst 8 false (els.take k ++ v :: els.drop k)) := ins_X L91 (by kernel_rfl) hi h63 hbig
end Go.Eng
namespace Go.Eng
open Go Go.Proofs Geo
set_option linter.unusedSimpArgs false
set_option linter.unusedVariables false
set_option maxRecDepth 20000
set_option maxHeartbeats 1000000

/-! an entry is taken into a log. WRITES -/
def wAt : List En → Int → Nat
  | [], _ => 0
  | x :: r, id => if x.f0.f0 < id then wAt r id + 1 else 0
theorem wAt_le : ∀ (l : List En) (id : Int), wAt l id ≤ l.length
  | [], _ => Nat.le_refl _
  | x :: r, id => by have := wAt_le r id; unfold wAt; split <;> simp <;> omega
theorem wAt_lt : ∀ {l : List En} {id : Int} {j : Nat} (hj : j < wAt l id) (h : j < l.length), l[j].f0.f0 < id
  | [], _, _, _, h => by simp at h
  | x :: r, id, 0, hj, h => by
    unfold wAt at hj
    split at hj
    · assumption
    · omega
  | x :: r, id, j + 1, hj, h => by
    unfold wAt at hj
    split at hj
    · exact wAt_lt (l := r) (j := j) (by omega) (by simpa using h)
    · omega
theorem wAt_stop : ∀ {l : List En} {id : Int} (h : wAt l id < l.length), ¬ l[wAt l id].f0.f0 < id
  | [], _, h => by simp at h
  | x :: r, id, h => by
    by_cases hx : x.f0.f0 < id
    · have e : wAt (x :: r) id = wAt r id + 1 := by simp [wAt, hx]
      simp only [e, List.getElem_cons_succ]
      exact wAt_stop (l := r) (by rw [e] at h; simpa using h)
    · have e : wAt (x :: r) id = 0 := by simp [wAt, hx]
      simp only [e, List.getElem_cons_zero]
      exact hx
def hit (l : List En) (e : En) : Bool := decide (wAt l e.f0.f0 < l.length) && decide ((l.getD (wAt l e.f0.f0) enD).f0.f0 = e.f0.f0)
def tkO (l : List En) (e : En) : List En := (l.take (wAt l e.f0.f0)).map En.fr ++ e.fr :: (l.drop (if hit l e = true then wAt l e.f0.f0 + 1 else wAt l e.f0.f0)).map En.fr
def tk (l : List En) (e : En) : List En := if (hit l e && !wNew e (l.getD (wAt l e.f0.f0) enD)) = true then l.map En.fr else if (wLog l && wLog (tkO l e)) = true then tkO l e else l.map En.fr
theorem tk_hit {l : List En} {e : En} (h : wAt l e.f0.f0 < l.length) (hid : l[wAt l e.f0.f0].f0.f0 = e.f0.f0) : hit l e = true := by unfold hit; simp [h, hid]
theorem tk_no {l : List En} {e : En} (h : wAt l e.f0.f0 < l.length) (hid : ¬ l[wAt l e.f0.f0].f0.f0 = e.f0.f0) : hit l e = false := by unfold hit; simp [h, hid]
theorem tk_end {l : List En} {e : En} (h : ¬ wAt l e.f0.f0 < l.length) : hit l e = false := by unfold hit; simp [h]
theorem tk_old {l : List En} {e : En} (h : wAt l e.f0.f0 < l.length) (hh : hit l e = true) (hn : wNew e l[wAt l e.f0.f0] = false) : tk l e = l.map En.fr := by unfold tk; rw [if_pos (by simp [hh, h, hn])]
theorem tk_is {l : List En} {e : En} (hh : hit l e = false ∨ ∃ h : wAt l e.f0.f0 < l.length, wNew e l[wAt l e.f0.f0] = true) : tk l e = if (wLog l && wLog (tkO l e)) = true then tkO l e else l.map En.fr := by
  unfold tk
  rw [if_neg]
  rcases hh with hh | ⟨h, hh⟩
  · simp [hh]
  · simp [h, hh]
theorem tkO_ok {l : List En} {e : En} {p : En → Prop} (hl : ∀ x ∈ l, p x.fr) (he : p e.fr) : ∀ x ∈ tkO l e, p x := by
  intro x hx
  unfold tkO at hx
  rcases List.mem_append.1 hx with h | h
  · obtain ⟨y, hy, rfl⟩ := List.mem_map.1 h
    exact hl y (List.mem_of_mem_take hy)
  · rcases List.mem_cons.1 h with rfl | h
    · exact he
    · obtain ⟨y, hy, rfl⟩ := List.mem_map.1 h
      exact hl y (List.mem_of_mem_drop hy)
theorem tkO_len {l : List En} {e : En} : (tkO l e).length ≤ l.length + 1 := by
  have := wAt_le l e.f0.f0
  unfold tkO
  split <;> simp <;> omega
theorem f22 (l : List En) (e : En) (nl : Bool) (hl : l.length ≤ 1048576) (hb : ∀ x ∈ l, x.f0.okay) (he : e.f0.okay) (hp : ∀ x ∈ l, x.f0.f4.length ≤ 1000000000) (hpe : e.f0.f4.length ≤ 1000000000) :
    Fn Try.prog 22 true [.lst 8 nl (l.map en), .agg (en e)] (.lst 8 false ((tk l e).map en)) := by
  have hk := wAt_le l e.f0.f0
  have hee : en e = [i e.f0.f0, i e.f0.f1, i e.f0.f2, .str e.f0.f3, .lst 2 e.f0.nl (e.f0.f4.map cp), i e.f1, i e.f2, .bool e.f3] := rfl
  have hef : en e.fr = [i e.f0.f0, i e.f0.f1, i e.f0.f2, .str e.f0.f3, .lst 2 false (e.f0.f4.map cp), i e.f1, i e.f2, .bool e.f3] := rfl
  have cC := f87 l nl (by omega) hp
  have cL := f36 l nl (by omega) hb
  have cO := f36 (tkO l e) false (by have := @tkO_len l e; omega) (tkO_ok (p := fun x => x.f0.okay) (fun x hx => hb x hx) he)
  have cE := f88 e hpe
  have cP := f87 (l.take (wAt l e.f0.f0)) nl (by simp; omega) (fun x hx => hp x (List.mem_of_mem_take hx))
  have cR : ∀ j, Fn Try.prog 87 true [.lst 8 nl ((l.map en).drop j)] (.lst 8 false (((l.drop j).map En.fr).map en)) := fun j => by
    have := f87 (l.drop j) nl (by simp; omega) (fun x hx => hp x (List.mem_of_mem_drop hx))
    rw [List.map_drop] at this
    exact this
  rw [List.map_take] at cP
  have hpl : (((l.take (wAt l e.f0.f0)).map En.fr).map en).length = wAt l e.f0.f0 := by simp; omega
  rw [hee, hef] at cE
  rw [hee]
  obtain ⟨b1, hb1⟩ : ∃ b, wLog l = b := ⟨_, rfl⟩
  obtain ⟨b2, hb2⟩ : ∃ b, wLog (tkO l e) = b := ⟨_, rfl⟩
  rw [hb1] at cL
  rw [hb2] at cO
  have hto : (tkO l e).map en = ((l.take (wAt l e.f0.f0)).map En.fr).map en ++ [i e.f0.f0, i e.f0.f1, i e.f0.f2, .str e.f0.f3, .lst 2 false (e.f0.f4.map cp), i e.f1, i e.f2, .bool e.f3] :: ((l.drop (if hit l e = true then wAt l e.f0.f0 + 1 else wAt l e.f0.f0)).map En.fr).map en := by
    unfold tkO; rw [List.map_append, List.map_cons, hef]
  rw [hto] at cO
  obtain ⟨P1, hP1⟩ : ∃ P, ((l.take (wAt l e.f0.f0)).map En.fr).map en = P := ⟨_, rfl⟩
  rw [hP1] at cP cO hto hpl
  obtain ⟨C, hC⟩ : ∃ C, (l.map En.fr).map en = C := ⟨_, rfl⟩
  rw [hC] at cC
  refine Fn.by_sx hX (by kernel_rfl) c22 (by kernel_rfl) (by rfl) ?_
  simp [i22, sx_skip, sx_ops, sx_seq, sx_cond, sx_block, sx_exit, sx_ret, sx_mcall, sx_mcallx, sx_mcallb, isPtrN, PV.pcs, sx_mcell, sx_mset, sx_mnset, elAt, setEl, inAt, elIn, setIn, isLst, cellsOf, sxl_nil, sxl_set, sxl_call, sxl_callv, sxl_g1, sxl_g2, sxl_g3, sxl_g4, OkS_true, GrdS_tt, GrdS_tf, GrdS_ft, GrdS_ff, CondS_t, CondS_f, then_n, then_e, then_r, blk_n, blk_e, blk_r, upd_app, Ex.ok, Ex.val, Opd.val, POp.dst, bin_int, binOK_int, bin_str, binOK_str, resOK, resV, RB.val, sub, putc, scB, scL, oneB, conf, Ex.val.eqP, Ex.val.eqL, negV, mxV, mnV, ← wr_eq, wr_zero, wr_one, wr_m1, bst_lst, byteC, partsOK, putAll, appV, nilV, slV, sslV, optB, optNum, and_assoc, exists_and_left, exists_eq_left']
  refine sx_count (wAt l e.f0.f0) (fun n V => V 0 = .lst 8 nl (l.map en) ∧ V 3 = .ptr [i e.f0.f0, i e.f0.f1, i e.f0.f2, .str e.f0.f3, .lst 2 e.f0.nl (e.f0.f4.map cp), i e.f1, i e.f2, .bool e.f3] ∧ V 5 = i n) 0 (by omega) (by simp [sx_skip, sx_ops, sx_seq, sx_cond, sx_block, sx_exit, sx_ret, sx_mcall, sx_mcallx, sx_mcallb, isPtrN, PV.pcs, sx_mcell, sx_mset, sx_mnset, elAt, setEl, inAt, elIn, setIn, isLst, cellsOf, sxl_nil, sxl_set, sxl_call, sxl_callv, sxl_g1, sxl_g2, sxl_g3, sxl_g4, OkS_true, GrdS_tt, GrdS_tf, GrdS_ft, GrdS_ff, CondS_t, CondS_f, then_n, then_e, then_r, blk_n, blk_e, blk_r, upd_app, Ex.ok, Ex.val, Opd.val, POp.dst, bin_int, binOK_int, bin_str, binOK_str, resOK, resV, RB.val, sub, putc, scB, scL, oneB, conf, Ex.val.eqP, Ex.val.eqL, negV, mxV, mnV, ← wr_eq, wr_zero, wr_one, wr_m1, bst_lst, byteC, partsOK, putAll, appV, nilV, slV, sslV, optB, optNum, and_assoc, exists_and_left, exists_eq_left']) ?_
  rintro n V hn ⟨h0, h3, h5⟩
  have hw : wr .i64 ((n : Int) + 1) = n + 1 := wr_in (by omega) (by omega)
  simp [sx_skip, sx_ops, sx_seq, sx_cond, sx_block, sx_exit, sx_ret, sx_mcall, sx_mcallx, sx_mcallb, isPtrN, PV.pcs, sx_mcell, sx_mset, sx_mnset, elAt, setEl, inAt, elIn, setIn, isLst, cellsOf, sxl_nil, sxl_set, sxl_call, sxl_callv, sxl_g1, sxl_g2, sxl_g3, sxl_g4, OkS_true, GrdS_tt, GrdS_tf, GrdS_ft, GrdS_ff, CondS_t, CondS_f, then_n, then_e, then_r, blk_n, blk_e, blk_r, upd_app, Ex.ok, Ex.val, Opd.val, POp.dst, bin_int, binOK_int, bin_str, binOK_str, resOK, resV, RB.val, sub, putc, scB, scL, oneB, conf, Ex.val.eqP, Ex.val.eqL, negV, mxV, mnV, ← wr_eq, wr_zero, wr_one, wr_m1, bst_lst, byteC, partsOK, putAll, appV, nilV, slV, sslV, optB, optNum, and_assoc, exists_and_left, exists_eq_left', h0, h3, h5]
  rcases Nat.lt_or_ge n (wAt l e.f0.f0) with hlt | hge
  · have hlt' : n < l.length := by omega
    have hx := wAt_lt hlt hlt'
    clear cC cL cO cE cP cR hP1 hC hto hb1 hb2 hp hb
    repeat' (first | intro _ | (simp [sx_skip, sx_ops, sx_seq, sx_cond, sx_block, sx_exit, sx_ret, sx_mcall, sx_mcallx, sx_mcallb, isPtrN, PV.pcs, sx_mcell, sx_mset, sx_mnset, elAt, setEl, inAt, elIn, setIn, isLst, cellsOf, sxl_nil, sxl_set, sxl_call, sxl_callv, sxl_g1, sxl_g2, sxl_g3, sxl_g4, OkS_true, GrdS_tt, GrdS_tf, GrdS_ft, GrdS_ff, CondS_t, CondS_f, then_n, then_e, then_r, blk_n, blk_e, blk_r, upd_app, Ex.ok, Ex.val, Opd.val, POp.dst, bin_int, binOK_int, bin_str, binOK_str, resOK, resV, RB.val, sub, putc, scB, scL, oneB, conf, Ex.val.eqP, Ex.val.eqL, negV, mxV, mnV, ← wr_eq, wr_zero, wr_one, wr_m1, bst_lst, byteC, partsOK, putAll, appV, nilV, slV, sslV, optB, optNum, and_assoc, exists_and_left, exists_eq_left', en, *]) | refine CondS_d (fun h => ?_) (fun h => ?_) | refine CondS_b (fun h => ?_) (fun h => ?_) | refine GrdS_d (fun h => ?_) (fun h => ?_) | refine GrdS_b (fun h => ?_) (fun h => ?_) | refine OkS_i (by omega) ?_ | fail)
  obtain rfl : n = wAt l e.f0.f0 := by omega
  clear hp hb hef hee
  have hT1 : List.take l.length (List.map en l) = List.map en l := List.take_of_length_le (by simp)
  have hT2 : List.take (l.length - wAt l e.f0.f0) (List.drop (wAt l e.f0.f0) (List.map en l)) = List.drop (wAt l e.f0.f0) (List.map en l) := List.take_of_length_le (by simp)
  have hT3 : (List.drop (wAt l e.f0.f0) (List.map en l)).tail = List.drop (wAt l e.f0.f0 + 1) (List.map en l) := by rw [List.tail_drop]
  by_cases hlt' : wAt l e.f0.f0 < l.length
  · have hx := wAt_stop hlt'
    have hpos : 0 < l.length - wAt l e.f0.f0 := by omega
    by_cases hid : l[wAt l e.f0.f0].f0.f0 = e.f0.f0
    · have hh := tk_hit hlt' hid
      have cN := f86 e l[wAt l e.f0.f0]
      obtain ⟨nb, hnb⟩ : ∃ b, wNew e l[wAt l e.f0.f0] = b := ⟨_, rfl⟩
      rw [hnb] at cN
      unfold en at cN
      rw [hid] at cN
      cases nb with
      | false =>
        have hR : (tk l e).map en = C := by rw [tk_old hlt' hh hnb, hC]
        repeat' (first | intro _ | (simp [sx_skip, sx_ops, sx_seq, sx_cond, sx_block, sx_exit, sx_ret, sx_mcall, sx_mcallx, sx_mcallb, isPtrN, PV.pcs, sx_mcell, sx_mset, sx_mnset, elAt, setEl, inAt, elIn, setIn, isLst, cellsOf, sxl_nil, sxl_set, sxl_call, sxl_callv, sxl_g1, sxl_g2, sxl_g3, sxl_g4, OkS_true, GrdS_tt, GrdS_tf, GrdS_ft, GrdS_ff, CondS_t, CondS_f, then_n, then_e, then_r, blk_n, blk_e, blk_r, upd_app, Ex.ok, Ex.val, Opd.val, POp.dst, bin_int, binOK_int, bin_str, binOK_str, resOK, resV, RB.val, sub, putc, scB, scL, oneB, conf, Ex.val.eqP, Ex.val.eqL, negV, mxV, mnV, ← wr_eq, wr_zero, wr_one, wr_m1, bst_lst, byteC, partsOK, putAll, appV, nilV, slV, sslV, optB, optNum, and_assoc, exists_and_left, exists_eq_left', en, hR, *]) | refine CallS_i (cC) ?_ | refine CallS_i (cN) ?_ | refine CallM_i (cC) ?_ | refine CallM_i (cN) ?_ | refine CallE_i (cC) ?_ | refine CallE_i (cN) ?_ | refine CallX_i (cC) ?_ | refine CallX_i (cN) ?_ | refine CallB_i (cC) ?_ | refine CallB_i (cN) ?_ | refine CondS_d (fun h => ?_) (fun h => ?_) | refine CondS_b (fun h => ?_) (fun h => ?_) | refine GrdS_d (fun h => ?_) (fun h => ?_) | refine GrdS_b (fun h => ?_) (fun h => ?_) | refine OkS_i (by omega) ?_ | fail)
      | true =>
        have cR' := cR (wAt l e.f0.f0 + 1)
        rw [if_pos hh] at cO hto
        obtain ⟨P2, hP2⟩ : ∃ P, ((l.drop (wAt l e.f0.f0 + 1)).map En.fr).map en = P := ⟨_, rfl⟩
        rw [hP2] at cO hto cR'
        have hR := tk_is (l := l) (e := e) (.inr ⟨hlt', hnb⟩)
        rw [hb1, hb2] at hR
        have hP2l : P2.length ≤ l.length := by rw [← hP2]; simp
        cases b1 <;> cases b2
        all_goals simp at hR
        all_goals (first | replace hR : (tk l e).map en = C := (by rw [hR, hC]) | rw [← hR] at hto)
        all_goals clear cR hb1 hb2 hnb hP1 hP2 hC
        all_goals repeat' (first | intro _ | (simp [sx_skip, sx_ops, sx_seq, sx_cond, sx_block, sx_exit, sx_ret, sx_mcall, sx_mcallx, sx_mcallb, isPtrN, PV.pcs, sx_mcell, sx_mset, sx_mnset, elAt, setEl, inAt, elIn, setIn, isLst, cellsOf, sxl_nil, sxl_set, sxl_call, sxl_callv, sxl_g1, sxl_g2, sxl_g3, sxl_g4, OkS_true, GrdS_tt, GrdS_tf, GrdS_ft, GrdS_ff, CondS_t, CondS_f, then_n, then_e, then_r, blk_n, blk_e, blk_r, upd_app, Ex.ok, Ex.val, Opd.val, POp.dst, bin_int, binOK_int, bin_str, binOK_str, resOK, resV, RB.val, sub, putc, scB, scL, oneB, conf, Ex.val.eqP, Ex.val.eqL, negV, mxV, mnV, ← wr_eq, wr_zero, wr_one, wr_m1, bst_lst, byteC, partsOK, putAll, appV, nilV, slV, sslV, optB, optNum, and_assoc, exists_and_left, exists_eq_left', en, *]) | refine CallS_i (cN) ?_ | refine CallS_i (cP) ?_ | refine CallS_i (cE) ?_ | refine CallS_i (cR') ?_ | refine CallS_i (cL) ?_ | refine CallS_i (cO) ?_ | refine CallS_i (cC) ?_ | refine CallM_i (cN) ?_ | refine CallM_i (cP) ?_ | refine CallM_i (cE) ?_ | refine CallM_i (cR') ?_ | refine CallM_i (cL) ?_ | refine CallM_i (cO) ?_ | refine CallM_i (cC) ?_ | refine CallE_i (cN) ?_ | refine CallE_i (cP) ?_ | refine CallE_i (cE) ?_ | refine CallE_i (cR') ?_ | refine CallE_i (cL) ?_ | refine CallE_i (cO) ?_ | refine CallE_i (cC) ?_ | refine CallX_i (cN) ?_ | refine CallX_i (cP) ?_ | refine CallX_i (cE) ?_ | refine CallX_i (cR') ?_ | refine CallX_i (cL) ?_ | refine CallX_i (cO) ?_ | refine CallX_i (cC) ?_ | refine CallB_i (cN) ?_ | refine CallB_i (cP) ?_ | refine CallB_i (cE) ?_ | refine CallB_i (cR') ?_ | refine CallB_i (cL) ?_ | refine CallB_i (cO) ?_ | refine CallB_i (cC) ?_ | refine CondS_d (fun h => ?_) (fun h => ?_) | refine CondS_b (fun h => ?_) (fun h => ?_) | refine GrdS_d (fun h => ?_) (fun h => ?_) | refine GrdS_b (fun h => ?_) (fun h => ?_) | refine OkS_i (by omega) ?_ | fail)
        all_goals first | omega | simp_all
    · have hh := tk_no hlt' hid
      have cR' := cR (wAt l e.f0.f0)
      rw [if_neg (by simp [hh])] at cO hto
      obtain ⟨P2, hP2⟩ : ∃ P, ((l.drop (wAt l e.f0.f0)).map En.fr).map en = P := ⟨_, rfl⟩
      rw [hP2] at cO hto cR'
      have hR := tk_is (l := l) (e := e) (.inl hh)
      rw [hb1, hb2] at hR
      have hP2l : P2.length ≤ l.length := by rw [← hP2]; simp
      cases b1 <;> cases b2
      all_goals simp at hR
      all_goals (first | replace hR : (tk l e).map en = C := (by rw [hR, hC]) | rw [← hR] at hto)
      all_goals clear cR hb1 hb2 hP1 hP2 hC
      all_goals repeat' (first | intro _ | (simp [sx_skip, sx_ops, sx_seq, sx_cond, sx_block, sx_exit, sx_ret, sx_mcall, sx_mcallx, sx_mcallb, isPtrN, PV.pcs, sx_mcell, sx_mset, sx_mnset, elAt, setEl, inAt, elIn, setIn, isLst, cellsOf, sxl_nil, sxl_set, sxl_call, sxl_callv, sxl_g1, sxl_g2, sxl_g3, sxl_g4, OkS_true, GrdS_tt, GrdS_tf, GrdS_ft, GrdS_ff, CondS_t, CondS_f, then_n, then_e, then_r, blk_n, blk_e, blk_r, upd_app, Ex.ok, Ex.val, Opd.val, POp.dst, bin_int, binOK_int, bin_str, binOK_str, resOK, resV, RB.val, sub, putc, scB, scL, oneB, conf, Ex.val.eqP, Ex.val.eqL, negV, mxV, mnV, ← wr_eq, wr_zero, wr_one, wr_m1, bst_lst, byteC, partsOK, putAll, appV, nilV, slV, sslV, optB, optNum, and_assoc, exists_and_left, exists_eq_left', en, *]) | refine CallS_i (cP) ?_ | refine CallS_i (cE) ?_ | refine CallS_i (cR') ?_ | refine CallS_i (cL) ?_ | refine CallS_i (cO) ?_ | refine CallS_i (cC) ?_ | refine CallM_i (cP) ?_ | refine CallM_i (cE) ?_ | refine CallM_i (cR') ?_ | refine CallM_i (cL) ?_ | refine CallM_i (cO) ?_ | refine CallM_i (cC) ?_ | refine CallE_i (cP) ?_ | refine CallE_i (cE) ?_ | refine CallE_i (cR') ?_ | refine CallE_i (cL) ?_ | refine CallE_i (cO) ?_ | refine CallE_i (cC) ?_ | refine CallX_i (cP) ?_ | refine CallX_i (cE) ?_ | refine CallX_i (cR') ?_ | refine CallX_i (cL) ?_ | refine CallX_i (cO) ?_ | refine CallX_i (cC) ?_ | refine CallB_i (cP) ?_ | refine CallB_i (cE) ?_ | refine CallB_i (cR') ?_ | refine CallB_i (cL) ?_ | refine CallB_i (cO) ?_ | refine CallB_i (cC) ?_ | refine CondS_d (fun h => ?_) (fun h => ?_) | refine CondS_b (fun h => ?_) (fun h => ?_) | refine GrdS_d (fun h => ?_) (fun h => ?_) | refine GrdS_b (fun h => ?_) (fun h => ?_) | refine OkS_i (by omega) ?_ | fail)
      all_goals first | omega | simp_all
  · have hh := tk_end hlt'
    have cR' := cR (wAt l e.f0.f0)
    rw [if_neg (by simp [hh])] at cO hto
    obtain ⟨P2, hP2⟩ : ∃ P, ((l.drop (wAt l e.f0.f0)).map En.fr).map en = P := ⟨_, rfl⟩
    rw [hP2] at cO hto cR'
    have hR := tk_is (l := l) (e := e) (.inl hh)
    rw [hb1, hb2] at hR
    have hP2l : P2.length ≤ l.length := by rw [← hP2]; simp
    have hz : l.length - wAt l e.f0.f0 = 0 := by omega
    cases b1 <;> cases b2
    all_goals simp at hR
    all_goals (first | replace hR : (tk l e).map en = C := (by rw [hR, hC]) | rw [← hR] at hto)
    all_goals clear cR hb1 hb2 hP1 hP2 hC
    all_goals repeat' (first | intro _ | (simp [sx_skip, sx_ops, sx_seq, sx_cond, sx_block, sx_exit, sx_ret, sx_mcall, sx_mcallx, sx_mcallb, isPtrN, PV.pcs, sx_mcell, sx_mset, sx_mnset, elAt, setEl, inAt, elIn, setIn, isLst, cellsOf, sxl_nil, sxl_set, sxl_call, sxl_callv, sxl_g1, sxl_g2, sxl_g3, sxl_g4, OkS_true, GrdS_tt, GrdS_tf, GrdS_ft, GrdS_ff, CondS_t, CondS_f, then_n, then_e, then_r, blk_n, blk_e, blk_r, upd_app, Ex.ok, Ex.val, Opd.val, POp.dst, bin_int, binOK_int, bin_str, binOK_str, resOK, resV, RB.val, sub, putc, scB, scL, oneB, conf, Ex.val.eqP, Ex.val.eqL, negV, mxV, mnV, ← wr_eq, wr_zero, wr_one, wr_m1, bst_lst, byteC, partsOK, putAll, appV, nilV, slV, sslV, optB, optNum, and_assoc, exists_and_left, exists_eq_left', en, *]) | refine CallS_i (cP) ?_ | refine CallS_i (cE) ?_ | refine CallS_i (cR') ?_ | refine CallS_i (cL) ?_ | refine CallS_i (cO) ?_ | refine CallS_i (cC) ?_ | refine CallM_i (cP) ?_ | refine CallM_i (cE) ?_ | refine CallM_i (cR') ?_ | refine CallM_i (cL) ?_ | refine CallM_i (cO) ?_ | refine CallM_i (cC) ?_ | refine CallE_i (cP) ?_ | refine CallE_i (cE) ?_ | refine CallE_i (cR') ?_ | refine CallE_i (cL) ?_ | refine CallE_i (cO) ?_ | refine CallE_i (cC) ?_ | refine CallX_i (cP) ?_ | refine CallX_i (cE) ?_ | refine CallX_i (cR') ?_ | refine CallX_i (cL) ?_ | refine CallX_i (cO) ?_ | refine CallX_i (cC) ?_ | refine CallB_i (cP) ?_ | refine CallB_i (cE) ?_ | refine CallB_i (cR') ?_ | refine CallB_i (cL) ?_ | refine CallB_i (cO) ?_ | refine CallB_i (cC) ?_ | refine CondS_d (fun h => ?_) (fun h => ?_) | refine CondS_b (fun h => ?_) (fun h => ?_) | refine GrdS_d (fun h => ?_) (fun h => ?_) | refine GrdS_b (fun h => ?_) (fun h => ?_) | refine OkS_i (by omega) ?_ | fail)
    all_goals first | omega | simp_all
end Go.Eng
namespace Go.Eng
open Go Go.Proofs Geo
set_option linter.unusedSimpArgs false
set_option linter.unusedVariables false
set_option maxRecDepth 20000
set_option maxHeartbeats 1000000

/-! an entry is taken into a log, and a log into a log. WRITES -/
theorem tkO_set {l : List En} {e : En} (h : wAt l e.f0.f0 < l.length) (hh : hit l e = true) : ((l.map En.fr).map en).set (wAt l e.f0.f0) (en e.fr) = (tkO l e).map en := by
  unfold tkO
  rw [if_pos hh, List.map_append, List.map_cons, List.set_eq_take_append_cons_drop, if_pos (by simpa using h)]
  simp
theorem tkO_ins {l : List En} {e : En} (hh : hit l e = false) : ((l.map En.fr).map en).take (wAt l e.f0.f0) ++ en e.fr :: ((l.map En.fr).map en).drop (wAt l e.f0.f0) = (tkO l e).map en := by
  unfold tkO
  rw [if_neg (by simp [hh]), List.map_append, List.map_cons]
  simp
theorem tk_bad {l : List En} {e : En} (h : wLog l = false) : tk l e = l.map En.fr := by unfold tk; rw [h]; simp
theorem f25 (l : List En) (e : En) (nl : Bool) (hl : l.length ≤ 1048576) (hb : ∀ x ∈ l, x.f0.okay) (he : e.f0.okay) (hp : ∀ x ∈ l, x.f0.f4.length ≤ 1000000000) (hpe : e.f0.f4.length ≤ 1000000000)
    (hn : ∀ x ∈ l, x.f0.nl = false) (hne : e.f0.nl = false) :
    Fn Try.prog 25 true [.lst 8 nl (l.map en), .agg (en e)] (.lst 8 false ((tk l e).map en)) := by
  have hk := wAt_le l e.f0.f0
  have hee : en e = [i e.f0.f0, i e.f0.f1, i e.f0.f2, .str e.f0.f3, .lst 2 false (e.f0.f4.map cp), i e.f1, i e.f2, .bool e.f3] := by unfold en; rw [hne]
  have hef : en e.fr = [i e.f0.f0, i e.f0.f1, i e.f0.f2, .str e.f0.f3, .lst 2 false (e.f0.f4.map cp), i e.f1, i e.f2, .bool e.f3] := rfl
  have cC := f89 l nl (by omega) hp hn
  have cL := f35 l nl (by omega) hb
  have cO := f35 (tkO l e) false (by have := @tkO_len l e; omega) (tkO_ok (p := fun x => x.f0.okay) (fun x hx => hb x hx) he)
  have cE := f90 e.f0 hne hpe
  unfold ft Ft.fr at cE
  rw [hne] at cE
  rw [hee]
  obtain ⟨b1, hb1⟩ : ∃ b, wLog l = b := ⟨_, rfl⟩
  obtain ⟨b2, hb2⟩ : ∃ b, wLog (tkO l e) = b := ⟨_, rfl⟩
  rw [hb1] at cL
  rw [hb2] at cO
  have hset := @tkO_set l e
  have hins := @tkO_ins l e
  rw [hef] at hset hins
  obtain ⟨C, hC⟩ : ∃ C, (l.map En.fr).map en = C := ⟨_, rfl⟩
  obtain ⟨T, hT⟩ : ∃ T, (tkO l e).map en = T := ⟨_, rfl⟩
  rw [hC] at cC hset hins
  rw [hT] at cO hset hins
  have hCl : C.length = l.length := by rw [← hC]; simp
  have hC8 : ∀ cs ∈ C, cs.length = 8 := fun cs hcs => by
    rw [← hC] at hcs
    obtain ⟨y, _, rfl⟩ := List.mem_map.1 hcs
    rfl
  refine Fn.by_sx hX (by kernel_rfl) c25 (by kernel_rfl) (by rfl) ?_
  simp [i25, sx_skip, sx_ops, sx_seq, sx_cond, sx_block, sx_exit, sx_ret, sx_mcall, sx_mcallx, sx_mcallb, isPtrN, PV.pcs, sx_mcell, sx_mset, sx_mnset, elAt, setEl, inAt, elIn, setIn, isLst, cellsOf, sxl_nil, sxl_set, sxl_call, sxl_callv, sxl_g1, sxl_g2, sxl_g3, sxl_g4, OkS_true, GrdS_tt, GrdS_tf, GrdS_ft, GrdS_ff, CondS_t, CondS_f, then_n, then_e, then_r, blk_n, blk_e, blk_r, upd_app, Ex.ok, Ex.val, Opd.val, POp.dst, bin_int, binOK_int, bin_str, binOK_str, resOK, resV, RB.val, sub, putc, scB, scL, oneB, conf, Ex.val.eqP, Ex.val.eqL, negV, mxV, mnV, ← wr_eq, wr_zero, wr_one, wr_m1, bst_lst, byteC, partsOK, putAll, appV, nilV, slV, sslV, optB, optNum, and_assoc, exists_and_left, exists_eq_left']
  cases b1 with
  | false =>
    have hR : (tk l e).map en = C := by rw [tk_bad hb1, hC]
    repeat' (first | intro _ | (simp [sx_skip, sx_ops, sx_seq, sx_cond, sx_block, sx_exit, sx_ret, sx_mcall, sx_mcallx, sx_mcallb, isPtrN, PV.pcs, sx_mcell, sx_mset, sx_mnset, elAt, setEl, inAt, elIn, setIn, isLst, cellsOf, sxl_nil, sxl_set, sxl_call, sxl_callv, sxl_g1, sxl_g2, sxl_g3, sxl_g4, OkS_true, GrdS_tt, GrdS_tf, GrdS_ft, GrdS_ff, CondS_t, CondS_f, then_n, then_e, then_r, blk_n, blk_e, blk_r, upd_app, Ex.ok, Ex.val, Opd.val, POp.dst, bin_int, binOK_int, bin_str, binOK_str, resOK, resV, RB.val, sub, putc, scB, scL, oneB, conf, Ex.val.eqP, Ex.val.eqL, negV, mxV, mnV, ← wr_eq, wr_zero, wr_one, wr_m1, bst_lst, byteC, partsOK, putAll, appV, nilV, slV, sslV, optB, optNum, and_assoc, exists_and_left, exists_eq_left', *]) | refine CallS_i (cC) ?_ | refine CallS_i (cL) ?_ | refine CallM_i (cC) ?_ | refine CallM_i (cL) ?_ | refine CallE_i (cC) ?_ | refine CallE_i (cL) ?_ | refine CallX_i (cC) ?_ | refine CallX_i (cL) ?_ | refine CallB_i (cC) ?_ | refine CallB_i (cL) ?_ | refine CondS_d (fun h => ?_) (fun h => ?_) | refine CondS_b (fun h => ?_) (fun h => ?_) | refine GrdS_d (fun h => ?_) (fun h => ?_) | refine GrdS_b (fun h => ?_) (fun h => ?_) | refine OkS_i (by omega) ?_ | fail)
  | true =>
  clear hp hb hn
  repeat' (first | intro _ | (simp [sx_skip, sx_ops, sx_seq, sx_cond, sx_block, sx_exit, sx_ret, sx_mcall, sx_mcallx, sx_mcallb, isPtrN, PV.pcs, sx_mcell, sx_mset, sx_mnset, elAt, setEl, inAt, elIn, setIn, isLst, cellsOf, sxl_nil, sxl_set, sxl_call, sxl_callv, sxl_g1, sxl_g2, sxl_g3, sxl_g4, OkS_true, GrdS_tt, GrdS_tf, GrdS_ft, GrdS_ff, CondS_t, CondS_f, then_n, then_e, then_r, blk_n, blk_e, blk_r, upd_app, Ex.ok, Ex.val, Opd.val, POp.dst, bin_int, binOK_int, bin_str, binOK_str, resOK, resV, RB.val, sub, putc, scB, scL, oneB, conf, Ex.val.eqP, Ex.val.eqL, negV, mxV, mnV, ← wr_eq, wr_zero, wr_one, wr_m1, bst_lst, byteC, partsOK, putAll, appV, nilV, slV, sslV, optB, optNum, and_assoc, exists_and_left, exists_eq_left', *]) | refine CallS_i (cC) ?_ | refine CallS_i (cL) ?_ | refine CallM_i (cC) ?_ | refine CallM_i (cL) ?_ | refine CallE_i (cC) ?_ | refine CallE_i (cL) ?_ | refine CallX_i (cC) ?_ | refine CallX_i (cL) ?_ | refine CallB_i (cC) ?_ | refine CallB_i (cL) ?_ | refine CondS_d (fun h => ?_) (fun h => ?_) | refine CondS_b (fun h => ?_) (fun h => ?_) | refine GrdS_d (fun h => ?_) (fun h => ?_) | refine GrdS_b (fun h => ?_) (fun h => ?_) | refine OkS_i (by omega) ?_ | fail)
  refine sx_count (wAt l e.f0.f0) (fun n V => V 0 = .lst 8 nl (l.map en) ∧ V 3 = .ptr [i e.f0.f0, i e.f0.f1, i e.f0.f2, .str e.f0.f3, .lst 2 false (e.f0.f4.map cp), i e.f1, i e.f2, .bool e.f3] ∧ V 5 = .lst 8 false C ∧ V 6 = i n) 0 (by omega) (by simp [sx_skip, sx_ops, sx_seq, sx_cond, sx_block, sx_exit, sx_ret, sx_mcall, sx_mcallx, sx_mcallb, isPtrN, PV.pcs, sx_mcell, sx_mset, sx_mnset, elAt, setEl, inAt, elIn, setIn, isLst, cellsOf, sxl_nil, sxl_set, sxl_call, sxl_callv, sxl_g1, sxl_g2, sxl_g3, sxl_g4, OkS_true, GrdS_tt, GrdS_tf, GrdS_ft, GrdS_ff, CondS_t, CondS_f, then_n, then_e, then_r, blk_n, blk_e, blk_r, upd_app, Ex.ok, Ex.val, Opd.val, POp.dst, bin_int, binOK_int, bin_str, binOK_str, resOK, resV, RB.val, sub, putc, scB, scL, oneB, conf, Ex.val.eqP, Ex.val.eqL, negV, mxV, mnV, ← wr_eq, wr_zero, wr_one, wr_m1, bst_lst, byteC, partsOK, putAll, appV, nilV, slV, sslV, optB, optNum, and_assoc, exists_and_left, exists_eq_left']) ?_
  rintro n V hn ⟨h0, h3, h5, h6⟩
  have hw : wr .i64 ((n : Int) + 1) = n + 1 := wr_in (by omega) (by omega)
  simp [sx_skip, sx_ops, sx_seq, sx_cond, sx_block, sx_exit, sx_ret, sx_mcall, sx_mcallx, sx_mcallb, isPtrN, PV.pcs, sx_mcell, sx_mset, sx_mnset, elAt, setEl, inAt, elIn, setIn, isLst, cellsOf, sxl_nil, sxl_set, sxl_call, sxl_callv, sxl_g1, sxl_g2, sxl_g3, sxl_g4, OkS_true, GrdS_tt, GrdS_tf, GrdS_ft, GrdS_ff, CondS_t, CondS_f, then_n, then_e, then_r, blk_n, blk_e, blk_r, upd_app, Ex.ok, Ex.val, Opd.val, POp.dst, bin_int, binOK_int, bin_str, binOK_str, resOK, resV, RB.val, sub, putc, scB, scL, oneB, conf, Ex.val.eqP, Ex.val.eqL, negV, mxV, mnV, ← wr_eq, wr_zero, wr_one, wr_m1, bst_lst, byteC, partsOK, putAll, appV, nilV, slV, sslV, optB, optNum, and_assoc, exists_and_left, exists_eq_left', h0, h3, h6]
  rcases Nat.lt_or_ge n (wAt l e.f0.f0) with hlt | hge
  · have hlt' : n < l.length := by omega
    have hx := wAt_lt hlt hlt'
    clear cC cL cO cE hset hins hC hT hb1 hb2
    repeat' (first | intro _ | (simp [sx_skip, sx_ops, sx_seq, sx_cond, sx_block, sx_exit, sx_ret, sx_mcall, sx_mcallx, sx_mcallb, isPtrN, PV.pcs, sx_mcell, sx_mset, sx_mnset, elAt, setEl, inAt, elIn, setIn, isLst, cellsOf, sxl_nil, sxl_set, sxl_call, sxl_callv, sxl_g1, sxl_g2, sxl_g3, sxl_g4, OkS_true, GrdS_tt, GrdS_tf, GrdS_ft, GrdS_ff, CondS_t, CondS_f, then_n, then_e, then_r, blk_n, blk_e, blk_r, upd_app, Ex.ok, Ex.val, Opd.val, POp.dst, bin_int, binOK_int, bin_str, binOK_str, resOK, resV, RB.val, sub, putc, scB, scL, oneB, conf, Ex.val.eqP, Ex.val.eqL, negV, mxV, mnV, ← wr_eq, wr_zero, wr_one, wr_m1, bst_lst, byteC, partsOK, putAll, appV, nilV, slV, sslV, optB, optNum, and_assoc, exists_and_left, exists_eq_left', en, *]) | refine CondS_d (fun h => ?_) (fun h => ?_) | refine CondS_b (fun h => ?_) (fun h => ?_) | refine GrdS_d (fun h => ?_) (fun h => ?_) | refine GrdS_b (fun h => ?_) (fun h => ?_) | refine OkS_i (by omega) ?_ | fail)
  obtain rfl : n = wAt l e.f0.f0 := by omega
  clear hef hee
  by_cases hlt' : wAt l e.f0.f0 < l.length
  · have hx := wAt_stop hlt'
    by_cases hid : l[wAt l e.f0.f0].f0.f0 = e.f0.f0
    · have hh := tk_hit hlt' hid
      have cN := f38 e l[wAt l e.f0.f0]
      obtain ⟨nb, hnb⟩ : ∃ b, wNew e l[wAt l e.f0.f0] = b := ⟨_, rfl⟩
      rw [hnb] at cN
      unfold en at cN
      rw [hid, hne] at cN
      cases nb with
      | false =>
        have hR : (tk l e).map en = C := by rw [tk_old hlt' hh hnb, hC]
        repeat' (first | intro _ | (simp [sx_skip, sx_ops, sx_seq, sx_cond, sx_block, sx_exit, sx_ret, sx_mcall, sx_mcallx, sx_mcallb, isPtrN, PV.pcs, sx_mcell, sx_mset, sx_mnset, elAt, setEl, inAt, elIn, setIn, isLst, cellsOf, sxl_nil, sxl_set, sxl_call, sxl_callv, sxl_g1, sxl_g2, sxl_g3, sxl_g4, OkS_true, GrdS_tt, GrdS_tf, GrdS_ft, GrdS_ff, CondS_t, CondS_f, then_n, then_e, then_r, blk_n, blk_e, blk_r, upd_app, Ex.ok, Ex.val, Opd.val, POp.dst, bin_int, binOK_int, bin_str, binOK_str, resOK, resV, RB.val, sub, putc, scB, scL, oneB, conf, Ex.val.eqP, Ex.val.eqL, negV, mxV, mnV, ← wr_eq, wr_zero, wr_one, wr_m1, bst_lst, byteC, partsOK, putAll, appV, nilV, slV, sslV, optB, optNum, and_assoc, exists_and_left, exists_eq_left', en, hR, *]) | refine CallS_i (cC) ?_ | refine CallS_i (cN) ?_ | refine CallS_i (cE) ?_ | refine CallM_i (cC) ?_ | refine CallM_i (cN) ?_ | refine CallM_i (cE) ?_ | refine CallE_i (cC) ?_ | refine CallE_i (cN) ?_ | refine CallE_i (cE) ?_ | refine CallX_i (cC) ?_ | refine CallX_i (cN) ?_ | refine CallX_i (cE) ?_ | refine CallB_i (cC) ?_ | refine CallB_i (cN) ?_ | refine CallB_i (cE) ?_ | refine CondS_d (fun h => ?_) (fun h => ?_) | refine CondS_b (fun h => ?_) (fun h => ?_) | refine GrdS_d (fun h => ?_) (fun h => ?_) | refine GrdS_b (fun h => ?_) (fun h => ?_) | refine OkS_i (by omega) ?_ | fail)
      | true =>
        have hs := hset hlt' hh
        have hkC : wAt l e.f0.f0 < C.length := by omega
        have hd8 : List.drop 8 C[wAt l e.f0.f0] = [] := List.drop_of_length_le (by rw [hC8 _ (List.getElem_mem hkC)]; omega)
        have hR := tk_is (l := l) (e := e) (.inr ⟨hlt', hnb⟩)
        rw [hb1, hb2] at hR
        cases b2
        all_goals simp at hR
        all_goals (first | replace hR : (tk l e).map en = C := (by rw [hR, hC]) | rw [← hR] at hT)
        all_goals clear hb1 hb2 hnb hC hset hins hC8
        all_goals repeat' (first | intro _ | (simp [sx_skip, sx_ops, sx_seq, sx_cond, sx_block, sx_exit, sx_ret, sx_mcall, sx_mcallx, sx_mcallb, isPtrN, PV.pcs, sx_mcell, sx_mset, sx_mnset, elAt, setEl, inAt, elIn, setIn, isLst, cellsOf, sxl_nil, sxl_set, sxl_call, sxl_callv, sxl_g1, sxl_g2, sxl_g3, sxl_g4, OkS_true, GrdS_tt, GrdS_tf, GrdS_ft, GrdS_ff, CondS_t, CondS_f, then_n, then_e, then_r, blk_n, blk_e, blk_r, upd_app, Ex.ok, Ex.val, Opd.val, POp.dst, bin_int, binOK_int, bin_str, binOK_str, resOK, resV, RB.val, sub, putc, scB, scL, oneB, conf, Ex.val.eqP, Ex.val.eqL, negV, mxV, mnV, ← wr_eq, wr_zero, wr_one, wr_m1, bst_lst, byteC, partsOK, putAll, appV, nilV, slV, sslV, optB, optNum, and_assoc, exists_and_left, exists_eq_left', en, *]) | refine CallS_i (cN) ?_ | refine CallS_i (cE) ?_ | refine CallS_i (cO) ?_ | refine CallS_i (cC) ?_ | refine CallM_i (cN) ?_ | refine CallM_i (cE) ?_ | refine CallM_i (cO) ?_ | refine CallM_i (cC) ?_ | refine CallE_i (cN) ?_ | refine CallE_i (cE) ?_ | refine CallE_i (cO) ?_ | refine CallE_i (cC) ?_ | refine CallX_i (cN) ?_ | refine CallX_i (cE) ?_ | refine CallX_i (cO) ?_ | refine CallX_i (cC) ?_ | refine CallB_i (cN) ?_ | refine CallB_i (cE) ?_ | refine CallB_i (cO) ?_ | refine CallB_i (cC) ?_ | refine CondS_d (fun h => ?_) (fun h => ?_) | refine CondS_b (fun h => ?_) (fun h => ?_) | refine GrdS_d (fun h => ?_) (fun h => ?_) | refine GrdS_b (fun h => ?_) (fun h => ?_) | refine OkS_i (by omega) ?_ | fail)
        all_goals first | omega | simp_all
    · have hh := tk_no hlt' hid
      have hs := hins hh
      have hI := f91 (nl := false) (els := C) (v := [i e.f0.f0, i e.f0.f1, i e.f0.f2, .str e.f0.f3, .lst 2 false (e.f0.f4.map cp), i e.f1, i e.f2, .bool e.f3]) (k := wAt l e.f0.f0) (by omega) (by omega) (by omega)
      rw [hs] at hI
      have hR := tk_is (l := l) (e := e) (.inl hh)
      rw [hb1, hb2] at hR
      cases b2
      all_goals simp at hR
      all_goals (first | replace hR : (tk l e).map en = C := (by rw [hR, hC]) | rw [← hR] at hT)
      all_goals clear hb1 hb2 hC hset hins hs hC8
      all_goals repeat' (first | intro _ | (simp [sx_skip, sx_ops, sx_seq, sx_cond, sx_block, sx_exit, sx_ret, sx_mcall, sx_mcallx, sx_mcallb, isPtrN, PV.pcs, sx_mcell, sx_mset, sx_mnset, elAt, setEl, inAt, elIn, setIn, isLst, cellsOf, sxl_nil, sxl_set, sxl_call, sxl_callv, sxl_g1, sxl_g2, sxl_g3, sxl_g4, OkS_true, GrdS_tt, GrdS_tf, GrdS_ft, GrdS_ff, CondS_t, CondS_f, then_n, then_e, then_r, blk_n, blk_e, blk_r, upd_app, Ex.ok, Ex.val, Opd.val, POp.dst, bin_int, binOK_int, bin_str, binOK_str, resOK, resV, RB.val, sub, putc, scB, scL, oneB, conf, Ex.val.eqP, Ex.val.eqL, negV, mxV, mnV, ← wr_eq, wr_zero, wr_one, wr_m1, bst_lst, byteC, partsOK, putAll, appV, nilV, slV, sslV, optB, optNum, and_assoc, exists_and_left, exists_eq_left', en, *]) | refine CallS_i (cE) ?_ | refine CallS_i (hI) ?_ | refine CallS_i (cO) ?_ | refine CallS_i (cC) ?_ | refine CallM_i (cE) ?_ | refine CallM_i (hI) ?_ | refine CallM_i (cO) ?_ | refine CallM_i (cC) ?_ | refine CallE_i (cE) ?_ | refine CallE_i (hI) ?_ | refine CallE_i (cO) ?_ | refine CallE_i (cC) ?_ | refine CallX_i (cE) ?_ | refine CallX_i (hI) ?_ | refine CallX_i (cO) ?_ | refine CallX_i (cC) ?_ | refine CallB_i (cE) ?_ | refine CallB_i (hI) ?_ | refine CallB_i (cO) ?_ | refine CallB_i (cC) ?_ | refine CondS_d (fun h => ?_) (fun h => ?_) | refine CondS_b (fun h => ?_) (fun h => ?_) | refine GrdS_d (fun h => ?_) (fun h => ?_) | refine GrdS_b (fun h => ?_) (fun h => ?_) | refine OkS_i (by omega) ?_ | fail)
      all_goals first | omega | simp_all
  · have hh := tk_end hlt'
    have hs := hins hh
    have hI := f91 (nl := false) (els := C) (v := [i e.f0.f0, i e.f0.f1, i e.f0.f2, .str e.f0.f3, .lst 2 false (e.f0.f4.map cp), i e.f1, i e.f2, .bool e.f3]) (k := wAt l e.f0.f0) (by omega) (by omega) (by omega)
    rw [hs] at hI
    have hR := tk_is (l := l) (e := e) (.inl hh)
    rw [hb1, hb2] at hR
    cases b2
    all_goals simp at hR
    all_goals (first | replace hR : (tk l e).map en = C := (by rw [hR, hC]) | rw [← hR] at hT)
    all_goals clear hb1 hb2 hC hset hins hs hC8
    all_goals repeat' (first | intro _ | (simp [sx_skip, sx_ops, sx_seq, sx_cond, sx_block, sx_exit, sx_ret, sx_mcall, sx_mcallx, sx_mcallb, isPtrN, PV.pcs, sx_mcell, sx_mset, sx_mnset, elAt, setEl, inAt, elIn, setIn, isLst, cellsOf, sxl_nil, sxl_set, sxl_call, sxl_callv, sxl_g1, sxl_g2, sxl_g3, sxl_g4, OkS_true, GrdS_tt, GrdS_tf, GrdS_ft, GrdS_ff, CondS_t, CondS_f, then_n, then_e, then_r, blk_n, blk_e, blk_r, upd_app, Ex.ok, Ex.val, Opd.val, POp.dst, bin_int, binOK_int, bin_str, binOK_str, resOK, resV, RB.val, sub, putc, scB, scL, oneB, conf, Ex.val.eqP, Ex.val.eqL, negV, mxV, mnV, ← wr_eq, wr_zero, wr_one, wr_m1, bst_lst, byteC, partsOK, putAll, appV, nilV, slV, sslV, optB, optNum, and_assoc, exists_and_left, exists_eq_left', en, *]) | refine CallS_i (cE) ?_ | refine CallS_i (hI) ?_ | refine CallS_i (cO) ?_ | refine CallS_i (cC) ?_ | refine CallM_i (cE) ?_ | refine CallM_i (hI) ?_ | refine CallM_i (cO) ?_ | refine CallM_i (cC) ?_ | refine CallE_i (cE) ?_ | refine CallE_i (hI) ?_ | refine CallE_i (cO) ?_ | refine CallE_i (cC) ?_ | refine CallX_i (cE) ?_ | refine CallX_i (hI) ?_ | refine CallX_i (cO) ?_ | refine CallX_i (cC) ?_ | refine CallB_i (cE) ?_ | refine CallB_i (hI) ?_ | refine CallB_i (cO) ?_ | refine CallB_i (cC) ?_ | refine CondS_d (fun h => ?_) (fun h => ?_) | refine CondS_b (fun h => ?_) (fun h => ?_) | refine GrdS_d (fun h => ?_) (fun h => ?_) | refine GrdS_b (fun h => ?_) (fun h => ?_) | refine OkS_i (by omega) ?_ | fail)
    all_goals first | omega | simp_all
end Go.Eng
namespace Go.Eng
open Go Go.Proofs Geo
set_option linter.unusedSimpArgs false
set_option linter.unusedVariables false
set_option maxRecDepth 20000
set_option maxHeartbeats 1000000

/-! a log is taken into a log. WRITES -/
def mgTo (a b : List En) : Nat → List En
  | 0 => a.map En.fr
  | n + 1 => tk (mgTo a b n) (b.getD n enD)
def mgOf (a b : List En) : List En := if (wLog a && wLog b) = true then mgTo a b b.length else []
def En.neat (x : En) : Prop := x.f0.f3.size ≤ 1048576 ∧ x.f0.f4.length ≤ 1048576 ∧ x.f0.nl = false
theorem En.neat.ok {x : En} (h : x.neat) : x.f0.okay := ⟨by have := h.1; omega, by have := h.2.1; omega⟩
theorem En.neat.frn {x : En} (h : x.neat) : x.fr.neat := ⟨h.1, h.2.1, rfl⟩
theorem enD_neat : enD.fr.neat := ⟨by decide, by decide, rfl⟩
theorem tk_neat {l : List En} {e : En} (hl : ∀ x ∈ l, x.neat) (he : e.neat) : ∀ x ∈ tk l e, x.neat := by
  have h1 : ∀ x ∈ l.map En.fr, x.neat := fun x hx => by
    obtain ⟨y, hy, rfl⟩ := List.mem_map.1 hx
    exact (hl y hy).frn
  unfold tk
  split
  · exact h1
  · split
    · exact tkO_ok (p := En.neat) (fun x hx => (hl x hx).frn) he.frn
    · exact h1
theorem tk_len {l : List En} {e : En} (hl : l.length ≤ 16) : (tk l e).length ≤ 16 := by
  unfold tk
  split
  · simpa using hl
  · split
    · rename_i h
      simp only [Bool.and_eq_true] at h
      exact wLog_len h.2
    · simpa using hl
theorem mgTo_len {a b : List En} (ha : wLog a = true) : ∀ n, (mgTo a b n).length ≤ 16
  | 0 => by have := wLog_len ha; unfold mgTo; simpa using this
  | n + 1 => tk_len (mgTo_len ha n)
theorem mgTo_neat {a b : List En} (ha : ∀ x ∈ a, x.neat) (hb : ∀ x ∈ b, x.neat) : ∀ n, n ≤ b.length → ∀ x ∈ mgTo a b n, x.neat
  | 0, _ => fun x hx => by
    unfold mgTo at hx
    obtain ⟨y, hy, rfl⟩ := List.mem_map.1 hx
    exact (ha y hy).frn
  | n + 1, hn => by
    unfold mgTo
    exact tk_neat (mgTo_neat ha hb n (by omega)) (by simp [show n < b.length by omega]; exact hb _ (List.getElem_mem ..))
theorem mgOf_len (a b : List En) : (mgOf a b).length ≤ 16 := by
  unfold mgOf
  split
  · rename_i h
    simp only [Bool.and_eq_true] at h
    exact mgTo_len h.1 _
  · simp
theorem mgOf_neat {a b : List En} (ha : ∀ x ∈ a, x.neat) (hb : ∀ x ∈ b, x.neat) : ∀ x ∈ mgOf a b, x.neat := by
  unfold mgOf
  split
  · exact mgTo_neat ha hb _ (Nat.le_refl _)
  · intro x hx; cases hx
end Go.Eng
namespace Go.Eng
open Go Go.Proofs Geo
set_option linter.unusedSimpArgs false
set_option linter.unusedVariables false
set_option maxRecDepth 20000
set_option maxHeartbeats 1000000

/-! the law of merged logs. WRITES -/
theorem kToE_ge {l : List En} {B : Nat} (h : ∀ x ∈ l, x.f0.f4.length ≤ B) : ∀ n : Nat, n ≤ l.length → ∀ k : Int, kToE l k n ≤ k + n * (7 + 2 * (B : Int))
  | 0, _, k => by simp [kToE]
  | n + 1, hn, k => by
    have h1 := kToE_ge h n (by omega) k
    have h2 : kToE l k (n + 1) = kToE l k n + 7 + 2 * (l[n].f0.f4.length : Nat) := by simp [kToE, show n < l.length by omega]
    have h3 := h l[n] (List.getElem_mem ..)
    have h4 : ((n + 1 : Nat) : Int) * (7 + 2 * (B : Int)) = n * (7 + 2 * (B : Int)) + (7 + 2 * (B : Int)) := by rw [Int.natCast_add, Int.add_mul]; omega
    rw [h4, h2]; omega
theorem wtL_fr (l : List En) : wtL (l.map En.fr) = wtL l := by
  unfold wtL wtTo
  rw [List.take_of_length_le (Nat.le_refl _), List.take_of_length_le (Nat.le_refl _), List.map_map, List.length_map]
  rfl
theorem frE_neat {l r : List En} (hr : l.map En.fr = r) (hm : ∀ x ∈ l, x.f0.f3.size ≤ 1048576 ∧ x.f0.f4.length ≤ 1048576) : ∀ x ∈ r, x.neat := by
  intro x hx
  rw [← hr] at hx
  obtain ⟨y, hy, rfl⟩ := List.mem_map.1 hx
  exact ⟨(hm y hy).1, (hm y hy).2, rfl⟩
end Go.Eng
namespace Go.Eng
open Go Go.Proofs Geo
set_option linter.unusedSimpArgs false
set_option linter.unusedVariables false
set_option maxRecDepth 100000
set_option maxHeartbeats 1000000

/-! structs are marked: what lies behind them. WRITES -/
theorem len4 {α : Type} {l : List α} (h : l.length = 4) : ∃ a b c d, l = [a, b, c, d] := by
  match l, h with
  | [a, b, c, d], _ => exact ⟨a, b, c, d, rfl⟩
theorem len5 {α : Type} {l : List α} (h : l.length = 5) : ∃ a b c d e, l = [a, b, c, d, e] := by
  match l, h with
  | [a, b, c, d, e], _ => exact ⟨a, b, c, d, e, rfl⟩
theorem len3 {α : Type} {l : List α} (h : l.length = 3) : ∃ a b c, l = [a, b, c] := by
  match l, h with
  | [a, b, c], _ => exact ⟨a, b, c, rfl⟩
def mkB (k : Int) (x : Ft) : Ft := { x with f4 := upTo (mkPt k) x.f4.length }
theorem f93 (x : Ft) (k : Int) (hx : x.nlok) (hk0 : 0 ≤ k) (hk : k + 2 * x.f4.length ≤ 1000000000000) :
    FnM Try.prog 93 [.agg (ft x), i k] (i (k + 2 * x.f4.length)) (.agg (ft (mkB k x))) := by
  have hc := f75 x.f4 x.nl k hx hk0 hk
  have := wrap_FnM (P := Try.prog) (f := 93) (g := 75) (pre := [i x.f0, i x.f1, i x.f2, .str x.f3]) (mid := [.lst 2 x.nl (x.f4.map cp)]) (post := []) (mid' := [.lst 2 x.nl ((upTo (mkPt k) x.f4.length).map cp)]) (agg := false) (k := k) (T := 47) (by kernel_rfl) (.inr rfl) (.inr rfl) rfl hc
    (fun w ya ym yz R h1 h2 h3 hcc => by
      obtain ⟨a, b, c, d, rfl⟩ := len4 h1
      obtain ⟨e, rfl⟩ := List.length_eq_one_iff.1 h2
      obtain rfl := List.length_eq_zero_iff.1 h3
      go_enter Try.func93, Try.ntmps93
      go_wp
      refine hcc.mono ?_
      rintro e w1 ⟨rfl, hR⟩
      dsimp only
      go_wp
      go_ret
      exact ⟨rfl, hR⟩)
  exact this
theorem f29 (x : En) (k : Int) (hx : x.f0.nlok) (hk0 : 0 ≤ k) (hk : k + 2 * x.f0.f4.length ≤ 1000000000000) :
    FnM Try.prog 29 [.agg (en x), i k] (i (k + 2 * x.f0.f4.length)) (.agg (en { x with f0 := mkB k x.f0 })) := by
  have hc := f93 x.f0 k hx hk0 hk
  have := wrap_FnM (P := Try.prog) (f := 29) (g := 93) (pre := []) (mid := ft x.f0) (post := [i x.f1, i x.f2, .bool x.f3]) (mid' := ft (mkB k x.f0)) (agg := true) (k := k) (T := 49) (by kernel_rfl) (.inl rfl) (.inl rfl) rfl hc
    (fun w ya ym yz R h1 h2 h3 hcc => by
      obtain rfl := List.length_eq_zero_iff.1 h1
      obtain ⟨a, b, c, d, e, rfl⟩ := len5 h2
      obtain ⟨f, g, h, rfl⟩ := len3 h3
      go_enter Try.func29, Try.ntmps29
      go_wp
      refine hcc.mono ?_
      rintro e w1 ⟨rfl, hR⟩
      dsimp only
      go_wp
      go_ret
      exact ⟨rfl, hR⟩)
  exact this
end Go.Eng
namespace Go.Eng
open Go Go.Proofs Geo
set_option linter.unusedSimpArgs false
set_option linter.unusedVariables false
set_option maxRecDepth 20000
set_option maxHeartbeats 1000000

/-! the law of an entry taken into a log. WRITES -/
theorem tk_k {l : List En} {e : En} (hl : ∀ x ∈ l, x.neat) (he : e.neat) (hw : wtL l ≤ 1048576) : kToE (tk l e) 1 (tk l e).length ≤ 1000000000 := by
  by_cases h : tk l e = l.map En.fr
  · rw [h]
    have h1 := kToE_le (l.map En.fr) (l.map En.fr).length (Nat.le_refl _) 1
    have h2 := wtL_fr l
    unfold wtL at h2 hw
    rw [List.length_map] at h1 h2 ⊢
    omega
  · have hlen : (tk l e).length ≤ 16 := by
      unfold tk at h ⊢
      split at h
      · exact absurd rfl h
      · rename_i h0
        rw [if_neg h0]
        split at h
        · rename_i h1
          rw [if_pos h1]
          simp only [Bool.and_eq_true] at h1
          exact wLog_len h1.2
        · exact absurd rfl h
    have hN := tk_neat hl he
    have h1 := kToE_ge (B := 1048576) (fun x hx => (hN x hx).2.1) (tk l e).length (Nat.le_refl _) 1
    have : ((tk l e).length : Int) * (7 + 2 * ((1048576 : Nat) : Int)) ≤ 16 * (7 + 2 * ((1048576 : Nat) : Int)) := Int.mul_le_mul_of_nonneg_right (by omega) (by omega)
    omega
theorem tk_len2 (l : List En) (e : En) : (tk l e).length ≤ l.length + 1 := by
  unfold tk
  split
  · simp
  · split
    · exact tkO_len
    · simp
theorem f4 (l : List En) (n1 : Bool) (y : En) (hl : l.length ≤ 9223372036854775807) (hx : ∀ x ∈ l, x.f0.fits) (hy : y.f0.fits) :
    Fn Try.prog 4 false [.lst 8 n1 (l.map en), .agg (en y)] (.bool true) := by
  have hyy : en y = [i y.f0.f0, i y.f0.f1, i y.f0.f2, .str y.f0.f3, .lst 2 y.f0.nl (y.f0.f4.map cp), i y.f1, i y.f2, .bool y.f3] := rfl
  have e0 := fun h0 h1 => f21 y (1048576 - wtL l) h0 h1 hy
  have e2 := fun h => f24 y h
  rw [hyy] at e0 e2 ⊢
  refine Fn.by_sx hX (by kernel_rfl) c4 (by kernel_rfl) (by rfl) ?_
  simp [i4, sx_skip, sx_ops, sx_seq, sx_cond, sx_block, sx_exit, sx_ret, sx_mcall, sx_mcallx, sx_mcallb, isPtrN, PV.pcs, sx_mcell, sx_mset, sx_mnset, elAt, setEl, inAt, elIn, setIn, isLst, cellsOf, sxl_nil, sxl_set, sxl_call, sxl_callv, sxl_g1, sxl_g2, sxl_g3, sxl_g4, OkS_true, GrdS_tt, GrdS_tf, GrdS_ft, GrdS_ff, CondS_t, CondS_f, then_n, then_e, then_r, blk_n, blk_e, blk_r, upd_app, Ex.ok, Ex.val, Opd.val, POp.dst, bin_int, binOK_int, bin_str, binOK_str, resOK, resV, RB.val, sub, putc, scB, scL, oneB, conf, Ex.val.eqP, Ex.val.eqL, negV, mxV, mnV, ← wr_eq, wr_zero, wr_one, wr_m1, bst_lst, byteC, partsOK, putAll, appV, nilV, slV, sslV, optB, optNum, and_assoc, exists_and_left, exists_eq_left']
  refine CallS_s (f20 l n1 1048576 (by omega) (by omega) hl hx) rfl ?_
  by_cases hbig : (1048576 : Int) - wtL l < 0
  · have : szr 1048576 (wtL l : Nat) = -1 := if_pos hbig
    rw [this]
    repeat' (first | intro _ | (simp [sx_skip, sx_ops, sx_seq, sx_cond, sx_block, sx_exit, sx_ret, sx_mcall, sx_mcallx, sx_mcallb, isPtrN, PV.pcs, sx_mcell, sx_mset, sx_mnset, elAt, setEl, inAt, elIn, setIn, isLst, cellsOf, sxl_nil, sxl_set, sxl_call, sxl_callv, sxl_g1, sxl_g2, sxl_g3, sxl_g4, OkS_true, GrdS_tt, GrdS_tf, GrdS_ft, GrdS_ff, CondS_t, CondS_f, then_n, then_e, then_r, blk_n, blk_e, blk_r, upd_app, Ex.ok, Ex.val, Opd.val, POp.dst, bin_int, binOK_int, bin_str, binOK_str, resOK, resV, RB.val, sub, putc, scB, scL, oneB, conf, Ex.val.eqP, Ex.val.eqL, negV, mxV, mnV, ← wr_eq, wr_zero, wr_one, wr_m1, bst_lst, byteC, partsOK, putAll, appV, nilV, slV, sslV, optB, optNum, and_assoc, exists_and_left, exists_eq_left', *]) | refine CondS_d (fun h => ?_) (fun h => ?_) | refine CondS_b (fun h => ?_) (fun h => ?_) | refine GrdS_d (fun h => ?_) (fun h => ?_) | refine GrdS_b (fun h => ?_) (fun h => ?_) | refine OkS_i (by omega) ?_ | fail)
  have hz : szr 1048576 (wtL l : Nat) = 1048576 - wtL l := if_neg hbig
  rw [hz]
  have hnn : ¬ (1048576 : Int) - wtL l < 0 := by omega
  simp [sx_skip, sx_ops, sx_seq, sx_cond, sx_block, sx_exit, sx_ret, sx_mcall, sx_mcallx, sx_mcallb, isPtrN, PV.pcs, sx_mcell, sx_mset, sx_mnset, elAt, setEl, inAt, elIn, setIn, isLst, cellsOf, sxl_nil, sxl_set, sxl_call, sxl_callv, sxl_g1, sxl_g2, sxl_g3, sxl_g4, OkS_true, GrdS_tt, GrdS_tf, GrdS_ft, GrdS_ff, CondS_t, CondS_f, then_n, then_e, then_r, blk_n, blk_e, blk_r, upd_app, Ex.ok, Ex.val, Opd.val, POp.dst, bin_int, binOK_int, bin_str, binOK_str, resOK, resV, RB.val, sub, putc, scB, scL, oneB, conf, Ex.val.eqP, Ex.val.eqL, negV, mxV, mnV, ← wr_eq, wr_zero, wr_one, wr_m1, bst_lst, byteC, partsOK, putAll, appV, nilV, slV, sslV, optB, optNum, and_assoc, exists_and_left, exists_eq_left', hnn]
  refine CallS_s (e0 (by omega) (by omega)) rfl ?_
  by_cases hbig2 : (1048576 : Int) - wtL l - wtF y.f0 < 0
  · have : szr (1048576 - wtL l) (wtF y.f0 : Nat) = -1 := if_pos hbig2
    rw [this]
    repeat' (first | intro _ | (simp [sx_skip, sx_ops, sx_seq, sx_cond, sx_block, sx_exit, sx_ret, sx_mcall, sx_mcallx, sx_mcallb, isPtrN, PV.pcs, sx_mcell, sx_mset, sx_mnset, elAt, setEl, inAt, elIn, setIn, isLst, cellsOf, sxl_nil, sxl_set, sxl_call, sxl_callv, sxl_g1, sxl_g2, sxl_g3, sxl_g4, OkS_true, GrdS_tt, GrdS_tf, GrdS_ft, GrdS_ff, CondS_t, CondS_f, then_n, then_e, then_r, blk_n, blk_e, blk_r, upd_app, Ex.ok, Ex.val, Opd.val, POp.dst, bin_int, binOK_int, bin_str, binOK_str, resOK, resV, RB.val, sub, putc, scB, scL, oneB, conf, Ex.val.eqP, Ex.val.eqL, negV, mxV, mnV, ← wr_eq, wr_zero, wr_one, wr_m1, bst_lst, byteC, partsOK, putAll, appV, nilV, slV, sslV, optB, optNum, and_assoc, exists_and_left, exists_eq_left', *]) | refine CondS_d (fun h => ?_) (fun h => ?_) | refine CondS_b (fun h => ?_) (fun h => ?_) | refine GrdS_d (fun h => ?_) (fun h => ?_) | refine GrdS_b (fun h => ?_) (fun h => ?_) | refine OkS_i (by omega) ?_ | fail)
  have hz2 : szr (1048576 - wtL l) (wtF y.f0 : Nat) = 1048576 - wtL l - wtF y.f0 := if_neg hbig2
  rw [hz2]
  have hnn2 : ¬ (1048576 : Int) - wtL l - wtF y.f0 < 0 := by omega
  have hL := wtL_len l
  have hl' : l.length ≤ 1048576 := by omega
  have hwf : wtF y.f0 = y.f0.f3.size + y.f0.f4.length := rfl
  have hm : ∀ x ∈ l, x.f0.f3.size ≤ 1048576 ∧ x.f0.f4.length ≤ 1048576 := fun x hx => by have := wtL_mem hx; omega
  have c1 := f23 l n1 hl' fun x h => (hm x h).2
  have c2 := e2 (by omega)
  have wr := wtL_fr l
  obtain ⟨r, hr⟩ : ∃ r, l.map En.fr = r := ⟨_, rfl⟩
  have hrl : r.length ≤ 1048576 := by rw [← hr, List.length_map]; exact hl'
  have hrm := frE_neat hr hm
  rw [hr] at c1 wr
  obtain ⟨z, hz0⟩ : ∃ z, y.fr = z := ⟨_, rfl⟩
  have hzn : z.neat := by rw [← hz0]; exact ⟨by show y.f0.f3.size ≤ _; omega, by show y.f0.f4.length ≤ _; omega, rfl⟩
  have hzz : en z = [i z.f0.f0, i z.f0.f1, i z.f0.f2, .str z.f0.f3, .lst 2 false (z.f0.f4.map cp), i z.f1, i z.f2, .bool z.f3] := by unfold en; rw [hzn.2.2]
  have hze : z.f0.nl = false := hzn.2.2
  rw [hz0, hzz] at c2
  have c3 := f22 r z false hrl (fun x hx => (hrm x hx).ok) hzn.ok (fun x hx => by have := (hrm x hx).2.1; omega) (by have := hzn.2.1; omega)
  have c4 := f25 r z false hrl (fun x hx => (hrm x hx).ok) hzn.ok (fun x hx => by have := (hrm x hx).2.1; omega) (by have := hzn.2.1; omega) (fun x hx => (hrm x hx).2.2) hze
  have c5 := f26 r false false (by omega) fun x h => by have := (hrm x h).2.1; omega
  have c6 := f27 z false false (by have := hzn.2.1; omega)
  have hzs : en { z with f0 := { z.f0 with nl := false } } = [i z.f0.f0, i z.f0.f1, i z.f0.f2, .str z.f0.f3, .lst 2 false (z.f0.f4.map cp), i z.f1, i z.f2, .bool z.f3] := rfl
  rw [hzs] at c6
  rw [hzz] at c3 c4
  have hGl := tk_len2 r z
  have hGm := tk_neat hrm hzn
  have hGk := tk_k hrm hzn (by omega)
  obtain ⟨G, hGe⟩ : ∃ G, tk r z = G := ⟨_, rfl⟩
  rw [hGe] at c3 c4 hGl hGm hGk
  have c7 := f26 G false false (by omega) fun x h => by have := (hGm x h).2.1; omega
  have nlo : ∀ {L : List En}, (∀ x ∈ L, x.neat) → ∀ x ∈ L, x.f0.nlok := fun h x hx hh => by rw [(h x hx).2.2] at hh; (cases hh)
  have hk1 := kToE_mono (l := r) (k := 1) (n := 0) (m := r.length) (by omega)
  have hk1 : 1 ≤ kToE r 1 r.length := hk1
  have hk2 := kToE_mono (l := G) (k := 1) (n := 0) (m := G.length) (by omega)
  have hk2 : 1 ≤ kToE G 1 G.length := hk2
  have hrk := kToE_le r r.length (Nat.le_refl _) 1
  have d1 := f28 r false 1 (by simp) (nlo hrm) (by omega) (by omega) (by unfold wtL at *; omega)
  obtain ⟨K, hK⟩ : ∃ K, kToE r 1 r.length = K := ⟨_, rfl⟩
  rw [hK] at d1 hk1 hrk
  have d2 := f29 z K (fun hh => by rw [hze] at hh; cases hh) (by omega) (by have := hzn.2.1; unfold wtL at *; omega)
  have hmb : en { z with f0 := mkB K z.f0 } = [i z.f0.f0, i z.f0.f1, i z.f0.f2, .str z.f0.f3, .lst 2 false ((upTo (mkPt K) z.f0.f4.length).map cp), i z.f1, i z.f2, .bool z.f3] := by unfold en mkB; rw [hze]
  rw [hzz, hmb] at d2
  have d3 := f28 G false 1 (by simp) (nlo hGm) (by omega) (by omega) hGk
  have d4 := f30 G false 1 (by omega) (by omega) hGk
  obtain ⟨R, hR⟩ : ∃ R, (upTo (mkEnAt r 1) r.length).map en = R := ⟨_, rfl⟩
  obtain ⟨K2, hK2e⟩ : ∃ K2 : Int, K + 2 * (z.f0.f4.length : Int) = K2 := ⟨_, rfl⟩
  obtain ⟨m, hme⟩ : ∃ m : Int, kToE G 1 G.length = m := ⟨_, rfl⟩
  obtain ⟨GG, hGG⟩ : ∃ GG, (upTo (mkEnAt G 1) G.length).map en = GG := ⟨_, rfl⟩
  have hK0 : ¬ K2 < 0 := by omega
  rw [hR] at d1
  rw [hK2e] at d2
  rw [hme] at d3 d4 hk2
  rw [hGG] at d3 d4
  have hm0 : ¬ m < 0 := by omega
  clear hr hz hz2 hGe hK hR hme hGG hGk hrk hK2e hGm hrm nlo wr hm hzn hz0 hzz hzs hmb e0 e2 hyy hwf hze
  repeat' (first | intro _ | (simp [sx_skip, sx_ops, sx_seq, sx_cond, sx_block, sx_exit, sx_ret, sx_mcall, sx_mcallx, sx_mcallb, isPtrN, PV.pcs, sx_mcell, sx_mset, sx_mnset, elAt, setEl, inAt, elIn, setIn, isLst, cellsOf, sxl_nil, sxl_set, sxl_call, sxl_callv, sxl_g1, sxl_g2, sxl_g3, sxl_g4, OkS_true, GrdS_tt, GrdS_tf, GrdS_ft, GrdS_ff, CondS_t, CondS_f, then_n, then_e, then_r, blk_n, blk_e, blk_r, upd_app, Ex.ok, Ex.val, Opd.val, POp.dst, bin_int, binOK_int, bin_str, binOK_str, resOK, resV, RB.val, sub, putc, scB, scL, oneB, conf, Ex.val.eqP, Ex.val.eqL, negV, mxV, mnV, ← wr_eq, wr_zero, wr_one, wr_m1, bst_lst, byteC, partsOK, putAll, appV, nilV, slV, sslV, optB, optNum, and_assoc, exists_and_left, exists_eq_left', *]) | refine CallS_i (c1) ?_ | refine CallS_i (c2) ?_ | refine CallS_i (c3) ?_ | refine CallS_i (c4) ?_ | refine CallS_i (c5) ?_ | refine CallS_i (c6) ?_ | refine CallS_i (c7) ?_ | refine CallS_i (d1) ?_ | refine CallS_i (d2) ?_ | refine CallS_i (d3) ?_ | refine CallS_i (d4) ?_ | refine CallM_i (c1) ?_ | refine CallM_i (c2) ?_ | refine CallM_i (c3) ?_ | refine CallM_i (c4) ?_ | refine CallM_i (c5) ?_ | refine CallM_i (c6) ?_ | refine CallM_i (c7) ?_ | refine CallM_i (d1) ?_ | refine CallM_i (d2) ?_ | refine CallM_i (d3) ?_ | refine CallM_i (d4) ?_ | refine CallE_i (c1) ?_ | refine CallE_i (c2) ?_ | refine CallE_i (c3) ?_ | refine CallE_i (c4) ?_ | refine CallE_i (c5) ?_ | refine CallE_i (c6) ?_ | refine CallE_i (c7) ?_ | refine CallE_i (d1) ?_ | refine CallE_i (d2) ?_ | refine CallE_i (d3) ?_ | refine CallE_i (d4) ?_ | refine CallX_i (c1) ?_ | refine CallX_i (c2) ?_ | refine CallX_i (c3) ?_ | refine CallX_i (c4) ?_ | refine CallX_i (c5) ?_ | refine CallX_i (c6) ?_ | refine CallX_i (c7) ?_ | refine CallX_i (d1) ?_ | refine CallX_i (d2) ?_ | refine CallX_i (d3) ?_ | refine CallX_i (d4) ?_ | refine CallB_i (c1) ?_ | refine CallB_i (c2) ?_ | refine CallB_i (c3) ?_ | refine CallB_i (c4) ?_ | refine CallB_i (c5) ?_ | refine CallB_i (c6) ?_ | refine CallB_i (c7) ?_ | refine CallB_i (d1) ?_ | refine CallB_i (d2) ?_ | refine CallB_i (d3) ?_ | refine CallB_i (d4) ?_ | refine CondS_d (fun h => ?_) (fun h => ?_) | refine CondS_b (fun h => ?_) (fun h => ?_) | refine GrdS_d (fun h => ?_) (fun h => ?_) | refine GrdS_b (fun h => ?_) (fun h => ?_) | refine OkS_i (by omega) ?_ | fail)
end Go.Eng
namespace Go.Eng
open Go Go.Proofs
set_option linter.unusedSimpArgs false
set_option linter.unusedVariables false
set_option maxRecDepth 20000
/-! what the arguments hold -/
theorem d_intb {X : Cx} {t n : Nat} {i0 : TI} {vs : List PV} (hi : X.ti t = some i0) (hk : i0.k = .int .i64) (h : shp X n t vs) : ∃ m : Int, vs = [i m] ∧ -9223372036854775808 ≤ m ∧ m ≤ 9223372036854775807 := by
  cases n with
  | zero => cases h
  | succ n =>
    unfold shp at h; rw [hi] at h; simp only [hk] at h
    obtain ⟨m, hm, hw⟩ := h
    refine ⟨m, hm, ?_⟩
    simpa [Lit.wf, IntKind.min, IntKind.max, IntKind.signed, IntKind.bits] using hw
theorem d_int {X : Cx} {t n : Nat} {i0 : TI} {vs : List PV} (hi : X.ti t = some i0) (hk : i0.k = .int .i64) (h : shp X n t vs) : ∃ m, vs = [i m] := by
  cases n with
  | zero => cases h
  | succ n => unfold shp at h; rw [hi] at h; simp only [hk] at h; obtain ⟨m, hm, _⟩ := h; exact ⟨m, hm⟩
theorem d_bool {X : Cx} {t n : Nat} {i0 : TI} {vs : List PV} (hi : X.ti t = some i0) (hk : i0.k = .bool) (h : shp X n t vs) : ∃ b, vs = [.bool b] := by
  cases n with
  | zero => cases h
  | succ n => unfold shp at h; rw [hi] at h; simp only [hk] at h; exact h
theorem d_str {X : Cx} {t n : Nat} {i0 : TI} {vs : List PV} (hi : X.ti t = some i0) (hk : i0.k = .str) (h : shp X n t vs) : ∃ s, vs = [.str s] ∧ s.size ≤ 9223372036854775807 := by
  cases n with
  | zero => cases h
  | succ n => unfold shp at h; rw [hi] at h; simp only [hk] at h; exact h
theorem d_slice {X : Cx} {t n e sz : Nat} {i0 : TI} {vs : List PV} {α : Type} {g : α → List PV} {q : α → Prop} (hi : X.ti t = some i0) (hk : i0.k = .slice e) (hs : szOf X e = sz)
    (hd : ∀ n vs, shp X n e vs → ∃ x, vs = g x ∧ q x) (h : shp X n t vs) : ∃ (l : List α) (nl : Bool), vs = [.lst sz nl (l.map g)] ∧ l.length ≤ 9223372036854775807 ∧ ∀ x ∈ l, q x := by
  cases n with
  | zero => cases h
  | succ n =>
    unfold shp at h; rw [hi] at h; simp only [hk, hs] at h
    rcases h with rfl | ⟨els, rfl, hl, he⟩
    · exact ⟨[], true, rfl, by simp, by simp⟩
    · have : ∀ els : List (List PV), (∀ cs ∈ els, shp X n e cs) → ∃ l : List α, els = l.map g ∧ ∀ x ∈ l, q x := by
        intro els
        induction els with
        | nil => intro _; exact ⟨[], rfl, by simp⟩
        | cons c r ih =>
          intro h
          obtain ⟨l, h1, h2⟩ := ih fun cs hcs => h cs (List.mem_cons_of_mem _ hcs)
          obtain ⟨x, h3, h4⟩ := hd n c (h c (List.mem_cons_self ..))
          exact ⟨x :: l, by rw [h1, h3]; rfl, fun y hy => by
            rcases List.mem_cons.1 hy with rfl | hy
            · exact h4
            · exact h2 y hy⟩
      obtain ⟨l, h1, h2⟩ := this els he
      subst h1
      exact ⟨l, false, rfl, by have := hl; rw [List.length_map] at this; exact this, h2⟩
theorem d_struct {X : Cx} {t n : Nat} {i0 : TI} {fl : List (Nat × Nat)} {vs : List PV} (hi : X.ti t = some i0) (hk : i0.k = .struct fl) (h : shp X n t vs) : vs.length = i0.sz ∧ ∀ q ∈ fl, ∃ n, shp X n q.2 (sub vs q.1 (szOf X q.2)) := by
  cases n with
  | zero => cases h
  | succ n => unfold shp at h; rw [hi] at h; simp only [hk] at h; exact ⟨h.1, fun q hq => ⟨n, h.2 q hq⟩⟩
theorem shpL_cons {X : Cx} {n t : Nat} {ts : List Nat} {pvs : List PV} (h : shpL X n (t :: ts) pvs) : ∃ v vs, pvs = v :: vs ∧ shpV X n t v ∧ shpL X n ts vs := by
  cases pvs with
  | nil => cases h
  | cons v vs => exact ⟨v, vs, rfl, h.1, h.2⟩
theorem shpL_nil {X : Cx} {n : Nat} {pvs : List PV} (h : shpL X n [] pvs) : pvs = [] := by
  cases pvs with
  | nil => rfl
  | cons v vs => cases h
theorem shpV_one {X : Cx} {n t : Nat} {i0 : TI} {v : PV} (hi : X.ti t = some i0) (ha : i0.k.agg = false) (h : shpV X n t v) : shp X n t [v] := by
  unfold shpV at h; rw [hi] at h; simp only [ha, Bool.false_eq_true, if_false] at h; exact h
theorem shpV_agg {X : Cx} {n t : Nat} {i0 : TI} {v : PV} (hi : X.ti t = some i0) (ha : i0.k.agg = true) (h : shpV X n t v) : ∃ vs, v = .agg vs ∧ shp X n t vs := by
  unfold shpV at h; rw [hi] at h; simp only [ha, if_true] at h; exact h
theorem dPt {n : Nat} {vs : List PV} (h : shp X n 24 vs) : ∃ p : Pt, vs = cp p ∧ True := by
  obtain ⟨hl, hf⟩ := d_struct (i0 := (X.ti 24).getD default) rfl rfl h
  match vs, hl with
  | [a, b], _ =>
    obtain ⟨_, h0⟩ := hf (0, 3) (by simp)
    obtain ⟨_, h1⟩ := hf (1, 3) (by simp)
    obtain ⟨x, e0⟩ := d_int (i0 := (X.ti 3).getD default) rfl rfl h0
    obtain ⟨y, e1⟩ := d_int (i0 := (X.ti 3).getD default) rfl rfl h1
    obtain rfl : a = i x := (List.cons.inj e0).1
    obtain rfl : b = i y := (List.cons.inj e1).1
    exact ⟨⟨x, y⟩, rfl, trivial⟩
theorem dFt {n : Nat} {vs : List PV} (h : shp X n 37 vs) : ∃ x : Ft, vs = ft x ∧ x.fits := by
  obtain ⟨hl, hf⟩ := d_struct (i0 := (X.ti 37).getD default) rfl rfl h
  match vs, hl with
  | [a, b, c, d, e], _ =>
    obtain ⟨_, h0⟩ := hf (0, 3) (by simp)
    obtain ⟨_, h1⟩ := hf (1, 3) (by simp)
    obtain ⟨_, h2⟩ := hf (2, 3) (by simp)
    obtain ⟨_, h3⟩ := hf (3, 9) (by simp)
    obtain ⟨_, h4⟩ := hf (4, 35) (by simp)
    obtain ⟨x0, e0⟩ := d_int (i0 := (X.ti 3).getD default) rfl rfl h0
    obtain ⟨x1, e1⟩ := d_int (i0 := (X.ti 3).getD default) rfl rfl h1
    obtain ⟨x2, e2⟩ := d_int (i0 := (X.ti 3).getD default) rfl rfl h2
    obtain ⟨x3, e3, b3⟩ := d_str (i0 := (X.ti 9).getD default) rfl rfl h3
    obtain ⟨x4, nl, e4, b4, _⟩ := d_slice (i0 := (X.ti 35).getD default) (sz := 2) rfl rfl rfl (fun _ _ => dPt) h4
    obtain rfl : a = i x0 := (List.cons.inj e0).1
    obtain rfl : b = i x1 := (List.cons.inj e1).1
    obtain rfl : c = i x2 := (List.cons.inj e2).1
    obtain rfl : d = .str x3 := (List.cons.inj e3).1
    obtain rfl : e = .lst 2 nl (x4.map cp) := (List.cons.inj e4).1
    exact ⟨⟨x0, x1, x2, x3, x4, nl⟩, rfl, b3, b4⟩
theorem dEn {n : Nat} {vs : List PV} (h : shp X n 39 vs) : ∃ x : En, vs = en x ∧ x.f0.fits := by
  obtain ⟨hl, hf⟩ := d_struct (i0 := (X.ti 39).getD default) rfl rfl h
  match vs, hl with
  | [a0, a1, a2, a3, a4, a, b, c], _ =>
    obtain ⟨_, h0⟩ := hf (0, 37) (by simp)
    obtain ⟨_, h1⟩ := hf (5, 3) (by simp)
    obtain ⟨_, h2⟩ := hf (6, 3) (by simp)
    obtain ⟨_, h3⟩ := hf (7, 4) (by simp)
    obtain ⟨x0, e0, p0⟩ := dFt h0
    obtain ⟨x1, e1⟩ := d_int (i0 := (X.ti 3).getD default) rfl rfl h1
    obtain ⟨x2, e2⟩ := d_int (i0 := (X.ti 3).getD default) rfl rfl h2
    obtain ⟨x3, e3⟩ := d_bool (i0 := (X.ti 4).getD default) rfl rfl h3
    have e0 : [a0, a1, a2, a3, a4] = ft x0 := e0
    simp only [ft, List.cons.injEq, and_true] at e0
    obtain ⟨rfl, rfl, rfl, rfl, rfl⟩ := e0
    obtain rfl : a = i x1 := (List.cons.inj e1).1
    obtain rfl : b = i x2 := (List.cons.inj e2).1
    obtain rfl : c = .bool x3 := (List.cons.inj e3).1
    exact ⟨⟨x0, x1, x2, x3⟩, rfl, p0⟩
theorem dEnS {n : Nat} {v : PV} (h : shpV X n 34 v) : ∃ (l : List En) (nl : Bool), v = .lst 8 nl (l.map en) ∧ l.length ≤ 9223372036854775807 ∧ ∀ x ∈ l, x.f0.fits := by
  have h := shpV_one (i0 := (X.ti 34).getD default) rfl rfl h
  obtain ⟨l, nl, e, h1, h2⟩ := d_slice (i0 := (X.ti 34).getD default) (sz := 8) rfl rfl rfl (fun _ _ => dEn) h
  exact ⟨l, nl, (List.cons.inj e).1, h1, h2⟩
theorem dFtS {n : Nat} {v : PV} (h : shpV X n 22 v) : ∃ (l : List Ft) (nl : Bool), v = .lst 5 nl (l.map ft) ∧ l.length ≤ 9223372036854775807 ∧ ∀ x ∈ l, x.fits := by
  have h := shpV_one (i0 := (X.ti 22).getD default) rfl rfl h
  obtain ⟨l, nl, e, h1, h2⟩ := d_slice (i0 := (X.ti 22).getD default) (sz := 5) rfl rfl rfl (fun _ _ => dFt) h
  exact ⟨l, nl, (List.cons.inj e).1, h1, h2⟩
theorem dInt {n : Nat} {v : PV} (h : shpV X n 3 v) : ∃ m : Int, v = i m ∧ -9223372036854775808 ≤ m ∧ m ≤ 9223372036854775807 := by
  obtain ⟨m, hm, hb⟩ := d_intb (i0 := (X.ti 3).getD default) rfl rfl (shpV_one (i0 := (X.ti 3).getD default) rfl rfl h)
  exact ⟨m, (List.cons.inj hm).1, hb⟩
theorem dIntS {n : Nat} {v : PV} (h : shpV X n 112 v) : ∃ (l : List Int) (nl : Bool), v = .lst 1 nl (l.map fun m => [i m]) ∧ l.length ≤ 9223372036854775807 ∧ ∀ x ∈ l, -9223372036854775808 ≤ x ∧ x ≤ 9223372036854775807 := by
  have h := shpV_one (i0 := (X.ti 112).getD default) rfl rfl h
  obtain ⟨l, nl, e, h1, h2⟩ := d_slice (i0 := (X.ti 112).getD default) (sz := 1) (g := fun m : Int => [i m]) (q := fun m => -9223372036854775808 ≤ m ∧ m ≤ 9223372036854775807) rfl rfl rfl (fun _ _ h => d_intb (i0 := (X.ti 3).getD default) rfl rfl h) h
  exact ⟨l, nl, (List.cons.inj e).1, h1, h2⟩
theorem dPtV {n : Nat} {v : PV} (h : shpV X n 24 v) : ∃ p : Pt, v = .agg (cp p) := by
  obtain ⟨vs, rfl, hs⟩ := shpV_agg (i0 := (X.ti 24).getD default) rfl rfl h
  obtain ⟨p, rfl, _⟩ := dPt hs
  exact ⟨p, rfl⟩
theorem dFtV {n : Nat} {v : PV} (h : shpV X n 37 v) : ∃ x : Ft, v = .agg (ft x) ∧ x.fits := by
  obtain ⟨vs, rfl, hs⟩ := shpV_agg (i0 := (X.ti 37).getD default) rfl rfl h
  obtain ⟨p, rfl, hp⟩ := dFt hs
  exact ⟨p, rfl, hp⟩
theorem dEnV {n : Nat} {v : PV} (h : shpV X n 39 v) : ∃ x : En, v = .agg (en x) ∧ x.f0.fits := by
  obtain ⟨vs, rfl, hs⟩ := shpV_agg (i0 := (X.ti 39).getD default) rfl rfl h
  obtain ⟨p, rfl, hp⟩ := dEn hs
  exact ⟨p, rfl, hp⟩
end Go.Eng
namespace Go.Eng
open Go Go.Proofs
theorem law4 {pvs : List PV} (h : shpL X 8 [34, 39] pvs) : Fn Try.prog 4 false pvs (.bool true) := by
  obtain ⟨_, _, rfl, h1, h2⟩ := shpL_cons h
  obtain ⟨_, _, rfl, h3, h4⟩ := shpL_cons h2
  obtain rfl := shpL_nil h4
  obtain ⟨l, n1, rfl, a1, a2⟩ := dEnS h1
  obtain ⟨y, rfl, a3⟩ := dEnV h3
  exact f4 l n1 y a1 a2 a3
end Go.Eng
