/- A part of the proof of a law's statement: for every input the law returns true and leaves its arguments as they were. No condition beyond the statement's own. What each function computes. -/
import Derived.Shelf.LaysM
import Derived.Shelf.Strconv.Itoa3
import Derived.Lib.AppendIntMem
import Derived.WalkKit
import Derived.LoopTactic
import Derived.StillTailTactics
import Derived.Deep.QuietTactic
import Derived.BigQuiet
import Derived.Laws.Cover1
import Derived.Handy
import Derived.Lib.RowBridge
import Derived.Test.YtlbflbdoncbonaaGreatDoorGp1
set_option linter.unusedVariables false
set_option linter.unusedSimpArgs false
set_option linter.unusedSectionVars false
set_option autoImplicit true
set_option relaxedAutoImplicit true
namespace Go.Eng
open Go Go.Proofs Geo
set_option linter.unusedSimpArgs false
set_option linter.unusedVariables false
set_option maxRecDepth 20000
set_option maxHeartbeats 1000000

/-! a point is moved. WRITES -/
def mv (p : Pt) (dx dy : Int) : Pt := ⟨wr .i64 (p.f0 + dx), wr .i64 (p.f1 + dy)⟩
def putL (l : List Ft) (f : Ft) : List Ft := if wSrc (pfS l f) = true then pfS l f else l.map Ft.fr
theorem hitF_eq {l : List Ft} {f : Ft} (h : wAtF l f.f0 < l.length) : hitF l f = decide (l[wAtF l f.f0].f0 = f.f0) := by unfold hitF; simp [h]
theorem hitF_end {l : List Ft} {f : Ft} (h : ¬ wAtF l f.f0 < l.length) : hitF l f = false := by unfold hitF; simp [h]
theorem pfS_len (l : List Ft) (f : Ft) : (pfS l f).length ≤ l.length + 1 := by
  have := wAtF_le l f.f0
  unfold pfS
  split <;> simp <;> omega
theorem pfS_ok {l : List Ft} {f : Ft} {p : Ft → Prop} (hl : ∀ x ∈ l, p x.fr) (he : p f.fr) : ∀ x ∈ pfS l f, p x := by
  intro x hx
  unfold pfS at hx
  rcases List.mem_append.1 hx with h | h
  · obtain ⟨y, hy, rfl⟩ := List.mem_map.1 h
    exact hl y (List.mem_of_mem_take hy)
  · rcases List.mem_cons.1 h with rfl | h
    · exact he
    · obtain ⟨y, hy, rfl⟩ := List.mem_map.1 h
      exact hl y (List.mem_of_mem_drop hy)
theorem f89 (l : List Ft) (e : Ft) (nl : Bool) (hl : l.length ≤ 1048576) (hb : ∀ x ∈ l, x.okay) (he : e.okay) (hp : ∀ x ∈ l, x.f4.length ≤ 1000000000) (hpe : e.f4.length ≤ 1000000000) :
    Fn Tryz.prog 89 true [.lst 5 nl (l.map ft), .agg (ft e)] (.tup [.lst 5 false ((putL l e).map ft), .bool (wSrc (pfS l e))]) := by
  have hk := wAtF_le l e.f0
  have hee : ft e = [i e.f0, i e.f1, i e.f2, .str e.f3, .lst 2 e.nl (e.f4.map cp)] := rfl
  have hef : ft e.fr = [i e.f0, i e.f1, i e.f2, .str e.f3, .lst 2 false (e.f4.map cp)] := rfl
  have cC := f114 l nl (by omega) hp
  have cO := f44 (pfS l e) false (by have := pfS_len l e; omega) (pfS_ok (p := fun x => x.okay) (fun x hx => hb x hx) he)
  have cE := f115 e hpe
  have cP := f114 (l.take (wAtF l e.f0)) nl (by simp; omega) (fun x hx => hp x (List.mem_of_mem_take hx))
  have cR : ∀ j, Fn Tryz.prog 114 true [.lst 5 nl ((l.map ft).drop j)] (.lst 5 false (((l.drop j).map Ft.fr).map ft)) := fun j => by
    have := f114 (l.drop j) nl (by simp; omega) (fun x hx => hp x (List.mem_of_mem_drop hx))
    rw [List.map_drop] at this
    exact this
  rw [List.map_take] at cP
  have hpl : (((l.take (wAtF l e.f0)).map Ft.fr).map ft).length = wAtF l e.f0 := by simp; omega
  rw [hee, hef] at cE
  rw [hee]
  have hR : (putL l e).map ft = if wSrc (pfS l e) = true then (pfS l e).map ft else (l.map Ft.fr).map ft := by unfold putL; split <;> rfl
  rw [hR]
  obtain ⟨b2, hb2⟩ : ∃ b, wSrc (pfS l e) = b := ⟨_, rfl⟩
  rw [hb2] at cO ⊢
  have hto : (pfS l e).map ft = ((l.take (wAtF l e.f0)).map Ft.fr).map ft ++ [i e.f0, i e.f1, i e.f2, .str e.f3, .lst 2 false (e.f4.map cp)] :: ((l.drop (if hitF l e = true then wAtF l e.f0 + 1 else wAtF l e.f0)).map Ft.fr).map ft := by
    unfold pfS; rw [List.map_append, List.map_cons, hef]
  rw [hto] at cO ⊢
  obtain ⟨P1, hP1⟩ : ∃ P, ((l.take (wAtF l e.f0)).map Ft.fr).map ft = P := ⟨_, rfl⟩
  rw [hP1] at cP cO hpl ⊢
  obtain ⟨C, hC⟩ : ∃ C, (l.map Ft.fr).map ft = C := ⟨_, rfl⟩
  rw [hC] at cC ⊢
  obtain ⟨j, hj⟩ : ∃ j, (if hitF l e = true then wAtF l e.f0 + 1 else wAtF l e.f0) = j := ⟨_, rfl⟩
  rw [hj] at cO ⊢
  have cR' := cR j
  obtain ⟨P2, hP2⟩ : ∃ P, ((l.drop j).map Ft.fr).map ft = P := ⟨_, rfl⟩
  rw [hP2] at cO cR' ⊢
  have hP2l : P2.length ≤ l.length := by rw [← hP2]; simp
  clear cR hP1 hP2 hC hto hb2 hb hp hR hef hee
  refine Fn.by_sx hX (by kernel_rfl) c89 (by kernel_rfl) (by rfl) ?_
  simp [i89, sxa, isPtrN, PV.pcs, elAt, setEl, inAt, elIn, setIn, isLst, cellsOf, Ex.ok, Ex.val, Opd.val, POp.dst, bin_int, binOK_int, bin_str, binOK_str, resOK, resV, RB.val, sub, putc, scB, scL, oneB, conf, Ex.val.eqP, Ex.val.eqL, negV, mxV, mnV, ← wr_eq, wr_zero, wr_one, wr_m1, bst_lst, byteC, partsOK, putAll, appV, nilV, slV, sslV, optB, optNum, and_assoc, exists_and_left, exists_eq_left']
  refine sx_count (wAtF l e.f0) (fun n V => V 0 = .lst 5 nl (l.map ft) ∧ V 3 = .ptr [i e.f0, i e.f1, i e.f2, .str e.f3, .lst 2 e.nl (e.f4.map cp)] ∧ V 6 = i n) 0 (by omega) (by simp [sxa, isPtrN, PV.pcs, elAt, setEl, inAt, elIn, setIn, isLst, cellsOf, Ex.ok, Ex.val, Opd.val, POp.dst, bin_int, binOK_int, bin_str, binOK_str, resOK, resV, RB.val, sub, putc, scB, scL, oneB, conf, Ex.val.eqP, Ex.val.eqL, negV, mxV, mnV, ← wr_eq, wr_zero, wr_one, wr_m1, bst_lst, byteC, partsOK, putAll, appV, nilV, slV, sslV, optB, optNum, and_assoc, exists_and_left, exists_eq_left']) ?_
  rintro n V hn ⟨h0, h3, h6⟩
  have hw : wr .i64 ((n : Int) + 1) = n + 1 := wr_in (by omega) (by omega)
  simp [sxa, isPtrN, PV.pcs, elAt, setEl, inAt, elIn, setIn, isLst, cellsOf, Ex.ok, Ex.val, Opd.val, POp.dst, bin_int, binOK_int, bin_str, binOK_str, resOK, resV, RB.val, sub, putc, scB, scL, oneB, conf, Ex.val.eqP, Ex.val.eqL, negV, mxV, mnV, ← wr_eq, wr_zero, wr_one, wr_m1, bst_lst, byteC, partsOK, putAll, appV, nilV, slV, sslV, optB, optNum, and_assoc, exists_and_left, exists_eq_left', h0, h3, h6]
  rcases Nat.lt_or_ge n (wAtF l e.f0) with hlt | hge
  · have hlt' : n < l.length := by omega
    have hx := wAtF_lt hlt hlt'
    clear cC cO cE cP cR'
    repeat' (first | intro _ | (simp [sxa, isPtrN, PV.pcs, elAt, setEl, inAt, elIn, setIn, isLst, cellsOf, Ex.ok, Ex.val, Opd.val, POp.dst, bin_int, binOK_int, bin_str, binOK_str, resOK, resV, RB.val, sub, putc, scB, scL, oneB, conf, Ex.val.eqP, Ex.val.eqL, negV, mxV, mnV, ← wr_eq, wr_zero, wr_one, wr_m1, bst_lst, byteC, partsOK, putAll, appV, nilV, slV, sslV, optB, optNum, and_assoc, exists_and_left, exists_eq_left', ft, *]) | refine CondS_d (fun h => ?_) (fun h => ?_) | refine CondS_b (fun h => ?_) (fun h => ?_) | refine GrdS_d (fun h => ?_) (fun h => ?_) | refine GrdS_b (fun h => ?_) (fun h => ?_) | refine OkS_i (by omega) ?_ | fail)
  obtain rfl : n = wAtF l e.f0 := by omega
  have hT1 : List.take l.length (List.map ft l) = List.map ft l := List.take_of_length_le (by simp)
  have hT2 : List.take (l.length - wAtF l e.f0) (List.drop (wAtF l e.f0) (List.map ft l)) = List.drop (wAtF l e.f0) (List.map ft l) := List.take_of_length_le (by simp)
  have hT3 : (List.drop (wAtF l e.f0) (List.map ft l)).tail = List.drop (wAtF l e.f0 + 1) (List.map ft l) := by rw [List.tail_drop]
  by_cases hlt' : wAtF l e.f0 < l.length
  · have hx := wAtF_stop hlt'
    have hpos : 0 < l.length - wAtF l e.f0 := by omega
    have hh := hitF_eq hlt'
    by_cases hid : l[wAtF l e.f0].f0 = e.f0
    · rw [hh, if_pos (by simp [hid])] at hj
      subst hj
      cases b2
      all_goals repeat' (first | intro _ | (simp [sxa, isPtrN, PV.pcs, elAt, setEl, inAt, elIn, setIn, isLst, cellsOf, Ex.ok, Ex.val, Opd.val, POp.dst, bin_int, binOK_int, bin_str, binOK_str, resOK, resV, RB.val, sub, putc, scB, scL, oneB, conf, Ex.val.eqP, Ex.val.eqL, negV, mxV, mnV, ← wr_eq, wr_zero, wr_one, wr_m1, bst_lst, byteC, partsOK, putAll, appV, nilV, slV, sslV, optB, optNum, and_assoc, exists_and_left, exists_eq_left', ft, *]) | refine CallS_i (cP) ?_ | refine CallS_i (cE) ?_ | refine CallS_i (cR') ?_ | refine CallS_i (cO) ?_ | refine CallS_i (cC) ?_ | refine CallM_i (cP) ?_ | refine CallM_i (cE) ?_ | refine CallM_i (cR') ?_ | refine CallM_i (cO) ?_ | refine CallM_i (cC) ?_ | refine CallE_i (cP) ?_ | refine CallE_i (cE) ?_ | refine CallE_i (cR') ?_ | refine CallE_i (cO) ?_ | refine CallE_i (cC) ?_ | refine CallX_i (cP) ?_ | refine CallX_i (cE) ?_ | refine CallX_i (cR') ?_ | refine CallX_i (cO) ?_ | refine CallX_i (cC) ?_ | refine CallB_i (cP) ?_ | refine CallB_i (cE) ?_ | refine CallB_i (cR') ?_ | refine CallB_i (cO) ?_ | refine CallB_i (cC) ?_ | refine CondS_d (fun h => ?_) (fun h => ?_) | refine CondS_b (fun h => ?_) (fun h => ?_) | refine GrdS_d (fun h => ?_) (fun h => ?_) | refine GrdS_b (fun h => ?_) (fun h => ?_) | refine OkS_i (by omega) ?_ | fail)
      all_goals first | omega | simp_all
    · rw [hh, if_neg (by simp [hid])] at hj
      subst hj
      cases b2
      all_goals repeat' (first | intro _ | (simp [sxa, isPtrN, PV.pcs, elAt, setEl, inAt, elIn, setIn, isLst, cellsOf, Ex.ok, Ex.val, Opd.val, POp.dst, bin_int, binOK_int, bin_str, binOK_str, resOK, resV, RB.val, sub, putc, scB, scL, oneB, conf, Ex.val.eqP, Ex.val.eqL, negV, mxV, mnV, ← wr_eq, wr_zero, wr_one, wr_m1, bst_lst, byteC, partsOK, putAll, appV, nilV, slV, sslV, optB, optNum, and_assoc, exists_and_left, exists_eq_left', ft, *]) | refine CallS_i (cP) ?_ | refine CallS_i (cE) ?_ | refine CallS_i (cR') ?_ | refine CallS_i (cO) ?_ | refine CallS_i (cC) ?_ | refine CallM_i (cP) ?_ | refine CallM_i (cE) ?_ | refine CallM_i (cR') ?_ | refine CallM_i (cO) ?_ | refine CallM_i (cC) ?_ | refine CallE_i (cP) ?_ | refine CallE_i (cE) ?_ | refine CallE_i (cR') ?_ | refine CallE_i (cO) ?_ | refine CallE_i (cC) ?_ | refine CallX_i (cP) ?_ | refine CallX_i (cE) ?_ | refine CallX_i (cR') ?_ | refine CallX_i (cO) ?_ | refine CallX_i (cC) ?_ | refine CallB_i (cP) ?_ | refine CallB_i (cE) ?_ | refine CallB_i (cR') ?_ | refine CallB_i (cO) ?_ | refine CallB_i (cC) ?_ | refine CondS_d (fun h => ?_) (fun h => ?_) | refine CondS_b (fun h => ?_) (fun h => ?_) | refine GrdS_d (fun h => ?_) (fun h => ?_) | refine GrdS_b (fun h => ?_) (fun h => ?_) | refine OkS_i (by omega) ?_ | fail)
      all_goals first | omega | simp_all
  · rw [hitF_end hlt', if_neg (by simp)] at hj
    subst hj
    have hz : l.length - wAtF l e.f0 = 0 := by omega
    cases b2
    all_goals repeat' (first | intro _ | (simp [sxa, isPtrN, PV.pcs, elAt, setEl, inAt, elIn, setIn, isLst, cellsOf, Ex.ok, Ex.val, Opd.val, POp.dst, bin_int, binOK_int, bin_str, binOK_str, resOK, resV, RB.val, sub, putc, scB, scL, oneB, conf, Ex.val.eqP, Ex.val.eqL, negV, mxV, mnV, ← wr_eq, wr_zero, wr_one, wr_m1, bst_lst, byteC, partsOK, putAll, appV, nilV, slV, sslV, optB, optNum, and_assoc, exists_and_left, exists_eq_left', ft, *]) | refine CallS_i (cP) ?_ | refine CallS_i (cE) ?_ | refine CallS_i (cR') ?_ | refine CallS_i (cO) ?_ | refine CallS_i (cC) ?_ | refine CallM_i (cP) ?_ | refine CallM_i (cE) ?_ | refine CallM_i (cR') ?_ | refine CallM_i (cO) ?_ | refine CallM_i (cC) ?_ | refine CallE_i (cP) ?_ | refine CallE_i (cE) ?_ | refine CallE_i (cR') ?_ | refine CallE_i (cO) ?_ | refine CallE_i (cC) ?_ | refine CallX_i (cP) ?_ | refine CallX_i (cE) ?_ | refine CallX_i (cR') ?_ | refine CallX_i (cO) ?_ | refine CallX_i (cC) ?_ | refine CallB_i (cP) ?_ | refine CallB_i (cE) ?_ | refine CallB_i (cR') ?_ | refine CallB_i (cO) ?_ | refine CallB_i (cC) ?_ | refine CondS_d (fun h => ?_) (fun h => ?_) | refine CondS_b (fun h => ?_) (fun h => ?_) | refine GrdS_d (fun h => ?_) (fun h => ?_) | refine GrdS_b (fun h => ?_) (fun h => ?_) | refine OkS_i (by omega) ?_ | fail)
    all_goals first | omega | simp_all
end Go.Eng
namespace Go.Eng
open Go Go.Proofs Geo
set_option linter.unusedSimpArgs false
set_option linter.unusedVariables false
set_option maxRecDepth 20000
set_option maxHeartbeats 2000000

/-! draws of lists of features. WRITES -/
def goodL (l : List Ft) : Prop := l.length ≤ 16 ∧ ∀ x ∈ l, goodF x
theorem putL_good {l : List Ft} {e : Ft} (hl : ∀ x ∈ l, goodF x) (he : goodF e) : (putL l e).length ≤ l.length + 1 ∧ ∀ x ∈ putL l e, goodF x := by
  unfold putL
  split
  · exact ⟨pfS_len l e, pfS_ok (p := goodF) (fun x hx => hl x hx) he⟩
  · refine ⟨by simp, fun x hx => ?_⟩
    obtain ⟨y, hy, rfl⟩ := List.mem_map.1 hx
    exact hl y hy
theorem f51 : FnR Tryz.prog 51 true true [] (fun v => ∃ l : List Ft, v = .lst 5 false (l.map ft) ∧ goodL l) := by
  refine FnR.by_sxC hX (by kernel_rfl) c51 rfl rfl rfl (fun h => by cases h) ?_
  intro cs hcs
  simp [i51, sxa, isPtrN, PV.pcs, elAt, setEl, inAt, elIn, setIn, isLst, cellsOf, Ex.ok, Ex.val, Opd.val, POp.dst, bin_int, binOK_int, bin_str, binOK_str, resOK, resV, RB.val, sub, putc, scB, scL, oneB, conf, Ex.val.eqP, Ex.val.eqL, negV, mxV, mnV, ← wr_eq, wr_zero, wr_one, wr_m1, bst_lst, byteC, partsOK, putAll, appV, nilV, slV, sslV, optB, optNum, and_assoc, exists_and_left, exists_eq_left']
  refine sx_count 7 (fun n V => isCur (V 0) = true ∧ 1 ≤ n ∧ V 4 = i n ∧ ∃ l : List Ft, V 3 = .lst 5 false (l.map ft) ∧ l.length ≤ n - 1 ∧ ∀ x ∈ l, goodF x) 1 (by omega) ⟨by simp [sxa, isPtrN, PV.pcs, elAt, setEl, inAt, elIn, setIn, isLst, cellsOf, Ex.ok, Ex.val, Opd.val, POp.dst, bin_int, binOK_int, bin_str, binOK_str, resOK, resV, RB.val, sub, putc, scB, scL, oneB, conf, Ex.val.eqP, Ex.val.eqL, negV, mxV, mnV, ← wr_eq, wr_zero, wr_one, wr_m1, bst_lst, byteC, partsOK, putAll, appV, nilV, slV, sslV, optB, optNum, and_assoc, exists_and_left, exists_eq_left', hcs], by omega, by simp [sxa, isPtrN, PV.pcs, elAt, setEl, inAt, elIn, setIn, isLst, cellsOf, Ex.ok, Ex.val, Opd.val, POp.dst, bin_int, binOK_int, bin_str, binOK_str, resOK, resV, RB.val, sub, putc, scB, scL, oneB, conf, Ex.val.eqP, Ex.val.eqL, negV, mxV, mnV, ← wr_eq, wr_zero, wr_one, wr_m1, bst_lst, byteC, partsOK, putAll, appV, nilV, slV, sslV, optB, optNum, and_assoc, exists_and_left, exists_eq_left'], [], by simp [sxa, isPtrN, PV.pcs, elAt, setEl, inAt, elIn, setIn, isLst, cellsOf, Ex.ok, Ex.val, Opd.val, POp.dst, bin_int, binOK_int, bin_str, binOK_str, resOK, resV, RB.val, sub, putc, scB, scL, oneB, conf, Ex.val.eqP, Ex.val.eqL, negV, mxV, mnV, ← wr_eq, wr_zero, wr_one, wr_m1, bst_lst, byteC, partsOK, putAll, appV, nilV, slV, sslV, optB, optNum, and_assoc, exists_and_left, exists_eq_left'], by simp, by simp⟩ ?_
  clear hcs
  rintro n V hn ⟨gc, hn1, g4, l, g3, hl, hg⟩
  repeat' (first | intro _ | (simp [sxa, isPtrN, PV.pcs, elAt, setEl, inAt, elIn, setIn, isLst, cellsOf, Ex.ok, Ex.val, Opd.val, POp.dst, bin_int, binOK_int, bin_str, binOK_str, resOK, resV, RB.val, sub, putc, scB, scL, oneB, conf, Ex.val.eqP, Ex.val.eqL, negV, mxV, mnV, ← wr_eq, wr_zero, wr_one, wr_m1, bst_lst, byteC, partsOK, putAll, appV, nilV, slV, sslV, optB, optNum, and_assoc, exists_and_left, exists_eq_left', *]) | refine ⟨by assumption, CopC_i (f52 6 (by omega)) (fun _ _ => by first | exact ⟨fun _ => rfl, (fun h => by cases h)⟩ | exact ⟨(fun h => by cases h), fun _ => ⟨_, rfl⟩⟩ | exact ⟨(fun h => by cases h), (fun h => by cases h)⟩) (fun x cs hx hcs => ?_)⟩ | refine CopC_i (f52 6 (by omega)) (fun _ _ => by first | exact ⟨fun _ => rfl, (fun h => by cases h)⟩ | exact ⟨(fun h => by cases h), fun _ => ⟨_, rfl⟩⟩ | exact ⟨(fun h => by cases h), (fun h => by cases h)⟩) (fun x cs hx hcs => ?_) | refine CondS_d (fun h => ?_) (fun h => ?_) | refine CondS_b (fun h => ?_) (fun h => ?_) | refine GrdS_d (fun h => ?_) (fun h => ?_) | refine GrdS_b (fun h => ?_) (fun h => ?_) | refine OkS_i (by omega) ?_ | fail)
  · have hx5 := hx.2 (by omega)
    have hx0 := hx.1
    have hw : wr .i64 (1 + x) = 1 + x := wr_in (by omega) (by omega)
    rw [hw] at h
    refine CopC_i (f90 n) (fun _ _ => ⟨(fun h => by cases h), (fun h => by cases h)⟩) (fun e cs2 he hcs2 => ?_)
    have hp := f89 l e false (by omega) (fun x hx => (hg x hx).ok) he.ok (fun x hx => by have := (hg x hx).2; omega) (by have := he.2; omega)
    obtain ⟨q1, q2⟩ := putL_good hg he
    obtain ⟨L2, hL2⟩ : ∃ L, putL l e = L := ⟨_, rfl⟩
    obtain ⟨bb, hbb⟩ : ∃ b, wSrc (pfS l e) = b := ⟨_, rfl⟩
    rw [hL2, hbb] at hp
    rw [hL2] at q1 q2
    have hw2 : wr .i64 ((n : Int) + 1) = ((n + 1 : Nat) : Int) := by rw [wr_in (by omega) (by omega)]; omega
    clear hL2 hbb hg hcs gc
    repeat' (first | intro _ | (simp [sxa, isPtrN, PV.pcs, elAt, setEl, inAt, elIn, setIn, isLst, cellsOf, Ex.ok, Ex.val, Opd.val, POp.dst, bin_int, binOK_int, bin_str, binOK_str, resOK, resV, RB.val, sub, putc, scB, scL, oneB, conf, Ex.val.eqP, Ex.val.eqL, negV, mxV, mnV, ← wr_eq, wr_zero, wr_one, wr_m1, bst_lst, byteC, partsOK, putAll, appV, nilV, slV, sslV, optB, optNum, and_assoc, exists_and_left, exists_eq_left', *]) | refine CallS_i (hp) ?_ | refine CallM_i (hp) ?_ | refine CallE_i (hp) ?_ | refine CallX_i (hp) ?_ | refine CallB_i (hp) ?_ | refine CondS_d (fun h => ?_) (fun h => ?_) | refine CondS_b (fun h => ?_) (fun h => ?_) | refine GrdS_d (fun h => ?_) (fun h => ?_) | refine GrdS_b (fun h => ?_) (fun h => ?_) | refine OkS_i (by omega) ?_ | fail)
    exact ⟨by omega, L2, rfl, by omega, q2⟩
  · exact ⟨l, rfl, by omega, hg⟩
def szQ (l : List Pt) : Prop := 0 < l.length ∧ l.length ≤ 20
theorem f55 : FnR Tryz.prog 55 true true [] (fun v => ∃ l : List Pt, v = .lst 2 false (l.map cp) ∧ szQ l) := by
  refine FnR.by_sxC hX (by kernel_rfl) c55 rfl rfl rfl (fun h => by cases h) ?_
  intro cs hcs
  simp [i55, sxa, isPtrN, PV.pcs, elAt, setEl, inAt, elIn, setIn, isLst, cellsOf, Ex.ok, Ex.val, Opd.val, POp.dst, bin_int, binOK_int, bin_str, binOK_str, resOK, resV, RB.val, sub, putc, scB, scL, oneB, conf, Ex.val.eqP, Ex.val.eqL, negV, mxV, mnV, ← wr_eq, wr_zero, wr_one, wr_m1, bst_lst, byteC, partsOK, putAll, appV, nilV, slV, sslV, optB, optNum, and_assoc, exists_and_left, exists_eq_left']
  repeat' (first | intro _ | (simp [sxa, isPtrN, PV.pcs, elAt, setEl, inAt, elIn, setIn, isLst, cellsOf, Ex.ok, Ex.val, Opd.val, POp.dst, bin_int, binOK_int, bin_str, binOK_str, resOK, resV, RB.val, sub, putc, scB, scL, oneB, conf, Ex.val.eqP, Ex.val.eqL, negV, mxV, mnV, ← wr_eq, wr_zero, wr_one, wr_m1, bst_lst, byteC, partsOK, putAll, appV, nilV, slV, sslV, optB, optNum, and_assoc, exists_and_left, exists_eq_left', *]) | refine ⟨by assumption, CopC_i (f92) (fun _ _ => by first | exact ⟨fun _ => rfl, (fun h => by cases h)⟩ | exact ⟨(fun h => by cases h), fun _ => ⟨_, rfl⟩⟩ | exact ⟨(fun h => by cases h), (fun h => by cases h)⟩) (fun x cs hx hcs => ?_)⟩ | refine CopC_i (f92) (fun _ _ => by first | exact ⟨fun _ => rfl, (fun h => by cases h)⟩ | exact ⟨(fun h => by cases h), fun _ => ⟨_, rfl⟩⟩ | exact ⟨(fun h => by cases h), (fun h => by cases h)⟩) (fun x cs hx hcs => ?_) | refine CondS_d (fun h => ?_) (fun h => ?_) | refine CondS_b (fun h => ?_) (fun h => ?_) | refine GrdS_d (fun h => ?_) (fun h => ?_) | refine GrdS_b (fun h => ?_) (fun h => ?_) | refine OkS_i (by omega) ?_ | fail)
  obtain ⟨l, hl⟩ : ∃ l, l = x := ⟨_, rfl⟩
  subst hl
  obtain ⟨hl0, hl6⟩ := hx
  have hw2 : wr .i64 ((l.length : Int) - 1) = ((l.length - 1 : Nat) : Int) := by rw [wr_in (by omega) (by omega)]; omega
  have hlast : l.length - 1 < l.length := by omega
  have hl1 : (1 : Int) ≤ l.length := by omega
  repeat' (first | intro _ | (simp [sxa, isPtrN, PV.pcs, elAt, setEl, inAt, elIn, setIn, isLst, cellsOf, Ex.ok, Ex.val, Opd.val, POp.dst, bin_int, binOK_int, bin_str, binOK_str, resOK, resV, RB.val, sub, putc, scB, scL, oneB, conf, Ex.val.eqP, Ex.val.eqL, negV, mxV, mnV, ← wr_eq, wr_zero, wr_one, wr_m1, bst_lst, byteC, partsOK, putAll, appV, nilV, slV, sslV, optB, optNum, and_assoc, exists_and_left, exists_eq_left', cp, *]) | refine ⟨by assumption, CopC_i (f52 12 (by omega)) (fun _ _ => by first | exact ⟨fun _ => rfl, (fun h => by cases h)⟩ | exact ⟨(fun h => by cases h), fun _ => ⟨_, rfl⟩⟩ | exact ⟨(fun h => by cases h), (fun h => by cases h)⟩) (fun x cs hx hcs => ?_)⟩ | refine ⟨by assumption, CopC_i (f93) (fun _ _ => by first | exact ⟨fun _ => rfl, (fun h => by cases h)⟩ | exact ⟨(fun h => by cases h), fun _ => ⟨_, rfl⟩⟩ | exact ⟨(fun h => by cases h), (fun h => by cases h)⟩) (fun x cs hx hcs => ?_)⟩ | refine CopC_i (f52 12 (by omega)) (fun _ _ => by first | exact ⟨fun _ => rfl, (fun h => by cases h)⟩ | exact ⟨(fun h => by cases h), fun _ => ⟨_, rfl⟩⟩ | exact ⟨(fun h => by cases h), (fun h => by cases h)⟩) (fun x cs hx hcs => ?_) | refine CopC_i (f93) (fun _ _ => by first | exact ⟨fun _ => rfl, (fun h => by cases h)⟩ | exact ⟨(fun h => by cases h), fun _ => ⟨_, rfl⟩⟩ | exact ⟨(fun h => by cases h), (fun h => by cases h)⟩) (fun x cs hx hcs => ?_) | refine CondS_d (fun h => ?_) (fun h => ?_) | refine CondS_b (fun h => ?_) (fun h => ?_) | refine GrdS_d (fun h => ?_) (fun h => ?_) | refine GrdS_b (fun h => ?_) (fun h => ?_) | refine OkS_i (by omega) ?_ | fail)
  · exact ⟨l.set 0 x, by rw [List.map_set]; rfl, by simp [szQ]; omega⟩
  · exact ⟨_, mapApp, by simp [szQ]; omega⟩
  · exact ⟨l.take 1, by rw [List.map_take], by simp [szQ]; omega⟩
  · refine sx_count 11 (fun n V => isCur (V 0) = true ∧ ∃ m : List Pt, m.length = n ∧ 0 < n ∧ V 3 = .lst 2 false (m.map cp)) l.length (by omega) ⟨by simp [sxa, isPtrN, PV.pcs, elAt, setEl, inAt, elIn, setIn, isLst, cellsOf, Ex.ok, Ex.val, Opd.val, POp.dst, bin_int, binOK_int, bin_str, binOK_str, resOK, resV, RB.val, sub, putc, scB, scL, oneB, conf, Ex.val.eqP, Ex.val.eqL, negV, mxV, mnV, ← wr_eq, wr_zero, wr_one, wr_m1, bst_lst, byteC, partsOK, putAll, appV, nilV, slV, sslV, optB, optNum, and_assoc, exists_and_left, exists_eq_left', hcs], l, rfl, hl0, by simp [sxa, isPtrN, PV.pcs, elAt, setEl, inAt, elIn, setIn, isLst, cellsOf, Ex.ok, Ex.val, Opd.val, POp.dst, bin_int, binOK_int, bin_str, binOK_str, resOK, resV, RB.val, sub, putc, scB, scL, oneB, conf, Ex.val.eqP, Ex.val.eqL, negV, mxV, mnV, ← wr_eq, wr_zero, wr_one, wr_m1, bst_lst, byteC, partsOK, putAll, appV, nilV, slV, sslV, optB, optNum, and_assoc, exists_and_left, exists_eq_left']⟩ ?_
    clear hcs hw2 hlast hl1
    rintro n V hn ⟨gc, m, hm, hn0, g3⟩
    subst hm
    have hw3 : wr .i64 (50 + (m.length : Int)) = 50 + m.length := wr_in (by omega) (by omega)
    repeat' (first | intro _ | (simp [sxa, isPtrN, PV.pcs, elAt, setEl, inAt, elIn, setIn, isLst, cellsOf, Ex.ok, Ex.val, Opd.val, POp.dst, bin_int, binOK_int, bin_str, binOK_str, resOK, resV, RB.val, sub, putc, scB, scL, oneB, conf, Ex.val.eqP, Ex.val.eqL, negV, mxV, mnV, ← wr_eq, wr_zero, wr_one, wr_m1, bst_lst, byteC, partsOK, putAll, appV, nilV, slV, sslV, optB, optNum, and_assoc, exists_and_left, exists_eq_left', *]) | refine CondS_d (fun h => ?_) (fun h => ?_) | refine CondS_b (fun h => ?_) (fun h => ?_) | refine GrdS_d (fun h => ?_) (fun h => ?_) | refine GrdS_b (fun h => ?_) (fun h => ?_) | refine OkS_i (by omega) ?_ | fail)
    · first | exact ⟨by omega, _, by simp, by omega, mapApp⟩ | exact ⟨by omega, _, by simp, mapApp⟩
    · first | exact ⟨m, rfl, hn0, by omega⟩ | exact ⟨m, rfl, by unfold szQ; omega⟩
  · exact ⟨l, rfl, by unfold szQ; omega⟩
theorem getL {l : List Ft} {k : Nat} (h : k < l.length) : (l.map ft)[k]? = some (ft l[k]) := by simp [h]
theorem goodL_set {l : List Ft} (hg : goodL l) {k : Nat} {x : Ft} (hx : goodF x) : goodL (l.set k x) :=
  ⟨by rw [List.length_set]; exact hg.1, fun y hy => by
    rcases List.mem_or_eq_of_mem_set hy with h | rfl
    · exact hg.2 y h
    · exact hx⟩
theorem setEx {l : List Ft} {k : Nat} {a b c : Int} {s : ByteArray} {m : List Pt} {nl : Bool} (hg : goodL l) (hs : s.size ≤ 9) (hm : m.length ≤ 20) : ∃ l' : List Ft, (l.map ft).set k [i a, i b, i c, .str s, .lst 2 nl (m.map cp)] = l'.map ft ∧ goodL l' :=
  ⟨l.set k ⟨a, b, c, s, m, nl⟩, by rw [List.map_set]; rfl, goodL_set hg ⟨hs, hm⟩⟩
theorem f35 : FnR Tryz.prog 35 true true [] (fun v => ∃ l : List Ft, v = .lst 5 false (l.map ft) ∧ goodL l) := by
  refine FnR.by_sxC hX (by kernel_rfl) c35 rfl rfl rfl (fun h => by cases h) ?_
  intro cs hcs
  simp [i35, sxa, isPtrN, PV.pcs, elAt, setEl, inAt, elIn, setIn, isLst, cellsOf, Ex.ok, Ex.val, Opd.val, POp.dst, bin_int, binOK_int, bin_str, binOK_str, resOK, resV, RB.val, sub, putc, scB, scL, oneB, conf, Ex.val.eqP, Ex.val.eqL, negV, mxV, mnV, ← wr_eq, wr_zero, wr_one, wr_m1, bst_lst, byteC, partsOK, putAll, appV, nilV, slV, sslV, optB, optNum, and_assoc, exists_and_left, exists_eq_left']
  repeat' (first | intro _ | (simp [sxa, isPtrN, PV.pcs, elAt, setEl, inAt, elIn, setIn, isLst, cellsOf, Ex.ok, Ex.val, Opd.val, POp.dst, bin_int, binOK_int, bin_str, binOK_str, resOK, resV, RB.val, sub, putc, scB, scL, oneB, conf, Ex.val.eqP, Ex.val.eqL, negV, mxV, mnV, ← wr_eq, wr_zero, wr_one, wr_m1, bst_lst, byteC, partsOK, putAll, appV, nilV, slV, sslV, optB, optNum, and_assoc, exists_and_left, exists_eq_left', *]) | refine ⟨by assumption, CopC_i (f51) (fun _ _ => by first | exact ⟨fun _ => rfl, (fun h => by cases h)⟩ | exact ⟨(fun h => by cases h), fun _ => ⟨_, rfl⟩⟩ | exact ⟨(fun h => by cases h), (fun h => by cases h)⟩) (fun x cs hx hcs => ?_)⟩ | refine CopC_i (f51) (fun _ _ => by first | exact ⟨fun _ => rfl, (fun h => by cases h)⟩ | exact ⟨(fun h => by cases h), fun _ => ⟨_, rfl⟩⟩ | exact ⟨(fun h => by cases h), (fun h => by cases h)⟩) (fun x cs hx hcs => ?_) | refine CondS_d (fun h => ?_) (fun h => ?_) | refine CondS_b (fun h => ?_) (fun h => ?_) | refine GrdS_d (fun h => ?_) (fun h => ?_) | refine GrdS_b (fun h => ?_) (fun h => ?_) | refine OkS_i (by omega) ?_ | fail)
  · exact ⟨by simp, by simp⟩
  obtain ⟨l, hl⟩ : ∃ l, l = x := ⟨_, rfl⟩
  subst hl
  have hgl := hx
  have hpos : 0 < l.length := List.length_pos_iff.2 (by assumption)
  have hl16 := hx.1
  refine CopC_i (f52 (l.length : Int) (by omega)) (fun _ _ => ⟨fun _ => rfl, (fun h => by cases h)⟩) (fun z cs3 hz hcs3 => ?_)
  have hz1 := hz.2 (by omega)
  have hz0 := hz.1
  obtain ⟨k, rfl⟩ : ∃ k : Nat, z = k := ⟨z.toNat, by omega⟩
  have hk : k < l.length := by omega
  have hkI : (k : Int) < l.length := hz1
  have hk0 : (0 : Int) ≤ k := hz0
  have hc0 : FnR Tryz.prog 54 true false [.lst 1 false [[i 0], [i 1], [i 99], [i 100]]] (fun v => ∃ x : Int, v = i x ∧ rawP x) := (f54 [0, 1, 99, 100] false (by decide) (by decide)).weak (fun v ⟨x, h, _⟩ => ⟨x, h, trivial⟩)
  have hc1 : FnR Tryz.prog 54 true false [.lst 1 false [[i (-1)], [i 9], [i 10]]] (fun v => ∃ x : Int, v = i x ∧ rawP x) := (f54 [-1, 9, 10] false (by decide) (by decide)).weak (fun v ⟨x, h, _⟩ => ⟨x, h, trivial⟩)
  have hc3 : FnR Tryz.prog 54 true false [.lst 1 false [[i 0], [i 1], [i 2], [i 3], [i 4]]] (fun v => ∃ x : Int, v = i x ∧ rawP x) := (f54 [0, 1, 2, 3, 4] false (by decide) (by decide)).weak (fun v ⟨x, h, _⟩ => ⟨x, h, trivial⟩)
  have hc2 : FnR Tryz.prog 33 true false [.lst 1 false [[.str (bs [65])], [.str (bs [116, 111, 111, 108, 111, 110, 103, 97, 97])], [.str (bs [97, 32, 98])]]] (fun v => ∃ x : ByteArray, v = .str x ∧ smS x) :=
    (f33 [bs [65], bs [116, 111, 111, 108, 111, 110, 103, 97, 97], bs [97, 32, 98]] false (by decide) (by decide)).weak (fun v ⟨x, h, hh⟩ => ⟨x, h, by
      simp only [List.mem_cons, List.not_mem_nil, or_false] at hh
      rcases hh with rfl | rfl | rfl <;> (unfold smS; decide)⟩)
  have hgk := hx.2 _ (List.getElem_mem hk)
  have hat : (l.map ft)[k]? = some [i l[k].f0, i l[k].f1, i l[k].f2, .str l[k].f3, .lst 2 l[k].nl (l[k].f4.map cp)] := getL hk
  repeat' (first | intro _ | (simp [sxa, isPtrN, PV.pcs, elAt, setEl, inAt, elIn, setIn, isLst, cellsOf, Ex.ok, Ex.val, Opd.val, POp.dst, bin_int, binOK_int, bin_str, binOK_str, resOK, resV, RB.val, sub, putc, scB, scL, oneB, conf, Ex.val.eqP, Ex.val.eqL, negV, mxV, mnV, ← wr_eq, wr_zero, wr_one, wr_m1, bst_lst, byteC, partsOK, putAll, appV, nilV, slV, sslV, optB, optNum, and_assoc, exists_and_left, exists_eq_left', ft, *]) | refine ⟨by assumption, CopC_i (f52 10 (by omega)) (fun _ _ => by first | exact ⟨fun _ => rfl, (fun h => by cases h)⟩ | exact ⟨(fun h => by cases h), fun _ => ⟨_, rfl⟩⟩ | exact ⟨(fun h => by cases h), (fun h => by cases h)⟩) (fun x cs hx hcs => ?_)⟩ | refine ⟨by assumption, CopC_i (hc0) (fun _ _ => by first | exact ⟨fun _ => rfl, (fun h => by cases h)⟩ | exact ⟨(fun h => by cases h), fun _ => ⟨_, rfl⟩⟩ | exact ⟨(fun h => by cases h), (fun h => by cases h)⟩) (fun x cs hx hcs => ?_)⟩ | refine ⟨by assumption, CopC_i (hc1) (fun _ _ => by first | exact ⟨fun _ => rfl, (fun h => by cases h)⟩ | exact ⟨(fun h => by cases h), fun _ => ⟨_, rfl⟩⟩ | exact ⟨(fun h => by cases h), (fun h => by cases h)⟩) (fun x cs hx hcs => ?_)⟩ | refine ⟨by assumption, CopC_i (hc2) (fun _ _ => by first | exact ⟨fun _ => rfl, (fun h => by cases h)⟩ | exact ⟨(fun h => by cases h), fun _ => ⟨_, rfl⟩⟩ | exact ⟨(fun h => by cases h), (fun h => by cases h)⟩) (fun x cs hx hcs => ?_)⟩ | refine ⟨by assumption, CopC_i (hc3) (fun _ _ => by first | exact ⟨fun _ => rfl, (fun h => by cases h)⟩ | exact ⟨(fun h => by cases h), fun _ => ⟨_, rfl⟩⟩ | exact ⟨(fun h => by cases h), (fun h => by cases h)⟩) (fun x cs hx hcs => ?_)⟩ | refine ⟨by assumption, CopC_i (f55) (fun _ _ => by first | exact ⟨fun _ => rfl, (fun h => by cases h)⟩ | exact ⟨(fun h => by cases h), fun _ => ⟨_, rfl⟩⟩ | exact ⟨(fun h => by cases h), (fun h => by cases h)⟩) (fun x cs hx hcs => ?_)⟩ | refine CopC_i (f52 10 (by omega)) (fun _ _ => by first | exact ⟨fun _ => rfl, (fun h => by cases h)⟩ | exact ⟨(fun h => by cases h), fun _ => ⟨_, rfl⟩⟩ | exact ⟨(fun h => by cases h), (fun h => by cases h)⟩) (fun x cs hx hcs => ?_) | refine CopC_i (hc0) (fun _ _ => by first | exact ⟨fun _ => rfl, (fun h => by cases h)⟩ | exact ⟨(fun h => by cases h), fun _ => ⟨_, rfl⟩⟩ | exact ⟨(fun h => by cases h), (fun h => by cases h)⟩) (fun x cs hx hcs => ?_) | refine CopC_i (hc1) (fun _ _ => by first | exact ⟨fun _ => rfl, (fun h => by cases h)⟩ | exact ⟨(fun h => by cases h), fun _ => ⟨_, rfl⟩⟩ | exact ⟨(fun h => by cases h), (fun h => by cases h)⟩) (fun x cs hx hcs => ?_) | refine CopC_i (hc2) (fun _ _ => by first | exact ⟨fun _ => rfl, (fun h => by cases h)⟩ | exact ⟨(fun h => by cases h), fun _ => ⟨_, rfl⟩⟩ | exact ⟨(fun h => by cases h), (fun h => by cases h)⟩) (fun x cs hx hcs => ?_) | refine CopC_i (hc3) (fun _ _ => by first | exact ⟨fun _ => rfl, (fun h => by cases h)⟩ | exact ⟨(fun h => by cases h), fun _ => ⟨_, rfl⟩⟩ | exact ⟨(fun h => by cases h), (fun h => by cases h)⟩) (fun x cs hx hcs => ?_) | refine CopC_i (f55) (fun _ _ => by first | exact ⟨fun _ => rfl, (fun h => by cases h)⟩ | exact ⟨(fun h => by cases h), fun _ => ⟨_, rfl⟩⟩ | exact ⟨(fun h => by cases h), (fun h => by cases h)⟩) (fun x cs hx hcs => ?_) | refine CondS_d (fun h => ?_) (fun h => ?_) | refine CondS_b (fun h => ?_) (fun h => ?_) | refine GrdS_d (fun h => ?_) (fun h => ?_) | refine GrdS_b (fun h => ?_) (fun h => ?_) | refine OkS_i (by omega) ?_ | fail)
  · exact setEx hgl hgk.1 hgk.2
  · exact setEx hgl hgk.1 hgk.2
  · exact setEx hgl hx hgk.2
  · exact setEx hgl hgk.1 hgk.2
  · exact setEx hgl hgk.1 hx.2
  · exact ⟨l, rfl, hgl⟩
end Go.Eng
namespace Go.Eng
open Go Go.Proofs Go.Sort Go.Shelf Geo
set_option linter.unusedSimpArgs false
set_option linter.unusedVariables false
set_option maxRecDepth 20000

/-! listings in their order -/
def bl (a b : ByteArray) : Bool := Op.bytesLess a.toList b.toList
theorem bl_lt {a b : ByteArray} : bl a b = true ↔ a.toList < b.toList := by unfold bl; rw [bytesLess_eq]; simp
theorem bl_irr (a : ByteArray) : bl a a = false := by
  cases h : bl a a
  · rfl
  · exact absurd (bl_lt.1 h) (List.lt_irrefl _)
theorem bl_tr {a b c : ByteArray} (h : bl a b = true) (h2 : bl b c = true) : bl a c = true := bl_lt.2 (List.lt_trans (bl_lt.1 h) (bl_lt.1 h2))
theorem bl_tri {a b : ByteArray} (h : bl a b = false) (h2 : bl b a = false) : a = b := by
  have h1' : ¬ a.toList < b.toList := fun hh => by rw [bl_lt.2 hh] at h; cases h
  have h2' : ¬ b.toList < a.toList := fun hh => by rw [bl_lt.2 hh] at h2; cases h2
  have e : a.toList = b.toList := List.le_antisymm (List.not_lt.1 h2') (List.not_lt.1 h1')
  have := bytes_beq a b
  rw [e] at this
  simpa using this.symm
def ltLi (x y : Li) : Bool := bl x.f0 y.f0 || (decide (x.f0 = y.f0) && decide (x.f1 < y.f1))
theorem ltLi_irr (x : Li) : ltLi x x = false := by simp [ltLi, bl_irr]
theorem ltLi_tr {x y z : Li} (h : ltLi x y = true) (h2 : ltLi y z = true) : ltLi x z = true := by
  unfold ltLi at *
  simp only [Bool.or_eq_true, Bool.and_eq_true, decide_eq_true_eq] at *
  rcases h with h | ⟨h, hl⟩ <;> rcases h2 with h2 | ⟨h2, hl2⟩
  · exact .inl (bl_tr h h2)
  · exact .inl (by rw [← h2]; exact h)
  · exact .inl (by rw [h]; exact h2)
  · exact .inr ⟨h.trans h2, by omega⟩
theorem ltLi_tri {x y : Li} (h : ltLi x y = false) (h2 : ltLi y x = false) : x.f0 = y.f0 ∧ x.f1 = y.f1 := by
  unfold ltLi at *
  simp only [Bool.or_eq_false_iff, Bool.and_eq_false_iff, decide_eq_false_iff_not] at *
  have e := bl_tri h.1 h2.1
  refine ⟨e, ?_⟩
  rcases h.2 with h3 | h3
  · exact absurd e h3
  · rcases h2.2 with h4 | h4
    · exact absurd e.symm h4
    · omega
theorem ltLi_ntr {x y z : Li} (h : ltLi x y = false) (h2 : ltLi y z = false) : ltLi x z = false := by
  cases hxz : ltLi x z
  · rfl
  · exfalso
    cases hyx : ltLi y x
    · have e := ltLi_tri h hyx
      unfold ltLi at hxz h2
      rw [e.1, e.2, h2] at hxz
      cases hxz
    · rw [ltLi_tr hyx hxz] at h2; cases h2
def cfLi (x y : Li) : Int := if bl x.f0 y.f0 = true then -1 else if x.f0 = y.f0 then sgn (x.f1 - y.f1) else 1
theorem lt_cf (x y : Li) : ltOf cfLi x y = ltLi x y := by
  unfold ltOf cfLi ltLi
  by_cases h : bl x.f0 y.f0 = true
  · simp [h]
  · rw [if_neg h]
    by_cases h2 : x.f0 = y.f0
    · have := sgn_neg (x.f1 - y.f1)
      have h' : bl x.f0 y.f0 = false := by simpa using h
      rw [if_pos h2, h', decide_eq_true h2, Bool.eq_iff_iff]
      simp
      rw [this]; omega
    · simp [h2, h]
theorem swoLi : SWO (ltOf cfLi) := ⟨fun x => by rw [lt_cf]; exact ltLi_irr x, fun x y z h h2 => by rw [lt_cf] at *; exact ltLi_tr h h2, fun x y z h h2 => by rw [lt_cf] at *; exact ltLi_ntr h h2⟩
/-! a place is looked for from behind -/
def insK (x : Li) (l : List Li) : Nat → Nat
  | 0 => 0
  | k + 1 => if ltLi x (l.getD k liD) = true then insK x l k else k + 1
theorem insK_le (x : Li) (l : List Li) (k : Nat) : insK x l k ≤ k := by
  induction k with
  | zero => exact Nat.le_refl _
  | succ k ih => unfold insK; split <;> omega
theorem insK_hi {x : Li} {l : List Li} : ∀ k j, insK x l k ≤ j → j < k → ltLi x (l.getD j liD) = true := by
  intro k
  induction k with
  | zero => intro j _ h; omega
  | succ k ih =>
    intro j h1 h2
    unfold insK at h1
    split at h1
    · rename_i h
      rcases Nat.lt_or_ge j k with h3 | h3
      · exact ih j h1 h3
      · obtain rfl : j = k := by omega
        exact h
    · omega
theorem insK_lo {x : Li} {l : List Li} : ∀ k, 0 < insK x l k → ltLi x (l.getD (insK x l k - 1) liD) = false := by
  intro k
  induction k with
  | zero => intro h; exact absurd h (by simp [insK])
  | succ k ih =>
    intro h
    unfold insK at h ⊢
    split
    · rename_i h2; rw [if_pos h2] at h; exact ih h
    · rename_i h2; simpa using h2
def insL (x : Li) (l : List Li) : List Li := l.take (insK x l l.length) ++ x :: l.drop (insK x l l.length)
def srd (l : List Li) : Prop := l.Pairwise fun a b => ltLi b a = false
theorem insL_perm (x : Li) (l : List Li) : (insL x l).Perm (x :: l) := by
  unfold insL
  refine List.perm_middle.trans ?_
  rw [List.take_append_drop]
theorem insL_srd {x : Li} {l : List Li} (h : srd l) : srd (insL x l) := by
  unfold srd insL at *
  have hk := insK_le x l l.length
  have hg : ∀ j, j < l.length → l.getD j liD = l[j]?.getD liD := fun j _ => by simp
  have hdrop : ∀ b ∈ l.drop (insK x l l.length), ltLi x b = true := by
    intro b hb
    obtain ⟨j, hj⟩ := List.mem_iff_getElem?.1 hb
    rw [List.getElem?_drop] at hj
    have hlt : insK x l l.length + j < l.length := by
      rcases Nat.lt_or_ge (insK x l l.length + j) l.length with h1 | h1
      · exact h1
      · rw [List.getElem?_eq_none h1] at hj; cases hj
    have := insK_hi (x := x) (l := l) l.length (insK x l l.length + j) (by omega) hlt
    rw [hg _ hlt, hj] at this
    exact this
  have htake : ∀ a ∈ l.take (insK x l l.length), ltLi x a = false := by
    intro a ha
    obtain ⟨j, hj⟩ := List.mem_iff_getElem?.1 ha
    have hjk : j < insK x l l.length := by
      rcases Nat.lt_or_ge j (insK x l l.length) with h1 | h1
      · exact h1
      · rw [List.getElem?_eq_none (by simp; omega)] at hj; cases hj
    rw [List.getElem?_take_of_lt hjk] at hj
    have hlo := insK_lo (x := x) (l := l) l.length (by omega)
    have hlast : insK x l l.length - 1 < l.length := by omega
    rw [hg _ hlast, List.getElem?_eq_getElem hlast, Option.getD_some] at hlo
    have hjl : j < l.length := by omega
    rw [List.getElem?_eq_getElem hjl] at hj
    obtain rfl := Option.some.inj hj
    rcases Nat.lt_or_ge j (insK x l l.length - 1) with h1 | h1
    · exact ltLi_ntr hlo (List.pairwise_iff_getElem.1 h j _ hjl hlast h1)
    · have : j = insK x l l.length - 1 := by omega
      subst this; exact hlo
  rw [List.pairwise_append]
  refine ⟨h.sublist (List.take_sublist ..), List.pairwise_cons.2 ⟨fun b hb => ?_, h.sublist (List.drop_sublist ..)⟩, fun a ha b hb => ?_⟩
  · cases hbx : ltLi b x
    · rfl
    · have := ltLi_tr hbx (hdrop b hb); rw [ltLi_irr] at this; cases this
  · rcases List.mem_cons.1 hb with rfl | hb
    · exact htake a ha
    · cases hba : ltLi b a
      · rfl
      · have := ltLi_tr (hdrop b hb) hba
        rw [htake a ha] at this; cases this
def insTo (d : List Li) : Nat → List Li
  | 0 => []
  | n + 1 => insL (d.getD n liD) (insTo d n)
theorem insTo_perm (d : List Li) : ∀ n, n ≤ d.length → (insTo d n).Perm (d.take n) := by
  intro n
  induction n with
  | zero => intro _; exact .refl _
  | succ n ih =>
    intro h
    have hg : d.getD n liD = d[n] := by simp [show n < d.length by omega]
    unfold insTo
    rw [List.take_add_one, List.getElem?_eq_getElem (by omega), hg]
    exact (insL_perm _ _).trans (((ih (by omega)).cons _).trans (by
      have := List.perm_append_comm (l₁ := [d[n]]) (l₂ := d.take n)
      simpa using this))
theorem insTo_srd (d : List Li) : ∀ n, srd (insTo d n) := by
  intro n
  induction n with
  | zero => exact List.Pairwise.nil
  | succ n ih => exact insL_srd ih
theorem pw_inj : ∀ {d : List Li}, d.Pairwise (fun a b => a.f1 < b.f1) → ∀ a ∈ d, ∀ b ∈ d, a.f1 = b.f1 → a = b
  | [], _, a, ha, _, _, _ => by cases ha
  | x :: r, h, a, ha, b, hb, e => by
    have h' := List.pairwise_cons.1 h
    rcases List.mem_cons.1 ha with e1 | ha2
    · rcases List.mem_cons.1 hb with e2 | hb2
      · rw [e1, e2]
      · have := h'.1 b hb2; rw [e1] at e; omega
    · rcases List.mem_cons.1 hb with e2 | hb2
      · have := h'.1 a ha2; rw [e2] at e; omega
      · exact pw_inj h'.2 a ha2 b hb2 e
instance : Inhabited Li := ⟨liD⟩
theorem ins_srt {d : List Li} (h : d.Pairwise fun a b => a.f1 < b.f1) : srtL cfLi d = insTo d d.length := by
  have p1 := srt_perm swoLi d
  have p2 := insTo_perm d d.length (Nat.le_refl _)
  rw [List.take_length] at p2
  have s1 : (srtL cfLi d).Pairwise fun a b => ltLi b a = false := by
    have := srt_sorted swoLi d
    simpa only [lt_cf] using this
  refine List.Perm.eq_of_pairwise (le := fun a b => ltLi b a = false) ?_ s1 (insTo_srd d d.length) (p1.trans p2.symm)
  intro a b ha hb h1 h2
  have e := ltLi_tri h2 h1
  exact pw_inj h a (p1.mem_iff.1 ha) b (p2.mem_iff.1 hb) e.2
end Go.Eng
namespace Go.Eng
open Go Go.Proofs
set_option linter.unusedSimpArgs false
set_option linter.unusedVariables false
set_option maxRecDepth 20000
set_option maxHeartbeats 1000000

/-! prefixes; draws of listings. WRITES -/
def hasPre (z p : ByteArray) : Bool := decide (p.size ≤ z.size) && decide (z.extract 0 p.size = p)
theorem f53 (z p : ByteArray) (hz : z.size ≤ 1000000000000) (hp : p.size ≤ 1000000000000) : Fn Tryz.prog 53 false [.str z, .str p] (.bool (hasPre z p)) := by
  refine Fn.by_sx hX (by kernel_rfl) c53 (by kernel_rfl) (by rfl) ?_
  simp [i53, sxa, isPtrN, PV.pcs, elAt, setEl, inAt, elIn, setIn, isLst, cellsOf, Ex.ok, Ex.val, Opd.val, POp.dst, bin_int, binOK_int, bin_str, binOK_str, resOK, resV, RB.val, sub, putc, scB, scL, oneB, conf, Ex.val.eqP, Ex.val.eqL, negV, mxV, mnV, ← wr_eq, wr_zero, wr_one, wr_m1, bst_lst, byteC, partsOK, putAll, appV, nilV, slV, sslV, optB, optNum, and_assoc, exists_and_left, exists_eq_left']
  by_cases h : p.size ≤ z.size
  · have hi : (p.size : Int) ≤ z.size := by omega
    repeat' (first | intro _ | (simp [sxa, isPtrN, PV.pcs, elAt, setEl, inAt, elIn, setIn, isLst, cellsOf, Ex.ok, Ex.val, Opd.val, POp.dst, bin_int, binOK_int, bin_str, binOK_str, resOK, resV, RB.val, sub, putc, scB, scL, oneB, conf, Ex.val.eqP, Ex.val.eqL, negV, mxV, mnV, ← wr_eq, wr_zero, wr_one, wr_m1, bst_lst, byteC, partsOK, putAll, appV, nilV, slV, sslV, optB, optNum, and_assoc, exists_and_left, exists_eq_left', *]) | refine CondS_d (fun h => ?_) (fun h => ?_) | refine CondS_b (fun h => ?_) (fun h => ?_) | refine GrdS_d (fun h => ?_) (fun h => ?_) | refine GrdS_b (fun h => ?_) (fun h => ?_) | refine OkS_i (by omega) ?_ | fail)
    all_goals simp_all [hasPre]
  · have hi : ¬ (p.size : Int) ≤ z.size := by omega
    rw [show hasPre z p = false by unfold hasPre; rw [decide_eq_false h]; rfl]
    repeat' (first | intro _ | (simp [sxa, isPtrN, PV.pcs, elAt, setEl, inAt, elIn, setIn, isLst, cellsOf, Ex.ok, Ex.val, Opd.val, POp.dst, bin_int, binOK_int, bin_str, binOK_str, resOK, resV, RB.val, sub, putc, scB, scL, oneB, conf, Ex.val.eqP, Ex.val.eqL, negV, mxV, mnV, ← wr_eq, wr_zero, wr_one, wr_m1, bst_lst, byteC, partsOK, putAll, appV, nilV, slV, sslV, optB, optNum, and_assoc, exists_and_left, exists_eq_left', *]) | refine CondS_d (fun h => ?_) (fun h => ?_) | refine CondS_b (fun h => ?_) (fun h => ?_) | refine GrdS_d (fun h => ?_) (fun h => ?_) | refine GrdS_b (fun h => ?_) (fun h => ?_) | refine OkS_i (by omega) ?_ | fail)
theorem f34 (z p : ByteArray) (hz : z.size ≤ 1000000000000) (hp : p.size ≤ 1000000000000) : Fn Tryz.prog 34 false [.str z, .str p] (.bool (hasPre z p)) := by
  refine Fn.by_sx hX (by kernel_rfl) c34 (by kernel_rfl) (by rfl) ?_
  simp [i34, sxa, isPtrN, PV.pcs, elAt, setEl, inAt, elIn, setIn, isLst, cellsOf, Ex.ok, Ex.val, Opd.val, POp.dst, bin_int, binOK_int, bin_str, binOK_str, resOK, resV, RB.val, sub, putc, scB, scL, oneB, conf, Ex.val.eqP, Ex.val.eqL, negV, mxV, mnV, ← wr_eq, wr_zero, wr_one, wr_m1, bst_lst, byteC, partsOK, putAll, appV, nilV, slV, sslV, optB, optNum, and_assoc, exists_and_left, exists_eq_left']
  repeat' (first | intro _ | (simp [sxa, isPtrN, PV.pcs, elAt, setEl, inAt, elIn, setIn, isLst, cellsOf, Ex.ok, Ex.val, Opd.val, POp.dst, bin_int, binOK_int, bin_str, binOK_str, resOK, resV, RB.val, sub, putc, scB, scL, oneB, conf, Ex.val.eqP, Ex.val.eqL, negV, mxV, mnV, ← wr_eq, wr_zero, wr_one, wr_m1, bst_lst, byteC, partsOK, putAll, appV, nilV, slV, sslV, optB, optNum, and_assoc, exists_and_left, exists_eq_left', *]) | refine CallS_i (f53 z p hz hp) ?_ | refine CallM_i (f53 z p hz hp) ?_ | refine CallE_i (f53 z p hz hp) ?_ | refine CallX_i (f53 z p hz hp) ?_ | refine CallB_i (f53 z p hz hp) ?_ | refine CondS_d (fun h => ?_) (fun h => ?_) | refine CondS_b (fun h => ?_) (fun h => ?_) | refine GrdS_d (fun h => ?_) (fun h => ?_) | refine GrdS_b (fun h => ?_) (fun h => ?_) | refine OkS_i (by omega) ?_ | fail)
def swTo (l : List Li) (p : ByteArray) : Nat → List Li
  | 0 => []
  | n + 1 => swTo l p n ++ (if hasPre (l.getD n liD).f0 p = true then [l.getD n liD] else [])
theorem swTo_len (l : List Li) (p : ByteArray) (n : Nat) : (swTo l p n).length ≤ n := by
  induction n with
  | zero => simp [swTo]
  | succ n ih => unfold swTo; rw [List.length_append]; split <;> simp <;> omega
theorem swTo_pre {l : List Li} {p : ByteArray} : ∀ n, ∀ x ∈ swTo l p n, hasPre x.f0 p = true := by
  intro n
  induction n with
  | zero => intro x hx; cases hx
  | succ n ih =>
    intro x hx
    unfold swTo at hx
    rcases List.mem_append.1 hx with h | h
    · exact ih x h
    · split at h
      · rename_i hh
        obtain rfl : x = l.getD n liD := by simpa using h
        exact hh
      · cases h
theorem f13 (l : List Li) (n1 : Bool) (p : ByteArray) (hl : l.length ≤ 1048576) (hs : ∀ x ∈ l, x.f0.size ≤ 1000000000000) (hp : p.size ≤ 1000000000000) : Fn Tryz.prog 13 true [.lst 3 n1 (l.map li), .str p] (.lst 3 false ((swTo l p l.length).map li)) := by
  refine Fn.by_sx hX (by kernel_rfl) c13 (by kernel_rfl) (by rfl) ?_
  simp [i13, sxa, isPtrN, PV.pcs, elAt, setEl, inAt, elIn, setIn, isLst, cellsOf, Ex.ok, Ex.val, Opd.val, POp.dst, bin_int, binOK_int, bin_str, binOK_str, resOK, resV, RB.val, sub, putc, scB, scL, oneB, conf, Ex.val.eqP, Ex.val.eqL, negV, mxV, mnV, ← wr_eq, wr_zero, wr_one, wr_m1, bst_lst, byteC, partsOK, putAll, appV, nilV, slV, sslV, optB, optNum, and_assoc, exists_and_left, exists_eq_left']
  refine sx_count l.length (fun n V => V 1 = .str p ∧ V 9 = .lst 3 n1 (l.map li) ∧ V 10 = i l.length ∧ V 11 = i n ∧ V 5 = .lst 3 false ((swTo l p n).map li)) 0 (by omega) (by simp [sxa, isPtrN, PV.pcs, elAt, setEl, inAt, elIn, setIn, isLst, cellsOf, Ex.ok, Ex.val, Opd.val, POp.dst, bin_int, binOK_int, bin_str, binOK_str, resOK, resV, RB.val, sub, putc, scB, scL, oneB, conf, Ex.val.eqP, Ex.val.eqL, negV, mxV, mnV, ← wr_eq, wr_zero, wr_one, wr_m1, bst_lst, byteC, partsOK, putAll, appV, nilV, slV, sslV, optB, optNum, and_assoc, exists_and_left, exists_eq_left', swTo]) ?_
  rintro n V hn ⟨g1, g9, g10, g11, g5⟩
  simp [sxa, isPtrN, PV.pcs, elAt, setEl, inAt, elIn, setIn, isLst, cellsOf, Ex.ok, Ex.val, Opd.val, POp.dst, bin_int, binOK_int, bin_str, binOK_str, resOK, resV, RB.val, sub, putc, scB, scL, oneB, conf, Ex.val.eqP, Ex.val.eqL, negV, mxV, mnV, ← wr_eq, wr_zero, wr_one, wr_m1, bst_lst, byteC, partsOK, putAll, appV, nilV, slV, sslV, optB, optNum, and_assoc, exists_and_left, exists_eq_left', g10, g11]
  refine CondS_d (fun hlt => ?_) (fun hge => ?_)
  · have hlt' : n < l.length := by omega
    have hw : wr .i64 ((n : Int) + 1) = n + 1 := wr_in (by omega) (by omega)
    have hln := swTo_len l p n
    have hgd : l.getD n liD = l[n] := by simp [hlt']
    have hs1 : swTo l p (n + 1) = swTo l p n ++ (if hasPre l[n].f0 p = true then [l[n]] else []) := by rw [swTo, hgd]
    have hc := f34 l[n].f0 p (hs _ (List.getElem_mem hlt')) hp
    by_cases h : hasPre l[n].f0 p = true
    · rw [if_pos h] at hs1
      rw [h] at hc
      repeat' (first | intro _ | (simp [sxa, isPtrN, PV.pcs, elAt, setEl, inAt, elIn, setIn, isLst, cellsOf, Ex.ok, Ex.val, Opd.val, POp.dst, bin_int, binOK_int, bin_str, binOK_str, resOK, resV, RB.val, sub, putc, scB, scL, oneB, conf, Ex.val.eqP, Ex.val.eqL, negV, mxV, mnV, ← wr_eq, wr_zero, wr_one, wr_m1, bst_lst, byteC, partsOK, putAll, appV, nilV, slV, sslV, optB, optNum, and_assoc, exists_and_left, exists_eq_left', li, *]) | refine CallS_i (hc) ?_ | refine CallM_i (hc) ?_ | refine CallE_i (hc) ?_ | refine CallX_i (hc) ?_ | refine CallB_i (hc) ?_ | refine CondS_d (fun h => ?_) (fun h => ?_) | refine CondS_b (fun h => ?_) (fun h => ?_) | refine GrdS_d (fun h => ?_) (fun h => ?_) | refine GrdS_b (fun h => ?_) (fun h => ?_) | refine OkS_i (by omega) ?_ | fail)
    · rw [if_neg h, List.append_nil] at hs1
      rw [show hasPre l[n].f0 p = false by simpa using h] at hc
      repeat' (first | intro _ | (simp [sxa, isPtrN, PV.pcs, elAt, setEl, inAt, elIn, setIn, isLst, cellsOf, Ex.ok, Ex.val, Opd.val, POp.dst, bin_int, binOK_int, bin_str, binOK_str, resOK, resV, RB.val, sub, putc, scB, scL, oneB, conf, Ex.val.eqP, Ex.val.eqL, negV, mxV, mnV, ← wr_eq, wr_zero, wr_one, wr_m1, bst_lst, byteC, partsOK, putAll, appV, nilV, slV, sslV, optB, optNum, and_assoc, exists_and_left, exists_eq_left', li, *]) | refine CallS_i (hc) ?_ | refine CallM_i (hc) ?_ | refine CallE_i (hc) ?_ | refine CallX_i (hc) ?_ | refine CallB_i (hc) ?_ | refine CondS_d (fun h => ?_) (fun h => ?_) | refine CondS_b (fun h => ?_) (fun h => ?_) | refine GrdS_d (fun h => ?_) (fun h => ?_) | refine GrdS_b (fun h => ?_) (fun h => ?_) | refine OkS_i (by omega) ?_ | fail)
  · have : n = l.length := by omega
    subst this
    repeat' (first | intro _ | (simp [sxa, isPtrN, PV.pcs, elAt, setEl, inAt, elIn, setIn, isLst, cellsOf, Ex.ok, Ex.val, Opd.val, POp.dst, bin_int, binOK_int, bin_str, binOK_str, resOK, resV, RB.val, sub, putc, scB, scL, oneB, conf, Ex.val.eqP, Ex.val.eqL, negV, mxV, mnV, ← wr_eq, wr_zero, wr_one, wr_m1, bst_lst, byteC, partsOK, putAll, appV, nilV, slV, sslV, optB, optNum, and_assoc, exists_and_left, exists_eq_left', *]) | refine CondS_d (fun h => ?_) (fun h => ?_) | refine CondS_b (fun h => ?_) (fun h => ?_) | refine GrdS_d (fun h => ?_) (fun h => ?_) | refine GrdS_b (fun h => ?_) (fun h => ?_) | refine OkS_i (by omega) ?_ | fail)
theorem f16 (nl : Bool) (els : List (List PV)) (hce : curEls els = true) : FnR Tryz.prog 16 false true [.lst 1 nl els] (fun v => ∃ l : List Ft, v = .lst 5 false (l.map ft) ∧ goodL l) := by
  refine FnR.by_sx hX (by kernel_rfl) c16 rfl (by rfl) ?_
  simp [i16, sxa, isPtrN, PV.pcs, elAt, setEl, inAt, elIn, setIn, isLst, cellsOf, Ex.ok, Ex.val, Opd.val, POp.dst, bin_int, binOK_int, bin_str, binOK_str, resOK, resV, RB.val, sub, putc, scB, scL, oneB, conf, Ex.val.eqP, Ex.val.eqL, negV, mxV, mnV, ← wr_eq, wr_zero, wr_one, wr_m1, bst_lst, byteC, partsOK, putAll, appV, nilV, slV, sslV, optB, optNum, and_assoc, exists_and_left, exists_eq_left']
  repeat' (first | intro _ | (simp [sxa, isPtrN, PV.pcs, elAt, setEl, inAt, elIn, setIn, isLst, cellsOf, Ex.ok, Ex.val, Opd.val, POp.dst, bin_int, binOK_int, bin_str, binOK_str, resOK, resV, RB.val, sub, putc, scB, scL, oneB, conf, Ex.val.eqP, Ex.val.eqL, negV, mxV, mnV, ← wr_eq, wr_zero, wr_one, wr_m1, bst_lst, byteC, partsOK, putAll, appV, nilV, slV, sslV, optB, optNum, and_assoc, exists_and_left, exists_eq_left', *]) | refine ⟨by assumption, CopC_i (f35) (fun _ _ => by first | exact ⟨fun _ => rfl, (fun h => by cases h)⟩ | exact ⟨(fun h => by cases h), fun _ => ⟨_, rfl⟩⟩ | exact ⟨(fun h => by cases h), (fun h => by cases h)⟩) (fun x cs hx hcs => ?_)⟩ | refine CopN_i (f31 nl els hce) (fun cs hcs => ?_) | refine CopC_i (f35) (fun _ _ => by first | exact ⟨fun _ => rfl, (fun h => by cases h)⟩ | exact ⟨(fun h => by cases h), fun _ => ⟨_, rfl⟩⟩ | exact ⟨(fun h => by cases h), (fun h => by cases h)⟩) (fun x cs hx hcs => ?_) | refine CondS_d (fun h => ?_) (fun h => ?_) | refine CondS_b (fun h => ?_) (fun h => ?_) | refine GrdS_d (fun h => ?_) (fun h => ?_) | refine GrdS_b (fun h => ?_) (fun h => ?_) | refine OkS_i (by omega) ?_ | fail)
  all_goals exact ⟨x, rfl, hx⟩
theorem f5 (nl : Bool) (els : List (List PV)) (hce : curEls els = true) : FnR Tryz.prog 5 false true [.lst 1 nl els] (fun v => ∃ l : List Ft, v = .lst 5 false (l.map ft) ∧ goodL l) := by
  refine FnR.by_sx hX (by kernel_rfl) c5 rfl (by rfl) ?_
  simp [i5, sxa, isPtrN, PV.pcs, elAt, setEl, inAt, elIn, setIn, isLst, cellsOf, Ex.ok, Ex.val, Opd.val, POp.dst, bin_int, binOK_int, bin_str, binOK_str, resOK, resV, RB.val, sub, putc, scB, scL, oneB, conf, Ex.val.eqP, Ex.val.eqL, negV, mxV, mnV, ← wr_eq, wr_zero, wr_one, wr_m1, bst_lst, byteC, partsOK, putAll, appV, nilV, slV, sslV, optB, optNum, and_assoc, exists_and_left, exists_eq_left']
  repeat' (first | intro _ | (simp [sxa, isPtrN, PV.pcs, elAt, setEl, inAt, elIn, setIn, isLst, cellsOf, Ex.ok, Ex.val, Opd.val, POp.dst, bin_int, binOK_int, bin_str, binOK_str, resOK, resV, RB.val, sub, putc, scB, scL, oneB, conf, Ex.val.eqP, Ex.val.eqL, negV, mxV, mnV, ← wr_eq, wr_zero, wr_one, wr_m1, bst_lst, byteC, partsOK, putAll, appV, nilV, slV, sslV, optB, optNum, and_assoc, exists_and_left, exists_eq_left', *]) | refine CopD_i (f16 nl els hce) (fun _ _ => by first | exact ⟨fun _ => rfl, (fun h => by cases h)⟩ | exact ⟨(fun h => by cases h), fun _ => ⟨_, rfl⟩⟩ | exact ⟨(fun h => by cases h), (fun h => by cases h)⟩) (fun x hx => ?_) | refine CondS_d (fun h => ?_) (fun h => ?_) | refine CondS_b (fun h => ?_) (fun h => ?_) | refine GrdS_d (fun h => ?_) (fun h => ?_) | refine GrdS_b (fun h => ?_) (fun h => ?_) | refine OkS_i (by omega) ?_ | fail)
  all_goals exact ⟨x, rfl, hx⟩
/-! listings that are drawn -/
def goodS (l : List Li) : Prop := l.length ≤ 16 ∧ ∀ x ∈ l, x.f0.size ≤ 9
end Go.Eng
namespace Go.Eng
open Go Go.Proofs
set_option linter.unusedSimpArgs false
set_option linter.unusedVariables false
set_option maxRecDepth 20000
set_option maxHeartbeats 1000000

/-! numerals, bars, references of tiles -/
def rho_laysM171 : Go.Shelf.Ren := ⟨fun | 171 => 94 | 243 => 121 | 246 => 132 | 283 => 135 | 284 => 136 | 285 => 137 | 286 => 138 | 129 => 68 | 317 => 139 | 318 => 140 | 319 => 141 | 320 => 142 | 337 => 143 | 338 => 144 | n => n, fun | 3 => 3 | 9 => 9 | 2 => 2 | 4 => 4 | 171 => 137 | 0 => 0 | 53 => 98 | 37 => 22 | 5 => 5 | 173 => 139 | 212 => 143 | 51 => 96 | 20 => 20 | 213 => 144 | 46 => 72 | 232 => 145 | 233 => 146 | n => n, fun | 17 => 0 | 18 => 1 | 19 => 2 | n => n⟩
theorem L_laysM171 : Go.Proofs.LaysM.n171 Tryz.prog rho_laysM171 := {
  mixed := by kernel_rfl
  f129 := Tryz.func68.trans (congrArg some (by kernel_rfl))
  f171 := Tryz.func94.trans (congrArg some (by kernel_rfl))
  f243 := Tryz.func121.trans (congrArg some (by kernel_rfl))
  f246 := Tryz.func132.trans (congrArg some (by kernel_rfl))
  f283 := Tryz.func135.trans (congrArg some (by kernel_rfl))
  f284 := Tryz.func136.trans (congrArg some (by kernel_rfl))
  f285 := Tryz.func137.trans (congrArg some (by kernel_rfl))
  f286 := Tryz.func138.trans (congrArg some (by kernel_rfl))
  f317 := Tryz.func139.trans (congrArg some (by kernel_rfl))
  f318 := Tryz.func140.trans (congrArg some (by kernel_rfl))
  f319 := Tryz.func141.trans (congrArg some (by kernel_rfl))
  f320 := Tryz.func142.trans (congrArg some (by kernel_rfl))
  f337 := Tryz.func143.trans (congrArg some (by kernel_rfl))
  f338 := Tryz.func144.trans (congrArg some (by kernel_rfl))
  t0 := Tryz.underlying0
  a0 := Tryz.isAgg0
  z0 := Tryz.sizeOf0
  v0 := Tryz.zeroValue0
  t2 := Tryz.underlying2
  a2 := Tryz.isAgg2
  z2 := Tryz.sizeOf2
  v2 := Tryz.zeroValue2
  t3 := Tryz.underlying3
  a3 := Tryz.isAgg3
  z3 := Tryz.sizeOf3
  v3 := Tryz.zeroValue3
  t4 := Tryz.underlying4
  a4 := Tryz.isAgg4
  z4 := Tryz.sizeOf4
  v4 := Tryz.zeroValue4
  t5 := Tryz.underlying5
  a5 := Tryz.isAgg5
  z5 := Tryz.sizeOf5
  v5 := Tryz.zeroValue5
  t9 := Tryz.underlying9
  a9 := Tryz.isAgg9
  z9 := Tryz.sizeOf9
  v9 := Tryz.zeroValue9
  t20 := Tryz.underlying20
  a20 := Tryz.isAgg20
  z20 := Tryz.sizeOf20
  v20 := Tryz.zeroValue20
  t37 := Tryz.underlying22
  a37 := Tryz.isAgg22
  z37 := Tryz.sizeOf22
  v37 := Tryz.zeroValue22
  t46 := Tryz.underlying72
  a46 := Tryz.isAgg72
  z46 := Tryz.sizeOf72
  v46 := Tryz.zeroValue72
  t51 := Tryz.underlying96
  a51 := Tryz.isAgg96
  z51 := Tryz.sizeOf96
  v51 := Tryz.zeroValue96
  t53 := Tryz.underlying98
  a53 := Tryz.isAgg98
  z53 := Tryz.sizeOf98
  v53 := Tryz.zeroValue98
  t171 := Tryz.underlying137
  a171 := Tryz.isAgg137
  z171 := Tryz.sizeOf137
  v171 := Tryz.zeroValue137
  t173 := Tryz.underlying139
  a173 := Tryz.isAgg139
  z173 := Tryz.sizeOf139
  v173 := Tryz.zeroValue139
  t212 := Tryz.underlying143
  a212 := Tryz.isAgg143
  z212 := Tryz.sizeOf143
  v212 := Tryz.zeroValue143
  t213 := Tryz.underlying144
  a213 := Tryz.isAgg144
  z213 := Tryz.sizeOf144
  t232 := Tryz.underlying145
  a232 := Tryz.isAgg145
  z232 := Tryz.sizeOf145
  v232 := Tryz.zeroValue145
  t233 := Tryz.underlying146
  a233 := Tryz.isAgg146
  z233 := Tryz.sizeOf146
  v233 := Tryz.zeroValue146
  g17 := by kernel_rfl
  g18 := by kernel_rfl
  g19 := by kernel_rfl
  i0 := by kernel_rfl
  i2 := by kernel_rfl
  i3 := by kernel_rfl
  i4 := by kernel_rfl
  i5 := by kernel_rfl
  i9 := by kernel_rfl
  i20 := by kernel_rfl
  i37 := by kernel_rfl
  i46 := by kernel_rfl
  i51 := by kernel_rfl
  i53 := by kernel_rfl
  i171 := by kernel_rfl
  i173 := by kernel_rfl
  i212 := by kernel_rfl
  i232 := by kernel_rfl
  i233 := by kernel_rfl
  m17 := by kernel_rfl
  m18 := by kernel_rfl
  m19 := by kernel_rfl }
def dec (n : Int) : ByteArray := ⟨(Lib.itoa n).toArray⟩
theorem f94 (n : Int) (h0 : -9223372036854775808 ≤ n) (h1 : n ≤ 9223372036854775807) : Fn Tryz.prog 94 false [i n] (.str (dec n)) := by
  refine ⟨by kernel_rfl, fun w xs Fs hi hr hlt => ?_⟩
  obtain ⟨x, xs', F1, F2, rfl, rfl, hx, hr'⟩ := RepL.cons_inv hr
  obtain ⟨rfl, rfl⟩ := hr'.nil_inv
  obtain ⟨rfl, rfl⟩ := hx.int_inv
  have hn : (Tryz.prog.globalNamed pow10N).isNone = false := by kernel_rfl
  have htab : Lib.TabIs Tryz.prog w "internal/strconv.uint64pow10" .u64 Lib.pow10Tab := hi.resolve_left (fun h => by rw [h] at hn; cases hn)
  refine (Any.strconv_Itoa L_laysM171 n h0 h1 w htab).mono ?_
  rintro e w' ⟨rfl, k, os, rfl⟩
  exact ⟨_, [], rfl, .str _, Lib.below_grow _ _ (Nat.le_refl _) _ _, by simp, by simp⟩
theorem f57 (n : Int) (h0 : -9223372036854775808 ≤ n) (h1 : n ≤ 9223372036854775807) : Fn Tryz.prog 57 false [i n] (.str (dec n)) := by
  refine Fn.by_sx hX (by kernel_rfl) c57 (by kernel_rfl) (by rfl) ?_
  simp [i57, sxa, isPtrN, PV.pcs, elAt, setEl, inAt, elIn, setIn, isLst, cellsOf, Ex.ok, Ex.val, Opd.val, POp.dst, bin_int, binOK_int, bin_str, binOK_str, resOK, resV, RB.val, sub, putc, scB, scL, oneB, conf, Ex.val.eqP, Ex.val.eqL, negV, mxV, mnV, ← wr_eq, wr_zero, wr_one, wr_m1, bst_lst, byteC, partsOK, putAll, appV, nilV, slV, sslV, optB, optNum, and_assoc, exists_and_left, exists_eq_left']
  repeat' (first | intro _ | (simp [sxa, isPtrN, PV.pcs, elAt, setEl, inAt, elIn, setIn, isLst, cellsOf, Ex.ok, Ex.val, Opd.val, POp.dst, bin_int, binOK_int, bin_str, binOK_str, resOK, resV, RB.val, sub, putc, scB, scL, oneB, conf, Ex.val.eqP, Ex.val.eqL, negV, mxV, mnV, ← wr_eq, wr_zero, wr_one, wr_m1, bst_lst, byteC, partsOK, putAll, appV, nilV, slV, sslV, optB, optNum, and_assoc, exists_and_left, exists_eq_left', *]) | refine CallS_i (f94 n h0 h1) ?_ | refine CondS_d (fun h => ?_) (fun h => ?_) | refine CondS_b (fun h => ?_) (fun h => ?_) | refine GrdS_d (fun h => ?_) (fun h => ?_) | refine GrdS_b (fun h => ?_) (fun h => ?_) | refine OkS_i (by omega) ?_ | fail)
/-! the first digit -/
/-! BarParts -/
/-! RoundLength, ScaleStep -/
def rs (k : Nat) : Nat := [1, 2, 5].getD (k % 3) 0 * 10 ^ (k / 3)
/-! ScaleStep -/
theorem dec_nat (u : Nat) : dec u = ⟨(Lib.decDigits u).toArray⟩ := by
  unfold dec Lib.itoa; rw [if_neg (by omega), Int.toNat_natCast]
theorem digits_len (u : Nat) : ∀ f, u < 10 ^ f → (Lib.decDigits u).length ≤ f + 1 := by
  intro f
  induction f generalizing u with
  | zero => intro h; rw [Lib.decDigits]; simp at h; subst h; simp
  | succ f ih =>
    intro h
    rw [Lib.decDigits]
    split
    · simp
    · have := ih (u / 10) (by rw [Nat.pow_succ] at h; omega)
      rw [List.length_append]; simp; omega
theorem dec_size {n : Int} (h : 0 ≤ n) (h2 : n ≤ 9223372036854775807) : (dec n).size ≤ 21 := by
  obtain ⟨u, rfl⟩ : ∃ u : Nat, n = u := ⟨n.toNat, by omega⟩
  rw [dec_nat]
  exact digits_len u 20 (by omega)
/-- the digits of u, none of nought, ahead of l -/
def digs (u : Nat) (l : List UInt8) : List UInt8 := (if u = 0 then [] else Lib.decDigits u) ++ l
theorem digs_step {u : Nat} (h : 0 < u) (l : List UInt8) : digs u l = digs (u / 10) (UInt8.ofNat (48 + u % 10) :: l) := by
  unfold digs
  rw [if_neg (by omega), Lib.decDigits]
  split
  · rename_i h10
    rw [if_pos (by omega), show u % 10 = u by omega]; rfl
  · rw [if_neg (by omega)]; simp
theorem str_app (a b : List UInt8) : (⟨a.toArray⟩ : ByteArray) ++ (⟨b.toArray⟩ : ByteArray) = ⟨(a ++ b).toArray⟩ := by
  apply ByteArray.ext
  simp
theorem f72 (u : Nat) (h1 : u ≤ 9223372036854775807) : Fn Tryz.prog 72 false [i u] (.str (dec u)) := by
  refine Fn.by_sx hX (by kernel_rfl) c72 (by kernel_rfl) (by rfl) ?_
  simp [i72, sxa, isPtrN, PV.pcs, elAt, setEl, inAt, elIn, setIn, isLst, cellsOf, Ex.ok, Ex.val, Opd.val, POp.dst, bin_int, binOK_int, bin_str, binOK_str, resOK, resV, RB.val, sub, putc, scB, scL, oneB, conf, Ex.val.eqP, Ex.val.eqL, negV, mxV, mnV, ← wr_eq, wr_zero, wr_one, wr_m1, bst_lst, byteC, partsOK, putAll, appV, nilV, slV, sslV, optB, optNum, and_assoc, exists_and_left, exists_eq_left']
  by_cases hz : u = 0
  · subst hz
    have : dec (0 : Int) = bs [48] := by have := dec_nat 0; rw [Lib.decDigits] at this; simpa using this
    repeat' (first | intro _ | (simp [sxa, isPtrN, PV.pcs, elAt, setEl, inAt, elIn, setIn, isLst, cellsOf, Ex.ok, Ex.val, Opd.val, POp.dst, bin_int, binOK_int, bin_str, binOK_str, resOK, resV, RB.val, sub, putc, scB, scL, oneB, conf, Ex.val.eqP, Ex.val.eqL, negV, mxV, mnV, ← wr_eq, wr_zero, wr_one, wr_m1, bst_lst, byteC, partsOK, putAll, appV, nilV, slV, sslV, optB, optNum, and_assoc, exists_and_left, exists_eq_left', *]) | refine CondS_d (fun h => ?_) (fun h => ?_) | refine CondS_b (fun h => ?_) (fun h => ?_) | refine GrdS_d (fun h => ?_) (fun h => ?_) | refine GrdS_b (fun h => ?_) (fun h => ?_) | refine OkS_i (by omega) ?_ | fail)
  have hzi : ¬ (u : Int) = 0 := by omega
  repeat' (first | intro _ | (simp [sxa, isPtrN, PV.pcs, elAt, setEl, inAt, elIn, setIn, isLst, cellsOf, Ex.ok, Ex.val, Opd.val, POp.dst, bin_int, binOK_int, bin_str, binOK_str, resOK, resV, RB.val, sub, putc, scB, scL, oneB, conf, Ex.val.eqP, Ex.val.eqL, negV, mxV, mnV, ← wr_eq, wr_zero, wr_one, wr_m1, bst_lst, byteC, partsOK, putAll, appV, nilV, slV, sslV, optB, optNum, and_assoc, exists_and_left, exists_eq_left', *]) | refine CondS_d (fun h => ?_) (fun h => ?_) | refine CondS_b (fun h => ?_) (fun h => ?_) | refine GrdS_d (fun h => ?_) (fun h => ?_) | refine GrdS_b (fun h => ?_) (fun h => ?_) | refine OkS_i (by omega) ?_ | fail)
  refine sx_down (fun m V => ∃ l : List UInt8, V 0 = i u ∧ V 4 = i m ∧ V 3 = .str ⟨l.toArray⟩ ∧ m ≤ 9223372036854775807 ∧ digs m l = Lib.decDigits u) u ⟨[], by simp [sxa, isPtrN, PV.pcs, elAt, setEl, inAt, elIn, setIn, isLst, cellsOf, Ex.ok, Ex.val, Opd.val, POp.dst, bin_int, binOK_int, bin_str, binOK_str, resOK, resV, RB.val, sub, putc, scB, scL, oneB, conf, Ex.val.eqP, Ex.val.eqL, negV, mxV, mnV, ← wr_eq, wr_zero, wr_one, wr_m1, bst_lst, byteC, partsOK, putAll, appV, nilV, slV, sslV, optB, optNum, and_assoc, exists_and_left, exists_eq_left', digs, hz]; exact h1⟩ ?_
  rintro m V ⟨l, h0, h4, h3, hm, hd⟩
  simp [sxa, isPtrN, PV.pcs, elAt, setEl, inAt, elIn, setIn, isLst, cellsOf, Ex.ok, Ex.val, Opd.val, POp.dst, bin_int, binOK_int, bin_str, binOK_str, resOK, resV, RB.val, sub, putc, scB, scL, oneB, conf, Ex.val.eqP, Ex.val.eqL, negV, mxV, mnV, ← wr_eq, wr_zero, wr_one, wr_m1, bst_lst, byteC, partsOK, putAll, appV, nilV, slV, sslV, optB, optNum, and_assoc, exists_and_left, exists_eq_left', h0, h4]
  have hll : l.length ≤ 21 := by
    have := digits_len u 20 (by omega)
    rw [← hd] at this
    unfold digs at this
    rw [List.length_append] at this; omega
  by_cases hm0 : m = 0
  · subst hm0
    have hr : dec u = ⟨l.toArray⟩ := by rw [dec_nat, ← hd]; unfold digs; simp
    repeat' (first | intro _ | (simp [sxa, isPtrN, PV.pcs, elAt, setEl, inAt, elIn, setIn, isLst, cellsOf, Ex.ok, Ex.val, Opd.val, POp.dst, bin_int, binOK_int, bin_str, binOK_str, resOK, resV, RB.val, sub, putc, scB, scL, oneB, conf, Ex.val.eqP, Ex.val.eqL, negV, mxV, mnV, ← wr_eq, wr_zero, wr_one, wr_m1, bst_lst, byteC, partsOK, putAll, appV, nilV, slV, sslV, optB, optNum, and_assoc, exists_and_left, exists_eq_left', *]) | refine CondS_d (fun h => ?_) (fun h => ?_) | refine CondS_b (fun h => ?_) (fun h => ?_) | refine GrdS_d (fun h => ?_) (fun h => ?_) | refine GrdS_b (fun h => ?_) (fun h => ?_) | refine OkS_i (by omega) ?_ | fail)
    all_goals (exfalso; omega)
  · obtain ⟨q, hq⟩ : ∃ q, m / 10 = q := ⟨_, rfl⟩
    obtain ⟨d, hdd⟩ : ∃ d, m % 10 = d := ⟨_, rfl⟩
    have e1 : (m : Int) / 10 = q := by omega
    have e2 : (m : Int) % 10 = d := by omega
    have e3 : (m : Int).tmod 10 = d := by rw [Int.tmod_eq_emod_of_nonneg (by omega)]; exact e2
    have w1 : wr .i64 (q : Int) = q := wr_in (by omega) (by omega)
    have w2 : wr .i64 (48 + (d : Int)) = 48 + d := wr_in (by omega) (by omega)
    have w3 : wr .u8 (48 + (d : Int)) = 48 + d := wr_u8 (by omega) (by omega)
    have hneg : ¬ (d : Int) < 0 := by omega
    have hb : (48 + (d : Int)).toNat = 48 + d := by omega
    have hs := digs_step (u := m) (by omega) l
    rw [hq, hdd, hd] at hs
    repeat' (first | intro _ | (simp [sxa, isPtrN, PV.pcs, elAt, setEl, inAt, elIn, setIn, isLst, cellsOf, Ex.ok, Ex.val, Opd.val, POp.dst, bin_int, binOK_int, bin_str, binOK_str, resOK, resV, RB.val, sub, putc, scB, scL, oneB, conf, Ex.val.eqP, Ex.val.eqL, negV, mxV, mnV, ← wr_eq, wr_zero, wr_one, wr_m1, bst_lst, byteC, partsOK, putAll, appV, nilV, slV, sslV, optB, optNum, and_assoc, exists_and_left, exists_eq_left', *]) | refine CondS_d (fun h => ?_) (fun h => ?_) | refine CondS_b (fun h => ?_) (fun h => ?_) | refine GrdS_d (fun h => ?_) (fun h => ?_) | refine GrdS_b (fun h => ?_) (fun h => ?_) | refine OkS_i (by omega) ?_ | fail)
    refine OkS_i ⟨[48 + (d : Int)], rfl⟩ ?_
    have happ : (⟨#[48 + UInt8.ofNat d]⟩ : ByteArray) ++ ⟨l.toArray⟩ = ⟨((48 + UInt8.ofNat d) :: l).toArray⟩ := str_app [48 + UInt8.ofNat d] l
    have hsz : ((⟨#[48 + UInt8.ofNat d]⟩ : ByteArray).size + (⟨l.toArray⟩ : ByteArray).size < 4611686018427387904) := by
      show 1 + l.length < _; omega
    simp [sxa, isPtrN, PV.pcs, elAt, setEl, inAt, elIn, setIn, isLst, cellsOf, Ex.ok, Ex.val, Opd.val, POp.dst, bin_int, binOK_int, bin_str, binOK_str, resOK, resV, RB.val, sub, putc, scB, scL, oneB, conf, Ex.val.eqP, Ex.val.eqL, negV, mxV, mnV, ← wr_eq, wr_zero, wr_one, wr_m1, bst_lst, byteC, partsOK, putAll, appV, nilV, slV, sslV, optB, optNum, and_assoc, exists_and_left, exists_eq_left', h3, hsz, happ, e1, w1, h0, h4]
    exact ⟨q, by omega, rfl, by omega, rfl⟩
/-! BarText -/
/-! references -/
def abc : ByteArray := bs [97, 98, 99, 100, 101, 102, 103, 104, 105, 106, 107, 108, 109, 110, 111, 112, 113, 114, 115, 116, 117]
def wRef (n : Int) : ByteArray := if 0 ≤ n ∧ n ≤ 440 then bs [97 + UInt8.ofNat (n % 21).toNat] ++ dec (n / 21) else bs []
theorem abc_at : ∀ k : _root_.Fin 21, abc.extract k.val (k.val + 1) = bs [97 + UInt8.ofNat k.val] := by decide +kernel
theorem f46 (n : Int) : Fn Tryz.prog 46 false [i n] (.str (wRef n)) := by
  refine Fn.by_sx hX (by kernel_rfl) c46 (by kernel_rfl) (by rfl) ?_
  simp [i46, sxa, isPtrN, PV.pcs, elAt, setEl, inAt, elIn, setIn, isLst, cellsOf, Ex.ok, Ex.val, Opd.val, POp.dst, bin_int, binOK_int, bin_str, binOK_str, resOK, resV, RB.val, sub, putc, scB, scL, oneB, conf, Ex.val.eqP, Ex.val.eqL, negV, mxV, mnV, ← wr_eq, wr_zero, wr_one, wr_m1, bst_lst, byteC, partsOK, putAll, appV, nilV, slV, sslV, optB, optNum, and_assoc, exists_and_left, exists_eq_left']
  refine CallS_b (f71 _ _ _) (fun h => ?_) (fun h => ?_)
  · have hr : 0 ≤ n ∧ n ≤ 440 := by simpa [inR] using h
    obtain ⟨u, rfl⟩ : ∃ u : Nat, n = u := ⟨n.toNat, by omega⟩
    obtain ⟨d, hd⟩ : ∃ d, u % 21 = d := ⟨_, rfl⟩
    obtain ⟨q, hq⟩ : ∃ q, u / 21 = q := ⟨_, rfl⟩
    have e1 : (u : Int).tmod 21 = d := by rw [Int.tmod_eq_emod_of_nonneg (by omega)]; omega
    have e2 : (u : Int) % 21 = d := by omega
    have e3 : (u : Int).tdiv 21 = q := by rw [Int.tdiv_eq_ediv_of_nonneg (by omega)]; omega
    have e4 : (u : Int) / 21 = q := by omega
    have w1 : wr .i64 ((d : Int) + 1) = d + 1 := wr_in (by omega) (by omega)
    have w2 : wr .i64 (q : Int) = q := wr_in (by omega) (by omega)
    have ha := abc_at ⟨d, by omega⟩
    have hwr : wRef u = bs [97 + UInt8.ofNat d] ++ dec q := by
      unfold wRef; rw [if_pos hr, e2, e4]; simp
    have hsz : (bs [97 + UInt8.ofNat d]).size + (dec q).size < 4611686018427387904 := by
      have := dec_size (n := q) (by omega) (by omega)
      show 1 + _ < _; omega
    have hab : abc.size = 21 := by decide +kernel
    unfold abc at ha hab
    simp only at ha
    repeat' (first | intro _ | (simp [sxa, isPtrN, PV.pcs, elAt, setEl, inAt, elIn, setIn, isLst, cellsOf, Ex.ok, Ex.val, Opd.val, POp.dst, bin_int, binOK_int, bin_str, binOK_str, resOK, resV, RB.val, sub, putc, scB, scL, oneB, conf, Ex.val.eqP, Ex.val.eqL, negV, mxV, mnV, ← wr_eq, wr_zero, wr_one, wr_m1, bst_lst, byteC, partsOK, putAll, appV, nilV, slV, sslV, optB, optNum, and_assoc, exists_and_left, exists_eq_left', *]) | refine CallS_i (f72 q (by omega)) ?_ | refine CondS_d (fun h => ?_) (fun h => ?_) | refine CondS_b (fun h => ?_) (fun h => ?_) | refine GrdS_d (fun h => ?_) (fun h => ?_) | refine GrdS_b (fun h => ?_) (fun h => ?_) | refine OkS_i (by omega) ?_ | fail)
  · have hr : wRef n = bs [] := by unfold wRef; rw [if_neg (by simpa [inR] using h)]
    repeat' (first | intro _ | (simp [sxa, isPtrN, PV.pcs, elAt, setEl, inAt, elIn, setIn, isLst, cellsOf, Ex.ok, Ex.val, Opd.val, POp.dst, bin_int, binOK_int, bin_str, binOK_str, resOK, resV, RB.val, sub, putc, scB, scL, oneB, conf, Ex.val.eqP, Ex.val.eqL, negV, mxV, mnV, ← wr_eq, wr_zero, wr_one, wr_m1, bst_lst, byteC, partsOK, putAll, appV, nilV, slV, sslV, optB, optNum, and_assoc, exists_and_left, exists_eq_left', *]) | refine CondS_d (fun h => ?_) (fun h => ?_) | refine CondS_b (fun h => ?_) (fun h => ?_) | refine GrdS_d (fun h => ?_) (fun h => ?_) | refine GrdS_b (fun h => ?_) (fun h => ?_) | refine OkS_i (by omega) ?_ | fail)
def cap2 (x : Int) : Int := if (200 : Int) < x then 200 else x
def tbox (n : Int) : List PV := if 0 ≤ n ∧ n ≤ 440 then [i (n % 21 * 10), i (n / 21 * 10), i (cap2 (n % 21 * 10 + 10)), i (cap2 (n / 21 * 10 + 10))] else [i 0, i 0, i 0, i 0]
theorem f56 (n : Int) : Fn Tryz.prog 56 false [i n] (.tup [.agg (tbox n), .bool (inR n 0 440)]) := by
  refine Fn.by_sx hX (by kernel_rfl) c56 (by kernel_rfl) (by rfl) ?_
  simp [i56, sxa, isPtrN, PV.pcs, elAt, setEl, inAt, elIn, setIn, isLst, cellsOf, Ex.ok, Ex.val, Opd.val, POp.dst, bin_int, binOK_int, bin_str, binOK_str, resOK, resV, RB.val, sub, putc, scB, scL, oneB, conf, Ex.val.eqP, Ex.val.eqL, negV, mxV, mnV, ← wr_eq, wr_zero, wr_one, wr_m1, bst_lst, byteC, partsOK, putAll, appV, nilV, slV, sslV, optB, optNum, and_assoc, exists_and_left, exists_eq_left']
  by_cases hr : 0 ≤ n ∧ n ≤ 440
  · have h : inR n 0 440 = true := by simpa [inR] using hr
    have hc := f74 n 0 440
    rw [h] at hc
    have e1 : n.tmod 21 = n % 21 := Int.tmod_eq_emod_of_nonneg (by omega)
    have e3 : n.tdiv 21 = n / 21 := Int.tdiv_eq_ediv_of_nonneg (by omega)
    obtain ⟨d, hd, hd2⟩ : ∃ d, n % 21 = d ∧ 0 ≤ d ∧ d ≤ 20 := ⟨_, rfl, by omega⟩
    obtain ⟨q, hq, hq2⟩ : ∃ q, n / 21 = q ∧ 0 ≤ q ∧ q ≤ 20 := ⟨_, rfl, by omega⟩
    have ht : tbox n = [i (d * 10), i (q * 10), i (cap2 (d * 10 + 10)), i (cap2 (q * 10 + 10))] := by unfold tbox; rw [if_pos hr, hd, hq]
    rw [hd] at e1
    rw [hq] at e3
    have w0 : wr .i64 q = q := wr_in (by omega) (by omega)
    have w1 : wr .i64 (d * 10) = d * 10 := wr_in (by omega) (by omega)
    have w2 : wr .i64 (q * 10) = q * 10 := wr_in (by omega) (by omega)
    have w3 : wr .i64 (d * 10 + 10) = d * 10 + 10 := wr_in (by omega) (by omega)
    have w4 : wr .i64 (q * 10 + 10) = q * 10 + 10 := wr_in (by omega) (by omega)
    rw [h]
    repeat' (first | intro _ | (simp [sxa, isPtrN, PV.pcs, elAt, setEl, inAt, elIn, setIn, isLst, cellsOf, Ex.ok, Ex.val, Opd.val, POp.dst, bin_int, binOK_int, bin_str, binOK_str, resOK, resV, RB.val, sub, putc, scB, scL, oneB, conf, Ex.val.eqP, Ex.val.eqL, negV, mxV, mnV, ← wr_eq, wr_zero, wr_one, wr_m1, bst_lst, byteC, partsOK, putAll, appV, nilV, slV, sslV, optB, optNum, and_assoc, exists_and_left, exists_eq_left', cap2, *]) | refine CallS_i (hc) ?_ | refine CondS_d (fun h => ?_) (fun h => ?_) | refine CondS_b (fun h => ?_) (fun h => ?_) | refine GrdS_d (fun h => ?_) (fun h => ?_) | refine GrdS_b (fun h => ?_) (fun h => ?_) | refine OkS_i (by omega) ?_ | fail)
  · have h : inR n 0 440 = false := by simpa [inR] using fun h => by omega
    have hc := f74 n 0 440
    rw [h] at hc
    have ht : tbox n = [i 0, i 0, i 0, i 0] := by unfold tbox; rw [if_neg hr]
    rw [h]
    repeat' (first | intro _ | (simp [sxa, isPtrN, PV.pcs, elAt, setEl, inAt, elIn, setIn, isLst, cellsOf, Ex.ok, Ex.val, Opd.val, POp.dst, bin_int, binOK_int, bin_str, binOK_str, resOK, resV, RB.val, sub, putc, scB, scL, oneB, conf, Ex.val.eqP, Ex.val.eqL, negV, mxV, mnV, ← wr_eq, wr_zero, wr_one, wr_m1, bst_lst, byteC, partsOK, putAll, appV, nilV, slV, sslV, optB, optNum, and_assoc, exists_and_left, exists_eq_left', *]) | refine CallS_i (hc) ?_ | refine CondS_d (fun h => ?_) (fun h => ?_) | refine CondS_b (fun h => ?_) (fun h => ?_) | refine GrdS_d (fun h => ?_) (fun h => ?_) | refine GrdS_b (fun h => ?_) (fun h => ?_) | refine OkS_i (by omega) ?_ | fail)
theorem tbox_4 (n : Int) : ∃ a b c d : Int, tbox n = [i a, i b, i c, i d] := by
  unfold tbox; split <;> exact ⟨_, _, _, _, rfl⟩
theorem f38 (n : Int) : Fn Tryz.prog 38 false [i n] (.str (wRef n)) := by
  have hc := f56 n
  obtain ⟨b0, b1, b2, b3, hb⟩ := tbox_4 n
  rw [hb] at hc
  refine Fn.by_sx hX (by kernel_rfl) c38 (by kernel_rfl) (by rfl) ?_
  simp [i38, sxa, isPtrN, PV.pcs, elAt, setEl, inAt, elIn, setIn, isLst, cellsOf, Ex.ok, Ex.val, Opd.val, POp.dst, bin_int, binOK_int, bin_str, binOK_str, resOK, resV, RB.val, sub, putc, scB, scL, oneB, conf, Ex.val.eqP, Ex.val.eqL, negV, mxV, mnV, ← wr_eq, wr_zero, wr_one, wr_m1, bst_lst, byteC, partsOK, putAll, appV, nilV, slV, sslV, optB, optNum, and_assoc, exists_and_left, exists_eq_left']
  by_cases hr : 0 ≤ n ∧ n ≤ 440
  · have h : inR n 0 440 = true := by simpa [inR] using hr
    rw [h] at hc
    obtain ⟨u, rfl⟩ : ∃ u : Nat, n = u := ⟨n.toNat, by omega⟩
    obtain ⟨d, hd⟩ : ∃ d, u % 21 = d := ⟨_, rfl⟩
    obtain ⟨q, hq⟩ : ∃ q, u / 21 = q := ⟨_, rfl⟩
    have e1 : (u : Int).tmod 21 = d := by rw [Int.tmod_eq_emod_of_nonneg (by omega)]; omega
    have e2 : (u : Int) % 21 = d := by omega
    have e3 : (u : Int).tdiv 21 = q := by rw [Int.tdiv_eq_ediv_of_nonneg (by omega)]; omega
    have e4 : (u : Int) / 21 = q := by omega
    have w1 : wr .i64 (97 + (d : Int)) = 97 + d := wr_in (by omega) (by omega)
    have w3 : wr .u8 (97 + (d : Int)) = 97 + d := wr_u8 (by omega) (by omega)
    have w2 : wr .i64 (q : Int) = q := wr_in (by omega) (by omega)
    have hwr : wRef u = bs [97 + UInt8.ofNat d] ++ dec q := by
      unfold wRef; rw [if_pos hr, e2, e4]; simp
    have hbb : (97 + (d : Int)).toNat = 97 + d := by omega
    have hsz : (bs [97 + UInt8.ofNat d]).size + (dec q).size < 4611686018427387904 := by
      have := dec_size (n := q) (by omega) (by omega)
      show 1 + _ < _; omega
    repeat' (first | intro _ | (simp [sxa, isPtrN, PV.pcs, elAt, setEl, inAt, elIn, setIn, isLst, cellsOf, Ex.ok, Ex.val, Opd.val, POp.dst, bin_int, binOK_int, bin_str, binOK_str, resOK, resV, RB.val, sub, putc, scB, scL, oneB, conf, Ex.val.eqP, Ex.val.eqL, negV, mxV, mnV, ← wr_eq, wr_zero, wr_one, wr_m1, bst_lst, byteC, partsOK, putAll, appV, nilV, slV, sslV, optB, optNum, and_assoc, exists_and_left, exists_eq_left', *]) | refine CallS_i (hc) ?_ | refine CallS_i (f57 q (by omega) (by omega)) ?_ | refine CondS_d (fun h => ?_) (fun h => ?_) | refine CondS_b (fun h => ?_) (fun h => ?_) | refine GrdS_d (fun h => ?_) (fun h => ?_) | refine GrdS_b (fun h => ?_) (fun h => ?_) | refine OkS_i (by omega) ?_ | fail)
    refine OkS_i ⟨[97 + (d : Int)], rfl⟩ ?_
    repeat' (first | intro _ | (simp [sxa, isPtrN, PV.pcs, elAt, setEl, inAt, elIn, setIn, isLst, cellsOf, Ex.ok, Ex.val, Opd.val, POp.dst, bin_int, binOK_int, bin_str, binOK_str, resOK, resV, RB.val, sub, putc, scB, scL, oneB, conf, Ex.val.eqP, Ex.val.eqL, negV, mxV, mnV, ← wr_eq, wr_zero, wr_one, wr_m1, bst_lst, byteC, partsOK, putAll, appV, nilV, slV, sslV, optB, optNum, and_assoc, exists_and_left, exists_eq_left', *]) | refine CallS_i (hc) ?_ | refine CallS_i (f57 q (by omega) (by omega)) ?_ | refine CondS_d (fun h => ?_) (fun h => ?_) | refine CondS_b (fun h => ?_) (fun h => ?_) | refine GrdS_d (fun h => ?_) (fun h => ?_) | refine GrdS_b (fun h => ?_) (fun h => ?_) | refine OkS_i (by omega) ?_ | fail)
  · have h : inR n 0 440 = false := by simpa [inR] using fun h => by omega
    rw [h] at hc
    have hwr : wRef n = bs [] := by unfold wRef; rw [if_neg hr]
    repeat' (first | intro _ | (simp [sxa, isPtrN, PV.pcs, elAt, setEl, inAt, elIn, setIn, isLst, cellsOf, Ex.ok, Ex.val, Opd.val, POp.dst, bin_int, binOK_int, bin_str, binOK_str, resOK, resV, RB.val, sub, putc, scB, scL, oneB, conf, Ex.val.eqP, Ex.val.eqL, negV, mxV, mnV, ← wr_eq, wr_zero, wr_one, wr_m1, bst_lst, byteC, partsOK, putAll, appV, nilV, slV, sslV, optB, optNum, and_assoc, exists_and_left, exists_eq_left', *]) | refine CallS_i (hc) ?_ | refine CondS_d (fun h => ?_) (fun h => ?_) | refine CondS_b (fun h => ?_) (fun h => ?_) | refine GrdS_d (fun h => ?_) (fun h => ?_) | refine GrdS_b (fun h => ?_) (fun h => ?_) | refine OkS_i (by omega) ?_ | fail)
def isP (x y : Int) : Bool := inR x 0 200 && inR y 0 200
theorem isP_eq (x y : Int) : M_IsPoint x y = isP x y := by
  simp [M_IsPoint, isP, inR]
  all_goals omega
def wTile (x y : Int) : Int := if isP x y = true then y / 10 * 21 + x / 10 else -1
theorem f47 (x y : Int) : Fn Tryz.prog 47 false [.agg [i x, i y]] (i (wTile x y)) := by
  refine Fn.by_sx hX (by kernel_rfl) c47 (by kernel_rfl) (by rfl) ?_
  simp [i47, sxa, isPtrN, PV.pcs, elAt, setEl, inAt, elIn, setIn, isLst, cellsOf, Ex.ok, Ex.val, Opd.val, POp.dst, bin_int, binOK_int, bin_str, binOK_str, resOK, resV, RB.val, sub, putc, scB, scL, oneB, conf, Ex.val.eqP, Ex.val.eqL, negV, mxV, mnV, ← wr_eq, wr_zero, wr_one, wr_m1, bst_lst, byteC, partsOK, putAll, appV, nilV, slV, sslV, optB, optNum, and_assoc, exists_and_left, exists_eq_left']
  by_cases h : isP x y = true
  · have hr : (0 ≤ x ∧ x ≤ 200) ∧ (0 ≤ y ∧ y ≤ 200) := by simpa [isP, inR] using h
    have ht : wTile x y = y / 10 * 21 + x / 10 := by unfold wTile; rw [if_pos h]
    have e1 : y.tdiv 10 = y / 10 := Int.tdiv_eq_ediv_of_nonneg (by omega)
    have e2 : x.tdiv 10 = x / 10 := Int.tdiv_eq_ediv_of_nonneg (by omega)
    obtain ⟨p, hp⟩ : ∃ p, y / 10 = p := ⟨_, rfl⟩
    obtain ⟨q, hq⟩ : ∃ q, x / 10 = q := ⟨_, rfl⟩
    rw [hp] at e1
    rw [hq] at e2
    have w0 : wr .i64 p = p := wr_in (by omega) (by omega)
    have w1 : wr .i64 q = q := wr_in (by omega) (by omega)
    have w2 : wr .i64 (p * 21) = p * 21 := wr_in (by omega) (by omega)
    have w3 : wr .i64 (p * 21 + q) = p * 21 + q := wr_in (by omega) (by omega)
    have hc := f73 x y
    rw [isP_eq] at hc
    rw [h] at hc
    repeat' (first | intro _ | (simp [sxa, isPtrN, PV.pcs, elAt, setEl, inAt, elIn, setIn, isLst, cellsOf, Ex.ok, Ex.val, Opd.val, POp.dst, bin_int, binOK_int, bin_str, binOK_str, resOK, resV, RB.val, sub, putc, scB, scL, oneB, conf, Ex.val.eqP, Ex.val.eqL, negV, mxV, mnV, ← wr_eq, wr_zero, wr_one, wr_m1, bst_lst, byteC, partsOK, putAll, appV, nilV, slV, sslV, optB, optNum, and_assoc, exists_and_left, exists_eq_left', *]) | refine CallS_i (hc) ?_ | refine CondS_d (fun h => ?_) (fun h => ?_) | refine CondS_b (fun h => ?_) (fun h => ?_) | refine GrdS_d (fun h => ?_) (fun h => ?_) | refine GrdS_b (fun h => ?_) (fun h => ?_) | refine OkS_i (by omega) ?_ | fail)
  · have ht : wTile x y = -1 := by unfold wTile; rw [if_neg h]
    have hc := f73 x y
    rw [isP_eq] at hc
    rw [show isP x y = false by simpa using h] at hc
    repeat' (first | intro _ | (simp [sxa, isPtrN, PV.pcs, elAt, setEl, inAt, elIn, setIn, isLst, cellsOf, Ex.ok, Ex.val, Opd.val, POp.dst, bin_int, binOK_int, bin_str, binOK_str, resOK, resV, RB.val, sub, putc, scB, scL, oneB, conf, Ex.val.eqP, Ex.val.eqL, negV, mxV, mnV, ← wr_eq, wr_zero, wr_one, wr_m1, bst_lst, byteC, partsOK, putAll, appV, nilV, slV, sslV, optB, optNum, and_assoc, exists_and_left, exists_eq_left', *]) | refine CallS_i (hc) ?_ | refine CondS_d (fun h => ?_) (fun h => ?_) | refine CondS_b (fun h => ?_) (fun h => ?_) | refine GrdS_d (fun h => ?_) (fun h => ?_) | refine GrdS_b (fun h => ?_) (fun h => ?_) | refine OkS_i (by omega) ?_ | fail)

theorem f39 (x y : Int) : Fn Tryz.prog 39 false [.agg [i x, i y]] (i (wTile x y)) := by
  refine Fn.by_sx hX (by kernel_rfl) c39 (by kernel_rfl) (by rfl) ?_
  simp [i39, sxa, isPtrN, PV.pcs, elAt, setEl, inAt, elIn, setIn, isLst, cellsOf, Ex.ok, Ex.val, Opd.val, POp.dst, bin_int, binOK_int, bin_str, binOK_str, resOK, resV, RB.val, sub, putc, scB, scL, oneB, conf, Ex.val.eqP, Ex.val.eqL, negV, mxV, mnV, ← wr_eq, wr_zero, wr_one, wr_m1, bst_lst, byteC, partsOK, putAll, appV, nilV, slV, sslV, optB, optNum, and_assoc, exists_and_left, exists_eq_left']
  by_cases h : isP x y = true
  · have hr : (0 ≤ x ∧ x ≤ 200) ∧ (0 ≤ y ∧ y ≤ 200) := by simpa [isP, inR] using h
    have ht : wTile x y = y / 10 * 21 + x / 10 := by unfold wTile; rw [if_pos h]
    have e1 : y.tdiv 10 = y / 10 := Int.tdiv_eq_ediv_of_nonneg (by omega)
    have e2 : x.tdiv 10 = x / 10 := Int.tdiv_eq_ediv_of_nonneg (by omega)
    obtain ⟨p, hp⟩ : ∃ p, y / 10 = p := ⟨_, rfl⟩
    obtain ⟨q, hq⟩ : ∃ q, x / 10 = q := ⟨_, rfl⟩
    rw [hp] at e1
    rw [hq] at e2
    have w0 : wr .i64 p = p := wr_in (by omega) (by omega)
    have w1 : wr .i64 q = q := wr_in (by omega) (by omega)
    have w2 : wr .i64 (p * 21) = p * 21 := wr_in (by omega) (by omega)
    have w3 : wr .i64 (p * 21 + q) = p * 21 + q := wr_in (by omega) (by omega)
    have hc := f58 x y
    rw [isP_eq] at hc
    rw [h] at hc
    repeat' (first | intro _ | (simp [sxa, isPtrN, PV.pcs, elAt, setEl, inAt, elIn, setIn, isLst, cellsOf, Ex.ok, Ex.val, Opd.val, POp.dst, bin_int, binOK_int, bin_str, binOK_str, resOK, resV, RB.val, sub, putc, scB, scL, oneB, conf, Ex.val.eqP, Ex.val.eqL, negV, mxV, mnV, ← wr_eq, wr_zero, wr_one, wr_m1, bst_lst, byteC, partsOK, putAll, appV, nilV, slV, sslV, optB, optNum, and_assoc, exists_and_left, exists_eq_left', *]) | refine CallS_i (hc) ?_ | refine CondS_d (fun h => ?_) (fun h => ?_) | refine CondS_b (fun h => ?_) (fun h => ?_) | refine GrdS_d (fun h => ?_) (fun h => ?_) | refine GrdS_b (fun h => ?_) (fun h => ?_) | refine OkS_i (by omega) ?_ | fail)
  · have ht : wTile x y = -1 := by unfold wTile; rw [if_neg h]
    have hc := f58 x y
    rw [isP_eq] at hc
    rw [show isP x y = false by simpa using h] at hc
    repeat' (first | intro _ | (simp [sxa, isPtrN, PV.pcs, elAt, setEl, inAt, elIn, setIn, isLst, cellsOf, Ex.ok, Ex.val, Opd.val, POp.dst, bin_int, binOK_int, bin_str, binOK_str, resOK, resV, RB.val, sub, putc, scB, scL, oneB, conf, Ex.val.eqP, Ex.val.eqL, negV, mxV, mnV, ← wr_eq, wr_zero, wr_one, wr_m1, bst_lst, byteC, partsOK, putAll, appV, nilV, slV, sslV, optB, optNum, and_assoc, exists_and_left, exists_eq_left', *]) | refine CallS_i (hc) ?_ | refine CondS_d (fun h => ?_) (fun h => ?_) | refine CondS_b (fun h => ?_) (fun h => ?_) | refine GrdS_d (fun h => ?_) (fun h => ?_) | refine GrdS_b (fun h => ?_) (fun h => ?_) | refine OkS_i (by omega) ?_ | fail)
theorem f26 (x y : Int) : Fn Tryz.prog 26 false [.agg [i x, i y]] (.str (wRef (wTile x y))) := by
  refine Fn.by_sx hX (by kernel_rfl) c26 (by kernel_rfl) (by rfl) ?_
  simp [i26, sxa, isPtrN, PV.pcs, elAt, setEl, inAt, elIn, setIn, isLst, cellsOf, Ex.ok, Ex.val, Opd.val, POp.dst, bin_int, binOK_int, bin_str, binOK_str, resOK, resV, RB.val, sub, putc, scB, scL, oneB, conf, Ex.val.eqP, Ex.val.eqL, negV, mxV, mnV, ← wr_eq, wr_zero, wr_one, wr_m1, bst_lst, byteC, partsOK, putAll, appV, nilV, slV, sslV, optB, optNum, and_assoc, exists_and_left, exists_eq_left']
  repeat' (first | intro _ | (simp [sxa, isPtrN, PV.pcs, elAt, setEl, inAt, elIn, setIn, isLst, cellsOf, Ex.ok, Ex.val, Opd.val, POp.dst, bin_int, binOK_int, bin_str, binOK_str, resOK, resV, RB.val, sub, putc, scB, scL, oneB, conf, Ex.val.eqP, Ex.val.eqL, negV, mxV, mnV, ← wr_eq, wr_zero, wr_one, wr_m1, bst_lst, byteC, partsOK, putAll, appV, nilV, slV, sslV, optB, optNum, and_assoc, exists_and_left, exists_eq_left', *]) | refine CallS_i (f47 _ _) ?_ | refine CallS_i (f46 _) ?_ | refine CondS_d (fun h => ?_) (fun h => ?_) | refine CondS_b (fun h => ?_) (fun h => ?_) | refine GrdS_d (fun h => ?_) (fun h => ?_) | refine GrdS_b (fun h => ?_) (fun h => ?_) | refine OkS_i (by omega) ?_ | fail)

theorem f18 (x y : Int) : Fn Tryz.prog 18 false [.agg [i x, i y]] (.str (wRef (wTile x y))) := by
  refine Fn.by_sx hX (by kernel_rfl) c18 (by kernel_rfl) (by rfl) ?_
  simp [i18, sxa, isPtrN, PV.pcs, elAt, setEl, inAt, elIn, setIn, isLst, cellsOf, Ex.ok, Ex.val, Opd.val, POp.dst, bin_int, binOK_int, bin_str, binOK_str, resOK, resV, RB.val, sub, putc, scB, scL, oneB, conf, Ex.val.eqP, Ex.val.eqL, negV, mxV, mnV, ← wr_eq, wr_zero, wr_one, wr_m1, bst_lst, byteC, partsOK, putAll, appV, nilV, slV, sslV, optB, optNum, and_assoc, exists_and_left, exists_eq_left']
  repeat' (first | intro _ | (simp [sxa, isPtrN, PV.pcs, elAt, setEl, inAt, elIn, setIn, isLst, cellsOf, Ex.ok, Ex.val, Opd.val, POp.dst, bin_int, binOK_int, bin_str, binOK_str, resOK, resV, RB.val, sub, putc, scB, scL, oneB, conf, Ex.val.eqP, Ex.val.eqL, negV, mxV, mnV, ← wr_eq, wr_zero, wr_one, wr_m1, bst_lst, byteC, partsOK, putAll, appV, nilV, slV, sslV, optB, optNum, and_assoc, exists_and_left, exists_eq_left', *]) | refine CallS_i (f39 _ _) ?_ | refine CallS_i (f38 _) ?_ | refine CondS_d (fun h => ?_) (fun h => ?_) | refine CondS_b (fun h => ?_) (fun h => ?_) | refine GrdS_d (fun h => ?_) (fun h => ?_) | refine GrdS_b (fun h => ?_) (fun h => ?_) | refine OkS_i (by omega) ?_ | fail)
end Go.Eng
namespace Go.Eng
open Go Go.Proofs Geo
set_option linter.unusedSimpArgs false
set_option linter.unusedVariables false
set_option maxRecDepth 20000
set_option maxHeartbeats 1000000

/-! middles of rings; anchors -/
def sXT (g : Pt → Int) (l : List Pt) : Nat → Int
  | 0 => 0
  | n + 1 => wr .i64 (sXT g l n + g (l.getD n ⟨0, 0⟩))
def rMid (l : List Pt) : Pt := if wRing l = true then ⟨wr .i64 ((sXT (fun p => p.f0) l l.length).tdiv l.length), wr .i64 ((sXT (fun p => p.f1) l l.length).tdiv l.length)⟩ else ⟨0, 0⟩
theorem wRing_len {l : List Pt} (h : wRing l = true) : 3 ≤ l.length := by
  unfold wRing at h
  simp [inR] at h
  omega
theorem f45 (l : List Pt) (nl : Bool) (hl : l.length ≤ 1000000000000) : Fn Tryz.prog 45 false [.lst 2 nl (l.map cp)] (.tup [.agg [i (rMid l).f0, i (rMid l).f1], .bool (wRing l)]) := by
  have hc := f70 l nl hl
  refine Fn.by_sx hX (by kernel_rfl) c45 (by kernel_rfl) (by rfl) ?_
  simp [i45, sxa, isPtrN, PV.pcs, elAt, setEl, inAt, elIn, setIn, isLst, cellsOf, Ex.ok, Ex.val, Opd.val, POp.dst, bin_int, binOK_int, bin_str, binOK_str, resOK, resV, RB.val, sub, putc, scB, scL, oneB, conf, Ex.val.eqP, Ex.val.eqL, negV, mxV, mnV, ← wr_eq, wr_zero, wr_one, wr_m1, bst_lst, byteC, partsOK, putAll, appV, nilV, slV, sslV, optB, optNum, and_assoc, exists_and_left, exists_eq_left']
  by_cases hr : wRing l = true
  case neg =>
    have hm : rMid l = ⟨0, 0⟩ := if_neg hr
    rw [show wRing l = false by simpa using hr] at hc ⊢
    rw [hm]
    repeat' (first | intro _ | (simp [sxa, isPtrN, PV.pcs, elAt, setEl, inAt, elIn, setIn, isLst, cellsOf, Ex.ok, Ex.val, Opd.val, POp.dst, bin_int, binOK_int, bin_str, binOK_str, resOK, resV, RB.val, sub, putc, scB, scL, oneB, conf, Ex.val.eqP, Ex.val.eqL, negV, mxV, mnV, ← wr_eq, wr_zero, wr_one, wr_m1, bst_lst, byteC, partsOK, putAll, appV, nilV, slV, sslV, optB, optNum, and_assoc, exists_and_left, exists_eq_left', *]) | refine CallS_i (hc) ?_ | refine CondS_d (fun h => ?_) (fun h => ?_) | refine CondS_b (fun h => ?_) (fun h => ?_) | refine GrdS_d (fun h => ?_) (fun h => ?_) | refine GrdS_b (fun h => ?_) (fun h => ?_) | refine OkS_i (by omega) ?_ | fail)
  have hm : rMid l = ⟨wr .i64 ((sXT (fun p => p.f0) l l.length).tdiv l.length), wr .i64 ((sXT (fun p => p.f1) l l.length).tdiv l.length)⟩ := if_pos hr
  have h3 := wRing_len hr
  rw [hr] at hc ⊢
  rw [hm]
  repeat' (first | intro _ | (simp [sxa, isPtrN, PV.pcs, elAt, setEl, inAt, elIn, setIn, isLst, cellsOf, Ex.ok, Ex.val, Opd.val, POp.dst, bin_int, binOK_int, bin_str, binOK_str, resOK, resV, RB.val, sub, putc, scB, scL, oneB, conf, Ex.val.eqP, Ex.val.eqL, negV, mxV, mnV, ← wr_eq, wr_zero, wr_one, wr_m1, bst_lst, byteC, partsOK, putAll, appV, nilV, slV, sslV, optB, optNum, and_assoc, exists_and_left, exists_eq_left', *]) | refine CallS_i (hc) ?_ | refine CondS_d (fun h => ?_) (fun h => ?_) | refine CondS_b (fun h => ?_) (fun h => ?_) | refine GrdS_d (fun h => ?_) (fun h => ?_) | refine GrdS_b (fun h => ?_) (fun h => ?_) | refine OkS_i (by omega) ?_ | fail)
  refine sx_count l.length (fun n V => V 0 = .lst 2 nl (l.map cp) ∧ V 5 = i n ∧ V 4 = .ptr [i (sXT (fun p => p.f0) l n), i (sXT (fun p => p.f1) l n)] ∧ V 2 = .ptr [i 0, i 0]) 0 (by omega) (by simp [sxa, isPtrN, PV.pcs, elAt, setEl, inAt, elIn, setIn, isLst, cellsOf, Ex.ok, Ex.val, Opd.val, POp.dst, bin_int, binOK_int, bin_str, binOK_str, resOK, resV, RB.val, sub, putc, scB, scL, oneB, conf, Ex.val.eqP, Ex.val.eqL, negV, mxV, mnV, ← wr_eq, wr_zero, wr_one, wr_m1, bst_lst, byteC, partsOK, putAll, appV, nilV, slV, sslV, optB, optNum, and_assoc, exists_and_left, exists_eq_left', sXT]) ?_
  rintro n V hn ⟨g0, g5, g4, g2⟩
  simp [sxa, isPtrN, PV.pcs, elAt, setEl, inAt, elIn, setIn, isLst, cellsOf, Ex.ok, Ex.val, Opd.val, POp.dst, bin_int, binOK_int, bin_str, binOK_str, resOK, resV, RB.val, sub, putc, scB, scL, oneB, conf, Ex.val.eqP, Ex.val.eqL, negV, mxV, mnV, ← wr_eq, wr_zero, wr_one, wr_m1, bst_lst, byteC, partsOK, putAll, appV, nilV, slV, sslV, optB, optNum, and_assoc, exists_and_left, exists_eq_left', g0, g5]
  refine CondS_d (fun hlt => ?_) (fun hge => ?_)
  · have hlt' : n < l.length := by omega
    have hw : wr .i64 ((n : Int) + 1) = n + 1 := wr_in (by omega) (by omega)
    have s1 : sXT (fun p => p.f0) l (n + 1) = wr .i64 (sXT (fun p => p.f0) l n + l[n].f0) := by simp [sXT, hlt']
    have s2 : sXT (fun p => p.f1) l (n + 1) = wr .i64 (sXT (fun p => p.f1) l n + l[n].f1) := by simp [sXT, hlt']
    repeat' (first | intro _ | (simp [sxa, isPtrN, PV.pcs, elAt, setEl, inAt, elIn, setIn, isLst, cellsOf, Ex.ok, Ex.val, Opd.val, POp.dst, bin_int, binOK_int, bin_str, binOK_str, resOK, resV, RB.val, sub, putc, scB, scL, oneB, conf, Ex.val.eqP, Ex.val.eqL, negV, mxV, mnV, ← wr_eq, wr_zero, wr_one, wr_m1, bst_lst, byteC, partsOK, putAll, appV, nilV, slV, sslV, optB, optNum, and_assoc, exists_and_left, exists_eq_left', cp, *]) | refine CondS_d (fun h => ?_) (fun h => ?_) | refine CondS_b (fun h => ?_) (fun h => ?_) | refine GrdS_d (fun h => ?_) (fun h => ?_) | refine GrdS_b (fun h => ?_) (fun h => ?_) | refine OkS_i (by omega) ?_ | fail)
  · have : n = l.length := by omega
    subst this
    have hz : ¬ l.length = 0 := by omega
    have hz2 : ¬ l = [] := fun h => hz (by rw [h]; rfl)
    repeat' (first | intro _ | (simp [sxa, isPtrN, PV.pcs, elAt, setEl, inAt, elIn, setIn, isLst, cellsOf, Ex.ok, Ex.val, Opd.val, POp.dst, bin_int, binOK_int, bin_str, binOK_str, resOK, resV, RB.val, sub, putc, scB, scL, oneB, conf, Ex.val.eqP, Ex.val.eqL, negV, mxV, mnV, ← wr_eq, wr_zero, wr_one, wr_m1, bst_lst, byteC, partsOK, putAll, appV, nilV, slV, sslV, optB, optNum, and_assoc, exists_and_left, exists_eq_left', *]) | refine CondS_d (fun h => ?_) (fun h => ?_) | refine CondS_b (fun h => ?_) (fun h => ?_) | refine GrdS_d (fun h => ?_) (fun h => ?_) | refine GrdS_b (fun h => ?_) (fun h => ?_) | refine OkS_i (by omega) ?_ | fail)
theorem f28 (l : List Pt) (nl : Bool) (hl : l.length ≤ 1000000000000) : Fn Tryz.prog 28 false [.lst 2 nl (l.map cp)] (.tup [.agg [i (rMid l).f0, i (rMid l).f1], .bool (wRing l)]) := by
  have hc := f49 l nl hl
  refine Fn.by_sx hX (by kernel_rfl) c28 (by kernel_rfl) (by rfl) ?_
  simp [i28, sxa, isPtrN, PV.pcs, elAt, setEl, inAt, elIn, setIn, isLst, cellsOf, Ex.ok, Ex.val, Opd.val, POp.dst, bin_int, binOK_int, bin_str, binOK_str, resOK, resV, RB.val, sub, putc, scB, scL, oneB, conf, Ex.val.eqP, Ex.val.eqL, negV, mxV, mnV, ← wr_eq, wr_zero, wr_one, wr_m1, bst_lst, byteC, partsOK, putAll, appV, nilV, slV, sslV, optB, optNum, and_assoc, exists_and_left, exists_eq_left']
  by_cases hr : wRing l = true
  case neg =>
    have hm : rMid l = ⟨0, 0⟩ := if_neg hr
    rw [show wRing l = false by simpa using hr] at hc ⊢
    rw [hm]
    repeat' (first | intro _ | (simp [sxa, isPtrN, PV.pcs, elAt, setEl, inAt, elIn, setIn, isLst, cellsOf, Ex.ok, Ex.val, Opd.val, POp.dst, bin_int, binOK_int, bin_str, binOK_str, resOK, resV, RB.val, sub, putc, scB, scL, oneB, conf, Ex.val.eqP, Ex.val.eqL, negV, mxV, mnV, ← wr_eq, wr_zero, wr_one, wr_m1, bst_lst, byteC, partsOK, putAll, appV, nilV, slV, sslV, optB, optNum, and_assoc, exists_and_left, exists_eq_left', *]) | refine CallS_i (hc) ?_ | refine CondS_d (fun h => ?_) (fun h => ?_) | refine CondS_b (fun h => ?_) (fun h => ?_) | refine GrdS_d (fun h => ?_) (fun h => ?_) | refine GrdS_b (fun h => ?_) (fun h => ?_) | refine OkS_i (by omega) ?_ | fail)
  have hm : rMid l = ⟨wr .i64 ((sXT (fun p => p.f0) l l.length).tdiv l.length), wr .i64 ((sXT (fun p => p.f1) l l.length).tdiv l.length)⟩ := if_pos hr
  have h3 := wRing_len hr
  rw [hr] at hc ⊢
  rw [hm]
  repeat' (first | intro _ | (simp [sxa, isPtrN, PV.pcs, elAt, setEl, inAt, elIn, setIn, isLst, cellsOf, Ex.ok, Ex.val, Opd.val, POp.dst, bin_int, binOK_int, bin_str, binOK_str, resOK, resV, RB.val, sub, putc, scB, scL, oneB, conf, Ex.val.eqP, Ex.val.eqL, negV, mxV, mnV, ← wr_eq, wr_zero, wr_one, wr_m1, bst_lst, byteC, partsOK, putAll, appV, nilV, slV, sslV, optB, optNum, and_assoc, exists_and_left, exists_eq_left', *]) | refine CallS_i (hc) ?_ | refine CondS_d (fun h => ?_) (fun h => ?_) | refine CondS_b (fun h => ?_) (fun h => ?_) | refine GrdS_d (fun h => ?_) (fun h => ?_) | refine GrdS_b (fun h => ?_) (fun h => ?_) | refine OkS_i (by omega) ?_ | fail)
  refine sx_count l.length (fun n V => V 0 = .lst 2 nl (l.map cp) ∧ V 12 = .lst 2 nl (l.map cp) ∧ V 13 = i l.length ∧ V 14 = i n ∧ V 4 = .ptr [i (sXT (fun p => p.f0) l n), i (sXT (fun p => p.f1) l n)] ∧ V 2 = .ptr [i 0, i 0]) 0 (by omega) (by simp [sxa, isPtrN, PV.pcs, elAt, setEl, inAt, elIn, setIn, isLst, cellsOf, Ex.ok, Ex.val, Opd.val, POp.dst, bin_int, binOK_int, bin_str, binOK_str, resOK, resV, RB.val, sub, putc, scB, scL, oneB, conf, Ex.val.eqP, Ex.val.eqL, negV, mxV, mnV, ← wr_eq, wr_zero, wr_one, wr_m1, bst_lst, byteC, partsOK, putAll, appV, nilV, slV, sslV, optB, optNum, and_assoc, exists_and_left, exists_eq_left', sXT]) ?_
  rintro n V hn ⟨g0, g12, g13, g5, g4, g2⟩
  simp [sxa, isPtrN, PV.pcs, elAt, setEl, inAt, elIn, setIn, isLst, cellsOf, Ex.ok, Ex.val, Opd.val, POp.dst, bin_int, binOK_int, bin_str, binOK_str, resOK, resV, RB.val, sub, putc, scB, scL, oneB, conf, Ex.val.eqP, Ex.val.eqL, negV, mxV, mnV, ← wr_eq, wr_zero, wr_one, wr_m1, bst_lst, byteC, partsOK, putAll, appV, nilV, slV, sslV, optB, optNum, and_assoc, exists_and_left, exists_eq_left', g13, g5]
  refine CondS_d (fun hlt => ?_) (fun hge => ?_)
  · have hlt' : n < l.length := by omega
    have hw : wr .i64 ((n : Int) + 1) = n + 1 := wr_in (by omega) (by omega)
    have s1 : sXT (fun p => p.f0) l (n + 1) = wr .i64 (sXT (fun p => p.f0) l n + l[n].f0) := by simp [sXT, hlt']
    have s2 : sXT (fun p => p.f1) l (n + 1) = wr .i64 (sXT (fun p => p.f1) l n + l[n].f1) := by simp [sXT, hlt']
    repeat' (first | intro _ | (simp [sxa, isPtrN, PV.pcs, elAt, setEl, inAt, elIn, setIn, isLst, cellsOf, Ex.ok, Ex.val, Opd.val, POp.dst, bin_int, binOK_int, bin_str, binOK_str, resOK, resV, RB.val, sub, putc, scB, scL, oneB, conf, Ex.val.eqP, Ex.val.eqL, negV, mxV, mnV, ← wr_eq, wr_zero, wr_one, wr_m1, bst_lst, byteC, partsOK, putAll, appV, nilV, slV, sslV, optB, optNum, and_assoc, exists_and_left, exists_eq_left', cp, *]) | refine CondS_d (fun h => ?_) (fun h => ?_) | refine CondS_b (fun h => ?_) (fun h => ?_) | refine GrdS_d (fun h => ?_) (fun h => ?_) | refine GrdS_b (fun h => ?_) (fun h => ?_) | refine OkS_i (by omega) ?_ | fail)
  · have : n = l.length := by omega
    subst this
    have hz : ¬ l.length = 0 := by omega
    have hz2 : ¬ l = [] := fun h => hz (by rw [h]; rfl)
    repeat' (first | intro _ | (simp [sxa, isPtrN, PV.pcs, elAt, setEl, inAt, elIn, setIn, isLst, cellsOf, Ex.ok, Ex.val, Opd.val, POp.dst, bin_int, binOK_int, bin_str, binOK_str, resOK, resV, RB.val, sub, putc, scB, scL, oneB, conf, Ex.val.eqP, Ex.val.eqL, negV, mxV, mnV, ← wr_eq, wr_zero, wr_one, wr_m1, bst_lst, byteC, partsOK, putAll, appV, nilV, slV, sslV, optB, optNum, and_assoc, exists_and_left, exists_eq_left', *]) | refine CondS_d (fun h => ?_) (fun h => ?_) | refine CondS_b (fun h => ?_) (fun h => ?_) | refine GrdS_d (fun h => ?_) (fun h => ?_) | refine GrdS_b (fun h => ?_) (fun h => ?_) | refine OkS_i (by omega) ?_ | fail)
structure Pl where
  f0 : Int
  f1 : Pt
  f2 : Int
def pl (x : Pl) : List PV := [i x.f0, i x.f1.f0, i x.f1.f1, i x.f2]
def anAt (x : Ft) : Pt := if x.f1 = 3 then rMid x.f4 else x.f4.getD (x.f4.length / 2) ⟨0, 0⟩
def anOf (x : Ft) : Pl := ⟨x.f0, anAt x, x.f2⟩
def anTo (l : List Ft) : Nat → List Pl
  | 0 => []
  | n + 1 => anTo l n ++ (if (l.getD n ftD).f3 = bs [] then [] else [anOf (l.getD n ftD)])
def anchors (l : List Ft) : List Pl := if wSrc l = true then anTo l l.length else []
theorem anTo_len (l : List Ft) (n : Nat) : (anTo l n).length ≤ n := by
  induction n with
  | zero => simp [anTo]
  | succ n ih => unfold anTo; rw [List.length_append]; split <;> simp <;> omega
theorem allTo_get {ok : Nat → Bool} {N k : Nat} (h : allTo ok N = true) (hk : k < N) : ok k = true := by
  unfold allTo at h
  exact List.all_eq_true.1 h k (List.mem_range.2 hk)
theorem src_feat {l : List Ft} (h : wSrc l = true) {n : Nat} (hn : n < l.length) : wFeat l[n] = true := by
  unfold wSrc at h
  simp only [Bool.and_eq_true] at h
  have := allTo_get h.2 hn
  unfold srcAt at this
  simp [hn] at this
  exact this.1
theorem feat_pts {x : Ft} (h : wFeat x = true) : 0 < x.f4.length ∧ (x.f1 = 1 → x.f4.length = 1) ∧ (x.f1 = 1 ∨ x.f1 = 2 ∨ x.f1 = 3) := by
  unfold wFeat at h
  simp only [Bool.and_eq_true] at h
  have h := h.2
  unfold wShape at h
  by_cases h1 : x.f1 = 1
  · rw [if_pos h1] at h
    simp at h
    exact ⟨by omega, fun _ => h.1, .inl h1⟩
  · rw [if_neg h1] at h
    by_cases h2 : x.f1 = 2
    · rw [if_pos h2] at h
      unfold wSimple at h
      simp only [Bool.and_eq_true] at h
      have := wLine_len h.1
      exact ⟨by omega, fun h => absurd h h1, .inr (.inl h2)⟩
    · rw [if_neg h2] at h
      by_cases h3 : x.f1 = 3
      · rw [if_pos h3] at h
        have := wRing_len h
        exact ⟨by omega, fun h => absurd h h1, .inr (.inr h3)⟩
      · rw [if_neg h3] at h; cases h
theorem f24 (l : List Ft) (nl : Bool) (hl : l.length ≤ 1000000000000) (hb : ∀ x ∈ l, x.okay) : Fn Tryz.prog 24 true [.lst 5 nl (l.map ft)] (.lst 4 false ((anchors l).map pl)) := by
  have hsrc := f44 l nl hl hb
  refine Fn.by_sx hX (by kernel_rfl) c24 (by kernel_rfl) (by rfl) ?_
  simp [i24, sxa, isPtrN, PV.pcs, elAt, setEl, inAt, elIn, setIn, isLst, cellsOf, Ex.ok, Ex.val, Opd.val, POp.dst, bin_int, binOK_int, bin_str, binOK_str, resOK, resV, RB.val, sub, putc, scB, scL, oneB, conf, Ex.val.eqP, Ex.val.eqL, negV, mxV, mnV, ← wr_eq, wr_zero, wr_one, wr_m1, bst_lst, byteC, partsOK, putAll, appV, nilV, slV, sslV, optB, optNum, and_assoc, exists_and_left, exists_eq_left']
  by_cases hs : wSrc l = true
  case neg =>
    have ha : anchors l = [] := if_neg hs
    rw [show wSrc l = false by simpa using hs] at hsrc
    rw [ha]
    refine sx_count 0 (fun n V => V 0 = .lst 5 nl (l.map ft) ∧ V 3 = .lst 4 false [] ∧ V 4 = i 0) 0 (by omega) (by simp [sxa, isPtrN, PV.pcs, elAt, setEl, inAt, elIn, setIn, isLst, cellsOf, Ex.ok, Ex.val, Opd.val, POp.dst, bin_int, binOK_int, bin_str, binOK_str, resOK, resV, RB.val, sub, putc, scB, scL, oneB, conf, Ex.val.eqP, Ex.val.eqL, negV, mxV, mnV, ← wr_eq, wr_zero, wr_one, wr_m1, bst_lst, byteC, partsOK, putAll, appV, nilV, slV, sslV, optB, optNum, and_assoc, exists_and_left, exists_eq_left']) ?_
    rintro n V hn ⟨g0, g3, g4⟩
    repeat' (first | intro _ | (simp [sxa, isPtrN, PV.pcs, elAt, setEl, inAt, elIn, setIn, isLst, cellsOf, Ex.ok, Ex.val, Opd.val, POp.dst, bin_int, binOK_int, bin_str, binOK_str, resOK, resV, RB.val, sub, putc, scB, scL, oneB, conf, Ex.val.eqP, Ex.val.eqL, negV, mxV, mnV, ← wr_eq, wr_zero, wr_one, wr_m1, bst_lst, byteC, partsOK, putAll, appV, nilV, slV, sslV, optB, optNum, and_assoc, exists_and_left, exists_eq_left', *]) | refine CallS_i (hsrc) ?_ | refine CondS_d (fun h => ?_) (fun h => ?_) | refine CondS_b (fun h => ?_) (fun h => ?_) | refine GrdS_d (fun h => ?_) (fun h => ?_) | refine GrdS_b (fun h => ?_) (fun h => ?_) | refine OkS_i (by omega) ?_ | fail)
  have ha : anchors l = anTo l l.length := if_pos hs
  rw [hs] at hsrc
  rw [ha]
  refine sx_count l.length (fun n V => V 0 = .lst 5 nl (l.map ft) ∧ V 3 = .lst 4 false ((anTo l n).map pl) ∧ V 4 = i n) 0 (by omega) (by simp [sxa, isPtrN, PV.pcs, elAt, setEl, inAt, elIn, setIn, isLst, cellsOf, Ex.ok, Ex.val, Opd.val, POp.dst, bin_int, binOK_int, bin_str, binOK_str, resOK, resV, RB.val, sub, putc, scB, scL, oneB, conf, Ex.val.eqP, Ex.val.eqL, negV, mxV, mnV, ← wr_eq, wr_zero, wr_one, wr_m1, bst_lst, byteC, partsOK, putAll, appV, nilV, slV, sslV, optB, optNum, and_assoc, exists_and_left, exists_eq_left', anTo]) ?_
  rintro n V hn ⟨g0, g3, g4⟩
  simp [sxa, isPtrN, PV.pcs, elAt, setEl, inAt, elIn, setIn, isLst, cellsOf, Ex.ok, Ex.val, Opd.val, POp.dst, bin_int, binOK_int, bin_str, binOK_str, resOK, resV, RB.val, sub, putc, scB, scL, oneB, conf, Ex.val.eqP, Ex.val.eqL, negV, mxV, mnV, ← wr_eq, wr_zero, wr_one, wr_m1, bst_lst, byteC, partsOK, putAll, appV, nilV, slV, sslV, optB, optNum, and_assoc, exists_and_left, exists_eq_left', g0, g4]
  refine GrdS_d (fun hlt => ?_) (fun hge => ?_)
  · have hlt' : n < l.length := by omega
    have hw : wr .i64 ((n : Int) + 1) = n + 1 := wr_in (by omega) (by omega)
    have hln := anTo_len l n
    obtain ⟨p1, p2, p3⟩ := feat_pts (src_feat hs hlt')
    have hok := (hb _ (List.getElem_mem hlt')).2
    have hgd : l.getD n ftD = l[n] := by simp [hlt']
    have hs1 : anTo l (n + 1) = anTo l n ++ (if l[n].f3 = bs [] then [] else [anOf l[n]]) := by rw [anTo, hgd]
    have hmid := f45 l[n].f4 l[n].nl (by omega)
    have hdv : ((l[n].f4.length : Int)).tdiv 2 = ((l[n].f4.length / 2 : Nat) : Int) := by rw [Int.tdiv_eq_ediv_of_nonneg (by omega)]; omega
    obtain ⟨m, hm⟩ : ∃ m, l[n].f4.length / 2 = m := ⟨_, rfl⟩
    have hml : m < l[n].f4.length := by omega
    rw [hm] at hdv
    have hwm : wr .i64 (m : Int) = m := wr_in (by omega) (by omega)
    have hat : anAt l[n] = if l[n].f1 = 3 then rMid l[n].f4 else l[n].f4[m] := by unfold anAt; rw [hm]; simp [hml]
    by_cases hnm : l[n].f3 = bs []
    · rw [if_pos hnm, List.append_nil] at hs1
      repeat' (first | intro _ | (simp [sxa, isPtrN, PV.pcs, elAt, setEl, inAt, elIn, setIn, isLst, cellsOf, Ex.ok, Ex.val, Opd.val, POp.dst, bin_int, binOK_int, bin_str, binOK_str, resOK, resV, RB.val, sub, putc, scB, scL, oneB, conf, Ex.val.eqP, Ex.val.eqL, negV, mxV, mnV, ← wr_eq, wr_zero, wr_one, wr_m1, bst_lst, byteC, partsOK, putAll, appV, nilV, slV, sslV, optB, optNum, and_assoc, exists_and_left, exists_eq_left', ft, *]) | refine CallS_i (hsrc) ?_ | refine CondS_d (fun h => ?_) (fun h => ?_) | refine CondS_b (fun h => ?_) (fun h => ?_) | refine GrdS_d (fun h => ?_) (fun h => ?_) | refine GrdS_b (fun h => ?_) (fun h => ?_) | refine OkS_i (by omega) ?_ | fail)
    · rw [if_neg hnm] at hs1
      by_cases hk3 : l[n].f1 = 3
      · rw [if_pos hk3] at hat
        repeat' (first | intro _ | (simp [sxa, isPtrN, PV.pcs, elAt, setEl, inAt, elIn, setIn, isLst, cellsOf, Ex.ok, Ex.val, Opd.val, POp.dst, bin_int, binOK_int, bin_str, binOK_str, resOK, resV, RB.val, sub, putc, scB, scL, oneB, conf, Ex.val.eqP, Ex.val.eqL, negV, mxV, mnV, ← wr_eq, wr_zero, wr_one, wr_m1, bst_lst, byteC, partsOK, putAll, appV, nilV, slV, sslV, optB, optNum, and_assoc, exists_and_left, exists_eq_left', ft, cp, pl, anOf, *]) | refine CallS_i (hsrc) ?_ | refine CallS_i (hmid) ?_ | refine CondS_d (fun h => ?_) (fun h => ?_) | refine CondS_b (fun h => ?_) (fun h => ?_) | refine GrdS_d (fun h => ?_) (fun h => ?_) | refine GrdS_b (fun h => ?_) (fun h => ?_) | refine OkS_i (by omega) ?_ | fail)
      · rw [if_neg hk3] at hat
        repeat' (first | intro _ | (simp [sxa, isPtrN, PV.pcs, elAt, setEl, inAt, elIn, setIn, isLst, cellsOf, Ex.ok, Ex.val, Opd.val, POp.dst, bin_int, binOK_int, bin_str, binOK_str, resOK, resV, RB.val, sub, putc, scB, scL, oneB, conf, Ex.val.eqP, Ex.val.eqL, negV, mxV, mnV, ← wr_eq, wr_zero, wr_one, wr_m1, bst_lst, byteC, partsOK, putAll, appV, nilV, slV, sslV, optB, optNum, and_assoc, exists_and_left, exists_eq_left', ft, cp, pl, anOf, *]) | refine CallS_i (hsrc) ?_ | refine CondS_d (fun h => ?_) (fun h => ?_) | refine CondS_b (fun h => ?_) (fun h => ?_) | refine GrdS_d (fun h => ?_) (fun h => ?_) | refine GrdS_b (fun h => ?_) (fun h => ?_) | refine OkS_i (by omega) ?_ | fail)
  · have : n = l.length := by omega
    subst this
    repeat' (first | intro _ | (simp [sxa, isPtrN, PV.pcs, elAt, setEl, inAt, elIn, setIn, isLst, cellsOf, Ex.ok, Ex.val, Opd.val, POp.dst, bin_int, binOK_int, bin_str, binOK_str, resOK, resV, RB.val, sub, putc, scB, scL, oneB, conf, Ex.val.eqP, Ex.val.eqL, negV, mxV, mnV, ← wr_eq, wr_zero, wr_one, wr_m1, bst_lst, byteC, partsOK, putAll, appV, nilV, slV, sslV, optB, optNum, and_assoc, exists_and_left, exists_eq_left', *]) | refine CondS_d (fun h => ?_) (fun h => ?_) | refine CondS_b (fun h => ?_) (fun h => ?_) | refine GrdS_d (fun h => ?_) (fun h => ?_) | refine GrdS_b (fun h => ?_) (fun h => ?_) | refine OkS_i (by omega) ?_ | fail)
end Go.Eng
namespace Go.Eng
open Go Go.Proofs Go.RowKit Geo
set_option linter.unusedSimpArgs false
set_option linter.unusedVariables false
set_option maxRecDepth 100000
set_option maxHeartbeats 4000000

/-! how listings are compared, walked -/
def cmpB (x y : ByteArray) : Int := if bl x y = true then -1 else if x = y then 0 else 1
theorem w42 (x : ByteArray) (W : World) : Calls Tryz.prog 42 #[.string x] W fun e w' => e = .returned (.bool false) ∧ w' = W := by
  go_enter Tryz.func42, Tryz.ntmps42
  go_wp
  go_ret
  simp
theorem w43 (x : Int) (W : World) : Calls Tryz.prog 43 #[.int .i64 x] W fun e w' => e = .returned (.bool false) ∧ w' = W := by
  go_enter Tryz.func43, Tryz.ntmps43
  go_wp
  go_ret
  simp
theorem w22 (x y : ByteArray) (W : World) : Calls Tryz.prog 22 #[.string x, .string y] W fun e w' => e = .returned (.int .i64 (cmpB x y)) ∧ w' = W := by
  go_enter Tryz.func22, Tryz.ntmps22
  go_wp
  refine (w42 x W).mono ?_
  rintro e w1 ⟨rfl, rfl⟩
  dsimp only
  go_wp
  refine (w42 y w1).mono ?_
  rintro e w2 ⟨rfl, rfl⟩
  dsimp only
  have hbb := bytes_beq x y
  by_cases h1 : Op.bytesLess x.toList y.toList = true
  · go_wp
    go_ret
    exact ⟨by unfold cmpB bl; rw [if_pos h1]; rfl, rfl⟩
  · have h1' : Op.bytesLess x.toList y.toList = false := by simpa using h1
    by_cases h2 : x = y
    · subst h2
      have h3 : (x.toList == x.toList) = true := by simp
      go_wp
      go_ret
      exact ⟨by unfold cmpB bl; rw [h1']; simp, rfl⟩
    · have h3 : (x.toList == y.toList) = false := by rw [hbb]; simp [h2]
      go_wp
      go_ret
      exact ⟨by unfold cmpB bl; rw [h1']; simp [h2], rfl⟩
theorem w23 (x y : Int) (W : World) : Calls Tryz.prog 23 #[.int .i64 x, .int .i64 y] W fun e w' => e = .returned (.int .i64 (sgn (x - y))) ∧ w' = W := by
  go_enter Tryz.func23, Tryz.ntmps23
  go_wp
  refine (w43 x W).mono ?_
  rintro e w1 ⟨rfl, rfl⟩
  dsimp only
  go_wp
  refine (w43 y w1).mono ?_
  rintro e w2 ⟨rfl, rfl⟩
  dsimp only
  have hs : sgn (x - y) = if y < x then 1 else if x < y then -1 else 0 := by unfold sgn; split <;> split <;> omega
  by_cases h1 : x < y
  · go_wp
    go_ret
    exact ⟨by rw [hs, if_neg (by omega), if_pos h1]; rfl, rfl⟩
  · by_cases h2 : y < x
    · go_wp
      go_ret
      exact ⟨by rw [hs, if_pos h2]; rfl, rfl⟩
    · go_wp
      go_ret
      exact ⟨by rw [hs, if_neg h2, if_neg h1]; rfl, rfl⟩
theorem w21 (x y : Int) (a : Nat) (cc : Nat) (W : World) (h0 : W.cell? ⟨a, 0, none⟩ = some (.int .i64 x)) (h1 : W.cell? ⟨a, 1, none⟩ = some (.int .i64 y)) :
    Calls Tryz.prog 21 #[.slice (some ⟨a, 0, none⟩) 2 cc] W fun e w' => e = .returned (.int .i64 (if x = 0 then y else x)) ∧ w' = W := by
  go_enter Tryz.func21, Tryz.ntmps21
  by_cases hx : x = 0
  · subst hx
    by_cases hy : y = 0
    · subst hy
      go_wp
      go_rounds 3
      go_ret
      exact ⟨rfl, rfl⟩
    · go_wp
      go_rounds 3
      go_ret
      exact ⟨rfl, rfl⟩
  · go_wp
    go_rounds 3
    go_ret
    exact ⟨rfl, rfl⟩
def encLi (x : Li) : List Value := [.string x.f0, .int .i64 x.f1, .string x.f2]
theorem w20 (x y : Li) (W : World) : Calls Tryz.prog 20 #[.agg (encLi x).toArray, .agg (encLi y).toArray] W fun e w' => e = .returned (.int .i64 (cfLi x y)) ∧ ∃ q os', w' = Sort.grow (W.drewN q) os' := by
  unfold encLi
  go_enter Tryz.func20, Tryz.ntmps20
  go_wp
  have hsz := alloc_size W (.cells #[.string x.f0, .int .i64 x.f1, .string x.f2] 35)
  have hn1 := alloc_new W (.cells #[.string x.f0, .int .i64 x.f1, .string x.f2] 35)
  have hn2 := alloc_new (W.alloc (.cells #[.string x.f0, .int .i64 x.f1, .string x.f2] 35)) (.cells #[.string y.f0, .int .i64 y.f1, .string y.f2] 35)
  rw [hsz] at hn2
  have hn3 := (alloc_blocks (W.alloc (.cells #[.string x.f0, .int .i64 x.f1, .string x.f2] 35)) (.cells #[.string y.f0, .int .i64 y.f1, .string y.f2] 35) W.heap.size (by rw [hsz]; omega)).trans hn1
  have hend : ∃ os : Array Obj, ((W.alloc (.cells #[.string x.f0, .int .i64 x.f1, .string x.f2] 35)).alloc (.cells #[.string y.f0, .int .i64 y.f1, .string y.f2] 35)) = Sort.grow (W.drewN 0) os :=
    ⟨#[.cells #[.string x.f0, .int .i64 x.f1, .string x.f2] 35, .cells #[.string y.f0, .int .i64 y.f1, .string y.f2] 35], rfl⟩
  generalize ((W.alloc (.cells #[.string x.f0, .int .i64 x.f1, .string x.f2] 35)).alloc (.cells #[.string y.f0, .int .i64 y.f1, .string y.f2] 35)) = W2 at *
  have a0 : W2.cell? ⟨W.heap.size, 0, none⟩ = some (.string x.f0) := by simp [World.cell?, hn3]
  have a1 : W2.cell? ⟨W.heap.size, 1, none⟩ = some (.int .i64 x.f1) := by simp [World.cell?, hn3]
  have b0 : W2.cell? ⟨W.heap.size + 1, 0, none⟩ = some (.string y.f0) := by simp [World.cell?, hn2]
  have b1 : W2.cell? ⟨W.heap.size + 1, 1, none⟩ = some (.int .i64 y.f1) := by simp [World.cell?, hn2]
  clear hn1 hn2 hn3 hsz
  go_still_tail 10, (by kernel_rfl)
  still_call (w22 x.f0 y.f0 _)
  repeat still_step
  still_call (w23 x.f1 y.f1 _)
  refine wpStill_nil ?_
  change wpList _ _ _ _ _ W2.drew
  obtain ⟨os, hend⟩ := hend
  have hend3 : W2.drew = Sort.grow (W.drewN 1) os := by rw [hend]; rfl
  generalize W2.drew = w3 at *
  clear a0 a1 b0 b1
  go_wp
  have hs3 : (Sort.grow (W.drewN 1) os).heap.size = W.heap.size + os.size := by show (W.heap ++ os).size = _; simp
  have hn := alloc_new (Sort.grow (W.drewN 1) os) (.cells #[.int .i64 (cmpB x.f0 y.f0), .int .i64 (sgn (x.f1 - y.f1))] 3)
  rw [hs3] at hn
  have e : cfLi x y = if cmpB x.f0 y.f0 = 0 then sgn (x.f1 - y.f1) else cmpB x.f0 y.f0 := by
    unfold cfLi cmpB
    split
    · simp
    · split <;> simp
  have q0 : ((Sort.grow (W.drewN 1) os).alloc (.cells #[.int .i64 (cmpB x.f0 y.f0), .int .i64 (sgn (x.f1 - y.f1))] 3)).cell? ⟨W.heap.size + os.size, 0, none⟩ = some (.int .i64 (cmpB x.f0 y.f0)) := by unfold World.cell?; simp only; rw [hn]; rfl
  have q1 : ((Sort.grow (W.drewN 1) os).alloc (.cells #[.int .i64 (cmpB x.f0 y.f0), .int .i64 (sgn (x.f1 - y.f1))] 3)).cell? ⟨W.heap.size + os.size, 1, none⟩ = some (.int .i64 (sgn (x.f1 - y.f1))) := by unfold World.cell?; simp only; rw [hn]; rfl
  refine (w21 _ _ _ 2 _ q0 q1).mono ?_
  rintro e w4 ⟨rfl, rfl⟩
  dsimp only
  go_wp
  go_ret
  refine ⟨by rw [e]; rfl, 1, os.push (.cells #[.int .i64 (cmpB x.f0 y.f0), .int .i64 (sgn (x.f1 - y.f1))] 3), ?_⟩
  simp [Sort.grow, World.alloc]
end Go.Eng
namespace Go.Eng
open Go Go.Proofs Go.Shelf Go.Sort
set_option linter.unusedSimpArgs false
set_option linter.unusedVariables false
set_option maxRecDepth 100000

/-! slices.SortFunc at listings. WRITES -/
def rhoSortL : Ren := ⟨fun n => if n = 6 then 19 else if n = 14 then 40 else if n = 15 then 41 else if n = 20 then 59 else if n = 21 then 60 else if n = 22 then 61 else if n = 23 then 62 else if n = 24 then 63 else if n = 25 then 64 else if n = 26 then 65 else if n = 27 then 66 else if n = 28 then 67 else if n = 29 then 68 else if n = 46 then 95 else if n = 47 then 96 else if n = 48 then 97 else if n = 49 then 98 else if n = 50 then 99 else if n = 57 then 122 else 0, fun n => if n = 0 then 0 else if n = 3 then 3 else if n = 4 then 4 else if n = 5 then 5 else if n = 9 then 9 else if n = 22 then 26 else if n = 24 then 35 else if n = 25 then 54 else if n = 39 then 72 else if n = 45 then 88 else if n = 46 then 89 else if n = 50 then 93 else if n = 53 then 96 else if n = 55 then 98 else if n = 66 then 116 else if n = 70 then 120 else if n = 76 then 131 else if n = 77 then 132 else 0, fun n => n⟩
theorem LSortL : SlLaysF0.n6 Tryz.prog rhoSortL where
  mixed := by kernel_rfl
  f6 := ⟨fnm Tryz.prog 19, by kernel_rfl, by kernel_rfl⟩
  f14 := ⟨fnm Tryz.prog 40, by kernel_rfl, by kernel_rfl⟩
  f15 := by kernel_rfl
  f20 := ⟨fnm Tryz.prog 59, by kernel_rfl, by kernel_rfl⟩
  f21 := ⟨fnm Tryz.prog 60, by kernel_rfl, by kernel_rfl⟩
  f22 := ⟨fnm Tryz.prog 61, by kernel_rfl, by kernel_rfl⟩
  f23 := ⟨fnm Tryz.prog 62, by kernel_rfl, by kernel_rfl⟩
  f24 := ⟨fnm Tryz.prog 63, by kernel_rfl, by kernel_rfl⟩
  f25 := ⟨fnm Tryz.prog 64, by kernel_rfl, by kernel_rfl⟩
  f26 := ⟨fnm Tryz.prog 65, by kernel_rfl, by kernel_rfl⟩
  f27 := ⟨fnm Tryz.prog 66, by kernel_rfl, by kernel_rfl⟩
  f28 := by kernel_rfl
  f29 := by kernel_rfl
  f46 := ⟨fnm Tryz.prog 95, by kernel_rfl, by kernel_rfl⟩
  f47 := by kernel_rfl
  f48 := by kernel_rfl
  f49 := ⟨fnm Tryz.prog 98, by kernel_rfl, by kernel_rfl⟩
  f50 := ⟨fnm Tryz.prog 99, by kernel_rfl, by kernel_rfl⟩
  f57 := ⟨fnm Tryz.prog 122, by kernel_rfl, by kernel_rfl⟩
  t0 := by kernel_rfl
  a0 := fun _ => by kernel_rfl
  z0 := fun _ => by kernel_rfl
  v0 := fun _ => by kernel_rfl
  t3 := by kernel_rfl
  a3 := fun _ => by kernel_rfl
  z3 := fun _ => by kernel_rfl
  v3 := fun _ => by kernel_rfl
  t4 := by kernel_rfl
  a4 := fun _ => by kernel_rfl
  z4 := fun _ => by kernel_rfl
  v4 := fun _ => by kernel_rfl
  t5 := by kernel_rfl
  a5 := fun _ => by kernel_rfl
  z5 := fun _ => by kernel_rfl
  v5 := fun _ => by kernel_rfl
  t9 := by kernel_rfl
  a9 := fun _ => by kernel_rfl
  z9 := fun _ => by kernel_rfl
  v9 := fun _ => by kernel_rfl
  t22 := by kernel_rfl
  a22 := fun _ => by kernel_rfl
  z22 := fun _ => by kernel_rfl
  v22 := fun _ => by kernel_rfl
  t25 := by kernel_rfl
  a25 := fun _ => by kernel_rfl
  z25 := fun _ => by kernel_rfl
  v25 := fun _ => by kernel_rfl
  t39 := by kernel_rfl
  a39 := fun _ => by kernel_rfl
  z39 := fun _ => by kernel_rfl
  v39 := fun _ => by kernel_rfl
  t45 := by kernel_rfl
  a45 := fun _ => by kernel_rfl
  z45 := fun _ => by kernel_rfl
  v45 := fun _ => by kernel_rfl
  t46 := by kernel_rfl
  a46 := fun _ => by kernel_rfl
  z46 := fun _ => by kernel_rfl
  v46 := fun _ => by kernel_rfl
  t50 := by kernel_rfl
  a50 := fun _ => by kernel_rfl
  z50 := fun _ => by kernel_rfl
  v50 := fun _ => by kernel_rfl
  t53 := by kernel_rfl
  a53 := fun _ => by kernel_rfl
  z53 := fun _ => by kernel_rfl
  v53 := fun _ => by kernel_rfl
  t55 := by kernel_rfl
  a55 := fun _ => by kernel_rfl
  z55 := fun _ => by kernel_rfl
  v55 := fun _ => by kernel_rfl
  t66 := by kernel_rfl
  a66 := fun _ => by kernel_rfl
  z66 := fun _ => by kernel_rfl
  v66 := fun _ => by kernel_rfl
  t70 := by kernel_rfl
  a70 := fun _ => by kernel_rfl
  z70 := fun _ => by kernel_rfl
  v70 := fun _ => by kernel_rfl
  t76 := by kernel_rfl
  a76 := fun _ => by kernel_rfl
  z76 := fun _ => by kernel_rfl
  v76 := fun _ => by kernel_rfl
  t77 := by kernel_rfl
  a77 := fun _ => by kernel_rfl
  z77 := fun _ => by kernel_rfl
  v77 := fun _ => by kernel_rfl
theorem f19 (nl : Bool) (d : List Li) (hsz : d.length < 4611686018427387904) :
    FnM Tryz.prog 19 [.lst 3 nl (d.map li), .fn 20 []] (.tup []) (.lst 3 nl ((srtL cfLi d).map li)) := by
  refine sort_M (k := 3) LSortL (by omega) (fun _ => by kernel_rfl) (fun _ => by kernel_rfl) encLi li (fun _ => rfl) ?_ ?_ ?_ ?_ cfLi swoLi 20 (by kernel_rfl) (fun x y W => w20 x y W) (by kernel_rfl) nl d hsz
  · intro x v hv
    simp [encLi] at hv
    rcases hv with rfl | rfl | rfl <;> rfl
  · intro w x
    exact .cons (.str _) (.cons (.int _ _) (.cons (.str _) .nil))
  · intro w x ys F h
    obtain ⟨a, r, F1, F2, rfl, rfl, h1, h2⟩ := RepL.cons_inv h
    obtain ⟨b, r2, F3, F4, rfl, rfl, h3, h4⟩ := RepL.cons_inv h2
    obtain ⟨c, r3, F5, F6, rfl, rfl, h5, h6⟩ := RepL.cons_inv h4
    obtain ⟨rfl, rfl⟩ := h6.nil_inv
    obtain ⟨rfl, rfl⟩ := h1.str_inv
    obtain ⟨rfl, rfl⟩ := h3.int_inv
    obtain ⟨rfl, rfl⟩ := h5.str_inv
    exact ⟨rfl, rfl⟩
  · intro x c hc
    simp [li] at hc
    rcases hc with rfl | rfl | rfl <;> rfl
end Go.Eng
namespace Go.Eng
open Go Go.Proofs Geo
set_option linter.unusedSimpArgs false
set_option linter.unusedVariables false
set_option maxRecDepth 20000
set_option maxHeartbeats 1000000

/-! anchors of the program; the list of names. WRITES -/
theorem f8 (l : List Ft) (nl : Bool) (hl : l.length ≤ 1000000000000) (hb : ∀ x ∈ l, x.okay) : Fn Tryz.prog 8 true [.lst 5 nl (l.map ft)] (.lst 4 false ((anchors l).map pl)) := by
  have hsrc := f27 l nl hl hb
  refine Fn.by_sx hX (by kernel_rfl) c8 (by kernel_rfl) (by rfl) ?_
  simp [i8, sxa, isPtrN, PV.pcs, elAt, setEl, inAt, elIn, setIn, isLst, cellsOf, Ex.ok, Ex.val, Opd.val, POp.dst, bin_int, binOK_int, bin_str, binOK_str, resOK, resV, RB.val, sub, putc, scB, scL, oneB, conf, Ex.val.eqP, Ex.val.eqL, negV, mxV, mnV, ← wr_eq, wr_zero, wr_one, wr_m1, bst_lst, byteC, partsOK, putAll, appV, nilV, slV, sslV, optB, optNum, and_assoc, exists_and_left, exists_eq_left']
  by_cases hs : wSrc l = true
  case neg =>
    have ha : anchors l = [] := if_neg hs
    rw [show wSrc l = false by simpa using hs] at hsrc
    rw [ha]
    repeat' (first | intro _ | (simp [sxa, isPtrN, PV.pcs, elAt, setEl, inAt, elIn, setIn, isLst, cellsOf, Ex.ok, Ex.val, Opd.val, POp.dst, bin_int, binOK_int, bin_str, binOK_str, resOK, resV, RB.val, sub, putc, scB, scL, oneB, conf, Ex.val.eqP, Ex.val.eqL, negV, mxV, mnV, ← wr_eq, wr_zero, wr_one, wr_m1, bst_lst, byteC, partsOK, putAll, appV, nilV, slV, sslV, optB, optNum, and_assoc, exists_and_left, exists_eq_left', *]) | refine CallS_i (hsrc) ?_ | refine CallM_i (hsrc) ?_ | refine CallE_i (hsrc) ?_ | refine CallX_i (hsrc) ?_ | refine CallB_i (hsrc) ?_ | refine CondS_d (fun h => ?_) (fun h => ?_) | refine CondS_b (fun h => ?_) (fun h => ?_) | refine GrdS_d (fun h => ?_) (fun h => ?_) | refine GrdS_b (fun h => ?_) (fun h => ?_) | refine OkS_i (by omega) ?_ | fail)
  have ha : anchors l = anTo l l.length := if_pos hs
  rw [hs] at hsrc
  rw [ha]
  repeat' (first | intro _ | (simp [sxa, isPtrN, PV.pcs, elAt, setEl, inAt, elIn, setIn, isLst, cellsOf, Ex.ok, Ex.val, Opd.val, POp.dst, bin_int, binOK_int, bin_str, binOK_str, resOK, resV, RB.val, sub, putc, scB, scL, oneB, conf, Ex.val.eqP, Ex.val.eqL, negV, mxV, mnV, ← wr_eq, wr_zero, wr_one, wr_m1, bst_lst, byteC, partsOK, putAll, appV, nilV, slV, sslV, optB, optNum, and_assoc, exists_and_left, exists_eq_left', *]) | refine CallS_i (hsrc) ?_ | refine CallM_i (hsrc) ?_ | refine CallE_i (hsrc) ?_ | refine CallX_i (hsrc) ?_ | refine CallB_i (hsrc) ?_ | refine CondS_d (fun h => ?_) (fun h => ?_) | refine CondS_b (fun h => ?_) (fun h => ?_) | refine GrdS_d (fun h => ?_) (fun h => ?_) | refine GrdS_b (fun h => ?_) (fun h => ?_) | refine OkS_i (by omega) ?_ | fail)
  refine sx_count l.length (fun n V => V 0 = .lst 5 nl (l.map ft) ∧ V 12 = .lst 5 nl (l.map ft) ∧ V 13 = i l.length ∧ V 3 = .lst 4 false ((anTo l n).map pl) ∧ V 14 = i n) 0 (by omega) (by simp [sxa, isPtrN, PV.pcs, elAt, setEl, inAt, elIn, setIn, isLst, cellsOf, Ex.ok, Ex.val, Opd.val, POp.dst, bin_int, binOK_int, bin_str, binOK_str, resOK, resV, RB.val, sub, putc, scB, scL, oneB, conf, Ex.val.eqP, Ex.val.eqL, negV, mxV, mnV, ← wr_eq, wr_zero, wr_one, wr_m1, bst_lst, byteC, partsOK, putAll, appV, nilV, slV, sslV, optB, optNum, and_assoc, exists_and_left, exists_eq_left', anTo]) ?_
  rintro n V hn ⟨g0, g12, g13, g3, g4⟩
  simp [sxa, isPtrN, PV.pcs, elAt, setEl, inAt, elIn, setIn, isLst, cellsOf, Ex.ok, Ex.val, Opd.val, POp.dst, bin_int, binOK_int, bin_str, binOK_str, resOK, resV, RB.val, sub, putc, scB, scL, oneB, conf, Ex.val.eqP, Ex.val.eqL, negV, mxV, mnV, ← wr_eq, wr_zero, wr_one, wr_m1, bst_lst, byteC, partsOK, putAll, appV, nilV, slV, sslV, optB, optNum, and_assoc, exists_and_left, exists_eq_left', g13, g4]
  refine CondS_d (fun hlt => ?_) (fun hge => ?_)
  · have hlt' : n < l.length := by omega
    have hw : wr .i64 ((n : Int) + 1) = n + 1 := wr_in (by omega) (by omega)
    have hln := anTo_len l n
    obtain ⟨p1, p2, p3⟩ := feat_pts (src_feat hs hlt')
    have hok := (hb _ (List.getElem_mem hlt')).2
    have hgd : l.getD n ftD = l[n] := by simp [hlt']
    have hs1 : anTo l (n + 1) = anTo l n ++ (if l[n].f3 = bs [] then [] else [anOf l[n]]) := by rw [anTo, hgd]
    have hmid := f28 l[n].f4 l[n].nl (by omega)
    have hdv : ((l[n].f4.length : Int)).tdiv 2 = ((l[n].f4.length / 2 : Nat) : Int) := by rw [Int.tdiv_eq_ediv_of_nonneg (by omega)]; omega
    obtain ⟨m, hm⟩ : ∃ m, l[n].f4.length / 2 = m := ⟨_, rfl⟩
    have hml : m < l[n].f4.length := by omega
    rw [hm] at hdv
    have hwm : wr .i64 (m : Int) = m := wr_in (by omega) (by omega)
    have hat : anAt l[n] = if l[n].f1 = 3 then rMid l[n].f4 else l[n].f4[m] := by unfold anAt; rw [hm]; simp [hml]
    by_cases hnm : l[n].f3 = bs []
    · rw [if_pos hnm, List.append_nil] at hs1
      repeat' (first | intro _ | (simp [sxa, isPtrN, PV.pcs, elAt, setEl, inAt, elIn, setIn, isLst, cellsOf, Ex.ok, Ex.val, Opd.val, POp.dst, bin_int, binOK_int, bin_str, binOK_str, resOK, resV, RB.val, sub, putc, scB, scL, oneB, conf, Ex.val.eqP, Ex.val.eqL, negV, mxV, mnV, ← wr_eq, wr_zero, wr_one, wr_m1, bst_lst, byteC, partsOK, putAll, appV, nilV, slV, sslV, optB, optNum, and_assoc, exists_and_left, exists_eq_left', ft, *]) | refine CondS_d (fun h => ?_) (fun h => ?_) | refine CondS_b (fun h => ?_) (fun h => ?_) | refine GrdS_d (fun h => ?_) (fun h => ?_) | refine GrdS_b (fun h => ?_) (fun h => ?_) | refine OkS_i (by omega) ?_ | fail)
    · rw [if_neg hnm] at hs1
      rcases p3 with hk | hk | hk
      · have hm0 : m = 0 := by have := p2 hk; omega
        subst hm0
        have hne : ¬ l[n].f4 = [] := fun h => by rw [h] at p1; cases p1
        rw [if_neg (by omega)] at hat
        clear hdv hwm hm p2
        repeat' (first | intro _ | (simp [sxa, isPtrN, PV.pcs, elAt, setEl, inAt, elIn, setIn, isLst, cellsOf, Ex.ok, Ex.val, Opd.val, POp.dst, bin_int, binOK_int, bin_str, binOK_str, resOK, resV, RB.val, sub, putc, scB, scL, oneB, conf, Ex.val.eqP, Ex.val.eqL, negV, mxV, mnV, ← wr_eq, wr_zero, wr_one, wr_m1, bst_lst, byteC, partsOK, putAll, appV, nilV, slV, sslV, optB, optNum, and_assoc, exists_and_left, exists_eq_left', ft, cp, pl, anOf, *]) | refine CondS_d (fun h => ?_) (fun h => ?_) | refine CondS_b (fun h => ?_) (fun h => ?_) | refine GrdS_d (fun h => ?_) (fun h => ?_) | refine GrdS_b (fun h => ?_) (fun h => ?_) | refine OkS_i (by omega) ?_ | fail)
      · rw [if_neg (by omega)] at hat
        clear p2
        repeat' (first | intro _ | (simp [sxa, isPtrN, PV.pcs, elAt, setEl, inAt, elIn, setIn, isLst, cellsOf, Ex.ok, Ex.val, Opd.val, POp.dst, bin_int, binOK_int, bin_str, binOK_str, resOK, resV, RB.val, sub, putc, scB, scL, oneB, conf, Ex.val.eqP, Ex.val.eqL, negV, mxV, mnV, ← wr_eq, wr_zero, wr_one, wr_m1, bst_lst, byteC, partsOK, putAll, appV, nilV, slV, sslV, optB, optNum, and_assoc, exists_and_left, exists_eq_left', ft, cp, pl, anOf, *]) | refine CondS_d (fun h => ?_) (fun h => ?_) | refine CondS_b (fun h => ?_) (fun h => ?_) | refine GrdS_d (fun h => ?_) (fun h => ?_) | refine GrdS_b (fun h => ?_) (fun h => ?_) | refine OkS_i (by omega) ?_ | fail)
      · rw [if_pos hk] at hat
        clear p2
        repeat' (first | intro _ | (simp [sxa, isPtrN, PV.pcs, elAt, setEl, inAt, elIn, setIn, isLst, cellsOf, Ex.ok, Ex.val, Opd.val, POp.dst, bin_int, binOK_int, bin_str, binOK_str, resOK, resV, RB.val, sub, putc, scB, scL, oneB, conf, Ex.val.eqP, Ex.val.eqL, negV, mxV, mnV, ← wr_eq, wr_zero, wr_one, wr_m1, bst_lst, byteC, partsOK, putAll, appV, nilV, slV, sslV, optB, optNum, and_assoc, exists_and_left, exists_eq_left', ft, cp, pl, anOf, *]) | refine CallS_i (hmid) ?_ | refine CallM_i (hmid) ?_ | refine CallE_i (hmid) ?_ | refine CallX_i (hmid) ?_ | refine CallB_i (hmid) ?_ | refine CondS_d (fun h => ?_) (fun h => ?_) | refine CondS_b (fun h => ?_) (fun h => ?_) | refine GrdS_d (fun h => ?_) (fun h => ?_) | refine GrdS_b (fun h => ?_) (fun h => ?_) | refine OkS_i (by omega) ?_ | fail)
  · have : n = l.length := by omega
    subst this
    repeat' (first | intro _ | (simp [sxa, isPtrN, PV.pcs, elAt, setEl, inAt, elIn, setIn, isLst, cellsOf, Ex.ok, Ex.val, Opd.val, POp.dst, bin_int, binOK_int, bin_str, binOK_str, resOK, resV, RB.val, sub, putc, scB, scL, oneB, conf, Ex.val.eqP, Ex.val.eqL, negV, mxV, mnV, ← wr_eq, wr_zero, wr_one, wr_m1, bst_lst, byteC, partsOK, putAll, appV, nilV, slV, sslV, optB, optNum, and_assoc, exists_and_left, exists_eq_left', *]) | refine CondS_d (fun h => ?_) (fun h => ?_) | refine CondS_b (fun h => ?_) (fun h => ?_) | refine GrdS_d (fun h => ?_) (fun h => ?_) | refine GrdS_b (fun h => ?_) (fun h => ?_) | refine OkS_i (by omega) ?_ | fail)
theorem firstFrom_no {ok : Nat → Bool} : ∀ d n : Nat, firstFrom ok d n = -1 → ∀ j, n ≤ j → j < n + d → ok j = false
  | 0, n, _, j, h1, h2 => by omega
  | d + 1, n, h, j, h1, h2 => by
    unfold firstFrom at h
    split at h
    · omega
    · rename_i hne
      rcases Nat.lt_or_ge n j with h3 | h3
      · exact firstFrom_no d (n + 1) h j (by omega) (by omega)
      · obtain rfl : j = n := by omega
        simpa using hne
theorem find_id {l : List Ft} {id : Int} {j : Nat} (hj : j < l.length) (h : l[j].f0 = id) : ∃ k : Nat, wFind l id = k ∧ k < l.length := by
  have hb := wFind_bound l id
  have h0 : ¬ wFind l id = -1 := fun hh => by
    have := firstFrom_no _ _ hh j (by omega) (by omega)
    unfold hasId at this
    simp [hj, h] at this
  exact ⟨(wFind l id).toNat, by omega, by omega⟩
theorem an_mem {l : List Ft} : ∀ n, n ≤ l.length → ∀ x ∈ anTo l n, ∃ j, ∃ hj : j < l.length, j < n ∧ x = anOf l[j] := by
  intro n
  induction n with
  | zero => intro _ x hx; cases hx
  | succ n ih =>
    intro hn x hx
    unfold anTo at hx
    have hgd : l.getD n ftD = l[n] := by simp [show n < l.length by omega]
    rcases List.mem_append.1 hx with h | h
    · obtain ⟨j, hj, h1, h2⟩ := ih (by omega) x h
      exact ⟨j, hj, by omega, h2⟩
    · rw [hgd] at h
      split at h
      · cases h
      · exact ⟨n, by omega, by omega, by simpa using h⟩
theorem src_up {l : List Ft} (h : wSrc l = true) : ∀ j k, j < k → (hk : k < l.length) → (hj : j < l.length) → l[j].f0 < l[k].f0 := by
  intro j k
  induction k with
  | zero => intro h1; omega
  | succ k ih =>
    intro h1 hk hj
    unfold wSrc at h
    simp only [Bool.and_eq_true] at h
    have h2 := allTo_get h.2 hk
    unfold srcAt at h2
    simp [hk, show k < l.length by omega] at h2
    rcases Nat.lt_or_ge j k with h3 | h3
    · have := ih h3 (by omega) hj; omega
    · obtain rfl : j = k := by omega
      omega
theorem an_up {l : List Ft} (h : wSrc l = true) : ∀ n, n ≤ l.length → (anTo l n).Pairwise fun a b => a.f0 < b.f0 := by
  intro n
  induction n with
  | zero => intro _; exact List.Pairwise.nil
  | succ n ih =>
    intro hn
    have hgd : l.getD n ftD = l[n] := by simp [show n < l.length by omega]
    unfold anTo
    rw [hgd]
    split
    · rw [List.append_nil]; exact ih (by omega)
    · rw [List.pairwise_append]
      refine ⟨ih (by omega), by simp, fun a ha b hb => ?_⟩
      obtain ⟨j, hj, h1, rfl⟩ := an_mem n (by omega) a ha
      obtain rfl : b = anOf l[n] := by simpa using hb
      exact src_up h j n h1 (by omega) hj
/-- what is listed of an anchor -/
def liOf (l : List Ft) (x : Pl) : Li := ⟨(l.getD (wFind l x.f0).toNat ftD).f3, x.f0, wRef (wTile x.f1.f0 x.f1.f1)⟩
def lstD (l : List Ft) : List Li := (anchors l).map (liOf l)
theorem lstD_up (l : List Ft) : (lstD l).Pairwise fun a b => a.f1 < b.f1 := by
  unfold lstD anchors
  split
  · rename_i h
    rw [List.pairwise_map]
    exact an_up h l.length (Nat.le_refl _)
  · exact List.Pairwise.nil
theorem an_find {l : List Ft} {n : Nat} (hn : n < (anchors l).length) : ∃ k : Nat, wFind l (anchors l)[n].f0 = k ∧ k < l.length := by
  have hx : (anchors l)[n] ∈ anchors l := List.getElem_mem hn
  generalize (anchors l)[n] = x at hx
  unfold anchors at hx
  split at hx
  · obtain ⟨j, hj, _, rfl⟩ := an_mem l.length (Nat.le_refl _) x hx
    exact find_id hj rfl
  · cases hx
theorem anchors_len (l : List Ft) : (anchors l).length ≤ l.length := by
  unfold anchors
  split
  · exact anTo_len l l.length
  · simp
end Go.Eng
namespace Go.Eng
open Go Go.Proofs Geo
set_option linter.unusedSimpArgs false
set_option linter.unusedVariables false
set_option maxRecDepth 20000
set_option maxHeartbeats 2000000

/-! the list of names. WRITES -/
theorem f6 (l : List Ft) (nl : Bool) (hl : l.length ≤ 1048576) (hb : ∀ x ∈ l, x.okay) : Fn Tryz.prog 6 true [.lst 5 nl (l.map ft)] (.lst 3 false ((srtL cfLi (lstD l)).map li)) := by
  have ha := f8 l nl (by omega) hb
  have hal := anchors_len l
  have hdl : (lstD l).length = (anchors l).length := by unfold lstD; rw [List.length_map]
  have hfind : ∀ n, (hn : n < (anchors l).length) → ∃ k : Nat, wFind l (anchors l)[n].f0 = k ∧ k < l.length := fun n hn => an_find hn
  have hD : ∀ n, (hn : n < (anchors l).length) → (lstD l).take (n + 1) = (lstD l).take n ++ [liOf l (anchors l)[n]] := by
    intro n hn
    rw [List.take_add_one, List.getElem?_eq_getElem (by omega)]
    simp [lstD]
  have hof : ∀ x, liOf l x = ⟨(l.getD (wFind l x.f0).toNat ftD).f3, x.f0, wRef (wTile x.f1.f0 x.f1.f1)⟩ := fun _ => rfl
  obtain ⟨D, hDe⟩ : ∃ D, lstD l = D := ⟨_, rfl⟩
  rw [hDe] at hdl ⊢
  simp only [hDe] at hD
  obtain ⟨A, hA⟩ : ∃ A, anchors l = A := ⟨_, rfl⟩
  simp only [hA] at hfind hD hdl hal ha
  have hsort := f19 false D (by omega)
  clear hDe
  refine Fn.by_sx hX (by kernel_rfl) c6 (by kernel_rfl) (by rfl) ?_
  simp [i6, sxa, isPtrN, PV.pcs, elAt, setEl, inAt, elIn, setIn, isLst, cellsOf, Ex.ok, Ex.val, Opd.val, POp.dst, bin_int, binOK_int, bin_str, binOK_str, resOK, resV, RB.val, sub, putc, scB, scL, oneB, conf, Ex.val.eqP, Ex.val.eqL, negV, mxV, mnV, ← wr_eq, wr_zero, wr_one, wr_m1, bst_lst, byteC, partsOK, putAll, appV, nilV, slV, sslV, optB, optNum, and_assoc, exists_and_left, exists_eq_left']
  repeat' (first | intro _ | (simp [sxa, isPtrN, PV.pcs, elAt, setEl, inAt, elIn, setIn, isLst, cellsOf, Ex.ok, Ex.val, Opd.val, POp.dst, bin_int, binOK_int, bin_str, binOK_str, resOK, resV, RB.val, sub, putc, scB, scL, oneB, conf, Ex.val.eqP, Ex.val.eqL, negV, mxV, mnV, ← wr_eq, wr_zero, wr_one, wr_m1, bst_lst, byteC, partsOK, putAll, appV, nilV, slV, sslV, optB, optNum, and_assoc, exists_and_left, exists_eq_left', *]) | refine CallS_i (ha) ?_ | refine CallM_i (ha) ?_ | refine CallE_i (ha) ?_ | refine CallX_i (ha) ?_ | refine CallB_i (ha) ?_ | refine CondS_d (fun h => ?_) (fun h => ?_) | refine CondS_b (fun h => ?_) (fun h => ?_) | refine GrdS_d (fun h => ?_) (fun h => ?_) | refine GrdS_b (fun h => ?_) (fun h => ?_) | refine OkS_i (by omega) ?_ | fail)
  refine sx_count A.length (fun n V => V 0 = .lst 5 nl (l.map ft) ∧ V 8 = .lst 4 false (A.map pl) ∧ V 9 = i A.length ∧ V 10 = i n ∧ V 3 = .lst 3 false ((D.take n).map li)) 0 (by omega) (by simp [sxa, isPtrN, PV.pcs, elAt, setEl, inAt, elIn, setIn, isLst, cellsOf, Ex.ok, Ex.val, Opd.val, POp.dst, bin_int, binOK_int, bin_str, binOK_str, resOK, resV, RB.val, sub, putc, scB, scL, oneB, conf, Ex.val.eqP, Ex.val.eqL, negV, mxV, mnV, ← wr_eq, wr_zero, wr_one, wr_m1, bst_lst, byteC, partsOK, putAll, appV, nilV, slV, sslV, optB, optNum, and_assoc, exists_and_left, exists_eq_left']) ?_
  rintro n V hn ⟨g0, g8, g9, g10, g3⟩
  simp [sxa, isPtrN, PV.pcs, elAt, setEl, inAt, elIn, setIn, isLst, cellsOf, Ex.ok, Ex.val, Opd.val, POp.dst, bin_int, binOK_int, bin_str, binOK_str, resOK, resV, RB.val, sub, putc, scB, scL, oneB, conf, Ex.val.eqP, Ex.val.eqL, negV, mxV, mnV, ← wr_eq, wr_zero, wr_one, wr_m1, bst_lst, byteC, partsOK, putAll, appV, nilV, slV, sslV, optB, optNum, and_assoc, exists_and_left, exists_eq_left', g9, g10]
  refine CondS_d (fun hlt => ?_) (fun hge => ?_)
  · have hlt' : n < A.length := by omega
    have hw : wr .i64 ((n : Int) + 1) = n + 1 := wr_in (by omega) (by omega)
    obtain ⟨k, hk, hkl⟩ := hfind n hlt'
    have hf := f17 l nl A[n].f0 (by omega)
    have hr := f18 A[n].f1.f0 A[n].f1.f1
    have hd := hD n hlt'
    rw [hof, hk] at hd
    rw [hk] at hf
    have hg : l.getD k ftD = l[k] := by simp [hkl]
    rw [show ((k : Int)).toNat = k from rfl, hg] at hd
    have hll : (D.take n).length = n := by simp; omega
    obtain ⟨Q, hQ⟩ : ∃ Q, D.take n = Q := ⟨_, rfl⟩
    rw [hQ] at hd g3 hll
    clear hQ hfind hD hof hsort hk hg
    repeat' (first | intro _ | (simp [sxa, isPtrN, PV.pcs, elAt, setEl, inAt, elIn, setIn, isLst, cellsOf, Ex.ok, Ex.val, Opd.val, POp.dst, bin_int, binOK_int, bin_str, binOK_str, resOK, resV, RB.val, sub, putc, scB, scL, oneB, conf, Ex.val.eqP, Ex.val.eqL, negV, mxV, mnV, ← wr_eq, wr_zero, wr_one, wr_m1, bst_lst, byteC, partsOK, putAll, appV, nilV, slV, sslV, optB, optNum, and_assoc, exists_and_left, exists_eq_left', pl, ft, *]) | refine CallS_i (hf) ?_ | refine CallS_i (hr) ?_ | refine CallM_i (hf) ?_ | refine CallM_i (hr) ?_ | refine CallE_i (hf) ?_ | refine CallE_i (hr) ?_ | refine CallX_i (hf) ?_ | refine CallX_i (hr) ?_ | refine CallB_i (hf) ?_ | refine CallB_i (hr) ?_ | refine CondS_d (fun h => ?_) (fun h => ?_) | refine CondS_b (fun h => ?_) (fun h => ?_) | refine GrdS_d (fun h => ?_) (fun h => ?_) | refine GrdS_b (fun h => ?_) (fun h => ?_) | refine OkS_i (by omega) ?_ | fail)
    all_goals (rw [← List.map_take, hd]; simp [li])
  · have : n = A.length := by omega
    subst this
    rw [← hdl, List.take_length] at g3
    clear hfind hD hof
    repeat' (first | intro _ | (simp [sxa, isPtrN, PV.pcs, elAt, setEl, inAt, elIn, setIn, isLst, cellsOf, Ex.ok, Ex.val, Opd.val, POp.dst, bin_int, binOK_int, bin_str, binOK_str, resOK, resV, RB.val, sub, putc, scB, scL, oneB, conf, Ex.val.eqP, Ex.val.eqL, negV, mxV, mnV, ← wr_eq, wr_zero, wr_one, wr_m1, bst_lst, byteC, partsOK, putAll, appV, nilV, slV, sslV, optB, optNum, and_assoc, exists_and_left, exists_eq_left', *]) | refine CallS_i (hsort) ?_ | refine CallM_i (hsort) ?_ | refine CallE_i (hsort) ?_ | refine CallX_i (hsort) ?_ | refine CallB_i (hsort) ?_ | refine CondS_d (fun h => ?_) (fun h => ?_) | refine CondS_b (fun h => ?_) (fun h => ?_) | refine GrdS_d (fun h => ?_) (fun h => ?_) | refine GrdS_b (fun h => ?_) (fun h => ?_) | refine OkS_i (by omega) ?_ | fail)
theorem l7_2 {x : Li} {O : List Li} {V : Env} (hO : O.length ≤ 2000000) (h3 : V 3 = .lst 3 false (O.map li)) (h6 : V 6 = .ptr [.str x.f0, i x.f1, .str x.f2]) (h7 : V 7 = i O.length) :
    sx (FC Tryz.prog) (.loop (.seq (.seq (.ops [s 42 (.mv (t 7)),
  s 43 (.bin .gtr (t 42) (c (i 0))),
  s 44 (.mv (t 43)),
  sg [(44, true)] 45 (.mv (c (i 0))),
  sg [(44, true)] 46 (.ldB 6 0 1 false true),
  sg [(44, true)] 47 (.mv (t 3)),
  sg [(44, true)] 48 (.mv (t 7)),
  sg [(44, true)] 49 (.bin .sub (t 48) (c (i 1))),
  sg [(44, true)] 50 (.idx (t 47) (t 49) 3),
  sg [(44, true)] 51 (.mv (t 50)),
  sg [(44, true)] 52 (.ldE 47 51 0 1 false true 3),
  sg [(44, true)] 53 (.bin .lss (t 46) (t 52)),
  sg [(44, true)] 54 (.mv (t 53)),
  sg [(54, false), (44, true)] 55 (.mv (c (i 0))),
  sg [(54, false), (44, true)] 56 (.ldB 6 0 1 false true),
  sg [(54, false), (44, true)] 57 (.mv (t 3)),
  sg [(54, false), (44, true)] 58 (.mv (t 7)),
  sg [(54, false), (44, true)] 59 (.bin .sub (t 58) (c (i 1))),
  sg [(54, false), (44, true)] 60 (.idx (t 57) (t 59) 3),
  sg [(54, false), (44, true)] 61 (.mv (t 60)),
  sg [(54, false), (44, true)] 62 (.ldE 57 61 0 1 false true 3),
  sg [(54, false), (44, true)] 63 (.bin .eql (t 56) (t 62)),
  sg [(54, false), (44, true)] 64 (.mv (t 63)),
  sg [(64, true), (54, false), (44, true)] 65 (.mv (c (i 0))),
  sg [(64, true), (54, false), (44, true)] 66 (.ldB 6 1 1 false true),
  sg [(64, true), (54, false), (44, true)] 67 (.mv (t 3)),
  sg [(64, true), (54, false), (44, true)] 68 (.mv (t 7)),
  sg [(64, true), (54, false), (44, true)] 69 (.bin .sub (t 68) (c (i 1))),
  sg [(64, true), (54, false), (44, true)] 70 (.idx (t 67) (t 69) 3),
  sg [(64, true), (54, false), (44, true)] 71 (.mv (t 70)),
  sg [(64, true), (54, false), (44, true)] 72 (.ldE 67 71 1 1 false true 3),
  sg [(64, true), (54, false), (44, true)] 73 (.bin .lss (t 66) (t 72)),
  sg [(54, false), (44, true)] 74 (.pick (t 64) (t 73) (c (.bool false))),
  sg [(44, true)] 75 (.pick (t 54) (c (.bool true)) (t 74)),
  s 76 (.pick (t 44) (t 75) (c (.bool false)))])
 (.cond (t 76) .skip (.exit 2)))
 (.block 3 (.ops [s 77 (.mv (t 7)),
  s 78 (.bin .sub (t 77) (c (i 1))),
  s 7 (.mv (t 78))])))) (fun y V' => y = .exit 2 ∧ V' 0 = V 0 ∧ V' 3 = V 3 ∧ V' 4 = V 4 ∧ V' 5 = V 5 ∧ V' 6 = V 6 ∧ V' 7 = i (insK x O O.length : Nat)) V := by
  refine sx_down (fun m V' => m ≤ O.length ∧ V' 0 = V 0 ∧ V' 3 = V 3 ∧ V' 4 = V 4 ∧ V' 5 = V 5 ∧ V' 6 = V 6 ∧ V' 7 = i m ∧ insK x O m = insK x O O.length) O.length ⟨Nat.le_refl _, rfl, rfl, rfl, rfl, rfl, h7, rfl⟩ ?_
  rintro m V' ⟨hm, g0, g3, g4, g5, g6, g7, hk⟩
  cases m with
  | zero =>
    have hk0 : insK x O O.length = 0 := by rw [← hk]; rfl
    clear hk
    repeat' (first | intro _ | (simp [sxa, isPtrN, PV.pcs, elAt, setEl, inAt, elIn, setIn, isLst, cellsOf, Ex.ok, Ex.val, Opd.val, POp.dst, bin_int, binOK_int, bin_str, binOK_str, resOK, resV, RB.val, sub, putc, scB, scL, oneB, conf, Ex.val.eqP, Ex.val.eqL, negV, mxV, mnV, ← wr_eq, wr_zero, wr_one, wr_m1, bst_lst, byteC, partsOK, putAll, appV, nilV, slV, sslV, optB, optNum, and_assoc, exists_and_left, exists_eq_left', *]) | refine CondS_d (fun h => ?_) (fun h => ?_) | refine CondS_b (fun h => ?_) (fun h => ?_) | refine GrdS_d (fun h => ?_) (fun h => ?_) | refine GrdS_b (fun h => ?_) (fun h => ?_) | refine OkS_i (by omega) ?_ | fail)
  | succ m =>
    have hlt : m < O.length := by omega
    have hw : wr .i64 (((m + 1 : Nat) : Int) - 1) = m := by rw [wr_in (by omega) (by omega)]; omega
    have hgd : O.getD m liD = O[m] := by simp [hlt]
    have hpos : (0 : Int) < ((m + 1 : Nat) : Int) := by omega
    rw [insK, hgd] at hk
    rw [h3] at g3
    rw [h6] at g6
    obtain ⟨N, hN⟩ : ∃ N : Int, ((m + 1 : Nat) : Int) = N := ⟨_, rfl⟩
    rw [hN] at g7 hw hpos
    obtain ⟨K, hK⟩ : ∃ K, insK x O O.length = K := ⟨_, rfl⟩
    rw [hK] at hk ⊢
    by_cases b1 : Op.bytesLess x.f0.toList O[m].f0.toList = true
    · rw [if_pos (by unfold ltLi bl; rw [b1]; rfl)] at hk
      repeat' (first | intro _ | (simp [sxa, isPtrN, PV.pcs, elAt, setEl, inAt, elIn, setIn, isLst, cellsOf, Ex.ok, Ex.val, Opd.val, POp.dst, bin_int, binOK_int, bin_str, binOK_str, resOK, resV, RB.val, sub, putc, scB, scL, oneB, conf, Ex.val.eqP, Ex.val.eqL, negV, mxV, mnV, ← wr_eq, wr_zero, wr_one, wr_m1, bst_lst, byteC, partsOK, putAll, appV, nilV, slV, sslV, optB, optNum, and_assoc, exists_and_left, exists_eq_left', li, *]) | refine CondS_d (fun h => ?_) (fun h => ?_) | refine CondS_b (fun h => ?_) (fun h => ?_) | refine GrdS_d (fun h => ?_) (fun h => ?_) | refine GrdS_b (fun h => ?_) (fun h => ?_) | refine OkS_i (by omega) ?_ | fail)
      all_goals (first | omega | exact ⟨m, by omega, by omega, rfl, hk⟩ | simp_all)
    · have b1' : Op.bytesLess x.f0.toList O[m].f0.toList = false := by simpa using b1
      by_cases b2 : x.f0 = O[m].f0
      · by_cases b3 : x.f1 < O[m].f1
        · rw [if_pos (by unfold ltLi; simp [b2, b3])] at hk
          repeat' (first | intro _ | (simp [sxa, isPtrN, PV.pcs, elAt, setEl, inAt, elIn, setIn, isLst, cellsOf, Ex.ok, Ex.val, Opd.val, POp.dst, bin_int, binOK_int, bin_str, binOK_str, resOK, resV, RB.val, sub, putc, scB, scL, oneB, conf, Ex.val.eqP, Ex.val.eqL, negV, mxV, mnV, ← wr_eq, wr_zero, wr_one, wr_m1, bst_lst, byteC, partsOK, putAll, appV, nilV, slV, sslV, optB, optNum, and_assoc, exists_and_left, exists_eq_left', li, *]) | refine CondS_d (fun h => ?_) (fun h => ?_) | refine CondS_b (fun h => ?_) (fun h => ?_) | refine GrdS_d (fun h => ?_) (fun h => ?_) | refine GrdS_b (fun h => ?_) (fun h => ?_) | refine OkS_i (by omega) ?_ | fail)
          all_goals (first | omega | exact ⟨m, by omega, by omega, rfl, hk⟩ | simp_all)
        · have hnl : ¬ ltLi x O[m] = true := by unfold ltLi bl; rw [b1']; simp [b3]
          rw [if_neg hnl] at hk
          repeat' (first | intro _ | (simp [sxa, isPtrN, PV.pcs, elAt, setEl, inAt, elIn, setIn, isLst, cellsOf, Ex.ok, Ex.val, Opd.val, POp.dst, bin_int, binOK_int, bin_str, binOK_str, resOK, resV, RB.val, sub, putc, scB, scL, oneB, conf, Ex.val.eqP, Ex.val.eqL, negV, mxV, mnV, ← wr_eq, wr_zero, wr_one, wr_m1, bst_lst, byteC, partsOK, putAll, appV, nilV, slV, sslV, optB, optNum, and_assoc, exists_and_left, exists_eq_left', li, *]) | refine CondS_d (fun h => ?_) (fun h => ?_) | refine CondS_b (fun h => ?_) (fun h => ?_) | refine GrdS_d (fun h => ?_) (fun h => ?_) | refine GrdS_b (fun h => ?_) (fun h => ?_) | refine OkS_i (by omega) ?_ | fail)
          all_goals (first | omega | simp_all)
      · have hnl : ¬ ltLi x O[m] = true := by unfold ltLi bl; rw [b1']; simp [b2]
        rw [if_neg hnl] at hk
        repeat' (first | intro _ | (simp [sxa, isPtrN, PV.pcs, elAt, setEl, inAt, elIn, setIn, isLst, cellsOf, Ex.ok, Ex.val, Opd.val, POp.dst, bin_int, binOK_int, bin_str, binOK_str, resOK, resV, RB.val, sub, putc, scB, scL, oneB, conf, Ex.val.eqP, Ex.val.eqL, negV, mxV, mnV, ← wr_eq, wr_zero, wr_one, wr_m1, bst_lst, byteC, partsOK, putAll, appV, nilV, slV, sslV, optB, optNum, and_assoc, exists_and_left, exists_eq_left', li, *]) | refine CondS_d (fun h => ?_) (fun h => ?_) | refine CondS_b (fun h => ?_) (fun h => ?_) | refine GrdS_d (fun h => ?_) (fun h => ?_) | refine GrdS_b (fun h => ?_) (fun h => ?_) | refine OkS_i (by omega) ?_ | fail)
        all_goals (first | omega | simp_all)
theorem insTo_le (D : List Li) (n : Nat) : (insTo D n).length = n := by
  induction n with
  | zero => rfl
  | succ n ih => unfold insTo; rw [(insL_perm _ _).length_eq, List.length_cons, ih]
theorem f7 (l : List Ft) (nl : Bool) (hl : l.length ≤ 1048576) (hb : ∀ x ∈ l, x.okay) : Fn Tryz.prog 7 true [.lst 5 nl (l.map ft)] (.lst 3 false ((srtL cfLi (lstD l)).map li)) := by
  rw [ins_srt (lstD_up l)]
  have ha := f24 l nl (by omega) hb
  have hal := anchors_len l
  have hdl : (lstD l).length = (anchors l).length := by unfold lstD; rw [List.length_map]
  have hfind : ∀ n, (hn : n < (anchors l).length) → ∃ k : Nat, wFind l (anchors l)[n].f0 = k ∧ k < l.length := fun n hn => an_find hn
  have hD : ∀ n, (hn : n < (anchors l).length) → (lstD l).getD n liD = liOf l (anchors l)[n] := by
    intro n hn
    simp [lstD, hn]
  have hof : ∀ x, liOf l x = ⟨(l.getD (wFind l x.f0).toNat ftD).f3, x.f0, wRef (wTile x.f1.f0 x.f1.f1)⟩ := fun _ => rfl
  obtain ⟨D, hDe⟩ : ∃ D, lstD l = D := ⟨_, rfl⟩
  rw [hDe] at hdl ⊢
  simp only [hDe] at hD
  obtain ⟨A, hA⟩ : ∃ A, anchors l = A := ⟨_, rfl⟩
  simp only [hA] at hfind hD hdl hal ha
  rw [hdl]
  clear hDe
  refine Fn.by_sx hX (by kernel_rfl) c7 (by kernel_rfl) (by rfl) ?_
  simp [i7, sxa, isPtrN, PV.pcs, elAt, setEl, inAt, elIn, setIn, isLst, cellsOf, Ex.ok, Ex.val, Opd.val, POp.dst, bin_int, binOK_int, bin_str, binOK_str, resOK, resV, RB.val, sub, putc, scB, scL, oneB, conf, Ex.val.eqP, Ex.val.eqL, negV, mxV, mnV, ← wr_eq, wr_zero, wr_one, wr_m1, bst_lst, byteC, partsOK, putAll, appV, nilV, slV, sslV, optB, optNum, and_assoc, exists_and_left, exists_eq_left']
  repeat' (first | intro _ | (simp [sxa, isPtrN, PV.pcs, elAt, setEl, inAt, elIn, setIn, isLst, cellsOf, Ex.ok, Ex.val, Opd.val, POp.dst, bin_int, binOK_int, bin_str, binOK_str, resOK, resV, RB.val, sub, putc, scB, scL, oneB, conf, Ex.val.eqP, Ex.val.eqL, negV, mxV, mnV, ← wr_eq, wr_zero, wr_one, wr_m1, bst_lst, byteC, partsOK, putAll, appV, nilV, slV, sslV, optB, optNum, and_assoc, exists_and_left, exists_eq_left', *]) | refine CallS_i (ha) ?_ | refine CallM_i (ha) ?_ | refine CallE_i (ha) ?_ | refine CallX_i (ha) ?_ | refine CallB_i (ha) ?_ | refine CondS_d (fun h => ?_) (fun h => ?_) | refine CondS_b (fun h => ?_) (fun h => ?_) | refine GrdS_d (fun h => ?_) (fun h => ?_) | refine GrdS_b (fun h => ?_) (fun h => ?_) | refine OkS_i (by omega) ?_ | fail)
  refine sx_count A.length (fun n V => V 0 = .lst 5 nl (l.map ft) ∧ V 4 = .lst 4 false (A.map pl) ∧ V 5 = i n ∧ V 3 = .lst 3 false ((insTo D n).map li)) 0 (by omega) (by simp [sxa, isPtrN, PV.pcs, elAt, setEl, inAt, elIn, setIn, isLst, cellsOf, Ex.ok, Ex.val, Opd.val, POp.dst, bin_int, binOK_int, bin_str, binOK_str, resOK, resV, RB.val, sub, putc, scB, scL, oneB, conf, Ex.val.eqP, Ex.val.eqL, negV, mxV, mnV, ← wr_eq, wr_zero, wr_one, wr_m1, bst_lst, byteC, partsOK, putAll, appV, nilV, slV, sslV, optB, optNum, and_assoc, exists_and_left, exists_eq_left', insTo]) ?_
  rintro n V hn ⟨g0, g4, g5, g3⟩
  simp [sxa, isPtrN, PV.pcs, elAt, setEl, inAt, elIn, setIn, isLst, cellsOf, Ex.ok, Ex.val, Opd.val, POp.dst, bin_int, binOK_int, bin_str, binOK_str, resOK, resV, RB.val, sub, putc, scB, scL, oneB, conf, Ex.val.eqP, Ex.val.eqL, negV, mxV, mnV, ← wr_eq, wr_zero, wr_one, wr_m1, bst_lst, byteC, partsOK, putAll, appV, nilV, slV, sslV, optB, optNum, and_assoc, exists_and_left, exists_eq_left', g4, g5]
  refine CondS_d (fun hlt => ?_) (fun hge => ?_)
  · have hlt' : n < A.length := by omega
    have hw : wr .i64 ((n : Int) + 1) = n + 1 := wr_in (by omega) (by omega)
    obtain ⟨k, hk, hkl⟩ := hfind n hlt'
    have hf := f25 l nl A[n].f0 (by omega)
    have hr := f26 A[n].f1.f0 A[n].f1.f1
    have hd := hD n hlt'
    rw [hof, hk] at hd
    rw [hk] at hf
    have hg : l.getD k ftD = l[k] := by simp [hkl]
    rw [show ((k : Int)).toNat = k from rfl, hg] at hd
    have hll := insTo_le D n
    have hs : insTo D (n + 1) = insL (D.getD n liD) (insTo D n) := rfl
    rw [hd] at hs
    obtain ⟨O, hO⟩ : ∃ O, insTo D n = O := ⟨_, rfl⟩
    rw [hO] at hs g3 hll
    clear hO hfind hD hof hk hg
    repeat' (first | intro _ | (simp [sxa, isPtrN, PV.pcs, elAt, setEl, inAt, elIn, setIn, isLst, cellsOf, Ex.ok, Ex.val, Opd.val, POp.dst, bin_int, binOK_int, bin_str, binOK_str, resOK, resV, RB.val, sub, putc, scB, scL, oneB, conf, Ex.val.eqP, Ex.val.eqL, negV, mxV, mnV, ← wr_eq, wr_zero, wr_one, wr_m1, bst_lst, byteC, partsOK, putAll, appV, nilV, slV, sslV, optB, optNum, and_assoc, exists_and_left, exists_eq_left', pl, ft, *]) | refine CallS_i (hf) ?_ | refine CallS_i (hr) ?_ | refine CallM_i (hf) ?_ | refine CallM_i (hr) ?_ | refine CallE_i (hf) ?_ | refine CallE_i (hr) ?_ | refine CallX_i (hf) ?_ | refine CallX_i (hr) ?_ | refine CallB_i (hf) ?_ | refine CallB_i (hr) ?_ | refine CondS_d (fun h => ?_) (fun h => ?_) | refine CondS_b (fun h => ?_) (fun h => ?_) | refine GrdS_d (fun h => ?_) (fun h => ?_) | refine GrdS_b (fun h => ?_) (fun h => ?_) | refine OkS_i (by omega) ?_ | fail)
    obtain ⟨X0, hX0⟩ : ∃ X0 : Li, X0 = ⟨l[k].f3, A[n].f0, wRef (wTile A[n].f1.f0 A[n].f1.f1)⟩ := ⟨_, rfl⟩
    rw [← hX0] at hs
    have x0 : l[k].f3 = X0.f0 := by rw [hX0]
    have x1 : A[n].f0 = X0.f1 := by rw [hX0]
    have x2 : wRef (wTile A[n].f1.f0 A[n].f1.f1) = X0.f2 := by rw [hX0]
    rw [x0, x1, x2]
    refine sx_mono _ _ _ _ ?_ (l7_2 (x := X0) (O := O) (by omega) (by simp [sxa, isPtrN, PV.pcs, elAt, setEl, inAt, elIn, setIn, isLst, cellsOf, Ex.ok, Ex.val, Opd.val, POp.dst, bin_int, binOK_int, bin_str, binOK_str, resOK, resV, RB.val, sub, putc, scB, scL, oneB, conf, Ex.val.eqP, Ex.val.eqL, negV, mxV, mnV, ← wr_eq, wr_zero, wr_one, wr_m1, bst_lst, byteC, partsOK, putAll, appV, nilV, slV, sslV, optB, optNum, and_assoc, exists_and_left, exists_eq_left', g3]) (by simp [sxa, isPtrN, PV.pcs, elAt, setEl, inAt, elIn, setIn, isLst, cellsOf, Ex.ok, Ex.val, Opd.val, POp.dst, bin_int, binOK_int, bin_str, binOK_str, resOK, resV, RB.val, sub, putc, scB, scL, oneB, conf, Ex.val.eqP, Ex.val.eqL, negV, mxV, mnV, ← wr_eq, wr_zero, wr_one, wr_m1, bst_lst, byteC, partsOK, putAll, appV, nilV, slV, sslV, optB, optNum, and_assoc, exists_and_left, exists_eq_left']) (by simp [sxa, isPtrN, PV.pcs, elAt, setEl, inAt, elIn, setIn, isLst, cellsOf, Ex.ok, Ex.val, Opd.val, POp.dst, bin_int, binOK_int, bin_str, binOK_str, resOK, resV, RB.val, sub, putc, scB, scL, oneB, conf, Ex.val.eqP, Ex.val.eqL, negV, mxV, mnV, ← wr_eq, wr_zero, wr_one, wr_m1, bst_lst, byteC, partsOK, putAll, appV, nilV, slV, sslV, optB, optNum, and_assoc, exists_and_left, exists_eq_left', hll]))
    rintro y V' ⟨rfl, e0, e3, e4, e5, e6, e7⟩
    have hKl := insK_le X0 O O.length
    obtain ⟨K, hK⟩ : ∃ K, insK X0 O O.length = K := ⟨_, rfl⟩
    have hins : insL X0 O = O.take K ++ X0 :: O.drop K := by unfold insL; rw [hK]
    rw [hK] at e7 hKl
    simp [sxa, isPtrN, PV.pcs, elAt, setEl, inAt, elIn, setIn, isLst, cellsOf, Ex.ok, Ex.val, Opd.val, POp.dst, bin_int, binOK_int, bin_str, binOK_str, resOK, resV, RB.val, sub, putc, scB, scL, oneB, conf, Ex.val.eqP, Ex.val.eqL, negV, mxV, mnV, ← wr_eq, wr_zero, wr_one, wr_m1, bst_lst, byteC, partsOK, putAll, appV, nilV, slV, sslV, optB, optNum, and_assoc, exists_and_left, exists_eq_left', g0, g3, g4, g5] at e0 e3 e4 e5 e6
    clear hK hX0 x0 x1 x2 hf hr hd
    repeat' (first | intro _ | (simp [sxa, isPtrN, PV.pcs, elAt, setEl, inAt, elIn, setIn, isLst, cellsOf, Ex.ok, Ex.val, Opd.val, POp.dst, bin_int, binOK_int, bin_str, binOK_str, resOK, resV, RB.val, sub, putc, scB, scL, oneB, conf, Ex.val.eqP, Ex.val.eqL, negV, mxV, mnV, ← wr_eq, wr_zero, wr_one, wr_m1, bst_lst, byteC, partsOK, putAll, appV, nilV, slV, sslV, optB, optNum, and_assoc, exists_and_left, exists_eq_left', *]) | refine CondS_d (fun h => ?_) (fun h => ?_) | refine CondS_b (fun h => ?_) (fun h => ?_) | refine GrdS_d (fun h => ?_) (fun h => ?_) | refine GrdS_b (fun h => ?_) (fun h => ?_) | refine OkS_i (by omega) ?_ | fail)
    have hsc : ∀ cs ∈ O.map li, scL cs = true := by
      intro cs h
      obtain ⟨z, _, rfl⟩ := List.mem_map.1 h
      rfl
    refine OkS_i ⟨by omega, fun cs h => hsc cs (List.mem_of_mem_take h)⟩ ?_
    have htk : List.take n (List.map li O) = List.map li O := List.take_of_length_le (by rw [List.length_map]; omega)
    repeat' (first | intro _ | (simp [sxa, isPtrN, PV.pcs, elAt, setEl, inAt, elIn, setIn, isLst, cellsOf, Ex.ok, Ex.val, Opd.val, POp.dst, bin_int, binOK_int, bin_str, binOK_str, resOK, resV, RB.val, sub, putc, scB, scL, oneB, conf, Ex.val.eqP, Ex.val.eqL, negV, mxV, mnV, ← wr_eq, wr_zero, wr_one, wr_m1, bst_lst, byteC, partsOK, putAll, appV, nilV, slV, sslV, optB, optNum, and_assoc, exists_and_left, exists_eq_left', li, *]) | refine CondS_d (fun h => ?_) (fun h => ?_) | refine CondS_b (fun h => ?_) (fun h => ?_) | refine GrdS_d (fun h => ?_) (fun h => ?_) | refine GrdS_b (fun h => ?_) (fun h => ?_) | refine OkS_i (by omega) ?_ | fail)
    refine OkS_i ⟨by omega, fun cs h => ?_, fun cs h => hsc cs (List.mem_of_mem_drop h)⟩ ?_
    · rcases h with h | rfl
      · exact hsc cs (List.mem_of_mem_take h)
      · rfl
    repeat' (first | intro _ | (simp [sxa, isPtrN, PV.pcs, elAt, setEl, inAt, elIn, setIn, isLst, cellsOf, Ex.ok, Ex.val, Opd.val, POp.dst, bin_int, binOK_int, bin_str, binOK_str, resOK, resV, RB.val, sub, putc, scB, scL, oneB, conf, Ex.val.eqP, Ex.val.eqL, negV, mxV, mnV, ← wr_eq, wr_zero, wr_one, wr_m1, bst_lst, byteC, partsOK, putAll, appV, nilV, slV, sslV, optB, optNum, and_assoc, exists_and_left, exists_eq_left', li, *]) | refine CondS_d (fun h => ?_) (fun h => ?_) | refine CondS_b (fun h => ?_) (fun h => ?_) | refine GrdS_d (fun h => ?_) (fun h => ?_) | refine GrdS_b (fun h => ?_) (fun h => ?_) | refine OkS_i (by omega) ?_ | fail)
  · have : n = A.length := by omega
    subst this
    clear hfind hD hof
    repeat' (first | intro _ | (simp [sxa, isPtrN, PV.pcs, elAt, setEl, inAt, elIn, setIn, isLst, cellsOf, Ex.ok, Ex.val, Opd.val, POp.dst, bin_int, binOK_int, bin_str, binOK_str, resOK, resV, RB.val, sub, putc, scB, scL, oneB, conf, Ex.val.eqP, Ex.val.eqL, negV, mxV, mnV, ← wr_eq, wr_zero, wr_one, wr_m1, bst_lst, byteC, partsOK, putAll, appV, nilV, slV, sslV, optB, optNum, and_assoc, exists_and_left, exists_eq_left', *]) | refine CondS_d (fun h => ?_) (fun h => ?_) | refine CondS_b (fun h => ?_) (fun h => ?_) | refine GrdS_d (fun h => ?_) (fun h => ?_) | refine GrdS_b (fun h => ?_) (fun h => ?_) | refine OkS_i (by omega) ?_ | fail)
end Go.Eng
namespace Go.Eng
open Go Go.Proofs Geo
set_option linter.unusedSimpArgs false
set_option linter.unusedVariables false
set_option maxRecDepth 20000
set_option maxHeartbeats 2000000

/-! draws of listings. WRITES -/
theorem lstD_good {l : List Ft} (h : goodL l) : goodS (srtL cfLi (lstD l)) := by
  have hal := anchors_len l
  refine ⟨by rw [srt_len swoLi]; unfold lstD; rw [List.length_map]; have := h.1; omega, fun x hx => ?_⟩
  have hx := (srt_perm swoLi (lstD l)).mem_iff.1 hx
  unfold lstD at hx
  obtain ⟨y, hy, rfl⟩ := List.mem_map.1 hx
  obtain ⟨n, hn, he⟩ := List.getElem_of_mem hy
  obtain ⟨k, hk, hkl⟩ := an_find hn
  rw [he] at hk
  unfold liOf
  show ((l.getD (wFind l y.f0).toNat ftD).f3).size ≤ 9
  rw [hk]
  have : l.getD ((k : Int)).toNat ftD = l[k] := by simp [hkl]
  rw [this]
  exact (h.2 _ (List.getElem_mem hkl)).1
theorem f32 : FnR Tryz.prog 32 true true [] (fun v => ∃ l : List Li, v = .lst 3 false (l.map li) ∧ goodS l) := by
  refine FnR.by_sxC hX (by kernel_rfl) c32 rfl rfl rfl (fun h => by cases h) ?_
  intro cs hcs
  simp [i32, sxa, isPtrN, PV.pcs, elAt, setEl, inAt, elIn, setIn, isLst, cellsOf, Ex.ok, Ex.val, Opd.val, POp.dst, bin_int, binOK_int, bin_str, binOK_str, resOK, resV, RB.val, sub, putc, scB, scL, oneB, conf, Ex.val.eqP, Ex.val.eqL, negV, mxV, mnV, ← wr_eq, wr_zero, wr_one, wr_m1, bst_lst, byteC, partsOK, putAll, appV, nilV, slV, sslV, optB, optNum, and_assoc, exists_and_left, exists_eq_left']
  repeat' (first | intro _ | (simp [sxa, isPtrN, PV.pcs, elAt, setEl, inAt, elIn, setIn, isLst, cellsOf, Ex.ok, Ex.val, Opd.val, POp.dst, bin_int, binOK_int, bin_str, binOK_str, resOK, resV, RB.val, sub, putc, scB, scL, oneB, conf, Ex.val.eqP, Ex.val.eqL, negV, mxV, mnV, ← wr_eq, wr_zero, wr_one, wr_m1, bst_lst, byteC, partsOK, putAll, appV, nilV, slV, sslV, optB, optNum, and_assoc, exists_and_left, exists_eq_left', *]) | refine ⟨by assumption, CopC_i (f51) (fun _ _ => by first | exact ⟨fun _ => rfl, (fun h => by cases h)⟩ | exact ⟨(fun h => by cases h), fun _ => ⟨_, rfl⟩⟩ | exact ⟨(fun h => by cases h), (fun h => by cases h)⟩) (fun x cs hx hcs => ?_)⟩ | refine CopC_i (f51) (fun _ _ => by first | exact ⟨fun _ => rfl, (fun h => by cases h)⟩ | exact ⟨(fun h => by cases h), fun _ => ⟨_, rfl⟩⟩ | exact ⟨(fun h => by cases h), (fun h => by cases h)⟩) (fun x cs hx hcs => ?_) | refine CondS_d (fun h => ?_) (fun h => ?_) | refine CondS_b (fun h => ?_) (fun h => ?_) | refine GrdS_d (fun h => ?_) (fun h => ?_) | refine GrdS_b (fun h => ?_) (fun h => ?_) | refine OkS_i (by omega) ?_ | fail)
  have hc := f7 x false (by have := hx.1; omega) (fun y hy => (hx.2 y hy).ok)
  have hg := lstD_good hx
  obtain ⟨G, hG⟩ : ∃ G, srtL cfLi (lstD x) = G := ⟨_, rfl⟩
  rw [hG] at hc hg
  repeat' (first | intro _ | (simp [sxa, isPtrN, PV.pcs, elAt, setEl, inAt, elIn, setIn, isLst, cellsOf, Ex.ok, Ex.val, Opd.val, POp.dst, bin_int, binOK_int, bin_str, binOK_str, resOK, resV, RB.val, sub, putc, scB, scL, oneB, conf, Ex.val.eqP, Ex.val.eqL, negV, mxV, mnV, ← wr_eq, wr_zero, wr_one, wr_m1, bst_lst, byteC, partsOK, putAll, appV, nilV, slV, sslV, optB, optNum, and_assoc, exists_and_left, exists_eq_left', *]) | refine CallS_i (hc) ?_ | refine CallM_i (hc) ?_ | refine CallE_i (hc) ?_ | refine CallX_i (hc) ?_ | refine CallB_i (hc) ?_ | refine CondS_d (fun h => ?_) (fun h => ?_) | refine CondS_b (fun h => ?_) (fun h => ?_) | refine GrdS_d (fun h => ?_) (fun h => ?_) | refine GrdS_b (fun h => ?_) (fun h => ?_) | refine OkS_i (by omega) ?_ | fail)
  all_goals exact ⟨G, rfl, hg⟩
theorem f12 (nl : Bool) (els : List (List PV)) (hce : curEls els = true) : FnR Tryz.prog 12 false true [.lst 1 nl els] (fun v => ∃ q : List Li × ByteArray, v = .tup [.lst 3 false (q.1.map li), .str q.2] ∧ (goodS q.1 ∧ smS q.2)) := by
  have hc : FnR Tryz.prog 33 true false [.lst 1 false [[.str (bs [])], [.str (bs [102])], [.str (bs [104, 105])], [.str (bs [111, 97, 107])], [.str (bs [111, 97, 107, 115])], [.str (bs [109])]]] (fun v => ∃ x : ByteArray, v = .str x ∧ smS x) :=
    (f33 [bs [], bs [102], bs [104, 105], bs [111, 97, 107], bs [111, 97, 107, 115], bs [109]] false (by decide) (by decide)).weak (fun v ⟨x, h, hh⟩ => ⟨x, h, by
      simp only [List.mem_cons, List.not_mem_nil, or_false] at hh
      rcases hh with rfl | rfl | rfl | rfl | rfl | rfl <;> (unfold smS; decide)⟩)
  refine FnR.by_sx hX (by kernel_rfl) c12 rfl (by rfl) ?_
  simp [i12, sxa, isPtrN, PV.pcs, elAt, setEl, inAt, elIn, setIn, isLst, cellsOf, Ex.ok, Ex.val, Opd.val, POp.dst, bin_int, binOK_int, bin_str, binOK_str, resOK, resV, RB.val, sub, putc, scB, scL, oneB, conf, Ex.val.eqP, Ex.val.eqL, negV, mxV, mnV, ← wr_eq, wr_zero, wr_one, wr_m1, bst_lst, byteC, partsOK, putAll, appV, nilV, slV, sslV, optB, optNum, and_assoc, exists_and_left, exists_eq_left']
  repeat' (first | intro _ | (simp [sxa, isPtrN, PV.pcs, elAt, setEl, inAt, elIn, setIn, isLst, cellsOf, Ex.ok, Ex.val, Opd.val, POp.dst, bin_int, binOK_int, bin_str, binOK_str, resOK, resV, RB.val, sub, putc, scB, scL, oneB, conf, Ex.val.eqP, Ex.val.eqL, negV, mxV, mnV, ← wr_eq, wr_zero, wr_one, wr_m1, bst_lst, byteC, partsOK, putAll, appV, nilV, slV, sslV, optB, optNum, and_assoc, exists_and_left, exists_eq_left', *]) | refine ⟨by assumption, CopC_i (f32) (fun _ _ => by first | exact ⟨fun _ => rfl, (fun h => by cases h)⟩ | exact ⟨(fun h => by cases h), fun _ => ⟨_, rfl⟩⟩ | exact ⟨(fun h => by cases h), (fun h => by cases h)⟩) (fun x cs hx hcs => ?_)⟩ | refine ⟨by assumption, CopC_i (hc) (fun _ _ => by first | exact ⟨fun _ => rfl, (fun h => by cases h)⟩ | exact ⟨(fun h => by cases h), fun _ => ⟨_, rfl⟩⟩ | exact ⟨(fun h => by cases h), (fun h => by cases h)⟩) (fun x cs hx hcs => ?_)⟩ | refine CopN_i (f31 nl els hce) (fun cs hcs => ?_) | refine CopC_i (f32) (fun _ _ => by first | exact ⟨fun _ => rfl, (fun h => by cases h)⟩ | exact ⟨(fun h => by cases h), fun _ => ⟨_, rfl⟩⟩ | exact ⟨(fun h => by cases h), (fun h => by cases h)⟩) (fun x cs hx hcs => ?_) | refine CopC_i (hc) (fun _ _ => by first | exact ⟨fun _ => rfl, (fun h => by cases h)⟩ | exact ⟨(fun h => by cases h), fun _ => ⟨_, rfl⟩⟩ | exact ⟨(fun h => by cases h), (fun h => by cases h)⟩) (fun x cs hx hcs => ?_) | refine CondS_d (fun h => ?_) (fun h => ?_) | refine CondS_b (fun h => ?_) (fun h => ?_) | refine GrdS_d (fun h => ?_) (fun h => ?_) | refine GrdS_b (fun h => ?_) (fun h => ?_) | refine OkS_i (by omega) ?_ | fail)
  all_goals exact ⟨_, rfl, by assumption⟩
theorem f14 (nl : Bool) (els : List (List PV)) (hce : curEls els = true) : FnR Tryz.prog 14 false true [.lst 1 nl els] (fun v => ∃ q : List Li × ByteArray, v = .tup [.lst 3 false (q.1.map li), .str q.2] ∧ (goodS q.1 ∧ smS q.2)) := by
  have hc : FnR Tryz.prog 33 true false [.lst 1 false [[.str (bs [97, 48])], [.str (bs [98, 48])], [.str (bs [97, 49])], [.str (bs [98, 49])], [.str (bs [])], [.str (bs [122, 57])]]] (fun v => ∃ x : ByteArray, v = .str x ∧ smS x) :=
    (f33 [bs [97, 48], bs [98, 48], bs [97, 49], bs [98, 49], bs [], bs [122, 57]] false (by decide) (by decide)).weak (fun v ⟨x, h, hh⟩ => ⟨x, h, by
      simp only [List.mem_cons, List.not_mem_nil, or_false] at hh
      rcases hh with rfl | rfl | rfl | rfl | rfl | rfl <;> (unfold smS; decide)⟩)
  refine FnR.by_sx hX (by kernel_rfl) c14 rfl (by rfl) ?_
  simp [i14, sxa, isPtrN, PV.pcs, elAt, setEl, inAt, elIn, setIn, isLst, cellsOf, Ex.ok, Ex.val, Opd.val, POp.dst, bin_int, binOK_int, bin_str, binOK_str, resOK, resV, RB.val, sub, putc, scB, scL, oneB, conf, Ex.val.eqP, Ex.val.eqL, negV, mxV, mnV, ← wr_eq, wr_zero, wr_one, wr_m1, bst_lst, byteC, partsOK, putAll, appV, nilV, slV, sslV, optB, optNum, and_assoc, exists_and_left, exists_eq_left']
  repeat' (first | intro _ | (simp [sxa, isPtrN, PV.pcs, elAt, setEl, inAt, elIn, setIn, isLst, cellsOf, Ex.ok, Ex.val, Opd.val, POp.dst, bin_int, binOK_int, bin_str, binOK_str, resOK, resV, RB.val, sub, putc, scB, scL, oneB, conf, Ex.val.eqP, Ex.val.eqL, negV, mxV, mnV, ← wr_eq, wr_zero, wr_one, wr_m1, bst_lst, byteC, partsOK, putAll, appV, nilV, slV, sslV, optB, optNum, and_assoc, exists_and_left, exists_eq_left', *]) | refine ⟨by assumption, CopC_i (f32) (fun _ _ => by first | exact ⟨fun _ => rfl, (fun h => by cases h)⟩ | exact ⟨(fun h => by cases h), fun _ => ⟨_, rfl⟩⟩ | exact ⟨(fun h => by cases h), (fun h => by cases h)⟩) (fun x cs hx hcs => ?_)⟩ | refine ⟨by assumption, CopC_i (hc) (fun _ _ => by first | exact ⟨fun _ => rfl, (fun h => by cases h)⟩ | exact ⟨(fun h => by cases h), fun _ => ⟨_, rfl⟩⟩ | exact ⟨(fun h => by cases h), (fun h => by cases h)⟩) (fun x cs hx hcs => ?_)⟩ | refine CopN_i (f31 nl els hce) (fun cs hcs => ?_) | refine CopC_i (f32) (fun _ _ => by first | exact ⟨fun _ => rfl, (fun h => by cases h)⟩ | exact ⟨(fun h => by cases h), fun _ => ⟨_, rfl⟩⟩ | exact ⟨(fun h => by cases h), (fun h => by cases h)⟩) (fun x cs hx hcs => ?_) | refine CopC_i (hc) (fun _ _ => by first | exact ⟨fun _ => rfl, (fun h => by cases h)⟩ | exact ⟨(fun h => by cases h), fun _ => ⟨_, rfl⟩⟩ | exact ⟨(fun h => by cases h), (fun h => by cases h)⟩) (fun x cs hx hcs => ?_) | refine CondS_d (fun h => ?_) (fun h => ?_) | refine CondS_b (fun h => ?_) (fun h => ?_) | refine GrdS_d (fun h => ?_) (fun h => ?_) | refine GrdS_b (fun h => ?_) (fun h => ?_) | refine OkS_i (by omega) ?_ | fail)
  all_goals exact ⟨_, rfl, by assumption⟩
end Go.Eng
namespace Go.Eng
open Go Go.Proofs Geo
set_option linter.unusedSimpArgs false
set_option linter.unusedVariables false
set_option maxRecDepth 20000
set_option maxHeartbeats 1000000

/-! anchors lie on the map -/
theorem isPt {x y : Int} (h : M_IsPoint x y = true) : (0 ≤ x ∧ x ≤ 200) ∧ (0 ≤ y ∧ y ≤ 200) := by
  unfold M_IsPoint at h; simpa using h
theorem line_pt {l : List Pt} (h : wLine l = true) {n : Nat} (hn : n < l.length) : M_IsPoint (l.getD n ⟨0, 0⟩).f0 (l.getD n ⟨0, 0⟩).f1 = true := by
  unfold wLine at h
  simp only [Bool.and_eq_true] at h
  have := allTo_get h.2 hn
  unfold okAt at this
  simp only [Bool.and_eq_true] at this
  exact this.1
theorem ring_pt {l : List Pt} (h : wRing l = true) {n : Nat} (hn : n < l.length) : M_IsPoint (l.getD n ⟨0, 0⟩).f0 (l.getD n ⟨0, 0⟩).f1 = true := by
  unfold wRing at h
  simp only [Bool.and_eq_true] at h
  have := allTo_get h.2 hn
  unfold ringAt at this
  simp only [Bool.and_eq_true] at this
  have hs := this.1
  unfold sSeg sgD at hs
  have hg : (upTo (rgAt l) l.length).getD n ⟨⟨0, 0⟩, ⟨0, 0⟩⟩ = rgAt l n := by simp [upTo_get hn]
  rw [hg] at hs
  unfold M_IsSegment at hs
  simp only [Bool.and_eq_true] at hs
  exact hs.1
theorem sXT_b {l : List Pt} {g : Pt → Int} (hg : ∀ n, n < l.length → 0 ≤ g (l.getD n ⟨0, 0⟩) ∧ g (l.getD n ⟨0, 0⟩) ≤ 200) (hl : l.length ≤ 10) : ∀ n : Nat, n ≤ l.length → 0 ≤ sXT g l n ∧ sXT g l n ≤ 200 * n := by
  intro n
  induction n with
  | zero => intro _; exact ⟨by simp [sXT], by simp [sXT]⟩
  | succ n ih =>
    intro hn
    obtain ⟨h1, h2⟩ := ih (by omega)
    obtain ⟨h3, h4⟩ := hg n (by omega)
    unfold sXT
    rw [wr_in (by omega) (by omega)]
    omega
theorem mean_b {s : Int} {n : Nat} (h0 : 0 ≤ s) (h1 : s ≤ 200 * n) (hn : 0 < n) : 0 ≤ s.tdiv n ∧ s.tdiv n ≤ 200 := by
  rw [Int.tdiv_eq_ediv_of_nonneg h0]
  refine ⟨Int.ediv_nonneg h0 (by omega), ?_⟩
  have : s / (n : Int) < 201 := Int.ediv_lt_of_lt_mul (by omega) (by omega)
  omega
theorem rMid_b {l : List Pt} (h : wRing l = true) : (0 ≤ (rMid l).f0 ∧ (rMid l).f0 ≤ 200) ∧ (0 ≤ (rMid l).f1 ∧ (rMid l).f1 ≤ 200) := by
  have h3 := wRing_len h
  have hl : l.length ≤ 10 := by
    unfold wRing at h
    simp [inR] at h
    omega
  obtain ⟨a1, a2⟩ := sXT_b (g := fun p => p.f0) (l := l) (fun n hn => (isPt (ring_pt h hn)).1) hl l.length (Nat.le_refl _)
  obtain ⟨b1, b2⟩ := sXT_b (g := fun p => p.f1) (l := l) (fun n hn => (isPt (ring_pt h hn)).2) hl l.length (Nat.le_refl _)
  have ma := mean_b a1 a2 (by omega)
  have mb := mean_b b1 b2 (by omega)
  unfold rMid
  rw [if_pos h]
  refine ⟨?_, ?_⟩
  · show 0 ≤ wr .i64 _ ∧ wr .i64 _ ≤ 200
    rw [wr_in (by omega) (by omega)]; exact ma
  · show 0 ≤ wr .i64 _ ∧ wr .i64 _ ≤ 200
    rw [wr_in (by omega) (by omega)]; exact mb
theorem anAt_b {x : Ft} (h : wFeat x = true) : isP (anAt x).f0 (anAt x).f1 = true := by
  obtain ⟨p1, p2, p3⟩ := feat_pts h
  rw [← isP_eq]
  unfold wFeat at h
  simp only [Bool.and_eq_true] at h
  have h := h.2
  unfold wShape at h
  unfold anAt
  rcases p3 with hk | hk | hk
  · rw [if_pos hk] at h
    rw [if_neg (by omega)]
    have := p2 hk
    simp only [Bool.and_eq_true] at h
    rw [this]
    exact h.2
  · rw [if_neg (by omega), if_pos hk] at h
    rw [if_neg (by omega)]
    unfold wSimple at h
    simp only [Bool.and_eq_true] at h
    exact line_pt h.1 (by omega)
  · rw [if_neg (by omega), if_neg (by omega), if_pos hk] at h
    rw [if_pos hk]
    have := rMid_b h
    unfold M_IsPoint
    simp only [Bool.and_eq_true, decide_eq_true_eq]
    exact this
end Go.Eng
namespace Go.Eng
open Go Go.Proofs Geo
set_option linter.unusedSimpArgs false
set_option linter.unusedVariables false
set_option maxRecDepth 20000
set_option maxHeartbeats 1000000

/-! what the list of names holds -/
theorem wRef_ne {n : Int} (h : 0 ≤ n ∧ n ≤ 440) : ¬ wRef n = bs [] := fun hh => by
  have := congrArg ByteArray.size hh
  unfold wRef at this
  rw [if_pos h, ByteArray.size_append] at this
  change 1 + _ = 0 at this
  omega
theorem gz_ref {l : List Ft} {x : Li} (hx : x ∈ lstD l) : ¬ x.f2 = bs [] := by
  unfold lstD anchors at hx
  obtain ⟨y, hy, rfl⟩ := List.mem_map.1 hx
  split at hy
  · rename_i h
    obtain ⟨j, hj, _, rfl⟩ := an_mem l.length (Nat.le_refl _) y hy
    have hp := anAt_b (src_feat h hj)
    show ¬ wRef (wTile (anAt l[j]).f0 (anAt l[j]).f1) = bs []
    have hh : (0 ≤ (anAt l[j]).f0 ∧ (anAt l[j]).f0 ≤ 200) ∧ (0 ≤ (anAt l[j]).f1 ∧ (anAt l[j]).f1 ≤ 200) := by simpa [isP, inR] using hp
    refine wRef_ne ?_
    unfold wTile
    rw [if_pos hp]
    omega
  · cases hy
theorem gz_ne (l : List Ft) : (srtL cfLi (lstD l)).Pairwise fun a b => a.f1 ≠ b.f1 := by
  refine List.Perm.pairwise (srt_perm swoLi (lstD l)).symm ((lstD_up l).imp fun h => by omega) ?_
  intro a b h; exact Ne.symm h
theorem gz_lt {l : List Ft} {n : Nat} (hn : n + 1 < (srtL cfLi (lstD l)).length) : ltLi (srtL cfLi (lstD l))[n] (srtL cfLi (lstD l))[n + 1] = true := by
  have h1 := List.pairwise_iff_getElem.1 (gz_ne l) n (n + 1) (by omega) hn (by omega)
  have h2 := List.pairwise_iff_getElem.1 (srt_sorted swoLi (lstD l)) n (n + 1) (by omega) hn (by omega)
  rw [lt_cf] at h2
  cases h : ltLi (srtL cfLi (lstD l))[n] (srtL cfLi (lstD l))[n + 1]
  · exact absurd (ltLi_tri h h2).2 h1
  · rfl
theorem fnTo_mem {l : List Li} {nm : ByteArray} : ∀ n, n ≤ l.length → ∀ k, k < n → (l.getD k liD).f0 = nm → (l.getD k liD).f1 ∈ fnTo l nm n := by
  intro n
  induction n with
  | zero => intro _ k hk; omega
  | succ n ih =>
    intro hn k hk he
    unfold fnTo
    rcases Nat.lt_or_ge k n with h | h
    · exact List.mem_append_left _ (ih (by omega) k h he)
    · obtain rfl : k = n := by omega
      rw [if_pos he]
      exact List.mem_append_right _ (List.mem_singleton.2 rfl)
end Go.Eng
namespace Go.Eng
open Go Go.Proofs Geo
set_option linter.unusedSimpArgs false
set_option linter.unusedVariables false
set_option maxRecDepth 20000
set_option maxHeartbeats 4000000

/-! gazettes: the law's loops. WRITES -/
theorem lt_cases {x y : Li} (h : ltLi x y = true) : (Op.bytesLess x.f0.toList y.f0.toList = true ∧ ¬ x.f0 = y.f0) ∨ (Op.bytesLess x.f0.toList y.f0.toList = false ∧ x.f0 = y.f0 ∧ ¬ y.f1 ≤ x.f1) := by
  by_cases hb : bl x.f0 y.f0 = true
  · exact .inl ⟨hb, fun e => by rw [e, bl_irr] at hb; cases hb⟩
  · have hb : bl x.f0 y.f0 = false := by simpa using hb
    unfold ltLi at h
    rw [hb] at h
    simp at h
    exact .inr ⟨hb, h.1, by omega⟩
theorem l3_0 {G : List Li} {V : Env} (hG : G.length ≤ 16) (hlt : ∀ n, (hn : n + 1 < G.length) → ltLi G[n] G[n + 1] = true) (href : ∀ y ∈ G, ¬ y.f2 = bs [])
    (h4 : V 4 = .lst 3 false (G.map li)) (h5 : V 5 = i 0) : sx (FC Tryz.prog) (.loop (.seq (.seq (.ops [s 37 (.mv (t 5)),
  s 38 (.mv (t 4)),
  s 39 (.len false (t 38)),
  s 40 (.bin .lss (t 37) (t 39))])
 (.cond (t 40) .skip (.exit 0)))
 (.seq (.block 1 (.seq (.ops [s 43 (.mv (t 4)),
  s 44 (.mv (t 4)),
  s 45 (.mv (t 5)),
  s 46 (.idx (t 44) (t 45) 3),
  s 47 (.mv (t 46)),
  s 48 (.ldE 44 47 0 1 false true 3),
  k 49 11 [(t 43), (t 48)] .lin,
  s 50 (.mv (t 4)),
  s 51 (.mv (t 5)),
  s 52 (.idx (t 50) (t 51) 3),
  s 53 (.mv (t 52)),
  s 54 (.ldE 50 53 1 1 false true 3),
  k 55 10 [(t 49), (t 54)] .sc,
  s 56 (.not (t 55)),
  s 57 (.mv (t 56)),
  sg [(57, false)] 58 (.mv (t 4)),
  sg [(57, false)] 59 (.mv (t 5)),
  sg [(57, false)] 60 (.idx (t 58) (t 59) 3),
  sg [(57, false)] 61 (.mv (t 60)),
  sg [(57, false)] 62 (.ldE 58 61 2 1 false true 3),
  sg [(57, false)] 63 (.bin .eql (t 62) (c (.str (bs [])))),
  s 64 (.pick (t 57) (c (.bool true)) (t 63)),
  s 65 (.mv (t 64)),
  sg [(65, false)] 66 (.mv (t 5)),
  sg [(65, false)] 67 (.bin .gtr (t 66) (c (i 0))),
  sg [(65, false)] 68 (.mv (t 67)),
  sg [(68, true), (65, false)] 69 (.mv (t 4)),
  sg [(68, true), (65, false)] 70 (.mv (t 5)),
  sg [(68, true), (65, false)] 71 (.bin .sub (t 70) (c (i 1))),
  sg [(68, true), (65, false)] 72 (.idx (t 69) (t 71) 3),
  sg [(68, true), (65, false)] 73 (.mv (t 72)),
  sg [(68, true), (65, false)] 74 (.ldE 69 73 0 1 false true 3),
  sg [(68, true), (65, false)] 75 (.mv (t 4)),
  sg [(68, true), (65, false)] 76 (.mv (t 5)),
  sg [(68, true), (65, false)] 77 (.idx (t 75) (t 76) 3),
  sg [(68, true), (65, false)] 78 (.mv (t 77)),
  sg [(68, true), (65, false)] 79 (.ldE 75 78 0 1 false true 3),
  sg [(68, true), (65, false)] 80 (.bin .gtr (t 74) (t 79)),
  sg [(68, true), (65, false)] 81 (.mv (t 80)),
  sg [(81, false), (68, true), (65, false)] 82 (.mv (t 4)),
  sg [(81, false), (68, true), (65, false)] 83 (.mv (t 5)),
  sg [(81, false), (68, true), (65, false)] 84 (.bin .sub (t 83) (c (i 1))),
  sg [(81, false), (68, true), (65, false)] 85 (.idx (t 82) (t 84) 3),
  sg [(81, false), (68, true), (65, false)] 86 (.mv (t 85)),
  sg [(81, false), (68, true), (65, false)] 87 (.ldE 82 86 0 1 false true 3),
  sg [(81, false), (68, true), (65, false)] 88 (.mv (t 4)),
  sg [(81, false), (68, true), (65, false)] 89 (.mv (t 5)),
  sg [(81, false), (68, true), (65, false)] 90 (.idx (t 88) (t 89) 3),
  sg [(81, false), (68, true), (65, false)] 91 (.mv (t 90)),
  sg [(81, false), (68, true), (65, false)] 92 (.ldE 88 91 0 1 false true 3),
  sg [(81, false), (68, true), (65, false)] 93 (.bin .eql (t 87) (t 92)),
  sg [(81, false), (68, true), (65, false)] 94 (.mv (t 93)),
  sg [(94, true), (81, false), (68, true), (65, false)] 95 (.mv (t 4)),
  sg [(94, true), (81, false), (68, true), (65, false)] 96 (.mv (t 5)),
  sg [(94, true), (81, false), (68, true), (65, false)] 97 (.bin .sub (t 96) (c (i 1))),
  sg [(94, true), (81, false), (68, true), (65, false)] 98 (.idx (t 95) (t 97) 3),
  sg [(94, true), (81, false), (68, true), (65, false)] 99 (.mv (t 98)),
  sg [(94, true), (81, false), (68, true), (65, false)] 100 (.ldE 95 99 1 1 false true 3),
  sg [(94, true), (81, false), (68, true), (65, false)] 101 (.mv (t 4)),
  sg [(94, true), (81, false), (68, true), (65, false)] 102 (.mv (t 5)),
  sg [(94, true), (81, false), (68, true), (65, false)] 103 (.idx (t 101) (t 102) 3),
  sg [(94, true), (81, false), (68, true), (65, false)] 104 (.mv (t 103)),
  sg [(94, true), (81, false), (68, true), (65, false)] 105 (.ldE 101 104 1 1 false true 3),
  sg [(94, true), (81, false), (68, true), (65, false)] 106 (.bin .geq (t 100) (t 105)),
  sg [(81, false), (68, true), (65, false)] 107 (.pick (t 94) (t 106) (c (.bool false))),
  sg [(68, true), (65, false)] 108 (.pick (t 81) (c (.bool true)) (t 107)),
  sg [(65, false)] 109 (.pick (t 68) (t 108) (c (.bool false))),
  s 110 (.pick (t 65) (c (.bool true)) (t 109))])
 (.cond (t 110) (.seq (.ops [s 2 (.mv (c (.bool false)))])
 .ret) .skip)))
 (.ops [s 41 (.mv (t 5)),
  s 42 (.bin .add (t 41) (c (i 1))),
  s 5 (.mv (t 42))])))) (fun y V' => y = .exit 0 ∧ V' 0 = V 0) V := by
  refine sx_count G.length (fun n V' => V' 0 = V 0 ∧ V' 4 = .lst 3 false (G.map li) ∧ V' 5 = i n) 0 (by omega) ⟨rfl, h4, h5⟩ ?_
  rintro n V' hn ⟨g0, g4, g5⟩
  clear h4 h5
  obtain ⟨v0, hv0⟩ : ∃ v0, V 0 = v0 := ⟨_, rfl⟩
  rw [hv0] at g0 ⊢
  rcases Nat.lt_or_ge n G.length with hl | hl
  · have hI : (n : Int) < G.length := by omega
    have hw : wr .i64 ((n : Int) + 1) = n + 1 := wr_in (by omega) (by omega)
    have cF := f11 G false G[n].f0 (by omega)
    have hm := fnTo_mem (l := G) (nm := G[n].f0) G.length (Nat.le_refl _) n hl (by simp [hl])
    have hml := fnTo_len G G[n].f0 G.length
    rw [show (G.getD n liD).f1 = G[n].f1 by simp [hl]] at hm
    obtain ⟨R, hR⟩ : ∃ R, fnTo G G[n].f0 G.length = R := ⟨_, rfl⟩
    rw [hR] at cF hm hml
    have cC := f10 R false G[n].f1 (by omega)
    rw [decide_eq_true hm] at cC
    have hr := href _ (List.getElem_mem hl)
    clear hm hR href
    cases n with
    | zero =>
      clear hlt
      repeat' (first | intro _ | (simp [sxa, isPtrN, PV.pcs, elAt, setEl, inAt, elIn, setIn, isLst, cellsOf, Ex.ok, Ex.val, Opd.val, POp.dst, bin_int, binOK_int, bin_str, binOK_str, resOK, resV, RB.val, sub, putc, scB, scL, oneB, conf, Ex.val.eqP, Ex.val.eqL, negV, mxV, mnV, ← wr_eq, wr_zero, wr_one, wr_m1, bst_lst, byteC, partsOK, putAll, appV, nilV, slV, sslV, optB, optNum, and_assoc, exists_and_left, exists_eq_left', li, *]) | refine CallS_i (cF) ?_ | refine CallS_i (cC) ?_ | refine CallM_i (cF) ?_ | refine CallM_i (cC) ?_ | refine CallE_i (cF) ?_ | refine CallE_i (cC) ?_ | refine CallX_i (cF) ?_ | refine CallX_i (cC) ?_ | refine CallB_i (cF) ?_ | refine CallB_i (cC) ?_ | refine CondS_d (fun h => ?_) (fun h => ?_) | refine CondS_b (fun h => ?_) (fun h => ?_) | refine GrdS_d (fun h => ?_) (fun h => ?_) | refine GrdS_b (fun h => ?_) (fun h => ?_) | refine OkS_i (by omega) ?_ | fail)
      all_goals trace_state
    | succ m =>
      have hlm := hlt m hl
      have hm0 : m < G.length := by omega
      have hw2 : wr .i64 (((m + 1 : Nat) : Int) - 1) = m := by rw [wr_in (by omega) (by omega)]; omega
      have hpos : (0 : Int) < ((m + 1 : Nat) : Int) := by omega
      clear hlt
      obtain ⟨N, hN⟩ : ∃ N : Int, ((m + 1 : Nat) : Int) = N := ⟨_, rfl⟩
      have hNt : N.toNat = m + 1 := by omega
      have hNn : ¬ N < 0 := by omega
      have hN0 : 0 ≤ N := by omega
      rw [hN] at hw hw2 hpos hI g5
      rcases lt_cases hlm with ⟨b1, b2⟩ | ⟨b1, b2, b3⟩
      · clear hlm
        repeat' (first | intro _ | (simp [sxa, isPtrN, PV.pcs, elAt, setEl, inAt, elIn, setIn, isLst, cellsOf, Ex.ok, Ex.val, Opd.val, POp.dst, bin_int, binOK_int, bin_str, binOK_str, resOK, resV, RB.val, sub, putc, scB, scL, oneB, conf, Ex.val.eqP, Ex.val.eqL, negV, mxV, mnV, ← wr_eq, wr_zero, wr_one, wr_m1, bst_lst, byteC, partsOK, putAll, appV, nilV, slV, sslV, optB, optNum, and_assoc, exists_and_left, exists_eq_left', li, *]) | refine CallS_i (cF) ?_ | refine CallS_i (cC) ?_ | refine CallM_i (cF) ?_ | refine CallM_i (cC) ?_ | refine CallE_i (cF) ?_ | refine CallE_i (cC) ?_ | refine CallX_i (cF) ?_ | refine CallX_i (cC) ?_ | refine CallB_i (cF) ?_ | refine CallB_i (cC) ?_ | refine CondS_d (fun h => ?_) (fun h => ?_) | refine CondS_b (fun h => ?_) (fun h => ?_) | refine GrdS_d (fun h => ?_) (fun h => ?_) | refine GrdS_b (fun h => ?_) (fun h => ?_) | refine OkS_i (by omega) ?_ | fail)
        all_goals trace_state
      · clear hlm
        repeat' (first | intro _ | (simp [sxa, isPtrN, PV.pcs, elAt, setEl, inAt, elIn, setIn, isLst, cellsOf, Ex.ok, Ex.val, Opd.val, POp.dst, bin_int, binOK_int, bin_str, binOK_str, resOK, resV, RB.val, sub, putc, scB, scL, oneB, conf, Ex.val.eqP, Ex.val.eqL, negV, mxV, mnV, ← wr_eq, wr_zero, wr_one, wr_m1, bst_lst, byteC, partsOK, putAll, appV, nilV, slV, sslV, optB, optNum, and_assoc, exists_and_left, exists_eq_left', li, *]) | refine CallS_i (cF) ?_ | refine CallS_i (cC) ?_ | refine CallM_i (cF) ?_ | refine CallM_i (cC) ?_ | refine CallE_i (cF) ?_ | refine CallE_i (cC) ?_ | refine CallX_i (cF) ?_ | refine CallX_i (cC) ?_ | refine CallB_i (cF) ?_ | refine CallB_i (cC) ?_ | refine CondS_d (fun h => ?_) (fun h => ?_) | refine CondS_b (fun h => ?_) (fun h => ?_) | refine GrdS_d (fun h => ?_) (fun h => ?_) | refine GrdS_b (fun h => ?_) (fun h => ?_) | refine OkS_i (by omega) ?_ | fail)
        all_goals trace_state
  · have : n = G.length := by omega
    subst this
    repeat' (first | intro _ | (simp [sxa, isPtrN, PV.pcs, elAt, setEl, inAt, elIn, setIn, isLst, cellsOf, Ex.ok, Ex.val, Opd.val, POp.dst, bin_int, binOK_int, bin_str, binOK_str, resOK, resV, RB.val, sub, putc, scB, scL, oneB, conf, Ex.val.eqP, Ex.val.eqL, negV, mxV, mnV, ← wr_eq, wr_zero, wr_one, wr_m1, bst_lst, byteC, partsOK, putAll, appV, nilV, slV, sslV, optB, optNum, and_assoc, exists_and_left, exists_eq_left', *]) | refine CondS_d (fun h => ?_) (fun h => ?_) | refine CondS_b (fun h => ?_) (fun h => ?_) | refine GrdS_d (fun h => ?_) (fun h => ?_) | refine GrdS_b (fun h => ?_) (fun h => ?_) | refine OkS_i (by omega) ?_ | fail)
theorem l3_2 {S : List Li} {p : ByteArray} {V : Env} (hS : S.length ≤ 16) (hp : p.size ≤ 9) (hx : ∀ x ∈ S, hasPre x.f0 p = true ∧ x.f0.size ≤ 9) (h7 : V 7 = .str p)
    (h8 : V 8 = .lst 3 false (S.map li)) (h9 : V 9 = i 0) : sx (FC Tryz.prog) (.loop (.seq (.seq (.ops [s 119 (.mv (t 9)),
  s 120 (.mv (t 8)),
  s 121 (.len false (t 120)),
  s 122 (.bin .lss (t 119) (t 121))])
 (.cond (t 122) .skip (.exit 2)))
 (.seq (.block 3 (.seq (.ops [s 125 (.mv (t 8)),
  s 126 (.mv (t 9)),
  s 127 (.idx (t 125) (t 126) 3),
  s 128 (.mv (t 127)),
  s 129 (.ldE 125 128 0 1 false true 3),
  s 130 (.mv (t 7)),
  s 131 (.len true (t 130)),
  s 132 (.ssl (t 129) none (some (t 131))),
  s 133 (.mv (t 7)),
  s 134 (.bin .neq (t 132) (t 133))])
 (.cond (t 134) (.seq (.ops [s 2 (.mv (c (.bool false)))])
 .ret) .skip)))
 (.ops [s 123 (.mv (t 9)),
  s 124 (.bin .add (t 123) (c (i 1))),
  s 9 (.mv (t 124))])))) (fun y V' => y = .exit 2 ∧ V' 0 = V 0 ∧ V' 6 = V 6 ∧ V' 8 = V 8) V := by
  refine sx_count S.length (fun n V' => V' 0 = V 0 ∧ V' 6 = V 6 ∧ V' 7 = .str p ∧ V' 8 = .lst 3 false (S.map li) ∧ V' 9 = i n) 0 (by omega) ⟨rfl, rfl, h7, h8, h9⟩ ?_
  rintro n V' hn ⟨g0, g6, g7, g8, g9⟩
  rw [h8]
  clear h7 h8 h9
  obtain ⟨v0, hv0⟩ : ∃ v0, V 0 = v0 := ⟨_, rfl⟩
  obtain ⟨v6, hv6⟩ : ∃ v6, V 6 = v6 := ⟨_, rfl⟩
  rw [hv0] at g0 ⊢
  rw [hv6] at g6 ⊢
  rcases Nat.lt_or_ge n S.length with hl | hl
  · have hI : (n : Int) < S.length := by omega
    have hw : wr .i64 ((n : Int) + 1) = n + 1 := wr_in (by omega) (by omega)
    obtain ⟨q1, q2⟩ := hx _ (List.getElem_mem hl)
    unfold hasPre at q1
    simp only [Bool.and_eq_true, decide_eq_true_eq] at q1
    obtain ⟨q3, q4⟩ := q1
    have q5 : (p.size : Int) ≤ S[n].f0.size := by omega
    clear hx
    repeat' (first | intro _ | (simp [sxa, isPtrN, PV.pcs, elAt, setEl, inAt, elIn, setIn, isLst, cellsOf, Ex.ok, Ex.val, Opd.val, POp.dst, bin_int, binOK_int, bin_str, binOK_str, resOK, resV, RB.val, sub, putc, scB, scL, oneB, conf, Ex.val.eqP, Ex.val.eqL, negV, mxV, mnV, ← wr_eq, wr_zero, wr_one, wr_m1, bst_lst, byteC, partsOK, putAll, appV, nilV, slV, sslV, optB, optNum, and_assoc, exists_and_left, exists_eq_left', li, *]) | refine CondS_d (fun h => ?_) (fun h => ?_) | refine CondS_b (fun h => ?_) (fun h => ?_) | refine GrdS_d (fun h => ?_) (fun h => ?_) | refine GrdS_b (fun h => ?_) (fun h => ?_) | refine OkS_i (by omega) ?_ | fail)
    all_goals trace_state
  · have : n = S.length := by omega
    subst this
    repeat' (first | intro _ | (simp [sxa, isPtrN, PV.pcs, elAt, setEl, inAt, elIn, setIn, isLst, cellsOf, Ex.ok, Ex.val, Opd.val, POp.dst, bin_int, binOK_int, bin_str, binOK_str, resOK, resV, RB.val, sub, putc, scB, scL, oneB, conf, Ex.val.eqP, Ex.val.eqL, negV, mxV, mnV, ← wr_eq, wr_zero, wr_one, wr_m1, bst_lst, byteC, partsOK, putAll, appV, nilV, slV, sslV, optB, optNum, and_assoc, exists_and_left, exists_eq_left', *]) | refine CondS_d (fun h => ?_) (fun h => ?_) | refine CondS_b (fun h => ?_) (fun h => ?_) | refine GrdS_d (fun h => ?_) (fun h => ?_) | refine GrdS_b (fun h => ?_) (fun h => ?_) | refine OkS_i (by omega) ?_ | fail)
end Go.Eng
namespace Go.Eng
open Go Go.Lib
set_option linter.unusedSimpArgs false
set_option linter.unusedVariables false

/-! what slices.Compact leaves of a sorted list; how many a list holds -/
section
variable {α : Type} [Inhabited α] [DecidableEq α]
theorem getB {d : List α} {k : Nat} (h : k < d.length) : d.toArray[k]! = d[k] := by simp [h]
theorem compactTo_mem (d : List α) : ∀ n, n ≤ d.length → ∀ x, x ∈ compactUpTo d.toArray n ↔ ∃ k, k < n ∧ d[k]? = some x := by
  intro n
  induction n with
  | zero => intro _ x; simp [compactUpTo]
  | succ n ih =>
    intro hn x
    have ih := ih (by omega)
    rw [compactUpTo_succ, List.mem_append, ih]
    have hg := getB (d := d) (k := n) (by omega)
    have hdn : d[n]? = some d[n] := List.getElem?_eq_getElem (by omega)
    constructor
    · rintro (⟨k, h1, h2⟩ | h)
      · exact ⟨k, by omega, h2⟩
      · by_cases hk : keeps d.toArray n = true
        · rw [if_pos hk] at h
          simp only [List.mem_singleton] at h
          exact ⟨n, by omega, by rw [h, hg, hdn]⟩
        · rw [if_neg hk] at h; cases h
    · rintro ⟨k, h1, h2⟩
      by_cases hkn : k < n
      · exact .inl ⟨k, hkn, h2⟩
      · obtain rfl : k = n := by omega
        rw [hdn] at h2
        simp only [Option.some.injEq] at h2
        by_cases hk : keeps d.toArray k = true
        · right; rw [if_pos hk, hg, h2]; simp
        · left
          have hk0 : 0 < k := by
            rcases Nat.eq_zero_or_pos k with h0 | h0
            · exfalso; apply hk; subst h0; simp [keeps]
            · exact h0
          have heq : d.toArray[k]! = d.toArray[k - 1]! := by
            by_cases hh : d.toArray[k]! = d.toArray[k - 1]!
            · exact hh
            · exact absurd (keeps_pos hh) hk
          rw [hg, getB (by omega), h2] at heq
          exact ⟨k - 1, by omega, by rw [List.getElem?_eq_getElem (by omega), ← heq]⟩
theorem compact_mem (d : List α) (x : α) : x ∈ compact d ↔ x ∈ d := by
  unfold compact
  rw [compactTo_mem d _ (Nat.le_refl _), List.mem_iff_getElem?]
  constructor
  · rintro ⟨k, _, h⟩; exact ⟨k, h⟩
  · rintro ⟨k, h⟩
    have hk : k < d.length := by
      rcases Nat.lt_or_ge k d.length with h0 | h0
      · exact h0
      · rw [List.getElem?_eq_none h0] at h; cases h
    exact ⟨k, hk, h⟩
theorem compactTo_pw {R : α → α → Prop} (anti : ∀ x y, R x y → R y x → x = y) {d : List α} (hs : d.Pairwise R) : ∀ n, n ≤ d.length → (compactUpTo d.toArray n).Pairwise fun x y => R x y ∧ x ≠ y := by
  intro n
  induction n with
  | zero => intro _; simp [compactUpTo]
  | succ n ih =>
    intro hn
    have ih := ih (by omega)
    rw [compactUpTo_succ, List.pairwise_append]
    refine ⟨ih, by split <;> simp, fun x hx y hy => ?_⟩
    by_cases hk : keeps d.toArray n = true
    case neg => rw [if_neg hk] at hy; cases hy
    rw [if_pos hk] at hy
    simp only [List.mem_singleton] at hy
    rw [getB (by omega)] at hy
    obtain ⟨k, h1, h2⟩ := (compactTo_mem d n (by omega) x).1 hx
    rw [List.getElem?_eq_getElem (by omega)] at h2
    simp only [Option.some.injEq] at h2
    rw [List.pairwise_iff_getElem] at hs
    have hR := hs k n (by omega) (by omega) h1
    subst hy
    rw [h2] at hR
    refine ⟨hR, fun heq => ?_⟩
    have hne : d[n] ≠ d[n - 1]'(by omega) := by
      simp only [keeps, decide_eq_true_eq] at hk
      rcases hk with h0 | h0
      · omega
      · rwa [getB (by omega), getB (by omega)] at h0
    by_cases hkl : k = n - 1
    · subst hkl
      exact hne (heq.symm.trans h2.symm)
    · have r1 := hs k (n - 1) (by omega) (by omega) (by omega)
      have r2 := hs (n - 1) n (by omega) (by omega) (by omega)
      rw [h2, heq] at r1
      exact hne (anti _ _ r1 r2)
theorem compact_pw {R : α → α → Prop} (anti : ∀ x y, R x y → R y x → x = y) {d : List α} (hs : d.Pairwise R) : (compact d).Pairwise fun x y => R x y ∧ x ≠ y := compactTo_pw anti hs _ (Nat.le_refl _)
theorem compact_nodup {R : α → α → Prop} (anti : ∀ x y, R x y → R y x → x = y) {d : List α} (hs : d.Pairwise R) : (compact d).Nodup := (compact_pw anti hs).imp fun h => h.2

/-- the first of each -/
def dL (l : List α) : Nat → List α
  | 0 => []
  | n + 1 => if l.getD n default ∈ dL l n then dL l n else dL l n ++ [l.getD n default]
theorem dL_mem (l : List α) : ∀ n x, x ∈ dL l n ↔ ∃ k, k < n ∧ l.getD k default = x := by
  intro n
  induction n with
  | zero => intro x; simp [dL]
  | succ n ih =>
    intro x
    unfold dL
    split
    · rename_i h
      rw [ih]
      constructor
      · rintro ⟨k, h1, h2⟩; exact ⟨k, by omega, h2⟩
      · rintro ⟨k, h1, h2⟩
        by_cases hk : k < n
        · exact ⟨k, hk, h2⟩
        · obtain rfl : k = n := by omega
          rw [ih] at h
          obtain ⟨j, h3, h4⟩ := h
          exact ⟨j, h3, h4.trans h2⟩
    · rename_i h
      rw [List.mem_append, ih]
      constructor
      · rintro (⟨k, h1, h2⟩ | h)
        · exact ⟨k, by omega, h2⟩
        · simp only [List.mem_singleton] at h
          exact ⟨n, by omega, h.symm⟩
      · rintro ⟨k, h1, h2⟩
        by_cases hk : k < n
        · exact .inl ⟨k, hk, h2⟩
        · obtain rfl : k = n := by omega
          right; rw [List.mem_singleton]; exact h2.symm
theorem dL_nodup (l : List α) : ∀ n, (dL l n).Nodup := by
  intro n
  induction n with
  | zero => simp [dL]
  | succ n ih =>
    unfold dL
    split
    · exact ih
    · rename_i h
      rw [List.nodup_append]
      exact ⟨ih, by simp, fun a ha b hb => by simp only [List.mem_singleton] at hb; subst hb; exact fun e => h (e ▸ ha)⟩
theorem dL_len (l : List α) (n : Nat) : (dL l n).length ≤ n := by
  induction n with
  | zero => simp [dL]
  | succ n ih =>
    unfold dL
    split
    · omega
    · rw [List.length_append, List.length_singleton]; omega
theorem dL_compact {R : α → α → Prop} (anti : ∀ x y, R x y → R y x → x = y) {l d : List α} (hp : d.Perm l) (hs : d.Pairwise R) : (compact d).length = (dL l l.length).length := by
  refine List.Perm.length_eq ((List.perm_ext_iff_of_nodup (compact_nodup anti hs) (dL_nodup _ _)).2 fun x => ?_)
  rw [compact_mem, hp.mem_iff, dL_mem, List.mem_iff_getElem?]
  constructor
  · rintro ⟨k, h⟩
    have hk : k < l.length := by
      rcases Nat.lt_or_ge k l.length with h0 | h0
      · exact h0
      · rw [List.getElem?_eq_none h0] at h; cases h
    exact ⟨k, hk, by rw [List.getD_eq_getElem?_getD, h]; rfl⟩
  · rintro ⟨k, hk, h⟩
    exact ⟨k, by rw [List.getElem?_eq_getElem hk, ← h]; simp [hk]⟩
end
theorem strs_sorted (l : List (List UInt8)) : (l.mergeSort fun x y => decide (x ≤ y)).Pairwise fun x y => x ≤ y :=
  (List.pairwise_mergeSort (le := fun x y : List UInt8 => decide (x ≤ y)) (fun a b c h1 h2 => by simp only [decide_eq_true_eq] at *; exact List.le_trans h1 h2) (fun a b => by simp only [Bool.or_eq_true, decide_eq_true_eq]; exact List.le_total a b) l).imp fun h => of_decide_eq_true h
end Go.Eng
namespace Go.Eng
open Go Go.Proofs Go.Shelf
set_option linter.unusedSimpArgs false
set_option linter.unusedVariables false
set_option maxRecDepth 20000
set_option maxHeartbeats 1000000

/-! slices.Sort, slices.Compact at strings. WRITES -/
def rhoSortS : Ren := ⟨fun n => if n = 6 then 29 else if n = 8 then 41 else if n = 9 then 50 else if n = 19 then 67 else if n = 20 then 68 else if n = 21 then 80 else if n = 22 then 81 else if n = 23 then 82 else if n = 24 then 83 else if n = 25 then 84 else if n = 26 then 85 else if n = 27 then 86 else if n = 28 then 87 else if n = 29 then 88 else if n = 31 then 96 else if n = 32 then 97 else if n = 36 then 111 else if n = 37 then 112 else if n = 38 then 113 else if n = 39 then 42 else if n = 41 then 130 else 0, fun n => if n = 0 then 0 else if n = 3 then 3 else if n = 4 then 4 else if n = 5 then 5 else if n = 9 then 9 else if n = 26 then 39 else if n = 27 then 39 else if n = 29 then 9 else if n = 32 then 72 else if n = 35 then 88 else if n = 36 then 89 else if n = 41 then 93 else if n = 44 then 96 else if n = 46 then 98 else if n = 53 then 116 else if n = 57 then 120 else if n = 63 then 131 else if n = 64 then 132 else 0, fun n => n⟩
theorem LSortS : SlLaysM.n6 Tryz.prog rhoSortS where
  mixed := by kernel_rfl
  f6 := ⟨fnm Tryz.prog 29, by kernel_rfl, by kernel_rfl⟩
  f8 := by kernel_rfl
  f9 := ⟨fnm Tryz.prog 50, by kernel_rfl, by kernel_rfl⟩
  f19 := by kernel_rfl
  f20 := by kernel_rfl
  f21 := ⟨fnm Tryz.prog 80, by kernel_rfl, by kernel_rfl⟩
  f22 := ⟨fnm Tryz.prog 81, by kernel_rfl, by kernel_rfl⟩
  f23 := ⟨fnm Tryz.prog 82, by kernel_rfl, by kernel_rfl⟩
  f24 := ⟨fnm Tryz.prog 83, by kernel_rfl, by kernel_rfl⟩
  f25 := ⟨fnm Tryz.prog 84, by kernel_rfl, by kernel_rfl⟩
  f26 := ⟨fnm Tryz.prog 85, by kernel_rfl, by kernel_rfl⟩
  f27 := ⟨fnm Tryz.prog 86, by kernel_rfl, by kernel_rfl⟩
  f28 := ⟨fnm Tryz.prog 87, by kernel_rfl, by kernel_rfl⟩
  f29 := ⟨fnm Tryz.prog 88, by kernel_rfl, by kernel_rfl⟩
  f31 := by kernel_rfl
  f32 := by kernel_rfl
  f36 := ⟨fnm Tryz.prog 111, by kernel_rfl, by kernel_rfl⟩
  f37 := ⟨fnm Tryz.prog 112, by kernel_rfl, by kernel_rfl⟩
  f38 := ⟨fnm Tryz.prog 113, by kernel_rfl, by kernel_rfl⟩
  f39 := ⟨fnm Tryz.prog 42, by kernel_rfl, by kernel_rfl⟩
  f41 := ⟨fnm Tryz.prog 130, by kernel_rfl, by kernel_rfl⟩
  t0 := by kernel_rfl
  a0 := fun _ => by kernel_rfl
  z0 := fun _ => by kernel_rfl
  v0 := fun _ => by kernel_rfl
  t3 := by kernel_rfl
  a3 := fun _ => by kernel_rfl
  z3 := fun _ => by kernel_rfl
  v3 := fun _ => by kernel_rfl
  t4 := by kernel_rfl
  a4 := fun _ => by kernel_rfl
  z4 := fun _ => by kernel_rfl
  v4 := fun _ => by kernel_rfl
  t5 := by kernel_rfl
  a5 := fun _ => by kernel_rfl
  z5 := fun _ => by kernel_rfl
  v5 := fun _ => by kernel_rfl
  t9 := by kernel_rfl
  a9 := fun _ => by kernel_rfl
  z9 := fun _ => by kernel_rfl
  v9 := fun _ => by kernel_rfl
  t26 := by kernel_rfl
  a26 := fun _ => by kernel_rfl
  z26 := fun _ => by kernel_rfl
  v26 := fun _ => by kernel_rfl
  t27 := by kernel_rfl
  a27 := fun _ => by kernel_rfl
  z27 := fun _ => by kernel_rfl
  v27 := fun _ => by kernel_rfl
  t29 := by kernel_rfl
  a29 := fun _ => by kernel_rfl
  z29 := fun _ => by kernel_rfl
  v29 := fun _ => by kernel_rfl
  t32 := by kernel_rfl
  a32 := fun _ => by kernel_rfl
  z32 := fun _ => by kernel_rfl
  v32 := fun _ => by kernel_rfl
  t35 := by kernel_rfl
  a35 := fun _ => by kernel_rfl
  z35 := fun _ => by kernel_rfl
  v35 := fun _ => by kernel_rfl
  t36 := by kernel_rfl
  a36 := fun _ => by kernel_rfl
  z36 := fun _ => by kernel_rfl
  v36 := fun _ => by kernel_rfl
  t41 := by kernel_rfl
  a41 := fun _ => by kernel_rfl
  z41 := fun _ => by kernel_rfl
  v41 := fun _ => by kernel_rfl
  t44 := by kernel_rfl
  a44 := fun _ => by kernel_rfl
  z44 := fun _ => by kernel_rfl
  v44 := fun _ => by kernel_rfl
  t46 := by kernel_rfl
  a46 := fun _ => by kernel_rfl
  z46 := fun _ => by kernel_rfl
  v46 := fun _ => by kernel_rfl
  t53 := by kernel_rfl
  a53 := fun _ => by kernel_rfl
  z53 := fun _ => by kernel_rfl
  v53 := fun _ => by kernel_rfl
  t57 := by kernel_rfl
  a57 := fun _ => by kernel_rfl
  z57 := fun _ => by kernel_rfl
  v57 := fun _ => by kernel_rfl
  t63 := by kernel_rfl
  a63 := fun _ => by kernel_rfl
  z63 := fun _ => by kernel_rfl
  v63 := fun _ => by kernel_rfl
  t64 := by kernel_rfl
  a64 := fun _ => by kernel_rfl
  z64 := fun _ => by kernel_rfl
  v64 := fun _ => by kernel_rfl
def rhoCompS : Ren := ⟨fun n => if n = 44 then 30 else 0, fun n => if n = 0 then 0 else if n = 3 then 3 else if n = 4 then 4 else if n = 25 then 39 else if n = 26 then 9 else 0, fun n => n⟩
theorem LCompS : SlLaysN.n44 Tryz.prog rhoCompS where
  mixed := by kernel_rfl
  f44 := ⟨fnm Tryz.prog 30, by kernel_rfl, by kernel_rfl⟩
  t0 := by kernel_rfl
  a0 := fun _ => by kernel_rfl
  z0 := fun _ => by kernel_rfl
  v0 := fun _ => by kernel_rfl
  t3 := by kernel_rfl
  a3 := fun _ => by kernel_rfl
  z3 := fun _ => by kernel_rfl
  v3 := fun _ => by kernel_rfl
  t4 := by kernel_rfl
  a4 := fun _ => by kernel_rfl
  z4 := fun _ => by kernel_rfl
  v4 := fun _ => by kernel_rfl
  t25 := by kernel_rfl
  a25 := fun _ => by kernel_rfl
  z25 := fun _ => by kernel_rfl
  v25 := fun _ => by kernel_rfl
  t26 := by kernel_rfl
  a26 := fun _ => by kernel_rfl
  z26 := fun _ => by kernel_rfl
  v26 := fun _ => by kernel_rfl
  i26 := by kernel_rfl
theorem f29 (nl : Bool) (zs : List (List UInt8)) (hsz : zs.length < 4611686018427387904) :
    FnM Tryz.prog 29 [.lst 1 nl (zs.map fun z => [strC z])] (.tup []) (.lst 1 nl ((zs.mergeSort fun x y => decide (x ≤ y)).map fun z => [strC z])) := sortStr_M LSortS (by kernel_rfl) nl zs hsz
theorem f30 (nl : Bool) (zs : List (List UInt8)) (hsz : zs.length ≤ 9223372036854775807) :
    FnX Tryz.prog 30 [.lst 1 nl (zs.map fun z => [strC z])] (.lst 1 nl ((Lib.compact zs).map fun z => [strC z])) := compactStr_X LCompS (by kernel_rfl) nl zs (Lib.compact_length_le zs) hsz
end Go.Eng
namespace Go.Eng
open Go Go.Proofs
set_option linter.unusedSimpArgs false
set_option linter.unusedVariables false
set_option maxRecDepth 20000
set_option maxHeartbeats 1000000

/-! how many names a list holds. WRITES -/
def nmB (x : Li) : List UInt8 := x.f0.data.toList
theorem strC_nm (x : Li) : strC (nmB x) = .str x.f0 := by
  obtain ⟨⟨⟨a⟩⟩, _, _⟩ := x
  rfl
def cnt (l : List Li) (n : Nat) : Int := (dL (l.map nmB) n).length
theorem cnt_le (l : List Li) (n : Nat) : 0 ≤ cnt l n ∧ cnt l n ≤ n := ⟨by unfold cnt; omega, by unfold cnt; have := dL_len (l.map nmB) n; omega⟩
theorem cnt_compact (l : List Li) : ((Lib.compact ((l.map nmB).mergeSort fun x y => decide (x ≤ y))).length : Int) = cnt l l.length := by
  unfold cnt
  have := dL_compact (R := fun x y : List UInt8 => x ≤ y) (fun x y h1 h2 => List.le_antisymm h1 h2) (List.mergeSort_perm (l.map nmB) (fun x y => decide (x ≤ y))) (strs_sorted _)
  rw [this, List.length_map]
theorem f9 (l : List Li) (nl : Bool) (hl : l.length ≤ 1000000000) : Fn Tryz.prog 9 false [.lst 3 nl (l.map li)] (i (cnt l l.length)) := by
  have hN : (l.map fun x => [PV.str x.f0]) = (l.map nmB).map fun z => [strC z] := by
    rw [List.map_map]
    exact List.map_congr_left fun x _ => by simp [strC_nm]
  have c1 := f29 false (l.map nmB) (by rw [List.length_map]; omega)
  have c2 := f30 false ((l.map nmB).mergeSort fun x y => decide (x ≤ y)) (by rw [List.length_mergeSort, List.length_map]; omega)
  rw [← hN] at c1
  have hc := cnt_compact l
  obtain ⟨S, hS⟩ : ∃ S, (((l.map nmB).mergeSort fun x y => decide (x ≤ y)).map fun z => [strC z]) = S := ⟨_, rfl⟩
  rw [hS] at c1 c2
  obtain ⟨T, hT⟩ : ∃ T, (Lib.compact ((l.map nmB).mergeSort fun x y => decide (x ≤ y))) = T := ⟨_, rfl⟩
  rw [hT] at c2 hc
  clear hS hT hN
  refine Fn.by_sx hX (by kernel_rfl) c9 (by kernel_rfl) (by rfl) ?_
  simp [i9, sxa, isPtrN, PV.pcs, elAt, setEl, inAt, elIn, setIn, isLst, cellsOf, Ex.ok, Ex.val, Opd.val, POp.dst, bin_int, binOK_int, bin_str, binOK_str, resOK, resV, RB.val, sub, putc, scB, scL, oneB, conf, Ex.val.eqP, Ex.val.eqL, negV, mxV, mnV, ← wr_eq, wr_zero, wr_one, wr_m1, bst_lst, byteC, partsOK, putAll, appV, nilV, slV, sslV, optB, optNum, and_assoc, exists_and_left, exists_eq_left']
  refine sx_count l.length (fun n V => V 7 = .lst 3 nl (l.map li) ∧ V 8 = i l.length ∧ V 9 = i n ∧ V 3 = .lst 1 false ((l.take n).map fun x => [.str x.f0])) 0 (by omega) (by simp [sxa, isPtrN, PV.pcs, elAt, setEl, inAt, elIn, setIn, isLst, cellsOf, Ex.ok, Ex.val, Opd.val, POp.dst, bin_int, binOK_int, bin_str, binOK_str, resOK, resV, RB.val, sub, putc, scB, scL, oneB, conf, Ex.val.eqP, Ex.val.eqL, negV, mxV, mnV, ← wr_eq, wr_zero, wr_one, wr_m1, bst_lst, byteC, partsOK, putAll, appV, nilV, slV, sslV, optB, optNum, and_assoc, exists_and_left, exists_eq_left']) ?_
  rintro n V hn ⟨h7, h8, h9, h3⟩
  have hw : wr .i64 ((n : Int) + 1) = n + 1 := wr_in (by omega) (by omega)
  simp [sxa, isPtrN, PV.pcs, elAt, setEl, inAt, elIn, setIn, isLst, cellsOf, Ex.ok, Ex.val, Opd.val, POp.dst, bin_int, binOK_int, bin_str, binOK_str, resOK, resV, RB.val, sub, putc, scB, scL, oneB, conf, Ex.val.eqP, Ex.val.eqL, negV, mxV, mnV, ← wr_eq, wr_zero, wr_one, wr_m1, bst_lst, byteC, partsOK, putAll, appV, nilV, slV, sslV, optB, optNum, and_assoc, exists_and_left, exists_eq_left', h7, h8, h9]
  refine CondS_d (fun hlt => ?_) (fun hge => ?_)
  · have hlt' : n < l.length := by omega
    have ht : (l.take (n + 1)).map (fun x => [PV.str x.f0]) = (l.take n).map (fun x => [PV.str x.f0]) ++ [[.str l[n].f0]] := by
      rw [List.take_add_one, List.getElem?_eq_getElem hlt', List.map_append]; rfl
    repeat' (first | intro _ | (simp [sxa, isPtrN, PV.pcs, elAt, setEl, inAt, elIn, setIn, isLst, cellsOf, Ex.ok, Ex.val, Opd.val, POp.dst, bin_int, binOK_int, bin_str, binOK_str, resOK, resV, RB.val, sub, putc, scB, scL, oneB, conf, Ex.val.eqP, Ex.val.eqL, negV, mxV, mnV, ← wr_eq, wr_zero, wr_one, wr_m1, bst_lst, byteC, partsOK, putAll, appV, nilV, slV, sslV, optB, optNum, and_assoc, exists_and_left, exists_eq_left', li, *]) | refine CondS_d (fun h => ?_) (fun h => ?_) | refine CondS_b (fun h => ?_) (fun h => ?_) | refine GrdS_d (fun h => ?_) (fun h => ?_) | refine GrdS_b (fun h => ?_) (fun h => ?_) | refine OkS_i (by omega) ?_ | fail)
    all_goals simp_all
  · have : n = l.length := by omega
    subst this
    rw [List.take_length] at h3
    repeat' (first | intro _ | (simp [sxa, isPtrN, PV.pcs, elAt, setEl, inAt, elIn, setIn, isLst, cellsOf, Ex.ok, Ex.val, Opd.val, POp.dst, bin_int, binOK_int, bin_str, binOK_str, resOK, resV, RB.val, sub, putc, scB, scL, oneB, conf, Ex.val.eqP, Ex.val.eqL, negV, mxV, mnV, ← wr_eq, wr_zero, wr_one, wr_m1, bst_lst, byteC, partsOK, putAll, appV, nilV, slV, sslV, optB, optNum, and_assoc, exists_and_left, exists_eq_left', *]) | refine CallS_i (c1) ?_ | refine CallS_i (c2) ?_ | refine CallM_i (c1) ?_ | refine CallM_i (c2) ?_ | refine CallE_i (c1) ?_ | refine CallE_i (c2) ?_ | refine CallX_i (c1) ?_ | refine CallX_i (c2) ?_ | refine CallB_i (c1) ?_ | refine CallB_i (c2) ?_ | refine CondS_d (fun h => ?_) (fun h => ?_) | refine CondS_b (fun h => ?_) (fun h => ?_) | refine GrdS_d (fun h => ?_) (fun h => ?_) | refine GrdS_b (fun h => ?_) (fun h => ?_) | refine OkS_i (by omega) ?_ | fail)
    all_goals simp_all
end Go.Eng
namespace Go.Eng
open Go Go.Proofs Geo
set_option linter.unusedSimpArgs false
set_option linter.unusedVariables false
set_option maxRecDepth 20000
set_option maxHeartbeats 4000000

/-! gazettes: the law. WRITES -/
theorem f4 (nl : Bool) (els : List (List PV)) : Fn Tryz.prog 4 false [.lst 1 nl els] (.bool (decide ((1048576 : Int) < els.length))) := by
  refine Fn.by_sx hX (by kernel_rfl) c4 (by kernel_rfl) (by rfl) ?_
  simp [i4, sxa, isPtrN, PV.pcs, elAt, setEl, inAt, elIn, setIn, isLst, cellsOf, Ex.ok, Ex.val, Opd.val, POp.dst, bin_int, binOK_int, bin_str, binOK_str, resOK, resV, RB.val, sub, putc, scB, scL, oneB, conf, Ex.val.eqP, Ex.val.eqL, negV, mxV, mnV, ← wr_eq, wr_zero, wr_one, wr_m1, bst_lst, byteC, partsOK, putAll, appV, nilV, slV, sslV, optB, optNum, and_assoc, exists_and_left, exists_eq_left']
theorem swTo_mem {l : List Li} {p : ByteArray} : ∀ n, n ≤ l.length → ∀ x ∈ swTo l p n, x ∈ l := by
  intro n
  induction n with
  | zero => intro _ x hx; cases hx
  | succ n ih =>
    intro hn x hx
    unfold swTo at hx
    rcases List.mem_append.1 hx with h | h
    · exact ih (by omega) x h
    · split at h
      · obtain rfl : x = l.getD n liD := by simpa using h
        have : l.getD n liD = l[n]'(by omega) := by simp [show n < l.length by omega]
        rw [this]
        exact List.getElem_mem _
      · cases h
def Hide (p : Prop) : Prop := p
theorem Hide.out {p : Prop} (h : Hide p) : p := h
theorem f3 (nl : Bool) (els : List (List PV)) (hu : curU8 els = true) : Fn Tryz.prog 3 false [.lst 1 nl els] (.bool true) := by
  have hb := f4 nl els
  refine Fn.by_sx hX (by kernel_rfl) c3 (by kernel_rfl) (by rfl) ?_
  obtain ⟨L0, hL0, lp0⟩ : ∃ L, (.loop (.seq (.seq (.ops [s 37 (.mv (t 5)),
  s 38 (.mv (t 4)),
  s 39 (.len false (t 38)),
  s 40 (.bin .lss (t 37) (t 39))])
 (.cond (t 40) .skip (.exit 0)))
 (.seq (.block 1 (.seq (.ops [s 43 (.mv (t 4)),
  s 44 (.mv (t 4)),
  s 45 (.mv (t 5)),
  s 46 (.idx (t 44) (t 45) 3),
  s 47 (.mv (t 46)),
  s 48 (.ldE 44 47 0 1 false true 3),
  k 49 11 [(t 43), (t 48)] .lin,
  s 50 (.mv (t 4)),
  s 51 (.mv (t 5)),
  s 52 (.idx (t 50) (t 51) 3),
  s 53 (.mv (t 52)),
  s 54 (.ldE 50 53 1 1 false true 3),
  k 55 10 [(t 49), (t 54)] .sc,
  s 56 (.not (t 55)),
  s 57 (.mv (t 56)),
  sg [(57, false)] 58 (.mv (t 4)),
  sg [(57, false)] 59 (.mv (t 5)),
  sg [(57, false)] 60 (.idx (t 58) (t 59) 3),
  sg [(57, false)] 61 (.mv (t 60)),
  sg [(57, false)] 62 (.ldE 58 61 2 1 false true 3),
  sg [(57, false)] 63 (.bin .eql (t 62) (c (.str (bs [])))),
  s 64 (.pick (t 57) (c (.bool true)) (t 63)),
  s 65 (.mv (t 64)),
  sg [(65, false)] 66 (.mv (t 5)),
  sg [(65, false)] 67 (.bin .gtr (t 66) (c (i 0))),
  sg [(65, false)] 68 (.mv (t 67)),
  sg [(68, true), (65, false)] 69 (.mv (t 4)),
  sg [(68, true), (65, false)] 70 (.mv (t 5)),
  sg [(68, true), (65, false)] 71 (.bin .sub (t 70) (c (i 1))),
  sg [(68, true), (65, false)] 72 (.idx (t 69) (t 71) 3),
  sg [(68, true), (65, false)] 73 (.mv (t 72)),
  sg [(68, true), (65, false)] 74 (.ldE 69 73 0 1 false true 3),
  sg [(68, true), (65, false)] 75 (.mv (t 4)),
  sg [(68, true), (65, false)] 76 (.mv (t 5)),
  sg [(68, true), (65, false)] 77 (.idx (t 75) (t 76) 3),
  sg [(68, true), (65, false)] 78 (.mv (t 77)),
  sg [(68, true), (65, false)] 79 (.ldE 75 78 0 1 false true 3),
  sg [(68, true), (65, false)] 80 (.bin .gtr (t 74) (t 79)),
  sg [(68, true), (65, false)] 81 (.mv (t 80)),
  sg [(81, false), (68, true), (65, false)] 82 (.mv (t 4)),
  sg [(81, false), (68, true), (65, false)] 83 (.mv (t 5)),
  sg [(81, false), (68, true), (65, false)] 84 (.bin .sub (t 83) (c (i 1))),
  sg [(81, false), (68, true), (65, false)] 85 (.idx (t 82) (t 84) 3),
  sg [(81, false), (68, true), (65, false)] 86 (.mv (t 85)),
  sg [(81, false), (68, true), (65, false)] 87 (.ldE 82 86 0 1 false true 3),
  sg [(81, false), (68, true), (65, false)] 88 (.mv (t 4)),
  sg [(81, false), (68, true), (65, false)] 89 (.mv (t 5)),
  sg [(81, false), (68, true), (65, false)] 90 (.idx (t 88) (t 89) 3),
  sg [(81, false), (68, true), (65, false)] 91 (.mv (t 90)),
  sg [(81, false), (68, true), (65, false)] 92 (.ldE 88 91 0 1 false true 3),
  sg [(81, false), (68, true), (65, false)] 93 (.bin .eql (t 87) (t 92)),
  sg [(81, false), (68, true), (65, false)] 94 (.mv (t 93)),
  sg [(94, true), (81, false), (68, true), (65, false)] 95 (.mv (t 4)),
  sg [(94, true), (81, false), (68, true), (65, false)] 96 (.mv (t 5)),
  sg [(94, true), (81, false), (68, true), (65, false)] 97 (.bin .sub (t 96) (c (i 1))),
  sg [(94, true), (81, false), (68, true), (65, false)] 98 (.idx (t 95) (t 97) 3),
  sg [(94, true), (81, false), (68, true), (65, false)] 99 (.mv (t 98)),
  sg [(94, true), (81, false), (68, true), (65, false)] 100 (.ldE 95 99 1 1 false true 3),
  sg [(94, true), (81, false), (68, true), (65, false)] 101 (.mv (t 4)),
  sg [(94, true), (81, false), (68, true), (65, false)] 102 (.mv (t 5)),
  sg [(94, true), (81, false), (68, true), (65, false)] 103 (.idx (t 101) (t 102) 3),
  sg [(94, true), (81, false), (68, true), (65, false)] 104 (.mv (t 103)),
  sg [(94, true), (81, false), (68, true), (65, false)] 105 (.ldE 101 104 1 1 false true 3),
  sg [(94, true), (81, false), (68, true), (65, false)] 106 (.bin .geq (t 100) (t 105)),
  sg [(81, false), (68, true), (65, false)] 107 (.pick (t 94) (t 106) (c (.bool false))),
  sg [(68, true), (65, false)] 108 (.pick (t 81) (c (.bool true)) (t 107)),
  sg [(65, false)] 109 (.pick (t 68) (t 108) (c (.bool false))),
  s 110 (.pick (t 65) (c (.bool true)) (t 109))])
 (.cond (t 110) (.seq (.ops [s 2 (.mv (c (.bool false)))])
 .ret) .skip)))
 (.ops [s 41 (.mv (t 5)),
  s 42 (.bin .add (t 41) (c (i 1))),
  s 5 (.mv (t 42))])))) = L ∧ ∀ (G : List Li) (V : Env), G.length ≤ 16 → (∀ n, (hn : n + 1 < G.length) → ltLi G[n] G[n + 1] = true) → (∀ y ∈ G, ¬ y.f2 = bs []) →
      V 4 = .lst 3 false (G.map li) → V 5 = i 0 → sx (FC Tryz.prog) L (fun y V' => y = .exit 0 ∧ V' 0 = V 0) V := ⟨_, rfl, fun G V a b d e f => l3_0 a b d e f⟩
  obtain ⟨L2, hL2, lp2⟩ : ∃ L, (.loop (.seq (.seq (.ops [s 119 (.mv (t 9)),
  s 120 (.mv (t 8)),
  s 121 (.len false (t 120)),
  s 122 (.bin .lss (t 119) (t 121))])
 (.cond (t 122) .skip (.exit 2)))
 (.seq (.block 3 (.seq (.ops [s 125 (.mv (t 8)),
  s 126 (.mv (t 9)),
  s 127 (.idx (t 125) (t 126) 3),
  s 128 (.mv (t 127)),
  s 129 (.ldE 125 128 0 1 false true 3),
  s 130 (.mv (t 7)),
  s 131 (.len true (t 130)),
  s 132 (.ssl (t 129) none (some (t 131))),
  s 133 (.mv (t 7)),
  s 134 (.bin .neq (t 132) (t 133))])
 (.cond (t 134) (.seq (.ops [s 2 (.mv (c (.bool false)))])
 .ret) .skip)))
 (.ops [s 123 (.mv (t 9)),
  s 124 (.bin .add (t 123) (c (i 1))),
  s 9 (.mv (t 124))])))) = L ∧ ∀ (S : List Li) (p : ByteArray) (V : Env), S.length ≤ 16 → p.size ≤ 9 → (∀ x ∈ S, hasPre x.f0 p = true ∧ x.f0.size ≤ 9) → V 7 = .str p →
      V 8 = .lst 3 false (S.map li) → V 9 = i 0 → sx (FC Tryz.prog) L (fun y V' => y = .exit 2 ∧ V' 0 = V 0 ∧ V' 6 = V 6 ∧ V' 8 = V 8) V := ⟨_, rfl, fun S p V a b d e f g => l3_2 a b d e f g⟩
  replace lp0 : Hide _ := lp0
  replace lp2 : Hide _ := lp2
  unfold i3
  rw [hL0, hL2]
  clear hL0 hL2
  simp [sxa, isPtrN, PV.pcs, elAt, setEl, inAt, elIn, setIn, isLst, cellsOf, Ex.ok, Ex.val, Opd.val, POp.dst, bin_int, binOK_int, bin_str, binOK_str, resOK, resV, RB.val, sub, putc, scB, scL, oneB, conf, Ex.val.eqP, Ex.val.eqL, negV, mxV, mnV, ← wr_eq, wr_zero, wr_one, wr_m1, bst_lst, byteC, partsOK, putAll, appV, nilV, slV, sslV, optB, optNum, and_assoc, exists_and_left, exists_eq_left']
  by_cases hbig : (1048576 : Int) < els.length
  · rw [decide_eq_true hbig] at hb
    repeat' (first | intro _ | (simp [sxa, isPtrN, PV.pcs, elAt, setEl, inAt, elIn, setIn, isLst, cellsOf, Ex.ok, Ex.val, Opd.val, POp.dst, bin_int, binOK_int, bin_str, binOK_str, resOK, resV, RB.val, sub, putc, scB, scL, oneB, conf, Ex.val.eqP, Ex.val.eqL, negV, mxV, mnV, ← wr_eq, wr_zero, wr_one, wr_m1, bst_lst, byteC, partsOK, putAll, appV, nilV, slV, sslV, optB, optNum, and_assoc, exists_and_left, exists_eq_left', *]) | refine CallS_i (hb) ?_ | refine CallM_i (hb) ?_ | refine CallE_i (hb) ?_ | refine CallX_i (hb) ?_ | refine CallB_i (hb) ?_ | refine CondS_d (fun h => ?_) (fun h => ?_) | refine CondS_b (fun h => ?_) (fun h => ?_) | refine GrdS_d (fun h => ?_) (fun h => ?_) | refine GrdS_b (fun h => ?_) (fun h => ?_) | refine OkS_i (by omega) ?_ | fail)
  rw [decide_eq_false hbig] at hb
  have hce : curEls els = true := by unfold curEls; rw [hu]; simp; omega
  repeat' (first | intro _ | (simp [sxa, isPtrN, PV.pcs, elAt, setEl, inAt, elIn, setIn, isLst, cellsOf, Ex.ok, Ex.val, Opd.val, POp.dst, bin_int, binOK_int, bin_str, binOK_str, resOK, resV, RB.val, sub, putc, scB, scL, oneB, conf, Ex.val.eqP, Ex.val.eqL, negV, mxV, mnV, ← wr_eq, wr_zero, wr_one, wr_m1, bst_lst, byteC, partsOK, putAll, appV, nilV, slV, sslV, optB, optNum, and_assoc, exists_and_left, exists_eq_left', *]) | refine CopD_i (f5 nl els hce) (fun _ _ => by first | exact ⟨fun _ => rfl, (fun h => by cases h)⟩ | exact ⟨(fun h => by cases h), fun _ => ⟨_, rfl⟩⟩ | exact ⟨(fun h => by cases h), (fun h => by cases h)⟩) (fun x hx => ?_) | refine CallS_i (hb) ?_ | refine CallM_i (hb) ?_ | refine CallE_i (hb) ?_ | refine CallX_i (hb) ?_ | refine CallB_i (hb) ?_ | refine CondS_d (fun h => ?_) (fun h => ?_) | refine CondS_b (fun h => ?_) (fun h => ?_) | refine GrdS_d (fun h => ?_) (fun h => ?_) | refine GrdS_b (fun h => ?_) (fun h => ?_) | refine OkS_i (by omega) ?_ | fail)
  obtain ⟨l, hl⟩ : ∃ l, l = x := ⟨_, rfl⟩
  subst hl
  have hok : ∀ y ∈ l, y.okay := fun y hy => (hx.2 y hy).ok
  have hl16 := hx.1
  have c9 := f6 l false (by omega) hok
  have c7 := f7 l false (by omega) hok
  have c17 := f8 l false (by omega) hok
  have hal := anchors_len l
  have hGl : (srtL cfLi (lstD l)).length = (anchors l).length := by rw [srt_len swoLi]; unfold lstD; rw [List.length_map]
  have hlt : ∀ n, (hn : n + 1 < (srtL cfLi (lstD l)).length) → ltLi (srtL cfLi (lstD l))[n] (srtL cfLi (lstD l))[n + 1] = true := fun n hn => gz_lt hn
  have href : ∀ y ∈ srtL cfLi (lstD l), ¬ y.f2 = bs [] := fun y hy => gz_ref ((srt_perm swoLi (lstD l)).mem_iff.1 hy)
  obtain ⟨G, hG⟩ : ∃ G, srtL cfLi (lstD l) = G := ⟨_, rfl⟩
  rw [hG] at c9 c7 hGl
  simp only [hG] at hlt href
  have c18 := f9 G false (by omega)
  have hcn := (cnt_le G G.length).2
  obtain ⟨C, hC⟩ : ∃ C, cnt G G.length = C := ⟨_, rfl⟩
  rw [hC] at c18 hcn
  have hcn2 : ¬ (G.length : Int) < C := by omega
  obtain ⟨A, hA⟩ : ∃ A, anchors l = A := ⟨_, rfl⟩
  rw [hA] at c17 hGl hal
  have hGA : (A.length : Int) = G.length := by omega
  have hG16 : G.length ≤ 16 := by omega
  have lq : Hide (∀ V, _) := fun V => lp0.out G V hG16 hlt href
  clear lp0 hlt href
  clear hC hbig hu hx hok hal hl16 hcn hG hA
  refine CallS_i (c9) ?_
  simp [sxa, isPtrN, PV.pcs, elAt, setEl, inAt, elIn, setIn, isLst, cellsOf, Ex.ok, Ex.val, Opd.val, POp.dst, bin_int, binOK_int, bin_str, binOK_str, resOK, resV, RB.val, sub, putc, scB, scL, oneB, conf, Ex.val.eqP, Ex.val.eqL, negV, mxV, mnV, ← wr_eq, wr_zero, wr_one, wr_m1, bst_lst, byteC, partsOK, putAll, appV, nilV, slV, sslV, optB, optNum, and_assoc, exists_and_left, exists_eq_left']
  refine CallS_i (c7) ?_
  clear c9 c7
  simp [sxa, isPtrN, PV.pcs, elAt, setEl, inAt, elIn, setIn, isLst, cellsOf, Ex.ok, Ex.val, Opd.val, POp.dst, bin_int, binOK_int, bin_str, binOK_str, resOK, resV, RB.val, sub, putc, scB, scL, oneB, conf, Ex.val.eqP, Ex.val.eqL, negV, mxV, mnV, ← wr_eq, wr_zero, wr_one, wr_m1, bst_lst, byteC, partsOK, putAll, appV, nilV, slV, sslV, optB, optNum, and_assoc, exists_and_left, exists_eq_left', *]
  refine CallS_i (c17) ?_
  clear c17
  simp [sxa, isPtrN, PV.pcs, elAt, setEl, inAt, elIn, setIn, isLst, cellsOf, Ex.ok, Ex.val, Opd.val, POp.dst, bin_int, binOK_int, bin_str, binOK_str, resOK, resV, RB.val, sub, putc, scB, scL, oneB, conf, Ex.val.eqP, Ex.val.eqL, negV, mxV, mnV, ← wr_eq, wr_zero, wr_one, wr_m1, bst_lst, byteC, partsOK, putAll, appV, nilV, slV, sslV, optB, optNum, and_assoc, exists_and_left, exists_eq_left', *]
  refine CallS_i (c18) ?_
  simp [sxa, isPtrN, PV.pcs, elAt, setEl, inAt, elIn, setIn, isLst, cellsOf, Ex.ok, Ex.val, Opd.val, POp.dst, bin_int, binOK_int, bin_str, binOK_str, resOK, resV, RB.val, sub, putc, scB, scL, oneB, conf, Ex.val.eqP, Ex.val.eqL, negV, mxV, mnV, ← wr_eq, wr_zero, wr_one, wr_m1, bst_lst, byteC, partsOK, putAll, appV, nilV, slV, sslV, optB, optNum, and_assoc, exists_and_left, exists_eq_left', *]
  clear c18 hcn2 hGA hGl hb
  refine sx_mono _ _ _ _ ?_ (lq.out _ (by simp [sxa, isPtrN, PV.pcs, elAt, setEl, inAt, elIn, setIn, isLst, cellsOf, Ex.ok, Ex.val, Opd.val, POp.dst, bin_int, binOK_int, bin_str, binOK_str, resOK, resV, RB.val, sub, putc, scB, scL, oneB, conf, Ex.val.eqP, Ex.val.eqL, negV, mxV, mnV, ← wr_eq, wr_zero, wr_one, wr_m1, bst_lst, byteC, partsOK, putAll, appV, nilV, slV, sslV, optB, optNum, and_assoc, exists_and_left, exists_eq_left']) (by simp [sxa, isPtrN, PV.pcs, elAt, setEl, inAt, elIn, setIn, isLst, cellsOf, Ex.ok, Ex.val, Opd.val, POp.dst, bin_int, binOK_int, bin_str, binOK_str, resOK, resV, RB.val, sub, putc, scB, scL, oneB, conf, Ex.val.eqP, Ex.val.eqL, negV, mxV, mnV, ← wr_eq, wr_zero, wr_one, wr_m1, bst_lst, byteC, partsOK, putAll, appV, nilV, slV, sslV, optB, optNum, and_assoc, exists_and_left, exists_eq_left']))
  rintro y V ⟨rfl, h0⟩
  simp [sxa, isPtrN, PV.pcs, elAt, setEl, inAt, elIn, setIn, isLst, cellsOf, Ex.ok, Ex.val, Opd.val, POp.dst, bin_int, binOK_int, bin_str, binOK_str, resOK, resV, RB.val, sub, putc, scB, scL, oneB, conf, Ex.val.eqP, Ex.val.eqL, negV, mxV, mnV, ← wr_eq, wr_zero, wr_one, wr_m1, bst_lst, byteC, partsOK, putAll, appV, nilV, slV, sslV, optB, optNum, and_assoc, exists_and_left, exists_eq_left'] at h0
  clear lq
  repeat' (first | intro _ | (simp [sxa, isPtrN, PV.pcs, elAt, setEl, inAt, elIn, setIn, isLst, cellsOf, Ex.ok, Ex.val, Opd.val, POp.dst, bin_int, binOK_int, bin_str, binOK_str, resOK, resV, RB.val, sub, putc, scB, scL, oneB, conf, Ex.val.eqP, Ex.val.eqL, negV, mxV, mnV, ← wr_eq, wr_zero, wr_one, wr_m1, bst_lst, byteC, partsOK, putAll, appV, nilV, slV, sslV, optB, optNum, and_assoc, exists_and_left, exists_eq_left', *]) | refine CopD_i (f12 nl els hce) (fun _ _ => by first | exact ⟨fun _ => rfl, (fun h => by cases h)⟩ | exact ⟨(fun h => by cases h), fun _ => ⟨_, rfl⟩⟩ | exact ⟨(fun h => by cases h), (fun h => by cases h)⟩) (fun x hx => ?_) | refine CondS_d (fun h => ?_) (fun h => ?_) | refine CondS_b (fun h => ?_) (fun h => ?_) | refine GrdS_d (fun h => ?_) (fun h => ?_) | refine GrdS_b (fun h => ?_) (fun h => ?_) | refine OkS_i (by omega) ?_ | fail)
  obtain ⟨⟨X1, p⟩, hq⟩ : ∃ q, q = x := ⟨_, rfl⟩
  subst hq
  obtain ⟨⟨x16, xs⟩, hp⟩ := hx
  simp only at x16 xs hp
  have hp9 : p.size ≤ 9 := hp
  have cS := f13 X1 false p (by omega) (fun x hx => by have := xs x hx; omega) (by omega)
  have hSl := swTo_len X1 p X1.length
  have hSx : ∀ x ∈ swTo X1 p X1.length, hasPre x.f0 p = true ∧ x.f0.size ≤ 9 := fun x hx => ⟨swTo_pre _ x hx, xs x (swTo_mem _ (Nat.le_refl _) x hx)⟩
  obtain ⟨S, hS⟩ : ∃ S, swTo X1 p X1.length = S := ⟨_, rfl⟩
  rw [hS] at cS hSl hSx
  have lq : Hide (∀ V, _) := fun V => lp2.out S p V (by omega) hp9 hSx
  clear lp2 hSx hS xs hp
  simp [sxa, isPtrN, PV.pcs, elAt, setEl, inAt, elIn, setIn, isLst, cellsOf, Ex.ok, Ex.val, Opd.val, POp.dst, bin_int, binOK_int, bin_str, binOK_str, resOK, resV, RB.val, sub, putc, scB, scL, oneB, conf, Ex.val.eqP, Ex.val.eqL, negV, mxV, mnV, ← wr_eq, wr_zero, wr_one, wr_m1, bst_lst, byteC, partsOK, putAll, appV, nilV, slV, sslV, optB, optNum, and_assoc, exists_and_left, exists_eq_left', *]
  refine CallS_i (cS) ?_
  clear cS
  simp [sxa, isPtrN, PV.pcs, elAt, setEl, inAt, elIn, setIn, isLst, cellsOf, Ex.ok, Ex.val, Opd.val, POp.dst, bin_int, binOK_int, bin_str, binOK_str, resOK, resV, RB.val, sub, putc, scB, scL, oneB, conf, Ex.val.eqP, Ex.val.eqL, negV, mxV, mnV, ← wr_eq, wr_zero, wr_one, wr_m1, bst_lst, byteC, partsOK, putAll, appV, nilV, slV, sslV, optB, optNum, and_assoc, exists_and_left, exists_eq_left', *]
  refine sx_mono _ _ _ _ ?_ (lq.out _ (by simp [sxa, isPtrN, PV.pcs, elAt, setEl, inAt, elIn, setIn, isLst, cellsOf, Ex.ok, Ex.val, Opd.val, POp.dst, bin_int, binOK_int, bin_str, binOK_str, resOK, resV, RB.val, sub, putc, scB, scL, oneB, conf, Ex.val.eqP, Ex.val.eqL, negV, mxV, mnV, ← wr_eq, wr_zero, wr_one, wr_m1, bst_lst, byteC, partsOK, putAll, appV, nilV, slV, sslV, optB, optNum, and_assoc, exists_and_left, exists_eq_left']) (by simp [sxa, isPtrN, PV.pcs, elAt, setEl, inAt, elIn, setIn, isLst, cellsOf, Ex.ok, Ex.val, Opd.val, POp.dst, bin_int, binOK_int, bin_str, binOK_str, resOK, resV, RB.val, sub, putc, scB, scL, oneB, conf, Ex.val.eqP, Ex.val.eqL, negV, mxV, mnV, ← wr_eq, wr_zero, wr_one, wr_m1, bst_lst, byteC, partsOK, putAll, appV, nilV, slV, sslV, optB, optNum, and_assoc, exists_and_left, exists_eq_left']) (by simp [sxa, isPtrN, PV.pcs, elAt, setEl, inAt, elIn, setIn, isLst, cellsOf, Ex.ok, Ex.val, Opd.val, POp.dst, bin_int, binOK_int, bin_str, binOK_str, resOK, resV, RB.val, sub, putc, scB, scL, oneB, conf, Ex.val.eqP, Ex.val.eqL, negV, mxV, mnV, ← wr_eq, wr_zero, wr_one, wr_m1, bst_lst, byteC, partsOK, putAll, appV, nilV, slV, sslV, optB, optNum, and_assoc, exists_and_left, exists_eq_left']))
  rintro y W ⟨rfl, h0, h6, h8⟩
  simp [sxa, isPtrN, PV.pcs, elAt, setEl, inAt, elIn, setIn, isLst, cellsOf, Ex.ok, Ex.val, Opd.val, POp.dst, bin_int, binOK_int, bin_str, binOK_str, resOK, resV, RB.val, sub, putc, scB, scL, oneB, conf, Ex.val.eqP, Ex.val.eqL, negV, mxV, mnV, ← wr_eq, wr_zero, wr_one, wr_m1, bst_lst, byteC, partsOK, putAll, appV, nilV, slV, sslV, optB, optNum, and_assoc, exists_and_left, exists_eq_left', *] at h0 h6 h8
  clear lq
  repeat' (first | intro _ | (simp [sxa, isPtrN, PV.pcs, elAt, setEl, inAt, elIn, setIn, isLst, cellsOf, Ex.ok, Ex.val, Opd.val, POp.dst, bin_int, binOK_int, bin_str, binOK_str, resOK, resV, RB.val, sub, putc, scB, scL, oneB, conf, Ex.val.eqP, Ex.val.eqL, negV, mxV, mnV, ← wr_eq, wr_zero, wr_one, wr_m1, bst_lst, byteC, partsOK, putAll, appV, nilV, slV, sslV, optB, optNum, and_assoc, exists_and_left, exists_eq_left', *]) | refine CopD_i (f14 nl els hce) (fun _ _ => by first | exact ⟨fun _ => rfl, (fun h => by cases h)⟩ | exact ⟨(fun h => by cases h), fun _ => ⟨_, rfl⟩⟩ | exact ⟨(fun h => by cases h), (fun h => by cases h)⟩) (fun x hx => ?_) | refine CondS_d (fun h => ?_) (fun h => ?_) | refine CondS_b (fun h => ?_) (fun h => ?_) | refine GrdS_d (fun h => ?_) (fun h => ?_) | refine GrdS_b (fun h => ?_) (fun h => ?_) | refine OkS_i (by omega) ?_ | fail)
  obtain ⟨⟨Y, rf⟩, hq⟩ : ∃ q, q = x := ⟨_, rfl⟩
  subst hq
  obtain ⟨⟨y16, ys⟩, hp2⟩ := hx
  simp only at y16 ys hp2
  have cN := f15 Y false rf (by omega)
  have hNl := niTo_len Y rf Y.length
  obtain ⟨N, hN⟩ : ∃ N, niTo Y rf Y.length = N := ⟨_, rfl⟩
  rw [hN] at cN hNl
  have cN := cN.weak
  clear ys hp2 hN
  have e1 : (S.length : Int) ≤ X1.length := by omega
  have e2 : (N.length : Int) ≤ Y.length := by omega
  repeat' (first | intro _ | (simp [sxa, isPtrN, PV.pcs, elAt, setEl, inAt, elIn, setIn, isLst, cellsOf, Ex.ok, Ex.val, Opd.val, POp.dst, bin_int, binOK_int, bin_str, binOK_str, resOK, resV, RB.val, sub, putc, scB, scL, oneB, conf, Ex.val.eqP, Ex.val.eqL, negV, mxV, mnV, ← wr_eq, wr_zero, wr_one, wr_m1, bst_lst, byteC, partsOK, putAll, appV, nilV, slV, sslV, optB, optNum, and_assoc, exists_and_left, exists_eq_left', *]) | refine CallS_i (cN) ?_ | refine CallM_i (cN) ?_ | refine CallE_i (cN) ?_ | refine CallX_i (cN) ?_ | refine CallB_i (cN) ?_ | refine CondS_d (fun h => ?_) (fun h => ?_) | refine CondS_b (fun h => ?_) (fun h => ?_) | refine GrdS_d (fun h => ?_) (fun h => ?_) | refine GrdS_b (fun h => ?_) (fun h => ?_) | refine OkS_i (by omega) ?_ | fail)
end Go.Eng
namespace Go.Eng
open Go Go.Proofs
set_option linter.unusedSimpArgs false
set_option linter.unusedVariables false
set_option maxRecDepth 20000
/-! what the arguments hold -/
theorem d_slice {X : Cx} {t n e sz : Nat} {i0 : TI} {vs : List PV} {α : Type} {g : α → List PV} {q : α → Prop} (hi : X.ti t = some i0) (hk : i0.k = .slice e) (hs : szOf X e = sz)
    (hd : ∀ n vs, shp X n e vs → ∃ x, vs = g x ∧ q x) (h : shp X n t vs) : ∃ (l : List α) (nl : Bool), vs = [.lst sz nl (l.map g)] ∧ l.length ≤ 9223372036854775807 ∧ ∀ x ∈ l, q x := by
  cases n with
  | zero => cases h
  | succ n =>
    unfold shp at h; rw [hi] at h; simp only [hk, hs] at h
    rcases h with rfl | ⟨els, rfl, hl, he⟩
    · exact ⟨[], true, rfl, by simp, by simp⟩
    · have : ∀ els : List (List PV), (∀ cs ∈ els, shp X n e cs) → ∃ l : List α, els = l.map g ∧ ∀ x ∈ l, q x := by
        intro els
        induction els with
        | nil => intro _; exact ⟨[], rfl, by simp⟩
        | cons c r ih =>
          intro h
          obtain ⟨l, h1, h2⟩ := ih fun cs hcs => h cs (List.mem_cons_of_mem _ hcs)
          obtain ⟨x, h3, h4⟩ := hd n c (h c (List.mem_cons_self ..))
          exact ⟨x :: l, by rw [h1, h3]; rfl, fun y hy => by
            rcases List.mem_cons.1 hy with rfl | hy
            · exact h4
            · exact h2 y hy⟩
      obtain ⟨l, h1, h2⟩ := this els he
      subst h1
      exact ⟨l, false, rfl, by have := hl; rw [List.length_map] at this; exact this, h2⟩
theorem shpL_cons {X : Cx} {n t : Nat} {ts : List Nat} {pvs : List PV} (h : shpL X n (t :: ts) pvs) : ∃ v vs, pvs = v :: vs ∧ shpV X n t v ∧ shpL X n ts vs := by
  cases pvs with
  | nil => cases h
  | cons v vs => exact ⟨v, vs, rfl, h.1, h.2⟩
theorem shpL_nil {X : Cx} {n : Nat} {pvs : List PV} (h : shpL X n [] pvs) : pvs = [] := by
  cases pvs with
  | nil => rfl
  | cons v vs => cases h
theorem shpV_one {X : Cx} {n t : Nat} {i0 : TI} {v : PV} (hi : X.ti t = some i0) (ha : i0.k.agg = false) (h : shpV X n t v) : shp X n t [v] := by
  unfold shpV at h; rw [hi] at h; simp only [ha, Bool.false_eq_true, if_false] at h; exact h
end Go.Eng
namespace Go.Eng
open Go Go.Proofs
/-! bytes that are handed in -/
theorem d_u8 {X : Cx} {t n : Nat} {i0 : TI} {vs : List PV} (hi : X.ti t = some i0) (hk : i0.k = .int .u8) (h : shp X n t vs) : ∃ m : Int, vs = [.int .u8 m] ∧ True := by
  cases n with
  | zero => cases h
  | succ n => unfold shp at h; rw [hi] at h; simp only [hk] at h; obtain ⟨m, hm, _⟩ := h; exact ⟨m, hm, trivial⟩
theorem curU8_map : ∀ l : List Int, curU8 (l.map fun m => [.int .u8 m]) = true
  | [] => rfl
  | _ :: r => curU8_map r
theorem dBy {n : Nat} {v : PV} (h : shpV X n 22 v) : ∃ (els : List (List PV)) (nl : Bool), v = .lst 1 nl els ∧ curU8 els = true := by
  have h := shpV_one (i0 := (X.ti 22).getD default) rfl rfl h
  obtain ⟨l, nl, e, h1, h2⟩ := d_slice (i0 := (X.ti 22).getD default) (sz := 1) (g := fun m : Int => [PV.int .u8 m]) (q := fun _ => True) rfl rfl rfl (fun _ _ => d_u8 (i0 := (X.ti 5).getD default) rfl rfl) h
  exact ⟨_, nl, (List.cons.inj e).1, curU8_map l⟩
end Go.Eng
namespace Go.Eng
open Go Go.Proofs
theorem law3 {pvs : List PV} (h : shpL X 8 [22] pvs) : Fn Tryz.prog 3 false pvs (.bool true) := by
  obtain ⟨_, _, rfl, h1, h2⟩ := shpL_cons h
  obtain rfl := shpL_nil h2
  obtain ⟨els, nl, rfl, hu⟩ := dBy h1
  exact f3 nl els hu
end Go.Eng
