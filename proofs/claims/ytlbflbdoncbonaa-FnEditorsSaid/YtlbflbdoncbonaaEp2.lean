/- A part of the proof of a law's statement: for every input the law returns true and leaves its arguments as they were. No condition beyond the statement's own. What each function computes. -/
import Derived.Test.YtlbflbdoncbonaaEp1
set_option linter.unusedVariables false
set_option linter.unusedSimpArgs false
set_option linter.unusedSectionVars false
set_option autoImplicit true
set_option relaxedAutoImplicit true
namespace Go.Eng
open Go Go.Proofs Geo
set_option linter.unusedSimpArgs false
set_option linter.unusedVariables false
set_option maxRecDepth 20000
set_option maxHeartbeats 1000000

/-! a point is moved. WRITES -/
def mv (p : Pt) (dx dy : Int) : Pt := ⟨wr .i64 (p.f0 + dx), wr .i64 (p.f1 + dy)⟩
def putL (l : List Ft) (f : Ft) : List Ft := if wSrc (pfS l f) = true then pfS l f else l.map Ft.fr
theorem hitF_eq {l : List Ft} {f : Ft} (h : wAtF l f.f0 < l.length) : hitF l f = decide (l[wAtF l f.f0].f0 = f.f0) := by unfold hitF; simp [h]
theorem hitF_end {l : List Ft} {f : Ft} (h : ¬ wAtF l f.f0 < l.length) : hitF l f = false := by unfold hitF; simp [h]
theorem pfS_len (l : List Ft) (f : Ft) : (pfS l f).length ≤ l.length + 1 := by
  have := wAtF_le l f.f0
  unfold pfS
  split <;> simp <;> omega
theorem pfS_ok {l : List Ft} {f : Ft} {p : Ft → Prop} (hl : ∀ x ∈ l, p x.fr) (he : p f.fr) : ∀ x ∈ pfS l f, p x := by
  intro x hx
  unfold pfS at hx
  rcases List.mem_append.1 hx with h | h
  · obtain ⟨y, hy, rfl⟩ := List.mem_map.1 h
    exact hl y (List.mem_of_mem_take hy)
  · rcases List.mem_cons.1 h with rfl | h
    · exact he
    · obtain ⟨y, hy, rfl⟩ := List.mem_map.1 h
      exact hl y (List.mem_of_mem_drop hy)
theorem f78 (l : List Ft) (e : Ft) (nl : Bool) (hl : l.length ≤ 1048576) (hb : ∀ x ∈ l, x.okay) (he : e.okay) (hp : ∀ x ∈ l, x.f4.length ≤ 1000000000) (hpe : e.f4.length ≤ 1000000000) :
    Fn Try.prog 78 true [.lst 5 nl (l.map ft), .agg (ft e)] (.tup [.lst 5 false ((putL l e).map ft), .bool (wSrc (pfS l e))]) := by
  have hk := wAtF_le l e.f0
  have hee : ft e = [i e.f0, i e.f1, i e.f2, .str e.f3, .lst 2 e.nl (e.f4.map cp)] := rfl
  have hef : ft e.fr = [i e.f0, i e.f1, i e.f2, .str e.f3, .lst 2 false (e.f4.map cp)] := rfl
  have cC := f87 l nl (by omega) hp
  have cO := f88 (pfS l e) false (by have := pfS_len l e; omega) (pfS_ok (p := fun x => x.okay) (fun x hx => hb x hx) he)
  have cE := f73 e hpe
  have cP := f87 (l.take (wAtF l e.f0)) nl (by simp; omega) (fun x hx => hp x (List.mem_of_mem_take hx))
  have cR : ∀ j, Fn Try.prog 87 true [.lst 5 nl ((l.map ft).drop j)] (.lst 5 false (((l.drop j).map Ft.fr).map ft)) := fun j => by
    have := f87 (l.drop j) nl (by simp; omega) (fun x hx => hp x (List.mem_of_mem_drop hx))
    rw [List.map_drop] at this
    exact this
  rw [List.map_take] at cP
  have hpl : (((l.take (wAtF l e.f0)).map Ft.fr).map ft).length = wAtF l e.f0 := by simp; omega
  rw [hee, hef] at cE
  rw [hee]
  have hR : (putL l e).map ft = if wSrc (pfS l e) = true then (pfS l e).map ft else (l.map Ft.fr).map ft := by unfold putL; split <;> rfl
  rw [hR]
  obtain ⟨b2, hb2⟩ : ∃ b, wSrc (pfS l e) = b := ⟨_, rfl⟩
  rw [hb2] at cO ⊢
  have hto : (pfS l e).map ft = ((l.take (wAtF l e.f0)).map Ft.fr).map ft ++ [i e.f0, i e.f1, i e.f2, .str e.f3, .lst 2 false (e.f4.map cp)] :: ((l.drop (if hitF l e = true then wAtF l e.f0 + 1 else wAtF l e.f0)).map Ft.fr).map ft := by
    unfold pfS; rw [List.map_append, List.map_cons, hef]
  rw [hto] at cO ⊢
  obtain ⟨P1, hP1⟩ : ∃ P, ((l.take (wAtF l e.f0)).map Ft.fr).map ft = P := ⟨_, rfl⟩
  rw [hP1] at cP cO hpl ⊢
  obtain ⟨C, hC⟩ : ∃ C, (l.map Ft.fr).map ft = C := ⟨_, rfl⟩
  rw [hC] at cC ⊢
  obtain ⟨j, hj⟩ : ∃ j, (if hitF l e = true then wAtF l e.f0 + 1 else wAtF l e.f0) = j := ⟨_, rfl⟩
  rw [hj] at cO ⊢
  have cR' := cR j
  obtain ⟨P2, hP2⟩ : ∃ P, ((l.drop j).map Ft.fr).map ft = P := ⟨_, rfl⟩
  rw [hP2] at cO cR' ⊢
  have hP2l : P2.length ≤ l.length := by rw [← hP2]; simp
  clear cR hP1 hP2 hC hto hb2 hb hp hR hef hee
  refine Fn.by_sx hX (by kernel_rfl) c78 (by kernel_rfl) (by rfl) ?_
  simp [i78, sxa, isPtrN, PV.pcs, elAt, setEl, inAt, elIn, setIn, isLst, cellsOf, Ex.ok, Ex.val, Opd.val, POp.dst, bin_int, binOK_int, bin_str, binOK_str, resOK, resV, RB.val, sub, putc, scB, scL, oneB, conf, Ex.val.eqP, Ex.val.eqL, negV, mxV, mnV, ← wr_eq, wr_zero, wr_one, wr_m1, bst_lst, byteC, partsOK, putAll, appV, nilV, slV, sslV, optB, optNum, and_assoc, exists_and_left, exists_eq_left']
  refine sx_count (wAtF l e.f0) (fun n V => V 0 = .lst 5 nl (l.map ft) ∧ V 3 = .ptr [i e.f0, i e.f1, i e.f2, .str e.f3, .lst 2 e.nl (e.f4.map cp)] ∧ V 6 = i n) 0 (by omega) (by simp [sxa, isPtrN, PV.pcs, elAt, setEl, inAt, elIn, setIn, isLst, cellsOf, Ex.ok, Ex.val, Opd.val, POp.dst, bin_int, binOK_int, bin_str, binOK_str, resOK, resV, RB.val, sub, putc, scB, scL, oneB, conf, Ex.val.eqP, Ex.val.eqL, negV, mxV, mnV, ← wr_eq, wr_zero, wr_one, wr_m1, bst_lst, byteC, partsOK, putAll, appV, nilV, slV, sslV, optB, optNum, and_assoc, exists_and_left, exists_eq_left']) ?_
  rintro n V hn ⟨h0, h3, h6⟩
  have hw : wr .i64 ((n : Int) + 1) = n + 1 := wr_in (by omega) (by omega)
  simp [sxa, isPtrN, PV.pcs, elAt, setEl, inAt, elIn, setIn, isLst, cellsOf, Ex.ok, Ex.val, Opd.val, POp.dst, bin_int, binOK_int, bin_str, binOK_str, resOK, resV, RB.val, sub, putc, scB, scL, oneB, conf, Ex.val.eqP, Ex.val.eqL, negV, mxV, mnV, ← wr_eq, wr_zero, wr_one, wr_m1, bst_lst, byteC, partsOK, putAll, appV, nilV, slV, sslV, optB, optNum, and_assoc, exists_and_left, exists_eq_left', h0, h3, h6]
  rcases Nat.lt_or_ge n (wAtF l e.f0) with hlt | hge
  · have hlt' : n < l.length := by omega
    have hx := wAtF_lt hlt hlt'
    clear cC cO cE cP cR'
    repeat' (first | intro _ | (simp [sxa, isPtrN, PV.pcs, elAt, setEl, inAt, elIn, setIn, isLst, cellsOf, Ex.ok, Ex.val, Opd.val, POp.dst, bin_int, binOK_int, bin_str, binOK_str, resOK, resV, RB.val, sub, putc, scB, scL, oneB, conf, Ex.val.eqP, Ex.val.eqL, negV, mxV, mnV, ← wr_eq, wr_zero, wr_one, wr_m1, bst_lst, byteC, partsOK, putAll, appV, nilV, slV, sslV, optB, optNum, and_assoc, exists_and_left, exists_eq_left', ft, *]) | refine CondS_d (fun h => ?_) (fun h => ?_) | refine CondS_b (fun h => ?_) (fun h => ?_) | refine GrdS_d (fun h => ?_) (fun h => ?_) | refine GrdS_b (fun h => ?_) (fun h => ?_) | refine OkS_i (by omega) ?_ | fail)
  obtain rfl : n = wAtF l e.f0 := by omega
  have hT1 : List.take l.length (List.map ft l) = List.map ft l := List.take_of_length_le (by simp)
  have hT2 : List.take (l.length - wAtF l e.f0) (List.drop (wAtF l e.f0) (List.map ft l)) = List.drop (wAtF l e.f0) (List.map ft l) := List.take_of_length_le (by simp)
  have hT3 : (List.drop (wAtF l e.f0) (List.map ft l)).tail = List.drop (wAtF l e.f0 + 1) (List.map ft l) := by rw [List.tail_drop]
  by_cases hlt' : wAtF l e.f0 < l.length
  · have hx := wAtF_stop hlt'
    have hpos : 0 < l.length - wAtF l e.f0 := by omega
    have hh := hitF_eq hlt'
    by_cases hid : l[wAtF l e.f0].f0 = e.f0
    · rw [hh, if_pos (by simp [hid])] at hj
      subst hj
      cases b2
      all_goals repeat' (first | intro _ | (simp [sxa, isPtrN, PV.pcs, elAt, setEl, inAt, elIn, setIn, isLst, cellsOf, Ex.ok, Ex.val, Opd.val, POp.dst, bin_int, binOK_int, bin_str, binOK_str, resOK, resV, RB.val, sub, putc, scB, scL, oneB, conf, Ex.val.eqP, Ex.val.eqL, negV, mxV, mnV, ← wr_eq, wr_zero, wr_one, wr_m1, bst_lst, byteC, partsOK, putAll, appV, nilV, slV, sslV, optB, optNum, and_assoc, exists_and_left, exists_eq_left', ft, *]) | refine CallS_i (cP) ?_ | refine CallS_i (cE) ?_ | refine CallS_i (cR') ?_ | refine CallS_i (cO) ?_ | refine CallS_i (cC) ?_ | refine CallM_i (cP) ?_ | refine CallM_i (cE) ?_ | refine CallM_i (cR') ?_ | refine CallM_i (cO) ?_ | refine CallM_i (cC) ?_ | refine CallE_i (cP) ?_ | refine CallE_i (cE) ?_ | refine CallE_i (cR') ?_ | refine CallE_i (cO) ?_ | refine CallE_i (cC) ?_ | refine CallX_i (cP) ?_ | refine CallX_i (cE) ?_ | refine CallX_i (cR') ?_ | refine CallX_i (cO) ?_ | refine CallX_i (cC) ?_ | refine CallB_i (cP) ?_ | refine CallB_i (cE) ?_ | refine CallB_i (cR') ?_ | refine CallB_i (cO) ?_ | refine CallB_i (cC) ?_ | refine CondS_d (fun h => ?_) (fun h => ?_) | refine CondS_b (fun h => ?_) (fun h => ?_) | refine GrdS_d (fun h => ?_) (fun h => ?_) | refine GrdS_b (fun h => ?_) (fun h => ?_) | refine OkS_i (by omega) ?_ | fail)
      all_goals first | omega | simp_all
    · rw [hh, if_neg (by simp [hid])] at hj
      subst hj
      cases b2
      all_goals repeat' (first | intro _ | (simp [sxa, isPtrN, PV.pcs, elAt, setEl, inAt, elIn, setIn, isLst, cellsOf, Ex.ok, Ex.val, Opd.val, POp.dst, bin_int, binOK_int, bin_str, binOK_str, resOK, resV, RB.val, sub, putc, scB, scL, oneB, conf, Ex.val.eqP, Ex.val.eqL, negV, mxV, mnV, ← wr_eq, wr_zero, wr_one, wr_m1, bst_lst, byteC, partsOK, putAll, appV, nilV, slV, sslV, optB, optNum, and_assoc, exists_and_left, exists_eq_left', ft, *]) | refine CallS_i (cP) ?_ | refine CallS_i (cE) ?_ | refine CallS_i (cR') ?_ | refine CallS_i (cO) ?_ | refine CallS_i (cC) ?_ | refine CallM_i (cP) ?_ | refine CallM_i (cE) ?_ | refine CallM_i (cR') ?_ | refine CallM_i (cO) ?_ | refine CallM_i (cC) ?_ | refine CallE_i (cP) ?_ | refine CallE_i (cE) ?_ | refine CallE_i (cR') ?_ | refine CallE_i (cO) ?_ | refine CallE_i (cC) ?_ | refine CallX_i (cP) ?_ | refine CallX_i (cE) ?_ | refine CallX_i (cR') ?_ | refine CallX_i (cO) ?_ | refine CallX_i (cC) ?_ | refine CallB_i (cP) ?_ | refine CallB_i (cE) ?_ | refine CallB_i (cR') ?_ | refine CallB_i (cO) ?_ | refine CallB_i (cC) ?_ | refine CondS_d (fun h => ?_) (fun h => ?_) | refine CondS_b (fun h => ?_) (fun h => ?_) | refine GrdS_d (fun h => ?_) (fun h => ?_) | refine GrdS_b (fun h => ?_) (fun h => ?_) | refine OkS_i (by omega) ?_ | fail)
      all_goals first | omega | simp_all
  · rw [hitF_end hlt', if_neg (by simp)] at hj
    subst hj
    have hz : l.length - wAtF l e.f0 = 0 := by omega
    cases b2
    all_goals repeat' (first | intro _ | (simp [sxa, isPtrN, PV.pcs, elAt, setEl, inAt, elIn, setIn, isLst, cellsOf, Ex.ok, Ex.val, Opd.val, POp.dst, bin_int, binOK_int, bin_str, binOK_str, resOK, resV, RB.val, sub, putc, scB, scL, oneB, conf, Ex.val.eqP, Ex.val.eqL, negV, mxV, mnV, ← wr_eq, wr_zero, wr_one, wr_m1, bst_lst, byteC, partsOK, putAll, appV, nilV, slV, sslV, optB, optNum, and_assoc, exists_and_left, exists_eq_left', ft, *]) | refine CallS_i (cP) ?_ | refine CallS_i (cE) ?_ | refine CallS_i (cR') ?_ | refine CallS_i (cO) ?_ | refine CallS_i (cC) ?_ | refine CallM_i (cP) ?_ | refine CallM_i (cE) ?_ | refine CallM_i (cR') ?_ | refine CallM_i (cO) ?_ | refine CallM_i (cC) ?_ | refine CallE_i (cP) ?_ | refine CallE_i (cE) ?_ | refine CallE_i (cR') ?_ | refine CallE_i (cO) ?_ | refine CallE_i (cC) ?_ | refine CallX_i (cP) ?_ | refine CallX_i (cE) ?_ | refine CallX_i (cR') ?_ | refine CallX_i (cO) ?_ | refine CallX_i (cC) ?_ | refine CallB_i (cP) ?_ | refine CallB_i (cE) ?_ | refine CallB_i (cR') ?_ | refine CallB_i (cO) ?_ | refine CallB_i (cC) ?_ | refine CondS_d (fun h => ?_) (fun h => ?_) | refine CondS_b (fun h => ?_) (fun h => ?_) | refine GrdS_d (fun h => ?_) (fun h => ?_) | refine GrdS_b (fun h => ?_) (fun h => ?_) | refine OkS_i (by omega) ?_ | fail)
    all_goals first | omega | simp_all
end Go.Eng
namespace Go.Eng
open Go Go.Proofs Geo
set_option linter.unusedSimpArgs false
set_option linter.unusedVariables false
set_option maxRecDepth 20000
set_option maxHeartbeats 2000000

/-! draws of lists of features. WRITES -/
def goodL (l : List Ft) : Prop := l.length ≤ 16 ∧ ∀ x ∈ l, goodF x
theorem putL_good {l : List Ft} {e : Ft} (hl : ∀ x ∈ l, goodF x) (he : goodF e) : (putL l e).length ≤ l.length + 1 ∧ ∀ x ∈ putL l e, goodF x := by
  unfold putL
  split
  · exact ⟨pfS_len l e, pfS_ok (p := goodF) (fun x hx => (hl x hx).frg) he.frg⟩
  · refine ⟨by simp, fun x hx => ?_⟩
    obtain ⟨y, hy, rfl⟩ := List.mem_map.1 hx
    exact (hl y hy).frg
theorem f61 : FnR Try.prog 61 true true [] (fun v => ∃ l : List Ft, v = .lst 5 false (l.map ft) ∧ goodL l) := by
  refine FnR.by_sxC hX (by kernel_rfl) c61 rfl rfl rfl (fun h => by cases h) ?_
  intro cs hcs
  simp [i61, sxa, isPtrN, PV.pcs, elAt, setEl, inAt, elIn, setIn, isLst, cellsOf, Ex.ok, Ex.val, Opd.val, POp.dst, bin_int, binOK_int, bin_str, binOK_str, resOK, resV, RB.val, sub, putc, scB, scL, oneB, conf, Ex.val.eqP, Ex.val.eqL, negV, mxV, mnV, ← wr_eq, wr_zero, wr_one, wr_m1, bst_lst, byteC, partsOK, putAll, appV, nilV, slV, sslV, optB, optNum, and_assoc, exists_and_left, exists_eq_left']
  refine sx_count 7 (fun n V => isCur (V 0) = true ∧ 1 ≤ n ∧ V 4 = i n ∧ ∃ l : List Ft, V 3 = .lst 5 false (l.map ft) ∧ l.length ≤ n - 1 ∧ ∀ x ∈ l, goodF x) 1 (by omega) ⟨by simp [sxa, isPtrN, PV.pcs, elAt, setEl, inAt, elIn, setIn, isLst, cellsOf, Ex.ok, Ex.val, Opd.val, POp.dst, bin_int, binOK_int, bin_str, binOK_str, resOK, resV, RB.val, sub, putc, scB, scL, oneB, conf, Ex.val.eqP, Ex.val.eqL, negV, mxV, mnV, ← wr_eq, wr_zero, wr_one, wr_m1, bst_lst, byteC, partsOK, putAll, appV, nilV, slV, sslV, optB, optNum, and_assoc, exists_and_left, exists_eq_left', hcs], by omega, by simp [sxa, isPtrN, PV.pcs, elAt, setEl, inAt, elIn, setIn, isLst, cellsOf, Ex.ok, Ex.val, Opd.val, POp.dst, bin_int, binOK_int, bin_str, binOK_str, resOK, resV, RB.val, sub, putc, scB, scL, oneB, conf, Ex.val.eqP, Ex.val.eqL, negV, mxV, mnV, ← wr_eq, wr_zero, wr_one, wr_m1, bst_lst, byteC, partsOK, putAll, appV, nilV, slV, sslV, optB, optNum, and_assoc, exists_and_left, exists_eq_left'], [], by simp [sxa, isPtrN, PV.pcs, elAt, setEl, inAt, elIn, setIn, isLst, cellsOf, Ex.ok, Ex.val, Opd.val, POp.dst, bin_int, binOK_int, bin_str, binOK_str, resOK, resV, RB.val, sub, putc, scB, scL, oneB, conf, Ex.val.eqP, Ex.val.eqL, negV, mxV, mnV, ← wr_eq, wr_zero, wr_one, wr_m1, bst_lst, byteC, partsOK, putAll, appV, nilV, slV, sslV, optB, optNum, and_assoc, exists_and_left, exists_eq_left'], by simp, by simp⟩ ?_
  clear hcs
  rintro n V hn ⟨gc, hn1, g4, l, g3, hl, hg⟩
  repeat' (first | intro _ | (simp [sxa, isPtrN, PV.pcs, elAt, setEl, inAt, elIn, setIn, isLst, cellsOf, Ex.ok, Ex.val, Opd.val, POp.dst, bin_int, binOK_int, bin_str, binOK_str, resOK, resV, RB.val, sub, putc, scB, scL, oneB, conf, Ex.val.eqP, Ex.val.eqL, negV, mxV, mnV, ← wr_eq, wr_zero, wr_one, wr_m1, bst_lst, byteC, partsOK, putAll, appV, nilV, slV, sslV, optB, optNum, and_assoc, exists_and_left, exists_eq_left', *]) | refine ⟨by assumption, CopC_i (f26 6 (by omega)) (fun _ _ => by first | exact ⟨fun _ => rfl, (fun h => by cases h)⟩ | exact ⟨(fun h => by cases h), fun _ => ⟨_, rfl⟩⟩ | exact ⟨(fun h => by cases h), (fun h => by cases h)⟩) (fun x cs hx hcs => ?_)⟩ | refine CopC_i (f26 6 (by omega)) (fun _ _ => by first | exact ⟨fun _ => rfl, (fun h => by cases h)⟩ | exact ⟨(fun h => by cases h), fun _ => ⟨_, rfl⟩⟩ | exact ⟨(fun h => by cases h), (fun h => by cases h)⟩) (fun x cs hx hcs => ?_) | refine CondS_d (fun h => ?_) (fun h => ?_) | refine CondS_b (fun h => ?_) (fun h => ?_) | refine GrdS_d (fun h => ?_) (fun h => ?_) | refine GrdS_b (fun h => ?_) (fun h => ?_) | refine OkS_i (by omega) ?_ | fail)
  · have hx5 := hx.2 (by omega)
    have hx0 := hx.1
    have hw : wr .i64 (1 + x) = 1 + x := wr_in (by omega) (by omega)
    rw [hw] at h
    refine CopC_i (f59 n) (fun _ _ => ⟨(fun h => by cases h), (fun h => by cases h)⟩) (fun e cs2 he hcs2 => ?_)
    have hp := f78 l e false (by omega) (fun x hx => (hg x hx).ok) he.ok (fun x hx => by have := (hg x hx).1.2; omega) (by have := he.1.2; omega)
    obtain ⟨q1, q2⟩ := putL_good hg he
    obtain ⟨L2, hL2⟩ : ∃ L, putL l e = L := ⟨_, rfl⟩
    obtain ⟨bb, hbb⟩ : ∃ b, wSrc (pfS l e) = b := ⟨_, rfl⟩
    rw [hL2, hbb] at hp
    rw [hL2] at q1 q2
    have hw2 : wr .i64 ((n : Int) + 1) = ((n + 1 : Nat) : Int) := by rw [wr_in (by omega) (by omega)]; omega
    clear hL2 hbb hg hcs gc
    repeat' (first | intro _ | (simp [sxa, isPtrN, PV.pcs, elAt, setEl, inAt, elIn, setIn, isLst, cellsOf, Ex.ok, Ex.val, Opd.val, POp.dst, bin_int, binOK_int, bin_str, binOK_str, resOK, resV, RB.val, sub, putc, scB, scL, oneB, conf, Ex.val.eqP, Ex.val.eqL, negV, mxV, mnV, ← wr_eq, wr_zero, wr_one, wr_m1, bst_lst, byteC, partsOK, putAll, appV, nilV, slV, sslV, optB, optNum, and_assoc, exists_and_left, exists_eq_left', *]) | refine CallS_i (hp) ?_ | refine CallM_i (hp) ?_ | refine CallE_i (hp) ?_ | refine CallX_i (hp) ?_ | refine CallB_i (hp) ?_ | refine CondS_d (fun h => ?_) (fun h => ?_) | refine CondS_b (fun h => ?_) (fun h => ?_) | refine GrdS_d (fun h => ?_) (fun h => ?_) | refine GrdS_b (fun h => ?_) (fun h => ?_) | refine OkS_i (by omega) ?_ | fail)
    exact ⟨by omega, L2, rfl, by omega, q2⟩
  · exact ⟨l, rfl, by omega, hg⟩
def szQ (l : List Pt) : Prop := 0 < l.length ∧ l.length ≤ 20
theorem f63 : FnR Try.prog 63 true true [] (fun v => ∃ l : List Pt, v = .lst 2 false (l.map cp) ∧ szQ l) := by
  refine FnR.by_sxC hX (by kernel_rfl) c63 rfl rfl rfl (fun h => by cases h) ?_
  intro cs hcs
  simp [i63, sxa, isPtrN, PV.pcs, elAt, setEl, inAt, elIn, setIn, isLst, cellsOf, Ex.ok, Ex.val, Opd.val, POp.dst, bin_int, binOK_int, bin_str, binOK_str, resOK, resV, RB.val, sub, putc, scB, scL, oneB, conf, Ex.val.eqP, Ex.val.eqL, negV, mxV, mnV, ← wr_eq, wr_zero, wr_one, wr_m1, bst_lst, byteC, partsOK, putAll, appV, nilV, slV, sslV, optB, optNum, and_assoc, exists_and_left, exists_eq_left']
  repeat' (first | intro _ | (simp [sxa, isPtrN, PV.pcs, elAt, setEl, inAt, elIn, setIn, isLst, cellsOf, Ex.ok, Ex.val, Opd.val, POp.dst, bin_int, binOK_int, bin_str, binOK_str, resOK, resV, RB.val, sub, putc, scB, scL, oneB, conf, Ex.val.eqP, Ex.val.eqL, negV, mxV, mnV, ← wr_eq, wr_zero, wr_one, wr_m1, bst_lst, byteC, partsOK, putAll, appV, nilV, slV, sslV, optB, optNum, and_assoc, exists_and_left, exists_eq_left', *]) | refine ⟨by assumption, CopC_i (f76) (fun _ _ => by first | exact ⟨fun _ => rfl, (fun h => by cases h)⟩ | exact ⟨(fun h => by cases h), fun _ => ⟨_, rfl⟩⟩ | exact ⟨(fun h => by cases h), (fun h => by cases h)⟩) (fun x cs hx hcs => ?_)⟩ | refine CopC_i (f76) (fun _ _ => by first | exact ⟨fun _ => rfl, (fun h => by cases h)⟩ | exact ⟨(fun h => by cases h), fun _ => ⟨_, rfl⟩⟩ | exact ⟨(fun h => by cases h), (fun h => by cases h)⟩) (fun x cs hx hcs => ?_) | refine CondS_d (fun h => ?_) (fun h => ?_) | refine CondS_b (fun h => ?_) (fun h => ?_) | refine GrdS_d (fun h => ?_) (fun h => ?_) | refine GrdS_b (fun h => ?_) (fun h => ?_) | refine OkS_i (by omega) ?_ | fail)
  obtain ⟨l, hl⟩ : ∃ l, l = x := ⟨_, rfl⟩
  subst hl
  obtain ⟨hl0, hl6⟩ := hx
  have hw2 : wr .i64 ((l.length : Int) - 1) = ((l.length - 1 : Nat) : Int) := by rw [wr_in (by omega) (by omega)]; omega
  have hlast : l.length - 1 < l.length := by omega
  have hl1 : (1 : Int) ≤ l.length := by omega
  repeat' (first | intro _ | (simp [sxa, isPtrN, PV.pcs, elAt, setEl, inAt, elIn, setIn, isLst, cellsOf, Ex.ok, Ex.val, Opd.val, POp.dst, bin_int, binOK_int, bin_str, binOK_str, resOK, resV, RB.val, sub, putc, scB, scL, oneB, conf, Ex.val.eqP, Ex.val.eqL, negV, mxV, mnV, ← wr_eq, wr_zero, wr_one, wr_m1, bst_lst, byteC, partsOK, putAll, appV, nilV, slV, sslV, optB, optNum, and_assoc, exists_and_left, exists_eq_left', cp, *]) | refine ⟨by assumption, CopC_i (f26 12 (by omega)) (fun _ _ => by first | exact ⟨fun _ => rfl, (fun h => by cases h)⟩ | exact ⟨(fun h => by cases h), fun _ => ⟨_, rfl⟩⟩ | exact ⟨(fun h => by cases h), (fun h => by cases h)⟩) (fun x cs hx hcs => ?_)⟩ | refine ⟨by assumption, CopC_i (f79) (fun _ _ => by first | exact ⟨fun _ => rfl, (fun h => by cases h)⟩ | exact ⟨(fun h => by cases h), fun _ => ⟨_, rfl⟩⟩ | exact ⟨(fun h => by cases h), (fun h => by cases h)⟩) (fun x cs hx hcs => ?_)⟩ | refine CopC_i (f26 12 (by omega)) (fun _ _ => by first | exact ⟨fun _ => rfl, (fun h => by cases h)⟩ | exact ⟨(fun h => by cases h), fun _ => ⟨_, rfl⟩⟩ | exact ⟨(fun h => by cases h), (fun h => by cases h)⟩) (fun x cs hx hcs => ?_) | refine CopC_i (f79) (fun _ _ => by first | exact ⟨fun _ => rfl, (fun h => by cases h)⟩ | exact ⟨(fun h => by cases h), fun _ => ⟨_, rfl⟩⟩ | exact ⟨(fun h => by cases h), (fun h => by cases h)⟩) (fun x cs hx hcs => ?_) | refine CondS_d (fun h => ?_) (fun h => ?_) | refine CondS_b (fun h => ?_) (fun h => ?_) | refine GrdS_d (fun h => ?_) (fun h => ?_) | refine GrdS_b (fun h => ?_) (fun h => ?_) | refine OkS_i (by omega) ?_ | fail)
  · exact ⟨l.set 0 x, by rw [List.map_set]; rfl, by simp [szQ]; omega⟩
  · exact ⟨_, mapApp, by simp [szQ]; omega⟩
  · exact ⟨l.take 1, by rw [List.map_take], by simp [szQ]; omega⟩
  · refine sx_count 11 (fun n V => isCur (V 0) = true ∧ ∃ m : List Pt, m.length = n ∧ 0 < n ∧ V 3 = .lst 2 false (m.map cp)) l.length (by omega) ⟨by simp [sxa, isPtrN, PV.pcs, elAt, setEl, inAt, elIn, setIn, isLst, cellsOf, Ex.ok, Ex.val, Opd.val, POp.dst, bin_int, binOK_int, bin_str, binOK_str, resOK, resV, RB.val, sub, putc, scB, scL, oneB, conf, Ex.val.eqP, Ex.val.eqL, negV, mxV, mnV, ← wr_eq, wr_zero, wr_one, wr_m1, bst_lst, byteC, partsOK, putAll, appV, nilV, slV, sslV, optB, optNum, and_assoc, exists_and_left, exists_eq_left', hcs], l, rfl, hl0, by simp [sxa, isPtrN, PV.pcs, elAt, setEl, inAt, elIn, setIn, isLst, cellsOf, Ex.ok, Ex.val, Opd.val, POp.dst, bin_int, binOK_int, bin_str, binOK_str, resOK, resV, RB.val, sub, putc, scB, scL, oneB, conf, Ex.val.eqP, Ex.val.eqL, negV, mxV, mnV, ← wr_eq, wr_zero, wr_one, wr_m1, bst_lst, byteC, partsOK, putAll, appV, nilV, slV, sslV, optB, optNum, and_assoc, exists_and_left, exists_eq_left']⟩ ?_
    clear hcs hw2 hlast hl1
    rintro n V hn ⟨gc, m, hm, hn0, g3⟩
    subst hm
    have hw3 : wr .i64 (50 + (m.length : Int)) = 50 + m.length := wr_in (by omega) (by omega)
    repeat' (first | intro _ | (simp [sxa, isPtrN, PV.pcs, elAt, setEl, inAt, elIn, setIn, isLst, cellsOf, Ex.ok, Ex.val, Opd.val, POp.dst, bin_int, binOK_int, bin_str, binOK_str, resOK, resV, RB.val, sub, putc, scB, scL, oneB, conf, Ex.val.eqP, Ex.val.eqL, negV, mxV, mnV, ← wr_eq, wr_zero, wr_one, wr_m1, bst_lst, byteC, partsOK, putAll, appV, nilV, slV, sslV, optB, optNum, and_assoc, exists_and_left, exists_eq_left', *]) | refine CondS_d (fun h => ?_) (fun h => ?_) | refine CondS_b (fun h => ?_) (fun h => ?_) | refine GrdS_d (fun h => ?_) (fun h => ?_) | refine GrdS_b (fun h => ?_) (fun h => ?_) | refine OkS_i (by omega) ?_ | fail)
    · first | exact ⟨by omega, _, by simp, by omega, mapApp⟩ | exact ⟨by omega, _, by simp, mapApp⟩
    · first | exact ⟨m, rfl, hn0, by omega⟩ | exact ⟨m, rfl, by unfold szQ; omega⟩
  · exact ⟨l, rfl, by unfold szQ; omega⟩
theorem getL {l : List Ft} {k : Nat} (h : k < l.length) : (l.map ft)[k]? = some (ft l[k]) := by simp [h]
theorem goodL_set {l : List Ft} (hg : goodL l) {k : Nat} {x : Ft} (hx : goodF x) : goodL (l.set k x) :=
  ⟨by rw [List.length_set]; exact hg.1, fun y hy => by
    rcases List.mem_or_eq_of_mem_set hy with h | rfl
    · exact hg.2 y h
    · exact hx⟩
theorem setEx {l : List Ft} {k : Nat} {a b c : Int} {s : ByteArray} {m : List Pt} {nl : Bool} (hg : goodL l) (hs : s.size ≤ 9) (hm : m.length ≤ 20) (hnl : nl = true → m = []) : ∃ l' : List Ft, (l.map ft).set k [i a, i b, i c, .str s, .lst 2 nl (m.map cp)] = l'.map ft ∧ goodL l' :=
  ⟨l.set k ⟨a, b, c, s, m, nl⟩, by rw [List.map_set]; rfl, goodL_set hg ⟨⟨hs, hm⟩, hnl⟩⟩
theorem f43 : FnR Try.prog 43 true true [] (fun v => ∃ l : List Ft, v = .lst 5 false (l.map ft) ∧ goodL l) := by
  refine FnR.by_sxC hX (by kernel_rfl) c43 rfl rfl rfl (fun h => by cases h) ?_
  intro cs hcs
  simp [i43, sxa, isPtrN, PV.pcs, elAt, setEl, inAt, elIn, setIn, isLst, cellsOf, Ex.ok, Ex.val, Opd.val, POp.dst, bin_int, binOK_int, bin_str, binOK_str, resOK, resV, RB.val, sub, putc, scB, scL, oneB, conf, Ex.val.eqP, Ex.val.eqL, negV, mxV, mnV, ← wr_eq, wr_zero, wr_one, wr_m1, bst_lst, byteC, partsOK, putAll, appV, nilV, slV, sslV, optB, optNum, and_assoc, exists_and_left, exists_eq_left']
  repeat' (first | intro _ | (simp [sxa, isPtrN, PV.pcs, elAt, setEl, inAt, elIn, setIn, isLst, cellsOf, Ex.ok, Ex.val, Opd.val, POp.dst, bin_int, binOK_int, bin_str, binOK_str, resOK, resV, RB.val, sub, putc, scB, scL, oneB, conf, Ex.val.eqP, Ex.val.eqL, negV, mxV, mnV, ← wr_eq, wr_zero, wr_one, wr_m1, bst_lst, byteC, partsOK, putAll, appV, nilV, slV, sslV, optB, optNum, and_assoc, exists_and_left, exists_eq_left', *]) | refine ⟨by assumption, CopC_i (f61) (fun _ _ => by first | exact ⟨fun _ => rfl, (fun h => by cases h)⟩ | exact ⟨(fun h => by cases h), fun _ => ⟨_, rfl⟩⟩ | exact ⟨(fun h => by cases h), (fun h => by cases h)⟩) (fun x cs hx hcs => ?_)⟩ | refine CopC_i (f61) (fun _ _ => by first | exact ⟨fun _ => rfl, (fun h => by cases h)⟩ | exact ⟨(fun h => by cases h), fun _ => ⟨_, rfl⟩⟩ | exact ⟨(fun h => by cases h), (fun h => by cases h)⟩) (fun x cs hx hcs => ?_) | refine CondS_d (fun h => ?_) (fun h => ?_) | refine CondS_b (fun h => ?_) (fun h => ?_) | refine GrdS_d (fun h => ?_) (fun h => ?_) | refine GrdS_b (fun h => ?_) (fun h => ?_) | refine OkS_i (by omega) ?_ | fail)
  · exact ⟨by simp, by simp⟩
  obtain ⟨l, hl⟩ : ∃ l, l = x := ⟨_, rfl⟩
  subst hl
  have hgl := hx
  have hpos : 0 < l.length := List.length_pos_iff.2 (by assumption)
  have hl16 := hx.1
  refine CopC_i (f26 (l.length : Int) (by omega)) (fun _ _ => ⟨fun _ => rfl, (fun h => by cases h)⟩) (fun z cs3 hz hcs3 => ?_)
  have hz1 := hz.2 (by omega)
  have hz0 := hz.1
  obtain ⟨k, rfl⟩ : ∃ k : Nat, z = k := ⟨z.toNat, by omega⟩
  have hk : k < l.length := by omega
  have hkI : (k : Int) < l.length := hz1
  have hk0 : (0 : Int) ≤ k := hz0
  have hc0 : FnR Try.prog 27 true false [.lst 1 false [[i 0], [i 1], [i 99], [i 100]]] (fun v => ∃ x : Int, v = i x ∧ rawP x) := (f27 [0, 1, 99, 100] false (by decide) (by decide)).weak (fun v ⟨x, h, _⟩ => ⟨x, h, trivial⟩)
  have hc1 : FnR Try.prog 27 true false [.lst 1 false [[i (-1)], [i 9], [i 10]]] (fun v => ∃ x : Int, v = i x ∧ rawP x) := (f27 [-1, 9, 10] false (by decide) (by decide)).weak (fun v ⟨x, h, _⟩ => ⟨x, h, trivial⟩)
  have hc3 : FnR Try.prog 27 true false [.lst 1 false [[i 0], [i 1], [i 2], [i 3], [i 4]]] (fun v => ∃ x : Int, v = i x ∧ rawP x) := (f27 [0, 1, 2, 3, 4] false (by decide) (by decide)).weak (fun v ⟨x, h, _⟩ => ⟨x, h, trivial⟩)
  have hc2 : FnR Try.prog 62 true false [.lst 1 false [[.str (bs [65])], [.str (bs [116, 111, 111, 108, 111, 110, 103, 97, 97])], [.str (bs [97, 32, 98])]]] (fun v => ∃ x : ByteArray, v = .str x ∧ smS x) :=
    (f62 [bs [65], bs [116, 111, 111, 108, 111, 110, 103, 97, 97], bs [97, 32, 98]] false (by decide) (by decide)).weak (fun v ⟨x, h, hh⟩ => ⟨x, h, by
      simp only [List.mem_cons, List.not_mem_nil, or_false] at hh
      rcases hh with rfl | rfl | rfl <;> (unfold smS; decide)⟩)
  have hgk := hx.2 _ (List.getElem_mem hk)
  have hat : (l.map ft)[k]? = some [i l[k].f0, i l[k].f1, i l[k].f2, .str l[k].f3, .lst 2 l[k].nl (l[k].f4.map cp)] := getL hk
  repeat' (first | intro _ | (simp [sxa, isPtrN, PV.pcs, elAt, setEl, inAt, elIn, setIn, isLst, cellsOf, Ex.ok, Ex.val, Opd.val, POp.dst, bin_int, binOK_int, bin_str, binOK_str, resOK, resV, RB.val, sub, putc, scB, scL, oneB, conf, Ex.val.eqP, Ex.val.eqL, negV, mxV, mnV, ← wr_eq, wr_zero, wr_one, wr_m1, bst_lst, byteC, partsOK, putAll, appV, nilV, slV, sslV, optB, optNum, and_assoc, exists_and_left, exists_eq_left', ft, *]) | refine ⟨by assumption, CopC_i (f26 10 (by omega)) (fun _ _ => by first | exact ⟨fun _ => rfl, (fun h => by cases h)⟩ | exact ⟨(fun h => by cases h), fun _ => ⟨_, rfl⟩⟩ | exact ⟨(fun h => by cases h), (fun h => by cases h)⟩) (fun x cs hx hcs => ?_)⟩ | refine ⟨by assumption, CopC_i (hc0) (fun _ _ => by first | exact ⟨fun _ => rfl, (fun h => by cases h)⟩ | exact ⟨(fun h => by cases h), fun _ => ⟨_, rfl⟩⟩ | exact ⟨(fun h => by cases h), (fun h => by cases h)⟩) (fun x cs hx hcs => ?_)⟩ | refine ⟨by assumption, CopC_i (hc1) (fun _ _ => by first | exact ⟨fun _ => rfl, (fun h => by cases h)⟩ | exact ⟨(fun h => by cases h), fun _ => ⟨_, rfl⟩⟩ | exact ⟨(fun h => by cases h), (fun h => by cases h)⟩) (fun x cs hx hcs => ?_)⟩ | refine ⟨by assumption, CopC_i (hc2) (fun _ _ => by first | exact ⟨fun _ => rfl, (fun h => by cases h)⟩ | exact ⟨(fun h => by cases h), fun _ => ⟨_, rfl⟩⟩ | exact ⟨(fun h => by cases h), (fun h => by cases h)⟩) (fun x cs hx hcs => ?_)⟩ | refine ⟨by assumption, CopC_i (hc3) (fun _ _ => by first | exact ⟨fun _ => rfl, (fun h => by cases h)⟩ | exact ⟨(fun h => by cases h), fun _ => ⟨_, rfl⟩⟩ | exact ⟨(fun h => by cases h), (fun h => by cases h)⟩) (fun x cs hx hcs => ?_)⟩ | refine ⟨by assumption, CopC_i (f63) (fun _ _ => by first | exact ⟨fun _ => rfl, (fun h => by cases h)⟩ | exact ⟨(fun h => by cases h), fun _ => ⟨_, rfl⟩⟩ | exact ⟨(fun h => by cases h), (fun h => by cases h)⟩) (fun x cs hx hcs => ?_)⟩ | refine CopC_i (f26 10 (by omega)) (fun _ _ => by first | exact ⟨fun _ => rfl, (fun h => by cases h)⟩ | exact ⟨(fun h => by cases h), fun _ => ⟨_, rfl⟩⟩ | exact ⟨(fun h => by cases h), (fun h => by cases h)⟩) (fun x cs hx hcs => ?_) | refine CopC_i (hc0) (fun _ _ => by first | exact ⟨fun _ => rfl, (fun h => by cases h)⟩ | exact ⟨(fun h => by cases h), fun _ => ⟨_, rfl⟩⟩ | exact ⟨(fun h => by cases h), (fun h => by cases h)⟩) (fun x cs hx hcs => ?_) | refine CopC_i (hc1) (fun _ _ => by first | exact ⟨fun _ => rfl, (fun h => by cases h)⟩ | exact ⟨(fun h => by cases h), fun _ => ⟨_, rfl⟩⟩ | exact ⟨(fun h => by cases h), (fun h => by cases h)⟩) (fun x cs hx hcs => ?_) | refine CopC_i (hc2) (fun _ _ => by first | exact ⟨fun _ => rfl, (fun h => by cases h)⟩ | exact ⟨(fun h => by cases h), fun _ => ⟨_, rfl⟩⟩ | exact ⟨(fun h => by cases h), (fun h => by cases h)⟩) (fun x cs hx hcs => ?_) | refine CopC_i (hc3) (fun _ _ => by first | exact ⟨fun _ => rfl, (fun h => by cases h)⟩ | exact ⟨(fun h => by cases h), fun _ => ⟨_, rfl⟩⟩ | exact ⟨(fun h => by cases h), (fun h => by cases h)⟩) (fun x cs hx hcs => ?_) | refine CopC_i (f63) (fun _ _ => by first | exact ⟨fun _ => rfl, (fun h => by cases h)⟩ | exact ⟨(fun h => by cases h), fun _ => ⟨_, rfl⟩⟩ | exact ⟨(fun h => by cases h), (fun h => by cases h)⟩) (fun x cs hx hcs => ?_) | refine CondS_d (fun h => ?_) (fun h => ?_) | refine CondS_b (fun h => ?_) (fun h => ?_) | refine GrdS_d (fun h => ?_) (fun h => ?_) | refine GrdS_b (fun h => ?_) (fun h => ?_) | refine OkS_i (by omega) ?_ | fail)
  · exact setEx hgl hgk.1.1 hgk.1.2 hgk.2
  · exact setEx hgl hgk.1.1 hgk.1.2 hgk.2
  · exact setEx hgl hx hgk.1.2 hgk.2
  · exact setEx hgl hgk.1.1 hgk.1.2 hgk.2
  · exact setEx hgl hgk.1.1 hx.2 (fun hh => by cases hh)
  · exact ⟨l, rfl, hgl⟩
theorem goodZ : ∃ x : Ft, [i 0, i 0, i 0, .str (bs []), .lst 2 true []] = ft x ∧ goodF x := ⟨⟨0, 0, 0, bs [], [], true⟩, rfl, by decide, fun _ => rfl⟩
theorem f28 : FnR Try.prog 28 true true [] (fun v => ∃ x : Ft, v = .agg (ft x) ∧ goodF x) := by
  refine FnR.by_sxC hX (by kernel_rfl) c28 rfl rfl rfl (fun h => by cases h) ?_
  intro cs hcs
  simp [i28, sxa, isPtrN, PV.pcs, elAt, setEl, inAt, elIn, setIn, isLst, cellsOf, Ex.ok, Ex.val, Opd.val, POp.dst, bin_int, binOK_int, bin_str, binOK_str, resOK, resV, RB.val, sub, putc, scB, scL, oneB, conf, Ex.val.eqP, Ex.val.eqL, negV, mxV, mnV, ← wr_eq, wr_zero, wr_one, wr_m1, bst_lst, byteC, partsOK, putAll, appV, nilV, slV, sslV, optB, optNum, and_assoc, exists_and_left, exists_eq_left']
  repeat' (first | intro _ | (simp [sxa, isPtrN, PV.pcs, elAt, setEl, inAt, elIn, setIn, isLst, cellsOf, Ex.ok, Ex.val, Opd.val, POp.dst, bin_int, binOK_int, bin_str, binOK_str, resOK, resV, RB.val, sub, putc, scB, scL, oneB, conf, Ex.val.eqP, Ex.val.eqL, negV, mxV, mnV, ← wr_eq, wr_zero, wr_one, wr_m1, bst_lst, byteC, partsOK, putAll, appV, nilV, slV, sslV, optB, optNum, and_assoc, exists_and_left, exists_eq_left', *]) | refine ⟨by assumption, CopC_i (f43) (fun _ _ => by first | exact ⟨fun _ => rfl, (fun h => by cases h)⟩ | exact ⟨(fun h => by cases h), fun _ => ⟨_, rfl⟩⟩ | exact ⟨(fun h => by cases h), (fun h => by cases h)⟩) (fun x cs hx hcs => ?_)⟩ | refine CopC_i (f43) (fun _ _ => by first | exact ⟨fun _ => rfl, (fun h => by cases h)⟩ | exact ⟨(fun h => by cases h), fun _ => ⟨_, rfl⟩⟩ | exact ⟨(fun h => by cases h), (fun h => by cases h)⟩) (fun x cs hx hcs => ?_) | refine CondS_d (fun h => ?_) (fun h => ?_) | refine CondS_b (fun h => ?_) (fun h => ?_) | refine GrdS_d (fun h => ?_) (fun h => ?_) | refine GrdS_b (fun h => ?_) (fun h => ?_) | refine OkS_i (by omega) ?_ | fail)
  · exact goodZ
  · obtain ⟨l, hl⟩ : ∃ l, l = x := ⟨_, rfl⟩
    subst hl
    have hpos : 0 < l.length := List.length_pos_iff.2 (by assumption)
    have hg0 := hx.2 _ (List.getElem_mem hpos)
    repeat' (first | intro _ | (simp [sxa, isPtrN, PV.pcs, elAt, setEl, inAt, elIn, setIn, isLst, cellsOf, Ex.ok, Ex.val, Opd.val, POp.dst, bin_int, binOK_int, bin_str, binOK_str, resOK, resV, RB.val, sub, putc, scB, scL, oneB, conf, Ex.val.eqP, Ex.val.eqL, negV, mxV, mnV, ← wr_eq, wr_zero, wr_one, wr_m1, bst_lst, byteC, partsOK, putAll, appV, nilV, slV, sslV, optB, optNum, and_assoc, exists_and_left, exists_eq_left', ft, *]) | refine CondS_d (fun h => ?_) (fun h => ?_) | refine CondS_b (fun h => ?_) (fun h => ?_) | refine GrdS_d (fun h => ?_) (fun h => ?_) | refine GrdS_b (fun h => ?_) (fun h => ?_) | refine OkS_i (by omega) ?_ | fail)
    exact ⟨l[0], rfl, rfl, rfl, rfl, rfl, rfl, hg0⟩
end Go.Eng
namespace Go.Eng
open Go Go.Proofs Geo
set_option linter.unusedSimpArgs false
set_option linter.unusedVariables false
set_option maxRecDepth 20000
set_option maxHeartbeats 1000000

/-! logs are copied; newer entries. WRITES -/
def wNew (x y : En) : Bool := decide (x.f1 > y.f1) || (decide (x.f1 = y.f1) && decide (x.f2 > y.f2))
theorem f56 (x y : En) : Fn Try.prog 56 false [.agg (en x), .agg (en y)] (.bool (wNew x y)) := by
  unfold en
  refine Fn.by_sx hX (by kernel_rfl) c56 (by kernel_rfl) (by rfl) ?_
  simp [i56, sxa, isPtrN, PV.pcs, elAt, setEl, inAt, elIn, setIn, isLst, cellsOf, Ex.ok, Ex.val, Opd.val, POp.dst, bin_int, binOK_int, bin_str, binOK_str, resOK, resV, RB.val, sub, putc, scB, scL, oneB, conf, Ex.val.eqP, Ex.val.eqL, negV, mxV, mnV, ← wr_eq, wr_zero, wr_one, wr_m1, bst_lst, byteC, partsOK, putAll, appV, nilV, slV, sslV, optB, optNum, and_assoc, exists_and_left, exists_eq_left']
  repeat' (first | intro _ | (simp [sxa, isPtrN, PV.pcs, elAt, setEl, inAt, elIn, setIn, isLst, cellsOf, Ex.ok, Ex.val, Opd.val, POp.dst, bin_int, binOK_int, bin_str, binOK_str, resOK, resV, RB.val, sub, putc, scB, scL, oneB, conf, Ex.val.eqP, Ex.val.eqL, negV, mxV, mnV, ← wr_eq, wr_zero, wr_one, wr_m1, bst_lst, byteC, partsOK, putAll, appV, nilV, slV, sslV, optB, optNum, and_assoc, exists_and_left, exists_eq_left', *]) | refine CondS_d (fun h => ?_) (fun h => ?_) | refine CondS_b (fun h => ?_) (fun h => ?_) | refine GrdS_d (fun h => ?_) (fun h => ?_) | refine GrdS_b (fun h => ?_) (fun h => ?_) | refine OkS_i (by omega) ?_ | fail)
  all_goals simp_all [wNew]
theorem f10 (x y : En) : Fn Try.prog 10 false [.agg (en x), .agg (en y)] (.bool (wNew x y)) := by
  unfold en
  refine Fn.by_sx hX (by kernel_rfl) c10 (by kernel_rfl) (by rfl) ?_
  simp [i10, sxa, isPtrN, PV.pcs, elAt, setEl, inAt, elIn, setIn, isLst, cellsOf, Ex.ok, Ex.val, Opd.val, POp.dst, bin_int, binOK_int, bin_str, binOK_str, resOK, resV, RB.val, sub, putc, scB, scL, oneB, conf, Ex.val.eqP, Ex.val.eqL, negV, mxV, mnV, ← wr_eq, wr_zero, wr_one, wr_m1, bst_lst, byteC, partsOK, putAll, appV, nilV, slV, sslV, optB, optNum, and_assoc, exists_and_left, exists_eq_left']
  repeat' (first | intro _ | (simp [sxa, isPtrN, PV.pcs, elAt, setEl, inAt, elIn, setIn, isLst, cellsOf, Ex.ok, Ex.val, Opd.val, POp.dst, bin_int, binOK_int, bin_str, binOK_str, resOK, resV, RB.val, sub, putc, scB, scL, oneB, conf, Ex.val.eqP, Ex.val.eqL, negV, mxV, mnV, ← wr_eq, wr_zero, wr_one, wr_m1, bst_lst, byteC, partsOK, putAll, appV, nilV, slV, sslV, optB, optNum, and_assoc, exists_and_left, exists_eq_left', *]) | refine CondS_d (fun h => ?_) (fun h => ?_) | refine CondS_b (fun h => ?_) (fun h => ?_) | refine GrdS_d (fun h => ?_) (fun h => ?_) | refine GrdS_b (fun h => ?_) (fun h => ?_) | refine OkS_i (by omega) ?_ | fail)
  all_goals simp_all [wNew]
def frEN (l : List En) (n : Nat) : List En := (l.take n).map En.fr
theorem frEN_succ {l : List En} {n : Nat} (h : n < l.length) : frEN l (n + 1) = frEN l n ++ [l[n].fr] := by
  unfold frEN
  rw [List.take_add_one, List.getElem?_eq_getElem h, List.map_append]
  rfl
theorem frEN_all (l : List En) : frEN l l.length = l.map En.fr := by unfold frEN; rw [List.take_of_length_le (Nat.le_refl _)]
theorem frEN_len {l : List En} {n : Nat} (h : n ≤ l.length) : (frEN l n).length = n := by unfold frEN; simp; omega
theorem f58 (x : En) (hx : x.f0.f4.length ≤ 1000000000) : Fn Try.prog 58 true [.agg (en x)] (.agg (en x.fr)) := by
  have hc := f73 x.f0 hx
  unfold ft Ft.fr at hc
  unfold en En.fr Ft.fr
  refine Fn.by_sx hX (by kernel_rfl) c58 (by kernel_rfl) (by rfl) ?_
  simp [i58, sxa, isPtrN, PV.pcs, elAt, setEl, inAt, elIn, setIn, isLst, cellsOf, Ex.ok, Ex.val, Opd.val, POp.dst, bin_int, binOK_int, bin_str, binOK_str, resOK, resV, RB.val, sub, putc, scB, scL, oneB, conf, Ex.val.eqP, Ex.val.eqL, negV, mxV, mnV, ← wr_eq, wr_zero, wr_one, wr_m1, bst_lst, byteC, partsOK, putAll, appV, nilV, slV, sslV, optB, optNum, and_assoc, exists_and_left, exists_eq_left']
  repeat' (first | intro _ | (simp [sxa, isPtrN, PV.pcs, elAt, setEl, inAt, elIn, setIn, isLst, cellsOf, Ex.ok, Ex.val, Opd.val, POp.dst, bin_int, binOK_int, bin_str, binOK_str, resOK, resV, RB.val, sub, putc, scB, scL, oneB, conf, Ex.val.eqP, Ex.val.eqL, negV, mxV, mnV, ← wr_eq, wr_zero, wr_one, wr_m1, bst_lst, byteC, partsOK, putAll, appV, nilV, slV, sslV, optB, optNum, and_assoc, exists_and_left, exists_eq_left', *]) | refine CallS_i (hc) ?_ | refine CallM_i (hc) ?_ | refine CallE_i (hc) ?_ | refine CallX_i (hc) ?_ | refine CallB_i (hc) ?_ | refine CondS_d (fun h => ?_) (fun h => ?_) | refine CondS_b (fun h => ?_) (fun h => ?_) | refine GrdS_d (fun h => ?_) (fun h => ?_) | refine GrdS_b (fun h => ?_) (fun h => ?_) | refine OkS_i (by omega) ?_ | fail)
theorem f57 (l : List En) (nl : Bool) (hl : l.length ≤ 1000000000) (hf : ∀ x ∈ l, x.f0.f4.length ≤ 1000000000) : Fn Try.prog 57 true [.lst 8 nl (l.map en)] (.lst 8 false ((l.map En.fr).map en)) := by
  refine Fn.by_sx hX (by kernel_rfl) c57 (by kernel_rfl) (by rfl) ?_
  simp [i57, sxa, isPtrN, PV.pcs, elAt, setEl, inAt, elIn, setIn, isLst, cellsOf, Ex.ok, Ex.val, Opd.val, POp.dst, bin_int, binOK_int, bin_str, binOK_str, resOK, resV, RB.val, sub, putc, scB, scL, oneB, conf, Ex.val.eqP, Ex.val.eqL, negV, mxV, mnV, ← wr_eq, wr_zero, wr_one, wr_m1, bst_lst, byteC, partsOK, putAll, appV, nilV, slV, sslV, optB, optNum, and_assoc, exists_and_left, exists_eq_left']
  refine sx_count l.length (fun n V => V 0 = .lst 8 nl (l.map en) ∧ V 4 = i n ∧ V 3 = .lst 8 false ((frEN l n).map en)) 0 (by omega) (by simp [sxa, isPtrN, PV.pcs, elAt, setEl, inAt, elIn, setIn, isLst, cellsOf, Ex.ok, Ex.val, Opd.val, POp.dst, bin_int, binOK_int, bin_str, binOK_str, resOK, resV, RB.val, sub, putc, scB, scL, oneB, conf, Ex.val.eqP, Ex.val.eqL, negV, mxV, mnV, ← wr_eq, wr_zero, wr_one, wr_m1, bst_lst, byteC, partsOK, putAll, appV, nilV, slV, sslV, optB, optNum, and_assoc, exists_and_left, exists_eq_left', frEN]) ?_
  rintro n V hn ⟨h0, h4, h3⟩
  have hw : wr .i64 ((n : Int) + 1) = n + 1 := wr_in (by omega) (by omega)
  simp [sxa, isPtrN, PV.pcs, elAt, setEl, inAt, elIn, setIn, isLst, cellsOf, Ex.ok, Ex.val, Opd.val, POp.dst, bin_int, binOK_int, bin_str, binOK_str, resOK, resV, RB.val, sub, putc, scB, scL, oneB, conf, Ex.val.eqP, Ex.val.eqL, negV, mxV, mnV, ← wr_eq, wr_zero, wr_one, wr_m1, bst_lst, byteC, partsOK, putAll, appV, nilV, slV, sslV, optB, optNum, and_assoc, exists_and_left, exists_eq_left', h0, h4]
  refine CondS_d (fun hlt => ?_) (fun hge => ?_)
  · have hlt' : n < l.length := by omega
    have hnx := frEN_succ hlt'
    have hlen := frEN_len (l := l) (n := n) (by omega)
    have hc := f58 l[n] (hf _ (List.getElem_mem ..))
    have hee : en l[n].fr = [i l[n].f0.f0, i l[n].f0.f1, i l[n].f0.f2, .str l[n].f0.f3, .lst 2 false (l[n].f0.f4.map cp), i l[n].f1, i l[n].f2, .bool l[n].f3] := rfl
    rw [hee] at hc
    clear hf
    repeat' (first | intro _ | (simp [sxa, isPtrN, PV.pcs, elAt, setEl, inAt, elIn, setIn, isLst, cellsOf, Ex.ok, Ex.val, Opd.val, POp.dst, bin_int, binOK_int, bin_str, binOK_str, resOK, resV, RB.val, sub, putc, scB, scL, oneB, conf, Ex.val.eqP, Ex.val.eqL, negV, mxV, mnV, ← wr_eq, wr_zero, wr_one, wr_m1, bst_lst, byteC, partsOK, putAll, appV, nilV, slV, sslV, optB, optNum, and_assoc, exists_and_left, exists_eq_left', en, *]) | refine CallS_i (hc) ?_ | refine CallM_i (hc) ?_ | refine CallE_i (hc) ?_ | refine CallX_i (hc) ?_ | refine CallB_i (hc) ?_ | refine CondS_d (fun h => ?_) (fun h => ?_) | refine CondS_b (fun h => ?_) (fun h => ?_) | refine GrdS_d (fun h => ?_) (fun h => ?_) | refine GrdS_b (fun h => ?_) (fun h => ?_) | refine OkS_i (by omega) ?_ | fail)
    all_goals first | omega | exact ⟨rfl, rfl, rfl, rfl, rfl, rfl, rfl, rfl, rfl⟩ | simp_all
  · have : n = l.length := by omega
    subst this
    have ha := frEN_all l
    repeat' (first | intro _ | (simp [sxa, isPtrN, PV.pcs, elAt, setEl, inAt, elIn, setIn, isLst, cellsOf, Ex.ok, Ex.val, Opd.val, POp.dst, bin_int, binOK_int, bin_str, binOK_str, resOK, resV, RB.val, sub, putc, scB, scL, oneB, conf, Ex.val.eqP, Ex.val.eqL, negV, mxV, mnV, ← wr_eq, wr_zero, wr_one, wr_m1, bst_lst, byteC, partsOK, putAll, appV, nilV, slV, sslV, optB, optNum, and_assoc, exists_and_left, exists_eq_left', *]) | refine CondS_d (fun h => ?_) (fun h => ?_) | refine CondS_b (fun h => ?_) (fun h => ?_) | refine GrdS_d (fun h => ?_) (fun h => ?_) | refine GrdS_b (fun h => ?_) (fun h => ?_) | refine OkS_i (by omega) ?_ | fail)
theorem f15 (l : List En) (nl : Bool) (hl : l.length ≤ 1000000000) (hf : ∀ x ∈ l, x.f0.f4.length ≤ 1000000000) (hn : ∀ x ∈ l, x.f0.nl = false) : Fn Try.prog 15 true [.lst 8 nl (l.map en)] (.lst 8 false ((l.map En.fr).map en)) := by
  refine Fn.by_sx hX (by kernel_rfl) c15 (by kernel_rfl) (by rfl) ?_
  simp [i15, sxa, isPtrN, PV.pcs, elAt, setEl, inAt, elIn, setIn, isLst, cellsOf, Ex.ok, Ex.val, Opd.val, POp.dst, bin_int, binOK_int, bin_str, binOK_str, resOK, resV, RB.val, sub, putc, scB, scL, oneB, conf, Ex.val.eqP, Ex.val.eqL, negV, mxV, mnV, ← wr_eq, wr_zero, wr_one, wr_m1, bst_lst, byteC, partsOK, putAll, appV, nilV, slV, sslV, optB, optNum, and_assoc, exists_and_left, exists_eq_left']
  refine sx_count l.length (fun n V => V 7 = .lst 8 nl (l.map en) ∧ V 8 = i l.length ∧ V 9 = i n ∧ V 3 = .lst 8 false ((frEN l n).map en)) 0 (by omega) (by simp [sxa, isPtrN, PV.pcs, elAt, setEl, inAt, elIn, setIn, isLst, cellsOf, Ex.ok, Ex.val, Opd.val, POp.dst, bin_int, binOK_int, bin_str, binOK_str, resOK, resV, RB.val, sub, putc, scB, scL, oneB, conf, Ex.val.eqP, Ex.val.eqL, negV, mxV, mnV, ← wr_eq, wr_zero, wr_one, wr_m1, bst_lst, byteC, partsOK, putAll, appV, nilV, slV, sslV, optB, optNum, and_assoc, exists_and_left, exists_eq_left', frEN]) ?_
  rintro n V hn' ⟨h7, h8, h9, h3⟩
  have hw : wr .i64 ((n : Int) + 1) = n + 1 := wr_in (by omega) (by omega)
  simp [sxa, isPtrN, PV.pcs, elAt, setEl, inAt, elIn, setIn, isLst, cellsOf, Ex.ok, Ex.val, Opd.val, POp.dst, bin_int, binOK_int, bin_str, binOK_str, resOK, resV, RB.val, sub, putc, scB, scL, oneB, conf, Ex.val.eqP, Ex.val.eqL, negV, mxV, mnV, ← wr_eq, wr_zero, wr_one, wr_m1, bst_lst, byteC, partsOK, putAll, appV, nilV, slV, sslV, optB, optNum, and_assoc, exists_and_left, exists_eq_left', h8, h9]
  refine CondS_d (fun hlt => ?_) (fun hge => ?_)
  · have hlt' : n < l.length := by omega
    have hnx := frEN_succ hlt'
    have hlen := frEN_len (l := l) (n := n) (by omega)
    have hc := f24 l[n].f0 (hn _ (List.getElem_mem ..)) (hf _ (List.getElem_mem ..))
    have hee : en l[n].fr = [i l[n].f0.f0, i l[n].f0.f1, i l[n].f0.f2, .str l[n].f0.f3, .lst 2 false (l[n].f0.f4.map cp), i l[n].f1, i l[n].f2, .bool l[n].f3] := rfl
    have hnn := hn l[n] (List.getElem_mem ..)
    unfold ft Ft.fr at hc
    rw [hnn] at hc
    clear hf hn
    repeat' (first | intro _ | (simp [sxa, isPtrN, PV.pcs, elAt, setEl, inAt, elIn, setIn, isLst, cellsOf, Ex.ok, Ex.val, Opd.val, POp.dst, bin_int, binOK_int, bin_str, binOK_str, resOK, resV, RB.val, sub, putc, scB, scL, oneB, conf, Ex.val.eqP, Ex.val.eqL, negV, mxV, mnV, ← wr_eq, wr_zero, wr_one, wr_m1, bst_lst, byteC, partsOK, putAll, appV, nilV, slV, sslV, optB, optNum, and_assoc, exists_and_left, exists_eq_left', en, *]) | refine CallS_i (hc) ?_ | refine CallM_i (hc) ?_ | refine CallE_i (hc) ?_ | refine CallX_i (hc) ?_ | refine CallB_i (hc) ?_ | refine CondS_d (fun h => ?_) (fun h => ?_) | refine CondS_b (fun h => ?_) (fun h => ?_) | refine GrdS_d (fun h => ?_) (fun h => ?_) | refine GrdS_b (fun h => ?_) (fun h => ?_) | refine OkS_i (by omega) ?_ | fail)
    all_goals first | omega | exact ⟨rfl, rfl, rfl, rfl, rfl, rfl, rfl, rfl, rfl⟩ | simp_all
  · have : n = l.length := by omega
    subst this
    have ha := frEN_all l
    repeat' (first | intro _ | (simp [sxa, isPtrN, PV.pcs, elAt, setEl, inAt, elIn, setIn, isLst, cellsOf, Ex.ok, Ex.val, Opd.val, POp.dst, bin_int, binOK_int, bin_str, binOK_str, resOK, resV, RB.val, sub, putc, scB, scL, oneB, conf, Ex.val.eqP, Ex.val.eqL, negV, mxV, mnV, ← wr_eq, wr_zero, wr_one, wr_m1, bst_lst, byteC, partsOK, putAll, appV, nilV, slV, sslV, optB, optNum, and_assoc, exists_and_left, exists_eq_left', *]) | refine CondS_d (fun h => ?_) (fun h => ?_) | refine CondS_b (fun h => ?_) (fun h => ?_) | refine GrdS_d (fun h => ?_) (fun h => ?_) | refine GrdS_b (fun h => ?_) (fun h => ?_) | refine OkS_i (by omega) ?_ | fail)
end Go.Eng
namespace Go.Eng
open Go Go.Proofs Go.Shelf
set_option linter.unusedSimpArgs false
set_option linter.unusedVariables false
set_option maxRecDepth 20000
set_option maxHeartbeats 1000000

/-! slices.Insert, slices.Delete -/
def rho29 : Ren := rhoI 29 44 45 24 33
theorem L29 : InsL Try.prog rho29 8 88 (zvOf Try.prog 33) where
  mixed := by kernel_rfl
  f22 := ⟨fnm Try.prog 29, by kernel_rfl, by kernel_rfl⟩
  f29 := fun args w => by
    rw [run_callFunc_extern (f := rho29.f 29) (fn := { Body2.n29 rho29 with name := fnm Try.prog 44 }) (by kernel_rfl) (by kernel_rfl) (by kernel_rfl) (by kernel_rfl) (e := Extern.SlicesOverlaps.overlaps #[(rho29.t 24), (rho29.t 24)] #[(rho29.t 4)]) (by kernel_rfl)]
  t0 := by kernel_rfl
  a0 := fun _ => by kernel_rfl
  z0 := fun _ => by kernel_rfl
  v0 := fun _ => by kernel_rfl
  t3 := by kernel_rfl
  a3 := fun _ => by kernel_rfl
  z3 := fun _ => by kernel_rfl
  v3 := fun _ => by kernel_rfl
  t4 := by kernel_rfl
  a4 := fun _ => by kernel_rfl
  z4 := fun _ => by kernel_rfl
  v4 := fun _ => by kernel_rfl
  z9 := fun _ => by kernel_rfl
  t24 := by kernel_rfl
  a24 := fun _ => by kernel_rfl
  z24 := fun _ => by kernel_rfl
  v24 := fun _ => by kernel_rfl
  i9 := by kernel_rfl
  hz := by omega
  hzc := by kernel_rfl
theorem f29 {nl : Bool} {els : List (List PV)} {v : List PV} {k : Nat} (hi : k ≤ els.length)
    (h63 : els.length + 1 ≤ 70368744177664) (hbig : (els.length + 1) * 88 ≤ 140737488355328) :
    FnX Try.prog 29 [.lst 8 nl els, i k, .lst 8 false [v]] (.lst 8 false (els.take k ++ v :: els.drop k)) := ins_X L29 (by kernel_rfl) hi h63 hbig
end Go.Eng
namespace Go.Eng
open Go Go.Proofs Geo
set_option linter.unusedSimpArgs false
set_option linter.unusedVariables false
set_option maxRecDepth 20000
set_option maxHeartbeats 1000000

/-! an entry is taken into a log. WRITES -/
def wAt : List En → Int → Nat
  | [], _ => 0
  | x :: r, id => if x.f0.f0 < id then wAt r id + 1 else 0
theorem wAt_le : ∀ (l : List En) (id : Int), wAt l id ≤ l.length
  | [], _ => Nat.le_refl _
  | x :: r, id => by have := wAt_le r id; unfold wAt; split <;> simp <;> omega
theorem wAt_lt : ∀ {l : List En} {id : Int} {j : Nat} (hj : j < wAt l id) (h : j < l.length), l[j].f0.f0 < id
  | [], _, _, _, h => by simp at h
  | x :: r, id, 0, hj, h => by
    unfold wAt at hj
    split at hj
    · assumption
    · omega
  | x :: r, id, j + 1, hj, h => by
    unfold wAt at hj
    split at hj
    · exact wAt_lt (l := r) (j := j) (by omega) (by simpa using h)
    · omega
theorem wAt_stop : ∀ {l : List En} {id : Int} (h : wAt l id < l.length), ¬ l[wAt l id].f0.f0 < id
  | [], _, h => by simp at h
  | x :: r, id, h => by
    by_cases hx : x.f0.f0 < id
    · have e : wAt (x :: r) id = wAt r id + 1 := by simp [wAt, hx]
      simp only [e, List.getElem_cons_succ]
      exact wAt_stop (l := r) (by rw [e] at h; simpa using h)
    · have e : wAt (x :: r) id = 0 := by simp [wAt, hx]
      simp only [e, List.getElem_cons_zero]
      exact hx
def hit (l : List En) (e : En) : Bool := decide (wAt l e.f0.f0 < l.length) && decide ((l.getD (wAt l e.f0.f0) enD).f0.f0 = e.f0.f0)
def tkO (l : List En) (e : En) : List En := (l.take (wAt l e.f0.f0)).map En.fr ++ e.fr :: (l.drop (if hit l e = true then wAt l e.f0.f0 + 1 else wAt l e.f0.f0)).map En.fr
def tk (l : List En) (e : En) : List En := if (hit l e && !wNew e (l.getD (wAt l e.f0.f0) enD)) = true then l.map En.fr else if (wLog l && wLog (tkO l e)) = true then tkO l e else l.map En.fr
theorem tk_hit {l : List En} {e : En} (h : wAt l e.f0.f0 < l.length) (hid : l[wAt l e.f0.f0].f0.f0 = e.f0.f0) : hit l e = true := by unfold hit; simp [h, hid]
theorem tk_no {l : List En} {e : En} (h : wAt l e.f0.f0 < l.length) (hid : ¬ l[wAt l e.f0.f0].f0.f0 = e.f0.f0) : hit l e = false := by unfold hit; simp [h, hid]
theorem tk_end {l : List En} {e : En} (h : ¬ wAt l e.f0.f0 < l.length) : hit l e = false := by unfold hit; simp [h]
theorem tk_old {l : List En} {e : En} (h : wAt l e.f0.f0 < l.length) (hh : hit l e = true) (hn : wNew e l[wAt l e.f0.f0] = false) : tk l e = l.map En.fr := by unfold tk; rw [if_pos (by simp [hh, h, hn])]
theorem tk_is {l : List En} {e : En} (hh : hit l e = false ∨ ∃ h : wAt l e.f0.f0 < l.length, wNew e l[wAt l e.f0.f0] = true) : tk l e = if (wLog l && wLog (tkO l e)) = true then tkO l e else l.map En.fr := by
  unfold tk
  rw [if_neg]
  rcases hh with hh | ⟨h, hh⟩
  · simp [hh]
  · simp [h, hh]
theorem tkO_ok {l : List En} {e : En} {p : En → Prop} (hl : ∀ x ∈ l, p x.fr) (he : p e.fr) : ∀ x ∈ tkO l e, p x := by
  intro x hx
  unfold tkO at hx
  rcases List.mem_append.1 hx with h | h
  · obtain ⟨y, hy, rfl⟩ := List.mem_map.1 h
    exact hl y (List.mem_of_mem_take hy)
  · rcases List.mem_cons.1 h with rfl | h
    · exact he
    · obtain ⟨y, hy, rfl⟩ := List.mem_map.1 h
      exact hl y (List.mem_of_mem_drop hy)
theorem tkO_len {l : List En} {e : En} : (tkO l e).length ≤ l.length + 1 := by
  have := wAt_le l e.f0.f0
  unfold tkO
  split <;> simp <;> omega
theorem f40 (l : List En) (e : En) (nl : Bool) (hl : l.length ≤ 1048576) (hb : ∀ x ∈ l, x.f0.okay) (he : e.f0.okay) (hp : ∀ x ∈ l, x.f0.f4.length ≤ 1000000000) (hpe : e.f0.f4.length ≤ 1000000000) :
    Fn Try.prog 40 true [.lst 8 nl (l.map en), .agg (en e)] (.lst 8 false ((tk l e).map en)) := by
  have hk := wAt_le l e.f0.f0
  have hee : en e = [i e.f0.f0, i e.f0.f1, i e.f0.f2, .str e.f0.f3, .lst 2 e.f0.nl (e.f0.f4.map cp), i e.f1, i e.f2, .bool e.f3] := rfl
  have hef : en e.fr = [i e.f0.f0, i e.f0.f1, i e.f0.f2, .str e.f0.f3, .lst 2 false (e.f0.f4.map cp), i e.f1, i e.f2, .bool e.f3] := rfl
  have cC := f57 l nl (by omega) hp
  have cL := f8 l nl (by omega) hb
  have cO := f8 (tkO l e) false (by have := @tkO_len l e; omega) (tkO_ok (p := fun x => x.f0.okay) (fun x hx => hb x hx) he)
  have cE := f58 e hpe
  have cP := f57 (l.take (wAt l e.f0.f0)) nl (by simp; omega) (fun x hx => hp x (List.mem_of_mem_take hx))
  have cR : ∀ j, Fn Try.prog 57 true [.lst 8 nl ((l.map en).drop j)] (.lst 8 false (((l.drop j).map En.fr).map en)) := fun j => by
    have := f57 (l.drop j) nl (by simp; omega) (fun x hx => hp x (List.mem_of_mem_drop hx))
    rw [List.map_drop] at this
    exact this
  rw [List.map_take] at cP
  have hpl : (((l.take (wAt l e.f0.f0)).map En.fr).map en).length = wAt l e.f0.f0 := by simp; omega
  rw [hee, hef] at cE
  rw [hee]
  obtain ⟨b1, hb1⟩ : ∃ b, wLog l = b := ⟨_, rfl⟩
  obtain ⟨b2, hb2⟩ : ∃ b, wLog (tkO l e) = b := ⟨_, rfl⟩
  rw [hb1] at cL
  rw [hb2] at cO
  have hto : (tkO l e).map en = ((l.take (wAt l e.f0.f0)).map En.fr).map en ++ [i e.f0.f0, i e.f0.f1, i e.f0.f2, .str e.f0.f3, .lst 2 false (e.f0.f4.map cp), i e.f1, i e.f2, .bool e.f3] :: ((l.drop (if hit l e = true then wAt l e.f0.f0 + 1 else wAt l e.f0.f0)).map En.fr).map en := by
    unfold tkO; rw [List.map_append, List.map_cons, hef]
  rw [hto] at cO
  obtain ⟨P1, hP1⟩ : ∃ P, ((l.take (wAt l e.f0.f0)).map En.fr).map en = P := ⟨_, rfl⟩
  rw [hP1] at cP cO hto hpl
  obtain ⟨C, hC⟩ : ∃ C, (l.map En.fr).map en = C := ⟨_, rfl⟩
  rw [hC] at cC
  refine Fn.by_sx hX (by kernel_rfl) c40 (by kernel_rfl) (by rfl) ?_
  simp [i40, sxa, isPtrN, PV.pcs, elAt, setEl, inAt, elIn, setIn, isLst, cellsOf, Ex.ok, Ex.val, Opd.val, POp.dst, bin_int, binOK_int, bin_str, binOK_str, resOK, resV, RB.val, sub, putc, scB, scL, oneB, conf, Ex.val.eqP, Ex.val.eqL, negV, mxV, mnV, ← wr_eq, wr_zero, wr_one, wr_m1, bst_lst, byteC, partsOK, putAll, appV, nilV, slV, sslV, optB, optNum, and_assoc, exists_and_left, exists_eq_left']
  refine sx_count (wAt l e.f0.f0) (fun n V => V 0 = .lst 8 nl (l.map en) ∧ V 3 = .ptr [i e.f0.f0, i e.f0.f1, i e.f0.f2, .str e.f0.f3, .lst 2 e.f0.nl (e.f0.f4.map cp), i e.f1, i e.f2, .bool e.f3] ∧ V 5 = i n) 0 (by omega) (by simp [sxa, isPtrN, PV.pcs, elAt, setEl, inAt, elIn, setIn, isLst, cellsOf, Ex.ok, Ex.val, Opd.val, POp.dst, bin_int, binOK_int, bin_str, binOK_str, resOK, resV, RB.val, sub, putc, scB, scL, oneB, conf, Ex.val.eqP, Ex.val.eqL, negV, mxV, mnV, ← wr_eq, wr_zero, wr_one, wr_m1, bst_lst, byteC, partsOK, putAll, appV, nilV, slV, sslV, optB, optNum, and_assoc, exists_and_left, exists_eq_left']) ?_
  rintro n V hn ⟨h0, h3, h5⟩
  have hw : wr .i64 ((n : Int) + 1) = n + 1 := wr_in (by omega) (by omega)
  simp [sxa, isPtrN, PV.pcs, elAt, setEl, inAt, elIn, setIn, isLst, cellsOf, Ex.ok, Ex.val, Opd.val, POp.dst, bin_int, binOK_int, bin_str, binOK_str, resOK, resV, RB.val, sub, putc, scB, scL, oneB, conf, Ex.val.eqP, Ex.val.eqL, negV, mxV, mnV, ← wr_eq, wr_zero, wr_one, wr_m1, bst_lst, byteC, partsOK, putAll, appV, nilV, slV, sslV, optB, optNum, and_assoc, exists_and_left, exists_eq_left', h0, h3, h5]
  rcases Nat.lt_or_ge n (wAt l e.f0.f0) with hlt | hge
  · have hlt' : n < l.length := by omega
    have hx := wAt_lt hlt hlt'
    clear cC cL cO cE cP cR hP1 hC hto hb1 hb2 hp hb
    repeat' (first | intro _ | (simp [sxa, isPtrN, PV.pcs, elAt, setEl, inAt, elIn, setIn, isLst, cellsOf, Ex.ok, Ex.val, Opd.val, POp.dst, bin_int, binOK_int, bin_str, binOK_str, resOK, resV, RB.val, sub, putc, scB, scL, oneB, conf, Ex.val.eqP, Ex.val.eqL, negV, mxV, mnV, ← wr_eq, wr_zero, wr_one, wr_m1, bst_lst, byteC, partsOK, putAll, appV, nilV, slV, sslV, optB, optNum, and_assoc, exists_and_left, exists_eq_left', en, *]) | refine CondS_d (fun h => ?_) (fun h => ?_) | refine CondS_b (fun h => ?_) (fun h => ?_) | refine GrdS_d (fun h => ?_) (fun h => ?_) | refine GrdS_b (fun h => ?_) (fun h => ?_) | refine OkS_i (by omega) ?_ | fail)
  obtain rfl : n = wAt l e.f0.f0 := by omega
  clear hp hb hef hee
  have hT1 : List.take l.length (List.map en l) = List.map en l := List.take_of_length_le (by simp)
  have hT2 : List.take (l.length - wAt l e.f0.f0) (List.drop (wAt l e.f0.f0) (List.map en l)) = List.drop (wAt l e.f0.f0) (List.map en l) := List.take_of_length_le (by simp)
  have hT3 : (List.drop (wAt l e.f0.f0) (List.map en l)).tail = List.drop (wAt l e.f0.f0 + 1) (List.map en l) := by rw [List.tail_drop]
  by_cases hlt' : wAt l e.f0.f0 < l.length
  · have hx := wAt_stop hlt'
    have hpos : 0 < l.length - wAt l e.f0.f0 := by omega
    by_cases hid : l[wAt l e.f0.f0].f0.f0 = e.f0.f0
    · have hh := tk_hit hlt' hid
      have cN := f56 e l[wAt l e.f0.f0]
      obtain ⟨nb, hnb⟩ : ∃ b, wNew e l[wAt l e.f0.f0] = b := ⟨_, rfl⟩
      rw [hnb] at cN
      unfold en at cN
      rw [hid] at cN
      cases nb with
      | false =>
        have hR : (tk l e).map en = C := by rw [tk_old hlt' hh hnb, hC]
        repeat' (first | intro _ | (simp [sxa, isPtrN, PV.pcs, elAt, setEl, inAt, elIn, setIn, isLst, cellsOf, Ex.ok, Ex.val, Opd.val, POp.dst, bin_int, binOK_int, bin_str, binOK_str, resOK, resV, RB.val, sub, putc, scB, scL, oneB, conf, Ex.val.eqP, Ex.val.eqL, negV, mxV, mnV, ← wr_eq, wr_zero, wr_one, wr_m1, bst_lst, byteC, partsOK, putAll, appV, nilV, slV, sslV, optB, optNum, and_assoc, exists_and_left, exists_eq_left', en, hR, *]) | refine CallS_i (cC) ?_ | refine CallS_i (cN) ?_ | refine CallM_i (cC) ?_ | refine CallM_i (cN) ?_ | refine CallE_i (cC) ?_ | refine CallE_i (cN) ?_ | refine CallX_i (cC) ?_ | refine CallX_i (cN) ?_ | refine CallB_i (cC) ?_ | refine CallB_i (cN) ?_ | refine CondS_d (fun h => ?_) (fun h => ?_) | refine CondS_b (fun h => ?_) (fun h => ?_) | refine GrdS_d (fun h => ?_) (fun h => ?_) | refine GrdS_b (fun h => ?_) (fun h => ?_) | refine OkS_i (by omega) ?_ | fail)
      | true =>
        have cR' := cR (wAt l e.f0.f0 + 1)
        rw [if_pos hh] at cO hto
        obtain ⟨P2, hP2⟩ : ∃ P, ((l.drop (wAt l e.f0.f0 + 1)).map En.fr).map en = P := ⟨_, rfl⟩
        rw [hP2] at cO hto cR'
        have hR := tk_is (l := l) (e := e) (.inr ⟨hlt', hnb⟩)
        rw [hb1, hb2] at hR
        have hP2l : P2.length ≤ l.length := by rw [← hP2]; simp
        cases b1 <;> cases b2
        all_goals simp at hR
        all_goals (first | replace hR : (tk l e).map en = C := (by rw [hR, hC]) | rw [← hR] at hto)
        all_goals clear cR hb1 hb2 hnb hP1 hP2 hC
        all_goals repeat' (first | intro _ | (simp [sxa, isPtrN, PV.pcs, elAt, setEl, inAt, elIn, setIn, isLst, cellsOf, Ex.ok, Ex.val, Opd.val, POp.dst, bin_int, binOK_int, bin_str, binOK_str, resOK, resV, RB.val, sub, putc, scB, scL, oneB, conf, Ex.val.eqP, Ex.val.eqL, negV, mxV, mnV, ← wr_eq, wr_zero, wr_one, wr_m1, bst_lst, byteC, partsOK, putAll, appV, nilV, slV, sslV, optB, optNum, and_assoc, exists_and_left, exists_eq_left', en, *]) | refine CallS_i (cN) ?_ | refine CallS_i (cP) ?_ | refine CallS_i (cE) ?_ | refine CallS_i (cR') ?_ | refine CallS_i (cL) ?_ | refine CallS_i (cO) ?_ | refine CallS_i (cC) ?_ | refine CallM_i (cN) ?_ | refine CallM_i (cP) ?_ | refine CallM_i (cE) ?_ | refine CallM_i (cR') ?_ | refine CallM_i (cL) ?_ | refine CallM_i (cO) ?_ | refine CallM_i (cC) ?_ | refine CallE_i (cN) ?_ | refine CallE_i (cP) ?_ | refine CallE_i (cE) ?_ | refine CallE_i (cR') ?_ | refine CallE_i (cL) ?_ | refine CallE_i (cO) ?_ | refine CallE_i (cC) ?_ | refine CallX_i (cN) ?_ | refine CallX_i (cP) ?_ | refine CallX_i (cE) ?_ | refine CallX_i (cR') ?_ | refine CallX_i (cL) ?_ | refine CallX_i (cO) ?_ | refine CallX_i (cC) ?_ | refine CallB_i (cN) ?_ | refine CallB_i (cP) ?_ | refine CallB_i (cE) ?_ | refine CallB_i (cR') ?_ | refine CallB_i (cL) ?_ | refine CallB_i (cO) ?_ | refine CallB_i (cC) ?_ | refine CondS_d (fun h => ?_) (fun h => ?_) | refine CondS_b (fun h => ?_) (fun h => ?_) | refine GrdS_d (fun h => ?_) (fun h => ?_) | refine GrdS_b (fun h => ?_) (fun h => ?_) | refine OkS_i (by omega) ?_ | fail)
        all_goals first | omega | simp_all
    · have hh := tk_no hlt' hid
      have cR' := cR (wAt l e.f0.f0)
      rw [if_neg (by simp [hh])] at cO hto
      obtain ⟨P2, hP2⟩ : ∃ P, ((l.drop (wAt l e.f0.f0)).map En.fr).map en = P := ⟨_, rfl⟩
      rw [hP2] at cO hto cR'
      have hR := tk_is (l := l) (e := e) (.inl hh)
      rw [hb1, hb2] at hR
      have hP2l : P2.length ≤ l.length := by rw [← hP2]; simp
      cases b1 <;> cases b2
      all_goals simp at hR
      all_goals (first | replace hR : (tk l e).map en = C := (by rw [hR, hC]) | rw [← hR] at hto)
      all_goals clear cR hb1 hb2 hP1 hP2 hC
      all_goals repeat' (first | intro _ | (simp [sxa, isPtrN, PV.pcs, elAt, setEl, inAt, elIn, setIn, isLst, cellsOf, Ex.ok, Ex.val, Opd.val, POp.dst, bin_int, binOK_int, bin_str, binOK_str, resOK, resV, RB.val, sub, putc, scB, scL, oneB, conf, Ex.val.eqP, Ex.val.eqL, negV, mxV, mnV, ← wr_eq, wr_zero, wr_one, wr_m1, bst_lst, byteC, partsOK, putAll, appV, nilV, slV, sslV, optB, optNum, and_assoc, exists_and_left, exists_eq_left', en, *]) | refine CallS_i (cP) ?_ | refine CallS_i (cE) ?_ | refine CallS_i (cR') ?_ | refine CallS_i (cL) ?_ | refine CallS_i (cO) ?_ | refine CallS_i (cC) ?_ | refine CallM_i (cP) ?_ | refine CallM_i (cE) ?_ | refine CallM_i (cR') ?_ | refine CallM_i (cL) ?_ | refine CallM_i (cO) ?_ | refine CallM_i (cC) ?_ | refine CallE_i (cP) ?_ | refine CallE_i (cE) ?_ | refine CallE_i (cR') ?_ | refine CallE_i (cL) ?_ | refine CallE_i (cO) ?_ | refine CallE_i (cC) ?_ | refine CallX_i (cP) ?_ | refine CallX_i (cE) ?_ | refine CallX_i (cR') ?_ | refine CallX_i (cL) ?_ | refine CallX_i (cO) ?_ | refine CallX_i (cC) ?_ | refine CallB_i (cP) ?_ | refine CallB_i (cE) ?_ | refine CallB_i (cR') ?_ | refine CallB_i (cL) ?_ | refine CallB_i (cO) ?_ | refine CallB_i (cC) ?_ | refine CondS_d (fun h => ?_) (fun h => ?_) | refine CondS_b (fun h => ?_) (fun h => ?_) | refine GrdS_d (fun h => ?_) (fun h => ?_) | refine GrdS_b (fun h => ?_) (fun h => ?_) | refine OkS_i (by omega) ?_ | fail)
      all_goals first | omega | simp_all
  · have hh := tk_end hlt'
    have cR' := cR (wAt l e.f0.f0)
    rw [if_neg (by simp [hh])] at cO hto
    obtain ⟨P2, hP2⟩ : ∃ P, ((l.drop (wAt l e.f0.f0)).map En.fr).map en = P := ⟨_, rfl⟩
    rw [hP2] at cO hto cR'
    have hR := tk_is (l := l) (e := e) (.inl hh)
    rw [hb1, hb2] at hR
    have hP2l : P2.length ≤ l.length := by rw [← hP2]; simp
    have hz : l.length - wAt l e.f0.f0 = 0 := by omega
    cases b1 <;> cases b2
    all_goals simp at hR
    all_goals (first | replace hR : (tk l e).map en = C := (by rw [hR, hC]) | rw [← hR] at hto)
    all_goals clear cR hb1 hb2 hP1 hP2 hC
    all_goals repeat' (first | intro _ | (simp [sxa, isPtrN, PV.pcs, elAt, setEl, inAt, elIn, setIn, isLst, cellsOf, Ex.ok, Ex.val, Opd.val, POp.dst, bin_int, binOK_int, bin_str, binOK_str, resOK, resV, RB.val, sub, putc, scB, scL, oneB, conf, Ex.val.eqP, Ex.val.eqL, negV, mxV, mnV, ← wr_eq, wr_zero, wr_one, wr_m1, bst_lst, byteC, partsOK, putAll, appV, nilV, slV, sslV, optB, optNum, and_assoc, exists_and_left, exists_eq_left', en, *]) | refine CallS_i (cP) ?_ | refine CallS_i (cE) ?_ | refine CallS_i (cR') ?_ | refine CallS_i (cL) ?_ | refine CallS_i (cO) ?_ | refine CallS_i (cC) ?_ | refine CallM_i (cP) ?_ | refine CallM_i (cE) ?_ | refine CallM_i (cR') ?_ | refine CallM_i (cL) ?_ | refine CallM_i (cO) ?_ | refine CallM_i (cC) ?_ | refine CallE_i (cP) ?_ | refine CallE_i (cE) ?_ | refine CallE_i (cR') ?_ | refine CallE_i (cL) ?_ | refine CallE_i (cO) ?_ | refine CallE_i (cC) ?_ | refine CallX_i (cP) ?_ | refine CallX_i (cE) ?_ | refine CallX_i (cR') ?_ | refine CallX_i (cL) ?_ | refine CallX_i (cO) ?_ | refine CallX_i (cC) ?_ | refine CallB_i (cP) ?_ | refine CallB_i (cE) ?_ | refine CallB_i (cR') ?_ | refine CallB_i (cL) ?_ | refine CallB_i (cO) ?_ | refine CallB_i (cC) ?_ | refine CondS_d (fun h => ?_) (fun h => ?_) | refine CondS_b (fun h => ?_) (fun h => ?_) | refine GrdS_d (fun h => ?_) (fun h => ?_) | refine GrdS_b (fun h => ?_) (fun h => ?_) | refine OkS_i (by omega) ?_ | fail)
    all_goals first | omega | simp_all
end Go.Eng
namespace Go.Eng
open Go Go.Proofs Geo
set_option linter.unusedSimpArgs false
set_option linter.unusedVariables false
set_option maxRecDepth 20000
set_option maxHeartbeats 1000000

/-! an entry is taken into a log, and a log into a log. WRITES -/
theorem tkO_set {l : List En} {e : En} (h : wAt l e.f0.f0 < l.length) (hh : hit l e = true) : ((l.map En.fr).map en).set (wAt l e.f0.f0) (en e.fr) = (tkO l e).map en := by
  unfold tkO
  rw [if_pos hh, List.map_append, List.map_cons, List.set_eq_take_append_cons_drop, if_pos (by simpa using h)]
  simp
theorem tkO_ins {l : List En} {e : En} (hh : hit l e = false) : ((l.map En.fr).map en).take (wAt l e.f0.f0) ++ en e.fr :: ((l.map En.fr).map en).drop (wAt l e.f0.f0) = (tkO l e).map en := by
  unfold tkO
  rw [if_neg (by simp [hh]), List.map_append, List.map_cons]
  simp
theorem tk_bad {l : List En} {e : En} (h : wLog l = false) : tk l e = l.map En.fr := by unfold tk; rw [h]; simp
theorem f16 (l : List En) (e : En) (nl : Bool) (hl : l.length ≤ 1048576) (hb : ∀ x ∈ l, x.f0.okay) (he : e.f0.okay) (hp : ∀ x ∈ l, x.f0.f4.length ≤ 1000000000) (hpe : e.f0.f4.length ≤ 1000000000)
    (hn : ∀ x ∈ l, x.f0.nl = false) (hne : e.f0.nl = false) :
    Fn Try.prog 16 true [.lst 8 nl (l.map en), .agg (en e)] (.lst 8 false ((tk l e).map en)) := by
  have hk := wAt_le l e.f0.f0
  have hee : en e = [i e.f0.f0, i e.f0.f1, i e.f0.f2, .str e.f0.f3, .lst 2 false (e.f0.f4.map cp), i e.f1, i e.f2, .bool e.f3] := by unfold en; rw [hne]
  have hef : en e.fr = [i e.f0.f0, i e.f0.f1, i e.f0.f2, .str e.f0.f3, .lst 2 false (e.f0.f4.map cp), i e.f1, i e.f2, .bool e.f3] := rfl
  have cC := f15 l nl (by omega) hp hn
  have cL := f7 l nl (by omega) hb
  have cO := f7 (tkO l e) false (by have := @tkO_len l e; omega) (tkO_ok (p := fun x => x.f0.okay) (fun x hx => hb x hx) he)
  have cE := f24 e.f0 hne hpe
  unfold ft Ft.fr at cE
  rw [hne] at cE
  rw [hee]
  obtain ⟨b1, hb1⟩ : ∃ b, wLog l = b := ⟨_, rfl⟩
  obtain ⟨b2, hb2⟩ : ∃ b, wLog (tkO l e) = b := ⟨_, rfl⟩
  rw [hb1] at cL
  rw [hb2] at cO
  have hset := @tkO_set l e
  have hins := @tkO_ins l e
  rw [hef] at hset hins
  obtain ⟨C, hC⟩ : ∃ C, (l.map En.fr).map en = C := ⟨_, rfl⟩
  obtain ⟨T, hT⟩ : ∃ T, (tkO l e).map en = T := ⟨_, rfl⟩
  rw [hC] at cC hset hins
  rw [hT] at cO hset hins
  have hCl : C.length = l.length := by rw [← hC]; simp
  have hC8 : ∀ cs ∈ C, cs.length = 8 := fun cs hcs => by
    rw [← hC] at hcs
    obtain ⟨y, _, rfl⟩ := List.mem_map.1 hcs
    rfl
  refine Fn.by_sx hX (by kernel_rfl) c16 (by kernel_rfl) (by rfl) ?_
  simp [i16, sxa, isPtrN, PV.pcs, elAt, setEl, inAt, elIn, setIn, isLst, cellsOf, Ex.ok, Ex.val, Opd.val, POp.dst, bin_int, binOK_int, bin_str, binOK_str, resOK, resV, RB.val, sub, putc, scB, scL, oneB, conf, Ex.val.eqP, Ex.val.eqL, negV, mxV, mnV, ← wr_eq, wr_zero, wr_one, wr_m1, bst_lst, byteC, partsOK, putAll, appV, nilV, slV, sslV, optB, optNum, and_assoc, exists_and_left, exists_eq_left']
  cases b1 with
  | false =>
    have hR : (tk l e).map en = C := by rw [tk_bad hb1, hC]
    repeat' (first | intro _ | (simp [sxa, isPtrN, PV.pcs, elAt, setEl, inAt, elIn, setIn, isLst, cellsOf, Ex.ok, Ex.val, Opd.val, POp.dst, bin_int, binOK_int, bin_str, binOK_str, resOK, resV, RB.val, sub, putc, scB, scL, oneB, conf, Ex.val.eqP, Ex.val.eqL, negV, mxV, mnV, ← wr_eq, wr_zero, wr_one, wr_m1, bst_lst, byteC, partsOK, putAll, appV, nilV, slV, sslV, optB, optNum, and_assoc, exists_and_left, exists_eq_left', *]) | refine CallS_i (cC) ?_ | refine CallS_i (cL) ?_ | refine CallM_i (cC) ?_ | refine CallM_i (cL) ?_ | refine CallE_i (cC) ?_ | refine CallE_i (cL) ?_ | refine CallX_i (cC) ?_ | refine CallX_i (cL) ?_ | refine CallB_i (cC) ?_ | refine CallB_i (cL) ?_ | refine CondS_d (fun h => ?_) (fun h => ?_) | refine CondS_b (fun h => ?_) (fun h => ?_) | refine GrdS_d (fun h => ?_) (fun h => ?_) | refine GrdS_b (fun h => ?_) (fun h => ?_) | refine OkS_i (by omega) ?_ | fail)
  | true =>
  clear hp hb hn
  repeat' (first | intro _ | (simp [sxa, isPtrN, PV.pcs, elAt, setEl, inAt, elIn, setIn, isLst, cellsOf, Ex.ok, Ex.val, Opd.val, POp.dst, bin_int, binOK_int, bin_str, binOK_str, resOK, resV, RB.val, sub, putc, scB, scL, oneB, conf, Ex.val.eqP, Ex.val.eqL, negV, mxV, mnV, ← wr_eq, wr_zero, wr_one, wr_m1, bst_lst, byteC, partsOK, putAll, appV, nilV, slV, sslV, optB, optNum, and_assoc, exists_and_left, exists_eq_left', *]) | refine CallS_i (cC) ?_ | refine CallS_i (cL) ?_ | refine CallM_i (cC) ?_ | refine CallM_i (cL) ?_ | refine CallE_i (cC) ?_ | refine CallE_i (cL) ?_ | refine CallX_i (cC) ?_ | refine CallX_i (cL) ?_ | refine CallB_i (cC) ?_ | refine CallB_i (cL) ?_ | refine CondS_d (fun h => ?_) (fun h => ?_) | refine CondS_b (fun h => ?_) (fun h => ?_) | refine GrdS_d (fun h => ?_) (fun h => ?_) | refine GrdS_b (fun h => ?_) (fun h => ?_) | refine OkS_i (by omega) ?_ | fail)
  refine sx_count (wAt l e.f0.f0) (fun n V => V 0 = .lst 8 nl (l.map en) ∧ V 3 = .ptr [i e.f0.f0, i e.f0.f1, i e.f0.f2, .str e.f0.f3, .lst 2 false (e.f0.f4.map cp), i e.f1, i e.f2, .bool e.f3] ∧ V 5 = .lst 8 false C ∧ V 6 = i n) 0 (by omega) (by simp [sxa, isPtrN, PV.pcs, elAt, setEl, inAt, elIn, setIn, isLst, cellsOf, Ex.ok, Ex.val, Opd.val, POp.dst, bin_int, binOK_int, bin_str, binOK_str, resOK, resV, RB.val, sub, putc, scB, scL, oneB, conf, Ex.val.eqP, Ex.val.eqL, negV, mxV, mnV, ← wr_eq, wr_zero, wr_one, wr_m1, bst_lst, byteC, partsOK, putAll, appV, nilV, slV, sslV, optB, optNum, and_assoc, exists_and_left, exists_eq_left']) ?_
  rintro n V hn ⟨h0, h3, h5, h6⟩
  have hw : wr .i64 ((n : Int) + 1) = n + 1 := wr_in (by omega) (by omega)
  simp [sxa, isPtrN, PV.pcs, elAt, setEl, inAt, elIn, setIn, isLst, cellsOf, Ex.ok, Ex.val, Opd.val, POp.dst, bin_int, binOK_int, bin_str, binOK_str, resOK, resV, RB.val, sub, putc, scB, scL, oneB, conf, Ex.val.eqP, Ex.val.eqL, negV, mxV, mnV, ← wr_eq, wr_zero, wr_one, wr_m1, bst_lst, byteC, partsOK, putAll, appV, nilV, slV, sslV, optB, optNum, and_assoc, exists_and_left, exists_eq_left', h0, h3, h6]
  rcases Nat.lt_or_ge n (wAt l e.f0.f0) with hlt | hge
  · have hlt' : n < l.length := by omega
    have hx := wAt_lt hlt hlt'
    clear cC cL cO cE hset hins hC hT hb1 hb2
    repeat' (first | intro _ | (simp [sxa, isPtrN, PV.pcs, elAt, setEl, inAt, elIn, setIn, isLst, cellsOf, Ex.ok, Ex.val, Opd.val, POp.dst, bin_int, binOK_int, bin_str, binOK_str, resOK, resV, RB.val, sub, putc, scB, scL, oneB, conf, Ex.val.eqP, Ex.val.eqL, negV, mxV, mnV, ← wr_eq, wr_zero, wr_one, wr_m1, bst_lst, byteC, partsOK, putAll, appV, nilV, slV, sslV, optB, optNum, and_assoc, exists_and_left, exists_eq_left', en, *]) | refine CondS_d (fun h => ?_) (fun h => ?_) | refine CondS_b (fun h => ?_) (fun h => ?_) | refine GrdS_d (fun h => ?_) (fun h => ?_) | refine GrdS_b (fun h => ?_) (fun h => ?_) | refine OkS_i (by omega) ?_ | fail)
  obtain rfl : n = wAt l e.f0.f0 := by omega
  clear hef hee
  by_cases hlt' : wAt l e.f0.f0 < l.length
  · have hx := wAt_stop hlt'
    by_cases hid : l[wAt l e.f0.f0].f0.f0 = e.f0.f0
    · have hh := tk_hit hlt' hid
      have cN := f10 e l[wAt l e.f0.f0]
      obtain ⟨nb, hnb⟩ : ∃ b, wNew e l[wAt l e.f0.f0] = b := ⟨_, rfl⟩
      rw [hnb] at cN
      unfold en at cN
      rw [hid, hne] at cN
      cases nb with
      | false =>
        have hR : (tk l e).map en = C := by rw [tk_old hlt' hh hnb, hC]
        repeat' (first | intro _ | (simp [sxa, isPtrN, PV.pcs, elAt, setEl, inAt, elIn, setIn, isLst, cellsOf, Ex.ok, Ex.val, Opd.val, POp.dst, bin_int, binOK_int, bin_str, binOK_str, resOK, resV, RB.val, sub, putc, scB, scL, oneB, conf, Ex.val.eqP, Ex.val.eqL, negV, mxV, mnV, ← wr_eq, wr_zero, wr_one, wr_m1, bst_lst, byteC, partsOK, putAll, appV, nilV, slV, sslV, optB, optNum, and_assoc, exists_and_left, exists_eq_left', en, hR, *]) | refine CallS_i (cC) ?_ | refine CallS_i (cN) ?_ | refine CallS_i (cE) ?_ | refine CallM_i (cC) ?_ | refine CallM_i (cN) ?_ | refine CallM_i (cE) ?_ | refine CallE_i (cC) ?_ | refine CallE_i (cN) ?_ | refine CallE_i (cE) ?_ | refine CallX_i (cC) ?_ | refine CallX_i (cN) ?_ | refine CallX_i (cE) ?_ | refine CallB_i (cC) ?_ | refine CallB_i (cN) ?_ | refine CallB_i (cE) ?_ | refine CondS_d (fun h => ?_) (fun h => ?_) | refine CondS_b (fun h => ?_) (fun h => ?_) | refine GrdS_d (fun h => ?_) (fun h => ?_) | refine GrdS_b (fun h => ?_) (fun h => ?_) | refine OkS_i (by omega) ?_ | fail)
      | true =>
        have hs := hset hlt' hh
        have hkC : wAt l e.f0.f0 < C.length := by omega
        have hd8 : List.drop 8 C[wAt l e.f0.f0] = [] := List.drop_of_length_le (by rw [hC8 _ (List.getElem_mem hkC)]; omega)
        have hR := tk_is (l := l) (e := e) (.inr ⟨hlt', hnb⟩)
        rw [hb1, hb2] at hR
        cases b2
        all_goals simp at hR
        all_goals (first | replace hR : (tk l e).map en = C := (by rw [hR, hC]) | rw [← hR] at hT)
        all_goals clear hb1 hb2 hnb hC hset hins hC8
        all_goals repeat' (first | intro _ | (simp [sxa, isPtrN, PV.pcs, elAt, setEl, inAt, elIn, setIn, isLst, cellsOf, Ex.ok, Ex.val, Opd.val, POp.dst, bin_int, binOK_int, bin_str, binOK_str, resOK, resV, RB.val, sub, putc, scB, scL, oneB, conf, Ex.val.eqP, Ex.val.eqL, negV, mxV, mnV, ← wr_eq, wr_zero, wr_one, wr_m1, bst_lst, byteC, partsOK, putAll, appV, nilV, slV, sslV, optB, optNum, and_assoc, exists_and_left, exists_eq_left', en, *]) | refine CallS_i (cN) ?_ | refine CallS_i (cE) ?_ | refine CallS_i (cO) ?_ | refine CallS_i (cC) ?_ | refine CallM_i (cN) ?_ | refine CallM_i (cE) ?_ | refine CallM_i (cO) ?_ | refine CallM_i (cC) ?_ | refine CallE_i (cN) ?_ | refine CallE_i (cE) ?_ | refine CallE_i (cO) ?_ | refine CallE_i (cC) ?_ | refine CallX_i (cN) ?_ | refine CallX_i (cE) ?_ | refine CallX_i (cO) ?_ | refine CallX_i (cC) ?_ | refine CallB_i (cN) ?_ | refine CallB_i (cE) ?_ | refine CallB_i (cO) ?_ | refine CallB_i (cC) ?_ | refine CondS_d (fun h => ?_) (fun h => ?_) | refine CondS_b (fun h => ?_) (fun h => ?_) | refine GrdS_d (fun h => ?_) (fun h => ?_) | refine GrdS_b (fun h => ?_) (fun h => ?_) | refine OkS_i (by omega) ?_ | fail)
        all_goals first | omega | simp_all
    · have hh := tk_no hlt' hid
      have hs := hins hh
      have hI := f29 (nl := false) (els := C) (v := [i e.f0.f0, i e.f0.f1, i e.f0.f2, .str e.f0.f3, .lst 2 false (e.f0.f4.map cp), i e.f1, i e.f2, .bool e.f3]) (k := wAt l e.f0.f0) (by omega) (by omega) (by omega)
      rw [hs] at hI
      have hR := tk_is (l := l) (e := e) (.inl hh)
      rw [hb1, hb2] at hR
      cases b2
      all_goals simp at hR
      all_goals (first | replace hR : (tk l e).map en = C := (by rw [hR, hC]) | rw [← hR] at hT)
      all_goals clear hb1 hb2 hC hset hins hs hC8
      all_goals repeat' (first | intro _ | (simp [sxa, isPtrN, PV.pcs, elAt, setEl, inAt, elIn, setIn, isLst, cellsOf, Ex.ok, Ex.val, Opd.val, POp.dst, bin_int, binOK_int, bin_str, binOK_str, resOK, resV, RB.val, sub, putc, scB, scL, oneB, conf, Ex.val.eqP, Ex.val.eqL, negV, mxV, mnV, ← wr_eq, wr_zero, wr_one, wr_m1, bst_lst, byteC, partsOK, putAll, appV, nilV, slV, sslV, optB, optNum, and_assoc, exists_and_left, exists_eq_left', en, *]) | refine CallS_i (cE) ?_ | refine CallS_i (hI) ?_ | refine CallS_i (cO) ?_ | refine CallS_i (cC) ?_ | refine CallM_i (cE) ?_ | refine CallM_i (hI) ?_ | refine CallM_i (cO) ?_ | refine CallM_i (cC) ?_ | refine CallE_i (cE) ?_ | refine CallE_i (hI) ?_ | refine CallE_i (cO) ?_ | refine CallE_i (cC) ?_ | refine CallX_i (cE) ?_ | refine CallX_i (hI) ?_ | refine CallX_i (cO) ?_ | refine CallX_i (cC) ?_ | refine CallB_i (cE) ?_ | refine CallB_i (hI) ?_ | refine CallB_i (cO) ?_ | refine CallB_i (cC) ?_ | refine CondS_d (fun h => ?_) (fun h => ?_) | refine CondS_b (fun h => ?_) (fun h => ?_) | refine GrdS_d (fun h => ?_) (fun h => ?_) | refine GrdS_b (fun h => ?_) (fun h => ?_) | refine OkS_i (by omega) ?_ | fail)
      all_goals first | omega | simp_all
  · have hh := tk_end hlt'
    have hs := hins hh
    have hI := f29 (nl := false) (els := C) (v := [i e.f0.f0, i e.f0.f1, i e.f0.f2, .str e.f0.f3, .lst 2 false (e.f0.f4.map cp), i e.f1, i e.f2, .bool e.f3]) (k := wAt l e.f0.f0) (by omega) (by omega) (by omega)
    rw [hs] at hI
    have hR := tk_is (l := l) (e := e) (.inl hh)
    rw [hb1, hb2] at hR
    cases b2
    all_goals simp at hR
    all_goals (first | replace hR : (tk l e).map en = C := (by rw [hR, hC]) | rw [← hR] at hT)
    all_goals clear hb1 hb2 hC hset hins hs hC8
    all_goals repeat' (first | intro _ | (simp [sxa, isPtrN, PV.pcs, elAt, setEl, inAt, elIn, setIn, isLst, cellsOf, Ex.ok, Ex.val, Opd.val, POp.dst, bin_int, binOK_int, bin_str, binOK_str, resOK, resV, RB.val, sub, putc, scB, scL, oneB, conf, Ex.val.eqP, Ex.val.eqL, negV, mxV, mnV, ← wr_eq, wr_zero, wr_one, wr_m1, bst_lst, byteC, partsOK, putAll, appV, nilV, slV, sslV, optB, optNum, and_assoc, exists_and_left, exists_eq_left', en, *]) | refine CallS_i (cE) ?_ | refine CallS_i (hI) ?_ | refine CallS_i (cO) ?_ | refine CallS_i (cC) ?_ | refine CallM_i (cE) ?_ | refine CallM_i (hI) ?_ | refine CallM_i (cO) ?_ | refine CallM_i (cC) ?_ | refine CallE_i (cE) ?_ | refine CallE_i (hI) ?_ | refine CallE_i (cO) ?_ | refine CallE_i (cC) ?_ | refine CallX_i (cE) ?_ | refine CallX_i (hI) ?_ | refine CallX_i (cO) ?_ | refine CallX_i (cC) ?_ | refine CallB_i (cE) ?_ | refine CallB_i (hI) ?_ | refine CallB_i (cO) ?_ | refine CallB_i (cC) ?_ | refine CondS_d (fun h => ?_) (fun h => ?_) | refine CondS_b (fun h => ?_) (fun h => ?_) | refine GrdS_d (fun h => ?_) (fun h => ?_) | refine GrdS_b (fun h => ?_) (fun h => ?_) | refine OkS_i (by omega) ?_ | fail)
    all_goals first | omega | simp_all
end Go.Eng
namespace Go.Eng
open Go Go.Proofs Geo
set_option linter.unusedSimpArgs false
set_option linter.unusedVariables false
set_option maxRecDepth 20000
set_option maxHeartbeats 1000000

/-! a log is taken into a log. WRITES -/
def mgTo (a b : List En) : Nat → List En
  | 0 => a.map En.fr
  | n + 1 => tk (mgTo a b n) (b.getD n enD)
def mgOf (a b : List En) : List En := if (wLog a && wLog b) = true then mgTo a b b.length else []
def En.neat (x : En) : Prop := x.f0.f3.size ≤ 1048576 ∧ x.f0.f4.length ≤ 1048576 ∧ x.f0.nl = false
theorem En.neat.ok {x : En} (h : x.neat) : x.f0.okay := ⟨by have := h.1; omega, by have := h.2.1; omega⟩
theorem En.neat.frn {x : En} (h : x.neat) : x.fr.neat := ⟨h.1, h.2.1, rfl⟩
theorem tk_neat {l : List En} {e : En} (hl : ∀ x ∈ l, x.neat) (he : e.neat) : ∀ x ∈ tk l e, x.neat := by
  have h1 : ∀ x ∈ l.map En.fr, x.neat := fun x hx => by
    obtain ⟨y, hy, rfl⟩ := List.mem_map.1 hx
    exact (hl y hy).frn
  unfold tk
  split
  · exact h1
  · split
    · exact tkO_ok (p := En.neat) (fun x hx => (hl x hx).frn) he.frn
    · exact h1
theorem tk_len {l : List En} {e : En} (hl : l.length ≤ 16) : (tk l e).length ≤ 16 := by
  unfold tk
  split
  · simpa using hl
  · split
    · rename_i h
      simp only [Bool.and_eq_true] at h
      exact wLog_len h.2
    · simpa using hl
theorem mgTo_len {a b : List En} (ha : wLog a = true) : ∀ n, (mgTo a b n).length ≤ 16
  | 0 => by have := wLog_len ha; unfold mgTo; simpa using this
  | n + 1 => tk_len (mgTo_len ha n)
theorem mgTo_neat {a b : List En} (ha : ∀ x ∈ a, x.neat) (hb : ∀ x ∈ b, x.neat) : ∀ n, n ≤ b.length → ∀ x ∈ mgTo a b n, x.neat
  | 0, _ => fun x hx => by
    unfold mgTo at hx
    obtain ⟨y, hy, rfl⟩ := List.mem_map.1 hx
    exact (ha y hy).frn
  | n + 1, hn => by
    unfold mgTo
    exact tk_neat (mgTo_neat ha hb n (by omega)) (by simp [show n < b.length by omega]; exact hb _ (List.getElem_mem ..))
theorem mgOf_neat {a b : List En} (ha : ∀ x ∈ a, x.neat) (hb : ∀ x ∈ b, x.neat) : ∀ x ∈ mgOf a b, x.neat := by
  unfold mgOf
  split
  · exact mgTo_neat ha hb _ (Nat.le_refl _)
  · intro x hx; cases hx
theorem f6 (a b : List En) (n1 n2 : Bool) (ha : a.length ≤ 1048576 ∧ ∀ x ∈ a, x.neat) (hb : b.length ≤ 1048576 ∧ ∀ x ∈ b, x.neat) :
    Fn Try.prog 6 true [.lst 8 n1 (a.map en), .lst 8 n2 (b.map en)] (.lst 8 false ((mgOf a b).map en)) := by
  have cA := f7 a n1 (by omega) (fun x hx => (ha.2 x hx).ok)
  have cB := f7 b n2 (by omega) (fun x hx => (hb.2 x hx).ok)
  have cC := f15 a n1 (by omega) (fun x hx => by have := (ha.2 x hx).2.1; omega) (fun x hx => (ha.2 x hx).2.2)
  obtain ⟨b1, hb1⟩ : ∃ b, wLog a = b := ⟨_, rfl⟩
  obtain ⟨b2, hb2⟩ : ∃ c, wLog b = c := ⟨_, rfl⟩
  have hR : mgOf a b = if (b1 && b2) = true then mgTo a b b.length else [] := by unfold mgOf; rw [hb1, hb2]
  rw [hb1] at cA
  rw [hb2] at cB
  have h00 : (mgTo a b 0).map en = (a.map En.fr).map en := rfl
  rw [← h00] at cC
  clear h00
  refine Fn.by_sx hX (by kernel_rfl) c6 (by kernel_rfl) (by rfl) ?_
  simp [i6, sxa, isPtrN, PV.pcs, elAt, setEl, inAt, elIn, setIn, isLst, cellsOf, Ex.ok, Ex.val, Opd.val, POp.dst, bin_int, binOK_int, bin_str, binOK_str, resOK, resV, RB.val, sub, putc, scB, scL, oneB, conf, Ex.val.eqP, Ex.val.eqL, negV, mxV, mnV, ← wr_eq, wr_zero, wr_one, wr_m1, bst_lst, byteC, partsOK, putAll, appV, nilV, slV, sslV, optB, optNum, and_assoc, exists_and_left, exists_eq_left']
  by_cases hbb : (b1 && b2) = true
  case neg =>
    rw [if_neg hbb] at hR
    rw [hR]
    cases b1 <;> cases b2
    all_goals first | exact absurd rfl hbb | skip
    all_goals repeat' (first | intro _ | (simp [sxa, isPtrN, PV.pcs, elAt, setEl, inAt, elIn, setIn, isLst, cellsOf, Ex.ok, Ex.val, Opd.val, POp.dst, bin_int, binOK_int, bin_str, binOK_str, resOK, resV, RB.val, sub, putc, scB, scL, oneB, conf, Ex.val.eqP, Ex.val.eqL, negV, mxV, mnV, ← wr_eq, wr_zero, wr_one, wr_m1, bst_lst, byteC, partsOK, putAll, appV, nilV, slV, sslV, optB, optNum, and_assoc, exists_and_left, exists_eq_left', *]) | refine CallS_i (cA) ?_ | refine CallS_i (cB) ?_ | refine CallM_i (cA) ?_ | refine CallM_i (cB) ?_ | refine CallE_i (cA) ?_ | refine CallE_i (cB) ?_ | refine CallX_i (cA) ?_ | refine CallX_i (cB) ?_ | refine CallB_i (cA) ?_ | refine CallB_i (cB) ?_ | refine CondS_d (fun h => ?_) (fun h => ?_) | refine CondS_b (fun h => ?_) (fun h => ?_) | refine GrdS_d (fun h => ?_) (fun h => ?_) | refine GrdS_b (fun h => ?_) (fun h => ?_) | refine OkS_i (by omega) ?_ | fail)
  rw [if_pos hbb] at hR
  rw [hR]
  simp only [Bool.and_eq_true] at hbb
  obtain ⟨rfl, rfl⟩ := hbb
  repeat' (first | intro _ | (simp [sxa, isPtrN, PV.pcs, elAt, setEl, inAt, elIn, setIn, isLst, cellsOf, Ex.ok, Ex.val, Opd.val, POp.dst, bin_int, binOK_int, bin_str, binOK_str, resOK, resV, RB.val, sub, putc, scB, scL, oneB, conf, Ex.val.eqP, Ex.val.eqL, negV, mxV, mnV, ← wr_eq, wr_zero, wr_one, wr_m1, bst_lst, byteC, partsOK, putAll, appV, nilV, slV, sslV, optB, optNum, and_assoc, exists_and_left, exists_eq_left', *]) | refine CallS_i (cA) ?_ | refine CallS_i (cB) ?_ | refine CallS_i (cC) ?_ | refine CallM_i (cA) ?_ | refine CallM_i (cB) ?_ | refine CallM_i (cC) ?_ | refine CallE_i (cA) ?_ | refine CallE_i (cB) ?_ | refine CallE_i (cC) ?_ | refine CallX_i (cA) ?_ | refine CallX_i (cB) ?_ | refine CallX_i (cC) ?_ | refine CallB_i (cA) ?_ | refine CallB_i (cB) ?_ | refine CallB_i (cC) ?_ | refine CondS_d (fun h => ?_) (fun h => ?_) | refine CondS_b (fun h => ?_) (fun h => ?_) | refine GrdS_d (fun h => ?_) (fun h => ?_) | refine GrdS_b (fun h => ?_) (fun h => ?_) | refine OkS_i (by omega) ?_ | fail)
  refine sx_count b.length (fun n V => V 19 = .lst 8 n2 (b.map en) ∧ V 20 = i b.length ∧ V 21 = i n ∧ V 5 = .lst 8 false ((mgTo a b n).map en)) 0 (by omega) (by simp [sxa, isPtrN, PV.pcs, elAt, setEl, inAt, elIn, setIn, isLst, cellsOf, Ex.ok, Ex.val, Opd.val, POp.dst, bin_int, binOK_int, bin_str, binOK_str, resOK, resV, RB.val, sub, putc, scB, scL, oneB, conf, Ex.val.eqP, Ex.val.eqL, negV, mxV, mnV, ← wr_eq, wr_zero, wr_one, wr_m1, bst_lst, byteC, partsOK, putAll, appV, nilV, slV, sslV, optB, optNum, and_assoc, exists_and_left, exists_eq_left']) ?_
  rintro n V hn ⟨h0, h1, h6, h5⟩
  have hw : wr .i64 ((n : Int) + 1) = n + 1 := wr_in (by omega) (by omega)
  simp [sxa, isPtrN, PV.pcs, elAt, setEl, inAt, elIn, setIn, isLst, cellsOf, Ex.ok, Ex.val, Opd.val, POp.dst, bin_int, binOK_int, bin_str, binOK_str, resOK, resV, RB.val, sub, putc, scB, scL, oneB, conf, Ex.val.eqP, Ex.val.eqL, negV, mxV, mnV, ← wr_eq, wr_zero, wr_one, wr_m1, bst_lst, byteC, partsOK, putAll, appV, nilV, slV, sslV, optB, optNum, and_assoc, exists_and_left, exists_eq_left', h1, h6]
  refine CondS_d (fun hlt => ?_) (fun hge => ?_)
  · have hlt' : n < b.length := by omega
    have hne := mgTo_neat ha.2 hb.2 n (by omega)
    have hln := mgTo_len (b := b) hb1 n
    have hbn := hb.2 b[n] (List.getElem_mem ..)
    have cT := f16 (mgTo a b n) b[n] false (by omega) (fun x hx => (hne x hx).ok) hbn.ok (fun x hx => by have := (hne x hx).2.1; omega) (by have := hbn.2.1; omega) (fun x hx => (hne x hx).2.2) hbn.2.2
    have hnx : mgTo a b (n + 1) = tk (mgTo a b n) b[n] := by simp [mgTo, hlt']
    rw [← hnx] at cT
    unfold en at cT
    clear hne hbn hnx ha hb
    repeat' (first | intro _ | (simp [sxa, isPtrN, PV.pcs, elAt, setEl, inAt, elIn, setIn, isLst, cellsOf, Ex.ok, Ex.val, Opd.val, POp.dst, bin_int, binOK_int, bin_str, binOK_str, resOK, resV, RB.val, sub, putc, scB, scL, oneB, conf, Ex.val.eqP, Ex.val.eqL, negV, mxV, mnV, ← wr_eq, wr_zero, wr_one, wr_m1, bst_lst, byteC, partsOK, putAll, appV, nilV, slV, sslV, optB, optNum, and_assoc, exists_and_left, exists_eq_left', en, *]) | refine CallS_i (cT) ?_ | refine CallM_i (cT) ?_ | refine CallE_i (cT) ?_ | refine CallX_i (cT) ?_ | refine CallB_i (cT) ?_ | refine CondS_d (fun h => ?_) (fun h => ?_) | refine CondS_b (fun h => ?_) (fun h => ?_) | refine GrdS_d (fun h => ?_) (fun h => ?_) | refine GrdS_b (fun h => ?_) (fun h => ?_) | refine OkS_i (by omega) ?_ | fail)
  · have : n = b.length := by omega
    subst this
    repeat' (first | intro _ | (simp [sxa, isPtrN, PV.pcs, elAt, setEl, inAt, elIn, setIn, isLst, cellsOf, Ex.ok, Ex.val, Opd.val, POp.dst, bin_int, binOK_int, bin_str, binOK_str, resOK, resV, RB.val, sub, putc, scB, scL, oneB, conf, Ex.val.eqP, Ex.val.eqL, negV, mxV, mnV, ← wr_eq, wr_zero, wr_one, wr_m1, bst_lst, byteC, partsOK, putAll, appV, nilV, slV, sslV, optB, optNum, and_assoc, exists_and_left, exists_eq_left', *]) | refine CondS_d (fun h => ?_) (fun h => ?_) | refine CondS_b (fun h => ?_) (fun h => ?_) | refine GrdS_d (fun h => ?_) (fun h => ?_) | refine GrdS_b (fun h => ?_) (fun h => ?_) | refine OkS_i (by omega) ?_ | fail)
end Go.Eng
namespace Go.Eng
open Go Go.Proofs
set_option linter.unusedSimpArgs false
set_option linter.unusedVariables false
set_option maxRecDepth 20000
set_option maxHeartbeats 1000000

/-! equality -/
def eqAt (l m : List Pt) (n : Nat) : Bool := eqb (l.getD n ⟨0, 0⟩) (m.getD n ⟨0, 0⟩)
def wEqL (l m : List Pt) : Bool := decide (l.length = m.length) && allTo (eqAt l m) l.length
theorem f38 (l m : List Pt) (n1 n2 : Bool) (hl : l.length ≤ 1000000000000) : Fn Try.prog 38 false [.lst 2 n1 (l.map cp), .lst 2 n2 (m.map cp)] (.bool (wEqL l m)) := by
  refine Fn.by_sx hX (by kernel_rfl) c38 (by kernel_rfl) (by rfl) ?_
  simp [i38, sxa, isPtrN, PV.pcs, elAt, setEl, inAt, elIn, setIn, isLst, cellsOf, Ex.ok, Ex.val, Opd.val, POp.dst, bin_int, binOK_int, bin_str, binOK_str, resOK, resV, RB.val, sub, putc, scB, scL, oneB, conf, Ex.val.eqP, Ex.val.eqL, negV, mxV, mnV, ← wr_eq, wr_zero, wr_one, wr_m1, bst_lst, byteC, partsOK, putAll, appV, nilV, slV, sslV, optB, optNum, and_assoc, exists_and_left, exists_eq_left']
  by_cases hlm : l.length = m.length
  · have hlm' : ((l.length : Nat) : Int) = m.length := by omega
    repeat' (first | intro _ | (simp [sxa, isPtrN, PV.pcs, elAt, setEl, inAt, elIn, setIn, isLst, cellsOf, Ex.ok, Ex.val, Opd.val, POp.dst, bin_int, binOK_int, bin_str, binOK_str, resOK, resV, RB.val, sub, putc, scB, scL, oneB, conf, Ex.val.eqP, Ex.val.eqL, negV, mxV, mnV, ← wr_eq, wr_zero, wr_one, wr_m1, bst_lst, byteC, partsOK, putAll, appV, nilV, slV, sslV, optB, optNum, and_assoc, exists_and_left, exists_eq_left', *]) | refine CondS_d (fun h => ?_) (fun h => ?_) | refine CondS_b (fun h => ?_) (fun h => ?_) | refine GrdS_d (fun h => ?_) (fun h => ?_) | refine GrdS_b (fun h => ?_) (fun h => ?_) | refine OkS_i (by omega) ?_ | fail)
    refine sx_count l.length (fun n V => V 0 = .lst 2 n1 (l.map cp) ∧ V 1 = .lst 2 n2 (m.map cp) ∧ V 12 = i l.length ∧ V 13 = i n ∧ allTo (eqAt l m) n = true) 0 (by omega) (by simp [sxa, isPtrN, PV.pcs, elAt, setEl, inAt, elIn, setIn, isLst, cellsOf, Ex.ok, Ex.val, Opd.val, POp.dst, bin_int, binOK_int, bin_str, binOK_str, resOK, resV, RB.val, sub, putc, scB, scL, oneB, conf, Ex.val.eqP, Ex.val.eqL, negV, mxV, mnV, ← wr_eq, wr_zero, wr_one, wr_m1, bst_lst, byteC, partsOK, putAll, appV, nilV, slV, sslV, optB, optNum, and_assoc, exists_and_left, exists_eq_left', allTo_zero]; try omega) ?_
    rintro n V hn ⟨h0, h1, h12, h13, ha⟩
    have hw : wr .i64 ((n : Int) + 1) = n + 1 := wr_in (by omega) (by omega)
    simp [sxa, isPtrN, PV.pcs, elAt, setEl, inAt, elIn, setIn, isLst, cellsOf, Ex.ok, Ex.val, Opd.val, POp.dst, bin_int, binOK_int, bin_str, binOK_str, resOK, resV, RB.val, sub, putc, scB, scL, oneB, conf, Ex.val.eqP, Ex.val.eqL, negV, mxV, mnV, ← wr_eq, wr_zero, wr_one, wr_m1, bst_lst, byteC, partsOK, putAll, appV, nilV, slV, sslV, optB, optNum, and_assoc, exists_and_left, exists_eq_left', h0, h12, h13]
    refine CondS_d (fun hlt => ?_) (fun hge => ?_)
    · have hlt' : n < l.length := by omega
      have hltm : n < m.length := by omega
      have hr : eqAt l m n = decide (l[n].f0 = m[n].f0 ∧ l[n].f1 = m[n].f1) := by simp [eqAt, eqb, hlt', hltm]
      have hbad : eqAt l m n = false → wEqL l m = false := fun h => by simp only [wEqL, allTo_bad hlt' h, Bool.and_false]
      have hgood : eqAt l m n = true → allTo (eqAt l m) (n + 1) = true := fun h => by rw [allTo_succ, ha, h]; rfl
      repeat' (first | intro _ | (simp [sxa, isPtrN, PV.pcs, elAt, setEl, inAt, elIn, setIn, isLst, cellsOf, Ex.ok, Ex.val, Opd.val, POp.dst, bin_int, binOK_int, bin_str, binOK_str, resOK, resV, RB.val, sub, putc, scB, scL, oneB, conf, Ex.val.eqP, Ex.val.eqL, negV, mxV, mnV, ← wr_eq, wr_zero, wr_one, wr_m1, bst_lst, byteC, partsOK, putAll, appV, nilV, slV, sslV, optB, optNum, and_assoc, exists_and_left, exists_eq_left', cp, *]) | refine CondS_d (fun h => ?_) (fun h => ?_) | refine CondS_b (fun h => ?_) (fun h => ?_) | refine GrdS_d (fun h => ?_) (fun h => ?_) | refine GrdS_b (fun h => ?_) (fun h => ?_) | refine OkS_i (by omega) ?_ | fail)
      all_goals first
        | exact hbad (by rw [hr]; by_cases q1 : l[n].f0 = m[n].f0 <;> by_cases q2 : l[n].f1 = m[n].f1 <;> simp_all)
        | exact hgood (by rw [hr]; by_cases q1 : l[n].f0 = m[n].f0 <;> by_cases q2 : l[n].f1 = m[n].f1 <;> simp_all)
    · have : n = l.length := by omega
      subst this
      have hr : wEqL l m = true := by unfold wEqL; rw [ha]; simp [hlm]
      repeat' (first | intro _ | (simp [sxa, isPtrN, PV.pcs, elAt, setEl, inAt, elIn, setIn, isLst, cellsOf, Ex.ok, Ex.val, Opd.val, POp.dst, bin_int, binOK_int, bin_str, binOK_str, resOK, resV, RB.val, sub, putc, scB, scL, oneB, conf, Ex.val.eqP, Ex.val.eqL, negV, mxV, mnV, ← wr_eq, wr_zero, wr_one, wr_m1, bst_lst, byteC, partsOK, putAll, appV, nilV, slV, sslV, optB, optNum, and_assoc, exists_and_left, exists_eq_left', *]) | refine CondS_d (fun h => ?_) (fun h => ?_) | refine CondS_b (fun h => ?_) (fun h => ?_) | refine GrdS_d (fun h => ?_) (fun h => ?_) | refine GrdS_b (fun h => ?_) (fun h => ?_) | refine OkS_i (by omega) ?_ | fail)
  · have hr : wEqL l m = false := by simp [wEqL, hlm]
    have hlm' : ¬ ((l.length : Nat) : Int) = m.length := by omega
    repeat' (first | intro _ | (simp [sxa, isPtrN, PV.pcs, elAt, setEl, inAt, elIn, setIn, isLst, cellsOf, Ex.ok, Ex.val, Opd.val, POp.dst, bin_int, binOK_int, bin_str, binOK_str, resOK, resV, RB.val, sub, putc, scB, scL, oneB, conf, Ex.val.eqP, Ex.val.eqL, negV, mxV, mnV, ← wr_eq, wr_zero, wr_one, wr_m1, bst_lst, byteC, partsOK, putAll, appV, nilV, slV, sslV, optB, optNum, and_assoc, exists_and_left, exists_eq_left', *]) | refine CondS_d (fun h => ?_) (fun h => ?_) | refine CondS_b (fun h => ?_) (fun h => ?_) | refine GrdS_d (fun h => ?_) (fun h => ?_) | refine GrdS_b (fun h => ?_) (fun h => ?_) | refine OkS_i (by omega) ?_ | fail)
def wEqF (x y : Ft) : Bool := decide (x.f0 = y.f0) && (decide (x.f1 = y.f1) && (decide (x.f2 = y.f2) && (decide (x.f3 = y.f3) && wEqL x.f4 y.f4)))
theorem f23 (x y : Ft) (hx : x.f4.length ≤ 1000000000000) : Fn Try.prog 23 false [.agg (ft x), .agg (ft y)] (.bool (wEqF x y)) := by
  have hc := f38 x.f4 y.f4 x.nl y.nl hx
  unfold ft
  refine Fn.by_sx hX (by kernel_rfl) c23 (by kernel_rfl) (by rfl) ?_
  simp [i23, sxa, isPtrN, PV.pcs, elAt, setEl, inAt, elIn, setIn, isLst, cellsOf, Ex.ok, Ex.val, Opd.val, POp.dst, bin_int, binOK_int, bin_str, binOK_str, resOK, resV, RB.val, sub, putc, scB, scL, oneB, conf, Ex.val.eqP, Ex.val.eqL, negV, mxV, mnV, ← wr_eq, wr_zero, wr_one, wr_m1, bst_lst, byteC, partsOK, putAll, appV, nilV, slV, sslV, optB, optNum, and_assoc, exists_and_left, exists_eq_left']
  repeat' (first | intro _ | (simp [sxa, isPtrN, PV.pcs, elAt, setEl, inAt, elIn, setIn, isLst, cellsOf, Ex.ok, Ex.val, Opd.val, POp.dst, bin_int, binOK_int, bin_str, binOK_str, resOK, resV, RB.val, sub, putc, scB, scL, oneB, conf, Ex.val.eqP, Ex.val.eqL, negV, mxV, mnV, ← wr_eq, wr_zero, wr_one, wr_m1, bst_lst, byteC, partsOK, putAll, appV, nilV, slV, sslV, optB, optNum, and_assoc, exists_and_left, exists_eq_left', *]) | refine CallS_b (hc) (fun h => ?_) (fun h => ?_) | refine CondS_d (fun h => ?_) (fun h => ?_) | refine CondS_b (fun h => ?_) (fun h => ?_) | refine GrdS_d (fun h => ?_) (fun h => ?_) | refine GrdS_b (fun h => ?_) (fun h => ?_) | refine OkS_i (by omega) ?_ | fail)
  all_goals simp_all [wEqF]
def wEqE (x y : En) : Bool := wEqF x.f0 y.f0 && (decide (x.f1 = y.f1) && (decide (x.f2 = y.f2) && (x.f3 == y.f3)))
theorem f22 (x y : En) (hx : x.f0.f4.length ≤ 1000000000000) : Fn Try.prog 22 false [.agg (en x), .agg (en y)] (.bool (wEqE x y)) := by
  have hc := f23 x.f0 y.f0 hx
  unfold ft at hc
  unfold en
  refine Fn.by_sx hX (by kernel_rfl) c22 (by kernel_rfl) (by rfl) ?_
  simp [i22, sxa, isPtrN, PV.pcs, elAt, setEl, inAt, elIn, setIn, isLst, cellsOf, Ex.ok, Ex.val, Opd.val, POp.dst, bin_int, binOK_int, bin_str, binOK_str, resOK, resV, RB.val, sub, putc, scB, scL, oneB, conf, Ex.val.eqP, Ex.val.eqL, negV, mxV, mnV, ← wr_eq, wr_zero, wr_one, wr_m1, bst_lst, byteC, partsOK, putAll, appV, nilV, slV, sslV, optB, optNum, and_assoc, exists_and_left, exists_eq_left']
  repeat' (first | intro _ | (simp [sxa, isPtrN, PV.pcs, elAt, setEl, inAt, elIn, setIn, isLst, cellsOf, Ex.ok, Ex.val, Opd.val, POp.dst, bin_int, binOK_int, bin_str, binOK_str, resOK, resV, RB.val, sub, putc, scB, scL, oneB, conf, Ex.val.eqP, Ex.val.eqL, negV, mxV, mnV, ← wr_eq, wr_zero, wr_one, wr_m1, bst_lst, byteC, partsOK, putAll, appV, nilV, slV, sslV, optB, optNum, and_assoc, exists_and_left, exists_eq_left', *]) | refine CallS_b (hc) (fun h => ?_) (fun h => ?_) | refine CondS_d (fun h => ?_) (fun h => ?_) | refine CondS_b (fun h => ?_) (fun h => ?_) | refine GrdS_d (fun h => ?_) (fun h => ?_) | refine GrdS_b (fun h => ?_) (fun h => ?_) | refine OkS_i (by omega) ?_ | fail)
  all_goals simp_all [wEqE]
def eqEAt (l m : List En) (n : Nat) : Bool := wEqE (l.getD n enD) (m.getD n enD)
def wEqLog (l m : List En) : Bool := decide (l.length = m.length) && allTo (eqEAt l m) l.length
theorem f21 (l m : List En) (n1 n2 : Bool) (hl : l.length ≤ 1000000000000) (hx : ∀ x ∈ l, x.f0.f4.length ≤ 1000000000000) : Fn Try.prog 21 false [.lst 8 n1 (l.map en), .lst 8 n2 (m.map en), .fn 22 []] (.bool (wEqLog l m)) := by
  refine Fn.by_sx hX (by kernel_rfl) c21 (by kernel_rfl) (by rfl) ?_
  simp [i21, sxa, isPtrN, PV.pcs, elAt, setEl, inAt, elIn, setIn, isLst, cellsOf, Ex.ok, Ex.val, Opd.val, POp.dst, bin_int, binOK_int, bin_str, binOK_str, resOK, resV, RB.val, sub, putc, scB, scL, oneB, conf, Ex.val.eqP, Ex.val.eqL, negV, mxV, mnV, ← wr_eq, wr_zero, wr_one, wr_m1, bst_lst, byteC, partsOK, putAll, appV, nilV, slV, sslV, optB, optNum, and_assoc, exists_and_left, exists_eq_left']
  by_cases hlm : l.length = m.length
  · have hlm' : ((l.length : Nat) : Int) = m.length := by omega
    repeat' (first | intro _ | (simp [sxa, isPtrN, PV.pcs, elAt, setEl, inAt, elIn, setIn, isLst, cellsOf, Ex.ok, Ex.val, Opd.val, POp.dst, bin_int, binOK_int, bin_str, binOK_str, resOK, resV, RB.val, sub, putc, scB, scL, oneB, conf, Ex.val.eqP, Ex.val.eqL, negV, mxV, mnV, ← wr_eq, wr_zero, wr_one, wr_m1, bst_lst, byteC, partsOK, putAll, appV, nilV, slV, sslV, optB, optNum, and_assoc, exists_and_left, exists_eq_left', *]) | refine CondS_d (fun h => ?_) (fun h => ?_) | refine CondS_b (fun h => ?_) (fun h => ?_) | refine GrdS_d (fun h => ?_) (fun h => ?_) | refine GrdS_b (fun h => ?_) (fun h => ?_) | refine OkS_i (by omega) ?_ | fail)
    refine sx_count l.length (fun n V => V 1 = .lst 8 n2 (m.map en) ∧ V 2 = .fn 22 [] ∧ V 15 = .lst 8 n1 (l.map en) ∧ V 16 = i l.length ∧ V 17 = i n ∧ allTo (eqEAt l m) n = true) 0 (by omega) (by simp [sxa, isPtrN, PV.pcs, elAt, setEl, inAt, elIn, setIn, isLst, cellsOf, Ex.ok, Ex.val, Opd.val, POp.dst, bin_int, binOK_int, bin_str, binOK_str, resOK, resV, RB.val, sub, putc, scB, scL, oneB, conf, Ex.val.eqP, Ex.val.eqL, negV, mxV, mnV, ← wr_eq, wr_zero, wr_one, wr_m1, bst_lst, byteC, partsOK, putAll, appV, nilV, slV, sslV, optB, optNum, and_assoc, exists_and_left, exists_eq_left', allTo_zero]; try omega) ?_
    rintro n V hn ⟨h1, h2, h15, h16, h17, ha⟩
    have hw : wr .i64 ((n : Int) + 1) = n + 1 := wr_in (by omega) (by omega)
    simp [sxa, isPtrN, PV.pcs, elAt, setEl, inAt, elIn, setIn, isLst, cellsOf, Ex.ok, Ex.val, Opd.val, POp.dst, bin_int, binOK_int, bin_str, binOK_str, resOK, resV, RB.val, sub, putc, scB, scL, oneB, conf, Ex.val.eqP, Ex.val.eqL, negV, mxV, mnV, ← wr_eq, wr_zero, wr_one, wr_m1, bst_lst, byteC, partsOK, putAll, appV, nilV, slV, sslV, optB, optNum, and_assoc, exists_and_left, exists_eq_left', h16, h17]
    refine CondS_d (fun hlt => ?_) (fun hge => ?_)
    · have hlt' : n < l.length := by omega
      have hltm : n < m.length := by omega
      have hr : eqEAt l m n = wEqE l[n] m[n] := by simp [eqEAt, hlt', hltm]
      have hbad : eqEAt l m n = false → wEqLog l m = false := fun h => by simp only [wEqLog, allTo_bad hlt' h, Bool.and_false]
      have hgood : eqEAt l m n = true → allTo (eqEAt l m) (n + 1) = true := fun h => by rw [allTo_succ, ha, h]; rfl
      have hc := f22 l[n] m[n] (hx _ (List.getElem_mem ..))
      unfold en at hc
      repeat' (first | intro _ | (simp [sxa, isPtrN, PV.pcs, elAt, setEl, inAt, elIn, setIn, isLst, cellsOf, Ex.ok, Ex.val, Opd.val, POp.dst, bin_int, binOK_int, bin_str, binOK_str, resOK, resV, RB.val, sub, putc, scB, scL, oneB, conf, Ex.val.eqP, Ex.val.eqL, negV, mxV, mnV, ← wr_eq, wr_zero, wr_one, wr_m1, bst_lst, byteC, partsOK, putAll, appV, nilV, slV, sslV, optB, optNum, and_assoc, exists_and_left, exists_eq_left', en, *]) | refine CondS_d (fun h => ?_) (fun h => ?_) | refine CondS_b (fun h => ?_) (fun h => ?_) | refine GrdS_d (fun h => ?_) (fun h => ?_) | refine GrdS_b (fun h => ?_) (fun h => ?_) | refine OkS_i (by omega) ?_ | fail)
      refine CallvS_b (by simpa using hc) (fun h => ?_) (fun h => ?_)
      · have hg := hgood (by rw [hr, h])
        repeat' (first | intro _ | (simp [sxa, isPtrN, PV.pcs, elAt, setEl, inAt, elIn, setIn, isLst, cellsOf, Ex.ok, Ex.val, Opd.val, POp.dst, bin_int, binOK_int, bin_str, binOK_str, resOK, resV, RB.val, sub, putc, scB, scL, oneB, conf, Ex.val.eqP, Ex.val.eqL, negV, mxV, mnV, ← wr_eq, wr_zero, wr_one, wr_m1, bst_lst, byteC, partsOK, putAll, appV, nilV, slV, sslV, optB, optNum, and_assoc, exists_and_left, exists_eq_left', *]) | refine CondS_d (fun h => ?_) (fun h => ?_) | refine CondS_b (fun h => ?_) (fun h => ?_) | refine GrdS_d (fun h => ?_) (fun h => ?_) | refine GrdS_b (fun h => ?_) (fun h => ?_) | refine OkS_i (by omega) ?_ | fail)
      · have hb := hbad (by rw [hr, h])
        repeat' (first | intro _ | (simp [sxa, isPtrN, PV.pcs, elAt, setEl, inAt, elIn, setIn, isLst, cellsOf, Ex.ok, Ex.val, Opd.val, POp.dst, bin_int, binOK_int, bin_str, binOK_str, resOK, resV, RB.val, sub, putc, scB, scL, oneB, conf, Ex.val.eqP, Ex.val.eqL, negV, mxV, mnV, ← wr_eq, wr_zero, wr_one, wr_m1, bst_lst, byteC, partsOK, putAll, appV, nilV, slV, sslV, optB, optNum, and_assoc, exists_and_left, exists_eq_left', *]) | refine CondS_d (fun h => ?_) (fun h => ?_) | refine CondS_b (fun h => ?_) (fun h => ?_) | refine GrdS_d (fun h => ?_) (fun h => ?_) | refine GrdS_b (fun h => ?_) (fun h => ?_) | refine OkS_i (by omega) ?_ | fail)
    · have : n = l.length := by omega
      subst this
      have hr : wEqLog l m = true := by unfold wEqLog; rw [ha]; simp [hlm]
      repeat' (first | intro _ | (simp [sxa, isPtrN, PV.pcs, elAt, setEl, inAt, elIn, setIn, isLst, cellsOf, Ex.ok, Ex.val, Opd.val, POp.dst, bin_int, binOK_int, bin_str, binOK_str, resOK, resV, RB.val, sub, putc, scB, scL, oneB, conf, Ex.val.eqP, Ex.val.eqL, negV, mxV, mnV, ← wr_eq, wr_zero, wr_one, wr_m1, bst_lst, byteC, partsOK, putAll, appV, nilV, slV, sslV, optB, optNum, and_assoc, exists_and_left, exists_eq_left', *]) | refine CondS_d (fun h => ?_) (fun h => ?_) | refine CondS_b (fun h => ?_) (fun h => ?_) | refine GrdS_d (fun h => ?_) (fun h => ?_) | refine GrdS_b (fun h => ?_) (fun h => ?_) | refine OkS_i (by omega) ?_ | fail)
  · have hr : wEqLog l m = false := by simp [wEqLog, hlm]
    have hlm' : ¬ ((l.length : Nat) : Int) = m.length := by omega
    repeat' (first | intro _ | (simp [sxa, isPtrN, PV.pcs, elAt, setEl, inAt, elIn, setIn, isLst, cellsOf, Ex.ok, Ex.val, Opd.val, POp.dst, bin_int, binOK_int, bin_str, binOK_str, resOK, resV, RB.val, sub, putc, scB, scL, oneB, conf, Ex.val.eqP, Ex.val.eqL, negV, mxV, mnV, ← wr_eq, wr_zero, wr_one, wr_m1, bst_lst, byteC, partsOK, putAll, appV, nilV, slV, sslV, optB, optNum, and_assoc, exists_and_left, exists_eq_left', *]) | refine CondS_d (fun h => ?_) (fun h => ?_) | refine CondS_b (fun h => ?_) (fun h => ?_) | refine GrdS_d (fun h => ?_) (fun h => ?_) | refine GrdS_b (fun h => ?_) (fun h => ?_) | refine OkS_i (by omega) ?_ | fail)
theorem f9 (l m : List En) (n1 n2 : Bool) (hl : l.length ≤ 1000000000000) (hx : ∀ x ∈ l, x.f0.f4.length ≤ 1000000000000) : Fn Try.prog 9 false [.lst 8 n1 (l.map en), .lst 8 n2 (m.map en)] (.bool (wEqLog l m)) := by
  refine Fn.by_sx hX (by kernel_rfl) c9 (by kernel_rfl) (by rfl) ?_
  simp [i9, sxa, isPtrN, PV.pcs, elAt, setEl, inAt, elIn, setIn, isLst, cellsOf, Ex.ok, Ex.val, Opd.val, POp.dst, bin_int, binOK_int, bin_str, binOK_str, resOK, resV, RB.val, sub, putc, scB, scL, oneB, conf, Ex.val.eqP, Ex.val.eqL, negV, mxV, mnV, ← wr_eq, wr_zero, wr_one, wr_m1, bst_lst, byteC, partsOK, putAll, appV, nilV, slV, sslV, optB, optNum, and_assoc, exists_and_left, exists_eq_left']
  repeat' (first | intro _ | (simp [sxa, isPtrN, PV.pcs, elAt, setEl, inAt, elIn, setIn, isLst, cellsOf, Ex.ok, Ex.val, Opd.val, POp.dst, bin_int, binOK_int, bin_str, binOK_str, resOK, resV, RB.val, sub, putc, scB, scL, oneB, conf, Ex.val.eqP, Ex.val.eqL, negV, mxV, mnV, ← wr_eq, wr_zero, wr_one, wr_m1, bst_lst, byteC, partsOK, putAll, appV, nilV, slV, sslV, optB, optNum, and_assoc, exists_and_left, exists_eq_left', *]) | refine CallS_i (f21 l m n1 n2 hl hx) ?_ | refine CondS_d (fun h => ?_) (fun h => ?_) | refine CondS_b (fun h => ?_) (fun h => ?_) | refine GrdS_d (fun h => ?_) (fun h => ?_) | refine GrdS_b (fun h => ?_) (fun h => ?_) | refine OkS_i (by omega) ?_ | fail)
end Go.Eng
namespace Go.Eng
open Go Go.Proofs Geo
set_option linter.unusedSimpArgs false
set_option linter.unusedVariables false
set_option maxRecDepth 20000
set_option maxHeartbeats 1000000

/-! the plain law of merged logs -/
def incE (l : List En) : Prop := (l.map (·.f0.f0)).Pairwise (· < ·)
theorem incE_of {l : List En} (h : ∀ n, 0 < n → (hn : n < l.length) → (l[n - 1]'(by omega)).f0.f0 < l[n].f0.f0) : incE l := by
  unfold incE
  rw [List.pairwise_iff_getElem]
  intro a b ha hb hab
  simp only [List.length_map] at ha hb
  simp only [List.getElem_map]
  induction b with
  | zero => omega
  | succ b ih =>
    have h1 := h (b + 1) (by omega) hb
    simp only [Nat.add_sub_cancel] at h1
    rcases Nat.lt_or_ge a b with h2 | h2
    · have := ih (by omega) h2 (by omega)
      omega
    · obtain rfl : a = b := by omega
      exact h1
theorem incE_at {l : List En} (h : incE l) {a b : Nat} (hab : a < b) (hb : b < l.length) : (l[a]'(by omega)).f0.f0 < l[b].f0.f0 := by
  unfold incE at h
  rw [List.pairwise_iff_getElem] at h
  have := h a b (by simpa using (by omega : a < l.length)) (by simpa using hb) hab
  simpa using this
def okE (x : En) : Bool := wFeat x.f0 && (inR x.f1 0 100000 && inR x.f2 1 99)
theorem entAt_iff {l : List En} {n : Nat} (hn : n < l.length) : entAt l n = true ↔ okE l[n] = true ∧ (0 < n → (l[n - 1]'(by omega)).f0.f0 < l[n].f0.f0) := by
  unfold entAt
  have h1 : l.getD n enD = l[n] := by simp [hn]
  have h2 : l.getD (n - 1) enD = l[n - 1]'(by omega) := by simp [show n - 1 < l.length by omega]
  rw [h1, h2]
  show (okE l[n] && _) = true ↔ _
  rw [Bool.and_eq_true]
  refine and_congr_right fun _ => ?_
  simp
  constructor <;> intro h <;> omega
theorem wLog_iff {l : List En} : wLog l = true ↔ l.length ≤ 16 ∧ (∀ x ∈ l, okE x = true) ∧ incE l := by
  unfold wLog
  rw [Bool.and_eq_true, decide_eq_true_iff]
  constructor
  · rintro ⟨h1, h2⟩
    refine ⟨h1, fun x hx => ?_, incE_of fun n h0 hn => ?_⟩
    · obtain ⟨n, hn, rfl⟩ := List.getElem_of_mem hx
      exact ((entAt_iff hn).1 (allTo_at h2 hn)).1
    · exact ((entAt_iff hn).1 (allTo_at h2 hn)).2 h0
  · rintro ⟨h1, h2, h3⟩
    refine ⟨h1, ?_⟩
    unfold allTo
    rw [List.all_eq_true]
    intro n hn
    have hn := List.mem_range.1 hn
    exact (entAt_iff hn).2 ⟨h2 _ (List.getElem_mem hn), fun h => incE_at h3 (by omega) hn⟩
theorem incE_cons {x : En} {r : List En} : incE (x :: r) ↔ (∀ y ∈ r, x.f0.f0 < y.f0.f0) ∧ incE r := by
  unfold incE
  rw [List.map_cons, List.pairwise_cons]
  simp
theorem fr_neat {x : En} (h : x.neat) : x.fr = x := by
  obtain ⟨⟨a, b, d, e, f, g⟩, p, q, r⟩ := x
  have : g = false := h.2.2
  subst this
  rfl
theorem frs_neat {l : List En} (h : ∀ x ∈ l, x.neat) : l.map En.fr = l := by
  induction l with
  | nil => rfl
  | cons x r ih => rw [List.map_cons, fr_neat (h x (List.mem_cons_self ..)), ih fun y hy => h y (List.mem_cons_of_mem _ hy)]
theorem wNew_f {x y : En} : wNew x y = false ↔ x.f1 < y.f1 ∨ (x.f1 = y.f1 ∧ x.f2 ≤ y.f2) := by
  unfold wNew
  simp only [Bool.or_eq_false_iff, Bool.and_eq_false_iff, decide_eq_false_iff_not]
  omega
theorem wNew_self (x : En) : wNew x x = false := by rw [wNew_f]; omega
theorem wNew_tr {x y z : En} (h1 : wNew x y = false) (h2 : wNew y z = false) : wNew x z = false := by
  rw [wNew_f] at *; omega
theorem wNew_as {x y : En} (h : wNew x y = true) : wNew y x = false := by
  cases h2 : wNew y x
  · rfl
  · have h3 : ¬ (wNew x y = false) := by rw [h]; simp
    rw [wNew_f] at h3
    have h4 : ¬ (wNew y x = false) := by rw [h2]; simp
    rw [wNew_f] at h4
    omega
def insE : List En → En → List En
  | [], e => [e]
  | x :: r, e => if x.f0.f0 < e.f0.f0 then x :: insE r e else if x.f0.f0 = e.f0.f0 then (if wNew e x = true then e :: r else x :: r) else e :: x :: r
theorem insE_eq (e : En) : ∀ l : List En, (if (hit l e && !wNew e (l.getD (wAt l e.f0.f0) enD)) = true then l else l.take (wAt l e.f0.f0) ++ e :: l.drop (if hit l e = true then wAt l e.f0.f0 + 1 else wAt l e.f0.f0)) = insE l e
  | [] => by simp [hit, wAt, insE]
  | x :: r => by
    have ih := insE_eq e r
    by_cases h : x.f0.f0 < e.f0.f0
    · have ew : wAt (x :: r) e.f0.f0 = wAt r e.f0.f0 + 1 := by simp [wAt, h]
      have eh : hit (x :: r) e = hit r e := by unfold hit; rw [ew]; simp
      have eg : (x :: r).getD (wAt r e.f0.f0 + 1) enD = r.getD (wAt r e.f0.f0) enD := by simp
      have ei : insE (x :: r) e = x :: insE r e := by simp [insE, h]
      rw [ew, eh, eg, ei, ← ih]
      by_cases h2 : (hit r e && !wNew e (r.getD (wAt r e.f0.f0) enD)) = true
      · rw [if_pos h2, if_pos h2]
      · rw [if_neg h2, if_neg h2]
        by_cases h3 : hit r e = true
        · rw [if_pos h3, if_pos h3]; simp
        · rw [if_neg h3, if_neg h3]; simp
    · have ew : wAt (x :: r) e.f0.f0 = 0 := by simp [wAt, h]
      have eh : hit (x :: r) e = decide (x.f0.f0 = e.f0.f0) := by unfold hit; rw [ew]; simp
      rw [ew, eh]
      unfold insE
      rw [if_neg h]
      by_cases h2 : x.f0.f0 = e.f0.f0
      · by_cases h3 : wNew e x = true
        · simp [h2, h3]
        · simp [h2, h3]
      · simp [h2]
theorem insE_mem {e : En} : ∀ {l : List En} {x : En}, x ∈ insE l e → x = e ∨ x ∈ l
  | [], x, h => by simp [insE] at h; exact .inl h
  | y :: r, x, h => by
    unfold insE at h
    split at h
    · rcases List.mem_cons.1 h with rfl | h
      · exact .inr (List.mem_cons_self ..)
      · rcases insE_mem h with h | h
        · exact .inl h
        · exact .inr (List.mem_cons_of_mem _ h)
    · split at h
      · split at h
        · rcases List.mem_cons.1 h with h | h
          · exact .inl h
          · exact .inr (List.mem_cons_of_mem _ h)
        · exact .inr h
      · rcases List.mem_cons.1 h with h | h
        · exact .inl h
        · exact .inr h
theorem insE_inc {e : En} : ∀ {l : List En}, incE l → incE (insE l e)
  | [], _ => by unfold insE incE; simp
  | y :: r, h => by
    have hh := incE_cons.1 h
    unfold insE
    split
    · rename_i hlt
      refine incE_cons.2 ⟨fun x hx => ?_, insE_inc hh.2⟩
      rcases insE_mem hx with rfl | hx
      · exact hlt
      · exact hh.1 x hx
    · split
      · rename_i he
        split
        · exact incE_cons.2 ⟨fun x hx => by have := hh.1 x hx; omega, hh.2⟩
        · exact h
      · refine incE_cons.2 ⟨fun x hx => ?_, h⟩
        rcases List.mem_cons.1 hx with rfl | hx
        · omega
        · have := hh.1 x hx; omega
theorem insE_len {e : En} : ∀ {l : List En}, (insE l e).length ≤ l.length + 1
  | [] => by simp [insE]
  | y :: r => by
    have := insE_len (e := e) (l := r)
    unfold insE
    split
    · simp; omega
    · split
      · split <;> simp
      · simp
def held (y : En) (l : List En) : Prop := ∃ x ∈ l, x.f0.f0 = y.f0.f0 ∧ wNew y x = false
theorem held_mem {y : En} {l : List En} (h : y ∈ l) : held y l := ⟨y, h, rfl, wNew_self y⟩
theorem insE_hold {e : En} : ∀ {l : List En} {y : En}, y ∈ l → held y (insE l e)
  | [], _, h => by cases h
  | z :: r, y, h => by
    unfold insE
    split
    · rcases List.mem_cons.1 h with rfl | h
      · exact held_mem (List.mem_cons_self ..)
      · obtain ⟨x, hx, h1⟩ := insE_hold (e := e) h
        exact ⟨x, List.mem_cons_of_mem _ hx, h1⟩
    · split
      · rename_i he
        split
        · rename_i hn
          rcases List.mem_cons.1 h with rfl | h
          · exact ⟨e, List.mem_cons_self .., he.symm, wNew_as hn⟩
          · exact held_mem (List.mem_cons_of_mem _ h)
        · exact held_mem h
      · exact held_mem (List.mem_cons_of_mem _ h)
theorem held_ins {e y : En} {l : List En} (h : held y l) : held y (insE l e) := by
  obtain ⟨x, hx, h1, h2⟩ := h
  obtain ⟨x', hx', h3, h4⟩ := insE_hold (e := e) hx
  exact ⟨x', hx', by omega, wNew_tr h2 h4⟩
theorem insE_has {e : En} : ∀ {l : List En}, held e (insE l e)
  | [] => held_mem (by simp [insE])
  | y :: r => by
    unfold insE
    split
    · obtain ⟨x, hx, h⟩ := insE_has (e := e) (l := r)
      exact ⟨x, List.mem_cons_of_mem _ hx, h⟩
    · split
      · rename_i he
        split
        · exact held_mem (List.mem_cons_self ..)
        · rename_i hn
          exact ⟨y, List.mem_cons_self .., he, by simpa using hn⟩
      · exact held_mem (List.mem_cons_self ..)
theorem insE_noop {e : En} : ∀ {l : List En}, incE l → held e l → insE l e = l
  | [], _, h => by obtain ⟨x, hx, _⟩ := h; cases hx
  | y :: r, hi, h => by
    have hh := incE_cons.1 hi
    obtain ⟨x, hx, h1, h2⟩ := h
    unfold insE
    rcases List.mem_cons.1 hx with rfl | hx
    · rw [if_neg (by omega), if_pos h1, if_neg (by rw [h2]; simp)]
    · have := hh.1 x hx
      rw [if_pos (by omega), insE_noop hh.2 ⟨x, hx, h1, h2⟩]
theorem tk_ins {l : List En} {e : En} (hl : wLog l = true) (hn : ∀ x ∈ l, x.neat) (he : okE e = true) (hne : e.neat) (hlen : (insE l e).length ≤ 16) : tk l e = insE l e := by
  have hli := wLog_iff.1 hl
  have hw : wLog (insE l e) = true := wLog_iff.2 ⟨hlen, fun x hx => by
    rcases insE_mem hx with rfl | h
    · exact he
    · exact hli.2.1 x h, insE_inc hli.2.2⟩
  have hq := insE_eq e l
  have ho : tkO l e = l.take (wAt l e.f0.f0) ++ e :: l.drop (if hit l e = true then wAt l e.f0.f0 + 1 else wAt l e.f0.f0) := by
    unfold tkO
    rw [fr_neat hne, frs_neat fun x hx => hn x (List.mem_of_mem_take hx), frs_neat fun x hx => hn x (List.mem_of_mem_drop hx)]
  unfold tk
  rw [frs_neat hn]
  by_cases h : (hit l e && !wNew e (l.getD (wAt l e.f0.f0) enD)) = true
  · rw [if_pos h] at hq ⊢
    exact hq
  · rw [if_neg h] at hq ⊢
    rw [← ho] at hq
    rw [hq, hl, hw]
    simp
theorem tk_log {l : List En} {e : En} (hl : wLog l = true) (hn : ∀ x ∈ l, x.neat) : wLog (tk l e) = true := by
  unfold tk
  rw [frs_neat hn]
  split
  · exact hl
  · split
    · rename_i h
      simp only [Bool.and_eq_true] at h
      exact h.2
    · exact hl
theorem mgTo_log {a b : List En} (ha : wLog a = true) (hna : ∀ x ∈ a, x.neat) (hnb : ∀ x ∈ b, x.neat) : ∀ n, n ≤ b.length → wLog (mgTo a b n) = true
  | 0, _ => by unfold mgTo; rw [frs_neat hna]; exact ha
  | n + 1, hn => by
    unfold mgTo
    exact tk_log (mgTo_log ha hna hnb n (by omega)) (mgTo_neat hna hnb n (by omega))
theorem mgOf_log {a b : List En} (hna : ∀ x ∈ a, x.neat) (hnb : ∀ x ∈ b, x.neat) (ha : wLog a = true) (hb : wLog b = true) : wLog (mgOf a b) = true := by
  unfold mgOf
  rw [ha, hb]
  exact mgTo_log ha hna hnb _ (Nat.le_refl _)
structure MgI (a b : List En) (n : Nat) (L : List En) : Prop where
  len : L.length ≤ a.length + n
  mem : ∀ x ∈ L, x ∈ a ∨ x ∈ b
  ha : ∀ y ∈ a, held y L
  hb : ∀ k, k < n → (h : k < b.length) → held b[k] L
theorem mgTo_inv {a b : List En} (ha : wLog a = true) (hb : wLog b = true) (hna : ∀ x ∈ a, x.neat) (hnb : ∀ x ∈ b, x.neat) (hab : a.length + b.length ≤ 16) : ∀ n, n ≤ b.length → MgI a b n (mgTo a b n)
  | 0, _ => by
    have e0 : mgTo a b 0 = a := by unfold mgTo; exact frs_neat hna
    rw [e0]
    exact ⟨Nat.le_refl _, fun x hx => .inl hx, fun y hy => held_mem hy, fun k hk => by omega⟩
  | n + 1, hn => by
    have I := mgTo_inv ha hb hna hnb hab n (by omega)
    have hL := mgTo_log ha hna hnb n (by omega)
    have hN := mgTo_neat hna hnb n (by omega)
    have e1 : mgTo a b (n + 1) = tk (mgTo a b n) b[n] := by rw [mgTo]; simp [show n < b.length by omega]
    have hbm : b[n] ∈ b := List.getElem_mem ..
    have hln : (insE (mgTo a b n) b[n]).length ≤ (mgTo a b n).length + 1 := insE_len
    have hIl := I.len
    rw [e1, tk_ins hL hN ((wLog_iff.1 hb).2.1 _ hbm) (hnb _ hbm) (by omega)]
    refine ⟨by omega, fun x hx => ?_, fun y hy => held_ins (I.ha y hy), fun k hk h => ?_⟩
    · rcases insE_mem hx with rfl | h
      · exact .inr hbm
      · exact I.mem x h
    · rcases Nat.lt_or_ge k n with h1 | h1
      · exact held_ins (I.hb k h1 h)
      · obtain rfl : k = n := by omega
        exact insE_has
theorem incE_uniq {l : List En} (h : incE l) {x y : En} (hx : x ∈ l) (hy : y ∈ l) (he : x.f0.f0 = y.f0.f0) : x = y := by
  obtain ⟨a, ha, rfl⟩ := List.getElem_of_mem hx
  obtain ⟨b, hb, rfl⟩ := List.getElem_of_mem hy
  rcases Nat.lt_trichotomy a b with h1 | h1 | h1
  · have := incE_at h h1 hb; omega
  · subst h1; rfl
  · have := incE_at h h1 ha; omega
theorem incE_ext : ∀ {l m : List En}, incE l → incE m → (∀ x, x ∈ l ↔ x ∈ m) → l = m
  | [], [], _, _, _ => rfl
  | [], y :: r, _, _, h => by have := (h y).2 (List.mem_cons_self ..); cases this
  | x :: l, [], _, _, h => by have := (h x).1 (List.mem_cons_self ..); cases this
  | x :: l, y :: r, hl, hm, h => by
    have h1 := incE_cons.1 hl
    have h2 := incE_cons.1 hm
    have hxy : x = y := by
      rcases List.mem_cons.1 ((h x).1 (List.mem_cons_self ..)) with e | e
      · exact e
      rcases List.mem_cons.1 ((h y).2 (List.mem_cons_self ..)) with e' | e'
      · exact e'.symm
      have := h1.1 y e'
      have := h2.1 x e
      omega
    subst hxy
    rw [incE_ext h1.2 h2.2 fun z => ?_]
    constructor
    · intro hz
      rcases List.mem_cons.1 ((h z).1 (List.mem_cons_of_mem _ hz)) with rfl | e
      · have := h1.1 z hz; omega
      · exact e
    · intro hz
      rcases List.mem_cons.1 ((h z).2 (List.mem_cons_of_mem _ hz)) with rfl | e
      · have := h2.1 z hz; omega
      · exact e
def noTie (a b : List En) : Prop := ∀ x ∈ a, ∀ y ∈ b, ¬ (x.f0.f0 = y.f0.f0 ∧ x.f1 = y.f1 ∧ x.f2 = y.f2)
section
variable {a b : List En} (ha : wLog a = true) (hb : wLog b = true) (hna : ∀ x ∈ a, x.neat) (hnb : ∀ x ∈ b, x.neat) (hab : a.length + b.length ≤ 16)
include ha hb hna hnb hab
theorem mgOf_inv : MgI a b b.length (mgOf a b) := by
  have := mgTo_inv ha hb hna hnb hab b.length (Nat.le_refl _)
  unfold mgOf
  rw [ha, hb]
  exact this
theorem mgOf_all : ∀ y, y ∈ a ∨ y ∈ b → held y (mgOf a b) := by
  have I := mgOf_inv ha hb hna hnb hab
  rintro y (h | h)
  · exact I.ha y h
  · obtain ⟨k, hk, rfl⟩ := List.getElem_of_mem h
    exact I.hb k hk hk
theorem mg_sub (ht : noTie a b) : ∀ x, x ∈ mgOf a b → x ∈ mgOf b a := by
  intro x hx
  have I := mgOf_inv ha hb hna hnb hab
  have J := mgOf_inv hb ha hnb hna (by omega)
  have hi := (wLog_iff.1 (mgOf_log hna hnb ha hb)).2.2
  obtain ⟨x1, hx1, e1, n1⟩ := mgOf_all hb ha hnb hna (by omega) x (I.mem x hx).symm
  obtain ⟨x2, hx2, e2, n2⟩ := mgOf_all ha hb hna hnb hab x1 (J.mem x1 hx1).symm
  obtain rfl : x2 = x := incE_uniq hi hx2 hx (by omega)
  rw [wNew_f] at n1 n2
  have hia := (wLog_iff.1 ha).2.2
  have hib := (wLog_iff.1 hb).2.2
  have : x1 = x2 := by
    rcases I.mem x2 hx with h1 | h1 <;> rcases (J.mem x1 hx1).symm with h2 | h2
    · exact incE_uniq hia h2 h1 (by omega)
    · exact absurd ⟨by omega, by omega, by omega⟩ (ht x2 h1 x1 h2)
    · exact absurd ⟨by omega, by omega, by omega⟩ (ht x1 h2 x2 h1)
    · exact incE_uniq hib h2 h1 (by omega)
  rw [← this]
  exact hx1
theorem mg_comm (ht : noTie a b) : mgOf a b = mgOf b a := by
  refine incE_ext (wLog_iff.1 (mgOf_log hna hnb ha hb)).2.2 (wLog_iff.1 (mgOf_log hnb hna hb ha)).2.2 fun x => ⟨mg_sub ha hb hna hnb hab ht x, mg_sub hb ha hnb hna (by omega) (fun x hx y hy h => ht y hy x hx ⟨by omega, by omega, by omega⟩) x⟩
end
theorem mg_noop {m b : List En} (hm : wLog m = true) (hb : wLog b = true) (hnm : ∀ x ∈ m, x.neat) (hnb : ∀ x ∈ b, x.neat) (hh : ∀ y ∈ b, held y m) : mgOf m b = m := by
  have : ∀ n, n ≤ b.length → mgTo m b n = m := by
    intro n
    induction n with
    | zero => intro _; unfold mgTo; exact frs_neat hnm
    | succ n ih =>
      intro hn
      have e1 : mgTo m b (n + 1) = tk (mgTo m b n) b[n] := by rw [mgTo]; simp [show n < b.length by omega]
      have hbm : b[n] ∈ b := List.getElem_mem ..
      have hno := insE_noop (wLog_iff.1 hm).2.2 (hh _ hbm)
      rw [e1, ih (by omega), tk_ins hm hnm ((wLog_iff.1 hb).2.1 _ hbm) (hnb _ hbm) (by rw [hno]; exact wLog_len hm), hno]
  unfold mgOf
  rw [hm, hb]
  exact this _ (Nat.le_refl _)
theorem wEqL_self (l : List Pt) : wEqL l l = true := by
  unfold wEqL allTo
  rw [decide_eq_true rfl, Bool.true_and, List.all_eq_true]
  intro n _
  unfold eqAt eqb
  simp
theorem wEqE_self (x : En) : wEqE x x = true := by
  unfold wEqE wEqF
  rw [wEqL_self]
  simp
theorem wEqLog_self (l : List En) : wEqLog l l = true := by
  unfold wEqLog allTo
  rw [decide_eq_true rfl, Bool.true_and, List.all_eq_true]
  intro n _
  unfold eqEAt
  exact wEqE_self _
theorem soTo_filter (l : List En) : ∀ n, n ≤ l.length → soTo l n = ((l.take n).filter (fun x => !x.f3)).map fun x => x.f0.fr
  | 0, _ => by simp [soTo]
  | n + 1, hn => by
    have hg : l.getD n enD = l[n] := by simp [show n < l.length by omega]
    unfold soTo
    rw [soTo_filter l n (by omega), List.take_add_one, List.getElem?_eq_getElem (show n < l.length by omega), List.filter_append, List.map_append, hg]
    cases h : l[n].f3 <;> simp [h]
theorem so_src {l : List En} (hl : wLog l = true) : wSrc (soOf l) = true := by
  obtain ⟨h1, h2, h3⟩ := wLog_iff.1 hl
  have hso : soOf l = (l.filter (fun x => !x.f3)).map fun x => x.f0.fr := by
    unfold soOf
    rw [if_pos hl, soTo_filter l _ (Nat.le_refl _), List.take_of_length_le (Nat.le_refl _)]
  rw [hso]
  refine wSrc_iff.2 ⟨?_, fun x hx => ?_, ?_⟩
  · rw [List.length_map]
    exact Nat.le_trans (List.length_filter_le ..) h1
  · obtain ⟨y, hy, rfl⟩ := List.mem_map.1 hx
    have := h2 y ((List.mem_filter.1 hy).1)
    unfold okE at this
    simp only [Bool.and_eq_true] at this
    rw [wFeat_fr]
    exact this.1
  · unfold inc
    rw [List.map_map]
    unfold incE at h3
    rw [List.pairwise_map] at h3 ⊢
    exact h3.sublist (List.filter_sublist ..)
theorem so_len (l : List En) : (soOf l).length ≤ l.length := by
  unfold soOf
  split
  · exact soTo_len l _
  · exact Nat.zero_le _
end Go.Eng
namespace Go.Eng
open Go Go.Proofs Geo
set_option linter.unusedSimpArgs false
set_option linter.unusedVariables false
set_option maxRecDepth 20000
set_option maxHeartbeats 2000000

/-! draws of logs. WRITES -/
def goodE (x : En) : Prop := goodF x.f0
def goodG (l : List En) : Prop := l.length ≤ 16 ∧ ∀ x ∈ l, goodE x
theorem goodE.frg {x : En} (h : goodE x) : goodE x.fr := goodF.frg h
theorem tk_good {l : List En} {e : En} (hl : ∀ x ∈ l, goodE x) (he : goodE e) : (tk l e).length ≤ l.length + 1 ∧ ∀ x ∈ tk l e, goodE x := by
  have h1 : ∀ x ∈ l.map En.fr, goodE x := fun x hx => by
    obtain ⟨y, hy, rfl⟩ := List.mem_map.1 hx
    exact (hl y hy).frg
  unfold tk
  split
  · exact ⟨by simp, h1⟩
  · split
    · exact ⟨tkO_len, tkO_ok (p := goodE) (fun x hx => (hl x hx).frg) he.frg⟩
    · exact ⟨by simp, h1⟩
theorem enEx {x : Ft} {a b : Int} {q : Bool} (hx : goodF x) : ∃ y : En, [i x.f0, i x.f1, i x.f2, .str x.f3, .lst 2 x.nl (x.f4.map cp), i a, i b, .bool q] = en y ∧ goodE y := ⟨⟨x, a, b, q⟩, rfl, hx⟩
theorem f41 (who : Int) : FnR Try.prog 41 true true [i who] (fun v => ∃ x : En, v = .agg (en x) ∧ goodE x) := by
  refine FnR.by_sxC hX (by kernel_rfl) c41 rfl rfl rfl (fun h => by cases h) ?_
  intro cs hcs
  simp [i41, sxa, isPtrN, PV.pcs, elAt, setEl, inAt, elIn, setIn, isLst, cellsOf, Ex.ok, Ex.val, Opd.val, POp.dst, bin_int, binOK_int, bin_str, binOK_str, resOK, resV, RB.val, sub, putc, scB, scL, oneB, conf, Ex.val.eqP, Ex.val.eqL, negV, mxV, mnV, ← wr_eq, wr_zero, wr_one, wr_m1, bst_lst, byteC, partsOK, putAll, appV, nilV, slV, sslV, optB, optNum, and_assoc, exists_and_left, exists_eq_left']
  repeat' (first | intro _ | (simp [sxa, isPtrN, PV.pcs, elAt, setEl, inAt, elIn, setIn, isLst, cellsOf, Ex.ok, Ex.val, Opd.val, POp.dst, bin_int, binOK_int, bin_str, binOK_str, resOK, resV, RB.val, sub, putc, scB, scL, oneB, conf, Ex.val.eqP, Ex.val.eqL, negV, mxV, mnV, ← wr_eq, wr_zero, wr_one, wr_m1, bst_lst, byteC, partsOK, putAll, appV, nilV, slV, sslV, optB, optNum, and_assoc, exists_and_left, exists_eq_left', *]) | refine ⟨by assumption, CopC_i (f26 7 (by omega)) (fun _ _ => by first | exact ⟨fun _ => rfl, (fun h => by cases h)⟩ | exact ⟨(fun h => by cases h), fun _ => ⟨_, rfl⟩⟩ | exact ⟨(fun h => by cases h), (fun h => by cases h)⟩) (fun x cs hx hcs => ?_)⟩ | refine CopC_i (f26 7 (by omega)) (fun _ _ => by first | exact ⟨fun _ => rfl, (fun h => by cases h)⟩ | exact ⟨(fun h => by cases h), fun _ => ⟨_, rfl⟩⟩ | exact ⟨(fun h => by cases h), (fun h => by cases h)⟩) (fun x cs hx hcs => ?_) | refine CondS_d (fun h => ?_) (fun h => ?_) | refine CondS_b (fun h => ?_) (fun h => ?_) | refine GrdS_d (fun h => ?_) (fun h => ?_) | refine GrdS_b (fun h => ?_) (fun h => ?_) | refine OkS_i (by omega) ?_ | fail)
  refine CopC_i (f59 _) (fun _ _ => ⟨(fun h => by cases h), (fun h => by cases h)⟩) (fun e cs2 he hcs2 => ?_)
  repeat' (first | intro _ | (simp [sxa, isPtrN, PV.pcs, elAt, setEl, inAt, elIn, setIn, isLst, cellsOf, Ex.ok, Ex.val, Opd.val, POp.dst, bin_int, binOK_int, bin_str, binOK_str, resOK, resV, RB.val, sub, putc, scB, scL, oneB, conf, Ex.val.eqP, Ex.val.eqL, negV, mxV, mnV, ← wr_eq, wr_zero, wr_one, wr_m1, bst_lst, byteC, partsOK, putAll, appV, nilV, slV, sslV, optB, optNum, and_assoc, exists_and_left, exists_eq_left', ft, *]) | refine ⟨by assumption, CopC_i (f26 6 (by omega)) (fun _ _ => by first | exact ⟨fun _ => rfl, (fun h => by cases h)⟩ | exact ⟨(fun h => by cases h), fun _ => ⟨_, rfl⟩⟩ | exact ⟨(fun h => by cases h), (fun h => by cases h)⟩) (fun x cs hx hcs => ?_)⟩ | refine ⟨by assumption, CopC_i (f60 4 (by omega)) (fun _ _ => by first | exact ⟨fun _ => rfl, (fun h => by cases h)⟩ | exact ⟨(fun h => by cases h), fun _ => ⟨_, rfl⟩⟩ | exact ⟨(fun h => by cases h), (fun h => by cases h)⟩) (fun x cs hx hcs => ?_)⟩ | refine CopC_i (f26 6 (by omega)) (fun _ _ => by first | exact ⟨fun _ => rfl, (fun h => by cases h)⟩ | exact ⟨(fun h => by cases h), fun _ => ⟨_, rfl⟩⟩ | exact ⟨(fun h => by cases h), (fun h => by cases h)⟩) (fun x cs hx hcs => ?_) | refine CopC_i (f60 4 (by omega)) (fun _ _ => by first | exact ⟨fun _ => rfl, (fun h => by cases h)⟩ | exact ⟨(fun h => by cases h), fun _ => ⟨_, rfl⟩⟩ | exact ⟨(fun h => by cases h), (fun h => by cases h)⟩) (fun x cs hx hcs => ?_) | refine CondS_d (fun h => ?_) (fun h => ?_) | refine CondS_b (fun h => ?_) (fun h => ?_) | refine GrdS_d (fun h => ?_) (fun h => ?_) | refine GrdS_b (fun h => ?_) (fun h => ?_) | refine OkS_i (by omega) ?_ | fail)
  all_goals exact enEx he
theorem f25 (who : Int) : FnR Try.prog 25 true true [i who] (fun v => ∃ l : List En, v = .lst 8 false (l.map en) ∧ goodG l) := by
  refine FnR.by_sxC hX (by kernel_rfl) c25 rfl rfl rfl (fun h => by cases h) ?_
  intro cs hcs
  simp [i25, sxa, isPtrN, PV.pcs, elAt, setEl, inAt, elIn, setIn, isLst, cellsOf, Ex.ok, Ex.val, Opd.val, POp.dst, bin_int, binOK_int, bin_str, binOK_str, resOK, resV, RB.val, sub, putc, scB, scL, oneB, conf, Ex.val.eqP, Ex.val.eqL, negV, mxV, mnV, ← wr_eq, wr_zero, wr_one, wr_m1, bst_lst, byteC, partsOK, putAll, appV, nilV, slV, sslV, optB, optNum, and_assoc, exists_and_left, exists_eq_left']
  repeat' (first | intro _ | (simp [sxa, isPtrN, PV.pcs, elAt, setEl, inAt, elIn, setIn, isLst, cellsOf, Ex.ok, Ex.val, Opd.val, POp.dst, bin_int, binOK_int, bin_str, binOK_str, resOK, resV, RB.val, sub, putc, scB, scL, oneB, conf, Ex.val.eqP, Ex.val.eqL, negV, mxV, mnV, ← wr_eq, wr_zero, wr_one, wr_m1, bst_lst, byteC, partsOK, putAll, appV, nilV, slV, sslV, optB, optNum, and_assoc, exists_and_left, exists_eq_left', *]) | refine ⟨by assumption, CopC_i (f26 6 (by omega)) (fun _ _ => by first | exact ⟨fun _ => rfl, (fun h => by cases h)⟩ | exact ⟨(fun h => by cases h), fun _ => ⟨_, rfl⟩⟩ | exact ⟨(fun h => by cases h), (fun h => by cases h)⟩) (fun x cs hx hcs => ?_)⟩ | refine CopC_i (f26 6 (by omega)) (fun _ _ => by first | exact ⟨fun _ => rfl, (fun h => by cases h)⟩ | exact ⟨(fun h => by cases h), fun _ => ⟨_, rfl⟩⟩ | exact ⟨(fun h => by cases h), (fun h => by cases h)⟩) (fun x cs hx hcs => ?_) | refine CondS_d (fun h => ?_) (fun h => ?_) | refine CondS_b (fun h => ?_) (fun h => ?_) | refine GrdS_d (fun h => ?_) (fun h => ?_) | refine GrdS_b (fun h => ?_) (fun h => ?_) | refine OkS_i (by omega) ?_ | fail)
  have hx5 := hx.2 (by omega)
  have hx0 := hx.1
  obtain ⟨N, rfl⟩ : ∃ N : Nat, x = N := ⟨x.toNat, by omega⟩
  refine sx_down (fun m V => isCur (V 0) = true ∧ V 1 = i who ∧ V 6 = i m ∧ ∃ l : List En, V 5 = .lst 8 false (l.map en) ∧ l.length + m ≤ 6 ∧ ∀ x ∈ l, goodE x) N ⟨by simp [sxa, isPtrN, PV.pcs, elAt, setEl, inAt, elIn, setIn, isLst, cellsOf, Ex.ok, Ex.val, Opd.val, POp.dst, bin_int, binOK_int, bin_str, binOK_str, resOK, resV, RB.val, sub, putc, scB, scL, oneB, conf, Ex.val.eqP, Ex.val.eqL, negV, mxV, mnV, ← wr_eq, wr_zero, wr_one, wr_m1, bst_lst, byteC, partsOK, putAll, appV, nilV, slV, sslV, optB, optNum, and_assoc, exists_and_left, exists_eq_left', hcs], by simp [sxa, isPtrN, PV.pcs, elAt, setEl, inAt, elIn, setIn, isLst, cellsOf, Ex.ok, Ex.val, Opd.val, POp.dst, bin_int, binOK_int, bin_str, binOK_str, resOK, resV, RB.val, sub, putc, scB, scL, oneB, conf, Ex.val.eqP, Ex.val.eqL, negV, mxV, mnV, ← wr_eq, wr_zero, wr_one, wr_m1, bst_lst, byteC, partsOK, putAll, appV, nilV, slV, sslV, optB, optNum, and_assoc, exists_and_left, exists_eq_left'], by simp [sxa, isPtrN, PV.pcs, elAt, setEl, inAt, elIn, setIn, isLst, cellsOf, Ex.ok, Ex.val, Opd.val, POp.dst, bin_int, binOK_int, bin_str, binOK_str, resOK, resV, RB.val, sub, putc, scB, scL, oneB, conf, Ex.val.eqP, Ex.val.eqL, negV, mxV, mnV, ← wr_eq, wr_zero, wr_one, wr_m1, bst_lst, byteC, partsOK, putAll, appV, nilV, slV, sslV, optB, optNum, and_assoc, exists_and_left, exists_eq_left'], [], by simp [sxa, isPtrN, PV.pcs, elAt, setEl, inAt, elIn, setIn, isLst, cellsOf, Ex.ok, Ex.val, Opd.val, POp.dst, bin_int, binOK_int, bin_str, binOK_str, resOK, resV, RB.val, sub, putc, scB, scL, oneB, conf, Ex.val.eqP, Ex.val.eqL, negV, mxV, mnV, ← wr_eq, wr_zero, wr_one, wr_m1, bst_lst, byteC, partsOK, putAll, appV, nilV, slV, sslV, optB, optNum, and_assoc, exists_and_left, exists_eq_left'], by simp; omega, by simp⟩ ?_
  clear hcs
  rintro m V ⟨gc, g1, g6, l, g5, hlm, hg⟩
  simp [sxa, isPtrN, PV.pcs, elAt, setEl, inAt, elIn, setIn, isLst, cellsOf, Ex.ok, Ex.val, Opd.val, POp.dst, bin_int, binOK_int, bin_str, binOK_str, resOK, resV, RB.val, sub, putc, scB, scL, oneB, conf, Ex.val.eqP, Ex.val.eqL, negV, mxV, mnV, ← wr_eq, wr_zero, wr_one, wr_m1, bst_lst, byteC, partsOK, putAll, appV, nilV, slV, sslV, optB, optNum, and_assoc, exists_and_left, exists_eq_left', g6]
  refine CondS_d (fun hlt => ?_) (fun hge => ?_)
  · obtain ⟨q, rfl⟩ : ∃ q, m = q + 1 := ⟨m - 1, by omega⟩
    have hw1 : wr .i64 ((q : Int) + 1 - 1) = q := by rw [wr_in (by omega) (by omega)]; omega
    have hw2 : wr .i64 (((q + 1 : Nat) : Int) - 1) = q := by rw [wr_in (by omega) (by omega)]; omega
    simp [sxa, isPtrN, PV.pcs, elAt, setEl, inAt, elIn, setIn, isLst, cellsOf, Ex.ok, Ex.val, Opd.val, POp.dst, bin_int, binOK_int, bin_str, binOK_str, resOK, resV, RB.val, sub, putc, scB, scL, oneB, conf, Ex.val.eqP, Ex.val.eqL, negV, mxV, mnV, ← wr_eq, wr_zero, wr_one, wr_m1, bst_lst, byteC, partsOK, putAll, appV, nilV, slV, sslV, optB, optNum, and_assoc, exists_and_left, exists_eq_left', g1, g5, gc]
    refine CopC_i (f41 who) (fun _ _ => ⟨(fun h => by cases h), (fun h => by cases h)⟩) (fun e cs2 he hcs2 => ?_)
    have hp := f40 l e false (by omega) (fun x hx => (hg x hx).ok) he.ok (fun x hx => by have := (hg x hx).1.2; omega) (by have := he.1.2; omega)
    obtain ⟨q1, q2⟩ := tk_good hg he
    obtain ⟨L2, hL2⟩ : ∃ L, tk l e = L := ⟨_, rfl⟩
    rw [hL2] at hp q1 q2
    clear hL2 hg gc
    repeat' (first | intro _ | (simp [sxa, isPtrN, PV.pcs, elAt, setEl, inAt, elIn, setIn, isLst, cellsOf, Ex.ok, Ex.val, Opd.val, POp.dst, bin_int, binOK_int, bin_str, binOK_str, resOK, resV, RB.val, sub, putc, scB, scL, oneB, conf, Ex.val.eqP, Ex.val.eqL, negV, mxV, mnV, ← wr_eq, wr_zero, wr_one, wr_m1, bst_lst, byteC, partsOK, putAll, appV, nilV, slV, sslV, optB, optNum, and_assoc, exists_and_left, exists_eq_left', *]) | refine CallS_i (hp) ?_ | refine CallM_i (hp) ?_ | refine CallE_i (hp) ?_ | refine CallX_i (hp) ?_ | refine CallB_i (hp) ?_ | refine CondS_d (fun h => ?_) (fun h => ?_) | refine CondS_b (fun h => ?_) (fun h => ?_) | refine GrdS_d (fun h => ?_) (fun h => ?_) | refine GrdS_b (fun h => ?_) (fun h => ?_) | refine OkS_i (by omega) ?_ | fail)
    all_goals exact ⟨q, by omega, wr_in (by omega) (by omega), L2, rfl, by omega, q2⟩
  · have : m = 0 := by omega
    subst this
    repeat' (first | intro _ | (simp [sxa, isPtrN, PV.pcs, elAt, setEl, inAt, elIn, setIn, isLst, cellsOf, Ex.ok, Ex.val, Opd.val, POp.dst, bin_int, binOK_int, bin_str, binOK_str, resOK, resV, RB.val, sub, putc, scB, scL, oneB, conf, Ex.val.eqP, Ex.val.eqL, negV, mxV, mnV, ← wr_eq, wr_zero, wr_one, wr_m1, bst_lst, byteC, partsOK, putAll, appV, nilV, slV, sslV, optB, optNum, and_assoc, exists_and_left, exists_eq_left', *]) | refine CondS_d (fun h => ?_) (fun h => ?_) | refine CondS_b (fun h => ?_) (fun h => ?_) | refine GrdS_d (fun h => ?_) (fun h => ?_) | refine GrdS_b (fun h => ?_) (fun h => ?_) | refine OkS_i (by omega) ?_ | fail)
    all_goals exact ⟨l, rfl, by omega, hg⟩
theorem getE {l : List En} {k : Nat} (h : k < l.length) : (l.map en)[k]? = some (en l[k]) := by simp [h]
theorem setExE {l : List En} {k : Nat} {x : Ft} {a b : Int} {q : Bool} (hg : goodG l) (hx : goodF x) : ∃ l' : List En, (l.map en).set k [i x.f0, i x.f1, i x.f2, .str x.f3, .lst 2 x.nl (x.f4.map cp), i a, i b, .bool q] = l'.map en ∧ goodG l' :=
  ⟨l.set k ⟨x, a, b, q⟩, by rw [List.map_set]; rfl, by rw [List.length_set]; exact hg.1, fun y hy => by
    rcases List.mem_or_eq_of_mem_set hy with h | rfl
    · exact hg.2 y h
    · exact hx⟩
theorem f14 (who : Int) : FnR Try.prog 14 true true [i who] (fun v => ∃ l : List En, v = .lst 8 false (l.map en) ∧ goodG l) := by
  refine FnR.by_sxC hX (by kernel_rfl) c14 rfl rfl rfl (fun h => by cases h) ?_
  intro cs hcs
  simp [i14, sxa, isPtrN, PV.pcs, elAt, setEl, inAt, elIn, setIn, isLst, cellsOf, Ex.ok, Ex.val, Opd.val, POp.dst, bin_int, binOK_int, bin_str, binOK_str, resOK, resV, RB.val, sub, putc, scB, scL, oneB, conf, Ex.val.eqP, Ex.val.eqL, negV, mxV, mnV, ← wr_eq, wr_zero, wr_one, wr_m1, bst_lst, byteC, partsOK, putAll, appV, nilV, slV, sslV, optB, optNum, and_assoc, exists_and_left, exists_eq_left']
  refine ⟨hcs, CopC_i (f25 who) (fun _ _ => ⟨(fun h => by cases h), (fun h => by cases h)⟩) (fun l cs2 hx hcs2 => ?_)⟩
  have hgl := hx
  have hl16 := hx.1
  repeat' (first | intro _ | (simp [sxa, isPtrN, PV.pcs, elAt, setEl, inAt, elIn, setIn, isLst, cellsOf, Ex.ok, Ex.val, Opd.val, POp.dst, bin_int, binOK_int, bin_str, binOK_str, resOK, resV, RB.val, sub, putc, scB, scL, oneB, conf, Ex.val.eqP, Ex.val.eqL, negV, mxV, mnV, ← wr_eq, wr_zero, wr_one, wr_m1, bst_lst, byteC, partsOK, putAll, appV, nilV, slV, sslV, optB, optNum, and_assoc, exists_and_left, exists_eq_left', *]) | refine CondS_d (fun h => ?_) (fun h => ?_) | refine CondS_b (fun h => ?_) (fun h => ?_) | refine GrdS_d (fun h => ?_) (fun h => ?_) | refine GrdS_b (fun h => ?_) (fun h => ?_) | refine OkS_i (by omega) ?_ | fail)
  · exact ⟨by simp, by simp⟩
  have hpos : 0 < l.length := List.length_pos_iff.2 (by assumption)
  refine CopC_i (f26 (l.length : Int) (by omega)) (fun _ _ => ⟨fun _ => rfl, (fun h => by cases h)⟩) (fun z cs3 hz hcs3 => ?_)
  have hz1 := hz.2 (by omega)
  have hz0 := hz.1
  obtain ⟨k, rfl⟩ : ∃ k : Nat, z = k := ⟨z.toNat, by omega⟩
  have hk : k < l.length := by omega
  have hkI : (k : Int) < l.length := hz1
  have hk0 : (0 : Int) ≤ k := hz0
  have hc0 : FnR Try.prog 27 true false [.lst 1 false [[i (-1)], [i 100000], [i 100001]]] (fun v => ∃ x : Int, v = i x ∧ rawP x) := (f27 [-1, 100000, 100001] false (by decide) (by decide)).weak (fun v ⟨x, h, _⟩ => ⟨x, h, trivial⟩)
  have hc1 : FnR Try.prog 27 true false [.lst 1 false [[i 0], [i 99], [i 100]]] (fun v => ∃ x : Int, v = i x ∧ rawP x) := (f27 [0, 99, 100] false (by decide) (by decide)).weak (fun v ⟨x, h, _⟩ => ⟨x, h, trivial⟩)
  have hgk : goodF l[k].f0 := hx.2 _ (List.getElem_mem hk)
  have hat : (l.map en)[k]? = some [i l[k].f0.f0, i l[k].f0.f1, i l[k].f0.f2, .str l[k].f0.f3, .lst 2 l[k].f0.nl (l[k].f0.f4.map cp), i l[k].f1, i l[k].f2, .bool l[k].f3] := getE hk
  repeat' (first | intro _ | (simp [sxa, isPtrN, PV.pcs, elAt, setEl, inAt, elIn, setIn, isLst, cellsOf, Ex.ok, Ex.val, Opd.val, POp.dst, bin_int, binOK_int, bin_str, binOK_str, resOK, resV, RB.val, sub, putc, scB, scL, oneB, conf, Ex.val.eqP, Ex.val.eqL, negV, mxV, mnV, ← wr_eq, wr_zero, wr_one, wr_m1, bst_lst, byteC, partsOK, putAll, appV, nilV, slV, sslV, optB, optNum, and_assoc, exists_and_left, exists_eq_left', en, ft, *]) | refine ⟨by assumption, CopC_i (f26 10 (by omega)) (fun _ _ => by first | exact ⟨fun _ => rfl, (fun h => by cases h)⟩ | exact ⟨(fun h => by cases h), fun _ => ⟨_, rfl⟩⟩ | exact ⟨(fun h => by cases h), (fun h => by cases h)⟩) (fun x cs hx hcs => ?_)⟩ | refine ⟨by assumption, CopC_i (hc0) (fun _ _ => by first | exact ⟨fun _ => rfl, (fun h => by cases h)⟩ | exact ⟨(fun h => by cases h), fun _ => ⟨_, rfl⟩⟩ | exact ⟨(fun h => by cases h), (fun h => by cases h)⟩) (fun x cs hx hcs => ?_)⟩ | refine ⟨by assumption, CopC_i (hc1) (fun _ _ => by first | exact ⟨fun _ => rfl, (fun h => by cases h)⟩ | exact ⟨(fun h => by cases h), fun _ => ⟨_, rfl⟩⟩ | exact ⟨(fun h => by cases h), (fun h => by cases h)⟩) (fun x cs hx hcs => ?_)⟩ | refine ⟨by assumption, CopC_i (f28) (fun _ _ => by first | exact ⟨fun _ => rfl, (fun h => by cases h)⟩ | exact ⟨(fun h => by cases h), fun _ => ⟨_, rfl⟩⟩ | exact ⟨(fun h => by cases h), (fun h => by cases h)⟩) (fun x cs hx hcs => ?_)⟩ | refine CopC_i (f26 10 (by omega)) (fun _ _ => by first | exact ⟨fun _ => rfl, (fun h => by cases h)⟩ | exact ⟨(fun h => by cases h), fun _ => ⟨_, rfl⟩⟩ | exact ⟨(fun h => by cases h), (fun h => by cases h)⟩) (fun x cs hx hcs => ?_) | refine CopC_i (hc0) (fun _ _ => by first | exact ⟨fun _ => rfl, (fun h => by cases h)⟩ | exact ⟨(fun h => by cases h), fun _ => ⟨_, rfl⟩⟩ | exact ⟨(fun h => by cases h), (fun h => by cases h)⟩) (fun x cs hx hcs => ?_) | refine CopC_i (hc1) (fun _ _ => by first | exact ⟨fun _ => rfl, (fun h => by cases h)⟩ | exact ⟨(fun h => by cases h), fun _ => ⟨_, rfl⟩⟩ | exact ⟨(fun h => by cases h), (fun h => by cases h)⟩) (fun x cs hx hcs => ?_) | refine CopC_i (f28) (fun _ _ => by first | exact ⟨fun _ => rfl, (fun h => by cases h)⟩ | exact ⟨(fun h => by cases h), fun _ => ⟨_, rfl⟩⟩ | exact ⟨(fun h => by cases h), (fun h => by cases h)⟩) (fun x cs hx hcs => ?_) | refine CondS_d (fun h => ?_) (fun h => ?_) | refine CondS_b (fun h => ?_) (fun h => ?_) | refine GrdS_d (fun h => ?_) (fun h => ?_) | refine GrdS_b (fun h => ?_) (fun h => ?_) | refine OkS_i (by omega) ?_ | fail)
  · exact setExE hgl hgk
  · exact setExE hgl hgk
  · exact setExE hgl hx
  · exact ⟨l, rfl, hgl⟩
theorem f5 (nl : Bool) (els : List (List PV)) (hce : curEls els = true) : FnR Try.prog 5 false true [.lst 1 nl els] (fun v => ∃ q : List En × List En, v = .tup [.lst 8 false (q.1.map en), .lst 8 false (q.2.map en)] ∧ (goodG q.1 ∧ goodG q.2)) := by
  refine FnR.by_sx hX (by kernel_rfl) c5 rfl (by rfl) ?_
  simp [i5, sxa, isPtrN, PV.pcs, elAt, setEl, inAt, elIn, setIn, isLst, cellsOf, Ex.ok, Ex.val, Opd.val, POp.dst, bin_int, binOK_int, bin_str, binOK_str, resOK, resV, RB.val, sub, putc, scB, scL, oneB, conf, Ex.val.eqP, Ex.val.eqL, negV, mxV, mnV, ← wr_eq, wr_zero, wr_one, wr_m1, bst_lst, byteC, partsOK, putAll, appV, nilV, slV, sslV, optB, optNum, and_assoc, exists_and_left, exists_eq_left']
  repeat' (first | intro _ | (simp [sxa, isPtrN, PV.pcs, elAt, setEl, inAt, elIn, setIn, isLst, cellsOf, Ex.ok, Ex.val, Opd.val, POp.dst, bin_int, binOK_int, bin_str, binOK_str, resOK, resV, RB.val, sub, putc, scB, scL, oneB, conf, Ex.val.eqP, Ex.val.eqL, negV, mxV, mnV, ← wr_eq, wr_zero, wr_one, wr_m1, bst_lst, byteC, partsOK, putAll, appV, nilV, slV, sslV, optB, optNum, and_assoc, exists_and_left, exists_eq_left', *]) | refine ⟨by assumption, CopC_i (f14 1) (fun _ _ => by first | exact ⟨fun _ => rfl, (fun h => by cases h)⟩ | exact ⟨(fun h => by cases h), fun _ => ⟨_, rfl⟩⟩ | exact ⟨(fun h => by cases h), (fun h => by cases h)⟩) (fun x cs hx hcs => ?_)⟩ | refine ⟨by assumption, CopC_i (f14 2) (fun _ _ => by first | exact ⟨fun _ => rfl, (fun h => by cases h)⟩ | exact ⟨(fun h => by cases h), fun _ => ⟨_, rfl⟩⟩ | exact ⟨(fun h => by cases h), (fun h => by cases h)⟩) (fun x cs hx hcs => ?_)⟩ | refine CopN_i (f13 nl els hce) (fun cs hcs => ?_) | refine CopC_i (f14 1) (fun _ _ => by first | exact ⟨fun _ => rfl, (fun h => by cases h)⟩ | exact ⟨(fun h => by cases h), fun _ => ⟨_, rfl⟩⟩ | exact ⟨(fun h => by cases h), (fun h => by cases h)⟩) (fun x cs hx hcs => ?_) | refine CopC_i (f14 2) (fun _ _ => by first | exact ⟨fun _ => rfl, (fun h => by cases h)⟩ | exact ⟨(fun h => by cases h), fun _ => ⟨_, rfl⟩⟩ | exact ⟨(fun h => by cases h), (fun h => by cases h)⟩) (fun x cs hx hcs => ?_) | refine CondS_d (fun h => ?_) (fun h => ?_) | refine CondS_b (fun h => ?_) (fun h => ?_) | refine GrdS_d (fun h => ?_) (fun h => ?_) | refine GrdS_b (fun h => ?_) (fun h => ?_) | refine OkS_i (by omega) ?_ | fail)
  all_goals exact ⟨_, rfl, _, rfl, by assumption, hx⟩
end Go.Eng
namespace Go.Eng
open Go Go.Proofs Geo
set_option linter.unusedSimpArgs false
set_option linter.unusedVariables false
set_option maxRecDepth 20000
set_option maxHeartbeats 1000000

/-! editors: the law's loops. WRITES -/
def ntAt (x : En) (b : List En) (j : Nat) : Bool := decide (¬ (x.f0.f0 = (b.getD j enD).f0.f0 ∧ x.f1 = (b.getD j enD).f1 ∧ x.f2 = (b.getD j enD).f2))
def rowT (a b : List En) (n : Nat) : Bool := allTo (ntAt (a.getD n enD) b) b.length
theorem rowT_noTie {a b : List En} (h : allTo (rowT a b) a.length = true) : noTie a b := by
  intro x hx y hy
  obtain ⟨n, hn, rfl⟩ := List.getElem_of_mem hx
  obtain ⟨k, hk, rfl⟩ := List.getElem_of_mem hy
  have h1 := allTo_at h hn
  unfold rowT at h1
  have h2 := allTo_at h1 hk
  unfold ntAt at h2
  rw [show a.getD n enD = a[n] by simp [hn], show b.getD k enD = b[k] by simp [hk]] at h2
  exact of_decide_eq_true h2
theorem l3_2 {a b m : List En} {n : Nat} {V : Env} (hn : n < a.length) (ha : a.length ≤ 16) (hb : b.length ≤ 16) (hm : m.length ≤ 16) (hmo : ∀ x ∈ m, x.f0.okay) (hml : wLog m = true)
    (h3 : V 3 = .lst 8 false (a.map en)) (h4 : V 4 = .lst 8 false (b.map en)) (h5 : V 5 = .lst 8 false (m.map en)) (h6 : V 6 = i n) (h7 : V 7 = i 0) :
    sx (FC Try.prog) (.loop (.seq (.seq (.ops [s 45 (.mv (t 7)),
  s 46 (.mv (t 4)),
  s 47 (.len false (t 46)),
  s 48 (.bin .lss (t 45) (t 47))])
 (.cond (t 48) .skip (.exit 2)))
 (.seq (.block 3 (.seq (.ops [s 51 (.mv (t 3)),
  s 52 (.mv (t 6)),
  s 53 (.idx (t 51) (t 52) 8),
  s 54 (.mv (t 53)),
  s 55 (.mv (t 54)),
  s 56 (.ldE 51 55 0 1 false true 8),
  s 57 (.mv (t 4)),
  s 58 (.mv (t 7)),
  s 59 (.idx (t 57) (t 58) 8),
  s 60 (.mv (t 59)),
  s 61 (.mv (t 60)),
  s 62 (.ldE 57 61 0 1 false true 8),
  s 63 (.bin .eql (t 56) (t 62)),
  s 64 (.mv (t 63)),
  sg [(64, true)] 65 (.mv (t 3)),
  sg [(64, true)] 66 (.mv (t 6)),
  sg [(64, true)] 67 (.idx (t 65) (t 66) 8),
  sg [(64, true)] 68 (.mv (t 67)),
  sg [(64, true)] 69 (.ldE 65 68 5 1 false true 8),
  sg [(64, true)] 70 (.mv (t 4)),
  sg [(64, true)] 71 (.mv (t 7)),
  sg [(64, true)] 72 (.idx (t 70) (t 71) 8),
  sg [(64, true)] 73 (.mv (t 72)),
  sg [(64, true)] 74 (.ldE 70 73 5 1 false true 8),
  sg [(64, true)] 75 (.bin .eql (t 69) (t 74)),
  s 76 (.pick (t 64) (t 75) (c (.bool false))),
  s 77 (.mv (t 76)),
  sg [(77, true)] 78 (.mv (t 3)),
  sg [(77, true)] 79 (.mv (t 6)),
  sg [(77, true)] 80 (.idx (t 78) (t 79) 8),
  sg [(77, true)] 81 (.mv (t 80)),
  sg [(77, true)] 82 (.ldE 78 81 6 1 false true 8),
  sg [(77, true)] 83 (.mv (t 4)),
  sg [(77, true)] 84 (.mv (t 7)),
  sg [(77, true)] 85 (.idx (t 83) (t 84) 8),
  sg [(77, true)] 86 (.mv (t 85)),
  sg [(77, true)] 87 (.ldE 83 86 6 1 false true 8),
  sg [(77, true)] 88 (.bin .eql (t 82) (t 87)),
  s 89 (.pick (t 77) (t 88) (c (.bool false)))])
 (.cond (t 89) (.seq (.ops [s 90 (.mv (t 5)),
  k 91 7 [(t 90)] .sc,
  s 2 (.mv (t 91))])
 .ret) .skip)))
 (.ops [s 49 (.mv (t 7)),
  s 50 (.bin .add (t 49) (c (i 1))),
  s 7 (.mv (t 50))])))) (fun y V' => (y = .exit 2 ∧ rowT a b n = true ∧ V' 3 = .lst 8 false (a.map en) ∧ V' 4 = .lst 8 false (b.map en) ∧ V' 5 = .lst 8 false (m.map en) ∧ V' 6 = i n) ∨ (y = .ret ∧ V' 2 = .bool true)) V := by
  have cM := f7 m false (by omega) hmo
  rw [hml] at cM
  refine sx_count b.length (fun k V' => V' 3 = .lst 8 false (a.map en) ∧ V' 4 = .lst 8 false (b.map en) ∧ V' 5 = .lst 8 false (m.map en) ∧ V' 6 = i n ∧ V' 7 = i k ∧ allTo (ntAt a[n] b) k = true) 0 (by omega) ⟨h3, h4, h5, h6, h7, allTo_zero⟩ ?_
  rintro k V' hk ⟨g3, g4, g5, g6, g7, hq⟩
  clear h3 h4 h5 h6 h7 hmo
  have hw : wr .i64 ((k : Int) + 1) = k + 1 := wr_in (by omega) (by omega)
  have hr : rowT a b n = allTo (ntAt a[n] b) b.length := by unfold rowT; rw [show a.getD n enD = a[n] by simp [hn]]
  rw [hr]
  clear hr
  rcases Nat.lt_or_ge k b.length with hl | hl
  · have hI : (k : Int) < b.length := by omega
    have hs := allTo_succ (ok := ntAt a[n] b) (n := k)
    have hd : ntAt a[n] b k = decide (¬ (a[n].f0.f0 = b[k].f0.f0 ∧ a[n].f1 = b[k].f1 ∧ a[n].f2 = b[k].f2)) := by unfold ntAt; rw [show b.getD k enD = b[k] by simp [hl]]
    rw [hq, hd, Bool.true_and] at hs
    clear hd hq hml
    obtain ⟨Z, hZ⟩ : ∃ Z, allTo (ntAt a[n] b) (k + 1) = Z := ⟨_, rfl⟩
    rw [hZ] at hs ⊢
    clear hZ
    by_cases e1 : a[n].f0.f0 = b[k].f0.f0
    · by_cases e2 : a[n].f1 = b[k].f1
      · by_cases e3 : a[n].f2 = b[k].f2
        · clear hs
          repeat' (first | intro _ | (simp [sxa, isPtrN, PV.pcs, elAt, setEl, inAt, elIn, setIn, isLst, cellsOf, Ex.ok, Ex.val, Opd.val, POp.dst, bin_int, binOK_int, bin_str, binOK_str, resOK, resV, RB.val, sub, putc, scB, scL, oneB, conf, Ex.val.eqP, Ex.val.eqL, negV, mxV, mnV, ← wr_eq, wr_zero, wr_one, wr_m1, bst_lst, byteC, partsOK, putAll, appV, nilV, slV, sslV, optB, optNum, and_assoc, exists_and_left, exists_eq_left', en, *]) | refine CallS_i (cM) ?_ | refine CallM_i (cM) ?_ | refine CallE_i (cM) ?_ | refine CallX_i (cM) ?_ | refine CallB_i (cM) ?_ | refine CondS_d (fun h => ?_) (fun h => ?_) | refine CondS_b (fun h => ?_) (fun h => ?_) | refine GrdS_d (fun h => ?_) (fun h => ?_) | refine GrdS_b (fun h => ?_) (fun h => ?_) | refine OkS_i (by omega) ?_ | fail)
        · rw [decide_eq_true (by omega)] at hs
          repeat' (first | intro _ | (simp [sxa, isPtrN, PV.pcs, elAt, setEl, inAt, elIn, setIn, isLst, cellsOf, Ex.ok, Ex.val, Opd.val, POp.dst, bin_int, binOK_int, bin_str, binOK_str, resOK, resV, RB.val, sub, putc, scB, scL, oneB, conf, Ex.val.eqP, Ex.val.eqL, negV, mxV, mnV, ← wr_eq, wr_zero, wr_one, wr_m1, bst_lst, byteC, partsOK, putAll, appV, nilV, slV, sslV, optB, optNum, and_assoc, exists_and_left, exists_eq_left', en, *]) | refine CallS_i (cM) ?_ | refine CallM_i (cM) ?_ | refine CallE_i (cM) ?_ | refine CallX_i (cM) ?_ | refine CallB_i (cM) ?_ | refine CondS_d (fun h => ?_) (fun h => ?_) | refine CondS_b (fun h => ?_) (fun h => ?_) | refine GrdS_d (fun h => ?_) (fun h => ?_) | refine GrdS_b (fun h => ?_) (fun h => ?_) | refine OkS_i (by omega) ?_ | fail)
      · rw [decide_eq_true (by omega)] at hs
        repeat' (first | intro _ | (simp [sxa, isPtrN, PV.pcs, elAt, setEl, inAt, elIn, setIn, isLst, cellsOf, Ex.ok, Ex.val, Opd.val, POp.dst, bin_int, binOK_int, bin_str, binOK_str, resOK, resV, RB.val, sub, putc, scB, scL, oneB, conf, Ex.val.eqP, Ex.val.eqL, negV, mxV, mnV, ← wr_eq, wr_zero, wr_one, wr_m1, bst_lst, byteC, partsOK, putAll, appV, nilV, slV, sslV, optB, optNum, and_assoc, exists_and_left, exists_eq_left', en, *]) | refine CallS_i (cM) ?_ | refine CallM_i (cM) ?_ | refine CallE_i (cM) ?_ | refine CallX_i (cM) ?_ | refine CallB_i (cM) ?_ | refine CondS_d (fun h => ?_) (fun h => ?_) | refine CondS_b (fun h => ?_) (fun h => ?_) | refine GrdS_d (fun h => ?_) (fun h => ?_) | refine GrdS_b (fun h => ?_) (fun h => ?_) | refine OkS_i (by omega) ?_ | fail)
    · rw [decide_eq_true (by omega)] at hs
      repeat' (first | intro _ | (simp [sxa, isPtrN, PV.pcs, elAt, setEl, inAt, elIn, setIn, isLst, cellsOf, Ex.ok, Ex.val, Opd.val, POp.dst, bin_int, binOK_int, bin_str, binOK_str, resOK, resV, RB.val, sub, putc, scB, scL, oneB, conf, Ex.val.eqP, Ex.val.eqL, negV, mxV, mnV, ← wr_eq, wr_zero, wr_one, wr_m1, bst_lst, byteC, partsOK, putAll, appV, nilV, slV, sslV, optB, optNum, and_assoc, exists_and_left, exists_eq_left', en, *]) | refine CallS_i (cM) ?_ | refine CallM_i (cM) ?_ | refine CallE_i (cM) ?_ | refine CallX_i (cM) ?_ | refine CallB_i (cM) ?_ | refine CondS_d (fun h => ?_) (fun h => ?_) | refine CondS_b (fun h => ?_) (fun h => ?_) | refine GrdS_d (fun h => ?_) (fun h => ?_) | refine GrdS_b (fun h => ?_) (fun h => ?_) | refine OkS_i (by omega) ?_ | fail)
  · have : k = b.length := by omega
    subst this
    repeat' (first | intro _ | (simp [sxa, isPtrN, PV.pcs, elAt, setEl, inAt, elIn, setIn, isLst, cellsOf, Ex.ok, Ex.val, Opd.val, POp.dst, bin_int, binOK_int, bin_str, binOK_str, resOK, resV, RB.val, sub, putc, scB, scL, oneB, conf, Ex.val.eqP, Ex.val.eqL, negV, mxV, mnV, ← wr_eq, wr_zero, wr_one, wr_m1, bst_lst, byteC, partsOK, putAll, appV, nilV, slV, sslV, optB, optNum, and_assoc, exists_and_left, exists_eq_left', *]) | refine CondS_d (fun h => ?_) (fun h => ?_) | refine CondS_b (fun h => ?_) (fun h => ?_) | refine GrdS_d (fun h => ?_) (fun h => ?_) | refine GrdS_b (fun h => ?_) (fun h => ?_) | refine OkS_i (by omega) ?_ | fail)
theorem l3_0 {a b m : List En} {V : Env} (ha : a.length ≤ 16) (hb : b.length ≤ 16) (hm : m.length ≤ 16) (hmo : ∀ x ∈ m, x.f0.okay) (hml : wLog m = true)
    (h3 : V 3 = .lst 8 false (a.map en)) (h4 : V 4 = .lst 8 false (b.map en)) (h5 : V 5 = .lst 8 false (m.map en)) (h6 : V 6 = i 0) :
    sx (FC Try.prog) (.loop (.seq (.seq (.ops [s 39 (.mv (t 6)),
  s 40 (.mv (t 3)),
  s 41 (.len false (t 40)),
  s 42 (.bin .lss (t 39) (t 41))])
 (.cond (t 42) .skip (.exit 0)))
 (.seq (.block 1 (.seq (.ops [s 7 (.mv (c (i 0)))])
 (.block 2 (.loop (.seq (.seq (.ops [s 45 (.mv (t 7)),
  s 46 (.mv (t 4)),
  s 47 (.len false (t 46)),
  s 48 (.bin .lss (t 45) (t 47))])
 (.cond (t 48) .skip (.exit 2)))
 (.seq (.block 3 (.seq (.ops [s 51 (.mv (t 3)),
  s 52 (.mv (t 6)),
  s 53 (.idx (t 51) (t 52) 8),
  s 54 (.mv (t 53)),
  s 55 (.mv (t 54)),
  s 56 (.ldE 51 55 0 1 false true 8),
  s 57 (.mv (t 4)),
  s 58 (.mv (t 7)),
  s 59 (.idx (t 57) (t 58) 8),
  s 60 (.mv (t 59)),
  s 61 (.mv (t 60)),
  s 62 (.ldE 57 61 0 1 false true 8),
  s 63 (.bin .eql (t 56) (t 62)),
  s 64 (.mv (t 63)),
  sg [(64, true)] 65 (.mv (t 3)),
  sg [(64, true)] 66 (.mv (t 6)),
  sg [(64, true)] 67 (.idx (t 65) (t 66) 8),
  sg [(64, true)] 68 (.mv (t 67)),
  sg [(64, true)] 69 (.ldE 65 68 5 1 false true 8),
  sg [(64, true)] 70 (.mv (t 4)),
  sg [(64, true)] 71 (.mv (t 7)),
  sg [(64, true)] 72 (.idx (t 70) (t 71) 8),
  sg [(64, true)] 73 (.mv (t 72)),
  sg [(64, true)] 74 (.ldE 70 73 5 1 false true 8),
  sg [(64, true)] 75 (.bin .eql (t 69) (t 74)),
  s 76 (.pick (t 64) (t 75) (c (.bool false))),
  s 77 (.mv (t 76)),
  sg [(77, true)] 78 (.mv (t 3)),
  sg [(77, true)] 79 (.mv (t 6)),
  sg [(77, true)] 80 (.idx (t 78) (t 79) 8),
  sg [(77, true)] 81 (.mv (t 80)),
  sg [(77, true)] 82 (.ldE 78 81 6 1 false true 8),
  sg [(77, true)] 83 (.mv (t 4)),
  sg [(77, true)] 84 (.mv (t 7)),
  sg [(77, true)] 85 (.idx (t 83) (t 84) 8),
  sg [(77, true)] 86 (.mv (t 85)),
  sg [(77, true)] 87 (.ldE 83 86 6 1 false true 8),
  sg [(77, true)] 88 (.bin .eql (t 82) (t 87)),
  s 89 (.pick (t 77) (t 88) (c (.bool false)))])
 (.cond (t 89) (.seq (.ops [s 90 (.mv (t 5)),
  k 91 7 [(t 90)] .sc,
  s 2 (.mv (t 91))])
 .ret) .skip)))
 (.ops [s 49 (.mv (t 7)),
  s 50 (.bin .add (t 49) (c (i 1))),
  s 7 (.mv (t 50))])))))))
 (.ops [s 43 (.mv (t 6)),
  s 44 (.bin .add (t 43) (c (i 1))),
  s 6 (.mv (t 44))])))) (fun y V' => (y = .exit 0 ∧ allTo (rowT a b) a.length = true ∧ V' 3 = .lst 8 false (a.map en) ∧ V' 4 = .lst 8 false (b.map en) ∧ V' 5 = .lst 8 false (m.map en)) ∨ (y = .ret ∧ V' 2 = .bool true)) V := by
  refine sx_count a.length (fun n V' => V' 3 = .lst 8 false (a.map en) ∧ V' 4 = .lst 8 false (b.map en) ∧ V' 5 = .lst 8 false (m.map en) ∧ V' 6 = i n ∧ allTo (rowT a b) n = true) 0 (by omega) ⟨h3, h4, h5, h6, allTo_zero⟩ ?_
  rintro n V' hn ⟨g3, g4, g5, g6, hq⟩
  clear h3 h4 h5 h6
  have hw : wr .i64 ((n : Int) + 1) = n + 1 := wr_in (by omega) (by omega)
  rcases Nat.lt_or_ge n a.length with hl | hl
  · have hI : (n : Int) < a.length := by omega
    simp [sxa, isPtrN, PV.pcs, elAt, setEl, inAt, elIn, setIn, isLst, cellsOf, Ex.ok, Ex.val, Opd.val, POp.dst, bin_int, binOK_int, bin_str, binOK_str, resOK, resV, RB.val, sub, putc, scB, scL, oneB, conf, Ex.val.eqP, Ex.val.eqL, negV, mxV, mnV, ← wr_eq, wr_zero, wr_one, wr_m1, bst_lst, byteC, partsOK, putAll, appV, nilV, slV, sslV, optB, optNum, and_assoc, exists_and_left, exists_eq_left', g3, g6, hI]
    refine sx_mono _ _ _ _ ?_ (l3_2 (a := a) (b := b) (m := m) (n := n) hl ha hb hm hmo hml (by simp [sxa, isPtrN, PV.pcs, elAt, setEl, inAt, elIn, setIn, isLst, cellsOf, Ex.ok, Ex.val, Opd.val, POp.dst, bin_int, binOK_int, bin_str, binOK_str, resOK, resV, RB.val, sub, putc, scB, scL, oneB, conf, Ex.val.eqP, Ex.val.eqL, negV, mxV, mnV, ← wr_eq, wr_zero, wr_one, wr_m1, bst_lst, byteC, partsOK, putAll, appV, nilV, slV, sslV, optB, optNum, and_assoc, exists_and_left, exists_eq_left', g3]) (by simp [sxa, isPtrN, PV.pcs, elAt, setEl, inAt, elIn, setIn, isLst, cellsOf, Ex.ok, Ex.val, Opd.val, POp.dst, bin_int, binOK_int, bin_str, binOK_str, resOK, resV, RB.val, sub, putc, scB, scL, oneB, conf, Ex.val.eqP, Ex.val.eqL, negV, mxV, mnV, ← wr_eq, wr_zero, wr_one, wr_m1, bst_lst, byteC, partsOK, putAll, appV, nilV, slV, sslV, optB, optNum, and_assoc, exists_and_left, exists_eq_left', g4]) (by simp [sxa, isPtrN, PV.pcs, elAt, setEl, inAt, elIn, setIn, isLst, cellsOf, Ex.ok, Ex.val, Opd.val, POp.dst, bin_int, binOK_int, bin_str, binOK_str, resOK, resV, RB.val, sub, putc, scB, scL, oneB, conf, Ex.val.eqP, Ex.val.eqL, negV, mxV, mnV, ← wr_eq, wr_zero, wr_one, wr_m1, bst_lst, byteC, partsOK, putAll, appV, nilV, slV, sslV, optB, optNum, and_assoc, exists_and_left, exists_eq_left', g5]) (by simp [sxa, isPtrN, PV.pcs, elAt, setEl, inAt, elIn, setIn, isLst, cellsOf, Ex.ok, Ex.val, Opd.val, POp.dst, bin_int, binOK_int, bin_str, binOK_str, resOK, resV, RB.val, sub, putc, scB, scL, oneB, conf, Ex.val.eqP, Ex.val.eqL, negV, mxV, mnV, ← wr_eq, wr_zero, wr_one, wr_m1, bst_lst, byteC, partsOK, putAll, appV, nilV, slV, sslV, optB, optNum, and_assoc, exists_and_left, exists_eq_left', g6]) (by simp [sxa, isPtrN, PV.pcs, elAt, setEl, inAt, elIn, setIn, isLst, cellsOf, Ex.ok, Ex.val, Opd.val, POp.dst, bin_int, binOK_int, bin_str, binOK_str, resOK, resV, RB.val, sub, putc, scB, scL, oneB, conf, Ex.val.eqP, Ex.val.eqL, negV, mxV, mnV, ← wr_eq, wr_zero, wr_one, wr_m1, bst_lst, byteC, partsOK, putAll, appV, nilV, slV, sslV, optB, optNum, and_assoc, exists_and_left, exists_eq_left']))
    rintro y W (⟨rfl, r1, r3, r4, r5, r6⟩ | ⟨rfl, r2⟩)
    · have hs := allTo_succ (ok := rowT a b) (n := n)
      rw [hq, r1, Bool.true_and] at hs
      clear hmo hml hq r1
      repeat' (first | intro _ | (simp [sxa, isPtrN, PV.pcs, elAt, setEl, inAt, elIn, setIn, isLst, cellsOf, Ex.ok, Ex.val, Opd.val, POp.dst, bin_int, binOK_int, bin_str, binOK_str, resOK, resV, RB.val, sub, putc, scB, scL, oneB, conf, Ex.val.eqP, Ex.val.eqL, negV, mxV, mnV, ← wr_eq, wr_zero, wr_one, wr_m1, bst_lst, byteC, partsOK, putAll, appV, nilV, slV, sslV, optB, optNum, and_assoc, exists_and_left, exists_eq_left', *]) | refine CondS_d (fun h => ?_) (fun h => ?_) | refine CondS_b (fun h => ?_) (fun h => ?_) | refine GrdS_d (fun h => ?_) (fun h => ?_) | refine GrdS_b (fun h => ?_) (fun h => ?_) | refine OkS_i (by omega) ?_ | fail)
    · simp [sxa, isPtrN, PV.pcs, elAt, setEl, inAt, elIn, setIn, isLst, cellsOf, Ex.ok, Ex.val, Opd.val, POp.dst, bin_int, binOK_int, bin_str, binOK_str, resOK, resV, RB.val, sub, putc, scB, scL, oneB, conf, Ex.val.eqP, Ex.val.eqL, negV, mxV, mnV, ← wr_eq, wr_zero, wr_one, wr_m1, bst_lst, byteC, partsOK, putAll, appV, nilV, slV, sslV, optB, optNum, and_assoc, exists_and_left, exists_eq_left', r2]
  · have : n = a.length := by omega
    subst this
    clear hmo hml
    repeat' (first | intro _ | (simp [sxa, isPtrN, PV.pcs, elAt, setEl, inAt, elIn, setIn, isLst, cellsOf, Ex.ok, Ex.val, Opd.val, POp.dst, bin_int, binOK_int, bin_str, binOK_str, resOK, resV, RB.val, sub, putc, scB, scL, oneB, conf, Ex.val.eqP, Ex.val.eqL, negV, mxV, mnV, ← wr_eq, wr_zero, wr_one, wr_m1, bst_lst, byteC, partsOK, putAll, appV, nilV, slV, sslV, optB, optNum, and_assoc, exists_and_left, exists_eq_left', *]) | refine CondS_d (fun h => ?_) (fun h => ?_) | refine CondS_b (fun h => ?_) (fun h => ?_) | refine GrdS_d (fun h => ?_) (fun h => ?_) | refine GrdS_b (fun h => ?_) (fun h => ?_) | refine OkS_i (by omega) ?_ | fail)
/-! what is held -/
def hdAt (y : En) (m : List En) (j : Nat) : Bool := decide (¬ ((m.getD j enD).f0.f0 = y.f0.f0 ∧ wNew y (m.getD j enD) = false))
theorem hd_held {y : En} {m : List En} (h : held y m) : allTo (hdAt y m) m.length = false := by
  obtain ⟨x, hx, h1, h2⟩ := h
  obtain ⟨n, hn, rfl⟩ := List.getElem_of_mem hx
  refine allTo_bad hn ?_
  unfold hdAt
  rw [show m.getD n enD = m[n] by simp [hn]]
  simp [h1, h2]
theorem l3_6 {B m : List En} {n : Nat} {V : Env} (hn : n < B.length) (hB : B.length ≤ 32) (hm : m.length ≤ 16)
    (h8 : V 8 = .lst 8 false (B.map en)) (h5 : V 5 = .lst 8 false (m.map en)) (h9 : V 9 = i n) (h10 : V 10 = .bool false) (h11 : V 11 = i 0) :
    sx (FC Try.prog) (.loop (.seq (.seq (.ops [s 138 (.mv (t 11)),
  s 139 (.mv (t 5)),
  s 140 (.len false (t 139)),
  s 141 (.bin .lss (t 138) (t 140))])
 (.cond (t 141) .skip (.exit 6)))
 (.seq (.block 7 (.ops [s 144 (.mv (t 10)),
  s 145 (.mv (t 144)),
  sg [(145, false)] 146 (.mv (t 5)),
  sg [(145, false)] 147 (.mv (t 11)),
  sg [(145, false)] 148 (.idx (t 146) (t 147) 8),
  sg [(145, false)] 149 (.mv (t 148)),
  sg [(145, false)] 150 (.mv (t 149)),
  sg [(145, false)] 151 (.ldE 146 150 0 1 false true 8),
  sg [(145, false)] 152 (.mv (t 8)),
  sg [(145, false)] 153 (.mv (t 9)),
  sg [(145, false)] 154 (.idx (t 152) (t 153) 8),
  sg [(145, false)] 155 (.mv (t 154)),
  sg [(145, false)] 156 (.mv (t 155)),
  sg [(145, false)] 157 (.ldE 152 156 0 1 false true 8),
  sg [(145, false)] 158 (.bin .eql (t 151) (t 157)),
  sg [(145, false)] 159 (.mv (t 158)),
  sg [(159, true), (145, false)] 160 (.mv (t 8)),
  sg [(159, true), (145, false)] 161 (.mv (t 9)),
  sg [(159, true), (145, false)] 162 (.idx (t 160) (t 161) 8),
  sg [(159, true), (145, false)] 163 (.ldE 160 162 0 8 true false 8),
  sg [(159, true), (145, false)] 164 (.mv (t 5)),
  sg [(159, true), (145, false)] 165 (.mv (t 11)),
  sg [(159, true), (145, false)] 166 (.idx (t 164) (t 165) 8),
  sg [(159, true), (145, false)] 167 (.ldE 164 166 0 8 true false 8),
  kg [(159, true), (145, false)] 168 10 [(t 163), (t 167)] .sc,
  sg [(159, true), (145, false)] 169 (.not (t 168)),
  sg [(145, false)] 170 (.pick (t 159) (t 169) (c (.bool false))),
  s 171 (.pick (t 145) (c (.bool true)) (t 170)),
  s 10 (.mv (t 171))]))
 (.ops [s 142 (.mv (t 11)),
  s 143 (.bin .add (t 142) (c (i 1))),
  s 11 (.mv (t 143))])))) (fun y V' => y = .exit 6 ∧ V' 8 = .lst 8 false (B.map en) ∧ V' 5 = .lst 8 false (m.map en) ∧ V' 9 = i n ∧ V' 10 = .bool (!allTo (hdAt B[n] m) m.length)) V := by
  refine sx_count m.length (fun k V' => V' 8 = .lst 8 false (B.map en) ∧ V' 5 = .lst 8 false (m.map en) ∧ V' 9 = i n ∧ V' 10 = .bool (!allTo (hdAt B[n] m) k) ∧ V' 11 = i k) 0 (by omega) ⟨h8, h5, h9, by rw [allTo_zero]; exact h10, h11⟩ ?_
  rintro k V' hk ⟨g8, g5, g9, g10, g11⟩
  clear h8 h5 h9 h10 h11
  have hw : wr .i64 ((k : Int) + 1) = k + 1 := wr_in (by omega) (by omega)
  rcases Nat.lt_or_ge k m.length with hl | hl
  · have hI : (k : Int) < m.length := by omega
    have cN := f10 B[n] m[k]
    have hs := allTo_succ (ok := hdAt B[n] m) (n := k)
    have hd : hdAt B[n] m k = decide (¬ (m[k].f0.f0 = B[n].f0.f0 ∧ wNew B[n] m[k] = false)) := by unfold hdAt; rw [show m.getD k enD = m[k] by simp [hl]]
    rw [hd] at hs
    clear hd
    obtain ⟨Z, hZ⟩ : ∃ Z, allTo (hdAt B[n] m) (k + 1) = Z := ⟨_, rfl⟩
    obtain ⟨Y, hY⟩ : ∃ Y, allTo (hdAt B[n] m) k = Y := ⟨_, rfl⟩
    rw [hZ, hY] at hs
    rw [hZ]
    rw [hY] at g10
    obtain ⟨nb, hnb⟩ : ∃ b, wNew B[n] m[k] = b := ⟨_, rfl⟩
    rw [hnb] at cN hs
    unfold en at cN
    clear hZ hY hnb
    by_cases e1 : m[k].f0.f0 = B[n].f0.f0
    · rw [e1] at cN
      cases Y <;> cases nb
      all_goals simp [e1] at hs
      all_goals subst hs
      all_goals repeat' (first | intro _ | (simp [sxa, isPtrN, PV.pcs, elAt, setEl, inAt, elIn, setIn, isLst, cellsOf, Ex.ok, Ex.val, Opd.val, POp.dst, bin_int, binOK_int, bin_str, binOK_str, resOK, resV, RB.val, sub, putc, scB, scL, oneB, conf, Ex.val.eqP, Ex.val.eqL, negV, mxV, mnV, ← wr_eq, wr_zero, wr_one, wr_m1, bst_lst, byteC, partsOK, putAll, appV, nilV, slV, sslV, optB, optNum, and_assoc, exists_and_left, exists_eq_left', en, *]) | refine CallS_i (cN) ?_ | refine CallM_i (cN) ?_ | refine CallE_i (cN) ?_ | refine CallX_i (cN) ?_ | refine CallB_i (cN) ?_ | refine CondS_d (fun h => ?_) (fun h => ?_) | refine CondS_b (fun h => ?_) (fun h => ?_) | refine GrdS_d (fun h => ?_) (fun h => ?_) | refine GrdS_b (fun h => ?_) (fun h => ?_) | refine OkS_i (by omega) ?_ | fail)
    · cases Y
      all_goals simp [e1] at hs
      all_goals subst hs
      all_goals clear cN
      all_goals repeat' (first | intro _ | (simp [sxa, isPtrN, PV.pcs, elAt, setEl, inAt, elIn, setIn, isLst, cellsOf, Ex.ok, Ex.val, Opd.val, POp.dst, bin_int, binOK_int, bin_str, binOK_str, resOK, resV, RB.val, sub, putc, scB, scL, oneB, conf, Ex.val.eqP, Ex.val.eqL, negV, mxV, mnV, ← wr_eq, wr_zero, wr_one, wr_m1, bst_lst, byteC, partsOK, putAll, appV, nilV, slV, sslV, optB, optNum, and_assoc, exists_and_left, exists_eq_left', en, *]) | refine CondS_d (fun h => ?_) (fun h => ?_) | refine CondS_b (fun h => ?_) (fun h => ?_) | refine GrdS_d (fun h => ?_) (fun h => ?_) | refine GrdS_b (fun h => ?_) (fun h => ?_) | refine OkS_i (by omega) ?_ | fail)
  · have : k = m.length := by omega
    subst this
    repeat' (first | intro _ | (simp [sxa, isPtrN, PV.pcs, elAt, setEl, inAt, elIn, setIn, isLst, cellsOf, Ex.ok, Ex.val, Opd.val, POp.dst, bin_int, binOK_int, bin_str, binOK_str, resOK, resV, RB.val, sub, putc, scB, scL, oneB, conf, Ex.val.eqP, Ex.val.eqL, negV, mxV, mnV, ← wr_eq, wr_zero, wr_one, wr_m1, bst_lst, byteC, partsOK, putAll, appV, nilV, slV, sslV, optB, optNum, and_assoc, exists_and_left, exists_eq_left', *]) | refine CondS_d (fun h => ?_) (fun h => ?_) | refine CondS_b (fun h => ?_) (fun h => ?_) | refine GrdS_d (fun h => ?_) (fun h => ?_) | refine GrdS_b (fun h => ?_) (fun h => ?_) | refine OkS_i (by omega) ?_ | fail)
theorem l3_4 {B m : List En} {V : Env} (hB : B.length ≤ 32) (hm : m.length ≤ 16) (hh : ∀ y ∈ B, held y m)
    (h8 : V 8 = .lst 8 false (B.map en)) (h5 : V 5 = .lst 8 false (m.map en)) (h9 : V 9 = i 0) :
    sx (FC Try.prog) (.loop (.seq (.seq (.ops [s 132 (.mv (t 9)),
  s 133 (.mv (t 8)),
  s 134 (.len false (t 133)),
  s 135 (.bin .lss (t 132) (t 134))])
 (.cond (t 135) .skip (.exit 4)))
 (.seq (.block 5 (.seq (.ops [s 10 (.mv (c (.bool false)))])
 (.seq (.seq (.ops [s 11 (.mv (c (i 0)))])
 (.block 6 (.loop (.seq (.seq (.ops [s 138 (.mv (t 11)),
  s 139 (.mv (t 5)),
  s 140 (.len false (t 139)),
  s 141 (.bin .lss (t 138) (t 140))])
 (.cond (t 141) .skip (.exit 6)))
 (.seq (.block 7 (.ops [s 144 (.mv (t 10)),
  s 145 (.mv (t 144)),
  sg [(145, false)] 146 (.mv (t 5)),
  sg [(145, false)] 147 (.mv (t 11)),
  sg [(145, false)] 148 (.idx (t 146) (t 147) 8),
  sg [(145, false)] 149 (.mv (t 148)),
  sg [(145, false)] 150 (.mv (t 149)),
  sg [(145, false)] 151 (.ldE 146 150 0 1 false true 8),
  sg [(145, false)] 152 (.mv (t 8)),
  sg [(145, false)] 153 (.mv (t 9)),
  sg [(145, false)] 154 (.idx (t 152) (t 153) 8),
  sg [(145, false)] 155 (.mv (t 154)),
  sg [(145, false)] 156 (.mv (t 155)),
  sg [(145, false)] 157 (.ldE 152 156 0 1 false true 8),
  sg [(145, false)] 158 (.bin .eql (t 151) (t 157)),
  sg [(145, false)] 159 (.mv (t 158)),
  sg [(159, true), (145, false)] 160 (.mv (t 8)),
  sg [(159, true), (145, false)] 161 (.mv (t 9)),
  sg [(159, true), (145, false)] 162 (.idx (t 160) (t 161) 8),
  sg [(159, true), (145, false)] 163 (.ldE 160 162 0 8 true false 8),
  sg [(159, true), (145, false)] 164 (.mv (t 5)),
  sg [(159, true), (145, false)] 165 (.mv (t 11)),
  sg [(159, true), (145, false)] 166 (.idx (t 164) (t 165) 8),
  sg [(159, true), (145, false)] 167 (.ldE 164 166 0 8 true false 8),
  kg [(159, true), (145, false)] 168 10 [(t 163), (t 167)] .sc,
  sg [(159, true), (145, false)] 169 (.not (t 168)),
  sg [(145, false)] 170 (.pick (t 159) (t 169) (c (.bool false))),
  s 171 (.pick (t 145) (c (.bool true)) (t 170)),
  s 10 (.mv (t 171))]))
 (.ops [s 142 (.mv (t 11)),
  s 143 (.bin .add (t 142) (c (i 1))),
  s 11 (.mv (t 143))]))))))
 (.seq (.ops [s 172 (.mv (t 10)),
  s 173 (.not (t 172))])
 (.cond (t 173) (.seq (.ops [s 2 (.mv (c (.bool false)))])
 .ret) .skip)))))
 (.ops [s 136 (.mv (t 9)),
  s 137 (.bin .add (t 136) (c (i 1))),
  s 9 (.mv (t 137))])))) (fun y V' => y = .exit 4 ∧ V' 5 = .lst 8 false (m.map en)) V := by
  refine sx_count B.length (fun n V' => V' 8 = .lst 8 false (B.map en) ∧ V' 5 = .lst 8 false (m.map en) ∧ V' 9 = i n) 0 (by omega) ⟨h8, h5, h9⟩ ?_
  rintro n V' hn ⟨g8, g5, g9⟩
  clear h8 h5 h9
  have hw : wr .i64 ((n : Int) + 1) = n + 1 := wr_in (by omega) (by omega)
  rcases Nat.lt_or_ge n B.length with hl | hl
  · have hI : (n : Int) < B.length := by omega
    have hld := hd_held (hh _ (List.getElem_mem hl))
    clear hh
    simp [sxa, isPtrN, PV.pcs, elAt, setEl, inAt, elIn, setIn, isLst, cellsOf, Ex.ok, Ex.val, Opd.val, POp.dst, bin_int, binOK_int, bin_str, binOK_str, resOK, resV, RB.val, sub, putc, scB, scL, oneB, conf, Ex.val.eqP, Ex.val.eqL, negV, mxV, mnV, ← wr_eq, wr_zero, wr_one, wr_m1, bst_lst, byteC, partsOK, putAll, appV, nilV, slV, sslV, optB, optNum, and_assoc, exists_and_left, exists_eq_left', g8, g9, hI]
    refine sx_mono _ _ _ _ ?_ (l3_6 (B := B) (m := m) (n := n) hl hB hm (by simp [sxa, isPtrN, PV.pcs, elAt, setEl, inAt, elIn, setIn, isLst, cellsOf, Ex.ok, Ex.val, Opd.val, POp.dst, bin_int, binOK_int, bin_str, binOK_str, resOK, resV, RB.val, sub, putc, scB, scL, oneB, conf, Ex.val.eqP, Ex.val.eqL, negV, mxV, mnV, ← wr_eq, wr_zero, wr_one, wr_m1, bst_lst, byteC, partsOK, putAll, appV, nilV, slV, sslV, optB, optNum, and_assoc, exists_and_left, exists_eq_left', g8]) (by simp [sxa, isPtrN, PV.pcs, elAt, setEl, inAt, elIn, setIn, isLst, cellsOf, Ex.ok, Ex.val, Opd.val, POp.dst, bin_int, binOK_int, bin_str, binOK_str, resOK, resV, RB.val, sub, putc, scB, scL, oneB, conf, Ex.val.eqP, Ex.val.eqL, negV, mxV, mnV, ← wr_eq, wr_zero, wr_one, wr_m1, bst_lst, byteC, partsOK, putAll, appV, nilV, slV, sslV, optB, optNum, and_assoc, exists_and_left, exists_eq_left', g5]) (by simp [sxa, isPtrN, PV.pcs, elAt, setEl, inAt, elIn, setIn, isLst, cellsOf, Ex.ok, Ex.val, Opd.val, POp.dst, bin_int, binOK_int, bin_str, binOK_str, resOK, resV, RB.val, sub, putc, scB, scL, oneB, conf, Ex.val.eqP, Ex.val.eqL, negV, mxV, mnV, ← wr_eq, wr_zero, wr_one, wr_m1, bst_lst, byteC, partsOK, putAll, appV, nilV, slV, sslV, optB, optNum, and_assoc, exists_and_left, exists_eq_left', g9]) (by simp [sxa, isPtrN, PV.pcs, elAt, setEl, inAt, elIn, setIn, isLst, cellsOf, Ex.ok, Ex.val, Opd.val, POp.dst, bin_int, binOK_int, bin_str, binOK_str, resOK, resV, RB.val, sub, putc, scB, scL, oneB, conf, Ex.val.eqP, Ex.val.eqL, negV, mxV, mnV, ← wr_eq, wr_zero, wr_one, wr_m1, bst_lst, byteC, partsOK, putAll, appV, nilV, slV, sslV, optB, optNum, and_assoc, exists_and_left, exists_eq_left']) (by simp [sxa, isPtrN, PV.pcs, elAt, setEl, inAt, elIn, setIn, isLst, cellsOf, Ex.ok, Ex.val, Opd.val, POp.dst, bin_int, binOK_int, bin_str, binOK_str, resOK, resV, RB.val, sub, putc, scB, scL, oneB, conf, Ex.val.eqP, Ex.val.eqL, negV, mxV, mnV, ← wr_eq, wr_zero, wr_one, wr_m1, bst_lst, byteC, partsOK, putAll, appV, nilV, slV, sslV, optB, optNum, and_assoc, exists_and_left, exists_eq_left']))
    rintro y W ⟨rfl, r8, r5, r9, r10⟩
    rw [hld] at r10
    clear hld
    repeat' (first | intro _ | (simp [sxa, isPtrN, PV.pcs, elAt, setEl, inAt, elIn, setIn, isLst, cellsOf, Ex.ok, Ex.val, Opd.val, POp.dst, bin_int, binOK_int, bin_str, binOK_str, resOK, resV, RB.val, sub, putc, scB, scL, oneB, conf, Ex.val.eqP, Ex.val.eqL, negV, mxV, mnV, ← wr_eq, wr_zero, wr_one, wr_m1, bst_lst, byteC, partsOK, putAll, appV, nilV, slV, sslV, optB, optNum, and_assoc, exists_and_left, exists_eq_left', *]) | refine CondS_d (fun h => ?_) (fun h => ?_) | refine CondS_b (fun h => ?_) (fun h => ?_) | refine GrdS_d (fun h => ?_) (fun h => ?_) | refine GrdS_b (fun h => ?_) (fun h => ?_) | refine OkS_i (by omega) ?_ | fail)
  · have : n = B.length := by omega
    subst this
    clear hh
    repeat' (first | intro _ | (simp [sxa, isPtrN, PV.pcs, elAt, setEl, inAt, elIn, setIn, isLst, cellsOf, Ex.ok, Ex.val, Opd.val, POp.dst, bin_int, binOK_int, bin_str, binOK_str, resOK, resV, RB.val, sub, putc, scB, scL, oneB, conf, Ex.val.eqP, Ex.val.eqL, negV, mxV, mnV, ← wr_eq, wr_zero, wr_one, wr_m1, bst_lst, byteC, partsOK, putAll, appV, nilV, slV, sslV, optB, optNum, and_assoc, exists_and_left, exists_eq_left', *]) | refine CondS_d (fun h => ?_) (fun h => ?_) | refine CondS_b (fun h => ?_) (fun h => ?_) | refine GrdS_d (fun h => ?_) (fun h => ?_) | refine GrdS_b (fun h => ?_) (fun h => ?_) | refine OkS_i (by omega) ?_ | fail)
end Go.Eng
namespace Go.Eng
open Go Go.Proofs Geo
set_option linter.unusedSimpArgs false
set_option linter.unusedVariables false
set_option maxRecDepth 20000
set_option maxHeartbeats 1000000

/-! editors: the law. WRITES -/
theorem f4 (nl : Bool) (els : List (List PV)) : Fn Try.prog 4 false [.lst 1 nl els] (.bool (decide ((1048576 : Int) < els.length))) := by
  refine Fn.by_sx hX (by kernel_rfl) c4 (by kernel_rfl) (by rfl) ?_
  simp [i4, sxa, isPtrN, PV.pcs, elAt, setEl, inAt, elIn, setIn, isLst, cellsOf, Ex.ok, Ex.val, Opd.val, POp.dst, bin_int, binOK_int, bin_str, binOK_str, resOK, resV, RB.val, sub, putc, scB, scL, oneB, conf, Ex.val.eqP, Ex.val.eqL, negV, mxV, mnV, ← wr_eq, wr_zero, wr_one, wr_m1, bst_lst, byteC, partsOK, putAll, appV, nilV, slV, sslV, optB, optNum, and_assoc, exists_and_left, exists_eq_left']
theorem feat_pos {x : Ft} (h : wFeat x = true) : x.f4 ≠ [] := fun e => by
  unfold wFeat wShape wSimple wLine wRing inR at h
  rw [e] at h
  simp at h
theorem good_neat {l : List En} (hg : goodG l) (hl : wLog l = true) : ∀ x ∈ l, x.neat := by
  intro x hx
  have h1 : goodF x.f0 := hg.2 x hx
  have h2 := (wLog_iff.1 hl).2.1 x hx
  unfold okE at h2
  simp only [Bool.and_eq_true] at h2
  refine ⟨by have := h1.1.1; omega, by have := h1.1.2; omega, ?_⟩
  cases hn : x.f0.nl
  · rfl
  · exact absurd (h1.2 hn) (feat_pos h2.1)
theorem so_ok {l : List En} (h : ∀ x ∈ l, x.f0.okay) : ∀ y ∈ soOf l, y.okay := by
  intro y hy
  unfold soOf at hy
  split at hy
  · rw [soTo_filter l _ (Nat.le_refl _), List.take_of_length_le (Nat.le_refl _)] at hy
    obtain ⟨x, hx, rfl⟩ := List.mem_map.1 hy
    exact h x (List.mem_filter.1 hx).1
  · cases hy
theorem good_ok {l : List En} (hg : goodG l) : ∀ x ∈ l, x.f0.okay := fun x hx => goodF.ok (hg.2 x hx)
theorem f6b (a b : List En) (ha : a.length ≤ 1048576 ∧ ∀ x ∈ a, x.f0.okay) (hb : b.length ≤ 1048576 ∧ ∀ x ∈ b, x.f0.okay) (hbad : (wLog a && wLog b) = false) :
    Fn Try.prog 6 true [.lst 8 false (a.map en), .lst 8 false (b.map en)] (.lst 8 false []) := by
  have cA := f7 a false (by omega) ha.2
  have cB := f7 b false (by omega) hb.2
  obtain ⟨b1, hb1⟩ : ∃ b, wLog a = b := ⟨_, rfl⟩
  obtain ⟨b2, hb2⟩ : ∃ c, wLog b = c := ⟨_, rfl⟩
  rw [hb1] at cA hbad
  rw [hb2] at cB hbad
  clear hb1 hb2
  refine Fn.by_sx hX (by kernel_rfl) c6 (by kernel_rfl) (by rfl) ?_
  simp [i6, sxa, isPtrN, PV.pcs, elAt, setEl, inAt, elIn, setIn, isLst, cellsOf, Ex.ok, Ex.val, Opd.val, POp.dst, bin_int, binOK_int, bin_str, binOK_str, resOK, resV, RB.val, sub, putc, scB, scL, oneB, conf, Ex.val.eqP, Ex.val.eqL, negV, mxV, mnV, ← wr_eq, wr_zero, wr_one, wr_m1, bst_lst, byteC, partsOK, putAll, appV, nilV, slV, sslV, optB, optNum, and_assoc, exists_and_left, exists_eq_left']
  cases b1 <;> cases b2
  all_goals first | (exfalso; cases hbad; done) | skip
  all_goals clear hbad
  all_goals repeat' (first | intro _ | (simp [sxa, isPtrN, PV.pcs, elAt, setEl, inAt, elIn, setIn, isLst, cellsOf, Ex.ok, Ex.val, Opd.val, POp.dst, bin_int, binOK_int, bin_str, binOK_str, resOK, resV, RB.val, sub, putc, scB, scL, oneB, conf, Ex.val.eqP, Ex.val.eqL, negV, mxV, mnV, ← wr_eq, wr_zero, wr_one, wr_m1, bst_lst, byteC, partsOK, putAll, appV, nilV, slV, sslV, optB, optNum, and_assoc, exists_and_left, exists_eq_left', *]) | refine CallS_i (cA) ?_ | refine CallS_i (cB) ?_ | refine CallM_i (cA) ?_ | refine CallM_i (cB) ?_ | refine CallE_i (cA) ?_ | refine CallE_i (cB) ?_ | refine CallX_i (cA) ?_ | refine CallX_i (cB) ?_ | refine CallB_i (cA) ?_ | refine CallB_i (cB) ?_ | refine CondS_d (fun h => ?_) (fun h => ?_) | refine CondS_b (fun h => ?_) (fun h => ?_) | refine GrdS_d (fun h => ?_) (fun h => ?_) | refine GrdS_b (fun h => ?_) (fun h => ?_) | refine OkS_i (by omega) ?_ | fail)
def Hide (p : Prop) : Prop := p
theorem Hide.out {p : Prop} (h : Hide p) : p := h
theorem f3 (nl : Bool) (els : List (List PV)) (hu : curU8 els = true) : Fn Try.prog 3 false [.lst 1 nl els] (.bool true) := by
  have hb := f4 nl els
  refine Fn.by_sx hX (by kernel_rfl) c3 (by kernel_rfl) (by rfl) ?_
  obtain ⟨L0, hL0, lp0⟩ : ∃ L, (.loop (.seq (.seq (.ops [s 39 (.mv (t 6)),
  s 40 (.mv (t 3)),
  s 41 (.len false (t 40)),
  s 42 (.bin .lss (t 39) (t 41))])
 (.cond (t 42) .skip (.exit 0)))
 (.seq (.block 1 (.seq (.ops [s 7 (.mv (c (i 0)))])
 (.block 2 (.loop (.seq (.seq (.ops [s 45 (.mv (t 7)),
  s 46 (.mv (t 4)),
  s 47 (.len false (t 46)),
  s 48 (.bin .lss (t 45) (t 47))])
 (.cond (t 48) .skip (.exit 2)))
 (.seq (.block 3 (.seq (.ops [s 51 (.mv (t 3)),
  s 52 (.mv (t 6)),
  s 53 (.idx (t 51) (t 52) 8),
  s 54 (.mv (t 53)),
  s 55 (.mv (t 54)),
  s 56 (.ldE 51 55 0 1 false true 8),
  s 57 (.mv (t 4)),
  s 58 (.mv (t 7)),
  s 59 (.idx (t 57) (t 58) 8),
  s 60 (.mv (t 59)),
  s 61 (.mv (t 60)),
  s 62 (.ldE 57 61 0 1 false true 8),
  s 63 (.bin .eql (t 56) (t 62)),
  s 64 (.mv (t 63)),
  sg [(64, true)] 65 (.mv (t 3)),
  sg [(64, true)] 66 (.mv (t 6)),
  sg [(64, true)] 67 (.idx (t 65) (t 66) 8),
  sg [(64, true)] 68 (.mv (t 67)),
  sg [(64, true)] 69 (.ldE 65 68 5 1 false true 8),
  sg [(64, true)] 70 (.mv (t 4)),
  sg [(64, true)] 71 (.mv (t 7)),
  sg [(64, true)] 72 (.idx (t 70) (t 71) 8),
  sg [(64, true)] 73 (.mv (t 72)),
  sg [(64, true)] 74 (.ldE 70 73 5 1 false true 8),
  sg [(64, true)] 75 (.bin .eql (t 69) (t 74)),
  s 76 (.pick (t 64) (t 75) (c (.bool false))),
  s 77 (.mv (t 76)),
  sg [(77, true)] 78 (.mv (t 3)),
  sg [(77, true)] 79 (.mv (t 6)),
  sg [(77, true)] 80 (.idx (t 78) (t 79) 8),
  sg [(77, true)] 81 (.mv (t 80)),
  sg [(77, true)] 82 (.ldE 78 81 6 1 false true 8),
  sg [(77, true)] 83 (.mv (t 4)),
  sg [(77, true)] 84 (.mv (t 7)),
  sg [(77, true)] 85 (.idx (t 83) (t 84) 8),
  sg [(77, true)] 86 (.mv (t 85)),
  sg [(77, true)] 87 (.ldE 83 86 6 1 false true 8),
  sg [(77, true)] 88 (.bin .eql (t 82) (t 87)),
  s 89 (.pick (t 77) (t 88) (c (.bool false)))])
 (.cond (t 89) (.seq (.ops [s 90 (.mv (t 5)),
  k 91 7 [(t 90)] .sc,
  s 2 (.mv (t 91))])
 .ret) .skip)))
 (.ops [s 49 (.mv (t 7)),
  s 50 (.bin .add (t 49) (c (i 1))),
  s 7 (.mv (t 50))])))))))
 (.ops [s 43 (.mv (t 6)),
  s 44 (.bin .add (t 43) (c (i 1))),
  s 6 (.mv (t 44))])))) = L ∧ ∀ (a b m : List En) (V : Env), a.length ≤ 16 → b.length ≤ 16 → m.length ≤ 16 → (∀ x ∈ m, x.f0.okay) → wLog m = true →
      V 3 = .lst 8 false (a.map en) → V 4 = .lst 8 false (b.map en) → V 5 = .lst 8 false (m.map en) → V 6 = i 0 →
      sx (FC Try.prog) L (fun y V' => (y = .exit 0 ∧ allTo (rowT a b) a.length = true ∧ V' 3 = .lst 8 false (a.map en) ∧ V' 4 = .lst 8 false (b.map en) ∧ V' 5 = .lst 8 false (m.map en)) ∨ (y = .ret ∧ V' 2 = .bool true)) V :=
    ⟨_, rfl, fun a b m V q1 q2 q3 q4 q5 q6 q7 q8 q9 => l3_0 q1 q2 q3 q4 q5 q6 q7 q8 q9⟩
  obtain ⟨L4, hL4, lp4⟩ : ∃ L, (.loop (.seq (.seq (.ops [s 132 (.mv (t 9)),
  s 133 (.mv (t 8)),
  s 134 (.len false (t 133)),
  s 135 (.bin .lss (t 132) (t 134))])
 (.cond (t 135) .skip (.exit 4)))
 (.seq (.block 5 (.seq (.ops [s 10 (.mv (c (.bool false)))])
 (.seq (.seq (.ops [s 11 (.mv (c (i 0)))])
 (.block 6 (.loop (.seq (.seq (.ops [s 138 (.mv (t 11)),
  s 139 (.mv (t 5)),
  s 140 (.len false (t 139)),
  s 141 (.bin .lss (t 138) (t 140))])
 (.cond (t 141) .skip (.exit 6)))
 (.seq (.block 7 (.ops [s 144 (.mv (t 10)),
  s 145 (.mv (t 144)),
  sg [(145, false)] 146 (.mv (t 5)),
  sg [(145, false)] 147 (.mv (t 11)),
  sg [(145, false)] 148 (.idx (t 146) (t 147) 8),
  sg [(145, false)] 149 (.mv (t 148)),
  sg [(145, false)] 150 (.mv (t 149)),
  sg [(145, false)] 151 (.ldE 146 150 0 1 false true 8),
  sg [(145, false)] 152 (.mv (t 8)),
  sg [(145, false)] 153 (.mv (t 9)),
  sg [(145, false)] 154 (.idx (t 152) (t 153) 8),
  sg [(145, false)] 155 (.mv (t 154)),
  sg [(145, false)] 156 (.mv (t 155)),
  sg [(145, false)] 157 (.ldE 152 156 0 1 false true 8),
  sg [(145, false)] 158 (.bin .eql (t 151) (t 157)),
  sg [(145, false)] 159 (.mv (t 158)),
  sg [(159, true), (145, false)] 160 (.mv (t 8)),
  sg [(159, true), (145, false)] 161 (.mv (t 9)),
  sg [(159, true), (145, false)] 162 (.idx (t 160) (t 161) 8),
  sg [(159, true), (145, false)] 163 (.ldE 160 162 0 8 true false 8),
  sg [(159, true), (145, false)] 164 (.mv (t 5)),
  sg [(159, true), (145, false)] 165 (.mv (t 11)),
  sg [(159, true), (145, false)] 166 (.idx (t 164) (t 165) 8),
  sg [(159, true), (145, false)] 167 (.ldE 164 166 0 8 true false 8),
  kg [(159, true), (145, false)] 168 10 [(t 163), (t 167)] .sc,
  sg [(159, true), (145, false)] 169 (.not (t 168)),
  sg [(145, false)] 170 (.pick (t 159) (t 169) (c (.bool false))),
  s 171 (.pick (t 145) (c (.bool true)) (t 170)),
  s 10 (.mv (t 171))]))
 (.ops [s 142 (.mv (t 11)),
  s 143 (.bin .add (t 142) (c (i 1))),
  s 11 (.mv (t 143))]))))))
 (.seq (.ops [s 172 (.mv (t 10)),
  s 173 (.not (t 172))])
 (.cond (t 173) (.seq (.ops [s 2 (.mv (c (.bool false)))])
 .ret) .skip)))))
 (.ops [s 136 (.mv (t 9)),
  s 137 (.bin .add (t 136) (c (i 1))),
  s 9 (.mv (t 137))])))) = L ∧ ∀ (B m : List En) (V : Env), B.length ≤ 32 → m.length ≤ 16 → (∀ y ∈ B, held y m) → V 8 = .lst 8 false (B.map en) → V 5 = .lst 8 false (m.map en) → V 9 = i 0 →
      sx (FC Try.prog) L (fun y V' => y = .exit 4 ∧ V' 5 = .lst 8 false (m.map en)) V := ⟨_, rfl, fun B m V q1 q2 q3 q4 q5 q6 => l3_4 q1 q2 q3 q4 q5 q6⟩
  replace lp0 : Hide _ := lp0
  replace lp4 : Hide _ := lp4
  unfold i3
  rw [hL0, hL4]
  clear hL0 hL4
  simp [sxa, isPtrN, PV.pcs, elAt, setEl, inAt, elIn, setIn, isLst, cellsOf, Ex.ok, Ex.val, Opd.val, POp.dst, bin_int, binOK_int, bin_str, binOK_str, resOK, resV, RB.val, sub, putc, scB, scL, oneB, conf, Ex.val.eqP, Ex.val.eqL, negV, mxV, mnV, ← wr_eq, wr_zero, wr_one, wr_m1, bst_lst, byteC, partsOK, putAll, appV, nilV, slV, sslV, optB, optNum, and_assoc, exists_and_left, exists_eq_left']
  by_cases hbig : (1048576 : Int) < els.length
  · rw [decide_eq_true hbig] at hb
    repeat' (first | intro _ | (simp [sxa, isPtrN, PV.pcs, elAt, setEl, inAt, elIn, setIn, isLst, cellsOf, Ex.ok, Ex.val, Opd.val, POp.dst, bin_int, binOK_int, bin_str, binOK_str, resOK, resV, RB.val, sub, putc, scB, scL, oneB, conf, Ex.val.eqP, Ex.val.eqL, negV, mxV, mnV, ← wr_eq, wr_zero, wr_one, wr_m1, bst_lst, byteC, partsOK, putAll, appV, nilV, slV, sslV, optB, optNum, and_assoc, exists_and_left, exists_eq_left', *]) | refine CallS_i (hb) ?_ | refine CallM_i (hb) ?_ | refine CallE_i (hb) ?_ | refine CallX_i (hb) ?_ | refine CallB_i (hb) ?_ | refine CondS_d (fun h => ?_) (fun h => ?_) | refine CondS_b (fun h => ?_) (fun h => ?_) | refine GrdS_d (fun h => ?_) (fun h => ?_) | refine GrdS_b (fun h => ?_) (fun h => ?_) | refine OkS_i (by omega) ?_ | fail)
  rw [decide_eq_false hbig] at hb
  have hce : curEls els = true := by unfold curEls; rw [hu]; simp; omega
  repeat' (first | intro _ | (simp [sxa, isPtrN, PV.pcs, elAt, setEl, inAt, elIn, setIn, isLst, cellsOf, Ex.ok, Ex.val, Opd.val, POp.dst, bin_int, binOK_int, bin_str, binOK_str, resOK, resV, RB.val, sub, putc, scB, scL, oneB, conf, Ex.val.eqP, Ex.val.eqL, negV, mxV, mnV, ← wr_eq, wr_zero, wr_one, wr_m1, bst_lst, byteC, partsOK, putAll, appV, nilV, slV, sslV, optB, optNum, and_assoc, exists_and_left, exists_eq_left', *]) | refine CopD_i (f5 nl els hce) (fun _ _ => by first | exact ⟨fun _ => rfl, (fun h => by cases h)⟩ | exact ⟨(fun h => by cases h), fun _ => ⟨_, rfl⟩⟩ | exact ⟨(fun h => by cases h), (fun h => by cases h)⟩) (fun x hx => ?_) | refine CallS_i (hb) ?_ | refine CallM_i (hb) ?_ | refine CallE_i (hb) ?_ | refine CallX_i (hb) ?_ | refine CallB_i (hb) ?_ | refine CondS_d (fun h => ?_) (fun h => ?_) | refine CondS_b (fun h => ?_) (fun h => ?_) | refine GrdS_d (fun h => ?_) (fun h => ?_) | refine GrdS_b (fun h => ?_) (fun h => ?_) | refine OkS_i (by omega) ?_ | fail)
  obtain ⟨⟨a, b⟩, hq⟩ : ∃ q, q = x := ⟨_, rfl⟩
  subst hq
  obtain ⟨hga, hgb⟩ := hx
  simp only at hga hgb
  have ha16 := hga.1
  have hb16 := hgb.1
  have cA := f7 a false (by omega) (good_ok hga)
  have cB := f7 b false (by omega) (good_ok hgb)
  have cS := f8 a false (by omega) (good_ok hga)
  by_cases hlog : (wLog a && wLog b) = true
  case neg =>
    have hbad : (wLog a && wLog b) = false := by simpa using hlog
    have cM := f6b a b ⟨by omega, good_ok hga⟩ ⟨by omega, good_ok hgb⟩ hbad
    obtain ⟨b1, hb1⟩ : ∃ b, wLog a = b := ⟨_, rfl⟩
    obtain ⟨b2, hb2⟩ : ∃ c, wLog b = c := ⟨_, rfl⟩
    rw [hb1] at cA cS hbad
    rw [hb2] at cB hbad
    clear hb1 hb2 lp0 lp4 hlog hga hgb hu hce hbig hb ha16 hb16
    simp [sxa, isPtrN, PV.pcs, elAt, setEl, inAt, elIn, setIn, isLst, cellsOf, Ex.ok, Ex.val, Opd.val, POp.dst, bin_int, binOK_int, bin_str, binOK_str, resOK, resV, RB.val, sub, putc, scB, scL, oneB, conf, Ex.val.eqP, Ex.val.eqL, negV, mxV, mnV, ← wr_eq, wr_zero, wr_one, wr_m1, bst_lst, byteC, partsOK, putAll, appV, nilV, slV, sslV, optB, optNum, and_assoc, exists_and_left, exists_eq_left']
    refine CallS_i (cM) ?_
    simp [sxa, isPtrN, PV.pcs, elAt, setEl, inAt, elIn, setIn, isLst, cellsOf, Ex.ok, Ex.val, Opd.val, POp.dst, bin_int, binOK_int, bin_str, binOK_str, resOK, resV, RB.val, sub, putc, scB, scL, oneB, conf, Ex.val.eqP, Ex.val.eqL, negV, mxV, mnV, ← wr_eq, wr_zero, wr_one, wr_m1, bst_lst, byteC, partsOK, putAll, appV, nilV, slV, sslV, optB, optNum, and_assoc, exists_and_left, exists_eq_left']
    refine CallS_i (cA) ?_
    simp [sxa, isPtrN, PV.pcs, elAt, setEl, inAt, elIn, setIn, isLst, cellsOf, Ex.ok, Ex.val, Opd.val, POp.dst, bin_int, binOK_int, bin_str, binOK_str, resOK, resV, RB.val, sub, putc, scB, scL, oneB, conf, Ex.val.eqP, Ex.val.eqL, negV, mxV, mnV, ← wr_eq, wr_zero, wr_one, wr_m1, bst_lst, byteC, partsOK, putAll, appV, nilV, slV, sslV, optB, optNum, and_assoc, exists_and_left, exists_eq_left']
    refine CallS_i (cS) ?_
    clear cM cS
    cases b1 <;> cases b2
    all_goals first | (exfalso; cases hbad; done) | skip
    all_goals clear hbad
    all_goals repeat' (first | intro _ | (simp [sxa, isPtrN, PV.pcs, elAt, setEl, inAt, elIn, setIn, isLst, cellsOf, Ex.ok, Ex.val, Opd.val, POp.dst, bin_int, binOK_int, bin_str, binOK_str, resOK, resV, RB.val, sub, putc, scB, scL, oneB, conf, Ex.val.eqP, Ex.val.eqL, negV, mxV, mnV, ← wr_eq, wr_zero, wr_one, wr_m1, bst_lst, byteC, partsOK, putAll, appV, nilV, slV, sslV, optB, optNum, and_assoc, exists_and_left, exists_eq_left', *]) | refine CallS_i (cA) ?_ | refine CallS_i (cB) ?_ | refine CallM_i (cA) ?_ | refine CallM_i (cB) ?_ | refine CallE_i (cA) ?_ | refine CallE_i (cB) ?_ | refine CallX_i (cA) ?_ | refine CallX_i (cB) ?_ | refine CallB_i (cA) ?_ | refine CallB_i (cB) ?_ | refine CondS_d (fun h => ?_) (fun h => ?_) | refine CondS_b (fun h => ?_) (fun h => ?_) | refine GrdS_d (fun h => ?_) (fun h => ?_) | refine GrdS_b (fun h => ?_) (fun h => ?_) | refine OkS_i (by omega) ?_ | fail)
  simp only [Bool.and_eq_true] at hlog
  obtain ⟨hla, hlb⟩ := hlog
  rw [hla] at cA cS
  rw [hlb] at cB
  have hna := good_neat hga hla
  have hnb := good_neat hgb hlb
  have hml := mgOf_log hna hnb hla hlb
  have hmn := mgOf_neat hna hnb
  have hm16 := wLog_len hml
  have cM := f6 a b false false ⟨by omega, hna⟩ ⟨by omega, hnb⟩
  have hcomm := fun h1 h2 => mg_comm hla hlb hna hnb h1 h2
  have hall := fun h1 => mgOf_all hla hlb hna hnb h1
  have hself : mgOf a a = a := mg_noop hla hla hna hna (fun y hy => held_mem hy)
  have cMba := f6 b a false false ⟨by omega, hnb⟩ ⟨by omega, hna⟩
  have cMaa := f6 a a false false ⟨by omega, hna⟩ ⟨by omega, hna⟩
  rw [hself] at cMaa
  obtain ⟨m, hm⟩ : ∃ m, mgOf a b = m := ⟨_, rfl⟩
  rw [hm] at cM hml hmn hm16 hcomm
  simp only [hm] at hall
  have hmo : ∀ x ∈ m, x.f0.okay := fun x hx => (hmn x hx).ok
  have cI := f7 m false (by omega) hmo
  rw [hml] at cI
  have lq : Hide (∀ V, _) := fun V => lp0.out a b m V ha16 hb16 hm16 hmo hml
  have cEm := f9 m m false false (by omega) (fun x hx => by have := (hmn x hx).2.1; omega)
  have cEa := f9 a a false false (by omega) (fun x hx => by have := (hna x hx).2.1; omega)
  rw [wEqLog_self] at cEm cEa
  have cMmb := f6 m b false false ⟨by omega, hmn⟩ ⟨by omega, hnb⟩
  have cSo := f11 m false (by omega) hmo (fun x hx => by have := (hmn x hx).2.1; omega) (fun x hx => (hmn x hx).2.2)
  clear hself lp0
  simp [sxa, isPtrN, PV.pcs, elAt, setEl, inAt, elIn, setIn, isLst, cellsOf, Ex.ok, Ex.val, Opd.val, POp.dst, bin_int, binOK_int, bin_str, binOK_str, resOK, resV, RB.val, sub, putc, scB, scL, oneB, conf, Ex.val.eqP, Ex.val.eqL, negV, mxV, mnV, ← wr_eq, wr_zero, wr_one, wr_m1, bst_lst, byteC, partsOK, putAll, appV, nilV, slV, sslV, optB, optNum, and_assoc, exists_and_left, exists_eq_left']
  refine CallS_i (cM) ?_
  simp [sxa, isPtrN, PV.pcs, elAt, setEl, inAt, elIn, setIn, isLst, cellsOf, Ex.ok, Ex.val, Opd.val, POp.dst, bin_int, binOK_int, bin_str, binOK_str, resOK, resV, RB.val, sub, putc, scB, scL, oneB, conf, Ex.val.eqP, Ex.val.eqL, negV, mxV, mnV, ← wr_eq, wr_zero, wr_one, wr_m1, bst_lst, byteC, partsOK, putAll, appV, nilV, slV, sslV, optB, optNum, and_assoc, exists_and_left, exists_eq_left']
  refine CallS_i (cA) ?_
  simp [sxa, isPtrN, PV.pcs, elAt, setEl, inAt, elIn, setIn, isLst, cellsOf, Ex.ok, Ex.val, Opd.val, POp.dst, bin_int, binOK_int, bin_str, binOK_str, resOK, resV, RB.val, sub, putc, scB, scL, oneB, conf, Ex.val.eqP, Ex.val.eqL, negV, mxV, mnV, ← wr_eq, wr_zero, wr_one, wr_m1, bst_lst, byteC, partsOK, putAll, appV, nilV, slV, sslV, optB, optNum, and_assoc, exists_and_left, exists_eq_left']
  refine CallS_i (cS) ?_
  simp [sxa, isPtrN, PV.pcs, elAt, setEl, inAt, elIn, setIn, isLst, cellsOf, Ex.ok, Ex.val, Opd.val, POp.dst, bin_int, binOK_int, bin_str, binOK_str, resOK, resV, RB.val, sub, putc, scB, scL, oneB, conf, Ex.val.eqP, Ex.val.eqL, negV, mxV, mnV, ← wr_eq, wr_zero, wr_one, wr_m1, bst_lst, byteC, partsOK, putAll, appV, nilV, slV, sslV, optB, optNum, and_assoc, exists_and_left, exists_eq_left']
  refine CallS_i (cA) ?_
  simp [sxa, isPtrN, PV.pcs, elAt, setEl, inAt, elIn, setIn, isLst, cellsOf, Ex.ok, Ex.val, Opd.val, POp.dst, bin_int, binOK_int, bin_str, binOK_str, resOK, resV, RB.val, sub, putc, scB, scL, oneB, conf, Ex.val.eqP, Ex.val.eqL, negV, mxV, mnV, ← wr_eq, wr_zero, wr_one, wr_m1, bst_lst, byteC, partsOK, putAll, appV, nilV, slV, sslV, optB, optNum, and_assoc, exists_and_left, exists_eq_left']
  refine CallS_i (cB) ?_
  simp [sxa, isPtrN, PV.pcs, elAt, setEl, inAt, elIn, setIn, isLst, cellsOf, Ex.ok, Ex.val, Opd.val, POp.dst, bin_int, binOK_int, bin_str, binOK_str, resOK, resV, RB.val, sub, putc, scB, scL, oneB, conf, Ex.val.eqP, Ex.val.eqL, negV, mxV, mnV, ← wr_eq, wr_zero, wr_one, wr_m1, bst_lst, byteC, partsOK, putAll, appV, nilV, slV, sslV, optB, optNum, and_assoc, exists_and_left, exists_eq_left']
  clear cM cA cS cB
  refine sx_mono _ _ _ _ ?_ (lq.out _ (by simp [sxa, isPtrN, PV.pcs, elAt, setEl, inAt, elIn, setIn, isLst, cellsOf, Ex.ok, Ex.val, Opd.val, POp.dst, bin_int, binOK_int, bin_str, binOK_str, resOK, resV, RB.val, sub, putc, scB, scL, oneB, conf, Ex.val.eqP, Ex.val.eqL, negV, mxV, mnV, ← wr_eq, wr_zero, wr_one, wr_m1, bst_lst, byteC, partsOK, putAll, appV, nilV, slV, sslV, optB, optNum, and_assoc, exists_and_left, exists_eq_left']) (by simp [sxa, isPtrN, PV.pcs, elAt, setEl, inAt, elIn, setIn, isLst, cellsOf, Ex.ok, Ex.val, Opd.val, POp.dst, bin_int, binOK_int, bin_str, binOK_str, resOK, resV, RB.val, sub, putc, scB, scL, oneB, conf, Ex.val.eqP, Ex.val.eqL, negV, mxV, mnV, ← wr_eq, wr_zero, wr_one, wr_m1, bst_lst, byteC, partsOK, putAll, appV, nilV, slV, sslV, optB, optNum, and_assoc, exists_and_left, exists_eq_left']) (by simp [sxa, isPtrN, PV.pcs, elAt, setEl, inAt, elIn, setIn, isLst, cellsOf, Ex.ok, Ex.val, Opd.val, POp.dst, bin_int, binOK_int, bin_str, binOK_str, resOK, resV, RB.val, sub, putc, scB, scL, oneB, conf, Ex.val.eqP, Ex.val.eqL, negV, mxV, mnV, ← wr_eq, wr_zero, wr_one, wr_m1, bst_lst, byteC, partsOK, putAll, appV, nilV, slV, sslV, optB, optNum, and_assoc, exists_and_left, exists_eq_left']) (by simp [sxa, isPtrN, PV.pcs, elAt, setEl, inAt, elIn, setIn, isLst, cellsOf, Ex.ok, Ex.val, Opd.val, POp.dst, bin_int, binOK_int, bin_str, binOK_str, resOK, resV, RB.val, sub, putc, scB, scL, oneB, conf, Ex.val.eqP, Ex.val.eqL, negV, mxV, mnV, ← wr_eq, wr_zero, wr_one, wr_m1, bst_lst, byteC, partsOK, putAll, appV, nilV, slV, sslV, optB, optNum, and_assoc, exists_and_left, exists_eq_left']))
  clear lq
  rintro y V (⟨rfl, r1, r3, r4, r5⟩ | ⟨rfl, r2⟩)
  case inr => simp [sxa, isPtrN, PV.pcs, elAt, setEl, inAt, elIn, setIn, isLst, cellsOf, Ex.ok, Ex.val, Opd.val, POp.dst, bin_int, binOK_int, bin_str, binOK_str, resOK, resV, RB.val, sub, putc, scB, scL, oneB, conf, Ex.val.eqP, Ex.val.eqL, negV, mxV, mnV, ← wr_eq, wr_zero, wr_one, wr_m1, bst_lst, byteC, partsOK, putAll, appV, nilV, slV, sslV, optB, optNum, and_assoc, exists_and_left, exists_eq_left', r2]
  have hnt := rowT_noTie r1
  clear r1
  have hw : wr .i64 ((a.length : Int) + b.length) = ((a.length + b.length : Nat) : Int) := by rw [wr_in (by omega) (by omega)]; omega
  by_cases h16 : a.length + b.length ≤ 16
  case neg =>
    have h16' : (16 : Int) < ((a.length + b.length : Nat) : Int) := by omega
    obtain ⟨N, hN⟩ : ∃ N : Int, ((a.length + b.length : Nat) : Int) = N := ⟨_, rfl⟩
    rw [hN] at hw h16'
    clear hcomm hall hnt lp4
    simp [sxa, isPtrN, PV.pcs, elAt, setEl, inAt, elIn, setIn, isLst, cellsOf, Ex.ok, Ex.val, Opd.val, POp.dst, bin_int, binOK_int, bin_str, binOK_str, resOK, resV, RB.val, sub, putc, scB, scL, oneB, conf, Ex.val.eqP, Ex.val.eqL, negV, mxV, mnV, ← wr_eq, wr_zero, wr_one, wr_m1, bst_lst, byteC, partsOK, putAll, appV, nilV, slV, sslV, optB, optNum, and_assoc, exists_and_left, exists_eq_left', r3, r4, hw, h16']
    repeat' (first | intro _ | (simp [sxa, isPtrN, PV.pcs, elAt, setEl, inAt, elIn, setIn, isLst, cellsOf, Ex.ok, Ex.val, Opd.val, POp.dst, bin_int, binOK_int, bin_str, binOK_str, resOK, resV, RB.val, sub, putc, scB, scL, oneB, conf, Ex.val.eqP, Ex.val.eqL, negV, mxV, mnV, ← wr_eq, wr_zero, wr_one, wr_m1, bst_lst, byteC, partsOK, putAll, appV, nilV, slV, sslV, optB, optNum, and_assoc, exists_and_left, exists_eq_left', *]) | refine CallS_i (cI) ?_ | refine CallM_i (cI) ?_ | refine CallE_i (cI) ?_ | refine CallX_i (cI) ?_ | refine CallB_i (cI) ?_ | refine CondS_d (fun h => ?_) (fun h => ?_) | refine CondS_b (fun h => ?_) (fun h => ?_) | refine GrdS_d (fun h => ?_) (fun h => ?_) | refine GrdS_b (fun h => ?_) (fun h => ?_) | refine OkS_i (by omega) ?_ | fail)
  have h16' : ¬ (16 : Int) < ((a.length + b.length : Nat) : Int) := by omega
  have hba := hcomm h16 hnt
  have hhold := hall h16
  rw [← hba] at cMba
  have hmb : mgOf m b = m := mg_noop hml hlb hmn hnb (fun y hy => hhold y (.inr hy))
  rw [hmb] at cMmb
  have lq : Hide (∀ V, _) := fun V => lp4.out (a ++ b) m V (by rw [List.length_append]; omega) hm16 (fun y hy => hhold y (List.mem_append.1 hy))
  have hso := so_len m
  have hsrc := so_src hml
  have cIs := f12 (soOf m) false (by omega) (so_ok hmo)
  rw [hsrc] at cIs
  obtain ⟨S, hS⟩ : ∃ S, soOf m = S := ⟨_, rfl⟩
  rw [hS] at cSo cIs hso
  clear hS hsrc hba hmb hhold hcomm hall hnt lp4
  have cMba := cMba.weak
  have cMmb := cMmb.weak
  have cMaa := cMaa.weak
  have hsoI : (S.length : Int) ≤ m.length := by omega
  obtain ⟨N, hN⟩ : ∃ N : Int, ((a.length + b.length : Nat) : Int) = N := ⟨_, rfl⟩
  rw [hN] at hw h16'
  simp [sxa, isPtrN, PV.pcs, elAt, setEl, inAt, elIn, setIn, isLst, cellsOf, Ex.ok, Ex.val, Opd.val, POp.dst, bin_int, binOK_int, bin_str, binOK_str, resOK, resV, RB.val, sub, putc, scB, scL, oneB, conf, Ex.val.eqP, Ex.val.eqL, negV, mxV, mnV, ← wr_eq, wr_zero, wr_one, wr_m1, bst_lst, byteC, partsOK, putAll, appV, nilV, slV, sslV, optB, optNum, and_assoc, exists_and_left, exists_eq_left', r3, r4, r5, hw, h16']
  refine CallS_i (cI) ?_
  simp [sxa, isPtrN, PV.pcs, elAt, setEl, inAt, elIn, setIn, isLst, cellsOf, Ex.ok, Ex.val, Opd.val, POp.dst, bin_int, binOK_int, bin_str, binOK_str, resOK, resV, RB.val, sub, putc, scB, scL, oneB, conf, Ex.val.eqP, Ex.val.eqL, negV, mxV, mnV, ← wr_eq, wr_zero, wr_one, wr_m1, bst_lst, byteC, partsOK, putAll, appV, nilV, slV, sslV, optB, optNum, and_assoc, exists_and_left, exists_eq_left', r3, r4, r5]
  refine CallS_i (cMba) ?_
  simp [sxa, isPtrN, PV.pcs, elAt, setEl, inAt, elIn, setIn, isLst, cellsOf, Ex.ok, Ex.val, Opd.val, POp.dst, bin_int, binOK_int, bin_str, binOK_str, resOK, resV, RB.val, sub, putc, scB, scL, oneB, conf, Ex.val.eqP, Ex.val.eqL, negV, mxV, mnV, ← wr_eq, wr_zero, wr_one, wr_m1, bst_lst, byteC, partsOK, putAll, appV, nilV, slV, sslV, optB, optNum, and_assoc, exists_and_left, exists_eq_left', r3, r4, r5]
  refine CallS_i (cEm) ?_
  simp [sxa, isPtrN, PV.pcs, elAt, setEl, inAt, elIn, setIn, isLst, cellsOf, Ex.ok, Ex.val, Opd.val, POp.dst, bin_int, binOK_int, bin_str, binOK_str, resOK, resV, RB.val, sub, putc, scB, scL, oneB, conf, Ex.val.eqP, Ex.val.eqL, negV, mxV, mnV, ← wr_eq, wr_zero, wr_one, wr_m1, bst_lst, byteC, partsOK, putAll, appV, nilV, slV, sslV, optB, optNum, and_assoc, exists_and_left, exists_eq_left', r3, r4, r5]
  refine CallS_i (cMmb) ?_
  simp [sxa, isPtrN, PV.pcs, elAt, setEl, inAt, elIn, setIn, isLst, cellsOf, Ex.ok, Ex.val, Opd.val, POp.dst, bin_int, binOK_int, bin_str, binOK_str, resOK, resV, RB.val, sub, putc, scB, scL, oneB, conf, Ex.val.eqP, Ex.val.eqL, negV, mxV, mnV, ← wr_eq, wr_zero, wr_one, wr_m1, bst_lst, byteC, partsOK, putAll, appV, nilV, slV, sslV, optB, optNum, and_assoc, exists_and_left, exists_eq_left', r3, r4, r5]
  refine CallS_i (cEm) ?_
  simp [sxa, isPtrN, PV.pcs, elAt, setEl, inAt, elIn, setIn, isLst, cellsOf, Ex.ok, Ex.val, Opd.val, POp.dst, bin_int, binOK_int, bin_str, binOK_str, resOK, resV, RB.val, sub, putc, scB, scL, oneB, conf, Ex.val.eqP, Ex.val.eqL, negV, mxV, mnV, ← wr_eq, wr_zero, wr_one, wr_m1, bst_lst, byteC, partsOK, putAll, appV, nilV, slV, sslV, optB, optNum, and_assoc, exists_and_left, exists_eq_left', r3, r4, r5]
  refine CallS_i (cMaa) ?_
  simp [sxa, isPtrN, PV.pcs, elAt, setEl, inAt, elIn, setIn, isLst, cellsOf, Ex.ok, Ex.val, Opd.val, POp.dst, bin_int, binOK_int, bin_str, binOK_str, resOK, resV, RB.val, sub, putc, scB, scL, oneB, conf, Ex.val.eqP, Ex.val.eqL, negV, mxV, mnV, ← wr_eq, wr_zero, wr_one, wr_m1, bst_lst, byteC, partsOK, putAll, appV, nilV, slV, sslV, optB, optNum, and_assoc, exists_and_left, exists_eq_left', r3, r4, r5]
  refine CallS_i (cEa) ?_
  simp [sxa, isPtrN, PV.pcs, elAt, setEl, inAt, elIn, setIn, isLst, cellsOf, Ex.ok, Ex.val, Opd.val, POp.dst, bin_int, binOK_int, bin_str, binOK_str, resOK, resV, RB.val, sub, putc, scB, scL, oneB, conf, Ex.val.eqP, Ex.val.eqL, negV, mxV, mnV, ← wr_eq, wr_zero, wr_one, wr_m1, bst_lst, byteC, partsOK, putAll, appV, nilV, slV, sslV, optB, optNum, and_assoc, exists_and_left, exists_eq_left', r3, r4, r5]
  clear cI cMba cEm cMmb cMaa cEa
  refine OkS_i (by omega) ?_
  simp [sxa, isPtrN, PV.pcs, elAt, setEl, inAt, elIn, setIn, isLst, cellsOf, Ex.ok, Ex.val, Opd.val, POp.dst, bin_int, binOK_int, bin_str, binOK_str, resOK, resV, RB.val, sub, putc, scB, scL, oneB, conf, Ex.val.eqP, Ex.val.eqL, negV, mxV, mnV, ← wr_eq, wr_zero, wr_one, wr_m1, bst_lst, byteC, partsOK, putAll, appV, nilV, slV, sslV, optB, optNum, and_assoc, exists_and_left, exists_eq_left', r3, r4, r5]
  refine OkS_i (by omega) ?_
  simp [sxa, isPtrN, PV.pcs, elAt, setEl, inAt, elIn, setIn, isLst, cellsOf, Ex.ok, Ex.val, Opd.val, POp.dst, bin_int, binOK_int, bin_str, binOK_str, resOK, resV, RB.val, sub, putc, scB, scL, oneB, conf, Ex.val.eqP, Ex.val.eqL, negV, mxV, mnV, ← wr_eq, wr_zero, wr_one, wr_m1, bst_lst, byteC, partsOK, putAll, appV, nilV, slV, sslV, optB, optNum, and_assoc, exists_and_left, exists_eq_left', r3, r4, r5]
  refine sx_mono _ _ _ _ ?_ (lq.out _ (by simp [sxa, isPtrN, PV.pcs, elAt, setEl, inAt, elIn, setIn, isLst, cellsOf, Ex.ok, Ex.val, Opd.val, POp.dst, bin_int, binOK_int, bin_str, binOK_str, resOK, resV, RB.val, sub, putc, scB, scL, oneB, conf, Ex.val.eqP, Ex.val.eqL, negV, mxV, mnV, ← wr_eq, wr_zero, wr_one, wr_m1, bst_lst, byteC, partsOK, putAll, appV, nilV, slV, sslV, optB, optNum, and_assoc, exists_and_left, exists_eq_left']) (by simp [sxa, isPtrN, PV.pcs, elAt, setEl, inAt, elIn, setIn, isLst, cellsOf, Ex.ok, Ex.val, Opd.val, POp.dst, bin_int, binOK_int, bin_str, binOK_str, resOK, resV, RB.val, sub, putc, scB, scL, oneB, conf, Ex.val.eqP, Ex.val.eqL, negV, mxV, mnV, ← wr_eq, wr_zero, wr_one, wr_m1, bst_lst, byteC, partsOK, putAll, appV, nilV, slV, sslV, optB, optNum, and_assoc, exists_and_left, exists_eq_left', r5]) (by simp [sxa, isPtrN, PV.pcs, elAt, setEl, inAt, elIn, setIn, isLst, cellsOf, Ex.ok, Ex.val, Opd.val, POp.dst, bin_int, binOK_int, bin_str, binOK_str, resOK, resV, RB.val, sub, putc, scB, scL, oneB, conf, Ex.val.eqP, Ex.val.eqL, negV, mxV, mnV, ← wr_eq, wr_zero, wr_one, wr_m1, bst_lst, byteC, partsOK, putAll, appV, nilV, slV, sslV, optB, optNum, and_assoc, exists_and_left, exists_eq_left']))
  clear lq
  rintro y W ⟨rfl, w5⟩
  simp [sxa, isPtrN, PV.pcs, elAt, setEl, inAt, elIn, setIn, isLst, cellsOf, Ex.ok, Ex.val, Opd.val, POp.dst, bin_int, binOK_int, bin_str, binOK_str, resOK, resV, RB.val, sub, putc, scB, scL, oneB, conf, Ex.val.eqP, Ex.val.eqL, negV, mxV, mnV, ← wr_eq, wr_zero, wr_one, wr_m1, bst_lst, byteC, partsOK, putAll, appV, nilV, slV, sslV, optB, optNum, and_assoc, exists_and_left, exists_eq_left', w5]
  refine CallS_i (cSo) ?_
  simp [sxa, isPtrN, PV.pcs, elAt, setEl, inAt, elIn, setIn, isLst, cellsOf, Ex.ok, Ex.val, Opd.val, POp.dst, bin_int, binOK_int, bin_str, binOK_str, resOK, resV, RB.val, sub, putc, scB, scL, oneB, conf, Ex.val.eqP, Ex.val.eqL, negV, mxV, mnV, ← wr_eq, wr_zero, wr_one, wr_m1, bst_lst, byteC, partsOK, putAll, appV, nilV, slV, sslV, optB, optNum, and_assoc, exists_and_left, exists_eq_left', w5]
  refine CallS_i (cIs) ?_
  simp [sxa, isPtrN, PV.pcs, elAt, setEl, inAt, elIn, setIn, isLst, cellsOf, Ex.ok, Ex.val, Opd.val, POp.dst, bin_int, binOK_int, bin_str, binOK_str, resOK, resV, RB.val, sub, putc, scB, scL, oneB, conf, Ex.val.eqP, Ex.val.eqL, negV, mxV, mnV, ← wr_eq, wr_zero, wr_one, wr_m1, bst_lst, byteC, partsOK, putAll, appV, nilV, slV, sslV, optB, optNum, and_assoc, exists_and_left, exists_eq_left', w5, hsoI]
end Go.Eng
namespace Go.Eng
open Go Go.Proofs
set_option linter.unusedSimpArgs false
set_option linter.unusedVariables false
set_option maxRecDepth 20000
/-! what the arguments hold -/
theorem d_slice {X : Cx} {t n e sz : Nat} {i0 : TI} {vs : List PV} {α : Type} {g : α → List PV} {q : α → Prop} (hi : X.ti t = some i0) (hk : i0.k = .slice e) (hs : szOf X e = sz)
    (hd : ∀ n vs, shp X n e vs → ∃ x, vs = g x ∧ q x) (h : shp X n t vs) : ∃ (l : List α) (nl : Bool), vs = [.lst sz nl (l.map g)] ∧ l.length ≤ 9223372036854775807 ∧ ∀ x ∈ l, q x := by
  cases n with
  | zero => cases h
  | succ n =>
    unfold shp at h; rw [hi] at h; simp only [hk, hs] at h
    rcases h with rfl | ⟨els, rfl, hl, he⟩
    · exact ⟨[], true, rfl, by simp, by simp⟩
    · have : ∀ els : List (List PV), (∀ cs ∈ els, shp X n e cs) → ∃ l : List α, els = l.map g ∧ ∀ x ∈ l, q x := by
        intro els
        induction els with
        | nil => intro _; exact ⟨[], rfl, by simp⟩
        | cons c r ih =>
          intro h
          obtain ⟨l, h1, h2⟩ := ih fun cs hcs => h cs (List.mem_cons_of_mem _ hcs)
          obtain ⟨x, h3, h4⟩ := hd n c (h c (List.mem_cons_self ..))
          exact ⟨x :: l, by rw [h1, h3]; rfl, fun y hy => by
            rcases List.mem_cons.1 hy with rfl | hy
            · exact h4
            · exact h2 y hy⟩
      obtain ⟨l, h1, h2⟩ := this els he
      subst h1
      exact ⟨l, false, rfl, by have := hl; rw [List.length_map] at this; exact this, h2⟩
theorem shpL_cons {X : Cx} {n t : Nat} {ts : List Nat} {pvs : List PV} (h : shpL X n (t :: ts) pvs) : ∃ v vs, pvs = v :: vs ∧ shpV X n t v ∧ shpL X n ts vs := by
  cases pvs with
  | nil => cases h
  | cons v vs => exact ⟨v, vs, rfl, h.1, h.2⟩
theorem shpL_nil {X : Cx} {n : Nat} {pvs : List PV} (h : shpL X n [] pvs) : pvs = [] := by
  cases pvs with
  | nil => rfl
  | cons v vs => cases h
theorem shpV_one {X : Cx} {n t : Nat} {i0 : TI} {v : PV} (hi : X.ti t = some i0) (ha : i0.k.agg = false) (h : shpV X n t v) : shp X n t [v] := by
  unfold shpV at h; rw [hi] at h; simp only [ha, Bool.false_eq_true, if_false] at h; exact h
end Go.Eng
namespace Go.Eng
open Go Go.Proofs
/-! bytes that are handed in -/
theorem d_u8 {X : Cx} {t n : Nat} {i0 : TI} {vs : List PV} (hi : X.ti t = some i0) (hk : i0.k = .int .u8) (h : shp X n t vs) : ∃ m : Int, vs = [.int .u8 m] ∧ True := by
  cases n with
  | zero => cases h
  | succ n => unfold shp at h; rw [hi] at h; simp only [hk] at h; obtain ⟨m, hm, _⟩ := h; exact ⟨m, hm, trivial⟩
theorem curU8_map : ∀ l : List Int, curU8 (l.map fun m => [.int .u8 m]) = true
  | [] => rfl
  | _ :: r => curU8_map r
theorem dBy {n : Nat} {v : PV} (h : shpV X n 22 v) : ∃ (els : List (List PV)) (nl : Bool), v = .lst 1 nl els ∧ curU8 els = true := by
  have h := shpV_one (i0 := (X.ti 22).getD default) rfl rfl h
  obtain ⟨l, nl, e, h1, h2⟩ := d_slice (i0 := (X.ti 22).getD default) (sz := 1) (g := fun m : Int => [PV.int .u8 m]) (q := fun _ => True) rfl rfl rfl (fun _ _ => d_u8 (i0 := (X.ti 5).getD default) rfl rfl) h
  exact ⟨_, nl, (List.cons.inj e).1, curU8_map l⟩
end Go.Eng
namespace Go.Eng
open Go Go.Proofs
theorem law3 {pvs : List PV} (h : shpL X 8 [22] pvs) : Fn Try.prog 3 false pvs (.bool true) := by
  obtain ⟨_, _, rfl, h1, h2⟩ := shpL_cons h
  obtain rfl := shpL_nil h2
  obtain ⟨els, nl, rfl, hu⟩ := dBy h1
  exact f3 nl els hu
end Go.Eng
