/- A part of the proof of a law's statement: for every input the law returns true and leaves its arguments as they were. No condition beyond the statement's own. What each function computes. -/
import Derived.Test.YtlbflbdoncbonaaGreatNp1
set_option linter.unusedVariables false
set_option linter.unusedSimpArgs false
set_option linter.unusedSectionVars false
set_option autoImplicit true
set_option relaxedAutoImplicit true
namespace Go.Eng
open Go Go.Proofs Geo
set_option linter.unusedSimpArgs false
set_option linter.unusedVariables false
set_option maxRecDepth 20000
set_option maxHeartbeats 1000000

/-! a point is moved. WRITES -/
def mv (p : Pt) (dx dy : Int) : Pt := ⟨wr .i64 (p.f0 + dx), wr .i64 (p.f1 + dy)⟩
def putL (l : List Ft) (f : Ft) : List Ft := if wSrc (pfS l f) = true then pfS l f else l.map Ft.fr
theorem hitF_eq {l : List Ft} {f : Ft} (h : wAtF l f.f0 < l.length) : hitF l f = decide (l[wAtF l f.f0].f0 = f.f0) := by unfold hitF; simp [h]
theorem hitF_end {l : List Ft} {f : Ft} (h : ¬ wAtF l f.f0 < l.length) : hitF l f = false := by unfold hitF; simp [h]
theorem pfS_len (l : List Ft) (f : Ft) : (pfS l f).length ≤ l.length + 1 := by
  have := wAtF_le l f.f0
  unfold pfS
  split <;> simp <;> omega
theorem pfS_ok {l : List Ft} {f : Ft} {p : Ft → Prop} (hl : ∀ x ∈ l, p x.fr) (he : p f.fr) : ∀ x ∈ pfS l f, p x := by
  intro x hx
  unfold pfS at hx
  rcases List.mem_append.1 hx with h | h
  · obtain ⟨y, hy, rfl⟩ := List.mem_map.1 h
    exact hl y (List.mem_of_mem_take hy)
  · rcases List.mem_cons.1 h with rfl | h
    · exact he
    · obtain ⟨y, hy, rfl⟩ := List.mem_map.1 h
      exact hl y (List.mem_of_mem_drop hy)
theorem f40 (l : List Ft) (e : Ft) (nl : Bool) (hl : l.length ≤ 1048576) (hb : ∀ x ∈ l, x.okay) (he : e.okay) (hp : ∀ x ∈ l, x.f4.length ≤ 1000000000) (hpe : e.f4.length ≤ 1000000000) :
    Fn Tryz.prog 40 true [.lst 5 nl (l.map ft), .agg (ft e)] (.tup [.lst 5 false ((putL l e).map ft), .bool (wSrc (pfS l e))]) := by
  have hk := wAtF_le l e.f0
  have hee : ft e = [i e.f0, i e.f1, i e.f2, .str e.f3, .lst 2 e.nl (e.f4.map cp)] := rfl
  have hef : ft e.fr = [i e.f0, i e.f1, i e.f2, .str e.f3, .lst 2 false (e.f4.map cp)] := rfl
  have cC := f37 l nl (by omega) hp
  have cO := f60 (pfS l e) false (by have := pfS_len l e; omega) (pfS_ok (p := fun x => x.okay) (fun x hx => hb x hx) he)
  have cE := f54 e hpe
  have cP := f37 (l.take (wAtF l e.f0)) nl (by simp; omega) (fun x hx => hp x (List.mem_of_mem_take hx))
  have cR : ∀ j, Fn Tryz.prog 37 true [.lst 5 nl ((l.map ft).drop j)] (.lst 5 false (((l.drop j).map Ft.fr).map ft)) := fun j => by
    have := f37 (l.drop j) nl (by simp; omega) (fun x hx => hp x (List.mem_of_mem_drop hx))
    rw [List.map_drop] at this
    exact this
  rw [List.map_take] at cP
  have hpl : (((l.take (wAtF l e.f0)).map Ft.fr).map ft).length = wAtF l e.f0 := by simp; omega
  rw [hee, hef] at cE
  rw [hee]
  have hR : (putL l e).map ft = if wSrc (pfS l e) = true then (pfS l e).map ft else (l.map Ft.fr).map ft := by unfold putL; split <;> rfl
  rw [hR]
  obtain ⟨b2, hb2⟩ : ∃ b, wSrc (pfS l e) = b := ⟨_, rfl⟩
  rw [hb2] at cO ⊢
  have hto : (pfS l e).map ft = ((l.take (wAtF l e.f0)).map Ft.fr).map ft ++ [i e.f0, i e.f1, i e.f2, .str e.f3, .lst 2 false (e.f4.map cp)] :: ((l.drop (if hitF l e = true then wAtF l e.f0 + 1 else wAtF l e.f0)).map Ft.fr).map ft := by
    unfold pfS; rw [List.map_append, List.map_cons, hef]
  rw [hto] at cO ⊢
  obtain ⟨P1, hP1⟩ : ∃ P, ((l.take (wAtF l e.f0)).map Ft.fr).map ft = P := ⟨_, rfl⟩
  rw [hP1] at cP cO hpl ⊢
  obtain ⟨C, hC⟩ : ∃ C, (l.map Ft.fr).map ft = C := ⟨_, rfl⟩
  rw [hC] at cC ⊢
  obtain ⟨j, hj⟩ : ∃ j, (if hitF l e = true then wAtF l e.f0 + 1 else wAtF l e.f0) = j := ⟨_, rfl⟩
  rw [hj] at cO ⊢
  have cR' := cR j
  obtain ⟨P2, hP2⟩ : ∃ P, ((l.drop j).map Ft.fr).map ft = P := ⟨_, rfl⟩
  rw [hP2] at cO cR' ⊢
  have hP2l : P2.length ≤ l.length := by rw [← hP2]; simp
  clear cR hP1 hP2 hC hto hb2 hb hp hR hef hee
  refine Fn.by_sx hX (by kernel_rfl) c40 (by kernel_rfl) (by rfl) ?_
  simp [i40, sxa, isPtrN, PV.pcs, elAt, setEl, inAt, elIn, setIn, isLst, cellsOf, Ex.ok, Ex.val, Opd.val, POp.dst, bin_int, binOK_int, bin_str, binOK_str, resOK, resV, RB.val, sub, putc, scB, scL, oneB, conf, Ex.val.eqP, Ex.val.eqL, negV, mxV, mnV, ← wr_eq, wr_zero, wr_one, wr_m1, bst_lst, byteC, partsOK, putAll, appV, nilV, slV, sslV, optB, optNum, and_assoc, exists_and_left, exists_eq_left']
  refine sx_count (wAtF l e.f0) (fun n V => V 0 = .lst 5 nl (l.map ft) ∧ V 3 = .ptr [i e.f0, i e.f1, i e.f2, .str e.f3, .lst 2 e.nl (e.f4.map cp)] ∧ V 6 = i n) 0 (by omega) (by simp [sxa, isPtrN, PV.pcs, elAt, setEl, inAt, elIn, setIn, isLst, cellsOf, Ex.ok, Ex.val, Opd.val, POp.dst, bin_int, binOK_int, bin_str, binOK_str, resOK, resV, RB.val, sub, putc, scB, scL, oneB, conf, Ex.val.eqP, Ex.val.eqL, negV, mxV, mnV, ← wr_eq, wr_zero, wr_one, wr_m1, bst_lst, byteC, partsOK, putAll, appV, nilV, slV, sslV, optB, optNum, and_assoc, exists_and_left, exists_eq_left']) ?_
  rintro n V hn ⟨h0, h3, h6⟩
  have hw : wr .i64 ((n : Int) + 1) = n + 1 := wr_in (by omega) (by omega)
  simp [sxa, isPtrN, PV.pcs, elAt, setEl, inAt, elIn, setIn, isLst, cellsOf, Ex.ok, Ex.val, Opd.val, POp.dst, bin_int, binOK_int, bin_str, binOK_str, resOK, resV, RB.val, sub, putc, scB, scL, oneB, conf, Ex.val.eqP, Ex.val.eqL, negV, mxV, mnV, ← wr_eq, wr_zero, wr_one, wr_m1, bst_lst, byteC, partsOK, putAll, appV, nilV, slV, sslV, optB, optNum, and_assoc, exists_and_left, exists_eq_left', h0, h3, h6]
  rcases Nat.lt_or_ge n (wAtF l e.f0) with hlt | hge
  · have hlt' : n < l.length := by omega
    have hx := wAtF_lt hlt hlt'
    clear cC cO cE cP cR'
    repeat' (first | intro _ | (simp [sxa, isPtrN, PV.pcs, elAt, setEl, inAt, elIn, setIn, isLst, cellsOf, Ex.ok, Ex.val, Opd.val, POp.dst, bin_int, binOK_int, bin_str, binOK_str, resOK, resV, RB.val, sub, putc, scB, scL, oneB, conf, Ex.val.eqP, Ex.val.eqL, negV, mxV, mnV, ← wr_eq, wr_zero, wr_one, wr_m1, bst_lst, byteC, partsOK, putAll, appV, nilV, slV, sslV, optB, optNum, and_assoc, exists_and_left, exists_eq_left', ft, *]) | refine CondS_d (fun h => ?_) (fun h => ?_) | refine CondS_b (fun h => ?_) (fun h => ?_) | refine GrdS_d (fun h => ?_) (fun h => ?_) | refine GrdS_b (fun h => ?_) (fun h => ?_) | refine OkS_i (by omega) ?_ | fail)
  obtain rfl : n = wAtF l e.f0 := by omega
  have hT1 : List.take l.length (List.map ft l) = List.map ft l := List.take_of_length_le (by simp)
  have hT2 : List.take (l.length - wAtF l e.f0) (List.drop (wAtF l e.f0) (List.map ft l)) = List.drop (wAtF l e.f0) (List.map ft l) := List.take_of_length_le (by simp)
  have hT3 : (List.drop (wAtF l e.f0) (List.map ft l)).tail = List.drop (wAtF l e.f0 + 1) (List.map ft l) := by rw [List.tail_drop]
  by_cases hlt' : wAtF l e.f0 < l.length
  · have hx := wAtF_stop hlt'
    have hpos : 0 < l.length - wAtF l e.f0 := by omega
    have hh := hitF_eq hlt'
    by_cases hid : l[wAtF l e.f0].f0 = e.f0
    · rw [hh, if_pos (by simp [hid])] at hj
      subst hj
      cases b2
      all_goals repeat' (first | intro _ | (simp [sxa, isPtrN, PV.pcs, elAt, setEl, inAt, elIn, setIn, isLst, cellsOf, Ex.ok, Ex.val, Opd.val, POp.dst, bin_int, binOK_int, bin_str, binOK_str, resOK, resV, RB.val, sub, putc, scB, scL, oneB, conf, Ex.val.eqP, Ex.val.eqL, negV, mxV, mnV, ← wr_eq, wr_zero, wr_one, wr_m1, bst_lst, byteC, partsOK, putAll, appV, nilV, slV, sslV, optB, optNum, and_assoc, exists_and_left, exists_eq_left', ft, *]) | refine CallS_i (cP) ?_ | refine CallS_i (cE) ?_ | refine CallS_i (cR') ?_ | refine CallS_i (cO) ?_ | refine CallS_i (cC) ?_ | refine CallM_i (cP) ?_ | refine CallM_i (cE) ?_ | refine CallM_i (cR') ?_ | refine CallM_i (cO) ?_ | refine CallM_i (cC) ?_ | refine CallE_i (cP) ?_ | refine CallE_i (cE) ?_ | refine CallE_i (cR') ?_ | refine CallE_i (cO) ?_ | refine CallE_i (cC) ?_ | refine CallX_i (cP) ?_ | refine CallX_i (cE) ?_ | refine CallX_i (cR') ?_ | refine CallX_i (cO) ?_ | refine CallX_i (cC) ?_ | refine CallB_i (cP) ?_ | refine CallB_i (cE) ?_ | refine CallB_i (cR') ?_ | refine CallB_i (cO) ?_ | refine CallB_i (cC) ?_ | refine CondS_d (fun h => ?_) (fun h => ?_) | refine CondS_b (fun h => ?_) (fun h => ?_) | refine GrdS_d (fun h => ?_) (fun h => ?_) | refine GrdS_b (fun h => ?_) (fun h => ?_) | refine OkS_i (by omega) ?_ | fail)
      all_goals first | omega | simp_all
    · rw [hh, if_neg (by simp [hid])] at hj
      subst hj
      cases b2
      all_goals repeat' (first | intro _ | (simp [sxa, isPtrN, PV.pcs, elAt, setEl, inAt, elIn, setIn, isLst, cellsOf, Ex.ok, Ex.val, Opd.val, POp.dst, bin_int, binOK_int, bin_str, binOK_str, resOK, resV, RB.val, sub, putc, scB, scL, oneB, conf, Ex.val.eqP, Ex.val.eqL, negV, mxV, mnV, ← wr_eq, wr_zero, wr_one, wr_m1, bst_lst, byteC, partsOK, putAll, appV, nilV, slV, sslV, optB, optNum, and_assoc, exists_and_left, exists_eq_left', ft, *]) | refine CallS_i (cP) ?_ | refine CallS_i (cE) ?_ | refine CallS_i (cR') ?_ | refine CallS_i (cO) ?_ | refine CallS_i (cC) ?_ | refine CallM_i (cP) ?_ | refine CallM_i (cE) ?_ | refine CallM_i (cR') ?_ | refine CallM_i (cO) ?_ | refine CallM_i (cC) ?_ | refine CallE_i (cP) ?_ | refine CallE_i (cE) ?_ | refine CallE_i (cR') ?_ | refine CallE_i (cO) ?_ | refine CallE_i (cC) ?_ | refine CallX_i (cP) ?_ | refine CallX_i (cE) ?_ | refine CallX_i (cR') ?_ | refine CallX_i (cO) ?_ | refine CallX_i (cC) ?_ | refine CallB_i (cP) ?_ | refine CallB_i (cE) ?_ | refine CallB_i (cR') ?_ | refine CallB_i (cO) ?_ | refine CallB_i (cC) ?_ | refine CondS_d (fun h => ?_) (fun h => ?_) | refine CondS_b (fun h => ?_) (fun h => ?_) | refine GrdS_d (fun h => ?_) (fun h => ?_) | refine GrdS_b (fun h => ?_) (fun h => ?_) | refine OkS_i (by omega) ?_ | fail)
      all_goals first | omega | simp_all
  · rw [hitF_end hlt', if_neg (by simp)] at hj
    subst hj
    have hz : l.length - wAtF l e.f0 = 0 := by omega
    cases b2
    all_goals repeat' (first | intro _ | (simp [sxa, isPtrN, PV.pcs, elAt, setEl, inAt, elIn, setIn, isLst, cellsOf, Ex.ok, Ex.val, Opd.val, POp.dst, bin_int, binOK_int, bin_str, binOK_str, resOK, resV, RB.val, sub, putc, scB, scL, oneB, conf, Ex.val.eqP, Ex.val.eqL, negV, mxV, mnV, ← wr_eq, wr_zero, wr_one, wr_m1, bst_lst, byteC, partsOK, putAll, appV, nilV, slV, sslV, optB, optNum, and_assoc, exists_and_left, exists_eq_left', ft, *]) | refine CallS_i (cP) ?_ | refine CallS_i (cE) ?_ | refine CallS_i (cR') ?_ | refine CallS_i (cO) ?_ | refine CallS_i (cC) ?_ | refine CallM_i (cP) ?_ | refine CallM_i (cE) ?_ | refine CallM_i (cR') ?_ | refine CallM_i (cO) ?_ | refine CallM_i (cC) ?_ | refine CallE_i (cP) ?_ | refine CallE_i (cE) ?_ | refine CallE_i (cR') ?_ | refine CallE_i (cO) ?_ | refine CallE_i (cC) ?_ | refine CallX_i (cP) ?_ | refine CallX_i (cE) ?_ | refine CallX_i (cR') ?_ | refine CallX_i (cO) ?_ | refine CallX_i (cC) ?_ | refine CallB_i (cP) ?_ | refine CallB_i (cE) ?_ | refine CallB_i (cR') ?_ | refine CallB_i (cO) ?_ | refine CallB_i (cC) ?_ | refine CondS_d (fun h => ?_) (fun h => ?_) | refine CondS_b (fun h => ?_) (fun h => ?_) | refine GrdS_d (fun h => ?_) (fun h => ?_) | refine GrdS_b (fun h => ?_) (fun h => ?_) | refine OkS_i (by omega) ?_ | fail)
    all_goals first | omega | simp_all
end Go.Eng
namespace Go.Eng
open Go Go.Proofs Geo
set_option linter.unusedSimpArgs false
set_option linter.unusedVariables false
set_option maxRecDepth 20000
set_option maxHeartbeats 2000000

/-! draws of lists of features. WRITES -/
def goodL (l : List Ft) : Prop := l.length ≤ 16 ∧ ∀ x ∈ l, goodF x
theorem putL_good {l : List Ft} {e : Ft} (hl : ∀ x ∈ l, goodF x) (he : goodF e) : (putL l e).length ≤ l.length + 1 ∧ ∀ x ∈ putL l e, goodF x := by
  unfold putL
  split
  · exact ⟨pfS_len l e, pfS_ok (p := goodF) (fun x hx => (hl x hx).frg) he.frg⟩
  · refine ⟨by simp, fun x hx => ?_⟩
    obtain ⟨y, hy, rfl⟩ := List.mem_map.1 hx
    exact (hl y hy).frg
theorem f26 : FnR Tryz.prog 26 true true [] (fun v => ∃ l : List Ft, v = .lst 5 false (l.map ft) ∧ goodL l) := by
  refine FnR.by_sxC hX (by kernel_rfl) c26 rfl rfl rfl (fun h => by cases h) ?_
  intro cs hcs
  simp [i26, sxa, isPtrN, PV.pcs, elAt, setEl, inAt, elIn, setIn, isLst, cellsOf, Ex.ok, Ex.val, Opd.val, POp.dst, bin_int, binOK_int, bin_str, binOK_str, resOK, resV, RB.val, sub, putc, scB, scL, oneB, conf, Ex.val.eqP, Ex.val.eqL, negV, mxV, mnV, ← wr_eq, wr_zero, wr_one, wr_m1, bst_lst, byteC, partsOK, putAll, appV, nilV, slV, sslV, optB, optNum, and_assoc, exists_and_left, exists_eq_left']
  refine sx_count 7 (fun n V => isCur (V 0) = true ∧ 1 ≤ n ∧ V 4 = i n ∧ ∃ l : List Ft, V 3 = .lst 5 false (l.map ft) ∧ l.length ≤ n - 1 ∧ ∀ x ∈ l, goodF x) 1 (by omega) ⟨by simp [sxa, isPtrN, PV.pcs, elAt, setEl, inAt, elIn, setIn, isLst, cellsOf, Ex.ok, Ex.val, Opd.val, POp.dst, bin_int, binOK_int, bin_str, binOK_str, resOK, resV, RB.val, sub, putc, scB, scL, oneB, conf, Ex.val.eqP, Ex.val.eqL, negV, mxV, mnV, ← wr_eq, wr_zero, wr_one, wr_m1, bst_lst, byteC, partsOK, putAll, appV, nilV, slV, sslV, optB, optNum, and_assoc, exists_and_left, exists_eq_left', hcs], by omega, by simp [sxa, isPtrN, PV.pcs, elAt, setEl, inAt, elIn, setIn, isLst, cellsOf, Ex.ok, Ex.val, Opd.val, POp.dst, bin_int, binOK_int, bin_str, binOK_str, resOK, resV, RB.val, sub, putc, scB, scL, oneB, conf, Ex.val.eqP, Ex.val.eqL, negV, mxV, mnV, ← wr_eq, wr_zero, wr_one, wr_m1, bst_lst, byteC, partsOK, putAll, appV, nilV, slV, sslV, optB, optNum, and_assoc, exists_and_left, exists_eq_left'], [], by simp [sxa, isPtrN, PV.pcs, elAt, setEl, inAt, elIn, setIn, isLst, cellsOf, Ex.ok, Ex.val, Opd.val, POp.dst, bin_int, binOK_int, bin_str, binOK_str, resOK, resV, RB.val, sub, putc, scB, scL, oneB, conf, Ex.val.eqP, Ex.val.eqL, negV, mxV, mnV, ← wr_eq, wr_zero, wr_one, wr_m1, bst_lst, byteC, partsOK, putAll, appV, nilV, slV, sslV, optB, optNum, and_assoc, exists_and_left, exists_eq_left'], by simp, by simp⟩ ?_
  clear hcs
  rintro n V hn ⟨gc, hn1, g4, l, g3, hl, hg⟩
  repeat' (first | intro _ | (simp [sxa, isPtrN, PV.pcs, elAt, setEl, inAt, elIn, setIn, isLst, cellsOf, Ex.ok, Ex.val, Opd.val, POp.dst, bin_int, binOK_int, bin_str, binOK_str, resOK, resV, RB.val, sub, putc, scB, scL, oneB, conf, Ex.val.eqP, Ex.val.eqL, negV, mxV, mnV, ← wr_eq, wr_zero, wr_one, wr_m1, bst_lst, byteC, partsOK, putAll, appV, nilV, slV, sslV, optB, optNum, and_assoc, exists_and_left, exists_eq_left', *]) | refine ⟨by assumption, CopC_i (f28 6 (by omega)) (fun _ _ => by first | exact ⟨fun _ => rfl, (fun h => by cases h)⟩ | exact ⟨(fun h => by cases h), fun _ => ⟨_, rfl⟩⟩ | exact ⟨(fun h => by cases h), (fun h => by cases h)⟩) (fun x cs hx hcs => ?_)⟩ | refine CopC_i (f28 6 (by omega)) (fun _ _ => by first | exact ⟨fun _ => rfl, (fun h => by cases h)⟩ | exact ⟨(fun h => by cases h), fun _ => ⟨_, rfl⟩⟩ | exact ⟨(fun h => by cases h), (fun h => by cases h)⟩) (fun x cs hx hcs => ?_) | refine CondS_d (fun h => ?_) (fun h => ?_) | refine CondS_b (fun h => ?_) (fun h => ?_) | refine GrdS_d (fun h => ?_) (fun h => ?_) | refine GrdS_b (fun h => ?_) (fun h => ?_) | refine OkS_i (by omega) ?_ | fail)
  · have hx5 := hx.2 (by omega)
    have hx0 := hx.1
    have hw : wr .i64 (1 + x) = 1 + x := wr_in (by omega) (by omega)
    rw [hw] at h
    refine CopC_i (f41 n) (fun _ _ => ⟨(fun h => by cases h), (fun h => by cases h)⟩) (fun e cs2 he hcs2 => ?_)
    have hp := f40 l e false (by omega) (fun x hx => (hg x hx).ok) he.ok (fun x hx => by have := (hg x hx).1.2; omega) (by have := he.1.2; omega)
    obtain ⟨q1, q2⟩ := putL_good hg he
    obtain ⟨L2, hL2⟩ : ∃ L, putL l e = L := ⟨_, rfl⟩
    obtain ⟨bb, hbb⟩ : ∃ b, wSrc (pfS l e) = b := ⟨_, rfl⟩
    rw [hL2, hbb] at hp
    rw [hL2] at q1 q2
    have hw2 : wr .i64 ((n : Int) + 1) = ((n + 1 : Nat) : Int) := by rw [wr_in (by omega) (by omega)]; omega
    clear hL2 hbb hg hcs gc
    repeat' (first | intro _ | (simp [sxa, isPtrN, PV.pcs, elAt, setEl, inAt, elIn, setIn, isLst, cellsOf, Ex.ok, Ex.val, Opd.val, POp.dst, bin_int, binOK_int, bin_str, binOK_str, resOK, resV, RB.val, sub, putc, scB, scL, oneB, conf, Ex.val.eqP, Ex.val.eqL, negV, mxV, mnV, ← wr_eq, wr_zero, wr_one, wr_m1, bst_lst, byteC, partsOK, putAll, appV, nilV, slV, sslV, optB, optNum, and_assoc, exists_and_left, exists_eq_left', *]) | refine CallS_i (hp) ?_ | refine CallM_i (hp) ?_ | refine CallE_i (hp) ?_ | refine CallX_i (hp) ?_ | refine CallB_i (hp) ?_ | refine CondS_d (fun h => ?_) (fun h => ?_) | refine CondS_b (fun h => ?_) (fun h => ?_) | refine GrdS_d (fun h => ?_) (fun h => ?_) | refine GrdS_b (fun h => ?_) (fun h => ?_) | refine OkS_i (by omega) ?_ | fail)
    exact ⟨by omega, L2, rfl, by omega, q2⟩
  · exact ⟨l, rfl, by omega, hg⟩
def szQ (l : List Pt) : Prop := 0 < l.length ∧ l.length ≤ 20
theorem f30 : FnR Tryz.prog 30 true true [] (fun v => ∃ l : List Pt, v = .lst 2 false (l.map cp) ∧ szQ l) := by
  refine FnR.by_sxC hX (by kernel_rfl) c30 rfl rfl rfl (fun h => by cases h) ?_
  intro cs hcs
  simp [i30, sxa, isPtrN, PV.pcs, elAt, setEl, inAt, elIn, setIn, isLst, cellsOf, Ex.ok, Ex.val, Opd.val, POp.dst, bin_int, binOK_int, bin_str, binOK_str, resOK, resV, RB.val, sub, putc, scB, scL, oneB, conf, Ex.val.eqP, Ex.val.eqL, negV, mxV, mnV, ← wr_eq, wr_zero, wr_one, wr_m1, bst_lst, byteC, partsOK, putAll, appV, nilV, slV, sslV, optB, optNum, and_assoc, exists_and_left, exists_eq_left']
  repeat' (first | intro _ | (simp [sxa, isPtrN, PV.pcs, elAt, setEl, inAt, elIn, setIn, isLst, cellsOf, Ex.ok, Ex.val, Opd.val, POp.dst, bin_int, binOK_int, bin_str, binOK_str, resOK, resV, RB.val, sub, putc, scB, scL, oneB, conf, Ex.val.eqP, Ex.val.eqL, negV, mxV, mnV, ← wr_eq, wr_zero, wr_one, wr_m1, bst_lst, byteC, partsOK, putAll, appV, nilV, slV, sslV, optB, optNum, and_assoc, exists_and_left, exists_eq_left', *]) | refine ⟨by assumption, CopC_i (f43) (fun _ _ => by first | exact ⟨fun _ => rfl, (fun h => by cases h)⟩ | exact ⟨(fun h => by cases h), fun _ => ⟨_, rfl⟩⟩ | exact ⟨(fun h => by cases h), (fun h => by cases h)⟩) (fun x cs hx hcs => ?_)⟩ | refine CopC_i (f43) (fun _ _ => by first | exact ⟨fun _ => rfl, (fun h => by cases h)⟩ | exact ⟨(fun h => by cases h), fun _ => ⟨_, rfl⟩⟩ | exact ⟨(fun h => by cases h), (fun h => by cases h)⟩) (fun x cs hx hcs => ?_) | refine CondS_d (fun h => ?_) (fun h => ?_) | refine CondS_b (fun h => ?_) (fun h => ?_) | refine GrdS_d (fun h => ?_) (fun h => ?_) | refine GrdS_b (fun h => ?_) (fun h => ?_) | refine OkS_i (by omega) ?_ | fail)
  obtain ⟨l, hl⟩ : ∃ l, l = x := ⟨_, rfl⟩
  subst hl
  obtain ⟨hl0, hl6⟩ := hx
  have hw2 : wr .i64 ((l.length : Int) - 1) = ((l.length - 1 : Nat) : Int) := by rw [wr_in (by omega) (by omega)]; omega
  have hlast : l.length - 1 < l.length := by omega
  have hl1 : (1 : Int) ≤ l.length := by omega
  repeat' (first | intro _ | (simp [sxa, isPtrN, PV.pcs, elAt, setEl, inAt, elIn, setIn, isLst, cellsOf, Ex.ok, Ex.val, Opd.val, POp.dst, bin_int, binOK_int, bin_str, binOK_str, resOK, resV, RB.val, sub, putc, scB, scL, oneB, conf, Ex.val.eqP, Ex.val.eqL, negV, mxV, mnV, ← wr_eq, wr_zero, wr_one, wr_m1, bst_lst, byteC, partsOK, putAll, appV, nilV, slV, sslV, optB, optNum, and_assoc, exists_and_left, exists_eq_left', cp, *]) | refine ⟨by assumption, CopC_i (f28 12 (by omega)) (fun _ _ => by first | exact ⟨fun _ => rfl, (fun h => by cases h)⟩ | exact ⟨(fun h => by cases h), fun _ => ⟨_, rfl⟩⟩ | exact ⟨(fun h => by cases h), (fun h => by cases h)⟩) (fun x cs hx hcs => ?_)⟩ | refine ⟨by assumption, CopC_i (f44) (fun _ _ => by first | exact ⟨fun _ => rfl, (fun h => by cases h)⟩ | exact ⟨(fun h => by cases h), fun _ => ⟨_, rfl⟩⟩ | exact ⟨(fun h => by cases h), (fun h => by cases h)⟩) (fun x cs hx hcs => ?_)⟩ | refine CopC_i (f28 12 (by omega)) (fun _ _ => by first | exact ⟨fun _ => rfl, (fun h => by cases h)⟩ | exact ⟨(fun h => by cases h), fun _ => ⟨_, rfl⟩⟩ | exact ⟨(fun h => by cases h), (fun h => by cases h)⟩) (fun x cs hx hcs => ?_) | refine CopC_i (f44) (fun _ _ => by first | exact ⟨fun _ => rfl, (fun h => by cases h)⟩ | exact ⟨(fun h => by cases h), fun _ => ⟨_, rfl⟩⟩ | exact ⟨(fun h => by cases h), (fun h => by cases h)⟩) (fun x cs hx hcs => ?_) | refine CondS_d (fun h => ?_) (fun h => ?_) | refine CondS_b (fun h => ?_) (fun h => ?_) | refine GrdS_d (fun h => ?_) (fun h => ?_) | refine GrdS_b (fun h => ?_) (fun h => ?_) | refine OkS_i (by omega) ?_ | fail)
  · exact ⟨l.set 0 x, by rw [List.map_set]; rfl, by simp [szQ]; omega⟩
  · exact ⟨_, mapApp, by simp [szQ]; omega⟩
  · exact ⟨l.take 1, by rw [List.map_take], by simp [szQ]; omega⟩
  · refine sx_count 11 (fun n V => isCur (V 0) = true ∧ ∃ m : List Pt, m.length = n ∧ 0 < n ∧ V 3 = .lst 2 false (m.map cp)) l.length (by omega) ⟨by simp [sxa, isPtrN, PV.pcs, elAt, setEl, inAt, elIn, setIn, isLst, cellsOf, Ex.ok, Ex.val, Opd.val, POp.dst, bin_int, binOK_int, bin_str, binOK_str, resOK, resV, RB.val, sub, putc, scB, scL, oneB, conf, Ex.val.eqP, Ex.val.eqL, negV, mxV, mnV, ← wr_eq, wr_zero, wr_one, wr_m1, bst_lst, byteC, partsOK, putAll, appV, nilV, slV, sslV, optB, optNum, and_assoc, exists_and_left, exists_eq_left', hcs], l, rfl, hl0, by simp [sxa, isPtrN, PV.pcs, elAt, setEl, inAt, elIn, setIn, isLst, cellsOf, Ex.ok, Ex.val, Opd.val, POp.dst, bin_int, binOK_int, bin_str, binOK_str, resOK, resV, RB.val, sub, putc, scB, scL, oneB, conf, Ex.val.eqP, Ex.val.eqL, negV, mxV, mnV, ← wr_eq, wr_zero, wr_one, wr_m1, bst_lst, byteC, partsOK, putAll, appV, nilV, slV, sslV, optB, optNum, and_assoc, exists_and_left, exists_eq_left']⟩ ?_
    clear hcs hw2 hlast hl1
    rintro n V hn ⟨gc, m, hm, hn0, g3⟩
    subst hm
    have hw3 : wr .i64 (50 + (m.length : Int)) = 50 + m.length := wr_in (by omega) (by omega)
    repeat' (first | intro _ | (simp [sxa, isPtrN, PV.pcs, elAt, setEl, inAt, elIn, setIn, isLst, cellsOf, Ex.ok, Ex.val, Opd.val, POp.dst, bin_int, binOK_int, bin_str, binOK_str, resOK, resV, RB.val, sub, putc, scB, scL, oneB, conf, Ex.val.eqP, Ex.val.eqL, negV, mxV, mnV, ← wr_eq, wr_zero, wr_one, wr_m1, bst_lst, byteC, partsOK, putAll, appV, nilV, slV, sslV, optB, optNum, and_assoc, exists_and_left, exists_eq_left', *]) | refine CondS_d (fun h => ?_) (fun h => ?_) | refine CondS_b (fun h => ?_) (fun h => ?_) | refine GrdS_d (fun h => ?_) (fun h => ?_) | refine GrdS_b (fun h => ?_) (fun h => ?_) | refine OkS_i (by omega) ?_ | fail)
    · first | exact ⟨by omega, _, by simp, by omega, mapApp⟩ | exact ⟨by omega, _, by simp, mapApp⟩
    · first | exact ⟨m, rfl, hn0, by omega⟩ | exact ⟨m, rfl, by unfold szQ; omega⟩
  · exact ⟨l, rfl, by unfold szQ; omega⟩
theorem getL {l : List Ft} {k : Nat} (h : k < l.length) : (l.map ft)[k]? = some (ft l[k]) := by simp [h]
theorem goodL_set {l : List Ft} (hg : goodL l) {k : Nat} {x : Ft} (hx : goodF x) : goodL (l.set k x) :=
  ⟨by rw [List.length_set]; exact hg.1, fun y hy => by
    rcases List.mem_or_eq_of_mem_set hy with h | rfl
    · exact hg.2 y h
    · exact hx⟩
theorem setEx {l : List Ft} {k : Nat} {a b c : Int} {s : ByteArray} {m : List Pt} {nl : Bool} (hg : goodL l) (hs : s.size ≤ 9) (hm : m.length ≤ 20) (hnl : nl = false) : ∃ l' : List Ft, (l.map ft).set k [i a, i b, i c, .str s, .lst 2 nl (m.map cp)] = l'.map ft ∧ goodL l' :=
  ⟨l.set k ⟨a, b, c, s, m, nl⟩, by rw [List.map_set]; rfl, goodL_set hg ⟨⟨hs, hm⟩, hnl⟩⟩
theorem f15 : FnR Tryz.prog 15 true true [] (fun v => ∃ l : List Ft, v = .lst 5 false (l.map ft) ∧ goodL l) := by
  refine FnR.by_sxC hX (by kernel_rfl) c15 rfl rfl rfl (fun h => by cases h) ?_
  intro cs hcs
  simp [i15, sxa, isPtrN, PV.pcs, elAt, setEl, inAt, elIn, setIn, isLst, cellsOf, Ex.ok, Ex.val, Opd.val, POp.dst, bin_int, binOK_int, bin_str, binOK_str, resOK, resV, RB.val, sub, putc, scB, scL, oneB, conf, Ex.val.eqP, Ex.val.eqL, negV, mxV, mnV, ← wr_eq, wr_zero, wr_one, wr_m1, bst_lst, byteC, partsOK, putAll, appV, nilV, slV, sslV, optB, optNum, and_assoc, exists_and_left, exists_eq_left']
  repeat' (first | intro _ | (simp [sxa, isPtrN, PV.pcs, elAt, setEl, inAt, elIn, setIn, isLst, cellsOf, Ex.ok, Ex.val, Opd.val, POp.dst, bin_int, binOK_int, bin_str, binOK_str, resOK, resV, RB.val, sub, putc, scB, scL, oneB, conf, Ex.val.eqP, Ex.val.eqL, negV, mxV, mnV, ← wr_eq, wr_zero, wr_one, wr_m1, bst_lst, byteC, partsOK, putAll, appV, nilV, slV, sslV, optB, optNum, and_assoc, exists_and_left, exists_eq_left', *]) | refine ⟨by assumption, CopC_i (f26) (fun _ _ => by first | exact ⟨fun _ => rfl, (fun h => by cases h)⟩ | exact ⟨(fun h => by cases h), fun _ => ⟨_, rfl⟩⟩ | exact ⟨(fun h => by cases h), (fun h => by cases h)⟩) (fun x cs hx hcs => ?_)⟩ | refine CopC_i (f26) (fun _ _ => by first | exact ⟨fun _ => rfl, (fun h => by cases h)⟩ | exact ⟨(fun h => by cases h), fun _ => ⟨_, rfl⟩⟩ | exact ⟨(fun h => by cases h), (fun h => by cases h)⟩) (fun x cs hx hcs => ?_) | refine CondS_d (fun h => ?_) (fun h => ?_) | refine CondS_b (fun h => ?_) (fun h => ?_) | refine GrdS_d (fun h => ?_) (fun h => ?_) | refine GrdS_b (fun h => ?_) (fun h => ?_) | refine OkS_i (by omega) ?_ | fail)
  · exact ⟨by simp, by simp⟩
  obtain ⟨l, hl⟩ : ∃ l, l = x := ⟨_, rfl⟩
  subst hl
  have hgl := hx
  have hpos : 0 < l.length := List.length_pos_iff.2 (by assumption)
  have hl16 := hx.1
  refine CopC_i (f28 (l.length : Int) (by omega)) (fun _ _ => ⟨fun _ => rfl, (fun h => by cases h)⟩) (fun z cs3 hz hcs3 => ?_)
  have hz1 := hz.2 (by omega)
  have hz0 := hz.1
  obtain ⟨k, rfl⟩ : ∃ k : Nat, z = k := ⟨z.toNat, by omega⟩
  have hk : k < l.length := by omega
  have hkI : (k : Int) < l.length := hz1
  have hk0 : (0 : Int) ≤ k := hz0
  have hc0 : FnR Tryz.prog 14 true false [.lst 1 false [[i 0], [i 1], [i 99], [i 100]]] (fun v => ∃ x : Int, v = i x ∧ rawP x) := (f14 [0, 1, 99, 100] false (by decide) (by decide)).weak (fun v ⟨x, h, _⟩ => ⟨x, h, trivial⟩)
  have hc1 : FnR Tryz.prog 14 true false [.lst 1 false [[i (-1)], [i 9], [i 10]]] (fun v => ∃ x : Int, v = i x ∧ rawP x) := (f14 [-1, 9, 10] false (by decide) (by decide)).weak (fun v ⟨x, h, _⟩ => ⟨x, h, trivial⟩)
  have hc3 : FnR Tryz.prog 14 true false [.lst 1 false [[i 0], [i 1], [i 2], [i 3], [i 4]]] (fun v => ∃ x : Int, v = i x ∧ rawP x) := (f14 [0, 1, 2, 3, 4] false (by decide) (by decide)).weak (fun v ⟨x, h, _⟩ => ⟨x, h, trivial⟩)
  have hc2 : FnR Tryz.prog 29 true false [.lst 1 false [[.str (bs [65])], [.str (bs [116, 111, 111, 108, 111, 110, 103, 97, 97])], [.str (bs [97, 32, 98])]]] (fun v => ∃ x : ByteArray, v = .str x ∧ smS x) :=
    (f29 [bs [65], bs [116, 111, 111, 108, 111, 110, 103, 97, 97], bs [97, 32, 98]] false (by decide) (by decide)).weak (fun v ⟨x, h, hh⟩ => ⟨x, h, by
      simp only [List.mem_cons, List.not_mem_nil, or_false] at hh
      rcases hh with rfl | rfl | rfl <;> (unfold smS; decide)⟩)
  have hgk := hx.2 _ (List.getElem_mem hk)
  have hat : (l.map ft)[k]? = some [i l[k].f0, i l[k].f1, i l[k].f2, .str l[k].f3, .lst 2 l[k].nl (l[k].f4.map cp)] := getL hk
  repeat' (first | intro _ | (simp [sxa, isPtrN, PV.pcs, elAt, setEl, inAt, elIn, setIn, isLst, cellsOf, Ex.ok, Ex.val, Opd.val, POp.dst, bin_int, binOK_int, bin_str, binOK_str, resOK, resV, RB.val, sub, putc, scB, scL, oneB, conf, Ex.val.eqP, Ex.val.eqL, negV, mxV, mnV, ← wr_eq, wr_zero, wr_one, wr_m1, bst_lst, byteC, partsOK, putAll, appV, nilV, slV, sslV, optB, optNum, and_assoc, exists_and_left, exists_eq_left', ft, *]) | refine ⟨by assumption, CopC_i (f28 10 (by omega)) (fun _ _ => by first | exact ⟨fun _ => rfl, (fun h => by cases h)⟩ | exact ⟨(fun h => by cases h), fun _ => ⟨_, rfl⟩⟩ | exact ⟨(fun h => by cases h), (fun h => by cases h)⟩) (fun x cs hx hcs => ?_)⟩ | refine ⟨by assumption, CopC_i (hc0) (fun _ _ => by first | exact ⟨fun _ => rfl, (fun h => by cases h)⟩ | exact ⟨(fun h => by cases h), fun _ => ⟨_, rfl⟩⟩ | exact ⟨(fun h => by cases h), (fun h => by cases h)⟩) (fun x cs hx hcs => ?_)⟩ | refine ⟨by assumption, CopC_i (hc1) (fun _ _ => by first | exact ⟨fun _ => rfl, (fun h => by cases h)⟩ | exact ⟨(fun h => by cases h), fun _ => ⟨_, rfl⟩⟩ | exact ⟨(fun h => by cases h), (fun h => by cases h)⟩) (fun x cs hx hcs => ?_)⟩ | refine ⟨by assumption, CopC_i (hc2) (fun _ _ => by first | exact ⟨fun _ => rfl, (fun h => by cases h)⟩ | exact ⟨(fun h => by cases h), fun _ => ⟨_, rfl⟩⟩ | exact ⟨(fun h => by cases h), (fun h => by cases h)⟩) (fun x cs hx hcs => ?_)⟩ | refine ⟨by assumption, CopC_i (hc3) (fun _ _ => by first | exact ⟨fun _ => rfl, (fun h => by cases h)⟩ | exact ⟨(fun h => by cases h), fun _ => ⟨_, rfl⟩⟩ | exact ⟨(fun h => by cases h), (fun h => by cases h)⟩) (fun x cs hx hcs => ?_)⟩ | refine ⟨by assumption, CopC_i (f30) (fun _ _ => by first | exact ⟨fun _ => rfl, (fun h => by cases h)⟩ | exact ⟨(fun h => by cases h), fun _ => ⟨_, rfl⟩⟩ | exact ⟨(fun h => by cases h), (fun h => by cases h)⟩) (fun x cs hx hcs => ?_)⟩ | refine CopC_i (f28 10 (by omega)) (fun _ _ => by first | exact ⟨fun _ => rfl, (fun h => by cases h)⟩ | exact ⟨(fun h => by cases h), fun _ => ⟨_, rfl⟩⟩ | exact ⟨(fun h => by cases h), (fun h => by cases h)⟩) (fun x cs hx hcs => ?_) | refine CopC_i (hc0) (fun _ _ => by first | exact ⟨fun _ => rfl, (fun h => by cases h)⟩ | exact ⟨(fun h => by cases h), fun _ => ⟨_, rfl⟩⟩ | exact ⟨(fun h => by cases h), (fun h => by cases h)⟩) (fun x cs hx hcs => ?_) | refine CopC_i (hc1) (fun _ _ => by first | exact ⟨fun _ => rfl, (fun h => by cases h)⟩ | exact ⟨(fun h => by cases h), fun _ => ⟨_, rfl⟩⟩ | exact ⟨(fun h => by cases h), (fun h => by cases h)⟩) (fun x cs hx hcs => ?_) | refine CopC_i (hc2) (fun _ _ => by first | exact ⟨fun _ => rfl, (fun h => by cases h)⟩ | exact ⟨(fun h => by cases h), fun _ => ⟨_, rfl⟩⟩ | exact ⟨(fun h => by cases h), (fun h => by cases h)⟩) (fun x cs hx hcs => ?_) | refine CopC_i (hc3) (fun _ _ => by first | exact ⟨fun _ => rfl, (fun h => by cases h)⟩ | exact ⟨(fun h => by cases h), fun _ => ⟨_, rfl⟩⟩ | exact ⟨(fun h => by cases h), (fun h => by cases h)⟩) (fun x cs hx hcs => ?_) | refine CopC_i (f30) (fun _ _ => by first | exact ⟨fun _ => rfl, (fun h => by cases h)⟩ | exact ⟨(fun h => by cases h), fun _ => ⟨_, rfl⟩⟩ | exact ⟨(fun h => by cases h), (fun h => by cases h)⟩) (fun x cs hx hcs => ?_) | refine CondS_d (fun h => ?_) (fun h => ?_) | refine CondS_b (fun h => ?_) (fun h => ?_) | refine GrdS_d (fun h => ?_) (fun h => ?_) | refine GrdS_b (fun h => ?_) (fun h => ?_) | refine OkS_i (by omega) ?_ | fail)
  · exact setEx hgl hgk.1.1 hgk.1.2 hgk.2
  · exact setEx hgl hgk.1.1 hgk.1.2 hgk.2
  · exact setEx hgl hx hgk.1.2 hgk.2
  · exact setEx hgl hgk.1.1 hgk.1.2 hgk.2
  · exact setEx hgl hgk.1.1 hx.2 rfl
  · exact ⟨l, rfl, hgl⟩
end Go.Eng
namespace Go.Eng
open Go Go.Proofs Geo
set_option linter.unusedSimpArgs false
set_option linter.unusedVariables false
set_option maxRecDepth 20000
set_option maxHeartbeats 1000000

/-! digests -/
def iv (m : Int) : List PV := [i m]
def md (n : Int) : Int := (n.tmod 2147483647 + 2147483647) % 2147483647
def stepD (d v : Int) : Int := (d * 1000003 + md v + 13) % 2147483647
def hTo (l : List Int) : Nat → Int
  | 0 => 11
  | n + 1 => stepD (hTo l n) (l.getD n 0)
def hsh (l : List Int) : Int := hTo l l.length
theorem tm_lt (n : Int) : -2147483647 < n.tmod 2147483647 ∧ n.tmod 2147483647 < 2147483647 := by
  have h := Int.tmod_lt_of_pos n (b := 2147483647) (by decide)
  have h2 := Int.tmod_lt_of_pos (-n) (b := 2147483647) (by decide)
  rw [Int.neg_tmod] at h2
  omega
theorem tm_pos {n : Int} (h : 0 ≤ n) : n.tmod 2147483647 = n % 2147483647 := Int.tmod_eq_emod_of_nonneg h
theorem md_lt (n : Int) : 0 ≤ md n ∧ md n < 2147483647 := by unfold md; omega
theorem stepD_lt (d v : Int) : 0 ≤ stepD d v ∧ stepD d v < 2147483647 := by unfold stepD; omega
theorem hTo_lt (l : List Int) (n : Nat) : 0 ≤ hTo l n ∧ hTo l n < 2147483647 := by
  cases n with
  | zero => simp [hTo]
  | succ n => unfold hTo; exact stepD_lt _ _
theorem f79 (n : Int) : Fn Tryz.prog 79 false [i n, i 2147483647] (i (md n)) := by
  have hb := tm_lt n
  have hm : md n = (n.tmod 2147483647 + 2147483647).tmod 2147483647 := by rw [tm_pos (by omega)]; rfl
  have hw : wr .i64 (n.tmod 2147483647 + 2147483647) = n.tmod 2147483647 + 2147483647 := wr_in (by omega) (by omega)
  have hi : inR 2147483647 1 1000000000000 = true := by decide
  have hc := f59 2147483647 1 1000000000000
  rw [hi] at hc
  refine Fn.by_sx hX (by kernel_rfl) c79 (by kernel_rfl) (by rfl) ?_
  simp [i79, sxa, isPtrN, PV.pcs, elAt, setEl, inAt, elIn, setIn, isLst, cellsOf, Ex.ok, Ex.val, Opd.val, POp.dst, bin_int, binOK_int, bin_str, binOK_str, resOK, resV, RB.val, sub, putc, scB, scL, oneB, conf, Ex.val.eqP, Ex.val.eqL, negV, mxV, mnV, ← wr_eq, wr_zero, wr_one, wr_m1, bst_lst, byteC, partsOK, putAll, appV, nilV, slV, sslV, optB, optNum, and_assoc, exists_and_left, exists_eq_left']
  repeat' (first | intro _ | (simp [sxa, isPtrN, PV.pcs, elAt, setEl, inAt, elIn, setIn, isLst, cellsOf, Ex.ok, Ex.val, Opd.val, POp.dst, bin_int, binOK_int, bin_str, binOK_str, resOK, resV, RB.val, sub, putc, scB, scL, oneB, conf, Ex.val.eqP, Ex.val.eqL, negV, mxV, mnV, ← wr_eq, wr_zero, wr_one, wr_m1, bst_lst, byteC, partsOK, putAll, appV, nilV, slV, sslV, optB, optNum, and_assoc, exists_and_left, exists_eq_left', *]) | refine CallS_i (hc) ?_ | refine CondS_d (fun h => ?_) (fun h => ?_) | refine CondS_b (fun h => ?_) (fun h => ?_) | refine GrdS_d (fun h => ?_) (fun h => ?_) | refine GrdS_b (fun h => ?_) (fun h => ?_) | refine OkS_i (by omega) ?_ | fail)
theorem f66 (n : Int) : Fn Tryz.prog 66 false [i n, i 2147483647] (i (md n)) := by
  have hb := tm_lt n
  obtain ⟨r, hr⟩ : ∃ r, n.tmod 2147483647 = r := ⟨_, rfl⟩
  rw [hr] at hb
  have hm : md n = if r < 0 then r + 2147483647 else r := by unfold md; rw [hr]; split <;> omega
  have hw : wr .i64 (r + 2147483647) = r + 2147483647 := wr_in (by omega) (by omega)
  have hi : inR 2147483647 1 1000000000000 = true := by decide
  have hc := f19 2147483647 1 1000000000000
  rw [hi] at hc
  refine Fn.by_sx hX (by kernel_rfl) c66 (by kernel_rfl) (by rfl) ?_
  simp [i66, sxa, isPtrN, PV.pcs, elAt, setEl, inAt, elIn, setIn, isLst, cellsOf, Ex.ok, Ex.val, Opd.val, POp.dst, bin_int, binOK_int, bin_str, binOK_str, resOK, resV, RB.val, sub, putc, scB, scL, oneB, conf, Ex.val.eqP, Ex.val.eqL, negV, mxV, mnV, ← wr_eq, wr_zero, wr_one, wr_m1, bst_lst, byteC, partsOK, putAll, appV, nilV, slV, sslV, optB, optNum, and_assoc, exists_and_left, exists_eq_left']
  repeat' (first | intro _ | (simp [sxa, isPtrN, PV.pcs, elAt, setEl, inAt, elIn, setIn, isLst, cellsOf, Ex.ok, Ex.val, Opd.val, POp.dst, bin_int, binOK_int, bin_str, binOK_str, resOK, resV, RB.val, sub, putc, scB, scL, oneB, conf, Ex.val.eqP, Ex.val.eqL, negV, mxV, mnV, ← wr_eq, wr_zero, wr_one, wr_m1, bst_lst, byteC, partsOK, putAll, appV, nilV, slV, sslV, optB, optNum, and_assoc, exists_and_left, exists_eq_left', *]) | refine CallS_i (hc) ?_ | refine CondS_d (fun h => ?_) (fun h => ?_) | refine CondS_b (fun h => ?_) (fun h => ?_) | refine GrdS_d (fun h => ?_) (fun h => ?_) | refine GrdS_b (fun h => ?_) (fun h => ?_) | refine OkS_i (by omega) ?_ | fail)
theorem mulw {d : Int} (h : 0 ≤ d ∧ d < 2147483647) : wr .i64 (d * 1000003) = d * 1000003 := wr_in (by omega) (by omega)
theorem f46 (d v : Int) (hd : 0 ≤ d ∧ d < 2147483647) : Fn Tryz.prog 46 false [i d, i v] (i (stepD d v)) := by
  have hb := md_lt v
  have hc := f66 v
  have hs : stepD d v = (d * 1000003 + md v + 13).tmod 2147483647 := by rw [tm_pos (by omega)]; rfl
  obtain ⟨q, hq⟩ : ∃ q, md v = q := ⟨_, rfl⟩
  rw [hq] at hc hb hs
  obtain ⟨p, hp⟩ : ∃ p, d * 1000003 = p := ⟨_, rfl⟩
  have w1 : wr .i64 p = p := by rw [← hp]; exact mulw hd
  have hpb : 0 ≤ p ∧ p < 2147483647 * 1000003 := by omega
  have w2 : wr .i64 (p + q) = p + q := wr_in (by omega) (by omega)
  have w3 : wr .i64 (p + q + 13) = p + q + 13 := wr_in (by omega) (by omega)
  rw [hp] at hs
  clear hq
  refine Fn.by_sx hX (by kernel_rfl) c46 (by kernel_rfl) (by rfl) ?_
  simp [i46, sxa, isPtrN, PV.pcs, elAt, setEl, inAt, elIn, setIn, isLst, cellsOf, Ex.ok, Ex.val, Opd.val, POp.dst, bin_int, binOK_int, bin_str, binOK_str, resOK, resV, RB.val, sub, putc, scB, scL, oneB, conf, Ex.val.eqP, Ex.val.eqL, negV, mxV, mnV, ← wr_eq, wr_zero, wr_one, wr_m1, bst_lst, byteC, partsOK, putAll, appV, nilV, slV, sslV, optB, optNum, and_assoc, exists_and_left, exists_eq_left']
  repeat' (first | intro _ | (simp [sxa, isPtrN, PV.pcs, elAt, setEl, inAt, elIn, setIn, isLst, cellsOf, Ex.ok, Ex.val, Opd.val, POp.dst, bin_int, binOK_int, bin_str, binOK_str, resOK, resV, RB.val, sub, putc, scB, scL, oneB, conf, Ex.val.eqP, Ex.val.eqL, negV, mxV, mnV, ← wr_eq, wr_zero, wr_one, wr_m1, bst_lst, byteC, partsOK, putAll, appV, nilV, slV, sslV, optB, optNum, and_assoc, exists_and_left, exists_eq_left', *]) | refine CallS_i (hc) ?_ | refine CondS_d (fun h => ?_) (fun h => ?_) | refine CondS_b (fun h => ?_) (fun h => ?_) | refine GrdS_d (fun h => ?_) (fun h => ?_) | refine GrdS_b (fun h => ?_) (fun h => ?_) | refine OkS_i (by omega) ?_ | fail)
theorem f32 (l : List Int) (nl : Bool) (hl : l.length ≤ 1000000000000) : Fn Tryz.prog 32 false [.lst 1 nl (l.map iv)] (i (hsh l)) := by
  refine Fn.by_sx hX (by kernel_rfl) c32 (by kernel_rfl) (by rfl) ?_
  simp [i32, sxa, isPtrN, PV.pcs, elAt, setEl, inAt, elIn, setIn, isLst, cellsOf, Ex.ok, Ex.val, Opd.val, POp.dst, bin_int, binOK_int, bin_str, binOK_str, resOK, resV, RB.val, sub, putc, scB, scL, oneB, conf, Ex.val.eqP, Ex.val.eqL, negV, mxV, mnV, ← wr_eq, wr_zero, wr_one, wr_m1, bst_lst, byteC, partsOK, putAll, appV, nilV, slV, sslV, optB, optNum, and_assoc, exists_and_left, exists_eq_left']
  refine sx_count l.length (fun n V => V 6 = .lst 1 nl (l.map iv) ∧ V 7 = i l.length ∧ V 8 = i n ∧ V 3 = i (hTo l n)) 0 (by omega) (by simp [sxa, isPtrN, PV.pcs, elAt, setEl, inAt, elIn, setIn, isLst, cellsOf, Ex.ok, Ex.val, Opd.val, POp.dst, bin_int, binOK_int, bin_str, binOK_str, resOK, resV, RB.val, sub, putc, scB, scL, oneB, conf, Ex.val.eqP, Ex.val.eqL, negV, mxV, mnV, ← wr_eq, wr_zero, wr_one, wr_m1, bst_lst, byteC, partsOK, putAll, appV, nilV, slV, sslV, optB, optNum, and_assoc, exists_and_left, exists_eq_left', hTo]) ?_
  rintro n V hn ⟨h6, h7, h8, h3⟩
  have hw : wr .i64 ((n : Int) + 1) = n + 1 := wr_in (by omega) (by omega)
  simp [sxa, isPtrN, PV.pcs, elAt, setEl, inAt, elIn, setIn, isLst, cellsOf, Ex.ok, Ex.val, Opd.val, POp.dst, bin_int, binOK_int, bin_str, binOK_str, resOK, resV, RB.val, sub, putc, scB, scL, oneB, conf, Ex.val.eqP, Ex.val.eqL, negV, mxV, mnV, ← wr_eq, wr_zero, wr_one, wr_m1, bst_lst, byteC, partsOK, putAll, appV, nilV, slV, sslV, optB, optNum, and_assoc, exists_and_left, exists_eq_left', h7, h8]
  refine CondS_d (fun hlt => ?_) (fun hge => ?_)
  · have hlt' : n < l.length := by omega
    have hc := f46 (hTo l n) l[n] (hTo_lt l n)
    have hs : hTo l (n + 1) = stepD (hTo l n) l[n] := by simp [hTo, hlt']
    repeat' (first | intro _ | (simp [sxa, isPtrN, PV.pcs, elAt, setEl, inAt, elIn, setIn, isLst, cellsOf, Ex.ok, Ex.val, Opd.val, POp.dst, bin_int, binOK_int, bin_str, binOK_str, resOK, resV, RB.val, sub, putc, scB, scL, oneB, conf, Ex.val.eqP, Ex.val.eqL, negV, mxV, mnV, ← wr_eq, wr_zero, wr_one, wr_m1, bst_lst, byteC, partsOK, putAll, appV, nilV, slV, sslV, optB, optNum, and_assoc, exists_and_left, exists_eq_left', iv, *]) | refine CallS_i (hc) ?_ | refine CondS_d (fun h => ?_) (fun h => ?_) | refine CondS_b (fun h => ?_) (fun h => ?_) | refine GrdS_d (fun h => ?_) (fun h => ?_) | refine GrdS_b (fun h => ?_) (fun h => ?_) | refine OkS_i (by omega) ?_ | fail)
  · have : n = l.length := by omega
    subst this
    have hh : hTo l l.length = hsh l := rfl
    repeat' (first | intro _ | (simp [sxa, isPtrN, PV.pcs, elAt, setEl, inAt, elIn, setIn, isLst, cellsOf, Ex.ok, Ex.val, Opd.val, POp.dst, bin_int, binOK_int, bin_str, binOK_str, resOK, resV, RB.val, sub, putc, scB, scL, oneB, conf, Ex.val.eqP, Ex.val.eqL, negV, mxV, mnV, ← wr_eq, wr_zero, wr_one, wr_m1, bst_lst, byteC, partsOK, putAll, appV, nilV, slV, sslV, optB, optNum, and_assoc, exists_and_left, exists_eq_left', *]) | refine CondS_d (fun h => ?_) (fun h => ?_) | refine CondS_b (fun h => ?_) (fun h => ?_) | refine GrdS_d (fun h => ?_) (fun h => ?_) | refine GrdS_b (fun h => ?_) (fun h => ?_) | refine OkS_i (by omega) ?_ | fail)
theorem f58 (l : List Int) (nl : Bool) (hl : l.length ≤ 1000000000000) : Fn Tryz.prog 58 false [.lst 1 nl (l.map iv)] (i (hsh l)) := by
  refine Fn.by_sx hX (by kernel_rfl) c58 (by kernel_rfl) (by rfl) ?_
  simp [i58, sxa, isPtrN, PV.pcs, elAt, setEl, inAt, elIn, setIn, isLst, cellsOf, Ex.ok, Ex.val, Opd.val, POp.dst, bin_int, binOK_int, bin_str, binOK_str, resOK, resV, RB.val, sub, putc, scB, scL, oneB, conf, Ex.val.eqP, Ex.val.eqL, negV, mxV, mnV, ← wr_eq, wr_zero, wr_one, wr_m1, bst_lst, byteC, partsOK, putAll, appV, nilV, slV, sslV, optB, optNum, and_assoc, exists_and_left, exists_eq_left']
  refine sx_count l.length (fun n V => V 0 = .lst 1 nl (l.map iv) ∧ V 4 = i n ∧ V 3 = i (hTo l n)) 0 (by omega) (by simp [sxa, isPtrN, PV.pcs, elAt, setEl, inAt, elIn, setIn, isLst, cellsOf, Ex.ok, Ex.val, Opd.val, POp.dst, bin_int, binOK_int, bin_str, binOK_str, resOK, resV, RB.val, sub, putc, scB, scL, oneB, conf, Ex.val.eqP, Ex.val.eqL, negV, mxV, mnV, ← wr_eq, wr_zero, wr_one, wr_m1, bst_lst, byteC, partsOK, putAll, appV, nilV, slV, sslV, optB, optNum, and_assoc, exists_and_left, exists_eq_left', hTo]) ?_
  rintro n V hn ⟨h0, h4, h3⟩
  have hw : wr .i64 ((n : Int) + 1) = n + 1 := wr_in (by omega) (by omega)
  simp [sxa, isPtrN, PV.pcs, elAt, setEl, inAt, elIn, setIn, isLst, cellsOf, Ex.ok, Ex.val, Opd.val, POp.dst, bin_int, binOK_int, bin_str, binOK_str, resOK, resV, RB.val, sub, putc, scB, scL, oneB, conf, Ex.val.eqP, Ex.val.eqL, negV, mxV, mnV, ← wr_eq, wr_zero, wr_one, wr_m1, bst_lst, byteC, partsOK, putAll, appV, nilV, slV, sslV, optB, optNum, and_assoc, exists_and_left, exists_eq_left', h0, h4]
  refine CondS_d (fun hlt => ?_) (fun hge => ?_)
  · have hlt' : n < l.length := by omega
    have hc := f79 l[n]
    obtain ⟨v, hv⟩ : ∃ v, l[n] = v := ⟨_, rfl⟩
    have hs : hTo l (n + 1) = stepD (hTo l n) v := by simp [hTo, hlt', hv]
    rw [hv] at hc
    have hd := hTo_lt l n
    have hb := md_lt v
    obtain ⟨d, hde⟩ : ∃ d, hTo l n = d := ⟨_, rfl⟩
    rw [hde] at hs hd h3
    have hs' : stepD d v = (d * 1000003 + md v + 13).tmod 2147483647 := by rw [tm_pos (by omega)]; rfl
    obtain ⟨q, hq⟩ : ∃ q, md v = q := ⟨_, rfl⟩
    obtain ⟨p, hp⟩ : ∃ p, d * 1000003 = p := ⟨_, rfl⟩
    rw [hq] at hc hb hs'
    have w1 : wr .i64 p = p := by rw [← hp]; exact mulw hd
    have w2 : wr .i64 (p + q) = p + q := wr_in (by omega) (by omega)
    have w3 : wr .i64 (p + q + 13) = p + q + 13 := wr_in (by omega) (by omega)
    rw [hp] at hs'
    clear hq hde
    repeat' (first | intro _ | (simp [sxa, isPtrN, PV.pcs, elAt, setEl, inAt, elIn, setIn, isLst, cellsOf, Ex.ok, Ex.val, Opd.val, POp.dst, bin_int, binOK_int, bin_str, binOK_str, resOK, resV, RB.val, sub, putc, scB, scL, oneB, conf, Ex.val.eqP, Ex.val.eqL, negV, mxV, mnV, ← wr_eq, wr_zero, wr_one, wr_m1, bst_lst, byteC, partsOK, putAll, appV, nilV, slV, sslV, optB, optNum, and_assoc, exists_and_left, exists_eq_left', iv, *]) | refine CallS_i (hc) ?_ | refine CondS_d (fun h => ?_) (fun h => ?_) | refine CondS_b (fun h => ?_) (fun h => ?_) | refine GrdS_d (fun h => ?_) (fun h => ?_) | refine GrdS_b (fun h => ?_) (fun h => ?_) | refine OkS_i (by omega) ?_ | fail)
  · have : n = l.length := by omega
    subst this
    have hh : hTo l l.length = hsh l := rfl
    repeat' (first | intro _ | (simp [sxa, isPtrN, PV.pcs, elAt, setEl, inAt, elIn, setIn, isLst, cellsOf, Ex.ok, Ex.val, Opd.val, POp.dst, bin_int, binOK_int, bin_str, binOK_str, resOK, resV, RB.val, sub, putc, scB, scL, oneB, conf, Ex.val.eqP, Ex.val.eqL, negV, mxV, mnV, ← wr_eq, wr_zero, wr_one, wr_m1, bst_lst, byteC, partsOK, putAll, appV, nilV, slV, sslV, optB, optNum, and_assoc, exists_and_left, exists_eq_left', *]) | refine CondS_d (fun h => ?_) (fun h => ?_) | refine CondS_b (fun h => ?_) (fun h => ?_) | refine GrdS_d (fun h => ?_) (fun h => ?_) | refine GrdS_b (fun h => ?_) (fun h => ?_) | refine OkS_i (by omega) ?_ | fail)
def rSegs (l : List Pt) : List Sg := if wRing l = true then upTo (rgAt l) l.length else []
theorem f90 (l : List Pt) (nl : Bool) (hl : l.length ≤ 1000000000000) : Fn Tryz.prog 90 true [.lst 2 nl (l.map cp)] (.lst 4 false ((rSegs l).map cs)) := by
  have h1 := f94 l nl hl
  have h2 := f100 l nl hl
  unfold rSegs
  refine Fn.by_sx hX (by kernel_rfl) c90 (by kernel_rfl) (by rfl) ?_
  simp [i90, sxa, isPtrN, PV.pcs, elAt, setEl, inAt, elIn, setIn, isLst, cellsOf, Ex.ok, Ex.val, Opd.val, POp.dst, bin_int, binOK_int, bin_str, binOK_str, resOK, resV, RB.val, sub, putc, scB, scL, oneB, conf, Ex.val.eqP, Ex.val.eqL, negV, mxV, mnV, ← wr_eq, wr_zero, wr_one, wr_m1, bst_lst, byteC, partsOK, putAll, appV, nilV, slV, sslV, optB, optNum, and_assoc, exists_and_left, exists_eq_left']
  by_cases h : wRing l = true
  · rw [h] at h1
    repeat' (first | intro _ | (simp [sxa, isPtrN, PV.pcs, elAt, setEl, inAt, elIn, setIn, isLst, cellsOf, Ex.ok, Ex.val, Opd.val, POp.dst, bin_int, binOK_int, bin_str, binOK_str, resOK, resV, RB.val, sub, putc, scB, scL, oneB, conf, Ex.val.eqP, Ex.val.eqL, negV, mxV, mnV, ← wr_eq, wr_zero, wr_one, wr_m1, bst_lst, byteC, partsOK, putAll, appV, nilV, slV, sslV, optB, optNum, and_assoc, exists_and_left, exists_eq_left', *]) | refine CallS_i (h1) ?_ | refine CallS_i (h2) ?_ | refine CondS_d (fun h => ?_) (fun h => ?_) | refine CondS_b (fun h => ?_) (fun h => ?_) | refine GrdS_d (fun h => ?_) (fun h => ?_) | refine GrdS_b (fun h => ?_) (fun h => ?_) | refine OkS_i (by omega) ?_ | fail)
  · have h : wRing l = false := by simpa using h
    rw [h] at h1
    repeat' (first | intro _ | (simp [sxa, isPtrN, PV.pcs, elAt, setEl, inAt, elIn, setIn, isLst, cellsOf, Ex.ok, Ex.val, Opd.val, POp.dst, bin_int, binOK_int, bin_str, binOK_str, resOK, resV, RB.val, sub, putc, scB, scL, oneB, conf, Ex.val.eqP, Ex.val.eqL, negV, mxV, mnV, ← wr_eq, wr_zero, wr_one, wr_m1, bst_lst, byteC, partsOK, putAll, appV, nilV, slV, sslV, optB, optNum, and_assoc, exists_and_left, exists_eq_left', *]) | refine CallS_i (h1) ?_ | refine CondS_d (fun h => ?_) (fun h => ?_) | refine CondS_b (fun h => ?_) (fun h => ?_) | refine GrdS_d (fun h => ?_) (fun h => ?_) | refine GrdS_b (fun h => ?_) (fun h => ?_) | refine OkS_i (by omega) ?_ | fail)
theorem f81 (l : List Pt) (nl : Bool) (hl : l.length ≤ 1000000000000) : Fn Tryz.prog 81 true [.lst 2 nl (l.map cp)] (.lst 4 false ((rSegs l).map cs)) := by
  have h1 := f53 l nl hl
  have h2 := f75 l nl hl
  unfold rSegs
  refine Fn.by_sx hX (by kernel_rfl) c81 (by kernel_rfl) (by rfl) ?_
  simp [i81, sxa, isPtrN, PV.pcs, elAt, setEl, inAt, elIn, setIn, isLst, cellsOf, Ex.ok, Ex.val, Opd.val, POp.dst, bin_int, binOK_int, bin_str, binOK_str, resOK, resV, RB.val, sub, putc, scB, scL, oneB, conf, Ex.val.eqP, Ex.val.eqL, negV, mxV, mnV, ← wr_eq, wr_zero, wr_one, wr_m1, bst_lst, byteC, partsOK, putAll, appV, nilV, slV, sslV, optB, optNum, and_assoc, exists_and_left, exists_eq_left']
  by_cases h : wRing l = true
  · rw [h] at h1
    repeat' (first | intro _ | (simp [sxa, isPtrN, PV.pcs, elAt, setEl, inAt, elIn, setIn, isLst, cellsOf, Ex.ok, Ex.val, Opd.val, POp.dst, bin_int, binOK_int, bin_str, binOK_str, resOK, resV, RB.val, sub, putc, scB, scL, oneB, conf, Ex.val.eqP, Ex.val.eqL, negV, mxV, mnV, ← wr_eq, wr_zero, wr_one, wr_m1, bst_lst, byteC, partsOK, putAll, appV, nilV, slV, sslV, optB, optNum, and_assoc, exists_and_left, exists_eq_left', *]) | refine CallS_i (h1) ?_ | refine CallS_i (h2) ?_ | refine CondS_d (fun h => ?_) (fun h => ?_) | refine CondS_b (fun h => ?_) (fun h => ?_) | refine GrdS_d (fun h => ?_) (fun h => ?_) | refine GrdS_b (fun h => ?_) (fun h => ?_) | refine OkS_i (by omega) ?_ | fail)
  · have h : wRing l = false := by simpa using h
    rw [h] at h1
    repeat' (first | intro _ | (simp [sxa, isPtrN, PV.pcs, elAt, setEl, inAt, elIn, setIn, isLst, cellsOf, Ex.ok, Ex.val, Opd.val, POp.dst, bin_int, binOK_int, bin_str, binOK_str, resOK, resV, RB.val, sub, putc, scB, scL, oneB, conf, Ex.val.eqP, Ex.val.eqL, negV, mxV, mnV, ← wr_eq, wr_zero, wr_one, wr_m1, bst_lst, byteC, partsOK, putAll, appV, nilV, slV, sslV, optB, optNum, and_assoc, exists_and_left, exists_eq_left', *]) | refine CallS_i (h1) ?_ | refine CondS_d (fun h => ?_) (fun h => ?_) | refine CondS_b (fun h => ?_) (fun h => ?_) | refine GrdS_d (fun h => ?_) (fun h => ?_) | refine GrdS_b (fun h => ?_) (fun h => ?_) | refine OkS_i (by omega) ?_ | fail)
def parts (x : Ft) : List Sg := if wFeat x = true then (if x.f1 = 2 then wSegs x.f4 else if x.f1 = 3 then rSegs x.f4 else []) else []
theorem f77 (x : Ft) (hx : x.okay) : Fn Tryz.prog 77 true [.agg (ft x)] (.lst 4 false ((parts x).map cs)) := by
  have h1 := f78 x hx
  obtain ⟨hx1, hx2⟩ := hx
  have h2 := f89 x.f4 x.nl (by omega)
  have h3 := f90 x.f4 x.nl (by omega)
  obtain ⟨B, hB⟩ : ∃ B, parts x = B := ⟨_, rfl⟩
  rw [hB]
  unfold parts at hB
  unfold ft at h1 ⊢
  refine Fn.by_sx hX (by kernel_rfl) c77 (by kernel_rfl) (by rfl) ?_
  simp [i77, sxa, isPtrN, PV.pcs, elAt, setEl, inAt, elIn, setIn, isLst, cellsOf, Ex.ok, Ex.val, Opd.val, POp.dst, bin_int, binOK_int, bin_str, binOK_str, resOK, resV, RB.val, sub, putc, scB, scL, oneB, conf, Ex.val.eqP, Ex.val.eqL, negV, mxV, mnV, ← wr_eq, wr_zero, wr_one, wr_m1, bst_lst, byteC, partsOK, putAll, appV, nilV, slV, sslV, optB, optNum, and_assoc, exists_and_left, exists_eq_left']
  by_cases h : wFeat x = true
  · rw [h] at h1
    rw [if_pos h] at hB
    repeat' (first | intro _ | (simp [sxa, isPtrN, PV.pcs, elAt, setEl, inAt, elIn, setIn, isLst, cellsOf, Ex.ok, Ex.val, Opd.val, POp.dst, bin_int, binOK_int, bin_str, binOK_str, resOK, resV, RB.val, sub, putc, scB, scL, oneB, conf, Ex.val.eqP, Ex.val.eqL, negV, mxV, mnV, ← wr_eq, wr_zero, wr_one, wr_m1, bst_lst, byteC, partsOK, putAll, appV, nilV, slV, sslV, optB, optNum, and_assoc, exists_and_left, exists_eq_left', *]) | refine CallS_i (h1) ?_ | refine CallS_i (h2) ?_ | refine CallS_i (h3) ?_ | refine CondS_d (fun h => ?_) (fun h => ?_) | refine CondS_b (fun h => ?_) (fun h => ?_) | refine GrdS_d (fun h => ?_) (fun h => ?_) | refine GrdS_b (fun h => ?_) (fun h => ?_) | refine OkS_i (by omega) ?_ | fail)
    all_goals simp_all
  · have h : wFeat x = false := by simpa using h
    rw [h] at h1
    rw [if_neg (by simp [h])] at hB
    subst hB
    repeat' (first | intro _ | (simp [sxa, isPtrN, PV.pcs, elAt, setEl, inAt, elIn, setIn, isLst, cellsOf, Ex.ok, Ex.val, Opd.val, POp.dst, bin_int, binOK_int, bin_str, binOK_str, resOK, resV, RB.val, sub, putc, scB, scL, oneB, conf, Ex.val.eqP, Ex.val.eqL, negV, mxV, mnV, ← wr_eq, wr_zero, wr_one, wr_m1, bst_lst, byteC, partsOK, putAll, appV, nilV, slV, sslV, optB, optNum, and_assoc, exists_and_left, exists_eq_left', *]) | refine CallS_i (h1) ?_ | refine CondS_d (fun h => ?_) (fun h => ?_) | refine CondS_b (fun h => ?_) (fun h => ?_) | refine GrdS_d (fun h => ?_) (fun h => ?_) | refine GrdS_b (fun h => ?_) (fun h => ?_) | refine OkS_i (by omega) ?_ | fail)
theorem f67 (x : Ft) (hx : x.okay) : Fn Tryz.prog 67 true [.agg (ft x)] (.lst 4 false ((parts x).map cs)) := by
  have h1 := f35 x hx
  obtain ⟨hx1, hx2⟩ := hx
  have h2 := f73 x.f4 x.nl (by omega)
  have h3 := f81 x.f4 x.nl (by omega)
  obtain ⟨B, hB⟩ : ∃ B, parts x = B := ⟨_, rfl⟩
  rw [hB]
  unfold parts at hB
  unfold ft at h1 ⊢
  refine Fn.by_sx hX (by kernel_rfl) c67 (by kernel_rfl) (by rfl) ?_
  simp [i67, sxa, isPtrN, PV.pcs, elAt, setEl, inAt, elIn, setIn, isLst, cellsOf, Ex.ok, Ex.val, Opd.val, POp.dst, bin_int, binOK_int, bin_str, binOK_str, resOK, resV, RB.val, sub, putc, scB, scL, oneB, conf, Ex.val.eqP, Ex.val.eqL, negV, mxV, mnV, ← wr_eq, wr_zero, wr_one, wr_m1, bst_lst, byteC, partsOK, putAll, appV, nilV, slV, sslV, optB, optNum, and_assoc, exists_and_left, exists_eq_left']
  by_cases h : wFeat x = true
  · rw [h] at h1
    rw [if_pos h] at hB
    repeat' (first | intro _ | (simp [sxa, isPtrN, PV.pcs, elAt, setEl, inAt, elIn, setIn, isLst, cellsOf, Ex.ok, Ex.val, Opd.val, POp.dst, bin_int, binOK_int, bin_str, binOK_str, resOK, resV, RB.val, sub, putc, scB, scL, oneB, conf, Ex.val.eqP, Ex.val.eqL, negV, mxV, mnV, ← wr_eq, wr_zero, wr_one, wr_m1, bst_lst, byteC, partsOK, putAll, appV, nilV, slV, sslV, optB, optNum, and_assoc, exists_and_left, exists_eq_left', *]) | refine CallS_i (h1) ?_ | refine CallS_i (h2) ?_ | refine CallS_i (h3) ?_ | refine CondS_d (fun h => ?_) (fun h => ?_) | refine CondS_b (fun h => ?_) (fun h => ?_) | refine GrdS_d (fun h => ?_) (fun h => ?_) | refine GrdS_b (fun h => ?_) (fun h => ?_) | refine OkS_i (by omega) ?_ | fail)
    all_goals simp_all
  · have h : wFeat x = false := by simpa using h
    rw [h] at h1
    rw [if_neg (by simp [h])] at hB
    subst hB
    repeat' (first | intro _ | (simp [sxa, isPtrN, PV.pcs, elAt, setEl, inAt, elIn, setIn, isLst, cellsOf, Ex.ok, Ex.val, Opd.val, POp.dst, bin_int, binOK_int, bin_str, binOK_str, resOK, resV, RB.val, sub, putc, scB, scL, oneB, conf, Ex.val.eqP, Ex.val.eqL, negV, mxV, mnV, ← wr_eq, wr_zero, wr_one, wr_m1, bst_lst, byteC, partsOK, putAll, appV, nilV, slV, sslV, optB, optNum, and_assoc, exists_and_left, exists_eq_left', *]) | refine CallS_i (h1) ?_ | refine CondS_d (fun h => ?_) (fun h => ?_) | refine CondS_b (fun h => ?_) (fun h => ?_) | refine GrdS_d (fun h => ?_) (fun h => ?_) | refine GrdS_b (fun h => ?_) (fun h => ?_) | refine OkS_i (by omega) ?_ | fail)
end Go.Eng
namespace Go.Eng
open Go Go.Proofs Geo
set_option linter.unusedSimpArgs false
set_option linter.unusedVariables false
set_option maxRecDepth 20000
set_option maxHeartbeats 1000000

/-! pieces, their digests, and seals -/
def pcAt (x : Ft) (k : Nat) : Pt := ⟨x.f0, k⟩
def nPc (x : Ft) : Nat := if x.f1 = 1 then 1 else (parts x).length
def pcs (x : Ft) : List Pt := upTo (pcAt x) (nPc x)
def pcsTo (l : List Ft) : Nat → List Pt
  | 0 => []
  | n + 1 => pcsTo l n ++ pcs (l.getD n ftD)
def pieces (l : List Ft) : List Pt := if wSrc l = true then pcsTo l l.length else []
theorem parts_len (x : Ft) : (parts x).length ≤ 10 := by
  unfold parts
  split
  · split
    · unfold wSegs
      split
      · rename_i h; have := wLine_len h; rw [upTo_length]; omega
      · simp
    · split
      · unfold rSegs
        split
        · rename_i h; rw [upTo_length]; unfold wRing inR at h; simp at h; omega
        · simp
      · simp
  · simp
theorem nPc_le (x : Ft) : nPc x ≤ 10 := by unfold nPc; have := parts_len x; split <;> omega
theorem pcsTo_len (l : List Ft) (n : Nat) : (pcsTo l n).length ≤ 10 * n := by
  induction n with
  | zero => simp [pcsTo]
  | succ n ih => unfold pcsTo pcs; rw [List.length_append, upTo_length]; have := nPc_le (l.getD n ftD); omega
theorem parts_pt {x : Ft} (h : x.f1 = 1) : parts x = [] := by unfold parts; rw [h]; simp
theorem wSrc_len {l : List Ft} (h : wSrc l = true) : l.length ≤ 16 := by unfold wSrc at h; simp at h; exact h.1
theorem l55_2 {l : List Ft} {n1 : Bool} {n N : Nat} {B : List (List PV)} {V : Env} (hn : n < l.length) (hN : N ≤ 10) (hB : B.length ≤ 10000) (h0 : V 0 = .lst 5 n1 (l.map ft)) (h3 : V 3 = .lst 2 false B) (h4 : V 4 = i n) (h5 : V 5 = i N) (h6 : V 6 = i 0) :
    sx (FC Tryz.prog) (.loop (.seq (.seq (.ops [s 30 (.mv (t 6)),
  s 31 (.mv (t 5)),
  s 32 (.bin .lss (t 30) (t 31))])
 (.cond (t 32) .skip (.exit 2)))
 (.seq (.block 3 (.ops [s 35 (.mv (t 3)),
  s 36 (.mv (t 0)),
  s 37 (.mv (t 4)),
  s 38 (.idx (t 36) (t 37) 5),
  s 39 (.mv (t 38)),
  s 40 (.ldE 36 39 0 1 false true 5),
  s 41 (.mv (t 6)),
  s 42 (.bld [(i 0), (i 0)] [(0, 1, (t 40)), (1, 1, (t 41))]),
  s 43 (.bsl 2 [(t 42)]),
  s 44 (.app (t 35) (t 43) 2 16),
  s 3 (.mv (t 44))]))
 (.ops [s 33 (.mv (t 6)),
  s 34 (.bin .add (t 33) (c (i 1))),
  s 6 (.mv (t 34))])))) (fun x V' => x = .exit 2 ∧ V' 0 = V 0 ∧ V' 4 = V 4 ∧ V' 3 = .lst 2 false (B ++ (upTo (pcAt l[n]) N).map cp)) V := by
  refine sx_count N (fun k V' => V' 0 = V 0 ∧ V' 4 = V 4 ∧ V' 5 = V 5 ∧ V' 6 = i k ∧ V' 3 = .lst 2 false (B ++ (upTo (pcAt l[n]) k).map cp)) 0 (by omega) ⟨rfl, rfl, rfl, h6, by simp [h3, upTo_zero]⟩ ?_
  rintro k V' hk ⟨g0, g4, g5, g6, g3⟩
  rw [h0] at g0
  rw [h4] at g4
  rw [h5] at g5
  rw [h0, h4]
  have hw : wr .i64 ((k : Int) + 1) = k + 1 := wr_in (by omega) (by omega)
  simp [sxa, isPtrN, PV.pcs, elAt, setEl, inAt, elIn, setIn, isLst, cellsOf, Ex.ok, Ex.val, Opd.val, POp.dst, bin_int, binOK_int, bin_str, binOK_str, resOK, resV, RB.val, sub, putc, scB, scL, oneB, conf, Ex.val.eqP, Ex.val.eqL, negV, mxV, mnV, ← wr_eq, wr_zero, wr_one, wr_m1, bst_lst, byteC, partsOK, putAll, appV, nilV, slV, sslV, optB, optNum, and_assoc, exists_and_left, exists_eq_left', g5, g6]
  refine CondS_d (fun hlt => ?_) (fun hge => ?_)
  · have hk' : k < N := by omega
    have hul : (upTo (pcAt l[n]) k).length = k := upTo_length
    repeat' (first | intro _ | (simp [sxa, isPtrN, PV.pcs, elAt, setEl, inAt, elIn, setIn, isLst, cellsOf, Ex.ok, Ex.val, Opd.val, POp.dst, bin_int, binOK_int, bin_str, binOK_str, resOK, resV, RB.val, sub, putc, scB, scL, oneB, conf, Ex.val.eqP, Ex.val.eqL, negV, mxV, mnV, ← wr_eq, wr_zero, wr_one, wr_m1, bst_lst, byteC, partsOK, putAll, appV, nilV, slV, sslV, optB, optNum, and_assoc, exists_and_left, exists_eq_left', upTo_succ, cp, pcAt, upTo_length, ft, *]) | refine CondS_d (fun h => ?_) (fun h => ?_) | refine CondS_b (fun h => ?_) (fun h => ?_) | refine GrdS_d (fun h => ?_) (fun h => ?_) | refine GrdS_b (fun h => ?_) (fun h => ?_) | refine OkS_i (by omega) ?_ | fail)
    all_goals omega
  · have : k = N := by omega
    subst this
    repeat' (first | intro _ | (simp [sxa, isPtrN, PV.pcs, elAt, setEl, inAt, elIn, setIn, isLst, cellsOf, Ex.ok, Ex.val, Opd.val, POp.dst, bin_int, binOK_int, bin_str, binOK_str, resOK, resV, RB.val, sub, putc, scB, scL, oneB, conf, Ex.val.eqP, Ex.val.eqL, negV, mxV, mnV, ← wr_eq, wr_zero, wr_one, wr_m1, bst_lst, byteC, partsOK, putAll, appV, nilV, slV, sslV, optB, optNum, and_assoc, exists_and_left, exists_eq_left', *]) | refine CondS_d (fun h => ?_) (fun h => ?_) | refine CondS_b (fun h => ?_) (fun h => ?_) | refine GrdS_d (fun h => ?_) (fun h => ?_) | refine GrdS_b (fun h => ?_) (fun h => ?_) | refine OkS_i (by omega) ?_ | fail)
theorem f55 (l : List Ft) (n1 : Bool) (hl : l.length ≤ 1000000000000) (hb : ∀ x ∈ l, x.okay) : Fn Tryz.prog 55 true [.lst 5 n1 (l.map ft)] (.lst 2 false ((pieces l).map cp)) := by
  have hsrc := f60 l n1 hl hb
  refine Fn.by_sx hX (by kernel_rfl) c55 (by kernel_rfl) (by rfl) ?_
  simp [i55, sxa, isPtrN, PV.pcs, elAt, setEl, inAt, elIn, setIn, isLst, cellsOf, Ex.ok, Ex.val, Opd.val, POp.dst, bin_int, binOK_int, bin_str, binOK_str, resOK, resV, RB.val, sub, putc, scB, scL, oneB, conf, Ex.val.eqP, Ex.val.eqL, negV, mxV, mnV, ← wr_eq, wr_zero, wr_one, wr_m1, bst_lst, byteC, partsOK, putAll, appV, nilV, slV, sslV, optB, optNum, and_assoc, exists_and_left, exists_eq_left']
  by_cases hs : wSrc l = true
  · rw [hs] at hsrc
    have hlen := wSrc_len hs
    have hp : pieces l = pcsTo l l.length := by unfold pieces; rw [if_pos hs]
    rw [hp]
    refine sx_count l.length (fun n V => V 0 = .lst 5 n1 (l.map ft) ∧ V 4 = i n ∧ V 3 = .lst 2 false ((pcsTo l n).map cp)) 0 (by omega) (by simp [sxa, isPtrN, PV.pcs, elAt, setEl, inAt, elIn, setIn, isLst, cellsOf, Ex.ok, Ex.val, Opd.val, POp.dst, bin_int, binOK_int, bin_str, binOK_str, resOK, resV, RB.val, sub, putc, scB, scL, oneB, conf, Ex.val.eqP, Ex.val.eqL, negV, mxV, mnV, ← wr_eq, wr_zero, wr_one, wr_m1, bst_lst, byteC, partsOK, putAll, appV, nilV, slV, sslV, optB, optNum, and_assoc, exists_and_left, exists_eq_left', pcsTo]) ?_
    rintro n V hn ⟨h0, h4, h3⟩
    have hw : wr .i64 ((n : Int) + 1) = n + 1 := wr_in (by omega) (by omega)
    simp [sxa, isPtrN, PV.pcs, elAt, setEl, inAt, elIn, setIn, isLst, cellsOf, Ex.ok, Ex.val, Opd.val, POp.dst, bin_int, binOK_int, bin_str, binOK_str, resOK, resV, RB.val, sub, putc, scB, scL, oneB, conf, Ex.val.eqP, Ex.val.eqL, negV, mxV, mnV, ← wr_eq, wr_zero, wr_one, wr_m1, bst_lst, byteC, partsOK, putAll, appV, nilV, slV, sslV, optB, optNum, and_assoc, exists_and_left, exists_eq_left', h0, h4]
    refine GrdS_d (fun hlt => ?_) (fun hge => ?_)
    · have hlt' : n < l.length := by omega
      have hok : l[n].okay := hb _ (List.getElem_mem ..)
      have hc := f77 l[n] hok
      have hpl := parts_len l[n]
      have hbl := pcsTo_len l n
      have hnx : pcsTo l (n + 1) = pcsTo l n ++ upTo (pcAt l[n]) (nPc l[n]) := by simp [pcsTo, pcs, hlt']
      by_cases h1 : l[n].f1 = 1
      · have hnp : nPc l[n] = 1 := by unfold nPc; rw [if_pos h1]
        rw [hnp] at hnx
        unfold ft at hc
        rw [h1] at hc
        repeat' (first | intro _ | (simp [sxa, isPtrN, PV.pcs, elAt, setEl, inAt, elIn, setIn, isLst, cellsOf, Ex.ok, Ex.val, Opd.val, POp.dst, bin_int, binOK_int, bin_str, binOK_str, resOK, resV, RB.val, sub, putc, scB, scL, oneB, conf, Ex.val.eqP, Ex.val.eqL, negV, mxV, mnV, ← wr_eq, wr_zero, wr_one, wr_m1, bst_lst, byteC, partsOK, putAll, appV, nilV, slV, sslV, optB, optNum, and_assoc, exists_and_left, exists_eq_left', ft, *]) | refine CallS_i (hsrc) ?_ | refine CallS_i (hc) ?_ | refine CondS_d (fun h => ?_) (fun h => ?_) | refine CondS_b (fun h => ?_) (fun h => ?_) | refine GrdS_d (fun h => ?_) (fun h => ?_) | refine GrdS_b (fun h => ?_) (fun h => ?_) | refine OkS_i (by omega) ?_ | fail)
        refine sx_mono _ _ _ _ ?_ (l55_2 (n1 := n1) (N := 1) hlt' (by omega) (B := (pcsTo l n).map cp) (by simp; omega) (by simp [sxa, isPtrN, PV.pcs, elAt, setEl, inAt, elIn, setIn, isLst, cellsOf, Ex.ok, Ex.val, Opd.val, POp.dst, bin_int, binOK_int, bin_str, binOK_str, resOK, resV, RB.val, sub, putc, scB, scL, oneB, conf, Ex.val.eqP, Ex.val.eqL, negV, mxV, mnV, ← wr_eq, wr_zero, wr_one, wr_m1, bst_lst, byteC, partsOK, putAll, appV, nilV, slV, sslV, optB, optNum, and_assoc, exists_and_left, exists_eq_left', h0]) (by simp [sxa, isPtrN, PV.pcs, elAt, setEl, inAt, elIn, setIn, isLst, cellsOf, Ex.ok, Ex.val, Opd.val, POp.dst, bin_int, binOK_int, bin_str, binOK_str, resOK, resV, RB.val, sub, putc, scB, scL, oneB, conf, Ex.val.eqP, Ex.val.eqL, negV, mxV, mnV, ← wr_eq, wr_zero, wr_one, wr_m1, bst_lst, byteC, partsOK, putAll, appV, nilV, slV, sslV, optB, optNum, and_assoc, exists_and_left, exists_eq_left', h3]) (by simp [sxa, isPtrN, PV.pcs, elAt, setEl, inAt, elIn, setIn, isLst, cellsOf, Ex.ok, Ex.val, Opd.val, POp.dst, bin_int, binOK_int, bin_str, binOK_str, resOK, resV, RB.val, sub, putc, scB, scL, oneB, conf, Ex.val.eqP, Ex.val.eqL, negV, mxV, mnV, ← wr_eq, wr_zero, wr_one, wr_m1, bst_lst, byteC, partsOK, putAll, appV, nilV, slV, sslV, optB, optNum, and_assoc, exists_and_left, exists_eq_left', h4]) (by simp [sxa, isPtrN, PV.pcs, elAt, setEl, inAt, elIn, setIn, isLst, cellsOf, Ex.ok, Ex.val, Opd.val, POp.dst, bin_int, binOK_int, bin_str, binOK_str, resOK, resV, RB.val, sub, putc, scB, scL, oneB, conf, Ex.val.eqP, Ex.val.eqL, negV, mxV, mnV, ← wr_eq, wr_zero, wr_one, wr_m1, bst_lst, byteC, partsOK, putAll, appV, nilV, slV, sslV, optB, optNum, and_assoc, exists_and_left, exists_eq_left']) (by simp [sxa, isPtrN, PV.pcs, elAt, setEl, inAt, elIn, setIn, isLst, cellsOf, Ex.ok, Ex.val, Opd.val, POp.dst, bin_int, binOK_int, bin_str, binOK_str, resOK, resV, RB.val, sub, putc, scB, scL, oneB, conf, Ex.val.eqP, Ex.val.eqL, negV, mxV, mnV, ← wr_eq, wr_zero, wr_one, wr_m1, bst_lst, byteC, partsOK, putAll, appV, nilV, slV, sslV, optB, optNum, and_assoc, exists_and_left, exists_eq_left']))
        rintro e V' ⟨rfl, g0, g4, g3⟩
        simp [sxa, isPtrN, PV.pcs, elAt, setEl, inAt, elIn, setIn, isLst, cellsOf, Ex.ok, Ex.val, Opd.val, POp.dst, bin_int, binOK_int, bin_str, binOK_str, resOK, resV, RB.val, sub, putc, scB, scL, oneB, conf, Ex.val.eqP, Ex.val.eqL, negV, mxV, mnV, ← wr_eq, wr_zero, wr_one, wr_m1, bst_lst, byteC, partsOK, putAll, appV, nilV, slV, sslV, optB, optNum, and_assoc, exists_and_left, exists_eq_left', h0, h4] at g0 g4
        repeat' (first | intro _ | (simp [sxa, isPtrN, PV.pcs, elAt, setEl, inAt, elIn, setIn, isLst, cellsOf, Ex.ok, Ex.val, Opd.val, POp.dst, bin_int, binOK_int, bin_str, binOK_str, resOK, resV, RB.val, sub, putc, scB, scL, oneB, conf, Ex.val.eqP, Ex.val.eqL, negV, mxV, mnV, ← wr_eq, wr_zero, wr_one, wr_m1, bst_lst, byteC, partsOK, putAll, appV, nilV, slV, sslV, optB, optNum, and_assoc, exists_and_left, exists_eq_left', *]) | refine CondS_d (fun h => ?_) (fun h => ?_) | refine CondS_b (fun h => ?_) (fun h => ?_) | refine GrdS_d (fun h => ?_) (fun h => ?_) | refine GrdS_b (fun h => ?_) (fun h => ?_) | refine OkS_i (by omega) ?_ | fail)
      · have hnp : nPc l[n] = (parts l[n]).length := by unfold nPc; rw [if_neg h1]
        rw [hnp] at hnx
        repeat' (first | intro _ | (simp [sxa, isPtrN, PV.pcs, elAt, setEl, inAt, elIn, setIn, isLst, cellsOf, Ex.ok, Ex.val, Opd.val, POp.dst, bin_int, binOK_int, bin_str, binOK_str, resOK, resV, RB.val, sub, putc, scB, scL, oneB, conf, Ex.val.eqP, Ex.val.eqL, negV, mxV, mnV, ← wr_eq, wr_zero, wr_one, wr_m1, bst_lst, byteC, partsOK, putAll, appV, nilV, slV, sslV, optB, optNum, and_assoc, exists_and_left, exists_eq_left', ft, *]) | refine CallS_i (hsrc) ?_ | refine CallS_i (hc) ?_ | refine CondS_d (fun h => ?_) (fun h => ?_) | refine CondS_b (fun h => ?_) (fun h => ?_) | refine GrdS_d (fun h => ?_) (fun h => ?_) | refine GrdS_b (fun h => ?_) (fun h => ?_) | refine OkS_i (by omega) ?_ | fail)
        refine sx_mono _ _ _ _ ?_ (l55_2 (n1 := n1) (N := (parts l[n]).length) hlt' hpl (B := (pcsTo l n).map cp) (by simp; omega) (by simp [sxa, isPtrN, PV.pcs, elAt, setEl, inAt, elIn, setIn, isLst, cellsOf, Ex.ok, Ex.val, Opd.val, POp.dst, bin_int, binOK_int, bin_str, binOK_str, resOK, resV, RB.val, sub, putc, scB, scL, oneB, conf, Ex.val.eqP, Ex.val.eqL, negV, mxV, mnV, ← wr_eq, wr_zero, wr_one, wr_m1, bst_lst, byteC, partsOK, putAll, appV, nilV, slV, sslV, optB, optNum, and_assoc, exists_and_left, exists_eq_left', h0]) (by simp [sxa, isPtrN, PV.pcs, elAt, setEl, inAt, elIn, setIn, isLst, cellsOf, Ex.ok, Ex.val, Opd.val, POp.dst, bin_int, binOK_int, bin_str, binOK_str, resOK, resV, RB.val, sub, putc, scB, scL, oneB, conf, Ex.val.eqP, Ex.val.eqL, negV, mxV, mnV, ← wr_eq, wr_zero, wr_one, wr_m1, bst_lst, byteC, partsOK, putAll, appV, nilV, slV, sslV, optB, optNum, and_assoc, exists_and_left, exists_eq_left', h3]) (by simp [sxa, isPtrN, PV.pcs, elAt, setEl, inAt, elIn, setIn, isLst, cellsOf, Ex.ok, Ex.val, Opd.val, POp.dst, bin_int, binOK_int, bin_str, binOK_str, resOK, resV, RB.val, sub, putc, scB, scL, oneB, conf, Ex.val.eqP, Ex.val.eqL, negV, mxV, mnV, ← wr_eq, wr_zero, wr_one, wr_m1, bst_lst, byteC, partsOK, putAll, appV, nilV, slV, sslV, optB, optNum, and_assoc, exists_and_left, exists_eq_left', h4]) (by simp [sxa, isPtrN, PV.pcs, elAt, setEl, inAt, elIn, setIn, isLst, cellsOf, Ex.ok, Ex.val, Opd.val, POp.dst, bin_int, binOK_int, bin_str, binOK_str, resOK, resV, RB.val, sub, putc, scB, scL, oneB, conf, Ex.val.eqP, Ex.val.eqL, negV, mxV, mnV, ← wr_eq, wr_zero, wr_one, wr_m1, bst_lst, byteC, partsOK, putAll, appV, nilV, slV, sslV, optB, optNum, and_assoc, exists_and_left, exists_eq_left']) (by simp [sxa, isPtrN, PV.pcs, elAt, setEl, inAt, elIn, setIn, isLst, cellsOf, Ex.ok, Ex.val, Opd.val, POp.dst, bin_int, binOK_int, bin_str, binOK_str, resOK, resV, RB.val, sub, putc, scB, scL, oneB, conf, Ex.val.eqP, Ex.val.eqL, negV, mxV, mnV, ← wr_eq, wr_zero, wr_one, wr_m1, bst_lst, byteC, partsOK, putAll, appV, nilV, slV, sslV, optB, optNum, and_assoc, exists_and_left, exists_eq_left']))
        rintro e V' ⟨rfl, g0, g4, g3⟩
        simp [sxa, isPtrN, PV.pcs, elAt, setEl, inAt, elIn, setIn, isLst, cellsOf, Ex.ok, Ex.val, Opd.val, POp.dst, bin_int, binOK_int, bin_str, binOK_str, resOK, resV, RB.val, sub, putc, scB, scL, oneB, conf, Ex.val.eqP, Ex.val.eqL, negV, mxV, mnV, ← wr_eq, wr_zero, wr_one, wr_m1, bst_lst, byteC, partsOK, putAll, appV, nilV, slV, sslV, optB, optNum, and_assoc, exists_and_left, exists_eq_left', h0, h4] at g0 g4
        repeat' (first | intro _ | (simp [sxa, isPtrN, PV.pcs, elAt, setEl, inAt, elIn, setIn, isLst, cellsOf, Ex.ok, Ex.val, Opd.val, POp.dst, bin_int, binOK_int, bin_str, binOK_str, resOK, resV, RB.val, sub, putc, scB, scL, oneB, conf, Ex.val.eqP, Ex.val.eqL, negV, mxV, mnV, ← wr_eq, wr_zero, wr_one, wr_m1, bst_lst, byteC, partsOK, putAll, appV, nilV, slV, sslV, optB, optNum, and_assoc, exists_and_left, exists_eq_left', *]) | refine CondS_d (fun h => ?_) (fun h => ?_) | refine CondS_b (fun h => ?_) (fun h => ?_) | refine GrdS_d (fun h => ?_) (fun h => ?_) | refine GrdS_b (fun h => ?_) (fun h => ?_) | refine OkS_i (by omega) ?_ | fail)
    · have : n = l.length := by omega
      subst this
      repeat' (first | intro _ | (simp [sxa, isPtrN, PV.pcs, elAt, setEl, inAt, elIn, setIn, isLst, cellsOf, Ex.ok, Ex.val, Opd.val, POp.dst, bin_int, binOK_int, bin_str, binOK_str, resOK, resV, RB.val, sub, putc, scB, scL, oneB, conf, Ex.val.eqP, Ex.val.eqL, negV, mxV, mnV, ← wr_eq, wr_zero, wr_one, wr_m1, bst_lst, byteC, partsOK, putAll, appV, nilV, slV, sslV, optB, optNum, and_assoc, exists_and_left, exists_eq_left', *]) | refine CondS_d (fun h => ?_) (fun h => ?_) | refine CondS_b (fun h => ?_) (fun h => ?_) | refine GrdS_d (fun h => ?_) (fun h => ?_) | refine GrdS_b (fun h => ?_) (fun h => ?_) | refine OkS_i (by omega) ?_ | fail)
  · have hs : wSrc l = false := by simpa using hs
    rw [hs] at hsrc
    have hp : pieces l = [] := by unfold pieces; rw [hs]; rfl
    rw [hp]
    refine sx_count l.length (fun n V => V 0 = .lst 5 n1 (l.map ft) ∧ V 4 = i n ∧ V 3 = .lst 2 false []) 0 (by omega) (by simp [sxa, isPtrN, PV.pcs, elAt, setEl, inAt, elIn, setIn, isLst, cellsOf, Ex.ok, Ex.val, Opd.val, POp.dst, bin_int, binOK_int, bin_str, binOK_str, resOK, resV, RB.val, sub, putc, scB, scL, oneB, conf, Ex.val.eqP, Ex.val.eqL, negV, mxV, mnV, ← wr_eq, wr_zero, wr_one, wr_m1, bst_lst, byteC, partsOK, putAll, appV, nilV, slV, sslV, optB, optNum, and_assoc, exists_and_left, exists_eq_left', pcsTo]) ?_
    rintro n V hn ⟨h0, h4, h3⟩
    simp [sxa, isPtrN, PV.pcs, elAt, setEl, inAt, elIn, setIn, isLst, cellsOf, Ex.ok, Ex.val, Opd.val, POp.dst, bin_int, binOK_int, bin_str, binOK_str, resOK, resV, RB.val, sub, putc, scB, scL, oneB, conf, Ex.val.eqP, Ex.val.eqL, negV, mxV, mnV, ← wr_eq, wr_zero, wr_one, wr_m1, bst_lst, byteC, partsOK, putAll, appV, nilV, slV, sslV, optB, optNum, and_assoc, exists_and_left, exists_eq_left', h0, h4]
    refine GrdS_d (fun hlt => ?_) (fun hge => ?_)
    · repeat' (first | intro _ | (simp [sxa, isPtrN, PV.pcs, elAt, setEl, inAt, elIn, setIn, isLst, cellsOf, Ex.ok, Ex.val, Opd.val, POp.dst, bin_int, binOK_int, bin_str, binOK_str, resOK, resV, RB.val, sub, putc, scB, scL, oneB, conf, Ex.val.eqP, Ex.val.eqL, negV, mxV, mnV, ← wr_eq, wr_zero, wr_one, wr_m1, bst_lst, byteC, partsOK, putAll, appV, nilV, slV, sslV, optB, optNum, and_assoc, exists_and_left, exists_eq_left', *]) | refine CallS_i (hsrc) ?_ | refine CondS_d (fun h => ?_) (fun h => ?_) | refine CondS_b (fun h => ?_) (fun h => ?_) | refine GrdS_d (fun h => ?_) (fun h => ?_) | refine GrdS_b (fun h => ?_) (fun h => ?_) | refine OkS_i (by omega) ?_ | fail)
    · repeat' (first | intro _ | (simp [sxa, isPtrN, PV.pcs, elAt, setEl, inAt, elIn, setIn, isLst, cellsOf, Ex.ok, Ex.val, Opd.val, POp.dst, bin_int, binOK_int, bin_str, binOK_str, resOK, resV, RB.val, sub, putc, scB, scL, oneB, conf, Ex.val.eqP, Ex.val.eqL, negV, mxV, mnV, ← wr_eq, wr_zero, wr_one, wr_m1, bst_lst, byteC, partsOK, putAll, appV, nilV, slV, sslV, optB, optNum, and_assoc, exists_and_left, exists_eq_left', *]) | refine CondS_d (fun h => ?_) (fun h => ?_) | refine CondS_b (fun h => ?_) (fun h => ?_) | refine GrdS_d (fun h => ?_) (fun h => ?_) | refine GrdS_b (fun h => ?_) (fun h => ?_) | refine OkS_i (by omega) ?_ | fail)
theorem f49 (x : Ft) (hx : x.okay) : Fn Tryz.prog 49 true [.agg (ft x), .agg [i 0, i 0, i 0, i 0], .bool true] (.lst 2 false ((pcs x).map cp)) := by
  have hc := f67 x hx
  have hpl := parts_len x
  obtain ⟨B, hB⟩ : ∃ B : List Pt, (if x.f1 = 1 then [⟨x.f0, 0⟩] else []) = B := ⟨_, rfl⟩
  have hp : pcs x = B ++ upTo (pcAt x) (parts x).length := by
    unfold pcs nPc
    by_cases h1 : x.f1 = 1
    · rw [if_pos h1] at hB ⊢
      rw [parts_pt h1, ← hB]
      rfl
    · rw [if_neg h1] at hB ⊢
      rw [← hB]
      rfl
  have hBl : B.length ≤ 1 := by rw [← hB]; split <;> simp
  rw [hp]
  unfold ft at *
  refine Fn.by_sx hX (by kernel_rfl) c49 (by kernel_rfl) (by rfl) ?_
  simp [i49, sxa, isPtrN, PV.pcs, elAt, setEl, inAt, elIn, setIn, isLst, cellsOf, Ex.ok, Ex.val, Opd.val, POp.dst, bin_int, binOK_int, bin_str, binOK_str, resOK, resV, RB.val, sub, putc, scB, scL, oneB, conf, Ex.val.eqP, Ex.val.eqL, negV, mxV, mnV, ← wr_eq, wr_zero, wr_one, wr_m1, bst_lst, byteC, partsOK, putAll, appV, nilV, slV, sslV, optB, optNum, and_assoc, exists_and_left, exists_eq_left']
  by_cases h1 : x.f1 = 1
  · rw [if_pos h1] at hB
    rw [h1] at hc
    repeat' (first | intro _ | (simp [sxa, isPtrN, PV.pcs, elAt, setEl, inAt, elIn, setIn, isLst, cellsOf, Ex.ok, Ex.val, Opd.val, POp.dst, bin_int, binOK_int, bin_str, binOK_str, resOK, resV, RB.val, sub, putc, scB, scL, oneB, conf, Ex.val.eqP, Ex.val.eqL, negV, mxV, mnV, ← wr_eq, wr_zero, wr_one, wr_m1, bst_lst, byteC, partsOK, putAll, appV, nilV, slV, sslV, optB, optNum, and_assoc, exists_and_left, exists_eq_left', *]) | refine CallS_i (hc) ?_ | refine CondS_d (fun h => ?_) (fun h => ?_) | refine CondS_b (fun h => ?_) (fun h => ?_) | refine GrdS_d (fun h => ?_) (fun h => ?_) | refine GrdS_b (fun h => ?_) (fun h => ?_) | refine OkS_i (by omega) ?_ | fail)
    refine sx_count (parts x).length (fun n V => V 3 = .ptr [i x.f0, i 1, i x.f2, .str x.f3, .lst 2 x.nl (x.f4.map cp)] ∧ V 2 = .bool true ∧ V 32 = .lst 4 false ((parts x).map cs) ∧ V 33 = i (parts x).length ∧ V 34 = i n ∧ V 7 = .lst 2 false (B.map cp ++ (upTo (pcAt x) n).map cp)) 0 (by omega) (by simp [sxa, isPtrN, PV.pcs, elAt, setEl, inAt, elIn, setIn, isLst, cellsOf, Ex.ok, Ex.val, Opd.val, POp.dst, bin_int, binOK_int, bin_str, binOK_str, resOK, resV, RB.val, sub, putc, scB, scL, oneB, conf, Ex.val.eqP, Ex.val.eqL, negV, mxV, mnV, ← wr_eq, wr_zero, wr_one, wr_m1, bst_lst, byteC, partsOK, putAll, appV, nilV, slV, sslV, optB, optNum, and_assoc, exists_and_left, exists_eq_left', upTo_zero, ← hB, cp]) ?_
    rintro n V hn ⟨h3, h2, h32, h33, h34, h7⟩
    have hw : wr .i64 ((n : Int) + 1) = n + 1 := wr_in (by omega) (by omega)
    simp [sxa, isPtrN, PV.pcs, elAt, setEl, inAt, elIn, setIn, isLst, cellsOf, Ex.ok, Ex.val, Opd.val, POp.dst, bin_int, binOK_int, bin_str, binOK_str, resOK, resV, RB.val, sub, putc, scB, scL, oneB, conf, Ex.val.eqP, Ex.val.eqL, negV, mxV, mnV, ← wr_eq, wr_zero, wr_one, wr_m1, bst_lst, byteC, partsOK, putAll, appV, nilV, slV, sslV, optB, optNum, and_assoc, exists_and_left, exists_eq_left', h33, h34]
    refine CondS_d (fun hlt => ?_) (fun hge => ?_)
    · have hlt' : n < (parts x).length := by omega
      repeat' (first | intro _ | (simp [sxa, isPtrN, PV.pcs, elAt, setEl, inAt, elIn, setIn, isLst, cellsOf, Ex.ok, Ex.val, Opd.val, POp.dst, bin_int, binOK_int, bin_str, binOK_str, resOK, resV, RB.val, sub, putc, scB, scL, oneB, conf, Ex.val.eqP, Ex.val.eqL, negV, mxV, mnV, ← wr_eq, wr_zero, wr_one, wr_m1, bst_lst, byteC, partsOK, putAll, appV, nilV, slV, sslV, optB, optNum, and_assoc, exists_and_left, exists_eq_left', upTo_succ, cp, cs, pcAt, upTo_length, *]) | refine CondS_d (fun h => ?_) (fun h => ?_) | refine CondS_b (fun h => ?_) (fun h => ?_) | refine GrdS_d (fun h => ?_) (fun h => ?_) | refine GrdS_b (fun h => ?_) (fun h => ?_) | refine OkS_i (by omega) ?_ | fail)
      all_goals omega
    · have : n = (parts x).length := by omega
      repeat' (first | intro _ | (simp [sxa, isPtrN, PV.pcs, elAt, setEl, inAt, elIn, setIn, isLst, cellsOf, Ex.ok, Ex.val, Opd.val, POp.dst, bin_int, binOK_int, bin_str, binOK_str, resOK, resV, RB.val, sub, putc, scB, scL, oneB, conf, Ex.val.eqP, Ex.val.eqL, negV, mxV, mnV, ← wr_eq, wr_zero, wr_one, wr_m1, bst_lst, byteC, partsOK, putAll, appV, nilV, slV, sslV, optB, optNum, and_assoc, exists_and_left, exists_eq_left', *]) | refine CondS_d (fun h => ?_) (fun h => ?_) | refine CondS_b (fun h => ?_) (fun h => ?_) | refine GrdS_d (fun h => ?_) (fun h => ?_) | refine GrdS_b (fun h => ?_) (fun h => ?_) | refine OkS_i (by omega) ?_ | fail)
  · rw [if_neg h1] at hB
    repeat' (first | intro _ | (simp [sxa, isPtrN, PV.pcs, elAt, setEl, inAt, elIn, setIn, isLst, cellsOf, Ex.ok, Ex.val, Opd.val, POp.dst, bin_int, binOK_int, bin_str, binOK_str, resOK, resV, RB.val, sub, putc, scB, scL, oneB, conf, Ex.val.eqP, Ex.val.eqL, negV, mxV, mnV, ← wr_eq, wr_zero, wr_one, wr_m1, bst_lst, byteC, partsOK, putAll, appV, nilV, slV, sslV, optB, optNum, and_assoc, exists_and_left, exists_eq_left', *]) | refine CallS_i (hc) ?_ | refine CondS_d (fun h => ?_) (fun h => ?_) | refine CondS_b (fun h => ?_) (fun h => ?_) | refine GrdS_d (fun h => ?_) (fun h => ?_) | refine GrdS_b (fun h => ?_) (fun h => ?_) | refine OkS_i (by omega) ?_ | fail)
    refine sx_count (parts x).length (fun n V => V 3 = .ptr [i x.f0, i x.f1, i x.f2, .str x.f3, .lst 2 x.nl (x.f4.map cp)] ∧ V 2 = .bool true ∧ V 32 = .lst 4 false ((parts x).map cs) ∧ V 33 = i (parts x).length ∧ V 34 = i n ∧ V 7 = .lst 2 false (B.map cp ++ (upTo (pcAt x) n).map cp)) 0 (by omega) (by simp [sxa, isPtrN, PV.pcs, elAt, setEl, inAt, elIn, setIn, isLst, cellsOf, Ex.ok, Ex.val, Opd.val, POp.dst, bin_int, binOK_int, bin_str, binOK_str, resOK, resV, RB.val, sub, putc, scB, scL, oneB, conf, Ex.val.eqP, Ex.val.eqL, negV, mxV, mnV, ← wr_eq, wr_zero, wr_one, wr_m1, bst_lst, byteC, partsOK, putAll, appV, nilV, slV, sslV, optB, optNum, and_assoc, exists_and_left, exists_eq_left', upTo_zero, ← hB, cp]) ?_
    rintro n V hn ⟨h3, h2, h32, h33, h34, h7⟩
    have hw : wr .i64 ((n : Int) + 1) = n + 1 := wr_in (by omega) (by omega)
    simp [sxa, isPtrN, PV.pcs, elAt, setEl, inAt, elIn, setIn, isLst, cellsOf, Ex.ok, Ex.val, Opd.val, POp.dst, bin_int, binOK_int, bin_str, binOK_str, resOK, resV, RB.val, sub, putc, scB, scL, oneB, conf, Ex.val.eqP, Ex.val.eqL, negV, mxV, mnV, ← wr_eq, wr_zero, wr_one, wr_m1, bst_lst, byteC, partsOK, putAll, appV, nilV, slV, sslV, optB, optNum, and_assoc, exists_and_left, exists_eq_left', h33, h34]
    refine CondS_d (fun hlt => ?_) (fun hge => ?_)
    · have hlt' : n < (parts x).length := by omega
      repeat' (first | intro _ | (simp [sxa, isPtrN, PV.pcs, elAt, setEl, inAt, elIn, setIn, isLst, cellsOf, Ex.ok, Ex.val, Opd.val, POp.dst, bin_int, binOK_int, bin_str, binOK_str, resOK, resV, RB.val, sub, putc, scB, scL, oneB, conf, Ex.val.eqP, Ex.val.eqL, negV, mxV, mnV, ← wr_eq, wr_zero, wr_one, wr_m1, bst_lst, byteC, partsOK, putAll, appV, nilV, slV, sslV, optB, optNum, and_assoc, exists_and_left, exists_eq_left', upTo_succ, cp, cs, pcAt, upTo_length, *]) | refine CondS_d (fun h => ?_) (fun h => ?_) | refine CondS_b (fun h => ?_) (fun h => ?_) | refine GrdS_d (fun h => ?_) (fun h => ?_) | refine GrdS_b (fun h => ?_) (fun h => ?_) | refine OkS_i (by omega) ?_ | fail)
      all_goals omega
    · have : n = (parts x).length := by omega
      repeat' (first | intro _ | (simp [sxa, isPtrN, PV.pcs, elAt, setEl, inAt, elIn, setIn, isLst, cellsOf, Ex.ok, Ex.val, Opd.val, POp.dst, bin_int, binOK_int, bin_str, binOK_str, resOK, resV, RB.val, sub, putc, scB, scL, oneB, conf, Ex.val.eqP, Ex.val.eqL, negV, mxV, mnV, ← wr_eq, wr_zero, wr_one, wr_m1, bst_lst, byteC, partsOK, putAll, appV, nilV, slV, sslV, optB, optNum, and_assoc, exists_and_left, exists_eq_left', *]) | refine CondS_d (fun h => ?_) (fun h => ?_) | refine CondS_b (fun h => ?_) (fun h => ?_) | refine GrdS_d (fun h => ?_) (fun h => ?_) | refine GrdS_b (fun h => ?_) (fun h => ?_) | refine OkS_i (by omega) ?_ | fail)
end Go.Eng
namespace Go.Eng
open Go Go.Proofs Geo
set_option linter.unusedSimpArgs false
set_option linter.unusedVariables false
set_option maxRecDepth 20000
set_option maxHeartbeats 1000000

def byAt (s : ByteArray) (n : Nat) : Int := ((s.data[n]?.getD 0).toNat : Int)
def dgL (x : Ft) (n : Nat) : List Int := [x.f0, x.f1, x.f2, x.f3.size] ++ upTo (byAt x.f3) n
def sg4 (s : Sg) : List Int := [s.f0.f0, s.f0.f1, s.f1.f0, s.f1.f1]
def dig (x : Ft) (part : Int) : Int :=
  if wFeat x = true then
    if x.f1 = 1 then (if part = 0 then hsh (dgL x x.f3.size ++ [part, (x.f4.getD 0 ⟨0, 0⟩).f0, (x.f4.getD 0 ⟨0, 0⟩).f1]) else 0)
    else if 0 ≤ part ∧ part < (parts x).length then hsh (dgL x x.f3.size ++ part :: sg4 ((parts x).getD part.toNat ⟨⟨0, 0⟩, ⟨0, 0⟩⟩)) else 0
  else 0
theorem dgL_len (x : Ft) (n : Nat) : (dgL x n).length = 4 + n := by unfold dgL; rw [List.length_append, upTo_length]; rfl
theorem wFeat_name {x : Ft} (h : wFeat x = true) : x.f3.size ≤ 8 := by
  unfold wFeat at h
  simp at h
  rcases h.1.2.2 with h | h
  · rw [h]; decide
  · unfold isNm inR at h; simp at h; omega
theorem wFeat_pt {x : Ft} (h : wFeat x = true) (h1 : x.f1 = 1) : x.f4.length = 1 := by
  unfold wFeat wShape at h
  simp [h1] at h
  exact h.2.1
theorem byAt_at {s : ByteArray} {n : Nat} (h : n < s.data.size) : byAt s n = (s.data[n].toNat : Int) := by unfold byAt; rw [Array.getElem?_eq_getElem h]; rfl
theorem f56 (x : Ft) (part : Int) (hx : x.okay) : Fn Tryz.prog 56 false [.agg (ft x), i part] (i (dig x part)) := by
  have hc := f78 x hx
  have hp := f77 x hx
  obtain ⟨D, hD⟩ : ∃ D, dig x part = D := ⟨_, rfl⟩
  rw [hD]
  unfold dig at hD
  unfold ft at *
  refine Fn.by_sx hX (by kernel_rfl) c56 (by kernel_rfl) (by rfl) ?_
  simp [i56, sxa, isPtrN, PV.pcs, elAt, setEl, inAt, elIn, setIn, isLst, cellsOf, Ex.ok, Ex.val, Opd.val, POp.dst, bin_int, binOK_int, bin_str, binOK_str, resOK, resV, RB.val, sub, putc, scB, scL, oneB, conf, Ex.val.eqP, Ex.val.eqL, negV, mxV, mnV, ← wr_eq, wr_zero, wr_one, wr_m1, bst_lst, byteC, partsOK, putAll, appV, nilV, slV, sslV, optB, optNum, and_assoc, exists_and_left, exists_eq_left']
  by_cases hf : wFeat x = true
  case neg =>
    have hf : wFeat x = false := by simpa using hf
    rw [hf] at hc
    rw [if_neg (by simp [hf])] at hD
    repeat' (first | intro _ | (simp [sxa, isPtrN, PV.pcs, elAt, setEl, inAt, elIn, setIn, isLst, cellsOf, Ex.ok, Ex.val, Opd.val, POp.dst, bin_int, binOK_int, bin_str, binOK_str, resOK, resV, RB.val, sub, putc, scB, scL, oneB, conf, Ex.val.eqP, Ex.val.eqL, negV, mxV, mnV, ← wr_eq, wr_zero, wr_one, wr_m1, bst_lst, byteC, partsOK, putAll, appV, nilV, slV, sslV, optB, optNum, and_assoc, exists_and_left, exists_eq_left', *]) | refine CallS_i (hc) ?_ | refine CondS_d (fun h => ?_) (fun h => ?_) | refine CondS_b (fun h => ?_) (fun h => ?_) | refine GrdS_d (fun h => ?_) (fun h => ?_) | refine GrdS_b (fun h => ?_) (fun h => ?_) | refine OkS_i (by omega) ?_ | fail)
  rw [hf] at hc
  rw [if_pos hf] at hD
  have hnm := wFeat_name hf
  have hpl := parts_len x
  repeat' (first | intro _ | (simp [sxa, isPtrN, PV.pcs, elAt, setEl, inAt, elIn, setIn, isLst, cellsOf, Ex.ok, Ex.val, Opd.val, POp.dst, bin_int, binOK_int, bin_str, binOK_str, resOK, resV, RB.val, sub, putc, scB, scL, oneB, conf, Ex.val.eqP, Ex.val.eqL, negV, mxV, mnV, ← wr_eq, wr_zero, wr_one, wr_m1, bst_lst, byteC, partsOK, putAll, appV, nilV, slV, sslV, optB, optNum, and_assoc, exists_and_left, exists_eq_left', *]) | refine CallS_i (hc) ?_ | refine CondS_d (fun h => ?_) (fun h => ?_) | refine CondS_b (fun h => ?_) (fun h => ?_) | refine GrdS_d (fun h => ?_) (fun h => ?_) | refine GrdS_b (fun h => ?_) (fun h => ?_) | refine OkS_i (by omega) ?_ | fail)
  refine sx_count x.f3.size (fun n V => V 2 = .ptr [i x.f0, i x.f1, i x.f2, .str x.f3, .lst 2 x.nl (x.f4.map cp)] ∧ V 1 = i part ∧ V 6 = i n ∧ V 5 = .lst 1 false ((dgL x n).map iv)) 0 (by omega) (by simp [sxa, isPtrN, PV.pcs, elAt, setEl, inAt, elIn, setIn, isLst, cellsOf, Ex.ok, Ex.val, Opd.val, POp.dst, bin_int, binOK_int, bin_str, binOK_str, resOK, resV, RB.val, sub, putc, scB, scL, oneB, conf, Ex.val.eqP, Ex.val.eqL, negV, mxV, mnV, ← wr_eq, wr_zero, wr_one, wr_m1, bst_lst, byteC, partsOK, putAll, appV, nilV, slV, sslV, optB, optNum, and_assoc, exists_and_left, exists_eq_left', upTo_zero, iv, dgL]) ?_
  rintro n V hn ⟨h2, h1, h6, h5⟩
  have hw : wr .i64 ((n : Int) + 1) = n + 1 := wr_in (by omega) (by omega)
  simp [sxa, isPtrN, PV.pcs, elAt, setEl, inAt, elIn, setIn, isLst, cellsOf, Ex.ok, Ex.val, Opd.val, POp.dst, bin_int, binOK_int, bin_str, binOK_str, resOK, resV, RB.val, sub, putc, scB, scL, oneB, conf, Ex.val.eqP, Ex.val.eqL, negV, mxV, mnV, ← wr_eq, wr_zero, wr_one, wr_m1, bst_lst, byteC, partsOK, putAll, appV, nilV, slV, sslV, optB, optNum, and_assoc, exists_and_left, exists_eq_left', h2, h6]
  refine CondS_d (fun hlt => ?_) (fun hge => ?_)
  · have hlt' : n < x.f3.size := by omega
    have hlt2 : n < x.f3.data.size := hlt'
    have hb := byAt_at hlt2
    have hbl : x.f3.data[n].toNat < 256 := x.f3.data[n].toNat_lt
    obtain ⟨b, hbe⟩ : ∃ b : Int, (x.f3.data[n].toNat : Int) = b := ⟨_, rfl⟩
    rw [hbe] at hb
    have hwb : wr .i64 b = b := wr_in (by omega) (by omega)
    have hL := dgL_len x n
    have hsu : dgL x (n + 1) = dgL x n ++ [b] := by unfold dgL; rw [upTo_succ, hb]; simp
    repeat' (first | intro _ | (simp [sxa, isPtrN, PV.pcs, elAt, setEl, inAt, elIn, setIn, isLst, cellsOf, Ex.ok, Ex.val, Opd.val, POp.dst, bin_int, binOK_int, bin_str, binOK_str, resOK, resV, RB.val, sub, putc, scB, scL, oneB, conf, Ex.val.eqP, Ex.val.eqL, negV, mxV, mnV, ← wr_eq, wr_zero, wr_one, wr_m1, bst_lst, byteC, partsOK, putAll, appV, nilV, slV, sslV, optB, optNum, and_assoc, exists_and_left, exists_eq_left', iv, *]) | refine CondS_d (fun h => ?_) (fun h => ?_) | refine CondS_b (fun h => ?_) (fun h => ?_) | refine GrdS_d (fun h => ?_) (fun h => ?_) | refine GrdS_b (fun h => ?_) (fun h => ?_) | refine OkS_i (by omega) ?_ | fail)
    all_goals omega
  · have : n = x.f3.size := by omega
    subst this
    have hL := dgL_len x x.f3.size
    obtain ⟨L, hLe⟩ : ∃ L, dgL x x.f3.size = L := ⟨_, rfl⟩
    rw [hLe] at h5 hL hD
    by_cases hk : x.f1 = 1
    · have h0l := wFeat_pt hf hk
      have h0p : 0 < x.f4.length := by omega
      rw [if_pos hk] at hD
      rw [parts_pt hk] at hp
      obtain ⟨p, hpe⟩ : ∃ p, x.f4[0] = p := ⟨_, rfl⟩
      have hpg : x.f4.getD 0 ⟨0, 0⟩ = p := by simp [h0p, hpe]
      rw [hpg] at hD
      have hh := f58 (L ++ [part, p.f0, p.f1]) false (by simp; omega)
      rw [hk] at h2 hp
      by_cases hz : part = 0
      · rw [if_pos hz] at hD
        rw [hD] at hh
        subst hz
        simp [iv] at hh
        repeat' (first | intro _ | (simp [sxa, isPtrN, PV.pcs, elAt, setEl, inAt, elIn, setIn, isLst, cellsOf, Ex.ok, Ex.val, Opd.val, POp.dst, bin_int, binOK_int, bin_str, binOK_str, resOK, resV, RB.val, sub, putc, scB, scL, oneB, conf, Ex.val.eqP, Ex.val.eqL, negV, mxV, mnV, ← wr_eq, wr_zero, wr_one, wr_m1, bst_lst, byteC, partsOK, putAll, appV, nilV, slV, sslV, optB, optNum, and_assoc, exists_and_left, exists_eq_left', iv, cp, *]) | refine CallS_i (hp) ?_ | refine CallS_i (hh) ?_ | refine CondS_d (fun h => ?_) (fun h => ?_) | refine CondS_b (fun h => ?_) (fun h => ?_) | refine GrdS_d (fun h => ?_) (fun h => ?_) | refine GrdS_b (fun h => ?_) (fun h => ?_) | refine OkS_i (by omega) ?_ | fail)
        all_goals omega
      · rw [if_neg hz] at hD
        subst hD
        have hc1 := f59 part 0 (-1)
        have hi : inR part 0 (-1) = false := by unfold inR; simp; omega
        rw [hi] at hc1
        repeat' (first | intro _ | (simp [sxa, isPtrN, PV.pcs, elAt, setEl, inAt, elIn, setIn, isLst, cellsOf, Ex.ok, Ex.val, Opd.val, POp.dst, bin_int, binOK_int, bin_str, binOK_str, resOK, resV, RB.val, sub, putc, scB, scL, oneB, conf, Ex.val.eqP, Ex.val.eqL, negV, mxV, mnV, ← wr_eq, wr_zero, wr_one, wr_m1, bst_lst, byteC, partsOK, putAll, appV, nilV, slV, sslV, optB, optNum, and_assoc, exists_and_left, exists_eq_left', iv, cp, *]) | refine CallS_i (hp) ?_ | refine CallS_i (hc1) ?_ | refine CondS_d (fun h => ?_) (fun h => ?_) | refine CondS_b (fun h => ?_) (fun h => ?_) | refine GrdS_d (fun h => ?_) (fun h => ?_) | refine GrdS_b (fun h => ?_) (fun h => ?_) | refine OkS_i (by omega) ?_ | fail)
        all_goals omega
    · rw [if_neg hk] at hD
      have hws : wr .i64 (((parts x).length : Int) - 1) = (parts x).length - 1 := wr_in (by omega) (by omega)
      have hc1 := f59 part 0 ((parts x).length - 1)
      by_cases hr : 0 ≤ part ∧ part < (parts x).length
      · rw [if_pos hr] at hD
        obtain ⟨k, rfl⟩ : ∃ k : Nat, part = k := ⟨part.toNat, by omega⟩
        have hkl : k < (parts x).length := by omega
        have hi : inR (k : Int) 0 ((parts x).length - 1) = true := by unfold inR; simp; omega
        rw [hi] at hc1
        obtain ⟨S, hSe⟩ : ∃ S, (parts x)[k] = S := ⟨_, rfl⟩
        have hSg : (parts x).getD (k : Int).toNat ⟨⟨0, 0⟩, ⟨0, 0⟩⟩ = S := by simp [hkl, hSe]
        rw [hSg] at hD
        have hh := f58 (L ++ (k : Int) :: sg4 S) false (by simp [sg4]; omega)
        rw [hD] at hh
        simp [iv, sg4] at hh
        repeat' (first | intro _ | (simp [sxa, isPtrN, PV.pcs, elAt, setEl, inAt, elIn, setIn, isLst, cellsOf, Ex.ok, Ex.val, Opd.val, POp.dst, bin_int, binOK_int, bin_str, binOK_str, resOK, resV, RB.val, sub, putc, scB, scL, oneB, conf, Ex.val.eqP, Ex.val.eqL, negV, mxV, mnV, ← wr_eq, wr_zero, wr_one, wr_m1, bst_lst, byteC, partsOK, putAll, appV, nilV, slV, sslV, optB, optNum, and_assoc, exists_and_left, exists_eq_left', iv, cs, *]) | refine CallS_i (hp) ?_ | refine CallS_i (hc1) ?_ | refine CallS_i (hh) ?_ | refine CondS_d (fun h => ?_) (fun h => ?_) | refine CondS_b (fun h => ?_) (fun h => ?_) | refine GrdS_d (fun h => ?_) (fun h => ?_) | refine GrdS_b (fun h => ?_) (fun h => ?_) | refine OkS_i (by omega) ?_ | fail)
        all_goals omega
      · rw [if_neg hr] at hD
        subst hD
        have hi : inR part 0 ((parts x).length - 1) = false := by unfold inR; simp; omega
        rw [hi] at hc1
        repeat' (first | intro _ | (simp [sxa, isPtrN, PV.pcs, elAt, setEl, inAt, elIn, setIn, isLst, cellsOf, Ex.ok, Ex.val, Opd.val, POp.dst, bin_int, binOK_int, bin_str, binOK_str, resOK, resV, RB.val, sub, putc, scB, scL, oneB, conf, Ex.val.eqP, Ex.val.eqL, negV, mxV, mnV, ← wr_eq, wr_zero, wr_one, wr_m1, bst_lst, byteC, partsOK, putAll, appV, nilV, slV, sslV, optB, optNum, and_assoc, exists_and_left, exists_eq_left', iv, cs, *]) | refine CallS_i (hp) ?_ | refine CallS_i (hc1) ?_ | refine CondS_d (fun h => ?_) (fun h => ?_) | refine CondS_b (fun h => ?_) (fun h => ?_) | refine GrdS_d (fun h => ?_) (fun h => ?_) | refine GrdS_b (fun h => ?_) (fun h => ?_) | refine OkS_i (by omega) ?_ | fail)
        all_goals omega
theorem f47 (x : Ft) (part : Int) (hx : x.okay) : Fn Tryz.prog 47 false [.agg (ft x), i part] (i (dig x part)) := by
  have hc := f35 x hx
  have hp := f67 x hx
  obtain ⟨D, hD⟩ : ∃ D, dig x part = D := ⟨_, rfl⟩
  rw [hD]
  unfold dig at hD
  unfold ft at *
  refine Fn.by_sx hX (by kernel_rfl) c47 (by kernel_rfl) (by rfl) ?_
  simp [i47, sxa, isPtrN, PV.pcs, elAt, setEl, inAt, elIn, setIn, isLst, cellsOf, Ex.ok, Ex.val, Opd.val, POp.dst, bin_int, binOK_int, bin_str, binOK_str, resOK, resV, RB.val, sub, putc, scB, scL, oneB, conf, Ex.val.eqP, Ex.val.eqL, negV, mxV, mnV, ← wr_eq, wr_zero, wr_one, wr_m1, bst_lst, byteC, partsOK, putAll, appV, nilV, slV, sslV, optB, optNum, and_assoc, exists_and_left, exists_eq_left']
  by_cases hf : wFeat x = true
  case neg =>
    have hf : wFeat x = false := by simpa using hf
    rw [hf] at hc
    rw [if_neg (by simp [hf])] at hD
    repeat' (first | intro _ | (simp [sxa, isPtrN, PV.pcs, elAt, setEl, inAt, elIn, setIn, isLst, cellsOf, Ex.ok, Ex.val, Opd.val, POp.dst, bin_int, binOK_int, bin_str, binOK_str, resOK, resV, RB.val, sub, putc, scB, scL, oneB, conf, Ex.val.eqP, Ex.val.eqL, negV, mxV, mnV, ← wr_eq, wr_zero, wr_one, wr_m1, bst_lst, byteC, partsOK, putAll, appV, nilV, slV, sslV, optB, optNum, and_assoc, exists_and_left, exists_eq_left', *]) | refine CallS_i (hc) ?_ | refine CondS_d (fun h => ?_) (fun h => ?_) | refine CondS_b (fun h => ?_) (fun h => ?_) | refine GrdS_d (fun h => ?_) (fun h => ?_) | refine GrdS_b (fun h => ?_) (fun h => ?_) | refine OkS_i (by omega) ?_ | fail)
  rw [hf] at hc
  rw [if_pos hf] at hD
  have hnm := wFeat_name hf
  have hpl := parts_len x
  repeat' (first | intro _ | (simp [sxa, isPtrN, PV.pcs, elAt, setEl, inAt, elIn, setIn, isLst, cellsOf, Ex.ok, Ex.val, Opd.val, POp.dst, bin_int, binOK_int, bin_str, binOK_str, resOK, resV, RB.val, sub, putc, scB, scL, oneB, conf, Ex.val.eqP, Ex.val.eqL, negV, mxV, mnV, ← wr_eq, wr_zero, wr_one, wr_m1, bst_lst, byteC, partsOK, putAll, appV, nilV, slV, sslV, optB, optNum, and_assoc, exists_and_left, exists_eq_left', *]) | refine CallS_i (hc) ?_ | refine CondS_d (fun h => ?_) (fun h => ?_) | refine CondS_b (fun h => ?_) (fun h => ?_) | refine GrdS_d (fun h => ?_) (fun h => ?_) | refine GrdS_b (fun h => ?_) (fun h => ?_) | refine OkS_i (by omega) ?_ | fail)
  refine sx_count x.f3.size (fun n V => V 2 = .ptr [i x.f0, i x.f1, i x.f2, .str x.f3, .lst 2 x.nl (x.f4.map cp)] ∧ V 1 = i part ∧ V 24 = i x.f3.size ∧ V 25 = i n ∧ V 5 = .lst 1 false ((dgL x n).map iv)) 0 (by omega) (by simp [sxa, isPtrN, PV.pcs, elAt, setEl, inAt, elIn, setIn, isLst, cellsOf, Ex.ok, Ex.val, Opd.val, POp.dst, bin_int, binOK_int, bin_str, binOK_str, resOK, resV, RB.val, sub, putc, scB, scL, oneB, conf, Ex.val.eqP, Ex.val.eqL, negV, mxV, mnV, ← wr_eq, wr_zero, wr_one, wr_m1, bst_lst, byteC, partsOK, putAll, appV, nilV, slV, sslV, optB, optNum, and_assoc, exists_and_left, exists_eq_left', upTo_zero, iv, dgL]) ?_
  rintro n V hn ⟨h2, h1, h24, h25, h5⟩
  have hw : wr .i64 ((n : Int) + 1) = n + 1 := wr_in (by omega) (by omega)
  simp [sxa, isPtrN, PV.pcs, elAt, setEl, inAt, elIn, setIn, isLst, cellsOf, Ex.ok, Ex.val, Opd.val, POp.dst, bin_int, binOK_int, bin_str, binOK_str, resOK, resV, RB.val, sub, putc, scB, scL, oneB, conf, Ex.val.eqP, Ex.val.eqL, negV, mxV, mnV, ← wr_eq, wr_zero, wr_one, wr_m1, bst_lst, byteC, partsOK, putAll, appV, nilV, slV, sslV, optB, optNum, and_assoc, exists_and_left, exists_eq_left', h24, h25]
  refine CondS_d (fun hlt => ?_) (fun hge => ?_)
  · have hlt' : n < x.f3.size := by omega
    have hlt2 : n < x.f3.data.size := hlt'
    have hb := byAt_at hlt2
    have hbl : x.f3.data[n].toNat < 256 := x.f3.data[n].toNat_lt
    obtain ⟨b, hbe⟩ : ∃ b : Int, (x.f3.data[n].toNat : Int) = b := ⟨_, rfl⟩
    rw [hbe] at hb
    have hwb : wr .i64 b = b := wr_in (by omega) (by omega)
    have hL := dgL_len x n
    have hsu : dgL x (n + 1) = dgL x n ++ [b] := by unfold dgL; rw [upTo_succ, hb]; simp
    repeat' (first | intro _ | (simp [sxa, isPtrN, PV.pcs, elAt, setEl, inAt, elIn, setIn, isLst, cellsOf, Ex.ok, Ex.val, Opd.val, POp.dst, bin_int, binOK_int, bin_str, binOK_str, resOK, resV, RB.val, sub, putc, scB, scL, oneB, conf, Ex.val.eqP, Ex.val.eqL, negV, mxV, mnV, ← wr_eq, wr_zero, wr_one, wr_m1, bst_lst, byteC, partsOK, putAll, appV, nilV, slV, sslV, optB, optNum, and_assoc, exists_and_left, exists_eq_left', iv, *]) | refine CondS_d (fun h => ?_) (fun h => ?_) | refine CondS_b (fun h => ?_) (fun h => ?_) | refine GrdS_d (fun h => ?_) (fun h => ?_) | refine GrdS_b (fun h => ?_) (fun h => ?_) | refine OkS_i (by omega) ?_ | fail)
    all_goals omega
  · have : n = x.f3.size := by omega
    subst this
    have hL := dgL_len x x.f3.size
    obtain ⟨L, hLe⟩ : ∃ L, dgL x x.f3.size = L := ⟨_, rfl⟩
    rw [hLe] at h5 hL hD
    by_cases hk : x.f1 = 1
    · have h0l := wFeat_pt hf hk
      have h0p : 0 < x.f4.length := by omega
      rw [if_pos hk] at hD
      rw [parts_pt hk] at hp
      obtain ⟨p, hpe⟩ : ∃ p, x.f4[0] = p := ⟨_, rfl⟩
      have hpg : x.f4.getD 0 ⟨0, 0⟩ = p := by simp [h0p, hpe]
      rw [hpg] at hD
      have hh := f32 (L ++ [part, p.f0, p.f1]) false (by simp; omega)
      rw [hk] at h2 hp
      by_cases hz : part = 0
      · rw [if_pos hz] at hD
        rw [hD] at hh
        subst hz
        simp [iv] at hh
        repeat' (first | intro _ | (simp [sxa, isPtrN, PV.pcs, elAt, setEl, inAt, elIn, setIn, isLst, cellsOf, Ex.ok, Ex.val, Opd.val, POp.dst, bin_int, binOK_int, bin_str, binOK_str, resOK, resV, RB.val, sub, putc, scB, scL, oneB, conf, Ex.val.eqP, Ex.val.eqL, negV, mxV, mnV, ← wr_eq, wr_zero, wr_one, wr_m1, bst_lst, byteC, partsOK, putAll, appV, nilV, slV, sslV, optB, optNum, and_assoc, exists_and_left, exists_eq_left', iv, cp, *]) | refine CallS_i (hp) ?_ | refine CallS_i (hh) ?_ | refine CondS_d (fun h => ?_) (fun h => ?_) | refine CondS_b (fun h => ?_) (fun h => ?_) | refine GrdS_d (fun h => ?_) (fun h => ?_) | refine GrdS_b (fun h => ?_) (fun h => ?_) | refine OkS_i (by omega) ?_ | fail)
        all_goals omega
      · rw [if_neg hz] at hD
        subst hD
        repeat' (first | intro _ | (simp [sxa, isPtrN, PV.pcs, elAt, setEl, inAt, elIn, setIn, isLst, cellsOf, Ex.ok, Ex.val, Opd.val, POp.dst, bin_int, binOK_int, bin_str, binOK_str, resOK, resV, RB.val, sub, putc, scB, scL, oneB, conf, Ex.val.eqP, Ex.val.eqL, negV, mxV, mnV, ← wr_eq, wr_zero, wr_one, wr_m1, bst_lst, byteC, partsOK, putAll, appV, nilV, slV, sslV, optB, optNum, and_assoc, exists_and_left, exists_eq_left', iv, cp, *]) | refine CallS_i (hp) ?_ | refine CondS_d (fun h => ?_) (fun h => ?_) | refine CondS_b (fun h => ?_) (fun h => ?_) | refine GrdS_d (fun h => ?_) (fun h => ?_) | refine GrdS_b (fun h => ?_) (fun h => ?_) | refine OkS_i (by omega) ?_ | fail)
        all_goals omega
    · rw [if_neg hk] at hD
      have hws : wr .i64 (((parts x).length : Int) - 1) = (parts x).length - 1 := wr_in (by omega) (by omega)
      by_cases hr : 0 ≤ part ∧ part < (parts x).length
      · rw [if_pos hr] at hD
        obtain ⟨k, rfl⟩ : ∃ k : Nat, part = k := ⟨part.toNat, by omega⟩
        have hkl : k < (parts x).length := by omega
        obtain ⟨S, hSe⟩ : ∃ S, (parts x)[k] = S := ⟨_, rfl⟩
        have hSg : (parts x).getD (k : Int).toNat ⟨⟨0, 0⟩, ⟨0, 0⟩⟩ = S := by simp [hkl, hSe]
        rw [hSg] at hD
        have hh := f32 (L ++ (k : Int) :: sg4 S) false (by simp [sg4]; omega)
        rw [hD] at hh
        simp [iv, sg4] at hh
        repeat' (first | intro _ | (simp [sxa, isPtrN, PV.pcs, elAt, setEl, inAt, elIn, setIn, isLst, cellsOf, Ex.ok, Ex.val, Opd.val, POp.dst, bin_int, binOK_int, bin_str, binOK_str, resOK, resV, RB.val, sub, putc, scB, scL, oneB, conf, Ex.val.eqP, Ex.val.eqL, negV, mxV, mnV, ← wr_eq, wr_zero, wr_one, wr_m1, bst_lst, byteC, partsOK, putAll, appV, nilV, slV, sslV, optB, optNum, and_assoc, exists_and_left, exists_eq_left', iv, cs, *]) | refine CallS_i (hp) ?_ | refine CallS_i (hh) ?_ | refine CondS_d (fun h => ?_) (fun h => ?_) | refine CondS_b (fun h => ?_) (fun h => ?_) | refine GrdS_d (fun h => ?_) (fun h => ?_) | refine GrdS_b (fun h => ?_) (fun h => ?_) | refine OkS_i (by omega) ?_ | fail)
        all_goals omega
      · rw [if_neg hr] at hD
        subst hD
        repeat' (first | intro _ | (simp [sxa, isPtrN, PV.pcs, elAt, setEl, inAt, elIn, setIn, isLst, cellsOf, Ex.ok, Ex.val, Opd.val, POp.dst, bin_int, binOK_int, bin_str, binOK_str, resOK, resV, RB.val, sub, putc, scB, scL, oneB, conf, Ex.val.eqP, Ex.val.eqL, negV, mxV, mnV, ← wr_eq, wr_zero, wr_one, wr_m1, bst_lst, byteC, partsOK, putAll, appV, nilV, slV, sslV, optB, optNum, and_assoc, exists_and_left, exists_eq_left', iv, cs, *]) | refine CallS_i (hp) ?_ | refine CondS_d (fun h => ?_) (fun h => ?_) | refine CondS_b (fun h => ?_) (fun h => ?_) | refine GrdS_d (fun h => ?_) (fun h => ?_) | refine GrdS_b (fun h => ?_) (fun h => ?_) | refine OkS_i (by omega) ?_ | fail)
        all_goals omega
end Go.Eng
namespace Go.Eng
open Go Go.Proofs Geo
set_option linter.unusedSimpArgs false
set_option linter.unusedVariables false
set_option maxRecDepth 20000
set_option maxHeartbeats 1000000

theorem firstFrom_none {ok : Nat → Bool} : ∀ d n : Nat, firstFrom ok d n = -1 → ∀ j, n ≤ j → j < n + d → ok j = false
  | 0, n, _, j, h1, h2 => by omega
  | d + 1, n, h, j, h1, h2 => by
    unfold firstFrom at h
    split at h
    · omega
    · rename_i hne
      rcases Nat.lt_or_ge n j with h3 | h3
      · exact firstFrom_none d (n + 1) h j (by omega) (by omega)
      · obtain rfl : j = n := by omega
        simpa using hne
theorem find_some {l : List Ft} {id : Int} {j : Nat} (hj : j < l.length) (h : l[j].f0 = id) : ∃ k : Nat, wFind l id = k ∧ k < l.length := by
  rcases find_cases l id with h1 | h1
  · have := firstFrom_none _ _ h1 j (by omega) (by omega)
    simp [hasId, hj, h] at this
  · exact h1
theorem pcsTo_id {l : List Ft} : ∀ n : Nat, n ≤ l.length → ∀ p ∈ pcsTo l n, ∃ j : Nat, ∃ hj : j < l.length, l[j].f0 = p.f0
  | 0, _, p, hp => by simp [pcsTo] at hp
  | n + 1, hn, p, hp => by
    unfold pcsTo at hp
    rcases List.mem_append.1 hp with h | h
    · exact pcsTo_id n (by omega) p h
    · unfold pcs upTo at h
      obtain ⟨k, _, rfl⟩ := List.mem_map.1 h
      have hn' : n < l.length := by omega
      exact ⟨n, hn', by simp [pcAt, hn']⟩
theorem pieces_find {l : List Ft} {k : Nat} (hk : k < (pieces l).length) : ∃ j : Nat, wFind l (pieces l)[k].f0 = j ∧ j < l.length := by
  have hm : (pieces l)[k] ∈ pieces l := List.getElem_mem hk
  have hm2 : ∀ q ∈ pieces l, q ∈ pcsTo l l.length := by
    intro q hq
    unfold pieces at hq
    split at hq
    · exact hq
    · simp at hq
  have hm2 := hm2 _ hm
  obtain ⟨j, hj, h⟩ := pcsTo_id l.length (Nat.le_refl _) _ hm2
  exact find_some hj h
theorem pieces_len (l : List Ft) : (pieces l).length ≤ 160 := by
  unfold pieces
  split
  · rename_i h; have := wSrc_len h; have := pcsTo_len l l.length; omega
  · simp
def dgAt (l : List Ft) (P : List Pt) (k : Nat) : Int := dig (l.getD (wFind l (P.getD k ⟨0, 0⟩).f0).toNat ftD) (P.getD k ⟨0, 0⟩).f1
def slOf (before tick : Int) (l : List Ft) : Int := hsh ([before, tick] ++ upTo (dgAt l (pieces l)) (pieces l).length)
theorem f38 (before tick : Int) (l : List Ft) (n1 : Bool) (hl : l.length ≤ 1000000000000) (hb : ∀ x ∈ l, x.okay) : Fn Tryz.prog 38 false [i before, i tick, .lst 5 n1 (l.map ft)] (i (slOf before tick l)) := by
  have hp := f55 l n1 hl hb
  have hpl := pieces_len l
  have hfi := fun k hk => pieces_find (l := l) (k := k) hk
  obtain ⟨S, hS⟩ : ∃ S, slOf before tick l = S := ⟨_, rfl⟩
  rw [hS]
  unfold slOf at hS
  obtain ⟨P, hPe⟩ : ∃ P, pieces l = P := ⟨_, rfl⟩
  rw [hPe] at hp hpl hS
  have hfi' : ∀ k (hk : k < P.length), ∃ j : Nat, wFind l P[k].f0 = j ∧ j < l.length := by subst hPe; exact hfi
  clear hfi hPe
  refine Fn.by_sx hX (by kernel_rfl) c38 (by kernel_rfl) (by rfl) ?_
  simp [i38, sxa, isPtrN, PV.pcs, elAt, setEl, inAt, elIn, setIn, isLst, cellsOf, Ex.ok, Ex.val, Opd.val, POp.dst, bin_int, binOK_int, bin_str, binOK_str, resOK, resV, RB.val, sub, putc, scB, scL, oneB, conf, Ex.val.eqP, Ex.val.eqL, negV, mxV, mnV, ← wr_eq, wr_zero, wr_one, wr_m1, bst_lst, byteC, partsOK, putAll, appV, nilV, slV, sslV, optB, optNum, and_assoc, exists_and_left, exists_eq_left']
  repeat' (first | intro _ | (simp [sxa, isPtrN, PV.pcs, elAt, setEl, inAt, elIn, setIn, isLst, cellsOf, Ex.ok, Ex.val, Opd.val, POp.dst, bin_int, binOK_int, bin_str, binOK_str, resOK, resV, RB.val, sub, putc, scB, scL, oneB, conf, Ex.val.eqP, Ex.val.eqL, negV, mxV, mnV, ← wr_eq, wr_zero, wr_one, wr_m1, bst_lst, byteC, partsOK, putAll, appV, nilV, slV, sslV, optB, optNum, and_assoc, exists_and_left, exists_eq_left', *]) | refine CallS_i (hp) ?_ | refine CondS_d (fun h => ?_) (fun h => ?_) | refine CondS_b (fun h => ?_) (fun h => ?_) | refine GrdS_d (fun h => ?_) (fun h => ?_) | refine GrdS_b (fun h => ?_) (fun h => ?_) | refine OkS_i (by omega) ?_ | fail)
  refine sx_count P.length (fun n V => V 2 = .lst 5 n1 (l.map ft) ∧ V 8 = .lst 2 false (P.map cp) ∧ V 9 = i n ∧ V 7 = .lst 1 false (([before, tick] ++ upTo (dgAt l P) n).map iv)) 0 (by omega) (by simp [sxa, isPtrN, PV.pcs, elAt, setEl, inAt, elIn, setIn, isLst, cellsOf, Ex.ok, Ex.val, Opd.val, POp.dst, bin_int, binOK_int, bin_str, binOK_str, resOK, resV, RB.val, sub, putc, scB, scL, oneB, conf, Ex.val.eqP, Ex.val.eqL, negV, mxV, mnV, ← wr_eq, wr_zero, wr_one, wr_m1, bst_lst, byteC, partsOK, putAll, appV, nilV, slV, sslV, optB, optNum, and_assoc, exists_and_left, exists_eq_left', upTo_zero, iv]) ?_
  rintro n V hn ⟨h2, h8, h9, h7⟩
  have hw : wr .i64 ((n : Int) + 1) = n + 1 := wr_in (by omega) (by omega)
  simp [sxa, isPtrN, PV.pcs, elAt, setEl, inAt, elIn, setIn, isLst, cellsOf, Ex.ok, Ex.val, Opd.val, POp.dst, bin_int, binOK_int, bin_str, binOK_str, resOK, resV, RB.val, sub, putc, scB, scL, oneB, conf, Ex.val.eqP, Ex.val.eqL, negV, mxV, mnV, ← wr_eq, wr_zero, wr_one, wr_m1, bst_lst, byteC, partsOK, putAll, appV, nilV, slV, sslV, optB, optNum, and_assoc, exists_and_left, exists_eq_left', h8, h9]
  refine CondS_d (fun hlt => ?_) (fun hge => ?_)
  · have hlt' : n < P.length := by omega
    obtain ⟨k, hk, hkl⟩ := hfi' n hlt'
    obtain ⟨p, hpe⟩ : ∃ p, P[n] = p := ⟨_, rfl⟩
    rw [hpe] at hk
    have hc := f57 l n1 p.f0 hl
    rw [hk] at hc
    have hd := f56 l[k] p.f1 (hb _ (List.getElem_mem ..))
    have hda : dgAt l P n = dig l[k] p.f1 := by unfold dgAt; simp [hlt', hpe, hk, hkl]
    obtain ⟨d, hde⟩ : ∃ d, dig l[k] p.f1 = d := ⟨_, rfl⟩
    rw [hde] at hd hda
    have hup : upTo (dgAt l P) (n + 1) = upTo (dgAt l P) n ++ [d] := by rw [upTo_succ, hda]
    have hul : (upTo (dgAt l P) n).length = n := upTo_length
    clear hde hda
    repeat' (first | intro _ | (simp [sxa, isPtrN, PV.pcs, elAt, setEl, inAt, elIn, setIn, isLst, cellsOf, Ex.ok, Ex.val, Opd.val, POp.dst, bin_int, binOK_int, bin_str, binOK_str, resOK, resV, RB.val, sub, putc, scB, scL, oneB, conf, Ex.val.eqP, Ex.val.eqL, negV, mxV, mnV, ← wr_eq, wr_zero, wr_one, wr_m1, bst_lst, byteC, partsOK, putAll, appV, nilV, slV, sslV, optB, optNum, and_assoc, exists_and_left, exists_eq_left', cp, iv, *]) | refine CallS_i (hc) ?_ | refine CallS_i (hd) ?_ | refine CondS_d (fun h => ?_) (fun h => ?_) | refine CondS_b (fun h => ?_) (fun h => ?_) | refine GrdS_d (fun h => ?_) (fun h => ?_) | refine GrdS_b (fun h => ?_) (fun h => ?_) | refine OkS_i (by omega) ?_ | fail)
    all_goals omega
  · have : n = P.length := by omega
    subst this
    have hul : (upTo (dgAt l P) P.length).length = P.length := upTo_length
    have hh := f58 ([before, tick] ++ upTo (dgAt l P) P.length) false (by simp; omega)
    rw [hS] at hh
    simp [iv] at hh h7
    repeat' (first | intro _ | (simp [sxa, isPtrN, PV.pcs, elAt, setEl, inAt, elIn, setIn, isLst, cellsOf, Ex.ok, Ex.val, Opd.val, POp.dst, bin_int, binOK_int, bin_str, binOK_str, resOK, resV, RB.val, sub, putc, scB, scL, oneB, conf, Ex.val.eqP, Ex.val.eqL, negV, mxV, mnV, ← wr_eq, wr_zero, wr_one, wr_m1, bst_lst, byteC, partsOK, putAll, appV, nilV, slV, sslV, optB, optNum, and_assoc, exists_and_left, exists_eq_left', *]) | refine CallS_i (hh) ?_ | refine CondS_d (fun h => ?_) (fun h => ?_) | refine CondS_b (fun h => ?_) (fun h => ?_) | refine GrdS_d (fun h => ?_) (fun h => ?_) | refine GrdS_b (fun h => ?_) (fun h => ?_) | refine OkS_i (by omega) ?_ | fail)
theorem f33 (l : List Ft) (n1 : Bool) (P : List Pt) (hl : l.length ≤ 1000000000000) (hb : ∀ x ∈ l, x.okay) (hpl : P.length ≤ 160) (hfi' : ∀ k (hk : k < P.length), ∃ j : Nat, wFind l P[k].f0 = j ∧ j < l.length) : Fn Tryz.prog 33 true [.lst 5 n1 (l.map ft), .lst 2 false (P.map cp)] (.lst 1 false ((upTo (dgAt l P) P.length).map iv)) := by
  refine Fn.by_sx hX (by kernel_rfl) c33 (by kernel_rfl) (by rfl) ?_
  simp [i33, sxa, isPtrN, PV.pcs, elAt, setEl, inAt, elIn, setIn, isLst, cellsOf, Ex.ok, Ex.val, Opd.val, POp.dst, bin_int, binOK_int, bin_str, binOK_str, resOK, resV, RB.val, sub, putc, scB, scL, oneB, conf, Ex.val.eqP, Ex.val.eqL, negV, mxV, mnV, ← wr_eq, wr_zero, wr_one, wr_m1, bst_lst, byteC, partsOK, putAll, appV, nilV, slV, sslV, optB, optNum, and_assoc, exists_and_left, exists_eq_left']
  refine sx_count P.length (fun n V => V 0 = .lst 5 n1 (l.map ft) ∧ V 9 = .lst 2 false (P.map cp) ∧ V 10 = i P.length ∧ V 11 = i n ∧ V 5 = .lst 1 false ((upTo (dgAt l P) n).map iv)) 0 (by omega) (by simp [sxa, isPtrN, PV.pcs, elAt, setEl, inAt, elIn, setIn, isLst, cellsOf, Ex.ok, Ex.val, Opd.val, POp.dst, bin_int, binOK_int, bin_str, binOK_str, resOK, resV, RB.val, sub, putc, scB, scL, oneB, conf, Ex.val.eqP, Ex.val.eqL, negV, mxV, mnV, ← wr_eq, wr_zero, wr_one, wr_m1, bst_lst, byteC, partsOK, putAll, appV, nilV, slV, sslV, optB, optNum, and_assoc, exists_and_left, exists_eq_left', upTo_zero, iv]) ?_
  rintro n V hn ⟨h0, h9, h10, h11, h5⟩
  have hw : wr .i64 ((n : Int) + 1) = n + 1 := wr_in (by omega) (by omega)
  simp [sxa, isPtrN, PV.pcs, elAt, setEl, inAt, elIn, setIn, isLst, cellsOf, Ex.ok, Ex.val, Opd.val, POp.dst, bin_int, binOK_int, bin_str, binOK_str, resOK, resV, RB.val, sub, putc, scB, scL, oneB, conf, Ex.val.eqP, Ex.val.eqL, negV, mxV, mnV, ← wr_eq, wr_zero, wr_one, wr_m1, bst_lst, byteC, partsOK, putAll, appV, nilV, slV, sslV, optB, optNum, and_assoc, exists_and_left, exists_eq_left', h10, h11]
  refine CondS_d (fun hlt => ?_) (fun hge => ?_)
  · have hlt' : n < P.length := by omega
    obtain ⟨k, hk, hkl⟩ := hfi' n hlt'
    obtain ⟨p, hpe⟩ : ∃ p, P[n] = p := ⟨_, rfl⟩
    rw [hpe] at hk
    have hc := f48 l n1 p.f0 hl
    rw [hk] at hc
    have hd := f47 l[k] p.f1 (hb _ (List.getElem_mem ..))
    have hda : dgAt l P n = dig l[k] p.f1 := by unfold dgAt; simp [hlt', hpe, hk, hkl]
    obtain ⟨d, hde⟩ : ∃ d, dig l[k] p.f1 = d := ⟨_, rfl⟩
    rw [hde] at hd hda
    have hup : upTo (dgAt l P) (n + 1) = upTo (dgAt l P) n ++ [d] := by rw [upTo_succ, hda]
    have hul : (upTo (dgAt l P) n).length = n := upTo_length
    clear hde hda
    repeat' (first | intro _ | (simp [sxa, isPtrN, PV.pcs, elAt, setEl, inAt, elIn, setIn, isLst, cellsOf, Ex.ok, Ex.val, Opd.val, POp.dst, bin_int, binOK_int, bin_str, binOK_str, resOK, resV, RB.val, sub, putc, scB, scL, oneB, conf, Ex.val.eqP, Ex.val.eqL, negV, mxV, mnV, ← wr_eq, wr_zero, wr_one, wr_m1, bst_lst, byteC, partsOK, putAll, appV, nilV, slV, sslV, optB, optNum, and_assoc, exists_and_left, exists_eq_left', cp, iv, *]) | refine CallS_i (hc) ?_ | refine CallS_i (hd) ?_ | refine CondS_d (fun h => ?_) (fun h => ?_) | refine CondS_b (fun h => ?_) (fun h => ?_) | refine GrdS_d (fun h => ?_) (fun h => ?_) | refine GrdS_b (fun h => ?_) (fun h => ?_) | refine OkS_i (by omega) ?_ | fail)
    all_goals omega
  · have : n = P.length := by omega
    subst this
    repeat' (first | intro _ | (simp [sxa, isPtrN, PV.pcs, elAt, setEl, inAt, elIn, setIn, isLst, cellsOf, Ex.ok, Ex.val, Opd.val, POp.dst, bin_int, binOK_int, bin_str, binOK_str, resOK, resV, RB.val, sub, putc, scB, scL, oneB, conf, Ex.val.eqP, Ex.val.eqL, negV, mxV, mnV, ← wr_eq, wr_zero, wr_one, wr_m1, bst_lst, byteC, partsOK, putAll, appV, nilV, slV, sslV, optB, optNum, and_assoc, exists_and_left, exists_eq_left', *]) | refine CondS_d (fun h => ?_) (fun h => ?_) | refine CondS_b (fun h => ?_) (fun h => ?_) | refine GrdS_d (fun h => ?_) (fun h => ?_) | refine GrdS_b (fun h => ?_) (fun h => ?_) | refine OkS_i (by omega) ?_ | fail)
theorem f34 (l : List Ft) (n1 : Bool) (hl : l.length ≤ 1000000000000) (hb : ∀ x ∈ l, x.okay) : Fn Tryz.prog 34 true [.lst 5 n1 (l.map ft)] (.lst 2 false ((pieces l).map cp)) := by
  have hsrc := f20 l n1 hl hb
  refine Fn.by_sx hX (by kernel_rfl) c34 (by kernel_rfl) (by rfl) ?_
  simp [i34, sxa, isPtrN, PV.pcs, elAt, setEl, inAt, elIn, setIn, isLst, cellsOf, Ex.ok, Ex.val, Opd.val, POp.dst, bin_int, binOK_int, bin_str, binOK_str, resOK, resV, RB.val, sub, putc, scB, scL, oneB, conf, Ex.val.eqP, Ex.val.eqL, negV, mxV, mnV, ← wr_eq, wr_zero, wr_one, wr_m1, bst_lst, byteC, partsOK, putAll, appV, nilV, slV, sslV, optB, optNum, and_assoc, exists_and_left, exists_eq_left']
  by_cases hs : wSrc l = true
  · rw [hs] at hsrc
    have hlen := wSrc_len hs
    have hp : pieces l = pcsTo l l.length := by unfold pieces; rw [if_pos hs]
    rw [hp]
    repeat' (first | intro _ | (simp [sxa, isPtrN, PV.pcs, elAt, setEl, inAt, elIn, setIn, isLst, cellsOf, Ex.ok, Ex.val, Opd.val, POp.dst, bin_int, binOK_int, bin_str, binOK_str, resOK, resV, RB.val, sub, putc, scB, scL, oneB, conf, Ex.val.eqP, Ex.val.eqL, negV, mxV, mnV, ← wr_eq, wr_zero, wr_one, wr_m1, bst_lst, byteC, partsOK, putAll, appV, nilV, slV, sslV, optB, optNum, and_assoc, exists_and_left, exists_eq_left', *]) | refine CallS_i (hsrc) ?_ | refine CondS_d (fun h => ?_) (fun h => ?_) | refine CondS_b (fun h => ?_) (fun h => ?_) | refine GrdS_d (fun h => ?_) (fun h => ?_) | refine GrdS_b (fun h => ?_) (fun h => ?_) | refine OkS_i (by omega) ?_ | fail)
    refine sx_count l.length (fun n V => V 11 = .lst 5 n1 (l.map ft) ∧ V 12 = i l.length ∧ V 13 = i n ∧ V 3 = .lst 2 false ((pcsTo l n).map cp)) 0 (by omega) (by simp [sxa, isPtrN, PV.pcs, elAt, setEl, inAt, elIn, setIn, isLst, cellsOf, Ex.ok, Ex.val, Opd.val, POp.dst, bin_int, binOK_int, bin_str, binOK_str, resOK, resV, RB.val, sub, putc, scB, scL, oneB, conf, Ex.val.eqP, Ex.val.eqL, negV, mxV, mnV, ← wr_eq, wr_zero, wr_one, wr_m1, bst_lst, byteC, partsOK, putAll, appV, nilV, slV, sslV, optB, optNum, and_assoc, exists_and_left, exists_eq_left', pcsTo]) ?_
    rintro n V hn ⟨h11, h12, h13, h3⟩
    have hw : wr .i64 ((n : Int) + 1) = n + 1 := wr_in (by omega) (by omega)
    simp [sxa, isPtrN, PV.pcs, elAt, setEl, inAt, elIn, setIn, isLst, cellsOf, Ex.ok, Ex.val, Opd.val, POp.dst, bin_int, binOK_int, bin_str, binOK_str, resOK, resV, RB.val, sub, putc, scB, scL, oneB, conf, Ex.val.eqP, Ex.val.eqL, negV, mxV, mnV, ← wr_eq, wr_zero, wr_one, wr_m1, bst_lst, byteC, partsOK, putAll, appV, nilV, slV, sslV, optB, optNum, and_assoc, exists_and_left, exists_eq_left', h12, h13]
    refine CondS_d (fun hlt => ?_) (fun hge => ?_)
    · have hlt' : n < l.length := by omega
      have hok : l[n].okay := hb _ (List.getElem_mem ..)
      have hc := f49 l[n] hok
      have hbl := pcsTo_len l n
      have hpn : (pcs l[n]).length ≤ 10 := by unfold pcs; rw [upTo_length]; exact nPc_le _
      have hnx : pcsTo l (n + 1) = pcsTo l n ++ pcs l[n] := by simp [pcsTo, hlt']
      repeat' (first | intro _ | (simp [sxa, isPtrN, PV.pcs, elAt, setEl, inAt, elIn, setIn, isLst, cellsOf, Ex.ok, Ex.val, Opd.val, POp.dst, bin_int, binOK_int, bin_str, binOK_str, resOK, resV, RB.val, sub, putc, scB, scL, oneB, conf, Ex.val.eqP, Ex.val.eqL, negV, mxV, mnV, ← wr_eq, wr_zero, wr_one, wr_m1, bst_lst, byteC, partsOK, putAll, appV, nilV, slV, sslV, optB, optNum, and_assoc, exists_and_left, exists_eq_left', ft, *]) | refine CallS_i (hc) ?_ | refine CondS_d (fun h => ?_) (fun h => ?_) | refine CondS_b (fun h => ?_) (fun h => ?_) | refine GrdS_d (fun h => ?_) (fun h => ?_) | refine GrdS_b (fun h => ?_) (fun h => ?_) | refine OkS_i (by omega) ?_ | fail)
      all_goals omega
    · have : n = l.length := by omega
      subst this
      repeat' (first | intro _ | (simp [sxa, isPtrN, PV.pcs, elAt, setEl, inAt, elIn, setIn, isLst, cellsOf, Ex.ok, Ex.val, Opd.val, POp.dst, bin_int, binOK_int, bin_str, binOK_str, resOK, resV, RB.val, sub, putc, scB, scL, oneB, conf, Ex.val.eqP, Ex.val.eqL, negV, mxV, mnV, ← wr_eq, wr_zero, wr_one, wr_m1, bst_lst, byteC, partsOK, putAll, appV, nilV, slV, sslV, optB, optNum, and_assoc, exists_and_left, exists_eq_left', *]) | refine CondS_d (fun h => ?_) (fun h => ?_) | refine CondS_b (fun h => ?_) (fun h => ?_) | refine GrdS_d (fun h => ?_) (fun h => ?_) | refine GrdS_b (fun h => ?_) (fun h => ?_) | refine OkS_i (by omega) ?_ | fail)
  · have hs : wSrc l = false := by simpa using hs
    rw [hs] at hsrc
    have hp : pieces l = [] := by unfold pieces; rw [hs]; rfl
    rw [hp]
    repeat' (first | intro _ | (simp [sxa, isPtrN, PV.pcs, elAt, setEl, inAt, elIn, setIn, isLst, cellsOf, Ex.ok, Ex.val, Opd.val, POp.dst, bin_int, binOK_int, bin_str, binOK_str, resOK, resV, RB.val, sub, putc, scB, scL, oneB, conf, Ex.val.eqP, Ex.val.eqL, negV, mxV, mnV, ← wr_eq, wr_zero, wr_one, wr_m1, bst_lst, byteC, partsOK, putAll, appV, nilV, slV, sslV, optB, optNum, and_assoc, exists_and_left, exists_eq_left', *]) | refine CallS_i (hsrc) ?_ | refine CondS_d (fun h => ?_) (fun h => ?_) | refine CondS_b (fun h => ?_) (fun h => ?_) | refine GrdS_d (fun h => ?_) (fun h => ?_) | refine GrdS_b (fun h => ?_) (fun h => ?_) | refine OkS_i (by omega) ?_ | fail)
theorem f18 (before tick : Int) (l : List Ft) (n1 : Bool) (hl : l.length ≤ 1000000000000) (hb : ∀ x ∈ l, x.okay) : Fn Tryz.prog 18 false [i before, i tick, .lst 5 n1 (l.map ft)] (i (slOf before tick l)) := by
  have hp := f34 l n1 hl hb
  have hpl := pieces_len l
  have hdg := f33 l n1 (pieces l) hl hb hpl (fun k hk => pieces_find hk)
  obtain ⟨S, hS⟩ : ∃ S, slOf before tick l = S := ⟨_, rfl⟩
  rw [hS]
  unfold slOf at hS
  have hul : (upTo (dgAt l (pieces l)) (pieces l).length).length = (pieces l).length := upTo_length
  have hh := f32 ([before, tick] ++ upTo (dgAt l (pieces l)) (pieces l).length) false (by simp; omega)
  rw [hS] at hh
  simp [iv] at hh hdg
  refine Fn.by_sx hX (by kernel_rfl) c18 (by kernel_rfl) (by rfl) ?_
  simp [i18, sxa, isPtrN, PV.pcs, elAt, setEl, inAt, elIn, setIn, isLst, cellsOf, Ex.ok, Ex.val, Opd.val, POp.dst, bin_int, binOK_int, bin_str, binOK_str, resOK, resV, RB.val, sub, putc, scB, scL, oneB, conf, Ex.val.eqP, Ex.val.eqL, negV, mxV, mnV, ← wr_eq, wr_zero, wr_one, wr_m1, bst_lst, byteC, partsOK, putAll, appV, nilV, slV, sslV, optB, optNum, and_assoc, exists_and_left, exists_eq_left']
  repeat' (first | intro _ | (simp [sxa, isPtrN, PV.pcs, elAt, setEl, inAt, elIn, setIn, isLst, cellsOf, Ex.ok, Ex.val, Opd.val, POp.dst, bin_int, binOK_int, bin_str, binOK_str, resOK, resV, RB.val, sub, putc, scB, scL, oneB, conf, Ex.val.eqP, Ex.val.eqL, negV, mxV, mnV, ← wr_eq, wr_zero, wr_one, wr_m1, bst_lst, byteC, partsOK, putAll, appV, nilV, slV, sslV, optB, optNum, and_assoc, exists_and_left, exists_eq_left', *]) | refine CallS_i (hp) ?_ | refine CallS_i (hdg) ?_ | refine CallS_i (hh) ?_ | refine CondS_d (fun h => ?_) (fun h => ?_) | refine CondS_b (fun h => ?_) (fun h => ?_) | refine GrdS_d (fun h => ?_) (fun h => ?_) | refine GrdS_b (fun h => ?_) (fun h => ?_) | refine OkS_i (by omega) ?_ | fail)
  all_goals omega
end Go.Eng
namespace Go.Eng
open Go Go.Proofs Geo
set_option linter.unusedSimpArgs false
set_option linter.unusedVariables false
set_option maxRecDepth 20000
set_option maxHeartbeats 1000000

/-! editions -/
structure Ed where
  f0 : Int
  f1 : List Ft
  f2 : Int
  nl : Bool
def ed (x : Ed) : List PV := [i x.f0, .lst 5 x.nl (x.f1.map ft), i x.f2]
def edD : Ed := ⟨0, [], 0, true⟩
def Ed.fr (x : Ed) : Ed := ⟨x.f0, x.f1.map Ft.fr, x.f2, false⟩
def Ed.small (x : Ed) : Prop := x.f1.length ≤ 1048576 ∧ ∀ y ∈ x.f1, y.f3.size ≤ 1048576 ∧ y.f4.length ≤ 1048576
theorem Ed.small_fr {x : Ed} (h : x.small) : x.fr.small := by
  refine ⟨by simp [Ed.fr]; exact h.1, fun y hy => ?_⟩
  unfold Ed.fr at hy
  obtain ⟨z, hz, rfl⟩ := List.mem_map.1 hy
  exact h.2 z hz
def prevS (l : List Ed) (n : Nat) : Int := if n = 0 then 0 else (l.getD (n - 1) edD).f2
def edAt (l : List Ed) (n : Nat) : Bool :=
  inR (l.getD n edD).f0 0 100000 && wSrc (l.getD n edD).f1 && decide ((l.getD n edD).f2 = slOf (prevS l n) (l.getD n edD).f0 (l.getD n edD).f1) && !(decide (0 < n) && decide ((l.getD n edD).f0 ≤ (l.getD (n - 1) edD).f0))
def wEds (l : List Ed) : Bool := decide (l.length ≤ 6) && allTo (edAt l) l.length
def Ed.okay (x : Ed) : Prop := x.f1.length ≤ 1000000000000 ∧ ∀ y ∈ x.f1, y.okay
theorem Ed.okay_of {x : Ed} (h : x.small) : x.okay := ⟨by have := h.1; omega, fun y hy => by have := h.2 y hy; unfold Ft.okay; omega⟩
theorem f39 (l : List Ed) (nl : Bool) (hl : l.length ≤ 1000000000000) (hb : ∀ x ∈ l, x.okay) : Fn Tryz.prog 39 false [.lst 3 nl (l.map ed)] (.bool (wEds l)) := by
  refine Fn.by_sx hX (by kernel_rfl) c39 (by kernel_rfl) (by rfl) ?_
  simp [i39, sxa, isPtrN, PV.pcs, elAt, setEl, inAt, elIn, setIn, isLst, cellsOf, Ex.ok, Ex.val, Opd.val, POp.dst, bin_int, binOK_int, bin_str, binOK_str, resOK, resV, RB.val, sub, putc, scB, scL, oneB, conf, Ex.val.eqP, Ex.val.eqL, negV, mxV, mnV, ← wr_eq, wr_zero, wr_one, wr_m1, bst_lst, byteC, partsOK, putAll, appV, nilV, slV, sslV, optB, optNum, and_assoc, exists_and_left, exists_eq_left']
  refine sx_count l.length (fun n V => V 0 = .lst 3 nl (l.map ed) ∧ V 4 = i n ∧ V 3 = i (prevS l n) ∧ allTo (edAt l) n = true) 0 (by omega) (by simp [sxa, isPtrN, PV.pcs, elAt, setEl, inAt, elIn, setIn, isLst, cellsOf, Ex.ok, Ex.val, Opd.val, POp.dst, bin_int, binOK_int, bin_str, binOK_str, resOK, resV, RB.val, sub, putc, scB, scL, oneB, conf, Ex.val.eqP, Ex.val.eqL, negV, mxV, mnV, ← wr_eq, wr_zero, wr_one, wr_m1, bst_lst, byteC, partsOK, putAll, appV, nilV, slV, sslV, optB, optNum, and_assoc, exists_and_left, exists_eq_left', allTo_zero, prevS]) ?_
  rintro n V hn ⟨h0, h4, h3, ha⟩
  have hw : wr .i64 ((n : Int) + 1) = n + 1 := wr_in (by omega) (by omega)
  simp [sxa, isPtrN, PV.pcs, elAt, setEl, inAt, elIn, setIn, isLst, cellsOf, Ex.ok, Ex.val, Opd.val, POp.dst, bin_int, binOK_int, bin_str, binOK_str, resOK, resV, RB.val, sub, putc, scB, scL, oneB, conf, Ex.val.eqP, Ex.val.eqL, negV, mxV, mnV, ← wr_eq, wr_zero, wr_one, wr_m1, bst_lst, byteC, partsOK, putAll, appV, nilV, slV, sslV, optB, optNum, and_assoc, exists_and_left, exists_eq_left', h0, h4]
  by_cases hL : (l.length : Int) ≤ 6
  · by_cases hlt : (n : Int) < l.length
    · have hlt' : n < l.length := by omega
      have hbad : edAt l n = false → wEds l = false := fun h => by simp [wEds, allTo_bad hlt' h]
      have hgood : edAt l n = true → allTo (edAt l) (n + 1) = true := fun h => by rw [allTo_succ, ha, h]; rfl
      have hok := hb l[n] (List.getElem_mem ..)
      have hsr := f60 l[n].f1 l[n].nl hok.1 hok.2
      have hin := f59 l[n].f0 0 100000
      have hse := f38 (prevS l n) l[n].f0 l[n].f1 l[n].nl hok.1 hok.2
      obtain ⟨S, hS⟩ : ∃ S, slOf (prevS l n) l[n].f0 l[n].f1 = S := ⟨_, rfl⟩
      rw [hS] at hse
      have hpn : prevS l (n + 1) = l[n].f2 := by simp [prevS, hlt']
      have hed : edAt l n = (inR l[n].f0 0 100000 && wSrc l[n].f1 && decide (l[n].f2 = S) && !(decide (0 < n) && decide (l[n].f0 ≤ (l.getD (n - 1) edD).f0))) := by unfold edAt; simp [hlt', hS]
      clear hS
      rcases Nat.eq_zero_or_pos n with rfl | hpos
      · repeat' (first | intro _ | (simp [sxa, isPtrN, PV.pcs, elAt, setEl, inAt, elIn, setIn, isLst, cellsOf, Ex.ok, Ex.val, Opd.val, POp.dst, bin_int, binOK_int, bin_str, binOK_str, resOK, resV, RB.val, sub, putc, scB, scL, oneB, conf, Ex.val.eqP, Ex.val.eqL, negV, mxV, mnV, ← wr_eq, wr_zero, wr_one, wr_m1, bst_lst, byteC, partsOK, putAll, appV, nilV, slV, sslV, optB, optNum, and_assoc, exists_and_left, exists_eq_left', ed, *]) | refine CallS_b (hsr) (fun h => ?_) (fun h => ?_) | refine CallS_b (hin) (fun h => ?_) (fun h => ?_) | refine CallS_i (hse) ?_ | refine CondS_d (fun h => ?_) (fun h => ?_) | refine CondS_b (fun h => ?_) (fun h => ?_) | refine GrdS_d (fun h => ?_) (fun h => ?_) | refine GrdS_b (fun h => ?_) (fun h => ?_) | refine OkS_i (by omega) ?_ | fail)
        all_goals first | (apply hbad; simp_all; done) | (have := hgood (by simp_all); simp_all)
      · have hw2 : wr .i64 ((n : Int) - 1) = ((n - 1 : Nat) : Int) := wrap_down n hpos (by omega)
        have hpos' : (0 : Int) < n := by omega
        have hm : n - 1 < l.length := by omega
        repeat' (first | intro _ | (simp [sxa, isPtrN, PV.pcs, elAt, setEl, inAt, elIn, setIn, isLst, cellsOf, Ex.ok, Ex.val, Opd.val, POp.dst, bin_int, binOK_int, bin_str, binOK_str, resOK, resV, RB.val, sub, putc, scB, scL, oneB, conf, Ex.val.eqP, Ex.val.eqL, negV, mxV, mnV, ← wr_eq, wr_zero, wr_one, wr_m1, bst_lst, byteC, partsOK, putAll, appV, nilV, slV, sslV, optB, optNum, and_assoc, exists_and_left, exists_eq_left', ed, *]) | refine CallS_b (hsr) (fun h => ?_) (fun h => ?_) | refine CallS_b (hin) (fun h => ?_) (fun h => ?_) | refine CallS_i (hse) ?_ | refine CondS_d (fun h => ?_) (fun h => ?_) | refine CondS_b (fun h => ?_) (fun h => ?_) | refine GrdS_d (fun h => ?_) (fun h => ?_) | refine GrdS_b (fun h => ?_) (fun h => ?_) | refine OkS_i (by omega) ?_ | fail)
        all_goals first | (apply hbad; simp_all; done) | (have := hgood (by simp_all); simp_all; done) | (have := hgood (by simp_all; omega); simp_all; done)
    · have : n = l.length := by omega
      subst this
      repeat' (first | intro _ | (simp [sxa, isPtrN, PV.pcs, elAt, setEl, inAt, elIn, setIn, isLst, cellsOf, Ex.ok, Ex.val, Opd.val, POp.dst, bin_int, binOK_int, bin_str, binOK_str, resOK, resV, RB.val, sub, putc, scB, scL, oneB, conf, Ex.val.eqP, Ex.val.eqL, negV, mxV, mnV, ← wr_eq, wr_zero, wr_one, wr_m1, bst_lst, byteC, partsOK, putAll, appV, nilV, slV, sslV, optB, optNum, and_assoc, exists_and_left, exists_eq_left', *]) | refine CondS_d (fun h => ?_) (fun h => ?_) | refine CondS_b (fun h => ?_) (fun h => ?_) | refine GrdS_d (fun h => ?_) (fun h => ?_) | refine GrdS_b (fun h => ?_) (fun h => ?_) | refine OkS_i (by omega) ?_ | fail)
      all_goals simp_all [wEds]
      all_goals omega
  · have hf : wEds l = false := by simp [wEds]; omega
    repeat' (first | intro _ | (simp [sxa, isPtrN, PV.pcs, elAt, setEl, inAt, elIn, setIn, isLst, cellsOf, Ex.ok, Ex.val, Opd.val, POp.dst, bin_int, binOK_int, bin_str, binOK_str, resOK, resV, RB.val, sub, putc, scB, scL, oneB, conf, Ex.val.eqP, Ex.val.eqL, negV, mxV, mnV, ← wr_eq, wr_zero, wr_one, wr_m1, bst_lst, byteC, partsOK, putAll, appV, nilV, slV, sslV, optB, optNum, and_assoc, exists_and_left, exists_eq_left', *]) | refine CondS_d (fun h => ?_) (fun h => ?_) | refine CondS_b (fun h => ?_) (fun h => ?_) | refine GrdS_d (fun h => ?_) (fun h => ?_) | refine GrdS_b (fun h => ?_) (fun h => ?_) | refine OkS_i (by omega) ?_ | fail)
theorem f8 (l : List Ed) (nl : Bool) (hl : l.length ≤ 1000000000000) (hb : ∀ x ∈ l, x.okay) : Fn Tryz.prog 8 false [.lst 3 nl (l.map ed)] (.bool (wEds l)) := by
  refine Fn.by_sx hX (by kernel_rfl) c8 (by kernel_rfl) (by rfl) ?_
  simp [i8, sxa, isPtrN, PV.pcs, elAt, setEl, inAt, elIn, setIn, isLst, cellsOf, Ex.ok, Ex.val, Opd.val, POp.dst, bin_int, binOK_int, bin_str, binOK_str, resOK, resV, RB.val, sub, putc, scB, scL, oneB, conf, Ex.val.eqP, Ex.val.eqL, negV, mxV, mnV, ← wr_eq, wr_zero, wr_one, wr_m1, bst_lst, byteC, partsOK, putAll, appV, nilV, slV, sslV, optB, optNum, and_assoc, exists_and_left, exists_eq_left']
  by_cases hL : (l.length : Int) > 6
  · have hf : wEds l = false := by simp [wEds]; omega
    repeat' (first | intro _ | (simp [sxa, isPtrN, PV.pcs, elAt, setEl, inAt, elIn, setIn, isLst, cellsOf, Ex.ok, Ex.val, Opd.val, POp.dst, bin_int, binOK_int, bin_str, binOK_str, resOK, resV, RB.val, sub, putc, scB, scL, oneB, conf, Ex.val.eqP, Ex.val.eqL, negV, mxV, mnV, ← wr_eq, wr_zero, wr_one, wr_m1, bst_lst, byteC, partsOK, putAll, appV, nilV, slV, sslV, optB, optNum, and_assoc, exists_and_left, exists_eq_left', *]) | refine CondS_d (fun h => ?_) (fun h => ?_) | refine CondS_b (fun h => ?_) (fun h => ?_) | refine GrdS_d (fun h => ?_) (fun h => ?_) | refine GrdS_b (fun h => ?_) (fun h => ?_) | refine OkS_i (by omega) ?_ | fail)
  have hL' : l.length ≤ 6 := by omega
  repeat' (first | intro _ | (simp [sxa, isPtrN, PV.pcs, elAt, setEl, inAt, elIn, setIn, isLst, cellsOf, Ex.ok, Ex.val, Opd.val, POp.dst, bin_int, binOK_int, bin_str, binOK_str, resOK, resV, RB.val, sub, putc, scB, scL, oneB, conf, Ex.val.eqP, Ex.val.eqL, negV, mxV, mnV, ← wr_eq, wr_zero, wr_one, wr_m1, bst_lst, byteC, partsOK, putAll, appV, nilV, slV, sslV, optB, optNum, and_assoc, exists_and_left, exists_eq_left', *]) | refine CondS_d (fun h => ?_) (fun h => ?_) | refine CondS_b (fun h => ?_) (fun h => ?_) | refine GrdS_d (fun h => ?_) (fun h => ?_) | refine GrdS_b (fun h => ?_) (fun h => ?_) | refine OkS_i (by omega) ?_ | fail)
  refine sx_count l.length (fun n V => V 0 = .lst 3 nl (l.map ed) ∧ V 9 = .lst 3 nl (l.map ed) ∧ V 10 = i l.length ∧ V 11 = i n ∧ V 3 = i (prevS l n) ∧ allTo (edAt l) n = true) 0 (by omega) (by simp [sxa, isPtrN, PV.pcs, elAt, setEl, inAt, elIn, setIn, isLst, cellsOf, Ex.ok, Ex.val, Opd.val, POp.dst, bin_int, binOK_int, bin_str, binOK_str, resOK, resV, RB.val, sub, putc, scB, scL, oneB, conf, Ex.val.eqP, Ex.val.eqL, negV, mxV, mnV, ← wr_eq, wr_zero, wr_one, wr_m1, bst_lst, byteC, partsOK, putAll, appV, nilV, slV, sslV, optB, optNum, and_assoc, exists_and_left, exists_eq_left', allTo_zero, prevS]) ?_
  rintro n V hn ⟨h0, h9, h10, h11, h3, ha⟩
  have hw : wr .i64 ((n : Int) + 1) = n + 1 := wr_in (by omega) (by omega)
  simp [sxa, isPtrN, PV.pcs, elAt, setEl, inAt, elIn, setIn, isLst, cellsOf, Ex.ok, Ex.val, Opd.val, POp.dst, bin_int, binOK_int, bin_str, binOK_str, resOK, resV, RB.val, sub, putc, scB, scL, oneB, conf, Ex.val.eqP, Ex.val.eqL, negV, mxV, mnV, ← wr_eq, wr_zero, wr_one, wr_m1, bst_lst, byteC, partsOK, putAll, appV, nilV, slV, sslV, optB, optNum, and_assoc, exists_and_left, exists_eq_left', h10, h11]
  refine CondS_d (fun hlt => ?_) (fun hge => ?_)
  · have hlt' : n < l.length := by omega
    have hbad : edAt l n = false → wEds l = false := fun h => by simp [wEds, allTo_bad hlt' h]
    have hgood : edAt l n = true → allTo (edAt l) (n + 1) = true := fun h => by rw [allTo_succ, ha, h]; rfl
    have hok := hb l[n] (List.getElem_mem ..)
    have hsr := f20 l[n].f1 l[n].nl hok.1 hok.2
    have hin := f19 l[n].f0 0 100000
    have hse := f18 (prevS l n) l[n].f0 l[n].f1 l[n].nl hok.1 hok.2
    obtain ⟨S, hS⟩ : ∃ S, slOf (prevS l n) l[n].f0 l[n].f1 = S := ⟨_, rfl⟩
    rw [hS] at hse
    have hpn : prevS l (n + 1) = l[n].f2 := by simp [prevS, hlt']
    have hed : edAt l n = (inR l[n].f0 0 100000 && wSrc l[n].f1 && decide (l[n].f2 = S) && !(decide (0 < n) && decide (l[n].f0 ≤ (l.getD (n - 1) edD).f0))) := by unfold edAt; simp [hlt', hS]
    clear hS
    rcases Nat.eq_zero_or_pos n with rfl | hpos
    · repeat' (first | intro _ | (simp [sxa, isPtrN, PV.pcs, elAt, setEl, inAt, elIn, setIn, isLst, cellsOf, Ex.ok, Ex.val, Opd.val, POp.dst, bin_int, binOK_int, bin_str, binOK_str, resOK, resV, RB.val, sub, putc, scB, scL, oneB, conf, Ex.val.eqP, Ex.val.eqL, negV, mxV, mnV, ← wr_eq, wr_zero, wr_one, wr_m1, bst_lst, byteC, partsOK, putAll, appV, nilV, slV, sslV, optB, optNum, and_assoc, exists_and_left, exists_eq_left', ed, *]) | refine CallS_b (hsr) (fun h => ?_) (fun h => ?_) | refine CallS_b (hin) (fun h => ?_) (fun h => ?_) | refine CallS_i (hse) ?_ | refine CondS_d (fun h => ?_) (fun h => ?_) | refine CondS_b (fun h => ?_) (fun h => ?_) | refine GrdS_d (fun h => ?_) (fun h => ?_) | refine GrdS_b (fun h => ?_) (fun h => ?_) | refine OkS_i (by omega) ?_ | fail)
      all_goals first | (apply hbad; simp_all; done) | (have := hgood (by simp_all); simp_all)
    · have hw2 : wr .i64 ((n : Int) - 1) = ((n - 1 : Nat) : Int) := wrap_down n hpos (by omega)
      have hpos' : (0 : Int) < n := by omega
      have hm : n - 1 < l.length := by omega
      repeat' (first | intro _ | (simp [sxa, isPtrN, PV.pcs, elAt, setEl, inAt, elIn, setIn, isLst, cellsOf, Ex.ok, Ex.val, Opd.val, POp.dst, bin_int, binOK_int, bin_str, binOK_str, resOK, resV, RB.val, sub, putc, scB, scL, oneB, conf, Ex.val.eqP, Ex.val.eqL, negV, mxV, mnV, ← wr_eq, wr_zero, wr_one, wr_m1, bst_lst, byteC, partsOK, putAll, appV, nilV, slV, sslV, optB, optNum, and_assoc, exists_and_left, exists_eq_left', ed, *]) | refine CallS_b (hsr) (fun h => ?_) (fun h => ?_) | refine CallS_b (hin) (fun h => ?_) (fun h => ?_) | refine CallS_i (hse) ?_ | refine CondS_d (fun h => ?_) (fun h => ?_) | refine CondS_b (fun h => ?_) (fun h => ?_) | refine GrdS_d (fun h => ?_) (fun h => ?_) | refine GrdS_b (fun h => ?_) (fun h => ?_) | refine OkS_i (by omega) ?_ | fail)
      all_goals first | (apply hbad; simp_all; done) | (have := hgood (by simp_all); simp_all; done) | (have := hgood (by simp_all; omega); simp_all; done)
  · have : n = l.length := by omega
    subst this
    repeat' (first | intro _ | (simp [sxa, isPtrN, PV.pcs, elAt, setEl, inAt, elIn, setIn, isLst, cellsOf, Ex.ok, Ex.val, Opd.val, POp.dst, bin_int, binOK_int, bin_str, binOK_str, resOK, resV, RB.val, sub, putc, scB, scL, oneB, conf, Ex.val.eqP, Ex.val.eqL, negV, mxV, mnV, ← wr_eq, wr_zero, wr_one, wr_m1, bst_lst, byteC, partsOK, putAll, appV, nilV, slV, sslV, optB, optNum, and_assoc, exists_and_left, exists_eq_left', *]) | refine CondS_d (fun h => ?_) (fun h => ?_) | refine CondS_b (fun h => ?_) (fun h => ?_) | refine GrdS_d (fun h => ?_) (fun h => ?_) | refine GrdS_b (fun h => ?_) (fun h => ?_) | refine OkS_i (by omega) ?_ | fail)
    all_goals simp_all [wEds]
end Go.Eng
namespace Go.Eng
open Go Go.Proofs Geo
set_option linter.unusedSimpArgs false
set_option linter.unusedVariables false
set_option maxRecDepth 20000
set_option maxHeartbeats 1000000

/-! copies of sources and of editions. WRITES -/
def lastTo (l : List Ed) (tick : Int) : Nat → Int
  | 0 => -1
  | n + 1 => if (l.getD n edD).f0 ≤ tick then (n : Int) else lastTo l tick n
def curS (l : List Ed) (tick : Int) (n : Nat) : List Ft := if lastTo l tick n < 0 then [] else (l.getD (lastTo l tick n).toNat edD).f1.map Ft.fr
def curB (l : List Ed) (tick : Int) (n : Nat) : Bool := decide (0 ≤ lastTo l tick n)
def edS (l : List Ed) (tick : Int) : List Ft := if wEds l = true then curS l tick l.length else []
def edB (l : List Ed) (tick : Int) : Bool := wEds l && curB l tick l.length
def Ed.fine (x : Ed) : Prop := x.f1.length ≤ 1000000000 ∧ ∀ y ∈ x.f1, y.f4.length ≤ 1000000000 ∧ y.nl = false
theorem f7 (l : List Ed) (nl : Bool) (tick : Int) (hl : l.length ≤ 1000000000000) (hb : ∀ x ∈ l, x.okay) (hf : ∀ x ∈ l, x.fine) : Fn Tryz.prog 7 true [.lst 3 nl (l.map ed), i tick] (.tup [.lst 5 false ((edS l tick).map ft), .bool (edB l tick)]) := by
  have hare := f8 l nl hl hb
  refine Fn.by_sx hX (by kernel_rfl) c7 (by kernel_rfl) (by rfl) ?_
  simp [i7, sxa, isPtrN, PV.pcs, elAt, setEl, inAt, elIn, setIn, isLst, cellsOf, Ex.ok, Ex.val, Opd.val, POp.dst, bin_int, binOK_int, bin_str, binOK_str, resOK, resV, RB.val, sub, putc, scB, scL, oneB, conf, Ex.val.eqP, Ex.val.eqL, negV, mxV, mnV, ← wr_eq, wr_zero, wr_one, wr_m1, bst_lst, byteC, partsOK, putAll, appV, nilV, slV, sslV, optB, optNum, and_assoc, exists_and_left, exists_eq_left']
  cases hE : wEds l with
  | false =>
    have e1 : edS l tick = [] := by unfold edS; rw [hE]; rfl
    have e2 : edB l tick = false := by unfold edB; rw [hE]; rfl
    rw [hE] at hare
    rw [e1, e2]
    repeat' (first | intro _ | (simp [sxa, isPtrN, PV.pcs, elAt, setEl, inAt, elIn, setIn, isLst, cellsOf, Ex.ok, Ex.val, Opd.val, POp.dst, bin_int, binOK_int, bin_str, binOK_str, resOK, resV, RB.val, sub, putc, scB, scL, oneB, conf, Ex.val.eqP, Ex.val.eqL, negV, mxV, mnV, ← wr_eq, wr_zero, wr_one, wr_m1, bst_lst, byteC, partsOK, putAll, appV, nilV, slV, sslV, optB, optNum, and_assoc, exists_and_left, exists_eq_left', *]) | refine CallS_i (hare) ?_ | refine CallM_i (hare) ?_ | refine CallE_i (hare) ?_ | refine CallX_i (hare) ?_ | refine CallB_i (hare) ?_ | refine CondS_d (fun h => ?_) (fun h => ?_) | refine CondS_b (fun h => ?_) (fun h => ?_) | refine GrdS_d (fun h => ?_) (fun h => ?_) | refine GrdS_b (fun h => ?_) (fun h => ?_) | refine OkS_i (by omega) ?_ | fail)
  | true =>
    have e1 : edS l tick = curS l tick l.length := by unfold edS; rw [if_pos hE]
    have e2 : edB l tick = curB l tick l.length := by unfold edB; rw [hE]; rfl
    rw [hE] at hare
    rw [e1, e2]
    repeat' (first | intro _ | (simp [sxa, isPtrN, PV.pcs, elAt, setEl, inAt, elIn, setIn, isLst, cellsOf, Ex.ok, Ex.val, Opd.val, POp.dst, bin_int, binOK_int, bin_str, binOK_str, resOK, resV, RB.val, sub, putc, scB, scL, oneB, conf, Ex.val.eqP, Ex.val.eqL, negV, mxV, mnV, ← wr_eq, wr_zero, wr_one, wr_m1, bst_lst, byteC, partsOK, putAll, appV, nilV, slV, sslV, optB, optNum, and_assoc, exists_and_left, exists_eq_left', *]) | refine CallS_i (hare) ?_ | refine CallM_i (hare) ?_ | refine CallE_i (hare) ?_ | refine CallX_i (hare) ?_ | refine CallB_i (hare) ?_ | refine CondS_d (fun h => ?_) (fun h => ?_) | refine CondS_b (fun h => ?_) (fun h => ?_) | refine GrdS_d (fun h => ?_) (fun h => ?_) | refine GrdS_b (fun h => ?_) (fun h => ?_) | refine OkS_i (by omega) ?_ | fail)
    refine sx_count l.length (fun n V => V 15 = .lst 3 nl (l.map ed) ∧ V 16 = i l.length ∧ V 17 = i n ∧ V 1 = i tick ∧ V 6 = .lst 5 false ((curS l tick n).map ft) ∧ V 7 = .bool (curB l tick n)) 0 (by omega) (by simp [sxa, isPtrN, PV.pcs, elAt, setEl, inAt, elIn, setIn, isLst, cellsOf, Ex.ok, Ex.val, Opd.val, POp.dst, bin_int, binOK_int, bin_str, binOK_str, resOK, resV, RB.val, sub, putc, scB, scL, oneB, conf, Ex.val.eqP, Ex.val.eqL, negV, mxV, mnV, ← wr_eq, wr_zero, wr_one, wr_m1, bst_lst, byteC, partsOK, putAll, appV, nilV, slV, sslV, optB, optNum, and_assoc, exists_and_left, exists_eq_left', curS, curB, lastTo]) ?_
    rintro n V hn ⟨h15, h16, h17, h1, h6, h7⟩
    have hw : wr .i64 ((n : Int) + 1) = n + 1 := wr_in (by omega) (by omega)
    simp [sxa, isPtrN, PV.pcs, elAt, setEl, inAt, elIn, setIn, isLst, cellsOf, Ex.ok, Ex.val, Opd.val, POp.dst, bin_int, binOK_int, bin_str, binOK_str, resOK, resV, RB.val, sub, putc, scB, scL, oneB, conf, Ex.val.eqP, Ex.val.eqL, negV, mxV, mnV, ← wr_eq, wr_zero, wr_one, wr_m1, bst_lst, byteC, partsOK, putAll, appV, nilV, slV, sslV, optB, optNum, and_assoc, exists_and_left, exists_eq_left', h16, h17]
    refine CondS_d (fun hlt => ?_) (fun hge => ?_)
    · have hlt' : n < l.length := by omega
      by_cases ht : l[n].f0 ≤ tick
      · have hnx : lastTo l tick (n + 1) = n := by simp [lastTo, hlt', ht]
        have n1 : curS l tick (n + 1) = l[n].f1.map Ft.fr := by unfold curS; rw [hnx, if_neg (by omega)]; simp [hlt']
        have n2 : curB l tick (n + 1) = true := by unfold curB; rw [hnx]; simp
        have hd := hf l[n] (List.getElem_mem ..)
        have hc := f17 l[n].f1 l[n].nl hd.1 (fun y hy => (hd.2 y hy).1) (fun y hy => (hd.2 y hy).2)
        rw [← n1] at hc
        obtain ⟨Z, hZ⟩ : ∃ Z, (curS l tick (n + 1)).map ft = Z := ⟨_, rfl⟩
        rw [hZ] at hc
        clear hb hf hd n1 hnx
        repeat' (first | intro _ | (simp [sxa, isPtrN, PV.pcs, elAt, setEl, inAt, elIn, setIn, isLst, cellsOf, Ex.ok, Ex.val, Opd.val, POp.dst, bin_int, binOK_int, bin_str, binOK_str, resOK, resV, RB.val, sub, putc, scB, scL, oneB, conf, Ex.val.eqP, Ex.val.eqL, negV, mxV, mnV, ← wr_eq, wr_zero, wr_one, wr_m1, bst_lst, byteC, partsOK, putAll, appV, nilV, slV, sslV, optB, optNum, and_assoc, exists_and_left, exists_eq_left', ed, *]) | refine CallS_i (hc) ?_ | refine CallM_i (hc) ?_ | refine CallE_i (hc) ?_ | refine CallX_i (hc) ?_ | refine CallB_i (hc) ?_ | refine CondS_d (fun h => ?_) (fun h => ?_) | refine CondS_b (fun h => ?_) (fun h => ?_) | refine GrdS_d (fun h => ?_) (fun h => ?_) | refine GrdS_b (fun h => ?_) (fun h => ?_) | refine OkS_i (by omega) ?_ | fail)
      · have hnx : lastTo l tick (n + 1) = lastTo l tick n := by simp [lastTo, hlt', ht]
        have n1 : curS l tick (n + 1) = curS l tick n := by unfold curS; rw [hnx]
        have n2 : curB l tick (n + 1) = curB l tick n := by unfold curB; rw [hnx]
        have ht' : ¬ l[n].f0 ≤ tick := ht
        clear hb hf hnx
        repeat' (first | intro _ | (simp [sxa, isPtrN, PV.pcs, elAt, setEl, inAt, elIn, setIn, isLst, cellsOf, Ex.ok, Ex.val, Opd.val, POp.dst, bin_int, binOK_int, bin_str, binOK_str, resOK, resV, RB.val, sub, putc, scB, scL, oneB, conf, Ex.val.eqP, Ex.val.eqL, negV, mxV, mnV, ← wr_eq, wr_zero, wr_one, wr_m1, bst_lst, byteC, partsOK, putAll, appV, nilV, slV, sslV, optB, optNum, and_assoc, exists_and_left, exists_eq_left', ed, *]) | refine CondS_d (fun h => ?_) (fun h => ?_) | refine CondS_b (fun h => ?_) (fun h => ?_) | refine GrdS_d (fun h => ?_) (fun h => ?_) | refine GrdS_b (fun h => ?_) (fun h => ?_) | refine OkS_i (by omega) ?_ | fail)
    · have : n = l.length := by omega
      subst this
      repeat' (first | intro _ | (simp [sxa, isPtrN, PV.pcs, elAt, setEl, inAt, elIn, setIn, isLst, cellsOf, Ex.ok, Ex.val, Opd.val, POp.dst, bin_int, binOK_int, bin_str, binOK_str, resOK, resV, RB.val, sub, putc, scB, scL, oneB, conf, Ex.val.eqP, Ex.val.eqL, negV, mxV, mnV, ← wr_eq, wr_zero, wr_one, wr_m1, bst_lst, byteC, partsOK, putAll, appV, nilV, slV, sslV, optB, optNum, and_assoc, exists_and_left, exists_eq_left', *]) | refine CondS_d (fun h => ?_) (fun h => ?_) | refine CondS_b (fun h => ?_) (fun h => ?_) | refine GrdS_d (fun h => ?_) (fun h => ?_) | refine GrdS_b (fun h => ?_) (fun h => ?_) | refine OkS_i (by omega) ?_ | fail)
end Go.Eng
namespace Go.Eng
open Go Go.Proofs Geo
set_option linter.unusedSimpArgs false
set_option linter.unusedVariables false
set_option maxRecDepth 20000
set_option maxHeartbeats 1000000

/-! marks of editions. WRITES -/
end Go.Eng
namespace Go.Eng
open Go Go.Proofs Geo
set_option linter.unusedSimpArgs false
set_option linter.unusedVariables false
set_option maxRecDepth 20000
set_option maxHeartbeats 1000000

/-! an edition is added. WRITES -/
def frED (l : List Ed) (n : Nat) : List Ed := (l.take n).map Ed.fr
theorem frED_succ {l : List Ed} {n : Nat} (h : n < l.length) : frED l (n + 1) = frED l n ++ [l[n].fr] := by
  unfold frED
  rw [List.take_add_one, List.getElem?_eq_getElem h, List.map_append]
  rfl
theorem frED_all (l : List Ed) : frED l l.length = l.map Ed.fr := by unfold frED; rw [List.take_of_length_le (Nat.le_refl _)]
theorem frED_len {l : List Ed} {n : Nat} (h : n ≤ l.length) : (frED l n).length = n := by unfold frED; simp; omega
theorem f23 (l : List Ed) (nl : Bool) (hl : l.length ≤ 1000000000) (hf : ∀ x ∈ l, x.fine) : Fn Tryz.prog 23 true [.lst 3 nl (l.map ed)] (.lst 3 false ((l.map Ed.fr).map ed)) := by
  refine Fn.by_sx hX (by kernel_rfl) c23 (by kernel_rfl) (by rfl) ?_
  simp [i23, sxa, isPtrN, PV.pcs, elAt, setEl, inAt, elIn, setIn, isLst, cellsOf, Ex.ok, Ex.val, Opd.val, POp.dst, bin_int, binOK_int, bin_str, binOK_str, resOK, resV, RB.val, sub, putc, scB, scL, oneB, conf, Ex.val.eqP, Ex.val.eqL, negV, mxV, mnV, ← wr_eq, wr_zero, wr_one, wr_m1, bst_lst, byteC, partsOK, putAll, appV, nilV, slV, sslV, optB, optNum, and_assoc, exists_and_left, exists_eq_left']
  refine sx_count l.length (fun n V => V 0 = .lst 3 nl (l.map ed) ∧ V 4 = i n ∧ V 3 = .lst 3 false ((frED l n).map ed)) 0 (by omega) (by simp [sxa, isPtrN, PV.pcs, elAt, setEl, inAt, elIn, setIn, isLst, cellsOf, Ex.ok, Ex.val, Opd.val, POp.dst, bin_int, binOK_int, bin_str, binOK_str, resOK, resV, RB.val, sub, putc, scB, scL, oneB, conf, Ex.val.eqP, Ex.val.eqL, negV, mxV, mnV, ← wr_eq, wr_zero, wr_one, wr_m1, bst_lst, byteC, partsOK, putAll, appV, nilV, slV, sslV, optB, optNum, and_assoc, exists_and_left, exists_eq_left', frED]) ?_
  rintro n V hn ⟨h0, h4, h3⟩
  have hw : wr .i64 ((n : Int) + 1) = n + 1 := wr_in (by omega) (by omega)
  simp [sxa, isPtrN, PV.pcs, elAt, setEl, inAt, elIn, setIn, isLst, cellsOf, Ex.ok, Ex.val, Opd.val, POp.dst, bin_int, binOK_int, bin_str, binOK_str, resOK, resV, RB.val, sub, putc, scB, scL, oneB, conf, Ex.val.eqP, Ex.val.eqL, negV, mxV, mnV, ← wr_eq, wr_zero, wr_one, wr_m1, bst_lst, byteC, partsOK, putAll, appV, nilV, slV, sslV, optB, optNum, and_assoc, exists_and_left, exists_eq_left', h0, h4]
  refine CondS_d (fun hlt => ?_) (fun hge => ?_)
  · have hlt' : n < l.length := by omega
    have hnx := frED_succ hlt'
    have hlen := frED_len (l := l) (n := n) (by omega)
    have hd := hf l[n] (List.getElem_mem ..)
    have hc := f37 l[n].f1 l[n].nl hd.1 (fun y hy => (hd.2 y hy).1)
    have hee : ed l[n].fr = [i l[n].f0, .lst 5 false ((l[n].f1.map Ft.fr).map ft), i l[n].f2] := rfl
    obtain ⟨Z, hZ⟩ : ∃ Z, (l[n].f1.map Ft.fr).map ft = Z := ⟨_, rfl⟩
    rw [hZ] at hc hee
    clear hZ hf hd
    repeat' (first | intro _ | (simp [sxa, isPtrN, PV.pcs, elAt, setEl, inAt, elIn, setIn, isLst, cellsOf, Ex.ok, Ex.val, Opd.val, POp.dst, bin_int, binOK_int, bin_str, binOK_str, resOK, resV, RB.val, sub, putc, scB, scL, oneB, conf, Ex.val.eqP, Ex.val.eqL, negV, mxV, mnV, ← wr_eq, wr_zero, wr_one, wr_m1, bst_lst, byteC, partsOK, putAll, appV, nilV, slV, sslV, optB, optNum, and_assoc, exists_and_left, exists_eq_left', ed, *]) | refine CallS_i (hc) ?_ | refine CallM_i (hc) ?_ | refine CallE_i (hc) ?_ | refine CallX_i (hc) ?_ | refine CallB_i (hc) ?_ | refine CondS_d (fun h => ?_) (fun h => ?_) | refine CondS_b (fun h => ?_) (fun h => ?_) | refine GrdS_d (fun h => ?_) (fun h => ?_) | refine GrdS_b (fun h => ?_) (fun h => ?_) | refine OkS_i (by omega) ?_ | fail)
    all_goals first | omega | exact ⟨rfl, rfl, by have h := (List.cons.inj (List.cons.inj hee).2).1; injection h with _ _ h; exact h.symm, rfl⟩
  · have : n = l.length := by omega
    subst this
    have ha := frED_all l
    repeat' (first | intro _ | (simp [sxa, isPtrN, PV.pcs, elAt, setEl, inAt, elIn, setIn, isLst, cellsOf, Ex.ok, Ex.val, Opd.val, POp.dst, bin_int, binOK_int, bin_str, binOK_str, resOK, resV, RB.val, sub, putc, scB, scL, oneB, conf, Ex.val.eqP, Ex.val.eqL, negV, mxV, mnV, ← wr_eq, wr_zero, wr_one, wr_m1, bst_lst, byteC, partsOK, putAll, appV, nilV, slV, sslV, optB, optNum, and_assoc, exists_and_left, exists_eq_left', *]) | refine CondS_d (fun h => ?_) (fun h => ?_) | refine CondS_b (fun h => ?_) (fun h => ?_) | refine GrdS_d (fun h => ?_) (fun h => ?_) | refine GrdS_b (fun h => ?_) (fun h => ?_) | refine OkS_i (by omega) ?_ | fail)
theorem f16 (l : List Ed) (nl : Bool) (hl : l.length ≤ 1000000000) (hf : ∀ x ∈ l, x.fine) : Fn Tryz.prog 16 true [.lst 3 nl (l.map ed)] (.lst 3 false ((l.map Ed.fr).map ed)) := by
  refine Fn.by_sx hX (by kernel_rfl) c16 (by kernel_rfl) (by rfl) ?_
  simp [i16, sxa, isPtrN, PV.pcs, elAt, setEl, inAt, elIn, setIn, isLst, cellsOf, Ex.ok, Ex.val, Opd.val, POp.dst, bin_int, binOK_int, bin_str, binOK_str, resOK, resV, RB.val, sub, putc, scB, scL, oneB, conf, Ex.val.eqP, Ex.val.eqL, negV, mxV, mnV, ← wr_eq, wr_zero, wr_one, wr_m1, bst_lst, byteC, partsOK, putAll, appV, nilV, slV, sslV, optB, optNum, and_assoc, exists_and_left, exists_eq_left']
  refine sx_count l.length (fun n V => V 7 = .lst 3 nl (l.map ed) ∧ V 8 = i l.length ∧ V 9 = i n ∧ V 3 = .lst 3 false ((frED l n).map ed)) 0 (by omega) (by simp [sxa, isPtrN, PV.pcs, elAt, setEl, inAt, elIn, setIn, isLst, cellsOf, Ex.ok, Ex.val, Opd.val, POp.dst, bin_int, binOK_int, bin_str, binOK_str, resOK, resV, RB.val, sub, putc, scB, scL, oneB, conf, Ex.val.eqP, Ex.val.eqL, negV, mxV, mnV, ← wr_eq, wr_zero, wr_one, wr_m1, bst_lst, byteC, partsOK, putAll, appV, nilV, slV, sslV, optB, optNum, and_assoc, exists_and_left, exists_eq_left', frED]) ?_
  rintro n V hn ⟨h7, h8, h9, h3⟩
  have hw : wr .i64 ((n : Int) + 1) = n + 1 := wr_in (by omega) (by omega)
  simp [sxa, isPtrN, PV.pcs, elAt, setEl, inAt, elIn, setIn, isLst, cellsOf, Ex.ok, Ex.val, Opd.val, POp.dst, bin_int, binOK_int, bin_str, binOK_str, resOK, resV, RB.val, sub, putc, scB, scL, oneB, conf, Ex.val.eqP, Ex.val.eqL, negV, mxV, mnV, ← wr_eq, wr_zero, wr_one, wr_m1, bst_lst, byteC, partsOK, putAll, appV, nilV, slV, sslV, optB, optNum, and_assoc, exists_and_left, exists_eq_left', h8, h9]
  refine CondS_d (fun hlt => ?_) (fun hge => ?_)
  · have hlt' : n < l.length := by omega
    have hnx := frED_succ hlt'
    have hlen := frED_len (l := l) (n := n) (by omega)
    have hd := hf l[n] (List.getElem_mem ..)
    have hc := f17 l[n].f1 l[n].nl hd.1 (fun y hy => (hd.2 y hy).1) (fun y hy => (hd.2 y hy).2)
    have hee : ed l[n].fr = [i l[n].f0, .lst 5 false ((l[n].f1.map Ft.fr).map ft), i l[n].f2] := rfl
    obtain ⟨Z, hZ⟩ : ∃ Z, (l[n].f1.map Ft.fr).map ft = Z := ⟨_, rfl⟩
    rw [hZ] at hc hee
    clear hZ hf hd
    repeat' (first | intro _ | (simp [sxa, isPtrN, PV.pcs, elAt, setEl, inAt, elIn, setIn, isLst, cellsOf, Ex.ok, Ex.val, Opd.val, POp.dst, bin_int, binOK_int, bin_str, binOK_str, resOK, resV, RB.val, sub, putc, scB, scL, oneB, conf, Ex.val.eqP, Ex.val.eqL, negV, mxV, mnV, ← wr_eq, wr_zero, wr_one, wr_m1, bst_lst, byteC, partsOK, putAll, appV, nilV, slV, sslV, optB, optNum, and_assoc, exists_and_left, exists_eq_left', ed, *]) | refine CallS_i (hc) ?_ | refine CallM_i (hc) ?_ | refine CallE_i (hc) ?_ | refine CallX_i (hc) ?_ | refine CallB_i (hc) ?_ | refine CondS_d (fun h => ?_) (fun h => ?_) | refine CondS_b (fun h => ?_) (fun h => ?_) | refine GrdS_d (fun h => ?_) (fun h => ?_) | refine GrdS_b (fun h => ?_) (fun h => ?_) | refine OkS_i (by omega) ?_ | fail)
    all_goals first | omega | exact ⟨rfl, rfl, by have h := (List.cons.inj (List.cons.inj hee).2).1; injection h with _ _ h; exact h.symm, rfl⟩
  · have : n = l.length := by omega
    subst this
    have ha := frED_all l
    repeat' (first | intro _ | (simp [sxa, isPtrN, PV.pcs, elAt, setEl, inAt, elIn, setIn, isLst, cellsOf, Ex.ok, Ex.val, Opd.val, POp.dst, bin_int, binOK_int, bin_str, binOK_str, resOK, resV, RB.val, sub, putc, scB, scL, oneB, conf, Ex.val.eqP, Ex.val.eqL, negV, mxV, mnV, ← wr_eq, wr_zero, wr_one, wr_m1, bst_lst, byteC, partsOK, putAll, appV, nilV, slV, sslV, optB, optNum, and_assoc, exists_and_left, exists_eq_left', *]) | refine CondS_d (fun h => ?_) (fun h => ?_) | refine CondS_b (fun h => ?_) (fun h => ?_) | refine GrdS_d (fun h => ?_) (fun h => ?_) | refine GrdS_b (fun h => ?_) (fun h => ?_) | refine OkS_i (by omega) ?_ | fail)
def bef (l : List Ed) : Int := if l.length = 0 then 0 else (l.getD (l.length - 1) edD).f2
def adE (l : List Ed) (tick : Int) (s : List Ft) : Ed := ⟨tick, s.map Ft.fr, slOf (bef l) tick s, false⟩
def adO (l : List Ed) (tick : Int) (s : List Ft) : List Ed := l.map Ed.fr ++ [adE l tick s]
def adR (l : List Ed) (tick : Int) (s : List Ft) : List Ed := if wEds (adO l tick s) = true then adO l tick s else l.map Ed.fr
theorem okS {s : List Ft} (hs : s.length ≤ 1000000000 ∧ ∀ y ∈ s, y.f3.size ≤ 1048576 ∧ y.f4.length ≤ 1048576 ∧ y.nl = false) : ∀ y ∈ s, y.okay := fun y hy => by have := hs.2 y hy; unfold Ft.okay; omega
theorem adO_ok {l : List Ed} {tick : Int} {s : List Ft} (hm : ∀ x ∈ l, x.small) (hs : s.length ≤ 1048576 ∧ ∀ y ∈ s, y.f3.size ≤ 1048576 ∧ y.f4.length ≤ 1048576 ∧ y.nl = false) : ∀ x ∈ adO l tick s, x.small := by
  intro x hx
  unfold adO at hx
  rcases List.mem_append.1 hx with hx | hx
  · obtain ⟨y, hy, rfl⟩ := List.mem_map.1 hx
    exact Ed.small_fr (hm y hy)
  · simp only [List.mem_singleton] at hx
    subst hx
    refine ⟨by simp [adE]; exact hs.1, fun y hy => ?_⟩
    unfold adE at hy
    obtain ⟨z, hz, rfl⟩ := List.mem_map.1 hy
    exact ⟨(hs.2 z hz).1, (hs.2 z hz).2.1⟩
def Ed.whole (x : Ed) : Prop := x.small ∧ x.nl = false ∧ ∀ y ∈ x.f1, y.nl = false
theorem Ed.whole_fine {x : Ed} (h : x.whole) : x.fine := ⟨by have := h.1.1; omega, fun y hy => ⟨by have := h.1.2 y hy; omega, h.2.2 y hy⟩⟩
theorem f25 (l : List Ed) (nl : Bool) (tick : Int) (s : List Ft) (n2 : Bool) (hl : l.length ≤ 1048576) (hw : ∀ x ∈ l, x.whole) (hs : s.length ≤ 1048576 ∧ ∀ y ∈ s, y.f3.size ≤ 1048576 ∧ y.f4.length ≤ 1048576 ∧ y.nl = false) :
    Fn Tryz.prog 25 true [.lst 3 nl (l.map ed), i tick, .lst 5 n2 (s.map ft)] (.tup [.lst 3 false ((adR l tick s).map ed), .bool (wEds (adO l tick s))]) := by
  have hf : ∀ x ∈ l, x.fine := fun x hx => Ed.whole_fine (hw x hx)
  have hc1 := f23 l nl (by omega) hf
  have hc2 := f37 s n2 (by omega) (fun y hy => by have := hs.2 y hy; omega)
  have hc3 := f38 (bef l) tick s n2 (by omega) (okS ⟨by omega, hs.2⟩)
  have hc4 := f39 (adO l tick s) false (by simp [adO]; omega) (fun x hx => Ed.okay_of (adO_ok (fun x hx => (hw x hx).1) hs x hx))
  have ho : (adO l tick s).map ed = (l.map Ed.fr).map ed ++ [[i tick, .lst 5 false ((s.map Ft.fr).map ft), i (slOf (bef l) tick s)]] := by unfold adO; rw [List.map_append]; rfl
  rw [ho] at hc4
  have hR : (adR l tick s).map ed = if wEds (adO l tick s) = true then (l.map Ed.fr).map ed ++ [[i tick, .lst 5 false ((s.map Ft.fr).map ft), i (slOf (bef l) tick s)]] else (l.map Ed.fr).map ed := by unfold adR; split <;> first | exact ho | rfl
  rw [hR]
  have hcl : ((l.map Ed.fr).map ed).length = l.length := by simp
  obtain ⟨C, hC⟩ : ∃ C, (l.map Ed.fr).map ed = C := ⟨_, rfl⟩
  obtain ⟨Z, hZ⟩ : ∃ Z, (s.map Ft.fr).map ft = Z := ⟨_, rfl⟩
  obtain ⟨S, hS⟩ : ∃ S, slOf (bef l) tick s = S := ⟨_, rfl⟩
  obtain ⟨b, hb⟩ : ∃ b, wEds (adO l tick s) = b := ⟨_, rfl⟩
  rw [hC] at hc1 hc4 hcl ⊢
  rw [hZ] at hc2 hc4 ⊢
  rw [hS] at hc3 hc4 ⊢
  rw [hb] at hc4 ⊢
  clear hC hZ hS hb hR ho hf hw hs
  refine Fn.by_sx hX (by kernel_rfl) c25 (by kernel_rfl) (by rfl) ?_
  simp [i25, sxa, isPtrN, PV.pcs, elAt, setEl, inAt, elIn, setIn, isLst, cellsOf, Ex.ok, Ex.val, Opd.val, POp.dst, bin_int, binOK_int, bin_str, binOK_str, resOK, resV, RB.val, sub, putc, scB, scL, oneB, conf, Ex.val.eqP, Ex.val.eqL, negV, mxV, mnV, ← wr_eq, wr_zero, wr_one, wr_m1, bst_lst, byteC, partsOK, putAll, appV, nilV, slV, sslV, optB, optNum, and_assoc, exists_and_left, exists_eq_left']
  rcases Nat.eq_zero_or_pos l.length with h0 | hpos
  · have hbf : bef l = 0 := by unfold bef; rw [if_pos h0]
    have h0' : ¬ (0 : Int) < l.length := by omega
    have h0n : ¬ 0 < l.length := by omega
    rw [hbf] at hc3
    cases b
    all_goals repeat' (first | intro _ | (simp [sxa, isPtrN, PV.pcs, elAt, setEl, inAt, elIn, setIn, isLst, cellsOf, Ex.ok, Ex.val, Opd.val, POp.dst, bin_int, binOK_int, bin_str, binOK_str, resOK, resV, RB.val, sub, putc, scB, scL, oneB, conf, Ex.val.eqP, Ex.val.eqL, negV, mxV, mnV, ← wr_eq, wr_zero, wr_one, wr_m1, bst_lst, byteC, partsOK, putAll, appV, nilV, slV, sslV, optB, optNum, and_assoc, exists_and_left, exists_eq_left', *]) | refine CallS_i (hc1) ?_ | refine CallS_i (hc2) ?_ | refine CallS_i (hc3) ?_ | refine CallS_i (hc4) ?_ | refine CallM_i (hc1) ?_ | refine CallM_i (hc2) ?_ | refine CallM_i (hc3) ?_ | refine CallM_i (hc4) ?_ | refine CallE_i (hc1) ?_ | refine CallE_i (hc2) ?_ | refine CallE_i (hc3) ?_ | refine CallE_i (hc4) ?_ | refine CallX_i (hc1) ?_ | refine CallX_i (hc2) ?_ | refine CallX_i (hc3) ?_ | refine CallX_i (hc4) ?_ | refine CallB_i (hc1) ?_ | refine CallB_i (hc2) ?_ | refine CallB_i (hc3) ?_ | refine CallB_i (hc4) ?_ | refine CondS_d (fun h => ?_) (fun h => ?_) | refine CondS_b (fun h => ?_) (fun h => ?_) | refine GrdS_d (fun h => ?_) (fun h => ?_) | refine GrdS_b (fun h => ?_) (fun h => ?_) | refine OkS_i (by omega) ?_ | fail)
    all_goals first | omega | simp_all
  · have hm : l.length - 1 < l.length := by omega
    have hbf : bef l = l[l.length - 1].f2 := by unfold bef; rw [if_neg (by omega)]; simp [hm]
    have hw2 : wr .i64 ((l.length : Int) - 1) = ((l.length - 1 : Nat) : Int) := wrap_down _ hpos (by omega)
    have h0' : (0 : Int) < l.length := by omega
    rw [hbf] at hc3
    cases b
    all_goals repeat' (first | intro _ | (simp [sxa, isPtrN, PV.pcs, elAt, setEl, inAt, elIn, setIn, isLst, cellsOf, Ex.ok, Ex.val, Opd.val, POp.dst, bin_int, binOK_int, bin_str, binOK_str, resOK, resV, RB.val, sub, putc, scB, scL, oneB, conf, Ex.val.eqP, Ex.val.eqL, negV, mxV, mnV, ← wr_eq, wr_zero, wr_one, wr_m1, bst_lst, byteC, partsOK, putAll, appV, nilV, slV, sslV, optB, optNum, and_assoc, exists_and_left, exists_eq_left', ed, *]) | refine CallS_i (hc1) ?_ | refine CallS_i (hc2) ?_ | refine CallS_i (hc3) ?_ | refine CallS_i (hc4) ?_ | refine CallM_i (hc1) ?_ | refine CallM_i (hc2) ?_ | refine CallM_i (hc3) ?_ | refine CallM_i (hc4) ?_ | refine CallE_i (hc1) ?_ | refine CallE_i (hc2) ?_ | refine CallE_i (hc3) ?_ | refine CallE_i (hc4) ?_ | refine CallX_i (hc1) ?_ | refine CallX_i (hc2) ?_ | refine CallX_i (hc3) ?_ | refine CallX_i (hc4) ?_ | refine CallB_i (hc1) ?_ | refine CallB_i (hc2) ?_ | refine CallB_i (hc3) ?_ | refine CallB_i (hc4) ?_ | refine CondS_d (fun h => ?_) (fun h => ?_) | refine CondS_b (fun h => ?_) (fun h => ?_) | refine GrdS_d (fun h => ?_) (fun h => ?_) | refine GrdS_b (fun h => ?_) (fun h => ?_) | refine OkS_i (by omega) ?_ | fail)
    all_goals first | omega | simp_all
theorem f6 (l : List Ed) (nl : Bool) (tick : Int) (s : List Ft) (n2 : Bool) (hl : l.length ≤ 1048576) (hw : ∀ x ∈ l, x.whole) (hs : s.length ≤ 1048576 ∧ ∀ y ∈ s, y.f3.size ≤ 1048576 ∧ y.f4.length ≤ 1048576 ∧ y.nl = false) :
    Fn Tryz.prog 6 true [.lst 3 nl (l.map ed), i tick, .lst 5 n2 (s.map ft)] (.tup [.lst 3 false ((adR l tick s).map ed), .bool (wEds (adO l tick s))]) := by
  have hf : ∀ x ∈ l, x.fine := fun x hx => Ed.whole_fine (hw x hx)
  have hc1 := f16 l nl (by omega) hf
  have hc2 := f17 s n2 (by omega) (fun y hy => by have := hs.2 y hy; omega) (fun y hy => (hs.2 y hy).2.2)
  have hc3 := f18 (bef l) tick s n2 (by omega) (okS ⟨by omega, hs.2⟩)
  have hc4 := f8 (adO l tick s) false (by simp [adO]; omega) (fun x hx => Ed.okay_of (adO_ok (fun x hx => (hw x hx).1) hs x hx))
  have ho : (adO l tick s).map ed = (l.map Ed.fr).map ed ++ [[i tick, .lst 5 false ((s.map Ft.fr).map ft), i (slOf (bef l) tick s)]] := by unfold adO; rw [List.map_append]; rfl
  rw [ho] at hc4
  have hR : (adR l tick s).map ed = if wEds (adO l tick s) = true then (l.map Ed.fr).map ed ++ [[i tick, .lst 5 false ((s.map Ft.fr).map ft), i (slOf (bef l) tick s)]] else (l.map Ed.fr).map ed := by unfold adR; split <;> first | exact ho | rfl
  rw [hR]
  have hcl : ((l.map Ed.fr).map ed).length = l.length := by simp
  obtain ⟨C, hC⟩ : ∃ C, (l.map Ed.fr).map ed = C := ⟨_, rfl⟩
  obtain ⟨Z, hZ⟩ : ∃ Z, (s.map Ft.fr).map ft = Z := ⟨_, rfl⟩
  obtain ⟨S, hS⟩ : ∃ S, slOf (bef l) tick s = S := ⟨_, rfl⟩
  obtain ⟨b, hb⟩ : ∃ b, wEds (adO l tick s) = b := ⟨_, rfl⟩
  rw [hC] at hc1 hc4 hcl ⊢
  rw [hZ] at hc2 hc4 ⊢
  rw [hS] at hc3 hc4 ⊢
  rw [hb] at hc4 ⊢
  clear hC hZ hS hb hR ho hf hw hs
  refine Fn.by_sx hX (by kernel_rfl) c6 (by kernel_rfl) (by rfl) ?_
  simp [i6, sxa, isPtrN, PV.pcs, elAt, setEl, inAt, elIn, setIn, isLst, cellsOf, Ex.ok, Ex.val, Opd.val, POp.dst, bin_int, binOK_int, bin_str, binOK_str, resOK, resV, RB.val, sub, putc, scB, scL, oneB, conf, Ex.val.eqP, Ex.val.eqL, negV, mxV, mnV, ← wr_eq, wr_zero, wr_one, wr_m1, bst_lst, byteC, partsOK, putAll, appV, nilV, slV, sslV, optB, optNum, and_assoc, exists_and_left, exists_eq_left']
  rcases Nat.eq_zero_or_pos l.length with h0 | hpos
  · have hbf : bef l = 0 := by unfold bef; rw [if_pos h0]
    have h0' : ¬ (0 : Int) < l.length := by omega
    have h0n : ¬ 0 < l.length := by omega
    rw [hbf] at hc3
    cases b
    all_goals repeat' (first | intro _ | (simp [sxa, isPtrN, PV.pcs, elAt, setEl, inAt, elIn, setIn, isLst, cellsOf, Ex.ok, Ex.val, Opd.val, POp.dst, bin_int, binOK_int, bin_str, binOK_str, resOK, resV, RB.val, sub, putc, scB, scL, oneB, conf, Ex.val.eqP, Ex.val.eqL, negV, mxV, mnV, ← wr_eq, wr_zero, wr_one, wr_m1, bst_lst, byteC, partsOK, putAll, appV, nilV, slV, sslV, optB, optNum, and_assoc, exists_and_left, exists_eq_left', *]) | refine CallS_i (hc1) ?_ | refine CallS_i (hc2) ?_ | refine CallS_i (hc3) ?_ | refine CallS_i (hc4) ?_ | refine CallM_i (hc1) ?_ | refine CallM_i (hc2) ?_ | refine CallM_i (hc3) ?_ | refine CallM_i (hc4) ?_ | refine CallE_i (hc1) ?_ | refine CallE_i (hc2) ?_ | refine CallE_i (hc3) ?_ | refine CallE_i (hc4) ?_ | refine CallX_i (hc1) ?_ | refine CallX_i (hc2) ?_ | refine CallX_i (hc3) ?_ | refine CallX_i (hc4) ?_ | refine CallB_i (hc1) ?_ | refine CallB_i (hc2) ?_ | refine CallB_i (hc3) ?_ | refine CallB_i (hc4) ?_ | refine CondS_d (fun h => ?_) (fun h => ?_) | refine CondS_b (fun h => ?_) (fun h => ?_) | refine GrdS_d (fun h => ?_) (fun h => ?_) | refine GrdS_b (fun h => ?_) (fun h => ?_) | refine OkS_i (by omega) ?_ | fail)
    all_goals first | omega | simp_all
  · have hm : l.length - 1 < l.length := by omega
    have hbf : bef l = l[l.length - 1].f2 := by unfold bef; rw [if_neg (by omega)]; simp [hm]
    have hw2 : wr .i64 ((l.length : Int) - 1) = ((l.length - 1 : Nat) : Int) := wrap_down _ hpos (by omega)
    have h0' : (0 : Int) < l.length := by omega
    rw [hbf] at hc3
    cases b
    all_goals repeat' (first | intro _ | (simp [sxa, isPtrN, PV.pcs, elAt, setEl, inAt, elIn, setIn, isLst, cellsOf, Ex.ok, Ex.val, Opd.val, POp.dst, bin_int, binOK_int, bin_str, binOK_str, resOK, resV, RB.val, sub, putc, scB, scL, oneB, conf, Ex.val.eqP, Ex.val.eqL, negV, mxV, mnV, ← wr_eq, wr_zero, wr_one, wr_m1, bst_lst, byteC, partsOK, putAll, appV, nilV, slV, sslV, optB, optNum, and_assoc, exists_and_left, exists_eq_left', ed, *]) | refine CallS_i (hc1) ?_ | refine CallS_i (hc2) ?_ | refine CallS_i (hc3) ?_ | refine CallS_i (hc4) ?_ | refine CallM_i (hc1) ?_ | refine CallM_i (hc2) ?_ | refine CallM_i (hc3) ?_ | refine CallM_i (hc4) ?_ | refine CallE_i (hc1) ?_ | refine CallE_i (hc2) ?_ | refine CallE_i (hc3) ?_ | refine CallE_i (hc4) ?_ | refine CallX_i (hc1) ?_ | refine CallX_i (hc2) ?_ | refine CallX_i (hc3) ?_ | refine CallX_i (hc4) ?_ | refine CallB_i (hc1) ?_ | refine CallB_i (hc2) ?_ | refine CallB_i (hc3) ?_ | refine CallB_i (hc4) ?_ | refine CondS_d (fun h => ?_) (fun h => ?_) | refine CondS_b (fun h => ?_) (fun h => ?_) | refine GrdS_d (fun h => ?_) (fun h => ?_) | refine GrdS_b (fun h => ?_) (fun h => ?_) | refine OkS_i (by omega) ?_ | fail)
    all_goals first | omega | simp_all
end Go.Eng
namespace Go.Eng
open Go Go.Proofs
set_option linter.unusedSimpArgs false
set_option linter.unusedVariables false
set_option maxRecDepth 20000
set_option maxHeartbeats 1000000

/-! equality -/
def eqAt (l m : List Pt) (n : Nat) : Bool := eqb (l.getD n ⟨0, 0⟩) (m.getD n ⟨0, 0⟩)
def wEqL (l m : List Pt) : Bool := decide (l.length = m.length) && allTo (eqAt l m) l.length
theorem f36 (l m : List Pt) (n1 n2 : Bool) (hl : l.length ≤ 1000000000000) : Fn Tryz.prog 36 false [.lst 2 n1 (l.map cp), .lst 2 n2 (m.map cp)] (.bool (wEqL l m)) := by
  refine Fn.by_sx hX (by kernel_rfl) c36 (by kernel_rfl) (by rfl) ?_
  simp [i36, sxa, isPtrN, PV.pcs, elAt, setEl, inAt, elIn, setIn, isLst, cellsOf, Ex.ok, Ex.val, Opd.val, POp.dst, bin_int, binOK_int, bin_str, binOK_str, resOK, resV, RB.val, sub, putc, scB, scL, oneB, conf, Ex.val.eqP, Ex.val.eqL, negV, mxV, mnV, ← wr_eq, wr_zero, wr_one, wr_m1, bst_lst, byteC, partsOK, putAll, appV, nilV, slV, sslV, optB, optNum, and_assoc, exists_and_left, exists_eq_left']
  by_cases hlm : l.length = m.length
  · have hlm' : ((l.length : Nat) : Int) = m.length := by omega
    repeat' (first | intro _ | (simp [sxa, isPtrN, PV.pcs, elAt, setEl, inAt, elIn, setIn, isLst, cellsOf, Ex.ok, Ex.val, Opd.val, POp.dst, bin_int, binOK_int, bin_str, binOK_str, resOK, resV, RB.val, sub, putc, scB, scL, oneB, conf, Ex.val.eqP, Ex.val.eqL, negV, mxV, mnV, ← wr_eq, wr_zero, wr_one, wr_m1, bst_lst, byteC, partsOK, putAll, appV, nilV, slV, sslV, optB, optNum, and_assoc, exists_and_left, exists_eq_left', *]) | refine CondS_d (fun h => ?_) (fun h => ?_) | refine CondS_b (fun h => ?_) (fun h => ?_) | refine GrdS_d (fun h => ?_) (fun h => ?_) | refine GrdS_b (fun h => ?_) (fun h => ?_) | refine OkS_i (by omega) ?_ | fail)
    refine sx_count l.length (fun n V => V 0 = .lst 2 n1 (l.map cp) ∧ V 1 = .lst 2 n2 (m.map cp) ∧ V 12 = i l.length ∧ V 13 = i n ∧ allTo (eqAt l m) n = true) 0 (by omega) (by simp [sxa, isPtrN, PV.pcs, elAt, setEl, inAt, elIn, setIn, isLst, cellsOf, Ex.ok, Ex.val, Opd.val, POp.dst, bin_int, binOK_int, bin_str, binOK_str, resOK, resV, RB.val, sub, putc, scB, scL, oneB, conf, Ex.val.eqP, Ex.val.eqL, negV, mxV, mnV, ← wr_eq, wr_zero, wr_one, wr_m1, bst_lst, byteC, partsOK, putAll, appV, nilV, slV, sslV, optB, optNum, and_assoc, exists_and_left, exists_eq_left', allTo_zero]; try omega) ?_
    rintro n V hn ⟨h0, h1, h12, h13, ha⟩
    have hw : wr .i64 ((n : Int) + 1) = n + 1 := wr_in (by omega) (by omega)
    simp [sxa, isPtrN, PV.pcs, elAt, setEl, inAt, elIn, setIn, isLst, cellsOf, Ex.ok, Ex.val, Opd.val, POp.dst, bin_int, binOK_int, bin_str, binOK_str, resOK, resV, RB.val, sub, putc, scB, scL, oneB, conf, Ex.val.eqP, Ex.val.eqL, negV, mxV, mnV, ← wr_eq, wr_zero, wr_one, wr_m1, bst_lst, byteC, partsOK, putAll, appV, nilV, slV, sslV, optB, optNum, and_assoc, exists_and_left, exists_eq_left', h0, h12, h13]
    refine CondS_d (fun hlt => ?_) (fun hge => ?_)
    · have hlt' : n < l.length := by omega
      have hltm : n < m.length := by omega
      have hr : eqAt l m n = decide (l[n].f0 = m[n].f0 ∧ l[n].f1 = m[n].f1) := by simp [eqAt, eqb, hlt', hltm]
      have hbad : eqAt l m n = false → wEqL l m = false := fun h => by simp only [wEqL, allTo_bad hlt' h, Bool.and_false]
      have hgood : eqAt l m n = true → allTo (eqAt l m) (n + 1) = true := fun h => by rw [allTo_succ, ha, h]; rfl
      repeat' (first | intro _ | (simp [sxa, isPtrN, PV.pcs, elAt, setEl, inAt, elIn, setIn, isLst, cellsOf, Ex.ok, Ex.val, Opd.val, POp.dst, bin_int, binOK_int, bin_str, binOK_str, resOK, resV, RB.val, sub, putc, scB, scL, oneB, conf, Ex.val.eqP, Ex.val.eqL, negV, mxV, mnV, ← wr_eq, wr_zero, wr_one, wr_m1, bst_lst, byteC, partsOK, putAll, appV, nilV, slV, sslV, optB, optNum, and_assoc, exists_and_left, exists_eq_left', cp, *]) | refine CondS_d (fun h => ?_) (fun h => ?_) | refine CondS_b (fun h => ?_) (fun h => ?_) | refine GrdS_d (fun h => ?_) (fun h => ?_) | refine GrdS_b (fun h => ?_) (fun h => ?_) | refine OkS_i (by omega) ?_ | fail)
      all_goals first
        | exact hbad (by rw [hr]; by_cases q1 : l[n].f0 = m[n].f0 <;> by_cases q2 : l[n].f1 = m[n].f1 <;> simp_all)
        | exact hgood (by rw [hr]; by_cases q1 : l[n].f0 = m[n].f0 <;> by_cases q2 : l[n].f1 = m[n].f1 <;> simp_all)
    · have : n = l.length := by omega
      subst this
      have hr : wEqL l m = true := by unfold wEqL; rw [ha]; simp [hlm]
      repeat' (first | intro _ | (simp [sxa, isPtrN, PV.pcs, elAt, setEl, inAt, elIn, setIn, isLst, cellsOf, Ex.ok, Ex.val, Opd.val, POp.dst, bin_int, binOK_int, bin_str, binOK_str, resOK, resV, RB.val, sub, putc, scB, scL, oneB, conf, Ex.val.eqP, Ex.val.eqL, negV, mxV, mnV, ← wr_eq, wr_zero, wr_one, wr_m1, bst_lst, byteC, partsOK, putAll, appV, nilV, slV, sslV, optB, optNum, and_assoc, exists_and_left, exists_eq_left', *]) | refine CondS_d (fun h => ?_) (fun h => ?_) | refine CondS_b (fun h => ?_) (fun h => ?_) | refine GrdS_d (fun h => ?_) (fun h => ?_) | refine GrdS_b (fun h => ?_) (fun h => ?_) | refine OkS_i (by omega) ?_ | fail)
  · have hr : wEqL l m = false := by simp [wEqL, hlm]
    have hlm' : ¬ ((l.length : Nat) : Int) = m.length := by omega
    repeat' (first | intro _ | (simp [sxa, isPtrN, PV.pcs, elAt, setEl, inAt, elIn, setIn, isLst, cellsOf, Ex.ok, Ex.val, Opd.val, POp.dst, bin_int, binOK_int, bin_str, binOK_str, resOK, resV, RB.val, sub, putc, scB, scL, oneB, conf, Ex.val.eqP, Ex.val.eqL, negV, mxV, mnV, ← wr_eq, wr_zero, wr_one, wr_m1, bst_lst, byteC, partsOK, putAll, appV, nilV, slV, sslV, optB, optNum, and_assoc, exists_and_left, exists_eq_left', *]) | refine CondS_d (fun h => ?_) (fun h => ?_) | refine CondS_b (fun h => ?_) (fun h => ?_) | refine GrdS_d (fun h => ?_) (fun h => ?_) | refine GrdS_b (fun h => ?_) (fun h => ?_) | refine OkS_i (by omega) ?_ | fail)
def wEqF (x y : Ft) : Bool := decide (x.f0 = y.f0) && (decide (x.f1 = y.f1) && (decide (x.f2 = y.f2) && (decide (x.f3 = y.f3) && wEqL x.f4 y.f4)))
theorem f22 (x y : Ft) (hx : x.f4.length ≤ 1000000000000) : Fn Tryz.prog 22 false [.agg (ft x), .agg (ft y)] (.bool (wEqF x y)) := by
  have hc := f36 x.f4 y.f4 x.nl y.nl hx
  unfold ft
  refine Fn.by_sx hX (by kernel_rfl) c22 (by kernel_rfl) (by rfl) ?_
  simp [i22, sxa, isPtrN, PV.pcs, elAt, setEl, inAt, elIn, setIn, isLst, cellsOf, Ex.ok, Ex.val, Opd.val, POp.dst, bin_int, binOK_int, bin_str, binOK_str, resOK, resV, RB.val, sub, putc, scB, scL, oneB, conf, Ex.val.eqP, Ex.val.eqL, negV, mxV, mnV, ← wr_eq, wr_zero, wr_one, wr_m1, bst_lst, byteC, partsOK, putAll, appV, nilV, slV, sslV, optB, optNum, and_assoc, exists_and_left, exists_eq_left']
  repeat' (first | intro _ | (simp [sxa, isPtrN, PV.pcs, elAt, setEl, inAt, elIn, setIn, isLst, cellsOf, Ex.ok, Ex.val, Opd.val, POp.dst, bin_int, binOK_int, bin_str, binOK_str, resOK, resV, RB.val, sub, putc, scB, scL, oneB, conf, Ex.val.eqP, Ex.val.eqL, negV, mxV, mnV, ← wr_eq, wr_zero, wr_one, wr_m1, bst_lst, byteC, partsOK, putAll, appV, nilV, slV, sslV, optB, optNum, and_assoc, exists_and_left, exists_eq_left', *]) | refine CallS_b (hc) (fun h => ?_) (fun h => ?_) | refine CondS_d (fun h => ?_) (fun h => ?_) | refine CondS_b (fun h => ?_) (fun h => ?_) | refine GrdS_d (fun h => ?_) (fun h => ?_) | refine GrdS_b (fun h => ?_) (fun h => ?_) | refine OkS_i (by omega) ?_ | fail)
  all_goals simp_all [wEqF]
end Go.Eng
namespace Go.Eng
open Go Go.Proofs Geo
set_option linter.unusedSimpArgs false
set_option linter.unusedVariables false
set_option maxRecDepth 20000
set_option maxHeartbeats 1000000

/-! the plain law of editions. WRITES -/
/-! editions that are the same -/
def smE : List Ed → List Ed → Nat
  | x :: a, y :: b => if x.f2 = y.f2 then smE a b + 1 else 0
  | _, _ => 0
theorem smE_l : ∀ a b : List Ed, smE a b ≤ a.length
  | [], _ => by simp [smE]
  | _ :: _, [] => by simp [smE]
  | x :: a, y :: b => by have := smE_l a b; unfold smE; split <;> simp <;> omega
theorem smE_comm : ∀ a b : List Ed, smE a b = smE b a
  | [], [] => rfl
  | [], _ :: _ => by simp [smE]
  | _ :: _, [] => by simp [smE]
  | x :: a, y :: b => by
    unfold smE
    rw [smE_comm a b]
    by_cases h : x.f2 = y.f2
    · rw [if_pos h, if_pos h.symm]
    · rw [if_neg h, if_neg (Ne.symm h)]
theorem smE_r (a b : List Ed) : smE a b ≤ b.length := by rw [smE_comm]; exact smE_l b a
theorem smE_self : ∀ a : List Ed, smE a a = a.length
  | [] => rfl
  | x :: a => by unfold smE; rw [if_pos rfl, smE_self a]; rfl
theorem smE_app : ∀ (a r : List Ed), smE (a ++ r) a = a.length
  | [], [] => rfl
  | [], _ :: _ => by simp [smE]
  | x :: a, r => by
    show smE (x :: (a ++ r)) (x :: a) = _
    unfold smE
    rw [if_pos rfl, smE_app a r]; rfl
theorem smE_at : ∀ {a b : List Ed} {n : Nat} (h : n < smE a b) (h1 : n < a.length) (h2 : n < b.length), a[n].f2 = b[n].f2
  | x :: a, y :: b, n, h, h1, h2 => by
    unfold smE at h
    split at h
    · cases n with
      | zero => assumption
      | succ n => exact smE_at (a := a) (b := b) (by omega) (by simpa using h1) (by simpa using h2)
    · omega
theorem smE_stop : ∀ {a b : List Ed} (h1 : smE a b < a.length) (h2 : smE a b < b.length), ¬ a[smE a b].f2 = b[smE a b].f2
  | x :: a, y :: b, h1, h2 => by
    by_cases h : x.f2 = y.f2
    · have e : smE (x :: a) (y :: b) = smE a b + 1 := by simp [smE, h]
      simp only [e, List.getElem_cons_succ]
      exact smE_stop (a := a) (b := b) (by rw [e] at h1; simpa using h1) (by rw [e] at h2; simpa using h2)
    · have e : smE (x :: a) (y :: b) = 0 := by simp [smE, h]
      simp only [e, List.getElem_cons_zero]
      exact h
theorem f10 (a b : List Ed) (n1 n2 : Bool) (ha : a.length ≤ 1048576) (hb : b.length ≤ 1048576) : Fn Tryz.prog 10 false [.lst 3 n1 (a.map ed), .lst 3 n2 (b.map ed)] (i (smE a b)) := by
  have hl := smE_l a b
  have hr := smE_r a b
  have hat := fun n h h1 h2 => smE_at (a := a) (b := b) (n := n) h h1 h2
  have hst := smE_stop (a := a) (b := b)
  obtain ⟨N, hN⟩ : ∃ N, smE a b = N := ⟨_, rfl⟩
  simp only [hN] at hl hr hat hst ⊢
  refine Fn.by_sx hX (by kernel_rfl) c10 (by kernel_rfl) (by rfl) ?_
  simp [i10, sxa, isPtrN, PV.pcs, elAt, setEl, inAt, elIn, setIn, isLst, cellsOf, Ex.ok, Ex.val, Opd.val, POp.dst, bin_int, binOK_int, bin_str, binOK_str, resOK, resV, RB.val, sub, putc, scB, scL, oneB, conf, Ex.val.eqP, Ex.val.eqL, negV, mxV, mnV, ← wr_eq, wr_zero, wr_one, wr_m1, bst_lst, byteC, partsOK, putAll, appV, nilV, slV, sslV, optB, optNum, and_assoc, exists_and_left, exists_eq_left']
  refine sx_count N (fun n V => V 0 = .lst 3 n1 (a.map ed) ∧ V 1 = .lst 3 n2 (b.map ed) ∧ V 5 = i n) 0 (by omega) (by simp [sxa, isPtrN, PV.pcs, elAt, setEl, inAt, elIn, setIn, isLst, cellsOf, Ex.ok, Ex.val, Opd.val, POp.dst, bin_int, binOK_int, bin_str, binOK_str, resOK, resV, RB.val, sub, putc, scB, scL, oneB, conf, Ex.val.eqP, Ex.val.eqL, negV, mxV, mnV, ← wr_eq, wr_zero, wr_one, wr_m1, bst_lst, byteC, partsOK, putAll, appV, nilV, slV, sslV, optB, optNum, and_assoc, exists_and_left, exists_eq_left']) ?_
  rintro n V hn ⟨g0, g1, g5⟩
  have hw : wr .i64 ((n : Int) + 1) = n + 1 := wr_in (by omega) (by omega)
  rcases Nat.lt_or_ge n N with h | h
  · have h1 : n < a.length := by omega
    have h2 : n < b.length := by omega
    have h1I : (n : Int) < a.length := by omega
    have h2I : (n : Int) < b.length := by omega
    have he := hat n h h1 h2
    clear hat hst
    obtain ⟨u, hu⟩ : ∃ u, a[n].f2 = u := ⟨_, rfl⟩
    rw [hu] at he
    repeat' (first | intro _ | (simp [sxa, isPtrN, PV.pcs, elAt, setEl, inAt, elIn, setIn, isLst, cellsOf, Ex.ok, Ex.val, Opd.val, POp.dst, bin_int, binOK_int, bin_str, binOK_str, resOK, resV, RB.val, sub, putc, scB, scL, oneB, conf, Ex.val.eqP, Ex.val.eqL, negV, mxV, mnV, ← wr_eq, wr_zero, wr_one, wr_m1, bst_lst, byteC, partsOK, putAll, appV, nilV, slV, sslV, optB, optNum, and_assoc, exists_and_left, exists_eq_left', ed, *]) | refine CondS_d (fun h => ?_) (fun h => ?_) | refine CondS_b (fun h => ?_) (fun h => ?_) | refine GrdS_d (fun h => ?_) (fun h => ?_) | refine GrdS_b (fun h => ?_) (fun h => ?_) | refine OkS_i (by omega) ?_ | fail)
  · obtain rfl : n = N := by omega
    clear hat
    by_cases h1 : n < a.length
    · have h1I : (n : Int) < a.length := by omega
      by_cases h2 : n < b.length
      · have h2I : (n : Int) < b.length := by omega
        have he := hst h1 h2
        clear hst
        repeat' (first | intro _ | (simp [sxa, isPtrN, PV.pcs, elAt, setEl, inAt, elIn, setIn, isLst, cellsOf, Ex.ok, Ex.val, Opd.val, POp.dst, bin_int, binOK_int, bin_str, binOK_str, resOK, resV, RB.val, sub, putc, scB, scL, oneB, conf, Ex.val.eqP, Ex.val.eqL, negV, mxV, mnV, ← wr_eq, wr_zero, wr_one, wr_m1, bst_lst, byteC, partsOK, putAll, appV, nilV, slV, sslV, optB, optNum, and_assoc, exists_and_left, exists_eq_left', ed, *]) | refine CondS_d (fun h => ?_) (fun h => ?_) | refine CondS_b (fun h => ?_) (fun h => ?_) | refine GrdS_d (fun h => ?_) (fun h => ?_) | refine GrdS_b (fun h => ?_) (fun h => ?_) | refine OkS_i (by omega) ?_ | fail)
      · have h2I : ¬ (n : Int) < b.length := by omega
        clear hst
        repeat' (first | intro _ | (simp [sxa, isPtrN, PV.pcs, elAt, setEl, inAt, elIn, setIn, isLst, cellsOf, Ex.ok, Ex.val, Opd.val, POp.dst, bin_int, binOK_int, bin_str, binOK_str, resOK, resV, RB.val, sub, putc, scB, scL, oneB, conf, Ex.val.eqP, Ex.val.eqL, negV, mxV, mnV, ← wr_eq, wr_zero, wr_one, wr_m1, bst_lst, byteC, partsOK, putAll, appV, nilV, slV, sslV, optB, optNum, and_assoc, exists_and_left, exists_eq_left', ed, *]) | refine CondS_d (fun h => ?_) (fun h => ?_) | refine CondS_b (fun h => ?_) (fun h => ?_) | refine GrdS_d (fun h => ?_) (fun h => ?_) | refine GrdS_b (fun h => ?_) (fun h => ?_) | refine OkS_i (by omega) ?_ | fail)
    · have h1I : ¬ (n : Int) < a.length := by omega
      clear hst
      repeat' (first | intro _ | (simp [sxa, isPtrN, PV.pcs, elAt, setEl, inAt, elIn, setIn, isLst, cellsOf, Ex.ok, Ex.val, Opd.val, POp.dst, bin_int, binOK_int, bin_str, binOK_str, resOK, resV, RB.val, sub, putc, scB, scL, oneB, conf, Ex.val.eqP, Ex.val.eqL, negV, mxV, mnV, ← wr_eq, wr_zero, wr_one, wr_m1, bst_lst, byteC, partsOK, putAll, appV, nilV, slV, sslV, optB, optNum, and_assoc, exists_and_left, exists_eq_left', ed, *]) | refine CondS_d (fun h => ?_) (fun h => ?_) | refine CondS_b (fun h => ?_) (fun h => ?_) | refine GrdS_d (fun h => ?_) (fun h => ?_) | refine GrdS_b (fun h => ?_) (fun h => ?_) | refine OkS_i (by omega) ?_ | fail)
/-! equal sources -/
def eqFAt (l m : List Ft) (n : Nat) : Bool := wEqF (l.getD n ftD) (m.getD n ftD)
def wEqSr (l m : List Ft) : Bool := decide (l.length = m.length) && allTo (eqFAt l m) l.length
theorem f21 (l m : List Ft) (n1 n2 : Bool) (hl : l.length ≤ 1000000000000) (hx : ∀ x ∈ l, x.f4.length ≤ 1000000000000) : Fn Tryz.prog 21 false [.lst 5 n1 (l.map ft), .lst 5 n2 (m.map ft), .fn 22 []] (.bool (wEqSr l m)) := by
  refine Fn.by_sx hX (by kernel_rfl) c21 (by kernel_rfl) (by rfl) ?_
  simp [i21, sxa, isPtrN, PV.pcs, elAt, setEl, inAt, elIn, setIn, isLst, cellsOf, Ex.ok, Ex.val, Opd.val, POp.dst, bin_int, binOK_int, bin_str, binOK_str, resOK, resV, RB.val, sub, putc, scB, scL, oneB, conf, Ex.val.eqP, Ex.val.eqL, negV, mxV, mnV, ← wr_eq, wr_zero, wr_one, wr_m1, bst_lst, byteC, partsOK, putAll, appV, nilV, slV, sslV, optB, optNum, and_assoc, exists_and_left, exists_eq_left']
  by_cases hlm : l.length = m.length
  · have hlm' : ((l.length : Nat) : Int) = m.length := by omega
    repeat' (first | intro _ | (simp [sxa, isPtrN, PV.pcs, elAt, setEl, inAt, elIn, setIn, isLst, cellsOf, Ex.ok, Ex.val, Opd.val, POp.dst, bin_int, binOK_int, bin_str, binOK_str, resOK, resV, RB.val, sub, putc, scB, scL, oneB, conf, Ex.val.eqP, Ex.val.eqL, negV, mxV, mnV, ← wr_eq, wr_zero, wr_one, wr_m1, bst_lst, byteC, partsOK, putAll, appV, nilV, slV, sslV, optB, optNum, and_assoc, exists_and_left, exists_eq_left', *]) | refine CondS_d (fun h => ?_) (fun h => ?_) | refine CondS_b (fun h => ?_) (fun h => ?_) | refine GrdS_d (fun h => ?_) (fun h => ?_) | refine GrdS_b (fun h => ?_) (fun h => ?_) | refine OkS_i (by omega) ?_ | fail)
    refine sx_count l.length (fun n V => V 1 = .lst 5 n2 (m.map ft) ∧ V 2 = .fn 22 [] ∧ V 15 = .lst 5 n1 (l.map ft) ∧ V 16 = i l.length ∧ V 17 = i n ∧ allTo (eqFAt l m) n = true) 0 (by omega) (by simp [sxa, isPtrN, PV.pcs, elAt, setEl, inAt, elIn, setIn, isLst, cellsOf, Ex.ok, Ex.val, Opd.val, POp.dst, bin_int, binOK_int, bin_str, binOK_str, resOK, resV, RB.val, sub, putc, scB, scL, oneB, conf, Ex.val.eqP, Ex.val.eqL, negV, mxV, mnV, ← wr_eq, wr_zero, wr_one, wr_m1, bst_lst, byteC, partsOK, putAll, appV, nilV, slV, sslV, optB, optNum, and_assoc, exists_and_left, exists_eq_left', allTo_zero]; try omega) ?_
    rintro n V hn ⟨h1, h2, h15, h16, h17, ha⟩
    have hw : wr .i64 ((n : Int) + 1) = n + 1 := wr_in (by omega) (by omega)
    simp [sxa, isPtrN, PV.pcs, elAt, setEl, inAt, elIn, setIn, isLst, cellsOf, Ex.ok, Ex.val, Opd.val, POp.dst, bin_int, binOK_int, bin_str, binOK_str, resOK, resV, RB.val, sub, putc, scB, scL, oneB, conf, Ex.val.eqP, Ex.val.eqL, negV, mxV, mnV, ← wr_eq, wr_zero, wr_one, wr_m1, bst_lst, byteC, partsOK, putAll, appV, nilV, slV, sslV, optB, optNum, and_assoc, exists_and_left, exists_eq_left', h16, h17]
    refine CondS_d (fun hlt => ?_) (fun hge => ?_)
    · have hlt' : n < l.length := by omega
      have hltm : n < m.length := by omega
      have hr : eqFAt l m n = wEqF l[n] m[n] := by simp [eqFAt, hlt', hltm]
      have hbad : eqFAt l m n = false → wEqSr l m = false := fun h => by simp only [wEqSr, allTo_bad hlt' h, Bool.and_false]
      have hgood : eqFAt l m n = true → allTo (eqFAt l m) (n + 1) = true := fun h => by rw [allTo_succ, ha, h]; rfl
      have hc := f22 l[n] m[n] (hx _ (List.getElem_mem ..))
      unfold ft at hc
      repeat' (first | intro _ | (simp [sxa, isPtrN, PV.pcs, elAt, setEl, inAt, elIn, setIn, isLst, cellsOf, Ex.ok, Ex.val, Opd.val, POp.dst, bin_int, binOK_int, bin_str, binOK_str, resOK, resV, RB.val, sub, putc, scB, scL, oneB, conf, Ex.val.eqP, Ex.val.eqL, negV, mxV, mnV, ← wr_eq, wr_zero, wr_one, wr_m1, bst_lst, byteC, partsOK, putAll, appV, nilV, slV, sslV, optB, optNum, and_assoc, exists_and_left, exists_eq_left', ft, *]) | refine CondS_d (fun h => ?_) (fun h => ?_) | refine CondS_b (fun h => ?_) (fun h => ?_) | refine GrdS_d (fun h => ?_) (fun h => ?_) | refine GrdS_b (fun h => ?_) (fun h => ?_) | refine OkS_i (by omega) ?_ | fail)
      refine CallvS_b (by simpa using hc) (fun h => ?_) (fun h => ?_)
      · have hg := hgood (by rw [hr, h])
        repeat' (first | intro _ | (simp [sxa, isPtrN, PV.pcs, elAt, setEl, inAt, elIn, setIn, isLst, cellsOf, Ex.ok, Ex.val, Opd.val, POp.dst, bin_int, binOK_int, bin_str, binOK_str, resOK, resV, RB.val, sub, putc, scB, scL, oneB, conf, Ex.val.eqP, Ex.val.eqL, negV, mxV, mnV, ← wr_eq, wr_zero, wr_one, wr_m1, bst_lst, byteC, partsOK, putAll, appV, nilV, slV, sslV, optB, optNum, and_assoc, exists_and_left, exists_eq_left', *]) | refine CondS_d (fun h => ?_) (fun h => ?_) | refine CondS_b (fun h => ?_) (fun h => ?_) | refine GrdS_d (fun h => ?_) (fun h => ?_) | refine GrdS_b (fun h => ?_) (fun h => ?_) | refine OkS_i (by omega) ?_ | fail)
      · have hb := hbad (by rw [hr, h])
        repeat' (first | intro _ | (simp [sxa, isPtrN, PV.pcs, elAt, setEl, inAt, elIn, setIn, isLst, cellsOf, Ex.ok, Ex.val, Opd.val, POp.dst, bin_int, binOK_int, bin_str, binOK_str, resOK, resV, RB.val, sub, putc, scB, scL, oneB, conf, Ex.val.eqP, Ex.val.eqL, negV, mxV, mnV, ← wr_eq, wr_zero, wr_one, wr_m1, bst_lst, byteC, partsOK, putAll, appV, nilV, slV, sslV, optB, optNum, and_assoc, exists_and_left, exists_eq_left', *]) | refine CondS_d (fun h => ?_) (fun h => ?_) | refine CondS_b (fun h => ?_) (fun h => ?_) | refine GrdS_d (fun h => ?_) (fun h => ?_) | refine GrdS_b (fun h => ?_) (fun h => ?_) | refine OkS_i (by omega) ?_ | fail)
    · have : n = l.length := by omega
      subst this
      have hr : wEqSr l m = true := by unfold wEqSr; rw [ha]; simp [hlm]
      repeat' (first | intro _ | (simp [sxa, isPtrN, PV.pcs, elAt, setEl, inAt, elIn, setIn, isLst, cellsOf, Ex.ok, Ex.val, Opd.val, POp.dst, bin_int, binOK_int, bin_str, binOK_str, resOK, resV, RB.val, sub, putc, scB, scL, oneB, conf, Ex.val.eqP, Ex.val.eqL, negV, mxV, mnV, ← wr_eq, wr_zero, wr_one, wr_m1, bst_lst, byteC, partsOK, putAll, appV, nilV, slV, sslV, optB, optNum, and_assoc, exists_and_left, exists_eq_left', *]) | refine CondS_d (fun h => ?_) (fun h => ?_) | refine CondS_b (fun h => ?_) (fun h => ?_) | refine GrdS_d (fun h => ?_) (fun h => ?_) | refine GrdS_b (fun h => ?_) (fun h => ?_) | refine OkS_i (by omega) ?_ | fail)
  · have hr : wEqSr l m = false := by simp [wEqSr, hlm]
    have hlm' : ¬ ((l.length : Nat) : Int) = m.length := by omega
    repeat' (first | intro _ | (simp [sxa, isPtrN, PV.pcs, elAt, setEl, inAt, elIn, setIn, isLst, cellsOf, Ex.ok, Ex.val, Opd.val, POp.dst, bin_int, binOK_int, bin_str, binOK_str, resOK, resV, RB.val, sub, putc, scB, scL, oneB, conf, Ex.val.eqP, Ex.val.eqL, negV, mxV, mnV, ← wr_eq, wr_zero, wr_one, wr_m1, bst_lst, byteC, partsOK, putAll, appV, nilV, slV, sslV, optB, optNum, and_assoc, exists_and_left, exists_eq_left', *]) | refine CondS_d (fun h => ?_) (fun h => ?_) | refine CondS_b (fun h => ?_) (fun h => ?_) | refine GrdS_d (fun h => ?_) (fun h => ?_) | refine GrdS_b (fun h => ?_) (fun h => ?_) | refine OkS_i (by omega) ?_ | fail)
theorem f9 (l m : List Ft) (n1 n2 : Bool) (hl : l.length ≤ 1000000000000) (hx : ∀ x ∈ l, x.f4.length ≤ 1000000000000) : Fn Tryz.prog 9 false [.lst 5 n1 (l.map ft), .lst 5 n2 (m.map ft)] (.bool (wEqSr l m)) := by
  have hc := f21 l m n1 n2 hl hx
  refine Fn.by_sx hX (by kernel_rfl) c9 (by kernel_rfl) (by rfl) ?_
  simp [i9, sxa, isPtrN, PV.pcs, elAt, setEl, inAt, elIn, setIn, isLst, cellsOf, Ex.ok, Ex.val, Opd.val, POp.dst, bin_int, binOK_int, bin_str, binOK_str, resOK, resV, RB.val, sub, putc, scB, scL, oneB, conf, Ex.val.eqP, Ex.val.eqL, negV, mxV, mnV, ← wr_eq, wr_zero, wr_one, wr_m1, bst_lst, byteC, partsOK, putAll, appV, nilV, slV, sslV, optB, optNum, and_assoc, exists_and_left, exists_eq_left']
  repeat' (first | intro _ | (simp [sxa, isPtrN, PV.pcs, elAt, setEl, inAt, elIn, setIn, isLst, cellsOf, Ex.ok, Ex.val, Opd.val, POp.dst, bin_int, binOK_int, bin_str, binOK_str, resOK, resV, RB.val, sub, putc, scB, scL, oneB, conf, Ex.val.eqP, Ex.val.eqL, negV, mxV, mnV, ← wr_eq, wr_zero, wr_one, wr_m1, bst_lst, byteC, partsOK, putAll, appV, nilV, slV, sslV, optB, optNum, and_assoc, exists_and_left, exists_eq_left', *]) | refine CallS_i (hc) ?_ | refine CallM_i (hc) ?_ | refine CallE_i (hc) ?_ | refine CallX_i (hc) ?_ | refine CallB_i (hc) ?_ | refine CondS_d (fun h => ?_) (fun h => ?_) | refine CondS_b (fun h => ?_) (fun h => ?_) | refine GrdS_d (fun h => ?_) (fun h => ?_) | refine GrdS_b (fun h => ?_) (fun h => ?_) | refine OkS_i (by omega) ?_ | fail)
theorem wEqL_self' (l : List Pt) : wEqL l l = true := by
  unfold wEqL allTo
  rw [decide_eq_true rfl, Bool.true_and, List.all_eq_true]
  intro n _
  unfold eqAt eqb
  simp
theorem wEqSr_self (l : List Ft) : wEqSr l l = true := by
  unfold wEqSr allTo
  rw [decide_eq_true rfl, Bool.true_and, List.all_eq_true]
  intro n _
  unfold eqFAt wEqF
  rw [wEqL_self']
  simp
/-! editions are found again -/
theorem fts_fr {s : List Ft} (h : ∀ y ∈ s, y.nl = false) : s.map Ft.fr = s := by
  induction s with
  | nil => rfl
  | cons x r ih =>
    rw [List.map_cons, ih fun y hy => h y (List.mem_cons_of_mem _ hy)]
    have h1 := h x (List.mem_cons_self ..)
    obtain ⟨a, b, d, e, f, g⟩ := x
    have : g = false := h1
    subst this
    rfl
theorem whole_fr {x : Ed} (h : x.whole) : x.fr = x := by
  have h1 := fts_fr h.2.2
  have h2 := h.2.1
  obtain ⟨a, b, d, e⟩ := x
  have : e = false := h2
  subst this
  unfold Ed.fr
  simp only at h1 ⊢
  rw [h1]
theorem wholes_fr {l : List Ed} (h : ∀ x ∈ l, x.whole) : l.map Ed.fr = l := by
  induction l with
  | nil => rfl
  | cons x r ih => rw [List.map_cons, whole_fr (h x (List.mem_cons_self ..)), ih fun y hy => h y (List.mem_cons_of_mem _ hy)]
theorem wEds_inc {l : List Ed} (h : wEds l = true) : ∀ a b, (hab : a < b) → (hb : b < l.length) → (l[a]'(by omega)).f0 < l[b].f0 := by
  unfold wEds at h
  simp only [Bool.and_eq_true] at h
  intro a b
  induction b with
  | zero => omega
  | succ b ih =>
    intro hab hb
    have h1 := allTo_at h.2 hb
    unfold edAt at h1
    rw [show l.getD (b + 1) edD = l[b + 1] by simp [hb], show l.getD (b + 1 - 1) edD = l[b]'(by omega) by simp [show b < l.length by omega]] at h1
    simp only [Bool.and_eq_true, Bool.not_eq_true', Bool.and_eq_false_iff, decide_eq_false_iff_not] at h1
    have h2 : (l[b]'(by omega)).f0 < l[b + 1].f0 := by
      rcases h1.2 with h3 | h3
      · omega
      · omega
    rcases Nat.lt_or_ge a b with h3 | h3
    · have := ih h3 (by omega)
      omega
    · obtain rfl : a = b := by omega
      exact h2
theorem lastTo_at {l : List Ed} (hi : ∀ a b, (hab : a < b) → (hb : b < l.length) → (l[a]'(by omega)).f0 < l[b].f0) {k : Nat} (hk : k < l.length) : ∀ n, n ≤ l.length → k < n → lastTo l l[k].f0 n = k
  | 0, _, h => by omega
  | n + 1, hn, h => by
    unfold lastTo
    have hg : l.getD n edD = l[n]'(by omega) := by simp [show n < l.length by omega]
    rw [hg]
    rcases Nat.lt_or_ge k n with h1 | h1
    · have := hi k n h1 (by omega)
      rw [if_neg (by omega)]
      exact lastTo_at hi hk n (by omega) h1
    · obtain rfl : k = n := by omega
      rw [if_pos (Int.le_refl _)]
theorem ed_at {l : List Ed} (hw : wEds l = true) {k : Nat} (hk : k < l.length) : edS l l[k].f0 = l[k].f1.map Ft.fr ∧ edB l l[k].f0 = true := by
  have h := lastTo_at (wEds_inc hw) hk l.length (Nat.le_refl _) hk
  unfold edS edB curS curB
  rw [hw, h]
  simp [hk]
  intro h
  omega
theorem ed_new {l : List Ed} {tick : Int} {s : List Ft} (hs : ∀ y ∈ s, y.nl = false) (hw : wEds (adO l tick s) = true) : edS (adO l tick s) tick = s ∧ edB (adO l tick s) tick = true := by
  have hlen : (adO l tick s).length = l.length + 1 := by simp [adO]
  have hk : l.length < (adO l tick s).length := by omega
  have he : (adO l tick s)[l.length] = adE l tick s := by simp [adO]
  have := ed_at hw hk
  rw [he] at this
  have h1 : (adE l tick s).f1.map Ft.fr = s := by
    show (s.map Ft.fr).map Ft.fr = s
    rw [fts_fr hs, fts_fr hs]
  rw [h1] at this
  exact this
theorem ed_old {l : List Ed} {tick : Int} {s : List Ft} (hl : ∀ x ∈ l, x.whole) (hw : wEds (adO l tick s) = true) {k : Nat} (hk : k < l.length) : edS (adO l tick s) l[k].f0 = l[k].f1 ∧ edB (adO l tick s) l[k].f0 = true := by
  have hlen : (adO l tick s).length = l.length + 1 := by simp [adO]
  have hk' : k < (adO l tick s).length := by omega
  have e : adO l tick s = l ++ [adE l tick s] := by unfold adO; rw [wholes_fr hl]
  have he : (adO l tick s)[k] = l[k] := by
    simp only [e]
    rw [List.getElem_append_left hk]
  have := ed_at hw hk'
  rw [he, fts_fr (hl _ (List.getElem_mem hk)).2.2] at this
  exact this
theorem sm_new {l : List Ed} {tick : Int} {s : List Ft} (hl : ∀ x ∈ l, x.whole) : smE (adO l tick s) l = l.length := by
  unfold adO
  rw [wholes_fr hl]
  exact smE_app l _
end Go.Eng
namespace Go.Eng
open Go Go.Proofs Geo
set_option linter.unusedSimpArgs false
set_option linter.unusedVariables false
set_option maxRecDepth 20000
set_option maxHeartbeats 2000000

/-! draws of editions. WRITES -/
def goodD (x : Ed) : Prop := goodL x.f1 ∧ x.nl = false
def goodEs (l : List Ed) : Prop := l.length ≤ 16 ∧ ∀ x ∈ l, goodD x
theorem goodL.src {s : List Ft} (h : goodL s) : s.length ≤ 1048576 ∧ ∀ y ∈ s, y.f3.size ≤ 1048576 ∧ y.f4.length ≤ 1048576 ∧ y.nl = false :=
  ⟨by have := h.1; omega, fun y hy => ⟨by have := (h.2 y hy).1.1; omega, by have := (h.2 y hy).1.2; omega, (h.2 y hy).2⟩⟩
theorem goodD.whole {x : Ed} (h : goodD x) : x.whole := ⟨⟨h.1.src.1, fun y hy => ⟨(h.1.src.2 y hy).1, (h.1.src.2 y hy).2.1⟩⟩, h.2, fun y hy => (h.1.src.2 y hy).2.2⟩
theorem goodD.frg {x : Ed} (h : goodD x) : goodD x.fr := ⟨⟨by show (x.f1.map Ft.fr).length ≤ 16; rw [List.length_map]; exact h.1.1, fun y hy => by
  obtain ⟨z, hz, rfl⟩ := List.mem_map.1 (show y ∈ x.f1.map Ft.fr from hy)
  exact (h.1.2 z hz).frg⟩, rfl⟩
theorem adR_good {l : List Ed} {tick : Int} {s : List Ft} (hl : ∀ x ∈ l, goodD x) (hs : goodL s) : (adR l tick s).length ≤ l.length + 1 ∧ ∀ x ∈ adR l tick s, goodD x := by
  have h1 : ∀ x ∈ l.map Ed.fr, goodD x := fun x hx => by
    obtain ⟨y, hy, rfl⟩ := List.mem_map.1 hx
    exact (hl y hy).frg
  unfold adR
  split
  · unfold adO
    refine ⟨by simp, fun x hx => ?_⟩
    rcases List.mem_append.1 hx with h | h
    · exact h1 x h
    · obtain rfl : x = adE l tick s := by simpa using h
      exact ⟨⟨by show (s.map Ft.fr).length ≤ 16; rw [List.length_map]; exact hs.1, fun y hy => by
        obtain ⟨z, hz, rfl⟩ := List.mem_map.1 (show y ∈ s.map Ft.fr from hy)
        exact (hs.2 z hz).frg⟩, rfl⟩
  · exact ⟨by simp, h1⟩
theorem f27 : FnR Tryz.prog 27 true true [] (fun v => ∃ l : List Ed, v = .lst 3 false (l.map ed) ∧ goodEs l) := by
  refine FnR.by_sxC hX (by kernel_rfl) c27 rfl rfl rfl (fun h => by cases h) ?_
  intro cs hcs
  simp [i27, sxa, isPtrN, PV.pcs, elAt, setEl, inAt, elIn, setIn, isLst, cellsOf, Ex.ok, Ex.val, Opd.val, POp.dst, bin_int, binOK_int, bin_str, binOK_str, resOK, resV, RB.val, sub, putc, scB, scL, oneB, conf, Ex.val.eqP, Ex.val.eqL, negV, mxV, mnV, ← wr_eq, wr_zero, wr_one, wr_m1, bst_lst, byteC, partsOK, putAll, appV, nilV, slV, sslV, optB, optNum, and_assoc, exists_and_left, exists_eq_left']
  refine sx_count 3 (fun n V => isCur (V 0) = true ∧ V 5 = i n ∧ ∃ (l : List Ed) (q : List Ft), V 3 = .lst 3 false (l.map ed) ∧ V 4 = .lst 5 false (q.map ft) ∧ l.length ≤ n ∧ (∀ x ∈ l, goodD x) ∧ q.length ≤ n ∧ ∀ x ∈ q, goodF x) 0 (by omega) ⟨by simp [sxa, isPtrN, PV.pcs, elAt, setEl, inAt, elIn, setIn, isLst, cellsOf, Ex.ok, Ex.val, Opd.val, POp.dst, bin_int, binOK_int, bin_str, binOK_str, resOK, resV, RB.val, sub, putc, scB, scL, oneB, conf, Ex.val.eqP, Ex.val.eqL, negV, mxV, mnV, ← wr_eq, wr_zero, wr_one, wr_m1, bst_lst, byteC, partsOK, putAll, appV, nilV, slV, sslV, optB, optNum, and_assoc, exists_and_left, exists_eq_left', hcs], by simp [sxa, isPtrN, PV.pcs, elAt, setEl, inAt, elIn, setIn, isLst, cellsOf, Ex.ok, Ex.val, Opd.val, POp.dst, bin_int, binOK_int, bin_str, binOK_str, resOK, resV, RB.val, sub, putc, scB, scL, oneB, conf, Ex.val.eqP, Ex.val.eqL, negV, mxV, mnV, ← wr_eq, wr_zero, wr_one, wr_m1, bst_lst, byteC, partsOK, putAll, appV, nilV, slV, sslV, optB, optNum, and_assoc, exists_and_left, exists_eq_left'], [], [], by simp [sxa, isPtrN, PV.pcs, elAt, setEl, inAt, elIn, setIn, isLst, cellsOf, Ex.ok, Ex.val, Opd.val, POp.dst, bin_int, binOK_int, bin_str, binOK_str, resOK, resV, RB.val, sub, putc, scB, scL, oneB, conf, Ex.val.eqP, Ex.val.eqL, negV, mxV, mnV, ← wr_eq, wr_zero, wr_one, wr_m1, bst_lst, byteC, partsOK, putAll, appV, nilV, slV, sslV, optB, optNum, and_assoc, exists_and_left, exists_eq_left'], by simp [sxa, isPtrN, PV.pcs, elAt, setEl, inAt, elIn, setIn, isLst, cellsOf, Ex.ok, Ex.val, Opd.val, POp.dst, bin_int, binOK_int, bin_str, binOK_str, resOK, resV, RB.val, sub, putc, scB, scL, oneB, conf, Ex.val.eqP, Ex.val.eqL, negV, mxV, mnV, ← wr_eq, wr_zero, wr_one, wr_m1, bst_lst, byteC, partsOK, putAll, appV, nilV, slV, sslV, optB, optNum, and_assoc, exists_and_left, exists_eq_left'], by simp, by simp, by simp, by simp⟩ ?_
  clear hcs
  rintro n V hn ⟨gc, g5, l, q, g3, g4, hl, hg, hq, hgq⟩
  repeat' (first | intro _ | (simp [sxa, isPtrN, PV.pcs, elAt, setEl, inAt, elIn, setIn, isLst, cellsOf, Ex.ok, Ex.val, Opd.val, POp.dst, bin_int, binOK_int, bin_str, binOK_str, resOK, resV, RB.val, sub, putc, scB, scL, oneB, conf, Ex.val.eqP, Ex.val.eqL, negV, mxV, mnV, ← wr_eq, wr_zero, wr_one, wr_m1, bst_lst, byteC, partsOK, putAll, appV, nilV, slV, sslV, optB, optNum, and_assoc, exists_and_left, exists_eq_left', *]) | refine ⟨by assumption, CopC_i (f28 4 (by omega)) (fun _ _ => by first | exact ⟨fun _ => rfl, (fun h => by cases h)⟩ | exact ⟨(fun h => by cases h), fun _ => ⟨_, rfl⟩⟩ | exact ⟨(fun h => by cases h), (fun h => by cases h)⟩) (fun x cs hx hcs => ?_)⟩ | refine CopC_i (f28 4 (by omega)) (fun _ _ => by first | exact ⟨fun _ => rfl, (fun h => by cases h)⟩ | exact ⟨(fun h => by cases h), fun _ => ⟨_, rfl⟩⟩ | exact ⟨(fun h => by cases h), (fun h => by cases h)⟩) (fun x cs hx hcs => ?_) | refine CondS_d (fun h => ?_) (fun h => ?_) | refine CondS_b (fun h => ?_) (fun h => ?_) | refine GrdS_d (fun h => ?_) (fun h => ?_) | refine GrdS_b (fun h => ?_) (fun h => ?_) | refine OkS_i (by omega) ?_ | fail)
  · have hx5 := hx.2 (by omega)
    have hx0 := hx.1
    have hn3 : n < 3 := by omega
    refine CopC_i (f28 5 (by omega)) (fun _ _ => ⟨fun _ => rfl, (fun h => by cases h)⟩) (fun z cs1 hz hcs1 => ?_)
    simp [sxa, isPtrN, PV.pcs, elAt, setEl, inAt, elIn, setIn, isLst, cellsOf, Ex.ok, Ex.val, Opd.val, POp.dst, bin_int, binOK_int, bin_str, binOK_str, resOK, resV, RB.val, sub, putc, scB, scL, oneB, conf, Ex.val.eqP, Ex.val.eqL, negV, mxV, mnV, ← wr_eq, wr_zero, wr_one, wr_m1, bst_lst, byteC, partsOK, putAll, appV, nilV, slV, sslV, optB, optNum, and_assoc, exists_and_left, exists_eq_left', hcs1, g3, g4, g5]
    refine CopC_i (f41 _) (fun _ _ => ⟨(fun h => by cases h), (fun h => by cases h)⟩) (fun e cs2 he hcs2 => ?_)
    have hp := f40 q e false (by omega) (fun x hx => (hgq x hx).ok) he.ok (fun x hx => by have := (hgq x hx).1.2; omega) (by have := he.1.2; omega)
    obtain ⟨q1, q2⟩ := putL_good hgq he
    obtain ⟨L2, hL2⟩ : ∃ L, putL q e = L := ⟨_, rfl⟩
    obtain ⟨bb, hbb⟩ : ∃ b, wSrc (pfS q e) = b := ⟨_, rfl⟩
    rw [hL2, hbb] at hp
    rw [hL2] at q1 q2
    clear hL2 hbb hgq hcs gc
    simp [sxa, isPtrN, PV.pcs, elAt, setEl, inAt, elIn, setIn, isLst, cellsOf, Ex.ok, Ex.val, Opd.val, POp.dst, bin_int, binOK_int, bin_str, binOK_str, resOK, resV, RB.val, sub, putc, scB, scL, oneB, conf, Ex.val.eqP, Ex.val.eqL, negV, mxV, mnV, ← wr_eq, wr_zero, wr_one, wr_m1, bst_lst, byteC, partsOK, putAll, appV, nilV, slV, sslV, optB, optNum, and_assoc, exists_and_left, exists_eq_left', hcs1, hcs2, g3, g4, g5]
    refine CallS_i (hp) ?_
    simp [sxa, isPtrN, PV.pcs, elAt, setEl, inAt, elIn, setIn, isLst, cellsOf, Ex.ok, Ex.val, Opd.val, POp.dst, bin_int, binOK_int, bin_str, binOK_str, resOK, resV, RB.val, sub, putc, scB, scL, oneB, conf, Ex.val.eqP, Ex.val.eqL, negV, mxV, mnV, ← wr_eq, wr_zero, wr_one, wr_m1, bst_lst, byteC, partsOK, putAll, appV, nilV, slV, sslV, optB, optNum, and_assoc, exists_and_left, exists_eq_left', hcs1, hcs2, g3, g4, g5]
    refine CopC_i (f28 3 (by omega)) (fun _ _ => ⟨fun _ => rfl, (fun h => by cases h)⟩) (fun z2 cs3 hz2 hcs3 => ?_)
    simp [sxa, isPtrN, PV.pcs, elAt, setEl, inAt, elIn, setIn, isLst, cellsOf, Ex.ok, Ex.val, Opd.val, POp.dst, bin_int, binOK_int, bin_str, binOK_str, resOK, resV, RB.val, sub, putc, scB, scL, oneB, conf, Ex.val.eqP, Ex.val.eqL, negV, mxV, mnV, ← wr_eq, wr_zero, wr_one, wr_m1, bst_lst, byteC, partsOK, putAll, appV, nilV, slV, sslV, optB, optNum, and_assoc, exists_and_left, exists_eq_left', hcs3, g3, g4, g5]
    have hwA : ∀ tick : Int, Fn Tryz.prog 25 true [.lst 3 false (l.map ed), i tick, .lst 5 false (L2.map ft)] (.tup [.lst 3 false ((adR l tick L2).map ed), .bool (wEds (adO l tick L2))]) := fun tick => f25 l false tick L2 false (by omega) (fun x hx => (hg x hx).whole) (goodL.src ⟨by omega, q2⟩)
    have hgA := fun tick : Int => adR_good (tick := tick) hg (s := L2) ⟨by omega, q2⟩
    obtain ⟨T, hT⟩ : ∃ T : Int, wr .i64 (wr .i64 (3 * (n : Int)) + z2) = T := ⟨_, rfl⟩
    have cA := hwA T
    obtain ⟨a1, a2⟩ := hgA T
    obtain ⟨L3, hL3⟩ : ∃ L, adR l T L2 = L := ⟨_, rfl⟩
    obtain ⟨b3, hb3⟩ : ∃ b, wEds (adO l T L2) = b := ⟨_, rfl⟩
    rw [hL3, hb3] at cA
    rw [hL3] at a1 a2
    clear hL3 hb3 hwA hgA hg
    simp [sxa, isPtrN, PV.pcs, elAt, setEl, inAt, elIn, setIn, isLst, cellsOf, Ex.ok, Ex.val, Opd.val, POp.dst, bin_int, binOK_int, bin_str, binOK_str, resOK, resV, RB.val, sub, putc, scB, scL, oneB, conf, Ex.val.eqP, Ex.val.eqL, negV, mxV, mnV, ← wr_eq, wr_zero, wr_one, wr_m1, bst_lst, byteC, partsOK, putAll, appV, nilV, slV, sslV, optB, optNum, and_assoc, exists_and_left, exists_eq_left', hT]
    refine CallS_i (cA) ?_
    have hw2 : wr .i64 ((n : Int) + 1) = ((n + 1 : Nat) : Int) := by rw [wr_in (by omega) (by omega)]; omega
    simp [sxa, isPtrN, PV.pcs, elAt, setEl, inAt, elIn, setIn, isLst, cellsOf, Ex.ok, Ex.val, Opd.val, POp.dst, bin_int, binOK_int, bin_str, binOK_str, resOK, resV, RB.val, sub, putc, scB, scL, oneB, conf, Ex.val.eqP, Ex.val.eqL, negV, mxV, mnV, ← wr_eq, wr_zero, wr_one, wr_m1, bst_lst, byteC, partsOK, putAll, appV, nilV, slV, sslV, optB, optNum, and_assoc, exists_and_left, exists_eq_left', hcs3, hw2, g5]
    exact ⟨by omega, L3, rfl, L2, rfl, by omega, a2, by omega, q2⟩
  · exact ⟨l, rfl, by omega, hg⟩
theorem getD' {l : List Ed} {k : Nat} (h : k < l.length) : (l.map ed)[k]? = some (ed l[k]) := by simp [h]
theorem setExD {l : List Ed} {k : Nat} {a b : Int} {s : List Ft} {nl : Bool} (hg : goodEs l) (hs : goodL s) (hn : nl = false) : ∃ l' : List Ed, (l.map ed).set k [i a, .lst 5 nl (s.map ft), i b] = l'.map ed ∧ goodEs l' :=
  ⟨l.set k ⟨a, s, b, nl⟩, by rw [List.map_set]; rfl, by rw [List.length_set]; exact hg.1, fun y hy => by
    rcases List.mem_or_eq_of_mem_set hy with h | rfl
    · exact hg.2 y h
    · exact ⟨hs, hn⟩⟩
theorem f13 : FnR Tryz.prog 13 true true [] (fun v => ∃ l : List Ed, v = .lst 3 false (l.map ed) ∧ goodEs l) := by
  refine FnR.by_sxC hX (by kernel_rfl) c13 rfl rfl rfl (fun h => by cases h) ?_
  intro cs hcs
  simp [i13, sxa, isPtrN, PV.pcs, elAt, setEl, inAt, elIn, setIn, isLst, cellsOf, Ex.ok, Ex.val, Opd.val, POp.dst, bin_int, binOK_int, bin_str, binOK_str, resOK, resV, RB.val, sub, putc, scB, scL, oneB, conf, Ex.val.eqP, Ex.val.eqL, negV, mxV, mnV, ← wr_eq, wr_zero, wr_one, wr_m1, bst_lst, byteC, partsOK, putAll, appV, nilV, slV, sslV, optB, optNum, and_assoc, exists_and_left, exists_eq_left']
  refine ⟨hcs, CopC_i (f27) (fun _ _ => ⟨(fun h => by cases h), (fun h => by cases h)⟩) (fun l cs2 hx hcs2 => ?_)⟩
  have hgl := hx
  have hl16 := hx.1
  repeat' (first | intro _ | (simp [sxa, isPtrN, PV.pcs, elAt, setEl, inAt, elIn, setIn, isLst, cellsOf, Ex.ok, Ex.val, Opd.val, POp.dst, bin_int, binOK_int, bin_str, binOK_str, resOK, resV, RB.val, sub, putc, scB, scL, oneB, conf, Ex.val.eqP, Ex.val.eqL, negV, mxV, mnV, ← wr_eq, wr_zero, wr_one, wr_m1, bst_lst, byteC, partsOK, putAll, appV, nilV, slV, sslV, optB, optNum, and_assoc, exists_and_left, exists_eq_left', *]) | refine CondS_d (fun h => ?_) (fun h => ?_) | refine CondS_b (fun h => ?_) (fun h => ?_) | refine GrdS_d (fun h => ?_) (fun h => ?_) | refine GrdS_b (fun h => ?_) (fun h => ?_) | refine OkS_i (by omega) ?_ | fail)
  · exact ⟨by simp, by simp⟩
  have hpos : 0 < l.length := List.length_pos_iff.2 (by assumption)
  refine CopC_i (f28 (l.length : Int) (by omega)) (fun _ _ => ⟨fun _ => rfl, (fun h => by cases h)⟩) (fun z cs3 hz hcs3 => ?_)
  have hz1 := hz.2 (by omega)
  have hz0 := hz.1
  obtain ⟨k, rfl⟩ : ∃ k : Nat, z = k := ⟨z.toNat, by omega⟩
  have hk : k < l.length := by omega
  have hkI : (k : Int) < l.length := hz1
  have hk0 : (0 : Int) ≤ k := hz0
  have hgk : goodD l[k] := hx.2 _ (List.getElem_mem hk)
  have hat : (l.map ed)[k]? = some [i l[k].f0, .lst 5 l[k].nl (l[k].f1.map ft), i l[k].f2] := getD' hk
  repeat' (first | intro _ | (simp [sxa, isPtrN, PV.pcs, elAt, setEl, inAt, elIn, setIn, isLst, cellsOf, Ex.ok, Ex.val, Opd.val, POp.dst, bin_int, binOK_int, bin_str, binOK_str, resOK, resV, RB.val, sub, putc, scB, scL, oneB, conf, Ex.val.eqP, Ex.val.eqL, negV, mxV, mnV, ← wr_eq, wr_zero, wr_one, wr_m1, bst_lst, byteC, partsOK, putAll, appV, nilV, slV, sslV, optB, optNum, and_assoc, exists_and_left, exists_eq_left', ed, *]) | refine ⟨by assumption, CopC_i (f28 8 (by omega)) (fun _ _ => by first | exact ⟨fun _ => rfl, (fun h => by cases h)⟩ | exact ⟨(fun h => by cases h), fun _ => ⟨_, rfl⟩⟩ | exact ⟨(fun h => by cases h), (fun h => by cases h)⟩) (fun x cs hx hcs => ?_)⟩ | refine ⟨by assumption, CopC_i (f15) (fun _ _ => by first | exact ⟨fun _ => rfl, (fun h => by cases h)⟩ | exact ⟨(fun h => by cases h), fun _ => ⟨_, rfl⟩⟩ | exact ⟨(fun h => by cases h), (fun h => by cases h)⟩) (fun x cs hx hcs => ?_)⟩ | refine CopC_i (f28 8 (by omega)) (fun _ _ => by first | exact ⟨fun _ => rfl, (fun h => by cases h)⟩ | exact ⟨(fun h => by cases h), fun _ => ⟨_, rfl⟩⟩ | exact ⟨(fun h => by cases h), (fun h => by cases h)⟩) (fun x cs hx hcs => ?_) | refine CopC_i (f15) (fun _ _ => by first | exact ⟨fun _ => rfl, (fun h => by cases h)⟩ | exact ⟨(fun h => by cases h), fun _ => ⟨_, rfl⟩⟩ | exact ⟨(fun h => by cases h), (fun h => by cases h)⟩) (fun x cs hx hcs => ?_) | refine CondS_d (fun h => ?_) (fun h => ?_) | refine CondS_b (fun h => ?_) (fun h => ?_) | refine GrdS_d (fun h => ?_) (fun h => ?_) | refine GrdS_b (fun h => ?_) (fun h => ?_) | refine OkS_i (by omega) ?_ | fail)
  · exact setExD hgl hgk.1 hgk.2
  · exact setExD hgl hgk.1 hgk.2
  · exact setExD hgl hx rfl
  · exact ⟨l, rfl, hgl⟩
theorem f5 (nl : Bool) (els : List (List PV)) (hce : curEls els = true) : FnR Tryz.prog 5 false true [.lst 1 nl els] (fun v => ∃ q : List Ed × Int × List Ft, v = .tup [.lst 3 false (q.1.map ed), i q.2.1, .lst 5 false (q.2.2.map ft)] ∧ (goodEs q.1 ∧ goodL q.2.2)) := by
  have hc0 : FnR Tryz.prog 14 true false [.lst 1 false [[i 0], [i 5], [i 12], [i 20], [i 100000], [i 100001], [i (-1)]]] (fun v => ∃ x : Int, v = i x ∧ rawP x) := (f14 [0, 5, 12, 20, 100000, 100001, -1] false (by decide) (by decide)).weak (fun v ⟨x, h, _⟩ => ⟨x, h, trivial⟩)
  refine FnR.by_sx hX (by kernel_rfl) c5 rfl (by rfl) ?_
  simp [i5, sxa, isPtrN, PV.pcs, elAt, setEl, inAt, elIn, setIn, isLst, cellsOf, Ex.ok, Ex.val, Opd.val, POp.dst, bin_int, binOK_int, bin_str, binOK_str, resOK, resV, RB.val, sub, putc, scB, scL, oneB, conf, Ex.val.eqP, Ex.val.eqL, negV, mxV, mnV, ← wr_eq, wr_zero, wr_one, wr_m1, bst_lst, byteC, partsOK, putAll, appV, nilV, slV, sslV, optB, optNum, and_assoc, exists_and_left, exists_eq_left']
  repeat' (first | intro _ | (simp [sxa, isPtrN, PV.pcs, elAt, setEl, inAt, elIn, setIn, isLst, cellsOf, Ex.ok, Ex.val, Opd.val, POp.dst, bin_int, binOK_int, bin_str, binOK_str, resOK, resV, RB.val, sub, putc, scB, scL, oneB, conf, Ex.val.eqP, Ex.val.eqL, negV, mxV, mnV, ← wr_eq, wr_zero, wr_one, wr_m1, bst_lst, byteC, partsOK, putAll, appV, nilV, slV, sslV, optB, optNum, and_assoc, exists_and_left, exists_eq_left', *]) | refine ⟨by assumption, CopC_i (f13) (fun _ _ => by first | exact ⟨fun _ => rfl, (fun h => by cases h)⟩ | exact ⟨(fun h => by cases h), fun _ => ⟨_, rfl⟩⟩ | exact ⟨(fun h => by cases h), (fun h => by cases h)⟩) (fun x cs hx hcs => ?_)⟩ | refine ⟨by assumption, CopC_i (hc0) (fun _ _ => by first | exact ⟨fun _ => rfl, (fun h => by cases h)⟩ | exact ⟨(fun h => by cases h), fun _ => ⟨_, rfl⟩⟩ | exact ⟨(fun h => by cases h), (fun h => by cases h)⟩) (fun x cs hx hcs => ?_)⟩ | refine ⟨by assumption, CopC_i (f15) (fun _ _ => by first | exact ⟨fun _ => rfl, (fun h => by cases h)⟩ | exact ⟨(fun h => by cases h), fun _ => ⟨_, rfl⟩⟩ | exact ⟨(fun h => by cases h), (fun h => by cases h)⟩) (fun x cs hx hcs => ?_)⟩ | refine CopN_i (f12 nl els hce) (fun cs hcs => ?_) | refine CopC_i (f13) (fun _ _ => by first | exact ⟨fun _ => rfl, (fun h => by cases h)⟩ | exact ⟨(fun h => by cases h), fun _ => ⟨_, rfl⟩⟩ | exact ⟨(fun h => by cases h), (fun h => by cases h)⟩) (fun x cs hx hcs => ?_) | refine CopC_i (hc0) (fun _ _ => by first | exact ⟨fun _ => rfl, (fun h => by cases h)⟩ | exact ⟨(fun h => by cases h), fun _ => ⟨_, rfl⟩⟩ | exact ⟨(fun h => by cases h), (fun h => by cases h)⟩) (fun x cs hx hcs => ?_) | refine CopC_i (f15) (fun _ _ => by first | exact ⟨fun _ => rfl, (fun h => by cases h)⟩ | exact ⟨(fun h => by cases h), fun _ => ⟨_, rfl⟩⟩ | exact ⟨(fun h => by cases h), (fun h => by cases h)⟩) (fun x cs hx hcs => ?_) | refine CondS_d (fun h => ?_) (fun h => ?_) | refine CondS_b (fun h => ?_) (fun h => ?_) | refine GrdS_d (fun h => ?_) (fun h => ?_) | refine GrdS_b (fun h => ?_) (fun h => ?_) | refine OkS_i (by omega) ?_ | fail)
  all_goals exact ⟨_, rfl, _, rfl, by assumption, hx⟩
def sh2 (q : List Ed × List Ed) : Prop := q.1.length ≤ 20 ∧ q.2.length ≤ 20
theorem l11_t {l B : List Ed} {V : Env} (hl : l.length ≤ 20) (hB : B.length ≤ 20) (h4 : isCur (V 4) = true) (h5 : V 5 = .lst 3 false (l.map ed)) (h6 : V 6 = .lst 3 false (B.map ed)) :
    sx (FC Tryz.prog) (.seq (.seq (.seq (.ops [s 22 (.mv (t 6)),
  s 23 (.len false (t 22)),
  s 24 (.bin .gtr (t 23) (c (i 0))),
  s 25 (.mv (t 24)),
  sg [(25, true)] 26 (.mv (c .junk))])
 (.seq (opG [(25, true)] 27 24 4 [(c (i 3))])
 (.ops [s 28 (.pick (t 25) (t 27) (c (.bool false)))])))
 (.cond (t 28) (.ops [s 29 (.mv (t 6)),
  s 30 (.mv (t 6)),
  s 31 (.len false (t 30)),
  s 32 (.bin .sub (t 31) (c (i 1))),
  s 33 (.sl 3 (t 29) none (some (t 32))),
  s 6 (.mv (t 33))]) .skip))
 (.seq (.ops [s 34 (.mv (t 5)),
  s 35 (.mv (t 6)),
  s 2 (.mv (t 34)),
  s 3 (.mv (t 35))])
 .ret)) (fun y V' => y = .ret ∧ ∃ q : List Ed × List Ed, V' 2 = .lst 3 false (q.1.map ed) ∧ V' 3 = .lst 3 false (q.2.map ed) ∧ sh2 q) V := by
  simp [sxa, isPtrN, PV.pcs, elAt, setEl, inAt, elIn, setIn, isLst, cellsOf, Ex.ok, Ex.val, Opd.val, POp.dst, bin_int, binOK_int, bin_str, binOK_str, resOK, resV, RB.val, sub, putc, scB, scL, oneB, conf, Ex.val.eqP, Ex.val.eqL, negV, mxV, mnV, ← wr_eq, wr_zero, wr_one, wr_m1, bst_lst, byteC, partsOK, putAll, appV, nilV, slV, sslV, optB, optNum, and_assoc, exists_and_left, exists_eq_left', h4, h5, h6]
  refine GrdS_d (fun h => ?_) (fun h => ?_)
  · have hI : (0 : Int) < B.length := by omega
    have hw : wr .i64 ((B.length : Int) - 1) = ((B.length - 1 : Nat) : Int) := by rw [wr_in (by omega) (by omega)]; omega
    simp [sxa, isPtrN, PV.pcs, elAt, setEl, inAt, elIn, setIn, isLst, cellsOf, Ex.ok, Ex.val, Opd.val, POp.dst, bin_int, binOK_int, bin_str, binOK_str, resOK, resV, RB.val, sub, putc, scB, scL, oneB, conf, Ex.val.eqP, Ex.val.eqL, negV, mxV, mnV, ← wr_eq, wr_zero, wr_one, wr_m1, bst_lst, byteC, partsOK, putAll, appV, nilV, slV, sslV, optB, optNum, and_assoc, exists_and_left, exists_eq_left', h4, h5, h6, h]
    refine sx_callg_yes (by simp [sxa, isPtrN, PV.pcs, elAt, setEl, inAt, elIn, setIn, isLst, cellsOf, Ex.ok, Ex.val, Opd.val, POp.dst, bin_int, binOK_int, bin_str, binOK_str, resOK, resV, RB.val, sub, putc, scB, scL, oneB, conf, Ex.val.eqP, Ex.val.eqL, negV, mxV, mnV, ← wr_eq, wr_zero, wr_one, wr_m1, bst_lst, byteC, partsOK, putAll, appV, nilV, slV, sslV, optB, optNum, and_assoc, exists_and_left, exists_eq_left', h]) (by first | simp [sxa, isPtrN, PV.pcs, elAt, setEl, inAt, elIn, setIn, isLst, cellsOf, Ex.ok, Ex.val, Opd.val, POp.dst, bin_int, binOK_int, bin_str, binOK_str, resOK, resV, RB.val, sub, putc, scB, scL, oneB, conf, Ex.val.eqP, Ex.val.eqL, negV, mxV, mnV, ← wr_eq, wr_zero, wr_one, wr_m1, bst_lst, byteC, partsOK, putAll, appV, nilV, slV, sslV, optB, optNum, and_assoc, exists_and_left, exists_eq_left', h4] | exact h4) ?_
    refine CopC_i (f24 3 (by omega)) (fun _ _ => ⟨fun _ => rfl, (fun h => by cases h)⟩) (fun x cs hx hcs => ?_)
    cases x
    · simp [sxa, isPtrN, PV.pcs, elAt, setEl, inAt, elIn, setIn, isLst, cellsOf, Ex.ok, Ex.val, Opd.val, POp.dst, bin_int, binOK_int, bin_str, binOK_str, resOK, resV, RB.val, sub, putc, scB, scL, oneB, conf, Ex.val.eqP, Ex.val.eqL, negV, mxV, mnV, ← wr_eq, wr_zero, wr_one, wr_m1, bst_lst, byteC, partsOK, putAll, appV, nilV, slV, sslV, optB, optNum, and_assoc, exists_and_left, exists_eq_left', h4, h5, h6, h]
      exact ⟨l, rfl, B, rfl, hl, hB⟩
    · simp [sxa, isPtrN, PV.pcs, elAt, setEl, inAt, elIn, setIn, isLst, cellsOf, Ex.ok, Ex.val, Opd.val, POp.dst, bin_int, binOK_int, bin_str, binOK_str, resOK, resV, RB.val, sub, putc, scB, scL, oneB, conf, Ex.val.eqP, Ex.val.eqL, negV, mxV, mnV, ← wr_eq, wr_zero, wr_one, wr_m1, bst_lst, byteC, partsOK, putAll, appV, nilV, slV, sslV, optB, optNum, and_assoc, exists_and_left, exists_eq_left', h4, h5, h6, h, hw]
      exact ⟨l, rfl, B.take (B.length - 1), by rw [List.map_take], hl, by rw [List.length_take]; omega⟩
  · simp [sxa, isPtrN, PV.pcs, elAt, setEl, inAt, elIn, setIn, isLst, cellsOf, Ex.ok, Ex.val, Opd.val, POp.dst, bin_int, binOK_int, bin_str, binOK_str, resOK, resV, RB.val, sub, putc, scB, scL, oneB, conf, Ex.val.eqP, Ex.val.eqL, negV, mxV, mnV, ← wr_eq, wr_zero, wr_one, wr_m1, bst_lst, byteC, partsOK, putAll, appV, nilV, slV, sslV, optB, optNum, and_assoc, exists_and_left, exists_eq_left', h4, h5, h6, h]
    intro x0
    refine sx_callg_no (by simp [sxa, isPtrN, PV.pcs, elAt, setEl, inAt, elIn, setIn, isLst, cellsOf, Ex.ok, Ex.val, Opd.val, POp.dst, bin_int, binOK_int, bin_str, binOK_str, resOK, resV, RB.val, sub, putc, scB, scL, oneB, conf, Ex.val.eqP, Ex.val.eqL, negV, mxV, mnV, ← wr_eq, wr_zero, wr_one, wr_m1, bst_lst, byteC, partsOK, putAll, appV, nilV, slV, sslV, optB, optNum, and_assoc, exists_and_left, exists_eq_left', h]) (by first | simp [sxa, isPtrN, PV.pcs, elAt, setEl, inAt, elIn, setIn, isLst, cellsOf, Ex.ok, Ex.val, Opd.val, POp.dst, bin_int, binOK_int, bin_str, binOK_str, resOK, resV, RB.val, sub, putc, scB, scL, oneB, conf, Ex.val.eqP, Ex.val.eqL, negV, mxV, mnV, ← wr_eq, wr_zero, wr_one, wr_m1, bst_lst, byteC, partsOK, putAll, appV, nilV, slV, sslV, optB, optNum, and_assoc, exists_and_left, exists_eq_left', h4] | exact h4) (fun cs hcs => ?_)
    simp [sxa, isPtrN, PV.pcs, elAt, setEl, inAt, elIn, setIn, isLst, cellsOf, Ex.ok, Ex.val, Opd.val, POp.dst, bin_int, binOK_int, bin_str, binOK_str, resOK, resV, RB.val, sub, putc, scB, scL, oneB, conf, Ex.val.eqP, Ex.val.eqL, negV, mxV, mnV, ← wr_eq, wr_zero, wr_one, wr_m1, bst_lst, byteC, partsOK, putAll, appV, nilV, slV, sslV, optB, optNum, and_assoc, exists_and_left, exists_eq_left', h4, h5, h6, h]
    exact ⟨l, rfl, B, rfl, hl, hB⟩
theorem f11 (nl : Bool) (els : List (List PV)) (hce : curEls els = true) : FnR Tryz.prog 11 false false [.lst 1 nl els] (fun v => ∃ q : List Ed × List Ed, v = .tup [.lst 3 false (q.1.map ed), .lst 3 false (q.2.map ed)] ∧ sh2 q) := by
  refine FnR.by_sx hX (by kernel_rfl) c11 rfl (by rfl) ?_
  obtain ⟨L9, hL9, lp9⟩ : ∃ L, (.seq (.seq (.seq (.ops [s 22 (.mv (t 6)),
  s 23 (.len false (t 22)),
  s 24 (.bin .gtr (t 23) (c (i 0))),
  s 25 (.mv (t 24)),
  sg [(25, true)] 26 (.mv (c .junk))])
 (.seq (opG [(25, true)] 27 24 4 [(c (i 3))])
 (.ops [s 28 (.pick (t 25) (t 27) (c (.bool false)))])))
 (.cond (t 28) (.ops [s 29 (.mv (t 6)),
  s 30 (.mv (t 6)),
  s 31 (.len false (t 30)),
  s 32 (.bin .sub (t 31) (c (i 1))),
  s 33 (.sl 3 (t 29) none (some (t 32))),
  s 6 (.mv (t 33))]) .skip))
 (.seq (.ops [s 34 (.mv (t 5)),
  s 35 (.mv (t 6)),
  s 2 (.mv (t 34)),
  s 3 (.mv (t 35))])
 .ret)) = L ∧ ∀ (l B : List Ed) (V : Env), l.length ≤ 20 → B.length ≤ 20 → isCur (V 4) = true → V 5 = .lst 3 false (l.map ed) → V 6 = .lst 3 false (B.map ed) →
      sx (FC Tryz.prog) L (fun y V' => y = .ret ∧ ∃ q : List Ed × List Ed, V' 2 = .lst 3 false (q.1.map ed) ∧ V' 3 = .lst 3 false (q.2.map ed) ∧ sh2 q) V := ⟨_, rfl, fun l B V q1 q2 q3 q4 q5 => l11_t q1 q2 q3 q4 q5⟩
  unfold i11
  rw [hL9]
  clear hL9
  have out : ∀ (y : Ext) (V' : Env), (y = .ret ∧ ∃ q : List Ed × List Ed, V' 2 = .lst 3 false (q.1.map ed) ∧ V' 3 = .lst 3 false (q.2.map ed) ∧ sh2 q) → (resOK none V' ∧ ∃ q : List Ed × List Ed, resV none [2, 3] V' = .tup [.lst 3 false (q.1.map ed), .lst 3 false (q.2.map ed)] ∧ sh2 q) := by
    rintro y V' ⟨rfl, q, q1, q2, q3⟩
    exact ⟨by simp [sxa, isPtrN, PV.pcs, elAt, setEl, inAt, elIn, setIn, isLst, cellsOf, Ex.ok, Ex.val, Opd.val, POp.dst, bin_int, binOK_int, bin_str, binOK_str, resOK, resV, RB.val, sub, putc, scB, scL, oneB, conf, Ex.val.eqP, Ex.val.eqL, negV, mxV, mnV, ← wr_eq, wr_zero, wr_one, wr_m1, bst_lst, byteC, partsOK, putAll, appV, nilV, slV, sslV, optB, optNum, and_assoc, exists_and_left, exists_eq_left'], q, by simp [sxa, isPtrN, PV.pcs, elAt, setEl, inAt, elIn, setIn, isLst, cellsOf, Ex.ok, Ex.val, Opd.val, POp.dst, bin_int, binOK_int, bin_str, binOK_str, resOK, resV, RB.val, sub, putc, scB, scL, oneB, conf, Ex.val.eqP, Ex.val.eqL, negV, mxV, mnV, ← wr_eq, wr_zero, wr_one, wr_m1, bst_lst, byteC, partsOK, putAll, appV, nilV, slV, sslV, optB, optNum, and_assoc, exists_and_left, exists_eq_left', q1, q2], q3⟩
  refine sx_mono _ _ _ _ out ?_
  clear out
  obtain ⟨Q0, hQ0⟩ : ∃ Q0, (fun (y : Ext) (V' : Env) => y = .ret ∧ ∃ q : List Ed × List Ed, V' 2 = .lst 3 false (q.1.map ed) ∧ V' 3 = .lst 3 false (q.2.map ed) ∧ sh2 q) = Q0 := ⟨_, rfl⟩
  rw [hQ0] at lp9 ⊢
  clear hQ0
  simp [sxa, isPtrN, PV.pcs, elAt, setEl, inAt, elIn, setIn, isLst, cellsOf, Ex.ok, Ex.val, Opd.val, POp.dst, bin_int, binOK_int, bin_str, binOK_str, resOK, resV, RB.val, sub, putc, scB, scL, oneB, conf, Ex.val.eqP, Ex.val.eqL, negV, mxV, mnV, ← wr_eq, wr_zero, wr_one, wr_m1, bst_lst, byteC, partsOK, putAll, appV, nilV, slV, sslV, optB, optNum, and_assoc, exists_and_left, exists_eq_left']
  refine CopN_i (f12 nl els hce) (fun cs hcs => ?_)
  simp [sxa, isPtrN, PV.pcs, elAt, setEl, inAt, elIn, setIn, isLst, cellsOf, Ex.ok, Ex.val, Opd.val, POp.dst, bin_int, binOK_int, bin_str, binOK_str, resOK, resV, RB.val, sub, putc, scB, scL, oneB, conf, Ex.val.eqP, Ex.val.eqL, negV, mxV, mnV, ← wr_eq, wr_zero, wr_one, wr_m1, bst_lst, byteC, partsOK, putAll, appV, nilV, slV, sslV, optB, optNum, and_assoc, exists_and_left, exists_eq_left', hcs]
  refine CopC_i (f13) (fun _ _ => ⟨(fun h => by cases h), (fun h => by cases h)⟩) (fun l cs2 hx hcs2 => ?_)
  have hl16 := hx.1
  have cC := f23 l false (by omega) (fun y hy => Ed.whole_fine (hx.2 y hy).whole)
  rw [wholes_fr (fun y hy => (hx.2 y hy).whole)] at cC
  simp [sxa, isPtrN, PV.pcs, elAt, setEl, inAt, elIn, setIn, isLst, cellsOf, Ex.ok, Ex.val, Opd.val, POp.dst, bin_int, binOK_int, bin_str, binOK_str, resOK, resV, RB.val, sub, putc, scB, scL, oneB, conf, Ex.val.eqP, Ex.val.eqL, negV, mxV, mnV, ← wr_eq, wr_zero, wr_one, wr_m1, bst_lst, byteC, partsOK, putAll, appV, nilV, slV, sslV, optB, optNum, and_assoc, exists_and_left, exists_eq_left', hcs2]
  refine CallS_i (cC) ?_
  simp [sxa, isPtrN, PV.pcs, elAt, setEl, inAt, elIn, setIn, isLst, cellsOf, Ex.ok, Ex.val, Opd.val, POp.dst, bin_int, binOK_int, bin_str, binOK_str, resOK, resV, RB.val, sub, putc, scB, scL, oneB, conf, Ex.val.eqP, Ex.val.eqL, negV, mxV, mnV, ← wr_eq, wr_zero, wr_one, wr_m1, bst_lst, byteC, partsOK, putAll, appV, nilV, slV, sslV, optB, optNum, and_assoc, exists_and_left, exists_eq_left', hcs2]
  clear cC
  refine CopC_i (f24 2 (by omega)) (fun _ _ => ⟨fun _ => rfl, (fun h => by cases h)⟩) (fun x cs3 hx3 hcs3 => ?_)
  cases x
  · simp [sxa, isPtrN, PV.pcs, elAt, setEl, inAt, elIn, setIn, isLst, cellsOf, Ex.ok, Ex.val, Opd.val, POp.dst, bin_int, binOK_int, bin_str, binOK_str, resOK, resV, RB.val, sub, putc, scB, scL, oneB, conf, Ex.val.eqP, Ex.val.eqL, negV, mxV, mnV, ← wr_eq, wr_zero, wr_one, wr_m1, bst_lst, byteC, partsOK, putAll, appV, nilV, slV, sslV, optB, optNum, and_assoc, exists_and_left, exists_eq_left', hcs3]
    exact lp9 l l _ (by omega) (by omega) (by simp [sxa, isPtrN, PV.pcs, elAt, setEl, inAt, elIn, setIn, isLst, cellsOf, Ex.ok, Ex.val, Opd.val, POp.dst, bin_int, binOK_int, bin_str, binOK_str, resOK, resV, RB.val, sub, putc, scB, scL, oneB, conf, Ex.val.eqP, Ex.val.eqL, negV, mxV, mnV, ← wr_eq, wr_zero, wr_one, wr_m1, bst_lst, byteC, partsOK, putAll, appV, nilV, slV, sslV, optB, optNum, and_assoc, exists_and_left, exists_eq_left', hcs3]) (by simp [sxa, isPtrN, PV.pcs, elAt, setEl, inAt, elIn, setIn, isLst, cellsOf, Ex.ok, Ex.val, Opd.val, POp.dst, bin_int, binOK_int, bin_str, binOK_str, resOK, resV, RB.val, sub, putc, scB, scL, oneB, conf, Ex.val.eqP, Ex.val.eqL, negV, mxV, mnV, ← wr_eq, wr_zero, wr_one, wr_m1, bst_lst, byteC, partsOK, putAll, appV, nilV, slV, sslV, optB, optNum, and_assoc, exists_and_left, exists_eq_left']) (by simp [sxa, isPtrN, PV.pcs, elAt, setEl, inAt, elIn, setIn, isLst, cellsOf, Ex.ok, Ex.val, Opd.val, POp.dst, bin_int, binOK_int, bin_str, binOK_str, resOK, resV, RB.val, sub, putc, scB, scL, oneB, conf, Ex.val.eqP, Ex.val.eqL, negV, mxV, mnV, ← wr_eq, wr_zero, wr_one, wr_m1, bst_lst, byteC, partsOK, putAll, appV, nilV, slV, sslV, optB, optNum, and_assoc, exists_and_left, exists_eq_left'])
  · simp [sxa, isPtrN, PV.pcs, elAt, setEl, inAt, elIn, setIn, isLst, cellsOf, Ex.ok, Ex.val, Opd.val, POp.dst, bin_int, binOK_int, bin_str, binOK_str, resOK, resV, RB.val, sub, putc, scB, scL, oneB, conf, Ex.val.eqP, Ex.val.eqL, negV, mxV, mnV, ← wr_eq, wr_zero, wr_one, wr_m1, bst_lst, byteC, partsOK, putAll, appV, nilV, slV, sslV, optB, optNum, and_assoc, exists_and_left, exists_eq_left', hcs3]
    refine CopC_i (f26) (fun _ _ => ⟨(fun h => by cases h), (fun h => by cases h)⟩) (fun q cs4 hq hcs4 => ?_)
    have cA := f25 l false 50 q false (by omega) (fun y hy => (hx.2 y hy).whole) hq.src
    have hA := (adR_good (l := l) (tick := 50) (s := q) hx.2 hq).1
    obtain ⟨X, hX⟩ : ∃ X, adR l 50 q = X := ⟨_, rfl⟩
    obtain ⟨bb, hbb⟩ : ∃ b, wEds (adO l 50 q) = b := ⟨_, rfl⟩
    rw [hX, hbb] at cA
    rw [hX] at hA
    clear hX hbb hx hq
    simp [sxa, isPtrN, PV.pcs, elAt, setEl, inAt, elIn, setIn, isLst, cellsOf, Ex.ok, Ex.val, Opd.val, POp.dst, bin_int, binOK_int, bin_str, binOK_str, resOK, resV, RB.val, sub, putc, scB, scL, oneB, conf, Ex.val.eqP, Ex.val.eqL, negV, mxV, mnV, ← wr_eq, wr_zero, wr_one, wr_m1, bst_lst, byteC, partsOK, putAll, appV, nilV, slV, sslV, optB, optNum, and_assoc, exists_and_left, exists_eq_left', hcs4]
    refine CallS_i (cA) ?_
    clear cA
    simp [sxa, isPtrN, PV.pcs, elAt, setEl, inAt, elIn, setIn, isLst, cellsOf, Ex.ok, Ex.val, Opd.val, POp.dst, bin_int, binOK_int, bin_str, binOK_str, resOK, resV, RB.val, sub, putc, scB, scL, oneB, conf, Ex.val.eqP, Ex.val.eqL, negV, mxV, mnV, ← wr_eq, wr_zero, wr_one, wr_m1, bst_lst, byteC, partsOK, putAll, appV, nilV, slV, sslV, optB, optNum, and_assoc, exists_and_left, exists_eq_left', hcs4]
    exact lp9 l X _ (by omega) (by omega) (by simp [sxa, isPtrN, PV.pcs, elAt, setEl, inAt, elIn, setIn, isLst, cellsOf, Ex.ok, Ex.val, Opd.val, POp.dst, bin_int, binOK_int, bin_str, binOK_str, resOK, resV, RB.val, sub, putc, scB, scL, oneB, conf, Ex.val.eqP, Ex.val.eqL, negV, mxV, mnV, ← wr_eq, wr_zero, wr_one, wr_m1, bst_lst, byteC, partsOK, putAll, appV, nilV, slV, sslV, optB, optNum, and_assoc, exists_and_left, exists_eq_left', hcs4]) (by simp [sxa, isPtrN, PV.pcs, elAt, setEl, inAt, elIn, setIn, isLst, cellsOf, Ex.ok, Ex.val, Opd.val, POp.dst, bin_int, binOK_int, bin_str, binOK_str, resOK, resV, RB.val, sub, putc, scB, scL, oneB, conf, Ex.val.eqP, Ex.val.eqL, negV, mxV, mnV, ← wr_eq, wr_zero, wr_one, wr_m1, bst_lst, byteC, partsOK, putAll, appV, nilV, slV, sslV, optB, optNum, and_assoc, exists_and_left, exists_eq_left']) (by simp [sxa, isPtrN, PV.pcs, elAt, setEl, inAt, elIn, setIn, isLst, cellsOf, Ex.ok, Ex.val, Opd.val, POp.dst, bin_int, binOK_int, bin_str, binOK_str, resOK, resV, RB.val, sub, putc, scB, scL, oneB, conf, Ex.val.eqP, Ex.val.eqL, negV, mxV, mnV, ← wr_eq, wr_zero, wr_one, wr_m1, bst_lst, byteC, partsOK, putAll, appV, nilV, slV, sslV, optB, optNum, and_assoc, exists_and_left, exists_eq_left'])
end Go.Eng
namespace Go.Eng
open Go Go.Proofs Geo
set_option linter.unusedSimpArgs false
set_option linter.unusedVariables false
set_option maxRecDepth 20000
set_option maxHeartbeats 1000000

/-! editions: the law. WRITES -/
theorem f4 (nl : Bool) (els : List (List PV)) : Fn Tryz.prog 4 false [.lst 1 nl els] (.bool (decide ((1048576 : Int) < els.length))) := by
  refine Fn.by_sx hX (by kernel_rfl) c4 (by kernel_rfl) (by rfl) ?_
  simp [i4, sxa, isPtrN, PV.pcs, elAt, setEl, inAt, elIn, setIn, isLst, cellsOf, Ex.ok, Ex.val, Opd.val, POp.dst, bin_int, binOK_int, bin_str, binOK_str, resOK, resV, RB.val, sub, putc, scB, scL, oneB, conf, Ex.val.eqP, Ex.val.eqL, negV, mxV, mnV, ← wr_eq, wr_zero, wr_one, wr_m1, bst_lst, byteC, partsOK, putAll, appV, nilV, slV, sslV, optB, optNum, and_assoc, exists_and_left, exists_eq_left']
def Hide (p : Prop) : Prop := p
theorem Hide.out {p : Prop} (h : Hide p) : p := h
theorem goodD.okay {x : Ed} (h : goodD x) : x.okay := Ed.okay_of h.whole.1
theorem goodD.fine {x : Ed} (h : goodD x) : x.fine := Ed.whole_fine h.whole
theorem l3_0 {l x : List Ed} {V : Env} (hl : l.length ≤ 16) (hx : x.length ≤ 17) (hgx : ∀ y ∈ x, goodD y) (hgl : ∀ y ∈ l, goodD y) (hf : ∀ k, (hk : k < l.length) → edS x l[k].f0 = l[k].f1 ∧ edB x l[k].f0 = true)
    (h3 : V 3 = .lst 3 false (l.map ed)) (h6 : V 6 = .lst 3 false (x.map ed)) (h10 : V 10 = i 0) :
    sx (FC Tryz.prog) (.loop (.seq (.seq (.ops [s 59 (.mv (t 10)),
  s 60 (.mv (t 3)),
  s 61 (.len false (t 60)),
  s 62 (.bin .lss (t 59) (t 61))])
 (.cond (t 62) .skip (.exit 0)))
 (.seq (.block 1 (.seq (.ops [s 66 (.mv (t 6)),
  s 67 (.mv (t 3)),
  s 68 (.mv (t 10)),
  s 69 (.idx (t 67) (t 68) 3),
  s 70 (.mv (t 69)),
  s 71 (.ldE 67 70 0 1 false true 3),
  k 72 7 [(t 66), (t 71)] .tup,
  s 65 (.mv (t 72)),
  s 73 (.ext 65 0 false),
  s 74 (.ext 65 1 true),
  s 11 (.mv (t 73)),
  s 12 (.mv (t 74))])
 (.seq (.ops [s 75 (.mv (t 12)),
  s 76 (.not (t 75)),
  s 77 (.mv (t 76)),
  sg [(77, false)] 78 (.mv (t 11)),
  sg [(77, false)] 79 (.mv (t 3)),
  sg [(77, false)] 80 (.mv (t 10)),
  sg [(77, false)] 81 (.idx (t 79) (t 80) 3),
  sg [(77, false)] 82 (.mv (t 81)),
  sg [(77, false)] 83 (.ldE 79 82 1 1 false false 3),
  kg [(77, false)] 84 9 [(t 78), (t 83)] .sc,
  sg [(77, false)] 85 (.not (t 84)),
  s 86 (.pick (t 77) (c (.bool true)) (t 85))])
 (.cond (t 86) (.seq (.ops [s 2 (.mv (c (.bool false)))])
 .ret) .skip))))
 (.ops [s 63 (.mv (t 10)),
  s 64 (.bin .add (t 63) (c (i 1))),
  s 10 (.mv (t 64))])))) (fun y V' => y = .exit 0 ∧ V' 0 = V 0) V := by
  refine sx_count l.length (fun n V' => V' 0 = V 0 ∧ V' 3 = .lst 3 false (l.map ed) ∧ V' 6 = .lst 3 false (x.map ed) ∧ V' 10 = i n) 0 (by omega) ⟨rfl, h3, h6, h10⟩ ?_
  rintro n V' hn ⟨g0, g3, g6, g10⟩
  clear h3 h6 h10
  obtain ⟨v0, hv0⟩ : ∃ v0, V 0 = v0 := ⟨_, rfl⟩
  rw [hv0] at g0 ⊢
  have hw : wr .i64 ((n : Int) + 1) = n + 1 := wr_in (by omega) (by omega)
  rcases Nat.lt_or_ge n l.length with h | h
  · have hI : (n : Int) < l.length := by omega
    have cE := f7 x false l[n].f0 (by omega) (fun y hy => (hgx y hy).okay) (fun y hy => (hgx y hy).fine)
    rw [(hf n h).1, (hf n h).2] at cE
    have hgn := hgl _ (List.getElem_mem h)
    have cS := f9 l[n].f1 l[n].f1 false l[n].nl (by have := hgn.1.1; omega) (fun y hy => by have := (hgn.1.2 y hy).1.2; omega)
    rw [wEqSr_self] at cS
    clear hf hgn hgx hgl
    repeat' (first | intro _ | (simp [sxa, isPtrN, PV.pcs, elAt, setEl, inAt, elIn, setIn, isLst, cellsOf, Ex.ok, Ex.val, Opd.val, POp.dst, bin_int, binOK_int, bin_str, binOK_str, resOK, resV, RB.val, sub, putc, scB, scL, oneB, conf, Ex.val.eqP, Ex.val.eqL, negV, mxV, mnV, ← wr_eq, wr_zero, wr_one, wr_m1, bst_lst, byteC, partsOK, putAll, appV, nilV, slV, sslV, optB, optNum, and_assoc, exists_and_left, exists_eq_left', ed, *]) | refine CallS_i (cE) ?_ | refine CallS_i (cS) ?_ | refine CallM_i (cE) ?_ | refine CallM_i (cS) ?_ | refine CallE_i (cE) ?_ | refine CallE_i (cS) ?_ | refine CallX_i (cE) ?_ | refine CallX_i (cS) ?_ | refine CallB_i (cE) ?_ | refine CallB_i (cS) ?_ | refine CondS_d (fun h => ?_) (fun h => ?_) | refine CondS_b (fun h => ?_) (fun h => ?_) | refine GrdS_d (fun h => ?_) (fun h => ?_) | refine GrdS_b (fun h => ?_) (fun h => ?_) | refine OkS_i (by omega) ?_ | fail)
  · have : n = l.length := by omega
    subst this
    clear hf hgx hgl
    repeat' (first | intro _ | (simp [sxa, isPtrN, PV.pcs, elAt, setEl, inAt, elIn, setIn, isLst, cellsOf, Ex.ok, Ex.val, Opd.val, POp.dst, bin_int, binOK_int, bin_str, binOK_str, resOK, resV, RB.val, sub, putc, scB, scL, oneB, conf, Ex.val.eqP, Ex.val.eqL, negV, mxV, mnV, ← wr_eq, wr_zero, wr_one, wr_m1, bst_lst, byteC, partsOK, putAll, appV, nilV, slV, sslV, optB, optNum, and_assoc, exists_and_left, exists_eq_left', ed, *]) | refine CondS_d (fun h => ?_) (fun h => ?_) | refine CondS_b (fun h => ?_) (fun h => ?_) | refine GrdS_d (fun h => ?_) (fun h => ?_) | refine GrdS_b (fun h => ?_) (fun h => ?_) | refine OkS_i (by omega) ?_ | fail)
theorem l3_t {nl : Bool} {els : List (List PV)} {V : Env} (hce : curEls els = true) (h0 : V 0 = .lst 1 nl els) :
    sx (FC Tryz.prog) (.seq (.seq (.ops [s 93 (.mv (t 0))])
 (.seq (opD 94 11 [(t 93)] .ext)
 (.ops [s 92 (.mv (t 94)),
  s 95 (.ext 92 0 false),
  s 96 (.ext 92 1 false),
  s 13 (.mv (t 95)),
  s 14 (.mv (t 96))])))
 (.seq (.ops [s 97 (.mv (t 13)),
  s 98 (.mv (t 14)),
  k 99 10 [(t 97), (t 98)] .sc,
  s 15 (.mv (t 99))])
 (.seq (.ops [s 100 (.mv (t 15)),
  s 101 (.mv (t 14)),
  s 102 (.mv (t 13)),
  k 103 10 [(t 101), (t 102)] .sc,
  s 104 (.bin .eql (t 100) (t 103)),
  s 105 (.mv (t 104)),
  sg [(105, true)] 106 (.mv (t 15)),
  sg [(105, true)] 107 (.mv (t 13)),
  sg [(105, true)] 108 (.len false (t 107)),
  sg [(105, true)] 109 (.bin .leq (t 106) (t 108)),
  s 110 (.pick (t 105) (t 109) (c (.bool false))),
  s 111 (.mv (t 110)),
  sg [(111, true)] 112 (.mv (t 15)),
  sg [(111, true)] 113 (.mv (t 14)),
  sg [(111, true)] 114 (.len false (t 113)),
  sg [(111, true)] 115 (.bin .leq (t 112) (t 114)),
  s 116 (.pick (t 111) (t 115) (c (.bool false))),
  s 117 (.mv (t 116)),
  sg [(117, true)] 118 (.mv (t 13)),
  sg [(117, true)] 119 (.mv (t 13)),
  kg [(117, true)] 120 10 [(t 118), (t 119)] .sc,
  sg [(117, true)] 121 (.mv (t 13)),
  sg [(117, true)] 122 (.len false (t 121)),
  sg [(117, true)] 123 (.bin .eql (t 120) (t 122)),
  s 124 (.pick (t 117) (t 123) (c (.bool false))),
  s 2 (.mv (t 124))])
 .ret))) (fun y V' => y = .ret ∧ V' 2 = .bool true) V := by
  simp [sxa, isPtrN, PV.pcs, elAt, setEl, inAt, elIn, setIn, isLst, cellsOf, Ex.ok, Ex.val, Opd.val, POp.dst, bin_int, binOK_int, bin_str, binOK_str, resOK, resV, RB.val, sub, putc, scB, scL, oneB, conf, Ex.val.eqP, Ex.val.eqL, negV, mxV, mnV, ← wr_eq, wr_zero, wr_one, wr_m1, bst_lst, byteC, partsOK, putAll, appV, nilV, slV, sslV, optB, optNum, and_assoc, exists_and_left, exists_eq_left', h0]
  refine CopD_i (f11 nl els hce) (fun _ _ => ⟨(fun h => by cases h), (fun h => by cases h)⟩) (fun x hx => ?_)
  obtain ⟨⟨a, b⟩, hq⟩ : ∃ q, q = x := ⟨_, rfl⟩
  subst hq
  obtain ⟨hga, hgb⟩ := hx
  simp only at hga hgb
  have ha := hga
  have hb := hgb
  have c1 := f10 a b false false (by omega) (by omega)
  have c2 := f10 b a false false (by omega) (by omega)
  have c3 := f10 a a false false (by omega) (by omega)
  have h1 := smE_l a b
  have h2 := smE_r a b
  rw [smE_self] at c3
  rw [← smE_comm a b] at c2
  obtain ⟨N, hN⟩ : ∃ N, smE a b = N := ⟨_, rfl⟩
  rw [hN] at c1 c2 h1 h2
  have h1I : (N : Int) ≤ a.length := by omega
  have h2I : (N : Int) ≤ b.length := by omega
  clear hga hgb hN
  simp [sxa, isPtrN, PV.pcs, elAt, setEl, inAt, elIn, setIn, isLst, cellsOf, Ex.ok, Ex.val, Opd.val, POp.dst, bin_int, binOK_int, bin_str, binOK_str, resOK, resV, RB.val, sub, putc, scB, scL, oneB, conf, Ex.val.eqP, Ex.val.eqL, negV, mxV, mnV, ← wr_eq, wr_zero, wr_one, wr_m1, bst_lst, byteC, partsOK, putAll, appV, nilV, slV, sslV, optB, optNum, and_assoc, exists_and_left, exists_eq_left']
  refine CallS_i (c1) ?_
  simp [sxa, isPtrN, PV.pcs, elAt, setEl, inAt, elIn, setIn, isLst, cellsOf, Ex.ok, Ex.val, Opd.val, POp.dst, bin_int, binOK_int, bin_str, binOK_str, resOK, resV, RB.val, sub, putc, scB, scL, oneB, conf, Ex.val.eqP, Ex.val.eqL, negV, mxV, mnV, ← wr_eq, wr_zero, wr_one, wr_m1, bst_lst, byteC, partsOK, putAll, appV, nilV, slV, sslV, optB, optNum, and_assoc, exists_and_left, exists_eq_left']
  refine CallS_i (c2) ?_
  simp [sxa, isPtrN, PV.pcs, elAt, setEl, inAt, elIn, setIn, isLst, cellsOf, Ex.ok, Ex.val, Opd.val, POp.dst, bin_int, binOK_int, bin_str, binOK_str, resOK, resV, RB.val, sub, putc, scB, scL, oneB, conf, Ex.val.eqP, Ex.val.eqL, negV, mxV, mnV, ← wr_eq, wr_zero, wr_one, wr_m1, bst_lst, byteC, partsOK, putAll, appV, nilV, slV, sslV, optB, optNum, and_assoc, exists_and_left, exists_eq_left', h1, h2, h1I, h2I]
  refine CallS_i (c3) ?_
  simp [sxa, isPtrN, PV.pcs, elAt, setEl, inAt, elIn, setIn, isLst, cellsOf, Ex.ok, Ex.val, Opd.val, POp.dst, bin_int, binOK_int, bin_str, binOK_str, resOK, resV, RB.val, sub, putc, scB, scL, oneB, conf, Ex.val.eqP, Ex.val.eqL, negV, mxV, mnV, ← wr_eq, wr_zero, wr_one, wr_m1, bst_lst, byteC, partsOK, putAll, appV, nilV, slV, sslV, optB, optNum, and_assoc, exists_and_left, exists_eq_left', h1, h2, h1I, h2I]
theorem f3 (nl : Bool) (els : List (List PV)) (hu : curU8 els = true) : Fn Tryz.prog 3 false [.lst 1 nl els] (.bool true) := by
  have hb := f4 nl els
  refine Fn.by_sx hX (by kernel_rfl) c3 (by kernel_rfl) (by rfl) ?_
  obtain ⟨L0, hL0, lp0⟩ : ∃ L, (.loop (.seq (.seq (.ops [s 59 (.mv (t 10)),
  s 60 (.mv (t 3)),
  s 61 (.len false (t 60)),
  s 62 (.bin .lss (t 59) (t 61))])
 (.cond (t 62) .skip (.exit 0)))
 (.seq (.block 1 (.seq (.ops [s 66 (.mv (t 6)),
  s 67 (.mv (t 3)),
  s 68 (.mv (t 10)),
  s 69 (.idx (t 67) (t 68) 3),
  s 70 (.mv (t 69)),
  s 71 (.ldE 67 70 0 1 false true 3),
  k 72 7 [(t 66), (t 71)] .tup,
  s 65 (.mv (t 72)),
  s 73 (.ext 65 0 false),
  s 74 (.ext 65 1 true),
  s 11 (.mv (t 73)),
  s 12 (.mv (t 74))])
 (.seq (.ops [s 75 (.mv (t 12)),
  s 76 (.not (t 75)),
  s 77 (.mv (t 76)),
  sg [(77, false)] 78 (.mv (t 11)),
  sg [(77, false)] 79 (.mv (t 3)),
  sg [(77, false)] 80 (.mv (t 10)),
  sg [(77, false)] 81 (.idx (t 79) (t 80) 3),
  sg [(77, false)] 82 (.mv (t 81)),
  sg [(77, false)] 83 (.ldE 79 82 1 1 false false 3),
  kg [(77, false)] 84 9 [(t 78), (t 83)] .sc,
  sg [(77, false)] 85 (.not (t 84)),
  s 86 (.pick (t 77) (c (.bool true)) (t 85))])
 (.cond (t 86) (.seq (.ops [s 2 (.mv (c (.bool false)))])
 .ret) .skip))))
 (.ops [s 63 (.mv (t 10)),
  s 64 (.bin .add (t 63) (c (i 1))),
  s 10 (.mv (t 64))])))) = L ∧ ∀ (l x : List Ed) (V : Env), l.length ≤ 16 → x.length ≤ 17 → (∀ y ∈ x, goodD y) → (∀ y ∈ l, goodD y) → (∀ k, (hk : k < l.length) → edS x l[k].f0 = l[k].f1 ∧ edB x l[k].f0 = true) →
      V 3 = .lst 3 false (l.map ed) → V 6 = .lst 3 false (x.map ed) → V 10 = i 0 → sx (FC Tryz.prog) L (fun y V' => y = .exit 0 ∧ V' 0 = V 0) V := ⟨_, rfl, fun l x V q1 q2 q3 q4 q5 q6 q7 q8 => l3_0 q1 q2 q3 q4 q5 q6 q7 q8⟩
  replace lp0 : Hide _ := lp0
  obtain ⟨L9, hL9, lp9⟩ : ∃ L, (.seq (.seq (.ops [s 93 (.mv (t 0))])
 (.seq (opD 94 11 [(t 93)] .ext)
 (.ops [s 92 (.mv (t 94)),
  s 95 (.ext 92 0 false),
  s 96 (.ext 92 1 false),
  s 13 (.mv (t 95)),
  s 14 (.mv (t 96))])))
 (.seq (.ops [s 97 (.mv (t 13)),
  s 98 (.mv (t 14)),
  k 99 10 [(t 97), (t 98)] .sc,
  s 15 (.mv (t 99))])
 (.seq (.ops [s 100 (.mv (t 15)),
  s 101 (.mv (t 14)),
  s 102 (.mv (t 13)),
  k 103 10 [(t 101), (t 102)] .sc,
  s 104 (.bin .eql (t 100) (t 103)),
  s 105 (.mv (t 104)),
  sg [(105, true)] 106 (.mv (t 15)),
  sg [(105, true)] 107 (.mv (t 13)),
  sg [(105, true)] 108 (.len false (t 107)),
  sg [(105, true)] 109 (.bin .leq (t 106) (t 108)),
  s 110 (.pick (t 105) (t 109) (c (.bool false))),
  s 111 (.mv (t 110)),
  sg [(111, true)] 112 (.mv (t 15)),
  sg [(111, true)] 113 (.mv (t 14)),
  sg [(111, true)] 114 (.len false (t 113)),
  sg [(111, true)] 115 (.bin .leq (t 112) (t 114)),
  s 116 (.pick (t 111) (t 115) (c (.bool false))),
  s 117 (.mv (t 116)),
  sg [(117, true)] 118 (.mv (t 13)),
  sg [(117, true)] 119 (.mv (t 13)),
  kg [(117, true)] 120 10 [(t 118), (t 119)] .sc,
  sg [(117, true)] 121 (.mv (t 13)),
  sg [(117, true)] 122 (.len false (t 121)),
  sg [(117, true)] 123 (.bin .eql (t 120) (t 122)),
  s 124 (.pick (t 117) (t 123) (c (.bool false))),
  s 2 (.mv (t 124))])
 .ret))) = L ∧ (curEls els = true → ∀ V : Env, V 0 = .lst 1 nl els → sx (FC Tryz.prog) L (fun y V' => y = .ret ∧ V' 2 = .bool true) V) := ⟨_, rfl, fun hce V h0 => l3_t hce h0⟩
  replace lp9 : Hide _ := lp9
  unfold i3
  rw [hL0, hL9]
  clear hL0 hL9
  simp [sxa, isPtrN, PV.pcs, elAt, setEl, inAt, elIn, setIn, isLst, cellsOf, Ex.ok, Ex.val, Opd.val, POp.dst, bin_int, binOK_int, bin_str, binOK_str, resOK, resV, RB.val, sub, putc, scB, scL, oneB, conf, Ex.val.eqP, Ex.val.eqL, negV, mxV, mnV, ← wr_eq, wr_zero, wr_one, wr_m1, bst_lst, byteC, partsOK, putAll, appV, nilV, slV, sslV, optB, optNum, and_assoc, exists_and_left, exists_eq_left']
  by_cases hbig : (1048576 : Int) < els.length
  · rw [decide_eq_true hbig] at hb
    repeat' (first | intro _ | (simp [sxa, isPtrN, PV.pcs, elAt, setEl, inAt, elIn, setIn, isLst, cellsOf, Ex.ok, Ex.val, Opd.val, POp.dst, bin_int, binOK_int, bin_str, binOK_str, resOK, resV, RB.val, sub, putc, scB, scL, oneB, conf, Ex.val.eqP, Ex.val.eqL, negV, mxV, mnV, ← wr_eq, wr_zero, wr_one, wr_m1, bst_lst, byteC, partsOK, putAll, appV, nilV, slV, sslV, optB, optNum, and_assoc, exists_and_left, exists_eq_left', *]) | refine CallS_i (hb) ?_ | refine CallM_i (hb) ?_ | refine CallE_i (hb) ?_ | refine CallX_i (hb) ?_ | refine CallB_i (hb) ?_ | refine CondS_d (fun h => ?_) (fun h => ?_) | refine CondS_b (fun h => ?_) (fun h => ?_) | refine GrdS_d (fun h => ?_) (fun h => ?_) | refine GrdS_b (fun h => ?_) (fun h => ?_) | refine OkS_i (by omega) ?_ | fail)
  rw [decide_eq_false hbig] at hb
  have hce : curEls els = true := by unfold curEls; rw [hu]; simp; omega
  repeat' (first | intro _ | (simp [sxa, isPtrN, PV.pcs, elAt, setEl, inAt, elIn, setIn, isLst, cellsOf, Ex.ok, Ex.val, Opd.val, POp.dst, bin_int, binOK_int, bin_str, binOK_str, resOK, resV, RB.val, sub, putc, scB, scL, oneB, conf, Ex.val.eqP, Ex.val.eqL, negV, mxV, mnV, ← wr_eq, wr_zero, wr_one, wr_m1, bst_lst, byteC, partsOK, putAll, appV, nilV, slV, sslV, optB, optNum, and_assoc, exists_and_left, exists_eq_left', *]) | refine CopD_i (f5 nl els hce) (fun _ _ => by first | exact ⟨fun _ => rfl, (fun h => by cases h)⟩ | exact ⟨(fun h => by cases h), fun _ => ⟨_, rfl⟩⟩ | exact ⟨(fun h => by cases h), (fun h => by cases h)⟩) (fun x hx => ?_) | refine CallS_i (hb) ?_ | refine CallM_i (hb) ?_ | refine CallE_i (hb) ?_ | refine CallX_i (hb) ?_ | refine CallB_i (hb) ?_ | refine CondS_d (fun h => ?_) (fun h => ?_) | refine CondS_b (fun h => ?_) (fun h => ?_) | refine GrdS_d (fun h => ?_) (fun h => ?_) | refine GrdS_b (fun h => ?_) (fun h => ?_) | refine OkS_i (by omega) ?_ | fail)
  obtain ⟨⟨l, tick, q⟩, hq⟩ : ∃ q, q = x := ⟨_, rfl⟩
  subst hq
  obtain ⟨hgl, hgq⟩ := hx
  simp only at hgl hgq
  have hl16 := hgl.1
  have hlw : ∀ x ∈ l, x.whole := fun x hx => (hgl.2 x hx).whole
  have cA := f6 l false tick q false (by omega) hlw hgq.src
  have lp9 : Hide (∀ V, _) := lp9.out hce
  have hAl : (adO l tick q).length = l.length + 1 := by simp [adO]
  by_cases hok : wEds (adO l tick q) = true
  · have hR : adR l tick q = adO l tick q := by unfold adR; rw [if_pos hok]
    have hgA := (adR_good (l := l) (tick := tick) (s := q) hgl.2 hgq).2
    have hn := ed_new (l := l) (tick := tick) (fun y hy => (hgq.2 y hy).2) hok
    have ho := fun k (hk : k < l.length) => ed_old (tick := tick) (s := q) hlw hok hk
    have hsm := sm_new (tick := tick) (s := q) hlw
    rw [hok, hR] at cA
    rw [hR] at hgA
    obtain ⟨X, hX⟩ : ∃ X, adO l tick q = X := ⟨_, rfl⟩
    rw [hX] at cA hgA hn hsm hok hAl
    simp only [hX] at ho
    have cE := f7 X false tick (by omega) (fun y hy => (hgA y hy).okay) (fun y hy => (hgA y hy).fine)
    rw [hn.1, hn.2] at cE
    have cI := f8 X false (by omega) (fun y hy => (hgA y hy).okay)
    rw [hok] at cI
    have cS := f9 q q false false (by have := hgq.1; omega) (fun y hy => by have := (hgq.2 y hy).1.2; omega)
    rw [wEqSr_self] at cS
    have cM := f10 X l false false (by omega) (by omega)
    rw [hsm] at cM
    have lq : Hide (∀ V, _) := fun V => lp0.out l X V hl16 (by omega) hgA hgl.2 ho
    clear lp0 ho hgA hn hX hsm hR hgl hgq hlw hok
    simp [sxa, isPtrN, PV.pcs, elAt, setEl, inAt, elIn, setIn, isLst, cellsOf, Ex.ok, Ex.val, Opd.val, POp.dst, bin_int, binOK_int, bin_str, binOK_str, resOK, resV, RB.val, sub, putc, scB, scL, oneB, conf, Ex.val.eqP, Ex.val.eqL, negV, mxV, mnV, ← wr_eq, wr_zero, wr_one, wr_m1, bst_lst, byteC, partsOK, putAll, appV, nilV, slV, sslV, optB, optNum, and_assoc, exists_and_left, exists_eq_left']
    refine CallS_i (cA) ?_
    simp [sxa, isPtrN, PV.pcs, elAt, setEl, inAt, elIn, setIn, isLst, cellsOf, Ex.ok, Ex.val, Opd.val, POp.dst, bin_int, binOK_int, bin_str, binOK_str, resOK, resV, RB.val, sub, putc, scB, scL, oneB, conf, Ex.val.eqP, Ex.val.eqL, negV, mxV, mnV, ← wr_eq, wr_zero, wr_one, wr_m1, bst_lst, byteC, partsOK, putAll, appV, nilV, slV, sslV, optB, optNum, and_assoc, exists_and_left, exists_eq_left']
    refine CallS_i (cE) ?_
    simp [sxa, isPtrN, PV.pcs, elAt, setEl, inAt, elIn, setIn, isLst, cellsOf, Ex.ok, Ex.val, Opd.val, POp.dst, bin_int, binOK_int, bin_str, binOK_str, resOK, resV, RB.val, sub, putc, scB, scL, oneB, conf, Ex.val.eqP, Ex.val.eqL, negV, mxV, mnV, ← wr_eq, wr_zero, wr_one, wr_m1, bst_lst, byteC, partsOK, putAll, appV, nilV, slV, sslV, optB, optNum, and_assoc, exists_and_left, exists_eq_left']
    refine CallS_i (cI) ?_
    simp [sxa, isPtrN, PV.pcs, elAt, setEl, inAt, elIn, setIn, isLst, cellsOf, Ex.ok, Ex.val, Opd.val, POp.dst, bin_int, binOK_int, bin_str, binOK_str, resOK, resV, RB.val, sub, putc, scB, scL, oneB, conf, Ex.val.eqP, Ex.val.eqL, negV, mxV, mnV, ← wr_eq, wr_zero, wr_one, wr_m1, bst_lst, byteC, partsOK, putAll, appV, nilV, slV, sslV, optB, optNum, and_assoc, exists_and_left, exists_eq_left']
    refine CallS_i (cS) ?_
    simp [sxa, isPtrN, PV.pcs, elAt, setEl, inAt, elIn, setIn, isLst, cellsOf, Ex.ok, Ex.val, Opd.val, POp.dst, bin_int, binOK_int, bin_str, binOK_str, resOK, resV, RB.val, sub, putc, scB, scL, oneB, conf, Ex.val.eqP, Ex.val.eqL, negV, mxV, mnV, ← wr_eq, wr_zero, wr_one, wr_m1, bst_lst, byteC, partsOK, putAll, appV, nilV, slV, sslV, optB, optNum, and_assoc, exists_and_left, exists_eq_left']
    refine CallS_i (cM) ?_
    simp [sxa, isPtrN, PV.pcs, elAt, setEl, inAt, elIn, setIn, isLst, cellsOf, Ex.ok, Ex.val, Opd.val, POp.dst, bin_int, binOK_int, bin_str, binOK_str, resOK, resV, RB.val, sub, putc, scB, scL, oneB, conf, Ex.val.eqP, Ex.val.eqL, negV, mxV, mnV, ← wr_eq, wr_zero, wr_one, wr_m1, bst_lst, byteC, partsOK, putAll, appV, nilV, slV, sslV, optB, optNum, and_assoc, exists_and_left, exists_eq_left']
    clear cA cE cI cS cM
    refine sx_mono _ _ _ _ ?_ (lq.out _ (by simp [sxa, isPtrN, PV.pcs, elAt, setEl, inAt, elIn, setIn, isLst, cellsOf, Ex.ok, Ex.val, Opd.val, POp.dst, bin_int, binOK_int, bin_str, binOK_str, resOK, resV, RB.val, sub, putc, scB, scL, oneB, conf, Ex.val.eqP, Ex.val.eqL, negV, mxV, mnV, ← wr_eq, wr_zero, wr_one, wr_m1, bst_lst, byteC, partsOK, putAll, appV, nilV, slV, sslV, optB, optNum, and_assoc, exists_and_left, exists_eq_left']) (by simp [sxa, isPtrN, PV.pcs, elAt, setEl, inAt, elIn, setIn, isLst, cellsOf, Ex.ok, Ex.val, Opd.val, POp.dst, bin_int, binOK_int, bin_str, binOK_str, resOK, resV, RB.val, sub, putc, scB, scL, oneB, conf, Ex.val.eqP, Ex.val.eqL, negV, mxV, mnV, ← wr_eq, wr_zero, wr_one, wr_m1, bst_lst, byteC, partsOK, putAll, appV, nilV, slV, sslV, optB, optNum, and_assoc, exists_and_left, exists_eq_left']) (by simp [sxa, isPtrN, PV.pcs, elAt, setEl, inAt, elIn, setIn, isLst, cellsOf, Ex.ok, Ex.val, Opd.val, POp.dst, bin_int, binOK_int, bin_str, binOK_str, resOK, resV, RB.val, sub, putc, scB, scL, oneB, conf, Ex.val.eqP, Ex.val.eqL, negV, mxV, mnV, ← wr_eq, wr_zero, wr_one, wr_m1, bst_lst, byteC, partsOK, putAll, appV, nilV, slV, sslV, optB, optNum, and_assoc, exists_and_left, exists_eq_left']))
    rintro y V ⟨rfl, h0⟩
    simp [sxa, isPtrN, PV.pcs, elAt, setEl, inAt, elIn, setIn, isLst, cellsOf, Ex.ok, Ex.val, Opd.val, POp.dst, bin_int, binOK_int, bin_str, binOK_str, resOK, resV, RB.val, sub, putc, scB, scL, oneB, conf, Ex.val.eqP, Ex.val.eqL, negV, mxV, mnV, ← wr_eq, wr_zero, wr_one, wr_m1, bst_lst, byteC, partsOK, putAll, appV, nilV, slV, sslV, optB, optNum, and_assoc, exists_and_left, exists_eq_left'] at h0
    simp [sxa, isPtrN, PV.pcs, elAt, setEl, inAt, elIn, setIn, isLst, cellsOf, Ex.ok, Ex.val, Opd.val, POp.dst, bin_int, binOK_int, bin_str, binOK_str, resOK, resV, RB.val, sub, putc, scB, scL, oneB, conf, Ex.val.eqP, Ex.val.eqL, negV, mxV, mnV, ← wr_eq, wr_zero, wr_one, wr_m1, bst_lst, byteC, partsOK, putAll, appV, nilV, slV, sslV, optB, optNum, and_assoc, exists_and_left, exists_eq_left']
    refine sx_mono _ _ _ _ ?_ (lp9.out V h0)
    rintro y W ⟨rfl, w2⟩
    simp [sxa, isPtrN, PV.pcs, elAt, setEl, inAt, elIn, setIn, isLst, cellsOf, Ex.ok, Ex.val, Opd.val, POp.dst, bin_int, binOK_int, bin_str, binOK_str, resOK, resV, RB.val, sub, putc, scB, scL, oneB, conf, Ex.val.eqP, Ex.val.eqL, negV, mxV, mnV, ← wr_eq, wr_zero, wr_one, wr_m1, bst_lst, byteC, partsOK, putAll, appV, nilV, slV, sslV, optB, optNum, and_assoc, exists_and_left, exists_eq_left', w2]
  · have hok : wEds (adO l tick q) = false := by simpa using hok
    have hR : adR l tick q = l := by unfold adR; rw [if_neg (by rw [hok]; simp), wholes_fr hlw]
    rw [hok, hR] at cA
    clear lp0 hR hgl hgq hlw hok
    simp [sxa, isPtrN, PV.pcs, elAt, setEl, inAt, elIn, setIn, isLst, cellsOf, Ex.ok, Ex.val, Opd.val, POp.dst, bin_int, binOK_int, bin_str, binOK_str, resOK, resV, RB.val, sub, putc, scB, scL, oneB, conf, Ex.val.eqP, Ex.val.eqL, negV, mxV, mnV, ← wr_eq, wr_zero, wr_one, wr_m1, bst_lst, byteC, partsOK, putAll, appV, nilV, slV, sslV, optB, optNum, and_assoc, exists_and_left, exists_eq_left']
    refine CallS_i (cA) ?_
    simp [sxa, isPtrN, PV.pcs, elAt, setEl, inAt, elIn, setIn, isLst, cellsOf, Ex.ok, Ex.val, Opd.val, POp.dst, bin_int, binOK_int, bin_str, binOK_str, resOK, resV, RB.val, sub, putc, scB, scL, oneB, conf, Ex.val.eqP, Ex.val.eqL, negV, mxV, mnV, ← wr_eq, wr_zero, wr_one, wr_m1, bst_lst, byteC, partsOK, putAll, appV, nilV, slV, sslV, optB, optNum, and_assoc, exists_and_left, exists_eq_left']
    refine sx_mono _ _ _ _ ?_ (lp9.out _ (by simp [sxa, isPtrN, PV.pcs, elAt, setEl, inAt, elIn, setIn, isLst, cellsOf, Ex.ok, Ex.val, Opd.val, POp.dst, bin_int, binOK_int, bin_str, binOK_str, resOK, resV, RB.val, sub, putc, scB, scL, oneB, conf, Ex.val.eqP, Ex.val.eqL, negV, mxV, mnV, ← wr_eq, wr_zero, wr_one, wr_m1, bst_lst, byteC, partsOK, putAll, appV, nilV, slV, sslV, optB, optNum, and_assoc, exists_and_left, exists_eq_left']))
    rintro y W ⟨rfl, w2⟩
    simp [sxa, isPtrN, PV.pcs, elAt, setEl, inAt, elIn, setIn, isLst, cellsOf, Ex.ok, Ex.val, Opd.val, POp.dst, bin_int, binOK_int, bin_str, binOK_str, resOK, resV, RB.val, sub, putc, scB, scL, oneB, conf, Ex.val.eqP, Ex.val.eqL, negV, mxV, mnV, ← wr_eq, wr_zero, wr_one, wr_m1, bst_lst, byteC, partsOK, putAll, appV, nilV, slV, sslV, optB, optNum, and_assoc, exists_and_left, exists_eq_left', w2]
end Go.Eng
namespace Go.Eng
open Go Go.Proofs
set_option linter.unusedSimpArgs false
set_option linter.unusedVariables false
set_option maxRecDepth 20000
/-! what the arguments hold -/
theorem d_slice {X : Cx} {t n e sz : Nat} {i0 : TI} {vs : List PV} {α : Type} {g : α → List PV} {q : α → Prop} (hi : X.ti t = some i0) (hk : i0.k = .slice e) (hs : szOf X e = sz)
    (hd : ∀ n vs, shp X n e vs → ∃ x, vs = g x ∧ q x) (h : shp X n t vs) : ∃ (l : List α) (nl : Bool), vs = [.lst sz nl (l.map g)] ∧ l.length ≤ 9223372036854775807 ∧ ∀ x ∈ l, q x := by
  cases n with
  | zero => cases h
  | succ n =>
    unfold shp at h; rw [hi] at h; simp only [hk, hs] at h
    rcases h with rfl | ⟨els, rfl, hl, he⟩
    · exact ⟨[], true, rfl, by simp, by simp⟩
    · have : ∀ els : List (List PV), (∀ cs ∈ els, shp X n e cs) → ∃ l : List α, els = l.map g ∧ ∀ x ∈ l, q x := by
        intro els
        induction els with
        | nil => intro _; exact ⟨[], rfl, by simp⟩
        | cons c r ih =>
          intro h
          obtain ⟨l, h1, h2⟩ := ih fun cs hcs => h cs (List.mem_cons_of_mem _ hcs)
          obtain ⟨x, h3, h4⟩ := hd n c (h c (List.mem_cons_self ..))
          exact ⟨x :: l, by rw [h1, h3]; rfl, fun y hy => by
            rcases List.mem_cons.1 hy with rfl | hy
            · exact h4
            · exact h2 y hy⟩
      obtain ⟨l, h1, h2⟩ := this els he
      subst h1
      exact ⟨l, false, rfl, by have := hl; rw [List.length_map] at this; exact this, h2⟩
theorem shpL_cons {X : Cx} {n t : Nat} {ts : List Nat} {pvs : List PV} (h : shpL X n (t :: ts) pvs) : ∃ v vs, pvs = v :: vs ∧ shpV X n t v ∧ shpL X n ts vs := by
  cases pvs with
  | nil => cases h
  | cons v vs => exact ⟨v, vs, rfl, h.1, h.2⟩
theorem shpL_nil {X : Cx} {n : Nat} {pvs : List PV} (h : shpL X n [] pvs) : pvs = [] := by
  cases pvs with
  | nil => rfl
  | cons v vs => cases h
theorem shpV_one {X : Cx} {n t : Nat} {i0 : TI} {v : PV} (hi : X.ti t = some i0) (ha : i0.k.agg = false) (h : shpV X n t v) : shp X n t [v] := by
  unfold shpV at h; rw [hi] at h; simp only [ha, Bool.false_eq_true, if_false] at h; exact h
end Go.Eng
namespace Go.Eng
open Go Go.Proofs
/-! bytes that are handed in -/
theorem d_u8 {X : Cx} {t n : Nat} {i0 : TI} {vs : List PV} (hi : X.ti t = some i0) (hk : i0.k = .int .u8) (h : shp X n t vs) : ∃ m : Int, vs = [.int .u8 m] ∧ True := by
  cases n with
  | zero => cases h
  | succ n => unfold shp at h; rw [hi] at h; simp only [hk] at h; obtain ⟨m, hm, _⟩ := h; exact ⟨m, hm, trivial⟩
theorem curU8_map : ∀ l : List Int, curU8 (l.map fun m => [.int .u8 m]) = true
  | [] => rfl
  | _ :: r => curU8_map r
theorem dBy {n : Nat} {v : PV} (h : shpV X n 22 v) : ∃ (els : List (List PV)) (nl : Bool), v = .lst 1 nl els ∧ curU8 els = true := by
  have h := shpV_one (i0 := (X.ti 22).getD default) rfl rfl h
  obtain ⟨l, nl, e, h1, h2⟩ := d_slice (i0 := (X.ti 22).getD default) (sz := 1) (g := fun m : Int => [PV.int .u8 m]) (q := fun _ => True) rfl rfl rfl (fun _ _ => d_u8 (i0 := (X.ti 5).getD default) rfl rfl) h
  exact ⟨_, nl, (List.cons.inj e).1, curU8_map l⟩
end Go.Eng
namespace Go.Eng
open Go Go.Proofs
theorem law3 {pvs : List PV} (h : shpL X 8 [22] pvs) : Fn Tryz.prog 3 false pvs (.bool true) := by
  obtain ⟨_, _, rfl, h1, h2⟩ := shpL_cons h
  obtain rfl := shpL_nil h2
  obtain ⟨els, nl, rfl, hu⟩ := dBy h1
  exact f3 nl els hu
end Go.Eng
