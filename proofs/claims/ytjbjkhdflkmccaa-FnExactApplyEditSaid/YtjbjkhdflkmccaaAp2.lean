/- A part of the proof of a law's statement: for every input the law returns true and leaves its arguments as they were. No condition beyond the statement's own. What each function computes. -/
import Derived.WalkKit
import Derived.Test.YtjbjkhdflkmccaaAp1
set_option linter.unusedVariables false
set_option linter.unusedSimpArgs false
set_option autoImplicit true
set_option relaxedAutoImplicit true
namespace Go.Eng
open Go Go.Proofs Geo
set_option linter.unusedSimpArgs false
set_option linter.unusedVariables false
set_option maxRecDepth 20000
set_option maxHeartbeats 1000000

/-! marks that are read again. WRITES -/
theorem f76 (N : Nat) (nl : Bool) (k : Int) (hk0 : 0 ≤ k) (hk : k + 2 * N ≤ 1000000000000) :
    Fn Try.prog 76 false [.lst 2 nl ((upTo (mkPt k) N).map cp), i k] (i (k + 2 * N)) := by
  obtain ⟨a, ha⟩ : ∃ a, (upTo (mkPt k) N).map cp = a := ⟨_, rfl⟩
  have hal : a.length = N := by rw [← ha, List.length_map, upTo_length]
  rw [ha]
  refine Fn.by_sx hX (by kernel_rfl) c76 (by kernel_rfl) (by rfl) ?_
  simp [i76, sxa, isPtrN, PV.pcs, elAt, setEl, inAt, elIn, setIn, isLst, cellsOf, Ex.ok, Ex.val, Opd.val, POp.dst, bin_int, binOK_int, bin_str, binOK_str, resOK, resV, RB.val, sub, putc, scB, scL, oneB, conf, Ex.val.eqP, Ex.val.eqL, negV, mxV, mnV, ← wr_eq, wr_zero, wr_one, wr_m1, bst_lst, byteC, partsOK, putAll, appV, nilV, slV, sslV, optB, optNum, and_assoc, exists_and_left, exists_eq_left']
  refine sx_count N (fun n V => V 0 = .lst 2 nl a ∧ V 5 = i n ∧ V 1 = i (k + 2 * n)) 0 (by omega) (by simp [sxa, isPtrN, PV.pcs, elAt, setEl, inAt, elIn, setIn, isLst, cellsOf, Ex.ok, Ex.val, Opd.val, POp.dst, bin_int, binOK_int, bin_str, binOK_str, resOK, resV, RB.val, sub, putc, scB, scL, oneB, conf, Ex.val.eqP, Ex.val.eqL, negV, mxV, mnV, ← wr_eq, wr_zero, wr_one, wr_m1, bst_lst, byteC, partsOK, putAll, appV, nilV, slV, sslV, optB, optNum, and_assoc, exists_and_left, exists_eq_left']) ?_
  rintro n V hn ⟨h0, h5, h1⟩
  simp [sxa, isPtrN, PV.pcs, elAt, setEl, inAt, elIn, setIn, isLst, cellsOf, Ex.ok, Ex.val, Opd.val, POp.dst, bin_int, binOK_int, bin_str, binOK_str, resOK, resV, RB.val, sub, putc, scB, scL, oneB, conf, Ex.val.eqP, Ex.val.eqL, negV, mxV, mnV, ← wr_eq, wr_zero, wr_one, wr_m1, bst_lst, byteC, partsOK, putAll, appV, nilV, slV, sslV, optB, optNum, and_assoc, exists_and_left, exists_eq_left', h0, h5]
  refine CondS_d (fun hlt => ?_) (fun hge => ?_)
  · have hlt' : n < N := by omega
    have hw : wr .i64 ((n : Int) + 1) = n + 1 := wr_in (by omega) (by omega)
    have hw2 : wr .i64 (k + 2 * n + 1) = k + 2 * n + 1 := wr_in (by omega) (by omega)
    have hw3 : wr .i64 (k + 2 * n + 1 + 1) = k + 2 * (n + 1) := by rw [wr_in (by omega) (by omega)]; omega
    have hat : a[n]? = some [i (k + 2 * n), i (k + 2 * n + 1)] := by rw [← ha, List.getElem?_map, upTo_get hlt']; rfl
    obtain ⟨hlm, hat'⟩ := get_of hat
    repeat' (first | intro _ | (simp [sxa, isPtrN, PV.pcs, elAt, setEl, inAt, elIn, setIn, isLst, cellsOf, Ex.ok, Ex.val, Opd.val, POp.dst, bin_int, binOK_int, bin_str, binOK_str, resOK, resV, RB.val, sub, putc, scB, scL, oneB, conf, Ex.val.eqP, Ex.val.eqL, negV, mxV, mnV, ← wr_eq, wr_zero, wr_one, wr_m1, bst_lst, byteC, partsOK, putAll, appV, nilV, slV, sslV, optB, optNum, and_assoc, exists_and_left, exists_eq_left', *]) | refine CondS_d (fun h => ?_) (fun h => ?_) | refine CondS_b (fun h => ?_) (fun h => ?_) | refine GrdS_d (fun h => ?_) (fun h => ?_) | refine GrdS_b (fun h => ?_) (fun h => ?_) | refine OkS_i (by omega) ?_ | fail)
  · have : n = N := by omega
    subst this
    repeat' (first | intro _ | (simp [sxa, isPtrN, PV.pcs, elAt, setEl, inAt, elIn, setIn, isLst, cellsOf, Ex.ok, Ex.val, Opd.val, POp.dst, bin_int, binOK_int, bin_str, binOK_str, resOK, resV, RB.val, sub, putc, scB, scL, oneB, conf, Ex.val.eqP, Ex.val.eqL, negV, mxV, mnV, ← wr_eq, wr_zero, wr_one, wr_m1, bst_lst, byteC, partsOK, putAll, appV, nilV, slV, sslV, optB, optNum, and_assoc, exists_and_left, exists_eq_left', *]) | refine CondS_d (fun h => ?_) (fun h => ?_) | refine CondS_b (fun h => ?_) (fun h => ?_) | refine GrdS_d (fun h => ?_) (fun h => ?_) | refine GrdS_b (fun h => ?_) (fun h => ?_) | refine OkS_i (by omega) ?_ | fail)
theorem f48 (l : List Ft) (nl : Bool) (k : Int) (hk0 : 0 ≤ k) (hl : l.length ≤ 1000000000) (hk : kTo l k l.length ≤ 1000000000) :
    Fn Try.prog 48 false [.lst 5 nl ((upTo (mkFtAt l k) l.length).map ft), i k] (i (kTo l k l.length)) := by
  obtain ⟨a, ha⟩ : ∃ a, (upTo (mkFtAt l k) l.length).map ft = a := ⟨_, rfl⟩
  have hal : a.length = l.length := by rw [← ha, List.length_map, upTo_length]
  rw [ha]
  refine Fn.by_sx hX (by kernel_rfl) c48 (by kernel_rfl) (by rfl) ?_
  simp [i48, sxa, isPtrN, PV.pcs, elAt, setEl, inAt, elIn, setIn, isLst, cellsOf, Ex.ok, Ex.val, Opd.val, POp.dst, bin_int, binOK_int, bin_str, binOK_str, resOK, resV, RB.val, sub, putc, scB, scL, oneB, conf, Ex.val.eqP, Ex.val.eqL, negV, mxV, mnV, ← wr_eq, wr_zero, wr_one, wr_m1, bst_lst, byteC, partsOK, putAll, appV, nilV, slV, sslV, optB, optNum, and_assoc, exists_and_left, exists_eq_left']
  refine sx_count l.length (fun n V => V 0 = .lst 5 nl a ∧ V 5 = i n ∧ V 1 = i (kTo l k n)) 0 (by omega) (by simp [sxa, isPtrN, PV.pcs, elAt, setEl, inAt, elIn, setIn, isLst, cellsOf, Ex.ok, Ex.val, Opd.val, POp.dst, bin_int, binOK_int, bin_str, binOK_str, resOK, resV, RB.val, sub, putc, scB, scL, oneB, conf, Ex.val.eqP, Ex.val.eqL, negV, mxV, mnV, ← wr_eq, wr_zero, wr_one, wr_m1, bst_lst, byteC, partsOK, putAll, appV, nilV, slV, sslV, optB, optNum, and_assoc, exists_and_left, exists_eq_left', kTo]) ?_
  rintro n V hn ⟨h0, h5, h1⟩
  simp [sxa, isPtrN, PV.pcs, elAt, setEl, inAt, elIn, setIn, isLst, cellsOf, Ex.ok, Ex.val, Opd.val, POp.dst, bin_int, binOK_int, bin_str, binOK_str, resOK, resV, RB.val, sub, putc, scB, scL, oneB, conf, Ex.val.eqP, Ex.val.eqL, negV, mxV, mnV, ← wr_eq, wr_zero, wr_one, wr_m1, bst_lst, byteC, partsOK, putAll, appV, nilV, slV, sslV, optB, optNum, and_assoc, exists_and_left, exists_eq_left', h0, h5]
  refine CondS_d (fun hlt => ?_) (fun hge => ?_)
  · have hlt' : n < l.length := by omega
    have hm1 := kTo_mono (l := l) (k := k) (n := 0) (m := n) (by omega)
    have hm2 := kTo_mono (l := l) (k := k) (n := n + 1) (m := l.length) (by omega)
    have hks : kTo l k (n + 1) = kTo l k n + 4 + 2 * (l[n].f4.length : Nat) := by simp [kTo, hlt']
    have hm1 : k ≤ kTo l k n := hm1
    have hmk : ft (mkFtAt l k n) = [i (kTo l k n), i (kTo l k n + 1), i (kTo l k n + 2), .str (mt (kTo l k n + 3)), .lst 2 l[n].nl ((upTo (mkPt (kTo l k n + 4)) l[n].f4.length).map cp)] := by unfold mkFtAt mkFt ft; simp [hlt']
    obtain ⟨x, hxe⟩ : ∃ x, l[n] = x := ⟨_, rfl⟩
    rw [hxe] at hks hmk
    obtain ⟨q, hq⟩ : ∃ q, kTo l k n = q := ⟨_, rfl⟩
    rw [hq] at hks hmk h1 hm1
    have hat : a[n]? = some [i q, i (q + 1), i (q + 2), .str (mt (q + 3)), .lst 2 x.nl ((upTo (mkPt (q + 4)) x.f4.length).map cp)] := by rw [← ha, List.getElem?_map, upTo_get hlt', Option.map_some, hmk]
    obtain ⟨hlm, hat'⟩ := get_of hat
    have hw : wr .i64 ((n : Int) + 1) = n + 1 := wr_in (by omega) (by omega)
    have w1 : wr .i64 (q + 1) = q + 1 := wr_in (by omega) (by omega)
    have w2 : wr .i64 (q + 1 + 1) = q + 2 := by rw [wr_in (by omega) (by omega)]; omega
    have w3 : wr .i64 (q + 2 + 1) = q + 3 := by rw [wr_in (by omega) (by omega)]; omega
    have w4 : wr .i64 (q + 3 + 1) = q + 4 := by rw [wr_in (by omega) (by omega)]; omega
    have c1 := f92 (q + 3) (by omega)
    have c2 := f76 x.f4.length x.nl (q + 4) (by omega) (by omega)
    have hks' : q + 4 + 2 * (x.f4.length : Int) = kTo l k (n + 1) := hks.symm
    have hneg : ¬ kTo l k (n + 1) < 0 := by omega
    clear hks hmk ha hq
    rw [hks'] at c2
    obtain ⟨T, hT⟩ : ∃ T, mt (q + 3) = T := ⟨_, rfl⟩
    rw [hT] at c1 hat hat'
    clear hT
    repeat' (first | intro _ | (simp [sxa, isPtrN, PV.pcs, elAt, setEl, inAt, elIn, setIn, isLst, cellsOf, Ex.ok, Ex.val, Opd.val, POp.dst, bin_int, binOK_int, bin_str, binOK_str, resOK, resV, RB.val, sub, putc, scB, scL, oneB, conf, Ex.val.eqP, Ex.val.eqL, negV, mxV, mnV, ← wr_eq, wr_zero, wr_one, wr_m1, bst_lst, byteC, partsOK, putAll, appV, nilV, slV, sslV, optB, optNum, and_assoc, exists_and_left, exists_eq_left', *]) | refine CallS_i (c1) ?_ | refine CallS_i (c2) ?_ | refine CallM_i (c1) ?_ | refine CallM_i (c2) ?_ | refine CallE_i (c1) ?_ | refine CallE_i (c2) ?_ | refine CallX_i (c1) ?_ | refine CallX_i (c2) ?_ | refine CallB_i (c1) ?_ | refine CallB_i (c2) ?_ | refine CondS_d (fun h => ?_) (fun h => ?_) | refine CondS_b (fun h => ?_) (fun h => ?_) | refine GrdS_d (fun h => ?_) (fun h => ?_) | refine GrdS_b (fun h => ?_) (fun h => ?_) | refine OkS_i (by omega) ?_ | fail)
  · have : n = l.length := by omega
    subst this
    repeat' (first | intro _ | (simp [sxa, isPtrN, PV.pcs, elAt, setEl, inAt, elIn, setIn, isLst, cellsOf, Ex.ok, Ex.val, Opd.val, POp.dst, bin_int, binOK_int, bin_str, binOK_str, resOK, resV, RB.val, sub, putc, scB, scL, oneB, conf, Ex.val.eqP, Ex.val.eqL, negV, mxV, mnV, ← wr_eq, wr_zero, wr_one, wr_m1, bst_lst, byteC, partsOK, putAll, appV, nilV, slV, sslV, optB, optNum, and_assoc, exists_and_left, exists_eq_left', *]) | refine CondS_d (fun h => ?_) (fun h => ?_) | refine CondS_b (fun h => ?_) (fun h => ?_) | refine GrdS_d (fun h => ?_) (fun h => ?_) | refine GrdS_b (fun h => ?_) (fun h => ?_) | refine OkS_i (by omega) ?_ | fail)
def kToE (l : List En) (k : Int) : Nat → Int
  | 0 => k
  | n + 1 => kToE l k n + 7 + 2 * ((l.getD n enD).f0.f4.length : Nat)
def mkEn (k : Int) (x : En) : En := ⟨mkFt k x.f0, k + 4 + 2 * (x.f0.f4.length : Nat), k + 5 + 2 * (x.f0.f4.length : Nat), decide ((k + 6 + 2 * (x.f0.f4.length : Nat)).tmod 3 = 0)⟩
def mkEnAt (l : List En) (k : Int) (j : Nat) : En := mkEn (kToE l k j) (l.getD j enD)
theorem kToE_mono {l : List En} {k : Int} {n m : Nat} (h : n ≤ m) : kToE l k n ≤ kToE l k m := by
  induction m with
  | zero => obtain rfl : n = 0 := by omega
            exact Int.le_refl _
  | succ m ih =>
    rcases Nat.lt_or_ge m n with h1 | h1
    · obtain rfl : n = m + 1 := by omega
      exact Int.le_refl _
    · have := ih h1
      have h2 : kToE l k (m + 1) = kToE l k m + 7 + 2 * ((l.getD m enD).f0.f4.length : Nat) := rfl
      omega
theorem kToE_le (l : List En) : ∀ n : Nat, n ≤ l.length → ∀ k : Int, kToE l k n ≤ k + 7 * n + 2 * (wtTo l n : Nat)
  | 0, _, k => by simp [kToE]; omega
  | n + 1, hn, k => by
    have h1 := kToE_le l n (by omega) k
    have h2 := wtTo_succ (l := l) (n := n) (by omega)
    have h3 : wtF l[n].f0 = l[n].f0.f3.size + l[n].f0.f4.length := rfl
    have h4 : kToE l k (n + 1) = kToE l k n + 7 + 2 * (l[n].f0.f4.length : Nat) := by simp [kToE, show n < l.length by omega]
    omega
end Go.Eng
namespace Go.Eng
open Go Go.Proofs Geo
set_option linter.unusedSimpArgs false
set_option linter.unusedVariables false
set_option maxRecDepth 20000
set_option maxHeartbeats 1000000

/-! the source of a log. WRITES -/
theorem cp_sc (l : List Pt) : ∀ cs ∈ l.map cp, scL cs = true := by
  intro cs hcs
  obtain ⟨p, _, rfl⟩ := List.mem_map.1 hcs
  rfl
theorem cp_sc2 (l : List Pt) : (∀ cs ∈ l.map cp, scL cs = true) = True := by simp only [eq_iff_iff, iff_true]; exact cp_sc l
theorem cp_sc3 (l : List Pt) : (∀ a ∈ l, scL (cp a) = true) = True := by simp only [eq_iff_iff, iff_true]; exact fun _ _ => rfl
theorem f112 (x : Ft) (hx : x.f4.length ≤ 1000000000) : Fn Try.prog 112 true [.agg (ft x)] (.agg (ft x.fr)) := by
  have hs := cp_sc3 x.f4
  unfold ft Ft.fr
  refine Fn.by_sx hX (by kernel_rfl) c112 (by kernel_rfl) (by rfl) ?_
  simp [i112, sxa, isPtrN, PV.pcs, elAt, setEl, inAt, elIn, setIn, isLst, cellsOf, Ex.ok, Ex.val, Opd.val, POp.dst, bin_int, binOK_int, bin_str, binOK_str, resOK, resV, RB.val, sub, putc, scB, scL, oneB, conf, Ex.val.eqP, Ex.val.eqL, negV, mxV, mnV, ← wr_eq, wr_zero, wr_one, wr_m1, bst_lst, byteC, partsOK, putAll, appV, nilV, slV, sslV, optB, optNum, and_assoc, exists_and_left, exists_eq_left']
  repeat' (first | intro _ | (simp [sxa, isPtrN, PV.pcs, elAt, setEl, inAt, elIn, setIn, isLst, cellsOf, Ex.ok, Ex.val, Opd.val, POp.dst, bin_int, binOK_int, bin_str, binOK_str, resOK, resV, RB.val, sub, putc, scB, scL, oneB, conf, Ex.val.eqP, Ex.val.eqL, negV, mxV, mnV, ← wr_eq, wr_zero, wr_one, wr_m1, bst_lst, byteC, partsOK, putAll, appV, nilV, slV, sslV, optB, optNum, and_assoc, exists_and_left, exists_eq_left', *]) | refine CondS_d (fun h => ?_) (fun h => ?_) | refine CondS_b (fun h => ?_) (fun h => ?_) | refine GrdS_d (fun h => ?_) (fun h => ?_) | refine GrdS_b (fun h => ?_) (fun h => ?_) | refine OkS_i (by omega) ?_ | fail)
  all_goals omega
theorem f140 (l : List Pt) (hl : l.length ≤ 1000000000) : Fn Try.prog 140 true [.lst 2 false (l.map cp)] (.lst 2 false (l.map cp)) := by
  have hs := cp_sc3 l
  refine Fn.by_sx hX (by kernel_rfl) c140 (by kernel_rfl) (by rfl) ?_
  simp [i140, sxa, isPtrN, PV.pcs, elAt, setEl, inAt, elIn, setIn, isLst, cellsOf, Ex.ok, Ex.val, Opd.val, POp.dst, bin_int, binOK_int, bin_str, binOK_str, resOK, resV, RB.val, sub, putc, scB, scL, oneB, conf, Ex.val.eqP, Ex.val.eqL, negV, mxV, mnV, ← wr_eq, wr_zero, wr_one, wr_m1, bst_lst, byteC, partsOK, putAll, appV, nilV, slV, sslV, optB, optNum, and_assoc, exists_and_left, exists_eq_left']
  repeat' (first | intro _ | (simp [sxa, isPtrN, PV.pcs, elAt, setEl, inAt, elIn, setIn, isLst, cellsOf, Ex.ok, Ex.val, Opd.val, POp.dst, bin_int, binOK_int, bin_str, binOK_str, resOK, resV, RB.val, sub, putc, scB, scL, oneB, conf, Ex.val.eqP, Ex.val.eqL, negV, mxV, mnV, ← wr_eq, wr_zero, wr_one, wr_m1, bst_lst, byteC, partsOK, putAll, appV, nilV, slV, sslV, optB, optNum, and_assoc, exists_and_left, exists_eq_left', *]) | refine CondS_d (fun h => ?_) (fun h => ?_) | refine CondS_b (fun h => ?_) (fun h => ?_) | refine GrdS_d (fun h => ?_) (fun h => ?_) | refine GrdS_b (fun h => ?_) (fun h => ?_) | refine OkS_i (by omega) ?_ | fail)
  all_goals omega
theorem f90 (x : Ft) (hn : x.nl = false) (hx : x.f4.length ≤ 1000000000) : Fn Try.prog 90 true [.agg (ft x)] (.agg (ft x.fr)) := by
  have hc := f140 x.f4 hx
  unfold ft Ft.fr
  rw [hn]
  refine Fn.by_sx hX (by kernel_rfl) c90 (by kernel_rfl) (by rfl) ?_
  simp [i90, sxa, isPtrN, PV.pcs, elAt, setEl, inAt, elIn, setIn, isLst, cellsOf, Ex.ok, Ex.val, Opd.val, POp.dst, bin_int, binOK_int, bin_str, binOK_str, resOK, resV, RB.val, sub, putc, scB, scL, oneB, conf, Ex.val.eqP, Ex.val.eqL, negV, mxV, mnV, ← wr_eq, wr_zero, wr_one, wr_m1, bst_lst, byteC, partsOK, putAll, appV, nilV, slV, sslV, optB, optNum, and_assoc, exists_and_left, exists_eq_left']
  repeat' (first | intro _ | (simp [sxa, isPtrN, PV.pcs, elAt, setEl, inAt, elIn, setIn, isLst, cellsOf, Ex.ok, Ex.val, Opd.val, POp.dst, bin_int, binOK_int, bin_str, binOK_str, resOK, resV, RB.val, sub, putc, scB, scL, oneB, conf, Ex.val.eqP, Ex.val.eqL, negV, mxV, mnV, ← wr_eq, wr_zero, wr_one, wr_m1, bst_lst, byteC, partsOK, putAll, appV, nilV, slV, sslV, optB, optNum, and_assoc, exists_and_left, exists_eq_left', *]) | refine CallS_i (hc) ?_ | refine CallM_i (hc) ?_ | refine CallE_i (hc) ?_ | refine CallX_i (hc) ?_ | refine CallB_i (hc) ?_ | refine CondS_d (fun h => ?_) (fun h => ?_) | refine CondS_b (fun h => ?_) (fun h => ?_) | refine GrdS_d (fun h => ?_) (fun h => ?_) | refine GrdS_b (fun h => ?_) (fun h => ?_) | refine OkS_i (by omega) ?_ | fail)
def soTo (l : List En) : Nat → List Ft
  | 0 => []
  | n + 1 => soTo l n ++ (if (l.getD n enD).f3 = true then [] else [(l.getD n enD).f0.fr])
def soOf (l : List En) : List Ft := if wLog l = true then soTo l l.length else []
theorem wLog_len {l : List En} (h : wLog l = true) : l.length ≤ 16 := by unfold wLog at h; simp at h; exact h.1
theorem soTo_len (l : List En) (n : Nat) : (soTo l n).length ≤ n := by
  induction n with
  | zero => simp [soTo]
  | succ n ih => unfold soTo; rw [List.length_append]; split <;> simp <;> omega
theorem soTo_mem {l : List En} : ∀ n : Nat, ∀ y ∈ soTo l n, y.nl = false ∧ ∃ x : En, (x ∈ l ∨ x = enD) ∧ y.f4 = x.f0.f4
  | 0, y, h => by simp [soTo] at h
  | n + 1, y, h => by
    unfold soTo at h
    rcases List.mem_append.1 h with h | h
    · exact soTo_mem n y h
    · split at h
      · cases h
      · simp only [List.mem_singleton] at h
        subst h
        refine ⟨rfl, l.getD n enD, ?_, rfl⟩
        rcases Nat.lt_or_ge n l.length with h1 | h1
        · left; simp [h1]
        · right; simp [h1]
theorem frE_small {l r : List En} (hr : l.map En.fr = r) (hm : ∀ x ∈ l, x.f0.f3.size ≤ 1048576 ∧ x.f0.f4.length ≤ 1048576) : ∀ x ∈ r, (x.f0.f3.size ≤ 1048576 ∧ x.f0.f4.length ≤ 1048576) ∧ x.f0.nl = false := by
  intro x hx
  rw [← hr] at hx
  obtain ⟨y, hy, rfl⟩ := List.mem_map.1 hx
  exact ⟨hm y hy, rfl⟩
theorem frE_k {l r : List En} (hr : l.map En.fr = r) (hb : wtL l ≤ 1048576) : kToE r 1 r.length ≤ 1000000000 := by
  have h1 := kToE_le r r.length (Nat.le_refl _) 1
  have h2 : wtTo r r.length = wtTo l l.length := by
    rw [← hr]
    unfold wtTo
    rw [List.take_of_length_le (by simp), List.take_of_length_le (Nat.le_refl _), List.map_map]
    rfl
  have h3 : r.length = l.length := by rw [← hr, List.length_map]
  unfold wtL at hb
  omega
theorem kTo_ge {l : List Ft} {B : Nat} (h : ∀ x ∈ l, x.f4.length ≤ B) : ∀ n : Nat, n ≤ l.length → ∀ k : Int, kTo l k n ≤ k + n * (4 + 2 * (B : Int))
  | 0, _, k => by simp [kTo]
  | n + 1, hn, k => by
    have h1 := kTo_ge h n (by omega) k
    have h2 : kTo l k (n + 1) = kTo l k n + 4 + 2 * (l[n].f4.length : Nat) := by simp [kTo, show n < l.length by omega]
    have h3 := h l[n] (List.getElem_mem ..)
    have h4 : ((n + 1 : Nat) : Int) * (4 + 2 * (B : Int)) = n * (4 + 2 * (B : Int)) + (4 + 2 * (B : Int)) := by rw [Int.natCast_add, Int.add_mul]; omega
    rw [h4, h2]; omega
end Go.Eng
namespace Go.Eng
open Go Go.Proofs Geo
set_option linter.unusedSimpArgs false
set_option linter.unusedVariables false
set_option maxRecDepth 20000
set_option maxHeartbeats 1000000

/-! edits: sizes, copies, what is read again, marks. WRITES -/
structure Ei where
  f0 : Int
  f1 : Ft
  f2 : Int
  f3 : Int
  f4 : Int
def ei (x : Ei) : List PV := [i x.f0, i x.f1.f0, i x.f1.f1, i x.f1.f2, .str x.f1.f3, .lst 2 x.f1.nl (x.f1.f4.map cp), i x.f2, i x.f3, i x.f4]
def eiD : Ei := ⟨0, ⟨0, 0, 0, ⟨#[]⟩, [], true⟩, 0, 0, 0⟩
theorem f41 (x : Ei) (left : Int) (h0 : 0 ≤ left) (h1 : left ≤ 1048576) (hx : x.f1.fits) : Fn Try.prog 41 false [.agg (ei x), i left] (i (szr left (wtF x.f1 : Nat))) := by
  unfold ei
  refine Fn.by_sx hX (by kernel_rfl) c41 (by kernel_rfl) (by rfl) ?_
  simp [i41, sxa, isPtrN, PV.pcs, elAt, setEl, inAt, elIn, setIn, isLst, cellsOf, Ex.ok, Ex.val, Opd.val, POp.dst, bin_int, binOK_int, bin_str, binOK_str, resOK, resV, RB.val, sub, putc, scB, scL, oneB, conf, Ex.val.eqP, Ex.val.eqL, negV, mxV, mnV, ← wr_eq, wr_zero, wr_one, wr_m1, bst_lst, byteC, partsOK, putAll, appV, nilV, slV, sslV, optB, optNum, and_assoc, exists_and_left, exists_eq_left']
  have hc := f77 x.f1 left h0 h1 hx
  unfold ft at hc
  repeat' (first | intro _ | (simp [sxa, isPtrN, PV.pcs, elAt, setEl, inAt, elIn, setIn, isLst, cellsOf, Ex.ok, Ex.val, Opd.val, POp.dst, bin_int, binOK_int, bin_str, binOK_str, resOK, resV, RB.val, sub, putc, scB, scL, oneB, conf, Ex.val.eqP, Ex.val.eqL, negV, mxV, mnV, ← wr_eq, wr_zero, wr_one, wr_m1, bst_lst, byteC, partsOK, putAll, appV, nilV, slV, sslV, optB, optNum, and_assoc, exists_and_left, exists_eq_left', *]) | refine CallS_i (hc) ?_ | refine CallM_i (hc) ?_ | refine CallE_i (hc) ?_ | refine CallX_i (hc) ?_ | refine CallB_i (hc) ?_ | refine CondS_d (fun h => ?_) (fun h => ?_) | refine CondS_b (fun h => ?_) (fun h => ?_) | refine GrdS_d (fun h => ?_) (fun h => ?_) | refine GrdS_b (fun h => ?_) (fun h => ?_) | refine OkS_i (by omega) ?_ | fail)
  all_goals (unfold szr at *; split at * <;> omega)
def wtToI (l : List Ei) (n : Nat) : Nat := ((l.take n).map fun x => wtF x.f1).sum
theorem wtToI_zero (l : List Ei) : wtToI l 0 = 0 := rfl
theorem wtToI_succ {l : List Ei} {n : Nat} (h : n < l.length) : wtToI l (n + 1) = wtToI l n + wtF l[n].f1 := by
  unfold wtToI
  rw [List.take_add_one, List.getElem?_eq_getElem h, List.map_append, List.sum_append]
  simp
theorem wtToI_le {l : List Ei} {n m : Nat} (h : n ≤ m) : wtToI l n ≤ wtToI l m := by
  unfold wtToI
  have : l.take m = l.take n ++ (l.take m).drop n := by
    have := List.take_append_drop n (l.take m)
    rw [List.take_take, Nat.min_eq_left h] at this
    exact this.symm
  rw [this, List.map_append, List.sum_append]
  omega
def wtLI (l : List Ei) : Nat := l.length + wtToI l l.length
def Ei.fr (x : Ei) : Ei := { x with f1 := x.f1.fr }
theorem f43 (x : Ei) (hl : x.f1.f4.length ≤ 1048576) : Fn Try.prog 43 true [.agg (ei x)] (.agg (ei x.fr)) := by
  have hc := f82 x.f1 hl
  unfold ft Ft.fr at hc
  unfold ei Ei.fr Ft.fr
  refine Fn.by_sx hX (by kernel_rfl) c43 (by kernel_rfl) (by rfl) ?_
  simp [i43, sxa, isPtrN, PV.pcs, elAt, setEl, inAt, elIn, setIn, isLst, cellsOf, Ex.ok, Ex.val, Opd.val, POp.dst, bin_int, binOK_int, bin_str, binOK_str, resOK, resV, RB.val, sub, putc, scB, scL, oneB, conf, Ex.val.eqP, Ex.val.eqL, negV, mxV, mnV, ← wr_eq, wr_zero, wr_one, wr_m1, bst_lst, byteC, partsOK, putAll, appV, nilV, slV, sslV, optB, optNum, and_assoc, exists_and_left, exists_eq_left']
  repeat' (first | intro _ | (simp [sxa, isPtrN, PV.pcs, elAt, setEl, inAt, elIn, setIn, isLst, cellsOf, Ex.ok, Ex.val, Opd.val, POp.dst, bin_int, binOK_int, bin_str, binOK_str, resOK, resV, RB.val, sub, putc, scB, scL, oneB, conf, Ex.val.eqP, Ex.val.eqL, negV, mxV, mnV, ← wr_eq, wr_zero, wr_one, wr_m1, bst_lst, byteC, partsOK, putAll, appV, nilV, slV, sslV, optB, optNum, and_assoc, exists_and_left, exists_eq_left', *]) | refine CallS_i (hc) ?_ | refine CallM_i (hc) ?_ | refine CallE_i (hc) ?_ | refine CallX_i (hc) ?_ | refine CallB_i (hc) ?_ | refine CondS_d (fun h => ?_) (fun h => ?_) | refine CondS_b (fun h => ?_) (fun h => ?_) | refine GrdS_d (fun h => ?_) (fun h => ?_) | refine GrdS_b (fun h => ?_) (fun h => ?_) | refine OkS_i (by omega) ?_ | fail)
def eiz : List PV := [i 0, i 0, i 0, i 0, .str (bs []), .lst 2 true [], i 0, i 0, i 0]
def eif (x : Ei) : List PV := [i x.f0, i x.f1.f0, i x.f1.f1, i x.f1.f2, .str x.f1.f3, .lst 2 false (x.f1.f4.map cp), i x.f2, i x.f3, i x.f4]
theorem f45 (x : Ei) (n1 n2 : Bool) (hl : x.f1.f4.length ≤ 1000000000000) : Fn Try.prog 45 false [.agg (ei { x with f1 := { x.f1 with nl := n1 } }), .agg (ei { x with f1 := { x.f1 with nl := n2 } })] (.bool true) := by
  have hc := f85 x.f1 n1 n2 hl
  unfold ft at hc
  unfold ei
  refine Fn.by_sx hX (by kernel_rfl) c45 (by kernel_rfl) (by rfl) ?_
  simp [i45, sxa, isPtrN, PV.pcs, elAt, setEl, inAt, elIn, setIn, isLst, cellsOf, Ex.ok, Ex.val, Opd.val, POp.dst, bin_int, binOK_int, bin_str, binOK_str, resOK, resV, RB.val, sub, putc, scB, scL, oneB, conf, Ex.val.eqP, Ex.val.eqL, negV, mxV, mnV, ← wr_eq, wr_zero, wr_one, wr_m1, bst_lst, byteC, partsOK, putAll, appV, nilV, slV, sslV, optB, optNum, and_assoc, exists_and_left, exists_eq_left']
  repeat' (first | intro _ | (simp [sxa, isPtrN, PV.pcs, elAt, setEl, inAt, elIn, setIn, isLst, cellsOf, Ex.ok, Ex.val, Opd.val, POp.dst, bin_int, binOK_int, bin_str, binOK_str, resOK, resV, RB.val, sub, putc, scB, scL, oneB, conf, Ex.val.eqP, Ex.val.eqL, negV, mxV, mnV, ← wr_eq, wr_zero, wr_one, wr_m1, bst_lst, byteC, partsOK, putAll, appV, nilV, slV, sslV, optB, optNum, and_assoc, exists_and_left, exists_eq_left', *]) | refine CallS_i (hc) ?_ | refine CallM_i (hc) ?_ | refine CallE_i (hc) ?_ | refine CallX_i (hc) ?_ | refine CallB_i (hc) ?_ | refine CondS_d (fun h => ?_) (fun h => ?_) | refine CondS_b (fun h => ?_) (fun h => ?_) | refine GrdS_d (fun h => ?_) (fun h => ?_) | refine GrdS_b (fun h => ?_) (fun h => ?_) | refine OkS_i (by omega) ?_ | fail)
theorem wtLI_len (l : List Ei) : l.length ≤ wtLI l := Nat.le_add_right ..
theorem wtLI_mem {l : List Ei} {x : Ei} (h : x ∈ l) : x.f1.f3.size + x.f1.f4.length ≤ wtLI l := by
  unfold wtLI wtToI
  rw [List.take_of_length_le (Nat.le_refl _)]
  have : ∀ (l : List Ei), x ∈ l → wtF x.f1 ≤ (l.map fun x => wtF x.f1).sum := by
    intro l
    induction l with
    | nil => intro h; cases h
    | cons y r ih =>
      intro h
      rw [List.map_cons, List.sum_cons]
      rcases List.mem_cons.1 h with rfl | h
      · exact Nat.le_add_right ..
      · have := ih h; omega
  have := this l h
  have e : wtF x.f1 = x.f1.f3.size + x.f1.f4.length := rfl
  omega
def kToI (l : List Ei) (k : Int) : Nat → Int
  | 0 => k
  | n + 1 => kToI l k n + 8 + 2 * ((l.getD n eiD).f1.f4.length : Nat)
def mkEi (k : Int) (x : Ei) : Ei := ⟨k, mkFt (k + 1) x.f1, k + 5 + 2 * (x.f1.f4.length : Nat), k + 6 + 2 * (x.f1.f4.length : Nat), k + 7 + 2 * (x.f1.f4.length : Nat)⟩
def mkEiAt (l : List Ei) (k : Int) (j : Nat) : Ei := mkEi (kToI l k j) (l.getD j eiD)
theorem kToI_mono {l : List Ei} {k : Int} {n m : Nat} (h : n ≤ m) : kToI l k n ≤ kToI l k m := by
  induction m with
  | zero => obtain rfl : n = 0 := by omega
            exact Int.le_refl _
  | succ m ih =>
    rcases Nat.lt_or_ge m n with h1 | h1
    · obtain rfl : n = m + 1 := by omega
      exact Int.le_refl _
    · have := ih h1
      have h2 : kToI l k (m + 1) = kToI l k m + 8 + 2 * ((l.getD m eiD).f1.f4.length : Nat) := rfl
      omega
theorem kToI_le (l : List Ei) : ∀ n : Nat, n ≤ l.length → ∀ k : Int, kToI l k n ≤ k + 8 * n + 2 * (wtToI l n : Nat)
  | 0, _, k => by simp [kToI]; omega
  | n + 1, hn, k => by
    have h1 := kToI_le l n (by omega) k
    have h2 := wtToI_succ (l := l) (n := n) (by omega)
    have h3 : wtF l[n].f1 = l[n].f1.f3.size + l[n].f1.f4.length := rfl
    have h4 : kToI l k (n + 1) = kToI l k n + 8 + 2 * (l[n].f1.f4.length : Nat) := by simp [kToI, show n < l.length by omega]
    omega
end Go.Eng
namespace Go.Eng
open Go Go.Proofs Geo
set_option linter.unusedSimpArgs false
set_option linter.unusedVariables false
set_option maxRecDepth 20000
set_option maxHeartbeats 1000000

/-! copies of sources. WRITES -/
def frTo (l : List Ft) (n : Nat) : List Ft := (l.take n).map Ft.fr
theorem frTo_succ {l : List Ft} {n : Nat} (h : n < l.length) : frTo l (n + 1) = frTo l n ++ [l[n].fr] := by
  unfold frTo
  rw [List.take_add_one, List.getElem?_eq_getElem h, List.map_append]
  rfl
theorem frTo_all (l : List Ft) : frTo l l.length = l.map Ft.fr := by unfold frTo; rw [List.take_of_length_le (Nat.le_refl _)]
theorem frTo_len {l : List Ft} {n : Nat} (h : n ≤ l.length) : (frTo l n).length = n := by unfold frTo; simp; omega
theorem f103 (l : List Ft) (nl : Bool) (hl : l.length ≤ 1000000000) (hb : ∀ x ∈ l, x.f4.length ≤ 1000000000) : Fn Try.prog 103 true [.lst 5 nl (l.map ft)] (.lst 5 false ((l.map Ft.fr).map ft)) := by
  refine Fn.by_sx hX (by kernel_rfl) c103 (by kernel_rfl) (by rfl) ?_
  simp [i103, sxa, isPtrN, PV.pcs, elAt, setEl, inAt, elIn, setIn, isLst, cellsOf, Ex.ok, Ex.val, Opd.val, POp.dst, bin_int, binOK_int, bin_str, binOK_str, resOK, resV, RB.val, sub, putc, scB, scL, oneB, conf, Ex.val.eqP, Ex.val.eqL, negV, mxV, mnV, ← wr_eq, wr_zero, wr_one, wr_m1, bst_lst, byteC, partsOK, putAll, appV, nilV, slV, sslV, optB, optNum, and_assoc, exists_and_left, exists_eq_left']
  refine sx_count l.length (fun n V => V 0 = .lst 5 nl (l.map ft) ∧ V 4 = i n ∧ V 3 = .lst 5 false ((frTo l n).map ft)) 0 (by omega) (by simp [sxa, isPtrN, PV.pcs, elAt, setEl, inAt, elIn, setIn, isLst, cellsOf, Ex.ok, Ex.val, Opd.val, POp.dst, bin_int, binOK_int, bin_str, binOK_str, resOK, resV, RB.val, sub, putc, scB, scL, oneB, conf, Ex.val.eqP, Ex.val.eqL, negV, mxV, mnV, ← wr_eq, wr_zero, wr_one, wr_m1, bst_lst, byteC, partsOK, putAll, appV, nilV, slV, sslV, optB, optNum, and_assoc, exists_and_left, exists_eq_left', frTo]) ?_
  rintro n V hn ⟨h0, h4, h3⟩
  have hw : wr .i64 ((n : Int) + 1) = n + 1 := wr_in (by omega) (by omega)
  simp [sxa, isPtrN, PV.pcs, elAt, setEl, inAt, elIn, setIn, isLst, cellsOf, Ex.ok, Ex.val, Opd.val, POp.dst, bin_int, binOK_int, bin_str, binOK_str, resOK, resV, RB.val, sub, putc, scB, scL, oneB, conf, Ex.val.eqP, Ex.val.eqL, negV, mxV, mnV, ← wr_eq, wr_zero, wr_one, wr_m1, bst_lst, byteC, partsOK, putAll, appV, nilV, slV, sslV, optB, optNum, and_assoc, exists_and_left, exists_eq_left', h0, h4]
  refine CondS_d (fun hlt => ?_) (fun hge => ?_)
  · have hlt' : n < l.length := by omega
    have hnx := frTo_succ hlt'
    have hlen := frTo_len (l := l) (n := n) (by omega)
    have hc := f112 l[n] (hb _ (List.getElem_mem ..))
    unfold ft at hc
    repeat' (first | intro _ | (simp [sxa, isPtrN, PV.pcs, elAt, setEl, inAt, elIn, setIn, isLst, cellsOf, Ex.ok, Ex.val, Opd.val, POp.dst, bin_int, binOK_int, bin_str, binOK_str, resOK, resV, RB.val, sub, putc, scB, scL, oneB, conf, Ex.val.eqP, Ex.val.eqL, negV, mxV, mnV, ← wr_eq, wr_zero, wr_one, wr_m1, bst_lst, byteC, partsOK, putAll, appV, nilV, slV, sslV, optB, optNum, and_assoc, exists_and_left, exists_eq_left', ft, *]) | refine CallS_i (hc) ?_ | refine CallM_i (hc) ?_ | refine CallE_i (hc) ?_ | refine CallX_i (hc) ?_ | refine CallB_i (hc) ?_ | refine CondS_d (fun h => ?_) (fun h => ?_) | refine CondS_b (fun h => ?_) (fun h => ?_) | refine GrdS_d (fun h => ?_) (fun h => ?_) | refine GrdS_b (fun h => ?_) (fun h => ?_) | refine OkS_i (by omega) ?_ | fail)
    all_goals omega
  · have : n = l.length := by omega
    subst this
    have ha := frTo_all l
    repeat' (first | intro _ | (simp [sxa, isPtrN, PV.pcs, elAt, setEl, inAt, elIn, setIn, isLst, cellsOf, Ex.ok, Ex.val, Opd.val, POp.dst, bin_int, binOK_int, bin_str, binOK_str, resOK, resV, RB.val, sub, putc, scB, scL, oneB, conf, Ex.val.eqP, Ex.val.eqL, negV, mxV, mnV, ← wr_eq, wr_zero, wr_one, wr_m1, bst_lst, byteC, partsOK, putAll, appV, nilV, slV, sslV, optB, optNum, and_assoc, exists_and_left, exists_eq_left', *]) | refine CondS_d (fun h => ?_) (fun h => ?_) | refine CondS_b (fun h => ?_) (fun h => ?_) | refine GrdS_d (fun h => ?_) (fun h => ?_) | refine GrdS_b (fun h => ?_) (fun h => ?_) | refine OkS_i (by omega) ?_ | fail)
theorem f110 (l : List Ft) (nl : Bool) (hl : l.length ≤ 1000000000) (hb : ∀ x ∈ l, x.f4.length ≤ 1000000000) (hnn : ∀ x ∈ l, x.nl = false) : Fn Try.prog 110 true [.lst 5 nl (l.map ft)] (.lst 5 false ((l.map Ft.fr).map ft)) := by
  refine Fn.by_sx hX (by kernel_rfl) c110 (by kernel_rfl) (by rfl) ?_
  simp [i110, sxa, isPtrN, PV.pcs, elAt, setEl, inAt, elIn, setIn, isLst, cellsOf, Ex.ok, Ex.val, Opd.val, POp.dst, bin_int, binOK_int, bin_str, binOK_str, resOK, resV, RB.val, sub, putc, scB, scL, oneB, conf, Ex.val.eqP, Ex.val.eqL, negV, mxV, mnV, ← wr_eq, wr_zero, wr_one, wr_m1, bst_lst, byteC, partsOK, putAll, appV, nilV, slV, sslV, optB, optNum, and_assoc, exists_and_left, exists_eq_left']
  refine sx_count l.length (fun n V => V 7 = .lst 5 nl (l.map ft) ∧ V 8 = i l.length ∧ V 9 = i n ∧ V 3 = .lst 5 false ((frTo l n).map ft)) 0 (by omega) (by simp [sxa, isPtrN, PV.pcs, elAt, setEl, inAt, elIn, setIn, isLst, cellsOf, Ex.ok, Ex.val, Opd.val, POp.dst, bin_int, binOK_int, bin_str, binOK_str, resOK, resV, RB.val, sub, putc, scB, scL, oneB, conf, Ex.val.eqP, Ex.val.eqL, negV, mxV, mnV, ← wr_eq, wr_zero, wr_one, wr_m1, bst_lst, byteC, partsOK, putAll, appV, nilV, slV, sslV, optB, optNum, and_assoc, exists_and_left, exists_eq_left', frTo]) ?_
  rintro n V hn ⟨h7, h8, h9, h3⟩
  have hw : wr .i64 ((n : Int) + 1) = n + 1 := wr_in (by omega) (by omega)
  simp [sxa, isPtrN, PV.pcs, elAt, setEl, inAt, elIn, setIn, isLst, cellsOf, Ex.ok, Ex.val, Opd.val, POp.dst, bin_int, binOK_int, bin_str, binOK_str, resOK, resV, RB.val, sub, putc, scB, scL, oneB, conf, Ex.val.eqP, Ex.val.eqL, negV, mxV, mnV, ← wr_eq, wr_zero, wr_one, wr_m1, bst_lst, byteC, partsOK, putAll, appV, nilV, slV, sslV, optB, optNum, and_assoc, exists_and_left, exists_eq_left', h8, h9]
  refine CondS_d (fun hlt => ?_) (fun hge => ?_)
  · have hlt' : n < l.length := by omega
    have hnx := frTo_succ hlt'
    have hlen := frTo_len (l := l) (n := n) (by omega)
    have hc := f90 l[n] (hnn _ (List.getElem_mem ..)) (hb _ (List.getElem_mem ..))
    have hnn' := hnn _ (List.getElem_mem hlt')
    clear hnn
    unfold ft at hc
    rw [hnn'] at hc
    repeat' (first | intro _ | (simp [sxa, isPtrN, PV.pcs, elAt, setEl, inAt, elIn, setIn, isLst, cellsOf, Ex.ok, Ex.val, Opd.val, POp.dst, bin_int, binOK_int, bin_str, binOK_str, resOK, resV, RB.val, sub, putc, scB, scL, oneB, conf, Ex.val.eqP, Ex.val.eqL, negV, mxV, mnV, ← wr_eq, wr_zero, wr_one, wr_m1, bst_lst, byteC, partsOK, putAll, appV, nilV, slV, sslV, optB, optNum, and_assoc, exists_and_left, exists_eq_left', ft, *]) | refine CallS_i (hc) ?_ | refine CallM_i (hc) ?_ | refine CallE_i (hc) ?_ | refine CallX_i (hc) ?_ | refine CallB_i (hc) ?_ | refine CondS_d (fun h => ?_) (fun h => ?_) | refine CondS_b (fun h => ?_) (fun h => ?_) | refine GrdS_d (fun h => ?_) (fun h => ?_) | refine GrdS_b (fun h => ?_) (fun h => ?_) | refine OkS_i (by omega) ?_ | fail)
    all_goals omega
  · have : n = l.length := by omega
    subst this
    have ha := frTo_all l
    repeat' (first | intro _ | (simp [sxa, isPtrN, PV.pcs, elAt, setEl, inAt, elIn, setIn, isLst, cellsOf, Ex.ok, Ex.val, Opd.val, POp.dst, bin_int, binOK_int, bin_str, binOK_str, resOK, resV, RB.val, sub, putc, scB, scL, oneB, conf, Ex.val.eqP, Ex.val.eqL, negV, mxV, mnV, ← wr_eq, wr_zero, wr_one, wr_m1, bst_lst, byteC, partsOK, putAll, appV, nilV, slV, sslV, optB, optNum, and_assoc, exists_and_left, exists_eq_left', *]) | refine CondS_d (fun h => ?_) (fun h => ?_) | refine CondS_b (fun h => ?_) (fun h => ?_) | refine GrdS_d (fun h => ?_) (fun h => ?_) | refine GrdS_b (fun h => ?_) (fun h => ?_) | refine OkS_i (by omega) ?_ | fail)
end Go.Eng
namespace Go.Eng
open Go Go.Proofs Go.Shelf
set_option linter.unusedSimpArgs false
set_option linter.unusedVariables false
set_option maxRecDepth 20000
set_option maxHeartbeats 1000000

/-! slices.Insert, slices.Delete -/
def rho155 : Ren := rhoI 155 185 186 28 47
theorem L155 : InsL Try.prog rho155 5 64 (zvOf Try.prog 47) where
  mixed := by kernel_rfl
  f22 := ⟨fnm Try.prog 155, by kernel_rfl, by kernel_rfl⟩
  f29 := fun args w => by
    rw [run_callFunc_extern (f := rho155.f 29) (fn := { Body2.n29 rho155 with name := fnm Try.prog 185 }) (by kernel_rfl) (by kernel_rfl) (by kernel_rfl) (by kernel_rfl) (e := Extern.SlicesOverlaps.overlaps #[(rho155.t 24), (rho155.t 24)] #[(rho155.t 4)]) (by kernel_rfl)]
  t0 := by kernel_rfl
  a0 := fun _ => by kernel_rfl
  z0 := fun _ => by kernel_rfl
  v0 := fun _ => by kernel_rfl
  t3 := by kernel_rfl
  a3 := fun _ => by kernel_rfl
  z3 := fun _ => by kernel_rfl
  v3 := fun _ => by kernel_rfl
  t4 := by kernel_rfl
  a4 := fun _ => by kernel_rfl
  z4 := fun _ => by kernel_rfl
  v4 := fun _ => by kernel_rfl
  z9 := fun _ => by kernel_rfl
  t24 := by kernel_rfl
  a24 := fun _ => by kernel_rfl
  z24 := fun _ => by kernel_rfl
  v24 := fun _ => by kernel_rfl
  i9 := by kernel_rfl
  hz := by omega
  hzc := by kernel_rfl
theorem f155 {nl : Bool} {els : List (List PV)} {v : List PV} {k : Nat} (hi : k ≤ els.length)
    (h63 : els.length + 1 ≤ 70368744177664) (hbig : (els.length + 1) * 64 ≤ 140737488355328) :
    FnX Try.prog 155 [.lst 5 nl els, i k, .lst 5 false [v]] (.lst 5 false (els.take k ++ v :: els.drop k)) := ins_X L155 (by kernel_rfl) hi h63 hbig
def rho156 : Ren := rhoD 156 28 47
theorem L156 : DelL Try.prog rho156 5 64 (zvOf Try.prog 47) where
  mixed := by kernel_rfl
  f24 := ⟨fnm Try.prog 156, by kernel_rfl, by kernel_rfl⟩
  t0 := by kernel_rfl
  a0 := fun _ => by kernel_rfl
  z0 := fun _ => by kernel_rfl
  v0 := fun _ => by kernel_rfl
  t3 := by kernel_rfl
  a3 := fun _ => by kernel_rfl
  z3 := fun _ => by kernel_rfl
  v3 := fun _ => by kernel_rfl
  t4 := by kernel_rfl
  a4 := fun _ => by kernel_rfl
  z4 := fun _ => by kernel_rfl
  v4 := fun _ => by kernel_rfl
  z9 := fun _ => by kernel_rfl
  v9 := fun _ => by kernel_rfl
  t24 := by kernel_rfl
  a24 := fun _ => by kernel_rfl
  z24 := fun _ => by kernel_rfl
  v24 := fun _ => by kernel_rfl
  i9 := by kernel_rfl
  hz := by omega
  hzc := by kernel_rfl
  h1 := by kernel_rfl
theorem f156 {nl : Bool} {els : List (List PV)} {k : Nat} (hi : k < els.length) (h63 : els.length ≤ 70368744177664) :
    FnX Try.prog 156 [.lst 5 nl els, i k, i ((k : Int) + 1)] (.lst 5 false (els.take k ++ els.drop (k + 1))) := del_X L156 (by kernel_rfl) hi h63
end Go.Eng
namespace Go.Eng
open Go Go.Proofs Geo
set_option linter.unusedSimpArgs false
set_option linter.unusedVariables false
set_option maxRecDepth 20000
set_option maxHeartbeats 1000000

/-! the plain law of features put and taken -/
def inc (l : List Ft) : Prop := (l.map (·.f0)).Pairwise (· < ·)
theorem inc_of {l : List Ft} (h : ∀ n, 0 < n → (hn : n < l.length) → (l[n - 1]'(by omega)).f0 < l[n].f0) : inc l := by
  unfold inc
  rw [List.pairwise_iff_getElem]
  intro a b ha hb hab
  simp only [List.length_map] at ha hb
  simp only [List.getElem_map]
  induction b with
  | zero => omega
  | succ b ih =>
    have h1 := h (b + 1) (by omega) hb
    simp only [Nat.add_sub_cancel] at h1
    rcases Nat.lt_or_ge a b with h2 | h2
    · have := ih (by omega) h2 (by omega)
      omega
    · obtain rfl : a = b := by omega
      exact h1
theorem inc_at {l : List Ft} (h : inc l) {a b : Nat} (hab : a < b) (hb : b < l.length) : (l[a]'(by omega)).f0 < l[b].f0 := by
  unfold inc at h
  rw [List.pairwise_iff_getElem] at h
  have := h a b (by simpa using (by omega : a < l.length)) (by simpa using hb) hab
  simpa using this
theorem srcAt_iff {l : List Ft} {n : Nat} (hn : n < l.length) : srcAt l n = true ↔ wFeat l[n] = true ∧ (0 < n → (l[n - 1]'(by omega)).f0 < l[n].f0) := by
  unfold srcAt
  have h1 : l.getD n ftD = l[n] := by simp [hn]
  have h2 : l.getD (n - 1) ftD = l[n - 1]'(by omega) := by simp [show n - 1 < l.length by omega]
  rw [h1, h2]
  simp
  intro _
  constructor <;> intro h <;> omega
theorem wSrc_iff {l : List Ft} : wSrc l = true ↔ l.length ≤ 16 ∧ (∀ x ∈ l, wFeat x = true) ∧ inc l := by
  unfold wSrc
  rw [Bool.and_eq_true, decide_eq_true_iff]
  constructor
  · rintro ⟨h1, h2⟩
    refine ⟨h1, fun x hx => ?_, inc_of fun n h0 hn => ?_⟩
    · obtain ⟨n, hn, rfl⟩ := List.getElem_of_mem hx
      exact ((srcAt_iff hn).1 (allTo_at h2 hn)).1
    · exact ((srcAt_iff hn).1 (allTo_at h2 hn)).2 h0
  · rintro ⟨h1, h2, h3⟩
    refine ⟨h1, ?_⟩
    unfold allTo
    rw [List.all_eq_true]
    intro n hn
    have hn := List.mem_range.1 hn
    exact (srcAt_iff hn).2 ⟨h2 _ (List.getElem_mem hn), fun h => inc_at h3 (by omega) hn⟩
theorem wFeat_fr (x : Ft) : wFeat x.fr = wFeat x := rfl
def wAtF : List Ft → Int → Nat
  | [], _ => 0
  | x :: r, id => if x.f0 < id then wAtF r id + 1 else 0
theorem wAtF_le : ∀ (l : List Ft) (id : Int), wAtF l id ≤ l.length
  | [], _ => Nat.le_refl _
  | x :: r, id => by have := wAtF_le r id; unfold wAtF; split <;> simp <;> omega
theorem wAtF_lt : ∀ {l : List Ft} {id : Int} {j : Nat} (hj : j < wAtF l id) (h : j < l.length), l[j].f0 < id
  | [], _, _, _, h => by simp at h
  | x :: r, id, 0, hj, h => by
    unfold wAtF at hj
    split at hj
    · assumption
    · omega
  | x :: r, id, j + 1, hj, h => by
    unfold wAtF at hj
    split at hj
    · exact wAtF_lt (l := r) (j := j) (by omega) (by simpa using h)
    · omega
theorem wAtF_stop : ∀ {l : List Ft} {id : Int} (h : wAtF l id < l.length), ¬ l[wAtF l id].f0 < id
  | [], _, h => by simp at h
  | x :: r, id, h => by
    by_cases hx : x.f0 < id
    · have e : wAtF (x :: r) id = wAtF r id + 1 := by simp [wAtF, hx]
      simp only [e, List.getElem_cons_succ]
      exact wAtF_stop (l := r) (by rw [e] at h; simpa using h)
    · have e : wAtF (x :: r) id = 0 := by simp [wAtF, hx]
      simp only [e, List.getElem_cons_zero]
      exact hx
theorem firstFrom_get {ok : Nat → Bool} : ∀ d n : Nat, (0 ≤ firstFrom ok d n → ok (firstFrom ok d n).toNat = true) ∧ (firstFrom ok d n < 0 → ∀ m, n ≤ m → m < n + d → ok m = false)
  | 0, n => ⟨fun h => by simp [firstFrom] at h, fun _ m h1 h2 => by omega⟩
  | d + 1, n => by
    have ih := firstFrom_get (ok := ok) d (n + 1)
    unfold firstFrom
    by_cases h : ok n = true
    · simp only [h, if_true]
      exact ⟨fun _ => by simpa using h, fun h0 => by omega⟩
    · simp only [h, if_false]
      refine ⟨ih.1, fun h0 m h1 h2 => ?_⟩
      rcases Nat.eq_or_lt_of_le h1 with rfl | h1
      · simpa using h
      · exact ih.2 h0 m (by omega) (by omega)
theorem wFind_get {l : List Ft} {id : Int} (h : 0 ≤ wFind l id) : ∃ hk : (wFind l id).toNat < l.length, l[(wFind l id).toNat].f0 = id := by
  have h1 := (firstFrom_get (ok := hasId l id) (l.length - 0) 0).1 h
  have h2 := wFind_bound l id
  have hk : (wFind l id).toNat < l.length := by omega
  refine ⟨hk, ?_⟩
  change hasId l id (wFind l id).toNat = true at h1
  simpa [hasId, hk] using h1
theorem wFind_none {l : List Ft} {id : Int} (h : wFind l id < 0) {n : Nat} (hn : n < l.length) : l[n].f0 ≠ id := by
  have h1 := (firstFrom_get (ok := hasId l id) (l.length - 0) 0).2 h n (by omega) (by omega)
  simpa [hasId, hn] using h1
def hitF (l : List Ft) (f : Ft) : Bool := decide (wAtF l f.f0 < l.length) && decide ((l.getD (wAtF l f.f0) ftD).f0 = f.f0)
def pfS (l : List Ft) (f : Ft) : List Ft := (l.take (wAtF l f.f0)).map Ft.fr ++ f.fr :: (l.drop (if hitF l f = true then wAtF l f.f0 + 1 else wAtF l f.f0)).map Ft.fr
def pfI (l : List Ft) (f : Ft) : List Ft := if 0 ≤ wFind l f.f0 then (l.map Ft.fr).set (wFind l f.f0).toNat f.fr else (l.map Ft.fr).take (wAtF l f.f0) ++ f.fr :: (l.map Ft.fr).drop (wAtF l f.f0)
theorem inc_fr {l : List Ft} : inc (l.map Ft.fr) ↔ inc l := by unfold inc; rw [List.map_map]; rfl
theorem inc_sub {l m : List Ft} (h : l.Sublist m) (hm : inc m) : inc l := List.Pairwise.sublist (h.map _) hm
theorem pfS_inc {l : List Ft} {f : Ft} (h : inc (pfS l f)) : inc l := by
  unfold pfS at h
  have hk := wAtF_le l f.f0
  split at h
  · rename_i hh
    unfold hitF at hh
    simp only [Bool.and_eq_true, decide_eq_true_iff] at hh
    obtain ⟨h1, h2⟩ := hh
    have e : l = l.take (wAtF l f.f0) ++ l[wAtF l f.f0] :: l.drop (wAtF l f.f0 + 1) := by rw [← List.drop_eq_getElem_cons h1, List.take_append_drop]
    unfold inc at h ⊢
    rw [e]
    simp only [List.map_append, List.map_cons, List.map_map] at h ⊢
    have h3 : l[wAtF l f.f0].f0 = f.f0 := by simpa [h1] using h2
    rw [h3]
    exact h
  · rw [← inc_fr]
    refine inc_sub ?_ h
    conv => lhs; rw [← List.take_append_drop (wAtF l f.f0) l, List.map_append]
    exact List.Sublist.append (List.Sublist.refl _) (List.sublist_cons_self _ _)
theorem pfI_inc {l : List Ft} {f : Ft} (h : inc (pfI l f)) : inc l := by
  unfold pfI at h
  split at h
  · rename_i hh
    obtain ⟨hk, he⟩ := wFind_get hh
    unfold inc at h ⊢
    have e : ((l.map Ft.fr).set (wFind l f.f0).toNat f.fr).map (·.f0) = l.map (·.f0) := by
      rw [List.map_set, List.map_map]
      apply List.ext_getElem
      · simp
      · intro n h1 h2
        rw [List.getElem_set]
        split
        · rename_i h3
          subst h3
          have e : f.fr.f0 = f.f0 := rfl
          rw [e, List.getElem_map]
          exact he.symm
        · simp [Ft.fr]
    rw [e] at h
    exact h
  · rw [← inc_fr]
    refine inc_sub ?_ h
    conv => lhs; rw [← List.take_append_drop (wAtF l f.f0) (l.map Ft.fr)]
    exact List.Sublist.append (List.Sublist.refl _) (List.sublist_cons_self _ _)
theorem wAtF_of {l : List Ft} (hi : inc l) {n : Nat} (hn : n < l.length) : wAtF l l[n].f0 = n := by
  have hk := wAtF_le l l[n].f0
  rcases Nat.lt_trichotomy (wAtF l l[n].f0) n with h | h | h
  · have h1 := wAtF_stop (l := l) (id := l[n].f0) (by omega)
    exact absurd (inc_at hi h hn) h1
  · exact h
  · have h1 := wAtF_lt (l := l) (id := l[n].f0) h hn
    omega
theorem pf_eq {l : List Ft} {f : Ft} (hi : inc l) : pfI l f = pfS l f := by
  unfold pfI pfS
  have hle := wAtF_le l f.f0
  by_cases h : 0 ≤ wFind l f.f0
  · obtain ⟨hk, he⟩ := wFind_get h
    have hw := wAtF_of hi hk
    rw [he] at hw
    have hh : hitF l f = true := by unfold hitF; simp [hw, hk, he]
    rw [if_pos h, if_pos hh, ← hw, List.set_eq_take_append_cons_drop, if_pos (by simpa [hw] using hk)]
    simp
  · have hh : ¬ hitF l f = true := by
      intro hc
      unfold hitF at hc
      simp only [Bool.and_eq_true, decide_eq_true_iff] at hc
      obtain ⟨h1, h2⟩ := hc
      exact wFind_none (l := l) (id := f.f0) (by omega) h1 (by simpa [h1] using h2)
    rw [if_neg h, if_neg hh]
    simp
theorem pf_wSrc (l : List Ft) (f : Ft) : wSrc (pfI l f) = wSrc (pfS l f) ∧ (wSrc (pfS l f) = true → pfI l f = pfS l f) := by
  by_cases hi : inc l
  · rw [pf_eq hi]; exact ⟨rfl, fun _ => rfl⟩
  · have h1 : wSrc (pfI l f) = false := Bool.eq_false_iff.2 fun h => hi (pfI_inc (wSrc_iff.1 h).2.2)
    have h2 : wSrc (pfS l f) = false := Bool.eq_false_iff.2 fun h => hi (pfS_inc (wSrc_iff.1 h).2.2)
    exact ⟨by rw [h1, h2], fun h => by rw [h2] at h; cases h⟩
def tkF (l : List Ft) (id : Int) : List Ft := (l.map Ft.fr).take (wFind l id).toNat ++ (l.map Ft.fr).drop ((wFind l id).toNat + 1)
theorem tkF_sub (l : List Ft) (id : Int) : (tkF l id).Sublist (l.map Ft.fr) := by
  unfold tkF
  conv => rhs; rw [← List.take_append_drop (wFind l id).toNat (l.map Ft.fr)]
  exact List.Sublist.append (List.Sublist.refl _) (List.drop_sublist_drop_left _ (by omega))
theorem tkF_src {l : List Ft} {id : Int} (h : wSrc l = true) : wSrc (tkF l id) = true := by
  obtain ⟨h1, h2, h3⟩ := wSrc_iff.1 h
  refine wSrc_iff.2 ⟨?_, fun x hx => ?_, inc_sub (tkF_sub l id) (inc_fr.2 h3)⟩
  · have := (tkF_sub l id).length_le
    rw [List.length_map] at this
    omega
  · obtain ⟨y, hy, rfl⟩ := List.mem_map.1 ((tkF_sub l id).subset hx)
    exact h2 y hy
end Go.Eng
namespace Go.Eng
open Go Go.Proofs Geo
set_option linter.unusedSimpArgs false
set_option linter.unusedVariables false
set_option maxRecDepth 20000
set_option maxHeartbeats 1000000

/-! a point is moved. WRITES -/
def mvOK (p : Pt) (dx dy : Int) : Bool := M_IsPoint p.f0 p.f1 && (inR dx (-1000) 1000 && (inR dy (-1000) 1000 && M_IsPoint (wr .i64 (p.f0 + dx)) (wr .i64 (p.f1 + dy))))
def mv (p : Pt) (dx dy : Int) : Pt := ⟨wr .i64 (p.f0 + dx), wr .i64 (p.f1 + dy)⟩
def mvR (p : Pt) (dx dy : Int) : Pt := if mvOK p dx dy = true then mv p dx dy else p
theorem f154 (p : Pt) (dx dy : Int) : Fn Try.prog 154 false [.agg (cp p), i dx, i dy] (.tup [.agg (cp (mvR p dx dy)), .bool (mvOK p dx dy)]) := by
  have c1 := f79 p.f0 p.f1
  have c2 := f99 dx (-1000) 1000
  have c3 := f99 dy (-1000) 1000
  have c4 := f79 (wr .i64 (p.f0 + dx)) (wr .i64 (p.f1 + dy))
  unfold mvR mvOK mv
  obtain ⟨b1, h1⟩ : ∃ b, M_IsPoint p.f0 p.f1 = b := ⟨_, rfl⟩
  obtain ⟨b2, h2⟩ : ∃ b, inR dx (-1000) 1000 = b := ⟨_, rfl⟩
  obtain ⟨b3, h3⟩ : ∃ b, inR dy (-1000) 1000 = b := ⟨_, rfl⟩
  obtain ⟨b4, h4⟩ : ∃ b, M_IsPoint (wr .i64 (p.f0 + dx)) (wr .i64 (p.f1 + dy)) = b := ⟨_, rfl⟩
  rw [h1] at c1 ⊢
  rw [h2] at c2 ⊢
  rw [h3] at c3 ⊢
  rw [h4] at c4 ⊢
  clear h1 h2 h3 h4
  unfold cp
  refine Fn.by_sx hX (by kernel_rfl) c154 (by kernel_rfl) (by rfl) ?_
  simp [i154, sxa, isPtrN, PV.pcs, elAt, setEl, inAt, elIn, setIn, isLst, cellsOf, Ex.ok, Ex.val, Opd.val, POp.dst, bin_int, binOK_int, bin_str, binOK_str, resOK, resV, RB.val, sub, putc, scB, scL, oneB, conf, Ex.val.eqP, Ex.val.eqL, negV, mxV, mnV, ← wr_eq, wr_zero, wr_one, wr_m1, bst_lst, byteC, partsOK, putAll, appV, nilV, slV, sslV, optB, optNum, and_assoc, exists_and_left, exists_eq_left']
  cases b1 <;> cases b2 <;> cases b3 <;> cases b4
  all_goals repeat' (first | intro _ | (simp [sxa, isPtrN, PV.pcs, elAt, setEl, inAt, elIn, setIn, isLst, cellsOf, Ex.ok, Ex.val, Opd.val, POp.dst, bin_int, binOK_int, bin_str, binOK_str, resOK, resV, RB.val, sub, putc, scB, scL, oneB, conf, Ex.val.eqP, Ex.val.eqL, negV, mxV, mnV, ← wr_eq, wr_zero, wr_one, wr_m1, bst_lst, byteC, partsOK, putAll, appV, nilV, slV, sslV, optB, optNum, and_assoc, exists_and_left, exists_eq_left', *]) | refine CallS_i (c1) ?_ | refine CallS_i (c2) ?_ | refine CallS_i (c3) ?_ | refine CallS_i (c4) ?_ | refine CallM_i (c1) ?_ | refine CallM_i (c2) ?_ | refine CallM_i (c3) ?_ | refine CallM_i (c4) ?_ | refine CallE_i (c1) ?_ | refine CallE_i (c2) ?_ | refine CallE_i (c3) ?_ | refine CallE_i (c4) ?_ | refine CallX_i (c1) ?_ | refine CallX_i (c2) ?_ | refine CallX_i (c3) ?_ | refine CallX_i (c4) ?_ | refine CallB_i (c1) ?_ | refine CallB_i (c2) ?_ | refine CallB_i (c3) ?_ | refine CallB_i (c4) ?_ | refine CondS_d (fun h => ?_) (fun h => ?_) | refine CondS_b (fun h => ?_) (fun h => ?_) | refine GrdS_d (fun h => ?_) (fun h => ?_) | refine GrdS_b (fun h => ?_) (fun h => ?_) | refine OkS_i (by omega) ?_ | fail)
theorem f157 (p : Pt) (dx dy : Int) : Fn Try.prog 157 false [.agg (cp p), i dx, i dy] (.tup [.agg (cp (mvR p dx dy)), .bool (mvOK p dx dy)]) := by
  have c1 := f83 p.f0 p.f1
  have c2 := f97 dx (-1000) 1000
  have c3 := f97 dy (-1000) 1000
  have c4 := f83 (wr .i64 (p.f0 + dx)) (wr .i64 (p.f1 + dy))
  unfold mvR mvOK mv
  obtain ⟨b1, h1⟩ : ∃ b, M_IsPoint p.f0 p.f1 = b := ⟨_, rfl⟩
  obtain ⟨b2, h2⟩ : ∃ b, inR dx (-1000) 1000 = b := ⟨_, rfl⟩
  obtain ⟨b3, h3⟩ : ∃ b, inR dy (-1000) 1000 = b := ⟨_, rfl⟩
  obtain ⟨b4, h4⟩ : ∃ b, M_IsPoint (wr .i64 (p.f0 + dx)) (wr .i64 (p.f1 + dy)) = b := ⟨_, rfl⟩
  rw [h1] at c1 ⊢
  rw [h2] at c2 ⊢
  rw [h3] at c3 ⊢
  rw [h4] at c4 ⊢
  clear h1 h2 h3 h4
  unfold cp
  refine Fn.by_sx hX (by kernel_rfl) c157 (by kernel_rfl) (by rfl) ?_
  simp [i157, sxa, isPtrN, PV.pcs, elAt, setEl, inAt, elIn, setIn, isLst, cellsOf, Ex.ok, Ex.val, Opd.val, POp.dst, bin_int, binOK_int, bin_str, binOK_str, resOK, resV, RB.val, sub, putc, scB, scL, oneB, conf, Ex.val.eqP, Ex.val.eqL, negV, mxV, mnV, ← wr_eq, wr_zero, wr_one, wr_m1, bst_lst, byteC, partsOK, putAll, appV, nilV, slV, sslV, optB, optNum, and_assoc, exists_and_left, exists_eq_left']
  cases b1 <;> cases b2 <;> cases b3 <;> cases b4
  all_goals repeat' (first | intro _ | (simp [sxa, isPtrN, PV.pcs, elAt, setEl, inAt, elIn, setIn, isLst, cellsOf, Ex.ok, Ex.val, Opd.val, POp.dst, bin_int, binOK_int, bin_str, binOK_str, resOK, resV, RB.val, sub, putc, scB, scL, oneB, conf, Ex.val.eqP, Ex.val.eqL, negV, mxV, mnV, ← wr_eq, wr_zero, wr_one, wr_m1, bst_lst, byteC, partsOK, putAll, appV, nilV, slV, sslV, optB, optNum, and_assoc, exists_and_left, exists_eq_left', *]) | refine CallS_i (c1) ?_ | refine CallS_i (c2) ?_ | refine CallS_i (c3) ?_ | refine CallS_i (c4) ?_ | refine CallM_i (c1) ?_ | refine CallM_i (c2) ?_ | refine CallM_i (c3) ?_ | refine CallM_i (c4) ?_ | refine CallE_i (c1) ?_ | refine CallE_i (c2) ?_ | refine CallE_i (c3) ?_ | refine CallE_i (c4) ?_ | refine CallX_i (c1) ?_ | refine CallX_i (c2) ?_ | refine CallX_i (c3) ?_ | refine CallX_i (c4) ?_ | refine CallB_i (c1) ?_ | refine CallB_i (c2) ?_ | refine CallB_i (c3) ?_ | refine CallB_i (c4) ?_ | refine CondS_d (fun h => ?_) (fun h => ?_) | refine CondS_b (fun h => ?_) (fun h => ?_) | refine GrdS_d (fun h => ?_) (fun h => ?_) | refine GrdS_b (fun h => ?_) (fun h => ?_) | refine OkS_i (by omega) ?_ | fail)
def putL (l : List Ft) (f : Ft) : List Ft := if wSrc (pfS l f) = true then pfS l f else l.map Ft.fr
theorem hitF_eq {l : List Ft} {f : Ft} (h : wAtF l f.f0 < l.length) : hitF l f = decide (l[wAtF l f.f0].f0 = f.f0) := by unfold hitF; simp [h]
theorem hitF_end {l : List Ft} {f : Ft} (h : ¬ wAtF l f.f0 < l.length) : hitF l f = false := by unfold hitF; simp [h]
theorem pfS_len (l : List Ft) (f : Ft) : (pfS l f).length ≤ l.length + 1 := by
  have := wAtF_le l f.f0
  unfold pfS
  split <;> simp <;> omega
theorem pfS_ok {l : List Ft} {f : Ft} {p : Ft → Prop} (hl : ∀ x ∈ l, p x.fr) (he : p f.fr) : ∀ x ∈ pfS l f, p x := by
  intro x hx
  unfold pfS at hx
  rcases List.mem_append.1 hx with h | h
  · obtain ⟨y, hy, rfl⟩ := List.mem_map.1 h
    exact hl y (List.mem_of_mem_take hy)
  · rcases List.mem_cons.1 h with rfl | h
    · exact he
    · obtain ⟨y, hy, rfl⟩ := List.mem_map.1 h
      exact hl y (List.mem_of_mem_drop hy)
theorem f104 (l : List Ft) (e : Ft) (nl : Bool) (hl : l.length ≤ 1048576) (hb : ∀ x ∈ l, x.okay) (he : e.okay) (hp : ∀ x ∈ l, x.f4.length ≤ 1000000000) (hpe : e.f4.length ≤ 1000000000) :
    Fn Try.prog 104 true [.lst 5 nl (l.map ft), .agg (ft e)] (.tup [.lst 5 false ((putL l e).map ft), .bool (wSrc (pfS l e))]) := by
  have hk := wAtF_le l e.f0
  have hee : ft e = [i e.f0, i e.f1, i e.f2, .str e.f3, .lst 2 e.nl (e.f4.map cp)] := rfl
  have hef : ft e.fr = [i e.f0, i e.f1, i e.f2, .str e.f3, .lst 2 false (e.f4.map cp)] := rfl
  have cC := f103 l nl (by omega) hp
  have cO := f78 (pfS l e) false (by have := pfS_len l e; omega) (pfS_ok (p := fun x => x.okay) (fun x hx => hb x hx) he)
  have cE := f112 e hpe
  have cP := f103 (l.take (wAtF l e.f0)) nl (by simp; omega) (fun x hx => hp x (List.mem_of_mem_take hx))
  have cR : ∀ j, Fn Try.prog 103 true [.lst 5 nl ((l.map ft).drop j)] (.lst 5 false (((l.drop j).map Ft.fr).map ft)) := fun j => by
    have := f103 (l.drop j) nl (by simp; omega) (fun x hx => hp x (List.mem_of_mem_drop hx))
    rw [List.map_drop] at this
    exact this
  rw [List.map_take] at cP
  have hpl : (((l.take (wAtF l e.f0)).map Ft.fr).map ft).length = wAtF l e.f0 := by simp; omega
  rw [hee, hef] at cE
  rw [hee]
  have hR : (putL l e).map ft = if wSrc (pfS l e) = true then (pfS l e).map ft else (l.map Ft.fr).map ft := by unfold putL; split <;> rfl
  rw [hR]
  obtain ⟨b2, hb2⟩ : ∃ b, wSrc (pfS l e) = b := ⟨_, rfl⟩
  rw [hb2] at cO ⊢
  have hto : (pfS l e).map ft = ((l.take (wAtF l e.f0)).map Ft.fr).map ft ++ [i e.f0, i e.f1, i e.f2, .str e.f3, .lst 2 false (e.f4.map cp)] :: ((l.drop (if hitF l e = true then wAtF l e.f0 + 1 else wAtF l e.f0)).map Ft.fr).map ft := by
    unfold pfS; rw [List.map_append, List.map_cons, hef]
  rw [hto] at cO ⊢
  obtain ⟨P1, hP1⟩ : ∃ P, ((l.take (wAtF l e.f0)).map Ft.fr).map ft = P := ⟨_, rfl⟩
  rw [hP1] at cP cO hpl ⊢
  obtain ⟨C, hC⟩ : ∃ C, (l.map Ft.fr).map ft = C := ⟨_, rfl⟩
  rw [hC] at cC ⊢
  obtain ⟨j, hj⟩ : ∃ j, (if hitF l e = true then wAtF l e.f0 + 1 else wAtF l e.f0) = j := ⟨_, rfl⟩
  rw [hj] at cO ⊢
  have cR' := cR j
  obtain ⟨P2, hP2⟩ : ∃ P, ((l.drop j).map Ft.fr).map ft = P := ⟨_, rfl⟩
  rw [hP2] at cO cR' ⊢
  have hP2l : P2.length ≤ l.length := by rw [← hP2]; simp
  clear cR hP1 hP2 hC hto hb2 hb hp hR hef hee
  refine Fn.by_sx hX (by kernel_rfl) c104 (by kernel_rfl) (by rfl) ?_
  simp [i104, sxa, isPtrN, PV.pcs, elAt, setEl, inAt, elIn, setIn, isLst, cellsOf, Ex.ok, Ex.val, Opd.val, POp.dst, bin_int, binOK_int, bin_str, binOK_str, resOK, resV, RB.val, sub, putc, scB, scL, oneB, conf, Ex.val.eqP, Ex.val.eqL, negV, mxV, mnV, ← wr_eq, wr_zero, wr_one, wr_m1, bst_lst, byteC, partsOK, putAll, appV, nilV, slV, sslV, optB, optNum, and_assoc, exists_and_left, exists_eq_left']
  refine sx_count (wAtF l e.f0) (fun n V => V 0 = .lst 5 nl (l.map ft) ∧ V 3 = .ptr [i e.f0, i e.f1, i e.f2, .str e.f3, .lst 2 e.nl (e.f4.map cp)] ∧ V 6 = i n) 0 (by omega) (by simp [sxa, isPtrN, PV.pcs, elAt, setEl, inAt, elIn, setIn, isLst, cellsOf, Ex.ok, Ex.val, Opd.val, POp.dst, bin_int, binOK_int, bin_str, binOK_str, resOK, resV, RB.val, sub, putc, scB, scL, oneB, conf, Ex.val.eqP, Ex.val.eqL, negV, mxV, mnV, ← wr_eq, wr_zero, wr_one, wr_m1, bst_lst, byteC, partsOK, putAll, appV, nilV, slV, sslV, optB, optNum, and_assoc, exists_and_left, exists_eq_left']) ?_
  rintro n V hn ⟨h0, h3, h6⟩
  have hw : wr .i64 ((n : Int) + 1) = n + 1 := wr_in (by omega) (by omega)
  simp [sxa, isPtrN, PV.pcs, elAt, setEl, inAt, elIn, setIn, isLst, cellsOf, Ex.ok, Ex.val, Opd.val, POp.dst, bin_int, binOK_int, bin_str, binOK_str, resOK, resV, RB.val, sub, putc, scB, scL, oneB, conf, Ex.val.eqP, Ex.val.eqL, negV, mxV, mnV, ← wr_eq, wr_zero, wr_one, wr_m1, bst_lst, byteC, partsOK, putAll, appV, nilV, slV, sslV, optB, optNum, and_assoc, exists_and_left, exists_eq_left', h0, h3, h6]
  rcases Nat.lt_or_ge n (wAtF l e.f0) with hlt | hge
  · have hlt' : n < l.length := by omega
    have hx := wAtF_lt hlt hlt'
    clear cC cO cE cP cR'
    repeat' (first | intro _ | (simp [sxa, isPtrN, PV.pcs, elAt, setEl, inAt, elIn, setIn, isLst, cellsOf, Ex.ok, Ex.val, Opd.val, POp.dst, bin_int, binOK_int, bin_str, binOK_str, resOK, resV, RB.val, sub, putc, scB, scL, oneB, conf, Ex.val.eqP, Ex.val.eqL, negV, mxV, mnV, ← wr_eq, wr_zero, wr_one, wr_m1, bst_lst, byteC, partsOK, putAll, appV, nilV, slV, sslV, optB, optNum, and_assoc, exists_and_left, exists_eq_left', ft, *]) | refine CondS_d (fun h => ?_) (fun h => ?_) | refine CondS_b (fun h => ?_) (fun h => ?_) | refine GrdS_d (fun h => ?_) (fun h => ?_) | refine GrdS_b (fun h => ?_) (fun h => ?_) | refine OkS_i (by omega) ?_ | fail)
  obtain rfl : n = wAtF l e.f0 := by omega
  have hT1 : List.take l.length (List.map ft l) = List.map ft l := List.take_of_length_le (by simp)
  have hT2 : List.take (l.length - wAtF l e.f0) (List.drop (wAtF l e.f0) (List.map ft l)) = List.drop (wAtF l e.f0) (List.map ft l) := List.take_of_length_le (by simp)
  have hT3 : (List.drop (wAtF l e.f0) (List.map ft l)).tail = List.drop (wAtF l e.f0 + 1) (List.map ft l) := by rw [List.tail_drop]
  by_cases hlt' : wAtF l e.f0 < l.length
  · have hx := wAtF_stop hlt'
    have hpos : 0 < l.length - wAtF l e.f0 := by omega
    have hh := hitF_eq hlt'
    by_cases hid : l[wAtF l e.f0].f0 = e.f0
    · rw [hh, if_pos (by simp [hid])] at hj
      subst hj
      cases b2
      all_goals repeat' (first | intro _ | (simp [sxa, isPtrN, PV.pcs, elAt, setEl, inAt, elIn, setIn, isLst, cellsOf, Ex.ok, Ex.val, Opd.val, POp.dst, bin_int, binOK_int, bin_str, binOK_str, resOK, resV, RB.val, sub, putc, scB, scL, oneB, conf, Ex.val.eqP, Ex.val.eqL, negV, mxV, mnV, ← wr_eq, wr_zero, wr_one, wr_m1, bst_lst, byteC, partsOK, putAll, appV, nilV, slV, sslV, optB, optNum, and_assoc, exists_and_left, exists_eq_left', ft, *]) | refine CallS_i (cP) ?_ | refine CallS_i (cE) ?_ | refine CallS_i (cR') ?_ | refine CallS_i (cO) ?_ | refine CallS_i (cC) ?_ | refine CallM_i (cP) ?_ | refine CallM_i (cE) ?_ | refine CallM_i (cR') ?_ | refine CallM_i (cO) ?_ | refine CallM_i (cC) ?_ | refine CallE_i (cP) ?_ | refine CallE_i (cE) ?_ | refine CallE_i (cR') ?_ | refine CallE_i (cO) ?_ | refine CallE_i (cC) ?_ | refine CallX_i (cP) ?_ | refine CallX_i (cE) ?_ | refine CallX_i (cR') ?_ | refine CallX_i (cO) ?_ | refine CallX_i (cC) ?_ | refine CallB_i (cP) ?_ | refine CallB_i (cE) ?_ | refine CallB_i (cR') ?_ | refine CallB_i (cO) ?_ | refine CallB_i (cC) ?_ | refine CondS_d (fun h => ?_) (fun h => ?_) | refine CondS_b (fun h => ?_) (fun h => ?_) | refine GrdS_d (fun h => ?_) (fun h => ?_) | refine GrdS_b (fun h => ?_) (fun h => ?_) | refine OkS_i (by omega) ?_ | fail)
      all_goals first | omega | simp_all
    · rw [hh, if_neg (by simp [hid])] at hj
      subst hj
      cases b2
      all_goals repeat' (first | intro _ | (simp [sxa, isPtrN, PV.pcs, elAt, setEl, inAt, elIn, setIn, isLst, cellsOf, Ex.ok, Ex.val, Opd.val, POp.dst, bin_int, binOK_int, bin_str, binOK_str, resOK, resV, RB.val, sub, putc, scB, scL, oneB, conf, Ex.val.eqP, Ex.val.eqL, negV, mxV, mnV, ← wr_eq, wr_zero, wr_one, wr_m1, bst_lst, byteC, partsOK, putAll, appV, nilV, slV, sslV, optB, optNum, and_assoc, exists_and_left, exists_eq_left', ft, *]) | refine CallS_i (cP) ?_ | refine CallS_i (cE) ?_ | refine CallS_i (cR') ?_ | refine CallS_i (cO) ?_ | refine CallS_i (cC) ?_ | refine CallM_i (cP) ?_ | refine CallM_i (cE) ?_ | refine CallM_i (cR') ?_ | refine CallM_i (cO) ?_ | refine CallM_i (cC) ?_ | refine CallE_i (cP) ?_ | refine CallE_i (cE) ?_ | refine CallE_i (cR') ?_ | refine CallE_i (cO) ?_ | refine CallE_i (cC) ?_ | refine CallX_i (cP) ?_ | refine CallX_i (cE) ?_ | refine CallX_i (cR') ?_ | refine CallX_i (cO) ?_ | refine CallX_i (cC) ?_ | refine CallB_i (cP) ?_ | refine CallB_i (cE) ?_ | refine CallB_i (cR') ?_ | refine CallB_i (cO) ?_ | refine CallB_i (cC) ?_ | refine CondS_d (fun h => ?_) (fun h => ?_) | refine CondS_b (fun h => ?_) (fun h => ?_) | refine GrdS_d (fun h => ?_) (fun h => ?_) | refine GrdS_b (fun h => ?_) (fun h => ?_) | refine OkS_i (by omega) ?_ | fail)
      all_goals first | omega | simp_all
  · rw [hitF_end hlt', if_neg (by simp)] at hj
    subst hj
    have hz : l.length - wAtF l e.f0 = 0 := by omega
    cases b2
    all_goals repeat' (first | intro _ | (simp [sxa, isPtrN, PV.pcs, elAt, setEl, inAt, elIn, setIn, isLst, cellsOf, Ex.ok, Ex.val, Opd.val, POp.dst, bin_int, binOK_int, bin_str, binOK_str, resOK, resV, RB.val, sub, putc, scB, scL, oneB, conf, Ex.val.eqP, Ex.val.eqL, negV, mxV, mnV, ← wr_eq, wr_zero, wr_one, wr_m1, bst_lst, byteC, partsOK, putAll, appV, nilV, slV, sslV, optB, optNum, and_assoc, exists_and_left, exists_eq_left', ft, *]) | refine CallS_i (cP) ?_ | refine CallS_i (cE) ?_ | refine CallS_i (cR') ?_ | refine CallS_i (cO) ?_ | refine CallS_i (cC) ?_ | refine CallM_i (cP) ?_ | refine CallM_i (cE) ?_ | refine CallM_i (cR') ?_ | refine CallM_i (cO) ?_ | refine CallM_i (cC) ?_ | refine CallE_i (cP) ?_ | refine CallE_i (cE) ?_ | refine CallE_i (cR') ?_ | refine CallE_i (cO) ?_ | refine CallE_i (cC) ?_ | refine CallX_i (cP) ?_ | refine CallX_i (cE) ?_ | refine CallX_i (cR') ?_ | refine CallX_i (cO) ?_ | refine CallX_i (cC) ?_ | refine CallB_i (cP) ?_ | refine CallB_i (cE) ?_ | refine CallB_i (cR') ?_ | refine CallB_i (cO) ?_ | refine CallB_i (cC) ?_ | refine CondS_d (fun h => ?_) (fun h => ?_) | refine CondS_b (fun h => ?_) (fun h => ?_) | refine GrdS_d (fun h => ?_) (fun h => ?_) | refine GrdS_b (fun h => ?_) (fun h => ?_) | refine OkS_i (by omega) ?_ | fail)
    all_goals first | omega | simp_all
theorem f105 (l : List Ft) (id : Int) (nl : Bool) (hl : l.length ≤ 1048576) (hb : ∀ x ∈ l, x.okay) (hp : ∀ x ∈ l, x.f4.length ≤ 1000000000) :
    Fn Try.prog 105 true [.lst 5 nl (l.map ft), i id] (.tup [.lst 5 false ((if (wSrc l && decide (0 ≤ wFind l id)) = true then tkF l id else l.map Ft.fr).map ft), .bool (wSrc l && decide (0 ≤ wFind l id))]) := by
  have cC := f103 l nl (by omega) hp
  have cL := f78 l nl (by omega) hb
  have cF := f111 l nl id (by omega)
  have hwb := wFind_bound l id
  have cP := f103 (l.take (wFind l id).toNat) nl (by simp; omega) (fun x hx => hp x (List.mem_of_mem_take hx))
  have cR := f103 (l.drop ((wFind l id).toNat + 1)) nl (by simp; omega) (fun x hx => hp x (List.mem_of_mem_drop hx))
  rw [List.map_take] at cP
  rw [List.map_drop] at cR
  have hto : (tkF l id).map ft = ((l.take (wFind l id).toNat).map Ft.fr).map ft ++ ((l.drop ((wFind l id).toNat + 1)).map Ft.fr).map ft := by unfold tkF; simp
  have hR : (if (wSrc l && decide (0 ≤ wFind l id)) = true then tkF l id else l.map Ft.fr).map ft = if (wSrc l && decide (0 ≤ wFind l id)) = true then (tkF l id).map ft else (l.map Ft.fr).map ft := by split <;> rfl
  rw [hR, hto]
  obtain ⟨b1, hb1⟩ : ∃ b, wSrc l = b := ⟨_, rfl⟩
  rw [hb1] at cL ⊢
  have hpl : (((l.take (wFind l id).toNat).map Ft.fr).map ft).length ≤ l.length := by simp; omega
  have hql : (((l.drop ((wFind l id).toNat + 1)).map Ft.fr).map ft).length ≤ l.length := by simp
  obtain ⟨P1, hP1⟩ : ∃ P, ((l.take (wFind l id).toNat).map Ft.fr).map ft = P := ⟨_, rfl⟩
  obtain ⟨P2, hP2⟩ : ∃ P, ((l.drop ((wFind l id).toNat + 1)).map Ft.fr).map ft = P := ⟨_, rfl⟩
  obtain ⟨C, hC⟩ : ∃ C, (l.map Ft.fr).map ft = C := ⟨_, rfl⟩
  rw [hP1] at cP hpl ⊢
  rw [hP2] at cR hql ⊢
  rw [hC] at cC ⊢
  clear hP1 hP2 hC hR hto hb hp hb1
  obtain ⟨w, hwe⟩ : ∃ w, wFind l id = w := ⟨_, rfl⟩
  rw [hwe] at cF cP cR hwb ⊢
  clear hwe
  refine Fn.by_sx hX (by kernel_rfl) c105 (by kernel_rfl) (by rfl) ?_
  simp [i105, sxa, isPtrN, PV.pcs, elAt, setEl, inAt, elIn, setIn, isLst, cellsOf, Ex.ok, Ex.val, Opd.val, POp.dst, bin_int, binOK_int, bin_str, binOK_str, resOK, resV, RB.val, sub, putc, scB, scL, oneB, conf, Ex.val.eqP, Ex.val.eqL, negV, mxV, mnV, ← wr_eq, wr_zero, wr_one, wr_m1, bst_lst, byteC, partsOK, putAll, appV, nilV, slV, sslV, optB, optNum, and_assoc, exists_and_left, exists_eq_left']
  by_cases hneg : w < 0
  · have hnn : ¬ 0 ≤ w := by omega
    cases b1
    all_goals repeat' (first | intro _ | (simp [sxa, isPtrN, PV.pcs, elAt, setEl, inAt, elIn, setIn, isLst, cellsOf, Ex.ok, Ex.val, Opd.val, POp.dst, bin_int, binOK_int, bin_str, binOK_str, resOK, resV, RB.val, sub, putc, scB, scL, oneB, conf, Ex.val.eqP, Ex.val.eqL, negV, mxV, mnV, ← wr_eq, wr_zero, wr_one, wr_m1, bst_lst, byteC, partsOK, putAll, appV, nilV, slV, sslV, optB, optNum, and_assoc, exists_and_left, exists_eq_left', *]) | refine CallS_i (cF) ?_ | refine CallS_i (cL) ?_ | refine CallS_i (cC) ?_ | refine CallM_i (cF) ?_ | refine CallM_i (cL) ?_ | refine CallM_i (cC) ?_ | refine CallE_i (cF) ?_ | refine CallE_i (cL) ?_ | refine CallE_i (cC) ?_ | refine CallX_i (cF) ?_ | refine CallX_i (cL) ?_ | refine CallX_i (cC) ?_ | refine CallB_i (cF) ?_ | refine CallB_i (cL) ?_ | refine CallB_i (cC) ?_ | refine CondS_d (fun h => ?_) (fun h => ?_) | refine CondS_b (fun h => ?_) (fun h => ?_) | refine GrdS_d (fun h => ?_) (fun h => ?_) | refine GrdS_b (fun h => ?_) (fun h => ?_) | refine OkS_i (by omega) ?_ | fail)
  · have hnn : 0 ≤ w := by omega
    obtain ⟨k, rfl⟩ : ∃ k : Nat, w = k := ⟨w.toNat, by omega⟩
    simp only [Int.toNat_natCast] at cP cR
    have hw : wr .i64 ((k : Int) + 1) = k + 1 := wr_in (by omega) (by omega)
    have hT1 : List.take l.length (List.map ft l) = List.map ft l := List.take_of_length_le (by simp)
    have hT2 : List.take (l.length - (k + 1)) (List.drop (k + 1) (List.map ft l)) = List.drop (k + 1) (List.map ft l) := List.take_of_length_le (by simp)
    have hkn : ((k : Int) + 1).toNat = k + 1 := by omega
    cases b1
    all_goals repeat' (first | intro _ | (simp [sxa, isPtrN, PV.pcs, elAt, setEl, inAt, elIn, setIn, isLst, cellsOf, Ex.ok, Ex.val, Opd.val, POp.dst, bin_int, binOK_int, bin_str, binOK_str, resOK, resV, RB.val, sub, putc, scB, scL, oneB, conf, Ex.val.eqP, Ex.val.eqL, negV, mxV, mnV, ← wr_eq, wr_zero, wr_one, wr_m1, bst_lst, byteC, partsOK, putAll, appV, nilV, slV, sslV, optB, optNum, and_assoc, exists_and_left, exists_eq_left', *]) | refine CallS_i (cF) ?_ | refine CallS_i (cL) ?_ | refine CallS_i (cC) ?_ | refine CallS_i (cP) ?_ | refine CallS_i (cR) ?_ | refine CallM_i (cF) ?_ | refine CallM_i (cL) ?_ | refine CallM_i (cC) ?_ | refine CallM_i (cP) ?_ | refine CallM_i (cR) ?_ | refine CallE_i (cF) ?_ | refine CallE_i (cL) ?_ | refine CallE_i (cC) ?_ | refine CallE_i (cP) ?_ | refine CallE_i (cR) ?_ | refine CallX_i (cF) ?_ | refine CallX_i (cL) ?_ | refine CallX_i (cC) ?_ | refine CallX_i (cP) ?_ | refine CallX_i (cR) ?_ | refine CallB_i (cF) ?_ | refine CallB_i (cL) ?_ | refine CallB_i (cC) ?_ | refine CallB_i (cP) ?_ | refine CallB_i (cR) ?_ | refine CondS_d (fun h => ?_) (fun h => ?_) | refine CondS_b (fun h => ?_) (fun h => ?_) | refine GrdS_d (fun h => ?_) (fun h => ?_) | refine GrdS_b (fun h => ?_) (fun h => ?_) | refine OkS_i (by omega) ?_ | fail)
    all_goals first | omega | simp_all
end Go.Eng
namespace Go.Eng
open Go Go.Proofs Geo
set_option linter.unusedSimpArgs false
set_option linter.unusedVariables false
set_option maxRecDepth 20000
set_option maxHeartbeats 1000000

/-! features put and taken in place. WRITES -/
theorem pfI_len (l : List Ft) (f : Ft) : (pfI l f).length ≤ l.length + 1 := by
  have := wAtF_le l f.f0
  unfold pfI
  split <;> simp <;> omega
theorem pfI_ok {l : List Ft} {f : Ft} {p : Ft → Prop} (hl : ∀ x ∈ l, p x.fr) (he : p f.fr) : ∀ x ∈ pfI l f, p x := by
  have h1 : ∀ x ∈ l.map Ft.fr, p x := fun x hx => by
    obtain ⟨y, hy, rfl⟩ := List.mem_map.1 hx
    exact hl y hy
  intro x hx
  unfold pfI at hx
  split at hx
  · rcases List.mem_or_eq_of_mem_set hx with h | rfl
    · exact h1 x h
    · exact he
  · rcases List.mem_append.1 hx with h | h
    · exact h1 x (List.mem_of_mem_take h)
    · rcases List.mem_cons.1 h with rfl | h
      · exact he
      · exact h1 x (List.mem_of_mem_drop h)
theorem f107 (l : List Ft) (e : Ft) (nl : Bool) (hl : l.length ≤ 1048576) (hb : ∀ x ∈ l, x.okay) (he : e.okay) (hp : ∀ x ∈ l, x.f4.length ≤ 1000000000) (hpe : e.f4.length ≤ 1000000000)
    (hn : ∀ x ∈ l, x.nl = false) (hne : e.nl = false) :
    Fn Try.prog 107 true [.lst 5 nl (l.map ft), .agg (ft e)] (.tup [.lst 5 false ((putL l e).map ft), .bool (wSrc (pfS l e))]) := by
  have hk := wAtF_le l e.f0
  have hee : ft e = [i e.f0, i e.f1, i e.f2, .str e.f3, .lst 2 false (e.f4.map cp)] := by unfold ft; rw [hne]
  have hef : ft e.fr = [i e.f0, i e.f1, i e.f2, .str e.f3, .lst 2 false (e.f4.map cp)] := rfl
  have cC := f110 l nl (by omega) hp hn
  have cO := f40 (pfI l e) false (by have := pfI_len l e; omega) (pfI_ok (p := fun x => x.okay) (fun x hx => hb x hx) he)
  have cE := f90 e hne hpe
  have cF := f113 l nl e.f0 (by omega)
  have hwb := wFind_bound l e.f0
  rw [hee, hef] at cE
  rw [hee]
  obtain ⟨hw1, hw2⟩ := pf_wSrc l e
  have hR : (putL l e).map ft = if wSrc (pfS l e) = true then (pfI l e).map ft else (l.map Ft.fr).map ft := by
    unfold putL
    split
    · rename_i h; rw [hw2 h]
    · rfl
  rw [hR]
  obtain ⟨b2, hb2⟩ : ∃ b, wSrc (pfS l e) = b := ⟨_, rfl⟩
  rw [hw1, hb2] at cO
  rw [hb2]
  have hto : (pfI l e).map ft = if 0 ≤ wFind l e.f0 then ((l.map Ft.fr).map ft).set (wFind l e.f0).toNat (ft e.fr) else ((l.map Ft.fr).map ft).take (wAtF l e.f0) ++ ft e.fr :: ((l.map Ft.fr).map ft).drop (wAtF l e.f0) := by
    unfold pfI
    split
    · rw [List.map_set]
    · rw [List.map_append, List.map_cons, List.map_take, List.map_drop]
  rw [hef] at hto
  obtain ⟨T, hT⟩ : ∃ T, (pfI l e).map ft = T := ⟨_, rfl⟩
  rw [hT] at cO hto ⊢
  obtain ⟨C, hC⟩ : ∃ C, (l.map Ft.fr).map ft = C := ⟨_, rfl⟩
  rw [hC] at cC hto ⊢
  have hCl : C.length = l.length := by rw [← hC]; simp
  have hC5 : ∀ cs ∈ C, cs.length = 5 := fun cs hcs => by
    rw [← hC] at hcs
    obtain ⟨y, _, rfl⟩ := List.mem_map.1 hcs
    rfl
  clear hw1 hw2 hR hb2 hT hC hef hee hb hp hn
  obtain ⟨w, hwe⟩ : ∃ w, wFind l e.f0 = w := ⟨_, rfl⟩
  rw [hwe] at cF hwb hto
  clear hwe
  refine Fn.by_sx hX (by kernel_rfl) c107 (by kernel_rfl) (by rfl) ?_
  simp [i107, sxa, isPtrN, PV.pcs, elAt, setEl, inAt, elIn, setIn, isLst, cellsOf, Ex.ok, Ex.val, Opd.val, POp.dst, bin_int, binOK_int, bin_str, binOK_str, resOK, resV, RB.val, sub, putc, scB, scL, oneB, conf, Ex.val.eqP, Ex.val.eqL, negV, mxV, mnV, ← wr_eq, wr_zero, wr_one, wr_m1, bst_lst, byteC, partsOK, putAll, appV, nilV, slV, sslV, optB, optNum, and_assoc, exists_and_left, exists_eq_left']
  by_cases hneg : 0 ≤ w
  · obtain ⟨k, rfl⟩ : ∃ k : Nat, w = k := ⟨w.toNat, by omega⟩
    rw [if_pos hneg, Int.toNat_natCast] at hto
    replace hto := hto.symm
    have hkC : k < C.length := by omega
    have hkl : k < l.length := by omega
    have hd5 : List.drop 5 C[k] = [] := List.drop_of_length_le (by rw [hC5 _ (List.getElem_mem hkC)]; omega)
    clear hC5
    cases b2
    all_goals repeat' (first | intro _ | (simp [sxa, isPtrN, PV.pcs, elAt, setEl, inAt, elIn, setIn, isLst, cellsOf, Ex.ok, Ex.val, Opd.val, POp.dst, bin_int, binOK_int, bin_str, binOK_str, resOK, resV, RB.val, sub, putc, scB, scL, oneB, conf, Ex.val.eqP, Ex.val.eqL, negV, mxV, mnV, ← wr_eq, wr_zero, wr_one, wr_m1, bst_lst, byteC, partsOK, putAll, appV, nilV, slV, sslV, optB, optNum, and_assoc, exists_and_left, exists_eq_left', *]) | refine CallS_i (cC) ?_ | refine CallS_i (cF) ?_ | refine CallS_i (cE) ?_ | refine CallS_i (cO) ?_ | refine CallM_i (cC) ?_ | refine CallM_i (cF) ?_ | refine CallM_i (cE) ?_ | refine CallM_i (cO) ?_ | refine CallE_i (cC) ?_ | refine CallE_i (cF) ?_ | refine CallE_i (cE) ?_ | refine CallE_i (cO) ?_ | refine CallX_i (cC) ?_ | refine CallX_i (cF) ?_ | refine CallX_i (cE) ?_ | refine CallX_i (cO) ?_ | refine CallB_i (cC) ?_ | refine CallB_i (cF) ?_ | refine CallB_i (cE) ?_ | refine CallB_i (cO) ?_ | refine CondS_d (fun h => ?_) (fun h => ?_) | refine CondS_b (fun h => ?_) (fun h => ?_) | refine GrdS_d (fun h => ?_) (fun h => ?_) | refine GrdS_b (fun h => ?_) (fun h => ?_) | refine OkS_i (by omega) ?_ | fail)
    all_goals first | omega | simp_all
  rw [if_neg hneg] at hto
  replace hto := hto.symm
  clear hC5
  repeat' (first | intro _ | (simp [sxa, isPtrN, PV.pcs, elAt, setEl, inAt, elIn, setIn, isLst, cellsOf, Ex.ok, Ex.val, Opd.val, POp.dst, bin_int, binOK_int, bin_str, binOK_str, resOK, resV, RB.val, sub, putc, scB, scL, oneB, conf, Ex.val.eqP, Ex.val.eqL, negV, mxV, mnV, ← wr_eq, wr_zero, wr_one, wr_m1, bst_lst, byteC, partsOK, putAll, appV, nilV, slV, sslV, optB, optNum, and_assoc, exists_and_left, exists_eq_left', *]) | refine CallS_i (cC) ?_ | refine CallS_i (cF) ?_ | refine CallM_i (cC) ?_ | refine CallM_i (cF) ?_ | refine CallE_i (cC) ?_ | refine CallE_i (cF) ?_ | refine CallX_i (cC) ?_ | refine CallX_i (cF) ?_ | refine CallB_i (cC) ?_ | refine CallB_i (cF) ?_ | refine CondS_d (fun h => ?_) (fun h => ?_) | refine CondS_b (fun h => ?_) (fun h => ?_) | refine GrdS_d (fun h => ?_) (fun h => ?_) | refine GrdS_b (fun h => ?_) (fun h => ?_) | refine OkS_i (by omega) ?_ | fail)
  refine sx_count (wAtF l e.f0) (fun n V => V 0 = .lst 5 nl (l.map ft) ∧ V 3 = .ptr [i e.f0, i e.f1, i e.f2, .str e.f3, .lst 2 false (e.f4.map cp)] ∧ V 6 = .lst 5 false C ∧ V 8 = i n) 0 (by omega) (by simp [sxa, isPtrN, PV.pcs, elAt, setEl, inAt, elIn, setIn, isLst, cellsOf, Ex.ok, Ex.val, Opd.val, POp.dst, bin_int, binOK_int, bin_str, binOK_str, resOK, resV, RB.val, sub, putc, scB, scL, oneB, conf, Ex.val.eqP, Ex.val.eqL, negV, mxV, mnV, ← wr_eq, wr_zero, wr_one, wr_m1, bst_lst, byteC, partsOK, putAll, appV, nilV, slV, sslV, optB, optNum, and_assoc, exists_and_left, exists_eq_left']) ?_
  rintro n V hn ⟨h0, h3, h6, h8⟩
  have hw : wr .i64 ((n : Int) + 1) = n + 1 := wr_in (by omega) (by omega)
  simp [sxa, isPtrN, PV.pcs, elAt, setEl, inAt, elIn, setIn, isLst, cellsOf, Ex.ok, Ex.val, Opd.val, POp.dst, bin_int, binOK_int, bin_str, binOK_str, resOK, resV, RB.val, sub, putc, scB, scL, oneB, conf, Ex.val.eqP, Ex.val.eqL, negV, mxV, mnV, ← wr_eq, wr_zero, wr_one, wr_m1, bst_lst, byteC, partsOK, putAll, appV, nilV, slV, sslV, optB, optNum, and_assoc, exists_and_left, exists_eq_left', h0, h3, h8]
  rcases Nat.lt_or_ge n (wAtF l e.f0) with hlt | hge
  · have hlt' : n < l.length := by omega
    have hx := wAtF_lt hlt hlt'
    clear cC cO cE cF hto
    repeat' (first | intro _ | (simp [sxa, isPtrN, PV.pcs, elAt, setEl, inAt, elIn, setIn, isLst, cellsOf, Ex.ok, Ex.val, Opd.val, POp.dst, bin_int, binOK_int, bin_str, binOK_str, resOK, resV, RB.val, sub, putc, scB, scL, oneB, conf, Ex.val.eqP, Ex.val.eqL, negV, mxV, mnV, ← wr_eq, wr_zero, wr_one, wr_m1, bst_lst, byteC, partsOK, putAll, appV, nilV, slV, sslV, optB, optNum, and_assoc, exists_and_left, exists_eq_left', ft, *]) | refine CondS_d (fun h => ?_) (fun h => ?_) | refine CondS_b (fun h => ?_) (fun h => ?_) | refine GrdS_d (fun h => ?_) (fun h => ?_) | refine GrdS_b (fun h => ?_) (fun h => ?_) | refine OkS_i (by omega) ?_ | fail)
  obtain rfl : n = wAtF l e.f0 := by omega
  have hI := f155 (nl := false) (els := C) (v := [i e.f0, i e.f1, i e.f2, .str e.f3, .lst 2 false (e.f4.map cp)]) (k := wAtF l e.f0) (by omega) (by omega) (by omega)
  rw [hto] at hI
  clear hto
  by_cases hlt' : wAtF l e.f0 < l.length
  · have hx := wAtF_stop hlt'
    cases b2
    all_goals repeat' (first | intro _ | (simp [sxa, isPtrN, PV.pcs, elAt, setEl, inAt, elIn, setIn, isLst, cellsOf, Ex.ok, Ex.val, Opd.val, POp.dst, bin_int, binOK_int, bin_str, binOK_str, resOK, resV, RB.val, sub, putc, scB, scL, oneB, conf, Ex.val.eqP, Ex.val.eqL, negV, mxV, mnV, ← wr_eq, wr_zero, wr_one, wr_m1, bst_lst, byteC, partsOK, putAll, appV, nilV, slV, sslV, optB, optNum, and_assoc, exists_and_left, exists_eq_left', ft, *]) | refine CallS_i (cE) ?_ | refine CallS_i (hI) ?_ | refine CallS_i (cO) ?_ | refine CallS_i (cC) ?_ | refine CallM_i (cE) ?_ | refine CallM_i (hI) ?_ | refine CallM_i (cO) ?_ | refine CallM_i (cC) ?_ | refine CallE_i (cE) ?_ | refine CallE_i (hI) ?_ | refine CallE_i (cO) ?_ | refine CallE_i (cC) ?_ | refine CallX_i (cE) ?_ | refine CallX_i (hI) ?_ | refine CallX_i (cO) ?_ | refine CallX_i (cC) ?_ | refine CallB_i (cE) ?_ | refine CallB_i (hI) ?_ | refine CallB_i (cO) ?_ | refine CallB_i (cC) ?_ | refine CondS_d (fun h => ?_) (fun h => ?_) | refine CondS_b (fun h => ?_) (fun h => ?_) | refine GrdS_d (fun h => ?_) (fun h => ?_) | refine GrdS_b (fun h => ?_) (fun h => ?_) | refine OkS_i (by omega) ?_ | fail)
    all_goals first | omega | simp_all
  · cases b2
    all_goals repeat' (first | intro _ | (simp [sxa, isPtrN, PV.pcs, elAt, setEl, inAt, elIn, setIn, isLst, cellsOf, Ex.ok, Ex.val, Opd.val, POp.dst, bin_int, binOK_int, bin_str, binOK_str, resOK, resV, RB.val, sub, putc, scB, scL, oneB, conf, Ex.val.eqP, Ex.val.eqL, negV, mxV, mnV, ← wr_eq, wr_zero, wr_one, wr_m1, bst_lst, byteC, partsOK, putAll, appV, nilV, slV, sslV, optB, optNum, and_assoc, exists_and_left, exists_eq_left', ft, *]) | refine CallS_i (cE) ?_ | refine CallS_i (hI) ?_ | refine CallS_i (cO) ?_ | refine CallS_i (cC) ?_ | refine CallM_i (cE) ?_ | refine CallM_i (hI) ?_ | refine CallM_i (cO) ?_ | refine CallM_i (cC) ?_ | refine CallE_i (cE) ?_ | refine CallE_i (hI) ?_ | refine CallE_i (cO) ?_ | refine CallE_i (cC) ?_ | refine CallX_i (cE) ?_ | refine CallX_i (hI) ?_ | refine CallX_i (cO) ?_ | refine CallX_i (cC) ?_ | refine CallB_i (cE) ?_ | refine CallB_i (hI) ?_ | refine CallB_i (cO) ?_ | refine CallB_i (cC) ?_ | refine CondS_d (fun h => ?_) (fun h => ?_) | refine CondS_b (fun h => ?_) (fun h => ?_) | refine GrdS_d (fun h => ?_) (fun h => ?_) | refine GrdS_b (fun h => ?_) (fun h => ?_) | refine OkS_i (by omega) ?_ | fail)
    all_goals first | omega | simp_all
theorem f108 (l : List Ft) (id : Int) (nl : Bool) (hl : l.length ≤ 1048576) (hb : ∀ x ∈ l, x.okay) (hp : ∀ x ∈ l, x.f4.length ≤ 1000000000) (hn : ∀ x ∈ l, x.nl = false) :
    Fn Try.prog 108 true [.lst 5 nl (l.map ft), i id] (.tup [.lst 5 false ((if (wSrc l && decide (0 ≤ wFind l id)) = true then tkF l id else l.map Ft.fr).map ft), .bool (wSrc l && decide (0 ≤ wFind l id))]) := by
  have cC := f110 l nl (by omega) hp hn
  have cL := f40 l nl (by omega) hb
  have cF := f113 l nl id (by omega)
  have hwb := wFind_bound l id
  have hto : (tkF l id).map ft = ((l.map Ft.fr).map ft).take (wFind l id).toNat ++ ((l.map Ft.fr).map ft).drop ((wFind l id).toNat + 1) := by unfold tkF; simp
  have hR : (if (wSrc l && decide (0 ≤ wFind l id)) = true then tkF l id else l.map Ft.fr).map ft = if (wSrc l && decide (0 ≤ wFind l id)) = true then (tkF l id).map ft else (l.map Ft.fr).map ft := by split <;> rfl
  rw [hR]
  obtain ⟨b1, hb1⟩ : ∃ b, wSrc l = b := ⟨_, rfl⟩
  rw [hb1] at cL ⊢
  obtain ⟨C, hC⟩ : ∃ C, (l.map Ft.fr).map ft = C := ⟨_, rfl⟩
  obtain ⟨T, hT⟩ : ∃ T, (tkF l id).map ft = T := ⟨_, rfl⟩
  rw [hC] at cC hto ⊢
  rw [hT] at hto ⊢
  have hCl : C.length = l.length := by rw [← hC]; simp
  clear hC hT hR hb hp hb1 hn
  obtain ⟨w, hwe⟩ : ∃ w, wFind l id = w := ⟨_, rfl⟩
  rw [hwe] at cF hwb hto ⊢
  clear hwe
  refine Fn.by_sx hX (by kernel_rfl) c108 (by kernel_rfl) (by rfl) ?_
  simp [i108, sxa, isPtrN, PV.pcs, elAt, setEl, inAt, elIn, setIn, isLst, cellsOf, Ex.ok, Ex.val, Opd.val, POp.dst, bin_int, binOK_int, bin_str, binOK_str, resOK, resV, RB.val, sub, putc, scB, scL, oneB, conf, Ex.val.eqP, Ex.val.eqL, negV, mxV, mnV, ← wr_eq, wr_zero, wr_one, wr_m1, bst_lst, byteC, partsOK, putAll, appV, nilV, slV, sslV, optB, optNum, and_assoc, exists_and_left, exists_eq_left']
  by_cases hneg : w < 0
  · have hnn : ¬ 0 ≤ w := by omega
    cases b1
    all_goals repeat' (first | intro _ | (simp [sxa, isPtrN, PV.pcs, elAt, setEl, inAt, elIn, setIn, isLst, cellsOf, Ex.ok, Ex.val, Opd.val, POp.dst, bin_int, binOK_int, bin_str, binOK_str, resOK, resV, RB.val, sub, putc, scB, scL, oneB, conf, Ex.val.eqP, Ex.val.eqL, negV, mxV, mnV, ← wr_eq, wr_zero, wr_one, wr_m1, bst_lst, byteC, partsOK, putAll, appV, nilV, slV, sslV, optB, optNum, and_assoc, exists_and_left, exists_eq_left', *]) | refine CallS_i (cF) ?_ | refine CallS_i (cL) ?_ | refine CallS_i (cC) ?_ | refine CallM_i (cF) ?_ | refine CallM_i (cL) ?_ | refine CallM_i (cC) ?_ | refine CallE_i (cF) ?_ | refine CallE_i (cL) ?_ | refine CallE_i (cC) ?_ | refine CallX_i (cF) ?_ | refine CallX_i (cL) ?_ | refine CallX_i (cC) ?_ | refine CallB_i (cF) ?_ | refine CallB_i (cL) ?_ | refine CallB_i (cC) ?_ | refine CondS_d (fun h => ?_) (fun h => ?_) | refine CondS_b (fun h => ?_) (fun h => ?_) | refine GrdS_d (fun h => ?_) (fun h => ?_) | refine GrdS_b (fun h => ?_) (fun h => ?_) | refine OkS_i (by omega) ?_ | fail)
  · have hnn : 0 ≤ w := by omega
    obtain ⟨k, rfl⟩ : ∃ k : Nat, w = k := ⟨w.toNat, by omega⟩
    have hw : wr .i64 ((k : Int) + 1) = k + 1 := wr_in (by omega) (by omega)
    have hD := f156 (nl := false) (els := C) (k := k) (by omega) (by omega)
    rw [Int.toNat_natCast] at hto
    rw [← hto] at hD
    clear hto
    cases b1
    all_goals repeat' (first | intro _ | (simp [sxa, isPtrN, PV.pcs, elAt, setEl, inAt, elIn, setIn, isLst, cellsOf, Ex.ok, Ex.val, Opd.val, POp.dst, bin_int, binOK_int, bin_str, binOK_str, resOK, resV, RB.val, sub, putc, scB, scL, oneB, conf, Ex.val.eqP, Ex.val.eqL, negV, mxV, mnV, ← wr_eq, wr_zero, wr_one, wr_m1, bst_lst, byteC, partsOK, putAll, appV, nilV, slV, sslV, optB, optNum, and_assoc, exists_and_left, exists_eq_left', *]) | refine CallS_i (cF) ?_ | refine CallS_i (cL) ?_ | refine CallS_i (cC) ?_ | refine CallS_i (hD) ?_ | refine CallM_i (cF) ?_ | refine CallM_i (cL) ?_ | refine CallM_i (cC) ?_ | refine CallM_i (hD) ?_ | refine CallE_i (cF) ?_ | refine CallE_i (cL) ?_ | refine CallE_i (cC) ?_ | refine CallE_i (hD) ?_ | refine CallX_i (cF) ?_ | refine CallX_i (cL) ?_ | refine CallX_i (cC) ?_ | refine CallX_i (hD) ?_ | refine CallB_i (cF) ?_ | refine CallB_i (cL) ?_ | refine CallB_i (cC) ?_ | refine CallB_i (hD) ?_ | refine CondS_d (fun h => ?_) (fun h => ?_) | refine CondS_b (fun h => ?_) (fun h => ?_) | refine GrdS_d (fun h => ?_) (fun h => ?_) | refine GrdS_b (fun h => ?_) (fun h => ?_) | refine OkS_i (by omega) ?_ | fail)
    all_goals first | omega | simp_all
end Go.Eng
namespace Go.Eng
open Go Go.Proofs Geo Go.RowKit
set_option linter.unusedSimpArgs false
set_option linter.unusedVariables false
set_option maxRecDepth 20000
set_option maxHeartbeats 1000000

/-! a feature is moved. WRITES -/
def mvN (dx dy : Int) : List Pt → Nat
  | [] => 0
  | p :: r => if mvOK p dx dy = true then mvN dx dy r + 1 else 0
theorem mvN_le (dx dy : Int) : ∀ l : List Pt, mvN dx dy l ≤ l.length
  | [] => Nat.le_refl _
  | p :: r => by have := mvN_le dx dy r; unfold mvN; split <;> simp <;> omega
theorem mvN_lt {dx dy : Int} : ∀ {l : List Pt} {n : Nat} (hn : n < mvN dx dy l) (h : n < l.length), mvOK l[n] dx dy = true
  | [], _, _, h => by simp at h
  | p :: r, 0, hn, h => by
    unfold mvN at hn
    split at hn
    · assumption
    · omega
  | p :: r, n + 1, hn, h => by
    unfold mvN at hn
    split at hn
    · exact mvN_lt (l := r) (n := n) (by omega) (by simpa using h)
    · omega
theorem mvN_stop {dx dy : Int} : ∀ {l : List Pt} (h : mvN dx dy l < l.length), mvOK l[mvN dx dy l] dx dy = false
  | [], h => by simp at h
  | p :: r, h => by
    by_cases hx : mvOK p dx dy = true
    · have e : mvN dx dy (p :: r) = mvN dx dy r + 1 := by simp [mvN, hx]
      simp only [e, List.getElem_cons_succ]
      exact mvN_stop (l := r) (by rw [e] at h; simpa using h)
    · have e : mvN dx dy (p :: r) = 0 := by simp [mvN, hx]
      simp only [e, List.getElem_cons_zero]
      simpa using hx
def mvTo (dx dy : Int) (l : List Pt) (n : Nat) : List Pt := (l.take n).map (fun p => mv p dx dy) ++ l.drop n
theorem mvTo_zero (dx dy : Int) (l : List Pt) : mvTo dx dy l 0 = l := rfl
theorem mvTo_len (dx dy : Int) (l : List Pt) (n : Nat) : (mvTo dx dy l n).length = l.length := by unfold mvTo; simp; omega
theorem mvTo_at {dx dy : Int} {l : List Pt} {n : Nat} (h : n < l.length) : (mvTo dx dy l n)[n]? = some l[n] := by
  unfold mvTo
  rw [List.getElem?_append_right (by simp; omega), List.length_map, List.length_take, Nat.min_eq_left (by omega), Nat.sub_self, List.getElem?_drop, Nat.add_zero, List.getElem?_eq_getElem h]
theorem mvTo_set {dx dy : Int} {l : List Pt} {n : Nat} (h : n < l.length) : (mvTo dx dy l n).set n (mv l[n] dx dy) = mvTo dx dy l (n + 1) := by
  unfold mvTo
  rw [List.set_append_right _ _ (by simp; omega), List.length_map, List.length_take, Nat.min_eq_left (by omega), Nat.sub_self, List.drop_eq_getElem_cons h, List.set_cons_zero, List.take_add_one, List.getElem?_eq_getElem h, List.map_append, List.append_assoc]
  rfl
def mvX (dx dy : Int) (x : Ft) (n : Nat) : Ft := { x.fr with f4 := mvTo dx dy x.f4 n }
def mvF (l : List Ft) (k : Nat) (dx dy : Int) (n : Nat) : List Ft := (l.map Ft.fr).set k (mvX dx dy (l.getD k ftD) n)
theorem mvF_zero {l : List Ft} {k : Nat} {dx dy : Int} (hk : k < l.length) : mvF l k dx dy 0 = l.map Ft.fr := by
  unfold mvF mvX
  rw [mvTo_zero]
  have e : l.getD k ftD = l[k] := by simp [hk]
  rw [e]
  have : ({ l[k].fr with f4 := l[k].f4 } : Ft) = (l.map Ft.fr)[k]'(by simpa using hk) := by simp [Ft.fr]
  rw [this, List.set_getElem_self]
theorem mvF_at {l : List Ft} {k : Nat} {dx dy : Int} {n : Nat} (hk : k < l.length) : ((mvF l k dx dy n).map ft)[k]? = some [i l[k].f0, i l[k].f1, i l[k].f2, .str l[k].f3, .lst 2 false ((mvTo dx dy l[k].f4 n).map cp)] := by
  have e : l.getD k ftD = l[k] := by simp [hk]
  unfold mvF
  rw [List.getElem?_map, List.getElem?_set_self (by simpa using hk), e]
  rfl
theorem mvF_set {l : List Ft} {k : Nat} {dx dy : Int} {n : Nat} (hk : k < l.length) (hn : n < l[k].f4.length) :
    ((mvF l k dx dy n).map ft).set k [i l[k].f0, i l[k].f1, i l[k].f2, .str l[k].f3, .lst 2 false (((mvTo dx dy l[k].f4 n).map cp).set n (cp (mv l[k].f4[n] dx dy)))] = (mvF l k dx dy (n + 1)).map ft := by
  have e : l.getD k ftD = l[k] := by simp [hk]
  unfold mvF
  rw [List.map_set, List.set_set, List.map_set, e]
  congr 1
  unfold mvX ft Ft.fr
  rw [← mvTo_set hn, List.map_set]
theorem mvF_len (l : List Ft) (k : Nat) (dx dy : Int) (n : Nat) : (mvF l k dx dy n).length = l.length := by unfold mvF; simp
def mvK (l : List Ft) (id : Int) : List Pt := (l.getD (wFind l id).toNat ftD).f4
def mvO (l : List Ft) (e : Ei) : List Ft := if 0 ≤ wFind l e.f2 then mvF l (wFind l e.f2).toNat e.f3 e.f4 (mvN e.f3 e.f4 (mvK l e.f2)) else l.map Ft.fr
def mvB (l : List Ft) (e : Ei) : Bool := decide (0 ≤ wFind l e.f2) && decide (mvN e.f3 e.f4 (mvK l e.f2) = (mvK l e.f2).length)
theorem f106 (l : List Ft) (e : Ei) (nl : Bool) (hl : l.length ≤ 1048576) (hp : ∀ x ∈ l, x.f4.length ≤ 1000000000) :
    Fn Try.prog 106 true [.lst 5 nl (l.map ft), .agg (ei e)] (.tup [.lst 5 false ((if mvB l e = true then mvO l e else l.map Ft.fr).map ft), .bool (mvB l e)]) := by
  have cC := f103 l nl (by omega) hp
  have cF := f111 l nl e.f2 (by omega)
  have hwb := wFind_bound l e.f2
  have hee : ei e = [i e.f0, i e.f1.f0, i e.f1.f1, i e.f1.f2, .str e.f1.f3, .lst 2 e.f1.nl (e.f1.f4.map cp), i e.f2, i e.f3, i e.f4] := rfl
  rw [hee]
  have hR : (if mvB l e = true then mvO l e else l.map Ft.fr).map ft = if mvB l e = true then (mvO l e).map ft else (l.map Ft.fr).map ft := by split <;> rfl
  rw [hR]
  unfold mvB mvO mvK
  obtain ⟨C, hC⟩ : ∃ C, (l.map Ft.fr).map ft = C := ⟨_, rfl⟩
  rw [hC] at cC ⊢
  have hCl : C.length = l.length := by rw [← hC]; simp
  obtain ⟨w, hwe⟩ : ∃ w, wFind l e.f2 = w := ⟨_, rfl⟩
  rw [hwe] at cF hwb ⊢
  clear hwe hR hee
  refine Fn.by_sx hX (by kernel_rfl) c106 (by kernel_rfl) (by rfl) ?_
  simp [i106, sxa, isPtrN, PV.pcs, elAt, setEl, inAt, elIn, setIn, isLst, cellsOf, Ex.ok, Ex.val, Opd.val, POp.dst, bin_int, binOK_int, bin_str, binOK_str, resOK, resV, RB.val, sub, putc, scB, scL, oneB, conf, Ex.val.eqP, Ex.val.eqL, negV, mxV, mnV, ← wr_eq, wr_zero, wr_one, wr_m1, bst_lst, byteC, partsOK, putAll, appV, nilV, slV, sslV, optB, optNum, and_assoc, exists_and_left, exists_eq_left']
  by_cases hneg : w < 0
  · have hnn : ¬ 0 ≤ w := by omega
    repeat' (first | intro _ | (simp [sxa, isPtrN, PV.pcs, elAt, setEl, inAt, elIn, setIn, isLst, cellsOf, Ex.ok, Ex.val, Opd.val, POp.dst, bin_int, binOK_int, bin_str, binOK_str, resOK, resV, RB.val, sub, putc, scB, scL, oneB, conf, Ex.val.eqP, Ex.val.eqL, negV, mxV, mnV, ← wr_eq, wr_zero, wr_one, wr_m1, bst_lst, byteC, partsOK, putAll, appV, nilV, slV, sslV, optB, optNum, and_assoc, exists_and_left, exists_eq_left', *]) | refine CallS_i (cF) ?_ | refine CallS_i (cC) ?_ | refine CallM_i (cF) ?_ | refine CallM_i (cC) ?_ | refine CallE_i (cF) ?_ | refine CallE_i (cC) ?_ | refine CallX_i (cF) ?_ | refine CallX_i (cC) ?_ | refine CallB_i (cF) ?_ | refine CallB_i (cC) ?_ | refine CondS_d (fun h => ?_) (fun h => ?_) | refine CondS_b (fun h => ?_) (fun h => ?_) | refine GrdS_d (fun h => ?_) (fun h => ?_) | refine GrdS_b (fun h => ?_) (fun h => ?_) | refine OkS_i (by omega) ?_ | fail)
  obtain ⟨k, rfl⟩ : ∃ k : Nat, w = k := ⟨w.toNat, by omega⟩
  have hkl : k < l.length := by omega
  have hd : l.getD k ftD = l[k] := by simp [hkl]
  have h0k : (0 : Int) ≤ k := by omega
  simp only [h0k, if_true, decide_true, Bool.true_and, Int.toNat_natCast, hd]
  have hxp := hp l[k] (List.getElem_mem ..)
  clear hp
  have hNle := mvN_le e.f3 e.f4 l[k].f4
  have hz2 : Hid (C = (mvF l k e.f3 e.f4 0).map ft) := by rw [mvF_zero (dx := e.f3) (dy := e.f4) hkl]; exact hC.symm
  clear hC
  repeat' (first | intro _ | (simp [sxa, isPtrN, PV.pcs, elAt, setEl, inAt, elIn, setIn, isLst, cellsOf, Ex.ok, Ex.val, Opd.val, POp.dst, bin_int, binOK_int, bin_str, binOK_str, resOK, resV, RB.val, sub, putc, scB, scL, oneB, conf, Ex.val.eqP, Ex.val.eqL, negV, mxV, mnV, ← wr_eq, wr_zero, wr_one, wr_m1, bst_lst, byteC, partsOK, putAll, appV, nilV, slV, sslV, optB, optNum, and_assoc, exists_and_left, exists_eq_left', *]) | refine CallS_i (cF) ?_ | refine CallS_i (cC) ?_ | refine CallM_i (cF) ?_ | refine CallM_i (cC) ?_ | refine CallE_i (cF) ?_ | refine CallE_i (cC) ?_ | refine CallX_i (cF) ?_ | refine CallX_i (cC) ?_ | refine CallB_i (cF) ?_ | refine CallB_i (cC) ?_ | refine CondS_d (fun h => ?_) (fun h => ?_) | refine CondS_b (fun h => ?_) (fun h => ?_) | refine GrdS_d (fun h => ?_) (fun h => ?_) | refine GrdS_b (fun h => ?_) (fun h => ?_) | refine OkS_i (by omega) ?_ | fail)
  refine sx_count (mvN e.f3 e.f4 l[k].f4) (fun n V => V 0 = .lst 5 nl (l.map ft) ∧ V 3 = .ptr [i e.f0, i e.f1.f0, i e.f1.f1, i e.f1.f2, .str e.f1.f3, .lst 2 e.f1.nl (e.f1.f4.map cp), i e.f2, i e.f3, i e.f4] ∧ V 6 = .lst 5 false ((mvF l k e.f3 e.f4 n).map ft) ∧ V 7 = i k ∧ V 8 = i n) 0 (by omega) (by simp [sxa, isPtrN, PV.pcs, elAt, setEl, inAt, elIn, setIn, isLst, cellsOf, Ex.ok, Ex.val, Opd.val, POp.dst, bin_int, binOK_int, bin_str, binOK_str, resOK, resV, RB.val, sub, putc, scB, scL, oneB, conf, Ex.val.eqP, Ex.val.eqL, negV, mxV, mnV, ← wr_eq, wr_zero, wr_one, wr_m1, bst_lst, byteC, partsOK, putAll, appV, nilV, slV, sslV, optB, optNum, and_assoc, exists_and_left, exists_eq_left']; exact hz2.out) ?_
  rintro n V hn ⟨h0, h3, h6, h7, h8⟩
  have hw : wr .i64 ((n : Int) + 1) = n + 1 := wr_in (by omega) (by omega)
  have hat := mvF_at (l := l) (k := k) (dx := e.f3) (dy := e.f4) (n := n) hkl
  have hal := mvF_len l k e.f3 e.f4 n
  have hbl := mvTo_len e.f3 e.f4 l[k].f4 n
  clear hz2
  obtain ⟨x, hx⟩ : ∃ x, l[k] = x := ⟨_, rfl⟩
  have hset : ∀ hn : n < x.f4.length, ((mvF l k e.f3 e.f4 n).map ft).set k [i x.f0, i x.f1, i x.f2, .str x.f3, .lst 2 false (((mvTo e.f3 e.f4 x.f4 n).map cp).set n (cp (mv x.f4[n] e.f3 e.f4)))] = (mvF l k e.f3 e.f4 (n + 1)).map ft := by
    subst hx
    exact fun hn => mvF_set hkl hn
  have hBl : ((mvTo e.f3 e.f4 l[k].f4 n).map cp).length = l[k].f4.length := by rw [List.length_map, mvTo_len]
  have hAl : ((mvF l k e.f3 e.f4 n).map ft).length = l.length := by rw [List.length_map, mvF_len]
  have hBt : ∀ hn : n < x.f4.length, ((mvTo e.f3 e.f4 x.f4 n).map cp)[n]? = some (cp x.f4[n]) := fun hn => by rw [List.getElem?_map, mvTo_at hn]; rfl
  rw [hx] at hat hBl hn hNle hxp hbl
  rw [hx]
  obtain ⟨A, hA⟩ : ∃ A, (mvF l k e.f3 e.f4 n).map ft = A := ⟨_, rfl⟩
  obtain ⟨A', hA'⟩ : ∃ A, (mvF l k e.f3 e.f4 (n + 1)).map ft = A := ⟨_, rfl⟩
  obtain ⟨B, hB⟩ : ∃ B, (mvTo e.f3 e.f4 x.f4 n).map cp = B := ⟨_, rfl⟩
  rw [hA, hB] at hset
  rw [hA'] at hset
  rw [hA] at hat hAl h6
  rw [hB] at hat hBt hBl
  obtain ⟨hkA, hatA⟩ := get_of hat
  simp [sxa, isPtrN, PV.pcs, elAt, setEl, inAt, elIn, setIn, isLst, cellsOf, Ex.ok, Ex.val, Opd.val, POp.dst, bin_int, binOK_int, bin_str, binOK_str, resOK, resV, RB.val, sub, putc, scB, scL, oneB, conf, Ex.val.eqP, Ex.val.eqL, negV, mxV, mnV, ← wr_eq, wr_zero, wr_one, wr_m1, bst_lst, byteC, partsOK, putAll, appV, nilV, slV, sslV, optB, optNum, and_assoc, exists_and_left, exists_eq_left', h0, h3, h6, h7, h8]
  rcases Nat.lt_or_ge n (mvN e.f3 e.f4 x.f4) with hlt | hge
  · have hlt' : n < x.f4.length := by omega
    have hok := mvN_lt hlt hlt'
    have cM := f154 x.f4[n] e.f3 e.f4
    unfold mvR at cM
    rw [hok, if_pos rfl] at cM
    have hs := hset hlt'
    obtain ⟨hnB, hatB⟩ := get_of (hBt hlt')
    obtain ⟨p, hp⟩ : ∃ p, x.f4[n] = p := ⟨_, rfl⟩
    rw [hp] at cM hs hatB
    obtain ⟨q, hq⟩ : ∃ q, mv p e.f3 e.f4 = q := ⟨_, rfl⟩
    rw [hq] at cM hs
    unfold cp at cM hs hatB
    clear hset hBt hq hp hok cF cC hA hB hat hx
    repeat' (first | intro _ | (simp [sxa, isPtrN, PV.pcs, elAt, setEl, inAt, elIn, setIn, isLst, cellsOf, Ex.ok, Ex.val, Opd.val, POp.dst, bin_int, binOK_int, bin_str, binOK_str, resOK, resV, RB.val, sub, putc, scB, scL, oneB, conf, Ex.val.eqP, Ex.val.eqL, negV, mxV, mnV, ← wr_eq, wr_zero, wr_one, wr_m1, bst_lst, byteC, partsOK, putAll, appV, nilV, slV, sslV, optB, optNum, and_assoc, exists_and_left, exists_eq_left', *]) | refine CallS_i (cM) ?_ | refine CallM_i (cM) ?_ | refine CallE_i (cM) ?_ | refine CallX_i (cM) ?_ | refine CallB_i (cM) ?_ | refine CondS_d (fun h => ?_) (fun h => ?_) | refine CondS_b (fun h => ?_) (fun h => ?_) | refine GrdS_d (fun h => ?_) (fun h => ?_) | refine GrdS_b (fun h => ?_) (fun h => ?_) | refine OkS_i (by omega) ?_ | fail)
  · obtain rfl : n = mvN e.f3 e.f4 x.f4 := by omega
    rw [hA]
    by_cases hend : mvN e.f3 e.f4 x.f4 = x.f4.length
    · clear hset hBt hat hx cF cC hA hA' hB
      repeat' (first | intro _ | (simp [sxa, isPtrN, PV.pcs, elAt, setEl, inAt, elIn, setIn, isLst, cellsOf, Ex.ok, Ex.val, Opd.val, POp.dst, bin_int, binOK_int, bin_str, binOK_str, resOK, resV, RB.val, sub, putc, scB, scL, oneB, conf, Ex.val.eqP, Ex.val.eqL, negV, mxV, mnV, ← wr_eq, wr_zero, wr_one, wr_m1, bst_lst, byteC, partsOK, putAll, appV, nilV, slV, sslV, optB, optNum, and_assoc, exists_and_left, exists_eq_left', *]) | refine CondS_d (fun h => ?_) (fun h => ?_) | refine CondS_b (fun h => ?_) (fun h => ?_) | refine GrdS_d (fun h => ?_) (fun h => ?_) | refine GrdS_b (fun h => ?_) (fun h => ?_) | refine OkS_i (by omega) ?_ | fail)
    · have hlt' : mvN e.f3 e.f4 x.f4 < x.f4.length := by omega
      have hbad := mvN_stop hlt'
      have cM := f154 x.f4[mvN e.f3 e.f4 x.f4] e.f3 e.f4
      unfold mvR at cM
      rw [hbad, if_neg (by simp)] at cM
      obtain ⟨hnB, hatB⟩ := get_of (hBt hlt')
      obtain ⟨p, hp⟩ : ∃ p, x.f4[mvN e.f3 e.f4 x.f4] = p := ⟨_, rfl⟩
      rw [hp] at cM hatB
      unfold cp at cM hatB
      clear hset hBt hat hx hp cF hbad hA hA' hB
      repeat' (first | intro _ | (simp [sxa, isPtrN, PV.pcs, elAt, setEl, inAt, elIn, setIn, isLst, cellsOf, Ex.ok, Ex.val, Opd.val, POp.dst, bin_int, binOK_int, bin_str, binOK_str, resOK, resV, RB.val, sub, putc, scB, scL, oneB, conf, Ex.val.eqP, Ex.val.eqL, negV, mxV, mnV, ← wr_eq, wr_zero, wr_one, wr_m1, bst_lst, byteC, partsOK, putAll, appV, nilV, slV, sslV, optB, optNum, and_assoc, exists_and_left, exists_eq_left', *]) | refine CallS_i (cM) ?_ | refine CallS_i (cC) ?_ | refine CallM_i (cM) ?_ | refine CallM_i (cC) ?_ | refine CallE_i (cM) ?_ | refine CallE_i (cC) ?_ | refine CallX_i (cM) ?_ | refine CallX_i (cC) ?_ | refine CallB_i (cM) ?_ | refine CallB_i (cC) ?_ | refine CondS_d (fun h => ?_) (fun h => ?_) | refine CondS_b (fun h => ?_) (fun h => ?_) | refine GrdS_d (fun h => ?_) (fun h => ?_) | refine GrdS_b (fun h => ?_) (fun h => ?_) | refine OkS_i (by omega) ?_ | fail)
end Go.Eng
namespace Go.Eng
open Go Go.Proofs Geo Go.RowKit
set_option linter.unusedSimpArgs false
set_option linter.unusedVariables false
set_option maxRecDepth 20000
set_option maxHeartbeats 1000000

/-! a feature is moved in place; edits applied. WRITES -/
theorem mvF_ok {l : List Ft} {k : Nat} {dx dy : Int} {n : Nat} {p : Ft → Prop} (hk : k < l.length) (h1 : ∀ x ∈ l, p x.fr) (h2 : ∀ x ∈ l, p (mvX dx dy x n)) : ∀ y ∈ mvF l k dx dy n, p y := by
  intro y hy
  unfold mvF at hy
  rcases List.mem_or_eq_of_mem_set hy with h | rfl
  · obtain ⟨z, hz, rfl⟩ := List.mem_map.1 h
    exact h1 z hz
  · have e : l.getD k ftD = l[k] := by simp [hk]
    rw [e]
    exact h2 _ (List.getElem_mem hk)
theorem mvX_len (dx dy : Int) (x : Ft) (n : Nat) : (mvX dx dy x n).f4.length = x.f4.length := by unfold mvX; exact mvTo_len dx dy x.f4 n
theorem f109 (l : List Ft) (e : Ei) (nl : Bool) (hl : l.length ≤ 1048576) (hp : ∀ x ∈ l, x.f4.length ≤ 1000000000) (hb : ∀ x ∈ l, x.okay) (hn : ∀ x ∈ l, x.nl = false) :
    Fn Try.prog 109 true [.lst 5 nl (l.map ft), .agg (ei e)] (.tup [.lst 5 false ((mvO l e).map ft), .bool (mvB l e && wSrc (mvO l e))]) := by
  have cC := f110 l nl (by omega) hp hn
  have cF := f113 l nl e.f2 (by omega)
  have hwb := wFind_bound l e.f2
  have hee : ei e = [i e.f0, i e.f1.f0, i e.f1.f1, i e.f1.f2, .str e.f1.f3, .lst 2 e.f1.nl (e.f1.f4.map cp), i e.f2, i e.f3, i e.f4] := rfl
  rw [hee]
  unfold mvB mvO mvK
  obtain ⟨C, hC⟩ : ∃ C, (l.map Ft.fr).map ft = C := ⟨_, rfl⟩
  rw [hC] at cC
  have hCl : C.length = l.length := by rw [← hC]; simp
  obtain ⟨w, hwe⟩ : ∃ w, wFind l e.f2 = w := ⟨_, rfl⟩
  rw [hwe] at cF hwb ⊢
  clear hwe hee
  refine Fn.by_sx hX (by kernel_rfl) c109 (by kernel_rfl) (by rfl) ?_
  simp [i109, sxa, isPtrN, PV.pcs, elAt, setEl, inAt, elIn, setIn, isLst, cellsOf, Ex.ok, Ex.val, Opd.val, POp.dst, bin_int, binOK_int, bin_str, binOK_str, resOK, resV, RB.val, sub, putc, scB, scL, oneB, conf, Ex.val.eqP, Ex.val.eqL, negV, mxV, mnV, ← wr_eq, wr_zero, wr_one, wr_m1, bst_lst, byteC, partsOK, putAll, appV, nilV, slV, sslV, optB, optNum, and_assoc, exists_and_left, exists_eq_left']
  by_cases hneg : w < 0
  · have hnn : ¬ 0 ≤ w := by omega
    have hC2 : List.map (ft ∘ Ft.fr) l = C := by rw [← hC, List.map_map]
    repeat' (first | intro _ | (simp [sxa, isPtrN, PV.pcs, elAt, setEl, inAt, elIn, setIn, isLst, cellsOf, Ex.ok, Ex.val, Opd.val, POp.dst, bin_int, binOK_int, bin_str, binOK_str, resOK, resV, RB.val, sub, putc, scB, scL, oneB, conf, Ex.val.eqP, Ex.val.eqL, negV, mxV, mnV, ← wr_eq, wr_zero, wr_one, wr_m1, bst_lst, byteC, partsOK, putAll, appV, nilV, slV, sslV, optB, optNum, and_assoc, exists_and_left, exists_eq_left', *]) | refine CallS_i (cF) ?_ | refine CallS_i (cC) ?_ | refine CallM_i (cF) ?_ | refine CallM_i (cC) ?_ | refine CallE_i (cF) ?_ | refine CallE_i (cC) ?_ | refine CallX_i (cF) ?_ | refine CallX_i (cC) ?_ | refine CallB_i (cF) ?_ | refine CallB_i (cC) ?_ | refine CondS_d (fun h => ?_) (fun h => ?_) | refine CondS_b (fun h => ?_) (fun h => ?_) | refine GrdS_d (fun h => ?_) (fun h => ?_) | refine GrdS_b (fun h => ?_) (fun h => ?_) | refine OkS_i (by omega) ?_ | fail)
  obtain ⟨k, rfl⟩ : ∃ k : Nat, w = k := ⟨w.toNat, by omega⟩
  have hkl : k < l.length := by omega
  have hd : l.getD k ftD = l[k] := by simp [hkl]
  have h0k : (0 : Int) ≤ k := by omega
  simp only [h0k, if_true, decide_true, Bool.true_and, Int.toNat_natCast, hd]
  have hxp := hp l[k] (List.getElem_mem ..)
  have cO := f40 (mvF l k e.f3 e.f4 l[k].f4.length) false (by rw [mvF_len]; omega) (mvF_ok (p := fun x => x.okay) hkl (fun x hx => hb x hx) (fun x hx => ⟨(hb x hx).1, by rw [mvX_len]; exact (hb x hx).2⟩))
  clear hp hb hn
  have hNle := mvN_le e.f3 e.f4 l[k].f4
  have hz2 : Hid (C = (mvF l k e.f3 e.f4 0).map ft) := by rw [mvF_zero (dx := e.f3) (dy := e.f4) hkl]; exact hC.symm
  clear hC
  repeat' (first | intro _ | (simp [sxa, isPtrN, PV.pcs, elAt, setEl, inAt, elIn, setIn, isLst, cellsOf, Ex.ok, Ex.val, Opd.val, POp.dst, bin_int, binOK_int, bin_str, binOK_str, resOK, resV, RB.val, sub, putc, scB, scL, oneB, conf, Ex.val.eqP, Ex.val.eqL, negV, mxV, mnV, ← wr_eq, wr_zero, wr_one, wr_m1, bst_lst, byteC, partsOK, putAll, appV, nilV, slV, sslV, optB, optNum, and_assoc, exists_and_left, exists_eq_left', ft, *]) | refine CallS_i (cF) ?_ | refine CallS_i (cC) ?_ | refine CallM_i (cF) ?_ | refine CallM_i (cC) ?_ | refine CallE_i (cF) ?_ | refine CallE_i (cC) ?_ | refine CallX_i (cF) ?_ | refine CallX_i (cC) ?_ | refine CallB_i (cF) ?_ | refine CallB_i (cC) ?_ | refine CondS_d (fun h => ?_) (fun h => ?_) | refine CondS_b (fun h => ?_) (fun h => ?_) | refine GrdS_d (fun h => ?_) (fun h => ?_) | refine GrdS_b (fun h => ?_) (fun h => ?_) | refine OkS_i (by omega) ?_ | fail)
  refine sx_count (mvN e.f3 e.f4 l[k].f4) (fun n V => V 3 = .ptr [i e.f0, i e.f1.f0, i e.f1.f1, i e.f1.f2, .str e.f1.f3, .lst 2 e.f1.nl (e.f1.f4.map cp), i e.f2, i e.f3, i e.f4] ∧ V 6 = .lst 5 false ((mvF l k e.f3 e.f4 n).map ft) ∧ V 7 = i k ∧ V 25 = .lst 2 l[k].nl (l[k].f4.map cp) ∧ V 26 = i l[k].f4.length ∧ V 27 = i n) 0 (by omega) (by simp [sxa, isPtrN, PV.pcs, elAt, setEl, inAt, elIn, setIn, isLst, cellsOf, Ex.ok, Ex.val, Opd.val, POp.dst, bin_int, binOK_int, bin_str, binOK_str, resOK, resV, RB.val, sub, putc, scB, scL, oneB, conf, Ex.val.eqP, Ex.val.eqL, negV, mxV, mnV, ← wr_eq, wr_zero, wr_one, wr_m1, bst_lst, byteC, partsOK, putAll, appV, nilV, slV, sslV, optB, optNum, and_assoc, exists_and_left, exists_eq_left']; exact hz2.out) ?_
  rintro n V hn ⟨h3, h6, h7, h25, h26, h27⟩
  have hw : wr .i64 ((n : Int) + 1) = n + 1 := wr_in (by omega) (by omega)
  have hat := mvF_at (l := l) (k := k) (dx := e.f3) (dy := e.f4) (n := n) hkl
  have hal := mvF_len l k e.f3 e.f4 n
  have hbl := mvTo_len e.f3 e.f4 l[k].f4 n
  clear hz2 cF cC
  obtain ⟨x, hx⟩ : ∃ x, l[k] = x := ⟨_, rfl⟩
  have hset : ∀ hn : n < x.f4.length, ((mvF l k e.f3 e.f4 n).map ft).set k [i x.f0, i x.f1, i x.f2, .str x.f3, .lst 2 false (((mvTo e.f3 e.f4 x.f4 n).map cp).set n (cp (mv x.f4[n] e.f3 e.f4)))] = (mvF l k e.f3 e.f4 (n + 1)).map ft := by
    subst hx
    exact fun hn => mvF_set hkl hn
  have hBl : ((mvTo e.f3 e.f4 l[k].f4 n).map cp).length = l[k].f4.length := by rw [List.length_map, mvTo_len]
  have hAl : ((mvF l k e.f3 e.f4 n).map ft).length = l.length := by rw [List.length_map, mvF_len]
  have hBt : ∀ hn : n < x.f4.length, ((mvTo e.f3 e.f4 x.f4 n).map cp)[n]? = some (cp x.f4[n]) := fun hn => by rw [List.getElem?_map, mvTo_at hn]; rfl
  rw [hx] at hat hBl hn hNle hxp hbl h25 h26 cO
  rw [hx]
  obtain ⟨B, hB⟩ : ∃ B, (mvTo e.f3 e.f4 x.f4 n).map cp = B := ⟨_, rfl⟩
  obtain ⟨A', hA'⟩ : ∃ A, (mvF l k e.f3 e.f4 (n + 1)).map ft = A := ⟨_, rfl⟩
  rw [hB, hA'] at hset
  rw [hB] at hat hBt hBl
  rcases Nat.lt_or_ge n (mvN e.f3 e.f4 x.f4) with hlt | hge
  · obtain ⟨A, hA⟩ : ∃ A, (mvF l k e.f3 e.f4 n).map ft = A := ⟨_, rfl⟩
    rw [hA] at hset hat hAl h6
    obtain ⟨hkA, hatA⟩ := get_of hat
    simp [sxa, isPtrN, PV.pcs, elAt, setEl, inAt, elIn, setIn, isLst, cellsOf, Ex.ok, Ex.val, Opd.val, POp.dst, bin_int, binOK_int, bin_str, binOK_str, resOK, resV, RB.val, sub, putc, scB, scL, oneB, conf, Ex.val.eqP, Ex.val.eqL, negV, mxV, mnV, ← wr_eq, wr_zero, wr_one, wr_m1, bst_lst, byteC, partsOK, putAll, appV, nilV, slV, sslV, optB, optNum, and_assoc, exists_and_left, exists_eq_left', h26, h27]
    have hlt' : n < x.f4.length := by omega
    have hok := mvN_lt hlt hlt'
    have cM := f157 x.f4[n] e.f3 e.f4
    unfold mvR at cM
    rw [hok, if_pos rfl] at cM
    have hs := hset hlt'
    obtain ⟨hnB, hatB⟩ := get_of (hBt hlt')
    have hP : (x.f4.map cp)[n]'(by simpa using hlt') = cp x.f4[n] := by simp
    obtain ⟨p, hp⟩ : ∃ p, x.f4[n] = p := ⟨_, rfl⟩
    rw [hp] at cM hs hatB hP
    obtain ⟨q, hq⟩ : ∃ q, mv p e.f3 e.f4 = q := ⟨_, rfl⟩
    rw [hq] at cM hs
    unfold cp at cM hs hatB
    clear hset hBt hq hok hA hB hat hx cO hP
    repeat' (first | intro _ | (simp [sxa, isPtrN, PV.pcs, elAt, setEl, inAt, elIn, setIn, isLst, cellsOf, Ex.ok, Ex.val, Opd.val, POp.dst, bin_int, binOK_int, bin_str, binOK_str, resOK, resV, RB.val, sub, putc, scB, scL, oneB, conf, Ex.val.eqP, Ex.val.eqL, negV, mxV, mnV, ← wr_eq, wr_zero, wr_one, wr_m1, bst_lst, byteC, partsOK, putAll, appV, nilV, slV, sslV, optB, optNum, and_assoc, exists_and_left, exists_eq_left', cp, *]) | refine CallS_i (cM) ?_ | refine CallM_i (cM) ?_ | refine CallE_i (cM) ?_ | refine CallX_i (cM) ?_ | refine CallB_i (cM) ?_ | refine CondS_d (fun h => ?_) (fun h => ?_) | refine CondS_b (fun h => ?_) (fun h => ?_) | refine GrdS_d (fun h => ?_) (fun h => ?_) | refine GrdS_b (fun h => ?_) (fun h => ?_) | refine OkS_i (by omega) ?_ | fail)
  · obtain rfl : n = mvN e.f3 e.f4 x.f4 := by omega
    simp [sxa, isPtrN, PV.pcs, elAt, setEl, inAt, elIn, setIn, isLst, cellsOf, Ex.ok, Ex.val, Opd.val, POp.dst, bin_int, binOK_int, bin_str, binOK_str, resOK, resV, RB.val, sub, putc, scB, scL, oneB, conf, Ex.val.eqP, Ex.val.eqL, negV, mxV, mnV, ← wr_eq, wr_zero, wr_one, wr_m1, bst_lst, byteC, partsOK, putAll, appV, nilV, slV, sslV, optB, optNum, and_assoc, exists_and_left, exists_eq_left', h26, h27]
    by_cases hend : mvN e.f3 e.f4 x.f4 = x.f4.length
    · clear hset hBt hat hx hA' hB
      obtain ⟨bs, hbs⟩ : ∃ b, wSrc (mvF l k e.f3 e.f4 x.f4.length) = b := ⟨_, rfl⟩
      rw [hbs] at cO
      repeat' (first | intro _ | (simp [sxa, isPtrN, PV.pcs, elAt, setEl, inAt, elIn, setIn, isLst, cellsOf, Ex.ok, Ex.val, Opd.val, POp.dst, bin_int, binOK_int, bin_str, binOK_str, resOK, resV, RB.val, sub, putc, scB, scL, oneB, conf, Ex.val.eqP, Ex.val.eqL, negV, mxV, mnV, ← wr_eq, wr_zero, wr_one, wr_m1, bst_lst, byteC, partsOK, putAll, appV, nilV, slV, sslV, optB, optNum, and_assoc, exists_and_left, exists_eq_left', *]) | refine CallS_i (cO) ?_ | refine CallM_i (cO) ?_ | refine CallE_i (cO) ?_ | refine CallX_i (cO) ?_ | refine CallB_i (cO) ?_ | refine CondS_d (fun h => ?_) (fun h => ?_) | refine CondS_b (fun h => ?_) (fun h => ?_) | refine GrdS_d (fun h => ?_) (fun h => ?_) | refine GrdS_b (fun h => ?_) (fun h => ?_) | refine OkS_i (by omega) ?_ | fail)
    · have hlt' : mvN e.f3 e.f4 x.f4 < x.f4.length := by omega
      have hbad := mvN_stop hlt'
      have cM := f157 x.f4[mvN e.f3 e.f4 x.f4] e.f3 e.f4
      unfold mvR at cM
      rw [hbad, if_neg (by simp)] at cM
      obtain ⟨p, hp⟩ : ∃ p, x.f4[mvN e.f3 e.f4 x.f4] = p := ⟨_, rfl⟩
      rw [hp] at cM
      unfold cp at cM
      clear hset hBt hat hx hbad hA' hB cO
      repeat' (first | intro _ | (simp [sxa, isPtrN, PV.pcs, elAt, setEl, inAt, elIn, setIn, isLst, cellsOf, Ex.ok, Ex.val, Opd.val, POp.dst, bin_int, binOK_int, bin_str, binOK_str, resOK, resV, RB.val, sub, putc, scB, scL, oneB, conf, Ex.val.eqP, Ex.val.eqL, negV, mxV, mnV, ← wr_eq, wr_zero, wr_one, wr_m1, bst_lst, byteC, partsOK, putAll, appV, nilV, slV, sslV, optB, optNum, and_assoc, exists_and_left, exists_eq_left', cp, *]) | refine CallS_i (cM) ?_ | refine CallM_i (cM) ?_ | refine CallE_i (cM) ?_ | refine CallX_i (cM) ?_ | refine CallB_i (cM) ?_ | refine CondS_d (fun h => ?_) (fun h => ?_) | refine CondS_b (fun h => ?_) (fun h => ?_) | refine GrdS_d (fun h => ?_) (fun h => ?_) | refine GrdS_b (fun h => ?_) (fun h => ?_) | refine OkS_i (by omega) ?_ | fail)
end Go.Eng
namespace Go.Eng
open Go Go.Proofs Geo Go.RowKit
set_option linter.unusedSimpArgs false
set_option linter.unusedVariables false
set_option maxRecDepth 20000
set_option maxHeartbeats 1000000

/-! an edit is applied. WRITES -/
def apB (l : List Ft) (e : Ei) : Bool := if e.f0 = 1 then wSrc (pfS l e.f1) else if e.f0 = 2 then (wSrc l && decide (0 ≤ wFind l e.f2)) else if e.f0 = 3 then (mvB l e && wSrc (mvO l e)) else false
def apO (l : List Ft) (e : Ei) : List Ft := if e.f0 = 1 then pfS l e.f1 else if e.f0 = 2 then tkF l e.f2 else mvO l e
def apL (l : List Ft) (e : Ei) : List Ft := if apB l e = true then apO l e else l.map Ft.fr
theorem mvO_ok {l : List Ft} {e : Ei} {p : Ft → Prop} (h1 : ∀ x ∈ l, p x.fr) (h2 : ∀ x ∈ l, ∀ n, p (mvX e.f3 e.f4 x n)) : ∀ y ∈ mvO l e, p y := by
  unfold mvO
  have hwb := wFind_bound l e.f2
  split
  · exact mvF_ok (by omega) h1 (fun x hx => h2 x hx _)
  · intro y hy
    obtain ⟨z, hz, rfl⟩ := List.mem_map.1 hy
    exact h1 z hz
theorem mvO_len (l : List Ft) (e : Ei) : (mvO l e).length = l.length := by unfold mvO; split <;> simp [mvF_len]
theorem tkF_ok {l : List Ft} {id : Int} {p : Ft → Prop} (h1 : ∀ x ∈ l, p x.fr) : ∀ y ∈ tkF l id, p y := by
  intro y hy
  obtain ⟨z, hz, rfl⟩ := List.mem_map.1 ((tkF_sub l id).subset hy)
  exact h1 z hz
theorem tkF_len (l : List Ft) (id : Int) : (tkF l id).length ≤ l.length := by have := (tkF_sub l id).length_le; simpa using this
theorem f42 (l : List Ft) (e : Ei) (nl : Bool) (hl : l.length ≤ 1048576) (hb : ∀ x ∈ l, x.okay) (he : e.f1.okay) (hp : ∀ x ∈ l, x.f4.length ≤ 1000000000) (hpe : e.f1.f4.length ≤ 1000000000) :
    Fn Try.prog 42 true [.lst 5 nl (l.map ft), .agg (ei e)] (.tup [.lst 5 false ((apL l e).map ft), .bool (apB l e)]) := by
  have cC := f103 l nl (by omega) hp
  have c1 := f104 l e.f1 nl hl hb he hp hpe
  have c2 := f105 l e.f2 nl hl hb hp
  have c3 := f106 l e nl hl hp
  have s1 := f78 (pfS l e.f1) false (by have := pfS_len l e.f1; omega) (pfS_ok (p := fun x => x.okay) (fun x hx => hb x hx) he)
  have s2 := f78 (tkF l e.f2) false (by have := tkF_len l e.f2; omega) (tkF_ok (p := fun x => x.okay) (fun x hx => hb x hx))
  have s3 := f78 (mvO l e) false (by rw [mvO_len]; omega) (mvO_ok (p := fun x => x.okay) (fun x hx => hb x hx) (fun x hx n => ⟨(hb x hx).1, by rw [mvX_len]; exact (hb x hx).2⟩))
  have hee : ei e = [i e.f0, i e.f1.f0, i e.f1.f1, i e.f1.f2, .str e.f1.f3, .lst 2 e.f1.nl (e.f1.f4.map cp), i e.f2, i e.f3, i e.f4] := rfl
  have hff : ft e.f1 = [i e.f1.f0, i e.f1.f1, i e.f1.f2, .str e.f1.f3, .lst 2 e.f1.nl (e.f1.f4.map cp)] := rfl
  rw [hee] at c3 ⊢
  rw [hff] at c1
  obtain ⟨b, hbe⟩ : ∃ b, apB l e = b := ⟨_, rfl⟩
  obtain ⟨R, hRe⟩ : ∃ R, (apL l e).map ft = R := ⟨_, rfl⟩
  have hRR : R = if apB l e = true then (apO l e).map ft else (l.map Ft.fr).map ft := by rw [← hRe]; unfold apL; split <;> rfl
  rw [hbe, hRe]
  obtain ⟨C, hC⟩ : ∃ C, (l.map Ft.fr).map ft = C := ⟨_, rfl⟩
  rw [hC] at cC hRR
  have q1 : (putL l e.f1).map ft = if wSrc (pfS l e.f1) = true then (pfS l e.f1).map ft else C := by rw [← hC]; unfold putL; split <;> rfl
  have q2 : (if (wSrc l && decide (0 ≤ wFind l e.f2)) = true then tkF l e.f2 else l.map Ft.fr).map ft = if (wSrc l && decide (0 ≤ wFind l e.f2)) = true then (tkF l e.f2).map ft else C := by rw [← hC]; split <;> rfl
  have q3 : (if mvB l e = true then mvO l e else l.map Ft.fr).map ft = if mvB l e = true then (mvO l e).map ft else C := by rw [← hC]; split <;> rfl
  rw [q1] at c1
  rw [q2] at c2
  rw [q3] at c3
  have k2 : wSrc l = true → wSrc (tkF l e.f2) = true := tkF_src
  clear hb he hp hpe hRe hC q1 q2 q3 hee hff
  by_cases h1 : e.f0 = 1
  · have hO : apO l e = pfS l e.f1 := by unfold apO; rw [if_pos h1]
    have hB : apB l e = wSrc (pfS l e.f1) := by unfold apB; rw [if_pos h1]
    rw [hB] at hbe hRR
    rw [hO] at hRR
    obtain ⟨T, hT⟩ : ∃ T, (pfS l e.f1).map ft = T := ⟨_, rfl⟩
    rw [hT] at c1 s1 hRR
    rw [hbe] at c1 s1 hRR
    subst hRR
    clear hT hO hB hbe c2 c3 s2 s3 k2
    have hne2 : ¬ e.f0 = 2 := by omega
    have hne3 : ¬ e.f0 = 3 := by omega
    cases b
    all_goals refine Fn.by_sx hX (by kernel_rfl) c42 (by kernel_rfl) (by rfl) ?_
    all_goals simp [i42, sxa, isPtrN, PV.pcs, elAt, setEl, inAt, elIn, setIn, isLst, cellsOf, Ex.ok, Ex.val, Opd.val, POp.dst, bin_int, binOK_int, bin_str, binOK_str, resOK, resV, RB.val, sub, putc, scB, scL, oneB, conf, Ex.val.eqP, Ex.val.eqL, negV, mxV, mnV, ← wr_eq, wr_zero, wr_one, wr_m1, bst_lst, byteC, partsOK, putAll, appV, nilV, slV, sslV, optB, optNum, and_assoc, exists_and_left, exists_eq_left']
    all_goals repeat' (first | intro _ | (simp [sxa, isPtrN, PV.pcs, elAt, setEl, inAt, elIn, setIn, isLst, cellsOf, Ex.ok, Ex.val, Opd.val, POp.dst, bin_int, binOK_int, bin_str, binOK_str, resOK, resV, RB.val, sub, putc, scB, scL, oneB, conf, Ex.val.eqP, Ex.val.eqL, negV, mxV, mnV, ← wr_eq, wr_zero, wr_one, wr_m1, bst_lst, byteC, partsOK, putAll, appV, nilV, slV, sslV, optB, optNum, and_assoc, exists_and_left, exists_eq_left', *]) | refine CallS_i (cC) ?_ | refine CallS_i (c1) ?_ | refine CallS_i (s1) ?_ | refine CallM_i (cC) ?_ | refine CallM_i (c1) ?_ | refine CallM_i (s1) ?_ | refine CallE_i (cC) ?_ | refine CallE_i (c1) ?_ | refine CallE_i (s1) ?_ | refine CallX_i (cC) ?_ | refine CallX_i (c1) ?_ | refine CallX_i (s1) ?_ | refine CallB_i (cC) ?_ | refine CallB_i (c1) ?_ | refine CallB_i (s1) ?_ | refine CondS_d (fun h => ?_) (fun h => ?_) | refine CondS_b (fun h => ?_) (fun h => ?_) | refine GrdS_d (fun h => ?_) (fun h => ?_) | refine GrdS_b (fun h => ?_) (fun h => ?_) | refine OkS_i (by omega) ?_ | fail)
  by_cases h2 : e.f0 = 2
  · have hO : apO l e = tkF l e.f2 := by unfold apO; rw [if_neg h1, if_pos h2]
    have hB : apB l e = (wSrc l && decide (0 ≤ wFind l e.f2)) := by unfold apB; rw [if_neg h1, if_pos h2]
    rw [hB] at hbe hRR
    rw [hO] at hRR
    have k3 : b = true → wSrc (tkF l e.f2) = true := fun h => k2 (by rw [h] at hbe; simp at hbe; exact hbe.1)
    obtain ⟨T, hT⟩ : ∃ T, (tkF l e.f2).map ft = T := ⟨_, rfl⟩
    rw [hT] at c2 s2 hRR
    rw [hbe] at c2 hRR
    subst hRR
    clear hT hO hB hbe c1 c3 s1 s3 k2
    cases b
    all_goals try rw [k3 rfl] at s2
    all_goals clear k3
    all_goals refine Fn.by_sx hX (by kernel_rfl) c42 (by kernel_rfl) (by rfl) ?_
    all_goals simp [i42, sxa, isPtrN, PV.pcs, elAt, setEl, inAt, elIn, setIn, isLst, cellsOf, Ex.ok, Ex.val, Opd.val, POp.dst, bin_int, binOK_int, bin_str, binOK_str, resOK, resV, RB.val, sub, putc, scB, scL, oneB, conf, Ex.val.eqP, Ex.val.eqL, negV, mxV, mnV, ← wr_eq, wr_zero, wr_one, wr_m1, bst_lst, byteC, partsOK, putAll, appV, nilV, slV, sslV, optB, optNum, and_assoc, exists_and_left, exists_eq_left']
    all_goals repeat' (first | intro _ | (simp [sxa, isPtrN, PV.pcs, elAt, setEl, inAt, elIn, setIn, isLst, cellsOf, Ex.ok, Ex.val, Opd.val, POp.dst, bin_int, binOK_int, bin_str, binOK_str, resOK, resV, RB.val, sub, putc, scB, scL, oneB, conf, Ex.val.eqP, Ex.val.eqL, negV, mxV, mnV, ← wr_eq, wr_zero, wr_one, wr_m1, bst_lst, byteC, partsOK, putAll, appV, nilV, slV, sslV, optB, optNum, and_assoc, exists_and_left, exists_eq_left', *]) | refine CallS_i (cC) ?_ | refine CallS_i (c2) ?_ | refine CallS_i (s2) ?_ | refine CallM_i (cC) ?_ | refine CallM_i (c2) ?_ | refine CallM_i (s2) ?_ | refine CallE_i (cC) ?_ | refine CallE_i (c2) ?_ | refine CallE_i (s2) ?_ | refine CallX_i (cC) ?_ | refine CallX_i (c2) ?_ | refine CallX_i (s2) ?_ | refine CallB_i (cC) ?_ | refine CallB_i (c2) ?_ | refine CallB_i (s2) ?_ | refine CondS_d (fun h => ?_) (fun h => ?_) | refine CondS_b (fun h => ?_) (fun h => ?_) | refine GrdS_d (fun h => ?_) (fun h => ?_) | refine GrdS_b (fun h => ?_) (fun h => ?_) | refine OkS_i (by omega) ?_ | fail)
  by_cases h3 : e.f0 = 3
  · have hO : apO l e = mvO l e := by unfold apO; rw [if_neg h1, if_neg h2]
    have hB : apB l e = (mvB l e && wSrc (mvO l e)) := by unfold apB; rw [if_neg h1, if_neg h2, if_pos h3]
    rw [hB] at hbe hRR
    rw [hO] at hRR
    obtain ⟨T, hT⟩ : ∃ T, (mvO l e).map ft = T := ⟨_, rfl⟩
    obtain ⟨b3, hb3⟩ : ∃ b, mvB l e = b := ⟨_, rfl⟩
    obtain ⟨b4, hb4⟩ : ∃ b, wSrc (mvO l e) = b := ⟨_, rfl⟩
    rw [hT] at c3 s3 hRR
    rw [hb3] at c3 hRR hbe
    rw [hb4] at s3 hRR hbe
    subst hRR
    subst hbe
    clear hT hO hB c1 c2 s1 s2 k2 hb3 hb4
    rw [h3] at c3
    cases b3 <;> cases b4
    all_goals refine Fn.by_sx hX (by kernel_rfl) c42 (by kernel_rfl) (by rfl) ?_
    all_goals simp [i42, sxa, isPtrN, PV.pcs, elAt, setEl, inAt, elIn, setIn, isLst, cellsOf, Ex.ok, Ex.val, Opd.val, POp.dst, bin_int, binOK_int, bin_str, binOK_str, resOK, resV, RB.val, sub, putc, scB, scL, oneB, conf, Ex.val.eqP, Ex.val.eqL, negV, mxV, mnV, ← wr_eq, wr_zero, wr_one, wr_m1, bst_lst, byteC, partsOK, putAll, appV, nilV, slV, sslV, optB, optNum, and_assoc, exists_and_left, exists_eq_left']
    all_goals repeat' (first | intro _ | (simp [sxa, isPtrN, PV.pcs, elAt, setEl, inAt, elIn, setIn, isLst, cellsOf, Ex.ok, Ex.val, Opd.val, POp.dst, bin_int, binOK_int, bin_str, binOK_str, resOK, resV, RB.val, sub, putc, scB, scL, oneB, conf, Ex.val.eqP, Ex.val.eqL, negV, mxV, mnV, ← wr_eq, wr_zero, wr_one, wr_m1, bst_lst, byteC, partsOK, putAll, appV, nilV, slV, sslV, optB, optNum, and_assoc, exists_and_left, exists_eq_left', *]) | refine CallS_i (cC) ?_ | refine CallS_i (c3) ?_ | refine CallS_i (s3) ?_ | refine CallM_i (cC) ?_ | refine CallM_i (c3) ?_ | refine CallM_i (s3) ?_ | refine CallE_i (cC) ?_ | refine CallE_i (c3) ?_ | refine CallE_i (s3) ?_ | refine CallX_i (cC) ?_ | refine CallX_i (c3) ?_ | refine CallX_i (s3) ?_ | refine CallB_i (cC) ?_ | refine CallB_i (c3) ?_ | refine CallB_i (s3) ?_ | refine CondS_d (fun h => ?_) (fun h => ?_) | refine CondS_b (fun h => ?_) (fun h => ?_) | refine GrdS_d (fun h => ?_) (fun h => ?_) | refine GrdS_b (fun h => ?_) (fun h => ?_) | refine OkS_i (by omega) ?_ | fail)
  · have hB : apB l e = false := by unfold apB; rw [if_neg h1, if_neg h2, if_neg h3]
    rw [hB] at hbe hRR
    subst hRR
    subst hbe
    clear hB c1 c2 c3 s1 s2 s3 k2
    refine Fn.by_sx hX (by kernel_rfl) c42 (by kernel_rfl) (by rfl) ?_
    simp [i42, sxa, isPtrN, PV.pcs, elAt, setEl, inAt, elIn, setIn, isLst, cellsOf, Ex.ok, Ex.val, Opd.val, POp.dst, bin_int, binOK_int, bin_str, binOK_str, resOK, resV, RB.val, sub, putc, scB, scL, oneB, conf, Ex.val.eqP, Ex.val.eqL, negV, mxV, mnV, ← wr_eq, wr_zero, wr_one, wr_m1, bst_lst, byteC, partsOK, putAll, appV, nilV, slV, sslV, optB, optNum, and_assoc, exists_and_left, exists_eq_left']
    repeat' (first | intro _ | (simp [sxa, isPtrN, PV.pcs, elAt, setEl, inAt, elIn, setIn, isLst, cellsOf, Ex.ok, Ex.val, Opd.val, POp.dst, bin_int, binOK_int, bin_str, binOK_str, resOK, resV, RB.val, sub, putc, scB, scL, oneB, conf, Ex.val.eqP, Ex.val.eqL, negV, mxV, mnV, ← wr_eq, wr_zero, wr_one, wr_m1, bst_lst, byteC, partsOK, putAll, appV, nilV, slV, sslV, optB, optNum, and_assoc, exists_and_left, exists_eq_left', *]) | refine CallS_i (cC) ?_ | refine CallM_i (cC) ?_ | refine CallE_i (cC) ?_ | refine CallX_i (cC) ?_ | refine CallB_i (cC) ?_ | refine CondS_d (fun h => ?_) (fun h => ?_) | refine CondS_b (fun h => ?_) (fun h => ?_) | refine GrdS_d (fun h => ?_) (fun h => ?_) | refine GrdS_b (fun h => ?_) (fun h => ?_) | refine OkS_i (by omega) ?_ | fail)
theorem f44 (l : List Ft) (e : Ei) (nl : Bool) (hl : l.length ≤ 1048576) (hb : ∀ x ∈ l, x.okay) (he : e.f1.okay) (hp : ∀ x ∈ l, x.f4.length ≤ 1000000000) (hpe : e.f1.f4.length ≤ 1000000000)
    (hn : ∀ x ∈ l, x.nl = false) (hne : e.f1.nl = false) :
    Fn Try.prog 44 true [.lst 5 nl (l.map ft), .agg (ei e)] (.tup [.lst 5 false ((apL l e).map ft), .bool (apB l e)]) := by
  have cC := f110 l nl (by omega) hp hn
  have c1 := f107 l e.f1 nl hl hb he hp hpe hn hne
  have c2 := f108 l e.f2 nl hl hb hp hn
  have c3 := f109 l e nl hl hp hb hn
  have hee : ei e = [i e.f0, i e.f1.f0, i e.f1.f1, i e.f1.f2, .str e.f1.f3, .lst 2 e.f1.nl (e.f1.f4.map cp), i e.f2, i e.f3, i e.f4] := rfl
  have hff : ft e.f1 = [i e.f1.f0, i e.f1.f1, i e.f1.f2, .str e.f1.f3, .lst 2 e.f1.nl (e.f1.f4.map cp)] := rfl
  rw [hee] at c3 ⊢
  rw [hff] at c1
  rw [hne] at c1 c3
  clear hee hff
  by_cases h1 : e.f0 = 1
  · have hB : apB l e = wSrc (pfS l e.f1) := by unfold apB; rw [if_pos h1]
    have hL : apL l e = putL l e.f1 := by unfold apL apO putL; rw [hB, if_pos h1]
    rw [hB, hL]
    obtain ⟨T, hT⟩ : ∃ T, (putL l e.f1).map ft = T := ⟨_, rfl⟩
    obtain ⟨b, hbe⟩ : ∃ b, wSrc (pfS l e.f1) = b := ⟨_, rfl⟩
    rw [hT, hbe] at c1 ⊢
    have hne2 : ¬ e.f0 = 2 := by omega
    have hne3 : ¬ e.f0 = 3 := by omega
    clear hT hbe hL hB c2 c3 cC hb hp hn
    refine Fn.by_sx hX (by kernel_rfl) c44 (by kernel_rfl) (by rfl) ?_
    simp [i44, sxa, isPtrN, PV.pcs, elAt, setEl, inAt, elIn, setIn, isLst, cellsOf, Ex.ok, Ex.val, Opd.val, POp.dst, bin_int, binOK_int, bin_str, binOK_str, resOK, resV, RB.val, sub, putc, scB, scL, oneB, conf, Ex.val.eqP, Ex.val.eqL, negV, mxV, mnV, ← wr_eq, wr_zero, wr_one, wr_m1, bst_lst, byteC, partsOK, putAll, appV, nilV, slV, sslV, optB, optNum, and_assoc, exists_and_left, exists_eq_left']
    repeat' (first | intro _ | (simp [sxa, isPtrN, PV.pcs, elAt, setEl, inAt, elIn, setIn, isLst, cellsOf, Ex.ok, Ex.val, Opd.val, POp.dst, bin_int, binOK_int, bin_str, binOK_str, resOK, resV, RB.val, sub, putc, scB, scL, oneB, conf, Ex.val.eqP, Ex.val.eqL, negV, mxV, mnV, ← wr_eq, wr_zero, wr_one, wr_m1, bst_lst, byteC, partsOK, putAll, appV, nilV, slV, sslV, optB, optNum, and_assoc, exists_and_left, exists_eq_left', *]) | refine CallS_i (c1) ?_ | refine CallM_i (c1) ?_ | refine CallE_i (c1) ?_ | refine CallX_i (c1) ?_ | refine CallB_i (c1) ?_ | refine CondS_d (fun h => ?_) (fun h => ?_) | refine CondS_b (fun h => ?_) (fun h => ?_) | refine GrdS_d (fun h => ?_) (fun h => ?_) | refine GrdS_b (fun h => ?_) (fun h => ?_) | refine OkS_i (by omega) ?_ | fail)
  by_cases h2 : e.f0 = 2
  · have hB : apB l e = (wSrc l && decide (0 ≤ wFind l e.f2)) := by unfold apB; rw [if_neg h1, if_pos h2]
    have hL : apL l e = if (wSrc l && decide (0 ≤ wFind l e.f2)) = true then tkF l e.f2 else l.map Ft.fr := by unfold apL apO; rw [hB, if_neg h1, if_pos h2]
    rw [hB, hL]
    obtain ⟨T, hT⟩ : ∃ T, (if (wSrc l && decide (0 ≤ wFind l e.f2)) = true then tkF l e.f2 else l.map Ft.fr).map ft = T := ⟨_, rfl⟩
    rw [hT] at c2 ⊢
    obtain ⟨b, hbe⟩ : ∃ b, (wSrc l && decide (0 ≤ wFind l e.f2)) = b := ⟨_, rfl⟩
    rw [hbe] at c2 ⊢
    clear hT hbe hL hB c1 c3 cC hb hp hn
    refine Fn.by_sx hX (by kernel_rfl) c44 (by kernel_rfl) (by rfl) ?_
    simp [i44, sxa, isPtrN, PV.pcs, elAt, setEl, inAt, elIn, setIn, isLst, cellsOf, Ex.ok, Ex.val, Opd.val, POp.dst, bin_int, binOK_int, bin_str, binOK_str, resOK, resV, RB.val, sub, putc, scB, scL, oneB, conf, Ex.val.eqP, Ex.val.eqL, negV, mxV, mnV, ← wr_eq, wr_zero, wr_one, wr_m1, bst_lst, byteC, partsOK, putAll, appV, nilV, slV, sslV, optB, optNum, and_assoc, exists_and_left, exists_eq_left']
    repeat' (first | intro _ | (simp [sxa, isPtrN, PV.pcs, elAt, setEl, inAt, elIn, setIn, isLst, cellsOf, Ex.ok, Ex.val, Opd.val, POp.dst, bin_int, binOK_int, bin_str, binOK_str, resOK, resV, RB.val, sub, putc, scB, scL, oneB, conf, Ex.val.eqP, Ex.val.eqL, negV, mxV, mnV, ← wr_eq, wr_zero, wr_one, wr_m1, bst_lst, byteC, partsOK, putAll, appV, nilV, slV, sslV, optB, optNum, and_assoc, exists_and_left, exists_eq_left', *]) | refine CallS_i (c2) ?_ | refine CallM_i (c2) ?_ | refine CallE_i (c2) ?_ | refine CallX_i (c2) ?_ | refine CallB_i (c2) ?_ | refine CondS_d (fun h => ?_) (fun h => ?_) | refine CondS_b (fun h => ?_) (fun h => ?_) | refine GrdS_d (fun h => ?_) (fun h => ?_) | refine GrdS_b (fun h => ?_) (fun h => ?_) | refine OkS_i (by omega) ?_ | fail)
  by_cases h3 : e.f0 = 3
  · have hB : apB l e = (mvB l e && wSrc (mvO l e)) := by unfold apB; rw [if_neg h1, if_neg h2, if_pos h3]
    have hL : (apL l e).map ft = if (mvB l e && wSrc (mvO l e)) = true then (mvO l e).map ft else (l.map Ft.fr).map ft := by unfold apL apO; rw [hB, if_neg h1, if_neg h2]; split <;> rfl
    rw [hB, hL]
    obtain ⟨T, hT⟩ : ∃ T, (mvO l e).map ft = T := ⟨_, rfl⟩
    obtain ⟨C, hC⟩ : ∃ C, (l.map Ft.fr).map ft = C := ⟨_, rfl⟩
    rw [hT] at c3 ⊢
    rw [hC] at cC ⊢
    obtain ⟨b, hbe⟩ : ∃ b, (mvB l e && wSrc (mvO l e)) = b := ⟨_, rfl⟩
    rw [hbe] at c3 ⊢
    clear hT hC hbe hL hB c1 c2 hb hp hn
    rw [h3] at c3
    cases b
    all_goals refine Fn.by_sx hX (by kernel_rfl) c44 (by kernel_rfl) (by rfl) ?_
    all_goals simp [i44, sxa, isPtrN, PV.pcs, elAt, setEl, inAt, elIn, setIn, isLst, cellsOf, Ex.ok, Ex.val, Opd.val, POp.dst, bin_int, binOK_int, bin_str, binOK_str, resOK, resV, RB.val, sub, putc, scB, scL, oneB, conf, Ex.val.eqP, Ex.val.eqL, negV, mxV, mnV, ← wr_eq, wr_zero, wr_one, wr_m1, bst_lst, byteC, partsOK, putAll, appV, nilV, slV, sslV, optB, optNum, and_assoc, exists_and_left, exists_eq_left']
    all_goals repeat' (first | intro _ | (simp [sxa, isPtrN, PV.pcs, elAt, setEl, inAt, elIn, setIn, isLst, cellsOf, Ex.ok, Ex.val, Opd.val, POp.dst, bin_int, binOK_int, bin_str, binOK_str, resOK, resV, RB.val, sub, putc, scB, scL, oneB, conf, Ex.val.eqP, Ex.val.eqL, negV, mxV, mnV, ← wr_eq, wr_zero, wr_one, wr_m1, bst_lst, byteC, partsOK, putAll, appV, nilV, slV, sslV, optB, optNum, and_assoc, exists_and_left, exists_eq_left', *]) | refine CallS_i (c3) ?_ | refine CallS_i (cC) ?_ | refine CallM_i (c3) ?_ | refine CallM_i (cC) ?_ | refine CallE_i (c3) ?_ | refine CallE_i (cC) ?_ | refine CallX_i (c3) ?_ | refine CallX_i (cC) ?_ | refine CallB_i (c3) ?_ | refine CallB_i (cC) ?_ | refine CondS_d (fun h => ?_) (fun h => ?_) | refine CondS_b (fun h => ?_) (fun h => ?_) | refine GrdS_d (fun h => ?_) (fun h => ?_) | refine GrdS_b (fun h => ?_) (fun h => ?_) | refine OkS_i (by omega) ?_ | fail)
  · have hB : apB l e = false := by unfold apB; rw [if_neg h1, if_neg h2, if_neg h3]
    have hL : (apL l e).map ft = (l.map Ft.fr).map ft := by unfold apL; rw [hB]; rfl
    rw [hB, hL]
    obtain ⟨C, hC⟩ : ∃ C, (l.map Ft.fr).map ft = C := ⟨_, rfl⟩
    rw [hC] at cC ⊢
    clear hC hL hB c1 c2 c3 hb hp hn
    refine Fn.by_sx hX (by kernel_rfl) c44 (by kernel_rfl) (by rfl) ?_
    simp [i44, sxa, isPtrN, PV.pcs, elAt, setEl, inAt, elIn, setIn, isLst, cellsOf, Ex.ok, Ex.val, Opd.val, POp.dst, bin_int, binOK_int, bin_str, binOK_str, resOK, resV, RB.val, sub, putc, scB, scL, oneB, conf, Ex.val.eqP, Ex.val.eqL, negV, mxV, mnV, ← wr_eq, wr_zero, wr_one, wr_m1, bst_lst, byteC, partsOK, putAll, appV, nilV, slV, sslV, optB, optNum, and_assoc, exists_and_left, exists_eq_left']
    repeat' (first | intro _ | (simp [sxa, isPtrN, PV.pcs, elAt, setEl, inAt, elIn, setIn, isLst, cellsOf, Ex.ok, Ex.val, Opd.val, POp.dst, bin_int, binOK_int, bin_str, binOK_str, resOK, resV, RB.val, sub, putc, scB, scL, oneB, conf, Ex.val.eqP, Ex.val.eqL, negV, mxV, mnV, ← wr_eq, wr_zero, wr_one, wr_m1, bst_lst, byteC, partsOK, putAll, appV, nilV, slV, sslV, optB, optNum, and_assoc, exists_and_left, exists_eq_left', *]) | refine CallS_i (cC) ?_ | refine CallM_i (cC) ?_ | refine CallE_i (cC) ?_ | refine CallX_i (cC) ?_ | refine CallB_i (cC) ?_ | refine CondS_d (fun h => ?_) (fun h => ?_) | refine CondS_b (fun h => ?_) (fun h => ?_) | refine GrdS_d (fun h => ?_) (fun h => ?_) | refine GrdS_b (fun h => ?_) (fun h => ?_) | refine OkS_i (by omega) ?_ | fail)
end Go.Eng
namespace Go.Eng
open Go Go.Proofs Geo Go.RowKit
set_option linter.unusedSimpArgs false
set_option linter.unusedVariables false
set_option maxRecDepth 20000
set_option maxHeartbeats 1000000

/-! edits are applied one by one. WRITES -/
def apTo (l : List Ft) (es : List Ei) : Nat → List Ft
  | 0 => l.map Ft.fr
  | n + 1 => apL (apTo l es n) (es.getD n eiD)
def cnTo (l : List Ft) (es : List Ei) : Nat → Int
  | 0 => 0
  | n + 1 => cnTo l es n + (if apB (apTo l es n) (es.getD n eiD) = true then 1 else 0)
theorem cnTo_b (l : List Ft) (es : List Ei) : ∀ n, 0 ≤ cnTo l es n ∧ cnTo l es n ≤ n
  | 0 => by simp [cnTo]
  | n + 1 => by have := cnTo_b l es n; unfold cnTo; split <;> omega
def Ft.neat (x : Ft) : Prop := x.f3.size ≤ 1048576 ∧ x.f4.length ≤ 1048576 ∧ x.nl = false
theorem Ft.neat.ok {x : Ft} (h : x.neat) : x.okay := ⟨by have := h.1; omega, by have := h.2.1; omega⟩
theorem Ft.neat.frn {x : Ft} (h : x.neat) : x.fr.neat := ⟨h.1, h.2.1, rfl⟩
theorem Ft.neat.mvn {x : Ft} (h : x.neat) (dx dy : Int) (n : Nat) : (mvX dx dy x n).neat := ⟨h.1, by rw [mvX_len]; exact h.2.1, rfl⟩
theorem apL_neat {l : List Ft} {e : Ei} (hl : ∀ x ∈ l, x.neat) (he : e.f1.neat) : ∀ x ∈ apL l e, x.neat := by
  have h1 : ∀ x ∈ l.map Ft.fr, x.neat := fun x hx => by
    obtain ⟨y, hy, rfl⟩ := List.mem_map.1 hx
    exact (hl y hy).frn
  unfold apL
  split
  · unfold apO
    split
    · exact pfS_ok (p := Ft.neat) (fun x hx => (hl x hx).frn) he.frn
    · split
      · exact tkF_ok (p := Ft.neat) (fun x hx => (hl x hx).frn)
      · exact mvO_ok (p := Ft.neat) (fun x hx => (hl x hx).frn) (fun x hx n => (hl x hx).mvn _ _ n)
  · exact h1
theorem wSrc_len {l : List Ft} (h : wSrc l = true) : l.length ≤ 16 := (wSrc_iff.1 h).1
theorem apO_len {l : List Ft} {e : Ei} (h : apB l e = true) : (apO l e).length ≤ 16 := by
  unfold apB at h
  unfold apO
  split at h
  · rw [if_pos (by assumption)]; exact wSrc_len h
  · rw [if_neg (by assumption)]
    split at h
    · rw [if_pos (by assumption)]
      simp only [Bool.and_eq_true] at h
      exact wSrc_len (tkF_src h.1)
    · rw [if_neg (by assumption)]
      split at h
      · simp only [Bool.and_eq_true] at h
        exact wSrc_len h.2
      · cases h
theorem fr_fr (l : List Ft) : (l.map Ft.fr).map Ft.fr = l.map Ft.fr := by rw [List.map_map]; rfl
theorem apTo_good (l : List Ft) (es : List Ei) : ∀ n, apTo l es n = l.map Ft.fr ∨ (apTo l es n).length ≤ 16
  | 0 => .inl rfl
  | n + 1 => by
    unfold apTo apL
    split
    · rename_i h
      exact .inr (apO_len h)
    · rcases apTo_good l es n with h | h
      · rw [h, fr_fr]; exact .inl rfl
      · exact .inr (by simpa using h)
theorem apTo_len {l : List Ft} {es : List Ei} (n : Nat) (h : l.length ≤ 1048576) : (apTo l es n).length ≤ 1048576 := by
  rcases apTo_good l es n with h1 | h1
  · rw [h1, List.length_map]; exact h
  · omega
theorem apTo_neat {l : List Ft} {es : List Ei} (hl : ∀ x ∈ l, x.neat) (he : ∀ x ∈ es, x.f1.neat) : ∀ n, n ≤ es.length → ∀ x ∈ apTo l es n, x.neat
  | 0, _ => fun x hx => by
    unfold apTo at hx
    obtain ⟨y, hy, rfl⟩ := List.mem_map.1 hx
    exact (hl y hy).frn
  | n + 1, hn => by
    unfold apTo
    exact apL_neat (apTo_neat hl he n (by omega)) (by simp [show n < es.length by omega]; exact he _ (List.getElem_mem ..))
end Go.Eng
namespace Go.Eng
open Go Go.Proofs Geo Go.RowKit
set_option linter.unusedSimpArgs false
set_option linter.unusedVariables false
set_option maxRecDepth 20000
set_option maxHeartbeats 1000000

/-! the law of applied edits. WRITES -/
theorem kTo_geF {l : List Ft} {B : Nat} (h : ∀ x ∈ l, x.f4.length ≤ B) : ∀ n : Nat, n ≤ l.length → ∀ k : Int, kTo l k n ≤ k + n * (4 + 2 * (B : Int)) := kTo_ge h
theorem wtLF_frF (l : List Ft) : wtLF (l.map Ft.fr) = wtLF l := by
  unfold wtLF wtToF
  rw [List.take_of_length_le (Nat.le_refl _), List.take_of_length_le (Nat.le_refl _), List.map_map, List.length_map]
  rfl
theorem wtLI_fr (l : List Ei) : wtLI (l.map Ei.fr) = wtLI l := by
  unfold wtLI wtToI
  rw [List.take_of_length_le (Nat.le_refl _), List.take_of_length_le (Nat.le_refl _), List.map_map, List.length_map]
  rfl
theorem apTo_k {l : List Ft} {es : List Ei} (n : Nat) (hn : n ≤ es.length) (hw : wtLF l ≤ 1048576) (hl : ∀ x ∈ l, x.neat) (he : ∀ x ∈ es, x.f1.neat) : kTo (apTo l es n) 1 (apTo l es n).length ≤ 1000000000 := by
  rcases apTo_good l es n with h | h
  · rw [h]
    have h1 := kTo_le (l.map Ft.fr) (l.map Ft.fr).length (Nat.le_refl _) 1
    have h2 := wtLF_frF l
    unfold wtLF at h2 hw
    rw [List.length_map] at h1 h2 ⊢
    omega
  · have hN := apTo_neat hl he n hn
    have h1 := kTo_geF (B := 1048576) (fun x hx => (hN x hx).2.1) (apTo l es n).length (Nat.le_refl _) 1
    have : ((apTo l es n).length : Int) * (4 + 2 * ((1048576 : Nat) : Int)) ≤ 16 * (4 + 2 * ((1048576 : Nat) : Int)) := Int.mul_le_mul_of_nonneg_right (by omega) (by omega)
    omega
end Go.Eng
namespace Go.Eng
open Go Go.Proofs Geo
set_option linter.unusedSimpArgs false
set_option linter.unusedVariables false
set_option maxRecDepth 100000
set_option maxHeartbeats 1000000

/-! structs are marked: what lies behind them. WRITES -/
theorem len4 {α : Type} {l : List α} (h : l.length = 4) : ∃ a b c d, l = [a, b, c, d] := by
  match l, h with
  | [a, b, c, d], _ => exact ⟨a, b, c, d, rfl⟩
theorem len5 {α : Type} {l : List α} (h : l.length = 5) : ∃ a b c d e, l = [a, b, c, d, e] := by
  match l, h with
  | [a, b, c, d, e], _ => exact ⟨a, b, c, d, e, rfl⟩
theorem len3 {α : Type} {l : List α} (h : l.length = 3) : ∃ a b c, l = [a, b, c] := by
  match l, h with
  | [a, b, c], _ => exact ⟨a, b, c, rfl⟩
def mkB (k : Int) (x : Ft) : Ft := { x with f4 := upTo (mkPt k) x.f4.length }
theorem f93 (x : Ft) (k : Int) (hx : x.nlok) (hk0 : 0 ≤ k) (hk : k + 2 * x.f4.length ≤ 1000000000000) :
    FnM Try.prog 93 [.agg (ft x), i k] (i (k + 2 * x.f4.length)) (.agg (ft (mkB k x))) := by
  have hc := f75 x.f4 x.nl k hx hk0 hk
  have := wrap_FnM (P := Try.prog) (f := 93) (g := 75) (pre := [i x.f0, i x.f1, i x.f2, .str x.f3]) (mid := [.lst 2 x.nl (x.f4.map cp)]) (post := []) (mid' := [.lst 2 x.nl ((upTo (mkPt k) x.f4.length).map cp)]) (agg := false) (k := k) (T := 47) (by kernel_rfl) (.inr rfl) (.inr rfl) rfl hc
    (fun w ya ym yz R h1 h2 h3 hcc => by
      obtain ⟨a, b, c, d, rfl⟩ := len4 h1
      obtain ⟨e, rfl⟩ := List.length_eq_one_iff.1 h2
      obtain rfl := List.length_eq_zero_iff.1 h3
      go_enter Try.func93, Try.ntmps93
      go_wp
      refine hcc.mono ?_
      rintro e w1 ⟨rfl, hR⟩
      dsimp only
      go_wp
      go_ret
      exact ⟨rfl, hR⟩)
  exact this
theorem f29 (x : En) (k : Int) (hx : x.f0.nlok) (hk0 : 0 ≤ k) (hk : k + 2 * x.f0.f4.length ≤ 1000000000000) :
    FnM Try.prog 29 [.agg (en x), i k] (i (k + 2 * x.f0.f4.length)) (.agg (en { x with f0 := mkB k x.f0 })) := by
  have hc := f93 x.f0 k hx hk0 hk
  have := wrap_FnM (P := Try.prog) (f := 29) (g := 93) (pre := []) (mid := ft x.f0) (post := [i x.f1, i x.f2, .bool x.f3]) (mid' := ft (mkB k x.f0)) (agg := true) (k := k) (T := 49) (by kernel_rfl) (.inl rfl) (.inl rfl) rfl hc
    (fun w ya ym yz R h1 h2 h3 hcc => by
      obtain rfl := List.length_eq_zero_iff.1 h1
      obtain ⟨a, b, c, d, e, rfl⟩ := len5 h2
      obtain ⟨f, g, h, rfl⟩ := len3 h3
      go_enter Try.func29, Try.ntmps29
      go_wp
      refine hcc.mono ?_
      rintro e w1 ⟨rfl, hR⟩
      dsimp only
      go_wp
      go_ret
      exact ⟨rfl, hR⟩)
  exact this
end Go.Eng
namespace Go.Eng
open Go Go.Proofs Geo
set_option linter.unusedSimpArgs false
set_option linter.unusedVariables false
set_option maxRecDepth 100000
set_option maxHeartbeats 1000000

/-! edits are marked. WRITES -/
theorem f47 (x : Ei) (k : Int) (hx : x.f1.nlok) (hk0 : 0 ≤ k) (hk : k + 2 * x.f1.f4.length ≤ 1000000000000) :
    FnM Try.prog 47 [.agg (ei x), i k] (i (k + 2 * x.f1.f4.length)) (.agg (ei { x with f1 := mkB k x.f1 })) := by
  have hc := f93 x.f1 k hx hk0 hk
  have := wrap_FnM (P := Try.prog) (f := 47) (g := 93) (pre := [i x.f0]) (mid := ft x.f1) (post := [i x.f2, i x.f3, i x.f4]) (mid' := ft (mkB k x.f1)) (agg := true) (k := k) (T := 71) (by kernel_rfl) (.inl rfl) (.inl rfl) rfl hc
    (fun w ya ym yz R h1 h2 h3 hcc => by
      obtain ⟨p, rfl⟩ := List.length_eq_one_iff.1 h1
      obtain ⟨a, b, c, d, e, rfl⟩ := len5 h2
      obtain ⟨f, g, h, rfl⟩ := len3 h3
      go_enter Try.func47, Try.ntmps47
      go_wp
      refine hcc.mono ?_
      rintro e w1 ⟨rfl, hR⟩
      dsimp only
      go_wp
      go_ret
      exact ⟨rfl, hR⟩)
  exact this
end Go.Eng
namespace Go.Eng
open Go Go.Proofs Geo Go.RowKit
set_option linter.unusedSimpArgs false
set_option linter.unusedVariables false
set_option maxRecDepth 20000
set_option maxHeartbeats 1000000

/-! what takes an edit back. WRITES -/
def ftZ : Ft := ⟨0, 0, 0, ⟨#[]⟩, [], true⟩
def unI (e : Ei) : Int := if e.f0 = 1 then e.f1.f0 else e.f2
def unE (l : List Ft) (e : Ei) : Ei := if apB l e = true then (if e.f0 = 3 then ⟨3, ftZ, e.f2, wr .i64 (-e.f3), wr .i64 (-e.f4)⟩ else if wFind l (unI e) < 0 then ⟨2, ftZ, unI e, 0, 0⟩ else ⟨1, (l.getD (wFind l (unI e)).toNat ftD).fr, 0, 0, 0⟩) else eiD
theorem apB_kind {l : List Ft} {e : Ei} (h : apB l e = true) : e.f0 = 1 ∨ (e.f0 = 2 ∧ 0 ≤ wFind l e.f2) ∨ e.f0 = 3 := by
  unfold apB at h
  split at h
  · rename_i h1; exact .inl h1
  · split at h
    · rename_i h1
      simp at h
      exact .inr (.inl ⟨h1, h.2⟩)
    · split at h
      · rename_i h1; exact .inr (.inr h1)
      · cases h
theorem f49 (l : List Ft) (e : Ei) (nl : Bool) (hl : l.length ≤ 1048576) (hb : ∀ x ∈ l, x.okay) (he : e.f1.okay) (hp : ∀ x ∈ l, x.f4.length ≤ 1000000000) (hpe : e.f1.f4.length ≤ 1000000000) :
    Fn Try.prog 49 true [.lst 5 nl (l.map ft), .agg (ei e)] (.tup [.agg (ei (unE l e)), .bool (apB l e)]) := by
  have c1 := f42 l e nl hl hb he hp hpe
  have cF := f111 l nl (unI e) (by omega)
  have hwb := wFind_bound l (unI e)
  have hk := fun h => apB_kind (l := l) (e := e) h
  have hee : ei e = [i e.f0, i e.f1.f0, i e.f1.f1, i e.f1.f2, .str e.f1.f3, .lst 2 e.f1.nl (e.f1.f4.map cp), i e.f2, i e.f3, i e.f4] := rfl
  unfold unE
  rw [hee] at c1 ⊢
  obtain ⟨R, hR⟩ : ∃ R, (apL l e).map ft = R := ⟨_, rfl⟩
  rw [hR] at c1
  clear hR
  obtain ⟨b, hbe⟩ : ∃ b, apB l e = b := ⟨_, rfl⟩
  rw [hbe] at c1 hk ⊢
  cases b with
  | false =>
    clear cF hk
    simp only [Bool.false_eq_true, if_false]
    refine Fn.by_sx hX (by kernel_rfl) c49 (by kernel_rfl) (by rfl) ?_
    simp [i49, sxa, isPtrN, PV.pcs, elAt, setEl, inAt, elIn, setIn, isLst, cellsOf, Ex.ok, Ex.val, Opd.val, POp.dst, bin_int, binOK_int, bin_str, binOK_str, resOK, resV, RB.val, sub, putc, scB, scL, oneB, conf, Ex.val.eqP, Ex.val.eqL, negV, mxV, mnV, ← wr_eq, wr_zero, wr_one, wr_m1, bst_lst, byteC, partsOK, putAll, appV, nilV, slV, sslV, optB, optNum, and_assoc, exists_and_left, exists_eq_left']
    repeat' (first | intro _ | (simp [sxa, isPtrN, PV.pcs, elAt, setEl, inAt, elIn, setIn, isLst, cellsOf, Ex.ok, Ex.val, Opd.val, POp.dst, bin_int, binOK_int, bin_str, binOK_str, resOK, resV, RB.val, sub, putc, scB, scL, oneB, conf, Ex.val.eqP, Ex.val.eqL, negV, mxV, mnV, ← wr_eq, wr_zero, wr_one, wr_m1, bst_lst, byteC, partsOK, putAll, appV, nilV, slV, sslV, optB, optNum, and_assoc, exists_and_left, exists_eq_left', ei, eiD, *]) | refine CallS_i (c1) ?_ | refine CallM_i (c1) ?_ | refine CallE_i (c1) ?_ | refine CallX_i (c1) ?_ | refine CallB_i (c1) ?_ | refine CondS_d (fun h => ?_) (fun h => ?_) | refine CondS_b (fun h => ?_) (fun h => ?_) | refine GrdS_d (fun h => ?_) (fun h => ?_) | refine GrdS_b (fun h => ?_) (fun h => ?_) | refine OkS_i (by omega) ?_ | fail)
  | true =>
    replace hk := hk rfl
    simp only [if_true]
    by_cases h3 : e.f0 = 3
    · rw [if_pos h3]
      have hn1 : ¬ e.f0 = 1 := by omega
      rw [h3] at c1 ⊢
      clear cF hk
      refine Fn.by_sx hX (by kernel_rfl) c49 (by kernel_rfl) (by rfl) ?_
      simp [i49, sxa, isPtrN, PV.pcs, elAt, setEl, inAt, elIn, setIn, isLst, cellsOf, Ex.ok, Ex.val, Opd.val, POp.dst, bin_int, binOK_int, bin_str, binOK_str, resOK, resV, RB.val, sub, putc, scB, scL, oneB, conf, Ex.val.eqP, Ex.val.eqL, negV, mxV, mnV, ← wr_eq, wr_zero, wr_one, wr_m1, bst_lst, byteC, partsOK, putAll, appV, nilV, slV, sslV, optB, optNum, and_assoc, exists_and_left, exists_eq_left']
      repeat' (first | intro _ | (simp [sxa, isPtrN, PV.pcs, elAt, setEl, inAt, elIn, setIn, isLst, cellsOf, Ex.ok, Ex.val, Opd.val, POp.dst, bin_int, binOK_int, bin_str, binOK_str, resOK, resV, RB.val, sub, putc, scB, scL, oneB, conf, Ex.val.eqP, Ex.val.eqL, negV, mxV, mnV, ← wr_eq, wr_zero, wr_one, wr_m1, bst_lst, byteC, partsOK, putAll, appV, nilV, slV, sslV, optB, optNum, and_assoc, exists_and_left, exists_eq_left', ei, ftZ, *]) | refine CallS_i (c1) ?_ | refine CallM_i (c1) ?_ | refine CallE_i (c1) ?_ | refine CallX_i (c1) ?_ | refine CallB_i (c1) ?_ | refine CondS_d (fun h => ?_) (fun h => ?_) | refine CondS_b (fun h => ?_) (fun h => ?_) | refine GrdS_d (fun h => ?_) (fun h => ?_) | refine GrdS_b (fun h => ?_) (fun h => ?_) | refine OkS_i (by omega) ?_ | fail)
    rw [if_neg h3]
    obtain ⟨w, hw⟩ : ∃ w, wFind l (unI e) = w := ⟨_, rfl⟩
    rw [hw] at cF hwb ⊢
    by_cases hneg : w < 0
    · rw [if_pos hneg]
      by_cases h1 : e.f0 = 1
      · have hu : unI e = e.f1.f0 := if_pos h1
        rw [hu] at cF ⊢
        try rw [h1] at c1 ⊢
        clear hk hw hu
        refine Fn.by_sx hX (by kernel_rfl) c49 (by kernel_rfl) (by rfl) ?_
        simp [i49, sxa, isPtrN, PV.pcs, elAt, setEl, inAt, elIn, setIn, isLst, cellsOf, Ex.ok, Ex.val, Opd.val, POp.dst, bin_int, binOK_int, bin_str, binOK_str, resOK, resV, RB.val, sub, putc, scB, scL, oneB, conf, Ex.val.eqP, Ex.val.eqL, negV, mxV, mnV, ← wr_eq, wr_zero, wr_one, wr_m1, bst_lst, byteC, partsOK, putAll, appV, nilV, slV, sslV, optB, optNum, and_assoc, exists_and_left, exists_eq_left']
        repeat' (first | intro _ | (simp [sxa, isPtrN, PV.pcs, elAt, setEl, inAt, elIn, setIn, isLst, cellsOf, Ex.ok, Ex.val, Opd.val, POp.dst, bin_int, binOK_int, bin_str, binOK_str, resOK, resV, RB.val, sub, putc, scB, scL, oneB, conf, Ex.val.eqP, Ex.val.eqL, negV, mxV, mnV, ← wr_eq, wr_zero, wr_one, wr_m1, bst_lst, byteC, partsOK, putAll, appV, nilV, slV, sslV, optB, optNum, and_assoc, exists_and_left, exists_eq_left', ei, ftZ, *]) | refine CallS_i (c1) ?_ | refine CallS_i (cF) ?_ | refine CallM_i (c1) ?_ | refine CallM_i (cF) ?_ | refine CallE_i (c1) ?_ | refine CallE_i (cF) ?_ | refine CallX_i (c1) ?_ | refine CallX_i (cF) ?_ | refine CallB_i (c1) ?_ | refine CallB_i (cF) ?_ | refine CondS_d (fun h => ?_) (fun h => ?_) | refine CondS_b (fun h => ?_) (fun h => ?_) | refine GrdS_d (fun h => ?_) (fun h => ?_) | refine GrdS_b (fun h => ?_) (fun h => ?_) | refine OkS_i (by omega) ?_ | fail)
      · have hu : unI e = e.f2 := if_neg h1
        rw [hu] at cF ⊢
        try rw [h1] at c1 ⊢
        clear hk hw hu
        refine Fn.by_sx hX (by kernel_rfl) c49 (by kernel_rfl) (by rfl) ?_
        simp [i49, sxa, isPtrN, PV.pcs, elAt, setEl, inAt, elIn, setIn, isLst, cellsOf, Ex.ok, Ex.val, Opd.val, POp.dst, bin_int, binOK_int, bin_str, binOK_str, resOK, resV, RB.val, sub, putc, scB, scL, oneB, conf, Ex.val.eqP, Ex.val.eqL, negV, mxV, mnV, ← wr_eq, wr_zero, wr_one, wr_m1, bst_lst, byteC, partsOK, putAll, appV, nilV, slV, sslV, optB, optNum, and_assoc, exists_and_left, exists_eq_left']
        repeat' (first | intro _ | (simp [sxa, isPtrN, PV.pcs, elAt, setEl, inAt, elIn, setIn, isLst, cellsOf, Ex.ok, Ex.val, Opd.val, POp.dst, bin_int, binOK_int, bin_str, binOK_str, resOK, resV, RB.val, sub, putc, scB, scL, oneB, conf, Ex.val.eqP, Ex.val.eqL, negV, mxV, mnV, ← wr_eq, wr_zero, wr_one, wr_m1, bst_lst, byteC, partsOK, putAll, appV, nilV, slV, sslV, optB, optNum, and_assoc, exists_and_left, exists_eq_left', ei, ftZ, *]) | refine CallS_i (c1) ?_ | refine CallS_i (cF) ?_ | refine CallM_i (c1) ?_ | refine CallM_i (cF) ?_ | refine CallE_i (c1) ?_ | refine CallE_i (cF) ?_ | refine CallX_i (c1) ?_ | refine CallX_i (cF) ?_ | refine CallB_i (c1) ?_ | refine CallB_i (cF) ?_ | refine CondS_d (fun h => ?_) (fun h => ?_) | refine CondS_b (fun h => ?_) (fun h => ?_) | refine GrdS_d (fun h => ?_) (fun h => ?_) | refine GrdS_b (fun h => ?_) (fun h => ?_) | refine OkS_i (by omega) ?_ | fail)
    · rw [if_neg hneg]
      obtain ⟨k, rfl⟩ : ∃ k : Nat, w = k := ⟨w.toNat, by omega⟩
      have hkl : k < l.length := by omega
      have hd : l.getD k ftD = l[k] := by simp [hkl]
      have c9 := f112 l[k] (hp _ (List.getElem_mem hkl))
      simp only [Int.toNat_natCast, hd]
      have hlk : ft l[k] = ft l[k] := rfl
      obtain ⟨x, hx⟩ : ∃ x, l[k] = x := ⟨_, rfl⟩
      rw [hx] at c9 ⊢
      conv at hlk => rhs; rw [hx]
      have hxx : ft x = [i x.f0, i x.f1, i x.f2, .str x.f3, .lst 2 x.nl (x.f4.map cp)] := rfl
      have hxr : ft x.fr = [i x.f0, i x.f1, i x.f2, .str x.f3, .lst 2 false (x.f4.map cp)] := rfl
      rw [hxx, hxr] at c9
      conv at hlk => rhs; rw [hxx]
      by_cases h1 : e.f0 = 1
      · have hu : unI e = e.f1.f0 := if_pos h1
        rw [hu] at cF
        try rw [h1] at c1 ⊢
        try rw [h2] at c1 ⊢
        clear hk hw hu hx hd hb hp hxx hxr
        refine Fn.by_sx hX (by kernel_rfl) c49 (by kernel_rfl) (by rfl) ?_
        simp [i49, sxa, isPtrN, PV.pcs, elAt, setEl, inAt, elIn, setIn, isLst, cellsOf, Ex.ok, Ex.val, Opd.val, POp.dst, bin_int, binOK_int, bin_str, binOK_str, resOK, resV, RB.val, sub, putc, scB, scL, oneB, conf, Ex.val.eqP, Ex.val.eqL, negV, mxV, mnV, ← wr_eq, wr_zero, wr_one, wr_m1, bst_lst, byteC, partsOK, putAll, appV, nilV, slV, sslV, optB, optNum, and_assoc, exists_and_left, exists_eq_left']
        repeat' (first | intro _ | (simp [sxa, isPtrN, PV.pcs, elAt, setEl, inAt, elIn, setIn, isLst, cellsOf, Ex.ok, Ex.val, Opd.val, POp.dst, bin_int, binOK_int, bin_str, binOK_str, resOK, resV, RB.val, sub, putc, scB, scL, oneB, conf, Ex.val.eqP, Ex.val.eqL, negV, mxV, mnV, ← wr_eq, wr_zero, wr_one, wr_m1, bst_lst, byteC, partsOK, putAll, appV, nilV, slV, sslV, optB, optNum, and_assoc, exists_and_left, exists_eq_left', ei, Ft.fr, hlk, *]) | refine CallS_i (c1) ?_ | refine CallS_i (cF) ?_ | refine CallS_i (c9) ?_ | refine CallM_i (c1) ?_ | refine CallM_i (cF) ?_ | refine CallM_i (c9) ?_ | refine CallE_i (c1) ?_ | refine CallE_i (cF) ?_ | refine CallE_i (c9) ?_ | refine CallX_i (c1) ?_ | refine CallX_i (cF) ?_ | refine CallX_i (c9) ?_ | refine CallB_i (c1) ?_ | refine CallB_i (cF) ?_ | refine CallB_i (c9) ?_ | refine CondS_d (fun h => ?_) (fun h => ?_) | refine CondS_b (fun h => ?_) (fun h => ?_) | refine GrdS_d (fun h => ?_) (fun h => ?_) | refine GrdS_b (fun h => ?_) (fun h => ?_) | refine OkS_i (by omega) ?_ | fail)
      · have hu : unI e = e.f2 := if_neg h1
        rw [hu] at cF
        try rw [h1] at c1 ⊢
        try rw [h2] at c1 ⊢
        clear hk hw hu hx hd hb hp hxx hxr
        refine Fn.by_sx hX (by kernel_rfl) c49 (by kernel_rfl) (by rfl) ?_
        simp [i49, sxa, isPtrN, PV.pcs, elAt, setEl, inAt, elIn, setIn, isLst, cellsOf, Ex.ok, Ex.val, Opd.val, POp.dst, bin_int, binOK_int, bin_str, binOK_str, resOK, resV, RB.val, sub, putc, scB, scL, oneB, conf, Ex.val.eqP, Ex.val.eqL, negV, mxV, mnV, ← wr_eq, wr_zero, wr_one, wr_m1, bst_lst, byteC, partsOK, putAll, appV, nilV, slV, sslV, optB, optNum, and_assoc, exists_and_left, exists_eq_left']
        repeat' (first | intro _ | (simp [sxa, isPtrN, PV.pcs, elAt, setEl, inAt, elIn, setIn, isLst, cellsOf, Ex.ok, Ex.val, Opd.val, POp.dst, bin_int, binOK_int, bin_str, binOK_str, resOK, resV, RB.val, sub, putc, scB, scL, oneB, conf, Ex.val.eqP, Ex.val.eqL, negV, mxV, mnV, ← wr_eq, wr_zero, wr_one, wr_m1, bst_lst, byteC, partsOK, putAll, appV, nilV, slV, sslV, optB, optNum, and_assoc, exists_and_left, exists_eq_left', ei, Ft.fr, hlk, *]) | refine CallS_i (c1) ?_ | refine CallS_i (cF) ?_ | refine CallS_i (c9) ?_ | refine CallM_i (c1) ?_ | refine CallM_i (cF) ?_ | refine CallM_i (c9) ?_ | refine CallE_i (c1) ?_ | refine CallE_i (cF) ?_ | refine CallE_i (c9) ?_ | refine CallX_i (c1) ?_ | refine CallX_i (cF) ?_ | refine CallX_i (c9) ?_ | refine CallB_i (c1) ?_ | refine CallB_i (cF) ?_ | refine CallB_i (c9) ?_ | refine CondS_d (fun h => ?_) (fun h => ?_) | refine CondS_b (fun h => ?_) (fun h => ?_) | refine GrdS_d (fun h => ?_) (fun h => ?_) | refine GrdS_b (fun h => ?_) (fun h => ?_) | refine OkS_i (by omega) ?_ | fail)
theorem f50 (l : List Ft) (e : Ei) (nl : Bool) (hl : l.length ≤ 1048576) (hb : ∀ x ∈ l, x.okay) (he : e.f1.okay) (hp : ∀ x ∈ l, x.f4.length ≤ 1000000000) (hpe : e.f1.f4.length ≤ 1000000000)
    (hn : ∀ x ∈ l, x.nl = false) (hne : e.f1.nl = false) :
    Fn Try.prog 50 true [.lst 5 nl (l.map ft), .agg (ei e)] (.tup [.agg (ei (unE l e)), .bool (apB l e)]) := by
  have c1 := f44 l e nl hl hb he hp hpe hn hne
  have cF := f113 l nl (unI e) (by omega)
  have hwb := wFind_bound l (unI e)
  have hk := fun h => apB_kind (l := l) (e := e) h
  have hee : ei e = [i e.f0, i e.f1.f0, i e.f1.f1, i e.f1.f2, .str e.f1.f3, .lst 2 e.f1.nl (e.f1.f4.map cp), i e.f2, i e.f3, i e.f4] := rfl
  unfold unE
  rw [hee] at c1 ⊢
  obtain ⟨R, hR⟩ : ∃ R, (apL l e).map ft = R := ⟨_, rfl⟩
  rw [hR] at c1
  rw [hne] at c1
  clear hR
  obtain ⟨b, hbe⟩ : ∃ b, apB l e = b := ⟨_, rfl⟩
  rw [hbe] at c1 hk ⊢
  cases b with
  | false =>
    clear cF hk
    simp only [Bool.false_eq_true, if_false]
    refine Fn.by_sx hX (by kernel_rfl) c50 (by kernel_rfl) (by rfl) ?_
    simp [i50, sxa, isPtrN, PV.pcs, elAt, setEl, inAt, elIn, setIn, isLst, cellsOf, Ex.ok, Ex.val, Opd.val, POp.dst, bin_int, binOK_int, bin_str, binOK_str, resOK, resV, RB.val, sub, putc, scB, scL, oneB, conf, Ex.val.eqP, Ex.val.eqL, negV, mxV, mnV, ← wr_eq, wr_zero, wr_one, wr_m1, bst_lst, byteC, partsOK, putAll, appV, nilV, slV, sslV, optB, optNum, and_assoc, exists_and_left, exists_eq_left']
    repeat' (first | intro _ | (simp [sxa, isPtrN, PV.pcs, elAt, setEl, inAt, elIn, setIn, isLst, cellsOf, Ex.ok, Ex.val, Opd.val, POp.dst, bin_int, binOK_int, bin_str, binOK_str, resOK, resV, RB.val, sub, putc, scB, scL, oneB, conf, Ex.val.eqP, Ex.val.eqL, negV, mxV, mnV, ← wr_eq, wr_zero, wr_one, wr_m1, bst_lst, byteC, partsOK, putAll, appV, nilV, slV, sslV, optB, optNum, and_assoc, exists_and_left, exists_eq_left', ei, eiD, *]) | refine CallS_i (c1) ?_ | refine CallM_i (c1) ?_ | refine CallE_i (c1) ?_ | refine CallX_i (c1) ?_ | refine CallB_i (c1) ?_ | refine CondS_d (fun h => ?_) (fun h => ?_) | refine CondS_b (fun h => ?_) (fun h => ?_) | refine GrdS_d (fun h => ?_) (fun h => ?_) | refine GrdS_b (fun h => ?_) (fun h => ?_) | refine OkS_i (by omega) ?_ | fail)
  | true =>
    replace hk := hk rfl
    simp only [if_true]
    by_cases h3 : e.f0 = 3
    · rw [if_pos h3]
      have hn1 : ¬ e.f0 = 1 := by omega
      have hn2 : ¬ e.f0 = 2 := by omega
      rw [h3] at c1 ⊢
      clear cF hk
      refine Fn.by_sx hX (by kernel_rfl) c50 (by kernel_rfl) (by rfl) ?_
      simp [i50, sxa, isPtrN, PV.pcs, elAt, setEl, inAt, elIn, setIn, isLst, cellsOf, Ex.ok, Ex.val, Opd.val, POp.dst, bin_int, binOK_int, bin_str, binOK_str, resOK, resV, RB.val, sub, putc, scB, scL, oneB, conf, Ex.val.eqP, Ex.val.eqL, negV, mxV, mnV, ← wr_eq, wr_zero, wr_one, wr_m1, bst_lst, byteC, partsOK, putAll, appV, nilV, slV, sslV, optB, optNum, and_assoc, exists_and_left, exists_eq_left']
      repeat' (first | intro _ | (simp [sxa, isPtrN, PV.pcs, elAt, setEl, inAt, elIn, setIn, isLst, cellsOf, Ex.ok, Ex.val, Opd.val, POp.dst, bin_int, binOK_int, bin_str, binOK_str, resOK, resV, RB.val, sub, putc, scB, scL, oneB, conf, Ex.val.eqP, Ex.val.eqL, negV, mxV, mnV, ← wr_eq, wr_zero, wr_one, wr_m1, bst_lst, byteC, partsOK, putAll, appV, nilV, slV, sslV, optB, optNum, and_assoc, exists_and_left, exists_eq_left', ei, ftZ, *]) | refine CallS_i (c1) ?_ | refine CallM_i (c1) ?_ | refine CallE_i (c1) ?_ | refine CallX_i (c1) ?_ | refine CallB_i (c1) ?_ | refine CondS_d (fun h => ?_) (fun h => ?_) | refine CondS_b (fun h => ?_) (fun h => ?_) | refine GrdS_d (fun h => ?_) (fun h => ?_) | refine GrdS_b (fun h => ?_) (fun h => ?_) | refine OkS_i (by omega) ?_ | fail)
    rw [if_neg h3]
    obtain ⟨w, hw⟩ : ∃ w, wFind l (unI e) = w := ⟨_, rfl⟩
    rw [hw] at cF hwb ⊢
    by_cases hneg : w < 0
    · rw [if_pos hneg]
      have h1 : e.f0 = 1 := by
        rcases hk with h | h | h
        · exact h
        · exfalso
          have : unI e = e.f2 := if_neg (by omega)
          rw [this] at hw
          omega
        · exact absurd h h3
      have hu : unI e = e.f1.f0 := if_pos h1
      rw [hu] at cF ⊢
      rw [h1] at c1 ⊢
      clear hk hw hu
      refine Fn.by_sx hX (by kernel_rfl) c50 (by kernel_rfl) (by rfl) ?_
      simp [i50, sxa, isPtrN, PV.pcs, elAt, setEl, inAt, elIn, setIn, isLst, cellsOf, Ex.ok, Ex.val, Opd.val, POp.dst, bin_int, binOK_int, bin_str, binOK_str, resOK, resV, RB.val, sub, putc, scB, scL, oneB, conf, Ex.val.eqP, Ex.val.eqL, negV, mxV, mnV, ← wr_eq, wr_zero, wr_one, wr_m1, bst_lst, byteC, partsOK, putAll, appV, nilV, slV, sslV, optB, optNum, and_assoc, exists_and_left, exists_eq_left']
      repeat' (first | intro _ | (simp [sxa, isPtrN, PV.pcs, elAt, setEl, inAt, elIn, setIn, isLst, cellsOf, Ex.ok, Ex.val, Opd.val, POp.dst, bin_int, binOK_int, bin_str, binOK_str, resOK, resV, RB.val, sub, putc, scB, scL, oneB, conf, Ex.val.eqP, Ex.val.eqL, negV, mxV, mnV, ← wr_eq, wr_zero, wr_one, wr_m1, bst_lst, byteC, partsOK, putAll, appV, nilV, slV, sslV, optB, optNum, and_assoc, exists_and_left, exists_eq_left', ei, ftZ, *]) | refine CallS_i (c1) ?_ | refine CallS_i (cF) ?_ | refine CallM_i (c1) ?_ | refine CallM_i (cF) ?_ | refine CallE_i (c1) ?_ | refine CallE_i (cF) ?_ | refine CallX_i (c1) ?_ | refine CallX_i (cF) ?_ | refine CallB_i (c1) ?_ | refine CallB_i (cF) ?_ | refine CondS_d (fun h => ?_) (fun h => ?_) | refine CondS_b (fun h => ?_) (fun h => ?_) | refine GrdS_d (fun h => ?_) (fun h => ?_) | refine GrdS_b (fun h => ?_) (fun h => ?_) | refine OkS_i (by omega) ?_ | fail)
    · rw [if_neg hneg]
      obtain ⟨k, rfl⟩ : ∃ k : Nat, w = k := ⟨w.toNat, by omega⟩
      have hkl : k < l.length := by omega
      have hd : l.getD k ftD = l[k] := by simp [hkl]
      have c9 := f90 l[k] (hn _ (List.getElem_mem hkl)) (hp _ (List.getElem_mem hkl))
      simp only [Int.toNat_natCast, hd]
      have hlk : ft l[k] = ft l[k] := rfl
      have hxn := hn _ (List.getElem_mem hkl)
      obtain ⟨x, hx⟩ : ∃ x, l[k] = x := ⟨_, rfl⟩
      rw [hx] at c9 hxn ⊢
      conv at hlk => rhs; rw [hx]
      have hxx : ft x = [i x.f0, i x.f1, i x.f2, .str x.f3, .lst 2 x.nl (x.f4.map cp)] := rfl
      have hxr : ft x.fr = [i x.f0, i x.f1, i x.f2, .str x.f3, .lst 2 false (x.f4.map cp)] := rfl
      rw [hxx, hxr] at c9
      conv at hlk => rhs; rw [hxx]
      rw [hxn] at c9 hlk
      by_cases h1 : e.f0 = 1
      · have hu : unI e = e.f1.f0 := if_pos h1
        rw [hu] at cF
        try rw [h1] at c1 ⊢
        try rw [h2] at c1 ⊢
        clear hk hw hu hx hd hb hp hn hxx hxr
        refine Fn.by_sx hX (by kernel_rfl) c50 (by kernel_rfl) (by rfl) ?_
        simp [i50, sxa, isPtrN, PV.pcs, elAt, setEl, inAt, elIn, setIn, isLst, cellsOf, Ex.ok, Ex.val, Opd.val, POp.dst, bin_int, binOK_int, bin_str, binOK_str, resOK, resV, RB.val, sub, putc, scB, scL, oneB, conf, Ex.val.eqP, Ex.val.eqL, negV, mxV, mnV, ← wr_eq, wr_zero, wr_one, wr_m1, bst_lst, byteC, partsOK, putAll, appV, nilV, slV, sslV, optB, optNum, and_assoc, exists_and_left, exists_eq_left']
        repeat' (first | intro _ | (simp [sxa, isPtrN, PV.pcs, elAt, setEl, inAt, elIn, setIn, isLst, cellsOf, Ex.ok, Ex.val, Opd.val, POp.dst, bin_int, binOK_int, bin_str, binOK_str, resOK, resV, RB.val, sub, putc, scB, scL, oneB, conf, Ex.val.eqP, Ex.val.eqL, negV, mxV, mnV, ← wr_eq, wr_zero, wr_one, wr_m1, bst_lst, byteC, partsOK, putAll, appV, nilV, slV, sslV, optB, optNum, and_assoc, exists_and_left, exists_eq_left', ei, Ft.fr, hlk, *]) | refine CallS_i (c1) ?_ | refine CallS_i (cF) ?_ | refine CallS_i (c9) ?_ | refine CallM_i (c1) ?_ | refine CallM_i (cF) ?_ | refine CallM_i (c9) ?_ | refine CallE_i (c1) ?_ | refine CallE_i (cF) ?_ | refine CallE_i (c9) ?_ | refine CallX_i (c1) ?_ | refine CallX_i (cF) ?_ | refine CallX_i (c9) ?_ | refine CallB_i (c1) ?_ | refine CallB_i (cF) ?_ | refine CallB_i (c9) ?_ | refine CondS_d (fun h => ?_) (fun h => ?_) | refine CondS_b (fun h => ?_) (fun h => ?_) | refine GrdS_d (fun h => ?_) (fun h => ?_) | refine GrdS_b (fun h => ?_) (fun h => ?_) | refine OkS_i (by omega) ?_ | fail)
      · have hu : unI e = e.f2 := if_neg h1
        have h2 : e.f0 = 2 := by omega
        rw [hu] at cF
        try rw [h1] at c1 ⊢
        try rw [h2] at c1 ⊢
        clear hk hw hu hx hd hb hp hn hxx hxr
        refine Fn.by_sx hX (by kernel_rfl) c50 (by kernel_rfl) (by rfl) ?_
        simp [i50, sxa, isPtrN, PV.pcs, elAt, setEl, inAt, elIn, setIn, isLst, cellsOf, Ex.ok, Ex.val, Opd.val, POp.dst, bin_int, binOK_int, bin_str, binOK_str, resOK, resV, RB.val, sub, putc, scB, scL, oneB, conf, Ex.val.eqP, Ex.val.eqL, negV, mxV, mnV, ← wr_eq, wr_zero, wr_one, wr_m1, bst_lst, byteC, partsOK, putAll, appV, nilV, slV, sslV, optB, optNum, and_assoc, exists_and_left, exists_eq_left']
        repeat' (first | intro _ | (simp [sxa, isPtrN, PV.pcs, elAt, setEl, inAt, elIn, setIn, isLst, cellsOf, Ex.ok, Ex.val, Opd.val, POp.dst, bin_int, binOK_int, bin_str, binOK_str, resOK, resV, RB.val, sub, putc, scB, scL, oneB, conf, Ex.val.eqP, Ex.val.eqL, negV, mxV, mnV, ← wr_eq, wr_zero, wr_one, wr_m1, bst_lst, byteC, partsOK, putAll, appV, nilV, slV, sslV, optB, optNum, and_assoc, exists_and_left, exists_eq_left', ei, Ft.fr, hlk, *]) | refine CallS_i (c1) ?_ | refine CallS_i (cF) ?_ | refine CallS_i (c9) ?_ | refine CallM_i (c1) ?_ | refine CallM_i (cF) ?_ | refine CallM_i (c9) ?_ | refine CallE_i (c1) ?_ | refine CallE_i (cF) ?_ | refine CallE_i (c9) ?_ | refine CallX_i (c1) ?_ | refine CallX_i (cF) ?_ | refine CallX_i (c9) ?_ | refine CallB_i (c1) ?_ | refine CallB_i (cF) ?_ | refine CallB_i (c9) ?_ | refine CondS_d (fun h => ?_) (fun h => ?_) | refine CondS_b (fun h => ?_) (fun h => ?_) | refine GrdS_d (fun h => ?_) (fun h => ?_) | refine GrdS_b (fun h => ?_) (fun h => ?_) | refine OkS_i (by omega) ?_ | fail)
end Go.Eng
namespace Go.Eng
open Go Go.Proofs Geo Go.RowKit
set_option linter.unusedSimpArgs false
set_option linter.unusedVariables false
set_option maxRecDepth 20000
set_option maxHeartbeats 1000000

/-! the laws of an edit, and of what takes it back. WRITES -/
theorem apL_good (l : List Ft) (e : Ei) : apL l e = l.map Ft.fr ∨ (apL l e).length ≤ 16 := by
  unfold apL
  split
  · rename_i h
    exact .inr (apO_len h)
  · exact .inl rfl
theorem apL_k {l : List Ft} {e : Ei} (hl : ∀ x ∈ l, x.neat) (he : e.f1.neat) (hw : wtLF l ≤ 1048576) : kTo (apL l e) 1 (apL l e).length ≤ 1000000000 := by
  have h := apTo_k (l := l) (es := [e]) 1 (Nat.le_refl _) hw hl (by simpa using he)
  have hN : apL l e = l.map Ft.fr ∨ (apL l e).length ≤ 16 := apL_good l e
  rcases hN with h | h
  · rw [h]
    have h1 := kTo_le (l.map Ft.fr) (l.map Ft.fr).length (Nat.le_refl _) 1
    have h2 := wtLF_frF l
    unfold wtLF at h2 hw
    rw [List.length_map] at h1 h2 ⊢
    omega
  · have hn := apL_neat hl he
    have h1 := kTo_geF (B := 1048576) (fun x hx => (hn x hx).2.1) (apL l e).length (Nat.le_refl _) 1
    have : ((apL l e).length : Int) * (4 + 2 * ((1048576 : Nat) : Int)) ≤ 16 * (4 + 2 * ((1048576 : Nat) : Int)) := Int.mul_le_mul_of_nonneg_right (by omega) (by omega)
    omega
theorem f7 (l : List Ft) (n1 : Bool) (y : Ei) (hl : l.length ≤ 9223372036854775807) (hx : ∀ x ∈ l, x.fits) (hy : y.f1.fits) :
    Fn Try.prog 7 false [.lst 5 n1 (l.map ft), .agg (ei y)] (.bool true) := by
  have e0 := fun h0 h1 => f41 y (1048576 - wtLF l) h0 h1 hy
  have e2 := fun h => f43 y h
  have hyy : ei y = [i y.f0, i y.f1.f0, i y.f1.f1, i y.f1.f2, .str y.f1.f3, .lst 2 y.f1.nl (y.f1.f4.map cp), i y.f2, i y.f3, i y.f4] := rfl
  rw [hyy] at e0 e2 ⊢
  refine Fn.by_sx hX (by kernel_rfl) c7 (by kernel_rfl) (by rfl) ?_
  simp [i7, sxa, isPtrN, PV.pcs, elAt, setEl, inAt, elIn, setIn, isLst, cellsOf, Ex.ok, Ex.val, Opd.val, POp.dst, bin_int, binOK_int, bin_str, binOK_str, resOK, resV, RB.val, sub, putc, scB, scL, oneB, conf, Ex.val.eqP, Ex.val.eqL, negV, mxV, mnV, ← wr_eq, wr_zero, wr_one, wr_m1, bst_lst, byteC, partsOK, putAll, appV, nilV, slV, sslV, optB, optNum, and_assoc, exists_and_left, exists_eq_left']
  refine CallS_s (f14 l n1 1048576 (by omega) (by omega) hl hx) rfl ?_
  by_cases hbig : (1048576 : Int) - wtLF l < 0
  · have : szr 1048576 (wtLF l : Nat) = -1 := if_pos hbig
    rw [this]
    repeat' (first | intro _ | (simp [sxa, isPtrN, PV.pcs, elAt, setEl, inAt, elIn, setIn, isLst, cellsOf, Ex.ok, Ex.val, Opd.val, POp.dst, bin_int, binOK_int, bin_str, binOK_str, resOK, resV, RB.val, sub, putc, scB, scL, oneB, conf, Ex.val.eqP, Ex.val.eqL, negV, mxV, mnV, ← wr_eq, wr_zero, wr_one, wr_m1, bst_lst, byteC, partsOK, putAll, appV, nilV, slV, sslV, optB, optNum, and_assoc, exists_and_left, exists_eq_left', *]) | refine CondS_d (fun h => ?_) (fun h => ?_) | refine CondS_b (fun h => ?_) (fun h => ?_) | refine GrdS_d (fun h => ?_) (fun h => ?_) | refine GrdS_b (fun h => ?_) (fun h => ?_) | refine OkS_i (by omega) ?_ | fail)
  have hz : szr 1048576 (wtLF l : Nat) = 1048576 - wtLF l := if_neg hbig
  rw [hz]
  have hnn : ¬ (1048576 : Int) - wtLF l < 0 := by omega
  simp [sxa, isPtrN, PV.pcs, elAt, setEl, inAt, elIn, setIn, isLst, cellsOf, Ex.ok, Ex.val, Opd.val, POp.dst, bin_int, binOK_int, bin_str, binOK_str, resOK, resV, RB.val, sub, putc, scB, scL, oneB, conf, Ex.val.eqP, Ex.val.eqL, negV, mxV, mnV, ← wr_eq, wr_zero, wr_one, wr_m1, bst_lst, byteC, partsOK, putAll, appV, nilV, slV, sslV, optB, optNum, and_assoc, exists_and_left, exists_eq_left', hnn]
  refine CallS_s (e0 (by omega) (by omega)) rfl ?_
  by_cases hbig2 : (1048576 : Int) - wtLF l - wtF y.f1 < 0
  · have : szr (1048576 - wtLF l) (wtF y.f1 : Nat) = -1 := if_pos hbig2
    rw [this]
    repeat' (first | intro _ | (simp [sxa, isPtrN, PV.pcs, elAt, setEl, inAt, elIn, setIn, isLst, cellsOf, Ex.ok, Ex.val, Opd.val, POp.dst, bin_int, binOK_int, bin_str, binOK_str, resOK, resV, RB.val, sub, putc, scB, scL, oneB, conf, Ex.val.eqP, Ex.val.eqL, negV, mxV, mnV, ← wr_eq, wr_zero, wr_one, wr_m1, bst_lst, byteC, partsOK, putAll, appV, nilV, slV, sslV, optB, optNum, and_assoc, exists_and_left, exists_eq_left', *]) | refine CondS_d (fun h => ?_) (fun h => ?_) | refine CondS_b (fun h => ?_) (fun h => ?_) | refine GrdS_d (fun h => ?_) (fun h => ?_) | refine GrdS_b (fun h => ?_) (fun h => ?_) | refine OkS_i (by omega) ?_ | fail)
  have hz2 : szr (1048576 - wtLF l) (wtF y.f1 : Nat) = 1048576 - wtLF l - wtF y.f1 := if_neg hbig2
  rw [hz2]
  have hnn2 : ¬ (1048576 : Int) - wtLF l - wtF y.f1 < 0 := by omega
  have hL := wtLF_len l
  have hl' : l.length ≤ 1048576 := by omega
  have hwf : wtF y.f1 = y.f1.f3.size + y.f1.f4.length := rfl
  have hm : ∀ x ∈ l, x.f3.size ≤ 1048576 ∧ x.f4.length ≤ 1048576 := fun x hx => by have := wtLF_mem hx; omega
  have c1 := f16 l n1 hl' fun x h => (hm x h).2
  have c2 := e2 (by omega)
  have wr := wtLF_frF l
  obtain ⟨r, hr⟩ : ∃ r, l.map Ft.fr = r := ⟨_, rfl⟩
  have hrl : r.length ≤ 1048576 := by rw [← hr, List.length_map]; exact hl'
  have hrm : ∀ x ∈ r, x.neat := by
    intro x hx
    rw [← hr] at hx
    obtain ⟨y, hy, rfl⟩ := List.mem_map.1 hx
    exact ⟨(hm y hy).1, (hm y hy).2, rfl⟩
  rw [hr] at c1 wr
  obtain ⟨z, hz0⟩ : ∃ z, y.fr = z := ⟨_, rfl⟩
  have hzn : z.f1.neat := by rw [← hz0]; exact ⟨by show y.f1.f3.size ≤ _; omega, by show y.f1.f4.length ≤ _; omega, rfl⟩
  have hzz : ei z = [i z.f0, i z.f1.f0, i z.f1.f1, i z.f1.f2, .str z.f1.f3, .lst 2 false (z.f1.f4.map cp), i z.f2, i z.f3, i z.f4] := by unfold ei; rw [hzn.2.2]
  have hze : z.f1.nl = false := hzn.2.2
  rw [hz0, hzz] at c2
  have c3 := f42 r z false hrl (fun x hx => (hrm x hx).ok) hzn.ok (fun x hx => by have := (hrm x hx).2.1; omega) (by have := hzn.2.1; omega)
  have c4 := f44 r z false hrl (fun x hx => (hrm x hx).ok) hzn.ok (fun x hx => by have := (hrm x hx).2.1; omega) (by have := hzn.2.1; omega) (fun x hx => (hrm x hx).2.2) hze
  have c5 := f19 r false false (by omega) fun x h => by have := (hrm x h).2.1; omega
  have c6 := f45 z false false (by have := hzn.2.1; omega)
  have hzs : ei { z with f1 := { z.f1 with nl := false } } = [i z.f0, i z.f1.f0, i z.f1.f1, i z.f1.f2, .str z.f1.f3, .lst 2 false (z.f1.f4.map cp), i z.f2, i z.f3, i z.f4] := rfl
  rw [hzs] at c6
  rw [hzz] at c3 c4
  have hGm := apL_neat hrm hzn
  have hGk := apL_k hrm hzn (by omega)
  have hGl : (apL r z).length ≤ 1048592 := by
    rcases apL_good r z with h | h
    · rw [h, List.length_map]; omega
    · omega
  obtain ⟨G, hGe⟩ : ∃ G, apL r z = G := ⟨_, rfl⟩
  obtain ⟨bb, hbb⟩ : ∃ b, apB r z = b := ⟨_, rfl⟩
  rw [hGe, hbb] at c3 c4
  rw [hGe] at hGl hGm hGk
  have c7 := f19 G false false (by omega) fun x h => by have := (hGm x h).2.1; omega
  have nlo : ∀ {L : List Ft}, (∀ x ∈ L, x.neat) → ∀ x ∈ L, x.nlok := fun h x hx hh => by rw [(h x hx).2.2] at hh; (cases hh)
  have hk1 := kTo_mono (l := r) (k := 1) (n := 0) (m := r.length) (by omega)
  have hk1 : 1 ≤ kTo r 1 r.length := hk1
  have hk2 := kTo_mono (l := G) (k := 1) (n := 0) (m := G.length) (by omega)
  have hk2 : 1 ≤ kTo G 1 G.length := hk2
  have hrk := kTo_le r r.length (Nat.le_refl _) 1
  have d1 := f46 r false 1 (by simp) (nlo hrm) (by omega) (by omega) (by unfold wtLF at *; omega)
  obtain ⟨K, hK⟩ : ∃ K, kTo r 1 r.length = K := ⟨_, rfl⟩
  rw [hK] at d1 hk1 hrk
  have d2 := f47 z K (fun hh => by rw [hze] at hh; cases hh) (by omega) (by have := hzn.2.1; unfold wtLF at *; omega)
  have hmb : ei { z with f1 := mkB K z.f1 } = [i z.f0, i z.f1.f0, i z.f1.f1, i z.f1.f2, .str z.f1.f3, .lst 2 false ((upTo (mkPt K) z.f1.f4.length).map cp), i z.f2, i z.f3, i z.f4] := by unfold ei mkB; rw [hze]
  rw [hzz, hmb] at d2
  have d3 := f46 G false 1 (by simp) (nlo hGm) (by omega) (by omega) hGk
  have d4 := f48 G false 1 (by omega) (by omega) hGk
  obtain ⟨R, hR⟩ : ∃ R, (upTo (mkFtAt r 1) r.length).map ft = R := ⟨_, rfl⟩
  obtain ⟨K2, hK2e⟩ : ∃ K2 : Int, K + 2 * (z.f1.f4.length : Int) = K2 := ⟨_, rfl⟩
  obtain ⟨m, hme⟩ : ∃ m : Int, kTo G 1 G.length = m := ⟨_, rfl⟩
  obtain ⟨GG, hGG⟩ : ∃ GG, (upTo (mkFtAt G 1) G.length).map ft = GG := ⟨_, rfl⟩
  have hK0 : ¬ K2 < 0 := by omega
  rw [hR] at d1
  rw [hK2e] at d2
  rw [hme] at d3 d4 hk2
  rw [hGG] at d3 d4
  have hm0 : ¬ m < 0 := by omega
  clear hr hz hz2 hGe hbb hK hR hme hGG hGk hrk hK2e hGm hrm nlo wr hm hzn hz0 hzz hzs hmb e0 e2 hyy hwf hze
  repeat' (first | intro _ | (simp [sxa, isPtrN, PV.pcs, elAt, setEl, inAt, elIn, setIn, isLst, cellsOf, Ex.ok, Ex.val, Opd.val, POp.dst, bin_int, binOK_int, bin_str, binOK_str, resOK, resV, RB.val, sub, putc, scB, scL, oneB, conf, Ex.val.eqP, Ex.val.eqL, negV, mxV, mnV, ← wr_eq, wr_zero, wr_one, wr_m1, bst_lst, byteC, partsOK, putAll, appV, nilV, slV, sslV, optB, optNum, and_assoc, exists_and_left, exists_eq_left', *]) | refine CallS_i (c1) ?_ | refine CallS_i (c2) ?_ | refine CallS_i (c3) ?_ | refine CallS_i (c4) ?_ | refine CallS_i (c5) ?_ | refine CallS_i (c6) ?_ | refine CallS_i (c7) ?_ | refine CallS_i (d1) ?_ | refine CallS_i (d2) ?_ | refine CallS_i (d3) ?_ | refine CallS_i (d4) ?_ | refine CallM_i (c1) ?_ | refine CallM_i (c2) ?_ | refine CallM_i (c3) ?_ | refine CallM_i (c4) ?_ | refine CallM_i (c5) ?_ | refine CallM_i (c6) ?_ | refine CallM_i (c7) ?_ | refine CallM_i (d1) ?_ | refine CallM_i (d2) ?_ | refine CallM_i (d3) ?_ | refine CallM_i (d4) ?_ | refine CallE_i (c1) ?_ | refine CallE_i (c2) ?_ | refine CallE_i (c3) ?_ | refine CallE_i (c4) ?_ | refine CallE_i (c5) ?_ | refine CallE_i (c6) ?_ | refine CallE_i (c7) ?_ | refine CallE_i (d1) ?_ | refine CallE_i (d2) ?_ | refine CallE_i (d3) ?_ | refine CallE_i (d4) ?_ | refine CallX_i (c1) ?_ | refine CallX_i (c2) ?_ | refine CallX_i (c3) ?_ | refine CallX_i (c4) ?_ | refine CallX_i (c5) ?_ | refine CallX_i (c6) ?_ | refine CallX_i (c7) ?_ | refine CallX_i (d1) ?_ | refine CallX_i (d2) ?_ | refine CallX_i (d3) ?_ | refine CallX_i (d4) ?_ | refine CallB_i (c1) ?_ | refine CallB_i (c2) ?_ | refine CallB_i (c3) ?_ | refine CallB_i (c4) ?_ | refine CallB_i (c5) ?_ | refine CallB_i (c6) ?_ | refine CallB_i (c7) ?_ | refine CallB_i (d1) ?_ | refine CallB_i (d2) ?_ | refine CallB_i (d3) ?_ | refine CallB_i (d4) ?_ | refine CondS_d (fun h => ?_) (fun h => ?_) | refine CondS_b (fun h => ?_) (fun h => ?_) | refine GrdS_d (fun h => ?_) (fun h => ?_) | refine GrdS_b (fun h => ?_) (fun h => ?_) | refine OkS_i (by omega) ?_ | fail)
end Go.Eng
namespace Go.Eng
open Go Go.Proofs Geo Go.RowKit
set_option linter.unusedSimpArgs false
set_option linter.unusedVariables false
set_option maxRecDepth 20000
set_option maxHeartbeats 1000000

/-! the law of what takes an edit back. WRITES -/
theorem unE_small {l : List Ft} {e : Ei} (h : ∀ x ∈ l, x.f4.length ≤ 1048576) : (unE l e).f1.f4.length ≤ 1048576 ∧ (unE l e).f1.nlok := by
  unfold unE
  split
  · split
    · exact ⟨by simp [ftZ], fun _ => rfl⟩
    · split
      · exact ⟨by simp [ftZ], fun _ => rfl⟩
      · rename_i hw
        have hb := wFind_bound l (unI e)
        have hk : (wFind l (unI e)).toNat < l.length := by omega
        have : l.getD (wFind l (unI e)).toNat ftD = l[(wFind l (unI e)).toNat] := by simp [hk]
        rw [this]
        exact ⟨h l[(wFind l (unI e)).toNat] (List.getElem_mem hk), fun hh => by cases hh⟩
  · exact ⟨by simp [eiD], fun _ => rfl⟩
theorem f114 (x : Ft) (k : Int) (hk0 : 0 ≤ k) (hk : k + 2 * x.f4.length ≤ 1000000000000) :
    Fn Try.prog 114 false [.agg (ft (mkB k x)), i k] (i (k + 2 * x.f4.length)) := by
  have hc := f76 x.f4.length x.nl k hk0 hk
  unfold ft mkB
  have hn : ¬ k + 2 * (x.f4.length : Int) < 0 := by omega
  refine Fn.by_sx hX (by kernel_rfl) c114 (by kernel_rfl) (by rfl) ?_
  simp [i114, sxa, isPtrN, PV.pcs, elAt, setEl, inAt, elIn, setIn, isLst, cellsOf, Ex.ok, Ex.val, Opd.val, POp.dst, bin_int, binOK_int, bin_str, binOK_str, resOK, resV, RB.val, sub, putc, scB, scL, oneB, conf, Ex.val.eqP, Ex.val.eqL, negV, mxV, mnV, ← wr_eq, wr_zero, wr_one, wr_m1, bst_lst, byteC, partsOK, putAll, appV, nilV, slV, sslV, optB, optNum, and_assoc, exists_and_left, exists_eq_left']
  repeat' (first | intro _ | (simp [sxa, isPtrN, PV.pcs, elAt, setEl, inAt, elIn, setIn, isLst, cellsOf, Ex.ok, Ex.val, Opd.val, POp.dst, bin_int, binOK_int, bin_str, binOK_str, resOK, resV, RB.val, sub, putc, scB, scL, oneB, conf, Ex.val.eqP, Ex.val.eqL, negV, mxV, mnV, ← wr_eq, wr_zero, wr_one, wr_m1, bst_lst, byteC, partsOK, putAll, appV, nilV, slV, sslV, optB, optNum, and_assoc, exists_and_left, exists_eq_left', hn, *]) | refine CallS_i (hc) ?_ | refine CallM_i (hc) ?_ | refine CallE_i (hc) ?_ | refine CallX_i (hc) ?_ | refine CallB_i (hc) ?_ | refine CondS_d (fun h => ?_) (fun h => ?_) | refine CondS_b (fun h => ?_) (fun h => ?_) | refine GrdS_d (fun h => ?_) (fun h => ?_) | refine GrdS_b (fun h => ?_) (fun h => ?_) | refine OkS_i (by omega) ?_ | fail)
theorem f51 (x : Ei) (k : Int) (hk0 : 0 ≤ k) (hk : k + 2 * x.f1.f4.length ≤ 1000000000000) :
    Fn Try.prog 51 false [.agg (ei { x with f1 := mkB k x.f1 }), i k] (i (k + 2 * x.f1.f4.length)) := by
  have hc := f114 x.f1 k hk0 hk
  unfold ft mkB at hc
  unfold ei mkB
  have hn : ¬ k + 2 * (x.f1.f4.length : Int) < 0 := by omega
  refine Fn.by_sx hX (by kernel_rfl) c51 (by kernel_rfl) (by rfl) ?_
  simp [i51, sxa, isPtrN, PV.pcs, elAt, setEl, inAt, elIn, setIn, isLst, cellsOf, Ex.ok, Ex.val, Opd.val, POp.dst, bin_int, binOK_int, bin_str, binOK_str, resOK, resV, RB.val, sub, putc, scB, scL, oneB, conf, Ex.val.eqP, Ex.val.eqL, negV, mxV, mnV, ← wr_eq, wr_zero, wr_one, wr_m1, bst_lst, byteC, partsOK, putAll, appV, nilV, slV, sslV, optB, optNum, and_assoc, exists_and_left, exists_eq_left']
  repeat' (first | intro _ | (simp [sxa, isPtrN, PV.pcs, elAt, setEl, inAt, elIn, setIn, isLst, cellsOf, Ex.ok, Ex.val, Opd.val, POp.dst, bin_int, binOK_int, bin_str, binOK_str, resOK, resV, RB.val, sub, putc, scB, scL, oneB, conf, Ex.val.eqP, Ex.val.eqL, negV, mxV, mnV, ← wr_eq, wr_zero, wr_one, wr_m1, bst_lst, byteC, partsOK, putAll, appV, nilV, slV, sslV, optB, optNum, and_assoc, exists_and_left, exists_eq_left', hn, *]) | refine CallS_i (hc) ?_ | refine CallM_i (hc) ?_ | refine CallE_i (hc) ?_ | refine CallX_i (hc) ?_ | refine CallB_i (hc) ?_ | refine CondS_d (fun h => ?_) (fun h => ?_) | refine CondS_b (fun h => ?_) (fun h => ?_) | refine GrdS_d (fun h => ?_) (fun h => ?_) | refine GrdS_b (fun h => ?_) (fun h => ?_) | refine OkS_i (by omega) ?_ | fail)
theorem f8 (l : List Ft) (n1 : Bool) (y : Ei) (hl : l.length ≤ 9223372036854775807) (hx : ∀ x ∈ l, x.fits) (hy : y.f1.fits) :
    Fn Try.prog 8 false [.lst 5 n1 (l.map ft), .agg (ei y)] (.bool true) := by
  have e0 := fun h0 h1 => f41 y (1048576 - wtLF l) h0 h1 hy
  have e2 := fun h => f43 y h
  have hyy : ei y = [i y.f0, i y.f1.f0, i y.f1.f1, i y.f1.f2, .str y.f1.f3, .lst 2 y.f1.nl (y.f1.f4.map cp), i y.f2, i y.f3, i y.f4] := rfl
  rw [hyy] at e0 e2 ⊢
  refine Fn.by_sx hX (by kernel_rfl) c8 (by kernel_rfl) (by rfl) ?_
  simp [i8, sxa, isPtrN, PV.pcs, elAt, setEl, inAt, elIn, setIn, isLst, cellsOf, Ex.ok, Ex.val, Opd.val, POp.dst, bin_int, binOK_int, bin_str, binOK_str, resOK, resV, RB.val, sub, putc, scB, scL, oneB, conf, Ex.val.eqP, Ex.val.eqL, negV, mxV, mnV, ← wr_eq, wr_zero, wr_one, wr_m1, bst_lst, byteC, partsOK, putAll, appV, nilV, slV, sslV, optB, optNum, and_assoc, exists_and_left, exists_eq_left']
  refine CallS_s (f14 l n1 1048576 (by omega) (by omega) hl hx) rfl ?_
  by_cases hbig : (1048576 : Int) - wtLF l < 0
  · have : szr 1048576 (wtLF l : Nat) = -1 := if_pos hbig
    rw [this]
    repeat' (first | intro _ | (simp [sxa, isPtrN, PV.pcs, elAt, setEl, inAt, elIn, setIn, isLst, cellsOf, Ex.ok, Ex.val, Opd.val, POp.dst, bin_int, binOK_int, bin_str, binOK_str, resOK, resV, RB.val, sub, putc, scB, scL, oneB, conf, Ex.val.eqP, Ex.val.eqL, negV, mxV, mnV, ← wr_eq, wr_zero, wr_one, wr_m1, bst_lst, byteC, partsOK, putAll, appV, nilV, slV, sslV, optB, optNum, and_assoc, exists_and_left, exists_eq_left', *]) | refine CondS_d (fun h => ?_) (fun h => ?_) | refine CondS_b (fun h => ?_) (fun h => ?_) | refine GrdS_d (fun h => ?_) (fun h => ?_) | refine GrdS_b (fun h => ?_) (fun h => ?_) | refine OkS_i (by omega) ?_ | fail)
  have hz : szr 1048576 (wtLF l : Nat) = 1048576 - wtLF l := if_neg hbig
  rw [hz]
  have hnn : ¬ (1048576 : Int) - wtLF l < 0 := by omega
  simp [sxa, isPtrN, PV.pcs, elAt, setEl, inAt, elIn, setIn, isLst, cellsOf, Ex.ok, Ex.val, Opd.val, POp.dst, bin_int, binOK_int, bin_str, binOK_str, resOK, resV, RB.val, sub, putc, scB, scL, oneB, conf, Ex.val.eqP, Ex.val.eqL, negV, mxV, mnV, ← wr_eq, wr_zero, wr_one, wr_m1, bst_lst, byteC, partsOK, putAll, appV, nilV, slV, sslV, optB, optNum, and_assoc, exists_and_left, exists_eq_left', hnn]
  refine CallS_s (e0 (by omega) (by omega)) rfl ?_
  by_cases hbig2 : (1048576 : Int) - wtLF l - wtF y.f1 < 0
  · have : szr (1048576 - wtLF l) (wtF y.f1 : Nat) = -1 := if_pos hbig2
    rw [this]
    repeat' (first | intro _ | (simp [sxa, isPtrN, PV.pcs, elAt, setEl, inAt, elIn, setIn, isLst, cellsOf, Ex.ok, Ex.val, Opd.val, POp.dst, bin_int, binOK_int, bin_str, binOK_str, resOK, resV, RB.val, sub, putc, scB, scL, oneB, conf, Ex.val.eqP, Ex.val.eqL, negV, mxV, mnV, ← wr_eq, wr_zero, wr_one, wr_m1, bst_lst, byteC, partsOK, putAll, appV, nilV, slV, sslV, optB, optNum, and_assoc, exists_and_left, exists_eq_left', *]) | refine CondS_d (fun h => ?_) (fun h => ?_) | refine CondS_b (fun h => ?_) (fun h => ?_) | refine GrdS_d (fun h => ?_) (fun h => ?_) | refine GrdS_b (fun h => ?_) (fun h => ?_) | refine OkS_i (by omega) ?_ | fail)
  have hz2 : szr (1048576 - wtLF l) (wtF y.f1 : Nat) = 1048576 - wtLF l - wtF y.f1 := if_neg hbig2
  rw [hz2]
  have hnn2 : ¬ (1048576 : Int) - wtLF l - wtF y.f1 < 0 := by omega
  have hL := wtLF_len l
  have hl' : l.length ≤ 1048576 := by omega
  have hwf : wtF y.f1 = y.f1.f3.size + y.f1.f4.length := rfl
  have hm : ∀ x ∈ l, x.f3.size ≤ 1048576 ∧ x.f4.length ≤ 1048576 := fun x hx => by have := wtLF_mem hx; omega
  have c1 := f16 l n1 hl' fun x h => (hm x h).2
  have c2 := e2 (by omega)
  have wr := wtLF_frF l
  obtain ⟨r, hr⟩ : ∃ r, l.map Ft.fr = r := ⟨_, rfl⟩
  have hrl : r.length ≤ 1048576 := by rw [← hr, List.length_map]; exact hl'
  have hrm : ∀ x ∈ r, x.neat := by
    intro x hx
    rw [← hr] at hx
    obtain ⟨y, hy, rfl⟩ := List.mem_map.1 hx
    exact ⟨(hm y hy).1, (hm y hy).2, rfl⟩
  rw [hr] at c1 wr
  obtain ⟨z, hz0⟩ : ∃ z, y.fr = z := ⟨_, rfl⟩
  have hzn : z.f1.neat := by rw [← hz0]; exact ⟨by show y.f1.f3.size ≤ _; omega, by show y.f1.f4.length ≤ _; omega, rfl⟩
  have hzz : ei z = [i z.f0, i z.f1.f0, i z.f1.f1, i z.f1.f2, .str z.f1.f3, .lst 2 false (z.f1.f4.map cp), i z.f2, i z.f3, i z.f4] := by unfold ei; rw [hzn.2.2]
  have hze : z.f1.nl = false := hzn.2.2
  rw [hz0, hzz] at c2
  have c3 := f49 r z false hrl (fun x hx => (hrm x hx).ok) hzn.ok (fun x hx => by have := (hrm x hx).2.1; omega) (by have := hzn.2.1; omega)
  have c4 := f50 r z false hrl (fun x hx => (hrm x hx).ok) hzn.ok (fun x hx => by have := (hrm x hx).2.1; omega) (by have := hzn.2.1; omega) (fun x hx => (hrm x hx).2.2) hze
  have c5 := f19 r false false (by omega) fun x h => by have := (hrm x h).2.1; omega
  have c6 := f45 z false false (by have := hzn.2.1; omega)
  have hzs : ei { z with f1 := { z.f1 with nl := false } } = [i z.f0, i z.f1.f0, i z.f1.f1, i z.f1.f2, .str z.f1.f3, .lst 2 false (z.f1.f4.map cp), i z.f2, i z.f3, i z.f4] := rfl
  rw [hzs] at c6
  rw [hzz] at c3 c4
  have hG := unE_small (l := r) (e := z) (fun x hx => (hrm x hx).2.1)
  obtain ⟨G, hGe⟩ : ∃ G, unE r z = G := ⟨_, rfl⟩
  obtain ⟨bb, hbb⟩ : ∃ b, apB r z = b := ⟨_, rfl⟩
  rw [hGe, hbb] at c3 c4
  rw [hGe] at hG
  obtain ⟨hG1, hG2⟩ := hG
  have c7 := f45 G G.f1.nl G.f1.nl (by omega)
  have hGs : ({ G with f1 := { G.f1 with nl := G.f1.nl } } : Ei) = G := rfl
  rw [hGs] at c7
  have nlo : ∀ {L : List Ft}, (∀ x ∈ L, x.neat) → ∀ x ∈ L, x.nlok := fun h x hx hh => by rw [(h x hx).2.2] at hh; (cases hh)
  have hk1 := kTo_mono (l := r) (k := 1) (n := 0) (m := r.length) (by omega)
  have hk1 : 1 ≤ kTo r 1 r.length := hk1
  have hrk := kTo_le r r.length (Nat.le_refl _) 1
  have d1 := f46 r false 1 (by simp) (nlo hrm) (by omega) (by omega) (by unfold wtLF at *; omega)
  obtain ⟨K, hK⟩ : ∃ K, kTo r 1 r.length = K := ⟨_, rfl⟩
  rw [hK] at d1 hk1 hrk
  have d2 := f47 z K (fun hh => by rw [hze] at hh; cases hh) (by omega) (by have := hzn.2.1; unfold wtLF at *; omega)
  have hmb : ei { z with f1 := mkB K z.f1 } = [i z.f0, i z.f1.f0, i z.f1.f1, i z.f1.f2, .str z.f1.f3, .lst 2 false ((upTo (mkPt K) z.f1.f4.length).map cp), i z.f2, i z.f3, i z.f4] := by unfold ei mkB; rw [hze]
  rw [hzz, hmb] at d2
  have d3 := f47 G 1 hG2 (by omega) (by omega)
  have d4 := f51 G 1 (by omega) (by omega)
  obtain ⟨R, hR⟩ : ∃ R, (upTo (mkFtAt r 1) r.length).map ft = R := ⟨_, rfl⟩
  obtain ⟨K2, hK2e⟩ : ∃ K2 : Int, K + 2 * (z.f1.f4.length : Int) = K2 := ⟨_, rfl⟩
  obtain ⟨m, hme⟩ : ∃ m : Int, 1 + 2 * (G.f1.f4.length : Int) = m := ⟨_, rfl⟩
  have hG9 : ei G = [i G.f0, i G.f1.f0, i G.f1.f1, i G.f1.f2, .str G.f1.f3, .lst 2 G.f1.nl (G.f1.f4.map cp), i G.f2, i G.f3, i G.f4] := rfl
  have hGG : ei { G with f1 := mkB 1 G.f1 } = [i G.f0, i G.f1.f0, i G.f1.f1, i G.f1.f2, .str G.f1.f3, .lst 2 G.f1.nl ((upTo (mkPt 1) G.f1.f4.length).map cp), i G.f2, i G.f3, i G.f4] := rfl
  have hK0 : ¬ K2 < 0 := by omega
  rw [hR] at d1
  rw [hK2e] at d2
  rw [hme] at d3 d4
  rw [hGG] at d3 d4
  rw [hG9] at c3 c4 c7 d3
  have hm0 : ¬ m < 0 := by omega
  clear hr hz hz2 hGe hbb hK hR hme hGG hG9 hGs hrk hK2e hrm nlo wr hm hzn hz0 hzz hzs hmb e0 e2 hyy hwf hze
  repeat' (first | intro _ | (simp [sxa, isPtrN, PV.pcs, elAt, setEl, inAt, elIn, setIn, isLst, cellsOf, Ex.ok, Ex.val, Opd.val, POp.dst, bin_int, binOK_int, bin_str, binOK_str, resOK, resV, RB.val, sub, putc, scB, scL, oneB, conf, Ex.val.eqP, Ex.val.eqL, negV, mxV, mnV, ← wr_eq, wr_zero, wr_one, wr_m1, bst_lst, byteC, partsOK, putAll, appV, nilV, slV, sslV, optB, optNum, and_assoc, exists_and_left, exists_eq_left', *]) | refine CallS_i (c1) ?_ | refine CallS_i (c2) ?_ | refine CallS_i (c3) ?_ | refine CallS_i (c4) ?_ | refine CallS_i (c5) ?_ | refine CallS_i (c6) ?_ | refine CallS_i (c7) ?_ | refine CallS_i (d1) ?_ | refine CallS_i (d2) ?_ | refine CallS_i (d3) ?_ | refine CallS_i (d4) ?_ | refine CallM_i (c1) ?_ | refine CallM_i (c2) ?_ | refine CallM_i (c3) ?_ | refine CallM_i (c4) ?_ | refine CallM_i (c5) ?_ | refine CallM_i (c6) ?_ | refine CallM_i (c7) ?_ | refine CallM_i (d1) ?_ | refine CallM_i (d2) ?_ | refine CallM_i (d3) ?_ | refine CallM_i (d4) ?_ | refine CallE_i (c1) ?_ | refine CallE_i (c2) ?_ | refine CallE_i (c3) ?_ | refine CallE_i (c4) ?_ | refine CallE_i (c5) ?_ | refine CallE_i (c6) ?_ | refine CallE_i (c7) ?_ | refine CallE_i (d1) ?_ | refine CallE_i (d2) ?_ | refine CallE_i (d3) ?_ | refine CallE_i (d4) ?_ | refine CallX_i (c1) ?_ | refine CallX_i (c2) ?_ | refine CallX_i (c3) ?_ | refine CallX_i (c4) ?_ | refine CallX_i (c5) ?_ | refine CallX_i (c6) ?_ | refine CallX_i (c7) ?_ | refine CallX_i (d1) ?_ | refine CallX_i (d2) ?_ | refine CallX_i (d3) ?_ | refine CallX_i (d4) ?_ | refine CallB_i (c1) ?_ | refine CallB_i (c2) ?_ | refine CallB_i (c3) ?_ | refine CallB_i (c4) ?_ | refine CallB_i (c5) ?_ | refine CallB_i (c6) ?_ | refine CallB_i (c7) ?_ | refine CallB_i (d1) ?_ | refine CallB_i (d2) ?_ | refine CallB_i (d3) ?_ | refine CallB_i (d4) ?_ | refine CondS_d (fun h => ?_) (fun h => ?_) | refine CondS_b (fun h => ?_) (fun h => ?_) | refine GrdS_d (fun h => ?_) (fun h => ?_) | refine GrdS_b (fun h => ?_) (fun h => ?_) | refine OkS_i (by omega) ?_ | fail)
end Go.Eng
namespace Go.Eng
open Go Go.Proofs
set_option linter.unusedSimpArgs false
set_option linter.unusedVariables false
set_option maxRecDepth 20000
/-! what the arguments hold -/
theorem d_intb {X : Cx} {t n : Nat} {i0 : TI} {vs : List PV} (hi : X.ti t = some i0) (hk : i0.k = .int .i64) (h : shp X n t vs) : ∃ m : Int, vs = [i m] ∧ -9223372036854775808 ≤ m ∧ m ≤ 9223372036854775807 := by
  cases n with
  | zero => cases h
  | succ n =>
    unfold shp at h; rw [hi] at h; simp only [hk] at h
    obtain ⟨m, hm, hw⟩ := h
    refine ⟨m, hm, ?_⟩
    simpa [Lit.wf, IntKind.min, IntKind.max, IntKind.signed, IntKind.bits] using hw
theorem d_int {X : Cx} {t n : Nat} {i0 : TI} {vs : List PV} (hi : X.ti t = some i0) (hk : i0.k = .int .i64) (h : shp X n t vs) : ∃ m, vs = [i m] := by
  cases n with
  | zero => cases h
  | succ n => unfold shp at h; rw [hi] at h; simp only [hk] at h; obtain ⟨m, hm, _⟩ := h; exact ⟨m, hm⟩
theorem d_bool {X : Cx} {t n : Nat} {i0 : TI} {vs : List PV} (hi : X.ti t = some i0) (hk : i0.k = .bool) (h : shp X n t vs) : ∃ b, vs = [.bool b] := by
  cases n with
  | zero => cases h
  | succ n => unfold shp at h; rw [hi] at h; simp only [hk] at h; exact h
theorem d_str {X : Cx} {t n : Nat} {i0 : TI} {vs : List PV} (hi : X.ti t = some i0) (hk : i0.k = .str) (h : shp X n t vs) : ∃ s, vs = [.str s] ∧ s.size ≤ 9223372036854775807 := by
  cases n with
  | zero => cases h
  | succ n => unfold shp at h; rw [hi] at h; simp only [hk] at h; exact h
theorem d_slice {X : Cx} {t n e sz : Nat} {i0 : TI} {vs : List PV} {α : Type} {g : α → List PV} {q : α → Prop} (hi : X.ti t = some i0) (hk : i0.k = .slice e) (hs : szOf X e = sz)
    (hd : ∀ n vs, shp X n e vs → ∃ x, vs = g x ∧ q x) (h : shp X n t vs) : ∃ (l : List α) (nl : Bool), vs = [.lst sz nl (l.map g)] ∧ l.length ≤ 9223372036854775807 ∧ ∀ x ∈ l, q x := by
  cases n with
  | zero => cases h
  | succ n =>
    unfold shp at h; rw [hi] at h; simp only [hk, hs] at h
    rcases h with rfl | ⟨els, rfl, hl, he⟩
    · exact ⟨[], true, rfl, by simp, by simp⟩
    · have : ∀ els : List (List PV), (∀ cs ∈ els, shp X n e cs) → ∃ l : List α, els = l.map g ∧ ∀ x ∈ l, q x := by
        intro els
        induction els with
        | nil => intro _; exact ⟨[], rfl, by simp⟩
        | cons c r ih =>
          intro h
          obtain ⟨l, h1, h2⟩ := ih fun cs hcs => h cs (List.mem_cons_of_mem _ hcs)
          obtain ⟨x, h3, h4⟩ := hd n c (h c (List.mem_cons_self ..))
          exact ⟨x :: l, by rw [h1, h3]; rfl, fun y hy => by
            rcases List.mem_cons.1 hy with rfl | hy
            · exact h4
            · exact h2 y hy⟩
      obtain ⟨l, h1, h2⟩ := this els he
      subst h1
      exact ⟨l, false, rfl, by have := hl; rw [List.length_map] at this; exact this, h2⟩
theorem d_struct {X : Cx} {t n : Nat} {i0 : TI} {fl : List (Nat × Nat)} {vs : List PV} (hi : X.ti t = some i0) (hk : i0.k = .struct fl) (h : shp X n t vs) : vs.length = i0.sz ∧ ∀ q ∈ fl, ∃ n, shp X n q.2 (sub vs q.1 (szOf X q.2)) := by
  cases n with
  | zero => cases h
  | succ n => unfold shp at h; rw [hi] at h; simp only [hk] at h; exact ⟨h.1, fun q hq => ⟨n, h.2 q hq⟩⟩
theorem shpL_cons {X : Cx} {n t : Nat} {ts : List Nat} {pvs : List PV} (h : shpL X n (t :: ts) pvs) : ∃ v vs, pvs = v :: vs ∧ shpV X n t v ∧ shpL X n ts vs := by
  cases pvs with
  | nil => cases h
  | cons v vs => exact ⟨v, vs, rfl, h.1, h.2⟩
theorem shpL_nil {X : Cx} {n : Nat} {pvs : List PV} (h : shpL X n [] pvs) : pvs = [] := by
  cases pvs with
  | nil => rfl
  | cons v vs => cases h
theorem shpV_one {X : Cx} {n t : Nat} {i0 : TI} {v : PV} (hi : X.ti t = some i0) (ha : i0.k.agg = false) (h : shpV X n t v) : shp X n t [v] := by
  unfold shpV at h; rw [hi] at h; simp only [ha, Bool.false_eq_true, if_false] at h; exact h
theorem shpV_agg {X : Cx} {n t : Nat} {i0 : TI} {v : PV} (hi : X.ti t = some i0) (ha : i0.k.agg = true) (h : shpV X n t v) : ∃ vs, v = .agg vs ∧ shp X n t vs := by
  unfold shpV at h; rw [hi] at h; simp only [ha, if_true] at h; exact h
theorem dPt {n : Nat} {vs : List PV} (h : shp X n 24 vs) : ∃ p : Pt, vs = cp p ∧ True := by
  obtain ⟨hl, hf⟩ := d_struct (i0 := (X.ti 24).getD default) rfl rfl h
  match vs, hl with
  | [a, b], _ =>
    obtain ⟨_, h0⟩ := hf (0, 3) (by simp)
    obtain ⟨_, h1⟩ := hf (1, 3) (by simp)
    obtain ⟨x, e0⟩ := d_int (i0 := (X.ti 3).getD default) rfl rfl h0
    obtain ⟨y, e1⟩ := d_int (i0 := (X.ti 3).getD default) rfl rfl h1
    obtain rfl : a = i x := (List.cons.inj e0).1
    obtain rfl : b = i y := (List.cons.inj e1).1
    exact ⟨⟨x, y⟩, rfl, trivial⟩
theorem dFt {n : Nat} {vs : List PV} (h : shp X n 37 vs) : ∃ x : Ft, vs = ft x ∧ x.fits := by
  obtain ⟨hl, hf⟩ := d_struct (i0 := (X.ti 37).getD default) rfl rfl h
  match vs, hl with
  | [a, b, c, d, e], _ =>
    obtain ⟨_, h0⟩ := hf (0, 3) (by simp)
    obtain ⟨_, h1⟩ := hf (1, 3) (by simp)
    obtain ⟨_, h2⟩ := hf (2, 3) (by simp)
    obtain ⟨_, h3⟩ := hf (3, 9) (by simp)
    obtain ⟨_, h4⟩ := hf (4, 35) (by simp)
    obtain ⟨x0, e0⟩ := d_int (i0 := (X.ti 3).getD default) rfl rfl h0
    obtain ⟨x1, e1⟩ := d_int (i0 := (X.ti 3).getD default) rfl rfl h1
    obtain ⟨x2, e2⟩ := d_int (i0 := (X.ti 3).getD default) rfl rfl h2
    obtain ⟨x3, e3, b3⟩ := d_str (i0 := (X.ti 9).getD default) rfl rfl h3
    obtain ⟨x4, nl, e4, b4, _⟩ := d_slice (i0 := (X.ti 35).getD default) (sz := 2) rfl rfl rfl (fun _ _ => dPt) h4
    obtain rfl : a = i x0 := (List.cons.inj e0).1
    obtain rfl : b = i x1 := (List.cons.inj e1).1
    obtain rfl : c = i x2 := (List.cons.inj e2).1
    obtain rfl : d = .str x3 := (List.cons.inj e3).1
    obtain rfl : e = .lst 2 nl (x4.map cp) := (List.cons.inj e4).1
    exact ⟨⟨x0, x1, x2, x3, x4, nl⟩, rfl, b3, b4⟩
theorem dEn {n : Nat} {vs : List PV} (h : shp X n 39 vs) : ∃ x : En, vs = en x ∧ x.f0.fits := by
  obtain ⟨hl, hf⟩ := d_struct (i0 := (X.ti 39).getD default) rfl rfl h
  match vs, hl with
  | [a0, a1, a2, a3, a4, a, b, c], _ =>
    obtain ⟨_, h0⟩ := hf (0, 37) (by simp)
    obtain ⟨_, h1⟩ := hf (5, 3) (by simp)
    obtain ⟨_, h2⟩ := hf (6, 3) (by simp)
    obtain ⟨_, h3⟩ := hf (7, 4) (by simp)
    obtain ⟨x0, e0, p0⟩ := dFt h0
    obtain ⟨x1, e1⟩ := d_int (i0 := (X.ti 3).getD default) rfl rfl h1
    obtain ⟨x2, e2⟩ := d_int (i0 := (X.ti 3).getD default) rfl rfl h2
    obtain ⟨x3, e3⟩ := d_bool (i0 := (X.ti 4).getD default) rfl rfl h3
    have e0 : [a0, a1, a2, a3, a4] = ft x0 := e0
    simp only [ft, List.cons.injEq, and_true] at e0
    obtain ⟨rfl, rfl, rfl, rfl, rfl⟩ := e0
    obtain rfl : a = i x1 := (List.cons.inj e1).1
    obtain rfl : b = i x2 := (List.cons.inj e2).1
    obtain rfl : c = .bool x3 := (List.cons.inj e3).1
    exact ⟨⟨x0, x1, x2, x3⟩, rfl, p0⟩
theorem dEnS {n : Nat} {v : PV} (h : shpV X n 34 v) : ∃ (l : List En) (nl : Bool), v = .lst 8 nl (l.map en) ∧ l.length ≤ 9223372036854775807 ∧ ∀ x ∈ l, x.f0.fits := by
  have h := shpV_one (i0 := (X.ti 34).getD default) rfl rfl h
  obtain ⟨l, nl, e, h1, h2⟩ := d_slice (i0 := (X.ti 34).getD default) (sz := 8) rfl rfl rfl (fun _ _ => dEn) h
  exact ⟨l, nl, (List.cons.inj e).1, h1, h2⟩
theorem dFtS {n : Nat} {v : PV} (h : shpV X n 22 v) : ∃ (l : List Ft) (nl : Bool), v = .lst 5 nl (l.map ft) ∧ l.length ≤ 9223372036854775807 ∧ ∀ x ∈ l, x.fits := by
  have h := shpV_one (i0 := (X.ti 22).getD default) rfl rfl h
  obtain ⟨l, nl, e, h1, h2⟩ := d_slice (i0 := (X.ti 22).getD default) (sz := 5) rfl rfl rfl (fun _ _ => dFt) h
  exact ⟨l, nl, (List.cons.inj e).1, h1, h2⟩
theorem dInt {n : Nat} {v : PV} (h : shpV X n 3 v) : ∃ m : Int, v = i m ∧ -9223372036854775808 ≤ m ∧ m ≤ 9223372036854775807 := by
  obtain ⟨m, hm, hb⟩ := d_intb (i0 := (X.ti 3).getD default) rfl rfl (shpV_one (i0 := (X.ti 3).getD default) rfl rfl h)
  exact ⟨m, (List.cons.inj hm).1, hb⟩
theorem dIntS {n : Nat} {v : PV} (h : shpV X n 112 v) : ∃ (l : List Int) (nl : Bool), v = .lst 1 nl (l.map fun m => [i m]) ∧ l.length ≤ 9223372036854775807 ∧ ∀ x ∈ l, -9223372036854775808 ≤ x ∧ x ≤ 9223372036854775807 := by
  have h := shpV_one (i0 := (X.ti 112).getD default) rfl rfl h
  obtain ⟨l, nl, e, h1, h2⟩ := d_slice (i0 := (X.ti 112).getD default) (sz := 1) (g := fun m : Int => [i m]) (q := fun m => -9223372036854775808 ≤ m ∧ m ≤ 9223372036854775807) rfl rfl rfl (fun _ _ h => d_intb (i0 := (X.ti 3).getD default) rfl rfl h) h
  exact ⟨l, nl, (List.cons.inj e).1, h1, h2⟩
theorem dPtV {n : Nat} {v : PV} (h : shpV X n 24 v) : ∃ p : Pt, v = .agg (cp p) := by
  obtain ⟨vs, rfl, hs⟩ := shpV_agg (i0 := (X.ti 24).getD default) rfl rfl h
  obtain ⟨p, rfl, _⟩ := dPt hs
  exact ⟨p, rfl⟩
theorem dFtV {n : Nat} {v : PV} (h : shpV X n 37 v) : ∃ x : Ft, v = .agg (ft x) ∧ x.fits := by
  obtain ⟨vs, rfl, hs⟩ := shpV_agg (i0 := (X.ti 37).getD default) rfl rfl h
  obtain ⟨p, rfl, hp⟩ := dFt hs
  exact ⟨p, rfl, hp⟩
theorem dEnV {n : Nat} {v : PV} (h : shpV X n 39 v) : ∃ x : En, v = .agg (en x) ∧ x.f0.fits := by
  obtain ⟨vs, rfl, hs⟩ := shpV_agg (i0 := (X.ti 39).getD default) rfl rfl h
  obtain ⟨p, rfl, hp⟩ := dEn hs
  exact ⟨p, rfl, hp⟩
end Go.Eng
namespace Go.Eng
open Go Go.Proofs
theorem dEi {n : Nat} {vs : List PV} (h : shp X n 66 vs) : ∃ x : Ei, vs = ei x ∧ x.f1.fits := by
  obtain ⟨hl, hf⟩ := d_struct (i0 := (X.ti 66).getD default) rfl rfl h
  match vs, hl with
  | [a, a0, a1, a2, a3, a4, b, c, d], _ =>
    obtain ⟨_, h0⟩ := hf (0, 3) (by simp)
    obtain ⟨_, h1⟩ := hf (1, 37) (by simp)
    obtain ⟨_, h2⟩ := hf (6, 3) (by simp)
    obtain ⟨_, h3⟩ := hf (7, 3) (by simp)
    obtain ⟨_, h4⟩ := hf (8, 3) (by simp)
    obtain ⟨x0, e0⟩ := d_int (i0 := (X.ti 3).getD default) rfl rfl h0
    obtain ⟨x1, e1, p1⟩ := dFt h1
    obtain ⟨x2, e2⟩ := d_int (i0 := (X.ti 3).getD default) rfl rfl h2
    obtain ⟨x3, e3⟩ := d_int (i0 := (X.ti 3).getD default) rfl rfl h3
    obtain ⟨x4, e4⟩ := d_int (i0 := (X.ti 3).getD default) rfl rfl h4
    have e1 : [a0, a1, a2, a3, a4] = ft x1 := e1
    simp only [ft, List.cons.injEq, and_true] at e1
    obtain ⟨rfl, rfl, rfl, rfl, rfl⟩ := e1
    obtain rfl : a = i x0 := (List.cons.inj e0).1
    obtain rfl : b = i x2 := (List.cons.inj e2).1
    obtain rfl : c = i x3 := (List.cons.inj e3).1
    obtain rfl : d = i x4 := (List.cons.inj e4).1
    exact ⟨⟨x0, x1, x2, x3, x4⟩, rfl, p1⟩
theorem dEiS {n : Nat} {v : PV} (h : shpV X n 97 v) : ∃ (l : List Ei) (nl : Bool), v = .lst 9 nl (l.map ei) ∧ l.length ≤ 9223372036854775807 ∧ ∀ x ∈ l, x.f1.fits := by
  have h := shpV_one (i0 := (X.ti 97).getD default) rfl rfl h
  obtain ⟨l, nl, e, h1, h2⟩ := d_slice (i0 := (X.ti 97).getD default) (sz := 9) rfl rfl rfl (fun _ _ => dEi) h
  exact ⟨l, nl, (List.cons.inj e).1, h1, h2⟩
theorem dEiV {n : Nat} {v : PV} (h : shpV X n 66 v) : ∃ x : Ei, v = .agg (ei x) ∧ x.f1.fits := by
  obtain ⟨vs, rfl, hs⟩ := shpV_agg (i0 := (X.ti 66).getD default) rfl rfl h
  obtain ⟨p, rfl, hp⟩ := dEi hs
  exact ⟨p, rfl, hp⟩
end Go.Eng
namespace Go.Eng
open Go Go.Proofs
theorem law7 {pvs : List PV} (h : shpL X 8 [22, 66] pvs) : Fn Try.prog 7 false pvs (.bool true) := by
  obtain ⟨_, _, rfl, h1, h2⟩ := shpL_cons h
  obtain ⟨_, _, rfl, h3, h4⟩ := shpL_cons h2
  obtain rfl := shpL_nil h4
  obtain ⟨l, n1, rfl, a1, a2⟩ := dFtS h1
  obtain ⟨y, rfl, a3⟩ := dEiV h3
  exact f7 l n1 y a1 a2 a3
end Go.Eng
namespace Go.Eng
open Go Go.Proofs
theorem law8 {pvs : List PV} (h : shpL X 8 [22, 66] pvs) : Fn Try.prog 8 false pvs (.bool true) := by
  obtain ⟨_, _, rfl, h1, h2⟩ := shpL_cons h
  obtain ⟨_, _, rfl, h3, h4⟩ := shpL_cons h2
  obtain rfl := shpL_nil h4
  obtain ⟨l, n1, rfl, a1, a2⟩ := dFtS h1
  obtain ⟨y, rfl, a3⟩ := dEiV h3
  exact f8 l n1 y a1 a2 a3
end Go.Eng
