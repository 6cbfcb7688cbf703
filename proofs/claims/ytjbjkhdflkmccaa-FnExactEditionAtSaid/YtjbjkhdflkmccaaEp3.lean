/- A part of the proof of a law's statement: for every input the law returns true and leaves its arguments as they were. No condition beyond the statement's own. What each function computes. -/
import Derived.Test.YtjbjkhdflkmccaaEp2
set_option linter.unusedVariables false
set_option linter.unusedSimpArgs false
set_option autoImplicit true
set_option relaxedAutoImplicit true
namespace Go.Eng
open Go Go.Proofs Geo
set_option linter.unusedSimpArgs false
set_option linter.unusedVariables false
set_option maxRecDepth 20000
set_option maxHeartbeats 1000000

/-! marks of editions. WRITES -/
def kToD (l : List Ed) (k : Int) : Nat → Int
  | 0 => k
  | n + 1 => kTo (l.getD n edD).f1 (kToD l k n + 1) (l.getD n edD).f1.length + 1
def mkEd (k : Int) (x : Ed) : Ed := ⟨k, upTo (mkFtAt x.f1 (k + 1)) x.f1.length, kTo x.f1 (k + 1) x.f1.length, x.nl⟩
def mkEdAt (l : List Ed) (k : Int) (j : Nat) : Ed := mkEd (kToD l k j) (l.getD j edD)
def Ed.nlok (x : Ed) : Prop := (x.nl = true → x.f1 = []) ∧ ∀ y ∈ x.f1, y.nlok
theorem kTo_le0 (l : List Ft) (k : Int) (n : Nat) : k ≤ kTo l k n := kTo_mono (n := 0) (Nat.zero_le _)
theorem kToD_mono {l : List Ed} {k : Int} {n m : Nat} (h : n ≤ m) : kToD l k n ≤ kToD l k m := by
  induction m with
  | zero => obtain rfl : n = 0 := by omega
            exact Int.le_refl _
  | succ m ih =>
    rcases Nat.lt_or_ge m n with h1 | h1
    · obtain rfl : n = m + 1 := by omega
      exact Int.le_refl _
    · have := ih h1
      have h2 : kToD l k (m + 1) = kTo (l.getD m edD).f1 (kToD l k m + 1) (l.getD m edD).f1.length + 1 := rfl
      have h3 := kTo_le0 (l.getD m edD).f1 (kToD l k m + 1) (l.getD m edD).f1.length
      omega
theorem f62 (l : List Ed) (nl : Bool) (k : Int) (hnl : nl = true → l = []) (hx : ∀ x ∈ l, x.nlok) (hf : ∀ x ∈ l, x.f1.length ≤ 1000000000) (hk0 : 0 ≤ k) (hl : l.length ≤ 1000000000) (hk : kToD l k l.length ≤ 1000000000) :
    FnM Try.prog 62 [.lst 3 nl (l.map ed), i k] (i (kToD l k l.length)) (.lst 3 nl ((upTo (mkEdAt l k) l.length).map ed)) := by
  obtain ⟨b, hb⟩ : ∃ b : List (List PV), l.map ed = b := ⟨_, rfl⟩
  have hbl : b.length = l.length := by rw [← hb]; simp
  obtain ⟨a, ha⟩ : ∃ a, (upTo (mkEdAt l k) l.length).map ed = a := ⟨_, rfl⟩
  have hal : a.length = b.length := by rw [← ha, List.length_map, upTo_length, hbl]
  rw [ha, hb]
  refine FnM.by_sx hX (by kernel_rfl) c62 rfl rfl rfl ?_
  simp [i62, sx_skip, sx_ops, sx_seq, sx_cond, sx_block, sx_exit, sx_ret, sx_mcall, sx_mcell, sx_mset, elAt, setEl, isLst, cellsOf, sxl_nil, sxl_set, sxl_call, sxl_callv, sxl_g1, sxl_g2, sxl_g3, sxl_g4, OkS_true, GrdS_tt, GrdS_tf, GrdS_ft, GrdS_ff, CondS_t, CondS_f, then_n, then_e, then_r, blk_n, blk_e, blk_r, upd_app, Ex.ok, Ex.val, Opd.val, POp.dst, bin_int, binOK_int, bin_str, binOK_str, resOK, resV, RB.val, sub, putc, scB, scL, oneB, conf, Ex.val.eqP, Ex.val.eqL, negV, mxV, mnV, ← wr_eq, wr_zero, wr_one, wr_m1, bst_lst, byteC, partsOK, putAll, appV, nilV, slV, sslV, optB, optNum, and_assoc, exists_and_left, exists_eq_left']
  refine sx_count l.length (fun n V => V 0 = .lst 3 nl (mix a b n) ∧ V 5 = i n ∧ V 1 = i (kToD l k n)) 0 (by omega) (by simp [sx_skip, sx_ops, sx_seq, sx_cond, sx_block, sx_exit, sx_ret, sx_mcall, sx_mcell, sx_mset, elAt, setEl, isLst, cellsOf, sxl_nil, sxl_set, sxl_call, sxl_callv, sxl_g1, sxl_g2, sxl_g3, sxl_g4, OkS_true, GrdS_tt, GrdS_tf, GrdS_ft, GrdS_ff, CondS_t, CondS_f, then_n, then_e, then_r, blk_n, blk_e, blk_r, upd_app, Ex.ok, Ex.val, Opd.val, POp.dst, bin_int, binOK_int, bin_str, binOK_str, resOK, resV, RB.val, sub, putc, scB, scL, oneB, conf, Ex.val.eqP, Ex.val.eqL, negV, mxV, mnV, ← wr_eq, wr_zero, wr_one, wr_m1, bst_lst, byteC, partsOK, putAll, appV, nilV, slV, sslV, optB, optNum, and_assoc, exists_and_left, exists_eq_left', mix_zero, kToD]) ?_
  rintro n V hn ⟨h0, h5, h1⟩
  have hml := mix_len (n := n) hal
  rw [hbl] at hml
  simp [sx_skip, sx_ops, sx_seq, sx_cond, sx_block, sx_exit, sx_ret, sx_mcall, sx_mcell, sx_mset, elAt, setEl, isLst, cellsOf, sxl_nil, sxl_set, sxl_call, sxl_callv, sxl_g1, sxl_g2, sxl_g3, sxl_g4, OkS_true, GrdS_tt, GrdS_tf, GrdS_ft, GrdS_ff, CondS_t, CondS_f, then_n, then_e, then_r, blk_n, blk_e, blk_r, upd_app, Ex.ok, Ex.val, Opd.val, POp.dst, bin_int, binOK_int, bin_str, binOK_str, resOK, resV, RB.val, sub, putc, scB, scL, oneB, conf, Ex.val.eqP, Ex.val.eqL, negV, mxV, mnV, ← wr_eq, wr_zero, wr_one, wr_m1, bst_lst, byteC, partsOK, putAll, appV, nilV, slV, sslV, optB, optNum, and_assoc, exists_and_left, exists_eq_left', h0, h5]
  refine CondS_d (fun hlt => ?_) (fun hge => ?_)
  · have hlt' : n < l.length := by omega
    have hnb : n < b.length := by omega
    have hf' : nl = false := by cases nl with | false => rfl | true => rw [hnl rfl] at hlt'; simp at hlt'
    subst hf'
    have hm1 := kToD_mono (l := l) (k := k) (n := 0) (m := n) (by omega)
    have hm2 := kToD_mono (l := l) (k := k) (n := n + 1) (m := l.length) (by omega)
    have hks : kToD l k (n + 1) = kTo l[n].f1 (kToD l k n + 1) l[n].f1.length + 1 := by simp [kToD, hlt']
    have hm1 : k ≤ kToD l k n := hm1
    have hmk : ed (mkEdAt l k n) = [i (kToD l k n), .lst 5 l[n].nl ((upTo (mkFtAt l[n].f1 (kToD l k n + 1)) l[n].f1.length).map ft), i (kTo l[n].f1 (kToD l k n + 1) l[n].f1.length)] := by unfold mkEdAt mkEd ed; simp [hlt']
    obtain ⟨x, hxe⟩ : ∃ x, l[n] = x := ⟨_, rfl⟩
    have hxo := hx l[n] (List.getElem_mem ..)
    have hfo := hf l[n] (List.getElem_mem ..)
    have hat : (mix a b n)[n]? = some [i x.f0, .lst 5 x.nl (x.f1.map ft), i x.f2] := by rw [mix_at hal hnb]; subst hb; simp [ed, hxe]
    rw [hxe] at hks hmk hxo hfo
    obtain ⟨q, hq⟩ : ∃ q, kToD l k n = q := ⟨_, rfl⟩
    rw [hq] at hks hmk h1 hm1
    have hst : (mix a b n).set n [i q, .lst 5 x.nl ((upTo (mkFtAt x.f1 (q + 1)) x.f1.length).map ft), i (kTo x.f1 (q + 1) x.f1.length)] = mix a b (n + 1) := mix_set hal hnb (by rw [← ha, List.getElem?_map, upTo_get hlt', Option.map_some, hmk])
    obtain ⟨hlm, hat'⟩ := get_of hat
    have hq1 := kTo_le0 x.f1 (q + 1) x.f1.length
    have c2 := f46 x.f1 x.nl (q + 1) hxo.1 hxo.2 (by omega) hfo (by omega)
    obtain ⟨q2, hq2⟩ : ∃ q2, kTo x.f1 (q + 1) x.f1.length = q2 := ⟨_, rfl⟩
    rw [hq2] at c2 hst hks hq1
    have hw : wr .i64 ((n : Int) + 1) = n + 1 := wr_in (by omega) (by omega)
    have w1 : wr .i64 (q + 1) = q + 1 := wr_in (by omega) (by omega)
    have w2 : wr .i64 (q2 + 1) = kToD l k (n + 1) := by rw [wr_in (by omega) (by omega)]; omega
    clear hks hmk ha hb hq hq2 hxo
    repeat' (first | intro _ | (simp [sx_skip, sx_ops, sx_seq, sx_cond, sx_block, sx_exit, sx_ret, sx_mcall, sx_mcell, sx_mset, elAt, setEl, isLst, cellsOf, sxl_nil, sxl_set, sxl_call, sxl_callv, sxl_g1, sxl_g2, sxl_g3, sxl_g4, OkS_true, GrdS_tt, GrdS_tf, GrdS_ft, GrdS_ff, CondS_t, CondS_f, then_n, then_e, then_r, blk_n, blk_e, blk_r, upd_app, Ex.ok, Ex.val, Opd.val, POp.dst, bin_int, binOK_int, bin_str, binOK_str, resOK, resV, RB.val, sub, putc, scB, scL, oneB, conf, Ex.val.eqP, Ex.val.eqL, negV, mxV, mnV, ← wr_eq, wr_zero, wr_one, wr_m1, bst_lst, byteC, partsOK, putAll, appV, nilV, slV, sslV, optB, optNum, and_assoc, exists_and_left, exists_eq_left', *]) | refine CallS_i (c2) ?_ | refine CallM_i (c2) ?_ | refine CallE_i (c2) ?_ | refine CondS_d (fun h => ?_) (fun h => ?_) | refine CondS_b (fun h => ?_) (fun h => ?_) | refine GrdS_d (fun h => ?_) (fun h => ?_) | refine GrdS_b (fun h => ?_) (fun h => ?_) | refine OkS_i (by omega) ?_ | fail)
  · have : n = l.length := by omega
    subst this
    have hfu := mix_full hal
    rw [hbl] at hfu
    repeat' (first | intro _ | (simp [sx_skip, sx_ops, sx_seq, sx_cond, sx_block, sx_exit, sx_ret, sx_mcall, sx_mcell, sx_mset, elAt, setEl, isLst, cellsOf, sxl_nil, sxl_set, sxl_call, sxl_callv, sxl_g1, sxl_g2, sxl_g3, sxl_g4, OkS_true, GrdS_tt, GrdS_tf, GrdS_ft, GrdS_ff, CondS_t, CondS_f, then_n, then_e, then_r, blk_n, blk_e, blk_r, upd_app, Ex.ok, Ex.val, Opd.val, POp.dst, bin_int, binOK_int, bin_str, binOK_str, resOK, resV, RB.val, sub, putc, scB, scL, oneB, conf, Ex.val.eqP, Ex.val.eqL, negV, mxV, mnV, ← wr_eq, wr_zero, wr_one, wr_m1, bst_lst, byteC, partsOK, putAll, appV, nilV, slV, sslV, optB, optNum, and_assoc, exists_and_left, exists_eq_left', *]) | refine CondS_d (fun h => ?_) (fun h => ?_) | refine CondS_b (fun h => ?_) (fun h => ?_) | refine GrdS_d (fun h => ?_) (fun h => ?_) | refine GrdS_b (fun h => ?_) (fun h => ?_) | refine OkS_i (by omega) ?_ | fail)
theorem f65 (l : List Ed) (nl : Bool) (k : Int) (hf : ∀ x ∈ l, x.f1.length ≤ 1000000000) (hk0 : 0 ≤ k) (hl : l.length ≤ 1000000000) (hk : kToD l k l.length ≤ 1000000000) :
    Fn Try.prog 65 false [.lst 3 nl ((upTo (mkEdAt l k) l.length).map ed), i k] (i (kToD l k l.length)) := by
  obtain ⟨a, ha⟩ : ∃ a, (upTo (mkEdAt l k) l.length).map ed = a := ⟨_, rfl⟩
  have hal : a.length = l.length := by rw [← ha, List.length_map, upTo_length]
  rw [ha]
  refine Fn.by_sx hX (by kernel_rfl) c65 (by kernel_rfl) (by rfl) ?_
  simp [i65, sx_skip, sx_ops, sx_seq, sx_cond, sx_block, sx_exit, sx_ret, sx_mcall, sx_mcell, sx_mset, elAt, setEl, isLst, cellsOf, sxl_nil, sxl_set, sxl_call, sxl_callv, sxl_g1, sxl_g2, sxl_g3, sxl_g4, OkS_true, GrdS_tt, GrdS_tf, GrdS_ft, GrdS_ff, CondS_t, CondS_f, then_n, then_e, then_r, blk_n, blk_e, blk_r, upd_app, Ex.ok, Ex.val, Opd.val, POp.dst, bin_int, binOK_int, bin_str, binOK_str, resOK, resV, RB.val, sub, putc, scB, scL, oneB, conf, Ex.val.eqP, Ex.val.eqL, negV, mxV, mnV, ← wr_eq, wr_zero, wr_one, wr_m1, bst_lst, byteC, partsOK, putAll, appV, nilV, slV, sslV, optB, optNum, and_assoc, exists_and_left, exists_eq_left']
  refine sx_count l.length (fun n V => V 0 = .lst 3 nl a ∧ V 5 = i n ∧ V 1 = i (kToD l k n)) 0 (by omega) (by simp [sx_skip, sx_ops, sx_seq, sx_cond, sx_block, sx_exit, sx_ret, sx_mcall, sx_mcell, sx_mset, elAt, setEl, isLst, cellsOf, sxl_nil, sxl_set, sxl_call, sxl_callv, sxl_g1, sxl_g2, sxl_g3, sxl_g4, OkS_true, GrdS_tt, GrdS_tf, GrdS_ft, GrdS_ff, CondS_t, CondS_f, then_n, then_e, then_r, blk_n, blk_e, blk_r, upd_app, Ex.ok, Ex.val, Opd.val, POp.dst, bin_int, binOK_int, bin_str, binOK_str, resOK, resV, RB.val, sub, putc, scB, scL, oneB, conf, Ex.val.eqP, Ex.val.eqL, negV, mxV, mnV, ← wr_eq, wr_zero, wr_one, wr_m1, bst_lst, byteC, partsOK, putAll, appV, nilV, slV, sslV, optB, optNum, and_assoc, exists_and_left, exists_eq_left', kToD]) ?_
  rintro n V hn ⟨h0, h5, h1⟩
  simp [sx_skip, sx_ops, sx_seq, sx_cond, sx_block, sx_exit, sx_ret, sx_mcall, sx_mcell, sx_mset, elAt, setEl, isLst, cellsOf, sxl_nil, sxl_set, sxl_call, sxl_callv, sxl_g1, sxl_g2, sxl_g3, sxl_g4, OkS_true, GrdS_tt, GrdS_tf, GrdS_ft, GrdS_ff, CondS_t, CondS_f, then_n, then_e, then_r, blk_n, blk_e, blk_r, upd_app, Ex.ok, Ex.val, Opd.val, POp.dst, bin_int, binOK_int, bin_str, binOK_str, resOK, resV, RB.val, sub, putc, scB, scL, oneB, conf, Ex.val.eqP, Ex.val.eqL, negV, mxV, mnV, ← wr_eq, wr_zero, wr_one, wr_m1, bst_lst, byteC, partsOK, putAll, appV, nilV, slV, sslV, optB, optNum, and_assoc, exists_and_left, exists_eq_left', h0, h5]
  refine CondS_d (fun hlt => ?_) (fun hge => ?_)
  · have hlt' : n < l.length := by omega
    have hm1 := kToD_mono (l := l) (k := k) (n := 0) (m := n) (by omega)
    have hm2 := kToD_mono (l := l) (k := k) (n := n + 1) (m := l.length) (by omega)
    have hks : kToD l k (n + 1) = kTo l[n].f1 (kToD l k n + 1) l[n].f1.length + 1 := by simp [kToD, hlt']
    have hm1 : k ≤ kToD l k n := hm1
    have hmk : ed (mkEdAt l k n) = [i (kToD l k n), .lst 5 l[n].nl ((upTo (mkFtAt l[n].f1 (kToD l k n + 1)) l[n].f1.length).map ft), i (kTo l[n].f1 (kToD l k n + 1) l[n].f1.length)] := by unfold mkEdAt mkEd ed; simp [hlt']
    obtain ⟨x, hxe⟩ : ∃ x, l[n] = x := ⟨_, rfl⟩
    have hfo := hf l[n] (List.getElem_mem ..)
    rw [hxe] at hks hmk hfo
    obtain ⟨q, hq⟩ : ∃ q, kToD l k n = q := ⟨_, rfl⟩
    rw [hq] at hks hmk h1 hm1
    have hq1 := kTo_le0 x.f1 (q + 1) x.f1.length
    have c2 := f48 x.f1 x.nl (q + 1) (by omega) hfo (by omega)
    obtain ⟨q2, hq2⟩ : ∃ q2, kTo x.f1 (q + 1) x.f1.length = q2 := ⟨_, rfl⟩
    obtain ⟨U, hU⟩ : ∃ U, (upTo (mkFtAt x.f1 (q + 1)) x.f1.length).map ft = U := ⟨_, rfl⟩
    rw [hq2] at c2 hks hq1 hmk
    rw [hU] at c2 hmk
    have hat : a[n]? = some [i q, .lst 5 x.nl U, i q2] := by rw [← ha, List.getElem?_map, upTo_get hlt', Option.map_some, hmk]
    obtain ⟨hlm, hat'⟩ := get_of hat
    have hw : wr .i64 ((n : Int) + 1) = n + 1 := wr_in (by omega) (by omega)
    have w1 : wr .i64 (q + 1) = q + 1 := wr_in (by omega) (by omega)
    have w2 : wr .i64 (q2 + 1) = kToD l k (n + 1) := by rw [wr_in (by omega) (by omega)]; omega
    have hneg : ¬ q2 < 0 := by omega
    clear hks hmk ha hq hq2 hU
    repeat' (first | intro _ | (simp [sx_skip, sx_ops, sx_seq, sx_cond, sx_block, sx_exit, sx_ret, sx_mcall, sx_mcell, sx_mset, elAt, setEl, isLst, cellsOf, sxl_nil, sxl_set, sxl_call, sxl_callv, sxl_g1, sxl_g2, sxl_g3, sxl_g4, OkS_true, GrdS_tt, GrdS_tf, GrdS_ft, GrdS_ff, CondS_t, CondS_f, then_n, then_e, then_r, blk_n, blk_e, blk_r, upd_app, Ex.ok, Ex.val, Opd.val, POp.dst, bin_int, binOK_int, bin_str, binOK_str, resOK, resV, RB.val, sub, putc, scB, scL, oneB, conf, Ex.val.eqP, Ex.val.eqL, negV, mxV, mnV, ← wr_eq, wr_zero, wr_one, wr_m1, bst_lst, byteC, partsOK, putAll, appV, nilV, slV, sslV, optB, optNum, and_assoc, exists_and_left, exists_eq_left', *]) | refine CallS_i (c2) ?_ | refine CallM_i (c2) ?_ | refine CallE_i (c2) ?_ | refine CondS_d (fun h => ?_) (fun h => ?_) | refine CondS_b (fun h => ?_) (fun h => ?_) | refine GrdS_d (fun h => ?_) (fun h => ?_) | refine GrdS_b (fun h => ?_) (fun h => ?_) | refine OkS_i (by omega) ?_ | fail)
  · have : n = l.length := by omega
    subst this
    repeat' (first | intro _ | (simp [sx_skip, sx_ops, sx_seq, sx_cond, sx_block, sx_exit, sx_ret, sx_mcall, sx_mcell, sx_mset, elAt, setEl, isLst, cellsOf, sxl_nil, sxl_set, sxl_call, sxl_callv, sxl_g1, sxl_g2, sxl_g3, sxl_g4, OkS_true, GrdS_tt, GrdS_tf, GrdS_ft, GrdS_ff, CondS_t, CondS_f, then_n, then_e, then_r, blk_n, blk_e, blk_r, upd_app, Ex.ok, Ex.val, Opd.val, POp.dst, bin_int, binOK_int, bin_str, binOK_str, resOK, resV, RB.val, sub, putc, scB, scL, oneB, conf, Ex.val.eqP, Ex.val.eqL, negV, mxV, mnV, ← wr_eq, wr_zero, wr_one, wr_m1, bst_lst, byteC, partsOK, putAll, appV, nilV, slV, sslV, optB, optNum, and_assoc, exists_and_left, exists_eq_left', *]) | refine CondS_d (fun h => ?_) (fun h => ?_) | refine CondS_b (fun h => ?_) (fun h => ?_) | refine GrdS_d (fun h => ?_) (fun h => ?_) | refine GrdS_b (fun h => ?_) (fun h => ?_) | refine OkS_i (by omega) ?_ | fail)
theorem wtLF_fr (l : List Ft) : wtLF (l.map Ft.fr) = wtLF l := by
  unfold wtLF wtToF
  rw [List.take_of_length_le (Nat.le_refl _), List.take_of_length_le (Nat.le_refl _), List.map_map, List.length_map]
  rfl
theorem kToD_le (l : List Ed) : ∀ n : Nat, n ≤ l.length → ∀ k : Int, kToD l k n ≤ k + 2 * n + 4 * (wtToE l n : Nat)
  | 0, _, k => by simp [kToD]; omega
  | n + 1, hn, k => by
    have h1 := kToD_le l n (by omega) k
    have h2 := wtToE_succ (l := l) (n := n) (by omega)
    have h3 := kTo_le l[n].f1 l[n].f1.length (Nat.le_refl _) (kToD l k n + 1)
    have h4 : kToD l k (n + 1) = kTo l[n].f1 (kToD l k n + 1) l[n].f1.length + 1 := by simp [kToD, show n < l.length by omega]
    have h5 : wtLF l[n].f1 = l[n].f1.length + wtToF l[n].f1 l[n].f1.length := rfl
    omega
theorem edFr_k {l r : List Ed} (hr : l.map Ed.fr = r) (hb : wtLE l ≤ 1048576) : kToD r 1 r.length ≤ 1000000000 := by
  have h1 := kToD_le r r.length (Nat.le_refl _) 1
  have h2 : wtToE r r.length = wtToE l l.length := by
    rw [← hr]
    unfold wtToE
    rw [List.take_of_length_le (Nat.le_refl _), List.take_of_length_le (Nat.le_refl _), List.map_map]
    congr 1
    apply List.map_congr_left
    intro x _
    exact wtLF_fr x.f1
  have h3 : r.length = l.length := by rw [← hr, List.length_map]
  unfold wtLE at hb
  omega
theorem edFr_small {l r : List Ed} (hr : l.map Ed.fr = r) (hm : ∀ x ∈ l, x.small) : ∀ x ∈ r, x.small ∧ x.nl = false ∧ ∀ y ∈ x.f1, y.nl = false := by
  intro x hx
  rw [← hr] at hx
  obtain ⟨y, hy, rfl⟩ := List.mem_map.1 hx
  refine ⟨Ed.small_fr (hm y hy), rfl, fun z hz => ?_⟩
  unfold Ed.fr at hz
  obtain ⟨w, _, rfl⟩ := List.mem_map.1 hz
  rfl
theorem wEds_src {l : List Ed} (h : wEds l = true) {k : Nat} (hk : k < l.length) : wSrc l[k].f1 = true := by
  unfold wEds at h
  rw [Bool.and_eq_true] at h
  have := allTo_at h.2 hk
  simp [edAt, hk] at this
  exact this.1.1.2
theorem edS_mem {r : List Ed} {tick : Int} (hrm : ∀ x ∈ r, x.small ∧ x.nl = false ∧ ∀ y ∈ x.f1, y.nl = false) : (edS r tick).length ≤ 16 ∧ ∀ y ∈ edS r tick, y.nl = false ∧ y.f4.length ≤ 1048576 := by
  unfold edS
  split
  case isFalse => exact ⟨by simp, by simp⟩
  rename_i hE
  unfold curS
  split
  case isTrue => exact ⟨by simp, by simp⟩
  have hb := lastTo_b r tick r.length
  obtain ⟨k, hk⟩ : ∃ k : Nat, lastTo r tick r.length = k := ⟨(lastTo r tick r.length).toNat, by omega⟩
  have hkl : k < r.length := by omega
  rw [hk]
  simp only [Int.toNat_natCast, List.getD_eq_getElem?_getD, List.getElem?_eq_getElem hkl, Option.getD_some, List.length_map]
  refine ⟨wSrc_len (wEds_src hE hkl), fun y hy => ?_⟩
  obtain ⟨z, hz, rfl⟩ := List.mem_map.1 hy
  exact ⟨rfl, ((hrm _ (List.getElem_mem hkl)).1.2 z hz).2⟩
theorem f10 (l : List Ed) (n1 : Bool) (tick : Int) (hl : l.length ≤ 9223372036854775807) (hx : ∀ x ∈ l, x.fits) : Fn Try.prog 10 false [.lst 3 n1 (l.map ed), i tick] (.bool true) := by
  refine Fn.by_sx hX (by kernel_rfl) c10 (by kernel_rfl) (by rfl) ?_
  simp [i10, sx_skip, sx_ops, sx_seq, sx_cond, sx_block, sx_exit, sx_ret, sx_mcall, sx_mcell, sx_mset, elAt, setEl, isLst, cellsOf, sxl_nil, sxl_set, sxl_call, sxl_callv, sxl_g1, sxl_g2, sxl_g3, sxl_g4, OkS_true, GrdS_tt, GrdS_tf, GrdS_ft, GrdS_ff, CondS_t, CondS_f, then_n, then_e, then_r, blk_n, blk_e, blk_r, upd_app, Ex.ok, Ex.val, Opd.val, POp.dst, bin_int, binOK_int, bin_str, binOK_str, resOK, resV, RB.val, sub, putc, scB, scL, oneB, conf, Ex.val.eqP, Ex.val.eqL, negV, mxV, mnV, ← wr_eq, wr_zero, wr_one, wr_m1, bst_lst, byteC, partsOK, putAll, appV, nilV, slV, sslV, optB, optNum, and_assoc, exists_and_left, exists_eq_left']
  refine CallS_s (f57 l n1 1048576 (by omega) (by omega) hl hx) rfl ?_
  by_cases hbig : (1048576 : Int) - wtLE l < 0
  · have : szr 1048576 (wtLE l : Nat) = -1 := if_pos hbig
    rw [this]
    repeat' (first | intro _ | (simp [sx_skip, sx_ops, sx_seq, sx_cond, sx_block, sx_exit, sx_ret, sx_mcall, sx_mcell, sx_mset, elAt, setEl, isLst, cellsOf, sxl_nil, sxl_set, sxl_call, sxl_callv, sxl_g1, sxl_g2, sxl_g3, sxl_g4, OkS_true, GrdS_tt, GrdS_tf, GrdS_ft, GrdS_ff, CondS_t, CondS_f, then_n, then_e, then_r, blk_n, blk_e, blk_r, upd_app, Ex.ok, Ex.val, Opd.val, POp.dst, bin_int, binOK_int, bin_str, binOK_str, resOK, resV, RB.val, sub, putc, scB, scL, oneB, conf, Ex.val.eqP, Ex.val.eqL, negV, mxV, mnV, ← wr_eq, wr_zero, wr_one, wr_m1, bst_lst, byteC, partsOK, putAll, appV, nilV, slV, sslV, optB, optNum, and_assoc, exists_and_left, exists_eq_left', *]) | refine CondS_d (fun h => ?_) (fun h => ?_) | refine CondS_b (fun h => ?_) (fun h => ?_) | refine GrdS_d (fun h => ?_) (fun h => ?_) | refine GrdS_b (fun h => ?_) (fun h => ?_) | refine OkS_i (by omega) ?_ | fail)
  have hz : szr 1048576 (wtLE l : Nat) = 1048576 - wtLE l := if_neg hbig
  rw [hz]
  have hL := wtLE_len l
  have hl' : l.length ≤ 1048576 := by omega
  have hm : ∀ x ∈ l, x.small := fun x hx => Ed.small_of hx (by omega)
  have c1 := f59 l n1 hl' hm
  obtain ⟨r, hr⟩ : ∃ r, l.map Ed.fr = r := ⟨_, rfl⟩
  have hrl : r.length ≤ 1048576 := by rw [← hr, List.length_map]; exact hl'
  have hrk := edFr_k hr (by omega)
  have hrm := edFr_small hr hm
  rw [hr] at c1
  have hro : ∀ x ∈ r, x.okay := fun x hx => Ed.okay_of (hrm x hx).1
  have hrf : ∀ x ∈ r, x.fine := fun x hx => ⟨by have := (hrm x hx).1.1; omega, fun y hy => ⟨by have := (hrm x hx).1.2 y hy; omega, (hrm x hx).2.2 y hy⟩⟩
  have c3 := f58 r false tick (by omega) hro hrf
  have c4 := f60 r false tick (by omega) hro hrf
  have c5 := f61 r false false (by omega) (fun x hx => (hrm x hx).1)
  obtain ⟨hG, hGm⟩ := edS_mem (tick := tick) hrm
  obtain ⟨G, hGe⟩ : ∃ G, edS r tick = G := ⟨_, rfl⟩
  obtain ⟨b, hbe⟩ : ∃ b, edB r tick = b := ⟨_, rfl⟩
  rw [hGe, hbe] at c3 c4
  rw [hGe] at hG hGm
  have c6 := f19 G false false (by omega) fun x h => by have := hGm x h; omega
  have hGk := kTo_ge (B := 1048576) (fun x h => (hGm x h).2) G.length (Nat.le_refl _) 1
  have hGk' : kTo G 1 G.length ≤ 1000000000 := by
    have : (G.length : Int) * (4 + 2 * ((1048576 : Nat) : Int)) ≤ 16 * (4 + 2 * ((1048576 : Nat) : Int)) := Int.mul_le_mul_of_nonneg_right (by omega) (by omega)
    omega
  have c7 := f62 r false 1 (by simp) (fun x hx => ⟨fun h => by rw [(hrm x hx).2.1] at h; (cases h), fun y hy h => by rw [(hrm x hx).2.2 y hy] at h; (cases h)⟩) (fun x hx => by have := (hrm x hx).1.1; omega) (by omega) (by omega) hrk
  have c8 := f46 G false 1 (by simp) (fun x hx h => by rw [(hGm x hx).1] at h; cases h) (by omega) (by omega) hGk'
  have c9 := f48 G false 1 (by omega) (by omega) hGk'
  have hk1 := kToD_mono (l := r) (k := 1) (n := 0) (m := r.length) (by omega)
  have hk1 : 1 ≤ kToD r 1 r.length := hk1
  have hk2 := kTo_le0 G 1 G.length
  obtain ⟨K, hK⟩ : ∃ K, kToD r 1 r.length = K := ⟨_, rfl⟩
  rw [hK] at c7 hk1
  obtain ⟨R, hR⟩ : ∃ R, (upTo (mkEdAt r 1) r.length).map ed = R := ⟨_, rfl⟩
  rw [hR] at c7
  obtain ⟨m, hme⟩ : ∃ m : Int, kTo G 1 G.length = m := ⟨_, rfl⟩
  rw [hme] at c8 c9 hk2
  obtain ⟨GG, hGG⟩ : ∃ GG, (upTo (mkFtAt G 1) G.length).map ft = GG := ⟨_, rfl⟩
  rw [hGG] at c8 c9
  have hm0 : ¬ m < 0 := by omega
  have hK0 : ¬ K < 0 := by omega
  have hnn : ¬ (1048576 : Int) - wtLE l < 0 := by omega
  clear hr hz hGe hbe hK hR hme hGG hGk hGk' hrk
  repeat' (first | intro _ | (simp [sx_skip, sx_ops, sx_seq, sx_cond, sx_block, sx_exit, sx_ret, sx_mcall, sx_mcell, sx_mset, elAt, setEl, isLst, cellsOf, sxl_nil, sxl_set, sxl_call, sxl_callv, sxl_g1, sxl_g2, sxl_g3, sxl_g4, OkS_true, GrdS_tt, GrdS_tf, GrdS_ft, GrdS_ff, CondS_t, CondS_f, then_n, then_e, then_r, blk_n, blk_e, blk_r, upd_app, Ex.ok, Ex.val, Opd.val, POp.dst, bin_int, binOK_int, bin_str, binOK_str, resOK, resV, RB.val, sub, putc, scB, scL, oneB, conf, Ex.val.eqP, Ex.val.eqL, negV, mxV, mnV, ← wr_eq, wr_zero, wr_one, wr_m1, bst_lst, byteC, partsOK, putAll, appV, nilV, slV, sslV, optB, optNum, and_assoc, exists_and_left, exists_eq_left', *]) | refine CallS_i (c1) ?_ | refine CallS_i (c3) ?_ | refine CallS_i (c4) ?_ | refine CallS_i (c5) ?_ | refine CallS_i (c6) ?_ | refine CallS_i (c7) ?_ | refine CallS_i (c8) ?_ | refine CallS_i (c9) ?_ | refine CallM_i (c1) ?_ | refine CallM_i (c3) ?_ | refine CallM_i (c4) ?_ | refine CallM_i (c5) ?_ | refine CallM_i (c6) ?_ | refine CallM_i (c7) ?_ | refine CallM_i (c8) ?_ | refine CallM_i (c9) ?_ | refine CallE_i (c1) ?_ | refine CallE_i (c3) ?_ | refine CallE_i (c4) ?_ | refine CallE_i (c5) ?_ | refine CallE_i (c6) ?_ | refine CallE_i (c7) ?_ | refine CallE_i (c8) ?_ | refine CallE_i (c9) ?_ | refine CondS_d (fun h => ?_) (fun h => ?_) | refine CondS_b (fun h => ?_) (fun h => ?_) | refine GrdS_d (fun h => ?_) (fun h => ?_) | refine GrdS_b (fun h => ?_) (fun h => ?_) | refine OkS_i (by omega) ?_ | fail)
end Go.Eng
namespace Go.Eng
open Go Go.Proofs Geo
set_option linter.unusedSimpArgs false
set_option linter.unusedVariables false
set_option maxRecDepth 20000
set_option maxHeartbeats 1000000

/-! an edition is added. WRITES -/
def frED (l : List Ed) (n : Nat) : List Ed := (l.take n).map Ed.fr
theorem frED_succ {l : List Ed} {n : Nat} (h : n < l.length) : frED l (n + 1) = frED l n ++ [l[n].fr] := by
  unfold frED
  rw [List.take_add_one, List.getElem?_eq_getElem h, List.map_append]
  rfl
theorem frED_all (l : List Ed) : frED l l.length = l.map Ed.fr := by unfold frED; rw [List.take_of_length_le (Nat.le_refl _)]
theorem frED_len {l : List Ed} {n : Nat} (h : n ≤ l.length) : (frED l n).length = n := by unfold frED; simp; omega
theorem f125 (l : List Ed) (nl : Bool) (hl : l.length ≤ 1000000000) (hf : ∀ x ∈ l, x.fine) : Fn Try.prog 125 true [.lst 3 nl (l.map ed)] (.lst 3 false ((l.map Ed.fr).map ed)) := by
  refine Fn.by_sx hX (by kernel_rfl) c125 (by kernel_rfl) (by rfl) ?_
  simp [i125, sx_skip, sx_ops, sx_seq, sx_cond, sx_block, sx_exit, sx_ret, sx_mcall, sx_mcell, sx_mset, elAt, setEl, isLst, cellsOf, sxl_nil, sxl_set, sxl_call, sxl_callv, sxl_g1, sxl_g2, sxl_g3, sxl_g4, OkS_true, GrdS_tt, GrdS_tf, GrdS_ft, GrdS_ff, CondS_t, CondS_f, then_n, then_e, then_r, blk_n, blk_e, blk_r, upd_app, Ex.ok, Ex.val, Opd.val, POp.dst, bin_int, binOK_int, bin_str, binOK_str, resOK, resV, RB.val, sub, putc, scB, scL, oneB, conf, Ex.val.eqP, Ex.val.eqL, negV, mxV, mnV, ← wr_eq, wr_zero, wr_one, wr_m1, bst_lst, byteC, partsOK, putAll, appV, nilV, slV, sslV, optB, optNum, and_assoc, exists_and_left, exists_eq_left']
  refine sx_count l.length (fun n V => V 0 = .lst 3 nl (l.map ed) ∧ V 4 = i n ∧ V 3 = .lst 3 false ((frED l n).map ed)) 0 (by omega) (by simp [sx_skip, sx_ops, sx_seq, sx_cond, sx_block, sx_exit, sx_ret, sx_mcall, sx_mcell, sx_mset, elAt, setEl, isLst, cellsOf, sxl_nil, sxl_set, sxl_call, sxl_callv, sxl_g1, sxl_g2, sxl_g3, sxl_g4, OkS_true, GrdS_tt, GrdS_tf, GrdS_ft, GrdS_ff, CondS_t, CondS_f, then_n, then_e, then_r, blk_n, blk_e, blk_r, upd_app, Ex.ok, Ex.val, Opd.val, POp.dst, bin_int, binOK_int, bin_str, binOK_str, resOK, resV, RB.val, sub, putc, scB, scL, oneB, conf, Ex.val.eqP, Ex.val.eqL, negV, mxV, mnV, ← wr_eq, wr_zero, wr_one, wr_m1, bst_lst, byteC, partsOK, putAll, appV, nilV, slV, sslV, optB, optNum, and_assoc, exists_and_left, exists_eq_left', frED]) ?_
  rintro n V hn ⟨h0, h4, h3⟩
  have hw : wr .i64 ((n : Int) + 1) = n + 1 := wr_in (by omega) (by omega)
  simp [sx_skip, sx_ops, sx_seq, sx_cond, sx_block, sx_exit, sx_ret, sx_mcall, sx_mcell, sx_mset, elAt, setEl, isLst, cellsOf, sxl_nil, sxl_set, sxl_call, sxl_callv, sxl_g1, sxl_g2, sxl_g3, sxl_g4, OkS_true, GrdS_tt, GrdS_tf, GrdS_ft, GrdS_ff, CondS_t, CondS_f, then_n, then_e, then_r, blk_n, blk_e, blk_r, upd_app, Ex.ok, Ex.val, Opd.val, POp.dst, bin_int, binOK_int, bin_str, binOK_str, resOK, resV, RB.val, sub, putc, scB, scL, oneB, conf, Ex.val.eqP, Ex.val.eqL, negV, mxV, mnV, ← wr_eq, wr_zero, wr_one, wr_m1, bst_lst, byteC, partsOK, putAll, appV, nilV, slV, sslV, optB, optNum, and_assoc, exists_and_left, exists_eq_left', h0, h4]
  refine CondS_d (fun hlt => ?_) (fun hge => ?_)
  · have hlt' : n < l.length := by omega
    have hnx := frED_succ hlt'
    have hlen := frED_len (l := l) (n := n) (by omega)
    have hd := hf l[n] (List.getElem_mem ..)
    have hc := f103 l[n].f1 l[n].nl hd.1 (fun y hy => (hd.2 y hy).1)
    have hee : ed l[n].fr = [i l[n].f0, .lst 5 false ((l[n].f1.map Ft.fr).map ft), i l[n].f2] := rfl
    obtain ⟨Z, hZ⟩ : ∃ Z, (l[n].f1.map Ft.fr).map ft = Z := ⟨_, rfl⟩
    rw [hZ] at hc hee
    clear hZ hf hd
    repeat' (first | intro _ | (simp [sx_skip, sx_ops, sx_seq, sx_cond, sx_block, sx_exit, sx_ret, sx_mcall, sx_mcell, sx_mset, elAt, setEl, isLst, cellsOf, sxl_nil, sxl_set, sxl_call, sxl_callv, sxl_g1, sxl_g2, sxl_g3, sxl_g4, OkS_true, GrdS_tt, GrdS_tf, GrdS_ft, GrdS_ff, CondS_t, CondS_f, then_n, then_e, then_r, blk_n, blk_e, blk_r, upd_app, Ex.ok, Ex.val, Opd.val, POp.dst, bin_int, binOK_int, bin_str, binOK_str, resOK, resV, RB.val, sub, putc, scB, scL, oneB, conf, Ex.val.eqP, Ex.val.eqL, negV, mxV, mnV, ← wr_eq, wr_zero, wr_one, wr_m1, bst_lst, byteC, partsOK, putAll, appV, nilV, slV, sslV, optB, optNum, and_assoc, exists_and_left, exists_eq_left', ed, *]) | refine CallS_i (hc) ?_ | refine CallM_i (hc) ?_ | refine CallE_i (hc) ?_ | refine CondS_d (fun h => ?_) (fun h => ?_) | refine CondS_b (fun h => ?_) (fun h => ?_) | refine GrdS_d (fun h => ?_) (fun h => ?_) | refine GrdS_b (fun h => ?_) (fun h => ?_) | refine OkS_i (by omega) ?_ | fail)
    all_goals first | omega | exact ⟨rfl, rfl, by have h := (List.cons.inj (List.cons.inj hee).2).1; injection h with _ _ h; exact h.symm, rfl⟩
  · have : n = l.length := by omega
    subst this
    have ha := frED_all l
    repeat' (first | intro _ | (simp [sx_skip, sx_ops, sx_seq, sx_cond, sx_block, sx_exit, sx_ret, sx_mcall, sx_mcell, sx_mset, elAt, setEl, isLst, cellsOf, sxl_nil, sxl_set, sxl_call, sxl_callv, sxl_g1, sxl_g2, sxl_g3, sxl_g4, OkS_true, GrdS_tt, GrdS_tf, GrdS_ft, GrdS_ff, CondS_t, CondS_f, then_n, then_e, then_r, blk_n, blk_e, blk_r, upd_app, Ex.ok, Ex.val, Opd.val, POp.dst, bin_int, binOK_int, bin_str, binOK_str, resOK, resV, RB.val, sub, putc, scB, scL, oneB, conf, Ex.val.eqP, Ex.val.eqL, negV, mxV, mnV, ← wr_eq, wr_zero, wr_one, wr_m1, bst_lst, byteC, partsOK, putAll, appV, nilV, slV, sslV, optB, optNum, and_assoc, exists_and_left, exists_eq_left', *]) | refine CondS_d (fun h => ?_) (fun h => ?_) | refine CondS_b (fun h => ?_) (fun h => ?_) | refine GrdS_d (fun h => ?_) (fun h => ?_) | refine GrdS_b (fun h => ?_) (fun h => ?_) | refine OkS_i (by omega) ?_ | fail)
theorem f127 (l : List Ed) (nl : Bool) (hl : l.length ≤ 1000000000) (hf : ∀ x ∈ l, x.fine) : Fn Try.prog 127 true [.lst 3 nl (l.map ed)] (.lst 3 false ((l.map Ed.fr).map ed)) := by
  refine Fn.by_sx hX (by kernel_rfl) c127 (by kernel_rfl) (by rfl) ?_
  simp [i127, sx_skip, sx_ops, sx_seq, sx_cond, sx_block, sx_exit, sx_ret, sx_mcall, sx_mcell, sx_mset, elAt, setEl, isLst, cellsOf, sxl_nil, sxl_set, sxl_call, sxl_callv, sxl_g1, sxl_g2, sxl_g3, sxl_g4, OkS_true, GrdS_tt, GrdS_tf, GrdS_ft, GrdS_ff, CondS_t, CondS_f, then_n, then_e, then_r, blk_n, blk_e, blk_r, upd_app, Ex.ok, Ex.val, Opd.val, POp.dst, bin_int, binOK_int, bin_str, binOK_str, resOK, resV, RB.val, sub, putc, scB, scL, oneB, conf, Ex.val.eqP, Ex.val.eqL, negV, mxV, mnV, ← wr_eq, wr_zero, wr_one, wr_m1, bst_lst, byteC, partsOK, putAll, appV, nilV, slV, sslV, optB, optNum, and_assoc, exists_and_left, exists_eq_left']
  refine sx_count l.length (fun n V => V 7 = .lst 3 nl (l.map ed) ∧ V 8 = i l.length ∧ V 9 = i n ∧ V 3 = .lst 3 false ((frED l n).map ed)) 0 (by omega) (by simp [sx_skip, sx_ops, sx_seq, sx_cond, sx_block, sx_exit, sx_ret, sx_mcall, sx_mcell, sx_mset, elAt, setEl, isLst, cellsOf, sxl_nil, sxl_set, sxl_call, sxl_callv, sxl_g1, sxl_g2, sxl_g3, sxl_g4, OkS_true, GrdS_tt, GrdS_tf, GrdS_ft, GrdS_ff, CondS_t, CondS_f, then_n, then_e, then_r, blk_n, blk_e, blk_r, upd_app, Ex.ok, Ex.val, Opd.val, POp.dst, bin_int, binOK_int, bin_str, binOK_str, resOK, resV, RB.val, sub, putc, scB, scL, oneB, conf, Ex.val.eqP, Ex.val.eqL, negV, mxV, mnV, ← wr_eq, wr_zero, wr_one, wr_m1, bst_lst, byteC, partsOK, putAll, appV, nilV, slV, sslV, optB, optNum, and_assoc, exists_and_left, exists_eq_left', frED]) ?_
  rintro n V hn ⟨h7, h8, h9, h3⟩
  have hw : wr .i64 ((n : Int) + 1) = n + 1 := wr_in (by omega) (by omega)
  simp [sx_skip, sx_ops, sx_seq, sx_cond, sx_block, sx_exit, sx_ret, sx_mcall, sx_mcell, sx_mset, elAt, setEl, isLst, cellsOf, sxl_nil, sxl_set, sxl_call, sxl_callv, sxl_g1, sxl_g2, sxl_g3, sxl_g4, OkS_true, GrdS_tt, GrdS_tf, GrdS_ft, GrdS_ff, CondS_t, CondS_f, then_n, then_e, then_r, blk_n, blk_e, blk_r, upd_app, Ex.ok, Ex.val, Opd.val, POp.dst, bin_int, binOK_int, bin_str, binOK_str, resOK, resV, RB.val, sub, putc, scB, scL, oneB, conf, Ex.val.eqP, Ex.val.eqL, negV, mxV, mnV, ← wr_eq, wr_zero, wr_one, wr_m1, bst_lst, byteC, partsOK, putAll, appV, nilV, slV, sslV, optB, optNum, and_assoc, exists_and_left, exists_eq_left', h8, h9]
  refine CondS_d (fun hlt => ?_) (fun hge => ?_)
  · have hlt' : n < l.length := by omega
    have hnx := frED_succ hlt'
    have hlen := frED_len (l := l) (n := n) (by omega)
    have hd := hf l[n] (List.getElem_mem ..)
    have hc := f110 l[n].f1 l[n].nl hd.1 (fun y hy => (hd.2 y hy).1) (fun y hy => (hd.2 y hy).2)
    have hee : ed l[n].fr = [i l[n].f0, .lst 5 false ((l[n].f1.map Ft.fr).map ft), i l[n].f2] := rfl
    obtain ⟨Z, hZ⟩ : ∃ Z, (l[n].f1.map Ft.fr).map ft = Z := ⟨_, rfl⟩
    rw [hZ] at hc hee
    clear hZ hf hd
    repeat' (first | intro _ | (simp [sx_skip, sx_ops, sx_seq, sx_cond, sx_block, sx_exit, sx_ret, sx_mcall, sx_mcell, sx_mset, elAt, setEl, isLst, cellsOf, sxl_nil, sxl_set, sxl_call, sxl_callv, sxl_g1, sxl_g2, sxl_g3, sxl_g4, OkS_true, GrdS_tt, GrdS_tf, GrdS_ft, GrdS_ff, CondS_t, CondS_f, then_n, then_e, then_r, blk_n, blk_e, blk_r, upd_app, Ex.ok, Ex.val, Opd.val, POp.dst, bin_int, binOK_int, bin_str, binOK_str, resOK, resV, RB.val, sub, putc, scB, scL, oneB, conf, Ex.val.eqP, Ex.val.eqL, negV, mxV, mnV, ← wr_eq, wr_zero, wr_one, wr_m1, bst_lst, byteC, partsOK, putAll, appV, nilV, slV, sslV, optB, optNum, and_assoc, exists_and_left, exists_eq_left', ed, *]) | refine CallS_i (hc) ?_ | refine CallM_i (hc) ?_ | refine CallE_i (hc) ?_ | refine CondS_d (fun h => ?_) (fun h => ?_) | refine CondS_b (fun h => ?_) (fun h => ?_) | refine GrdS_d (fun h => ?_) (fun h => ?_) | refine GrdS_b (fun h => ?_) (fun h => ?_) | refine OkS_i (by omega) ?_ | fail)
    all_goals first | omega | exact ⟨rfl, rfl, by have h := (List.cons.inj (List.cons.inj hee).2).1; injection h with _ _ h; exact h.symm, rfl⟩
  · have : n = l.length := by omega
    subst this
    have ha := frED_all l
    repeat' (first | intro _ | (simp [sx_skip, sx_ops, sx_seq, sx_cond, sx_block, sx_exit, sx_ret, sx_mcall, sx_mcell, sx_mset, elAt, setEl, isLst, cellsOf, sxl_nil, sxl_set, sxl_call, sxl_callv, sxl_g1, sxl_g2, sxl_g3, sxl_g4, OkS_true, GrdS_tt, GrdS_tf, GrdS_ft, GrdS_ff, CondS_t, CondS_f, then_n, then_e, then_r, blk_n, blk_e, blk_r, upd_app, Ex.ok, Ex.val, Opd.val, POp.dst, bin_int, binOK_int, bin_str, binOK_str, resOK, resV, RB.val, sub, putc, scB, scL, oneB, conf, Ex.val.eqP, Ex.val.eqL, negV, mxV, mnV, ← wr_eq, wr_zero, wr_one, wr_m1, bst_lst, byteC, partsOK, putAll, appV, nilV, slV, sslV, optB, optNum, and_assoc, exists_and_left, exists_eq_left', *]) | refine CondS_d (fun h => ?_) (fun h => ?_) | refine CondS_b (fun h => ?_) (fun h => ?_) | refine GrdS_d (fun h => ?_) (fun h => ?_) | refine GrdS_b (fun h => ?_) (fun h => ?_) | refine OkS_i (by omega) ?_ | fail)
def bef (l : List Ed) : Int := if l.length = 0 then 0 else (l.getD (l.length - 1) edD).f2
def adE (l : List Ed) (tick : Int) (s : List Ft) : Ed := ⟨tick, s.map Ft.fr, slOf (bef l) tick s, false⟩
def adO (l : List Ed) (tick : Int) (s : List Ft) : List Ed := l.map Ed.fr ++ [adE l tick s]
def adR (l : List Ed) (tick : Int) (s : List Ft) : List Ed := if wEds (adO l tick s) = true then adO l tick s else l.map Ed.fr
theorem okS {s : List Ft} (hs : s.length ≤ 1000000000 ∧ ∀ y ∈ s, y.f3.size ≤ 1048576 ∧ y.f4.length ≤ 1048576 ∧ y.nl = false) : ∀ y ∈ s, y.okay := fun y hy => by have := hs.2 y hy; unfold Ft.okay; omega
theorem adO_ok {l : List Ed} {tick : Int} {s : List Ft} (hm : ∀ x ∈ l, x.small) (hs : s.length ≤ 1048576 ∧ ∀ y ∈ s, y.f3.size ≤ 1048576 ∧ y.f4.length ≤ 1048576 ∧ y.nl = false) : ∀ x ∈ adO l tick s, x.small := by
  intro x hx
  unfold adO at hx
  rcases List.mem_append.1 hx with hx | hx
  · obtain ⟨y, hy, rfl⟩ := List.mem_map.1 hx
    exact Ed.small_fr (hm y hy)
  · simp only [List.mem_singleton] at hx
    subst hx
    refine ⟨by simp [adE]; exact hs.1, fun y hy => ?_⟩
    unfold adE at hy
    obtain ⟨z, hz, rfl⟩ := List.mem_map.1 hy
    exact ⟨(hs.2 z hz).1, (hs.2 z hz).2.1⟩
def Ed.whole (x : Ed) : Prop := x.small ∧ x.nl = false ∧ ∀ y ∈ x.f1, y.nl = false
theorem Ed.whole_fine {x : Ed} (h : x.whole) : x.fine := ⟨by have := h.1.1; omega, fun y hy => ⟨by have := h.1.2 y hy; omega, h.2.2 y hy⟩⟩
theorem f63 (l : List Ed) (nl : Bool) (tick : Int) (s : List Ft) (n2 : Bool) (hl : l.length ≤ 1048576) (hw : ∀ x ∈ l, x.whole) (hs : s.length ≤ 1048576 ∧ ∀ y ∈ s, y.f3.size ≤ 1048576 ∧ y.f4.length ≤ 1048576 ∧ y.nl = false) :
    Fn Try.prog 63 true [.lst 3 nl (l.map ed), i tick, .lst 5 n2 (s.map ft)] (.tup [.lst 3 false ((adR l tick s).map ed), .bool (wEds (adO l tick s))]) := by
  have hf : ∀ x ∈ l, x.fine := fun x hx => Ed.whole_fine (hw x hx)
  have hc1 := f125 l nl (by omega) hf
  have hc2 := f103 s n2 (by omega) (fun y hy => by have := hs.2 y hy; omega)
  have hc3 := f126 (bef l) tick s n2 (by omega) (okS ⟨by omega, hs.2⟩)
  have hc4 := f121 (adO l tick s) false (by simp [adO]; omega) (fun x hx => Ed.okay_of (adO_ok (fun x hx => (hw x hx).1) hs x hx))
  have ho : (adO l tick s).map ed = (l.map Ed.fr).map ed ++ [[i tick, .lst 5 false ((s.map Ft.fr).map ft), i (slOf (bef l) tick s)]] := by unfold adO; rw [List.map_append]; rfl
  rw [ho] at hc4
  have hR : (adR l tick s).map ed = if wEds (adO l tick s) = true then (l.map Ed.fr).map ed ++ [[i tick, .lst 5 false ((s.map Ft.fr).map ft), i (slOf (bef l) tick s)]] else (l.map Ed.fr).map ed := by unfold adR; split <;> first | exact ho | rfl
  rw [hR]
  have hcl : ((l.map Ed.fr).map ed).length = l.length := by simp
  obtain ⟨C, hC⟩ : ∃ C, (l.map Ed.fr).map ed = C := ⟨_, rfl⟩
  obtain ⟨Z, hZ⟩ : ∃ Z, (s.map Ft.fr).map ft = Z := ⟨_, rfl⟩
  obtain ⟨S, hS⟩ : ∃ S, slOf (bef l) tick s = S := ⟨_, rfl⟩
  obtain ⟨b, hb⟩ : ∃ b, wEds (adO l tick s) = b := ⟨_, rfl⟩
  rw [hC] at hc1 hc4 hcl ⊢
  rw [hZ] at hc2 hc4 ⊢
  rw [hS] at hc3 hc4 ⊢
  rw [hb] at hc4 ⊢
  clear hC hZ hS hb hR ho hf hw hs
  refine Fn.by_sx hX (by kernel_rfl) c63 (by kernel_rfl) (by rfl) ?_
  simp [i63, sx_skip, sx_ops, sx_seq, sx_cond, sx_block, sx_exit, sx_ret, sx_mcall, sx_mcell, sx_mset, elAt, setEl, isLst, cellsOf, sxl_nil, sxl_set, sxl_call, sxl_callv, sxl_g1, sxl_g2, sxl_g3, sxl_g4, OkS_true, GrdS_tt, GrdS_tf, GrdS_ft, GrdS_ff, CondS_t, CondS_f, then_n, then_e, then_r, blk_n, blk_e, blk_r, upd_app, Ex.ok, Ex.val, Opd.val, POp.dst, bin_int, binOK_int, bin_str, binOK_str, resOK, resV, RB.val, sub, putc, scB, scL, oneB, conf, Ex.val.eqP, Ex.val.eqL, negV, mxV, mnV, ← wr_eq, wr_zero, wr_one, wr_m1, bst_lst, byteC, partsOK, putAll, appV, nilV, slV, sslV, optB, optNum, and_assoc, exists_and_left, exists_eq_left']
  rcases Nat.eq_zero_or_pos l.length with h0 | hpos
  · have hbf : bef l = 0 := by unfold bef; rw [if_pos h0]
    have h0' : ¬ (0 : Int) < l.length := by omega
    have h0n : ¬ 0 < l.length := by omega
    rw [hbf] at hc3
    cases b
    all_goals repeat' (first | intro _ | (simp [sx_skip, sx_ops, sx_seq, sx_cond, sx_block, sx_exit, sx_ret, sx_mcall, sx_mcell, sx_mset, elAt, setEl, isLst, cellsOf, sxl_nil, sxl_set, sxl_call, sxl_callv, sxl_g1, sxl_g2, sxl_g3, sxl_g4, OkS_true, GrdS_tt, GrdS_tf, GrdS_ft, GrdS_ff, CondS_t, CondS_f, then_n, then_e, then_r, blk_n, blk_e, blk_r, upd_app, Ex.ok, Ex.val, Opd.val, POp.dst, bin_int, binOK_int, bin_str, binOK_str, resOK, resV, RB.val, sub, putc, scB, scL, oneB, conf, Ex.val.eqP, Ex.val.eqL, negV, mxV, mnV, ← wr_eq, wr_zero, wr_one, wr_m1, bst_lst, byteC, partsOK, putAll, appV, nilV, slV, sslV, optB, optNum, and_assoc, exists_and_left, exists_eq_left', *]) | refine CallS_i (hc1) ?_ | refine CallS_i (hc2) ?_ | refine CallS_i (hc3) ?_ | refine CallS_i (hc4) ?_ | refine CallM_i (hc1) ?_ | refine CallM_i (hc2) ?_ | refine CallM_i (hc3) ?_ | refine CallM_i (hc4) ?_ | refine CallE_i (hc1) ?_ | refine CallE_i (hc2) ?_ | refine CallE_i (hc3) ?_ | refine CallE_i (hc4) ?_ | refine CondS_d (fun h => ?_) (fun h => ?_) | refine CondS_b (fun h => ?_) (fun h => ?_) | refine GrdS_d (fun h => ?_) (fun h => ?_) | refine GrdS_b (fun h => ?_) (fun h => ?_) | refine OkS_i (by omega) ?_ | fail)
    all_goals first | omega | simp_all
  · have hm : l.length - 1 < l.length := by omega
    have hbf : bef l = l[l.length - 1].f2 := by unfold bef; rw [if_neg (by omega)]; simp [hm]
    have hw2 : wr .i64 ((l.length : Int) - 1) = ((l.length - 1 : Nat) : Int) := wrap_down _ hpos (by omega)
    have h0' : (0 : Int) < l.length := by omega
    rw [hbf] at hc3
    cases b
    all_goals repeat' (first | intro _ | (simp [sx_skip, sx_ops, sx_seq, sx_cond, sx_block, sx_exit, sx_ret, sx_mcall, sx_mcell, sx_mset, elAt, setEl, isLst, cellsOf, sxl_nil, sxl_set, sxl_call, sxl_callv, sxl_g1, sxl_g2, sxl_g3, sxl_g4, OkS_true, GrdS_tt, GrdS_tf, GrdS_ft, GrdS_ff, CondS_t, CondS_f, then_n, then_e, then_r, blk_n, blk_e, blk_r, upd_app, Ex.ok, Ex.val, Opd.val, POp.dst, bin_int, binOK_int, bin_str, binOK_str, resOK, resV, RB.val, sub, putc, scB, scL, oneB, conf, Ex.val.eqP, Ex.val.eqL, negV, mxV, mnV, ← wr_eq, wr_zero, wr_one, wr_m1, bst_lst, byteC, partsOK, putAll, appV, nilV, slV, sslV, optB, optNum, and_assoc, exists_and_left, exists_eq_left', ed, *]) | refine CallS_i (hc1) ?_ | refine CallS_i (hc2) ?_ | refine CallS_i (hc3) ?_ | refine CallS_i (hc4) ?_ | refine CallM_i (hc1) ?_ | refine CallM_i (hc2) ?_ | refine CallM_i (hc3) ?_ | refine CallM_i (hc4) ?_ | refine CallE_i (hc1) ?_ | refine CallE_i (hc2) ?_ | refine CallE_i (hc3) ?_ | refine CallE_i (hc4) ?_ | refine CondS_d (fun h => ?_) (fun h => ?_) | refine CondS_b (fun h => ?_) (fun h => ?_) | refine GrdS_d (fun h => ?_) (fun h => ?_) | refine GrdS_b (fun h => ?_) (fun h => ?_) | refine OkS_i (by omega) ?_ | fail)
    all_goals first | omega | simp_all
theorem f64 (l : List Ed) (nl : Bool) (tick : Int) (s : List Ft) (n2 : Bool) (hl : l.length ≤ 1048576) (hw : ∀ x ∈ l, x.whole) (hs : s.length ≤ 1048576 ∧ ∀ y ∈ s, y.f3.size ≤ 1048576 ∧ y.f4.length ≤ 1048576 ∧ y.nl = false) :
    Fn Try.prog 64 true [.lst 3 nl (l.map ed), i tick, .lst 5 n2 (s.map ft)] (.tup [.lst 3 false ((adR l tick s).map ed), .bool (wEds (adO l tick s))]) := by
  have hf : ∀ x ∈ l, x.fine := fun x hx => Ed.whole_fine (hw x hx)
  have hc1 := f127 l nl (by omega) hf
  have hc2 := f110 s n2 (by omega) (fun y hy => by have := hs.2 y hy; omega) (fun y hy => (hs.2 y hy).2.2)
  have hc3 := f128 (bef l) tick s n2 (by omega) (okS ⟨by omega, hs.2⟩)
  have hc4 := f123 (adO l tick s) false (by simp [adO]; omega) (fun x hx => Ed.okay_of (adO_ok (fun x hx => (hw x hx).1) hs x hx))
  have ho : (adO l tick s).map ed = (l.map Ed.fr).map ed ++ [[i tick, .lst 5 false ((s.map Ft.fr).map ft), i (slOf (bef l) tick s)]] := by unfold adO; rw [List.map_append]; rfl
  rw [ho] at hc4
  have hR : (adR l tick s).map ed = if wEds (adO l tick s) = true then (l.map Ed.fr).map ed ++ [[i tick, .lst 5 false ((s.map Ft.fr).map ft), i (slOf (bef l) tick s)]] else (l.map Ed.fr).map ed := by unfold adR; split <;> first | exact ho | rfl
  rw [hR]
  have hcl : ((l.map Ed.fr).map ed).length = l.length := by simp
  obtain ⟨C, hC⟩ : ∃ C, (l.map Ed.fr).map ed = C := ⟨_, rfl⟩
  obtain ⟨Z, hZ⟩ : ∃ Z, (s.map Ft.fr).map ft = Z := ⟨_, rfl⟩
  obtain ⟨S, hS⟩ : ∃ S, slOf (bef l) tick s = S := ⟨_, rfl⟩
  obtain ⟨b, hb⟩ : ∃ b, wEds (adO l tick s) = b := ⟨_, rfl⟩
  rw [hC] at hc1 hc4 hcl ⊢
  rw [hZ] at hc2 hc4 ⊢
  rw [hS] at hc3 hc4 ⊢
  rw [hb] at hc4 ⊢
  clear hC hZ hS hb hR ho hf hw hs
  refine Fn.by_sx hX (by kernel_rfl) c64 (by kernel_rfl) (by rfl) ?_
  simp [i64, sx_skip, sx_ops, sx_seq, sx_cond, sx_block, sx_exit, sx_ret, sx_mcall, sx_mcell, sx_mset, elAt, setEl, isLst, cellsOf, sxl_nil, sxl_set, sxl_call, sxl_callv, sxl_g1, sxl_g2, sxl_g3, sxl_g4, OkS_true, GrdS_tt, GrdS_tf, GrdS_ft, GrdS_ff, CondS_t, CondS_f, then_n, then_e, then_r, blk_n, blk_e, blk_r, upd_app, Ex.ok, Ex.val, Opd.val, POp.dst, bin_int, binOK_int, bin_str, binOK_str, resOK, resV, RB.val, sub, putc, scB, scL, oneB, conf, Ex.val.eqP, Ex.val.eqL, negV, mxV, mnV, ← wr_eq, wr_zero, wr_one, wr_m1, bst_lst, byteC, partsOK, putAll, appV, nilV, slV, sslV, optB, optNum, and_assoc, exists_and_left, exists_eq_left']
  rcases Nat.eq_zero_or_pos l.length with h0 | hpos
  · have hbf : bef l = 0 := by unfold bef; rw [if_pos h0]
    have h0' : ¬ (0 : Int) < l.length := by omega
    have h0n : ¬ 0 < l.length := by omega
    rw [hbf] at hc3
    cases b
    all_goals repeat' (first | intro _ | (simp [sx_skip, sx_ops, sx_seq, sx_cond, sx_block, sx_exit, sx_ret, sx_mcall, sx_mcell, sx_mset, elAt, setEl, isLst, cellsOf, sxl_nil, sxl_set, sxl_call, sxl_callv, sxl_g1, sxl_g2, sxl_g3, sxl_g4, OkS_true, GrdS_tt, GrdS_tf, GrdS_ft, GrdS_ff, CondS_t, CondS_f, then_n, then_e, then_r, blk_n, blk_e, blk_r, upd_app, Ex.ok, Ex.val, Opd.val, POp.dst, bin_int, binOK_int, bin_str, binOK_str, resOK, resV, RB.val, sub, putc, scB, scL, oneB, conf, Ex.val.eqP, Ex.val.eqL, negV, mxV, mnV, ← wr_eq, wr_zero, wr_one, wr_m1, bst_lst, byteC, partsOK, putAll, appV, nilV, slV, sslV, optB, optNum, and_assoc, exists_and_left, exists_eq_left', *]) | refine CallS_i (hc1) ?_ | refine CallS_i (hc2) ?_ | refine CallS_i (hc3) ?_ | refine CallS_i (hc4) ?_ | refine CallM_i (hc1) ?_ | refine CallM_i (hc2) ?_ | refine CallM_i (hc3) ?_ | refine CallM_i (hc4) ?_ | refine CallE_i (hc1) ?_ | refine CallE_i (hc2) ?_ | refine CallE_i (hc3) ?_ | refine CallE_i (hc4) ?_ | refine CondS_d (fun h => ?_) (fun h => ?_) | refine CondS_b (fun h => ?_) (fun h => ?_) | refine GrdS_d (fun h => ?_) (fun h => ?_) | refine GrdS_b (fun h => ?_) (fun h => ?_) | refine OkS_i (by omega) ?_ | fail)
    all_goals first | omega | simp_all
  · have hm : l.length - 1 < l.length := by omega
    have hbf : bef l = l[l.length - 1].f2 := by unfold bef; rw [if_neg (by omega)]; simp [hm]
    have hw2 : wr .i64 ((l.length : Int) - 1) = ((l.length - 1 : Nat) : Int) := wrap_down _ hpos (by omega)
    have h0' : (0 : Int) < l.length := by omega
    rw [hbf] at hc3
    cases b
    all_goals repeat' (first | intro _ | (simp [sx_skip, sx_ops, sx_seq, sx_cond, sx_block, sx_exit, sx_ret, sx_mcall, sx_mcell, sx_mset, elAt, setEl, isLst, cellsOf, sxl_nil, sxl_set, sxl_call, sxl_callv, sxl_g1, sxl_g2, sxl_g3, sxl_g4, OkS_true, GrdS_tt, GrdS_tf, GrdS_ft, GrdS_ff, CondS_t, CondS_f, then_n, then_e, then_r, blk_n, blk_e, blk_r, upd_app, Ex.ok, Ex.val, Opd.val, POp.dst, bin_int, binOK_int, bin_str, binOK_str, resOK, resV, RB.val, sub, putc, scB, scL, oneB, conf, Ex.val.eqP, Ex.val.eqL, negV, mxV, mnV, ← wr_eq, wr_zero, wr_one, wr_m1, bst_lst, byteC, partsOK, putAll, appV, nilV, slV, sslV, optB, optNum, and_assoc, exists_and_left, exists_eq_left', ed, *]) | refine CallS_i (hc1) ?_ | refine CallS_i (hc2) ?_ | refine CallS_i (hc3) ?_ | refine CallS_i (hc4) ?_ | refine CallM_i (hc1) ?_ | refine CallM_i (hc2) ?_ | refine CallM_i (hc3) ?_ | refine CallM_i (hc4) ?_ | refine CallE_i (hc1) ?_ | refine CallE_i (hc2) ?_ | refine CallE_i (hc3) ?_ | refine CallE_i (hc4) ?_ | refine CondS_d (fun h => ?_) (fun h => ?_) | refine CondS_b (fun h => ?_) (fun h => ?_) | refine GrdS_d (fun h => ?_) (fun h => ?_) | refine GrdS_b (fun h => ?_) (fun h => ?_) | refine OkS_i (by omega) ?_ | fail)
    all_goals first | omega | simp_all
theorem wtToE_all (l : List Ed) : wtToE l l.length = (l.map fun x => wtLF x.f1).sum := by unfold wtToE; rw [List.take_of_length_le (Nat.le_refl _)]
theorem sum_fr (l : List Ed) : ((l.map Ed.fr).map fun x => wtLF x.f1).sum = (l.map fun x => wtLF x.f1).sum := by
  rw [List.map_map]
  congr 1
  apply List.map_congr_left
  intro x _
  exact wtLF_fr x.f1
theorem adR_k {l : List Ed} {tick : Int} {s : List Ft} (h1 : wtLE l ≤ 1048576) (h2 : wtLF s ≤ 1048576) : kToD (adR l tick s) 1 (adR l tick s).length ≤ 1000000000 := by
  have h := kToD_le (adR l tick s) (adR l tick s).length (Nat.le_refl _) 1
  rw [wtToE_all] at h
  have hL : (adR l tick s).length ≤ l.length + 1 := by unfold adR adO; split <;> simp
  have hS : ((adR l tick s).map fun x => wtLF x.f1).sum ≤ (l.map fun x => wtLF x.f1).sum + wtLF s := by
    unfold adR adO
    split
    · rw [List.map_append, List.sum_append, sum_fr]
      simp [adE, wtLF_fr]
    · rw [sum_fr]; omega
  unfold wtLE at h1
  rw [wtToE_all] at h1
  omega
theorem adR_small {l : List Ed} {tick : Int} {s : List Ft} (hw : ∀ x ∈ l, x.whole) (hs : s.length ≤ 1048576 ∧ ∀ y ∈ s, y.f3.size ≤ 1048576 ∧ y.f4.length ≤ 1048576 ∧ y.nl = false) : ∀ x ∈ adR l tick s, x.whole := by
  have hfr : ∀ (L : List Ft), ∀ y ∈ L.map Ft.fr, y.nl = false := by
    intro L y hy
    obtain ⟨z, _, rfl⟩ := List.mem_map.1 hy
    rfl
  have h1 : ∀ x ∈ adO l tick s, x.whole := by
    intro x hx
    refine ⟨adO_ok (fun x hx => (hw x hx).1) hs x hx, ?_⟩
    unfold adO at hx
    rcases List.mem_append.1 hx with hx | hx
    · obtain ⟨y, hy, rfl⟩ := List.mem_map.1 hx
      exact ⟨rfl, hfr _⟩
    · simp only [List.mem_singleton] at hx
      subst hx
      exact ⟨rfl, hfr _⟩
  intro x hx
  unfold adR at hx
  split at hx
  · exact h1 x hx
  · exact h1 x (by unfold adO; exact List.mem_append_left _ hx)
theorem f11 (l : List Ed) (n1 : Bool) (tick : Int) (s0 : List Ft) (n2 : Bool) (hl : l.length ≤ 9223372036854775807) (hx : ∀ x ∈ l, x.fits) (hls : s0.length ≤ 9223372036854775807) (hxs : ∀ x ∈ s0, x.fits) : Fn Try.prog 11 false [.lst 3 n1 (l.map ed), i tick, .lst 5 n2 (s0.map ft)] (.bool true) := by
  refine Fn.by_sx hX (by kernel_rfl) c11 (by kernel_rfl) (by rfl) ?_
  simp [i11, sx_skip, sx_ops, sx_seq, sx_cond, sx_block, sx_exit, sx_ret, sx_mcall, sx_mcell, sx_mset, elAt, setEl, isLst, cellsOf, sxl_nil, sxl_set, sxl_call, sxl_callv, sxl_g1, sxl_g2, sxl_g3, sxl_g4, OkS_true, GrdS_tt, GrdS_tf, GrdS_ft, GrdS_ff, CondS_t, CondS_f, then_n, then_e, then_r, blk_n, blk_e, blk_r, upd_app, Ex.ok, Ex.val, Opd.val, POp.dst, bin_int, binOK_int, bin_str, binOK_str, resOK, resV, RB.val, sub, putc, scB, scL, oneB, conf, Ex.val.eqP, Ex.val.eqL, negV, mxV, mnV, ← wr_eq, wr_zero, wr_one, wr_m1, bst_lst, byteC, partsOK, putAll, appV, nilV, slV, sslV, optB, optNum, and_assoc, exists_and_left, exists_eq_left']
  refine CallS_s (f57 l n1 1048576 (by omega) (by omega) hl hx) rfl ?_
  by_cases hbig : (1048576 : Int) - wtLE l < 0
  · have : szr 1048576 (wtLE l : Nat) = -1 := if_pos hbig
    rw [this]
    repeat' (first | intro _ | (simp [sx_skip, sx_ops, sx_seq, sx_cond, sx_block, sx_exit, sx_ret, sx_mcall, sx_mcell, sx_mset, elAt, setEl, isLst, cellsOf, sxl_nil, sxl_set, sxl_call, sxl_callv, sxl_g1, sxl_g2, sxl_g3, sxl_g4, OkS_true, GrdS_tt, GrdS_tf, GrdS_ft, GrdS_ff, CondS_t, CondS_f, then_n, then_e, then_r, blk_n, blk_e, blk_r, upd_app, Ex.ok, Ex.val, Opd.val, POp.dst, bin_int, binOK_int, bin_str, binOK_str, resOK, resV, RB.val, sub, putc, scB, scL, oneB, conf, Ex.val.eqP, Ex.val.eqL, negV, mxV, mnV, ← wr_eq, wr_zero, wr_one, wr_m1, bst_lst, byteC, partsOK, putAll, appV, nilV, slV, sslV, optB, optNum, and_assoc, exists_and_left, exists_eq_left', *]) | refine CondS_d (fun h => ?_) (fun h => ?_) | refine CondS_b (fun h => ?_) (fun h => ?_) | refine GrdS_d (fun h => ?_) (fun h => ?_) | refine GrdS_b (fun h => ?_) (fun h => ?_) | refine OkS_i (by omega) ?_ | fail)
  have hz : szr 1048576 (wtLE l : Nat) = 1048576 - wtLE l := if_neg hbig
  rw [hz]
  have hnn : ¬ (1048576 : Int) - wtLE l < 0 := by omega
  simp [sx_skip, sx_ops, sx_seq, sx_cond, sx_block, sx_exit, sx_ret, sx_mcall, sx_mcell, sx_mset, elAt, setEl, isLst, cellsOf, sxl_nil, sxl_set, sxl_call, sxl_callv, sxl_g1, sxl_g2, sxl_g3, sxl_g4, OkS_true, GrdS_tt, GrdS_tf, GrdS_ft, GrdS_ff, CondS_t, CondS_f, then_n, then_e, then_r, blk_n, blk_e, blk_r, upd_app, Ex.ok, Ex.val, Opd.val, POp.dst, bin_int, binOK_int, bin_str, binOK_str, resOK, resV, RB.val, sub, putc, scB, scL, oneB, conf, Ex.val.eqP, Ex.val.eqL, negV, mxV, mnV, ← wr_eq, wr_zero, wr_one, wr_m1, bst_lst, byteC, partsOK, putAll, appV, nilV, slV, sslV, optB, optNum, and_assoc, exists_and_left, exists_eq_left', hnn]
  refine CallS_s (f14 s0 n2 (1048576 - wtLE l) (by omega) (by omega) hls hxs) rfl ?_
  by_cases hbig2 : (1048576 : Int) - wtLE l - wtLF s0 < 0
  · have : szr (1048576 - wtLE l) (wtLF s0 : Nat) = -1 := if_pos hbig2
    rw [this]
    repeat' (first | intro _ | (simp [sx_skip, sx_ops, sx_seq, sx_cond, sx_block, sx_exit, sx_ret, sx_mcall, sx_mcell, sx_mset, elAt, setEl, isLst, cellsOf, sxl_nil, sxl_set, sxl_call, sxl_callv, sxl_g1, sxl_g2, sxl_g3, sxl_g4, OkS_true, GrdS_tt, GrdS_tf, GrdS_ft, GrdS_ff, CondS_t, CondS_f, then_n, then_e, then_r, blk_n, blk_e, blk_r, upd_app, Ex.ok, Ex.val, Opd.val, POp.dst, bin_int, binOK_int, bin_str, binOK_str, resOK, resV, RB.val, sub, putc, scB, scL, oneB, conf, Ex.val.eqP, Ex.val.eqL, negV, mxV, mnV, ← wr_eq, wr_zero, wr_one, wr_m1, bst_lst, byteC, partsOK, putAll, appV, nilV, slV, sslV, optB, optNum, and_assoc, exists_and_left, exists_eq_left', *]) | refine CondS_d (fun h => ?_) (fun h => ?_) | refine CondS_b (fun h => ?_) (fun h => ?_) | refine GrdS_d (fun h => ?_) (fun h => ?_) | refine GrdS_b (fun h => ?_) (fun h => ?_) | refine OkS_i (by omega) ?_ | fail)
  have hz2 : szr (1048576 - wtLE l) (wtLF s0 : Nat) = 1048576 - wtLE l - wtLF s0 := if_neg hbig2
  rw [hz2]
  have hnn2 : ¬ (1048576 : Int) - wtLE l - wtLF s0 < 0 := by omega
  have hL := wtLE_len l
  have hLs := wtLF_len s0
  have hl' : l.length ≤ 1048576 := by omega
  have hls' : s0.length ≤ 1048576 := by omega
  have hm : ∀ x ∈ l, x.small := fun x hx => Ed.small_of hx (by omega)
  have hms : ∀ x ∈ s0, x.f3.size ≤ 1048576 ∧ x.f4.length ≤ 1048576 := fun x hx => by have := wtLF_mem hx; omega
  have c1 := f59 l n1 hl' hm
  have c2 := f16 s0 n2 hls' fun x h => (hms x h).2
  obtain ⟨r, hr⟩ : ∃ r, l.map Ed.fr = r := ⟨_, rfl⟩
  obtain ⟨s, hs⟩ : ∃ s, s0.map Ft.fr = s := ⟨_, rfl⟩
  have hrl : r.length ≤ 1048576 := by rw [← hr, List.length_map]; exact hl'
  have hrk := edFr_k hr (by omega)
  have hrw : wtLE r ≤ 1048576 := by
    have : wtLE r = wtLE l := by unfold wtLE; rw [wtToE_all, wtToE_all, ← hr, sum_fr, List.length_map]
    omega
  have hsw : wtLF s ≤ 1048576 := by rw [← hs, wtLF_fr]; omega
  have hrm : ∀ x ∈ r, x.whole := edFr_small hr hm
  have hsl : s.length ≤ 1048576 := by rw [← hs, List.length_map]; exact hls'
  have hsm : ∀ y ∈ s, y.f3.size ≤ 1048576 ∧ y.f4.length ≤ 1048576 ∧ y.nl = false := by
    intro y hy
    rw [← hs] at hy
    obtain ⟨z, hz, rfl⟩ := List.mem_map.1 hy
    exact ⟨(hms z hz).1, (hms z hz).2, rfl⟩
  rw [hr] at c1
  rw [hs] at c2
  have c3 := f63 r false tick s false hrl hrm ⟨hsl, hsm⟩
  have c4 := f64 r false tick s false hrl hrm ⟨hsl, hsm⟩
  have c5 := f61 r false false (by omega) (fun x hx => (hrm x hx).1)
  have c6 := f19 s false false (by omega) fun x h => by have := hsm x h; omega
  have hGk := adR_k (l := r) (tick := tick) (s := s) hrw hsw
  have hGm := adR_small (l := r) (tick := tick) (s := s) hrm ⟨hsl, hsm⟩
  have hGl : (adR r tick s).length ≤ r.length + 1 := by unfold adR adO; split <;> simp
  obtain ⟨G, hGe⟩ : ∃ G, adR r tick s = G := ⟨_, rfl⟩
  obtain ⟨b, hbe⟩ : ∃ b, wEds (adO r tick s) = b := ⟨_, rfl⟩
  rw [hGe, hbe] at c3 c4
  rw [hGe] at hGk hGm hGl
  have c7 := f61 G false false (by omega) (fun x hx => (hGm x hx).1)
  have nlo : ∀ {L : List Ed}, (∀ x ∈ L, x.whole) → ∀ x ∈ L, x.nlok := fun h x hx => ⟨fun hh => by rw [(h x hx).2.1] at hh; (cases hh), fun y hy hh => by rw [(h x hx).2.2 y hy] at hh; (cases hh)⟩
  have flo : ∀ {L : List Ed}, (∀ x ∈ L, x.whole) → ∀ x ∈ L, x.f1.length ≤ 1000000000 := fun h x hx => by have := (h x hx).1.1; omega
  have hk1 := kToD_mono (l := r) (k := 1) (n := 0) (m := r.length) (by omega)
  have hk1 : 1 ≤ kToD r 1 r.length := hk1
  have hk2 := kToD_mono (l := G) (k := 1) (n := 0) (m := G.length) (by omega)
  have hk2 : 1 ≤ kToD G 1 G.length := hk2
  have d1 := f62 r false 1 (by simp) (nlo hrm) (flo hrm) (by omega) (by omega) hrk
  obtain ⟨K, hK⟩ : ∃ K, kToD r 1 r.length = K := ⟨_, rfl⟩
  rw [hK] at d1 hk1 hrk
  have hKs : kTo s K s.length ≤ 1000000000 + 4 * 1048576 := by
    have h1 := kTo_le s s.length (Nat.le_refl _) K
    unfold wtLF at hsw
    have hK2 : K ≤ 1000000000 := hrk
    omega
  have hK2 : K ≤ 100000000 := by
    have h := kToD_le r r.length (Nat.le_refl _) 1
    rw [hK] at h
    unfold wtLE at hrw
    omega
  have hKs : kTo s K s.length ≤ 1000000000 := by
    have h1 := kTo_le s s.length (Nat.le_refl _) K
    unfold wtLF at hsw
    omega
  have hks0 := kTo_le0 s K s.length
  have d2 := f46 s false K (by simp) (fun x hx h => by rw [(hsm x hx).2.2] at h; (cases h)) (by omega) (by omega) hKs
  have d3 := f62 G false 1 (by simp) (nlo hGm) (flo hGm) (by omega) (by omega) hGk
  have d4 := f65 G false 1 (flo hGm) (by omega) (by omega) hGk
  obtain ⟨R, hR⟩ : ∃ R, (upTo (mkEdAt r 1) r.length).map ed = R := ⟨_, rfl⟩
  obtain ⟨K2, hK2e⟩ : ∃ K2 : Int, kTo s K s.length = K2 := ⟨_, rfl⟩
  obtain ⟨R2, hR2⟩ : ∃ R2, (upTo (mkFtAt s K) s.length).map ft = R2 := ⟨_, rfl⟩
  obtain ⟨m, hme⟩ : ∃ m : Int, kToD G 1 G.length = m := ⟨_, rfl⟩
  obtain ⟨GG, hGG⟩ : ∃ GG, (upTo (mkEdAt G 1) G.length).map ed = GG := ⟨_, rfl⟩
  rw [hR] at d1
  rw [hK2e] at d2 hks0
  rw [hR2] at d2
  rw [hme] at d3 d4 hk2
  rw [hGG] at d3 d4
  have hm0 : ¬ m < 0 := by omega
  have hK0 : ¬ K2 < 0 := by omega
  clear hr hs hz hz2 hGe hbe hK hR hme hGG hGk hrk hK2e hR2 hGm hrm hsm hrw hsw hKs nlo flo
  repeat' (first | intro _ | (simp [sx_skip, sx_ops, sx_seq, sx_cond, sx_block, sx_exit, sx_ret, sx_mcall, sx_mcell, sx_mset, elAt, setEl, isLst, cellsOf, sxl_nil, sxl_set, sxl_call, sxl_callv, sxl_g1, sxl_g2, sxl_g3, sxl_g4, OkS_true, GrdS_tt, GrdS_tf, GrdS_ft, GrdS_ff, CondS_t, CondS_f, then_n, then_e, then_r, blk_n, blk_e, blk_r, upd_app, Ex.ok, Ex.val, Opd.val, POp.dst, bin_int, binOK_int, bin_str, binOK_str, resOK, resV, RB.val, sub, putc, scB, scL, oneB, conf, Ex.val.eqP, Ex.val.eqL, negV, mxV, mnV, ← wr_eq, wr_zero, wr_one, wr_m1, bst_lst, byteC, partsOK, putAll, appV, nilV, slV, sslV, optB, optNum, and_assoc, exists_and_left, exists_eq_left', *]) | refine CallS_i (c1) ?_ | refine CallS_i (c2) ?_ | refine CallS_i (c3) ?_ | refine CallS_i (c4) ?_ | refine CallS_i (c5) ?_ | refine CallS_i (c6) ?_ | refine CallS_i (c7) ?_ | refine CallS_i (d1) ?_ | refine CallS_i (d2) ?_ | refine CallS_i (d3) ?_ | refine CallS_i (d4) ?_ | refine CallM_i (c1) ?_ | refine CallM_i (c2) ?_ | refine CallM_i (c3) ?_ | refine CallM_i (c4) ?_ | refine CallM_i (c5) ?_ | refine CallM_i (c6) ?_ | refine CallM_i (c7) ?_ | refine CallM_i (d1) ?_ | refine CallM_i (d2) ?_ | refine CallM_i (d3) ?_ | refine CallM_i (d4) ?_ | refine CallE_i (c1) ?_ | refine CallE_i (c2) ?_ | refine CallE_i (c3) ?_ | refine CallE_i (c4) ?_ | refine CallE_i (c5) ?_ | refine CallE_i (c6) ?_ | refine CallE_i (c7) ?_ | refine CallE_i (d1) ?_ | refine CallE_i (d2) ?_ | refine CallE_i (d3) ?_ | refine CallE_i (d4) ?_ | refine CondS_d (fun h => ?_) (fun h => ?_) | refine CondS_b (fun h => ?_) (fun h => ?_) | refine GrdS_d (fun h => ?_) (fun h => ?_) | refine GrdS_b (fun h => ?_) (fun h => ?_) | refine OkS_i (by omega) ?_ | fail)
end Go.Eng
namespace Go.Eng
open Go Go.Proofs
set_option linter.unusedSimpArgs false
set_option linter.unusedVariables false
set_option maxRecDepth 20000
/-! what the arguments hold -/
theorem d_intb {X : Cx} {t n : Nat} {i0 : TI} {vs : List PV} (hi : X.ti t = some i0) (hk : i0.k = .int .i64) (h : shp X n t vs) : ∃ m : Int, vs = [i m] ∧ -9223372036854775808 ≤ m ∧ m ≤ 9223372036854775807 := by
  cases n with
  | zero => cases h
  | succ n =>
    unfold shp at h; rw [hi] at h; simp only [hk] at h
    obtain ⟨m, hm, hw⟩ := h
    refine ⟨m, hm, ?_⟩
    simpa [Lit.wf, IntKind.min, IntKind.max, IntKind.signed, IntKind.bits] using hw
theorem d_int {X : Cx} {t n : Nat} {i0 : TI} {vs : List PV} (hi : X.ti t = some i0) (hk : i0.k = .int .i64) (h : shp X n t vs) : ∃ m, vs = [i m] := by
  cases n with
  | zero => cases h
  | succ n => unfold shp at h; rw [hi] at h; simp only [hk] at h; obtain ⟨m, hm, _⟩ := h; exact ⟨m, hm⟩
theorem d_bool {X : Cx} {t n : Nat} {i0 : TI} {vs : List PV} (hi : X.ti t = some i0) (hk : i0.k = .bool) (h : shp X n t vs) : ∃ b, vs = [.bool b] := by
  cases n with
  | zero => cases h
  | succ n => unfold shp at h; rw [hi] at h; simp only [hk] at h; exact h
theorem d_str {X : Cx} {t n : Nat} {i0 : TI} {vs : List PV} (hi : X.ti t = some i0) (hk : i0.k = .str) (h : shp X n t vs) : ∃ s, vs = [.str s] ∧ s.size ≤ 9223372036854775807 := by
  cases n with
  | zero => cases h
  | succ n => unfold shp at h; rw [hi] at h; simp only [hk] at h; exact h
theorem d_slice {X : Cx} {t n e sz : Nat} {i0 : TI} {vs : List PV} {α : Type} {g : α → List PV} {q : α → Prop} (hi : X.ti t = some i0) (hk : i0.k = .slice e) (hs : szOf X e = sz)
    (hd : ∀ n vs, shp X n e vs → ∃ x, vs = g x ∧ q x) (h : shp X n t vs) : ∃ (l : List α) (nl : Bool), vs = [.lst sz nl (l.map g)] ∧ l.length ≤ 9223372036854775807 ∧ ∀ x ∈ l, q x := by
  cases n with
  | zero => cases h
  | succ n =>
    unfold shp at h; rw [hi] at h; simp only [hk, hs] at h
    rcases h with rfl | ⟨els, rfl, hl, he⟩
    · exact ⟨[], true, rfl, by simp, by simp⟩
    · have : ∀ els : List (List PV), (∀ cs ∈ els, shp X n e cs) → ∃ l : List α, els = l.map g ∧ ∀ x ∈ l, q x := by
        intro els
        induction els with
        | nil => intro _; exact ⟨[], rfl, by simp⟩
        | cons c r ih =>
          intro h
          obtain ⟨l, h1, h2⟩ := ih fun cs hcs => h cs (List.mem_cons_of_mem _ hcs)
          obtain ⟨x, h3, h4⟩ := hd n c (h c (List.mem_cons_self ..))
          exact ⟨x :: l, by rw [h1, h3]; rfl, fun y hy => by
            rcases List.mem_cons.1 hy with rfl | hy
            · exact h4
            · exact h2 y hy⟩
      obtain ⟨l, h1, h2⟩ := this els he
      subst h1
      exact ⟨l, false, rfl, by have := hl; rw [List.length_map] at this; exact this, h2⟩
theorem d_struct {X : Cx} {t n : Nat} {i0 : TI} {fl : List (Nat × Nat)} {vs : List PV} (hi : X.ti t = some i0) (hk : i0.k = .struct fl) (h : shp X n t vs) : vs.length = i0.sz ∧ ∀ q ∈ fl, ∃ n, shp X n q.2 (sub vs q.1 (szOf X q.2)) := by
  cases n with
  | zero => cases h
  | succ n => unfold shp at h; rw [hi] at h; simp only [hk] at h; exact ⟨h.1, fun q hq => ⟨n, h.2 q hq⟩⟩
theorem shpL_cons {X : Cx} {n t : Nat} {ts : List Nat} {pvs : List PV} (h : shpL X n (t :: ts) pvs) : ∃ v vs, pvs = v :: vs ∧ shpV X n t v ∧ shpL X n ts vs := by
  cases pvs with
  | nil => cases h
  | cons v vs => exact ⟨v, vs, rfl, h.1, h.2⟩
theorem shpL_nil {X : Cx} {n : Nat} {pvs : List PV} (h : shpL X n [] pvs) : pvs = [] := by
  cases pvs with
  | nil => rfl
  | cons v vs => cases h
theorem shpV_one {X : Cx} {n t : Nat} {i0 : TI} {v : PV} (hi : X.ti t = some i0) (ha : i0.k.agg = false) (h : shpV X n t v) : shp X n t [v] := by
  unfold shpV at h; rw [hi] at h; simp only [ha, Bool.false_eq_true, if_false] at h; exact h
theorem shpV_agg {X : Cx} {n t : Nat} {i0 : TI} {v : PV} (hi : X.ti t = some i0) (ha : i0.k.agg = true) (h : shpV X n t v) : ∃ vs, v = .agg vs ∧ shp X n t vs := by
  unfold shpV at h; rw [hi] at h; simp only [ha, if_true] at h; exact h
theorem dPt {n : Nat} {vs : List PV} (h : shp X n 24 vs) : ∃ p : Pt, vs = cp p ∧ True := by
  obtain ⟨hl, hf⟩ := d_struct (i0 := (X.ti 24).getD default) rfl rfl h
  match vs, hl with
  | [a, b], _ =>
    obtain ⟨_, h0⟩ := hf (0, 3) (by simp)
    obtain ⟨_, h1⟩ := hf (1, 3) (by simp)
    obtain ⟨x, e0⟩ := d_int (i0 := (X.ti 3).getD default) rfl rfl h0
    obtain ⟨y, e1⟩ := d_int (i0 := (X.ti 3).getD default) rfl rfl h1
    obtain rfl : a = i x := (List.cons.inj e0).1
    obtain rfl : b = i y := (List.cons.inj e1).1
    exact ⟨⟨x, y⟩, rfl, trivial⟩
theorem dFt {n : Nat} {vs : List PV} (h : shp X n 37 vs) : ∃ x : Ft, vs = ft x ∧ x.fits := by
  obtain ⟨hl, hf⟩ := d_struct (i0 := (X.ti 37).getD default) rfl rfl h
  match vs, hl with
  | [a, b, c, d, e], _ =>
    obtain ⟨_, h0⟩ := hf (0, 3) (by simp)
    obtain ⟨_, h1⟩ := hf (1, 3) (by simp)
    obtain ⟨_, h2⟩ := hf (2, 3) (by simp)
    obtain ⟨_, h3⟩ := hf (3, 9) (by simp)
    obtain ⟨_, h4⟩ := hf (4, 35) (by simp)
    obtain ⟨x0, e0⟩ := d_int (i0 := (X.ti 3).getD default) rfl rfl h0
    obtain ⟨x1, e1⟩ := d_int (i0 := (X.ti 3).getD default) rfl rfl h1
    obtain ⟨x2, e2⟩ := d_int (i0 := (X.ti 3).getD default) rfl rfl h2
    obtain ⟨x3, e3, b3⟩ := d_str (i0 := (X.ti 9).getD default) rfl rfl h3
    obtain ⟨x4, nl, e4, b4, _⟩ := d_slice (i0 := (X.ti 35).getD default) (sz := 2) rfl rfl rfl (fun _ _ => dPt) h4
    obtain rfl : a = i x0 := (List.cons.inj e0).1
    obtain rfl : b = i x1 := (List.cons.inj e1).1
    obtain rfl : c = i x2 := (List.cons.inj e2).1
    obtain rfl : d = .str x3 := (List.cons.inj e3).1
    obtain rfl : e = .lst 2 nl (x4.map cp) := (List.cons.inj e4).1
    exact ⟨⟨x0, x1, x2, x3, x4, nl⟩, rfl, b3, b4⟩
theorem dEn {n : Nat} {vs : List PV} (h : shp X n 39 vs) : ∃ x : En, vs = en x ∧ x.f0.fits := by
  obtain ⟨hl, hf⟩ := d_struct (i0 := (X.ti 39).getD default) rfl rfl h
  match vs, hl with
  | [a0, a1, a2, a3, a4, a, b, c], _ =>
    obtain ⟨_, h0⟩ := hf (0, 37) (by simp)
    obtain ⟨_, h1⟩ := hf (5, 3) (by simp)
    obtain ⟨_, h2⟩ := hf (6, 3) (by simp)
    obtain ⟨_, h3⟩ := hf (7, 4) (by simp)
    obtain ⟨x0, e0, p0⟩ := dFt h0
    obtain ⟨x1, e1⟩ := d_int (i0 := (X.ti 3).getD default) rfl rfl h1
    obtain ⟨x2, e2⟩ := d_int (i0 := (X.ti 3).getD default) rfl rfl h2
    obtain ⟨x3, e3⟩ := d_bool (i0 := (X.ti 4).getD default) rfl rfl h3
    have e0 : [a0, a1, a2, a3, a4] = ft x0 := e0
    simp only [ft, List.cons.injEq, and_true] at e0
    obtain ⟨rfl, rfl, rfl, rfl, rfl⟩ := e0
    obtain rfl : a = i x1 := (List.cons.inj e1).1
    obtain rfl : b = i x2 := (List.cons.inj e2).1
    obtain rfl : c = .bool x3 := (List.cons.inj e3).1
    exact ⟨⟨x0, x1, x2, x3⟩, rfl, p0⟩
theorem dEnS {n : Nat} {v : PV} (h : shpV X n 34 v) : ∃ (l : List En) (nl : Bool), v = .lst 8 nl (l.map en) ∧ l.length ≤ 9223372036854775807 ∧ ∀ x ∈ l, x.f0.fits := by
  have h := shpV_one (i0 := (X.ti 34).getD default) rfl rfl h
  obtain ⟨l, nl, e, h1, h2⟩ := d_slice (i0 := (X.ti 34).getD default) (sz := 8) rfl rfl rfl (fun _ _ => dEn) h
  exact ⟨l, nl, (List.cons.inj e).1, h1, h2⟩
theorem dFtS {n : Nat} {v : PV} (h : shpV X n 22 v) : ∃ (l : List Ft) (nl : Bool), v = .lst 5 nl (l.map ft) ∧ l.length ≤ 9223372036854775807 ∧ ∀ x ∈ l, x.fits := by
  have h := shpV_one (i0 := (X.ti 22).getD default) rfl rfl h
  obtain ⟨l, nl, e, h1, h2⟩ := d_slice (i0 := (X.ti 22).getD default) (sz := 5) rfl rfl rfl (fun _ _ => dFt) h
  exact ⟨l, nl, (List.cons.inj e).1, h1, h2⟩
theorem dInt {n : Nat} {v : PV} (h : shpV X n 3 v) : ∃ m : Int, v = i m ∧ -9223372036854775808 ≤ m ∧ m ≤ 9223372036854775807 := by
  obtain ⟨m, hm, hb⟩ := d_intb (i0 := (X.ti 3).getD default) rfl rfl (shpV_one (i0 := (X.ti 3).getD default) rfl rfl h)
  exact ⟨m, (List.cons.inj hm).1, hb⟩
theorem dIntS {n : Nat} {v : PV} (h : shpV X n 112 v) : ∃ (l : List Int) (nl : Bool), v = .lst 1 nl (l.map fun m => [i m]) ∧ l.length ≤ 9223372036854775807 ∧ ∀ x ∈ l, -9223372036854775808 ≤ x ∧ x ≤ 9223372036854775807 := by
  have h := shpV_one (i0 := (X.ti 112).getD default) rfl rfl h
  obtain ⟨l, nl, e, h1, h2⟩ := d_slice (i0 := (X.ti 112).getD default) (sz := 1) (g := fun m : Int => [i m]) (q := fun m => -9223372036854775808 ≤ m ∧ m ≤ 9223372036854775807) rfl rfl rfl (fun _ _ h => d_intb (i0 := (X.ti 3).getD default) rfl rfl h) h
  exact ⟨l, nl, (List.cons.inj e).1, h1, h2⟩
theorem dPtV {n : Nat} {v : PV} (h : shpV X n 24 v) : ∃ p : Pt, v = .agg (cp p) := by
  obtain ⟨vs, rfl, hs⟩ := shpV_agg (i0 := (X.ti 24).getD default) rfl rfl h
  obtain ⟨p, rfl, _⟩ := dPt hs
  exact ⟨p, rfl⟩
theorem dFtV {n : Nat} {v : PV} (h : shpV X n 37 v) : ∃ x : Ft, v = .agg (ft x) ∧ x.fits := by
  obtain ⟨vs, rfl, hs⟩ := shpV_agg (i0 := (X.ti 37).getD default) rfl rfl h
  obtain ⟨p, rfl, hp⟩ := dFt hs
  exact ⟨p, rfl, hp⟩
theorem dEnV {n : Nat} {v : PV} (h : shpV X n 39 v) : ∃ x : En, v = .agg (en x) ∧ x.f0.fits := by
  obtain ⟨vs, rfl, hs⟩ := shpV_agg (i0 := (X.ti 39).getD default) rfl rfl h
  obtain ⟨p, rfl, hp⟩ := dEn hs
  exact ⟨p, rfl, hp⟩
end Go.Eng
namespace Go.Eng
open Go Go.Proofs
theorem dEd {n : Nat} {vs : List PV} (h : shp X n 146 vs) : ∃ x : Ed, vs = ed x ∧ x.fits := by
  obtain ⟨hl, hf⟩ := d_struct (i0 := (X.ti 146).getD default) rfl rfl h
  match vs, hl with
  | [a, b, c], _ =>
    obtain ⟨_, h0⟩ := hf (0, 3) (by simp)
    obtain ⟨_, h1⟩ := hf (1, 22) (by simp)
    obtain ⟨_, h2⟩ := hf (2, 3) (by simp)
    obtain ⟨x0, e0⟩ := d_int (i0 := (X.ti 3).getD default) rfl rfl h0
    obtain ⟨x1, nl, e1, b1, b2⟩ := d_slice (i0 := (X.ti 22).getD default) (sz := 5) rfl rfl rfl (fun _ _ => dFt) h1
    obtain ⟨x2, e2⟩ := d_int (i0 := (X.ti 3).getD default) rfl rfl h2
    obtain rfl : a = i x0 := (List.cons.inj e0).1
    obtain rfl : b = .lst 5 nl (x1.map ft) := (List.cons.inj e1).1
    obtain rfl : c = i x2 := (List.cons.inj e2).1
    exact ⟨⟨x0, x1, x2, nl⟩, rfl, b1, b2⟩
theorem dEdS {n : Nat} {v : PV} (h : shpV X n 86 v) : ∃ (l : List Ed) (nl : Bool), v = .lst 3 nl (l.map ed) ∧ l.length ≤ 9223372036854775807 ∧ ∀ x ∈ l, x.fits := by
  have h := shpV_one (i0 := (X.ti 86).getD default) rfl rfl h
  obtain ⟨l, nl, e, h1, h2⟩ := d_slice (i0 := (X.ti 86).getD default) (sz := 3) rfl rfl rfl (fun _ _ => dEd) h
  exact ⟨l, nl, (List.cons.inj e).1, h1, h2⟩
end Go.Eng
namespace Go.Eng
open Go Go.Proofs
theorem law10 {pvs : List PV} (h : shpL X 8 [86, 3] pvs) : Fn Try.prog 10 false pvs (.bool true) := by
  obtain ⟨_, _, rfl, h1, h2⟩ := shpL_cons h
  obtain ⟨_, _, rfl, h3, h4⟩ := shpL_cons h2
  obtain rfl := shpL_nil h4
  obtain ⟨l, n1, rfl, a1, a2⟩ := dEdS h1
  obtain ⟨b, rfl, _⟩ := dInt h3
  exact f10 l n1 b a1 a2
end Go.Eng
namespace Go.Eng
open Go Go.Proofs
theorem law11 {pvs : List PV} (h : shpL X 8 [86, 3, 22] pvs) : Fn Try.prog 11 false pvs (.bool true) := by
  obtain ⟨_, _, rfl, h1, h2⟩ := shpL_cons h
  obtain ⟨_, _, rfl, h3, h4⟩ := shpL_cons h2
  obtain ⟨_, _, rfl, h5, h6⟩ := shpL_cons h4
  obtain rfl := shpL_nil h6
  obtain ⟨l, n1, rfl, a1, a2⟩ := dEdS h1
  obtain ⟨b, rfl, _⟩ := dInt h3
  obtain ⟨s, n2, rfl, a3, a4⟩ := dFtS h5
  exact f11 l n1 b s n2 a1 a2 a3 a4
end Go.Eng
