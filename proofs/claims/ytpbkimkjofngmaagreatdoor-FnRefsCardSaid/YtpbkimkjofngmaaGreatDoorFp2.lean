/- A part of the proof of a law's statement: for every input the law returns true and leaves its arguments as they were. No condition beyond the statement's own. What each function computes. -/
import Derived.WalkKit
import Derived.Deep.QuietTactic
import Derived.BigQuiet
import Derived.Laws.BitsLemmas
import Derived.Shelf.LaysM
import Derived.Shelf.Strconv.Itoa3
import Derived.Lib.AppendIntMem
import Derived.Test.YtpbkimkjofngmaaGreatDoorFp1
set_option linter.unusedVariables false
set_option linter.unusedSimpArgs false
set_option linter.unusedSectionVars false
set_option autoImplicit true
set_option relaxedAutoImplicit true
namespace Go.Eng
open Go Go.Proofs Go.RowKit
set_option linter.unusedSimpArgs false
set_option linter.unusedVariables false
set_option maxRecDepth 100000
set_option maxHeartbeats 4000000

/-! what draws are drawn from: the cursor's functions, walked -/
def Cu (w : World) (b : Nat) (sl : Value) (n h : Int) : Prop := ∃ ty, w.heap[b]? = some (.cells #[sl, .int .i64 n, .int .i64 h] ty (0, 0))
def Kw (b : Nat) (w w' : World) : Prop := w'.os = w.os ∧ w'.tape = w.tape ∧ w'.output = w.output ∧ w'.heap.size = w.heap.size ∧ ∀ k, k ≠ b → w'.heap[k]? = w.heap[k]?
theorem Kw.refl {b : Nat} {w : World} : Kw b w w := ⟨rfl, rfl, rfl, rfl, fun _ _ => rfl⟩
theorem Kw.trans {b : Nat} {w w' w'' : World} (h : Kw b w w') (h' : Kw b w' w'') : Kw b w w'' := ⟨h'.1.trans h.1, h'.2.1.trans h.2.1, h'.2.2.1.trans h.2.2.1, h'.2.2.2.1.trans h.2.2.2.1, fun k hk => (h'.2.2.2.2 k hk).trans (h.2.2.2.2 k hk)⟩
theorem Kw.set {b o : Nat} {w : World} {v : Value} : Kw b w (w.setCell ⟨b, o, none⟩ v) := ⟨rfl, rfl, rfl, by simp [World.setCell], fun k hk => by simp [World.setCell, Array.getElem?_modify]; intro h; exact absurd h.symm hk⟩
theorem Kw.drew {b : Nat} {w : World} : Kw b w w.drew := ⟨rfl, rfl, rfl, rfl, fun _ _ => rfl⟩
theorem Cu.c0 {w : World} {b : Nat} {sl : Value} {n h : Int} (H : Cu w b sl n h) : w.cell? ⟨b, 0, none⟩ = some sl := by obtain ⟨ty, h⟩ := H; simp [World.cell?, h]
theorem Cu.c1 {w : World} {b : Nat} {sl : Value} {n h : Int} (H : Cu w b sl n h) : w.cell? ⟨b, 1, none⟩ = some (.int .i64 n) := by obtain ⟨ty, h⟩ := H; simp [World.cell?, h]
theorem Cu.c2 {w : World} {b : Nat} {sl : Value} {n h : Int} (H : Cu w b sl n h) : w.cell? ⟨b, 2, none⟩ = some (.int .i64 h) := by obtain ⟨ty, h⟩ := H; simp [World.cell?, h]
theorem Cu.fz {w : World} {b o : Nat} {sl : Value} {n h : Int} (H : Cu w b sl n h) : w.frozen? ⟨b, o, none⟩ = false := by obtain ⟨ty, h⟩ := H; simp [World.frozen?, h]
theorem Cu.s2 {w : World} {b : Nat} {sl : Value} {n h x : Int} (H : Cu w b sl n h) : Cu (w.setCell ⟨b, 2, none⟩ (.int .i64 x)) b sl n x := by obtain ⟨ty, h⟩ := H; exact ⟨ty, by simp [World.setCell, Array.getElem?_modify, h]⟩
theorem Cu.s1 {w : World} {b : Nat} {sl : Value} {n h x : Int} (H : Cu w b sl n h) : Cu (w.setCell ⟨b, 1, none⟩ (.int .i64 x)) b sl x h := by obtain ⟨ty, h⟩ := H; exact ⟨ty, by simp [World.setCell, Array.getElem?_modify, h]⟩
theorem Cu.dr {w : World} {b : Nat} {sl : Value} {n h : Int} (H : Cu w b sl n h) : Cu w.drew b sl n h := H
theorem Cu.drN {w : World} {b : Nat} {sl : Value} {n h : Int} (H : Cu w b sl n h) (q : Nat) : Cu (w.drewN q) b sl n h := H
theorem Kw.drN {b : Nat} {w w' : World} (H : Kw b w w') (q : Nat) : Kw b w (w'.drewN q) := H
theorem and255 (x : Int) : 0 ≤ bits .and .i64 x 255 ∧ bits .and .i64 x 255 ≤ 255 := by
  have h : ((BitVec.ofInt 64 x &&& BitVec.ofInt 64 255).toNat) ≤ 255 := by
    rw [BitVec.toNat_and]; exact Nat.and_le_right
  have e : bits .and .i64 x 255 = IntKind.i64.wrap ((BitVec.ofInt 64 x &&& BitVec.ofInt 64 255).toNat : Int) := rfl
  rw [e, IntKind.wrap_i64]
  omega
theorem u8_rep {w : World} : ∀ {els : List (List PV)} {xs : List Value} {G : Foot}, curU8 els = true → RepL w els.flatten xs G → ∀ k, k < els.length → ∃ x, xs[k]? = some (.int .u8 x)
  | [], _, _, _, _, k, hk => by simp at hk
  | e :: r, xs, G, hc, h, k, hk => by
    match e, hc with
    | [.int .u8 n], hc =>
      obtain ⟨x, xs', F, G', rfl, rfl, hx, hr⟩ := RepL.cons_inv (v := .int .u8 n) (vs := r.flatten) h
      obtain ⟨rfl, rfl⟩ := hx.int_inv
      cases k with
      | zero => exact ⟨n, rfl⟩
      | succ k => exact u8_rep (els := r) hc hr k (by simpa using hk)
theorem cur_row {w : World} {nl : Bool} {els : List (List PV)} {sl : Value} {F : Foot} (h : Rep w (.lst 1 nl els) sl F) (hc : curEls els = true) :
    ∃ p l c, sl = .slice p l c ∧ l ≤ 9223372036854775807 ∧ ∀ k, k < l → ∃ a x, p = some a ∧ a.spot = none ∧ w.cell? ⟨a.block, a.off + k, none⟩ = some (.int .u8 x) ∧ ∃ g ∈ F, g.1 = a.block := by
  unfold curEls at hc
  simp only [Bool.and_eq_true, decide_eq_true_eq] at hc
  cases h with
  | nil => exact ⟨_, _, _, rfl, by omega, fun k hk => by omega⟩
  | emp => exact ⟨_, _, _, rfl, by omega, fun k hk => by omega⟩
  | lst hdr hcc hu ho hm hL =>
    refine ⟨_, _, _, rfl, hc.2, fun k hk => ?_⟩
    obtain ⟨x, hx⟩ := u8_rep hc.1 hL k hk
    have := hm k _ hx
    rw [addr_add_plain hdr.1] at this
    exact ⟨_, x, rfl, hdr.1, this, _, List.mem_cons_self .., rfl⟩
theorem cur_end {w w' : World} {b : Nat} {sl : Value} {k h x : Int} {nl : Bool} {els : List (List PV)} {F1 : Foot} (K : Kw b w w') (H : Cu w' b sl k h) (hk : 0 ≤ k) (hce : curEls els = true) (hrep : Rep w (.lst 1 nl els) sl F1)
    (hF1 : ∀ g ∈ F1, g.1 < w.heap.size ∧ g.1 ≠ b) (hx : 0 ≤ x ∧ x ≤ 255) :
    (∃ F1', CurAt w' (.pointer (some ⟨b, 0, none⟩)) b F1' ∧ ∀ g ∈ F1', ∃ g' ∈ F1, g'.1 = g.1 ∧ g.2 ≤ g'.2) ∧ RPost w w' [] false (fun v => ∃ x, v = i x ∧ 0 ≤ x ∧ x ≤ 255) [b] (.returned (.int .i64 x)) := by
  obtain ⟨ty, hb⟩ := H
  have hkeep : Keeps w w' F1 := fun e he => by
    have hne := (hF1 e he).2
    have he' := K.2.2.2.2 _ hne
    exact ⟨fun o _ => by unfold World.cell?; simp only; rw [he'], fun arr ty fr hh => ⟨arr, fr, by rw [he']; exact hh, rfl⟩⟩
  refine ⟨⟨F1, ⟨sl, k, h, ty, nl, els, rfl, hb, hk, hce, hrep.keep hkeep⟩, fun g hg => ⟨g, hg, rfl, Nat.le_refl _⟩⟩, _, [], i x, rfl, ⟨x, rfl, hx⟩, .int _ _, ⟨K.1, K.2.1, K.2.2.1, by rw [K.2.2.2.1]; exact Nat.le_refl _, fun j _ hj => K.2.2.2.2 j (by simpa using hj)⟩, by simp, by simp⟩
theorem f131 : FnR Tryz.prog 131 true false [] (fun v => ∃ x : Int, v = i x ∧ (0 ≤ x ∧ x ≤ 255)) := by
  refine ⟨by kernel_rfl, fun w xs Fs hi hr hlt => ?_⟩
  obtain ⟨rfl, rfl⟩ := hr.nil_inv
  simp only [if_true]
  rintro x0 b F1 hg ⟨sl, n, h, ty, nl, els, rfl, hb, hn0, hce, hrep⟩ hbs hF1 hFs
  have H : Cu w b sl n h := ⟨ty, hb⟩
  have c2 := H.c2
  have fz := H.fz (o := 2)
  go_enter Tryz.func131, Tryz.ntmps131
  go_wp
  have H1 := H.s2 (x := wrap64 (wrap64 (h * 6364136223846793005) + 1442695040888963407))
  have K1 : Kw b w (w.setCell ⟨b, 2, none⟩ (.int .i64 (wrap64 (wrap64 (h * 6364136223846793005) + 1442695040888963407)))) := Kw.set
  generalize hh : wrap64 (wrap64 (h * 6364136223846793005) + 1442695040888963407) = h2 at *
  generalize w.setCell ⟨b, 2, none⟩ (.int .i64 h2) = w1 at *
  clear c2 fz hb H
  have d2 := H1.c2
  go_quiet (fail)
  have H2 := H1.drN nq
  have K2 := K1.drN nq
  have hx := and255 (bits .xor .i64 (h2 / 8589934592) (h2 / 140737488355328))
  generalize bits .and .i64 (bits .xor .i64 (h2 / 8589934592) (h2 / 140737488355328)) 255 = x at *
  generalize w1.drewN nq = w2 at *
  clear H1 K1 d2
  have e1 := H2.c1
  have e0 := H2.c0
  obtain ⟨p, l, cc, rfl, hl, hrow⟩ := cur_row hrep hce
  obtain ⟨k, rfl⟩ : ∃ k : Nat, n = k := ⟨n.toNat, by omega⟩
  go_wp
  go_quiet (fail)
  have H3 := H2.drN nq
  have K3 := K2.drN nq
  generalize w2.drewN nq = w3 at *
  clear H2 K2 e0 e1
  have e1 := H3.c1
  have e0 := H3.c0
  have fz := H3.fz (o := 1)
  by_cases hkl : k < l
  · obtain ⟨pa, y, rfl, hsp, hcell, gg, hg1, hg2⟩ := hrow k hkl
    have hne : pa.block ≠ b := by rw [← hg2]; exact (hF1 gg hg1).2
    have hc3 : w3.cell? ⟨pa.block, pa.off + k, none⟩ = some (.int .u8 y) := by
      rw [← hcell]; unfold World.cell?; simp only; rw [K3.2.2.2.2 _ hne]
    obtain ⟨ab, ao, as'⟩ := pa
    simp only at hsp hc3 hne
    subst hsp
    simp only [hkl, decide_true]
    go_wp
    go_quiet (fail)
    have H4 := H3.drN nq
    have K4 := K3.drN nq
    have hx := and255 (wrap64 (x + wrap64 y))
    generalize bits .and .i64 (wrap64 (x + wrap64 y)) 255 = z at *
    generalize w3.drewN nq = w4 at *
    clear H3 K3 e0 e1 fz
    have e1 := H4.c1
    have fz := H4.fz (o := 1)
    have hw0 : 0 ≤ wrap64 ((k : Int) + 1) := by unfold wrap64; omega
    clear hl hkl hrow hcell hc3 hne hg1 hg2 hn0
    generalize (k : Int) = kk at *
    go_wp
    go_ret
    exact cur_end (K4.trans Kw.set) H4.s1 hw0 hce hrep hF1 hx
  · simp only [hkl, decide_false]
    go_wp
    go_ret
    exact cur_end K3 H3 (by omega) hce hrep hF1 hx
theorem new_end {w : World} {sl : Value} {h : Int} {ty : Nat} {nl : Bool} {els : List (List PV)} {F1 : Foot} (hce : curEls els = true) (hrep : Rep w (.lst 1 nl els) sl F1) (hF1 : ∀ g ∈ F1 ++ [], g.1 < w.heap.size) :
    ∃ x b F1', Ending.returned (.pointer (some ⟨w.heap.size, 0, none⟩)) = .returned x ∧ CurAt (w.alloc (.cells #[sl, .int .i64 0, .int .i64 h] ty)) x b F1' ∧ w.heap.size ≤ b ∧ b < (w.alloc (.cells #[sl, .int .i64 0, .int .i64 h] ty)).heap.size ∧
      (∀ g ∈ F1', ∃ g' ∈ F1 ++ [], g'.1 = g.1 ∧ g.2 ≤ g'.2) ∧ Below w.heap.size w (w.alloc (.cells #[sl, .int .i64 0, .int .i64 h] ty)) := by
  have hb : Below w.heap.size w (w.alloc (.cells #[sl, .int .i64 0, .int .i64 h] ty)) :=
    ⟨rfl, rfl, rfl, by rw [alloc_size]; omega, fun k hk => alloc_blocks w _ k hk⟩
  have hkeep : Keeps w (w.alloc (.cells #[sl, .int .i64 0, .int .i64 h] ty)) F1 := fun e he => by
    have he' := hb.block e.1 (hF1 e (by simpa using he))
    exact ⟨fun o _ => by unfold World.cell?; simp only; rw [he'], fun arr ty fr hh => ⟨arr, fr, by rw [he']; exact hh, rfl⟩⟩
  exact ⟨_, w.heap.size, F1, rfl, ⟨sl, 0, h, ty, nl, els, rfl, alloc_new w _, by omega, hce, hrep.keep hkeep⟩, Nat.le_refl _, by rw [alloc_size]; omega, fun g hg => ⟨g, by simpa using hg, rfl, Nat.le_refl _⟩, hb⟩
theorem f58 (nl : Bool) (els : List (List PV)) (hce : curEls els = true) : FnN Tryz.prog 58 [.lst 1 nl els] := by
  refine ⟨by kernel_rfl, fun w xs Fs hi hr hlt => ?_⟩
  obtain ⟨sl, xs', F1, F2, rfl, rfl, hrep, hr'⟩ := RepL.cons_inv hr
  obtain ⟨rfl, rfl⟩ := hr'.nil_inv
  obtain ⟨p, l, cc, rfl, hl, hrow⟩ := cur_row hrep hce
  go_enter Tryz.func58, Tryz.ntmps58
  go_wp
  go_loop [3, 4] (fun h n => ∃ (k : Nat) (x : Int), k ≤ l ∧ n = .int .i64 k ∧ h = .int .i64 x) (fun _ n => l - (intOf n).toNat)
  case atStart => exact ⟨0, _, Nat.zero_le _, rfl, rfl⟩
  case round =>
    obtain ⟨k, x, hk, rfl, rfl⟩ := hrel
    have hcell : k < l → ∃ a y, p = some a ∧ a.spot = none ∧ w.cell? ⟨a.block, a.off + k, none⟩ = some (.int .u8 y) := fun hk => by obtain ⟨a, y, h1, h2, h3, _⟩ := hrow k hk; exact ⟨a, y, h1, h2, h3⟩
    have hw : k < l → wrap64 ((k : Int) + 1) = ((k + 1 : Nat) : Int) := fun hk => by unfold wrap64; omega
    by_cases hkl : k < l
    · obtain ⟨⟨ab, ao, asp⟩, y, rfl, hsp, hc3⟩ := hcell hkl
      simp only at hsp hc3
      subst hsp
      have hw := hw hkl
      by_cases h4 : k < 4000
      · clear hcell hrow hl
        go_wp
        refine ⟨⟨k + 1, _, by omega, by simp, rfl⟩, ?_⟩
        simp [intOf]
        omega
      · clear hcell hrow hl
        go_wp
        go_ret
        exact new_end hce hrep hlt
    · clear hcell hrow hl
      go_wp
      go_ret
      exact new_end hce hrep hlt
theorem f90 (n : Int) (hn : n ≤ 16777215) : FnR Tryz.prog 90 true false [i n] (fun v => ∃ x : Int, v = i x ∧ (0 ≤ x ∧ (0 < n → x < n))) := by
  refine FnR.by_sxC hX (by kernel_rfl) c90 rfl rfl rfl (fun _ v => by rintro ⟨x, rfl, _⟩; rfl) ?_
  intro cs hcs
  simp [i90, sxa, isPtrN, PV.pcs, elAt, setEl, inAt, elIn, setIn, isLst, cellsOf, Ex.ok, Ex.val, Opd.val, POp.dst, bin_int, binOK_int, bin_str, binOK_str, resOK, resV, RB.val, sub, putc, scB, scL, oneB, conf, Ex.val.eqP, Ex.val.eqL, negV, mxV, mnV, ← wr_eq, wr_zero, wr_one, wr_m1, bst_lst, byteC, partsOK, putAll, appV, nilV, slV, sslV, optB, optNum, and_assoc, exists_and_left, exists_eq_left']
  refine CondS_d (fun h => ?_) (fun h => ?_)
  · repeat' (first | intro _ | (simp [sxa, isPtrN, PV.pcs, elAt, setEl, inAt, elIn, setIn, isLst, cellsOf, Ex.ok, Ex.val, Opd.val, POp.dst, bin_int, binOK_int, bin_str, binOK_str, resOK, resV, RB.val, sub, putc, scB, scL, oneB, conf, Ex.val.eqP, Ex.val.eqL, negV, mxV, mnV, ← wr_eq, wr_zero, wr_one, wr_m1, bst_lst, byteC, partsOK, putAll, appV, nilV, slV, sslV, optB, optNum, and_assoc, exists_and_left, exists_eq_left', *]) | refine CondS_d (fun h => ?_) (fun h => ?_) | refine CondS_b (fun h => ?_) (fun h => ?_) | refine GrdS_d (fun h => ?_) (fun h => ?_) | refine GrdS_b (fun h => ?_) (fun h => ?_) | refine OkS_i (by omega) ?_ | fail)
  simp [sxa, isPtrN, PV.pcs, elAt, setEl, inAt, elIn, setIn, isLst, cellsOf, Ex.ok, Ex.val, Opd.val, POp.dst, bin_int, binOK_int, bin_str, binOK_str, resOK, resV, RB.val, sub, putc, scB, scL, oneB, conf, Ex.val.eqP, Ex.val.eqL, negV, mxV, mnV, ← wr_eq, wr_zero, wr_one, wr_m1, bst_lst, byteC, partsOK, putAll, appV, nilV, slV, sslV, optB, optNum, and_assoc, exists_and_left, exists_eq_left']
  refine CondS_d (fun h2 => ?_) (fun h2 => ?_)
  · repeat' (first | intro _ | (simp [sxa, isPtrN, PV.pcs, elAt, setEl, inAt, elIn, setIn, isLst, cellsOf, Ex.ok, Ex.val, Opd.val, POp.dst, bin_int, binOK_int, bin_str, binOK_str, resOK, resV, RB.val, sub, putc, scB, scL, oneB, conf, Ex.val.eqP, Ex.val.eqL, negV, mxV, mnV, ← wr_eq, wr_zero, wr_one, wr_m1, bst_lst, byteC, partsOK, putAll, appV, nilV, slV, sslV, optB, optNum, and_assoc, exists_and_left, exists_eq_left', *]) | refine ⟨by assumption, CopC_i (f131) (fun _ _ => by first | exact ⟨fun _ => rfl, fun h => by cases h⟩ | exact ⟨fun h => by cases h, fun _ => ⟨_, rfl⟩⟩ | exact ⟨fun h => by cases h, fun h => by cases h⟩) (fun x cs hx hcs => ?_)⟩ | refine CopC_i (f131) (fun _ _ => by first | exact ⟨fun _ => rfl, fun h => by cases h⟩ | exact ⟨fun h => by cases h, fun _ => ⟨_, rfl⟩⟩ | exact ⟨fun h => by cases h, fun h => by cases h⟩) (fun x cs hx hcs => ?_) | refine CondS_d (fun h => ?_) (fun h => ?_) | refine CondS_b (fun h => ?_) (fun h => ?_) | refine GrdS_d (fun h => ?_) (fun h => ?_) | refine GrdS_b (fun h => ?_) (fun h => ?_) | refine OkS_i (by omega) ?_ | fail)
    rw [Int.tmod_eq_emod_of_nonneg (by omega)]
    exact ⟨Int.emod_nonneg _ (by omega), fun _ => Int.emod_lt_of_pos _ (by omega)⟩
  · repeat' (first | intro _ | (simp [sxa, isPtrN, PV.pcs, elAt, setEl, inAt, elIn, setIn, isLst, cellsOf, Ex.ok, Ex.val, Opd.val, POp.dst, bin_int, binOK_int, bin_str, binOK_str, resOK, resV, RB.val, sub, putc, scB, scL, oneB, conf, Ex.val.eqP, Ex.val.eqL, negV, mxV, mnV, ← wr_eq, wr_zero, wr_one, wr_m1, bst_lst, byteC, partsOK, putAll, appV, nilV, slV, sslV, optB, optNum, and_assoc, exists_and_left, exists_eq_left', *]) | refine ⟨by assumption, CopC_i (f131) (fun _ _ => by first | exact ⟨fun _ => rfl, fun h => by cases h⟩ | exact ⟨fun h => by cases h, fun _ => ⟨_, rfl⟩⟩ | exact ⟨fun h => by cases h, fun h => by cases h⟩) (fun x cs hx hcs => ?_)⟩ | refine CopC_i (f131) (fun _ _ => by first | exact ⟨fun _ => rfl, fun h => by cases h⟩ | exact ⟨fun h => by cases h, fun _ => ⟨_, rfl⟩⟩ | exact ⟨fun h => by cases h, fun h => by cases h⟩) (fun x cs hx hcs => ?_) | refine CondS_d (fun h => ?_) (fun h => ?_) | refine CondS_b (fun h => ?_) (fun h => ?_) | refine GrdS_d (fun h => ?_) (fun h => ?_) | refine GrdS_b (fun h => ?_) (fun h => ?_) | refine OkS_i (by omega) ?_ | fail)
    rename_i _ _ x0 _ g0 _ x1 _ g1 _
    rw [wr_in (n := x0 * 65536) (by omega) (by omega), wr_in (n := x1 * 256) (by omega) (by omega), wr_in (n := x0 * 65536 + x1 * 256) (by omega) (by omega), wr_in (by omega) (by omega), Int.tmod_eq_emod_of_nonneg (by omega)]
    exact ⟨Int.emod_nonneg _ (by omega), fun _ => Int.emod_lt_of_pos _ (by omega)⟩
theorem row_ints {w : World} : ∀ {ns : List Int} {xs : List Value} {G : Foot}, RepL w (ns.map fun m => [i m]).flatten xs G → ∀ (k : Nat) x, ns[k]? = some x → xs[k]? = some (Value.int .i64 x)
  | [], _, _, _, k, x, hk => by simp at hk
  | e :: r, xs, G, h, k, x, hk => by
    obtain ⟨y, xs', F, G', rfl, rfl, hx, hr⟩ := RepL.cons_inv (v := i e) (vs := (r.map fun m => [i m]).flatten) h
    obtain ⟨rfl, rfl⟩ := hx.int_inv
    cases k with
    | zero => simp at hk; subst hk; rfl
    | succ k => exact row_ints (ns := r) hr k x (by simpa using hk)
theorem f94 (ns : List Int) (nl : Bool) (h0 : 0 < ns.length) (h1 : ns.length ≤ 16777215) : FnR Tryz.prog 94 true false [.lst 1 nl (ns.map fun m => [i m])] (fun v => ∃ x : Int, v = i x ∧ x ∈ ns) := by
  refine ⟨by kernel_rfl, fun w xs Fs hi hr hlt => ?_⟩
  obtain ⟨sl, xs', F0, F2, rfl, rfl, hrep, hr'⟩ := RepL.cons_inv hr
  obtain ⟨rfl, rfl⟩ := hr'.nil_inv
  simp only [if_true]
  rintro x0 b F1 hg hcur hbs hF1 hFs
  have hrow : ∃ a c, sl = .slice (some a) ns.length c ∧ a.spot = none ∧ (a.block ≠ b) ∧ a.block < w.heap.size ∧ ∀ (k : Nat) x, ns[k]? = some x → w.cell? ⟨a.block, a.off + k, none⟩ = some (.int .i64 x) := by
    have hel : (ns.map fun m => [i m]).length = ns.length := List.length_map ..
    generalize hE : ns.map (fun m => [i m]) = E at *
    cases hrep with
    | nil => simp at hel; omega
    | emp => simp at hel; omega
    | lst hdr hcc hu ho hm hL =>
      subst hE
      refine ⟨_, _, by rw [hel], hdr.1, hFs _ (List.mem_append_left _ (List.mem_cons_self ..)), hlt _ (List.mem_append_left _ (List.mem_cons_self ..)), fun k x hk => ?_⟩
      have := hm k _ (row_ints hL k x hk)
      rwa [addr_add_plain hdr.1] at this
  obtain ⟨⟨ab, ao, asp⟩, cc, rfl, hsp, hne, hab, hcell⟩ := hrow
  simp only at hsp hne hab hcell
  subst hsp
  have hC := (f90 (ns.length : Int) (by omega)).2 w [.int .i64 ns.length] [] hi (.cons (.int _ _) .nil) (by simp)
  simp only [if_true] at hC
  have hC := hC x0 b F1 hg hcur hbs hF1 (by simp)
  go_enter Tryz.func94, Tryz.ntmps94
  go_wp
  refine hC.mono ?_
  rintro e w1 ⟨hcu, v, F', res, rfl, ⟨y, rfl, hy0, hy1⟩, hrv, hfr, hF', _⟩
  obtain ⟨rfl, rfl⟩ := hrv.int_inv
  have hy1 := hy1 (by omega)
  obtain ⟨k, rfl⟩ : ∃ k : Nat, y = k := ⟨y.toNat, by omega⟩
  have hk : k < ns.length := by omega
  have hc : w1.cell? ⟨ab, ao + k, none⟩ = some (.int .i64 ns[k]) := by
    rw [← hcell k _ (List.getElem?_eq_getElem hk)]; unfold World.cell?; simp only; rw [hfr.2.2.2.2 _ hab (by simpa using hne)]
  dsimp only
  go_wp
  go_ret
  exact ⟨hcu, _, [], i ns[k], rfl, ⟨_, rfl, List.getElem_mem hk⟩, .int _ _, hfr, by simp, by simp⟩
theorem row_strs {w : World} : ∀ {ns : List ByteArray} {xs : List Value} {G : Foot}, RepL w (ns.map fun m => [.str m]).flatten xs G → ∀ (k : Nat) x, ns[k]? = some x → xs[k]? = some (Value.string x)
  | [], _, _, _, k, x, hk => by simp at hk
  | e :: r, xs, G, h, k, x, hk => by
    obtain ⟨y, xs', F, G', rfl, rfl, hx, hr⟩ := RepL.cons_inv (v := .str e) (vs := (r.map fun m => [PV.str m]).flatten) h
    obtain ⟨rfl, rfl⟩ := hx.str_inv
    cases k with
    | zero => simp at hk; subst hk; rfl
    | succ k => exact row_strs (ns := r) hr k x (by simpa using hk)
theorem f60 (ns : List ByteArray) (nl : Bool) (h0 : 0 < ns.length) (h1 : ns.length ≤ 16777215) : FnR Tryz.prog 60 true false [.lst 1 nl (ns.map fun m => [.str m])] (fun v => ∃ x : ByteArray, v = .str x ∧ x ∈ ns) := by
  refine ⟨by kernel_rfl, fun w xs Fs hi hr hlt => ?_⟩
  obtain ⟨sl, xs', F0, F2, rfl, rfl, hrep, hr'⟩ := RepL.cons_inv hr
  obtain ⟨rfl, rfl⟩ := hr'.nil_inv
  simp only [if_true]
  rintro x0 b F1 hg hcur hbs hF1 hFs
  have hrow : ∃ a c, sl = .slice (some a) ns.length c ∧ a.spot = none ∧ (a.block ≠ b) ∧ a.block < w.heap.size ∧ ∀ (k : Nat) x, ns[k]? = some x → w.cell? ⟨a.block, a.off + k, none⟩ = some (.string x) := by
    have hel : (ns.map fun m => [PV.str m]).length = ns.length := List.length_map ..
    generalize hE : ns.map (fun m => [PV.str m]) = E at *
    cases hrep with
    | nil => simp at hel; omega
    | emp => simp at hel; omega
    | lst hdr hcc hu ho hm hL =>
      subst hE
      refine ⟨_, _, by rw [hel], hdr.1, hFs _ (List.mem_append_left _ (List.mem_cons_self ..)), hlt _ (List.mem_append_left _ (List.mem_cons_self ..)), fun k x hk => ?_⟩
      have := hm k _ (row_strs hL k x hk)
      rwa [addr_add_plain hdr.1] at this
  obtain ⟨⟨ab, ao, asp⟩, cc, rfl, hsp, hne, hab, hcell⟩ := hrow
  simp only at hsp hne hab hcell
  subst hsp
  have hC := (f90 (ns.length : Int) (by omega)).2 w [.int .i64 ns.length] [] hi (.cons (.int _ _) .nil) (by simp)
  simp only [if_true] at hC
  have hC := hC x0 b F1 hg hcur hbs hF1 (by simp)
  go_enter Tryz.func60, Tryz.ntmps60
  go_wp
  refine hC.mono ?_
  rintro e w1 ⟨hcu, v, F', res, rfl, ⟨y, rfl, hy0, hy1⟩, hrv, hfr, hF', _⟩
  obtain ⟨rfl, rfl⟩ := hrv.int_inv
  have hy1 := hy1 (by omega)
  obtain ⟨k, rfl⟩ : ∃ k : Nat, y = k := ⟨y.toNat, by omega⟩
  have hk : k < ns.length := by omega
  have hc : w1.cell? ⟨ab, ao + k, none⟩ = some (.string ns[k]) := by
    rw [← hcell k _ (List.getElem?_eq_getElem hk)]; unfold World.cell?; simp only; rw [hfr.2.2.2.2 _ hab (by simpa using hne)]
  dsimp only
  go_wp
  go_ret
  exact ⟨hcu, _, [], .str ns[k], rfl, ⟨_, rfl, List.getElem_mem hk⟩, .str _, hfr, by simp, by simp⟩
end Go.Eng
namespace Go.Eng
open Go Go.Proofs
set_option linter.unusedSimpArgs false
set_option linter.unusedVariables false
set_option maxRecDepth 20000
set_option maxHeartbeats 1000000

/-! numerals, bars, references of tiles -/
def rho_laysM171 : Go.Shelf.Ren := ⟨fun | 171 => 96 | 243 => 133 | 246 => 161 | 283 => 174 | 284 => 175 | 285 => 176 | 286 => 177 | 129 => 114 | 317 => 180 | 318 => 181 | 319 => 182 | 320 => 183 | 337 => 184 | 338 => 185 | n => n, fun | 3 => 3 | 9 => 9 | 2 => 2 | 4 => 4 | 171 => 177 | 0 => 0 | 53 => 139 | 37 => 33 | 5 => 5 | 173 => 179 | 212 => 183 | 51 => 137 | 20 => 20 | 213 => 184 | 46 => 107 | 232 => 185 | 233 => 186 | n => n, fun | 17 => 0 | 18 => 1 | 19 => 2 | n => n⟩
theorem L_laysM171 : Go.Proofs.LaysM.n171 Tryz.prog rho_laysM171 := {
  mixed := by kernel_rfl
  f129 := Tryz.func114.trans (congrArg some (by kernel_rfl))
  f171 := Tryz.func96.trans (congrArg some (by kernel_rfl))
  f243 := Tryz.func133.trans (congrArg some (by kernel_rfl))
  f246 := Tryz.func161.trans (congrArg some (by kernel_rfl))
  f283 := Tryz.func174.trans (congrArg some (by kernel_rfl))
  f284 := Tryz.func175.trans (congrArg some (by kernel_rfl))
  f285 := Tryz.func176.trans (congrArg some (by kernel_rfl))
  f286 := Tryz.func177.trans (congrArg some (by kernel_rfl))
  f317 := Tryz.func180.trans (congrArg some (by kernel_rfl))
  f318 := Tryz.func181.trans (congrArg some (by kernel_rfl))
  f319 := Tryz.func182.trans (congrArg some (by kernel_rfl))
  f320 := Tryz.func183.trans (congrArg some (by kernel_rfl))
  f337 := Tryz.func184.trans (congrArg some (by kernel_rfl))
  f338 := Tryz.func185.trans (congrArg some (by kernel_rfl))
  t0 := Tryz.underlying0
  a0 := Tryz.isAgg0
  z0 := Tryz.sizeOf0
  v0 := Tryz.zeroValue0
  t2 := Tryz.underlying2
  a2 := Tryz.isAgg2
  z2 := Tryz.sizeOf2
  v2 := Tryz.zeroValue2
  t3 := Tryz.underlying3
  a3 := Tryz.isAgg3
  z3 := Tryz.sizeOf3
  v3 := Tryz.zeroValue3
  t4 := Tryz.underlying4
  a4 := Tryz.isAgg4
  z4 := Tryz.sizeOf4
  v4 := Tryz.zeroValue4
  t5 := Tryz.underlying5
  a5 := Tryz.isAgg5
  z5 := Tryz.sizeOf5
  v5 := Tryz.zeroValue5
  t9 := Tryz.underlying9
  a9 := Tryz.isAgg9
  z9 := Tryz.sizeOf9
  v9 := Tryz.zeroValue9
  t20 := Tryz.underlying20
  a20 := Tryz.isAgg20
  z20 := Tryz.sizeOf20
  v20 := Tryz.zeroValue20
  t37 := Tryz.underlying33
  a37 := Tryz.isAgg33
  z37 := Tryz.sizeOf33
  v37 := Tryz.zeroValue33
  t46 := Tryz.underlying107
  a46 := Tryz.isAgg107
  z46 := Tryz.sizeOf107
  v46 := Tryz.zeroValue107
  t51 := Tryz.underlying137
  a51 := Tryz.isAgg137
  z51 := Tryz.sizeOf137
  v51 := Tryz.zeroValue137
  t53 := Tryz.underlying139
  a53 := Tryz.isAgg139
  z53 := Tryz.sizeOf139
  v53 := Tryz.zeroValue139
  t171 := Tryz.underlying177
  a171 := Tryz.isAgg177
  z171 := Tryz.sizeOf177
  v171 := Tryz.zeroValue177
  t173 := Tryz.underlying179
  a173 := Tryz.isAgg179
  z173 := Tryz.sizeOf179
  v173 := Tryz.zeroValue179
  t212 := Tryz.underlying183
  a212 := Tryz.isAgg183
  z212 := Tryz.sizeOf183
  v212 := Tryz.zeroValue183
  t213 := Tryz.underlying184
  a213 := Tryz.isAgg184
  z213 := Tryz.sizeOf184
  t232 := Tryz.underlying185
  a232 := Tryz.isAgg185
  z232 := Tryz.sizeOf185
  v232 := Tryz.zeroValue185
  t233 := Tryz.underlying186
  a233 := Tryz.isAgg186
  z233 := Tryz.sizeOf186
  v233 := Tryz.zeroValue186
  g17 := by kernel_rfl
  g18 := by kernel_rfl
  g19 := by kernel_rfl
  i0 := by kernel_rfl
  i2 := by kernel_rfl
  i3 := by kernel_rfl
  i4 := by kernel_rfl
  i5 := by kernel_rfl
  i9 := by kernel_rfl
  i20 := by kernel_rfl
  i37 := by kernel_rfl
  i46 := by kernel_rfl
  i51 := by kernel_rfl
  i53 := by kernel_rfl
  i171 := by kernel_rfl
  i173 := by kernel_rfl
  i212 := by kernel_rfl
  i232 := by kernel_rfl
  i233 := by kernel_rfl
  m17 := by kernel_rfl
  m18 := by kernel_rfl
  m19 := by kernel_rfl }
def dec (n : Int) : ByteArray := ⟨(Lib.itoa n).toArray⟩
theorem f96 (n : Int) (h0 : -9223372036854775808 ≤ n) (h1 : n ≤ 9223372036854775807) : Fn Tryz.prog 96 false [i n] (.str (dec n)) := by
  refine ⟨by kernel_rfl, fun w xs Fs hi hr hlt => ?_⟩
  obtain ⟨x, xs', F1, F2, rfl, rfl, hx, hr'⟩ := RepL.cons_inv hr
  obtain ⟨rfl, rfl⟩ := hr'.nil_inv
  obtain ⟨rfl, rfl⟩ := hx.int_inv
  have hn : (Tryz.prog.globalNamed pow10N).isNone = false := by kernel_rfl
  have htab : Lib.TabIs Tryz.prog w "internal/strconv.uint64pow10" .u64 Lib.pow10Tab := hi.resolve_left (fun h => by rw [h] at hn; cases hn)
  refine (Any.strconv_Itoa L_laysM171 n h0 h1 w htab).mono ?_
  rintro e w' ⟨rfl, k, os, rfl⟩
  exact ⟨_, [], rfl, .str _, Lib.below_grow _ _ (Nat.le_refl _) _ _, by simp, by simp⟩
theorem f70 (n : Int) (h0 : -9223372036854775808 ≤ n) (h1 : n ≤ 9223372036854775807) : Fn Tryz.prog 70 false [i n] (.str (dec n)) := by
  refine Fn.by_sx hX (by kernel_rfl) c70 (by kernel_rfl) (by rfl) ?_
  simp [i70, sxa, isPtrN, PV.pcs, elAt, setEl, inAt, elIn, setIn, isLst, cellsOf, Ex.ok, Ex.val, Opd.val, POp.dst, bin_int, binOK_int, bin_str, binOK_str, resOK, resV, RB.val, sub, putc, scB, scL, oneB, conf, Ex.val.eqP, Ex.val.eqL, negV, mxV, mnV, ← wr_eq, wr_zero, wr_one, wr_m1, bst_lst, byteC, partsOK, putAll, appV, nilV, slV, sslV, optB, optNum, and_assoc, exists_and_left, exists_eq_left']
  repeat' (first | intro _ | (simp [sxa, isPtrN, PV.pcs, elAt, setEl, inAt, elIn, setIn, isLst, cellsOf, Ex.ok, Ex.val, Opd.val, POp.dst, bin_int, binOK_int, bin_str, binOK_str, resOK, resV, RB.val, sub, putc, scB, scL, oneB, conf, Ex.val.eqP, Ex.val.eqL, negV, mxV, mnV, ← wr_eq, wr_zero, wr_one, wr_m1, bst_lst, byteC, partsOK, putAll, appV, nilV, slV, sslV, optB, optNum, and_assoc, exists_and_left, exists_eq_left', *]) | refine CallS_i (f96 n h0 h1) ?_ | refine CondS_d (fun h => ?_) (fun h => ?_) | refine CondS_b (fun h => ?_) (fun h => ?_) | refine GrdS_d (fun h => ?_) (fun h => ?_) | refine GrdS_b (fun h => ?_) (fun h => ?_) | refine OkS_i (by omega) ?_ | fail)
/-! the first digit -/
def leadF : Nat → Nat → Nat
  | 0, u => u
  | f + 1, u => if u < 10 then u else leadF f (u / 10)
def lead (u : Nat) : Nat := leadF 20 u
theorem leadF_le : ∀ f u, u < 10 ^ f → leadF f u ≤ 9
  | 0, u, h => by simp at h; simp [leadF, h]
  | f + 1, u, h => by
    unfold leadF
    split
    · omega
    · exact leadF_le f _ (by rw [Nat.pow_succ] at h; omega)
theorem leadF_more : ∀ f u, u < 10 ^ f → leadF (f + 1) u = leadF f u
  | 0, u, h => by simp at h; simp [leadF, h]
  | f + 1, u, h => by
    unfold leadF
    split
    · rfl
    · exact leadF_more f _ (by rw [Nat.pow_succ] at h; omega)
theorem lead_div {u : Nat} (h : 10 ≤ u) (h2 : u < 10 ^ 19) : lead u = lead (u / 10) := by
  have e : lead u = leadF 19 (u / 10) := by
    show (if u < 10 then u else leadF 19 (u / 10)) = _
    rw [if_neg (by omega)]
  rw [e]
  exact (leadF_more 19 (u / 10) (by omega)).symm
theorem lead_small {u : Nat} (h : u < 10) : lead u = u := by
  show (if u < 10 then u else leadF 19 (u / 10)) = _
  rw [if_pos h]
theorem head_dec : ∀ f u, u < 10 ^ f → (Lib.decDigits u)[0]? = some (UInt8.ofNat (48 + leadF f u))
  | 0, u, h => by
    simp at h
    subst h
    rw [Lib.decDigits]; simp [leadF]
  | f + 1, u, h => by
    rw [Lib.decDigits]
    unfold leadF
    split
    · simp
    · have ih := head_dec f (u / 10) (by rw [Nat.pow_succ] at h; omega)
      have : 0 < (Lib.decDigits (u / 10)).length := by
        rcases Nat.eq_zero_or_pos (Lib.decDigits (u / 10)).length with h0 | h0
        · rw [List.getElem?_eq_none (by omega)] at ih; cases ih
        · exact h0
      rw [List.getElem?_append_left this]; exact ih
theorem dec_head {n : Int} (h : 1 ≤ n) (h2 : n ≤ 9223372036854775807) : sixV (.str (dec n)) 0 = .int .u8 (48 + lead n.toNat : Nat) ∧ 0 < (dec n).size := by
  have hn : Lib.itoa n = Lib.decDigits n.toNat := by unfold Lib.itoa; rw [if_neg (by omega)]
  have hd := head_dec 20 n.toNat (by omega)
  have hl := leadF_le 20 n.toNat (by omega)
  have hs : (dec n).data[0]? = some (UInt8.ofNat (48 + lead n.toNat)) := by
    show (Lib.itoa n).toArray[0]? = _
    rw [hn, List.getElem?_toArray]; exact hd
  constructor
  · show PV.int .u8 (((dec n).data[(0 : Int).toNat]?).getD 0).toNat = _
    rw [show (0 : Int).toNat = 0 from rfl, hs, Option.getD_some]
    congr 1
    have : (UInt8.ofNat (48 + lead n.toNat)).toNat = 48 + lead n.toNat := by
      rw [UInt8.toNat_ofNat']; show (48 + leadF 20 n.toNat) % 2 ^ 8 = _; unfold lead; omega
    rw [this]
  · show 0 < (dec n).data.size
    rcases Nat.eq_zero_or_pos (dec n).data.size with h0 | h0
    · rw [Array.getElem?_eq_none (by omega)] at hs; cases hs
    · exact h0
/-! BarParts -/
def wBar (n : Int) : Int := if n < 1 then 0 else if lead n.toNat = 2 then 4 else 5
/-! RoundLength, ScaleStep -/
def rs (k : Nat) : Nat := [1, 2, 5].getD (k % 3) 0 * 10 ^ (k / 3)
def ra (u : Nat) : Nat := if lead u = 2 then u / 2 * 5 else 2 * u
theorem ra_rs : ∀ k : _root_.Fin 30, ra (rs k.val) = rs (k.val + 1) := by decide +kernel
theorem rs_lt : ∀ k : _root_.Fin 30, rs k.val < rs (k.val + 1) := by decide +kernel
theorem rs_f : ∀ q : _root_.Fin 11, rs (3 * q.val) = 10 ^ q.val ∧ rs (3 * q.val + 1) = 2 * 10 ^ q.val ∧ rs (3 * q.val + 2) = 5 * 10 ^ q.val := by decide +kernel
theorem rs_pos : ∀ k : _root_.Fin 31, 1 ≤ rs k.val := by decide +kernel
theorem rs_top : rs 28 = 2000000000 := by decide +kernel
theorem rs_mono {k m : Nat} (h : k ≤ m) (hm : m ≤ 30) : rs k ≤ rs m := by
  induction m with
  | zero => rw [show k = 0 by omega]; exact Nat.le_refl _
  | succ m ih =>
    rcases Nat.lt_or_ge m k with h' | h'
    · rw [show k = m + 1 by omega]; exact Nat.le_refl _
    · exact Nat.le_trans (ih h' (by omega)) (Nat.le_of_lt (rs_lt ⟨m, by omega⟩))
/-- the greatest of the first m that is at most n -/
def rlTo (n : Int) : Nat → Int
  | 0 => 0
  | m + 1 => if (rs m : Int) ≤ n then rs m else rlTo n m
theorem rlTo_eq {n : Int} {k : Nat} (hk : (rs k : Int) ≤ n) (hk2 : n < rs (k + 1)) : ∀ m, k + 1 ≤ m → m ≤ 30 → rlTo n m = rs k := by
  intro m
  induction m with
  | zero => intro h; omega
  | succ m ih =>
    intro h h30
    unfold rlTo
    rcases Nat.lt_or_ge k m with h' | h'
    · have := rs_mono (k := k + 1) (m := m) h' (by omega)
      rw [if_neg (by omega)]
      exact ih h' (by omega)
    · rw [show m = k by omega, if_pos hk]
def rl (n : Int) : Int := if 1 ≤ n ∧ n ≤ 1000000000 then rlTo n 30 else 0
theorem rl_has {n : Int} (h : 1 ≤ n) (h2 : n ≤ 1000000000) : ∃ k, k < 28 ∧ (rs k : Int) ≤ n ∧ n < rs (k + 1) := by
  have : ∀ m, n < rs m → m ≤ 28 → ∃ k, k < m ∧ (rs k : Int) ≤ n ∧ n < rs (k + 1) := by
    intro m
    induction m with
    | zero => intro h0; have : rs 0 = 1 := rfl; omega
    | succ m ih =>
      intro h0 hm
      rcases Int.lt_or_le n (rs m) with h' | h'
      · obtain ⟨k, k1, k2⟩ := ih h' (by omega); exact ⟨k, by omega, k2⟩
      · exact ⟨m, by omega, h', h0⟩
  exact this 28 (by rw [rs_top]; omega) (Nat.le_refl _)
theorem rl_eq {n : Int} {k : Nat} (h : 1 ≤ n) (h2 : n ≤ 1000000000) (hk : k < 30) (h3 : (rs k : Int) ≤ n) (h4 : n < rs (k + 1)) : rl n = rs k := by
  unfold rl; rw [if_pos ⟨h, h2⟩]; exact rlTo_eq h3 h4 30 (by omega) (Nat.le_refl _)
theorem rlTo_succ (n : Int) (m : Nat) : rlTo n (m + 1) = if (rs m : Int) ≤ n then (rs m : Int) else rlTo n m := rfl
/-! ScaleStep -/
def ss (n : Int) : Int := if 1 ≤ n ∧ n ≤ 499999999 then (ra (rl n).toNat : Nat) else 0
theorem ss_eq {n : Int} {k : Nat} (h : 1 ≤ n) (h2 : n ≤ 499999999) (hk : k < 30) (h3 : (rs k : Int) ≤ n) (h4 : n < rs (k + 1)) : ss n = rs (k + 1) := by
  unfold ss
  rw [if_pos ⟨h, h2⟩, rl_eq h (by omega) hk h3 h4, Int.toNat_natCast, ra_rs ⟨k, hk⟩]
theorem dec_nat (u : Nat) : dec u = ⟨(Lib.decDigits u).toArray⟩ := by
  unfold dec Lib.itoa; rw [if_neg (by omega), Int.toNat_natCast]
theorem digits_len (u : Nat) : ∀ f, u < 10 ^ f → (Lib.decDigits u).length ≤ f + 1 := by
  intro f
  induction f generalizing u with
  | zero => intro h; rw [Lib.decDigits]; simp at h; subst h; simp
  | succ f ih =>
    intro h
    rw [Lib.decDigits]
    split
    · simp
    · have := ih (u / 10) (by rw [Nat.pow_succ] at h; omega)
      rw [List.length_append]; simp; omega
theorem dec_size {n : Int} (h : 0 ≤ n) (h2 : n ≤ 9223372036854775807) : (dec n).size ≤ 21 := by
  obtain ⟨u, rfl⟩ : ∃ u : Nat, n = u := ⟨n.toNat, by omega⟩
  rw [dec_nat]
  exact digits_len u 20 (by omega)
/-- the digits of u, none of nought, ahead of l -/
def digs (u : Nat) (l : List UInt8) : List UInt8 := (if u = 0 then [] else Lib.decDigits u) ++ l
theorem digs_step {u : Nat} (h : 0 < u) (l : List UInt8) : digs u l = digs (u / 10) (UInt8.ofNat (48 + u % 10) :: l) := by
  unfold digs
  rw [if_neg (by omega), Lib.decDigits]
  split
  · rename_i h10
    rw [if_pos (by omega), show u % 10 = u by omega]; rfl
  · rw [if_neg (by omega)]; simp
theorem str_app (a b : List UInt8) : (⟨a.toArray⟩ : ByteArray) ++ (⟨b.toArray⟩ : ByteArray) = ⟨(a ++ b).toArray⟩ := by
  apply ByteArray.ext
  simp
theorem f103 (u : Nat) (h1 : u ≤ 9223372036854775807) : Fn Tryz.prog 103 false [i u] (.str (dec u)) := by
  refine Fn.by_sx hX (by kernel_rfl) c103 (by kernel_rfl) (by rfl) ?_
  simp [i103, sxa, isPtrN, PV.pcs, elAt, setEl, inAt, elIn, setIn, isLst, cellsOf, Ex.ok, Ex.val, Opd.val, POp.dst, bin_int, binOK_int, bin_str, binOK_str, resOK, resV, RB.val, sub, putc, scB, scL, oneB, conf, Ex.val.eqP, Ex.val.eqL, negV, mxV, mnV, ← wr_eq, wr_zero, wr_one, wr_m1, bst_lst, byteC, partsOK, putAll, appV, nilV, slV, sslV, optB, optNum, and_assoc, exists_and_left, exists_eq_left']
  by_cases hz : u = 0
  · subst hz
    have : dec (0 : Int) = bs [48] := by have := dec_nat 0; rw [Lib.decDigits] at this; simpa using this
    repeat' (first | intro _ | (simp [sxa, isPtrN, PV.pcs, elAt, setEl, inAt, elIn, setIn, isLst, cellsOf, Ex.ok, Ex.val, Opd.val, POp.dst, bin_int, binOK_int, bin_str, binOK_str, resOK, resV, RB.val, sub, putc, scB, scL, oneB, conf, Ex.val.eqP, Ex.val.eqL, negV, mxV, mnV, ← wr_eq, wr_zero, wr_one, wr_m1, bst_lst, byteC, partsOK, putAll, appV, nilV, slV, sslV, optB, optNum, and_assoc, exists_and_left, exists_eq_left', *]) | refine CondS_d (fun h => ?_) (fun h => ?_) | refine CondS_b (fun h => ?_) (fun h => ?_) | refine GrdS_d (fun h => ?_) (fun h => ?_) | refine GrdS_b (fun h => ?_) (fun h => ?_) | refine OkS_i (by omega) ?_ | fail)
  have hzi : ¬ (u : Int) = 0 := by omega
  repeat' (first | intro _ | (simp [sxa, isPtrN, PV.pcs, elAt, setEl, inAt, elIn, setIn, isLst, cellsOf, Ex.ok, Ex.val, Opd.val, POp.dst, bin_int, binOK_int, bin_str, binOK_str, resOK, resV, RB.val, sub, putc, scB, scL, oneB, conf, Ex.val.eqP, Ex.val.eqL, negV, mxV, mnV, ← wr_eq, wr_zero, wr_one, wr_m1, bst_lst, byteC, partsOK, putAll, appV, nilV, slV, sslV, optB, optNum, and_assoc, exists_and_left, exists_eq_left', *]) | refine CondS_d (fun h => ?_) (fun h => ?_) | refine CondS_b (fun h => ?_) (fun h => ?_) | refine GrdS_d (fun h => ?_) (fun h => ?_) | refine GrdS_b (fun h => ?_) (fun h => ?_) | refine OkS_i (by omega) ?_ | fail)
  refine sx_down (fun m V => ∃ l : List UInt8, V 0 = i u ∧ V 4 = i m ∧ V 3 = .str ⟨l.toArray⟩ ∧ m ≤ 9223372036854775807 ∧ digs m l = Lib.decDigits u) u ⟨[], by simp [sxa, isPtrN, PV.pcs, elAt, setEl, inAt, elIn, setIn, isLst, cellsOf, Ex.ok, Ex.val, Opd.val, POp.dst, bin_int, binOK_int, bin_str, binOK_str, resOK, resV, RB.val, sub, putc, scB, scL, oneB, conf, Ex.val.eqP, Ex.val.eqL, negV, mxV, mnV, ← wr_eq, wr_zero, wr_one, wr_m1, bst_lst, byteC, partsOK, putAll, appV, nilV, slV, sslV, optB, optNum, and_assoc, exists_and_left, exists_eq_left', digs, hz]; exact h1⟩ ?_
  rintro m V ⟨l, h0, h4, h3, hm, hd⟩
  simp [sxa, isPtrN, PV.pcs, elAt, setEl, inAt, elIn, setIn, isLst, cellsOf, Ex.ok, Ex.val, Opd.val, POp.dst, bin_int, binOK_int, bin_str, binOK_str, resOK, resV, RB.val, sub, putc, scB, scL, oneB, conf, Ex.val.eqP, Ex.val.eqL, negV, mxV, mnV, ← wr_eq, wr_zero, wr_one, wr_m1, bst_lst, byteC, partsOK, putAll, appV, nilV, slV, sslV, optB, optNum, and_assoc, exists_and_left, exists_eq_left', h0, h4]
  have hll : l.length ≤ 21 := by
    have := digits_len u 20 (by omega)
    rw [← hd] at this
    unfold digs at this
    rw [List.length_append] at this; omega
  by_cases hm0 : m = 0
  · subst hm0
    have hr : dec u = ⟨l.toArray⟩ := by rw [dec_nat, ← hd]; unfold digs; simp
    repeat' (first | intro _ | (simp [sxa, isPtrN, PV.pcs, elAt, setEl, inAt, elIn, setIn, isLst, cellsOf, Ex.ok, Ex.val, Opd.val, POp.dst, bin_int, binOK_int, bin_str, binOK_str, resOK, resV, RB.val, sub, putc, scB, scL, oneB, conf, Ex.val.eqP, Ex.val.eqL, negV, mxV, mnV, ← wr_eq, wr_zero, wr_one, wr_m1, bst_lst, byteC, partsOK, putAll, appV, nilV, slV, sslV, optB, optNum, and_assoc, exists_and_left, exists_eq_left', *]) | refine CondS_d (fun h => ?_) (fun h => ?_) | refine CondS_b (fun h => ?_) (fun h => ?_) | refine GrdS_d (fun h => ?_) (fun h => ?_) | refine GrdS_b (fun h => ?_) (fun h => ?_) | refine OkS_i (by omega) ?_ | fail)
    all_goals (exfalso; omega)
  · obtain ⟨q, hq⟩ : ∃ q, m / 10 = q := ⟨_, rfl⟩
    obtain ⟨d, hdd⟩ : ∃ d, m % 10 = d := ⟨_, rfl⟩
    have e1 : (m : Int) / 10 = q := by omega
    have e2 : (m : Int) % 10 = d := by omega
    have e3 : (m : Int).tmod 10 = d := by rw [Int.tmod_eq_emod_of_nonneg (by omega)]; exact e2
    have w1 : wr .i64 (q : Int) = q := wr_in (by omega) (by omega)
    have w2 : wr .i64 (48 + (d : Int)) = 48 + d := wr_in (by omega) (by omega)
    have w3 : wr .u8 (48 + (d : Int)) = 48 + d := wr_u8 (by omega) (by omega)
    have hneg : ¬ (d : Int) < 0 := by omega
    have hb : (48 + (d : Int)).toNat = 48 + d := by omega
    have hs := digs_step (u := m) (by omega) l
    rw [hq, hdd, hd] at hs
    repeat' (first | intro _ | (simp [sxa, isPtrN, PV.pcs, elAt, setEl, inAt, elIn, setIn, isLst, cellsOf, Ex.ok, Ex.val, Opd.val, POp.dst, bin_int, binOK_int, bin_str, binOK_str, resOK, resV, RB.val, sub, putc, scB, scL, oneB, conf, Ex.val.eqP, Ex.val.eqL, negV, mxV, mnV, ← wr_eq, wr_zero, wr_one, wr_m1, bst_lst, byteC, partsOK, putAll, appV, nilV, slV, sslV, optB, optNum, and_assoc, exists_and_left, exists_eq_left', *]) | refine CondS_d (fun h => ?_) (fun h => ?_) | refine CondS_b (fun h => ?_) (fun h => ?_) | refine GrdS_d (fun h => ?_) (fun h => ?_) | refine GrdS_b (fun h => ?_) (fun h => ?_) | refine OkS_i (by omega) ?_ | fail)
    refine OkS_i ⟨[48 + (d : Int)], rfl⟩ ?_
    have happ : (⟨#[48 + UInt8.ofNat d]⟩ : ByteArray) ++ ⟨l.toArray⟩ = ⟨((48 + UInt8.ofNat d) :: l).toArray⟩ := str_app [48 + UInt8.ofNat d] l
    have hsz : ((⟨#[48 + UInt8.ofNat d]⟩ : ByteArray).size + (⟨l.toArray⟩ : ByteArray).size < 4611686018427387904) := by
      show 1 + l.length < _; omega
    simp [sxa, isPtrN, PV.pcs, elAt, setEl, inAt, elIn, setIn, isLst, cellsOf, Ex.ok, Ex.val, Opd.val, POp.dst, bin_int, binOK_int, bin_str, binOK_str, resOK, resV, RB.val, sub, putc, scB, scL, oneB, conf, Ex.val.eqP, Ex.val.eqL, negV, mxV, mnV, ← wr_eq, wr_zero, wr_one, wr_m1, bst_lst, byteC, partsOK, putAll, appV, nilV, slV, sslV, optB, optNum, and_assoc, exists_and_left, exists_eq_left', h3, hsz, happ, e1, w1, h0, h4]
    exact ⟨q, by omega, rfl, by omega, rfl⟩
/-! BarText -/
def wText (n : Int) : ByteArray := if n < 1 then bs [] else if n < 1000 then dec n ++ bs [109] else dec (n / 1000) ++ bs [107, 109]
theorem f103' (n : Int) (h0 : 0 ≤ n) (h1 : n ≤ 9223372036854775807) : Fn Tryz.prog 103 false [i n] (.str (dec n)) := by
  obtain ⟨u, rfl⟩ : ∃ u : Nat, n = u := ⟨n.toNat, by omega⟩
  exact f103 u (by omega)
/-! references -/
def abc : ByteArray := bs [97, 98, 99, 100, 101, 102, 103, 104, 105, 106, 107, 108, 109, 110, 111, 112, 113, 114, 115, 116, 117]
def wRef (n : Int) : ByteArray := if 0 ≤ n ∧ n ≤ 440 then bs [97 + UInt8.ofNat (n % 21).toNat] ++ dec (n / 21) else bs []
theorem abc_at : ∀ k : _root_.Fin 21, abc.extract k.val (k.val + 1) = bs [97 + UInt8.ofNat k.val] := by decide +kernel
theorem f76 (n : Int) : Fn Tryz.prog 76 false [i n] (.str (wRef n)) := by
  refine Fn.by_sx hX (by kernel_rfl) c76 (by kernel_rfl) (by rfl) ?_
  simp [i76, sxa, isPtrN, PV.pcs, elAt, setEl, inAt, elIn, setIn, isLst, cellsOf, Ex.ok, Ex.val, Opd.val, POp.dst, bin_int, binOK_int, bin_str, binOK_str, resOK, resV, RB.val, sub, putc, scB, scL, oneB, conf, Ex.val.eqP, Ex.val.eqL, negV, mxV, mnV, ← wr_eq, wr_zero, wr_one, wr_m1, bst_lst, byteC, partsOK, putAll, appV, nilV, slV, sslV, optB, optNum, and_assoc, exists_and_left, exists_eq_left']
  refine CallS_b (f65 _ _ _) (fun h => ?_) (fun h => ?_)
  · have hr : 0 ≤ n ∧ n ≤ 440 := by simpa [inR] using h
    obtain ⟨u, rfl⟩ : ∃ u : Nat, n = u := ⟨n.toNat, by omega⟩
    obtain ⟨d, hd⟩ : ∃ d, u % 21 = d := ⟨_, rfl⟩
    obtain ⟨q, hq⟩ : ∃ q, u / 21 = q := ⟨_, rfl⟩
    have e1 : (u : Int).tmod 21 = d := by rw [Int.tmod_eq_emod_of_nonneg (by omega)]; omega
    have e2 : (u : Int) % 21 = d := by omega
    have e3 : (u : Int).tdiv 21 = q := by rw [Int.tdiv_eq_ediv_of_nonneg (by omega)]; omega
    have e4 : (u : Int) / 21 = q := by omega
    have w1 : wr .i64 ((d : Int) + 1) = d + 1 := wr_in (by omega) (by omega)
    have w2 : wr .i64 (q : Int) = q := wr_in (by omega) (by omega)
    have ha := abc_at ⟨d, by omega⟩
    have hwr : wRef u = bs [97 + UInt8.ofNat d] ++ dec q := by
      unfold wRef; rw [if_pos hr, e2, e4]; simp
    have hsz : (bs [97 + UInt8.ofNat d]).size + (dec q).size < 4611686018427387904 := by
      have := dec_size (n := q) (by omega) (by omega)
      show 1 + _ < _; omega
    have hab : abc.size = 21 := by decide +kernel
    unfold abc at ha hab
    simp only at ha
    repeat' (first | intro _ | (simp [sxa, isPtrN, PV.pcs, elAt, setEl, inAt, elIn, setIn, isLst, cellsOf, Ex.ok, Ex.val, Opd.val, POp.dst, bin_int, binOK_int, bin_str, binOK_str, resOK, resV, RB.val, sub, putc, scB, scL, oneB, conf, Ex.val.eqP, Ex.val.eqL, negV, mxV, mnV, ← wr_eq, wr_zero, wr_one, wr_m1, bst_lst, byteC, partsOK, putAll, appV, nilV, slV, sslV, optB, optNum, and_assoc, exists_and_left, exists_eq_left', *]) | refine CallS_i (f103 q (by omega)) ?_ | refine CondS_d (fun h => ?_) (fun h => ?_) | refine CondS_b (fun h => ?_) (fun h => ?_) | refine GrdS_d (fun h => ?_) (fun h => ?_) | refine GrdS_b (fun h => ?_) (fun h => ?_) | refine OkS_i (by omega) ?_ | fail)
  · have hr : wRef n = bs [] := by unfold wRef; rw [if_neg (by simpa [inR] using h)]
    repeat' (first | intro _ | (simp [sxa, isPtrN, PV.pcs, elAt, setEl, inAt, elIn, setIn, isLst, cellsOf, Ex.ok, Ex.val, Opd.val, POp.dst, bin_int, binOK_int, bin_str, binOK_str, resOK, resV, RB.val, sub, putc, scB, scL, oneB, conf, Ex.val.eqP, Ex.val.eqL, negV, mxV, mnV, ← wr_eq, wr_zero, wr_one, wr_m1, bst_lst, byteC, partsOK, putAll, appV, nilV, slV, sslV, optB, optNum, and_assoc, exists_and_left, exists_eq_left', *]) | refine CondS_d (fun h => ?_) (fun h => ?_) | refine CondS_b (fun h => ?_) (fun h => ?_) | refine GrdS_d (fun h => ?_) (fun h => ?_) | refine GrdS_b (fun h => ?_) (fun h => ?_) | refine OkS_i (by omega) ?_ | fail)
def cap2 (x : Int) : Int := if (200 : Int) < x then 200 else x
def tbox (n : Int) : List PV := if 0 ≤ n ∧ n ≤ 440 then [i (n % 21 * 10), i (n / 21 * 10), i (cap2 (n % 21 * 10 + 10)), i (cap2 (n / 21 * 10 + 10))] else [i 0, i 0, i 0, i 0]
theorem f66 (n : Int) : Fn Tryz.prog 66 false [i n] (.tup [.agg (tbox n), .bool (inR n 0 440)]) := by
  refine Fn.by_sx hX (by kernel_rfl) c66 (by kernel_rfl) (by rfl) ?_
  simp [i66, sxa, isPtrN, PV.pcs, elAt, setEl, inAt, elIn, setIn, isLst, cellsOf, Ex.ok, Ex.val, Opd.val, POp.dst, bin_int, binOK_int, bin_str, binOK_str, resOK, resV, RB.val, sub, putc, scB, scL, oneB, conf, Ex.val.eqP, Ex.val.eqL, negV, mxV, mnV, ← wr_eq, wr_zero, wr_one, wr_m1, bst_lst, byteC, partsOK, putAll, appV, nilV, slV, sslV, optB, optNum, and_assoc, exists_and_left, exists_eq_left']
  by_cases hr : 0 ≤ n ∧ n ≤ 440
  · have h : inR n 0 440 = true := by simpa [inR] using hr
    have hc := f64 n 0 440
    rw [h] at hc
    have e1 : n.tmod 21 = n % 21 := Int.tmod_eq_emod_of_nonneg (by omega)
    have e3 : n.tdiv 21 = n / 21 := Int.tdiv_eq_ediv_of_nonneg (by omega)
    obtain ⟨d, hd, hd2⟩ : ∃ d, n % 21 = d ∧ 0 ≤ d ∧ d ≤ 20 := ⟨_, rfl, by omega⟩
    obtain ⟨q, hq, hq2⟩ : ∃ q, n / 21 = q ∧ 0 ≤ q ∧ q ≤ 20 := ⟨_, rfl, by omega⟩
    have ht : tbox n = [i (d * 10), i (q * 10), i (cap2 (d * 10 + 10)), i (cap2 (q * 10 + 10))] := by unfold tbox; rw [if_pos hr, hd, hq]
    rw [hd] at e1
    rw [hq] at e3
    have w0 : wr .i64 q = q := wr_in (by omega) (by omega)
    have w1 : wr .i64 (d * 10) = d * 10 := wr_in (by omega) (by omega)
    have w2 : wr .i64 (q * 10) = q * 10 := wr_in (by omega) (by omega)
    have w3 : wr .i64 (d * 10 + 10) = d * 10 + 10 := wr_in (by omega) (by omega)
    have w4 : wr .i64 (q * 10 + 10) = q * 10 + 10 := wr_in (by omega) (by omega)
    rw [h]
    repeat' (first | intro _ | (simp [sxa, isPtrN, PV.pcs, elAt, setEl, inAt, elIn, setIn, isLst, cellsOf, Ex.ok, Ex.val, Opd.val, POp.dst, bin_int, binOK_int, bin_str, binOK_str, resOK, resV, RB.val, sub, putc, scB, scL, oneB, conf, Ex.val.eqP, Ex.val.eqL, negV, mxV, mnV, ← wr_eq, wr_zero, wr_one, wr_m1, bst_lst, byteC, partsOK, putAll, appV, nilV, slV, sslV, optB, optNum, and_assoc, exists_and_left, exists_eq_left', cap2, *]) | refine CallS_i (hc) ?_ | refine CondS_d (fun h => ?_) (fun h => ?_) | refine CondS_b (fun h => ?_) (fun h => ?_) | refine GrdS_d (fun h => ?_) (fun h => ?_) | refine GrdS_b (fun h => ?_) (fun h => ?_) | refine OkS_i (by omega) ?_ | fail)
  · have h : inR n 0 440 = false := by simpa [inR] using fun h => by omega
    have hc := f64 n 0 440
    rw [h] at hc
    have ht : tbox n = [i 0, i 0, i 0, i 0] := by unfold tbox; rw [if_neg hr]
    rw [h]
    repeat' (first | intro _ | (simp [sxa, isPtrN, PV.pcs, elAt, setEl, inAt, elIn, setIn, isLst, cellsOf, Ex.ok, Ex.val, Opd.val, POp.dst, bin_int, binOK_int, bin_str, binOK_str, resOK, resV, RB.val, sub, putc, scB, scL, oneB, conf, Ex.val.eqP, Ex.val.eqL, negV, mxV, mnV, ← wr_eq, wr_zero, wr_one, wr_m1, bst_lst, byteC, partsOK, putAll, appV, nilV, slV, sslV, optB, optNum, and_assoc, exists_and_left, exists_eq_left', *]) | refine CallS_i (hc) ?_ | refine CondS_d (fun h => ?_) (fun h => ?_) | refine CondS_b (fun h => ?_) (fun h => ?_) | refine GrdS_d (fun h => ?_) (fun h => ?_) | refine GrdS_b (fun h => ?_) (fun h => ?_) | refine OkS_i (by omega) ?_ | fail)
theorem tbox_4 (n : Int) : ∃ a b c d : Int, tbox n = [i a, i b, i c, i d] := by
  unfold tbox; split <;> exact ⟨_, _, _, _, rfl⟩
theorem f35 (n : Int) : Fn Tryz.prog 35 false [i n] (.str (wRef n)) := by
  have hc := f66 n
  obtain ⟨b0, b1, b2, b3, hb⟩ := tbox_4 n
  rw [hb] at hc
  refine Fn.by_sx hX (by kernel_rfl) c35 (by kernel_rfl) (by rfl) ?_
  simp [i35, sxa, isPtrN, PV.pcs, elAt, setEl, inAt, elIn, setIn, isLst, cellsOf, Ex.ok, Ex.val, Opd.val, POp.dst, bin_int, binOK_int, bin_str, binOK_str, resOK, resV, RB.val, sub, putc, scB, scL, oneB, conf, Ex.val.eqP, Ex.val.eqL, negV, mxV, mnV, ← wr_eq, wr_zero, wr_one, wr_m1, bst_lst, byteC, partsOK, putAll, appV, nilV, slV, sslV, optB, optNum, and_assoc, exists_and_left, exists_eq_left']
  by_cases hr : 0 ≤ n ∧ n ≤ 440
  · have h : inR n 0 440 = true := by simpa [inR] using hr
    rw [h] at hc
    obtain ⟨u, rfl⟩ : ∃ u : Nat, n = u := ⟨n.toNat, by omega⟩
    obtain ⟨d, hd⟩ : ∃ d, u % 21 = d := ⟨_, rfl⟩
    obtain ⟨q, hq⟩ : ∃ q, u / 21 = q := ⟨_, rfl⟩
    have e1 : (u : Int).tmod 21 = d := by rw [Int.tmod_eq_emod_of_nonneg (by omega)]; omega
    have e2 : (u : Int) % 21 = d := by omega
    have e3 : (u : Int).tdiv 21 = q := by rw [Int.tdiv_eq_ediv_of_nonneg (by omega)]; omega
    have e4 : (u : Int) / 21 = q := by omega
    have w1 : wr .i64 (97 + (d : Int)) = 97 + d := wr_in (by omega) (by omega)
    have w3 : wr .u8 (97 + (d : Int)) = 97 + d := wr_u8 (by omega) (by omega)
    have w2 : wr .i64 (q : Int) = q := wr_in (by omega) (by omega)
    have hwr : wRef u = bs [97 + UInt8.ofNat d] ++ dec q := by
      unfold wRef; rw [if_pos hr, e2, e4]; simp
    have hbb : (97 + (d : Int)).toNat = 97 + d := by omega
    have hsz : (bs [97 + UInt8.ofNat d]).size + (dec q).size < 4611686018427387904 := by
      have := dec_size (n := q) (by omega) (by omega)
      show 1 + _ < _; omega
    repeat' (first | intro _ | (simp [sxa, isPtrN, PV.pcs, elAt, setEl, inAt, elIn, setIn, isLst, cellsOf, Ex.ok, Ex.val, Opd.val, POp.dst, bin_int, binOK_int, bin_str, binOK_str, resOK, resV, RB.val, sub, putc, scB, scL, oneB, conf, Ex.val.eqP, Ex.val.eqL, negV, mxV, mnV, ← wr_eq, wr_zero, wr_one, wr_m1, bst_lst, byteC, partsOK, putAll, appV, nilV, slV, sslV, optB, optNum, and_assoc, exists_and_left, exists_eq_left', *]) | refine CallS_i (hc) ?_ | refine CallS_i (f70 q (by omega) (by omega)) ?_ | refine CondS_d (fun h => ?_) (fun h => ?_) | refine CondS_b (fun h => ?_) (fun h => ?_) | refine GrdS_d (fun h => ?_) (fun h => ?_) | refine GrdS_b (fun h => ?_) (fun h => ?_) | refine OkS_i (by omega) ?_ | fail)
    refine OkS_i ⟨[97 + (d : Int)], rfl⟩ ?_
    repeat' (first | intro _ | (simp [sxa, isPtrN, PV.pcs, elAt, setEl, inAt, elIn, setIn, isLst, cellsOf, Ex.ok, Ex.val, Opd.val, POp.dst, bin_int, binOK_int, bin_str, binOK_str, resOK, resV, RB.val, sub, putc, scB, scL, oneB, conf, Ex.val.eqP, Ex.val.eqL, negV, mxV, mnV, ← wr_eq, wr_zero, wr_one, wr_m1, bst_lst, byteC, partsOK, putAll, appV, nilV, slV, sslV, optB, optNum, and_assoc, exists_and_left, exists_eq_left', *]) | refine CallS_i (hc) ?_ | refine CallS_i (f70 q (by omega) (by omega)) ?_ | refine CondS_d (fun h => ?_) (fun h => ?_) | refine CondS_b (fun h => ?_) (fun h => ?_) | refine GrdS_d (fun h => ?_) (fun h => ?_) | refine GrdS_b (fun h => ?_) (fun h => ?_) | refine OkS_i (by omega) ?_ | fail)
  · have h : inR n 0 440 = false := by simpa [inR] using fun h => by omega
    rw [h] at hc
    have hwr : wRef n = bs [] := by unfold wRef; rw [if_neg hr]
    repeat' (first | intro _ | (simp [sxa, isPtrN, PV.pcs, elAt, setEl, inAt, elIn, setIn, isLst, cellsOf, Ex.ok, Ex.val, Opd.val, POp.dst, bin_int, binOK_int, bin_str, binOK_str, resOK, resV, RB.val, sub, putc, scB, scL, oneB, conf, Ex.val.eqP, Ex.val.eqL, negV, mxV, mnV, ← wr_eq, wr_zero, wr_one, wr_m1, bst_lst, byteC, partsOK, putAll, appV, nilV, slV, sslV, optB, optNum, and_assoc, exists_and_left, exists_eq_left', *]) | refine CallS_i (hc) ?_ | refine CondS_d (fun h => ?_) (fun h => ?_) | refine CondS_b (fun h => ?_) (fun h => ?_) | refine GrdS_d (fun h => ?_) (fun h => ?_) | refine GrdS_b (fun h => ?_) (fun h => ?_) | refine OkS_i (by omega) ?_ | fail)
def isP (x y : Int) : Bool := inR x 0 200 && inR y 0 200
theorem isP_eq (x y : Int) : M_IsPoint x y = isP x y := by
  simp [M_IsPoint, isP, inR]
  all_goals omega
def wTile (x y : Int) : Int := if isP x y = true then y / 10 * 21 + x / 10 else -1
theorem f77 (x y : Int) : Fn Tryz.prog 77 false [.agg [i x, i y]] (i (wTile x y)) := by
  refine Fn.by_sx hX (by kernel_rfl) c77 (by kernel_rfl) (by rfl) ?_
  simp [i77, sxa, isPtrN, PV.pcs, elAt, setEl, inAt, elIn, setIn, isLst, cellsOf, Ex.ok, Ex.val, Opd.val, POp.dst, bin_int, binOK_int, bin_str, binOK_str, resOK, resV, RB.val, sub, putc, scB, scL, oneB, conf, Ex.val.eqP, Ex.val.eqL, negV, mxV, mnV, ← wr_eq, wr_zero, wr_one, wr_m1, bst_lst, byteC, partsOK, putAll, appV, nilV, slV, sslV, optB, optNum, and_assoc, exists_and_left, exists_eq_left']
  by_cases h : isP x y = true
  · have hr : (0 ≤ x ∧ x ≤ 200) ∧ (0 ≤ y ∧ y ≤ 200) := by simpa [isP, inR] using h
    have ht : wTile x y = y / 10 * 21 + x / 10 := by unfold wTile; rw [if_pos h]
    have e1 : y.tdiv 10 = y / 10 := Int.tdiv_eq_ediv_of_nonneg (by omega)
    have e2 : x.tdiv 10 = x / 10 := Int.tdiv_eq_ediv_of_nonneg (by omega)
    obtain ⟨p, hp⟩ : ∃ p, y / 10 = p := ⟨_, rfl⟩
    obtain ⟨q, hq⟩ : ∃ q, x / 10 = q := ⟨_, rfl⟩
    rw [hp] at e1
    rw [hq] at e2
    have w0 : wr .i64 p = p := wr_in (by omega) (by omega)
    have w1 : wr .i64 q = q := wr_in (by omega) (by omega)
    have w2 : wr .i64 (p * 21) = p * 21 := wr_in (by omega) (by omega)
    have w3 : wr .i64 (p * 21 + q) = p * 21 + q := wr_in (by omega) (by omega)
    have hc := f29 x y
    rw [isP_eq] at hc
    rw [h] at hc
    repeat' (first | intro _ | (simp [sxa, isPtrN, PV.pcs, elAt, setEl, inAt, elIn, setIn, isLst, cellsOf, Ex.ok, Ex.val, Opd.val, POp.dst, bin_int, binOK_int, bin_str, binOK_str, resOK, resV, RB.val, sub, putc, scB, scL, oneB, conf, Ex.val.eqP, Ex.val.eqL, negV, mxV, mnV, ← wr_eq, wr_zero, wr_one, wr_m1, bst_lst, byteC, partsOK, putAll, appV, nilV, slV, sslV, optB, optNum, and_assoc, exists_and_left, exists_eq_left', *]) | refine CallS_i (hc) ?_ | refine CondS_d (fun h => ?_) (fun h => ?_) | refine CondS_b (fun h => ?_) (fun h => ?_) | refine GrdS_d (fun h => ?_) (fun h => ?_) | refine GrdS_b (fun h => ?_) (fun h => ?_) | refine OkS_i (by omega) ?_ | fail)
  · have ht : wTile x y = -1 := by unfold wTile; rw [if_neg h]
    have hc := f29 x y
    rw [isP_eq] at hc
    rw [show isP x y = false by simpa using h] at hc
    repeat' (first | intro _ | (simp [sxa, isPtrN, PV.pcs, elAt, setEl, inAt, elIn, setIn, isLst, cellsOf, Ex.ok, Ex.val, Opd.val, POp.dst, bin_int, binOK_int, bin_str, binOK_str, resOK, resV, RB.val, sub, putc, scB, scL, oneB, conf, Ex.val.eqP, Ex.val.eqL, negV, mxV, mnV, ← wr_eq, wr_zero, wr_one, wr_m1, bst_lst, byteC, partsOK, putAll, appV, nilV, slV, sslV, optB, optNum, and_assoc, exists_and_left, exists_eq_left', *]) | refine CallS_i (hc) ?_ | refine CondS_d (fun h => ?_) (fun h => ?_) | refine CondS_b (fun h => ?_) (fun h => ?_) | refine GrdS_d (fun h => ?_) (fun h => ?_) | refine GrdS_b (fun h => ?_) (fun h => ?_) | refine OkS_i (by omega) ?_ | fail)

theorem f30 (x y : Int) : Fn Tryz.prog 30 false [.agg [i x, i y]] (i (wTile x y)) := by
  refine Fn.by_sx hX (by kernel_rfl) c30 (by kernel_rfl) (by rfl) ?_
  simp [i30, sxa, isPtrN, PV.pcs, elAt, setEl, inAt, elIn, setIn, isLst, cellsOf, Ex.ok, Ex.val, Opd.val, POp.dst, bin_int, binOK_int, bin_str, binOK_str, resOK, resV, RB.val, sub, putc, scB, scL, oneB, conf, Ex.val.eqP, Ex.val.eqL, negV, mxV, mnV, ← wr_eq, wr_zero, wr_one, wr_m1, bst_lst, byteC, partsOK, putAll, appV, nilV, slV, sslV, optB, optNum, and_assoc, exists_and_left, exists_eq_left']
  by_cases h : isP x y = true
  · have hr : (0 ≤ x ∧ x ≤ 200) ∧ (0 ≤ y ∧ y ≤ 200) := by simpa [isP, inR] using h
    have ht : wTile x y = y / 10 * 21 + x / 10 := by unfold wTile; rw [if_pos h]
    have e1 : y.tdiv 10 = y / 10 := Int.tdiv_eq_ediv_of_nonneg (by omega)
    have e2 : x.tdiv 10 = x / 10 := Int.tdiv_eq_ediv_of_nonneg (by omega)
    obtain ⟨p, hp⟩ : ∃ p, y / 10 = p := ⟨_, rfl⟩
    obtain ⟨q, hq⟩ : ∃ q, x / 10 = q := ⟨_, rfl⟩
    rw [hp] at e1
    rw [hq] at e2
    have w0 : wr .i64 p = p := wr_in (by omega) (by omega)
    have w1 : wr .i64 q = q := wr_in (by omega) (by omega)
    have w2 : wr .i64 (p * 21) = p * 21 := wr_in (by omega) (by omega)
    have w3 : wr .i64 (p * 21 + q) = p * 21 + q := wr_in (by omega) (by omega)
    have hc := f28 x y
    rw [isP_eq] at hc
    rw [h] at hc
    repeat' (first | intro _ | (simp [sxa, isPtrN, PV.pcs, elAt, setEl, inAt, elIn, setIn, isLst, cellsOf, Ex.ok, Ex.val, Opd.val, POp.dst, bin_int, binOK_int, bin_str, binOK_str, resOK, resV, RB.val, sub, putc, scB, scL, oneB, conf, Ex.val.eqP, Ex.val.eqL, negV, mxV, mnV, ← wr_eq, wr_zero, wr_one, wr_m1, bst_lst, byteC, partsOK, putAll, appV, nilV, slV, sslV, optB, optNum, and_assoc, exists_and_left, exists_eq_left', *]) | refine CallS_i (hc) ?_ | refine CondS_d (fun h => ?_) (fun h => ?_) | refine CondS_b (fun h => ?_) (fun h => ?_) | refine GrdS_d (fun h => ?_) (fun h => ?_) | refine GrdS_b (fun h => ?_) (fun h => ?_) | refine OkS_i (by omega) ?_ | fail)
  · have ht : wTile x y = -1 := by unfold wTile; rw [if_neg h]
    have hc := f28 x y
    rw [isP_eq] at hc
    rw [show isP x y = false by simpa using h] at hc
    repeat' (first | intro _ | (simp [sxa, isPtrN, PV.pcs, elAt, setEl, inAt, elIn, setIn, isLst, cellsOf, Ex.ok, Ex.val, Opd.val, POp.dst, bin_int, binOK_int, bin_str, binOK_str, resOK, resV, RB.val, sub, putc, scB, scL, oneB, conf, Ex.val.eqP, Ex.val.eqL, negV, mxV, mnV, ← wr_eq, wr_zero, wr_one, wr_m1, bst_lst, byteC, partsOK, putAll, appV, nilV, slV, sslV, optB, optNum, and_assoc, exists_and_left, exists_eq_left', *]) | refine CallS_i (hc) ?_ | refine CondS_d (fun h => ?_) (fun h => ?_) | refine CondS_b (fun h => ?_) (fun h => ?_) | refine GrdS_d (fun h => ?_) (fun h => ?_) | refine GrdS_b (fun h => ?_) (fun h => ?_) | refine OkS_i (by omega) ?_ | fail)
theorem f41 (x y : Int) : Fn Tryz.prog 41 false [.agg [i x, i y]] (.str (wRef (wTile x y))) := by
  refine Fn.by_sx hX (by kernel_rfl) c41 (by kernel_rfl) (by rfl) ?_
  simp [i41, sxa, isPtrN, PV.pcs, elAt, setEl, inAt, elIn, setIn, isLst, cellsOf, Ex.ok, Ex.val, Opd.val, POp.dst, bin_int, binOK_int, bin_str, binOK_str, resOK, resV, RB.val, sub, putc, scB, scL, oneB, conf, Ex.val.eqP, Ex.val.eqL, negV, mxV, mnV, ← wr_eq, wr_zero, wr_one, wr_m1, bst_lst, byteC, partsOK, putAll, appV, nilV, slV, sslV, optB, optNum, and_assoc, exists_and_left, exists_eq_left']
  repeat' (first | intro _ | (simp [sxa, isPtrN, PV.pcs, elAt, setEl, inAt, elIn, setIn, isLst, cellsOf, Ex.ok, Ex.val, Opd.val, POp.dst, bin_int, binOK_int, bin_str, binOK_str, resOK, resV, RB.val, sub, putc, scB, scL, oneB, conf, Ex.val.eqP, Ex.val.eqL, negV, mxV, mnV, ← wr_eq, wr_zero, wr_one, wr_m1, bst_lst, byteC, partsOK, putAll, appV, nilV, slV, sslV, optB, optNum, and_assoc, exists_and_left, exists_eq_left', *]) | refine CallS_i (f77 _ _) ?_ | refine CallS_i (f76 _) ?_ | refine CondS_d (fun h => ?_) (fun h => ?_) | refine CondS_b (fun h => ?_) (fun h => ?_) | refine GrdS_d (fun h => ?_) (fun h => ?_) | refine GrdS_b (fun h => ?_) (fun h => ?_) | refine OkS_i (by omega) ?_ | fail)

theorem f26 (x y : Int) : Fn Tryz.prog 26 false [.agg [i x, i y]] (.str (wRef (wTile x y))) := by
  refine Fn.by_sx hX (by kernel_rfl) c26 (by kernel_rfl) (by rfl) ?_
  simp [i26, sxa, isPtrN, PV.pcs, elAt, setEl, inAt, elIn, setIn, isLst, cellsOf, Ex.ok, Ex.val, Opd.val, POp.dst, bin_int, binOK_int, bin_str, binOK_str, resOK, resV, RB.val, sub, putc, scB, scL, oneB, conf, Ex.val.eqP, Ex.val.eqL, negV, mxV, mnV, ← wr_eq, wr_zero, wr_one, wr_m1, bst_lst, byteC, partsOK, putAll, appV, nilV, slV, sslV, optB, optNum, and_assoc, exists_and_left, exists_eq_left']
  repeat' (first | intro _ | (simp [sxa, isPtrN, PV.pcs, elAt, setEl, inAt, elIn, setIn, isLst, cellsOf, Ex.ok, Ex.val, Opd.val, POp.dst, bin_int, binOK_int, bin_str, binOK_str, resOK, resV, RB.val, sub, putc, scB, scL, oneB, conf, Ex.val.eqP, Ex.val.eqL, negV, mxV, mnV, ← wr_eq, wr_zero, wr_one, wr_m1, bst_lst, byteC, partsOK, putAll, appV, nilV, slV, sslV, optB, optNum, and_assoc, exists_and_left, exists_eq_left', *]) | refine CallS_i (f30 _ _) ?_ | refine CallS_i (f35 _) ?_ | refine CondS_d (fun h => ?_) (fun h => ?_) | refine CondS_b (fun h => ?_) (fun h => ?_) | refine GrdS_d (fun h => ?_) (fun h => ?_) | refine GrdS_b (fun h => ?_) (fun h => ?_) | refine OkS_i (by omega) ?_ | fail)
end Go.Eng
namespace Go.Eng
open Go Go.Proofs Geo
set_option linter.unusedSimpArgs false
set_option linter.unusedVariables false
set_option maxRecDepth 20000
set_option maxHeartbeats 1000000

/-! boxes -/
def wBox (a b c d : Int) : Bool := M_IsPoint a b && (M_IsPoint c d && (decide (a ≤ c) && decide (b ≤ d)))
theorem f67 (a b c d : Int) : Fn Tryz.prog 67 false [.agg [i a, i b, i c, i d]] (.bool (wBox a b c d)) := by
  refine Fn.by_sx hX (by kernel_rfl) c67 (by kernel_rfl) (by rfl) ?_
  simp [i67, sxa, isPtrN, PV.pcs, elAt, setEl, inAt, elIn, setIn, isLst, cellsOf, Ex.ok, Ex.val, Opd.val, POp.dst, bin_int, binOK_int, bin_str, binOK_str, resOK, resV, RB.val, sub, putc, scB, scL, oneB, conf, Ex.val.eqP, Ex.val.eqL, negV, mxV, mnV, ← wr_eq, wr_zero, wr_one, wr_m1, bst_lst, byteC, partsOK, putAll, appV, nilV, slV, sslV, optB, optNum, and_assoc, exists_and_left, exists_eq_left']
  repeat' (first | intro _ | (simp [sxa, isPtrN, PV.pcs, elAt, setEl, inAt, elIn, setIn, isLst, cellsOf, Ex.ok, Ex.val, Opd.val, POp.dst, bin_int, binOK_int, bin_str, binOK_str, resOK, resV, RB.val, sub, putc, scB, scL, oneB, conf, Ex.val.eqP, Ex.val.eqL, negV, mxV, mnV, ← wr_eq, wr_zero, wr_one, wr_m1, bst_lst, byteC, partsOK, putAll, appV, nilV, slV, sslV, optB, optNum, and_assoc, exists_and_left, exists_eq_left', *]) | refine CallS_b (f28 _ _) (fun h => ?_) (fun h => ?_) | refine CondS_d (fun h => ?_) (fun h => ?_) | refine CondS_b (fun h => ?_) (fun h => ?_) | refine GrdS_d (fun h => ?_) (fun h => ?_) | refine GrdS_b (fun h => ?_) (fun h => ?_) | refine OkS_i (by omega) ?_ | fail)
  all_goals simp_all [wBox]
  all_goals omega
def wInBox (a b c d x y : Int) : Bool := wBox a b c d && (inR x a c && inR y b d)
theorem f32 (a b c d x y : Int) : Fn Tryz.prog 32 false [.agg [i a, i b, i c, i d], .agg [i x, i y]] (.bool (wInBox a b c d x y)) := by
  refine Fn.by_sx hX (by kernel_rfl) c32 (by kernel_rfl) (by rfl) ?_
  simp [i32, sxa, isPtrN, PV.pcs, elAt, setEl, inAt, elIn, setIn, isLst, cellsOf, Ex.ok, Ex.val, Opd.val, POp.dst, bin_int, binOK_int, bin_str, binOK_str, resOK, resV, RB.val, sub, putc, scB, scL, oneB, conf, Ex.val.eqP, Ex.val.eqL, negV, mxV, mnV, ← wr_eq, wr_zero, wr_one, wr_m1, bst_lst, byteC, partsOK, putAll, appV, nilV, slV, sslV, optB, optNum, and_assoc, exists_and_left, exists_eq_left']
  repeat' (first | intro _ | (simp [sxa, isPtrN, PV.pcs, elAt, setEl, inAt, elIn, setIn, isLst, cellsOf, Ex.ok, Ex.val, Opd.val, POp.dst, bin_int, binOK_int, bin_str, binOK_str, resOK, resV, RB.val, sub, putc, scB, scL, oneB, conf, Ex.val.eqP, Ex.val.eqL, negV, mxV, mnV, ← wr_eq, wr_zero, wr_one, wr_m1, bst_lst, byteC, partsOK, putAll, appV, nilV, slV, sslV, optB, optNum, and_assoc, exists_and_left, exists_eq_left', *]) | refine CallS_b (f67 _ _ _ _) (fun h => ?_) (fun h => ?_) | refine CallS_b (f64 _ _ _) (fun h => ?_) (fun h => ?_) | refine CondS_d (fun h => ?_) (fun h => ?_) | refine CondS_b (fun h => ?_) (fun h => ?_) | refine GrdS_d (fun h => ?_) (fun h => ?_) | refine GrdS_b (fun h => ?_) (fun h => ?_) | refine OkS_i (by omega) ?_ | fail)
  all_goals simp_all [wInBox]
def wBM (a b c d p q r s : Int) : Bool := wBox a b c d && (wBox p q r s && (decide (a ≤ r) && (decide (p ≤ c) && (decide (b ≤ s) && decide (q ≤ d)))))
theorem f162 (a b c d p q r s : Int) : Fn Tryz.prog 162 false [.agg [i a, i b, i c, i d], .agg [i p, i q, i r, i s]] (.tup [i (wr .i64 ((if r < c then r else c) - (if a < p then p else a))), i (wr .i64 ((if s < d then s else d) - (if b < q then q else b)))]) := by
  refine Fn.by_sx hX (by kernel_rfl) c162 (by kernel_rfl) (by rfl) ?_
  simp [i162, sxa, isPtrN, PV.pcs, elAt, setEl, inAt, elIn, setIn, isLst, cellsOf, Ex.ok, Ex.val, Opd.val, POp.dst, bin_int, binOK_int, bin_str, binOK_str, resOK, resV, RB.val, sub, putc, scB, scL, oneB, conf, Ex.val.eqP, Ex.val.eqL, negV, mxV, mnV, ← wr_eq, wr_zero, wr_one, wr_m1, bst_lst, byteC, partsOK, putAll, appV, nilV, slV, sslV, optB, optNum, and_assoc, exists_and_left, exists_eq_left']
theorem wBox_iff {a b c d : Int} : wBox a b c d = true ↔ ((0 ≤ a ∧ a ≤ 200) ∧ (0 ≤ b ∧ b ≤ 200)) ∧ ((0 ≤ c ∧ c ≤ 200) ∧ (0 ≤ d ∧ d ≤ 200)) ∧ a ≤ c ∧ b ≤ d := by
  unfold wBox M_IsPoint; simp [and_assoc]
theorem f138 (a b c d p q r s : Int) : Fn Tryz.prog 138 false [.agg [i a, i b, i c, i d], .agg [i p, i q, i r, i s]] (.bool (wBM a b c d p q r s)) := by
  refine Fn.by_sx hX (by kernel_rfl) c138 (by kernel_rfl) (by rfl) ?_
  simp [i138, sxa, isPtrN, PV.pcs, elAt, setEl, inAt, elIn, setIn, isLst, cellsOf, Ex.ok, Ex.val, Opd.val, POp.dst, bin_int, binOK_int, bin_str, binOK_str, resOK, resV, RB.val, sub, putc, scB, scL, oneB, conf, Ex.val.eqP, Ex.val.eqL, negV, mxV, mnV, ← wr_eq, wr_zero, wr_one, wr_m1, bst_lst, byteC, partsOK, putAll, appV, nilV, slV, sslV, optB, optNum, and_assoc, exists_and_left, exists_eq_left']
  have hc := f162 a b c d p q r s
  obtain ⟨u, hu⟩ : ∃ u, wr .i64 ((if r < c then r else c) - (if a < p then p else a)) = u := ⟨_, rfl⟩
  obtain ⟨v, hv⟩ : ∃ v, wr .i64 ((if s < d then s else d) - (if b < q then q else b)) = v := ⟨_, rfl⟩
  have key : wBox a b c d = true → wBox p q r s = true → (wBM a b c d p q r s = (decide (0 ≤ u) && decide (0 ≤ v))) := by
    intro h1 h2
    have h1' := wBox_iff.1 h1
    have h2' := wBox_iff.1 h2
    rw [wr_in (by split <;> split <;> omega) (by split <;> split <;> omega)] at hu hv
    unfold wBM
    rw [h1, h2, Bool.eq_iff_iff]
    simp
    subst hu hv
    constructor <;> intro h <;> omega
  have kf1 : wBox a b c d = false → wBM a b c d p q r s = false := fun h => by simp [wBM, h]
  have kf2 : wBox p q r s = false → wBM a b c d p q r s = false := fun h => by simp [wBM, h]
  rw [hu, hv] at hc
  clear hu hv
  repeat' (first | intro _ | (simp [sxa, isPtrN, PV.pcs, elAt, setEl, inAt, elIn, setIn, isLst, cellsOf, Ex.ok, Ex.val, Opd.val, POp.dst, bin_int, binOK_int, bin_str, binOK_str, resOK, resV, RB.val, sub, putc, scB, scL, oneB, conf, Ex.val.eqP, Ex.val.eqL, negV, mxV, mnV, ← wr_eq, wr_zero, wr_one, wr_m1, bst_lst, byteC, partsOK, putAll, appV, nilV, slV, sslV, optB, optNum, and_assoc, exists_and_left, exists_eq_left', *]) | refine CallS_b (f67 _ _ _ _) (fun h => ?_) (fun h => ?_) | refine CallS_i (hc) ?_ | refine CondS_d (fun h => ?_) (fun h => ?_) | refine CondS_b (fun h => ?_) (fun h => ?_) | refine GrdS_d (fun h => ?_) (fun h => ?_) | refine GrdS_b (fun h => ?_) (fun h => ?_) | refine OkS_i (by omega) ?_ | fail)
  all_goals simp_all
/-! the box of points -/
structure Bx where
  f0 : Int
  f1 : Int
  f2 : Int
  f3 : Int
def bx (b : Bx) : List PV := [i b.f0, i b.f1, i b.f2, i b.f3]
def bxZ : Bx := ⟨0, 0, 0, 0⟩
def bxPut (b : Bx) (p : Pt) : Bx := ⟨min b.f0 p.f0, min b.f1 p.f1, max b.f2 p.f0, max b.f3 p.f1⟩
def bxTo (l : List Pt) (n : Nat) : Bx := (l.take n).foldl bxPut ⟨(l.getD 0 ⟨0, 0⟩).f0, (l.getD 0 ⟨0, 0⟩).f1, (l.getD 0 ⟨0, 0⟩).f0, (l.getD 0 ⟨0, 0⟩).f1⟩
theorem bxTo_succ {l : List Pt} {n : Nat} (h : n < l.length) : bxTo l (n + 1) = bxPut (bxTo l n) l[n] := by
  unfold bxTo
  rw [List.take_add_one, List.getElem?_eq_getElem h, List.foldl_append]
  rfl
def ptOkAt (l : List Pt) (n : Nat) : Bool := M_IsPoint (l.getD n ⟨0, 0⟩).f0 (l.getD n ⟨0, 0⟩).f1
def wBoxB (l : List Pt) : Bool := !decide (l.length = 0) && allTo (ptOkAt l) l.length
def wBoxOf (l : List Pt) : Bx := if wBoxB l = true then bxTo l l.length else bxZ
theorem mn_if (x y : Int) : (if y < x then y else x) = min x y := by omega
theorem mx_if (x y : Int) : (if x < y then y else x) = max x y := by omega
theorem f137 (l : List Pt) (nl : Bool) (hl : l.length ≤ 1000000000000) : Fn Tryz.prog 137 false [.lst 2 nl (l.map cp)] (.tup [.agg (bx (wBoxOf l)), .bool (wBoxB l)]) := by
  refine Fn.by_sx hX (by kernel_rfl) c137 (by kernel_rfl) (by rfl) ?_
  simp [i137, sxa, isPtrN, PV.pcs, elAt, setEl, inAt, elIn, setIn, isLst, cellsOf, Ex.ok, Ex.val, Opd.val, POp.dst, bin_int, binOK_int, bin_str, binOK_str, resOK, resV, RB.val, sub, putc, scB, scL, oneB, conf, Ex.val.eqP, Ex.val.eqL, negV, mxV, mnV, ← wr_eq, wr_zero, wr_one, wr_m1, bst_lst, byteC, partsOK, putAll, appV, nilV, slV, sslV, optB, optNum, and_assoc, exists_and_left, exists_eq_left']
  by_cases h0 : l.length = 0
  · have hB : wBoxB l = false := by simp [wBoxB, h0]
    have hO : wBoxOf l = bxZ := by simp [wBoxOf, hB]
    rw [hB, hO]
    obtain rfl := List.length_eq_zero_iff.1 h0
    clear hB hO
    repeat' (first | intro _ | (simp [sxa, isPtrN, PV.pcs, elAt, setEl, inAt, elIn, setIn, isLst, cellsOf, Ex.ok, Ex.val, Opd.val, POp.dst, bin_int, binOK_int, bin_str, binOK_str, resOK, resV, RB.val, sub, putc, scB, scL, oneB, conf, Ex.val.eqP, Ex.val.eqL, negV, mxV, mnV, ← wr_eq, wr_zero, wr_one, wr_m1, bst_lst, byteC, partsOK, putAll, appV, nilV, slV, sslV, optB, optNum, and_assoc, exists_and_left, exists_eq_left', bx, bxZ, *]) | refine CondS_d (fun h => ?_) (fun h => ?_) | refine CondS_b (fun h => ?_) (fun h => ?_) | refine GrdS_d (fun h => ?_) (fun h => ?_) | refine GrdS_b (fun h => ?_) (fun h => ?_) | refine OkS_i (by omega) ?_ | fail)
  have hp : 0 < l.length := by omega
  have hne : ¬ l = [] := fun h => h0 (by rw [h]; rfl)
  have h0z : bxTo l 0 = ⟨l[0].f0, l[0].f1, l[0].f0, l[0].f1⟩ := by unfold bxTo; simp [hp]
  repeat' (first | intro _ | (simp [sxa, isPtrN, PV.pcs, elAt, setEl, inAt, elIn, setIn, isLst, cellsOf, Ex.ok, Ex.val, Opd.val, POp.dst, bin_int, binOK_int, bin_str, binOK_str, resOK, resV, RB.val, sub, putc, scB, scL, oneB, conf, Ex.val.eqP, Ex.val.eqL, negV, mxV, mnV, ← wr_eq, wr_zero, wr_one, wr_m1, bst_lst, byteC, partsOK, putAll, appV, nilV, slV, sslV, optB, optNum, and_assoc, exists_and_left, exists_eq_left', cp, *]) | refine CondS_d (fun h => ?_) (fun h => ?_) | refine CondS_b (fun h => ?_) (fun h => ?_) | refine GrdS_d (fun h => ?_) (fun h => ?_) | refine GrdS_b (fun h => ?_) (fun h => ?_) | refine OkS_i (by omega) ?_ | fail)
  refine sx_count l.length (fun n V => V 0 = .lst 2 nl (l.map cp) ∧ V 18 = .lst 2 nl (l.map cp) ∧ V 19 = i l.length ∧ V 20 = i n ∧ V 4 = .ptr (bx (bxTo l n)) ∧ V 2 = .ptr [i 0, i 0, i 0, i 0] ∧ allTo (ptOkAt l) n = true) 0 (by omega) (by rw [h0z]; simp [sxa, isPtrN, PV.pcs, elAt, setEl, inAt, elIn, setIn, isLst, cellsOf, Ex.ok, Ex.val, Opd.val, POp.dst, bin_int, binOK_int, bin_str, binOK_str, resOK, resV, RB.val, sub, putc, scB, scL, oneB, conf, Ex.val.eqP, Ex.val.eqL, negV, mxV, mnV, ← wr_eq, wr_zero, wr_one, wr_m1, bst_lst, byteC, partsOK, putAll, appV, nilV, slV, sslV, optB, optNum, and_assoc, exists_and_left, exists_eq_left', allTo_zero, bx]) ?_
  rintro n V hn ⟨g0, g18, g19, g20, g4, g2, ga⟩
  simp [sxa, isPtrN, PV.pcs, elAt, setEl, inAt, elIn, setIn, isLst, cellsOf, Ex.ok, Ex.val, Opd.val, POp.dst, bin_int, binOK_int, bin_str, binOK_str, resOK, resV, RB.val, sub, putc, scB, scL, oneB, conf, Ex.val.eqP, Ex.val.eqL, negV, mxV, mnV, ← wr_eq, wr_zero, wr_one, wr_m1, bst_lst, byteC, partsOK, putAll, appV, nilV, slV, sslV, optB, optNum, and_assoc, exists_and_left, exists_eq_left', g19, g20]
  refine CondS_d (fun hlt => ?_) (fun hge => ?_)
  · have hlt' : n < l.length := by omega
    have hbad : ptOkAt l n = false → wBoxB l = false := fun h => by simp [wBoxB, allTo_bad hlt' h]
    have hpo : ptOkAt l n = M_IsPoint l[n].f0 l[n].f1 := by simp [ptOkAt, hlt']
    have hs := bxTo_succ hlt'
    obtain ⟨⟨b0, b1, b2, b3⟩, hb⟩ : ∃ b, bxTo l n = b := ⟨_, rfl⟩
    rw [hb] at hs g4
    unfold bxPut at hs
    unfold bx at g4
    have hw : wr .i64 ((n : Int) + 1) = n + 1 := wr_in (by omega) (by omega)
    by_cases hP : M_IsPoint l[n].f0 l[n].f1 = true
    · have hc := f28 l[n].f0 l[n].f1
      rw [hP] at hc hpo
      have hall := allTo_succ (ok := ptOkAt l) (n := n)
      rw [ga, hpo] at hall
      repeat' (first | intro _ | (simp [sxa, isPtrN, PV.pcs, elAt, setEl, inAt, elIn, setIn, isLst, cellsOf, Ex.ok, Ex.val, Opd.val, POp.dst, bin_int, binOK_int, bin_str, binOK_str, resOK, resV, RB.val, sub, putc, scB, scL, oneB, conf, Ex.val.eqP, Ex.val.eqL, negV, mxV, mnV, ← wr_eq, wr_zero, wr_one, wr_m1, bst_lst, byteC, partsOK, putAll, appV, nilV, slV, sslV, optB, optNum, and_assoc, exists_and_left, exists_eq_left', cp, bx, mn_if, mx_if, *]) | refine CallS_i (hc) ?_ | refine CondS_d (fun h => ?_) (fun h => ?_) | refine CondS_b (fun h => ?_) (fun h => ?_) | refine GrdS_d (fun h => ?_) (fun h => ?_) | refine GrdS_b (fun h => ?_) (fun h => ?_) | refine OkS_i (by omega) ?_ | fail)
    · have hP' : M_IsPoint l[n].f0 l[n].f1 = false := by simpa using hP
      have hc := f28 l[n].f0 l[n].f1
      rw [hP'] at hc hpo
      have hB := hbad hpo
      have hO : wBoxOf l = bxZ := by simp [wBoxOf, hB]
      rw [hB, hO]
      repeat' (first | intro _ | (simp [sxa, isPtrN, PV.pcs, elAt, setEl, inAt, elIn, setIn, isLst, cellsOf, Ex.ok, Ex.val, Opd.val, POp.dst, bin_int, binOK_int, bin_str, binOK_str, resOK, resV, RB.val, sub, putc, scB, scL, oneB, conf, Ex.val.eqP, Ex.val.eqL, negV, mxV, mnV, ← wr_eq, wr_zero, wr_one, wr_m1, bst_lst, byteC, partsOK, putAll, appV, nilV, slV, sslV, optB, optNum, and_assoc, exists_and_left, exists_eq_left', cp, bx, bxZ, *]) | refine CallS_i (hc) ?_ | refine CondS_d (fun h => ?_) (fun h => ?_) | refine CondS_b (fun h => ?_) (fun h => ?_) | refine GrdS_d (fun h => ?_) (fun h => ?_) | refine GrdS_b (fun h => ?_) (fun h => ?_) | refine OkS_i (by omega) ?_ | fail)
  · have : n = l.length := by omega
    subst this
    have hB : wBoxB l = true := by simp [wBoxB, h0, ga]
    have hO : wBoxOf l = bxTo l l.length := by simp [wBoxOf, hB]
    rw [hB, hO]
    repeat' (first | intro _ | (simp [sxa, isPtrN, PV.pcs, elAt, setEl, inAt, elIn, setIn, isLst, cellsOf, Ex.ok, Ex.val, Opd.val, POp.dst, bin_int, binOK_int, bin_str, binOK_str, resOK, resV, RB.val, sub, putc, scB, scL, oneB, conf, Ex.val.eqP, Ex.val.eqL, negV, mxV, mnV, ← wr_eq, wr_zero, wr_one, wr_m1, bst_lst, byteC, partsOK, putAll, appV, nilV, slV, sslV, optB, optNum, and_assoc, exists_and_left, exists_eq_left', bx, *]) | refine CondS_d (fun h => ?_) (fun h => ?_) | refine CondS_b (fun h => ?_) (fun h => ?_) | refine GrdS_d (fun h => ?_) (fun h => ?_) | refine GrdS_b (fun h => ?_) (fun h => ?_) | refine OkS_i (by omega) ?_ | fail)
end Go.Eng
namespace Go.Eng
open Go Go.Proofs Geo
set_option linter.unusedSimpArgs false
set_option linter.unusedVariables false
set_option maxRecDepth 20000
set_option maxHeartbeats 1000000

/-! segments that meet boxes -/
def sdN (k a b c d : Int) (C : List Pt) (n : Nat) : Nat := (C.take n).countP fun p => decide (M_SideOf a b c d p.f0 p.f1 = k)
theorem sdN_zero (k a b c d : Int) (C : List Pt) : sdN k a b c d C 0 = 0 := rfl
theorem sdN_succ {k a b c d : Int} {C : List Pt} {n : Nat} (h : n < C.length) : sdN k a b c d C (n + 1) = sdN k a b c d C n + if M_SideOf a b c d C[n].f0 C[n].f1 = k then 1 else 0 := by
  unfold sdN
  rw [List.take_add_one, List.getElem?_eq_getElem h, List.countP_append]
  simp [List.countP_cons]
theorem sdN_le (k a b c d : Int) (C : List Pt) (n : Nat) : sdN k a b c d C n ≤ n := by
  unfold sdN
  refine Nat.le_trans List.countP_le_length ?_
  simp; omega
def wCor (p q r s : Int) : List Pt := [⟨p, q⟩, ⟨p, s⟩, ⟨r, s⟩, ⟨r, q⟩]
def wCor2 (p q r s : Int) : List Pt := [⟨p, q⟩, ⟨r, s⟩, ⟨p, s⟩, ⟨r, q⟩]
theorem sdN_cor (k a b c d p q r s : Int) : sdN k a b c d (wCor2 p q r s) 4 = sdN k a b c d (wCor p q r s) 4 := by
  unfold sdN wCor wCor2
  simp [List.countP_cons]
  omega
def wMB (a b c d p q r s : Int) : Bool := M_IsSegment a b c d && (wBM (wBoxOf [⟨a, b⟩, ⟨c, d⟩]).f0 (wBoxOf [⟨a, b⟩, ⟨c, d⟩]).f1 (wBoxOf [⟨a, b⟩, ⟨c, d⟩]).f2 (wBoxOf [⟨a, b⟩, ⟨c, d⟩]).f3 p q r s && (decide (sdN 1 a b c d (wCor p q r s) 4 < 4) && decide (sdN (-1) a b c d (wCor p q r s) 4 < 4)))
theorem f100 (a b c d p q r s : Int) : Fn Tryz.prog 100 false [.agg [i a, i b, i c, i d], .agg [i p, i q, i r, i s]] (.bool (wMB a b c d p q r s)) := by
  have hb := f137 [⟨a, b⟩, ⟨c, d⟩] false (by simp)
  simp only [List.map, cp] at hb
  unfold wMB
  obtain ⟨⟨o0, o1, o2, o3⟩, ho⟩ : ∃ O, wBoxOf [⟨a, b⟩, ⟨c, d⟩] = O := ⟨_, rfl⟩
  obtain ⟨B, hB⟩ : ∃ B, wBoxB [⟨a, b⟩, ⟨c, d⟩] = B := ⟨_, rfl⟩
  rw [ho, hB] at hb
  rw [ho]
  simp only [bx] at hb
  clear ho hB
  refine Fn.by_sx hX (by kernel_rfl) c100 (by kernel_rfl) (by rfl) ?_
  simp [i100, sxa, isPtrN, PV.pcs, elAt, setEl, inAt, elIn, setIn, isLst, cellsOf, Ex.ok, Ex.val, Opd.val, POp.dst, bin_int, binOK_int, bin_str, binOK_str, resOK, resV, RB.val, sub, putc, scB, scL, oneB, conf, Ex.val.eqP, Ex.val.eqL, negV, mxV, mnV, ← wr_eq, wr_zero, wr_one, wr_m1, bst_lst, byteC, partsOK, putAll, appV, nilV, slV, sslV, optB, optNum, and_assoc, exists_and_left, exists_eq_left']
  by_cases h1 : M_IsSegment a b c d = true
  case neg =>
    have h1 : M_IsSegment a b c d = false := by simpa using h1
    have h1' := f118 a b c d
    rw [h1] at h1'
    repeat' (first | intro _ | (simp [sxa, isPtrN, PV.pcs, elAt, setEl, inAt, elIn, setIn, isLst, cellsOf, Ex.ok, Ex.val, Opd.val, POp.dst, bin_int, binOK_int, bin_str, binOK_str, resOK, resV, RB.val, sub, putc, scB, scL, oneB, conf, Ex.val.eqP, Ex.val.eqL, negV, mxV, mnV, ← wr_eq, wr_zero, wr_one, wr_m1, bst_lst, byteC, partsOK, putAll, appV, nilV, slV, sslV, optB, optNum, and_assoc, exists_and_left, exists_eq_left', *]) | refine CallS_i (h1') ?_ | refine CondS_d (fun h => ?_) (fun h => ?_) | refine CondS_b (fun h => ?_) (fun h => ?_) | refine GrdS_d (fun h => ?_) (fun h => ?_) | refine GrdS_b (fun h => ?_) (fun h => ?_) | refine OkS_i (by omega) ?_ | fail)
  have h1' := f118 a b c d
  rw [h1] at h1'
  by_cases h3 : wBox p q r s = true
  case neg =>
    have h3 : wBox p q r s = false := by simpa using h3
    have h3' := f67 p q r s
    rw [h3] at h3'
    have h4 : wBM o0 o1 o2 o3 p q r s = false := by unfold wBM; rw [h3]; simp
    repeat' (first | intro _ | (simp [sxa, isPtrN, PV.pcs, elAt, setEl, inAt, elIn, setIn, isLst, cellsOf, Ex.ok, Ex.val, Opd.val, POp.dst, bin_int, binOK_int, bin_str, binOK_str, resOK, resV, RB.val, sub, putc, scB, scL, oneB, conf, Ex.val.eqP, Ex.val.eqL, negV, mxV, mnV, ← wr_eq, wr_zero, wr_one, wr_m1, bst_lst, byteC, partsOK, putAll, appV, nilV, slV, sslV, optB, optNum, and_assoc, exists_and_left, exists_eq_left', *]) | refine CallS_i (h1') ?_ | refine CallS_i (h3') ?_ | refine CondS_d (fun h => ?_) (fun h => ?_) | refine CondS_b (fun h => ?_) (fun h => ?_) | refine GrdS_d (fun h => ?_) (fun h => ?_) | refine GrdS_b (fun h => ?_) (fun h => ?_) | refine OkS_i (by omega) ?_ | fail)
  have h3' := f67 p q r s
  rw [h3] at h3'
  by_cases h2 : wBM o0 o1 o2 o3 p q r s = true
  case neg =>
    have h2 : wBM o0 o1 o2 o3 p q r s = false := by simpa using h2
    have h2' := f138 o0 o1 o2 o3 p q r s
    rw [h2] at h2'
    repeat' (first | intro _ | (simp [sxa, isPtrN, PV.pcs, elAt, setEl, inAt, elIn, setIn, isLst, cellsOf, Ex.ok, Ex.val, Opd.val, POp.dst, bin_int, binOK_int, bin_str, binOK_str, resOK, resV, RB.val, sub, putc, scB, scL, oneB, conf, Ex.val.eqP, Ex.val.eqL, negV, mxV, mnV, ← wr_eq, wr_zero, wr_one, wr_m1, bst_lst, byteC, partsOK, putAll, appV, nilV, slV, sslV, optB, optNum, and_assoc, exists_and_left, exists_eq_left', *]) | refine CallS_i (h1') ?_ | refine CallS_i (h3') ?_ | refine CallS_i (hb) ?_ | refine CallS_i (h2') ?_ | refine CondS_d (fun h => ?_) (fun h => ?_) | refine CondS_b (fun h => ?_) (fun h => ?_) | refine GrdS_d (fun h => ?_) (fun h => ?_) | refine GrdS_b (fun h => ?_) (fun h => ?_) | refine OkS_i (by omega) ?_ | fail)
  have h2' := f138 o0 o1 o2 o3 p q r s
  rw [h2] at h2'
  repeat' (first | intro _ | (simp [sxa, isPtrN, PV.pcs, elAt, setEl, inAt, elIn, setIn, isLst, cellsOf, Ex.ok, Ex.val, Opd.val, POp.dst, bin_int, binOK_int, bin_str, binOK_str, resOK, resV, RB.val, sub, putc, scB, scL, oneB, conf, Ex.val.eqP, Ex.val.eqL, negV, mxV, mnV, ← wr_eq, wr_zero, wr_one, wr_m1, bst_lst, byteC, partsOK, putAll, appV, nilV, slV, sslV, optB, optNum, and_assoc, exists_and_left, exists_eq_left', *]) | refine CallS_i (h1') ?_ | refine CallS_i (h3') ?_ | refine CallS_i (hb) ?_ | refine CallS_i (h2') ?_ | refine CondS_d (fun h => ?_) (fun h => ?_) | refine CondS_b (fun h => ?_) (fun h => ?_) | refine GrdS_d (fun h => ?_) (fun h => ?_) | refine GrdS_b (fun h => ?_) (fun h => ?_) | refine OkS_i (by omega) ?_ | fail)
  rw [← sdN_cor, ← sdN_cor]
  obtain ⟨C, hC⟩ : ∃ C, wCor2 p q r s = C := ⟨_, rfl⟩
  have hCl : C.length = 4 := by rw [← hC]; rfl
  refine sx_count 4 (fun n V => V 2 = .ptr [i a, i b, i c, i d] ∧ V 50 = .lst 2 false (C.map cp) ∧ V 51 = i 4 ∧ V 7 = i (sdN 1 a b c d C n : Nat) ∧ V 8 = i (sdN (-1) a b c d C n : Nat) ∧ V 52 = i n) 0 (by omega) (by rw [← hC]; simp [sxa, isPtrN, PV.pcs, elAt, setEl, inAt, elIn, setIn, isLst, cellsOf, Ex.ok, Ex.val, Opd.val, POp.dst, bin_int, binOK_int, bin_str, binOK_str, resOK, resV, RB.val, sub, putc, scB, scL, oneB, conf, Ex.val.eqP, Ex.val.eqL, negV, mxV, mnV, ← wr_eq, wr_zero, wr_one, wr_m1, bst_lst, byteC, partsOK, putAll, appV, nilV, slV, sslV, optB, optNum, and_assoc, exists_and_left, exists_eq_left', wCor2, cp, sdN_zero]) ?_
  rintro n V hn ⟨g2, g7, gl, g8, g9, g10⟩
  simp [sxa, isPtrN, PV.pcs, elAt, setEl, inAt, elIn, setIn, isLst, cellsOf, Ex.ok, Ex.val, Opd.val, POp.dst, bin_int, binOK_int, bin_str, binOK_str, resOK, resV, RB.val, sub, putc, scB, scL, oneB, conf, Ex.val.eqP, Ex.val.eqL, negV, mxV, mnV, ← wr_eq, wr_zero, wr_one, wr_m1, bst_lst, byteC, partsOK, putAll, appV, nilV, slV, sslV, optB, optNum, and_assoc, exists_and_left, exists_eq_left', g10, gl]
  refine CondS_d (fun hlt => ?_) (fun hge => ?_)
  · have hlt' : n < C.length := by omega
    have hw : wr .i64 ((n : Int) + 1) = n + 1 := wr_in (by omega) (by omega)
    have hc := f139 a b c d C[n].f0 C[n].f1
    have s1 := sdN_succ (k := 1) (a := a) (b := b) (c := c) (d := d) hlt'
    have s2 := sdN_succ (k := -1) (a := a) (b := b) (c := c) (d := d) hlt'
    have l1 := sdN_le 1 a b c d C n
    have l2 := sdN_le (-1) a b c d C n
    obtain ⟨z, hz⟩ : ∃ z, M_SideOf a b c d C[n].f0 C[n].f1 = z := ⟨_, rfl⟩
    rw [hz] at hc s1 s2
    obtain ⟨m1, e1⟩ : ∃ m, sdN 1 a b c d C n = m := ⟨_, rfl⟩
    obtain ⟨m2, e2⟩ : ∃ m, sdN (-1) a b c d C n = m := ⟨_, rfl⟩
    rw [e1] at s1 g8 l1
    rw [e2] at s2 g9 l2
    have hw1 : wr .i64 ((m1 : Int) + 1) = m1 + 1 := wr_in (by omega) (by omega)
    have hw2 : wr .i64 ((m2 : Int) + 1) = m2 + 1 := wr_in (by omega) (by omega)
    have hn4 : n < 4 := by omega
    clear hCl
    by_cases z1 : z = 1
    · subst z1
      simp at s1 s2
      repeat' (first | intro _ | (simp [sxa, isPtrN, PV.pcs, elAt, setEl, inAt, elIn, setIn, isLst, cellsOf, Ex.ok, Ex.val, Opd.val, POp.dst, bin_int, binOK_int, bin_str, binOK_str, resOK, resV, RB.val, sub, putc, scB, scL, oneB, conf, Ex.val.eqP, Ex.val.eqL, negV, mxV, mnV, ← wr_eq, wr_zero, wr_one, wr_m1, bst_lst, byteC, partsOK, putAll, appV, nilV, slV, sslV, optB, optNum, and_assoc, exists_and_left, exists_eq_left', cp, *]) | refine CallS_i (hc) ?_ | refine CondS_d (fun h => ?_) (fun h => ?_) | refine CondS_b (fun h => ?_) (fun h => ?_) | refine GrdS_d (fun h => ?_) (fun h => ?_) | refine GrdS_b (fun h => ?_) (fun h => ?_) | refine OkS_i (by omega) ?_ | fail)
    by_cases z2 : z = -1
    · subst z2
      simp at s1 s2
      repeat' (first | intro _ | (simp [sxa, isPtrN, PV.pcs, elAt, setEl, inAt, elIn, setIn, isLst, cellsOf, Ex.ok, Ex.val, Opd.val, POp.dst, bin_int, binOK_int, bin_str, binOK_str, resOK, resV, RB.val, sub, putc, scB, scL, oneB, conf, Ex.val.eqP, Ex.val.eqL, negV, mxV, mnV, ← wr_eq, wr_zero, wr_one, wr_m1, bst_lst, byteC, partsOK, putAll, appV, nilV, slV, sslV, optB, optNum, and_assoc, exists_and_left, exists_eq_left', cp, *]) | refine CallS_i (hc) ?_ | refine CondS_d (fun h => ?_) (fun h => ?_) | refine CondS_b (fun h => ?_) (fun h => ?_) | refine GrdS_d (fun h => ?_) (fun h => ?_) | refine GrdS_b (fun h => ?_) (fun h => ?_) | refine OkS_i (by omega) ?_ | fail)
    simp only [z1, z2, if_false, Nat.add_zero] at s1 s2
    repeat' (first | intro _ | (simp [sxa, isPtrN, PV.pcs, elAt, setEl, inAt, elIn, setIn, isLst, cellsOf, Ex.ok, Ex.val, Opd.val, POp.dst, bin_int, binOK_int, bin_str, binOK_str, resOK, resV, RB.val, sub, putc, scB, scL, oneB, conf, Ex.val.eqP, Ex.val.eqL, negV, mxV, mnV, ← wr_eq, wr_zero, wr_one, wr_m1, bst_lst, byteC, partsOK, putAll, appV, nilV, slV, sslV, optB, optNum, and_assoc, exists_and_left, exists_eq_left', cp, *]) | refine CallS_i (hc) ?_ | refine CondS_d (fun h => ?_) (fun h => ?_) | refine CondS_b (fun h => ?_) (fun h => ?_) | refine GrdS_d (fun h => ?_) (fun h => ?_) | refine GrdS_b (fun h => ?_) (fun h => ?_) | refine OkS_i (by omega) ?_ | fail)
  · have : n = 4 := by omega
    subst this
    rw [hC]
    repeat' (first | intro _ | (simp [sxa, isPtrN, PV.pcs, elAt, setEl, inAt, elIn, setIn, isLst, cellsOf, Ex.ok, Ex.val, Opd.val, POp.dst, bin_int, binOK_int, bin_str, binOK_str, resOK, resV, RB.val, sub, putc, scB, scL, oneB, conf, Ex.val.eqP, Ex.val.eqL, negV, mxV, mnV, ← wr_eq, wr_zero, wr_one, wr_m1, bst_lst, byteC, partsOK, putAll, appV, nilV, slV, sslV, optB, optNum, and_assoc, exists_and_left, exists_eq_left', *]) | refine CondS_d (fun h => ?_) (fun h => ?_) | refine CondS_b (fun h => ?_) (fun h => ?_) | refine GrdS_d (fun h => ?_) (fun h => ?_) | refine GrdS_b (fun h => ?_) (fun h => ?_) | refine OkS_i (by omega) ?_ | fail)
    all_goals first | omega | (rw [Bool.eq_iff_iff]; simp; omega)
end Go.Eng
namespace Go.Eng
open Go Go.Proofs Geo
set_option linter.unusedSimpArgs false
set_option linter.unusedVariables false
set_option maxRecDepth 20000
set_option maxHeartbeats 1000000

/-! the parts of features, and the tiles they touch -/
def wRSegs (l : List Pt) : List Sg := if wRing l = true then upTo (rgAt l) l.length else []
theorem wRSegs_len (l : List Pt) : (wRSegs l).length ≤ 10 := by
  unfold wRSegs
  split
  · rename_i h
    unfold wRing at h
    simp [inR] at h
    rw [upTo_length]; omega
  · simp
theorem f136 (l : List Pt) (nl : Bool) (hl : l.length ≤ 1000000000000) : Fn Tryz.prog 136 true [.lst 2 nl (l.map cp)] (.lst 4 false ((wRSegs l).map cs)) := by
  have hc := f87 l nl hl
  refine Fn.by_sx hX (by kernel_rfl) c136 (by kernel_rfl) (by rfl) ?_
  simp [i136, sxa, isPtrN, PV.pcs, elAt, setEl, inAt, elIn, setIn, isLst, cellsOf, Ex.ok, Ex.val, Opd.val, POp.dst, bin_int, binOK_int, bin_str, binOK_str, resOK, resV, RB.val, sub, putc, scB, scL, oneB, conf, Ex.val.eqP, Ex.val.eqL, negV, mxV, mnV, ← wr_eq, wr_zero, wr_one, wr_m1, bst_lst, byteC, partsOK, putAll, appV, nilV, slV, sslV, optB, optNum, and_assoc, exists_and_left, exists_eq_left']
  by_cases h : wRing l = true
  · have e : wRSegs l = upTo (rgAt l) l.length := if_pos h
    rw [h] at hc
    rw [e]
    repeat' (first | intro _ | (simp [sxa, isPtrN, PV.pcs, elAt, setEl, inAt, elIn, setIn, isLst, cellsOf, Ex.ok, Ex.val, Opd.val, POp.dst, bin_int, binOK_int, bin_str, binOK_str, resOK, resV, RB.val, sub, putc, scB, scL, oneB, conf, Ex.val.eqP, Ex.val.eqL, negV, mxV, mnV, ← wr_eq, wr_zero, wr_one, wr_m1, bst_lst, byteC, partsOK, putAll, appV, nilV, slV, sslV, optB, optNum, and_assoc, exists_and_left, exists_eq_left', *]) | refine CallS_i (hc) ?_ | refine CallS_i (f117 l nl hl) ?_ | refine CondS_d (fun h => ?_) (fun h => ?_) | refine CondS_b (fun h => ?_) (fun h => ?_) | refine GrdS_d (fun h => ?_) (fun h => ?_) | refine GrdS_b (fun h => ?_) (fun h => ?_) | refine OkS_i (by omega) ?_ | fail)
  · have e : wRSegs l = [] := if_neg h
    rw [show wRing l = false by simpa using h] at hc
    rw [e]
    repeat' (first | intro _ | (simp [sxa, isPtrN, PV.pcs, elAt, setEl, inAt, elIn, setIn, isLst, cellsOf, Ex.ok, Ex.val, Opd.val, POp.dst, bin_int, binOK_int, bin_str, binOK_str, resOK, resV, RB.val, sub, putc, scB, scL, oneB, conf, Ex.val.eqP, Ex.val.eqL, negV, mxV, mnV, ← wr_eq, wr_zero, wr_one, wr_m1, bst_lst, byteC, partsOK, putAll, appV, nilV, slV, sslV, optB, optNum, and_assoc, exists_and_left, exists_eq_left', *]) | refine CallS_i (hc) ?_ | refine CondS_d (fun h => ?_) (fun h => ?_) | refine CondS_b (fun h => ?_) (fun h => ?_) | refine GrdS_d (fun h => ?_) (fun h => ?_) | refine GrdS_b (fun h => ?_) (fun h => ?_) | refine OkS_i (by omega) ?_ | fail)
def wParts (x : Ft) : List Sg := if wFeat x = true then (if x.f1 = 2 then wSegs x.f4 else if x.f1 = 3 then wRSegs x.f4 else []) else []
theorem wParts_len (x : Ft) : (wParts x).length ≤ 10 := by
  have h1 := wSegs_len x.f4
  have h2 := wRSegs_len x.f4
  unfold wParts
  split
  · split
    · omega
    · split
      · omega
      · simp
  · simp
theorem f99 (x : Ft) (hx : x.okay) : Fn Tryz.prog 99 true [.agg (ft x)] (.lst 4 false ((wParts x).map cs)) := by
  have hc := f71 x hx
  have hc2 := f135 x.f4 x.nl (by have := hx.2; omega)
  have hc3 := f136 x.f4 x.nl hx.2
  unfold wParts
  unfold ft at hc ⊢
  refine Fn.by_sx hX (by kernel_rfl) c99 (by kernel_rfl) (by rfl) ?_
  simp [i99, sxa, isPtrN, PV.pcs, elAt, setEl, inAt, elIn, setIn, isLst, cellsOf, Ex.ok, Ex.val, Opd.val, POp.dst, bin_int, binOK_int, bin_str, binOK_str, resOK, resV, RB.val, sub, putc, scB, scL, oneB, conf, Ex.val.eqP, Ex.val.eqL, negV, mxV, mnV, ← wr_eq, wr_zero, wr_one, wr_m1, bst_lst, byteC, partsOK, putAll, appV, nilV, slV, sslV, optB, optNum, and_assoc, exists_and_left, exists_eq_left']
  by_cases h : wFeat x = true
  · rw [if_pos h]
    rw [h] at hc
    by_cases h2 : x.f1 = 2
    · rw [if_pos h2]
      rw [h2] at hc ⊢
      repeat' (first | intro _ | (simp [sxa, isPtrN, PV.pcs, elAt, setEl, inAt, elIn, setIn, isLst, cellsOf, Ex.ok, Ex.val, Opd.val, POp.dst, bin_int, binOK_int, bin_str, binOK_str, resOK, resV, RB.val, sub, putc, scB, scL, oneB, conf, Ex.val.eqP, Ex.val.eqL, negV, mxV, mnV, ← wr_eq, wr_zero, wr_one, wr_m1, bst_lst, byteC, partsOK, putAll, appV, nilV, slV, sslV, optB, optNum, and_assoc, exists_and_left, exists_eq_left', *]) | refine CallS_i (hc) ?_ | refine CallS_i (hc2) ?_ | refine CondS_d (fun h => ?_) (fun h => ?_) | refine CondS_b (fun h => ?_) (fun h => ?_) | refine GrdS_d (fun h => ?_) (fun h => ?_) | refine GrdS_b (fun h => ?_) (fun h => ?_) | refine OkS_i (by omega) ?_ | fail)
    rw [if_neg h2]
    by_cases h3 : x.f1 = 3
    · rw [if_pos h3]
      rw [h3] at hc ⊢
      repeat' (first | intro _ | (simp [sxa, isPtrN, PV.pcs, elAt, setEl, inAt, elIn, setIn, isLst, cellsOf, Ex.ok, Ex.val, Opd.val, POp.dst, bin_int, binOK_int, bin_str, binOK_str, resOK, resV, RB.val, sub, putc, scB, scL, oneB, conf, Ex.val.eqP, Ex.val.eqL, negV, mxV, mnV, ← wr_eq, wr_zero, wr_one, wr_m1, bst_lst, byteC, partsOK, putAll, appV, nilV, slV, sslV, optB, optNum, and_assoc, exists_and_left, exists_eq_left', *]) | refine CallS_i (hc) ?_ | refine CallS_i (hc3) ?_ | refine CondS_d (fun h => ?_) (fun h => ?_) | refine CondS_b (fun h => ?_) (fun h => ?_) | refine GrdS_d (fun h => ?_) (fun h => ?_) | refine GrdS_b (fun h => ?_) (fun h => ?_) | refine OkS_i (by omega) ?_ | fail)
    rw [if_neg h3]
    repeat' (first | intro _ | (simp [sxa, isPtrN, PV.pcs, elAt, setEl, inAt, elIn, setIn, isLst, cellsOf, Ex.ok, Ex.val, Opd.val, POp.dst, bin_int, binOK_int, bin_str, binOK_str, resOK, resV, RB.val, sub, putc, scB, scL, oneB, conf, Ex.val.eqP, Ex.val.eqL, negV, mxV, mnV, ← wr_eq, wr_zero, wr_one, wr_m1, bst_lst, byteC, partsOK, putAll, appV, nilV, slV, sslV, optB, optNum, and_assoc, exists_and_left, exists_eq_left', *]) | refine CallS_i (hc) ?_ | refine CondS_d (fun h => ?_) (fun h => ?_) | refine CondS_b (fun h => ?_) (fun h => ?_) | refine GrdS_d (fun h => ?_) (fun h => ?_) | refine GrdS_b (fun h => ?_) (fun h => ?_) | refine OkS_i (by omega) ?_ | fail)
  · rw [if_neg h]
    rw [show wFeat x = false by simpa using h] at hc
    repeat' (first | intro _ | (simp [sxa, isPtrN, PV.pcs, elAt, setEl, inAt, elIn, setIn, isLst, cellsOf, Ex.ok, Ex.val, Opd.val, POp.dst, bin_int, binOK_int, bin_str, binOK_str, resOK, resV, RB.val, sub, putc, scB, scL, oneB, conf, Ex.val.eqP, Ex.val.eqL, negV, mxV, mnV, ← wr_eq, wr_zero, wr_one, wr_m1, bst_lst, byteC, partsOK, putAll, appV, nilV, slV, sslV, optB, optNum, and_assoc, exists_and_left, exists_eq_left', *]) | refine CallS_i (hc) ?_ | refine CondS_d (fun h => ?_) (fun h => ?_) | refine CondS_b (fun h => ?_) (fun h => ?_) | refine GrdS_d (fun h => ?_) (fun h => ?_) | refine GrdS_b (fun h => ?_) (fun h => ?_) | refine OkS_i (by omega) ?_ | fail)
/-! pieces -/
def pcsTo (id : Int) (S : List Sg) (p q r u : Int) : Nat → List (Int × Int)
  | 0 => []
  | n + 1 => pcsTo id S p q r u n ++ (if wMB (sgD S n).f0.f0 (sgD S n).f0.f1 (sgD S n).f1.f0 (sgD S n).f1.f1 p q r u = true then [(id, (n : Int))] else [])
def pcv (x : Int × Int) : List PV := [i x.1, i x.2]
theorem pcsTo_len (id : Int) (S : List Sg) (p q r u : Int) (n : Nat) : (pcsTo id S p q r u n).length ≤ n := by
  induction n with
  | zero => simp [pcsTo]
  | succ n ih => unfold pcsTo; rw [List.length_append]; split <;> simp <;> omega
def wPcs (x : Ft) (S : List Sg) (p q r u : Int) : List (Int × Int) := if x.f1 = 1 ∧ wInBox p q r u (x.f4.getD 0 ⟨0, 0⟩).f0 (x.f4.getD 0 ⟨0, 0⟩).f1 = true then [(x.f0, 0)] else pcsTo x.f0 S p q r u S.length
theorem f72 (x : Ft) (p q r u : Int) (hx : x.okay) (h1 : x.f1 = 1 → 0 < x.f4.length) : Fn Tryz.prog 72 true [.agg (ft x), .agg [i p, i q, i r, i u], .bool false] (.lst 2 false ((wPcs x (wParts x) p q r u).map pcv)) := by
  have hparts := f99 x hx
  have hpl := wParts_len x
  have hp1 : x.f1 = 1 → wParts x = [] := by
    intro h
    unfold wParts
    rw [h]
    simp
  obtain ⟨S, hS⟩ : ∃ S, wParts x = S := ⟨_, rfl⟩
  rw [hS] at hparts hpl hp1 ⊢
  clear hS
  unfold ft at hparts ⊢
  refine Fn.by_sx hX (by kernel_rfl) c72 (by kernel_rfl) (by rfl) ?_
  simp [i72, sxa, isPtrN, PV.pcs, elAt, setEl, inAt, elIn, setIn, isLst, cellsOf, Ex.ok, Ex.val, Opd.val, POp.dst, bin_int, binOK_int, bin_str, binOK_str, resOK, resV, RB.val, sub, putc, scB, scL, oneB, conf, Ex.val.eqP, Ex.val.eqL, negV, mxV, mnV, ← wr_eq, wr_zero, wr_one, wr_m1, bst_lst, byteC, partsOK, putAll, appV, nilV, slV, sslV, optB, optNum, and_assoc, exists_and_left, exists_eq_left']
  by_cases hk : x.f1 = 1 ∧ wInBox p q r u (x.f4.getD 0 ⟨0, 0⟩).f0 (x.f4.getD 0 ⟨0, 0⟩).f1 = true
  · have e : wPcs x S p q r u = [(x.f0, 0)] := if_pos hk
    have hl := h1 hk.1
    have hg : x.f4.getD 0 ⟨0, 0⟩ = x.f4[0] := by simp [hl]
    have hne : ¬ x.f4 = [] := fun h => by rw [h] at hl; cases hl
    have hc := f32 p q r u x.f4[0].f0 x.f4[0].f1
    rw [hg] at hk
    rw [hk.2] at hc
    have hk1 := hk.1
    have hS0 := hp1 hk1
    subst hS0
    rw [hk1] at hparts
    rw [e, hk1]
    repeat' (first | intro _ | (simp [sxa, isPtrN, PV.pcs, elAt, setEl, inAt, elIn, setIn, isLst, cellsOf, Ex.ok, Ex.val, Opd.val, POp.dst, bin_int, binOK_int, bin_str, binOK_str, resOK, resV, RB.val, sub, putc, scB, scL, oneB, conf, Ex.val.eqP, Ex.val.eqL, negV, mxV, mnV, ← wr_eq, wr_zero, wr_one, wr_m1, bst_lst, byteC, partsOK, putAll, appV, nilV, slV, sslV, optB, optNum, and_assoc, exists_and_left, exists_eq_left', pcv, cp, *]) | refine CallS_i (hc) ?_ | refine CallS_i (hparts) ?_ | refine CondS_d (fun h => ?_) (fun h => ?_) | refine CondS_b (fun h => ?_) (fun h => ?_) | refine GrdS_d (fun h => ?_) (fun h => ?_) | refine GrdS_b (fun h => ?_) (fun h => ?_) | refine OkS_i (by omega) ?_ | fail)
    refine sx_count 0 (fun n V => V 33 = i 0 ∧ V 34 = i 0 ∧ V 7 = .lst 2 false [[i x.f0, i 0]]) 0 (by omega) (by simp [sxa, isPtrN, PV.pcs, elAt, setEl, inAt, elIn, setIn, isLst, cellsOf, Ex.ok, Ex.val, Opd.val, POp.dst, bin_int, binOK_int, bin_str, binOK_str, resOK, resV, RB.val, sub, putc, scB, scL, oneB, conf, Ex.val.eqP, Ex.val.eqL, negV, mxV, mnV, ← wr_eq, wr_zero, wr_one, wr_m1, bst_lst, byteC, partsOK, putAll, appV, nilV, slV, sslV, optB, optNum, and_assoc, exists_and_left, exists_eq_left']) ?_
    rintro n V hn ⟨g33, g34, g7⟩
    repeat' (first | intro _ | (simp [sxa, isPtrN, PV.pcs, elAt, setEl, inAt, elIn, setIn, isLst, cellsOf, Ex.ok, Ex.val, Opd.val, POp.dst, bin_int, binOK_int, bin_str, binOK_str, resOK, resV, RB.val, sub, putc, scB, scL, oneB, conf, Ex.val.eqP, Ex.val.eqL, negV, mxV, mnV, ← wr_eq, wr_zero, wr_one, wr_m1, bst_lst, byteC, partsOK, putAll, appV, nilV, slV, sslV, optB, optNum, and_assoc, exists_and_left, exists_eq_left', *]) | refine CondS_d (fun h => ?_) (fun h => ?_) | refine CondS_b (fun h => ?_) (fun h => ?_) | refine GrdS_d (fun h => ?_) (fun h => ?_) | refine GrdS_b (fun h => ?_) (fun h => ?_) | refine OkS_i (by omega) ?_ | fail)
  clear hp1
  have e : wPcs x S p q r u = pcsTo x.f0 S p q r u S.length := if_neg hk
  rw [e]
  have hcont : x.f1 = 1 → ∃ hl : 0 < x.f4.length, Fn Tryz.prog 32 false [.agg [i p, i q, i r, i u], .agg [i x.f4[0].f0, i x.f4[0].f1]] (.bool false) := by
    intro hk1
    have hl := h1 hk1
    refine ⟨hl, ?_⟩
    have hg : x.f4.getD 0 ⟨0, 0⟩ = x.f4[0] := by simp [hl]
    have hc := f32 p q r u x.f4[0].f0 x.f4[0].f1
    rw [hg] at hk
    rw [show wInBox p q r u x.f4[0].f0 x.f4[0].f1 = false by simpa [hk1] using hk] at hc
    exact hc
  have lp : ∀ V : Env, V 2 = .bool false → V 32 = .lst 4 false (S.map cs) → V 33 = i S.length → V 34 = i 0 → V 3 = .ptr [i x.f0, i x.f1, i x.f2, .str x.f3, .lst 2 x.nl (x.f4.map cp)] → V 4 = .ptr [i p, i q, i r, i u] → V 7 = .lst 2 false [] →
      sx (FC Tryz.prog) (.loop (.seq (.ops [s 35 (.bin .lss (t 34) (t 33))])
 (.seq (.cond (t 35) .skip (.exit 0))
 (.seq (.block 1 (.seq (.ops [s 36 (.mv (t 34)),
  s 37 (.idx (t 32) (t 34) 4),
  s 38 (.ldE 32 37 0 4 true true 4),
  s 9 (.alc [(i 0), (i 0), (i 0), (i 0)]),
  s 8 (.mv (t 36)),
  s 9 (.stB 9 0 4 (t 38) false)])
 (.seq (.ops [s 39 (.mv (t 2)),
  s 40 (.mv (t 39)),
  sg [(40, false)] 41 (.ldB 9 0 4 true true),
  sg [(40, false)] 42 (.ldB 4 0 4 true true),
  kg [(40, false)] 43 100 [(t 41), (t 42)] .sc,
  s 44 (.pick (t 40) (c (.bool true)) (t 43))])
 (.cond (t 44) (.ops [s 45 (.mv (t 7)),
  s 46 (.mv (c (i 0))),
  s 47 (.ldB 3 0 1 false true),
  s 48 (.mv (t 8)),
  s 49 (.bld [(i 0), (i 0)] [(0, 1, (t 47)), (1, 1, (t 48))]),
  s 50 (.bsl 2 [(t 49)]),
  s 51 (.app (t 45) (t 50) 2 16),
  s 7 (.mv (t 51))]) .skip))))
 (.ops [s 52 (.bin .add (t 34) (c (i 1))),
  s 34 (.mv (t 52))]))))) (fun y V' => y = .exit 0 ∧ V' 7 = .lst 2 false ((pcsTo x.f0 S p q r u S.length).map pcv)) V := by
    intro V g2 g32 g33 g34 g3 g4 g7
    refine sx_count S.length (fun n V => V 2 = .bool false ∧ V 32 = .lst 4 false (S.map cs) ∧ V 33 = i S.length ∧ V 3 = .ptr [i x.f0, i x.f1, i x.f2, .str x.f3, .lst 2 x.nl (x.f4.map cp)] ∧ V 4 = .ptr [i p, i q, i r, i u] ∧ V 7 = .lst 2 false ((pcsTo x.f0 S p q r u n).map pcv) ∧ V 34 = i n) 0 (by omega) (by simp [g2, g32, g33, g34, g3, g4, g7, pcsTo]) ?_
    clear g2 g32 g33 g34 g3 g4 g7 V
    rintro n V hn ⟨g2, g32, g33, g3, g4, g7, g34⟩
    simp [sxa, isPtrN, PV.pcs, elAt, setEl, inAt, elIn, setIn, isLst, cellsOf, Ex.ok, Ex.val, Opd.val, POp.dst, bin_int, binOK_int, bin_str, binOK_str, resOK, resV, RB.val, sub, putc, scB, scL, oneB, conf, Ex.val.eqP, Ex.val.eqL, negV, mxV, mnV, ← wr_eq, wr_zero, wr_one, wr_m1, bst_lst, byteC, partsOK, putAll, appV, nilV, slV, sslV, optB, optNum, and_assoc, exists_and_left, exists_eq_left', g33, g34]
    refine CondS_d (fun hlt => ?_) (fun hge => ?_)
    · have hlt' : n < S.length := by omega
      have hw : wr .i64 ((n : Int) + 1) = n + 1 := wr_in (by omega) (by omega)
      have hln := pcsTo_len x.f0 S p q r u n
      have hc := f100 S[n].f0.f0 S[n].f0.f1 S[n].f1.f0 S[n].f1.f1 p q r u
      have hsg : sgD S n = S[n] := by simp [sgD, hlt']
      by_cases hm : wMB S[n].f0.f0 S[n].f0.f1 S[n].f1.f0 S[n].f1.f1 p q r u = true
      · have hs : pcsTo x.f0 S p q r u (n + 1) = pcsTo x.f0 S p q r u n ++ [(x.f0, (n : Int))] := by rw [pcsTo, hsg, if_pos hm]
        rw [hm] at hc
        repeat' (first | intro _ | (simp [sxa, isPtrN, PV.pcs, elAt, setEl, inAt, elIn, setIn, isLst, cellsOf, Ex.ok, Ex.val, Opd.val, POp.dst, bin_int, binOK_int, bin_str, binOK_str, resOK, resV, RB.val, sub, putc, scB, scL, oneB, conf, Ex.val.eqP, Ex.val.eqL, negV, mxV, mnV, ← wr_eq, wr_zero, wr_one, wr_m1, bst_lst, byteC, partsOK, putAll, appV, nilV, slV, sslV, optB, optNum, and_assoc, exists_and_left, exists_eq_left', cs, pcv, *]) | refine CallS_i (hc) ?_ | refine CondS_d (fun h => ?_) (fun h => ?_) | refine CondS_b (fun h => ?_) (fun h => ?_) | refine GrdS_d (fun h => ?_) (fun h => ?_) | refine GrdS_b (fun h => ?_) (fun h => ?_) | refine OkS_i (by omega) ?_ | fail)
      · have hs : pcsTo x.f0 S p q r u (n + 1) = pcsTo x.f0 S p q r u n := by rw [pcsTo, hsg, if_neg hm, List.append_nil]
        rw [show wMB S[n].f0.f0 S[n].f0.f1 S[n].f1.f0 S[n].f1.f1 p q r u = false by simpa using hm] at hc
        repeat' (first | intro _ | (simp [sxa, isPtrN, PV.pcs, elAt, setEl, inAt, elIn, setIn, isLst, cellsOf, Ex.ok, Ex.val, Opd.val, POp.dst, bin_int, binOK_int, bin_str, binOK_str, resOK, resV, RB.val, sub, putc, scB, scL, oneB, conf, Ex.val.eqP, Ex.val.eqL, negV, mxV, mnV, ← wr_eq, wr_zero, wr_one, wr_m1, bst_lst, byteC, partsOK, putAll, appV, nilV, slV, sslV, optB, optNum, and_assoc, exists_and_left, exists_eq_left', cs, pcv, *]) | refine CallS_i (hc) ?_ | refine CondS_d (fun h => ?_) (fun h => ?_) | refine CondS_b (fun h => ?_) (fun h => ?_) | refine GrdS_d (fun h => ?_) (fun h => ?_) | refine GrdS_b (fun h => ?_) (fun h => ?_) | refine OkS_i (by omega) ?_ | fail)
    · have : n = S.length := by omega
      subst this
      repeat' (first | intro _ | (simp [sxa, isPtrN, PV.pcs, elAt, setEl, inAt, elIn, setIn, isLst, cellsOf, Ex.ok, Ex.val, Opd.val, POp.dst, bin_int, binOK_int, bin_str, binOK_str, resOK, resV, RB.val, sub, putc, scB, scL, oneB, conf, Ex.val.eqP, Ex.val.eqL, negV, mxV, mnV, ← wr_eq, wr_zero, wr_one, wr_m1, bst_lst, byteC, partsOK, putAll, appV, nilV, slV, sslV, optB, optNum, and_assoc, exists_and_left, exists_eq_left', *]) | refine CondS_d (fun h => ?_) (fun h => ?_) | refine CondS_b (fun h => ?_) (fun h => ?_) | refine GrdS_d (fun h => ?_) (fun h => ?_) | refine GrdS_b (fun h => ?_) (fun h => ?_) | refine OkS_i (by omega) ?_ | fail)
  by_cases hk1 : x.f1 = 1
  · obtain ⟨hl, hc⟩ := hcont hk1
    have hne : ¬ x.f4 = [] := fun h => by rw [h] at hl; cases hl
    rw [hk1] at hparts
    repeat' (first | intro _ | (simp [sxa, isPtrN, PV.pcs, elAt, setEl, inAt, elIn, setIn, isLst, cellsOf, Ex.ok, Ex.val, Opd.val, POp.dst, bin_int, binOK_int, bin_str, binOK_str, resOK, resV, RB.val, sub, putc, scB, scL, oneB, conf, Ex.val.eqP, Ex.val.eqL, negV, mxV, mnV, ← wr_eq, wr_zero, wr_one, wr_m1, bst_lst, byteC, partsOK, putAll, appV, nilV, slV, sslV, optB, optNum, and_assoc, exists_and_left, exists_eq_left', cp, *]) | refine CallS_i (hc) ?_ | refine CallS_i (hparts) ?_ | refine CondS_d (fun h => ?_) (fun h => ?_) | refine CondS_b (fun h => ?_) (fun h => ?_) | refine GrdS_d (fun h => ?_) (fun h => ?_) | refine GrdS_b (fun h => ?_) (fun h => ?_) | refine OkS_i (by omega) ?_ | fail)
    refine sx_mono _ _ _ _ ?_ (lp _ (by simp [sxa, isPtrN, PV.pcs, elAt, setEl, inAt, elIn, setIn, isLst, cellsOf, Ex.ok, Ex.val, Opd.val, POp.dst, bin_int, binOK_int, bin_str, binOK_str, resOK, resV, RB.val, sub, putc, scB, scL, oneB, conf, Ex.val.eqP, Ex.val.eqL, negV, mxV, mnV, ← wr_eq, wr_zero, wr_one, wr_m1, bst_lst, byteC, partsOK, putAll, appV, nilV, slV, sslV, optB, optNum, and_assoc, exists_and_left, exists_eq_left', hk1]) (by simp [sxa, isPtrN, PV.pcs, elAt, setEl, inAt, elIn, setIn, isLst, cellsOf, Ex.ok, Ex.val, Opd.val, POp.dst, bin_int, binOK_int, bin_str, binOK_str, resOK, resV, RB.val, sub, putc, scB, scL, oneB, conf, Ex.val.eqP, Ex.val.eqL, negV, mxV, mnV, ← wr_eq, wr_zero, wr_one, wr_m1, bst_lst, byteC, partsOK, putAll, appV, nilV, slV, sslV, optB, optNum, and_assoc, exists_and_left, exists_eq_left', hk1]) (by simp [sxa, isPtrN, PV.pcs, elAt, setEl, inAt, elIn, setIn, isLst, cellsOf, Ex.ok, Ex.val, Opd.val, POp.dst, bin_int, binOK_int, bin_str, binOK_str, resOK, resV, RB.val, sub, putc, scB, scL, oneB, conf, Ex.val.eqP, Ex.val.eqL, negV, mxV, mnV, ← wr_eq, wr_zero, wr_one, wr_m1, bst_lst, byteC, partsOK, putAll, appV, nilV, slV, sslV, optB, optNum, and_assoc, exists_and_left, exists_eq_left', hk1]) (by simp [sxa, isPtrN, PV.pcs, elAt, setEl, inAt, elIn, setIn, isLst, cellsOf, Ex.ok, Ex.val, Opd.val, POp.dst, bin_int, binOK_int, bin_str, binOK_str, resOK, resV, RB.val, sub, putc, scB, scL, oneB, conf, Ex.val.eqP, Ex.val.eqL, negV, mxV, mnV, ← wr_eq, wr_zero, wr_one, wr_m1, bst_lst, byteC, partsOK, putAll, appV, nilV, slV, sslV, optB, optNum, and_assoc, exists_and_left, exists_eq_left', hk1]) (by simp [sxa, isPtrN, PV.pcs, elAt, setEl, inAt, elIn, setIn, isLst, cellsOf, Ex.ok, Ex.val, Opd.val, POp.dst, bin_int, binOK_int, bin_str, binOK_str, resOK, resV, RB.val, sub, putc, scB, scL, oneB, conf, Ex.val.eqP, Ex.val.eqL, negV, mxV, mnV, ← wr_eq, wr_zero, wr_one, wr_m1, bst_lst, byteC, partsOK, putAll, appV, nilV, slV, sslV, optB, optNum, and_assoc, exists_and_left, exists_eq_left', hk1]) (by simp [sxa, isPtrN, PV.pcs, elAt, setEl, inAt, elIn, setIn, isLst, cellsOf, Ex.ok, Ex.val, Opd.val, POp.dst, bin_int, binOK_int, bin_str, binOK_str, resOK, resV, RB.val, sub, putc, scB, scL, oneB, conf, Ex.val.eqP, Ex.val.eqL, negV, mxV, mnV, ← wr_eq, wr_zero, wr_one, wr_m1, bst_lst, byteC, partsOK, putAll, appV, nilV, slV, sslV, optB, optNum, and_assoc, exists_and_left, exists_eq_left', hk1]) (by simp [sxa, isPtrN, PV.pcs, elAt, setEl, inAt, elIn, setIn, isLst, cellsOf, Ex.ok, Ex.val, Opd.val, POp.dst, bin_int, binOK_int, bin_str, binOK_str, resOK, resV, RB.val, sub, putc, scB, scL, oneB, conf, Ex.val.eqP, Ex.val.eqL, negV, mxV, mnV, ← wr_eq, wr_zero, wr_one, wr_m1, bst_lst, byteC, partsOK, putAll, appV, nilV, slV, sslV, optB, optNum, and_assoc, exists_and_left, exists_eq_left', hk1]))
    rintro y V' ⟨rfl, g7⟩
    repeat' (first | intro _ | (simp [sxa, isPtrN, PV.pcs, elAt, setEl, inAt, elIn, setIn, isLst, cellsOf, Ex.ok, Ex.val, Opd.val, POp.dst, bin_int, binOK_int, bin_str, binOK_str, resOK, resV, RB.val, sub, putc, scB, scL, oneB, conf, Ex.val.eqP, Ex.val.eqL, negV, mxV, mnV, ← wr_eq, wr_zero, wr_one, wr_m1, bst_lst, byteC, partsOK, putAll, appV, nilV, slV, sslV, optB, optNum, and_assoc, exists_and_left, exists_eq_left', *]) | refine CondS_d (fun h => ?_) (fun h => ?_) | refine CondS_b (fun h => ?_) (fun h => ?_) | refine GrdS_d (fun h => ?_) (fun h => ?_) | refine GrdS_b (fun h => ?_) (fun h => ?_) | refine OkS_i (by omega) ?_ | fail)
  · repeat' (first | intro _ | (simp [sxa, isPtrN, PV.pcs, elAt, setEl, inAt, elIn, setIn, isLst, cellsOf, Ex.ok, Ex.val, Opd.val, POp.dst, bin_int, binOK_int, bin_str, binOK_str, resOK, resV, RB.val, sub, putc, scB, scL, oneB, conf, Ex.val.eqP, Ex.val.eqL, negV, mxV, mnV, ← wr_eq, wr_zero, wr_one, wr_m1, bst_lst, byteC, partsOK, putAll, appV, nilV, slV, sslV, optB, optNum, and_assoc, exists_and_left, exists_eq_left', *]) | refine CallS_i (hparts) ?_ | refine CondS_d (fun h => ?_) (fun h => ?_) | refine CondS_b (fun h => ?_) (fun h => ?_) | refine GrdS_d (fun h => ?_) (fun h => ?_) | refine GrdS_b (fun h => ?_) (fun h => ?_) | refine OkS_i (by omega) ?_ | fail)
    refine sx_mono _ _ _ _ ?_ (lp _ (by simp [sxa, isPtrN, PV.pcs, elAt, setEl, inAt, elIn, setIn, isLst, cellsOf, Ex.ok, Ex.val, Opd.val, POp.dst, bin_int, binOK_int, bin_str, binOK_str, resOK, resV, RB.val, sub, putc, scB, scL, oneB, conf, Ex.val.eqP, Ex.val.eqL, negV, mxV, mnV, ← wr_eq, wr_zero, wr_one, wr_m1, bst_lst, byteC, partsOK, putAll, appV, nilV, slV, sslV, optB, optNum, and_assoc, exists_and_left, exists_eq_left']) (by simp [sxa, isPtrN, PV.pcs, elAt, setEl, inAt, elIn, setIn, isLst, cellsOf, Ex.ok, Ex.val, Opd.val, POp.dst, bin_int, binOK_int, bin_str, binOK_str, resOK, resV, RB.val, sub, putc, scB, scL, oneB, conf, Ex.val.eqP, Ex.val.eqL, negV, mxV, mnV, ← wr_eq, wr_zero, wr_one, wr_m1, bst_lst, byteC, partsOK, putAll, appV, nilV, slV, sslV, optB, optNum, and_assoc, exists_and_left, exists_eq_left']) (by simp [sxa, isPtrN, PV.pcs, elAt, setEl, inAt, elIn, setIn, isLst, cellsOf, Ex.ok, Ex.val, Opd.val, POp.dst, bin_int, binOK_int, bin_str, binOK_str, resOK, resV, RB.val, sub, putc, scB, scL, oneB, conf, Ex.val.eqP, Ex.val.eqL, negV, mxV, mnV, ← wr_eq, wr_zero, wr_one, wr_m1, bst_lst, byteC, partsOK, putAll, appV, nilV, slV, sslV, optB, optNum, and_assoc, exists_and_left, exists_eq_left']) (by simp [sxa, isPtrN, PV.pcs, elAt, setEl, inAt, elIn, setIn, isLst, cellsOf, Ex.ok, Ex.val, Opd.val, POp.dst, bin_int, binOK_int, bin_str, binOK_str, resOK, resV, RB.val, sub, putc, scB, scL, oneB, conf, Ex.val.eqP, Ex.val.eqL, negV, mxV, mnV, ← wr_eq, wr_zero, wr_one, wr_m1, bst_lst, byteC, partsOK, putAll, appV, nilV, slV, sslV, optB, optNum, and_assoc, exists_and_left, exists_eq_left']) (by simp [sxa, isPtrN, PV.pcs, elAt, setEl, inAt, elIn, setIn, isLst, cellsOf, Ex.ok, Ex.val, Opd.val, POp.dst, bin_int, binOK_int, bin_str, binOK_str, resOK, resV, RB.val, sub, putc, scB, scL, oneB, conf, Ex.val.eqP, Ex.val.eqL, negV, mxV, mnV, ← wr_eq, wr_zero, wr_one, wr_m1, bst_lst, byteC, partsOK, putAll, appV, nilV, slV, sslV, optB, optNum, and_assoc, exists_and_left, exists_eq_left']) (by simp [sxa, isPtrN, PV.pcs, elAt, setEl, inAt, elIn, setIn, isLst, cellsOf, Ex.ok, Ex.val, Opd.val, POp.dst, bin_int, binOK_int, bin_str, binOK_str, resOK, resV, RB.val, sub, putc, scB, scL, oneB, conf, Ex.val.eqP, Ex.val.eqL, negV, mxV, mnV, ← wr_eq, wr_zero, wr_one, wr_m1, bst_lst, byteC, partsOK, putAll, appV, nilV, slV, sslV, optB, optNum, and_assoc, exists_and_left, exists_eq_left']) (by simp [sxa, isPtrN, PV.pcs, elAt, setEl, inAt, elIn, setIn, isLst, cellsOf, Ex.ok, Ex.val, Opd.val, POp.dst, bin_int, binOK_int, bin_str, binOK_str, resOK, resV, RB.val, sub, putc, scB, scL, oneB, conf, Ex.val.eqP, Ex.val.eqL, negV, mxV, mnV, ← wr_eq, wr_zero, wr_one, wr_m1, bst_lst, byteC, partsOK, putAll, appV, nilV, slV, sslV, optB, optNum, and_assoc, exists_and_left, exists_eq_left']))
    rintro y V' ⟨rfl, g7⟩
    repeat' (first | intro _ | (simp [sxa, isPtrN, PV.pcs, elAt, setEl, inAt, elIn, setIn, isLst, cellsOf, Ex.ok, Ex.val, Opd.val, POp.dst, bin_int, binOK_int, bin_str, binOK_str, resOK, resV, RB.val, sub, putc, scB, scL, oneB, conf, Ex.val.eqP, Ex.val.eqL, negV, mxV, mnV, ← wr_eq, wr_zero, wr_one, wr_m1, bst_lst, byteC, partsOK, putAll, appV, nilV, slV, sslV, optB, optNum, and_assoc, exists_and_left, exists_eq_left', *]) | refine CondS_d (fun h => ?_) (fun h => ?_) | refine CondS_b (fun h => ?_) (fun h => ?_) | refine GrdS_d (fun h => ?_) (fun h => ?_) | refine GrdS_b (fun h => ?_) (fun h => ?_) | refine OkS_i (by omega) ?_ | fail)
/-! the tiles that a feature touches -/
def tbb (n : Nat) : Bx := ⟨(n : Int) % 21 * 10, (n : Int) / 21 * 10, cap2 ((n : Int) % 21 * 10 + 10), cap2 ((n : Int) / 21 * 10 + 10)⟩
theorem tbox_tbb {n : Nat} (h : n ≤ 440) : tbox n = [i (tbb n).f0, i (tbb n).f1, i (tbb n).f2, i (tbb n).f3] := by
  unfold tbox; rw [if_pos (by omega)]; rfl
def tlTo (x : Ft) : Nat → List Int
  | 0 => []
  | n + 1 => tlTo x n ++ (if 0 < (wPcs x (wParts x) (tbb n).f0 (tbb n).f1 (tbb n).f2 (tbb n).f3).length then [(n : Int)] else [])
theorem tlTo_len (x : Ft) (n : Nat) : (tlTo x n).length ≤ n := by
  induction n with
  | zero => simp [tlTo]
  | succ n ih => unfold tlTo; rw [List.length_append]; split <;> simp <;> omega
def wTiles (x : Ft) : List Int := if wFeat x = true then tlTo x 441 else []
theorem wTiles_len (x : Ft) : (wTiles x).length ≤ 441 := by
  unfold wTiles
  split
  · exact tlTo_len x 441
  · simp
theorem wPcs_len (x : Ft) (S : List Sg) (p q r u : Int) : (wPcs x S p q r u).length ≤ S.length + 1 := by
  unfold wPcs
  split
  · simp
  · have := pcsTo_len x.f0 S p q r u S.length; omega
theorem wFeat_one {x : Ft} (h : wFeat x = true) (h1 : x.f1 = 1) : 0 < x.f4.length := by
  unfold wFeat wShape at h
  rw [if_pos h1] at h
  simp at h
  omega
theorem f37 (x : Ft) (hx : x.okay) : Fn Tryz.prog 37 true [.agg (ft x)] (.lst 1 false ((wTiles x).map fun m => [i m])) := by
  have hf := f71 x hx
  have hpl := wParts_len x
  unfold wTiles
  have hft : ft x = [i x.f0, i x.f1, i x.f2, .str x.f3, .lst 2 x.nl (x.f4.map cp)] := rfl
  rw [hft] at hf ⊢
  refine Fn.by_sx hX (by kernel_rfl) c37 (by kernel_rfl) (by rfl) ?_
  simp [i37, sxa, isPtrN, PV.pcs, elAt, setEl, inAt, elIn, setIn, isLst, cellsOf, Ex.ok, Ex.val, Opd.val, POp.dst, bin_int, binOK_int, bin_str, binOK_str, resOK, resV, RB.val, sub, putc, scB, scL, oneB, conf, Ex.val.eqP, Ex.val.eqL, negV, mxV, mnV, ← wr_eq, wr_zero, wr_one, wr_m1, bst_lst, byteC, partsOK, putAll, appV, nilV, slV, sslV, optB, optNum, and_assoc, exists_and_left, exists_eq_left']
  by_cases h : wFeat x = true
  case neg =>
    rw [if_neg h]
    rw [show wFeat x = false by simpa using h] at hf
    repeat' (first | intro _ | (simp [sxa, isPtrN, PV.pcs, elAt, setEl, inAt, elIn, setIn, isLst, cellsOf, Ex.ok, Ex.val, Opd.val, POp.dst, bin_int, binOK_int, bin_str, binOK_str, resOK, resV, RB.val, sub, putc, scB, scL, oneB, conf, Ex.val.eqP, Ex.val.eqL, negV, mxV, mnV, ← wr_eq, wr_zero, wr_one, wr_m1, bst_lst, byteC, partsOK, putAll, appV, nilV, slV, sslV, optB, optNum, and_assoc, exists_and_left, exists_eq_left', *]) | refine CallS_i (hf) ?_ | refine CondS_d (fun h => ?_) (fun h => ?_) | refine CondS_b (fun h => ?_) (fun h => ?_) | refine GrdS_d (fun h => ?_) (fun h => ?_) | refine GrdS_b (fun h => ?_) (fun h => ?_) | refine OkS_i (by omega) ?_ | fail)
  rw [if_pos h]
  rw [h] at hf
  repeat' (first | intro _ | (simp [sxa, isPtrN, PV.pcs, elAt, setEl, inAt, elIn, setIn, isLst, cellsOf, Ex.ok, Ex.val, Opd.val, POp.dst, bin_int, binOK_int, bin_str, binOK_str, resOK, resV, RB.val, sub, putc, scB, scL, oneB, conf, Ex.val.eqP, Ex.val.eqL, negV, mxV, mnV, ← wr_eq, wr_zero, wr_one, wr_m1, bst_lst, byteC, partsOK, putAll, appV, nilV, slV, sslV, optB, optNum, and_assoc, exists_and_left, exists_eq_left', *]) | refine CallS_i (hf) ?_ | refine CondS_d (fun h => ?_) (fun h => ?_) | refine CondS_b (fun h => ?_) (fun h => ?_) | refine GrdS_d (fun h => ?_) (fun h => ?_) | refine GrdS_b (fun h => ?_) (fun h => ?_) | refine OkS_i (by omega) ?_ | fail)
  refine sx_count 441 (fun n V => V 1 = .ptr [i x.f0, i x.f1, i x.f2, .str x.f3, .lst 2 x.nl (x.f4.map cp)] ∧ V 12 = i n ∧ V 3 = .lst 1 false ((tlTo x n).map fun m => [i m])) 0 (by omega) (by simp [sxa, isPtrN, PV.pcs, elAt, setEl, inAt, elIn, setIn, isLst, cellsOf, Ex.ok, Ex.val, Opd.val, POp.dst, bin_int, binOK_int, bin_str, binOK_str, resOK, resV, RB.val, sub, putc, scB, scL, oneB, conf, Ex.val.eqP, Ex.val.eqL, negV, mxV, mnV, ← wr_eq, wr_zero, wr_one, wr_m1, bst_lst, byteC, partsOK, putAll, appV, nilV, slV, sslV, optB, optNum, and_assoc, exists_and_left, exists_eq_left', tlTo]) ?_
  rintro n V hn ⟨g1, g5, g3⟩
  simp [sxa, isPtrN, PV.pcs, elAt, setEl, inAt, elIn, setIn, isLst, cellsOf, Ex.ok, Ex.val, Opd.val, POp.dst, bin_int, binOK_int, bin_str, binOK_str, resOK, resV, RB.val, sub, putc, scB, scL, oneB, conf, Ex.val.eqP, Ex.val.eqL, negV, mxV, mnV, ← wr_eq, wr_zero, wr_one, wr_m1, bst_lst, byteC, partsOK, putAll, appV, nilV, slV, sslV, optB, optNum, and_assoc, exists_and_left, exists_eq_left', g5]
  refine CondS_d (fun hlt => ?_) (fun hge => ?_)
  · have hlt' : n < 441 := by omega
    have hw : wr .i64 ((n : Int) + 1) = n + 1 := wr_in (by omega) (by omega)
    have ht := f66 (n : Int)
    rw [tbox_tbb (by omega)] at ht
    have hln := tlTo_len x n
    have hc := f72 x (tbb n).f0 (tbb n).f1 (tbb n).f2 (tbb n).f3 hx (wFeat_one h)
    rw [hft] at hc
    have hwl := wPcs_len x (wParts x) (tbb n).f0 (tbb n).f1 (tbb n).f2 (tbb n).f3
    have hs : tlTo x (n + 1) = tlTo x n ++ (if 0 < (wPcs x (wParts x) (tbb n).f0 (tbb n).f1 (tbb n).f2 (tbb n).f3).length then [(n : Int)] else []) := rfl
    obtain ⟨P, hP⟩ : ∃ P, wPcs x (wParts x) (tbb n).f0 (tbb n).f1 (tbb n).f2 (tbb n).f3 = P := ⟨_, rfl⟩
    rw [hP] at hc hwl hs
    obtain ⟨⟨b0, b1, b2, b3⟩, hb⟩ : ∃ b, tbb n = b := ⟨_, rfl⟩
    rw [hb] at ht hc
    clear hb hP
    simp only at ht hc
    by_cases hp0 : 0 < P.length
    · rw [if_pos hp0] at hs
      have hne : ¬ P = [] := fun h => by rw [h] at hp0; cases hp0
      repeat' (first | intro _ | (simp [sxa, isPtrN, PV.pcs, elAt, setEl, inAt, elIn, setIn, isLst, cellsOf, Ex.ok, Ex.val, Opd.val, POp.dst, bin_int, binOK_int, bin_str, binOK_str, resOK, resV, RB.val, sub, putc, scB, scL, oneB, conf, Ex.val.eqP, Ex.val.eqL, negV, mxV, mnV, ← wr_eq, wr_zero, wr_one, wr_m1, bst_lst, byteC, partsOK, putAll, appV, nilV, slV, sslV, optB, optNum, and_assoc, exists_and_left, exists_eq_left', *]) | refine CallS_i (ht) ?_ | refine CallS_i (hc) ?_ | refine CondS_d (fun h => ?_) (fun h => ?_) | refine CondS_b (fun h => ?_) (fun h => ?_) | refine GrdS_d (fun h => ?_) (fun h => ?_) | refine GrdS_b (fun h => ?_) (fun h => ?_) | refine OkS_i (by omega) ?_ | fail)
    · rw [if_neg hp0, List.append_nil] at hs
      have hne : P = [] := List.length_eq_zero_iff.1 (by omega)
      subst hne
      repeat' (first | intro _ | (simp [sxa, isPtrN, PV.pcs, elAt, setEl, inAt, elIn, setIn, isLst, cellsOf, Ex.ok, Ex.val, Opd.val, POp.dst, bin_int, binOK_int, bin_str, binOK_str, resOK, resV, RB.val, sub, putc, scB, scL, oneB, conf, Ex.val.eqP, Ex.val.eqL, negV, mxV, mnV, ← wr_eq, wr_zero, wr_one, wr_m1, bst_lst, byteC, partsOK, putAll, appV, nilV, slV, sslV, optB, optNum, and_assoc, exists_and_left, exists_eq_left', *]) | refine CallS_i (ht) ?_ | refine CallS_i (hc) ?_ | refine CondS_d (fun h => ?_) (fun h => ?_) | refine CondS_b (fun h => ?_) (fun h => ?_) | refine GrdS_d (fun h => ?_) (fun h => ?_) | refine GrdS_b (fun h => ?_) (fun h => ?_) | refine OkS_i (by omega) ?_ | fail)
  · have : n = 441 := by omega
    subst this
    repeat' (first | intro _ | (simp [sxa, isPtrN, PV.pcs, elAt, setEl, inAt, elIn, setIn, isLst, cellsOf, Ex.ok, Ex.val, Opd.val, POp.dst, bin_int, binOK_int, bin_str, binOK_str, resOK, resV, RB.val, sub, putc, scB, scL, oneB, conf, Ex.val.eqP, Ex.val.eqL, negV, mxV, mnV, ← wr_eq, wr_zero, wr_one, wr_m1, bst_lst, byteC, partsOK, putAll, appV, nilV, slV, sslV, optB, optNum, and_assoc, exists_and_left, exists_eq_left', *]) | refine CondS_d (fun h => ?_) (fun h => ?_) | refine CondS_b (fun h => ?_) (fun h => ?_) | refine GrdS_d (fun h => ?_) (fun h => ?_) | refine GrdS_b (fun h => ?_) (fun h => ?_) | refine OkS_i (by omega) ?_ | fail)
end Go.Eng
namespace Go.Eng
open Go Go.Proofs Geo
set_option linter.unusedSimpArgs false
set_option linter.unusedVariables false
set_option maxRecDepth 100000
set_option maxHeartbeats 1000000

/-! structs are marked: what lies behind them. WRITES -/
theorem len4 {α : Type} {l : List α} (h : l.length = 4) : ∃ a b c d, l = [a, b, c, d] := by
  match l, h with
  | [a, b, c, d], _ => exact ⟨a, b, c, d, rfl⟩
theorem len5 {α : Type} {l : List α} (h : l.length = 5) : ∃ a b c d e, l = [a, b, c, d, e] := by
  match l, h with
  | [a, b, c, d, e], _ => exact ⟨a, b, c, d, e, rfl⟩
theorem len3 {α : Type} {l : List α} (h : l.length = 3) : ∃ a b c, l = [a, b, c] := by
  match l, h with
  | [a, b, c], _ => exact ⟨a, b, c, rfl⟩
def mkB (k : Int) (x : Ft) : Ft := { x with f4 := upTo (mkPt k) x.f4.length }
end Go.Eng
namespace Go.Eng
open Go Go.Proofs Geo
set_option linter.unusedSimpArgs false
set_option linter.unusedVariables false
set_option maxRecDepth 20000
set_option maxHeartbeats 1000000

/-! lists of strings; the references of a feature; the law. WRITES -/
def stv (s : ByteArray) : List PV := [.str s]
def mkStr (k : Int) (j : Nat) : List PV := [.str (mt (k + j))]
theorem f36 (x : Ft) (hx : x.okay) : Fn Tryz.prog 36 true [.agg (ft x)] (.lst 1 false (((wTiles x).map wRef).map stv)) := by
  have hp := f37 x hx
  have hl := wTiles_len x
  obtain ⟨T, hT⟩ : ∃ T, wTiles x = T := ⟨_, rfl⟩
  rw [hT] at hp hl ⊢
  unfold ft at hp ⊢
  clear hT
  refine Fn.by_sx hX (by kernel_rfl) c36 (by kernel_rfl) (by rfl) ?_
  simp [i36, sxa, isPtrN, PV.pcs, elAt, setEl, inAt, elIn, setIn, isLst, cellsOf, Ex.ok, Ex.val, Opd.val, POp.dst, bin_int, binOK_int, bin_str, binOK_str, resOK, resV, RB.val, sub, putc, scB, scL, oneB, conf, Ex.val.eqP, Ex.val.eqL, negV, mxV, mnV, ← wr_eq, wr_zero, wr_one, wr_m1, bst_lst, byteC, partsOK, putAll, appV, nilV, slV, sslV, optB, optNum, and_assoc, exists_and_left, exists_eq_left']
  repeat' (first | intro _ | (simp [sxa, isPtrN, PV.pcs, elAt, setEl, inAt, elIn, setIn, isLst, cellsOf, Ex.ok, Ex.val, Opd.val, POp.dst, bin_int, binOK_int, bin_str, binOK_str, resOK, resV, RB.val, sub, putc, scB, scL, oneB, conf, Ex.val.eqP, Ex.val.eqL, negV, mxV, mnV, ← wr_eq, wr_zero, wr_one, wr_m1, bst_lst, byteC, partsOK, putAll, appV, nilV, slV, sslV, optB, optNum, and_assoc, exists_and_left, exists_eq_left', *]) | refine CallS_i (hp) ?_ | refine CallM_i (hp) ?_ | refine CallE_i (hp) ?_ | refine CallX_i (hp) ?_ | refine CallB_i (hp) ?_ | refine CondS_d (fun h => ?_) (fun h => ?_) | refine CondS_b (fun h => ?_) (fun h => ?_) | refine GrdS_d (fun h => ?_) (fun h => ?_) | refine GrdS_b (fun h => ?_) (fun h => ?_) | refine OkS_i (by omega) ?_ | fail)
  refine sx_count T.length (fun n V => V 8 = .lst 1 false (T.map fun m => [i m]) ∧ V 9 = i T.length ∧ V 10 = i n ∧ V 3 = .lst 1 false ((T.take n).map fun m => stv (wRef m))) 0 (by omega) (by simp [sxa, isPtrN, PV.pcs, elAt, setEl, inAt, elIn, setIn, isLst, cellsOf, Ex.ok, Ex.val, Opd.val, POp.dst, bin_int, binOK_int, bin_str, binOK_str, resOK, resV, RB.val, sub, putc, scB, scL, oneB, conf, Ex.val.eqP, Ex.val.eqL, negV, mxV, mnV, ← wr_eq, wr_zero, wr_one, wr_m1, bst_lst, byteC, partsOK, putAll, appV, nilV, slV, sslV, optB, optNum, and_assoc, exists_and_left, exists_eq_left']) ?_
  rintro n V hn ⟨g4, g9, g5, g3⟩
  simp [sxa, isPtrN, PV.pcs, elAt, setEl, inAt, elIn, setIn, isLst, cellsOf, Ex.ok, Ex.val, Opd.val, POp.dst, bin_int, binOK_int, bin_str, binOK_str, resOK, resV, RB.val, sub, putc, scB, scL, oneB, conf, Ex.val.eqP, Ex.val.eqL, negV, mxV, mnV, ← wr_eq, wr_zero, wr_one, wr_m1, bst_lst, byteC, partsOK, putAll, appV, nilV, slV, sslV, optB, optNum, and_assoc, exists_and_left, exists_eq_left', g9, g5]
  refine CondS_d (fun hlt => ?_) (fun hge => ?_)
  · have hlt' : n < T.length := by omega
    have hw : wr .i64 ((n : Int) + 1) = n + 1 := wr_in (by omega) (by omega)
    have ht : (T.take (n + 1)).map (fun m => stv (wRef m)) = (T.take n).map (fun m => stv (wRef m)) ++ [stv (wRef T[n])] := by
      rw [List.take_add_one, List.getElem?_eq_getElem hlt', List.map_append]; rfl
    have hll : ((T.take n).map fun m => stv (wRef m)).length = n := by simp; omega
    obtain ⟨Q, hQ⟩ : ∃ Q, (T.take n).map (fun m => stv (wRef m)) = Q := ⟨_, rfl⟩
    rw [hQ] at ht g3 hll
    clear hQ
    repeat' (first | intro _ | (simp [sxa, isPtrN, PV.pcs, elAt, setEl, inAt, elIn, setIn, isLst, cellsOf, Ex.ok, Ex.val, Opd.val, POp.dst, bin_int, binOK_int, bin_str, binOK_str, resOK, resV, RB.val, sub, putc, scB, scL, oneB, conf, Ex.val.eqP, Ex.val.eqL, negV, mxV, mnV, ← wr_eq, wr_zero, wr_one, wr_m1, bst_lst, byteC, partsOK, putAll, appV, nilV, slV, sslV, optB, optNum, and_assoc, exists_and_left, exists_eq_left', stv, *]) | refine CallS_i (f35 _) ?_ | refine CallM_i (f35 _) ?_ | refine CallE_i (f35 _) ?_ | refine CallX_i (f35 _) ?_ | refine CallB_i (f35 _) ?_ | refine CondS_d (fun h => ?_) (fun h => ?_) | refine CondS_b (fun h => ?_) (fun h => ?_) | refine GrdS_d (fun h => ?_) (fun h => ?_) | refine GrdS_b (fun h => ?_) (fun h => ?_) | refine OkS_i (by omega) ?_ | fail)
    rw [← List.map_take]; exact ht.symm
  · have : n = T.length := by omega
    subst this
    rw [List.take_length] at g3
    repeat' (first | intro _ | (simp [sxa, isPtrN, PV.pcs, elAt, setEl, inAt, elIn, setIn, isLst, cellsOf, Ex.ok, Ex.val, Opd.val, POp.dst, bin_int, binOK_int, bin_str, binOK_str, resOK, resV, RB.val, sub, putc, scB, scL, oneB, conf, Ex.val.eqP, Ex.val.eqL, negV, mxV, mnV, ← wr_eq, wr_zero, wr_one, wr_m1, bst_lst, byteC, partsOK, putAll, appV, nilV, slV, sslV, optB, optNum, and_assoc, exists_and_left, exists_eq_left', *]) | refine CondS_d (fun h => ?_) (fun h => ?_) | refine CondS_b (fun h => ?_) (fun h => ?_) | refine GrdS_d (fun h => ?_) (fun h => ?_) | refine GrdS_b (fun h => ?_) (fun h => ?_) | refine OkS_i (by omega) ?_ | fail)
end Go.Eng
namespace Go.Eng
open Go Go.Proofs Geo
set_option linter.unusedSimpArgs false
set_option linter.unusedVariables false
set_option maxRecDepth 20000
set_option maxHeartbeats 2000000

/-! draws of points, lines, rings, features. WRITES -/
def lowP (p : Pt) : Prop := (0 ≤ p.f0 ∧ p.f0 < 12) ∧ (0 ≤ p.f1 ∧ p.f1 < 12)
def anyP (p : Pt) : Prop := True
theorem f68 : FnR Tryz.prog 68 true false [] (fun v => ∃ p : Pt, v = .agg (cp p) ∧ lowP p) := by
  refine FnR.by_sxC hX (by kernel_rfl) c68 rfl rfl rfl (fun _ v => by rintro ⟨x, rfl, _⟩; rfl) ?_
  intro cs hcs
  simp [i68, sxa, isPtrN, PV.pcs, elAt, setEl, inAt, elIn, setIn, isLst, cellsOf, Ex.ok, Ex.val, Opd.val, POp.dst, bin_int, binOK_int, bin_str, binOK_str, resOK, resV, RB.val, sub, putc, scB, scL, oneB, conf, Ex.val.eqP, Ex.val.eqL, negV, mxV, mnV, ← wr_eq, wr_zero, wr_one, wr_m1, bst_lst, byteC, partsOK, putAll, appV, nilV, slV, sslV, optB, optNum, and_assoc, exists_and_left, exists_eq_left']
  repeat' (first | intro _ | (simp [sxa, isPtrN, PV.pcs, elAt, setEl, inAt, elIn, setIn, isLst, cellsOf, Ex.ok, Ex.val, Opd.val, POp.dst, bin_int, binOK_int, bin_str, binOK_str, resOK, resV, RB.val, sub, putc, scB, scL, oneB, conf, Ex.val.eqP, Ex.val.eqL, negV, mxV, mnV, ← wr_eq, wr_zero, wr_one, wr_m1, bst_lst, byteC, partsOK, putAll, appV, nilV, slV, sslV, optB, optNum, and_assoc, exists_and_left, exists_eq_left', *]) | refine ⟨by assumption, CopC_i (f90 12 (by omega)) (fun _ _ => by first | exact ⟨fun _ => rfl, (fun h => by cases h)⟩ | exact ⟨(fun h => by cases h), fun _ => ⟨_, rfl⟩⟩ | exact ⟨(fun h => by cases h), (fun h => by cases h)⟩) (fun x cs hx hcs => ?_)⟩ | refine CopC_i (f90 12 (by omega)) (fun _ _ => by first | exact ⟨fun _ => rfl, (fun h => by cases h)⟩ | exact ⟨(fun h => by cases h), fun _ => ⟨_, rfl⟩⟩ | exact ⟨(fun h => by cases h), (fun h => by cases h)⟩) (fun x cs hx hcs => ?_) | refine CondS_d (fun h => ?_) (fun h => ?_) | refine CondS_b (fun h => ?_) (fun h => ?_) | refine GrdS_d (fun h => ?_) (fun h => ?_) | refine GrdS_b (fun h => ?_) (fun h => ?_) | refine OkS_i (by omega) ?_ | fail)
  rename_i x1 _ h1 _
  exact ⟨⟨x1, x⟩, rfl, ⟨h1.1, h1.2 (by omega)⟩, hx.1, hx.2 (by omega)⟩
def rawL : List Int := [-1, 0, 200, 201, 1000, 1001, 9223372036854775807, -9223372036854775808]
def rawP (x : Int) : Prop := True
theorem f132 : FnR Tryz.prog 132 true false [] (fun v => ∃ x : Int, v = i x ∧ rawP x) := by
  have hc0 := f94 rawL false (by decide) (by decide)
  have hc : FnR Tryz.prog 94 true false [.lst 1 false [[i (-1)], [i 0], [i 200], [i 201], [i 1000], [i 1001], [i 9223372036854775807], [i (-9223372036854775808)]]] (fun v => ∃ x : Int, v = i x ∧ rawP x) := by
    refine ⟨hc0.1, fun w xs Fs a b c => ?_⟩
    have h := hc0.2 w xs Fs a b c
    simp only [if_true] at h ⊢
    intro x0 bb F1 d e f g j
    refine (h x0 bb F1 d e f g j).mono ?_
    rintro e' w' ⟨h1, x, F', res, h2, ⟨y, h3, _⟩, h4⟩
    exact ⟨h1, x, F', res, h2, ⟨y, h3, trivial⟩, h4⟩
  refine FnR.by_sxC hX (by kernel_rfl) c132 rfl rfl rfl (fun _ v => by rintro ⟨x, rfl, _⟩; rfl) ?_
  intro cs hcs
  simp [i132, sxa, isPtrN, PV.pcs, elAt, setEl, inAt, elIn, setIn, isLst, cellsOf, Ex.ok, Ex.val, Opd.val, POp.dst, bin_int, binOK_int, bin_str, binOK_str, resOK, resV, RB.val, sub, putc, scB, scL, oneB, conf, Ex.val.eqP, Ex.val.eqL, negV, mxV, mnV, ← wr_eq, wr_zero, wr_one, wr_m1, bst_lst, byteC, partsOK, putAll, appV, nilV, slV, sslV, optB, optNum, and_assoc, exists_and_left, exists_eq_left']
  repeat' (first | intro _ | (simp [sxa, isPtrN, PV.pcs, elAt, setEl, inAt, elIn, setIn, isLst, cellsOf, Ex.ok, Ex.val, Opd.val, POp.dst, bin_int, binOK_int, bin_str, binOK_str, resOK, resV, RB.val, sub, putc, scB, scL, oneB, conf, Ex.val.eqP, Ex.val.eqL, negV, mxV, mnV, ← wr_eq, wr_zero, wr_one, wr_m1, bst_lst, byteC, partsOK, putAll, appV, nilV, slV, sslV, optB, optNum, and_assoc, exists_and_left, exists_eq_left', *]) | refine ⟨by assumption, CopC_i (hc) (fun _ _ => by first | exact ⟨fun _ => rfl, (fun h => by cases h)⟩ | exact ⟨(fun h => by cases h), fun _ => ⟨_, rfl⟩⟩ | exact ⟨(fun h => by cases h), (fun h => by cases h)⟩) (fun x cs hx hcs => ?_)⟩ | refine CopC_i (hc) (fun _ _ => by first | exact ⟨fun _ => rfl, (fun h => by cases h)⟩ | exact ⟨(fun h => by cases h), fun _ => ⟨_, rfl⟩⟩ | exact ⟨(fun h => by cases h), (fun h => by cases h)⟩) (fun x cs hx hcs => ?_) | refine CondS_d (fun h => ?_) (fun h => ?_) | refine CondS_b (fun h => ?_) (fun h => ?_) | refine GrdS_d (fun h => ?_) (fun h => ?_) | refine GrdS_b (fun h => ?_) (fun h => ?_) | refine OkS_i (by omega) ?_ | fail)
theorem anyEx {a b : Int} : ∃ p : Pt, a = p.f0 ∧ b = p.f1 ∧ anyP p := ⟨⟨a, b⟩, rfl, rfl, trivial⟩
theorem f92 : FnR Tryz.prog 92 true false [] (fun v => ∃ p : Pt, v = .agg (cp p) ∧ anyP p) := by
  refine FnR.by_sxC hX (by kernel_rfl) c92 rfl rfl rfl (fun _ v => by rintro ⟨x, rfl, _⟩; rfl) ?_
  intro cs hcs
  simp [i92, sxa, isPtrN, PV.pcs, elAt, setEl, inAt, elIn, setIn, isLst, cellsOf, Ex.ok, Ex.val, Opd.val, POp.dst, bin_int, binOK_int, bin_str, binOK_str, resOK, resV, RB.val, sub, putc, scB, scL, oneB, conf, Ex.val.eqP, Ex.val.eqL, negV, mxV, mnV, ← wr_eq, wr_zero, wr_one, wr_m1, bst_lst, byteC, partsOK, putAll, appV, nilV, slV, sslV, optB, optNum, and_assoc, exists_and_left, exists_eq_left']
  repeat' (first | intro _ | (simp [sxa, isPtrN, PV.pcs, elAt, setEl, inAt, elIn, setIn, isLst, cellsOf, Ex.ok, Ex.val, Opd.val, POp.dst, bin_int, binOK_int, bin_str, binOK_str, resOK, resV, RB.val, sub, putc, scB, scL, oneB, conf, Ex.val.eqP, Ex.val.eqL, negV, mxV, mnV, ← wr_eq, wr_zero, wr_one, wr_m1, bst_lst, byteC, partsOK, putAll, appV, nilV, slV, sslV, optB, optNum, and_assoc, exists_and_left, exists_eq_left', cp, *]) | refine ⟨by assumption, CopC_i (f68) (fun _ _ => by first | exact ⟨fun _ => rfl, (fun h => by cases h)⟩ | exact ⟨(fun h => by cases h), fun _ => ⟨_, rfl⟩⟩ | exact ⟨(fun h => by cases h), (fun h => by cases h)⟩) (fun x cs hx hcs => ?_)⟩ | refine ⟨by assumption, CopC_i (f90 12 (by omega)) (fun _ _ => by first | exact ⟨fun _ => rfl, (fun h => by cases h)⟩ | exact ⟨(fun h => by cases h), fun _ => ⟨_, rfl⟩⟩ | exact ⟨(fun h => by cases h), (fun h => by cases h)⟩) (fun x cs hx hcs => ?_)⟩ | refine ⟨by assumption, CopC_i (f132) (fun _ _ => by first | exact ⟨fun _ => rfl, (fun h => by cases h)⟩ | exact ⟨(fun h => by cases h), fun _ => ⟨_, rfl⟩⟩ | exact ⟨(fun h => by cases h), (fun h => by cases h)⟩) (fun x cs hx hcs => ?_)⟩ | refine CopC_i (f68) (fun _ _ => by first | exact ⟨fun _ => rfl, (fun h => by cases h)⟩ | exact ⟨(fun h => by cases h), fun _ => ⟨_, rfl⟩⟩ | exact ⟨(fun h => by cases h), (fun h => by cases h)⟩) (fun x cs hx hcs => ?_) | refine CopC_i (f90 12 (by omega)) (fun _ _ => by first | exact ⟨fun _ => rfl, (fun h => by cases h)⟩ | exact ⟨(fun h => by cases h), fun _ => ⟨_, rfl⟩⟩ | exact ⟨(fun h => by cases h), (fun h => by cases h)⟩) (fun x cs hx hcs => ?_) | refine CopC_i (f132) (fun _ _ => by first | exact ⟨fun _ => rfl, (fun h => by cases h)⟩ | exact ⟨(fun h => by cases h), fun _ => ⟨_, rfl⟩⟩ | exact ⟨(fun h => by cases h), (fun h => by cases h)⟩) (fun x cs hx hcs => ?_) | refine CondS_d (fun h => ?_) (fun h => ?_) | refine CondS_b (fun h => ?_) (fun h => ?_) | refine GrdS_d (fun h => ?_) (fun h => ?_) | refine GrdS_b (fun h => ?_) (fun h => ?_) | refine OkS_i (by omega) ?_ | fail)
  all_goals exact anyEx
def anyB (b : Bool) : Prop := True
theorem f93 (n : Int) (hn : n ≤ 16777215) : FnR Tryz.prog 93 true false [i n] (fun v => ∃ b : Bool, v = .bool b ∧ anyB b) := by
  refine FnR.by_sxC hX (by kernel_rfl) c93 rfl rfl rfl (fun _ v => by rintro ⟨x, rfl, _⟩; rfl) ?_
  intro cs hcs
  simp [i93, sxa, isPtrN, PV.pcs, elAt, setEl, inAt, elIn, setIn, isLst, cellsOf, Ex.ok, Ex.val, Opd.val, POp.dst, bin_int, binOK_int, bin_str, binOK_str, resOK, resV, RB.val, sub, putc, scB, scL, oneB, conf, Ex.val.eqP, Ex.val.eqL, negV, mxV, mnV, ← wr_eq, wr_zero, wr_one, wr_m1, bst_lst, byteC, partsOK, putAll, appV, nilV, slV, sslV, optB, optNum, and_assoc, exists_and_left, exists_eq_left']
  repeat' (first | intro _ | (simp [sxa, isPtrN, PV.pcs, elAt, setEl, inAt, elIn, setIn, isLst, cellsOf, Ex.ok, Ex.val, Opd.val, POp.dst, bin_int, binOK_int, bin_str, binOK_str, resOK, resV, RB.val, sub, putc, scB, scL, oneB, conf, Ex.val.eqP, Ex.val.eqL, negV, mxV, mnV, ← wr_eq, wr_zero, wr_one, wr_m1, bst_lst, byteC, partsOK, putAll, appV, nilV, slV, sslV, optB, optNum, and_assoc, exists_and_left, exists_eq_left', *]) | refine ⟨by assumption, CopC_i (f90 n hn) (fun _ _ => by first | exact ⟨fun _ => rfl, (fun h => by cases h)⟩ | exact ⟨(fun h => by cases h), fun _ => ⟨_, rfl⟩⟩ | exact ⟨(fun h => by cases h), (fun h => by cases h)⟩) (fun x cs hx hcs => ?_)⟩ | refine CopC_i (f90 n hn) (fun _ _ => by first | exact ⟨fun _ => rfl, (fun h => by cases h)⟩ | exact ⟨(fun h => by cases h), fun _ => ⟨_, rfl⟩⟩ | exact ⟨(fun h => by cases h), (fun h => by cases h)⟩) (fun x cs hx hcs => ?_) | refine CondS_d (fun h => ?_) (fun h => ?_) | refine CondS_b (fun h => ?_) (fun h => ?_) | refine GrdS_d (fun h => ?_) (fun h => ?_) | refine GrdS_b (fun h => ?_) (fun h => ?_) | refine OkS_i (by omega) ?_ | fail)
  by_cases h : x = 0
  · exact .inr ⟨h, trivial⟩
  · exact .inl ⟨h, trivial⟩
def szP (l : List Pt) : Prop := 0 < l.length ∧ l.length ≤ 6
theorem mapApp {l : List Pt} {a b : Int} : List.map cp l ++ [[i a, i b]] = List.map cp (l ++ [⟨a, b⟩]) := by simp [cp]
theorem f150 : FnR Tryz.prog 150 true true [] (fun v => ∃ l : List Pt, v = .lst 2 false (l.map cp) ∧ szP l) := by
  refine FnR.by_sxC hX (by kernel_rfl) c150 rfl rfl rfl (fun h => by cases h) ?_
  intro cs hcs
  simp [i150, sxa, isPtrN, PV.pcs, elAt, setEl, inAt, elIn, setIn, isLst, cellsOf, Ex.ok, Ex.val, Opd.val, POp.dst, bin_int, binOK_int, bin_str, binOK_str, resOK, resV, RB.val, sub, putc, scB, scL, oneB, conf, Ex.val.eqP, Ex.val.eqL, negV, mxV, mnV, ← wr_eq, wr_zero, wr_one, wr_m1, bst_lst, byteC, partsOK, putAll, appV, nilV, slV, sslV, optB, optNum, and_assoc, exists_and_left, exists_eq_left']
  repeat' (first | intro _ | (simp [sxa, isPtrN, PV.pcs, elAt, setEl, inAt, elIn, setIn, isLst, cellsOf, Ex.ok, Ex.val, Opd.val, POp.dst, bin_int, binOK_int, bin_str, binOK_str, resOK, resV, RB.val, sub, putc, scB, scL, oneB, conf, Ex.val.eqP, Ex.val.eqL, negV, mxV, mnV, ← wr_eq, wr_zero, wr_one, wr_m1, bst_lst, byteC, partsOK, putAll, appV, nilV, slV, sslV, optB, optNum, and_assoc, exists_and_left, exists_eq_left', cp, *]) | refine ⟨by assumption, CopC_i (f68) (fun _ _ => by first | exact ⟨fun _ => rfl, (fun h => by cases h)⟩ | exact ⟨(fun h => by cases h), fun _ => ⟨_, rfl⟩⟩ | exact ⟨(fun h => by cases h), (fun h => by cases h)⟩) (fun x cs hx hcs => ?_)⟩ | refine ⟨by assumption, CopC_i (f90 5 (by omega)) (fun _ _ => by first | exact ⟨fun _ => rfl, (fun h => by cases h)⟩ | exact ⟨(fun h => by cases h), fun _ => ⟨_, rfl⟩⟩ | exact ⟨(fun h => by cases h), (fun h => by cases h)⟩) (fun x cs hx hcs => ?_)⟩ | refine CopC_i (f68) (fun _ _ => by first | exact ⟨fun _ => rfl, (fun h => by cases h)⟩ | exact ⟨(fun h => by cases h), fun _ => ⟨_, rfl⟩⟩ | exact ⟨(fun h => by cases h), (fun h => by cases h)⟩) (fun x cs hx hcs => ?_) | refine CopC_i (f90 5 (by omega)) (fun _ _ => by first | exact ⟨fun _ => rfl, (fun h => by cases h)⟩ | exact ⟨(fun h => by cases h), fun _ => ⟨_, rfl⟩⟩ | exact ⟨(fun h => by cases h), (fun h => by cases h)⟩) (fun x cs hx hcs => ?_) | refine CondS_d (fun h => ?_) (fun h => ?_) | refine CondS_b (fun h => ?_) (fun h => ?_) | refine GrdS_d (fun h => ?_) (fun h => ?_) | refine GrdS_b (fun h => ?_) (fun h => ?_) | refine OkS_i (by omega) ?_ | fail)
  have hx5 := hx.2 (by omega)
  have hx0 := hx.1
  obtain ⟨N, rfl⟩ : ∃ N : Nat, x = N := ⟨x.toNat, by omega⟩
  have hw0 : wr .i64 (1 + (N : Int)) = ((N + 1 : Nat) : Int) := by rw [wr_in (by omega) (by omega)]; omega
  refine sx_down (fun m V => isCur (V 0) = true ∧ V 4 = i m ∧ ∃ l : List Pt, V 3 = .lst 2 false (l.map cp) ∧ 0 < l.length ∧ l.length + m ≤ 6) (N + 1) ⟨by simp [sxa, isPtrN, PV.pcs, elAt, setEl, inAt, elIn, setIn, isLst, cellsOf, Ex.ok, Ex.val, Opd.val, POp.dst, bin_int, binOK_int, bin_str, binOK_str, resOK, resV, RB.val, sub, putc, scB, scL, oneB, conf, Ex.val.eqP, Ex.val.eqL, negV, mxV, mnV, ← wr_eq, wr_zero, wr_one, wr_m1, bst_lst, byteC, partsOK, putAll, appV, nilV, slV, sslV, optB, optNum, and_assoc, exists_and_left, exists_eq_left', hcs], by simp [sxa, isPtrN, PV.pcs, elAt, setEl, inAt, elIn, setIn, isLst, cellsOf, Ex.ok, Ex.val, Opd.val, POp.dst, bin_int, binOK_int, bin_str, binOK_str, resOK, resV, RB.val, sub, putc, scB, scL, oneB, conf, Ex.val.eqP, Ex.val.eqL, negV, mxV, mnV, ← wr_eq, wr_zero, wr_one, wr_m1, bst_lst, byteC, partsOK, putAll, appV, nilV, slV, sslV, optB, optNum, and_assoc, exists_and_left, exists_eq_left', hw0], [x], by simp [sxa, isPtrN, PV.pcs, elAt, setEl, inAt, elIn, setIn, isLst, cellsOf, Ex.ok, Ex.val, Opd.val, POp.dst, bin_int, binOK_int, bin_str, binOK_str, resOK, resV, RB.val, sub, putc, scB, scL, oneB, conf, Ex.val.eqP, Ex.val.eqL, negV, mxV, mnV, ← wr_eq, wr_zero, wr_one, wr_m1, bst_lst, byteC, partsOK, putAll, appV, nilV, slV, sslV, optB, optNum, and_assoc, exists_and_left, exists_eq_left', cp], by simp, by simp; omega⟩ ?_
  clear hcs hw0
  rintro m V ⟨gc, g4, l, g3, hl0, hlm⟩
  simp [sxa, isPtrN, PV.pcs, elAt, setEl, inAt, elIn, setIn, isLst, cellsOf, Ex.ok, Ex.val, Opd.val, POp.dst, bin_int, binOK_int, bin_str, binOK_str, resOK, resV, RB.val, sub, putc, scB, scL, oneB, conf, Ex.val.eqP, Ex.val.eqL, negV, mxV, mnV, ← wr_eq, wr_zero, wr_one, wr_m1, bst_lst, byteC, partsOK, putAll, appV, nilV, slV, sslV, optB, optNum, and_assoc, exists_and_left, exists_eq_left', g4]
  refine CondS_d (fun hlt => ?_) (fun hge => ?_)
  · obtain ⟨q, rfl⟩ : ∃ q, m = q + 1 := ⟨m - 1, by omega⟩
    have hw1 : wr .i64 ((q : Int) + 1 - 1) = q := by rw [wr_in (by omega) (by omega)]; omega
    have hq1 : wr .i64 (q : Int) = q := wr_in (by omega) (by omega)
    have hw2 : wr .i64 ((l.length : Int) - 1) = ((l.length - 1 : Nat) : Int) := by rw [wr_in (by omega) (by omega)]; omega
    have hlast : l.length - 1 < l.length := by omega
    repeat' (first | intro _ | (simp [sxa, isPtrN, PV.pcs, elAt, setEl, inAt, elIn, setIn, isLst, cellsOf, Ex.ok, Ex.val, Opd.val, POp.dst, bin_int, binOK_int, bin_str, binOK_str, resOK, resV, RB.val, sub, putc, scB, scL, oneB, conf, Ex.val.eqP, Ex.val.eqL, negV, mxV, mnV, ← wr_eq, wr_zero, wr_one, wr_m1, bst_lst, byteC, partsOK, putAll, appV, nilV, slV, sslV, optB, optNum, and_assoc, exists_and_left, exists_eq_left', cp, *]) | refine ⟨by assumption, CopC_i (f90 14 (by omega)) (fun _ _ => by first | exact ⟨fun _ => rfl, (fun h => by cases h)⟩ | exact ⟨(fun h => by cases h), fun _ => ⟨_, rfl⟩⟩ | exact ⟨(fun h => by cases h), (fun h => by cases h)⟩) (fun x cs hx hcs => ?_)⟩ | refine ⟨by assumption, CopC_i (f90 4 (by omega)) (fun _ _ => by first | exact ⟨fun _ => rfl, (fun h => by cases h)⟩ | exact ⟨(fun h => by cases h), fun _ => ⟨_, rfl⟩⟩ | exact ⟨(fun h => by cases h), (fun h => by cases h)⟩) (fun x cs hx hcs => ?_)⟩ | refine CopC_i (f90 14 (by omega)) (fun _ _ => by first | exact ⟨fun _ => rfl, (fun h => by cases h)⟩ | exact ⟨(fun h => by cases h), fun _ => ⟨_, rfl⟩⟩ | exact ⟨(fun h => by cases h), (fun h => by cases h)⟩) (fun x cs hx hcs => ?_) | refine CopC_i (f90 4 (by omega)) (fun _ _ => by first | exact ⟨fun _ => rfl, (fun h => by cases h)⟩ | exact ⟨(fun h => by cases h), fun _ => ⟨_, rfl⟩⟩ | exact ⟨(fun h => by cases h), (fun h => by cases h)⟩) (fun x cs hx hcs => ?_) | refine CallS_i (f167 _ _) ?_ | refine CallM_i (f167 _ _) ?_ | refine CallE_i (f167 _ _) ?_ | refine CallX_i (f167 _ _) ?_ | refine CallB_i (f167 _ _) ?_ | refine CondS_d (fun h => ?_) (fun h => ?_) | refine CondS_b (fun h => ?_) (fun h => ?_) | refine GrdS_d (fun h => ?_) (fun h => ?_) | refine GrdS_b (fun h => ?_) (fun h => ?_) | refine OkS_i (by omega) ?_ | fail)
    all_goals exact ⟨q, by omega, rfl, _, mapApp, by simp, by simp; omega⟩
  · have : m = 0 := by omega
    subst this
    repeat' (first | intro _ | (simp [sxa, isPtrN, PV.pcs, elAt, setEl, inAt, elIn, setIn, isLst, cellsOf, Ex.ok, Ex.val, Opd.val, POp.dst, bin_int, binOK_int, bin_str, binOK_str, resOK, resV, RB.val, sub, putc, scB, scL, oneB, conf, Ex.val.eqP, Ex.val.eqL, negV, mxV, mnV, ← wr_eq, wr_zero, wr_one, wr_m1, bst_lst, byteC, partsOK, putAll, appV, nilV, slV, sslV, optB, optNum, and_assoc, exists_and_left, exists_eq_left', *]) | refine CondS_d (fun h => ?_) (fun h => ?_) | refine CondS_b (fun h => ?_) (fun h => ?_) | refine GrdS_d (fun h => ?_) (fun h => ?_) | refine GrdS_b (fun h => ?_) (fun h => ?_) | refine OkS_i (by omega) ?_ | fail)
    exact ⟨l, rfl, hl0, by omega⟩
theorem f173 (x y : Int) : Fn Tryz.prog 173 false [i x, i y] (.agg [i x, i y]) := by
  refine Fn.by_sx hX (by kernel_rfl) c173 (by kernel_rfl) (by rfl) ?_
  simp [i173, sxa, isPtrN, PV.pcs, elAt, setEl, inAt, elIn, setIn, isLst, cellsOf, Ex.ok, Ex.val, Opd.val, POp.dst, bin_int, binOK_int, bin_str, binOK_str, resOK, resV, RB.val, sub, putc, scB, scL, oneB, conf, Ex.val.eqP, Ex.val.eqL, negV, mxV, mnV, ← wr_eq, wr_zero, wr_one, wr_m1, bst_lst, byteC, partsOK, putAll, appV, nilV, slV, sslV, optB, optNum, and_assoc, exists_and_left, exists_eq_left']
theorem lst3 {a b c d e f : Int} : ∃ l : List Pt, [[i a, i b], [i c, i d], [i e, i f]] = l.map cp ∧ szP l := ⟨[⟨a, b⟩, ⟨c, d⟩, ⟨e, f⟩], rfl, by simp, by simp⟩
theorem lst4 {a b c d e f g h : Int} : ∃ l : List Pt, [[i a, i b], [i c, i d], [i e, i f], [i g, i h]] = l.map cp ∧ szP l := ⟨[⟨a, b⟩, ⟨c, d⟩, ⟨e, f⟩, ⟨g, h⟩], rfl, by simp, by simp⟩
theorem lst6 {a b c d e f g h k m n o : Int} : ∃ l : List Pt, [[i a, i b], [i c, i d], [i e, i f], [i g, i h], [i k, i m], [i n, i o]] = l.map cp ∧ szP l := ⟨[⟨a, b⟩, ⟨c, d⟩, ⟨e, f⟩, ⟨g, h⟩, ⟨k, m⟩, ⟨n, o⟩], rfl, by simp, by simp⟩
theorem f160 : FnR Tryz.prog 160 true true [] (fun v => ∃ l : List Pt, v = .lst 2 false (l.map cp) ∧ szP l) := by
  refine FnR.by_sxC hX (by kernel_rfl) c160 rfl rfl rfl (fun h => by cases h) ?_
  intro cs hcs
  simp [i160, sxa, isPtrN, PV.pcs, elAt, setEl, inAt, elIn, setIn, isLst, cellsOf, Ex.ok, Ex.val, Opd.val, POp.dst, bin_int, binOK_int, bin_str, binOK_str, resOK, resV, RB.val, sub, putc, scB, scL, oneB, conf, Ex.val.eqP, Ex.val.eqL, negV, mxV, mnV, ← wr_eq, wr_zero, wr_one, wr_m1, bst_lst, byteC, partsOK, putAll, appV, nilV, slV, sslV, optB, optNum, and_assoc, exists_and_left, exists_eq_left']
  repeat' (first | intro _ | (simp [sxa, isPtrN, PV.pcs, elAt, setEl, inAt, elIn, setIn, isLst, cellsOf, Ex.ok, Ex.val, Opd.val, POp.dst, bin_int, binOK_int, bin_str, binOK_str, resOK, resV, RB.val, sub, putc, scB, scL, oneB, conf, Ex.val.eqP, Ex.val.eqL, negV, mxV, mnV, ← wr_eq, wr_zero, wr_one, wr_m1, bst_lst, byteC, partsOK, putAll, appV, nilV, slV, sslV, optB, optNum, and_assoc, exists_and_left, exists_eq_left', *]) | refine ⟨by assumption, CopC_i (f90 8 (by omega)) (fun _ _ => by first | exact ⟨fun _ => rfl, (fun h => by cases h)⟩ | exact ⟨(fun h => by cases h), fun _ => ⟨_, rfl⟩⟩ | exact ⟨(fun h => by cases h), (fun h => by cases h)⟩) (fun x cs hx hcs => ?_)⟩ | refine ⟨by assumption, CopC_i (f90 6 (by omega)) (fun _ _ => by first | exact ⟨fun _ => rfl, (fun h => by cases h)⟩ | exact ⟨(fun h => by cases h), fun _ => ⟨_, rfl⟩⟩ | exact ⟨(fun h => by cases h), (fun h => by cases h)⟩) (fun x cs hx hcs => ?_)⟩ | refine ⟨by assumption, CopC_i (f90 4 (by omega)) (fun _ _ => by first | exact ⟨fun _ => rfl, (fun h => by cases h)⟩ | exact ⟨(fun h => by cases h), fun _ => ⟨_, rfl⟩⟩ | exact ⟨(fun h => by cases h), (fun h => by cases h)⟩) (fun x cs hx hcs => ?_)⟩ | refine CopC_i (f90 8 (by omega)) (fun _ _ => by first | exact ⟨fun _ => rfl, (fun h => by cases h)⟩ | exact ⟨(fun h => by cases h), fun _ => ⟨_, rfl⟩⟩ | exact ⟨(fun h => by cases h), (fun h => by cases h)⟩) (fun x cs hx hcs => ?_) | refine CopC_i (f90 6 (by omega)) (fun _ _ => by first | exact ⟨fun _ => rfl, (fun h => by cases h)⟩ | exact ⟨(fun h => by cases h), fun _ => ⟨_, rfl⟩⟩ | exact ⟨(fun h => by cases h), (fun h => by cases h)⟩) (fun x cs hx hcs => ?_) | refine CopC_i (f90 4 (by omega)) (fun _ _ => by first | exact ⟨fun _ => rfl, (fun h => by cases h)⟩ | exact ⟨(fun h => by cases h), fun _ => ⟨_, rfl⟩⟩ | exact ⟨(fun h => by cases h), (fun h => by cases h)⟩) (fun x cs hx hcs => ?_) | refine CallS_i (f173 _ _) ?_ | refine CallM_i (f173 _ _) ?_ | refine CallE_i (f173 _ _) ?_ | refine CallX_i (f173 _ _) ?_ | refine CallB_i (f173 _ _) ?_ | refine CondS_d (fun h => ?_) (fun h => ?_) | refine CondS_b (fun h => ?_) (fun h => ?_) | refine GrdS_d (fun h => ?_) (fun h => ?_) | refine GrdS_b (fun h => ?_) (fun h => ?_) | refine OkS_i (by omega) ?_ | fail)
  all_goals first | exact lst3 | exact lst4 | exact lst6
def nmL : List ByteArray := [bs [], bs [102, 111, 114, 100], bs [104, 105, 108, 108], bs [109, 105, 108, 108], bs [111, 97, 107], bs [108, 97, 107, 101], bs [105, 110, 110]]
def smS (s : ByteArray) : Prop := s.size ≤ 9
theorem nm_all : ∀ s ∈ nmL, smS s := by
  intro s hs
  unfold nmL at hs
  simp only [List.mem_cons, List.not_mem_nil, or_false] at hs
  rcases hs with rfl | rfl | rfl | rfl | rfl | rfl | rfl <;> (unfold smS; decide)
theorem FnR.weak {P : Program} {f : Nat} {cur lin : Bool} {args : List PV} {R R' : PV → Prop} (h : FnR P f cur lin args R) (hr : ∀ v, R v → R' v) : FnR P f cur lin args R' := by
  refine ⟨h.1, fun w xs Fs a b c => ?_⟩
  have h := h.2 w xs Fs a b c
  cases cur with
  | true =>
    simp only [if_true] at h ⊢
    intro x0 bb F1 d e f g j
    refine (h x0 bb F1 d e f g j).mono ?_
    rintro e' w' ⟨h1, x, F', res, h2, h3, h4⟩
    exact ⟨h1, x, F', res, h2, hr _ h3, h4⟩
  | false =>
    simp only [Bool.false_eq_true, if_false] at h ⊢
    refine h.mono ?_
    rintro e' w' ⟨x, F', res, h2, h3, h4⟩
    exact ⟨x, F', res, h2, hr _ h3, h4⟩
theorem f159 : FnR Tryz.prog 159 true false [] (fun v => ∃ s : ByteArray, v = .str s ∧ smS s) := by
  have hc : FnR Tryz.prog 60 true false [.lst 1 false [[.str (bs [])], [.str (bs [102, 111, 114, 100])], [.str (bs [104, 105, 108, 108])], [.str (bs [109, 105, 108, 108])], [.str (bs [111, 97, 107])], [.str (bs [108, 97, 107, 101])], [.str (bs [105, 110, 110])]]] (fun v => ∃ s : ByteArray, v = .str s ∧ smS s) :=
    (f60 nmL false (by decide) (by decide)).weak (fun v ⟨s, h, hs⟩ => ⟨s, h, nm_all s hs⟩)
  refine FnR.by_sxC hX (by kernel_rfl) c159 rfl rfl rfl (fun _ v => by rintro ⟨x, rfl, _⟩; rfl) ?_
  intro cs hcs
  simp [i159, sxa, isPtrN, PV.pcs, elAt, setEl, inAt, elIn, setIn, isLst, cellsOf, Ex.ok, Ex.val, Opd.val, POp.dst, bin_int, binOK_int, bin_str, binOK_str, resOK, resV, RB.val, sub, putc, scB, scL, oneB, conf, Ex.val.eqP, Ex.val.eqL, negV, mxV, mnV, ← wr_eq, wr_zero, wr_one, wr_m1, bst_lst, byteC, partsOK, putAll, appV, nilV, slV, sslV, optB, optNum, and_assoc, exists_and_left, exists_eq_left']
  repeat' (first | intro _ | (simp [sxa, isPtrN, PV.pcs, elAt, setEl, inAt, elIn, setIn, isLst, cellsOf, Ex.ok, Ex.val, Opd.val, POp.dst, bin_int, binOK_int, bin_str, binOK_str, resOK, resV, RB.val, sub, putc, scB, scL, oneB, conf, Ex.val.eqP, Ex.val.eqL, negV, mxV, mnV, ← wr_eq, wr_zero, wr_one, wr_m1, bst_lst, byteC, partsOK, putAll, appV, nilV, slV, sslV, optB, optNum, and_assoc, exists_and_left, exists_eq_left', *]) | refine ⟨by assumption, CopC_i (hc) (fun _ _ => by first | exact ⟨fun _ => rfl, (fun h => by cases h)⟩ | exact ⟨(fun h => by cases h), fun _ => ⟨_, rfl⟩⟩ | exact ⟨(fun h => by cases h), (fun h => by cases h)⟩) (fun x cs hx hcs => ?_)⟩ | refine CopC_i (hc) (fun _ _ => by first | exact ⟨fun _ => rfl, (fun h => by cases h)⟩ | exact ⟨(fun h => by cases h), fun _ => ⟨_, rfl⟩⟩ | exact ⟨(fun h => by cases h), (fun h => by cases h)⟩) (fun x cs hx hcs => ?_) | refine CondS_d (fun h => ?_) (fun h => ?_) | refine CondS_b (fun h => ?_) (fun h => ?_) | refine GrdS_d (fun h => ?_) (fun h => ?_) | refine GrdS_b (fun h => ?_) (fun h => ?_) | refine OkS_i (by omega) ?_ | fail)
/-! features -/
def goodF (x : Ft) : Prop := x.f3.size ≤ 9 ∧ x.f4.length ≤ 20
theorem goodF.ok {x : Ft} (h : goodF x) : x.okay := ⟨by have := h.1; omega, by have := h.2; omega⟩
theorem ftEx {a b c : Int} {s : ByteArray} {l : List Pt} {nl : Bool} (hs : smS s) (hl : szP l) : ∃ x : Ft, [i a, i b, i c, .str s, .lst 2 nl (l.map cp)] = ft x ∧ goodF x := ⟨⟨a, b, c, s, l, nl⟩, rfl, hs, by have := hl.2; show l.length ≤ 20; omega⟩
theorem ftEx1 {a b c p q : Int} {s : ByteArray} (hs : smS s) : ∃ x : Ft, [i a, i b, i c, .str s, .lst 2 false [[i p, i q]]] = ft x ∧ goodF x := ⟨⟨a, b, c, s, [⟨p, q⟩], false⟩, rfl, hs, by simp⟩
theorem f130 (id : Int) : FnR Tryz.prog 130 true true [i id] (fun v => ∃ x : Ft, v = .agg (ft x) ∧ goodF x) := by
  refine FnR.by_sxC hX (by kernel_rfl) c130 rfl rfl rfl (fun h => by cases h) ?_
  intro cs hcs
  simp [i130, sxa, isPtrN, PV.pcs, elAt, setEl, inAt, elIn, setIn, isLst, cellsOf, Ex.ok, Ex.val, Opd.val, POp.dst, bin_int, binOK_int, bin_str, binOK_str, resOK, resV, RB.val, sub, putc, scB, scL, oneB, conf, Ex.val.eqP, Ex.val.eqL, negV, mxV, mnV, ← wr_eq, wr_zero, wr_one, wr_m1, bst_lst, byteC, partsOK, putAll, appV, nilV, slV, sslV, optB, optNum, and_assoc, exists_and_left, exists_eq_left']
  repeat' (first | intro _ | (simp [sxa, isPtrN, PV.pcs, elAt, setEl, inAt, elIn, setIn, isLst, cellsOf, Ex.ok, Ex.val, Opd.val, POp.dst, bin_int, binOK_int, bin_str, binOK_str, resOK, resV, RB.val, sub, putc, scB, scL, oneB, conf, Ex.val.eqP, Ex.val.eqL, negV, mxV, mnV, ← wr_eq, wr_zero, wr_one, wr_m1, bst_lst, byteC, partsOK, putAll, appV, nilV, slV, sslV, optB, optNum, and_assoc, exists_and_left, exists_eq_left', cp, *]) | refine ⟨by assumption, CopC_i (f90 3 (by omega)) (fun _ _ => by first | exact ⟨fun _ => rfl, (fun h => by cases h)⟩ | exact ⟨(fun h => by cases h), fun _ => ⟨_, rfl⟩⟩ | exact ⟨(fun h => by cases h), (fun h => by cases h)⟩) (fun x cs hx hcs => ?_)⟩ | refine ⟨by assumption, CopC_i (f90 6 (by omega)) (fun _ _ => by first | exact ⟨fun _ => rfl, (fun h => by cases h)⟩ | exact ⟨(fun h => by cases h), fun _ => ⟨_, rfl⟩⟩ | exact ⟨(fun h => by cases h), (fun h => by cases h)⟩) (fun x cs hx hcs => ?_)⟩ | refine ⟨by assumption, CopC_i (f159) (fun _ _ => by first | exact ⟨fun _ => rfl, (fun h => by cases h)⟩ | exact ⟨(fun h => by cases h), fun _ => ⟨_, rfl⟩⟩ | exact ⟨(fun h => by cases h), (fun h => by cases h)⟩) (fun x cs hx hcs => ?_)⟩ | refine ⟨by assumption, CopC_i (f68) (fun _ _ => by first | exact ⟨fun _ => rfl, (fun h => by cases h)⟩ | exact ⟨(fun h => by cases h), fun _ => ⟨_, rfl⟩⟩ | exact ⟨(fun h => by cases h), (fun h => by cases h)⟩) (fun x cs hx hcs => ?_)⟩ | refine ⟨by assumption, CopC_i (f150) (fun _ _ => by first | exact ⟨fun _ => rfl, (fun h => by cases h)⟩ | exact ⟨(fun h => by cases h), fun _ => ⟨_, rfl⟩⟩ | exact ⟨(fun h => by cases h), (fun h => by cases h)⟩) (fun x cs hx hcs => ?_)⟩ | refine ⟨by assumption, CopC_i (f160) (fun _ _ => by first | exact ⟨fun _ => rfl, (fun h => by cases h)⟩ | exact ⟨(fun h => by cases h), fun _ => ⟨_, rfl⟩⟩ | exact ⟨(fun h => by cases h), (fun h => by cases h)⟩) (fun x cs hx hcs => ?_)⟩ | refine CopC_i (f90 3 (by omega)) (fun _ _ => by first | exact ⟨fun _ => rfl, (fun h => by cases h)⟩ | exact ⟨(fun h => by cases h), fun _ => ⟨_, rfl⟩⟩ | exact ⟨(fun h => by cases h), (fun h => by cases h)⟩) (fun x cs hx hcs => ?_) | refine CopC_i (f90 6 (by omega)) (fun _ _ => by first | exact ⟨fun _ => rfl, (fun h => by cases h)⟩ | exact ⟨(fun h => by cases h), fun _ => ⟨_, rfl⟩⟩ | exact ⟨(fun h => by cases h), (fun h => by cases h)⟩) (fun x cs hx hcs => ?_) | refine CopC_i (f159) (fun _ _ => by first | exact ⟨fun _ => rfl, (fun h => by cases h)⟩ | exact ⟨(fun h => by cases h), fun _ => ⟨_, rfl⟩⟩ | exact ⟨(fun h => by cases h), (fun h => by cases h)⟩) (fun x cs hx hcs => ?_) | refine CopC_i (f68) (fun _ _ => by first | exact ⟨fun _ => rfl, (fun h => by cases h)⟩ | exact ⟨(fun h => by cases h), fun _ => ⟨_, rfl⟩⟩ | exact ⟨(fun h => by cases h), (fun h => by cases h)⟩) (fun x cs hx hcs => ?_) | refine CopC_i (f150) (fun _ _ => by first | exact ⟨fun _ => rfl, (fun h => by cases h)⟩ | exact ⟨(fun h => by cases h), fun _ => ⟨_, rfl⟩⟩ | exact ⟨(fun h => by cases h), (fun h => by cases h)⟩) (fun x cs hx hcs => ?_) | refine CopC_i (f160) (fun _ _ => by first | exact ⟨fun _ => rfl, (fun h => by cases h)⟩ | exact ⟨(fun h => by cases h), fun _ => ⟨_, rfl⟩⟩ | exact ⟨(fun h => by cases h), (fun h => by cases h)⟩) (fun x cs hx hcs => ?_) | refine CondS_d (fun h => ?_) (fun h => ?_) | refine CondS_b (fun h => ?_) (fun h => ?_) | refine GrdS_d (fun h => ?_) (fun h => ?_) | refine GrdS_b (fun h => ?_) (fun h => ?_) | refine OkS_i (by omega) ?_ | fail)
  all_goals first | exact ftEx1 (by assumption) | exact ftEx (by assumption) (by assumption)
end Go.Eng
namespace Go.Eng
open Go Go.Proofs Geo
set_option linter.unusedSimpArgs false
set_option linter.unusedVariables false
set_option maxRecDepth 20000
set_option maxHeartbeats 2000000

/-! draws of lists of features. WRITES -/
def goodL (l : List Ft) : Prop := l.length ≤ 16 ∧ ∀ x ∈ l, goodF x
theorem putL_good {l : List Ft} {e : Ft} (hl : ∀ x ∈ l, goodF x) (he : goodF e) : (putL l e).length ≤ l.length + 1 ∧ ∀ x ∈ putL l e, goodF x := by
  unfold putL
  split
  · exact ⟨pfS_len l e, pfS_ok (p := goodF) (fun x hx => hl x hx) he⟩
  · refine ⟨by simp, fun x hx => ?_⟩
    obtain ⟨y, hy, rfl⟩ := List.mem_map.1 hx
    exact hl y hy
theorem f89 : FnR Tryz.prog 89 true true [] (fun v => ∃ l : List Ft, v = .lst 5 false (l.map ft) ∧ goodL l) := by
  refine FnR.by_sxC hX (by kernel_rfl) c89 rfl rfl rfl (fun h => by cases h) ?_
  intro cs hcs
  simp [i89, sxa, isPtrN, PV.pcs, elAt, setEl, inAt, elIn, setIn, isLst, cellsOf, Ex.ok, Ex.val, Opd.val, POp.dst, bin_int, binOK_int, bin_str, binOK_str, resOK, resV, RB.val, sub, putc, scB, scL, oneB, conf, Ex.val.eqP, Ex.val.eqL, negV, mxV, mnV, ← wr_eq, wr_zero, wr_one, wr_m1, bst_lst, byteC, partsOK, putAll, appV, nilV, slV, sslV, optB, optNum, and_assoc, exists_and_left, exists_eq_left']
  refine sx_count 7 (fun n V => isCur (V 0) = true ∧ 1 ≤ n ∧ V 4 = i n ∧ ∃ l : List Ft, V 3 = .lst 5 false (l.map ft) ∧ l.length ≤ n - 1 ∧ ∀ x ∈ l, goodF x) 1 (by omega) ⟨by simp [sxa, isPtrN, PV.pcs, elAt, setEl, inAt, elIn, setIn, isLst, cellsOf, Ex.ok, Ex.val, Opd.val, POp.dst, bin_int, binOK_int, bin_str, binOK_str, resOK, resV, RB.val, sub, putc, scB, scL, oneB, conf, Ex.val.eqP, Ex.val.eqL, negV, mxV, mnV, ← wr_eq, wr_zero, wr_one, wr_m1, bst_lst, byteC, partsOK, putAll, appV, nilV, slV, sslV, optB, optNum, and_assoc, exists_and_left, exists_eq_left', hcs], by omega, by simp [sxa, isPtrN, PV.pcs, elAt, setEl, inAt, elIn, setIn, isLst, cellsOf, Ex.ok, Ex.val, Opd.val, POp.dst, bin_int, binOK_int, bin_str, binOK_str, resOK, resV, RB.val, sub, putc, scB, scL, oneB, conf, Ex.val.eqP, Ex.val.eqL, negV, mxV, mnV, ← wr_eq, wr_zero, wr_one, wr_m1, bst_lst, byteC, partsOK, putAll, appV, nilV, slV, sslV, optB, optNum, and_assoc, exists_and_left, exists_eq_left'], [], by simp [sxa, isPtrN, PV.pcs, elAt, setEl, inAt, elIn, setIn, isLst, cellsOf, Ex.ok, Ex.val, Opd.val, POp.dst, bin_int, binOK_int, bin_str, binOK_str, resOK, resV, RB.val, sub, putc, scB, scL, oneB, conf, Ex.val.eqP, Ex.val.eqL, negV, mxV, mnV, ← wr_eq, wr_zero, wr_one, wr_m1, bst_lst, byteC, partsOK, putAll, appV, nilV, slV, sslV, optB, optNum, and_assoc, exists_and_left, exists_eq_left'], by simp, by simp⟩ ?_
  clear hcs
  rintro n V hn ⟨gc, hn1, g4, l, g3, hl, hg⟩
  repeat' (first | intro _ | (simp [sxa, isPtrN, PV.pcs, elAt, setEl, inAt, elIn, setIn, isLst, cellsOf, Ex.ok, Ex.val, Opd.val, POp.dst, bin_int, binOK_int, bin_str, binOK_str, resOK, resV, RB.val, sub, putc, scB, scL, oneB, conf, Ex.val.eqP, Ex.val.eqL, negV, mxV, mnV, ← wr_eq, wr_zero, wr_one, wr_m1, bst_lst, byteC, partsOK, putAll, appV, nilV, slV, sslV, optB, optNum, and_assoc, exists_and_left, exists_eq_left', *]) | refine ⟨by assumption, CopC_i (f90 6 (by omega)) (fun _ _ => by first | exact ⟨fun _ => rfl, (fun h => by cases h)⟩ | exact ⟨(fun h => by cases h), fun _ => ⟨_, rfl⟩⟩ | exact ⟨(fun h => by cases h), (fun h => by cases h)⟩) (fun x cs hx hcs => ?_)⟩ | refine CopC_i (f90 6 (by omega)) (fun _ _ => by first | exact ⟨fun _ => rfl, (fun h => by cases h)⟩ | exact ⟨(fun h => by cases h), fun _ => ⟨_, rfl⟩⟩ | exact ⟨(fun h => by cases h), (fun h => by cases h)⟩) (fun x cs hx hcs => ?_) | refine CondS_d (fun h => ?_) (fun h => ?_) | refine CondS_b (fun h => ?_) (fun h => ?_) | refine GrdS_d (fun h => ?_) (fun h => ?_) | refine GrdS_b (fun h => ?_) (fun h => ?_) | refine OkS_i (by omega) ?_ | fail)
  · have hx5 := hx.2 (by omega)
    have hx0 := hx.1
    have hw : wr .i64 (1 + x) = 1 + x := wr_in (by omega) (by omega)
    rw [hw] at h
    refine CopC_i (f130 n) (fun _ _ => ⟨(fun h => by cases h), (fun h => by cases h)⟩) (fun e cs2 he hcs2 => ?_)
    have hp := f129 l e false (by omega) (fun x hx => (hg x hx).ok) he.ok (fun x hx => by have := (hg x hx).2; omega) (by have := he.2; omega)
    obtain ⟨q1, q2⟩ := putL_good hg he
    obtain ⟨L2, hL2⟩ : ∃ L, putL l e = L := ⟨_, rfl⟩
    obtain ⟨bb, hbb⟩ : ∃ b, wSrc (pfS l e) = b := ⟨_, rfl⟩
    rw [hL2, hbb] at hp
    rw [hL2] at q1 q2
    have hw2 : wr .i64 ((n : Int) + 1) = ((n + 1 : Nat) : Int) := by rw [wr_in (by omega) (by omega)]; omega
    clear hL2 hbb hg hcs gc
    repeat' (first | intro _ | (simp [sxa, isPtrN, PV.pcs, elAt, setEl, inAt, elIn, setIn, isLst, cellsOf, Ex.ok, Ex.val, Opd.val, POp.dst, bin_int, binOK_int, bin_str, binOK_str, resOK, resV, RB.val, sub, putc, scB, scL, oneB, conf, Ex.val.eqP, Ex.val.eqL, negV, mxV, mnV, ← wr_eq, wr_zero, wr_one, wr_m1, bst_lst, byteC, partsOK, putAll, appV, nilV, slV, sslV, optB, optNum, and_assoc, exists_and_left, exists_eq_left', *]) | refine CallS_i (hp) ?_ | refine CallM_i (hp) ?_ | refine CallE_i (hp) ?_ | refine CallX_i (hp) ?_ | refine CallB_i (hp) ?_ | refine CondS_d (fun h => ?_) (fun h => ?_) | refine CondS_b (fun h => ?_) (fun h => ?_) | refine GrdS_d (fun h => ?_) (fun h => ?_) | refine GrdS_b (fun h => ?_) (fun h => ?_) | refine OkS_i (by omega) ?_ | fail)
    exact ⟨by omega, L2, rfl, by omega, q2⟩
  · exact ⟨l, rfl, by omega, hg⟩
def szQ (l : List Pt) : Prop := 0 < l.length ∧ l.length ≤ 20
theorem f116 : FnR Tryz.prog 116 true true [] (fun v => ∃ l : List Pt, v = .lst 2 false (l.map cp) ∧ szQ l) := by
  refine FnR.by_sxC hX (by kernel_rfl) c116 rfl rfl rfl (fun h => by cases h) ?_
  intro cs hcs
  simp [i116, sxa, isPtrN, PV.pcs, elAt, setEl, inAt, elIn, setIn, isLst, cellsOf, Ex.ok, Ex.val, Opd.val, POp.dst, bin_int, binOK_int, bin_str, binOK_str, resOK, resV, RB.val, sub, putc, scB, scL, oneB, conf, Ex.val.eqP, Ex.val.eqL, negV, mxV, mnV, ← wr_eq, wr_zero, wr_one, wr_m1, bst_lst, byteC, partsOK, putAll, appV, nilV, slV, sslV, optB, optNum, and_assoc, exists_and_left, exists_eq_left']
  repeat' (first | intro _ | (simp [sxa, isPtrN, PV.pcs, elAt, setEl, inAt, elIn, setIn, isLst, cellsOf, Ex.ok, Ex.val, Opd.val, POp.dst, bin_int, binOK_int, bin_str, binOK_str, resOK, resV, RB.val, sub, putc, scB, scL, oneB, conf, Ex.val.eqP, Ex.val.eqL, negV, mxV, mnV, ← wr_eq, wr_zero, wr_one, wr_m1, bst_lst, byteC, partsOK, putAll, appV, nilV, slV, sslV, optB, optNum, and_assoc, exists_and_left, exists_eq_left', *]) | refine ⟨by assumption, CopC_i (f150) (fun _ _ => by first | exact ⟨fun _ => rfl, (fun h => by cases h)⟩ | exact ⟨(fun h => by cases h), fun _ => ⟨_, rfl⟩⟩ | exact ⟨(fun h => by cases h), (fun h => by cases h)⟩) (fun x cs hx hcs => ?_)⟩ | refine CopC_i (f150) (fun _ _ => by first | exact ⟨fun _ => rfl, (fun h => by cases h)⟩ | exact ⟨(fun h => by cases h), fun _ => ⟨_, rfl⟩⟩ | exact ⟨(fun h => by cases h), (fun h => by cases h)⟩) (fun x cs hx hcs => ?_) | refine CondS_d (fun h => ?_) (fun h => ?_) | refine CondS_b (fun h => ?_) (fun h => ?_) | refine GrdS_d (fun h => ?_) (fun h => ?_) | refine GrdS_b (fun h => ?_) (fun h => ?_) | refine OkS_i (by omega) ?_ | fail)
  obtain ⟨l, hl⟩ : ∃ l, l = x := ⟨_, rfl⟩
  subst hl
  obtain ⟨hl0, hl6⟩ := hx
  have hw2 : wr .i64 ((l.length : Int) - 1) = ((l.length - 1 : Nat) : Int) := by rw [wr_in (by omega) (by omega)]; omega
  have hlast : l.length - 1 < l.length := by omega
  have hl1 : (1 : Int) ≤ l.length := by omega
  repeat' (first | intro _ | (simp [sxa, isPtrN, PV.pcs, elAt, setEl, inAt, elIn, setIn, isLst, cellsOf, Ex.ok, Ex.val, Opd.val, POp.dst, bin_int, binOK_int, bin_str, binOK_str, resOK, resV, RB.val, sub, putc, scB, scL, oneB, conf, Ex.val.eqP, Ex.val.eqL, negV, mxV, mnV, ← wr_eq, wr_zero, wr_one, wr_m1, bst_lst, byteC, partsOK, putAll, appV, nilV, slV, sslV, optB, optNum, and_assoc, exists_and_left, exists_eq_left', cp, *]) | refine ⟨by assumption, CopC_i (f90 12 (by omega)) (fun _ _ => by first | exact ⟨fun _ => rfl, (fun h => by cases h)⟩ | exact ⟨(fun h => by cases h), fun _ => ⟨_, rfl⟩⟩ | exact ⟨(fun h => by cases h), (fun h => by cases h)⟩) (fun x cs hx hcs => ?_)⟩ | refine ⟨by assumption, CopC_i (f92) (fun _ _ => by first | exact ⟨fun _ => rfl, (fun h => by cases h)⟩ | exact ⟨(fun h => by cases h), fun _ => ⟨_, rfl⟩⟩ | exact ⟨(fun h => by cases h), (fun h => by cases h)⟩) (fun x cs hx hcs => ?_)⟩ | refine CopC_i (f90 12 (by omega)) (fun _ _ => by first | exact ⟨fun _ => rfl, (fun h => by cases h)⟩ | exact ⟨(fun h => by cases h), fun _ => ⟨_, rfl⟩⟩ | exact ⟨(fun h => by cases h), (fun h => by cases h)⟩) (fun x cs hx hcs => ?_) | refine CopC_i (f92) (fun _ _ => by first | exact ⟨fun _ => rfl, (fun h => by cases h)⟩ | exact ⟨(fun h => by cases h), fun _ => ⟨_, rfl⟩⟩ | exact ⟨(fun h => by cases h), (fun h => by cases h)⟩) (fun x cs hx hcs => ?_) | refine CondS_d (fun h => ?_) (fun h => ?_) | refine CondS_b (fun h => ?_) (fun h => ?_) | refine GrdS_d (fun h => ?_) (fun h => ?_) | refine GrdS_b (fun h => ?_) (fun h => ?_) | refine OkS_i (by omega) ?_ | fail)
  · exact ⟨l.set 0 x, by rw [List.map_set]; rfl, by simp [szQ]; omega⟩
  · exact ⟨_, mapApp, by simp [szQ]; omega⟩
  · exact ⟨l.take 1, by rw [List.map_take], by simp [szQ]; omega⟩
  · refine sx_count 11 (fun n V => isCur (V 0) = true ∧ ∃ m : List Pt, m.length = n ∧ 0 < n ∧ V 3 = .lst 2 false (m.map cp)) l.length (by omega) ⟨by simp [sxa, isPtrN, PV.pcs, elAt, setEl, inAt, elIn, setIn, isLst, cellsOf, Ex.ok, Ex.val, Opd.val, POp.dst, bin_int, binOK_int, bin_str, binOK_str, resOK, resV, RB.val, sub, putc, scB, scL, oneB, conf, Ex.val.eqP, Ex.val.eqL, negV, mxV, mnV, ← wr_eq, wr_zero, wr_one, wr_m1, bst_lst, byteC, partsOK, putAll, appV, nilV, slV, sslV, optB, optNum, and_assoc, exists_and_left, exists_eq_left', hcs], l, rfl, hl0, by simp [sxa, isPtrN, PV.pcs, elAt, setEl, inAt, elIn, setIn, isLst, cellsOf, Ex.ok, Ex.val, Opd.val, POp.dst, bin_int, binOK_int, bin_str, binOK_str, resOK, resV, RB.val, sub, putc, scB, scL, oneB, conf, Ex.val.eqP, Ex.val.eqL, negV, mxV, mnV, ← wr_eq, wr_zero, wr_one, wr_m1, bst_lst, byteC, partsOK, putAll, appV, nilV, slV, sslV, optB, optNum, and_assoc, exists_and_left, exists_eq_left']⟩ ?_
    clear hcs hw2 hlast hl1
    rintro n V hn ⟨gc, m, hm, hn0, g3⟩
    subst hm
    have hw3 : wr .i64 (50 + (m.length : Int)) = 50 + m.length := wr_in (by omega) (by omega)
    repeat' (first | intro _ | (simp [sxa, isPtrN, PV.pcs, elAt, setEl, inAt, elIn, setIn, isLst, cellsOf, Ex.ok, Ex.val, Opd.val, POp.dst, bin_int, binOK_int, bin_str, binOK_str, resOK, resV, RB.val, sub, putc, scB, scL, oneB, conf, Ex.val.eqP, Ex.val.eqL, negV, mxV, mnV, ← wr_eq, wr_zero, wr_one, wr_m1, bst_lst, byteC, partsOK, putAll, appV, nilV, slV, sslV, optB, optNum, and_assoc, exists_and_left, exists_eq_left', *]) | refine CondS_d (fun h => ?_) (fun h => ?_) | refine CondS_b (fun h => ?_) (fun h => ?_) | refine GrdS_d (fun h => ?_) (fun h => ?_) | refine GrdS_b (fun h => ?_) (fun h => ?_) | refine OkS_i (by omega) ?_ | fail)
    · first | exact ⟨by omega, _, by simp, by omega, mapApp⟩ | exact ⟨by omega, _, by simp, mapApp⟩
    · first | exact ⟨m, rfl, hn0, by omega⟩ | exact ⟨m, rfl, by unfold szQ; omega⟩
  · exact ⟨l, rfl, by unfold szQ; omega⟩
theorem getL {l : List Ft} {k : Nat} (h : k < l.length) : (l.map ft)[k]? = some (ft l[k]) := by simp [h]
theorem goodL_set {l : List Ft} (hg : goodL l) {k : Nat} {x : Ft} (hx : goodF x) : goodL (l.set k x) :=
  ⟨by rw [List.length_set]; exact hg.1, fun y hy => by
    rcases List.mem_or_eq_of_mem_set hy with h | rfl
    · exact hg.2 y h
    · exact hx⟩
theorem setEx {l : List Ft} {k : Nat} {a b c : Int} {s : ByteArray} {m : List Pt} {nl : Bool} (hg : goodL l) (hs : s.size ≤ 9) (hm : m.length ≤ 20) : ∃ l' : List Ft, (l.map ft).set k [i a, i b, i c, .str s, .lst 2 nl (m.map cp)] = l'.map ft ∧ goodL l' :=
  ⟨l.set k ⟨a, b, c, s, m, nl⟩, by rw [List.map_set]; rfl, goodL_set hg ⟨hs, hm⟩⟩
theorem f86 : FnR Tryz.prog 86 true true [] (fun v => ∃ l : List Ft, v = .lst 5 false (l.map ft) ∧ goodL l) := by
  refine FnR.by_sxC hX (by kernel_rfl) c86 rfl rfl rfl (fun h => by cases h) ?_
  intro cs hcs
  simp [i86, sxa, isPtrN, PV.pcs, elAt, setEl, inAt, elIn, setIn, isLst, cellsOf, Ex.ok, Ex.val, Opd.val, POp.dst, bin_int, binOK_int, bin_str, binOK_str, resOK, resV, RB.val, sub, putc, scB, scL, oneB, conf, Ex.val.eqP, Ex.val.eqL, negV, mxV, mnV, ← wr_eq, wr_zero, wr_one, wr_m1, bst_lst, byteC, partsOK, putAll, appV, nilV, slV, sslV, optB, optNum, and_assoc, exists_and_left, exists_eq_left']
  repeat' (first | intro _ | (simp [sxa, isPtrN, PV.pcs, elAt, setEl, inAt, elIn, setIn, isLst, cellsOf, Ex.ok, Ex.val, Opd.val, POp.dst, bin_int, binOK_int, bin_str, binOK_str, resOK, resV, RB.val, sub, putc, scB, scL, oneB, conf, Ex.val.eqP, Ex.val.eqL, negV, mxV, mnV, ← wr_eq, wr_zero, wr_one, wr_m1, bst_lst, byteC, partsOK, putAll, appV, nilV, slV, sslV, optB, optNum, and_assoc, exists_and_left, exists_eq_left', *]) | refine ⟨by assumption, CopC_i (f89) (fun _ _ => by first | exact ⟨fun _ => rfl, (fun h => by cases h)⟩ | exact ⟨(fun h => by cases h), fun _ => ⟨_, rfl⟩⟩ | exact ⟨(fun h => by cases h), (fun h => by cases h)⟩) (fun x cs hx hcs => ?_)⟩ | refine CopC_i (f89) (fun _ _ => by first | exact ⟨fun _ => rfl, (fun h => by cases h)⟩ | exact ⟨(fun h => by cases h), fun _ => ⟨_, rfl⟩⟩ | exact ⟨(fun h => by cases h), (fun h => by cases h)⟩) (fun x cs hx hcs => ?_) | refine CondS_d (fun h => ?_) (fun h => ?_) | refine CondS_b (fun h => ?_) (fun h => ?_) | refine GrdS_d (fun h => ?_) (fun h => ?_) | refine GrdS_b (fun h => ?_) (fun h => ?_) | refine OkS_i (by omega) ?_ | fail)
  · exact ⟨by simp, by simp⟩
  obtain ⟨l, hl⟩ : ∃ l, l = x := ⟨_, rfl⟩
  subst hl
  have hgl := hx
  have hpos : 0 < l.length := List.length_pos_iff.2 (by assumption)
  have hl16 := hx.1
  refine CopC_i (f90 (l.length : Int) (by omega)) (fun _ _ => ⟨fun _ => rfl, (fun h => by cases h)⟩) (fun z cs3 hz hcs3 => ?_)
  have hz1 := hz.2 (by omega)
  have hz0 := hz.1
  obtain ⟨k, rfl⟩ : ∃ k : Nat, z = k := ⟨z.toNat, by omega⟩
  have hk : k < l.length := by omega
  have hkI : (k : Int) < l.length := hz1
  have hk0 : (0 : Int) ≤ k := hz0
  have hc0 : FnR Tryz.prog 94 true false [.lst 1 false [[i 0], [i 1], [i 99], [i 100]]] (fun v => ∃ x : Int, v = i x ∧ rawP x) := (f94 [0, 1, 99, 100] false (by decide) (by decide)).weak (fun v ⟨x, h, _⟩ => ⟨x, h, trivial⟩)
  have hc1 : FnR Tryz.prog 94 true false [.lst 1 false [[i (-1)], [i 9], [i 10]]] (fun v => ∃ x : Int, v = i x ∧ rawP x) := (f94 [-1, 9, 10] false (by decide) (by decide)).weak (fun v ⟨x, h, _⟩ => ⟨x, h, trivial⟩)
  have hc3 : FnR Tryz.prog 94 true false [.lst 1 false [[i 0], [i 1], [i 2], [i 3], [i 4]]] (fun v => ∃ x : Int, v = i x ∧ rawP x) := (f94 [0, 1, 2, 3, 4] false (by decide) (by decide)).weak (fun v ⟨x, h, _⟩ => ⟨x, h, trivial⟩)
  have hc2 : FnR Tryz.prog 60 true false [.lst 1 false [[.str (bs [65])], [.str (bs [116, 111, 111, 108, 111, 110, 103, 97, 97])], [.str (bs [97, 32, 98])]]] (fun v => ∃ x : ByteArray, v = .str x ∧ smS x) :=
    (f60 [bs [65], bs [116, 111, 111, 108, 111, 110, 103, 97, 97], bs [97, 32, 98]] false (by decide) (by decide)).weak (fun v ⟨x, h, hh⟩ => ⟨x, h, by
      simp only [List.mem_cons, List.not_mem_nil, or_false] at hh
      rcases hh with rfl | rfl | rfl <;> (unfold smS; decide)⟩)
  have hgk := hx.2 _ (List.getElem_mem hk)
  have hat : (l.map ft)[k]? = some [i l[k].f0, i l[k].f1, i l[k].f2, .str l[k].f3, .lst 2 l[k].nl (l[k].f4.map cp)] := getL hk
  repeat' (first | intro _ | (simp [sxa, isPtrN, PV.pcs, elAt, setEl, inAt, elIn, setIn, isLst, cellsOf, Ex.ok, Ex.val, Opd.val, POp.dst, bin_int, binOK_int, bin_str, binOK_str, resOK, resV, RB.val, sub, putc, scB, scL, oneB, conf, Ex.val.eqP, Ex.val.eqL, negV, mxV, mnV, ← wr_eq, wr_zero, wr_one, wr_m1, bst_lst, byteC, partsOK, putAll, appV, nilV, slV, sslV, optB, optNum, and_assoc, exists_and_left, exists_eq_left', ft, *]) | refine ⟨by assumption, CopC_i (f90 10 (by omega)) (fun _ _ => by first | exact ⟨fun _ => rfl, (fun h => by cases h)⟩ | exact ⟨(fun h => by cases h), fun _ => ⟨_, rfl⟩⟩ | exact ⟨(fun h => by cases h), (fun h => by cases h)⟩) (fun x cs hx hcs => ?_)⟩ | refine ⟨by assumption, CopC_i (hc0) (fun _ _ => by first | exact ⟨fun _ => rfl, (fun h => by cases h)⟩ | exact ⟨(fun h => by cases h), fun _ => ⟨_, rfl⟩⟩ | exact ⟨(fun h => by cases h), (fun h => by cases h)⟩) (fun x cs hx hcs => ?_)⟩ | refine ⟨by assumption, CopC_i (hc1) (fun _ _ => by first | exact ⟨fun _ => rfl, (fun h => by cases h)⟩ | exact ⟨(fun h => by cases h), fun _ => ⟨_, rfl⟩⟩ | exact ⟨(fun h => by cases h), (fun h => by cases h)⟩) (fun x cs hx hcs => ?_)⟩ | refine ⟨by assumption, CopC_i (hc2) (fun _ _ => by first | exact ⟨fun _ => rfl, (fun h => by cases h)⟩ | exact ⟨(fun h => by cases h), fun _ => ⟨_, rfl⟩⟩ | exact ⟨(fun h => by cases h), (fun h => by cases h)⟩) (fun x cs hx hcs => ?_)⟩ | refine ⟨by assumption, CopC_i (hc3) (fun _ _ => by first | exact ⟨fun _ => rfl, (fun h => by cases h)⟩ | exact ⟨(fun h => by cases h), fun _ => ⟨_, rfl⟩⟩ | exact ⟨(fun h => by cases h), (fun h => by cases h)⟩) (fun x cs hx hcs => ?_)⟩ | refine ⟨by assumption, CopC_i (f116) (fun _ _ => by first | exact ⟨fun _ => rfl, (fun h => by cases h)⟩ | exact ⟨(fun h => by cases h), fun _ => ⟨_, rfl⟩⟩ | exact ⟨(fun h => by cases h), (fun h => by cases h)⟩) (fun x cs hx hcs => ?_)⟩ | refine CopC_i (f90 10 (by omega)) (fun _ _ => by first | exact ⟨fun _ => rfl, (fun h => by cases h)⟩ | exact ⟨(fun h => by cases h), fun _ => ⟨_, rfl⟩⟩ | exact ⟨(fun h => by cases h), (fun h => by cases h)⟩) (fun x cs hx hcs => ?_) | refine CopC_i (hc0) (fun _ _ => by first | exact ⟨fun _ => rfl, (fun h => by cases h)⟩ | exact ⟨(fun h => by cases h), fun _ => ⟨_, rfl⟩⟩ | exact ⟨(fun h => by cases h), (fun h => by cases h)⟩) (fun x cs hx hcs => ?_) | refine CopC_i (hc1) (fun _ _ => by first | exact ⟨fun _ => rfl, (fun h => by cases h)⟩ | exact ⟨(fun h => by cases h), fun _ => ⟨_, rfl⟩⟩ | exact ⟨(fun h => by cases h), (fun h => by cases h)⟩) (fun x cs hx hcs => ?_) | refine CopC_i (hc2) (fun _ _ => by first | exact ⟨fun _ => rfl, (fun h => by cases h)⟩ | exact ⟨(fun h => by cases h), fun _ => ⟨_, rfl⟩⟩ | exact ⟨(fun h => by cases h), (fun h => by cases h)⟩) (fun x cs hx hcs => ?_) | refine CopC_i (hc3) (fun _ _ => by first | exact ⟨fun _ => rfl, (fun h => by cases h)⟩ | exact ⟨(fun h => by cases h), fun _ => ⟨_, rfl⟩⟩ | exact ⟨(fun h => by cases h), (fun h => by cases h)⟩) (fun x cs hx hcs => ?_) | refine CopC_i (f116) (fun _ _ => by first | exact ⟨fun _ => rfl, (fun h => by cases h)⟩ | exact ⟨(fun h => by cases h), fun _ => ⟨_, rfl⟩⟩ | exact ⟨(fun h => by cases h), (fun h => by cases h)⟩) (fun x cs hx hcs => ?_) | refine CondS_d (fun h => ?_) (fun h => ?_) | refine CondS_b (fun h => ?_) (fun h => ?_) | refine GrdS_d (fun h => ?_) (fun h => ?_) | refine GrdS_b (fun h => ?_) (fun h => ?_) | refine OkS_i (by omega) ?_ | fail)
  · exact setEx hgl hgk.1 hgk.2
  · exact setEx hgl hgk.1 hgk.2
  · exact setEx hgl hx hgk.2
  · exact setEx hgl hgk.1 hgk.2
  · exact setEx hgl hgk.1 hx.2
  · exact ⟨l, rfl, hgl⟩
theorem goodZ : ∃ x : Ft, [i 0, i 0, i 0, .str (bs []), .lst 2 true []] = ft x ∧ goodF x := ⟨⟨0, 0, 0, bs [], [], true⟩, rfl, by decide, by decide⟩
theorem f95 : FnR Tryz.prog 95 true true [] (fun v => ∃ x : Ft, v = .agg (ft x) ∧ goodF x) := by
  refine FnR.by_sxC hX (by kernel_rfl) c95 rfl rfl rfl (fun h => by cases h) ?_
  intro cs hcs
  simp [i95, sxa, isPtrN, PV.pcs, elAt, setEl, inAt, elIn, setIn, isLst, cellsOf, Ex.ok, Ex.val, Opd.val, POp.dst, bin_int, binOK_int, bin_str, binOK_str, resOK, resV, RB.val, sub, putc, scB, scL, oneB, conf, Ex.val.eqP, Ex.val.eqL, negV, mxV, mnV, ← wr_eq, wr_zero, wr_one, wr_m1, bst_lst, byteC, partsOK, putAll, appV, nilV, slV, sslV, optB, optNum, and_assoc, exists_and_left, exists_eq_left']
  repeat' (first | intro _ | (simp [sxa, isPtrN, PV.pcs, elAt, setEl, inAt, elIn, setIn, isLst, cellsOf, Ex.ok, Ex.val, Opd.val, POp.dst, bin_int, binOK_int, bin_str, binOK_str, resOK, resV, RB.val, sub, putc, scB, scL, oneB, conf, Ex.val.eqP, Ex.val.eqL, negV, mxV, mnV, ← wr_eq, wr_zero, wr_one, wr_m1, bst_lst, byteC, partsOK, putAll, appV, nilV, slV, sslV, optB, optNum, and_assoc, exists_and_left, exists_eq_left', *]) | refine ⟨by assumption, CopC_i (f86) (fun _ _ => by first | exact ⟨fun _ => rfl, (fun h => by cases h)⟩ | exact ⟨(fun h => by cases h), fun _ => ⟨_, rfl⟩⟩ | exact ⟨(fun h => by cases h), (fun h => by cases h)⟩) (fun x cs hx hcs => ?_)⟩ | refine CopC_i (f86) (fun _ _ => by first | exact ⟨fun _ => rfl, (fun h => by cases h)⟩ | exact ⟨(fun h => by cases h), fun _ => ⟨_, rfl⟩⟩ | exact ⟨(fun h => by cases h), (fun h => by cases h)⟩) (fun x cs hx hcs => ?_) | refine CondS_d (fun h => ?_) (fun h => ?_) | refine CondS_b (fun h => ?_) (fun h => ?_) | refine GrdS_d (fun h => ?_) (fun h => ?_) | refine GrdS_b (fun h => ?_) (fun h => ?_) | refine OkS_i (by omega) ?_ | fail)
  · exact goodZ
  · obtain ⟨l, hl⟩ : ∃ l, l = x := ⟨_, rfl⟩
    subst hl
    have hpos : 0 < l.length := List.length_pos_iff.2 (by assumption)
    have hg0 := hx.2 _ (List.getElem_mem hpos)
    repeat' (first | intro _ | (simp [sxa, isPtrN, PV.pcs, elAt, setEl, inAt, elIn, setIn, isLst, cellsOf, Ex.ok, Ex.val, Opd.val, POp.dst, bin_int, binOK_int, bin_str, binOK_str, resOK, resV, RB.val, sub, putc, scB, scL, oneB, conf, Ex.val.eqP, Ex.val.eqL, negV, mxV, mnV, ← wr_eq, wr_zero, wr_one, wr_m1, bst_lst, byteC, partsOK, putAll, appV, nilV, slV, sslV, optB, optNum, and_assoc, exists_and_left, exists_eq_left', ft, *]) | refine CondS_d (fun h => ?_) (fun h => ?_) | refine CondS_b (fun h => ?_) (fun h => ?_) | refine GrdS_d (fun h => ?_) (fun h => ?_) | refine GrdS_b (fun h => ?_) (fun h => ?_) | refine OkS_i (by omega) ?_ | fail)
    exact ⟨l[0], rfl, rfl, rfl, rfl, rfl, rfl, hg0⟩
theorem f69 (nl : Bool) (els : List (List PV)) (hce : curEls els = true) : FnR Tryz.prog 69 false true [.lst 1 nl els] (fun v => ∃ x : Ft, v = .agg (ft x) ∧ goodF x) := by
  refine FnR.by_sx hX (by kernel_rfl) c69 rfl (by rfl) ?_
  simp [i69, sxa, isPtrN, PV.pcs, elAt, setEl, inAt, elIn, setIn, isLst, cellsOf, Ex.ok, Ex.val, Opd.val, POp.dst, bin_int, binOK_int, bin_str, binOK_str, resOK, resV, RB.val, sub, putc, scB, scL, oneB, conf, Ex.val.eqP, Ex.val.eqL, negV, mxV, mnV, ← wr_eq, wr_zero, wr_one, wr_m1, bst_lst, byteC, partsOK, putAll, appV, nilV, slV, sslV, optB, optNum, and_assoc, exists_and_left, exists_eq_left']
  repeat' (first | intro _ | (simp [sxa, isPtrN, PV.pcs, elAt, setEl, inAt, elIn, setIn, isLst, cellsOf, Ex.ok, Ex.val, Opd.val, POp.dst, bin_int, binOK_int, bin_str, binOK_str, resOK, resV, RB.val, sub, putc, scB, scL, oneB, conf, Ex.val.eqP, Ex.val.eqL, negV, mxV, mnV, ← wr_eq, wr_zero, wr_one, wr_m1, bst_lst, byteC, partsOK, putAll, appV, nilV, slV, sslV, optB, optNum, and_assoc, exists_and_left, exists_eq_left', ft, *]) | refine ⟨by assumption, CopC_i (f95) (fun _ _ => by first | exact ⟨fun _ => rfl, (fun h => by cases h)⟩ | exact ⟨(fun h => by cases h), fun _ => ⟨_, rfl⟩⟩ | exact ⟨(fun h => by cases h), (fun h => by cases h)⟩) (fun x cs hx hcs => ?_)⟩ | refine CopN_i (f58 nl els hce) (fun cs hcs => ?_) | refine CopC_i (f95) (fun _ _ => by first | exact ⟨fun _ => rfl, (fun h => by cases h)⟩ | exact ⟨(fun h => by cases h), fun _ => ⟨_, rfl⟩⟩ | exact ⟨(fun h => by cases h), (fun h => by cases h)⟩) (fun x cs hx hcs => ?_) | refine CondS_d (fun h => ?_) (fun h => ?_) | refine CondS_b (fun h => ?_) (fun h => ?_) | refine GrdS_d (fun h => ?_) (fun h => ?_) | refine GrdS_b (fun h => ?_) (fun h => ?_) | refine OkS_i (by omega) ?_ | fail)
  all_goals exact ⟨x, rfl, rfl, rfl, rfl, rfl, rfl, hx⟩
theorem f34 (nl : Bool) (els : List (List PV)) (hce : curEls els = true) : FnR Tryz.prog 34 false true [.lst 1 nl els] (fun v => ∃ x : Ft, v = .agg (ft x) ∧ goodF x) := by
  refine FnR.by_sx hX (by kernel_rfl) c34 rfl (by rfl) ?_
  simp [i34, sxa, isPtrN, PV.pcs, elAt, setEl, inAt, elIn, setIn, isLst, cellsOf, Ex.ok, Ex.val, Opd.val, POp.dst, bin_int, binOK_int, bin_str, binOK_str, resOK, resV, RB.val, sub, putc, scB, scL, oneB, conf, Ex.val.eqP, Ex.val.eqL, negV, mxV, mnV, ← wr_eq, wr_zero, wr_one, wr_m1, bst_lst, byteC, partsOK, putAll, appV, nilV, slV, sslV, optB, optNum, and_assoc, exists_and_left, exists_eq_left']
  repeat' (first | intro _ | (simp [sxa, isPtrN, PV.pcs, elAt, setEl, inAt, elIn, setIn, isLst, cellsOf, Ex.ok, Ex.val, Opd.val, POp.dst, bin_int, binOK_int, bin_str, binOK_str, resOK, resV, RB.val, sub, putc, scB, scL, oneB, conf, Ex.val.eqP, Ex.val.eqL, negV, mxV, mnV, ← wr_eq, wr_zero, wr_one, wr_m1, bst_lst, byteC, partsOK, putAll, appV, nilV, slV, sslV, optB, optNum, and_assoc, exists_and_left, exists_eq_left', ft, *]) | refine CopD_i (f69 nl els hce) (fun _ _ => by first | exact ⟨fun _ => rfl, (fun h => by cases h)⟩ | exact ⟨(fun h => by cases h), fun _ => ⟨_, rfl⟩⟩ | exact ⟨(fun h => by cases h), (fun h => by cases h)⟩) (fun x hx => ?_) | refine CondS_d (fun h => ?_) (fun h => ?_) | refine CondS_b (fun h => ?_) (fun h => ?_) | refine GrdS_d (fun h => ?_) (fun h => ?_) | refine GrdS_b (fun h => ?_) (fun h => ?_) | refine OkS_i (by omega) ?_ | fail)
  all_goals exact ⟨x, rfl, rfl, rfl, rfl, rfl, rfl, hx⟩
theorem f62 (nl : Bool) (els : List (List PV)) (hce : curEls els = true) : FnR Tryz.prog 62 false false [.lst 1 nl els] (fun v => ∃ p : Pt, v = .agg (cp p) ∧ anyP p) := by
  have hc0 : FnR Tryz.prog 94 true false [.lst 1 false [[i 0], [i 9], [i 10], [i 199], [i 200]]] (fun v => ∃ x : Int, v = i x ∧ rawP x) := (f94 [0, 9, 10, 199, 200] false (by decide) (by decide)).weak (fun v ⟨x, h, _⟩ => ⟨x, h, trivial⟩)
  have hc1 : FnR Tryz.prog 94 true false [.lst 1 false [[i 0], [i 9], [i 10], [i 19], [i 20], [i 200]]] (fun v => ∃ x : Int, v = i x ∧ rawP x) := (f94 [0, 9, 10, 19, 20, 200] false (by decide) (by decide)).weak (fun v ⟨x, h, _⟩ => ⟨x, h, trivial⟩)
  refine FnR.by_sx hX (by kernel_rfl) c62 rfl (by rfl) ?_
  simp [i62, sxa, isPtrN, PV.pcs, elAt, setEl, inAt, elIn, setIn, isLst, cellsOf, Ex.ok, Ex.val, Opd.val, POp.dst, bin_int, binOK_int, bin_str, binOK_str, resOK, resV, RB.val, sub, putc, scB, scL, oneB, conf, Ex.val.eqP, Ex.val.eqL, negV, mxV, mnV, ← wr_eq, wr_zero, wr_one, wr_m1, bst_lst, byteC, partsOK, putAll, appV, nilV, slV, sslV, optB, optNum, and_assoc, exists_and_left, exists_eq_left']
  repeat' (first | intro _ | (simp [sxa, isPtrN, PV.pcs, elAt, setEl, inAt, elIn, setIn, isLst, cellsOf, Ex.ok, Ex.val, Opd.val, POp.dst, bin_int, binOK_int, bin_str, binOK_str, resOK, resV, RB.val, sub, putc, scB, scL, oneB, conf, Ex.val.eqP, Ex.val.eqL, negV, mxV, mnV, ← wr_eq, wr_zero, wr_one, wr_m1, bst_lst, byteC, partsOK, putAll, appV, nilV, slV, sslV, optB, optNum, and_assoc, exists_and_left, exists_eq_left', cp, *]) | refine ⟨by assumption, CopC_i (f92) (fun _ _ => by first | exact ⟨fun _ => rfl, (fun h => by cases h)⟩ | exact ⟨(fun h => by cases h), fun _ => ⟨_, rfl⟩⟩ | exact ⟨(fun h => by cases h), (fun h => by cases h)⟩) (fun x cs hx hcs => ?_)⟩ | refine ⟨by assumption, CopC_i (f93 2 (by omega)) (fun _ _ => by first | exact ⟨fun _ => rfl, (fun h => by cases h)⟩ | exact ⟨(fun h => by cases h), fun _ => ⟨_, rfl⟩⟩ | exact ⟨(fun h => by cases h), (fun h => by cases h)⟩) (fun x cs hx hcs => ?_)⟩ | refine ⟨by assumption, CopC_i (hc0) (fun _ _ => by first | exact ⟨fun _ => rfl, (fun h => by cases h)⟩ | exact ⟨(fun h => by cases h), fun _ => ⟨_, rfl⟩⟩ | exact ⟨(fun h => by cases h), (fun h => by cases h)⟩) (fun x cs hx hcs => ?_)⟩ | refine ⟨by assumption, CopC_i (hc1) (fun _ _ => by first | exact ⟨fun _ => rfl, (fun h => by cases h)⟩ | exact ⟨(fun h => by cases h), fun _ => ⟨_, rfl⟩⟩ | exact ⟨(fun h => by cases h), (fun h => by cases h)⟩) (fun x cs hx hcs => ?_)⟩ | refine CopN_i (f58 nl els hce) (fun cs hcs => ?_) | refine CopC_i (f92) (fun _ _ => by first | exact ⟨fun _ => rfl, (fun h => by cases h)⟩ | exact ⟨(fun h => by cases h), fun _ => ⟨_, rfl⟩⟩ | exact ⟨(fun h => by cases h), (fun h => by cases h)⟩) (fun x cs hx hcs => ?_) | refine CopC_i (f93 2 (by omega)) (fun _ _ => by first | exact ⟨fun _ => rfl, (fun h => by cases h)⟩ | exact ⟨(fun h => by cases h), fun _ => ⟨_, rfl⟩⟩ | exact ⟨(fun h => by cases h), (fun h => by cases h)⟩) (fun x cs hx hcs => ?_) | refine CopC_i (hc0) (fun _ _ => by first | exact ⟨fun _ => rfl, (fun h => by cases h)⟩ | exact ⟨(fun h => by cases h), fun _ => ⟨_, rfl⟩⟩ | exact ⟨(fun h => by cases h), (fun h => by cases h)⟩) (fun x cs hx hcs => ?_) | refine CopC_i (hc1) (fun _ _ => by first | exact ⟨fun _ => rfl, (fun h => by cases h)⟩ | exact ⟨(fun h => by cases h), fun _ => ⟨_, rfl⟩⟩ | exact ⟨(fun h => by cases h), (fun h => by cases h)⟩) (fun x cs hx hcs => ?_) | refine CondS_d (fun h => ?_) (fun h => ?_) | refine CondS_b (fun h => ?_) (fun h => ?_) | refine GrdS_d (fun h => ?_) (fun h => ?_) | refine GrdS_b (fun h => ?_) (fun h => ?_) | refine OkS_i (by omega) ?_ | fail)
  all_goals exact anyEx
theorem f25 (nl : Bool) (els : List (List PV)) (hce : curEls els = true) : FnR Tryz.prog 25 false false [.lst 1 nl els] (fun v => ∃ p : Pt, v = .agg (cp p) ∧ anyP p) := by
  refine FnR.by_sx hX (by kernel_rfl) c25 rfl (by rfl) ?_
  simp [i25, sxa, isPtrN, PV.pcs, elAt, setEl, inAt, elIn, setIn, isLst, cellsOf, Ex.ok, Ex.val, Opd.val, POp.dst, bin_int, binOK_int, bin_str, binOK_str, resOK, resV, RB.val, sub, putc, scB, scL, oneB, conf, Ex.val.eqP, Ex.val.eqL, negV, mxV, mnV, ← wr_eq, wr_zero, wr_one, wr_m1, bst_lst, byteC, partsOK, putAll, appV, nilV, slV, sslV, optB, optNum, and_assoc, exists_and_left, exists_eq_left']
  repeat' (first | intro _ | (simp [sxa, isPtrN, PV.pcs, elAt, setEl, inAt, elIn, setIn, isLst, cellsOf, Ex.ok, Ex.val, Opd.val, POp.dst, bin_int, binOK_int, bin_str, binOK_str, resOK, resV, RB.val, sub, putc, scB, scL, oneB, conf, Ex.val.eqP, Ex.val.eqL, negV, mxV, mnV, ← wr_eq, wr_zero, wr_one, wr_m1, bst_lst, byteC, partsOK, putAll, appV, nilV, slV, sslV, optB, optNum, and_assoc, exists_and_left, exists_eq_left', cp, *]) | refine CopD_i (f62 nl els hce) (fun _ _ => by first | exact ⟨fun _ => rfl, (fun h => by cases h)⟩ | exact ⟨(fun h => by cases h), fun _ => ⟨_, rfl⟩⟩ | exact ⟨(fun h => by cases h), (fun h => by cases h)⟩) (fun x hx => ?_) | refine CondS_d (fun h => ?_) (fun h => ?_) | refine CondS_b (fun h => ?_) (fun h => ?_) | refine GrdS_d (fun h => ?_) (fun h => ?_) | refine GrdS_b (fun h => ?_) (fun h => ?_) | refine OkS_i (by omega) ?_ | fail)
  all_goals exact anyEx
end Go.Eng
namespace Go.Eng
open Go Go.Proofs Geo
set_option linter.unusedSimpArgs false
set_option linter.unusedVariables false
set_option maxRecDepth 20000
set_option maxHeartbeats 1000000

/-! numerals are read -/
def dg (s : ByteArray) (n : Nat) : Int := ((s.data[n]?.getD 0).toNat : Int)
def isD (s : ByteArray) (n : Nat) : Bool := decide (¬ dg s n < 48 ∧ ¬ 57 < dg s n)
def valTo (s : ByteArray) : Nat → Int
  | 0 => 0
  | n + 1 => 10 * valTo s n + (dg s n - 48)
def badI (s : ByteArray) : Bool := decide (s.size = 0) || (decide (13 < s.size) || (decide (1 < s.size) && decide (dg s 0 = 48)))
def pInt (s : ByteArray) : Int × Bool := if badI s = true then (0, false) else if allTo (isD s) s.size = true ∧ ¬ 1000000000000 < valTo s s.size then (valTo s s.size, true) else (0, false)
theorem valTo_b {s : ByteArray} : ∀ n, allTo (isD s) n = true → 0 ≤ valTo s n ∧ valTo s n < 10 ^ n := by
  intro n
  induction n with
  | zero => intro _; exact ⟨by simp [valTo], by simp [valTo]⟩
  | succ n ih =>
    intro h
    rw [allTo_succ] at h
    simp only [Bool.and_eq_true] at h
    obtain ⟨h1, h2⟩ := ih h.1
    have h3 := h.2
    unfold isD at h3
    simp at h3
    unfold valTo
    rw [Int.pow_succ]
    omega
theorem f63 (z : ByteArray) (hs : z.size ≤ 4611686018427387904) : Fn Tryz.prog 63 false [.str z] (.tup [i (pInt z).1, .bool (pInt z).2]) := by
  refine Fn.by_sx hX (by kernel_rfl) c63 (by kernel_rfl) (by rfl) ?_
  simp [i63, sxa, isPtrN, PV.pcs, elAt, setEl, inAt, elIn, setIn, isLst, cellsOf, Ex.ok, Ex.val, Opd.val, POp.dst, bin_int, binOK_int, bin_str, binOK_str, resOK, resV, RB.val, sub, putc, scB, scL, oneB, conf, Ex.val.eqP, Ex.val.eqL, negV, mxV, mnV, ← wr_eq, wr_zero, wr_one, wr_m1, bst_lst, byteC, partsOK, putAll, appV, nilV, slV, sslV, optB, optNum, and_assoc, exists_and_left, exists_eq_left']
  by_cases hA : z.size = 0
  · have hp : pInt z = (0, false) := by unfold pInt badI; simp [hA]
    rw [hp]
    have hne : z = ByteArray.empty := ByteArray.size_eq_zero_iff.1 hA
    repeat' (first | intro _ | (simp [sxa, isPtrN, PV.pcs, elAt, setEl, inAt, elIn, setIn, isLst, cellsOf, Ex.ok, Ex.val, Opd.val, POp.dst, bin_int, binOK_int, bin_str, binOK_str, resOK, resV, RB.val, sub, putc, scB, scL, oneB, conf, Ex.val.eqP, Ex.val.eqL, negV, mxV, mnV, ← wr_eq, wr_zero, wr_one, wr_m1, bst_lst, byteC, partsOK, putAll, appV, nilV, slV, sslV, optB, optNum, and_assoc, exists_and_left, exists_eq_left', *]) | refine CondS_d (fun h => ?_) (fun h => ?_) | refine CondS_b (fun h => ?_) (fun h => ?_) | refine GrdS_d (fun h => ?_) (fun h => ?_) | refine GrdS_b (fun h => ?_) (fun h => ?_) | refine OkS_i (by omega) ?_ | fail)
  have hpos : 0 < z.size := by omega
  have hposd : 0 < z.data.size := hpos
  obtain ⟨b0, hb0⟩ : ∃ b, (z.data[0].toNat : Int) = b := ⟨_, rfl⟩
  have hd0 : dg z 0 = b0 := by unfold dg; rw [Array.getElem?_eq_getElem hposd]; simp only [Option.getD_some, hb0]
  have hne : ¬ z = ByteArray.empty := fun h => hA (by rw [h]; rfl)
  have h6 : sixV (.str z) 0 = .int .u8 b0 := by show PV.int .u8 (((z.data[(0 : Int).toNat]?).getD 0).toNat : Int) = _; rw [show (((z.data[(0 : Int).toNat]?).getD 0).toNat : Int) = b0 from hd0]
  by_cases hB : 13 < z.size
  · have hp : pInt z = (0, false) := by unfold pInt badI; simp [hB]
    rw [hp]
    have hBi : (13 : Int) < z.size := by omega
    repeat' (first | intro _ | (simp [sxa, isPtrN, PV.pcs, elAt, setEl, inAt, elIn, setIn, isLst, cellsOf, Ex.ok, Ex.val, Opd.val, POp.dst, bin_int, binOK_int, bin_str, binOK_str, resOK, resV, RB.val, sub, putc, scB, scL, oneB, conf, Ex.val.eqP, Ex.val.eqL, negV, mxV, mnV, ← wr_eq, wr_zero, wr_one, wr_m1, bst_lst, byteC, partsOK, putAll, appV, nilV, slV, sslV, optB, optNum, and_assoc, exists_and_left, exists_eq_left', *]) | refine CondS_d (fun h => ?_) (fun h => ?_) | refine CondS_b (fun h => ?_) (fun h => ?_) | refine GrdS_d (fun h => ?_) (fun h => ?_) | refine GrdS_b (fun h => ?_) (fun h => ?_) | refine OkS_i (by omega) ?_ | fail)
  have hBi : ¬ (13 : Int) < z.size := by omega
  by_cases hC : 1 < z.size ∧ b0 = 48
  · have hp : pInt z = (0, false) := by unfold pInt badI; rw [hd0]; simp [hC.1, hC.2]
    rw [hp]
    obtain ⟨h1, h2⟩ := hC
    have h1i : (1 : Int) < z.size := by omega
    rw [h2] at h6
    clear hb0 hd0 h2
    repeat' (first | intro _ | (simp [sxa, isPtrN, PV.pcs, elAt, setEl, inAt, elIn, setIn, isLst, cellsOf, Ex.ok, Ex.val, Opd.val, POp.dst, bin_int, binOK_int, bin_str, binOK_str, resOK, resV, RB.val, sub, putc, scB, scL, oneB, conf, Ex.val.eqP, Ex.val.eqL, negV, mxV, mnV, ← wr_eq, wr_zero, wr_one, wr_m1, bst_lst, byteC, partsOK, putAll, appV, nilV, slV, sslV, optB, optNum, and_assoc, exists_and_left, exists_eq_left', *]) | refine CondS_d (fun h => ?_) (fun h => ?_) | refine CondS_b (fun h => ?_) (fun h => ?_) | refine GrdS_d (fun h => ?_) (fun h => ?_) | refine GrdS_b (fun h => ?_) (fun h => ?_) | refine OkS_i (by omega) ?_ | fail)
  have hbad : badI z = false := by
    unfold badI; rw [hd0]
    simp [hA, hB]
    intro h1 h2; exact hC ⟨h1, h2⟩
  have hp : pInt z = if allTo (isD z) z.size = true ∧ ¬ 1000000000000 < valTo z z.size then (valTo z z.size, true) else (0, false) := by unfold pInt; rw [hbad]; rfl
  have hp1 : allTo (isD z) z.size = true → 1000000000000 < valTo z z.size → pInt z = (0, false) := fun _ hv => by rw [hp, if_neg (fun h => h.2 hv)]
  have hp2 : allTo (isD z) z.size = true → ¬ 1000000000000 < valTo z z.size → pInt z = (valTo z z.size, true) := fun ga hv => by rw [hp, if_pos ⟨ga, hv⟩]
  have hp3 : allTo (isD z) z.size = false → pInt z = (0, false) := fun ga => by rw [hp, if_neg (fun h => by rw [ga] at h; exact absurd h.1 (by simp))]
  clear hp
  have lp : ∀ V : Env, V 0 = .str z → V 25 = i z.size → V 26 = i 0 → V 4 = i 0 → sx (FC Tryz.prog) (.loop (.seq (.ops [s 27 (.bin .lss (t 26) (t 25))])
 (.seq (.cond (t 27) .skip (.exit 0))
 (.seq (.block 1 (.seq (.ops [s 28 (.mv (t 26)),
  s 5 (.mv (t 28))])
 (.seq (.seq (.ops [s 29 (.mv (t 0)),
  s 30 (.mv (t 5)),
  s 31 (.six (t 29) (t 30)),
  s 32 (.bin .lss (t 31) (c (.int .u8 (48)))),
  s 33 (.mv (t 32)),
  sg [(33, false)] 34 (.mv (t 0)),
  sg [(33, false)] 35 (.mv (t 5)),
  sg [(33, false)] 36 (.six (t 34) (t 35)),
  sg [(33, false)] 37 (.bin .gtr (t 36) (c (.int .u8 (57)))),
  s 38 (.pick (t 33) (c (.bool true)) (t 37))])
 (.cond (t 38) (.seq (.ops [s 2 (.mv (c (i 0))),
  s 3 (.mv (c (.bool false)))])
 .ret) .skip))
 (.ops [s 39 (.mv (t 4)),
  s 40 (.bin .mul (c (i 10)) (t 39)),
  s 41 (.mv (t 0)),
  s 42 (.mv (t 5)),
  s 43 (.six (t 41) (t 42)),
  s 44 (.bin .sub (t 43) (c (.int .u8 (48)))),
  s 45 (.conv .i64 (t 44)),
  s 46 (.bin .add (t 40) (t 45)),
  s 4 (.mv (t 46))]))))
 (.ops [s 47 (.bin .add (t 26) (c (i 1))),
  s 26 (.mv (t 47))]))))) (fun y V' => (y = .exit 0 ∧ V' 4 = i (valTo z z.size) ∧ allTo (isD z) z.size = true) ∨ (y = .ret ∧ allTo (isD z) z.size = false ∧ V' 2 = i 0 ∧ V' 3 = .bool false)) V := by
    intro V e0 e25 e26 e4
    refine sx_count z.size (fun n V => V 0 = .str z ∧ V 25 = i z.size ∧ V 26 = i n ∧ V 4 = i (valTo z n) ∧ allTo (isD z) n = true) 0 (by omega) (by simp [e0, e25, e26, e4, valTo, allTo_zero]) ?_
    clear e0 e25 e26 e4 V
    rintro n V hn ⟨g0, g25, g26, g4, ga⟩
    have hw : wr .i64 ((n : Int) + 1) = n + 1 := wr_in (by omega) (by omega)
    simp [sxa, isPtrN, PV.pcs, elAt, setEl, inAt, elIn, setIn, isLst, cellsOf, Ex.ok, Ex.val, Opd.val, POp.dst, bin_int, binOK_int, bin_str, binOK_str, resOK, resV, RB.val, sub, putc, scB, scL, oneB, conf, Ex.val.eqP, Ex.val.eqL, negV, mxV, mnV, ← wr_eq, wr_zero, wr_one, wr_m1, bst_lst, byteC, partsOK, putAll, appV, nilV, slV, sslV, optB, optNum, and_assoc, exists_and_left, exists_eq_left', g25, g26]
    refine CondS_d (fun hlt => ?_) (fun hge => ?_)
    · have hlt' : n < z.size := by omega
      have hlt2 : n < z.data.size := hlt'
      have hbadd : isD z n = false → allTo (isD z) z.size = false := allTo_bad hlt'
      obtain ⟨b, hb⟩ : ∃ b, (z.data[n].toNat : Int) = b := ⟨_, rfl⟩
      have hdn : dg z n = b := by unfold dg; rw [Array.getElem?_eq_getElem hlt2]; simp only [Option.getD_some, hb]
      have hr : isD z n = decide (¬ b < 48 ∧ ¬ 57 < b) := by unfold isD; rw [hdn]
      have hvs : valTo z (n + 1) = 10 * valTo z n + (b - 48) := by rw [valTo, hdn]
      have hall := allTo_succ (ok := isD z) (n := n)
      rw [ga, hr] at hall
      obtain ⟨v0, v1⟩ := valTo_b n ga
      have hpw : (10 : Int) ^ n ≤ 10 ^ 13 := by
        have : 10 ^ n ≤ 10 ^ 13 := Nat.pow_le_pow_right (by omega) (by omega)
        exact_mod_cast this
      have hv : valTo z n ≤ 10000000000000 := by
        have : (10 : Int) ^ 13 = 10000000000000 := by decide
        omega
      clear hpw v1
      obtain ⟨v, hvv⟩ : ∃ v, valTo z n = v := ⟨_, rfl⟩
      rw [hvv] at g4 hvs v0 hv
      simp [sxa, isPtrN, PV.pcs, elAt, setEl, inAt, elIn, setIn, isLst, cellsOf, Ex.ok, Ex.val, Opd.val, POp.dst, bin_int, binOK_int, bin_str, binOK_str, resOK, resV, RB.val, sub, putc, scB, scL, oneB, conf, Ex.val.eqP, Ex.val.eqL, negV, mxV, mnV, ← wr_eq, wr_zero, wr_one, wr_m1, bst_lst, byteC, partsOK, putAll, appV, nilV, slV, sslV, optB, optNum, and_assoc, exists_and_left, exists_eq_left', hlt', g0, g26, hb]
      by_cases b1 : b < 48
      · have hf := hbadd (by rw [hr]; simp; omega)
        clear hbadd hr hall
        repeat' (first | intro _ | (simp [sxa, isPtrN, PV.pcs, elAt, setEl, inAt, elIn, setIn, isLst, cellsOf, Ex.ok, Ex.val, Opd.val, POp.dst, bin_int, binOK_int, bin_str, binOK_str, resOK, resV, RB.val, sub, putc, scB, scL, oneB, conf, Ex.val.eqP, Ex.val.eqL, negV, mxV, mnV, ← wr_eq, wr_zero, wr_one, wr_m1, bst_lst, byteC, partsOK, putAll, appV, nilV, slV, sslV, optB, optNum, and_assoc, exists_and_left, exists_eq_left', *]) | refine CondS_d (fun h => ?_) (fun h => ?_) | refine CondS_b (fun h => ?_) (fun h => ?_) | refine GrdS_d (fun h => ?_) (fun h => ?_) | refine GrdS_b (fun h => ?_) (fun h => ?_) | refine OkS_i (by omega) ?_ | fail)
      by_cases b2 : 57 < b
      · have hf := hbadd (by rw [hr]; simp; omega)
        clear hbadd hr hall
        repeat' (first | intro _ | (simp [sxa, isPtrN, PV.pcs, elAt, setEl, inAt, elIn, setIn, isLst, cellsOf, Ex.ok, Ex.val, Opd.val, POp.dst, bin_int, binOK_int, bin_str, binOK_str, resOK, resV, RB.val, sub, putc, scB, scL, oneB, conf, Ex.val.eqP, Ex.val.eqL, negV, mxV, mnV, ← wr_eq, wr_zero, wr_one, wr_m1, bst_lst, byteC, partsOK, putAll, appV, nilV, slV, sslV, optB, optNum, and_assoc, exists_and_left, exists_eq_left', *]) | refine CondS_d (fun h => ?_) (fun h => ?_) | refine CondS_b (fun h => ?_) (fun h => ?_) | refine GrdS_d (fun h => ?_) (fun h => ?_) | refine GrdS_b (fun h => ?_) (fun h => ?_) | refine OkS_i (by omega) ?_ | fail)
      have w1 : wr .u8 (b - 48) = b - 48 := wr_u8 (by omega) (by omega)
      have w2 : wr .i64 (b - 48) = b - 48 := wr_in (by omega) (by omega)
      have w3 : wr .i64 (10 * v) = 10 * v := wr_in (by omega) (by omega)
      have w4 : wr .i64 (10 * v + (b - 48)) = 10 * v + (b - 48) := wr_in (by omega) (by omega)
      have hall2 : allTo (isD z) (n + 1) = true := by rw [hall]; simp; omega
      clear hbadd hr hall hvv
      repeat' (first | intro _ | (simp [sxa, isPtrN, PV.pcs, elAt, setEl, inAt, elIn, setIn, isLst, cellsOf, Ex.ok, Ex.val, Opd.val, POp.dst, bin_int, binOK_int, bin_str, binOK_str, resOK, resV, RB.val, sub, putc, scB, scL, oneB, conf, Ex.val.eqP, Ex.val.eqL, negV, mxV, mnV, ← wr_eq, wr_zero, wr_one, wr_m1, bst_lst, byteC, partsOK, putAll, appV, nilV, slV, sslV, optB, optNum, and_assoc, exists_and_left, exists_eq_left', *]) | refine CondS_d (fun h => ?_) (fun h => ?_) | refine CondS_b (fun h => ?_) (fun h => ?_) | refine GrdS_d (fun h => ?_) (fun h => ?_) | refine GrdS_b (fun h => ?_) (fun h => ?_) | refine OkS_i (by omega) ?_ | fail)
    · have : n = z.size := by omega
      subst this
      repeat' (first | intro _ | (simp [sxa, isPtrN, PV.pcs, elAt, setEl, inAt, elIn, setIn, isLst, cellsOf, Ex.ok, Ex.val, Opd.val, POp.dst, bin_int, binOK_int, bin_str, binOK_str, resOK, resV, RB.val, sub, putc, scB, scL, oneB, conf, Ex.val.eqP, Ex.val.eqL, negV, mxV, mnV, ← wr_eq, wr_zero, wr_one, wr_m1, bst_lst, byteC, partsOK, putAll, appV, nilV, slV, sslV, optB, optNum, and_assoc, exists_and_left, exists_eq_left', *]) | refine CondS_d (fun h => ?_) (fun h => ?_) | refine CondS_b (fun h => ?_) (fun h => ?_) | refine GrdS_d (fun h => ?_) (fun h => ?_) | refine GrdS_b (fun h => ?_) (fun h => ?_) | refine OkS_i (by omega) ?_ | fail)
  by_cases h1 : (1 : Int) < z.size
  · have h48 : ¬ b0 = 48 := fun h => hC ⟨by omega, h⟩
    clear hb0 hd0 hC
    repeat' (first | intro _ | (simp [sxa, isPtrN, PV.pcs, elAt, setEl, inAt, elIn, setIn, isLst, cellsOf, Ex.ok, Ex.val, Opd.val, POp.dst, bin_int, binOK_int, bin_str, binOK_str, resOK, resV, RB.val, sub, putc, scB, scL, oneB, conf, Ex.val.eqP, Ex.val.eqL, negV, mxV, mnV, ← wr_eq, wr_zero, wr_one, wr_m1, bst_lst, byteC, partsOK, putAll, appV, nilV, slV, sslV, optB, optNum, and_assoc, exists_and_left, exists_eq_left', *]) | refine CondS_d (fun h => ?_) (fun h => ?_) | refine CondS_b (fun h => ?_) (fun h => ?_) | refine GrdS_d (fun h => ?_) (fun h => ?_) | refine GrdS_b (fun h => ?_) (fun h => ?_) | refine OkS_i (by omega) ?_ | fail)
    refine sx_mono _ _ _ _ ?_ (lp _ (by simp [sxa, isPtrN, PV.pcs, elAt, setEl, inAt, elIn, setIn, isLst, cellsOf, Ex.ok, Ex.val, Opd.val, POp.dst, bin_int, binOK_int, bin_str, binOK_str, resOK, resV, RB.val, sub, putc, scB, scL, oneB, conf, Ex.val.eqP, Ex.val.eqL, negV, mxV, mnV, ← wr_eq, wr_zero, wr_one, wr_m1, bst_lst, byteC, partsOK, putAll, appV, nilV, slV, sslV, optB, optNum, and_assoc, exists_and_left, exists_eq_left']) (by simp [sxa, isPtrN, PV.pcs, elAt, setEl, inAt, elIn, setIn, isLst, cellsOf, Ex.ok, Ex.val, Opd.val, POp.dst, bin_int, binOK_int, bin_str, binOK_str, resOK, resV, RB.val, sub, putc, scB, scL, oneB, conf, Ex.val.eqP, Ex.val.eqL, negV, mxV, mnV, ← wr_eq, wr_zero, wr_one, wr_m1, bst_lst, byteC, partsOK, putAll, appV, nilV, slV, sslV, optB, optNum, and_assoc, exists_and_left, exists_eq_left']) (by simp [sxa, isPtrN, PV.pcs, elAt, setEl, inAt, elIn, setIn, isLst, cellsOf, Ex.ok, Ex.val, Opd.val, POp.dst, bin_int, binOK_int, bin_str, binOK_str, resOK, resV, RB.val, sub, putc, scB, scL, oneB, conf, Ex.val.eqP, Ex.val.eqL, negV, mxV, mnV, ← wr_eq, wr_zero, wr_one, wr_m1, bst_lst, byteC, partsOK, putAll, appV, nilV, slV, sslV, optB, optNum, and_assoc, exists_and_left, exists_eq_left']) (by simp [sxa, isPtrN, PV.pcs, elAt, setEl, inAt, elIn, setIn, isLst, cellsOf, Ex.ok, Ex.val, Opd.val, POp.dst, bin_int, binOK_int, bin_str, binOK_str, resOK, resV, RB.val, sub, putc, scB, scL, oneB, conf, Ex.val.eqP, Ex.val.eqL, negV, mxV, mnV, ← wr_eq, wr_zero, wr_one, wr_m1, bst_lst, byteC, partsOK, putAll, appV, nilV, slV, sslV, optB, optNum, and_assoc, exists_and_left, exists_eq_left']))
    rintro y V' (⟨rfl, g4, ga⟩ | ⟨rfl, ga, g2, g3⟩)
    · by_cases hv : 1000000000000 < valTo z z.size
      · have e : pInt z = (0, false) := hp1 ga hv
        rw [e]
        clear hp1 hp2 hp3 e lp
        repeat' (first | intro _ | (simp [sxa, isPtrN, PV.pcs, elAt, setEl, inAt, elIn, setIn, isLst, cellsOf, Ex.ok, Ex.val, Opd.val, POp.dst, bin_int, binOK_int, bin_str, binOK_str, resOK, resV, RB.val, sub, putc, scB, scL, oneB, conf, Ex.val.eqP, Ex.val.eqL, negV, mxV, mnV, ← wr_eq, wr_zero, wr_one, wr_m1, bst_lst, byteC, partsOK, putAll, appV, nilV, slV, sslV, optB, optNum, and_assoc, exists_and_left, exists_eq_left', *]) | refine CondS_d (fun h => ?_) (fun h => ?_) | refine CondS_b (fun h => ?_) (fun h => ?_) | refine GrdS_d (fun h => ?_) (fun h => ?_) | refine GrdS_b (fun h => ?_) (fun h => ?_) | refine OkS_i (by omega) ?_ | fail)
      · have e : pInt z = (valTo z z.size, true) := hp2 ga hv
        rw [e]
        clear hp1 hp2 hp3 e lp
        repeat' (first | intro _ | (simp [sxa, isPtrN, PV.pcs, elAt, setEl, inAt, elIn, setIn, isLst, cellsOf, Ex.ok, Ex.val, Opd.val, POp.dst, bin_int, binOK_int, bin_str, binOK_str, resOK, resV, RB.val, sub, putc, scB, scL, oneB, conf, Ex.val.eqP, Ex.val.eqL, negV, mxV, mnV, ← wr_eq, wr_zero, wr_one, wr_m1, bst_lst, byteC, partsOK, putAll, appV, nilV, slV, sslV, optB, optNum, and_assoc, exists_and_left, exists_eq_left', *]) | refine CondS_d (fun h => ?_) (fun h => ?_) | refine CondS_b (fun h => ?_) (fun h => ?_) | refine GrdS_d (fun h => ?_) (fun h => ?_) | refine GrdS_b (fun h => ?_) (fun h => ?_) | refine OkS_i (by omega) ?_ | fail)
    · have e : pInt z = (0, false) := hp3 ga
      rw [e]
      clear hp1 hp2 hp3 e lp
      repeat' (first | intro _ | (simp [sxa, isPtrN, PV.pcs, elAt, setEl, inAt, elIn, setIn, isLst, cellsOf, Ex.ok, Ex.val, Opd.val, POp.dst, bin_int, binOK_int, bin_str, binOK_str, resOK, resV, RB.val, sub, putc, scB, scL, oneB, conf, Ex.val.eqP, Ex.val.eqL, negV, mxV, mnV, ← wr_eq, wr_zero, wr_one, wr_m1, bst_lst, byteC, partsOK, putAll, appV, nilV, slV, sslV, optB, optNum, and_assoc, exists_and_left, exists_eq_left', *]) | refine CondS_d (fun h => ?_) (fun h => ?_) | refine CondS_b (fun h => ?_) (fun h => ?_) | refine GrdS_d (fun h => ?_) (fun h => ?_) | refine GrdS_b (fun h => ?_) (fun h => ?_) | refine OkS_i (by omega) ?_ | fail)
  · clear hb0 hd0 hC
    repeat' (first | intro _ | (simp [sxa, isPtrN, PV.pcs, elAt, setEl, inAt, elIn, setIn, isLst, cellsOf, Ex.ok, Ex.val, Opd.val, POp.dst, bin_int, binOK_int, bin_str, binOK_str, resOK, resV, RB.val, sub, putc, scB, scL, oneB, conf, Ex.val.eqP, Ex.val.eqL, negV, mxV, mnV, ← wr_eq, wr_zero, wr_one, wr_m1, bst_lst, byteC, partsOK, putAll, appV, nilV, slV, sslV, optB, optNum, and_assoc, exists_and_left, exists_eq_left', *]) | refine CondS_d (fun h => ?_) (fun h => ?_) | refine CondS_b (fun h => ?_) (fun h => ?_) | refine GrdS_d (fun h => ?_) (fun h => ?_) | refine GrdS_b (fun h => ?_) (fun h => ?_) | refine OkS_i (by omega) ?_ | fail)
    refine sx_mono _ _ _ _ ?_ (lp _ (by simp [sxa, isPtrN, PV.pcs, elAt, setEl, inAt, elIn, setIn, isLst, cellsOf, Ex.ok, Ex.val, Opd.val, POp.dst, bin_int, binOK_int, bin_str, binOK_str, resOK, resV, RB.val, sub, putc, scB, scL, oneB, conf, Ex.val.eqP, Ex.val.eqL, negV, mxV, mnV, ← wr_eq, wr_zero, wr_one, wr_m1, bst_lst, byteC, partsOK, putAll, appV, nilV, slV, sslV, optB, optNum, and_assoc, exists_and_left, exists_eq_left']) (by simp [sxa, isPtrN, PV.pcs, elAt, setEl, inAt, elIn, setIn, isLst, cellsOf, Ex.ok, Ex.val, Opd.val, POp.dst, bin_int, binOK_int, bin_str, binOK_str, resOK, resV, RB.val, sub, putc, scB, scL, oneB, conf, Ex.val.eqP, Ex.val.eqL, negV, mxV, mnV, ← wr_eq, wr_zero, wr_one, wr_m1, bst_lst, byteC, partsOK, putAll, appV, nilV, slV, sslV, optB, optNum, and_assoc, exists_and_left, exists_eq_left']) (by simp [sxa, isPtrN, PV.pcs, elAt, setEl, inAt, elIn, setIn, isLst, cellsOf, Ex.ok, Ex.val, Opd.val, POp.dst, bin_int, binOK_int, bin_str, binOK_str, resOK, resV, RB.val, sub, putc, scB, scL, oneB, conf, Ex.val.eqP, Ex.val.eqL, negV, mxV, mnV, ← wr_eq, wr_zero, wr_one, wr_m1, bst_lst, byteC, partsOK, putAll, appV, nilV, slV, sslV, optB, optNum, and_assoc, exists_and_left, exists_eq_left']) (by simp [sxa, isPtrN, PV.pcs, elAt, setEl, inAt, elIn, setIn, isLst, cellsOf, Ex.ok, Ex.val, Opd.val, POp.dst, bin_int, binOK_int, bin_str, binOK_str, resOK, resV, RB.val, sub, putc, scB, scL, oneB, conf, Ex.val.eqP, Ex.val.eqL, negV, mxV, mnV, ← wr_eq, wr_zero, wr_one, wr_m1, bst_lst, byteC, partsOK, putAll, appV, nilV, slV, sslV, optB, optNum, and_assoc, exists_and_left, exists_eq_left']))
    rintro y V' (⟨rfl, g4, ga⟩ | ⟨rfl, ga, g2, g3⟩)
    · by_cases hv : 1000000000000 < valTo z z.size
      · have e : pInt z = (0, false) := hp1 ga hv
        rw [e]
        clear hp1 hp2 hp3 e lp
        repeat' (first | intro _ | (simp [sxa, isPtrN, PV.pcs, elAt, setEl, inAt, elIn, setIn, isLst, cellsOf, Ex.ok, Ex.val, Opd.val, POp.dst, bin_int, binOK_int, bin_str, binOK_str, resOK, resV, RB.val, sub, putc, scB, scL, oneB, conf, Ex.val.eqP, Ex.val.eqL, negV, mxV, mnV, ← wr_eq, wr_zero, wr_one, wr_m1, bst_lst, byteC, partsOK, putAll, appV, nilV, slV, sslV, optB, optNum, and_assoc, exists_and_left, exists_eq_left', *]) | refine CondS_d (fun h => ?_) (fun h => ?_) | refine CondS_b (fun h => ?_) (fun h => ?_) | refine GrdS_d (fun h => ?_) (fun h => ?_) | refine GrdS_b (fun h => ?_) (fun h => ?_) | refine OkS_i (by omega) ?_ | fail)
      · have e : pInt z = (valTo z z.size, true) := hp2 ga hv
        rw [e]
        clear hp1 hp2 hp3 e lp
        repeat' (first | intro _ | (simp [sxa, isPtrN, PV.pcs, elAt, setEl, inAt, elIn, setIn, isLst, cellsOf, Ex.ok, Ex.val, Opd.val, POp.dst, bin_int, binOK_int, bin_str, binOK_str, resOK, resV, RB.val, sub, putc, scB, scL, oneB, conf, Ex.val.eqP, Ex.val.eqL, negV, mxV, mnV, ← wr_eq, wr_zero, wr_one, wr_m1, bst_lst, byteC, partsOK, putAll, appV, nilV, slV, sslV, optB, optNum, and_assoc, exists_and_left, exists_eq_left', *]) | refine CondS_d (fun h => ?_) (fun h => ?_) | refine CondS_b (fun h => ?_) (fun h => ?_) | refine GrdS_d (fun h => ?_) (fun h => ?_) | refine GrdS_b (fun h => ?_) (fun h => ?_) | refine OkS_i (by omega) ?_ | fail)
    · have e : pInt z = (0, false) := hp3 ga
      rw [e]
      clear hp1 hp2 hp3 e lp
      repeat' (first | intro _ | (simp [sxa, isPtrN, PV.pcs, elAt, setEl, inAt, elIn, setIn, isLst, cellsOf, Ex.ok, Ex.val, Opd.val, POp.dst, bin_int, binOK_int, bin_str, binOK_str, resOK, resV, RB.val, sub, putc, scB, scL, oneB, conf, Ex.val.eqP, Ex.val.eqL, negV, mxV, mnV, ← wr_eq, wr_zero, wr_one, wr_m1, bst_lst, byteC, partsOK, putAll, appV, nilV, slV, sslV, optB, optNum, and_assoc, exists_and_left, exists_eq_left', *]) | refine CondS_d (fun h => ?_) (fun h => ?_) | refine CondS_b (fun h => ?_) (fun h => ?_) | refine GrdS_d (fun h => ?_) (fun h => ?_) | refine GrdS_b (fun h => ?_) (fun h => ?_) | refine OkS_i (by omega) ?_ | fail)
def pRef (z : ByteArray) : Int × Bool := if z.size < 2 ∨ dg z 0 < 97 ∨ 117 < dg z 0 then (-1, false) else if (pInt (z.extract 1 z.size)).2 = false ∨ 21 ≤ (pInt (z.extract 1 z.size)).1 then (-1, false) else ((pInt (z.extract 1 z.size)).1 * 21 + (dg z 0 - 97), true)
theorem pInt_b (z : ByteArray) : 0 ≤ (pInt z).1 := by
  unfold pInt
  split
  · exact Int.le_refl _
  · split
    · rename_i h; exact (valTo_b _ h.1).1
    · exact Int.le_refl _
theorem f27 (z : ByteArray) (hs : z.size ≤ 4611686018427387904) : Fn Tryz.prog 27 false [.str z] (.tup [i (pRef z).1, .bool (pRef z).2]) := by
  refine Fn.by_sx hX (by kernel_rfl) c27 (by kernel_rfl) (by rfl) ?_
  simp [i27, sxa, isPtrN, PV.pcs, elAt, setEl, inAt, elIn, setIn, isLst, cellsOf, Ex.ok, Ex.val, Opd.val, POp.dst, bin_int, binOK_int, bin_str, binOK_str, resOK, resV, RB.val, sub, putc, scB, scL, oneB, conf, Ex.val.eqP, Ex.val.eqL, negV, mxV, mnV, ← wr_eq, wr_zero, wr_one, wr_m1, bst_lst, byteC, partsOK, putAll, appV, nilV, slV, sslV, optB, optNum, and_assoc, exists_and_left, exists_eq_left']
  by_cases hA : z.size < 2
  · have hp : pRef z = (-1, false) := by unfold pRef; rw [if_pos (.inl hA)]
    have hAi : (z.size : Int) < 2 := by omega
    rw [hp]
    repeat' (first | intro _ | (simp [sxa, isPtrN, PV.pcs, elAt, setEl, inAt, elIn, setIn, isLst, cellsOf, Ex.ok, Ex.val, Opd.val, POp.dst, bin_int, binOK_int, bin_str, binOK_str, resOK, resV, RB.val, sub, putc, scB, scL, oneB, conf, Ex.val.eqP, Ex.val.eqL, negV, mxV, mnV, ← wr_eq, wr_zero, wr_one, wr_m1, bst_lst, byteC, partsOK, putAll, appV, nilV, slV, sslV, optB, optNum, and_assoc, exists_and_left, exists_eq_left', *]) | refine CondS_d (fun h => ?_) (fun h => ?_) | refine CondS_b (fun h => ?_) (fun h => ?_) | refine GrdS_d (fun h => ?_) (fun h => ?_) | refine GrdS_b (fun h => ?_) (fun h => ?_) | refine OkS_i (by omega) ?_ | fail)
  have hAi : ¬ (z.size : Int) < 2 := by omega
  have hpos : 0 < z.size := by omega
  have hposd : 0 < z.data.size := hpos
  obtain ⟨b0, hd0⟩ : ∃ b, dg z 0 = b := ⟨_, rfl⟩
  have hb8 : 0 ≤ b0 ∧ b0 ≤ 255 := by
    rw [← hd0]; unfold dg
    have := (z.data[0]?.getD 0).toNat_lt
    omega
  have h6 : sixV (.str z) 0 = .int .u8 b0 := by show PV.int .u8 (((z.data[(0 : Int).toNat]?).getD 0).toNat : Int) = _; rw [show (((z.data[(0 : Int).toNat]?).getD 0).toNat : Int) = b0 from hd0]
  by_cases hB : b0 < 97
  · have hp : pRef z = (-1, false) := by unfold pRef; rw [hd0, if_pos (.inr (.inl hB))]
    rw [hp]
    repeat' (first | intro _ | (simp [sxa, isPtrN, PV.pcs, elAt, setEl, inAt, elIn, setIn, isLst, cellsOf, Ex.ok, Ex.val, Opd.val, POp.dst, bin_int, binOK_int, bin_str, binOK_str, resOK, resV, RB.val, sub, putc, scB, scL, oneB, conf, Ex.val.eqP, Ex.val.eqL, negV, mxV, mnV, ← wr_eq, wr_zero, wr_one, wr_m1, bst_lst, byteC, partsOK, putAll, appV, nilV, slV, sslV, optB, optNum, and_assoc, exists_and_left, exists_eq_left', *]) | refine CondS_d (fun h => ?_) (fun h => ?_) | refine CondS_b (fun h => ?_) (fun h => ?_) | refine GrdS_d (fun h => ?_) (fun h => ?_) | refine GrdS_b (fun h => ?_) (fun h => ?_) | refine OkS_i (by omega) ?_ | fail)
  by_cases hC : 117 < b0
  · have hp : pRef z = (-1, false) := by unfold pRef; rw [hd0, if_pos (.inr (.inr hC))]
    rw [hp]
    repeat' (first | intro _ | (simp [sxa, isPtrN, PV.pcs, elAt, setEl, inAt, elIn, setIn, isLst, cellsOf, Ex.ok, Ex.val, Opd.val, POp.dst, bin_int, binOK_int, bin_str, binOK_str, resOK, resV, RB.val, sub, putc, scB, scL, oneB, conf, Ex.val.eqP, Ex.val.eqL, negV, mxV, mnV, ← wr_eq, wr_zero, wr_one, wr_m1, bst_lst, byteC, partsOK, putAll, appV, nilV, slV, sslV, optB, optNum, and_assoc, exists_and_left, exists_eq_left', *]) | refine CondS_d (fun h => ?_) (fun h => ?_) | refine CondS_b (fun h => ?_) (fun h => ?_) | refine GrdS_d (fun h => ?_) (fun h => ?_) | refine GrdS_b (fun h => ?_) (fun h => ?_) | refine OkS_i (by omega) ?_ | fail)
  have hpi := f63 (z.extract 1 z.size) (by rw [ByteArray.size_extract]; omega)
  have hn0 := pInt_b (z.extract 1 z.size)
  have hp : pRef z = if (pInt (z.extract 1 z.size)).2 = false ∨ 21 ≤ (pInt (z.extract 1 z.size)).1 then (-1, false) else ((pInt (z.extract 1 z.size)).1 * 21 + (b0 - 97), true) := by
    unfold pRef; rw [hd0, if_neg (by omega)]
  obtain ⟨⟨v, ok⟩, hq⟩ : ∃ q, pInt (z.extract 1 z.size) = q := ⟨_, rfl⟩
  rw [hq] at hpi hn0 hp
  simp only at hpi hn0 hp
  have w1 : wr .u8 (b0 - 97) = b0 - 97 := wr_u8 (by omega) (by omega)
  have w2 : wr .i64 (b0 - 97) = b0 - 97 := wr_in (by omega) (by omega)
  have h1i : (1 : Int) ≤ z.size := by omega
  clear hq hd0
  cases ok with
  | false =>
    have hp : pRef z = (-1, false) := by rw [hp]; simp
    rw [hp]
    repeat' (first | intro _ | (simp [sxa, isPtrN, PV.pcs, elAt, setEl, inAt, elIn, setIn, isLst, cellsOf, Ex.ok, Ex.val, Opd.val, POp.dst, bin_int, binOK_int, bin_str, binOK_str, resOK, resV, RB.val, sub, putc, scB, scL, oneB, conf, Ex.val.eqP, Ex.val.eqL, negV, mxV, mnV, ← wr_eq, wr_zero, wr_one, wr_m1, bst_lst, byteC, partsOK, putAll, appV, nilV, slV, sslV, optB, optNum, and_assoc, exists_and_left, exists_eq_left', *]) | refine CallS_i (hpi) ?_ | refine CondS_d (fun h => ?_) (fun h => ?_) | refine CondS_b (fun h => ?_) (fun h => ?_) | refine GrdS_d (fun h => ?_) (fun h => ?_) | refine GrdS_b (fun h => ?_) (fun h => ?_) | refine OkS_i (by omega) ?_ | fail)
  | true =>
    by_cases hv : 21 ≤ v
    · have hp : pRef z = (-1, false) := by rw [hp, if_pos (.inr hv)]
      rw [hp]
      repeat' (first | intro _ | (simp [sxa, isPtrN, PV.pcs, elAt, setEl, inAt, elIn, setIn, isLst, cellsOf, Ex.ok, Ex.val, Opd.val, POp.dst, bin_int, binOK_int, bin_str, binOK_str, resOK, resV, RB.val, sub, putc, scB, scL, oneB, conf, Ex.val.eqP, Ex.val.eqL, negV, mxV, mnV, ← wr_eq, wr_zero, wr_one, wr_m1, bst_lst, byteC, partsOK, putAll, appV, nilV, slV, sslV, optB, optNum, and_assoc, exists_and_left, exists_eq_left', *]) | refine CallS_i (hpi) ?_ | refine CondS_d (fun h => ?_) (fun h => ?_) | refine CondS_b (fun h => ?_) (fun h => ?_) | refine GrdS_d (fun h => ?_) (fun h => ?_) | refine GrdS_b (fun h => ?_) (fun h => ?_) | refine OkS_i (by omega) ?_ | fail)
    · have hp : pRef z = (v * 21 + (b0 - 97), true) := by rw [hp, if_neg (by simp; omega)]
      have w3 : wr .i64 (v * 21) = v * 21 := wr_in (by omega) (by omega)
      have w4 : wr .i64 (v * 21 + (b0 - 97)) = v * 21 + (b0 - 97) := wr_in (by omega) (by omega)
      rw [hp]
      repeat' (first | intro _ | (simp [sxa, isPtrN, PV.pcs, elAt, setEl, inAt, elIn, setIn, isLst, cellsOf, Ex.ok, Ex.val, Opd.val, POp.dst, bin_int, binOK_int, bin_str, binOK_str, resOK, resV, RB.val, sub, putc, scB, scL, oneB, conf, Ex.val.eqP, Ex.val.eqL, negV, mxV, mnV, ← wr_eq, wr_zero, wr_one, wr_m1, bst_lst, byteC, partsOK, putAll, appV, nilV, slV, sslV, optB, optNum, and_assoc, exists_and_left, exists_eq_left', *]) | refine CallS_i (hpi) ?_ | refine CondS_d (fun h => ?_) (fun h => ?_) | refine CondS_b (fun h => ?_) (fun h => ?_) | refine GrdS_d (fun h => ?_) (fun h => ?_) | refine GrdS_b (fun h => ?_) (fun h => ?_) | refine OkS_i (by omega) ?_ | fail)
theorem f31 (z : ByteArray) (hs : z.size ≤ 4611686018427387904) : Fn Tryz.prog 31 false [.str z] (.tup [.agg (if (pRef z).2 = true then tbox (pRef z).1 else [i 0, i 0, i 0, i 0]), .bool (if (pRef z).2 = true then inR (pRef z).1 0 440 else false)]) := by
  have hc := f27 z hs
  obtain ⟨⟨v, ok⟩, hq⟩ : ∃ q, pRef z = q := ⟨_, rfl⟩
  rw [hq] at hc ⊢
  simp only at hc ⊢
  have ht := f66 v
  obtain ⟨b0, b1, b2, b3, hb⟩ := tbox_4 v
  rw [hb] at ht ⊢
  refine Fn.by_sx hX (by kernel_rfl) c31 (by kernel_rfl) (by rfl) ?_
  simp [i31, sxa, isPtrN, PV.pcs, elAt, setEl, inAt, elIn, setIn, isLst, cellsOf, Ex.ok, Ex.val, Opd.val, POp.dst, bin_int, binOK_int, bin_str, binOK_str, resOK, resV, RB.val, sub, putc, scB, scL, oneB, conf, Ex.val.eqP, Ex.val.eqL, negV, mxV, mnV, ← wr_eq, wr_zero, wr_one, wr_m1, bst_lst, byteC, partsOK, putAll, appV, nilV, slV, sslV, optB, optNum, and_assoc, exists_and_left, exists_eq_left']
  cases ok with
  | false => repeat' (first | intro _ | (simp [sxa, isPtrN, PV.pcs, elAt, setEl, inAt, elIn, setIn, isLst, cellsOf, Ex.ok, Ex.val, Opd.val, POp.dst, bin_int, binOK_int, bin_str, binOK_str, resOK, resV, RB.val, sub, putc, scB, scL, oneB, conf, Ex.val.eqP, Ex.val.eqL, negV, mxV, mnV, ← wr_eq, wr_zero, wr_one, wr_m1, bst_lst, byteC, partsOK, putAll, appV, nilV, slV, sslV, optB, optNum, and_assoc, exists_and_left, exists_eq_left', *]) | refine CallS_i (hc) ?_ | refine CondS_d (fun h => ?_) (fun h => ?_) | refine CondS_b (fun h => ?_) (fun h => ?_) | refine GrdS_d (fun h => ?_) (fun h => ?_) | refine GrdS_b (fun h => ?_) (fun h => ?_) | refine OkS_i (by omega) ?_ | fail)
  | true => repeat' (first | intro _ | (simp [sxa, isPtrN, PV.pcs, elAt, setEl, inAt, elIn, setIn, isLst, cellsOf, Ex.ok, Ex.val, Opd.val, POp.dst, bin_int, binOK_int, bin_str, binOK_str, resOK, resV, RB.val, sub, putc, scB, scL, oneB, conf, Ex.val.eqP, Ex.val.eqL, negV, mxV, mnV, ← wr_eq, wr_zero, wr_one, wr_m1, bst_lst, byteC, partsOK, putAll, appV, nilV, slV, sslV, optB, optNum, and_assoc, exists_and_left, exists_eq_left', *]) | refine CallS_i (hc) ?_ | refine CallS_i (ht) ?_ | refine CondS_d (fun h => ?_) (fun h => ?_) | refine CondS_b (fun h => ?_) (fun h => ?_) | refine GrdS_d (fun h => ?_) (fun h => ?_) | refine GrdS_b (fun h => ?_) (fun h => ?_) | refine OkS_i (by omega) ?_ | fail)
end Go.Eng
namespace Go.Eng
open Go Go.Proofs Geo
set_option linter.unusedSimpArgs false
set_option linter.unusedVariables false
set_option maxRecDepth 20000
set_option maxHeartbeats 4000000

/-! references: the law. WRITES -/
def decSl (q : Nat) : List UInt8 := if q < 10 then [UInt8.ofNat (48 + q)] else [UInt8.ofNat (48 + q / 10), UInt8.ofNat (48 + q % 10)]
theorem dec_sl {q : Nat} (h : q < 100) : dec (q : Int) = bs (decSl q) := by
  rw [dec_nat]
  show (⟨_⟩ : ByteArray) = ⟨_⟩
  congr 2
  unfold decSl
  rw [Lib.decDigits]
  split
  · rfl
  · rw [Lib.decDigits, dif_pos (by omega)]; rfl
def wRefS (n : Nat) : ByteArray := bs ([97 + UInt8.ofNat (n % 21)] ++ decSl (n / 21))
theorem wRef_s {n : Nat} (h : n ≤ 440) : wRef (n : Int) = wRefS n := by
  unfold wRef wRefS
  rw [if_pos (by omega)]
  have e1 : (((n : Int)) % 21).toNat = n % 21 := by omega
  have e2 : ((n : Int)) / 21 = ((n / 21 : Nat) : Int) := rfl
  rw [e1, e2, dec_sl (by omega)]
  apply ByteArray.ext
  simp
theorem pRef_all : ∀ n : _root_.Fin 441, pRef (wRefS n.val) = ((n.val : Int), true) := by decide +kernel
theorem pRef_ref {n : Int} (h : 0 ≤ n ∧ n ≤ 440) : pRef (wRef n) = (n, true) := by
  obtain ⟨u, rfl⟩ : ∃ u : Nat, n = u := ⟨n.toNat, by omega⟩
  rw [wRef_s (by omega)]
  exact pRef_all ⟨u, by omega⟩
def refLits : List ByteArray := [bs [97, 48], bs [117, 50, 48], bs [118, 49], bs [97, 50, 49], bs [97, 48, 49], bs [65, 49], bs [97], bs [], bs [49, 97], bs [97, 45, 49]]
theorem lits_all : ∀ z ∈ refLits, (pRef z).2 = true → (0 ≤ (pRef z).1 ∧ (pRef z).1 ≤ 440) ∧ wRefS (pRef z).1.toNat = z := by
  intro z hz
  unfold refLits at hz
  simp only [List.mem_cons, List.not_mem_nil, or_false] at hz
  rcases hz with rfl | rfl | rfl | rfl | rfl | rfl | rfl | rfl | rfl | rfl <;> decide +kernel
def litP (z : ByteArray) : Prop := z.size ≤ 100 ∧ ((pRef z).2 = true → wRef (pRef z).1 = z)
theorem wRef_size (n : Int) : (wRef n).size ≤ 100 := by
  unfold wRef
  split
  · rename_i h
    have := dec_size (n := n / 21) (by omega) (by omega)
    rw [ByteArray.size_append]
    show 1 + _ ≤ 100
    omega
  · decide
theorem lit_all : ∀ z ∈ refLits, litP z := by
  intro z hz
  refine ⟨?_, fun h => ?_⟩
  · unfold refLits at hz
    simp only [List.mem_cons, List.not_mem_nil, or_false] at hz
    rcases hz with rfl | rfl | rfl | rfl | rfl | rfl | rfl | rfl | rfl | rfl <;> decide
  · obtain ⟨h1, h2⟩ := lits_all z hz h
    obtain ⟨u, hu⟩ : ∃ u : Nat, (pRef z).1 = u := ⟨(pRef z).1.toNat, by omega⟩
    rw [hu] at h1 h2 ⊢
    rw [wRef_s (by omega)]
    exact h2
theorem tile_b {x y : Int} : (isP x y = true → 0 ≤ wTile x y ∧ wTile x y ≤ 440 ∧ wTile x y % 21 = x / 10 ∧ wTile x y / 21 = y / 10) ∧ (isP x y = false → wTile x y = -1) := by
  constructor
  · intro h
    have hh : (0 ≤ x ∧ x ≤ 200) ∧ (0 ≤ y ∧ y ≤ 200) := by simpa [isP, inR] using h
    unfold wTile
    rw [if_pos h]
    omega
  · intro h
    unfold wTile
    rw [if_neg (by rw [h]; simp)]
theorem lit_ref (x y : Int) : litP (wRef (wTile x y)) := by
  refine ⟨wRef_size _, fun h => ?_⟩
  cases hp : isP x y
  · rw [(tile_b.2 hp)] at h
    exact absurd h (by decide +kernel)
  · obtain ⟨h1, h2, _⟩ := tile_b.1 hp
    rw [pRef_ref ⟨h1, h2⟩]
theorem f33 (nl : Bool) (els : List (List PV)) (hce : curEls els = true) : FnR Tryz.prog 33 false false [.lst 1 nl els] (fun v => ∃ z : ByteArray, v = .str z ∧ litP z) := by
  refine FnR.by_sx hX (by kernel_rfl) c33 rfl (by rfl) ?_
  simp [i33, sxa, isPtrN, PV.pcs, elAt, setEl, inAt, elIn, setIn, isLst, cellsOf, Ex.ok, Ex.val, Opd.val, POp.dst, bin_int, binOK_int, bin_str, binOK_str, resOK, resV, RB.val, sub, putc, scB, scL, oneB, conf, Ex.val.eqP, Ex.val.eqL, negV, mxV, mnV, ← wr_eq, wr_zero, wr_one, wr_m1, bst_lst, byteC, partsOK, putAll, appV, nilV, slV, sslV, optB, optNum, and_assoc, exists_and_left, exists_eq_left']
  repeat' (first | intro _ | (simp [sxa, isPtrN, PV.pcs, elAt, setEl, inAt, elIn, setIn, isLst, cellsOf, Ex.ok, Ex.val, Opd.val, POp.dst, bin_int, binOK_int, bin_str, binOK_str, resOK, resV, RB.val, sub, putc, scB, scL, oneB, conf, Ex.val.eqP, Ex.val.eqL, negV, mxV, mnV, ← wr_eq, wr_zero, wr_one, wr_m1, bst_lst, byteC, partsOK, putAll, appV, nilV, slV, sslV, optB, optNum, and_assoc, exists_and_left, exists_eq_left', cp, *]) | refine ⟨by assumption, CopC_i (f68) (fun _ _ => by first | exact ⟨fun _ => rfl, (fun h => by cases h)⟩ | exact ⟨(fun h => by cases h), fun _ => ⟨_, rfl⟩⟩ | exact ⟨(fun h => by cases h), (fun h => by cases h)⟩) (fun x cs hx hcs => ?_)⟩ | refine CopN_i (f58 nl els hce) (fun cs hcs => ?_) | refine CopC_i (f68) (fun _ _ => by first | exact ⟨fun _ => rfl, (fun h => by cases h)⟩ | exact ⟨(fun h => by cases h), fun _ => ⟨_, rfl⟩⟩ | exact ⟨(fun h => by cases h), (fun h => by cases h)⟩) (fun x cs hx hcs => ?_) | refine CondS_d (fun h => ?_) (fun h => ?_) | refine CondS_b (fun h => ?_) (fun h => ?_) | refine GrdS_d (fun h => ?_) (fun h => ?_) | refine GrdS_b (fun h => ?_) (fun h => ?_) | refine OkS_i (by omega) ?_ | fail)
  have hr := f41 x.f0 x.f1
  have hl := lit_ref x.f0 x.f1
  obtain ⟨w, hw⟩ : ∃ w, wRef (wTile x.f0 x.f1) = w := ⟨_, rfl⟩
  rw [hw] at hr hl
  have hc : FnR Tryz.prog 60 true false [.lst 1 false [[.str w], [.str (bs [97, 48])], [.str (bs [117, 50, 48])], [.str (bs [118, 49])], [.str (bs [97, 50, 49])], [.str (bs [97, 48, 49])], [.str (bs [65, 49])], [.str (bs [97])], [.str (bs [])], [.str (bs [49, 97])], [.str (bs [97, 45, 49])]]] (fun v => ∃ z : ByteArray, v = .str z ∧ litP z) :=
    (f60 (w :: refLits) false (by simp) (by simp [refLits])).weak (fun v ⟨z, h, hz⟩ => ⟨z, h, by
      rcases List.mem_cons.1 hz with rfl | hz
      · exact hl
      · exact lit_all z hz⟩)
  repeat' (first | intro _ | (simp [sxa, isPtrN, PV.pcs, elAt, setEl, inAt, elIn, setIn, isLst, cellsOf, Ex.ok, Ex.val, Opd.val, POp.dst, bin_int, binOK_int, bin_str, binOK_str, resOK, resV, RB.val, sub, putc, scB, scL, oneB, conf, Ex.val.eqP, Ex.val.eqL, negV, mxV, mnV, ← wr_eq, wr_zero, wr_one, wr_m1, bst_lst, byteC, partsOK, putAll, appV, nilV, slV, sslV, optB, optNum, and_assoc, exists_and_left, exists_eq_left', *]) | refine ⟨by assumption, CopC_i (hc) (fun _ _ => by first | exact ⟨fun _ => rfl, (fun h => by cases h)⟩ | exact ⟨(fun h => by cases h), fun _ => ⟨_, rfl⟩⟩ | exact ⟨(fun h => by cases h), (fun h => by cases h)⟩) (fun x cs hx hcs => ?_)⟩ | refine CopC_i (hc) (fun _ _ => by first | exact ⟨fun _ => rfl, (fun h => by cases h)⟩ | exact ⟨(fun h => by cases h), fun _ => ⟨_, rfl⟩⟩ | exact ⟨(fun h => by cases h), (fun h => by cases h)⟩) (fun x cs hx hcs => ?_) | refine CallS_i (hr) ?_ | refine CallM_i (hr) ?_ | refine CallE_i (hr) ?_ | refine CallX_i (hr) ?_ | refine CallB_i (hr) ?_ | refine CondS_d (fun h => ?_) (fun h => ?_) | refine CondS_b (fun h => ?_) (fun h => ?_) | refine GrdS_d (fun h => ?_) (fun h => ?_) | refine GrdS_b (fun h => ?_) (fun h => ?_) | refine OkS_i (by omega) ?_ | fail)
theorem f15 (nl : Bool) (els : List (List PV)) : Fn Tryz.prog 15 false [.lst 1 nl els] (.bool (decide ((1048576 : Int) < els.length))) := by
  refine Fn.by_sx hX (by kernel_rfl) c15 (by kernel_rfl) (by rfl) ?_
  simp [i15, sxa, isPtrN, PV.pcs, elAt, setEl, inAt, elIn, setIn, isLst, cellsOf, Ex.ok, Ex.val, Opd.val, POp.dst, bin_int, binOK_int, bin_str, binOK_str, resOK, resV, RB.val, sub, putc, scB, scL, oneB, conf, Ex.val.eqP, Ex.val.eqL, negV, mxV, mnV, ← wr_eq, wr_zero, wr_one, wr_m1, bst_lst, byteC, partsOK, putAll, appV, nilV, slV, sslV, optB, optNum, and_assoc, exists_and_left, exists_eq_left']
theorem inTile {x y : Int} (h : isP x y = true) : ∃ a b c d : Int, tbox (wTile x y) = [i a, i b, i c, i d] ∧ wInBox a b c d x y = true := by
  obtain ⟨h1, h2, h3, h4⟩ := tile_b.1 h
  have hh : (0 ≤ x ∧ x ≤ 200) ∧ (0 ≤ y ∧ y ≤ 200) := by simpa [isP, inR] using h
  refine ⟨x / 10 * 10, y / 10 * 10, cap2 (x / 10 * 10 + 10), cap2 (y / 10 * 10 + 10), ?_, ?_⟩
  · unfold tbox; rw [if_pos ⟨h1, h2⟩, h3, h4]
  · unfold wInBox wBox M_IsPoint inR cap2
    simp only [Bool.and_eq_true, decide_eq_true_eq]
    omega
theorem f5 (nl : Bool) (els : List (List PV)) (hu : curU8 els = true) : Fn Tryz.prog 5 false [.lst 1 nl els] (.bool true) := by
  have hb := f15 nl els
  refine Fn.by_sx hX (by kernel_rfl) c5 (by kernel_rfl) (by rfl) ?_
  simp [i5, sxa, isPtrN, PV.pcs, elAt, setEl, inAt, elIn, setIn, isLst, cellsOf, Ex.ok, Ex.val, Opd.val, POp.dst, bin_int, binOK_int, bin_str, binOK_str, resOK, resV, RB.val, sub, putc, scB, scL, oneB, conf, Ex.val.eqP, Ex.val.eqL, negV, mxV, mnV, ← wr_eq, wr_zero, wr_one, wr_m1, bst_lst, byteC, partsOK, putAll, appV, nilV, slV, sslV, optB, optNum, and_assoc, exists_and_left, exists_eq_left']
  by_cases hbig : (1048576 : Int) < els.length
  · rw [decide_eq_true hbig] at hb
    repeat' (first | intro _ | (simp [sxa, isPtrN, PV.pcs, elAt, setEl, inAt, elIn, setIn, isLst, cellsOf, Ex.ok, Ex.val, Opd.val, POp.dst, bin_int, binOK_int, bin_str, binOK_str, resOK, resV, RB.val, sub, putc, scB, scL, oneB, conf, Ex.val.eqP, Ex.val.eqL, negV, mxV, mnV, ← wr_eq, wr_zero, wr_one, wr_m1, bst_lst, byteC, partsOK, putAll, appV, nilV, slV, sslV, optB, optNum, and_assoc, exists_and_left, exists_eq_left', *]) | refine CallS_i (hb) ?_ | refine CallM_i (hb) ?_ | refine CallE_i (hb) ?_ | refine CallX_i (hb) ?_ | refine CallB_i (hb) ?_ | refine CondS_d (fun h => ?_) (fun h => ?_) | refine CondS_b (fun h => ?_) (fun h => ?_) | refine GrdS_d (fun h => ?_) (fun h => ?_) | refine GrdS_b (fun h => ?_) (fun h => ?_) | refine OkS_i (by omega) ?_ | fail)
  rw [decide_eq_false hbig] at hb
  have hce : curEls els = true := by unfold curEls; rw [hu]; simp; omega
  repeat' (first | intro _ | (simp [sxa, isPtrN, PV.pcs, elAt, setEl, inAt, elIn, setIn, isLst, cellsOf, Ex.ok, Ex.val, Opd.val, POp.dst, bin_int, binOK_int, bin_str, binOK_str, resOK, resV, RB.val, sub, putc, scB, scL, oneB, conf, Ex.val.eqP, Ex.val.eqL, negV, mxV, mnV, ← wr_eq, wr_zero, wr_one, wr_m1, bst_lst, byteC, partsOK, putAll, appV, nilV, slV, sslV, optB, optNum, and_assoc, exists_and_left, exists_eq_left', cp, *]) | refine CopD_i (f25 nl els hce) (fun _ _ => by first | exact ⟨fun _ => rfl, (fun h => by cases h)⟩ | exact ⟨(fun h => by cases h), fun _ => ⟨_, rfl⟩⟩ | exact ⟨(fun h => by cases h), (fun h => by cases h)⟩) (fun x hx => ?_) | refine CallS_i (hb) ?_ | refine CallM_i (hb) ?_ | refine CallE_i (hb) ?_ | refine CallX_i (hb) ?_ | refine CallB_i (hb) ?_ | refine CondS_d (fun h => ?_) (fun h => ?_) | refine CondS_b (fun h => ?_) (fun h => ?_) | refine GrdS_d (fun h => ?_) (fun h => ?_) | refine GrdS_b (fun h => ?_) (fun h => ?_) | refine OkS_i (by omega) ?_ | fail)
  obtain ⟨a, b⟩ := x
  have c1 := f26 a b
  have c2 := f27 (wRef (wTile a b)) (by have := wRef_size (wTile a b); omega)
  have c3 := f28 a b
  have c4 := f29 a b
  have c5 := f30 a b
  have c6 := f31 (wRef (wTile a b)) (by have := wRef_size (wTile a b); omega)
  rw [isP_eq] at c3 c4
  clear hx hbig hu
  cases hp : isP a b
  · have ht := tile_b.2 hp
    have hpr : pRef (wRef (-1)) = (-1, false) := by decide +kernel
    rw [ht] at c1 c2 c5 c6
    rw [hpr] at c2 c6
    rw [hp] at c3 c4
    simp only [Bool.false_eq_true, if_false] at c6
    obtain ⟨z, hz⟩ : ∃ z, wRef (-1) = z := ⟨_, rfl⟩
    rw [hz] at c1 c2 c6
    clear hz hpr ht hp
    repeat' (first | intro _ | (simp [sxa, isPtrN, PV.pcs, elAt, setEl, inAt, elIn, setIn, isLst, cellsOf, Ex.ok, Ex.val, Opd.val, POp.dst, bin_int, binOK_int, bin_str, binOK_str, resOK, resV, RB.val, sub, putc, scB, scL, oneB, conf, Ex.val.eqP, Ex.val.eqL, negV, mxV, mnV, ← wr_eq, wr_zero, wr_one, wr_m1, bst_lst, byteC, partsOK, putAll, appV, nilV, slV, sslV, optB, optNum, and_assoc, exists_and_left, exists_eq_left', *]) | refine CopD_i (f33 nl els hce) (fun _ _ => by first | exact ⟨fun _ => rfl, (fun h => by cases h)⟩ | exact ⟨(fun h => by cases h), fun _ => ⟨_, rfl⟩⟩ | exact ⟨(fun h => by cases h), (fun h => by cases h)⟩) (fun x hx => ?_) | refine CallS_i (c1) ?_ | refine CallS_i (c2) ?_ | refine CallS_i (c3) ?_ | refine CallS_i (c4) ?_ | refine CallS_i (c5) ?_ | refine CallS_i (c6) ?_ | refine CallM_i (c1) ?_ | refine CallM_i (c2) ?_ | refine CallM_i (c3) ?_ | refine CallM_i (c4) ?_ | refine CallM_i (c5) ?_ | refine CallM_i (c6) ?_ | refine CallE_i (c1) ?_ | refine CallE_i (c2) ?_ | refine CallE_i (c3) ?_ | refine CallE_i (c4) ?_ | refine CallE_i (c5) ?_ | refine CallE_i (c6) ?_ | refine CallX_i (c1) ?_ | refine CallX_i (c2) ?_ | refine CallX_i (c3) ?_ | refine CallX_i (c4) ?_ | refine CallX_i (c5) ?_ | refine CallX_i (c6) ?_ | refine CallB_i (c1) ?_ | refine CallB_i (c2) ?_ | refine CallB_i (c3) ?_ | refine CallB_i (c4) ?_ | refine CallB_i (c5) ?_ | refine CallB_i (c6) ?_ | refine CondS_d (fun h => ?_) (fun h => ?_) | refine CondS_b (fun h => ?_) (fun h => ?_) | refine GrdS_d (fun h => ?_) (fun h => ?_) | refine GrdS_b (fun h => ?_) (fun h => ?_) | refine OkS_i (by omega) ?_ | fail)
    obtain ⟨z2, hz2⟩ : ∃ z2, z2 = x := ⟨_, rfl⟩
    subst hz2
    obtain ⟨zs, zr⟩ := hx
    have e1 := f27 z2 (by omega)
    have e2 := f35 (pRef z2).1
    obtain ⟨⟨v, ok⟩, hq⟩ : ∃ q, pRef z2 = q := ⟨_, rfl⟩
    rw [hq] at e1 e2 zr
    simp only at e1 e2 zr
    clear hq zs
    cases ok
    · clear zr e2
      repeat' (first | intro _ | (simp [sxa, isPtrN, PV.pcs, elAt, setEl, inAt, elIn, setIn, isLst, cellsOf, Ex.ok, Ex.val, Opd.val, POp.dst, bin_int, binOK_int, bin_str, binOK_str, resOK, resV, RB.val, sub, putc, scB, scL, oneB, conf, Ex.val.eqP, Ex.val.eqL, negV, mxV, mnV, ← wr_eq, wr_zero, wr_one, wr_m1, bst_lst, byteC, partsOK, putAll, appV, nilV, slV, sslV, optB, optNum, and_assoc, exists_and_left, exists_eq_left', ft, *]) | refine CopD_i (f34 nl els hce) (fun _ _ => by first | exact ⟨fun _ => rfl, (fun h => by cases h)⟩ | exact ⟨(fun h => by cases h), fun _ => ⟨_, rfl⟩⟩ | exact ⟨(fun h => by cases h), (fun h => by cases h)⟩) (fun x hx => ?_) | refine CallS_i (e1) ?_ | refine CallM_i (e1) ?_ | refine CallE_i (e1) ?_ | refine CallX_i (e1) ?_ | refine CallB_i (e1) ?_ | refine CondS_d (fun h => ?_) (fun h => ?_) | refine CondS_b (fun h => ?_) (fun h => ?_) | refine GrdS_d (fun h => ?_) (fun h => ?_) | refine GrdS_b (fun h => ?_) (fun h => ?_) | refine OkS_i (by omega) ?_ | fail)
      have e3 := f36 x hx.ok
      have e4 := f37 x hx.ok
      obtain ⟨T, hT⟩ : ∃ T, wTiles x = T := ⟨_, rfl⟩
      rw [hT] at e3 e4
      unfold ft at e3 e4
      clear hT
      have e3 := e3.weak
      have e4 := e4.weak
      repeat' (first | intro _ | (simp [sxa, isPtrN, PV.pcs, elAt, setEl, inAt, elIn, setIn, isLst, cellsOf, Ex.ok, Ex.val, Opd.val, POp.dst, bin_int, binOK_int, bin_str, binOK_str, resOK, resV, RB.val, sub, putc, scB, scL, oneB, conf, Ex.val.eqP, Ex.val.eqL, negV, mxV, mnV, ← wr_eq, wr_zero, wr_one, wr_m1, bst_lst, byteC, partsOK, putAll, appV, nilV, slV, sslV, optB, optNum, and_assoc, exists_and_left, exists_eq_left', ft, *]) | refine CallS_i (e3) ?_ | refine CallS_i (e4) ?_ | refine CallM_i (e3) ?_ | refine CallM_i (e4) ?_ | refine CallE_i (e3) ?_ | refine CallE_i (e4) ?_ | refine CallX_i (e3) ?_ | refine CallX_i (e4) ?_ | refine CallB_i (e3) ?_ | refine CallB_i (e4) ?_ | refine CondS_d (fun h => ?_) (fun h => ?_) | refine CondS_b (fun h => ?_) (fun h => ?_) | refine GrdS_d (fun h => ?_) (fun h => ?_) | refine GrdS_b (fun h => ?_) (fun h => ?_) | refine OkS_i (by omega) ?_ | fail)
    · have zr := zr rfl
      rw [zr] at e2
      clear zr
      repeat' (first | intro _ | (simp [sxa, isPtrN, PV.pcs, elAt, setEl, inAt, elIn, setIn, isLst, cellsOf, Ex.ok, Ex.val, Opd.val, POp.dst, bin_int, binOK_int, bin_str, binOK_str, resOK, resV, RB.val, sub, putc, scB, scL, oneB, conf, Ex.val.eqP, Ex.val.eqL, negV, mxV, mnV, ← wr_eq, wr_zero, wr_one, wr_m1, bst_lst, byteC, partsOK, putAll, appV, nilV, slV, sslV, optB, optNum, and_assoc, exists_and_left, exists_eq_left', ft, *]) | refine CopD_i (f34 nl els hce) (fun _ _ => by first | exact ⟨fun _ => rfl, (fun h => by cases h)⟩ | exact ⟨(fun h => by cases h), fun _ => ⟨_, rfl⟩⟩ | exact ⟨(fun h => by cases h), (fun h => by cases h)⟩) (fun x hx => ?_) | refine CallS_i (e1) ?_ | refine CallM_i (e1) ?_ | refine CallE_i (e1) ?_ | refine CallX_i (e1) ?_ | refine CallB_i (e1) ?_ | refine CondS_d (fun h => ?_) (fun h => ?_) | refine CondS_b (fun h => ?_) (fun h => ?_) | refine GrdS_d (fun h => ?_) (fun h => ?_) | refine GrdS_b (fun h => ?_) (fun h => ?_) | refine OkS_i (by omega) ?_ | fail)
      have e3 := f36 x hx.ok
      have e4 := f37 x hx.ok
      obtain ⟨T, hT⟩ : ∃ T, wTiles x = T := ⟨_, rfl⟩
      rw [hT] at e3 e4
      unfold ft at e3 e4
      clear hT
      have e3 := e3.weak
      have e4 := e4.weak
      repeat' (first | intro _ | (simp [sxa, isPtrN, PV.pcs, elAt, setEl, inAt, elIn, setIn, isLst, cellsOf, Ex.ok, Ex.val, Opd.val, POp.dst, bin_int, binOK_int, bin_str, binOK_str, resOK, resV, RB.val, sub, putc, scB, scL, oneB, conf, Ex.val.eqP, Ex.val.eqL, negV, mxV, mnV, ← wr_eq, wr_zero, wr_one, wr_m1, bst_lst, byteC, partsOK, putAll, appV, nilV, slV, sslV, optB, optNum, and_assoc, exists_and_left, exists_eq_left', ft, *]) | refine CallS_i (e2) ?_ | refine CallS_i (e3) ?_ | refine CallS_i (e4) ?_ | refine CallM_i (e2) ?_ | refine CallM_i (e3) ?_ | refine CallM_i (e4) ?_ | refine CallE_i (e2) ?_ | refine CallE_i (e3) ?_ | refine CallE_i (e4) ?_ | refine CallX_i (e2) ?_ | refine CallX_i (e3) ?_ | refine CallX_i (e4) ?_ | refine CallB_i (e2) ?_ | refine CallB_i (e3) ?_ | refine CallB_i (e4) ?_ | refine CondS_d (fun h => ?_) (fun h => ?_) | refine CondS_b (fun h => ?_) (fun h => ?_) | refine GrdS_d (fun h => ?_) (fun h => ?_) | refine GrdS_b (fun h => ?_) (fun h => ?_) | refine OkS_i (by omega) ?_ | fail)
  · obtain ⟨h1, h2, _, _⟩ := tile_b.1 hp
    obtain ⟨p, q, r, u, hbx, hin⟩ := inTile hp
    have c7 := f32 p q r u a b
    rw [hin] at c7
    rw [pRef_ref ⟨h1, h2⟩] at c2 c6
    have hi : inR (wTile a b) 0 440 = true := by unfold inR; simp; omega
    simp only [if_true] at c6
    rw [hbx, hi] at c6
    rw [hp] at c3 c4
    obtain ⟨z, hz⟩ : ∃ z, wRef (wTile a b) = z := ⟨_, rfl⟩
    rw [hz] at c1 c2 c6
    obtain ⟨t0, ht0⟩ : ∃ t, wTile a b = t := ⟨_, rfl⟩
    rw [ht0] at c2 c5
    clear hz ht0 hp hin hbx hi
    repeat' (first | intro _ | (simp [sxa, isPtrN, PV.pcs, elAt, setEl, inAt, elIn, setIn, isLst, cellsOf, Ex.ok, Ex.val, Opd.val, POp.dst, bin_int, binOK_int, bin_str, binOK_str, resOK, resV, RB.val, sub, putc, scB, scL, oneB, conf, Ex.val.eqP, Ex.val.eqL, negV, mxV, mnV, ← wr_eq, wr_zero, wr_one, wr_m1, bst_lst, byteC, partsOK, putAll, appV, nilV, slV, sslV, optB, optNum, and_assoc, exists_and_left, exists_eq_left', *]) | refine CopD_i (f33 nl els hce) (fun _ _ => by first | exact ⟨fun _ => rfl, (fun h => by cases h)⟩ | exact ⟨(fun h => by cases h), fun _ => ⟨_, rfl⟩⟩ | exact ⟨(fun h => by cases h), (fun h => by cases h)⟩) (fun x hx => ?_) | refine CallS_i (c1) ?_ | refine CallS_i (c2) ?_ | refine CallS_i (c3) ?_ | refine CallS_i (c4) ?_ | refine CallS_i (c5) ?_ | refine CallS_i (c6) ?_ | refine CallS_i (c7) ?_ | refine CallM_i (c1) ?_ | refine CallM_i (c2) ?_ | refine CallM_i (c3) ?_ | refine CallM_i (c4) ?_ | refine CallM_i (c5) ?_ | refine CallM_i (c6) ?_ | refine CallM_i (c7) ?_ | refine CallE_i (c1) ?_ | refine CallE_i (c2) ?_ | refine CallE_i (c3) ?_ | refine CallE_i (c4) ?_ | refine CallE_i (c5) ?_ | refine CallE_i (c6) ?_ | refine CallE_i (c7) ?_ | refine CallX_i (c1) ?_ | refine CallX_i (c2) ?_ | refine CallX_i (c3) ?_ | refine CallX_i (c4) ?_ | refine CallX_i (c5) ?_ | refine CallX_i (c6) ?_ | refine CallX_i (c7) ?_ | refine CallB_i (c1) ?_ | refine CallB_i (c2) ?_ | refine CallB_i (c3) ?_ | refine CallB_i (c4) ?_ | refine CallB_i (c5) ?_ | refine CallB_i (c6) ?_ | refine CallB_i (c7) ?_ | refine CondS_d (fun h => ?_) (fun h => ?_) | refine CondS_b (fun h => ?_) (fun h => ?_) | refine GrdS_d (fun h => ?_) (fun h => ?_) | refine GrdS_b (fun h => ?_) (fun h => ?_) | refine OkS_i (by omega) ?_ | fail)
    obtain ⟨z2, hz2⟩ : ∃ z2, z2 = x := ⟨_, rfl⟩
    subst hz2
    obtain ⟨zs, zr⟩ := hx
    have e1 := f27 z2 (by omega)
    have e2 := f35 (pRef z2).1
    obtain ⟨⟨v, ok⟩, hq⟩ : ∃ q, pRef z2 = q := ⟨_, rfl⟩
    rw [hq] at e1 e2 zr
    simp only at e1 e2 zr
    clear hq zs
    cases ok
    · clear zr e2
      repeat' (first | intro _ | (simp [sxa, isPtrN, PV.pcs, elAt, setEl, inAt, elIn, setIn, isLst, cellsOf, Ex.ok, Ex.val, Opd.val, POp.dst, bin_int, binOK_int, bin_str, binOK_str, resOK, resV, RB.val, sub, putc, scB, scL, oneB, conf, Ex.val.eqP, Ex.val.eqL, negV, mxV, mnV, ← wr_eq, wr_zero, wr_one, wr_m1, bst_lst, byteC, partsOK, putAll, appV, nilV, slV, sslV, optB, optNum, and_assoc, exists_and_left, exists_eq_left', ft, *]) | refine CopD_i (f34 nl els hce) (fun _ _ => by first | exact ⟨fun _ => rfl, (fun h => by cases h)⟩ | exact ⟨(fun h => by cases h), fun _ => ⟨_, rfl⟩⟩ | exact ⟨(fun h => by cases h), (fun h => by cases h)⟩) (fun x hx => ?_) | refine CallS_i (e1) ?_ | refine CallM_i (e1) ?_ | refine CallE_i (e1) ?_ | refine CallX_i (e1) ?_ | refine CallB_i (e1) ?_ | refine CondS_d (fun h => ?_) (fun h => ?_) | refine CondS_b (fun h => ?_) (fun h => ?_) | refine GrdS_d (fun h => ?_) (fun h => ?_) | refine GrdS_b (fun h => ?_) (fun h => ?_) | refine OkS_i (by omega) ?_ | fail)
      have e3 := f36 x hx.ok
      have e4 := f37 x hx.ok
      obtain ⟨T, hT⟩ : ∃ T, wTiles x = T := ⟨_, rfl⟩
      rw [hT] at e3 e4
      unfold ft at e3 e4
      clear hT
      have e3 := e3.weak
      have e4 := e4.weak
      repeat' (first | intro _ | (simp [sxa, isPtrN, PV.pcs, elAt, setEl, inAt, elIn, setIn, isLst, cellsOf, Ex.ok, Ex.val, Opd.val, POp.dst, bin_int, binOK_int, bin_str, binOK_str, resOK, resV, RB.val, sub, putc, scB, scL, oneB, conf, Ex.val.eqP, Ex.val.eqL, negV, mxV, mnV, ← wr_eq, wr_zero, wr_one, wr_m1, bst_lst, byteC, partsOK, putAll, appV, nilV, slV, sslV, optB, optNum, and_assoc, exists_and_left, exists_eq_left', ft, *]) | refine CallS_i (e3) ?_ | refine CallS_i (e4) ?_ | refine CallM_i (e3) ?_ | refine CallM_i (e4) ?_ | refine CallE_i (e3) ?_ | refine CallE_i (e4) ?_ | refine CallX_i (e3) ?_ | refine CallX_i (e4) ?_ | refine CallB_i (e3) ?_ | refine CallB_i (e4) ?_ | refine CondS_d (fun h => ?_) (fun h => ?_) | refine CondS_b (fun h => ?_) (fun h => ?_) | refine GrdS_d (fun h => ?_) (fun h => ?_) | refine GrdS_b (fun h => ?_) (fun h => ?_) | refine OkS_i (by omega) ?_ | fail)
    · have zr := zr rfl
      rw [zr] at e2
      clear zr
      repeat' (first | intro _ | (simp [sxa, isPtrN, PV.pcs, elAt, setEl, inAt, elIn, setIn, isLst, cellsOf, Ex.ok, Ex.val, Opd.val, POp.dst, bin_int, binOK_int, bin_str, binOK_str, resOK, resV, RB.val, sub, putc, scB, scL, oneB, conf, Ex.val.eqP, Ex.val.eqL, negV, mxV, mnV, ← wr_eq, wr_zero, wr_one, wr_m1, bst_lst, byteC, partsOK, putAll, appV, nilV, slV, sslV, optB, optNum, and_assoc, exists_and_left, exists_eq_left', ft, *]) | refine CopD_i (f34 nl els hce) (fun _ _ => by first | exact ⟨fun _ => rfl, (fun h => by cases h)⟩ | exact ⟨(fun h => by cases h), fun _ => ⟨_, rfl⟩⟩ | exact ⟨(fun h => by cases h), (fun h => by cases h)⟩) (fun x hx => ?_) | refine CallS_i (e1) ?_ | refine CallM_i (e1) ?_ | refine CallE_i (e1) ?_ | refine CallX_i (e1) ?_ | refine CallB_i (e1) ?_ | refine CondS_d (fun h => ?_) (fun h => ?_) | refine CondS_b (fun h => ?_) (fun h => ?_) | refine GrdS_d (fun h => ?_) (fun h => ?_) | refine GrdS_b (fun h => ?_) (fun h => ?_) | refine OkS_i (by omega) ?_ | fail)
      have e3 := f36 x hx.ok
      have e4 := f37 x hx.ok
      obtain ⟨T, hT⟩ : ∃ T, wTiles x = T := ⟨_, rfl⟩
      rw [hT] at e3 e4
      unfold ft at e3 e4
      clear hT
      have e3 := e3.weak
      have e4 := e4.weak
      repeat' (first | intro _ | (simp [sxa, isPtrN, PV.pcs, elAt, setEl, inAt, elIn, setIn, isLst, cellsOf, Ex.ok, Ex.val, Opd.val, POp.dst, bin_int, binOK_int, bin_str, binOK_str, resOK, resV, RB.val, sub, putc, scB, scL, oneB, conf, Ex.val.eqP, Ex.val.eqL, negV, mxV, mnV, ← wr_eq, wr_zero, wr_one, wr_m1, bst_lst, byteC, partsOK, putAll, appV, nilV, slV, sslV, optB, optNum, and_assoc, exists_and_left, exists_eq_left', ft, *]) | refine CallS_i (e2) ?_ | refine CallS_i (e3) ?_ | refine CallS_i (e4) ?_ | refine CallM_i (e2) ?_ | refine CallM_i (e3) ?_ | refine CallM_i (e4) ?_ | refine CallE_i (e2) ?_ | refine CallE_i (e3) ?_ | refine CallE_i (e4) ?_ | refine CallX_i (e2) ?_ | refine CallX_i (e3) ?_ | refine CallX_i (e4) ?_ | refine CallB_i (e2) ?_ | refine CallB_i (e3) ?_ | refine CallB_i (e4) ?_ | refine CondS_d (fun h => ?_) (fun h => ?_) | refine CondS_b (fun h => ?_) (fun h => ?_) | refine GrdS_d (fun h => ?_) (fun h => ?_) | refine GrdS_b (fun h => ?_) (fun h => ?_) | refine OkS_i (by omega) ?_ | fail)
end Go.Eng
namespace Go.Eng
open Go Go.Proofs
set_option linter.unusedSimpArgs false
set_option linter.unusedVariables false
set_option maxRecDepth 20000
/-! what the arguments hold -/
theorem d_intb {X : Cx} {t n : Nat} {i0 : TI} {vs : List PV} (hi : X.ti t = some i0) (hk : i0.k = .int .i64) (h : shp X n t vs) : ∃ m : Int, vs = [i m] ∧ -9223372036854775808 ≤ m ∧ m ≤ 9223372036854775807 := by
  cases n with
  | zero => cases h
  | succ n =>
    unfold shp at h; rw [hi] at h; simp only [hk] at h
    obtain ⟨m, hm, hw⟩ := h
    refine ⟨m, hm, ?_⟩
    simpa [Lit.wf, IntKind.min, IntKind.max, IntKind.signed, IntKind.bits] using hw
theorem d_int {X : Cx} {t n : Nat} {i0 : TI} {vs : List PV} (hi : X.ti t = some i0) (hk : i0.k = .int .i64) (h : shp X n t vs) : ∃ m, vs = [i m] := by
  cases n with
  | zero => cases h
  | succ n => unfold shp at h; rw [hi] at h; simp only [hk] at h; obtain ⟨m, hm, _⟩ := h; exact ⟨m, hm⟩
theorem d_bool {X : Cx} {t n : Nat} {i0 : TI} {vs : List PV} (hi : X.ti t = some i0) (hk : i0.k = .bool) (h : shp X n t vs) : ∃ b, vs = [.bool b] := by
  cases n with
  | zero => cases h
  | succ n => unfold shp at h; rw [hi] at h; simp only [hk] at h; exact h
theorem d_str {X : Cx} {t n : Nat} {i0 : TI} {vs : List PV} (hi : X.ti t = some i0) (hk : i0.k = .str) (h : shp X n t vs) : ∃ s, vs = [.str s] ∧ s.size ≤ 9223372036854775807 := by
  cases n with
  | zero => cases h
  | succ n => unfold shp at h; rw [hi] at h; simp only [hk] at h; exact h
theorem d_slice {X : Cx} {t n e sz : Nat} {i0 : TI} {vs : List PV} {α : Type} {g : α → List PV} {q : α → Prop} (hi : X.ti t = some i0) (hk : i0.k = .slice e) (hs : szOf X e = sz)
    (hd : ∀ n vs, shp X n e vs → ∃ x, vs = g x ∧ q x) (h : shp X n t vs) : ∃ (l : List α) (nl : Bool), vs = [.lst sz nl (l.map g)] ∧ l.length ≤ 9223372036854775807 ∧ ∀ x ∈ l, q x := by
  cases n with
  | zero => cases h
  | succ n =>
    unfold shp at h; rw [hi] at h; simp only [hk, hs] at h
    rcases h with rfl | ⟨els, rfl, hl, he⟩
    · exact ⟨[], true, rfl, by simp, by simp⟩
    · have : ∀ els : List (List PV), (∀ cs ∈ els, shp X n e cs) → ∃ l : List α, els = l.map g ∧ ∀ x ∈ l, q x := by
        intro els
        induction els with
        | nil => intro _; exact ⟨[], rfl, by simp⟩
        | cons c r ih =>
          intro h
          obtain ⟨l, h1, h2⟩ := ih fun cs hcs => h cs (List.mem_cons_of_mem _ hcs)
          obtain ⟨x, h3, h4⟩ := hd n c (h c (List.mem_cons_self ..))
          exact ⟨x :: l, by rw [h1, h3]; rfl, fun y hy => by
            rcases List.mem_cons.1 hy with rfl | hy
            · exact h4
            · exact h2 y hy⟩
      obtain ⟨l, h1, h2⟩ := this els he
      subst h1
      exact ⟨l, false, rfl, by have := hl; rw [List.length_map] at this; exact this, h2⟩
theorem d_struct {X : Cx} {t n : Nat} {i0 : TI} {fl : List (Nat × Nat)} {vs : List PV} (hi : X.ti t = some i0) (hk : i0.k = .struct fl) (h : shp X n t vs) : vs.length = i0.sz ∧ ∀ q ∈ fl, ∃ n, shp X n q.2 (sub vs q.1 (szOf X q.2)) := by
  cases n with
  | zero => cases h
  | succ n => unfold shp at h; rw [hi] at h; simp only [hk] at h; exact ⟨h.1, fun q hq => ⟨n, h.2 q hq⟩⟩
theorem shpL_cons {X : Cx} {n t : Nat} {ts : List Nat} {pvs : List PV} (h : shpL X n (t :: ts) pvs) : ∃ v vs, pvs = v :: vs ∧ shpV X n t v ∧ shpL X n ts vs := by
  cases pvs with
  | nil => cases h
  | cons v vs => exact ⟨v, vs, rfl, h.1, h.2⟩
theorem shpL_nil {X : Cx} {n : Nat} {pvs : List PV} (h : shpL X n [] pvs) : pvs = [] := by
  cases pvs with
  | nil => rfl
  | cons v vs => cases h
theorem shpV_one {X : Cx} {n t : Nat} {i0 : TI} {v : PV} (hi : X.ti t = some i0) (ha : i0.k.agg = false) (h : shpV X n t v) : shp X n t [v] := by
  unfold shpV at h; rw [hi] at h; simp only [ha, Bool.false_eq_true, if_false] at h; exact h
theorem shpV_agg {X : Cx} {n t : Nat} {i0 : TI} {v : PV} (hi : X.ti t = some i0) (ha : i0.k.agg = true) (h : shpV X n t v) : ∃ vs, v = .agg vs ∧ shp X n t vs := by
  unfold shpV at h; rw [hi] at h; simp only [ha, if_true] at h; exact h
theorem dPt {n : Nat} {vs : List PV} (h : shp X n 128 vs) : ∃ p : Pt, vs = cp p ∧ True := by
  obtain ⟨hl, hf⟩ := d_struct (i0 := (X.ti 128).getD default) rfl rfl h
  match vs, hl with
  | [a, b], _ =>
    obtain ⟨_, h0⟩ := hf (0, 3) (by simp)
    obtain ⟨_, h1⟩ := hf (1, 3) (by simp)
    obtain ⟨x, e0⟩ := d_int (i0 := (X.ti 3).getD default) rfl rfl h0
    obtain ⟨y, e1⟩ := d_int (i0 := (X.ti 3).getD default) rfl rfl h1
    obtain rfl : a = i x := (List.cons.inj e0).1
    obtain rfl : b = i y := (List.cons.inj e1).1
    exact ⟨⟨x, y⟩, rfl, trivial⟩
theorem dFt {n : Nat} {vs : List PV} (h : shp X n 73 vs) : ∃ x : Ft, vs = ft x ∧ x.fits := by
  obtain ⟨hl, hf⟩ := d_struct (i0 := (X.ti 73).getD default) rfl rfl h
  match vs, hl with
  | [a, b, c, d, e], _ =>
    obtain ⟨_, h0⟩ := hf (0, 3) (by simp)
    obtain ⟨_, h1⟩ := hf (1, 3) (by simp)
    obtain ⟨_, h2⟩ := hf (2, 3) (by simp)
    obtain ⟨_, h3⟩ := hf (3, 9) (by simp)
    obtain ⟨_, h4⟩ := hf (4, 71) (by simp)
    obtain ⟨x0, e0⟩ := d_int (i0 := (X.ti 3).getD default) rfl rfl h0
    obtain ⟨x1, e1⟩ := d_int (i0 := (X.ti 3).getD default) rfl rfl h1
    obtain ⟨x2, e2⟩ := d_int (i0 := (X.ti 3).getD default) rfl rfl h2
    obtain ⟨x3, e3, b3⟩ := d_str (i0 := (X.ti 9).getD default) rfl rfl h3
    obtain ⟨x4, nl, e4, b4, _⟩ := d_slice (i0 := (X.ti 71).getD default) (sz := 2) rfl rfl rfl (fun _ _ => dPt) h4
    obtain rfl : a = i x0 := (List.cons.inj e0).1
    obtain rfl : b = i x1 := (List.cons.inj e1).1
    obtain rfl : c = i x2 := (List.cons.inj e2).1
    obtain rfl : d = .str x3 := (List.cons.inj e3).1
    obtain rfl : e = .lst 2 nl (x4.map cp) := (List.cons.inj e4).1
    exact ⟨⟨x0, x1, x2, x3, x4, nl⟩, rfl, b3, b4⟩
theorem dFtS {n : Nat} {v : PV} (h : shpV X n 22 v) : ∃ (l : List Ft) (nl : Bool), v = .lst 5 nl (l.map ft) ∧ l.length ≤ 9223372036854775807 ∧ ∀ x ∈ l, x.fits := by
  have h := shpV_one (i0 := (X.ti 22).getD default) rfl rfl h
  obtain ⟨l, nl, e, h1, h2⟩ := d_slice (i0 := (X.ti 22).getD default) (sz := 5) rfl rfl rfl (fun _ _ => dFt) h
  exact ⟨l, nl, (List.cons.inj e).1, h1, h2⟩
theorem dInt {n : Nat} {v : PV} (h : shpV X n 3 v) : ∃ m : Int, v = i m ∧ -9223372036854775808 ≤ m ∧ m ≤ 9223372036854775807 := by
  obtain ⟨m, hm, hb⟩ := d_intb (i0 := (X.ti 3).getD default) rfl rfl (shpV_one (i0 := (X.ti 3).getD default) rfl rfl h)
  exact ⟨m, (List.cons.inj hm).1, hb⟩
theorem dIntS {n : Nat} {v : PV} (h : shpV X n 40 v) : ∃ (l : List Int) (nl : Bool), v = .lst 1 nl (l.map fun m => [i m]) ∧ l.length ≤ 9223372036854775807 ∧ ∀ x ∈ l, -9223372036854775808 ≤ x ∧ x ≤ 9223372036854775807 := by
  have h := shpV_one (i0 := (X.ti 40).getD default) rfl rfl h
  obtain ⟨l, nl, e, h1, h2⟩ := d_slice (i0 := (X.ti 40).getD default) (sz := 1) (g := fun m : Int => [i m]) (q := fun m => -9223372036854775808 ≤ m ∧ m ≤ 9223372036854775807) rfl rfl rfl (fun _ _ h => d_intb (i0 := (X.ti 3).getD default) rfl rfl h) h
  exact ⟨l, nl, (List.cons.inj e).1, h1, h2⟩
theorem dPtV {n : Nat} {v : PV} (h : shpV X n 128 v) : ∃ p : Pt, v = .agg (cp p) := by
  obtain ⟨vs, rfl, hs⟩ := shpV_agg (i0 := (X.ti 128).getD default) rfl rfl h
  obtain ⟨p, rfl, _⟩ := dPt hs
  exact ⟨p, rfl⟩
theorem dFtV {n : Nat} {v : PV} (h : shpV X n 73 v) : ∃ x : Ft, v = .agg (ft x) ∧ x.fits := by
  obtain ⟨vs, rfl, hs⟩ := shpV_agg (i0 := (X.ti 73).getD default) rfl rfl h
  obtain ⟨p, rfl, hp⟩ := dFt hs
  exact ⟨p, rfl, hp⟩
end Go.Eng
namespace Go.Eng
open Go Go.Proofs
/-! bytes that are handed in -/
theorem d_u8 {X : Cx} {t n : Nat} {i0 : TI} {vs : List PV} (hi : X.ti t = some i0) (hk : i0.k = .int .u8) (h : shp X n t vs) : ∃ m : Int, vs = [.int .u8 m] ∧ True := by
  cases n with
  | zero => cases h
  | succ n => unfold shp at h; rw [hi] at h; simp only [hk] at h; obtain ⟨m, hm, _⟩ := h; exact ⟨m, hm, trivial⟩
theorem curU8_map : ∀ l : List Int, curU8 (l.map fun m => [.int .u8 m]) = true
  | [] => rfl
  | _ :: r => curU8_map r
theorem dBy {n : Nat} {v : PV} (h : shpV X n 33 v) : ∃ (els : List (List PV)) (nl : Bool), v = .lst 1 nl els ∧ curU8 els = true := by
  have h := shpV_one (i0 := (X.ti 33).getD default) rfl rfl h
  obtain ⟨l, nl, e, h1, h2⟩ := d_slice (i0 := (X.ti 33).getD default) (sz := 1) (g := fun m : Int => [PV.int .u8 m]) (q := fun _ => True) rfl rfl rfl (fun _ _ => d_u8 (i0 := (X.ti 5).getD default) rfl rfl) h
  exact ⟨_, nl, (List.cons.inj e).1, curU8_map l⟩
end Go.Eng
namespace Go.Eng
open Go Go.Proofs
theorem law5 {pvs : List PV} (h : shpL X 8 [33] pvs) : Fn Tryz.prog 5 false pvs (.bool true) := by
  obtain ⟨_, _, rfl, h1, h2⟩ := shpL_cons h
  obtain rfl := shpL_nil h2
  obtain ⟨els, nl, rfl, hu⟩ := dBy h1
  exact f5 nl els hu
end Go.Eng
