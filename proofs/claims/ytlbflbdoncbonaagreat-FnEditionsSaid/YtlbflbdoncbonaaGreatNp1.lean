/- A part of the proof of a law's statement: for every input the law returns true and leaves its arguments as they were. No condition beyond the statement's own. What each function computes. -/
import Derived.WalkKit
import Derived.Deep.QuietTactic
import Derived.BigQuiet
import Derived.Laws.BitsLemmas
import Derived.Test.YtlbflbdoncbonaaGreatNi1
set_option linter.unusedVariables false
set_option linter.unusedSimpArgs false
set_option linter.unusedSectionVars false
set_option autoImplicit true
set_option relaxedAutoImplicit true
namespace Go.Eng
open Go Go.Proofs Go.RowKit
set_option linter.unusedSimpArgs false
set_option linter.unusedVariables false
set_option maxRecDepth 100000
set_option maxHeartbeats 4000000

/-! what draws are drawn from: the cursor's functions, walked -/
def curI : Value → Int | .int _ q => q | _ => 0
def Cu (w : World) (b : Nat) (sl : Value) (n h : Int) : Prop := ∃ ty, w.heap[b]? = some (.cells #[sl, .int .i64 n, .int .i64 h] ty (0, 0))
def Kw (b : Nat) (w w' : World) : Prop := w'.os = w.os ∧ w'.tape = w.tape ∧ w'.output = w.output ∧ w'.heap.size = w.heap.size ∧ ∀ k, k ≠ b → w'.heap[k]? = w.heap[k]?
theorem Kw.refl {b : Nat} {w : World} : Kw b w w := ⟨rfl, rfl, rfl, rfl, fun _ _ => rfl⟩
theorem Kw.trans {b : Nat} {w w' w'' : World} (h : Kw b w w') (h' : Kw b w' w'') : Kw b w w'' := ⟨h'.1.trans h.1, h'.2.1.trans h.2.1, h'.2.2.1.trans h.2.2.1, h'.2.2.2.1.trans h.2.2.2.1, fun k hk => (h'.2.2.2.2 k hk).trans (h.2.2.2.2 k hk)⟩
theorem Kw.set {b o : Nat} {w : World} {v : Value} : Kw b w (w.setCell ⟨b, o, none⟩ v) := ⟨rfl, rfl, rfl, by simp [World.setCell], fun k hk => by simp [World.setCell, Array.getElem?_modify]; intro h; exact absurd h.symm hk⟩
theorem Kw.drew {b : Nat} {w : World} : Kw b w w.drew := ⟨rfl, rfl, rfl, rfl, fun _ _ => rfl⟩
theorem Cu.c0 {w : World} {b : Nat} {sl : Value} {n h : Int} (H : Cu w b sl n h) : w.cell? ⟨b, 0, none⟩ = some sl := by obtain ⟨ty, h⟩ := H; simp [World.cell?, h]
theorem Cu.c1 {w : World} {b : Nat} {sl : Value} {n h : Int} (H : Cu w b sl n h) : w.cell? ⟨b, 1, none⟩ = some (.int .i64 n) := by obtain ⟨ty, h⟩ := H; simp [World.cell?, h]
theorem Cu.c2 {w : World} {b : Nat} {sl : Value} {n h : Int} (H : Cu w b sl n h) : w.cell? ⟨b, 2, none⟩ = some (.int .i64 h) := by obtain ⟨ty, h⟩ := H; simp [World.cell?, h]
theorem Cu.fz {w : World} {b o : Nat} {sl : Value} {n h : Int} (H : Cu w b sl n h) : w.frozen? ⟨b, o, none⟩ = false := by obtain ⟨ty, h⟩ := H; simp [World.frozen?, h]
theorem Cu.s2 {w : World} {b : Nat} {sl : Value} {n h x : Int} (H : Cu w b sl n h) : Cu (w.setCell ⟨b, 2, none⟩ (.int .i64 x)) b sl n x := by obtain ⟨ty, h⟩ := H; exact ⟨ty, by simp [World.setCell, Array.getElem?_modify, h]⟩
theorem Cu.s1 {w : World} {b : Nat} {sl : Value} {n h x : Int} (H : Cu w b sl n h) : Cu (w.setCell ⟨b, 1, none⟩ (.int .i64 x)) b sl x h := by obtain ⟨ty, h⟩ := H; exact ⟨ty, by simp [World.setCell, Array.getElem?_modify, h]⟩
theorem Cu.drN {w : World} {b : Nat} {sl : Value} {n h : Int} (H : Cu w b sl n h) (q : Nat) : Cu (w.drewN q) b sl n h := H
theorem Kw.drN {b : Nat} {w w' : World} (H : Kw b w w') (q : Nat) : Kw b w (w'.drewN q) := H
theorem and255 (x : Int) : 0 ≤ bits .and .i64 x 255 ∧ bits .and .i64 x 255 ≤ 255 := by
  have h : ((BitVec.ofInt 64 x &&& BitVec.ofInt 64 255).toNat) ≤ 255 := by
    rw [BitVec.toNat_and]; exact Nat.and_le_right
  have e : bits .and .i64 x 255 = IntKind.i64.wrap ((BitVec.ofInt 64 x &&& BitVec.ofInt 64 255).toNat : Int) := rfl
  rw [e, IntKind.wrap_i64]
  omega
theorem u8_rep {w : World} : ∀ {els : List (List PV)} {xs : List Value} {G : Foot}, curU8 els = true → RepL w els.flatten xs G → ∀ k, k < els.length → ∃ x, xs[k]? = some (.int .u8 x)
  | [], _, _, _, _, k, hk => by simp at hk
  | e :: r, xs, G, hc, h, k, hk => by
    match e, hc with
    | [.int .u8 n], hc =>
      obtain ⟨x, xs', F, G', rfl, rfl, hx, hr⟩ := RepL.cons_inv (v := .int .u8 n) (vs := r.flatten) h
      obtain ⟨rfl, rfl⟩ := hx.int_inv
      cases k with
      | zero => exact ⟨n, rfl⟩
      | succ k => exact u8_rep (els := r) hc hr k (by simpa using hk)
theorem cur_row {w : World} {nl : Bool} {els : List (List PV)} {sl : Value} {F : Foot} (h : Rep w (.lst 1 nl els) sl F) (hc : curEls els = true) :
    ∃ p l c, sl = .slice p l c ∧ l ≤ 9223372036854775807 ∧ ∀ k, k < l → ∃ a x, p = some a ∧ a.spot = none ∧ w.cell? ⟨a.block, a.off + k, none⟩ = some (.int .u8 x) ∧ ∃ g ∈ F, g.1 = a.block := by
  unfold curEls at hc
  simp only [Bool.and_eq_true, decide_eq_true_eq] at hc
  cases h with
  | nil => exact ⟨_, _, _, rfl, by omega, fun k hk => by omega⟩
  | emp => exact ⟨_, _, _, rfl, by omega, fun k hk => by omega⟩
  | lst hdr hcc hu ho hm hL =>
    refine ⟨_, _, _, rfl, hc.2, fun k hk => ?_⟩
    obtain ⟨x, hx⟩ := u8_rep hc.1 hL k hk
    have := hm k _ hx
    rw [addr_add_plain hdr.1] at this
    exact ⟨_, x, rfl, hdr.1, this, _, List.mem_cons_self .., rfl⟩
theorem cur_end {w w' : World} {b : Nat} {sl : Value} {k h x : Int} {nl : Bool} {els : List (List PV)} {F1 : Foot} (K : Kw b w w') (H : Cu w' b sl k h) (hk : 0 ≤ k) (hce : curEls els = true) (hrep : Rep w (.lst 1 nl els) sl F1)
    (hF1 : ∀ g ∈ F1, g.1 < w.heap.size ∧ g.1 ≠ b) (hx : 0 ≤ x ∧ x ≤ 255) :
    (∃ F1', CurAt w' (.pointer (some ⟨b, 0, none⟩)) b F1' ∧ ∀ g ∈ F1', ∃ g' ∈ F1, g'.1 = g.1 ∧ g.2 ≤ g'.2) ∧ RPost w w' [] false (fun v => ∃ x, v = i x ∧ 0 ≤ x ∧ x ≤ 255) [b] (.returned (.int .i64 x)) := by
  obtain ⟨ty, hb⟩ := H
  have hkeep : Keeps w w' F1 := fun e he => by
    have hne := (hF1 e he).2
    have he' := K.2.2.2.2 _ hne
    exact ⟨fun o _ => by unfold World.cell?; simp only; rw [he'], fun arr ty fr hh => ⟨arr, fr, by rw [he']; exact hh, rfl⟩⟩
  refine ⟨⟨F1, ⟨sl, k, h, ty, nl, els, rfl, hb, hk, hce, hrep.keep hkeep⟩, fun g hg => ⟨g, hg, rfl, Nat.le_refl _⟩⟩, _, [], i x, rfl, ⟨x, rfl, hx⟩, .int _ _, ⟨K.1, K.2.1, K.2.2.1, by rw [K.2.2.2.1]; exact Nat.le_refl _, fun j _ hj => K.2.2.2.2 j (by simpa using hj)⟩, by simp, by simp⟩
theorem f42 : FnR Tryz.prog 42 true false [] (fun v => ∃ x : Int, v = i x ∧ (0 ≤ x ∧ x ≤ 255)) := by
  refine ⟨by kernel_rfl, fun w xs Fs hi hr hlt => ?_⟩
  obtain ⟨rfl, rfl⟩ := hr.nil_inv
  simp only [if_true]
  rintro x0 b F1 hg ⟨sl, n, h, ty, nl, els, rfl, hb, hn0, hce, hrep⟩ hbs hF1 hFs
  have H : Cu w b sl n h := ⟨ty, hb⟩
  have c2 := H.c2
  have fz := H.fz (o := 2)
  go_enter Tryz.func42, Tryz.ntmps42
  go_wp
  have H1 := H.s2 (x := wrap64 (wrap64 (h * 6364136223846793005) + 1442695040888963407))
  have K1 : Kw b w (w.setCell ⟨b, 2, none⟩ (.int .i64 (wrap64 (wrap64 (h * 6364136223846793005) + 1442695040888963407)))) := Kw.set
  generalize hh : wrap64 (wrap64 (h * 6364136223846793005) + 1442695040888963407) = h2 at *
  generalize w.setCell ⟨b, 2, none⟩ (.int .i64 h2) = w1 at *
  clear c2 fz hb H
  have d2 := H1.c2
  go_quiet (fail)
  have H2 := H1.drN nq
  have K2 := K1.drN nq
  have hx := and255 (bits .xor .i64 (h2 / 8589934592) (h2 / 140737488355328))
  generalize bits .and .i64 (bits .xor .i64 (h2 / 8589934592) (h2 / 140737488355328)) 255 = x at *
  generalize w1.drewN nq = w2 at *
  clear H1 K1 d2
  have e1 := H2.c1
  have e0 := H2.c0
  obtain ⟨p, l, cc, rfl, hl, hrow⟩ := cur_row hrep hce
  obtain ⟨k, rfl⟩ : ∃ k : Nat, n = k := ⟨n.toNat, by omega⟩
  go_wp
  go_quiet (fail)
  have H3 := H2.drN nq
  have K3 := K2.drN nq
  generalize w2.drewN nq = w3 at *
  clear H2 K2 e0 e1
  have e1 := H3.c1
  have e0 := H3.c0
  have fz := H3.fz (o := 1)
  by_cases hkl : k < l
  · obtain ⟨pa, y, rfl, hsp, hcell, gg, hg1, hg2⟩ := hrow k hkl
    have hne : pa.block ≠ b := by rw [← hg2]; exact (hF1 gg hg1).2
    have hc3 : w3.cell? ⟨pa.block, pa.off + k, none⟩ = some (.int .u8 y) := by
      rw [← hcell]; unfold World.cell?; simp only; rw [K3.2.2.2.2 _ hne]
    obtain ⟨ab, ao, as'⟩ := pa
    simp only at hsp hc3 hne
    subst hsp
    simp only [hkl, decide_true]
    go_wp
    go_quiet (fail)
    have H4 := H3.drN nq
    have K4 := K3.drN nq
    have hx := and255 (wrap64 (x + wrap64 y))
    generalize bits .and .i64 (wrap64 (x + wrap64 y)) 255 = z at *
    generalize w3.drewN nq = w4 at *
    clear H3 K3 e0 e1 fz
    have e1 := H4.c1
    have fz := H4.fz (o := 1)
    have hw0 : 0 ≤ wrap64 ((k : Int) + 1) := by unfold wrap64; omega
    clear hl hkl hrow hcell hc3 hne hg1 hg2 hn0
    generalize (k : Int) = kk at *
    go_wp
    go_ret
    exact cur_end (K4.trans Kw.set) H4.s1 hw0 hce hrep hF1 hx
  · simp only [hkl, decide_false]
    go_wp
    go_ret
    exact cur_end K3 H3 (by omega) hce hrep hF1 hx
theorem new_end {w : World} {sl : Value} {h : Int} {ty : Nat} {nl : Bool} {els : List (List PV)} {F1 : Foot} (hce : curEls els = true) (hrep : Rep w (.lst 1 nl els) sl F1) (hF1 : ∀ g ∈ F1 ++ [], g.1 < w.heap.size) :
    ∃ x b F1', Ending.returned (.pointer (some ⟨w.heap.size, 0, none⟩)) = .returned x ∧ CurAt (w.alloc (.cells #[sl, .int .i64 0, .int .i64 h] ty)) x b F1' ∧ w.heap.size ≤ b ∧ b < (w.alloc (.cells #[sl, .int .i64 0, .int .i64 h] ty)).heap.size ∧
      (∀ g ∈ F1', ∃ g' ∈ F1 ++ [], g'.1 = g.1 ∧ g.2 ≤ g'.2) ∧ Below w.heap.size w (w.alloc (.cells #[sl, .int .i64 0, .int .i64 h] ty)) := by
  have hb : Below w.heap.size w (w.alloc (.cells #[sl, .int .i64 0, .int .i64 h] ty)) :=
    ⟨rfl, rfl, rfl, by rw [alloc_size]; omega, fun k hk => alloc_blocks w _ k hk⟩
  have hkeep : Keeps w (w.alloc (.cells #[sl, .int .i64 0, .int .i64 h] ty)) F1 := fun e he => by
    have he' := hb.block e.1 (hF1 e (by simpa using he))
    exact ⟨fun o _ => by unfold World.cell?; simp only; rw [he'], fun arr ty fr hh => ⟨arr, fr, by rw [he']; exact hh, rfl⟩⟩
  exact ⟨_, w.heap.size, F1, rfl, ⟨sl, 0, h, ty, nl, els, rfl, alloc_new w _, by omega, hce, hrep.keep hkeep⟩, Nat.le_refl _, by rw [alloc_size]; omega, fun g hg => ⟨g, by simpa using hg, rfl, Nat.le_refl _⟩, hb⟩
theorem f12 (nl : Bool) (els : List (List PV)) (hce : curEls els = true) : FnN Tryz.prog 12 [.lst 1 nl els] := by
  refine ⟨by kernel_rfl, fun w xs Fs hi hr hlt => ?_⟩
  obtain ⟨sl, xs', F1, F2, rfl, rfl, hrep, hr'⟩ := RepL.cons_inv hr
  obtain ⟨rfl, rfl⟩ := hr'.nil_inv
  obtain ⟨p, l, cc, rfl, hl, hrow⟩ := cur_row hrep hce
  go_enter Tryz.func12, Tryz.ntmps12
  go_wp
  go_loop [3, 4] (fun h n => ∃ (k : Nat) (x : Int), k ≤ l ∧ n = .int .i64 k ∧ h = .int .i64 x) (fun _ n => l - (curI n).toNat)
  case atStart => exact ⟨0, _, Nat.zero_le _, rfl, rfl⟩
  case round =>
    obtain ⟨k, x, hk, rfl, rfl⟩ := hrel
    have hcell : k < l → ∃ a y, p = some a ∧ a.spot = none ∧ w.cell? ⟨a.block, a.off + k, none⟩ = some (.int .u8 y) := fun hk => by obtain ⟨a, y, h1, h2, h3, _⟩ := hrow k hk; exact ⟨a, y, h1, h2, h3⟩
    have hw : k < l → wrap64 ((k : Int) + 1) = ((k + 1 : Nat) : Int) := fun hk => by unfold wrap64; omega
    by_cases hkl : k < l
    · obtain ⟨⟨ab, ao, asp⟩, y, rfl, hsp, hc3⟩ := hcell hkl
      simp only at hsp hc3
      subst hsp
      have hw := hw hkl
      by_cases h4 : k < 4000
      · clear hcell hrow hl
        go_wp
        refine ⟨⟨k + 1, _, by omega, by simp, rfl⟩, ?_⟩
        simp [curI]
        omega
      · clear hcell hrow hl
        go_wp
        go_ret
        exact new_end hce hrep hlt
    · clear hcell hrow hl
      go_wp
      go_ret
      exact new_end hce hrep hlt
theorem f28 (n : Int) (hn : n ≤ 16777215) : FnR Tryz.prog 28 true false [i n] (fun v => ∃ x : Int, v = i x ∧ (0 ≤ x ∧ (0 < n → x < n))) := by
  refine FnR.by_sxC hX (by kernel_rfl) c28 rfl rfl rfl (fun _ v => by rintro ⟨x, rfl, _⟩; rfl) ?_
  intro cs hcs
  simp [i28, sxa, isPtrN, PV.pcs, elAt, setEl, inAt, elIn, setIn, isLst, cellsOf, Ex.ok, Ex.val, Opd.val, POp.dst, bin_int, binOK_int, bin_str, binOK_str, resOK, resV, RB.val, sub, putc, scB, scL, oneB, conf, Ex.val.eqP, Ex.val.eqL, negV, mxV, mnV, ← wr_eq, wr_zero, wr_one, wr_m1, bst_lst, byteC, partsOK, putAll, appV, nilV, slV, sslV, optB, optNum, and_assoc, exists_and_left, exists_eq_left']
  refine CondS_d (fun h => ?_) (fun h => ?_)
  · repeat' (first | intro _ | (simp [sxa, isPtrN, PV.pcs, elAt, setEl, inAt, elIn, setIn, isLst, cellsOf, Ex.ok, Ex.val, Opd.val, POp.dst, bin_int, binOK_int, bin_str, binOK_str, resOK, resV, RB.val, sub, putc, scB, scL, oneB, conf, Ex.val.eqP, Ex.val.eqL, negV, mxV, mnV, ← wr_eq, wr_zero, wr_one, wr_m1, bst_lst, byteC, partsOK, putAll, appV, nilV, slV, sslV, optB, optNum, and_assoc, exists_and_left, exists_eq_left', *]) | refine CondS_d (fun h => ?_) (fun h => ?_) | refine CondS_b (fun h => ?_) (fun h => ?_) | refine GrdS_d (fun h => ?_) (fun h => ?_) | refine GrdS_b (fun h => ?_) (fun h => ?_) | refine OkS_i (by omega) ?_ | fail)
  simp [sxa, isPtrN, PV.pcs, elAt, setEl, inAt, elIn, setIn, isLst, cellsOf, Ex.ok, Ex.val, Opd.val, POp.dst, bin_int, binOK_int, bin_str, binOK_str, resOK, resV, RB.val, sub, putc, scB, scL, oneB, conf, Ex.val.eqP, Ex.val.eqL, negV, mxV, mnV, ← wr_eq, wr_zero, wr_one, wr_m1, bst_lst, byteC, partsOK, putAll, appV, nilV, slV, sslV, optB, optNum, and_assoc, exists_and_left, exists_eq_left']
  refine CondS_d (fun h2 => ?_) (fun h2 => ?_)
  · repeat' (first | intro _ | (simp [sxa, isPtrN, PV.pcs, elAt, setEl, inAt, elIn, setIn, isLst, cellsOf, Ex.ok, Ex.val, Opd.val, POp.dst, bin_int, binOK_int, bin_str, binOK_str, resOK, resV, RB.val, sub, putc, scB, scL, oneB, conf, Ex.val.eqP, Ex.val.eqL, negV, mxV, mnV, ← wr_eq, wr_zero, wr_one, wr_m1, bst_lst, byteC, partsOK, putAll, appV, nilV, slV, sslV, optB, optNum, and_assoc, exists_and_left, exists_eq_left', *]) | refine ⟨by assumption, CopC_i (f42) (fun _ _ => by first | exact ⟨fun _ => rfl, (fun h => by cases h)⟩ | exact ⟨(fun h => by cases h), fun _ => ⟨_, rfl⟩⟩ | exact ⟨(fun h => by cases h), (fun h => by cases h)⟩) (fun x cs hx hcs => ?_)⟩ | refine CopC_i (f42) (fun _ _ => by first | exact ⟨fun _ => rfl, (fun h => by cases h)⟩ | exact ⟨(fun h => by cases h), fun _ => ⟨_, rfl⟩⟩ | exact ⟨(fun h => by cases h), (fun h => by cases h)⟩) (fun x cs hx hcs => ?_) | refine CondS_d (fun h => ?_) (fun h => ?_) | refine CondS_b (fun h => ?_) (fun h => ?_) | refine GrdS_d (fun h => ?_) (fun h => ?_) | refine GrdS_b (fun h => ?_) (fun h => ?_) | refine OkS_i (by omega) ?_ | fail)
    rw [Int.tmod_eq_emod_of_nonneg (by omega)]
    exact ⟨Int.emod_nonneg _ (by omega), fun _ => Int.emod_lt_of_pos _ (by omega)⟩
  · repeat' (first | intro _ | (simp [sxa, isPtrN, PV.pcs, elAt, setEl, inAt, elIn, setIn, isLst, cellsOf, Ex.ok, Ex.val, Opd.val, POp.dst, bin_int, binOK_int, bin_str, binOK_str, resOK, resV, RB.val, sub, putc, scB, scL, oneB, conf, Ex.val.eqP, Ex.val.eqL, negV, mxV, mnV, ← wr_eq, wr_zero, wr_one, wr_m1, bst_lst, byteC, partsOK, putAll, appV, nilV, slV, sslV, optB, optNum, and_assoc, exists_and_left, exists_eq_left', *]) | refine ⟨by assumption, CopC_i (f42) (fun _ _ => by first | exact ⟨fun _ => rfl, (fun h => by cases h)⟩ | exact ⟨(fun h => by cases h), fun _ => ⟨_, rfl⟩⟩ | exact ⟨(fun h => by cases h), (fun h => by cases h)⟩) (fun x cs hx hcs => ?_)⟩ | refine CopC_i (f42) (fun _ _ => by first | exact ⟨fun _ => rfl, (fun h => by cases h)⟩ | exact ⟨(fun h => by cases h), fun _ => ⟨_, rfl⟩⟩ | exact ⟨(fun h => by cases h), (fun h => by cases h)⟩) (fun x cs hx hcs => ?_) | refine CondS_d (fun h => ?_) (fun h => ?_) | refine CondS_b (fun h => ?_) (fun h => ?_) | refine GrdS_d (fun h => ?_) (fun h => ?_) | refine GrdS_b (fun h => ?_) (fun h => ?_) | refine OkS_i (by omega) ?_ | fail)
    rename_i _ _ x0 _ g0 _ x1 _ g1 _
    rw [wr_in (n := x0 * 65536) (by omega) (by omega), wr_in (n := x1 * 256) (by omega) (by omega), wr_in (n := x0 * 65536 + x1 * 256) (by omega) (by omega), wr_in (by omega) (by omega), Int.tmod_eq_emod_of_nonneg (by omega)]
    exact ⟨Int.emod_nonneg _ (by omega), fun _ => Int.emod_lt_of_pos _ (by omega)⟩
theorem row_ints {w : World} : ∀ {ns : List Int} {xs : List Value} {G : Foot}, RepL w (ns.map fun m => [i m]).flatten xs G → ∀ (k : Nat) x, ns[k]? = some x → xs[k]? = some (Value.int .i64 x)
  | [], _, _, _, k, x, hk => by simp at hk
  | e :: r, xs, G, h, k, x, hk => by
    obtain ⟨y, xs', F, G', rfl, rfl, hx, hr⟩ := RepL.cons_inv (v := i e) (vs := (r.map fun m => [i m]).flatten) h
    obtain ⟨rfl, rfl⟩ := hx.int_inv
    cases k with
    | zero => simp at hk; subst hk; rfl
    | succ k => exact row_ints (ns := r) hr k x (by simpa using hk)
theorem f14 (ns : List Int) (nl : Bool) (h0 : 0 < ns.length) (h1 : ns.length ≤ 16777215) : FnR Tryz.prog 14 true false [.lst 1 nl (ns.map fun m => [i m])] (fun v => ∃ x : Int, v = i x ∧ x ∈ ns) := by
  refine ⟨by kernel_rfl, fun w xs Fs hi hr hlt => ?_⟩
  obtain ⟨sl, xs', F0, F2, rfl, rfl, hrep, hr'⟩ := RepL.cons_inv hr
  obtain ⟨rfl, rfl⟩ := hr'.nil_inv
  simp only [if_true]
  rintro x0 b F1 hg hcur hbs hF1 hFs
  have hrow : ∃ a c, sl = .slice (some a) ns.length c ∧ a.spot = none ∧ (a.block ≠ b) ∧ a.block < w.heap.size ∧ ∀ (k : Nat) x, ns[k]? = some x → w.cell? ⟨a.block, a.off + k, none⟩ = some (.int .i64 x) := by
    have hel : (ns.map fun m => [i m]).length = ns.length := List.length_map ..
    generalize hE : ns.map (fun m => [i m]) = E at *
    cases hrep with
    | nil => simp at hel; omega
    | emp => simp at hel; omega
    | lst hdr hcc hu ho hm hL =>
      subst hE
      refine ⟨_, _, by rw [hel], hdr.1, hFs _ (List.mem_append_left _ (List.mem_cons_self ..)), hlt _ (List.mem_append_left _ (List.mem_cons_self ..)), fun k x hk => ?_⟩
      have := hm k _ (row_ints hL k x hk)
      rwa [addr_add_plain hdr.1] at this
  obtain ⟨⟨ab, ao, asp⟩, cc, rfl, hsp, hne, hab, hcell⟩ := hrow
  simp only at hsp hne hab hcell
  subst hsp
  have hC := (f28 (ns.length : Int) (by omega)).2 w [.int .i64 ns.length] [] hi (.cons (.int _ _) .nil) (by simp)
  simp only [if_true] at hC
  have hC := hC x0 b F1 hg hcur hbs hF1 (by simp)
  go_enter Tryz.func14, Tryz.ntmps14
  go_wp
  refine hC.mono ?_
  rintro e w1 ⟨hcu, v, F', res, rfl, ⟨y, rfl, hy0, hy1⟩, hrv, hfr, hF', _⟩
  obtain ⟨rfl, rfl⟩ := hrv.int_inv
  have hy1 := hy1 (by omega)
  obtain ⟨k, rfl⟩ : ∃ k : Nat, y = k := ⟨y.toNat, by omega⟩
  have hk : k < ns.length := by omega
  have hc : w1.cell? ⟨ab, ao + k, none⟩ = some (.int .i64 ns[k]) := by
    rw [← hcell k _ (List.getElem?_eq_getElem hk)]; unfold World.cell?; simp only; rw [hfr.2.2.2.2 _ hab (by simpa using hne)]
  dsimp only
  go_wp
  go_ret
  exact ⟨hcu, _, [], i ns[k], rfl, ⟨_, rfl, List.getElem_mem hk⟩, .int _ _, hfr, by simp, by simp⟩
theorem row_strs {w : World} : ∀ {ns : List ByteArray} {xs : List Value} {G : Foot}, RepL w (ns.map fun m => [.str m]).flatten xs G → ∀ (k : Nat) x, ns[k]? = some x → xs[k]? = some (Value.string x)
  | [], _, _, _, k, x, hk => by simp at hk
  | e :: r, xs, G, h, k, x, hk => by
    obtain ⟨y, xs', F, G', rfl, rfl, hx, hr⟩ := RepL.cons_inv (v := .str e) (vs := (r.map fun m => [PV.str m]).flatten) h
    obtain ⟨rfl, rfl⟩ := hx.str_inv
    cases k with
    | zero => simp at hk; subst hk; rfl
    | succ k => exact row_strs (ns := r) hr k x (by simpa using hk)
theorem f29 (ns : List ByteArray) (nl : Bool) (h0 : 0 < ns.length) (h1 : ns.length ≤ 16777215) : FnR Tryz.prog 29 true false [.lst 1 nl (ns.map fun m => [.str m])] (fun v => ∃ x : ByteArray, v = .str x ∧ x ∈ ns) := by
  refine ⟨by kernel_rfl, fun w xs Fs hi hr hlt => ?_⟩
  obtain ⟨sl, xs', F0, F2, rfl, rfl, hrep, hr'⟩ := RepL.cons_inv hr
  obtain ⟨rfl, rfl⟩ := hr'.nil_inv
  simp only [if_true]
  rintro x0 b F1 hg hcur hbs hF1 hFs
  have hrow : ∃ a c, sl = .slice (some a) ns.length c ∧ a.spot = none ∧ (a.block ≠ b) ∧ a.block < w.heap.size ∧ ∀ (k : Nat) x, ns[k]? = some x → w.cell? ⟨a.block, a.off + k, none⟩ = some (.string x) := by
    have hel : (ns.map fun m => [PV.str m]).length = ns.length := List.length_map ..
    generalize hE : ns.map (fun m => [PV.str m]) = E at *
    cases hrep with
    | nil => simp at hel; omega
    | emp => simp at hel; omega
    | lst hdr hcc hu ho hm hL =>
      subst hE
      refine ⟨_, _, by rw [hel], hdr.1, hFs _ (List.mem_append_left _ (List.mem_cons_self ..)), hlt _ (List.mem_append_left _ (List.mem_cons_self ..)), fun k x hk => ?_⟩
      have := hm k _ (row_strs hL k x hk)
      rwa [addr_add_plain hdr.1] at this
  obtain ⟨⟨ab, ao, asp⟩, cc, rfl, hsp, hne, hab, hcell⟩ := hrow
  simp only at hsp hne hab hcell
  subst hsp
  have hC := (f28 (ns.length : Int) (by omega)).2 w [.int .i64 ns.length] [] hi (.cons (.int _ _) .nil) (by simp)
  simp only [if_true] at hC
  have hC := hC x0 b F1 hg hcur hbs hF1 (by simp)
  go_enter Tryz.func29, Tryz.ntmps29
  go_wp
  refine hC.mono ?_
  rintro e w1 ⟨hcu, v, F', res, rfl, ⟨y, rfl, hy0, hy1⟩, hrv, hfr, hF', _⟩
  obtain ⟨rfl, rfl⟩ := hrv.int_inv
  have hy1 := hy1 (by omega)
  obtain ⟨k, rfl⟩ : ∃ k : Nat, y = k := ⟨y.toNat, by omega⟩
  have hk : k < ns.length := by omega
  have hc : w1.cell? ⟨ab, ao + k, none⟩ = some (.string ns[k]) := by
    rw [← hcell k _ (List.getElem?_eq_getElem hk)]; unfold World.cell?; simp only; rw [hfr.2.2.2.2 _ hab (by simpa using hne)]
  dsimp only
  go_wp
  go_ret
  exact ⟨hcu, _, [], .str ns[k], rfl, ⟨_, rfl, List.getElem_mem hk⟩, .str _, hfr, by simp, by simp⟩
end Go.Eng
namespace Go.Eng
open Go
set_option linter.unusedSimpArgs false
set_option linter.unusedVariables false

structure Pt where
  f0 : Int
  f1 : Int
structure Sg where
  f0 : Pt
  f1 : Pt
/-! plain laws on numbers and lists -/
theorem wrap_id {x : Int} (h0 : -9223372036854775808 ≤ x) (h1 : x ≤ 9223372036854775807) : wr .i64 x = x := wr_in h0 h1
theorem wrap_down (i : Nat) (h : 0 < i) (hi : i ≤ 9223372036854775807) : wr .i64 ((i : Int) - 1) = ((i - 1 : Nat) : Int) := by rw [wr_in (by omega) (by omega)]; omega
namespace Geo
/-- the product that tells the side of p from a to b -/
def crs (ax ay bx by' px py : Int) : Int := (bx - ax) * (py - ay) - (by' - ay) * (px - ax)
theorem mul_pos_neg {a b : Int} (h : a * b < 0) : (0 < a ∧ b < 0) ∨ (a < 0 ∧ 0 < b) := by
  rcases Int.lt_trichotomy a 0 with ha | ha | ha
  · rcases Int.lt_trichotomy b 0 with hb | hb | hb
    · have := Int.mul_pos_of_neg_of_neg ha hb; omega
    · rw [hb] at h; omega
    · exact .inr ⟨ha, hb⟩
  · rw [ha] at h; omega
  · rcases Int.lt_trichotomy b 0 with hb | hb | hb
    · exact .inl ⟨ha, hb⟩
    · rw [hb] at h; omega
    · have := Int.mul_pos ha hb; omega
/-- weights: p, q positive; what lies at or below m is below what lies at or above M, if m < M -/
theorem weigh {p q r s x y z w m M : Int} (hp : 0 < p) (hq : 0 < q) (hr : 0 < r) (hs : 0 < s) (ht : p + q = r + s) (hx : x ≤ m) (hy : y ≤ m) (hz : M ≤ z) (hw : M ≤ w) (hm : m < M) : p * x + q * y < r * z + s * w := by
  have h1 : p * x ≤ p * m := Int.mul_le_mul_of_nonneg_left hx (by omega)
  have h2 : q * y ≤ q * m := Int.mul_le_mul_of_nonneg_left hy (by omega)
  have h3 : r * M ≤ r * z := Int.mul_le_mul_of_nonneg_left hz (by omega)
  have h4 : s * M ≤ s * w := Int.mul_le_mul_of_nonneg_left hw (by omega)
  have h5 : (p + q) * m < (p + q) * M := Int.mul_lt_mul_of_pos_left hm (by omega)
  have h6 : (p + q) * m = p * m + q * m := Int.add_mul ..
  have h7 : (p + q) * M = r * M + s * M := by rw [ht, Int.add_mul]
  omega
/-- Two segments of which each parts the ends of the other one: their X (or Y) are not apart. c, d: the sides of s's ends from t; a, b: those of t's ends from s. -/
theorem not_apart {a b c d x0 x1 z0 z1 : Int} (hab : a * b < 0) (hcd : c * d < 0) (hD : c - d = b - a) (hid : c * x1 - d * x0 = b * z0 - a * z1) {m M : Int} (h0 : x0 ≤ m) (h1 : x1 ≤ m) (h2 : M ≤ z0) (h3 : M ≤ z1) (hm : m < M) : False := by
  rcases mul_pos_neg hcd with ⟨hc, hd⟩ | ⟨hc, hd⟩
  · have ha : a < 0 ∧ 0 < b := by rcases mul_pos_neg hab with ⟨h, h'⟩ | ⟨h, h'⟩ <;> omega
    have := weigh (p := c) (q := -d) (r := b) (s := -a) hc (by omega) ha.2 (by omega) (by omega) h1 h0 h2 h3 hm
    have e1 : -d * x0 = -(d * x0) := Int.neg_mul ..
    have e2 : -a * z1 = -(a * z1) := Int.neg_mul ..
    omega
  · have ha : 0 < a ∧ b < 0 := by rcases mul_pos_neg hab with ⟨h, h'⟩ | ⟨h, h'⟩ <;> omega
    have := weigh (p := -c) (q := d) (r := -b) (s := a) (by omega) hd (by omega) ha.1 (by omega) h1 h0 h2 h3 hm
    have e1 : -c * x1 = -(c * x1) := Int.neg_mul ..
    have e2 : -b * z0 = -(b * z0) := Int.neg_mul ..
    omega
theorem not_apart' {a b c d x0 x1 z0 z1 : Int} (hab : a * b < 0) (hcd : c * d < 0) (hD : c - d = b - a) (hid : c * x1 - d * x0 = b * z0 - a * z1) {m M : Int} (h0 : z0 ≤ m) (h1 : z1 ≤ m) (h2 : M ≤ x0) (h3 : M ≤ x1) (hm : m < M) : False :=
  not_apart (a := c) (b := d) (c := a) (d := b) (x0 := z0) (x1 := z1) (z0 := x0) (z1 := x1) hcd hab (by omega) (by omega) h0 h1 h2 h3 hm
section
variable (ax ay bx by' cx cy dx dy : Int)
theorem id_D : crs cx cy dx dy ax ay - crs cx cy dx dy bx by' = crs ax ay bx by' dx dy - crs ax ay bx by' cx cy := by
  unfold crs
  simp only [Int.sub_mul, Int.mul_sub]
  simp only [Int.mul_comm]
  omega
theorem id_X : crs cx cy dx dy ax ay * bx - crs cx cy dx dy bx by' * ax = crs ax ay bx by' dx dy * cx - crs ax ay bx by' cx cy * dx := by
  unfold crs
  simp only [Int.sub_mul, Int.mul_sub]
  simp only [Int.mul_comm, Int.mul_left_comm, Int.mul_assoc]
  omega
theorem id_Y : crs cx cy dx dy ax ay * by' - crs cx cy dx dy bx by' * ay = crs ax ay bx by' dx dy * cy - crs ax ay bx by' cx cy * dy := by
  unfold crs
  simp only [Int.sub_mul, Int.mul_sub]
  simp only [Int.mul_comm, Int.mul_left_comm, Int.mul_assoc]
  omega
end
/-- two directions along a third one that is not null are along each other -/
theorem along {ux uy vx vy wx wy : Int} (hw : ¬ (wx = 0 ∧ wy = 0)) (hu : ux * wy = uy * wx) (hv : vx * wy = vy * wx) : ux * vy = uy * vx := by
  by_cases h : wx = 0
  · have hy : wy ≠ 0 := fun e => hw ⟨h, e⟩
    rw [h, Int.mul_zero] at hu hv
    have hu0 : ux = 0 := (Int.mul_eq_zero.1 hu).resolve_right hy
    have hv0 : vx = 0 := (Int.mul_eq_zero.1 hv).resolve_right hy
    rw [hu0, hv0]; omega
  · refine Int.eq_of_mul_eq_mul_right h ?_
    calc ux * vy * wx = ux * (vy * wx) := by rw [Int.mul_assoc]
      _ = ux * (vx * wy) := by rw [hv]
      _ = vx * (ux * wy) := by rw [Int.mul_left_comm]
      _ = vx * (uy * wx) := by rw [hu]
      _ = uy * vx * wx := by rw [Int.mul_left_comm, Int.mul_assoc]
end Geo
namespace Geo
def Btw (u w : Int) : Prop := (0 ≤ w ∧ w ≤ u) ∨ (u ≤ w ∧ w ≤ 0)
theorem btw_of {o k u w : Int} (hk : k ≠ 0) (hu : u ≠ 0) (h : o * u = w * k) (hb : Btw u w) : Btw k o := by
  rcases Int.lt_or_gt_of_ne hu with hu | hu <;> rcases Int.lt_or_gt_of_ne hk with hk | hk
  · -- u < 0, k < 0
    have hw : u ≤ w ∧ w ≤ 0 := by rcases hb with h | h <;> omega
    have h1 : 0 ≤ w * k := Int.mul_nonneg_of_nonpos_of_nonpos hw.2 (by omega)
    have h2 : w * k ≤ u * k := Int.mul_le_mul_of_nonpos_right hw.1 (by omega)
    right
    constructor
    · apply Int.not_lt.1
      intro hc
      have : k * u < o * u := Int.mul_lt_mul_of_neg_right hc hu
      have e : k * u = u * k := Int.mul_comm ..
      omega
    · apply Int.not_lt.1
      intro hc
      have : o * u < 0 := Int.mul_neg_of_pos_of_neg hc hu
      omega
  · -- u < 0, 0 < k
    have hw : u ≤ w ∧ w ≤ 0 := by rcases hb with h | h <;> omega
    have h1 : w * k ≤ 0 := Int.mul_nonpos_of_nonpos_of_nonneg hw.2 (by omega)
    have h2 : u * k ≤ w * k := Int.mul_le_mul_of_nonneg_right hw.1 (by omega)
    left
    constructor
    · apply Int.not_lt.1
      intro hc
      have : 0 < o * u := Int.mul_pos_of_neg_of_neg hc hu
      omega
    · apply Int.not_lt.1
      intro hc
      have : o * u < k * u := Int.mul_lt_mul_of_neg_right hc hu
      have e : k * u = u * k := Int.mul_comm ..
      omega
  · -- 0 < u, k < 0
    have hw : 0 ≤ w ∧ w ≤ u := by rcases hb with h | h <;> omega
    have h1 : w * k ≤ 0 := Int.mul_nonpos_of_nonneg_of_nonpos hw.1 (by omega)
    have h2 : u * k ≤ w * k := Int.mul_le_mul_of_nonpos_right hw.2 (by omega)
    right
    constructor
    · apply Int.not_lt.1
      intro hc
      have : o * u < k * u := Int.mul_lt_mul_of_pos_right hc hu
      have e : k * u = u * k := Int.mul_comm ..
      omega
    · apply Int.not_lt.1
      intro hc
      have : 0 < o * u := Int.mul_pos hc hu
      omega
  · -- 0 < u, 0 < k
    have hw : 0 ≤ w ∧ w ≤ u := by rcases hb with h | h <;> omega
    have h1 : 0 ≤ w * k := Int.mul_nonneg hw.1 (by omega)
    have h2 : w * k ≤ u * k := Int.mul_le_mul_of_nonneg_right hw.2 (by omega)
    left
    constructor
    · apply Int.not_lt.1
      intro hc
      have : o * u < 0 := Int.mul_neg_of_neg_of_pos hc hu
      omega
    · apply Int.not_lt.1
      intro hc
      have : k * u < o * u := Int.mul_lt_mul_of_pos_right hc hu
      have e : k * u = u * k := Int.mul_comm ..
      omega
theorem btw_iff {o k u w : Int} (hk : k ≠ 0) (hu : u ≠ 0) (h : o * u = w * k) : Btw u w ↔ Btw k o := ⟨btw_of hk hu h, btw_of hu hk h.symm⟩
/-- p lies in the box of a and b -/
def Inb (ax ay bx by' px py : Int) : Prop := (min ax bx ≤ px ∧ px ≤ max ax bx) ∧ (min ay by' ≤ py ∧ py ≤ max ay by')
/-- the place of a point in the order by Y and then by X -/
def K (x y : Int) : Int := 201 * y + x
def Vl (x : Int) : Prop := 0 ≤ x ∧ x ≤ 200
theorem kx {ux uy wx wy : Int} (e : ux * wy = uy * wx) : (201 * wy + wx) * ux = wx * (201 * uy + ux) := by
  have h1 : (201 * wy + wx) * ux = 201 * (ux * wy) + wx * ux := by rw [Int.add_mul, Int.mul_assoc, Int.mul_comm wy ux]
  have h2 : wx * (201 * uy + ux) = 201 * (uy * wx) + wx * ux := by rw [Int.mul_add, Int.mul_left_comm, Int.mul_comm wx uy]
  rw [h1, h2, e]
theorem ky {ux uy wx wy : Int} (e : ux * wy = uy * wx) : (201 * wy + wx) * uy = wy * (201 * uy + ux) := by
  have h1 : (201 * wy + wx) * uy = 201 * (wy * uy) + uy * wx := by rw [Int.add_mul, Int.mul_assoc, Int.mul_comm wx uy]
  have h2 : wy * (201 * uy + ux) = 201 * (wy * uy) + ux * wy := by rw [Int.mul_add, Int.mul_left_comm, Int.mul_comm wy ux]
  rw [h1, h2, e]
theorem lin {ux uy px py qx qy : Int} (h : ux * py - uy * px = 0) (h' : ux * qy - uy * qx = 0) : ux * (qy - py) = uy * (qx - px) := by
  rw [Int.mul_sub, Int.mul_sub]; omega
theorem lin2 {px py qx qy : Int} (h : px * qy = py * qx) : (qx - px) * (-py) - (qy - py) * (-px) = 0 := by
  rw [Int.mul_neg, Int.mul_neg, Int.sub_mul, Int.sub_mul, Int.mul_comm qx py, Int.mul_comm qy px, Int.mul_comm px py]; omega
theorem K_box {ax ay bx by' px py : Int} (v0 : Vl ax) (v1 : Vl ay) (v2 : Vl bx) (v3 : Vl by') (v4 : Vl px) (v5 : Vl py) (hne : ¬ (ax = bx ∧ ay = by')) (h : crs ax ay bx by' px py = 0) :
    Inb ax ay bx by' px py ↔ (min (K ax ay) (K bx by') ≤ K px py ∧ K px py ≤ max (K ax ay) (K bx by')) := by
  unfold Vl at *
  have hk : K bx by' - K ax ay ≠ 0 := by unfold K; omega
  have e : (bx - ax) * (py - ay) = (by' - ay) * (px - ax) := by unfold crs at h; omega
  have a1 : K px py - K ax ay = 201 * (py - ay) + (px - ax) := by unfold K; omega
  have a2 : K bx by' - K ax ay = 201 * (by' - ay) + (bx - ax) := by unfold K; omega
  have e1 : (K px py - K ax ay) * (bx - ax) = (px - ax) * (K bx by' - K ax ay) := by rw [a1, a2]; exact kx e
  have e2 : (K px py - K ax ay) * (by' - ay) = (py - ay) * (K bx by' - K ax ay) := by rw [a1, a2]; exact ky e
  have b0 : Inb ax ay bx by' px py ↔ Btw (bx - ax) (px - ax) ∧ Btw (by' - ay) (py - ay) := by unfold Inb Btw; omega
  have b1 : (min (K ax ay) (K bx by') ≤ K px py ∧ K px py ≤ max (K ax ay) (K bx by')) ↔ Btw (K bx by' - K ax ay) (K px py - K ax ay) := by unfold Btw; omega
  rw [b0, b1]
  have z : ∀ {o k u w : Int}, k ≠ 0 → o * u = w * k → u = 0 → w = 0 := by
    intro o k u w hk h hu
    rw [hu, Int.mul_zero] at h
    exact (Int.mul_eq_zero.1 h.symm).resolve_right hk
  by_cases cx : bx - ax = 0
  · have wx := z hk e1 cx
    have cy : by' - ay ≠ 0 := by omega
    rw [btw_iff hk cy e2, cx, wx]
    unfold Btw
    omega
  · rw [btw_iff hk cx e1]
    by_cases cy : by' - ay = 0
    · have wy := z hk e2 cy
      rw [cy, wy]
      unfold Btw
      omega
    · rw [btw_iff hk cy e2]
      exact ⟨fun h => h.1, fun h => ⟨h, h⟩⟩
theorem K_inj {ax ay bx by' : Int} (v0 : Vl ax) (v2 : Vl bx) : K ax ay = K bx by' ↔ ax = bx ∧ ay = by' := by unfold K Vl at *; omega
/-- four points on one line: the other two sides are null, too -/
theorem col_back {ax ay bx by' cx cy dx dy : Int} (hne : ¬ (ax = bx ∧ ay = by')) (h0 : crs ax ay bx by' cx cy = 0) (h1 : crs ax ay bx by' dx dy = 0) : crs cx cy dx dy ax ay = 0 ∧ crs cx cy dx dy bx by' = 0 := by
  have u0 : ¬ (bx - ax = 0 ∧ by' - ay = 0) := by omega
  have g0 : (cx - ax) * (by' - ay) = (cy - ay) * (bx - ax) := by unfold crs at h0; rw [Int.mul_comm (cy - ay), Int.mul_comm (cx - ax)]; omega
  have g1 : (dx - ax) * (by' - ay) = (dy - ay) * (bx - ax) := by unfold crs at h1; rw [Int.mul_comm (dy - ay), Int.mul_comm (dx - ax)]; omega
  have k0 := along u0 g0 g1
  have hD := id_D ax ay bx by' cx cy dx dy
  have e : crs cx cy dx dy ax ay = 0 := by
    unfold crs
    have a1 : dx - cx = (dx - ax) - (cx - ax) := by omega
    have a2 : dy - cy = (dy - ay) - (cy - ay) := by omega
    have a3 : ay - cy = -(cy - ay) := by omega
    have a4 : ax - cx = -(cx - ax) := by omega
    rw [a1, a2, a3, a4]
    exact lin2 k0
  exact ⟨e, by omega⟩
/-- two segments that are not on one line share at most one point -/
theorem one_shared {ax ay bx by' cx cy dx dy px py qx qy : Int} (ht : ¬ (cx = dx ∧ cy = dy)) (hn : ¬ (crs ax ay bx by' cx cy = 0 ∧ crs ax ay bx by' dx dy = 0)) (p0 : crs ax ay bx by' px py = 0) (p1 : crs cx cy dx dy px py = 0) (q0 : crs ax ay bx by' qx qy = 0) (q1 : crs cx cy dx dy qx qy = 0) : px = qx ∧ py = qy := by
  apply Classical.byContradiction
  intro hne
  apply hn
  have w0 : ¬ (qx - px = 0 ∧ qy - py = 0) := by omega
  have dif : ∀ {ax ay bx by' : Int}, crs ax ay bx by' px py = 0 → crs ax ay bx by' qx qy = 0 → (bx - ax) * (qy - py) = (by' - ay) * (qx - px) := by
    intro ax ay bx by' h h'
    have a1 : qy - py = (qy - ay) - (py - ay) := by omega
    have a2 : qx - px = (qx - ax) - (px - ax) := by omega
    rw [a1, a2]
    exact lin h h'
  have hu := dif p0 q0
  have hv := dif p1 q1
  have huv := along w0 hu hv
  have v0 : ¬ (dx - cx = 0 ∧ dy - cy = 0) := by omega
  -- from any point r on t's line: r - p is along v, so along u
  have onl : ∀ {rx ry : Int}, crs cx cy dx dy rx ry = 0 → crs ax ay bx by' rx ry = 0 := by
    intro rx ry hr
    have g : (rx - px) * (dy - cy) = (ry - py) * (dx - cx) := by
      have a1 : ry - py = (ry - cy) - (py - cy) := by omega
      have a2 : rx - px = (rx - cx) - (px - cx) := by omega
      rw [a1, a2, Int.mul_comm _ (dy - cy), Int.mul_comm _ (dx - cx)]
      exact (lin p1 hr).symm
    have g2 := along v0 huv g
    unfold crs at p0 ⊢
    have a1 : ry - ay = (ry - py) + (py - ay) := by omega
    have a2 : rx - ax = (rx - px) + (px - ax) := by omega
    rw [a1, a2, Int.mul_add, Int.mul_add]
    omega
  refine ⟨onl (rx := cx) (ry := cy) ?_, onl (rx := dx) (ry := dy) ?_⟩
  · unfold crs
    rw [Int.sub_self, Int.sub_self]
    omega
  · unfold crs
    rw [Int.mul_comm]
    omega
end Geo
open Geo
def M_IsPoint (x y : Int) : Bool := decide (0 ≤ x ∧ x ≤ 200) && decide (0 ≤ y ∧ y ≤ 200)
theorem M_IsPoint_iff (x y : Int) : M_IsPoint x y = true ↔ Vl x ∧ Vl y := by
  unfold M_IsPoint Vl
  rw [Bool.and_eq_true, decide_eq_true_iff, decide_eq_true_iff]
def M_IsSegment (ax ay bx by' : Int) : Bool := M_IsPoint ax ay && (M_IsPoint bx by' && !(decide (ax = bx ∧ ay = by')))
theorem M_IsSegment_iff (ax ay bx by' : Int) : M_IsSegment ax ay bx by' = true ↔ (Vl ax ∧ Vl ay) ∧ (Vl bx ∧ Vl by') ∧ ¬ (ax = bx ∧ ay = by') := by
  unfold M_IsSegment
  rw [Bool.and_eq_true, Bool.and_eq_true, M_IsPoint_iff, M_IsPoint_iff, Bool.not_eq_true', decide_eq_false_iff_not]
def sgn (z : Int) : Int := if z > 0 then 1 else if z < 0 then -1 else 0
theorem sgn_zero (z : Int) : sgn z = 0 ↔ z = 0 := by unfold sgn; split <;> (try split) <;> omega
theorem sgn_pos (z : Int) : 0 < sgn z ↔ 0 < z := by unfold sgn; split <;> (try split) <;> omega
theorem sgn_neg (z : Int) : sgn z < 0 ↔ z < 0 := by unfold sgn; split <;> (try split) <;> omega
theorem sgn_le (z : Int) : -1 ≤ sgn z ∧ sgn z ≤ 1 := by unfold sgn; split <;> (try split) <;> omega
theorem sgn_mul (x y : Int) : sgn x * sgn y < 0 ↔ x * y < 0 := by
  constructor
  · intro h
    rcases mul_pos_neg h with ⟨a, b⟩ | ⟨a, b⟩
    · exact Int.mul_neg_of_pos_of_neg ((sgn_pos x).1 a) ((sgn_neg y).1 b)
    · exact Int.mul_neg_of_neg_of_pos ((sgn_neg x).1 a) ((sgn_pos y).1 b)
  · intro h
    rcases mul_pos_neg h with ⟨a, b⟩ | ⟨a, b⟩
    · exact Int.mul_neg_of_pos_of_neg ((sgn_pos x).2 a) ((sgn_neg y).2 b)
    · exact Int.mul_neg_of_neg_of_pos ((sgn_neg x).2 a) ((sgn_pos y).2 b)
theorem mul_bound {x y : Int} (h0 : -200 ≤ x) (h1 : x ≤ 200) (h2 : -200 ≤ y) (h3 : y ≤ 200) : -40000 ≤ x * y ∧ x * y ≤ 40000 := by
  have a : (x + 200) * (y + 200) ≥ 0 := Int.mul_nonneg (by omega) (by omega)
  have b : (200 - x) * (200 - y) ≥ 0 := Int.mul_nonneg (by omega) (by omega)
  have c : (x + 200) * (200 - y) ≥ 0 := Int.mul_nonneg (by omega) (by omega)
  have d : (200 - x) * (y + 200) ≥ 0 := Int.mul_nonneg (by omega) (by omega)
  simp only [Int.add_mul, Int.mul_add, Int.sub_mul, Int.mul_sub] at a b c d
  omega
theorem crs_bound {ax ay bx by' px py : Int} (v0 : Vl ax) (v1 : Vl ay) (v2 : Vl bx) (v3 : Vl by') (v4 : Vl px) (v5 : Vl py) : -80000 ≤ crs ax ay bx by' px py ∧ crs ax ay bx by' px py ≤ 80000 := by
  unfold Vl at *
  unfold crs
  have h1 := mul_bound (x := bx - ax) (y := py - ay) (by omega) (by omega) (by omega) (by omega)
  have h2 := mul_bound (x := by' - ay) (y := px - ax) (by omega) (by omega) (by omega) (by omega)
  omega
theorem crs_wrap {ax ay bx by' px py : Int} (v0 : Vl ax) (v1 : Vl ay) (v2 : Vl bx) (v3 : Vl by') (v4 : Vl px) (v5 : Vl py) :
    wr .i64 ((wr .i64 ((wr .i64 (bx - ax)) * (wr .i64 (py - ay)))) - (wr .i64 ((wr .i64 (by' - ay)) * (wr .i64 (px - ax))))) = crs ax ay bx by' px py := by
  have h := crs_bound v0 v1 v2 v3 v4 v5
  unfold Vl at *
  have h1 := mul_bound (x := bx - ax) (y := py - ay) (by omega) (by omega) (by omega) (by omega)
  have h2 := mul_bound (x := by' - ay) (y := px - ax) (by omega) (by omega) (by omega) (by omega)
  rw [wrap_id (x := bx - ax) (by omega) (by omega), wrap_id (x := py - ay) (by omega) (by omega), wrap_id (x := by' - ay) (by omega) (by omega), wrap_id (x := px - ax) (by omega) (by omega), wrap_id (x := (bx - ax) * (py - ay)) (by omega) (by omega), wrap_id (x := (by' - ay) * (px - ax)) (by omega) (by omega)]
  unfold crs at h
  rw [wrap_id (by omega) (by omega)]
  rfl
def M_SideOf (ax ay bx by' px py : Int) : Int := if M_IsPoint ax ay && (M_IsPoint bx by' && M_IsPoint px py) then sgn (crs ax ay bx by' px py) else 0
instance (ax ay bx by' px py : Int) : Decidable (Inb ax ay bx by' px py) := by unfold Inb; infer_instance
def On (ax ay bx by' px py : Int) : Prop := crs ax ay bx by' px py = 0 ∧ Inb ax ay bx by' px py
instance (ax ay bx by' px py : Int) : Decidable (On ax ay bx by' px py) := by unfold On; infer_instance
def M_IsOn (ax ay bx by' px py : Int) : Bool := M_IsSegment ax ay bx by' && (M_IsPoint px py && decide (On ax ay bx by' px py))
def M_HowMeet (ax ay bx by' cx cy dx dy : Int) : Int :=
  if M_IsSegment ax ay bx by' = true ∧ M_IsSegment cx cy dx dy = true then
    if crs ax ay bx by' cx cy = 0 ∧ crs ax ay bx by' dx dy = 0 then
      if min (max (K ax ay) (K bx by')) (max (K cx cy) (K dx dy)) < max (min (K ax ay) (K bx by')) (min (K cx cy) (K dx dy)) then 0
      else if max (min (K ax ay) (K bx by')) (min (K cx cy) (K dx dy)) = min (max (K ax ay) (K bx by')) (max (K cx cy) (K dx dy)) then 1 else 3
    else if crs ax ay bx by' cx cy * crs ax ay bx by' dx dy < 0 ∧ crs cx cy dx dy ax ay * crs cx cy dx dy bx by' < 0 then 2
    else if On ax ay bx by' cx cy ∨ On ax ay bx by' dx dy ∨ On cx cy dx dy ax ay ∨ On cx cy dx dy bx by' then 1 else 0
  else 0
/-- the boxes of two segments are apart -/
def Apart (ax ay bx by' cx cy dx dy : Int) : Prop := max ax bx < min cx dx ∨ max cx dx < min ax bx ∨ max ay by' < min cy dy ∨ max cy dy < min ay by'
instance (ax ay bx by' cx cy dx dy : Int) : Decidable (Apart ax ay bx by' cx cy dx dy) := by unfold Apart; infer_instance
theorem apart_no {ax ay bx by' cx cy dx dy : Int} (h : Apart ax ay bx by' cx cy dx dy) : ¬ On ax ay bx by' cx cy ∧ ¬ On ax ay bx by' dx dy ∧ ¬ On cx cy dx dy ax ay ∧ ¬ On cx cy dx dy bx by' := by
  unfold On Inb
  unfold Apart at h
  refine ⟨?_, ?_, ?_, ?_⟩ <;> (rintro ⟨_, h1⟩; omega)
theorem apart_cross {ax ay bx by' cx cy dx dy : Int} (h : Apart ax ay bx by' cx cy dx dy) : ¬ (crs ax ay bx by' cx cy * crs ax ay bx by' dx dy < 0 ∧ crs cx cy dx dy ax ay * crs cx cy dx dy bx by' < 0) := by
  rintro ⟨hab, hcd⟩
  have hD := id_D ax ay bx by' cx cy dx dy
  have hX := id_X ax ay bx by' cx cy dx dy
  have hY := id_Y ax ay bx by' cx cy dx dy
  rcases h with h | h | h | h
  · exact not_apart hab hcd hD hX (m := max ax bx) (M := min cx dx) (by omega) (by omega) (by omega) (by omega) h
  · exact not_apart' hab hcd hD hX (m := max cx dx) (M := min ax bx) (by omega) (by omega) (by omega) (by omega) h
  · exact not_apart hab hcd hD hY (m := max ay by') (M := min cy dy) (by omega) (by omega) (by omega) (by omega) h
  · exact not_apart' hab hcd hD hY (m := max cy dy) (M := min ay by') (by omega) (by omega) (by omega) (by omega) h
theorem crs_self0 (ax ay bx by' : Int) : crs ax ay bx by' ax ay = 0 := by unfold crs; rw [Int.sub_self, Int.sub_self]; omega
theorem crs_self1 (ax ay bx by' : Int) : crs ax ay bx by' bx by' = 0 := by unfold crs; rw [Int.mul_comm]; omega
/-- how many different ends of both lie on the other one, as the reference counts them -/
def M_Shared (ax ay bx by' cx cy dx dy : Int) : Int :=
  (if On cx cy dx dy ax ay then 1 else 0) + (if On cx cy dx dy bx by' then 1 else 0)
    + (if On ax ay bx by' cx cy ∧ ¬ (On cx cy dx dy ax ay ∧ ax = cx ∧ ay = cy) ∧ ¬ (On cx cy dx dy bx by' ∧ bx = cx ∧ by' = cy) then 1 else 0)
    + (if On ax ay bx by' dx dy ∧ ¬ (On cx cy dx dy ax ay ∧ ax = dx ∧ ay = dy) ∧ ¬ (On cx cy dx dy bx by' ∧ bx = dx ∧ by' = dy) then 1 else 0)
theorem ifc {p q : Prop} [Decidable p] [Decidable q] {α : Type} (h : p ↔ q) (a b : α) : (if p then a else b) = if q then a else b := by
  by_cases hp : p
  · rw [if_pos hp, if_pos (h.1 hp)]
  · rw [if_neg hp, if_neg (fun hq => hp (h.2 hq))]
theorem M_HowMeet_spec {ax ay bx by' cx cy dx dy : Int} (v0 : Vl ax) (v1 : Vl ay) (v2 : Vl bx) (v3 : Vl by') (hs : ¬ (ax = bx ∧ ay = by')) (w0 : Vl cx) (w1 : Vl cy) (w2 : Vl dx) (w3 : Vl dy) (ht : ¬ (cx = dx ∧ cy = dy)) :
    M_HowMeet ax ay bx by' cx cy dx dy =
      if Apart ax ay bx by' cx cy dx dy then 0
      else if M_Shared ax ay bx by' cx cy dx dy = 0 then (if crs ax ay bx by' cx cy * crs ax ay bx by' dx dy < 0 ∧ crs cx cy dx dy ax ay * crs cx cy dx dy bx by' < 0 then 2 else 0)
      else if M_Shared ax ay bx by' cx cy dx dy = 1 then 1 else 3 := by
  unfold M_HowMeet
  rw [if_pos ⟨(M_IsSegment_iff ..).2 ⟨⟨v0, v1⟩, ⟨v2, v3⟩, hs⟩, (M_IsSegment_iff ..).2 ⟨⟨w0, w1⟩, ⟨w2, w3⟩, ht⟩⟩]
  by_cases col : crs ax ay bx by' cx cy = 0 ∧ crs ax ay bx by' dx dy = 0
  · -- on one line
    rw [if_pos col]
    have back := col_back hs col.1 col.2
    have o0 : On cx cy dx dy ax ay ↔ _ := ⟨fun h => (K_box w0 w1 w2 w3 v0 v1 ht back.1).1 h.2, fun h => ⟨back.1, (K_box w0 w1 w2 w3 v0 v1 ht back.1).2 h⟩⟩
    have o1 : On cx cy dx dy bx by' ↔ _ := ⟨fun h => (K_box w0 w1 w2 w3 v2 v3 ht back.2).1 h.2, fun h => ⟨back.2, (K_box w0 w1 w2 w3 v2 v3 ht back.2).2 h⟩⟩
    have o2 : On ax ay bx by' cx cy ↔ _ := ⟨fun h => (K_box v0 v1 v2 v3 w0 w1 hs col.1).1 h.2, fun h => ⟨col.1, (K_box v0 v1 v2 v3 w0 w1 hs col.1).2 h⟩⟩
    have o3 : On ax ay bx by' dx dy ↔ _ := ⟨fun h => (K_box v0 v1 v2 v3 w2 w3 hs col.2).1 h.2, fun h => ⟨col.2, (K_box v0 v1 v2 v3 w2 w3 hs col.2).2 h⟩⟩
    have ap : Apart ax ay bx by' cx cy dx dy → ¬ On cx cy dx dy ax ay ∧ ¬ On cx cy dx dy bx by' ∧ ¬ On ax ay bx by' cx cy ∧ ¬ On ax ay bx by' dx dy := fun h => ⟨(apart_no h).2.2.1, (apart_no h).2.2.2, (apart_no h).1, (apart_no h).2.1⟩
    rw [o0, o1, o2, o3] at ap
    have ks : K ax ay ≠ K bx by' := fun e => hs ((K_inj v0 v2).1 e)
    have kt : K cx cy ≠ K dx dy := fun e => ht ((K_inj w0 w2).1 e)
    have nc : ¬ (crs ax ay bx by' cx cy * crs ax ay bx by' dx dy < 0 ∧ crs cx cy dx dy ax ay * crs cx cy dx dy bx by' < 0) := by rw [col.1, Int.zero_mul]; omega
    have sh : M_Shared ax ay bx by' cx cy dx dy =
        (if min (K cx cy) (K dx dy) ≤ K ax ay ∧ K ax ay ≤ max (K cx cy) (K dx dy) then 1 else 0) + (if min (K cx cy) (K dx dy) ≤ K bx by' ∧ K bx by' ≤ max (K cx cy) (K dx dy) then 1 else 0)
          + (if (min (K ax ay) (K bx by') ≤ K cx cy ∧ K cx cy ≤ max (K ax ay) (K bx by')) ∧ ¬ K ax ay = K cx cy ∧ ¬ K bx by' = K cx cy then 1 else 0)
          + (if (min (K ax ay) (K bx by') ≤ K dx dy ∧ K dx dy ≤ max (K ax ay) (K bx by')) ∧ ¬ K ax ay = K dx dy ∧ ¬ K bx by' = K dx dy then 1 else 0) := by
      unfold M_Shared
      rw [ifc o0, ifc o1]
      congr 1
      · congr 1
        refine ifc ?_ _ _
        rw [o0, o1, o2, ← K_inj v0 w0 (ay := ay) (by' := cy), ← K_inj v2 w0 (ay := by') (by' := cy)]
        omega
      · refine ifc ?_ _ _
        rw [o0, o1, o3, ← K_inj v0 w2 (ay := ay) (by' := dy), ← K_inj v2 w2 (ay := by') (by' := dy)]
        omega
    rw [if_neg nc, sh]
    generalize K ax ay = a at *
    generalize K bx by' = b at *
    generalize K cx cy = c at *
    generalize K dx dy = d at *
    clear o0 o1 o2 o3 sh nc
    by_cases hap : Apart ax ay bx by' cx cy dx dy
    · have := ap hap
      rw [if_pos hap, if_pos (by omega)]
    · rw [if_neg hap]
      clear ap
      split <;> split <;> split <;> split <;> (repeat' split) <;> omega
  · rw [if_neg col]
    have one : ∀ {px py qx qy : Int}, crs ax ay bx by' px py = 0 → crs cx cy dx dy px py = 0 → crs ax ay bx by' qx qy = 0 → crs cx cy dx dy qx qy = 0 → px = qx ∧ py = qy := fun p0 p1 q0 q1 => one_shared ht col p0 p1 q0 q1
    have s0 := crs_self0 ax ay bx by'
    have s1 := crs_self1 ax ay bx by'
    have t0 := crs_self0 cx cy dx dy
    have t1 := crs_self1 cx cy dx dy
    have e01 : ¬ (On cx cy dx dy ax ay ∧ On cx cy dx dy bx by') := fun ⟨h, h'⟩ => hs (one s0 h.1 s1 h'.1)
    have e23 : ¬ (On ax ay bx by' cx cy ∧ On ax ay bx by' dx dy) := fun ⟨h, h'⟩ => ht (one h.1 t0 h'.1 t1)
    have e02 : On cx cy dx dy ax ay → On ax ay bx by' cx cy → ax = cx ∧ ay = cy := fun h h' => one s0 h.1 h'.1 t0
    have e03 : On cx cy dx dy ax ay → On ax ay bx by' dx dy → ax = dx ∧ ay = dy := fun h h' => one s0 h.1 h'.1 t1
    have e12 : On cx cy dx dy bx by' → On ax ay bx by' cx cy → bx = cx ∧ by' = cy := fun h h' => one s1 h.1 h'.1 t0
    have e13 : On cx cy dx dy bx by' → On ax ay bx by' dx dy → bx = dx ∧ by' = dy := fun h h' => one s1 h.1 h'.1 t1
    have sh : M_Shared ax ay bx by' cx cy dx dy = if On ax ay bx by' cx cy ∨ On ax ay bx by' dx dy ∨ On cx cy dx dy ax ay ∨ On cx cy dx dy bx by' then 1 else 0 := by
      unfold M_Shared
      by_cases h0 : On cx cy dx dy ax ay <;> by_cases h1 : On cx cy dx dy bx by' <;> by_cases h2 : On ax ay bx by' cx cy <;> by_cases h3 : On ax ay bx by' dx dy
      all_goals first
        | exact absurd (And.intro h0 h1) e01
        | exact absurd (And.intro h2 h3) e23
        | (have t := eq_true (e02 h0 h2); simp only [h0, h1, h2, h3, t, if_true, if_false, and_true, true_and, false_and, and_false, not_true, not_false_eq_true, or_true, true_or, or_false, false_or]; first | done | rfl)
        | (have t := eq_true (e03 h0 h3); simp only [h0, h1, h2, h3, t, if_true, if_false, and_true, true_and, false_and, and_false, not_true, not_false_eq_true, or_true, true_or, or_false, false_or]; first | done | rfl)
        | (have t := eq_true (e12 h1 h2); simp only [h0, h1, h2, h3, t, if_true, if_false, and_true, true_and, false_and, and_false, not_true, not_false_eq_true, or_true, true_or, or_false, false_or]; first | done | rfl)
        | (have t := eq_true (e13 h1 h3); simp only [h0, h1, h2, h3, t, if_true, if_false, and_true, true_and, false_and, and_false, not_true, not_false_eq_true, or_true, true_or, or_false, false_or]; first | done | rfl)
        | (simp only [h0, h1, h2, h3, if_true, if_false, and_true, true_and, false_and, and_false, not_true, not_false_eq_true, or_true, true_or, or_false, false_or]; first | done | rfl)
        | (simp only [h0, h1, h2, h3, if_true, if_false, and_true, true_and, false_and, and_false, not_true, not_false_eq_true, or_true, true_or, or_false, false_or]; first | done | rfl)
    rw [sh]
    have cz : crs ax ay bx by' cx cy * crs ax ay bx by' dx dy < 0 ∧ crs cx cy dx dy ax ay * crs cx cy dx dy bx by' < 0 → ¬ (On ax ay bx by' cx cy ∨ On ax ay bx by' dx dy ∨ On cx cy dx dy ax ay ∨ On cx cy dx dy bx by') := by
      rintro ⟨g, g'⟩ (h | h | h | h)
      · rw [h.1, Int.zero_mul] at g; omega
      · rw [h.1, Int.mul_zero] at g; omega
      · rw [h.1, Int.zero_mul] at g'; omega
      · rw [h.1, Int.mul_zero] at g'; omega
    by_cases hap : Apart ax ay bx by' cx cy dx dy
    · have n := apart_no hap
      rw [if_pos hap, if_neg (apart_cross hap), if_neg (by simp [n.1, n.2.1, n.2.2.1, n.2.2.2])]
    · rw [if_neg hap]
      by_cases any : On ax ay bx by' cx cy ∨ On ax ay bx by' dx dy ∨ On cx cy dx dy ax ay ∨ On cx cy dx dy bx by'
      · rw [if_pos any, if_neg (fun h => cz h any), if_neg (by decide), if_pos rfl]
      · rw [if_neg any, if_pos rfl]
end Go.Eng
namespace Go.Eng
open Go Go.Proofs Geo
set_option linter.unusedSimpArgs false
set_option linter.unusedVariables false
set_option maxRecDepth 20000

def inR (x l m : Int) : Bool := decide (l ≤ x ∧ x ≤ m)
theorem f59 (x l m : Int) : Fn Tryz.prog 59 false [i x, i l, i m] (.bool (inR x l m)) := by
  refine Fn.by_sx hX (by kernel_rfl) c59 (by kernel_rfl) (by rfl) ?_
  simp [i59, sxa, isPtrN, PV.pcs, elAt, setEl, inAt, elIn, setIn, isLst, cellsOf, Ex.ok, Ex.val, Opd.val, POp.dst, bin_int, binOK_int, bin_str, binOK_str, resOK, resV, RB.val, sub, putc, scB, scL, oneB, conf, Ex.val.eqP, Ex.val.eqL, negV, mxV, mnV, ← wr_eq, wr_zero, wr_one, wr_m1, bst_lst, byteC, partsOK, putAll, appV, nilV, slV, sslV, optB, optNum, and_assoc, exists_and_left, exists_eq_left']
  repeat' (first | intro _ | (simp [sxa, isPtrN, PV.pcs, elAt, setEl, inAt, elIn, setIn, isLst, cellsOf, Ex.ok, Ex.val, Opd.val, POp.dst, bin_int, binOK_int, bin_str, binOK_str, resOK, resV, RB.val, sub, putc, scB, scL, oneB, conf, Ex.val.eqP, Ex.val.eqL, negV, mxV, mnV, ← wr_eq, wr_zero, wr_one, wr_m1, bst_lst, byteC, partsOK, putAll, appV, nilV, slV, sslV, optB, optNum, and_assoc, exists_and_left, exists_eq_left', *]) | refine CondS_d (fun h => ?_) (fun h => ?_) | refine CondS_b (fun h => ?_) (fun h => ?_) | refine GrdS_d (fun h => ?_) (fun h => ?_) | refine GrdS_b (fun h => ?_) (fun h => ?_) | refine OkS_i (by omega) ?_ | fail)
  all_goals simp_all [inR]; try omega

theorem f19 (x l m : Int) : Fn Tryz.prog 19 false [i x, i l, i m] (.bool (inR x l m)) := by
  refine Fn.by_sx hX (by kernel_rfl) c19 (by kernel_rfl) (by rfl) ?_
  simp [i19, sxa, isPtrN, PV.pcs, elAt, setEl, inAt, elIn, setIn, isLst, cellsOf, Ex.ok, Ex.val, Opd.val, POp.dst, bin_int, binOK_int, bin_str, binOK_str, resOK, resV, RB.val, sub, putc, scB, scL, oneB, conf, Ex.val.eqP, Ex.val.eqL, negV, mxV, mnV, ← wr_eq, wr_zero, wr_one, wr_m1, bst_lst, byteC, partsOK, putAll, appV, nilV, slV, sslV, optB, optNum, and_assoc, exists_and_left, exists_eq_left']
  repeat' (first | intro _ | (simp [sxa, isPtrN, PV.pcs, elAt, setEl, inAt, elIn, setIn, isLst, cellsOf, Ex.ok, Ex.val, Opd.val, POp.dst, bin_int, binOK_int, bin_str, binOK_str, resOK, resV, RB.val, sub, putc, scB, scL, oneB, conf, Ex.val.eqP, Ex.val.eqL, negV, mxV, mnV, ← wr_eq, wr_zero, wr_one, wr_m1, bst_lst, byteC, partsOK, putAll, appV, nilV, slV, sslV, optB, optNum, and_assoc, exists_and_left, exists_eq_left', *]) | refine CondS_d (fun h => ?_) (fun h => ?_) | refine CondS_b (fun h => ?_) (fun h => ?_) | refine GrdS_d (fun h => ?_) (fun h => ?_) | refine GrdS_b (fun h => ?_) (fun h => ?_) | refine OkS_i (by omega) ?_ | fail)
  all_goals simp_all [inR]; try omega
theorem f104 (x y : Int) : Fn Tryz.prog 104 false [i x, i y] (i (max x y)) := by
  refine Fn.by_sx hX (by kernel_rfl) c104 (by kernel_rfl) (by rfl) ?_
  simp [i104, sxa, isPtrN, PV.pcs, elAt, setEl, inAt, elIn, setIn, isLst, cellsOf, Ex.ok, Ex.val, Opd.val, POp.dst, bin_int, binOK_int, bin_str, binOK_str, resOK, resV, RB.val, sub, putc, scB, scL, oneB, conf, Ex.val.eqP, Ex.val.eqL, negV, mxV, mnV, ← wr_eq, wr_zero, wr_one, wr_m1, bst_lst, byteC, partsOK, putAll, appV, nilV, slV, sslV, optB, optNum, and_assoc, exists_and_left, exists_eq_left']
  repeat' (first | intro _ | (simp [sxa, isPtrN, PV.pcs, elAt, setEl, inAt, elIn, setIn, isLst, cellsOf, Ex.ok, Ex.val, Opd.val, POp.dst, bin_int, binOK_int, bin_str, binOK_str, resOK, resV, RB.val, sub, putc, scB, scL, oneB, conf, Ex.val.eqP, Ex.val.eqL, negV, mxV, mnV, ← wr_eq, wr_zero, wr_one, wr_m1, bst_lst, byteC, partsOK, putAll, appV, nilV, slV, sslV, optB, optNum, and_assoc, exists_and_left, exists_eq_left', *]) | refine CondS_d (fun h => ?_) (fun h => ?_) | refine CondS_b (fun h => ?_) (fun h => ?_) | refine GrdS_d (fun h => ?_) (fun h => ?_) | refine GrdS_b (fun h => ?_) (fun h => ?_) | refine OkS_i (by omega) ?_ | fail)
  all_goals omega
theorem f64 (x y : Int) : Fn Tryz.prog 64 false [i x, i y] (i (min x y)) := by
  refine Fn.by_sx hX (by kernel_rfl) c64 (by kernel_rfl) (by rfl) ?_
  simp [i64, sxa, isPtrN, PV.pcs, elAt, setEl, inAt, elIn, setIn, isLst, cellsOf, Ex.ok, Ex.val, Opd.val, POp.dst, bin_int, binOK_int, bin_str, binOK_str, resOK, resV, RB.val, sub, putc, scB, scL, oneB, conf, Ex.val.eqP, Ex.val.eqL, negV, mxV, mnV, ← wr_eq, wr_zero, wr_one, wr_m1, bst_lst, byteC, partsOK, putAll, appV, nilV, slV, sslV, optB, optNum, and_assoc, exists_and_left, exists_eq_left']
  repeat' (first | intro _ | (simp [sxa, isPtrN, PV.pcs, elAt, setEl, inAt, elIn, setIn, isLst, cellsOf, Ex.ok, Ex.val, Opd.val, POp.dst, bin_int, binOK_int, bin_str, binOK_str, resOK, resV, RB.val, sub, putc, scB, scL, oneB, conf, Ex.val.eqP, Ex.val.eqL, negV, mxV, mnV, ← wr_eq, wr_zero, wr_one, wr_m1, bst_lst, byteC, partsOK, putAll, appV, nilV, slV, sslV, optB, optNum, and_assoc, exists_and_left, exists_eq_left', *]) | refine CondS_d (fun h => ?_) (fun h => ?_) | refine CondS_b (fun h => ?_) (fun h => ?_) | refine GrdS_d (fun h => ?_) (fun h => ?_) | refine GrdS_b (fun h => ?_) (fun h => ?_) | refine OkS_i (by omega) ?_ | fail)
  all_goals omega
theorem f92 (x y : Int) : Fn Tryz.prog 92 false [.agg [i x, i y]] (.bool (M_IsPoint x y)) := by
  refine Fn.by_sx hX (by kernel_rfl) c92 (by kernel_rfl) (by rfl) ?_
  simp [i92, sxa, isPtrN, PV.pcs, elAt, setEl, inAt, elIn, setIn, isLst, cellsOf, Ex.ok, Ex.val, Opd.val, POp.dst, bin_int, binOK_int, bin_str, binOK_str, resOK, resV, RB.val, sub, putc, scB, scL, oneB, conf, Ex.val.eqP, Ex.val.eqL, negV, mxV, mnV, ← wr_eq, wr_zero, wr_one, wr_m1, bst_lst, byteC, partsOK, putAll, appV, nilV, slV, sslV, optB, optNum, and_assoc, exists_and_left, exists_eq_left']
  repeat' (first | intro _ | (simp [sxa, isPtrN, PV.pcs, elAt, setEl, inAt, elIn, setIn, isLst, cellsOf, Ex.ok, Ex.val, Opd.val, POp.dst, bin_int, binOK_int, bin_str, binOK_str, resOK, resV, RB.val, sub, putc, scB, scL, oneB, conf, Ex.val.eqP, Ex.val.eqL, negV, mxV, mnV, ← wr_eq, wr_zero, wr_one, wr_m1, bst_lst, byteC, partsOK, putAll, appV, nilV, slV, sslV, optB, optNum, and_assoc, exists_and_left, exists_eq_left', *]) | refine CallS_b (f59 _ _ _) (fun h => ?_) (fun h => ?_) | refine CondS_d (fun h => ?_) (fun h => ?_) | refine CondS_b (fun h => ?_) (fun h => ?_) | refine GrdS_d (fun h => ?_) (fun h => ?_) | refine GrdS_b (fun h => ?_) (fun h => ?_) | refine OkS_i (by omega) ?_ | fail)
  all_goals simp_all [M_IsPoint, inR]
  all_goals omega

theorem f51 (x y : Int) : Fn Tryz.prog 51 false [.agg [i x, i y]] (.bool (M_IsPoint x y)) := by
  refine Fn.by_sx hX (by kernel_rfl) c51 (by kernel_rfl) (by rfl) ?_
  simp [i51, sxa, isPtrN, PV.pcs, elAt, setEl, inAt, elIn, setIn, isLst, cellsOf, Ex.ok, Ex.val, Opd.val, POp.dst, bin_int, binOK_int, bin_str, binOK_str, resOK, resV, RB.val, sub, putc, scB, scL, oneB, conf, Ex.val.eqP, Ex.val.eqL, negV, mxV, mnV, ← wr_eq, wr_zero, wr_one, wr_m1, bst_lst, byteC, partsOK, putAll, appV, nilV, slV, sslV, optB, optNum, and_assoc, exists_and_left, exists_eq_left']
  repeat' (first | intro _ | (simp [sxa, isPtrN, PV.pcs, elAt, setEl, inAt, elIn, setIn, isLst, cellsOf, Ex.ok, Ex.val, Opd.val, POp.dst, bin_int, binOK_int, bin_str, binOK_str, resOK, resV, RB.val, sub, putc, scB, scL, oneB, conf, Ex.val.eqP, Ex.val.eqL, negV, mxV, mnV, ← wr_eq, wr_zero, wr_one, wr_m1, bst_lst, byteC, partsOK, putAll, appV, nilV, slV, sslV, optB, optNum, and_assoc, exists_and_left, exists_eq_left', *]) | refine CallS_b (f19 _ _ _) (fun h => ?_) (fun h => ?_) | refine CondS_d (fun h => ?_) (fun h => ?_) | refine CondS_b (fun h => ?_) (fun h => ?_) | refine GrdS_d (fun h => ?_) (fun h => ?_) | refine GrdS_b (fun h => ?_) (fun h => ?_) | refine OkS_i (by omega) ?_ | fail)
  all_goals simp_all [M_IsPoint, inR]
  all_goals omega
theorem f102 (ax ay bx by' : Int) : Fn Tryz.prog 102 false [.agg [i ax, i ay, i bx, i by']] (.bool (M_IsSegment ax ay bx by')) := by
  refine Fn.by_sx hX (by kernel_rfl) c102 (by kernel_rfl) (by rfl) ?_
  simp [i102, sxa, isPtrN, PV.pcs, elAt, setEl, inAt, elIn, setIn, isLst, cellsOf, Ex.ok, Ex.val, Opd.val, POp.dst, bin_int, binOK_int, bin_str, binOK_str, resOK, resV, RB.val, sub, putc, scB, scL, oneB, conf, Ex.val.eqP, Ex.val.eqL, negV, mxV, mnV, ← wr_eq, wr_zero, wr_one, wr_m1, bst_lst, byteC, partsOK, putAll, appV, nilV, slV, sslV, optB, optNum, and_assoc, exists_and_left, exists_eq_left']
  repeat' (first | intro _ | (simp [sxa, isPtrN, PV.pcs, elAt, setEl, inAt, elIn, setIn, isLst, cellsOf, Ex.ok, Ex.val, Opd.val, POp.dst, bin_int, binOK_int, bin_str, binOK_str, resOK, resV, RB.val, sub, putc, scB, scL, oneB, conf, Ex.val.eqP, Ex.val.eqL, negV, mxV, mnV, ← wr_eq, wr_zero, wr_one, wr_m1, bst_lst, byteC, partsOK, putAll, appV, nilV, slV, sslV, optB, optNum, and_assoc, exists_and_left, exists_eq_left', *]) | refine CallS_b (f92 _ _) (fun h => ?_) (fun h => ?_) | refine CondS_d (fun h => ?_) (fun h => ?_) | refine CondS_b (fun h => ?_) (fun h => ?_) | refine GrdS_d (fun h => ?_) (fun h => ?_) | refine GrdS_b (fun h => ?_) (fun h => ?_) | refine OkS_i (by omega) ?_ | fail)
  all_goals simp_all [M_IsSegment]

theorem f76 (ax ay bx by' : Int) : Fn Tryz.prog 76 false [.agg [i ax, i ay, i bx, i by']] (.bool (M_IsSegment ax ay bx by')) := by
  refine Fn.by_sx hX (by kernel_rfl) c76 (by kernel_rfl) (by rfl) ?_
  simp [i76, sxa, isPtrN, PV.pcs, elAt, setEl, inAt, elIn, setIn, isLst, cellsOf, Ex.ok, Ex.val, Opd.val, POp.dst, bin_int, binOK_int, bin_str, binOK_str, resOK, resV, RB.val, sub, putc, scB, scL, oneB, conf, Ex.val.eqP, Ex.val.eqL, negV, mxV, mnV, ← wr_eq, wr_zero, wr_one, wr_m1, bst_lst, byteC, partsOK, putAll, appV, nilV, slV, sslV, optB, optNum, and_assoc, exists_and_left, exists_eq_left']
  repeat' (first | intro _ | (simp [sxa, isPtrN, PV.pcs, elAt, setEl, inAt, elIn, setIn, isLst, cellsOf, Ex.ok, Ex.val, Opd.val, POp.dst, bin_int, binOK_int, bin_str, binOK_str, resOK, resV, RB.val, sub, putc, scB, scL, oneB, conf, Ex.val.eqP, Ex.val.eqL, negV, mxV, mnV, ← wr_eq, wr_zero, wr_one, wr_m1, bst_lst, byteC, partsOK, putAll, appV, nilV, slV, sslV, optB, optNum, and_assoc, exists_and_left, exists_eq_left', *]) | refine CallS_b (f51 _ _) (fun h => ?_) (fun h => ?_) | refine CondS_d (fun h => ?_) (fun h => ?_) | refine CondS_b (fun h => ?_) (fun h => ?_) | refine GrdS_d (fun h => ?_) (fun h => ?_) | refine GrdS_b (fun h => ?_) (fun h => ?_) | refine OkS_i (by omega) ?_ | fail)
  all_goals simp_all [M_IsSegment]
def crw (ax ay bx by' px py : Int) : Int := wr .i64 (wr .i64 (wr .i64 (bx - ax) * wr .i64 (py - ay)) - wr .i64 (wr .i64 (by' - ay) * wr .i64 (px - ax)))
theorem crw_crs {ax ay bx by' px py : Int} (h1 : M_IsPoint ax ay = true) (h2 : M_IsPoint bx by' = true) (h3 : M_IsPoint px py = true) : crw ax ay bx by' px py = crs ax ay bx by' px py := by
  have h1 := (M_IsPoint_iff _ _).1 h1
  have h2 := (M_IsPoint_iff _ _).1 h2
  have h3 := (M_IsPoint_iff _ _).1 h3
  exact crs_wrap h1.1 h1.2 h2.1 h2.2 h3.1 h3.2
theorem f108 (ax ay bx by' px py : Int) : Fn Tryz.prog 108 false [.agg [i ax, i ay], .agg [i bx, i by'], .agg [i px, i py]] (i (crw ax ay bx by' px py)) := by
  refine Fn.by_sx hX (by kernel_rfl) c108 (by kernel_rfl) (by rfl) ?_
  simp [i108, sxa, isPtrN, PV.pcs, elAt, setEl, inAt, elIn, setIn, isLst, cellsOf, Ex.ok, Ex.val, Opd.val, POp.dst, bin_int, binOK_int, bin_str, binOK_str, resOK, resV, RB.val, sub, putc, scB, scL, oneB, conf, Ex.val.eqP, Ex.val.eqL, negV, mxV, mnV, ← wr_eq, wr_zero, wr_one, wr_m1, bst_lst, byteC, partsOK, putAll, appV, nilV, slV, sslV, optB, optNum, and_assoc, exists_and_left, exists_eq_left']
  rfl

theorem f97 (ax ay bx by' px py : Int) : Fn Tryz.prog 97 false [.agg [i ax, i ay], .agg [i bx, i by'], .agg [i px, i py]] (i (crw ax ay bx by' px py)) := by
  refine Fn.by_sx hX (by kernel_rfl) c97 (by kernel_rfl) (by rfl) ?_
  simp [i97, sxa, isPtrN, PV.pcs, elAt, setEl, inAt, elIn, setIn, isLst, cellsOf, Ex.ok, Ex.val, Opd.val, POp.dst, bin_int, binOK_int, bin_str, binOK_str, resOK, resV, RB.val, sub, putc, scB, scL, oneB, conf, Ex.val.eqP, Ex.val.eqL, negV, mxV, mnV, ← wr_eq, wr_zero, wr_one, wr_m1, bst_lst, byteC, partsOK, putAll, appV, nilV, slV, sslV, optB, optNum, and_assoc, exists_and_left, exists_eq_left']
  rfl
theorem f103 (x : Int) : Fn Tryz.prog 103 false [i x] (.bool false) := by
  refine Fn.by_sx hX (by kernel_rfl) c103 (by kernel_rfl) (by rfl) ?_
  simp [i103, sxa, isPtrN, PV.pcs, elAt, setEl, inAt, elIn, setIn, isLst, cellsOf, Ex.ok, Ex.val, Opd.val, POp.dst, bin_int, binOK_int, bin_str, binOK_str, resOK, resV, RB.val, sub, putc, scB, scL, oneB, conf, Ex.val.eqP, Ex.val.eqL, negV, mxV, mnV, ← wr_eq, wr_zero, wr_one, wr_m1, bst_lst, byteC, partsOK, putAll, appV, nilV, slV, sslV, optB, optNum, and_assoc, exists_and_left, exists_eq_left']
theorem f96 (x y : Int) : Fn Tryz.prog 96 false [i x, i y] (i (sgn (x - y))) := by
  refine Fn.by_sx hX (by kernel_rfl) c96 (by kernel_rfl) (by rfl) ?_
  simp [i96, sxa, isPtrN, PV.pcs, elAt, setEl, inAt, elIn, setIn, isLst, cellsOf, Ex.ok, Ex.val, Opd.val, POp.dst, bin_int, binOK_int, bin_str, binOK_str, resOK, resV, RB.val, sub, putc, scB, scL, oneB, conf, Ex.val.eqP, Ex.val.eqL, negV, mxV, mnV, ← wr_eq, wr_zero, wr_one, wr_m1, bst_lst, byteC, partsOK, putAll, appV, nilV, slV, sslV, optB, optNum, and_assoc, exists_and_left, exists_eq_left']
  repeat' (first | intro _ | (simp [sxa, isPtrN, PV.pcs, elAt, setEl, inAt, elIn, setIn, isLst, cellsOf, Ex.ok, Ex.val, Opd.val, POp.dst, bin_int, binOK_int, bin_str, binOK_str, resOK, resV, RB.val, sub, putc, scB, scL, oneB, conf, Ex.val.eqP, Ex.val.eqL, negV, mxV, mnV, ← wr_eq, wr_zero, wr_one, wr_m1, bst_lst, byteC, partsOK, putAll, appV, nilV, slV, sslV, optB, optNum, and_assoc, exists_and_left, exists_eq_left', *]) | refine CallS_i (f103 _) ?_ | refine CondS_d (fun h => ?_) (fun h => ?_) | refine CondS_b (fun h => ?_) (fun h => ?_) | refine GrdS_d (fun h => ?_) (fun h => ?_) | refine GrdS_b (fun h => ?_) (fun h => ?_) | refine OkS_i (by omega) ?_ | fail)
  all_goals (unfold sgn; split <;> (try split) <;> omega)
def wSide (ax ay bx by' px py : Int) : Int := if M_IsPoint ax ay && (M_IsPoint bx by' && M_IsPoint px py) then sgn (crw ax ay bx by' px py) else 0
theorem wSide_eq (ax ay bx by' px py : Int) : wSide ax ay bx by' px py = M_SideOf ax ay bx by' px py := by
  unfold wSide M_SideOf
  split
  · rename_i h
    simp only [Bool.and_eq_true] at h
    rw [crw_crs h.1 h.2.1 h.2.2]
  · rfl
theorem f106 (ax ay bx by' px py : Int) : Fn Tryz.prog 106 false [.agg [i ax, i ay], .agg [i bx, i by'], .agg [i px, i py]] (i (M_SideOf ax ay bx by' px py)) := by
  rw [← wSide_eq]
  refine Fn.by_sx hX (by kernel_rfl) c106 (by kernel_rfl) (by rfl) ?_
  simp [i106, sxa, isPtrN, PV.pcs, elAt, setEl, inAt, elIn, setIn, isLst, cellsOf, Ex.ok, Ex.val, Opd.val, POp.dst, bin_int, binOK_int, bin_str, binOK_str, resOK, resV, RB.val, sub, putc, scB, scL, oneB, conf, Ex.val.eqP, Ex.val.eqL, negV, mxV, mnV, ← wr_eq, wr_zero, wr_one, wr_m1, bst_lst, byteC, partsOK, putAll, appV, nilV, slV, sslV, optB, optNum, and_assoc, exists_and_left, exists_eq_left']
  repeat' (first | intro _ | (simp [sxa, isPtrN, PV.pcs, elAt, setEl, inAt, elIn, setIn, isLst, cellsOf, Ex.ok, Ex.val, Opd.val, POp.dst, bin_int, binOK_int, bin_str, binOK_str, resOK, resV, RB.val, sub, putc, scB, scL, oneB, conf, Ex.val.eqP, Ex.val.eqL, negV, mxV, mnV, ← wr_eq, wr_zero, wr_one, wr_m1, bst_lst, byteC, partsOK, putAll, appV, nilV, slV, sslV, optB, optNum, and_assoc, exists_and_left, exists_eq_left', *]) | refine CallS_b (f92 _ _) (fun h => ?_) (fun h => ?_) | refine CallS_i (f108 _ _ _ _ _ _) ?_ | refine CondS_d (fun h => ?_) (fun h => ?_) | refine CondS_b (fun h => ?_) (fun h => ?_) | refine GrdS_d (fun h => ?_) (fun h => ?_) | refine GrdS_b (fun h => ?_) (fun h => ?_) | refine OkS_i (by omega) ?_ | fail)
  all_goals simp_all [wSide, sgn]
  all_goals omega
theorem f85 (ax ay bx by' px py : Int) : Fn Tryz.prog 85 false [.agg [i ax, i ay], .agg [i bx, i by'], .agg [i px, i py]] (i (M_SideOf ax ay bx by' px py)) := by
  rw [← wSide_eq]
  refine Fn.by_sx hX (by kernel_rfl) c85 (by kernel_rfl) (by rfl) ?_
  simp [i85, sxa, isPtrN, PV.pcs, elAt, setEl, inAt, elIn, setIn, isLst, cellsOf, Ex.ok, Ex.val, Opd.val, POp.dst, bin_int, binOK_int, bin_str, binOK_str, resOK, resV, RB.val, sub, putc, scB, scL, oneB, conf, Ex.val.eqP, Ex.val.eqL, negV, mxV, mnV, ← wr_eq, wr_zero, wr_one, wr_m1, bst_lst, byteC, partsOK, putAll, appV, nilV, slV, sslV, optB, optNum, and_assoc, exists_and_left, exists_eq_left']
  repeat' (first | intro _ | (simp [sxa, isPtrN, PV.pcs, elAt, setEl, inAt, elIn, setIn, isLst, cellsOf, Ex.ok, Ex.val, Opd.val, POp.dst, bin_int, binOK_int, bin_str, binOK_str, resOK, resV, RB.val, sub, putc, scB, scL, oneB, conf, Ex.val.eqP, Ex.val.eqL, negV, mxV, mnV, ← wr_eq, wr_zero, wr_one, wr_m1, bst_lst, byteC, partsOK, putAll, appV, nilV, slV, sslV, optB, optNum, and_assoc, exists_and_left, exists_eq_left', *]) | refine CallS_b (f51 _ _) (fun h => ?_) (fun h => ?_) | refine CallS_i (f97 _ _ _ _ _ _) ?_ | refine CallS_i (f96 _ _) ?_ | refine CondS_d (fun h => ?_) (fun h => ?_) | refine CondS_b (fun h => ?_) (fun h => ?_) | refine GrdS_d (fun h => ?_) (fun h => ?_) | refine GrdS_b (fun h => ?_) (fun h => ?_) | refine OkS_i (by omega) ?_ | fail)
  all_goals simp_all [wSide, sgn]
def wOn (ax ay bx by' px py : Int) : Bool := M_IsSegment ax ay bx by' && (M_IsPoint px py && (decide (crw ax ay bx by' px py = 0) && (inR px (min ax bx) (max ax bx) && inR py (min ay by') (max ay by'))))
theorem wOn_eq (ax ay bx by' px py : Int) : wOn ax ay bx by' px py = M_IsOn ax ay bx by' px py := by
  unfold wOn M_IsOn
  by_cases h1 : M_IsSegment ax ay bx by' = true
  · by_cases h2 : M_IsPoint px py = true
    · have h3 := (M_IsSegment_iff _ _ _ _).1 h1
      have h4 := (M_IsPoint_iff _ _).1 h2
      rw [crw_crs ((M_IsPoint_iff _ _).2 h3.1) ((M_IsPoint_iff _ _).2 h3.2.1) h2, h1, h2]
      rw [Bool.eq_iff_iff]; simp [On, Inb, inR, and_assoc]
    · simp [h2]
  · simp [h1]
theorem f107 (ax ay bx by' px py : Int) : Fn Tryz.prog 107 false [.agg [i ax, i ay, i bx, i by'], .agg [i px, i py]] (.bool (M_IsOn ax ay bx by' px py)) := by
  rw [← wOn_eq]
  refine Fn.by_sx hX (by kernel_rfl) c107 (by kernel_rfl) (by rfl) ?_
  simp [i107, sxa, isPtrN, PV.pcs, elAt, setEl, inAt, elIn, setIn, isLst, cellsOf, Ex.ok, Ex.val, Opd.val, POp.dst, bin_int, binOK_int, bin_str, binOK_str, resOK, resV, RB.val, sub, putc, scB, scL, oneB, conf, Ex.val.eqP, Ex.val.eqL, negV, mxV, mnV, ← wr_eq, wr_zero, wr_one, wr_m1, bst_lst, byteC, partsOK, putAll, appV, nilV, slV, sslV, optB, optNum, and_assoc, exists_and_left, exists_eq_left']
  repeat' (first | intro _ | (simp [sxa, isPtrN, PV.pcs, elAt, setEl, inAt, elIn, setIn, isLst, cellsOf, Ex.ok, Ex.val, Opd.val, POp.dst, bin_int, binOK_int, bin_str, binOK_str, resOK, resV, RB.val, sub, putc, scB, scL, oneB, conf, Ex.val.eqP, Ex.val.eqL, negV, mxV, mnV, ← wr_eq, wr_zero, wr_one, wr_m1, bst_lst, byteC, partsOK, putAll, appV, nilV, slV, sslV, optB, optNum, and_assoc, exists_and_left, exists_eq_left', *]) | refine CallS_b (f102 _ _ _ _) (fun h => ?_) (fun h => ?_) | refine CallS_b (f92 _ _) (fun h => ?_) (fun h => ?_) | refine CallS_b (f59 _ _ _) (fun h => ?_) (fun h => ?_) | refine CallS_i (f108 _ _ _ _ _ _) ?_ | refine CallS_i (f64 _ _) ?_ | refine CallS_i (f104 _ _) ?_ | refine CondS_d (fun h => ?_) (fun h => ?_) | refine CondS_b (fun h => ?_) (fun h => ?_) | refine GrdS_d (fun h => ?_) (fun h => ?_) | refine GrdS_b (fun h => ?_) (fun h => ?_) | refine OkS_i (by omega) ?_ | fail)
  all_goals simp_all [wOn]
def wOn2 (ax ay bx by' px py : Int) : Bool := M_IsSegment ax ay bx by' && (M_IsPoint px py && (decide (M_SideOf ax ay bx by' px py = 0) && (inR px (if bx < ax then bx else ax) (if ax < bx then bx else ax) && inR py (if by' < ay then by' else ay) (if ay < by' then by' else ay))))
theorem side_sgn {ax ay bx by' px py : Int} (h1 : M_IsPoint ax ay = true) (h2 : M_IsPoint bx by' = true) (h3 : M_IsPoint px py = true) : M_SideOf ax ay bx by' px py = sgn (crs ax ay bx by' px py) := by
  unfold M_SideOf
  rw [if_pos (by rw [h1, h2, h3]; rfl)]
theorem wOn2_eq (ax ay bx by' px py : Int) : wOn2 ax ay bx by' px py = M_IsOn ax ay bx by' px py := by
  unfold wOn2 M_IsOn
  by_cases h1 : M_IsSegment ax ay bx by' = true
  · by_cases h2 : M_IsPoint px py = true
    · have h3 := (M_IsSegment_iff _ _ _ _).1 h1
      rw [side_sgn ((M_IsPoint_iff _ _).2 h3.1) ((M_IsPoint_iff _ _).2 h3.2.1) h2, h1, h2]
      have e : ∀ x y : Int, (if y < x then y else x) = min x y := by intro x y; omega
      have e' : ∀ x y : Int, (if x < y then y else x) = max x y := by intro x y; omega
      rw [e, e', e, e', Bool.eq_iff_iff]; simp [On, Inb, inR, and_assoc, sgn_zero]
    · simp [h2]
  · simp [h1]
theorem f88 (ax ay bx by' px py : Int) : Fn Tryz.prog 88 false [.agg [i ax, i ay, i bx, i by'], .agg [i px, i py]] (.bool (M_IsOn ax ay bx by' px py)) := by
  rw [← wOn2_eq]
  refine Fn.by_sx hX (by kernel_rfl) c88 (by kernel_rfl) (by rfl) ?_
  simp [i88, sxa, isPtrN, PV.pcs, elAt, setEl, inAt, elIn, setIn, isLst, cellsOf, Ex.ok, Ex.val, Opd.val, POp.dst, bin_int, binOK_int, bin_str, binOK_str, resOK, resV, RB.val, sub, putc, scB, scL, oneB, conf, Ex.val.eqP, Ex.val.eqL, negV, mxV, mnV, ← wr_eq, wr_zero, wr_one, wr_m1, bst_lst, byteC, partsOK, putAll, appV, nilV, slV, sslV, optB, optNum, and_assoc, exists_and_left, exists_eq_left']
  repeat' (first | intro _ | (simp [sxa, isPtrN, PV.pcs, elAt, setEl, inAt, elIn, setIn, isLst, cellsOf, Ex.ok, Ex.val, Opd.val, POp.dst, bin_int, binOK_int, bin_str, binOK_str, resOK, resV, RB.val, sub, putc, scB, scL, oneB, conf, Ex.val.eqP, Ex.val.eqL, negV, mxV, mnV, ← wr_eq, wr_zero, wr_one, wr_m1, bst_lst, byteC, partsOK, putAll, appV, nilV, slV, sslV, optB, optNum, and_assoc, exists_and_left, exists_eq_left', *]) | refine CallS_b (f76 _ _ _ _) (fun h => ?_) (fun h => ?_) | refine CallS_b (f51 _ _) (fun h => ?_) (fun h => ?_) | refine CallS_b (f19 _ _ _) (fun h => ?_) (fun h => ?_) | refine CallS_i (f85 _ _ _ _ _ _) ?_ | refine CondS_d (fun h => ?_) (fun h => ?_) | refine CondS_b (fun h => ?_) (fun h => ?_) | refine GrdS_d (fun h => ?_) (fun h => ?_) | refine GrdS_b (fun h => ?_) (fun h => ?_) | refine OkS_i (by omega) ?_ | fail)
  all_goals simp_all [wOn2]
def before (ax ay bx by' : Int) : Bool := decide (ay < by') || (decide (ay = by') && decide (ax < bx))
theorem f87 (ax ay bx by' : Int) : Fn Tryz.prog 87 false [.agg [i ax, i ay], .agg [i bx, i by']] (.bool (before ax ay bx by')) := by
  refine Fn.by_sx hX (by kernel_rfl) c87 (by kernel_rfl) (by rfl) ?_
  simp [i87, sxa, isPtrN, PV.pcs, elAt, setEl, inAt, elIn, setIn, isLst, cellsOf, Ex.ok, Ex.val, Opd.val, POp.dst, bin_int, binOK_int, bin_str, binOK_str, resOK, resV, RB.val, sub, putc, scB, scL, oneB, conf, Ex.val.eqP, Ex.val.eqL, negV, mxV, mnV, ← wr_eq, wr_zero, wr_one, wr_m1, bst_lst, byteC, partsOK, putAll, appV, nilV, slV, sslV, optB, optNum, and_assoc, exists_and_left, exists_eq_left']
  repeat' (first | intro _ | (simp [sxa, isPtrN, PV.pcs, elAt, setEl, inAt, elIn, setIn, isLst, cellsOf, Ex.ok, Ex.val, Opd.val, POp.dst, bin_int, binOK_int, bin_str, binOK_str, resOK, resV, RB.val, sub, putc, scB, scL, oneB, conf, Ex.val.eqP, Ex.val.eqL, negV, mxV, mnV, ← wr_eq, wr_zero, wr_one, wr_m1, bst_lst, byteC, partsOK, putAll, appV, nilV, slV, sslV, optB, optNum, and_assoc, exists_and_left, exists_eq_left', *]) | refine CondS_d (fun h => ?_) (fun h => ?_) | refine CondS_b (fun h => ?_) (fun h => ?_) | refine GrdS_d (fun h => ?_) (fun h => ?_) | refine GrdS_b (fun h => ?_) (fun h => ?_) | refine OkS_i (by omega) ?_ | fail)
  all_goals simp_all [before]
theorem f98 (ax ay bx by' : Int) : Fn Tryz.prog 98 false [.agg [i ax, i ay, i bx, i by']] (.agg [i bx, i by', i ax, i ay]) := by
  refine Fn.by_sx hX (by kernel_rfl) c98 (by kernel_rfl) (by rfl) ?_
  simp [i98, sxa, isPtrN, PV.pcs, elAt, setEl, inAt, elIn, setIn, isLst, cellsOf, Ex.ok, Ex.val, Opd.val, POp.dst, bin_int, binOK_int, bin_str, binOK_str, resOK, resV, RB.val, sub, putc, scB, scL, oneB, conf, Ex.val.eqP, Ex.val.eqL, negV, mxV, mnV, ← wr_eq, wr_zero, wr_one, wr_m1, bst_lst, byteC, partsOK, putAll, appV, nilV, slV, sslV, optB, optNum, and_assoc, exists_and_left, exists_eq_left']
theorem f86 (ax ay bx by' : Int) : Fn Tryz.prog 86 false [.agg [i ax, i ay, i bx, i by']] (.agg [i (if before bx by' ax ay then bx else ax), i (if before bx by' ax ay then by' else ay), i (if before bx by' ax ay then ax else bx), i (if before bx by' ax ay then ay else by')]) := by
  refine Fn.by_sx hX (by kernel_rfl) c86 (by kernel_rfl) (by rfl) ?_
  simp [i86, sxa, isPtrN, PV.pcs, elAt, setEl, inAt, elIn, setIn, isLst, cellsOf, Ex.ok, Ex.val, Opd.val, POp.dst, bin_int, binOK_int, bin_str, binOK_str, resOK, resV, RB.val, sub, putc, scB, scL, oneB, conf, Ex.val.eqP, Ex.val.eqL, negV, mxV, mnV, ← wr_eq, wr_zero, wr_one, wr_m1, bst_lst, byteC, partsOK, putAll, appV, nilV, slV, sslV, optB, optNum, and_assoc, exists_and_left, exists_eq_left']
  repeat' (first | intro _ | (simp [sxa, isPtrN, PV.pcs, elAt, setEl, inAt, elIn, setIn, isLst, cellsOf, Ex.ok, Ex.val, Opd.val, POp.dst, bin_int, binOK_int, bin_str, binOK_str, resOK, resV, RB.val, sub, putc, scB, scL, oneB, conf, Ex.val.eqP, Ex.val.eqL, negV, mxV, mnV, ← wr_eq, wr_zero, wr_one, wr_m1, bst_lst, byteC, partsOK, putAll, appV, nilV, slV, sslV, optB, optNum, and_assoc, exists_and_left, exists_eq_left', *]) | refine CallS_b (f87 _ _ _ _) (fun h => ?_) (fun h => ?_) | refine CallS_i (f98 _ _ _ _) ?_ | refine CondS_d (fun h => ?_) (fun h => ?_) | refine CondS_b (fun h => ?_) (fun h => ?_) | refine GrdS_d (fun h => ?_) (fun h => ?_) | refine GrdS_b (fun h => ?_) (fun h => ?_) | refine OkS_i (by omega) ?_ | fail)
end Go.Eng
namespace Go.Eng
open Go Go.Proofs Geo
set_option linter.unusedSimpArgs false
set_option linter.unusedVariables false
set_option maxRecDepth 20000

def cp (p : Pt) : List PV := [i p.f0, i p.f1]
theorem all_take {α : Type} {l : List α} {f : α → Bool} {k : Nat} (h : k < l.length) : (l.take (k + 1)).all f = ((l.take k).all f && f l[k]) := by
  rw [List.take_add_one, List.getElem?_eq_getElem h, List.all_append]
  simp only [Option.toList_some, List.all_cons, List.all_nil, Bool.and_true]
def eqb (q p : Pt) : Bool := decide (q.f0 = p.f0 ∧ q.f1 = p.f1)
def maybe (c : Bool) (p : Pt) : List Pt := if c = true then [p] else []
/-- the different ends of both that lie on the other one -/
def shl (S T : Sg) (e : List Pt) : Nat → List Pt
  | 0 => []
  | n + 1 => shl S T e n ++ maybe ((if n < 2 then M_IsOn T.f0.f0 T.f0.f1 T.f1.f0 T.f1.f1 (e.getD n ⟨0, 0⟩).f0 (e.getD n ⟨0, 0⟩).f1 else M_IsOn S.f0.f0 S.f0.f1 S.f1.f0 S.f1.f1 (e.getD n ⟨0, 0⟩).f0 (e.getD n ⟨0, 0⟩).f1) && (shl S T e n).all fun q => !(eqb q (e.getD n ⟨0, 0⟩))) (e.getD n ⟨0, 0⟩)
theorem shl_len (S T : Sg) (e : List Pt) : ∀ n, (shl S T e n).length ≤ n
  | 0 => Nat.le_refl _
  | n + 1 => by
    have := shl_len S T e n
    have hm : ∀ c p, (maybe c p).length ≤ 1 := by intro c p; unfold maybe; split <;> simp
    unfold shl
    rw [List.length_append]
    exact Nat.add_le_add this (hm _ _)
def cs (s : Sg) : List PV := [i s.f0.f0, i s.f0.f1, i s.f1.f0, i s.f1.f1]
def ends (S T : Sg) : List Pt := [S.f0, S.f1, T.f0, T.f1]
theorem l105_2 {d : List Pt} {e : List Pt} {p : Pt} {n : Nat} {on : Bool} {V : Env} (hn : n < e.length) (hp : e[n] = p) (hd : d.length ≤ 4) (h5 : V 5 = .lst 2 false (d.map cp)) (h6 : V 6 = .lst 2 false (e.map cp)) (h7 : V 7 = i n) (h8 : V 8 = .bool on) (h9 : V 9 = i 0) :
    sx (FC Tryz.prog) (.loop (.seq (.seq (.ops [s 46 (.mv (t 9)),
  s 47 (.mv (t 5)),
  s 48 (.len false (t 47)),
  s 49 (.bin .lss (t 46) (t 48))])
 (.cond (t 49) .skip (.exit 2)))
 (.seq (.block 3 (.ops [s 52 (.mv (t 8)),
  s 53 (.mv (t 52)),
  sg [(53, true)] 54 (.mv (t 5)),
  sg [(53, true)] 55 (.mv (t 9)),
  sg [(53, true)] 56 (.idx (t 54) (t 55) 2),
  sg [(53, true)] 57 (.ldE 54 56 0 2 true true 2),
  sg [(53, true)] 58 (.mv (t 6)),
  sg [(53, true)] 59 (.mv (t 7)),
  sg [(53, true)] 60 (.idx (t 58) (t 59) 2),
  sg [(53, true)] 61 (.ldE 58 60 0 2 true true 2),
  sg [(53, true)] 62 (.eqa true [0, 0] (t 57) (t 61)),
  s 63 (.pick (t 53) (t 62) (c (.bool false))),
  s 8 (.mv (t 63))]))
 (.ops [s 50 (.mv (t 9)),
  s 51 (.bin .add (t 50) (c (i 1))),
  s 9 (.mv (t 51))])))) (fun x V' => x = .exit 2 ∧ V' 2 = V 2 ∧ V' 3 = V 3 ∧ V' 5 = V 5 ∧ V' 6 = V 6 ∧ V' 7 = V 7 ∧ V' 8 = .bool (on && d.all fun q => !(eqb q p))) V := by
  refine sx_count d.length (fun k V' => V' 2 = V 2 ∧ V' 3 = V 3 ∧ V' 5 = V 5 ∧ V' 6 = V 6 ∧ V' 7 = V 7 ∧ V' 9 = i k ∧ V' 8 = .bool (on && (d.take k).all fun q => !(eqb q p))) 0 (by omega) ?_ ?_
  · simp [h8, h9]
  rintro k V' hk ⟨g2, g3, g5, g6, g7, g9, g8⟩
  have hw' : wr .i64 ((k : Int) + 1) = k + 1 := wr_in (by omega) (by omega)
  simp [sxa, isPtrN, PV.pcs, elAt, setEl, inAt, elIn, setIn, isLst, cellsOf, Ex.ok, Ex.val, Opd.val, POp.dst, bin_int, binOK_int, bin_str, binOK_str, resOK, resV, RB.val, sub, putc, scB, scL, oneB, conf, Ex.val.eqP, Ex.val.eqL, negV, mxV, mnV, ← wr_eq, wr_zero, wr_one, wr_m1, bst_lst, byteC, partsOK, putAll, appV, nilV, slV, sslV, optB, optNum, and_assoc, exists_and_left, exists_eq_left', g2, g3, g5, g6, g7, g9, g8, h5, h6, h7]
  refine CondS_d (fun hkl => ?_) (fun hkl => ?_)
  · have hkl' : k < d.length := by omega
    rw [all_take hkl', ← Bool.and_assoc]
    generalize (on && (d.take k).all fun q => !(eqb q p)) = b at g8 ⊢
    cases b
    · simp [sxa, isPtrN, PV.pcs, elAt, setEl, inAt, elIn, setIn, isLst, cellsOf, Ex.ok, Ex.val, Opd.val, POp.dst, bin_int, binOK_int, bin_str, binOK_str, resOK, resV, RB.val, sub, putc, scB, scL, oneB, conf, Ex.val.eqP, Ex.val.eqL, negV, mxV, mnV, ← wr_eq, wr_zero, wr_one, wr_m1, bst_lst, byteC, partsOK, putAll, appV, nilV, slV, sslV, optB, optNum, and_assoc, exists_and_left, exists_eq_left', g2, g3, g5, g6, g7, g9, g8, h5, h6, h7, hw', hkl']
    · simp [sxa, isPtrN, PV.pcs, elAt, setEl, inAt, elIn, setIn, isLst, cellsOf, Ex.ok, Ex.val, Opd.val, POp.dst, bin_int, binOK_int, bin_str, binOK_str, resOK, resV, RB.val, sub, putc, scB, scL, oneB, conf, Ex.val.eqP, Ex.val.eqL, negV, mxV, mnV, ← wr_eq, wr_zero, wr_one, wr_m1, bst_lst, byteC, partsOK, putAll, appV, nilV, slV, sslV, optB, optNum, and_assoc, exists_and_left, exists_eq_left', g2, g3, g5, g6, g7, g9, g8, h5, h6, h7, hw', hkl', hn, hp, cp, eqb]
  · have : k = d.length := by omega
    subst this
    simp [sxa, isPtrN, PV.pcs, elAt, setEl, inAt, elIn, setIn, isLst, cellsOf, Ex.ok, Ex.val, Opd.val, POp.dst, bin_int, binOK_int, bin_str, binOK_str, resOK, resV, RB.val, sub, putc, scB, scL, oneB, conf, Ex.val.eqP, Ex.val.eqL, negV, mxV, mnV, ← wr_eq, wr_zero, wr_one, wr_m1, bst_lst, byteC, partsOK, putAll, appV, nilV, slV, sslV, optB, optNum, and_assoc, exists_and_left, exists_eq_left', g2, g3, g5, g6, g7, g9, g8, h5, h6, h7]
theorem f105 (S T : Sg) : Fn Tryz.prog 105 false [.agg (cs S), .agg (cs T)] (i ((shl S T (ends S T) 4).length : Nat)) := by
  refine Fn.by_sx hX (by kernel_rfl) c105 (by kernel_rfl) (by rfl) ?_
  simp [i105, sxa, isPtrN, PV.pcs, elAt, setEl, inAt, elIn, setIn, isLst, cellsOf, Ex.ok, Ex.val, Opd.val, POp.dst, bin_int, binOK_int, bin_str, binOK_str, resOK, resV, RB.val, sub, putc, scB, scL, oneB, conf, Ex.val.eqP, Ex.val.eqL, negV, mxV, mnV, ← wr_eq, wr_zero, wr_one, wr_m1, bst_lst, byteC, partsOK, putAll, appV, nilV, slV, sslV, optB, optNum, and_assoc, exists_and_left, exists_eq_left']
  simp [cs, sxa, isPtrN, PV.pcs, elAt, setEl, inAt, elIn, setIn, isLst, cellsOf, Ex.ok, Ex.val, Opd.val, POp.dst, bin_int, binOK_int, bin_str, binOK_str, resOK, resV, RB.val, sub, putc, scB, scL, oneB, conf, Ex.val.eqP, Ex.val.eqL, negV, mxV, mnV, ← wr_eq, wr_zero, wr_one, wr_m1, bst_lst, byteC, partsOK, putAll, appV, nilV, slV, sslV, optB, optNum, and_assoc, exists_and_left, exists_eq_left']
  refine sx_count 4 (fun n V => V 2 = .ptr (cs S) ∧ V 3 = .ptr (cs T) ∧ V 5 = .lst 2 false ((shl S T (ends S T) n).map cp) ∧ V 6 = .lst 2 false ((ends S T).map cp) ∧ V 7 = i n) 0 (by omega) ?_ ?_
  · simp [sxa, isPtrN, PV.pcs, elAt, setEl, inAt, elIn, setIn, isLst, cellsOf, Ex.ok, Ex.val, Opd.val, POp.dst, bin_int, binOK_int, bin_str, binOK_str, resOK, resV, RB.val, sub, putc, scB, scL, oneB, conf, Ex.val.eqP, Ex.val.eqL, negV, mxV, mnV, ← wr_eq, wr_zero, wr_one, wr_m1, bst_lst, byteC, partsOK, putAll, appV, nilV, slV, sslV, optB, optNum, and_assoc, exists_and_left, exists_eq_left', cs, shl, ends, cp]
  · rintro n V hn ⟨h2, h3, h5, h6, h7⟩
    have hw : wr .i64 ((n : Int) + 1) = n + 1 := wr_in (by omega) (by omega)
    simp [sxa, isPtrN, PV.pcs, elAt, setEl, inAt, elIn, setIn, isLst, cellsOf, Ex.ok, Ex.val, Opd.val, POp.dst, bin_int, binOK_int, bin_str, binOK_str, resOK, resV, RB.val, sub, putc, scB, scL, oneB, conf, Ex.val.eqP, Ex.val.eqL, negV, mxV, mnV, ← wr_eq, wr_zero, wr_one, wr_m1, bst_lst, byteC, partsOK, putAll, appV, nilV, slV, sslV, optB, optNum, and_assoc, exists_and_left, exists_eq_left', h2, h3, h5, h6, h7]
    refine CondS_d (fun hlt => ?_) (fun hge => ?_)
    · have hlt' : n < (ends S T).length := by simp [ends]; omega
      obtain ⟨M, hM1, hM2⟩ : ∃ M : Bool, ((n : Int) < 2 → M_IsOn T.f0.f0 T.f0.f1 T.f1.f0 T.f1.f1 (ends S T)[n].f0 (ends S T)[n].f1 = M) ∧ (¬ (n : Int) < 2 → M_IsOn S.f0.f0 S.f0.f1 S.f1.f0 S.f1.f1 (ends S T)[n].f0 (ends S T)[n].f1 = M) := by
        by_cases h : (n : Int) < 2
        · exact ⟨_, fun _ => rfl, fun h' => absurd h h'⟩
        · exact ⟨_, fun h' => absurd h' h, fun _ => rfl⟩
      have hu : shl S T (ends S T) (n + 1) = shl S T (ends S T) n ++ maybe (M && (shl S T (ends S T) n).all fun q => !(eqb q (ends S T)[n])) (ends S T)[n] := by
        have e : (ends S T).getD n ⟨0, 0⟩ = (ends S T)[n] := by simp [hlt']
        rw [shl, e]
        by_cases h : n < 2
        · rw [if_pos h, hM1 (by omega)]
        · rw [if_neg h, hM2 (by omega)]
      have hdl := shl_len S T (ends S T) n
      rw [hu]
      clear hu
      generalize shl S T (ends S T) n = d at h5 hdl ⊢
      obtain ⟨X, hX⟩ : ∃ X, (M && d.all fun q => !(eqb q (ends S T)[n])) = X := ⟨_, rfl⟩
      rw [hX]
      have hn4 : n < 4 := by omega
      have fin : ∀ {Q : Ext → Env → Prop} {V1 : Env}, V1 2 = .ptr (cs S) → V1 3 = .ptr (cs T) → V1 5 = .lst 2 false (d.map cp) → V1 6 = .lst 2 false ((ends S T).map cp) → V1 7 = i n → V1 8 = .bool M → V1 9 = i 0 →
          (∀ V2, V2 2 = .ptr (cs S) → V2 3 = .ptr (cs T) → V2 5 = .lst 2 false (d.map cp) → V2 6 = .lst 2 false ((ends S T).map cp) → V2 7 = i n → V2 8 = .bool X → Q (.exit 2) V2) → sx (FC Tryz.prog) (.loop (.seq (.seq (.ops [s 46 (.mv (t 9)),
  s 47 (.mv (t 5)),
  s 48 (.len false (t 47)),
  s 49 (.bin .lss (t 46) (t 48))])
 (.cond (t 49) .skip (.exit 2)))
 (.seq (.block 3 (.ops [s 52 (.mv (t 8)),
  s 53 (.mv (t 52)),
  sg [(53, true)] 54 (.mv (t 5)),
  sg [(53, true)] 55 (.mv (t 9)),
  sg [(53, true)] 56 (.idx (t 54) (t 55) 2),
  sg [(53, true)] 57 (.ldE 54 56 0 2 true true 2),
  sg [(53, true)] 58 (.mv (t 6)),
  sg [(53, true)] 59 (.mv (t 7)),
  sg [(53, true)] 60 (.idx (t 58) (t 59) 2),
  sg [(53, true)] 61 (.ldE 58 60 0 2 true true 2),
  sg [(53, true)] 62 (.eqa true [0, 0] (t 57) (t 61)),
  s 63 (.pick (t 53) (t 62) (c (.bool false))),
  s 8 (.mv (t 63))]))
 (.ops [s 50 (.mv (t 9)),
  s 51 (.bin .add (t 50) (c (i 1))),
  s 9 (.mv (t 51))])))) Q V1 := by
        intro Q V1 a2 a3 a5 a6 a7 a8 a9 hq
        refine sx_mono _ _ _ _ ?_ (l105_2 hlt' rfl (by omega) a5 a6 a7 a8 a9)
        rintro x V2 ⟨rfl, b2, b3, b5, b6, b7, b8⟩
        exact hq V2 (by rw [b2, a2]) (by rw [b3, a3]) (by rw [b5, a5]) (by rw [b6, a6]) (by rw [b7, a7]) (by rw [b8, hX])
      clear hX
      simp [sxa, isPtrN, PV.pcs, elAt, setEl, inAt, elIn, setIn, isLst, cellsOf, Ex.ok, Ex.val, Opd.val, POp.dst, bin_int, binOK_int, bin_str, binOK_str, resOK, resV, RB.val, sub, putc, scB, scL, oneB, conf, Ex.val.eqP, Ex.val.eqL, negV, mxV, mnV, ← wr_eq, wr_zero, wr_one, wr_m1, bst_lst, byteC, partsOK, putAll, appV, nilV, slV, sslV, optB, optNum, and_assoc, exists_and_left, exists_eq_left', h2, h3, h5, h6, h7, hlt, cs, cp]
      repeat' (first | intro _ | (simp [sxa, isPtrN, PV.pcs, elAt, setEl, inAt, elIn, setIn, isLst, cellsOf, Ex.ok, Ex.val, Opd.val, POp.dst, bin_int, binOK_int, bin_str, binOK_str, resOK, resV, RB.val, sub, putc, scB, scL, oneB, conf, Ex.val.eqP, Ex.val.eqL, negV, mxV, mnV, ← wr_eq, wr_zero, wr_one, wr_m1, bst_lst, byteC, partsOK, putAll, appV, nilV, slV, sslV, optB, optNum, and_assoc, exists_and_left, exists_eq_left', cs, cp, *]) | refine CallS_i (f107 _ _ _ _ _ _) ?_ | refine CondS_d (fun h => ?_) (fun h => ?_) | refine CondS_b (fun h => ?_) (fun h => ?_) | refine GrdS_d (fun h => ?_) (fun h => ?_) | refine GrdS_b (fun h => ?_) (fun h => ?_) | refine OkS_i (by omega) ?_ | fail)
      all_goals try omega
      all_goals refine fin (by simp [sxa, isPtrN, PV.pcs, elAt, setEl, inAt, elIn, setIn, isLst, cellsOf, Ex.ok, Ex.val, Opd.val, POp.dst, bin_int, binOK_int, bin_str, binOK_str, resOK, resV, RB.val, sub, putc, scB, scL, oneB, conf, Ex.val.eqP, Ex.val.eqL, negV, mxV, mnV, ← wr_eq, wr_zero, wr_one, wr_m1, bst_lst, byteC, partsOK, putAll, appV, nilV, slV, sslV, optB, optNum, and_assoc, exists_and_left, exists_eq_left', h2]) (by simp [sxa, isPtrN, PV.pcs, elAt, setEl, inAt, elIn, setIn, isLst, cellsOf, Ex.ok, Ex.val, Opd.val, POp.dst, bin_int, binOK_int, bin_str, binOK_str, resOK, resV, RB.val, sub, putc, scB, scL, oneB, conf, Ex.val.eqP, Ex.val.eqL, negV, mxV, mnV, ← wr_eq, wr_zero, wr_one, wr_m1, bst_lst, byteC, partsOK, putAll, appV, nilV, slV, sslV, optB, optNum, and_assoc, exists_and_left, exists_eq_left', h3]) (by simp [sxa, isPtrN, PV.pcs, elAt, setEl, inAt, elIn, setIn, isLst, cellsOf, Ex.ok, Ex.val, Opd.val, POp.dst, bin_int, binOK_int, bin_str, binOK_str, resOK, resV, RB.val, sub, putc, scB, scL, oneB, conf, Ex.val.eqP, Ex.val.eqL, negV, mxV, mnV, ← wr_eq, wr_zero, wr_one, wr_m1, bst_lst, byteC, partsOK, putAll, appV, nilV, slV, sslV, optB, optNum, and_assoc, exists_and_left, exists_eq_left', h5]) (by simp [sxa, isPtrN, PV.pcs, elAt, setEl, inAt, elIn, setIn, isLst, cellsOf, Ex.ok, Ex.val, Opd.val, POp.dst, bin_int, binOK_int, bin_str, binOK_str, resOK, resV, RB.val, sub, putc, scB, scL, oneB, conf, Ex.val.eqP, Ex.val.eqL, negV, mxV, mnV, ← wr_eq, wr_zero, wr_one, wr_m1, bst_lst, byteC, partsOK, putAll, appV, nilV, slV, sslV, optB, optNum, and_assoc, exists_and_left, exists_eq_left', h6]) (by simp [sxa, isPtrN, PV.pcs, elAt, setEl, inAt, elIn, setIn, isLst, cellsOf, Ex.ok, Ex.val, Opd.val, POp.dst, bin_int, binOK_int, bin_str, binOK_str, resOK, resV, RB.val, sub, putc, scB, scL, oneB, conf, Ex.val.eqP, Ex.val.eqL, negV, mxV, mnV, ← wr_eq, wr_zero, wr_one, wr_m1, bst_lst, byteC, partsOK, putAll, appV, nilV, slV, sslV, optB, optNum, and_assoc, exists_and_left, exists_eq_left', h7]) (by simp [sxa, isPtrN, PV.pcs, elAt, setEl, inAt, elIn, setIn, isLst, cellsOf, Ex.ok, Ex.val, Opd.val, POp.dst, bin_int, binOK_int, bin_str, binOK_str, resOK, resV, RB.val, sub, putc, scB, scL, oneB, conf, Ex.val.eqP, Ex.val.eqL, negV, mxV, mnV, ← wr_eq, wr_zero, wr_one, wr_m1, bst_lst, byteC, partsOK, putAll, appV, nilV, slV, sslV, optB, optNum, and_assoc, exists_and_left, exists_eq_left', *]; try omega) (by simp [sxa, isPtrN, PV.pcs, elAt, setEl, inAt, elIn, setIn, isLst, cellsOf, Ex.ok, Ex.val, Opd.val, POp.dst, bin_int, binOK_int, bin_str, binOK_str, resOK, resV, RB.val, sub, putc, scB, scL, oneB, conf, Ex.val.eqP, Ex.val.eqL, negV, mxV, mnV, ← wr_eq, wr_zero, wr_one, wr_m1, bst_lst, byteC, partsOK, putAll, appV, nilV, slV, sslV, optB, optNum, and_assoc, exists_and_left, exists_eq_left']) ?_
      all_goals
        rintro V2 b2 b3 b5 b6 b7 b8
        cases X
        all_goals
          simp [sxa, isPtrN, PV.pcs, elAt, setEl, inAt, elIn, setIn, isLst, cellsOf, Ex.ok, Ex.val, Opd.val, POp.dst, bin_int, binOK_int, bin_str, binOK_str, resOK, resV, RB.val, sub, putc, scB, scL, oneB, conf, Ex.val.eqP, Ex.val.eqL, negV, mxV, mnV, ← wr_eq, wr_zero, wr_one, wr_m1, bst_lst, byteC, partsOK, putAll, appV, nilV, slV, sslV, optB, optNum, and_assoc, exists_and_left, exists_eq_left', b2, b3, b5, b6, b7, b8, hw, hlt', hn4, cs, cp, maybe]
          try (refine OkS_i (by omega) ?_; simp [sxa, isPtrN, PV.pcs, elAt, setEl, inAt, elIn, setIn, isLst, cellsOf, Ex.ok, Ex.val, Opd.val, POp.dst, bin_int, binOK_int, bin_str, binOK_str, resOK, resV, RB.val, sub, putc, scB, scL, oneB, conf, Ex.val.eqP, Ex.val.eqL, negV, mxV, mnV, ← wr_eq, wr_zero, wr_one, wr_m1, bst_lst, byteC, partsOK, putAll, appV, nilV, slV, sslV, optB, optNum, and_assoc, exists_and_left, exists_eq_left', b2, b3, b5, b6, b7, b8, hw, hlt', hn4, cs, cp, maybe])
    · have : n = 4 := by omega
      subst this
      simp [sxa, isPtrN, PV.pcs, elAt, setEl, inAt, elIn, setIn, isLst, cellsOf, Ex.ok, Ex.val, Opd.val, POp.dst, bin_int, binOK_int, bin_str, binOK_str, resOK, resV, RB.val, sub, putc, scB, scL, oneB, conf, Ex.val.eqP, Ex.val.eqL, negV, mxV, mnV, ← wr_eq, wr_zero, wr_one, wr_m1, bst_lst, byteC, partsOK, putAll, appV, nilV, slV, sslV, optB, optNum, and_assoc, exists_and_left, exists_eq_left', *]
end Go.Eng
namespace Go.Eng
open Go Go.Proofs Geo
set_option linter.unusedSimpArgs false
set_option linter.unusedVariables false
set_option maxRecDepth 20000

theorem maybe_all (c : Bool) (p : Pt) (f : Pt → Bool) : (maybe c p).all f = (!c || f p) := by cases c <;> simp [maybe]
theorem maybe_len (c : Bool) (p : Pt) : (maybe c p).length = if c = true then 1 else 0 := by cases c <;> simp [maybe]
theorem shl_eq {ax ay bx by' cx cy dx dy : Int} (h1 : M_IsSegment ax ay bx by' = true) (h2 : M_IsSegment cx cy dx dy = true) :
    ((shl ⟨⟨ax, ay⟩, ⟨bx, by'⟩⟩ ⟨⟨cx, cy⟩, ⟨dx, dy⟩⟩ (ends ⟨⟨ax, ay⟩, ⟨bx, by'⟩⟩ ⟨⟨cx, cy⟩, ⟨dx, dy⟩⟩) 4).length : Int) = M_Shared ax ay bx by' cx cy dx dy := by
  obtain ⟨pa, pb, hs⟩ := (M_IsSegment_iff _ _ _ _).1 h1
  obtain ⟨pc, pd, ht⟩ := (M_IsSegment_iff _ _ _ _).1 h2
  have e4 : ∀ {ax ay bx by' px py : Int}, M_IsSegment ax ay bx by' = true → Vl px ∧ Vl py → M_IsOn ax ay bx by' px py = decide (On ax ay bx by' px py) := by
    intro ax ay bx by' px py g1 g2
    unfold M_IsOn
    rw [g1, (M_IsPoint_iff _ _).2 g2, Bool.true_and, Bool.true_and]
  have n01 : eqb ⟨ax, ay⟩ ⟨bx, by'⟩ = false := decide_eq_false hs
  have n23 : eqb ⟨cx, cy⟩ ⟨dx, dy⟩ = false := decide_eq_false ht
  have E0 : (ends ⟨⟨ax, ay⟩, ⟨bx, by'⟩⟩ ⟨⟨cx, cy⟩, ⟨dx, dy⟩⟩).getD 0 ⟨0, 0⟩ = ⟨ax, ay⟩ := rfl
  have E1 : (ends ⟨⟨ax, ay⟩, ⟨bx, by'⟩⟩ ⟨⟨cx, cy⟩, ⟨dx, dy⟩⟩).getD 1 ⟨0, 0⟩ = ⟨bx, by'⟩ := rfl
  have E2 : (ends ⟨⟨ax, ay⟩, ⟨bx, by'⟩⟩ ⟨⟨cx, cy⟩, ⟨dx, dy⟩⟩).getD 2 ⟨0, 0⟩ = ⟨cx, cy⟩ := rfl
  have E3 : (ends ⟨⟨ax, ay⟩, ⟨bx, by'⟩⟩ ⟨⟨cx, cy⟩, ⟨dx, dy⟩⟩).getD 3 ⟨0, 0⟩ = ⟨dx, dy⟩ := rfl
  simp only [shl, E0, E1, E2, E3, e4 h1 pc, e4 h1 pd, e4 h2 pa, e4 h2 pb, Nat.reduceLT, if_true, if_false, List.nil_append, List.all_nil, Bool.and_true, Nat.reduceAdd, List.all_append, maybe_all, n01, n23, Bool.not_false, Bool.or_true]
  generalize hc0 : decide (On cx cy dx dy ax ay) = c0
  generalize hc1 : decide (On cx cy dx dy bx by') = c1
  generalize hc2 : (decide (On ax ay bx by' cx cy) && ((!c0 || !eqb ⟨ax, ay⟩ ⟨cx, cy⟩) && (!c1 || !eqb ⟨bx, by'⟩ ⟨cx, cy⟩))) = c2
  generalize hc3 : (decide (On ax ay bx by' dx dy) && ((!c0 || !eqb ⟨ax, ay⟩ ⟨dx, dy⟩) && (!c1 || !eqb ⟨bx, by'⟩ ⟨dx, dy⟩))) = c3
  rw [List.length_append, List.length_append, List.length_append, maybe_len, maybe_len, maybe_len, maybe_len]
  unfold M_Shared
  have q0 : c0 = true ↔ On cx cy dx dy ax ay := by rw [← hc0, decide_eq_true_iff]
  have q1 : c1 = true ↔ On cx cy dx dy bx by' := by rw [← hc1, decide_eq_true_iff]
  have nn : ∀ (c : Bool) (p q : Pt), (!c || !eqb p q) = true ↔ ¬ (c = true ∧ p.f0 = q.f0 ∧ p.f1 = q.f1) := by
    intro c p q
    unfold eqb
    by_cases h : p.f0 = q.f0 ∧ p.f1 = q.f1
    · rw [decide_eq_true h]; cases c <;> simp [h.1, h.2]
    · rw [decide_eq_false h]
      exact ⟨fun _ k => h k.2, fun _ => by cases c <;> rfl⟩
  have q2 : c2 = true ↔ On ax ay bx by' cx cy ∧ ¬ (On cx cy dx dy ax ay ∧ ax = cx ∧ ay = cy) ∧ ¬ (On cx cy dx dy bx by' ∧ bx = cx ∧ by' = cy) := by
    rw [← hc2, Bool.and_eq_true, Bool.and_eq_true, decide_eq_true_iff, nn, nn, q0, q1]
  have q3 : c3 = true ↔ On ax ay bx by' dx dy ∧ ¬ (On cx cy dx dy ax ay ∧ ax = dx ∧ ay = dy) ∧ ¬ (On cx cy dx dy bx by' ∧ bx = dx ∧ by' = dy) := by
    rw [← hc3, Bool.and_eq_true, Bool.and_eq_true, decide_eq_true_iff, nn, nn, q0, q1]
  rw [← ifc q0, ← ifc q1, ← ifc q2, ← ifc q3]
  cases c0 <;> cases c1 <;> cases c2 <;> cases c3 <;> rfl
def wHowS (ax ay bx by' cx cy dx dy sh : Int) : Int :=
  if M_IsSegment ax ay bx by' = true ∧ M_IsSegment cx cy dx dy = true then
    if max ax bx < min cx dx ∨ max cx dx < min ax bx ∨ max ay by' < min cy dy ∨ max cy dy < min ay by' then 0
    else if sh = 0 then (if wr .i64 (M_SideOf ax ay bx by' cx cy * M_SideOf ax ay bx by' dx dy) < 0 ∧ wr .i64 (M_SideOf cx cy dx dy ax ay * M_SideOf cx cy dx dy bx by') < 0 then 2 else 0)
    else if sh = 1 then 1 else 3
  else 0
theorem wr_sgn (x y : Int) : wr .i64 (sgn x * sgn y) = sgn x * sgn y := by
  have hx := sgn_le x
  have hy := sgn_le y
  have hb := mul_bound (x := sgn x) (y := sgn y) (by omega) (by omega) (by omega) (by omega)
  exact wrap_id (by omega) (by omega)
theorem wHowS_eq (ax ay bx by' cx cy dx dy : Int) : wHowS ax ay bx by' cx cy dx dy ((shl ⟨⟨ax, ay⟩, ⟨bx, by'⟩⟩ ⟨⟨cx, cy⟩, ⟨dx, dy⟩⟩ (ends ⟨⟨ax, ay⟩, ⟨bx, by'⟩⟩ ⟨⟨cx, cy⟩, ⟨dx, dy⟩⟩) 4).length : Int) = M_HowMeet ax ay bx by' cx cy dx dy := by
  unfold wHowS
  by_cases h : M_IsSegment ax ay bx by' = true ∧ M_IsSegment cx cy dx dy = true
  · rw [if_pos h, shl_eq h.1 h.2]
    obtain ⟨pa, pb, hs⟩ := (M_IsSegment_iff _ _ _ _).1 h.1
    obtain ⟨pc, pd, ht⟩ := (M_IsSegment_iff _ _ _ _).1 h.2
    have qa := (M_IsPoint_iff ax ay).2 pa
    have qb := (M_IsPoint_iff bx by').2 pb
    have qc := (M_IsPoint_iff cx cy).2 pc
    have qd := (M_IsPoint_iff dx dy).2 pd
    rw [M_HowMeet_spec pa.1 pa.2 pb.1 pb.2 hs pc.1 pc.2 pd.1 pd.2 ht, side_sgn qa qb qc, side_sgn qa qb qd, side_sgn qc qd qa, side_sgn qc qd qb, wr_sgn, wr_sgn]
    simp only [sgn_mul]
    rfl
  · rw [if_neg h]; unfold M_HowMeet; rw [if_neg h]
theorem f101 (ax ay bx by' cx cy dx dy : Int) : Fn Tryz.prog 101 false [.agg [i ax, i ay, i bx, i by'], .agg [i cx, i cy, i dx, i dy]] (i (M_HowMeet ax ay bx by' cx cy dx dy)) := by
  rw [← wHowS_eq]
  refine Fn.by_sx hX (by kernel_rfl) c101 (by kernel_rfl) (by rfl) ?_
  simp [i101, sxa, isPtrN, PV.pcs, elAt, setEl, inAt, elIn, setIn, isLst, cellsOf, Ex.ok, Ex.val, Opd.val, POp.dst, bin_int, binOK_int, bin_str, binOK_str, resOK, resV, RB.val, sub, putc, scB, scL, oneB, conf, Ex.val.eqP, Ex.val.eqL, negV, mxV, mnV, ← wr_eq, wr_zero, wr_one, wr_m1, bst_lst, byteC, partsOK, putAll, appV, nilV, slV, sslV, optB, optNum, and_assoc, exists_and_left, exists_eq_left']
  repeat' (first | intro _ | (simp [sxa, isPtrN, PV.pcs, elAt, setEl, inAt, elIn, setIn, isLst, cellsOf, Ex.ok, Ex.val, Opd.val, POp.dst, bin_int, binOK_int, bin_str, binOK_str, resOK, resV, RB.val, sub, putc, scB, scL, oneB, conf, Ex.val.eqP, Ex.val.eqL, negV, mxV, mnV, ← wr_eq, wr_zero, wr_one, wr_m1, bst_lst, byteC, partsOK, putAll, appV, nilV, slV, sslV, optB, optNum, and_assoc, exists_and_left, exists_eq_left', *]) | refine CallS_b (f102 _ _ _ _) (fun h => ?_) (fun h => ?_) | refine CallS_i (f104 _ _) ?_ | refine CallS_i (f64 _ _) ?_ | refine CallS_i (f105 ⟨⟨ax, ay⟩, ⟨bx, by'⟩⟩ ⟨⟨cx, cy⟩, ⟨dx, dy⟩⟩) ?_ | refine CallS_i (f106 _ _ _ _ _ _) ?_ | refine CondS_d (fun h => ?_) (fun h => ?_) | refine CondS_b (fun h => ?_) (fun h => ?_) | refine GrdS_d (fun h => ?_) (fun h => ?_) | refine GrdS_b (fun h => ?_) (fun h => ?_) | refine OkS_i (by omega) ?_ | fail)
  all_goals simp_all [wHowS]
  all_goals omega
end Go.Eng
namespace Go.Eng
open Go Go.Proofs Geo
set_option linter.unusedSimpArgs false
set_option linter.unusedVariables false
set_option maxRecDepth 20000

theorem before_K {ax ay bx by' : Int} (v0 : Vl ax) (v1 : Vl bx) : before ax ay bx by' = decide (K ax ay < K bx by') := by
  unfold before Vl K at *
  rw [Bool.eq_iff_iff]
  simp
  omega
def wM (lx ly hx hy mx my nx ny : Int) : Int :=
  if before (if before nx ny hx hy then nx else hx) (if before nx ny hx hy then ny else hy) (if before lx ly mx my then mx else lx) (if before lx ly mx my then my else ly) then 0
  else if (if before lx ly mx my then mx else lx) = (if before nx ny hx hy then nx else hx) ∧ (if before lx ly mx my then my else ly) = (if before nx ny hx hy then ny else hy) then 1 else 3
theorem wM_eq {lx ly hx hy mx my nx ny : Int} (u0 : Vl lx) (u1 : Vl hx) (u2 : Vl mx) (u3 : Vl nx) :
    wM lx ly hx hy mx my nx ny = if min (K hx hy) (K nx ny) < max (K lx ly) (K mx my) then 0 else if max (K lx ly) (K mx my) = min (K hx hy) (K nx ny) then 1 else 3 := by
  unfold wM
  rw [before_K u3 u1, before_K u0 u2]
  by_cases d1 : K lx ly < K mx my <;> by_cases d2 : K nx ny < K hx hy <;> simp only [d1, d2, decide_true, decide_false, if_true, if_false, Bool.false_eq_true]
  · rw [before_K u3 u2]
    have ki := K_inj (ay := my) (by' := ny) u2 u3
    simp only [decide_eq_true_eq]
    split <;> split <;> (try split) <;> (try split) <;> omega
  · rw [before_K u1 u2]
    have ki := K_inj (ay := my) (by' := hy) u2 u1
    simp only [decide_eq_true_eq]
    split <;> split <;> (try split) <;> (try split) <;> omega
  · rw [before_K u3 u0]
    have ki := K_inj (ay := ly) (by' := ny) u0 u3
    simp only [decide_eq_true_eq]
    split <;> split <;> (try split) <;> (try split) <;> omega
  · rw [before_K u1 u0]
    have ki := K_inj (ay := ly) (by' := hy) u0 u1
    simp only [decide_eq_true_eq]
    split <;> split <;> (try split) <;> (try split) <;> omega
def wHowI (ax ay bx by' cx cy dx dy : Int) : Int :=
  if M_IsSegment ax ay bx by' = true ∧ M_IsSegment cx cy dx dy = true then
    if M_SideOf ax ay bx by' cx cy = 0 ∧ M_SideOf ax ay bx by' dx dy = 0 then
      wM (if before bx by' ax ay then bx else ax) (if before bx by' ax ay then by' else ay) (if before bx by' ax ay then ax else bx) (if before bx by' ax ay then ay else by')
         (if before dx dy cx cy then dx else cx) (if before dx dy cx cy then dy else cy) (if before dx dy cx cy then cx else dx) (if before dx dy cx cy then cy else dy)
    else if wr .i64 (M_SideOf ax ay bx by' cx cy * M_SideOf ax ay bx by' dx dy) < 0 ∧ wr .i64 (M_SideOf cx cy dx dy ax ay * M_SideOf cx cy dx dy bx by') < 0 then 2
    else if M_IsOn ax ay bx by' cx cy = true ∨ M_IsOn ax ay bx by' dx dy = true ∨ M_IsOn cx cy dx dy ax ay = true ∨ M_IsOn cx cy dx dy bx by' = true then 1 else 0
  else 0
theorem wHowI_eq (ax ay bx by' cx cy dx dy : Int) : wHowI ax ay bx by' cx cy dx dy = M_HowMeet ax ay bx by' cx cy dx dy := by
  unfold wHowI M_HowMeet
  by_cases h : M_IsSegment ax ay bx by' = true ∧ M_IsSegment cx cy dx dy = true
  · rw [if_pos h, if_pos h]
    obtain ⟨pa, pb, hs⟩ := (M_IsSegment_iff _ _ _ _).1 h.1
    obtain ⟨pc, pd, ht⟩ := (M_IsSegment_iff _ _ _ _).1 h.2
    have qa := (M_IsPoint_iff ax ay).2 pa
    have qb := (M_IsPoint_iff bx by').2 pb
    have qc := (M_IsPoint_iff cx cy).2 pc
    have qd := (M_IsPoint_iff dx dy).2 pd
    have e4 : ∀ {ax ay bx by' px py : Int}, M_IsSegment ax ay bx by' = true → M_IsPoint px py = true → (M_IsOn ax ay bx by' px py = true ↔ On ax ay bx by' px py) := by
      intro ax ay bx by' px py g1 g2
      unfold M_IsOn
      rw [g1, g2, Bool.true_and, Bool.true_and, decide_eq_true_iff]
    rw [side_sgn qa qb qc, side_sgn qa qb qd, side_sgn qc qd qa, side_sgn qc qd qb, wr_sgn, wr_sgn, before_K pb.1 pa.1, before_K pd.1 pc.1]
    simp only [sgn_mul, sgn_zero, e4 h.1 qc, e4 h.1 qd, e4 h.2 qa, e4 h.2 qb]
    congr 1
    have mm : ∀ a b : Int, a < b → min b a = a ∧ max b a = b ∧ min a b = a ∧ max a b = b := by intro a b h; omega
    have mn' : ∀ a b : Int, ¬ a < b → min b a = b ∧ max b a = a := by intro a b h; omega
    by_cases s1 : K bx by' < K ax ay <;> by_cases s2 : K dx dy < K cx cy <;> simp only [s1, s2, decide_true, decide_false, if_true, if_false, Bool.false_eq_true]
    · rw [wM_eq pb.1 pa.1 pd.1 pc.1, (mm _ _ s1).1, (mm _ _ s1).2.1, (mm _ _ s2).1, (mm _ _ s2).2.1]
    · rw [wM_eq pb.1 pa.1 pc.1 pd.1, (mm _ _ s1).1, (mm _ _ s1).2.1, (mn' _ _ s2).1, (mn' _ _ s2).2]
    · rw [wM_eq pa.1 pb.1 pd.1 pc.1, (mn' _ _ s1).1, (mn' _ _ s1).2, (mm _ _ s2).1, (mm _ _ s2).2.1]
    · rw [wM_eq pa.1 pb.1 pc.1 pd.1, (mn' _ _ s1).1, (mn' _ _ s1).2, (mn' _ _ s2).1, (mn' _ _ s2).2]
  · rw [if_neg h, if_neg h]
set_option maxHeartbeats 2000000 in
theorem f74 (ax ay bx by' cx cy dx dy : Int) : Fn Tryz.prog 74 false [.agg [i ax, i ay, i bx, i by'], .agg [i cx, i cy, i dx, i dy]] (i (M_HowMeet ax ay bx by' cx cy dx dy)) := by
  rw [← wHowI_eq]
  refine Fn.by_sx hX (by kernel_rfl) c74 (by kernel_rfl) (by rfl) ?_
  simp [i74, sxa, isPtrN, PV.pcs, elAt, setEl, inAt, elIn, setIn, isLst, cellsOf, Ex.ok, Ex.val, Opd.val, POp.dst, bin_int, binOK_int, bin_str, binOK_str, resOK, resV, RB.val, sub, putc, scB, scL, oneB, conf, Ex.val.eqP, Ex.val.eqL, negV, mxV, mnV, ← wr_eq, wr_zero, wr_one, wr_m1, bst_lst, byteC, partsOK, putAll, appV, nilV, slV, sslV, optB, optNum, and_assoc, exists_and_left, exists_eq_left']
  repeat' (first | intro _ | (simp [sxa, isPtrN, PV.pcs, elAt, setEl, inAt, elIn, setIn, isLst, cellsOf, Ex.ok, Ex.val, Opd.val, POp.dst, bin_int, binOK_int, bin_str, binOK_str, resOK, resV, RB.val, sub, putc, scB, scL, oneB, conf, Ex.val.eqP, Ex.val.eqL, negV, mxV, mnV, ← wr_eq, wr_zero, wr_one, wr_m1, bst_lst, byteC, partsOK, putAll, appV, nilV, slV, sslV, optB, optNum, and_assoc, exists_and_left, exists_eq_left', *]) | refine CallS_b (f76 _ _ _ _) (fun h => ?_) (fun h => ?_) | refine CallS_b (f87 _ _ _ _) (fun h => ?_) (fun h => ?_) | refine CallS_b (f88 _ _ _ _ _ _) (fun h => ?_) (fun h => ?_) | refine CallS_i (f85 _ _ _ _ _ _) ?_ | refine CallS_i (f86 _ _ _ _) ?_ | refine CondS_d (fun h => ?_) (fun h => ?_) | refine CondS_b (fun h => ?_) (fun h => ?_) | refine GrdS_d (fun h => ?_) (fun h => ?_) | refine GrdS_b (fun h => ?_) (fun h => ?_) | refine OkS_i (by omega) ?_ | fail)
  all_goals simp_all [wHowI, wM, wr_zero]
  all_goals (intros; omega)
end Go.Eng
namespace Go.Eng
open Go Go.Proofs Geo
set_option linter.unusedSimpArgs false
set_option linter.unusedVariables false
set_option maxRecDepth 20000

def allTo (ok : Nat → Bool) (n : Nat) : Bool := (List.range n).all ok
theorem allTo_bad {ok : Nat → Bool} {n N : Nat} (h : n < N) (hb : ok n = false) : allTo ok N = false := by
  unfold allTo; rw [List.all_eq_false]; exact ⟨n, List.mem_range.2 h, by simp [hb]⟩
theorem allTo_zero {ok : Nat → Bool} : allTo ok 0 = true := rfl
theorem allTo_succ {ok : Nat → Bool} {n : Nat} : allTo ok (n + 1) = (allTo ok n && ok n) := by
  unfold allTo; rw [List.range_succ, List.all_append]; simp
def okAt (l : List Pt) (n : Nat) : Bool := M_IsPoint (l.getD n ⟨0, 0⟩).f0 (l.getD n ⟨0, 0⟩).f1 && !(decide (0 < n) && eqb (l.getD (n - 1) ⟨0, 0⟩) (l.getD n ⟨0, 0⟩))
def wLine (l : List Pt) : Bool := inR l.length 2 10 && allTo (okAt l) l.length
theorem wLine_len {l : List Pt} (h : wLine l = true) : 2 ≤ l.length ∧ l.length ≤ 10 := by
  unfold wLine inR at h
  simp at h
  omega
theorem f99 (l : List Pt) (nl : Bool) (hl : l.length ≤ 1152921504606846976) : Fn Tryz.prog 99 false [.lst 2 nl (l.map cp)] (.bool (wLine l)) := by
  refine Fn.by_sx hX (by kernel_rfl) c99 (by kernel_rfl) (by rfl) ?_
  simp [i99, sxa, isPtrN, PV.pcs, elAt, setEl, inAt, elIn, setIn, isLst, cellsOf, Ex.ok, Ex.val, Opd.val, POp.dst, bin_int, binOK_int, bin_str, binOK_str, resOK, resV, RB.val, sub, putc, scB, scL, oneB, conf, Ex.val.eqP, Ex.val.eqL, negV, mxV, mnV, ← wr_eq, wr_zero, wr_one, wr_m1, bst_lst, byteC, partsOK, putAll, appV, nilV, slV, sslV, optB, optNum, and_assoc, exists_and_left, exists_eq_left']
  refine sx_count l.length (fun n V => V 0 = .lst 2 nl (l.map cp) ∧ V 3 = i n ∧ allTo (okAt l) n = true) 0 (by omega) (by simp [sxa, isPtrN, PV.pcs, elAt, setEl, inAt, elIn, setIn, isLst, cellsOf, Ex.ok, Ex.val, Opd.val, POp.dst, bin_int, binOK_int, bin_str, binOK_str, resOK, resV, RB.val, sub, putc, scB, scL, oneB, conf, Ex.val.eqP, Ex.val.eqL, negV, mxV, mnV, ← wr_eq, wr_zero, wr_one, wr_m1, bst_lst, byteC, partsOK, putAll, appV, nilV, slV, sslV, optB, optNum, and_assoc, exists_and_left, exists_eq_left', allTo_zero]) ?_
  rintro n V hn ⟨h0, h3, ha⟩
  simp [sxa, isPtrN, PV.pcs, elAt, setEl, inAt, elIn, setIn, isLst, cellsOf, Ex.ok, Ex.val, Opd.val, POp.dst, bin_int, binOK_int, bin_str, binOK_str, resOK, resV, RB.val, sub, putc, scB, scL, oneB, conf, Ex.val.eqP, Ex.val.eqL, negV, mxV, mnV, ← wr_eq, wr_zero, wr_one, wr_m1, bst_lst, byteC, partsOK, putAll, appV, nilV, slV, sslV, optB, optNum, and_assoc, exists_and_left, exists_eq_left', h0, h3]
  refine CondS_d (fun hlt => ?_) (fun hge => ?_)
  · have hlt' : n < l.length := by omega
    have hbad : okAt l n = false → wLine l = false := fun h => by simp [wLine, allTo_bad hlt' h]
    rcases Nat.eq_zero_or_pos n with rfl | hpos
    · repeat' (first | intro _ | (simp [sxa, isPtrN, PV.pcs, elAt, setEl, inAt, elIn, setIn, isLst, cellsOf, Ex.ok, Ex.val, Opd.val, POp.dst, bin_int, binOK_int, bin_str, binOK_str, resOK, resV, RB.val, sub, putc, scB, scL, oneB, conf, Ex.val.eqP, Ex.val.eqL, negV, mxV, mnV, ← wr_eq, wr_zero, wr_one, wr_m1, bst_lst, byteC, partsOK, putAll, appV, nilV, slV, sslV, optB, optNum, and_assoc, exists_and_left, exists_eq_left', cp, allTo_succ, *]) | refine CallS_b (f92 _ _) (fun h => ?_) (fun h => ?_) | refine CondS_d (fun h => ?_) (fun h => ?_) | refine CondS_b (fun h => ?_) (fun h => ?_) | refine GrdS_d (fun h => ?_) (fun h => ?_) | refine GrdS_b (fun h => ?_) (fun h => ?_) | refine OkS_i (by omega) ?_ | fail)
      all_goals first | (apply hbad; simp_all [okAt, eqb]; done) | simp_all [okAt, eqb]
      all_goals omega
    · have hw : wr .i64 ((n : Int) + 1) = n + 1 := wr_in (by omega) (by omega)
      have hw2 : wr .i64 ((n : Int) - 1) = ((n - 1 : Nat) : Int) := wrap_down n hpos (by omega)
      have hpos' : (0 : Int) < n := by omega
      have hm : n - 1 < l.length := by omega
      repeat' (first | intro _ | (simp [sxa, isPtrN, PV.pcs, elAt, setEl, inAt, elIn, setIn, isLst, cellsOf, Ex.ok, Ex.val, Opd.val, POp.dst, bin_int, binOK_int, bin_str, binOK_str, resOK, resV, RB.val, sub, putc, scB, scL, oneB, conf, Ex.val.eqP, Ex.val.eqL, negV, mxV, mnV, ← wr_eq, wr_zero, wr_one, wr_m1, bst_lst, byteC, partsOK, putAll, appV, nilV, slV, sslV, optB, optNum, and_assoc, exists_and_left, exists_eq_left', cp, allTo_succ, *]) | refine CallS_b (f92 _ _) (fun h => ?_) (fun h => ?_) | refine CondS_d (fun h => ?_) (fun h => ?_) | refine CondS_b (fun h => ?_) (fun h => ?_) | refine GrdS_d (fun h => ?_) (fun h => ?_) | refine GrdS_b (fun h => ?_) (fun h => ?_) | refine OkS_i (by omega) ?_ | fail)
      all_goals first | (apply hbad; simp_all [okAt, eqb]; done) | simp_all [okAt, eqb]
      all_goals omega
  · have : n = l.length := by omega
    subst this
    repeat' (first | intro _ | (simp [sxa, isPtrN, PV.pcs, elAt, setEl, inAt, elIn, setIn, isLst, cellsOf, Ex.ok, Ex.val, Opd.val, POp.dst, bin_int, binOK_int, bin_str, binOK_str, resOK, resV, RB.val, sub, putc, scB, scL, oneB, conf, Ex.val.eqP, Ex.val.eqL, negV, mxV, mnV, ← wr_eq, wr_zero, wr_one, wr_m1, bst_lst, byteC, partsOK, putAll, appV, nilV, slV, sslV, optB, optNum, and_assoc, exists_and_left, exists_eq_left', *]) | refine CallS_i (f59 _ _ _) ?_ | refine CondS_d (fun h => ?_) (fun h => ?_) | refine CondS_b (fun h => ?_) (fun h => ?_) | refine GrdS_d (fun h => ?_) (fun h => ?_) | refine GrdS_b (fun h => ?_) (fun h => ?_) | refine OkS_i (by omega) ?_ | fail)
    all_goals simp_all [wLine]
theorem f72 (l : List Pt) (nl : Bool) (hl : l.length ≤ 1152921504606846976) : Fn Tryz.prog 72 false [.lst 2 nl (l.map cp)] (.bool (wLine l)) := by
  refine Fn.by_sx hX (by kernel_rfl) c72 (by kernel_rfl) (by rfl) ?_
  simp [i72, sxa, isPtrN, PV.pcs, elAt, setEl, inAt, elIn, setIn, isLst, cellsOf, Ex.ok, Ex.val, Opd.val, POp.dst, bin_int, binOK_int, bin_str, binOK_str, resOK, resV, RB.val, sub, putc, scB, scL, oneB, conf, Ex.val.eqP, Ex.val.eqL, negV, mxV, mnV, ← wr_eq, wr_zero, wr_one, wr_m1, bst_lst, byteC, partsOK, putAll, appV, nilV, slV, sslV, optB, optNum, and_assoc, exists_and_left, exists_eq_left']
  by_cases hlen : inR l.length 2 10 = true
  · have hL : ¬ l.length < 2 ∧ ¬ 10 < l.length := by simp [inR] at hlen; omega
    have hL1 : ¬ (l.length : Int) < 2 := by omega
    have hL2 : ¬ (10 : Int) < l.length := by omega
    repeat' (first | intro _ | (simp [sxa, isPtrN, PV.pcs, elAt, setEl, inAt, elIn, setIn, isLst, cellsOf, Ex.ok, Ex.val, Opd.val, POp.dst, bin_int, binOK_int, bin_str, binOK_str, resOK, resV, RB.val, sub, putc, scB, scL, oneB, conf, Ex.val.eqP, Ex.val.eqL, negV, mxV, mnV, ← wr_eq, wr_zero, wr_one, wr_m1, bst_lst, byteC, partsOK, putAll, appV, nilV, slV, sslV, optB, optNum, and_assoc, exists_and_left, exists_eq_left', *]) | refine CondS_d (fun h => ?_) (fun h => ?_) | refine CondS_b (fun h => ?_) (fun h => ?_) | refine GrdS_d (fun h => ?_) (fun h => ?_) | refine GrdS_b (fun h => ?_) (fun h => ?_) | refine OkS_i (by omega) ?_ | fail)
    refine sx_count l.length (fun n V => V 0 = .lst 2 nl (l.map cp) ∧ V 13 = .lst 2 nl (l.map cp) ∧ V 14 = i l.length ∧ V 15 = i n ∧ allTo (okAt l) n = true) 0 (by omega) (by simp [sxa, isPtrN, PV.pcs, elAt, setEl, inAt, elIn, setIn, isLst, cellsOf, Ex.ok, Ex.val, Opd.val, POp.dst, bin_int, binOK_int, bin_str, binOK_str, resOK, resV, RB.val, sub, putc, scB, scL, oneB, conf, Ex.val.eqP, Ex.val.eqL, negV, mxV, mnV, ← wr_eq, wr_zero, wr_one, wr_m1, bst_lst, byteC, partsOK, putAll, appV, nilV, slV, sslV, optB, optNum, and_assoc, exists_and_left, exists_eq_left', allTo_zero]) ?_
    rintro n V hn ⟨h0, h13, h14, h15, ha⟩
    simp [sxa, isPtrN, PV.pcs, elAt, setEl, inAt, elIn, setIn, isLst, cellsOf, Ex.ok, Ex.val, Opd.val, POp.dst, bin_int, binOK_int, bin_str, binOK_str, resOK, resV, RB.val, sub, putc, scB, scL, oneB, conf, Ex.val.eqP, Ex.val.eqL, negV, mxV, mnV, ← wr_eq, wr_zero, wr_one, wr_m1, bst_lst, byteC, partsOK, putAll, appV, nilV, slV, sslV, optB, optNum, and_assoc, exists_and_left, exists_eq_left', h14, h15]
    refine CondS_d (fun hlt => ?_) (fun hge => ?_)
    · have hlt' : n < l.length := by omega
      have hbad : okAt l n = false → wLine l = false := fun h => by simp [wLine, allTo_bad hlt' h]
      rcases Nat.eq_zero_or_pos n with rfl | hpos
      · repeat' (first | intro _ | (simp [sxa, isPtrN, PV.pcs, elAt, setEl, inAt, elIn, setIn, isLst, cellsOf, Ex.ok, Ex.val, Opd.val, POp.dst, bin_int, binOK_int, bin_str, binOK_str, resOK, resV, RB.val, sub, putc, scB, scL, oneB, conf, Ex.val.eqP, Ex.val.eqL, negV, mxV, mnV, ← wr_eq, wr_zero, wr_one, wr_m1, bst_lst, byteC, partsOK, putAll, appV, nilV, slV, sslV, optB, optNum, and_assoc, exists_and_left, exists_eq_left', cp, allTo_succ, *]) | refine CallS_b (f51 _ _) (fun h => ?_) (fun h => ?_) | refine CondS_d (fun h => ?_) (fun h => ?_) | refine CondS_b (fun h => ?_) (fun h => ?_) | refine GrdS_d (fun h => ?_) (fun h => ?_) | refine GrdS_b (fun h => ?_) (fun h => ?_) | refine OkS_i (by omega) ?_ | fail)
        all_goals first | (apply hbad; simp_all [okAt, eqb]; done) | simp_all [okAt, eqb]
        all_goals omega
      · have hw : wr .i64 ((n : Int) + 1) = n + 1 := wr_in (by omega) (by omega)
        have hw2 : wr .i64 ((n : Int) - 1) = ((n - 1 : Nat) : Int) := wrap_down n hpos (by omega)
        have hpos' : (0 : Int) < n := by omega
        have hm : n - 1 < l.length := by omega
        repeat' (first | intro _ | (simp [sxa, isPtrN, PV.pcs, elAt, setEl, inAt, elIn, setIn, isLst, cellsOf, Ex.ok, Ex.val, Opd.val, POp.dst, bin_int, binOK_int, bin_str, binOK_str, resOK, resV, RB.val, sub, putc, scB, scL, oneB, conf, Ex.val.eqP, Ex.val.eqL, negV, mxV, mnV, ← wr_eq, wr_zero, wr_one, wr_m1, bst_lst, byteC, partsOK, putAll, appV, nilV, slV, sslV, optB, optNum, and_assoc, exists_and_left, exists_eq_left', cp, allTo_succ, *]) | refine CallS_b (f51 _ _) (fun h => ?_) (fun h => ?_) | refine CondS_d (fun h => ?_) (fun h => ?_) | refine CondS_b (fun h => ?_) (fun h => ?_) | refine GrdS_d (fun h => ?_) (fun h => ?_) | refine GrdS_b (fun h => ?_) (fun h => ?_) | refine OkS_i (by omega) ?_ | fail)
        all_goals first | (apply hbad; simp_all [okAt, eqb]; done) | simp_all [okAt, eqb]
        all_goals omega
    · have : n = l.length := by omega
      subst this
      repeat' (first | intro _ | (simp [sxa, isPtrN, PV.pcs, elAt, setEl, inAt, elIn, setIn, isLst, cellsOf, Ex.ok, Ex.val, Opd.val, POp.dst, bin_int, binOK_int, bin_str, binOK_str, resOK, resV, RB.val, sub, putc, scB, scL, oneB, conf, Ex.val.eqP, Ex.val.eqL, negV, mxV, mnV, ← wr_eq, wr_zero, wr_one, wr_m1, bst_lst, byteC, partsOK, putAll, appV, nilV, slV, sslV, optB, optNum, and_assoc, exists_and_left, exists_eq_left', *]) | refine CondS_d (fun h => ?_) (fun h => ?_) | refine CondS_b (fun h => ?_) (fun h => ?_) | refine GrdS_d (fun h => ?_) (fun h => ?_) | refine GrdS_b (fun h => ?_) (fun h => ?_) | refine OkS_i (by omega) ?_ | fail)
      all_goals simp_all [wLine]
  · have hf : wLine l = false := by simp [wLine, hlen]
    have hL : (l.length : Int) < 2 ∨ (10 : Int) < l.length := by simp [inR] at hlen; omega
    rcases hL with h | h
    · repeat' (first | intro _ | (simp [sxa, isPtrN, PV.pcs, elAt, setEl, inAt, elIn, setIn, isLst, cellsOf, Ex.ok, Ex.val, Opd.val, POp.dst, bin_int, binOK_int, bin_str, binOK_str, resOK, resV, RB.val, sub, putc, scB, scL, oneB, conf, Ex.val.eqP, Ex.val.eqL, negV, mxV, mnV, ← wr_eq, wr_zero, wr_one, wr_m1, bst_lst, byteC, partsOK, putAll, appV, nilV, slV, sslV, optB, optNum, and_assoc, exists_and_left, exists_eq_left', *]) | refine CondS_d (fun h => ?_) (fun h => ?_) | refine CondS_b (fun h => ?_) (fun h => ?_) | refine GrdS_d (fun h => ?_) (fun h => ?_) | refine GrdS_b (fun h => ?_) (fun h => ?_) | refine OkS_i (by omega) ?_ | fail)
    · have : ¬ (l.length : Int) < 2 := by omega
      repeat' (first | intro _ | (simp [sxa, isPtrN, PV.pcs, elAt, setEl, inAt, elIn, setIn, isLst, cellsOf, Ex.ok, Ex.val, Opd.val, POp.dst, bin_int, binOK_int, bin_str, binOK_str, resOK, resV, RB.val, sub, putc, scB, scL, oneB, conf, Ex.val.eqP, Ex.val.eqL, negV, mxV, mnV, ← wr_eq, wr_zero, wr_one, wr_m1, bst_lst, byteC, partsOK, putAll, appV, nilV, slV, sslV, optB, optNum, and_assoc, exists_and_left, exists_eq_left', *]) | refine CondS_d (fun h => ?_) (fun h => ?_) | refine CondS_b (fun h => ?_) (fun h => ?_) | refine GrdS_d (fun h => ?_) (fun h => ?_) | refine GrdS_b (fun h => ?_) (fun h => ?_) | refine OkS_i (by omega) ?_ | fail)
end Go.Eng
namespace Go.Eng
open Go Go.Proofs Geo
set_option linter.unusedSimpArgs false
set_option linter.unusedVariables false
set_option maxRecDepth 20000

/-- a list that is built index by index -/
def upTo {α : Type} (f : Nat → α) (n : Nat) : List α := (List.range n).map f
theorem upTo_zero {α : Type} {f : Nat → α} : upTo f 0 = [] := rfl
theorem upTo_succ {α : Type} {f : Nat → α} {n : Nat} : upTo f (n + 1) = upTo f n ++ [f n] := by simp [upTo, List.range_succ]
theorem upTo_length {α : Type} {f : Nat → α} {n : Nat} : (upTo f n).length = n := by simp [upTo]
theorem tmod_nat (a b : Nat) : ((a : Int) + 1).tmod (b : Int) = (((a + 1) % b : Nat) : Int) := by
  have : ((a : Int) + 1) = ((a + 1 : Nat) : Int) := rfl
  rw [this, Int.ofNat_tmod]
def sgAt (l : List Pt) (k : Nat) : Sg := ⟨l.getD k ⟨0, 0⟩, l.getD (k + 1) ⟨0, 0⟩⟩
def rgAt (l : List Pt) (k : Nat) : Sg := ⟨l.getD k ⟨0, 0⟩, l.getD ((k + 1) % l.length) ⟨0, 0⟩⟩
def wSegs (l : List Pt) : List Sg := if wLine l = true then upTo (sgAt l) (l.length - 1) else []
theorem f89 (l : List Pt) (nl : Bool) (hl : l.length ≤ 1152921504606846976) : Fn Tryz.prog 89 true [.lst 2 nl (l.map cp)] (.lst 4 false ((wSegs l).map cs)) := by
  refine Fn.by_sx hX (by kernel_rfl) c89 (by kernel_rfl) (by rfl) ?_
  simp [i89, sxa, isPtrN, PV.pcs, elAt, setEl, inAt, elIn, setIn, isLst, cellsOf, Ex.ok, Ex.val, Opd.val, POp.dst, bin_int, binOK_int, bin_str, binOK_str, resOK, resV, RB.val, sub, putc, scB, scL, oneB, conf, Ex.val.eqP, Ex.val.eqL, negV, mxV, mnV, ← wr_eq, wr_zero, wr_one, wr_m1, bst_lst, byteC, partsOK, putAll, appV, nilV, slV, sslV, optB, optNum, and_assoc, exists_and_left, exists_eq_left']
  by_cases hL : wLine l = true
  · have hn := wLine_len hL
    refine sx_count l.length (fun n V => 1 ≤ n ∧ V 0 = .lst 2 nl (l.map cp) ∧ V 4 = i n ∧ V 3 = .lst 4 false ((upTo (sgAt l) (n - 1)).map cs)) 1 (by omega) (by simp [sxa, isPtrN, PV.pcs, elAt, setEl, inAt, elIn, setIn, isLst, cellsOf, Ex.ok, Ex.val, Opd.val, POp.dst, bin_int, binOK_int, bin_str, binOK_str, resOK, resV, RB.val, sub, putc, scB, scL, oneB, conf, Ex.val.eqP, Ex.val.eqL, negV, mxV, mnV, ← wr_eq, wr_zero, wr_one, wr_m1, bst_lst, byteC, partsOK, putAll, appV, nilV, slV, sslV, optB, optNum, and_assoc, exists_and_left, exists_eq_left', upTo_zero]) ?_
    rintro n V hn ⟨h1, h0, h4, h3⟩
    simp [sxa, isPtrN, PV.pcs, elAt, setEl, inAt, elIn, setIn, isLst, cellsOf, Ex.ok, Ex.val, Opd.val, POp.dst, bin_int, binOK_int, bin_str, binOK_str, resOK, resV, RB.val, sub, putc, scB, scL, oneB, conf, Ex.val.eqP, Ex.val.eqL, negV, mxV, mnV, ← wr_eq, wr_zero, wr_one, wr_m1, bst_lst, byteC, partsOK, putAll, appV, nilV, slV, sslV, optB, optNum, and_assoc, exists_and_left, exists_eq_left', h0, h3, h4]
    refine GrdS_d (fun hlt => ?_) (fun hge => ?_)
    · have hlt' : n < l.length := by omega
      have hw : wr .i64 ((n : Int) + 1) = n + 1 := wr_in (by omega) (by omega)
      have hw2 : wr .i64 ((n : Int) - 1) = ((n - 1 : Nat) : Int) := wrap_down n h1 (by omega)
      have hm : n - 1 < l.length := by omega
      have ex : upTo (sgAt l) n = upTo (sgAt l) (n - 1) ++ [⟨l[n - 1], l[n]⟩] := by
        have := upTo_succ (f := sgAt l) (n := n - 1)
        rw [Nat.sub_add_cancel h1] at this
        rw [this]; simp [sgAt, hm, hlt', Nat.sub_add_cancel h1]
      repeat' (first | intro _ | (simp [sxa, isPtrN, PV.pcs, elAt, setEl, inAt, elIn, setIn, isLst, cellsOf, Ex.ok, Ex.val, Opd.val, POp.dst, bin_int, binOK_int, bin_str, binOK_str, resOK, resV, RB.val, sub, putc, scB, scL, oneB, conf, Ex.val.eqP, Ex.val.eqL, negV, mxV, mnV, ← wr_eq, wr_zero, wr_one, wr_m1, bst_lst, byteC, partsOK, putAll, appV, nilV, slV, sslV, optB, optNum, and_assoc, exists_and_left, exists_eq_left', cp, cs, upTo_length, *]) | refine CallS_i (f99 l nl hl) ?_ | refine CondS_d (fun h => ?_) (fun h => ?_) | refine CondS_b (fun h => ?_) (fun h => ?_) | refine GrdS_d (fun h => ?_) (fun h => ?_) | refine GrdS_b (fun h => ?_) (fun h => ?_) | refine OkS_i (by omega) ?_ | fail)
    · have : n = l.length := by omega
      subst this
      repeat' (first | intro _ | (simp [sxa, isPtrN, PV.pcs, elAt, setEl, inAt, elIn, setIn, isLst, cellsOf, Ex.ok, Ex.val, Opd.val, POp.dst, bin_int, binOK_int, bin_str, binOK_str, resOK, resV, RB.val, sub, putc, scB, scL, oneB, conf, Ex.val.eqP, Ex.val.eqL, negV, mxV, mnV, ← wr_eq, wr_zero, wr_one, wr_m1, bst_lst, byteC, partsOK, putAll, appV, nilV, slV, sslV, optB, optNum, and_assoc, exists_and_left, exists_eq_left', cp, cs, wSegs, *]) | refine CallS_i (f99 l nl hl) ?_ | refine CondS_d (fun h => ?_) (fun h => ?_) | refine CondS_b (fun h => ?_) (fun h => ?_) | refine GrdS_d (fun h => ?_) (fun h => ?_) | refine GrdS_b (fun h => ?_) (fun h => ?_) | refine OkS_i (by omega) ?_ | fail)
  · have hf : wSegs l = [] := by simp [wSegs, hL]
    have hL' : wLine l = false := by simpa using hL
    refine sx_count (max 1 l.length) (fun n V => n = 1 ∧ V 0 = .lst 2 nl (l.map cp) ∧ V 4 = i 1 ∧ V 3 = .lst 4 false []) 1 (by omega) (by simp [sxa, isPtrN, PV.pcs, elAt, setEl, inAt, elIn, setIn, isLst, cellsOf, Ex.ok, Ex.val, Opd.val, POp.dst, bin_int, binOK_int, bin_str, binOK_str, resOK, resV, RB.val, sub, putc, scB, scL, oneB, conf, Ex.val.eqP, Ex.val.eqL, negV, mxV, mnV, ← wr_eq, wr_zero, wr_one, wr_m1, bst_lst, byteC, partsOK, putAll, appV, nilV, slV, sslV, optB, optNum, and_assoc, exists_and_left, exists_eq_left']) ?_
    rintro n V hn ⟨h1, h0, h4, h3⟩
    simp [sxa, isPtrN, PV.pcs, elAt, setEl, inAt, elIn, setIn, isLst, cellsOf, Ex.ok, Ex.val, Opd.val, POp.dst, bin_int, binOK_int, bin_str, binOK_str, resOK, resV, RB.val, sub, putc, scB, scL, oneB, conf, Ex.val.eqP, Ex.val.eqL, negV, mxV, mnV, ← wr_eq, wr_zero, wr_one, wr_m1, bst_lst, byteC, partsOK, putAll, appV, nilV, slV, sslV, optB, optNum, and_assoc, exists_and_left, exists_eq_left', h0, h3, h4]
    repeat' (first | intro _ | (simp [sxa, isPtrN, PV.pcs, elAt, setEl, inAt, elIn, setIn, isLst, cellsOf, Ex.ok, Ex.val, Opd.val, POp.dst, bin_int, binOK_int, bin_str, binOK_str, resOK, resV, RB.val, sub, putc, scB, scL, oneB, conf, Ex.val.eqP, Ex.val.eqL, negV, mxV, mnV, ← wr_eq, wr_zero, wr_one, wr_m1, bst_lst, byteC, partsOK, putAll, appV, nilV, slV, sslV, optB, optNum, and_assoc, exists_and_left, exists_eq_left', cp, cs, *]) | refine CallS_i (f99 l nl hl) ?_ | refine CondS_d (fun h => ?_) (fun h => ?_) | refine CondS_b (fun h => ?_) (fun h => ?_) | refine GrdS_d (fun h => ?_) (fun h => ?_) | refine GrdS_b (fun h => ?_) (fun h => ?_) | refine OkS_i (by omega) ?_ | fail)
theorem f73 (l : List Pt) (nl : Bool) (hl : l.length ≤ 1152921504606846976) : Fn Tryz.prog 73 true [.lst 2 nl (l.map cp)] (.lst 4 false ((wSegs l).map cs)) := by
  refine Fn.by_sx hX (by kernel_rfl) c73 (by kernel_rfl) (by rfl) ?_
  simp [i73, sxa, isPtrN, PV.pcs, elAt, setEl, inAt, elIn, setIn, isLst, cellsOf, Ex.ok, Ex.val, Opd.val, POp.dst, bin_int, binOK_int, bin_str, binOK_str, resOK, resV, RB.val, sub, putc, scB, scL, oneB, conf, Ex.val.eqP, Ex.val.eqL, negV, mxV, mnV, ← wr_eq, wr_zero, wr_one, wr_m1, bst_lst, byteC, partsOK, putAll, appV, nilV, slV, sslV, optB, optNum, and_assoc, exists_and_left, exists_eq_left']
  refine CallS_b (f72 l nl hl) (fun hL => ?_) (fun hL => ?_)
  · have hn := wLine_len hL
    repeat' (first | intro _ | (simp [sxa, isPtrN, PV.pcs, elAt, setEl, inAt, elIn, setIn, isLst, cellsOf, Ex.ok, Ex.val, Opd.val, POp.dst, bin_int, binOK_int, bin_str, binOK_str, resOK, resV, RB.val, sub, putc, scB, scL, oneB, conf, Ex.val.eqP, Ex.val.eqL, negV, mxV, mnV, ← wr_eq, wr_zero, wr_one, wr_m1, bst_lst, byteC, partsOK, putAll, appV, nilV, slV, sslV, optB, optNum, and_assoc, exists_and_left, exists_eq_left', *]) | refine CondS_d (fun h => ?_) (fun h => ?_) | refine CondS_b (fun h => ?_) (fun h => ?_) | refine GrdS_d (fun h => ?_) (fun h => ?_) | refine GrdS_b (fun h => ?_) (fun h => ?_) | refine OkS_i (by omega) ?_ | fail)
    refine sx_count l.length (fun n V => 1 ≤ n ∧ V 0 = .lst 2 nl (l.map cp) ∧ V 4 = i n ∧ V 3 = .lst 4 false ((upTo (sgAt l) (n - 1)).map cs)) 1 (by omega) (by simp [sxa, isPtrN, PV.pcs, elAt, setEl, inAt, elIn, setIn, isLst, cellsOf, Ex.ok, Ex.val, Opd.val, POp.dst, bin_int, binOK_int, bin_str, binOK_str, resOK, resV, RB.val, sub, putc, scB, scL, oneB, conf, Ex.val.eqP, Ex.val.eqL, negV, mxV, mnV, ← wr_eq, wr_zero, wr_one, wr_m1, bst_lst, byteC, partsOK, putAll, appV, nilV, slV, sslV, optB, optNum, and_assoc, exists_and_left, exists_eq_left', upTo_zero]) ?_
    rintro n V hn ⟨h1, h0, h4, h3⟩
    simp [sxa, isPtrN, PV.pcs, elAt, setEl, inAt, elIn, setIn, isLst, cellsOf, Ex.ok, Ex.val, Opd.val, POp.dst, bin_int, binOK_int, bin_str, binOK_str, resOK, resV, RB.val, sub, putc, scB, scL, oneB, conf, Ex.val.eqP, Ex.val.eqL, negV, mxV, mnV, ← wr_eq, wr_zero, wr_one, wr_m1, bst_lst, byteC, partsOK, putAll, appV, nilV, slV, sslV, optB, optNum, and_assoc, exists_and_left, exists_eq_left', h0, h3, h4]
    refine CondS_d (fun hlt => ?_) (fun hge => ?_)
    · have hlt' : n < l.length := by omega
      have hw : wr .i64 ((n : Int) + 1) = n + 1 := wr_in (by omega) (by omega)
      have hw2 : wr .i64 ((n : Int) - 1) = ((n - 1 : Nat) : Int) := wrap_down n h1 (by omega)
      have hm : n - 1 < l.length := by omega
      have ex : upTo (sgAt l) n = upTo (sgAt l) (n - 1) ++ [⟨l[n - 1], l[n]⟩] := by
        have := upTo_succ (f := sgAt l) (n := n - 1)
        rw [Nat.sub_add_cancel h1] at this
        rw [this]; simp [sgAt, hm, hlt', Nat.sub_add_cancel h1]
      repeat' (first | intro _ | (simp [sxa, isPtrN, PV.pcs, elAt, setEl, inAt, elIn, setIn, isLst, cellsOf, Ex.ok, Ex.val, Opd.val, POp.dst, bin_int, binOK_int, bin_str, binOK_str, resOK, resV, RB.val, sub, putc, scB, scL, oneB, conf, Ex.val.eqP, Ex.val.eqL, negV, mxV, mnV, ← wr_eq, wr_zero, wr_one, wr_m1, bst_lst, byteC, partsOK, putAll, appV, nilV, slV, sslV, optB, optNum, and_assoc, exists_and_left, exists_eq_left', cp, cs, upTo_length, *]) | refine CondS_d (fun h => ?_) (fun h => ?_) | refine CondS_b (fun h => ?_) (fun h => ?_) | refine GrdS_d (fun h => ?_) (fun h => ?_) | refine GrdS_b (fun h => ?_) (fun h => ?_) | refine OkS_i (by omega) ?_ | fail)
    · have : n = l.length := by omega
      subst this
      repeat' (first | intro _ | (simp [sxa, isPtrN, PV.pcs, elAt, setEl, inAt, elIn, setIn, isLst, cellsOf, Ex.ok, Ex.val, Opd.val, POp.dst, bin_int, binOK_int, bin_str, binOK_str, resOK, resV, RB.val, sub, putc, scB, scL, oneB, conf, Ex.val.eqP, Ex.val.eqL, negV, mxV, mnV, ← wr_eq, wr_zero, wr_one, wr_m1, bst_lst, byteC, partsOK, putAll, appV, nilV, slV, sslV, optB, optNum, and_assoc, exists_and_left, exists_eq_left', cp, cs, wSegs, *]) | refine CondS_d (fun h => ?_) (fun h => ?_) | refine CondS_b (fun h => ?_) (fun h => ?_) | refine GrdS_d (fun h => ?_) (fun h => ?_) | refine GrdS_b (fun h => ?_) (fun h => ?_) | refine OkS_i (by omega) ?_ | fail)
  · have hf : wSegs l = [] := by simp [wSegs, hL]
    repeat' (first | intro _ | (simp [sxa, isPtrN, PV.pcs, elAt, setEl, inAt, elIn, setIn, isLst, cellsOf, Ex.ok, Ex.val, Opd.val, POp.dst, bin_int, binOK_int, bin_str, binOK_str, resOK, resV, RB.val, sub, putc, scB, scL, oneB, conf, Ex.val.eqP, Ex.val.eqL, negV, mxV, mnV, ← wr_eq, wr_zero, wr_one, wr_m1, bst_lst, byteC, partsOK, putAll, appV, nilV, slV, sslV, optB, optNum, and_assoc, exists_and_left, exists_eq_left', cp, cs, *]) | refine CondS_d (fun h => ?_) (fun h => ?_) | refine CondS_b (fun h => ?_) (fun h => ?_) | refine GrdS_d (fun h => ?_) (fun h => ?_) | refine GrdS_b (fun h => ?_) (fun h => ?_) | refine OkS_i (by omega) ?_ | fail)
theorem f100 (l : List Pt) (nl : Bool) (hl : l.length ≤ 1000000000000) : Fn Tryz.prog 100 true [.lst 2 nl (l.map cp)] (.lst 4 false ((upTo (rgAt l) l.length).map cs)) := by
  refine Fn.by_sx hX (by kernel_rfl) c100 (by kernel_rfl) (by rfl) ?_
  simp [i100, sxa, isPtrN, PV.pcs, elAt, setEl, inAt, elIn, setIn, isLst, cellsOf, Ex.ok, Ex.val, Opd.val, POp.dst, bin_int, binOK_int, bin_str, binOK_str, resOK, resV, RB.val, sub, putc, scB, scL, oneB, conf, Ex.val.eqP, Ex.val.eqL, negV, mxV, mnV, ← wr_eq, wr_zero, wr_one, wr_m1, bst_lst, byteC, partsOK, putAll, appV, nilV, slV, sslV, optB, optNum, and_assoc, exists_and_left, exists_eq_left']
  refine sx_count l.length (fun n V => V 0 = .lst 2 nl (l.map cp) ∧ V 4 = i n ∧ V 3 = .lst 4 false ((upTo (rgAt l) n).map cs)) 0 (by omega) (by simp [sxa, isPtrN, PV.pcs, elAt, setEl, inAt, elIn, setIn, isLst, cellsOf, Ex.ok, Ex.val, Opd.val, POp.dst, bin_int, binOK_int, bin_str, binOK_str, resOK, resV, RB.val, sub, putc, scB, scL, oneB, conf, Ex.val.eqP, Ex.val.eqL, negV, mxV, mnV, ← wr_eq, wr_zero, wr_one, wr_m1, bst_lst, byteC, partsOK, putAll, appV, nilV, slV, sslV, optB, optNum, and_assoc, exists_and_left, exists_eq_left', upTo_zero]) ?_
  rintro n V hn ⟨h0, h4, h3⟩
  simp [sxa, isPtrN, PV.pcs, elAt, setEl, inAt, elIn, setIn, isLst, cellsOf, Ex.ok, Ex.val, Opd.val, POp.dst, bin_int, binOK_int, bin_str, binOK_str, resOK, resV, RB.val, sub, putc, scB, scL, oneB, conf, Ex.val.eqP, Ex.val.eqL, negV, mxV, mnV, ← wr_eq, wr_zero, wr_one, wr_m1, bst_lst, byteC, partsOK, putAll, appV, nilV, slV, sslV, optB, optNum, and_assoc, exists_and_left, exists_eq_left', h0, h3, h4]
  refine CondS_d (fun hlt => ?_) (fun hge => ?_)
  · have hlt' : n < l.length := by omega
    have hw : wr .i64 ((n : Int) + 1) = n + 1 := wr_in (by omega) (by omega)
    obtain ⟨q, hq, hq'⟩ : ∃ q, (n + 1) % l.length = q ∧ q < l.length := ⟨_, rfl, Nat.mod_lt _ (by omega)⟩
    have h0' : ¬ l.length = 0 := by omega
    have ht := tmod_nat n l.length
    rw [hq] at ht
    have ex : upTo (rgAt l) (n + 1) = upTo (rgAt l) n ++ [⟨l[n], l[q]⟩] := by
      rw [upTo_succ]; simp [rgAt, hq, hq', hlt']
    clear hq
    repeat' (first | intro _ | (simp [sxa, isPtrN, PV.pcs, elAt, setEl, inAt, elIn, setIn, isLst, cellsOf, Ex.ok, Ex.val, Opd.val, POp.dst, bin_int, binOK_int, bin_str, binOK_str, resOK, resV, RB.val, sub, putc, scB, scL, oneB, conf, Ex.val.eqP, Ex.val.eqL, negV, mxV, mnV, ← wr_eq, wr_zero, wr_one, wr_m1, bst_lst, byteC, partsOK, putAll, appV, nilV, slV, sslV, optB, optNum, and_assoc, exists_and_left, exists_eq_left', cp, cs, upTo_length, *]) | refine CondS_d (fun h => ?_) (fun h => ?_) | refine CondS_b (fun h => ?_) (fun h => ?_) | refine GrdS_d (fun h => ?_) (fun h => ?_) | refine GrdS_b (fun h => ?_) (fun h => ?_) | refine OkS_i (by omega) ?_ | fail)
  · have : n = l.length := by omega
    subst this
    repeat' (first | intro _ | (simp [sxa, isPtrN, PV.pcs, elAt, setEl, inAt, elIn, setIn, isLst, cellsOf, Ex.ok, Ex.val, Opd.val, POp.dst, bin_int, binOK_int, bin_str, binOK_str, resOK, resV, RB.val, sub, putc, scB, scL, oneB, conf, Ex.val.eqP, Ex.val.eqL, negV, mxV, mnV, ← wr_eq, wr_zero, wr_one, wr_m1, bst_lst, byteC, partsOK, putAll, appV, nilV, slV, sslV, optB, optNum, and_assoc, exists_and_left, exists_eq_left', cp, cs, *]) | refine CondS_d (fun h => ?_) (fun h => ?_) | refine CondS_b (fun h => ?_) (fun h => ?_) | refine GrdS_d (fun h => ?_) (fun h => ?_) | refine GrdS_b (fun h => ?_) (fun h => ?_) | refine OkS_i (by omega) ?_ | fail)
theorem f75 (l : List Pt) (nl : Bool) (hl : l.length ≤ 1000000000000) : Fn Tryz.prog 75 true [.lst 2 nl (l.map cp)] (.lst 4 false ((upTo (rgAt l) l.length).map cs)) := by
  refine Fn.by_sx hX (by kernel_rfl) c75 (by kernel_rfl) (by rfl) ?_
  simp [i75, sxa, isPtrN, PV.pcs, elAt, setEl, inAt, elIn, setIn, isLst, cellsOf, Ex.ok, Ex.val, Opd.val, POp.dst, bin_int, binOK_int, bin_str, binOK_str, resOK, resV, RB.val, sub, putc, scB, scL, oneB, conf, Ex.val.eqP, Ex.val.eqL, negV, mxV, mnV, ← wr_eq, wr_zero, wr_one, wr_m1, bst_lst, byteC, partsOK, putAll, appV, nilV, slV, sslV, optB, optNum, and_assoc, exists_and_left, exists_eq_left']
  refine sx_count l.length (fun n V => V 0 = .lst 2 nl (l.map cp) ∧ V 7 = .lst 2 nl (l.map cp) ∧ V 8 = i l.length ∧ V 9 = i n ∧ V 3 = .lst 4 false ((upTo (rgAt l) n).map cs)) 0 (by omega) (by simp [sxa, isPtrN, PV.pcs, elAt, setEl, inAt, elIn, setIn, isLst, cellsOf, Ex.ok, Ex.val, Opd.val, POp.dst, bin_int, binOK_int, bin_str, binOK_str, resOK, resV, RB.val, sub, putc, scB, scL, oneB, conf, Ex.val.eqP, Ex.val.eqL, negV, mxV, mnV, ← wr_eq, wr_zero, wr_one, wr_m1, bst_lst, byteC, partsOK, putAll, appV, nilV, slV, sslV, optB, optNum, and_assoc, exists_and_left, exists_eq_left', upTo_zero]) ?_
  rintro n V hn ⟨h0, h7, h8, h9, h3⟩
  simp [sxa, isPtrN, PV.pcs, elAt, setEl, inAt, elIn, setIn, isLst, cellsOf, Ex.ok, Ex.val, Opd.val, POp.dst, bin_int, binOK_int, bin_str, binOK_str, resOK, resV, RB.val, sub, putc, scB, scL, oneB, conf, Ex.val.eqP, Ex.val.eqL, negV, mxV, mnV, ← wr_eq, wr_zero, wr_one, wr_m1, bst_lst, byteC, partsOK, putAll, appV, nilV, slV, sslV, optB, optNum, and_assoc, exists_and_left, exists_eq_left', h8, h9]
  refine CondS_d (fun hlt => ?_) (fun hge => ?_)
  · have hlt' : n < l.length := by omega
    have hw : wr .i64 ((n : Int) + 1) = n + 1 := wr_in (by omega) (by omega)
    obtain ⟨q, hq, hq'⟩ : ∃ q, (n + 1) % l.length = q ∧ q < l.length := ⟨_, rfl, Nat.mod_lt _ (by omega)⟩
    have h0' : ¬ l.length = 0 := by omega
    have ht := tmod_nat n l.length
    rw [hq] at ht
    have ex : upTo (rgAt l) (n + 1) = upTo (rgAt l) n ++ [⟨l[n], l[q]⟩] := by
      rw [upTo_succ]; simp [rgAt, hq, hq', hlt']
    clear hq
    repeat' (first | intro _ | (simp [sxa, isPtrN, PV.pcs, elAt, setEl, inAt, elIn, setIn, isLst, cellsOf, Ex.ok, Ex.val, Opd.val, POp.dst, bin_int, binOK_int, bin_str, binOK_str, resOK, resV, RB.val, sub, putc, scB, scL, oneB, conf, Ex.val.eqP, Ex.val.eqL, negV, mxV, mnV, ← wr_eq, wr_zero, wr_one, wr_m1, bst_lst, byteC, partsOK, putAll, appV, nilV, slV, sslV, optB, optNum, and_assoc, exists_and_left, exists_eq_left', cp, cs, upTo_length, *]) | refine CondS_d (fun h => ?_) (fun h => ?_) | refine CondS_b (fun h => ?_) (fun h => ?_) | refine GrdS_d (fun h => ?_) (fun h => ?_) | refine GrdS_b (fun h => ?_) (fun h => ?_) | refine OkS_i (by omega) ?_ | fail)
  · have : n = l.length := by omega
    subst this
    repeat' (first | intro _ | (simp [sxa, isPtrN, PV.pcs, elAt, setEl, inAt, elIn, setIn, isLst, cellsOf, Ex.ok, Ex.val, Opd.val, POp.dst, bin_int, binOK_int, bin_str, binOK_str, resOK, resV, RB.val, sub, putc, scB, scL, oneB, conf, Ex.val.eqP, Ex.val.eqL, negV, mxV, mnV, ← wr_eq, wr_zero, wr_one, wr_m1, bst_lst, byteC, partsOK, putAll, appV, nilV, slV, sslV, optB, optNum, and_assoc, exists_and_left, exists_eq_left', cp, cs, *]) | refine CondS_d (fun h => ?_) (fun h => ?_) | refine CondS_b (fun h => ?_) (fun h => ?_) | refine GrdS_d (fun h => ?_) (fun h => ?_) | refine GrdS_b (fun h => ?_) (fun h => ?_) | refine OkS_i (by omega) ?_ | fail)
end Go.Eng
namespace Go.Eng
open Go Go.Proofs Geo
set_option linter.unusedSimpArgs false
set_option linter.unusedVariables false
set_option maxRecDepth 20000
set_option maxHeartbeats 1000000

def sMeet (a b : Sg) : Int := M_HowMeet a.f0.f0 a.f0.f1 a.f1.f0 a.f1.f1 b.f0.f0 b.f0.f1 b.f1.f0 b.f1.f1
def sgD (S : List Sg) (n : Nat) : Sg := S.getD n ⟨⟨0, 0⟩, ⟨0, 0⟩⟩
def rowS (S : List Sg) (n k : Nat) : Bool := decide (sMeet (sgD S n) (sgD S k) = if k + 1 = n then 1 else 0)
def wSimple (l : List Pt) : Bool := wLine l && allTo (fun n => allTo (rowS (wSegs l) n) n) (wSegs l).length
theorem l93_2 {S : List Sg} {n : Nat} {V : Env} (hn : n < S.length) (hS : S.length ≤ 1000000000000) (h3 : V 3 = .lst 4 false (S.map cs)) (h4 : V 4 = i n) (h5 : V 5 = i 0) :
    sx (FC Tryz.prog) (.loop (.seq (.seq (.ops [s 15 (.mv (t 5)),
  s 16 (.mv (t 4)),
  s 17 (.bin .lss (t 15) (t 16))])
 (.cond (t 17) .skip (.exit 2)))
 (.seq (.block 3 (.seq (.ops [s 6 (.mv (c (i 0)))])
 (.seq (.seq (.ops [s 20 (.mv (t 5)),
  s 21 (.bin .add (t 20) (c (i 1))),
  s 22 (.mv (t 4)),
  s 23 (.bin .eql (t 21) (t 22))])
 (.cond (t 23) (.ops [s 6 (.mv (c (i 1)))]) .skip))
 (.seq (.ops [s 24 (.mv (t 3)),
  s 25 (.mv (t 4)),
  s 26 (.idx (t 24) (t 25) 4),
  s 27 (.ldE 24 26 0 4 true true 4),
  s 28 (.mv (t 3)),
  s 29 (.mv (t 5)),
  s 30 (.idx (t 28) (t 29) 4),
  s 31 (.ldE 28 30 0 4 true true 4),
  k 32 101 [(t 27), (t 31)] .sc,
  s 33 (.mv (t 6)),
  s 34 (.bin .neq (t 32) (t 33))])
 (.cond (t 34) (.seq (.ops [s 2 (.mv (c (.bool false)))])
 .ret) .skip)))))
 (.ops [s 18 (.mv (t 5)),
  s 19 (.bin .add (t 18) (c (i 1))),
  s 5 (.mv (t 19))])))) (fun x V' => (x = .exit 2 ∧ allTo (rowS S n) n = true ∧ V' 0 = V 0 ∧ V' 3 = V 3 ∧ V' 4 = V 4) ∨ (x = .ret ∧ allTo (rowS S n) n = false ∧ V' 2 = .bool false)) V := by
  refine sx_count n (fun k V' => V' 0 = V 0 ∧ V' 3 = V 3 ∧ V' 4 = V 4 ∧ V' 5 = i k ∧ allTo (rowS S n) k = true) 0 (by omega) ⟨rfl, rfl, rfl, h5, allTo_zero⟩ ?_
  rintro k V' hk ⟨g0, g3, g4, g5, ha⟩
  have hw : wr .i64 ((k : Int) + 1) = k + 1 := wr_in (by omega) (by omega)
  simp [sxa, isPtrN, PV.pcs, elAt, setEl, inAt, elIn, setIn, isLst, cellsOf, Ex.ok, Ex.val, Opd.val, POp.dst, bin_int, binOK_int, bin_str, binOK_str, resOK, resV, RB.val, sub, putc, scB, scL, oneB, conf, Ex.val.eqP, Ex.val.eqL, negV, mxV, mnV, ← wr_eq, wr_zero, wr_one, wr_m1, bst_lst, byteC, partsOK, putAll, appV, nilV, slV, sslV, optB, optNum, and_assoc, exists_and_left, exists_eq_left', g3, g4, g5, h3, h4]
  refine CondS_d (fun hlt => ?_) (fun hge => ?_)
  · have hk' : k < n := by omega
    have hkS : k < S.length := by omega
    have hbad : rowS S n k = false → allTo (rowS S n) n = false := allTo_bad hk'
    have hgood : rowS S n k = true → allTo (rowS S n) (k + 1) = true := fun h => by rw [allTo_succ, ha, h]; rfl
    have hr : rowS S n k = decide (sMeet S[n] S[k] = if k + 1 = n then 1 else 0) := by simp [rowS, sgD, hn, hkS]
    have hc : ((k : Int) + 1 = n) = (k + 1 = n) := propext ⟨fun h => by omega, fun h => by omega⟩
    by_cases hkn : k + 1 = n
    · repeat' (first | intro _ | (simp [sxa, isPtrN, PV.pcs, elAt, setEl, inAt, elIn, setIn, isLst, cellsOf, Ex.ok, Ex.val, Opd.val, POp.dst, bin_int, binOK_int, bin_str, binOK_str, resOK, resV, RB.val, sub, putc, scB, scL, oneB, conf, Ex.val.eqP, Ex.val.eqL, negV, mxV, mnV, ← wr_eq, wr_zero, wr_one, wr_m1, bst_lst, byteC, partsOK, putAll, appV, nilV, slV, sslV, optB, optNum, and_assoc, exists_and_left, exists_eq_left', cs, *]) | refine CallS_i (f101 _ _ _ _ _ _ _ _) ?_ | refine CondS_d (fun h => ?_) (fun h => ?_) | refine CondS_b (fun h => ?_) (fun h => ?_) | refine GrdS_d (fun h => ?_) (fun h => ?_) | refine GrdS_b (fun h => ?_) (fun h => ?_) | refine OkS_i (by omega) ?_ | fail)
      all_goals first
        | exact hbad (by rw [hr]; simp_all [sMeet])
        | (have h' := hgood (by rw [hr]; simp_all [sMeet]); simp_all)
        | simp_all
    · repeat' (first | intro _ | (simp [sxa, isPtrN, PV.pcs, elAt, setEl, inAt, elIn, setIn, isLst, cellsOf, Ex.ok, Ex.val, Opd.val, POp.dst, bin_int, binOK_int, bin_str, binOK_str, resOK, resV, RB.val, sub, putc, scB, scL, oneB, conf, Ex.val.eqP, Ex.val.eqL, negV, mxV, mnV, ← wr_eq, wr_zero, wr_one, wr_m1, bst_lst, byteC, partsOK, putAll, appV, nilV, slV, sslV, optB, optNum, and_assoc, exists_and_left, exists_eq_left', cs, *]) | refine CallS_i (f101 _ _ _ _ _ _ _ _) ?_ | refine CondS_d (fun h => ?_) (fun h => ?_) | refine CondS_b (fun h => ?_) (fun h => ?_) | refine GrdS_d (fun h => ?_) (fun h => ?_) | refine GrdS_b (fun h => ?_) (fun h => ?_) | refine OkS_i (by omega) ?_ | fail)
      all_goals first
        | exact hbad (by rw [hr]; simp_all [sMeet])
        | (have h' := hgood (by rw [hr]; simp_all [sMeet]); simp_all)
        | simp_all
  · have : k = n := by omega
    subst this
    repeat' (first | intro _ | (simp [sxa, isPtrN, PV.pcs, elAt, setEl, inAt, elIn, setIn, isLst, cellsOf, Ex.ok, Ex.val, Opd.val, POp.dst, bin_int, binOK_int, bin_str, binOK_str, resOK, resV, RB.val, sub, putc, scB, scL, oneB, conf, Ex.val.eqP, Ex.val.eqL, negV, mxV, mnV, ← wr_eq, wr_zero, wr_one, wr_m1, bst_lst, byteC, partsOK, putAll, appV, nilV, slV, sslV, optB, optNum, and_assoc, exists_and_left, exists_eq_left', *]) | refine CondS_d (fun h => ?_) (fun h => ?_) | refine CondS_b (fun h => ?_) (fun h => ?_) | refine GrdS_d (fun h => ?_) (fun h => ?_) | refine GrdS_b (fun h => ?_) (fun h => ?_) | refine OkS_i (by omega) ?_ | fail)
    all_goals simp_all
theorem l52_2 {S : List Sg} {n : Nat} {V : Env} (hn : n < S.length) (hS : S.length ≤ 1000000000000) (h3 : V 3 = .lst 4 false (S.map cs)) (h4 : V 4 = i n) (h17 : V 17 = i n) (h18 : V 18 = i 0) :
    sx (FC Tryz.prog) (.loop (.seq (.ops [s 19 (.bin .lss (t 18) (t 17))])
 (.seq (.cond (t 19) .skip (.exit 2))
 (.seq (.block 3 (.seq (.ops [s 20 (.mv (t 18)),
  s 5 (.mv (t 20))])
 (.seq (.ops [s 6 (.mv (c (i 0)))])
 (.seq (.seq (.ops [s 21 (.mv (t 5)),
  s 22 (.mv (t 4)),
  s 23 (.bin .sub (t 22) (c (i 1))),
  s 24 (.bin .eql (t 21) (t 23))])
 (.cond (t 24) (.ops [s 6 (.mv (c (i 1)))]) .skip))
 (.seq (.ops [s 25 (.mv (t 3)),
  s 26 (.mv (t 4)),
  s 27 (.idx (t 25) (t 26) 4),
  s 28 (.ldE 25 27 0 4 true true 4),
  s 29 (.mv (t 3)),
  s 30 (.mv (t 5)),
  s 31 (.idx (t 29) (t 30) 4),
  s 32 (.ldE 29 31 0 4 true true 4),
  k 33 74 [(t 28), (t 32)] .sc,
  s 34 (.mv (t 6)),
  s 35 (.bin .neq (t 33) (t 34))])
 (.cond (t 35) (.seq (.ops [s 2 (.mv (c (.bool false)))])
 .ret) .skip))))))
 (.ops [s 36 (.bin .add (t 18) (c (i 1))),
  s 18 (.mv (t 36))]))))) (fun x V' => (x = .exit 2 ∧ allTo (rowS S n) n = true ∧ V' 0 = V 0 ∧ V' 3 = V 3 ∧ V' 13 = V 13 ∧ V' 14 = V 14) ∨ (x = .ret ∧ allTo (rowS S n) n = false ∧ V' 2 = .bool false)) V := by
  refine sx_count n (fun k V' => V' 0 = V 0 ∧ V' 3 = V 3 ∧ V' 4 = V 4 ∧ V' 13 = V 13 ∧ V' 14 = V 14 ∧ V' 17 = V 17 ∧ V' 18 = i k ∧ allTo (rowS S n) k = true) 0 (by omega) ⟨rfl, rfl, rfl, rfl, rfl, rfl, h18, allTo_zero⟩ ?_
  rintro k V' hk ⟨g0, g3, g4, g13, g14, g17, g18, ha⟩
  have hw : wr .i64 ((k : Int) + 1) = k + 1 := wr_in (by omega) (by omega)
  have hw2 : wr .i64 ((n : Int) - 1) = n - 1 := wr_in (by omega) (by omega)
  simp [sxa, isPtrN, PV.pcs, elAt, setEl, inAt, elIn, setIn, isLst, cellsOf, Ex.ok, Ex.val, Opd.val, POp.dst, bin_int, binOK_int, bin_str, binOK_str, resOK, resV, RB.val, sub, putc, scB, scL, oneB, conf, Ex.val.eqP, Ex.val.eqL, negV, mxV, mnV, ← wr_eq, wr_zero, wr_one, wr_m1, bst_lst, byteC, partsOK, putAll, appV, nilV, slV, sslV, optB, optNum, and_assoc, exists_and_left, exists_eq_left', g17, g18, h17]
  refine CondS_d (fun hlt => ?_) (fun hge => ?_)
  · have hk' : k < n := by omega
    have hkS : k < S.length := by omega
    have hbad : rowS S n k = false → allTo (rowS S n) n = false := allTo_bad hk'
    have hgood : rowS S n k = true → allTo (rowS S n) (k + 1) = true := fun h => by rw [allTo_succ, ha, h]; rfl
    have hr : rowS S n k = decide (sMeet S[n] S[k] = if k + 1 = n then 1 else 0) := by simp [rowS, sgD, hn, hkS]
    have hc : ((k : Int) = n - 1) = (k + 1 = n) := propext ⟨fun h => by omega, fun h => by omega⟩
    by_cases hkn : k + 1 = n
    · repeat' (first | intro _ | (simp [sxa, isPtrN, PV.pcs, elAt, setEl, inAt, elIn, setIn, isLst, cellsOf, Ex.ok, Ex.val, Opd.val, POp.dst, bin_int, binOK_int, bin_str, binOK_str, resOK, resV, RB.val, sub, putc, scB, scL, oneB, conf, Ex.val.eqP, Ex.val.eqL, negV, mxV, mnV, ← wr_eq, wr_zero, wr_one, wr_m1, bst_lst, byteC, partsOK, putAll, appV, nilV, slV, sslV, optB, optNum, and_assoc, exists_and_left, exists_eq_left', cs, *]) | refine CallS_i (f74 _ _ _ _ _ _ _ _) ?_ | refine CondS_d (fun h => ?_) (fun h => ?_) | refine CondS_b (fun h => ?_) (fun h => ?_) | refine GrdS_d (fun h => ?_) (fun h => ?_) | refine GrdS_b (fun h => ?_) (fun h => ?_) | refine OkS_i (by omega) ?_ | fail)
      all_goals first
        | exact hbad (by rw [hr]; simp_all [sMeet])
        | (have h' := hgood (by rw [hr]; simp_all [sMeet]); simp_all)
        | simp_all
    · repeat' (first | intro _ | (simp [sxa, isPtrN, PV.pcs, elAt, setEl, inAt, elIn, setIn, isLst, cellsOf, Ex.ok, Ex.val, Opd.val, POp.dst, bin_int, binOK_int, bin_str, binOK_str, resOK, resV, RB.val, sub, putc, scB, scL, oneB, conf, Ex.val.eqP, Ex.val.eqL, negV, mxV, mnV, ← wr_eq, wr_zero, wr_one, wr_m1, bst_lst, byteC, partsOK, putAll, appV, nilV, slV, sslV, optB, optNum, and_assoc, exists_and_left, exists_eq_left', cs, *]) | refine CallS_i (f74 _ _ _ _ _ _ _ _) ?_ | refine CondS_d (fun h => ?_) (fun h => ?_) | refine CondS_b (fun h => ?_) (fun h => ?_) | refine GrdS_d (fun h => ?_) (fun h => ?_) | refine GrdS_b (fun h => ?_) (fun h => ?_) | refine OkS_i (by omega) ?_ | fail)
      all_goals first
        | exact hbad (by rw [hr]; simp_all [sMeet])
        | (have h' := hgood (by rw [hr]; simp_all [sMeet]); simp_all)
        | simp_all
  · have : k = n := by omega
    subst this
    repeat' (first | intro _ | (simp [sxa, isPtrN, PV.pcs, elAt, setEl, inAt, elIn, setIn, isLst, cellsOf, Ex.ok, Ex.val, Opd.val, POp.dst, bin_int, binOK_int, bin_str, binOK_str, resOK, resV, RB.val, sub, putc, scB, scL, oneB, conf, Ex.val.eqP, Ex.val.eqL, negV, mxV, mnV, ← wr_eq, wr_zero, wr_one, wr_m1, bst_lst, byteC, partsOK, putAll, appV, nilV, slV, sslV, optB, optNum, and_assoc, exists_and_left, exists_eq_left', *]) | refine CondS_d (fun h => ?_) (fun h => ?_) | refine CondS_b (fun h => ?_) (fun h => ?_) | refine GrdS_d (fun h => ?_) (fun h => ?_) | refine GrdS_b (fun h => ?_) (fun h => ?_) | refine OkS_i (by omega) ?_ | fail)
    all_goals simp_all
theorem wSegs_len (l : List Pt) : (wSegs l).length ≤ 9 := by
  unfold wSegs
  split
  · rename_i h
    have := wLine_len h
    rw [upTo_length]; omega
  · simp
theorem f93 (l : List Pt) (nl : Bool) (hl : l.length ≤ 1000000000000) : Fn Tryz.prog 93 false [.lst 2 nl (l.map cp)] (.bool (wSimple l)) := by
  refine Fn.by_sx hX (by kernel_rfl) c93 (by kernel_rfl) (by rfl) ?_
  simp [i93, sxa, isPtrN, PV.pcs, elAt, setEl, inAt, elIn, setIn, isLst, cellsOf, Ex.ok, Ex.val, Opd.val, POp.dst, bin_int, binOK_int, bin_str, binOK_str, resOK, resV, RB.val, sub, putc, scB, scL, oneB, conf, Ex.val.eqP, Ex.val.eqL, negV, mxV, mnV, ← wr_eq, wr_zero, wr_one, wr_m1, bst_lst, byteC, partsOK, putAll, appV, nilV, slV, sslV, optB, optNum, and_assoc, exists_and_left, exists_eq_left']
  refine CallS_l (f89 l nl (by omega)) ?_
  have hS := wSegs_len l
  obtain ⟨S, hSe⟩ : ∃ S, wSegs l = S := ⟨_, rfl⟩
  have hwS : wSimple l = (wLine l && allTo (fun n => allTo (rowS S n) n) S.length) := by rw [← hSe]; rfl
  rw [hSe] at hS ⊢
  simp [sxa, isPtrN, PV.pcs, elAt, setEl, inAt, elIn, setIn, isLst, cellsOf, Ex.ok, Ex.val, Opd.val, POp.dst, bin_int, binOK_int, bin_str, binOK_str, resOK, resV, RB.val, sub, putc, scB, scL, oneB, conf, Ex.val.eqP, Ex.val.eqL, negV, mxV, mnV, ← wr_eq, wr_zero, wr_one, wr_m1, bst_lst, byteC, partsOK, putAll, appV, nilV, slV, sslV, optB, optNum, and_assoc, exists_and_left, exists_eq_left']
  refine sx_count S.length (fun n V => V 0 = .lst 2 nl (l.map cp) ∧ V 3 = .lst 4 false (S.map cs) ∧ V 4 = i n ∧ allTo (fun n => allTo (rowS S n) n) n = true) 0 (by omega) (by simp [sxa, isPtrN, PV.pcs, elAt, setEl, inAt, elIn, setIn, isLst, cellsOf, Ex.ok, Ex.val, Opd.val, POp.dst, bin_int, binOK_int, bin_str, binOK_str, resOK, resV, RB.val, sub, putc, scB, scL, oneB, conf, Ex.val.eqP, Ex.val.eqL, negV, mxV, mnV, ← wr_eq, wr_zero, wr_one, wr_m1, bst_lst, byteC, partsOK, putAll, appV, nilV, slV, sslV, optB, optNum, and_assoc, exists_and_left, exists_eq_left', allTo_zero]) ?_
  rintro n V hn ⟨h0, h3, h4, ha⟩
  have hw : wr .i64 ((n : Int) + 1) = n + 1 := wr_in (by omega) (by omega)
  simp [sxa, isPtrN, PV.pcs, elAt, setEl, inAt, elIn, setIn, isLst, cellsOf, Ex.ok, Ex.val, Opd.val, POp.dst, bin_int, binOK_int, bin_str, binOK_str, resOK, resV, RB.val, sub, putc, scB, scL, oneB, conf, Ex.val.eqP, Ex.val.eqL, negV, mxV, mnV, ← wr_eq, wr_zero, wr_one, wr_m1, bst_lst, byteC, partsOK, putAll, appV, nilV, slV, sslV, optB, optNum, and_assoc, exists_and_left, exists_eq_left', h3, h4]
  refine CondS_d (fun hlt => ?_) (fun hge => ?_)
  · have hlt' : n < S.length := by omega
    have hbad : allTo (rowS S n) n = false → wSimple l = false := fun h => by rw [hwS, allTo_bad (ok := fun n => allTo (rowS S n) n) hlt' h]; simp
    simp [sxa, isPtrN, PV.pcs, elAt, setEl, inAt, elIn, setIn, isLst, cellsOf, Ex.ok, Ex.val, Opd.val, POp.dst, bin_int, binOK_int, bin_str, binOK_str, resOK, resV, RB.val, sub, putc, scB, scL, oneB, conf, Ex.val.eqP, Ex.val.eqL, negV, mxV, mnV, ← wr_eq, wr_zero, wr_one, wr_m1, bst_lst, byteC, partsOK, putAll, appV, nilV, slV, sslV, optB, optNum, and_assoc, exists_and_left, exists_eq_left']
    refine sx_mono _ _ _ _ ?_ (l93_2 hlt' (by omega) (by simp [sxa, isPtrN, PV.pcs, elAt, setEl, inAt, elIn, setIn, isLst, cellsOf, Ex.ok, Ex.val, Opd.val, POp.dst, bin_int, binOK_int, bin_str, binOK_str, resOK, resV, RB.val, sub, putc, scB, scL, oneB, conf, Ex.val.eqP, Ex.val.eqL, negV, mxV, mnV, ← wr_eq, wr_zero, wr_one, wr_m1, bst_lst, byteC, partsOK, putAll, appV, nilV, slV, sslV, optB, optNum, and_assoc, exists_and_left, exists_eq_left', h3]) (by simp [sxa, isPtrN, PV.pcs, elAt, setEl, inAt, elIn, setIn, isLst, cellsOf, Ex.ok, Ex.val, Opd.val, POp.dst, bin_int, binOK_int, bin_str, binOK_str, resOK, resV, RB.val, sub, putc, scB, scL, oneB, conf, Ex.val.eqP, Ex.val.eqL, negV, mxV, mnV, ← wr_eq, wr_zero, wr_one, wr_m1, bst_lst, byteC, partsOK, putAll, appV, nilV, slV, sslV, optB, optNum, and_assoc, exists_and_left, exists_eq_left', h4]) (by simp [sxa, isPtrN, PV.pcs, elAt, setEl, inAt, elIn, setIn, isLst, cellsOf, Ex.ok, Ex.val, Opd.val, POp.dst, bin_int, binOK_int, bin_str, binOK_str, resOK, resV, RB.val, sub, putc, scB, scL, oneB, conf, Ex.val.eqP, Ex.val.eqL, negV, mxV, mnV, ← wr_eq, wr_zero, wr_one, wr_m1, bst_lst, byteC, partsOK, putAll, appV, nilV, slV, sslV, optB, optNum, and_assoc, exists_and_left, exists_eq_left']))
    rintro x V' (⟨rfl, hall, e0, e3, e4⟩ | ⟨rfl, hall, e2⟩)
    · simp [sxa, isPtrN, PV.pcs, elAt, setEl, inAt, elIn, setIn, isLst, cellsOf, Ex.ok, Ex.val, Opd.val, POp.dst, bin_int, binOK_int, bin_str, binOK_str, resOK, resV, RB.val, sub, putc, scB, scL, oneB, conf, Ex.val.eqP, Ex.val.eqL, negV, mxV, mnV, ← wr_eq, wr_zero, wr_one, wr_m1, bst_lst, byteC, partsOK, putAll, appV, nilV, slV, sslV, optB, optNum, and_assoc, exists_and_left, exists_eq_left', e0, e3, e4, h0, h3, h4, hw, hlt', allTo_succ, ha, hall]
    · simp [sxa, isPtrN, PV.pcs, elAt, setEl, inAt, elIn, setIn, isLst, cellsOf, Ex.ok, Ex.val, Opd.val, POp.dst, bin_int, binOK_int, bin_str, binOK_str, resOK, resV, RB.val, sub, putc, scB, scL, oneB, conf, Ex.val.eqP, Ex.val.eqL, negV, mxV, mnV, ← wr_eq, wr_zero, wr_one, wr_m1, bst_lst, byteC, partsOK, putAll, appV, nilV, slV, sslV, optB, optNum, and_assoc, exists_and_left, exists_eq_left', e2, hbad hall]
  · have : n = S.length := by omega
    subst this
    repeat' (first | intro _ | (simp [sxa, isPtrN, PV.pcs, elAt, setEl, inAt, elIn, setIn, isLst, cellsOf, Ex.ok, Ex.val, Opd.val, POp.dst, bin_int, binOK_int, bin_str, binOK_str, resOK, resV, RB.val, sub, putc, scB, scL, oneB, conf, Ex.val.eqP, Ex.val.eqL, negV, mxV, mnV, ← wr_eq, wr_zero, wr_one, wr_m1, bst_lst, byteC, partsOK, putAll, appV, nilV, slV, sslV, optB, optNum, and_assoc, exists_and_left, exists_eq_left', *]) | refine CallS_i (f99 l nl (by omega)) ?_ | refine CondS_d (fun h => ?_) (fun h => ?_) | refine CondS_b (fun h => ?_) (fun h => ?_) | refine GrdS_d (fun h => ?_) (fun h => ?_) | refine GrdS_b (fun h => ?_) (fun h => ?_) | refine OkS_i (by omega) ?_ | fail)
    all_goals simp_all
theorem f52 (l : List Pt) (nl : Bool) (hl : l.length ≤ 1000000000000) : Fn Tryz.prog 52 false [.lst 2 nl (l.map cp)] (.bool (wSimple l)) := by
  refine Fn.by_sx hX (by kernel_rfl) c52 (by kernel_rfl) (by rfl) ?_
  simp [i52, sxa, isPtrN, PV.pcs, elAt, setEl, inAt, elIn, setIn, isLst, cellsOf, Ex.ok, Ex.val, Opd.val, POp.dst, bin_int, binOK_int, bin_str, binOK_str, resOK, resV, RB.val, sub, putc, scB, scL, oneB, conf, Ex.val.eqP, Ex.val.eqL, negV, mxV, mnV, ← wr_eq, wr_zero, wr_one, wr_m1, bst_lst, byteC, partsOK, putAll, appV, nilV, slV, sslV, optB, optNum, and_assoc, exists_and_left, exists_eq_left']
  refine CallS_b (f72 l nl (by omega)) (fun hL => ?_) (fun hL => ?_)
  · have hS := wSegs_len l
    obtain ⟨S, hSe⟩ : ∃ S, wSegs l = S := ⟨_, rfl⟩
    have hwS : wSimple l = (wLine l && allTo (fun n => allTo (rowS S n) n) S.length) := by rw [← hSe]; rfl
    rw [hSe] at hS
    simp [sxa, isPtrN, PV.pcs, elAt, setEl, inAt, elIn, setIn, isLst, cellsOf, Ex.ok, Ex.val, Opd.val, POp.dst, bin_int, binOK_int, bin_str, binOK_str, resOK, resV, RB.val, sub, putc, scB, scL, oneB, conf, Ex.val.eqP, Ex.val.eqL, negV, mxV, mnV, ← wr_eq, wr_zero, wr_one, wr_m1, bst_lst, byteC, partsOK, putAll, appV, nilV, slV, sslV, optB, optNum, and_assoc, exists_and_left, exists_eq_left']
    refine CallS_l (f73 l nl (by omega)) ?_
    rw [hSe]
    simp [sxa, isPtrN, PV.pcs, elAt, setEl, inAt, elIn, setIn, isLst, cellsOf, Ex.ok, Ex.val, Opd.val, POp.dst, bin_int, binOK_int, bin_str, binOK_str, resOK, resV, RB.val, sub, putc, scB, scL, oneB, conf, Ex.val.eqP, Ex.val.eqL, negV, mxV, mnV, ← wr_eq, wr_zero, wr_one, wr_m1, bst_lst, byteC, partsOK, putAll, appV, nilV, slV, sslV, optB, optNum, and_assoc, exists_and_left, exists_eq_left']
    refine sx_count S.length (fun n V => V 3 = .lst 4 false (S.map cs) ∧ V 13 = i S.length ∧ V 14 = i n ∧ allTo (fun n => allTo (rowS S n) n) n = true) 0 (by omega) (by simp [sxa, isPtrN, PV.pcs, elAt, setEl, inAt, elIn, setIn, isLst, cellsOf, Ex.ok, Ex.val, Opd.val, POp.dst, bin_int, binOK_int, bin_str, binOK_str, resOK, resV, RB.val, sub, putc, scB, scL, oneB, conf, Ex.val.eqP, Ex.val.eqL, negV, mxV, mnV, ← wr_eq, wr_zero, wr_one, wr_m1, bst_lst, byteC, partsOK, putAll, appV, nilV, slV, sslV, optB, optNum, and_assoc, exists_and_left, exists_eq_left', allTo_zero]) ?_
    rintro n V hn ⟨h3, h13, h14, ha⟩
    have hw : wr .i64 ((n : Int) + 1) = n + 1 := wr_in (by omega) (by omega)
    simp [sxa, isPtrN, PV.pcs, elAt, setEl, inAt, elIn, setIn, isLst, cellsOf, Ex.ok, Ex.val, Opd.val, POp.dst, bin_int, binOK_int, bin_str, binOK_str, resOK, resV, RB.val, sub, putc, scB, scL, oneB, conf, Ex.val.eqP, Ex.val.eqL, negV, mxV, mnV, ← wr_eq, wr_zero, wr_one, wr_m1, bst_lst, byteC, partsOK, putAll, appV, nilV, slV, sslV, optB, optNum, and_assoc, exists_and_left, exists_eq_left', h13, h14]
    refine CondS_d (fun hlt => ?_) (fun hge => ?_)
    · have hlt' : n < S.length := by omega
      have hbad : allTo (rowS S n) n = false → wSimple l = false := fun h => by rw [hwS, allTo_bad (ok := fun n => allTo (rowS S n) n) hlt' h]; simp
      simp [sxa, isPtrN, PV.pcs, elAt, setEl, inAt, elIn, setIn, isLst, cellsOf, Ex.ok, Ex.val, Opd.val, POp.dst, bin_int, binOK_int, bin_str, binOK_str, resOK, resV, RB.val, sub, putc, scB, scL, oneB, conf, Ex.val.eqP, Ex.val.eqL, negV, mxV, mnV, ← wr_eq, wr_zero, wr_one, wr_m1, bst_lst, byteC, partsOK, putAll, appV, nilV, slV, sslV, optB, optNum, and_assoc, exists_and_left, exists_eq_left', h14]
      refine sx_mono _ _ _ _ ?_ (l52_2 hlt' (by omega) (by simp [sxa, isPtrN, PV.pcs, elAt, setEl, inAt, elIn, setIn, isLst, cellsOf, Ex.ok, Ex.val, Opd.val, POp.dst, bin_int, binOK_int, bin_str, binOK_str, resOK, resV, RB.val, sub, putc, scB, scL, oneB, conf, Ex.val.eqP, Ex.val.eqL, negV, mxV, mnV, ← wr_eq, wr_zero, wr_one, wr_m1, bst_lst, byteC, partsOK, putAll, appV, nilV, slV, sslV, optB, optNum, and_assoc, exists_and_left, exists_eq_left', h3]) (by simp [sxa, isPtrN, PV.pcs, elAt, setEl, inAt, elIn, setIn, isLst, cellsOf, Ex.ok, Ex.val, Opd.val, POp.dst, bin_int, binOK_int, bin_str, binOK_str, resOK, resV, RB.val, sub, putc, scB, scL, oneB, conf, Ex.val.eqP, Ex.val.eqL, negV, mxV, mnV, ← wr_eq, wr_zero, wr_one, wr_m1, bst_lst, byteC, partsOK, putAll, appV, nilV, slV, sslV, optB, optNum, and_assoc, exists_and_left, exists_eq_left', h14]) (by simp [sxa, isPtrN, PV.pcs, elAt, setEl, inAt, elIn, setIn, isLst, cellsOf, Ex.ok, Ex.val, Opd.val, POp.dst, bin_int, binOK_int, bin_str, binOK_str, resOK, resV, RB.val, sub, putc, scB, scL, oneB, conf, Ex.val.eqP, Ex.val.eqL, negV, mxV, mnV, ← wr_eq, wr_zero, wr_one, wr_m1, bst_lst, byteC, partsOK, putAll, appV, nilV, slV, sslV, optB, optNum, and_assoc, exists_and_left, exists_eq_left', h14]) (by simp [sxa, isPtrN, PV.pcs, elAt, setEl, inAt, elIn, setIn, isLst, cellsOf, Ex.ok, Ex.val, Opd.val, POp.dst, bin_int, binOK_int, bin_str, binOK_str, resOK, resV, RB.val, sub, putc, scB, scL, oneB, conf, Ex.val.eqP, Ex.val.eqL, negV, mxV, mnV, ← wr_eq, wr_zero, wr_one, wr_m1, bst_lst, byteC, partsOK, putAll, appV, nilV, slV, sslV, optB, optNum, and_assoc, exists_and_left, exists_eq_left']))
      rintro x V' (⟨rfl, hall, e0, e3, e13, e14⟩ | ⟨rfl, hall, e2⟩)
      · simp [sxa, isPtrN, PV.pcs, elAt, setEl, inAt, elIn, setIn, isLst, cellsOf, Ex.ok, Ex.val, Opd.val, POp.dst, bin_int, binOK_int, bin_str, binOK_str, resOK, resV, RB.val, sub, putc, scB, scL, oneB, conf, Ex.val.eqP, Ex.val.eqL, negV, mxV, mnV, ← wr_eq, wr_zero, wr_one, wr_m1, bst_lst, byteC, partsOK, putAll, appV, nilV, slV, sslV, optB, optNum, and_assoc, exists_and_left, exists_eq_left', e3, e13, e14, h3, h13, h14, hw, hlt', allTo_succ, ha, hall]
      · simp [sxa, isPtrN, PV.pcs, elAt, setEl, inAt, elIn, setIn, isLst, cellsOf, Ex.ok, Ex.val, Opd.val, POp.dst, bin_int, binOK_int, bin_str, binOK_str, resOK, resV, RB.val, sub, putc, scB, scL, oneB, conf, Ex.val.eqP, Ex.val.eqL, negV, mxV, mnV, ← wr_eq, wr_zero, wr_one, wr_m1, bst_lst, byteC, partsOK, putAll, appV, nilV, slV, sslV, optB, optNum, and_assoc, exists_and_left, exists_eq_left', e2, hbad hall]
    · have : n = S.length := by omega
      subst this
      repeat' (first | intro _ | (simp [sxa, isPtrN, PV.pcs, elAt, setEl, inAt, elIn, setIn, isLst, cellsOf, Ex.ok, Ex.val, Opd.val, POp.dst, bin_int, binOK_int, bin_str, binOK_str, resOK, resV, RB.val, sub, putc, scB, scL, oneB, conf, Ex.val.eqP, Ex.val.eqL, negV, mxV, mnV, ← wr_eq, wr_zero, wr_one, wr_m1, bst_lst, byteC, partsOK, putAll, appV, nilV, slV, sslV, optB, optNum, and_assoc, exists_and_left, exists_eq_left', *]) | refine CondS_d (fun h => ?_) (fun h => ?_) | refine CondS_b (fun h => ?_) (fun h => ?_) | refine GrdS_d (fun h => ?_) (fun h => ?_) | refine GrdS_b (fun h => ?_) (fun h => ?_) | refine OkS_i (by omega) ?_ | fail)
      all_goals simp_all
  · have hf : wSimple l = false := by simp [wSimple, hL]
    repeat' (first | intro _ | (simp [sxa, isPtrN, PV.pcs, elAt, setEl, inAt, elIn, setIn, isLst, cellsOf, Ex.ok, Ex.val, Opd.val, POp.dst, bin_int, binOK_int, bin_str, binOK_str, resOK, resV, RB.val, sub, putc, scB, scL, oneB, conf, Ex.val.eqP, Ex.val.eqL, negV, mxV, mnV, ← wr_eq, wr_zero, wr_one, wr_m1, bst_lst, byteC, partsOK, putAll, appV, nilV, slV, sslV, optB, optNum, and_assoc, exists_and_left, exists_eq_left', *]) | refine CondS_d (fun h => ?_) (fun h => ?_) | refine CondS_b (fun h => ?_) (fun h => ?_) | refine GrdS_d (fun h => ?_) (fun h => ?_) | refine GrdS_b (fun h => ?_) (fun h => ?_) | refine OkS_i (by omega) ?_ | fail)
end Go.Eng
namespace Go.Eng
open Go Go.Proofs Geo
set_option linter.unusedSimpArgs false
set_option linter.unusedVariables false
set_option maxRecDepth 20000
set_option maxHeartbeats 1000000

def rowR (S : List Sg) (n k : Nat) : Bool := decide (sMeet (sgD S n) (sgD S k) = if k + 1 = n ∨ (k = 0 ∧ n + 1 = S.length) then 1 else 0)
def sSeg (a : Sg) : Bool := M_IsSegment a.f0.f0 a.f0.f1 a.f1.f0 a.f1.f1
def ringAt (S : List Sg) (n : Nat) : Bool := sSeg (sgD S n) && allTo (rowR S n) n
def wRing (l : List Pt) : Bool := inR l.length 3 10 && allTo (ringAt (upTo (rgAt l) l.length)) l.length
theorem l94_2 {S : List Sg} {n : Nat} {V : Env} (hn : n < S.length) (hS : S.length ≤ 1000000000000) (h3 : V 3 = .lst 4 false (S.map cs)) (h4 : V 4 = i n) (h5 : V 5 = i 0) :
    sx (FC Tryz.prog) (.loop (.seq (.seq (.ops [s 25 (.mv (t 5)),
  s 26 (.mv (t 4)),
  s 27 (.bin .lss (t 25) (t 26))])
 (.cond (t 27) .skip (.exit 2)))
 (.seq (.block 3 (.seq (.ops [s 6 (.mv (c (i 0)))])
 (.seq (.seq (.ops [s 30 (.mv (t 5)),
  s 31 (.bin .add (t 30) (c (i 1))),
  s 32 (.mv (t 4)),
  s 33 (.bin .eql (t 31) (t 32)),
  s 34 (.mv (t 33)),
  sg [(34, false)] 35 (.mv (t 5)),
  sg [(34, false)] 36 (.bin .eql (t 35) (c (i 0))),
  sg [(34, false)] 37 (.mv (t 36)),
  sg [(37, true), (34, false)] 38 (.mv (t 4)),
  sg [(37, true), (34, false)] 39 (.bin .add (t 38) (c (i 1))),
  sg [(37, true), (34, false)] 40 (.mv (t 3)),
  sg [(37, true), (34, false)] 41 (.len false (t 40)),
  sg [(37, true), (34, false)] 42 (.bin .eql (t 39) (t 41)),
  sg [(34, false)] 43 (.pick (t 37) (t 42) (c (.bool false))),
  s 44 (.pick (t 34) (c (.bool true)) (t 43))])
 (.cond (t 44) (.ops [s 6 (.mv (c (i 1)))]) .skip))
 (.seq (.ops [s 45 (.mv (t 3)),
  s 46 (.mv (t 4)),
  s 47 (.idx (t 45) (t 46) 4),
  s 48 (.ldE 45 47 0 4 true true 4),
  s 49 (.mv (t 3)),
  s 50 (.mv (t 5)),
  s 51 (.idx (t 49) (t 50) 4),
  s 52 (.ldE 49 51 0 4 true true 4),
  k 53 101 [(t 48), (t 52)] .sc,
  s 54 (.mv (t 6)),
  s 55 (.bin .neq (t 53) (t 54))])
 (.cond (t 55) (.seq (.ops [s 2 (.mv (c (.bool false)))])
 .ret) .skip)))))
 (.ops [s 28 (.mv (t 5)),
  s 29 (.bin .add (t 28) (c (i 1))),
  s 5 (.mv (t 29))])))) (fun x V' => (x = .exit 2 ∧ allTo (rowR S n) n = true ∧ V' 0 = V 0 ∧ V' 3 = V 3 ∧ V' 4 = V 4) ∨ (x = .ret ∧ allTo (rowR S n) n = false ∧ V' 2 = .bool false)) V := by
  refine sx_count n (fun k V' => V' 0 = V 0 ∧ V' 3 = V 3 ∧ V' 4 = V 4 ∧ V' 5 = i k ∧ allTo (rowR S n) k = true) 0 (by omega) ⟨rfl, rfl, rfl, h5, allTo_zero⟩ ?_
  rintro k V' hk ⟨g0, g3, g4, g5, ha⟩
  have hw : wr .i64 ((k : Int) + 1) = k + 1 := wr_in (by omega) (by omega)
  have hw' : wr .i64 ((n : Int) + 1) = n + 1 := wr_in (by omega) (by omega)
  simp [sxa, isPtrN, PV.pcs, elAt, setEl, inAt, elIn, setIn, isLst, cellsOf, Ex.ok, Ex.val, Opd.val, POp.dst, bin_int, binOK_int, bin_str, binOK_str, resOK, resV, RB.val, sub, putc, scB, scL, oneB, conf, Ex.val.eqP, Ex.val.eqL, negV, mxV, mnV, ← wr_eq, wr_zero, wr_one, wr_m1, bst_lst, byteC, partsOK, putAll, appV, nilV, slV, sslV, optB, optNum, and_assoc, exists_and_left, exists_eq_left', g3, g4, g5, h3, h4]
  refine CondS_d (fun hlt => ?_) (fun hge => ?_)
  · have hk' : k < n := by omega
    have hkS : k < S.length := by omega
    have hbad : rowR S n k = false → allTo (rowR S n) n = false := allTo_bad hk'
    have hgood : rowR S n k = true → allTo (rowR S n) (k + 1) = true := fun h => by rw [allTo_succ, ha, h]; rfl
    have hr : rowR S n k = decide (sMeet S[n] S[k] = if k + 1 = n ∨ (k = 0 ∧ n + 1 = S.length) then 1 else 0) := by simp [rowR, sgD, hn, hkS]
    rcases Nat.eq_zero_or_pos k with rfl | hkp
    · repeat' (first | intro _ | (simp [sxa, isPtrN, PV.pcs, elAt, setEl, inAt, elIn, setIn, isLst, cellsOf, Ex.ok, Ex.val, Opd.val, POp.dst, bin_int, binOK_int, bin_str, binOK_str, resOK, resV, RB.val, sub, putc, scB, scL, oneB, conf, Ex.val.eqP, Ex.val.eqL, negV, mxV, mnV, ← wr_eq, wr_zero, wr_one, wr_m1, bst_lst, byteC, partsOK, putAll, appV, nilV, slV, sslV, optB, optNum, and_assoc, exists_and_left, exists_eq_left', cs, *]) | refine CallS_i (f101 _ _ _ _ _ _ _ _) ?_ | refine CondS_d (fun h => ?_) (fun h => ?_) | refine CondS_b (fun h => ?_) (fun h => ?_) | refine GrdS_d (fun h => ?_) (fun h => ?_) | refine GrdS_b (fun h => ?_) (fun h => ?_) | refine OkS_i (by omega) ?_ | fail)
      all_goals first
        | exact hbad (by rw [hr]; first | (rw [if_pos (by omega)]; simp_all [sMeet]; done) | (rw [if_neg (by omega)]; simp_all [sMeet]; done))
        | (have h' := hgood (by rw [hr]; first | (rw [if_pos (by omega)]; simp_all [sMeet]; done) | (rw [if_neg (by omega)]; simp_all [sMeet]; done)); simp_all; done)
        | simp_all
    · have hk1 : ¬ (k : Int) = 0 := by omega
      repeat' (first | intro _ | (simp [sxa, isPtrN, PV.pcs, elAt, setEl, inAt, elIn, setIn, isLst, cellsOf, Ex.ok, Ex.val, Opd.val, POp.dst, bin_int, binOK_int, bin_str, binOK_str, resOK, resV, RB.val, sub, putc, scB, scL, oneB, conf, Ex.val.eqP, Ex.val.eqL, negV, mxV, mnV, ← wr_eq, wr_zero, wr_one, wr_m1, bst_lst, byteC, partsOK, putAll, appV, nilV, slV, sslV, optB, optNum, and_assoc, exists_and_left, exists_eq_left', cs, *]) | refine CallS_i (f101 _ _ _ _ _ _ _ _) ?_ | refine CondS_d (fun h => ?_) (fun h => ?_) | refine CondS_b (fun h => ?_) (fun h => ?_) | refine GrdS_d (fun h => ?_) (fun h => ?_) | refine GrdS_b (fun h => ?_) (fun h => ?_) | refine OkS_i (by omega) ?_ | fail)
      all_goals first
        | exact hbad (by rw [hr]; first | (rw [if_pos (by omega)]; simp_all [sMeet]; done) | (rw [if_neg (by omega)]; simp_all [sMeet]; done))
        | (have h' := hgood (by rw [hr]; first | (rw [if_pos (by omega)]; simp_all [sMeet]; done) | (rw [if_neg (by omega)]; simp_all [sMeet]; done)); simp_all; done)
        | simp_all
  · have : k = n := by omega
    subst this
    repeat' (first | intro _ | (simp [sxa, isPtrN, PV.pcs, elAt, setEl, inAt, elIn, setIn, isLst, cellsOf, Ex.ok, Ex.val, Opd.val, POp.dst, bin_int, binOK_int, bin_str, binOK_str, resOK, resV, RB.val, sub, putc, scB, scL, oneB, conf, Ex.val.eqP, Ex.val.eqL, negV, mxV, mnV, ← wr_eq, wr_zero, wr_one, wr_m1, bst_lst, byteC, partsOK, putAll, appV, nilV, slV, sslV, optB, optNum, and_assoc, exists_and_left, exists_eq_left', *]) | refine CondS_d (fun h => ?_) (fun h => ?_) | refine CondS_b (fun h => ?_) (fun h => ?_) | refine GrdS_d (fun h => ?_) (fun h => ?_) | refine GrdS_b (fun h => ?_) (fun h => ?_) | refine OkS_i (by omega) ?_ | fail)
    all_goals simp_all
theorem l53_2 {S : List Sg} {n : Nat} {V : Env} (hn : n < S.length) (hS : S.length ≤ 1000000000000) (h3 : V 3 = .lst 4 false (S.map cs)) (h4 : V 4 = i n) (h28 : V 28 = i n) (h29 : V 29 = i 0) :
    sx (FC Tryz.prog) (.loop (.seq (.ops [s 30 (.bin .lss (t 29) (t 28))])
 (.seq (.cond (t 30) .skip (.exit 2))
 (.seq (.block 3 (.seq (.ops [s 31 (.mv (t 29)),
  s 5 (.mv (t 31))])
 (.seq (.ops [s 6 (.mv (c (i 0)))])
 (.seq (.seq (.ops [s 32 (.mv (t 5)),
  s 33 (.mv (t 4)),
  s 34 (.bin .sub (t 33) (c (i 1))),
  s 35 (.bin .eql (t 32) (t 34)),
  s 36 (.mv (t 35)),
  sg [(36, false)] 37 (.mv (t 5)),
  sg [(36, false)] 38 (.bin .eql (t 37) (c (i 0))),
  sg [(36, false)] 39 (.mv (t 38)),
  sg [(39, true), (36, false)] 40 (.mv (t 4)),
  sg [(39, true), (36, false)] 41 (.mv (t 3)),
  sg [(39, true), (36, false)] 42 (.len false (t 41)),
  sg [(39, true), (36, false)] 43 (.bin .sub (t 42) (c (i 1))),
  sg [(39, true), (36, false)] 44 (.bin .eql (t 40) (t 43)),
  sg [(36, false)] 45 (.pick (t 39) (t 44) (c (.bool false))),
  s 46 (.pick (t 36) (c (.bool true)) (t 45))])
 (.cond (t 46) (.ops [s 6 (.mv (c (i 1)))]) .skip))
 (.seq (.ops [s 47 (.mv (t 3)),
  s 48 (.mv (t 4)),
  s 49 (.idx (t 47) (t 48) 4),
  s 50 (.ldE 47 49 0 4 true true 4),
  s 51 (.mv (t 3)),
  s 52 (.mv (t 5)),
  s 53 (.idx (t 51) (t 52) 4),
  s 54 (.ldE 51 53 0 4 true true 4),
  k 55 74 [(t 50), (t 54)] .sc,
  s 56 (.mv (t 6)),
  s 57 (.bin .neq (t 55) (t 56))])
 (.cond (t 57) (.seq (.ops [s 2 (.mv (c (.bool false)))])
 .ret) .skip))))))
 (.ops [s 58 (.bin .add (t 29) (c (i 1))),
  s 29 (.mv (t 58))]))))) (fun x V' => (x = .exit 2 ∧ allTo (rowR S n) n = true ∧ V' 0 = V 0 ∧ V' 3 = V 3 ∧ V' 18 = V 18 ∧ V' 19 = V 19) ∨ (x = .ret ∧ allTo (rowR S n) n = false ∧ V' 2 = .bool false)) V := by
  refine sx_count n (fun k V' => V' 0 = V 0 ∧ V' 3 = V 3 ∧ V' 4 = V 4 ∧ V' 18 = V 18 ∧ V' 19 = V 19 ∧ V' 28 = V 28 ∧ V' 29 = i k ∧ allTo (rowR S n) k = true) 0 (by omega) ⟨rfl, rfl, rfl, rfl, rfl, rfl, h29, allTo_zero⟩ ?_
  rintro k V' hk ⟨g0, g3, g4, g18, g19, g28, g29, ha⟩
  have hw : wr .i64 ((k : Int) + 1) = k + 1 := wr_in (by omega) (by omega)
  have hw2 : wr .i64 ((n : Int) - 1) = n - 1 := wr_in (by omega) (by omega)
  have hw3 : wr .i64 ((S.length : Int) - 1) = S.length - 1 := wr_in (by omega) (by omega)
  simp [sxa, isPtrN, PV.pcs, elAt, setEl, inAt, elIn, setIn, isLst, cellsOf, Ex.ok, Ex.val, Opd.val, POp.dst, bin_int, binOK_int, bin_str, binOK_str, resOK, resV, RB.val, sub, putc, scB, scL, oneB, conf, Ex.val.eqP, Ex.val.eqL, negV, mxV, mnV, ← wr_eq, wr_zero, wr_one, wr_m1, bst_lst, byteC, partsOK, putAll, appV, nilV, slV, sslV, optB, optNum, and_assoc, exists_and_left, exists_eq_left', g28, g29, h28]
  refine CondS_d (fun hlt => ?_) (fun hge => ?_)
  · have hk' : k < n := by omega
    have hkS : k < S.length := by omega
    have hbad : rowR S n k = false → allTo (rowR S n) n = false := allTo_bad hk'
    have hgood : rowR S n k = true → allTo (rowR S n) (k + 1) = true := fun h => by rw [allTo_succ, ha, h]; rfl
    have hr : rowR S n k = decide (sMeet S[n] S[k] = if k + 1 = n ∨ (k = 0 ∧ n + 1 = S.length) then 1 else 0) := by simp [rowR, sgD, hn, hkS]
    have hc : ((k : Int) = n - 1) = ((k : Int) + 1 = n) := propext ⟨fun h => by omega, fun h => by omega⟩
    have hc0 : ((0 : Int) = n - 1) = ((n : Int) < 2) := propext ⟨fun h => by omega, fun h => by omega⟩
    have hc1 : ((n : Int) = S.length - 1) = ((n : Int) + 1 = S.length) := propext ⟨fun h => by omega, fun h => by omega⟩
    rcases Nat.eq_zero_or_pos k with rfl | hkp
    · repeat' (first | intro _ | (simp [sxa, isPtrN, PV.pcs, elAt, setEl, inAt, elIn, setIn, isLst, cellsOf, Ex.ok, Ex.val, Opd.val, POp.dst, bin_int, binOK_int, bin_str, binOK_str, resOK, resV, RB.val, sub, putc, scB, scL, oneB, conf, Ex.val.eqP, Ex.val.eqL, negV, mxV, mnV, ← wr_eq, wr_zero, wr_one, wr_m1, bst_lst, byteC, partsOK, putAll, appV, nilV, slV, sslV, optB, optNum, and_assoc, exists_and_left, exists_eq_left', cs, *]) | refine CallS_i (f74 _ _ _ _ _ _ _ _) ?_ | refine CondS_d (fun h => ?_) (fun h => ?_) | refine CondS_b (fun h => ?_) (fun h => ?_) | refine GrdS_d (fun h => ?_) (fun h => ?_) | refine GrdS_b (fun h => ?_) (fun h => ?_) | refine OkS_i (by omega) ?_ | fail)
      all_goals first
        | exact hbad (by rw [hr]; first | (rw [if_pos (by omega)]; simp_all [sMeet]; done) | (rw [if_neg (by omega)]; simp_all [sMeet]; done))
        | (have h' := hgood (by rw [hr]; first | (rw [if_pos (by omega)]; simp_all [sMeet]; done) | (rw [if_neg (by omega)]; simp_all [sMeet]; done)); simp_all; done)
        | simp_all
    · have hk1 : ¬ (k : Int) = 0 := by omega
      repeat' (first | intro _ | (simp [sxa, isPtrN, PV.pcs, elAt, setEl, inAt, elIn, setIn, isLst, cellsOf, Ex.ok, Ex.val, Opd.val, POp.dst, bin_int, binOK_int, bin_str, binOK_str, resOK, resV, RB.val, sub, putc, scB, scL, oneB, conf, Ex.val.eqP, Ex.val.eqL, negV, mxV, mnV, ← wr_eq, wr_zero, wr_one, wr_m1, bst_lst, byteC, partsOK, putAll, appV, nilV, slV, sslV, optB, optNum, and_assoc, exists_and_left, exists_eq_left', cs, *]) | refine CallS_i (f74 _ _ _ _ _ _ _ _) ?_ | refine CondS_d (fun h => ?_) (fun h => ?_) | refine CondS_b (fun h => ?_) (fun h => ?_) | refine GrdS_d (fun h => ?_) (fun h => ?_) | refine GrdS_b (fun h => ?_) (fun h => ?_) | refine OkS_i (by omega) ?_ | fail)
      all_goals first
        | exact hbad (by rw [hr]; first | (rw [if_pos (by omega)]; simp_all [sMeet]; done) | (rw [if_neg (by omega)]; simp_all [sMeet]; done))
        | (have h' := hgood (by rw [hr]; first | (rw [if_pos (by omega)]; simp_all [sMeet]; done) | (rw [if_neg (by omega)]; simp_all [sMeet]; done)); simp_all; done)
        | simp_all
  · have : k = n := by omega
    subst this
    repeat' (first | intro _ | (simp [sxa, isPtrN, PV.pcs, elAt, setEl, inAt, elIn, setIn, isLst, cellsOf, Ex.ok, Ex.val, Opd.val, POp.dst, bin_int, binOK_int, bin_str, binOK_str, resOK, resV, RB.val, sub, putc, scB, scL, oneB, conf, Ex.val.eqP, Ex.val.eqL, negV, mxV, mnV, ← wr_eq, wr_zero, wr_one, wr_m1, bst_lst, byteC, partsOK, putAll, appV, nilV, slV, sslV, optB, optNum, and_assoc, exists_and_left, exists_eq_left', *]) | refine CondS_d (fun h => ?_) (fun h => ?_) | refine CondS_b (fun h => ?_) (fun h => ?_) | refine GrdS_d (fun h => ?_) (fun h => ?_) | refine GrdS_b (fun h => ?_) (fun h => ?_) | refine OkS_i (by omega) ?_ | fail)
    all_goals simp_all
theorem f94 (l : List Pt) (nl : Bool) (hl : l.length ≤ 1000000000000) : Fn Tryz.prog 94 false [.lst 2 nl (l.map cp)] (.bool (wRing l)) := by
  refine Fn.by_sx hX (by kernel_rfl) c94 (by kernel_rfl) (by rfl) ?_
  simp [i94, sxa, isPtrN, PV.pcs, elAt, setEl, inAt, elIn, setIn, isLst, cellsOf, Ex.ok, Ex.val, Opd.val, POp.dst, bin_int, binOK_int, bin_str, binOK_str, resOK, resV, RB.val, sub, putc, scB, scL, oneB, conf, Ex.val.eqP, Ex.val.eqL, negV, mxV, mnV, ← wr_eq, wr_zero, wr_one, wr_m1, bst_lst, byteC, partsOK, putAll, appV, nilV, slV, sslV, optB, optNum, and_assoc, exists_and_left, exists_eq_left']
  refine CallS_b (f59 _ _ _) (fun hL => ?_) (fun hL => ?_)
  · obtain ⟨S, hSe, hS⟩ : ∃ S, upTo (rgAt l) l.length = S ∧ S.length = l.length := ⟨_, rfl, upTo_length⟩
    have hwS : allTo (ringAt S) S.length = wRing l := by unfold wRing; rw [hSe, hL, hS]; rfl
    repeat' (first | intro _ | (simp [sxa, isPtrN, PV.pcs, elAt, setEl, inAt, elIn, setIn, isLst, cellsOf, Ex.ok, Ex.val, Opd.val, POp.dst, bin_int, binOK_int, bin_str, binOK_str, resOK, resV, RB.val, sub, putc, scB, scL, oneB, conf, Ex.val.eqP, Ex.val.eqL, negV, mxV, mnV, ← wr_eq, wr_zero, wr_one, wr_m1, bst_lst, byteC, partsOK, putAll, appV, nilV, slV, sslV, optB, optNum, and_assoc, exists_and_left, exists_eq_left', *]) | refine CondS_d (fun h => ?_) (fun h => ?_) | refine CondS_b (fun h => ?_) (fun h => ?_) | refine GrdS_d (fun h => ?_) (fun h => ?_) | refine GrdS_b (fun h => ?_) (fun h => ?_) | refine OkS_i (by omega) ?_ | fail)
    refine CallS_l (f100 l nl hl) ?_
    rw [hSe]
    simp [sxa, isPtrN, PV.pcs, elAt, setEl, inAt, elIn, setIn, isLst, cellsOf, Ex.ok, Ex.val, Opd.val, POp.dst, bin_int, binOK_int, bin_str, binOK_str, resOK, resV, RB.val, sub, putc, scB, scL, oneB, conf, Ex.val.eqP, Ex.val.eqL, negV, mxV, mnV, ← wr_eq, wr_zero, wr_one, wr_m1, bst_lst, byteC, partsOK, putAll, appV, nilV, slV, sslV, optB, optNum, and_assoc, exists_and_left, exists_eq_left']
    refine sx_count S.length (fun n V => V 0 = .lst 2 nl (l.map cp) ∧ V 3 = .lst 4 false (S.map cs) ∧ V 4 = i n ∧ allTo (ringAt S) n = true) 0 (by omega) (by simp [sxa, isPtrN, PV.pcs, elAt, setEl, inAt, elIn, setIn, isLst, cellsOf, Ex.ok, Ex.val, Opd.val, POp.dst, bin_int, binOK_int, bin_str, binOK_str, resOK, resV, RB.val, sub, putc, scB, scL, oneB, conf, Ex.val.eqP, Ex.val.eqL, negV, mxV, mnV, ← wr_eq, wr_zero, wr_one, wr_m1, bst_lst, byteC, partsOK, putAll, appV, nilV, slV, sslV, optB, optNum, and_assoc, exists_and_left, exists_eq_left', allTo_zero]) ?_
    rintro n V hn ⟨h0, h3, h4, ha⟩
    have hw : wr .i64 ((n : Int) + 1) = n + 1 := wr_in (by omega) (by omega)
    simp [sxa, isPtrN, PV.pcs, elAt, setEl, inAt, elIn, setIn, isLst, cellsOf, Ex.ok, Ex.val, Opd.val, POp.dst, bin_int, binOK_int, bin_str, binOK_str, resOK, resV, RB.val, sub, putc, scB, scL, oneB, conf, Ex.val.eqP, Ex.val.eqL, negV, mxV, mnV, ← wr_eq, wr_zero, wr_one, wr_m1, bst_lst, byteC, partsOK, putAll, appV, nilV, slV, sslV, optB, optNum, and_assoc, exists_and_left, exists_eq_left', h3, h4]
    refine CondS_d (fun hlt => ?_) (fun hge => ?_)
    · have hlt' : n < S.length := by omega
      have hr : ringAt S n = (sSeg S[n] && allTo (rowR S n) n) := by simp [ringAt, sgD, hlt']
      have hbad : ringAt S n = false → wRing l = false := fun h => by rw [← hwS, allTo_bad hlt' h]
      simp [sxa, isPtrN, PV.pcs, elAt, setEl, inAt, elIn, setIn, isLst, cellsOf, Ex.ok, Ex.val, Opd.val, POp.dst, bin_int, binOK_int, bin_str, binOK_str, resOK, resV, RB.val, sub, putc, scB, scL, oneB, conf, Ex.val.eqP, Ex.val.eqL, negV, mxV, mnV, ← wr_eq, wr_zero, wr_one, wr_m1, bst_lst, byteC, partsOK, putAll, appV, nilV, slV, sslV, optB, optNum, and_assoc, exists_and_left, exists_eq_left', h3, h4, hlt', cs]
      refine CallS_b (f102 _ _ _ _) (fun hs => ?_) (fun hs => ?_)
      · simp [sxa, isPtrN, PV.pcs, elAt, setEl, inAt, elIn, setIn, isLst, cellsOf, Ex.ok, Ex.val, Opd.val, POp.dst, bin_int, binOK_int, bin_str, binOK_str, resOK, resV, RB.val, sub, putc, scB, scL, oneB, conf, Ex.val.eqP, Ex.val.eqL, negV, mxV, mnV, ← wr_eq, wr_zero, wr_one, wr_m1, bst_lst, byteC, partsOK, putAll, appV, nilV, slV, sslV, optB, optNum, and_assoc, exists_and_left, exists_eq_left']
        refine sx_mono _ _ _ _ ?_ (l94_2 hlt' (by omega) (by simp [sxa, isPtrN, PV.pcs, elAt, setEl, inAt, elIn, setIn, isLst, cellsOf, Ex.ok, Ex.val, Opd.val, POp.dst, bin_int, binOK_int, bin_str, binOK_str, resOK, resV, RB.val, sub, putc, scB, scL, oneB, conf, Ex.val.eqP, Ex.val.eqL, negV, mxV, mnV, ← wr_eq, wr_zero, wr_one, wr_m1, bst_lst, byteC, partsOK, putAll, appV, nilV, slV, sslV, optB, optNum, and_assoc, exists_and_left, exists_eq_left', h3]) (by simp [sxa, isPtrN, PV.pcs, elAt, setEl, inAt, elIn, setIn, isLst, cellsOf, Ex.ok, Ex.val, Opd.val, POp.dst, bin_int, binOK_int, bin_str, binOK_str, resOK, resV, RB.val, sub, putc, scB, scL, oneB, conf, Ex.val.eqP, Ex.val.eqL, negV, mxV, mnV, ← wr_eq, wr_zero, wr_one, wr_m1, bst_lst, byteC, partsOK, putAll, appV, nilV, slV, sslV, optB, optNum, and_assoc, exists_and_left, exists_eq_left', h4]) (by simp [sxa, isPtrN, PV.pcs, elAt, setEl, inAt, elIn, setIn, isLst, cellsOf, Ex.ok, Ex.val, Opd.val, POp.dst, bin_int, binOK_int, bin_str, binOK_str, resOK, resV, RB.val, sub, putc, scB, scL, oneB, conf, Ex.val.eqP, Ex.val.eqL, negV, mxV, mnV, ← wr_eq, wr_zero, wr_one, wr_m1, bst_lst, byteC, partsOK, putAll, appV, nilV, slV, sslV, optB, optNum, and_assoc, exists_and_left, exists_eq_left']))
        rintro x V' (⟨rfl, hall, e0, e3, e4⟩ | ⟨rfl, hall, e2⟩)
        · simp [sxa, isPtrN, PV.pcs, elAt, setEl, inAt, elIn, setIn, isLst, cellsOf, Ex.ok, Ex.val, Opd.val, POp.dst, bin_int, binOK_int, bin_str, binOK_str, resOK, resV, RB.val, sub, putc, scB, scL, oneB, conf, Ex.val.eqP, Ex.val.eqL, negV, mxV, mnV, ← wr_eq, wr_zero, wr_one, wr_m1, bst_lst, byteC, partsOK, putAll, appV, nilV, slV, sslV, optB, optNum, and_assoc, exists_and_left, exists_eq_left', e0, e3, e4, h0, h3, h4, hw, hlt', allTo_succ, ha, hall, hr, sSeg, hs, cs]
        · have := hbad (by rw [hr, hall]; simp)
          simp [sxa, isPtrN, PV.pcs, elAt, setEl, inAt, elIn, setIn, isLst, cellsOf, Ex.ok, Ex.val, Opd.val, POp.dst, bin_int, binOK_int, bin_str, binOK_str, resOK, resV, RB.val, sub, putc, scB, scL, oneB, conf, Ex.val.eqP, Ex.val.eqL, negV, mxV, mnV, ← wr_eq, wr_zero, wr_one, wr_m1, bst_lst, byteC, partsOK, putAll, appV, nilV, slV, sslV, optB, optNum, and_assoc, exists_and_left, exists_eq_left', e2, this]
      · have := hbad (by rw [hr]; simp [sSeg, hs])
        repeat' (first | intro _ | (simp [sxa, isPtrN, PV.pcs, elAt, setEl, inAt, elIn, setIn, isLst, cellsOf, Ex.ok, Ex.val, Opd.val, POp.dst, bin_int, binOK_int, bin_str, binOK_str, resOK, resV, RB.val, sub, putc, scB, scL, oneB, conf, Ex.val.eqP, Ex.val.eqL, negV, mxV, mnV, ← wr_eq, wr_zero, wr_one, wr_m1, bst_lst, byteC, partsOK, putAll, appV, nilV, slV, sslV, optB, optNum, and_assoc, exists_and_left, exists_eq_left', *]) | refine CondS_d (fun h => ?_) (fun h => ?_) | refine CondS_b (fun h => ?_) (fun h => ?_) | refine GrdS_d (fun h => ?_) (fun h => ?_) | refine GrdS_b (fun h => ?_) (fun h => ?_) | refine OkS_i (by omega) ?_ | fail)
    · have : n = S.length := by omega
      subst this
      repeat' (first | intro _ | (simp [sxa, isPtrN, PV.pcs, elAt, setEl, inAt, elIn, setIn, isLst, cellsOf, Ex.ok, Ex.val, Opd.val, POp.dst, bin_int, binOK_int, bin_str, binOK_str, resOK, resV, RB.val, sub, putc, scB, scL, oneB, conf, Ex.val.eqP, Ex.val.eqL, negV, mxV, mnV, ← wr_eq, wr_zero, wr_one, wr_m1, bst_lst, byteC, partsOK, putAll, appV, nilV, slV, sslV, optB, optNum, and_assoc, exists_and_left, exists_eq_left', *]) | refine CondS_d (fun h => ?_) (fun h => ?_) | refine CondS_b (fun h => ?_) (fun h => ?_) | refine GrdS_d (fun h => ?_) (fun h => ?_) | refine GrdS_b (fun h => ?_) (fun h => ?_) | refine OkS_i (by omega) ?_ | fail)
      all_goals simp_all
  · have hf : wRing l = false := by simp [wRing, hL]
    repeat' (first | intro _ | (simp [sxa, isPtrN, PV.pcs, elAt, setEl, inAt, elIn, setIn, isLst, cellsOf, Ex.ok, Ex.val, Opd.val, POp.dst, bin_int, binOK_int, bin_str, binOK_str, resOK, resV, RB.val, sub, putc, scB, scL, oneB, conf, Ex.val.eqP, Ex.val.eqL, negV, mxV, mnV, ← wr_eq, wr_zero, wr_one, wr_m1, bst_lst, byteC, partsOK, putAll, appV, nilV, slV, sslV, optB, optNum, and_assoc, exists_and_left, exists_eq_left', *]) | refine CondS_d (fun h => ?_) (fun h => ?_) | refine CondS_b (fun h => ?_) (fun h => ?_) | refine GrdS_d (fun h => ?_) (fun h => ?_) | refine GrdS_b (fun h => ?_) (fun h => ?_) | refine OkS_i (by omega) ?_ | fail)
theorem f53 (l : List Pt) (nl : Bool) (hl : l.length ≤ 1000000000000) : Fn Tryz.prog 53 false [.lst 2 nl (l.map cp)] (.bool (wRing l)) := by
  refine Fn.by_sx hX (by kernel_rfl) c53 (by kernel_rfl) (by rfl) ?_
  simp [i53, sxa, isPtrN, PV.pcs, elAt, setEl, inAt, elIn, setIn, isLst, cellsOf, Ex.ok, Ex.val, Opd.val, POp.dst, bin_int, binOK_int, bin_str, binOK_str, resOK, resV, RB.val, sub, putc, scB, scL, oneB, conf, Ex.val.eqP, Ex.val.eqL, negV, mxV, mnV, ← wr_eq, wr_zero, wr_one, wr_m1, bst_lst, byteC, partsOK, putAll, appV, nilV, slV, sslV, optB, optNum, and_assoc, exists_and_left, exists_eq_left']
  by_cases hL : inR l.length 3 10 = true
  · obtain ⟨S, hSe, hS⟩ : ∃ S, upTo (rgAt l) l.length = S ∧ S.length = l.length := ⟨_, rfl, upTo_length⟩
    have hwS : allTo (ringAt S) S.length = wRing l := by unfold wRing; rw [hSe, hL, hS]; rfl
    have hL1 : ¬ (l.length : Int) < 3 := by simp [inR] at hL; omega
    have hL2 : ¬ (10 : Int) < l.length := by simp [inR] at hL; omega
    repeat' (first | intro _ | (simp [sxa, isPtrN, PV.pcs, elAt, setEl, inAt, elIn, setIn, isLst, cellsOf, Ex.ok, Ex.val, Opd.val, POp.dst, bin_int, binOK_int, bin_str, binOK_str, resOK, resV, RB.val, sub, putc, scB, scL, oneB, conf, Ex.val.eqP, Ex.val.eqL, negV, mxV, mnV, ← wr_eq, wr_zero, wr_one, wr_m1, bst_lst, byteC, partsOK, putAll, appV, nilV, slV, sslV, optB, optNum, and_assoc, exists_and_left, exists_eq_left', *]) | refine CondS_d (fun h => ?_) (fun h => ?_) | refine CondS_b (fun h => ?_) (fun h => ?_) | refine GrdS_d (fun h => ?_) (fun h => ?_) | refine GrdS_b (fun h => ?_) (fun h => ?_) | refine OkS_i (by omega) ?_ | fail)
    refine CallS_l (f75 l nl hl) ?_
    rw [hSe]
    simp [sxa, isPtrN, PV.pcs, elAt, setEl, inAt, elIn, setIn, isLst, cellsOf, Ex.ok, Ex.val, Opd.val, POp.dst, bin_int, binOK_int, bin_str, binOK_str, resOK, resV, RB.val, sub, putc, scB, scL, oneB, conf, Ex.val.eqP, Ex.val.eqL, negV, mxV, mnV, ← wr_eq, wr_zero, wr_one, wr_m1, bst_lst, byteC, partsOK, putAll, appV, nilV, slV, sslV, optB, optNum, and_assoc, exists_and_left, exists_eq_left']
    refine sx_count S.length (fun n V => V 3 = .lst 4 false (S.map cs) ∧ V 18 = i S.length ∧ V 19 = i n ∧ allTo (ringAt S) n = true) 0 (by omega) (by simp [sxa, isPtrN, PV.pcs, elAt, setEl, inAt, elIn, setIn, isLst, cellsOf, Ex.ok, Ex.val, Opd.val, POp.dst, bin_int, binOK_int, bin_str, binOK_str, resOK, resV, RB.val, sub, putc, scB, scL, oneB, conf, Ex.val.eqP, Ex.val.eqL, negV, mxV, mnV, ← wr_eq, wr_zero, wr_one, wr_m1, bst_lst, byteC, partsOK, putAll, appV, nilV, slV, sslV, optB, optNum, and_assoc, exists_and_left, exists_eq_left', allTo_zero]) ?_
    rintro n V hn ⟨h3, h18, h19, ha⟩
    have hw : wr .i64 ((n : Int) + 1) = n + 1 := wr_in (by omega) (by omega)
    simp [sxa, isPtrN, PV.pcs, elAt, setEl, inAt, elIn, setIn, isLst, cellsOf, Ex.ok, Ex.val, Opd.val, POp.dst, bin_int, binOK_int, bin_str, binOK_str, resOK, resV, RB.val, sub, putc, scB, scL, oneB, conf, Ex.val.eqP, Ex.val.eqL, negV, mxV, mnV, ← wr_eq, wr_zero, wr_one, wr_m1, bst_lst, byteC, partsOK, putAll, appV, nilV, slV, sslV, optB, optNum, and_assoc, exists_and_left, exists_eq_left', h18, h19]
    refine CondS_d (fun hlt => ?_) (fun hge => ?_)
    · have hlt' : n < S.length := by omega
      have hr : ringAt S n = (sSeg S[n] && allTo (rowR S n) n) := by simp [ringAt, sgD, hlt']
      have hbad : ringAt S n = false → wRing l = false := fun h => by rw [← hwS, allTo_bad hlt' h]
      simp [sxa, isPtrN, PV.pcs, elAt, setEl, inAt, elIn, setIn, isLst, cellsOf, Ex.ok, Ex.val, Opd.val, POp.dst, bin_int, binOK_int, bin_str, binOK_str, resOK, resV, RB.val, sub, putc, scB, scL, oneB, conf, Ex.val.eqP, Ex.val.eqL, negV, mxV, mnV, ← wr_eq, wr_zero, wr_one, wr_m1, bst_lst, byteC, partsOK, putAll, appV, nilV, slV, sslV, optB, optNum, and_assoc, exists_and_left, exists_eq_left', h3, h19, hlt', cs]
      refine CallS_b (f76 _ _ _ _) (fun hs => ?_) (fun hs => ?_)
      · simp [sxa, isPtrN, PV.pcs, elAt, setEl, inAt, elIn, setIn, isLst, cellsOf, Ex.ok, Ex.val, Opd.val, POp.dst, bin_int, binOK_int, bin_str, binOK_str, resOK, resV, RB.val, sub, putc, scB, scL, oneB, conf, Ex.val.eqP, Ex.val.eqL, negV, mxV, mnV, ← wr_eq, wr_zero, wr_one, wr_m1, bst_lst, byteC, partsOK, putAll, appV, nilV, slV, sslV, optB, optNum, and_assoc, exists_and_left, exists_eq_left']
        refine sx_mono _ _ _ _ ?_ (l53_2 hlt' (by omega) (by simp [sxa, isPtrN, PV.pcs, elAt, setEl, inAt, elIn, setIn, isLst, cellsOf, Ex.ok, Ex.val, Opd.val, POp.dst, bin_int, binOK_int, bin_str, binOK_str, resOK, resV, RB.val, sub, putc, scB, scL, oneB, conf, Ex.val.eqP, Ex.val.eqL, negV, mxV, mnV, ← wr_eq, wr_zero, wr_one, wr_m1, bst_lst, byteC, partsOK, putAll, appV, nilV, slV, sslV, optB, optNum, and_assoc, exists_and_left, exists_eq_left', h3]) (by simp [sxa, isPtrN, PV.pcs, elAt, setEl, inAt, elIn, setIn, isLst, cellsOf, Ex.ok, Ex.val, Opd.val, POp.dst, bin_int, binOK_int, bin_str, binOK_str, resOK, resV, RB.val, sub, putc, scB, scL, oneB, conf, Ex.val.eqP, Ex.val.eqL, negV, mxV, mnV, ← wr_eq, wr_zero, wr_one, wr_m1, bst_lst, byteC, partsOK, putAll, appV, nilV, slV, sslV, optB, optNum, and_assoc, exists_and_left, exists_eq_left', h19]) (by simp [sxa, isPtrN, PV.pcs, elAt, setEl, inAt, elIn, setIn, isLst, cellsOf, Ex.ok, Ex.val, Opd.val, POp.dst, bin_int, binOK_int, bin_str, binOK_str, resOK, resV, RB.val, sub, putc, scB, scL, oneB, conf, Ex.val.eqP, Ex.val.eqL, negV, mxV, mnV, ← wr_eq, wr_zero, wr_one, wr_m1, bst_lst, byteC, partsOK, putAll, appV, nilV, slV, sslV, optB, optNum, and_assoc, exists_and_left, exists_eq_left', h19]) (by simp [sxa, isPtrN, PV.pcs, elAt, setEl, inAt, elIn, setIn, isLst, cellsOf, Ex.ok, Ex.val, Opd.val, POp.dst, bin_int, binOK_int, bin_str, binOK_str, resOK, resV, RB.val, sub, putc, scB, scL, oneB, conf, Ex.val.eqP, Ex.val.eqL, negV, mxV, mnV, ← wr_eq, wr_zero, wr_one, wr_m1, bst_lst, byteC, partsOK, putAll, appV, nilV, slV, sslV, optB, optNum, and_assoc, exists_and_left, exists_eq_left']))
        rintro x V' (⟨rfl, hall, e0, e3, e18, e19⟩ | ⟨rfl, hall, e2⟩)
        · simp [sxa, isPtrN, PV.pcs, elAt, setEl, inAt, elIn, setIn, isLst, cellsOf, Ex.ok, Ex.val, Opd.val, POp.dst, bin_int, binOK_int, bin_str, binOK_str, resOK, resV, RB.val, sub, putc, scB, scL, oneB, conf, Ex.val.eqP, Ex.val.eqL, negV, mxV, mnV, ← wr_eq, wr_zero, wr_one, wr_m1, bst_lst, byteC, partsOK, putAll, appV, nilV, slV, sslV, optB, optNum, and_assoc, exists_and_left, exists_eq_left', e3, e18, e19, h3, h18, h19, hw, hlt', allTo_succ, ha, hall, hr, sSeg, hs, cs]
        · have := hbad (by rw [hr, hall]; simp)
          simp [sxa, isPtrN, PV.pcs, elAt, setEl, inAt, elIn, setIn, isLst, cellsOf, Ex.ok, Ex.val, Opd.val, POp.dst, bin_int, binOK_int, bin_str, binOK_str, resOK, resV, RB.val, sub, putc, scB, scL, oneB, conf, Ex.val.eqP, Ex.val.eqL, negV, mxV, mnV, ← wr_eq, wr_zero, wr_one, wr_m1, bst_lst, byteC, partsOK, putAll, appV, nilV, slV, sslV, optB, optNum, and_assoc, exists_and_left, exists_eq_left', e2, this]
      · have := hbad (by rw [hr]; simp [sSeg, hs])
        repeat' (first | intro _ | (simp [sxa, isPtrN, PV.pcs, elAt, setEl, inAt, elIn, setIn, isLst, cellsOf, Ex.ok, Ex.val, Opd.val, POp.dst, bin_int, binOK_int, bin_str, binOK_str, resOK, resV, RB.val, sub, putc, scB, scL, oneB, conf, Ex.val.eqP, Ex.val.eqL, negV, mxV, mnV, ← wr_eq, wr_zero, wr_one, wr_m1, bst_lst, byteC, partsOK, putAll, appV, nilV, slV, sslV, optB, optNum, and_assoc, exists_and_left, exists_eq_left', *]) | refine CondS_d (fun h => ?_) (fun h => ?_) | refine CondS_b (fun h => ?_) (fun h => ?_) | refine GrdS_d (fun h => ?_) (fun h => ?_) | refine GrdS_b (fun h => ?_) (fun h => ?_) | refine OkS_i (by omega) ?_ | fail)
    · have : n = S.length := by omega
      subst this
      repeat' (first | intro _ | (simp [sxa, isPtrN, PV.pcs, elAt, setEl, inAt, elIn, setIn, isLst, cellsOf, Ex.ok, Ex.val, Opd.val, POp.dst, bin_int, binOK_int, bin_str, binOK_str, resOK, resV, RB.val, sub, putc, scB, scL, oneB, conf, Ex.val.eqP, Ex.val.eqL, negV, mxV, mnV, ← wr_eq, wr_zero, wr_one, wr_m1, bst_lst, byteC, partsOK, putAll, appV, nilV, slV, sslV, optB, optNum, and_assoc, exists_and_left, exists_eq_left', *]) | refine CondS_d (fun h => ?_) (fun h => ?_) | refine CondS_b (fun h => ?_) (fun h => ?_) | refine GrdS_d (fun h => ?_) (fun h => ?_) | refine GrdS_b (fun h => ?_) (fun h => ?_) | refine OkS_i (by omega) ?_ | fail)
      all_goals simp_all
  · have hf : wRing l = false := by simp [wRing, hL]
    have hL : (l.length : Int) < 3 ∨ (10 : Int) < l.length := by simp [inR] at hL; omega
    rcases hL with h | h
    · repeat' (first | intro _ | (simp [sxa, isPtrN, PV.pcs, elAt, setEl, inAt, elIn, setIn, isLst, cellsOf, Ex.ok, Ex.val, Opd.val, POp.dst, bin_int, binOK_int, bin_str, binOK_str, resOK, resV, RB.val, sub, putc, scB, scL, oneB, conf, Ex.val.eqP, Ex.val.eqL, negV, mxV, mnV, ← wr_eq, wr_zero, wr_one, wr_m1, bst_lst, byteC, partsOK, putAll, appV, nilV, slV, sslV, optB, optNum, and_assoc, exists_and_left, exists_eq_left', *]) | refine CondS_d (fun h => ?_) (fun h => ?_) | refine CondS_b (fun h => ?_) (fun h => ?_) | refine GrdS_d (fun h => ?_) (fun h => ?_) | refine GrdS_b (fun h => ?_) (fun h => ?_) | refine OkS_i (by omega) ?_ | fail)
    · have : ¬ (l.length : Int) < 3 := by omega
      repeat' (first | intro _ | (simp [sxa, isPtrN, PV.pcs, elAt, setEl, inAt, elIn, setIn, isLst, cellsOf, Ex.ok, Ex.val, Opd.val, POp.dst, bin_int, binOK_int, bin_str, binOK_str, resOK, resV, RB.val, sub, putc, scB, scL, oneB, conf, Ex.val.eqP, Ex.val.eqL, negV, mxV, mnV, ← wr_eq, wr_zero, wr_one, wr_m1, bst_lst, byteC, partsOK, putAll, appV, nilV, slV, sslV, optB, optNum, and_assoc, exists_and_left, exists_eq_left', *]) | refine CondS_d (fun h => ?_) (fun h => ?_) | refine CondS_b (fun h => ?_) (fun h => ?_) | refine GrdS_d (fun h => ?_) (fun h => ?_) | refine GrdS_b (fun h => ?_) (fun h => ?_) | refine OkS_i (by omega) ?_ | fail)
end Go.Eng
namespace Go.Eng
open Go Go.Proofs Geo
set_option linter.unusedSimpArgs false
set_option linter.unusedVariables false
set_option maxRecDepth 20000
set_option maxHeartbeats 1000000

def lowAt (s : ByteArray) (n : Nat) : Bool := decide (¬ ((s.data[n]?.getD 0).toNat : Int) < 97 ∧ ¬ (122 : Int) < ((s.data[n]?.getD 0).toNat : Int))
def isNm (s : ByteArray) : Bool := allTo (lowAt s) s.size && inR s.size 1 8
theorem f91 (s : ByteArray) (hs : s.size ≤ 4611686018427387904) : Fn Tryz.prog 91 false [.str s] (.bool (isNm s)) := by
  refine Fn.by_sx hX (by kernel_rfl) c91 (by kernel_rfl) (by rfl) ?_
  simp [i91, sxa, isPtrN, PV.pcs, elAt, setEl, inAt, elIn, setIn, isLst, cellsOf, Ex.ok, Ex.val, Opd.val, POp.dst, bin_int, binOK_int, bin_str, binOK_str, resOK, resV, RB.val, sub, putc, scB, scL, oneB, conf, Ex.val.eqP, Ex.val.eqL, negV, mxV, mnV, ← wr_eq, wr_zero, wr_one, wr_m1, bst_lst, byteC, partsOK, putAll, appV, nilV, slV, sslV, optB, optNum, and_assoc, exists_and_left, exists_eq_left']
  refine sx_count s.size (fun n V => V 0 = .str s ∧ V 3 = i n ∧ allTo (lowAt s) n = true) 0 (by omega) (by simp [sxa, isPtrN, PV.pcs, elAt, setEl, inAt, elIn, setIn, isLst, cellsOf, Ex.ok, Ex.val, Opd.val, POp.dst, bin_int, binOK_int, bin_str, binOK_str, resOK, resV, RB.val, sub, putc, scB, scL, oneB, conf, Ex.val.eqP, Ex.val.eqL, negV, mxV, mnV, ← wr_eq, wr_zero, wr_one, wr_m1, bst_lst, byteC, partsOK, putAll, appV, nilV, slV, sslV, optB, optNum, and_assoc, exists_and_left, exists_eq_left', allTo_zero]) ?_
  rintro n V hn ⟨h0, h3, ha⟩
  have hw : wr .i64 ((n : Int) + 1) = n + 1 := wr_in (by omega) (by omega)
  simp [sxa, isPtrN, PV.pcs, elAt, setEl, inAt, elIn, setIn, isLst, cellsOf, Ex.ok, Ex.val, Opd.val, POp.dst, bin_int, binOK_int, bin_str, binOK_str, resOK, resV, RB.val, sub, putc, scB, scL, oneB, conf, Ex.val.eqP, Ex.val.eqL, negV, mxV, mnV, ← wr_eq, wr_zero, wr_one, wr_m1, bst_lst, byteC, partsOK, putAll, appV, nilV, slV, sslV, optB, optNum, and_assoc, exists_and_left, exists_eq_left', h0, h3]
  refine CondS_d (fun hlt => ?_) (fun hge => ?_)
  · have hlt' : n < s.size := by omega
    have hbad : lowAt s n = false → isNm s = false := fun h => by simp [isNm, allTo_bad hlt' h]
    have hlt2 : n < s.data.size := hlt'
    obtain ⟨b, hb⟩ : ∃ b, (s.data[n].toNat : Int) = b := ⟨_, rfl⟩
    have hr : lowAt s n = decide (¬ b < 97 ∧ ¬ (122 : Int) < b) := by unfold lowAt; rw [Array.getElem?_eq_getElem hlt2]; simp only [Option.getD_some, hb]
    simp [sxa, isPtrN, PV.pcs, elAt, setEl, inAt, elIn, setIn, isLst, cellsOf, Ex.ok, Ex.val, Opd.val, POp.dst, bin_int, binOK_int, bin_str, binOK_str, resOK, resV, RB.val, sub, putc, scB, scL, oneB, conf, Ex.val.eqP, Ex.val.eqL, negV, mxV, mnV, ← wr_eq, wr_zero, wr_one, wr_m1, bst_lst, byteC, partsOK, putAll, appV, nilV, slV, sslV, optB, optNum, and_assoc, exists_and_left, exists_eq_left', hlt', h0, h3, hb]
    repeat' (first | intro _ | (simp [sxa, isPtrN, PV.pcs, elAt, setEl, inAt, elIn, setIn, isLst, cellsOf, Ex.ok, Ex.val, Opd.val, POp.dst, bin_int, binOK_int, bin_str, binOK_str, resOK, resV, RB.val, sub, putc, scB, scL, oneB, conf, Ex.val.eqP, Ex.val.eqL, negV, mxV, mnV, ← wr_eq, wr_zero, wr_one, wr_m1, bst_lst, byteC, partsOK, putAll, appV, nilV, slV, sslV, optB, optNum, and_assoc, exists_and_left, exists_eq_left', allTo_succ, *]) | refine CondS_d (fun h => ?_) (fun h => ?_) | refine CondS_b (fun h => ?_) (fun h => ?_) | refine GrdS_d (fun h => ?_) (fun h => ?_) | refine GrdS_b (fun h => ?_) (fun h => ?_) | refine OkS_i (by omega) ?_ | fail)
    all_goals first
      | exact hbad (by rw [hr]; simp; omega)
      | (rw [hr]; simp; omega)
      | omega
  · have : n = s.size := by omega
    subst this
    repeat' (first | intro _ | (simp [sxa, isPtrN, PV.pcs, elAt, setEl, inAt, elIn, setIn, isLst, cellsOf, Ex.ok, Ex.val, Opd.val, POp.dst, bin_int, binOK_int, bin_str, binOK_str, resOK, resV, RB.val, sub, putc, scB, scL, oneB, conf, Ex.val.eqP, Ex.val.eqL, negV, mxV, mnV, ← wr_eq, wr_zero, wr_one, wr_m1, bst_lst, byteC, partsOK, putAll, appV, nilV, slV, sslV, optB, optNum, and_assoc, exists_and_left, exists_eq_left', *]) | refine CallS_i (f59 _ _ _) ?_ | refine CondS_d (fun h => ?_) (fun h => ?_) | refine CondS_b (fun h => ?_) (fun h => ?_) | refine GrdS_d (fun h => ?_) (fun h => ?_) | refine GrdS_b (fun h => ?_) (fun h => ?_) | refine OkS_i (by omega) ?_ | fail)
    all_goals simp_all [isNm]
theorem f50 (s : ByteArray) (hs : s.size ≤ 4611686018427387904) : Fn Tryz.prog 50 false [.str s] (.bool (isNm s)) := by
  refine Fn.by_sx hX (by kernel_rfl) c50 (by kernel_rfl) (by rfl) ?_
  simp [i50, sxa, isPtrN, PV.pcs, elAt, setEl, inAt, elIn, setIn, isLst, cellsOf, Ex.ok, Ex.val, Opd.val, POp.dst, bin_int, binOK_int, bin_str, binOK_str, resOK, resV, RB.val, sub, putc, scB, scL, oneB, conf, Ex.val.eqP, Ex.val.eqL, negV, mxV, mnV, ← wr_eq, wr_zero, wr_one, wr_m1, bst_lst, byteC, partsOK, putAll, appV, nilV, slV, sslV, optB, optNum, and_assoc, exists_and_left, exists_eq_left']
  refine sx_count s.size (fun n V => V 0 = .str s ∧ V 5 = i s.size ∧ V 6 = i n ∧ allTo (lowAt s) n = true) 0 (by omega) (by simp [sxa, isPtrN, PV.pcs, elAt, setEl, inAt, elIn, setIn, isLst, cellsOf, Ex.ok, Ex.val, Opd.val, POp.dst, bin_int, binOK_int, bin_str, binOK_str, resOK, resV, RB.val, sub, putc, scB, scL, oneB, conf, Ex.val.eqP, Ex.val.eqL, negV, mxV, mnV, ← wr_eq, wr_zero, wr_one, wr_m1, bst_lst, byteC, partsOK, putAll, appV, nilV, slV, sslV, optB, optNum, and_assoc, exists_and_left, exists_eq_left', allTo_zero]) ?_
  rintro n V hn ⟨h0, h5, h6, ha⟩
  have hw : wr .i64 ((n : Int) + 1) = n + 1 := wr_in (by omega) (by omega)
  simp [sxa, isPtrN, PV.pcs, elAt, setEl, inAt, elIn, setIn, isLst, cellsOf, Ex.ok, Ex.val, Opd.val, POp.dst, bin_int, binOK_int, bin_str, binOK_str, resOK, resV, RB.val, sub, putc, scB, scL, oneB, conf, Ex.val.eqP, Ex.val.eqL, negV, mxV, mnV, ← wr_eq, wr_zero, wr_one, wr_m1, bst_lst, byteC, partsOK, putAll, appV, nilV, slV, sslV, optB, optNum, and_assoc, exists_and_left, exists_eq_left', h5, h6]
  refine CondS_d (fun hlt => ?_) (fun hge => ?_)
  · have hlt' : n < s.size := by omega
    have hbad : lowAt s n = false → isNm s = false := fun h => by simp [isNm, allTo_bad hlt' h]
    have hlt2 : n < s.data.size := hlt'
    obtain ⟨b, hb⟩ : ∃ b, (s.data[n].toNat : Int) = b := ⟨_, rfl⟩
    have hr : lowAt s n = decide (¬ b < 97 ∧ ¬ (122 : Int) < b) := by unfold lowAt; rw [Array.getElem?_eq_getElem hlt2]; simp only [Option.getD_some, hb]
    simp [sxa, isPtrN, PV.pcs, elAt, setEl, inAt, elIn, setIn, isLst, cellsOf, Ex.ok, Ex.val, Opd.val, POp.dst, bin_int, binOK_int, bin_str, binOK_str, resOK, resV, RB.val, sub, putc, scB, scL, oneB, conf, Ex.val.eqP, Ex.val.eqL, negV, mxV, mnV, ← wr_eq, wr_zero, wr_one, wr_m1, bst_lst, byteC, partsOK, putAll, appV, nilV, slV, sslV, optB, optNum, and_assoc, exists_and_left, exists_eq_left', hlt', h0, h6, hb]
    repeat' (first | intro _ | (simp [sxa, isPtrN, PV.pcs, elAt, setEl, inAt, elIn, setIn, isLst, cellsOf, Ex.ok, Ex.val, Opd.val, POp.dst, bin_int, binOK_int, bin_str, binOK_str, resOK, resV, RB.val, sub, putc, scB, scL, oneB, conf, Ex.val.eqP, Ex.val.eqL, negV, mxV, mnV, ← wr_eq, wr_zero, wr_one, wr_m1, bst_lst, byteC, partsOK, putAll, appV, nilV, slV, sslV, optB, optNum, and_assoc, exists_and_left, exists_eq_left', allTo_succ, *]) | refine CondS_d (fun h => ?_) (fun h => ?_) | refine CondS_b (fun h => ?_) (fun h => ?_) | refine GrdS_d (fun h => ?_) (fun h => ?_) | refine GrdS_b (fun h => ?_) (fun h => ?_) | refine OkS_i (by omega) ?_ | fail)
    all_goals first
      | exact hbad (by rw [hr]; simp; omega)
      | (rw [hr]; simp; omega)
      | omega
  · have : n = s.size := by omega
    subst this
    repeat' (first | intro _ | (simp [sxa, isPtrN, PV.pcs, elAt, setEl, inAt, elIn, setIn, isLst, cellsOf, Ex.ok, Ex.val, Opd.val, POp.dst, bin_int, binOK_int, bin_str, binOK_str, resOK, resV, RB.val, sub, putc, scB, scL, oneB, conf, Ex.val.eqP, Ex.val.eqL, negV, mxV, mnV, ← wr_eq, wr_zero, wr_one, wr_m1, bst_lst, byteC, partsOK, putAll, appV, nilV, slV, sslV, optB, optNum, and_assoc, exists_and_left, exists_eq_left', *]) | refine CallS_i (f19 _ _ _) ?_ | refine CondS_d (fun h => ?_) (fun h => ?_) | refine CondS_b (fun h => ?_) (fun h => ?_) | refine GrdS_d (fun h => ?_) (fun h => ?_) | refine GrdS_b (fun h => ?_) (fun h => ?_) | refine OkS_i (by omega) ?_ | fail)
    all_goals simp_all [isNm]
structure Ft where
  f0 : Int
  f1 : Int
  f2 : Int
  f3 : ByteArray
  f4 : List Pt
  nl : Bool
def ft (x : Ft) : List PV := [i x.f0, i x.f1, i x.f2, .str x.f3, .lst 2 x.nl (x.f4.map cp)]
def wShape (x : Ft) : Bool := if x.f1 = 1 then decide (x.f4.length = 1) && M_IsPoint (x.f4.getD 0 ⟨0, 0⟩).f0 (x.f4.getD 0 ⟨0, 0⟩).f1 else if x.f1 = 2 then wSimple x.f4 else if x.f1 = 3 then wRing x.f4 else false
def wFeat (x : Ft) : Bool := (inR x.f0 1 99 && (inR x.f2 0 9 && (decide (x.f3 = bs []) || isNm x.f3))) && wShape x
def Ft.okay (x : Ft) : Prop := x.f3.size ≤ 4611686018427387904 ∧ x.f4.length ≤ 1000000000000
theorem f78 (x : Ft) (hx : x.okay) : Fn Tryz.prog 78 false [.agg (ft x)] (.bool (wFeat x)) := by
  obtain ⟨hx1, hx2⟩ := hx
  unfold ft
  refine Fn.by_sx hX (by kernel_rfl) c78 (by kernel_rfl) (by rfl) ?_
  simp [i78, sxa, isPtrN, PV.pcs, elAt, setEl, inAt, elIn, setIn, isLst, cellsOf, Ex.ok, Ex.val, Opd.val, POp.dst, bin_int, binOK_int, bin_str, binOK_str, resOK, resV, RB.val, sub, putc, scB, scL, oneB, conf, Ex.val.eqP, Ex.val.eqL, negV, mxV, mnV, ← wr_eq, wr_zero, wr_one, wr_m1, bst_lst, byteC, partsOK, putAll, appV, nilV, slV, sslV, optB, optNum, and_assoc, exists_and_left, exists_eq_left']
  by_cases hk1 : x.f1 = 1
  · by_cases hl : x.f4.length = 1
    · have hl0 : 0 < x.f4.length := by omega
      repeat' (first | intro _ | (simp [sxa, isPtrN, PV.pcs, elAt, setEl, inAt, elIn, setIn, isLst, cellsOf, Ex.ok, Ex.val, Opd.val, POp.dst, bin_int, binOK_int, bin_str, binOK_str, resOK, resV, RB.val, sub, putc, scB, scL, oneB, conf, Ex.val.eqP, Ex.val.eqL, negV, mxV, mnV, ← wr_eq, wr_zero, wr_one, wr_m1, bst_lst, byteC, partsOK, putAll, appV, nilV, slV, sslV, optB, optNum, and_assoc, exists_and_left, exists_eq_left', cp, *]) | refine CallS_b (f59 _ _ _) (fun h => ?_) (fun h => ?_) | refine CallS_b (f91 _ hx1) (fun h => ?_) (fun h => ?_) | refine CallS_b (f92 _ _) (fun h => ?_) (fun h => ?_) | refine CondS_d (fun h => ?_) (fun h => ?_) | refine CondS_b (fun h => ?_) (fun h => ?_) | refine GrdS_d (fun h => ?_) (fun h => ?_) | refine GrdS_b (fun h => ?_) (fun h => ?_) | refine OkS_i (by omega) ?_ | fail)
      all_goals simp_all [wFeat, wShape]
    · have hlI : ¬ (x.f4.length : Int) = 1 := by omega
      repeat' (first | intro _ | (simp [sxa, isPtrN, PV.pcs, elAt, setEl, inAt, elIn, setIn, isLst, cellsOf, Ex.ok, Ex.val, Opd.val, POp.dst, bin_int, binOK_int, bin_str, binOK_str, resOK, resV, RB.val, sub, putc, scB, scL, oneB, conf, Ex.val.eqP, Ex.val.eqL, negV, mxV, mnV, ← wr_eq, wr_zero, wr_one, wr_m1, bst_lst, byteC, partsOK, putAll, appV, nilV, slV, sslV, optB, optNum, and_assoc, exists_and_left, exists_eq_left', cp, *]) | refine CallS_b (f59 _ _ _) (fun h => ?_) (fun h => ?_) | refine CallS_b (f91 _ hx1) (fun h => ?_) (fun h => ?_) | refine CondS_d (fun h => ?_) (fun h => ?_) | refine CondS_b (fun h => ?_) (fun h => ?_) | refine GrdS_d (fun h => ?_) (fun h => ?_) | refine GrdS_b (fun h => ?_) (fun h => ?_) | refine OkS_i (by omega) ?_ | fail)
      all_goals simp_all [wFeat, wShape]
  · repeat' (first | intro _ | (simp [sxa, isPtrN, PV.pcs, elAt, setEl, inAt, elIn, setIn, isLst, cellsOf, Ex.ok, Ex.val, Opd.val, POp.dst, bin_int, binOK_int, bin_str, binOK_str, resOK, resV, RB.val, sub, putc, scB, scL, oneB, conf, Ex.val.eqP, Ex.val.eqL, negV, mxV, mnV, ← wr_eq, wr_zero, wr_one, wr_m1, bst_lst, byteC, partsOK, putAll, appV, nilV, slV, sslV, optB, optNum, and_assoc, exists_and_left, exists_eq_left', cp, *]) | refine CallS_b (f59 _ _ _) (fun h => ?_) (fun h => ?_) | refine CallS_b (f91 _ hx1) (fun h => ?_) (fun h => ?_) | refine CallS_i (f93 _ _ hx2) ?_ | refine CallS_i (f94 _ _ hx2) ?_ | refine CondS_d (fun h => ?_) (fun h => ?_) | refine CondS_b (fun h => ?_) (fun h => ?_) | refine GrdS_d (fun h => ?_) (fun h => ?_) | refine GrdS_b (fun h => ?_) (fun h => ?_) | refine OkS_i (by omega) ?_ | fail)
    all_goals simp_all [wFeat, wShape]

theorem f35 (x : Ft) (hx : x.okay) : Fn Tryz.prog 35 false [.agg (ft x)] (.bool (wFeat x)) := by
  obtain ⟨hx1, hx2⟩ := hx
  unfold ft
  refine Fn.by_sx hX (by kernel_rfl) c35 (by kernel_rfl) (by rfl) ?_
  simp [i35, sxa, isPtrN, PV.pcs, elAt, setEl, inAt, elIn, setIn, isLst, cellsOf, Ex.ok, Ex.val, Opd.val, POp.dst, bin_int, binOK_int, bin_str, binOK_str, resOK, resV, RB.val, sub, putc, scB, scL, oneB, conf, Ex.val.eqP, Ex.val.eqL, negV, mxV, mnV, ← wr_eq, wr_zero, wr_one, wr_m1, bst_lst, byteC, partsOK, putAll, appV, nilV, slV, sslV, optB, optNum, and_assoc, exists_and_left, exists_eq_left']
  by_cases hk1 : x.f1 = 1
  · by_cases hl : x.f4.length = 1
    · have hl0 : 0 < x.f4.length := by omega
      repeat' (first | intro _ | (simp [sxa, isPtrN, PV.pcs, elAt, setEl, inAt, elIn, setIn, isLst, cellsOf, Ex.ok, Ex.val, Opd.val, POp.dst, bin_int, binOK_int, bin_str, binOK_str, resOK, resV, RB.val, sub, putc, scB, scL, oneB, conf, Ex.val.eqP, Ex.val.eqL, negV, mxV, mnV, ← wr_eq, wr_zero, wr_one, wr_m1, bst_lst, byteC, partsOK, putAll, appV, nilV, slV, sslV, optB, optNum, and_assoc, exists_and_left, exists_eq_left', cp, *]) | refine CallS_b (f19 _ _ _) (fun h => ?_) (fun h => ?_) | refine CallS_b (f50 _ hx1) (fun h => ?_) (fun h => ?_) | refine CallS_b (f51 _ _) (fun h => ?_) (fun h => ?_) | refine CondS_d (fun h => ?_) (fun h => ?_) | refine CondS_b (fun h => ?_) (fun h => ?_) | refine GrdS_d (fun h => ?_) (fun h => ?_) | refine GrdS_b (fun h => ?_) (fun h => ?_) | refine OkS_i (by omega) ?_ | fail)
      all_goals simp_all [wFeat, wShape]
    · have hlI : ¬ (x.f4.length : Int) = 1 := by omega
      repeat' (first | intro _ | (simp [sxa, isPtrN, PV.pcs, elAt, setEl, inAt, elIn, setIn, isLst, cellsOf, Ex.ok, Ex.val, Opd.val, POp.dst, bin_int, binOK_int, bin_str, binOK_str, resOK, resV, RB.val, sub, putc, scB, scL, oneB, conf, Ex.val.eqP, Ex.val.eqL, negV, mxV, mnV, ← wr_eq, wr_zero, wr_one, wr_m1, bst_lst, byteC, partsOK, putAll, appV, nilV, slV, sslV, optB, optNum, and_assoc, exists_and_left, exists_eq_left', cp, *]) | refine CallS_b (f19 _ _ _) (fun h => ?_) (fun h => ?_) | refine CallS_b (f50 _ hx1) (fun h => ?_) (fun h => ?_) | refine CondS_d (fun h => ?_) (fun h => ?_) | refine CondS_b (fun h => ?_) (fun h => ?_) | refine GrdS_d (fun h => ?_) (fun h => ?_) | refine GrdS_b (fun h => ?_) (fun h => ?_) | refine OkS_i (by omega) ?_ | fail)
      all_goals simp_all [wFeat, wShape]
  · repeat' (first | intro _ | (simp [sxa, isPtrN, PV.pcs, elAt, setEl, inAt, elIn, setIn, isLst, cellsOf, Ex.ok, Ex.val, Opd.val, POp.dst, bin_int, binOK_int, bin_str, binOK_str, resOK, resV, RB.val, sub, putc, scB, scL, oneB, conf, Ex.val.eqP, Ex.val.eqL, negV, mxV, mnV, ← wr_eq, wr_zero, wr_one, wr_m1, bst_lst, byteC, partsOK, putAll, appV, nilV, slV, sslV, optB, optNum, and_assoc, exists_and_left, exists_eq_left', cp, *]) | refine CallS_b (f19 _ _ _) (fun h => ?_) (fun h => ?_) | refine CallS_b (f50 _ hx1) (fun h => ?_) (fun h => ?_) | refine CallS_i (f52 _ _ hx2) ?_ | refine CallS_i (f53 _ _ hx2) ?_ | refine CondS_d (fun h => ?_) (fun h => ?_) | refine CondS_b (fun h => ?_) (fun h => ?_) | refine GrdS_d (fun h => ?_) (fun h => ?_) | refine GrdS_b (fun h => ?_) (fun h => ?_) | refine OkS_i (by omega) ?_ | fail)
    all_goals simp_all [wFeat, wShape]
end Go.Eng
namespace Go.Eng
open Go Go.Proofs Geo
set_option linter.unusedSimpArgs false
set_option linter.unusedVariables false
set_option maxRecDepth 20000
set_option maxHeartbeats 1000000

structure En where
  f0 : Ft
  f1 : Int
  f2 : Int
  f3 : Bool
def en (x : En) : List PV := [i x.f0.f0, i x.f0.f1, i x.f0.f2, .str x.f0.f3, .lst 2 x.f0.nl (x.f0.f4.map cp), i x.f1, i x.f2, .bool x.f3]
/-! sizes -/
end Go.Eng
namespace Go.Eng
open Go Go.Proofs Geo
set_option linter.unusedSimpArgs false
set_option linter.unusedVariables false
set_option maxRecDepth 20000
set_option maxHeartbeats 1000000

/-! copies -/
def Ft.fr (x : Ft) : Ft := { x with nl := false }
def En.fr (x : En) : En := { x with f0 := x.f0.fr }
end Go.Eng
namespace Go.Eng
open Go Go.Proofs Geo
set_option linter.unusedSimpArgs false
set_option linter.unusedVariables false
set_option maxRecDepth 20000
set_option maxHeartbeats 2000000

/-! draws of points, lines, rings, features. WRITES -/
def lowP (p : Pt) : Prop := (0 ≤ p.f0 ∧ p.f0 < 12) ∧ (0 ≤ p.f1 ∧ p.f1 < 12)
def anyP (p : Pt) : Prop := True
theorem f62 : FnR Tryz.prog 62 true false [] (fun v => ∃ p : Pt, v = .agg (cp p) ∧ lowP p) := by
  refine FnR.by_sxC hX (by kernel_rfl) c62 rfl rfl rfl (fun _ v => by rintro ⟨x, rfl, _⟩; rfl) ?_
  intro cs hcs
  simp [i62, sxa, isPtrN, PV.pcs, elAt, setEl, inAt, elIn, setIn, isLst, cellsOf, Ex.ok, Ex.val, Opd.val, POp.dst, bin_int, binOK_int, bin_str, binOK_str, resOK, resV, RB.val, sub, putc, scB, scL, oneB, conf, Ex.val.eqP, Ex.val.eqL, negV, mxV, mnV, ← wr_eq, wr_zero, wr_one, wr_m1, bst_lst, byteC, partsOK, putAll, appV, nilV, slV, sslV, optB, optNum, and_assoc, exists_and_left, exists_eq_left']
  repeat' (first | intro _ | (simp [sxa, isPtrN, PV.pcs, elAt, setEl, inAt, elIn, setIn, isLst, cellsOf, Ex.ok, Ex.val, Opd.val, POp.dst, bin_int, binOK_int, bin_str, binOK_str, resOK, resV, RB.val, sub, putc, scB, scL, oneB, conf, Ex.val.eqP, Ex.val.eqL, negV, mxV, mnV, ← wr_eq, wr_zero, wr_one, wr_m1, bst_lst, byteC, partsOK, putAll, appV, nilV, slV, sslV, optB, optNum, and_assoc, exists_and_left, exists_eq_left', *]) | refine ⟨by assumption, CopC_i (f28 12 (by omega)) (fun _ _ => by first | exact ⟨fun _ => rfl, (fun h => by cases h)⟩ | exact ⟨(fun h => by cases h), fun _ => ⟨_, rfl⟩⟩ | exact ⟨(fun h => by cases h), (fun h => by cases h)⟩) (fun x cs hx hcs => ?_)⟩ | refine CopC_i (f28 12 (by omega)) (fun _ _ => by first | exact ⟨fun _ => rfl, (fun h => by cases h)⟩ | exact ⟨(fun h => by cases h), fun _ => ⟨_, rfl⟩⟩ | exact ⟨(fun h => by cases h), (fun h => by cases h)⟩) (fun x cs hx hcs => ?_) | refine CondS_d (fun h => ?_) (fun h => ?_) | refine CondS_b (fun h => ?_) (fun h => ?_) | refine GrdS_d (fun h => ?_) (fun h => ?_) | refine GrdS_b (fun h => ?_) (fun h => ?_) | refine OkS_i (by omega) ?_ | fail)
  rename_i x1 _ h1 _
  exact ⟨⟨x1, x⟩, rfl, ⟨h1.1, h1.2 (by omega)⟩, hx.1, hx.2 (by omega)⟩
def rawL : List Int := [-1, 0, 200, 201, 1000, 1001, 9223372036854775807, -9223372036854775808]
def rawP (x : Int) : Prop := True
theorem f65 : FnR Tryz.prog 65 true false [] (fun v => ∃ x : Int, v = i x ∧ rawP x) := by
  have hc0 := f14 rawL false (by decide) (by decide)
  have hc : FnR Tryz.prog 14 true false [.lst 1 false [[i (-1)], [i 0], [i 200], [i 201], [i 1000], [i 1001], [i 9223372036854775807], [i (-9223372036854775808)]]] (fun v => ∃ x : Int, v = i x ∧ rawP x) := by
    refine ⟨hc0.1, fun w xs Fs a b c => ?_⟩
    have h := hc0.2 w xs Fs a b c
    simp only [if_true] at h ⊢
    intro x0 bb F1 d e f g j
    refine (h x0 bb F1 d e f g j).mono ?_
    rintro e' w' ⟨h1, x, F', res, h2, ⟨y, h3, _⟩, h4⟩
    exact ⟨h1, x, F', res, h2, ⟨y, h3, trivial⟩, h4⟩
  refine FnR.by_sxC hX (by kernel_rfl) c65 rfl rfl rfl (fun _ v => by rintro ⟨x, rfl, _⟩; rfl) ?_
  intro cs hcs
  simp [i65, sxa, isPtrN, PV.pcs, elAt, setEl, inAt, elIn, setIn, isLst, cellsOf, Ex.ok, Ex.val, Opd.val, POp.dst, bin_int, binOK_int, bin_str, binOK_str, resOK, resV, RB.val, sub, putc, scB, scL, oneB, conf, Ex.val.eqP, Ex.val.eqL, negV, mxV, mnV, ← wr_eq, wr_zero, wr_one, wr_m1, bst_lst, byteC, partsOK, putAll, appV, nilV, slV, sslV, optB, optNum, and_assoc, exists_and_left, exists_eq_left']
  repeat' (first | intro _ | (simp [sxa, isPtrN, PV.pcs, elAt, setEl, inAt, elIn, setIn, isLst, cellsOf, Ex.ok, Ex.val, Opd.val, POp.dst, bin_int, binOK_int, bin_str, binOK_str, resOK, resV, RB.val, sub, putc, scB, scL, oneB, conf, Ex.val.eqP, Ex.val.eqL, negV, mxV, mnV, ← wr_eq, wr_zero, wr_one, wr_m1, bst_lst, byteC, partsOK, putAll, appV, nilV, slV, sslV, optB, optNum, and_assoc, exists_and_left, exists_eq_left', *]) | refine ⟨by assumption, CopC_i (hc) (fun _ _ => by first | exact ⟨fun _ => rfl, (fun h => by cases h)⟩ | exact ⟨(fun h => by cases h), fun _ => ⟨_, rfl⟩⟩ | exact ⟨(fun h => by cases h), (fun h => by cases h)⟩) (fun x cs hx hcs => ?_)⟩ | refine CopC_i (hc) (fun _ _ => by first | exact ⟨fun _ => rfl, (fun h => by cases h)⟩ | exact ⟨(fun h => by cases h), fun _ => ⟨_, rfl⟩⟩ | exact ⟨(fun h => by cases h), (fun h => by cases h)⟩) (fun x cs hx hcs => ?_) | refine CondS_d (fun h => ?_) (fun h => ?_) | refine CondS_b (fun h => ?_) (fun h => ?_) | refine GrdS_d (fun h => ?_) (fun h => ?_) | refine GrdS_b (fun h => ?_) (fun h => ?_) | refine OkS_i (by omega) ?_ | fail)
theorem anyEx {a b : Int} : ∃ p : Pt, a = p.f0 ∧ b = p.f1 ∧ anyP p := ⟨⟨a, b⟩, rfl, rfl, trivial⟩
theorem f44 : FnR Tryz.prog 44 true false [] (fun v => ∃ p : Pt, v = .agg (cp p) ∧ anyP p) := by
  refine FnR.by_sxC hX (by kernel_rfl) c44 rfl rfl rfl (fun _ v => by rintro ⟨x, rfl, _⟩; rfl) ?_
  intro cs hcs
  simp [i44, sxa, isPtrN, PV.pcs, elAt, setEl, inAt, elIn, setIn, isLst, cellsOf, Ex.ok, Ex.val, Opd.val, POp.dst, bin_int, binOK_int, bin_str, binOK_str, resOK, resV, RB.val, sub, putc, scB, scL, oneB, conf, Ex.val.eqP, Ex.val.eqL, negV, mxV, mnV, ← wr_eq, wr_zero, wr_one, wr_m1, bst_lst, byteC, partsOK, putAll, appV, nilV, slV, sslV, optB, optNum, and_assoc, exists_and_left, exists_eq_left']
  repeat' (first | intro _ | (simp [sxa, isPtrN, PV.pcs, elAt, setEl, inAt, elIn, setIn, isLst, cellsOf, Ex.ok, Ex.val, Opd.val, POp.dst, bin_int, binOK_int, bin_str, binOK_str, resOK, resV, RB.val, sub, putc, scB, scL, oneB, conf, Ex.val.eqP, Ex.val.eqL, negV, mxV, mnV, ← wr_eq, wr_zero, wr_one, wr_m1, bst_lst, byteC, partsOK, putAll, appV, nilV, slV, sslV, optB, optNum, and_assoc, exists_and_left, exists_eq_left', cp, *]) | refine ⟨by assumption, CopC_i (f62) (fun _ _ => by first | exact ⟨fun _ => rfl, (fun h => by cases h)⟩ | exact ⟨(fun h => by cases h), fun _ => ⟨_, rfl⟩⟩ | exact ⟨(fun h => by cases h), (fun h => by cases h)⟩) (fun x cs hx hcs => ?_)⟩ | refine ⟨by assumption, CopC_i (f28 12 (by omega)) (fun _ _ => by first | exact ⟨fun _ => rfl, (fun h => by cases h)⟩ | exact ⟨(fun h => by cases h), fun _ => ⟨_, rfl⟩⟩ | exact ⟨(fun h => by cases h), (fun h => by cases h)⟩) (fun x cs hx hcs => ?_)⟩ | refine ⟨by assumption, CopC_i (f65) (fun _ _ => by first | exact ⟨fun _ => rfl, (fun h => by cases h)⟩ | exact ⟨(fun h => by cases h), fun _ => ⟨_, rfl⟩⟩ | exact ⟨(fun h => by cases h), (fun h => by cases h)⟩) (fun x cs hx hcs => ?_)⟩ | refine CopC_i (f62) (fun _ _ => by first | exact ⟨fun _ => rfl, (fun h => by cases h)⟩ | exact ⟨(fun h => by cases h), fun _ => ⟨_, rfl⟩⟩ | exact ⟨(fun h => by cases h), (fun h => by cases h)⟩) (fun x cs hx hcs => ?_) | refine CopC_i (f28 12 (by omega)) (fun _ _ => by first | exact ⟨fun _ => rfl, (fun h => by cases h)⟩ | exact ⟨(fun h => by cases h), fun _ => ⟨_, rfl⟩⟩ | exact ⟨(fun h => by cases h), (fun h => by cases h)⟩) (fun x cs hx hcs => ?_) | refine CopC_i (f65) (fun _ _ => by first | exact ⟨fun _ => rfl, (fun h => by cases h)⟩ | exact ⟨(fun h => by cases h), fun _ => ⟨_, rfl⟩⟩ | exact ⟨(fun h => by cases h), (fun h => by cases h)⟩) (fun x cs hx hcs => ?_) | refine CondS_d (fun h => ?_) (fun h => ?_) | refine CondS_b (fun h => ?_) (fun h => ?_) | refine GrdS_d (fun h => ?_) (fun h => ?_) | refine GrdS_b (fun h => ?_) (fun h => ?_) | refine OkS_i (by omega) ?_ | fail)
  all_goals exact anyEx
def anyB (b : Bool) : Prop := True
theorem f24 (n : Int) (hn : n ≤ 16777215) : FnR Tryz.prog 24 true false [i n] (fun v => ∃ b : Bool, v = .bool b ∧ anyB b) := by
  refine FnR.by_sxC hX (by kernel_rfl) c24 rfl rfl rfl (fun _ v => by rintro ⟨x, rfl, _⟩; rfl) ?_
  intro cs hcs
  simp [i24, sxa, isPtrN, PV.pcs, elAt, setEl, inAt, elIn, setIn, isLst, cellsOf, Ex.ok, Ex.val, Opd.val, POp.dst, bin_int, binOK_int, bin_str, binOK_str, resOK, resV, RB.val, sub, putc, scB, scL, oneB, conf, Ex.val.eqP, Ex.val.eqL, negV, mxV, mnV, ← wr_eq, wr_zero, wr_one, wr_m1, bst_lst, byteC, partsOK, putAll, appV, nilV, slV, sslV, optB, optNum, and_assoc, exists_and_left, exists_eq_left']
  repeat' (first | intro _ | (simp [sxa, isPtrN, PV.pcs, elAt, setEl, inAt, elIn, setIn, isLst, cellsOf, Ex.ok, Ex.val, Opd.val, POp.dst, bin_int, binOK_int, bin_str, binOK_str, resOK, resV, RB.val, sub, putc, scB, scL, oneB, conf, Ex.val.eqP, Ex.val.eqL, negV, mxV, mnV, ← wr_eq, wr_zero, wr_one, wr_m1, bst_lst, byteC, partsOK, putAll, appV, nilV, slV, sslV, optB, optNum, and_assoc, exists_and_left, exists_eq_left', *]) | refine ⟨by assumption, CopC_i (f28 n hn) (fun _ _ => by first | exact ⟨fun _ => rfl, (fun h => by cases h)⟩ | exact ⟨(fun h => by cases h), fun _ => ⟨_, rfl⟩⟩ | exact ⟨(fun h => by cases h), (fun h => by cases h)⟩) (fun x cs hx hcs => ?_)⟩ | refine CopC_i (f28 n hn) (fun _ _ => by first | exact ⟨fun _ => rfl, (fun h => by cases h)⟩ | exact ⟨(fun h => by cases h), fun _ => ⟨_, rfl⟩⟩ | exact ⟨(fun h => by cases h), (fun h => by cases h)⟩) (fun x cs hx hcs => ?_) | refine CondS_d (fun h => ?_) (fun h => ?_) | refine CondS_b (fun h => ?_) (fun h => ?_) | refine GrdS_d (fun h => ?_) (fun h => ?_) | refine GrdS_b (fun h => ?_) (fun h => ?_) | refine OkS_i (by omega) ?_ | fail)
  by_cases h : x = 0
  · exact .inr ⟨h, trivial⟩
  · exact .inl ⟨h, trivial⟩
def szP (l : List Pt) : Prop := 0 < l.length ∧ l.length ≤ 6
theorem mapApp {l : List Pt} {a b : Int} : List.map cp l ++ [[i a, i b]] = List.map cp (l ++ [⟨a, b⟩]) := by simp [cp]
theorem f43 : FnR Tryz.prog 43 true true [] (fun v => ∃ l : List Pt, v = .lst 2 false (l.map cp) ∧ szP l) := by
  refine FnR.by_sxC hX (by kernel_rfl) c43 rfl rfl rfl (fun h => by cases h) ?_
  intro cs hcs
  simp [i43, sxa, isPtrN, PV.pcs, elAt, setEl, inAt, elIn, setIn, isLst, cellsOf, Ex.ok, Ex.val, Opd.val, POp.dst, bin_int, binOK_int, bin_str, binOK_str, resOK, resV, RB.val, sub, putc, scB, scL, oneB, conf, Ex.val.eqP, Ex.val.eqL, negV, mxV, mnV, ← wr_eq, wr_zero, wr_one, wr_m1, bst_lst, byteC, partsOK, putAll, appV, nilV, slV, sslV, optB, optNum, and_assoc, exists_and_left, exists_eq_left']
  repeat' (first | intro _ | (simp [sxa, isPtrN, PV.pcs, elAt, setEl, inAt, elIn, setIn, isLst, cellsOf, Ex.ok, Ex.val, Opd.val, POp.dst, bin_int, binOK_int, bin_str, binOK_str, resOK, resV, RB.val, sub, putc, scB, scL, oneB, conf, Ex.val.eqP, Ex.val.eqL, negV, mxV, mnV, ← wr_eq, wr_zero, wr_one, wr_m1, bst_lst, byteC, partsOK, putAll, appV, nilV, slV, sslV, optB, optNum, and_assoc, exists_and_left, exists_eq_left', cp, *]) | refine ⟨by assumption, CopC_i (f62) (fun _ _ => by first | exact ⟨fun _ => rfl, (fun h => by cases h)⟩ | exact ⟨(fun h => by cases h), fun _ => ⟨_, rfl⟩⟩ | exact ⟨(fun h => by cases h), (fun h => by cases h)⟩) (fun x cs hx hcs => ?_)⟩ | refine ⟨by assumption, CopC_i (f28 5 (by omega)) (fun _ _ => by first | exact ⟨fun _ => rfl, (fun h => by cases h)⟩ | exact ⟨(fun h => by cases h), fun _ => ⟨_, rfl⟩⟩ | exact ⟨(fun h => by cases h), (fun h => by cases h)⟩) (fun x cs hx hcs => ?_)⟩ | refine CopC_i (f62) (fun _ _ => by first | exact ⟨fun _ => rfl, (fun h => by cases h)⟩ | exact ⟨(fun h => by cases h), fun _ => ⟨_, rfl⟩⟩ | exact ⟨(fun h => by cases h), (fun h => by cases h)⟩) (fun x cs hx hcs => ?_) | refine CopC_i (f28 5 (by omega)) (fun _ _ => by first | exact ⟨fun _ => rfl, (fun h => by cases h)⟩ | exact ⟨(fun h => by cases h), fun _ => ⟨_, rfl⟩⟩ | exact ⟨(fun h => by cases h), (fun h => by cases h)⟩) (fun x cs hx hcs => ?_) | refine CondS_d (fun h => ?_) (fun h => ?_) | refine CondS_b (fun h => ?_) (fun h => ?_) | refine GrdS_d (fun h => ?_) (fun h => ?_) | refine GrdS_b (fun h => ?_) (fun h => ?_) | refine OkS_i (by omega) ?_ | fail)
  have hx5 := hx.2 (by omega)
  have hx0 := hx.1
  obtain ⟨N, rfl⟩ : ∃ N : Nat, x = N := ⟨x.toNat, by omega⟩
  have hw0 : wr .i64 (1 + (N : Int)) = ((N + 1 : Nat) : Int) := by rw [wr_in (by omega) (by omega)]; omega
  refine sx_down (fun m V => isCur (V 0) = true ∧ V 4 = i m ∧ ∃ l : List Pt, V 3 = .lst 2 false (l.map cp) ∧ 0 < l.length ∧ l.length + m ≤ 6) (N + 1) ⟨by simp [sxa, isPtrN, PV.pcs, elAt, setEl, inAt, elIn, setIn, isLst, cellsOf, Ex.ok, Ex.val, Opd.val, POp.dst, bin_int, binOK_int, bin_str, binOK_str, resOK, resV, RB.val, sub, putc, scB, scL, oneB, conf, Ex.val.eqP, Ex.val.eqL, negV, mxV, mnV, ← wr_eq, wr_zero, wr_one, wr_m1, bst_lst, byteC, partsOK, putAll, appV, nilV, slV, sslV, optB, optNum, and_assoc, exists_and_left, exists_eq_left', hcs], by simp [sxa, isPtrN, PV.pcs, elAt, setEl, inAt, elIn, setIn, isLst, cellsOf, Ex.ok, Ex.val, Opd.val, POp.dst, bin_int, binOK_int, bin_str, binOK_str, resOK, resV, RB.val, sub, putc, scB, scL, oneB, conf, Ex.val.eqP, Ex.val.eqL, negV, mxV, mnV, ← wr_eq, wr_zero, wr_one, wr_m1, bst_lst, byteC, partsOK, putAll, appV, nilV, slV, sslV, optB, optNum, and_assoc, exists_and_left, exists_eq_left', hw0], [x], by simp [sxa, isPtrN, PV.pcs, elAt, setEl, inAt, elIn, setIn, isLst, cellsOf, Ex.ok, Ex.val, Opd.val, POp.dst, bin_int, binOK_int, bin_str, binOK_str, resOK, resV, RB.val, sub, putc, scB, scL, oneB, conf, Ex.val.eqP, Ex.val.eqL, negV, mxV, mnV, ← wr_eq, wr_zero, wr_one, wr_m1, bst_lst, byteC, partsOK, putAll, appV, nilV, slV, sslV, optB, optNum, and_assoc, exists_and_left, exists_eq_left', cp], by simp, by simp; omega⟩ ?_
  clear hcs hw0
  rintro m V ⟨gc, g4, l, g3, hl0, hlm⟩
  simp [sxa, isPtrN, PV.pcs, elAt, setEl, inAt, elIn, setIn, isLst, cellsOf, Ex.ok, Ex.val, Opd.val, POp.dst, bin_int, binOK_int, bin_str, binOK_str, resOK, resV, RB.val, sub, putc, scB, scL, oneB, conf, Ex.val.eqP, Ex.val.eqL, negV, mxV, mnV, ← wr_eq, wr_zero, wr_one, wr_m1, bst_lst, byteC, partsOK, putAll, appV, nilV, slV, sslV, optB, optNum, and_assoc, exists_and_left, exists_eq_left', g4]
  refine CondS_d (fun hlt => ?_) (fun hge => ?_)
  · obtain ⟨q, rfl⟩ : ∃ q, m = q + 1 := ⟨m - 1, by omega⟩
    have hw1 : wr .i64 ((q : Int) + 1 - 1) = q := by rw [wr_in (by omega) (by omega)]; omega
    have hq1 : wr .i64 (q : Int) = q := wr_in (by omega) (by omega)
    have hw2 : wr .i64 ((l.length : Int) - 1) = ((l.length - 1 : Nat) : Int) := by rw [wr_in (by omega) (by omega)]; omega
    have hlast : l.length - 1 < l.length := by omega
    repeat' (first | intro _ | (simp [sxa, isPtrN, PV.pcs, elAt, setEl, inAt, elIn, setIn, isLst, cellsOf, Ex.ok, Ex.val, Opd.val, POp.dst, bin_int, binOK_int, bin_str, binOK_str, resOK, resV, RB.val, sub, putc, scB, scL, oneB, conf, Ex.val.eqP, Ex.val.eqL, negV, mxV, mnV, ← wr_eq, wr_zero, wr_one, wr_m1, bst_lst, byteC, partsOK, putAll, appV, nilV, slV, sslV, optB, optNum, and_assoc, exists_and_left, exists_eq_left', cp, *]) | refine ⟨by assumption, CopC_i (f28 14 (by omega)) (fun _ _ => by first | exact ⟨fun _ => rfl, (fun h => by cases h)⟩ | exact ⟨(fun h => by cases h), fun _ => ⟨_, rfl⟩⟩ | exact ⟨(fun h => by cases h), (fun h => by cases h)⟩) (fun x cs hx hcs => ?_)⟩ | refine ⟨by assumption, CopC_i (f28 4 (by omega)) (fun _ _ => by first | exact ⟨fun _ => rfl, (fun h => by cases h)⟩ | exact ⟨(fun h => by cases h), fun _ => ⟨_, rfl⟩⟩ | exact ⟨(fun h => by cases h), (fun h => by cases h)⟩) (fun x cs hx hcs => ?_)⟩ | refine CopC_i (f28 14 (by omega)) (fun _ _ => by first | exact ⟨fun _ => rfl, (fun h => by cases h)⟩ | exact ⟨(fun h => by cases h), fun _ => ⟨_, rfl⟩⟩ | exact ⟨(fun h => by cases h), (fun h => by cases h)⟩) (fun x cs hx hcs => ?_) | refine CopC_i (f28 4 (by omega)) (fun _ _ => by first | exact ⟨fun _ => rfl, (fun h => by cases h)⟩ | exact ⟨(fun h => by cases h), fun _ => ⟨_, rfl⟩⟩ | exact ⟨(fun h => by cases h), (fun h => by cases h)⟩) (fun x cs hx hcs => ?_) | refine CallS_i (f64 _ _) ?_ | refine CallM_i (f64 _ _) ?_ | refine CallE_i (f64 _ _) ?_ | refine CallX_i (f64 _ _) ?_ | refine CallB_i (f64 _ _) ?_ | refine CondS_d (fun h => ?_) (fun h => ?_) | refine CondS_b (fun h => ?_) (fun h => ?_) | refine GrdS_d (fun h => ?_) (fun h => ?_) | refine GrdS_b (fun h => ?_) (fun h => ?_) | refine OkS_i (by omega) ?_ | fail)
    all_goals exact ⟨q, by omega, rfl, _, mapApp, by simp, by simp; omega⟩
  · have : m = 0 := by omega
    subst this
    repeat' (first | intro _ | (simp [sxa, isPtrN, PV.pcs, elAt, setEl, inAt, elIn, setIn, isLst, cellsOf, Ex.ok, Ex.val, Opd.val, POp.dst, bin_int, binOK_int, bin_str, binOK_str, resOK, resV, RB.val, sub, putc, scB, scL, oneB, conf, Ex.val.eqP, Ex.val.eqL, negV, mxV, mnV, ← wr_eq, wr_zero, wr_one, wr_m1, bst_lst, byteC, partsOK, putAll, appV, nilV, slV, sslV, optB, optNum, and_assoc, exists_and_left, exists_eq_left', *]) | refine CondS_d (fun h => ?_) (fun h => ?_) | refine CondS_b (fun h => ?_) (fun h => ?_) | refine GrdS_d (fun h => ?_) (fun h => ?_) | refine GrdS_b (fun h => ?_) (fun h => ?_) | refine OkS_i (by omega) ?_ | fail)
    exact ⟨l, rfl, hl0, by omega⟩
theorem f80 (x y : Int) : Fn Tryz.prog 80 false [i x, i y] (.agg [i x, i y]) := by
  refine Fn.by_sx hX (by kernel_rfl) c80 (by kernel_rfl) (by rfl) ?_
  simp [i80, sxa, isPtrN, PV.pcs, elAt, setEl, inAt, elIn, setIn, isLst, cellsOf, Ex.ok, Ex.val, Opd.val, POp.dst, bin_int, binOK_int, bin_str, binOK_str, resOK, resV, RB.val, sub, putc, scB, scL, oneB, conf, Ex.val.eqP, Ex.val.eqL, negV, mxV, mnV, ← wr_eq, wr_zero, wr_one, wr_m1, bst_lst, byteC, partsOK, putAll, appV, nilV, slV, sslV, optB, optNum, and_assoc, exists_and_left, exists_eq_left']
theorem lst3 {a b c d e f : Int} : ∃ l : List Pt, [[i a, i b], [i c, i d], [i e, i f]] = l.map cp ∧ szP l := ⟨[⟨a, b⟩, ⟨c, d⟩, ⟨e, f⟩], rfl, by simp, by simp⟩
theorem lst4 {a b c d e f g h : Int} : ∃ l : List Pt, [[i a, i b], [i c, i d], [i e, i f], [i g, i h]] = l.map cp ∧ szP l := ⟨[⟨a, b⟩, ⟨c, d⟩, ⟨e, f⟩, ⟨g, h⟩], rfl, by simp, by simp⟩
theorem lst6 {a b c d e f g h k m n o : Int} : ∃ l : List Pt, [[i a, i b], [i c, i d], [i e, i f], [i g, i h], [i k, i m], [i n, i o]] = l.map cp ∧ szP l := ⟨[⟨a, b⟩, ⟨c, d⟩, ⟨e, f⟩, ⟨g, h⟩, ⟨k, m⟩, ⟨n, o⟩], rfl, by simp, by simp⟩
theorem f63 : FnR Tryz.prog 63 true true [] (fun v => ∃ l : List Pt, v = .lst 2 false (l.map cp) ∧ szP l) := by
  refine FnR.by_sxC hX (by kernel_rfl) c63 rfl rfl rfl (fun h => by cases h) ?_
  intro cs hcs
  simp [i63, sxa, isPtrN, PV.pcs, elAt, setEl, inAt, elIn, setIn, isLst, cellsOf, Ex.ok, Ex.val, Opd.val, POp.dst, bin_int, binOK_int, bin_str, binOK_str, resOK, resV, RB.val, sub, putc, scB, scL, oneB, conf, Ex.val.eqP, Ex.val.eqL, negV, mxV, mnV, ← wr_eq, wr_zero, wr_one, wr_m1, bst_lst, byteC, partsOK, putAll, appV, nilV, slV, sslV, optB, optNum, and_assoc, exists_and_left, exists_eq_left']
  repeat' (first | intro _ | (simp [sxa, isPtrN, PV.pcs, elAt, setEl, inAt, elIn, setIn, isLst, cellsOf, Ex.ok, Ex.val, Opd.val, POp.dst, bin_int, binOK_int, bin_str, binOK_str, resOK, resV, RB.val, sub, putc, scB, scL, oneB, conf, Ex.val.eqP, Ex.val.eqL, negV, mxV, mnV, ← wr_eq, wr_zero, wr_one, wr_m1, bst_lst, byteC, partsOK, putAll, appV, nilV, slV, sslV, optB, optNum, and_assoc, exists_and_left, exists_eq_left', *]) | refine ⟨by assumption, CopC_i (f28 8 (by omega)) (fun _ _ => by first | exact ⟨fun _ => rfl, (fun h => by cases h)⟩ | exact ⟨(fun h => by cases h), fun _ => ⟨_, rfl⟩⟩ | exact ⟨(fun h => by cases h), (fun h => by cases h)⟩) (fun x cs hx hcs => ?_)⟩ | refine ⟨by assumption, CopC_i (f28 6 (by omega)) (fun _ _ => by first | exact ⟨fun _ => rfl, (fun h => by cases h)⟩ | exact ⟨(fun h => by cases h), fun _ => ⟨_, rfl⟩⟩ | exact ⟨(fun h => by cases h), (fun h => by cases h)⟩) (fun x cs hx hcs => ?_)⟩ | refine ⟨by assumption, CopC_i (f28 4 (by omega)) (fun _ _ => by first | exact ⟨fun _ => rfl, (fun h => by cases h)⟩ | exact ⟨(fun h => by cases h), fun _ => ⟨_, rfl⟩⟩ | exact ⟨(fun h => by cases h), (fun h => by cases h)⟩) (fun x cs hx hcs => ?_)⟩ | refine CopC_i (f28 8 (by omega)) (fun _ _ => by first | exact ⟨fun _ => rfl, (fun h => by cases h)⟩ | exact ⟨(fun h => by cases h), fun _ => ⟨_, rfl⟩⟩ | exact ⟨(fun h => by cases h), (fun h => by cases h)⟩) (fun x cs hx hcs => ?_) | refine CopC_i (f28 6 (by omega)) (fun _ _ => by first | exact ⟨fun _ => rfl, (fun h => by cases h)⟩ | exact ⟨(fun h => by cases h), fun _ => ⟨_, rfl⟩⟩ | exact ⟨(fun h => by cases h), (fun h => by cases h)⟩) (fun x cs hx hcs => ?_) | refine CopC_i (f28 4 (by omega)) (fun _ _ => by first | exact ⟨fun _ => rfl, (fun h => by cases h)⟩ | exact ⟨(fun h => by cases h), fun _ => ⟨_, rfl⟩⟩ | exact ⟨(fun h => by cases h), (fun h => by cases h)⟩) (fun x cs hx hcs => ?_) | refine CallS_i (f80 _ _) ?_ | refine CallM_i (f80 _ _) ?_ | refine CallE_i (f80 _ _) ?_ | refine CallX_i (f80 _ _) ?_ | refine CallB_i (f80 _ _) ?_ | refine CondS_d (fun h => ?_) (fun h => ?_) | refine CondS_b (fun h => ?_) (fun h => ?_) | refine GrdS_d (fun h => ?_) (fun h => ?_) | refine GrdS_b (fun h => ?_) (fun h => ?_) | refine OkS_i (by omega) ?_ | fail)
  all_goals first | exact lst3 | exact lst4 | exact lst6
def nmL : List ByteArray := [bs [], bs [102, 111, 114, 100], bs [104, 105, 108, 108], bs [109, 105, 108, 108], bs [111, 97, 107], bs [108, 97, 107, 101], bs [105, 110, 110]]
def smS (s : ByteArray) : Prop := s.size ≤ 9
theorem nm_all : ∀ s ∈ nmL, smS s := by
  intro s hs
  unfold nmL at hs
  simp only [List.mem_cons, List.not_mem_nil, or_false] at hs
  rcases hs with rfl | rfl | rfl | rfl | rfl | rfl | rfl <;> (unfold smS; decide)
theorem FnR.weak {P : Program} {f : Nat} {cur lin : Bool} {args : List PV} {R R' : PV → Prop} (h : FnR P f cur lin args R) (hr : ∀ v, R v → R' v) : FnR P f cur lin args R' := by
  refine ⟨h.1, fun w xs Fs a b c => ?_⟩
  have h := h.2 w xs Fs a b c
  cases cur with
  | true =>
    simp only [if_true] at h ⊢
    intro x0 bb F1 d e f g j
    refine (h x0 bb F1 d e f g j).mono ?_
    rintro e' w' ⟨h1, x, F', res, h2, h3, h4⟩
    exact ⟨h1, x, F', res, h2, hr _ h3, h4⟩
  | false =>
    simp only [Bool.false_eq_true, if_false] at h ⊢
    refine h.mono ?_
    rintro e' w' ⟨x, F', res, h2, h3, h4⟩
    exact ⟨x, F', res, h2, hr _ h3, h4⟩
theorem f61 : FnR Tryz.prog 61 true false [] (fun v => ∃ s : ByteArray, v = .str s ∧ smS s) := by
  have hc : FnR Tryz.prog 29 true false [.lst 1 false [[.str (bs [])], [.str (bs [102, 111, 114, 100])], [.str (bs [104, 105, 108, 108])], [.str (bs [109, 105, 108, 108])], [.str (bs [111, 97, 107])], [.str (bs [108, 97, 107, 101])], [.str (bs [105, 110, 110])]]] (fun v => ∃ s : ByteArray, v = .str s ∧ smS s) :=
    (f29 nmL false (by decide) (by decide)).weak (fun v ⟨s, h, hs⟩ => ⟨s, h, nm_all s hs⟩)
  refine FnR.by_sxC hX (by kernel_rfl) c61 rfl rfl rfl (fun _ v => by rintro ⟨x, rfl, _⟩; rfl) ?_
  intro cs hcs
  simp [i61, sxa, isPtrN, PV.pcs, elAt, setEl, inAt, elIn, setIn, isLst, cellsOf, Ex.ok, Ex.val, Opd.val, POp.dst, bin_int, binOK_int, bin_str, binOK_str, resOK, resV, RB.val, sub, putc, scB, scL, oneB, conf, Ex.val.eqP, Ex.val.eqL, negV, mxV, mnV, ← wr_eq, wr_zero, wr_one, wr_m1, bst_lst, byteC, partsOK, putAll, appV, nilV, slV, sslV, optB, optNum, and_assoc, exists_and_left, exists_eq_left']
  repeat' (first | intro _ | (simp [sxa, isPtrN, PV.pcs, elAt, setEl, inAt, elIn, setIn, isLst, cellsOf, Ex.ok, Ex.val, Opd.val, POp.dst, bin_int, binOK_int, bin_str, binOK_str, resOK, resV, RB.val, sub, putc, scB, scL, oneB, conf, Ex.val.eqP, Ex.val.eqL, negV, mxV, mnV, ← wr_eq, wr_zero, wr_one, wr_m1, bst_lst, byteC, partsOK, putAll, appV, nilV, slV, sslV, optB, optNum, and_assoc, exists_and_left, exists_eq_left', *]) | refine ⟨by assumption, CopC_i (hc) (fun _ _ => by first | exact ⟨fun _ => rfl, (fun h => by cases h)⟩ | exact ⟨(fun h => by cases h), fun _ => ⟨_, rfl⟩⟩ | exact ⟨(fun h => by cases h), (fun h => by cases h)⟩) (fun x cs hx hcs => ?_)⟩ | refine CopC_i (hc) (fun _ _ => by first | exact ⟨fun _ => rfl, (fun h => by cases h)⟩ | exact ⟨(fun h => by cases h), fun _ => ⟨_, rfl⟩⟩ | exact ⟨(fun h => by cases h), (fun h => by cases h)⟩) (fun x cs hx hcs => ?_) | refine CondS_d (fun h => ?_) (fun h => ?_) | refine CondS_b (fun h => ?_) (fun h => ?_) | refine GrdS_d (fun h => ?_) (fun h => ?_) | refine GrdS_b (fun h => ?_) (fun h => ?_) | refine OkS_i (by omega) ?_ | fail)
/-! features -/
def goodF (x : Ft) : Prop := (x.f3.size ≤ 9 ∧ x.f4.length ≤ 20) ∧ x.nl = false
theorem goodF.ok {x : Ft} (h : goodF x) : x.okay := ⟨by have := h.1.1; omega, by have := h.1.2; omega⟩
theorem goodF.frg {x : Ft} (h : goodF x) : goodF x.fr := ⟨h.1, rfl⟩
theorem ftEx {a b c : Int} {s : ByteArray} {l : List Pt} (hs : smS s) (hl : szP l) : ∃ x : Ft, [i a, i b, i c, .str s, .lst 2 false (l.map cp)] = ft x ∧ goodF x := ⟨⟨a, b, c, s, l, false⟩, rfl, ⟨hs, by have := hl.2; show l.length ≤ 20; omega⟩, rfl⟩
theorem ftEx1 {a b c p q : Int} {s : ByteArray} (hs : smS s) : ∃ x : Ft, [i a, i b, i c, .str s, .lst 2 false [[i p, i q]]] = ft x ∧ goodF x := ⟨⟨a, b, c, s, [⟨p, q⟩], false⟩, rfl, ⟨hs, by simp⟩, rfl⟩
theorem f41 (id : Int) : FnR Tryz.prog 41 true true [i id] (fun v => ∃ x : Ft, v = .agg (ft x) ∧ goodF x) := by
  refine FnR.by_sxC hX (by kernel_rfl) c41 rfl rfl rfl (fun h => by cases h) ?_
  intro cs hcs
  simp [i41, sxa, isPtrN, PV.pcs, elAt, setEl, inAt, elIn, setIn, isLst, cellsOf, Ex.ok, Ex.val, Opd.val, POp.dst, bin_int, binOK_int, bin_str, binOK_str, resOK, resV, RB.val, sub, putc, scB, scL, oneB, conf, Ex.val.eqP, Ex.val.eqL, negV, mxV, mnV, ← wr_eq, wr_zero, wr_one, wr_m1, bst_lst, byteC, partsOK, putAll, appV, nilV, slV, sslV, optB, optNum, and_assoc, exists_and_left, exists_eq_left']
  repeat' (first | intro _ | (simp [sxa, isPtrN, PV.pcs, elAt, setEl, inAt, elIn, setIn, isLst, cellsOf, Ex.ok, Ex.val, Opd.val, POp.dst, bin_int, binOK_int, bin_str, binOK_str, resOK, resV, RB.val, sub, putc, scB, scL, oneB, conf, Ex.val.eqP, Ex.val.eqL, negV, mxV, mnV, ← wr_eq, wr_zero, wr_one, wr_m1, bst_lst, byteC, partsOK, putAll, appV, nilV, slV, sslV, optB, optNum, and_assoc, exists_and_left, exists_eq_left', cp, *]) | refine ⟨by assumption, CopC_i (f28 3 (by omega)) (fun _ _ => by first | exact ⟨fun _ => rfl, (fun h => by cases h)⟩ | exact ⟨(fun h => by cases h), fun _ => ⟨_, rfl⟩⟩ | exact ⟨(fun h => by cases h), (fun h => by cases h)⟩) (fun x cs hx hcs => ?_)⟩ | refine ⟨by assumption, CopC_i (f28 6 (by omega)) (fun _ _ => by first | exact ⟨fun _ => rfl, (fun h => by cases h)⟩ | exact ⟨(fun h => by cases h), fun _ => ⟨_, rfl⟩⟩ | exact ⟨(fun h => by cases h), (fun h => by cases h)⟩) (fun x cs hx hcs => ?_)⟩ | refine ⟨by assumption, CopC_i (f61) (fun _ _ => by first | exact ⟨fun _ => rfl, (fun h => by cases h)⟩ | exact ⟨(fun h => by cases h), fun _ => ⟨_, rfl⟩⟩ | exact ⟨(fun h => by cases h), (fun h => by cases h)⟩) (fun x cs hx hcs => ?_)⟩ | refine ⟨by assumption, CopC_i (f62) (fun _ _ => by first | exact ⟨fun _ => rfl, (fun h => by cases h)⟩ | exact ⟨(fun h => by cases h), fun _ => ⟨_, rfl⟩⟩ | exact ⟨(fun h => by cases h), (fun h => by cases h)⟩) (fun x cs hx hcs => ?_)⟩ | refine ⟨by assumption, CopC_i (f43) (fun _ _ => by first | exact ⟨fun _ => rfl, (fun h => by cases h)⟩ | exact ⟨(fun h => by cases h), fun _ => ⟨_, rfl⟩⟩ | exact ⟨(fun h => by cases h), (fun h => by cases h)⟩) (fun x cs hx hcs => ?_)⟩ | refine ⟨by assumption, CopC_i (f63) (fun _ _ => by first | exact ⟨fun _ => rfl, (fun h => by cases h)⟩ | exact ⟨(fun h => by cases h), fun _ => ⟨_, rfl⟩⟩ | exact ⟨(fun h => by cases h), (fun h => by cases h)⟩) (fun x cs hx hcs => ?_)⟩ | refine CopC_i (f28 3 (by omega)) (fun _ _ => by first | exact ⟨fun _ => rfl, (fun h => by cases h)⟩ | exact ⟨(fun h => by cases h), fun _ => ⟨_, rfl⟩⟩ | exact ⟨(fun h => by cases h), (fun h => by cases h)⟩) (fun x cs hx hcs => ?_) | refine CopC_i (f28 6 (by omega)) (fun _ _ => by first | exact ⟨fun _ => rfl, (fun h => by cases h)⟩ | exact ⟨(fun h => by cases h), fun _ => ⟨_, rfl⟩⟩ | exact ⟨(fun h => by cases h), (fun h => by cases h)⟩) (fun x cs hx hcs => ?_) | refine CopC_i (f61) (fun _ _ => by first | exact ⟨fun _ => rfl, (fun h => by cases h)⟩ | exact ⟨(fun h => by cases h), fun _ => ⟨_, rfl⟩⟩ | exact ⟨(fun h => by cases h), (fun h => by cases h)⟩) (fun x cs hx hcs => ?_) | refine CopC_i (f62) (fun _ _ => by first | exact ⟨fun _ => rfl, (fun h => by cases h)⟩ | exact ⟨(fun h => by cases h), fun _ => ⟨_, rfl⟩⟩ | exact ⟨(fun h => by cases h), (fun h => by cases h)⟩) (fun x cs hx hcs => ?_) | refine CopC_i (f43) (fun _ _ => by first | exact ⟨fun _ => rfl, (fun h => by cases h)⟩ | exact ⟨(fun h => by cases h), fun _ => ⟨_, rfl⟩⟩ | exact ⟨(fun h => by cases h), (fun h => by cases h)⟩) (fun x cs hx hcs => ?_) | refine CopC_i (f63) (fun _ _ => by first | exact ⟨fun _ => rfl, (fun h => by cases h)⟩ | exact ⟨(fun h => by cases h), fun _ => ⟨_, rfl⟩⟩ | exact ⟨(fun h => by cases h), (fun h => by cases h)⟩) (fun x cs hx hcs => ?_) | refine CondS_d (fun h => ?_) (fun h => ?_) | refine CondS_b (fun h => ?_) (fun h => ?_) | refine GrdS_d (fun h => ?_) (fun h => ?_) | refine GrdS_b (fun h => ?_) (fun h => ?_) | refine OkS_i (by omega) ?_ | fail)
  all_goals first | exact ftEx1 (by assumption) | exact ftEx (by assumption) (by assumption)
end Go.Eng
namespace Go.Eng
open Go Go.Proofs
set_option linter.unusedSimpArgs false
set_option linter.unusedVariables false
set_option maxRecDepth 20000
set_option maxHeartbeats 1000000

/-! lists of features and of numbers: sizes, copies, what is read as it was -/
end Go.Eng
namespace Go.Eng
open Go Go.Proofs Geo
set_option linter.unusedSimpArgs false
set_option linter.unusedVariables false
set_option maxRecDepth 20000
set_option maxHeartbeats 1000000

/-! lengths -/
/-! the first that is found -/
def firstFrom (ok : Nat → Bool) : Nat → Nat → Int
  | 0, _ => -1
  | d + 1, i => if ok i = true then i else firstFrom ok d (i + 1)
theorem firstFrom_step {ok : Nat → Bool} {n N : Nat} (h : n < N) : firstFrom ok (N - n) n = if ok n = true then (n : Int) else firstFrom ok (N - (n + 1)) (n + 1) := by
  rw [show N - n = (N - (n + 1)) + 1 by omega]; rfl
theorem firstFrom_end {ok : Nat → Bool} {N : Nat} : firstFrom ok (N - N) N = -1 := by rw [Nat.sub_self]; rfl
theorem firstFrom_bound {ok : Nat → Bool} : ∀ d n : Nat, -1 ≤ firstFrom ok d n ∧ firstFrom ok d n < (n : Int) + d
  | 0, n => ⟨by simp [firstFrom], by simp [firstFrom]; omega⟩
  | d + 1, n => by
    unfold firstFrom
    split
    · omega
    · have := firstFrom_bound (ok := ok) d (n + 1)
      omega
def ftD : Ft := ⟨0, 0, 0, ⟨#[]⟩, [], true⟩
def hasId (l : List Ft) (id : Int) (n : Nat) : Bool := decide ((l.getD n ftD).f0 = id)
def wFind (l : List Ft) (id : Int) : Int := firstFrom (hasId l id) (l.length - 0) 0
theorem wFind_bound (l : List Ft) (id : Int) : -1 ≤ wFind l id ∧ wFind l id < l.length := by
  have := firstFrom_bound (ok := hasId l id) (l.length - 0) 0
  unfold wFind
  omega
theorem f57 (l : List Ft) (nl : Bool) (id : Int) (hl : l.length ≤ 1000000000000) : Fn Tryz.prog 57 false [.lst 5 nl (l.map ft), i id] (i (wFind l id)) := by
  refine Fn.by_sx hX (by kernel_rfl) c57 (by kernel_rfl) (by rfl) ?_
  simp [i57, sxa, isPtrN, PV.pcs, elAt, setEl, inAt, elIn, setIn, isLst, cellsOf, Ex.ok, Ex.val, Opd.val, POp.dst, bin_int, binOK_int, bin_str, binOK_str, resOK, resV, RB.val, sub, putc, scB, scL, oneB, conf, Ex.val.eqP, Ex.val.eqL, negV, mxV, mnV, ← wr_eq, wr_zero, wr_one, wr_m1, bst_lst, byteC, partsOK, putAll, appV, nilV, slV, sslV, optB, optNum, and_assoc, exists_and_left, exists_eq_left']
  refine sx_count l.length (fun n V => V 0 = .lst 5 nl (l.map ft) ∧ V 1 = i id ∧ V 5 = i n ∧ wFind l id = firstFrom (hasId l id) (l.length - n) n) 0 (by omega) (by simp [sxa, isPtrN, PV.pcs, elAt, setEl, inAt, elIn, setIn, isLst, cellsOf, Ex.ok, Ex.val, Opd.val, POp.dst, bin_int, binOK_int, bin_str, binOK_str, resOK, resV, RB.val, sub, putc, scB, scL, oneB, conf, Ex.val.eqP, Ex.val.eqL, negV, mxV, mnV, ← wr_eq, wr_zero, wr_one, wr_m1, bst_lst, byteC, partsOK, putAll, appV, nilV, slV, sslV, optB, optNum, and_assoc, exists_and_left, exists_eq_left']; rfl) ?_
  rintro n V hn ⟨h0, h1, h5, hf⟩
  have hw : wr .i64 ((n : Int) + 1) = n + 1 := wr_in (by omega) (by omega)
  simp [sxa, isPtrN, PV.pcs, elAt, setEl, inAt, elIn, setIn, isLst, cellsOf, Ex.ok, Ex.val, Opd.val, POp.dst, bin_int, binOK_int, bin_str, binOK_str, resOK, resV, RB.val, sub, putc, scB, scL, oneB, conf, Ex.val.eqP, Ex.val.eqL, negV, mxV, mnV, ← wr_eq, wr_zero, wr_one, wr_m1, bst_lst, byteC, partsOK, putAll, appV, nilV, slV, sslV, optB, optNum, and_assoc, exists_and_left, exists_eq_left', h0, h5]
  refine CondS_d (fun hlt => ?_) (fun hge => ?_)
  · have hlt' : n < l.length := by omega
    rw [firstFrom_step hlt'] at hf
    have hr : hasId l id n = decide (l[n].f0 = id) := by simp [hasId, hlt']
    rw [hr] at hf
    by_cases he : l[n].f0 = id
    · simp only [he, decide_true, if_true] at hf
      repeat' (first | intro _ | (simp [sxa, isPtrN, PV.pcs, elAt, setEl, inAt, elIn, setIn, isLst, cellsOf, Ex.ok, Ex.val, Opd.val, POp.dst, bin_int, binOK_int, bin_str, binOK_str, resOK, resV, RB.val, sub, putc, scB, scL, oneB, conf, Ex.val.eqP, Ex.val.eqL, negV, mxV, mnV, ← wr_eq, wr_zero, wr_one, wr_m1, bst_lst, byteC, partsOK, putAll, appV, nilV, slV, sslV, optB, optNum, and_assoc, exists_and_left, exists_eq_left', ft, *]) | refine CondS_d (fun h => ?_) (fun h => ?_) | refine CondS_b (fun h => ?_) (fun h => ?_) | refine GrdS_d (fun h => ?_) (fun h => ?_) | refine GrdS_b (fun h => ?_) (fun h => ?_) | refine OkS_i (by omega) ?_ | fail)
    · simp only [he, decide_false, Bool.false_eq_true, if_false] at hf
      repeat' (first | intro _ | (simp [sxa, isPtrN, PV.pcs, elAt, setEl, inAt, elIn, setIn, isLst, cellsOf, Ex.ok, Ex.val, Opd.val, POp.dst, bin_int, binOK_int, bin_str, binOK_str, resOK, resV, RB.val, sub, putc, scB, scL, oneB, conf, Ex.val.eqP, Ex.val.eqL, negV, mxV, mnV, ← wr_eq, wr_zero, wr_one, wr_m1, bst_lst, byteC, partsOK, putAll, appV, nilV, slV, sslV, optB, optNum, and_assoc, exists_and_left, exists_eq_left', ft, *]) | refine CondS_d (fun h => ?_) (fun h => ?_) | refine CondS_b (fun h => ?_) (fun h => ?_) | refine GrdS_d (fun h => ?_) (fun h => ?_) | refine GrdS_b (fun h => ?_) (fun h => ?_) | refine OkS_i (by omega) ?_ | fail)
  · have : n = l.length := by omega
    subst this
    rw [firstFrom_end] at hf
    repeat' (first | intro _ | (simp [sxa, isPtrN, PV.pcs, elAt, setEl, inAt, elIn, setIn, isLst, cellsOf, Ex.ok, Ex.val, Opd.val, POp.dst, bin_int, binOK_int, bin_str, binOK_str, resOK, resV, RB.val, sub, putc, scB, scL, oneB, conf, Ex.val.eqP, Ex.val.eqL, negV, mxV, mnV, ← wr_eq, wr_zero, wr_one, wr_m1, bst_lst, byteC, partsOK, putAll, appV, nilV, slV, sslV, optB, optNum, and_assoc, exists_and_left, exists_eq_left', *]) | refine CondS_d (fun h => ?_) (fun h => ?_) | refine CondS_b (fun h => ?_) (fun h => ?_) | refine GrdS_d (fun h => ?_) (fun h => ?_) | refine GrdS_b (fun h => ?_) (fun h => ?_) | refine OkS_i (by omega) ?_ | fail)
theorem f69 (x : Ft) (id : Int) : Fn Tryz.prog 69 false [.agg (ft x), .ptr [i id]] (.bool (decide (x.f0 = id))) := by
  unfold ft
  refine Fn.by_sx hX (by kernel_rfl) c69 (by kernel_rfl) (by rfl) ?_
  simp [i69, sxa, isPtrN, PV.pcs, elAt, setEl, inAt, elIn, setIn, isLst, cellsOf, Ex.ok, Ex.val, Opd.val, POp.dst, bin_int, binOK_int, bin_str, binOK_str, resOK, resV, RB.val, sub, putc, scB, scL, oneB, conf, Ex.val.eqP, Ex.val.eqL, negV, mxV, mnV, ← wr_eq, wr_zero, wr_one, wr_m1, bst_lst, byteC, partsOK, putAll, appV, nilV, slV, sslV, optB, optNum, and_assoc, exists_and_left, exists_eq_left']
theorem f68 (l : List Ft) (nl : Bool) (id : Int) (hl : l.length ≤ 1000000000000) : Fn Tryz.prog 68 false [.lst 5 nl (l.map ft), .fn 69 [.ptr [i id]]] (i (wFind l id)) := by
  refine Fn.by_sx hX (by kernel_rfl) c68 (by kernel_rfl) (by rfl) ?_
  simp [i68, sxa, isPtrN, PV.pcs, elAt, setEl, inAt, elIn, setIn, isLst, cellsOf, Ex.ok, Ex.val, Opd.val, POp.dst, bin_int, binOK_int, bin_str, binOK_str, resOK, resV, RB.val, sub, putc, scB, scL, oneB, conf, Ex.val.eqP, Ex.val.eqL, negV, mxV, mnV, ← wr_eq, wr_zero, wr_one, wr_m1, bst_lst, byteC, partsOK, putAll, appV, nilV, slV, sslV, optB, optNum, and_assoc, exists_and_left, exists_eq_left']
  refine sx_count l.length (fun n V => V 0 = .lst 5 nl (l.map ft) ∧ V 1 = .fn 69 [.ptr [i id]] ∧ V 7 = i l.length ∧ V 8 = i n ∧ firstFrom (hasId l id) (l.length - n) n = wFind l id) 0 (by omega) (by simp [sxa, isPtrN, PV.pcs, elAt, setEl, inAt, elIn, setIn, isLst, cellsOf, Ex.ok, Ex.val, Opd.val, POp.dst, bin_int, binOK_int, bin_str, binOK_str, resOK, resV, RB.val, sub, putc, scB, scL, oneB, conf, Ex.val.eqP, Ex.val.eqL, negV, mxV, mnV, ← wr_eq, wr_zero, wr_one, wr_m1, bst_lst, byteC, partsOK, putAll, appV, nilV, slV, sslV, optB, optNum, and_assoc, exists_and_left, exists_eq_left']; rfl) ?_
  rintro n V hn ⟨h0, h1, h7, h8, hf⟩
  have hw : wr .i64 ((n : Int) + 1) = n + 1 := wr_in (by omega) (by omega)
  simp [sxa, isPtrN, PV.pcs, elAt, setEl, inAt, elIn, setIn, isLst, cellsOf, Ex.ok, Ex.val, Opd.val, POp.dst, bin_int, binOK_int, bin_str, binOK_str, resOK, resV, RB.val, sub, putc, scB, scL, oneB, conf, Ex.val.eqP, Ex.val.eqL, negV, mxV, mnV, ← wr_eq, wr_zero, wr_one, wr_m1, bst_lst, byteC, partsOK, putAll, appV, nilV, slV, sslV, optB, optNum, and_assoc, exists_and_left, exists_eq_left', h7, h8]
  refine CondS_d (fun hlt => ?_) (fun hge => ?_)
  · have hlt' : n < l.length := by omega
    rw [firstFrom_step hlt'] at hf
    have hr : hasId l id n = decide (l[n].f0 = id) := by simp [hasId, hlt']
    have hc := f69 l[n] id
    rw [← hr] at hc
    clear hr
    unfold ft at hc
    repeat' (first | intro _ | (simp [sxa, isPtrN, PV.pcs, elAt, setEl, inAt, elIn, setIn, isLst, cellsOf, Ex.ok, Ex.val, Opd.val, POp.dst, bin_int, binOK_int, bin_str, binOK_str, resOK, resV, RB.val, sub, putc, scB, scL, oneB, conf, Ex.val.eqP, Ex.val.eqL, negV, mxV, mnV, ← wr_eq, wr_zero, wr_one, wr_m1, bst_lst, byteC, partsOK, putAll, appV, nilV, slV, sslV, optB, optNum, and_assoc, exists_and_left, exists_eq_left', ft, *]) | refine CondS_d (fun h => ?_) (fun h => ?_) | refine CondS_b (fun h => ?_) (fun h => ?_) | refine GrdS_d (fun h => ?_) (fun h => ?_) | refine GrdS_b (fun h => ?_) (fun h => ?_) | refine OkS_i (by omega) ?_ | fail)
    refine CallvS_b (by simpa using hc) (fun h => ?_) (fun h => ?_)
    · rw [h] at hf
      simp only [if_true] at hf
      repeat' (first | intro _ | (simp [sxa, isPtrN, PV.pcs, elAt, setEl, inAt, elIn, setIn, isLst, cellsOf, Ex.ok, Ex.val, Opd.val, POp.dst, bin_int, binOK_int, bin_str, binOK_str, resOK, resV, RB.val, sub, putc, scB, scL, oneB, conf, Ex.val.eqP, Ex.val.eqL, negV, mxV, mnV, ← wr_eq, wr_zero, wr_one, wr_m1, bst_lst, byteC, partsOK, putAll, appV, nilV, slV, sslV, optB, optNum, and_assoc, exists_and_left, exists_eq_left', *]) | refine CondS_d (fun h => ?_) (fun h => ?_) | refine CondS_b (fun h => ?_) (fun h => ?_) | refine GrdS_d (fun h => ?_) (fun h => ?_) | refine GrdS_b (fun h => ?_) (fun h => ?_) | refine OkS_i (by omega) ?_ | fail)
    · rw [h] at hf
      simp only [Bool.false_eq_true, if_false] at hf
      repeat' (first | intro _ | (simp [sxa, isPtrN, PV.pcs, elAt, setEl, inAt, elIn, setIn, isLst, cellsOf, Ex.ok, Ex.val, Opd.val, POp.dst, bin_int, binOK_int, bin_str, binOK_str, resOK, resV, RB.val, sub, putc, scB, scL, oneB, conf, Ex.val.eqP, Ex.val.eqL, negV, mxV, mnV, ← wr_eq, wr_zero, wr_one, wr_m1, bst_lst, byteC, partsOK, putAll, appV, nilV, slV, sslV, optB, optNum, and_assoc, exists_and_left, exists_eq_left', *]) | refine CondS_d (fun h => ?_) (fun h => ?_) | refine CondS_b (fun h => ?_) (fun h => ?_) | refine GrdS_d (fun h => ?_) (fun h => ?_) | refine GrdS_b (fun h => ?_) (fun h => ?_) | refine OkS_i (by omega) ?_ | fail)
  · have : n = l.length := by omega
    subst this
    rw [firstFrom_end] at hf
    repeat' (first | intro _ | (simp [sxa, isPtrN, PV.pcs, elAt, setEl, inAt, elIn, setIn, isLst, cellsOf, Ex.ok, Ex.val, Opd.val, POp.dst, bin_int, binOK_int, bin_str, binOK_str, resOK, resV, RB.val, sub, putc, scB, scL, oneB, conf, Ex.val.eqP, Ex.val.eqL, negV, mxV, mnV, ← wr_eq, wr_zero, wr_one, wr_m1, bst_lst, byteC, partsOK, putAll, appV, nilV, slV, sslV, optB, optNum, and_assoc, exists_and_left, exists_eq_left', *]) | refine CondS_d (fun h => ?_) (fun h => ?_) | refine CondS_b (fun h => ?_) (fun h => ?_) | refine GrdS_d (fun h => ?_) (fun h => ?_) | refine GrdS_b (fun h => ?_) (fun h => ?_) | refine OkS_i (by omega) ?_ | fail)
theorem f48 (l : List Ft) (nl : Bool) (id : Int) (hl : l.length ≤ 1000000000000) : Fn Tryz.prog 48 false [.lst 5 nl (l.map ft), i id] (i (wFind l id)) := by
  refine Fn.by_sx hX (by kernel_rfl) c48 (by kernel_rfl) (by rfl) ?_
  simp [i48, sxa, isPtrN, PV.pcs, elAt, setEl, inAt, elIn, setIn, isLst, cellsOf, Ex.ok, Ex.val, Opd.val, POp.dst, bin_int, binOK_int, bin_str, binOK_str, resOK, resV, RB.val, sub, putc, scB, scL, oneB, conf, Ex.val.eqP, Ex.val.eqL, negV, mxV, mnV, ← wr_eq, wr_zero, wr_one, wr_m1, bst_lst, byteC, partsOK, putAll, appV, nilV, slV, sslV, optB, optNum, and_assoc, exists_and_left, exists_eq_left']
  repeat' (first | intro _ | (simp [sxa, isPtrN, PV.pcs, elAt, setEl, inAt, elIn, setIn, isLst, cellsOf, Ex.ok, Ex.val, Opd.val, POp.dst, bin_int, binOK_int, bin_str, binOK_str, resOK, resV, RB.val, sub, putc, scB, scL, oneB, conf, Ex.val.eqP, Ex.val.eqL, negV, mxV, mnV, ← wr_eq, wr_zero, wr_one, wr_m1, bst_lst, byteC, partsOK, putAll, appV, nilV, slV, sslV, optB, optNum, and_assoc, exists_and_left, exists_eq_left', *]) | refine CallS_i (f68 l nl id hl) ?_ | refine CondS_d (fun h => ?_) (fun h => ?_) | refine CondS_b (fun h => ?_) (fun h => ?_) | refine GrdS_d (fun h => ?_) (fun h => ?_) | refine GrdS_b (fun h => ?_) (fun h => ?_) | refine OkS_i (by omega) ?_ | fail)
end Go.Eng
namespace Go.Eng
open Go Go.Proofs Geo
set_option linter.unusedSimpArgs false
set_option linter.unusedVariables false
set_option maxRecDepth 20000
set_option maxHeartbeats 1000000

/-! the length of a way -/
def ints (l : List Int) : List (List PV) := l.map fun m => [i m]
theorem find_cases (l : List Ft) (id : Int) : wFind l id = -1 ∨ ∃ k : Nat, wFind l id = k ∧ k < l.length := by
  have := wFind_bound l id
  rcases Int.lt_or_le (wFind l id) 0 with h | h
  · left; omega
  · right; exact ⟨(wFind l id).toNat, by omega, by omega⟩
end Go.Eng
namespace Go.Eng
open Go Go.Proofs Geo
set_option linter.unusedSimpArgs false
set_option linter.unusedVariables false
set_option maxRecDepth 20000
set_option maxHeartbeats 1000000

/-! a source, and a way -/
def srcAt (l : List Ft) (n : Nat) : Bool := wFeat (l.getD n ftD) && !(decide (0 < n) && decide ((l.getD n ftD).f0 ≤ (l.getD (n - 1) ftD).f0))
def wSrc (l : List Ft) : Bool := decide (l.length ≤ 16) && allTo (srcAt l) l.length
theorem f60 (l : List Ft) (nl : Bool) (hl : l.length ≤ 1000000000000) (hb : ∀ x ∈ l, x.okay) : Fn Tryz.prog 60 false [.lst 5 nl (l.map ft)] (.bool (wSrc l)) := by
  refine Fn.by_sx hX (by kernel_rfl) c60 (by kernel_rfl) (by rfl) ?_
  simp [i60, sxa, isPtrN, PV.pcs, elAt, setEl, inAt, elIn, setIn, isLst, cellsOf, Ex.ok, Ex.val, Opd.val, POp.dst, bin_int, binOK_int, bin_str, binOK_str, resOK, resV, RB.val, sub, putc, scB, scL, oneB, conf, Ex.val.eqP, Ex.val.eqL, negV, mxV, mnV, ← wr_eq, wr_zero, wr_one, wr_m1, bst_lst, byteC, partsOK, putAll, appV, nilV, slV, sslV, optB, optNum, and_assoc, exists_and_left, exists_eq_left']
  refine sx_count l.length (fun n V => V 0 = .lst 5 nl (l.map ft) ∧ V 3 = i n ∧ allTo (srcAt l) n = true) 0 (by omega) (by simp [sxa, isPtrN, PV.pcs, elAt, setEl, inAt, elIn, setIn, isLst, cellsOf, Ex.ok, Ex.val, Opd.val, POp.dst, bin_int, binOK_int, bin_str, binOK_str, resOK, resV, RB.val, sub, putc, scB, scL, oneB, conf, Ex.val.eqP, Ex.val.eqL, negV, mxV, mnV, ← wr_eq, wr_zero, wr_one, wr_m1, bst_lst, byteC, partsOK, putAll, appV, nilV, slV, sslV, optB, optNum, and_assoc, exists_and_left, exists_eq_left', allTo_zero]) ?_
  rintro n V hn ⟨h0, h3, ha⟩
  simp [sxa, isPtrN, PV.pcs, elAt, setEl, inAt, elIn, setIn, isLst, cellsOf, Ex.ok, Ex.val, Opd.val, POp.dst, bin_int, binOK_int, bin_str, binOK_str, resOK, resV, RB.val, sub, putc, scB, scL, oneB, conf, Ex.val.eqP, Ex.val.eqL, negV, mxV, mnV, ← wr_eq, wr_zero, wr_one, wr_m1, bst_lst, byteC, partsOK, putAll, appV, nilV, slV, sslV, optB, optNum, and_assoc, exists_and_left, exists_eq_left', h0, h3]
  refine CondS_d (fun hlt => ?_) (fun hge => ?_)
  · have hlt' : n < l.length := by omega
    have hbad : srcAt l n = false → wSrc l = false := fun h => by simp [wSrc, allTo_bad hlt' h]
    have hok : l[n].okay := hb _ (List.getElem_mem ..)
    have hc := f78 l[n] hok
    rcases Nat.eq_zero_or_pos n with rfl | hpos
    · repeat' (first | intro _ | (simp [sxa, isPtrN, PV.pcs, elAt, setEl, inAt, elIn, setIn, isLst, cellsOf, Ex.ok, Ex.val, Opd.val, POp.dst, bin_int, binOK_int, bin_str, binOK_str, resOK, resV, RB.val, sub, putc, scB, scL, oneB, conf, Ex.val.eqP, Ex.val.eqL, negV, mxV, mnV, ← wr_eq, wr_zero, wr_one, wr_m1, bst_lst, byteC, partsOK, putAll, appV, nilV, slV, sslV, optB, optNum, and_assoc, exists_and_left, exists_eq_left', ft, allTo_succ, *]) | refine CallS_b (hc) (fun h => ?_) (fun h => ?_) | refine CondS_d (fun h => ?_) (fun h => ?_) | refine CondS_b (fun h => ?_) (fun h => ?_) | refine GrdS_d (fun h => ?_) (fun h => ?_) | refine GrdS_b (fun h => ?_) (fun h => ?_) | refine OkS_i (by omega) ?_ | fail)
      all_goals first | (apply hbad; simp_all [srcAt]; done) | simp_all [srcAt]
    · have hw : wr .i64 ((n : Int) + 1) = n + 1 := wr_in (by omega) (by omega)
      have hw2 : wr .i64 ((n : Int) - 1) = ((n - 1 : Nat) : Int) := wrap_down n hpos (by omega)
      have hpos' : (0 : Int) < n := by omega
      have hm : n - 1 < l.length := by omega
      repeat' (first | intro _ | (simp [sxa, isPtrN, PV.pcs, elAt, setEl, inAt, elIn, setIn, isLst, cellsOf, Ex.ok, Ex.val, Opd.val, POp.dst, bin_int, binOK_int, bin_str, binOK_str, resOK, resV, RB.val, sub, putc, scB, scL, oneB, conf, Ex.val.eqP, Ex.val.eqL, negV, mxV, mnV, ← wr_eq, wr_zero, wr_one, wr_m1, bst_lst, byteC, partsOK, putAll, appV, nilV, slV, sslV, optB, optNum, and_assoc, exists_and_left, exists_eq_left', ft, allTo_succ, *]) | refine CallS_b (hc) (fun h => ?_) (fun h => ?_) | refine CondS_d (fun h => ?_) (fun h => ?_) | refine CondS_b (fun h => ?_) (fun h => ?_) | refine GrdS_d (fun h => ?_) (fun h => ?_) | refine GrdS_b (fun h => ?_) (fun h => ?_) | refine OkS_i (by omega) ?_ | fail)
      all_goals first | (apply hbad; simp_all [srcAt]; done) | simp_all [srcAt]
      all_goals omega
  · have : n = l.length := by omega
    subst this
    repeat' (first | intro _ | (simp [sxa, isPtrN, PV.pcs, elAt, setEl, inAt, elIn, setIn, isLst, cellsOf, Ex.ok, Ex.val, Opd.val, POp.dst, bin_int, binOK_int, bin_str, binOK_str, resOK, resV, RB.val, sub, putc, scB, scL, oneB, conf, Ex.val.eqP, Ex.val.eqL, negV, mxV, mnV, ← wr_eq, wr_zero, wr_one, wr_m1, bst_lst, byteC, partsOK, putAll, appV, nilV, slV, sslV, optB, optNum, and_assoc, exists_and_left, exists_eq_left', *]) | refine CondS_d (fun h => ?_) (fun h => ?_) | refine CondS_b (fun h => ?_) (fun h => ?_) | refine GrdS_d (fun h => ?_) (fun h => ?_) | refine GrdS_b (fun h => ?_) (fun h => ?_) | refine OkS_i (by omega) ?_ | fail)
    all_goals simp_all [wSrc]
    all_goals omega
theorem f20 (l : List Ft) (nl : Bool) (hl : l.length ≤ 1000000000000) (hb : ∀ x ∈ l, x.okay) : Fn Tryz.prog 20 false [.lst 5 nl (l.map ft)] (.bool (wSrc l)) := by
  refine Fn.by_sx hX (by kernel_rfl) c20 (by kernel_rfl) (by rfl) ?_
  simp [i20, sxa, isPtrN, PV.pcs, elAt, setEl, inAt, elIn, setIn, isLst, cellsOf, Ex.ok, Ex.val, Opd.val, POp.dst, bin_int, binOK_int, bin_str, binOK_str, resOK, resV, RB.val, sub, putc, scB, scL, oneB, conf, Ex.val.eqP, Ex.val.eqL, negV, mxV, mnV, ← wr_eq, wr_zero, wr_one, wr_m1, bst_lst, byteC, partsOK, putAll, appV, nilV, slV, sslV, optB, optNum, and_assoc, exists_and_left, exists_eq_left']
  by_cases hL : (l.length : Int) > 16
  · have hf : wSrc l = false := by simp [wSrc]; omega
    repeat' (first | intro _ | (simp [sxa, isPtrN, PV.pcs, elAt, setEl, inAt, elIn, setIn, isLst, cellsOf, Ex.ok, Ex.val, Opd.val, POp.dst, bin_int, binOK_int, bin_str, binOK_str, resOK, resV, RB.val, sub, putc, scB, scL, oneB, conf, Ex.val.eqP, Ex.val.eqL, negV, mxV, mnV, ← wr_eq, wr_zero, wr_one, wr_m1, bst_lst, byteC, partsOK, putAll, appV, nilV, slV, sslV, optB, optNum, and_assoc, exists_and_left, exists_eq_left', *]) | refine CondS_d (fun h => ?_) (fun h => ?_) | refine CondS_b (fun h => ?_) (fun h => ?_) | refine GrdS_d (fun h => ?_) (fun h => ?_) | refine GrdS_b (fun h => ?_) (fun h => ?_) | refine OkS_i (by omega) ?_ | fail)
  have hL' : l.length ≤ 16 := by omega
  repeat' (first | intro _ | (simp [sxa, isPtrN, PV.pcs, elAt, setEl, inAt, elIn, setIn, isLst, cellsOf, Ex.ok, Ex.val, Opd.val, POp.dst, bin_int, binOK_int, bin_str, binOK_str, resOK, resV, RB.val, sub, putc, scB, scL, oneB, conf, Ex.val.eqP, Ex.val.eqL, negV, mxV, mnV, ← wr_eq, wr_zero, wr_one, wr_m1, bst_lst, byteC, partsOK, putAll, appV, nilV, slV, sslV, optB, optNum, and_assoc, exists_and_left, exists_eq_left', *]) | refine CondS_d (fun h => ?_) (fun h => ?_) | refine CondS_b (fun h => ?_) (fun h => ?_) | refine GrdS_d (fun h => ?_) (fun h => ?_) | refine GrdS_b (fun h => ?_) (fun h => ?_) | refine OkS_i (by omega) ?_ | fail)
  refine sx_count l.length (fun n V => V 0 = .lst 5 nl (l.map ft) ∧ V 8 = .lst 5 nl (l.map ft) ∧ V 9 = i l.length ∧ V 10 = i n ∧ allTo (srcAt l) n = true) 0 (by omega) (by simp [sxa, isPtrN, PV.pcs, elAt, setEl, inAt, elIn, setIn, isLst, cellsOf, Ex.ok, Ex.val, Opd.val, POp.dst, bin_int, binOK_int, bin_str, binOK_str, resOK, resV, RB.val, sub, putc, scB, scL, oneB, conf, Ex.val.eqP, Ex.val.eqL, negV, mxV, mnV, ← wr_eq, wr_zero, wr_one, wr_m1, bst_lst, byteC, partsOK, putAll, appV, nilV, slV, sslV, optB, optNum, and_assoc, exists_and_left, exists_eq_left', allTo_zero]) ?_
  rintro n V hn ⟨h0, h8, h9, h10, ha⟩
  simp [sxa, isPtrN, PV.pcs, elAt, setEl, inAt, elIn, setIn, isLst, cellsOf, Ex.ok, Ex.val, Opd.val, POp.dst, bin_int, binOK_int, bin_str, binOK_str, resOK, resV, RB.val, sub, putc, scB, scL, oneB, conf, Ex.val.eqP, Ex.val.eqL, negV, mxV, mnV, ← wr_eq, wr_zero, wr_one, wr_m1, bst_lst, byteC, partsOK, putAll, appV, nilV, slV, sslV, optB, optNum, and_assoc, exists_and_left, exists_eq_left', h9, h10]
  refine CondS_d (fun hlt => ?_) (fun hge => ?_)
  · have hlt' : n < l.length := by omega
    have hbad : srcAt l n = false → wSrc l = false := fun h => by simp [wSrc, allTo_bad hlt' h]
    have hok : l[n].okay := hb _ (List.getElem_mem ..)
    have hc := f35 l[n] hok
    rcases Nat.eq_zero_or_pos n with rfl | hpos
    · repeat' (first | intro _ | (simp [sxa, isPtrN, PV.pcs, elAt, setEl, inAt, elIn, setIn, isLst, cellsOf, Ex.ok, Ex.val, Opd.val, POp.dst, bin_int, binOK_int, bin_str, binOK_str, resOK, resV, RB.val, sub, putc, scB, scL, oneB, conf, Ex.val.eqP, Ex.val.eqL, negV, mxV, mnV, ← wr_eq, wr_zero, wr_one, wr_m1, bst_lst, byteC, partsOK, putAll, appV, nilV, slV, sslV, optB, optNum, and_assoc, exists_and_left, exists_eq_left', ft, allTo_succ, *]) | refine CallS_b (hc) (fun h => ?_) (fun h => ?_) | refine CondS_d (fun h => ?_) (fun h => ?_) | refine CondS_b (fun h => ?_) (fun h => ?_) | refine GrdS_d (fun h => ?_) (fun h => ?_) | refine GrdS_b (fun h => ?_) (fun h => ?_) | refine OkS_i (by omega) ?_ | fail)
      all_goals first | (apply hbad; simp_all [srcAt]; done) | simp_all [srcAt]
    · have hw : wr .i64 ((n : Int) + 1) = n + 1 := wr_in (by omega) (by omega)
      have hw2 : wr .i64 ((n : Int) - 1) = ((n - 1 : Nat) : Int) := wrap_down n hpos (by omega)
      have hpos' : (0 : Int) < n := by omega
      have hm : n - 1 < l.length := by omega
      repeat' (first | intro _ | (simp [sxa, isPtrN, PV.pcs, elAt, setEl, inAt, elIn, setIn, isLst, cellsOf, Ex.ok, Ex.val, Opd.val, POp.dst, bin_int, binOK_int, bin_str, binOK_str, resOK, resV, RB.val, sub, putc, scB, scL, oneB, conf, Ex.val.eqP, Ex.val.eqL, negV, mxV, mnV, ← wr_eq, wr_zero, wr_one, wr_m1, bst_lst, byteC, partsOK, putAll, appV, nilV, slV, sslV, optB, optNum, and_assoc, exists_and_left, exists_eq_left', ft, allTo_succ, *]) | refine CallS_b (hc) (fun h => ?_) (fun h => ?_) | refine CondS_d (fun h => ?_) (fun h => ?_) | refine CondS_b (fun h => ?_) (fun h => ?_) | refine GrdS_d (fun h => ?_) (fun h => ?_) | refine GrdS_b (fun h => ?_) (fun h => ?_) | refine OkS_i (by omega) ?_ | fail)
      all_goals first | (apply hbad; simp_all [srcAt]; done) | simp_all [srcAt]
      all_goals omega
  · have : n = l.length := by omega
    subst this
    repeat' (first | intro _ | (simp [sxa, isPtrN, PV.pcs, elAt, setEl, inAt, elIn, setIn, isLst, cellsOf, Ex.ok, Ex.val, Opd.val, POp.dst, bin_int, binOK_int, bin_str, binOK_str, resOK, resV, RB.val, sub, putc, scB, scL, oneB, conf, Ex.val.eqP, Ex.val.eqL, negV, mxV, mnV, ← wr_eq, wr_zero, wr_one, wr_m1, bst_lst, byteC, partsOK, putAll, appV, nilV, slV, sslV, optB, optNum, and_assoc, exists_and_left, exists_eq_left', *]) | refine CondS_d (fun h => ?_) (fun h => ?_) | refine CondS_b (fun h => ?_) (fun h => ?_) | refine GrdS_d (fun h => ?_) (fun h => ?_) | refine GrdS_b (fun h => ?_) (fun h => ?_) | refine OkS_i (by omega) ?_ | fail)
    all_goals simp_all [wSrc]
theorem allTo_at {ok : Nat → Bool} {n N : Nat} (h : allTo ok N = true) (hn : n < N) : ok n = true := by
  cases hb : ok n with
  | true => rfl
  | false => rw [allTo_bad hn hb] at h; cases h
def pe (p q : Pt) : Bool := decide (p.f0 = q.f0) && decide (p.f1 = q.f1)
def endA (x : Ft) : Pt := x.f4.getD 0 ⟨0, 0⟩
def endB (x : Ft) : Pt := x.f4.getD (x.f4.length - 1) ⟨0, 0⟩
def hopF (x : Ft) (rank : Int) (p : Pt) : Option Pt := if x.f1 = 2 ∧ ¬ x.f2 < rank then (if pe p (endA x) = true then some (endB x) else if pe p (endB x) = true then some (endA x) else none) else none
def hop (l : List Ft) (rank : Int) (p : Pt) (id : Int) : Option Pt := if wFind l id < 0 then none else hopF (l.getD (wFind l id).toNat ftD) rank p
end Go.Eng
namespace Go.Eng
open Go Go.Proofs Geo
set_option linter.unusedSimpArgs false
set_option linter.unusedVariables false
set_option maxRecDepth 20000
set_option maxHeartbeats 1000000

/-! marks. WRITES -/
end Go.Eng
namespace Go.Eng
open Go Go.Proofs Geo
set_option linter.unusedSimpArgs false
set_option linter.unusedVariables false
set_option maxRecDepth 20000
set_option maxHeartbeats 1000000

/-! marks of features. WRITES -/
end Go.Eng
namespace Go.Eng
open Go Go.Proofs Geo
set_option linter.unusedSimpArgs false
set_option linter.unusedVariables false
set_option maxRecDepth 20000
set_option maxHeartbeats 1000000

end Go.Eng
namespace Go.Eng
open Go Go.Proofs Geo
set_option linter.unusedSimpArgs false
set_option linter.unusedVariables false
set_option maxRecDepth 20000
set_option maxHeartbeats 1000000

/-! the source of a log. WRITES -/
theorem cp_sc3 (l : List Pt) : (∀ a ∈ l, scL (cp a) = true) = True := by simp only [eq_iff_iff, iff_true]; exact fun _ _ => rfl
theorem f54 (x : Ft) (hx : x.f4.length ≤ 1000000000) : Fn Tryz.prog 54 true [.agg (ft x)] (.agg (ft x.fr)) := by
  have hs := cp_sc3 x.f4
  unfold ft Ft.fr
  refine Fn.by_sx hX (by kernel_rfl) c54 (by kernel_rfl) (by rfl) ?_
  simp [i54, sxa, isPtrN, PV.pcs, elAt, setEl, inAt, elIn, setIn, isLst, cellsOf, Ex.ok, Ex.val, Opd.val, POp.dst, bin_int, binOK_int, bin_str, binOK_str, resOK, resV, RB.val, sub, putc, scB, scL, oneB, conf, Ex.val.eqP, Ex.val.eqL, negV, mxV, mnV, ← wr_eq, wr_zero, wr_one, wr_m1, bst_lst, byteC, partsOK, putAll, appV, nilV, slV, sslV, optB, optNum, and_assoc, exists_and_left, exists_eq_left']
  repeat' (first | intro _ | (simp [sxa, isPtrN, PV.pcs, elAt, setEl, inAt, elIn, setIn, isLst, cellsOf, Ex.ok, Ex.val, Opd.val, POp.dst, bin_int, binOK_int, bin_str, binOK_str, resOK, resV, RB.val, sub, putc, scB, scL, oneB, conf, Ex.val.eqP, Ex.val.eqL, negV, mxV, mnV, ← wr_eq, wr_zero, wr_one, wr_m1, bst_lst, byteC, partsOK, putAll, appV, nilV, slV, sslV, optB, optNum, and_assoc, exists_and_left, exists_eq_left', *]) | refine CondS_d (fun h => ?_) (fun h => ?_) | refine CondS_b (fun h => ?_) (fun h => ?_) | refine GrdS_d (fun h => ?_) (fun h => ?_) | refine GrdS_b (fun h => ?_) (fun h => ?_) | refine OkS_i (by omega) ?_ | fail)
  all_goals omega
theorem f45 (l : List Pt) (hl : l.length ≤ 1000000000) : Fn Tryz.prog 45 true [.lst 2 false (l.map cp)] (.lst 2 false (l.map cp)) := by
  have hs := cp_sc3 l
  refine Fn.by_sx hX (by kernel_rfl) c45 (by kernel_rfl) (by rfl) ?_
  simp [i45, sxa, isPtrN, PV.pcs, elAt, setEl, inAt, elIn, setIn, isLst, cellsOf, Ex.ok, Ex.val, Opd.val, POp.dst, bin_int, binOK_int, bin_str, binOK_str, resOK, resV, RB.val, sub, putc, scB, scL, oneB, conf, Ex.val.eqP, Ex.val.eqL, negV, mxV, mnV, ← wr_eq, wr_zero, wr_one, wr_m1, bst_lst, byteC, partsOK, putAll, appV, nilV, slV, sslV, optB, optNum, and_assoc, exists_and_left, exists_eq_left']
  repeat' (first | intro _ | (simp [sxa, isPtrN, PV.pcs, elAt, setEl, inAt, elIn, setIn, isLst, cellsOf, Ex.ok, Ex.val, Opd.val, POp.dst, bin_int, binOK_int, bin_str, binOK_str, resOK, resV, RB.val, sub, putc, scB, scL, oneB, conf, Ex.val.eqP, Ex.val.eqL, negV, mxV, mnV, ← wr_eq, wr_zero, wr_one, wr_m1, bst_lst, byteC, partsOK, putAll, appV, nilV, slV, sslV, optB, optNum, and_assoc, exists_and_left, exists_eq_left', *]) | refine CondS_d (fun h => ?_) (fun h => ?_) | refine CondS_b (fun h => ?_) (fun h => ?_) | refine GrdS_d (fun h => ?_) (fun h => ?_) | refine GrdS_b (fun h => ?_) (fun h => ?_) | refine OkS_i (by omega) ?_ | fail)
  all_goals omega
theorem f31 (x : Ft) (hn : x.nl = false) (hx : x.f4.length ≤ 1000000000) : Fn Tryz.prog 31 true [.agg (ft x)] (.agg (ft x.fr)) := by
  have hc := f45 x.f4 hx
  unfold ft Ft.fr
  rw [hn]
  refine Fn.by_sx hX (by kernel_rfl) c31 (by kernel_rfl) (by rfl) ?_
  simp [i31, sxa, isPtrN, PV.pcs, elAt, setEl, inAt, elIn, setIn, isLst, cellsOf, Ex.ok, Ex.val, Opd.val, POp.dst, bin_int, binOK_int, bin_str, binOK_str, resOK, resV, RB.val, sub, putc, scB, scL, oneB, conf, Ex.val.eqP, Ex.val.eqL, negV, mxV, mnV, ← wr_eq, wr_zero, wr_one, wr_m1, bst_lst, byteC, partsOK, putAll, appV, nilV, slV, sslV, optB, optNum, and_assoc, exists_and_left, exists_eq_left']
  repeat' (first | intro _ | (simp [sxa, isPtrN, PV.pcs, elAt, setEl, inAt, elIn, setIn, isLst, cellsOf, Ex.ok, Ex.val, Opd.val, POp.dst, bin_int, binOK_int, bin_str, binOK_str, resOK, resV, RB.val, sub, putc, scB, scL, oneB, conf, Ex.val.eqP, Ex.val.eqL, negV, mxV, mnV, ← wr_eq, wr_zero, wr_one, wr_m1, bst_lst, byteC, partsOK, putAll, appV, nilV, slV, sslV, optB, optNum, and_assoc, exists_and_left, exists_eq_left', *]) | refine CallS_i (hc) ?_ | refine CallM_i (hc) ?_ | refine CallE_i (hc) ?_ | refine CallX_i (hc) ?_ | refine CallB_i (hc) ?_ | refine CondS_d (fun h => ?_) (fun h => ?_) | refine CondS_b (fun h => ?_) (fun h => ?_) | refine GrdS_d (fun h => ?_) (fun h => ?_) | refine GrdS_b (fun h => ?_) (fun h => ?_) | refine OkS_i (by omega) ?_ | fail)
end Go.Eng
namespace Go.Eng
open Go Go.Proofs Geo
set_option linter.unusedSimpArgs false
set_option linter.unusedVariables false
set_option maxRecDepth 20000
set_option maxHeartbeats 1000000

/-! edits: sizes, copies, what is read again, marks. WRITES -/
structure Ei where
  f0 : Int
  f1 : Ft
  f2 : Int
  f3 : Int
  f4 : Int
def Ei.fr (x : Ei) : Ei := { x with f1 := x.f1.fr }
end Go.Eng
namespace Go.Eng
open Go Go.Proofs Geo
set_option linter.unusedSimpArgs false
set_option linter.unusedVariables false
set_option maxRecDepth 20000
set_option maxHeartbeats 1000000

/-! copies of sources. WRITES -/
def frTo (l : List Ft) (n : Nat) : List Ft := (l.take n).map Ft.fr
theorem frTo_succ {l : List Ft} {n : Nat} (h : n < l.length) : frTo l (n + 1) = frTo l n ++ [l[n].fr] := by
  unfold frTo
  rw [List.take_add_one, List.getElem?_eq_getElem h, List.map_append]
  rfl
theorem frTo_all (l : List Ft) : frTo l l.length = l.map Ft.fr := by unfold frTo; rw [List.take_of_length_le (Nat.le_refl _)]
theorem frTo_len {l : List Ft} {n : Nat} (h : n ≤ l.length) : (frTo l n).length = n := by unfold frTo; simp; omega
theorem f37 (l : List Ft) (nl : Bool) (hl : l.length ≤ 1000000000) (hb : ∀ x ∈ l, x.f4.length ≤ 1000000000) : Fn Tryz.prog 37 true [.lst 5 nl (l.map ft)] (.lst 5 false ((l.map Ft.fr).map ft)) := by
  refine Fn.by_sx hX (by kernel_rfl) c37 (by kernel_rfl) (by rfl) ?_
  simp [i37, sxa, isPtrN, PV.pcs, elAt, setEl, inAt, elIn, setIn, isLst, cellsOf, Ex.ok, Ex.val, Opd.val, POp.dst, bin_int, binOK_int, bin_str, binOK_str, resOK, resV, RB.val, sub, putc, scB, scL, oneB, conf, Ex.val.eqP, Ex.val.eqL, negV, mxV, mnV, ← wr_eq, wr_zero, wr_one, wr_m1, bst_lst, byteC, partsOK, putAll, appV, nilV, slV, sslV, optB, optNum, and_assoc, exists_and_left, exists_eq_left']
  refine sx_count l.length (fun n V => V 0 = .lst 5 nl (l.map ft) ∧ V 4 = i n ∧ V 3 = .lst 5 false ((frTo l n).map ft)) 0 (by omega) (by simp [sxa, isPtrN, PV.pcs, elAt, setEl, inAt, elIn, setIn, isLst, cellsOf, Ex.ok, Ex.val, Opd.val, POp.dst, bin_int, binOK_int, bin_str, binOK_str, resOK, resV, RB.val, sub, putc, scB, scL, oneB, conf, Ex.val.eqP, Ex.val.eqL, negV, mxV, mnV, ← wr_eq, wr_zero, wr_one, wr_m1, bst_lst, byteC, partsOK, putAll, appV, nilV, slV, sslV, optB, optNum, and_assoc, exists_and_left, exists_eq_left', frTo]) ?_
  rintro n V hn ⟨h0, h4, h3⟩
  have hw : wr .i64 ((n : Int) + 1) = n + 1 := wr_in (by omega) (by omega)
  simp [sxa, isPtrN, PV.pcs, elAt, setEl, inAt, elIn, setIn, isLst, cellsOf, Ex.ok, Ex.val, Opd.val, POp.dst, bin_int, binOK_int, bin_str, binOK_str, resOK, resV, RB.val, sub, putc, scB, scL, oneB, conf, Ex.val.eqP, Ex.val.eqL, negV, mxV, mnV, ← wr_eq, wr_zero, wr_one, wr_m1, bst_lst, byteC, partsOK, putAll, appV, nilV, slV, sslV, optB, optNum, and_assoc, exists_and_left, exists_eq_left', h0, h4]
  refine CondS_d (fun hlt => ?_) (fun hge => ?_)
  · have hlt' : n < l.length := by omega
    have hnx := frTo_succ hlt'
    have hlen := frTo_len (l := l) (n := n) (by omega)
    have hc := f54 l[n] (hb _ (List.getElem_mem ..))
    unfold ft at hc
    repeat' (first | intro _ | (simp [sxa, isPtrN, PV.pcs, elAt, setEl, inAt, elIn, setIn, isLst, cellsOf, Ex.ok, Ex.val, Opd.val, POp.dst, bin_int, binOK_int, bin_str, binOK_str, resOK, resV, RB.val, sub, putc, scB, scL, oneB, conf, Ex.val.eqP, Ex.val.eqL, negV, mxV, mnV, ← wr_eq, wr_zero, wr_one, wr_m1, bst_lst, byteC, partsOK, putAll, appV, nilV, slV, sslV, optB, optNum, and_assoc, exists_and_left, exists_eq_left', ft, *]) | refine CallS_i (hc) ?_ | refine CallM_i (hc) ?_ | refine CallE_i (hc) ?_ | refine CallX_i (hc) ?_ | refine CallB_i (hc) ?_ | refine CondS_d (fun h => ?_) (fun h => ?_) | refine CondS_b (fun h => ?_) (fun h => ?_) | refine GrdS_d (fun h => ?_) (fun h => ?_) | refine GrdS_b (fun h => ?_) (fun h => ?_) | refine OkS_i (by omega) ?_ | fail)
    all_goals omega
  · have : n = l.length := by omega
    subst this
    have ha := frTo_all l
    repeat' (first | intro _ | (simp [sxa, isPtrN, PV.pcs, elAt, setEl, inAt, elIn, setIn, isLst, cellsOf, Ex.ok, Ex.val, Opd.val, POp.dst, bin_int, binOK_int, bin_str, binOK_str, resOK, resV, RB.val, sub, putc, scB, scL, oneB, conf, Ex.val.eqP, Ex.val.eqL, negV, mxV, mnV, ← wr_eq, wr_zero, wr_one, wr_m1, bst_lst, byteC, partsOK, putAll, appV, nilV, slV, sslV, optB, optNum, and_assoc, exists_and_left, exists_eq_left', *]) | refine CondS_d (fun h => ?_) (fun h => ?_) | refine CondS_b (fun h => ?_) (fun h => ?_) | refine GrdS_d (fun h => ?_) (fun h => ?_) | refine GrdS_b (fun h => ?_) (fun h => ?_) | refine OkS_i (by omega) ?_ | fail)
theorem f17 (l : List Ft) (nl : Bool) (hl : l.length ≤ 1000000000) (hb : ∀ x ∈ l, x.f4.length ≤ 1000000000) (hnn : ∀ x ∈ l, x.nl = false) : Fn Tryz.prog 17 true [.lst 5 nl (l.map ft)] (.lst 5 false ((l.map Ft.fr).map ft)) := by
  refine Fn.by_sx hX (by kernel_rfl) c17 (by kernel_rfl) (by rfl) ?_
  simp [i17, sxa, isPtrN, PV.pcs, elAt, setEl, inAt, elIn, setIn, isLst, cellsOf, Ex.ok, Ex.val, Opd.val, POp.dst, bin_int, binOK_int, bin_str, binOK_str, resOK, resV, RB.val, sub, putc, scB, scL, oneB, conf, Ex.val.eqP, Ex.val.eqL, negV, mxV, mnV, ← wr_eq, wr_zero, wr_one, wr_m1, bst_lst, byteC, partsOK, putAll, appV, nilV, slV, sslV, optB, optNum, and_assoc, exists_and_left, exists_eq_left']
  refine sx_count l.length (fun n V => V 7 = .lst 5 nl (l.map ft) ∧ V 8 = i l.length ∧ V 9 = i n ∧ V 3 = .lst 5 false ((frTo l n).map ft)) 0 (by omega) (by simp [sxa, isPtrN, PV.pcs, elAt, setEl, inAt, elIn, setIn, isLst, cellsOf, Ex.ok, Ex.val, Opd.val, POp.dst, bin_int, binOK_int, bin_str, binOK_str, resOK, resV, RB.val, sub, putc, scB, scL, oneB, conf, Ex.val.eqP, Ex.val.eqL, negV, mxV, mnV, ← wr_eq, wr_zero, wr_one, wr_m1, bst_lst, byteC, partsOK, putAll, appV, nilV, slV, sslV, optB, optNum, and_assoc, exists_and_left, exists_eq_left', frTo]) ?_
  rintro n V hn ⟨h7, h8, h9, h3⟩
  have hw : wr .i64 ((n : Int) + 1) = n + 1 := wr_in (by omega) (by omega)
  simp [sxa, isPtrN, PV.pcs, elAt, setEl, inAt, elIn, setIn, isLst, cellsOf, Ex.ok, Ex.val, Opd.val, POp.dst, bin_int, binOK_int, bin_str, binOK_str, resOK, resV, RB.val, sub, putc, scB, scL, oneB, conf, Ex.val.eqP, Ex.val.eqL, negV, mxV, mnV, ← wr_eq, wr_zero, wr_one, wr_m1, bst_lst, byteC, partsOK, putAll, appV, nilV, slV, sslV, optB, optNum, and_assoc, exists_and_left, exists_eq_left', h8, h9]
  refine CondS_d (fun hlt => ?_) (fun hge => ?_)
  · have hlt' : n < l.length := by omega
    have hnx := frTo_succ hlt'
    have hlen := frTo_len (l := l) (n := n) (by omega)
    have hc := f31 l[n] (hnn _ (List.getElem_mem ..)) (hb _ (List.getElem_mem ..))
    have hnn' := hnn _ (List.getElem_mem hlt')
    clear hnn
    unfold ft at hc
    rw [hnn'] at hc
    repeat' (first | intro _ | (simp [sxa, isPtrN, PV.pcs, elAt, setEl, inAt, elIn, setIn, isLst, cellsOf, Ex.ok, Ex.val, Opd.val, POp.dst, bin_int, binOK_int, bin_str, binOK_str, resOK, resV, RB.val, sub, putc, scB, scL, oneB, conf, Ex.val.eqP, Ex.val.eqL, negV, mxV, mnV, ← wr_eq, wr_zero, wr_one, wr_m1, bst_lst, byteC, partsOK, putAll, appV, nilV, slV, sslV, optB, optNum, and_assoc, exists_and_left, exists_eq_left', ft, *]) | refine CallS_i (hc) ?_ | refine CallM_i (hc) ?_ | refine CallE_i (hc) ?_ | refine CallX_i (hc) ?_ | refine CallB_i (hc) ?_ | refine CondS_d (fun h => ?_) (fun h => ?_) | refine CondS_b (fun h => ?_) (fun h => ?_) | refine GrdS_d (fun h => ?_) (fun h => ?_) | refine GrdS_b (fun h => ?_) (fun h => ?_) | refine OkS_i (by omega) ?_ | fail)
    all_goals omega
  · have : n = l.length := by omega
    subst this
    have ha := frTo_all l
    repeat' (first | intro _ | (simp [sxa, isPtrN, PV.pcs, elAt, setEl, inAt, elIn, setIn, isLst, cellsOf, Ex.ok, Ex.val, Opd.val, POp.dst, bin_int, binOK_int, bin_str, binOK_str, resOK, resV, RB.val, sub, putc, scB, scL, oneB, conf, Ex.val.eqP, Ex.val.eqL, negV, mxV, mnV, ← wr_eq, wr_zero, wr_one, wr_m1, bst_lst, byteC, partsOK, putAll, appV, nilV, slV, sslV, optB, optNum, and_assoc, exists_and_left, exists_eq_left', *]) | refine CondS_d (fun h => ?_) (fun h => ?_) | refine CondS_b (fun h => ?_) (fun h => ?_) | refine GrdS_d (fun h => ?_) (fun h => ?_) | refine GrdS_b (fun h => ?_) (fun h => ?_) | refine OkS_i (by omega) ?_ | fail)
end Go.Eng
namespace Go.Eng
open Go Go.Proofs Geo
set_option linter.unusedSimpArgs false
set_option linter.unusedVariables false
set_option maxRecDepth 20000
set_option maxHeartbeats 1000000

/-! the plain law of features put and taken -/
def wAtF : List Ft → Int → Nat
  | [], _ => 0
  | x :: r, id => if x.f0 < id then wAtF r id + 1 else 0
theorem wAtF_le : ∀ (l : List Ft) (id : Int), wAtF l id ≤ l.length
  | [], _ => Nat.le_refl _
  | x :: r, id => by have := wAtF_le r id; unfold wAtF; split <;> simp <;> omega
theorem wAtF_lt : ∀ {l : List Ft} {id : Int} {j : Nat} (hj : j < wAtF l id) (h : j < l.length), l[j].f0 < id
  | [], _, _, _, h => by simp at h
  | x :: r, id, 0, hj, h => by
    unfold wAtF at hj
    split at hj
    · assumption
    · omega
  | x :: r, id, j + 1, hj, h => by
    unfold wAtF at hj
    split at hj
    · exact wAtF_lt (l := r) (j := j) (by omega) (by simpa using h)
    · omega
theorem wAtF_stop : ∀ {l : List Ft} {id : Int} (h : wAtF l id < l.length), ¬ l[wAtF l id].f0 < id
  | [], _, h => by simp at h
  | x :: r, id, h => by
    by_cases hx : x.f0 < id
    · have e : wAtF (x :: r) id = wAtF r id + 1 := by simp [wAtF, hx]
      simp only [e, List.getElem_cons_succ]
      exact wAtF_stop (l := r) (by rw [e] at h; simpa using h)
    · have e : wAtF (x :: r) id = 0 := by simp [wAtF, hx]
      simp only [e, List.getElem_cons_zero]
      exact hx
def hitF (l : List Ft) (f : Ft) : Bool := decide (wAtF l f.f0 < l.length) && decide ((l.getD (wAtF l f.f0) ftD).f0 = f.f0)
def pfS (l : List Ft) (f : Ft) : List Ft := (l.take (wAtF l f.f0)).map Ft.fr ++ f.fr :: (l.drop (if hitF l f = true then wAtF l f.f0 + 1 else wAtF l f.f0)).map Ft.fr
end Go.Eng
