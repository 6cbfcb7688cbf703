/- A part of the proof of a law's statement: for every input the law returns true and leaves its arguments as they were. No condition beyond the statement's own. What each function computes. -/
import Derived.Test.YtjbjkhdflkmccaaPp2
set_option linter.unusedVariables false
set_option linter.unusedSimpArgs false
set_option autoImplicit true
set_option relaxedAutoImplicit true
namespace Go.Eng
open Go Go.Proofs Geo Go.RowKit
set_option linter.unusedSimpArgs false
set_option linter.unusedVariables false
set_option maxRecDepth 20000
set_option maxHeartbeats 1000000

/-! the law of applied edits. WRITES -/
theorem kTo_geF {l : List Ft} {B : Nat} (h : ∀ x ∈ l, x.f4.length ≤ B) : ∀ n : Nat, n ≤ l.length → ∀ k : Int, kTo l k n ≤ k + n * (4 + 2 * (B : Int)) := kTo_ge h
theorem wtLF_frF (l : List Ft) : wtLF (l.map Ft.fr) = wtLF l := by
  unfold wtLF wtToF
  rw [List.take_of_length_le (Nat.le_refl _), List.take_of_length_le (Nat.le_refl _), List.map_map, List.length_map]
  rfl
theorem wtLI_fr (l : List Ei) : wtLI (l.map Ei.fr) = wtLI l := by
  unfold wtLI wtToI
  rw [List.take_of_length_le (Nat.le_refl _), List.take_of_length_le (Nat.le_refl _), List.map_map, List.length_map]
  rfl
theorem apTo_k {l : List Ft} {es : List Ei} (n : Nat) (hn : n ≤ es.length) (hw : wtLF l ≤ 1048576) (hl : ∀ x ∈ l, x.neat) (he : ∀ x ∈ es, x.f1.neat) : kTo (apTo l es n) 1 (apTo l es n).length ≤ 1000000000 := by
  rcases apTo_good l es n with h | h
  · rw [h]
    have h1 := kTo_le (l.map Ft.fr) (l.map Ft.fr).length (Nat.le_refl _) 1
    have h2 := wtLF_frF l
    unfold wtLF at h2 hw
    rw [List.length_map] at h1 h2 ⊢
    omega
  · have hN := apTo_neat hl he n hn
    have h1 := kTo_geF (B := 1048576) (fun x hx => (hN x hx).2.1) (apTo l es n).length (Nat.le_refl _) 1
    have : ((apTo l es n).length : Int) * (4 + 2 * ((1048576 : Nat) : Int)) ≤ 16 * (4 + 2 * ((1048576 : Nat) : Int)) := Int.mul_le_mul_of_nonneg_right (by omega) (by omega)
    omega
theorem f12 (l : List Ft) (n1 : Bool) (s0 : List Ei) (n2 : Bool) (hl : l.length ≤ 9223372036854775807) (hx : ∀ x ∈ l, x.fits) (hls : s0.length ≤ 9223372036854775807) (hxs : ∀ x ∈ s0, x.f1.fits) :
    Fn Try.prog 12 false [.lst 5 n1 (l.map ft), .lst 9 n2 (s0.map ei)] (.bool true) := by
  refine Fn.by_sx hX (by kernel_rfl) c12 (by kernel_rfl) (by rfl) ?_
  simp [i12, sx_skip, sx_ops, sx_seq, sx_cond, sx_block, sx_exit, sx_ret, sx_mcall, sx_mcallx, sx_mcell, sx_mset, sx_mnset, elAt, setEl, inAt, elIn, setIn, isLst, cellsOf, sxl_nil, sxl_set, sxl_call, sxl_callv, sxl_g1, sxl_g2, sxl_g3, sxl_g4, OkS_true, GrdS_tt, GrdS_tf, GrdS_ft, GrdS_ff, CondS_t, CondS_f, then_n, then_e, then_r, blk_n, blk_e, blk_r, upd_app, Ex.ok, Ex.val, Opd.val, POp.dst, bin_int, binOK_int, bin_str, binOK_str, resOK, resV, RB.val, sub, putc, scB, scL, oneB, conf, Ex.val.eqP, Ex.val.eqL, negV, mxV, mnV, ← wr_eq, wr_zero, wr_one, wr_m1, bst_lst, byteC, partsOK, putAll, appV, nilV, slV, sslV, optB, optNum, and_assoc, exists_and_left, exists_eq_left']
  refine CallS_s (f14 l n1 1048576 (by omega) (by omega) hl hx) rfl ?_
  by_cases hbig : (1048576 : Int) - wtLF l < 0
  · have : szr 1048576 (wtLF l : Nat) = -1 := if_pos hbig
    rw [this]
    repeat' (first | intro _ | (simp [sx_skip, sx_ops, sx_seq, sx_cond, sx_block, sx_exit, sx_ret, sx_mcall, sx_mcallx, sx_mcell, sx_mset, sx_mnset, elAt, setEl, inAt, elIn, setIn, isLst, cellsOf, sxl_nil, sxl_set, sxl_call, sxl_callv, sxl_g1, sxl_g2, sxl_g3, sxl_g4, OkS_true, GrdS_tt, GrdS_tf, GrdS_ft, GrdS_ff, CondS_t, CondS_f, then_n, then_e, then_r, blk_n, blk_e, blk_r, upd_app, Ex.ok, Ex.val, Opd.val, POp.dst, bin_int, binOK_int, bin_str, binOK_str, resOK, resV, RB.val, sub, putc, scB, scL, oneB, conf, Ex.val.eqP, Ex.val.eqL, negV, mxV, mnV, ← wr_eq, wr_zero, wr_one, wr_m1, bst_lst, byteC, partsOK, putAll, appV, nilV, slV, sslV, optB, optNum, and_assoc, exists_and_left, exists_eq_left', *]) | refine CondS_d (fun h => ?_) (fun h => ?_) | refine CondS_b (fun h => ?_) (fun h => ?_) | refine GrdS_d (fun h => ?_) (fun h => ?_) | refine GrdS_b (fun h => ?_) (fun h => ?_) | refine OkS_i (by omega) ?_ | fail)
  have hz : szr 1048576 (wtLF l : Nat) = 1048576 - wtLF l := if_neg hbig
  rw [hz]
  have hnn : ¬ (1048576 : Int) - wtLF l < 0 := by omega
  simp [sx_skip, sx_ops, sx_seq, sx_cond, sx_block, sx_exit, sx_ret, sx_mcall, sx_mcallx, sx_mcell, sx_mset, sx_mnset, elAt, setEl, inAt, elIn, setIn, isLst, cellsOf, sxl_nil, sxl_set, sxl_call, sxl_callv, sxl_g1, sxl_g2, sxl_g3, sxl_g4, OkS_true, GrdS_tt, GrdS_tf, GrdS_ft, GrdS_ff, CondS_t, CondS_f, then_n, then_e, then_r, blk_n, blk_e, blk_r, upd_app, Ex.ok, Ex.val, Opd.val, POp.dst, bin_int, binOK_int, bin_str, binOK_str, resOK, resV, RB.val, sub, putc, scB, scL, oneB, conf, Ex.val.eqP, Ex.val.eqL, negV, mxV, mnV, ← wr_eq, wr_zero, wr_one, wr_m1, bst_lst, byteC, partsOK, putAll, appV, nilV, slV, sslV, optB, optNum, and_assoc, exists_and_left, exists_eq_left', hnn]
  refine CallS_s (f66 s0 n2 (1048576 - wtLF l) (by omega) (by omega) hls hxs) rfl ?_
  by_cases hbig2 : (1048576 : Int) - wtLF l - wtLI s0 < 0
  · have : szr (1048576 - wtLF l) (wtLI s0 : Nat) = -1 := if_pos hbig2
    rw [this]
    repeat' (first | intro _ | (simp [sx_skip, sx_ops, sx_seq, sx_cond, sx_block, sx_exit, sx_ret, sx_mcall, sx_mcallx, sx_mcell, sx_mset, sx_mnset, elAt, setEl, inAt, elIn, setIn, isLst, cellsOf, sxl_nil, sxl_set, sxl_call, sxl_callv, sxl_g1, sxl_g2, sxl_g3, sxl_g4, OkS_true, GrdS_tt, GrdS_tf, GrdS_ft, GrdS_ff, CondS_t, CondS_f, then_n, then_e, then_r, blk_n, blk_e, blk_r, upd_app, Ex.ok, Ex.val, Opd.val, POp.dst, bin_int, binOK_int, bin_str, binOK_str, resOK, resV, RB.val, sub, putc, scB, scL, oneB, conf, Ex.val.eqP, Ex.val.eqL, negV, mxV, mnV, ← wr_eq, wr_zero, wr_one, wr_m1, bst_lst, byteC, partsOK, putAll, appV, nilV, slV, sslV, optB, optNum, and_assoc, exists_and_left, exists_eq_left', *]) | refine CondS_d (fun h => ?_) (fun h => ?_) | refine CondS_b (fun h => ?_) (fun h => ?_) | refine GrdS_d (fun h => ?_) (fun h => ?_) | refine GrdS_b (fun h => ?_) (fun h => ?_) | refine OkS_i (by omega) ?_ | fail)
  have hz2 : szr (1048576 - wtLF l) (wtLI s0 : Nat) = 1048576 - wtLF l - wtLI s0 := if_neg hbig2
  rw [hz2]
  have hnn2 : ¬ (1048576 : Int) - wtLF l - wtLI s0 < 0 := by omega
  have hL := wtLF_len l
  have hLs := wtLI_len s0
  have hl' : l.length ≤ 1048576 := by omega
  have hls' : s0.length ≤ 1048576 := by omega
  have hm : ∀ x ∈ l, x.f3.size ≤ 1048576 ∧ x.f4.length ≤ 1048576 := fun x hx => by have := wtLF_mem hx; omega
  have hms : ∀ x ∈ s0, x.f1.f3.size ≤ 1048576 ∧ x.f1.f4.length ≤ 1048576 := fun x hx => by have := wtLI_mem hx; omega
  have c1 := f16 l n1 hl' fun x h => (hm x h).2
  have c2 := f68 s0 n2 hls' fun x h => (hms x h).2
  have wr := wtLF_frF l
  have ws := wtLI_fr s0
  obtain ⟨r, hr⟩ : ∃ r, l.map Ft.fr = r := ⟨_, rfl⟩
  obtain ⟨s, hs⟩ : ∃ s, s0.map Ei.fr = s := ⟨_, rfl⟩
  have hrl : r.length ≤ 1048576 := by rw [← hr, List.length_map]; exact hl'
  have hsl : s.length ≤ 1048576 := by rw [← hs, List.length_map]; exact hls'
  have hrm : ∀ x ∈ r, x.neat := by
    intro x hx
    rw [← hr] at hx
    obtain ⟨y, hy, rfl⟩ := List.mem_map.1 hx
    exact ⟨(hm y hy).1, (hm y hy).2, rfl⟩
  have hsm : ∀ x ∈ s, x.f1.neat := by
    intro x hx
    rw [← hs] at hx
    obtain ⟨y, hy, rfl⟩ := List.mem_map.1 hx
    exact ⟨(hms y hy).1, (hms y hy).2, rfl⟩
  rw [hr] at c1 wr
  rw [hs] at c2 ws
  have c3 := f67 r s false false ⟨hrl, hrm⟩ ⟨hsl, hsm⟩
  have c4 := f69 r s false false ⟨hrl, hrm⟩ ⟨hsl, hsm⟩
  have c5 := f19 r false false (by omega) fun x h => by have := (hrm x h).2.1; omega
  have c6 := f70 s false false (by omega) fun x h => by have := (hsm x h).2.1; omega
  have hGl := apTo_len (l := r) (es := s) s.length hrl
  have hGm := apTo_neat hrm hsm s.length (Nat.le_refl _)
  have hGk := apTo_k s.length (Nat.le_refl _) (by omega) hrm hsm
  obtain ⟨G, hGe⟩ : ∃ G, apTo r s s.length = G := ⟨_, rfl⟩
  obtain ⟨cn, hcn⟩ : ∃ c, cnTo r s s.length = c := ⟨_, rfl⟩
  rw [hGe, hcn] at c3 c4
  rw [hGe] at hGl hGm hGk
  have c7 := f19 G false false (by omega) fun x h => by have := (hGm x h).2.1; omega
  have nlo : ∀ {L : List Ft}, (∀ x ∈ L, x.neat) → ∀ x ∈ L, x.nlok := fun h x hx hh => by rw [(h x hx).2.2] at hh; (cases hh)
  have hk1 := kTo_mono (l := r) (k := 1) (n := 0) (m := r.length) (by omega)
  have hk1 : 1 ≤ kTo r 1 r.length := hk1
  have hk2 := kTo_mono (l := G) (k := 1) (n := 0) (m := G.length) (by omega)
  have hk2 : 1 ≤ kTo G 1 G.length := hk2
  have hrk := kTo_le r r.length (Nat.le_refl _) 1
  have d1 := f46 r false 1 (by simp) (nlo hrm) (by omega) (by omega) (by unfold wtLF at *; omega)
  obtain ⟨K, hK⟩ : ∃ K, kTo r 1 r.length = K := ⟨_, rfl⟩
  rw [hK] at d1 hk1 hrk
  have hsk := kToI_le s s.length (Nat.le_refl _) K
  have hks := kToI_mono (l := s) (k := K) (n := 0) (m := s.length) (by omega)
  have hks : K ≤ kToI s K s.length := hks
  have d2 := f71 s false K (by simp) (fun x hx hh => by rw [(hsm x hx).2.2] at hh; (cases hh)) (by omega) (by omega) (by unfold wtLF wtLI at *; omega)
  have d3 := f46 G false 1 (by simp) (nlo hGm) (by omega) (by omega) hGk
  have d4 := f48 G false 1 (by omega) (by omega) hGk
  obtain ⟨R, hR⟩ : ∃ R, (upTo (mkFtAt r 1) r.length).map ft = R := ⟨_, rfl⟩
  obtain ⟨K2, hK2e⟩ : ∃ K2 : Int, kToI s K s.length = K2 := ⟨_, rfl⟩
  obtain ⟨R2, hR2⟩ : ∃ R2, (upTo (mkEiAt s K) s.length).map ei = R2 := ⟨_, rfl⟩
  obtain ⟨m, hme⟩ : ∃ m : Int, kTo G 1 G.length = m := ⟨_, rfl⟩
  obtain ⟨GG, hGG⟩ : ∃ GG, (upTo (mkFtAt G 1) G.length).map ft = GG := ⟨_, rfl⟩
  rw [hR] at d1
  rw [hK2e] at d2 hks
  rw [hR2] at d2
  rw [hme] at d3 d4 hk2
  rw [hGG] at d3 d4
  have hm0 : ¬ m < 0 := by omega
  have hK0 : ¬ K2 < 0 := by omega
  clear hr hs hz hz2 hGe hcn hK hR hme hGG hGk hrk hsk hK2e hR2 hGm hrm hsm hks nlo wr ws hm hms
  repeat' (first | intro _ | (simp [sx_skip, sx_ops, sx_seq, sx_cond, sx_block, sx_exit, sx_ret, sx_mcall, sx_mcallx, sx_mcell, sx_mset, sx_mnset, elAt, setEl, inAt, elIn, setIn, isLst, cellsOf, sxl_nil, sxl_set, sxl_call, sxl_callv, sxl_g1, sxl_g2, sxl_g3, sxl_g4, OkS_true, GrdS_tt, GrdS_tf, GrdS_ft, GrdS_ff, CondS_t, CondS_f, then_n, then_e, then_r, blk_n, blk_e, blk_r, upd_app, Ex.ok, Ex.val, Opd.val, POp.dst, bin_int, binOK_int, bin_str, binOK_str, resOK, resV, RB.val, sub, putc, scB, scL, oneB, conf, Ex.val.eqP, Ex.val.eqL, negV, mxV, mnV, ← wr_eq, wr_zero, wr_one, wr_m1, bst_lst, byteC, partsOK, putAll, appV, nilV, slV, sslV, optB, optNum, and_assoc, exists_and_left, exists_eq_left', *]) | refine CallS_i (c1) ?_ | refine CallS_i (c2) ?_ | refine CallS_i (c3) ?_ | refine CallS_i (c4) ?_ | refine CallS_i (c5) ?_ | refine CallS_i (c6) ?_ | refine CallS_i (c7) ?_ | refine CallS_i (d1) ?_ | refine CallS_i (d2) ?_ | refine CallS_i (d3) ?_ | refine CallS_i (d4) ?_ | refine CallM_i (c1) ?_ | refine CallM_i (c2) ?_ | refine CallM_i (c3) ?_ | refine CallM_i (c4) ?_ | refine CallM_i (c5) ?_ | refine CallM_i (c6) ?_ | refine CallM_i (c7) ?_ | refine CallM_i (d1) ?_ | refine CallM_i (d2) ?_ | refine CallM_i (d3) ?_ | refine CallM_i (d4) ?_ | refine CallE_i (c1) ?_ | refine CallE_i (c2) ?_ | refine CallE_i (c3) ?_ | refine CallE_i (c4) ?_ | refine CallE_i (c5) ?_ | refine CallE_i (c6) ?_ | refine CallE_i (c7) ?_ | refine CallE_i (d1) ?_ | refine CallE_i (d2) ?_ | refine CallE_i (d3) ?_ | refine CallE_i (d4) ?_ | refine CallX_i (c1) ?_ | refine CallX_i (c2) ?_ | refine CallX_i (c3) ?_ | refine CallX_i (c4) ?_ | refine CallX_i (c5) ?_ | refine CallX_i (c6) ?_ | refine CallX_i (c7) ?_ | refine CallX_i (d1) ?_ | refine CallX_i (d2) ?_ | refine CallX_i (d3) ?_ | refine CallX_i (d4) ?_ | refine CondS_d (fun h => ?_) (fun h => ?_) | refine CondS_b (fun h => ?_) (fun h => ?_) | refine GrdS_d (fun h => ?_) (fun h => ?_) | refine GrdS_b (fun h => ?_) (fun h => ?_) | refine OkS_i (by omega) ?_ | fail)
end Go.Eng
namespace Go.Eng
open Go Go.Proofs
set_option linter.unusedSimpArgs false
set_option linter.unusedVariables false
set_option maxRecDepth 20000
/-! what the arguments hold -/
theorem d_intb {X : Cx} {t n : Nat} {i0 : TI} {vs : List PV} (hi : X.ti t = some i0) (hk : i0.k = .int .i64) (h : shp X n t vs) : ∃ m : Int, vs = [i m] ∧ -9223372036854775808 ≤ m ∧ m ≤ 9223372036854775807 := by
  cases n with
  | zero => cases h
  | succ n =>
    unfold shp at h; rw [hi] at h; simp only [hk] at h
    obtain ⟨m, hm, hw⟩ := h
    refine ⟨m, hm, ?_⟩
    simpa [Lit.wf, IntKind.min, IntKind.max, IntKind.signed, IntKind.bits] using hw
theorem d_int {X : Cx} {t n : Nat} {i0 : TI} {vs : List PV} (hi : X.ti t = some i0) (hk : i0.k = .int .i64) (h : shp X n t vs) : ∃ m, vs = [i m] := by
  cases n with
  | zero => cases h
  | succ n => unfold shp at h; rw [hi] at h; simp only [hk] at h; obtain ⟨m, hm, _⟩ := h; exact ⟨m, hm⟩
theorem d_bool {X : Cx} {t n : Nat} {i0 : TI} {vs : List PV} (hi : X.ti t = some i0) (hk : i0.k = .bool) (h : shp X n t vs) : ∃ b, vs = [.bool b] := by
  cases n with
  | zero => cases h
  | succ n => unfold shp at h; rw [hi] at h; simp only [hk] at h; exact h
theorem d_str {X : Cx} {t n : Nat} {i0 : TI} {vs : List PV} (hi : X.ti t = some i0) (hk : i0.k = .str) (h : shp X n t vs) : ∃ s, vs = [.str s] ∧ s.size ≤ 9223372036854775807 := by
  cases n with
  | zero => cases h
  | succ n => unfold shp at h; rw [hi] at h; simp only [hk] at h; exact h
theorem d_slice {X : Cx} {t n e sz : Nat} {i0 : TI} {vs : List PV} {α : Type} {g : α → List PV} {q : α → Prop} (hi : X.ti t = some i0) (hk : i0.k = .slice e) (hs : szOf X e = sz)
    (hd : ∀ n vs, shp X n e vs → ∃ x, vs = g x ∧ q x) (h : shp X n t vs) : ∃ (l : List α) (nl : Bool), vs = [.lst sz nl (l.map g)] ∧ l.length ≤ 9223372036854775807 ∧ ∀ x ∈ l, q x := by
  cases n with
  | zero => cases h
  | succ n =>
    unfold shp at h; rw [hi] at h; simp only [hk, hs] at h
    rcases h with rfl | ⟨els, rfl, hl, he⟩
    · exact ⟨[], true, rfl, by simp, by simp⟩
    · have : ∀ els : List (List PV), (∀ cs ∈ els, shp X n e cs) → ∃ l : List α, els = l.map g ∧ ∀ x ∈ l, q x := by
        intro els
        induction els with
        | nil => intro _; exact ⟨[], rfl, by simp⟩
        | cons c r ih =>
          intro h
          obtain ⟨l, h1, h2⟩ := ih fun cs hcs => h cs (List.mem_cons_of_mem _ hcs)
          obtain ⟨x, h3, h4⟩ := hd n c (h c (List.mem_cons_self ..))
          exact ⟨x :: l, by rw [h1, h3]; rfl, fun y hy => by
            rcases List.mem_cons.1 hy with rfl | hy
            · exact h4
            · exact h2 y hy⟩
      obtain ⟨l, h1, h2⟩ := this els he
      subst h1
      exact ⟨l, false, rfl, by have := hl; rw [List.length_map] at this; exact this, h2⟩
theorem d_struct {X : Cx} {t n : Nat} {i0 : TI} {fl : List (Nat × Nat)} {vs : List PV} (hi : X.ti t = some i0) (hk : i0.k = .struct fl) (h : shp X n t vs) : vs.length = i0.sz ∧ ∀ q ∈ fl, ∃ n, shp X n q.2 (sub vs q.1 (szOf X q.2)) := by
  cases n with
  | zero => cases h
  | succ n => unfold shp at h; rw [hi] at h; simp only [hk] at h; exact ⟨h.1, fun q hq => ⟨n, h.2 q hq⟩⟩
theorem shpL_cons {X : Cx} {n t : Nat} {ts : List Nat} {pvs : List PV} (h : shpL X n (t :: ts) pvs) : ∃ v vs, pvs = v :: vs ∧ shpV X n t v ∧ shpL X n ts vs := by
  cases pvs with
  | nil => cases h
  | cons v vs => exact ⟨v, vs, rfl, h.1, h.2⟩
theorem shpL_nil {X : Cx} {n : Nat} {pvs : List PV} (h : shpL X n [] pvs) : pvs = [] := by
  cases pvs with
  | nil => rfl
  | cons v vs => cases h
theorem shpV_one {X : Cx} {n t : Nat} {i0 : TI} {v : PV} (hi : X.ti t = some i0) (ha : i0.k.agg = false) (h : shpV X n t v) : shp X n t [v] := by
  unfold shpV at h; rw [hi] at h; simp only [ha, Bool.false_eq_true, if_false] at h; exact h
theorem shpV_agg {X : Cx} {n t : Nat} {i0 : TI} {v : PV} (hi : X.ti t = some i0) (ha : i0.k.agg = true) (h : shpV X n t v) : ∃ vs, v = .agg vs ∧ shp X n t vs := by
  unfold shpV at h; rw [hi] at h; simp only [ha, if_true] at h; exact h
theorem dPt {n : Nat} {vs : List PV} (h : shp X n 24 vs) : ∃ p : Pt, vs = cp p ∧ True := by
  obtain ⟨hl, hf⟩ := d_struct (i0 := (X.ti 24).getD default) rfl rfl h
  match vs, hl with
  | [a, b], _ =>
    obtain ⟨_, h0⟩ := hf (0, 3) (by simp)
    obtain ⟨_, h1⟩ := hf (1, 3) (by simp)
    obtain ⟨x, e0⟩ := d_int (i0 := (X.ti 3).getD default) rfl rfl h0
    obtain ⟨y, e1⟩ := d_int (i0 := (X.ti 3).getD default) rfl rfl h1
    obtain rfl : a = i x := (List.cons.inj e0).1
    obtain rfl : b = i y := (List.cons.inj e1).1
    exact ⟨⟨x, y⟩, rfl, trivial⟩
theorem dFt {n : Nat} {vs : List PV} (h : shp X n 37 vs) : ∃ x : Ft, vs = ft x ∧ x.fits := by
  obtain ⟨hl, hf⟩ := d_struct (i0 := (X.ti 37).getD default) rfl rfl h
  match vs, hl with
  | [a, b, c, d, e], _ =>
    obtain ⟨_, h0⟩ := hf (0, 3) (by simp)
    obtain ⟨_, h1⟩ := hf (1, 3) (by simp)
    obtain ⟨_, h2⟩ := hf (2, 3) (by simp)
    obtain ⟨_, h3⟩ := hf (3, 9) (by simp)
    obtain ⟨_, h4⟩ := hf (4, 35) (by simp)
    obtain ⟨x0, e0⟩ := d_int (i0 := (X.ti 3).getD default) rfl rfl h0
    obtain ⟨x1, e1⟩ := d_int (i0 := (X.ti 3).getD default) rfl rfl h1
    obtain ⟨x2, e2⟩ := d_int (i0 := (X.ti 3).getD default) rfl rfl h2
    obtain ⟨x3, e3, b3⟩ := d_str (i0 := (X.ti 9).getD default) rfl rfl h3
    obtain ⟨x4, nl, e4, b4, _⟩ := d_slice (i0 := (X.ti 35).getD default) (sz := 2) rfl rfl rfl (fun _ _ => dPt) h4
    obtain rfl : a = i x0 := (List.cons.inj e0).1
    obtain rfl : b = i x1 := (List.cons.inj e1).1
    obtain rfl : c = i x2 := (List.cons.inj e2).1
    obtain rfl : d = .str x3 := (List.cons.inj e3).1
    obtain rfl : e = .lst 2 nl (x4.map cp) := (List.cons.inj e4).1
    exact ⟨⟨x0, x1, x2, x3, x4, nl⟩, rfl, b3, b4⟩
theorem dEn {n : Nat} {vs : List PV} (h : shp X n 39 vs) : ∃ x : En, vs = en x ∧ x.f0.fits := by
  obtain ⟨hl, hf⟩ := d_struct (i0 := (X.ti 39).getD default) rfl rfl h
  match vs, hl with
  | [a0, a1, a2, a3, a4, a, b, c], _ =>
    obtain ⟨_, h0⟩ := hf (0, 37) (by simp)
    obtain ⟨_, h1⟩ := hf (5, 3) (by simp)
    obtain ⟨_, h2⟩ := hf (6, 3) (by simp)
    obtain ⟨_, h3⟩ := hf (7, 4) (by simp)
    obtain ⟨x0, e0, p0⟩ := dFt h0
    obtain ⟨x1, e1⟩ := d_int (i0 := (X.ti 3).getD default) rfl rfl h1
    obtain ⟨x2, e2⟩ := d_int (i0 := (X.ti 3).getD default) rfl rfl h2
    obtain ⟨x3, e3⟩ := d_bool (i0 := (X.ti 4).getD default) rfl rfl h3
    have e0 : [a0, a1, a2, a3, a4] = ft x0 := e0
    simp only [ft, List.cons.injEq, and_true] at e0
    obtain ⟨rfl, rfl, rfl, rfl, rfl⟩ := e0
    obtain rfl : a = i x1 := (List.cons.inj e1).1
    obtain rfl : b = i x2 := (List.cons.inj e2).1
    obtain rfl : c = .bool x3 := (List.cons.inj e3).1
    exact ⟨⟨x0, x1, x2, x3⟩, rfl, p0⟩
theorem dEnS {n : Nat} {v : PV} (h : shpV X n 34 v) : ∃ (l : List En) (nl : Bool), v = .lst 8 nl (l.map en) ∧ l.length ≤ 9223372036854775807 ∧ ∀ x ∈ l, x.f0.fits := by
  have h := shpV_one (i0 := (X.ti 34).getD default) rfl rfl h
  obtain ⟨l, nl, e, h1, h2⟩ := d_slice (i0 := (X.ti 34).getD default) (sz := 8) rfl rfl rfl (fun _ _ => dEn) h
  exact ⟨l, nl, (List.cons.inj e).1, h1, h2⟩
theorem dFtS {n : Nat} {v : PV} (h : shpV X n 22 v) : ∃ (l : List Ft) (nl : Bool), v = .lst 5 nl (l.map ft) ∧ l.length ≤ 9223372036854775807 ∧ ∀ x ∈ l, x.fits := by
  have h := shpV_one (i0 := (X.ti 22).getD default) rfl rfl h
  obtain ⟨l, nl, e, h1, h2⟩ := d_slice (i0 := (X.ti 22).getD default) (sz := 5) rfl rfl rfl (fun _ _ => dFt) h
  exact ⟨l, nl, (List.cons.inj e).1, h1, h2⟩
theorem dInt {n : Nat} {v : PV} (h : shpV X n 3 v) : ∃ m : Int, v = i m ∧ -9223372036854775808 ≤ m ∧ m ≤ 9223372036854775807 := by
  obtain ⟨m, hm, hb⟩ := d_intb (i0 := (X.ti 3).getD default) rfl rfl (shpV_one (i0 := (X.ti 3).getD default) rfl rfl h)
  exact ⟨m, (List.cons.inj hm).1, hb⟩
theorem dIntS {n : Nat} {v : PV} (h : shpV X n 112 v) : ∃ (l : List Int) (nl : Bool), v = .lst 1 nl (l.map fun m => [i m]) ∧ l.length ≤ 9223372036854775807 ∧ ∀ x ∈ l, -9223372036854775808 ≤ x ∧ x ≤ 9223372036854775807 := by
  have h := shpV_one (i0 := (X.ti 112).getD default) rfl rfl h
  obtain ⟨l, nl, e, h1, h2⟩ := d_slice (i0 := (X.ti 112).getD default) (sz := 1) (g := fun m : Int => [i m]) (q := fun m => -9223372036854775808 ≤ m ∧ m ≤ 9223372036854775807) rfl rfl rfl (fun _ _ h => d_intb (i0 := (X.ti 3).getD default) rfl rfl h) h
  exact ⟨l, nl, (List.cons.inj e).1, h1, h2⟩
theorem dPtV {n : Nat} {v : PV} (h : shpV X n 24 v) : ∃ p : Pt, v = .agg (cp p) := by
  obtain ⟨vs, rfl, hs⟩ := shpV_agg (i0 := (X.ti 24).getD default) rfl rfl h
  obtain ⟨p, rfl, _⟩ := dPt hs
  exact ⟨p, rfl⟩
theorem dFtV {n : Nat} {v : PV} (h : shpV X n 37 v) : ∃ x : Ft, v = .agg (ft x) ∧ x.fits := by
  obtain ⟨vs, rfl, hs⟩ := shpV_agg (i0 := (X.ti 37).getD default) rfl rfl h
  obtain ⟨p, rfl, hp⟩ := dFt hs
  exact ⟨p, rfl, hp⟩
theorem dEnV {n : Nat} {v : PV} (h : shpV X n 39 v) : ∃ x : En, v = .agg (en x) ∧ x.f0.fits := by
  obtain ⟨vs, rfl, hs⟩ := shpV_agg (i0 := (X.ti 39).getD default) rfl rfl h
  obtain ⟨p, rfl, hp⟩ := dEn hs
  exact ⟨p, rfl, hp⟩
end Go.Eng
namespace Go.Eng
open Go Go.Proofs
theorem dEi {n : Nat} {vs : List PV} (h : shp X n 66 vs) : ∃ x : Ei, vs = ei x ∧ x.f1.fits := by
  obtain ⟨hl, hf⟩ := d_struct (i0 := (X.ti 66).getD default) rfl rfl h
  match vs, hl with
  | [a, a0, a1, a2, a3, a4, b, c, d], _ =>
    obtain ⟨_, h0⟩ := hf (0, 3) (by simp)
    obtain ⟨_, h1⟩ := hf (1, 37) (by simp)
    obtain ⟨_, h2⟩ := hf (6, 3) (by simp)
    obtain ⟨_, h3⟩ := hf (7, 3) (by simp)
    obtain ⟨_, h4⟩ := hf (8, 3) (by simp)
    obtain ⟨x0, e0⟩ := d_int (i0 := (X.ti 3).getD default) rfl rfl h0
    obtain ⟨x1, e1, p1⟩ := dFt h1
    obtain ⟨x2, e2⟩ := d_int (i0 := (X.ti 3).getD default) rfl rfl h2
    obtain ⟨x3, e3⟩ := d_int (i0 := (X.ti 3).getD default) rfl rfl h3
    obtain ⟨x4, e4⟩ := d_int (i0 := (X.ti 3).getD default) rfl rfl h4
    have e1 : [a0, a1, a2, a3, a4] = ft x1 := e1
    simp only [ft, List.cons.injEq, and_true] at e1
    obtain ⟨rfl, rfl, rfl, rfl, rfl⟩ := e1
    obtain rfl : a = i x0 := (List.cons.inj e0).1
    obtain rfl : b = i x2 := (List.cons.inj e2).1
    obtain rfl : c = i x3 := (List.cons.inj e3).1
    obtain rfl : d = i x4 := (List.cons.inj e4).1
    exact ⟨⟨x0, x1, x2, x3, x4⟩, rfl, p1⟩
theorem dEiS {n : Nat} {v : PV} (h : shpV X n 97 v) : ∃ (l : List Ei) (nl : Bool), v = .lst 9 nl (l.map ei) ∧ l.length ≤ 9223372036854775807 ∧ ∀ x ∈ l, x.f1.fits := by
  have h := shpV_one (i0 := (X.ti 97).getD default) rfl rfl h
  obtain ⟨l, nl, e, h1, h2⟩ := d_slice (i0 := (X.ti 97).getD default) (sz := 9) rfl rfl rfl (fun _ _ => dEi) h
  exact ⟨l, nl, (List.cons.inj e).1, h1, h2⟩
theorem dEiV {n : Nat} {v : PV} (h : shpV X n 66 v) : ∃ x : Ei, v = .agg (ei x) ∧ x.f1.fits := by
  obtain ⟨vs, rfl, hs⟩ := shpV_agg (i0 := (X.ti 66).getD default) rfl rfl h
  obtain ⟨p, rfl, hp⟩ := dEi hs
  exact ⟨p, rfl, hp⟩
end Go.Eng
namespace Go.Eng
open Go Go.Proofs
theorem law12 {pvs : List PV} (h : shpL X 8 [22, 97] pvs) : Fn Try.prog 12 false pvs (.bool true) := by
  obtain ⟨_, _, rfl, h1, h2⟩ := shpL_cons h
  obtain ⟨_, _, rfl, h3, h4⟩ := shpL_cons h2
  obtain rfl := shpL_nil h4
  obtain ⟨l, n1, rfl, a1, a2⟩ := dFtS h1
  obtain ⟨s, n2, rfl, a3, a4⟩ := dEiS h3
  exact f12 l n1 s n2 a1 a2 a3 a4
end Go.Eng
