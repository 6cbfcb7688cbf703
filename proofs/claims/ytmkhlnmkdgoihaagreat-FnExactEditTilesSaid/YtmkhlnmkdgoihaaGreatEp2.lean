/- A part of the proof of a law's statement: for every input the law returns true and leaves its arguments as they were. No condition beyond the statement's own. What each function computes. -/
import Derived.WalkKit
import Derived.Test.YtmkhlnmkdgoihaaGreatEp1
set_option linter.unusedVariables false
set_option linter.unusedSimpArgs false
set_option linter.unusedSectionVars false
set_option autoImplicit true
set_option relaxedAutoImplicit true
namespace Go.Eng
open Go Go.Proofs Geo
set_option linter.unusedSimpArgs false
set_option linter.unusedVariables false
set_option maxRecDepth 20000
set_option maxHeartbeats 1000000

/-! tiles that change: both ways to gather them give the same list -/
theorem eqAt_sym (l m : List Pt) (n : Nat) : eqAt l m n = eqAt m l n := by
  unfold eqAt eqb
  rw [Bool.eq_iff_iff]
  simp only [Bool.and_eq_true, decide_eq_true_eq]
  constructor <;> rintro ⟨h1, h2⟩ <;> exact ⟨h1.symm, h2.symm⟩
theorem wEqL_sym (l m : List Pt) : wEqL l m = wEqL m l := by
  unfold wEqL
  by_cases h : l.length = m.length
  · have : eqAt l m = eqAt m l := funext (eqAt_sym l m)
    rw [this, h]
  · simp [h, Ne.symm h]
theorem wEqF_sym (x y : Ft) : wEqF x y = wEqF y x := by
  unfold wEqF
  rw [wEqL_sym, Bool.eq_iff_iff]
  simp only [Bool.and_eq_true, decide_eq_true_eq]
  constructor <;> rintro ⟨h1, h2, h3, h4, h5⟩ <;> exact ⟨h1.symm, h2.symm, h3.symm, h4.symm, h5⟩
theorem wEqF_id {x y : Ft} (h : wEqF x y = true) : x.f0 = y.f0 := by
  unfold wEqF at h
  simp only [Bool.and_eq_true, decide_eq_true_eq] at h
  exact h.1
theorem wFind_at {l : List Ft} (h : wSrc l = true) {n : Nat} (hn : n < l.length) : wFind l l[n].f0 = n := by
  rcases find_cases l l[n].f0 with h1 | ⟨k, h1, hk⟩
  · exact absurd rfl (wFind_none (by omega) hn)
  · obtain ⟨hk2, h2⟩ := wFind_get (l := l) (id := l[n].f0) (by omega)
    have hi := (wSrc_iff.1 h).2.2
    have e : (wFind l l[n].f0).toNat = k := by omega
    simp only [e] at h2
    have : k = n := by
      rcases Nat.lt_trichotomy k n with h3 | h3 | h3
      · have := inc_at hi h3 hn; omega
      · exact h3
      · have := inc_at hi h3 hk; omega
    omega
theorem hasF_iff (b : List Ft) (x : Ft) : hasF b x = true ↔ ∃ y ∈ b, wEqF y x = true := by
  unfold hasF
  constructor
  · intro h
    simp only [Bool.not_eq_true'] at h
    unfold allTo at h
    rw [List.all_eq_false] at h
    obtain ⟨n, hn, h2⟩ := h
    have hn := List.mem_range.1 hn
    refine ⟨b[n], List.getElem_mem hn, ?_⟩
    simpa [hasAt, hn] using h2
  · rintro ⟨y, hy, h⟩
    obtain ⟨n, hn, rfl⟩ := List.getElem_of_mem hy
    rw [allTo_bad hn (by simp [hasAt, hn, h])]
    rfl
def tbAt (b : List Ft) (x : Ft) : Bool := decide (wFind b x.f0 < 0) || !wEqF x (b.getD (wFind b x.f0).toNat ftD)
theorem tb_has {b : List Ft} (hb : wSrc b = true) (x : Ft) : tbAt b x = !hasF b x := by
  have key : hasF b x = true ↔ tbAt b x = false := by
    rw [hasF_iff]
    unfold tbAt
    constructor
    · rintro ⟨y, hy, h⟩
      obtain ⟨n, hn, rfl⟩ := List.getElem_of_mem hy
      have hid := wEqF_id h
      have hf := wFind_at hb hn
      rw [← hid, hf]
      simp [hn, wEqF_sym x, h]
    · intro h
      simp only [Bool.or_eq_false_iff, decide_eq_false_iff_not, Bool.not_eq_false'] at h
      obtain ⟨h1, h2⟩ := h
      have h3 := (wFind_bound b x.f0).2
      have hk : (wFind b x.f0).toNat < b.length := by omega
      refine ⟨b[(wFind b x.f0).toNat], List.getElem_mem hk, ?_⟩
      rw [wEqF_sym]
      simpa [hk] using h2
  cases h : hasF b x with
  | true => rw [key.1 h]; rfl
  | false =>
    cases h2 : tbAt b x with
    | true => rfl
    | false => rw [key.2 h2] at h; cases h
def tbF (a b : List Ft) : Nat → List Int
  | 0 => []
  | n + 1 => if tbAt b (a.getD n ftD) = true then tbF a b n ++ wTiles (a.getD n ftD) else tbF a b n
theorem tbF_len (a b : List Ft) : ∀ n, (tbF a b n).length ≤ 441 * n
  | 0 => by simp [tbF]
  | n + 1 => by
    have h1 := tbF_len a b n
    have := wTiles_len (a.getD n ftD)
    unfold tbF
    split
    · rw [List.length_append]; omega
    · omega
theorem tbF_mem (a b : List Ft) (z : Int) : ∀ n, z ∈ tbF a b n ↔ ∃ k, k < n ∧ tbAt b (a.getD k ftD) = true ∧ z ∈ wTiles (a.getD k ftD)
  | 0 => by simp [tbF]
  | n + 1 => by
    have ih := tbF_mem a b z n
    unfold tbF
    constructor
    · intro h
      split at h
      · rename_i hq
        rcases List.mem_append.1 h with h | h
        · obtain ⟨k, h1, h2⟩ := ih.1 h
          exact ⟨k, by omega, h2⟩
        · exact ⟨n, by omega, hq, h⟩
      · obtain ⟨k, h1, h2⟩ := ih.1 h
        exact ⟨k, by omega, h2⟩
    · rintro ⟨k, h1, h2, h3⟩
      by_cases hk : k = n
      · subst hk
        rw [if_pos h2]
        exact List.mem_append_right _ h3
      · have := ih.2 ⟨k, by omega, h2, h3⟩
        split
        · exact List.mem_append_left _ this
        · exact this
theorem paF_mem (out t : List Int) (z : Int) : ∀ n, n ≤ t.length → (z ∈ paF out t n ↔ z ∈ out ∨ z ∈ t.take n)
  | 0, _ => by simp [paF]
  | n + 1, hn => by
    unfold paF
    rw [putI_mem, paF_mem out t z n (by omega), List.take_add_one, List.getElem?_eq_getElem (by omega), show t.getD n 0 = t[n] by simp [show n < t.length by omega], List.mem_append, Option.toList_some, List.mem_singleton]
    constructor
    · rintro (h | h | h)
      · exact .inr (.inr h)
      · exact .inl h
      · exact .inr (.inl h)
    · rintro (h | h | h)
      · exact .inr (.inl h)
      · exact .inr (.inr h)
      · exact .inl h
theorem paF_inc {out t : List Int} (h : out.Pairwise (· < ·)) : ∀ n, (paF out t n).Pairwise (· < ·)
  | 0 => h
  | n + 1 => putI_inc (paF_inc h n)
theorem adF_inc {out : List Int} {a b : List Ft} (h : out.Pairwise (· < ·)) : ∀ n, (adF out a b n).Pairwise (· < ·)
  | 0 => h
  | n + 1 => by
    unfold adF
    split
    · exact adF_inc h n
    · exact paF_inc (adF_inc h n) _
theorem adF_mem (out : List Int) (a b : List Ft) (z : Int) : ∀ n, z ∈ adF out a b n ↔ z ∈ out ∨ ∃ k, k < n ∧ hasF b (a.getD k ftD) = false ∧ z ∈ wTiles (a.getD k ftD)
  | 0 => by simp [adF]
  | n + 1 => by
    have ih := adF_mem out a b z n
    unfold adF
    constructor
    · intro h
      split at h
      · rcases ih.1 h with h | ⟨k, h1, h2⟩
        · exact .inl h
        · exact .inr ⟨k, by omega, h2⟩
      · rename_i hq
        unfold paL at h
        rw [paF_mem _ _ _ _ (Nat.le_refl _), List.take_length] at h
        rcases h with h | h
        · rcases ih.1 h with h | ⟨k, h1, h2⟩
          · exact .inl h
          · exact .inr ⟨k, by omega, h2⟩
        · exact .inr ⟨n, by omega, by simpa using hq, h⟩
    · intro h
      have key : (z ∈ adF out a b n) ∨ (hasF b (a.getD n ftD) = false ∧ z ∈ wTiles (a.getD n ftD)) := by
        rcases h with h | ⟨k, h1, h2, h3⟩
        · exact .inl (ih.2 (.inl h))
        · by_cases hk : k = n
          · subst hk; exact .inr ⟨h2, h3⟩
          · exact .inl (ih.2 (.inr ⟨k, by omega, h2, h3⟩))
      split
      · rename_i hq
        rcases key with h | ⟨h, _⟩
        · exact h
        · rw [hq] at h; cases h
      · unfold paL
        rw [paF_mem _ _ _ _ (Nat.le_refl _), List.take_length]
        rcases key with h | ⟨_, h⟩
        · exact .inl h
        · exact .inr h
def chR (a b : List Ft) : List Int := Lib.compact ((tbF a b a.length ++ tbF b a b.length).mergeSort fun x y => decide (x ≤ y))
theorem chS_eq {a b : List Ft} (ha : wSrc a = true) (hb : wSrc b = true) : chS a b = chR a b := by
  unfold chS
  rw [if_pos (by rw [ha, hb]; rfl)]
  refine incI_ext (adF_inc (adF_inc List.Pairwise.nil _) _) ?_ fun z => ?_
  · exact (compact_pw (R := fun x y : Int => x ≤ y) (fun x y h1 h2 => Int.le_antisymm h1 h2) (ints_sorted _)).imp fun ⟨h1, h2⟩ => by omega
  · unfold chR
    rw [compact_mem, List.mem_mergeSort, List.mem_append, adF_mem, adF_mem, tbF_mem, tbF_mem]
    constructor
    · rintro ((h | ⟨k, h1, h2, h3⟩) | ⟨k, h1, h2, h3⟩)
      · cases h
      · exact .inl ⟨k, h1, by rw [tb_has hb, h2]; rfl, h3⟩
      · exact .inr ⟨k, h1, by rw [tb_has ha, h2]; rfl, h3⟩
    · rintro (⟨k, h1, h2, h3⟩ | ⟨k, h1, h2, h3⟩)
      · exact .inl (.inr ⟨k, h1, by rw [tb_has hb] at h2; simpa using h2, h3⟩)
      · exact .inr ⟨k, h1, by rw [tb_has ha] at h2; simpa using h2, h3⟩
end Go.Eng
namespace Go.Eng
open Go Go.Proofs Go.Shelf
set_option linter.unusedSimpArgs false
set_option linter.unusedVariables false
set_option maxRecDepth 20000
set_option maxHeartbeats 1000000

/-! slices.Sort, slices.Compact at numbers. WRITES -/
def rhoSortI : Ren := ⟨fun n => if n = 5 then 90 else if n = 7 then 129 else if n = 8 then 119 else if n = 10 then 163 else if n = 11 then 164 else if n = 12 then 165 else if n = 13 then 166 else if n = 14 then 167 else if n = 15 then 168 else if n = 16 then 169 else if n = 17 then 170 else if n = 18 then 171 else if n = 19 then 157 else if n = 20 then 158 else if n = 30 then 196 else if n = 31 then 188 else if n = 32 then 189 else if n = 33 then 197 else if n = 34 then 198 else if n = 35 then 199 else if n = 40 then 214 else 0, fun n => if n = 0 then 0 else if n = 3 then 3 else if n = 4 then 4 else if n = 5 then 5 else if n = 9 then 9 else if n = 22 then 30 else if n = 23 then 30 else if n = 25 then 3 else if n = 32 then 144 else if n = 35 then 164 else if n = 36 then 165 else if n = 41 then 68 else if n = 44 then 171 else if n = 46 then 173 else if n = 53 then 188 else if n = 57 then 192 else if n = 63 then 201 else if n = 64 then 202 else 0, fun n => n⟩
theorem LSortI : SlLaysM.n5 Tryz.prog rhoSortI where
  mixed := by kernel_rfl
  f5 := ⟨fnm Tryz.prog 90, by kernel_rfl, by kernel_rfl⟩
  f7 := ⟨fnm Tryz.prog 129, by kernel_rfl, by kernel_rfl⟩
  f8 := by kernel_rfl
  f10 := ⟨fnm Tryz.prog 163, by kernel_rfl, by kernel_rfl⟩
  f11 := ⟨fnm Tryz.prog 164, by kernel_rfl, by kernel_rfl⟩
  f12 := ⟨fnm Tryz.prog 165, by kernel_rfl, by kernel_rfl⟩
  f13 := ⟨fnm Tryz.prog 166, by kernel_rfl, by kernel_rfl⟩
  f14 := ⟨fnm Tryz.prog 167, by kernel_rfl, by kernel_rfl⟩
  f15 := ⟨fnm Tryz.prog 168, by kernel_rfl, by kernel_rfl⟩
  f16 := ⟨fnm Tryz.prog 169, by kernel_rfl, by kernel_rfl⟩
  f17 := ⟨fnm Tryz.prog 170, by kernel_rfl, by kernel_rfl⟩
  f18 := ⟨fnm Tryz.prog 171, by kernel_rfl, by kernel_rfl⟩
  f19 := by kernel_rfl
  f20 := by kernel_rfl
  f30 := ⟨fnm Tryz.prog 196, by kernel_rfl, by kernel_rfl⟩
  f31 := by kernel_rfl
  f32 := by kernel_rfl
  f33 := ⟨fnm Tryz.prog 197, by kernel_rfl, by kernel_rfl⟩
  f34 := ⟨fnm Tryz.prog 198, by kernel_rfl, by kernel_rfl⟩
  f35 := ⟨fnm Tryz.prog 199, by kernel_rfl, by kernel_rfl⟩
  f40 := ⟨fnm Tryz.prog 214, by kernel_rfl, by kernel_rfl⟩
  t0 := by kernel_rfl
  a0 := fun _ => by kernel_rfl
  z0 := fun _ => by kernel_rfl
  v0 := fun _ => by kernel_rfl
  t3 := by kernel_rfl
  a3 := fun _ => by kernel_rfl
  z3 := fun _ => by kernel_rfl
  v3 := fun _ => by kernel_rfl
  t4 := by kernel_rfl
  a4 := fun _ => by kernel_rfl
  z4 := fun _ => by kernel_rfl
  v4 := fun _ => by kernel_rfl
  t5 := by kernel_rfl
  a5 := fun _ => by kernel_rfl
  z5 := fun _ => by kernel_rfl
  v5 := fun _ => by kernel_rfl
  t9 := by kernel_rfl
  a9 := fun _ => by kernel_rfl
  z9 := fun _ => by kernel_rfl
  v9 := fun _ => by kernel_rfl
  t22 := by kernel_rfl
  a22 := fun _ => by kernel_rfl
  z22 := fun _ => by kernel_rfl
  v22 := fun _ => by kernel_rfl
  t23 := by kernel_rfl
  a23 := fun _ => by kernel_rfl
  z23 := fun _ => by kernel_rfl
  v23 := fun _ => by kernel_rfl
  t25 := by kernel_rfl
  a25 := fun _ => by kernel_rfl
  z25 := fun _ => by kernel_rfl
  v25 := fun _ => by kernel_rfl
  t32 := by kernel_rfl
  a32 := fun _ => by kernel_rfl
  z32 := fun _ => by kernel_rfl
  v32 := fun _ => by kernel_rfl
  t35 := by kernel_rfl
  a35 := fun _ => by kernel_rfl
  z35 := fun _ => by kernel_rfl
  v35 := fun _ => by kernel_rfl
  t36 := by kernel_rfl
  a36 := fun _ => by kernel_rfl
  z36 := fun _ => by kernel_rfl
  v36 := fun _ => by kernel_rfl
  t41 := by kernel_rfl
  a41 := fun _ => by kernel_rfl
  z41 := fun _ => by kernel_rfl
  v41 := fun _ => by kernel_rfl
  t44 := by kernel_rfl
  a44 := fun _ => by kernel_rfl
  z44 := fun _ => by kernel_rfl
  v44 := fun _ => by kernel_rfl
  t46 := by kernel_rfl
  a46 := fun _ => by kernel_rfl
  z46 := fun _ => by kernel_rfl
  v46 := fun _ => by kernel_rfl
  t53 := by kernel_rfl
  a53 := fun _ => by kernel_rfl
  z53 := fun _ => by kernel_rfl
  v53 := fun _ => by kernel_rfl
  t57 := by kernel_rfl
  a57 := fun _ => by kernel_rfl
  z57 := fun _ => by kernel_rfl
  v57 := fun _ => by kernel_rfl
  t63 := by kernel_rfl
  a63 := fun _ => by kernel_rfl
  z63 := fun _ => by kernel_rfl
  v63 := fun _ => by kernel_rfl
  t64 := by kernel_rfl
  a64 := fun _ => by kernel_rfl
  z64 := fun _ => by kernel_rfl
  v64 := fun _ => by kernel_rfl
def rhoCompI : Ren := ⟨fun n => if n = 43 then 91 else 0, fun n => if n = 0 then 0 else if n = 3 then 3 else if n = 4 then 4 else if n = 22 then 30 else if n = 23 then 3 else 0, fun n => n⟩
theorem LCompI : SlLaysN.n43 Tryz.prog rhoCompI where
  mixed := by kernel_rfl
  f43 := ⟨fnm Tryz.prog 91, by kernel_rfl, by kernel_rfl⟩
  t0 := by kernel_rfl
  a0 := fun _ => by kernel_rfl
  z0 := fun _ => by kernel_rfl
  v0 := fun _ => by kernel_rfl
  t3 := by kernel_rfl
  a3 := fun _ => by kernel_rfl
  z3 := fun _ => by kernel_rfl
  v3 := fun _ => by kernel_rfl
  t4 := by kernel_rfl
  a4 := fun _ => by kernel_rfl
  z4 := fun _ => by kernel_rfl
  v4 := fun _ => by kernel_rfl
  t22 := by kernel_rfl
  a22 := fun _ => by kernel_rfl
  z22 := fun _ => by kernel_rfl
  v22 := fun _ => by kernel_rfl
  t23 := by kernel_rfl
  a23 := fun _ => by kernel_rfl
  z23 := fun _ => by kernel_rfl
  v23 := fun _ => by kernel_rfl
  i23 := by kernel_rfl
theorem f90 (nl : Bool) (zs : List Int) (hsz : zs.length < 4611686018427387904) :
    FnM Tryz.prog 90 [.lst 1 nl (zs.map fun z => [i z])] (.tup []) (.lst 1 nl ((zs.mergeSort fun x y => decide (x ≤ y)).map fun z => [i z])) := sortInt_M LSortI (by kernel_rfl) nl zs hsz
theorem f91 (nl : Bool) (zs : List Int) (hsz : zs.length ≤ 9223372036854775807) :
    FnX Tryz.prog 91 [.lst 1 nl (zs.map fun z => [i z])] (.lst 1 nl ((Lib.compact zs).map fun z => [i z])) := compactInt_X LCompI (by kernel_rfl) nl zs (Lib.compact_length_le zs) hsz
end Go.Eng
namespace Go.Eng
open Go Go.Proofs Geo
set_option linter.unusedSimpArgs false
set_option linter.unusedVariables false
set_option maxRecDepth 20000
set_option maxHeartbeats 1000000

/-! a point is moved. WRITES -/
def mvOK (p : Pt) (dx dy : Int) : Bool := M_IsPoint p.f0 p.f1 && (inR dx (-1000) 1000 && (inR dy (-1000) 1000 && M_IsPoint (wr .i64 (p.f0 + dx)) (wr .i64 (p.f1 + dy))))
def mv (p : Pt) (dx dy : Int) : Pt := ⟨wr .i64 (p.f0 + dx), wr .i64 (p.f1 + dy)⟩
def mvR (p : Pt) (dx dy : Int) : Pt := if mvOK p dx dy = true then mv p dx dy else p
theorem f123 (p : Pt) (dx dy : Int) : Fn Tryz.prog 123 false [.agg (cp p), i dx, i dy] (.tup [.agg (cp (mvR p dx dy)), .bool (mvOK p dx dy)]) := by
  have c1 := f70 p.f0 p.f1
  have c2 := f116 dx (-1000) 1000
  have c3 := f116 dy (-1000) 1000
  have c4 := f70 (wr .i64 (p.f0 + dx)) (wr .i64 (p.f1 + dy))
  unfold mvR mvOK mv
  obtain ⟨b1, h1⟩ : ∃ b, M_IsPoint p.f0 p.f1 = b := ⟨_, rfl⟩
  obtain ⟨b2, h2⟩ : ∃ b, inR dx (-1000) 1000 = b := ⟨_, rfl⟩
  obtain ⟨b3, h3⟩ : ∃ b, inR dy (-1000) 1000 = b := ⟨_, rfl⟩
  obtain ⟨b4, h4⟩ : ∃ b, M_IsPoint (wr .i64 (p.f0 + dx)) (wr .i64 (p.f1 + dy)) = b := ⟨_, rfl⟩
  rw [h1] at c1 ⊢
  rw [h2] at c2 ⊢
  rw [h3] at c3 ⊢
  rw [h4] at c4 ⊢
  clear h1 h2 h3 h4
  unfold cp
  refine Fn.by_sx hX (by kernel_rfl) c123 (by kernel_rfl) (by rfl) ?_
  simp [i123, sxa, sxb, sxc, Ex.ok, Ex.val, ← wr_eq]
  cases b1 <;> cases b2 <;> cases b3 <;> cases b4
  all_goals repeat' (first | intro _ | (simp [sxa, sxb, sxc, Ex.ok, Ex.val, ← wr_eq, *]) | refine CallS_i (c1) ?_ | refine CallS_i (c2) ?_ | refine CallS_i (c3) ?_ | refine CallS_i (c4) ?_ | refine CondS_d ?_ ?_ | refine CondS_b ?_ ?_ | refine GrdS_d ?_ ?_ | refine GrdS_b ?_ ?_ | refine OkS_i (by omega) ?_ | fail)
theorem f100 (p : Pt) (dx dy : Int) : Fn Tryz.prog 100 false [.agg (cp p), i dx, i dy] (.tup [.agg (cp (mvR p dx dy)), .bool (mvOK p dx dy)]) := by
  have c1 := f35 p.f0 p.f1
  have c2 := f75 dx (-1000) 1000
  have c3 := f75 dy (-1000) 1000
  have c4 := f35 (wr .i64 (p.f0 + dx)) (wr .i64 (p.f1 + dy))
  unfold mvR mvOK mv
  obtain ⟨b1, h1⟩ : ∃ b, M_IsPoint p.f0 p.f1 = b := ⟨_, rfl⟩
  obtain ⟨b2, h2⟩ : ∃ b, inR dx (-1000) 1000 = b := ⟨_, rfl⟩
  obtain ⟨b3, h3⟩ : ∃ b, inR dy (-1000) 1000 = b := ⟨_, rfl⟩
  obtain ⟨b4, h4⟩ : ∃ b, M_IsPoint (wr .i64 (p.f0 + dx)) (wr .i64 (p.f1 + dy)) = b := ⟨_, rfl⟩
  rw [h1] at c1 ⊢
  rw [h2] at c2 ⊢
  rw [h3] at c3 ⊢
  rw [h4] at c4 ⊢
  clear h1 h2 h3 h4
  unfold cp
  refine Fn.by_sx hX (by kernel_rfl) c100 (by kernel_rfl) (by rfl) ?_
  simp [i100, sxa, sxb, sxc, Ex.ok, Ex.val, ← wr_eq]
  cases b1 <;> cases b2 <;> cases b3 <;> cases b4
  all_goals repeat' (first | intro _ | (simp [sxa, sxb, sxc, Ex.ok, Ex.val, ← wr_eq, *]) | refine CallS_i (c1) ?_ | refine CallS_i (c2) ?_ | refine CallS_i (c3) ?_ | refine CallS_i (c4) ?_ | refine CondS_d ?_ ?_ | refine CondS_b ?_ ?_ | refine GrdS_d ?_ ?_ | refine GrdS_b ?_ ?_ | refine OkS_i (by omega) ?_ | fail)
def putL (l : List Ft) (f : Ft) : List Ft := if wSrc (pfS l f) = true then pfS l f else l.map Ft.fr
theorem hitF_eq {l : List Ft} {f : Ft} (h : wAtF l f.f0 < l.length) : hitF l f = decide (l[wAtF l f.f0].f0 = f.f0) := by unfold hitF; simp [h]
theorem hitF_end {l : List Ft} {f : Ft} (h : ¬ wAtF l f.f0 < l.length) : hitF l f = false := by unfold hitF; simp [h]
theorem pfS_len (l : List Ft) (f : Ft) : (pfS l f).length ≤ l.length + 1 := by
  have := wAtF_le l f.f0
  unfold pfS
  split <;> simp <;> omega
theorem pfS_ok {l : List Ft} {f : Ft} {p : Ft → Prop} (hl : ∀ x ∈ l, p x.fr) (he : p f.fr) : ∀ x ∈ pfS l f, p x := by
  intro x hx
  unfold pfS at hx
  rcases List.mem_append.1 hx with h | h
  · obtain ⟨y, hy, rfl⟩ := List.mem_map.1 h
    exact hl y (List.mem_of_mem_take hy)
  · rcases List.mem_cons.1 h with rfl | h
    · exact he
    · obtain ⟨y, hy, rfl⟩ := List.mem_map.1 h
      exact hl y (List.mem_of_mem_drop hy)
theorem f84 (l : List Ft) (e : Ft) (nl : Bool) (hl : l.length ≤ 1048576) (hb : ∀ x ∈ l, x.okay) (he : e.okay) (hp : ∀ x ∈ l, x.f4.length ≤ 1000000000) (hpe : e.f4.length ≤ 1000000000) :
    Fn Tryz.prog 84 true [.lst 5 nl (l.map ft), .agg (ft e)] (.tup [.lst 5 false ((putL l e).map ft), .bool (wSrc (pfS l e))]) := by
  have hk := wAtF_le l e.f0
  have hee : ft e = [i e.f0, i e.f1, i e.f2, .str e.f3, .lst 2 e.nl (e.f4.map cp)] := rfl
  have hef : ft e.fr = [i e.f0, i e.f1, i e.f2, .str e.f3, .lst 2 false (e.f4.map cp)] := rfl
  have cC := f83 l nl (by omega) hp
  have cO := f69 (pfS l e) false (by have := pfS_len l e; omega) (pfS_ok (p := fun x => x.okay) (fun x hx => hb x hx) he)
  have cE := f122 e hpe
  have cP := f83 (l.take (wAtF l e.f0)) nl (by simp; omega) (fun x hx => hp x (List.mem_of_mem_take hx))
  have cR : ∀ j, Fn Tryz.prog 83 true [.lst 5 nl ((l.map ft).drop j)] (.lst 5 false (((l.drop j).map Ft.fr).map ft)) := fun j => by
    have := f83 (l.drop j) nl (by simp; omega) (fun x hx => hp x (List.mem_of_mem_drop hx))
    rw [List.map_drop] at this
    exact this
  rw [List.map_take] at cP
  have hpl : (((l.take (wAtF l e.f0)).map Ft.fr).map ft).length = wAtF l e.f0 := by simp; omega
  rw [hee, hef] at cE
  rw [hee]
  have hR : (putL l e).map ft = if wSrc (pfS l e) = true then (pfS l e).map ft else (l.map Ft.fr).map ft := by unfold putL; split <;> rfl
  rw [hR]
  obtain ⟨b2, hb2⟩ : ∃ b, wSrc (pfS l e) = b := ⟨_, rfl⟩
  rw [hb2] at cO ⊢
  have hto : (pfS l e).map ft = ((l.take (wAtF l e.f0)).map Ft.fr).map ft ++ [i e.f0, i e.f1, i e.f2, .str e.f3, .lst 2 false (e.f4.map cp)] :: ((l.drop (if hitF l e = true then wAtF l e.f0 + 1 else wAtF l e.f0)).map Ft.fr).map ft := by
    unfold pfS; rw [List.map_append, List.map_cons, hef]
  rw [hto] at cO ⊢
  obtain ⟨P1, hP1⟩ : ∃ P, ((l.take (wAtF l e.f0)).map Ft.fr).map ft = P := ⟨_, rfl⟩
  rw [hP1] at cP cO hpl ⊢
  obtain ⟨C, hC⟩ : ∃ C, (l.map Ft.fr).map ft = C := ⟨_, rfl⟩
  rw [hC] at cC ⊢
  obtain ⟨j, hj⟩ : ∃ j, (if hitF l e = true then wAtF l e.f0 + 1 else wAtF l e.f0) = j := ⟨_, rfl⟩
  rw [hj] at cO ⊢
  have cR' := cR j
  obtain ⟨P2, hP2⟩ : ∃ P, ((l.drop j).map Ft.fr).map ft = P := ⟨_, rfl⟩
  rw [hP2] at cO cR' ⊢
  have hP2l : P2.length ≤ l.length := by rw [← hP2]; simp
  clear cR hP1 hP2 hC hto hb2 hb hp hR hef hee
  refine Fn.by_sx hX (by kernel_rfl) c84 (by kernel_rfl) (by rfl) ?_
  simp [i84, sxa, sxb, sxc, Ex.ok, Ex.val, ← wr_eq]
  refine sx_count (wAtF l e.f0) (fun n V => V 0 = .lst 5 nl (l.map ft) ∧ V 3 = .ptr [i e.f0, i e.f1, i e.f2, .str e.f3, .lst 2 e.nl (e.f4.map cp)] ∧ V 6 = i n) 0 (by omega) (by simp [sxa, sxb, sxc, Ex.ok, Ex.val, ← wr_eq]) ?_
  rintro n V hn ⟨h0, h3, h6⟩
  have hw : wr .i64 ((n : Int) + 1) = n + 1 := wr_in (by omega) (by omega)
  simp [sxa, sxb, sxc, Ex.ok, Ex.val, ← wr_eq, h0, h3, h6]
  rcases Nat.lt_or_ge n (wAtF l e.f0) with hlt | hge
  · have hlt' : n < l.length := by omega
    have hx := wAtF_lt hlt hlt'
    clear cC cO cE cP cR'
    repeat' (first | intro _ | (simp [sxa, sxb, sxc, Ex.ok, Ex.val, ← wr_eq, ft, *]) | refine CondS_d ?_ ?_ | refine CondS_b ?_ ?_ | refine GrdS_d ?_ ?_ | refine GrdS_b ?_ ?_ | refine OkS_i (by omega) ?_ | fail)
  obtain rfl : n = wAtF l e.f0 := by omega
  have hT1 : List.take l.length (List.map ft l) = List.map ft l := List.take_of_length_le (by simp)
  have hT2 : List.take (l.length - wAtF l e.f0) (List.drop (wAtF l e.f0) (List.map ft l)) = List.drop (wAtF l e.f0) (List.map ft l) := List.take_of_length_le (by simp)
  have hT3 : (List.drop (wAtF l e.f0) (List.map ft l)).tail = List.drop (wAtF l e.f0 + 1) (List.map ft l) := by rw [List.tail_drop]
  by_cases hlt' : wAtF l e.f0 < l.length
  · have hx := wAtF_stop hlt'
    have hpos : 0 < l.length - wAtF l e.f0 := by omega
    have hh := hitF_eq hlt'
    by_cases hid : l[wAtF l e.f0].f0 = e.f0
    · rw [hh, if_pos (by simp [hid])] at hj
      subst hj
      cases b2
      all_goals repeat' (first | intro _ | (simp [sxa, sxb, sxc, Ex.ok, Ex.val, ← wr_eq, ft, *]) | refine CallS_i (cP) ?_ | refine CallS_i (cE) ?_ | refine CallS_i (cR') ?_ | refine CallS_i (cO) ?_ | refine CallS_i (cC) ?_ | refine CondS_d ?_ ?_ | refine CondS_b ?_ ?_ | refine GrdS_d ?_ ?_ | refine GrdS_b ?_ ?_ | refine OkS_i (by omega) ?_ | fail)
      all_goals first | omega | simp_all
    · rw [hh, if_neg (by simp [hid])] at hj
      subst hj
      cases b2
      all_goals repeat' (first | intro _ | (simp [sxa, sxb, sxc, Ex.ok, Ex.val, ← wr_eq, ft, *]) | refine CallS_i (cP) ?_ | refine CallS_i (cE) ?_ | refine CallS_i (cR') ?_ | refine CallS_i (cO) ?_ | refine CallS_i (cC) ?_ | refine CondS_d ?_ ?_ | refine CondS_b ?_ ?_ | refine GrdS_d ?_ ?_ | refine GrdS_b ?_ ?_ | refine OkS_i (by omega) ?_ | fail)
      all_goals first | omega | simp_all
  · rw [hitF_end hlt', if_neg (by simp)] at hj
    subst hj
    have hz : l.length - wAtF l e.f0 = 0 := by omega
    cases b2
    all_goals repeat' (first | intro _ | (simp [sxa, sxb, sxc, Ex.ok, Ex.val, ← wr_eq, ft, *]) | refine CallS_i (cP) ?_ | refine CallS_i (cE) ?_ | refine CallS_i (cR') ?_ | refine CallS_i (cO) ?_ | refine CallS_i (cC) ?_ | refine CondS_d ?_ ?_ | refine CondS_b ?_ ?_ | refine GrdS_d ?_ ?_ | refine GrdS_b ?_ ?_ | refine OkS_i (by omega) ?_ | fail)
    all_goals first | omega | simp_all
theorem f85 (l : List Ft) (id : Int) (nl : Bool) (hl : l.length ≤ 1048576) (hb : ∀ x ∈ l, x.okay) (hp : ∀ x ∈ l, x.f4.length ≤ 1000000000) :
    Fn Tryz.prog 85 true [.lst 5 nl (l.map ft), i id] (.tup [.lst 5 false ((if (wSrc l && decide (0 ≤ wFind l id)) = true then tkF l id else l.map Ft.fr).map ft), .bool (wSrc l && decide (0 ≤ wFind l id))]) := by
  have cC := f83 l nl (by omega) hp
  have cL := f69 l nl (by omega) hb
  have cF := f77 l nl id (by omega)
  have hwb := wFind_bound l id
  have cP := f83 (l.take (wFind l id).toNat) nl (by simp; omega) (fun x hx => hp x (List.mem_of_mem_take hx))
  have cR := f83 (l.drop ((wFind l id).toNat + 1)) nl (by simp; omega) (fun x hx => hp x (List.mem_of_mem_drop hx))
  rw [List.map_take] at cP
  rw [List.map_drop] at cR
  have hto : (tkF l id).map ft = ((l.take (wFind l id).toNat).map Ft.fr).map ft ++ ((l.drop ((wFind l id).toNat + 1)).map Ft.fr).map ft := by unfold tkF; simp
  have hR : (if (wSrc l && decide (0 ≤ wFind l id)) = true then tkF l id else l.map Ft.fr).map ft = if (wSrc l && decide (0 ≤ wFind l id)) = true then (tkF l id).map ft else (l.map Ft.fr).map ft := by split <;> rfl
  rw [hR, hto]
  obtain ⟨b1, hb1⟩ : ∃ b, wSrc l = b := ⟨_, rfl⟩
  rw [hb1] at cL ⊢
  have hpl : (((l.take (wFind l id).toNat).map Ft.fr).map ft).length ≤ l.length := by simp; omega
  have hql : (((l.drop ((wFind l id).toNat + 1)).map Ft.fr).map ft).length ≤ l.length := by simp
  obtain ⟨P1, hP1⟩ : ∃ P, ((l.take (wFind l id).toNat).map Ft.fr).map ft = P := ⟨_, rfl⟩
  obtain ⟨P2, hP2⟩ : ∃ P, ((l.drop ((wFind l id).toNat + 1)).map Ft.fr).map ft = P := ⟨_, rfl⟩
  obtain ⟨C, hC⟩ : ∃ C, (l.map Ft.fr).map ft = C := ⟨_, rfl⟩
  rw [hP1] at cP hpl ⊢
  rw [hP2] at cR hql ⊢
  rw [hC] at cC ⊢
  clear hP1 hP2 hC hR hto hb hp hb1
  obtain ⟨w, hwe⟩ : ∃ w, wFind l id = w := ⟨_, rfl⟩
  rw [hwe] at cF cP cR hwb ⊢
  clear hwe
  refine Fn.by_sx hX (by kernel_rfl) c85 (by kernel_rfl) (by rfl) ?_
  simp [i85, sxa, sxb, sxc, Ex.ok, Ex.val, ← wr_eq]
  by_cases hneg : w < 0
  · have hnn : ¬ 0 ≤ w := by omega
    cases b1
    all_goals repeat' (first | intro _ | (simp [sxa, sxb, sxc, Ex.ok, Ex.val, ← wr_eq, *]) | refine CallS_i (cF) ?_ | refine CallS_i (cL) ?_ | refine CallS_i (cC) ?_ | refine CondS_d ?_ ?_ | refine CondS_b ?_ ?_ | refine GrdS_d ?_ ?_ | refine GrdS_b ?_ ?_ | refine OkS_i (by omega) ?_ | fail)
  · have hnn : 0 ≤ w := by omega
    obtain ⟨k, rfl⟩ : ∃ k : Nat, w = k := ⟨w.toNat, by omega⟩
    simp only [Int.toNat_natCast] at cP cR
    have hw : wr .i64 ((k : Int) + 1) = k + 1 := wr_in (by omega) (by omega)
    have hT1 : List.take l.length (List.map ft l) = List.map ft l := List.take_of_length_le (by simp)
    have hT2 : List.take (l.length - (k + 1)) (List.drop (k + 1) (List.map ft l)) = List.drop (k + 1) (List.map ft l) := List.take_of_length_le (by simp)
    have hkn : ((k : Int) + 1).toNat = k + 1 := by omega
    cases b1
    all_goals repeat' (first | intro _ | (simp [sxa, sxb, sxc, Ex.ok, Ex.val, ← wr_eq, *]) | refine CallS_i (cF) ?_ | refine CallS_i (cL) ?_ | refine CallS_i (cC) ?_ | refine CallS_i (cP) ?_ | refine CallS_i (cR) ?_ | refine CondS_d ?_ ?_ | refine CondS_b ?_ ?_ | refine GrdS_d ?_ ?_ | refine GrdS_b ?_ ?_ | refine OkS_i (by omega) ?_ | fail)
    all_goals first | omega | simp_all
end Go.Eng
namespace Go.Eng
open Go Go.Proofs Go.Shelf
set_option linter.unusedSimpArgs false
set_option linter.unusedVariables false
set_option maxRecDepth 20000
set_option maxHeartbeats 1000000

/-! slices.Insert, slices.Delete -/
def rho98 : Ren := rhoI 98 135 136 32 36
theorem L98 : InsL Tryz.prog rho98 5 64 (zvOf Tryz.prog 36) where
  mixed := by kernel_rfl
  f22 := ⟨fnm Tryz.prog 98, by kernel_rfl, by kernel_rfl⟩
  f29 := fun args w => by
    rw [run_callFunc_extern (f := rho98.f 29) (fn := { Body2.n29 rho98 with name := fnm Tryz.prog 135 }) (by kernel_rfl) (by kernel_rfl) (by kernel_rfl) (by kernel_rfl) (e := Extern.SlicesOverlaps.overlaps #[(rho98.t 24), (rho98.t 24)] #[(rho98.t 4)]) (by kernel_rfl)]
  t0 := by kernel_rfl
  a0 := fun _ => by kernel_rfl
  z0 := fun _ => by kernel_rfl
  v0 := fun _ => by kernel_rfl
  t3 := by kernel_rfl
  a3 := fun _ => by kernel_rfl
  z3 := fun _ => by kernel_rfl
  v3 := fun _ => by kernel_rfl
  t4 := by kernel_rfl
  a4 := fun _ => by kernel_rfl
  z4 := fun _ => by kernel_rfl
  v4 := fun _ => by kernel_rfl
  z9 := fun _ => by kernel_rfl
  t24 := by kernel_rfl
  a24 := fun _ => by kernel_rfl
  z24 := fun _ => by kernel_rfl
  v24 := fun _ => by kernel_rfl
  i9 := by kernel_rfl
  hz := by omega
  hzc := by kernel_rfl
theorem f98 {nl : Bool} {els : List (List PV)} {v : List PV} {k : Nat} (hi : k ≤ els.length)
    (h63 : els.length + 1 ≤ 70368744177664) (hbig : (els.length + 1) * 64 ≤ 140737488355328) :
    FnX Tryz.prog 98 [.lst 5 nl els, i k, .lst 5 false [v]] (.lst 5 false (els.take k ++ v :: els.drop k)) := ins_X L98 (by kernel_rfl) hi h63 hbig
def rho99 : Ren := rhoD 99 32 36
theorem L99 : DelL Tryz.prog rho99 5 64 (zvOf Tryz.prog 36) where
  mixed := by kernel_rfl
  f24 := ⟨fnm Tryz.prog 99, by kernel_rfl, by kernel_rfl⟩
  t0 := by kernel_rfl
  a0 := fun _ => by kernel_rfl
  z0 := fun _ => by kernel_rfl
  v0 := fun _ => by kernel_rfl
  t3 := by kernel_rfl
  a3 := fun _ => by kernel_rfl
  z3 := fun _ => by kernel_rfl
  v3 := fun _ => by kernel_rfl
  t4 := by kernel_rfl
  a4 := fun _ => by kernel_rfl
  z4 := fun _ => by kernel_rfl
  v4 := fun _ => by kernel_rfl
  z9 := fun _ => by kernel_rfl
  v9 := fun _ => by kernel_rfl
  t24 := by kernel_rfl
  a24 := fun _ => by kernel_rfl
  z24 := fun _ => by kernel_rfl
  v24 := fun _ => by kernel_rfl
  i9 := by kernel_rfl
  hz := by omega
  hzc := by kernel_rfl
  h1 := by kernel_rfl
theorem f99 {nl : Bool} {els : List (List PV)} {k : Nat} (hi : k < els.length) (h63 : els.length ≤ 70368744177664) :
    FnX Tryz.prog 99 [.lst 5 nl els, i k, i ((k : Int) + 1)] (.lst 5 false (els.take k ++ els.drop (k + 1))) := del_X L99 (by kernel_rfl) hi h63
end Go.Eng
namespace Go.Eng
open Go Go.Proofs Geo
set_option linter.unusedSimpArgs false
set_option linter.unusedVariables false
set_option maxRecDepth 20000
set_option maxHeartbeats 1000000

/-! features put and taken in place. WRITES -/
theorem pfI_len (l : List Ft) (f : Ft) : (pfI l f).length ≤ l.length + 1 := by
  have := wAtF_le l f.f0
  unfold pfI
  split <;> simp <;> omega
theorem pfI_ok {l : List Ft} {f : Ft} {p : Ft → Prop} (hl : ∀ x ∈ l, p x.fr) (he : p f.fr) : ∀ x ∈ pfI l f, p x := by
  have h1 : ∀ x ∈ l.map Ft.fr, p x := fun x hx => by
    obtain ⟨y, hy, rfl⟩ := List.mem_map.1 hx
    exact hl y hy
  intro x hx
  unfold pfI at hx
  split at hx
  · rcases List.mem_or_eq_of_mem_set hx with h | rfl
    · exact h1 x h
    · exact he
  · rcases List.mem_append.1 hx with h | h
    · exact h1 x (List.mem_of_mem_take h)
    · rcases List.mem_cons.1 h with rfl | h
      · exact he
      · exact h1 x (List.mem_of_mem_drop h)
theorem f54 (l : List Ft) (e : Ft) (nl : Bool) (hl : l.length ≤ 1048576) (hb : ∀ x ∈ l, x.okay) (he : e.okay) (hp : ∀ x ∈ l, x.f4.length ≤ 1000000000) (hpe : e.f4.length ≤ 1000000000)
    (hn : ∀ x ∈ l, x.nl = false) (hne : e.nl = false) :
    Fn Tryz.prog 54 true [.lst 5 nl (l.map ft), .agg (ft e)] (.tup [.lst 5 false ((putL l e).map ft), .bool (wSrc (pfS l e))]) := by
  have hk := wAtF_le l e.f0
  have hee : ft e = [i e.f0, i e.f1, i e.f2, .str e.f3, .lst 2 false (e.f4.map cp)] := by unfold ft; rw [hne]
  have hef : ft e.fr = [i e.f0, i e.f1, i e.f2, .str e.f3, .lst 2 false (e.f4.map cp)] := rfl
  have cC := f57 l nl (by omega) hp hn
  have cO := f24 (pfI l e) false (by have := pfI_len l e; omega) (pfI_ok (p := fun x => x.okay) (fun x hx => hb x hx) he)
  have cE := f59 e hne hpe
  have cF := f58 l nl e.f0 (by omega)
  have hwb := wFind_bound l e.f0
  rw [hee, hef] at cE
  rw [hee]
  obtain ⟨hw1, hw2⟩ := pf_wSrc l e
  have hR : (putL l e).map ft = if wSrc (pfS l e) = true then (pfI l e).map ft else (l.map Ft.fr).map ft := by
    unfold putL
    split
    · rename_i h; rw [hw2 h]
    · rfl
  rw [hR]
  obtain ⟨b2, hb2⟩ : ∃ b, wSrc (pfS l e) = b := ⟨_, rfl⟩
  rw [hw1, hb2] at cO
  rw [hb2]
  have hto : (pfI l e).map ft = if 0 ≤ wFind l e.f0 then ((l.map Ft.fr).map ft).set (wFind l e.f0).toNat (ft e.fr) else ((l.map Ft.fr).map ft).take (wAtF l e.f0) ++ ft e.fr :: ((l.map Ft.fr).map ft).drop (wAtF l e.f0) := by
    unfold pfI
    split
    · rw [List.map_set]
    · rw [List.map_append, List.map_cons, List.map_take, List.map_drop]
  rw [hef] at hto
  obtain ⟨T, hT⟩ : ∃ T, (pfI l e).map ft = T := ⟨_, rfl⟩
  rw [hT] at cO hto ⊢
  obtain ⟨C, hC⟩ : ∃ C, (l.map Ft.fr).map ft = C := ⟨_, rfl⟩
  rw [hC] at cC hto ⊢
  have hCl : C.length = l.length := by rw [← hC]; simp
  have hC5 : ∀ cs ∈ C, cs.length = 5 := fun cs hcs => by
    rw [← hC] at hcs
    obtain ⟨y, _, rfl⟩ := List.mem_map.1 hcs
    rfl
  clear hw1 hw2 hR hb2 hT hC hef hee hb hp hn
  obtain ⟨w, hwe⟩ : ∃ w, wFind l e.f0 = w := ⟨_, rfl⟩
  rw [hwe] at cF hwb hto
  clear hwe
  refine Fn.by_sx hX (by kernel_rfl) c54 (by kernel_rfl) (by rfl) ?_
  simp [i54, sxa, sxb, sxc, Ex.ok, Ex.val, ← wr_eq]
  by_cases hneg : 0 ≤ w
  · obtain ⟨k, rfl⟩ : ∃ k : Nat, w = k := ⟨w.toNat, by omega⟩
    rw [if_pos hneg, Int.toNat_natCast] at hto
    replace hto := hto.symm
    have hkC : k < C.length := by omega
    have hkl : k < l.length := by omega
    have hd5 : List.drop 5 C[k] = [] := List.drop_of_length_le (by rw [hC5 _ (List.getElem_mem hkC)]; omega)
    clear hC5
    cases b2
    all_goals repeat' (first | intro _ | (simp [sxa, sxb, sxc, Ex.ok, Ex.val, ← wr_eq, *]) | refine CallS_i (cC) ?_ | refine CallS_i (cF) ?_ | refine CallS_i (cE) ?_ | refine CallS_i (cO) ?_ | refine CallX_i (cC) ?_ | refine CallX_i (cF) ?_ | refine CallX_i (cE) ?_ | refine CallX_i (cO) ?_ | refine CondS_d ?_ ?_ | refine CondS_b ?_ ?_ | refine GrdS_d ?_ ?_ | refine GrdS_b ?_ ?_ | refine OkS_i (by omega) ?_ | fail)
    all_goals first | omega | simp_all
  rw [if_neg hneg] at hto
  replace hto := hto.symm
  clear hC5
  repeat' (first | intro _ | (simp [sxa, sxb, sxc, Ex.ok, Ex.val, ← wr_eq, *]) | refine CallS_i (cC) ?_ | refine CallS_i (cF) ?_ | refine CallX_i (cC) ?_ | refine CallX_i (cF) ?_ | refine CondS_d ?_ ?_ | refine CondS_b ?_ ?_ | refine GrdS_d ?_ ?_ | refine GrdS_b ?_ ?_ | refine OkS_i (by omega) ?_ | fail)
  refine sx_count (wAtF l e.f0) (fun n V => V 0 = .lst 5 nl (l.map ft) ∧ V 3 = .ptr [i e.f0, i e.f1, i e.f2, .str e.f3, .lst 2 false (e.f4.map cp)] ∧ V 6 = .lst 5 false C ∧ V 8 = i n) 0 (by omega) (by simp [sxa, sxb, sxc, Ex.ok, Ex.val, ← wr_eq]) ?_
  rintro n V hn ⟨h0, h3, h6, h8⟩
  have hw : wr .i64 ((n : Int) + 1) = n + 1 := wr_in (by omega) (by omega)
  simp [sxa, sxb, sxc, Ex.ok, Ex.val, ← wr_eq, h0, h3, h8]
  rcases Nat.lt_or_ge n (wAtF l e.f0) with hlt | hge
  · have hlt' : n < l.length := by omega
    have hx := wAtF_lt hlt hlt'
    clear cC cO cE cF hto
    repeat' (first | intro _ | (simp [sxa, sxb, sxc, Ex.ok, Ex.val, ← wr_eq, ft, *]) | refine CondS_d ?_ ?_ | refine CondS_b ?_ ?_ | refine GrdS_d ?_ ?_ | refine GrdS_b ?_ ?_ | refine OkS_i (by omega) ?_ | fail)
  obtain rfl : n = wAtF l e.f0 := by omega
  have hI := f98 (nl := false) (els := C) (v := [i e.f0, i e.f1, i e.f2, .str e.f3, .lst 2 false (e.f4.map cp)]) (k := wAtF l e.f0) (by omega) (by omega) (by omega)
  rw [hto] at hI
  clear hto
  by_cases hlt' : wAtF l e.f0 < l.length
  · have hx := wAtF_stop hlt'
    cases b2
    all_goals repeat' (first | intro _ | (simp [sxa, sxb, sxc, Ex.ok, Ex.val, ← wr_eq, ft, *]) | refine CallS_i (cE) ?_ | refine CallS_i (hI) ?_ | refine CallS_i (cO) ?_ | refine CallS_i (cC) ?_ | refine CallX_i (cE) ?_ | refine CallX_i (hI) ?_ | refine CallX_i (cO) ?_ | refine CallX_i (cC) ?_ | refine CondS_d ?_ ?_ | refine CondS_b ?_ ?_ | refine GrdS_d ?_ ?_ | refine GrdS_b ?_ ?_ | refine OkS_i (by omega) ?_ | fail)
    all_goals first | omega | simp_all
  · cases b2
    all_goals repeat' (first | intro _ | (simp [sxa, sxb, sxc, Ex.ok, Ex.val, ← wr_eq, ft, *]) | refine CallS_i (cE) ?_ | refine CallS_i (hI) ?_ | refine CallS_i (cO) ?_ | refine CallS_i (cC) ?_ | refine CallX_i (cE) ?_ | refine CallX_i (hI) ?_ | refine CallX_i (cO) ?_ | refine CallX_i (cC) ?_ | refine CondS_d ?_ ?_ | refine CondS_b ?_ ?_ | refine GrdS_d ?_ ?_ | refine GrdS_b ?_ ?_ | refine OkS_i (by omega) ?_ | fail)
    all_goals first | omega | simp_all
theorem f55 (l : List Ft) (id : Int) (nl : Bool) (hl : l.length ≤ 1048576) (hb : ∀ x ∈ l, x.okay) (hp : ∀ x ∈ l, x.f4.length ≤ 1000000000) (hn : ∀ x ∈ l, x.nl = false) :
    Fn Tryz.prog 55 true [.lst 5 nl (l.map ft), i id] (.tup [.lst 5 false ((if (wSrc l && decide (0 ≤ wFind l id)) = true then tkF l id else l.map Ft.fr).map ft), .bool (wSrc l && decide (0 ≤ wFind l id))]) := by
  have cC := f57 l nl (by omega) hp hn
  have cL := f24 l nl (by omega) hb
  have cF := f58 l nl id (by omega)
  have hwb := wFind_bound l id
  have hto : (tkF l id).map ft = ((l.map Ft.fr).map ft).take (wFind l id).toNat ++ ((l.map Ft.fr).map ft).drop ((wFind l id).toNat + 1) := by unfold tkF; simp
  have hR : (if (wSrc l && decide (0 ≤ wFind l id)) = true then tkF l id else l.map Ft.fr).map ft = if (wSrc l && decide (0 ≤ wFind l id)) = true then (tkF l id).map ft else (l.map Ft.fr).map ft := by split <;> rfl
  rw [hR]
  obtain ⟨b1, hb1⟩ : ∃ b, wSrc l = b := ⟨_, rfl⟩
  rw [hb1] at cL ⊢
  obtain ⟨C, hC⟩ : ∃ C, (l.map Ft.fr).map ft = C := ⟨_, rfl⟩
  obtain ⟨T, hT⟩ : ∃ T, (tkF l id).map ft = T := ⟨_, rfl⟩
  rw [hC] at cC hto ⊢
  rw [hT] at hto ⊢
  have hCl : C.length = l.length := by rw [← hC]; simp
  clear hC hT hR hb hp hb1 hn
  obtain ⟨w, hwe⟩ : ∃ w, wFind l id = w := ⟨_, rfl⟩
  rw [hwe] at cF hwb hto ⊢
  clear hwe
  refine Fn.by_sx hX (by kernel_rfl) c55 (by kernel_rfl) (by rfl) ?_
  simp [i55, sxa, sxb, sxc, Ex.ok, Ex.val, ← wr_eq]
  by_cases hneg : w < 0
  · have hnn : ¬ 0 ≤ w := by omega
    cases b1
    all_goals repeat' (first | intro _ | (simp [sxa, sxb, sxc, Ex.ok, Ex.val, ← wr_eq, *]) | refine CallS_i (cF) ?_ | refine CallS_i (cL) ?_ | refine CallS_i (cC) ?_ | refine CallX_i (cF) ?_ | refine CallX_i (cL) ?_ | refine CallX_i (cC) ?_ | refine CondS_d ?_ ?_ | refine CondS_b ?_ ?_ | refine GrdS_d ?_ ?_ | refine GrdS_b ?_ ?_ | refine OkS_i (by omega) ?_ | fail)
  · have hnn : 0 ≤ w := by omega
    obtain ⟨k, rfl⟩ : ∃ k : Nat, w = k := ⟨w.toNat, by omega⟩
    have hw : wr .i64 ((k : Int) + 1) = k + 1 := wr_in (by omega) (by omega)
    have hD := f99 (nl := false) (els := C) (k := k) (by omega) (by omega)
    rw [Int.toNat_natCast] at hto
    rw [← hto] at hD
    clear hto
    cases b1
    all_goals repeat' (first | intro _ | (simp [sxa, sxb, sxc, Ex.ok, Ex.val, ← wr_eq, *]) | refine CallS_i (cF) ?_ | refine CallS_i (cL) ?_ | refine CallS_i (cC) ?_ | refine CallS_i (hD) ?_ | refine CallX_i (cF) ?_ | refine CallX_i (cL) ?_ | refine CallX_i (cC) ?_ | refine CallX_i (hD) ?_ | refine CondS_d ?_ ?_ | refine CondS_b ?_ ?_ | refine GrdS_d ?_ ?_ | refine GrdS_b ?_ ?_ | refine OkS_i (by omega) ?_ | fail)
    all_goals first | omega | simp_all
end Go.Eng
namespace Go.Eng
open Go Go.Proofs Geo Go.RowKit
set_option linter.unusedSimpArgs false
set_option linter.unusedVariables false
set_option maxRecDepth 20000
set_option maxHeartbeats 1000000

/-! a feature is moved. WRITES -/
def mvN (dx dy : Int) : List Pt → Nat
  | [] => 0
  | p :: r => if mvOK p dx dy = true then mvN dx dy r + 1 else 0
theorem mvN_le (dx dy : Int) : ∀ l : List Pt, mvN dx dy l ≤ l.length
  | [] => Nat.le_refl _
  | p :: r => by have := mvN_le dx dy r; unfold mvN; split <;> simp <;> omega
theorem mvN_lt {dx dy : Int} : ∀ {l : List Pt} {n : Nat} (hn : n < mvN dx dy l) (h : n < l.length), mvOK l[n] dx dy = true
  | [], _, _, h => by simp at h
  | p :: r, 0, hn, h => by
    unfold mvN at hn
    split at hn
    · assumption
    · omega
  | p :: r, n + 1, hn, h => by
    unfold mvN at hn
    split at hn
    · exact mvN_lt (l := r) (n := n) (by omega) (by simpa using h)
    · omega
theorem mvN_stop {dx dy : Int} : ∀ {l : List Pt} (h : mvN dx dy l < l.length), mvOK l[mvN dx dy l] dx dy = false
  | [], h => by simp at h
  | p :: r, h => by
    by_cases hx : mvOK p dx dy = true
    · have e : mvN dx dy (p :: r) = mvN dx dy r + 1 := by simp [mvN, hx]
      simp only [e, List.getElem_cons_succ]
      exact mvN_stop (l := r) (by rw [e] at h; simpa using h)
    · have e : mvN dx dy (p :: r) = 0 := by simp [mvN, hx]
      simp only [e, List.getElem_cons_zero]
      simpa using hx
def mvTo (dx dy : Int) (l : List Pt) (n : Nat) : List Pt := (l.take n).map (fun p => mv p dx dy) ++ l.drop n
theorem mvTo_zero (dx dy : Int) (l : List Pt) : mvTo dx dy l 0 = l := rfl
theorem mvTo_len (dx dy : Int) (l : List Pt) (n : Nat) : (mvTo dx dy l n).length = l.length := by unfold mvTo; simp; omega
theorem mvTo_at {dx dy : Int} {l : List Pt} {n : Nat} (h : n < l.length) : (mvTo dx dy l n)[n]? = some l[n] := by
  unfold mvTo
  rw [List.getElem?_append_right (by simp; omega), List.length_map, List.length_take, Nat.min_eq_left (by omega), Nat.sub_self, List.getElem?_drop, Nat.add_zero, List.getElem?_eq_getElem h]
theorem mvTo_set {dx dy : Int} {l : List Pt} {n : Nat} (h : n < l.length) : (mvTo dx dy l n).set n (mv l[n] dx dy) = mvTo dx dy l (n + 1) := by
  unfold mvTo
  rw [List.set_append_right _ _ (by simp; omega), List.length_map, List.length_take, Nat.min_eq_left (by omega), Nat.sub_self, List.drop_eq_getElem_cons h, List.set_cons_zero, List.take_add_one, List.getElem?_eq_getElem h, List.map_append, List.append_assoc]
  rfl
def mvX (dx dy : Int) (x : Ft) (n : Nat) : Ft := { x.fr with f4 := mvTo dx dy x.f4 n }
def mvF (l : List Ft) (k : Nat) (dx dy : Int) (n : Nat) : List Ft := (l.map Ft.fr).set k (mvX dx dy (l.getD k ftD) n)
theorem mvF_zero {l : List Ft} {k : Nat} {dx dy : Int} (hk : k < l.length) : mvF l k dx dy 0 = l.map Ft.fr := by
  unfold mvF mvX
  rw [mvTo_zero]
  have e : l.getD k ftD = l[k] := by simp [hk]
  rw [e]
  have : ({ l[k].fr with f4 := l[k].f4 } : Ft) = (l.map Ft.fr)[k]'(by simpa using hk) := by simp [Ft.fr]
  rw [this, List.set_getElem_self]
theorem mvF_at {l : List Ft} {k : Nat} {dx dy : Int} {n : Nat} (hk : k < l.length) : ((mvF l k dx dy n).map ft)[k]? = some [i l[k].f0, i l[k].f1, i l[k].f2, .str l[k].f3, .lst 2 false ((mvTo dx dy l[k].f4 n).map cp)] := by
  have e : l.getD k ftD = l[k] := by simp [hk]
  unfold mvF
  rw [List.getElem?_map, List.getElem?_set_self (by simpa using hk), e]
  rfl
theorem mvF_set {l : List Ft} {k : Nat} {dx dy : Int} {n : Nat} (hk : k < l.length) (hn : n < l[k].f4.length) :
    ((mvF l k dx dy n).map ft).set k [i l[k].f0, i l[k].f1, i l[k].f2, .str l[k].f3, .lst 2 false (((mvTo dx dy l[k].f4 n).map cp).set n (cp (mv l[k].f4[n] dx dy)))] = (mvF l k dx dy (n + 1)).map ft := by
  have e : l.getD k ftD = l[k] := by simp [hk]
  unfold mvF
  rw [List.map_set, List.set_set, List.map_set, e]
  congr 1
  unfold mvX ft Ft.fr
  rw [← mvTo_set hn, List.map_set]
theorem mvF_len (l : List Ft) (k : Nat) (dx dy : Int) (n : Nat) : (mvF l k dx dy n).length = l.length := by unfold mvF; simp
def mvK (l : List Ft) (id : Int) : List Pt := (l.getD (wFind l id).toNat ftD).f4
def mvO (l : List Ft) (e : Ei) : List Ft := if 0 ≤ wFind l e.f2 then mvF l (wFind l e.f2).toNat e.f3 e.f4 (mvN e.f3 e.f4 (mvK l e.f2)) else l.map Ft.fr
def mvB (l : List Ft) (e : Ei) : Bool := decide (0 ≤ wFind l e.f2) && decide (mvN e.f3 e.f4 (mvK l e.f2) = (mvK l e.f2).length)
theorem f86 (l : List Ft) (e : Ei) (nl : Bool) (hl : l.length ≤ 1048576) (hp : ∀ x ∈ l, x.f4.length ≤ 1000000000) :
    Fn Tryz.prog 86 true [.lst 5 nl (l.map ft), .agg (ei e)] (.tup [.lst 5 false ((if mvB l e = true then mvO l e else l.map Ft.fr).map ft), .bool (mvB l e)]) := by
  have cC := f83 l nl (by omega) hp
  have cF := f77 l nl e.f2 (by omega)
  have hwb := wFind_bound l e.f2
  have hee : ei e = [i e.f0, i e.f1.f0, i e.f1.f1, i e.f1.f2, .str e.f1.f3, .lst 2 e.f1.nl (e.f1.f4.map cp), i e.f2, i e.f3, i e.f4] := rfl
  rw [hee]
  have hR : (if mvB l e = true then mvO l e else l.map Ft.fr).map ft = if mvB l e = true then (mvO l e).map ft else (l.map Ft.fr).map ft := by split <;> rfl
  rw [hR]
  unfold mvB mvO mvK
  obtain ⟨C, hC⟩ : ∃ C, (l.map Ft.fr).map ft = C := ⟨_, rfl⟩
  rw [hC] at cC ⊢
  have hCl : C.length = l.length := by rw [← hC]; simp
  obtain ⟨w, hwe⟩ : ∃ w, wFind l e.f2 = w := ⟨_, rfl⟩
  rw [hwe] at cF hwb ⊢
  clear hwe hR hee
  refine Fn.by_sx hX (by kernel_rfl) c86 (by kernel_rfl) (by rfl) ?_
  simp [i86, sxa, sxb, sxc, Ex.ok, Ex.val, ← wr_eq]
  by_cases hneg : w < 0
  · have hnn : ¬ 0 ≤ w := by omega
    repeat' (first | intro _ | (simp [sxa, sxb, sxc, Ex.ok, Ex.val, ← wr_eq, *]) | refine CallS_i (cF) ?_ | refine CallS_i (cC) ?_ | refine CondS_d ?_ ?_ | refine CondS_b ?_ ?_ | refine GrdS_d ?_ ?_ | refine GrdS_b ?_ ?_ | refine OkS_i (by omega) ?_ | fail)
  obtain ⟨k, rfl⟩ : ∃ k : Nat, w = k := ⟨w.toNat, by omega⟩
  have hkl : k < l.length := by omega
  have hd : l.getD k ftD = l[k] := by simp [hkl]
  have h0k : (0 : Int) ≤ k := by omega
  simp only [h0k, if_true, decide_true, Bool.true_and, Int.toNat_natCast, hd]
  have hxp := hp l[k] (List.getElem_mem ..)
  clear hp
  have hNle := mvN_le e.f3 e.f4 l[k].f4
  have hz2 : Hid (C = (mvF l k e.f3 e.f4 0).map ft) := by rw [mvF_zero (dx := e.f3) (dy := e.f4) hkl]; exact hC.symm
  clear hC
  repeat' (first | intro _ | (simp [sxa, sxb, sxc, Ex.ok, Ex.val, ← wr_eq, *]) | refine CallS_i (cF) ?_ | refine CallS_i (cC) ?_ | refine CondS_d ?_ ?_ | refine CondS_b ?_ ?_ | refine GrdS_d ?_ ?_ | refine GrdS_b ?_ ?_ | refine OkS_i (by omega) ?_ | fail)
  refine sx_count (mvN e.f3 e.f4 l[k].f4) (fun n V => V 0 = .lst 5 nl (l.map ft) ∧ V 3 = .ptr [i e.f0, i e.f1.f0, i e.f1.f1, i e.f1.f2, .str e.f1.f3, .lst 2 e.f1.nl (e.f1.f4.map cp), i e.f2, i e.f3, i e.f4] ∧ V 6 = .lst 5 false ((mvF l k e.f3 e.f4 n).map ft) ∧ V 7 = i k ∧ V 8 = i n) 0 (by omega) (by simp [sxa, sxb, sxc, Ex.ok, Ex.val, ← wr_eq]; exact hz2.out) ?_
  rintro n V hn ⟨h0, h3, h6, h7, h8⟩
  have hw : wr .i64 ((n : Int) + 1) = n + 1 := wr_in (by omega) (by omega)
  have hat := mvF_at (l := l) (k := k) (dx := e.f3) (dy := e.f4) (n := n) hkl
  have hal := mvF_len l k e.f3 e.f4 n
  have hbl := mvTo_len e.f3 e.f4 l[k].f4 n
  clear hz2
  obtain ⟨x, hx⟩ : ∃ x, l[k] = x := ⟨_, rfl⟩
  have hset : ∀ hn : n < x.f4.length, ((mvF l k e.f3 e.f4 n).map ft).set k [i x.f0, i x.f1, i x.f2, .str x.f3, .lst 2 false (((mvTo e.f3 e.f4 x.f4 n).map cp).set n (cp (mv x.f4[n] e.f3 e.f4)))] = (mvF l k e.f3 e.f4 (n + 1)).map ft := by
    subst hx
    exact fun hn => mvF_set hkl hn
  have hBl : ((mvTo e.f3 e.f4 l[k].f4 n).map cp).length = l[k].f4.length := by rw [List.length_map, mvTo_len]
  have hAl : ((mvF l k e.f3 e.f4 n).map ft).length = l.length := by rw [List.length_map, mvF_len]
  have hBt : ∀ hn : n < x.f4.length, ((mvTo e.f3 e.f4 x.f4 n).map cp)[n]? = some (cp x.f4[n]) := fun hn => by rw [List.getElem?_map, mvTo_at hn]; rfl
  rw [hx] at hat hBl hn hNle hxp hbl
  rw [hx]
  obtain ⟨A, hA⟩ : ∃ A, (mvF l k e.f3 e.f4 n).map ft = A := ⟨_, rfl⟩
  obtain ⟨A', hA'⟩ : ∃ A, (mvF l k e.f3 e.f4 (n + 1)).map ft = A := ⟨_, rfl⟩
  obtain ⟨B, hB⟩ : ∃ B, (mvTo e.f3 e.f4 x.f4 n).map cp = B := ⟨_, rfl⟩
  rw [hA, hB] at hset
  rw [hA'] at hset
  rw [hA] at hat hAl h6
  rw [hB] at hat hBt hBl
  obtain ⟨hkA, hatA⟩ := get_of hat
  simp [sxa, sxb, sxc, Ex.ok, Ex.val, ← wr_eq, h0, h3, h6, h7, h8]
  rcases Nat.lt_or_ge n (mvN e.f3 e.f4 x.f4) with hlt | hge
  · have hlt' : n < x.f4.length := by omega
    have hok := mvN_lt hlt hlt'
    have cM := f123 x.f4[n] e.f3 e.f4
    unfold mvR at cM
    rw [hok, if_pos rfl] at cM
    have hs := hset hlt'
    obtain ⟨hnB, hatB⟩ := get_of (hBt hlt')
    obtain ⟨p, hp⟩ : ∃ p, x.f4[n] = p := ⟨_, rfl⟩
    rw [hp] at cM hs hatB
    obtain ⟨q, hq⟩ : ∃ q, mv p e.f3 e.f4 = q := ⟨_, rfl⟩
    rw [hq] at cM hs
    unfold cp at cM hs hatB
    clear hset hBt hq hp hok cF cC hA hB hat hx
    repeat' (first | intro _ | (simp [sxa, sxb, sxc, Ex.ok, Ex.val, ← wr_eq, *]) | refine CallS_i (cM) ?_ | refine CondS_d ?_ ?_ | refine CondS_b ?_ ?_ | refine GrdS_d ?_ ?_ | refine GrdS_b ?_ ?_ | refine OkS_i (by omega) ?_ | fail)
  · obtain rfl : n = mvN e.f3 e.f4 x.f4 := by omega
    rw [hA]
    by_cases hend : mvN e.f3 e.f4 x.f4 = x.f4.length
    · clear hset hBt hat hx cF cC hA hA' hB
      repeat' (first | intro _ | (simp [sxa, sxb, sxc, Ex.ok, Ex.val, ← wr_eq, *]) | refine CondS_d ?_ ?_ | refine CondS_b ?_ ?_ | refine GrdS_d ?_ ?_ | refine GrdS_b ?_ ?_ | refine OkS_i (by omega) ?_ | fail)
    · have hlt' : mvN e.f3 e.f4 x.f4 < x.f4.length := by omega
      have hbad := mvN_stop hlt'
      have cM := f123 x.f4[mvN e.f3 e.f4 x.f4] e.f3 e.f4
      unfold mvR at cM
      rw [hbad, if_neg (by simp)] at cM
      obtain ⟨hnB, hatB⟩ := get_of (hBt hlt')
      obtain ⟨p, hp⟩ : ∃ p, x.f4[mvN e.f3 e.f4 x.f4] = p := ⟨_, rfl⟩
      rw [hp] at cM hatB
      unfold cp at cM hatB
      clear hset hBt hat hx hp cF hbad hA hA' hB
      repeat' (first | intro _ | (simp [sxa, sxb, sxc, Ex.ok, Ex.val, ← wr_eq, *]) | refine CallS_i (cM) ?_ | refine CallS_i (cC) ?_ | refine CondS_d ?_ ?_ | refine CondS_b ?_ ?_ | refine GrdS_d ?_ ?_ | refine GrdS_b ?_ ?_ | refine OkS_i (by omega) ?_ | fail)
end Go.Eng
namespace Go.Eng
open Go Go.Proofs Geo Go.RowKit
set_option linter.unusedSimpArgs false
set_option linter.unusedVariables false
set_option maxRecDepth 20000
set_option maxHeartbeats 1000000

/-! a feature is moved in place; edits applied. WRITES -/
theorem mvF_ok {l : List Ft} {k : Nat} {dx dy : Int} {n : Nat} {p : Ft → Prop} (hk : k < l.length) (h1 : ∀ x ∈ l, p x.fr) (h2 : ∀ x ∈ l, p (mvX dx dy x n)) : ∀ y ∈ mvF l k dx dy n, p y := by
  intro y hy
  unfold mvF at hy
  rcases List.mem_or_eq_of_mem_set hy with h | rfl
  · obtain ⟨z, hz, rfl⟩ := List.mem_map.1 h
    exact h1 z hz
  · have e : l.getD k ftD = l[k] := by simp [hk]
    rw [e]
    exact h2 _ (List.getElem_mem hk)
theorem mvX_len (dx dy : Int) (x : Ft) (n : Nat) : (mvX dx dy x n).f4.length = x.f4.length := by unfold mvX; exact mvTo_len dx dy x.f4 n
theorem f56 (l : List Ft) (e : Ei) (nl : Bool) (hl : l.length ≤ 1048576) (hp : ∀ x ∈ l, x.f4.length ≤ 1000000000) (hb : ∀ x ∈ l, x.okay) (hn : ∀ x ∈ l, x.nl = false) :
    Fn Tryz.prog 56 true [.lst 5 nl (l.map ft), .agg (ei e)] (.tup [.lst 5 false ((mvO l e).map ft), .bool (mvB l e && wSrc (mvO l e))]) := by
  have cC := f57 l nl (by omega) hp hn
  have cF := f58 l nl e.f2 (by omega)
  have hwb := wFind_bound l e.f2
  have hee : ei e = [i e.f0, i e.f1.f0, i e.f1.f1, i e.f1.f2, .str e.f1.f3, .lst 2 e.f1.nl (e.f1.f4.map cp), i e.f2, i e.f3, i e.f4] := rfl
  rw [hee]
  unfold mvB mvO mvK
  obtain ⟨C, hC⟩ : ∃ C, (l.map Ft.fr).map ft = C := ⟨_, rfl⟩
  rw [hC] at cC
  have hCl : C.length = l.length := by rw [← hC]; simp
  obtain ⟨w, hwe⟩ : ∃ w, wFind l e.f2 = w := ⟨_, rfl⟩
  rw [hwe] at cF hwb ⊢
  clear hwe hee
  refine Fn.by_sx hX (by kernel_rfl) c56 (by kernel_rfl) (by rfl) ?_
  simp [i56, sxa, sxb, sxc, Ex.ok, Ex.val, ← wr_eq]
  by_cases hneg : w < 0
  · have hnn : ¬ 0 ≤ w := by omega
    have hC2 : List.map (ft ∘ Ft.fr) l = C := by rw [← hC, List.map_map]
    repeat' (first | intro _ | (simp [sxa, sxb, sxc, Ex.ok, Ex.val, ← wr_eq, *]) | refine CallS_i (cF) ?_ | refine CallS_i (cC) ?_ | refine CondS_d ?_ ?_ | refine CondS_b ?_ ?_ | refine GrdS_d ?_ ?_ | refine GrdS_b ?_ ?_ | refine OkS_i (by omega) ?_ | fail)
  obtain ⟨k, rfl⟩ : ∃ k : Nat, w = k := ⟨w.toNat, by omega⟩
  have hkl : k < l.length := by omega
  have hd : l.getD k ftD = l[k] := by simp [hkl]
  have h0k : (0 : Int) ≤ k := by omega
  simp only [h0k, if_true, decide_true, Bool.true_and, Int.toNat_natCast, hd]
  have hxp := hp l[k] (List.getElem_mem ..)
  have cO := f24 (mvF l k e.f3 e.f4 l[k].f4.length) false (by rw [mvF_len]; omega) (mvF_ok (p := fun x => x.okay) hkl (fun x hx => hb x hx) (fun x hx => ⟨(hb x hx).1, by rw [mvX_len]; exact (hb x hx).2⟩))
  clear hp hb hn
  have hNle := mvN_le e.f3 e.f4 l[k].f4
  have hz2 : Hid (C = (mvF l k e.f3 e.f4 0).map ft) := by rw [mvF_zero (dx := e.f3) (dy := e.f4) hkl]; exact hC.symm
  clear hC
  repeat' (first | intro _ | (simp [sxa, sxb, sxc, Ex.ok, Ex.val, ← wr_eq, ft, *]) | refine CallS_i (cF) ?_ | refine CallS_i (cC) ?_ | refine CondS_d ?_ ?_ | refine CondS_b ?_ ?_ | refine GrdS_d ?_ ?_ | refine GrdS_b ?_ ?_ | refine OkS_i (by omega) ?_ | fail)
  refine sx_count (mvN e.f3 e.f4 l[k].f4) (fun n V => V 3 = .ptr [i e.f0, i e.f1.f0, i e.f1.f1, i e.f1.f2, .str e.f1.f3, .lst 2 e.f1.nl (e.f1.f4.map cp), i e.f2, i e.f3, i e.f4] ∧ V 6 = .lst 5 false ((mvF l k e.f3 e.f4 n).map ft) ∧ V 7 = i k ∧ V 25 = .lst 2 l[k].nl (l[k].f4.map cp) ∧ V 26 = i l[k].f4.length ∧ V 27 = i n) 0 (by omega) (by simp [sxa, sxb, sxc, Ex.ok, Ex.val, ← wr_eq]; exact hz2.out) ?_
  rintro n V hn ⟨h3, h6, h7, h25, h26, h27⟩
  have hw : wr .i64 ((n : Int) + 1) = n + 1 := wr_in (by omega) (by omega)
  have hat := mvF_at (l := l) (k := k) (dx := e.f3) (dy := e.f4) (n := n) hkl
  have hal := mvF_len l k e.f3 e.f4 n
  have hbl := mvTo_len e.f3 e.f4 l[k].f4 n
  clear hz2 cF cC
  obtain ⟨x, hx⟩ : ∃ x, l[k] = x := ⟨_, rfl⟩
  have hset : ∀ hn : n < x.f4.length, ((mvF l k e.f3 e.f4 n).map ft).set k [i x.f0, i x.f1, i x.f2, .str x.f3, .lst 2 false (((mvTo e.f3 e.f4 x.f4 n).map cp).set n (cp (mv x.f4[n] e.f3 e.f4)))] = (mvF l k e.f3 e.f4 (n + 1)).map ft := by
    subst hx
    exact fun hn => mvF_set hkl hn
  have hBl : ((mvTo e.f3 e.f4 l[k].f4 n).map cp).length = l[k].f4.length := by rw [List.length_map, mvTo_len]
  have hAl : ((mvF l k e.f3 e.f4 n).map ft).length = l.length := by rw [List.length_map, mvF_len]
  have hBt : ∀ hn : n < x.f4.length, ((mvTo e.f3 e.f4 x.f4 n).map cp)[n]? = some (cp x.f4[n]) := fun hn => by rw [List.getElem?_map, mvTo_at hn]; rfl
  rw [hx] at hat hBl hn hNle hxp hbl h25 h26 cO
  rw [hx]
  obtain ⟨B, hB⟩ : ∃ B, (mvTo e.f3 e.f4 x.f4 n).map cp = B := ⟨_, rfl⟩
  obtain ⟨A', hA'⟩ : ∃ A, (mvF l k e.f3 e.f4 (n + 1)).map ft = A := ⟨_, rfl⟩
  rw [hB, hA'] at hset
  rw [hB] at hat hBt hBl
  rcases Nat.lt_or_ge n (mvN e.f3 e.f4 x.f4) with hlt | hge
  · obtain ⟨A, hA⟩ : ∃ A, (mvF l k e.f3 e.f4 n).map ft = A := ⟨_, rfl⟩
    rw [hA] at hset hat hAl h6
    obtain ⟨hkA, hatA⟩ := get_of hat
    simp [sxa, sxb, sxc, Ex.ok, Ex.val, ← wr_eq, h26, h27]
    have hlt' : n < x.f4.length := by omega
    have hok := mvN_lt hlt hlt'
    have cM := f100 x.f4[n] e.f3 e.f4
    unfold mvR at cM
    rw [hok, if_pos rfl] at cM
    have hs := hset hlt'
    obtain ⟨hnB, hatB⟩ := get_of (hBt hlt')
    have hP : (x.f4.map cp)[n]'(by simpa using hlt') = cp x.f4[n] := by simp
    obtain ⟨p, hp⟩ : ∃ p, x.f4[n] = p := ⟨_, rfl⟩
    rw [hp] at cM hs hatB hP
    obtain ⟨q, hq⟩ : ∃ q, mv p e.f3 e.f4 = q := ⟨_, rfl⟩
    rw [hq] at cM hs
    unfold cp at cM hs hatB
    clear hset hBt hq hok hA hB hat hx cO hP
    repeat' (first | intro _ | (simp [sxa, sxb, sxc, Ex.ok, Ex.val, ← wr_eq, cp, *]) | refine CallS_i (cM) ?_ | refine CondS_d ?_ ?_ | refine CondS_b ?_ ?_ | refine GrdS_d ?_ ?_ | refine GrdS_b ?_ ?_ | refine OkS_i (by omega) ?_ | fail)
  · obtain rfl : n = mvN e.f3 e.f4 x.f4 := by omega
    simp [sxa, sxb, sxc, Ex.ok, Ex.val, ← wr_eq, h26, h27]
    by_cases hend : mvN e.f3 e.f4 x.f4 = x.f4.length
    · clear hset hBt hat hx hA' hB
      obtain ⟨bs, hbs⟩ : ∃ b, wSrc (mvF l k e.f3 e.f4 x.f4.length) = b := ⟨_, rfl⟩
      rw [hbs] at cO
      repeat' (first | intro _ | (simp [sxa, sxb, sxc, Ex.ok, Ex.val, ← wr_eq, *]) | refine CallS_i (cO) ?_ | refine CondS_d ?_ ?_ | refine CondS_b ?_ ?_ | refine GrdS_d ?_ ?_ | refine GrdS_b ?_ ?_ | refine OkS_i (by omega) ?_ | fail)
    · have hlt' : mvN e.f3 e.f4 x.f4 < x.f4.length := by omega
      have hbad := mvN_stop hlt'
      have cM := f100 x.f4[mvN e.f3 e.f4 x.f4] e.f3 e.f4
      unfold mvR at cM
      rw [hbad, if_neg (by simp)] at cM
      obtain ⟨p, hp⟩ : ∃ p, x.f4[mvN e.f3 e.f4 x.f4] = p := ⟨_, rfl⟩
      rw [hp] at cM
      unfold cp at cM
      clear hset hBt hat hx hbad hA' hB cO
      repeat' (first | intro _ | (simp [sxa, sxb, sxc, Ex.ok, Ex.val, ← wr_eq, cp, *]) | refine CallS_i (cM) ?_ | refine CondS_d ?_ ?_ | refine CondS_b ?_ ?_ | refine GrdS_d ?_ ?_ | refine GrdS_b ?_ ?_ | refine OkS_i (by omega) ?_ | fail)
end Go.Eng
namespace Go.Eng
open Go Go.Proofs Geo Go.RowKit
set_option linter.unusedSimpArgs false
set_option linter.unusedVariables false
set_option maxRecDepth 20000
set_option maxHeartbeats 1000000

/-! an edit is applied. WRITES -/
def apB (l : List Ft) (e : Ei) : Bool := if e.f0 = 1 then wSrc (pfS l e.f1) else if e.f0 = 2 then (wSrc l && decide (0 ≤ wFind l e.f2)) else if e.f0 = 3 then (mvB l e && wSrc (mvO l e)) else false
def apO (l : List Ft) (e : Ei) : List Ft := if e.f0 = 1 then pfS l e.f1 else if e.f0 = 2 then tkF l e.f2 else mvO l e
def apL (l : List Ft) (e : Ei) : List Ft := if apB l e = true then apO l e else l.map Ft.fr
theorem mvO_ok {l : List Ft} {e : Ei} {p : Ft → Prop} (h1 : ∀ x ∈ l, p x.fr) (h2 : ∀ x ∈ l, ∀ n, p (mvX e.f3 e.f4 x n)) : ∀ y ∈ mvO l e, p y := by
  unfold mvO
  have hwb := wFind_bound l e.f2
  split
  · exact mvF_ok (by omega) h1 (fun x hx => h2 x hx _)
  · intro y hy
    obtain ⟨z, hz, rfl⟩ := List.mem_map.1 hy
    exact h1 z hz
theorem mvO_len (l : List Ft) (e : Ei) : (mvO l e).length = l.length := by unfold mvO; split <;> simp [mvF_len]
theorem tkF_ok {l : List Ft} {id : Int} {p : Ft → Prop} (h1 : ∀ x ∈ l, p x.fr) : ∀ y ∈ tkF l id, p y := by
  intro y hy
  obtain ⟨z, hz, rfl⟩ := List.mem_map.1 ((tkF_sub l id).subset hy)
  exact h1 z hz
theorem tkF_len (l : List Ft) (id : Int) : (tkF l id).length ≤ l.length := by have := (tkF_sub l id).length_le; simpa using this
theorem f40 (l : List Ft) (e : Ei) (nl : Bool) (hl : l.length ≤ 1048576) (hb : ∀ x ∈ l, x.okay) (he : e.f1.okay) (hp : ∀ x ∈ l, x.f4.length ≤ 1000000000) (hpe : e.f1.f4.length ≤ 1000000000) :
    Fn Tryz.prog 40 true [.lst 5 nl (l.map ft), .agg (ei e)] (.tup [.lst 5 false ((apL l e).map ft), .bool (apB l e)]) := by
  have cC := f83 l nl (by omega) hp
  have c1 := f84 l e.f1 nl hl hb he hp hpe
  have c2 := f85 l e.f2 nl hl hb hp
  have c3 := f86 l e nl hl hp
  have s1 := f69 (pfS l e.f1) false (by have := pfS_len l e.f1; omega) (pfS_ok (p := fun x => x.okay) (fun x hx => hb x hx) he)
  have s2 := f69 (tkF l e.f2) false (by have := tkF_len l e.f2; omega) (tkF_ok (p := fun x => x.okay) (fun x hx => hb x hx))
  have s3 := f69 (mvO l e) false (by rw [mvO_len]; omega) (mvO_ok (p := fun x => x.okay) (fun x hx => hb x hx) (fun x hx n => ⟨(hb x hx).1, by rw [mvX_len]; exact (hb x hx).2⟩))
  have hee : ei e = [i e.f0, i e.f1.f0, i e.f1.f1, i e.f1.f2, .str e.f1.f3, .lst 2 e.f1.nl (e.f1.f4.map cp), i e.f2, i e.f3, i e.f4] := rfl
  have hff : ft e.f1 = [i e.f1.f0, i e.f1.f1, i e.f1.f2, .str e.f1.f3, .lst 2 e.f1.nl (e.f1.f4.map cp)] := rfl
  rw [hee] at c3 ⊢
  rw [hff] at c1
  obtain ⟨b, hbe⟩ : ∃ b, apB l e = b := ⟨_, rfl⟩
  obtain ⟨R, hRe⟩ : ∃ R, (apL l e).map ft = R := ⟨_, rfl⟩
  have hRR : R = if apB l e = true then (apO l e).map ft else (l.map Ft.fr).map ft := by rw [← hRe]; unfold apL; split <;> rfl
  rw [hbe, hRe]
  obtain ⟨C, hC⟩ : ∃ C, (l.map Ft.fr).map ft = C := ⟨_, rfl⟩
  rw [hC] at cC hRR
  have q1 : (putL l e.f1).map ft = if wSrc (pfS l e.f1) = true then (pfS l e.f1).map ft else C := by rw [← hC]; unfold putL; split <;> rfl
  have q2 : (if (wSrc l && decide (0 ≤ wFind l e.f2)) = true then tkF l e.f2 else l.map Ft.fr).map ft = if (wSrc l && decide (0 ≤ wFind l e.f2)) = true then (tkF l e.f2).map ft else C := by rw [← hC]; split <;> rfl
  have q3 : (if mvB l e = true then mvO l e else l.map Ft.fr).map ft = if mvB l e = true then (mvO l e).map ft else C := by rw [← hC]; split <;> rfl
  rw [q1] at c1
  rw [q2] at c2
  rw [q3] at c3
  have k2 : wSrc l = true → wSrc (tkF l e.f2) = true := tkF_src
  clear hb he hp hpe hRe hC q1 q2 q3 hee hff
  by_cases h1 : e.f0 = 1
  · have hO : apO l e = pfS l e.f1 := by unfold apO; rw [if_pos h1]
    have hB : apB l e = wSrc (pfS l e.f1) := by unfold apB; rw [if_pos h1]
    rw [hB] at hbe hRR
    rw [hO] at hRR
    obtain ⟨T, hT⟩ : ∃ T, (pfS l e.f1).map ft = T := ⟨_, rfl⟩
    rw [hT] at c1 s1 hRR
    rw [hbe] at c1 s1 hRR
    subst hRR
    clear hT hO hB hbe c2 c3 s2 s3 k2
    have hne2 : ¬ e.f0 = 2 := by omega
    have hne3 : ¬ e.f0 = 3 := by omega
    cases b
    all_goals refine Fn.by_sx hX (by kernel_rfl) c40 (by kernel_rfl) (by rfl) ?_
    all_goals simp [i40, sxa, sxb, sxc, Ex.ok, Ex.val, ← wr_eq]
    all_goals repeat' (first | intro _ | (simp [sxa, sxb, sxc, Ex.ok, Ex.val, ← wr_eq, *]) | refine CallS_i (cC) ?_ | refine CallS_i (c1) ?_ | refine CallS_i (s1) ?_ | refine CondS_d ?_ ?_ | refine CondS_b ?_ ?_ | refine GrdS_d ?_ ?_ | refine GrdS_b ?_ ?_ | refine OkS_i (by omega) ?_ | fail)
  by_cases h2 : e.f0 = 2
  · have hO : apO l e = tkF l e.f2 := by unfold apO; rw [if_neg h1, if_pos h2]
    have hB : apB l e = (wSrc l && decide (0 ≤ wFind l e.f2)) := by unfold apB; rw [if_neg h1, if_pos h2]
    rw [hB] at hbe hRR
    rw [hO] at hRR
    have k3 : b = true → wSrc (tkF l e.f2) = true := fun h => k2 (by rw [h] at hbe; simp at hbe; exact hbe.1)
    obtain ⟨T, hT⟩ : ∃ T, (tkF l e.f2).map ft = T := ⟨_, rfl⟩
    rw [hT] at c2 s2 hRR
    rw [hbe] at c2 hRR
    subst hRR
    clear hT hO hB hbe c1 c3 s1 s3 k2
    cases b
    all_goals try rw [k3 rfl] at s2
    all_goals clear k3
    all_goals refine Fn.by_sx hX (by kernel_rfl) c40 (by kernel_rfl) (by rfl) ?_
    all_goals simp [i40, sxa, sxb, sxc, Ex.ok, Ex.val, ← wr_eq]
    all_goals repeat' (first | intro _ | (simp [sxa, sxb, sxc, Ex.ok, Ex.val, ← wr_eq, *]) | refine CallS_i (cC) ?_ | refine CallS_i (c2) ?_ | refine CallS_i (s2) ?_ | refine CondS_d ?_ ?_ | refine CondS_b ?_ ?_ | refine GrdS_d ?_ ?_ | refine GrdS_b ?_ ?_ | refine OkS_i (by omega) ?_ | fail)
  by_cases h3 : e.f0 = 3
  · have hO : apO l e = mvO l e := by unfold apO; rw [if_neg h1, if_neg h2]
    have hB : apB l e = (mvB l e && wSrc (mvO l e)) := by unfold apB; rw [if_neg h1, if_neg h2, if_pos h3]
    rw [hB] at hbe hRR
    rw [hO] at hRR
    obtain ⟨T, hT⟩ : ∃ T, (mvO l e).map ft = T := ⟨_, rfl⟩
    obtain ⟨b3, hb3⟩ : ∃ b, mvB l e = b := ⟨_, rfl⟩
    obtain ⟨b4, hb4⟩ : ∃ b, wSrc (mvO l e) = b := ⟨_, rfl⟩
    rw [hT] at c3 s3 hRR
    rw [hb3] at c3 hRR hbe
    rw [hb4] at s3 hRR hbe
    subst hRR
    subst hbe
    clear hT hO hB c1 c2 s1 s2 k2 hb3 hb4
    rw [h3] at c3
    cases b3 <;> cases b4
    all_goals refine Fn.by_sx hX (by kernel_rfl) c40 (by kernel_rfl) (by rfl) ?_
    all_goals simp [i40, sxa, sxb, sxc, Ex.ok, Ex.val, ← wr_eq]
    all_goals repeat' (first | intro _ | (simp [sxa, sxb, sxc, Ex.ok, Ex.val, ← wr_eq, *]) | refine CallS_i (cC) ?_ | refine CallS_i (c3) ?_ | refine CallS_i (s3) ?_ | refine CondS_d ?_ ?_ | refine CondS_b ?_ ?_ | refine GrdS_d ?_ ?_ | refine GrdS_b ?_ ?_ | refine OkS_i (by omega) ?_ | fail)
  · have hB : apB l e = false := by unfold apB; rw [if_neg h1, if_neg h2, if_neg h3]
    rw [hB] at hbe hRR
    subst hRR
    subst hbe
    clear hB c1 c2 c3 s1 s2 s3 k2
    refine Fn.by_sx hX (by kernel_rfl) c40 (by kernel_rfl) (by rfl) ?_
    simp [i40, sxa, sxb, sxc, Ex.ok, Ex.val, ← wr_eq]
    repeat' (first | intro _ | (simp [sxa, sxb, sxc, Ex.ok, Ex.val, ← wr_eq, *]) | refine CallS_i (cC) ?_ | refine CondS_d ?_ ?_ | refine CondS_b ?_ ?_ | refine GrdS_d ?_ ?_ | refine GrdS_b ?_ ?_ | refine OkS_i (by omega) ?_ | fail)
theorem f21 (l : List Ft) (e : Ei) (nl : Bool) (hl : l.length ≤ 1048576) (hb : ∀ x ∈ l, x.okay) (he : e.f1.okay) (hp : ∀ x ∈ l, x.f4.length ≤ 1000000000) (hpe : e.f1.f4.length ≤ 1000000000)
    (hn : ∀ x ∈ l, x.nl = false) (hne : e.f1.nl = false) :
    Fn Tryz.prog 21 true [.lst 5 nl (l.map ft), .agg (ei e)] (.tup [.lst 5 false ((apL l e).map ft), .bool (apB l e)]) := by
  have cC := f57 l nl (by omega) hp hn
  have c1 := f54 l e.f1 nl hl hb he hp hpe hn hne
  have c2 := f55 l e.f2 nl hl hb hp hn
  have c3 := f56 l e nl hl hp hb hn
  have hee : ei e = [i e.f0, i e.f1.f0, i e.f1.f1, i e.f1.f2, .str e.f1.f3, .lst 2 e.f1.nl (e.f1.f4.map cp), i e.f2, i e.f3, i e.f4] := rfl
  have hff : ft e.f1 = [i e.f1.f0, i e.f1.f1, i e.f1.f2, .str e.f1.f3, .lst 2 e.f1.nl (e.f1.f4.map cp)] := rfl
  rw [hee] at c3 ⊢
  rw [hff] at c1
  rw [hne] at c1 c3
  clear hee hff
  by_cases h1 : e.f0 = 1
  · have hB : apB l e = wSrc (pfS l e.f1) := by unfold apB; rw [if_pos h1]
    have hL : apL l e = putL l e.f1 := by unfold apL apO putL; rw [hB, if_pos h1]
    rw [hB, hL]
    obtain ⟨T, hT⟩ : ∃ T, (putL l e.f1).map ft = T := ⟨_, rfl⟩
    obtain ⟨b, hbe⟩ : ∃ b, wSrc (pfS l e.f1) = b := ⟨_, rfl⟩
    rw [hT, hbe] at c1 ⊢
    have hne2 : ¬ e.f0 = 2 := by omega
    have hne3 : ¬ e.f0 = 3 := by omega
    clear hT hbe hL hB c2 c3 cC hb hp hn
    refine Fn.by_sx hX (by kernel_rfl) c21 (by kernel_rfl) (by rfl) ?_
    simp [i21, sxa, sxb, sxc, Ex.ok, Ex.val, ← wr_eq]
    repeat' (first | intro _ | (simp [sxa, sxb, sxc, Ex.ok, Ex.val, ← wr_eq, *]) | refine CallS_i (c1) ?_ | refine CondS_d ?_ ?_ | refine CondS_b ?_ ?_ | refine GrdS_d ?_ ?_ | refine GrdS_b ?_ ?_ | refine OkS_i (by omega) ?_ | fail)
  by_cases h2 : e.f0 = 2
  · have hB : apB l e = (wSrc l && decide (0 ≤ wFind l e.f2)) := by unfold apB; rw [if_neg h1, if_pos h2]
    have hL : apL l e = if (wSrc l && decide (0 ≤ wFind l e.f2)) = true then tkF l e.f2 else l.map Ft.fr := by unfold apL apO; rw [hB, if_neg h1, if_pos h2]
    rw [hB, hL]
    obtain ⟨T, hT⟩ : ∃ T, (if (wSrc l && decide (0 ≤ wFind l e.f2)) = true then tkF l e.f2 else l.map Ft.fr).map ft = T := ⟨_, rfl⟩
    rw [hT] at c2 ⊢
    obtain ⟨b, hbe⟩ : ∃ b, (wSrc l && decide (0 ≤ wFind l e.f2)) = b := ⟨_, rfl⟩
    rw [hbe] at c2 ⊢
    clear hT hbe hL hB c1 c3 cC hb hp hn
    refine Fn.by_sx hX (by kernel_rfl) c21 (by kernel_rfl) (by rfl) ?_
    simp [i21, sxa, sxb, sxc, Ex.ok, Ex.val, ← wr_eq]
    repeat' (first | intro _ | (simp [sxa, sxb, sxc, Ex.ok, Ex.val, ← wr_eq, *]) | refine CallS_i (c2) ?_ | refine CondS_d ?_ ?_ | refine CondS_b ?_ ?_ | refine GrdS_d ?_ ?_ | refine GrdS_b ?_ ?_ | refine OkS_i (by omega) ?_ | fail)
  by_cases h3 : e.f0 = 3
  · have hB : apB l e = (mvB l e && wSrc (mvO l e)) := by unfold apB; rw [if_neg h1, if_neg h2, if_pos h3]
    have hL : (apL l e).map ft = if (mvB l e && wSrc (mvO l e)) = true then (mvO l e).map ft else (l.map Ft.fr).map ft := by unfold apL apO; rw [hB, if_neg h1, if_neg h2]; split <;> rfl
    rw [hB, hL]
    obtain ⟨T, hT⟩ : ∃ T, (mvO l e).map ft = T := ⟨_, rfl⟩
    obtain ⟨C, hC⟩ : ∃ C, (l.map Ft.fr).map ft = C := ⟨_, rfl⟩
    rw [hT] at c3 ⊢
    rw [hC] at cC ⊢
    obtain ⟨b, hbe⟩ : ∃ b, (mvB l e && wSrc (mvO l e)) = b := ⟨_, rfl⟩
    rw [hbe] at c3 ⊢
    clear hT hC hbe hL hB c1 c2 hb hp hn
    rw [h3] at c3
    cases b
    all_goals refine Fn.by_sx hX (by kernel_rfl) c21 (by kernel_rfl) (by rfl) ?_
    all_goals simp [i21, sxa, sxb, sxc, Ex.ok, Ex.val, ← wr_eq]
    all_goals repeat' (first | intro _ | (simp [sxa, sxb, sxc, Ex.ok, Ex.val, ← wr_eq, *]) | refine CallS_i (c3) ?_ | refine CallS_i (cC) ?_ | refine CondS_d ?_ ?_ | refine CondS_b ?_ ?_ | refine GrdS_d ?_ ?_ | refine GrdS_b ?_ ?_ | refine OkS_i (by omega) ?_ | fail)
  · have hB : apB l e = false := by unfold apB; rw [if_neg h1, if_neg h2, if_neg h3]
    have hL : (apL l e).map ft = (l.map Ft.fr).map ft := by unfold apL; rw [hB]; rfl
    rw [hB, hL]
    obtain ⟨C, hC⟩ : ∃ C, (l.map Ft.fr).map ft = C := ⟨_, rfl⟩
    rw [hC] at cC ⊢
    clear hC hL hB c1 c2 c3 hb hp hn
    refine Fn.by_sx hX (by kernel_rfl) c21 (by kernel_rfl) (by rfl) ?_
    simp [i21, sxa, sxb, sxc, Ex.ok, Ex.val, ← wr_eq]
    repeat' (first | intro _ | (simp [sxa, sxb, sxc, Ex.ok, Ex.val, ← wr_eq, *]) | refine CallS_i (cC) ?_ | refine CondS_d ?_ ?_ | refine CondS_b ?_ ?_ | refine GrdS_d ?_ ?_ | refine GrdS_b ?_ ?_ | refine OkS_i (by omega) ?_ | fail)
end Go.Eng
namespace Go.Eng
open Go Go.Proofs Geo
set_option linter.unusedSimpArgs false
set_option linter.unusedVariables false
set_option maxRecDepth 20000
set_option maxHeartbeats 1000000

/-! the tiles of an edit. WRITES -/
theorem f89 (a b : List Ft) (n1 n2 : Bool) (ha : a.length ≤ 16) (hb : b.length ≤ 1048576) (hxa : ∀ x ∈ a, x.okay) :
    Fn Tryz.prog 89 true [.lst 5 n1 (a.map ft), .lst 5 n2 (b.map ft)] (.lst 1 false ((tbF a b a.length).map fun m => [i m])) := by
  refine Fn.by_sx hX (by kernel_rfl) c89 (by kernel_rfl) (by rfl) ?_
  simp [i89, sxa, sxb, sxc, Ex.ok, Ex.val, ← wr_eq]
  refine sx_count a.length (fun n V => V 1 = .lst 5 n2 (b.map ft) ∧ V 10 = .lst 5 n1 (a.map ft) ∧ V 11 = i a.length ∧ V 12 = i n ∧ V 5 = .lst 1 false ((tbF a b n).map fun m => [i m])) 0 (by omega) (by simp [sxa, sxb, sxc, Ex.ok, Ex.val, ← wr_eq, tbF]) ?_
  rintro n V hn ⟨g1, g10, g11, g12, g5⟩
  have hw : wr .i64 ((n : Int) + 1) = n + 1 := wr_in (by omega) (by omega)
  rcases Nat.lt_or_ge n a.length with hlt | hge
  · have hI : (n : Int) < a.length := by omega
    have hs : tbF a b (n + 1) = if tbAt b a[n] = true then tbF a b n ++ wTiles a[n] else tbF a b n := by
      show (if tbAt b (a.getD n ftD) = true then _ else _) = _
      rw [show a.getD n ftD = a[n] by simp [hlt]]
    have hok := hxa _ (List.getElem_mem hlt)
    have cF := f58 b n2 a[n].f0 (by omega)
    have cT := f128 a[n] hok
    have hTl := wTiles_len a[n]
    have hlen := tbF_len a b n
    have hat : tbAt b a[n] = (decide (wFind b a[n].f0 < 0) || !wEqF a[n] (b.getD (wFind b a[n].f0).toNat ftD)) := rfl
    have cE := fun y => f61 a[n] y hok.2
    obtain ⟨A, hA⟩ : ∃ A, tbF a b n = A := ⟨_, rfl⟩
    obtain ⟨A2, hA2⟩ : ∃ A, tbF a b (n + 1) = A := ⟨_, rfl⟩
    obtain ⟨T, hT⟩ : ∃ T, wTiles a[n] = T := ⟨_, rfl⟩
    rw [hA, hA2, hT] at hs
    rw [hA] at g5 hlen
    rw [hT] at cT hTl
    rw [hA2]
    clear hA hA2 hT hxa hok
    have scT := scI T
    have scA := scI A
    rcases find_cases b a[n].f0 with hk | ⟨k, hk, hkl⟩
    · rw [hk] at cF hat
      simp at hat
      rw [hat, if_pos rfl] at hs
      subst hs
      clear cE hat hk
      unfold ft at cT
      repeat' (first | intro _ | (simp [sxa, sxb, sxc, Ex.ok, Ex.val, ← wr_eq, ft, *]) | refine CallS_i (cF) ?_ | refine CallS_i (cT) ?_ | refine CondS_d ?_ ?_ | refine CondS_b ?_ ?_ | refine GrdS_d ?_ ?_ | refine GrdS_b ?_ ?_ | refine OkS_i (by omega) ?_ | refine OkS_i ⟨by omega, by assumption⟩ ?_ | refine OkS_i ⟨by omega, by assumption, by assumption⟩ ?_ | fail)
      all_goals first | omega | simp_all
    · rw [hk] at cF hat
      have hkI : (k : Int) < b.length := by omega
      have hk0 : ¬ (k : Int) < 0 := by omega
      have hE := cE b[k]
      simp [hkl, hk0] at hat
      clear cE hk
      unfold ft at cT hE
      cases hq : wEqF a[n] b[k] with
      | true =>
        rw [hq] at hat hE
        rw [hat] at hs
        simp at hs
        subst hs
        clear hat hq
        repeat' (first | intro _ | (simp [sxa, sxb, sxc, Ex.ok, Ex.val, ← wr_eq, ft, *]) | refine CallS_i (cF) ?_ | refine CallS_i (hE) ?_ | refine CallS_i (cT) ?_ | refine CondS_d ?_ ?_ | refine CondS_b ?_ ?_ | refine GrdS_d ?_ ?_ | refine GrdS_b ?_ ?_ | refine OkS_i (by omega) ?_ | refine OkS_i ⟨by omega, by assumption⟩ ?_ | refine OkS_i ⟨by omega, by assumption, by assumption⟩ ?_ | fail)
        all_goals first | omega | simp_all
      | false =>
        rw [hq] at hat hE
        rw [hat] at hs
        simp at hs
        subst hs
        clear hat hq
        repeat' (first | intro _ | (simp [sxa, sxb, sxc, Ex.ok, Ex.val, ← wr_eq, ft, *]) | refine CallS_i (cF) ?_ | refine CallS_i (hE) ?_ | refine CallS_i (cT) ?_ | refine CondS_d ?_ ?_ | refine CondS_b ?_ ?_ | refine GrdS_d ?_ ?_ | refine GrdS_b ?_ ?_ | refine OkS_i (by omega) ?_ | refine OkS_i ⟨by omega, by assumption⟩ ?_ | refine OkS_i ⟨by omega, by assumption, by assumption⟩ ?_ | fail)
        all_goals first | omega | simp_all
  · have : n = a.length := by omega
    subst this
    repeat' (first | intro _ | (simp [sxa, sxb, sxc, Ex.ok, Ex.val, ← wr_eq, *]) | refine CondS_d ?_ ?_ | refine CondS_b ?_ ?_ | refine GrdS_d ?_ ?_ | refine GrdS_b ?_ ?_ | refine OkS_i (by omega) ?_ | refine OkS_i ⟨by omega, by assumption⟩ ?_ | refine OkS_i ⟨by omega, by assumption, by assumption⟩ ?_ | fail)
def chI (a b : List Ft) : List Int := if (wSrc a && wSrc b) = true then chR a b else []
theorem chI_eq (a b : List Ft) : chS a b = chI a b := by
  by_cases h : (wSrc a && wSrc b) = true
  · have h2 := h
    simp only [Bool.and_eq_true] at h2
    rw [chS_eq h2.1 h2.2]
    unfold chI
    rw [if_pos h]
  · unfold chS chI
    rw [if_neg h, if_neg h]
theorem f43 (a b : List Ft) (n1 n2 : Bool) (ha : a.length ≤ 1048576) (hb : b.length ≤ 1048576) (hxa : ∀ x ∈ a, x.okay) (hxb : ∀ x ∈ b, x.okay) :
    Fn Tryz.prog 43 true [.lst 5 n1 (a.map ft), .lst 5 n2 (b.map ft)] (.lst 1 false ((chI a b).map fun m => [i m])) := by
  have cA := f24 a n1 (by omega) hxa
  have cB := f24 b n2 (by omega) hxb
  cases hA : wSrc a with
  | false =>
    have e : chI a b = [] := by unfold chI; simp [hA]
    rw [e]
    rw [hA] at cA
    clear cB
    refine Fn.by_sx hX (by kernel_rfl) c43 (by kernel_rfl) (by rfl) ?_
    simp [i43, sxa, sxb, sxc, Ex.ok, Ex.val, ← wr_eq]
    repeat' (first | intro _ | (simp [sxa, sxb, sxc, Ex.ok, Ex.val, ← wr_eq, *]) | refine CallS_i (cA) ?_ | refine CallM_i (cA) ?_ | refine CallX_i (cA) ?_ | refine CondS_d ?_ ?_ | refine CondS_b ?_ ?_ | refine GrdS_d ?_ ?_ | refine GrdS_b ?_ ?_ | refine OkS_i (by omega) ?_ | refine OkS_i ⟨by omega, by assumption⟩ ?_ | refine OkS_i ⟨by omega, by assumption, by assumption⟩ ?_ | fail)
  | true =>
  rw [hA] at cA
  cases hB : wSrc b with
  | false =>
    have e : chI a b = [] := by unfold chI; simp [hB]
    rw [e]
    rw [hB] at cB
    refine Fn.by_sx hX (by kernel_rfl) c43 (by kernel_rfl) (by rfl) ?_
    simp [i43, sxa, sxb, sxc, Ex.ok, Ex.val, ← wr_eq]
    refine CallS_i (cA) ?_
    simp [sxa, sxb, sxc, Ex.ok, Ex.val, ← wr_eq]
    clear cA
    repeat' (first | intro _ | (simp [sxa, sxb, sxc, Ex.ok, Ex.val, ← wr_eq, *]) | refine CallS_i (cB) ?_ | refine CallM_i (cB) ?_ | refine CallX_i (cB) ?_ | refine CondS_d ?_ ?_ | refine CondS_b ?_ ?_ | refine GrdS_d ?_ ?_ | refine GrdS_b ?_ ?_ | refine OkS_i (by omega) ?_ | refine OkS_i ⟨by omega, by assumption⟩ ?_ | refine OkS_i ⟨by omega, by assumption, by assumption⟩ ?_ | fail)
  | true =>
  rw [hB] at cB
  have la : a.length ≤ 16 := (wSrc_iff.1 hA).1
  have lb : b.length ≤ 16 := (wSrc_iff.1 hB).1
  have e : chI a b = Lib.compact ((tbF a b a.length ++ tbF b a b.length).mergeSort fun x y => decide (x ≤ y)) := by unfold chI; rw [hA, hB]; rfl
  have t1 := tbF_len a b a.length
  have t2 := tbF_len b a b.length
  have c1 := f89 a b n1 n2 la hb hxa
  have c2 := f89 b a n2 n1 lb ha hxb
  have c3 := f90 false (tbF a b a.length ++ tbF b a b.length) (by rw [List.length_append]; omega)
  have c4 := f91 false ((tbF a b a.length ++ tbF b a b.length).mergeSort fun x y => decide (x ≤ y)) (by rw [List.length_mergeSort, List.length_append]; omega)
  rw [← e] at c4
  obtain ⟨Z, hZ⟩ : ∃ Z, chI a b = Z := ⟨_, rfl⟩
  rw [hZ] at c4 ⊢
  obtain ⟨S, hS⟩ : ∃ S, ((tbF a b a.length ++ tbF b a b.length).mergeSort fun x y => decide (x ≤ y)) = S := ⟨_, rfl⟩
  rw [hS] at c3 c4
  obtain ⟨T1, hT1⟩ : ∃ S, tbF a b a.length = S := ⟨_, rfl⟩
  obtain ⟨T2, hT2⟩ : ∃ S, tbF b a b.length = S := ⟨_, rfl⟩
  rw [hT1] at c1 c3 t1
  rw [hT2] at c2 c3 t2
  rw [List.map_append] at c3
  clear e hZ hS hT1 hT2 hA hB hxa hxb
  have sc1 := scI T1
  have sc2 := scI T2
  refine Fn.by_sx hX (by kernel_rfl) c43 (by kernel_rfl) (by rfl) ?_
  simp [i43, sxa, sxb, sxc, Ex.ok, Ex.val, ← wr_eq]
  refine CallS_i (cA) ?_
  simp [sxa, sxb, sxc, Ex.ok, Ex.val, ← wr_eq]
  refine CallS_i (cB) ?_
  simp [sxa, sxb, sxc, Ex.ok, Ex.val, ← wr_eq]
  refine CallS_i (c1) ?_
  simp [sxa, sxb, sxc, Ex.ok, Ex.val, ← wr_eq]
  refine CallS_i (c2) ?_
  simp [sxa, sxb, sxc, Ex.ok, Ex.val, ← wr_eq]
  clear cA cB c1 c2
  repeat' (first | intro _ | (simp [sxa, sxb, sxc, Ex.ok, Ex.val, ← wr_eq, *]) | refine CallS_i (c3) ?_ | refine CallS_i (c4) ?_ | refine CallM_i (c3) ?_ | refine CallM_i (c4) ?_ | refine CallX_i (c3) ?_ | refine CallX_i (c4) ?_ | refine CondS_d ?_ ?_ | refine CondS_b ?_ ?_ | refine GrdS_d ?_ ?_ | refine GrdS_b ?_ ?_ | refine OkS_i (by omega) ?_ | refine OkS_i ⟨by omega, by assumption⟩ ?_ | refine OkS_i ⟨by omega, by assumption, by assumption⟩ ?_ | fail)
  all_goals first | omega | simp_all
end Go.Eng
namespace Go.Eng
open Go Go.Proofs Geo Go.RowKit
set_option linter.unusedSimpArgs false
set_option linter.unusedVariables false
set_option maxRecDepth 20000
set_option maxHeartbeats 1000000

/-! edits are applied one by one. WRITES -/
def Ft.neat (x : Ft) : Prop := x.f3.size ≤ 1048576 ∧ x.f4.length ≤ 1048576 ∧ x.nl = false
theorem Ft.neat.ok {x : Ft} (h : x.neat) : x.okay := ⟨by have := h.1; omega, by have := h.2.1; omega⟩
theorem Ft.neat.frn {x : Ft} (h : x.neat) : x.fr.neat := ⟨h.1, h.2.1, rfl⟩
theorem Ft.neat.mvn {x : Ft} (h : x.neat) (dx dy : Int) (n : Nat) : (mvX dx dy x n).neat := ⟨h.1, by rw [mvX_len]; exact h.2.1, rfl⟩
theorem apL_neat {l : List Ft} {e : Ei} (hl : ∀ x ∈ l, x.neat) (he : e.f1.neat) : ∀ x ∈ apL l e, x.neat := by
  have h1 : ∀ x ∈ l.map Ft.fr, x.neat := fun x hx => by
    obtain ⟨y, hy, rfl⟩ := List.mem_map.1 hx
    exact (hl y hy).frn
  unfold apL
  split
  · unfold apO
    split
    · exact pfS_ok (p := Ft.neat) (fun x hx => (hl x hx).frn) he.frn
    · split
      · exact tkF_ok (p := Ft.neat) (fun x hx => (hl x hx).frn)
      · exact mvO_ok (p := Ft.neat) (fun x hx => (hl x hx).frn) (fun x hx n => (hl x hx).mvn _ _ n)
  · exact h1
theorem wSrc_len {l : List Ft} (h : wSrc l = true) : l.length ≤ 16 := (wSrc_iff.1 h).1
theorem apO_len {l : List Ft} {e : Ei} (h : apB l e = true) : (apO l e).length ≤ 16 := by
  unfold apB at h
  unfold apO
  split at h
  · rw [if_pos (by assumption)]; exact wSrc_len h
  · rw [if_neg (by assumption)]
    split at h
    · rw [if_pos (by assumption)]
      simp only [Bool.and_eq_true] at h
      exact wSrc_len (tkF_src h.1)
    · rw [if_neg (by assumption)]
      split at h
      · simp only [Bool.and_eq_true] at h
        exact wSrc_len h.2
      · cases h
end Go.Eng
namespace Go.Eng
open Go Go.Proofs Geo Go.RowKit
set_option linter.unusedSimpArgs false
set_option linter.unusedVariables false
set_option maxRecDepth 20000
set_option maxHeartbeats 1000000

/-! the law of applied edits. WRITES -/
theorem wtLF_frF (l : List Ft) : wtLF (l.map Ft.fr) = wtLF l := by
  unfold wtLF wtToF
  rw [List.take_of_length_le (Nat.le_refl _), List.take_of_length_le (Nat.le_refl _), List.map_map, List.length_map]
  rfl
end Go.Eng
namespace Go.Eng
open Go Go.Proofs Geo
set_option linter.unusedSimpArgs false
set_option linter.unusedVariables false
set_option maxRecDepth 100000
set_option maxHeartbeats 1000000

/-! structs are marked: what lies behind them. WRITES -/
theorem len4 {α : Type} {l : List α} (h : l.length = 4) : ∃ a b c d, l = [a, b, c, d] := by
  match l, h with
  | [a, b, c, d], _ => exact ⟨a, b, c, d, rfl⟩
theorem len5 {α : Type} {l : List α} (h : l.length = 5) : ∃ a b c d e, l = [a, b, c, d, e] := by
  match l, h with
  | [a, b, c, d, e], _ => exact ⟨a, b, c, d, e, rfl⟩
theorem len3 {α : Type} {l : List α} (h : l.length = 3) : ∃ a b c, l = [a, b, c] := by
  match l, h with
  | [a, b, c], _ => exact ⟨a, b, c, rfl⟩
def mkB (k : Int) (x : Ft) : Ft := { x with f4 := upTo (mkPt k) x.f4.length }
theorem f47 (x : Ft) (k : Int) (hx : x.nlok) (hk0 : 0 ≤ k) (hk : k + 2 * x.f4.length ≤ 1000000000000) :
    FnM Tryz.prog 47 [.agg (ft x), i k] (i (k + 2 * x.f4.length)) (.agg (ft (mkB k x))) := by
  have hc := f46 x.f4 x.nl k hx hk0 hk
  have := wrap_FnM (P := Tryz.prog) (f := 47) (g := 46) (pre := [i x.f0, i x.f1, i x.f2, .str x.f3]) (mid := [.lst 2 x.nl (x.f4.map cp)]) (post := []) (mid' := [.lst 2 x.nl ((upTo (mkPt k) x.f4.length).map cp)]) (agg := false) (k := k) (T := 36) (by kernel_rfl) (.inr rfl) (.inr rfl) rfl hc
    (fun w ya ym yz R h1 h2 h3 hcc => by
      obtain ⟨a, b, c, d, rfl⟩ := len4 h1
      obtain ⟨e, rfl⟩ := List.length_eq_one_iff.1 h2
      obtain rfl := List.length_eq_zero_iff.1 h3
      go_enter Tryz.func47, Tryz.ntmps47
      go_wp
      refine hcc.mono ?_
      rintro e w1 ⟨rfl, hR⟩
      dsimp only
      go_wp
      go_ret
      exact ⟨rfl, hR⟩)
  exact this
end Go.Eng
namespace Go.Eng
open Go Go.Proofs Geo
set_option linter.unusedSimpArgs false
set_option linter.unusedVariables false
set_option maxRecDepth 100000
set_option maxHeartbeats 1000000

/-! edits are marked. WRITES -/
theorem f16 (x : Ei) (k : Int) (hx : x.f1.nlok) (hk0 : 0 ≤ k) (hk : k + 2 * x.f1.f4.length ≤ 1000000000000) :
    FnM Tryz.prog 16 [.agg (ei x), i k] (i (k + 2 * x.f1.f4.length)) (.agg (ei { x with f1 := mkB k x.f1 })) := by
  have hc := f47 x.f1 k hx hk0 hk
  have := wrap_FnM (P := Tryz.prog) (f := 16) (g := 47) (pre := [i x.f0]) (mid := ft x.f1) (post := [i x.f2, i x.f3, i x.f4]) (mid' := ft (mkB k x.f1)) (agg := true) (k := k) (T := 38) (by kernel_rfl) (.inl rfl) (.inl rfl) rfl hc
    (fun w ya ym yz R h1 h2 h3 hcc => by
      obtain ⟨p, rfl⟩ := List.length_eq_one_iff.1 h1
      obtain ⟨a, b, c, d, e, rfl⟩ := len5 h2
      obtain ⟨f, g, h, rfl⟩ := len3 h3
      go_enter Tryz.func16, Tryz.ntmps16
      go_wp
      refine hcc.mono ?_
      rintro e w1 ⟨rfl, hR⟩
      dsimp only
      go_wp
      go_ret
      exact ⟨rfl, hR⟩)
  exact this
end Go.Eng
namespace Go.Eng
open Go Go.Proofs Geo Go.RowKit
set_option linter.unusedSimpArgs false
set_option linter.unusedVariables false
set_option maxRecDepth 20000
set_option maxHeartbeats 1000000

/-! the tiles of an edit: the law. WRITES -/
def edT (l : List Ft) (e : Ei) : List Int := if apB l e = true then chI l (apL l e) else []
theorem chI_len (a b : List Ft) : (chI a b).length ≤ 441 * 32 := by
  unfold chI
  split
  · rename_i h
    simp only [Bool.and_eq_true] at h
    have la : a.length ≤ 16 := (wSrc_iff.1 h.1).1
    have lb : b.length ≤ 16 := (wSrc_iff.1 h.2).1
    have t1 := tbF_len a b a.length
    have t2 := tbF_len b a b.length
    have := Lib.compact_length_le ((tbF a b a.length ++ tbF b a b.length).mergeSort fun x y => decide (x ≤ y))
    rw [List.length_mergeSort, List.length_append] at this
    unfold chR
    omega
  · simp
theorem f8 (l : List Ft) (e : Ei) (nl : Bool) (hl : l.length ≤ 1048576) (hl2 : (apL l e).length ≤ 1048576) (hb : ∀ x ∈ l, x.neat) (he : e.f1.neat) :
    Fn Tryz.prog 8 true [.lst 5 nl (l.map ft), .agg (ei e)] (.lst 1 false ((edT l e).map fun m => [i m])) := by
  have cA := f40 l e nl hl (fun x hx => (hb x hx).ok) he.ok (fun x hx => by have := (hb x hx).2.1; omega) (by have := he.2.1; omega)
  have hn := apL_neat hb he
  have cC := f41 l (apL l e) nl false hl hl2 (fun x hx => (hb x hx).ok) (fun x hx => (hn x hx).ok)
  rw [chI_eq] at cC
  have hee : ei e = [i e.f0, i e.f1.f0, i e.f1.f1, i e.f1.f2, .str e.f1.f3, .lst 2 e.f1.nl (e.f1.f4.map cp), i e.f2, i e.f3, i e.f4] := rfl
  have hE : edT l e = if apB l e = true then chI l (apL l e) else [] := rfl
  rw [hee] at cA ⊢
  obtain ⟨Z, hZ⟩ : ∃ Z, edT l e = Z := ⟨_, rfl⟩
  obtain ⟨R, hR⟩ : ∃ Z, chI l (apL l e) = Z := ⟨_, rfl⟩
  obtain ⟨A, hA⟩ : ∃ Z, apL l e = Z := ⟨_, rfl⟩
  rw [hR] at hE cC
  rw [hZ] at hE ⊢
  rw [hA] at cA cC
  cases hB : apB l e with
  | false =>
    rw [hB] at hE cA
    simp at hE
    subst hE
    clear hZ hR hA hB cC hn hee
    refine Fn.by_sx hX (by kernel_rfl) c8 (by kernel_rfl) (by rfl) ?_
    simp [i8, sxa, sxb, sxc, Ex.ok, Ex.val, ← wr_eq]
    repeat' (first | intro _ | (simp [sxa, sxb, sxc, Ex.ok, Ex.val, ← wr_eq, *]) | refine CallS_i (cA) ?_ | refine CondS_d ?_ ?_ | refine CondS_b ?_ ?_ | refine GrdS_d ?_ ?_ | refine GrdS_b ?_ ?_ | refine OkS_i (by omega) ?_ | fail)
  | true =>
    rw [hB] at hE cA
    simp at hE
    subst hE
    clear hZ hR hA hB hn hee
    refine Fn.by_sx hX (by kernel_rfl) c8 (by kernel_rfl) (by rfl) ?_
    simp [i8, sxa, sxb, sxc, Ex.ok, Ex.val, ← wr_eq]
    repeat' (first | intro _ | (simp [sxa, sxb, sxc, Ex.ok, Ex.val, ← wr_eq, *]) | refine CallS_i (cA) ?_ | refine CallS_i (cC) ?_ | refine CondS_d ?_ ?_ | refine CondS_b ?_ ?_ | refine GrdS_d ?_ ?_ | refine GrdS_b ?_ ?_ | refine OkS_i (by omega) ?_ | fail)
theorem f11 (l : List Ft) (e : Ei) (nl : Bool) (hl : l.length ≤ 1048576) (hl2 : (apL l e).length ≤ 1048576) (hb : ∀ x ∈ l, x.neat) (he : e.f1.neat) :
    Fn Tryz.prog 11 true [.lst 5 nl (l.map ft), .agg (ei e)] (.lst 1 false ((edT l e).map fun m => [i m])) := by
  have cA := f21 l e nl hl (fun x hx => (hb x hx).ok) he.ok (fun x hx => by have := (hb x hx).2.1; omega) (by have := he.2.1; omega) (fun x hx => (hb x hx).2.2) he.2.2
  have hn := apL_neat hb he
  have cC := f43 l (apL l e) nl false hl hl2 (fun x hx => (hb x hx).ok) (fun x hx => (hn x hx).ok)
  have hee : ei e = [i e.f0, i e.f1.f0, i e.f1.f1, i e.f1.f2, .str e.f1.f3, .lst 2 e.f1.nl (e.f1.f4.map cp), i e.f2, i e.f3, i e.f4] := rfl
  have hE : edT l e = if apB l e = true then chI l (apL l e) else [] := rfl
  rw [hee] at cA ⊢
  obtain ⟨Z, hZ⟩ : ∃ Z, edT l e = Z := ⟨_, rfl⟩
  obtain ⟨R, hR⟩ : ∃ Z, chI l (apL l e) = Z := ⟨_, rfl⟩
  obtain ⟨A, hA⟩ : ∃ Z, apL l e = Z := ⟨_, rfl⟩
  rw [hR] at hE cC
  rw [hZ] at hE ⊢
  rw [hA] at cA cC
  cases hB : apB l e with
  | false =>
    rw [hB] at hE cA
    simp at hE
    subst hE
    clear hZ hR hA hB cC hn hee
    refine Fn.by_sx hX (by kernel_rfl) c11 (by kernel_rfl) (by rfl) ?_
    simp [i11, sxa, sxb, sxc, Ex.ok, Ex.val, ← wr_eq]
    repeat' (first | intro _ | (simp [sxa, sxb, sxc, Ex.ok, Ex.val, ← wr_eq, *]) | refine CallS_i (cA) ?_ | refine CondS_d ?_ ?_ | refine CondS_b ?_ ?_ | refine GrdS_d ?_ ?_ | refine GrdS_b ?_ ?_ | refine OkS_i (by omega) ?_ | fail)
  | true =>
    rw [hB] at hE cA
    simp at hE
    subst hE
    clear hZ hR hA hB hn hee
    refine Fn.by_sx hX (by kernel_rfl) c11 (by kernel_rfl) (by rfl) ?_
    simp [i11, sxa, sxb, sxc, Ex.ok, Ex.val, ← wr_eq]
    repeat' (first | intro _ | (simp [sxa, sxb, sxc, Ex.ok, Ex.val, ← wr_eq, *]) | refine CallS_i (cA) ?_ | refine CallS_i (cC) ?_ | refine CondS_d ?_ ?_ | refine CondS_b ?_ ?_ | refine GrdS_d ?_ ?_ | refine GrdS_b ?_ ?_ | refine OkS_i (by omega) ?_ | fail)
theorem apL_goodE (l : List Ft) (e : Ei) : apL l e = l.map Ft.fr ∨ (apL l e).length ≤ 16 := by
  unfold apL
  split
  · rename_i h
    exact .inr (apO_len h)
  · exact .inl rfl
theorem f3 (l : List Ft) (n1 : Bool) (y : Ei) (hl : l.length ≤ 9223372036854775807) (hx : ∀ x ∈ l, x.fits) (hy : y.f1.fits) :
    Fn Tryz.prog 3 false [.lst 5 n1 (l.map ft), .agg (ei y)] (.bool true) := by
  have e0 := fun h0 h1 => f7 y (1048576 - wtLF l) h0 h1 hy
  have e2 := fun h => f10 y h
  have hyy : ei y = [i y.f0, i y.f1.f0, i y.f1.f1, i y.f1.f2, .str y.f1.f3, .lst 2 y.f1.nl (y.f1.f4.map cp), i y.f2, i y.f3, i y.f4] := rfl
  rw [hyy] at e0 e2 ⊢
  refine Fn.by_sx hX (by kernel_rfl) c3 (by kernel_rfl) (by rfl) ?_
  simp [i3, sxa, sxb, sxc, Ex.ok, Ex.val, ← wr_eq]
  refine CallS_s (f6 l n1 1048576 (by omega) (by omega) hl hx) rfl ?_
  by_cases hbig : (1048576 : Int) - wtLF l < 0
  · have : szr 1048576 (wtLF l : Nat) = -1 := if_pos hbig
    rw [this]
    repeat' (first | intro _ | (simp [sxa, sxb, sxc, Ex.ok, Ex.val, ← wr_eq, *]) | refine CondS_d ?_ ?_ | refine CondS_b ?_ ?_ | refine GrdS_d ?_ ?_ | refine GrdS_b ?_ ?_ | refine OkS_i (by omega) ?_ | fail)
  have hz : szr 1048576 (wtLF l : Nat) = 1048576 - wtLF l := if_neg hbig
  rw [hz]
  have hnn : ¬ (1048576 : Int) - wtLF l < 0 := by omega
  simp [sxa, sxb, sxc, Ex.ok, Ex.val, ← wr_eq, hnn]
  refine CallS_s (e0 (by omega) (by omega)) rfl ?_
  by_cases hbig2 : (1048576 : Int) - wtLF l - wtF y.f1 < 0
  · have : szr (1048576 - wtLF l) (wtF y.f1 : Nat) = -1 := if_pos hbig2
    rw [this]
    repeat' (first | intro _ | (simp [sxa, sxb, sxc, Ex.ok, Ex.val, ← wr_eq, *]) | refine CondS_d ?_ ?_ | refine CondS_b ?_ ?_ | refine GrdS_d ?_ ?_ | refine GrdS_b ?_ ?_ | refine OkS_i (by omega) ?_ | fail)
  have hz2 : szr (1048576 - wtLF l) (wtF y.f1 : Nat) = 1048576 - wtLF l - wtF y.f1 := if_neg hbig2
  rw [hz2]
  have hnn2 : ¬ (1048576 : Int) - wtLF l - wtF y.f1 < 0 := by omega
  have hL := wtLF_len l
  have hl' : l.length ≤ 1048576 := by omega
  have hwf : wtF y.f1 = y.f1.f3.size + y.f1.f4.length := rfl
  have hm : ∀ x ∈ l, x.f3.size ≤ 1048576 ∧ x.f4.length ≤ 1048576 := fun x hx => by have := wtLF_mem hx; omega
  have c1 := f9 l n1 hl' fun x h => (hm x h).2
  have c2 := e2 (by omega)
  have wr := wtLF_frF l
  obtain ⟨r, hr⟩ : ∃ r, l.map Ft.fr = r := ⟨_, rfl⟩
  have hrl : r.length ≤ 1048576 := by rw [← hr, List.length_map]; exact hl'
  have hrm : ∀ x ∈ r, x.neat := by
    intro x hx
    rw [← hr] at hx
    obtain ⟨y, hy, rfl⟩ := List.mem_map.1 hx
    exact ⟨(hm y hy).1, (hm y hy).2, rfl⟩
  rw [hr] at c1 wr
  obtain ⟨z, hz0⟩ : ∃ z, y.fr = z := ⟨_, rfl⟩
  have hzn : z.f1.neat := by rw [← hz0]; exact ⟨by show y.f1.f3.size ≤ _; omega, by show y.f1.f4.length ≤ _; omega, rfl⟩
  have hzz : ei z = [i z.f0, i z.f1.f0, i z.f1.f1, i z.f1.f2, .str z.f1.f3, .lst 2 false (z.f1.f4.map cp), i z.f2, i z.f3, i z.f4] := by unfold ei; rw [hzn.2.2]
  have hze : z.f1.nl = false := hzn.2.2
  rw [hz0, hzz] at c2
  have hGl : (apL r z).length ≤ 1048576 := by
    rcases apL_goodE r z with h | h
    · rw [h, List.length_map]; omega
    · omega
  have c3 := f8 r z false hrl hGl hrm hzn
  have c4 := f11 r z false hrl hGl hrm hzn
  have c5 := f13 r false false (by omega) fun x h => by have := (hrm x h).2.1; omega
  have c6 := f14 z false false (by have := hzn.2.1; omega)
  have hzs : ei { z with f1 := { z.f1 with nl := false } } = [i z.f0, i z.f1.f0, i z.f1.f1, i z.f1.f2, .str z.f1.f3, .lst 2 false (z.f1.f4.map cp), i z.f2, i z.f3, i z.f4] := rfl
  rw [hzs] at c6
  rw [hzz] at c3 c4
  have hG : (edT r z).length ≤ 441 * 32 := by
    unfold edT
    split
    · exact chI_len _ _
    · simp
  obtain ⟨G, hGe⟩ : ∃ G, edT r z = G := ⟨_, rfl⟩
  rw [hGe] at c3 c4 hG
  have c7 := f12 G false false (by omega)
  have nlo : ∀ {L : List Ft}, (∀ x ∈ L, x.neat) → ∀ x ∈ L, x.nlok := fun h x hx hh => by rw [(h x hx).2.2] at hh; (cases hh)
  have hk1 := kTo_mono (l := r) (k := 1) (n := 0) (m := r.length) (by omega)
  have hk1 : 1 ≤ kTo r 1 r.length := hk1
  have hrk := kTo_le r r.length (Nat.le_refl _) 1
  have d1 := f15 r false 1 (by simp) (nlo hrm) (by omega) (by omega) (by unfold wtLF at *; omega)
  obtain ⟨K, hK⟩ : ∃ K, kTo r 1 r.length = K := ⟨_, rfl⟩
  rw [hK] at d1 hk1 hrk
  have d2 := f16 z K (fun hh => by rw [hze] at hh; cases hh) (by omega) (by have := hzn.2.1; unfold wtLF at *; omega)
  have hmb : ei { z with f1 := mkB K z.f1 } = [i z.f0, i z.f1.f0, i z.f1.f1, i z.f1.f2, .str z.f1.f3, .lst 2 false ((upTo (mkPt K) z.f1.f4.length).map cp), i z.f2, i z.f3, i z.f4] := by unfold ei mkB; rw [hze]
  rw [hzz, hmb] at d2
  have d3 := f17 G false 1 (by simp) (by omega) (by omega)
  have d4 := f18 G false 1 (by omega) (by omega)
  obtain ⟨R, hR⟩ : ∃ R, (upTo (mkFtAt r 1) r.length).map ft = R := ⟨_, rfl⟩
  obtain ⟨K2, hK2e⟩ : ∃ K2 : Int, K + 2 * (z.f1.f4.length : Int) = K2 := ⟨_, rfl⟩
  obtain ⟨m, hme⟩ : ∃ m : Int, 1 + (G.length : Int) = m := ⟨_, rfl⟩
  obtain ⟨GG, hGG⟩ : ∃ GG, upTo (mkInt 1) G.length = GG := ⟨_, rfl⟩
  have hK0 : ¬ K2 < 0 := by omega
  rw [hR] at d1
  rw [hK2e] at d2
  rw [hme] at d3 d4
  rw [hGG] at d3 d4
  have hm0 : ¬ m < 0 := by omega
  clear hr hz hz2 hGe hK hR hme hGG hrk hK2e hrm nlo wr hm hzn hz0 hzz hzs hmb e0 e2 hyy hwf hze hGl
  repeat' (first | intro _ | (simp [sxa, sxb, sxc, Ex.ok, Ex.val, ← wr_eq, *]) | refine CallS_i (c1) ?_ | refine CallS_i (c2) ?_ | refine CallS_i (c3) ?_ | refine CallS_i (c4) ?_ | refine CallS_i (c5) ?_ | refine CallS_i (c6) ?_ | refine CallS_i (c7) ?_ | refine CallS_i (d1) ?_ | refine CallS_i (d2) ?_ | refine CallS_i (d3) ?_ | refine CallS_i (d4) ?_ | refine CallM_i (c1) ?_ | refine CallM_i (c2) ?_ | refine CallM_i (c3) ?_ | refine CallM_i (c4) ?_ | refine CallM_i (c5) ?_ | refine CallM_i (c6) ?_ | refine CallM_i (c7) ?_ | refine CallM_i (d1) ?_ | refine CallM_i (d2) ?_ | refine CallM_i (d3) ?_ | refine CallM_i (d4) ?_ | refine CallB_i (c1) ?_ | refine CallB_i (c2) ?_ | refine CallB_i (c3) ?_ | refine CallB_i (c4) ?_ | refine CallB_i (c5) ?_ | refine CallB_i (c6) ?_ | refine CallB_i (c7) ?_ | refine CallB_i (d1) ?_ | refine CallB_i (d2) ?_ | refine CallB_i (d3) ?_ | refine CallB_i (d4) ?_ | refine CondS_d ?_ ?_ | refine CondS_b ?_ ?_ | refine GrdS_d ?_ ?_ | refine GrdS_b ?_ ?_ | refine OkS_i (by omega) ?_ | fail)
end Go.Eng
namespace Go.Eng
open Go Go.Proofs
set_option linter.unusedSimpArgs false
set_option linter.unusedVariables false
set_option maxRecDepth 20000
/-! what the arguments hold -/
theorem d_int {X : Cx} {t n : Nat} {i0 : TI} {vs : List PV} (hi : X.ti t = some i0) (hk : i0.k = .int .i64) (h : shp X n t vs) : ∃ m, vs = [i m] := by
  cases n with
  | zero => cases h
  | succ n => unfold shp at h; rw [hi] at h; simp only [hk] at h; obtain ⟨m, hm, _⟩ := h; exact ⟨m, hm⟩
theorem d_str {X : Cx} {t n : Nat} {i0 : TI} {vs : List PV} (hi : X.ti t = some i0) (hk : i0.k = .str) (h : shp X n t vs) : ∃ s, vs = [.str s] ∧ s.size ≤ 9223372036854775807 := by
  cases n with
  | zero => cases h
  | succ n => unfold shp at h; rw [hi] at h; simp only [hk] at h; exact h
theorem d_slice {X : Cx} {t n e sz : Nat} {i0 : TI} {vs : List PV} {α : Type} {g : α → List PV} {q : α → Prop} (hi : X.ti t = some i0) (hk : i0.k = .slice e) (hs : szOf X e = sz)
    (hd : ∀ n vs, shp X n e vs → ∃ x, vs = g x ∧ q x) (h : shp X n t vs) : ∃ (l : List α) (nl : Bool), vs = [.lst sz nl (l.map g)] ∧ l.length ≤ 9223372036854775807 ∧ ∀ x ∈ l, q x := by
  cases n with
  | zero => cases h
  | succ n =>
    unfold shp at h; rw [hi] at h; simp only [hk, hs] at h
    rcases h with rfl | ⟨els, rfl, hl, he⟩
    · exact ⟨[], true, rfl, by simp, by simp⟩
    · have : ∀ els : List (List PV), (∀ cs ∈ els, shp X n e cs) → ∃ l : List α, els = l.map g ∧ ∀ x ∈ l, q x := by
        intro els
        induction els with
        | nil => intro _; exact ⟨[], rfl, by simp⟩
        | cons c r ih =>
          intro h
          obtain ⟨l, h1, h2⟩ := ih fun cs hcs => h cs (List.mem_cons_of_mem _ hcs)
          obtain ⟨x, h3, h4⟩ := hd n c (h c (List.mem_cons_self ..))
          exact ⟨x :: l, by rw [h1, h3]; rfl, fun y hy => by
            rcases List.mem_cons.1 hy with rfl | hy
            · exact h4
            · exact h2 y hy⟩
      obtain ⟨l, h1, h2⟩ := this els he
      subst h1
      exact ⟨l, false, rfl, by have := hl; rw [List.length_map] at this; exact this, h2⟩
theorem d_struct {X : Cx} {t n : Nat} {i0 : TI} {fl : List (Nat × Nat)} {vs : List PV} (hi : X.ti t = some i0) (hk : i0.k = .struct fl) (h : shp X n t vs) : vs.length = i0.sz ∧ ∀ q ∈ fl, ∃ n, shp X n q.2 (sub vs q.1 (szOf X q.2)) := by
  cases n with
  | zero => cases h
  | succ n => unfold shp at h; rw [hi] at h; simp only [hk] at h; exact ⟨h.1, fun q hq => ⟨n, h.2 q hq⟩⟩
theorem shpL_cons {X : Cx} {n t : Nat} {ts : List Nat} {pvs : List PV} (h : shpL X n (t :: ts) pvs) : ∃ v vs, pvs = v :: vs ∧ shpV X n t v ∧ shpL X n ts vs := by
  cases pvs with
  | nil => cases h
  | cons v vs => exact ⟨v, vs, rfl, h.1, h.2⟩
theorem shpL_nil {X : Cx} {n : Nat} {pvs : List PV} (h : shpL X n [] pvs) : pvs = [] := by
  cases pvs with
  | nil => rfl
  | cons v vs => cases h
theorem shpV_one {X : Cx} {n t : Nat} {i0 : TI} {v : PV} (hi : X.ti t = some i0) (ha : i0.k.agg = false) (h : shpV X n t v) : shp X n t [v] := by
  unfold shpV at h; rw [hi] at h; simp only [ha, Bool.false_eq_true, if_false] at h; exact h
theorem shpV_agg {X : Cx} {n t : Nat} {i0 : TI} {v : PV} (hi : X.ti t = some i0) (ha : i0.k.agg = true) (h : shpV X n t v) : ∃ vs, v = .agg vs ∧ shp X n t vs := by
  unfold shpV at h; rw [hi] at h; simp only [ha, if_true] at h; exact h
theorem dPt {n : Nat} {vs : List PV} (h : shp X n 153 vs) : ∃ p : Pt, vs = cp p ∧ True := by
  obtain ⟨hl, hf⟩ := d_struct (i0 := (X.ti 153).getD default) rfl rfl h
  match vs, hl with
  | [a, b], _ =>
    obtain ⟨_, h0⟩ := hf (0, 3) (by simp)
    obtain ⟨_, h1⟩ := hf (1, 3) (by simp)
    obtain ⟨x, e0⟩ := d_int (i0 := (X.ti 3).getD default) rfl rfl h0
    obtain ⟨y, e1⟩ := d_int (i0 := (X.ti 3).getD default) rfl rfl h1
    obtain rfl : a = i x := (List.cons.inj e0).1
    obtain rfl : b = i y := (List.cons.inj e1).1
    exact ⟨⟨x, y⟩, rfl, trivial⟩
theorem dFt {n : Nat} {vs : List PV} (h : shp X n 25 vs) : ∃ x : Ft, vs = ft x ∧ x.fits := by
  obtain ⟨hl, hf⟩ := d_struct (i0 := (X.ti 25).getD default) rfl rfl h
  match vs, hl with
  | [a, b, c, d, e], _ =>
    obtain ⟨_, h0⟩ := hf (0, 3) (by simp)
    obtain ⟨_, h1⟩ := hf (1, 3) (by simp)
    obtain ⟨_, h2⟩ := hf (2, 3) (by simp)
    obtain ⟨_, h3⟩ := hf (3, 9) (by simp)
    obtain ⟨_, h4⟩ := hf (4, 23) (by simp)
    obtain ⟨x0, e0⟩ := d_int (i0 := (X.ti 3).getD default) rfl rfl h0
    obtain ⟨x1, e1⟩ := d_int (i0 := (X.ti 3).getD default) rfl rfl h1
    obtain ⟨x2, e2⟩ := d_int (i0 := (X.ti 3).getD default) rfl rfl h2
    obtain ⟨x3, e3, b3⟩ := d_str (i0 := (X.ti 9).getD default) rfl rfl h3
    obtain ⟨x4, nl, e4, b4, _⟩ := d_slice (i0 := (X.ti 23).getD default) (sz := 2) rfl rfl rfl (fun _ _ => dPt) h4
    obtain rfl : a = i x0 := (List.cons.inj e0).1
    obtain rfl : b = i x1 := (List.cons.inj e1).1
    obtain rfl : c = i x2 := (List.cons.inj e2).1
    obtain rfl : d = .str x3 := (List.cons.inj e3).1
    obtain rfl : e = .lst 2 nl (x4.map cp) := (List.cons.inj e4).1
    exact ⟨⟨x0, x1, x2, x3, x4, nl⟩, rfl, b3, b4⟩
theorem dFtS {n : Nat} {v : PV} (h : shpV X n 22 v) : ∃ (l : List Ft) (nl : Bool), v = .lst 5 nl (l.map ft) ∧ l.length ≤ 9223372036854775807 ∧ ∀ x ∈ l, x.fits := by
  have h := shpV_one (i0 := (X.ti 22).getD default) rfl rfl h
  obtain ⟨l, nl, e, h1, h2⟩ := d_slice (i0 := (X.ti 22).getD default) (sz := 5) rfl rfl rfl (fun _ _ => dFt) h
  exact ⟨l, nl, (List.cons.inj e).1, h1, h2⟩
end Go.Eng
namespace Go.Eng
open Go Go.Proofs
theorem dEi {n : Nat} {vs : List PV} (h : shp X n 27 vs) : ∃ x : Ei, vs = ei x ∧ x.f1.fits := by
  obtain ⟨hl, hf⟩ := d_struct (i0 := (X.ti 27).getD default) rfl rfl h
  match vs, hl with
  | [a, a0, a1, a2, a3, a4, b, c, d], _ =>
    obtain ⟨_, h0⟩ := hf (0, 3) (by simp)
    obtain ⟨_, h1⟩ := hf (1, 25) (by simp)
    obtain ⟨_, h2⟩ := hf (6, 3) (by simp)
    obtain ⟨_, h3⟩ := hf (7, 3) (by simp)
    obtain ⟨_, h4⟩ := hf (8, 3) (by simp)
    obtain ⟨x0, e0⟩ := d_int (i0 := (X.ti 3).getD default) rfl rfl h0
    obtain ⟨x1, e1, p1⟩ := dFt h1
    obtain ⟨x2, e2⟩ := d_int (i0 := (X.ti 3).getD default) rfl rfl h2
    obtain ⟨x3, e3⟩ := d_int (i0 := (X.ti 3).getD default) rfl rfl h3
    obtain ⟨x4, e4⟩ := d_int (i0 := (X.ti 3).getD default) rfl rfl h4
    have e1 : [a0, a1, a2, a3, a4] = ft x1 := e1
    simp only [ft, List.cons.injEq, and_true] at e1
    obtain ⟨rfl, rfl, rfl, rfl, rfl⟩ := e1
    obtain rfl : a = i x0 := (List.cons.inj e0).1
    obtain rfl : b = i x2 := (List.cons.inj e2).1
    obtain rfl : c = i x3 := (List.cons.inj e3).1
    obtain rfl : d = i x4 := (List.cons.inj e4).1
    exact ⟨⟨x0, x1, x2, x3, x4⟩, rfl, p1⟩
theorem dEiV {n : Nat} {v : PV} (h : shpV X n 27 v) : ∃ x : Ei, v = .agg (ei x) ∧ x.f1.fits := by
  obtain ⟨vs, rfl, hs⟩ := shpV_agg (i0 := (X.ti 27).getD default) rfl rfl h
  obtain ⟨p, rfl, hp⟩ := dEi hs
  exact ⟨p, rfl, hp⟩
end Go.Eng
namespace Go.Eng
open Go Go.Proofs
theorem law3 {pvs : List PV} (h : shpL X 8 [22, 27] pvs) : Fn Tryz.prog 3 false pvs (.bool true) := by
  obtain ⟨_, _, rfl, h1, h2⟩ := shpL_cons h
  obtain ⟨_, _, rfl, h3, h4⟩ := shpL_cons h2
  obtain rfl := shpL_nil h4
  obtain ⟨l, n1, rfl, a1, a2⟩ := dFtS h1
  obtain ⟨y, rfl, a3⟩ := dEiV h3
  exact f3 l n1 y a1 a2 a3
end Go.Eng
