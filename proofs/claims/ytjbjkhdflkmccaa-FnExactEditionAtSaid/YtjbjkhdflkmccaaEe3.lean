/- A part of the proof of a law's statement: for every input the law returns true and leaves its arguments as they were. No condition beyond the statement's own. A calculus over plain values for the model's code, proved once. -/
import Derived.ChangeArms
import Derived.DataReads
import Derived.Carry
import Derived.Test.YtjbjkhdflkmccaaEe2
set_option linter.unusedVariables false
set_option linter.unusedSimpArgs false
set_option autoImplicit true
set_option relaxedAutoImplicit true
namespace Go.Eng
open Go Go.RowKit
set_option linter.unusedSimpArgs false
set_option linter.unusedVariables false

/-! ### functions that write their first argument -/

def initMm (k : Nat) (n : Nat) : List SM := ({ m := .own true } : SM) :: (List.replicate k ({ m := .sc } : SM) ++ List.replicate (n - 1 - k) ({} : SM))
def rtM (t : Nat) (m : List SM) : Bool := (mf m t).m == .sc && (mf m t).g == [] && (mf m 0).m == .own true && (mf m 0).g == []

def compM (P : Program) (X : Cx) (f : Nat) : Option Comp := match P.funcs[f]? with
  | some fn => (match fn.body, rsOf X fn.results.toList, fn.params.toList with
    | some cd, some (none, [t]), _ :: ps => if fn.name != "runtime.NumGoroutine" && fn.nfree == 0 && ps.all X.flat then
      (match comp { X with mu := true } (rtM t) cd (initMm ps.length fn.ntmps) with
        | some (ir, out) => if out.2.isEmpty && endOK (rtM t) out.1 then some ⟨ir, none, [t], ps.map X.flat⟩ else none
        | none => none) else none
    | _, _, _ => none)
  | none => none

section
variable {P : Program} {X : Cx} {c : Ctx} {F E : Nat → Foot} {B : Nat → Nat} {M : MF} {V : Env} {a : Act} {w w' : World}

def InvM (P : Program) (base : Nat) (ms : List Nat) (w : World) : Prop := Inv P w ∧ ∀ g, P.globalNamed pow10N = some g → g < base ∧ g ∉ ms
theorem InvM.keep {P : Program} {base : Nat} {ms : List Nat} (w w' : World) (hk : ∀ k, ¬ (base ≤ k ∨ k ∈ ms) → w'.heap[k]? = w.heap[k]?) (h : InvM P base ms w) : InvM P base ms w' := by
  refine ⟨?_, h.2⟩
  rcases h.1 with h1 | h1
  · exact .inl h1
  · right
    unfold Lib.TabIs World.var? at *
    cases hg : P.globalNamed pow10N with
    | none => rw [hg] at h1; cases h1
    | some g =>
      rw [hg] at h1
      have := h.2 g hg
      simp only [Option.bind_some] at h1 ⊢
      rw [hk g (by rintro (h | h); omega; exact this.2 h)]
      exact h1

theorem ax_put (x0 : Value) (a : Act) (d : Option Tmp) (v : Value) (hd : d ≠ some 0) (h : Act.x a 0 = x0) : Act.x (a.put d v) 0 = x0 := by
  cases d with
  | none => exact h
  | some k =>
    have hk : k ≠ 0 := fun hh => hd (by rw [hh])
    simp only [Act.x, Act.put, Array.getD_eq_getD_getElem?, Array.getElem?_setIfInBounds] at h ⊢
    rw [if_neg (fun hh => hk hh)]
    exact h

/-- the frame of a function that writes its first argument -/
abbrev ctxM (P : Program) (w : World) (F0 : Foot) (x0 : Value) : Ctx :=
  { base := w.heap.size, ms := F0.map (·.1), ar := [], iv := InvM P w.heap.size (F0.map (·.1)), ivs := InvM.keep, z := true, ax := fun a => Act.x a 0 = x0, axs := fun a d v hd h => ax_put x0 a d v (hd rfl) h }

theorem ctxM_iv (P : Program) (X : Cx) (w : World) (F0 : Foot) (x0 : Value) (hmu : X.mu = true) : IvOK P X (ctxM P w F0 x0) :=
  ⟨fun _ h => ⟨h.1, fun g hg hh => by
    have := h.2 g hg
    rcases hh with hh | hh
    · exact absurd (Nat.lt_of_lt_of_le this.1 hh) (Nat.lt_irrefl _)
    · exact this.2 hh⟩, fun _ => hmu⟩

theorem RepL.at {w : World} : ∀ {vs xs}, RepL w vs xs [] → ∀ t, t < vs.length → Rep w (vs.getD t .junk) (xs.getD t undef) []
  | v :: vs, xs, h, t, ht => by
    obtain ⟨x, xs', F1, F2, rfl, e, h1, h2⟩ := h.cons_inv
    have e1 : F1 = [] := (List.append_eq_nil_iff.1 e.symm).1
    have e2 : F2 = [] := (List.append_eq_nil_iff.1 e.symm).2
    subst e1 e2
    cases t with
    | zero => exact h1
    | succ t => exact RepL.at h2 t (by simpa using ht)

theorem initMm_get (k n t : Nat) : (t = 0 ∧ mf (initMm k n) t = { m := .own true }) ∨ (0 < t ∧ t < k + 1 ∧ mf (initMm k n) t = { m := .sc }) ∨ (k + 1 ≤ t ∧ mf (initMm k n) t = {}) := by
  unfold initMm mf
  cases t with
  | zero => exact .inl ⟨rfl, rfl⟩
  | succ t =>
    right
    simp only [List.getD_eq_getElem?_getD, List.getElem?_cons_succ]
    rcases Nat.lt_or_ge t k with h | h
    · left
      refine ⟨by omega, by omega, ?_⟩
      rw [List.getElem?_append_left (by simpa using h), List.getElem?_replicate, if_pos h]; rfl
    · right
      refine ⟨by omega, ?_⟩
      rw [List.getElem?_append_right (by simpa using h), List.getElem?_replicate]
      split <;> rfl

theorem init_RAm {v : PV} {vs : List PV} {x0 : Value} {xs : List Value} {F0 : Foot} (hi : Inv P w) (hti : ∀ g, P.globalNamed pow10N = some g → ∀ e ∈ F0, e.1 ≠ g) (hv : Rep w v x0 F0) (hnd : (F0.map (·.1)).Nodup)
    (hF : ∀ g ∈ F0, g.1 < w.heap.size ∧ Unfrozen w g.1) (hr : RepL w vs xs []) (n : Nat) :
    RA (ctxM P w F0 x0) (initMm vs.length n).length (mf (initMm vs.length n)) (fun t => (v :: vs).getD t .junk)
      { tmps := (x0 :: xs).toArray ++ Array.replicate (n - (x0 :: xs).toArray.size) undef, defers := [] } w := by
  have hxl := hr.length
  have hx : ∀ t, t < vs.length + 1 → Act.x { tmps := (x0 :: xs).toArray ++ Array.replicate (n - (x0 :: xs).toArray.size) undef, defers := [] } t = (x0 :: xs).getD t undef := by
    intro t ht
    simp only [Act.x, Array.getD_eq_getD_getElem?, List.getD_eq_getElem?_getD]
    rw [Array.getElem?_append_left (by simp [hxl]; omega)]
    simp
  have hInvB := InvB.of hi
  refine ⟨fun t => if t = 0 then F0 else [], fun t => if t = 0 then F0 else [], fun _ => 0, ?_, Nat.le_refl _, ?_, rfl, ⟨hi, fun g hg => ⟨hInvB.2 g hg, fun hh => ?_⟩⟩, by simpa using hx 0 (by omega)⟩
  · have hg : ∀ t, (mf (initMm vs.length n) t).g = [] ∧ isBox (mf (initMm vs.length n) t).m = false := by
      intro t
      rcases initMm_get vs.length n t with ⟨_, h⟩ | ⟨_, _, h⟩ | ⟨_, h⟩ <;> rw [h] <;> exact ⟨rfl, rfl⟩
    have one : ∀ f ∈ F0, ∀ e ∈ F0, f.1 = e.1 → f.2 ≤ e.2 := by
      intro f hf e he hfe
      have : f = e := by
        clear hF hv hti
        induction F0 with
        | nil => cases he
        | cons g L ih =>
          simp only [List.map_cons, List.nodup_cons] at hnd
          rcases List.mem_cons.1 he with h1 | h1
          · rcases List.mem_cons.1 hf with h2 | h2
            · rw [h1, h2]
            · exact absurd (List.mem_map.2 ⟨f, h2, hfe.trans (congrArg Prod.fst h1)⟩) hnd.1
          · rcases List.mem_cons.1 hf with h2 | h2
            · exact absurd (List.mem_map.2 ⟨e, h1, hfe.symm.trans (congrArg Prod.fst h2)⟩) hnd.1
            · exact ih hnd.2 h2 h1
      rw [this]; exact Nat.le_refl _
    have only : ∀ t e, e ∈ (if t = 0 then F0 else []) → t = 0 ∧ e ∈ F0 := by
      intro t e he
      split at he
      · rename_i h; exact ⟨h, he⟩
      · cases he
    constructor
    · intro t
      refine Ent.mk (fun q hq => by rw [(hg t).1] at hq; cases hq) ?_ (fun _ => ⟨fun _ => ?_, fun hh => absurd (by rw [(hg t).1]; intro q hq; cases hq) hh⟩)
      · intro ho
        rcases initMm_get vs.length n t with ⟨h0, h⟩ | ⟨h0, _, h⟩ | ⟨h0, h⟩
        · rw [h] at ho; cases ho
        · rw [if_neg (by omega)]
        · rw [if_neg (by omega)]
      · rcases initMm_get vs.length n t with ⟨h0, h⟩ | ⟨h0, h1, h⟩ | ⟨h0, h⟩
        · rw [h]
          subst h0
          simp only [SlotR, if_true]
          rw [hx 0 (by omega)]
          exact ⟨hv, ⟨by simp [topOf], by simpa [topOf] using hnd⟩, by simp⟩
        · rw [h]
          have ht : t ≠ 0 := by omega
          simp only [SlotR, if_neg ht]
          rw [hx t h1]
          obtain ⟨k, rfl⟩ : ∃ k, t = k + 1 := ⟨t - 1, by omega⟩
          exact ⟨by simpa using hr.at k (by omega), trivial⟩
        · rw [h]; trivial
    · intro t u e f he hf _
      rw [(only t e he).1, (only u f hf).1]
    · intro t
      by_cases ht : t = 0
      · simp only [ht, if_true]; exact hnd
      · simp [ht]
    · intro t e he
      obtain ⟨_, he⟩ := only t e he
      exact ⟨.inr (List.mem_map.2 ⟨e, he, rfl⟩), (hF e he).2⟩
    · exact fun t e he => he
    · intro t e he u f hf hfe
      exact one f (only u f hf).2 e (only t e he).2 hfe
    · exact fun t _ => (hg t).1
    · intro t ht; rw [(hg t).2] at ht; cases ht
    · intro t u ht; rw [(hg t).2] at ht; cases ht
    · intro t f hf; exact (hF f (only t f hf).2).1
    · intro t f hf; exact .inl (.inr (List.mem_map.2 ⟨f, (only t f hf).2, rfl⟩))
  · simp [initMm, hxl]; omega
  · obtain ⟨e, he, hh⟩ := List.mem_map.1 hh
    exact hti g hg e he hh

/-- A FUNCTION OF THE PROGRAM THAT WRITES ITS FIRST ARGUMENT, by its compiled form. -/
theorem FnM.of {P : Program} {X : Cx} (hX : TabOK P X) (hm : P.follows .mixedOrders = true) {f : Nat} {q : Comp} (hc : compM P X f = some q) {v : PV} {vs : List PV} (hv : isL v = true) (hvs : vs.length = q.fl.length)
    {res v' : PV} (hv' : isL v' = true) (hw : awp (FC P) q.ir (fun _ V => V 0 = v' ∧ resV none q.rs V = res) (fun t => (v :: vs).getD t .junk)) : FnM P f (v :: vs) res v' := by
  unfold compM at hc
  split at hc
  case h_2 => cases hc
  rename_i fn hf
  split at hc
  case h_2 => cases hc
  rename_i cd t p0 ps hb hr hps
  split at hc
  case isFalse => cases hc
  rename_i hn
  simp only [Bool.and_eq_true, beq_iff_eq] at hn
  split at hc
  case h_2 => cases hc
  rename_i ir out hcc
  split at hc
  case isFalse => cases hc
  rename_i ho
  simp only [Option.some.injEq] at hc
  subst hc
  obtain ⟨hres, hl, hl2⟩ := rsOf_spec hr
  simp only [List.length_map] at hvs
  refine ⟨by simp [callB, hf, hb]; simpa using hn.1.1, hv', v, vs, rfl, hv, ?_⟩
  intro w x0 F0 xs hi hti h0 hnd hF hrv
  refine calls_of_wp hf hb ?_
  have hra := init_RAm hi hti h0 hnd hF hrv fn.ntmps
  rw [hvs] at hra
  refine wp_mono (code_ok (X := { X with mu := true }) (c := ctxM P w F0 x0) (fun t i h => hX t i h) (ctxM_iv P _ w F0 x0 rfl) hm cd _ ir out hcc _ _ w w _ hra (Stp.refl _ _) hw) ?_
  have fin : ∀ (a' : Act) (w' : World) (m : List SM) (V : Env), Stp (ctxM P w F0 x0) w w' → rtM t m = true → RA (ctxM P w F0 x0) m.length (mf m) V a' w' → (V 0 = v' ∧ resV none [t] V = res) →
      a'.defers = [] ∧ ∃ z, (results fn a'.tmps).run P w' = .ok z w' ∧ (∃ x F', Ending.returned z = .returned x ∧ Rep w' res x [] ∧ Rep w' v' x0 F' ∧
        (w'.os = w.os ∧ w'.tape = w.tape ∧ w'.output = w.output ∧ w.heap.size ≤ w'.heap.size ∧ ∀ k, k < w.heap.size → (∀ e ∈ F0, e.1 ≠ k) → w'.heap[k]? = w.heap[k]?) ∧
        (∀ g ∈ F', g.1 < w'.heap.size ∧ Unfrozen w' g.1 ∧ (w.heap.size ≤ g.1 ∨ ∃ e ∈ F0, e.1 = g.1)) ∧ (F'.map (·.1)).Nodup) := by
    rintro a' w' m V hS hrt ⟨F, E, B, h1, h2, h3, h4, _, h5⟩ ⟨hV0, hVr⟩
    simp only [rtM, Bool.and_eq_true, beq_iff_eq] at hrt
    obtain ⟨⟨⟨k1, k2⟩, k3⟩, k4⟩ := hrt
    have hst := ((h1.en t).sl (by rw [k2]; simp)).1 (by rw [k2]; simp)
    rw [k1] at hst
    have hs0 := ((h1.en 0).sl (by rw [k4]; simp)).1 (by rw [k4]; simp)
    rw [k3] at hs0
    obtain ⟨s1, ⟨s2, s3⟩, _⟩ := hs0
    simp only [topOf, if_true] at s2 s3
    have hx0 : Act.x a' 0 = x0 := h5
    refine ⟨h4, _, run_results hres hl hl2 a'.tmps undef (fun b hb => by cases hb), _, F 0, rfl, ?_, by rw [← hV0, ← hx0]; exact s1, ⟨hS.1, hS.2.1, hS.2.2.1, hS.2.2.2.1, fun k hk hh => hS.2.2.2.2 k ?_⟩, ?_, s3⟩
    · rw [← hVr]; exact hst.1
    · rintro (hk' | hk')
      · exact absurd (Nat.lt_of_lt_of_le hk hk') (Nat.lt_irrefl _)
      · obtain ⟨e, he, hh'⟩ := List.mem_map.1 hk'
        exact hh e he hh'
    · intro g hg
      have hgE := s2 g hg
      refine ⟨h1.f1 0 g hg, (h1.e3 0 g hgE).2, ?_⟩
      rcases (h1.e3 0 g hgE).1 with h | h
      · exact .inl h
      · obtain ⟨e, he, hh⟩ := List.mem_map.1 h
        exact .inr ⟨e, he, hh⟩
  intro e a' w' h
  simp only [Bool.and_eq_true, List.isEmpty_iff] at ho
  cases e with
  | normal =>
    obtain ⟨h1, m, V, h2, h3, h4⟩ := h
    rw [h2] at ho
    exact fin a' w' m V h1 ho.2 h3 h4
  | exit id =>
    obtain ⟨h1, m, V, h2, h3⟩ := h
    rw [ho.1] at h2; cases h2
  | ret =>
    obtain ⟨h1, m, V, h2, h3, h4⟩ := h
    exact fin a' w' m V h1 h2 h3 h4
  | _ => exact h.elim

end

/-! short names for what is printed -/
abbrev opM (d f r : Nat) (a : List Opd) : IR := .mop (.call d f r a)
abbrev opE (d f r t off sz : Nat) (a : List Opd) : IR := .mop (.cell d f r t off sz a)
abbrev opW (r t off n sz : Nat) (x : Opd) : IR := .mop (.set r t off n sz x)
end Go.Eng
namespace Go.Eng
open Go Go.RowKit
set_option linter.unusedSimpArgs false
set_option linter.unusedVariables false

/-! ### what a law is handed -/

def szOf (X : Cx) (t : Nat) : Nat := match X.ti t with | some i => i.sz | none => 0

/-- the cells of a value of this type -/
def shp (X : Cx) : Nat → Nat → List PV → Prop
  | 0, _, _ => False
  | n + 1, t, vs => match X.ti t with
    | none => False
    | some i => match i.k with
      | .int k => ∃ m, vs = [.int k m] ∧ (Lit.int k m).wf = true
      | .bool => ∃ b, vs = [.bool b]
      | .str => ∃ s, vs = [.str s] ∧ s.size ≤ maxLen
      | .slice e => vs = [.lst (szOf X e) true []] ∨ ∃ els, vs = [.lst (szOf X e) false els] ∧ els.length ≤ maxLen ∧ ∀ cs ∈ els, shp X n e cs
      | .struct fl => vs.length = i.sz ∧ ∀ q ∈ fl, shp X n q.2 (sub vs q.1 (szOf X q.2))
      | _ => False

/-- the fields lie one behind the other -/
def tile (X : Cx) : Nat → List (Nat × Nat) → Nat → Bool
  | k, [], n => k == n
  | k, q :: r, n => q.1 == k && tile X (k + szOf X q.2) r n
/-- the types that are covered -/
def cov (X : Cx) : Nat → Nat → Bool
  | 0, _ => false
  | n + 1, t => match X.ti t with
    | none => false
    | some i => match i.k with
      | .int _ | .bool | .str => i.sz == 1
      | .slice e => i.sz == 1 && szOf X e != 0 && cov X n e
      | .struct fl => tile X 0 fl i.sz && fl.all fun q => cov X n q.2
      | _ => false

section
variable {P : Program} {X : Cx} {w : World} {H : Type} {enc : TypeId × Value → H}

theorem add_add' (a : Addr) (x y : Nat) : (a.add x).add y = a.add (x + y) := by
  unfold Addr.add
  by_cases hx : x = 0
  · simp [hx]
  · by_cases hy : y = 0
    · simp [hy]
    · have : x + y ≠ 0 := by omega
      simp [hx, hy, this, Nat.add_assoc]

/-- the elements of a slice, read -/
theorem row_rep {base n e sz : Nat} {a : Addr} : ∀ (m : Nat), (∀ i, i < m → ∃ cs vs F, w.cells? base (a.add (i * sz)) sz = some cs ∧ RepL w vs cs F ∧ shp X n e vs ∧ (∀ g ∈ F, g.1 < w.heap.size) ∧ ∀ v ∈ vs, oneB v = true) →
    ∃ (els : List (List PV)) (xs : List Value) (F : Foot), els.length = m ∧ xs.length = m * sz ∧ RepL w els.flatten xs F ∧ (∀ cs ∈ els, cs.length = sz) ∧ (∀ cs ∈ els, shp X n e cs) ∧ (∀ cs ∈ els, ∀ c ∈ cs, oneB c = true) ∧
      Mem w a xs ∧ ∀ g ∈ F, g.1 < w.heap.size
  | 0, _ => ⟨[], [], [], rfl, by simp, .nil, by simp, by simp, by simp, by intro j x hx; simp at hx, by simp⟩
  | m + 1, h => by
    obtain ⟨els, xs, F, h1, h2, h3, h4, h5, h6, h7, h8⟩ := row_rep m (fun i hi => h i (by omega))
    obtain ⟨cs, vs, F', q1, q2, q3, q4, q5⟩ := h m (by omega)
    obtain ⟨_, p1, p2⟩ := World.cells?_some q1
    refine ⟨els ++ [vs], xs ++ cs, F ++ F', by simp [h1], by rw [List.length_append, h2, p1, Nat.succ_mul], by simpa using h3.append q2, ?_, ?_, ?_, ?_, ?_⟩
    · intro c hc
      rcases List.mem_append.1 hc with hc | hc
      · exact h4 c hc
      · simp at hc; subst hc; rw [← q2.length, p1]
    · intro c hc
      rcases List.mem_append.1 hc with hc | hc
      · exact h5 c hc
      · simp at hc; subst hc; exact q3
    · intro c hc
      rcases List.mem_append.1 hc with hc | hc
      · exact h6 c hc
      · simp at hc; subst hc; exact q5
    · intro j v hv
      by_cases hj : j < xs.length
      · rw [List.getElem?_append_left hj] at hv; exact h7 j v hv
      · rw [List.getElem?_append_right (by omega)] at hv
        have hjl : j - xs.length < cs.length := by
          rcases Nat.lt_or_ge (j - xs.length) cs.length with h0 | h0
          · exact h0
          · rw [List.getElem?_eq_none h0] at hv; cases hv
        have := p2 (j - xs.length) (by omega)
        rw [add_add', hv] at this
        rw [h2] at this hj
        rwa [show m * sz + (j - m * sz) = j by omega] at this
    · intro g hg
      rcases List.mem_append.1 hg with hg | hg
      · exact h8 g hg
      · exact q4 g hg


/-- the fields of a struct, read -/
theorem tile_rep {n : Nat} {cs : List Value} : ∀ (fl : List (Nat × Nat)) (k m : Nat), tile X k fl m = true → m ≤ cs.length →
    (∀ q ∈ fl, ∃ (vs : List PV) (F : Foot), RepL w vs ((cs.drop q.1).take (szOf X q.2)) F ∧ shp X n q.2 vs ∧ (∀ g ∈ F, g.1 < w.heap.size) ∧ ∀ v ∈ vs, oneB v = true) →
    k ≤ m ∧ ∃ (vs : List PV) (F : Foot), RepL w vs ((cs.drop k).take (m - k)) F ∧ (∀ q ∈ fl, k ≤ q.1 ∧ q.1 + szOf X q.2 ≤ m ∧ shp X n q.2 (sub vs (q.1 - k) (szOf X q.2))) ∧ (∀ g ∈ F, g.1 < w.heap.size) ∧ ∀ v ∈ vs, oneB v = true
  | [], k, m, ht, _, _ => by
    simp only [tile, beq_iff_eq] at ht; subst ht
    exact ⟨Nat.le_refl _, [], [], by simpa using RepL.nil, by simp, by simp, by simp⟩
  | q :: fl, k, m, ht, hm, h => by
    simp only [tile, Bool.and_eq_true, beq_iff_eq] at ht
    obtain ⟨hq, ht⟩ := ht
    obtain ⟨hk, vs2, F2, r2, s2, l2, o2⟩ := tile_rep fl _ m ht hm (fun p hp => h p (List.mem_cons_of_mem _ hp))
    obtain ⟨vs1, F1, r1, s1, l1, o1⟩ := h q (List.mem_cons_self ..)
    rw [hq] at r1
    have hlen : vs1.length = szOf X q.2 := by
      rw [← r1.length, List.length_take, List.length_drop]; omega
    refine ⟨by omega, vs1 ++ vs2, F1 ++ F2, ?_, ?_, ?_, ?_⟩
    · have := r1.append r2
      have e : (cs.drop k).take (m - k) = (cs.drop k).take (szOf X q.2) ++ (cs.drop (k + szOf X q.2)).take (m - (k + szOf X q.2)) := by
        rw [show m - k = szOf X q.2 + (m - (k + szOf X q.2)) by omega, List.take_add, List.drop_drop]
      rw [e]; exact this
    · intro p hp
      rcases List.mem_cons.1 hp with rfl | hp
      · refine ⟨by omega, by omega, ?_⟩
        rw [hq, Nat.sub_self, sub, List.drop_zero, ← hlen, List.take_left]; exact s1
      · obtain ⟨a1, a2, a3⟩ := s2 p hp
        refine ⟨by omega, a2, ?_⟩
        have : sub (vs1 ++ vs2) (p.1 - k) (szOf X p.2) = sub vs2 (p.1 - (k + szOf X q.2)) (szOf X p.2) := by
          unfold sub
          rw [show p.1 - k = vs1.length + (p.1 - (k + szOf X q.2)) by omega, List.drop_length_add_append]
        rw [this]; exact a3
    · intro g hg
      rcases List.mem_append.1 hg with hg | hg
      · exact l1 g hg
      · exact l2 g hg
    · intro v hv
      rcases List.mem_append.1 hv with hv | hv
      · exact o1 v hv
      · exact o2 v hv


theorem cov_data {n t : Nat} (h : cov X n t = true) : ∃ i, X.ti t = some i ∧ i.k.data = true := by
  cases n with
  | zero => cases h
  | succ n =>
    unfold cov at h
    split at h
    · cases h
    · rename_i i hi
      refine ⟨i, hi, ?_⟩
      split at h <;> first | (rename_i hk; rw [hk]; rfl) | cases h | (rename_i hk _; rw [hk]; rfl)

theorem cells_of (hX : TabOK P X) {t : Nat} {i : TI} (hi : X.ti t = some i) (hd : i.k.data = true) : P.cellsOf t = i.sz := by
  obtain ⟨j, hj, h1, _⟩ := tiB.info (hX t i hi) hd
  simp [Program.cellsOf, hj, h1]

/-- WHAT IS HANDED CAN BE READ. -/
theorem trod_rep (hX : TabOK P X) {base : Nat} {held : Bool} : ∀ (n t : Nat), cov X n t = true → ∀ (fuel : Nat) (cs : List Value) (x : DataW H × List MemPlace), DataW.trod enc P w base (fun _ => true) held fuel t cs = some x →
    ∃ (vs : List PV) (F : Foot), RepL w vs cs F ∧ shp X n t vs ∧ (∀ g ∈ F, g.1 < w.heap.size) ∧ ∀ v ∈ vs, oneB v = true
  | 0, t, hc, _, _, _, _ => by cases hc
  | n + 1, t, hc, fuel, cs, x, h => by
    unfold cov at hc
    split at hc
    · cases hc
    · rename_i i hi
      have hB := hX t i hi
      split at hc
      · rename_i k hk
        obtain ⟨m, rfl, _, hw⟩ := DataW.trod_int (kindOK.int hB hk) h
        exact ⟨[.int k m], [], .one (.int k m), by simp only [shp, hi, hk]; exact ⟨m, rfl, hw⟩, by simp, by simp [oneB]⟩
      · rename_i hk
        obtain ⟨b, rfl, _⟩ := DataW.trod_bool (kindOK.bool hB hk) h
        exact ⟨[.bool b], [], .one (.bool b), by simp only [shp, hi, hk]; exact ⟨b, rfl⟩, by simp, by simp [oneB]⟩
      · rename_i hk
        obtain ⟨s, rfl, _, hw⟩ := DataW.trod_string (kindOK.str hB hk) h
        exact ⟨[.str s], [], .one (.str s), by simp only [shp, hi, hk]; exact ⟨s, rfl, hw⟩, by simp, by simp [oneB]⟩
      · rename_i e hk
        simp only [Bool.and_eq_true, beq_iff_eq, bne_iff_ne, ne_eq] at hc
        obtain ⟨⟨_, hsz⟩, hce⟩ := hc
        obtain ⟨ie, hie, hde⟩ := cov_data hce
        have hcel : P.cellsOf e = szOf X e := by rw [cells_of hX hie hde, szOf, hie]
        rcases DataW.trod_slice (kindOK.slice hB hk) h with ⟨rfl, _⟩ | ⟨a, len, cap, elems, rest, nf, rfl, rfl, _, hbase, hlc, hcap, hel, hel2, hrest, _⟩
        · exact ⟨[.lst (szOf X e) true []], [], .one (.nil _), by simp [shp, hi, hk], by simp, by simp [oneB]⟩
        · by_cases h0 : cap = 0
          · subst h0
            have : len = 0 := by omega
            subst this
            exact ⟨[.lst (szOf X e) false []], [], .one (.emp _ _), by simp only [shp, hi, hk]; exact .inr ⟨[], rfl, by simp, by simp⟩, by simp, by simp [oneB]⟩
          · obtain ⟨hr1, hr2⟩ := hrest rfl
            have each : ∀ j, j < cap → ∃ cs vs F, w.cells? base (a.add (j * szOf X e)) (szOf X e) = some cs ∧ RepL w vs cs F ∧ shp X n e vs ∧ (∀ g ∈ F, g.1 < w.heap.size) ∧ ∀ v ∈ vs, oneB v = true := by
              intro j hj
              have : ∃ y, (w.cells? base (a.add (j * P.cellsOf e)) (P.cellsOf e)).bind (DataW.trod enc P w base (fun _ => true) held nf e) = some y := by
                by_cases hjl : j < len
                · have := hel2 j hjl
                  rw [List.getElem?_eq_getElem (by omega)] at this
                  exact ⟨_, this⟩
                · have := hr2 (j - len) (by omega)
                  rw [show len + (j - len) = j by omega, List.getElem?_eq_getElem (by omega)] at this
                  exact ⟨_, this⟩
              obtain ⟨y, hy⟩ := this
              obtain ⟨c', hc1, hc2⟩ := Option.bind_eq_some_iff.1 hy
              obtain ⟨vs, F, r1, r2, r3, r4⟩ := trod_rep hX n e hce nf c' y hc2
              rw [hcel] at hc1
              exact ⟨c', vs, F, hc1, r1, r2, r3, r4⟩
            obtain ⟨els, xs, F, q1, q2, q3, q4, q5, q6, q7, q8⟩ := row_rep len (fun j hj => each j (by omega))
            -- the row is there
            obtain ⟨cl, _, _, hcl, _⟩ := each (cap - 1) (by omega)
            obtain ⟨_, p1, p2⟩ := World.cells?_some hcl
            have hlast := p2 (szOf X e - 1) (by omega)
            rw [add_add', List.getElem?_eq_getElem (by omega)] at hlast
            obtain ⟨c0, _, _, hc0, _⟩ := each 0 (by omega)
            obtain ⟨_, u1, u2⟩ := World.cells?_some hc0
            have hfirst := u2 0 (by omega)
            rw [add_add', List.getElem?_eq_getElem (by omega)] at hfirst
            have hspot : a.spot = none := by
              have := World.cell?_spot hfirst
              simpa [Addr.add] using this
            have hpos : (cap - 1) * szOf X e + (szOf X e - 1) + 1 = cap * szOf X e := by
              have : cap * szOf X e = (cap - 1) * szOf X e + szOf X e := by
                conv => lhs; rw [show cap = (cap - 1) + 1 by omega, Nat.succ_mul]
              omega
            rw [addr_add_plain hspot] at hlast
            have hdr : Hdr w a (cap * szOf X e) := by
              refine ⟨hspot, ?_⟩
              simp only [World.cell?] at hlast
              split at hlast
              · rename_i arr ty fr hb
                refine ⟨arr, ty, fr, hb, ?_⟩
                simp only [Option.isSome_none, Bool.false_eq_true, if_false] at hlast
                have := (Array.getElem?_eq_some_iff.1 hlast).1
                omega
              · cases hlast
            refine ⟨[.lst (szOf X e) false els], (a.block, a.off + els.length * szOf X e) :: F, ?_, ?_, ?_, by simp [oneB]⟩
            · have := Rep.lst hdr (by omega : els.length ≤ cap) q4 q6 q7 q3
              rw [q1] at this ⊢
              exact .one this
            · simp only [shp, hi, hk]
              exact .inr ⟨els, rfl, by omega, q5⟩
            · intro g hg
              rcases List.mem_cons.1 hg with rfl | hg
              · obtain ⟨_, arr, ty, fr, hb, _⟩ := hdr
                exact (Array.getElem?_eq_some_iff.1 hb).1
              · exact q8 g hg
      · rename_i fl hk
        simp only [Bool.and_eq_true, List.all_eq_true] at hc
        obtain ⟨fs, hfs, hmap⟩ := kindOK.struct hB hk
        obtain ⟨xs, nf, rfl, _, hlen, hxs, hf⟩ := DataW.trod_struct hfs h
        have hcel := cells_of hX hi (by rw [hk]; rfl)
        have hfld : ∀ q ∈ fl, ∃ (vs : List PV) (F : Foot), RepL w vs ((cs.drop q.1).take (szOf X q.2)) F ∧ shp X n q.2 vs ∧ (∀ g ∈ F, g.1 < w.heap.size) ∧ ∀ v ∈ vs, oneB v = true := by
          intro q hq
          rw [← hmap] at hq
          obtain ⟨f, hfm, rfl⟩ := List.mem_map.1 hq
          obtain ⟨j, hj⟩ := List.mem_iff_getElem?.1 hfm
          have hq' : (f.offset, f.type) ∈ fl := by rw [← hmap]; exact hq
          obtain ⟨ie, hie, hde⟩ := cov_data (hc.2 _ hq')
          have hce : P.cellsOf f.type = szOf X f.type := by rw [cells_of hX hie hde, szOf, hie]
          have hj' : fs[j]? = some f := by simpa using hj
          have := hf j f hj'
          have hjl : j < fs.size := (Array.getElem?_eq_some_iff.1 hj').1
          rw [hce, List.getElem?_eq_getElem (by omega)] at this
          exact trod_rep hX n f.type (hc.2 _ hq') nf _ _ this
        obtain ⟨_, vs, F, r1, r2, r3, r4⟩ := tile_rep fl 0 i.sz hc.1 (by omega) hfld
        rw [List.drop_zero, Nat.sub_zero, List.take_of_length_le (by omega)] at r1
        refine ⟨vs, F, r1, ?_, r3, r4⟩
        simp only [shp, hi, hk]
        refine ⟨by rw [← r1.length]; omega, fun q hq => ?_⟩
        have := (r2 q hq).2.2
        simpa using this
      · cases hc

end
end Go.Eng
namespace Go.Eng
open Go Go.RowKit
set_option linter.unusedSimpArgs false
set_option linter.unusedVariables false

section
variable {P : Program} {X : Cx} {w : World} {H : Type} {enc : TypeId × Value → H}

/-- a whole argument -/
def shpV (X : Cx) (n t : Nat) (pv : PV) : Prop := match X.ti t with
  | some i => if i.k.agg = true then ∃ vs, pv = .agg vs ∧ shp X n t vs else shp X n t [pv]
  | none => False

theorem arg_rep (hX : TabOK P X) {base b0 : Nat} {held : Bool} {r : Reach} {n t : Nat} (hc : cov X n t = true) {v : Value} {d : DataW H} {p : List MemPlace}
    (h : DataW.Trod enc P w base (fun _ => true) held t v d p) (hv : Value.okWide P w r b0 t v) : ∃ (pv : PV) (F : Foot), Rep w pv v F ∧ shpV X n t pv ∧ ∀ g ∈ F, g.1 < w.heap.size := by
  obtain ⟨fuel, h⟩ := h
  obtain ⟨vs, F, h1, h2, h3, h4⟩ := trod_rep hX n t hc fuel _ _ h
  have one : ∀ {i : TI}, X.ti t = some i → i.k.agg = false → v.cells.toList = [v] → ∃ (pv : PV) (F : Foot), Rep w pv v F ∧ shpV X n t pv ∧ ∀ g ∈ F, g.1 < w.heap.size := by
    intro i hi ha hcell
    rw [hcell] at h1
    obtain ⟨x, F1, hx⟩ : ∃ x F1, vs = [x] ∧ F = F1 := by
      have := h1.length
      match vs, this with
      | [x], _ => exact ⟨x, F, rfl, rfl⟩
    obtain ⟨rfl, rfl⟩ := hx
    obtain ⟨y, ys, G1, G2, e1, e2, e3, e4⟩ := h1.cons_inv
    obtain ⟨e5, e6⟩ := e4.nil_inv
    simp only [List.cons.injEq] at e1
    obtain ⟨rfl, _⟩ := e1
    refine ⟨x, F, ?_, ?_, h3⟩
    · rw [e2, e6, List.append_nil]; exact e3
    · unfold shpV; rw [hi]; simp only [ha, Bool.false_eq_true, if_false]; exact h2
  obtain ⟨i, hi, hd⟩ := cov_data hc
  have hB := hX t i hi
  cases n with
  | zero => cases hc
  | succ n =>
    unfold cov at hc
    rw [hi] at hc
    simp only at hc
    cases hk : i.k with
    | int k =>
      refine one hi (by rw [hk]; rfl) ?_
      have hu := kindOK.int hB hk
      cases v <;> simp [Value.okWide, Cell.okWide, Cell.ok, hu] at hv
      rfl
    | bool =>
      refine one hi (by rw [hk]; rfl) ?_
      have hu := kindOK.bool hB hk
      cases v <;> simp [Value.okWide, Cell.okWide, Cell.ok, hu] at hv
      rfl
    | str =>
      refine one hi (by rw [hk]; rfl) ?_
      have hu := kindOK.str hB hk
      cases v <;> simp [Value.okWide, Cell.okWide, Cell.ok, hu] at hv
      rfl
    | slice e =>
      refine one hi (by rw [hk]; rfl) ?_
      have hu := kindOK.slice hB hk
      cases v <;> simp [Value.okWide, Cell.okWide, Cell.ok, hu] at hv
      rfl
    | struct fl =>
      obtain ⟨fs, hu, _⟩ := kindOK.struct hB hk
      unfold Value.okWide at hv
      rw [hu] at hv
      obtain ⟨cs, rfl, _⟩ := hv
      refine ⟨.agg vs, F, ?_, ?_, h3⟩
      · have := Rep.agg h1
        simpa [Value.cells] using this
      · unfold shpV; rw [hi]; simp only [hk]; exact ⟨vs, rfl, h2⟩
    | _ => rw [hk] at hc; cases hc


def shpL (X : Cx) (n : Nat) : List Nat → List PV → Prop
  | [], [] => True
  | t :: ts, v :: vs => shpV X n t v ∧ shpL X n ts vs
  | _, _ => False

/-- the arguments -/
theorem args_rep (hX : TabOK P X) {base b0 : Nat} {held : Bool} {r : Reach} {n : Nat} : ∀ {ts : List TypeId} {vs : List Value} {ds : List (DataW H)} {ps : List MemPlace}, (∀ t ∈ ts, cov X n t = true) →
    DataW.TrodAll enc P w base (fun _ => true) held ts vs ds ps → (∀ (j : Nat) t v, ts[j]? = some t → vs[j]? = some v → Value.okWide P w r b0 t v) →
    ∃ (pvs : List PV) (F : Foot), RepL w pvs vs F ∧ shpL X n ts pvs ∧ ∀ g ∈ F, g.1 < w.heap.size
  | [], [], [], _, _, _, _ => ⟨[], [], .nil, trivial, by simp⟩
  | t :: ts, v :: vs, d :: ds, _, hc, h, hv => by
    obtain ⟨p, q, h1, h2, _⟩ := h
    obtain ⟨pv, F, r1, r2, r3⟩ := arg_rep hX (hc t (List.mem_cons_self ..)) h1 (hv 0 t v rfl rfl)
    obtain ⟨pvs, G, s1, s2, s3⟩ := args_rep hX (fun u hu => hc u (List.mem_cons_of_mem _ hu)) h2 (fun j u x hu hx => hv (j + 1) u x hu hx)
    refine ⟨pv :: pvs, F ++ G, .cons r1 s1, ⟨r2, s2⟩, fun g hg => ?_⟩
    rcases List.mem_append.1 hg with hg | hg
    · exact r3 g hg
    · exact s3 g hg
  | [], _ :: _, _, _, _, h, _ => by cases h
  | [], [], _ :: _, _, _, h, _ => by cases h
  | _ :: _, [], _, _, _, h, _ => by cases h
  | _ :: _, _ :: _, [], _, _, h, _ => by cases h

end
end Go.Eng
namespace Go.Eng
open Go Go.RowKit
set_option linter.unusedSimpArgs false
set_option linter.unusedVariables false

/-! ### a calculus that is walked lazily: what is behind a test or a call is not looked at before it is answered -/

def GrdP (v : PV) (b : Bool) (A B : Prop) : Prop := isBool v = true ∧ (v.isT = b → A) ∧ (v.isT = (!b) → B)
def grd (V : Env) : List (Nat × Bool) → Prop → Prop → Prop
  | [], A, _ => A
  | q :: r, A, B => grd V r (GrdP (V q.1) q.2 A B) B
def CallP (c : PV → Prop) (P : PV → Prop) : Prop := ∃ r, c r ∧ P r
def CondP (v : PV) (A B : Prop) : Prop := isBool v = true ∧ (v.isT = true → A) ∧ (v.isT = false → B)
def OkP (a A : Prop) : Prop := a ∧ A
def AnyP (f : PV → Prop) : Prop := ∀ x, f x

def sxo (C : Ctr) (K : Env → Prop) (V : Env) : POp → Prop
  | .set d e => OkP (e.ok V) (K (V.upd d (e.val V)))
  | .call d f args k => CallP (C f (k == .lin || k == .tup) (args.map (·.val V))) fun r => (k = .sc → scB r = true) ∧ (k = .tup → ∃ vs, r = .tup vs) ∧ K (V.upd d r)
  | .callv d fv args => CallP (fun r => ∃ f caps, fv.val V = .fn f caps ∧ C f false (args.map (·.val V) ++ caps) r) fun r => scB r = true ∧ K (V.upd d r)

def sxl (C : Ctr) (K : Env → Prop) : List GP → Env → Prop
  | [], V => K V
  | o :: r, V => grd V o.g (sxo C (sxl C K r) V o.p) (AnyP fun x => sxl C K r (V.upd o.p.dst x))

def sx (C : Ctr) : IR → (Ext → Env → Prop) → Env → Prop
  | .skip, Q, V => Q .normal V
  | .ops l, Q, V => sxl C (Q .normal) l V
  | .mop p, Q, V => p.wp C (Q .normal) V
  | .seq a b, Q, V => sx C a (Ext.then (sx C b Q) Q) V
  | .cond c a b, Q, V => CondP (c.val V) (sx C a Q V) (sx C b Q V)
  | .block id b, Q, V => sx C b (Ext.inBlock id Q) V
  | .loop b, Q, V => ∃ (I : Env → Prop) (μ : Env → Nat), I V ∧ ∀ V, I V → sx C b (Ext.then (fun V' => I V' ∧ μ V' < μ V) Q) V
  | .exit id, Q, V => Q (.exit id) V
  | .ret, Q, V => Q .ret V

theorem grd_spec {V : Env} {A B : Prop} : ∀ g : List (Nat × Bool), grd V g A B → gBool V g ∧ (gHold V g → A) ∧ (¬ gHold V g → B)
  | [], h => ⟨trivial, fun _ => h, fun n => absurd (fun q hq => by cases hq) n⟩
  | q :: r, h => by
    obtain ⟨h1, h2, h3⟩ := grd_spec (A := GrdP (V q.1) q.2 A B) r h
    have key : gHold V r → (gHold V (q :: r) ↔ (V q.1).isT = q.2) := by
      intro hr
      have hb := (h2 hr).1
      cases hv : V q.1 <;> rw [hv] at hb <;> simp [isBool] at hb
      rename_i b
      constructor
      · intro hh
        have := hh q (List.mem_cons_self ..)
        rw [hv] at this
        simpa [PV.isT] using this
      · intro hh q' hq'
        rcases List.mem_cons.1 hq' with rfl | hq'
        · rw [hv]; rw [← hh]; rfl
        · exact hr q' hq'
    refine ⟨fun hr => (h2 hr).1, fun hh => ?_, fun hh => ?_⟩
    · have hr : gHold V r := fun q' hq' => hh q' (List.mem_cons_of_mem _ hq')
      exact (h2 hr).2.1 ((key hr).1 hh)
    · by_cases hr : gHold V r
      · refine (h2 hr).2.2 ?_
        have : ¬ (V q.1).isT = q.2 := fun e => hh ((key hr).2 e)
        cases h : (V q.1).isT <;> cases hq : q.2 <;> simp_all
      · exact h3 hr

theorem sxl_wpl {C : Ctr} {K K' : Env → Prop} (hK : ∀ V, K V → K' V) : ∀ (l : List GP) (V : Env), sxl C K l V → wpl C K' l V
  | [], V, h => hK V h
  | o :: r, V, h => by
    obtain ⟨h1, h2, h3⟩ := grd_spec _ h
    have ih := sxl_wpl (C := C) hK r
    refine ⟨h1, ?_⟩
    have any : ¬ gHold V o.g → ∀ x, wpl C K' r (V.upd o.p.dst x) := fun n x => ih _ (h3 n x)
    by_cases hg : gHold V o.g
    · have h := h2 hg
      cases hp : o.p with
      | set d e => rw [hp] at h; exact ⟨fun _ => h.1, ih _ h.2⟩
      | call d f a k => rw [hp] at h; obtain ⟨x, q1, q2, q3, q4⟩ := h; exact ⟨x, fun _ => q1, q2, q3, ih _ q4⟩
      | callv d f a => rw [hp] at h; obtain ⟨x, q1, q2, q3⟩ := h; exact ⟨x, fun _ => q1, q2, ih _ q3⟩
    · have any := any hg
      cases hp : o.p with
      | set d e => rw [hp] at any; exact ⟨fun n => absurd n hg, any _⟩
      | call d f a k =>
        rw [hp] at any
        refine ⟨if k = .tup then .tup [] else .bool false, fun n => absurd n hg, fun e => by subst e; rfl, fun e => ⟨[], by rw [if_pos e]⟩, any _⟩
      | callv d f a => rw [hp] at any; exact ⟨.bool false, fun n => absurd n hg, rfl, any _⟩

theorem sx_awp {C : Ctr} : ∀ (ir : IR) (Q Q' : Ext → Env → Prop) (V : Env), (∀ e V, Q e V → Q' e V) → sx C ir Q V → awp C ir Q' V
  | .skip, Q, Q', V, h, hq => h _ _ hq
  | .ops l, Q, Q', V, h, hq => sxl_wpl (fun V => h _ V) l V hq
  | .mop p, Q, Q', V, h, hq => MP.wp_mono (fun V => h _ V) hq
  | .seq a b, Q, Q', V, h, hq => sx_awp a _ _ V (fun e V hq => by cases e <;> first | exact sx_awp b _ _ V h hq | exact h _ _ hq) hq
  | .cond c a b, Q, Q', V, h, hq => ⟨hq.1, fun hh => sx_awp a _ _ V h (hq.2.1 hh), fun hh => sx_awp b _ _ V h (hq.2.2 hh)⟩
  | .block id b, Q, Q', V, h, hq => sx_awp b _ _ V (fun e V hq => by
      cases e with
      | exit j =>
        simp only [Ext.inBlock] at hq ⊢
        split
        · rename_i hj; rw [if_pos hj] at hq; exact h _ _ hq
        · rename_i hj; rw [if_neg hj] at hq; exact h _ _ hq
      | _ => exact h _ _ hq) hq
  | .loop b, Q, Q', V, h, ⟨I, μ, h1, h2⟩ => ⟨I, μ, h1, fun V hV => sx_awp b _ _ V (fun e V hq => by cases e <;> first | exact hq | exact h _ _ hq) (h2 V hV)⟩
  | .exit id, Q, Q', V, h, hq => h _ _ hq
  | .ret, Q, Q', V, h, hq => h _ _ hq

theorem Fn.by_sx {P : Program} {X : Cx} (hX : TabOK P X) (hm : P.follows .mixedOrders = true) {f : Nat} {q : Comp} (hc : compP P X f = some q) {lin : Bool} (hl : X.sig.lookup f = some lin)
    {args : List PV} (ha : argsOK q.fl args = true) {res : PV} (hw : sx (FC P) q.ir (fun _ V => resOK q.rb V ∧ resV q.rb q.rs V = res) (fun t => args.getD t .junk)) : Fn P f lin args res :=
  Fn.of hX hm hc hl ha (sx_awp _ _ _ _ (fun _ _ h => h) hw)

theorem FnM.by_sx {P : Program} {X : Cx} (hX : TabOK P X) (hm : P.follows .mixedOrders = true) {f : Nat} {q : Comp} (hc : compM P X f = some q) {v : PV} {vs : List PV} (hv : isL v = true) (hvs : vs.length = q.fl.length)
    {res v' : PV} (hv' : isL v' = true) (hw : sx (FC P) q.ir (fun _ V => V 0 = v' ∧ resV none q.rs V = res) (fun t => (v :: vs).getD t .junk)) : FnM P f (v :: vs) res v' :=
  FnM.of hX hm hc hv hvs hv' (sx_awp _ _ _ _ (fun _ _ h => h) hw)

section
variable {C : Ctr} {K : Env → Prop} {V : Env} {Q : Ext → Env → Prop}
/-! what simp stops at: no step is taken inside -/
def OkS (C : Ctr) (K : Env → Prop) (a : Prop) (r : List GP) (V : Env) : Prop := a ∧ sxl C K r V
def GrdS (C : Ctr) (K : Env → Prop) (v : PV) (b : Bool) (g : List (Nat × Bool)) (p : POp) (r : List GP) (V : Env) : Prop :=
  isBool v = true ∧ (v.isT = b → sxl C K (⟨g, p⟩ :: r) V) ∧ (v.isT = (!b) → ∀ x, sxl C K r (V.upd p.dst x))
def CallS (C : Ctr) (K : Env → Prop) (f : Nat) (l : Bool) (a : List PV) (d : Nat) (k : RK) (r : List GP) (V : Env) : Prop :=
  ∃ x, C f l a x ∧ (k = .sc → scB x = true) ∧ (k = .tup → ∃ vs, x = .tup vs) ∧ sxl C K r (V.upd d x)
def CallvS (C : Ctr) (K : Env → Prop) (fv : PV) (a : List PV) (d : Nat) (r : List GP) (V : Env) : Prop :=
  ∃ x, (∃ f caps, fv = .fn f caps ∧ C f false (a ++ caps) x) ∧ scB x = true ∧ sxl C K r (V.upd d x)
def CondS (C : Ctr) (v : PV) (a b : IR) (Q : Ext → Env → Prop) (V : Env) : Prop := isBool v = true ∧ (v.isT = true → sx C a Q V) ∧ (v.isT = false → sx C b Q V)

def CallM (C : Ctr) (f : Nat) (a : List PV) (d r : Nat) (Q : Ext → Env → Prop) (V : Env) : Prop := ∃ res v', C.fm f a res v' ∧ Q .normal ((V.upd r v').upd d res)
def CallE (C : Ctr) (f : Nat) (a : List PV) (d r t off sz : Nat) (Q : Ext → Env → Prop) (V : Env) : Prop := ∃ res v', C.fm f a res v' ∧ Q .normal ((V.upd r (setEl V r t off sz [v'])).upd d res)
theorem sx_mcall {d f r : Nat} {as : List Opd} : sx C (.mop (.call d f r as)) Q V = CallM C f (V r :: as.map (·.val V)) d r Q V := rfl
theorem sx_mcell {d f r t off sz : Nat} {as : List Opd} : sx C (.mop (.cell d f r t off sz as)) Q V = (isLst sz (V r) = true ∧ CallE C f (((elAt V r t)[off]?).getD .junk :: as.map (·.val V)) d r t off sz Q V) := rfl
theorem sx_mset {r t off n sz : Nat} {x : Opd} : sx C (.mop (.set r t off n sz x)) Q V = ((isLst sz (V r) = true ∧ (cellsOf (x.val V)).length = n ∧ ∀ c ∈ cellsOf (x.val V), oneB c = true) ∧ Q .normal (V.upd r (setEl V r t off sz (cellsOf (x.val V))))) := rfl
theorem CallM_i {f : Nat} {a : List PV} {d r : Nat} {res v' : PV} (h : C.fm f a res v') (h2 : Q .normal ((V.upd r v').upd d res)) : CallM C f a d r Q V := ⟨res, v', h, h2⟩
theorem CallE_i {f : Nat} {a : List PV} {d r t off sz : Nat} {res v' : PV} (h : C.fm f a res v') (h2 : Q .normal ((V.upd r (setEl V r t off sz [v'])).upd d res)) : CallE C f a d r t off sz Q V := ⟨res, v', h, h2⟩

theorem sx_skip : sx C .skip Q V = Q .normal V := rfl
theorem sx_ops {l : List GP} : sx C (.ops l) Q V = sxl C (Q .normal) l V := rfl
theorem sx_seq {a b : IR} : sx C (.seq a b) Q V = sx C a (Ext.then (sx C b Q) Q) V := rfl
theorem sx_cond {o : Opd} {a b : IR} : sx C (.cond o a b) Q V = CondS C (o.val V) a b Q V := rfl
theorem sx_block {id : Nat} {b : IR} : sx C (.block id b) Q V = sx C b (Ext.inBlock id Q) V := rfl
theorem sx_exit {id : Nat} : sx C (.exit id) Q V = Q (.exit id) V := rfl
theorem sx_ret : sx C .ret Q V = Q .ret V := rfl
theorem sxl_nil : sxl C K [] V = K V := rfl
theorem sxl_set {d : Nat} {e : Ex} {r : List GP} : sxl C K (⟨[], .set d e⟩ :: r) V = OkS C K (e.ok V) r (V.upd d (e.val V)) := rfl
theorem sxl_call {d f : Nat} {a : List Opd} {k : RK} {r : List GP} : sxl C K (⟨[], .call d f a k⟩ :: r) V = CallS C K f (k == .lin || k == .tup) (a.map (·.val V)) d k r V := rfl
theorem sxl_callv {d : Nat} {fv : Opd} {a : List Opd} {r : List GP} : sxl C K (⟨[], .callv d fv a⟩ :: r) V = CallvS C K (fv.val V) (a.map (·.val V)) d r V := rfl
theorem sxl_g1 {q : Nat × Bool} {p : POp} {r : List GP} : sxl C K (⟨[q], p⟩ :: r) V = GrdS C K (V q.1) q.2 [] p r V := rfl
theorem sxl_g2 {q q2 : Nat × Bool} {p : POp} {r : List GP} : sxl C K (⟨[q, q2], p⟩ :: r) V = GrdS C K (V q2.1) q2.2 [q] p r V := rfl
theorem sxl_g3 {q q2 q3 : Nat × Bool} {p : POp} {r : List GP} : sxl C K (⟨[q, q2, q3], p⟩ :: r) V = GrdS C K (V q3.1) q3.2 [q, q2] p r V := rfl
theorem sxl_g4 {q q2 q3 q4 : Nat × Bool} {p : POp} {r : List GP} : sxl C K (⟨[q, q2, q3, q4], p⟩ :: r) V = GrdS C K (V q4.1) q4.2 [q, q2, q3] p r V := rfl

variable {r : List GP} {g : List (Nat × Bool)} {p : POp} {a b : IR}
theorem OkS_true : OkS C K True r V = sxl C K r V := by simp [OkS]
theorem GrdS_tt : GrdS C K (.bool true) true g p r V = sxl C K (⟨g, p⟩ :: r) V := by simp [GrdS, PV.isT]
theorem GrdS_tf : GrdS C K (.bool true) false g p r V = ∀ x, sxl C K r (V.upd p.dst x) := by simp [GrdS, PV.isT]
theorem GrdS_ft : GrdS C K (.bool false) true g p r V = ∀ x, sxl C K r (V.upd p.dst x) := by simp [GrdS, PV.isT]
theorem GrdS_ff : GrdS C K (.bool false) false g p r V = sxl C K (⟨g, p⟩ :: r) V := by simp [GrdS, PV.isT]
theorem CondS_t : CondS C (.bool true) a b Q V = sx C a Q V := by simp [CondS, PV.isT]
theorem CondS_f : CondS C (.bool false) a b Q V = sx C b Q V := by simp [CondS, PV.isT]
theorem OkS_i {A : Prop} (h : A) (h2 : sxl C K r V) : OkS C K A r V := ⟨h, h2⟩
theorem CondS_d {q : Prop} [Decidable q] (h : q → sx C a Q V) (h2 : ¬ q → sx C b Q V) : CondS C (.bool (decide q)) a b Q V := ⟨rfl, fun hh => h (of_decide_eq_true hh), fun hh => h2 (of_decide_eq_false hh)⟩
theorem CondS_b {q : Bool} (h : q = true → sx C a Q V) (h2 : q = false → sx C b Q V) : CondS C (.bool q) a b Q V := ⟨rfl, h, h2⟩
theorem GrdS_b {q c : Bool} (h : q = true → GrdS C K (.bool true) c g p r V) (h2 : q = false → GrdS C K (.bool false) c g p r V) : GrdS C K (.bool q) c g p r V := by cases q; exact h2 rfl; exact h rfl
theorem GrdS_d {q : Prop} [Decidable q] {c : Bool} (h : q → GrdS C K (.bool true) c g p r V) (h2 : ¬ q → GrdS C K (.bool false) c g p r V) : GrdS C K (.bool (decide q)) c g p r V := by
  by_cases hq : q
  · rw [decide_eq_true hq]; exact h hq
  · rw [decide_eq_false hq]; exact h2 hq
theorem CallS_i {f : Nat} {l : Bool} {as : List PV} {d : Nat} {k : RK} {x : PV} (h : C f l as x) (h2 : (k = .sc → scB x = true) ∧ (k = .tup → ∃ vs, x = .tup vs) ∧ sxl C K r (V.upd d x)) : CallS C K f l as d k r V := ⟨x, h, h2⟩
theorem CallS_b {f : Nat} {l : Bool} {as : List PV} {d : Nat} {k : RK} {x : Bool} (h : C f l as (.bool x)) (h1 : x = true → k ≠ .tup ∧ sxl C K r (V.upd d (.bool true))) (h2 : x = false → k ≠ .tup ∧ sxl C K r (V.upd d (.bool false))) : CallS C K f l as d k r V := by
  refine ⟨_, h, fun _ => rfl, ?_⟩
  cases x
  · exact ⟨fun e => absurd e (h2 rfl).1, (h2 rfl).2⟩
  · exact ⟨fun e => absurd e (h1 rfl).1, (h1 rfl).2⟩
theorem CallvS_i {f : Nat} {caps as : List PV} {d : Nat} {x : PV} (h : C f false (as ++ caps) x) (hs : scB x = true) (h2 : sxl C K r (V.upd d x)) : CallvS C K (.fn f caps) as d r V := ⟨x, ⟨f, caps, rfl, h⟩, hs, h2⟩
theorem CallvS_b {f : Nat} {caps as : List PV} {d : Nat} {x : Bool} (h : C f false (as ++ caps) (.bool x)) (h1 : x = true → sxl C K r (V.upd d (.bool true))) (h2 : x = false → sxl C K r (V.upd d (.bool false))) : CallvS C K (.fn f caps) as d r V := by
  refine ⟨.bool x, ⟨f, caps, rfl, h⟩, rfl, ?_⟩
  cases x
  · exact h2 rfl
  · exact h1 rfl
/-- a call that returns plain data -/
theorem CallS_s {f : Nat} {l : Bool} {as : List PV} {d : Nat} {x : PV} (h : C f l as x) (hs : scB x = true) (h2 : sxl C K r (V.upd d x)) : CallS C K f l as d .sc r V := ⟨x, h, fun _ => hs, (fun e => by cases e), h2⟩
theorem CallS_l {f : Nat} {l : Bool} {as : List PV} {d : Nat} {x : PV} (h : C f l as x) (h2 : sxl C K r (V.upd d x)) : CallS C K f l as d .lin r V := ⟨x, h, (fun e => by cases e), (fun e => by cases e), h2⟩
theorem CallS_e {f : Nat} {l : Bool} {as : List PV} {d : Nat} {x : PV} (h : C f l as x) (h2 : sxl C K r (V.upd d x)) : CallS C K f l as d .ext r V := ⟨x, h, (fun e => by cases e), (fun e => by cases e), h2⟩
theorem CallS_t {f : Nat} {l : Bool} {as : List PV} {d : Nat} {vs : List PV} (h : C f l as (.tup vs)) (h2 : sxl C K r (V.upd d (.tup vs))) : CallS C K f l as d .tup r V := ⟨_, h, (fun e => by cases e), fun _ => ⟨_, rfl⟩, h2⟩
end

theorem sxl_mono {C : Ctr} : ∀ (l : List GP) (K K' : Env → Prop) (V : Env), (∀ V, K V → K' V) → sxl C K l V → sxl C K' l V := by
  intro l
  induction l with
  | nil => exact fun K K' V h hk => h V hk
  | cons o l ih =>
    intro K K' V h hk
    have gm : ∀ (g : List (Nat × Bool)) (A A' B B' : Prop), (A → A') → (B → B') → grd V g A B → grd V g A' B' := by
      intro g
      induction g with
      | nil => exact fun A A' B B' ha hb hh => ha hh
      | cons q g ihg => exact fun A A' B B' ha hb hh => ihg _ _ _ _ (fun h => ⟨h.1, fun x => ha (h.2.1 x), fun x => hb (h.2.2 x)⟩) hb hh
    refine gm _ _ _ _ _ (fun hh => ?_) (fun hh x => ih _ _ _ h (hh x)) hk
    cases hp : o.p with
    | set d e => rw [hp] at hh; exact ⟨hh.1, ih _ _ _ h hh.2⟩
    | call d f a r => rw [hp] at hh; obtain ⟨x, q1, q2, q3, q4⟩ := hh; exact ⟨x, q1, q2, q3, ih _ _ _ h q4⟩
    | callv d f a => rw [hp] at hh; obtain ⟨x, q1, q2, q3⟩ := hh; exact ⟨x, q1, q2, ih _ _ _ h q3⟩

theorem sx_mono {C : Ctr} : ∀ (ir : IR) (Q Q' : Ext → Env → Prop) (V : Env), (∀ e V, Q e V → Q' e V) → sx C ir Q V → sx C ir Q' V
  | .skip, Q, Q', V, h, hq => h _ _ hq
  | .ops l, Q, Q', V, h, hq => sxl_mono l _ _ V (fun V => h _ V) hq
  | .mop p, Q, Q', V, h, hq => MP.wp_mono (fun V => h _ V) hq
  | .seq a b, Q, Q', V, h, hq => sx_mono a _ _ V (fun e V hq => by cases e <;> first | exact sx_mono b _ _ V h hq | exact h _ _ hq) hq
  | .cond c a b, Q, Q', V, h, hq => ⟨hq.1, fun hh => sx_mono a _ _ V h (hq.2.1 hh), fun hh => sx_mono b _ _ V h (hq.2.2 hh)⟩
  | .block id b, Q, Q', V, h, hq => sx_mono b _ _ V (fun e V hq => by
      cases e with
      | exit j =>
        simp only [Ext.inBlock] at hq ⊢
        split
        · rename_i hj; rw [if_pos hj] at hq; exact h _ _ hq
        · rename_i hj; rw [if_neg hj] at hq; exact h _ _ hq
      | _ => exact h _ _ hq) hq
  | .loop b, Q, Q', V, h, ⟨I, μ, h1, h2⟩ => ⟨I, μ, h1, fun V hV => sx_mono b _ _ V (fun e V hq => by cases e <;> first | exact hq | exact h _ _ hq) (h2 V hV)⟩
  | .exit id, Q, Q', V, h, hq => h _ _ hq
  | .ret, Q, Q', V, h, hq => h _ _ hq

/-- A LOOP THAT COUNTS. -/
theorem sx_count {C : Ctr} {b : IR} {Q : Ext → Env → Prop} {V : Env} (N : Nat) (J : Nat → Env → Prop) (n0 : Nat) (hn : n0 ≤ N) (h0 : J n0 V)
    (hs : ∀ n V, n ≤ N → J n V → sx C b (Ext.then (fun V' => n < N ∧ J (n + 1) V') Q) V) : sx C (.loop b) Q V := by
  refine ⟨fun V => ∃ n, n ≤ N ∧ J n V, fun V => mu fun k => ∃ n, n ≤ N ∧ J n V ∧ k = N - n, ⟨n0, hn, h0⟩, ?_⟩
  rintro V ⟨n, hn, hJ⟩
  obtain ⟨⟨m, m1, m2, m3⟩, _⟩ := mu_spec (p := fun k => ∃ n, n ≤ N ∧ J n V ∧ k = N - n) ⟨_, n, hn, hJ, rfl⟩
  refine sx_mono b _ _ V (fun e V' q => ?_) (hs m V m1 m2)
  cases e with
  | normal =>
    obtain ⟨q1, q2⟩ := q
    refine ⟨⟨m + 1, q1, q2⟩, ?_⟩
    have := (mu_spec (p := fun k => ∃ n, n ≤ N ∧ J n V' ∧ k = N - n) ⟨_, m + 1, q1, q2, rfl⟩).2 (N - (m + 1)) ⟨m + 1, q1, q2, rfl⟩
    show mu _ < mu _
    rw [m3]; omega
  | _ => exact q

/-- A LOOP THAT COUNTS DOWN. -/
theorem sx_down {C : Ctr} {b : IR} {Q : Ext → Env → Prop} {V : Env} (J : Nat → Env → Prop) (m0 : Nat) (h0 : J m0 V)
    (hs : ∀ m V, J m V → sx C b (Ext.then (fun V' => ∃ m', m' < m ∧ J m' V') Q) V) : sx C (.loop b) Q V := by
  refine ⟨fun V => ∃ m, J m V, fun V => mu fun k => J k V, ⟨m0, h0⟩, ?_⟩
  rintro V ⟨m, hm⟩
  obtain ⟨h1, h2⟩ := mu_spec (p := fun k => J k V) ⟨m, hm⟩
  refine sx_mono b _ _ V (fun e V' q => ?_) (hs _ V h1)
  cases e with
  | normal =>
    obtain ⟨m', q1, q2⟩ := q
    refine ⟨⟨m', q2⟩, ?_⟩
    have := (mu_spec (p := fun k => J k V') ⟨m', q2⟩).2 m' q2
    show mu _ < mu _
    omega
  | _ => exact q

/-- what wraps, shut -/
@[irreducible] def wr (k : IntKind) (n : Int) : Int := k.wrap n
theorem wr_eq (k : IntKind) (n : Int) : wr k n = k.wrap n := by unfold wr; rfl
theorem wr_in {n : Int} (h : -9223372036854775808 ≤ n) (h2 : n ≤ 9223372036854775807) : wr .i64 n = n := by rw [wr_eq]; exact wrap_in h h2
theorem wr_zero : wr .i64 0 = 0 := wr_in (by omega) (by omega)
theorem wr_one : wr .i64 1 = 1 := wr_in (by omega) (by omega)
theorem wr_m1 : wr .i64 (-1) = -1 := wr_in (by omega) (by omega)
theorem wr_u8 {n : Int} (h : 0 ≤ n) (h2 : n ≤ 255) : wr .u8 n = n := by rw [wr_eq, IntKind.wrap_u8]; omega
theorem bin_int (op : BinOp) (k k' : IntKind) (a b : Int) : binV op (.int k a) (.int k' b) = match op with
    | .add => .int k (wr k (a + b)) | .sub => .int k (wr k (a - b)) | .mul => .int k (wr k (a * b))
    | .quo => .int k (wr k (a.tdiv b)) | .rem => .int k (a.tmod b)
    | .eql => .bool (decide (a = b)) | .neq => .bool (!decide (a = b))
    | .lss => .bool (decide (a < b)) | .leq => .bool (decide (a ≤ b)) | .gtr => .bool (decide (b < a)) | .geq => .bool (decide (b ≤ a))
    | _ => .junk := by simp only [wr_eq]; cases op <;> rfl
theorem bin_str (op : BinOp) (a b : ByteArray) : binV op (.str a) (.str b) = match op with
    | .add => .str (a ++ b)
    | .eql => .bool (decide (a = b)) | .neq => .bool (!decide (a = b))
    | .lss => .bool (Op.bytesLess a.toList b.toList) | .leq => .bool (Op.bytesLess a.toList b.toList || decide (a = b))
    | .gtr => .bool (!(Op.bytesLess a.toList b.toList || decide (a = b))) | .geq => .bool (!Op.bytesLess a.toList b.toList)
    | _ => .junk := by cases op <;> rfl
theorem binOK_str (op : BinOp) (a b : ByteArray) : binOK op (.str a) (.str b) = match op with
    | .add => a.size + b.size < 4611686018427387904
    | .eql | .neq | .lss | .leq | .gtr | .geq => True
    | _ => False := by cases op <;> rfl
theorem bst_lst (sz : Nat) (nl : Bool) (l : List (List PV)) : bstV (.lst sz nl l) = .str ⟨(l.map byteC).toArray⟩ := rfl
theorem bst_ok1 (V : Env) (x : Opd) (sz : Nat) (nl : Bool) (n : Int) (h : x.val V = .lst 1 nl [[.int .u8 n]]) : Ex.ok V (.bst x) := ⟨nl, [n], h⟩
theorem upd_app (V : Env) (d : Nat) (v : PV) (t : Nat) : V.upd d v t = if t = d then v else V t := rfl
theorem then_n {K : Env → Prop} {Q : Ext → Env → Prop} {V : Env} : Ext.then K Q .normal V = K V := rfl
theorem then_e {K : Env → Prop} {Q : Ext → Env → Prop} {V : Env} {id : Nat} : Ext.then K Q (.exit id) V = Q (.exit id) V := rfl
theorem then_r {K : Env → Prop} {Q : Ext → Env → Prop} {V : Env} : Ext.then K Q .ret V = Q .ret V := rfl
theorem blk_n {Q : Ext → Env → Prop} {V : Env} {id : Nat} : Ext.inBlock id Q .normal V = Q .normal V := rfl
theorem blk_r {Q : Ext → Env → Prop} {V : Env} {id : Nat} : Ext.inBlock id Q .ret V = Q .ret V := rfl
theorem blk_e {Q : Ext → Env → Prop} {V : Env} {id j : Nat} : Ext.inBlock id Q (.exit j) V = if j = id then Q .normal V else Q (.exit j) V := rfl
attribute [irreducible] CallM CallE OkS GrdS CallS CallvS CondS sxl sx
theorem eqa_e (ng : Bool) (ks : List Nat) (x y : Opd) (V : Env) : Ex.val V (.eqa ng ks x y) = .bool (if ng then !Ex.val.eqP (x.val V) (y.val V) else Ex.val.eqP (x.val V) (y.val V)) := rfl
end Go.Eng
