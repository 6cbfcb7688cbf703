/- A part of the proof of the statement 'FnExactIsNewer': for every input the law returns true and leaves its arguments as they were. No condition beyond the statement's own. The walks' text was written by a program of this claim, out of the program's own print. -/
import Derived.Test.YtoonbcdkbdedkaaWWords
import Derived.Deep.Slices
import Derived.Deep.Fields
import Derived.WideShapes
import Derived.Test.YtoonbcdkbdedkaaKFnExactIsNewerg2
set_option linter.unusedVariables false
namespace Go.Proofs.Ytoonbcdkbdedkaa.Lim
open Go.RowKit Go.Proofs.YtoonbcdkbdedkaaW.PrintWords
/-- x is what g comes to. -/
structure Lm {α : Type} (g : Nat → Option α) (x : Option α) : Prop where
  mono : ∀ k, LeO (g k) (g (k + 1))
  at' : ∀ r, x = some r ↔ ∃ k, g k = some r
open Classical in
noncomputable def lim {α : Type} (g : Nat → Option α) : Option α := if h : ∃ r k, g k = some r then some h.choose else none
theorem Lm.of {α : Type} {g : Nat → Option α} (h : ∀ k, LeO (g k) (g (k + 1))) : Lm g (lim g) := by
  refine ⟨h, fun r => ?_⟩
  unfold lim
  split
  · rename_i h1
    obtain ⟨k1, hk1⟩ := h1.choose_spec
    constructor
    · intro e
      cases e
      exact ⟨k1, hk1⟩
    · rintro ⟨k, hk⟩
      have a := at_rounds h (Nat.le_max_left k k1) hk
      have b := at_rounds h (Nat.le_max_right k k1) hk1
      rw [b] at a
      exact a
  · rename_i h1
    constructor
    · intro e; cases e
    · intro e; exact absurd ⟨r, e⟩ h1
theorem Lm.eq {α : Type} {g : Nat → Option α} {x y : Option α} (h : Lm g x) (k : Lm g y) : x = y := by
  cases hx : x with
  | some r => exact ((k.at' r).2 ((h.at' r).1 hx)).symm
  | none =>
    cases hy : y with
    | none => rfl
    | some r => rw [(h.at' r).2 ((k.at' r).1 hy)] at hx; cases hx
theorem Lm.lim {α : Type} {g : Nat → Option α} {x : Option α} (h : Lm g x) : lim g = x := (Lm.of h.mono).eq h
theorem Lm.rounds {α : Type} {g : Nat → Option α} {x : Option α} {r : α} (h : Lm g x) (e : x = some r) : ∃ k, g k = some r := (h.at' r).1 e
theorem Lm.now {α : Type} (x : Option α) : Lm (fun _ => x) x := ⟨fun _ => LeO.refl _, fun r => ⟨fun h => ⟨0, h⟩, fun ⟨_, h⟩ => h⟩⟩
theorem Lm.step {α : Type} {g : Nat → Option α} {x : Option α} (hm : ∀ k, LeO (g k) (g (k + 1))) (h : Lm (fun k => g (k + 1)) x) : Lm g x :=
  ⟨hm, fun r => (h.at' r).trans ⟨fun ⟨k, hk⟩ => ⟨k + 1, hk⟩, fun ⟨k, hk⟩ => ⟨k, hm k r hk⟩⟩⟩
theorem Lm.ite {α : Type} {c : Prop} [Decidable c] {a b : Nat → Option α} {x y : Option α} (h : Lm a x) (k : Lm b y) : Lm (fun n => if c then a n else b n) (if c then x else y) := by
  split
  · exact h
  · exact k
theorem Lm.bind {α β : Type} {g : Nat → Option α} {f : Nat → α → Option β} {x : Option α} {F : α → Option β} (h : Lm g x) (k : ∀ a, Lm (fun n => f n a) (F a)) : Lm (fun n => (g n).bind (f n)) (x.bind F) := by
  refine ⟨fun n => LeO.bind (h.mono n) (fun a => (k a).mono n), fun r => ?_⟩
  rw [Option.bind_eq_some_iff]
  constructor
  · rintro ⟨a, ha, hr⟩
    obtain ⟨n, hn⟩ := (h.at' a).1 ha
    obtain ⟨m, hm⟩ := ((k a).at' r).1 hr
    refine ⟨max n m, Option.bind_eq_some_iff.2 ⟨a, at_rounds h.mono (Nat.le_max_left _ _) hn, at_rounds (k a).mono (Nat.le_max_right _ _) hm⟩⟩
  · rintro ⟨n, hn⟩
    obtain ⟨a, ha, hr⟩ := Option.bind_eq_some_iff.1 hn
    exact ⟨a, (h.at' a).2 ⟨n, ha⟩, ((k a).at' r).2 ⟨n, hr⟩⟩
end Go.Proofs.Ytoonbcdkbdedkaa.Lim

set_option linter.unusedVariables false
namespace Go.Proofs.Ytoonbcdkbdedkaa.Open
open Go.ChangeShapes Go.WideShapes Go.RowKit Go.Deep Go.Proofs.YtoonbcdkbdedkaaW.PrintWords

/-- Whatever reads as data at a type is of this kind (and meets 'ok'). -/
def Opens (P : Program) (t : TypeId) {α : Type} (d : Kd α) (ok : α → Prop) : Prop :=
  ∀ (H : Type) (enc : TypeId × Value → H) (w : World) (base : Nat) (spare : Nat → Bool) (held : Bool) (fuel : Nat) (cs : List Value) (x : DataW H × List MemPlace),
    DataW.trod enc P w base spare held fuel t cs = some x → ∃ a, d.K w a cs ∧ ok a
theorem Opens.int {P : Program} {t : TypeId} {k : IntKind} (ht : P.underlying t = some (.int k)) : Opens P t (Kd.int k) (fun n => (Lit.int k n).wf = true) := by
  intro H enc w base spare held fuel cs x h
  obtain ⟨n, rfl, _, hw⟩ := DataW.trod_int ht h
  exact ⟨n, rfl, hw⟩
theorem Opens.bool {P : Program} {t : TypeId} (ht : P.underlying t = some .bool) : Opens P t Kd.bool (fun _ => True) := by
  intro H enc w base spare held fuel cs x h
  obtain ⟨n, rfl, _⟩ := DataW.trod_bool ht h
  exact ⟨n, rfl, trivial⟩
theorem Opens.string {P : Program} {t : TypeId} (ht : P.underlying t = some .string) : Opens P t Kd.string (fun s => s.size ≤ 9223372036854775807) := by
  intro H enc w base spare held fuel cs x h
  obtain ⟨n, rfl, _, hs⟩ := DataW.trod_string ht h
  exact ⟨n, rfl, by unfold maxLen at hs; simpa using hs⟩
theorem Opens.slice {P : Program} {t e : TypeId} {α : Type} {d : Kd α} {ok : α → Prop} (ht : P.underlying t = some (.slice e)) (hc : P.cellsOf e = d.sz) (h : Opens P e d ok) :
    Opens P t (Kd.slice e d) (fun xs => xs.length ≤ 9223372036854775807 ∧ ∀ x ∈ xs, ok x) := by
  intro H enc w base spare held fuel cs x hx
  rcases open_slice ht hx with ⟨rfl, _⟩ | ⟨a, len, cap, m, n, D, Pl, rfl, hb, hl, hm, hmm, _, hi⟩
  · exact ⟨[], ⟨none, 0, rfl, Nat.le_refl _, rfl, by simp, fun h => by simp at h⟩, by simp, by simp⟩
  · have hlm : len ≤ m := by rw [hmm]; split <;> omega
    unfold maxLen at hm
    have hm' : cap ≤ 9223372036854775807 := by simpa using hm
    have each : ∀ i : Fin len, ∃ y cs', w.cells? base (a.add (i.1 * P.cellsOf e)) (P.cellsOf e) = some cs' ∧ d.K w y cs' ∧ ok y := by
      intro i
      obtain ⟨cs', hcs, htr⟩ := hi i.1 (Nat.lt_of_lt_of_le i.2 hlm)
      obtain ⟨y, hk, ho⟩ := h H enc w base spare held n cs' _ htr
      exact ⟨y, cs', hcs, hk, ho⟩
    obtain ⟨f, hf⟩ := Classical.axiomOfChoice each
    refine ⟨List.ofFn f, ⟨some a, cap, by simp, by simpa using hl, by simp, by simp; omega, fun _ => ⟨a, rfl, ?_⟩⟩, by simp; omega, ?_⟩
    · intro j p hj
      have hjl : j < len := by
        have := (List.getElem?_eq_some_iff.1 hj).1
        simpa using this
      have hp : p = f ⟨j, hjl⟩ := by
        rw [List.getElem?_ofFn, dif_pos hjl] at hj
        exact (Option.some.inj hj).symm
      obtain ⟨cs', hcs, hk, _⟩ := hf ⟨j, hjl⟩
      refine ⟨cs', d.K_len hk, by rw [hp]; exact hk, fun i u hu => ?_⟩
      obtain ⟨_, hcl, hat⟩ := World.cells?_some hcs
      have hil : i < P.cellsOf e := by
        have := (List.getElem?_eq_some_iff.1 hu).1
        omega
      have := hat i hil
      rw [hu] at this
      rw [← Go.Deep.add_add, ← hc]
      exact this
    · intro y hy
      obtain ⟨i, hi'⟩ := List.getElem?_of_mem hy
      have hil : i < len := by
        have := (List.getElem?_eq_some_iff.1 hi').1
        simpa using this
      rw [List.getElem?_ofFn, dif_pos hil] at hi'
      obtain ⟨_, _, _, ho⟩ := hf ⟨i, hil⟩
      rw [← Option.some.inj hi']
      exact ho
/-- A struct's fields from a place on. -/
def OpensAt (P : Program) (total off : Nat) (fs : List Field) {α : Type} (d : Kd α) (ok : α → Prop) : Prop :=
  ∀ (H : Type) (enc : TypeId × Value → H) (w : World) (base : Nat) (spare : Nat → Bool) (held : Bool) (n : Nat) (cs : List Value), cs.length = total →
    (∀ f ∈ fs, ∃ y, DataW.trod enc P w base spare held n f.type ((cs.drop f.offset).take (P.cellsOf f.type)) = some y) → ∃ a, d.K w a (cs.drop off) ∧ ok a
theorem OpensAt.last {P : Program} {total off : Nat} {f : Field} {α : Type} {d : Kd α} {ok : α → Prop} (ho : f.offset = off) (hl : total = off + P.cellsOf f.type) (h : Opens P f.type d ok) : OpensAt P total off [f] d ok := by
  intro H enc w base spare held n cs hlen hf
  obtain ⟨y, hy⟩ := hf f (by simp)
  rw [ho, List.take_of_length_le (by rw [List.length_drop]; omega)] at hy
  exact h H enc w base spare held n _ y hy
theorem OpensAt.cons {P : Program} {total off : Nat} {f : Field} {fs : List Field} {α β : Type} {d : Kd α} {d' : Kd β} {ok : α → Prop} {ok' : β → Prop} (ho : f.offset = off) (h : Opens P f.type d ok)
    (h' : OpensAt P total (off + P.cellsOf f.type) fs d' ok') : OpensAt P total off (f :: fs) (Kd.pair d d') (fun x => ok x.1 ∧ ok' x.2) := by
  intro H enc w base spare held n cs hlen hf
  obtain ⟨y, hy⟩ := hf f (by simp)
  rw [ho] at hy
  obtain ⟨a, ha, hoa⟩ := h H enc w base spare held n _ y hy
  obtain ⟨b, hb, hob⟩ := h' H enc w base spare held n cs hlen (fun g hg => hf g (List.mem_cons_of_mem _ hg))
  exact ⟨(a, b), ⟨_, _, by rw [← List.drop_drop]; exact (List.take_append_drop (P.cellsOf f.type) (cs.drop off)).symm, ha, hb⟩, hoa, hob⟩
theorem Opens.struct {P : Program} {t : TypeId} {fs : Array Field} {α β : Type} {d : Kd α} {ok : α → Prop} (f : β → α) (g : α → β) (hfg : ∀ a, f (g a) = a) (ht : P.underlying t = some (.struct fs))
    (h : OpensAt P (P.cellsOf t) 0 fs.toList d ok) : Opens P t (Kd.iso d f) (fun y => ok (f y)) := by
  intro H enc w base spare held fuel cs x hx
  obtain ⟨xs, n, _, _, hlen, hxl, hg⟩ := DataW.trod_struct ht hx
  obtain ⟨a, ha, hoa⟩ := h H enc w base spare held n cs hlen (fun f hf => by
    obtain ⟨i, hi⟩ := List.getElem?_of_mem hf
    have hi' : fs[i]? = some f := by simpa using hi
    have := hg i f hi'
    have hil : i < xs.length := by
      have := (Array.getElem?_eq_some_iff.1 hi').1
      omega
    exact ⟨_, this.trans (List.getElem?_eq_getElem hil)⟩)
  refine ⟨g a, ?_, ?_⟩
  · show d.K w (f (g a)) cs
    rw [hfg]
    simpa using ha
  · show ok (f (g a))
    rw [hfg]
    exact hoa
theorem Opens.mono {P : Program} {t : TypeId} {α : Type} {d : Kd α} {ok ok' : α → Prop} (h : Opens P t d ok) (hm : ∀ a, ok a → ok' a) : Opens P t d ok' := by
  intro H enc w base spare held fuel cs x hx
  obtain ⟨a, ha, ho⟩ := h H enc w base spare held fuel cs x hx
  exact ⟨a, ha, hm a ho⟩
/-- A slice that came in. -/
theorem Opens.row {P : Program} {t e : TypeId} {α : Type} {d : Kd α} {ok : α → Prop} (ht : P.underlying t = some (.slice e)) (hc : P.cellsOf e = d.sz) (h : Opens P e d ok) {H : Type} {enc : TypeId × Value → H} {w : World} {base : Nat} {spare : Nat → Bool} {held : Bool}
    {A : Option Addr} {len cap : Nat} {x : DataW H} {ps : List MemPlace} (hx : DataW.Trod enc P w base spare held t (.slice A len cap) x ps) :
    ∃ xs : List α, len = xs.length ∧ d.C w A xs.length xs ∧ xs.length ≤ cap ∧ xs.length ≤ 9223372036854775807 ∧ ∀ y ∈ xs, ok y := by
  obtain ⟨fuel, hf⟩ := hx
  obtain ⟨xs, ⟨A', c', he, hl, hC⟩, h1, h2⟩ := Opens.slice ht hc h H enc w base spare held fuel _ _ hf
  simp only [Value.cells, List.cons.injEq, Value.slice.injEq, and_true] at he
  obtain ⟨rfl, rfl, rfl⟩ := he
  exact ⟨xs, rfl, hC, hl, h1, h2⟩
/-- A struct that came in by value. -/
theorem Opens.agg {P : Program} {t : TypeId} {fs : Array Field} {α : Type} {d : Kd α} {ok : α → Prop} (ht : P.underlying t = some (.struct fs)) (h : Opens P t d ok) {H : Type} {enc : TypeId × Value → H} {w : World} {base : Nat} {spare : Nat → Bool} {held : Bool} {r : Reach} {b0 : Nat}
    {v : Value} {x : DataW H} {ps : List MemPlace} (hv : Value.okWide P w r b0 t v) (hx : DataW.Trod enc P w base spare held t v x ps) : ∃ (y : α) (cs : List Value), v = .agg cs.toArray ∧ d.K w y cs ∧ ok y := by
  obtain ⟨cs, rfl, _⟩ := okWide_struct ht hv
  obtain ⟨fuel, hf⟩ := hx
  obtain ⟨y, hk, ho⟩ := h H enc w base spare held fuel _ _ hf
  exact ⟨y, cs.toList, by simp, by simpa [Value.cells] using hk, ho⟩
end Go.Proofs.Ytoonbcdkbdedkaa.Open

set_option linter.unusedVariables false
set_option linter.unusedSimpArgs false
set_option maxRecDepth 100000
namespace Go.Proofs.Ytoonbcdkbdedkaa.G
open Go.RowKit Go.Proofs.YtoonbcdkbdedkaaW.PrintWords Go.Proofs.YtoonbcdkbdedkaaW.PrintLast Go.Proofs.YtoonbcdkbdedkaaW.PrintMore Go.Proofs.Ytoonbcdkbdedkaa.Lim Go.Proofs.Ytoonbcdkbdedkaa.Open
/- needs: -/
/-! plain laws on numbers and lists -/
theorem wrap_id {x : Int} (h0 : -9223372036854775808 ≤ x) (h1 : x ≤ 9223372036854775807) : wrap64 x = x := by unfold wrap64; omega
theorem wrap_up (i : Nat) (h : i + 1 ≤ 9223372036854775807) : wrap64 ((i : Int) + 1) = ((i + 1 : Nat) : Int) := by unfold wrap64; omega
theorem wf_i64 {x : Int} (h : (Lit.int .i64 x).wf = true) : -9223372036854775808 ≤ x ∧ x ≤ 9223372036854775807 := by
  have e : (-9223372036854775808 ≤ x ∧ x ≤ 9223372036854775807) = (IntKind.min .i64 ≤ x ∧ x ≤ IntKind.max .i64) := rfl
  rw [e]
  simpa [Lit.wf] using h
theorem getD_of {α : Type} {l : List α} {i : Nat} {x d : α} (h : l[i]? = some x) : l.getD i d = x := by simp [List.getD, h]
theorem getD_int {α : Type} {l : List α} {i : Nat} {x d : α} (h : l[i]? = some x) : l.getD (i : Int).toNat d = x := by simp [List.getD, h]
theorem rd_at {l : List Int} {i : Nat} {x : Int} (h : l[i]? = some x) : rd l (i : Int) = x := getD_int h
theorem rdOf_at {α : Type} {l : List α} {i : Nat} {x d : α} (h : l[i]? = some x) : rdOf d l (i : Int) = x := getD_int h
theorem drop_at {α : Type} {l : List α} {i : Nat} (h : i < l.length) : ∃ x, l[i]? = some x ∧ l.drop i = x :: l.drop (i + 1) := ⟨l[i], List.getElem?_eq_getElem h, by rw [List.drop_eq_getElem_cons h]⟩
/-- A loop over the indices of a list: what it comes to is told by G on what is left. -/
theorem loop_drop {σ ρ α : Type} (l : List α) (F : σ → Int → Option ρ) (G : σ → List α → ρ) (Inv : σ → Nat → Prop)
    (hend : ∀ s, Inv s l.length → F s (l.length : Int) = some (G s []))
    (hstep : ∀ s (i : Nat) x, Inv s i → i < l.length → l[i]? = some x →
      (F s (i : Int) = some (G s (x :: l.drop (i + 1)))) ∨ ∃ s', Inv s' (i + 1) ∧ F s (i : Int) = F s' ((i + 1 : Nat) : Int) ∧ G s (x :: l.drop (i + 1)) = G s' (l.drop (i + 1))) :
    ∀ (s : σ) (i : Nat), i ≤ l.length → Inv s i → F s (i : Int) = some (G s (l.drop i)) := by
  have key : ∀ (d : Nat) (s : σ) (i : Nat), l.length - i = d → i ≤ l.length → Inv s i → F s (i : Int) = some (G s (l.drop i)) := by
    intro d
    induction d with
    | zero =>
      intro s i hd hi hs
      have : i = l.length := by omega
      subst this
      rw [List.drop_length]
      exact hend s hs
    | succ d ih =>
      intro s i hd hi hs
      have hlt : i < l.length := by omega
      obtain ⟨x, hx, hdr⟩ := drop_at hlt
      rw [hdr]
      rcases hstep s i x hs hlt hx with h | ⟨s', hs', h1, h2⟩
      · exact h
      · rw [h1, h2]
        exact ih s' (i + 1) (by omega) (by omega) hs'
  exact fun s i => key _ s i rfl
theorem sum_mem {α : Type} {f : α → Nat} {l : List α} {x : α} (h : x ∈ l) : f x ≤ (l.map f).sum := by
  induction l with
  | nil => simp at h
  | cons y l ih =>
    rcases List.mem_cons.1 h with rfl | h
    · simp
    · have := ih h
      simp only [List.map_cons, List.sum_cons]
      omega
theorem fill_step {α β : Type} (l : List α) (f : α → β) (s : List β) (i : Nat) (x : α) (hx : l[i]? = some x) (hs : s.length = l.length) (ht : s.take i = (l.map f).take i) : (s.set i (f x)).take (i + 1) = (l.map f).take (i + 1) := by
  have hi : i < l.length := (List.getElem?_eq_some_iff.1 hx).1
  have e1 : (s.set i (f x)).take i = (l.map f).take i := by rw [List.take_set_of_le (Nat.le_refl _)]; exact ht
  rw [List.take_add_one, List.take_add_one, e1]
  congr 1
  rw [List.getElem?_set_self (by omega), List.getElem?_map, hx]
  rfl
theorem down_ind {n : Nat} {P : Nat → Prop} (hend : P n) (hstep : ∀ i, i < n → P (i + 1) → P i) : ∀ i, i ≤ n → P i := by
  have key : ∀ d i, n - i = d → i ≤ n → P i := by
    intro d
    induction d with
    | zero =>
      intro i h hi
      have e : i = n := by omega
      rw [e]
      exact hend
    | succ d ih => intro i h hi; exact hstep i (by omega) (ih (i + 1) (by omega) (by omega))
  exact fun i => key _ i rfl
theorem get_at {α : Type} {l : List α} {i : Nat} (h : i < l.length) : ∃ x, l[i]? = some x ∧ x ∈ l := ⟨l[i], List.getElem?_eq_getElem h, List.getElem_mem h⟩
theorem wrap_down (i : Nat) (h : 0 < i) (hi : i ≤ 9223372036854775807) : wrap64 ((i : Int) - 1) = ((i - 1 : Nat) : Int) := by unfold wrap64; omega
theorem bind_eq {α β : Type} {x : Option α} {a : α} {f : α → Option β} (h : x = some a) : x.bind f = f a := by rw [h]; rfl
theorem set_mid {α : Type} (d r : List α) (x v : α) : (d ++ x :: r).set ((d.length : Nat) : Int).toNat v = d ++ v :: r := by
  rw [Int.toNat_natCast, List.set_append_right _ _ (Nat.le_refl _), Nat.sub_self]
  rfl
theorem getD_mid {α : Type} (d r : List α) (x z : α) : (d ++ x :: r).getD ((d.length : Nat) : Int).toNat z = x := by simp [List.getD]
theorem app_one {α : Type} (d r : List α) (x : α) : d ++ x :: r = (d ++ [x]) ++ r := by simp

end Go.Proofs.Ytoonbcdkbdedkaa.G

set_option linter.unusedVariables false
set_option linter.unusedSimpArgs false
set_option maxRecDepth 100000
namespace Go.Proofs.Ytoonbcdkbdedkaa.G
open Go.RowKit Go.Proofs.YtoonbcdkbdedkaaW.PrintWords Go.Proofs.YtoonbcdkbdedkaaW.PrintLast Go.Proofs.YtoonbcdkbdedkaaW.PrintMore Go.Proofs.Ytoonbcdkbdedkaa.Lim Go.Proofs.Ytoonbcdkbdedkaa.Open
/-! laws.Reason -/
theorem rd95_at {l : List S95} {i : Nat} {x : S95} (h : l[i]? = some x) : rd_T95 l (i : Int) = x := getD_int h
def ok95 (y : S95) : Prop := (Lit.int .i64 y.f0).wf = true ∧ (Lit.int .i64 y.f1).wf = true ∧ (Lit.int .i64 y.f2).wf = true
theorem opens95 : Opens Try.prog 95 k95 ok95 := Opens.struct (fun x : S95 => (x.f0, x.f1, x.f2)) (fun a => ⟨a.1, a.2.1, a.2.2⟩) (fun _ => rfl) Try.underlying95 (OpensAt.cons (by kernel_rfl) (Opens.int Try.underlying3) (OpensAt.cons (by kernel_rfl) (Opens.int Try.underlying3) (OpensAt.last (by kernel_rfl) (by kernel_rfl) (Opens.int Try.underlying3))))
/-! impl.Reason -/
theorem rd93_at {l : List S93} {i : Nat} {x : S93} (h : l[i]? = some x) : rd_T93 l (i : Int) = x := getD_int h
def ok93 (y : S93) : Prop := (Lit.int .i64 y.f0).wf = true ∧ (Lit.int .i64 y.f1).wf = true ∧ (Lit.int .i64 y.f2).wf = true
theorem opens93 : Opens Try.prog 93 k93 ok93 := Opens.struct (fun x : S93 => (x.f0, x.f1, x.f2)) (fun a => ⟨a.1, a.2.1, a.2.2⟩) (fun _ => rfl) Try.underlying93 (OpensAt.cons (by kernel_rfl) (Opens.int Try.underlying3) (OpensAt.cons (by kernel_rfl) (Opens.int Try.underlying3) (OpensAt.last (by kernel_rfl) (by kernel_rfl) (Opens.int Try.underlying3))))
/-! laws.Level -/
theorem rd101_at {l : List S101} {i : Nat} {x : S101} (h : l[i]? = some x) : rd_T101 l (i : Int) = x := getD_int h
def ok101 (y : S101) : Prop := (Lit.int .i64 y.f0).wf = true ∧ (Lit.int .i64 y.f1).wf = true ∧ (Lit.int .i64 y.f2).wf = true
theorem opens101 : Opens Try.prog 101 k101 ok101 := Opens.struct (fun x : S101 => (x.f0, x.f1, x.f2)) (fun a => ⟨a.1, a.2.1, a.2.2⟩) (fun _ => rfl) Try.underlying101 (OpensAt.cons (by kernel_rfl) (Opens.int Try.underlying3) (OpensAt.cons (by kernel_rfl) (Opens.int Try.underlying3) (OpensAt.last (by kernel_rfl) (by kernel_rfl) (Opens.int Try.underlying3))))
/-! impl.Level -/
theorem rd99_at {l : List S99} {i : Nat} {x : S99} (h : l[i]? = some x) : rd_T99 l (i : Int) = x := getD_int h
def ok99 (y : S99) : Prop := (Lit.int .i64 y.f0).wf = true ∧ (Lit.int .i64 y.f1).wf = true ∧ (Lit.int .i64 y.f2).wf = true
theorem opens99 : Opens Try.prog 99 k99 ok99 := Opens.struct (fun x : S99 => (x.f0, x.f1, x.f2)) (fun a => ⟨a.1, a.2.1, a.2.2⟩) (fun _ => rfl) Try.underlying99 (OpensAt.cons (by kernel_rfl) (Opens.int Try.underlying3) (OpensAt.cons (by kernel_rfl) (Opens.int Try.underlying3) (OpensAt.last (by kernel_rfl) (by kernel_rfl) (Opens.int Try.underlying3))))
/-! laws.Point -/
theorem rd134_at {l : List S134} {i : Nat} {x : S134} (h : l[i]? = some x) : rd_T134 l (i : Int) = x := getD_int h
def ok134 (y : S134) : Prop := (Lit.int .i64 y.f0).wf = true ∧ (Lit.int .i64 y.f1).wf = true
theorem opens134 : Opens Try.prog 134 k134 ok134 := Opens.struct (fun x : S134 => (x.f0, x.f1)) (fun a => ⟨a.1, a.2⟩) (fun _ => rfl) Try.underlying134 (OpensAt.cons (by kernel_rfl) (Opens.int Try.underlying3) (OpensAt.last (by kernel_rfl) (by kernel_rfl) (Opens.int Try.underlying3)))
/-! impl.Point -/
theorem rd56_at {l : List S56} {i : Nat} {x : S56} (h : l[i]? = some x) : rd_T56 l (i : Int) = x := getD_int h
def ok56 (y : S56) : Prop := (Lit.int .i64 y.f0).wf = true ∧ (Lit.int .i64 y.f1).wf = true
theorem opens56 : Opens Try.prog 56 k56 ok56 := Opens.struct (fun x : S56 => (x.f0, x.f1)) (fun a => ⟨a.1, a.2⟩) (fun _ => rfl) Try.underlying56 (OpensAt.cons (by kernel_rfl) (Opens.int Try.underlying3) (OpensAt.last (by kernel_rfl) (by kernel_rfl) (Opens.int Try.underlying3)))
/-! laws.Listing -/
theorem rd110_at {l : List S110} {i : Nat} {x : S110} (h : l[i]? = some x) : rd_T110 l (i : Int) = x := getD_int h
def ok110 (y : S110) : Prop := y.f0.size ≤ 9223372036854775807 ∧ (Lit.int .i64 y.f1).wf = true ∧ y.f2.size ≤ 9223372036854775807
theorem opens110 : Opens Try.prog 110 k110 ok110 := Opens.struct (fun x : S110 => (x.f0, x.f1, x.f2)) (fun a => ⟨a.1, a.2.1, a.2.2⟩) (fun _ => rfl) Try.underlying110 (OpensAt.cons (by kernel_rfl) (Opens.string Try.underlying9) (OpensAt.cons (by kernel_rfl) (Opens.int Try.underlying3) (OpensAt.last (by kernel_rfl) (by kernel_rfl) (Opens.string Try.underlying9))))
/-! impl.Listing -/
theorem rd111_at {l : List S111} {i : Nat} {x : S111} (h : l[i]? = some x) : rd_T111 l (i : Int) = x := getD_int h
def ok111 (y : S111) : Prop := y.f0.size ≤ 9223372036854775807 ∧ (Lit.int .i64 y.f1).wf = true ∧ y.f2.size ≤ 9223372036854775807
theorem opens111 : Opens Try.prog 111 k111 ok111 := Opens.struct (fun x : S111 => (x.f0, x.f1, x.f2)) (fun a => ⟨a.1, a.2.1, a.2.2⟩) (fun _ => rfl) Try.underlying111 (OpensAt.cons (by kernel_rfl) (Opens.string Try.underlying9) (OpensAt.cons (by kernel_rfl) (Opens.int Try.underlying3) (OpensAt.last (by kernel_rfl) (by kernel_rfl) (Opens.string Try.underlying9))))
/-! laws.Feature -/
theorem rd43_at {l : List S43} {i : Nat} {x : S43} (h : l[i]? = some x) : rd_T43 l (i : Int) = x := getD_int h
def ok43 (y : S43) : Prop := (Lit.int .i64 y.f0).wf = true ∧ (Lit.int .i64 y.f1).wf = true ∧ (Lit.int .i64 y.f2).wf = true ∧ y.f3.size ≤ 9223372036854775807 ∧ (y.f4.length ≤ 9223372036854775807 ∧ ∀ z ∈ y.f4, ok134 z)
theorem opens43 : Opens Try.prog 43 k43 ok43 := Opens.struct (fun x : S43 => (x.f0, x.f1, x.f2, x.f3, x.f4)) (fun a => ⟨a.1, a.2.1, a.2.2.1, a.2.2.2.1, a.2.2.2.2⟩) (fun _ => rfl) Try.underlying43 (OpensAt.cons (by kernel_rfl) (Opens.int Try.underlying3) (OpensAt.cons (by kernel_rfl) (Opens.int Try.underlying3) (OpensAt.cons (by kernel_rfl) (Opens.int Try.underlying3) (OpensAt.cons (by kernel_rfl) (Opens.string Try.underlying9) (OpensAt.last (by kernel_rfl) (by kernel_rfl) (Opens.slice Try.underlying41 (by kernel_rfl) opens134))))))
/-! laws.Edition -/
theorem rd118_at {l : List S118} {i : Nat} {x : S118} (h : l[i]? = some x) : rd_T118 l (i : Int) = x := getD_int h
def ok118 (y : S118) : Prop := (Lit.int .i64 y.f0).wf = true ∧ (y.f1.length ≤ 9223372036854775807 ∧ ∀ z ∈ y.f1, ok43 z) ∧ (Lit.int .i64 y.f2).wf = true
theorem opens118 : Opens Try.prog 118 k118 ok118 := Opens.struct (fun x : S118 => (x.f0, x.f1, x.f2)) (fun a => ⟨a.1, a.2.1, a.2.2⟩) (fun _ => rfl) Try.underlying118 (OpensAt.cons (by kernel_rfl) (Opens.int Try.underlying3) (OpensAt.cons (by kernel_rfl) (Opens.slice Try.underlying116 (by kernel_rfl) opens43) (OpensAt.last (by kernel_rfl) (by kernel_rfl) (Opens.int Try.underlying3))))
/-! impl.Feature -/
theorem rd50_at {l : List S50} {i : Nat} {x : S50} (h : l[i]? = some x) : rd_T50 l (i : Int) = x := getD_int h
def ok50 (y : S50) : Prop := (Lit.int .i64 y.f0).wf = true ∧ (Lit.int .i64 y.f1).wf = true ∧ (Lit.int .i64 y.f2).wf = true ∧ y.f3.size ≤ 9223372036854775807 ∧ (y.f4.length ≤ 9223372036854775807 ∧ ∀ z ∈ y.f4, ok56 z)
theorem opens50 : Opens Try.prog 50 k50 ok50 := Opens.struct (fun x : S50 => (x.f0, x.f1, x.f2, x.f3, x.f4)) (fun a => ⟨a.1, a.2.1, a.2.2.1, a.2.2.2.1, a.2.2.2.2⟩) (fun _ => rfl) Try.underlying50 (OpensAt.cons (by kernel_rfl) (Opens.int Try.underlying3) (OpensAt.cons (by kernel_rfl) (Opens.int Try.underlying3) (OpensAt.cons (by kernel_rfl) (Opens.int Try.underlying3) (OpensAt.cons (by kernel_rfl) (Opens.string Try.underlying9) (OpensAt.last (by kernel_rfl) (by kernel_rfl) (Opens.slice Try.underlying48 (by kernel_rfl) opens56))))))
/-! impl.Edition -/
theorem rd121_at {l : List S121} {i : Nat} {x : S121} (h : l[i]? = some x) : rd_T121 l (i : Int) = x := getD_int h
def ok121 (y : S121) : Prop := (Lit.int .i64 y.f0).wf = true ∧ (y.f1.length ≤ 9223372036854775807 ∧ ∀ z ∈ y.f1, ok50 z) ∧ (Lit.int .i64 y.f2).wf = true
theorem opens121 : Opens Try.prog 121 k121 ok121 := Opens.struct (fun x : S121 => (x.f0, x.f1, x.f2)) (fun a => ⟨a.1, a.2.1, a.2.2⟩) (fun _ => rfl) Try.underlying121 (OpensAt.cons (by kernel_rfl) (Opens.int Try.underlying3) (OpensAt.cons (by kernel_rfl) (Opens.slice Try.underlying119 (by kernel_rfl) opens50) (OpensAt.last (by kernel_rfl) (by kernel_rfl) (Opens.int Try.underlying3))))
/-! laws.Entry -/
theorem rd45_at {l : List S45} {i : Nat} {x : S45} (h : l[i]? = some x) : rd_T45 l (i : Int) = x := getD_int h
def ok45 (y : S45) : Prop := ok43 y.f0 ∧ (Lit.int .i64 y.f1).wf = true ∧ (Lit.int .i64 y.f2).wf = true ∧ True
theorem opens45 : Opens Try.prog 45 k45 ok45 := Opens.struct (fun x : S45 => (x.f0, x.f1, x.f2, x.f3)) (fun a => ⟨a.1, a.2.1, a.2.2.1, a.2.2.2⟩) (fun _ => rfl) Try.underlying45 (OpensAt.cons (by kernel_rfl) opens43 (OpensAt.cons (by kernel_rfl) (Opens.int Try.underlying3) (OpensAt.cons (by kernel_rfl) (Opens.int Try.underlying3) (OpensAt.last (by kernel_rfl) (by kernel_rfl) (Opens.bool Try.underlying4)))))
/-! impl.Entry -/
theorem rd52_at {l : List S52} {i : Nat} {x : S52} (h : l[i]? = some x) : rd_T52 l (i : Int) = x := getD_int h
def ok52 (y : S52) : Prop := ok50 y.f0 ∧ (Lit.int .i64 y.f1).wf = true ∧ (Lit.int .i64 y.f2).wf = true ∧ True
theorem opens52 : Opens Try.prog 52 k52 ok52 := Opens.struct (fun x : S52 => (x.f0, x.f1, x.f2, x.f3)) (fun a => ⟨a.1, a.2.1, a.2.2.1, a.2.2.2⟩) (fun _ => rfl) Try.underlying52 (OpensAt.cons (by kernel_rfl) opens50 (OpensAt.cons (by kernel_rfl) (Opens.int Try.underlying3) (OpensAt.cons (by kernel_rfl) (Opens.int Try.underlying3) (OpensAt.last (by kernel_rfl) (by kernel_rfl) (Opens.bool Try.underlying4)))))
def cv95 (x : S95) : S93 := ⟨x.f0, x.f1, x.f2⟩
def cv101 (x : S101) : S99 := ⟨x.f0, x.f1, x.f2⟩
def cv134 (x : S134) : S56 := ⟨x.f0, x.f1⟩
def cv110 (x : S110) : S111 := ⟨x.f0, x.f1, x.f2⟩
def cv43 (x : S43) : S50 := ⟨x.f0, x.f1, x.f2, x.f3, x.f4.map cv134⟩
def cv118 (x : S118) : S121 := ⟨x.f0, x.f1.map cv43, x.f2⟩
def cv45 (x : S45) : S52 := ⟨cv43 x.f0, x.f1, x.f2, x.f3⟩
def wt95 (x : S95) : Nat := 0
def wtl95 (l : List S95) : Nat := l.length
theorem wtl95_len (l : List S95) : l.length ≤ wtl95 l := Nat.le_refl _
def wt93 (x : S93) : Nat := 0
def wtl93 (l : List S93) : Nat := l.length
theorem wtl93_len (l : List S93) : l.length ≤ wtl93 l := Nat.le_refl _
def wt101 (x : S101) : Nat := 0
def wtl101 (l : List S101) : Nat := l.length
theorem wtl101_len (l : List S101) : l.length ≤ wtl101 l := Nat.le_refl _
def wt99 (x : S99) : Nat := 0
def wtl99 (l : List S99) : Nat := l.length
theorem wtl99_len (l : List S99) : l.length ≤ wtl99 l := Nat.le_refl _
def wt134 (x : S134) : Nat := 0
def wtl134 (l : List S134) : Nat := l.length
theorem wtl134_len (l : List S134) : l.length ≤ wtl134 l := Nat.le_refl _
def wt56 (x : S56) : Nat := 0
def wtl56 (l : List S56) : Nat := l.length
theorem wtl56_len (l : List S56) : l.length ≤ wtl56 l := Nat.le_refl _
def wt110 (x : S110) : Nat := x.f0.size + x.f2.size
def wtl110 (l : List S110) : Nat := l.length + (l.map wt110).sum
theorem wtl110_mem {l : List S110} {x : S110} (h : x ∈ l) : wt110 x ≤ wtl110 l := Nat.le_trans (sum_mem h) (Nat.le_add_left _ _)
theorem wtl110_len (l : List S110) : l.length ≤ wtl110 l := Nat.le_add_right _ _
def wt111 (x : S111) : Nat := x.f0.size + x.f2.size
def wtl111 (l : List S111) : Nat := l.length + (l.map wt111).sum
theorem wtl111_mem {l : List S111} {x : S111} (h : x ∈ l) : wt111 x ≤ wtl111 l := Nat.le_trans (sum_mem h) (Nat.le_add_left _ _)
theorem wtl111_len (l : List S111) : l.length ≤ wtl111 l := Nat.le_add_right _ _
def wt43 (x : S43) : Nat := x.f3.size + wtl134 x.f4
def wtl43 (l : List S43) : Nat := l.length + (l.map wt43).sum
theorem wtl43_mem {l : List S43} {x : S43} (h : x ∈ l) : wt43 x ≤ wtl43 l := Nat.le_trans (sum_mem h) (Nat.le_add_left _ _)
theorem wtl43_len (l : List S43) : l.length ≤ wtl43 l := Nat.le_add_right _ _
def ln43 (x : S43) : Prop := (x.f4.length ≤ 9223372036854775807)
def wt118 (x : S118) : Nat := wtl43 x.f1
def wtl118 (l : List S118) : Nat := l.length + (l.map wt118).sum
theorem wtl118_mem {l : List S118} {x : S118} (h : x ∈ l) : wt118 x ≤ wtl118 l := Nat.le_trans (sum_mem h) (Nat.le_add_left _ _)
theorem wtl118_len (l : List S118) : l.length ≤ wtl118 l := Nat.le_add_right _ _
def ln118 (x : S118) : Prop := (x.f1.length ≤ 9223372036854775807 ∧ ∀ y ∈ x.f1, ln43 y)
def wt50 (x : S50) : Nat := x.f3.size + wtl56 x.f4
def wtl50 (l : List S50) : Nat := l.length + (l.map wt50).sum
theorem wtl50_mem {l : List S50} {x : S50} (h : x ∈ l) : wt50 x ≤ wtl50 l := Nat.le_trans (sum_mem h) (Nat.le_add_left _ _)
theorem wtl50_len (l : List S50) : l.length ≤ wtl50 l := Nat.le_add_right _ _
def ln50 (x : S50) : Prop := (x.f4.length ≤ 9223372036854775807)
def wt121 (x : S121) : Nat := wtl50 x.f1
def wtl121 (l : List S121) : Nat := l.length + (l.map wt121).sum
theorem wtl121_mem {l : List S121} {x : S121} (h : x ∈ l) : wt121 x ≤ wtl121 l := Nat.le_trans (sum_mem h) (Nat.le_add_left _ _)
theorem wtl121_len (l : List S121) : l.length ≤ wtl121 l := Nat.le_add_right _ _
def ln121 (x : S121) : Prop := (x.f1.length ≤ 9223372036854775807 ∧ ∀ y ∈ x.f1, ln50 y)
def wt45 (x : S45) : Nat := wt43 x.f0
def wtl45 (l : List S45) : Nat := l.length + (l.map wt45).sum
theorem wtl45_mem {l : List S45} {x : S45} (h : x ∈ l) : wt45 x ≤ wtl45 l := Nat.le_trans (sum_mem h) (Nat.le_add_left _ _)
theorem wtl45_len (l : List S45) : l.length ≤ wtl45 l := Nat.le_add_right _ _
def ln45 (x : S45) : Prop := ln43 x.f0
def wt52 (x : S52) : Nat := wt50 x.f0
def wtl52 (l : List S52) : Nat := l.length + (l.map wt52).sum
theorem wtl52_mem {l : List S52} {x : S52} (h : x ∈ l) : wt52 x ≤ wtl52 l := Nat.le_trans (sum_mem h) (Nat.le_add_left _ _)
theorem wtl52_len (l : List S52) : l.length ≤ wtl52 l := Nat.le_add_right _ _
def ln52 (x : S52) : Prop := ln50 x.f0
end Go.Proofs.Ytoonbcdkbdedkaa.G

set_option linter.unusedVariables false
set_option linter.unusedSimpArgs false
set_option maxRecDepth 100000
namespace Go.Proofs.Ytoonbcdkbdedkaa.G
open Go.RowKit Go.Proofs.YtoonbcdkbdedkaaW.PrintWords Go.Proofs.YtoonbcdkbdedkaaW.PrintLast Go.Proofs.YtoonbcdkbdedkaaW.PrintMore Go.Proofs.Ytoonbcdkbdedkaa.Lim Go.Proofs.Ytoonbcdkbdedkaa.Open
theorem laws_szPointS.R (l : List S134) (hl : l.length ≤ 9223372036854775807) (ok : ∀ y ∈ l, ok134 y) (n : Int) (h0 : 0 ≤ n) (h1 : n ≤ 1048576) : laws_szPointS.f l n = some (if (wtl134 l : Int) ≤ n then n - wtl134 l else -1) := by
  unfold laws_szPointS.f
  rw [wrap_id (x := n - (l.length : Int)) (by omega) (by omega)]
  unfold wtl134
  by_cases c : n - (l.length : Int) < 0
  · rw [if_pos c, if_neg (by omega)]
  rw [if_neg c]
  rw [if_pos (by omega)]

end Go.Proofs.Ytoonbcdkbdedkaa.G

set_option linter.unusedVariables false
set_option linter.unusedSimpArgs false
set_option maxRecDepth 100000
namespace Go.Proofs.Ytoonbcdkbdedkaa.G
open Go.RowKit Go.Proofs.YtoonbcdkbdedkaaW.PrintWords Go.Proofs.YtoonbcdkbdedkaaW.PrintLast Go.Proofs.YtoonbcdkbdedkaaW.PrintMore Go.Proofs.Ytoonbcdkbdedkaa.Lim Go.Proofs.Ytoonbcdkbdedkaa.Open
theorem laws_szFeature.R (x : S43) (ok : ok43 x) (n : Int) (h0 : 0 ≤ n) (h1 : n ≤ 1048576) : laws_szFeature.f x.f0 x.f1 x.f2 x.f3 x.f4 n = some (if (wt43 x : Int) ≤ n then n - wt43 x else -1) := by
  unfold ok43 at ok
  unfold laws_szFeature.f
  unfold wt43
  have k3 := ok.2.2.2.1
  rw [wrap_id (x := n - (x.f3.size : Int)) (by omega) (by omega)]
  by_cases c3 : n - (x.f3.size : Int) < 0
  · rw [if_pos c3, if_neg (by omega)]
  rw [if_neg c3]
  rw [laws_szPointS.R x.f4 ok.2.2.2.2.1 ok.2.2.2.2.2 (n - (x.f3.size : Int)) (by omega) (by omega), Option.bind_some]
  by_cases c4 : (wtl134 x.f4 : Int) ≤ (n - (x.f3.size : Int))
  case neg => rw [if_neg c4, if_pos (show (-1 : Int) < 0 by decide)]; try rw [if_neg (by omega)]
  rw [if_pos c4, if_neg (show ¬ ((n - (x.f3.size : Int)) - (wtl134 x.f4 : Int) < 0) by omega)]
  first | done | rfl | (rw [if_pos (by omega)]; done) | (rw [if_pos (by omega)]; rfl) | (rw [if_pos (by omega)]; congr 1; omega) | (congr 1; omega)

end Go.Proofs.Ytoonbcdkbdedkaa.G

set_option linter.unusedVariables false
set_option linter.unusedSimpArgs false
set_option maxRecDepth 100000
namespace Go.Proofs.Ytoonbcdkbdedkaa.G
open Go.RowKit Go.Proofs.YtoonbcdkbdedkaaW.PrintWords Go.Proofs.YtoonbcdkbdedkaaW.PrintLast Go.Proofs.YtoonbcdkbdedkaaW.PrintMore Go.Proofs.Ytoonbcdkbdedkaa.Lim Go.Proofs.Ytoonbcdkbdedkaa.Open
theorem laws_szEntry.R (x : S45) (ok : ok45 x) (n : Int) (h0 : 0 ≤ n) (h1 : n ≤ 1048576) : laws_szEntry.f x.f0.f0 x.f0.f1 x.f0.f2 x.f0.f3 x.f0.f4 x.f1 x.f2 x.f3 n = some (if (wt45 x : Int) ≤ n then n - wt45 x else -1) := by
  unfold ok45 at ok
  unfold laws_szEntry.f
  unfold wt45
  rw [laws_szFeature.R x.f0 ok.1 n (by omega) (by omega), Option.bind_some]
  by_cases c0 : (wt43 x.f0 : Int) ≤ n
  case neg => rw [if_neg c0, if_pos (show (-1 : Int) < 0 by decide)]; try rw [if_neg (by omega)]
  rw [if_pos c0, if_neg (show ¬ (n - (wt43 x.f0 : Int) < 0) by omega)]
  first | done | rfl | (rw [if_pos (by omega)]; done) | (rw [if_pos (by omega)]; rfl) | (rw [if_pos (by omega)]; congr 1; omega) | (congr 1; omega)

end Go.Proofs.Ytoonbcdkbdedkaa.G

set_option linter.unusedVariables false
set_option linter.unusedSimpArgs false
set_option maxRecDepth 100000
namespace Go.Proofs.Ytoonbcdkbdedkaa.G
open Go.RowKit Go.Proofs.YtoonbcdkbdedkaaW.PrintWords Go.Proofs.YtoonbcdkbdedkaaW.PrintLast Go.Proofs.YtoonbcdkbdedkaaW.PrintMore Go.Proofs.Ytoonbcdkbdedkaa.Lim Go.Proofs.Ytoonbcdkbdedkaa.Open
theorem laws_toPoint.R (x : S134) : laws_toPoint.f x.f0 x.f1 = some ((cv134 x).f0, (cv134 x).f1) := by
  unfold laws_toPoint.f
  rfl

end Go.Proofs.Ytoonbcdkbdedkaa.G

set_option linter.unusedVariables false
set_option linter.unusedSimpArgs false
set_option maxRecDepth 100000
namespace Go.Proofs.Ytoonbcdkbdedkaa.G
open Go.RowKit Go.Proofs.YtoonbcdkbdedkaaW.PrintWords Go.Proofs.YtoonbcdkbdedkaaW.PrintLast Go.Proofs.YtoonbcdkbdedkaaW.PrintMore Go.Proofs.Ytoonbcdkbdedkaa.Lim Go.Proofs.Ytoonbcdkbdedkaa.Open
noncomputable def laws_toPointS.Ll0 (x0 : List (S134)) (x3 : List (S56)) (x4 : Int) : Option ((List (S56))) := lim (fun k => laws_toPointS.l0 k x0 x3 x4)
theorem laws_toPointS.Ll0_lm (x0 : List (S134)) (x3 : List (S56)) (x4 : Int) : Lm (fun k => laws_toPointS.l0 k x0 x3 x4) (laws_toPointS.Ll0 x0 x3 x4) := Lm.of (fun k => laws_toPointS.mono_l k x0 x3 x4)
noncomputable def laws_toPointS.L (l0 : List (S134)) : Option ((List (S56))) := lim (fun k => laws_toPointS.f k l0)
theorem laws_toPointS.L_lm (l0 : List (S134)) : Lm (fun k => laws_toPointS.f k l0) (laws_toPointS.L l0) := Lm.of (fun k => laws_toPointS.mono l0 k)
theorem laws_toPointS.Ll0_eq (x0 : List (S134)) (x3 : List (S56)) (x4 : Int) : laws_toPointS.Ll0 x0 x3 x4 = (if x4 < (x0.length : Int) then (if 0 ≤ x4 then ((laws_toPoint.f ((rd_T134 x0 x4).f0) ((rd_T134 x0 x4).f1)).bind fun bt228 => (if x4 < (x3.length : Int) then (laws_toPointS.Ll0 x0 (x3.set (x4 : Int).toNat (⟨bt228.1, bt228.2⟩ : S56)) (wrap64 (x4 + 1))) else (none))) else (none)) else (some x3) : Option ((List (S56)))) := by
  refine (laws_toPointS.Ll0_lm x0 x3 x4).eq (Lm.step (laws_toPointS.Ll0_lm x0 x3 x4).mono ?_)
  show Lm (fun k => (if x4 < (x0.length : Int) then (if 0 ≤ x4 then ((laws_toPoint.f ((rd_T134 x0 x4).f0) ((rd_T134 x0 x4).f1)).bind fun bt228 => (if x4 < (x3.length : Int) then (laws_toPointS.l0 k x0 (x3.set (x4 : Int).toNat (⟨bt228.1, bt228.2⟩ : S56)) (wrap64 (x4 + 1))) else (none))) else (none)) else (some x3) : Option ((List (S56))))) _
  repeat' first
  | (with_reducible exact laws_toPointS.Ll0_lm _ _ _)
  | (with_reducible exact Lm.now _)
  | (with_reducible refine Lm.ite ?_ ?_)
  | (with_reducible refine Lm.bind ?_ (fun _ => ?_))
  | exact laws_toPointS.Ll0_lm _ _ _
  | exact Lm.now _
  | refine Lm.ite ?_ ?_
  | refine Lm.bind ?_ (fun _ => ?_)
theorem laws_toPointS.L_eq (l0 : List (S134)) : laws_toPointS.L l0 = (if 0 ≤ (l0.length : Int) then (if ((l0.length : Int) : Int).toNat ≤ 17592186044416 then (laws_toPointS.Ll0 l0 (List.replicate ((l0.length : Int) : Int).toNat z56) 0) else (none)) else (none) : Option ((List (S56)))) := by
  refine (laws_toPointS.L_lm l0).eq ?_
  show Lm (fun k => (if 0 ≤ (l0.length : Int) then (if ((l0.length : Int) : Int).toNat ≤ 17592186044416 then (laws_toPointS.l0 k l0 (List.replicate ((l0.length : Int) : Int).toNat z56) 0) else (none)) else (none) : Option ((List (S56))))) _
  repeat' first
  | (with_reducible exact laws_toPointS.Ll0_lm _ _ _)
  | (with_reducible exact Lm.now _)
  | (with_reducible refine Lm.ite ?_ ?_)
  | (with_reducible refine Lm.bind ?_ (fun _ => ?_))
  | exact laws_toPointS.Ll0_lm _ _ _
  | exact Lm.now _
  | refine Lm.ite ?_ ?_
  | refine Lm.bind ?_ (fun _ => ?_)
theorem laws_toPointS.R (l : List S134) (h : wtl134 l ≤ 1048576) : laws_toPointS.L l = some (l.map cv134) := by
  have hl := wtl134_len l
  rw [laws_toPointS.L_eq]
  rw [if_pos (by omega), if_pos (by omega)]
  have key := loop_drop l (fun s i => laws_toPointS.Ll0 l s i) (fun _ _ => l.map cv134) (fun s i => s.length = l.length ∧ s.take i = (l.map cv134).take i) ?_ ?_ (List.replicate ((l.length : Int) : Int).toNat z56) 0 (Nat.zero_le _) ⟨by simp, by simp⟩
  · exact key
  · rintro s ⟨hs, ht⟩
    rw [laws_toPointS.Ll0_eq, if_neg (by omega)]
    rw [List.take_of_length_le (by omega), List.take_of_length_le (by simp)] at ht
    rw [ht]
  · rintro s i x ⟨hs, ht⟩ hi hx
    refine Or.inr ⟨s.set i (cv134 x), ⟨by simpa using hs, fill_step l cv134 s i x hx hs ht⟩, ?_, rfl⟩
    show laws_toPointS.Ll0 l s (i : Int) = laws_toPointS.Ll0 l (s.set i (cv134 x)) ((i + 1 : Nat) : Int)
    rw [laws_toPointS.Ll0_eq, if_pos (by omega), if_pos (by omega), rd134_at hx]
    rw [laws_toPoint.R x, Option.bind_some, if_pos (by omega), wrap_up i (by omega)]
    rfl

end Go.Proofs.Ytoonbcdkbdedkaa.G

set_option linter.unusedVariables false
set_option linter.unusedSimpArgs false
set_option maxRecDepth 100000
namespace Go.Proofs.Ytoonbcdkbdedkaa.G
open Go.RowKit Go.Proofs.YtoonbcdkbdedkaaW.PrintWords Go.Proofs.YtoonbcdkbdedkaaW.PrintLast Go.Proofs.YtoonbcdkbdedkaaW.PrintMore Go.Proofs.Ytoonbcdkbdedkaa.Lim Go.Proofs.Ytoonbcdkbdedkaa.Open
noncomputable def laws_toFeature.L (a0_0 : Int) (a0_1 : Int) (a0_2 : Int) (a0_3 : ByteArray) (l0_4 : List (S134)) : Option (Int × Int × Int × ByteArray × (List (S56))) := lim (fun k => laws_toFeature.f k a0_0 a0_1 a0_2 a0_3 l0_4)
theorem laws_toFeature.L_lm (a0_0 : Int) (a0_1 : Int) (a0_2 : Int) (a0_3 : ByteArray) (l0_4 : List (S134)) : Lm (fun k => laws_toFeature.f k a0_0 a0_1 a0_2 a0_3 l0_4) (laws_toFeature.L a0_0 a0_1 a0_2 a0_3 l0_4) := Lm.of (fun k => laws_toFeature.mono a0_0 a0_1 a0_2 a0_3 l0_4 k)
theorem laws_toFeature.L_eq (a0_0 : Int) (a0_1 : Int) (a0_2 : Int) (a0_3 : ByteArray) (l0_4 : List (S134)) : laws_toFeature.L a0_0 a0_1 a0_2 a0_3 l0_4 = ((laws_toPointS.L l0_4).bind fun t234 => (some (a0_0, a0_1, a0_2, a0_3, t234)) : Option (Int × Int × Int × ByteArray × (List (S56)))) := by
  refine (laws_toFeature.L_lm a0_0 a0_1 a0_2 a0_3 l0_4).eq ?_
  show Lm (fun k => ((laws_toPointS.f k l0_4).bind fun t234 => (some (a0_0, a0_1, a0_2, a0_3, t234)) : Option (Int × Int × Int × ByteArray × (List (S56))))) _
  repeat' first
  | (with_reducible exact laws_toPointS.L_lm _)
  | (with_reducible exact Lm.now _)
  | (with_reducible refine Lm.ite ?_ ?_)
  | (with_reducible refine Lm.bind ?_ (fun _ => ?_))
  | exact laws_toPointS.L_lm _
  | exact Lm.now _
  | refine Lm.ite ?_ ?_
  | refine Lm.bind ?_ (fun _ => ?_)
theorem laws_toFeature.R (x : S43) (h : wt43 x ≤ 1048576) : laws_toFeature.L x.f0 x.f1 x.f2 x.f3 x.f4 = some ((cv43 x).f0, (cv43 x).f1, (cv43 x).f2, (cv43 x).f3, (cv43 x).f4) := by
  have h4 : wtl134 x.f4 ≤ 1048576 := by unfold wt43 at h; omega
  rw [laws_toFeature.L_eq]
  simp only [laws_toPointS.R _ h4, Option.bind_some]
  try rfl

end Go.Proofs.Ytoonbcdkbdedkaa.G

set_option linter.unusedVariables false
set_option linter.unusedSimpArgs false
set_option maxRecDepth 100000
namespace Go.Proofs.Ytoonbcdkbdedkaa.G
open Go.RowKit Go.Proofs.YtoonbcdkbdedkaaW.PrintWords Go.Proofs.YtoonbcdkbdedkaaW.PrintLast Go.Proofs.YtoonbcdkbdedkaaW.PrintMore Go.Proofs.Ytoonbcdkbdedkaa.Lim Go.Proofs.Ytoonbcdkbdedkaa.Open
noncomputable def laws_toEntry.L (a0_0 : Int) (a0_1 : Int) (a0_2 : Int) (a0_3 : ByteArray) (l0_4 : List (S134)) (a0_5 : Int) (a0_6 : Int) (a0_7 : Bool) : Option (Int × Int × Int × ByteArray × (List (S56)) × Int × Int × Bool) := lim (fun k => laws_toEntry.f k a0_0 a0_1 a0_2 a0_3 l0_4 a0_5 a0_6 a0_7)
theorem laws_toEntry.L_lm (a0_0 : Int) (a0_1 : Int) (a0_2 : Int) (a0_3 : ByteArray) (l0_4 : List (S134)) (a0_5 : Int) (a0_6 : Int) (a0_7 : Bool) : Lm (fun k => laws_toEntry.f k a0_0 a0_1 a0_2 a0_3 l0_4 a0_5 a0_6 a0_7) (laws_toEntry.L a0_0 a0_1 a0_2 a0_3 l0_4 a0_5 a0_6 a0_7) := Lm.of (fun k => laws_toEntry.mono a0_0 a0_1 a0_2 a0_3 l0_4 a0_5 a0_6 a0_7 k)
theorem laws_toEntry.L_eq (a0_0 : Int) (a0_1 : Int) (a0_2 : Int) (a0_3 : ByteArray) (l0_4 : List (S134)) (a0_5 : Int) (a0_6 : Int) (a0_7 : Bool) : laws_toEntry.L a0_0 a0_1 a0_2 a0_3 l0_4 a0_5 a0_6 a0_7 = ((laws_toFeature.L a0_0 a0_1 a0_2 a0_3 l0_4).bind fun bt240 => (some (bt240.1, bt240.2.1, bt240.2.2.1, bt240.2.2.2.1, bt240.2.2.2.2, a0_5, a0_6, a0_7)) : Option (Int × Int × Int × ByteArray × (List (S56)) × Int × Int × Bool)) := by
  refine (laws_toEntry.L_lm a0_0 a0_1 a0_2 a0_3 l0_4 a0_5 a0_6 a0_7).eq ?_
  show Lm (fun k => ((laws_toFeature.f k a0_0 a0_1 a0_2 a0_3 l0_4).bind fun bt240 => (some (bt240.1, bt240.2.1, bt240.2.2.1, bt240.2.2.2.1, bt240.2.2.2.2, a0_5, a0_6, a0_7)) : Option (Int × Int × Int × ByteArray × (List (S56)) × Int × Int × Bool))) _
  repeat' first
  | (with_reducible exact laws_toFeature.L_lm _ _ _ _ _)
  | (with_reducible exact Lm.now _)
  | (with_reducible refine Lm.ite ?_ ?_)
  | (with_reducible refine Lm.bind ?_ (fun _ => ?_))
  | exact laws_toFeature.L_lm _ _ _ _ _
  | exact Lm.now _
  | refine Lm.ite ?_ ?_
  | refine Lm.bind ?_ (fun _ => ?_)
theorem laws_toEntry.R (x : S45) (h : wt45 x ≤ 1048576) : laws_toEntry.L x.f0.f0 x.f0.f1 x.f0.f2 x.f0.f3 x.f0.f4 x.f1 x.f2 x.f3 = some ((cv45 x).f0.f0, (cv45 x).f0.f1, (cv45 x).f0.f2, (cv45 x).f0.f3, (cv45 x).f0.f4, (cv45 x).f1, (cv45 x).f2, (cv45 x).f3) := by
  have h0 : wt43 x.f0 ≤ 1048576 := by unfold wt45 at h; omega
  rw [laws_toEntry.L_eq]
  simp only [laws_toFeature.R _ h0, Option.bind_some]
  try rfl

end Go.Proofs.Ytoonbcdkbdedkaa.G

set_option linter.unusedVariables false
set_option linter.unusedSimpArgs false
set_option maxRecDepth 100000
namespace Go.Proofs.Ytoonbcdkbdedkaa.G
open Go.RowKit Go.Proofs.YtoonbcdkbdedkaaW.PrintWords Go.Proofs.YtoonbcdkbdedkaaW.PrintLast Go.Proofs.YtoonbcdkbdedkaaW.PrintMore Go.Proofs.Ytoonbcdkbdedkaa.Lim Go.Proofs.Ytoonbcdkbdedkaa.Open

end Go.Proofs.Ytoonbcdkbdedkaa.G

set_option linter.unusedVariables false
set_option linter.unusedSimpArgs false
set_option maxRecDepth 100000
namespace Go.Proofs.Ytoonbcdkbdedkaa.G
open Go.RowKit Go.Proofs.YtoonbcdkbdedkaaW.PrintWords Go.Proofs.YtoonbcdkbdedkaaW.PrintLast Go.Proofs.YtoonbcdkbdedkaaW.PrintMore Go.Proofs.Ytoonbcdkbdedkaa.Lim Go.Proofs.Ytoonbcdkbdedkaa.Open

end Go.Proofs.Ytoonbcdkbdedkaa.G

set_option linter.unusedVariables false
set_option linter.unusedSimpArgs false
set_option maxRecDepth 100000
namespace Go.Proofs.Ytoonbcdkbdedkaa.G
open Go.RowKit Go.Proofs.YtoonbcdkbdedkaaW.PrintWords Go.Proofs.YtoonbcdkbdedkaaW.PrintLast Go.Proofs.YtoonbcdkbdedkaaW.PrintMore Go.Proofs.Ytoonbcdkbdedkaa.Lim Go.Proofs.Ytoonbcdkbdedkaa.Open
theorem laws_eqPoint.R (x : S56) : laws_eqPoint.f x.f0 x.f1 x.f0 x.f1 = some true := by
  unfold laws_eqPoint.f
  simp []

end Go.Proofs.Ytoonbcdkbdedkaa.G

set_option linter.unusedVariables false
set_option linter.unusedSimpArgs false
set_option maxRecDepth 100000
namespace Go.Proofs.Ytoonbcdkbdedkaa.G
open Go.RowKit Go.Proofs.YtoonbcdkbdedkaaW.PrintWords Go.Proofs.YtoonbcdkbdedkaaW.PrintLast Go.Proofs.YtoonbcdkbdedkaaW.PrintMore Go.Proofs.Ytoonbcdkbdedkaa.Lim Go.Proofs.Ytoonbcdkbdedkaa.Open
noncomputable def laws_eqPointS.Ll0 (x0 : List (S56)) (x1 : List (S56)) (x5 : Int) : Option (Bool) := lim (fun k => laws_eqPointS.l0 k x0 x1 x5)
theorem laws_eqPointS.Ll0_lm (x0 : List (S56)) (x1 : List (S56)) (x5 : Int) : Lm (fun k => laws_eqPointS.l0 k x0 x1 x5) (laws_eqPointS.Ll0 x0 x1 x5) := Lm.of (fun k => laws_eqPointS.mono_l k x0 x1 x5)
noncomputable def laws_eqPointS.L (l0 : List (S56)) (l1 : List (S56)) : Option (Bool) := lim (fun k => laws_eqPointS.f k l0 l1)
theorem laws_eqPointS.L_lm (l0 : List (S56)) (l1 : List (S56)) : Lm (fun k => laws_eqPointS.f k l0 l1) (laws_eqPointS.L l0 l1) := Lm.of (fun k => laws_eqPointS.mono l0 l1 k)
theorem laws_eqPointS.Ll0_eq (x0 : List (S56)) (x1 : List (S56)) (x5 : Int) : laws_eqPointS.Ll0 x0 x1 x5 = (if x5 < (x0.length : Int) then (if 0 ≤ x5 then (if x5 < (x1.length : Int) then ((laws_eqPoint.f ((rd_T56 x0 x5).f0) ((rd_T56 x0 x5).f1) ((rd_T56 x1 x5).f0) ((rd_T56 x1 x5).f1)).bind fun t253 => (if t253 = true then (laws_eqPointS.Ll0 x0 x1 (wrap64 (x5 + 1))) else (some false))) else (none)) else (none)) else (some true) : Option (Bool)) := by
  refine (laws_eqPointS.Ll0_lm x0 x1 x5).eq (Lm.step (laws_eqPointS.Ll0_lm x0 x1 x5).mono ?_)
  show Lm (fun k => (if x5 < (x0.length : Int) then (if 0 ≤ x5 then (if x5 < (x1.length : Int) then ((laws_eqPoint.f ((rd_T56 x0 x5).f0) ((rd_T56 x0 x5).f1) ((rd_T56 x1 x5).f0) ((rd_T56 x1 x5).f1)).bind fun t253 => (if t253 = true then (laws_eqPointS.l0 k x0 x1 (wrap64 (x5 + 1))) else (some false))) else (none)) else (none)) else (some true) : Option (Bool))) _
  repeat' first
  | (with_reducible exact laws_eqPointS.Ll0_lm _ _ _)
  | (with_reducible exact Lm.now _)
  | (with_reducible refine Lm.ite ?_ ?_)
  | (with_reducible refine Lm.bind ?_ (fun _ => ?_))
  | exact laws_eqPointS.Ll0_lm _ _ _
  | exact Lm.now _
  | refine Lm.ite ?_ ?_
  | refine Lm.bind ?_ (fun _ => ?_)
theorem laws_eqPointS.L_eq (l0 : List (S56)) (l1 : List (S56)) : laws_eqPointS.L l0 l1 = (if (l0.length : Int) = (l1.length : Int) then (laws_eqPointS.Ll0 l0 l1 0) else (some false) : Option (Bool)) := by
  refine (laws_eqPointS.L_lm l0 l1).eq ?_
  show Lm (fun k => (if (l0.length : Int) = (l1.length : Int) then (laws_eqPointS.l0 k l0 l1 0) else (some false) : Option (Bool))) _
  repeat' first
  | (with_reducible exact laws_eqPointS.Ll0_lm _ _ _)
  | (with_reducible exact Lm.now _)
  | (with_reducible refine Lm.ite ?_ ?_)
  | (with_reducible refine Lm.bind ?_ (fun _ => ?_))
  | exact laws_eqPointS.Ll0_lm _ _ _
  | exact Lm.now _
  | refine Lm.ite ?_ ?_
  | refine Lm.bind ?_ (fun _ => ?_)
theorem laws_eqPointS.R (l : List S56) (hl : l.length ≤ 9223372036854775807) : laws_eqPointS.L l l = some true := by
  rw [laws_eqPointS.L_eq]
  rw [if_pos rfl]
  have key := loop_drop l (fun (_ : Unit) i => laws_eqPointS.Ll0 l l i) (fun _ _ => true) (fun _ _ => True) ?_ ?_ () 0 (Nat.zero_le _) trivial
  · exact key
  · rintro _ _
    rw [laws_eqPointS.Ll0_eq, if_neg (by omega)]
  · rintro _ i x _ hi hx
    refine Or.inr ⟨(), trivial, ?_, rfl⟩
    rw [laws_eqPointS.Ll0_eq, if_pos (by omega), if_pos (by omega), if_pos (by omega), rd56_at hx]
    rw [laws_eqPoint.R x, Option.bind_some, if_pos rfl, wrap_up i (by omega)]

end Go.Proofs.Ytoonbcdkbdedkaa.G

set_option linter.unusedVariables false
set_option linter.unusedSimpArgs false
set_option maxRecDepth 100000
namespace Go.Proofs.Ytoonbcdkbdedkaa.G
open Go.RowKit Go.Proofs.YtoonbcdkbdedkaaW.PrintWords Go.Proofs.YtoonbcdkbdedkaaW.PrintLast Go.Proofs.YtoonbcdkbdedkaaW.PrintMore Go.Proofs.Ytoonbcdkbdedkaa.Lim Go.Proofs.Ytoonbcdkbdedkaa.Open
noncomputable def laws_eqFeature.L (a0_0 : Int) (a0_1 : Int) (a0_2 : Int) (a0_3 : ByteArray) (l0_4 : List (S56)) (a1_0 : Int) (a1_1 : Int) (a1_2 : Int) (a1_3 : ByteArray) (l1_4 : List (S56)) : Option (Bool) := lim (fun k => laws_eqFeature.f k a0_0 a0_1 a0_2 a0_3 l0_4 a1_0 a1_1 a1_2 a1_3 l1_4)
theorem laws_eqFeature.L_lm (a0_0 : Int) (a0_1 : Int) (a0_2 : Int) (a0_3 : ByteArray) (l0_4 : List (S56)) (a1_0 : Int) (a1_1 : Int) (a1_2 : Int) (a1_3 : ByteArray) (l1_4 : List (S56)) : Lm (fun k => laws_eqFeature.f k a0_0 a0_1 a0_2 a0_3 l0_4 a1_0 a1_1 a1_2 a1_3 l1_4) (laws_eqFeature.L a0_0 a0_1 a0_2 a0_3 l0_4 a1_0 a1_1 a1_2 a1_3 l1_4) := Lm.of (fun k => laws_eqFeature.mono a0_0 a0_1 a0_2 a0_3 l0_4 a1_0 a1_1 a1_2 a1_3 l1_4 k)
theorem laws_eqFeature.L_eq (a0_0 : Int) (a0_1 : Int) (a0_2 : Int) (a0_3 : ByteArray) (l0_4 : List (S56)) (a1_0 : Int) (a1_1 : Int) (a1_2 : Int) (a1_3 : ByteArray) (l1_4 : List (S56)) : laws_eqFeature.L a0_0 a0_1 a0_2 a0_3 l0_4 a1_0 a1_1 a1_2 a1_3 l1_4 = (if a0_0 = a1_0 then (if a0_1 = a1_1 then (if a0_2 = a1_2 then (if a0_3.toList = a1_3.toList then ((laws_eqPointS.L l0_4 l1_4).bind fun t256 => (if t256 = true then (some true) else (some false))) else (some false)) else (some false)) else (some false)) else (some false) : Option (Bool)) := by
  refine (laws_eqFeature.L_lm a0_0 a0_1 a0_2 a0_3 l0_4 a1_0 a1_1 a1_2 a1_3 l1_4).eq ?_
  show Lm (fun k => (if a0_0 = a1_0 then (if a0_1 = a1_1 then (if a0_2 = a1_2 then (if a0_3.toList = a1_3.toList then ((laws_eqPointS.f k l0_4 l1_4).bind fun t256 => (if t256 = true then (some true) else (some false))) else (some false)) else (some false)) else (some false)) else (some false) : Option (Bool))) _
  repeat' first
  | (with_reducible exact laws_eqPointS.L_lm _ _)
  | (with_reducible exact Lm.now _)
  | (with_reducible refine Lm.ite ?_ ?_)
  | (with_reducible refine Lm.bind ?_ (fun _ => ?_))
  | exact laws_eqPointS.L_lm _ _
  | exact Lm.now _
  | refine Lm.ite ?_ ?_
  | refine Lm.bind ?_ (fun _ => ?_)
theorem laws_eqFeature.R (x : S50) (h : ln50 x) : laws_eqFeature.L x.f0 x.f1 x.f2 x.f3 x.f4 x.f0 x.f1 x.f2 x.f3 x.f4 = some true := by
  rw [laws_eqFeature.L_eq]
  simp [laws_eqPointS.R _ h]

end Go.Proofs.Ytoonbcdkbdedkaa.G

set_option linter.unusedVariables false
set_option linter.unusedSimpArgs false
set_option maxRecDepth 100000
namespace Go.Proofs.Ytoonbcdkbdedkaa.G
open Go.RowKit Go.Proofs.YtoonbcdkbdedkaaW.PrintWords Go.Proofs.YtoonbcdkbdedkaaW.PrintLast Go.Proofs.YtoonbcdkbdedkaaW.PrintMore Go.Proofs.Ytoonbcdkbdedkaa.Lim Go.Proofs.Ytoonbcdkbdedkaa.Open
noncomputable def laws_eqEntry.L (a0_0 : Int) (a0_1 : Int) (a0_2 : Int) (a0_3 : ByteArray) (l0_4 : List (S56)) (a0_5 : Int) (a0_6 : Int) (a0_7 : Bool) (a1_0 : Int) (a1_1 : Int) (a1_2 : Int) (a1_3 : ByteArray) (l1_4 : List (S56)) (a1_5 : Int) (a1_6 : Int) (a1_7 : Bool) : Option (Bool) := lim (fun k => laws_eqEntry.f k a0_0 a0_1 a0_2 a0_3 l0_4 a0_5 a0_6 a0_7 a1_0 a1_1 a1_2 a1_3 l1_4 a1_5 a1_6 a1_7)
theorem laws_eqEntry.L_lm (a0_0 : Int) (a0_1 : Int) (a0_2 : Int) (a0_3 : ByteArray) (l0_4 : List (S56)) (a0_5 : Int) (a0_6 : Int) (a0_7 : Bool) (a1_0 : Int) (a1_1 : Int) (a1_2 : Int) (a1_3 : ByteArray) (l1_4 : List (S56)) (a1_5 : Int) (a1_6 : Int) (a1_7 : Bool) : Lm (fun k => laws_eqEntry.f k a0_0 a0_1 a0_2 a0_3 l0_4 a0_5 a0_6 a0_7 a1_0 a1_1 a1_2 a1_3 l1_4 a1_5 a1_6 a1_7) (laws_eqEntry.L a0_0 a0_1 a0_2 a0_3 l0_4 a0_5 a0_6 a0_7 a1_0 a1_1 a1_2 a1_3 l1_4 a1_5 a1_6 a1_7) := Lm.of (fun k => laws_eqEntry.mono a0_0 a0_1 a0_2 a0_3 l0_4 a0_5 a0_6 a0_7 a1_0 a1_1 a1_2 a1_3 l1_4 a1_5 a1_6 a1_7 k)
theorem laws_eqEntry.L_eq (a0_0 : Int) (a0_1 : Int) (a0_2 : Int) (a0_3 : ByteArray) (l0_4 : List (S56)) (a0_5 : Int) (a0_6 : Int) (a0_7 : Bool) (a1_0 : Int) (a1_1 : Int) (a1_2 : Int) (a1_3 : ByteArray) (l1_4 : List (S56)) (a1_5 : Int) (a1_6 : Int) (a1_7 : Bool) : laws_eqEntry.L a0_0 a0_1 a0_2 a0_3 l0_4 a0_5 a0_6 a0_7 a1_0 a1_1 a1_2 a1_3 l1_4 a1_5 a1_6 a1_7 = ((laws_eqFeature.L a0_0 a0_1 a0_2 a0_3 l0_4 a1_0 a1_1 a1_2 a1_3 l1_4).bind fun t259 => (if t259 = true then (if a0_5 = a1_5 then (if a0_6 = a1_6 then (if (a0_7 != a1_7) = true then (some false) else (some true)) else (some false)) else (some false)) else (some false)) : Option (Bool)) := by
  refine (laws_eqEntry.L_lm a0_0 a0_1 a0_2 a0_3 l0_4 a0_5 a0_6 a0_7 a1_0 a1_1 a1_2 a1_3 l1_4 a1_5 a1_6 a1_7).eq ?_
  show Lm (fun k => ((laws_eqFeature.f k a0_0 a0_1 a0_2 a0_3 l0_4 a1_0 a1_1 a1_2 a1_3 l1_4).bind fun t259 => (if t259 = true then (if a0_5 = a1_5 then (if a0_6 = a1_6 then (if (a0_7 != a1_7) = true then (some false) else (some true)) else (some false)) else (some false)) else (some false)) : Option (Bool))) _
  repeat' first
  | (with_reducible exact laws_eqFeature.L_lm _ _ _ _ _ _ _ _ _ _)
  | (with_reducible exact Lm.now _)
  | (with_reducible refine Lm.ite ?_ ?_)
  | (with_reducible refine Lm.bind ?_ (fun _ => ?_))
  | exact laws_eqFeature.L_lm _ _ _ _ _ _ _ _ _ _
  | exact Lm.now _
  | refine Lm.ite ?_ ?_
  | refine Lm.bind ?_ (fun _ => ?_)
theorem laws_eqEntry.R (x : S52) (h : ln52 x) : laws_eqEntry.L x.f0.f0 x.f0.f1 x.f0.f2 x.f0.f3 x.f0.f4 x.f1 x.f2 x.f3 x.f0.f0 x.f0.f1 x.f0.f2 x.f0.f3 x.f0.f4 x.f1 x.f2 x.f3 = some true := by
  rw [laws_eqEntry.L_eq]
  simp [laws_eqFeature.R _ h]

end Go.Proofs.Ytoonbcdkbdedkaa.G

set_option linter.unusedVariables false
set_option linter.unusedSimpArgs false
set_option maxRecDepth 100000
namespace Go.Proofs.Ytoonbcdkbdedkaa.G
open Go.RowKit Go.Proofs.YtoonbcdkbdedkaaW.PrintWords Go.Proofs.YtoonbcdkbdedkaaW.PrintLast Go.Proofs.YtoonbcdkbdedkaaW.PrintMore Go.Proofs.Ytoonbcdkbdedkaa.Lim Go.Proofs.Ytoonbcdkbdedkaa.Open
noncomputable def laws_FnExactIsNewer.L (a0_0 : Int) (a0_1 : Int) (a0_2 : Int) (a0_3 : ByteArray) (l0_4 : List (S134)) (a0_5 : Int) (a0_6 : Int) (a0_7 : Bool) (a1_0 : Int) (a1_1 : Int) (a1_2 : Int) (a1_3 : ByteArray) (l1_4 : List (S134)) (a1_5 : Int) (a1_6 : Int) (a1_7 : Bool) : Option (Bool) := lim (fun k => laws_FnExactIsNewer.f k a0_0 a0_1 a0_2 a0_3 l0_4 a0_5 a0_6 a0_7 a1_0 a1_1 a1_2 a1_3 l1_4 a1_5 a1_6 a1_7)
theorem laws_FnExactIsNewer.L_lm (a0_0 : Int) (a0_1 : Int) (a0_2 : Int) (a0_3 : ByteArray) (l0_4 : List (S134)) (a0_5 : Int) (a0_6 : Int) (a0_7 : Bool) (a1_0 : Int) (a1_1 : Int) (a1_2 : Int) (a1_3 : ByteArray) (l1_4 : List (S134)) (a1_5 : Int) (a1_6 : Int) (a1_7 : Bool) : Lm (fun k => laws_FnExactIsNewer.f k a0_0 a0_1 a0_2 a0_3 l0_4 a0_5 a0_6 a0_7 a1_0 a1_1 a1_2 a1_3 l1_4 a1_5 a1_6 a1_7) (laws_FnExactIsNewer.L a0_0 a0_1 a0_2 a0_3 l0_4 a0_5 a0_6 a0_7 a1_0 a1_1 a1_2 a1_3 l1_4 a1_5 a1_6 a1_7) := Lm.of (fun k => laws_FnExactIsNewer.mono a0_0 a0_1 a0_2 a0_3 l0_4 a0_5 a0_6 a0_7 a1_0 a1_1 a1_2 a1_3 l1_4 a1_5 a1_6 a1_7 k)
theorem laws_FnExactIsNewer.L_eq (a0_0 : Int) (a0_1 : Int) (a0_2 : Int) (a0_3 : ByteArray) (l0_4 : List (S134)) (a0_5 : Int) (a0_6 : Int) (a0_7 : Bool) (a1_0 : Int) (a1_1 : Int) (a1_2 : Int) (a1_3 : ByteArray) (l1_4 : List (S134)) (a1_5 : Int) (a1_6 : Int) (a1_7 : Bool) : laws_FnExactIsNewer.L a0_0 a0_1 a0_2 a0_3 l0_4 a0_5 a0_6 a0_7 a1_0 a1_1 a1_2 a1_3 l1_4 a1_5 a1_6 a1_7 = ((laws_szEntry.f a0_0 a0_1 a0_2 a0_3 l0_4 a0_5 a0_6 a0_7 1048576).bind fun t262 => (if t262 < 0 then (some true) else ((laws_szEntry.f a1_0 a1_1 a1_2 a1_3 l1_4 a1_5 a1_6 a1_7 t262).bind fun t263 => (if t263 < 0 then (some true) else ((laws_toEntry.L a0_0 a0_1 a0_2 a0_3 l0_4 a0_5 a0_6 a0_7).bind fun bt264 => ((laws_toEntry.L a1_0 a1_1 a1_2 a1_3 l1_4 a1_5 a1_6 a1_7).bind fun bt274 => ((spec_IsNewer.f bt264.1 bt264.2.1 bt264.2.2.1 bt264.2.2.2.1 bt264.2.2.2.2.1 bt264.2.2.2.2.2.1 bt264.2.2.2.2.2.2.1 bt264.2.2.2.2.2.2.2 bt274.1 bt274.2.1 bt274.2.2.1 bt274.2.2.2.1 bt274.2.2.2.2.1 bt274.2.2.2.2.2.1 bt274.2.2.2.2.2.2.1 bt274.2.2.2.2.2.2.2).bind fun t284 => ((laws_toEntry.L a0_0 a0_1 a0_2 a0_3 l0_4 a0_5 a0_6 a0_7).bind fun bt285 => ((laws_toEntry.L a1_0 a1_1 a1_2 a1_3 l1_4 a1_5 a1_6 a1_7).bind fun bt296 => ((impl_IsNewer.f bt285.1 bt285.2.1 bt285.2.2.1 bt285.2.2.2.1 bt285.2.2.2.2.1 bt285.2.2.2.2.2.1 bt285.2.2.2.2.2.2.1 bt285.2.2.2.2.2.2.2 bt296.1 bt296.2.1 bt296.2.2.1 bt296.2.2.2.1 bt296.2.2.2.2.1 bt296.2.2.2.2.2.1 bt296.2.2.2.2.2.2.1 bt296.2.2.2.2.2.2.2).bind fun t307 => (if (t307 != t284) = true then (some false) else ((laws_toEntry.L a0_0 a0_1 a0_2 a0_3 l0_4 a0_5 a0_6 a0_7).bind fun bt308 => ((laws_eqEntry.L bt285.1 bt285.2.1 bt285.2.2.1 bt285.2.2.2.1 bt285.2.2.2.2.1 bt285.2.2.2.2.2.1 bt285.2.2.2.2.2.2.1 bt285.2.2.2.2.2.2.2 bt308.1 bt308.2.1 bt308.2.2.1 bt308.2.2.2.1 bt308.2.2.2.2.1 bt308.2.2.2.2.2.1 bt308.2.2.2.2.2.2.1 bt308.2.2.2.2.2.2.2).bind fun t318 => (if t318 = true then ((laws_toEntry.L a1_0 a1_1 a1_2 a1_3 l1_4 a1_5 a1_6 a1_7).bind fun bt319 => ((laws_eqEntry.L bt296.1 bt296.2.1 bt296.2.2.1 bt296.2.2.2.1 bt296.2.2.2.2.1 bt296.2.2.2.2.2.1 bt296.2.2.2.2.2.2.1 bt296.2.2.2.2.2.2.2 bt319.1 bt319.2.1 bt319.2.2.1 bt319.2.2.2.1 bt319.2.2.2.2.1 bt319.2.2.2.2.2.1 bt319.2.2.2.2.2.2.1 bt319.2.2.2.2.2.2.2).bind fun t329 => (if t329 = true then (some true) else (some false)))) else (some false)))))))))))))) : Option (Bool)) := by
  refine (laws_FnExactIsNewer.L_lm a0_0 a0_1 a0_2 a0_3 l0_4 a0_5 a0_6 a0_7 a1_0 a1_1 a1_2 a1_3 l1_4 a1_5 a1_6 a1_7).eq ?_
  show Lm (fun k => ((laws_szEntry.f a0_0 a0_1 a0_2 a0_3 l0_4 a0_5 a0_6 a0_7 1048576).bind fun t262 => (if t262 < 0 then (some true) else ((laws_szEntry.f a1_0 a1_1 a1_2 a1_3 l1_4 a1_5 a1_6 a1_7 t262).bind fun t263 => (if t263 < 0 then (some true) else ((laws_toEntry.f k a0_0 a0_1 a0_2 a0_3 l0_4 a0_5 a0_6 a0_7).bind fun bt264 => ((laws_toEntry.f k a1_0 a1_1 a1_2 a1_3 l1_4 a1_5 a1_6 a1_7).bind fun bt274 => ((spec_IsNewer.f bt264.1 bt264.2.1 bt264.2.2.1 bt264.2.2.2.1 bt264.2.2.2.2.1 bt264.2.2.2.2.2.1 bt264.2.2.2.2.2.2.1 bt264.2.2.2.2.2.2.2 bt274.1 bt274.2.1 bt274.2.2.1 bt274.2.2.2.1 bt274.2.2.2.2.1 bt274.2.2.2.2.2.1 bt274.2.2.2.2.2.2.1 bt274.2.2.2.2.2.2.2).bind fun t284 => ((laws_toEntry.f k a0_0 a0_1 a0_2 a0_3 l0_4 a0_5 a0_6 a0_7).bind fun bt285 => ((laws_toEntry.f k a1_0 a1_1 a1_2 a1_3 l1_4 a1_5 a1_6 a1_7).bind fun bt296 => ((impl_IsNewer.f bt285.1 bt285.2.1 bt285.2.2.1 bt285.2.2.2.1 bt285.2.2.2.2.1 bt285.2.2.2.2.2.1 bt285.2.2.2.2.2.2.1 bt285.2.2.2.2.2.2.2 bt296.1 bt296.2.1 bt296.2.2.1 bt296.2.2.2.1 bt296.2.2.2.2.1 bt296.2.2.2.2.2.1 bt296.2.2.2.2.2.2.1 bt296.2.2.2.2.2.2.2).bind fun t307 => (if (t307 != t284) = true then (some false) else ((laws_toEntry.f k a0_0 a0_1 a0_2 a0_3 l0_4 a0_5 a0_6 a0_7).bind fun bt308 => ((laws_eqEntry.f k bt285.1 bt285.2.1 bt285.2.2.1 bt285.2.2.2.1 bt285.2.2.2.2.1 bt285.2.2.2.2.2.1 bt285.2.2.2.2.2.2.1 bt285.2.2.2.2.2.2.2 bt308.1 bt308.2.1 bt308.2.2.1 bt308.2.2.2.1 bt308.2.2.2.2.1 bt308.2.2.2.2.2.1 bt308.2.2.2.2.2.2.1 bt308.2.2.2.2.2.2.2).bind fun t318 => (if t318 = true then ((laws_toEntry.f k a1_0 a1_1 a1_2 a1_3 l1_4 a1_5 a1_6 a1_7).bind fun bt319 => ((laws_eqEntry.f k bt296.1 bt296.2.1 bt296.2.2.1 bt296.2.2.2.1 bt296.2.2.2.2.1 bt296.2.2.2.2.2.1 bt296.2.2.2.2.2.2.1 bt296.2.2.2.2.2.2.2 bt319.1 bt319.2.1 bt319.2.2.1 bt319.2.2.2.1 bt319.2.2.2.2.1 bt319.2.2.2.2.2.1 bt319.2.2.2.2.2.2.1 bt319.2.2.2.2.2.2.2).bind fun t329 => (if t329 = true then (some true) else (some false)))) else (some false)))))))))))))) : Option (Bool))) _
  repeat' first
  | (with_reducible exact laws_eqEntry.L_lm _ _ _ _ _ _ _ _ _ _ _ _ _ _ _ _)
  | (with_reducible exact laws_toEntry.L_lm _ _ _ _ _ _ _ _)
  | (with_reducible exact Lm.now _)
  | (with_reducible refine Lm.ite ?_ ?_)
  | (with_reducible refine Lm.bind ?_ (fun _ => ?_))
  | exact laws_eqEntry.L_lm _ _ _ _ _ _ _ _ _ _ _ _ _ _ _ _
  | exact laws_toEntry.L_lm _ _ _ _ _ _ _ _
  | exact Lm.now _
  | refine Lm.ite ?_ ?_
  | refine Lm.bind ?_ (fun _ => ?_)
/- needs: -/
theorem laws_FnExactIsNewer.pure (x : S45) (w0 : ok45 x) (y : S45) (w1 : ok45 y) : ∃ k, laws_FnExactIsNewer.f k x.f0.f0 x.f0.f1 x.f0.f2 x.f0.f3 x.f0.f4 x.f1 x.f2 x.f3 y.f0.f0 y.f0.f1 y.f0.f2 y.f0.f3 y.f0.f4 y.f1 y.f2 y.f3 = some true := by
  refine (laws_FnExactIsNewer.L_lm ..).rounds ?_
  rw [laws_FnExactIsNewer.L_eq, laws_szEntry.R x w0 1048576 (by decide) (by decide), Option.bind_some]
  by_cases c : (wt45 x : Int) ≤ 1048576
  case neg => rw [if_neg c, if_pos (by decide)]
  rw [if_pos c, if_neg (by omega), laws_szEntry.R y w1 _ (by omega) (by omega), Option.bind_some]
  by_cases d : (wt45 y : Int) ≤ 1048576 - wt45 x
  case neg => rw [if_neg d, if_pos (by decide)]
  rw [if_pos d, if_neg (by omega)]
  have hx : ln52 (cv45 x) := by
    unfold ok45 ok43 at w0
    simp [ln52, ln50, cv45, cv43]; omega
  have hy : ln52 (cv45 y) := by
    unfold ok45 ok43 at w1
    simp [ln52, ln50, cv45, cv43]; omega
  have e : ∀ a b : S52, spec_IsNewer.f a.f0.f0 a.f0.f1 a.f0.f2 a.f0.f3 a.f0.f4 a.f1 a.f2 a.f3 b.f0.f0 b.f0.f1 b.f0.f2 b.f0.f3 b.f0.f4 b.f1 b.f2 b.f3 = impl_IsNewer.f a.f0.f0 a.f0.f1 a.f0.f2 a.f0.f3 a.f0.f4 a.f1 a.f2 a.f3 b.f0.f0 b.f0.f1 b.f0.f2 b.f0.f3 b.f0.f4 b.f1 b.f2 b.f3 := fun a b => rfl
  have t : ∀ a b : S52, ∃ r, impl_IsNewer.f a.f0.f0 a.f0.f1 a.f0.f2 a.f0.f3 a.f0.f4 a.f1 a.f2 a.f3 b.f0.f0 b.f0.f1 b.f0.f2 b.f0.f3 b.f0.f4 b.f1 b.f2 b.f3 = some r := fun a b => by
    unfold impl_IsNewer.f
    split
    · exact ⟨_, rfl⟩
    · split <;> exact ⟨_, rfl⟩
  obtain ⟨r, hr⟩ := t (cv45 x) (cv45 y)
  simp only [laws_toEntry.R x (by omega), laws_toEntry.R y (by omega), Option.bind_some, e, hr, laws_eqEntry.R _ hx, laws_eqEntry.R _ hy, if_true, bne_self_eq_false, Bool.false_eq_true, if_false]

end Go.Proofs.Ytoonbcdkbdedkaa.G
