/- A part of the proof of the statement 'FnExactParseRef': for every input the law returns true and leaves its arguments as they were. No condition beyond the statement's own. The walks' text was written by a program of this claim, out of the program's own print. -/
import Derived.Test.YtoonbcdkbdedkaaWWords
import Derived.Deep.Slices
import Derived.Deep.Fields
import Derived.WideShapes
import Derived.Test.YtoonbcdkbdedkaaKFnExactParseRefg1
set_option linter.unusedVariables false
namespace Go.Proofs.Ytoonbcdkbdedkaa.Lim
open Go.RowKit Go.Proofs.YtoonbcdkbdedkaaW.PrintWords
/-- x is what g comes to. -/
structure Lm {α : Type} (g : Nat → Option α) (x : Option α) : Prop where
  mono : ∀ k, LeO (g k) (g (k + 1))
  at' : ∀ r, x = some r ↔ ∃ k, g k = some r
open Classical in
noncomputable def lim {α : Type} (g : Nat → Option α) : Option α := if h : ∃ r k, g k = some r then some h.choose else none
theorem Lm.of {α : Type} {g : Nat → Option α} (h : ∀ k, LeO (g k) (g (k + 1))) : Lm g (lim g) := by
  refine ⟨h, fun r => ?_⟩
  unfold lim
  split
  · rename_i h1
    obtain ⟨k1, hk1⟩ := h1.choose_spec
    constructor
    · intro e
      cases e
      exact ⟨k1, hk1⟩
    · rintro ⟨k, hk⟩
      have a := at_rounds h (Nat.le_max_left k k1) hk
      have b := at_rounds h (Nat.le_max_right k k1) hk1
      rw [b] at a
      exact a
  · rename_i h1
    constructor
    · intro e; cases e
    · intro e; exact absurd ⟨r, e⟩ h1
theorem Lm.eq {α : Type} {g : Nat → Option α} {x y : Option α} (h : Lm g x) (k : Lm g y) : x = y := by
  cases hx : x with
  | some r => exact ((k.at' r).2 ((h.at' r).1 hx)).symm
  | none =>
    cases hy : y with
    | none => rfl
    | some r => rw [(h.at' r).2 ((k.at' r).1 hy)] at hx; cases hx
theorem Lm.lim {α : Type} {g : Nat → Option α} {x : Option α} (h : Lm g x) : lim g = x := (Lm.of h.mono).eq h
theorem Lm.rounds {α : Type} {g : Nat → Option α} {x : Option α} {r : α} (h : Lm g x) (e : x = some r) : ∃ k, g k = some r := (h.at' r).1 e
theorem Lm.now {α : Type} (x : Option α) : Lm (fun _ => x) x := ⟨fun _ => LeO.refl _, fun r => ⟨fun h => ⟨0, h⟩, fun ⟨_, h⟩ => h⟩⟩
theorem Lm.step {α : Type} {g : Nat → Option α} {x : Option α} (hm : ∀ k, LeO (g k) (g (k + 1))) (h : Lm (fun k => g (k + 1)) x) : Lm g x :=
  ⟨hm, fun r => (h.at' r).trans ⟨fun ⟨k, hk⟩ => ⟨k + 1, hk⟩, fun ⟨k, hk⟩ => ⟨k, hm k r hk⟩⟩⟩
theorem Lm.ite {α : Type} {c : Prop} [Decidable c] {a b : Nat → Option α} {x y : Option α} (h : Lm a x) (k : Lm b y) : Lm (fun n => if c then a n else b n) (if c then x else y) := by
  split
  · exact h
  · exact k
theorem Lm.bind {α β : Type} {g : Nat → Option α} {f : Nat → α → Option β} {x : Option α} {F : α → Option β} (h : Lm g x) (k : ∀ a, Lm (fun n => f n a) (F a)) : Lm (fun n => (g n).bind (f n)) (x.bind F) := by
  refine ⟨fun n => LeO.bind (h.mono n) (fun a => (k a).mono n), fun r => ?_⟩
  rw [Option.bind_eq_some_iff]
  constructor
  · rintro ⟨a, ha, hr⟩
    obtain ⟨n, hn⟩ := (h.at' a).1 ha
    obtain ⟨m, hm⟩ := ((k a).at' r).1 hr
    refine ⟨max n m, Option.bind_eq_some_iff.2 ⟨a, at_rounds h.mono (Nat.le_max_left _ _) hn, at_rounds (k a).mono (Nat.le_max_right _ _) hm⟩⟩
  · rintro ⟨n, hn⟩
    obtain ⟨a, ha, hr⟩ := Option.bind_eq_some_iff.1 hn
    exact ⟨a, (h.at' a).2 ⟨n, ha⟩, ((k a).at' r).2 ⟨n, hr⟩⟩
end Go.Proofs.Ytoonbcdkbdedkaa.Lim

set_option linter.unusedVariables false
namespace Go.Proofs.Ytoonbcdkbdedkaa.Open
open Go.ChangeShapes Go.WideShapes Go.RowKit Go.Deep Go.Proofs.YtoonbcdkbdedkaaW.PrintWords

/-- Whatever reads as data at a type is of this kind (and meets 'ok'). -/
def Opens (P : Program) (t : TypeId) {α : Type} (d : Kd α) (ok : α → Prop) : Prop :=
  ∀ (H : Type) (enc : TypeId × Value → H) (w : World) (base : Nat) (spare : Nat → Bool) (held : Bool) (fuel : Nat) (cs : List Value) (x : DataW H × List MemPlace),
    DataW.trod enc P w base spare held fuel t cs = some x → ∃ a, d.K w a cs ∧ ok a
theorem Opens.int {P : Program} {t : TypeId} {k : IntKind} (ht : P.underlying t = some (.int k)) : Opens P t (Kd.int k) (fun n => (Lit.int k n).wf = true) := by
  intro H enc w base spare held fuel cs x h
  obtain ⟨n, rfl, _, hw⟩ := DataW.trod_int ht h
  exact ⟨n, rfl, hw⟩
theorem Opens.bool {P : Program} {t : TypeId} (ht : P.underlying t = some .bool) : Opens P t Kd.bool (fun _ => True) := by
  intro H enc w base spare held fuel cs x h
  obtain ⟨n, rfl, _⟩ := DataW.trod_bool ht h
  exact ⟨n, rfl, trivial⟩
theorem Opens.string {P : Program} {t : TypeId} (ht : P.underlying t = some .string) : Opens P t Kd.string (fun s => s.size ≤ 9223372036854775807) := by
  intro H enc w base spare held fuel cs x h
  obtain ⟨n, rfl, _, hs⟩ := DataW.trod_string ht h
  exact ⟨n, rfl, by unfold maxLen at hs; simpa using hs⟩
theorem Opens.slice {P : Program} {t e : TypeId} {α : Type} {d : Kd α} {ok : α → Prop} (ht : P.underlying t = some (.slice e)) (hc : P.cellsOf e = d.sz) (h : Opens P e d ok) :
    Opens P t (Kd.slice e d) (fun xs => xs.length ≤ 9223372036854775807 ∧ ∀ x ∈ xs, ok x) := by
  intro H enc w base spare held fuel cs x hx
  rcases open_slice ht hx with ⟨rfl, _⟩ | ⟨a, len, cap, m, n, D, Pl, rfl, hb, hl, hm, hmm, _, hi⟩
  · exact ⟨[], ⟨none, 0, rfl, Nat.le_refl _, rfl, by simp, fun h => by simp at h⟩, by simp, by simp⟩
  · have hlm : len ≤ m := by rw [hmm]; split <;> omega
    unfold maxLen at hm
    have hm' : cap ≤ 9223372036854775807 := by simpa using hm
    have each : ∀ i : Fin len, ∃ y cs', w.cells? base (a.add (i.1 * P.cellsOf e)) (P.cellsOf e) = some cs' ∧ d.K w y cs' ∧ ok y := by
      intro i
      obtain ⟨cs', hcs, htr⟩ := hi i.1 (Nat.lt_of_lt_of_le i.2 hlm)
      obtain ⟨y, hk, ho⟩ := h H enc w base spare held n cs' _ htr
      exact ⟨y, cs', hcs, hk, ho⟩
    obtain ⟨f, hf⟩ := Classical.axiomOfChoice each
    refine ⟨List.ofFn f, ⟨some a, cap, by simp, by simpa using hl, by simp, by simp; omega, fun _ => ⟨a, rfl, ?_⟩⟩, by simp; omega, ?_⟩
    · intro j p hj
      have hjl : j < len := by
        have := (List.getElem?_eq_some_iff.1 hj).1
        simpa using this
      have hp : p = f ⟨j, hjl⟩ := by
        rw [List.getElem?_ofFn, dif_pos hjl] at hj
        exact (Option.some.inj hj).symm
      obtain ⟨cs', hcs, hk, _⟩ := hf ⟨j, hjl⟩
      refine ⟨cs', d.K_len hk, by rw [hp]; exact hk, fun i u hu => ?_⟩
      obtain ⟨_, hcl, hat⟩ := World.cells?_some hcs
      have hil : i < P.cellsOf e := by
        have := (List.getElem?_eq_some_iff.1 hu).1
        omega
      have := hat i hil
      rw [hu] at this
      rw [← Go.Deep.add_add, ← hc]
      exact this
    · intro y hy
      obtain ⟨i, hi'⟩ := List.getElem?_of_mem hy
      have hil : i < len := by
        have := (List.getElem?_eq_some_iff.1 hi').1
        simpa using this
      rw [List.getElem?_ofFn, dif_pos hil] at hi'
      obtain ⟨_, _, _, ho⟩ := hf ⟨i, hil⟩
      rw [← Option.some.inj hi']
      exact ho
/-- A struct's fields from a place on. -/
def OpensAt (P : Program) (total off : Nat) (fs : List Field) {α : Type} (d : Kd α) (ok : α → Prop) : Prop :=
  ∀ (H : Type) (enc : TypeId × Value → H) (w : World) (base : Nat) (spare : Nat → Bool) (held : Bool) (n : Nat) (cs : List Value), cs.length = total →
    (∀ f ∈ fs, ∃ y, DataW.trod enc P w base spare held n f.type ((cs.drop f.offset).take (P.cellsOf f.type)) = some y) → ∃ a, d.K w a (cs.drop off) ∧ ok a
theorem OpensAt.last {P : Program} {total off : Nat} {f : Field} {α : Type} {d : Kd α} {ok : α → Prop} (ho : f.offset = off) (hl : total = off + P.cellsOf f.type) (h : Opens P f.type d ok) : OpensAt P total off [f] d ok := by
  intro H enc w base spare held n cs hlen hf
  obtain ⟨y, hy⟩ := hf f (by simp)
  rw [ho, List.take_of_length_le (by rw [List.length_drop]; omega)] at hy
  exact h H enc w base spare held n _ y hy
theorem OpensAt.cons {P : Program} {total off : Nat} {f : Field} {fs : List Field} {α β : Type} {d : Kd α} {d' : Kd β} {ok : α → Prop} {ok' : β → Prop} (ho : f.offset = off) (h : Opens P f.type d ok)
    (h' : OpensAt P total (off + P.cellsOf f.type) fs d' ok') : OpensAt P total off (f :: fs) (Kd.pair d d') (fun x => ok x.1 ∧ ok' x.2) := by
  intro H enc w base spare held n cs hlen hf
  obtain ⟨y, hy⟩ := hf f (by simp)
  rw [ho] at hy
  obtain ⟨a, ha, hoa⟩ := h H enc w base spare held n _ y hy
  obtain ⟨b, hb, hob⟩ := h' H enc w base spare held n cs hlen (fun g hg => hf g (List.mem_cons_of_mem _ hg))
  exact ⟨(a, b), ⟨_, _, by rw [← List.drop_drop]; exact (List.take_append_drop (P.cellsOf f.type) (cs.drop off)).symm, ha, hb⟩, hoa, hob⟩
theorem Opens.struct {P : Program} {t : TypeId} {fs : Array Field} {α β : Type} {d : Kd α} {ok : α → Prop} (f : β → α) (g : α → β) (hfg : ∀ a, f (g a) = a) (ht : P.underlying t = some (.struct fs))
    (h : OpensAt P (P.cellsOf t) 0 fs.toList d ok) : Opens P t (Kd.iso d f) (fun y => ok (f y)) := by
  intro H enc w base spare held fuel cs x hx
  obtain ⟨xs, n, _, _, hlen, hxl, hg⟩ := DataW.trod_struct ht hx
  obtain ⟨a, ha, hoa⟩ := h H enc w base spare held n cs hlen (fun f hf => by
    obtain ⟨i, hi⟩ := List.getElem?_of_mem hf
    have hi' : fs[i]? = some f := by simpa using hi
    have := hg i f hi'
    have hil : i < xs.length := by
      have := (Array.getElem?_eq_some_iff.1 hi').1
      omega
    exact ⟨_, this.trans (List.getElem?_eq_getElem hil)⟩)
  refine ⟨g a, ?_, ?_⟩
  · show d.K w (f (g a)) cs
    rw [hfg]
    simpa using ha
  · show ok (f (g a))
    rw [hfg]
    exact hoa
theorem Opens.mono {P : Program} {t : TypeId} {α : Type} {d : Kd α} {ok ok' : α → Prop} (h : Opens P t d ok) (hm : ∀ a, ok a → ok' a) : Opens P t d ok' := by
  intro H enc w base spare held fuel cs x hx
  obtain ⟨a, ha, ho⟩ := h H enc w base spare held fuel cs x hx
  exact ⟨a, ha, hm a ho⟩
/-- A slice that came in. -/
theorem Opens.row {P : Program} {t e : TypeId} {α : Type} {d : Kd α} {ok : α → Prop} (ht : P.underlying t = some (.slice e)) (hc : P.cellsOf e = d.sz) (h : Opens P e d ok) {H : Type} {enc : TypeId × Value → H} {w : World} {base : Nat} {spare : Nat → Bool} {held : Bool}
    {A : Option Addr} {len cap : Nat} {x : DataW H} {ps : List MemPlace} (hx : DataW.Trod enc P w base spare held t (.slice A len cap) x ps) :
    ∃ xs : List α, len = xs.length ∧ d.C w A xs.length xs ∧ xs.length ≤ cap ∧ xs.length ≤ 9223372036854775807 ∧ ∀ y ∈ xs, ok y := by
  obtain ⟨fuel, hf⟩ := hx
  obtain ⟨xs, ⟨A', c', he, hl, hC⟩, h1, h2⟩ := Opens.slice ht hc h H enc w base spare held fuel _ _ hf
  simp only [Value.cells, List.cons.injEq, Value.slice.injEq, and_true] at he
  obtain ⟨rfl, rfl, rfl⟩ := he
  exact ⟨xs, rfl, hC, hl, h1, h2⟩
/-- A struct that came in by value. -/
theorem Opens.agg {P : Program} {t : TypeId} {fs : Array Field} {α : Type} {d : Kd α} {ok : α → Prop} (ht : P.underlying t = some (.struct fs)) (h : Opens P t d ok) {H : Type} {enc : TypeId × Value → H} {w : World} {base : Nat} {spare : Nat → Bool} {held : Bool} {r : Reach} {b0 : Nat}
    {v : Value} {x : DataW H} {ps : List MemPlace} (hv : Value.okWide P w r b0 t v) (hx : DataW.Trod enc P w base spare held t v x ps) : ∃ (y : α) (cs : List Value), v = .agg cs.toArray ∧ d.K w y cs ∧ ok y := by
  obtain ⟨cs, rfl, _⟩ := okWide_struct ht hv
  obtain ⟨fuel, hf⟩ := hx
  obtain ⟨y, hk, ho⟩ := h H enc w base spare held fuel _ _ hf
  exact ⟨y, cs.toList, by simp, by simpa [Value.cells] using hk, ho⟩
end Go.Proofs.Ytoonbcdkbdedkaa.Open

set_option linter.unusedVariables false
set_option linter.unusedSimpArgs false
set_option maxRecDepth 100000
namespace Go.Proofs.Ytoonbcdkbdedkaa.G
open Go.RowKit Go.Proofs.YtoonbcdkbdedkaaW.PrintWords Go.Proofs.YtoonbcdkbdedkaaW.PrintLast Go.Proofs.YtoonbcdkbdedkaaW.PrintMore Go.Proofs.Ytoonbcdkbdedkaa.Lim Go.Proofs.Ytoonbcdkbdedkaa.Open
/- needs: -/
/-! plain laws on numbers and lists -/
theorem wrap_id {x : Int} (h0 : -9223372036854775808 ≤ x) (h1 : x ≤ 9223372036854775807) : wrap64 x = x := by unfold wrap64; omega
theorem wrap_up (i : Nat) (h : i + 1 ≤ 9223372036854775807) : wrap64 ((i : Int) + 1) = ((i + 1 : Nat) : Int) := by unfold wrap64; omega
theorem wf_i64 {x : Int} (h : (Lit.int .i64 x).wf = true) : -9223372036854775808 ≤ x ∧ x ≤ 9223372036854775807 := by
  have e : (-9223372036854775808 ≤ x ∧ x ≤ 9223372036854775807) = (IntKind.min .i64 ≤ x ∧ x ≤ IntKind.max .i64) := rfl
  rw [e]
  simpa [Lit.wf] using h
theorem getD_of {α : Type} {l : List α} {i : Nat} {x d : α} (h : l[i]? = some x) : l.getD i d = x := by simp [List.getD, h]
theorem getD_int {α : Type} {l : List α} {i : Nat} {x d : α} (h : l[i]? = some x) : l.getD (i : Int).toNat d = x := by simp [List.getD, h]
theorem rd_at {l : List Int} {i : Nat} {x : Int} (h : l[i]? = some x) : rd l (i : Int) = x := getD_int h
theorem rdOf_at {α : Type} {l : List α} {i : Nat} {x d : α} (h : l[i]? = some x) : rdOf d l (i : Int) = x := getD_int h
theorem drop_at {α : Type} {l : List α} {i : Nat} (h : i < l.length) : ∃ x, l[i]? = some x ∧ l.drop i = x :: l.drop (i + 1) := ⟨l[i], List.getElem?_eq_getElem h, by rw [List.drop_eq_getElem_cons h]⟩
/-- A loop over the indices of a list: what it comes to is told by G on what is left. -/
theorem loop_drop {σ ρ α : Type} (l : List α) (F : σ → Int → Option ρ) (G : σ → List α → ρ) (Inv : σ → Nat → Prop)
    (hend : ∀ s, Inv s l.length → F s (l.length : Int) = some (G s []))
    (hstep : ∀ s (i : Nat) x, Inv s i → i < l.length → l[i]? = some x →
      (F s (i : Int) = some (G s (x :: l.drop (i + 1)))) ∨ ∃ s', Inv s' (i + 1) ∧ F s (i : Int) = F s' ((i + 1 : Nat) : Int) ∧ G s (x :: l.drop (i + 1)) = G s' (l.drop (i + 1))) :
    ∀ (s : σ) (i : Nat), i ≤ l.length → Inv s i → F s (i : Int) = some (G s (l.drop i)) := by
  have key : ∀ (d : Nat) (s : σ) (i : Nat), l.length - i = d → i ≤ l.length → Inv s i → F s (i : Int) = some (G s (l.drop i)) := by
    intro d
    induction d with
    | zero =>
      intro s i hd hi hs
      have : i = l.length := by omega
      subst this
      rw [List.drop_length]
      exact hend s hs
    | succ d ih =>
      intro s i hd hi hs
      have hlt : i < l.length := by omega
      obtain ⟨x, hx, hdr⟩ := drop_at hlt
      rw [hdr]
      rcases hstep s i x hs hlt hx with h | ⟨s', hs', h1, h2⟩
      · exact h
      · rw [h1, h2]
        exact ih s' (i + 1) (by omega) (by omega) hs'
  exact fun s i => key _ s i rfl
theorem sum_mem {α : Type} {f : α → Nat} {l : List α} {x : α} (h : x ∈ l) : f x ≤ (l.map f).sum := by
  induction l with
  | nil => simp at h
  | cons y l ih =>
    rcases List.mem_cons.1 h with rfl | h
    · simp
    · have := ih h
      simp only [List.map_cons, List.sum_cons]
      omega
theorem fill_step {α β : Type} (l : List α) (f : α → β) (s : List β) (i : Nat) (x : α) (hx : l[i]? = some x) (hs : s.length = l.length) (ht : s.take i = (l.map f).take i) : (s.set i (f x)).take (i + 1) = (l.map f).take (i + 1) := by
  have hi : i < l.length := (List.getElem?_eq_some_iff.1 hx).1
  have e1 : (s.set i (f x)).take i = (l.map f).take i := by rw [List.take_set_of_le (Nat.le_refl _)]; exact ht
  rw [List.take_add_one, List.take_add_one, e1]
  congr 1
  rw [List.getElem?_set_self (by omega), List.getElem?_map, hx]
  rfl
theorem down_ind {n : Nat} {P : Nat → Prop} (hend : P n) (hstep : ∀ i, i < n → P (i + 1) → P i) : ∀ i, i ≤ n → P i := by
  have key : ∀ d i, n - i = d → i ≤ n → P i := by
    intro d
    induction d with
    | zero =>
      intro i h hi
      have e : i = n := by omega
      rw [e]
      exact hend
    | succ d ih => intro i h hi; exact hstep i (by omega) (ih (i + 1) (by omega) (by omega))
  exact fun i => key _ i rfl
theorem get_at {α : Type} {l : List α} {i : Nat} (h : i < l.length) : ∃ x, l[i]? = some x ∧ x ∈ l := ⟨l[i], List.getElem?_eq_getElem h, List.getElem_mem h⟩
theorem wrap_down (i : Nat) (h : 0 < i) (hi : i ≤ 9223372036854775807) : wrap64 ((i : Int) - 1) = ((i - 1 : Nat) : Int) := by unfold wrap64; omega
theorem bind_eq {α β : Type} {x : Option α} {a : α} {f : α → Option β} (h : x = some a) : x.bind f = f a := by rw [h]; rfl
theorem set_mid {α : Type} (d r : List α) (x v : α) : (d ++ x :: r).set ((d.length : Nat) : Int).toNat v = d ++ v :: r := by
  rw [Int.toNat_natCast, List.set_append_right _ _ (Nat.le_refl _), Nat.sub_self]
  rfl
theorem getD_mid {α : Type} (d r : List α) (x z : α) : (d ++ x :: r).getD ((d.length : Nat) : Int).toNat z = x := by simp [List.getD]
theorem app_one {α : Type} (d r : List α) (x : α) : d ++ x :: r = (d ++ [x]) ++ r := by simp

end Go.Proofs.Ytoonbcdkbdedkaa.G

set_option linter.unusedVariables false
set_option linter.unusedSimpArgs false
set_option maxRecDepth 100000
namespace Go.Proofs.Ytoonbcdkbdedkaa.G
open Go.RowKit Go.Proofs.YtoonbcdkbdedkaaW.PrintWords Go.Proofs.YtoonbcdkbdedkaaW.PrintLast Go.Proofs.YtoonbcdkbdedkaaW.PrintMore Go.Proofs.Ytoonbcdkbdedkaa.Lim Go.Proofs.Ytoonbcdkbdedkaa.Open
/-! laws.Reason -/
theorem rd95_at {l : List S95} {i : Nat} {x : S95} (h : l[i]? = some x) : rd_T95 l (i : Int) = x := getD_int h
def ok95 (y : S95) : Prop := (Lit.int .i64 y.f0).wf = true ∧ (Lit.int .i64 y.f1).wf = true ∧ (Lit.int .i64 y.f2).wf = true
theorem opens95 : Opens Try.prog 95 k95 ok95 := Opens.struct (fun x : S95 => (x.f0, x.f1, x.f2)) (fun a => ⟨a.1, a.2.1, a.2.2⟩) (fun _ => rfl) Try.underlying95 (OpensAt.cons (by kernel_rfl) (Opens.int Try.underlying3) (OpensAt.cons (by kernel_rfl) (Opens.int Try.underlying3) (OpensAt.last (by kernel_rfl) (by kernel_rfl) (Opens.int Try.underlying3))))
/-! impl.Reason -/
theorem rd93_at {l : List S93} {i : Nat} {x : S93} (h : l[i]? = some x) : rd_T93 l (i : Int) = x := getD_int h
def ok93 (y : S93) : Prop := (Lit.int .i64 y.f0).wf = true ∧ (Lit.int .i64 y.f1).wf = true ∧ (Lit.int .i64 y.f2).wf = true
theorem opens93 : Opens Try.prog 93 k93 ok93 := Opens.struct (fun x : S93 => (x.f0, x.f1, x.f2)) (fun a => ⟨a.1, a.2.1, a.2.2⟩) (fun _ => rfl) Try.underlying93 (OpensAt.cons (by kernel_rfl) (Opens.int Try.underlying3) (OpensAt.cons (by kernel_rfl) (Opens.int Try.underlying3) (OpensAt.last (by kernel_rfl) (by kernel_rfl) (Opens.int Try.underlying3))))
/-! laws.Level -/
theorem rd101_at {l : List S101} {i : Nat} {x : S101} (h : l[i]? = some x) : rd_T101 l (i : Int) = x := getD_int h
def ok101 (y : S101) : Prop := (Lit.int .i64 y.f0).wf = true ∧ (Lit.int .i64 y.f1).wf = true ∧ (Lit.int .i64 y.f2).wf = true
theorem opens101 : Opens Try.prog 101 k101 ok101 := Opens.struct (fun x : S101 => (x.f0, x.f1, x.f2)) (fun a => ⟨a.1, a.2.1, a.2.2⟩) (fun _ => rfl) Try.underlying101 (OpensAt.cons (by kernel_rfl) (Opens.int Try.underlying3) (OpensAt.cons (by kernel_rfl) (Opens.int Try.underlying3) (OpensAt.last (by kernel_rfl) (by kernel_rfl) (Opens.int Try.underlying3))))
/-! impl.Level -/
theorem rd99_at {l : List S99} {i : Nat} {x : S99} (h : l[i]? = some x) : rd_T99 l (i : Int) = x := getD_int h
def ok99 (y : S99) : Prop := (Lit.int .i64 y.f0).wf = true ∧ (Lit.int .i64 y.f1).wf = true ∧ (Lit.int .i64 y.f2).wf = true
theorem opens99 : Opens Try.prog 99 k99 ok99 := Opens.struct (fun x : S99 => (x.f0, x.f1, x.f2)) (fun a => ⟨a.1, a.2.1, a.2.2⟩) (fun _ => rfl) Try.underlying99 (OpensAt.cons (by kernel_rfl) (Opens.int Try.underlying3) (OpensAt.cons (by kernel_rfl) (Opens.int Try.underlying3) (OpensAt.last (by kernel_rfl) (by kernel_rfl) (Opens.int Try.underlying3))))
/-! laws.Point -/
theorem rd134_at {l : List S134} {i : Nat} {x : S134} (h : l[i]? = some x) : rd_T134 l (i : Int) = x := getD_int h
def ok134 (y : S134) : Prop := (Lit.int .i64 y.f0).wf = true ∧ (Lit.int .i64 y.f1).wf = true
theorem opens134 : Opens Try.prog 134 k134 ok134 := Opens.struct (fun x : S134 => (x.f0, x.f1)) (fun a => ⟨a.1, a.2⟩) (fun _ => rfl) Try.underlying134 (OpensAt.cons (by kernel_rfl) (Opens.int Try.underlying3) (OpensAt.last (by kernel_rfl) (by kernel_rfl) (Opens.int Try.underlying3)))
/-! impl.Point -/
theorem rd56_at {l : List S56} {i : Nat} {x : S56} (h : l[i]? = some x) : rd_T56 l (i : Int) = x := getD_int h
def ok56 (y : S56) : Prop := (Lit.int .i64 y.f0).wf = true ∧ (Lit.int .i64 y.f1).wf = true
theorem opens56 : Opens Try.prog 56 k56 ok56 := Opens.struct (fun x : S56 => (x.f0, x.f1)) (fun a => ⟨a.1, a.2⟩) (fun _ => rfl) Try.underlying56 (OpensAt.cons (by kernel_rfl) (Opens.int Try.underlying3) (OpensAt.last (by kernel_rfl) (by kernel_rfl) (Opens.int Try.underlying3)))
/-! laws.Listing -/
theorem rd110_at {l : List S110} {i : Nat} {x : S110} (h : l[i]? = some x) : rd_T110 l (i : Int) = x := getD_int h
def ok110 (y : S110) : Prop := y.f0.size ≤ 9223372036854775807 ∧ (Lit.int .i64 y.f1).wf = true ∧ y.f2.size ≤ 9223372036854775807
theorem opens110 : Opens Try.prog 110 k110 ok110 := Opens.struct (fun x : S110 => (x.f0, x.f1, x.f2)) (fun a => ⟨a.1, a.2.1, a.2.2⟩) (fun _ => rfl) Try.underlying110 (OpensAt.cons (by kernel_rfl) (Opens.string Try.underlying9) (OpensAt.cons (by kernel_rfl) (Opens.int Try.underlying3) (OpensAt.last (by kernel_rfl) (by kernel_rfl) (Opens.string Try.underlying9))))
/-! impl.Listing -/
theorem rd111_at {l : List S111} {i : Nat} {x : S111} (h : l[i]? = some x) : rd_T111 l (i : Int) = x := getD_int h
def ok111 (y : S111) : Prop := y.f0.size ≤ 9223372036854775807 ∧ (Lit.int .i64 y.f1).wf = true ∧ y.f2.size ≤ 9223372036854775807
theorem opens111 : Opens Try.prog 111 k111 ok111 := Opens.struct (fun x : S111 => (x.f0, x.f1, x.f2)) (fun a => ⟨a.1, a.2.1, a.2.2⟩) (fun _ => rfl) Try.underlying111 (OpensAt.cons (by kernel_rfl) (Opens.string Try.underlying9) (OpensAt.cons (by kernel_rfl) (Opens.int Try.underlying3) (OpensAt.last (by kernel_rfl) (by kernel_rfl) (Opens.string Try.underlying9))))
/-! laws.Feature -/
theorem rd43_at {l : List S43} {i : Nat} {x : S43} (h : l[i]? = some x) : rd_T43 l (i : Int) = x := getD_int h
def ok43 (y : S43) : Prop := (Lit.int .i64 y.f0).wf = true ∧ (Lit.int .i64 y.f1).wf = true ∧ (Lit.int .i64 y.f2).wf = true ∧ y.f3.size ≤ 9223372036854775807 ∧ (y.f4.length ≤ 9223372036854775807 ∧ ∀ z ∈ y.f4, ok134 z)
theorem opens43 : Opens Try.prog 43 k43 ok43 := Opens.struct (fun x : S43 => (x.f0, x.f1, x.f2, x.f3, x.f4)) (fun a => ⟨a.1, a.2.1, a.2.2.1, a.2.2.2.1, a.2.2.2.2⟩) (fun _ => rfl) Try.underlying43 (OpensAt.cons (by kernel_rfl) (Opens.int Try.underlying3) (OpensAt.cons (by kernel_rfl) (Opens.int Try.underlying3) (OpensAt.cons (by kernel_rfl) (Opens.int Try.underlying3) (OpensAt.cons (by kernel_rfl) (Opens.string Try.underlying9) (OpensAt.last (by kernel_rfl) (by kernel_rfl) (Opens.slice Try.underlying41 (by kernel_rfl) opens134))))))
/-! laws.Edition -/
theorem rd118_at {l : List S118} {i : Nat} {x : S118} (h : l[i]? = some x) : rd_T118 l (i : Int) = x := getD_int h
def ok118 (y : S118) : Prop := (Lit.int .i64 y.f0).wf = true ∧ (y.f1.length ≤ 9223372036854775807 ∧ ∀ z ∈ y.f1, ok43 z) ∧ (Lit.int .i64 y.f2).wf = true
theorem opens118 : Opens Try.prog 118 k118 ok118 := Opens.struct (fun x : S118 => (x.f0, x.f1, x.f2)) (fun a => ⟨a.1, a.2.1, a.2.2⟩) (fun _ => rfl) Try.underlying118 (OpensAt.cons (by kernel_rfl) (Opens.int Try.underlying3) (OpensAt.cons (by kernel_rfl) (Opens.slice Try.underlying116 (by kernel_rfl) opens43) (OpensAt.last (by kernel_rfl) (by kernel_rfl) (Opens.int Try.underlying3))))
/-! impl.Feature -/
theorem rd50_at {l : List S50} {i : Nat} {x : S50} (h : l[i]? = some x) : rd_T50 l (i : Int) = x := getD_int h
def ok50 (y : S50) : Prop := (Lit.int .i64 y.f0).wf = true ∧ (Lit.int .i64 y.f1).wf = true ∧ (Lit.int .i64 y.f2).wf = true ∧ y.f3.size ≤ 9223372036854775807 ∧ (y.f4.length ≤ 9223372036854775807 ∧ ∀ z ∈ y.f4, ok56 z)
theorem opens50 : Opens Try.prog 50 k50 ok50 := Opens.struct (fun x : S50 => (x.f0, x.f1, x.f2, x.f3, x.f4)) (fun a => ⟨a.1, a.2.1, a.2.2.1, a.2.2.2.1, a.2.2.2.2⟩) (fun _ => rfl) Try.underlying50 (OpensAt.cons (by kernel_rfl) (Opens.int Try.underlying3) (OpensAt.cons (by kernel_rfl) (Opens.int Try.underlying3) (OpensAt.cons (by kernel_rfl) (Opens.int Try.underlying3) (OpensAt.cons (by kernel_rfl) (Opens.string Try.underlying9) (OpensAt.last (by kernel_rfl) (by kernel_rfl) (Opens.slice Try.underlying48 (by kernel_rfl) opens56))))))
/-! impl.Edition -/
theorem rd121_at {l : List S121} {i : Nat} {x : S121} (h : l[i]? = some x) : rd_T121 l (i : Int) = x := getD_int h
def ok121 (y : S121) : Prop := (Lit.int .i64 y.f0).wf = true ∧ (y.f1.length ≤ 9223372036854775807 ∧ ∀ z ∈ y.f1, ok50 z) ∧ (Lit.int .i64 y.f2).wf = true
theorem opens121 : Opens Try.prog 121 k121 ok121 := Opens.struct (fun x : S121 => (x.f0, x.f1, x.f2)) (fun a => ⟨a.1, a.2.1, a.2.2⟩) (fun _ => rfl) Try.underlying121 (OpensAt.cons (by kernel_rfl) (Opens.int Try.underlying3) (OpensAt.cons (by kernel_rfl) (Opens.slice Try.underlying119 (by kernel_rfl) opens50) (OpensAt.last (by kernel_rfl) (by kernel_rfl) (Opens.int Try.underlying3))))
/-! laws.Entry -/
theorem rd45_at {l : List S45} {i : Nat} {x : S45} (h : l[i]? = some x) : rd_T45 l (i : Int) = x := getD_int h
def ok45 (y : S45) : Prop := ok43 y.f0 ∧ (Lit.int .i64 y.f1).wf = true ∧ (Lit.int .i64 y.f2).wf = true ∧ True
theorem opens45 : Opens Try.prog 45 k45 ok45 := Opens.struct (fun x : S45 => (x.f0, x.f1, x.f2, x.f3)) (fun a => ⟨a.1, a.2.1, a.2.2.1, a.2.2.2⟩) (fun _ => rfl) Try.underlying45 (OpensAt.cons (by kernel_rfl) opens43 (OpensAt.cons (by kernel_rfl) (Opens.int Try.underlying3) (OpensAt.cons (by kernel_rfl) (Opens.int Try.underlying3) (OpensAt.last (by kernel_rfl) (by kernel_rfl) (Opens.bool Try.underlying4)))))
/-! impl.Entry -/
theorem rd52_at {l : List S52} {i : Nat} {x : S52} (h : l[i]? = some x) : rd_T52 l (i : Int) = x := getD_int h
def ok52 (y : S52) : Prop := ok50 y.f0 ∧ (Lit.int .i64 y.f1).wf = true ∧ (Lit.int .i64 y.f2).wf = true ∧ True
theorem opens52 : Opens Try.prog 52 k52 ok52 := Opens.struct (fun x : S52 => (x.f0, x.f1, x.f2, x.f3)) (fun a => ⟨a.1, a.2.1, a.2.2.1, a.2.2.2⟩) (fun _ => rfl) Try.underlying52 (OpensAt.cons (by kernel_rfl) opens50 (OpensAt.cons (by kernel_rfl) (Opens.int Try.underlying3) (OpensAt.cons (by kernel_rfl) (Opens.int Try.underlying3) (OpensAt.last (by kernel_rfl) (by kernel_rfl) (Opens.bool Try.underlying4)))))
def cv95 (x : S95) : S93 := ⟨x.f0, x.f1, x.f2⟩
def cv101 (x : S101) : S99 := ⟨x.f0, x.f1, x.f2⟩
def cv134 (x : S134) : S56 := ⟨x.f0, x.f1⟩
def cv110 (x : S110) : S111 := ⟨x.f0, x.f1, x.f2⟩
def cv43 (x : S43) : S50 := ⟨x.f0, x.f1, x.f2, x.f3, x.f4.map cv134⟩
def cv118 (x : S118) : S121 := ⟨x.f0, x.f1.map cv43, x.f2⟩
def cv45 (x : S45) : S52 := ⟨cv43 x.f0, x.f1, x.f2, x.f3⟩
def wt95 (x : S95) : Nat := 0
def wtl95 (l : List S95) : Nat := l.length
theorem wtl95_len (l : List S95) : l.length ≤ wtl95 l := Nat.le_refl _
def wt93 (x : S93) : Nat := 0
def wtl93 (l : List S93) : Nat := l.length
theorem wtl93_len (l : List S93) : l.length ≤ wtl93 l := Nat.le_refl _
def wt101 (x : S101) : Nat := 0
def wtl101 (l : List S101) : Nat := l.length
theorem wtl101_len (l : List S101) : l.length ≤ wtl101 l := Nat.le_refl _
def wt99 (x : S99) : Nat := 0
def wtl99 (l : List S99) : Nat := l.length
theorem wtl99_len (l : List S99) : l.length ≤ wtl99 l := Nat.le_refl _
def wt134 (x : S134) : Nat := 0
def wtl134 (l : List S134) : Nat := l.length
theorem wtl134_len (l : List S134) : l.length ≤ wtl134 l := Nat.le_refl _
def wt56 (x : S56) : Nat := 0
def wtl56 (l : List S56) : Nat := l.length
theorem wtl56_len (l : List S56) : l.length ≤ wtl56 l := Nat.le_refl _
def wt110 (x : S110) : Nat := x.f0.size + x.f2.size
def wtl110 (l : List S110) : Nat := l.length + (l.map wt110).sum
theorem wtl110_mem {l : List S110} {x : S110} (h : x ∈ l) : wt110 x ≤ wtl110 l := Nat.le_trans (sum_mem h) (Nat.le_add_left _ _)
theorem wtl110_len (l : List S110) : l.length ≤ wtl110 l := Nat.le_add_right _ _
def wt111 (x : S111) : Nat := x.f0.size + x.f2.size
def wtl111 (l : List S111) : Nat := l.length + (l.map wt111).sum
theorem wtl111_mem {l : List S111} {x : S111} (h : x ∈ l) : wt111 x ≤ wtl111 l := Nat.le_trans (sum_mem h) (Nat.le_add_left _ _)
theorem wtl111_len (l : List S111) : l.length ≤ wtl111 l := Nat.le_add_right _ _
def wt43 (x : S43) : Nat := x.f3.size + wtl134 x.f4
def wtl43 (l : List S43) : Nat := l.length + (l.map wt43).sum
theorem wtl43_mem {l : List S43} {x : S43} (h : x ∈ l) : wt43 x ≤ wtl43 l := Nat.le_trans (sum_mem h) (Nat.le_add_left _ _)
theorem wtl43_len (l : List S43) : l.length ≤ wtl43 l := Nat.le_add_right _ _
def ln43 (x : S43) : Prop := (x.f4.length ≤ 9223372036854775807)
def wt118 (x : S118) : Nat := wtl43 x.f1
def wtl118 (l : List S118) : Nat := l.length + (l.map wt118).sum
theorem wtl118_mem {l : List S118} {x : S118} (h : x ∈ l) : wt118 x ≤ wtl118 l := Nat.le_trans (sum_mem h) (Nat.le_add_left _ _)
theorem wtl118_len (l : List S118) : l.length ≤ wtl118 l := Nat.le_add_right _ _
def ln118 (x : S118) : Prop := (x.f1.length ≤ 9223372036854775807 ∧ ∀ y ∈ x.f1, ln43 y)
def wt50 (x : S50) : Nat := x.f3.size + wtl56 x.f4
def wtl50 (l : List S50) : Nat := l.length + (l.map wt50).sum
theorem wtl50_mem {l : List S50} {x : S50} (h : x ∈ l) : wt50 x ≤ wtl50 l := Nat.le_trans (sum_mem h) (Nat.le_add_left _ _)
theorem wtl50_len (l : List S50) : l.length ≤ wtl50 l := Nat.le_add_right _ _
def ln50 (x : S50) : Prop := (x.f4.length ≤ 9223372036854775807)
def wt121 (x : S121) : Nat := wtl50 x.f1
def wtl121 (l : List S121) : Nat := l.length + (l.map wt121).sum
theorem wtl121_mem {l : List S121} {x : S121} (h : x ∈ l) : wt121 x ≤ wtl121 l := Nat.le_trans (sum_mem h) (Nat.le_add_left _ _)
theorem wtl121_len (l : List S121) : l.length ≤ wtl121 l := Nat.le_add_right _ _
def ln121 (x : S121) : Prop := (x.f1.length ≤ 9223372036854775807 ∧ ∀ y ∈ x.f1, ln50 y)
def wt45 (x : S45) : Nat := wt43 x.f0
def wtl45 (l : List S45) : Nat := l.length + (l.map wt45).sum
theorem wtl45_mem {l : List S45} {x : S45} (h : x ∈ l) : wt45 x ≤ wtl45 l := Nat.le_trans (sum_mem h) (Nat.le_add_left _ _)
theorem wtl45_len (l : List S45) : l.length ≤ wtl45 l := Nat.le_add_right _ _
def ln45 (x : S45) : Prop := ln43 x.f0
def wt52 (x : S52) : Nat := wt50 x.f0
def wtl52 (l : List S52) : Nat := l.length + (l.map wt52).sum
theorem wtl52_mem {l : List S52} {x : S52} (h : x ∈ l) : wt52 x ≤ wtl52 l := Nat.le_trans (sum_mem h) (Nat.le_add_left _ _)
theorem wtl52_len (l : List S52) : l.length ≤ wtl52 l := Nat.le_add_right _ _
def ln52 (x : S52) : Prop := ln50 x.f0
end Go.Proofs.Ytoonbcdkbdedkaa.G

set_option linter.unusedVariables false
set_option linter.unusedSimpArgs false
set_option maxRecDepth 100000
namespace Go.Proofs.Ytoonbcdkbdedkaa.G
open Go.RowKit Go.Proofs.YtoonbcdkbdedkaaW.PrintWords Go.Proofs.YtoonbcdkbdedkaaW.PrintLast Go.Proofs.YtoonbcdkbdedkaaW.PrintMore Go.Proofs.Ytoonbcdkbdedkaa.Lim Go.Proofs.Ytoonbcdkbdedkaa.Open
/- needs: -/
theorem spec_l1In.R (a b c : Int) : spec_l1In.f a b c = some (decide (b ≤ a ∧ a ≤ c)) := by
  unfold spec_l1In.f
  by_cases h : a ≥ b
  · rw [if_pos h]
    have : b ≤ a := h
    simp [this]
  · rw [if_neg h]
    have : ¬ b ≤ a := h
    simp [this]

end Go.Proofs.Ytoonbcdkbdedkaa.G

set_option linter.unusedVariables false
set_option linter.unusedSimpArgs false
set_option maxRecDepth 100000
namespace Go.Proofs.Ytoonbcdkbdedkaa.G
open Go.RowKit Go.Proofs.YtoonbcdkbdedkaaW.PrintWords Go.Proofs.YtoonbcdkbdedkaaW.PrintLast Go.Proofs.YtoonbcdkbdedkaaW.PrintMore Go.Proofs.Ytoonbcdkbdedkaa.Lim Go.Proofs.Ytoonbcdkbdedkaa.Open
/- needs: Plain -/
/-- a string of these bytes -/
def bytes (l : List UInt8) : ByteArray := ⟨l.toArray⟩
theorem bytes_size (l : List UInt8) : (bytes l).size = l.length := by simp [bytes, ByteArray.size]
theorem bytes_toList (l : List UInt8) : (bytes l).toList = l := by
  rw [ByteArray.toList_eq]
  simp [bytes]
theorem bytes_append (a b : List UInt8) : bytes a ++ bytes b = bytes (a ++ b) := by
  apply ByteArray.ext
  simp [bytes]
theorem strOfNums_bytes (l : List Int) : strOfNums l = bytes (l.map fun n => UInt8.ofNat n.toNat) := rfl
/-- a number's decimal digits -/
def digs (n : Nat) : List UInt8 := if n < 10 then [UInt8.ofNat (48 + n)] else digs (n / 10) ++ [UInt8.ofNat (48 + n % 10)]
termination_by n
theorem digs_small {n : Nat} (h : n < 10) : digs n = [UInt8.ofNat (48 + n)] := by unfold digs; rw [if_pos h]
theorem digs_big {n : Nat} (h : 10 ≤ n) : digs n = digs (n / 10) ++ [UInt8.ofNat (48 + n % 10)] := by rw [digs, if_neg (by omega)]

end Go.Proofs.Ytoonbcdkbdedkaa.G

set_option linter.unusedVariables false
set_option linter.unusedSimpArgs false
set_option maxRecDepth 100000
namespace Go.Proofs.Ytoonbcdkbdedkaa.G
open Go.RowKit Go.Proofs.YtoonbcdkbdedkaaW.PrintWords Go.Proofs.YtoonbcdkbdedkaaW.PrintLast Go.Proofs.YtoonbcdkbdedkaaW.PrintMore Go.Proofs.Ytoonbcdkbdedkaa.Lim Go.Proofs.Ytoonbcdkbdedkaa.Open
noncomputable def spec_FormatInt.Ll0 (x0 : Int) (x3 : ByteArray) (x4 : Int) : Option (ByteArray) := lim (fun k => spec_FormatInt.l0 k x0 x3 x4)
theorem spec_FormatInt.Ll0_lm (x0 : Int) (x3 : ByteArray) (x4 : Int) : Lm (fun k => spec_FormatInt.l0 k x0 x3 x4) (spec_FormatInt.Ll0 x0 x3 x4) := Lm.of (fun k => spec_FormatInt.mono_l k x0 x3 x4)
noncomputable def spec_FormatInt.L (a0 : Int) : Option (ByteArray) := lim (fun k => spec_FormatInt.f k a0)
theorem spec_FormatInt.L_lm (a0 : Int) : Lm (fun k => spec_FormatInt.f k a0) (spec_FormatInt.L a0) := Lm.of (fun k => spec_FormatInt.mono a0 k)
theorem spec_FormatInt.Ll0_eq (x0 : Int) (x3 : ByteArray) (x4 : Int) : spec_FormatInt.Ll0 x0 x3 x4 = (if x4 = 0 then (if x0 < 0 then (if 1 + x3.size ≤ 9223372036854775807 then (some ((⟨#[45]⟩ : ByteArray) ++ x3)) else (none)) else (some x3)) else (if (Int.tmod x4 10) < 0 then ((some (([(wrap64 (48 + (wrap64 (-(Int.tmod x4 10))))) % 256] : List Int) : List Int)).bind fun y115 => (if (strOfNums y115).size + x3.size ≤ 9223372036854775807 then (spec_FormatInt.Ll0 x0 ((strOfNums y115) ++ x3) (wrap64 (Int.tdiv x4 10))) else (none))) else ((some (([(wrap64 (48 + (Int.tmod x4 10))) % 256] : List Int) : List Int)).bind fun y118 => (if (strOfNums y118).size + x3.size ≤ 9223372036854775807 then (spec_FormatInt.Ll0 x0 ((strOfNums y118) ++ x3) (wrap64 (Int.tdiv x4 10))) else (none)))) : Option (ByteArray)) := by
  refine (spec_FormatInt.Ll0_lm x0 x3 x4).eq (Lm.step (spec_FormatInt.Ll0_lm x0 x3 x4).mono ?_)
  show Lm (fun k => (if x4 = 0 then (if x0 < 0 then (if 1 + x3.size ≤ 9223372036854775807 then (some ((⟨#[45]⟩ : ByteArray) ++ x3)) else (none)) else (some x3)) else (if (Int.tmod x4 10) < 0 then ((some (([(wrap64 (48 + (wrap64 (-(Int.tmod x4 10))))) % 256] : List Int) : List Int)).bind fun y115 => (if (strOfNums y115).size + x3.size ≤ 9223372036854775807 then (spec_FormatInt.l0 k x0 ((strOfNums y115) ++ x3) (wrap64 (Int.tdiv x4 10))) else (none))) else ((some (([(wrap64 (48 + (Int.tmod x4 10))) % 256] : List Int) : List Int)).bind fun y118 => (if (strOfNums y118).size + x3.size ≤ 9223372036854775807 then (spec_FormatInt.l0 k x0 ((strOfNums y118) ++ x3) (wrap64 (Int.tdiv x4 10))) else (none)))) : Option (ByteArray))) _
  repeat' first
  | (with_reducible exact spec_FormatInt.Ll0_lm _ _ _)
  | (with_reducible exact Lm.now _)
  | (with_reducible refine Lm.ite ?_ ?_)
  | (with_reducible refine Lm.bind ?_ (fun _ => ?_))
  | exact spec_FormatInt.Ll0_lm _ _ _
  | exact Lm.now _
  | refine Lm.ite ?_ ?_
  | refine Lm.bind ?_ (fun _ => ?_)
theorem spec_FormatInt.L_eq (a0 : Int) : spec_FormatInt.L a0 = (if a0 = 0 then (some (⟨#[48]⟩ : ByteArray)) else (spec_FormatInt.Ll0 a0 (⟨#[]⟩ : ByteArray) a0) : Option (ByteArray)) := by
  refine (spec_FormatInt.L_lm a0).eq ?_
  show Lm (fun k => (if a0 = 0 then (some (⟨#[48]⟩ : ByteArray)) else (spec_FormatInt.l0 k a0 (⟨#[]⟩ : ByteArray) a0) : Option (ByteArray))) _
  repeat' first
  | (with_reducible exact spec_FormatInt.Ll0_lm _ _ _)
  | (with_reducible exact Lm.now _)
  | (with_reducible refine Lm.ite ?_ ?_)
  | (with_reducible refine Lm.bind ?_ (fun _ => ?_))
  | exact spec_FormatInt.Ll0_lm _ _ _
  | exact Lm.now _
  | refine Lm.ite ?_ ?_
  | refine Lm.bind ?_ (fun _ => ?_)
/- needs: Digits -/
theorem spec_FormatInt.loop : ∀ (n : Nat), 0 < n → n ≤ 9223372036854775807 → ∀ (x0 : Int) (s : List UInt8), 0 ≤ x0 → s.length + n ≤ 9223372036854775807 → spec_FormatInt.Ll0 x0 (bytes s) (n : Int) = some (bytes (digs n ++ s)) := by
  intro n
  induction n using Nat.strongRecOn with
  | ind n ih =>
    intro h0 hn x0 s hx hs
    have e1 : Int.tmod (n : Int) 10 = ((n % 10 : Nat) : Int) := by rw [Int.tmod_eq_emod_of_nonneg (by omega)]; omega
    have e2 : wrap64 (Int.tdiv (n : Int) 10) = ((n / 10 : Nat) : Int) := by
      rw [Int.tdiv_eq_ediv_of_nonneg (by omega)]
      exact (wrap_id (by omega) (by omega)).trans (by omega)
    have e3 : wrap64 (48 + ((n % 10 : Nat) : Int)) % 256 = ((48 + n % 10 : Nat) : Int) := by rw [wrap_id (by omega) (by omega)]; omega
    rw [spec_FormatInt.Ll0_eq, if_neg (by omega), e1, if_neg (by omega), e2, e3, Option.bind_some, strOfNums_bytes, List.map_cons, List.map_nil, Int.toNat_natCast, bytes_size, bytes_size, if_pos (by simp; omega), bytes_append]
    by_cases c : n < 10
    · have e4 : n / 10 = 0 := by omega
      have e5 : n % 10 = n := by omega
      rw [e4, e5, spec_FormatInt.Ll0_eq, if_pos (by rfl), if_neg (by omega), digs_small c]
    · rw [ih (n / 10) (by omega) (by omega) (by omega) x0 ([UInt8.ofNat (48 + n % 10)] ++ s) hx (by simp; omega), digs_big (n := n) (by omega)]
      simp
theorem spec_FormatInt.R (n : Nat) (hn : n ≤ 9223372036854775807) : spec_FormatInt.L (n : Int) = some (bytes (digs n)) := by
  rw [spec_FormatInt.L_eq]
  by_cases c : n = 0
  · subst c
    rw [if_pos (by rfl), digs_small (by omega)]
    rfl
  · rw [if_neg (by omega)]
    have h := spec_FormatInt.loop n (by omega) hn (n : Int) [] (by omega) (by simpa using hn)
    rw [List.append_nil] at h
    exact h

end Go.Proofs.Ytoonbcdkbdedkaa.G

set_option linter.unusedVariables false
set_option linter.unusedSimpArgs false
set_option maxRecDepth 100000
namespace Go.Proofs.Ytoonbcdkbdedkaa.G
open Go.RowKit Go.Proofs.YtoonbcdkbdedkaaW.PrintWords Go.Proofs.YtoonbcdkbdedkaaW.PrintLast Go.Proofs.YtoonbcdkbdedkaaW.PrintMore Go.Proofs.Ytoonbcdkbdedkaa.Lim Go.Proofs.Ytoonbcdkbdedkaa.Open
/- needs: Plain Digits -/
theorem bt_of {s : ByteArray} {i : Nat} {c : UInt8} (h : s.data.toList[i]? = some c) : bt s (i : Int) = (c.toNat : Int) := by
  have hi : i < s.size := by
    have h1 := (List.getElem?_eq_some_iff.1 h).1
    rw [Array.length_toList] at h1
    exact h1
  have e : s.data.toList[i]? = some (s[i]'hi) := by
    rw [List.getElem?_eq_getElem (by rw [Array.length_toList]; exact hi)]
    rfl
  rw [e] at h
  unfold bt
  rw [Int.toNat_natCast, dif_pos hi, Option.some.inj h]
def pInt : List UInt8 → Int → Option Int
  | [], n => some n
  | c :: r, n => if (c.toNat : Int) < 48 then none else if (c.toNat : Int) > 57 then none else pInt r (10 * n + ((c.toNat : Int) - 48))
def pEnd : Option Int → Int × Bool
  | none => (0, false)
  | some n => if n > 1000000000000 then (0, false) else (n, true)
def M_ParseInt (l : List UInt8) : Int × Bool :=
  match l with
  | [] => (0, false)
  | c :: r => if r.length > 12 then (0, false) else if r.length > 0 ∧ (c.toNat : Int) = 48 then (0, false) else pEnd (pInt (c :: r) 0)
theorem pInt_mono : ∀ (l : List UInt8) (n m : Int), 0 ≤ n → pInt l n = some m → n ≤ m
  | [], n, m, _, h => by cases h; exact Int.le_refl _
  | c :: r, n, m, h0, h => by
    unfold pInt at h
    by_cases c0 : (c.toNat : Int) < 48
    · rw [if_pos c0] at h; cases h
    rw [if_neg c0] at h
    by_cases c1 : (c.toNat : Int) > 57
    · rw [if_pos c1] at h; cases h
    rw [if_neg c1] at h
    have := pInt_mono r _ m (by omega) h
    omega
theorem pInt_cons {c : UInt8} {r : List UInt8} {n m : Int} (h : pInt (c :: r) n = some m) : 48 ≤ (c.toNat : Int) ∧ (c.toNat : Int) ≤ 57 ∧ pInt r (10 * n + ((c.toNat : Int) - 48)) = some m := by
  unfold pInt at h
  by_cases c0 : (c.toNat : Int) < 48
  · rw [if_pos c0] at h; cases h
  rw [if_neg c0] at h
  by_cases c1 : (c.toNat : Int) > 57
  · rw [if_pos c1] at h; cases h
  rw [if_neg c1] at h
  exact ⟨by omega, by omega, h⟩
theorem M_ParseInt_range {l : List UInt8} {n : Int} {b : Bool} (h : M_ParseInt l = (n, b)) : 0 ≤ n ∧ n ≤ 1000000000000 := by
  unfold M_ParseInt at h
  have key : ∀ o : Option Int, (∀ x, o = some x → 0 ≤ x) → pEnd o = (n, b) → 0 ≤ n ∧ n ≤ 1000000000000 := by
    intro o ho he
    unfold pEnd at he
    split at he
    · cases he; omega
    · rename_i x
      have := ho x rfl
      split at he <;> (cases he; omega)
  split at h
  · cases h; omega
  split at h
  · cases h; omega
  split at h
  · cases h; omega
  exact key _ (fun x hx => pInt_mono _ _ _ (by decide) hx) h

end Go.Proofs.Ytoonbcdkbdedkaa.G

set_option linter.unusedVariables false
set_option linter.unusedSimpArgs false
set_option maxRecDepth 100000
namespace Go.Proofs.Ytoonbcdkbdedkaa.G
open Go.RowKit Go.Proofs.YtoonbcdkbdedkaaW.PrintWords Go.Proofs.YtoonbcdkbdedkaaW.PrintLast Go.Proofs.YtoonbcdkbdedkaaW.PrintMore Go.Proofs.Ytoonbcdkbdedkaa.Lim Go.Proofs.Ytoonbcdkbdedkaa.Open
/- needs: ParseInt -/
def M_ParseRef (l : List UInt8) : Int × Bool :=
  match l with
  | [] => (-1, false)
  | c :: r => if r.length = 0 then (-1, false) else if (c.toNat : Int) < 97 then (-1, false) else if (c.toNat : Int) > 117 then (-1, false)
    else if (M_ParseInt r).2 = true then (if (M_ParseInt r).1 ≥ 21 then (-1, false) else ((M_ParseInt r).1 * 21 + ((c.toNat : Int) - 97), true)) else (-1, false)
/-- a tile's reference: the letter of its column and its row -/
def ref (t : Nat) : List UInt8 := UInt8.ofNat (97 + t % 21) :: (if t / 21 < 10 then [UInt8.ofNat (48 + t / 21)] else [UInt8.ofNat (48 + t / 21 / 10), UInt8.ofNat (48 + t / 21 % 10)])
theorem ref_digs (t : Nat) (h : t < 441) : ref t = UInt8.ofNat (97 + t % 21) :: digs (t / 21) := by
  unfold ref
  congr 1
  by_cases c : t / 21 < 10
  · rw [if_pos c, digs_small c]
  · rw [if_neg c, digs_big (by omega), digs_small (by omega)]
    rfl
theorem parse_ref : ∀ t, t < 441 → M_ParseRef (ref t) = ((t : Int), true) := by decide +kernel
theorem u8_of {c : UInt8} {n : Nat} (h : c.toNat = n) : c = UInt8.ofNat n := by
  subst h
  exact (UInt8.ofNat_toNat).symm
theorem ref_of_parse {l : List UInt8} {x : Int} (h : M_ParseRef l = (x, true)) : ∃ t, t < 441 ∧ l = ref t := by
  unfold M_ParseRef at h
  split at h
  · simp at h
  rename_i c r
  split at h
  · simp at h
  split at h
  · simp at h
  split at h
  · simp at h
  split at h
  case isFalse => simp at h
  rename_i hr h0 h1 h2
  split at h
  · simp at h
  rename_i h3
  have hc : c.toNat < 256 := c.toNat_lt
  -- the row
  have row : ∃ n, n < 21 ∧ r = if n < 10 then [UInt8.ofNat (48 + n)] else [UInt8.ofNat (48 + n / 10), UInt8.ofNat (48 + n % 10)] := by
    have hend : ∀ o, (pEnd o).2 = true → ¬ (pEnd o).1 ≥ 21 → ∃ n : Int, o = some n ∧ n < 21 := by
      intro o g1 g2
      unfold pEnd at g1 g2
      split at g1
      · simp at g1
      · rename_i n
        refine ⟨n, rfl, ?_⟩
        simp only [] at g2
        split at g1
        · simp at g1
        · rename_i g3
          rw [if_neg g3] at g2
          simp only [] at g2
          omega
    match r, hr, h2, h3 with
    | [d], _, h2, h3 =>
      have e : M_ParseInt [d] = pEnd (pInt [d] 0) := by
        show (if ([] : List UInt8).length > 12 then (0, false) else if ([] : List UInt8).length > 0 ∧ (d.toNat : Int) = 48 then (0, false) else pEnd (pInt [d] 0)) = _
        rw [if_neg (by simp), if_neg (by simp)]
      rw [e] at h2 h3
      obtain ⟨n, hn, hlt⟩ := hend _ h2 h3
      obtain ⟨g1a, g1b, hn⟩ := pInt_cons hn
      unfold pInt at hn
      have := Option.some.inj hn
      refine ⟨d.toNat - 48, by omega, ?_⟩
      rw [if_pos (by omega)]
      congr 1
      exact u8_of (by omega)
    | [d, f], _, h2, h3 =>
      have e : M_ParseInt [d, f] = if (d.toNat : Int) = 48 then (0, false) else pEnd (pInt [d, f] 0) := by
        show (if [f].length > 12 then (0, false) else if [f].length > 0 ∧ (d.toNat : Int) = 48 then (0, false) else pEnd (pInt [d, f] 0)) = _
        rw [if_neg (by simp)]
        by_cases c : (d.toNat : Int) = 48
        · rw [if_pos ⟨by simp, c⟩, if_pos c]
        · rw [if_neg (fun h => c h.2), if_neg c]
      rw [e] at h2 h3
      split at h2
      · simp at h2
      rename_i hz
      rw [if_neg hz] at h3
      obtain ⟨n, hn, hlt⟩ := hend _ h2 h3
      obtain ⟨g2a, g2b, hn⟩ := pInt_cons hn
      obtain ⟨g3a, g3b, hn⟩ := pInt_cons hn
      unfold pInt at hn
      have := Option.some.inj hn
      refine ⟨10 * (d.toNat - 48) + (f.toNat - 48), by omega, ?_⟩
      rw [if_neg (by omega)]
      congr 1
      · exact u8_of (by omega)
      congr 1
      exact u8_of (by omega)
    | d :: f :: g :: r, _, h2, h3 =>
      exfalso
      have e : M_ParseInt (d :: f :: g :: r) = if (f :: g :: r).length > 12 then (0, false) else if (d.toNat : Int) = 48 then (0, false) else pEnd (pInt (d :: f :: g :: r) 0) := by
        show (if (f :: g :: r).length > 12 then (0, false) else if (f :: g :: r).length > 0 ∧ (d.toNat : Int) = 48 then (0, false) else pEnd (pInt (d :: f :: g :: r) 0)) = _
        by_cases c0 : (f :: g :: r).length > 12
        · rw [if_pos c0, if_pos c0]
        rw [if_neg c0, if_neg c0]
        by_cases c : (d.toNat : Int) = 48
        · rw [if_pos ⟨by simp, c⟩, if_pos c]
        · rw [if_neg (fun h => c h.2), if_neg c]
      rw [e] at h2 h3
      split at h2
      · simp at h2
      rename_i hy
      rw [if_neg hy] at h3
      split at h2
      · simp at h2
      rename_i hz
      rw [if_neg hz] at h3
      obtain ⟨n, hn, hlt⟩ := hend _ h2 h3
      obtain ⟨g4a, g4b, hn⟩ := pInt_cons hn
      obtain ⟨g5a, g5b, hn⟩ := pInt_cons hn
      obtain ⟨g6a, g6b, hn⟩ := pInt_cons hn
      have := pInt_mono _ _ _ (by omega) hn
      omega
  obtain ⟨n, hn, rfl⟩ := row
  refine ⟨n * 21 + (c.toNat - 97), by omega, ?_⟩
  unfold ref
  have e1 : (n * 21 + (c.toNat - 97)) % 21 = c.toNat - 97 := by omega
  have e2 : (n * 21 + (c.toNat - 97)) / 21 = n := by omega
  rw [e1, e2]
  congr 1
  exact u8_of (by omega)
theorem M_ParseRef_false {l : List UInt8} {x : Int} (h : M_ParseRef l = (x, false)) : x = -1 := by
  unfold M_ParseRef at h
  split at h
  · cases h; rfl
  split at h
  · cases h; rfl
  split at h
  · cases h; rfl
  split at h
  · cases h; rfl
  split at h
  · split at h
    · cases h; rfl
    · cases h
  · cases h; rfl
/-- the first of d tiles from i on with this reference -/
def refFind (l : List UInt8) : Nat → Nat → Int × Bool
  | 0, _ => (-1, false)
  | d + 1, i => if ref i = l then ((i : Int), true) else refFind l d (i + 1)
theorem refFind_succ (l : List UInt8) (d i : Nat) : refFind l (d + 1) i = if ref i = l then ((i : Int), true) else refFind l d (i + 1) := rfl
theorem refFind_none {l : List UInt8} : ∀ d i, (∀ t, i ≤ t → t < i + d → ref t ≠ l) → refFind l d i = (-1, false)
  | 0, _, _ => rfl
  | d + 1, i, h => by
    unfold refFind
    rw [if_neg (h i (by omega) (by omega))]
    exact refFind_none d (i + 1) (fun t h1 h2 => h t (by omega) (by omega))
theorem refFind_some {l : List UInt8} {t : Nat} (e : ref t = l) : ∀ d i, i ≤ t → t < i + d → (∀ u, i ≤ u → u < t → ref u ≠ l) → refFind l d i = ((t : Int), true)
  | 0, i, h0, h1, _ => by omega
  | d + 1, i, h0, h1, h => by
    unfold refFind
    by_cases c : i = t
    · subst c; rw [if_pos e]
    · rw [if_neg (h i (by omega) (by omega))]
      exact refFind_some e d (i + 1) (by omega) (by omega) (fun u h2 h3 => h u (by omega) h3)
theorem refFind_parse (l : List UInt8) : refFind l 441 0 = M_ParseRef l := by
  match h : M_ParseRef l with
  | (x, true) =>
    obtain ⟨t, ht, rfl⟩ := ref_of_parse h
    rw [parse_ref t ht] at h
    rw [← h]
    refine refFind_some rfl 441 0 (by omega) (by omega) (fun u _ hu e => ?_)
    have h1 := parse_ref u (by omega)
    rw [e, parse_ref t ht] at h1
    have := congrArg Prod.fst h1
    simp only [] at this
    omega
  | (x, false) =>
    rw [M_ParseRef_false h]
    refine refFind_none 441 0 (fun t _ ht e => ?_)
    rw [← e, parse_ref t (by omega)] at h
    cases h

end Go.Proofs.Ytoonbcdkbdedkaa.G

set_option linter.unusedVariables false
set_option linter.unusedSimpArgs false
set_option maxRecDepth 100000
namespace Go.Proofs.Ytoonbcdkbdedkaa.G
open Go.RowKit Go.Proofs.YtoonbcdkbdedkaaW.PrintWords Go.Proofs.YtoonbcdkbdedkaaW.PrintLast Go.Proofs.YtoonbcdkbdedkaaW.PrintMore Go.Proofs.Ytoonbcdkbdedkaa.Lim Go.Proofs.Ytoonbcdkbdedkaa.Open
noncomputable def spec_RefOfTile.L (a0 : Int) : Option (ByteArray) := lim (fun k => spec_RefOfTile.f k a0)
theorem spec_RefOfTile.L_lm (a0 : Int) : Lm (fun k => spec_RefOfTile.f k a0) (spec_RefOfTile.L a0) := Lm.of (fun k => spec_RefOfTile.mono a0 k)
theorem spec_RefOfTile.L_eq (a0 : Int) : spec_RefOfTile.L a0 = ((spec_l1In.f a0 0 440).bind fun t121 => (if t121 = true then (if 0 ≤ (Int.tmod a0 21) then (if (Int.tmod a0 21) ≤ (wrap64 ((Int.tmod a0 21) + 1)) then (if (wrap64 ((Int.tmod a0 21) + 1)) ≤ 21 then ((spec_FormatInt.L (wrap64 (Int.tdiv a0 21))).bind fun t122 => (if ((⟨#[97, 98, 99, 100, 101, 102, 103, 104, 105, 106, 107, 108, 109, 110, 111, 112, 113, 114, 115, 116, 117]⟩ : ByteArray).extract ((Int.tmod a0 21) : Int).toNat ((wrap64 ((Int.tmod a0 21) + 1)) : Int).toNat).size + t122.size ≤ 9223372036854775807 then (some (((⟨#[97, 98, 99, 100, 101, 102, 103, 104, 105, 106, 107, 108, 109, 110, 111, 112, 113, 114, 115, 116, 117]⟩ : ByteArray).extract ((Int.tmod a0 21) : Int).toNat ((wrap64 ((Int.tmod a0 21) + 1)) : Int).toNat) ++ t122)) else (none))) else (none)) else (none)) else (none)) else (some (⟨#[]⟩ : ByteArray))) : Option (ByteArray)) := by
  refine (spec_RefOfTile.L_lm a0).eq ?_
  show Lm (fun k => ((spec_l1In.f a0 0 440).bind fun t121 => (if t121 = true then (if 0 ≤ (Int.tmod a0 21) then (if (Int.tmod a0 21) ≤ (wrap64 ((Int.tmod a0 21) + 1)) then (if (wrap64 ((Int.tmod a0 21) + 1)) ≤ 21 then ((spec_FormatInt.f k (wrap64 (Int.tdiv a0 21))).bind fun t122 => (if ((⟨#[97, 98, 99, 100, 101, 102, 103, 104, 105, 106, 107, 108, 109, 110, 111, 112, 113, 114, 115, 116, 117]⟩ : ByteArray).extract ((Int.tmod a0 21) : Int).toNat ((wrap64 ((Int.tmod a0 21) + 1)) : Int).toNat).size + t122.size ≤ 9223372036854775807 then (some (((⟨#[97, 98, 99, 100, 101, 102, 103, 104, 105, 106, 107, 108, 109, 110, 111, 112, 113, 114, 115, 116, 117]⟩ : ByteArray).extract ((Int.tmod a0 21) : Int).toNat ((wrap64 ((Int.tmod a0 21) + 1)) : Int).toNat) ++ t122)) else (none))) else (none)) else (none)) else (none)) else (some (⟨#[]⟩ : ByteArray))) : Option (ByteArray))) _
  repeat' first
  | (with_reducible exact spec_FormatInt.L_lm _)
  | (with_reducible exact Lm.now _)
  | (with_reducible refine Lm.ite ?_ ?_)
  | (with_reducible refine Lm.bind ?_ (fun _ => ?_))
  | exact spec_FormatInt.L_lm _
  | exact Lm.now _
  | refine Lm.ite ?_ ?_
  | refine Lm.bind ?_ (fun _ => ?_)
/- needs: ParseRef -/
theorem letter_at : ∀ c, c < 21 → (⟨#[97, 98, 99, 100, 101, 102, 103, 104, 105, 106, 107, 108, 109, 110, 111, 112, 113, 114, 115, 116, 117]⟩ : ByteArray).extract c (c + 1) = bytes [UInt8.ofNat (97 + c)] := by decide +kernel
theorem spec_RefOfTile.R (t : Nat) (h : t < 441) : spec_RefOfTile.L (t : Int) = some (bytes (ref t)) := by
  have e1 : Int.tmod (t : Int) 21 = ((t % 21 : Nat) : Int) := by rw [Int.tmod_eq_emod_of_nonneg (by omega)]; omega
  have e2 : wrap64 (Int.tdiv (t : Int) 21) = ((t / 21 : Nat) : Int) := by
    rw [Int.tdiv_eq_ediv_of_nonneg (by omega)]
    exact (wrap_id (by omega) (by omega)).trans (by omega)
  have e3 : wrap64 (((t % 21 : Nat) : Int) + 1) = ((t % 21 + 1 : Nat) : Int) := wrap_up _ (by omega)
  rw [spec_RefOfTile.L_eq, spec_l1In.R, Option.bind_some, if_pos (by simp; omega), e1, e3, e2, if_pos (by omega), if_pos (by omega), if_pos (by omega), spec_FormatInt.R _ (by omega), Option.bind_some, Int.toNat_natCast, Int.toNat_natCast, letter_at _ (by omega), bytes_append]
  have hd : (digs (t / 21)).length ≤ 2 := by
    by_cases c : t / 21 < 10
    · rw [digs_small c]; simp
    · rw [digs_big (by omega), digs_small (by omega)]; simp
  rw [if_pos (by rw [bytes_size, bytes_size]; simp; omega), ref_digs t h]
  rfl
theorem spec_RefOfTile.out (t : Int) (h : ¬ (0 ≤ t ∧ t ≤ 440)) : spec_RefOfTile.L t = some (bytes []) := by
  rw [spec_RefOfTile.L_eq, spec_l1In.R, Option.bind_some, if_neg (by simpa using h)]
  rfl

end Go.Proofs.Ytoonbcdkbdedkaa.G

set_option linter.unusedVariables false
set_option linter.unusedSimpArgs false
set_option maxRecDepth 100000
namespace Go.Proofs.Ytoonbcdkbdedkaa.G
open Go.RowKit Go.Proofs.YtoonbcdkbdedkaaW.PrintWords Go.Proofs.YtoonbcdkbdedkaaW.PrintLast Go.Proofs.YtoonbcdkbdedkaaW.PrintMore Go.Proofs.Ytoonbcdkbdedkaa.Lim Go.Proofs.Ytoonbcdkbdedkaa.Open
noncomputable def spec_ParseRef.Ll0 (x0 : ByteArray) (x4 : Int) : Option (Int × Bool) := lim (fun k => spec_ParseRef.l0 k x0 x4)
theorem spec_ParseRef.Ll0_lm (x0 : ByteArray) (x4 : Int) : Lm (fun k => spec_ParseRef.l0 k x0 x4) (spec_ParseRef.Ll0 x0 x4) := Lm.of (fun k => spec_ParseRef.mono_l k x0 x4)
noncomputable def spec_ParseRef.L (a0 : ByteArray) : Option (Int × Bool) := lim (fun k => spec_ParseRef.f k a0)
theorem spec_ParseRef.L_lm (a0 : ByteArray) : Lm (fun k => spec_ParseRef.f k a0) (spec_ParseRef.L a0) := Lm.of (fun k => spec_ParseRef.mono a0 k)
theorem spec_ParseRef.Ll0_eq (x0 : ByteArray) (x4 : Int) : spec_ParseRef.Ll0 x0 x4 = (if x4 < 441 then ((spec_RefOfTile.L x4).bind fun t123 => (if t123.toList = x0.toList then (some (x4, true)) else (spec_ParseRef.Ll0 x0 (wrap64 (x4 + 1))))) else (some ((-1), false)) : Option (Int × Bool)) := by
  refine (spec_ParseRef.Ll0_lm x0 x4).eq (Lm.step (spec_ParseRef.Ll0_lm x0 x4).mono ?_)
  show Lm (fun k => (if x4 < 441 then ((spec_RefOfTile.f k x4).bind fun t123 => (if t123.toList = x0.toList then (some (x4, true)) else (spec_ParseRef.l0 k x0 (wrap64 (x4 + 1))))) else (some ((-1), false)) : Option (Int × Bool))) _
  repeat' first
  | (with_reducible exact spec_RefOfTile.L_lm _)
  | (with_reducible exact spec_ParseRef.Ll0_lm _ _)
  | (with_reducible exact Lm.now _)
  | (with_reducible refine Lm.ite ?_ ?_)
  | (with_reducible refine Lm.bind ?_ (fun _ => ?_))
  | exact spec_RefOfTile.L_lm _
  | exact spec_ParseRef.Ll0_lm _ _
  | exact Lm.now _
  | refine Lm.ite ?_ ?_
  | refine Lm.bind ?_ (fun _ => ?_)
theorem spec_ParseRef.L_eq (a0 : ByteArray) : spec_ParseRef.L a0 = (spec_ParseRef.Ll0 a0 0 : Option (Int × Bool)) := by
  refine (spec_ParseRef.L_lm a0).eq ?_
  show Lm (fun k => (spec_ParseRef.l0 k a0 0 : Option (Int × Bool))) _
  repeat' first
  | (with_reducible exact spec_ParseRef.Ll0_lm _ _)
  | (with_reducible exact Lm.now _)
  | (with_reducible refine Lm.ite ?_ ?_)
  | (with_reducible refine Lm.bind ?_ (fun _ => ?_))
  | exact spec_ParseRef.Ll0_lm _ _
  | exact Lm.now _
  | refine Lm.ite ?_ ?_
  | refine Lm.bind ?_ (fun _ => ?_)
/- needs: ParseRef -/
theorem spec_ParseRef.R (s : ByteArray) : spec_ParseRef.L s = some (M_ParseRef s.data.toList) := by
  rw [spec_ParseRef.L_eq]
  have key := down_ind (n := 441) (P := fun i => spec_ParseRef.Ll0 s (i : Int) = some (refFind s.data.toList (441 - i) i)) ?_ ?_ 0 (Nat.zero_le _)
  · rw [← refFind_parse]
    exact key
  · rw [spec_ParseRef.Ll0_eq, if_neg (by omega)]
    rfl
  · intro i hi ih
    rw [spec_ParseRef.Ll0_eq, if_pos (by omega), spec_RefOfTile.R i hi, Option.bind_some, bytes_toList, ByteArray.toList_eq, wrap_up i (by omega), ih]
    have e : 441 - i = (441 - (i + 1)) + 1 := by omega
    rw [e, refFind_succ]
    by_cases c : ref i = s.data.toList
    · rw [if_pos c, if_pos c]
    · rw [if_neg c, if_neg c]

end Go.Proofs.Ytoonbcdkbdedkaa.G

set_option linter.unusedVariables false
set_option linter.unusedSimpArgs false
set_option maxRecDepth 100000
namespace Go.Proofs.Ytoonbcdkbdedkaa.G
open Go.RowKit Go.Proofs.YtoonbcdkbdedkaaW.PrintWords Go.Proofs.YtoonbcdkbdedkaaW.PrintLast Go.Proofs.YtoonbcdkbdedkaaW.PrintMore Go.Proofs.Ytoonbcdkbdedkaa.Lim Go.Proofs.Ytoonbcdkbdedkaa.Open
noncomputable def impl_ParseInt.Lj0 (x0 : ByteArray) (x23 : Bool) : Option (Int × Bool) := lim (fun k => impl_ParseInt.j0 k x0 x23)
theorem impl_ParseInt.Lj0_lm (x0 : ByteArray) (x23 : Bool) : Lm (fun k => impl_ParseInt.j0 k x0 x23) (impl_ParseInt.Lj0 x0 x23) := Lm.of (fun k => (impl_ParseInt.mono_l k).1 x0 x23)
noncomputable def impl_ParseInt.Ll0 (x0 : ByteArray) (x4 : Int) (x25 : Int) (x26 : Int) : Option (Int × Bool) := lim (fun k => impl_ParseInt.l0 k x0 x4 x25 x26)
theorem impl_ParseInt.Ll0_lm (x0 : ByteArray) (x4 : Int) (x25 : Int) (x26 : Int) : Lm (fun k => impl_ParseInt.l0 k x0 x4 x25 x26) (impl_ParseInt.Ll0 x0 x4 x25 x26) := Lm.of (fun k => (impl_ParseInt.mono_l k).2 x0 x4 x25 x26)
noncomputable def impl_ParseInt.L (a0 : ByteArray) : Option (Int × Bool) := lim (fun k => impl_ParseInt.f k a0)
theorem impl_ParseInt.L_lm (a0 : ByteArray) : Lm (fun k => impl_ParseInt.f k a0) (impl_ParseInt.L a0) := Lm.of (fun k => impl_ParseInt.mono a0 k)
theorem impl_ParseInt.Lj0_eq (x0 : ByteArray) (x23 : Bool) : impl_ParseInt.Lj0 x0 x23 = (if x23 = true then (some (0, false)) else (impl_ParseInt.Ll0 x0 0 (x0.size : Int) 0) : Option (Int × Bool)) := by
  refine (impl_ParseInt.Lj0_lm x0 x23).eq (Lm.step (impl_ParseInt.Lj0_lm x0 x23).mono ?_)
  show Lm (fun k => (if x23 = true then (some (0, false)) else (impl_ParseInt.l0 k x0 0 (x0.size : Int) 0) : Option (Int × Bool))) _
  repeat' first
  | (with_reducible exact impl_ParseInt.Ll0_lm _ _ _ _)
  | (with_reducible exact Lm.now _)
  | (with_reducible refine Lm.ite ?_ ?_)
  | (with_reducible refine Lm.bind ?_ (fun _ => ?_))
  | exact impl_ParseInt.Ll0_lm _ _ _ _
  | exact Lm.now _
  | refine Lm.ite ?_ ?_
  | refine Lm.bind ?_ (fun _ => ?_)
theorem impl_ParseInt.Ll0_eq (x0 : ByteArray) (x4 : Int) (x25 : Int) (x26 : Int) : impl_ParseInt.Ll0 x0 x4 x25 x26 = (if x26 < x25 then (if 0 ≤ x26 then (if x26 < (x0.size : Int) then (if (bt x0 x26) < 48 then (some (0, false)) else (if (bt x0 x26) > 57 then (some (0, false)) else (impl_ParseInt.Ll0 x0 (wrap64 ((wrap64 (10 * x4)) + (((bt x0 x26) - 48) % 256))) x25 (wrap64 (x26 + 1))))) else (none)) else (none)) else (if x4 > 1000000000000 then (some (0, false)) else (some (x4, true))) : Option (Int × Bool)) := by
  refine (impl_ParseInt.Ll0_lm x0 x4 x25 x26).eq (Lm.step (impl_ParseInt.Ll0_lm x0 x4 x25 x26).mono ?_)
  show Lm (fun k => (if x26 < x25 then (if 0 ≤ x26 then (if x26 < (x0.size : Int) then (if (bt x0 x26) < 48 then (some (0, false)) else (if (bt x0 x26) > 57 then (some (0, false)) else (impl_ParseInt.l0 k x0 (wrap64 ((wrap64 (10 * x4)) + (((bt x0 x26) - 48) % 256))) x25 (wrap64 (x26 + 1))))) else (none)) else (none)) else (if x4 > 1000000000000 then (some (0, false)) else (some (x4, true))) : Option (Int × Bool))) _
  repeat' first
  | (with_reducible exact impl_ParseInt.Ll0_lm _ _ _ _)
  | (with_reducible exact Lm.now _)
  | (with_reducible refine Lm.ite ?_ ?_)
  | (with_reducible refine Lm.bind ?_ (fun _ => ?_))
  | exact impl_ParseInt.Ll0_lm _ _ _ _
  | exact Lm.now _
  | refine Lm.ite ?_ ?_
  | refine Lm.bind ?_ (fun _ => ?_)
theorem impl_ParseInt.L_eq (a0 : ByteArray) : impl_ParseInt.L a0 = (if (a0.size : Int) = 0 then (impl_ParseInt.Lj0 a0 true) else (if (a0.size : Int) > 13 then (impl_ParseInt.Lj0 a0 true) else (if (a0.size : Int) > 1 then (if 0 < (a0.size : Int) then (impl_ParseInt.Lj0 a0 ((bt a0 0) == 48)) else (none)) else (impl_ParseInt.Lj0 a0 false))) : Option (Int × Bool)) := by
  refine (impl_ParseInt.L_lm a0).eq ?_
  show Lm (fun k => (if (a0.size : Int) = 0 then (impl_ParseInt.j0 k a0 true) else (if (a0.size : Int) > 13 then (impl_ParseInt.j0 k a0 true) else (if (a0.size : Int) > 1 then (if 0 < (a0.size : Int) then (impl_ParseInt.j0 k a0 ((bt a0 0) == 48)) else (none)) else (impl_ParseInt.j0 k a0 false))) : Option (Int × Bool))) _
  repeat' first
  | (with_reducible exact impl_ParseInt.Lj0_lm _ _)
  | (with_reducible exact Lm.now _)
  | (with_reducible refine Lm.ite ?_ ?_)
  | (with_reducible refine Lm.bind ?_ (fun _ => ?_))
  | exact impl_ParseInt.Lj0_lm _ _
  | exact Lm.now _
  | refine Lm.ite ?_ ?_
  | refine Lm.bind ?_ (fun _ => ?_)
/- needs: ParseInt -/
theorem impl_ParseInt.loop (s : ByteArray) (hs : s.size ≤ 13) : ∀ (i : Nat), i ≤ s.size → ∀ n : Int, 0 ≤ n → n < 10 ^ i → impl_ParseInt.Ll0 s n (s.size : Int) (i : Int) = some (pEnd (pInt (s.data.toList.drop i) n)) := by
  have hl : s.data.toList.length = s.size := Array.length_toList
  refine down_ind ?_ ?_
  · intro n h0 h1
    rw [impl_ParseInt.Ll0_eq, if_neg (by omega), List.drop_of_length_le (by omega)]
    unfold pInt pEnd
    simp only []
    split <;> rfl
  · intro i hi ih n h0 h1
    obtain ⟨c, hc, hd⟩ := drop_at (l := s.data.toList) (i := i) (by omega)
    have hp : (10 : Int) ^ i ≤ 10 ^ 12 := by
      have := Nat.pow_le_pow_right (n := 10) (by decide) (show i ≤ 12 by omega)
      exact_mod_cast this
    have hp2 : (10 : Int) ^ (i + 1) = 10 ^ i * 10 := Int.pow_succ ..
    rw [impl_ParseInt.Ll0_eq, if_pos (by omega), if_pos (by omega), if_pos (by omega), bt_of hc, hd]
    unfold pInt
    by_cases c0 : (c.toNat : Int) < 48
    · rw [if_pos c0, if_pos c0]; rfl
    rw [if_neg c0, if_neg c0]
    by_cases c1 : (c.toNat : Int) > 57
    · rw [if_pos c1, if_pos c1]; rfl
    rw [if_neg c1, if_neg c1]
    have e : wrap64 ((wrap64 (10 * n)) + (((c.toNat : Int) - 48) % 256)) = 10 * n + ((c.toNat : Int) - 48) := by
      rw [wrap_id (x := 10 * n) (by omega) (by omega)]
      exact (wrap_id (by omega) (by omega)).trans (by omega)
    rw [e, wrap_up i (by omega)]
    exact ih _ (by omega) (by omega)
theorem impl_ParseInt.R (s : ByteArray) (h : s.size ≤ 9223372036854775807) : impl_ParseInt.L s = some (M_ParseInt s.data.toList) := by
  have hl : s.data.toList.length = s.size := Array.length_toList
  rw [impl_ParseInt.L_eq]
  unfold M_ParseInt
  match hd : s.data.toList with
  | [] =>
    rw [hd] at hl
    rw [if_pos (by simp at hl; omega), impl_ParseInt.Lj0_eq, if_pos rfl]
  | c :: r =>
    rw [hd] at hl
    simp only [List.length_cons] at hl
    rw [if_neg (by omega)]
    by_cases c1 : (s.size : Int) > 13
    · rw [if_pos c1, impl_ParseInt.Lj0_eq, if_pos rfl]
      simp only []
      rw [if_pos (by omega)]
    rw [if_neg c1]
    simp only []
    rw [if_neg (show ¬ r.length > 12 by omega)]
    have hb : bt s 0 = (c.toNat : Int) := bt_of (i := 0) (by rw [hd]; rfl)
    have hloop := impl_ParseInt.loop s (by omega) 0 (by omega) 0 (by decide) (by decide)
    rw [List.drop_zero, hd] at hloop
    by_cases c2 : (s.size : Int) > 1
    · rw [if_pos c2, if_pos (by omega), hb, impl_ParseInt.Lj0_eq]
      by_cases c3 : (c.toNat : Int) = 48
      · rw [if_pos (by rw [c3]; rfl), if_pos ⟨by omega, c3⟩]
      · rw [if_neg (by simpa using c3), if_neg (fun h => c3 h.2)]
        exact hloop
    · rw [if_neg c2, impl_ParseInt.Lj0_eq, if_neg (by decide), if_neg (fun h => by omega)]
      exact hloop

end Go.Proofs.Ytoonbcdkbdedkaa.G

set_option linter.unusedVariables false
set_option linter.unusedSimpArgs false
set_option maxRecDepth 100000
namespace Go.Proofs.Ytoonbcdkbdedkaa.G
open Go.RowKit Go.Proofs.YtoonbcdkbdedkaaW.PrintWords Go.Proofs.YtoonbcdkbdedkaaW.PrintLast Go.Proofs.YtoonbcdkbdedkaaW.PrintMore Go.Proofs.Ytoonbcdkbdedkaa.Lim Go.Proofs.Ytoonbcdkbdedkaa.Open
noncomputable def impl_ParseRef.Lj0 (x0 : ByteArray) (x18 : Bool) : Option (Int × Bool) := lim (fun k => impl_ParseRef.j0 k x0 x18)
theorem impl_ParseRef.Lj0_lm (x0 : ByteArray) (x18 : Bool) : Lm (fun k => impl_ParseRef.j0 k x0 x18) (impl_ParseRef.Lj0 x0 x18) := Lm.of (fun k => impl_ParseRef.mono_l k x0 x18)
noncomputable def impl_ParseRef.L (a0 : ByteArray) : Option (Int × Bool) := lim (fun k => impl_ParseRef.f k a0)
theorem impl_ParseRef.L_lm (a0 : ByteArray) : Lm (fun k => impl_ParseRef.f k a0) (impl_ParseRef.L a0) := Lm.of (fun k => impl_ParseRef.mono a0 k)
theorem impl_ParseRef.Lj0_eq (x0 : ByteArray) (x18 : Bool) : impl_ParseRef.Lj0 x0 x18 = (if x18 = true then (some ((-1), false)) else (if 1 ≤ (x0.size : Int) then ((impl_ParseInt.L (x0.extract 1 x0.size)).bind fun bt124 => (if bt124.2 = true then (if bt124.1 ≥ 21 then (some ((-1), false)) else (if 0 < (x0.size : Int) then (some (wrap64 ((wrap64 (bt124.1 * 21)) + (((bt x0 0) - 97) % 256)), true)) else (none))) else (some ((-1), false)))) else (none)) : Option (Int × Bool)) := by
  refine (impl_ParseRef.Lj0_lm x0 x18).eq (Lm.step (impl_ParseRef.Lj0_lm x0 x18).mono ?_)
  show Lm (fun k => (if x18 = true then (some ((-1), false)) else (if 1 ≤ (x0.size : Int) then ((impl_ParseInt.f k (x0.extract 1 x0.size)).bind fun bt124 => (if bt124.2 = true then (if bt124.1 ≥ 21 then (some ((-1), false)) else (if 0 < (x0.size : Int) then (some (wrap64 ((wrap64 (bt124.1 * 21)) + (((bt x0 0) - 97) % 256)), true)) else (none))) else (some ((-1), false)))) else (none)) : Option (Int × Bool))) _
  repeat' first
  | (with_reducible exact impl_ParseInt.L_lm _)
  | (with_reducible exact Lm.now _)
  | (with_reducible refine Lm.ite ?_ ?_)
  | (with_reducible refine Lm.bind ?_ (fun _ => ?_))
  | exact impl_ParseInt.L_lm _
  | exact Lm.now _
  | refine Lm.ite ?_ ?_
  | refine Lm.bind ?_ (fun _ => ?_)
theorem impl_ParseRef.L_eq (a0 : ByteArray) : impl_ParseRef.L a0 = (if (a0.size : Int) < 2 then (impl_ParseRef.Lj0 a0 true) else (if 0 < (a0.size : Int) then (if (bt a0 0) < 97 then (impl_ParseRef.Lj0 a0 true) else (impl_ParseRef.Lj0 a0 (decide ((bt a0 0) > 117)))) else (none)) : Option (Int × Bool)) := by
  refine (impl_ParseRef.L_lm a0).eq ?_
  show Lm (fun k => (if (a0.size : Int) < 2 then (impl_ParseRef.j0 k a0 true) else (if 0 < (a0.size : Int) then (if (bt a0 0) < 97 then (impl_ParseRef.j0 k a0 true) else (impl_ParseRef.j0 k a0 (decide ((bt a0 0) > 117)))) else (none)) : Option (Int × Bool))) _
  repeat' first
  | (with_reducible exact impl_ParseRef.Lj0_lm _ _)
  | (with_reducible exact Lm.now _)
  | (with_reducible refine Lm.ite ?_ ?_)
  | (with_reducible refine Lm.bind ?_ (fun _ => ?_))
  | exact impl_ParseRef.Lj0_lm _ _
  | exact Lm.now _
  | refine Lm.ite ?_ ?_
  | refine Lm.bind ?_ (fun _ => ?_)
/- needs: ParseRef -/
theorem impl_ParseRef.R (s : ByteArray) (h : s.size ≤ 9223372036854775807) : impl_ParseRef.L s = some (M_ParseRef s.data.toList) := by
  have hl : s.data.toList.length = s.size := Array.length_toList
  rw [impl_ParseRef.L_eq]
  unfold M_ParseRef
  match hd : s.data.toList with
  | [] =>
    rw [hd] at hl
    rw [if_pos (by simp at hl; omega), impl_ParseRef.Lj0_eq, if_pos rfl]
  | c :: r =>
    rw [hd] at hl
    simp only [List.length_cons] at hl
    by_cases c0 : r.length = 0
    · rw [if_pos (by omega), impl_ParseRef.Lj0_eq, if_pos rfl]
      simp only []
      rw [if_pos c0]
    have hb : bt s 0 = (c.toNat : Int) := bt_of (i := 0) (by rw [hd]; rfl)
    have ex : (s.extract 1 s.size).data.toList = r := by
      have := congrArg List.tail hd
      simp only [List.tail_cons] at this
      rw [← this]
      simp [ByteArray.data_extract]
      rw [List.take_of_length_le (by rw [List.length_tail, hd, List.length_cons]; omega)]
    have hx : (s.extract 1 s.size).size = s.size - 1 := by simp
    rw [if_neg (by omega), if_pos (by omega), hb]
    simp only []
    rw [if_neg c0]
    by_cases c1 : (c.toNat : Int) < 97
    · rw [if_pos c1, if_pos c1, impl_ParseRef.Lj0_eq, if_pos rfl]
    rw [if_neg c1, if_neg c1, impl_ParseRef.Lj0_eq]
    by_cases c2 : (c.toNat : Int) > 117
    · rw [if_pos c2, if_pos (decide_eq_true c2)]
    rw [if_neg c2, if_neg (by simpa using c2), if_pos (by omega), impl_ParseInt.R _ (by omega), Option.bind_some, ex]
    by_cases c3 : (M_ParseInt r).2 = true
    · rw [if_pos c3, if_pos c3]
      have hr := M_ParseInt_range (l := r) (n := (M_ParseInt r).1) (b := (M_ParseInt r).2) rfl
      by_cases c4 : (M_ParseInt r).1 ≥ 21
      · rw [if_pos c4, if_pos c4]
      rw [if_neg c4, if_neg c4, if_pos (by omega), hb]
      have hc : c.toNat < 256 := c.toNat_lt
      congr 2
      rw [wrap_id (x := (M_ParseInt r).1 * 21) (by omega) (by omega)]
      exact (wrap_id (by omega) (by omega)).trans (by omega)
    · rw [if_neg c3, if_neg c3]

end Go.Proofs.Ytoonbcdkbdedkaa.G

set_option linter.unusedVariables false
set_option linter.unusedSimpArgs false
set_option maxRecDepth 100000
namespace Go.Proofs.Ytoonbcdkbdedkaa.G
open Go.RowKit Go.Proofs.YtoonbcdkbdedkaaW.PrintWords Go.Proofs.YtoonbcdkbdedkaaW.PrintLast Go.Proofs.YtoonbcdkbdedkaaW.PrintMore Go.Proofs.Ytoonbcdkbdedkaa.Lim Go.Proofs.Ytoonbcdkbdedkaa.Open
noncomputable def laws_FnExactParseRef.L (a0 : ByteArray) : Option (Bool) := lim (fun k => laws_FnExactParseRef.f k a0)
theorem laws_FnExactParseRef.L_lm (a0 : ByteArray) : Lm (fun k => laws_FnExactParseRef.f k a0) (laws_FnExactParseRef.L a0) := Lm.of (fun k => laws_FnExactParseRef.mono a0 k)
theorem laws_FnExactParseRef.L_eq (a0 : ByteArray) : laws_FnExactParseRef.L a0 = (if (a0.size : Int) > 1048576 then (some true) else ((spec_ParseRef.L a0).bind fun bt126 => ((impl_ParseRef.L a0).bind fun bt128 => (if bt128.1 = bt126.1 then (if (bt128.2 != bt126.2) = true then (some false) else (some true)) else (some false)))) : Option (Bool)) := by
  refine (laws_FnExactParseRef.L_lm a0).eq ?_
  show Lm (fun k => (if (a0.size : Int) > 1048576 then (some true) else ((spec_ParseRef.f k a0).bind fun bt126 => ((impl_ParseRef.f k a0).bind fun bt128 => (if bt128.1 = bt126.1 then (if (bt128.2 != bt126.2) = true then (some false) else (some true)) else (some false)))) : Option (Bool))) _
  repeat' first
  | (with_reducible exact impl_ParseRef.L_lm _)
  | (with_reducible exact spec_ParseRef.L_lm _)
  | (with_reducible exact Lm.now _)
  | (with_reducible refine Lm.ite ?_ ?_)
  | (with_reducible refine Lm.bind ?_ (fun _ => ?_))
  | exact impl_ParseRef.L_lm _
  | exact spec_ParseRef.L_lm _
  | exact Lm.now _
  | refine Lm.ite ?_ ?_
  | refine Lm.bind ?_ (fun _ => ?_)
/- needs: -/
theorem laws_FnExactParseRef.pure (a0 : ByteArray) (w0 : a0.size ≤ 9223372036854775807) : ∃ k, laws_FnExactParseRef.f k a0 = some true := by
  refine (laws_FnExactParseRef.L_lm a0).rounds ?_
  rw [laws_FnExactParseRef.L_eq]
  by_cases big : (a0.size : Int) > 1048576
  · rw [if_pos big]
  rw [if_neg big, spec_ParseRef.R, Option.bind_some, impl_ParseRef.R _ w0, Option.bind_some, if_pos rfl, if_neg (by simp)]

end Go.Proofs.Ytoonbcdkbdedkaa.G
