/- A part of the proof of the statement 'FnExactIsLadder': for every input the law returns true and leaves its arguments as they were. No condition beyond the statement's own. The walks' text was written by a program of this claim, out of the program's own print. -/
import Derived.Test.YtoonbcdkbdedkaaWWords
import Derived.Deep.Slices
import Derived.Deep.Fields
import Derived.WideShapes
import Derived.Test.YtoonbcdkbdedkaaKFnExactIsLadderg2
set_option linter.unusedVariables false
namespace Go.Proofs.Ytoonbcdkbdedkaa.Lim
open Go.RowKit Go.Proofs.YtoonbcdkbdedkaaW.PrintWords
/-- x is what g comes to. -/
structure Lm {α : Type} (g : Nat → Option α) (x : Option α) : Prop where
  mono : ∀ k, LeO (g k) (g (k + 1))
  at' : ∀ r, x = some r ↔ ∃ k, g k = some r
open Classical in
noncomputable def lim {α : Type} (g : Nat → Option α) : Option α := if h : ∃ r k, g k = some r then some h.choose else none
theorem Lm.of {α : Type} {g : Nat → Option α} (h : ∀ k, LeO (g k) (g (k + 1))) : Lm g (lim g) := by
  refine ⟨h, fun r => ?_⟩
  unfold lim
  split
  · rename_i h1
    obtain ⟨k1, hk1⟩ := h1.choose_spec
    constructor
    · intro e
      cases e
      exact ⟨k1, hk1⟩
    · rintro ⟨k, hk⟩
      have a := at_rounds h (Nat.le_max_left k k1) hk
      have b := at_rounds h (Nat.le_max_right k k1) hk1
      rw [b] at a
      exact a
  · rename_i h1
    constructor
    · intro e; cases e
    · intro e; exact absurd ⟨r, e⟩ h1
theorem Lm.eq {α : Type} {g : Nat → Option α} {x y : Option α} (h : Lm g x) (k : Lm g y) : x = y := by
  cases hx : x with
  | some r => exact ((k.at' r).2 ((h.at' r).1 hx)).symm
  | none =>
    cases hy : y with
    | none => rfl
    | some r => rw [(h.at' r).2 ((k.at' r).1 hy)] at hx; cases hx
theorem Lm.lim {α : Type} {g : Nat → Option α} {x : Option α} (h : Lm g x) : lim g = x := (Lm.of h.mono).eq h
theorem Lm.rounds {α : Type} {g : Nat → Option α} {x : Option α} {r : α} (h : Lm g x) (e : x = some r) : ∃ k, g k = some r := (h.at' r).1 e
theorem Lm.now {α : Type} (x : Option α) : Lm (fun _ => x) x := ⟨fun _ => LeO.refl _, fun r => ⟨fun h => ⟨0, h⟩, fun ⟨_, h⟩ => h⟩⟩
theorem Lm.step {α : Type} {g : Nat → Option α} {x : Option α} (hm : ∀ k, LeO (g k) (g (k + 1))) (h : Lm (fun k => g (k + 1)) x) : Lm g x :=
  ⟨hm, fun r => (h.at' r).trans ⟨fun ⟨k, hk⟩ => ⟨k + 1, hk⟩, fun ⟨k, hk⟩ => ⟨k, hm k r hk⟩⟩⟩
theorem Lm.ite {α : Type} {c : Prop} [Decidable c] {a b : Nat → Option α} {x y : Option α} (h : Lm a x) (k : Lm b y) : Lm (fun n => if c then a n else b n) (if c then x else y) := by
  split
  · exact h
  · exact k
theorem Lm.bind {α β : Type} {g : Nat → Option α} {f : Nat → α → Option β} {x : Option α} {F : α → Option β} (h : Lm g x) (k : ∀ a, Lm (fun n => f n a) (F a)) : Lm (fun n => (g n).bind (f n)) (x.bind F) := by
  refine ⟨fun n => LeO.bind (h.mono n) (fun a => (k a).mono n), fun r => ?_⟩
  rw [Option.bind_eq_some_iff]
  constructor
  · rintro ⟨a, ha, hr⟩
    obtain ⟨n, hn⟩ := (h.at' a).1 ha
    obtain ⟨m, hm⟩ := ((k a).at' r).1 hr
    refine ⟨max n m, Option.bind_eq_some_iff.2 ⟨a, at_rounds h.mono (Nat.le_max_left _ _) hn, at_rounds (k a).mono (Nat.le_max_right _ _) hm⟩⟩
  · rintro ⟨n, hn⟩
    obtain ⟨a, ha, hr⟩ := Option.bind_eq_some_iff.1 hn
    exact ⟨a, (h.at' a).2 ⟨n, ha⟩, ((k a).at' r).2 ⟨n, hr⟩⟩
end Go.Proofs.Ytoonbcdkbdedkaa.Lim

set_option linter.unusedVariables false
namespace Go.Proofs.Ytoonbcdkbdedkaa.Open
open Go.ChangeShapes Go.WideShapes Go.RowKit Go.Deep Go.Proofs.YtoonbcdkbdedkaaW.PrintWords

/-- Whatever reads as data at a type is of this kind (and meets 'ok'). -/
def Opens (P : Program) (t : TypeId) {α : Type} (d : Kd α) (ok : α → Prop) : Prop :=
  ∀ (H : Type) (enc : TypeId × Value → H) (w : World) (base : Nat) (spare : Nat → Bool) (held : Bool) (fuel : Nat) (cs : List Value) (x : DataW H × List MemPlace),
    DataW.trod enc P w base spare held fuel t cs = some x → ∃ a, d.K w a cs ∧ ok a
theorem Opens.int {P : Program} {t : TypeId} {k : IntKind} (ht : P.underlying t = some (.int k)) : Opens P t (Kd.int k) (fun n => (Lit.int k n).wf = true) := by
  intro H enc w base spare held fuel cs x h
  obtain ⟨n, rfl, _, hw⟩ := DataW.trod_int ht h
  exact ⟨n, rfl, hw⟩
theorem Opens.bool {P : Program} {t : TypeId} (ht : P.underlying t = some .bool) : Opens P t Kd.bool (fun _ => True) := by
  intro H enc w base spare held fuel cs x h
  obtain ⟨n, rfl, _⟩ := DataW.trod_bool ht h
  exact ⟨n, rfl, trivial⟩
theorem Opens.string {P : Program} {t : TypeId} (ht : P.underlying t = some .string) : Opens P t Kd.string (fun s => s.size ≤ 9223372036854775807) := by
  intro H enc w base spare held fuel cs x h
  obtain ⟨n, rfl, _, hs⟩ := DataW.trod_string ht h
  exact ⟨n, rfl, by unfold maxLen at hs; simpa using hs⟩
theorem Opens.slice {P : Program} {t e : TypeId} {α : Type} {d : Kd α} {ok : α → Prop} (ht : P.underlying t = some (.slice e)) (hc : P.cellsOf e = d.sz) (h : Opens P e d ok) :
    Opens P t (Kd.slice e d) (fun xs => xs.length ≤ 9223372036854775807 ∧ ∀ x ∈ xs, ok x) := by
  intro H enc w base spare held fuel cs x hx
  rcases open_slice ht hx with ⟨rfl, _⟩ | ⟨a, len, cap, m, n, D, Pl, rfl, hb, hl, hm, hmm, _, hi⟩
  · exact ⟨[], ⟨none, 0, rfl, Nat.le_refl _, rfl, by simp, fun h => by simp at h⟩, by simp, by simp⟩
  · have hlm : len ≤ m := by rw [hmm]; split <;> omega
    unfold maxLen at hm
    have hm' : cap ≤ 9223372036854775807 := by simpa using hm
    have each : ∀ i : Fin len, ∃ y cs', w.cells? base (a.add (i.1 * P.cellsOf e)) (P.cellsOf e) = some cs' ∧ d.K w y cs' ∧ ok y := by
      intro i
      obtain ⟨cs', hcs, htr⟩ := hi i.1 (Nat.lt_of_lt_of_le i.2 hlm)
      obtain ⟨y, hk, ho⟩ := h H enc w base spare held n cs' _ htr
      exact ⟨y, cs', hcs, hk, ho⟩
    obtain ⟨f, hf⟩ := Classical.axiomOfChoice each
    refine ⟨List.ofFn f, ⟨some a, cap, by simp, by simpa using hl, by simp, by simp; omega, fun _ => ⟨a, rfl, ?_⟩⟩, by simp; omega, ?_⟩
    · intro j p hj
      have hjl : j < len := by
        have := (List.getElem?_eq_some_iff.1 hj).1
        simpa using this
      have hp : p = f ⟨j, hjl⟩ := by
        rw [List.getElem?_ofFn, dif_pos hjl] at hj
        exact (Option.some.inj hj).symm
      obtain ⟨cs', hcs, hk, _⟩ := hf ⟨j, hjl⟩
      refine ⟨cs', d.K_len hk, by rw [hp]; exact hk, fun i u hu => ?_⟩
      obtain ⟨_, hcl, hat⟩ := World.cells?_some hcs
      have hil : i < P.cellsOf e := by
        have := (List.getElem?_eq_some_iff.1 hu).1
        omega
      have := hat i hil
      rw [hu] at this
      rw [← Go.Deep.add_add, ← hc]
      exact this
    · intro y hy
      obtain ⟨i, hi'⟩ := List.getElem?_of_mem hy
      have hil : i < len := by
        have := (List.getElem?_eq_some_iff.1 hi').1
        simpa using this
      rw [List.getElem?_ofFn, dif_pos hil] at hi'
      obtain ⟨_, _, _, ho⟩ := hf ⟨i, hil⟩
      rw [← Option.some.inj hi']
      exact ho
/-- A struct's fields from a place on. -/
def OpensAt (P : Program) (total off : Nat) (fs : List Field) {α : Type} (d : Kd α) (ok : α → Prop) : Prop :=
  ∀ (H : Type) (enc : TypeId × Value → H) (w : World) (base : Nat) (spare : Nat → Bool) (held : Bool) (n : Nat) (cs : List Value), cs.length = total →
    (∀ f ∈ fs, ∃ y, DataW.trod enc P w base spare held n f.type ((cs.drop f.offset).take (P.cellsOf f.type)) = some y) → ∃ a, d.K w a (cs.drop off) ∧ ok a
theorem OpensAt.last {P : Program} {total off : Nat} {f : Field} {α : Type} {d : Kd α} {ok : α → Prop} (ho : f.offset = off) (hl : total = off + P.cellsOf f.type) (h : Opens P f.type d ok) : OpensAt P total off [f] d ok := by
  intro H enc w base spare held n cs hlen hf
  obtain ⟨y, hy⟩ := hf f (by simp)
  rw [ho, List.take_of_length_le (by rw [List.length_drop]; omega)] at hy
  exact h H enc w base spare held n _ y hy
theorem OpensAt.cons {P : Program} {total off : Nat} {f : Field} {fs : List Field} {α β : Type} {d : Kd α} {d' : Kd β} {ok : α → Prop} {ok' : β → Prop} (ho : f.offset = off) (h : Opens P f.type d ok)
    (h' : OpensAt P total (off + P.cellsOf f.type) fs d' ok') : OpensAt P total off (f :: fs) (Kd.pair d d') (fun x => ok x.1 ∧ ok' x.2) := by
  intro H enc w base spare held n cs hlen hf
  obtain ⟨y, hy⟩ := hf f (by simp)
  rw [ho] at hy
  obtain ⟨a, ha, hoa⟩ := h H enc w base spare held n _ y hy
  obtain ⟨b, hb, hob⟩ := h' H enc w base spare held n cs hlen (fun g hg => hf g (List.mem_cons_of_mem _ hg))
  exact ⟨(a, b), ⟨_, _, by rw [← List.drop_drop]; exact (List.take_append_drop (P.cellsOf f.type) (cs.drop off)).symm, ha, hb⟩, hoa, hob⟩
theorem Opens.struct {P : Program} {t : TypeId} {fs : Array Field} {α β : Type} {d : Kd α} {ok : α → Prop} (f : β → α) (g : α → β) (hfg : ∀ a, f (g a) = a) (ht : P.underlying t = some (.struct fs))
    (h : OpensAt P (P.cellsOf t) 0 fs.toList d ok) : Opens P t (Kd.iso d f) (fun y => ok (f y)) := by
  intro H enc w base spare held fuel cs x hx
  obtain ⟨xs, n, _, _, hlen, hxl, hg⟩ := DataW.trod_struct ht hx
  obtain ⟨a, ha, hoa⟩ := h H enc w base spare held n cs hlen (fun f hf => by
    obtain ⟨i, hi⟩ := List.getElem?_of_mem hf
    have hi' : fs[i]? = some f := by simpa using hi
    have := hg i f hi'
    have hil : i < xs.length := by
      have := (Array.getElem?_eq_some_iff.1 hi').1
      omega
    exact ⟨_, this.trans (List.getElem?_eq_getElem hil)⟩)
  refine ⟨g a, ?_, ?_⟩
  · show d.K w (f (g a)) cs
    rw [hfg]
    simpa using ha
  · show ok (f (g a))
    rw [hfg]
    exact hoa
theorem Opens.mono {P : Program} {t : TypeId} {α : Type} {d : Kd α} {ok ok' : α → Prop} (h : Opens P t d ok) (hm : ∀ a, ok a → ok' a) : Opens P t d ok' := by
  intro H enc w base spare held fuel cs x hx
  obtain ⟨a, ha, ho⟩ := h H enc w base spare held fuel cs x hx
  exact ⟨a, ha, hm a ho⟩
/-- A slice that came in. -/
theorem Opens.row {P : Program} {t e : TypeId} {α : Type} {d : Kd α} {ok : α → Prop} (ht : P.underlying t = some (.slice e)) (hc : P.cellsOf e = d.sz) (h : Opens P e d ok) {H : Type} {enc : TypeId × Value → H} {w : World} {base : Nat} {spare : Nat → Bool} {held : Bool}
    {A : Option Addr} {len cap : Nat} {x : DataW H} {ps : List MemPlace} (hx : DataW.Trod enc P w base spare held t (.slice A len cap) x ps) :
    ∃ xs : List α, len = xs.length ∧ d.C w A xs.length xs ∧ xs.length ≤ cap ∧ xs.length ≤ 9223372036854775807 ∧ ∀ y ∈ xs, ok y := by
  obtain ⟨fuel, hf⟩ := hx
  obtain ⟨xs, ⟨A', c', he, hl, hC⟩, h1, h2⟩ := Opens.slice ht hc h H enc w base spare held fuel _ _ hf
  simp only [Value.cells, List.cons.injEq, Value.slice.injEq, and_true] at he
  obtain ⟨rfl, rfl, rfl⟩ := he
  exact ⟨xs, rfl, hC, hl, h1, h2⟩
/-- A struct that came in by value. -/
theorem Opens.agg {P : Program} {t : TypeId} {fs : Array Field} {α : Type} {d : Kd α} {ok : α → Prop} (ht : P.underlying t = some (.struct fs)) (h : Opens P t d ok) {H : Type} {enc : TypeId × Value → H} {w : World} {base : Nat} {spare : Nat → Bool} {held : Bool} {r : Reach} {b0 : Nat}
    {v : Value} {x : DataW H} {ps : List MemPlace} (hv : Value.okWide P w r b0 t v) (hx : DataW.Trod enc P w base spare held t v x ps) : ∃ (y : α) (cs : List Value), v = .agg cs.toArray ∧ d.K w y cs ∧ ok y := by
  obtain ⟨cs, rfl, _⟩ := okWide_struct ht hv
  obtain ⟨fuel, hf⟩ := hx
  obtain ⟨y, hk, ho⟩ := h H enc w base spare held fuel _ _ hf
  exact ⟨y, cs.toList, by simp, by simpa [Value.cells] using hk, ho⟩
end Go.Proofs.Ytoonbcdkbdedkaa.Open

set_option linter.unusedVariables false
set_option linter.unusedSimpArgs false
set_option maxRecDepth 100000
namespace Go.Proofs.Ytoonbcdkbdedkaa.G
open Go.RowKit Go.Proofs.YtoonbcdkbdedkaaW.PrintWords Go.Proofs.YtoonbcdkbdedkaaW.PrintLast Go.Proofs.YtoonbcdkbdedkaaW.PrintMore Go.Proofs.Ytoonbcdkbdedkaa.Lim Go.Proofs.Ytoonbcdkbdedkaa.Open
/- needs: -/
/-! plain laws on numbers and lists -/
theorem wrap_id {x : Int} (h0 : -9223372036854775808 ≤ x) (h1 : x ≤ 9223372036854775807) : wrap64 x = x := by unfold wrap64; omega
theorem wrap_up (i : Nat) (h : i + 1 ≤ 9223372036854775807) : wrap64 ((i : Int) + 1) = ((i + 1 : Nat) : Int) := by unfold wrap64; omega
theorem wf_i64 {x : Int} (h : (Lit.int .i64 x).wf = true) : -9223372036854775808 ≤ x ∧ x ≤ 9223372036854775807 := by
  have e : (-9223372036854775808 ≤ x ∧ x ≤ 9223372036854775807) = (IntKind.min .i64 ≤ x ∧ x ≤ IntKind.max .i64) := rfl
  rw [e]
  simpa [Lit.wf] using h
theorem getD_of {α : Type} {l : List α} {i : Nat} {x d : α} (h : l[i]? = some x) : l.getD i d = x := by simp [List.getD, h]
theorem getD_int {α : Type} {l : List α} {i : Nat} {x d : α} (h : l[i]? = some x) : l.getD (i : Int).toNat d = x := by simp [List.getD, h]
theorem rd_at {l : List Int} {i : Nat} {x : Int} (h : l[i]? = some x) : rd l (i : Int) = x := getD_int h
theorem rdOf_at {α : Type} {l : List α} {i : Nat} {x d : α} (h : l[i]? = some x) : rdOf d l (i : Int) = x := getD_int h
theorem drop_at {α : Type} {l : List α} {i : Nat} (h : i < l.length) : ∃ x, l[i]? = some x ∧ l.drop i = x :: l.drop (i + 1) := ⟨l[i], List.getElem?_eq_getElem h, by rw [List.drop_eq_getElem_cons h]⟩
/-- A loop over the indices of a list: what it comes to is told by G on what is left. -/
theorem loop_drop {σ ρ α : Type} (l : List α) (F : σ → Int → Option ρ) (G : σ → List α → ρ) (Inv : σ → Nat → Prop)
    (hend : ∀ s, Inv s l.length → F s (l.length : Int) = some (G s []))
    (hstep : ∀ s (i : Nat) x, Inv s i → i < l.length → l[i]? = some x →
      (F s (i : Int) = some (G s (x :: l.drop (i + 1)))) ∨ ∃ s', Inv s' (i + 1) ∧ F s (i : Int) = F s' ((i + 1 : Nat) : Int) ∧ G s (x :: l.drop (i + 1)) = G s' (l.drop (i + 1))) :
    ∀ (s : σ) (i : Nat), i ≤ l.length → Inv s i → F s (i : Int) = some (G s (l.drop i)) := by
  have key : ∀ (d : Nat) (s : σ) (i : Nat), l.length - i = d → i ≤ l.length → Inv s i → F s (i : Int) = some (G s (l.drop i)) := by
    intro d
    induction d with
    | zero =>
      intro s i hd hi hs
      have : i = l.length := by omega
      subst this
      rw [List.drop_length]
      exact hend s hs
    | succ d ih =>
      intro s i hd hi hs
      have hlt : i < l.length := by omega
      obtain ⟨x, hx, hdr⟩ := drop_at hlt
      rw [hdr]
      rcases hstep s i x hs hlt hx with h | ⟨s', hs', h1, h2⟩
      · exact h
      · rw [h1, h2]
        exact ih s' (i + 1) (by omega) (by omega) hs'
  exact fun s i => key _ s i rfl
theorem sum_mem {α : Type} {f : α → Nat} {l : List α} {x : α} (h : x ∈ l) : f x ≤ (l.map f).sum := by
  induction l with
  | nil => simp at h
  | cons y l ih =>
    rcases List.mem_cons.1 h with rfl | h
    · simp
    · have := ih h
      simp only [List.map_cons, List.sum_cons]
      omega
theorem fill_step {α β : Type} (l : List α) (f : α → β) (s : List β) (i : Nat) (x : α) (hx : l[i]? = some x) (hs : s.length = l.length) (ht : s.take i = (l.map f).take i) : (s.set i (f x)).take (i + 1) = (l.map f).take (i + 1) := by
  have hi : i < l.length := (List.getElem?_eq_some_iff.1 hx).1
  have e1 : (s.set i (f x)).take i = (l.map f).take i := by rw [List.take_set_of_le (Nat.le_refl _)]; exact ht
  rw [List.take_add_one, List.take_add_one, e1]
  congr 1
  rw [List.getElem?_set_self (by omega), List.getElem?_map, hx]
  rfl
theorem down_ind {n : Nat} {P : Nat → Prop} (hend : P n) (hstep : ∀ i, i < n → P (i + 1) → P i) : ∀ i, i ≤ n → P i := by
  have key : ∀ d i, n - i = d → i ≤ n → P i := by
    intro d
    induction d with
    | zero =>
      intro i h hi
      have e : i = n := by omega
      rw [e]
      exact hend
    | succ d ih => intro i h hi; exact hstep i (by omega) (ih (i + 1) (by omega) (by omega))
  exact fun i => key _ i rfl
theorem get_at {α : Type} {l : List α} {i : Nat} (h : i < l.length) : ∃ x, l[i]? = some x ∧ x ∈ l := ⟨l[i], List.getElem?_eq_getElem h, List.getElem_mem h⟩
theorem wrap_down (i : Nat) (h : 0 < i) (hi : i ≤ 9223372036854775807) : wrap64 ((i : Int) - 1) = ((i - 1 : Nat) : Int) := by unfold wrap64; omega
theorem bind_eq {α β : Type} {x : Option α} {a : α} {f : α → Option β} (h : x = some a) : x.bind f = f a := by rw [h]; rfl
theorem set_mid {α : Type} (d r : List α) (x v : α) : (d ++ x :: r).set ((d.length : Nat) : Int).toNat v = d ++ v :: r := by
  rw [Int.toNat_natCast, List.set_append_right _ _ (Nat.le_refl _), Nat.sub_self]
  rfl
theorem getD_mid {α : Type} (d r : List α) (x z : α) : (d ++ x :: r).getD ((d.length : Nat) : Int).toNat z = x := by simp [List.getD]
theorem app_one {α : Type} (d r : List α) (x : α) : d ++ x :: r = (d ++ [x]) ++ r := by simp

end Go.Proofs.Ytoonbcdkbdedkaa.G

set_option linter.unusedVariables false
set_option linter.unusedSimpArgs false
set_option maxRecDepth 100000
namespace Go.Proofs.Ytoonbcdkbdedkaa.G
open Go.RowKit Go.Proofs.YtoonbcdkbdedkaaW.PrintWords Go.Proofs.YtoonbcdkbdedkaaW.PrintLast Go.Proofs.YtoonbcdkbdedkaaW.PrintMore Go.Proofs.Ytoonbcdkbdedkaa.Lim Go.Proofs.Ytoonbcdkbdedkaa.Open
/-! laws.Reason -/
theorem rd95_at {l : List S95} {i : Nat} {x : S95} (h : l[i]? = some x) : rd_T95 l (i : Int) = x := getD_int h
def ok95 (y : S95) : Prop := (Lit.int .i64 y.f0).wf = true ∧ (Lit.int .i64 y.f1).wf = true ∧ (Lit.int .i64 y.f2).wf = true
theorem opens95 : Opens Try.prog 95 k95 ok95 := Opens.struct (fun x : S95 => (x.f0, x.f1, x.f2)) (fun a => ⟨a.1, a.2.1, a.2.2⟩) (fun _ => rfl) Try.underlying95 (OpensAt.cons (by kernel_rfl) (Opens.int Try.underlying3) (OpensAt.cons (by kernel_rfl) (Opens.int Try.underlying3) (OpensAt.last (by kernel_rfl) (by kernel_rfl) (Opens.int Try.underlying3))))
/-! impl.Reason -/
theorem rd93_at {l : List S93} {i : Nat} {x : S93} (h : l[i]? = some x) : rd_T93 l (i : Int) = x := getD_int h
def ok93 (y : S93) : Prop := (Lit.int .i64 y.f0).wf = true ∧ (Lit.int .i64 y.f1).wf = true ∧ (Lit.int .i64 y.f2).wf = true
theorem opens93 : Opens Try.prog 93 k93 ok93 := Opens.struct (fun x : S93 => (x.f0, x.f1, x.f2)) (fun a => ⟨a.1, a.2.1, a.2.2⟩) (fun _ => rfl) Try.underlying93 (OpensAt.cons (by kernel_rfl) (Opens.int Try.underlying3) (OpensAt.cons (by kernel_rfl) (Opens.int Try.underlying3) (OpensAt.last (by kernel_rfl) (by kernel_rfl) (Opens.int Try.underlying3))))
/-! laws.Level -/
theorem rd101_at {l : List S101} {i : Nat} {x : S101} (h : l[i]? = some x) : rd_T101 l (i : Int) = x := getD_int h
def ok101 (y : S101) : Prop := (Lit.int .i64 y.f0).wf = true ∧ (Lit.int .i64 y.f1).wf = true ∧ (Lit.int .i64 y.f2).wf = true
theorem opens101 : Opens Try.prog 101 k101 ok101 := Opens.struct (fun x : S101 => (x.f0, x.f1, x.f2)) (fun a => ⟨a.1, a.2.1, a.2.2⟩) (fun _ => rfl) Try.underlying101 (OpensAt.cons (by kernel_rfl) (Opens.int Try.underlying3) (OpensAt.cons (by kernel_rfl) (Opens.int Try.underlying3) (OpensAt.last (by kernel_rfl) (by kernel_rfl) (Opens.int Try.underlying3))))
/-! impl.Level -/
theorem rd99_at {l : List S99} {i : Nat} {x : S99} (h : l[i]? = some x) : rd_T99 l (i : Int) = x := getD_int h
def ok99 (y : S99) : Prop := (Lit.int .i64 y.f0).wf = true ∧ (Lit.int .i64 y.f1).wf = true ∧ (Lit.int .i64 y.f2).wf = true
theorem opens99 : Opens Try.prog 99 k99 ok99 := Opens.struct (fun x : S99 => (x.f0, x.f1, x.f2)) (fun a => ⟨a.1, a.2.1, a.2.2⟩) (fun _ => rfl) Try.underlying99 (OpensAt.cons (by kernel_rfl) (Opens.int Try.underlying3) (OpensAt.cons (by kernel_rfl) (Opens.int Try.underlying3) (OpensAt.last (by kernel_rfl) (by kernel_rfl) (Opens.int Try.underlying3))))
/-! laws.Point -/
theorem rd134_at {l : List S134} {i : Nat} {x : S134} (h : l[i]? = some x) : rd_T134 l (i : Int) = x := getD_int h
def ok134 (y : S134) : Prop := (Lit.int .i64 y.f0).wf = true ∧ (Lit.int .i64 y.f1).wf = true
theorem opens134 : Opens Try.prog 134 k134 ok134 := Opens.struct (fun x : S134 => (x.f0, x.f1)) (fun a => ⟨a.1, a.2⟩) (fun _ => rfl) Try.underlying134 (OpensAt.cons (by kernel_rfl) (Opens.int Try.underlying3) (OpensAt.last (by kernel_rfl) (by kernel_rfl) (Opens.int Try.underlying3)))
/-! impl.Point -/
theorem rd56_at {l : List S56} {i : Nat} {x : S56} (h : l[i]? = some x) : rd_T56 l (i : Int) = x := getD_int h
def ok56 (y : S56) : Prop := (Lit.int .i64 y.f0).wf = true ∧ (Lit.int .i64 y.f1).wf = true
theorem opens56 : Opens Try.prog 56 k56 ok56 := Opens.struct (fun x : S56 => (x.f0, x.f1)) (fun a => ⟨a.1, a.2⟩) (fun _ => rfl) Try.underlying56 (OpensAt.cons (by kernel_rfl) (Opens.int Try.underlying3) (OpensAt.last (by kernel_rfl) (by kernel_rfl) (Opens.int Try.underlying3)))
/-! laws.Listing -/
theorem rd110_at {l : List S110} {i : Nat} {x : S110} (h : l[i]? = some x) : rd_T110 l (i : Int) = x := getD_int h
def ok110 (y : S110) : Prop := y.f0.size ≤ 9223372036854775807 ∧ (Lit.int .i64 y.f1).wf = true ∧ y.f2.size ≤ 9223372036854775807
theorem opens110 : Opens Try.prog 110 k110 ok110 := Opens.struct (fun x : S110 => (x.f0, x.f1, x.f2)) (fun a => ⟨a.1, a.2.1, a.2.2⟩) (fun _ => rfl) Try.underlying110 (OpensAt.cons (by kernel_rfl) (Opens.string Try.underlying9) (OpensAt.cons (by kernel_rfl) (Opens.int Try.underlying3) (OpensAt.last (by kernel_rfl) (by kernel_rfl) (Opens.string Try.underlying9))))
/-! impl.Listing -/
theorem rd111_at {l : List S111} {i : Nat} {x : S111} (h : l[i]? = some x) : rd_T111 l (i : Int) = x := getD_int h
def ok111 (y : S111) : Prop := y.f0.size ≤ 9223372036854775807 ∧ (Lit.int .i64 y.f1).wf = true ∧ y.f2.size ≤ 9223372036854775807
theorem opens111 : Opens Try.prog 111 k111 ok111 := Opens.struct (fun x : S111 => (x.f0, x.f1, x.f2)) (fun a => ⟨a.1, a.2.1, a.2.2⟩) (fun _ => rfl) Try.underlying111 (OpensAt.cons (by kernel_rfl) (Opens.string Try.underlying9) (OpensAt.cons (by kernel_rfl) (Opens.int Try.underlying3) (OpensAt.last (by kernel_rfl) (by kernel_rfl) (Opens.string Try.underlying9))))
/-! laws.Feature -/
theorem rd43_at {l : List S43} {i : Nat} {x : S43} (h : l[i]? = some x) : rd_T43 l (i : Int) = x := getD_int h
def ok43 (y : S43) : Prop := (Lit.int .i64 y.f0).wf = true ∧ (Lit.int .i64 y.f1).wf = true ∧ (Lit.int .i64 y.f2).wf = true ∧ y.f3.size ≤ 9223372036854775807 ∧ (y.f4.length ≤ 9223372036854775807 ∧ ∀ z ∈ y.f4, ok134 z)
theorem opens43 : Opens Try.prog 43 k43 ok43 := Opens.struct (fun x : S43 => (x.f0, x.f1, x.f2, x.f3, x.f4)) (fun a => ⟨a.1, a.2.1, a.2.2.1, a.2.2.2.1, a.2.2.2.2⟩) (fun _ => rfl) Try.underlying43 (OpensAt.cons (by kernel_rfl) (Opens.int Try.underlying3) (OpensAt.cons (by kernel_rfl) (Opens.int Try.underlying3) (OpensAt.cons (by kernel_rfl) (Opens.int Try.underlying3) (OpensAt.cons (by kernel_rfl) (Opens.string Try.underlying9) (OpensAt.last (by kernel_rfl) (by kernel_rfl) (Opens.slice Try.underlying41 (by kernel_rfl) opens134))))))
/-! laws.Edition -/
theorem rd118_at {l : List S118} {i : Nat} {x : S118} (h : l[i]? = some x) : rd_T118 l (i : Int) = x := getD_int h
def ok118 (y : S118) : Prop := (Lit.int .i64 y.f0).wf = true ∧ (y.f1.length ≤ 9223372036854775807 ∧ ∀ z ∈ y.f1, ok43 z) ∧ (Lit.int .i64 y.f2).wf = true
theorem opens118 : Opens Try.prog 118 k118 ok118 := Opens.struct (fun x : S118 => (x.f0, x.f1, x.f2)) (fun a => ⟨a.1, a.2.1, a.2.2⟩) (fun _ => rfl) Try.underlying118 (OpensAt.cons (by kernel_rfl) (Opens.int Try.underlying3) (OpensAt.cons (by kernel_rfl) (Opens.slice Try.underlying116 (by kernel_rfl) opens43) (OpensAt.last (by kernel_rfl) (by kernel_rfl) (Opens.int Try.underlying3))))
/-! impl.Feature -/
theorem rd50_at {l : List S50} {i : Nat} {x : S50} (h : l[i]? = some x) : rd_T50 l (i : Int) = x := getD_int h
def ok50 (y : S50) : Prop := (Lit.int .i64 y.f0).wf = true ∧ (Lit.int .i64 y.f1).wf = true ∧ (Lit.int .i64 y.f2).wf = true ∧ y.f3.size ≤ 9223372036854775807 ∧ (y.f4.length ≤ 9223372036854775807 ∧ ∀ z ∈ y.f4, ok56 z)
theorem opens50 : Opens Try.prog 50 k50 ok50 := Opens.struct (fun x : S50 => (x.f0, x.f1, x.f2, x.f3, x.f4)) (fun a => ⟨a.1, a.2.1, a.2.2.1, a.2.2.2.1, a.2.2.2.2⟩) (fun _ => rfl) Try.underlying50 (OpensAt.cons (by kernel_rfl) (Opens.int Try.underlying3) (OpensAt.cons (by kernel_rfl) (Opens.int Try.underlying3) (OpensAt.cons (by kernel_rfl) (Opens.int Try.underlying3) (OpensAt.cons (by kernel_rfl) (Opens.string Try.underlying9) (OpensAt.last (by kernel_rfl) (by kernel_rfl) (Opens.slice Try.underlying48 (by kernel_rfl) opens56))))))
/-! impl.Edition -/
theorem rd121_at {l : List S121} {i : Nat} {x : S121} (h : l[i]? = some x) : rd_T121 l (i : Int) = x := getD_int h
def ok121 (y : S121) : Prop := (Lit.int .i64 y.f0).wf = true ∧ (y.f1.length ≤ 9223372036854775807 ∧ ∀ z ∈ y.f1, ok50 z) ∧ (Lit.int .i64 y.f2).wf = true
theorem opens121 : Opens Try.prog 121 k121 ok121 := Opens.struct (fun x : S121 => (x.f0, x.f1, x.f2)) (fun a => ⟨a.1, a.2.1, a.2.2⟩) (fun _ => rfl) Try.underlying121 (OpensAt.cons (by kernel_rfl) (Opens.int Try.underlying3) (OpensAt.cons (by kernel_rfl) (Opens.slice Try.underlying119 (by kernel_rfl) opens50) (OpensAt.last (by kernel_rfl) (by kernel_rfl) (Opens.int Try.underlying3))))
/-! laws.Entry -/
theorem rd45_at {l : List S45} {i : Nat} {x : S45} (h : l[i]? = some x) : rd_T45 l (i : Int) = x := getD_int h
def ok45 (y : S45) : Prop := ok43 y.f0 ∧ (Lit.int .i64 y.f1).wf = true ∧ (Lit.int .i64 y.f2).wf = true ∧ True
theorem opens45 : Opens Try.prog 45 k45 ok45 := Opens.struct (fun x : S45 => (x.f0, x.f1, x.f2, x.f3)) (fun a => ⟨a.1, a.2.1, a.2.2.1, a.2.2.2⟩) (fun _ => rfl) Try.underlying45 (OpensAt.cons (by kernel_rfl) opens43 (OpensAt.cons (by kernel_rfl) (Opens.int Try.underlying3) (OpensAt.cons (by kernel_rfl) (Opens.int Try.underlying3) (OpensAt.last (by kernel_rfl) (by kernel_rfl) (Opens.bool Try.underlying4)))))
/-! impl.Entry -/
theorem rd52_at {l : List S52} {i : Nat} {x : S52} (h : l[i]? = some x) : rd_T52 l (i : Int) = x := getD_int h
def ok52 (y : S52) : Prop := ok50 y.f0 ∧ (Lit.int .i64 y.f1).wf = true ∧ (Lit.int .i64 y.f2).wf = true ∧ True
theorem opens52 : Opens Try.prog 52 k52 ok52 := Opens.struct (fun x : S52 => (x.f0, x.f1, x.f2, x.f3)) (fun a => ⟨a.1, a.2.1, a.2.2.1, a.2.2.2⟩) (fun _ => rfl) Try.underlying52 (OpensAt.cons (by kernel_rfl) opens50 (OpensAt.cons (by kernel_rfl) (Opens.int Try.underlying3) (OpensAt.cons (by kernel_rfl) (Opens.int Try.underlying3) (OpensAt.last (by kernel_rfl) (by kernel_rfl) (Opens.bool Try.underlying4)))))
def cv95 (x : S95) : S93 := ⟨x.f0, x.f1, x.f2⟩
def cv101 (x : S101) : S99 := ⟨x.f0, x.f1, x.f2⟩
def cv134 (x : S134) : S56 := ⟨x.f0, x.f1⟩
def cv110 (x : S110) : S111 := ⟨x.f0, x.f1, x.f2⟩
def cv43 (x : S43) : S50 := ⟨x.f0, x.f1, x.f2, x.f3, x.f4.map cv134⟩
def cv118 (x : S118) : S121 := ⟨x.f0, x.f1.map cv43, x.f2⟩
def cv45 (x : S45) : S52 := ⟨cv43 x.f0, x.f1, x.f2, x.f3⟩
def wt95 (x : S95) : Nat := 0
def wtl95 (l : List S95) : Nat := l.length
theorem wtl95_len (l : List S95) : l.length ≤ wtl95 l := Nat.le_refl _
def wt93 (x : S93) : Nat := 0
def wtl93 (l : List S93) : Nat := l.length
theorem wtl93_len (l : List S93) : l.length ≤ wtl93 l := Nat.le_refl _
def wt101 (x : S101) : Nat := 0
def wtl101 (l : List S101) : Nat := l.length
theorem wtl101_len (l : List S101) : l.length ≤ wtl101 l := Nat.le_refl _
def wt99 (x : S99) : Nat := 0
def wtl99 (l : List S99) : Nat := l.length
theorem wtl99_len (l : List S99) : l.length ≤ wtl99 l := Nat.le_refl _
def wt134 (x : S134) : Nat := 0
def wtl134 (l : List S134) : Nat := l.length
theorem wtl134_len (l : List S134) : l.length ≤ wtl134 l := Nat.le_refl _
def wt56 (x : S56) : Nat := 0
def wtl56 (l : List S56) : Nat := l.length
theorem wtl56_len (l : List S56) : l.length ≤ wtl56 l := Nat.le_refl _
def wt110 (x : S110) : Nat := x.f0.size + x.f2.size
def wtl110 (l : List S110) : Nat := l.length + (l.map wt110).sum
theorem wtl110_mem {l : List S110} {x : S110} (h : x ∈ l) : wt110 x ≤ wtl110 l := Nat.le_trans (sum_mem h) (Nat.le_add_left _ _)
theorem wtl110_len (l : List S110) : l.length ≤ wtl110 l := Nat.le_add_right _ _
def wt111 (x : S111) : Nat := x.f0.size + x.f2.size
def wtl111 (l : List S111) : Nat := l.length + (l.map wt111).sum
theorem wtl111_mem {l : List S111} {x : S111} (h : x ∈ l) : wt111 x ≤ wtl111 l := Nat.le_trans (sum_mem h) (Nat.le_add_left _ _)
theorem wtl111_len (l : List S111) : l.length ≤ wtl111 l := Nat.le_add_right _ _
def wt43 (x : S43) : Nat := x.f3.size + wtl134 x.f4
def wtl43 (l : List S43) : Nat := l.length + (l.map wt43).sum
theorem wtl43_mem {l : List S43} {x : S43} (h : x ∈ l) : wt43 x ≤ wtl43 l := Nat.le_trans (sum_mem h) (Nat.le_add_left _ _)
theorem wtl43_len (l : List S43) : l.length ≤ wtl43 l := Nat.le_add_right _ _
def ln43 (x : S43) : Prop := (x.f4.length ≤ 9223372036854775807)
def wt118 (x : S118) : Nat := wtl43 x.f1
def wtl118 (l : List S118) : Nat := l.length + (l.map wt118).sum
theorem wtl118_mem {l : List S118} {x : S118} (h : x ∈ l) : wt118 x ≤ wtl118 l := Nat.le_trans (sum_mem h) (Nat.le_add_left _ _)
theorem wtl118_len (l : List S118) : l.length ≤ wtl118 l := Nat.le_add_right _ _
def ln118 (x : S118) : Prop := (x.f1.length ≤ 9223372036854775807 ∧ ∀ y ∈ x.f1, ln43 y)
def wt50 (x : S50) : Nat := x.f3.size + wtl56 x.f4
def wtl50 (l : List S50) : Nat := l.length + (l.map wt50).sum
theorem wtl50_mem {l : List S50} {x : S50} (h : x ∈ l) : wt50 x ≤ wtl50 l := Nat.le_trans (sum_mem h) (Nat.le_add_left _ _)
theorem wtl50_len (l : List S50) : l.length ≤ wtl50 l := Nat.le_add_right _ _
def ln50 (x : S50) : Prop := (x.f4.length ≤ 9223372036854775807)
def wt121 (x : S121) : Nat := wtl50 x.f1
def wtl121 (l : List S121) : Nat := l.length + (l.map wt121).sum
theorem wtl121_mem {l : List S121} {x : S121} (h : x ∈ l) : wt121 x ≤ wtl121 l := Nat.le_trans (sum_mem h) (Nat.le_add_left _ _)
theorem wtl121_len (l : List S121) : l.length ≤ wtl121 l := Nat.le_add_right _ _
def ln121 (x : S121) : Prop := (x.f1.length ≤ 9223372036854775807 ∧ ∀ y ∈ x.f1, ln50 y)
def wt45 (x : S45) : Nat := wt43 x.f0
def wtl45 (l : List S45) : Nat := l.length + (l.map wt45).sum
theorem wtl45_mem {l : List S45} {x : S45} (h : x ∈ l) : wt45 x ≤ wtl45 l := Nat.le_trans (sum_mem h) (Nat.le_add_left _ _)
theorem wtl45_len (l : List S45) : l.length ≤ wtl45 l := Nat.le_add_right _ _
def ln45 (x : S45) : Prop := ln43 x.f0
def wt52 (x : S52) : Nat := wt50 x.f0
def wtl52 (l : List S52) : Nat := l.length + (l.map wt52).sum
theorem wtl52_mem {l : List S52} {x : S52} (h : x ∈ l) : wt52 x ≤ wtl52 l := Nat.le_trans (sum_mem h) (Nat.le_add_left _ _)
theorem wtl52_len (l : List S52) : l.length ≤ wtl52 l := Nat.le_add_right _ _
def ln52 (x : S52) : Prop := ln50 x.f0
end Go.Proofs.Ytoonbcdkbdedkaa.G

set_option linter.unusedVariables false
set_option linter.unusedSimpArgs false
set_option maxRecDepth 100000
namespace Go.Proofs.Ytoonbcdkbdedkaa.G
open Go.RowKit Go.Proofs.YtoonbcdkbdedkaaW.PrintWords Go.Proofs.YtoonbcdkbdedkaaW.PrintLast Go.Proofs.YtoonbcdkbdedkaaW.PrintMore Go.Proofs.Ytoonbcdkbdedkaa.Lim Go.Proofs.Ytoonbcdkbdedkaa.Open
theorem laws_szLevelS.R (l : List S101) (hl : l.length ≤ 9223372036854775807) (ok : ∀ y ∈ l, ok101 y) (n : Int) (h0 : 0 ≤ n) (h1 : n ≤ 1048576) : laws_szLevelS.f l n = some (if (wtl101 l : Int) ≤ n then n - wtl101 l else -1) := by
  unfold laws_szLevelS.f
  rw [wrap_id (x := n - (l.length : Int)) (by omega) (by omega)]
  unfold wtl101
  by_cases c : n - (l.length : Int) < 0
  · rw [if_pos c, if_neg (by omega)]
  rw [if_neg c]
  rw [if_pos (by omega)]

end Go.Proofs.Ytoonbcdkbdedkaa.G

set_option linter.unusedVariables false
set_option linter.unusedSimpArgs false
set_option maxRecDepth 100000
namespace Go.Proofs.Ytoonbcdkbdedkaa.G
open Go.RowKit Go.Proofs.YtoonbcdkbdedkaaW.PrintWords Go.Proofs.YtoonbcdkbdedkaaW.PrintLast Go.Proofs.YtoonbcdkbdedkaaW.PrintMore Go.Proofs.Ytoonbcdkbdedkaa.Lim Go.Proofs.Ytoonbcdkbdedkaa.Open
theorem laws_toLevel.R (x : S101) : laws_toLevel.f x.f0 x.f1 x.f2 = some ((cv101 x).f0, (cv101 x).f1, (cv101 x).f2) := by
  unfold laws_toLevel.f
  rfl

end Go.Proofs.Ytoonbcdkbdedkaa.G

set_option linter.unusedVariables false
set_option linter.unusedSimpArgs false
set_option maxRecDepth 100000
namespace Go.Proofs.Ytoonbcdkbdedkaa.G
open Go.RowKit Go.Proofs.YtoonbcdkbdedkaaW.PrintWords Go.Proofs.YtoonbcdkbdedkaaW.PrintLast Go.Proofs.YtoonbcdkbdedkaaW.PrintMore Go.Proofs.Ytoonbcdkbdedkaa.Lim Go.Proofs.Ytoonbcdkbdedkaa.Open
noncomputable def laws_toLevelS.Ll0 (x0 : List (S101)) (x3 : List (S99)) (x4 : Int) : Option ((List (S99))) := lim (fun k => laws_toLevelS.l0 k x0 x3 x4)
theorem laws_toLevelS.Ll0_lm (x0 : List (S101)) (x3 : List (S99)) (x4 : Int) : Lm (fun k => laws_toLevelS.l0 k x0 x3 x4) (laws_toLevelS.Ll0 x0 x3 x4) := Lm.of (fun k => laws_toLevelS.mono_l k x0 x3 x4)
noncomputable def laws_toLevelS.L (l0 : List (S101)) : Option ((List (S99))) := lim (fun k => laws_toLevelS.f k l0)
theorem laws_toLevelS.L_lm (l0 : List (S101)) : Lm (fun k => laws_toLevelS.f k l0) (laws_toLevelS.L l0) := Lm.of (fun k => laws_toLevelS.mono l0 k)
theorem laws_toLevelS.Ll0_eq (x0 : List (S101)) (x3 : List (S99)) (x4 : Int) : laws_toLevelS.Ll0 x0 x3 x4 = (if x4 < (x0.length : Int) then (if 0 ≤ x4 then ((laws_toLevel.f ((rd_T101 x0 x4).f0) ((rd_T101 x0 x4).f1) ((rd_T101 x0 x4).f2)).bind fun bt182 => (if x4 < (x3.length : Int) then (laws_toLevelS.Ll0 x0 (x3.set (x4 : Int).toNat (⟨bt182.1, bt182.2.1, bt182.2.2⟩ : S99)) (wrap64 (x4 + 1))) else (none))) else (none)) else (some x3) : Option ((List (S99)))) := by
  refine (laws_toLevelS.Ll0_lm x0 x3 x4).eq (Lm.step (laws_toLevelS.Ll0_lm x0 x3 x4).mono ?_)
  show Lm (fun k => (if x4 < (x0.length : Int) then (if 0 ≤ x4 then ((laws_toLevel.f ((rd_T101 x0 x4).f0) ((rd_T101 x0 x4).f1) ((rd_T101 x0 x4).f2)).bind fun bt182 => (if x4 < (x3.length : Int) then (laws_toLevelS.l0 k x0 (x3.set (x4 : Int).toNat (⟨bt182.1, bt182.2.1, bt182.2.2⟩ : S99)) (wrap64 (x4 + 1))) else (none))) else (none)) else (some x3) : Option ((List (S99))))) _
  repeat' first
  | (with_reducible exact laws_toLevelS.Ll0_lm _ _ _)
  | (with_reducible exact Lm.now _)
  | (with_reducible refine Lm.ite ?_ ?_)
  | (with_reducible refine Lm.bind ?_ (fun _ => ?_))
  | exact laws_toLevelS.Ll0_lm _ _ _
  | exact Lm.now _
  | refine Lm.ite ?_ ?_
  | refine Lm.bind ?_ (fun _ => ?_)
theorem laws_toLevelS.L_eq (l0 : List (S101)) : laws_toLevelS.L l0 = (if 0 ≤ (l0.length : Int) then (if ((l0.length : Int) : Int).toNat ≤ 11728124029610 then (laws_toLevelS.Ll0 l0 (List.replicate ((l0.length : Int) : Int).toNat z99) 0) else (none)) else (none) : Option ((List (S99)))) := by
  refine (laws_toLevelS.L_lm l0).eq ?_
  show Lm (fun k => (if 0 ≤ (l0.length : Int) then (if ((l0.length : Int) : Int).toNat ≤ 11728124029610 then (laws_toLevelS.l0 k l0 (List.replicate ((l0.length : Int) : Int).toNat z99) 0) else (none)) else (none) : Option ((List (S99))))) _
  repeat' first
  | (with_reducible exact laws_toLevelS.Ll0_lm _ _ _)
  | (with_reducible exact Lm.now _)
  | (with_reducible refine Lm.ite ?_ ?_)
  | (with_reducible refine Lm.bind ?_ (fun _ => ?_))
  | exact laws_toLevelS.Ll0_lm _ _ _
  | exact Lm.now _
  | refine Lm.ite ?_ ?_
  | refine Lm.bind ?_ (fun _ => ?_)
theorem laws_toLevelS.R (l : List S101) (h : wtl101 l ≤ 1048576) : laws_toLevelS.L l = some (l.map cv101) := by
  have hl := wtl101_len l
  rw [laws_toLevelS.L_eq]
  rw [if_pos (by omega), if_pos (by omega)]
  have key := loop_drop l (fun s i => laws_toLevelS.Ll0 l s i) (fun _ _ => l.map cv101) (fun s i => s.length = l.length ∧ s.take i = (l.map cv101).take i) ?_ ?_ (List.replicate ((l.length : Int) : Int).toNat z99) 0 (Nat.zero_le _) ⟨by simp, by simp⟩
  · exact key
  · rintro s ⟨hs, ht⟩
    rw [laws_toLevelS.Ll0_eq, if_neg (by omega)]
    rw [List.take_of_length_le (by omega), List.take_of_length_le (by simp)] at ht
    rw [ht]
  · rintro s i x ⟨hs, ht⟩ hi hx
    refine Or.inr ⟨s.set i (cv101 x), ⟨by simpa using hs, fill_step l cv101 s i x hx hs ht⟩, ?_, rfl⟩
    show laws_toLevelS.Ll0 l s (i : Int) = laws_toLevelS.Ll0 l (s.set i (cv101 x)) ((i + 1 : Nat) : Int)
    rw [laws_toLevelS.Ll0_eq, if_pos (by omega), if_pos (by omega), rd101_at hx]
    rw [laws_toLevel.R x, Option.bind_some, if_pos (by omega), wrap_up i (by omega)]
    rfl

end Go.Proofs.Ytoonbcdkbdedkaa.G

set_option linter.unusedVariables false
set_option linter.unusedSimpArgs false
set_option maxRecDepth 100000
namespace Go.Proofs.Ytoonbcdkbdedkaa.G
open Go.RowKit Go.Proofs.YtoonbcdkbdedkaaW.PrintWords Go.Proofs.YtoonbcdkbdedkaaW.PrintLast Go.Proofs.YtoonbcdkbdedkaaW.PrintMore Go.Proofs.Ytoonbcdkbdedkaa.Lim Go.Proofs.Ytoonbcdkbdedkaa.Open
/- needs: -/
theorem spec_l1In.R (a b c : Int) : spec_l1In.f a b c = some (decide (b ≤ a ∧ a ≤ c)) := by
  unfold spec_l1In.f
  by_cases h : a ≥ b
  · rw [if_pos h]
    have : b ≤ a := h
    simp [this]
  · rw [if_neg h]
    have : ¬ b ≤ a := h
    simp [this]

end Go.Proofs.Ytoonbcdkbdedkaa.G

set_option linter.unusedVariables false
set_option linter.unusedSimpArgs false
set_option maxRecDepth 100000
namespace Go.Proofs.Ytoonbcdkbdedkaa.G
open Go.RowKit Go.Proofs.YtoonbcdkbdedkaaW.PrintWords Go.Proofs.YtoonbcdkbdedkaaW.PrintLast Go.Proofs.YtoonbcdkbdedkaaW.PrintMore Go.Proofs.Ytoonbcdkbdedkaa.Lim Go.Proofs.Ytoonbcdkbdedkaa.Open
/- needs: Plain -/
def M_IsLevel (a b c : Int) : Bool := decide (0 ≤ a ∧ a ≤ 9) && (decide (0 ≤ b ∧ b ≤ 200) && decide (0 ≤ c ∧ c ≤ 100000))

end Go.Proofs.Ytoonbcdkbdedkaa.G

set_option linter.unusedVariables false
set_option linter.unusedSimpArgs false
set_option maxRecDepth 100000
namespace Go.Proofs.Ytoonbcdkbdedkaa.G
open Go.RowKit Go.Proofs.YtoonbcdkbdedkaaW.PrintWords Go.Proofs.YtoonbcdkbdedkaaW.PrintLast Go.Proofs.YtoonbcdkbdedkaaW.PrintMore Go.Proofs.Ytoonbcdkbdedkaa.Lim Go.Proofs.Ytoonbcdkbdedkaa.Open
/- needs: Level -/
theorem spec_IsLevel.R (a b c : Int) : spec_IsLevel.f a b c = some (M_IsLevel a b c) := by
  unfold spec_IsLevel.f M_IsLevel
  simp only [spec_l1In.R, Option.bind_some]
  by_cases h1 : (0 ≤ a ∧ a ≤ 9) <;> by_cases h2 : (0 ≤ b ∧ b ≤ 200) <;> simp [h1, h2]

end Go.Proofs.Ytoonbcdkbdedkaa.G

set_option linter.unusedVariables false
set_option linter.unusedSimpArgs false
set_option maxRecDepth 100000
namespace Go.Proofs.Ytoonbcdkbdedkaa.G
open Go.RowKit Go.Proofs.YtoonbcdkbdedkaaW.PrintWords Go.Proofs.YtoonbcdkbdedkaaW.PrintLast Go.Proofs.YtoonbcdkbdedkaaW.PrintMore Go.Proofs.Ytoonbcdkbdedkaa.Lim Go.Proofs.Ytoonbcdkbdedkaa.Open
noncomputable def spec_IsLadder.Ll0 (x0 : List (S99)) (x3 : Int) : Option (Bool) := lim (fun k => spec_IsLadder.l0 k x0 x3)
theorem spec_IsLadder.Ll0_lm (x0 : List (S99)) (x3 : Int) : Lm (fun k => spec_IsLadder.l0 k x0 x3) (spec_IsLadder.Ll0 x0 x3) := Lm.of (fun k => spec_IsLadder.mono_l k x0 x3)
noncomputable def spec_IsLadder.L (l0 : List (S99)) : Option (Bool) := lim (fun k => spec_IsLadder.f k l0)
theorem spec_IsLadder.L_lm (l0 : List (S99)) : Lm (fun k => spec_IsLadder.f k l0) (spec_IsLadder.L l0) := Lm.of (fun k => spec_IsLadder.mono l0 k)
theorem spec_IsLadder.Ll0_eq (x0 : List (S99)) (x3 : Int) : spec_IsLadder.Ll0 x0 x3 = (if x3 < (x0.length : Int) then (if 0 ≤ x3 then ((spec_IsLevel.f ((rd_T99 x0 x3).f0) ((rd_T99 x0 x3).f1) ((rd_T99 x0 x3).f2)).bind fun t167 => (if t167 = true then (if x3 > 0 then (if 0 ≤ (wrap64 (x3 - 1)) then (if (wrap64 (x3 - 1)) < (x0.length : Int) then (if ((rd_T99 x0 (wrap64 (x3 - 1))).f0) > ((rd_T99 x0 x3).f0) then (some false) else (if ((rd_T99 x0 (wrap64 (x3 - 1))).f1) > ((rd_T99 x0 x3).f1) then (some false) else (if ((rd_T99 x0 (wrap64 (x3 - 1))).f2) > ((rd_T99 x0 x3).f2) then (some false) else (spec_IsLadder.Ll0 x0 (wrap64 (x3 + 1)))))) else (none)) else (none)) else (spec_IsLadder.Ll0 x0 (wrap64 (x3 + 1)))) else (some false))) else (none)) else ((spec_l1In.f (x0.length : Int) 1 5).bind fun t174 => (some t174)) : Option (Bool)) := by
  refine (spec_IsLadder.Ll0_lm x0 x3).eq (Lm.step (spec_IsLadder.Ll0_lm x0 x3).mono ?_)
  show Lm (fun k => (if x3 < (x0.length : Int) then (if 0 ≤ x3 then ((spec_IsLevel.f ((rd_T99 x0 x3).f0) ((rd_T99 x0 x3).f1) ((rd_T99 x0 x3).f2)).bind fun t167 => (if t167 = true then (if x3 > 0 then (if 0 ≤ (wrap64 (x3 - 1)) then (if (wrap64 (x3 - 1)) < (x0.length : Int) then (if ((rd_T99 x0 (wrap64 (x3 - 1))).f0) > ((rd_T99 x0 x3).f0) then (some false) else (if ((rd_T99 x0 (wrap64 (x3 - 1))).f1) > ((rd_T99 x0 x3).f1) then (some false) else (if ((rd_T99 x0 (wrap64 (x3 - 1))).f2) > ((rd_T99 x0 x3).f2) then (some false) else (spec_IsLadder.l0 k x0 (wrap64 (x3 + 1)))))) else (none)) else (none)) else (spec_IsLadder.l0 k x0 (wrap64 (x3 + 1)))) else (some false))) else (none)) else ((spec_l1In.f (x0.length : Int) 1 5).bind fun t174 => (some t174)) : Option (Bool))) _
  repeat' first
  | (with_reducible exact spec_IsLadder.Ll0_lm _ _)
  | (with_reducible exact Lm.now _)
  | (with_reducible refine Lm.ite ?_ ?_)
  | (with_reducible refine Lm.bind ?_ (fun _ => ?_))
  | exact spec_IsLadder.Ll0_lm _ _
  | exact Lm.now _
  | refine Lm.ite ?_ ?_
  | refine Lm.bind ?_ (fun _ => ?_)
theorem spec_IsLadder.L_eq (l0 : List (S99)) : spec_IsLadder.L l0 = (spec_IsLadder.Ll0 l0 0 : Option (Bool)) := by
  refine (spec_IsLadder.L_lm l0).eq ?_
  show Lm (fun k => (spec_IsLadder.l0 k l0 0 : Option (Bool))) _
  repeat' first
  | (with_reducible exact spec_IsLadder.Ll0_lm _ _)
  | (with_reducible exact Lm.now _)
  | (with_reducible refine Lm.ite ?_ ?_)
  | (with_reducible refine Lm.bind ?_ (fun _ => ?_))
  | exact spec_IsLadder.Ll0_lm _ _
  | exact Lm.now _
  | refine Lm.ite ?_ ?_
  | refine Lm.bind ?_ (fun _ => ?_)
/- needs: Level -/
/-- no descent from one level to the next, all valid -/
def M_LadderFrom : List S99 → S99 → Bool
  | [], _ => true
  | x :: r, a => M_IsLevel x.f0 x.f1 x.f2 && (!(decide (x.f0 < a.f0)) && (!(decide (x.f1 < a.f1)) && (!(decide (x.f2 < a.f2)) && M_LadderFrom r x)))
theorem M_LadderFrom_cons (x : S99) (r : List S99) (a : S99) : M_LadderFrom (x :: r) a = (M_IsLevel x.f0 x.f1 x.f2 && (!(decide (x.f0 < a.f0)) && (!(decide (x.f1 < a.f1)) && (!(decide (x.f2 < a.f2)) && M_LadderFrom r x)))) := rfl
theorem spec_IsLadder.step (l : List S99) (h : l.length ≤ 1048576) (i : Nat) (h0 : 0 < i) (hi : i ≤ l.length) : ∀ a, l[i - 1]? = some a → spec_IsLadder.Ll0 l (i : Int) = some (M_LadderFrom (l.drop i) a && decide (1 ≤ (l.length : Int) ∧ (l.length : Int) ≤ 5)) := by
  refine down_ind (n := l.length) (P := fun i => 0 < i → ∀ a, l[i - 1]? = some a → spec_IsLadder.Ll0 l (i : Int) = some (M_LadderFrom (l.drop i) a && decide (1 ≤ (l.length : Int) ∧ (l.length : Int) ≤ 5))) ?_ ?_ i hi h0
  · intro _ a _
    rw [spec_IsLadder.Ll0_eq, if_neg (by omega), spec_l1In.R, Option.bind_some, List.drop_length]
    simp [M_LadderFrom]
  · intro i hi ih h0 a ha
    obtain ⟨x, hx, hd⟩ := drop_at hi
    have ih := ih (by omega) x (by simpa using hx)
    rw [spec_IsLadder.Ll0_eq, if_pos (by omega), if_pos (by omega), rd99_at hx, spec_IsLevel.R, Option.bind_some, wrap_down i h0 (by omega), rd99_at ha, wrap_up i (by omega), ih, hd, M_LadderFrom_cons]
    by_cases c : M_IsLevel x.f0 x.f1 x.f2 = true
    case neg => rw [if_neg c]; simp [c]
    rw [if_pos c, if_pos (by omega), if_pos (by omega), if_pos (by omega), c]
    by_cases c0 : x.f0 < a.f0
    · rw [if_pos c0]; simp [c0]
    rw [if_neg c0]
    by_cases c1 : x.f1 < a.f1
    · rw [if_pos c1]; simp [c1]
    rw [if_neg c1]
    by_cases c2 : x.f2 < a.f2
    · rw [if_pos c2]; simp [c2]
    rw [if_neg c2]
    simp [c0, c1, c2]
def M_IsLadder (l : List S99) : Bool :=
  decide (1 ≤ (l.length : Int) ∧ (l.length : Int) ≤ 5) && match l with
    | [] => true
    | x :: r => M_IsLevel x.f0 x.f1 x.f2 && M_LadderFrom r x
theorem spec_IsLadder.R (l : List S99) (h : l.length ≤ 1048576) : spec_IsLadder.L l = some (M_IsLadder l) := by
  rw [spec_IsLadder.L_eq, spec_IsLadder.Ll0_eq, spec_l1In.R]
  match l, h with
  | [], _ => rfl
  | x :: r, h =>
    have hs := spec_IsLadder.step (x :: r) h 1 (by omega) (by simp) x rfl
    have hx : rd_T99 (x :: r) 0 = x := rfl
    rw [if_pos (by simp), if_pos (by omega), hx, spec_IsLevel.R, Option.bind_some]
    have w : wrap64 (0 + 1) = ((1 : Nat) : Int) := wrap_id (x := 0 + 1) (by omega) (by omega)
    rw [w, hs]
    unfold M_IsLadder
    by_cases c : M_IsLevel x.f0 x.f1 x.f2 = true
    · rw [if_pos c, if_neg (by omega)]; simp [c, Bool.and_comm]
    · rw [if_neg c]; simp [c]

end Go.Proofs.Ytoonbcdkbdedkaa.G

set_option linter.unusedVariables false
set_option linter.unusedSimpArgs false
set_option maxRecDepth 100000
namespace Go.Proofs.Ytoonbcdkbdedkaa.G
open Go.RowKit Go.Proofs.YtoonbcdkbdedkaaW.PrintWords Go.Proofs.YtoonbcdkbdedkaaW.PrintLast Go.Proofs.YtoonbcdkbdedkaaW.PrintMore Go.Proofs.Ytoonbcdkbdedkaa.Lim Go.Proofs.Ytoonbcdkbdedkaa.Open
/- needs: -/
theorem impl_InRange.R (a b c : Int) : impl_InRange.f a b c = some (decide (b ≤ a ∧ a ≤ c)) := by
  unfold impl_InRange.f
  by_cases h : b ≤ a
  · rw [if_pos h]
    simp [h]
  · rw [if_neg h]
    simp [h]

end Go.Proofs.Ytoonbcdkbdedkaa.G

set_option linter.unusedVariables false
set_option linter.unusedSimpArgs false
set_option maxRecDepth 100000
namespace Go.Proofs.Ytoonbcdkbdedkaa.G
open Go.RowKit Go.Proofs.YtoonbcdkbdedkaaW.PrintWords Go.Proofs.YtoonbcdkbdedkaaW.PrintLast Go.Proofs.YtoonbcdkbdedkaaW.PrintMore Go.Proofs.Ytoonbcdkbdedkaa.Lim Go.Proofs.Ytoonbcdkbdedkaa.Open
/- needs: Level -/
theorem impl_IsLevel.R (a b c : Int) : impl_IsLevel.f a b c = some (M_IsLevel a b c) := by
  unfold impl_IsLevel.f M_IsLevel
  simp only [impl_InRange.R, Option.bind_some]
  by_cases h1 : (0 ≤ a ∧ a ≤ 9) <;> by_cases h2 : (0 ≤ b ∧ b ≤ 200) <;> simp [h1, h2]

end Go.Proofs.Ytoonbcdkbdedkaa.G

set_option linter.unusedVariables false
set_option linter.unusedSimpArgs false
set_option maxRecDepth 100000
namespace Go.Proofs.Ytoonbcdkbdedkaa.G
open Go.RowKit Go.Proofs.YtoonbcdkbdedkaaW.PrintWords Go.Proofs.YtoonbcdkbdedkaaW.PrintLast Go.Proofs.YtoonbcdkbdedkaaW.PrintMore Go.Proofs.Ytoonbcdkbdedkaa.Lim Go.Proofs.Ytoonbcdkbdedkaa.Open
noncomputable def impl_IsLadder.Ll0 (x0 : List (S99)) (x9 : List (S99)) (x10 : Int) (x11 : Int) : Option (Bool) := lim (fun k => impl_IsLadder.l0 k x0 x9 x10 x11)
theorem impl_IsLadder.Ll0_lm (x0 : List (S99)) (x9 : List (S99)) (x10 : Int) (x11 : Int) : Lm (fun k => impl_IsLadder.l0 k x0 x9 x10 x11) (impl_IsLadder.Ll0 x0 x9 x10 x11) := Lm.of (fun k => impl_IsLadder.mono_l k x0 x9 x10 x11)
noncomputable def impl_IsLadder.L (l0 : List (S99)) : Option (Bool) := lim (fun k => impl_IsLadder.f k l0)
theorem impl_IsLadder.L_lm (l0 : List (S99)) : Lm (fun k => impl_IsLadder.f k l0) (impl_IsLadder.L l0) := Lm.of (fun k => impl_IsLadder.mono l0 k)
theorem impl_IsLadder.Ll0_eq (x0 : List (S99)) (x9 : List (S99)) (x10 : Int) (x11 : Int) : impl_IsLadder.Ll0 x0 x9 x10 x11 = (if x11 < x10 then (if 0 ≤ x11 then (if x11 < (x9.length : Int) then ((impl_IsLevel.f ((rd_T99 x9 x11).f0) ((rd_T99 x9 x11).f1) ((rd_T99 x9 x11).f2)).bind fun t193 => (if t193 = true then (if x11 > 0 then (if 0 ≤ (wrap64 (x11 - 1)) then (if (wrap64 (x11 - 1)) < (x0.length : Int) then (if ((rd_T99 x9 x11).f0) < ((rd_T99 x0 (wrap64 (x11 - 1))).f0) then (some false) else (if ((rd_T99 x9 x11).f1) < ((rd_T99 x0 (wrap64 (x11 - 1))).f1) then (some false) else (if ((rd_T99 x9 x11).f2) < ((rd_T99 x0 (wrap64 (x11 - 1))).f2) then (some false) else (impl_IsLadder.Ll0 x0 x9 x10 (wrap64 (x11 + 1)))))) else (none)) else (none)) else (impl_IsLadder.Ll0 x0 x9 x10 (wrap64 (x11 + 1)))) else (some false))) else (none)) else (none)) else (some true) : Option (Bool)) := by
  refine (impl_IsLadder.Ll0_lm x0 x9 x10 x11).eq (Lm.step (impl_IsLadder.Ll0_lm x0 x9 x10 x11).mono ?_)
  show Lm (fun k => (if x11 < x10 then (if 0 ≤ x11 then (if x11 < (x9.length : Int) then ((impl_IsLevel.f ((rd_T99 x9 x11).f0) ((rd_T99 x9 x11).f1) ((rd_T99 x9 x11).f2)).bind fun t193 => (if t193 = true then (if x11 > 0 then (if 0 ≤ (wrap64 (x11 - 1)) then (if (wrap64 (x11 - 1)) < (x0.length : Int) then (if ((rd_T99 x9 x11).f0) < ((rd_T99 x0 (wrap64 (x11 - 1))).f0) then (some false) else (if ((rd_T99 x9 x11).f1) < ((rd_T99 x0 (wrap64 (x11 - 1))).f1) then (some false) else (if ((rd_T99 x9 x11).f2) < ((rd_T99 x0 (wrap64 (x11 - 1))).f2) then (some false) else (impl_IsLadder.l0 k x0 x9 x10 (wrap64 (x11 + 1)))))) else (none)) else (none)) else (impl_IsLadder.l0 k x0 x9 x10 (wrap64 (x11 + 1)))) else (some false))) else (none)) else (none)) else (some true) : Option (Bool))) _
  repeat' first
  | (with_reducible exact impl_IsLadder.Ll0_lm _ _ _ _)
  | (with_reducible exact Lm.now _)
  | (with_reducible refine Lm.ite ?_ ?_)
  | (with_reducible refine Lm.bind ?_ (fun _ => ?_))
  | exact impl_IsLadder.Ll0_lm _ _ _ _
  | exact Lm.now _
  | refine Lm.ite ?_ ?_
  | refine Lm.bind ?_ (fun _ => ?_)
theorem impl_IsLadder.L_eq (l0 : List (S99)) : impl_IsLadder.L l0 = ((impl_InRange.f (l0.length : Int) 1 5).bind fun t190 => (if t190 = true then (impl_IsLadder.Ll0 l0 l0 (l0.length : Int) 0) else (some false)) : Option (Bool)) := by
  refine (impl_IsLadder.L_lm l0).eq ?_
  show Lm (fun k => ((impl_InRange.f (l0.length : Int) 1 5).bind fun t190 => (if t190 = true then (impl_IsLadder.l0 k l0 l0 (l0.length : Int) 0) else (some false)) : Option (Bool))) _
  repeat' first
  | (with_reducible exact impl_IsLadder.Ll0_lm _ _ _ _)
  | (with_reducible exact Lm.now _)
  | (with_reducible refine Lm.ite ?_ ?_)
  | (with_reducible refine Lm.bind ?_ (fun _ => ?_))
  | exact impl_IsLadder.Ll0_lm _ _ _ _
  | exact Lm.now _
  | refine Lm.ite ?_ ?_
  | refine Lm.bind ?_ (fun _ => ?_)
/- needs: Level q:spec_IsLadder -/
theorem impl_IsLadder.step (l : List S99) (h : l.length ≤ 1048576) (i : Nat) (h0 : 0 < i) (hi : i ≤ l.length) : ∀ a, l[i - 1]? = some a → impl_IsLadder.Ll0 l l (l.length : Int) (i : Int) = some (M_LadderFrom (l.drop i) a) := by
  refine down_ind (n := l.length) (P := fun i => 0 < i → ∀ a, l[i - 1]? = some a → impl_IsLadder.Ll0 l l (l.length : Int) (i : Int) = some (M_LadderFrom (l.drop i) a)) ?_ ?_ i hi h0
  · intro _ a _
    rw [impl_IsLadder.Ll0_eq, if_neg (by omega), List.drop_length]
    simp [M_LadderFrom]
  · intro i hi ih h0 a ha
    obtain ⟨x, hx, hd⟩ := drop_at hi
    have ih := ih (by omega) x (by simpa using hx)
    rw [impl_IsLadder.Ll0_eq, if_pos (by omega), if_pos (by omega), if_pos (by omega), rd99_at hx, impl_IsLevel.R, Option.bind_some, wrap_down i h0 (by omega), rd99_at ha, wrap_up i (by omega), ih, hd, M_LadderFrom_cons]
    by_cases c : M_IsLevel x.f0 x.f1 x.f2 = true
    case neg => rw [if_neg c]; simp [c]
    rw [if_pos c, if_pos (by omega), if_pos (by omega), if_pos (by omega), c]
    by_cases c0 : x.f0 < a.f0
    · rw [if_pos c0]; simp [c0]
    rw [if_neg c0]
    by_cases c1 : x.f1 < a.f1
    · rw [if_pos c1]; simp [c1]
    rw [if_neg c1]
    by_cases c2 : x.f2 < a.f2
    · rw [if_pos c2]; simp [c2]
    rw [if_neg c2]
    simp [c0, c1, c2]
theorem impl_IsLadder.R (l : List S99) (h : l.length ≤ 1048576) : impl_IsLadder.L l = some (M_IsLadder l) := by
  rw [impl_IsLadder.L_eq, impl_InRange.R, Option.bind_some, impl_IsLadder.Ll0_eq]
  unfold M_IsLadder
  by_cases cl : (1 ≤ (l.length : Int) ∧ (l.length : Int) ≤ 5)
  case neg => rw [if_neg (by simpa using cl)]; simp only [decide_eq_false cl, Bool.false_and]
  rw [if_pos (by simpa using cl), decide_eq_true cl, Bool.true_and]
  match l, h, cl with
  | x :: r, h, cl =>
    have hs := impl_IsLadder.step (x :: r) h 1 (by omega) (by simp) x rfl
    have hx : rd_T99 (x :: r) 0 = x := rfl
    rw [if_pos (by simp), if_pos (by omega), if_pos (by simp), hx, impl_IsLevel.R, Option.bind_some]
    have w : wrap64 (0 + 1) = ((1 : Nat) : Int) := wrap_id (x := 0 + 1) (by omega) (by omega)
    rw [w, hs]
    by_cases c : M_IsLevel x.f0 x.f1 x.f2 = true
    · rw [if_pos c, if_neg (by omega)]; simp [c]
    · rw [if_neg c]; simp [c]

end Go.Proofs.Ytoonbcdkbdedkaa.G

set_option linter.unusedVariables false
set_option linter.unusedSimpArgs false
set_option maxRecDepth 100000
namespace Go.Proofs.Ytoonbcdkbdedkaa.G
open Go.RowKit Go.Proofs.YtoonbcdkbdedkaaW.PrintWords Go.Proofs.YtoonbcdkbdedkaaW.PrintLast Go.Proofs.YtoonbcdkbdedkaaW.PrintMore Go.Proofs.Ytoonbcdkbdedkaa.Lim Go.Proofs.Ytoonbcdkbdedkaa.Open
theorem laws_eqLevel.R (x : S99) : laws_eqLevel.f x.f0 x.f1 x.f2 x.f0 x.f1 x.f2 = some true := by
  unfold laws_eqLevel.f
  simp []

end Go.Proofs.Ytoonbcdkbdedkaa.G

set_option linter.unusedVariables false
set_option linter.unusedSimpArgs false
set_option maxRecDepth 100000
namespace Go.Proofs.Ytoonbcdkbdedkaa.G
open Go.RowKit Go.Proofs.YtoonbcdkbdedkaaW.PrintWords Go.Proofs.YtoonbcdkbdedkaaW.PrintLast Go.Proofs.YtoonbcdkbdedkaaW.PrintMore Go.Proofs.Ytoonbcdkbdedkaa.Lim Go.Proofs.Ytoonbcdkbdedkaa.Open
noncomputable def laws_eqLevelS.Ll0 (x0 : List (S99)) (x1 : List (S99)) (x5 : Int) : Option (Bool) := lim (fun k => laws_eqLevelS.l0 k x0 x1 x5)
theorem laws_eqLevelS.Ll0_lm (x0 : List (S99)) (x1 : List (S99)) (x5 : Int) : Lm (fun k => laws_eqLevelS.l0 k x0 x1 x5) (laws_eqLevelS.Ll0 x0 x1 x5) := Lm.of (fun k => laws_eqLevelS.mono_l k x0 x1 x5)
noncomputable def laws_eqLevelS.L (l0 : List (S99)) (l1 : List (S99)) : Option (Bool) := lim (fun k => laws_eqLevelS.f k l0 l1)
theorem laws_eqLevelS.L_lm (l0 : List (S99)) (l1 : List (S99)) : Lm (fun k => laws_eqLevelS.f k l0 l1) (laws_eqLevelS.L l0 l1) := Lm.of (fun k => laws_eqLevelS.mono l0 l1 k)
theorem laws_eqLevelS.Ll0_eq (x0 : List (S99)) (x1 : List (S99)) (x5 : Int) : laws_eqLevelS.Ll0 x0 x1 x5 = (if x5 < (x0.length : Int) then (if 0 ≤ x5 then (if x5 < (x1.length : Int) then ((laws_eqLevel.f ((rd_T99 x0 x5).f0) ((rd_T99 x0 x5).f1) ((rd_T99 x0 x5).f2) ((rd_T99 x1 x5).f0) ((rd_T99 x1 x5).f1) ((rd_T99 x1 x5).f2)).bind fun t201 => (if t201 = true then (laws_eqLevelS.Ll0 x0 x1 (wrap64 (x5 + 1))) else (some false))) else (none)) else (none)) else (some true) : Option (Bool)) := by
  refine (laws_eqLevelS.Ll0_lm x0 x1 x5).eq (Lm.step (laws_eqLevelS.Ll0_lm x0 x1 x5).mono ?_)
  show Lm (fun k => (if x5 < (x0.length : Int) then (if 0 ≤ x5 then (if x5 < (x1.length : Int) then ((laws_eqLevel.f ((rd_T99 x0 x5).f0) ((rd_T99 x0 x5).f1) ((rd_T99 x0 x5).f2) ((rd_T99 x1 x5).f0) ((rd_T99 x1 x5).f1) ((rd_T99 x1 x5).f2)).bind fun t201 => (if t201 = true then (laws_eqLevelS.l0 k x0 x1 (wrap64 (x5 + 1))) else (some false))) else (none)) else (none)) else (some true) : Option (Bool))) _
  repeat' first
  | (with_reducible exact laws_eqLevelS.Ll0_lm _ _ _)
  | (with_reducible exact Lm.now _)
  | (with_reducible refine Lm.ite ?_ ?_)
  | (with_reducible refine Lm.bind ?_ (fun _ => ?_))
  | exact laws_eqLevelS.Ll0_lm _ _ _
  | exact Lm.now _
  | refine Lm.ite ?_ ?_
  | refine Lm.bind ?_ (fun _ => ?_)
theorem laws_eqLevelS.L_eq (l0 : List (S99)) (l1 : List (S99)) : laws_eqLevelS.L l0 l1 = (if (l0.length : Int) = (l1.length : Int) then (laws_eqLevelS.Ll0 l0 l1 0) else (some false) : Option (Bool)) := by
  refine (laws_eqLevelS.L_lm l0 l1).eq ?_
  show Lm (fun k => (if (l0.length : Int) = (l1.length : Int) then (laws_eqLevelS.l0 k l0 l1 0) else (some false) : Option (Bool))) _
  repeat' first
  | (with_reducible exact laws_eqLevelS.Ll0_lm _ _ _)
  | (with_reducible exact Lm.now _)
  | (with_reducible refine Lm.ite ?_ ?_)
  | (with_reducible refine Lm.bind ?_ (fun _ => ?_))
  | exact laws_eqLevelS.Ll0_lm _ _ _
  | exact Lm.now _
  | refine Lm.ite ?_ ?_
  | refine Lm.bind ?_ (fun _ => ?_)
theorem laws_eqLevelS.R (l : List S99) (hl : l.length ≤ 9223372036854775807) : laws_eqLevelS.L l l = some true := by
  rw [laws_eqLevelS.L_eq]
  rw [if_pos rfl]
  have key := loop_drop l (fun (_ : Unit) i => laws_eqLevelS.Ll0 l l i) (fun _ _ => true) (fun _ _ => True) ?_ ?_ () 0 (Nat.zero_le _) trivial
  · exact key
  · rintro _ _
    rw [laws_eqLevelS.Ll0_eq, if_neg (by omega)]
  · rintro _ i x _ hi hx
    refine Or.inr ⟨(), trivial, ?_, rfl⟩
    rw [laws_eqLevelS.Ll0_eq, if_pos (by omega), if_pos (by omega), if_pos (by omega), rd99_at hx]
    rw [laws_eqLevel.R x, Option.bind_some, if_pos rfl, wrap_up i (by omega)]

end Go.Proofs.Ytoonbcdkbdedkaa.G

set_option linter.unusedVariables false
set_option linter.unusedSimpArgs false
set_option maxRecDepth 100000
namespace Go.Proofs.Ytoonbcdkbdedkaa.G
open Go.RowKit Go.Proofs.YtoonbcdkbdedkaaW.PrintWords Go.Proofs.YtoonbcdkbdedkaaW.PrintLast Go.Proofs.YtoonbcdkbdedkaaW.PrintMore Go.Proofs.Ytoonbcdkbdedkaa.Lim Go.Proofs.Ytoonbcdkbdedkaa.Open
noncomputable def laws_FnExactIsLadder.L (l0 : List (S101)) : Option (Bool) := lim (fun k => laws_FnExactIsLadder.f k l0)
theorem laws_FnExactIsLadder.L_lm (l0 : List (S101)) : Lm (fun k => laws_FnExactIsLadder.f k l0) (laws_FnExactIsLadder.L l0) := Lm.of (fun k => laws_FnExactIsLadder.mono l0 k)
theorem laws_FnExactIsLadder.L_eq (l0 : List (S101)) : laws_FnExactIsLadder.L l0 = ((laws_szLevelS.f l0 1048576).bind fun t202 => (if t202 < 0 then (some true) else ((laws_toLevelS.L l0).bind fun t203 => ((spec_IsLadder.L t203).bind fun t206 => ((laws_toLevelS.L l0).bind fun t207 => ((impl_IsLadder.L t207).bind fun t210 => (if (t210 != t206) = true then (some false) else ((laws_toLevelS.L l0).bind fun t211 => ((laws_eqLevelS.L t207 t211).bind fun t214 => (if t214 = true then (some true) else (some false)))))))))) : Option (Bool)) := by
  refine (laws_FnExactIsLadder.L_lm l0).eq ?_
  show Lm (fun k => ((laws_szLevelS.f l0 1048576).bind fun t202 => (if t202 < 0 then (some true) else ((laws_toLevelS.f k l0).bind fun t203 => ((spec_IsLadder.f k t203).bind fun t206 => ((laws_toLevelS.f k l0).bind fun t207 => ((impl_IsLadder.f k t207).bind fun t210 => (if (t210 != t206) = true then (some false) else ((laws_toLevelS.f k l0).bind fun t211 => ((laws_eqLevelS.f k t207 t211).bind fun t214 => (if t214 = true then (some true) else (some false)))))))))) : Option (Bool))) _
  repeat' first
  | (with_reducible exact impl_IsLadder.L_lm _)
  | (with_reducible exact laws_eqLevelS.L_lm _ _)
  | (with_reducible exact laws_toLevelS.L_lm _)
  | (with_reducible exact spec_IsLadder.L_lm _)
  | (with_reducible exact Lm.now _)
  | (with_reducible refine Lm.ite ?_ ?_)
  | (with_reducible refine Lm.bind ?_ (fun _ => ?_))
  | exact impl_IsLadder.L_lm _
  | exact laws_eqLevelS.L_lm _ _
  | exact laws_toLevelS.L_lm _
  | exact spec_IsLadder.L_lm _
  | exact Lm.now _
  | refine Lm.ite ?_ ?_
  | refine Lm.bind ?_ (fun _ => ?_)
/- needs: -/
theorem laws_FnExactIsLadder.pure (l0 : List S101) (h0 : l0.length ≤ 9223372036854775807) (w0 : ∀ y ∈ l0, ok101 y) : ∃ k, laws_FnExactIsLadder.f k l0 = some true := by
  refine (laws_FnExactIsLadder.L_lm l0).rounds ?_
  rw [laws_FnExactIsLadder.L_eq, laws_szLevelS.R l0 h0 w0 1048576 (by decide) (by decide), Option.bind_some]
  by_cases c : (wtl101 l0 : Int) ≤ 1048576
  case neg => rw [if_neg c, if_pos (by decide)]
  rw [if_pos c, if_neg (by omega)]
  have hl := wtl101_len l0
  have hm : (l0.map cv101).length ≤ 1048576 := by rw [List.length_map]; omega
  simp only [laws_toLevelS.R l0 (by omega), spec_IsLadder.R _ hm, impl_IsLadder.R _ hm, laws_eqLevelS.R _ (Nat.le_trans hm (by decide)), Option.bind_some, if_true, bne_self_eq_false, Bool.false_eq_true, if_false]

end Go.Proofs.Ytoonbcdkbdedkaa.G
