/- A part of the proof of the statement 'FnExactNamesIn': for every input the law returns true and leaves its arguments as they were. No condition beyond the statement's own. The walks' text was written by a program of this claim, out of the program's own print. -/
import Derived.Test.YtoonbcdkbdedkaaWWords
import Derived.Deep.Slices
import Derived.Deep.Fields
import Derived.WideShapes
import Derived.Test.YtoonbcdkbdedkaaKFnExactNamesIng2
set_option linter.unusedVariables false
namespace Go.Proofs.Ytoonbcdkbdedkaa.Lim
open Go.RowKit Go.Proofs.YtoonbcdkbdedkaaW.PrintWords
/-- x is what g comes to. -/
structure Lm {α : Type} (g : Nat → Option α) (x : Option α) : Prop where
  mono : ∀ k, LeO (g k) (g (k + 1))
  at' : ∀ r, x = some r ↔ ∃ k, g k = some r
open Classical in
noncomputable def lim {α : Type} (g : Nat → Option α) : Option α := if h : ∃ r k, g k = some r then some h.choose else none
theorem Lm.of {α : Type} {g : Nat → Option α} (h : ∀ k, LeO (g k) (g (k + 1))) : Lm g (lim g) := by
  refine ⟨h, fun r => ?_⟩
  unfold lim
  split
  · rename_i h1
    obtain ⟨k1, hk1⟩ := h1.choose_spec
    constructor
    · intro e
      cases e
      exact ⟨k1, hk1⟩
    · rintro ⟨k, hk⟩
      have a := at_rounds h (Nat.le_max_left k k1) hk
      have b := at_rounds h (Nat.le_max_right k k1) hk1
      rw [b] at a
      exact a
  · rename_i h1
    constructor
    · intro e; cases e
    · intro e; exact absurd ⟨r, e⟩ h1
theorem Lm.eq {α : Type} {g : Nat → Option α} {x y : Option α} (h : Lm g x) (k : Lm g y) : x = y := by
  cases hx : x with
  | some r => exact ((k.at' r).2 ((h.at' r).1 hx)).symm
  | none =>
    cases hy : y with
    | none => rfl
    | some r => rw [(h.at' r).2 ((k.at' r).1 hy)] at hx; cases hx
theorem Lm.lim {α : Type} {g : Nat → Option α} {x : Option α} (h : Lm g x) : lim g = x := (Lm.of h.mono).eq h
theorem Lm.rounds {α : Type} {g : Nat → Option α} {x : Option α} {r : α} (h : Lm g x) (e : x = some r) : ∃ k, g k = some r := (h.at' r).1 e
theorem Lm.now {α : Type} (x : Option α) : Lm (fun _ => x) x := ⟨fun _ => LeO.refl _, fun r => ⟨fun h => ⟨0, h⟩, fun ⟨_, h⟩ => h⟩⟩
theorem Lm.step {α : Type} {g : Nat → Option α} {x : Option α} (hm : ∀ k, LeO (g k) (g (k + 1))) (h : Lm (fun k => g (k + 1)) x) : Lm g x :=
  ⟨hm, fun r => (h.at' r).trans ⟨fun ⟨k, hk⟩ => ⟨k + 1, hk⟩, fun ⟨k, hk⟩ => ⟨k, hm k r hk⟩⟩⟩
theorem Lm.ite {α : Type} {c : Prop} [Decidable c] {a b : Nat → Option α} {x y : Option α} (h : Lm a x) (k : Lm b y) : Lm (fun n => if c then a n else b n) (if c then x else y) := by
  split
  · exact h
  · exact k
theorem Lm.bind {α β : Type} {g : Nat → Option α} {f : Nat → α → Option β} {x : Option α} {F : α → Option β} (h : Lm g x) (k : ∀ a, Lm (fun n => f n a) (F a)) : Lm (fun n => (g n).bind (f n)) (x.bind F) := by
  refine ⟨fun n => LeO.bind (h.mono n) (fun a => (k a).mono n), fun r => ?_⟩
  rw [Option.bind_eq_some_iff]
  constructor
  · rintro ⟨a, ha, hr⟩
    obtain ⟨n, hn⟩ := (h.at' a).1 ha
    obtain ⟨m, hm⟩ := ((k a).at' r).1 hr
    refine ⟨max n m, Option.bind_eq_some_iff.2 ⟨a, at_rounds h.mono (Nat.le_max_left _ _) hn, at_rounds (k a).mono (Nat.le_max_right _ _) hm⟩⟩
  · rintro ⟨n, hn⟩
    obtain ⟨a, ha, hr⟩ := Option.bind_eq_some_iff.1 hn
    exact ⟨a, (h.at' a).2 ⟨n, ha⟩, ((k a).at' r).2 ⟨n, hr⟩⟩
end Go.Proofs.Ytoonbcdkbdedkaa.Lim

set_option linter.unusedVariables false
namespace Go.Proofs.Ytoonbcdkbdedkaa.Open
open Go.ChangeShapes Go.WideShapes Go.RowKit Go.Deep Go.Proofs.YtoonbcdkbdedkaaW.PrintWords

/-- Whatever reads as data at a type is of this kind (and meets 'ok'). -/
def Opens (P : Program) (t : TypeId) {α : Type} (d : Kd α) (ok : α → Prop) : Prop :=
  ∀ (H : Type) (enc : TypeId × Value → H) (w : World) (base : Nat) (spare : Nat → Bool) (held : Bool) (fuel : Nat) (cs : List Value) (x : DataW H × List MemPlace),
    DataW.trod enc P w base spare held fuel t cs = some x → ∃ a, d.K w a cs ∧ ok a
theorem Opens.int {P : Program} {t : TypeId} {k : IntKind} (ht : P.underlying t = some (.int k)) : Opens P t (Kd.int k) (fun n => (Lit.int k n).wf = true) := by
  intro H enc w base spare held fuel cs x h
  obtain ⟨n, rfl, _, hw⟩ := DataW.trod_int ht h
  exact ⟨n, rfl, hw⟩
theorem Opens.bool {P : Program} {t : TypeId} (ht : P.underlying t = some .bool) : Opens P t Kd.bool (fun _ => True) := by
  intro H enc w base spare held fuel cs x h
  obtain ⟨n, rfl, _⟩ := DataW.trod_bool ht h
  exact ⟨n, rfl, trivial⟩
theorem Opens.string {P : Program} {t : TypeId} (ht : P.underlying t = some .string) : Opens P t Kd.string (fun s => s.size ≤ 9223372036854775807) := by
  intro H enc w base spare held fuel cs x h
  obtain ⟨n, rfl, _, hs⟩ := DataW.trod_string ht h
  exact ⟨n, rfl, by unfold maxLen at hs; simpa using hs⟩
theorem Opens.slice {P : Program} {t e : TypeId} {α : Type} {d : Kd α} {ok : α → Prop} (ht : P.underlying t = some (.slice e)) (hc : P.cellsOf e = d.sz) (h : Opens P e d ok) :
    Opens P t (Kd.slice e d) (fun xs => xs.length ≤ 9223372036854775807 ∧ ∀ x ∈ xs, ok x) := by
  intro H enc w base spare held fuel cs x hx
  rcases open_slice ht hx with ⟨rfl, _⟩ | ⟨a, len, cap, m, n, D, Pl, rfl, hb, hl, hm, hmm, _, hi⟩
  · exact ⟨[], ⟨none, 0, rfl, Nat.le_refl _, rfl, by simp, fun h => by simp at h⟩, by simp, by simp⟩
  · have hlm : len ≤ m := by rw [hmm]; split <;> omega
    unfold maxLen at hm
    have hm' : cap ≤ 9223372036854775807 := by simpa using hm
    have each : ∀ i : Fin len, ∃ y cs', w.cells? base (a.add (i.1 * P.cellsOf e)) (P.cellsOf e) = some cs' ∧ d.K w y cs' ∧ ok y := by
      intro i
      obtain ⟨cs', hcs, htr⟩ := hi i.1 (Nat.lt_of_lt_of_le i.2 hlm)
      obtain ⟨y, hk, ho⟩ := h H enc w base spare held n cs' _ htr
      exact ⟨y, cs', hcs, hk, ho⟩
    obtain ⟨f, hf⟩ := Classical.axiomOfChoice each
    refine ⟨List.ofFn f, ⟨some a, cap, by simp, by simpa using hl, by simp, by simp; omega, fun _ => ⟨a, rfl, ?_⟩⟩, by simp; omega, ?_⟩
    · intro j p hj
      have hjl : j < len := by
        have := (List.getElem?_eq_some_iff.1 hj).1
        simpa using this
      have hp : p = f ⟨j, hjl⟩ := by
        rw [List.getElem?_ofFn, dif_pos hjl] at hj
        exact (Option.some.inj hj).symm
      obtain ⟨cs', hcs, hk, _⟩ := hf ⟨j, hjl⟩
      refine ⟨cs', d.K_len hk, by rw [hp]; exact hk, fun i u hu => ?_⟩
      obtain ⟨_, hcl, hat⟩ := World.cells?_some hcs
      have hil : i < P.cellsOf e := by
        have := (List.getElem?_eq_some_iff.1 hu).1
        omega
      have := hat i hil
      rw [hu] at this
      rw [← Go.Deep.add_add, ← hc]
      exact this
    · intro y hy
      obtain ⟨i, hi'⟩ := List.getElem?_of_mem hy
      have hil : i < len := by
        have := (List.getElem?_eq_some_iff.1 hi').1
        simpa using this
      rw [List.getElem?_ofFn, dif_pos hil] at hi'
      obtain ⟨_, _, _, ho⟩ := hf ⟨i, hil⟩
      rw [← Option.some.inj hi']
      exact ho
/-- A struct's fields from a place on. -/
def OpensAt (P : Program) (total off : Nat) (fs : List Field) {α : Type} (d : Kd α) (ok : α → Prop) : Prop :=
  ∀ (H : Type) (enc : TypeId × Value → H) (w : World) (base : Nat) (spare : Nat → Bool) (held : Bool) (n : Nat) (cs : List Value), cs.length = total →
    (∀ f ∈ fs, ∃ y, DataW.trod enc P w base spare held n f.type ((cs.drop f.offset).take (P.cellsOf f.type)) = some y) → ∃ a, d.K w a (cs.drop off) ∧ ok a
theorem OpensAt.last {P : Program} {total off : Nat} {f : Field} {α : Type} {d : Kd α} {ok : α → Prop} (ho : f.offset = off) (hl : total = off + P.cellsOf f.type) (h : Opens P f.type d ok) : OpensAt P total off [f] d ok := by
  intro H enc w base spare held n cs hlen hf
  obtain ⟨y, hy⟩ := hf f (by simp)
  rw [ho, List.take_of_length_le (by rw [List.length_drop]; omega)] at hy
  exact h H enc w base spare held n _ y hy
theorem OpensAt.cons {P : Program} {total off : Nat} {f : Field} {fs : List Field} {α β : Type} {d : Kd α} {d' : Kd β} {ok : α → Prop} {ok' : β → Prop} (ho : f.offset = off) (h : Opens P f.type d ok)
    (h' : OpensAt P total (off + P.cellsOf f.type) fs d' ok') : OpensAt P total off (f :: fs) (Kd.pair d d') (fun x => ok x.1 ∧ ok' x.2) := by
  intro H enc w base spare held n cs hlen hf
  obtain ⟨y, hy⟩ := hf f (by simp)
  rw [ho] at hy
  obtain ⟨a, ha, hoa⟩ := h H enc w base spare held n _ y hy
  obtain ⟨b, hb, hob⟩ := h' H enc w base spare held n cs hlen (fun g hg => hf g (List.mem_cons_of_mem _ hg))
  exact ⟨(a, b), ⟨_, _, by rw [← List.drop_drop]; exact (List.take_append_drop (P.cellsOf f.type) (cs.drop off)).symm, ha, hb⟩, hoa, hob⟩
theorem Opens.struct {P : Program} {t : TypeId} {fs : Array Field} {α β : Type} {d : Kd α} {ok : α → Prop} (f : β → α) (g : α → β) (hfg : ∀ a, f (g a) = a) (ht : P.underlying t = some (.struct fs))
    (h : OpensAt P (P.cellsOf t) 0 fs.toList d ok) : Opens P t (Kd.iso d f) (fun y => ok (f y)) := by
  intro H enc w base spare held fuel cs x hx
  obtain ⟨xs, n, _, _, hlen, hxl, hg⟩ := DataW.trod_struct ht hx
  obtain ⟨a, ha, hoa⟩ := h H enc w base spare held n cs hlen (fun f hf => by
    obtain ⟨i, hi⟩ := List.getElem?_of_mem hf
    have hi' : fs[i]? = some f := by simpa using hi
    have := hg i f hi'
    have hil : i < xs.length := by
      have := (Array.getElem?_eq_some_iff.1 hi').1
      omega
    exact ⟨_, this.trans (List.getElem?_eq_getElem hil)⟩)
  refine ⟨g a, ?_, ?_⟩
  · show d.K w (f (g a)) cs
    rw [hfg]
    simpa using ha
  · show ok (f (g a))
    rw [hfg]
    exact hoa
theorem Opens.mono {P : Program} {t : TypeId} {α : Type} {d : Kd α} {ok ok' : α → Prop} (h : Opens P t d ok) (hm : ∀ a, ok a → ok' a) : Opens P t d ok' := by
  intro H enc w base spare held fuel cs x hx
  obtain ⟨a, ha, ho⟩ := h H enc w base spare held fuel cs x hx
  exact ⟨a, ha, hm a ho⟩
/-- A slice that came in. -/
theorem Opens.row {P : Program} {t e : TypeId} {α : Type} {d : Kd α} {ok : α → Prop} (ht : P.underlying t = some (.slice e)) (hc : P.cellsOf e = d.sz) (h : Opens P e d ok) {H : Type} {enc : TypeId × Value → H} {w : World} {base : Nat} {spare : Nat → Bool} {held : Bool}
    {A : Option Addr} {len cap : Nat} {x : DataW H} {ps : List MemPlace} (hx : DataW.Trod enc P w base spare held t (.slice A len cap) x ps) :
    ∃ xs : List α, len = xs.length ∧ d.C w A xs.length xs ∧ xs.length ≤ cap ∧ xs.length ≤ 9223372036854775807 ∧ ∀ y ∈ xs, ok y := by
  obtain ⟨fuel, hf⟩ := hx
  obtain ⟨xs, ⟨A', c', he, hl, hC⟩, h1, h2⟩ := Opens.slice ht hc h H enc w base spare held fuel _ _ hf
  simp only [Value.cells, List.cons.injEq, Value.slice.injEq, and_true] at he
  obtain ⟨rfl, rfl, rfl⟩ := he
  exact ⟨xs, rfl, hC, hl, h1, h2⟩
/-- A struct that came in by value. -/
theorem Opens.agg {P : Program} {t : TypeId} {fs : Array Field} {α : Type} {d : Kd α} {ok : α → Prop} (ht : P.underlying t = some (.struct fs)) (h : Opens P t d ok) {H : Type} {enc : TypeId × Value → H} {w : World} {base : Nat} {spare : Nat → Bool} {held : Bool} {r : Reach} {b0 : Nat}
    {v : Value} {x : DataW H} {ps : List MemPlace} (hv : Value.okWide P w r b0 t v) (hx : DataW.Trod enc P w base spare held t v x ps) : ∃ (y : α) (cs : List Value), v = .agg cs.toArray ∧ d.K w y cs ∧ ok y := by
  obtain ⟨cs, rfl, _⟩ := okWide_struct ht hv
  obtain ⟨fuel, hf⟩ := hx
  obtain ⟨y, hk, ho⟩ := h H enc w base spare held fuel _ _ hf
  exact ⟨y, cs.toList, by simp, by simpa [Value.cells] using hk, ho⟩
end Go.Proofs.Ytoonbcdkbdedkaa.Open

set_option linter.unusedVariables false
set_option linter.unusedSimpArgs false
set_option maxRecDepth 100000
namespace Go.Proofs.Ytoonbcdkbdedkaa.G
open Go.RowKit Go.Proofs.YtoonbcdkbdedkaaW.PrintWords Go.Proofs.YtoonbcdkbdedkaaW.PrintLast Go.Proofs.YtoonbcdkbdedkaaW.PrintMore Go.Proofs.Ytoonbcdkbdedkaa.Lim Go.Proofs.Ytoonbcdkbdedkaa.Open
/- needs: -/
/-! plain laws on numbers and lists -/
theorem wrap_id {x : Int} (h0 : -9223372036854775808 ≤ x) (h1 : x ≤ 9223372036854775807) : wrap64 x = x := by unfold wrap64; omega
theorem wrap_up (i : Nat) (h : i + 1 ≤ 9223372036854775807) : wrap64 ((i : Int) + 1) = ((i + 1 : Nat) : Int) := by unfold wrap64; omega
theorem wf_i64 {x : Int} (h : (Lit.int .i64 x).wf = true) : -9223372036854775808 ≤ x ∧ x ≤ 9223372036854775807 := by
  have e : (-9223372036854775808 ≤ x ∧ x ≤ 9223372036854775807) = (IntKind.min .i64 ≤ x ∧ x ≤ IntKind.max .i64) := rfl
  rw [e]
  simpa [Lit.wf] using h
theorem getD_of {α : Type} {l : List α} {i : Nat} {x d : α} (h : l[i]? = some x) : l.getD i d = x := by simp [List.getD, h]
theorem getD_int {α : Type} {l : List α} {i : Nat} {x d : α} (h : l[i]? = some x) : l.getD (i : Int).toNat d = x := by simp [List.getD, h]
theorem rd_at {l : List Int} {i : Nat} {x : Int} (h : l[i]? = some x) : rd l (i : Int) = x := getD_int h
theorem rdOf_at {α : Type} {l : List α} {i : Nat} {x d : α} (h : l[i]? = some x) : rdOf d l (i : Int) = x := getD_int h
theorem drop_at {α : Type} {l : List α} {i : Nat} (h : i < l.length) : ∃ x, l[i]? = some x ∧ l.drop i = x :: l.drop (i + 1) := ⟨l[i], List.getElem?_eq_getElem h, by rw [List.drop_eq_getElem_cons h]⟩
/-- A loop over the indices of a list: what it comes to is told by G on what is left. -/
theorem loop_drop {σ ρ α : Type} (l : List α) (F : σ → Int → Option ρ) (G : σ → List α → ρ) (Inv : σ → Nat → Prop)
    (hend : ∀ s, Inv s l.length → F s (l.length : Int) = some (G s []))
    (hstep : ∀ s (i : Nat) x, Inv s i → i < l.length → l[i]? = some x →
      (F s (i : Int) = some (G s (x :: l.drop (i + 1)))) ∨ ∃ s', Inv s' (i + 1) ∧ F s (i : Int) = F s' ((i + 1 : Nat) : Int) ∧ G s (x :: l.drop (i + 1)) = G s' (l.drop (i + 1))) :
    ∀ (s : σ) (i : Nat), i ≤ l.length → Inv s i → F s (i : Int) = some (G s (l.drop i)) := by
  have key : ∀ (d : Nat) (s : σ) (i : Nat), l.length - i = d → i ≤ l.length → Inv s i → F s (i : Int) = some (G s (l.drop i)) := by
    intro d
    induction d with
    | zero =>
      intro s i hd hi hs
      have : i = l.length := by omega
      subst this
      rw [List.drop_length]
      exact hend s hs
    | succ d ih =>
      intro s i hd hi hs
      have hlt : i < l.length := by omega
      obtain ⟨x, hx, hdr⟩ := drop_at hlt
      rw [hdr]
      rcases hstep s i x hs hlt hx with h | ⟨s', hs', h1, h2⟩
      · exact h
      · rw [h1, h2]
        exact ih s' (i + 1) (by omega) (by omega) hs'
  exact fun s i => key _ s i rfl
theorem sum_mem {α : Type} {f : α → Nat} {l : List α} {x : α} (h : x ∈ l) : f x ≤ (l.map f).sum := by
  induction l with
  | nil => simp at h
  | cons y l ih =>
    rcases List.mem_cons.1 h with rfl | h
    · simp
    · have := ih h
      simp only [List.map_cons, List.sum_cons]
      omega
theorem fill_step {α β : Type} (l : List α) (f : α → β) (s : List β) (i : Nat) (x : α) (hx : l[i]? = some x) (hs : s.length = l.length) (ht : s.take i = (l.map f).take i) : (s.set i (f x)).take (i + 1) = (l.map f).take (i + 1) := by
  have hi : i < l.length := (List.getElem?_eq_some_iff.1 hx).1
  have e1 : (s.set i (f x)).take i = (l.map f).take i := by rw [List.take_set_of_le (Nat.le_refl _)]; exact ht
  rw [List.take_add_one, List.take_add_one, e1]
  congr 1
  rw [List.getElem?_set_self (by omega), List.getElem?_map, hx]
  rfl
theorem down_ind {n : Nat} {P : Nat → Prop} (hend : P n) (hstep : ∀ i, i < n → P (i + 1) → P i) : ∀ i, i ≤ n → P i := by
  have key : ∀ d i, n - i = d → i ≤ n → P i := by
    intro d
    induction d with
    | zero =>
      intro i h hi
      have e : i = n := by omega
      rw [e]
      exact hend
    | succ d ih => intro i h hi; exact hstep i (by omega) (ih (i + 1) (by omega) (by omega))
  exact fun i => key _ i rfl
theorem get_at {α : Type} {l : List α} {i : Nat} (h : i < l.length) : ∃ x, l[i]? = some x ∧ x ∈ l := ⟨l[i], List.getElem?_eq_getElem h, List.getElem_mem h⟩
theorem wrap_down (i : Nat) (h : 0 < i) (hi : i ≤ 9223372036854775807) : wrap64 ((i : Int) - 1) = ((i - 1 : Nat) : Int) := by unfold wrap64; omega
theorem bind_eq {α β : Type} {x : Option α} {a : α} {f : α → Option β} (h : x = some a) : x.bind f = f a := by rw [h]; rfl
theorem set_mid {α : Type} (d r : List α) (x v : α) : (d ++ x :: r).set ((d.length : Nat) : Int).toNat v = d ++ v :: r := by
  rw [Int.toNat_natCast, List.set_append_right _ _ (Nat.le_refl _), Nat.sub_self]
  rfl
theorem getD_mid {α : Type} (d r : List α) (x z : α) : (d ++ x :: r).getD ((d.length : Nat) : Int).toNat z = x := by simp [List.getD]
theorem app_one {α : Type} (d r : List α) (x : α) : d ++ x :: r = (d ++ [x]) ++ r := by simp

end Go.Proofs.Ytoonbcdkbdedkaa.G

set_option linter.unusedVariables false
set_option linter.unusedSimpArgs false
set_option maxRecDepth 100000
namespace Go.Proofs.Ytoonbcdkbdedkaa.G
open Go.RowKit Go.Proofs.YtoonbcdkbdedkaaW.PrintWords Go.Proofs.YtoonbcdkbdedkaaW.PrintLast Go.Proofs.YtoonbcdkbdedkaaW.PrintMore Go.Proofs.Ytoonbcdkbdedkaa.Lim Go.Proofs.Ytoonbcdkbdedkaa.Open
/-! laws.Reason -/
theorem rd95_at {l : List S95} {i : Nat} {x : S95} (h : l[i]? = some x) : rd_T95 l (i : Int) = x := getD_int h
def ok95 (y : S95) : Prop := (Lit.int .i64 y.f0).wf = true ∧ (Lit.int .i64 y.f1).wf = true ∧ (Lit.int .i64 y.f2).wf = true
theorem opens95 : Opens Try.prog 95 k95 ok95 := Opens.struct (fun x : S95 => (x.f0, x.f1, x.f2)) (fun a => ⟨a.1, a.2.1, a.2.2⟩) (fun _ => rfl) Try.underlying95 (OpensAt.cons (by kernel_rfl) (Opens.int Try.underlying3) (OpensAt.cons (by kernel_rfl) (Opens.int Try.underlying3) (OpensAt.last (by kernel_rfl) (by kernel_rfl) (Opens.int Try.underlying3))))
/-! impl.Reason -/
theorem rd93_at {l : List S93} {i : Nat} {x : S93} (h : l[i]? = some x) : rd_T93 l (i : Int) = x := getD_int h
def ok93 (y : S93) : Prop := (Lit.int .i64 y.f0).wf = true ∧ (Lit.int .i64 y.f1).wf = true ∧ (Lit.int .i64 y.f2).wf = true
theorem opens93 : Opens Try.prog 93 k93 ok93 := Opens.struct (fun x : S93 => (x.f0, x.f1, x.f2)) (fun a => ⟨a.1, a.2.1, a.2.2⟩) (fun _ => rfl) Try.underlying93 (OpensAt.cons (by kernel_rfl) (Opens.int Try.underlying3) (OpensAt.cons (by kernel_rfl) (Opens.int Try.underlying3) (OpensAt.last (by kernel_rfl) (by kernel_rfl) (Opens.int Try.underlying3))))
/-! laws.Level -/
theorem rd101_at {l : List S101} {i : Nat} {x : S101} (h : l[i]? = some x) : rd_T101 l (i : Int) = x := getD_int h
def ok101 (y : S101) : Prop := (Lit.int .i64 y.f0).wf = true ∧ (Lit.int .i64 y.f1).wf = true ∧ (Lit.int .i64 y.f2).wf = true
theorem opens101 : Opens Try.prog 101 k101 ok101 := Opens.struct (fun x : S101 => (x.f0, x.f1, x.f2)) (fun a => ⟨a.1, a.2.1, a.2.2⟩) (fun _ => rfl) Try.underlying101 (OpensAt.cons (by kernel_rfl) (Opens.int Try.underlying3) (OpensAt.cons (by kernel_rfl) (Opens.int Try.underlying3) (OpensAt.last (by kernel_rfl) (by kernel_rfl) (Opens.int Try.underlying3))))
/-! impl.Level -/
theorem rd99_at {l : List S99} {i : Nat} {x : S99} (h : l[i]? = some x) : rd_T99 l (i : Int) = x := getD_int h
def ok99 (y : S99) : Prop := (Lit.int .i64 y.f0).wf = true ∧ (Lit.int .i64 y.f1).wf = true ∧ (Lit.int .i64 y.f2).wf = true
theorem opens99 : Opens Try.prog 99 k99 ok99 := Opens.struct (fun x : S99 => (x.f0, x.f1, x.f2)) (fun a => ⟨a.1, a.2.1, a.2.2⟩) (fun _ => rfl) Try.underlying99 (OpensAt.cons (by kernel_rfl) (Opens.int Try.underlying3) (OpensAt.cons (by kernel_rfl) (Opens.int Try.underlying3) (OpensAt.last (by kernel_rfl) (by kernel_rfl) (Opens.int Try.underlying3))))
/-! laws.Point -/
theorem rd134_at {l : List S134} {i : Nat} {x : S134} (h : l[i]? = some x) : rd_T134 l (i : Int) = x := getD_int h
def ok134 (y : S134) : Prop := (Lit.int .i64 y.f0).wf = true ∧ (Lit.int .i64 y.f1).wf = true
theorem opens134 : Opens Try.prog 134 k134 ok134 := Opens.struct (fun x : S134 => (x.f0, x.f1)) (fun a => ⟨a.1, a.2⟩) (fun _ => rfl) Try.underlying134 (OpensAt.cons (by kernel_rfl) (Opens.int Try.underlying3) (OpensAt.last (by kernel_rfl) (by kernel_rfl) (Opens.int Try.underlying3)))
/-! impl.Point -/
theorem rd56_at {l : List S56} {i : Nat} {x : S56} (h : l[i]? = some x) : rd_T56 l (i : Int) = x := getD_int h
def ok56 (y : S56) : Prop := (Lit.int .i64 y.f0).wf = true ∧ (Lit.int .i64 y.f1).wf = true
theorem opens56 : Opens Try.prog 56 k56 ok56 := Opens.struct (fun x : S56 => (x.f0, x.f1)) (fun a => ⟨a.1, a.2⟩) (fun _ => rfl) Try.underlying56 (OpensAt.cons (by kernel_rfl) (Opens.int Try.underlying3) (OpensAt.last (by kernel_rfl) (by kernel_rfl) (Opens.int Try.underlying3)))
/-! laws.Listing -/
theorem rd110_at {l : List S110} {i : Nat} {x : S110} (h : l[i]? = some x) : rd_T110 l (i : Int) = x := getD_int h
def ok110 (y : S110) : Prop := y.f0.size ≤ 9223372036854775807 ∧ (Lit.int .i64 y.f1).wf = true ∧ y.f2.size ≤ 9223372036854775807
theorem opens110 : Opens Try.prog 110 k110 ok110 := Opens.struct (fun x : S110 => (x.f0, x.f1, x.f2)) (fun a => ⟨a.1, a.2.1, a.2.2⟩) (fun _ => rfl) Try.underlying110 (OpensAt.cons (by kernel_rfl) (Opens.string Try.underlying9) (OpensAt.cons (by kernel_rfl) (Opens.int Try.underlying3) (OpensAt.last (by kernel_rfl) (by kernel_rfl) (Opens.string Try.underlying9))))
/-! impl.Listing -/
theorem rd111_at {l : List S111} {i : Nat} {x : S111} (h : l[i]? = some x) : rd_T111 l (i : Int) = x := getD_int h
def ok111 (y : S111) : Prop := y.f0.size ≤ 9223372036854775807 ∧ (Lit.int .i64 y.f1).wf = true ∧ y.f2.size ≤ 9223372036854775807
theorem opens111 : Opens Try.prog 111 k111 ok111 := Opens.struct (fun x : S111 => (x.f0, x.f1, x.f2)) (fun a => ⟨a.1, a.2.1, a.2.2⟩) (fun _ => rfl) Try.underlying111 (OpensAt.cons (by kernel_rfl) (Opens.string Try.underlying9) (OpensAt.cons (by kernel_rfl) (Opens.int Try.underlying3) (OpensAt.last (by kernel_rfl) (by kernel_rfl) (Opens.string Try.underlying9))))
/-! laws.Feature -/
theorem rd43_at {l : List S43} {i : Nat} {x : S43} (h : l[i]? = some x) : rd_T43 l (i : Int) = x := getD_int h
def ok43 (y : S43) : Prop := (Lit.int .i64 y.f0).wf = true ∧ (Lit.int .i64 y.f1).wf = true ∧ (Lit.int .i64 y.f2).wf = true ∧ y.f3.size ≤ 9223372036854775807 ∧ (y.f4.length ≤ 9223372036854775807 ∧ ∀ z ∈ y.f4, ok134 z)
theorem opens43 : Opens Try.prog 43 k43 ok43 := Opens.struct (fun x : S43 => (x.f0, x.f1, x.f2, x.f3, x.f4)) (fun a => ⟨a.1, a.2.1, a.2.2.1, a.2.2.2.1, a.2.2.2.2⟩) (fun _ => rfl) Try.underlying43 (OpensAt.cons (by kernel_rfl) (Opens.int Try.underlying3) (OpensAt.cons (by kernel_rfl) (Opens.int Try.underlying3) (OpensAt.cons (by kernel_rfl) (Opens.int Try.underlying3) (OpensAt.cons (by kernel_rfl) (Opens.string Try.underlying9) (OpensAt.last (by kernel_rfl) (by kernel_rfl) (Opens.slice Try.underlying41 (by kernel_rfl) opens134))))))
/-! laws.Edition -/
theorem rd118_at {l : List S118} {i : Nat} {x : S118} (h : l[i]? = some x) : rd_T118 l (i : Int) = x := getD_int h
def ok118 (y : S118) : Prop := (Lit.int .i64 y.f0).wf = true ∧ (y.f1.length ≤ 9223372036854775807 ∧ ∀ z ∈ y.f1, ok43 z) ∧ (Lit.int .i64 y.f2).wf = true
theorem opens118 : Opens Try.prog 118 k118 ok118 := Opens.struct (fun x : S118 => (x.f0, x.f1, x.f2)) (fun a => ⟨a.1, a.2.1, a.2.2⟩) (fun _ => rfl) Try.underlying118 (OpensAt.cons (by kernel_rfl) (Opens.int Try.underlying3) (OpensAt.cons (by kernel_rfl) (Opens.slice Try.underlying116 (by kernel_rfl) opens43) (OpensAt.last (by kernel_rfl) (by kernel_rfl) (Opens.int Try.underlying3))))
/-! impl.Feature -/
theorem rd50_at {l : List S50} {i : Nat} {x : S50} (h : l[i]? = some x) : rd_T50 l (i : Int) = x := getD_int h
def ok50 (y : S50) : Prop := (Lit.int .i64 y.f0).wf = true ∧ (Lit.int .i64 y.f1).wf = true ∧ (Lit.int .i64 y.f2).wf = true ∧ y.f3.size ≤ 9223372036854775807 ∧ (y.f4.length ≤ 9223372036854775807 ∧ ∀ z ∈ y.f4, ok56 z)
theorem opens50 : Opens Try.prog 50 k50 ok50 := Opens.struct (fun x : S50 => (x.f0, x.f1, x.f2, x.f3, x.f4)) (fun a => ⟨a.1, a.2.1, a.2.2.1, a.2.2.2.1, a.2.2.2.2⟩) (fun _ => rfl) Try.underlying50 (OpensAt.cons (by kernel_rfl) (Opens.int Try.underlying3) (OpensAt.cons (by kernel_rfl) (Opens.int Try.underlying3) (OpensAt.cons (by kernel_rfl) (Opens.int Try.underlying3) (OpensAt.cons (by kernel_rfl) (Opens.string Try.underlying9) (OpensAt.last (by kernel_rfl) (by kernel_rfl) (Opens.slice Try.underlying48 (by kernel_rfl) opens56))))))
/-! impl.Edition -/
theorem rd121_at {l : List S121} {i : Nat} {x : S121} (h : l[i]? = some x) : rd_T121 l (i : Int) = x := getD_int h
def ok121 (y : S121) : Prop := (Lit.int .i64 y.f0).wf = true ∧ (y.f1.length ≤ 9223372036854775807 ∧ ∀ z ∈ y.f1, ok50 z) ∧ (Lit.int .i64 y.f2).wf = true
theorem opens121 : Opens Try.prog 121 k121 ok121 := Opens.struct (fun x : S121 => (x.f0, x.f1, x.f2)) (fun a => ⟨a.1, a.2.1, a.2.2⟩) (fun _ => rfl) Try.underlying121 (OpensAt.cons (by kernel_rfl) (Opens.int Try.underlying3) (OpensAt.cons (by kernel_rfl) (Opens.slice Try.underlying119 (by kernel_rfl) opens50) (OpensAt.last (by kernel_rfl) (by kernel_rfl) (Opens.int Try.underlying3))))
/-! laws.Entry -/
theorem rd45_at {l : List S45} {i : Nat} {x : S45} (h : l[i]? = some x) : rd_T45 l (i : Int) = x := getD_int h
def ok45 (y : S45) : Prop := ok43 y.f0 ∧ (Lit.int .i64 y.f1).wf = true ∧ (Lit.int .i64 y.f2).wf = true ∧ True
theorem opens45 : Opens Try.prog 45 k45 ok45 := Opens.struct (fun x : S45 => (x.f0, x.f1, x.f2, x.f3)) (fun a => ⟨a.1, a.2.1, a.2.2.1, a.2.2.2⟩) (fun _ => rfl) Try.underlying45 (OpensAt.cons (by kernel_rfl) opens43 (OpensAt.cons (by kernel_rfl) (Opens.int Try.underlying3) (OpensAt.cons (by kernel_rfl) (Opens.int Try.underlying3) (OpensAt.last (by kernel_rfl) (by kernel_rfl) (Opens.bool Try.underlying4)))))
/-! impl.Entry -/
theorem rd52_at {l : List S52} {i : Nat} {x : S52} (h : l[i]? = some x) : rd_T52 l (i : Int) = x := getD_int h
def ok52 (y : S52) : Prop := ok50 y.f0 ∧ (Lit.int .i64 y.f1).wf = true ∧ (Lit.int .i64 y.f2).wf = true ∧ True
theorem opens52 : Opens Try.prog 52 k52 ok52 := Opens.struct (fun x : S52 => (x.f0, x.f1, x.f2, x.f3)) (fun a => ⟨a.1, a.2.1, a.2.2.1, a.2.2.2⟩) (fun _ => rfl) Try.underlying52 (OpensAt.cons (by kernel_rfl) opens50 (OpensAt.cons (by kernel_rfl) (Opens.int Try.underlying3) (OpensAt.cons (by kernel_rfl) (Opens.int Try.underlying3) (OpensAt.last (by kernel_rfl) (by kernel_rfl) (Opens.bool Try.underlying4)))))
def cv95 (x : S95) : S93 := ⟨x.f0, x.f1, x.f2⟩
def cv101 (x : S101) : S99 := ⟨x.f0, x.f1, x.f2⟩
def cv134 (x : S134) : S56 := ⟨x.f0, x.f1⟩
def cv110 (x : S110) : S111 := ⟨x.f0, x.f1, x.f2⟩
def cv43 (x : S43) : S50 := ⟨x.f0, x.f1, x.f2, x.f3, x.f4.map cv134⟩
def cv118 (x : S118) : S121 := ⟨x.f0, x.f1.map cv43, x.f2⟩
def cv45 (x : S45) : S52 := ⟨cv43 x.f0, x.f1, x.f2, x.f3⟩
def wt95 (x : S95) : Nat := 0
def wtl95 (l : List S95) : Nat := l.length
theorem wtl95_len (l : List S95) : l.length ≤ wtl95 l := Nat.le_refl _
def wt93 (x : S93) : Nat := 0
def wtl93 (l : List S93) : Nat := l.length
theorem wtl93_len (l : List S93) : l.length ≤ wtl93 l := Nat.le_refl _
def wt101 (x : S101) : Nat := 0
def wtl101 (l : List S101) : Nat := l.length
theorem wtl101_len (l : List S101) : l.length ≤ wtl101 l := Nat.le_refl _
def wt99 (x : S99) : Nat := 0
def wtl99 (l : List S99) : Nat := l.length
theorem wtl99_len (l : List S99) : l.length ≤ wtl99 l := Nat.le_refl _
def wt134 (x : S134) : Nat := 0
def wtl134 (l : List S134) : Nat := l.length
theorem wtl134_len (l : List S134) : l.length ≤ wtl134 l := Nat.le_refl _
def wt56 (x : S56) : Nat := 0
def wtl56 (l : List S56) : Nat := l.length
theorem wtl56_len (l : List S56) : l.length ≤ wtl56 l := Nat.le_refl _
def wt110 (x : S110) : Nat := x.f0.size + x.f2.size
def wtl110 (l : List S110) : Nat := l.length + (l.map wt110).sum
theorem wtl110_mem {l : List S110} {x : S110} (h : x ∈ l) : wt110 x ≤ wtl110 l := Nat.le_trans (sum_mem h) (Nat.le_add_left _ _)
theorem wtl110_len (l : List S110) : l.length ≤ wtl110 l := Nat.le_add_right _ _
def wt111 (x : S111) : Nat := x.f0.size + x.f2.size
def wtl111 (l : List S111) : Nat := l.length + (l.map wt111).sum
theorem wtl111_mem {l : List S111} {x : S111} (h : x ∈ l) : wt111 x ≤ wtl111 l := Nat.le_trans (sum_mem h) (Nat.le_add_left _ _)
theorem wtl111_len (l : List S111) : l.length ≤ wtl111 l := Nat.le_add_right _ _
def wt43 (x : S43) : Nat := x.f3.size + wtl134 x.f4
def wtl43 (l : List S43) : Nat := l.length + (l.map wt43).sum
theorem wtl43_mem {l : List S43} {x : S43} (h : x ∈ l) : wt43 x ≤ wtl43 l := Nat.le_trans (sum_mem h) (Nat.le_add_left _ _)
theorem wtl43_len (l : List S43) : l.length ≤ wtl43 l := Nat.le_add_right _ _
def ln43 (x : S43) : Prop := (x.f4.length ≤ 9223372036854775807)
def wt118 (x : S118) : Nat := wtl43 x.f1
def wtl118 (l : List S118) : Nat := l.length + (l.map wt118).sum
theorem wtl118_mem {l : List S118} {x : S118} (h : x ∈ l) : wt118 x ≤ wtl118 l := Nat.le_trans (sum_mem h) (Nat.le_add_left _ _)
theorem wtl118_len (l : List S118) : l.length ≤ wtl118 l := Nat.le_add_right _ _
def ln118 (x : S118) : Prop := (x.f1.length ≤ 9223372036854775807 ∧ ∀ y ∈ x.f1, ln43 y)
def wt50 (x : S50) : Nat := x.f3.size + wtl56 x.f4
def wtl50 (l : List S50) : Nat := l.length + (l.map wt50).sum
theorem wtl50_mem {l : List S50} {x : S50} (h : x ∈ l) : wt50 x ≤ wtl50 l := Nat.le_trans (sum_mem h) (Nat.le_add_left _ _)
theorem wtl50_len (l : List S50) : l.length ≤ wtl50 l := Nat.le_add_right _ _
def ln50 (x : S50) : Prop := (x.f4.length ≤ 9223372036854775807)
def wt121 (x : S121) : Nat := wtl50 x.f1
def wtl121 (l : List S121) : Nat := l.length + (l.map wt121).sum
theorem wtl121_mem {l : List S121} {x : S121} (h : x ∈ l) : wt121 x ≤ wtl121 l := Nat.le_trans (sum_mem h) (Nat.le_add_left _ _)
theorem wtl121_len (l : List S121) : l.length ≤ wtl121 l := Nat.le_add_right _ _
def ln121 (x : S121) : Prop := (x.f1.length ≤ 9223372036854775807 ∧ ∀ y ∈ x.f1, ln50 y)
def wt45 (x : S45) : Nat := wt43 x.f0
def wtl45 (l : List S45) : Nat := l.length + (l.map wt45).sum
theorem wtl45_mem {l : List S45} {x : S45} (h : x ∈ l) : wt45 x ≤ wtl45 l := Nat.le_trans (sum_mem h) (Nat.le_add_left _ _)
theorem wtl45_len (l : List S45) : l.length ≤ wtl45 l := Nat.le_add_right _ _
def ln45 (x : S45) : Prop := ln43 x.f0
def wt52 (x : S52) : Nat := wt50 x.f0
def wtl52 (l : List S52) : Nat := l.length + (l.map wt52).sum
theorem wtl52_mem {l : List S52} {x : S52} (h : x ∈ l) : wt52 x ≤ wtl52 l := Nat.le_trans (sum_mem h) (Nat.le_add_left _ _)
theorem wtl52_len (l : List S52) : l.length ≤ wtl52 l := Nat.le_add_right _ _
def ln52 (x : S52) : Prop := ln50 x.f0
end Go.Proofs.Ytoonbcdkbdedkaa.G

set_option linter.unusedVariables false
set_option linter.unusedSimpArgs false
set_option maxRecDepth 100000
namespace Go.Proofs.Ytoonbcdkbdedkaa.G
open Go.RowKit Go.Proofs.YtoonbcdkbdedkaaW.PrintWords Go.Proofs.YtoonbcdkbdedkaaW.PrintLast Go.Proofs.YtoonbcdkbdedkaaW.PrintMore Go.Proofs.Ytoonbcdkbdedkaa.Lim Go.Proofs.Ytoonbcdkbdedkaa.Open
noncomputable def laws_markText.Ll0 (x0 : Int) (x3 : ByteArray) : Option (ByteArray) := lim (fun k => laws_markText.l0 k x0 x3)
theorem laws_markText.Ll0_lm (x0 : Int) (x3 : ByteArray) : Lm (fun k => laws_markText.l0 k x0 x3) (laws_markText.Ll0 x0 x3) := Lm.of (fun k => laws_markText.mono_l k x0 x3)
noncomputable def laws_markText.L (a0 : Int) : Option (ByteArray) := lim (fun k => laws_markText.f k a0)
theorem laws_markText.L_lm (a0 : Int) : Lm (fun k => laws_markText.f k a0) (laws_markText.L a0) := Lm.of (fun k => laws_markText.mono a0 k)
theorem laws_markText.Ll0_eq (x0 : Int) (x3 : ByteArray) : laws_markText.Ll0 x0 x3 = (if x0 > 0 then ((some (([(wrap64 (48 + (Int.tmod x0 10))) % 256] : List Int) : List Int)).bind fun y407 => (if (strOfNums y407).size + x3.size ≤ 9223372036854775807 then (laws_markText.Ll0 (wrap64 (Int.tdiv x0 10)) ((strOfNums y407) ++ x3)) else (none))) else (if 1 + x3.size ≤ 9223372036854775807 then (some ((⟨#[109]⟩ : ByteArray) ++ x3)) else (none)) : Option (ByteArray)) := by
  refine (laws_markText.Ll0_lm x0 x3).eq (Lm.step (laws_markText.Ll0_lm x0 x3).mono ?_)
  show Lm (fun k => (if x0 > 0 then ((some (([(wrap64 (48 + (Int.tmod x0 10))) % 256] : List Int) : List Int)).bind fun y407 => (if (strOfNums y407).size + x3.size ≤ 9223372036854775807 then (laws_markText.l0 k (wrap64 (Int.tdiv x0 10)) ((strOfNums y407) ++ x3)) else (none))) else (if 1 + x3.size ≤ 9223372036854775807 then (some ((⟨#[109]⟩ : ByteArray) ++ x3)) else (none)) : Option (ByteArray))) _
  repeat' first
  | (with_reducible exact laws_markText.Ll0_lm _ _)
  | (with_reducible exact Lm.now _)
  | (with_reducible refine Lm.ite ?_ ?_)
  | (with_reducible refine Lm.bind ?_ (fun _ => ?_))
  | exact laws_markText.Ll0_lm _ _
  | exact Lm.now _
  | refine Lm.ite ?_ ?_
  | refine Lm.bind ?_ (fun _ => ?_)
theorem laws_markText.L_eq (a0 : Int) : laws_markText.L a0 = (if a0 ≤ 0 then (some (⟨#[109, 48]⟩ : ByteArray)) else (laws_markText.Ll0 a0 (⟨#[]⟩ : ByteArray)) : Option (ByteArray)) := by
  refine (laws_markText.L_lm a0).eq ?_
  show Lm (fun k => (if a0 ≤ 0 then (some (⟨#[109, 48]⟩ : ByteArray)) else (laws_markText.l0 k a0 (⟨#[]⟩ : ByteArray)) : Option (ByteArray))) _
  repeat' first
  | (with_reducible exact laws_markText.Ll0_lm _ _)
  | (with_reducible exact Lm.now _)
  | (with_reducible refine Lm.ite ?_ ?_)
  | (with_reducible refine Lm.bind ?_ (fun _ => ?_))
  | exact laws_markText.Ll0_lm _ _
  | exact Lm.now _
  | refine Lm.ite ?_ ?_
  | refine Lm.bind ?_ (fun _ => ?_)
/- needs: -/
theorem laws_markText.loop (n : Nat) : ∀ (x : Int) (s : ByteArray), 0 ≤ x → x ≤ n → (s.size : Int) + x ≤ 9223372036854775800 → ∃ r, laws_markText.Ll0 x s = some r := by
  induction n using Nat.strongRecOn with
  | ind n ih =>
    intro x s h0 hn hs
    rw [laws_markText.Ll0_eq]
    by_cases c : x > 0
    · rw [if_pos c, Option.bind_some, if_pos (by rw [Go.strOfNums_size]; simp; omega)]
      have e : wrap64 (Int.tdiv x 10) = x / 10 := by
        rw [Int.tdiv_eq_ediv_of_nonneg h0]
        exact wrap_id (by omega) (by omega)
      rw [e]
      refine ih (x / 10).toNat (by omega) _ _ (by omega) (by omega) ?_
      rw [ByteArray.size_append, Go.strOfNums_size]
      simp
      omega
    · rw [if_neg c, if_pos (by omega)]
      exact ⟨_, rfl⟩
noncomputable def mt (k : Int) : ByteArray := (laws_markText.L k).getD ByteArray.empty
theorem laws_markText.R (k : Int) (h1 : k ≤ 4611686018427387904) : laws_markText.L k = some (mt k) := by
  have h : ∃ r, laws_markText.L k = some r := by
    rw [laws_markText.L_eq]
    by_cases c : k ≤ 0
    · rw [if_pos c]; exact ⟨_, rfl⟩
    · rw [if_neg c]
      exact laws_markText.loop k.toNat k _ (by omega) (by omega) (by simp [ByteArray.size]; omega)
  obtain ⟨r, hr⟩ := h
  unfold mt
  rw [hr]
  rfl

end Go.Proofs.Ytoonbcdkbdedkaa.G

set_option linter.unusedVariables false
set_option linter.unusedSimpArgs false
set_option maxRecDepth 100000
namespace Go.Proofs.Ytoonbcdkbdedkaa.G
open Go.RowKit Go.Proofs.YtoonbcdkbdedkaaW.PrintWords Go.Proofs.YtoonbcdkbdedkaaW.PrintLast Go.Proofs.YtoonbcdkbdedkaaW.PrintMore Go.Proofs.Ytoonbcdkbdedkaa.Lim Go.Proofs.Ytoonbcdkbdedkaa.Open
noncomputable def laws_markStringS.Ll0 (x0 : List ByteArray) (x1 : Int) (x5 : Int) : Option (Int × List ByteArray) := lim (fun k => laws_markStringS.l0 k x0 x1 x5)
theorem laws_markStringS.Ll0_lm (x0 : List ByteArray) (x1 : Int) (x5 : Int) : Lm (fun k => laws_markStringS.l0 k x0 x1 x5) (laws_markStringS.Ll0 x0 x1 x5) := Lm.of (fun k => laws_markStringS.mono_l k x0 x1 x5)
noncomputable def laws_markStringS.L (l0 : List ByteArray) (a1 : Int) : Option (Int × List ByteArray) := lim (fun k => laws_markStringS.f k l0 a1)
theorem laws_markStringS.L_lm (l0 : List ByteArray) (a1 : Int) : Lm (fun k => laws_markStringS.f k l0 a1) (laws_markStringS.L l0 a1) := Lm.of (fun k => laws_markStringS.mono l0 a1 k)
theorem laws_markStringS.Ll0_eq (x0 : List ByteArray) (x1 : Int) (x5 : Int) : laws_markStringS.Ll0 x0 x1 x5 = (if x5 < (x0.length : Int) then ((laws_markText.L x1).bind fun t522 => (if 0 ≤ x5 then (laws_markStringS.Ll0 (x0.set (x5 : Int).toNat t522) (wrap64 (x1 + 1)) (wrap64 (x5 + 1))) else (none))) else (some (x1, x0)) : Option (Int × List ByteArray)) := by
  refine (laws_markStringS.Ll0_lm x0 x1 x5).eq (Lm.step (laws_markStringS.Ll0_lm x0 x1 x5).mono ?_)
  show Lm (fun k => (if x5 < (x0.length : Int) then ((laws_markText.f k x1).bind fun t522 => (if 0 ≤ x5 then (laws_markStringS.l0 k (x0.set (x5 : Int).toNat t522) (wrap64 (x1 + 1)) (wrap64 (x5 + 1))) else (none))) else (some (x1, x0)) : Option (Int × List ByteArray))) _
  repeat' first
  | (with_reducible exact laws_markText.L_lm _)
  | (with_reducible exact laws_markStringS.Ll0_lm _ _ _)
  | (with_reducible exact Lm.now _)
  | (with_reducible refine Lm.ite ?_ ?_)
  | (with_reducible refine Lm.bind ?_ (fun _ => ?_))
  | exact laws_markText.L_lm _
  | exact laws_markStringS.Ll0_lm _ _ _
  | exact Lm.now _
  | refine Lm.ite ?_ ?_
  | refine Lm.bind ?_ (fun _ => ?_)
theorem laws_markStringS.L_eq (l0 : List ByteArray) (a1 : Int) : laws_markStringS.L l0 a1 = (laws_markStringS.Ll0 l0 a1 0 : Option (Int × List ByteArray)) := by
  refine (laws_markStringS.L_lm l0 a1).eq ?_
  show Lm (fun k => (laws_markStringS.l0 k l0 a1 0 : Option (Int × List ByteArray))) _
  repeat' first
  | (with_reducible exact laws_markStringS.Ll0_lm _ _ _)
  | (with_reducible exact Lm.now _)
  | (with_reducible refine Lm.ite ?_ ?_)
  | (with_reducible refine Lm.bind ?_ (fun _ => ?_))
  | exact laws_markStringS.Ll0_lm _ _ _
  | exact Lm.now _
  | refine Lm.ite ?_ ?_
  | refine Lm.bind ?_ (fun _ => ?_)
/- needs: -/
noncomputable def mklS : Int → List ByteArray → List ByteArray
  | _, [] => []
  | k, _ :: r => mt k :: mklS (k + 1) r
theorem rdS_mid (d r : List ByteArray) (x : ByteArray) : rdOf ByteArray.empty (d ++ x :: r) ((d.length : Nat) : Int) = x := getD_mid d r x _
theorem laws_markStringS.loop (r : List ByteArray) : ∀ (d : List ByteArray) (k : Int), 0 ≤ k → k + r.length ≤ 4611686018427387904 → ((d.length : Nat) : Int) + r.length ≤ 4611686018427387904 → laws_markStringS.Ll0 (d ++ r) k d.length = some (k + r.length, d ++ mklS k r) := by
  induction r with
  | nil => intro d k _ _ _; rw [laws_markStringS.Ll0_eq, if_neg (by simp)]; simp [mklS]
  | cons x r ih0 =>
    intro d k h0 h1 h2
    simp only [List.length_cons] at h1 h2
    have w1 : wrap64 (k + 1) = k + 1 := wrap_id (by omega) (by omega)
    have ih := ih0 (d ++ [mt k]) (k + 1) (by omega) (by omega) (by simp; omega)
    rw [laws_markStringS.Ll0_eq, if_pos (by simp; omega), laws_markText.R k (by omega), Option.bind_some, if_pos (by omega), set_mid, w1, wrap_up d.length (by omega), app_one]
    have e : ((d.length + 1 : Nat) : Int) = ((d ++ [mt k]).length : Int) := by simp
    rw [e, ih]
    simp [mklS]; omega
theorem laws_markStringS.R (l : List ByteArray) (k : Int) (h0 : 0 ≤ k) (h1 : k + l.length ≤ 4611686018427387904) : laws_markStringS.L l k = some (k + l.length, mklS k l) := by
  rw [laws_markStringS.L_eq]
  exact laws_markStringS.loop l [] k h0 h1 (by simp; omega)

end Go.Proofs.Ytoonbcdkbdedkaa.G

set_option linter.unusedVariables false
set_option linter.unusedSimpArgs false
set_option maxRecDepth 100000
namespace Go.Proofs.Ytoonbcdkbdedkaa.G
open Go.RowKit Go.Proofs.YtoonbcdkbdedkaaW.PrintWords Go.Proofs.YtoonbcdkbdedkaaW.PrintLast Go.Proofs.YtoonbcdkbdedkaaW.PrintMore Go.Proofs.Ytoonbcdkbdedkaa.Lim Go.Proofs.Ytoonbcdkbdedkaa.Open
noncomputable def laws_heldStringS.Ll0 (x0 : List ByteArray) (x1 : Int) (x5 : Int) : Option (Int) := lim (fun k => laws_heldStringS.l0 k x0 x1 x5)
theorem laws_heldStringS.Ll0_lm (x0 : List ByteArray) (x1 : Int) (x5 : Int) : Lm (fun k => laws_heldStringS.l0 k x0 x1 x5) (laws_heldStringS.Ll0 x0 x1 x5) := Lm.of (fun k => laws_heldStringS.mono_l k x0 x1 x5)
noncomputable def laws_heldStringS.L (l0 : List ByteArray) (a1 : Int) : Option (Int) := lim (fun k => laws_heldStringS.f k l0 a1)
theorem laws_heldStringS.L_lm (l0 : List ByteArray) (a1 : Int) : Lm (fun k => laws_heldStringS.f k l0 a1) (laws_heldStringS.L l0 a1) := Lm.of (fun k => laws_heldStringS.mono l0 a1 k)
theorem laws_heldStringS.Ll0_eq (x0 : List ByteArray) (x1 : Int) (x5 : Int) : laws_heldStringS.Ll0 x0 x1 x5 = (if x5 < (x0.length : Int) then (if 0 ≤ x5 then ((laws_markText.L x1).bind fun t525 => (if (rdOf ByteArray.empty x0 x5).toList = t525.toList then (laws_heldStringS.Ll0 x0 (wrap64 (x1 + 1)) (wrap64 (x5 + 1))) else (some (-1)))) else (none)) else (some x1) : Option (Int)) := by
  refine (laws_heldStringS.Ll0_lm x0 x1 x5).eq (Lm.step (laws_heldStringS.Ll0_lm x0 x1 x5).mono ?_)
  show Lm (fun k => (if x5 < (x0.length : Int) then (if 0 ≤ x5 then ((laws_markText.f k x1).bind fun t525 => (if (rdOf ByteArray.empty x0 x5).toList = t525.toList then (laws_heldStringS.l0 k x0 (wrap64 (x1 + 1)) (wrap64 (x5 + 1))) else (some (-1)))) else (none)) else (some x1) : Option (Int))) _
  repeat' first
  | (with_reducible exact laws_markText.L_lm _)
  | (with_reducible exact laws_heldStringS.Ll0_lm _ _ _)
  | (with_reducible exact Lm.now _)
  | (with_reducible refine Lm.ite ?_ ?_)
  | (with_reducible refine Lm.bind ?_ (fun _ => ?_))
  | exact laws_markText.L_lm _
  | exact laws_heldStringS.Ll0_lm _ _ _
  | exact Lm.now _
  | refine Lm.ite ?_ ?_
  | refine Lm.bind ?_ (fun _ => ?_)
theorem laws_heldStringS.L_eq (l0 : List ByteArray) (a1 : Int) : laws_heldStringS.L l0 a1 = (laws_heldStringS.Ll0 l0 a1 0 : Option (Int)) := by
  refine (laws_heldStringS.L_lm l0 a1).eq ?_
  show Lm (fun k => (laws_heldStringS.l0 k l0 a1 0 : Option (Int))) _
  repeat' first
  | (with_reducible exact laws_heldStringS.Ll0_lm _ _ _)
  | (with_reducible exact Lm.now _)
  | (with_reducible refine Lm.ite ?_ ?_)
  | (with_reducible refine Lm.bind ?_ (fun _ => ?_))
  | exact laws_heldStringS.Ll0_lm _ _ _
  | exact Lm.now _
  | refine Lm.ite ?_ ?_
  | refine Lm.bind ?_ (fun _ => ?_)
/- needs: q:laws_markStringS -/
theorem laws_heldStringS.loop (r : List ByteArray) : ∀ (d : List ByteArray) (k : Int), 0 ≤ k → k + r.length ≤ 4611686018427387904 → ((d.length : Nat) : Int) + r.length ≤ 4611686018427387904 → laws_heldStringS.Ll0 (d ++ mklS k r) k d.length = some (k + r.length) := by
  induction r with
  | nil => intro d k _ _ _; rw [laws_heldStringS.Ll0_eq, if_neg (by simp [mklS])]; simp
  | cons x r ih0 =>
    intro d k h0 h1 h2
    simp only [List.length_cons] at h1 h2
    have w1 : wrap64 (k + 1) = k + 1 := wrap_id (by omega) (by omega)
    have ih := ih0 (d ++ [mt k]) (k + 1) (by omega) (by omega) (by simp; omega)
    show laws_heldStringS.Ll0 (d ++ mt k :: mklS (k + 1) r) k d.length = _
    rw [laws_heldStringS.Ll0_eq, if_pos (by simp; omega), if_pos (by omega), laws_markText.R k (by omega), Option.bind_some, if_pos (by rw [rdS_mid]), w1, wrap_up d.length (by omega), app_one]
    have e : ((d.length + 1 : Nat) : Int) = ((d ++ [mt k]).length : Int) := by simp
    rw [e, ih]
    simp; omega
theorem laws_heldStringS.R (l : List ByteArray) (k : Int) (h0 : 0 ≤ k) (h1 : k + l.length ≤ 4611686018427387904) : laws_heldStringS.L (mklS k l) k = some (k + l.length) := by
  rw [laws_heldStringS.L_eq]
  exact laws_heldStringS.loop l [] k h0 h1 (by simp; omega)

end Go.Proofs.Ytoonbcdkbdedkaa.G

set_option linter.unusedVariables false
set_option linter.unusedSimpArgs false
set_option maxRecDepth 100000
namespace Go.Proofs.Ytoonbcdkbdedkaa.G
open Go.RowKit Go.Proofs.YtoonbcdkbdedkaaW.PrintWords Go.Proofs.YtoonbcdkbdedkaaW.PrintLast Go.Proofs.YtoonbcdkbdedkaaW.PrintMore Go.Proofs.Ytoonbcdkbdedkaa.Lim Go.Proofs.Ytoonbcdkbdedkaa.Open
theorem laws_toListing.R (x : S110) (h : wt110 x ≤ 1048576) : laws_toListing.f x.f0 x.f1 x.f2 = some ((cv110 x).f0, (cv110 x).f1, (cv110 x).f2) := by
  unfold laws_toListing.f
  rfl

end Go.Proofs.Ytoonbcdkbdedkaa.G

set_option linter.unusedVariables false
set_option linter.unusedSimpArgs false
set_option maxRecDepth 100000
namespace Go.Proofs.Ytoonbcdkbdedkaa.G
open Go.RowKit Go.Proofs.YtoonbcdkbdedkaaW.PrintWords Go.Proofs.YtoonbcdkbdedkaaW.PrintLast Go.Proofs.YtoonbcdkbdedkaaW.PrintMore Go.Proofs.Ytoonbcdkbdedkaa.Lim Go.Proofs.Ytoonbcdkbdedkaa.Open
noncomputable def laws_toListingS.Ll0 (x0 : List (S110)) (x3 : List (S111)) (x4 : Int) : Option ((List (S111))) := lim (fun k => laws_toListingS.l0 k x0 x3 x4)
theorem laws_toListingS.Ll0_lm (x0 : List (S110)) (x3 : List (S111)) (x4 : Int) : Lm (fun k => laws_toListingS.l0 k x0 x3 x4) (laws_toListingS.Ll0 x0 x3 x4) := Lm.of (fun k => laws_toListingS.mono_l k x0 x3 x4)
noncomputable def laws_toListingS.L (l0 : List (S110)) : Option ((List (S111))) := lim (fun k => laws_toListingS.f k l0)
theorem laws_toListingS.L_lm (l0 : List (S110)) : Lm (fun k => laws_toListingS.f k l0) (laws_toListingS.L l0) := Lm.of (fun k => laws_toListingS.mono l0 k)
theorem laws_toListingS.Ll0_eq (x0 : List (S110)) (x3 : List (S111)) (x4 : Int) : laws_toListingS.Ll0 x0 x3 x4 = (if x4 < (x0.length : Int) then (if 0 ≤ x4 then ((laws_toListing.f ((rd_T110 x0 x4).f0) ((rd_T110 x0 x4).f1) ((rd_T110 x0 x4).f2)).bind fun bt388 => (if x4 < (x3.length : Int) then (laws_toListingS.Ll0 x0 (x3.set (x4 : Int).toNat (⟨bt388.1, bt388.2.1, bt388.2.2⟩ : S111)) (wrap64 (x4 + 1))) else (none))) else (none)) else (some x3) : Option ((List (S111)))) := by
  refine (laws_toListingS.Ll0_lm x0 x3 x4).eq (Lm.step (laws_toListingS.Ll0_lm x0 x3 x4).mono ?_)
  show Lm (fun k => (if x4 < (x0.length : Int) then (if 0 ≤ x4 then ((laws_toListing.f ((rd_T110 x0 x4).f0) ((rd_T110 x0 x4).f1) ((rd_T110 x0 x4).f2)).bind fun bt388 => (if x4 < (x3.length : Int) then (laws_toListingS.l0 k x0 (x3.set (x4 : Int).toNat (⟨bt388.1, bt388.2.1, bt388.2.2⟩ : S111)) (wrap64 (x4 + 1))) else (none))) else (none)) else (some x3) : Option ((List (S111))))) _
  repeat' first
  | (with_reducible exact laws_toListingS.Ll0_lm _ _ _)
  | (with_reducible exact Lm.now _)
  | (with_reducible refine Lm.ite ?_ ?_)
  | (with_reducible refine Lm.bind ?_ (fun _ => ?_))
  | exact laws_toListingS.Ll0_lm _ _ _
  | exact Lm.now _
  | refine Lm.ite ?_ ?_
  | refine Lm.bind ?_ (fun _ => ?_)
theorem laws_toListingS.L_eq (l0 : List (S110)) : laws_toListingS.L l0 = (if 0 ≤ (l0.length : Int) then (if ((l0.length : Int) : Int).toNat ≤ 7036874417766 then (laws_toListingS.Ll0 l0 (List.replicate ((l0.length : Int) : Int).toNat z111) 0) else (none)) else (none) : Option ((List (S111)))) := by
  refine (laws_toListingS.L_lm l0).eq ?_
  show Lm (fun k => (if 0 ≤ (l0.length : Int) then (if ((l0.length : Int) : Int).toNat ≤ 7036874417766 then (laws_toListingS.l0 k l0 (List.replicate ((l0.length : Int) : Int).toNat z111) 0) else (none)) else (none) : Option ((List (S111))))) _
  repeat' first
  | (with_reducible exact laws_toListingS.Ll0_lm _ _ _)
  | (with_reducible exact Lm.now _)
  | (with_reducible refine Lm.ite ?_ ?_)
  | (with_reducible refine Lm.bind ?_ (fun _ => ?_))
  | exact laws_toListingS.Ll0_lm _ _ _
  | exact Lm.now _
  | refine Lm.ite ?_ ?_
  | refine Lm.bind ?_ (fun _ => ?_)
theorem laws_toListingS.R (l : List S110) (h : wtl110 l ≤ 1048576) : laws_toListingS.L l = some (l.map cv110) := by
  have hl := wtl110_len l
  rw [laws_toListingS.L_eq]
  rw [if_pos (by omega), if_pos (by omega)]
  have key := loop_drop l (fun s i => laws_toListingS.Ll0 l s i) (fun _ _ => l.map cv110) (fun s i => s.length = l.length ∧ s.take i = (l.map cv110).take i) ?_ ?_ (List.replicate ((l.length : Int) : Int).toNat z111) 0 (Nat.zero_le _) ⟨by simp, by simp⟩
  · exact key
  · rintro s ⟨hs, ht⟩
    rw [laws_toListingS.Ll0_eq, if_neg (by omega)]
    rw [List.take_of_length_le (by omega), List.take_of_length_le (by simp)] at ht
    rw [ht]
  · rintro s i x ⟨hs, ht⟩ hi hx
    refine Or.inr ⟨s.set i (cv110 x), ⟨by simpa using hs, fill_step l cv110 s i x hx hs ht⟩, ?_, rfl⟩
    show laws_toListingS.Ll0 l s (i : Int) = laws_toListingS.Ll0 l (s.set i (cv110 x)) ((i + 1 : Nat) : Int)
    rw [laws_toListingS.Ll0_eq, if_pos (by omega), if_pos (by omega), rd110_at hx]
    rw [laws_toListing.R x (Nat.le_trans (wtl110_mem (List.mem_of_getElem? hx)) h), Option.bind_some, if_pos (by omega), wrap_up i (by omega)]
    rfl

end Go.Proofs.Ytoonbcdkbdedkaa.G

set_option linter.unusedVariables false
set_option linter.unusedSimpArgs false
set_option maxRecDepth 100000
namespace Go.Proofs.Ytoonbcdkbdedkaa.G
open Go.RowKit Go.Proofs.YtoonbcdkbdedkaaW.PrintWords Go.Proofs.YtoonbcdkbdedkaaW.PrintLast Go.Proofs.YtoonbcdkbdedkaaW.PrintMore Go.Proofs.Ytoonbcdkbdedkaa.Lim Go.Proofs.Ytoonbcdkbdedkaa.Open
noncomputable def spec_NamesIn.Ll0 (x0 : List (S111)) (x1 : ByteArray) (x5 : List ByteArray) (x6 : Int) : Option (List ByteArray) := lim (fun k => spec_NamesIn.l0 k x0 x1 x5 x6)
theorem spec_NamesIn.Ll0_lm (x0 : List (S111)) (x1 : ByteArray) (x5 : List ByteArray) (x6 : Int) : Lm (fun k => spec_NamesIn.l0 k x0 x1 x5 x6) (spec_NamesIn.Ll0 x0 x1 x5 x6) := Lm.of (fun k => spec_NamesIn.mono_l k x0 x1 x5 x6)
noncomputable def spec_NamesIn.L (l0 : List (S111)) (a1 : ByteArray) : Option (List ByteArray) := lim (fun k => spec_NamesIn.f k l0 a1)
theorem spec_NamesIn.L_lm (l0 : List (S111)) (a1 : ByteArray) : Lm (fun k => spec_NamesIn.f k l0 a1) (spec_NamesIn.L l0 a1) := Lm.of (fun k => spec_NamesIn.mono l0 a1 k)
theorem spec_NamesIn.Ll0_eq (x0 : List (S111)) (x1 : ByteArray) (x5 : List ByteArray) (x6 : Int) : spec_NamesIn.Ll0 x0 x1 x5 x6 = (if x6 < (x0.length : Int) then (if 0 ≤ x6 then (if ((rd_T111 x0 x6).f2).toList = x1.toList then (if x5.length < 8796093022208 then (spec_NamesIn.Ll0 x0 x1 (x5 ++ [(rd_T111 x0 x6).f0]) (wrap64 (x6 + 1))) else (none)) else (spec_NamesIn.Ll0 x0 x1 x5 (wrap64 (x6 + 1)))) else (none)) else (some x5) : Option (List ByteArray)) := by
  refine (spec_NamesIn.Ll0_lm x0 x1 x5 x6).eq (Lm.step (spec_NamesIn.Ll0_lm x0 x1 x5 x6).mono ?_)
  show Lm (fun k => (if x6 < (x0.length : Int) then (if 0 ≤ x6 then (if ((rd_T111 x0 x6).f2).toList = x1.toList then (if x5.length < 8796093022208 then (spec_NamesIn.l0 k x0 x1 (x5 ++ [(rd_T111 x0 x6).f0]) (wrap64 (x6 + 1))) else (none)) else (spec_NamesIn.l0 k x0 x1 x5 (wrap64 (x6 + 1)))) else (none)) else (some x5) : Option (List ByteArray))) _
  repeat' first
  | (with_reducible exact spec_NamesIn.Ll0_lm _ _ _ _)
  | (with_reducible exact Lm.now _)
  | (with_reducible refine Lm.ite ?_ ?_)
  | (with_reducible refine Lm.bind ?_ (fun _ => ?_))
  | exact spec_NamesIn.Ll0_lm _ _ _ _
  | exact Lm.now _
  | refine Lm.ite ?_ ?_
  | refine Lm.bind ?_ (fun _ => ?_)
theorem spec_NamesIn.L_eq (l0 : List (S111)) (a1 : ByteArray) : spec_NamesIn.L l0 a1 = (spec_NamesIn.Ll0 l0 a1 (([] : List ByteArray)) 0 : Option (List ByteArray)) := by
  refine (spec_NamesIn.L_lm l0 a1).eq ?_
  show Lm (fun k => (spec_NamesIn.l0 k l0 a1 (([] : List ByteArray)) 0 : Option (List ByteArray))) _
  repeat' first
  | (with_reducible exact spec_NamesIn.Ll0_lm _ _ _ _)
  | (with_reducible exact Lm.now _)
  | (with_reducible refine Lm.ite ?_ ?_)
  | (with_reducible refine Lm.bind ?_ (fun _ => ?_))
  | exact spec_NamesIn.Ll0_lm _ _ _ _
  | exact Lm.now _
  | refine Lm.ite ?_ ?_
  | refine Lm.bind ?_ (fun _ => ?_)
/- needs: -/
def M_NamesIn (l : List S111) (w : ByteArray) : List ByteArray := (l.filter fun x => decide (x.f2.toList = w.toList)).map (·.f0)
theorem spec_NamesIn.R (l : List S111) (w : ByteArray) (h : l.length ≤ 1048576) : spec_NamesIn.L l w = some (M_NamesIn l w) := by
  rw [spec_NamesIn.L_eq]
  have key := loop_drop l (fun (s : List ByteArray) i => spec_NamesIn.Ll0 l w s i) (fun s rest => s ++ M_NamesIn rest w) (fun s i => s.length ≤ i) ?_ ?_ [] 0 (Nat.zero_le _) (Nat.zero_le _)
  · refine Eq.trans key ?_
    simp
  · rintro s hs
    rw [spec_NamesIn.Ll0_eq, if_neg (by omega)]
    simp [M_NamesIn]
  · rintro s i x hs hi hx
    right
    have hr := rd111_at hx
    by_cases c : x.f2.toList = w.toList
    · refine ⟨s ++ [x.f0], by simp; omega, ?_, ?_⟩
      · rw [spec_NamesIn.Ll0_eq, if_pos (by omega), if_pos (by omega), hr, if_pos c, if_pos (by omega), wrap_up i (by omega)]
      · simp [M_NamesIn, c]
    · refine ⟨s, by omega, ?_, ?_⟩
      · rw [spec_NamesIn.Ll0_eq, if_pos (by omega), if_pos (by omega), hr, if_neg c, wrap_up i (by omega)]
      · simp [M_NamesIn, c]
theorem M_NamesIn_len (l : List S111) (w : ByteArray) : (M_NamesIn l w).length ≤ l.length := by
  unfold M_NamesIn
  simpa using List.length_filter_le _ l

end Go.Proofs.Ytoonbcdkbdedkaa.G

set_option linter.unusedVariables false
set_option linter.unusedSimpArgs false
set_option maxRecDepth 100000
namespace Go.Proofs.Ytoonbcdkbdedkaa.G
open Go.RowKit Go.Proofs.YtoonbcdkbdedkaaW.PrintWords Go.Proofs.YtoonbcdkbdedkaaW.PrintLast Go.Proofs.YtoonbcdkbdedkaaW.PrintMore Go.Proofs.Ytoonbcdkbdedkaa.Lim Go.Proofs.Ytoonbcdkbdedkaa.Open
noncomputable def impl_NamesIn.Ll0 (x1 : ByteArray) (x5 : List ByteArray) (x9 : List (S111)) (x10 : Int) (x11 : Int) : Option (List ByteArray) := lim (fun k => impl_NamesIn.l0 k x1 x5 x9 x10 x11)
theorem impl_NamesIn.Ll0_lm (x1 : ByteArray) (x5 : List ByteArray) (x9 : List (S111)) (x10 : Int) (x11 : Int) : Lm (fun k => impl_NamesIn.l0 k x1 x5 x9 x10 x11) (impl_NamesIn.Ll0 x1 x5 x9 x10 x11) := Lm.of (fun k => impl_NamesIn.mono_l k x1 x5 x9 x10 x11)
noncomputable def impl_NamesIn.L (l0 : List (S111)) (a1 : ByteArray) : Option (List ByteArray) := lim (fun k => impl_NamesIn.f k l0 a1)
theorem impl_NamesIn.L_lm (l0 : List (S111)) (a1 : ByteArray) : Lm (fun k => impl_NamesIn.f k l0 a1) (impl_NamesIn.L l0 a1) := Lm.of (fun k => impl_NamesIn.mono l0 a1 k)
theorem impl_NamesIn.Ll0_eq (x1 : ByteArray) (x5 : List ByteArray) (x9 : List (S111)) (x10 : Int) (x11 : Int) : impl_NamesIn.Ll0 x1 x5 x9 x10 x11 = (if x11 < x10 then (if 0 ≤ x11 then (if x11 < (x9.length : Int) then (if ((rd_T111 x9 x11).f2).toList = x1.toList then (if x5.length < 8796093022208 then (impl_NamesIn.Ll0 x1 (x5 ++ [(rd_T111 x9 x11).f0]) x9 x10 (wrap64 (x11 + 1))) else (none)) else (impl_NamesIn.Ll0 x1 x5 x9 x10 (wrap64 (x11 + 1)))) else (none)) else (none)) else (some x5) : Option (List ByteArray)) := by
  refine (impl_NamesIn.Ll0_lm x1 x5 x9 x10 x11).eq (Lm.step (impl_NamesIn.Ll0_lm x1 x5 x9 x10 x11).mono ?_)
  show Lm (fun k => (if x11 < x10 then (if 0 ≤ x11 then (if x11 < (x9.length : Int) then (if ((rd_T111 x9 x11).f2).toList = x1.toList then (if x5.length < 8796093022208 then (impl_NamesIn.l0 k x1 (x5 ++ [(rd_T111 x9 x11).f0]) x9 x10 (wrap64 (x11 + 1))) else (none)) else (impl_NamesIn.l0 k x1 x5 x9 x10 (wrap64 (x11 + 1)))) else (none)) else (none)) else (some x5) : Option (List ByteArray))) _
  repeat' first
  | (with_reducible exact impl_NamesIn.Ll0_lm _ _ _ _ _)
  | (with_reducible exact Lm.now _)
  | (with_reducible refine Lm.ite ?_ ?_)
  | (with_reducible refine Lm.bind ?_ (fun _ => ?_))
  | exact impl_NamesIn.Ll0_lm _ _ _ _ _
  | exact Lm.now _
  | refine Lm.ite ?_ ?_
  | refine Lm.bind ?_ (fun _ => ?_)
theorem impl_NamesIn.L_eq (l0 : List (S111)) (a1 : ByteArray) : impl_NamesIn.L l0 a1 = (impl_NamesIn.Ll0 a1 (([] : List ByteArray)) l0 (l0.length : Int) 0 : Option (List ByteArray)) := by
  refine (impl_NamesIn.L_lm l0 a1).eq ?_
  show Lm (fun k => (impl_NamesIn.l0 k a1 (([] : List ByteArray)) l0 (l0.length : Int) 0 : Option (List ByteArray))) _
  repeat' first
  | (with_reducible exact impl_NamesIn.Ll0_lm _ _ _ _ _)
  | (with_reducible exact Lm.now _)
  | (with_reducible refine Lm.ite ?_ ?_)
  | (with_reducible refine Lm.bind ?_ (fun _ => ?_))
  | exact impl_NamesIn.Ll0_lm _ _ _ _ _
  | exact Lm.now _
  | refine Lm.ite ?_ ?_
  | refine Lm.bind ?_ (fun _ => ?_)
/- needs: q:spec_NamesIn -/
theorem impl_NamesIn.R (l : List S111) (w : ByteArray) (h : l.length ≤ 1048576) : impl_NamesIn.L l w = some (M_NamesIn l w) := by
  rw [impl_NamesIn.L_eq]
  have key := loop_drop l (fun (s : List ByteArray) i => impl_NamesIn.Ll0 w s l (l.length : Int) i) (fun s rest => s ++ M_NamesIn rest w) (fun s i => s.length ≤ i) ?_ ?_ [] 0 (Nat.zero_le _) (Nat.zero_le _)
  · refine Eq.trans key ?_
    simp
  · rintro s hs
    rw [impl_NamesIn.Ll0_eq, if_neg (by omega)]
    simp [M_NamesIn]
  · rintro s i x hs hi hx
    right
    have hr := rd111_at hx
    by_cases c : x.f2.toList = w.toList
    · refine ⟨s ++ [x.f0], by simp; omega, ?_, ?_⟩
      · rw [impl_NamesIn.Ll0_eq, if_pos (by omega), if_pos (by omega), if_pos (by omega), hr, if_pos c, if_pos (by omega), wrap_up i (by omega)]
      · simp [M_NamesIn, c]
    · refine ⟨s, by omega, ?_, ?_⟩
      · rw [impl_NamesIn.Ll0_eq, if_pos (by omega), if_pos (by omega), if_pos (by omega), hr, if_neg c, wrap_up i (by omega)]
      · simp [M_NamesIn, c]

end Go.Proofs.Ytoonbcdkbdedkaa.G

set_option linter.unusedVariables false
set_option linter.unusedSimpArgs false
set_option maxRecDepth 100000
namespace Go.Proofs.Ytoonbcdkbdedkaa.G
open Go.RowKit Go.Proofs.YtoonbcdkbdedkaaW.PrintWords Go.Proofs.YtoonbcdkbdedkaaW.PrintLast Go.Proofs.YtoonbcdkbdedkaaW.PrintMore Go.Proofs.Ytoonbcdkbdedkaa.Lim Go.Proofs.Ytoonbcdkbdedkaa.Open
noncomputable def laws_eqStringS.Ll0 (x0 : List ByteArray) (x1 : List ByteArray) (x5 : Int) : Option (Bool) := lim (fun k => laws_eqStringS.l0 k x0 x1 x5)
theorem laws_eqStringS.Ll0_lm (x0 : List ByteArray) (x1 : List ByteArray) (x5 : Int) : Lm (fun k => laws_eqStringS.l0 k x0 x1 x5) (laws_eqStringS.Ll0 x0 x1 x5) := Lm.of (fun k => laws_eqStringS.mono_l k x0 x1 x5)
noncomputable def laws_eqStringS.L (l0 : List ByteArray) (l1 : List ByteArray) : Option (Bool) := lim (fun k => laws_eqStringS.f k l0 l1)
theorem laws_eqStringS.L_lm (l0 : List ByteArray) (l1 : List ByteArray) : Lm (fun k => laws_eqStringS.f k l0 l1) (laws_eqStringS.L l0 l1) := Lm.of (fun k => laws_eqStringS.mono l0 l1 k)
theorem laws_eqStringS.Ll0_eq (x0 : List ByteArray) (x1 : List ByteArray) (x5 : Int) : laws_eqStringS.Ll0 x0 x1 x5 = (if x5 < (x0.length : Int) then (if 0 ≤ x5 then (if x5 < (x1.length : Int) then (if (rdOf ByteArray.empty x0 x5).toList = (rdOf ByteArray.empty x1 x5).toList then (laws_eqStringS.Ll0 x0 x1 (wrap64 (x5 + 1))) else (some false)) else (none)) else (none)) else (some true) : Option (Bool)) := by
  refine (laws_eqStringS.Ll0_lm x0 x1 x5).eq (Lm.step (laws_eqStringS.Ll0_lm x0 x1 x5).mono ?_)
  show Lm (fun k => (if x5 < (x0.length : Int) then (if 0 ≤ x5 then (if x5 < (x1.length : Int) then (if (rdOf ByteArray.empty x0 x5).toList = (rdOf ByteArray.empty x1 x5).toList then (laws_eqStringS.l0 k x0 x1 (wrap64 (x5 + 1))) else (some false)) else (none)) else (none)) else (some true) : Option (Bool))) _
  repeat' first
  | (with_reducible exact laws_eqStringS.Ll0_lm _ _ _)
  | (with_reducible exact Lm.now _)
  | (with_reducible refine Lm.ite ?_ ?_)
  | (with_reducible refine Lm.bind ?_ (fun _ => ?_))
  | exact laws_eqStringS.Ll0_lm _ _ _
  | exact Lm.now _
  | refine Lm.ite ?_ ?_
  | refine Lm.bind ?_ (fun _ => ?_)
theorem laws_eqStringS.L_eq (l0 : List ByteArray) (l1 : List ByteArray) : laws_eqStringS.L l0 l1 = (if (l0.length : Int) = (l1.length : Int) then (laws_eqStringS.Ll0 l0 l1 0) else (some false) : Option (Bool)) := by
  refine (laws_eqStringS.L_lm l0 l1).eq ?_
  show Lm (fun k => (if (l0.length : Int) = (l1.length : Int) then (laws_eqStringS.l0 k l0 l1 0) else (some false) : Option (Bool))) _
  repeat' first
  | (with_reducible exact laws_eqStringS.Ll0_lm _ _ _)
  | (with_reducible exact Lm.now _)
  | (with_reducible refine Lm.ite ?_ ?_)
  | (with_reducible refine Lm.bind ?_ (fun _ => ?_))
  | exact laws_eqStringS.Ll0_lm _ _ _
  | exact Lm.now _
  | refine Lm.ite ?_ ?_
  | refine Lm.bind ?_ (fun _ => ?_)
/- needs: -/
theorem laws_eqStringS.R (l : List ByteArray) (hl : l.length ≤ 9223372036854775807) : laws_eqStringS.L l l = some true := by
  rw [laws_eqStringS.L_eq, if_pos rfl]
  refine down_ind (n := l.length) (P := fun i => laws_eqStringS.Ll0 l l (i : Int) = some true) ?_ ?_ 0 (Nat.zero_le _)
  · rw [laws_eqStringS.Ll0_eq, if_neg (by omega)]
  · intro i hi ih
    rw [laws_eqStringS.Ll0_eq, if_pos (by omega), if_pos (by omega), if_pos (by omega), if_pos rfl, wrap_up i (by omega)]
    exact ih

end Go.Proofs.Ytoonbcdkbdedkaa.G

set_option linter.unusedVariables false
set_option linter.unusedSimpArgs false
set_option maxRecDepth 100000
namespace Go.Proofs.Ytoonbcdkbdedkaa.G
open Go.RowKit Go.Proofs.YtoonbcdkbdedkaaW.PrintWords Go.Proofs.YtoonbcdkbdedkaaW.PrintLast Go.Proofs.YtoonbcdkbdedkaaW.PrintMore Go.Proofs.Ytoonbcdkbdedkaa.Lim Go.Proofs.Ytoonbcdkbdedkaa.Open
theorem laws_szListing.R (x : S110) (ok : ok110 x) (n : Int) (h0 : 0 ≤ n) (h1 : n ≤ 1048576) : laws_szListing.f x.f0 x.f1 x.f2 n = some (if (wt110 x : Int) ≤ n then n - wt110 x else -1) := by
  unfold ok110 at ok
  unfold laws_szListing.f
  unfold wt110
  have k0 := ok.1
  rw [wrap_id (x := n - (x.f0.size : Int)) (by omega) (by omega)]
  by_cases c0 : n - (x.f0.size : Int) < 0
  · rw [if_pos c0, if_neg (by omega)]
  rw [if_neg c0]
  have k2 := ok.2.2
  rw [wrap_id (x := (n - (x.f0.size : Int)) - (x.f2.size : Int)) (by omega) (by omega)]
  by_cases c2 : (n - (x.f0.size : Int)) - (x.f2.size : Int) < 0
  · rw [if_pos c2, if_neg (by omega)]
  rw [if_neg c2]
  first | done | rfl | (rw [if_pos (by omega)]; done) | (rw [if_pos (by omega)]; rfl) | (rw [if_pos (by omega)]; congr 1; omega) | (congr 1; omega)

end Go.Proofs.Ytoonbcdkbdedkaa.G

set_option linter.unusedVariables false
set_option linter.unusedSimpArgs false
set_option maxRecDepth 100000
namespace Go.Proofs.Ytoonbcdkbdedkaa.G
open Go.RowKit Go.Proofs.YtoonbcdkbdedkaaW.PrintWords Go.Proofs.YtoonbcdkbdedkaaW.PrintLast Go.Proofs.YtoonbcdkbdedkaaW.PrintMore Go.Proofs.Ytoonbcdkbdedkaa.Lim Go.Proofs.Ytoonbcdkbdedkaa.Open
noncomputable def laws_szListingS.Ll0 (x0 : List (S110)) (x1 : Int) (x5 : Int) : Option (Int) := lim (fun k => laws_szListingS.l0 k x0 x1 x5)
theorem laws_szListingS.Ll0_lm (x0 : List (S110)) (x1 : Int) (x5 : Int) : Lm (fun k => laws_szListingS.l0 k x0 x1 x5) (laws_szListingS.Ll0 x0 x1 x5) := Lm.of (fun k => laws_szListingS.mono_l k x0 x1 x5)
noncomputable def laws_szListingS.L (l0 : List (S110)) (a1 : Int) : Option (Int) := lim (fun k => laws_szListingS.f k l0 a1)
theorem laws_szListingS.L_lm (l0 : List (S110)) (a1 : Int) : Lm (fun k => laws_szListingS.f k l0 a1) (laws_szListingS.L l0 a1) := Lm.of (fun k => laws_szListingS.mono l0 a1 k)
theorem laws_szListingS.Ll0_eq (x0 : List (S110)) (x1 : Int) (x5 : Int) : laws_szListingS.Ll0 x0 x1 x5 = (if x5 < (x0.length : Int) then (if 0 ≤ x5 then ((laws_szListing.f ((rd_T110 x0 x5).f0) ((rd_T110 x0 x5).f1) ((rd_T110 x0 x5).f2) x1).bind fun t371 => (if t371 < 0 then (some (-1)) else (laws_szListingS.Ll0 x0 t371 (wrap64 (x5 + 1))))) else (none)) else (some x1) : Option (Int)) := by
  refine (laws_szListingS.Ll0_lm x0 x1 x5).eq (Lm.step (laws_szListingS.Ll0_lm x0 x1 x5).mono ?_)
  show Lm (fun k => (if x5 < (x0.length : Int) then (if 0 ≤ x5 then ((laws_szListing.f ((rd_T110 x0 x5).f0) ((rd_T110 x0 x5).f1) ((rd_T110 x0 x5).f2) x1).bind fun t371 => (if t371 < 0 then (some (-1)) else (laws_szListingS.l0 k x0 t371 (wrap64 (x5 + 1))))) else (none)) else (some x1) : Option (Int))) _
  repeat' first
  | (with_reducible exact laws_szListingS.Ll0_lm _ _ _)
  | (with_reducible exact Lm.now _)
  | (with_reducible refine Lm.ite ?_ ?_)
  | (with_reducible refine Lm.bind ?_ (fun _ => ?_))
  | exact laws_szListingS.Ll0_lm _ _ _
  | exact Lm.now _
  | refine Lm.ite ?_ ?_
  | refine Lm.bind ?_ (fun _ => ?_)
theorem laws_szListingS.L_eq (l0 : List (S110)) (a1 : Int) : laws_szListingS.L l0 a1 = (if (wrap64 (a1 - (l0.length : Int))) < 0 then (some (-1)) else (laws_szListingS.Ll0 l0 (wrap64 (a1 - (l0.length : Int))) 0) : Option (Int)) := by
  refine (laws_szListingS.L_lm l0 a1).eq ?_
  show Lm (fun k => (if (wrap64 (a1 - (l0.length : Int))) < 0 then (some (-1)) else (laws_szListingS.l0 k l0 (wrap64 (a1 - (l0.length : Int))) 0) : Option (Int))) _
  repeat' first
  | (with_reducible exact laws_szListingS.Ll0_lm _ _ _)
  | (with_reducible exact Lm.now _)
  | (with_reducible refine Lm.ite ?_ ?_)
  | (with_reducible refine Lm.bind ?_ (fun _ => ?_))
  | exact laws_szListingS.Ll0_lm _ _ _
  | exact Lm.now _
  | refine Lm.ite ?_ ?_
  | refine Lm.bind ?_ (fun _ => ?_)
theorem laws_szListingS.R (l : List S110) (hl : l.length ≤ 9223372036854775807) (ok : ∀ y ∈ l, ok110 y) (n : Int) (h0 : 0 ≤ n) (h1 : n ≤ 1048576) : laws_szListingS.L l n = some (if (wtl110 l : Int) ≤ n then n - wtl110 l else -1) := by
  rw [laws_szListingS.L_eq]
  rw [wrap_id (x := n - (l.length : Int)) (by omega) (by omega)]
  unfold wtl110
  by_cases c : n - (l.length : Int) < 0
  · rw [if_pos c, if_neg (by omega)]
  rw [if_neg c]
  have key := loop_drop l (fun (m : Int) i => laws_szListingS.Ll0 l m i) (fun m rest => if (((rest.map wt110).sum : Nat) : Int) ≤ m then m - ((rest.map wt110).sum : Nat) else -1) (fun m _ => 0 ≤ m ∧ m ≤ 1048576) ?_ ?_ (n - (l.length : Int)) 0 (Nat.zero_le _) ⟨by omega, by omega⟩
  · refine Eq.trans key ?_
    rw [List.drop_zero]
    congr 1
    split
    · rw [if_pos (by omega)]; omega
    · rw [if_neg (by omega)]
  · rintro m ⟨m0, m1⟩
    simp only [List.map_nil, List.sum_nil]
    rw [laws_szListingS.Ll0_eq, if_neg (by omega), if_pos (by omega)]
    congr 1; omega
  · rintro m i x ⟨m0, m1⟩ hi hx
    have e : laws_szListingS.Ll0 l m (i : Int) = if (if (wt110 x : Int) ≤ m then m - wt110 x else -1) < 0 then some (-1) else laws_szListingS.Ll0 l (if (wt110 x : Int) ≤ m then m - wt110 x else -1) ((i + 1 : Nat) : Int) := by
      rw [laws_szListingS.Ll0_eq, if_pos (by omega), if_pos (by omega), rd110_at hx, laws_szListing.R x (ok x (List.mem_of_getElem? hx)) m m0 m1, Option.bind_some, wrap_up i (by omega)]
    simp only [List.map_cons, List.sum_cons]
    by_cases cx : (wt110 x : Int) ≤ m
    · right
      refine ⟨m - wt110 x, ⟨by omega, by omega⟩, ?_, ?_⟩
      · rw [e, if_pos cx, if_neg (by omega)]
      · split
        · rw [if_pos (by omega)]; omega
        · rw [if_neg (by omega)]
    · left
      rw [e, if_neg cx, if_pos (by decide), if_neg (by omega)]

end Go.Proofs.Ytoonbcdkbdedkaa.G

set_option linter.unusedVariables false
set_option linter.unusedSimpArgs false
set_option maxRecDepth 100000
namespace Go.Proofs.Ytoonbcdkbdedkaa.G
open Go.RowKit Go.Proofs.YtoonbcdkbdedkaaW.PrintWords Go.Proofs.YtoonbcdkbdedkaaW.PrintLast Go.Proofs.YtoonbcdkbdedkaaW.PrintMore Go.Proofs.Ytoonbcdkbdedkaa.Lim Go.Proofs.Ytoonbcdkbdedkaa.Open
theorem laws_eqListing.R (x : S111) : laws_eqListing.f x.f0 x.f1 x.f2 x.f0 x.f1 x.f2 = some true := by
  unfold laws_eqListing.f
  simp []

end Go.Proofs.Ytoonbcdkbdedkaa.G

set_option linter.unusedVariables false
set_option linter.unusedSimpArgs false
set_option maxRecDepth 100000
namespace Go.Proofs.Ytoonbcdkbdedkaa.G
open Go.RowKit Go.Proofs.YtoonbcdkbdedkaaW.PrintWords Go.Proofs.YtoonbcdkbdedkaaW.PrintLast Go.Proofs.YtoonbcdkbdedkaaW.PrintMore Go.Proofs.Ytoonbcdkbdedkaa.Lim Go.Proofs.Ytoonbcdkbdedkaa.Open
noncomputable def laws_eqListingS.Ll0 (x0 : List (S111)) (x1 : List (S111)) (x5 : Int) : Option (Bool) := lim (fun k => laws_eqListingS.l0 k x0 x1 x5)
theorem laws_eqListingS.Ll0_lm (x0 : List (S111)) (x1 : List (S111)) (x5 : Int) : Lm (fun k => laws_eqListingS.l0 k x0 x1 x5) (laws_eqListingS.Ll0 x0 x1 x5) := Lm.of (fun k => laws_eqListingS.mono_l k x0 x1 x5)
noncomputable def laws_eqListingS.L (l0 : List (S111)) (l1 : List (S111)) : Option (Bool) := lim (fun k => laws_eqListingS.f k l0 l1)
theorem laws_eqListingS.L_lm (l0 : List (S111)) (l1 : List (S111)) : Lm (fun k => laws_eqListingS.f k l0 l1) (laws_eqListingS.L l0 l1) := Lm.of (fun k => laws_eqListingS.mono l0 l1 k)
theorem laws_eqListingS.Ll0_eq (x0 : List (S111)) (x1 : List (S111)) (x5 : Int) : laws_eqListingS.Ll0 x0 x1 x5 = (if x5 < (x0.length : Int) then (if 0 ≤ x5 then (if x5 < (x1.length : Int) then ((laws_eqListing.f ((rd_T111 x0 x5).f0) ((rd_T111 x0 x5).f1) ((rd_T111 x0 x5).f2) ((rd_T111 x1 x5).f0) ((rd_T111 x1 x5).f1) ((rd_T111 x1 x5).f2)).bind fun t406 => (if t406 = true then (laws_eqListingS.Ll0 x0 x1 (wrap64 (x5 + 1))) else (some false))) else (none)) else (none)) else (some true) : Option (Bool)) := by
  refine (laws_eqListingS.Ll0_lm x0 x1 x5).eq (Lm.step (laws_eqListingS.Ll0_lm x0 x1 x5).mono ?_)
  show Lm (fun k => (if x5 < (x0.length : Int) then (if 0 ≤ x5 then (if x5 < (x1.length : Int) then ((laws_eqListing.f ((rd_T111 x0 x5).f0) ((rd_T111 x0 x5).f1) ((rd_T111 x0 x5).f2) ((rd_T111 x1 x5).f0) ((rd_T111 x1 x5).f1) ((rd_T111 x1 x5).f2)).bind fun t406 => (if t406 = true then (laws_eqListingS.l0 k x0 x1 (wrap64 (x5 + 1))) else (some false))) else (none)) else (none)) else (some true) : Option (Bool))) _
  repeat' first
  | (with_reducible exact laws_eqListingS.Ll0_lm _ _ _)
  | (with_reducible exact Lm.now _)
  | (with_reducible refine Lm.ite ?_ ?_)
  | (with_reducible refine Lm.bind ?_ (fun _ => ?_))
  | exact laws_eqListingS.Ll0_lm _ _ _
  | exact Lm.now _
  | refine Lm.ite ?_ ?_
  | refine Lm.bind ?_ (fun _ => ?_)
theorem laws_eqListingS.L_eq (l0 : List (S111)) (l1 : List (S111)) : laws_eqListingS.L l0 l1 = (if (l0.length : Int) = (l1.length : Int) then (laws_eqListingS.Ll0 l0 l1 0) else (some false) : Option (Bool)) := by
  refine (laws_eqListingS.L_lm l0 l1).eq ?_
  show Lm (fun k => (if (l0.length : Int) = (l1.length : Int) then (laws_eqListingS.l0 k l0 l1 0) else (some false) : Option (Bool))) _
  repeat' first
  | (with_reducible exact laws_eqListingS.Ll0_lm _ _ _)
  | (with_reducible exact Lm.now _)
  | (with_reducible refine Lm.ite ?_ ?_)
  | (with_reducible refine Lm.bind ?_ (fun _ => ?_))
  | exact laws_eqListingS.Ll0_lm _ _ _
  | exact Lm.now _
  | refine Lm.ite ?_ ?_
  | refine Lm.bind ?_ (fun _ => ?_)
theorem laws_eqListingS.R (l : List S111) (hl : l.length ≤ 9223372036854775807) : laws_eqListingS.L l l = some true := by
  rw [laws_eqListingS.L_eq]
  rw [if_pos rfl]
  have key := loop_drop l (fun (_ : Unit) i => laws_eqListingS.Ll0 l l i) (fun _ _ => true) (fun _ _ => True) ?_ ?_ () 0 (Nat.zero_le _) trivial
  · exact key
  · rintro _ _
    rw [laws_eqListingS.Ll0_eq, if_neg (by omega)]
  · rintro _ i x _ hi hx
    refine Or.inr ⟨(), trivial, ?_, rfl⟩
    rw [laws_eqListingS.Ll0_eq, if_pos (by omega), if_pos (by omega), if_pos (by omega), rd111_at hx]
    rw [laws_eqListing.R x, Option.bind_some, if_pos rfl, wrap_up i (by omega)]

end Go.Proofs.Ytoonbcdkbdedkaa.G

set_option linter.unusedVariables false
set_option linter.unusedSimpArgs false
set_option maxRecDepth 100000
namespace Go.Proofs.Ytoonbcdkbdedkaa.G
open Go.RowKit Go.Proofs.YtoonbcdkbdedkaaW.PrintWords Go.Proofs.YtoonbcdkbdedkaaW.PrintLast Go.Proofs.YtoonbcdkbdedkaaW.PrintMore Go.Proofs.Ytoonbcdkbdedkaa.Lim Go.Proofs.Ytoonbcdkbdedkaa.Open
noncomputable def laws_markListingS.Ll0 (x0 : List (S111)) (x1 : Int) (x5 : Int) : Option (Int × (List (S111))) := lim (fun k => laws_markListingS.l0 k x0 x1 x5)
theorem laws_markListingS.Ll0_lm (x0 : List (S111)) (x1 : Int) (x5 : Int) : Lm (fun k => laws_markListingS.l0 k x0 x1 x5) (laws_markListingS.Ll0 x0 x1 x5) := Lm.of (fun k => laws_markListingS.mono_l k x0 x1 x5)
noncomputable def laws_markListingS.L (l0 : List (S111)) (a1 : Int) : Option (Int × (List (S111))) := lim (fun k => laws_markListingS.f k l0 a1)
theorem laws_markListingS.L_lm (l0 : List (S111)) (a1 : Int) : Lm (fun k => laws_markListingS.f k l0 a1) (laws_markListingS.L l0 a1) := Lm.of (fun k => laws_markListingS.mono l0 a1 k)
theorem laws_markListingS.Ll0_eq (x0 : List (S111)) (x1 : Int) (x5 : Int) : laws_markListingS.Ll0 x0 x1 x5 = (if x5 < (x0.length : Int) then ((laws_markText.L x1).bind fun t410 => (if 0 ≤ x5 then ((some (x0.set (x5 : Int).toNat (⟨t410, (rd_T111 x0 x5).f1, (rd_T111 x0 x5).f2⟩ : S111) : List (S111))).bind fun y411 => ((some (y411.set (x5 : Int).toNat (⟨(rd_T111 y411 x5).f0, wrap64 (x1 + 1), (rd_T111 y411 x5).f2⟩ : S111) : List (S111))).bind fun y412 => ((laws_markText.L (wrap64 ((wrap64 (x1 + 1)) + 1))).bind fun t413 => (laws_markListingS.Ll0 (y412.set (x5 : Int).toNat (⟨(rd_T111 y412 x5).f0, (rd_T111 y412 x5).f1, t413⟩ : S111)) (wrap64 ((wrap64 ((wrap64 (x1 + 1)) + 1)) + 1)) (wrap64 (x5 + 1)))))) else (none))) else (some (x1, x0)) : Option (Int × (List (S111)))) := by
  refine (laws_markListingS.Ll0_lm x0 x1 x5).eq (Lm.step (laws_markListingS.Ll0_lm x0 x1 x5).mono ?_)
  show Lm (fun k => (if x5 < (x0.length : Int) then ((laws_markText.f k x1).bind fun t410 => (if 0 ≤ x5 then ((some (x0.set (x5 : Int).toNat (⟨t410, (rd_T111 x0 x5).f1, (rd_T111 x0 x5).f2⟩ : S111) : List (S111))).bind fun y411 => ((some (y411.set (x5 : Int).toNat (⟨(rd_T111 y411 x5).f0, wrap64 (x1 + 1), (rd_T111 y411 x5).f2⟩ : S111) : List (S111))).bind fun y412 => ((laws_markText.f k (wrap64 ((wrap64 (x1 + 1)) + 1))).bind fun t413 => (laws_markListingS.l0 k (y412.set (x5 : Int).toNat (⟨(rd_T111 y412 x5).f0, (rd_T111 y412 x5).f1, t413⟩ : S111)) (wrap64 ((wrap64 ((wrap64 (x1 + 1)) + 1)) + 1)) (wrap64 (x5 + 1)))))) else (none))) else (some (x1, x0)) : Option (Int × (List (S111))))) _
  repeat' first
  | (with_reducible exact laws_markText.L_lm _)
  | (with_reducible exact laws_markListingS.Ll0_lm _ _ _)
  | (with_reducible exact Lm.now _)
  | (with_reducible refine Lm.ite ?_ ?_)
  | (with_reducible refine Lm.bind ?_ (fun _ => ?_))
  | exact laws_markText.L_lm _
  | exact laws_markListingS.Ll0_lm _ _ _
  | exact Lm.now _
  | refine Lm.ite ?_ ?_
  | refine Lm.bind ?_ (fun _ => ?_)
theorem laws_markListingS.L_eq (l0 : List (S111)) (a1 : Int) : laws_markListingS.L l0 a1 = (laws_markListingS.Ll0 l0 a1 0 : Option (Int × (List (S111)))) := by
  refine (laws_markListingS.L_lm l0 a1).eq ?_
  show Lm (fun k => (laws_markListingS.l0 k l0 a1 0 : Option (Int × (List (S111))))) _
  repeat' first
  | (with_reducible exact laws_markListingS.Ll0_lm _ _ _)
  | (with_reducible exact Lm.now _)
  | (with_reducible refine Lm.ite ?_ ?_)
  | (with_reducible refine Lm.bind ?_ (fun _ => ?_))
  | exact laws_markListingS.Ll0_lm _ _ _
  | exact Lm.now _
  | refine Lm.ite ?_ ?_
  | refine Lm.bind ?_ (fun _ => ?_)
noncomputable def mk111 (k : Int) : S111 := ⟨mt k, (k + 1), mt (k + 2)⟩
noncomputable def mkl111 : Int → List S111 → List S111
  | _, [] => []
  | k, _ :: r => mk111 k :: mkl111 (k + 3) r
theorem rd111_mid (d r : List S111) (x : S111) : rd_T111 (d ++ x :: r) ((d.length : Nat) : Int) = x := getD_mid d r x _
theorem laws_markListingS.loop (r : List S111) : ∀ (d : List S111) (k : Int), 0 ≤ k → k + 3 * r.length ≤ 4611686018427387904 → ((d.length : Nat) : Int) + r.length ≤ 4611686018427387904 → laws_markListingS.Ll0 (d ++ r) k d.length = some (k + 3 * r.length, d ++ mkl111 k r) := by
  induction r with
  | nil => intro d k _ _ _; rw [laws_markListingS.Ll0_eq, if_neg (by simp)]; simp [mkl111]
  | cons x r ih0 =>
    intro d k h0 h1 h2
    simp only [List.length_cons] at h1 h2
    have w1 : wrap64 (k + 1) = k + 1 := wrap_id (by omega) (by omega) |>.trans (by omega)
    have w2 : wrap64 ((k + 1) + 1) = k + 2 := wrap_id (by omega) (by omega) |>.trans (by omega)
    have w3 : wrap64 ((k + 2) + 1) = k + 3 := wrap_id (by omega) (by omega) |>.trans (by omega)
    have ih := ih0 (d ++ [mk111 k]) (k + 3) (by omega) (by omega) (by simp; omega)
    have hlt : ((d.length : Nat) : Int) < ((d ++ x :: r).length : Int) := by simp; omega
    have h00 : (0 : Int) ≤ ((d.length : Nat) : Int) := by omega
    have wu := wrap_up d.length (by omega)
    rw [laws_markListingS.Ll0_eq]
    simp only [if_pos hlt, if_pos h00, Option.bind_some, set_mid, rd111_mid, w1, w2, w3, laws_markText.R k (by omega), laws_markText.R (k + 2) (by omega), wu]
    refine Eq.trans (b := laws_markListingS.Ll0 ((d ++ [mk111 k]) ++ r) (k + 3) ((d ++ [mk111 k]).length : Int)) ?_ ?_
    · rw [← app_one, List.length_append]; rfl
    · rw [ih]; simp [mkl111]; omega
theorem laws_markListingS.R (l : List S111) (k : Int) (h0 : 0 ≤ k) (h1 : k + 3 * l.length ≤ 4611686018427387904) : laws_markListingS.L l k = some (k + 3 * l.length, mkl111 k l) := by
  rw [laws_markListingS.L_eq]
  exact laws_markListingS.loop l [] k h0 h1 (by simp; omega)

end Go.Proofs.Ytoonbcdkbdedkaa.G

set_option linter.unusedVariables false
set_option linter.unusedSimpArgs false
set_option maxRecDepth 100000
namespace Go.Proofs.Ytoonbcdkbdedkaa.G
open Go.RowKit Go.Proofs.YtoonbcdkbdedkaaW.PrintWords Go.Proofs.YtoonbcdkbdedkaaW.PrintLast Go.Proofs.YtoonbcdkbdedkaaW.PrintMore Go.Proofs.Ytoonbcdkbdedkaa.Lim Go.Proofs.Ytoonbcdkbdedkaa.Open
noncomputable def laws_FnExactNamesIn.Lj0 (x0 : List (S110)) (x1 : ByteArray) (x6 : List ByteArray) (x8 : List ByteArray) (x49 : Bool) : Option (Bool) := lim (fun k => laws_FnExactNamesIn.j0 k x0 x1 x6 x8 x49)
theorem laws_FnExactNamesIn.Lj0_lm (x0 : List (S110)) (x1 : ByteArray) (x6 : List ByteArray) (x8 : List ByteArray) (x49 : Bool) : Lm (fun k => laws_FnExactNamesIn.j0 k x0 x1 x6 x8 x49) (laws_FnExactNamesIn.Lj0 x0 x1 x6 x8 x49) := Lm.of (fun k => laws_FnExactNamesIn.mono_l k x0 x1 x6 x8 x49)
noncomputable def laws_FnExactNamesIn.L (l0 : List (S110)) (a1 : ByteArray) : Option (Bool) := lim (fun k => laws_FnExactNamesIn.f k l0 a1)
theorem laws_FnExactNamesIn.L_lm (l0 : List (S110)) (a1 : ByteArray) : Lm (fun k => laws_FnExactNamesIn.f k l0 a1) (laws_FnExactNamesIn.L l0 a1) := Lm.of (fun k => laws_FnExactNamesIn.mono l0 a1 k)
theorem laws_FnExactNamesIn.Lj0_eq (x0 : List (S110)) (x1 : ByteArray) (x6 : List ByteArray) (x8 : List ByteArray) (x49 : Bool) : laws_FnExactNamesIn.Lj0 x0 x1 x6 x8 x49 = (if x49 = true then (some false) else ((laws_markStringS.L x8 1).bind fun bt547 => ((laws_heldStringS.L bt547.2 1).bind fun t549 => (if t549 < 0 then (some false) else (if t549 = bt547.1 then ((laws_toListingS.L x0).bind fun t550 => ((impl_NamesIn.L t550 x1).bind fun t553 => ((laws_eqStringS.L t553 x6).bind fun t556 => (if t556 = true then ((laws_heldStringS.L bt547.2 1).bind fun t557 => (if t557 < 0 then (some false) else (if t557 = bt547.1 then (some true) else (some false)))) else (some false))))) else (some false))))) : Option (Bool)) := by
  refine (laws_FnExactNamesIn.Lj0_lm x0 x1 x6 x8 x49).eq (Lm.step (laws_FnExactNamesIn.Lj0_lm x0 x1 x6 x8 x49).mono ?_)
  show Lm (fun k => (if x49 = true then (some false) else ((laws_markStringS.f k x8 1).bind fun bt547 => ((laws_heldStringS.f k bt547.2 1).bind fun t549 => (if t549 < 0 then (some false) else (if t549 = bt547.1 then ((laws_toListingS.f k x0).bind fun t550 => ((impl_NamesIn.f k t550 x1).bind fun t553 => ((laws_eqStringS.f k t553 x6).bind fun t556 => (if t556 = true then ((laws_heldStringS.f k bt547.2 1).bind fun t557 => (if t557 < 0 then (some false) else (if t557 = bt547.1 then (some true) else (some false)))) else (some false))))) else (some false))))) : Option (Bool))) _
  repeat' first
  | (with_reducible exact impl_NamesIn.L_lm _ _)
  | (with_reducible exact laws_eqStringS.L_lm _ _)
  | (with_reducible exact laws_heldStringS.L_lm _ _)
  | (with_reducible exact laws_markStringS.L_lm _ _)
  | (with_reducible exact laws_toListingS.L_lm _)
  | (with_reducible exact Lm.now _)
  | (with_reducible refine Lm.ite ?_ ?_)
  | (with_reducible refine Lm.bind ?_ (fun _ => ?_))
  | exact impl_NamesIn.L_lm _ _
  | exact laws_eqStringS.L_lm _ _
  | exact laws_heldStringS.L_lm _ _
  | exact laws_markStringS.L_lm _ _
  | exact laws_toListingS.L_lm _
  | exact Lm.now _
  | refine Lm.ite ?_ ?_
  | refine Lm.bind ?_ (fun _ => ?_)
theorem laws_FnExactNamesIn.L_eq (l0 : List (S110)) (a1 : ByteArray) : laws_FnExactNamesIn.L l0 a1 = (if (a1.size : Int) > 1048576 then (some true) else ((laws_szListingS.L l0 1048576).bind fun t526 => (if t526 < 0 then (some true) else ((laws_toListingS.L l0).bind fun t527 => ((spec_NamesIn.L t527 a1).bind fun t530 => ((laws_toListingS.L l0).bind fun t533 => ((impl_NamesIn.L t533 a1).bind fun t536 => ((laws_eqStringS.L t536 t530).bind fun t539 => (if t539 = true then ((laws_toListingS.L l0).bind fun t540 => ((laws_eqListingS.L t533 t540).bind fun t543 => (if t543 = true then ((laws_markListingS.L t533 1).bind fun bt544 => (if bt544.1 < 0 then (laws_FnExactNamesIn.Lj0 l0 a1 t530 t536 true) else ((laws_eqStringS.L t536 t530).bind fun t546 => (laws_FnExactNamesIn.Lj0 l0 a1 t530 t536 (!t546))))) else (some false)))) else (some false))))))))) : Option (Bool)) := by
  refine (laws_FnExactNamesIn.L_lm l0 a1).eq ?_
  show Lm (fun k => (if (a1.size : Int) > 1048576 then (some true) else ((laws_szListingS.f k l0 1048576).bind fun t526 => (if t526 < 0 then (some true) else ((laws_toListingS.f k l0).bind fun t527 => ((spec_NamesIn.f k t527 a1).bind fun t530 => ((laws_toListingS.f k l0).bind fun t533 => ((impl_NamesIn.f k t533 a1).bind fun t536 => ((laws_eqStringS.f k t536 t530).bind fun t539 => (if t539 = true then ((laws_toListingS.f k l0).bind fun t540 => ((laws_eqListingS.f k t533 t540).bind fun t543 => (if t543 = true then ((laws_markListingS.f k t533 1).bind fun bt544 => (if bt544.1 < 0 then (laws_FnExactNamesIn.j0 k l0 a1 t530 t536 true) else ((laws_eqStringS.f k t536 t530).bind fun t546 => (laws_FnExactNamesIn.j0 k l0 a1 t530 t536 (!t546))))) else (some false)))) else (some false))))))))) : Option (Bool))) _
  repeat' first
  | (with_reducible exact impl_NamesIn.L_lm _ _)
  | (with_reducible exact laws_eqListingS.L_lm _ _)
  | (with_reducible exact laws_eqStringS.L_lm _ _)
  | (with_reducible exact laws_markListingS.L_lm _ _)
  | (with_reducible exact laws_szListingS.L_lm _ _)
  | (with_reducible exact laws_toListingS.L_lm _)
  | (with_reducible exact spec_NamesIn.L_lm _ _)
  | (with_reducible exact laws_FnExactNamesIn.Lj0_lm _ _ _ _ _)
  | (with_reducible exact Lm.now _)
  | (with_reducible refine Lm.ite ?_ ?_)
  | (with_reducible refine Lm.bind ?_ (fun _ => ?_))
  | exact impl_NamesIn.L_lm _ _
  | exact laws_eqListingS.L_lm _ _
  | exact laws_eqStringS.L_lm _ _
  | exact laws_markListingS.L_lm _ _
  | exact laws_szListingS.L_lm _ _
  | exact laws_toListingS.L_lm _
  | exact spec_NamesIn.L_lm _ _
  | exact laws_FnExactNamesIn.Lj0_lm _ _ _ _ _
  | exact Lm.now _
  | refine Lm.ite ?_ ?_
  | refine Lm.bind ?_ (fun _ => ?_)
/- needs: -/
theorem laws_FnExactNamesIn.pure (l0 : List S110) (h0 : l0.length ≤ 9223372036854775807) (w0 : ∀ y ∈ l0, ok110 y) (a1 : ByteArray) (w1 : a1.size ≤ 9223372036854775807) : ∃ k, laws_FnExactNamesIn.f k l0 a1 = some true := by
  refine (laws_FnExactNamesIn.L_lm l0 a1).rounds ?_
  rw [laws_FnExactNamesIn.L_eq]
  by_cases big : (a1.size : Int) > 1048576
  · rw [if_pos big]
  rw [if_neg big, laws_szListingS.R l0 h0 w0 1048576 (by decide) (by decide), Option.bind_some]
  by_cases c : (wtl110 l0 : Int) ≤ 1048576
  case neg => rw [if_neg c, if_pos (by decide)]
  rw [if_pos c, if_neg (by omega)]
  have hl := wtl110_len l0
  have hm : (l0.map cv110).length ≤ 1048576 := by rw [List.length_map]; omega
  have hr := Nat.le_trans (M_NamesIn_len (l0.map cv110) a1) hm
  have e1 := laws_markListingS.R (l0.map cv110) 1 (by decide) (by omega)
  have n1 : ¬ ((1 : Int) + 3 * ((l0.map cv110).length : Int) < 0) := by omega
  have e2 := laws_markStringS.R (M_NamesIn (l0.map cv110) a1) 1 (by decide) (by omega)
  have e3 := laws_heldStringS.R (M_NamesIn (l0.map cv110) a1) 1 (by decide) (by omega)
  have n2 : ¬ ((1 : Int) + ((M_NamesIn (l0.map cv110) a1).length : Int) < 0) := by omega
  have s1 := laws_toListingS.R l0 (by omega)
  have s2 := spec_NamesIn.R _ a1 hm
  have s3 := impl_NamesIn.R _ a1 hm
  have s4 := laws_eqListingS.R _ (Nat.le_trans hm (show (1048576 : Nat) ≤ 9223372036854775807 by decide))
  have s5 := laws_eqStringS.R _ (Nat.le_trans hr (show (1048576 : Nat) ≤ 9223372036854775807 by decide))
  simp only [s1, s2, s3, s4, s5, e1, n1, laws_FnExactNamesIn.Lj0_eq, e2, e3, n2, Option.bind_some, if_true, if_false, Bool.not_true, Bool.false_eq_true]

end Go.Proofs.Ytoonbcdkbdedkaa.G
