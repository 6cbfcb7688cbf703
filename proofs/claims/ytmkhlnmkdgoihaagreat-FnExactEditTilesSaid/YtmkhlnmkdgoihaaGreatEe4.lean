/- A part of the proof of a law's statement: for every input the law returns true and leaves its arguments as they were. No condition beyond the statement's own. A calculus over plain values for the model's code, proved once. -/
import Derived.Shelf.SlSortCmp.NoneTotal
import Derived.Shelf.SortM.Plain
import Derived.Shelf.SortM.SortNone
import Derived.Shelf.SlicesG.CompactI
import Derived.Shelf.SlicesG.CompactS
import Derived.Test.YtmkhlnmkdgoihaaGreatEe3
set_option linter.unusedVariables false
set_option linter.unusedSimpArgs false
set_option linter.unusedSectionVars false
set_option autoImplicit true
set_option relaxedAutoImplicit true
namespace Go.Eng
open Go Go.RowKit
set_option linter.unusedSimpArgs false
set_option linter.unusedVariables false

theorem alloc_same (w : World) (o : Obj) : ∀ k, k < w.heap.size → (w.alloc o).heap[k]? = w.heap[k]? := fun k hk => by
  show (w.heap.push o)[k]? = _
  rw [Array.getElem?_push, if_neg (by omega)]
theorem valOf_mid {w : World} {mid : List PV} {ym : List Value} {G : Foot} (agg : Bool) (ha : agg = true ∨ mid.length = 1) (hl : ym.length = mid.length) (h : Rep w (valOf agg mid) (valOfX agg ym) G) : RepL w mid ym G := by
  cases agg with
  | true =>
    obtain ⟨xs, h1, h2⟩ := h.agg_inv
    have : ym = xs := by
      have : ym.toArray = xs.toArray := by simpa [valOfX] using h1
      simpa using this
    rw [this]; exact h2
  | false =>
    have hm := ha.resolve_left (by simp)
    obtain ⟨m, rfl⟩ := List.length_eq_one_iff.1 hm
    rw [hm] at hl
    obtain ⟨y, rfl⟩ := List.length_eq_one_iff.1 hl
    exact RepL.one h

/-- a function that hands on one part of a struct to a function that writes behind it -/
theorem wrap_FnM {P : Program} {f g : Nat} {pre mid post mid' : List PV} {agg : Bool} {k r : Int} {T : TypeId} (hcall : callB P f = true) (hag : agg = true ∨ mid.length = 1) (hag' : agg = true ∨ mid'.length = 1) (hml : mid'.length = mid.length)
    (hg : FnM P g [valOf agg mid, .int .i64 k] (.int .i64 r) (valOf agg mid'))
    (walk : ∀ (w : World) (ya ym yz : List Value) (R : World → Prop), ya.length = pre.length → ym.length = mid.length → yz.length = post.length →
      Calls P g #[valOfX agg ym, .int .i64 k] (w.alloc (.cells (ya ++ ym ++ yz).toArray T)) (fun e w' => e = .returned (.int .i64 r) ∧ R w') →
      Calls P f #[.agg (ya ++ ym ++ yz).toArray, .int .i64 k] w (fun e w' => e = .returned (.int .i64 r) ∧ R w')) :
    FnM P f [.agg (pre ++ mid ++ post), .int .i64 k] (.int .i64 r) (.agg (pre ++ mid' ++ post)) := by
  refine ⟨hcall, _, _, rfl, rfl, fun w x0 F0 xs hI hpow hr hnd hlt hR => ?_⟩
  obtain ⟨ys, rfl, hys⟩ := hr.agg_inv
  obtain ⟨y12, yz, G12, GZ, rfl, rfl, h12, hz⟩ := RepL.split _ hys
  obtain ⟨ya, ym, GA, GM, rfl, rfl, ha, hm⟩ := RepL.split _ h12
  obtain ⟨x1, xs', F1, F2, rfl, hF, hx1, hxs⟩ := hR.cons_inv
  obtain ⟨rfl, rfl⟩ := hxs.nil_inv
  obtain ⟨rfl, rfl⟩ := hx1.int_inv
  obtain ⟨hcb, v0, vs, hvv, hkin, hcon⟩ := hg
  simp only [List.cons.injEq] at hvv
  obtain ⟨rfl, rfl⟩ := hvv
  have hmem : ∀ {e}, e ∈ GM → e ∈ GA ++ GM ++ GZ := fun he => by simp [he]
  have hsz : (w.alloc (.cells (ya ++ ym ++ yz).toArray T)).heap.size = w.heap.size + 1 := by show (w.heap.push _).size = _; simp
  have hsame := alloc_same w (.cells (ya ++ ym ++ yz).toArray T)
  have hI2 : Inv P (w.alloc (.cells (ya ++ ym ++ yz).toArray T)) := by
    exact (InvB.keep w _ (fun j hj => hsame j (by simp at hj; omega)) (InvB.of hI)).1
  have hm2 : Rep (w.alloc (.cells (ya ++ ym ++ yz).toArray T)) (valOf agg mid) (valOfX agg ym) GM := (hm.valOf agg hag).keep (fun e he => by
    have := hsame e.1 (hlt e (hmem he)).1
    exact ⟨fun o _ => by simp only [World.cell?]; rw [this], fun arr ty fr hh => ⟨arr, fr, by rw [this]; exact hh, rfl⟩⟩)
  have hndm : (GM.map (·.1)).Nodup := hnd.sublist ((((List.sublist_append_right GA GM).trans (List.sublist_append_left _ GZ))).map _)
  have hc := hcon (w.alloc (.cells (ya ++ ym ++ yz).toArray T)) (valOfX agg ym) GM [.int .i64 k] hI2 (fun g hg e he => hpow g hg e (hmem he)) hm2 hndm
    (fun e he => by
      obtain ⟨arr, ty, hq⟩ := (hlt e (hmem he)).2
      exact ⟨by have := (hlt e (hmem he)).1; omega, arr, ty, by rw [hsame _ (hlt e (hmem he)).1]; exact hq⟩) (.cons (.int ..) .nil)
  refine (walk w ya ym yz (fun w' => ∃ F' Fr, Rep w' (.int .i64 r) (.int .i64 r) Fr ∧ Rep w' (.agg (pre ++ mid' ++ post)) (.agg (ya ++ ym ++ yz).toArray) F' ∧
      (w'.os = w.os ∧ w'.tape = w.tape ∧ w'.output = w.output ∧ w.heap.size ≤ w'.heap.size ∧ ∀ k, k < w.heap.size → (∀ e ∈ GA ++ GM ++ GZ, e.1 ≠ k) → w'.heap[k]? = w.heap[k]?) ∧
      (∀ g ∈ F' ++ Fr, g.1 < w'.heap.size ∧ Unfrozen w' g.1 ∧ (w.heap.size ≤ g.1 ∨ ∃ e ∈ GA ++ GM ++ GZ, e.1 = g.1)) ∧ ((F' ++ Fr).map (·.1)).Nodup) ha.length hm.length hz.length (hc.mono fun e w' he => ?_)).mono fun e w' he => ?_
  · obtain ⟨x, F', Fr, rfl, q1, q2, q3, q4, q5⟩ := he
    obtain ⟨rfl, rfl⟩ := q1.int_inv
    refine ⟨rfl, GA ++ F' ++ GZ, [], .int .., ?_, ⟨q3.1, q3.2.1, q3.2.2.1, by omega, fun k hk hne => ?_⟩, ?_, ?_⟩
    · have side : ∀ b ∈ GA ++ GZ, w'.heap[b.1]? = w.heap[b.1]? := fun b hb => by
        have hbF : b ∈ GA ++ GM ++ GZ := by
          rcases List.mem_append.1 hb with hb | hb <;> simp [hb]
        have hb1 := (hlt b hbF).1
        rw [q3.2.2.2.2 b.1 (by omega) (fun e he hh => ?_)]
        · exact hsame b.1 hb1
        · rw [List.map_append, List.map_append, List.nodup_append] at hnd
          obtain ⟨n1, n2, n3⟩ := hnd
          rw [List.nodup_append] at n1
          rcases List.mem_append.1 hb with hb | hb
          · exact n1.2.2 _ (List.mem_map.2 ⟨b, hb, rfl⟩) _ (List.mem_map.2 ⟨e, he, rfl⟩) hh.symm
          · exact n3 _ (List.mem_append_right _ (List.mem_map.2 ⟨e, he, rfl⟩)) _ (List.mem_map.2 ⟨b, hb, rfl⟩) hh
      have kk : ∀ {G : Foot}, (∀ e ∈ G, e ∈ GA ++ GZ) → Keeps w w' G := fun hG e he =>
        ⟨fun o _ => by simp only [World.cell?]; rw [side e (hG e he)], fun arr ty fr hh => ⟨arr, fr, by rw [side e (hG e he)]; exact hh, rfl⟩⟩
      refine .agg (((ha.keep (kk fun e he => List.mem_append_left _ he)).append (valOf_mid agg hag' (by rw [hm.length, hml]) q2)).append (hz.keep (kk fun e he => List.mem_append_right _ he)))
    · rw [q3.2.2.2.2 k (by omega) (fun e he => hne e (hmem he))]
      exact hsame k hk
    · intro g hg
      rw [List.append_nil] at hg
      have hold : ∀ b ∈ GA ++ GZ, b ∈ GA ++ GM ++ GZ ∧ ∀ e ∈ GM, e.1 ≠ b.1 := fun b hb => by
        have hbF : b ∈ GA ++ GM ++ GZ := by
          rcases List.mem_append.1 hb with hb | hb <;> simp [hb]
        refine ⟨hbF, fun e he hh => ?_⟩
        rw [List.map_append, List.map_append, List.nodup_append] at hnd
        obtain ⟨n1, n2, n3⟩ := hnd
        rw [List.nodup_append] at n1
        rcases List.mem_append.1 hb with hb | hb
        · exact n1.2.2 _ (List.mem_map.2 ⟨b, hb, rfl⟩) _ (List.mem_map.2 ⟨e, he, rfl⟩) hh.symm
        · exact n3 _ (List.mem_append_right _ (List.mem_map.2 ⟨e, he, rfl⟩)) _ (List.mem_map.2 ⟨b, hb, rfl⟩) hh
      have both : g ∈ GA ++ GZ ∨ g ∈ F' := by
        simp only [List.mem_append] at hg ⊢
        rcases hg with (hg | hg) | hg
        · exact .inl (.inl hg)
        · exact .inr hg
        · exact .inl (.inr hg)
      rcases both with hb | hb
      · obtain ⟨b1, b2⟩ := hold g hb
        obtain ⟨arr, ty, hq⟩ := (hlt g b1).2
        have hb1 := (hlt g b1).1
        exact ⟨by omega, ⟨arr, ty, by rw [q3.2.2.2.2 g.1 (by omega) b2, hsame g.1 hb1]; exact hq⟩, .inr ⟨g, b1, rfl⟩⟩
      · obtain ⟨y1, y2, y3⟩ := q4 g (List.mem_append_left _ hb)
        exact ⟨y1, y2, y3.imp (fun h => by omega) fun ⟨e, he, hh⟩ => ⟨e, hmem he, hh⟩⟩
    · rw [List.append_nil] at q4 q5 ⊢
      have := nodup_mid (G' := F') (Gr := []) hnd (fun g hg => (hlt g (by
        rcases List.mem_append.1 hg with hg | hg <;> simp [hg])).1) (by simpa using q5) (fun g hg => by
          obtain ⟨_, _, y3⟩ := q4 g (by simpa using hg)
          exact y3.imp (fun h => by omega) id)
      simpa using this
  · obtain ⟨rfl, F', Fr, q1, q2, q3, q4, q5⟩ := he
    exact ⟨_, F', Fr, rfl, q1, q2, q3, q4, q5⟩
end Go.Eng
set_option linter.unusedVariables false
set_option linter.unusedSimpArgs false
namespace Go.Eng
open Go Go.RowKit Go.Shelf Go.Lib Go.Proofs Go.Sort

/-! ### slices.SortFunc at structs of plain data, by the shelf's walks -/
section
variable {α : Type} [Inhabited α]

variable {P : Program} {ρ : Ren}

end
end Go.Eng
set_option linter.unusedVariables false
set_option linter.unusedSimpArgs false
namespace Go.Eng
open Go Go.RowKit Go.Shelf Go.Lib Go.Proofs Go.Sort

/-! ### slices.Sort, slices.Compact at ints and strings, by the shelf's walks -/
section
variable {α : Type} [Inhabited α]

theorem holds1_of {enc : α → Value} {w : World} {b off : Nat} {arr : Array Value} {ty : TypeId} {d : List α} (hb : w.heap[b]? = some (.cells arr ty (0, 0))) (hm : Mem w ⟨b, off, none⟩ (d.map enc)) : Holds enc w b off d.toArray := by
  intro j hj
  have hj' : j < d.length := by simpa using hj
  refine ⟨?_, by simp [World.frozen?, hb]⟩
  have := hm j (enc d[j]) (by simp [hj'])
  rw [addr_add_plain rfl] at this
  rw [this]
  simp [hj']
theorem mem1_of {enc : α → Value} {w : World} {b off : Nat} {d : List α} (h : Holds enc w b off d.toArray) : Mem w ⟨b, off, none⟩ (d.map enc) := by
  intro j x hx
  have hj : j < d.length := by
    rcases Nat.lt_or_ge j (d.map enc).length with h | h
    · simpa using h
    · rw [List.getElem?_eq_none h] at hx; cases hx
  have := (h j (by simpa using hj)).1
  rw [addr_add_plain rfl]
  show w.cell? ⟨b, off + j, none⟩ = some x
  rw [this, ← hx]
  simp [hj]
theorem row_block (enc : α → Value) {w : World} {b : Nat} (off n : Nat) (d : Array α) (os : Array Obj) {arr : Array Value} {ty : TypeId} {fr : Nat × Nat} (hb : w.heap[b]? = some (.cells arr ty fr)) :
    (grow (putRow enc (Sort.ahead w n) b off d) os).heap[b]? = some (.cells (putCells enc off d arr) ty fr) := by
  have hlt : b < w.heap.size := by
    rcases Nat.lt_or_ge b w.heap.size with h | h
    · exact h
    · rw [Array.getElem?_eq_none h] at hb; cases hb
  unfold putRow mapBlock grow Sort.ahead
  simp only [Array.getElem?_append, Array.size_modify, hlt, if_true, Array.getElem?_modify, hb, Option.map_some, onCells]
theorem row_other (enc : α → Value) {w : World} {b j : Nat} (off n : Nat) (d : Array α) (os : Array Obj) (hj : j < w.heap.size) (hne : b ≠ j) :
    (grow (putRow enc (Sort.ahead w n) b off d) os).heap[j]? = w.heap[j]? := by
  unfold putRow mapBlock grow Sort.ahead
  simp only [Array.getElem?_append, Array.size_modify, hj, if_true, Array.getElem?_modify, hne, if_false]
theorem row_rest (enc : α → Value) (w : World) (b off n : Nat) (d : Array α) (os : Array Obj) :
    (grow (putRow enc (Sort.ahead w n) b off d) os).os = w.os ∧ (grow (putRow enc (Sort.ahead w n) b off d) os).tape = w.tape ∧ (grow (putRow enc (Sort.ahead w n) b off d) os).output = w.output ∧ w.heap.size ≤ (grow (putRow enc (Sort.ahead w n) b off d) os).heap.size :=
  ⟨rfl, rfl, rfl, by unfold putRow mapBlock grow Sort.ahead; simp⟩

theorem flat1 (cell : α → PV) (d : List α) : (d.map fun x => [cell x]).flatten = d.map cell := by
  induction d with
  | nil => rfl
  | cons x r ih => simp [ih]
theorem cells1 {enc : α → Value} {cell : α → PV} (hinv : ∀ (w : World) x y F, Rep w (cell x) y F → y = enc x ∧ F = []) {w : World} : ∀ (d : List α) (xs : List Value) (F : Foot), RepL w (d.map cell) xs F → xs = d.map enc ∧ F = []
  | [], xs, F, h => h.nil_inv
  | x :: r, xs, F, h => by
    obtain ⟨y1, y2, F1, F2, rfl, rfl, h1, h2⟩ := h.cons_inv
    obtain ⟨rfl, rfl⟩ := hinv _ _ _ _ h1
    obtain ⟨rfl, rfl⟩ := cells1 hinv r _ _ h2
    exact ⟨rfl, rfl⟩
theorem rep1 {enc : α → Value} {cell : α → PV} (hf : ∀ (w : World) x, Rep w (cell x) (enc x) []) (w : World) : ∀ (d : List α), RepL w (d.map cell) (d.map enc) []
  | [] => .nil
  | x :: r => by simpa using RepL.cons (hf w x) (rep1 hf w r)

variable {P : Program} {f : Nat}

/-- a sort of a row of single cells -/
theorem sort1_M (enc : α → Value) (cell : α → PV) (hf : ∀ (w : World) x, Rep w (cell x) (enc x) []) (hinv : ∀ (w : World) x y F, Rep w (cell x) y F → y = enc x ∧ F = []) (ho : ∀ x, oneB (cell x) = true) (hcb : callB P f = true) (d d' : List α) (hlen : d'.length = d.length) (nl : Bool)
    (hnone : ∀ p w, d = [] → Calls P f #[.slice p 0 0] w fun e w' => e = .returned (.tuple #[]) ∧ w' = w)
    (hcon : ∀ b off cap (w : World), Holds enc w b off d.toArray → b < w.heap.size → Calls P f #[.slice (some ⟨b, off, none⟩) d.length cap] w fun e w' => e = .returned (.tuple #[]) ∧ ∃ n os, w' = grow (putRow enc (Sort.ahead w n) b off d'.toArray) os) :
    FnM P f [.lst 1 nl (d.map fun x => [cell x])] (.tup []) (.lst 1 nl (d'.map fun x => [cell x])) := by
  refine ⟨hcb, _, _, rfl, rfl, fun w x0 F0 xs hI hti hr hnd hlt hR => ?_⟩
  obtain ⟨rfl, _⟩ := hR.nil_inv
  have none : ∀ p, d = [] → x0 = .slice p 0 0 → F0 = [] → Calls P f (x0 :: []).toArray w fun e w' => ∃ x F' Fr, e = .returned x ∧ Rep w' (.tup []) x Fr ∧ Rep w' (.lst 1 nl (d'.map fun x => [cell x])) x0 F' ∧
      (w'.os = w.os ∧ w'.tape = w.tape ∧ w'.output = w.output ∧ w.heap.size ≤ w'.heap.size ∧ ∀ k, k < w.heap.size → (∀ e ∈ F0, e.1 ≠ k) → w'.heap[k]? = w.heap[k]?) ∧
      (∀ g ∈ F' ++ Fr, g.1 < w'.heap.size ∧ Unfrozen w' g.1 ∧ (w.heap.size ≤ g.1 ∨ ∃ e ∈ F0, e.1 = g.1)) ∧ ((F' ++ Fr).map (·.1)).Nodup := by
    intro p hd hx hF0
    subst hx hF0
    have hd' : d' = [] := List.eq_nil_of_length_eq_zero (by rw [hlen, hd]; rfl)
    rw [hd']
    rw [hd] at hr
    refine (hnone p w hd).mono fun e w' he => ?_
    obtain ⟨rfl, rfl⟩ := he
    exact ⟨_, [], [], rfl, .tup .nil, hr, ⟨rfl, rfl, rfl, Nat.le_refl _, fun _ _ _ => rfl⟩, by simp, by simp⟩
  rcases hr.lst_inv with ⟨q1, _, q2, q3⟩ | ⟨p, q1, _, q2, q3⟩ | ⟨a, cp, zs, G, q1, q2, q3, hdr, hcp, hu, _, hm, hz⟩
  · exact none _ (by simpa using q2) q1 q3
  · exact none _ (by simpa using q2) q1 q3
  rw [flat1] at hz
  obtain ⟨rfl, rfl⟩ := cells1 hinv d _ _ hz
  obtain ⟨hsp, arr, ty, fr, hb, hcap⟩ := hdr
  obtain ⟨b, off, _⟩ := a
  simp only at hsp; subst hsp
  simp only at hb hcap
  subst q1 q3 q2
  simp only [List.length_map, Nat.mul_one] at *
  have hfr : fr = (0, 0) := by
    obtain ⟨a1, t1, hh⟩ := (hlt (b, off + d.length) (by simp)).2
    rw [hb] at hh; simp at hh; exact hh.2.2
  subst hfr
  have hblt : b < w.heap.size := (hlt (b, off + d.length) (by simp)).1
  have hH := holds1_of hb hm
  refine (hcon b off cp w hH hblt).mono fun e w' he => ?_
  obtain ⟨rfl, n, os, rfl⟩ := he
  have hblk := row_block enc off n d'.toArray os hb
  have hH2 : Holds enc (grow (putRow enc (Sort.ahead w n) b off d'.toArray) os) b off d'.toArray := holds_grow enc _ os b off _ (by unfold putRow mapBlock Sort.ahead; simpa using hblt) (holds_putRow enc (Sort.ahead w n) b off d.toArray d'.toArray hH (by simp [hlen]))
  have hm2 := mem1_of hH2
  have hps : (putCells enc off d'.toArray arr).size = arr.size := by simp [putCells]
  have hrest := row_rest enc w b off n d'.toArray os
  refine ⟨_, [(b, off + d'.length * 1)], [], rfl, .tup .nil, ?_, ⟨hrest.1, hrest.2.1, hrest.2.2.1, hrest.2.2.2, fun j hj hne => row_other enc off n _ os hj (fun h => hne (b, off + d.length) (by simp) h)⟩, ?_, by simp⟩
  · have := rep_row (w := grow (putRow enc (Sort.ahead w n) b off d'.toArray) os) (w' := grow (putRow enc (Sort.ahead w n) b off d'.toArray) os) (off := off) (c := cp) (z := 1) (els := d'.map fun x => [cell x]) (xs := d'.map enc) (G := []) hblk (by rw [hps]; omega) (by rw [List.length_map, hlen]; exact hcp)
      (fun cs hcs => by obtain ⟨x, _, rfl⟩ := List.mem_map.1 hcs; rfl) (fun cs hcs c hc => by obtain ⟨x, _, rfl⟩ := List.mem_map.1 hcs; simp only [List.mem_singleton] at hc; subst hc; exact ho x) ((mem_arr hblk).1 hm2) (by rw [flat1]; exact rep1 hf _ _) (fun e he => by cases he)
    rw [List.length_map, hlen] at this
    rw [hlen]
    exact this
  · intro g hg
    simp only [List.append_nil, List.mem_singleton] at hg
    subst hg
    exact ⟨by have := hrest.2.2.2; simp only; omega, ⟨_, _, hblk⟩, .inr ⟨_, List.mem_cons_self .., rfl⟩⟩

/-- slices.Compact of a row of single cells -/
theorem compact1_X (enc : α → Value) (cell : α → PV) (hf : ∀ (w : World) x, Rep w (cell x) (enc x) []) (hinv : ∀ (w : World) x y F, Rep w (cell x) y F → y = enc x ∧ F = []) (ho : ∀ x, oneB (cell x) = true) (hcb : callB P f = true) (d d' r : List α) (hlen : (d' ++ r).length = d.length) (nl : Bool)
    (hnone : ∀ p w, d = [] → Calls P f #[.slice p 0 0] w fun e w' => e = .returned (.slice p 0 0) ∧ w' = w)
    (hcon : ∀ b off cap (w : World), Holds enc w b off d.toArray → d.length ≤ cap → Calls P f #[.slice (some ⟨b, off, none⟩) d.length cap] w fun e w' => e = .returned (.slice (some ⟨b, off, none⟩) d'.length cap) ∧ ∃ n, w' = putRow enc (Sort.ahead w n) b off (d' ++ r).toArray) :
    FnX P f [.lst 1 nl (d.map fun x => [cell x])] (.lst 1 nl (d'.map fun x => [cell x])) := by
  refine ⟨hcb, fun w xs Fs hI hti hR hnd hlt => ?_⟩
  obtain ⟨x0, xs', F0, F', rfl, rfl, hr, hR⟩ := hR.cons_inv
  obtain ⟨rfl, rfl⟩ := hR.nil_inv
  simp only [List.append_nil] at hnd hlt hti ⊢
  have none : ∀ p, d = [] → x0 = .slice p 0 0 → F0 = [] → Calls P f [x0].toArray w fun e w' => ∃ x F', e = .returned x ∧ Rep w' (.lst 1 nl (d'.map fun x => [cell x])) x F' ∧
      (w'.os = w.os ∧ w'.tape = w.tape ∧ w'.output = w.output ∧ w.heap.size ≤ w'.heap.size ∧ ∀ k, k < w.heap.size → (∀ e ∈ F0, e.1 ≠ k) → w'.heap[k]? = w.heap[k]?) ∧
      (∀ g ∈ F', g.1 < w'.heap.size ∧ Unfrozen w' g.1 ∧ (w.heap.size ≤ g.1 ∨ ∃ e ∈ F0, e.1 = g.1)) ∧ (F'.map (·.1)).Nodup := by
    intro p hd hx hF0
    subst hx hF0
    have hd' : d' = [] := by
      have : (d' ++ r).length = 0 := by rw [hlen, hd]; rfl
      rw [List.length_append] at this
      exact List.eq_nil_of_length_eq_zero (by omega)
    rw [hd']
    rw [hd] at hr
    refine (hnone p w hd).mono fun e w' he => ?_
    obtain ⟨rfl, rfl⟩ := he
    exact ⟨_, [], rfl, hr, ⟨rfl, rfl, rfl, Nat.le_refl _, fun _ _ _ => rfl⟩, by simp, by simp⟩
  rcases hr.lst_inv with ⟨q1, _, q2, q3⟩ | ⟨p, q1, _, q2, q3⟩ | ⟨a, cp, zs, G, q1, q2, q3, hdr, hcp, hu, _, hm, hz⟩
  · exact none _ (by simpa using q2) q1 q3
  · exact none _ (by simpa using q2) q1 q3
  rw [flat1] at hz
  obtain ⟨rfl, rfl⟩ := cells1 hinv d _ _ hz
  obtain ⟨hsp, arr, ty, fr, hb, hcap⟩ := hdr
  obtain ⟨b, off, _⟩ := a
  simp only at hsp; subst hsp
  simp only at hb hcap
  subst q1 q3 q2
  simp only [List.length_map, Nat.mul_one] at *
  have hfr : fr = (0, 0) := by
    obtain ⟨a1, t1, hh⟩ := (hlt (b, off + d.length) (by simp)).2
    rw [hb] at hh; simp at hh; exact hh.2.2
  subst hfr
  have hblt : b < w.heap.size := (hlt (b, off + d.length) (by simp)).1
  have hH := holds1_of hb hm
  refine (hcon b off cp w hH hcp).mono fun e w' he => ?_
  obtain ⟨rfl, n, hw'⟩ := he
  have hg0 : putRow enc (Sort.ahead w n) b off (d' ++ r).toArray = grow (putRow enc (Sort.ahead w n) b off (d' ++ r).toArray) #[] := by simp
  rw [hg0] at hw'
  subst hw'
  have hblk := row_block enc off n (d' ++ r).toArray #[] hb
  have hH2 : Holds enc (grow (putRow enc (Sort.ahead w n) b off (d' ++ r).toArray) #[]) b off (d' ++ r).toArray := holds_grow enc _ #[] b off _ (by unfold putRow mapBlock Sort.ahead; simpa using hblt) (holds_putRow enc (Sort.ahead w n) b off d.toArray (d' ++ r).toArray hH (by simpa using hlen))
  have hm2 := mem1_of hH2
  have hps : (putCells enc off (d' ++ r).toArray arr).size = arr.size := by simp [putCells]
  have hrest := row_rest enc w b off n (d' ++ r).toArray #[]
  have hle : d'.length ≤ d.length := by rw [← hlen, List.length_append]; omega
  have hm3 : Mem (grow (putRow enc (Sort.ahead w n) b off (d' ++ r).toArray) #[]) ⟨b, off, Option.none⟩ (d'.map enc) := fun j x hx => hm2 j x (by
    rw [List.map_append, List.getElem?_append_left]
    · exact hx
    · rcases Nat.lt_or_ge j (d'.map enc).length with h | h
      · exact h
      · rw [List.getElem?_eq_none h] at hx; cases hx)
  refine ⟨_, [(b, off + d'.length * 1)], rfl, ?_, ⟨hrest.1, hrest.2.1, hrest.2.2.1, hrest.2.2.2, fun j hj hne => row_other enc off n _ #[] hj (fun h => hne (b, off + d.length) (by simp) h)⟩, ?_, by simp⟩
  · have := rep_row (w := grow (putRow enc (Sort.ahead w n) b off (d' ++ r).toArray) #[]) (w' := grow (putRow enc (Sort.ahead w n) b off (d' ++ r).toArray) #[]) (off := off) (c := cp) (z := 1) (els := d'.map fun x => [cell x]) (xs := d'.map enc) (G := []) hblk (by rw [hps]; omega) (by rw [List.length_map]; omega)
      (fun cs hcs => by obtain ⟨x, _, rfl⟩ := List.mem_map.1 hcs; rfl) (fun cs hcs c hc => by obtain ⟨x, _, rfl⟩ := List.mem_map.1 hcs; simp only [List.mem_singleton] at hc; subst hc; exact ho x) ((mem_arr hblk).1 hm3) (by rw [flat1]; exact rep1 hf _ _) (fun e he => by cases he)
    rw [List.length_map] at this
    exact this
  · intro g hg
    simp only [List.mem_singleton] at hg
    subst hg
    exact ⟨by have := hrest.2.2.2; simp only; omega, ⟨_, _, hblk⟩, .inr ⟨_, List.mem_cons_self .., rfl⟩⟩
end

variable {P : Program} {ρ : Ren}
theorem sortInt_M (L : SlLaysM.n5 P ρ) (hcb : callB P (ρ.f 5) = true) (nl : Bool) (zs : List Int) (hsz : zs.length < 4611686018427387904) :
    FnM P (ρ.f 5) [.lst 1 nl (zs.map fun z => [.int .i64 z])] (.tup []) (.lst 1 nl ((zs.mergeSort fun x y => decide (x ≤ y)).map fun z => [.int .i64 z])) :=
  sort1_M (Value.int .i64) (PV.int .i64) (fun _ x => .int _ _) (fun _ x y F h => h.int_inv) (fun _ => rfl) hcb zs _ (List.length_mergeSort _) nl (fun p w h => AnyM.slices_Sort_int_none L p 0 w)
    (fun b off cap w hH hb => AnyM.slices_Sort_int L b off cap zs w hH hb hsz)
theorem compactInt_X (L : SlLaysN.n43 P ρ) (hcb : callB P (ρ.f 43) = true) (nl : Bool) (zs : List Int) (hle : (Lib.compact zs).length ≤ zs.length) (hsz : zs.length ≤ 9223372036854775807) :
    FnX P (ρ.f 43) [.lst 1 nl (zs.map fun z => [.int .i64 z])] (.lst 1 nl ((Lib.compact zs).map fun z => [.int .i64 z])) :=
  compact1_X (Value.int .i64) (PV.int .i64) (fun _ x => .int _ _) (fun _ x y F h => h.int_inv) (fun _ => rfl) hcb zs _ (List.replicate (zs.length - (Lib.compact zs).length) 0) (by simp; omega) nl (fun p w h => AnyG.slices_Compact_int_empty L p 0 w)
    (fun b off cap w hH hc => AnyG.slices_Compact_int L b off cap zs w hH hsz hc)
end Go.Eng
set_option linter.unusedVariables false
set_option linter.unusedSimpArgs false
namespace Go.Eng
open Go Go.RowKit Go.Shelf Go.Lib Go.Proofs Go.Sort

/-! ### slices.insertionSortCmpFunc at structs of plain data, by the shelf's walk -/
section
variable {α : Type} [Inhabited α]
variable {P : Program} {ρ : Ren}
end
end Go.Eng
namespace Go.Eng
open Go Go.RowKit
set_option linter.unusedSimpArgs false
set_option linter.unusedVariables false

/-! ### functions that take their first argument and hand on what is theirs -/

def initMy (fl : List Bool) (n : Nat) : List SM := ({ m := .own true } : SM) :: initM fl (n - 1)

def compY (P : Program) (X : Cx) (f : Nat) : Option Comp := match P.funcs[f]? with
  | some fn => (match fn.body, rsOf X fn.results.toList, fn.params.toList with
    | some cd, some (none, rs), _ :: ps => if fn.name != "runtime.NumGoroutine" then
      (match comp X (rtOK X true none rs) cd (initMy (ps.map X.flat ++ List.replicate fn.nfree false) fn.ntmps) with
        | some (ir, out) => if out.2.isEmpty && endOK (rtOK X true none rs) out.1 then some ⟨ir, none, rs, ps.map X.flat ++ List.replicate fn.nfree false⟩ else none
        | none => none) else none
    | _, _, _ => none)
  | none => none

/-- WHAT IS SHOWN OF A FUNCTION THAT TAKES ITS FIRST ARGUMENT, which is owned to the bottom; the others it reads; what it returns is owned. -/
def FnY (P : Program) (f : Nat) (v : PV) (vs : List PV) (res : PV) : Prop :=
  callB P f = true ∧ ∀ (w : World) (x0 : Value) (F0 : Foot) (xs : List Value) (Fs : Foot), Inv P w → (∀ g, P.globalNamed pow10N = some g → ∀ e ∈ F0, e.1 ≠ g) → Rep w v x0 F0 → (F0.map (·.1)).Nodup →
    (∀ g ∈ F0, g.1 < w.heap.size ∧ Unfrozen w g.1) → RepL w vs xs Fs → (∀ g ∈ Fs, g.1 < w.heap.size ∧ ∀ e ∈ F0, e.1 ≠ g.1) →
    Calls P f (x0 :: xs).toArray w fun e w' => ∃ x F', e = .returned x ∧ Rep w' res x F' ∧
      (w'.os = w.os ∧ w'.tape = w.tape ∧ w'.output = w.output ∧ w.heap.size ≤ w'.heap.size ∧ ∀ k, k < w.heap.size → (∀ e ∈ F0, e.1 ≠ k) → w'.heap[k]? = w.heap[k]?) ∧
      (∀ g ∈ F', g.1 < w'.heap.size ∧ Unfrozen w' g.1 ∧ (w.heap.size ≤ g.1 ∨ ∃ e ∈ F0, e.1 = g.1)) ∧ (F'.map (·.1)).Nodup

section
variable {P : Program} {X : Cx} {c : Ctx} {F E : Nat → Foot} {B : Nat → Nat} {M : MF} {V : Env} {a : Act} {w w' : World}

abbrev ctxY (P : Program) (w : World) (F0 Fs : Foot) : Ctx :=
  { base := w.heap.size, ms := F0.map (·.1), ar := Fs, iv := InvM P w.heap.size (F0.map (·.1)), ivs := InvM.keep }

theorem ctxY_iv (P : Program) (X : Cx) (w : World) (F0 Fs : Foot) : IvOK P X (ctxY P w F0 Fs) :=
  ⟨fun _ h => ⟨h.1, fun g hg hh => by
    have := h.2 g hg
    rcases hh with hh | hh
    · exact absurd (Nat.lt_of_lt_of_le this.1 hh) (Nat.lt_irrefl _)
    · exact this.2 hh⟩, fun hz => by cases hz⟩

theorem foot_one : ∀ {F0 : Foot}, (F0.map (·.1)).Nodup → ∀ f ∈ F0, ∀ e ∈ F0, f.1 = e.1 → f = e
  | [], _, f, hf, _, _, _ => by cases hf
  | g :: L, hnd, f, hf, e, he, hfe => by
    simp only [List.map_cons, List.nodup_cons] at hnd
    rcases List.mem_cons.1 he with h1 | h1
    · rcases List.mem_cons.1 hf with h2 | h2
      · rw [h1, h2]
      · exact absurd (List.mem_map.2 ⟨f, h2, hfe.trans (congrArg Prod.fst h1)⟩) hnd.1
    · rcases List.mem_cons.1 hf with h2 | h2
      · exact absurd (List.mem_map.2 ⟨e, h1, hfe.symm.trans (congrArg Prod.fst h2)⟩) hnd.1
      · exact foot_one hnd.2 f h2 e h1 hfe

theorem init_RAy {fl : List Bool} {v : PV} {vs : List PV} {x0 : Value} {xs : List Value} {F0 Fs : Foot} (hi : Inv P w) (hti : ∀ g, P.globalNamed pow10N = some g → ∀ e ∈ F0, e.1 ≠ g) (hv : Rep w v x0 F0) (hnd : (F0.map (·.1)).Nodup)
    (hF : ∀ g ∈ F0, g.1 < w.heap.size ∧ Unfrozen w g.1) (ha : argsOK fl vs = true) (hr : RepL w vs xs Fs) (hlt : ∀ g ∈ Fs, g.1 < w.heap.size ∧ ∀ e ∈ F0, e.1 ≠ g.1) (n : Nat) :
    RA (ctxY P w F0 Fs) (initMy fl n).length (mf (initMy fl n)) (fun t => (v :: vs).getD t .junk)
      { tmps := (x0 :: xs).toArray ++ Array.replicate (n - (x0 :: xs).toArray.size) undef, defers := [] } w := by
  obtain ⟨G, h1, h2, h3⟩ := hr.foots
  have hxl := hr.length
  have hfl := argsOK_len ha
  have hx : ∀ t, t < vs.length + 1 → Act.x { tmps := (x0 :: xs).toArray ++ Array.replicate (n - (x0 :: xs).toArray.size) undef, defers := [] } t = (x0 :: xs).getD t undef := by
    intro t ht
    simp only [Act.x, Array.getD_eq_getD_getElem?, List.getD_eq_getElem?_getD]
    rw [Array.getElem?_append_left (by simp [hxl]; omega)]
    simp
  have hInvB := InvB.of hi
  have hsucc : ∀ t, mf (initMy fl n) (t + 1) = mf (initM fl (n - 1)) t := fun t => rfl
  have hg : ∀ t, (mf (initMy fl n) t).g = [] ∧ isBox (mf (initMy fl n) t).m = false := by
    intro t
    cases t with
    | zero => exact ⟨rfl, rfl⟩
    | succ t => rw [hsucc]; rcases initM_get ha (n - 1) t with h | ⟨_, ⟨h, _⟩ | h⟩ <;> rw [h] <;> exact ⟨rfl, rfl⟩
  refine ⟨fun t => match t with | 0 => F0 | t + 1 => G t, fun t => match t with | 0 => F0 | _ + 1 => [], fun _ => 0, ?_, Nat.le_refl _, ?_, rfl, ⟨hi, fun g hg => ⟨hInvB.2 g hg, fun hh => ?_⟩⟩, trivial⟩
  · constructor
    · intro t
      refine Ent.mk (fun q hq => by rw [(hg t).1] at hq; cases hq) ?_ (fun _ => ⟨fun _ => ?_, fun hh => absurd (by rw [(hg t).1]; intro q hq; cases hq) hh⟩)
      · intro ho
        cases t with
        | zero => cases ho
        | succ t => rfl
      · cases t with
        | zero =>
          show SlotR _ _ _ _ _ _ _ _ 0 (.own true)
          simp only [SlotR]
          rw [hx 0 (by omega)]
          exact ⟨hv, ⟨by simp [topOf], by simpa [topOf] using hnd⟩, by simp⟩
        | succ t =>
          rw [hsucc]
          rcases initM_get ha (n - 1) t with h | ⟨ht, ⟨h, hs⟩ | h⟩
          · rw [h]; trivial
          · rw [h]
            have := h1 t
            have he := this.sc hs
            rw [he] at this
            simp only [SlotR]
            rw [hx (t + 1) (by omega)]
            exact ⟨by simpa using this, he⟩
          · rw [h]
            have := h1 t
            simp only [SlotR]
            rw [hx (t + 1) (by omega)]
            refine ⟨by simpa using this, fun f hf => ⟨(hlt f (h2 t f hf)).1, fun hh => ?_⟩⟩
            obtain ⟨e, he, hh⟩ := List.mem_map.1 hh
            exact (hlt f (h2 t f hf)).2 e he hh
    · intro t u e f he hf _
      cases t with
      | succ t => cases he
      | zero => cases u with
        | succ u => cases hf
        | zero => rfl
    · intro t
      cases t with
      | zero => exact hnd
      | succ t => simp
    · intro t e he
      cases t with
      | zero => exact ⟨.inr (List.mem_map.2 ⟨e, he, rfl⟩), (hF e he).2⟩
      | succ t => cases he
    · intro t e he
      cases t with
      | zero => exact he
      | succ t => cases he
    · intro t e he u f hf hfe
      cases t with
      | succ t => cases he
      | zero => cases u with
        | zero => rw [foot_one hnd f hf e he hfe]; exact Nat.le_refl _
        | succ u => exact absurd hfe.symm ((hlt f (h2 u f hf)).2 e he)
    · exact fun t _ => (hg t).1
    · intro t ht; rw [(hg t).2] at ht; cases ht
    · intro t u ht; rw [(hg t).2] at ht; cases ht
    · intro t f hf
      cases t with
      | zero => exact (hF f hf).1
      | succ t => exact (hlt f (h2 t f hf)).1
    · intro t f hf
      cases t with
      | zero => exact .inl (.inr (List.mem_map.2 ⟨f, hf, rfl⟩))
      | succ t => exact .inr ⟨f, h2 t f hf, rfl, Nat.le_refl _⟩
  · simp [initMy, initM, hxl, hfl]; omega
  · obtain ⟨e, he, hh⟩ := List.mem_map.1 hh
    exact hti g hg e he hh

/-- A FUNCTION OF THE PROGRAM THAT TAKES ITS FIRST ARGUMENT, by its compiled form. -/
theorem FnY.of {P : Program} {X : Cx} (hX : TabOK P X) (hm : P.follows .mixedOrders = true) {f : Nat} {q : Comp} (hc : compY P X f = some q) {v : PV} {vs : List PV} (ha : argsOK q.fl vs = true)
    {res : PV} (hw : awp (FC P) q.ir (fun _ V => resV none q.rs V = res) (fun t => (v :: vs).getD t .junk)) : FnY P f v vs res := by
  unfold compY at hc
  split at hc
  case h_2 => cases hc
  rename_i fn hf
  split at hc
  case h_2 => cases hc
  rename_i cd rs p0 ps hb hr hps
  split at hc
  case isFalse => cases hc
  rename_i hn
  split at hc
  case h_2 => cases hc
  rename_i ir out hcc
  split at hc
  case isFalse => cases hc
  rename_i ho
  simp only [Option.some.injEq] at hc
  subst hc
  obtain ⟨hres, hl, hl2⟩ := rsOf_spec hr
  refine ⟨by simp [callB, hf, hb]; simpa using hn, ?_⟩
  intro w x0 F0 xs Fs hi hti h0 hnd hF hrv hlt
  refine calls_of_wp hf hb ?_
  have hra := init_RAy hi hti h0 hnd hF ha hrv hlt fn.ntmps
  refine wp_mono (code_ok (X := X) (c := ctxY P w F0 Fs) hX (ctxY_iv P _ w F0 Fs) hm cd _ ir out hcc _ _ w w _ hra (Stp.refl _ _) hw) ?_
  have hmine : ∀ b, (ctxY P w F0 Fs).mine b → (w.heap.size ≤ b ∨ ∃ e ∈ F0, e.1 = b) := by
    intro b hb
    rcases hb with hb | hb
    · exact .inl hb
    · obtain ⟨e, he, hh⟩ := List.mem_map.1 hb
      exact .inr ⟨e, he, hh⟩
  have fin : ∀ (a' : Act) (w' : World) (m : List SM) (V : Env), Stp (ctxY P w F0 Fs) w w' → rtOK X true none rs m = true → RA (ctxY P w F0 Fs) m.length (mf m) V a' w' → resV none rs V = res →
      a'.defers = [] ∧ ∃ z, (results fn a'.tmps).run P w' = .ok z w' ∧ (∃ x F', Ending.returned z = .returned x ∧ Rep w' res x F' ∧
        (w'.os = w.os ∧ w'.tape = w.tape ∧ w'.output = w.output ∧ w.heap.size ≤ w'.heap.size ∧ ∀ k, k < w.heap.size → (∀ e ∈ F0, e.1 ≠ k) → w'.heap[k]? = w.heap[k]?) ∧
        (∀ g ∈ F', g.1 < w'.heap.size ∧ Unfrozen w' g.1 ∧ (w.heap.size ≤ g.1 ∨ ∃ e ∈ F0, e.1 = g.1)) ∧ (F'.map (·.1)).Nodup) := by
    rintro a' w' m V hS hrt ⟨F, E, B, h1, h2, h3, h4, _, h5⟩ hVr
    obtain ⟨z, F', q1, q2, q3, q4⟩ := res_fin hX h1 hrt trivial hres hl hl2
    obtain ⟨q5, q6⟩ := q4 rfl
    refine ⟨h4, z, q1, z, F', rfl, by rw [← hVr]; exact q2, ⟨hS.1, hS.2.1, hS.2.2.1, hS.2.2.2.1, fun k hk hh => hS.2.2.2.2 k ?_⟩, fun g hg => ?_, q6⟩
    · rintro (hk' | hk')
      · exact absurd (Nat.lt_of_lt_of_le hk hk') (Nat.lt_irrefl _)
      · obtain ⟨e, he, hh'⟩ := List.mem_map.1 hk'
        exact hh e he hh'
    · obtain ⟨u, hu⟩ := q3 g hg
      exact ⟨h1.f1 u g hu, (q5 g hg).2, hmine _ (q5 g hg).1⟩
  intro e a' w' h
  simp only [Bool.and_eq_true, List.isEmpty_iff] at ho
  cases e with
  | normal =>
    obtain ⟨h1, m, V, h2, h3, h4⟩ := h
    rw [h2] at ho
    exact fin a' w' m V h1 ho.2 h3 h4
  | exit id =>
    obtain ⟨h1, m, V, h2, h3⟩ := h
    rw [ho.1] at h2; cases h2
  | ret =>
    obtain ⟨h1, m, V, h2, h3, h4⟩ := h
    exact fin a' w' m V h1 h2 h3 h4
  | _ => exact h.elim

theorem FnY.by_sx {P : Program} {X : Cx} (hX : TabOK P X) (hm : P.follows .mixedOrders = true) {f : Nat} {q : Comp} (hc : compY P X f = some q) {v : PV} {vs : List PV} (ha : argsOK q.fl vs = true)
    {res : PV} (hw : sx (FC P) q.ir (fun _ V => resV none q.rs V = res) (fun t => (v :: vs).getD t .junk)) : FnY P f v vs res :=
  FnY.of hX hm hc ha (sx_awp _ _ _ _ (fun _ _ h => h) hw)
end
end Go.Eng
namespace Go.Eng
open Go
theorem xal {α : Type} {p : α → Prop} {b : Prop} : (∃ x, b ∧ p x) ↔ b ∧ ∃ x, p x := exists_and_left
theorem xel {α : Type} {p : α → Prop} {a : α} : (∃ x, a = x ∧ p x) ↔ p a := exists_eq_left'
/-- what simp is told besides: equations -/
abbrev sxb := And.intro @isPtrN.eq_1 <| And.intro @isPtrN.eq_2 <| And.intro @PV.pcs.eq_1 <| And.intro @PV.pcs.eq_2 <| And.intro @elAt.eq_1 <| And.intro @setEl.eq_1 <| And.intro @inAt.eq_1 <| And.intro @elIn.eq_1 <| And.intro @setIn.eq_1 <| And.intro @isLst.eq_1 <| And.intro @isLst.eq_2 <| And.intro @cellsOf.eq_1 <| And.intro @cellsOf.eq_2 <| And.intro @Opd.val.eq_1 <| And.intro @Opd.val.eq_2 <| And.intro @POp.dst.eq_1 <| And.intro @POp.dst.eq_2 <| And.intro @POp.dst.eq_3 <| And.intro @bin_int <| And.intro @binOK_int <| And.intro @bin_str <| And.intro @binOK_str <| And.intro @resOK.eq_1 <| And.intro @resOK.eq_2 <| And.intro @resV.eq_1 <| And.intro @resV.eq_2 <| And.intro @resV.eq_3 <| And.intro @resV.eq_4 <| And.intro @RB.val.eq_1 <| And.intro @sub.eq_1 <| And.intro @putc.eq_1 <| And.intro @scB.eq_1 <| And.intro @scB.eq_2 <| And.intro @scB.eq_3 <| And.intro @scB.eq_4 <| And.intro @scB.eq_5 <| And.intro @scB.eq_6 <| And.intro @scB.eq_7 <| And.intro @scL.eq_1 <| And.intro @scL.eq_2 <| And.intro @oneB.eq_1 <| And.intro @oneB.eq_2 @oneB.eq_3
/-- .. -/
abbrev sxc := And.intro @oneB.eq_4 <| And.intro @conf.eq_1 <| And.intro @conf.eq_2 <| And.intro @conf.eq_3 <| And.intro @conf.eq_4 <| And.intro @conf.eq_5 <| And.intro @Ex.val.eqP.eq_1 <| And.intro @Ex.val.eqP.eq_2 <| And.intro @Ex.val.eqL.eq_1 <| And.intro @Ex.val.eqL.eq_2 <| And.intro @Ex.val.eqL.eq_3 <| And.intro @Ex.val.eqL.eq_4 <| And.intro @Ex.val.eqL.eq_5 <| And.intro @negV.eq_1 <| And.intro @negV.eq_2 <| And.intro @mxV.eq_1 <| And.intro @mxV.eq_2 <| And.intro @mnV.eq_1 <| And.intro @mnV.eq_2 <| And.intro @wr_zero <| And.intro @wr_one <| And.intro @wr_m1 <| And.intro @bst_lst <| And.intro @byteC.eq_1 <| And.intro @byteC.eq_2 <| And.intro @partsOK.eq_1 <| And.intro @putAll.eq_1 <| And.intro @putAll.eq_2 <| And.intro @appV.eq_1 <| And.intro @appV.eq_2 <| And.intro @nilV.eq_1 <| And.intro @nilV.eq_2 <| And.intro @slV.eq_1 <| And.intro @slV.eq_2 <| And.intro @sslV.eq_1 <| And.intro @sslV.eq_2 <| And.intro @optB.eq_1 <| And.intro @optNum.eq_1 <| And.intro @optNum.eq_2 <| And.intro @and_assoc <| And.intro @xal @xel
end Go.Eng
