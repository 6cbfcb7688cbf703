/- A part of the proof of a law's statement: for every input the law returns true and leaves its arguments as they were. No condition beyond the statement's own. A calculus over plain values for the model's code, proved once. -/
import Derived.Test.YtjbjkhdflkmccaaTe3
set_option linter.unusedVariables false
set_option linter.unusedSimpArgs false
set_option autoImplicit true
set_option relaxedAutoImplicit true
namespace Go.Eng
open Go Go.RowKit
set_option linter.unusedSimpArgs false
set_option linter.unusedVariables false

theorem alloc_same (w : World) (o : Obj) : ∀ k, k < w.heap.size → (w.alloc o).heap[k]? = w.heap[k]? := fun k hk => by
  show (w.heap.push o)[k]? = _
  rw [Array.getElem?_push, if_neg (by omega)]
theorem valOf_mid {w : World} {mid : List PV} {ym : List Value} {G : Foot} (agg : Bool) (ha : agg = true ∨ mid.length = 1) (hl : ym.length = mid.length) (h : Rep w (valOf agg mid) (valOfX agg ym) G) : RepL w mid ym G := by
  cases agg with
  | true =>
    obtain ⟨xs, h1, h2⟩ := h.agg_inv
    have : ym = xs := by
      have : ym.toArray = xs.toArray := by simpa [valOfX] using h1
      simpa using this
    rw [this]; exact h2
  | false =>
    have hm := ha.resolve_left (by simp)
    obtain ⟨m, rfl⟩ := List.length_eq_one_iff.1 hm
    rw [hm] at hl
    obtain ⟨y, rfl⟩ := List.length_eq_one_iff.1 hl
    exact RepL.one h

/-- a function that hands on one part of a struct to a function that writes behind it -/
theorem wrap_FnM {P : Program} {f g : Nat} {pre mid post mid' : List PV} {agg : Bool} {k r : Int} {T : TypeId} (hcall : callB P f = true) (hag : agg = true ∨ mid.length = 1) (hag' : agg = true ∨ mid'.length = 1) (hml : mid'.length = mid.length)
    (hg : FnM P g [valOf agg mid, .int .i64 k] (.int .i64 r) (valOf agg mid'))
    (walk : ∀ (w : World) (ya ym yz : List Value) (R : World → Prop), ya.length = pre.length → ym.length = mid.length → yz.length = post.length →
      Calls P g #[valOfX agg ym, .int .i64 k] (w.alloc (.cells (ya ++ ym ++ yz).toArray T)) (fun e w' => e = .returned (.int .i64 r) ∧ R w') →
      Calls P f #[.agg (ya ++ ym ++ yz).toArray, .int .i64 k] w (fun e w' => e = .returned (.int .i64 r) ∧ R w')) :
    FnM P f [.agg (pre ++ mid ++ post), .int .i64 k] (.int .i64 r) (.agg (pre ++ mid' ++ post)) := by
  refine ⟨hcall, _, _, rfl, rfl, fun w x0 F0 xs hI hpow hr hnd hlt hR => ?_⟩
  obtain ⟨ys, rfl, hys⟩ := hr.agg_inv
  obtain ⟨y12, yz, G12, GZ, rfl, rfl, h12, hz⟩ := RepL.split _ hys
  obtain ⟨ya, ym, GA, GM, rfl, rfl, ha, hm⟩ := RepL.split _ h12
  obtain ⟨x1, xs', F1, F2, rfl, hF, hx1, hxs⟩ := hR.cons_inv
  obtain ⟨rfl, rfl⟩ := hxs.nil_inv
  obtain ⟨rfl, rfl⟩ := hx1.int_inv
  obtain ⟨hcb, v0, vs, hvv, hkin, hcon⟩ := hg
  simp only [List.cons.injEq] at hvv
  obtain ⟨rfl, rfl⟩ := hvv
  have hmem : ∀ {e}, e ∈ GM → e ∈ GA ++ GM ++ GZ := fun he => by simp [he]
  have hsz : (w.alloc (.cells (ya ++ ym ++ yz).toArray T)).heap.size = w.heap.size + 1 := by show (w.heap.push _).size = _; simp
  have hsame := alloc_same w (.cells (ya ++ ym ++ yz).toArray T)
  have hI2 : Inv P (w.alloc (.cells (ya ++ ym ++ yz).toArray T)) := by
    exact (InvB.keep w _ (fun j hj => hsame j (by simp at hj; omega)) (InvB.of hI)).1
  have hm2 : Rep (w.alloc (.cells (ya ++ ym ++ yz).toArray T)) (valOf agg mid) (valOfX agg ym) GM := (hm.valOf agg hag).keep (fun e he => by
    have := hsame e.1 (hlt e (hmem he)).1
    exact ⟨fun o _ => by simp only [World.cell?]; rw [this], fun arr ty fr hh => ⟨arr, fr, by rw [this]; exact hh, rfl⟩⟩)
  have hndm : (GM.map (·.1)).Nodup := hnd.sublist ((((List.sublist_append_right GA GM).trans (List.sublist_append_left _ GZ))).map _)
  have hc := hcon (w.alloc (.cells (ya ++ ym ++ yz).toArray T)) (valOfX agg ym) GM [.int .i64 k] hI2 (fun g hg e he => hpow g hg e (hmem he)) hm2 hndm
    (fun e he => by
      obtain ⟨arr, ty, hq⟩ := (hlt e (hmem he)).2
      exact ⟨by have := (hlt e (hmem he)).1; omega, arr, ty, by rw [hsame _ (hlt e (hmem he)).1]; exact hq⟩) (.cons (.int ..) .nil)
  refine (walk w ya ym yz (fun w' => ∃ F' Fr, Rep w' (.int .i64 r) (.int .i64 r) Fr ∧ Rep w' (.agg (pre ++ mid' ++ post)) (.agg (ya ++ ym ++ yz).toArray) F' ∧
      (w'.os = w.os ∧ w'.tape = w.tape ∧ w'.output = w.output ∧ w.heap.size ≤ w'.heap.size ∧ ∀ k, k < w.heap.size → (∀ e ∈ GA ++ GM ++ GZ, e.1 ≠ k) → w'.heap[k]? = w.heap[k]?) ∧
      (∀ g ∈ F' ++ Fr, g.1 < w'.heap.size ∧ Unfrozen w' g.1 ∧ (w.heap.size ≤ g.1 ∨ ∃ e ∈ GA ++ GM ++ GZ, e.1 = g.1)) ∧ ((F' ++ Fr).map (·.1)).Nodup) ha.length hm.length hz.length (hc.mono fun e w' he => ?_)).mono fun e w' he => ?_
  · obtain ⟨x, F', Fr, rfl, q1, q2, q3, q4, q5⟩ := he
    obtain ⟨rfl, rfl⟩ := q1.int_inv
    refine ⟨rfl, GA ++ F' ++ GZ, [], .int .., ?_, ⟨q3.1, q3.2.1, q3.2.2.1, by omega, fun k hk hne => ?_⟩, ?_, ?_⟩
    · have side : ∀ b ∈ GA ++ GZ, w'.heap[b.1]? = w.heap[b.1]? := fun b hb => by
        have hbF : b ∈ GA ++ GM ++ GZ := by
          rcases List.mem_append.1 hb with hb | hb <;> simp [hb]
        have hb1 := (hlt b hbF).1
        rw [q3.2.2.2.2 b.1 (by omega) (fun e he hh => ?_)]
        · exact hsame b.1 hb1
        · rw [List.map_append, List.map_append, List.nodup_append] at hnd
          obtain ⟨n1, n2, n3⟩ := hnd
          rw [List.nodup_append] at n1
          rcases List.mem_append.1 hb with hb | hb
          · exact n1.2.2 _ (List.mem_map.2 ⟨b, hb, rfl⟩) _ (List.mem_map.2 ⟨e, he, rfl⟩) hh.symm
          · exact n3 _ (List.mem_append_right _ (List.mem_map.2 ⟨e, he, rfl⟩)) _ (List.mem_map.2 ⟨b, hb, rfl⟩) hh
      have kk : ∀ {G : Foot}, (∀ e ∈ G, e ∈ GA ++ GZ) → Keeps w w' G := fun hG e he =>
        ⟨fun o _ => by simp only [World.cell?]; rw [side e (hG e he)], fun arr ty fr hh => ⟨arr, fr, by rw [side e (hG e he)]; exact hh, rfl⟩⟩
      refine .agg (((ha.keep (kk fun e he => List.mem_append_left _ he)).append (valOf_mid agg hag' (by rw [hm.length, hml]) q2)).append (hz.keep (kk fun e he => List.mem_append_right _ he)))
    · rw [q3.2.2.2.2 k (by omega) (fun e he => hne e (hmem he))]
      exact hsame k hk
    · intro g hg
      rw [List.append_nil] at hg
      have hold : ∀ b ∈ GA ++ GZ, b ∈ GA ++ GM ++ GZ ∧ ∀ e ∈ GM, e.1 ≠ b.1 := fun b hb => by
        have hbF : b ∈ GA ++ GM ++ GZ := by
          rcases List.mem_append.1 hb with hb | hb <;> simp [hb]
        refine ⟨hbF, fun e he hh => ?_⟩
        rw [List.map_append, List.map_append, List.nodup_append] at hnd
        obtain ⟨n1, n2, n3⟩ := hnd
        rw [List.nodup_append] at n1
        rcases List.mem_append.1 hb with hb | hb
        · exact n1.2.2 _ (List.mem_map.2 ⟨b, hb, rfl⟩) _ (List.mem_map.2 ⟨e, he, rfl⟩) hh.symm
        · exact n3 _ (List.mem_append_right _ (List.mem_map.2 ⟨e, he, rfl⟩)) _ (List.mem_map.2 ⟨b, hb, rfl⟩) hh
      have both : g ∈ GA ++ GZ ∨ g ∈ F' := by
        simp only [List.mem_append] at hg ⊢
        rcases hg with (hg | hg) | hg
        · exact .inl (.inl hg)
        · exact .inr hg
        · exact .inl (.inr hg)
      rcases both with hb | hb
      · obtain ⟨b1, b2⟩ := hold g hb
        obtain ⟨arr, ty, hq⟩ := (hlt g b1).2
        have hb1 := (hlt g b1).1
        exact ⟨by omega, ⟨arr, ty, by rw [q3.2.2.2.2 g.1 (by omega) b2, hsame g.1 hb1]; exact hq⟩, .inr ⟨g, b1, rfl⟩⟩
      · obtain ⟨y1, y2, y3⟩ := q4 g (List.mem_append_left _ hb)
        exact ⟨y1, y2, y3.imp (fun h => by omega) fun ⟨e, he, hh⟩ => ⟨e, hmem he, hh⟩⟩
    · rw [List.append_nil] at q4 q5 ⊢
      have := nodup_mid (G' := F') (Gr := []) hnd (fun g hg => (hlt g (by
        rcases List.mem_append.1 hg with hg | hg <;> simp [hg])).1) (by simpa using q5) (fun g hg => by
          obtain ⟨_, _, y3⟩ := q4 g (by simpa using hg)
          exact y3.imp (fun h => by omega) id)
      simpa using this
  · obtain ⟨rfl, F', Fr, q1, q2, q3, q4, q5⟩ := he
    exact ⟨_, F', Fr, rfl, q1, q2, q3, q4, q5⟩
end Go.Eng
