/- A part of the proof of a law's statement: for every input the law returns true and leaves its arguments as they were. No condition beyond the statement's own. A calculus over plain values for the model's code, proved once. -/
import Derived.Deep.RegionLaw
import Derived.Deep.LoopGhost
import Derived.Test.YtjbjkhdflkmccaaAe3
set_option linter.unusedVariables false
set_option linter.unusedSimpArgs false
set_option autoImplicit true
set_option relaxedAutoImplicit true
set_option linter.unusedVariables false
set_option linter.unusedSimpArgs false
namespace Go.Eng
open Go Go.RowKit Go.Shelf Go.Lib Go.Proofs

structure DelL (P : Program) (ρ : Ren) (z by_ : Nat) (zv : Value) : Prop where
  mixed : P.follows .mixedOrders = true
  f24 : Bears P (ρ.f 24) (Body2.n24 ρ)
  t0 : P.underlying (ρ.t 0) = some (TypeDesc.tuple #[])
  a0 : ∀ w, (isAgg (ρ.t 0)).run P w = .ok false w
  z0 : ∀ w, (Go.sizeOf (ρ.t 0)).run P w = .ok 1 w
  v0 : ∀ w, (zeroValue (ρ.t 0)).run P w = .ok (Value.tuple #[]) w
  t3 : P.underlying (ρ.t 3) = some (TypeDesc.int IntKind.i64)
  a3 : ∀ w, (isAgg (ρ.t 3)).run P w = .ok false w
  z3 : ∀ w, (Go.sizeOf (ρ.t 3)).run P w = .ok 1 w
  v3 : ∀ w, (zeroValue (ρ.t 3)).run P w = .ok (Value.int IntKind.i64 0) w
  t4 : P.underlying (ρ.t 4) = some (TypeDesc.bool)
  a4 : ∀ w, (isAgg (ρ.t 4)).run P w = .ok false w
  z4 : ∀ w, (Go.sizeOf (ρ.t 4)).run P w = .ok 1 w
  v4 : ∀ w, (zeroValue (ρ.t 4)).run P w = .ok (Value.bool false) w
  z9 : ∀ w, (Go.sizeOf (ρ.t 9)).run P w = .ok z w
  v9 : ∀ w, (zeroValue (ρ.t 9)).run P w = .ok zv w
  t24 : P.underlying (ρ.t 24) = some (TypeDesc.slice (ρ.t 9))
  a24 : ∀ w, (isAgg (ρ.t 24)).run P w = .ok false w
  z24 : ∀ w, (Go.sizeOf (ρ.t 24)).run P w = .ok 1 w
  v24 : ∀ w, (zeroValue (ρ.t 24)).run P w = .ok (Value.slice none 0 0) w
  i9 : (P.info? (ρ.t 9)).map (fun i => (i.zero, i.size, i.bytes)) = some (some zv, z, by_)
  hz : 0 < z
  hzc : zv.cells.size = z
  h1 : ((Builtin.zeroCells zv.cells 1).toList.all (·.oneCell')) = true

theorem run_clear_one {P : Program} (w : World) (t e ty : TypeId) (zv : Value) (ht : P.underlying t = some (.slice e)) (hv : ∀ w, (zeroValue e).run P w = .ok zv w) (b o c : Nat) {Z : List Value} (hZ : (Builtin.zeroCells zv.cells 1).toList = Z) (h1 : ∀ v ∈ Z, v.oneCell' = true)
    (hc : ∀ j, j < Z.length → (w.cell? ⟨b, o + j, none⟩).isSome = true) (hf : ∀ j, j < Z.length → w.frozen? ⟨b, o + j, none⟩ = false) :
    (Builtin.clear_ #[t] ty #[.slice (some ⟨b, o, none⟩) 1 c]).run P w = .ok (.tuple #[]) (w.setCells b o Z) := by
  have hst := run_storeCells_cells (P := P) b o Z 0 w (by simpa using hc) (by simpa using hf) h1
  simp only [Nat.add_zero] at hst
  simp only [Builtin.clear_]
  simp [run_underlying ht, hv, hZ, hst]

variable {P : Program} {ρ : Ren}

set_option maxHeartbeats 4000000 in
set_option maxRecDepth 1000000 in
theorem del_walk {z by_ : Nat} {zv : Value} (L : DelL P ρ z by_ zv) (b off c i j n : Nat) (cs : List Value) (w : World) {arr : Array Value} {tt : TypeId} (hb : w.heap[b]? = some (.cells arr tt (0, 0))) (hsz : off + c * z ≤ arr.size)
    (hij : j = i + 1) (hj : j ≤ n) (hnc : n ≤ c) (hc63 : n ≤ 9223372036854775807) (hcl : cs.length = n * z)
    (hcs : ∀ k v, cs[k]? = some v → w.cell? ⟨b, off + k, none⟩ = some v) (h1c : ∀ v ∈ cs, v.oneCell' = true) {Z : List Value} (hZ : (Builtin.zeroCells zv.cells 1).toList = Z) :
    Calls P (ρ.f 24) #[.slice (some ⟨b, off, none⟩) n c, .int .i64 i, .int .i64 j] w fun e w' =>
      e = .returned (.slice (some ⟨b, off, none⟩) (n - 1) c) ∧ w' = (w.drew.setCells b (off + i * z) (cs.drop (j * z))).setCells b (off + (n - 1) * z) Z := by
  have t0 := L.t0; have a0 := L.a0; have z0 := L.z0; have v0 := L.v0; have t3 := L.t3; have a3 := L.a3; have z3 := L.z3; have v3 := L.v3; have t4 := L.t4; have a4 := L.a4; have z4 := L.z4; have v4 := L.v4; have z9 := L.z9; have t24 := L.t24; have a24 := L.a24; have z24 := L.z24; have v24 := L.v24
  have u0 := run_underlying L.t0; have u3 := run_underlying L.t3; have u4 := run_underlying L.t4; have u24 := run_underlying L.t24
  have mixed := L.mixed
  obtain ⟨i0, hi0, hz0, hz1, hz2⟩ := info_parts L.i9
  have hlt : i < j := by omega
  obtain ⟨news, hnews⟩ : ∃ news, news = cs.drop (j * z) := ⟨_, rfl⟩
  have hlen : news.length = (n - j) * z := by rw [hnews, List.length_drop, hcl, Nat.sub_mul]
  have esz : n * z ≤ c * z := Nat.mul_le_mul_right z hnc
  have ej : j * z + (n - j) * z = n * z := by rw [← Nat.add_mul]; congr 1; omega
  have ei : i * z + z = j * z := by rw [hij, Nat.add_mul, Nat.one_mul]
  have en : (n - 1) * z + z = n * z := by rw [show n * z = (n - 1 + 1) * z by congr 1; omega, Nat.add_mul, Nat.one_mul]
  have en2 : (i + (n - j)) * z = (n - 1) * z := by congr 1; omega
  obtain ⟨A, hA, hsrc⟩ : ∃ A : Addr, (if c = j then some (⟨b, off, none⟩ : Addr) else some ⟨b, off + j * z, none⟩) = some A ∧ Hid (∀ t u, news[t]? = some u → w.drew.cell? (A.add t) = some u) := by
    by_cases h : c = j
    · refine ⟨⟨b, off, none⟩, by simp [h], fun t u hu => ?_⟩
      have h0 : news.length = 0 := by rw [hlen, show n - j = 0 by omega, Nat.zero_mul]
      rw [List.length_eq_zero_iff.1 h0] at hu
      simp at hu
    · refine ⟨⟨b, off + j * z, none⟩, by simp [h], fun t u hu => ?_⟩
      rw [hnews, List.getElem?_drop] at hu
      rw [Addr.add_lit, Nat.add_assoc]
      exact hcs _ u hu
  have s1 : Hid (news.length = (n - j) * z) := hlen
  have s2 : Hid (∀ u ∈ news, u.oneCell' = true) := fun u hu => h1c u (by rw [hnews] at hu; exact List.mem_of_mem_drop hu)
  have hcell : ∀ k, k < c * z → ∀ W : World, (∃ A2, W.heap[b]? = some (.cells A2 tt (0, 0)) ∧ A2.size = arr.size) → (W.cell? ⟨b, off + k, none⟩).isSome = true ∧ W.frozen? ⟨b, off + k, none⟩ = false := fun k hk W ⟨A2, h1, h2⟩ => by
    refine ⟨?_, by simp [World.frozen?, h1]⟩
    rw [cell_arr h1, List.getElem?_eq_getElem (by simp; omega)]; rfl
  have s3 : Hid (∀ t, t < news.length → (w.drew.cell? ⟨b, off + i * z + t, none⟩).isSome = true ∧ w.drew.frozen? ⟨b, off + i * z + t, none⟩ = false) := by
    intro t ht
    rw [hlen] at ht
    rw [Nat.add_assoc]
    have : i * z + (n - j) * z < n * z := by
      have : 0 < z := L.hz
      omega
    exact hcell _ (by omega) w.drew ⟨arr, hb, rfl⟩
  obtain ⟨W1, hW1⟩ : ∃ W1, W1 = w.drew.setCells b (off + i * z) news := ⟨_, rfl⟩
  have hA1 : ∃ A2, W1.heap[b]? = some (.cells A2 tt (0, 0)) ∧ A2.size = arr.size := by
    obtain ⟨a2, h1, h2⟩ := setCells_shape b news (off + i * z) w.drew hb
    exact ⟨a2, by rw [hW1]; exact h1, h2⟩
  have hZl : Z.length = z := by rw [← hZ, Array.length_toList, size_zeroCells, L.hzc, Nat.one_mul]
  have hcl1 : ∀ ty dc, (Builtin.clear_ #[ρ.t 24] ty #[.slice (some ⟨b, off + (i + (n - j)) * z, none⟩) (n - (i + (n - j))) dc]).run P W1 = .ok (.tuple #[]) (W1.setCells b (off + (n - 1) * z) Z) := fun ty dc => by
    rw [en2, show n - (i + (n - j)) = 1 by omega]
    exact run_clear_one W1 (ρ.t 24) (ρ.t 9) ty zv t24 L.v9 b (off + (n - 1) * z) dc hZ (fun v hv => List.all_eq_true.1 L.h1 v (by rw [hZ]; exact hv))
      (fun t ht => by rw [Nat.add_assoc]; exact (hcell _ (by omega) W1 hA1).1) (fun t ht => by rw [Nat.add_assoc]; exact (hcell _ (by omega) W1 hA1).2)
  have hW : Hid (W1 = w.drew.setCells b (off + i * z) news) := hW1
  have hN : Hid (news = cs.drop (j * z)) := hnews
  have hR : Hid (n - 1 = i + (n - j)) := by show n - 1 = i + (n - j); omega
  have hic : i ≤ c := by omega
  have hjc : j ≤ c := by omega
  have hq1 : ¬ (c = i + (n - j)) := by omega
  have hq2 : i + (n - j) ≤ n := by omega
  have hq3 : ¬ ((i : Int) = (j : Int)) := by omega
  clear hW1 hA1 hlen hnews hcell hcs h1c hb hij en2 en ei ej
  obtain ⟨_, _, FG⟩ := L.f24
  go_enter FG, Body2.n24_ntmps ρ
  go_wp2_with fail
  go_region_law_o (refine step_append_room rfl (.tmp 22) (.tmp 25) (ρ.t 24) rfl (ρ.t 9) i0 z t24 hi0 hz1 b off i c (by simp [Act.eval, Act.put]) A (n - j) (c - j) news (by simp [Act.eval, Act.put]) s1.out hsrc.out s2.out (by omega) s3.out ?_; rw [← hW.out])
  go_wp2
  go_ret
  refine ⟨by rw [hR.out]; rfl, ?_⟩
  rw [hW.out, hN.out]

theorem two_get {A xs D Z : List Value} {o p q e : Nat} (hq : p + q = xs.length - (xs.length - (p + q))) (hD : D = xs.drop (p + q)) (hA : o + xs.length ≤ A.length) (hpq : p + q ≤ xs.length) (hx : ∀ j x, xs[j]? = some x → A[o + j]? = some x) {A1 A2 : List Value}
    (he : e = p + D.length) (hZ : e + Z.length ≤ xs.length) (h1 : A1 = A.take (o + p) ++ D ++ A.drop (o + p + D.length)) (h2 : A2 = A1.take (o + e) ++ Z ++ A1.drop (o + e + Z.length)) :
    ∀ (j : Nat) (x : Value), (xs.take p ++ D)[j]? = some x → A2[o + j]? = some x := by
  have hDl : D.length = xs.length - (p + q) := by rw [hD]; simp
  have l1 : A1.length = A.length := by rw [h1]; exact seg_len (by omega)
  intro j x hj
  have hjl := (List.getElem?_eq_some_iff.1 hj).1
  rw [List.length_append, List.length_take, Nat.min_eq_left (by omega)] at hjl
  rw [List.getElem?_append, List.length_take, Nat.min_eq_left (by omega)] at hj
  rw [h2, seg_get (by omega), if_pos (by omega), h1, seg_get (by omega)]
  by_cases c1 : j < p
  · rw [if_pos c1, List.getElem?_take, if_pos c1] at hj
    rw [if_pos (by omega)]
    exact hx j x hj
  · rw [if_neg c1] at hj
    rw [if_neg (by omega), if_pos (by omega), show o + j - (o + p) = j - p by omega]; exact hj

/-- one value taken out of a list -/
theorem del_X {z by_ : Nat} {zv : Value} (L : DelL P ρ z by_ zv) (hcall : callB P (ρ.f 24) = true) {nl : Bool} {els : List (List PV)} {i : Nat} (hi : i < els.length)
    (h63 : els.length ≤ 70368744177664) : FnX P (ρ.f 24) [.lst z nl els, .int .i64 i, .int .i64 ((i : Int) + 1)] (.lst z false (els.take i ++ els.drop (i + 1))) := by
  refine ⟨hcall, fun w xs Fs hI hpow hR hnd hlt => ?_⟩
  obtain ⟨x0, xs1, F0, F1', rfl, rfl, h0, hR⟩ := hR.cons_inv
  obtain ⟨x1, xs2, F1, F2', rfl, rfl, h1, hR⟩ := hR.cons_inv
  obtain ⟨x2, xs3, F2, F3', rfl, rfl, h2, hR⟩ := hR.cons_inv
  obtain ⟨rfl, rfl⟩ := hR.nil_inv
  obtain ⟨rfl, rfl⟩ := h1.int_inv
  obtain ⟨rfl, rfl⟩ := h2.int_inv
  simp only [List.append_nil, List.nil_append] at hnd hlt hpow ⊢
  have hzp := L.hz
  rcases h0.lst_inv with ⟨rfl, rfl, rfl, rfl⟩ | ⟨ba, rfl, rfl, rfl, rfl⟩ | ⟨ba, c, xs, G0, rfl, rfl, rfl, hdr, hcp, hu, ho, hm, hRx⟩
  · simp at hi
  · simp at hi
  obtain ⟨bs, arr, tt, fr, hb, hsz⟩ := hdr
  obtain ⟨b, off, _⟩ := ba
  simp only at bs; subst bs
  replace hsz : off + c * z ≤ arr.size := hsz
  simp only [List.map_cons, List.nodup_cons] at hnd hlt
  have hfr : fr = (0, 0) := by
    obtain ⟨a1, t1, hh⟩ := (hlt (b, off + els.length * z) (by simp)).2
    rw [hb] at hh; simp at hh; exact hh.2.2
  subst hfr
  have hblt : b < w.heap.size := (hlt (b, off + els.length * z) (by simp)).1
  have hbx : ∀ g ∈ G0, g.1 ≠ b := fun g hg hgb => hnd.1 (List.mem_map.2 ⟨g, hg, hgb⟩)
  have hxl : xs.length = els.length * z := by rw [hRx.length, flatten_length hu]
  have h1c := ones_val hRx (ones_els ho)
  have hcs : ∀ j u, xs[j]? = some u → w.cell? ⟨b, off + j, none⟩ = some u := fun j u hu => by rw [cell_arr hb]; exact (mem_arr hb).1 hm j u hu
  have hpre := (mem_arr hb).1 hm
  have hZl : (Builtin.zeroCells zv.cells 1).toList.length = z := by rw [Array.length_toList, size_zeroCells, L.hzc, Nat.one_mul]
  have := del_walk L b off c i (i + 1) els.length xs w hb hsz rfl hi hcp (by omega) hxl hcs h1c rfl
  have hcast : ((i + 1 : Nat) : Int) = (i : Int) + 1 := by omega
  rw [hcast] at this
  refine this.mono fun e w' hh => ?_
  obtain ⟨rfl, rfl⟩ := hh
  generalize (Builtin.zeroCells zv.cells 1).toList = Z at hZl ⊢
  have esz : els.length * z ≤ c * z := Nat.mul_le_mul_right z hcp
  have ej : (i + 1) * z + (els.length - (i + 1)) * z = els.length * z := by rw [← Nat.add_mul]; congr 1; omega
  have ei : i * z + z = (i + 1) * z := by rw [Nat.add_mul, Nat.one_mul]
  have en : (els.length - 1) * z + z = els.length * z := by rw [show els.length * z = (els.length - 1 + 1) * z by congr 1; omega, Nat.add_mul, Nat.one_mul]
  have hdl : (xs.drop ((i + 1) * z)).length = (els.length - (i + 1)) * z := by rw [List.length_drop, hxl, Nat.sub_mul]
  have hA1 := setCells_arr b (xs.drop ((i + 1) * z)) (off + i * z) w.drew hb (by omega)
  have hA2 := setCells_arr b Z (off + (els.length - 1) * z) _ hA1 (by simp only [List.size_toArray, List.length_append, List.length_take, List.length_drop, Array.length_toList, hdl, hxl] at *; omega)
  have hR3 := setCells_rest b (xs.drop ((i + 1) * z)) (off + i * z) w.drew
  have hR4 := setCells_rest b Z (off + (els.length - 1) * z) (w.drew.setCells b (off + i * z) (xs.drop ((i + 1) * z)))
  have hheap : ∀ k, k ≠ b → ((w.drew.setCells b (off + i * z) (xs.drop ((i + 1) * z))).setCells b (off + (els.length - 1) * z) Z).heap[k]? = w.heap[k]? :=
    fun k hk => (setCells_heap b Z _ _ k hk).trans (setCells_heap b _ _ w.drew k hk)
  have hfl : els.flatten = (els.take i).flatten ++ (els.drop i).flatten := by rw [← List.flatten_append, List.take_append_drop]
  have hmem := two_get (A := arr.toList) (xs := xs) (D := xs.drop ((i + 1) * z)) (Z := Z) (o := off) (p := i * z) (q := z) (e := (els.length - 1) * z) (by omega) (by rw [ei]) (by simp; omega) (by omega) hpre (by omega) (by omega) rfl rfl
  have hRx2 := hRx
  rw [hfl] at hRx2
  obtain ⟨xa, xb, Ga, Gb, rfl, rfl, hRa, hRb⟩ := RepL.split _ hRx2
  have hd1 : (els.drop i).flatten = (els[i]'hi) ++ (els.drop (i + 1)).flatten := by rw [List.drop_eq_getElem_cons hi, List.flatten_cons]
  rw [hd1] at hRb
  obtain ⟨xc, xd, Gc, Gd, rfl, rfl, hRc, hRd⟩ := RepL.split _ hRb
  have hxa : xa.length = i * z := by
    rw [hRa.length, flatten_length (fun cs hcs => hu cs (List.mem_of_mem_take hcs)), List.length_take, Nat.min_eq_left (by omega)]
  have hxc : xc.length = z := by rw [hRc.length, hu _ (List.getElem_mem hi)]
  have hD : (xa ++ (xc ++ xd)).drop ((i + 1) * z) = xd := by
    rw [← List.append_assoc, List.drop_append_of_le_length (by simp; omega), List.drop_of_length_le (by simp; omega), List.nil_append]
  have hT : (xa ++ (xc ++ xd)).take (i * z) = xa := by rw [← hxa, List.take_left]
  have hnew : RepL w (els.take i ++ els.drop (i + 1)).flatten (xa ++ xd) (Ga ++ Gd) := by
    rw [List.flatten_append]
    exact hRa.append hRd
  have hin : ∀ g ∈ Ga ++ Gd, g ∈ Ga ++ (Gc ++ Gd) := fun g hg => by
    simp only [List.mem_append] at hg ⊢
    rcases hg with h | h <;> simp [h]
  have hlen' : (els.take i ++ els.drop (i + 1)).length = els.length - 1 := by simp; omega
  rw [hT] at hmem
  rw [hD] at hmem hA2 hR3 hR4 hheap ⊢
  have hsub : (Ga ++ Gd).Sublist (Ga ++ (Gc ++ Gd)) := List.Sublist.append (List.Sublist.refl _) (List.sublist_append_right _ _)
  have hh2 : ∀ g ∈ (b, off + (els.length - 1) * z) :: (Ga ++ Gd), ∃ e ∈ (b, off + els.length * z) :: (Ga ++ (Gc ++ Gd)), e.1 = g.1 := fun g hg => by
    rcases List.mem_cons.1 hg with rfl | hg
    · exact ⟨(b, off + els.length * z), by simp, rfl⟩
    · exact ⟨g, List.mem_cons_of_mem _ (hin g hg), rfl⟩
  refine ⟨_, (b, off + (els.length - 1) * z) :: (Ga ++ Gd), rfl, ?_, ⟨hR4.1.trans hR3.1, hR4.2.1.trans hR3.2.1, hR4.2.2.1.trans hR3.2.2.1, ?_, fun k hk hne => hheap k (fun h => hne (b, off + els.length * z) (by simp) h.symm)⟩, ?_, ?_⟩
  · have hrep := rep_row (z := z) (els := els.take i ++ els.drop (i + 1)) (c := c) hA2 (off := off) (by simp only [List.size_toArray, List.length_append, List.length_take, List.length_drop, Array.length_toList] at *; omega) (by omega)
      (fun cs hcs => by
        rcases List.mem_append.1 hcs with h | h
        · exact hu cs (List.mem_of_mem_take h)
        · exact hu cs (List.mem_of_mem_drop h))
      (fun cs hcs => by
        rcases List.mem_append.1 hcs with h | h
        · exact ho cs (List.mem_of_mem_take h)
        · exact ho cs (List.mem_of_mem_drop h)) (by simpa using hmem) hnew (fun e he => hheap _ (hbx e (hin e he)))
    rw [hlen'] at hrep
    exact hrep
  · have := hR4.2.2.2.trans hR3.2.2.2
    exact Nat.le_of_eq this.symm
  · intro g hg
    have hs : ∀ k, k < w.heap.size → k < ((w.drew.setCells b (off + i * z) xd).setCells b (off + (els.length - 1) * z) Z).heap.size := fun k hk => by
      rw [hR4.2.2.2, hR3.2.2.2]
      exact hk
    refine ⟨?_, ?_, .inr (hh2 g hg)⟩
    · obtain ⟨e, he, heg⟩ := hh2 g hg
      exact hs _ (heg ▸ (hlt e he).1)
    · by_cases hgb : g.1 = b
      · rw [hgb]; exact ⟨_, tt, hA2⟩
      · obtain ⟨e, he, heg⟩ := hh2 g hg
        obtain ⟨a1, t1, hx⟩ := (hlt e he).2
        exact ⟨a1, t1, by rw [hheap _ hgb, ← heg]; exact hx⟩
  · rw [List.map_cons, List.nodup_cons]
    exact ⟨fun hm => by
      obtain ⟨g, hg, hgb⟩ := List.mem_map.1 hm
      exact hbx g (hin g hg) hgb, hnd.2.sublist (hsub.map _)⟩

def zvOf (P : Program) (t : Nat) : Value := ((P.info? t).bind (·.zero)).getD (.bool false)
def fnm (P : Program) (f : Nat) : String := ((P.funcs[f]?).map (·.name)).getD ""
def rhoI (f fo ro tl te : Nat) : Ren := ⟨fun n => if n = 22 then f else if n = 29 then fo else if n = 30 then ro else 0, fun n => if n = 24 then tl else if n = 9 then te else n, fun n => n⟩
def rhoD (f tl te : Nat) : Ren := ⟨fun n => if n = 24 then f else 0, fun n => if n = 24 then tl else if n = 9 then te else n, fun n => n⟩

end Go.Eng
namespace Go.Eng
open Go Go.RowKit
set_option linter.unusedSimpArgs false
set_option linter.unusedVariables false

theorem alloc_same (w : World) (o : Obj) : ∀ k, k < w.heap.size → (w.alloc o).heap[k]? = w.heap[k]? := fun k hk => by
  show (w.heap.push o)[k]? = _
  rw [Array.getElem?_push, if_neg (by omega)]
theorem valOf_mid {w : World} {mid : List PV} {ym : List Value} {G : Foot} (agg : Bool) (ha : agg = true ∨ mid.length = 1) (hl : ym.length = mid.length) (h : Rep w (valOf agg mid) (valOfX agg ym) G) : RepL w mid ym G := by
  cases agg with
  | true =>
    obtain ⟨xs, h1, h2⟩ := h.agg_inv
    have : ym = xs := by
      have : ym.toArray = xs.toArray := by simpa [valOfX] using h1
      simpa using this
    rw [this]; exact h2
  | false =>
    have hm := ha.resolve_left (by simp)
    obtain ⟨m, rfl⟩ := List.length_eq_one_iff.1 hm
    rw [hm] at hl
    obtain ⟨y, rfl⟩ := List.length_eq_one_iff.1 hl
    exact RepL.one h

/-- a function that hands on one part of a struct to a function that writes behind it -/
theorem wrap_FnM {P : Program} {f g : Nat} {pre mid post mid' : List PV} {agg : Bool} {k r : Int} {T : TypeId} (hcall : callB P f = true) (hag : agg = true ∨ mid.length = 1) (hag' : agg = true ∨ mid'.length = 1) (hml : mid'.length = mid.length)
    (hg : FnM P g [valOf agg mid, .int .i64 k] (.int .i64 r) (valOf agg mid'))
    (walk : ∀ (w : World) (ya ym yz : List Value) (R : World → Prop), ya.length = pre.length → ym.length = mid.length → yz.length = post.length →
      Calls P g #[valOfX agg ym, .int .i64 k] (w.alloc (.cells (ya ++ ym ++ yz).toArray T)) (fun e w' => e = .returned (.int .i64 r) ∧ R w') →
      Calls P f #[.agg (ya ++ ym ++ yz).toArray, .int .i64 k] w (fun e w' => e = .returned (.int .i64 r) ∧ R w')) :
    FnM P f [.agg (pre ++ mid ++ post), .int .i64 k] (.int .i64 r) (.agg (pre ++ mid' ++ post)) := by
  refine ⟨hcall, _, _, rfl, rfl, fun w x0 F0 xs hI hpow hr hnd hlt hR => ?_⟩
  obtain ⟨ys, rfl, hys⟩ := hr.agg_inv
  obtain ⟨y12, yz, G12, GZ, rfl, rfl, h12, hz⟩ := RepL.split _ hys
  obtain ⟨ya, ym, GA, GM, rfl, rfl, ha, hm⟩ := RepL.split _ h12
  obtain ⟨x1, xs', F1, F2, rfl, hF, hx1, hxs⟩ := hR.cons_inv
  obtain ⟨rfl, rfl⟩ := hxs.nil_inv
  obtain ⟨rfl, rfl⟩ := hx1.int_inv
  obtain ⟨hcb, v0, vs, hvv, hkin, hcon⟩ := hg
  simp only [List.cons.injEq] at hvv
  obtain ⟨rfl, rfl⟩ := hvv
  have hmem : ∀ {e}, e ∈ GM → e ∈ GA ++ GM ++ GZ := fun he => by simp [he]
  have hsz : (w.alloc (.cells (ya ++ ym ++ yz).toArray T)).heap.size = w.heap.size + 1 := by show (w.heap.push _).size = _; simp
  have hsame := alloc_same w (.cells (ya ++ ym ++ yz).toArray T)
  have hI2 : Inv P (w.alloc (.cells (ya ++ ym ++ yz).toArray T)) := by
    exact (InvB.keep w _ (fun j hj => hsame j (by simp at hj; omega)) (InvB.of hI)).1
  have hm2 : Rep (w.alloc (.cells (ya ++ ym ++ yz).toArray T)) (valOf agg mid) (valOfX agg ym) GM := (hm.valOf agg hag).keep (fun e he => by
    have := hsame e.1 (hlt e (hmem he)).1
    exact ⟨fun o _ => by simp only [World.cell?]; rw [this], fun arr ty fr hh => ⟨arr, fr, by rw [this]; exact hh, rfl⟩⟩)
  have hndm : (GM.map (·.1)).Nodup := hnd.sublist ((((List.sublist_append_right GA GM).trans (List.sublist_append_left _ GZ))).map _)
  have hc := hcon (w.alloc (.cells (ya ++ ym ++ yz).toArray T)) (valOfX agg ym) GM [.int .i64 k] hI2 (fun g hg e he => hpow g hg e (hmem he)) hm2 hndm
    (fun e he => by
      obtain ⟨arr, ty, hq⟩ := (hlt e (hmem he)).2
      exact ⟨by have := (hlt e (hmem he)).1; omega, arr, ty, by rw [hsame _ (hlt e (hmem he)).1]; exact hq⟩) (.cons (.int ..) .nil)
  refine (walk w ya ym yz (fun w' => ∃ F' Fr, Rep w' (.int .i64 r) (.int .i64 r) Fr ∧ Rep w' (.agg (pre ++ mid' ++ post)) (.agg (ya ++ ym ++ yz).toArray) F' ∧
      (w'.os = w.os ∧ w'.tape = w.tape ∧ w'.output = w.output ∧ w.heap.size ≤ w'.heap.size ∧ ∀ k, k < w.heap.size → (∀ e ∈ GA ++ GM ++ GZ, e.1 ≠ k) → w'.heap[k]? = w.heap[k]?) ∧
      (∀ g ∈ F' ++ Fr, g.1 < w'.heap.size ∧ Unfrozen w' g.1 ∧ (w.heap.size ≤ g.1 ∨ ∃ e ∈ GA ++ GM ++ GZ, e.1 = g.1)) ∧ ((F' ++ Fr).map (·.1)).Nodup) ha.length hm.length hz.length (hc.mono fun e w' he => ?_)).mono fun e w' he => ?_
  · obtain ⟨x, F', Fr, rfl, q1, q2, q3, q4, q5⟩ := he
    obtain ⟨rfl, rfl⟩ := q1.int_inv
    refine ⟨rfl, GA ++ F' ++ GZ, [], .int .., ?_, ⟨q3.1, q3.2.1, q3.2.2.1, by omega, fun k hk hne => ?_⟩, ?_, ?_⟩
    · have side : ∀ b ∈ GA ++ GZ, w'.heap[b.1]? = w.heap[b.1]? := fun b hb => by
        have hbF : b ∈ GA ++ GM ++ GZ := by
          rcases List.mem_append.1 hb with hb | hb <;> simp [hb]
        have hb1 := (hlt b hbF).1
        rw [q3.2.2.2.2 b.1 (by omega) (fun e he hh => ?_)]
        · exact hsame b.1 hb1
        · rw [List.map_append, List.map_append, List.nodup_append] at hnd
          obtain ⟨n1, n2, n3⟩ := hnd
          rw [List.nodup_append] at n1
          rcases List.mem_append.1 hb with hb | hb
          · exact n1.2.2 _ (List.mem_map.2 ⟨b, hb, rfl⟩) _ (List.mem_map.2 ⟨e, he, rfl⟩) hh.symm
          · exact n3 _ (List.mem_append_right _ (List.mem_map.2 ⟨e, he, rfl⟩)) _ (List.mem_map.2 ⟨b, hb, rfl⟩) hh
      have kk : ∀ {G : Foot}, (∀ e ∈ G, e ∈ GA ++ GZ) → Keeps w w' G := fun hG e he =>
        ⟨fun o _ => by simp only [World.cell?]; rw [side e (hG e he)], fun arr ty fr hh => ⟨arr, fr, by rw [side e (hG e he)]; exact hh, rfl⟩⟩
      refine .agg (((ha.keep (kk fun e he => List.mem_append_left _ he)).append (valOf_mid agg hag' (by rw [hm.length, hml]) q2)).append (hz.keep (kk fun e he => List.mem_append_right _ he)))
    · rw [q3.2.2.2.2 k (by omega) (fun e he => hne e (hmem he))]
      exact hsame k hk
    · intro g hg
      rw [List.append_nil] at hg
      have hold : ∀ b ∈ GA ++ GZ, b ∈ GA ++ GM ++ GZ ∧ ∀ e ∈ GM, e.1 ≠ b.1 := fun b hb => by
        have hbF : b ∈ GA ++ GM ++ GZ := by
          rcases List.mem_append.1 hb with hb | hb <;> simp [hb]
        refine ⟨hbF, fun e he hh => ?_⟩
        rw [List.map_append, List.map_append, List.nodup_append] at hnd
        obtain ⟨n1, n2, n3⟩ := hnd
        rw [List.nodup_append] at n1
        rcases List.mem_append.1 hb with hb | hb
        · exact n1.2.2 _ (List.mem_map.2 ⟨b, hb, rfl⟩) _ (List.mem_map.2 ⟨e, he, rfl⟩) hh.symm
        · exact n3 _ (List.mem_append_right _ (List.mem_map.2 ⟨e, he, rfl⟩)) _ (List.mem_map.2 ⟨b, hb, rfl⟩) hh
      have both : g ∈ GA ++ GZ ∨ g ∈ F' := by
        simp only [List.mem_append] at hg ⊢
        rcases hg with (hg | hg) | hg
        · exact .inl (.inl hg)
        · exact .inr hg
        · exact .inl (.inr hg)
      rcases both with hb | hb
      · obtain ⟨b1, b2⟩ := hold g hb
        obtain ⟨arr, ty, hq⟩ := (hlt g b1).2
        have hb1 := (hlt g b1).1
        exact ⟨by omega, ⟨arr, ty, by rw [q3.2.2.2.2 g.1 (by omega) b2, hsame g.1 hb1]; exact hq⟩, .inr ⟨g, b1, rfl⟩⟩
      · obtain ⟨y1, y2, y3⟩ := q4 g (List.mem_append_left _ hb)
        exact ⟨y1, y2, y3.imp (fun h => by omega) fun ⟨e, he, hh⟩ => ⟨e, hmem he, hh⟩⟩
    · rw [List.append_nil] at q4 q5 ⊢
      have := nodup_mid (G' := F') (Gr := []) hnd (fun g hg => (hlt g (by
        rcases List.mem_append.1 hg with hg | hg <;> simp [hg])).1) (by simpa using q5) (fun g hg => by
          obtain ⟨_, _, y3⟩ := q4 g (by simpa using hg)
          exact y3.imp (fun h => by omega) id)
      simpa using this
  · obtain ⟨rfl, F', Fr, q1, q2, q3, q4, q5⟩ := he
    exact ⟨_, F', Fr, rfl, q1, q2, q3, q4, q5⟩
end Go.Eng
