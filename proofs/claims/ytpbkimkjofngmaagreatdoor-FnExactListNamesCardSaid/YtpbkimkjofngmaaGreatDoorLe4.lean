/- A part of the proof of a law's statement: for every input the law returns true and leaves its arguments as they were. No condition beyond the statement's own. A calculus over plain values for the model's code, proved once. -/
import Derived.Deep.RegionLaw
import Derived.Deep.LoopGhost
import Derived.Shelf.SlSortCmp.NoneTotal
import Derived.Test.YtpbkimkjofngmaaGreatDoorLe3
set_option linter.unusedVariables false
set_option linter.unusedSimpArgs false
set_option linter.unusedSectionVars false
set_option autoImplicit true
set_option relaxedAutoImplicit true
set_option linter.unusedVariables false
set_option linter.unusedSimpArgs false
namespace Go.Eng
open Go Go.RowKit Go.Shelf Go.Lib Go.Proofs

structure DelL (P : Program) (ρ : Ren) (z by_ : Nat) (zv : Value) : Prop where
  mixed : P.follows .mixedOrders = true
  f24 : Bears P (ρ.f 24) (Body2.n24 ρ)
  t0 : P.underlying (ρ.t 0) = some (TypeDesc.tuple #[])
  a0 : ∀ w, (isAgg (ρ.t 0)).run P w = .ok false w
  z0 : ∀ w, (Go.sizeOf (ρ.t 0)).run P w = .ok 1 w
  v0 : ∀ w, (zeroValue (ρ.t 0)).run P w = .ok (Value.tuple #[]) w
  t3 : P.underlying (ρ.t 3) = some (TypeDesc.int IntKind.i64)
  a3 : ∀ w, (isAgg (ρ.t 3)).run P w = .ok false w
  z3 : ∀ w, (Go.sizeOf (ρ.t 3)).run P w = .ok 1 w
  v3 : ∀ w, (zeroValue (ρ.t 3)).run P w = .ok (Value.int IntKind.i64 0) w
  t4 : P.underlying (ρ.t 4) = some (TypeDesc.bool)
  a4 : ∀ w, (isAgg (ρ.t 4)).run P w = .ok false w
  z4 : ∀ w, (Go.sizeOf (ρ.t 4)).run P w = .ok 1 w
  v4 : ∀ w, (zeroValue (ρ.t 4)).run P w = .ok (Value.bool false) w
  z9 : ∀ w, (Go.sizeOf (ρ.t 9)).run P w = .ok z w
  v9 : ∀ w, (zeroValue (ρ.t 9)).run P w = .ok zv w
  t24 : P.underlying (ρ.t 24) = some (TypeDesc.slice (ρ.t 9))
  a24 : ∀ w, (isAgg (ρ.t 24)).run P w = .ok false w
  z24 : ∀ w, (Go.sizeOf (ρ.t 24)).run P w = .ok 1 w
  v24 : ∀ w, (zeroValue (ρ.t 24)).run P w = .ok (Value.slice none 0 0) w
  i9 : (P.info? (ρ.t 9)).map (fun i => (i.zero, i.size, i.bytes)) = some (some zv, z, by_)
  hz : 0 < z
  hzc : zv.cells.size = z
  h1 : ((Builtin.zeroCells zv.cells 1).toList.all (·.oneCell')) = true

theorem run_clear_one {P : Program} (w : World) (t e ty : TypeId) (zv : Value) (ht : P.underlying t = some (.slice e)) (hv : ∀ w, (zeroValue e).run P w = .ok zv w) (b o c : Nat) {Z : List Value} (hZ : (Builtin.zeroCells zv.cells 1).toList = Z) (h1 : ∀ v ∈ Z, v.oneCell' = true)
    (hc : ∀ j, j < Z.length → (w.cell? ⟨b, o + j, none⟩).isSome = true) (hf : ∀ j, j < Z.length → w.frozen? ⟨b, o + j, none⟩ = false) :
    (Builtin.clear_ #[t] ty #[.slice (some ⟨b, o, none⟩) 1 c]).run P w = .ok (.tuple #[]) (w.setCells b o Z) := by
  have hst := run_storeCells_cells (P := P) b o Z 0 w (by simpa using hc) (by simpa using hf) h1
  simp only [Nat.add_zero] at hst
  simp only [Builtin.clear_]
  simp [run_underlying ht, hv, hZ, hst]

variable {P : Program} {ρ : Ren}

set_option maxHeartbeats 4000000 in
set_option maxRecDepth 1000000 in
theorem del_walk {z by_ : Nat} {zv : Value} (L : DelL P ρ z by_ zv) (b off c i j n : Nat) (cs : List Value) (w : World) {arr : Array Value} {tt : TypeId} (hb : w.heap[b]? = some (.cells arr tt (0, 0))) (hsz : off + c * z ≤ arr.size)
    (hij : j = i + 1) (hj : j ≤ n) (hnc : n ≤ c) (hc63 : n ≤ 9223372036854775807) (hcl : cs.length = n * z)
    (hcs : ∀ k v, cs[k]? = some v → w.cell? ⟨b, off + k, none⟩ = some v) (h1c : ∀ v ∈ cs, v.oneCell' = true) {Z : List Value} (hZ : (Builtin.zeroCells zv.cells 1).toList = Z) :
    Calls P (ρ.f 24) #[.slice (some ⟨b, off, none⟩) n c, .int .i64 i, .int .i64 j] w fun e w' =>
      e = .returned (.slice (some ⟨b, off, none⟩) (n - 1) c) ∧ w' = (w.drew.setCells b (off + i * z) (cs.drop (j * z))).setCells b (off + (n - 1) * z) Z := by
  have t0 := L.t0; have a0 := L.a0; have z0 := L.z0; have v0 := L.v0; have t3 := L.t3; have a3 := L.a3; have z3 := L.z3; have v3 := L.v3; have t4 := L.t4; have a4 := L.a4; have z4 := L.z4; have v4 := L.v4; have z9 := L.z9; have t24 := L.t24; have a24 := L.a24; have z24 := L.z24; have v24 := L.v24
  have u0 := run_underlying L.t0; have u3 := run_underlying L.t3; have u4 := run_underlying L.t4; have u24 := run_underlying L.t24
  have mixed := L.mixed
  obtain ⟨i0, hi0, hz0, hz1, hz2⟩ := info_parts L.i9
  have hlt : i < j := by omega
  obtain ⟨news, hnews⟩ : ∃ news, news = cs.drop (j * z) := ⟨_, rfl⟩
  have hlen : news.length = (n - j) * z := by rw [hnews, List.length_drop, hcl, Nat.sub_mul]
  have esz : n * z ≤ c * z := Nat.mul_le_mul_right z hnc
  have ej : j * z + (n - j) * z = n * z := by rw [← Nat.add_mul]; congr 1; omega
  have ei : i * z + z = j * z := by rw [hij, Nat.add_mul, Nat.one_mul]
  have en : (n - 1) * z + z = n * z := by rw [show n * z = (n - 1 + 1) * z by congr 1; omega, Nat.add_mul, Nat.one_mul]
  have en2 : (i + (n - j)) * z = (n - 1) * z := by congr 1; omega
  obtain ⟨A, hA, hsrc⟩ : ∃ A : Addr, (if c = j then some (⟨b, off, none⟩ : Addr) else some ⟨b, off + j * z, none⟩) = some A ∧ Hid (∀ t u, news[t]? = some u → w.drew.cell? (A.add t) = some u) := by
    by_cases h : c = j
    · refine ⟨⟨b, off, none⟩, by simp [h], fun t u hu => ?_⟩
      have h0 : news.length = 0 := by rw [hlen, show n - j = 0 by omega, Nat.zero_mul]
      rw [List.length_eq_zero_iff.1 h0] at hu
      simp at hu
    · refine ⟨⟨b, off + j * z, none⟩, by simp [h], fun t u hu => ?_⟩
      rw [hnews, List.getElem?_drop] at hu
      rw [Addr.add_lit, Nat.add_assoc]
      exact hcs _ u hu
  have s1 : Hid (news.length = (n - j) * z) := hlen
  have s2 : Hid (∀ u ∈ news, u.oneCell' = true) := fun u hu => h1c u (by rw [hnews] at hu; exact List.mem_of_mem_drop hu)
  have hcell : ∀ k, k < c * z → ∀ W : World, (∃ A2, W.heap[b]? = some (.cells A2 tt (0, 0)) ∧ A2.size = arr.size) → (W.cell? ⟨b, off + k, none⟩).isSome = true ∧ W.frozen? ⟨b, off + k, none⟩ = false := fun k hk W ⟨A2, h1, h2⟩ => by
    refine ⟨?_, by simp [World.frozen?, h1]⟩
    rw [cell_arr h1, List.getElem?_eq_getElem (by simp; omega)]; rfl
  have s3 : Hid (∀ t, t < news.length → (w.drew.cell? ⟨b, off + i * z + t, none⟩).isSome = true ∧ w.drew.frozen? ⟨b, off + i * z + t, none⟩ = false) := by
    intro t ht
    rw [hlen] at ht
    rw [Nat.add_assoc]
    have : i * z + (n - j) * z < n * z := by
      have : 0 < z := L.hz
      omega
    exact hcell _ (by omega) w.drew ⟨arr, hb, rfl⟩
  obtain ⟨W1, hW1⟩ : ∃ W1, W1 = w.drew.setCells b (off + i * z) news := ⟨_, rfl⟩
  have hA1 : ∃ A2, W1.heap[b]? = some (.cells A2 tt (0, 0)) ∧ A2.size = arr.size := by
    obtain ⟨a2, h1, h2⟩ := setCells_shape b news (off + i * z) w.drew hb
    exact ⟨a2, by rw [hW1]; exact h1, h2⟩
  have hZl : Z.length = z := by rw [← hZ, Array.length_toList, size_zeroCells, L.hzc, Nat.one_mul]
  have hcl1 : ∀ ty dc, (Builtin.clear_ #[ρ.t 24] ty #[.slice (some ⟨b, off + (i + (n - j)) * z, none⟩) (n - (i + (n - j))) dc]).run P W1 = .ok (.tuple #[]) (W1.setCells b (off + (n - 1) * z) Z) := fun ty dc => by
    rw [en2, show n - (i + (n - j)) = 1 by omega]
    exact run_clear_one W1 (ρ.t 24) (ρ.t 9) ty zv t24 L.v9 b (off + (n - 1) * z) dc hZ (fun v hv => List.all_eq_true.1 L.h1 v (by rw [hZ]; exact hv))
      (fun t ht => by rw [Nat.add_assoc]; exact (hcell _ (by omega) W1 hA1).1) (fun t ht => by rw [Nat.add_assoc]; exact (hcell _ (by omega) W1 hA1).2)
  have hW : Hid (W1 = w.drew.setCells b (off + i * z) news) := hW1
  have hN : Hid (news = cs.drop (j * z)) := hnews
  have hR : Hid (n - 1 = i + (n - j)) := by show n - 1 = i + (n - j); omega
  have hic : i ≤ c := by omega
  have hjc : j ≤ c := by omega
  have hq1 : ¬ (c = i + (n - j)) := by omega
  have hq2 : i + (n - j) ≤ n := by omega
  have hq3 : ¬ ((i : Int) = (j : Int)) := by omega
  clear hW1 hA1 hlen hnews hcell hcs h1c hb hij en2 en ei ej
  obtain ⟨_, _, FG⟩ := L.f24
  go_enter FG, Body2.n24_ntmps ρ
  go_wp2_with fail
  go_region_law_o (refine step_append_room rfl (.tmp 22) (.tmp 25) (ρ.t 24) rfl (ρ.t 9) i0 z t24 hi0 hz1 b off i c (by simp [Act.eval, Act.put]) A (n - j) (c - j) news (by simp [Act.eval, Act.put]) s1.out hsrc.out s2.out (by omega) s3.out ?_; rw [← hW.out])
  go_wp2
  go_ret
  refine ⟨by rw [hR.out]; rfl, ?_⟩
  rw [hW.out, hN.out]

theorem two_get {A xs D Z : List Value} {o p q e : Nat} (hq : p + q = xs.length - (xs.length - (p + q))) (hD : D = xs.drop (p + q)) (hA : o + xs.length ≤ A.length) (hpq : p + q ≤ xs.length) (hx : ∀ j x, xs[j]? = some x → A[o + j]? = some x) {A1 A2 : List Value}
    (he : e = p + D.length) (hZ : e + Z.length ≤ xs.length) (h1 : A1 = A.take (o + p) ++ D ++ A.drop (o + p + D.length)) (h2 : A2 = A1.take (o + e) ++ Z ++ A1.drop (o + e + Z.length)) :
    ∀ (j : Nat) (x : Value), (xs.take p ++ D)[j]? = some x → A2[o + j]? = some x := by
  have hDl : D.length = xs.length - (p + q) := by rw [hD]; simp
  have l1 : A1.length = A.length := by rw [h1]; exact seg_len (by omega)
  intro j x hj
  have hjl := (List.getElem?_eq_some_iff.1 hj).1
  rw [List.length_append, List.length_take, Nat.min_eq_left (by omega)] at hjl
  rw [List.getElem?_append, List.length_take, Nat.min_eq_left (by omega)] at hj
  rw [h2, seg_get (by omega), if_pos (by omega), h1, seg_get (by omega)]
  by_cases c1 : j < p
  · rw [if_pos c1, List.getElem?_take, if_pos c1] at hj
    rw [if_pos (by omega)]
    exact hx j x hj
  · rw [if_neg c1] at hj
    rw [if_neg (by omega), if_pos (by omega), show o + j - (o + p) = j - p by omega]; exact hj

/-- one value taken out of a list -/
theorem del_X {z by_ : Nat} {zv : Value} (L : DelL P ρ z by_ zv) (hcall : callB P (ρ.f 24) = true) {nl : Bool} {els : List (List PV)} {i : Nat} (hi : i < els.length)
    (h63 : els.length ≤ 70368744177664) : FnX P (ρ.f 24) [.lst z nl els, .int .i64 i, .int .i64 ((i : Int) + 1)] (.lst z false (els.take i ++ els.drop (i + 1))) := by
  refine ⟨hcall, fun w xs Fs hI hpow hR hnd hlt => ?_⟩
  obtain ⟨x0, xs1, F0, F1', rfl, rfl, h0, hR⟩ := hR.cons_inv
  obtain ⟨x1, xs2, F1, F2', rfl, rfl, h1, hR⟩ := hR.cons_inv
  obtain ⟨x2, xs3, F2, F3', rfl, rfl, h2, hR⟩ := hR.cons_inv
  obtain ⟨rfl, rfl⟩ := hR.nil_inv
  obtain ⟨rfl, rfl⟩ := h1.int_inv
  obtain ⟨rfl, rfl⟩ := h2.int_inv
  simp only [List.append_nil, List.nil_append] at hnd hlt hpow ⊢
  have hzp := L.hz
  rcases h0.lst_inv with ⟨rfl, rfl, rfl, rfl⟩ | ⟨ba, rfl, rfl, rfl, rfl⟩ | ⟨ba, c, xs, G0, rfl, rfl, rfl, hdr, hcp, hu, ho, hm, hRx⟩
  · simp at hi
  · simp at hi
  obtain ⟨bs, arr, tt, fr, hb, hsz⟩ := hdr
  obtain ⟨b, off, _⟩ := ba
  simp only at bs; subst bs
  replace hsz : off + c * z ≤ arr.size := hsz
  simp only [List.map_cons, List.nodup_cons] at hnd hlt
  have hfr : fr = (0, 0) := by
    obtain ⟨a1, t1, hh⟩ := (hlt (b, off + els.length * z) (by simp)).2
    rw [hb] at hh; simp at hh; exact hh.2.2
  subst hfr
  have hblt : b < w.heap.size := (hlt (b, off + els.length * z) (by simp)).1
  have hbx : ∀ g ∈ G0, g.1 ≠ b := fun g hg hgb => hnd.1 (List.mem_map.2 ⟨g, hg, hgb⟩)
  have hxl : xs.length = els.length * z := by rw [hRx.length, flatten_length hu]
  have h1c := ones_val hRx (ones_els ho)
  have hcs : ∀ j u, xs[j]? = some u → w.cell? ⟨b, off + j, none⟩ = some u := fun j u hu => by rw [cell_arr hb]; exact (mem_arr hb).1 hm j u hu
  have hpre := (mem_arr hb).1 hm
  have hZl : (Builtin.zeroCells zv.cells 1).toList.length = z := by rw [Array.length_toList, size_zeroCells, L.hzc, Nat.one_mul]
  have := del_walk L b off c i (i + 1) els.length xs w hb hsz rfl hi hcp (by omega) hxl hcs h1c rfl
  have hcast : ((i + 1 : Nat) : Int) = (i : Int) + 1 := by omega
  rw [hcast] at this
  refine this.mono fun e w' hh => ?_
  obtain ⟨rfl, rfl⟩ := hh
  generalize (Builtin.zeroCells zv.cells 1).toList = Z at hZl ⊢
  have esz : els.length * z ≤ c * z := Nat.mul_le_mul_right z hcp
  have ej : (i + 1) * z + (els.length - (i + 1)) * z = els.length * z := by rw [← Nat.add_mul]; congr 1; omega
  have ei : i * z + z = (i + 1) * z := by rw [Nat.add_mul, Nat.one_mul]
  have en : (els.length - 1) * z + z = els.length * z := by rw [show els.length * z = (els.length - 1 + 1) * z by congr 1; omega, Nat.add_mul, Nat.one_mul]
  have hdl : (xs.drop ((i + 1) * z)).length = (els.length - (i + 1)) * z := by rw [List.length_drop, hxl, Nat.sub_mul]
  have hA1 := setCells_arr b (xs.drop ((i + 1) * z)) (off + i * z) w.drew hb (by omega)
  have hA2 := setCells_arr b Z (off + (els.length - 1) * z) _ hA1 (by simp only [List.size_toArray, List.length_append, List.length_take, List.length_drop, Array.length_toList, hdl, hxl] at *; omega)
  have hR3 := setCells_rest b (xs.drop ((i + 1) * z)) (off + i * z) w.drew
  have hR4 := setCells_rest b Z (off + (els.length - 1) * z) (w.drew.setCells b (off + i * z) (xs.drop ((i + 1) * z)))
  have hheap : ∀ k, k ≠ b → ((w.drew.setCells b (off + i * z) (xs.drop ((i + 1) * z))).setCells b (off + (els.length - 1) * z) Z).heap[k]? = w.heap[k]? :=
    fun k hk => (setCells_heap b Z _ _ k hk).trans (setCells_heap b _ _ w.drew k hk)
  have hfl : els.flatten = (els.take i).flatten ++ (els.drop i).flatten := by rw [← List.flatten_append, List.take_append_drop]
  have hmem := two_get (A := arr.toList) (xs := xs) (D := xs.drop ((i + 1) * z)) (Z := Z) (o := off) (p := i * z) (q := z) (e := (els.length - 1) * z) (by omega) (by rw [ei]) (by simp; omega) (by omega) hpre (by omega) (by omega) rfl rfl
  have hRx2 := hRx
  rw [hfl] at hRx2
  obtain ⟨xa, xb, Ga, Gb, rfl, rfl, hRa, hRb⟩ := RepL.split _ hRx2
  have hd1 : (els.drop i).flatten = (els[i]'hi) ++ (els.drop (i + 1)).flatten := by rw [List.drop_eq_getElem_cons hi, List.flatten_cons]
  rw [hd1] at hRb
  obtain ⟨xc, xd, Gc, Gd, rfl, rfl, hRc, hRd⟩ := RepL.split _ hRb
  have hxa : xa.length = i * z := by
    rw [hRa.length, flatten_length (fun cs hcs => hu cs (List.mem_of_mem_take hcs)), List.length_take, Nat.min_eq_left (by omega)]
  have hxc : xc.length = z := by rw [hRc.length, hu _ (List.getElem_mem hi)]
  have hD : (xa ++ (xc ++ xd)).drop ((i + 1) * z) = xd := by
    rw [← List.append_assoc, List.drop_append_of_le_length (by simp; omega), List.drop_of_length_le (by simp; omega), List.nil_append]
  have hT : (xa ++ (xc ++ xd)).take (i * z) = xa := by rw [← hxa, List.take_left]
  have hnew : RepL w (els.take i ++ els.drop (i + 1)).flatten (xa ++ xd) (Ga ++ Gd) := by
    rw [List.flatten_append]
    exact hRa.append hRd
  have hin : ∀ g ∈ Ga ++ Gd, g ∈ Ga ++ (Gc ++ Gd) := fun g hg => by
    simp only [List.mem_append] at hg ⊢
    rcases hg with h | h <;> simp [h]
  have hlen' : (els.take i ++ els.drop (i + 1)).length = els.length - 1 := by simp; omega
  rw [hT] at hmem
  rw [hD] at hmem hA2 hR3 hR4 hheap ⊢
  have hsub : (Ga ++ Gd).Sublist (Ga ++ (Gc ++ Gd)) := List.Sublist.append (List.Sublist.refl _) (List.sublist_append_right _ _)
  have hh2 : ∀ g ∈ (b, off + (els.length - 1) * z) :: (Ga ++ Gd), ∃ e ∈ (b, off + els.length * z) :: (Ga ++ (Gc ++ Gd)), e.1 = g.1 := fun g hg => by
    rcases List.mem_cons.1 hg with rfl | hg
    · exact ⟨(b, off + els.length * z), by simp, rfl⟩
    · exact ⟨g, List.mem_cons_of_mem _ (hin g hg), rfl⟩
  refine ⟨_, (b, off + (els.length - 1) * z) :: (Ga ++ Gd), rfl, ?_, ⟨hR4.1.trans hR3.1, hR4.2.1.trans hR3.2.1, hR4.2.2.1.trans hR3.2.2.1, ?_, fun k hk hne => hheap k (fun h => hne (b, off + els.length * z) (by simp) h.symm)⟩, ?_, ?_⟩
  · have hrep := rep_row (z := z) (els := els.take i ++ els.drop (i + 1)) (c := c) hA2 (off := off) (by simp only [List.size_toArray, List.length_append, List.length_take, List.length_drop, Array.length_toList] at *; omega) (by omega)
      (fun cs hcs => by
        rcases List.mem_append.1 hcs with h | h
        · exact hu cs (List.mem_of_mem_take h)
        · exact hu cs (List.mem_of_mem_drop h))
      (fun cs hcs => by
        rcases List.mem_append.1 hcs with h | h
        · exact ho cs (List.mem_of_mem_take h)
        · exact ho cs (List.mem_of_mem_drop h)) (by simpa using hmem) hnew (fun e he => hheap _ (hbx e (hin e he)))
    rw [hlen'] at hrep
    exact hrep
  · have := hR4.2.2.2.trans hR3.2.2.2
    exact Nat.le_of_eq this.symm
  · intro g hg
    have hs : ∀ k, k < w.heap.size → k < ((w.drew.setCells b (off + i * z) xd).setCells b (off + (els.length - 1) * z) Z).heap.size := fun k hk => by
      rw [hR4.2.2.2, hR3.2.2.2]
      exact hk
    refine ⟨?_, ?_, .inr (hh2 g hg)⟩
    · obtain ⟨e, he, heg⟩ := hh2 g hg
      exact hs _ (heg ▸ (hlt e he).1)
    · by_cases hgb : g.1 = b
      · rw [hgb]; exact ⟨_, tt, hA2⟩
      · obtain ⟨e, he, heg⟩ := hh2 g hg
        obtain ⟨a1, t1, hx⟩ := (hlt e he).2
        exact ⟨a1, t1, by rw [hheap _ hgb, ← heg]; exact hx⟩
  · rw [List.map_cons, List.nodup_cons]
    exact ⟨fun hm => by
      obtain ⟨g, hg, hgb⟩ := List.mem_map.1 hm
      exact hbx g (hin g hg) hgb, hnd.2.sublist (hsub.map _)⟩

def zvOf (P : Program) (t : Nat) : Value := ((P.info? t).bind (·.zero)).getD (.bool false)
def fnm (P : Program) (f : Nat) : String := ((P.funcs[f]?).map (·.name)).getD ""
def rhoI (f fo ro tl te : Nat) : Ren := ⟨fun n => if n = 22 then f else if n = 29 then fo else if n = 30 then ro else 0, fun n => if n = 24 then tl else if n = 9 then te else n, fun n => n⟩
def rhoD (f tl te : Nat) : Ren := ⟨fun n => if n = 24 then f else 0, fun n => if n = 24 then tl else if n = 9 then te else n, fun n => n⟩

end Go.Eng
set_option linter.unusedVariables false
set_option linter.unusedSimpArgs false
namespace Go.Eng
open Go Go.RowKit Go.Shelf Go.Lib Go.Proofs Go.Sort

/-! ### slices.SortFunc at structs of plain data, by the shelf's walks -/
section
variable {α : Type} [Inhabited α]

theorem flat_get (enc : α → List Value) {k : Nat} (hk : ∀ x, (enc x).length = k) (k0 : 0 < k) : ∀ (d : List α) (t : Nat), t < d.length * k → (d.flatMap enc)[t]? = some ((enc (d[t / k]!))[t % k]!)
  | [], t, h => by simp at h
  | x :: r, t, h => by
    rw [List.flatMap_cons]
    by_cases ht : t < k
    · rw [List.getElem?_append_left (by rw [hk]; exact ht), Nat.div_eq_of_lt ht, Nat.mod_eq_of_lt ht]
      simp [hk, ht]
    · rw [List.getElem?_append_right (by rw [hk]; omega), hk]
      rw [List.length_cons, Nat.succ_mul] at h
      rw [flat_get enc hk k0 r (t - k) (by omega)]
      have e1 : t / k = (t - k) / k + 1 := by rw [← Nat.add_div_right _ k0]; congr 1; omega
      have e2 : t % k = (t - k) % k := by rw [← Nat.add_mod_right (t - k)]; congr 1; omega
      rw [e1, e2]; simp

theorem flat_len (enc : α → List Value) {k : Nat} (hk : ∀ x, (enc x).length = k) (d : List α) : (d.flatMap enc).length = d.length * k := by
  induction d with
  | nil => simp
  | cons x r ih => rw [List.flatMap_cons, List.length_append, hk, ih, List.length_cons, Nat.succ_mul]; omega

theorem holds_of {enc : α → List Value} {k : Nat} (hk : ∀ x, (enc x).length = k) (k0 : 0 < k) {w : World} {b off : Nat} {arr : Array Value} {ty : TypeId} {d : List α} (hb : w.heap[b]? = some (.cells arr ty (0, 0)))
    (hm : Mem w ⟨b, off, none⟩ (d.flatMap enc)) : HoldsK enc k w b off d.toArray := by
  intro j hj
  rw [size_flatK] at hj
  have hj' : j < d.length * k := by simpa using hj
  refine ⟨?_, by simp [World.frozen?, hb]⟩
  have := hm j _ (flat_get enc hk k0 d j hj')
  rw [addr_add_plain rfl] at this
  rw [this, get_flatK _ _ _ _ hj]
  simp

theorem mem_of {enc : α → List Value} {k : Nat} (hk : ∀ x, (enc x).length = k) (k0 : 0 < k) {w : World} {b off : Nat} {d : List α} (h : HoldsK enc k w b off d.toArray) : Mem w ⟨b, off, none⟩ (d.flatMap enc) := by
  intro j x hx
  have hj : j < d.length * k := by
    rw [← flat_len enc hk]
    rcases Nat.lt_or_ge j (d.flatMap enc).length with h | h
    · exact h
    · rw [List.getElem?_eq_none h] at hx; cases hx
  have hj' : j < d.toArray.size * k := by simpa using hj
  rw [flat_get enc hk k0 d j hj] at hx
  have := (h j (by rw [size_flatK]; exact hj')).1
  rw [addr_add_plain rfl]
  show w.cell? ⟨b, off + j, none⟩ = some x
  rw [this, get_flatK _ _ _ _ hj', ← hx]
  simp

theorem sortW_block (enc : α → List Value) (k : Nat) {w : World} {b : Nat} (off n : Nat) (d : Array α) (os : Array Obj) {arr : Array Value} {ty : TypeId} {fr : Nat × Nat} (hb : w.heap[b]? = some (.cells arr ty fr)) :
    (sortWorldK enc k w b off n d os).heap[b]? = some (.cells (putCells id off (flatK enc k d) arr) ty fr) := by
  have hlt : b < w.heap.size := by
    rcases Nat.lt_or_ge b w.heap.size with h | h
    · exact h
    · rw [Array.getElem?_eq_none h] at hb; cases hb
  unfold sortWorldK putRowK putRow mapBlock grow Sort.ahead
  simp only [Array.getElem?_append, Array.size_modify, hlt, if_true, Array.getElem?_modify, hb, Option.map_some, onCells]

theorem sortW_other (enc : α → List Value) (k : Nat) {w : World} {b j : Nat} (off n : Nat) (d : Array α) (os : Array Obj) (hj : j < w.heap.size) (hne : b ≠ j) :
    (sortWorldK enc k w b off n d os).heap[j]? = w.heap[j]? := by
  unfold sortWorldK putRowK putRow mapBlock grow Sort.ahead
  simp only [Array.getElem?_append, Array.size_modify, hj, if_true, Array.getElem?_modify, hne, if_false]

theorem sortW_rest (enc : α → List Value) (k : Nat) (w : World) (b off n : Nat) (d : Array α) (os : Array Obj) :
    (sortWorldK enc k w b off n d os).os = w.os ∧ (sortWorldK enc k w b off n d os).tape = w.tape ∧ (sortWorldK enc k w b off n d os).output = w.output ∧ w.heap.size ≤ (sortWorldK enc k w b off n d os).heap.size :=
  ⟨rfl, rfl, rfl, size_sortWorldK_c enc k w b off n d os⟩

/-- what the sort leaves -/
def srtL (cf : α → α → Int) (d : List α) : List α := (pdq (ltOf cf) d.toArray 0 d.toArray.size (Lib.bitLen d.toArray.size) true true).toList

theorem srt_len {cf : α → α → Int} (hO : SWO (ltOf cf)) (d : List α) : (srtL cf d).length = d.length := by
  have h := pdq_sorts (ltOf cf) hO d.toArray 0 d.toArray.size (Lib.bitLen d.toArray.size) true true (Nat.zero_le _) (Nat.le_refl _) (Or.inl rfl)
  have := h.1.1
  unfold srtL
  rw [Array.length_toList, this]; simp
theorem srt_perm {cf : α → α → Int} (hO : SWO (ltOf cf)) (d : List α) : (srtL cf d).Perm d := by
  have h := pdq_sorts (ltOf cf) hO d.toArray 0 d.toArray.size (Lib.bitLen d.toArray.size) true true (Nat.zero_le _) (Nat.le_refl _) (Or.inl rfl)
  have hs := h.1.1
  have := h.1.2.2
  unfold srtL
  have e1 : ∀ a : Array α, a.size = d.toArray.size → (a.extract 0 d.toArray.size).toList = a.toList := fun a ha => by rw [← ha]; simp
  rw [e1 _ hs, e1 _ rfl] at this
  simpa using this
theorem srt_sorted {cf : α → α → Int} (hO : SWO (ltOf cf)) (d : List α) : (srtL cf d).Pairwise fun x y => ltOf cf y x = false := by
  have h := pdq_sorts (ltOf cf) hO d.toArray 0 d.toArray.size (Lib.bitLen d.toArray.size) true true (Nat.zero_le _) (Nat.le_refl _) (Or.inl rfl)
  have hl := srt_len hO d
  rw [List.pairwise_iff_getElem]
  intro i j hi hj hij
  have := h.2 i j (Nat.zero_le _) hij (by rw [hl] at hj; simpa using hj)
  unfold srtL at hi hj ⊢
  have hi' := hi
  have hj' := hj
  rw [Array.length_toList] at hi' hj'
  rw [getElem!_pos (pdq (ltOf cf) d.toArray 0 d.toArray.size (Lib.bitLen d.toArray.size) true true) i hi', getElem!_pos (pdq (ltOf cf) d.toArray 0 d.toArray.size (Lib.bitLen d.toArray.size) true true) j hj'] at this
  simpa using this

variable {P : Program} {ρ : Ren}

theorem flat_cells {enc : α → List Value} {cell : α → List PV} (hinv : ∀ (w : World) x ys F, RepL w (cell x) ys F → ys = enc x ∧ F = []) {w : World} : ∀ (d : List α) (xs : List Value) (F : Foot), RepL w (d.map cell).flatten xs F → xs = d.flatMap enc ∧ F = []
  | [], xs, F, h => h.nil_inv
  | x :: r, xs, F, h => by
    rw [List.map_cons, List.flatten_cons] at h
    obtain ⟨y1, y2, F1, F2, rfl, rfl, h1, h2⟩ := RepL.split _ h
    obtain ⟨rfl, rfl⟩ := hinv _ _ _ _ h1
    obtain ⟨rfl, rfl⟩ := flat_cells hinv r _ _ h2
    exact ⟨rfl, rfl⟩
theorem flat_rep {enc : α → List Value} {cell : α → List PV} (hf : ∀ (w : World) x, RepL w (cell x) (enc x) []) (w : World) : ∀ (d : List α), RepL w (d.map cell).flatten (d.flatMap enc) []
  | [] => .nil
  | x :: r => by
    rw [List.map_cons, List.flatten_cons, List.flatMap_cons]
    simpa using (hf w x).append (flat_rep hf w r)

/-- slices.SortFunc -/
theorem sort_M (L : SlLaysF0.n6 P ρ) {k : Nat} (k0 : 0 < k) (aE : ∀ w, (isAgg (ρ.t 24)).run P w = .ok true w) (zE : ∀ w, (Go.sizeOf (ρ.t 24)).run P w = .ok k w) (enc : α → List Value) (cell : α → List PV) (hk : ∀ x, (enc x).length = k) (h1 : ∀ x, ∀ v ∈ enc x, v.oneCell' = true)
    (hf : ∀ (w : World) x, RepL w (cell x) (enc x) []) (hinv : ∀ (w : World) x ys F, RepL w (cell x) ys F → ys = enc x ∧ F = []) (ho : ∀ x, ∀ c ∈ cell x, oneB c = true) (cf : α → α → Int) (hO : SWO (ltOf cf)) (g : Nat) (hg : callB P g = true)
    (hclos : ∀ x y W, Calls P g #[.agg (enc x).toArray, .agg (enc y).toArray] W fun e w' => e = .returned (.int .i64 (cf x y)) ∧ ∃ q os', w' = grow (W.drewN q) os') (hcb : callB P (ρ.f 6) = true) (nl : Bool) (d : List α) (hsz : d.length < 4611686018427387904) :
    FnM P (ρ.f 6) [.lst k nl (d.map cell), .fn g []] (.tup []) (.lst k nl ((srtL cf d).map cell)) := by
  have hlc : ∀ x, (cell x).length = k := fun x => by rw [← (hf default x).length, hk]
  refine ⟨hcb, _, _, rfl, rfl, fun w x0 F0 xs hI hti hr hnd hlt hR => ?_⟩
  obtain ⟨y1, ys, F1, F2, rfl, hF, hy1, hys⟩ := hR.cons_inv
  obtain ⟨rfl, rfl⟩ := hys.nil_inv
  cases hy1 with
  | fn hc =>
  obtain ⟨rfl, rfl⟩ := hc.nil_inv
  have none : ∀ p, d = [] → x0 = .slice p 0 0 → F0 = [] → Calls P (ρ.f 6) (x0 :: [.func (.func g) #[] #[]]).toArray w fun e w' => ∃ x F' Fr, e = .returned x ∧ Rep w' (.tup []) x Fr ∧ Rep w' (.lst k nl ((srtL cf d).map cell)) x0 F' ∧
      (w'.os = w.os ∧ w'.tape = w.tape ∧ w'.output = w.output ∧ w.heap.size ≤ w'.heap.size ∧ ∀ k, k < w.heap.size → (∀ e ∈ F0, e.1 ≠ k) → w'.heap[k]? = w.heap[k]?) ∧
      (∀ g ∈ F' ++ Fr, g.1 < w'.heap.size ∧ Unfrozen w' g.1 ∧ (w.heap.size ≤ g.1 ∨ ∃ e ∈ F0, e.1 = g.1)) ∧ ((F' ++ Fr).map (·.1)).Nodup := by
    intro p hd hx hF0
    subst hx hF0
    have hd' : srtL cf d = [] := List.eq_nil_of_length_eq_zero (by rw [srt_len hO, hd]; rfl)
    rw [hd']
    rw [hd] at hr
    refine (AnyF.slices_SortFunc_none L p 0 (.func (.func g) #[] #[]) w).mono fun e w' he => ?_
    obtain ⟨rfl, rfl⟩ := he
    exact ⟨_, [], [], rfl, .tup .nil, hr, ⟨rfl, rfl, rfl, Nat.le_refl _, fun _ _ _ => rfl⟩, by simp, by simp⟩
  rcases hr.lst_inv with ⟨q1, _, q2, q3⟩ | ⟨p, q1, _, q2, q3⟩ | ⟨a, cp, zs, G, q1, q2, q3, hdr, hcp, hu, _, hm, hz⟩
  · exact none _ (by simpa using q2) q1 q3
  · exact none _ (by simpa using q2) q1 q3
  obtain ⟨rfl, rfl⟩ := flat_cells hinv d _ _ hz
  obtain ⟨hsp, arr, ty, fr, hb, hcap⟩ := hdr
  obtain ⟨b, off, _⟩ := a
  simp only at hsp; subst hsp
  simp only at hb hcap
  subst q1 q3 q2
  simp only [List.length_map] at *
  have hfr : fr = (0, 0) := by
    obtain ⟨a1, t1, hh⟩ := (hlt (b, off + d.length * k) (by simp)).2
    rw [hb] at hh; simp at hh; exact hh.2.2
  subst hfr
  have hblt : b < w.heap.size := (hlt (b, off + d.length * k) (by simp)).1
  have hH := holds_of hk k0 hb hm
  have hcon := AnyQ.slices_SortFunc_eq L k aE zE enc hk h1 cf hO g #[] b off cp d.toArray w (fun args w => run_callFunc hg args) (fun m os dk _ x y => by
    simpa using hclos x y (sortWorldK enc k w b off m dk os)) hH hblt (by simpa using hsz)
  have hargs : (Value.slice (some ⟨b, off, Option.none⟩) d.length cp :: [Value.func (.func g) #[] #[]]).toArray = #[.slice (some ⟨b, off, Option.none⟩) d.toArray.size cp, .func (.func g) #[] #[]] := by simp
  rw [hargs]
  refine hcon.mono fun e w' he => ?_
  obtain ⟨rfl, n, os, rfl⟩ := he
  have hS : pdq (ltOf cf) d.toArray 0 d.toArray.size (Lib.bitLen d.toArray.size) true true = (srtL cf d).toArray := by unfold srtL; simp
  have hlen := srt_len hO d
  rw [hS]
  have hblk := sortW_block enc k off n (srtL cf d).toArray os hb
  have hH2 := holdsK_sortWorldK enc k w b off n d.toArray (srtL cf d).toArray os hblt hH (by simp [hlen])
  have hm2 := mem_of hk k0 hH2
  have hps : (putCells id off (flatK enc k (srtL cf d).toArray) arr).size = arr.size := by simp [putCells]
  have hrest := sortW_rest enc k w b off n (srtL cf d).toArray os
  refine ⟨_, [(b, off + (srtL cf d).length * k)], [], rfl, .tup .nil, ?_, ⟨hrest.1, hrest.2.1, hrest.2.2.1, hrest.2.2.2, fun j hj hne => sortW_other enc k off n _ os hj (fun h => hne (b, off + d.length * k) (by simp) h)⟩, ?_, by simp⟩
  · have := rep_row (w := sortWorldK enc k w b off n (srtL cf d).toArray os) (w' := sortWorldK enc k w b off n (srtL cf d).toArray os) (off := off) (c := cp) (z := k) (els := (srtL cf d).map cell) (xs := (srtL cf d).flatMap enc) (G := []) hblk (by rw [hps]; exact hcap) (by rw [List.length_map, hlen]; exact hcp)
      (fun cs hcs => by obtain ⟨x, _, rfl⟩ := List.mem_map.1 hcs; exact hlc x) (fun cs hcs => by obtain ⟨x, _, rfl⟩ := List.mem_map.1 hcs; exact ho x) ((mem_arr hblk).1 hm2) (flat_rep hf _ _) (fun e he => by cases he)
    rw [List.length_map, hlen] at this
    rw [hlen]
    exact this
  · intro g hg
    simp only [List.append_nil, List.mem_singleton] at hg
    subst hg
    exact ⟨by have := hrest.2.2.2; simp only; omega, ⟨_, _, hblk⟩, .inr ⟨_, List.mem_cons_self .., rfl⟩⟩
end
end Go.Eng
