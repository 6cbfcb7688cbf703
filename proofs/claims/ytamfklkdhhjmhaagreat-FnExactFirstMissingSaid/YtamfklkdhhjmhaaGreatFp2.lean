/- A part of the proof of a law's statement: for every input the law returns true and leaves its arguments as they were. No condition beyond the statement's own. What each function computes. -/
import Derived.Lib.RowBridge
import Derived.WalkKit
import Derived.LoopTactic
import Derived.StillTailTactics
import Derived.Deep.QuietTactic
import Derived.BigQuiet
import Derived.Laws.Cover1
import Derived.Handy
import Derived.Test.YtamfklkdhhjmhaaGreatFp1
set_option linter.unusedVariables false
set_option linter.unusedSimpArgs false
set_option linter.unusedSectionVars false
set_option autoImplicit true
set_option relaxedAutoImplicit true
namespace Go.Eng
open Go Go.Proofs Go.Sort Go.Shelf Geo
set_option linter.unusedSimpArgs false
set_option linter.unusedVariables false
set_option maxRecDepth 20000
set_option maxHeartbeats 1000000

/-! places in their order; places that are kept; what is shown: plain laws -/
structure Plc where
  f0 : Int
  f1 : Pt
  f2 : Int
def plc (x : Plc) : List PV := [i x.f0, i x.f1.f0, i x.f1.f1, i x.f2]
def plcD : Plc := ⟨0, ⟨0, 0⟩, 0⟩
instance : Inhabited Plc := ⟨plcD⟩
def abv (x y : Plc) : Bool := decide (y.f2 < x.f2) || (decide (x.f2 = y.f2) && decide (x.f0 < y.f0))
theorem abv_t {x y : Plc} : abv x y = true ↔ y.f2 < x.f2 ∨ (x.f2 = y.f2 ∧ x.f0 < y.f0) := by unfold abv; simp
theorem abv_f {x y : Plc} : abv x y = false ↔ ¬ (y.f2 < x.f2 ∨ (x.f2 = y.f2 ∧ x.f0 < y.f0)) := by rw [← abv_t]; simp
theorem abv_irr (x : Plc) : abv x x = false := by rw [abv_f]; omega
theorem abv_tr {x y z : Plc} (h : abv x y = true) (h2 : abv y z = true) : abv x z = true := by rw [abv_t] at *; omega
theorem abv_ntr {x y z : Plc} (h : abv x y = false) (h2 : abv y z = false) : abv x z = false := by rw [abv_f] at *; omega
theorem abv_tri {x y : Plc} (h : abv x y = false) (h2 : abv y x = false) : x.f0 = y.f0 ∧ x.f2 = y.f2 := by rw [abv_f] at *; omega
def cfAb (x y : Plc) : Int := if abv x y = true then -1 else if abv y x = true then 1 else 0
theorem lt_cfAb (x y : Plc) : ltOf cfAb x y = abv x y := by
  unfold ltOf cfAb
  cases h : abv x y
  · cases h2 : abv y x <;> simp
  · simp
theorem swoAb : SWO (ltOf cfAb) := ⟨fun x => by rw [lt_cfAb]; exact abv_irr x, fun x y z h h2 => by rw [lt_cfAb] at *; exact abv_tr h h2, fun x y z h h2 => by rw [lt_cfAb] at *; exact abv_ntr h h2⟩
/-! a place is looked for from behind -/
def pnK (x : Plc) (l : List Plc) : Nat → Nat
  | 0 => 0
  | k + 1 => if abv x (l.getD k plcD) = true then pnK x l k else k + 1
theorem pnK_le (x : Plc) (l : List Plc) (k : Nat) : pnK x l k ≤ k := by
  induction k with
  | zero => exact Nat.le_refl _
  | succ k ih => unfold pnK; split <;> omega
theorem pnK_hi {x : Plc} {l : List Plc} : ∀ k j, pnK x l k ≤ j → j < k → abv x (l.getD j plcD) = true := by
  intro k
  induction k with
  | zero => intro j _ h; omega
  | succ k ih =>
    intro j h1 h2
    unfold pnK at h1
    split at h1
    · rename_i h
      rcases Nat.lt_or_ge j k with h3 | h3
      · exact ih j h1 h3
      · obtain rfl : j = k := by omega
        exact h
    · omega
theorem pnK_lo {x : Plc} {l : List Plc} : ∀ k, 0 < pnK x l k → abv x (l.getD (pnK x l k - 1) plcD) = false := by
  intro k
  induction k with
  | zero => intro h; exact absurd h (by simp [pnK])
  | succ k ih =>
    intro h
    unfold pnK at h ⊢
    split
    · rename_i h2; rw [if_pos h2] at h; exact ih h
    · rename_i h2; simpa using h2
def pnL (x : Plc) (l : List Plc) : List Plc := l.take (pnK x l l.length) ++ x :: l.drop (pnK x l l.length)
def psrd (l : List Plc) : Prop := l.Pairwise fun a b => abv b a = false
theorem pnL_perm (x : Plc) (l : List Plc) : (pnL x l).Perm (x :: l) := by
  unfold pnL
  refine List.perm_middle.trans ?_
  rw [List.take_append_drop]
theorem pnL_srd {x : Plc} {l : List Plc} (h : psrd l) : psrd (pnL x l) := by
  unfold psrd pnL at *
  have hk := pnK_le x l l.length
  have hg : ∀ j, j < l.length → l.getD j plcD = l[j]?.getD plcD := fun j _ => by simp
  have hdrop : ∀ b ∈ l.drop (pnK x l l.length), abv x b = true := by
    intro b hb
    obtain ⟨j, hj⟩ := List.mem_iff_getElem?.1 hb
    rw [List.getElem?_drop] at hj
    have hlt : pnK x l l.length + j < l.length := by
      rcases Nat.lt_or_ge (pnK x l l.length + j) l.length with h1 | h1
      · exact h1
      · rw [List.getElem?_eq_none h1] at hj; cases hj
    have := pnK_hi (x := x) (l := l) l.length (pnK x l l.length + j) (by omega) hlt
    rw [hg _ hlt, hj] at this
    exact this
  have htake : ∀ a ∈ l.take (pnK x l l.length), abv x a = false := by
    intro a ha
    obtain ⟨j, hj⟩ := List.mem_iff_getElem?.1 ha
    have hjk : j < pnK x l l.length := by
      rcases Nat.lt_or_ge j (pnK x l l.length) with h1 | h1
      · exact h1
      · rw [List.getElem?_eq_none (by simp; omega)] at hj; cases hj
    rw [List.getElem?_take_of_lt hjk] at hj
    have hlo := pnK_lo (x := x) (l := l) l.length (by omega)
    have hlast : pnK x l l.length - 1 < l.length := by omega
    rw [hg _ hlast, List.getElem?_eq_getElem hlast, Option.getD_some] at hlo
    have hjl : j < l.length := by omega
    rw [List.getElem?_eq_getElem hjl] at hj
    obtain rfl := Option.some.inj hj
    rcases Nat.lt_or_ge j (pnK x l l.length - 1) with h1 | h1
    · exact abv_ntr hlo (List.pairwise_iff_getElem.1 h j _ hjl hlast h1)
    · have : j = pnK x l l.length - 1 := by omega
      subst this; exact hlo
  rw [List.pairwise_append]
  refine ⟨h.sublist (List.take_sublist ..), List.pairwise_cons.2 ⟨fun b hb => ?_, h.sublist (List.drop_sublist ..)⟩, fun a ha b hb => ?_⟩
  · cases hbx : abv b x
    · rfl
    · have := abv_tr hbx (hdrop b hb); rw [abv_irr] at this; cases this
  · rcases List.mem_cons.1 hb with rfl | hb
    · exact htake a ha
    · cases hba : abv b a
      · rfl
      · have := abv_tr (hdrop b hb) hba
        rw [htake a ha] at this; cases this
def pnTo (d : List Plc) : Nat → List Plc
  | 0 => []
  | n + 1 => pnL (d.getD n plcD) (pnTo d n)
theorem pnTo_perm (d : List Plc) : ∀ n, n ≤ d.length → (pnTo d n).Perm (d.take n) := by
  intro n
  induction n with
  | zero => intro _; exact .refl _
  | succ n ih =>
    intro h
    have hg : d.getD n plcD = d[n] := by simp [show n < d.length by omega]
    unfold pnTo
    rw [List.take_add_one, List.getElem?_eq_getElem (by omega), hg]
    exact (pnL_perm _ _).trans (((ih (by omega)).cons _).trans (by
      have := List.perm_append_comm (l₁ := [d[n]]) (l₂ := d.take n)
      simpa using this))
theorem pnTo_srd (d : List Plc) : ∀ n, psrd (pnTo d n) := by
  intro n
  induction n with
  | zero => exact List.Pairwise.nil
  | succ n ih => exact pnL_srd ih
theorem pnTo_len (d : List Plc) (n : Nat) (h : n ≤ d.length) : (pnTo d n).length = n := by
  rw [(pnTo_perm d n h).length_eq]; simp; omega
theorem plc_inj : ∀ {d : List Plc}, d.Pairwise (fun a b => a.f0 < b.f0) → ∀ a ∈ d, ∀ b ∈ d, a.f0 = b.f0 → a = b
  | [], _, a, ha, _, _, _ => by cases ha
  | x :: r, h, a, ha, b, hb, e => by
    have h' := List.pairwise_cons.1 h
    rcases List.mem_cons.1 ha with e1 | ha2
    · rcases List.mem_cons.1 hb with e2 | hb2
      · rw [e1, e2]
      · have := h'.1 b hb2; rw [e1] at e; omega
    · rcases List.mem_cons.1 hb with e2 | hb2
      · have := h'.1 a ha2; rw [e2] at e; omega
      · exact plc_inj h'.2 a ha2 b hb2 e
theorem pn_srt {d : List Plc} (h : d.Pairwise fun a b => a.f0 < b.f0) : inaL cfAb d = pnTo d d.length := by
  have p1 := ina_perm swoAb d
  have p2 := pnTo_perm d d.length (Nat.le_refl _)
  rw [List.take_length] at p2
  have s1 : (inaL cfAb d).Pairwise fun a b => abv b a = false := by
    have := ina_sorted swoAb d
    simpa only [lt_cfAb] using this
  refine List.Perm.eq_of_pairwise (le := fun a b => abv b a = false) ?_ s1 (pnTo_srd d d.length) (p1.trans p2.symm)
  intro a b ha hb h1 h2
  have e := abv_tri h2 h1
  exact plc_inj h a (p1.mem_iff.1 ha) b (p2.mem_iff.1 hb) e.1
/-! ascending numbers -/
theorem incI_ext : ∀ {l m : List Int}, l.Pairwise (· < ·) → m.Pairwise (· < ·) → (∀ x, x ∈ l ↔ x ∈ m) → l = m
  | [], [], _, _, _ => rfl
  | [], y :: r, _, _, h => by have := (h y).2 (List.mem_cons_self ..); cases this
  | x :: l, [], _, _, h => by have := (h x).1 (List.mem_cons_self ..); cases this
  | x :: l, y :: r, hl, hm, h => by
    have h1 := List.pairwise_cons.1 hl
    have h2 := List.pairwise_cons.1 hm
    have hxy : x = y := by
      rcases List.mem_cons.1 ((h x).1 (List.mem_cons_self ..)) with e | e
      · exact e
      rcases List.mem_cons.1 ((h y).2 (List.mem_cons_self ..)) with e' | e'
      · exact e'.symm
      have := h1.1 y e'
      have := h2.1 x e
      omega
    subst hxy
    rw [incI_ext h1.2 h2.2 fun z => ?_]
    constructor
    · intro hz
      rcases List.mem_cons.1 ((h z).1 (List.mem_cons_of_mem _ hz)) with rfl | e
      · have := h1.1 z hz; omega
      · exact e
    · intro hz
      rcases List.mem_cons.1 ((h z).2 (List.mem_cons_of_mem _ hz)) with rfl | e
      · have := h2.1 z hz; omega
      · exact e
def srI (l : List Int) : List Int := l.mergeSort fun x y => decide (x ≤ y)
theorem srI_mem (l : List Int) (x : Int) : x ∈ srI l ↔ x ∈ l := List.mem_mergeSort
theorem srI_len (l : List Int) : (srI l).length = l.length := List.length_mergeSort _
theorem srI_inc {l : List Int} (h : l.Pairwise (· ≠ ·)) : (srI l).Pairwise (· < ·) := by
  have h1 : (srI l).Pairwise fun x y => decide (x ≤ y) = true := List.pairwise_mergeSort (fun a b c h1 h2 => by simp at *; omega) (fun a b => by simp; omega) l
  have h2 : (srI l).Pairwise (· ≠ ·) := (List.mergeSort_perm l _).symm.pairwise h (fun h => Ne.symm h)
  exact (h1.and h2).imp fun ⟨a, b⟩ => by simp at a; omega
def putI : List Int → Int → List Int
  | [], n => [n]
  | x :: r, n => if x < n then x :: putI r n else if x = n then x :: r else n :: x :: r
theorem putI_mem : ∀ {l : List Int} {n x : Int}, x ∈ putI l n ↔ x = n ∨ x ∈ l
  | [], n, x => by simp [putI]
  | y :: r, n, x => by
    unfold putI
    split
    · rw [List.mem_cons, putI_mem, List.mem_cons]
      constructor <;> intro h <;> rcases h with h | h | h <;> simp [h]
    · split
      · rename_i h
        subst h
        simp
      · simp
theorem putI_inc : ∀ {l : List Int} {n : Int}, l.Pairwise (· < ·) → (putI l n).Pairwise (· < ·)
  | [], n, _ => by simp [putI]
  | y :: r, n, h => by
    have h' := List.pairwise_cons.1 h
    unfold putI
    split
    · rename_i hlt
      refine List.pairwise_cons.2 ⟨fun x hx => ?_, putI_inc h'.2⟩
      rcases putI_mem.1 hx with rfl | hx
      · exact hlt
      · exact h'.1 x hx
    · split
      · exact h
      · refine List.pairwise_cons.2 ⟨fun x hx => ?_, h⟩
        rcases List.mem_cons.1 hx with rfl | hx
        · omega
        · have := h'.1 x hx; omega
theorem putI_len : ∀ {l : List Int} {n : Int}, (putI l n).length ≤ l.length + 1
  | [], n => by simp [putI]
  | y :: r, n => by
    have := putI_len (l := r) (n := n)
    unfold putI
    split
    · simp; omega
    · split <;> simp
def puTo (l : List Int) : Nat → List Int
  | 0 => []
  | n + 1 => putI (puTo l n) (l.getD n 0)
theorem puTo_len (l : List Int) : ∀ n, (puTo l n).length ≤ n
  | 0 => by simp [puTo]
  | n + 1 => by have := puTo_len l n; have := putI_len (l := puTo l n) (n := l.getD n 0); unfold puTo; omega
theorem puTo_inc (l : List Int) : ∀ n, (puTo l n).Pairwise (· < ·)
  | 0 => List.Pairwise.nil
  | n + 1 => putI_inc (puTo_inc l n)
theorem puTo_mem (l : List Int) : ∀ n, n ≤ l.length → ∀ x, x ∈ puTo l n ↔ x ∈ l.take n
  | 0, _, x => by simp [puTo]
  | n + 1, hn, x => by
    unfold puTo
    rw [putI_mem, puTo_mem l n (by omega), List.take_add_one, List.getElem?_eq_getElem (by omega), show l.getD n 0 = l[n] by simp [show n < l.length by omega], List.mem_append, Option.toList_some, List.mem_singleton]
    exact or_comm
theorem pu_sr {l : List Int} (h : l.Pairwise (· ≠ ·)) : puTo l l.length = srI l :=
  incI_ext (puTo_inc l _) (srI_inc h) fun x => by rw [puTo_mem l _ (Nat.le_refl _), srI_mem, List.take_length]
/-! places that are kept -/
def farSq (a b : Pt) : Int := if (M_IsPoint a.f0 a.f1 && M_IsPoint b.f0 b.f1) = true then (a.f0 - b.f0) * (a.f0 - b.f0) + (a.f1 - b.f1) * (a.f1 - b.f1) else -1
theorem sqc (a b : Int) : (a - b) * (a - b) = (b - a) * (b - a) := by rw [← Int.neg_sub b a, Int.neg_mul_neg]
theorem farSq_comm (a b : Pt) : farSq a b = farSq b a := by
  unfold farSq
  rw [Bool.and_comm, sqc a.f0 b.f0, sqc a.f1 b.f1]
def kpOK (far : Int) (K : List Plc) (x : Plc) : Bool := K.all fun y => decide (far * far ≤ farSq x.f1 y.f1)
def kpTo (far : Int) (S : List Plc) : Nat → List Plc
  | 0 => []
  | n + 1 => if kpOK far (kpTo far S n) (S.getD n plcD) = true then kpTo far S n ++ [S.getD n plcD] else kpTo far S n
theorem kpTo_sub (far : Int) (S : List Plc) : ∀ n, n ≤ S.length → (kpTo far S n).Sublist (S.take n)
  | 0, _ => by simp [kpTo]
  | n + 1, hn => by
    have ih := kpTo_sub far S n (by omega)
    rw [List.take_add_one, List.getElem?_eq_getElem (by omega)]
    unfold kpTo
    rw [show S.getD n plcD = S[n] by simp [show n < S.length by omega]]
    split
    · exact ih.append (List.Sublist.refl _)
    · exact ih.trans (List.sublist_append_left ..)
theorem kpTo_len (far : Int) (S : List Plc) (n : Nat) (hn : n ≤ S.length) : (kpTo far S n).length ≤ n := by
  have := (kpTo_sub far S n hn).length_le
  simpa [Nat.min_eq_left hn] using this
def plAt (l : List Plc) (n : Nat) : Bool := (inR (l.getD n plcD).f0 1 99 && (M_IsPoint (l.getD n plcD).f1.f0 (l.getD n plcD).f1.f1 && inR (l.getD n plcD).f2 0 9)) && !(decide (0 < n) && decide ((l.getD n plcD).f0 ≤ (l.getD (n - 1) plcD).f0))
def arePl (l : List Plc) : Bool := decide (l.length ≤ 16) && allTo (plAt l) l.length
def kept (l : List Plc) (far : Int) : List Plc := if (arePl l && inR far 0 200) = true then kpTo far (pnTo l l.length) (pnTo l l.length).length else []
def thin (l : List Plc) (far : Int) : List Int := srI ((kept l far).map (·.f0))
theorem arePl_inc {l : List Plc} (h : arePl l = true) : l.Pairwise fun a b => a.f0 < b.f0 := by
  unfold arePl at h
  simp only [Bool.and_eq_true] at h
  rw [List.pairwise_iff_getElem]
  intro a b ha hb hab
  induction b with
  | zero => omega
  | succ b ih =>
    have h1 := allTo_at h.2 hb
    unfold plAt at h1
    rw [show l.getD (b + 1) plcD = l[b + 1] by simp [hb], show l.getD (b + 1 - 1) plcD = l[b]'(by omega) by simp [show b < l.length by omega]] at h1
    simp only [Bool.and_eq_true, Bool.not_eq_true', Bool.and_eq_false_iff, decide_eq_false_iff_not] at h1
    have h2 : (l[b]'(by omega)).f0 < l[b + 1].f0 := by
      rcases h1.2 with h3 | h3
      · omega
      · omega
    rcases Nat.lt_or_ge a b with h3 | h3
    · have := ih (by omega) h3
      omega
    · obtain rfl : a = b := by omega
      exact h2
theorem kept_ids {l : List Plc} {far : Int} : ((kept l far).map (·.f0)).Pairwise (· ≠ ·) := by
  unfold kept
  split
  · rename_i h
    simp only [Bool.and_eq_true] at h
    have hi := arePl_inc h.1
    have p2 := pnTo_perm l l.length (Nat.le_refl _)
    rw [List.take_length] at p2
    have h1 : (l.map (·.f0)).Pairwise (· ≠ ·) := by
      rw [List.pairwise_map]
      exact hi.imp fun h => by omega
    have h2 : ((pnTo l l.length).map (·.f0)).Pairwise (· ≠ ·) := (p2.map _).symm.pairwise h1 (fun h => Ne.symm h)
    have hs := (kpTo_sub far (pnTo l l.length) _ (Nat.le_refl _)).map (·.f0)
    rw [List.take_length] at hs
    exact h2.sublist hs
  · exact List.Pairwise.nil
theorem kept_mem {l : List Plc} {far : Int} {x : Plc} (h : x ∈ kept l far) : x ∈ l := by
  unfold kept at h
  split at h
  · have p2 := pnTo_perm l l.length (Nat.le_refl _)
    rw [List.take_length] at p2
    have hs := (kpTo_sub far (pnTo l l.length) _ (Nat.le_refl _)).subset h
    rw [List.take_length] at hs
    exact p2.mem_iff.1 hs
  · cases h
theorem kept_len (l : List Plc) (far : Int) : (kept l far).length ≤ l.length := by
  unfold kept
  split
  · have := kpTo_len far (pnTo l l.length) _ (Nat.le_refl _)
    rw [pnTo_len l l.length (Nat.le_refl _)] at this ⊢
    exact this
  · exact Nat.zero_le _
theorem thin_mem {l : List Plc} {far : Int} {n : Int} (h : n ∈ thin l far) : ∃ x ∈ l, x.f0 = n := by
  unfold thin at h
  rw [srI_mem] at h
  obtain ⟨x, hx, rfl⟩ := List.mem_map.1 h
  exact ⟨x, kept_mem hx, rfl⟩
theorem thin_inc (l : List Plc) (far : Int) : (thin l far).Pairwise (· < ·) := srI_inc kept_ids
theorem thin_pu (l : List Plc) (far : Int) : puTo ((kept l far).map (·.f0)) ((kept l far).map (·.f0)).length = thin l far := pu_sr kept_ids
/-! what is shown -/
def rkd (l : List Ft) (r : Int) : List Ft := l.filter fun x => decide (r ≤ x.f2)
def plOf (x : Ft) : Plc := ⟨x.f0, x.f4.getD 0 ⟨0, 0⟩, x.f2⟩
def plsOf (l : List Ft) : List Plc := if wSrc l = true then (l.filter fun x => decide (x.f1 = 1)).map plOf else []
structure Lv where
  f0 : Int
  f1 : Int
  f2 : Int
def lv (x : Lv) : List PV := [i x.f0, i x.f1, i x.f2]
def wLv (v : Lv) : Bool := inR v.f0 0 9 && (inR v.f1 0 200 && inR v.f2 0 100000)
def shT (l : List Ft) (v : Lv) : List Int := thin (plsOf (rkd l v.f0)) v.f1
def shS (l : List Ft) (v : Lv) : List Int := ((rkd l v.f0).filter fun x => !decide (x.f1 = 1) || decide (x.f0 ∈ shT l v)).map (·.f0)
def shI (l : List Ft) (v : Lv) : List Int := srI (shT l v ++ ((rkd l v.f0).filter fun x => !decide (x.f1 = 1)).map (·.f0))
theorem inc_inj {l : List Ft} (h : inc l) : ∀ a ∈ l, ∀ b ∈ l, a.f0 = b.f0 → a = b := by
  intro x hx y hy he
  obtain ⟨a, ha, rfl⟩ := List.getElem_of_mem hx
  obtain ⟨b, hb, rfl⟩ := List.getElem_of_mem hy
  rcases Nat.lt_trichotomy a b with h1 | h1 | h1
  · have := inc_at h h1 hb; omega
  · subst h1; rfl
  · have := inc_at h h1 ha; omega
theorem rkd_inc {l : List Ft} (h : inc l) (r : Int) : inc (rkd l r) := by
  unfold inc at *
  rw [List.pairwise_map] at *
  exact h.sublist (List.filter_sublist ..)
theorem shT_mem {l : List Ft} {v : Lv} {n : Int} (h : n ∈ shT l v) : ∃ x ∈ rkd l v.f0, x.f1 = 1 ∧ x.f0 = n := by
  obtain ⟨p, hp, rfl⟩ := thin_mem h
  unfold plsOf at hp
  split at hp
  · obtain ⟨x, hx, rfl⟩ := List.mem_map.1 hp
    have := List.mem_filter.1 hx
    exact ⟨x, this.1, by simpa using this.2, rfl⟩
  · cases hp
theorem shown_eq {l : List Ft} (h : wSrc l = true) (v : Lv) : shI l v = shS l v := by
  have hi := rkd_inc (wSrc_iff.1 h).2.2 v.f0
  have hin := inc_inj hi
  have hsub : ∀ p : Ft → Bool, (((rkd l v.f0).filter p).map (·.f0)).Pairwise (· < ·) := fun p => by
    have := hi
    unfold inc at this
    rw [List.pairwise_map] at *
    exact this.sublist (List.filter_sublist ..)
  refine incI_ext (srI_inc ?_) (hsub _) fun n => ?_
  · rw [List.pairwise_append]
    refine ⟨(thin_inc _ _).imp fun h => by omega, (hsub _).imp fun h => by omega, fun a ha b hb hab => ?_⟩
    subst hab
    obtain ⟨x, hx, hk, rfl⟩ := shT_mem ha
    obtain ⟨y, hy, he⟩ := List.mem_map.1 hb
    have hy := List.mem_filter.1 hy
    have := hin y hy.1 x hx he
    subst this
    simp [hk] at hy
  · unfold shI
    rw [srI_mem, List.mem_append]
    unfold shS
    rw [List.mem_map, List.mem_map]
    constructor
    · rintro (h | ⟨x, hx, rfl⟩)
      · obtain ⟨x, hx, hk, rfl⟩ := shT_mem h
        exact ⟨x, List.mem_filter.2 ⟨hx, by simp [h]⟩, rfl⟩
      · have hx := List.mem_filter.1 hx
        exact ⟨x, List.mem_filter.2 ⟨hx.1, by rw [hx.2]; rfl⟩, rfl⟩
    · rintro ⟨x, hx, rfl⟩
      have hx := List.mem_filter.1 hx
      simp only [Bool.or_eq_true, decide_eq_true_eq] at hx
      rcases hx.2 with h1 | h1
      · exact .inr ⟨x, List.mem_filter.2 ⟨hx.1, h1⟩, rfl⟩
      · exact .inl h1
theorem shS_mem {l : List Ft} {v : Lv} {n : Int} (h : n ∈ shS l v) : ∃ x ∈ l, x.f0 = n := by
  obtain ⟨x, hx, rfl⟩ := List.mem_map.1 h
  exact ⟨x, (List.mem_filter.1 (List.mem_filter.1 hx).1).1, rfl⟩
theorem shS_len (l : List Ft) (v : Lv) : (shS l v).length ≤ l.length := by
  unfold shS rkd
  rw [List.length_map]
  exact Nat.le_trans (List.length_filter_le ..) (List.length_filter_le ..)
def shown (l : List Ft) (v : Lv) : List Int := if (wSrc l && wLv v) = true then shS l v else []
end Go.Eng
namespace Go.Eng
open Go Go.Proofs Geo
set_option linter.unusedSimpArgs false
set_option linter.unusedVariables false
set_option maxRecDepth 20000
set_option maxHeartbeats 1000000

/-! places: walks. WRITES -/
theorem f149 (x y : Plc) : Fn Tryz.prog 149 false [.agg (plc x), .agg (plc y)] (.bool (abv x y)) := by
  unfold plc
  refine Fn.by_sx hX (by kernel_rfl) c149 (by kernel_rfl) (by rfl) ?_
  simp [i149, sxa, isPtrN, PV.pcs, elAt, setEl, inAt, elIn, setIn, isLst, cellsOf, Ex.ok, Ex.val, Opd.val, POp.dst, bin_int, binOK_int, bin_str, binOK_str, resOK, resV, RB.val, sub, putc, scB, scL, oneB, conf, Ex.val.eqP, Ex.val.eqL, negV, mxV, mnV, ← wr_eq, wr_zero, wr_one, wr_m1, bst_lst, byteC, partsOK, putAll, appV, nilV, slV, sslV, optB, optNum, and_assoc, exists_and_left, exists_eq_left']
  repeat' (first | intro _ | (simp [sxa, isPtrN, PV.pcs, elAt, setEl, inAt, elIn, setIn, isLst, cellsOf, Ex.ok, Ex.val, Opd.val, POp.dst, bin_int, binOK_int, bin_str, binOK_str, resOK, resV, RB.val, sub, putc, scB, scL, oneB, conf, Ex.val.eqP, Ex.val.eqL, negV, mxV, mnV, ← wr_eq, wr_zero, wr_one, wr_m1, bst_lst, byteC, partsOK, putAll, appV, nilV, slV, sslV, optB, optNum, and_assoc, exists_and_left, exists_eq_left', *]) | refine CondS_d (fun h => ?_) (fun h => ?_) | refine CondS_b (fun h => ?_) (fun h => ?_) | refine GrdS_d (fun h => ?_) (fun h => ?_) | refine GrdS_b (fun h => ?_) (fun h => ?_) | refine OkS_i (by omega) ?_ | refine OkS_i ⟨by omega, by assumption⟩ ?_ | refine OkS_i ⟨by omega, by assumption, by assumption⟩ ?_ | fail)
  all_goals simp_all [abv]
theorem sq_b {d : Int} (h0 : -200 ≤ d) (h1 : d ≤ 200) : 0 ≤ d * d ∧ d * d ≤ 40000 := by
  have e : d * d = ((d.natAbs * d.natAbs : Nat) : Int) := (Int.natAbs_mul_self' d).symm
  have h : d.natAbs ≤ 200 := by omega
  have := Nat.mul_le_mul h h
  rw [e]; omega
theorem isPtB {x y : Int} (h : M_IsPoint x y = true) : (0 ≤ x ∧ x ≤ 200) ∧ (0 ≤ y ∧ y ≤ 200) := by
  unfold M_IsPoint at h; simpa using h
theorem f150 (p q : Pt) : Fn Tryz.prog 150 false [.agg (cp p), .agg (cp q)] (i (farSq p q)) := by
  have c1 := f127 p.f0 p.f1
  have c2 := f127 q.f0 q.f1
  unfold cp
  by_cases hp : (M_IsPoint p.f0 p.f1 && M_IsPoint q.f0 q.f1) = true
  · have e : farSq p q = (p.f0 - q.f0) * (p.f0 - q.f0) + (p.f1 - q.f1) * (p.f1 - q.f1) := if_pos hp
    simp only [Bool.and_eq_true] at hp
    have h1 := isPtB hp.1
    have h2 := isPtB hp.2
    have a := sq_b (d := p.f0 - q.f0) (by omega) (by omega)
    have b := sq_b (d := p.f1 - q.f1) (by omega) (by omega)
    have w1 : wr .i64 (p.f0 - q.f0) = p.f0 - q.f0 := wr_in (by omega) (by omega)
    have w2 : wr .i64 (p.f1 - q.f1) = p.f1 - q.f1 := wr_in (by omega) (by omega)
    have w3 : wr .i64 ((p.f0 - q.f0) * (p.f0 - q.f0)) = (p.f0 - q.f0) * (p.f0 - q.f0) := wr_in (by omega) (by omega)
    have w4 : wr .i64 ((p.f1 - q.f1) * (p.f1 - q.f1)) = (p.f1 - q.f1) * (p.f1 - q.f1) := wr_in (by omega) (by omega)
    have w5 : wr .i64 ((p.f0 - q.f0) * (p.f0 - q.f0) + (p.f1 - q.f1) * (p.f1 - q.f1)) = (p.f0 - q.f0) * (p.f0 - q.f0) + (p.f1 - q.f1) * (p.f1 - q.f1) := wr_in (by omega) (by omega)
    rw [hp.1] at c1
    rw [hp.2] at c2
    rw [e]
    clear a b h1 h2 hp e
    refine Fn.by_sx hX (by kernel_rfl) c150 (by kernel_rfl) (by rfl) ?_
    simp [i150, sxa, isPtrN, PV.pcs, elAt, setEl, inAt, elIn, setIn, isLst, cellsOf, Ex.ok, Ex.val, Opd.val, POp.dst, bin_int, binOK_int, bin_str, binOK_str, resOK, resV, RB.val, sub, putc, scB, scL, oneB, conf, Ex.val.eqP, Ex.val.eqL, negV, mxV, mnV, ← wr_eq, wr_zero, wr_one, wr_m1, bst_lst, byteC, partsOK, putAll, appV, nilV, slV, sslV, optB, optNum, and_assoc, exists_and_left, exists_eq_left']
    repeat' (first | intro _ | (simp [sxa, isPtrN, PV.pcs, elAt, setEl, inAt, elIn, setIn, isLst, cellsOf, Ex.ok, Ex.val, Opd.val, POp.dst, bin_int, binOK_int, bin_str, binOK_str, resOK, resV, RB.val, sub, putc, scB, scL, oneB, conf, Ex.val.eqP, Ex.val.eqL, negV, mxV, mnV, ← wr_eq, wr_zero, wr_one, wr_m1, bst_lst, byteC, partsOK, putAll, appV, nilV, slV, sslV, optB, optNum, and_assoc, exists_and_left, exists_eq_left', *]) | refine CallS_i (c1) ?_ | refine CallS_i (c2) ?_ | refine CallM_i (c1) ?_ | refine CallM_i (c2) ?_ | refine CallE_i (c1) ?_ | refine CallE_i (c2) ?_ | refine CallX_i (c1) ?_ | refine CallX_i (c2) ?_ | refine CallB_i (c1) ?_ | refine CallB_i (c2) ?_ | refine CondS_d (fun h => ?_) (fun h => ?_) | refine CondS_b (fun h => ?_) (fun h => ?_) | refine GrdS_d (fun h => ?_) (fun h => ?_) | refine GrdS_b (fun h => ?_) (fun h => ?_) | refine OkS_i (by omega) ?_ | refine OkS_i ⟨by omega, by assumption⟩ ?_ | refine OkS_i ⟨by omega, by assumption, by assumption⟩ ?_ | fail)
  · have e : farSq p q = -1 := if_neg hp
    rw [e]
    obtain ⟨b1, hb1⟩ : ∃ b, M_IsPoint p.f0 p.f1 = b := ⟨_, rfl⟩
    obtain ⟨b2, hb2⟩ : ∃ b, M_IsPoint q.f0 q.f1 = b := ⟨_, rfl⟩
    rw [hb1] at c1 hp
    rw [hb2] at c2 hp
    clear hb1 hb2 e
    refine Fn.by_sx hX (by kernel_rfl) c150 (by kernel_rfl) (by rfl) ?_
    simp [i150, sxa, isPtrN, PV.pcs, elAt, setEl, inAt, elIn, setIn, isLst, cellsOf, Ex.ok, Ex.val, Opd.val, POp.dst, bin_int, binOK_int, bin_str, binOK_str, resOK, resV, RB.val, sub, putc, scB, scL, oneB, conf, Ex.val.eqP, Ex.val.eqL, negV, mxV, mnV, ← wr_eq, wr_zero, wr_one, wr_m1, bst_lst, byteC, partsOK, putAll, appV, nilV, slV, sslV, optB, optNum, and_assoc, exists_and_left, exists_eq_left']
    cases b1 <;> cases b2
    all_goals first | (exfalso; exact hp rfl) | skip
    all_goals clear hp
    all_goals repeat' (first | intro _ | (simp [sxa, isPtrN, PV.pcs, elAt, setEl, inAt, elIn, setIn, isLst, cellsOf, Ex.ok, Ex.val, Opd.val, POp.dst, bin_int, binOK_int, bin_str, binOK_str, resOK, resV, RB.val, sub, putc, scB, scL, oneB, conf, Ex.val.eqP, Ex.val.eqL, negV, mxV, mnV, ← wr_eq, wr_zero, wr_one, wr_m1, bst_lst, byteC, partsOK, putAll, appV, nilV, slV, sslV, optB, optNum, and_assoc, exists_and_left, exists_eq_left', *]) | refine CallS_i (c1) ?_ | refine CallS_i (c2) ?_ | refine CallM_i (c1) ?_ | refine CallM_i (c2) ?_ | refine CallE_i (c1) ?_ | refine CallE_i (c2) ?_ | refine CallX_i (c1) ?_ | refine CallX_i (c2) ?_ | refine CallB_i (c1) ?_ | refine CallB_i (c2) ?_ | refine CondS_d (fun h => ?_) (fun h => ?_) | refine CondS_b (fun h => ?_) (fun h => ?_) | refine GrdS_d (fun h => ?_) (fun h => ?_) | refine GrdS_b (fun h => ?_) (fun h => ?_) | refine OkS_i (by omega) ?_ | refine OkS_i ⟨by omega, by assumption⟩ ?_ | refine OkS_i ⟨by omega, by assumption, by assumption⟩ ?_ | fail)
theorem f153 (p q : Pt) : Fn Tryz.prog 153 false [.agg (cp p), .agg (cp q)] (i (farSq p q)) := by
  have c1 := f103 p.f0 p.f1
  have c2 := f103 q.f0 q.f1
  unfold cp
  by_cases hp : (M_IsPoint p.f0 p.f1 && M_IsPoint q.f0 q.f1) = true
  · have e : farSq p q = (p.f0 - q.f0) * (p.f0 - q.f0) + (p.f1 - q.f1) * (p.f1 - q.f1) := if_pos hp
    simp only [Bool.and_eq_true] at hp
    have h1 := isPtB hp.1
    have h2 := isPtB hp.2
    have a := sq_b (d := p.f0 - q.f0) (by omega) (by omega)
    have b := sq_b (d := p.f1 - q.f1) (by omega) (by omega)
    have w1 : wr .i64 (p.f0 - q.f0) = p.f0 - q.f0 := wr_in (by omega) (by omega)
    have w2 : wr .i64 (p.f1 - q.f1) = p.f1 - q.f1 := wr_in (by omega) (by omega)
    have w3 : wr .i64 ((p.f0 - q.f0) * (p.f0 - q.f0)) = (p.f0 - q.f0) * (p.f0 - q.f0) := wr_in (by omega) (by omega)
    have w4 : wr .i64 ((p.f1 - q.f1) * (p.f1 - q.f1)) = (p.f1 - q.f1) * (p.f1 - q.f1) := wr_in (by omega) (by omega)
    have w5 : wr .i64 ((p.f0 - q.f0) * (p.f0 - q.f0) + (p.f1 - q.f1) * (p.f1 - q.f1)) = (p.f0 - q.f0) * (p.f0 - q.f0) + (p.f1 - q.f1) * (p.f1 - q.f1) := wr_in (by omega) (by omega)
    rw [hp.1] at c1
    rw [hp.2] at c2
    rw [e]
    clear a b h1 h2 hp e
    refine Fn.by_sx hX (by kernel_rfl) c153 (by kernel_rfl) (by rfl) ?_
    simp [i153, sxa, isPtrN, PV.pcs, elAt, setEl, inAt, elIn, setIn, isLst, cellsOf, Ex.ok, Ex.val, Opd.val, POp.dst, bin_int, binOK_int, bin_str, binOK_str, resOK, resV, RB.val, sub, putc, scB, scL, oneB, conf, Ex.val.eqP, Ex.val.eqL, negV, mxV, mnV, ← wr_eq, wr_zero, wr_one, wr_m1, bst_lst, byteC, partsOK, putAll, appV, nilV, slV, sslV, optB, optNum, and_assoc, exists_and_left, exists_eq_left']
    repeat' (first | intro _ | (simp [sxa, isPtrN, PV.pcs, elAt, setEl, inAt, elIn, setIn, isLst, cellsOf, Ex.ok, Ex.val, Opd.val, POp.dst, bin_int, binOK_int, bin_str, binOK_str, resOK, resV, RB.val, sub, putc, scB, scL, oneB, conf, Ex.val.eqP, Ex.val.eqL, negV, mxV, mnV, ← wr_eq, wr_zero, wr_one, wr_m1, bst_lst, byteC, partsOK, putAll, appV, nilV, slV, sslV, optB, optNum, and_assoc, exists_and_left, exists_eq_left', *]) | refine CallS_i (c1) ?_ | refine CallS_i (c2) ?_ | refine CallM_i (c1) ?_ | refine CallM_i (c2) ?_ | refine CallE_i (c1) ?_ | refine CallE_i (c2) ?_ | refine CallX_i (c1) ?_ | refine CallX_i (c2) ?_ | refine CallB_i (c1) ?_ | refine CallB_i (c2) ?_ | refine CondS_d (fun h => ?_) (fun h => ?_) | refine CondS_b (fun h => ?_) (fun h => ?_) | refine GrdS_d (fun h => ?_) (fun h => ?_) | refine GrdS_b (fun h => ?_) (fun h => ?_) | refine OkS_i (by omega) ?_ | refine OkS_i ⟨by omega, by assumption⟩ ?_ | refine OkS_i ⟨by omega, by assumption, by assumption⟩ ?_ | fail)
  · have e : farSq p q = -1 := if_neg hp
    rw [e]
    obtain ⟨b1, hb1⟩ : ∃ b, M_IsPoint p.f0 p.f1 = b := ⟨_, rfl⟩
    obtain ⟨b2, hb2⟩ : ∃ b, M_IsPoint q.f0 q.f1 = b := ⟨_, rfl⟩
    rw [hb1] at c1 hp
    rw [hb2] at c2 hp
    clear hb1 hb2 e
    refine Fn.by_sx hX (by kernel_rfl) c153 (by kernel_rfl) (by rfl) ?_
    simp [i153, sxa, isPtrN, PV.pcs, elAt, setEl, inAt, elIn, setIn, isLst, cellsOf, Ex.ok, Ex.val, Opd.val, POp.dst, bin_int, binOK_int, bin_str, binOK_str, resOK, resV, RB.val, sub, putc, scB, scL, oneB, conf, Ex.val.eqP, Ex.val.eqL, negV, mxV, mnV, ← wr_eq, wr_zero, wr_one, wr_m1, bst_lst, byteC, partsOK, putAll, appV, nilV, slV, sslV, optB, optNum, and_assoc, exists_and_left, exists_eq_left']
    cases b1 <;> cases b2
    all_goals first | (exfalso; exact hp rfl) | skip
    all_goals clear hp
    all_goals repeat' (first | intro _ | (simp [sxa, isPtrN, PV.pcs, elAt, setEl, inAt, elIn, setIn, isLst, cellsOf, Ex.ok, Ex.val, Opd.val, POp.dst, bin_int, binOK_int, bin_str, binOK_str, resOK, resV, RB.val, sub, putc, scB, scL, oneB, conf, Ex.val.eqP, Ex.val.eqL, negV, mxV, mnV, ← wr_eq, wr_zero, wr_one, wr_m1, bst_lst, byteC, partsOK, putAll, appV, nilV, slV, sslV, optB, optNum, and_assoc, exists_and_left, exists_eq_left', *]) | refine CallS_i (c1) ?_ | refine CallS_i (c2) ?_ | refine CallM_i (c1) ?_ | refine CallM_i (c2) ?_ | refine CallE_i (c1) ?_ | refine CallE_i (c2) ?_ | refine CallX_i (c1) ?_ | refine CallX_i (c2) ?_ | refine CallB_i (c1) ?_ | refine CallB_i (c2) ?_ | refine CondS_d (fun h => ?_) (fun h => ?_) | refine CondS_b (fun h => ?_) (fun h => ?_) | refine GrdS_d (fun h => ?_) (fun h => ?_) | refine GrdS_b (fun h => ?_) (fun h => ?_) | refine OkS_i (by omega) ?_ | refine OkS_i ⟨by omega, by assumption⟩ ?_ | refine OkS_i ⟨by omega, by assumption, by assumption⟩ ?_ | fail)
theorem f118 (l : List Plc) (nl : Bool) (hl : l.length ≤ 1048576) : Fn Tryz.prog 118 false [.lst 4 nl (l.map plc)] (.bool (arePl l)) := by
  refine Fn.by_sx hX (by kernel_rfl) c118 (by kernel_rfl) (by rfl) ?_
  simp [i118, sxa, isPtrN, PV.pcs, elAt, setEl, inAt, elIn, setIn, isLst, cellsOf, Ex.ok, Ex.val, Opd.val, POp.dst, bin_int, binOK_int, bin_str, binOK_str, resOK, resV, RB.val, sub, putc, scB, scL, oneB, conf, Ex.val.eqP, Ex.val.eqL, negV, mxV, mnV, ← wr_eq, wr_zero, wr_one, wr_m1, bst_lst, byteC, partsOK, putAll, appV, nilV, slV, sslV, optB, optNum, and_assoc, exists_and_left, exists_eq_left']
  refine sx_count l.length (fun n V => V 0 = .lst 4 nl (l.map plc) ∧ V 3 = i n ∧ allTo (plAt l) n = true) 0 (by omega) (by simp [sxa, isPtrN, PV.pcs, elAt, setEl, inAt, elIn, setIn, isLst, cellsOf, Ex.ok, Ex.val, Opd.val, POp.dst, bin_int, binOK_int, bin_str, binOK_str, resOK, resV, RB.val, sub, putc, scB, scL, oneB, conf, Ex.val.eqP, Ex.val.eqL, negV, mxV, mnV, ← wr_eq, wr_zero, wr_one, wr_m1, bst_lst, byteC, partsOK, putAll, appV, nilV, slV, sslV, optB, optNum, and_assoc, exists_and_left, exists_eq_left', allTo_zero]) ?_
  rintro n V hn ⟨h0, h3, ha⟩
  simp [sxa, isPtrN, PV.pcs, elAt, setEl, inAt, elIn, setIn, isLst, cellsOf, Ex.ok, Ex.val, Opd.val, POp.dst, bin_int, binOK_int, bin_str, binOK_str, resOK, resV, RB.val, sub, putc, scB, scL, oneB, conf, Ex.val.eqP, Ex.val.eqL, negV, mxV, mnV, ← wr_eq, wr_zero, wr_one, wr_m1, bst_lst, byteC, partsOK, putAll, appV, nilV, slV, sslV, optB, optNum, and_assoc, exists_and_left, exists_eq_left', h0, h3]
  refine CondS_d (fun hlt => ?_) (fun hge => ?_)
  · have hlt' : n < l.length := by omega
    have hbad : plAt l n = false → arePl l = false := fun h => by simp [arePl, allTo_bad hlt' h]
    have h1 := f88 l[n].f0 1 99
    have h2 := f127 l[n].f1.f0 l[n].f1.f1
    have h4 := f88 l[n].f2 0 9
    rcases Nat.eq_zero_or_pos n with rfl | hpos
    · repeat' (first | intro _ | (simp [sxa, isPtrN, PV.pcs, elAt, setEl, inAt, elIn, setIn, isLst, cellsOf, Ex.ok, Ex.val, Opd.val, POp.dst, bin_int, binOK_int, bin_str, binOK_str, resOK, resV, RB.val, sub, putc, scB, scL, oneB, conf, Ex.val.eqP, Ex.val.eqL, negV, mxV, mnV, ← wr_eq, wr_zero, wr_one, wr_m1, bst_lst, byteC, partsOK, putAll, appV, nilV, slV, sslV, optB, optNum, and_assoc, exists_and_left, exists_eq_left', plc, allTo_succ, *]) | refine CallS_b (h1) (fun h => ?_) (fun h => ?_) | refine CallS_b (h2) (fun h => ?_) (fun h => ?_) | refine CallS_b (h4) (fun h => ?_) (fun h => ?_) | refine CondS_d (fun h => ?_) (fun h => ?_) | refine CondS_b (fun h => ?_) (fun h => ?_) | refine GrdS_d (fun h => ?_) (fun h => ?_) | refine GrdS_b (fun h => ?_) (fun h => ?_) | refine OkS_i (by omega) ?_ | refine OkS_i ⟨by omega, by assumption⟩ ?_ | refine OkS_i ⟨by omega, by assumption, by assumption⟩ ?_ | fail)
      all_goals first | (apply hbad; simp_all [plAt]; done) | simp_all [plAt]
    · have hw : wr .i64 ((n : Int) + 1) = n + 1 := wr_in (by omega) (by omega)
      have hw2 : wr .i64 ((n : Int) - 1) = ((n - 1 : Nat) : Int) := wrap_down n hpos (by omega)
      have hpos' : (0 : Int) < n := by omega
      have hm : n - 1 < l.length := by omega
      repeat' (first | intro _ | (simp [sxa, isPtrN, PV.pcs, elAt, setEl, inAt, elIn, setIn, isLst, cellsOf, Ex.ok, Ex.val, Opd.val, POp.dst, bin_int, binOK_int, bin_str, binOK_str, resOK, resV, RB.val, sub, putc, scB, scL, oneB, conf, Ex.val.eqP, Ex.val.eqL, negV, mxV, mnV, ← wr_eq, wr_zero, wr_one, wr_m1, bst_lst, byteC, partsOK, putAll, appV, nilV, slV, sslV, optB, optNum, and_assoc, exists_and_left, exists_eq_left', plc, allTo_succ, *]) | refine CallS_b (h1) (fun h => ?_) (fun h => ?_) | refine CallS_b (h2) (fun h => ?_) (fun h => ?_) | refine CallS_b (h4) (fun h => ?_) (fun h => ?_) | refine CondS_d (fun h => ?_) (fun h => ?_) | refine CondS_b (fun h => ?_) (fun h => ?_) | refine GrdS_d (fun h => ?_) (fun h => ?_) | refine GrdS_b (fun h => ?_) (fun h => ?_) | refine OkS_i (by omega) ?_ | refine OkS_i ⟨by omega, by assumption⟩ ?_ | refine OkS_i ⟨by omega, by assumption, by assumption⟩ ?_ | fail)
      all_goals first | (apply hbad; simp_all [plAt]; done) | simp_all [plAt]
      all_goals omega
  · have : n = l.length := by omega
    subst this
    repeat' (first | intro _ | (simp [sxa, isPtrN, PV.pcs, elAt, setEl, inAt, elIn, setIn, isLst, cellsOf, Ex.ok, Ex.val, Opd.val, POp.dst, bin_int, binOK_int, bin_str, binOK_str, resOK, resV, RB.val, sub, putc, scB, scL, oneB, conf, Ex.val.eqP, Ex.val.eqL, negV, mxV, mnV, ← wr_eq, wr_zero, wr_one, wr_m1, bst_lst, byteC, partsOK, putAll, appV, nilV, slV, sslV, optB, optNum, and_assoc, exists_and_left, exists_eq_left', *]) | refine CondS_d (fun h => ?_) (fun h => ?_) | refine CondS_b (fun h => ?_) (fun h => ?_) | refine GrdS_d (fun h => ?_) (fun h => ?_) | refine GrdS_b (fun h => ?_) (fun h => ?_) | refine OkS_i (by omega) ?_ | refine OkS_i ⟨by omega, by assumption⟩ ?_ | refine OkS_i ⟨by omega, by assumption, by assumption⟩ ?_ | fail)
    all_goals simp_all [arePl]
    all_goals omega
theorem f151 (l : List Plc) (nl : Bool) (hl : l.length ≤ 1048576) : Fn Tryz.prog 151 false [.lst 4 nl (l.map plc)] (.bool (arePl l)) := by
  refine Fn.by_sx hX (by kernel_rfl) c151 (by kernel_rfl) (by rfl) ?_
  simp [i151, sxa, isPtrN, PV.pcs, elAt, setEl, inAt, elIn, setIn, isLst, cellsOf, Ex.ok, Ex.val, Opd.val, POp.dst, bin_int, binOK_int, bin_str, binOK_str, resOK, resV, RB.val, sub, putc, scB, scL, oneB, conf, Ex.val.eqP, Ex.val.eqL, negV, mxV, mnV, ← wr_eq, wr_zero, wr_one, wr_m1, bst_lst, byteC, partsOK, putAll, appV, nilV, slV, sslV, optB, optNum, and_assoc, exists_and_left, exists_eq_left']
  by_cases hL : (l.length : Int) > 16
  · have hf : arePl l = false := by simp [arePl]; omega
    repeat' (first | intro _ | (simp [sxa, isPtrN, PV.pcs, elAt, setEl, inAt, elIn, setIn, isLst, cellsOf, Ex.ok, Ex.val, Opd.val, POp.dst, bin_int, binOK_int, bin_str, binOK_str, resOK, resV, RB.val, sub, putc, scB, scL, oneB, conf, Ex.val.eqP, Ex.val.eqL, negV, mxV, mnV, ← wr_eq, wr_zero, wr_one, wr_m1, bst_lst, byteC, partsOK, putAll, appV, nilV, slV, sslV, optB, optNum, and_assoc, exists_and_left, exists_eq_left', *]) | refine CondS_d (fun h => ?_) (fun h => ?_) | refine CondS_b (fun h => ?_) (fun h => ?_) | refine GrdS_d (fun h => ?_) (fun h => ?_) | refine GrdS_b (fun h => ?_) (fun h => ?_) | refine OkS_i (by omega) ?_ | refine OkS_i ⟨by omega, by assumption⟩ ?_ | refine OkS_i ⟨by omega, by assumption, by assumption⟩ ?_ | fail)
  have hL' : l.length ≤ 16 := by omega
  repeat' (first | intro _ | (simp [sxa, isPtrN, PV.pcs, elAt, setEl, inAt, elIn, setIn, isLst, cellsOf, Ex.ok, Ex.val, Opd.val, POp.dst, bin_int, binOK_int, bin_str, binOK_str, resOK, resV, RB.val, sub, putc, scB, scL, oneB, conf, Ex.val.eqP, Ex.val.eqL, negV, mxV, mnV, ← wr_eq, wr_zero, wr_one, wr_m1, bst_lst, byteC, partsOK, putAll, appV, nilV, slV, sslV, optB, optNum, and_assoc, exists_and_left, exists_eq_left', *]) | refine CondS_d (fun h => ?_) (fun h => ?_) | refine CondS_b (fun h => ?_) (fun h => ?_) | refine GrdS_d (fun h => ?_) (fun h => ?_) | refine GrdS_b (fun h => ?_) (fun h => ?_) | refine OkS_i (by omega) ?_ | refine OkS_i ⟨by omega, by assumption⟩ ?_ | refine OkS_i ⟨by omega, by assumption, by assumption⟩ ?_ | fail)
  refine sx_count l.length (fun n V => V 0 = .lst 4 nl (l.map plc) ∧ V 8 = .lst 4 nl (l.map plc) ∧ V 9 = i l.length ∧ V 10 = i n ∧ allTo (plAt l) n = true) 0 (by omega) (by simp [sxa, isPtrN, PV.pcs, elAt, setEl, inAt, elIn, setIn, isLst, cellsOf, Ex.ok, Ex.val, Opd.val, POp.dst, bin_int, binOK_int, bin_str, binOK_str, resOK, resV, RB.val, sub, putc, scB, scL, oneB, conf, Ex.val.eqP, Ex.val.eqL, negV, mxV, mnV, ← wr_eq, wr_zero, wr_one, wr_m1, bst_lst, byteC, partsOK, putAll, appV, nilV, slV, sslV, optB, optNum, and_assoc, exists_and_left, exists_eq_left', allTo_zero]) ?_
  rintro n V hn ⟨h0, h8, h9, h10, ha⟩
  simp [sxa, isPtrN, PV.pcs, elAt, setEl, inAt, elIn, setIn, isLst, cellsOf, Ex.ok, Ex.val, Opd.val, POp.dst, bin_int, binOK_int, bin_str, binOK_str, resOK, resV, RB.val, sub, putc, scB, scL, oneB, conf, Ex.val.eqP, Ex.val.eqL, negV, mxV, mnV, ← wr_eq, wr_zero, wr_one, wr_m1, bst_lst, byteC, partsOK, putAll, appV, nilV, slV, sslV, optB, optNum, and_assoc, exists_and_left, exists_eq_left', h9, h10]
  refine CondS_d (fun hlt => ?_) (fun hge => ?_)
  · have hlt' : n < l.length := by omega
    have hbad : plAt l n = false → arePl l = false := fun h => by simp [arePl, allTo_bad hlt' h]
    have h1 := f90 l[n].f0 1 99
    have h2 := f103 l[n].f1.f0 l[n].f1.f1
    have h4 := f90 l[n].f2 0 9
    rcases Nat.eq_zero_or_pos n with rfl | hpos
    · repeat' (first | intro _ | (simp [sxa, isPtrN, PV.pcs, elAt, setEl, inAt, elIn, setIn, isLst, cellsOf, Ex.ok, Ex.val, Opd.val, POp.dst, bin_int, binOK_int, bin_str, binOK_str, resOK, resV, RB.val, sub, putc, scB, scL, oneB, conf, Ex.val.eqP, Ex.val.eqL, negV, mxV, mnV, ← wr_eq, wr_zero, wr_one, wr_m1, bst_lst, byteC, partsOK, putAll, appV, nilV, slV, sslV, optB, optNum, and_assoc, exists_and_left, exists_eq_left', plc, allTo_succ, *]) | refine CallS_b (h1) (fun h => ?_) (fun h => ?_) | refine CallS_b (h2) (fun h => ?_) (fun h => ?_) | refine CallS_b (h4) (fun h => ?_) (fun h => ?_) | refine CondS_d (fun h => ?_) (fun h => ?_) | refine CondS_b (fun h => ?_) (fun h => ?_) | refine GrdS_d (fun h => ?_) (fun h => ?_) | refine GrdS_b (fun h => ?_) (fun h => ?_) | refine OkS_i (by omega) ?_ | refine OkS_i ⟨by omega, by assumption⟩ ?_ | refine OkS_i ⟨by omega, by assumption, by assumption⟩ ?_ | fail)
      all_goals first | (apply hbad; simp_all [plAt]; done) | simp_all [plAt]
    · have hw : wr .i64 ((n : Int) + 1) = n + 1 := wr_in (by omega) (by omega)
      have hw2 : wr .i64 ((n : Int) - 1) = ((n - 1 : Nat) : Int) := wrap_down n hpos (by omega)
      have hpos' : (0 : Int) < n := by omega
      have hm : n - 1 < l.length := by omega
      repeat' (first | intro _ | (simp [sxa, isPtrN, PV.pcs, elAt, setEl, inAt, elIn, setIn, isLst, cellsOf, Ex.ok, Ex.val, Opd.val, POp.dst, bin_int, binOK_int, bin_str, binOK_str, resOK, resV, RB.val, sub, putc, scB, scL, oneB, conf, Ex.val.eqP, Ex.val.eqL, negV, mxV, mnV, ← wr_eq, wr_zero, wr_one, wr_m1, bst_lst, byteC, partsOK, putAll, appV, nilV, slV, sslV, optB, optNum, and_assoc, exists_and_left, exists_eq_left', plc, allTo_succ, *]) | refine CallS_b (h1) (fun h => ?_) (fun h => ?_) | refine CallS_b (h2) (fun h => ?_) (fun h => ?_) | refine CallS_b (h4) (fun h => ?_) (fun h => ?_) | refine CondS_d (fun h => ?_) (fun h => ?_) | refine CondS_b (fun h => ?_) (fun h => ?_) | refine GrdS_d (fun h => ?_) (fun h => ?_) | refine GrdS_b (fun h => ?_) (fun h => ?_) | refine OkS_i (by omega) ?_ | refine OkS_i ⟨by omega, by assumption⟩ ?_ | refine OkS_i ⟨by omega, by assumption, by assumption⟩ ?_ | fail)
      all_goals first | (apply hbad; simp_all [plAt]; done) | simp_all [plAt]
      all_goals omega
  · have : n = l.length := by omega
    subst this
    repeat' (first | intro _ | (simp [sxa, isPtrN, PV.pcs, elAt, setEl, inAt, elIn, setIn, isLst, cellsOf, Ex.ok, Ex.val, Opd.val, POp.dst, bin_int, binOK_int, bin_str, binOK_str, resOK, resV, RB.val, sub, putc, scB, scL, oneB, conf, Ex.val.eqP, Ex.val.eqL, negV, mxV, mnV, ← wr_eq, wr_zero, wr_one, wr_m1, bst_lst, byteC, partsOK, putAll, appV, nilV, slV, sslV, optB, optNum, and_assoc, exists_and_left, exists_eq_left', *]) | refine CondS_d (fun h => ?_) (fun h => ?_) | refine CondS_b (fun h => ?_) (fun h => ?_) | refine GrdS_d (fun h => ?_) (fun h => ?_) | refine GrdS_b (fun h => ?_) (fun h => ?_) | refine OkS_i (by omega) ?_ | refine OkS_i ⟨by omega, by assumption⟩ ?_ | refine OkS_i ⟨by omega, by assumption, by assumption⟩ ?_ | fail)
    all_goals simp_all [arePl]
/-! ascending numbers -/
def fstGe : List Int → Int → Nat
  | [], _ => 0
  | x :: r, n => if x < n then fstGe r n + 1 else 0
theorem fstGe_le : ∀ (l : List Int) (n : Int), fstGe l n ≤ l.length
  | [], _ => Nat.le_refl _
  | x :: r, n => by have := fstGe_le r n; unfold fstGe; split <;> simp <;> omega
theorem fstGe_lt : ∀ {l : List Int} {n : Int} {j : Nat} (hj : j < fstGe l n) (h : j < l.length), l[j] < n
  | [], _, _, _, h => by simp at h
  | x :: r, n, 0, hj, h => by
    unfold fstGe at hj
    split at hj
    · assumption
    · omega
  | x :: r, n, j + 1, hj, h => by
    unfold fstGe at hj
    split at hj
    · exact fstGe_lt (l := r) (j := j) (by omega) (by simpa using h)
    · omega
theorem fstGe_stop : ∀ {l : List Int} {n : Int} (h : fstGe l n < l.length), ¬ l[fstGe l n] < n
  | [], _, h => by simp at h
  | x :: r, n, h => by
    by_cases hx : x < n
    · have e : fstGe (x :: r) n = fstGe r n + 1 := by simp [fstGe, hx]
      simp only [e, List.getElem_cons_succ]
      exact fstGe_stop (l := r) (by rw [e] at h; simpa using h)
    · have e : fstGe (x :: r) n = 0 := by simp [fstGe, hx]
      simp only [e, List.getElem_cons_zero]
      exact hx
theorem putI_eq : ∀ (l : List Int) (n : Int), putI l n = if l[fstGe l n]? = some n then l else l.take (fstGe l n) ++ n :: l.drop (fstGe l n)
  | [], n => by simp [putI, fstGe]
  | x :: r, n => by
    have ih := putI_eq r n
    by_cases hx : x < n
    · have e : fstGe (x :: r) n = fstGe r n + 1 := by simp [fstGe, hx]
      rw [e, List.getElem?_cons_succ]
      unfold putI
      rw [if_pos hx, ih]
      split <;> simp
    · have e : fstGe (x :: r) n = 0 := by simp [fstGe, hx]
      rw [e]
      unfold putI
      rw [if_neg hx]
      by_cases h2 : x = n
      · simp [h2]
      · simp [h2]
theorem scI (l : List Int) : ∀ cs ∈ l.map (fun m => [i m]), scL cs = true := by
  intro cs h
  obtain ⟨m, _, rfl⟩ := List.mem_map.1 h
  rfl
theorem sc_take {L : List (List PV)} (h : ∀ cs ∈ L, scL cs = true) (n : Nat) : ∀ cs ∈ L.take n, scL cs = true := fun cs hc => h cs (List.mem_of_mem_take hc)
theorem sc_drop {L : List (List PV)} (h : ∀ cs ∈ L, scL cs = true) (n : Nat) : ∀ cs ∈ L.drop n, scL cs = true := fun cs hc => h cs (List.mem_of_mem_drop hc)
theorem f120 (l : List Int) (nl : Bool) (n : Int) (hl : l.length ≤ 1048576) : Fn Tryz.prog 120 true [.lst 1 nl (l.map fun m => [i m]), i n] (.lst 1 false ((putI l n).map fun m => [i m])) := by
  have hk := fstGe_le l n
  have hlt := fun j h1 h2 => fstGe_lt (l := l) (n := n) (j := j) h1 h2
  have hst := fstGe_stop (l := l) (n := n)
  have he := putI_eq l n
  obtain ⟨K, hK⟩ : ∃ K, fstGe l n = K := ⟨_, rfl⟩
  simp only [hK] at hk hlt hst he
  refine Fn.by_sx hX (by kernel_rfl) c120 (by kernel_rfl) (by rfl) ?_
  simp [i120, sxa, isPtrN, PV.pcs, elAt, setEl, inAt, elIn, setIn, isLst, cellsOf, Ex.ok, Ex.val, Opd.val, POp.dst, bin_int, binOK_int, bin_str, binOK_str, resOK, resV, RB.val, sub, putc, scB, scL, oneB, conf, Ex.val.eqP, Ex.val.eqL, negV, mxV, mnV, ← wr_eq, wr_zero, wr_one, wr_m1, bst_lst, byteC, partsOK, putAll, appV, nilV, slV, sslV, optB, optNum, and_assoc, exists_and_left, exists_eq_left']
  refine sx_count K (fun m V => V 0 = .lst 1 nl (l.map fun m => [i m]) ∧ V 1 = i n ∧ V 5 = i m) 0 (by omega) (by simp [sxa, isPtrN, PV.pcs, elAt, setEl, inAt, elIn, setIn, isLst, cellsOf, Ex.ok, Ex.val, Opd.val, POp.dst, bin_int, binOK_int, bin_str, binOK_str, resOK, resV, RB.val, sub, putc, scB, scL, oneB, conf, Ex.val.eqP, Ex.val.eqL, negV, mxV, mnV, ← wr_eq, wr_zero, wr_one, wr_m1, bst_lst, byteC, partsOK, putAll, appV, nilV, slV, sslV, optB, optNum, and_assoc, exists_and_left, exists_eq_left']) ?_
  rintro m V hm ⟨h0, h1, h5⟩
  have hw : wr .i64 ((m : Int) + 1) = m + 1 := wr_in (by omega) (by omega)
  rcases Nat.lt_or_ge m K with h | h
  · have hml : m < l.length := by omega
    have hI : (m : Int) < l.length := by omega
    have hx := hlt m h hml
    clear hlt hst he
    repeat' (first | intro _ | (simp [sxa, isPtrN, PV.pcs, elAt, setEl, inAt, elIn, setIn, isLst, cellsOf, Ex.ok, Ex.val, Opd.val, POp.dst, bin_int, binOK_int, bin_str, binOK_str, resOK, resV, RB.val, sub, putc, scB, scL, oneB, conf, Ex.val.eqP, Ex.val.eqL, negV, mxV, mnV, ← wr_eq, wr_zero, wr_one, wr_m1, bst_lst, byteC, partsOK, putAll, appV, nilV, slV, sslV, optB, optNum, and_assoc, exists_and_left, exists_eq_left', *]) | refine CondS_d (fun h => ?_) (fun h => ?_) | refine CondS_b (fun h => ?_) (fun h => ?_) | refine GrdS_d (fun h => ?_) (fun h => ?_) | refine GrdS_b (fun h => ?_) (fun h => ?_) | refine OkS_i (by omega) ?_ | refine OkS_i ⟨by omega, by assumption⟩ ?_ | refine OkS_i ⟨by omega, by assumption, by assumption⟩ ?_ | fail)
  · obtain rfl : m = K := by omega
    clear hlt
    have sc0 := scI l
    have sc1 := sc_take sc0 m
    have sc2 := sc_drop sc0 m
    have sc3 : ∀ cs, cs ∈ List.take m (l.map fun m => [i m]) ∨ cs = [i n] → scL cs = true := by
      rintro cs (h | rfl)
      · exact sc1 cs h
      · rfl
    have sc4 : ∀ cs, (∃ a, a ∈ l ∧ [i a] = cs) ∨ cs = [i n] → scL cs = true := by
      rintro cs (⟨a, _, rfl⟩ | rfl) <;> rfl
    have hT1 : (l.map fun m => [i m]).take l.length = l.map fun m => [i m] := List.take_of_length_le (by simp)
    have hT2 : List.take (l.length - m) (List.drop m (l.map fun m => [i m])) = List.drop m (l.map fun m => [i m]) := List.take_of_length_le (by simp)
    by_cases hml : m < l.length
    · have hI : (m : Int) < l.length := by omega
      have hx := hst hml
      clear hst
      by_cases h2 : l[m] = n
      · rw [if_pos (by simp [hml, h2])] at he
        rw [he]
        clear he
        repeat' (first | intro _ | (simp [sxa, isPtrN, PV.pcs, elAt, setEl, inAt, elIn, setIn, isLst, cellsOf, Ex.ok, Ex.val, Opd.val, POp.dst, bin_int, binOK_int, bin_str, binOK_str, resOK, resV, RB.val, sub, putc, scB, scL, oneB, conf, Ex.val.eqP, Ex.val.eqL, negV, mxV, mnV, ← wr_eq, wr_zero, wr_one, wr_m1, bst_lst, byteC, partsOK, putAll, appV, nilV, slV, sslV, optB, optNum, and_assoc, exists_and_left, exists_eq_left', *]) | refine CondS_d (fun h => ?_) (fun h => ?_) | refine CondS_b (fun h => ?_) (fun h => ?_) | refine GrdS_d (fun h => ?_) (fun h => ?_) | refine GrdS_b (fun h => ?_) (fun h => ?_) | refine OkS_i (by omega) ?_ | refine OkS_i ⟨by omega, by assumption⟩ ?_ | refine OkS_i ⟨by omega, by assumption, by assumption⟩ ?_ | fail)
      · rw [if_neg (by simp [hml, h2])] at he
        rw [he]
        clear he
        repeat' (first | intro _ | (simp [sxa, isPtrN, PV.pcs, elAt, setEl, inAt, elIn, setIn, isLst, cellsOf, Ex.ok, Ex.val, Opd.val, POp.dst, bin_int, binOK_int, bin_str, binOK_str, resOK, resV, RB.val, sub, putc, scB, scL, oneB, conf, Ex.val.eqP, Ex.val.eqL, negV, mxV, mnV, ← wr_eq, wr_zero, wr_one, wr_m1, bst_lst, byteC, partsOK, putAll, appV, nilV, slV, sslV, optB, optNum, and_assoc, exists_and_left, exists_eq_left', *]) | refine CondS_d (fun h => ?_) (fun h => ?_) | refine CondS_b (fun h => ?_) (fun h => ?_) | refine GrdS_d (fun h => ?_) (fun h => ?_) | refine GrdS_b (fun h => ?_) (fun h => ?_) | refine OkS_i (by omega) ?_ | refine OkS_i ⟨by omega, by assumption⟩ ?_ | refine OkS_i ⟨by omega, by assumption, by assumption⟩ ?_ | fail)
        all_goals simp_all
    · have hI : ¬ (m : Int) < l.length := by omega
      have hme : m = l.length := by omega
      clear hst
      rw [if_neg (by simp [hme])] at he
      rw [he]
      clear he
      subst hme
      repeat' (first | intro _ | (simp [sxa, isPtrN, PV.pcs, elAt, setEl, inAt, elIn, setIn, isLst, cellsOf, Ex.ok, Ex.val, Opd.val, POp.dst, bin_int, binOK_int, bin_str, binOK_str, resOK, resV, RB.val, sub, putc, scB, scL, oneB, conf, Ex.val.eqP, Ex.val.eqL, negV, mxV, mnV, ← wr_eq, wr_zero, wr_one, wr_m1, bst_lst, byteC, partsOK, putAll, appV, nilV, slV, sslV, optB, optNum, and_assoc, exists_and_left, exists_eq_left', *]) | refine CondS_d (fun h => ?_) (fun h => ?_) | refine CondS_b (fun h => ?_) (fun h => ?_) | refine GrdS_d (fun h => ?_) (fun h => ?_) | refine GrdS_b (fun h => ?_) (fun h => ?_) | refine OkS_i (by omega) ?_ | refine OkS_i ⟨by omega, by assumption⟩ ?_ | refine OkS_i ⟨by omega, by assumption, by assumption⟩ ?_ | fail)
      all_goals simp_all
theorem f50 (l : List Int) (n1 : Bool) (x : Int) (hl : l.length ≤ 1048576) : Fn Tryz.prog 50 false [.lst 1 n1 (l.map fun m => [i m]), i x] (.bool (decide (x ∈ l))) := by
  have hin : ∀ n, (h : n < l.length) → l[n] = x → x ∈ l := fun n h e => e ▸ List.getElem_mem h
  have hout : (∀ n, (h : n < l.length) → ¬ l[n] = x) → ¬ x ∈ l := fun h hm => by
    obtain ⟨n, hn, e⟩ := List.getElem_of_mem hm
    exact h n hn e
  refine Fn.by_sx hX (by kernel_rfl) c50 (by kernel_rfl) (by rfl) ?_
  simp [i50, sxa, isPtrN, PV.pcs, elAt, setEl, inAt, elIn, setIn, isLst, cellsOf, Ex.ok, Ex.val, Opd.val, POp.dst, bin_int, binOK_int, bin_str, binOK_str, resOK, resV, RB.val, sub, putc, scB, scL, oneB, conf, Ex.val.eqP, Ex.val.eqL, negV, mxV, mnV, ← wr_eq, wr_zero, wr_one, wr_m1, bst_lst, byteC, partsOK, putAll, appV, nilV, slV, sslV, optB, optNum, and_assoc, exists_and_left, exists_eq_left']
  refine sx_count l.length (fun n V => V 0 = .lst 1 n1 (l.map fun m => [i m]) ∧ V 1 = i x ∧ V 5 = i n ∧ allTo (fun j => !decide (l.getD j 0 = x)) n = true) 0 (by omega) (by simp [sxa, isPtrN, PV.pcs, elAt, setEl, inAt, elIn, setIn, isLst, cellsOf, Ex.ok, Ex.val, Opd.val, POp.dst, bin_int, binOK_int, bin_str, binOK_str, resOK, resV, RB.val, sub, putc, scB, scL, oneB, conf, Ex.val.eqP, Ex.val.eqL, negV, mxV, mnV, ← wr_eq, wr_zero, wr_one, wr_m1, bst_lst, byteC, partsOK, putAll, appV, nilV, slV, sslV, optB, optNum, and_assoc, exists_and_left, exists_eq_left', allTo_zero]) ?_
  rintro n V hn ⟨g0, g1, g5, ha⟩
  have hw : wr .i64 ((n : Int) + 1) = n + 1 := wr_in (by omega) (by omega)
  rcases Nat.lt_or_ge n l.length with hlt' | hge
  · have hI : (n : Int) < l.length := by omega
    have hs := allTo_succ (ok := fun j => !decide (l.getD j 0 = x)) (n := n)
    rw [ha] at hs
    by_cases h : l[n] = x
    · have hm := hin n hlt' h
      clear ha hs hin hout
      repeat' (first | intro _ | (simp [sxa, isPtrN, PV.pcs, elAt, setEl, inAt, elIn, setIn, isLst, cellsOf, Ex.ok, Ex.val, Opd.val, POp.dst, bin_int, binOK_int, bin_str, binOK_str, resOK, resV, RB.val, sub, putc, scB, scL, oneB, conf, Ex.val.eqP, Ex.val.eqL, negV, mxV, mnV, ← wr_eq, wr_zero, wr_one, wr_m1, bst_lst, byteC, partsOK, putAll, appV, nilV, slV, sslV, optB, optNum, and_assoc, exists_and_left, exists_eq_left', *]) | refine CondS_d (fun h => ?_) (fun h => ?_) | refine CondS_b (fun h => ?_) (fun h => ?_) | refine GrdS_d (fun h => ?_) (fun h => ?_) | refine GrdS_b (fun h => ?_) (fun h => ?_) | refine OkS_i (by omega) ?_ | refine OkS_i ⟨by omega, by assumption⟩ ?_ | refine OkS_i ⟨by omega, by assumption, by assumption⟩ ?_ | fail)
    · simp [hlt', h] at hs
      clear hin hout ha
      repeat' (first | intro _ | (simp [sxa, isPtrN, PV.pcs, elAt, setEl, inAt, elIn, setIn, isLst, cellsOf, Ex.ok, Ex.val, Opd.val, POp.dst, bin_int, binOK_int, bin_str, binOK_str, resOK, resV, RB.val, sub, putc, scB, scL, oneB, conf, Ex.val.eqP, Ex.val.eqL, negV, mxV, mnV, ← wr_eq, wr_zero, wr_one, wr_m1, bst_lst, byteC, partsOK, putAll, appV, nilV, slV, sslV, optB, optNum, and_assoc, exists_and_left, exists_eq_left', *]) | refine CondS_d (fun h => ?_) (fun h => ?_) | refine CondS_b (fun h => ?_) (fun h => ?_) | refine GrdS_d (fun h => ?_) (fun h => ?_) | refine GrdS_b (fun h => ?_) (fun h => ?_) | refine OkS_i (by omega) ?_ | refine OkS_i ⟨by omega, by assumption⟩ ?_ | refine OkS_i ⟨by omega, by assumption, by assumption⟩ ?_ | fail)
      all_goals simp_all
  · have : n = l.length := by omega
    subst this
    have hm : ¬ x ∈ l := hout fun n h e => by
      have := allTo_at ha h
      simp [h, e] at this
    clear ha hin hout
    repeat' (first | intro _ | (simp [sxa, isPtrN, PV.pcs, elAt, setEl, inAt, elIn, setIn, isLst, cellsOf, Ex.ok, Ex.val, Opd.val, POp.dst, bin_int, binOK_int, bin_str, binOK_str, resOK, resV, RB.val, sub, putc, scB, scL, oneB, conf, Ex.val.eqP, Ex.val.eqL, negV, mxV, mnV, ← wr_eq, wr_zero, wr_one, wr_m1, bst_lst, byteC, partsOK, putAll, appV, nilV, slV, sslV, optB, optNum, and_assoc, exists_and_left, exists_eq_left', *]) | refine CondS_d (fun h => ?_) (fun h => ?_) | refine CondS_b (fun h => ?_) (fun h => ?_) | refine GrdS_d (fun h => ?_) (fun h => ?_) | refine GrdS_b (fun h => ?_) (fun h => ?_) | refine OkS_i (by omega) ?_ | refine OkS_i ⟨by omega, by assumption⟩ ?_ | refine OkS_i ⟨by omega, by assumption, by assumption⟩ ?_ | fail)
end Go.Eng
namespace Go.Eng
open Go Go.Lib
set_option linter.unusedSimpArgs false
set_option linter.unusedVariables false

/-! what slices.Compact leaves of a sorted list; how many a list holds -/
section
variable {α : Type} [Inhabited α] [DecidableEq α]
end
end Go.Eng
namespace Go.Eng
open Go Go.Proofs Go.Shelf
set_option linter.unusedSimpArgs false
set_option linter.unusedVariables false
set_option maxRecDepth 20000
set_option maxHeartbeats 1000000

/-! slices.Sort, slices.Compact at numbers. WRITES -/
def rhoSortI : Ren := ⟨fun n => if n = 5 then 84 else if n = 7 then 123 else if n = 8 then 124 else if n = 10 then 154 else if n = 11 then 155 else if n = 12 then 156 else if n = 13 then 157 else if n = 14 then 158 else if n = 15 then 159 else if n = 16 then 160 else if n = 17 then 161 else if n = 18 then 162 else if n = 19 then 163 else if n = 20 then 164 else if n = 30 then 189 else if n = 31 then 190 else if n = 32 then 191 else if n = 33 then 192 else if n = 34 then 193 else if n = 35 then 194 else if n = 40 then 211 else 0, fun n => if n = 0 then 0 else if n = 3 then 3 else if n = 4 then 4 else if n = 5 then 5 else if n = 9 then 9 else if n = 22 then 26 else if n = 23 then 26 else if n = 25 then 3 else if n = 32 then 146 else if n = 35 then 167 else if n = 36 then 168 else if n = 41 then 173 else if n = 44 then 176 else if n = 46 then 178 else if n = 53 then 189 else if n = 57 then 193 else if n = 63 then 201 else if n = 64 then 202 else 0, fun n => n⟩
theorem LSortI : SlLaysM.n5 Tryz.prog rhoSortI where
  mixed := by kernel_rfl
  f5 := ⟨fnm Tryz.prog 84, by kernel_rfl, by kernel_rfl⟩
  f7 := ⟨fnm Tryz.prog 123, by kernel_rfl, by kernel_rfl⟩
  f8 := by kernel_rfl
  f10 := ⟨fnm Tryz.prog 154, by kernel_rfl, by kernel_rfl⟩
  f11 := ⟨fnm Tryz.prog 155, by kernel_rfl, by kernel_rfl⟩
  f12 := ⟨fnm Tryz.prog 156, by kernel_rfl, by kernel_rfl⟩
  f13 := ⟨fnm Tryz.prog 157, by kernel_rfl, by kernel_rfl⟩
  f14 := ⟨fnm Tryz.prog 158, by kernel_rfl, by kernel_rfl⟩
  f15 := ⟨fnm Tryz.prog 159, by kernel_rfl, by kernel_rfl⟩
  f16 := ⟨fnm Tryz.prog 160, by kernel_rfl, by kernel_rfl⟩
  f17 := ⟨fnm Tryz.prog 161, by kernel_rfl, by kernel_rfl⟩
  f18 := ⟨fnm Tryz.prog 162, by kernel_rfl, by kernel_rfl⟩
  f19 := by kernel_rfl
  f20 := by kernel_rfl
  f30 := ⟨fnm Tryz.prog 189, by kernel_rfl, by kernel_rfl⟩
  f31 := by kernel_rfl
  f32 := by kernel_rfl
  f33 := ⟨fnm Tryz.prog 192, by kernel_rfl, by kernel_rfl⟩
  f34 := ⟨fnm Tryz.prog 193, by kernel_rfl, by kernel_rfl⟩
  f35 := ⟨fnm Tryz.prog 194, by kernel_rfl, by kernel_rfl⟩
  f40 := ⟨fnm Tryz.prog 211, by kernel_rfl, by kernel_rfl⟩
  t0 := by kernel_rfl
  a0 := fun _ => by kernel_rfl
  z0 := fun _ => by kernel_rfl
  v0 := fun _ => by kernel_rfl
  t3 := by kernel_rfl
  a3 := fun _ => by kernel_rfl
  z3 := fun _ => by kernel_rfl
  v3 := fun _ => by kernel_rfl
  t4 := by kernel_rfl
  a4 := fun _ => by kernel_rfl
  z4 := fun _ => by kernel_rfl
  v4 := fun _ => by kernel_rfl
  t5 := by kernel_rfl
  a5 := fun _ => by kernel_rfl
  z5 := fun _ => by kernel_rfl
  v5 := fun _ => by kernel_rfl
  t9 := by kernel_rfl
  a9 := fun _ => by kernel_rfl
  z9 := fun _ => by kernel_rfl
  v9 := fun _ => by kernel_rfl
  t22 := by kernel_rfl
  a22 := fun _ => by kernel_rfl
  z22 := fun _ => by kernel_rfl
  v22 := fun _ => by kernel_rfl
  t23 := by kernel_rfl
  a23 := fun _ => by kernel_rfl
  z23 := fun _ => by kernel_rfl
  v23 := fun _ => by kernel_rfl
  t25 := by kernel_rfl
  a25 := fun _ => by kernel_rfl
  z25 := fun _ => by kernel_rfl
  v25 := fun _ => by kernel_rfl
  t32 := by kernel_rfl
  a32 := fun _ => by kernel_rfl
  z32 := fun _ => by kernel_rfl
  v32 := fun _ => by kernel_rfl
  t35 := by kernel_rfl
  a35 := fun _ => by kernel_rfl
  z35 := fun _ => by kernel_rfl
  v35 := fun _ => by kernel_rfl
  t36 := by kernel_rfl
  a36 := fun _ => by kernel_rfl
  z36 := fun _ => by kernel_rfl
  v36 := fun _ => by kernel_rfl
  t41 := by kernel_rfl
  a41 := fun _ => by kernel_rfl
  z41 := fun _ => by kernel_rfl
  v41 := fun _ => by kernel_rfl
  t44 := by kernel_rfl
  a44 := fun _ => by kernel_rfl
  z44 := fun _ => by kernel_rfl
  v44 := fun _ => by kernel_rfl
  t46 := by kernel_rfl
  a46 := fun _ => by kernel_rfl
  z46 := fun _ => by kernel_rfl
  v46 := fun _ => by kernel_rfl
  t53 := by kernel_rfl
  a53 := fun _ => by kernel_rfl
  z53 := fun _ => by kernel_rfl
  v53 := fun _ => by kernel_rfl
  t57 := by kernel_rfl
  a57 := fun _ => by kernel_rfl
  z57 := fun _ => by kernel_rfl
  v57 := fun _ => by kernel_rfl
  t63 := by kernel_rfl
  a63 := fun _ => by kernel_rfl
  z63 := fun _ => by kernel_rfl
  v63 := fun _ => by kernel_rfl
  t64 := by kernel_rfl
  a64 := fun _ => by kernel_rfl
  z64 := fun _ => by kernel_rfl
  v64 := fun _ => by kernel_rfl
theorem f84 (nl : Bool) (zs : List Int) (hsz : zs.length < 4611686018427387904) :
    FnM Tryz.prog 84 [.lst 1 nl (zs.map fun z => [i z])] (.tup []) (.lst 1 nl ((zs.mergeSort fun x y => decide (x ≤ y)).map fun z => [i z])) := sortInt_M LSortI (by kernel_rfl) nl zs hsz
end Go.Eng
namespace Go.Eng
open Go Go.Proofs Geo
set_option linter.unusedSimpArgs false
set_option linter.unusedVariables false
set_option maxRecDepth 20000
set_option maxHeartbeats 1000000

/-! places that are kept: walks. WRITES -/
def kpAt (far : Int) (K : List Plc) (x : Plc) (j : Nat) : Bool := decide (far * far ≤ farSq x.f1 (K.getD j plcD).f1)
theorem kpOK_all (far : Int) (K : List Plc) (x : Plc) : kpOK far K x = allTo (kpAt far K x) K.length := by
  unfold kpOK
  rw [Bool.eq_iff_iff]
  unfold allTo
  rw [List.all_eq_true, List.all_eq_true]
  constructor
  · intro h j hj
    have hj := List.mem_range.1 hj
    have := h K[j] (List.getElem_mem hj)
    unfold kpAt
    rw [show K.getD j plcD = K[j] by simp [hj]]
    exact this
  · intro h y hy
    obtain ⟨j, hj, rfl⟩ := List.getElem_of_mem hy
    have := h j (List.mem_range.2 hj)
    unfold kpAt at this
    rw [show K.getD j plcD = K[j] by simp [hj]] at this
    exact this
theorem l119_2 {l O : List Plc} {n : Nat} {V : Env} (hn : n < l.length) (hl : l.length ≤ 16) (hO : O.length ≤ 16) (h0 : V 0 = .lst 4 false (l.map plc) ∨ V 0 = .lst 4 true (l.map plc)) (h5 : V 5 = .lst 4 false (O.map plc)) (h6 : V 6 = i n) (h7 : V 7 = i O.length) :
    sx (FC Tryz.prog) (.loop (.seq (.seq (.ops [s 21 (.mv (t 7)),
  s 22 (.bin .gtr (t 21) (c (i 0))),
  s 23 (.mv (t 22)),
  sg [(23, true)] 24 (.mv (t 0)),
  sg [(23, true)] 25 (.mv (t 6)),
  sg [(23, true)] 26 (.idx (t 24) (t 25) 4),
  sg [(23, true)] 27 (.ldE 24 26 0 4 true true 4),
  sg [(23, true)] 28 (.mv (t 5)),
  sg [(23, true)] 29 (.mv (t 7)),
  sg [(23, true)] 30 (.bin .sub (t 29) (c (i 1))),
  sg [(23, true)] 31 (.idx (t 28) (t 30) 4),
  sg [(23, true)] 32 (.ldE 28 31 0 4 true true 4),
  kg [(23, true)] 33 149 [(t 27), (t 32)] .sc,
  s 34 (.pick (t 23) (t 33) (c (.bool false)))])
 (.cond (t 34) .skip (.exit 2)))
 (.block 3 (.ops [s 35 (.mv (t 7)),
  s 36 (.bin .sub (t 35) (c (i 1))),
  s 7 (.mv (t 36))])))) (fun y V' => y = .exit 2 ∧ V' 0 = V 0 ∧ V' 1 = V 1 ∧ V' 5 = .lst 4 false (O.map plc) ∧ V' 6 = i n ∧ V' 7 = i (pnK l[n] O O.length : Nat)) V := by
  refine sx_down (fun m V' => m ≤ O.length ∧ V' 0 = V 0 ∧ V' 1 = V 1 ∧ V' 5 = .lst 4 false (O.map plc) ∧ V' 6 = i n ∧ V' 7 = i m ∧ pnK l[n] O m = pnK l[n] O O.length) O.length ⟨Nat.le_refl _, rfl, rfl, h5, h6, h7, rfl⟩ ?_
  rintro m V' ⟨hm, g0, g1, g5, g6, g7, hk⟩
  clear h5 h6 h7
  obtain ⟨v1, hv1⟩ : ∃ v1, V 1 = v1 := ⟨_, rfl⟩
  rw [hv1] at g1 ⊢
  obtain ⟨nb, hnb⟩ : ∃ nb, V 0 = .lst 4 nb (l.map plc) := by rcases h0 with h | h <;> exact ⟨_, h⟩
  clear h0
  rw [hnb] at g0 ⊢
  obtain ⟨K, hK⟩ : ∃ K, pnK l[n] O O.length = K := ⟨_, rfl⟩
  rw [hK] at hk ⊢
  clear hK
  have hnI : (n : Int) < l.length := by omega
  cases m with
  | zero =>
    have hk0 : K = 0 := by rw [← hk]; rfl
    clear hk
    repeat' (first | intro _ | (simp [sxa, isPtrN, PV.pcs, elAt, setEl, inAt, elIn, setIn, isLst, cellsOf, Ex.ok, Ex.val, Opd.val, POp.dst, bin_int, binOK_int, bin_str, binOK_str, resOK, resV, RB.val, sub, putc, scB, scL, oneB, conf, Ex.val.eqP, Ex.val.eqL, negV, mxV, mnV, ← wr_eq, wr_zero, wr_one, wr_m1, bst_lst, byteC, partsOK, putAll, appV, nilV, slV, sslV, optB, optNum, and_assoc, exists_and_left, exists_eq_left', *]) | refine CondS_d (fun h => ?_) (fun h => ?_) | refine CondS_b (fun h => ?_) (fun h => ?_) | refine GrdS_d (fun h => ?_) (fun h => ?_) | refine GrdS_b (fun h => ?_) (fun h => ?_) | refine OkS_i (by omega) ?_ | refine OkS_i ⟨by omega, by assumption⟩ ?_ | refine OkS_i ⟨by omega, by assumption, by assumption⟩ ?_ | fail)
  | succ m =>
    have hlt : m < O.length := by omega
    have hltI : (m : Int) < O.length := by omega
    have hgd : O.getD m plcD = O[m] := by simp [hlt]
    have c := f149 l[n] O[m]
    have hw : wr .i64 (((m + 1 : Nat) : Int) - 1) = m := by rw [wr_in (by omega) (by omega)]; omega
    have hpos : (0 : Int) < ((m + 1 : Nat) : Int) := by omega
    rw [pnK, hgd] at hk
    obtain ⟨b, hb⟩ : ∃ b, abv l[n] O[m] = b := ⟨_, rfl⟩
    rw [hb] at c hk
    unfold plc at c
    obtain ⟨N, hN⟩ : ∃ N : Int, ((m + 1 : Nat) : Int) = N := ⟨_, rfl⟩
    rw [hN] at g7 hw hpos
    clear hb hgd
    cases b
    · simp at hk
      subst hk
      repeat' (first | intro _ | (simp [sxa, isPtrN, PV.pcs, elAt, setEl, inAt, elIn, setIn, isLst, cellsOf, Ex.ok, Ex.val, Opd.val, POp.dst, bin_int, binOK_int, bin_str, binOK_str, resOK, resV, RB.val, sub, putc, scB, scL, oneB, conf, Ex.val.eqP, Ex.val.eqL, negV, mxV, mnV, ← wr_eq, wr_zero, wr_one, wr_m1, bst_lst, byteC, partsOK, putAll, appV, nilV, slV, sslV, optB, optNum, and_assoc, exists_and_left, exists_eq_left', plc, *]) | refine CallS_i (c) ?_ | refine CallM_i (c) ?_ | refine CallE_i (c) ?_ | refine CallX_i (c) ?_ | refine CallB_i (c) ?_ | refine CondS_d (fun h => ?_) (fun h => ?_) | refine CondS_b (fun h => ?_) (fun h => ?_) | refine GrdS_d (fun h => ?_) (fun h => ?_) | refine GrdS_b (fun h => ?_) (fun h => ?_) | refine OkS_i (by omega) ?_ | refine OkS_i ⟨by omega, by assumption⟩ ?_ | refine OkS_i ⟨by omega, by assumption, by assumption⟩ ?_ | fail)
      all_goals simp_all
    · simp at hk
      repeat' (first | intro _ | (simp [sxa, isPtrN, PV.pcs, elAt, setEl, inAt, elIn, setIn, isLst, cellsOf, Ex.ok, Ex.val, Opd.val, POp.dst, bin_int, binOK_int, bin_str, binOK_str, resOK, resV, RB.val, sub, putc, scB, scL, oneB, conf, Ex.val.eqP, Ex.val.eqL, negV, mxV, mnV, ← wr_eq, wr_zero, wr_one, wr_m1, bst_lst, byteC, partsOK, putAll, appV, nilV, slV, sslV, optB, optNum, and_assoc, exists_and_left, exists_eq_left', plc, *]) | refine CallS_i (c) ?_ | refine CallM_i (c) ?_ | refine CallE_i (c) ?_ | refine CallX_i (c) ?_ | refine CallB_i (c) ?_ | refine CondS_d (fun h => ?_) (fun h => ?_) | refine CondS_b (fun h => ?_) (fun h => ?_) | refine GrdS_d (fun h => ?_) (fun h => ?_) | refine GrdS_b (fun h => ?_) (fun h => ?_) | refine OkS_i (by omega) ?_ | refine OkS_i ⟨by omega, by assumption⟩ ?_ | refine OkS_i ⟨by omega, by assumption, by assumption⟩ ?_ | fail)
      all_goals exact ⟨m, by omega, by omega, rfl, hk⟩
theorem l119_6 {S K : List Plc} {far : Int} {n : Nat} {V : Env} (hf : 0 ≤ far ∧ far ≤ 200) (hn : n < S.length) (hS : S.length ≤ 16) (hK : K.length ≤ 16) (h1 : V 1 = i far) (h5 : V 5 = .lst 4 false (S.map plc)) (h8 : V 8 = .lst 4 false (K.map plc)) (h9 : V 9 = i n) (h10 : V 10 = .bool true) (h11 : V 11 = i 0) :
    sx (FC Tryz.prog) (.loop (.seq (.seq (.ops [s 59 (.mv (t 11)),
  s 60 (.mv (t 8)),
  s 61 (.len false (t 60)),
  s 62 (.bin .lss (t 59) (t 61))])
 (.cond (t 62) .skip (.exit 6)))
 (.seq (.block 7 (.ops [s 65 (.mv (t 10)),
  s 66 (.mv (t 65)),
  sg [(66, true)] 67 (.mv (t 8)),
  sg [(66, true)] 68 (.mv (t 11)),
  sg [(66, true)] 69 (.idx (t 67) (t 68) 4),
  sg [(66, true)] 70 (.mv (t 69)),
  sg [(66, true)] 71 (.ldE 67 70 1 2 true true 4),
  sg [(66, true)] 72 (.mv (t 5)),
  sg [(66, true)] 73 (.mv (t 9)),
  sg [(66, true)] 74 (.idx (t 72) (t 73) 4),
  sg [(66, true)] 75 (.mv (t 74)),
  sg [(66, true)] 76 (.ldE 72 75 1 2 true true 4),
  kg [(66, true)] 77 150 [(t 71), (t 76)] .sc,
  sg [(66, true)] 78 (.mv (t 1)),
  sg [(66, true)] 79 (.mv (t 1)),
  sg [(66, true)] 80 (.bin .mul (t 78) (t 79)),
  sg [(66, true)] 81 (.bin .geq (t 77) (t 80)),
  s 82 (.pick (t 66) (t 81) (c (.bool false))),
  s 10 (.mv (t 82))]))
 (.ops [s 63 (.mv (t 11)),
  s 64 (.bin .add (t 63) (c (i 1))),
  s 11 (.mv (t 64))])))) (fun y V' => y = .exit 6 ∧ V' 1 = i far ∧ V' 5 = .lst 4 false (S.map plc) ∧ V' 8 = .lst 4 false (K.map plc) ∧ V' 9 = i n ∧ V' 10 = .bool (kpOK far K S[n])) V := by
  rw [kpOK_all]
  refine sx_count K.length (fun k V' => V' 1 = i far ∧ V' 5 = .lst 4 false (S.map plc) ∧ V' 8 = .lst 4 false (K.map plc) ∧ V' 9 = i n ∧ V' 10 = .bool (allTo (kpAt far K S[n]) k) ∧ V' 11 = i k) 0 (by omega) ⟨h1, h5, h8, h9, by rw [allTo_zero]; exact h10, h11⟩ ?_
  rintro k V' hk ⟨g1, g5, g8, g9, g10, g11⟩
  clear h1 h5 h8 h9 h10 h11
  have hw : wr .i64 ((k : Int) + 1) = k + 1 := wr_in (by omega) (by omega)
  have hnI : (n : Int) < S.length := by omega
  rcases Nat.lt_or_ge k K.length with hl | hl
  · have hI : (k : Int) < K.length := by omega
    have c := f150 K[k].f1 S[n].f1
    rw [farSq_comm] at c
    unfold cp at c
    have hs := allTo_succ (ok := kpAt far K S[n]) (n := k)
    have hd : kpAt far K S[n] k = decide (far * far ≤ farSq S[n].f1 K[k].f1) := by unfold kpAt; rw [show K.getD k plcD = K[k] by simp [hl]]
    rw [hd] at hs
    have hff := sq_b (d := far) (by omega) (by omega)
    have hwf : wr .i64 (far * far) = far * far := wr_in (by omega) (by omega)
    obtain ⟨Z, hZ⟩ : ∃ Z, allTo (kpAt far K S[n]) (k + 1) = Z := ⟨_, rfl⟩
    obtain ⟨Y, hY⟩ : ∃ Y, allTo (kpAt far K S[n]) k = Y := ⟨_, rfl⟩
    rw [hZ, hY] at hs
    rw [hZ]
    rw [hY] at g10
    obtain ⟨F, hF⟩ : ∃ F, farSq S[n].f1 K[k].f1 = F := ⟨_, rfl⟩
    rw [hF] at c hs
    clear hZ hY hF hd hff hf
    cases Y
    · simp at hs
      subst hs
      clear c
      repeat' (first | intro _ | (simp [sxa, isPtrN, PV.pcs, elAt, setEl, inAt, elIn, setIn, isLst, cellsOf, Ex.ok, Ex.val, Opd.val, POp.dst, bin_int, binOK_int, bin_str, binOK_str, resOK, resV, RB.val, sub, putc, scB, scL, oneB, conf, Ex.val.eqP, Ex.val.eqL, negV, mxV, mnV, ← wr_eq, wr_zero, wr_one, wr_m1, bst_lst, byteC, partsOK, putAll, appV, nilV, slV, sslV, optB, optNum, and_assoc, exists_and_left, exists_eq_left', plc, *]) | refine CondS_d (fun h => ?_) (fun h => ?_) | refine CondS_b (fun h => ?_) (fun h => ?_) | refine GrdS_d (fun h => ?_) (fun h => ?_) | refine GrdS_b (fun h => ?_) (fun h => ?_) | refine OkS_i (by omega) ?_ | refine OkS_i ⟨by omega, by assumption⟩ ?_ | refine OkS_i ⟨by omega, by assumption, by assumption⟩ ?_ | fail)
    · by_cases hq : far * far ≤ F
      · simp [hq] at hs
        subst hs
        repeat' (first | intro _ | (simp [sxa, isPtrN, PV.pcs, elAt, setEl, inAt, elIn, setIn, isLst, cellsOf, Ex.ok, Ex.val, Opd.val, POp.dst, bin_int, binOK_int, bin_str, binOK_str, resOK, resV, RB.val, sub, putc, scB, scL, oneB, conf, Ex.val.eqP, Ex.val.eqL, negV, mxV, mnV, ← wr_eq, wr_zero, wr_one, wr_m1, bst_lst, byteC, partsOK, putAll, appV, nilV, slV, sslV, optB, optNum, and_assoc, exists_and_left, exists_eq_left', plc, *]) | refine CallS_i (c) ?_ | refine CallM_i (c) ?_ | refine CallE_i (c) ?_ | refine CallX_i (c) ?_ | refine CallB_i (c) ?_ | refine CondS_d (fun h => ?_) (fun h => ?_) | refine CondS_b (fun h => ?_) (fun h => ?_) | refine GrdS_d (fun h => ?_) (fun h => ?_) | refine GrdS_b (fun h => ?_) (fun h => ?_) | refine OkS_i (by omega) ?_ | refine OkS_i ⟨by omega, by assumption⟩ ?_ | refine OkS_i ⟨by omega, by assumption, by assumption⟩ ?_ | fail)
      · simp [hq] at hs
        subst hs
        repeat' (first | intro _ | (simp [sxa, isPtrN, PV.pcs, elAt, setEl, inAt, elIn, setIn, isLst, cellsOf, Ex.ok, Ex.val, Opd.val, POp.dst, bin_int, binOK_int, bin_str, binOK_str, resOK, resV, RB.val, sub, putc, scB, scL, oneB, conf, Ex.val.eqP, Ex.val.eqL, negV, mxV, mnV, ← wr_eq, wr_zero, wr_one, wr_m1, bst_lst, byteC, partsOK, putAll, appV, nilV, slV, sslV, optB, optNum, and_assoc, exists_and_left, exists_eq_left', plc, *]) | refine CallS_i (c) ?_ | refine CallM_i (c) ?_ | refine CallE_i (c) ?_ | refine CallX_i (c) ?_ | refine CallB_i (c) ?_ | refine CondS_d (fun h => ?_) (fun h => ?_) | refine CondS_b (fun h => ?_) (fun h => ?_) | refine GrdS_d (fun h => ?_) (fun h => ?_) | refine GrdS_b (fun h => ?_) (fun h => ?_) | refine OkS_i (by omega) ?_ | refine OkS_i ⟨by omega, by assumption⟩ ?_ | refine OkS_i ⟨by omega, by assumption, by assumption⟩ ?_ | fail)
  · have : k = K.length := by omega
    subst this
    repeat' (first | intro _ | (simp [sxa, isPtrN, PV.pcs, elAt, setEl, inAt, elIn, setIn, isLst, cellsOf, Ex.ok, Ex.val, Opd.val, POp.dst, bin_int, binOK_int, bin_str, binOK_str, resOK, resV, RB.val, sub, putc, scB, scL, oneB, conf, Ex.val.eqP, Ex.val.eqL, negV, mxV, mnV, ← wr_eq, wr_zero, wr_one, wr_m1, bst_lst, byteC, partsOK, putAll, appV, nilV, slV, sslV, optB, optNum, and_assoc, exists_and_left, exists_eq_left', *]) | refine CondS_d (fun h => ?_) (fun h => ?_) | refine CondS_b (fun h => ?_) (fun h => ?_) | refine GrdS_d (fun h => ?_) (fun h => ?_) | refine GrdS_b (fun h => ?_) (fun h => ?_) | refine OkS_i (by omega) ?_ | refine OkS_i ⟨by omega, by assumption⟩ ?_ | refine OkS_i ⟨by omega, by assumption, by assumption⟩ ?_ | fail)
theorem f119 (l : List Plc) (nl : Bool) (far : Int) (hl : l.length ≤ 16) (hf : 0 ≤ far ∧ far ≤ 200) : Fn Tryz.prog 119 true [.lst 4 nl (l.map plc), i far] (.lst 4 false ((kpTo far (pnTo l l.length) (pnTo l l.length).length).map plc)) := by
  refine Fn.by_sx hX (by kernel_rfl) c119 (by kernel_rfl) (by rfl) ?_
  simp [i119, sxa, isPtrN, PV.pcs, elAt, setEl, inAt, elIn, setIn, isLst, cellsOf, Ex.ok, Ex.val, Opd.val, POp.dst, bin_int, binOK_int, bin_str, binOK_str, resOK, resV, RB.val, sub, putc, scB, scL, oneB, conf, Ex.val.eqP, Ex.val.eqL, negV, mxV, mnV, ← wr_eq, wr_zero, wr_one, wr_m1, bst_lst, byteC, partsOK, putAll, appV, nilV, slV, sslV, optB, optNum, and_assoc, exists_and_left, exists_eq_left']
  refine sx_count l.length (fun n V => V 0 = .lst 4 nl (l.map plc) ∧ V 1 = i far ∧ V 5 = .lst 4 false ((pnTo l n).map plc) ∧ V 6 = i n) 0 (by omega) (by simp [sxa, isPtrN, PV.pcs, elAt, setEl, inAt, elIn, setIn, isLst, cellsOf, Ex.ok, Ex.val, Opd.val, POp.dst, bin_int, binOK_int, bin_str, binOK_str, resOK, resV, RB.val, sub, putc, scB, scL, oneB, conf, Ex.val.eqP, Ex.val.eqL, negV, mxV, mnV, ← wr_eq, wr_zero, wr_one, wr_m1, bst_lst, byteC, partsOK, putAll, appV, nilV, slV, sslV, optB, optNum, and_assoc, exists_and_left, exists_eq_left', pnTo]) ?_
  rintro n V hn ⟨g0, g1, g5, g6⟩
  have hw : wr .i64 ((n : Int) + 1) = n + 1 := wr_in (by omega) (by omega)
  have hOl := pnTo_len l n hn
  rcases Nat.lt_or_ge n l.length with hlt | hge
  · have hI : (n : Int) < l.length := by omega
    have hsu : pnTo l (n + 1) = pnL l[n] (pnTo l n) := by rw [pnTo, show l.getD n plcD = l[n] by simp [hlt]]
    obtain ⟨O, hO⟩ : ∃ O, pnTo l n = O := ⟨_, rfl⟩
    rw [hO] at hsu g5 hOl
    have hkl := pnK_le l[n] O O.length
    clear hO
    simp [sxa, isPtrN, PV.pcs, elAt, setEl, inAt, elIn, setIn, isLst, cellsOf, Ex.ok, Ex.val, Opd.val, POp.dst, bin_int, binOK_int, bin_str, binOK_str, resOK, resV, RB.val, sub, putc, scB, scL, oneB, conf, Ex.val.eqP, Ex.val.eqL, negV, mxV, mnV, ← wr_eq, wr_zero, wr_one, wr_m1, bst_lst, byteC, partsOK, putAll, appV, nilV, slV, sslV, optB, optNum, and_assoc, exists_and_left, exists_eq_left', g0, g5, g6, hI]
    refine sx_mono _ _ _ _ ?_ (l119_2 (l := l) (O := O) (n := n) hlt hl (by omega) (by cases nl <;> simp [sxa, isPtrN, PV.pcs, elAt, setEl, inAt, elIn, setIn, isLst, cellsOf, Ex.ok, Ex.val, Opd.val, POp.dst, bin_int, binOK_int, bin_str, binOK_str, resOK, resV, RB.val, sub, putc, scB, scL, oneB, conf, Ex.val.eqP, Ex.val.eqL, negV, mxV, mnV, ← wr_eq, wr_zero, wr_one, wr_m1, bst_lst, byteC, partsOK, putAll, appV, nilV, slV, sslV, optB, optNum, and_assoc, exists_and_left, exists_eq_left', g0]) (by simp [sxa, isPtrN, PV.pcs, elAt, setEl, inAt, elIn, setIn, isLst, cellsOf, Ex.ok, Ex.val, Opd.val, POp.dst, bin_int, binOK_int, bin_str, binOK_str, resOK, resV, RB.val, sub, putc, scB, scL, oneB, conf, Ex.val.eqP, Ex.val.eqL, negV, mxV, mnV, ← wr_eq, wr_zero, wr_one, wr_m1, bst_lst, byteC, partsOK, putAll, appV, nilV, slV, sslV, optB, optNum, and_assoc, exists_and_left, exists_eq_left', g5]) (by simp [sxa, isPtrN, PV.pcs, elAt, setEl, inAt, elIn, setIn, isLst, cellsOf, Ex.ok, Ex.val, Opd.val, POp.dst, bin_int, binOK_int, bin_str, binOK_str, resOK, resV, RB.val, sub, putc, scB, scL, oneB, conf, Ex.val.eqP, Ex.val.eqL, negV, mxV, mnV, ← wr_eq, wr_zero, wr_one, wr_m1, bst_lst, byteC, partsOK, putAll, appV, nilV, slV, sslV, optB, optNum, and_assoc, exists_and_left, exists_eq_left', g6]) (by simp [sxa, isPtrN, PV.pcs, elAt, setEl, inAt, elIn, setIn, isLst, cellsOf, Ex.ok, Ex.val, Opd.val, POp.dst, bin_int, binOK_int, bin_str, binOK_str, resOK, resV, RB.val, sub, putc, scB, scL, oneB, conf, Ex.val.eqP, Ex.val.eqL, negV, mxV, mnV, ← wr_eq, wr_zero, wr_one, wr_m1, bst_lst, byteC, partsOK, putAll, appV, nilV, slV, sslV, optB, optNum, and_assoc, exists_and_left, exists_eq_left']))
    rintro y W ⟨rfl, w0, w1, w5, w6, w7⟩
    simp [sxa, isPtrN, PV.pcs, elAt, setEl, inAt, elIn, setIn, isLst, cellsOf, Ex.ok, Ex.val, Opd.val, POp.dst, bin_int, binOK_int, bin_str, binOK_str, resOK, resV, RB.val, sub, putc, scB, scL, oneB, conf, Ex.val.eqP, Ex.val.eqL, negV, mxV, mnV, ← wr_eq, wr_zero, wr_one, wr_m1, bst_lst, byteC, partsOK, putAll, appV, nilV, slV, sslV, optB, optNum, and_assoc, exists_and_left, exists_eq_left', g0, g1] at w0 w1
    unfold pnL at hsu
    obtain ⟨k, hk⟩ : ∃ k, pnK l[n] O O.length = k := ⟨_, rfl⟩
    rw [hk] at w7 hsu hkl
    have hkI : (k : Int) ≤ O.length := by omega
    have hR : (pnTo l (n + 1)).map plc = (O.map plc).take k ++ [i l[n].f0, i l[n].f1.f0, i l[n].f1.f1, i l[n].f2] :: (O.map plc).drop k := by rw [hsu]; simp; rfl
    have sc0 : ∀ cs ∈ O.map plc, scL cs = true := fun cs h => by
      obtain ⟨m, _, rfl⟩ := List.mem_map.1 h
      rfl
    have hT3 : List.take n (O.map plc) = O.map plc := List.take_of_length_le (by simp; omega)
    have sc1 := sc_take sc0 k
    have sc2 := sc_drop sc0 k
    have sc3 : ∀ cs, cs ∈ List.take k (O.map plc) ∨ cs = [i l[n].f0, i l[n].f1.f0, i l[n].f1.f1, i l[n].f2] → scL cs = true := by
      rintro cs (h | rfl)
      · exact sc1 cs h
      · rfl
    clear sc0
    have hT2 : List.take (O.length - k) (List.drop k (O.map plc)) = List.drop k (O.map plc) := List.take_of_length_le (by simp)
    clear hk hsu g0 g1 g5 g6
    repeat' (first | intro _ | (simp [sxa, isPtrN, PV.pcs, elAt, setEl, inAt, elIn, setIn, isLst, cellsOf, Ex.ok, Ex.val, Opd.val, POp.dst, bin_int, binOK_int, bin_str, binOK_str, resOK, resV, RB.val, sub, putc, scB, scL, oneB, conf, Ex.val.eqP, Ex.val.eqL, negV, mxV, mnV, ← wr_eq, wr_zero, wr_one, wr_m1, bst_lst, byteC, partsOK, putAll, appV, nilV, slV, sslV, optB, optNum, and_assoc, exists_and_left, exists_eq_left', plc, *]) | refine CondS_d (fun h => ?_) (fun h => ?_) | refine CondS_b (fun h => ?_) (fun h => ?_) | refine GrdS_d (fun h => ?_) (fun h => ?_) | refine GrdS_b (fun h => ?_) (fun h => ?_) | refine OkS_i (by omega) ?_ | refine OkS_i ⟨by omega, by assumption⟩ ?_ | refine OkS_i ⟨by omega, by assumption, by assumption⟩ ?_ | fail)
  · have : n = l.length := by omega
    subst this
    obtain ⟨S, hS⟩ : ∃ S, pnTo l l.length = S := ⟨_, rfl⟩
    rw [hS] at g5 hOl ⊢
    have hS16 : S.length ≤ 16 := by omega
    clear hS hOl
    simp [sxa, isPtrN, PV.pcs, elAt, setEl, inAt, elIn, setIn, isLst, cellsOf, Ex.ok, Ex.val, Opd.val, POp.dst, bin_int, binOK_int, bin_str, binOK_str, resOK, resV, RB.val, sub, putc, scB, scL, oneB, conf, Ex.val.eqP, Ex.val.eqL, negV, mxV, mnV, ← wr_eq, wr_zero, wr_one, wr_m1, bst_lst, byteC, partsOK, putAll, appV, nilV, slV, sslV, optB, optNum, and_assoc, exists_and_left, exists_eq_left', g0, g5, g6]
    refine sx_count S.length (fun n V => V 1 = i far ∧ V 5 = .lst 4 false (S.map plc) ∧ V 8 = .lst 4 false ((kpTo far S n).map plc) ∧ V 9 = i n) 0 (by omega) (by simp [sxa, isPtrN, PV.pcs, elAt, setEl, inAt, elIn, setIn, isLst, cellsOf, Ex.ok, Ex.val, Opd.val, POp.dst, bin_int, binOK_int, bin_str, binOK_str, resOK, resV, RB.val, sub, putc, scB, scL, oneB, conf, Ex.val.eqP, Ex.val.eqL, negV, mxV, mnV, ← wr_eq, wr_zero, wr_one, wr_m1, bst_lst, byteC, partsOK, putAll, appV, nilV, slV, sslV, optB, optNum, and_assoc, exists_and_left, exists_eq_left', kpTo, g1, g5]) ?_
    clear g0 g1 g5 g6
    rintro n V hn ⟨g1, g5, g8, g9⟩
    have hw : wr .i64 ((n : Int) + 1) = n + 1 := wr_in (by omega) (by omega)
    have hkl := kpTo_len far S n hn
    rcases Nat.lt_or_ge n S.length with hlt | hge
    · have hI : (n : Int) < S.length := by omega
      have hsu : kpTo far S (n + 1) = if kpOK far (kpTo far S n) S[n] = true then kpTo far S n ++ [S[n]] else kpTo far S n := by rw [kpTo, show S.getD n plcD = S[n] by simp [hlt]]
      obtain ⟨K, hK⟩ : ∃ K, kpTo far S n = K := ⟨_, rfl⟩
      rw [hK] at hsu g8 hkl
      clear hK
      simp [sxa, isPtrN, PV.pcs, elAt, setEl, inAt, elIn, setIn, isLst, cellsOf, Ex.ok, Ex.val, Opd.val, POp.dst, bin_int, binOK_int, bin_str, binOK_str, resOK, resV, RB.val, sub, putc, scB, scL, oneB, conf, Ex.val.eqP, Ex.val.eqL, negV, mxV, mnV, ← wr_eq, wr_zero, wr_one, wr_m1, bst_lst, byteC, partsOK, putAll, appV, nilV, slV, sslV, optB, optNum, and_assoc, exists_and_left, exists_eq_left', g5, g9, hI]
      refine sx_mono _ _ _ _ ?_ (l119_6 (S := S) (K := K) (far := far) (n := n) hf hlt (by omega) (by omega) (by simp [sxa, isPtrN, PV.pcs, elAt, setEl, inAt, elIn, setIn, isLst, cellsOf, Ex.ok, Ex.val, Opd.val, POp.dst, bin_int, binOK_int, bin_str, binOK_str, resOK, resV, RB.val, sub, putc, scB, scL, oneB, conf, Ex.val.eqP, Ex.val.eqL, negV, mxV, mnV, ← wr_eq, wr_zero, wr_one, wr_m1, bst_lst, byteC, partsOK, putAll, appV, nilV, slV, sslV, optB, optNum, and_assoc, exists_and_left, exists_eq_left', g1]) (by simp [sxa, isPtrN, PV.pcs, elAt, setEl, inAt, elIn, setIn, isLst, cellsOf, Ex.ok, Ex.val, Opd.val, POp.dst, bin_int, binOK_int, bin_str, binOK_str, resOK, resV, RB.val, sub, putc, scB, scL, oneB, conf, Ex.val.eqP, Ex.val.eqL, negV, mxV, mnV, ← wr_eq, wr_zero, wr_one, wr_m1, bst_lst, byteC, partsOK, putAll, appV, nilV, slV, sslV, optB, optNum, and_assoc, exists_and_left, exists_eq_left', g5]) (by simp [sxa, isPtrN, PV.pcs, elAt, setEl, inAt, elIn, setIn, isLst, cellsOf, Ex.ok, Ex.val, Opd.val, POp.dst, bin_int, binOK_int, bin_str, binOK_str, resOK, resV, RB.val, sub, putc, scB, scL, oneB, conf, Ex.val.eqP, Ex.val.eqL, negV, mxV, mnV, ← wr_eq, wr_zero, wr_one, wr_m1, bst_lst, byteC, partsOK, putAll, appV, nilV, slV, sslV, optB, optNum, and_assoc, exists_and_left, exists_eq_left', g8]) (by simp [sxa, isPtrN, PV.pcs, elAt, setEl, inAt, elIn, setIn, isLst, cellsOf, Ex.ok, Ex.val, Opd.val, POp.dst, bin_int, binOK_int, bin_str, binOK_str, resOK, resV, RB.val, sub, putc, scB, scL, oneB, conf, Ex.val.eqP, Ex.val.eqL, negV, mxV, mnV, ← wr_eq, wr_zero, wr_one, wr_m1, bst_lst, byteC, partsOK, putAll, appV, nilV, slV, sslV, optB, optNum, and_assoc, exists_and_left, exists_eq_left', g9]) (by simp [sxa, isPtrN, PV.pcs, elAt, setEl, inAt, elIn, setIn, isLst, cellsOf, Ex.ok, Ex.val, Opd.val, POp.dst, bin_int, binOK_int, bin_str, binOK_str, resOK, resV, RB.val, sub, putc, scB, scL, oneB, conf, Ex.val.eqP, Ex.val.eqL, negV, mxV, mnV, ← wr_eq, wr_zero, wr_one, wr_m1, bst_lst, byteC, partsOK, putAll, appV, nilV, slV, sslV, optB, optNum, and_assoc, exists_and_left, exists_eq_left']) (by simp [sxa, isPtrN, PV.pcs, elAt, setEl, inAt, elIn, setIn, isLst, cellsOf, Ex.ok, Ex.val, Opd.val, POp.dst, bin_int, binOK_int, bin_str, binOK_str, resOK, resV, RB.val, sub, putc, scB, scL, oneB, conf, Ex.val.eqP, Ex.val.eqL, negV, mxV, mnV, ← wr_eq, wr_zero, wr_one, wr_m1, bst_lst, byteC, partsOK, putAll, appV, nilV, slV, sslV, optB, optNum, and_assoc, exists_and_left, exists_eq_left']))
      rintro y W ⟨rfl, w1, w5, w8, w9, w10⟩
      obtain ⟨b, hb⟩ : ∃ b, kpOK far K S[n] = b := ⟨_, rfl⟩
      rw [hb] at hsu w10
      clear hb g1 g5 g8 g9
      cases b
      · simp at hsu
        repeat' (first | intro _ | (simp [sxa, isPtrN, PV.pcs, elAt, setEl, inAt, elIn, setIn, isLst, cellsOf, Ex.ok, Ex.val, Opd.val, POp.dst, bin_int, binOK_int, bin_str, binOK_str, resOK, resV, RB.val, sub, putc, scB, scL, oneB, conf, Ex.val.eqP, Ex.val.eqL, negV, mxV, mnV, ← wr_eq, wr_zero, wr_one, wr_m1, bst_lst, byteC, partsOK, putAll, appV, nilV, slV, sslV, optB, optNum, and_assoc, exists_and_left, exists_eq_left', plc, *]) | refine CondS_d (fun h => ?_) (fun h => ?_) | refine CondS_b (fun h => ?_) (fun h => ?_) | refine GrdS_d (fun h => ?_) (fun h => ?_) | refine GrdS_b (fun h => ?_) (fun h => ?_) | refine OkS_i (by omega) ?_ | refine OkS_i ⟨by omega, by assumption⟩ ?_ | refine OkS_i ⟨by omega, by assumption, by assumption⟩ ?_ | fail)
        all_goals simp_all
      · simp at hsu
        repeat' (first | intro _ | (simp [sxa, isPtrN, PV.pcs, elAt, setEl, inAt, elIn, setIn, isLst, cellsOf, Ex.ok, Ex.val, Opd.val, POp.dst, bin_int, binOK_int, bin_str, binOK_str, resOK, resV, RB.val, sub, putc, scB, scL, oneB, conf, Ex.val.eqP, Ex.val.eqL, negV, mxV, mnV, ← wr_eq, wr_zero, wr_one, wr_m1, bst_lst, byteC, partsOK, putAll, appV, nilV, slV, sslV, optB, optNum, and_assoc, exists_and_left, exists_eq_left', plc, *]) | refine CondS_d (fun h => ?_) (fun h => ?_) | refine CondS_b (fun h => ?_) (fun h => ?_) | refine GrdS_d (fun h => ?_) (fun h => ?_) | refine GrdS_b (fun h => ?_) (fun h => ?_) | refine OkS_i (by omega) ?_ | refine OkS_i ⟨by omega, by assumption⟩ ?_ | refine OkS_i ⟨by omega, by assumption, by assumption⟩ ?_ | fail)
        all_goals first | omega | simp_all [plc]
    · have : n = S.length := by omega
      subst this
      repeat' (first | intro _ | (simp [sxa, isPtrN, PV.pcs, elAt, setEl, inAt, elIn, setIn, isLst, cellsOf, Ex.ok, Ex.val, Opd.val, POp.dst, bin_int, binOK_int, bin_str, binOK_str, resOK, resV, RB.val, sub, putc, scB, scL, oneB, conf, Ex.val.eqP, Ex.val.eqL, negV, mxV, mnV, ← wr_eq, wr_zero, wr_one, wr_m1, bst_lst, byteC, partsOK, putAll, appV, nilV, slV, sslV, optB, optNum, and_assoc, exists_and_left, exists_eq_left', *]) | refine CondS_d (fun h => ?_) (fun h => ?_) | refine CondS_b (fun h => ?_) (fun h => ?_) | refine GrdS_d (fun h => ?_) (fun h => ?_) | refine GrdS_b (fun h => ?_) (fun h => ?_) | refine OkS_i (by omega) ?_ | refine OkS_i ⟨by omega, by assumption⟩ ?_ | refine OkS_i ⟨by omega, by assumption, by assumption⟩ ?_ | fail)
end Go.Eng
namespace Go.Eng
open Go Go.Proofs Go.RowKit Geo
set_option linter.unusedSimpArgs false
set_option linter.unusedVariables false
set_option maxRecDepth 100000
set_option maxHeartbeats 4000000

/-! how places are compared, walked. WRITES -/
def encP (x : Plc) : List Value := [.int .i64 x.f0, .int .i64 x.f1.f0, .int .i64 x.f1.f1, .int .i64 x.f2]
theorem w188 (x y : Plc) (W : World) : Calls Tryz.prog 188 #[.agg (encP x).toArray, .agg (encP y).toArray] W fun e w' => e = .returned (.bool (abv x y)) ∧ ∃ q os', w' = Sort.grow (W.drewN q) os' := by
  unfold encP
  go_enter Tryz.func188, Tryz.ntmps188
  go_wp
  all_goals go_ret
  · refine ⟨?_, 0, #[.cells #[.int .i64 x.f0, .int .i64 x.f1.f0, .int .i64 x.f1.f1, .int .i64 y.f2] 141, .cells #[.int .i64 y.f0, .int .i64 y.f1.f0, .int .i64 y.f1.f1, .int .i64 y.f2] 141], rfl⟩
    show Ending.returned (Value.bool (decide (x.f0 < y.f0))) = _
    rw [show abv x y = decide (x.f0 < y.f0) by rw [Bool.eq_iff_iff, abv_t]; simp only [decide_eq_true_eq]; omega]
  · refine ⟨?_, 0, #[.cells #[.int .i64 x.f0, .int .i64 x.f1.f0, .int .i64 x.f1.f1, .int .i64 x.f2] 141, .cells #[.int .i64 y.f0, .int .i64 y.f1.f0, .int .i64 y.f1.f1, .int .i64 y.f2] 141], rfl⟩
    show Ending.returned (Value.bool (decide (y.f2 < x.f2))) = _
    rw [show abv x y = decide (y.f2 < x.f2) by rw [Bool.eq_iff_iff, abv_t]; simp only [decide_eq_true_eq]; omega]
  all_goals (refine ⟨?_, 0, #[.cells #[.int .i64 x.f0, .int .i64 x.f1.f0, .int .i64 x.f1.f1, .int .i64 x.f2] 141, .cells #[.int .i64 y.f0, .int .i64 y.f1.f0, .int .i64 y.f1.f1, .int .i64 y.f2] 141], rfl⟩)
  all_goals (show Ending.returned (Value.bool true) = _)
  all_goals (rw [show abv x y = true by rw [abv_t]; left; omega])
theorem w187 (x y : Plc) (W : World) : Calls Tryz.prog 187 #[.agg (encP x).toArray, .agg (encP y).toArray] W fun e w' => e = .returned (.int .i64 (cfAb x y)) ∧ ∃ q os', w' = Sort.grow (W.drewN q) os' := by
  have cxy := fun W => w188 x y W
  have cyx := fun W => w188 y x W
  unfold encP at cxy cyx ⊢
  go_enter Tryz.func187, Tryz.ntmps187
  go_wp
  have hsz := alloc_size W (.cells #[.int .i64 x.f0, .int .i64 x.f1.f0, .int .i64 x.f1.f1, .int .i64 x.f2] 141)
  have hn1 := alloc_new W (.cells #[.int .i64 x.f0, .int .i64 x.f1.f0, .int .i64 x.f1.f1, .int .i64 x.f2] 141)
  have hn2 := alloc_new (W.alloc (.cells #[.int .i64 x.f0, .int .i64 x.f1.f0, .int .i64 x.f1.f1, .int .i64 x.f2] 141)) (.cells #[.int .i64 y.f0, .int .i64 y.f1.f0, .int .i64 y.f1.f1, .int .i64 y.f2] 141)
  rw [hsz] at hn2
  have hn3 := (alloc_blocks (W.alloc (.cells #[.int .i64 x.f0, .int .i64 x.f1.f0, .int .i64 x.f1.f1, .int .i64 x.f2] 141)) (.cells #[.int .i64 y.f0, .int .i64 y.f1.f0, .int .i64 y.f1.f1, .int .i64 y.f2] 141) W.heap.size (by rw [hsz]; omega)).trans hn1
  have hend : ∃ os : Array Obj, os.size = 2 ∧ ((W.alloc (.cells #[.int .i64 x.f0, .int .i64 x.f1.f0, .int .i64 x.f1.f1, .int .i64 x.f2] 141)).alloc (.cells #[.int .i64 y.f0, .int .i64 y.f1.f0, .int .i64 y.f1.f1, .int .i64 y.f2] 141)) = Sort.grow (W.drewN 0) os := ⟨#[.cells #[.int .i64 x.f0, .int .i64 x.f1.f0, .int .i64 x.f1.f1, .int .i64 x.f2] 141, .cells #[.int .i64 y.f0, .int .i64 y.f1.f0, .int .i64 y.f1.f1, .int .i64 y.f2] 141], rfl, rfl⟩
  generalize ((W.alloc (.cells #[.int .i64 x.f0, .int .i64 x.f1.f0, .int .i64 x.f1.f1, .int .i64 x.f2] 141)).alloc (.cells #[.int .i64 y.f0, .int .i64 y.f1.f0, .int .i64 y.f1.f1, .int .i64 y.f2] 141)) = W2 at *
  have a0 : W2.cell? ⟨W.heap.size, 0, none⟩ = some (.int .i64 x.f0) := by simp [World.cell?, hn3]
  have a1 : W2.cell? ⟨W.heap.size, 1, none⟩ = some (.int .i64 x.f1.f0) := by simp [World.cell?, hn3]
  have a2 : W2.cell? ⟨W.heap.size, 2, none⟩ = some (.int .i64 x.f1.f1) := by simp [World.cell?, hn3]
  have a3 : W2.cell? ⟨W.heap.size, 3, none⟩ = some (.int .i64 x.f2) := by simp [World.cell?, hn3]
  have b0 : W2.cell? ⟨W.heap.size + 1, 0, none⟩ = some (.int .i64 y.f0) := by simp [World.cell?, hn2]
  have b1 : W2.cell? ⟨W.heap.size + 1, 1, none⟩ = some (.int .i64 y.f1.f0) := by simp [World.cell?, hn2]
  have b2 : W2.cell? ⟨W.heap.size + 1, 2, none⟩ = some (.int .i64 y.f1.f1) := by simp [World.cell?, hn2]
  have b3 : W2.cell? ⟨W.heap.size + 1, 3, none⟩ = some (.int .i64 y.f2) := by simp [World.cell?, hn2]
  clear hn1 hn2 hn3 hsz
  obtain ⟨os0, hos, hend⟩ := hend
  have hW2 : W2.heap.size = W.heap.size + 2 := by rw [hend]; show (W.heap ++ os0).size = _; simp [hos]
  refine (cxy W2).mono ?_
  rintro e w1 ⟨rfl, q1, os1, rfl⟩
  replace a0 := cell_grown (w := W2) (by simp only; omega) a0 q1 os1
  replace a1 := cell_grown (w := W2) (by simp only; omega) a1 q1 os1
  replace a2 := cell_grown (w := W2) (by simp only; omega) a2 q1 os1
  replace a3 := cell_grown (w := W2) (by simp only; omega) a3 q1 os1
  replace b0 := cell_grown (w := W2) (by simp only; omega) b0 q1 os1
  replace b1 := cell_grown (w := W2) (by simp only; omega) b1 q1 os1
  replace b2 := cell_grown (w := W2) (by simp only; omega) b2 q1 os1
  replace b3 := cell_grown (w := W2) (by simp only; omega) b3 q1 os1
  have hend1 : Sort.grow (W2.drewN q1) os1 = Sort.grow (W.drewN q1) (os0 ++ os1) := by rw [hend]; show Sort.grow (Sort.grow ((W.drewN 0).drewN q1) os0) os1 = _; rw [Sort.grow_grow, World.drewN_drewN, Nat.zero_add]
  generalize Sort.grow (W2.drewN q1) os1 = W3 at *
  replace hend1 : Hid _ := hend1
  clear hend hW2 hos
  dsimp only
  cases hab : abv x y
  · go_wp
    refine (cyx W3).mono ?_
    rintro e w2 ⟨rfl, q2, os2, rfl⟩
    dsimp only
    have hend2 : Sort.grow (W3.drewN q2) os2 = Sort.grow (W.drewN (q1 + q2)) (os0 ++ os1 ++ os2) := by rw [hend1.out]; show Sort.grow (Sort.grow ((W.drewN q1).drewN q2) (os0 ++ os1)) os2 = _; rw [Sort.grow_grow, World.drewN_drewN]
    generalize Sort.grow (W3.drewN q2) os2 = W4 at *
    replace hend2 : Hid _ := hend2
    clear a0 a1 a2 a3 b0 b1 b2 b3 cxy cyx
    cases hba : abv y x
    · go_wp
      go_ret
      exact ⟨by unfold cfAb; rw [hab, hba]; rfl, _, _, hend2.out⟩
    · go_wp
      go_ret
      exact ⟨by unfold cfAb; rw [hab, hba]; rfl, _, _, hend2.out⟩
  · clear a0 a1 a2 a3 b0 b1 b2 b3 cxy cyx
    go_wp
    go_ret
    exact ⟨by unfold cfAb; rw [hab]; rfl, _, _, hend1.out⟩
end Go.Eng
namespace Go.Eng
open Go Go.Proofs Go.Shelf Go.Sort
set_option linter.unusedSimpArgs false
set_option linter.unusedVariables false
set_option maxRecDepth 100000
set_option maxHeartbeats 1000000

/-! slices.SortStableFunc at places (no more than twenty). WRITES -/
def rhoIns : Ren := ⟨fun n => if n = 20 then 218 else 0, fun n => if n = 0 then 0 else if n = 3 then 3 else if n = 4 then 4 else if n = 22 then 103 else if n = 24 then 141 else if n = 25 then 188 else 0, fun n => n⟩
theorem LIns : SlLaysF0.n20 Tryz.prog rhoIns where
  mixed := by kernel_rfl
  f20 := ⟨fnm Tryz.prog 218, by kernel_rfl, by kernel_rfl⟩
  t0 := by kernel_rfl
  a0 := fun _ => by kernel_rfl
  z0 := fun _ => by kernel_rfl
  v0 := fun _ => by kernel_rfl
  t3 := by kernel_rfl
  a3 := fun _ => by kernel_rfl
  z3 := fun _ => by kernel_rfl
  v3 := fun _ => by kernel_rfl
  t4 := by kernel_rfl
  a4 := fun _ => by kernel_rfl
  z4 := fun _ => by kernel_rfl
  v4 := fun _ => by kernel_rfl
  t22 := by kernel_rfl
  a22 := fun _ => by kernel_rfl
  z22 := fun _ => by kernel_rfl
  v22 := fun _ => by kernel_rfl
  t25 := by kernel_rfl
  a25 := fun _ => by kernel_rfl
  z25 := fun _ => by kernel_rfl
  v25 := fun _ => by kernel_rfl
theorem f218 (nl : Bool) (d : List Plc) (hsz : d.length < 4611686018427387904) :
    FnM Tryz.prog 218 [.lst 4 nl (d.map plc), i 0, i d.length, .fn 187 []] (.tup []) (.lst 4 nl ((inaL cfAb d).map plc)) := by
  refine ins_M (k := 4) LIns (by omega) (fun _ => by kernel_rfl) (fun _ => by kernel_rfl) encP plc (fun _ => rfl) ?_ ?_ ?_ ?_ cfAb swoAb 187 (by kernel_rfl) (fun x y W => w187 x y W) (by kernel_rfl) nl d hsz
  · intro x v hv
    simp [encP] at hv
    rcases hv with rfl | rfl | rfl | rfl <;> rfl
  · intro w x
    exact .cons (.int _ _) (.cons (.int _ _) (.cons (.int _ _) (.cons (.int _ _) .nil)))
  · intro w x ys F h
    obtain ⟨a, r, F1, F2, rfl, rfl, h1, h2⟩ := RepL.cons_inv h
    obtain ⟨b, r2, F3, F4, rfl, rfl, h3, h4⟩ := RepL.cons_inv h2
    obtain ⟨c, r3, F5, F6, rfl, rfl, h5, h6⟩ := RepL.cons_inv h4
    obtain ⟨e, r4, F7, F8, rfl, rfl, h7, h8⟩ := RepL.cons_inv h6
    obtain ⟨rfl, rfl⟩ := h8.nil_inv
    obtain ⟨rfl, rfl⟩ := h1.int_inv
    obtain ⟨rfl, rfl⟩ := h3.int_inv
    obtain ⟨rfl, rfl⟩ := h5.int_inv
    obtain ⟨rfl, rfl⟩ := h7.int_inv
    exact ⟨rfl, rfl⟩
  · intro x c hc
    simp [plc] at hc
    rcases hc with rfl | rfl | rfl | rfl <;> rfl
theorem f210 (nl : Bool) (d : List Plc) (hd : d.length ≤ 16) :
    FnM Tryz.prog 210 [.lst 4 nl (d.map plc), i d.length, .fn 187 []] (.tup []) (.lst 4 nl ((inaL cfAb d).map plc)) := by
  have c := f218 nl d (by omega)
  obtain ⟨R, hR⟩ : ∃ R, (inaL cfAb d).map plc = R := ⟨_, rfl⟩
  have hRl : R.length = d.length := by rw [← hR, List.length_map, ina_len swoAb]
  rw [hR] at c ⊢
  clear hR
  have h20 : ¬ (20 : Int) ≤ d.length := by omega
  have h20' : ¬ (20 : Int) < d.length := by omega
  refine FnM.by_sx hX (by kernel_rfl) c210 rfl rfl ?_
  simp [i210, sxa, isPtrN, PV.pcs, elAt, setEl, inAt, elIn, setIn, isLst, cellsOf, Ex.ok, Ex.val, Opd.val, POp.dst, bin_int, binOK_int, bin_str, binOK_str, resOK, resV, RB.val, sub, putc, scB, scL, oneB, conf, Ex.val.eqP, Ex.val.eqL, negV, mxV, mnV, ← wr_eq, wr_zero, wr_one, wr_m1, bst_lst, byteC, partsOK, putAll, appV, nilV, slV, sslV, optB, optNum, and_assoc, exists_and_left, exists_eq_left']
  refine sx_count 0 (fun n V => V 0 = .lst 4 nl (d.map plc) ∧ V 1 = i d.length ∧ V 2 = .fn 187 [] ∧ V 6 = i 20 ∧ V 7 = i 0 ∧ V 8 = i 20) 0 (by omega) (by simp [sxa, isPtrN, PV.pcs, elAt, setEl, inAt, elIn, setIn, isLst, cellsOf, Ex.ok, Ex.val, Opd.val, POp.dst, bin_int, binOK_int, bin_str, binOK_str, resOK, resV, RB.val, sub, putc, scB, scL, oneB, conf, Ex.val.eqP, Ex.val.eqL, negV, mxV, mnV, ← wr_eq, wr_zero, wr_one, wr_m1, bst_lst, byteC, partsOK, putAll, appV, nilV, slV, sslV, optB, optNum, and_assoc, exists_and_left, exists_eq_left']) ?_
  rintro n V hn ⟨g0, g1, g2, g6, g7, g8⟩
  simp [sxa, isPtrN, PV.pcs, elAt, setEl, inAt, elIn, setIn, isLst, cellsOf, Ex.ok, Ex.val, Opd.val, POp.dst, bin_int, binOK_int, bin_str, binOK_str, resOK, resV, RB.val, sub, putc, scB, scL, oneB, conf, Ex.val.eqP, Ex.val.eqL, negV, mxV, mnV, ← wr_eq, wr_zero, wr_one, wr_m1, bst_lst, byteC, partsOK, putAll, appV, nilV, slV, sslV, optB, optNum, and_assoc, exists_and_left, exists_eq_left', g0, g1, g2, g6, g7, g8, h20]
  refine CallM_i (c) ?_
  clear c
  simp [sxa, isPtrN, PV.pcs, elAt, setEl, inAt, elIn, setIn, isLst, cellsOf, Ex.ok, Ex.val, Opd.val, POp.dst, bin_int, binOK_int, bin_str, binOK_str, resOK, resV, RB.val, sub, putc, scB, scL, oneB, conf, Ex.val.eqP, Ex.val.eqL, negV, mxV, mnV, ← wr_eq, wr_zero, wr_one, wr_m1, bst_lst, byteC, partsOK, putAll, appV, nilV, slV, sslV, optB, optNum, and_assoc, exists_and_left, exists_eq_left', g0, g1, g2, g6, g7, g8, h20]
  refine sx_count 0 (fun n V => V 0 = .lst 4 nl R ∧ V 1 = i d.length ∧ V 6 = i 20) 0 (by omega) (by simp [sxa, isPtrN, PV.pcs, elAt, setEl, inAt, elIn, setIn, isLst, cellsOf, Ex.ok, Ex.val, Opd.val, POp.dst, bin_int, binOK_int, bin_str, binOK_str, resOK, resV, RB.val, sub, putc, scB, scL, oneB, conf, Ex.val.eqP, Ex.val.eqL, negV, mxV, mnV, ← wr_eq, wr_zero, wr_one, wr_m1, bst_lst, byteC, partsOK, putAll, appV, nilV, slV, sslV, optB, optNum, and_assoc, exists_and_left, exists_eq_left', g1, g6]) ?_
  clear g0 g1 g2 g6 g7 g8
  rintro n V hn ⟨g0, g1, g6⟩
  simp [sxa, isPtrN, PV.pcs, elAt, setEl, inAt, elIn, setIn, isLst, cellsOf, Ex.ok, Ex.val, Opd.val, POp.dst, bin_int, binOK_int, bin_str, binOK_str, resOK, resV, RB.val, sub, putc, scB, scL, oneB, conf, Ex.val.eqP, Ex.val.eqL, negV, mxV, mnV, ← wr_eq, wr_zero, wr_one, wr_m1, bst_lst, byteC, partsOK, putAll, appV, nilV, slV, sslV, optB, optNum, and_assoc, exists_and_left, exists_eq_left', g0, g1, g6, h20']
theorem f186 (nl : Bool) (d : List Plc) (hd : d.length ≤ 16) :
    FnM Tryz.prog 186 [.lst 4 nl (d.map plc), .fn 187 []] (.tup []) (.lst 4 nl ((inaL cfAb d).map plc)) := by
  have c := f210 nl d hd
  obtain ⟨R, hR⟩ : ∃ R, (inaL cfAb d).map plc = R := ⟨_, rfl⟩
  rw [hR] at c ⊢
  clear hR
  refine FnM.by_sx hX (by kernel_rfl) c186 rfl rfl ?_
  simp [i186, sxa, isPtrN, PV.pcs, elAt, setEl, inAt, elIn, setIn, isLst, cellsOf, Ex.ok, Ex.val, Opd.val, POp.dst, bin_int, binOK_int, bin_str, binOK_str, resOK, resV, RB.val, sub, putc, scB, scL, oneB, conf, Ex.val.eqP, Ex.val.eqL, negV, mxV, mnV, ← wr_eq, wr_zero, wr_one, wr_m1, bst_lst, byteC, partsOK, putAll, appV, nilV, slV, sslV, optB, optNum, and_assoc, exists_and_left, exists_eq_left']
  refine CallM_i (c) ?_
  simp [sxa, isPtrN, PV.pcs, elAt, setEl, inAt, elIn, setIn, isLst, cellsOf, Ex.ok, Ex.val, Opd.val, POp.dst, bin_int, binOK_int, bin_str, binOK_str, resOK, resV, RB.val, sub, putc, scB, scL, oneB, conf, Ex.val.eqP, Ex.val.eqL, negV, mxV, mnV, ← wr_eq, wr_zero, wr_one, wr_m1, bst_lst, byteC, partsOK, putAll, appV, nilV, slV, sslV, optB, optNum, and_assoc, exists_and_left, exists_eq_left']
theorem f185 (d : List Plc) (hd : d.length ≤ 1048576) : Fn Tryz.prog 185 true [.lst 4 false (d.map plc)] (.lst 4 false (d.map plc)) := by
  have sc : ∀ a, a ∈ d → scL [i a.f0, i a.f1.f0, i a.f1.f1, i a.f2] = true := fun _ _ => rfl
  refine Fn.by_sx hX (by kernel_rfl) c185 (by kernel_rfl) (by rfl) ?_
  simp [i185, sxa, isPtrN, PV.pcs, elAt, setEl, inAt, elIn, setIn, isLst, cellsOf, Ex.ok, Ex.val, Opd.val, POp.dst, bin_int, binOK_int, bin_str, binOK_str, resOK, resV, RB.val, sub, putc, scB, scL, oneB, conf, Ex.val.eqP, Ex.val.eqL, negV, mxV, mnV, ← wr_eq, wr_zero, wr_one, wr_m1, bst_lst, byteC, partsOK, putAll, appV, nilV, slV, sslV, optB, optNum, and_assoc, exists_and_left, exists_eq_left']
  repeat' (first | intro _ | (simp [sxa, isPtrN, PV.pcs, elAt, setEl, inAt, elIn, setIn, isLst, cellsOf, Ex.ok, Ex.val, Opd.val, POp.dst, bin_int, binOK_int, bin_str, binOK_str, resOK, resV, RB.val, sub, putc, scB, scL, oneB, conf, Ex.val.eqP, Ex.val.eqL, negV, mxV, mnV, ← wr_eq, wr_zero, wr_one, wr_m1, bst_lst, byteC, partsOK, putAll, appV, nilV, slV, sslV, optB, optNum, and_assoc, exists_and_left, exists_eq_left', *]) | refine CondS_d (fun h => ?_) (fun h => ?_) | refine CondS_b (fun h => ?_) (fun h => ?_) | refine GrdS_d (fun h => ?_) (fun h => ?_) | refine GrdS_b (fun h => ?_) (fun h => ?_) | refine OkS_i (by omega) ?_ | refine OkS_i ⟨by omega, by assumption⟩ ?_ | refine OkS_i ⟨by omega, by assumption, by assumption⟩ ?_ | fail)
theorem f152 (d : List Plc) (hd : d.length ≤ 16) : Fn Tryz.prog 152 true [.lst 4 false (d.map plc)] (.lst 4 false ((inaL cfAb d).map plc)) := by
  have c1 := f185 d (by omega)
  have c2 := f186 false d hd
  obtain ⟨R, hR⟩ : ∃ R, (inaL cfAb d).map plc = R := ⟨_, rfl⟩
  rw [hR] at c2 ⊢
  clear hR
  refine Fn.by_sx hX (by kernel_rfl) c152 (by kernel_rfl) (by rfl) ?_
  simp [i152, sxa, isPtrN, PV.pcs, elAt, setEl, inAt, elIn, setIn, isLst, cellsOf, Ex.ok, Ex.val, Opd.val, POp.dst, bin_int, binOK_int, bin_str, binOK_str, resOK, resV, RB.val, sub, putc, scB, scL, oneB, conf, Ex.val.eqP, Ex.val.eqL, negV, mxV, mnV, ← wr_eq, wr_zero, wr_one, wr_m1, bst_lst, byteC, partsOK, putAll, appV, nilV, slV, sslV, optB, optNum, and_assoc, exists_and_left, exists_eq_left']
  refine CallS_i (c1) ?_
  simp [sxa, isPtrN, PV.pcs, elAt, setEl, inAt, elIn, setIn, isLst, cellsOf, Ex.ok, Ex.val, Opd.val, POp.dst, bin_int, binOK_int, bin_str, binOK_str, resOK, resV, RB.val, sub, putc, scB, scL, oneB, conf, Ex.val.eqP, Ex.val.eqL, negV, mxV, mnV, ← wr_eq, wr_zero, wr_one, wr_m1, bst_lst, byteC, partsOK, putAll, appV, nilV, slV, sslV, optB, optNum, and_assoc, exists_and_left, exists_eq_left']
  refine CallM_i (c2) ?_
  simp [sxa, isPtrN, PV.pcs, elAt, setEl, inAt, elIn, setIn, isLst, cellsOf, Ex.ok, Ex.val, Opd.val, POp.dst, bin_int, binOK_int, bin_str, binOK_str, resOK, resV, RB.val, sub, putc, scB, scL, oneB, conf, Ex.val.eqP, Ex.val.eqL, negV, mxV, mnV, ← wr_eq, wr_zero, wr_one, wr_m1, bst_lst, byteC, partsOK, putAll, appV, nilV, slV, sslV, optB, optNum, and_assoc, exists_and_left, exists_eq_left']
end Go.Eng
namespace Go.Eng
open Go Go.Proofs Geo
set_option linter.unusedSimpArgs false
set_option linter.unusedVariables false
set_option maxRecDepth 20000
set_option maxHeartbeats 1000000

/-! what is shown: walks. WRITES -/
theorem l122_2 {K : List Plc} {x : Plc} {far : Int} {V : Env} (hf : 0 ≤ far ∧ far ≤ 200) (hK : K.length ≤ 16) (h1 : V 1 = i far) (h7 : V 7 = .ptr [i x.f0, i x.f1.f0, i x.f1.f1, i x.f2]) (h28 : V 28 = .lst 4 false (K.map plc)) (h29 : V 29 = i K.length) (h8 : V 8 = .bool true) (h30 : V 30 = i 0) :
    sx (FC Tryz.prog) (.loop (.seq (.ops [s 31 (.bin .lss (t 30) (t 29))])
 (.seq (.cond (t 31) .skip (.exit 2))
 (.seq (.block 3 (.seq (.ops [s 32 (.idx (t 28) (t 30) 4),
  s 33 (.ldE 28 32 0 4 true true 4),
  s 10 (.alc [(i 0), (i 0), (i 0), (i 0)]),
  s 10 (.stB 10 0 4 (t 33) false)])
 (.ops [s 34 (.mv (t 8)),
  s 35 (.mv (t 34)),
  sg [(35, true)] 36 (.mv (c (i 0))),
  sg [(35, true)] 37 (.ldB 7 1 2 true true),
  sg [(35, true)] 38 (.mv (c (i 0))),
  sg [(35, true)] 39 (.ldB 10 1 2 true true),
  kg [(35, true)] 40 153 [(t 37), (t 39)] .sc,
  sg [(35, true)] 41 (.mv (t 1)),
  sg [(35, true)] 42 (.mv (t 1)),
  sg [(35, true)] 43 (.bin .mul (t 41) (t 42)),
  sg [(35, true)] 44 (.bin .geq (t 40) (t 43)),
  s 45 (.pick (t 35) (t 44) (c (.bool false))),
  s 8 (.mv (t 45))])))
 (.ops [s 46 (.bin .add (t 30) (c (i 1))),
  s 30 (.mv (t 46))]))))) (fun y V' => y = .exit 2 ∧ V' 1 = i far ∧ V' 5 = V 5 ∧ V' 7 = .ptr [i x.f0, i x.f1.f0, i x.f1.f1, i x.f2] ∧ V' 22 = V 22 ∧ V' 23 = V 23 ∧ V' 24 = V 24 ∧ V' 8 = .bool (kpOK far K x)) V := by
  rw [kpOK_all]
  refine sx_count K.length (fun k V' => V' 1 = i far ∧ V' 5 = V 5 ∧ V' 7 = .ptr [i x.f0, i x.f1.f0, i x.f1.f1, i x.f2] ∧ V' 22 = V 22 ∧ V' 23 = V 23 ∧ V' 24 = V 24 ∧ V' 28 = .lst 4 false (K.map plc) ∧ V' 29 = i K.length ∧ V' 8 = .bool (allTo (kpAt far K x) k) ∧ V' 30 = i k) 0 (by omega) ⟨h1, rfl, h7, rfl, rfl, rfl, h28, h29, by rw [allTo_zero]; exact h8, h30⟩ ?_
  rintro k V' hk ⟨g1, g5, g7, g22, g23, g24, g28, g29, g8, g30⟩
  clear h1 h7 h28 h29 h8 h30
  obtain ⟨v5, hv5⟩ : ∃ v, V 5 = v := ⟨_, rfl⟩
  obtain ⟨v22, hv22⟩ : ∃ v, V 22 = v := ⟨_, rfl⟩
  obtain ⟨v23, hv23⟩ : ∃ v, V 23 = v := ⟨_, rfl⟩
  obtain ⟨v24, hv24⟩ : ∃ v, V 24 = v := ⟨_, rfl⟩
  rw [hv5] at g5 ⊢
  rw [hv22] at g22 ⊢
  rw [hv23] at g23 ⊢
  rw [hv24] at g24 ⊢
  clear hv5 hv22 hv23 hv24
  have hw : wr .i64 ((k : Int) + 1) = k + 1 := wr_in (by omega) (by omega)
  rcases Nat.lt_or_ge k K.length with hl | hl
  · have hI : (k : Int) < K.length := by omega
    have c := f153 x.f1 K[k].f1
    unfold cp at c
    have hs := allTo_succ (ok := kpAt far K x) (n := k)
    have hd : kpAt far K x k = decide (far * far ≤ farSq x.f1 K[k].f1) := by unfold kpAt; rw [show K.getD k plcD = K[k] by simp [hl]]
    rw [hd] at hs
    have hff := sq_b (d := far) (by omega) (by omega)
    have hwf : wr .i64 (far * far) = far * far := wr_in (by omega) (by omega)
    obtain ⟨Z, hZ⟩ : ∃ Z, allTo (kpAt far K x) (k + 1) = Z := ⟨_, rfl⟩
    obtain ⟨Y, hY⟩ : ∃ Y, allTo (kpAt far K x) k = Y := ⟨_, rfl⟩
    rw [hZ, hY] at hs
    rw [hZ]
    rw [hY] at g8
    obtain ⟨F, hF⟩ : ∃ F, farSq x.f1 K[k].f1 = F := ⟨_, rfl⟩
    rw [hF] at c hs
    clear hZ hY hF hd hff hf
    cases Y
    · simp at hs
      subst hs
      clear c
      repeat' (first | intro _ | (simp [sxa, isPtrN, PV.pcs, elAt, setEl, inAt, elIn, setIn, isLst, cellsOf, Ex.ok, Ex.val, Opd.val, POp.dst, bin_int, binOK_int, bin_str, binOK_str, resOK, resV, RB.val, sub, putc, scB, scL, oneB, conf, Ex.val.eqP, Ex.val.eqL, negV, mxV, mnV, ← wr_eq, wr_zero, wr_one, wr_m1, bst_lst, byteC, partsOK, putAll, appV, nilV, slV, sslV, optB, optNum, and_assoc, exists_and_left, exists_eq_left', plc, *]) | refine CondS_d (fun h => ?_) (fun h => ?_) | refine CondS_b (fun h => ?_) (fun h => ?_) | refine GrdS_d (fun h => ?_) (fun h => ?_) | refine GrdS_b (fun h => ?_) (fun h => ?_) | refine OkS_i (by omega) ?_ | refine OkS_i ⟨by omega, by assumption⟩ ?_ | refine OkS_i ⟨by omega, by assumption, by assumption⟩ ?_ | fail)
    · by_cases hq : far * far ≤ F
      · simp [hq] at hs
        subst hs
        repeat' (first | intro _ | (simp [sxa, isPtrN, PV.pcs, elAt, setEl, inAt, elIn, setIn, isLst, cellsOf, Ex.ok, Ex.val, Opd.val, POp.dst, bin_int, binOK_int, bin_str, binOK_str, resOK, resV, RB.val, sub, putc, scB, scL, oneB, conf, Ex.val.eqP, Ex.val.eqL, negV, mxV, mnV, ← wr_eq, wr_zero, wr_one, wr_m1, bst_lst, byteC, partsOK, putAll, appV, nilV, slV, sslV, optB, optNum, and_assoc, exists_and_left, exists_eq_left', plc, *]) | refine CallS_i (c) ?_ | refine CallM_i (c) ?_ | refine CallE_i (c) ?_ | refine CallX_i (c) ?_ | refine CallB_i (c) ?_ | refine CondS_d (fun h => ?_) (fun h => ?_) | refine CondS_b (fun h => ?_) (fun h => ?_) | refine GrdS_d (fun h => ?_) (fun h => ?_) | refine GrdS_b (fun h => ?_) (fun h => ?_) | refine OkS_i (by omega) ?_ | refine OkS_i ⟨by omega, by assumption⟩ ?_ | refine OkS_i ⟨by omega, by assumption, by assumption⟩ ?_ | fail)
      · simp [hq] at hs
        subst hs
        repeat' (first | intro _ | (simp [sxa, isPtrN, PV.pcs, elAt, setEl, inAt, elIn, setIn, isLst, cellsOf, Ex.ok, Ex.val, Opd.val, POp.dst, bin_int, binOK_int, bin_str, binOK_str, resOK, resV, RB.val, sub, putc, scB, scL, oneB, conf, Ex.val.eqP, Ex.val.eqL, negV, mxV, mnV, ← wr_eq, wr_zero, wr_one, wr_m1, bst_lst, byteC, partsOK, putAll, appV, nilV, slV, sslV, optB, optNum, and_assoc, exists_and_left, exists_eq_left', plc, *]) | refine CallS_i (c) ?_ | refine CallM_i (c) ?_ | refine CallE_i (c) ?_ | refine CallX_i (c) ?_ | refine CallB_i (c) ?_ | refine CondS_d (fun h => ?_) (fun h => ?_) | refine CondS_b (fun h => ?_) (fun h => ?_) | refine GrdS_d (fun h => ?_) (fun h => ?_) | refine GrdS_b (fun h => ?_) (fun h => ?_) | refine OkS_i (by omega) ?_ | refine OkS_i ⟨by omega, by assumption⟩ ?_ | refine OkS_i ⟨by omega, by assumption, by assumption⟩ ?_ | fail)
  · have : k = K.length := by omega
    subst this
    repeat' (first | intro _ | (simp [sxa, isPtrN, PV.pcs, elAt, setEl, inAt, elIn, setIn, isLst, cellsOf, Ex.ok, Ex.val, Opd.val, POp.dst, bin_int, binOK_int, bin_str, binOK_str, resOK, resV, RB.val, sub, putc, scB, scL, oneB, conf, Ex.val.eqP, Ex.val.eqL, negV, mxV, mnV, ← wr_eq, wr_zero, wr_one, wr_m1, bst_lst, byteC, partsOK, putAll, appV, nilV, slV, sslV, optB, optNum, and_assoc, exists_and_left, exists_eq_left', *]) | refine CondS_d (fun h => ?_) (fun h => ?_) | refine CondS_b (fun h => ?_) (fun h => ?_) | refine GrdS_d (fun h => ?_) (fun h => ?_) | refine GrdS_b (fun h => ?_) (fun h => ?_) | refine OkS_i (by omega) ?_ | refine OkS_i ⟨by omega, by assumption⟩ ?_ | refine OkS_i ⟨by omega, by assumption, by assumption⟩ ?_ | fail)
theorem f122 (l : List Plc) (far : Int) (hl : l.length ≤ 1048576) : Fn Tryz.prog 122 true [.lst 4 false (l.map plc), i far] (.lst 4 false ((kept l far).map plc)) := by
  have cA := f151 l false hl
  have cR := f90 far 0 200
  by_cases hok : (arePl l && inR far 0 200) = true
  case neg =>
    have e : kept l far = [] := by unfold kept; rw [if_neg hok]
    rw [e]
    obtain ⟨b1, hb1⟩ : ∃ b, arePl l = b := ⟨_, rfl⟩
    obtain ⟨b2, hb2⟩ : ∃ b, inR far 0 200 = b := ⟨_, rfl⟩
    rw [hb1] at cA hok
    rw [hb2] at cR hok
    clear hb1 hb2 e
    refine Fn.by_sx hX (by kernel_rfl) c122 (by kernel_rfl) (by rfl) ?_
    simp [i122, sxa, isPtrN, PV.pcs, elAt, setEl, inAt, elIn, setIn, isLst, cellsOf, Ex.ok, Ex.val, Opd.val, POp.dst, bin_int, binOK_int, bin_str, binOK_str, resOK, resV, RB.val, sub, putc, scB, scL, oneB, conf, Ex.val.eqP, Ex.val.eqL, negV, mxV, mnV, ← wr_eq, wr_zero, wr_one, wr_m1, bst_lst, byteC, partsOK, putAll, appV, nilV, slV, sslV, optB, optNum, and_assoc, exists_and_left, exists_eq_left']
    cases b1 <;> cases b2
    all_goals first | (exfalso; exact hok rfl) | skip
    all_goals clear hok
    all_goals repeat' (first | intro _ | (simp [sxa, isPtrN, PV.pcs, elAt, setEl, inAt, elIn, setIn, isLst, cellsOf, Ex.ok, Ex.val, Opd.val, POp.dst, bin_int, binOK_int, bin_str, binOK_str, resOK, resV, RB.val, sub, putc, scB, scL, oneB, conf, Ex.val.eqP, Ex.val.eqL, negV, mxV, mnV, ← wr_eq, wr_zero, wr_one, wr_m1, bst_lst, byteC, partsOK, putAll, appV, nilV, slV, sslV, optB, optNum, and_assoc, exists_and_left, exists_eq_left', *]) | refine CallS_i (cA) ?_ | refine CallS_i (cR) ?_ | refine CallM_i (cA) ?_ | refine CallM_i (cR) ?_ | refine CallE_i (cA) ?_ | refine CallE_i (cR) ?_ | refine CallX_i (cA) ?_ | refine CallX_i (cR) ?_ | refine CallB_i (cA) ?_ | refine CallB_i (cR) ?_ | refine CondS_d (fun h => ?_) (fun h => ?_) | refine CondS_b (fun h => ?_) (fun h => ?_) | refine GrdS_d (fun h => ?_) (fun h => ?_) | refine GrdS_b (fun h => ?_) (fun h => ?_) | refine OkS_i (by omega) ?_ | refine OkS_i ⟨by omega, by assumption⟩ ?_ | refine OkS_i ⟨by omega, by assumption, by assumption⟩ ?_ | fail)
  simp only [Bool.and_eq_true] at hok
  have hl16 : l.length ≤ 16 := by have := hok.1; unfold arePl at this; simp at this; exact this.1
  have hf : 0 ≤ far ∧ far ≤ 200 := by have := hok.2; unfold inR at this; simpa using this
  have e : kept l far = kpTo far (pnTo l l.length) (pnTo l l.length).length := by unfold kept; rw [hok.1, hok.2]; rfl
  have cS := f152 l hl16
  rw [pn_srt (arePl_inc hok.1)] at cS
  have hSl := pnTo_len l l.length (Nat.le_refl _)
  rw [e]
  rw [hok.1] at cA
  rw [hok.2] at cR
  obtain ⟨S, hS⟩ : ∃ S, pnTo l l.length = S := ⟨_, rfl⟩
  rw [hS] at cS hSl ⊢
  clear e hS hok
  refine Fn.by_sx hX (by kernel_rfl) c122 (by kernel_rfl) (by rfl) ?_
  simp [i122, sxa, isPtrN, PV.pcs, elAt, setEl, inAt, elIn, setIn, isLst, cellsOf, Ex.ok, Ex.val, Opd.val, POp.dst, bin_int, binOK_int, bin_str, binOK_str, resOK, resV, RB.val, sub, putc, scB, scL, oneB, conf, Ex.val.eqP, Ex.val.eqL, negV, mxV, mnV, ← wr_eq, wr_zero, wr_one, wr_m1, bst_lst, byteC, partsOK, putAll, appV, nilV, slV, sslV, optB, optNum, and_assoc, exists_and_left, exists_eq_left']
  refine CallS_i (cA) ?_
  simp [sxa, isPtrN, PV.pcs, elAt, setEl, inAt, elIn, setIn, isLst, cellsOf, Ex.ok, Ex.val, Opd.val, POp.dst, bin_int, binOK_int, bin_str, binOK_str, resOK, resV, RB.val, sub, putc, scB, scL, oneB, conf, Ex.val.eqP, Ex.val.eqL, negV, mxV, mnV, ← wr_eq, wr_zero, wr_one, wr_m1, bst_lst, byteC, partsOK, putAll, appV, nilV, slV, sslV, optB, optNum, and_assoc, exists_and_left, exists_eq_left']
  refine CallS_i (cR) ?_
  simp [sxa, isPtrN, PV.pcs, elAt, setEl, inAt, elIn, setIn, isLst, cellsOf, Ex.ok, Ex.val, Opd.val, POp.dst, bin_int, binOK_int, bin_str, binOK_str, resOK, resV, RB.val, sub, putc, scB, scL, oneB, conf, Ex.val.eqP, Ex.val.eqL, negV, mxV, mnV, ← wr_eq, wr_zero, wr_one, wr_m1, bst_lst, byteC, partsOK, putAll, appV, nilV, slV, sslV, optB, optNum, and_assoc, exists_and_left, exists_eq_left']
  refine CallS_i (cS) ?_
  simp [sxa, isPtrN, PV.pcs, elAt, setEl, inAt, elIn, setIn, isLst, cellsOf, Ex.ok, Ex.val, Opd.val, POp.dst, bin_int, binOK_int, bin_str, binOK_str, resOK, resV, RB.val, sub, putc, scB, scL, oneB, conf, Ex.val.eqP, Ex.val.eqL, negV, mxV, mnV, ← wr_eq, wr_zero, wr_one, wr_m1, bst_lst, byteC, partsOK, putAll, appV, nilV, slV, sslV, optB, optNum, and_assoc, exists_and_left, exists_eq_left']
  clear cA cR cS
  refine sx_count S.length (fun n V => V 1 = i far ∧ V 22 = .lst 4 false (S.map plc) ∧ V 23 = i S.length ∧ V 5 = .lst 4 false ((kpTo far S n).map plc) ∧ V 24 = i n) 0 (by omega) (by simp [sxa, isPtrN, PV.pcs, elAt, setEl, inAt, elIn, setIn, isLst, cellsOf, Ex.ok, Ex.val, Opd.val, POp.dst, bin_int, binOK_int, bin_str, binOK_str, resOK, resV, RB.val, sub, putc, scB, scL, oneB, conf, Ex.val.eqP, Ex.val.eqL, negV, mxV, mnV, ← wr_eq, wr_zero, wr_one, wr_m1, bst_lst, byteC, partsOK, putAll, appV, nilV, slV, sslV, optB, optNum, and_assoc, exists_and_left, exists_eq_left', kpTo]) ?_
  rintro n V hn ⟨g1, g22, g23, g5, g24⟩
  have hw : wr .i64 ((n : Int) + 1) = n + 1 := wr_in (by omega) (by omega)
  have hkl := kpTo_len far S n hn
  rcases Nat.lt_or_ge n S.length with hlt | hge
  · have hI : (n : Int) < S.length := by omega
    have hsu : kpTo far S (n + 1) = if kpOK far (kpTo far S n) S[n] = true then kpTo far S n ++ [S[n]] else kpTo far S n := by rw [kpTo, show S.getD n plcD = S[n] by simp [hlt]]
    obtain ⟨K, hK⟩ : ∃ K, kpTo far S n = K := ⟨_, rfl⟩
    rw [hK] at hsu g5 hkl
    clear hK
    simp [sxa, isPtrN, PV.pcs, elAt, setEl, inAt, elIn, setIn, isLst, cellsOf, Ex.ok, Ex.val, Opd.val, POp.dst, bin_int, binOK_int, bin_str, binOK_str, resOK, resV, RB.val, sub, putc, scB, scL, oneB, conf, Ex.val.eqP, Ex.val.eqL, negV, mxV, mnV, ← wr_eq, wr_zero, wr_one, wr_m1, bst_lst, byteC, partsOK, putAll, appV, nilV, slV, sslV, optB, optNum, and_assoc, exists_and_left, exists_eq_left', g22, g23, g24, hI, hlt, g5, plc]
    refine sx_mono _ _ _ _ ?_ (l122_2 (K := K) (x := S[n]) (far := far) hf (by omega) (by simp [sxa, isPtrN, PV.pcs, elAt, setEl, inAt, elIn, setIn, isLst, cellsOf, Ex.ok, Ex.val, Opd.val, POp.dst, bin_int, binOK_int, bin_str, binOK_str, resOK, resV, RB.val, sub, putc, scB, scL, oneB, conf, Ex.val.eqP, Ex.val.eqL, negV, mxV, mnV, ← wr_eq, wr_zero, wr_one, wr_m1, bst_lst, byteC, partsOK, putAll, appV, nilV, slV, sslV, optB, optNum, and_assoc, exists_and_left, exists_eq_left', g1]) (by simp [sxa, isPtrN, PV.pcs, elAt, setEl, inAt, elIn, setIn, isLst, cellsOf, Ex.ok, Ex.val, Opd.val, POp.dst, bin_int, binOK_int, bin_str, binOK_str, resOK, resV, RB.val, sub, putc, scB, scL, oneB, conf, Ex.val.eqP, Ex.val.eqL, negV, mxV, mnV, ← wr_eq, wr_zero, wr_one, wr_m1, bst_lst, byteC, partsOK, putAll, appV, nilV, slV, sslV, optB, optNum, and_assoc, exists_and_left, exists_eq_left']) (by simp [sxa, isPtrN, PV.pcs, elAt, setEl, inAt, elIn, setIn, isLst, cellsOf, Ex.ok, Ex.val, Opd.val, POp.dst, bin_int, binOK_int, bin_str, binOK_str, resOK, resV, RB.val, sub, putc, scB, scL, oneB, conf, Ex.val.eqP, Ex.val.eqL, negV, mxV, mnV, ← wr_eq, wr_zero, wr_one, wr_m1, bst_lst, byteC, partsOK, putAll, appV, nilV, slV, sslV, optB, optNum, and_assoc, exists_and_left, exists_eq_left', plc]) (by simp [sxa, isPtrN, PV.pcs, elAt, setEl, inAt, elIn, setIn, isLst, cellsOf, Ex.ok, Ex.val, Opd.val, POp.dst, bin_int, binOK_int, bin_str, binOK_str, resOK, resV, RB.val, sub, putc, scB, scL, oneB, conf, Ex.val.eqP, Ex.val.eqL, negV, mxV, mnV, ← wr_eq, wr_zero, wr_one, wr_m1, bst_lst, byteC, partsOK, putAll, appV, nilV, slV, sslV, optB, optNum, and_assoc, exists_and_left, exists_eq_left']) (by simp [sxa, isPtrN, PV.pcs, elAt, setEl, inAt, elIn, setIn, isLst, cellsOf, Ex.ok, Ex.val, Opd.val, POp.dst, bin_int, binOK_int, bin_str, binOK_str, resOK, resV, RB.val, sub, putc, scB, scL, oneB, conf, Ex.val.eqP, Ex.val.eqL, negV, mxV, mnV, ← wr_eq, wr_zero, wr_one, wr_m1, bst_lst, byteC, partsOK, putAll, appV, nilV, slV, sslV, optB, optNum, and_assoc, exists_and_left, exists_eq_left']) (by simp [sxa, isPtrN, PV.pcs, elAt, setEl, inAt, elIn, setIn, isLst, cellsOf, Ex.ok, Ex.val, Opd.val, POp.dst, bin_int, binOK_int, bin_str, binOK_str, resOK, resV, RB.val, sub, putc, scB, scL, oneB, conf, Ex.val.eqP, Ex.val.eqL, negV, mxV, mnV, ← wr_eq, wr_zero, wr_one, wr_m1, bst_lst, byteC, partsOK, putAll, appV, nilV, slV, sslV, optB, optNum, and_assoc, exists_and_left, exists_eq_left']))
    rintro y W ⟨rfl, w1, w5, w7, w22, w23, w24, w8⟩
    simp [sxa, isPtrN, PV.pcs, elAt, setEl, inAt, elIn, setIn, isLst, cellsOf, Ex.ok, Ex.val, Opd.val, POp.dst, bin_int, binOK_int, bin_str, binOK_str, resOK, resV, RB.val, sub, putc, scB, scL, oneB, conf, Ex.val.eqP, Ex.val.eqL, negV, mxV, mnV, ← wr_eq, wr_zero, wr_one, wr_m1, bst_lst, byteC, partsOK, putAll, appV, nilV, slV, sslV, optB, optNum, and_assoc, exists_and_left, exists_eq_left', g5, g22, g23, g24] at w5 w22 w23 w24
    obtain ⟨b, hb⟩ : ∃ b, kpOK far K S[n] = b := ⟨_, rfl⟩
    rw [hb] at hsu w8
    clear hb g1 g22 g23 g5 g24
    cases b
    · simp at hsu
      repeat' (first | intro _ | (simp [sxa, isPtrN, PV.pcs, elAt, setEl, inAt, elIn, setIn, isLst, cellsOf, Ex.ok, Ex.val, Opd.val, POp.dst, bin_int, binOK_int, bin_str, binOK_str, resOK, resV, RB.val, sub, putc, scB, scL, oneB, conf, Ex.val.eqP, Ex.val.eqL, negV, mxV, mnV, ← wr_eq, wr_zero, wr_one, wr_m1, bst_lst, byteC, partsOK, putAll, appV, nilV, slV, sslV, optB, optNum, and_assoc, exists_and_left, exists_eq_left', plc, *]) | refine CondS_d (fun h => ?_) (fun h => ?_) | refine CondS_b (fun h => ?_) (fun h => ?_) | refine GrdS_d (fun h => ?_) (fun h => ?_) | refine GrdS_b (fun h => ?_) (fun h => ?_) | refine OkS_i (by omega) ?_ | refine OkS_i ⟨by omega, by assumption⟩ ?_ | refine OkS_i ⟨by omega, by assumption, by assumption⟩ ?_ | fail)
      all_goals simp_all
    · simp at hsu
      repeat' (first | intro _ | (simp [sxa, isPtrN, PV.pcs, elAt, setEl, inAt, elIn, setIn, isLst, cellsOf, Ex.ok, Ex.val, Opd.val, POp.dst, bin_int, binOK_int, bin_str, binOK_str, resOK, resV, RB.val, sub, putc, scB, scL, oneB, conf, Ex.val.eqP, Ex.val.eqL, negV, mxV, mnV, ← wr_eq, wr_zero, wr_one, wr_m1, bst_lst, byteC, partsOK, putAll, appV, nilV, slV, sslV, optB, optNum, and_assoc, exists_and_left, exists_eq_left', plc, *]) | refine CondS_d (fun h => ?_) (fun h => ?_) | refine CondS_b (fun h => ?_) (fun h => ?_) | refine GrdS_d (fun h => ?_) (fun h => ?_) | refine GrdS_b (fun h => ?_) (fun h => ?_) | refine OkS_i (by omega) ?_ | refine OkS_i ⟨by omega, by assumption⟩ ?_ | refine OkS_i ⟨by omega, by assumption, by assumption⟩ ?_ | fail)
      all_goals first | omega | simp_all [plc]
  · have : n = S.length := by omega
    subst this
    repeat' (first | intro _ | (simp [sxa, isPtrN, PV.pcs, elAt, setEl, inAt, elIn, setIn, isLst, cellsOf, Ex.ok, Ex.val, Opd.val, POp.dst, bin_int, binOK_int, bin_str, binOK_str, resOK, resV, RB.val, sub, putc, scB, scL, oneB, conf, Ex.val.eqP, Ex.val.eqL, negV, mxV, mnV, ← wr_eq, wr_zero, wr_one, wr_m1, bst_lst, byteC, partsOK, putAll, appV, nilV, slV, sslV, optB, optNum, and_assoc, exists_and_left, exists_eq_left', *]) | refine CondS_d (fun h => ?_) (fun h => ?_) | refine CondS_b (fun h => ?_) (fun h => ?_) | refine GrdS_d (fun h => ?_) (fun h => ?_) | refine GrdS_b (fun h => ?_) (fun h => ?_) | refine OkS_i (by omega) ?_ | refine OkS_i ⟨by omega, by assumption⟩ ?_ | refine OkS_i ⟨by omega, by assumption, by assumption⟩ ?_ | fail)
theorem f77 (l : List Plc) (nl : Bool) (far : Int) (hl : l.length ≤ 1048576) : Fn Tryz.prog 77 true [.lst 4 nl (l.map plc), i far] (.lst 1 false ((thin l far).map fun m => [i m])) := by
  have cA := f118 l nl hl
  have cR := f88 far 0 200
  by_cases hok : (arePl l && inR far 0 200) = true
  case neg =>
    have e : thin l far = [] := by unfold thin kept; rw [if_neg hok]; simp [srI]
    rw [e]
    obtain ⟨b1, hb1⟩ : ∃ b, arePl l = b := ⟨_, rfl⟩
    obtain ⟨b2, hb2⟩ : ∃ b, inR far 0 200 = b := ⟨_, rfl⟩
    rw [hb1] at cA hok
    rw [hb2] at cR hok
    clear hb1 hb2 e
    refine Fn.by_sx hX (by kernel_rfl) c77 (by kernel_rfl) (by rfl) ?_
    simp [i77, sxa, isPtrN, PV.pcs, elAt, setEl, inAt, elIn, setIn, isLst, cellsOf, Ex.ok, Ex.val, Opd.val, POp.dst, bin_int, binOK_int, bin_str, binOK_str, resOK, resV, RB.val, sub, putc, scB, scL, oneB, conf, Ex.val.eqP, Ex.val.eqL, negV, mxV, mnV, ← wr_eq, wr_zero, wr_one, wr_m1, bst_lst, byteC, partsOK, putAll, appV, nilV, slV, sslV, optB, optNum, and_assoc, exists_and_left, exists_eq_left']
    cases b1 <;> cases b2
    all_goals first | (exfalso; exact hok rfl) | skip
    all_goals clear hok
    all_goals repeat' (first | intro _ | (simp [sxa, isPtrN, PV.pcs, elAt, setEl, inAt, elIn, setIn, isLst, cellsOf, Ex.ok, Ex.val, Opd.val, POp.dst, bin_int, binOK_int, bin_str, binOK_str, resOK, resV, RB.val, sub, putc, scB, scL, oneB, conf, Ex.val.eqP, Ex.val.eqL, negV, mxV, mnV, ← wr_eq, wr_zero, wr_one, wr_m1, bst_lst, byteC, partsOK, putAll, appV, nilV, slV, sslV, optB, optNum, and_assoc, exists_and_left, exists_eq_left', *]) | refine CallS_i (cA) ?_ | refine CallS_i (cR) ?_ | refine CallM_i (cA) ?_ | refine CallM_i (cR) ?_ | refine CallE_i (cA) ?_ | refine CallE_i (cR) ?_ | refine CallX_i (cA) ?_ | refine CallX_i (cR) ?_ | refine CallB_i (cA) ?_ | refine CallB_i (cR) ?_ | refine CondS_d (fun h => ?_) (fun h => ?_) | refine CondS_b (fun h => ?_) (fun h => ?_) | refine GrdS_d (fun h => ?_) (fun h => ?_) | refine GrdS_b (fun h => ?_) (fun h => ?_) | refine OkS_i (by omega) ?_ | refine OkS_i ⟨by omega, by assumption⟩ ?_ | refine OkS_i ⟨by omega, by assumption, by assumption⟩ ?_ | fail)
  rw [← thin_pu]
  simp only [Bool.and_eq_true] at hok
  have hl16 : l.length ≤ 16 := by have := hok.1; unfold arePl at this; simp at this; exact this.1
  have hf : 0 ≤ far ∧ far ≤ 200 := by have := hok.2; unfold inR at this; simpa using this
  have e : kept l far = kpTo far (pnTo l l.length) (pnTo l l.length).length := by unfold kept; rw [hok.1, hok.2]; rfl
  have cK := f119 l nl far hl16 hf
  rw [← e] at cK
  have hKl := kept_len l far
  rw [hok.1] at cA
  rw [hok.2] at cR
  obtain ⟨K, hK⟩ : ∃ K, kept l far = K := ⟨_, rfl⟩
  rw [hK] at cK hKl ⊢
  clear e hK hok
  rw [List.length_map]
  refine Fn.by_sx hX (by kernel_rfl) c77 (by kernel_rfl) (by rfl) ?_
  simp [i77, sxa, isPtrN, PV.pcs, elAt, setEl, inAt, elIn, setIn, isLst, cellsOf, Ex.ok, Ex.val, Opd.val, POp.dst, bin_int, binOK_int, bin_str, binOK_str, resOK, resV, RB.val, sub, putc, scB, scL, oneB, conf, Ex.val.eqP, Ex.val.eqL, negV, mxV, mnV, ← wr_eq, wr_zero, wr_one, wr_m1, bst_lst, byteC, partsOK, putAll, appV, nilV, slV, sslV, optB, optNum, and_assoc, exists_and_left, exists_eq_left']
  refine CallS_i (cA) ?_
  simp [sxa, isPtrN, PV.pcs, elAt, setEl, inAt, elIn, setIn, isLst, cellsOf, Ex.ok, Ex.val, Opd.val, POp.dst, bin_int, binOK_int, bin_str, binOK_str, resOK, resV, RB.val, sub, putc, scB, scL, oneB, conf, Ex.val.eqP, Ex.val.eqL, negV, mxV, mnV, ← wr_eq, wr_zero, wr_one, wr_m1, bst_lst, byteC, partsOK, putAll, appV, nilV, slV, sslV, optB, optNum, and_assoc, exists_and_left, exists_eq_left']
  refine CallS_i (cR) ?_
  simp [sxa, isPtrN, PV.pcs, elAt, setEl, inAt, elIn, setIn, isLst, cellsOf, Ex.ok, Ex.val, Opd.val, POp.dst, bin_int, binOK_int, bin_str, binOK_str, resOK, resV, RB.val, sub, putc, scB, scL, oneB, conf, Ex.val.eqP, Ex.val.eqL, negV, mxV, mnV, ← wr_eq, wr_zero, wr_one, wr_m1, bst_lst, byteC, partsOK, putAll, appV, nilV, slV, sslV, optB, optNum, and_assoc, exists_and_left, exists_eq_left']
  refine CallS_i (cK) ?_
  simp [sxa, isPtrN, PV.pcs, elAt, setEl, inAt, elIn, setIn, isLst, cellsOf, Ex.ok, Ex.val, Opd.val, POp.dst, bin_int, binOK_int, bin_str, binOK_str, resOK, resV, RB.val, sub, putc, scB, scL, oneB, conf, Ex.val.eqP, Ex.val.eqL, negV, mxV, mnV, ← wr_eq, wr_zero, wr_one, wr_m1, bst_lst, byteC, partsOK, putAll, appV, nilV, slV, sslV, optB, optNum, and_assoc, exists_and_left, exists_eq_left']
  clear cA cR cK
  refine sx_count K.length (fun n V => V 6 = .lst 4 false (K.map plc) ∧ V 5 = .lst 1 false ((puTo (K.map (·.f0)) n).map fun m => [i m]) ∧ V 7 = i n) 0 (by omega) (by simp [sxa, isPtrN, PV.pcs, elAt, setEl, inAt, elIn, setIn, isLst, cellsOf, Ex.ok, Ex.val, Opd.val, POp.dst, bin_int, binOK_int, bin_str, binOK_str, resOK, resV, RB.val, sub, putc, scB, scL, oneB, conf, Ex.val.eqP, Ex.val.eqL, negV, mxV, mnV, ← wr_eq, wr_zero, wr_one, wr_m1, bst_lst, byteC, partsOK, putAll, appV, nilV, slV, sslV, optB, optNum, and_assoc, exists_and_left, exists_eq_left', puTo]) ?_
  rintro n V hn ⟨g6, g5, g7⟩
  have hw : wr .i64 ((n : Int) + 1) = n + 1 := wr_in (by omega) (by omega)
  have hpl := puTo_len (K.map (·.f0)) n
  rcases Nat.lt_or_ge n K.length with hlt | hge
  · have hI : (n : Int) < K.length := by omega
    have hsu : puTo (K.map (·.f0)) (n + 1) = putI (puTo (K.map (·.f0)) n) K[n].f0 := by rw [puTo]; simp [hlt]
    obtain ⟨Q, hQ⟩ : ∃ Q, puTo (K.map (·.f0)) n = Q := ⟨_, rfl⟩
    rw [hQ] at hsu g5 hpl
    have cP := f120 Q false K[n].f0 (by omega)
    clear hQ
    repeat' (first | intro _ | (simp [sxa, isPtrN, PV.pcs, elAt, setEl, inAt, elIn, setIn, isLst, cellsOf, Ex.ok, Ex.val, Opd.val, POp.dst, bin_int, binOK_int, bin_str, binOK_str, resOK, resV, RB.val, sub, putc, scB, scL, oneB, conf, Ex.val.eqP, Ex.val.eqL, negV, mxV, mnV, ← wr_eq, wr_zero, wr_one, wr_m1, bst_lst, byteC, partsOK, putAll, appV, nilV, slV, sslV, optB, optNum, and_assoc, exists_and_left, exists_eq_left', plc, *]) | refine CallS_i (cP) ?_ | refine CallM_i (cP) ?_ | refine CallE_i (cP) ?_ | refine CallX_i (cP) ?_ | refine CallB_i (cP) ?_ | refine CondS_d (fun h => ?_) (fun h => ?_) | refine CondS_b (fun h => ?_) (fun h => ?_) | refine GrdS_d (fun h => ?_) (fun h => ?_) | refine GrdS_b (fun h => ?_) (fun h => ?_) | refine OkS_i (by omega) ?_ | refine OkS_i ⟨by omega, by assumption⟩ ?_ | refine OkS_i ⟨by omega, by assumption, by assumption⟩ ?_ | fail)
    all_goals simp_all
  · have : n = K.length := by omega
    subst this
    repeat' (first | intro _ | (simp [sxa, isPtrN, PV.pcs, elAt, setEl, inAt, elIn, setIn, isLst, cellsOf, Ex.ok, Ex.val, Opd.val, POp.dst, bin_int, binOK_int, bin_str, binOK_str, resOK, resV, RB.val, sub, putc, scB, scL, oneB, conf, Ex.val.eqP, Ex.val.eqL, negV, mxV, mnV, ← wr_eq, wr_zero, wr_one, wr_m1, bst_lst, byteC, partsOK, putAll, appV, nilV, slV, sslV, optB, optNum, and_assoc, exists_and_left, exists_eq_left', *]) | refine CondS_d (fun h => ?_) (fun h => ?_) | refine CondS_b (fun h => ?_) (fun h => ?_) | refine GrdS_d (fun h => ?_) (fun h => ?_) | refine GrdS_b (fun h => ?_) (fun h => ?_) | refine OkS_i (by omega) ?_ | refine OkS_i ⟨by omega, by assumption⟩ ?_ | refine OkS_i ⟨by omega, by assumption, by assumption⟩ ?_ | fail)
theorem f82 (l : List Plc) (far : Int) (hl : l.length ≤ 1048576) : Fn Tryz.prog 82 true [.lst 4 false (l.map plc), i far] (.lst 1 false ((thin l far).map fun m => [i m])) := by
  have cK := f122 l far hl
  have hKl := kept_len l far
  obtain ⟨K, hK⟩ : ∃ K, kept l far = K := ⟨_, rfl⟩
  have hT : thin l far = (K.map (·.f0)).mergeSort fun x y => decide (x ≤ y) := by rw [← hK]; rfl
  rw [hK] at cK hKl
  have hIl : (K.map (·.f0)).length = K.length := List.length_map _
  have hIs : ∀ n, (hn : n < K.length) → ((K.map (·.f0)).take (n + 1)).map (fun m => [i m]) = ((K.map (·.f0)).take n).map (fun m => [i m]) ++ [[i K[n].f0]] := by
    intro n hn
    rw [List.take_add_one, List.getElem?_map, List.getElem?_eq_getElem hn, List.map_append]
    rfl
  obtain ⟨I, hI⟩ : ∃ I, K.map (·.f0) = I := ⟨_, rfl⟩
  rw [hI] at hT hIl
  simp only [hI] at hIs
  have cS := f84 false I (by omega)
  rw [← hT] at cS
  obtain ⟨T, hTT⟩ : ∃ T, thin l far = T := ⟨_, rfl⟩
  rw [hTT] at cS ⊢
  clear hT hTT hK hI
  refine Fn.by_sx hX (by kernel_rfl) c82 (by kernel_rfl) (by rfl) ?_
  simp [i82, sxa, isPtrN, PV.pcs, elAt, setEl, inAt, elIn, setIn, isLst, cellsOf, Ex.ok, Ex.val, Opd.val, POp.dst, bin_int, binOK_int, bin_str, binOK_str, resOK, resV, RB.val, sub, putc, scB, scL, oneB, conf, Ex.val.eqP, Ex.val.eqL, negV, mxV, mnV, ← wr_eq, wr_zero, wr_one, wr_m1, bst_lst, byteC, partsOK, putAll, appV, nilV, slV, sslV, optB, optNum, and_assoc, exists_and_left, exists_eq_left']
  refine CallS_i (cK) ?_
  simp [sxa, isPtrN, PV.pcs, elAt, setEl, inAt, elIn, setIn, isLst, cellsOf, Ex.ok, Ex.val, Opd.val, POp.dst, bin_int, binOK_int, bin_str, binOK_str, resOK, resV, RB.val, sub, putc, scB, scL, oneB, conf, Ex.val.eqP, Ex.val.eqL, negV, mxV, mnV, ← wr_eq, wr_zero, wr_one, wr_m1, bst_lst, byteC, partsOK, putAll, appV, nilV, slV, sslV, optB, optNum, and_assoc, exists_and_left, exists_eq_left']
  clear cK
  obtain ⟨B, hB⟩ : ∃ B : Nat → List (List PV), (fun n => (I.take n).map fun m => [i m]) = B := ⟨_, rfl⟩
  have hBn : ∀ n, ((I.take n).map fun m => [i m]) = B n := fun n => by rw [← hB]
  have hB0 : B 0 = [] := by rw [← hB]; simp
  have hBl : B K.length = I.map fun m => [i m] := by rw [← hB, ← hIl]; simp
  have hBlen : ∀ n, (B n).length ≤ K.length := fun n => by rw [← hB]; simp; omega
  simp only [hBn] at hIs
  clear hB hBn
  refine sx_count K.length (fun n V => V 11 = .lst 4 false (K.map plc) ∧ V 12 = i K.length ∧ V 13 = i n ∧ V 5 = .lst 1 false (B n)) 0 (by omega) (by simp [sxa, isPtrN, PV.pcs, elAt, setEl, inAt, elIn, setIn, isLst, cellsOf, Ex.ok, Ex.val, Opd.val, POp.dst, bin_int, binOK_int, bin_str, binOK_str, resOK, resV, RB.val, sub, putc, scB, scL, oneB, conf, Ex.val.eqP, Ex.val.eqL, negV, mxV, mnV, ← wr_eq, wr_zero, wr_one, wr_m1, bst_lst, byteC, partsOK, putAll, appV, nilV, slV, sslV, optB, optNum, and_assoc, exists_and_left, exists_eq_left', hB0]) ?_
  rintro n V hn ⟨g11, g12, g13, g5⟩
  have hw : wr .i64 ((n : Int) + 1) = n + 1 := wr_in (by omega) (by omega)
  rcases Nat.lt_or_ge n K.length with hlt | hge
  · have hI : (n : Int) < K.length := by omega
    have hsu := hIs n hlt
    have hln := hBlen n
    obtain ⟨Q, hQ⟩ : ∃ Q, B n = Q := ⟨_, rfl⟩
    rw [hQ] at hsu g5 hln
    clear hQ cS hIs hBlen hBl hB0
    repeat' (first | intro _ | (simp [sxa, isPtrN, PV.pcs, elAt, setEl, inAt, elIn, setIn, isLst, cellsOf, Ex.ok, Ex.val, Opd.val, POp.dst, bin_int, binOK_int, bin_str, binOK_str, resOK, resV, RB.val, sub, putc, scB, scL, oneB, conf, Ex.val.eqP, Ex.val.eqL, negV, mxV, mnV, ← wr_eq, wr_zero, wr_one, wr_m1, bst_lst, byteC, partsOK, putAll, appV, nilV, slV, sslV, optB, optNum, and_assoc, exists_and_left, exists_eq_left', plc, *]) | refine CondS_d (fun h => ?_) (fun h => ?_) | refine CondS_b (fun h => ?_) (fun h => ?_) | refine GrdS_d (fun h => ?_) (fun h => ?_) | refine GrdS_b (fun h => ?_) (fun h => ?_) | refine OkS_i (by omega) ?_ | refine OkS_i ⟨by omega, by assumption⟩ ?_ | refine OkS_i ⟨by omega, by assumption, by assumption⟩ ?_ | fail)
    all_goals first | omega | simp_all
  · have : n = K.length := by omega
    subst this
    rw [hBl] at g5
    clear hIs hBlen hBl hB0
    simp [sxa, isPtrN, PV.pcs, elAt, setEl, inAt, elIn, setIn, isLst, cellsOf, Ex.ok, Ex.val, Opd.val, POp.dst, bin_int, binOK_int, bin_str, binOK_str, resOK, resV, RB.val, sub, putc, scB, scL, oneB, conf, Ex.val.eqP, Ex.val.eqL, negV, mxV, mnV, ← wr_eq, wr_zero, wr_one, wr_m1, bst_lst, byteC, partsOK, putAll, appV, nilV, slV, sslV, optB, optNum, and_assoc, exists_and_left, exists_eq_left', g11, g12, g13, g5]
    refine CallM_i (cS) ?_
    simp [sxa, isPtrN, PV.pcs, elAt, setEl, inAt, elIn, setIn, isLst, cellsOf, Ex.ok, Ex.val, Opd.val, POp.dst, bin_int, binOK_int, bin_str, binOK_str, resOK, resV, RB.val, sub, putc, scB, scL, oneB, conf, Ex.val.eqP, Ex.val.eqL, negV, mxV, mnV, ← wr_eq, wr_zero, wr_one, wr_m1, bst_lst, byteC, partsOK, putAll, appV, nilV, slV, sslV, optB, optNum, and_assoc, exists_and_left, exists_eq_left']
end Go.Eng
namespace Go.Eng
open Go Go.Proofs Geo
set_option linter.unusedSimpArgs false
set_option linter.unusedVariables false
set_option maxRecDepth 20000
set_option maxHeartbeats 1000000

/-! what is shown: sources. WRITES -/
theorem feat1 {x : Ft} (h : wFeat x = true) (h1 : x.f1 = 1) : x.f4.length = 1 := by
  unfold wFeat wShape at h
  rw [if_pos h1] at h
  simp only [Bool.and_eq_true, decide_eq_true_eq] at h
  exact h.2.1
def plTo (l : List Ft) (n : Nat) : List Plc := ((l.take n).filter fun x => decide (x.f1 = 1)).map plOf
theorem plTo_succ {l : List Ft} {n : Nat} (h : n < l.length) : plTo l (n + 1) = plTo l n ++ (if l[n].f1 = 1 then [plOf l[n]] else []) := by
  unfold plTo
  rw [List.take_add_one, List.getElem?_eq_getElem h, List.filter_append, List.map_append]
  by_cases h1 : l[n].f1 = 1 <;> simp [h1]
theorem plTo_len (l : List Ft) (n : Nat) : (plTo l n).length ≤ l.length := by
  unfold plTo
  rw [List.length_map]
  exact Nat.le_trans (List.length_filter_le ..) (List.length_take_le' ..)
theorem plsOf_len (l : List Ft) : (plsOf l).length ≤ l.length := by
  unfold plsOf
  split
  · rw [List.length_map]; exact List.length_filter_le ..
  · exact Nat.zero_le _
theorem f78 (l : List Ft) (nl : Bool) (hl : l.length ≤ 1048576) (hb : ∀ x ∈ l, x.okay) : Fn Tryz.prog 78 true [.lst 5 nl (l.map ft)] (.lst 4 false ((plsOf l).map plc)) := by
  have cS := f49 l nl (by omega) hb
  by_cases hs : wSrc l = true
  case neg =>
    have hs : wSrc l = false := by simpa using hs
    rw [hs] at cS
    have hp : plsOf l = [] := by unfold plsOf; rw [hs]; rfl
    rw [hp]
    refine Fn.by_sx hX (by kernel_rfl) c78 (by kernel_rfl) (by rfl) ?_
    simp [i78, sxa, isPtrN, PV.pcs, elAt, setEl, inAt, elIn, setIn, isLst, cellsOf, Ex.ok, Ex.val, Opd.val, POp.dst, bin_int, binOK_int, bin_str, binOK_str, resOK, resV, RB.val, sub, putc, scB, scL, oneB, conf, Ex.val.eqP, Ex.val.eqL, negV, mxV, mnV, ← wr_eq, wr_zero, wr_one, wr_m1, bst_lst, byteC, partsOK, putAll, appV, nilV, slV, sslV, optB, optNum, and_assoc, exists_and_left, exists_eq_left']
    refine sx_count l.length (fun n V => V 0 = .lst 5 nl (l.map ft) ∧ V 4 = i n ∧ V 3 = .lst 4 false []) 0 (by omega) (by simp [sxa, isPtrN, PV.pcs, elAt, setEl, inAt, elIn, setIn, isLst, cellsOf, Ex.ok, Ex.val, Opd.val, POp.dst, bin_int, binOK_int, bin_str, binOK_str, resOK, resV, RB.val, sub, putc, scB, scL, oneB, conf, Ex.val.eqP, Ex.val.eqL, negV, mxV, mnV, ← wr_eq, wr_zero, wr_one, wr_m1, bst_lst, byteC, partsOK, putAll, appV, nilV, slV, sslV, optB, optNum, and_assoc, exists_and_left, exists_eq_left']) ?_
    rintro n V hn ⟨h0, h4, h3⟩
    simp [sxa, isPtrN, PV.pcs, elAt, setEl, inAt, elIn, setIn, isLst, cellsOf, Ex.ok, Ex.val, Opd.val, POp.dst, bin_int, binOK_int, bin_str, binOK_str, resOK, resV, RB.val, sub, putc, scB, scL, oneB, conf, Ex.val.eqP, Ex.val.eqL, negV, mxV, mnV, ← wr_eq, wr_zero, wr_one, wr_m1, bst_lst, byteC, partsOK, putAll, appV, nilV, slV, sslV, optB, optNum, and_assoc, exists_and_left, exists_eq_left', h0, h4]
    refine GrdS_d (fun hlt => ?_) (fun hge => ?_)
    · repeat' (first | intro _ | (simp [sxa, isPtrN, PV.pcs, elAt, setEl, inAt, elIn, setIn, isLst, cellsOf, Ex.ok, Ex.val, Opd.val, POp.dst, bin_int, binOK_int, bin_str, binOK_str, resOK, resV, RB.val, sub, putc, scB, scL, oneB, conf, Ex.val.eqP, Ex.val.eqL, negV, mxV, mnV, ← wr_eq, wr_zero, wr_one, wr_m1, bst_lst, byteC, partsOK, putAll, appV, nilV, slV, sslV, optB, optNum, and_assoc, exists_and_left, exists_eq_left', *]) | refine CallS_i (cS) ?_ | refine CallM_i (cS) ?_ | refine CallE_i (cS) ?_ | refine CallX_i (cS) ?_ | refine CallB_i (cS) ?_ | refine CondS_d (fun h => ?_) (fun h => ?_) | refine CondS_b (fun h => ?_) (fun h => ?_) | refine GrdS_d (fun h => ?_) (fun h => ?_) | refine GrdS_b (fun h => ?_) (fun h => ?_) | refine OkS_i (by omega) ?_ | refine OkS_i ⟨by omega, by assumption⟩ ?_ | refine OkS_i ⟨by omega, by assumption, by assumption⟩ ?_ | fail)
    · repeat' (first | intro _ | (simp [sxa, isPtrN, PV.pcs, elAt, setEl, inAt, elIn, setIn, isLst, cellsOf, Ex.ok, Ex.val, Opd.val, POp.dst, bin_int, binOK_int, bin_str, binOK_str, resOK, resV, RB.val, sub, putc, scB, scL, oneB, conf, Ex.val.eqP, Ex.val.eqL, negV, mxV, mnV, ← wr_eq, wr_zero, wr_one, wr_m1, bst_lst, byteC, partsOK, putAll, appV, nilV, slV, sslV, optB, optNum, and_assoc, exists_and_left, exists_eq_left', *]) | refine CondS_d (fun h => ?_) (fun h => ?_) | refine CondS_b (fun h => ?_) (fun h => ?_) | refine GrdS_d (fun h => ?_) (fun h => ?_) | refine GrdS_b (fun h => ?_) (fun h => ?_) | refine OkS_i (by omega) ?_ | refine OkS_i ⟨by omega, by assumption⟩ ?_ | refine OkS_i ⟨by omega, by assumption, by assumption⟩ ?_ | fail)
  rw [hs] at cS
  have hsi := wSrc_iff.1 hs
  have hp : plsOf l = plTo l l.length := by unfold plsOf plTo; rw [if_pos hs, List.take_length]
  rw [hp]
  clear hp hs
  refine Fn.by_sx hX (by kernel_rfl) c78 (by kernel_rfl) (by rfl) ?_
  simp [i78, sxa, isPtrN, PV.pcs, elAt, setEl, inAt, elIn, setIn, isLst, cellsOf, Ex.ok, Ex.val, Opd.val, POp.dst, bin_int, binOK_int, bin_str, binOK_str, resOK, resV, RB.val, sub, putc, scB, scL, oneB, conf, Ex.val.eqP, Ex.val.eqL, negV, mxV, mnV, ← wr_eq, wr_zero, wr_one, wr_m1, bst_lst, byteC, partsOK, putAll, appV, nilV, slV, sslV, optB, optNum, and_assoc, exists_and_left, exists_eq_left']
  refine sx_count l.length (fun n V => V 0 = .lst 5 nl (l.map ft) ∧ V 4 = i n ∧ V 3 = .lst 4 false ((plTo l n).map plc)) 0 (by omega) (by simp [sxa, isPtrN, PV.pcs, elAt, setEl, inAt, elIn, setIn, isLst, cellsOf, Ex.ok, Ex.val, Opd.val, POp.dst, bin_int, binOK_int, bin_str, binOK_str, resOK, resV, RB.val, sub, putc, scB, scL, oneB, conf, Ex.val.eqP, Ex.val.eqL, negV, mxV, mnV, ← wr_eq, wr_zero, wr_one, wr_m1, bst_lst, byteC, partsOK, putAll, appV, nilV, slV, sslV, optB, optNum, and_assoc, exists_and_left, exists_eq_left', plTo]) ?_
  rintro n V hn ⟨h0, h4, h3⟩
  have hw : wr .i64 ((n : Int) + 1) = n + 1 := wr_in (by omega) (by omega)
  rcases Nat.lt_or_ge n l.length with hlt | hge
  · have hI : (n : Int) < l.length := by omega
    have hsu := plTo_succ hlt
    have hpl := plTo_len l n
    have h1 := fun h => feat1 (hsi.2.1 _ (List.getElem_mem hlt)) h
    have hl16 := hsi.1
    obtain ⟨Q, hQ⟩ : ∃ Q, plTo l n = Q := ⟨_, rfl⟩
    rw [hQ] at hsu h3 hpl
    clear hQ hsi hb
    by_cases hk : l[n].f1 = 1
    · have h11 := h1 hk
      have hpos : 0 < l[n].f4.length := by omega
      rw [if_pos hk] at hsu
      have e : plOf l[n] = ⟨l[n].f0, l[n].f4[0], l[n].f2⟩ := by unfold plOf; simp [hpos]
      rw [e] at hsu
      have h11I : (0 : Int) < l[n].f4.length := by omega
      clear e h1 h11
      repeat' (first | intro _ | (simp [sxa, isPtrN, PV.pcs, elAt, setEl, inAt, elIn, setIn, isLst, cellsOf, Ex.ok, Ex.val, Opd.val, POp.dst, bin_int, binOK_int, bin_str, binOK_str, resOK, resV, RB.val, sub, putc, scB, scL, oneB, conf, Ex.val.eqP, Ex.val.eqL, negV, mxV, mnV, ← wr_eq, wr_zero, wr_one, wr_m1, bst_lst, byteC, partsOK, putAll, appV, nilV, slV, sslV, optB, optNum, and_assoc, exists_and_left, exists_eq_left', ft, cp, plc, *]) | refine CallS_i (cS) ?_ | refine CallM_i (cS) ?_ | refine CallE_i (cS) ?_ | refine CallX_i (cS) ?_ | refine CallB_i (cS) ?_ | refine CondS_d (fun h => ?_) (fun h => ?_) | refine CondS_b (fun h => ?_) (fun h => ?_) | refine GrdS_d (fun h => ?_) (fun h => ?_) | refine GrdS_b (fun h => ?_) (fun h => ?_) | refine OkS_i (by omega) ?_ | refine OkS_i ⟨by omega, by assumption⟩ ?_ | refine OkS_i ⟨by omega, by assumption, by assumption⟩ ?_ | fail)
      all_goals first | omega | simp_all [plc]
    · rw [if_neg hk, List.append_nil] at hsu
      clear h1
      repeat' (first | intro _ | (simp [sxa, isPtrN, PV.pcs, elAt, setEl, inAt, elIn, setIn, isLst, cellsOf, Ex.ok, Ex.val, Opd.val, POp.dst, bin_int, binOK_int, bin_str, binOK_str, resOK, resV, RB.val, sub, putc, scB, scL, oneB, conf, Ex.val.eqP, Ex.val.eqL, negV, mxV, mnV, ← wr_eq, wr_zero, wr_one, wr_m1, bst_lst, byteC, partsOK, putAll, appV, nilV, slV, sslV, optB, optNum, and_assoc, exists_and_left, exists_eq_left', ft, cp, plc, *]) | refine CallS_i (cS) ?_ | refine CallM_i (cS) ?_ | refine CallE_i (cS) ?_ | refine CallX_i (cS) ?_ | refine CallB_i (cS) ?_ | refine CondS_d (fun h => ?_) (fun h => ?_) | refine CondS_b (fun h => ?_) (fun h => ?_) | refine GrdS_d (fun h => ?_) (fun h => ?_) | refine GrdS_b (fun h => ?_) (fun h => ?_) | refine OkS_i (by omega) ?_ | refine OkS_i ⟨by omega, by assumption⟩ ?_ | refine OkS_i ⟨by omega, by assumption, by assumption⟩ ?_ | fail)
      all_goals simp_all
  · have : n = l.length := by omega
    subst this
    clear hsi hb
    repeat' (first | intro _ | (simp [sxa, isPtrN, PV.pcs, elAt, setEl, inAt, elIn, setIn, isLst, cellsOf, Ex.ok, Ex.val, Opd.val, POp.dst, bin_int, binOK_int, bin_str, binOK_str, resOK, resV, RB.val, sub, putc, scB, scL, oneB, conf, Ex.val.eqP, Ex.val.eqL, negV, mxV, mnV, ← wr_eq, wr_zero, wr_one, wr_m1, bst_lst, byteC, partsOK, putAll, appV, nilV, slV, sslV, optB, optNum, and_assoc, exists_and_left, exists_eq_left', *]) | refine CondS_d (fun h => ?_) (fun h => ?_) | refine CondS_b (fun h => ?_) (fun h => ?_) | refine GrdS_d (fun h => ?_) (fun h => ?_) | refine GrdS_b (fun h => ?_) (fun h => ?_) | refine OkS_i (by omega) ?_ | refine OkS_i ⟨by omega, by assumption⟩ ?_ | refine OkS_i ⟨by omega, by assumption, by assumption⟩ ?_ | fail)
theorem f83 (l : List Ft) (nl : Bool) (hl : l.length ≤ 1048576) (hb : ∀ x ∈ l, x.okay) : Fn Tryz.prog 83 true [.lst 5 nl (l.map ft)] (.lst 4 false ((plsOf l).map plc)) := by
  have cS := f27 l nl (by omega) hb
  by_cases hs : wSrc l = true
  case neg =>
    have hs : wSrc l = false := by simpa using hs
    rw [hs] at cS
    have hp : plsOf l = [] := by unfold plsOf; rw [hs]; rfl
    rw [hp]
    clear hp hs
    refine Fn.by_sx hX (by kernel_rfl) c83 (by kernel_rfl) (by rfl) ?_
    simp [i83, sxa, isPtrN, PV.pcs, elAt, setEl, inAt, elIn, setIn, isLst, cellsOf, Ex.ok, Ex.val, Opd.val, POp.dst, bin_int, binOK_int, bin_str, binOK_str, resOK, resV, RB.val, sub, putc, scB, scL, oneB, conf, Ex.val.eqP, Ex.val.eqL, negV, mxV, mnV, ← wr_eq, wr_zero, wr_one, wr_m1, bst_lst, byteC, partsOK, putAll, appV, nilV, slV, sslV, optB, optNum, and_assoc, exists_and_left, exists_eq_left']
    repeat' (first | intro _ | (simp [sxa, isPtrN, PV.pcs, elAt, setEl, inAt, elIn, setIn, isLst, cellsOf, Ex.ok, Ex.val, Opd.val, POp.dst, bin_int, binOK_int, bin_str, binOK_str, resOK, resV, RB.val, sub, putc, scB, scL, oneB, conf, Ex.val.eqP, Ex.val.eqL, negV, mxV, mnV, ← wr_eq, wr_zero, wr_one, wr_m1, bst_lst, byteC, partsOK, putAll, appV, nilV, slV, sslV, optB, optNum, and_assoc, exists_and_left, exists_eq_left', *]) | refine CallS_i (cS) ?_ | refine CallM_i (cS) ?_ | refine CallE_i (cS) ?_ | refine CallX_i (cS) ?_ | refine CallB_i (cS) ?_ | refine CondS_d (fun h => ?_) (fun h => ?_) | refine CondS_b (fun h => ?_) (fun h => ?_) | refine GrdS_d (fun h => ?_) (fun h => ?_) | refine GrdS_b (fun h => ?_) (fun h => ?_) | refine OkS_i (by omega) ?_ | refine OkS_i ⟨by omega, by assumption⟩ ?_ | refine OkS_i ⟨by omega, by assumption, by assumption⟩ ?_ | fail)
  rw [hs] at cS
  have hsi := wSrc_iff.1 hs
  have hp : plsOf l = plTo l l.length := by unfold plsOf plTo; rw [if_pos hs, List.take_length]
  rw [hp]
  clear hp hs
  refine Fn.by_sx hX (by kernel_rfl) c83 (by kernel_rfl) (by rfl) ?_
  simp [i83, sxa, isPtrN, PV.pcs, elAt, setEl, inAt, elIn, setIn, isLst, cellsOf, Ex.ok, Ex.val, Opd.val, POp.dst, bin_int, binOK_int, bin_str, binOK_str, resOK, resV, RB.val, sub, putc, scB, scL, oneB, conf, Ex.val.eqP, Ex.val.eqL, negV, mxV, mnV, ← wr_eq, wr_zero, wr_one, wr_m1, bst_lst, byteC, partsOK, putAll, appV, nilV, slV, sslV, optB, optNum, and_assoc, exists_and_left, exists_eq_left']
  refine CallS_i (cS) ?_
  simp [sxa, isPtrN, PV.pcs, elAt, setEl, inAt, elIn, setIn, isLst, cellsOf, Ex.ok, Ex.val, Opd.val, POp.dst, bin_int, binOK_int, bin_str, binOK_str, resOK, resV, RB.val, sub, putc, scB, scL, oneB, conf, Ex.val.eqP, Ex.val.eqL, negV, mxV, mnV, ← wr_eq, wr_zero, wr_one, wr_m1, bst_lst, byteC, partsOK, putAll, appV, nilV, slV, sslV, optB, optNum, and_assoc, exists_and_left, exists_eq_left']
  clear cS
  refine sx_count l.length (fun n V => V 11 = .lst 5 nl (l.map ft) ∧ V 12 = i l.length ∧ V 13 = i n ∧ V 3 = .lst 4 false ((plTo l n).map plc)) 0 (by omega) (by simp [sxa, isPtrN, PV.pcs, elAt, setEl, inAt, elIn, setIn, isLst, cellsOf, Ex.ok, Ex.val, Opd.val, POp.dst, bin_int, binOK_int, bin_str, binOK_str, resOK, resV, RB.val, sub, putc, scB, scL, oneB, conf, Ex.val.eqP, Ex.val.eqL, negV, mxV, mnV, ← wr_eq, wr_zero, wr_one, wr_m1, bst_lst, byteC, partsOK, putAll, appV, nilV, slV, sslV, optB, optNum, and_assoc, exists_and_left, exists_eq_left', plTo]) ?_
  rintro n V hn ⟨h11, h12, h13, h3⟩
  have hw : wr .i64 ((n : Int) + 1) = n + 1 := wr_in (by omega) (by omega)
  rcases Nat.lt_or_ge n l.length with hlt | hge
  · have hI : (n : Int) < l.length := by omega
    have hsu := plTo_succ hlt
    have hpl := plTo_len l n
    have h1 := fun h => feat1 (hsi.2.1 _ (List.getElem_mem hlt)) h
    have hl16 := hsi.1
    obtain ⟨Q, hQ⟩ : ∃ Q, plTo l n = Q := ⟨_, rfl⟩
    rw [hQ] at hsu h3 hpl
    clear hQ hsi hb
    by_cases hk : l[n].f1 = 1
    · have h11' := h1 hk
      have hpos : 0 < l[n].f4.length := by omega
      rw [if_pos hk] at hsu
      have e : plOf l[n] = ⟨l[n].f0, l[n].f4[0], l[n].f2⟩ := by unfold plOf; simp [hpos]
      rw [e] at hsu
      have h11I : (0 : Int) < l[n].f4.length := by omega
      clear e h1 h11'
      repeat' (first | intro _ | (simp [sxa, isPtrN, PV.pcs, elAt, setEl, inAt, elIn, setIn, isLst, cellsOf, Ex.ok, Ex.val, Opd.val, POp.dst, bin_int, binOK_int, bin_str, binOK_str, resOK, resV, RB.val, sub, putc, scB, scL, oneB, conf, Ex.val.eqP, Ex.val.eqL, negV, mxV, mnV, ← wr_eq, wr_zero, wr_one, wr_m1, bst_lst, byteC, partsOK, putAll, appV, nilV, slV, sslV, optB, optNum, and_assoc, exists_and_left, exists_eq_left', ft, cp, plc, *]) | refine CondS_d (fun h => ?_) (fun h => ?_) | refine CondS_b (fun h => ?_) (fun h => ?_) | refine GrdS_d (fun h => ?_) (fun h => ?_) | refine GrdS_b (fun h => ?_) (fun h => ?_) | refine OkS_i (by omega) ?_ | refine OkS_i ⟨by omega, by assumption⟩ ?_ | refine OkS_i ⟨by omega, by assumption, by assumption⟩ ?_ | fail)
      all_goals first | omega | simp_all [plc]
    · rw [if_neg hk, List.append_nil] at hsu
      clear h1
      repeat' (first | intro _ | (simp [sxa, isPtrN, PV.pcs, elAt, setEl, inAt, elIn, setIn, isLst, cellsOf, Ex.ok, Ex.val, Opd.val, POp.dst, bin_int, binOK_int, bin_str, binOK_str, resOK, resV, RB.val, sub, putc, scB, scL, oneB, conf, Ex.val.eqP, Ex.val.eqL, negV, mxV, mnV, ← wr_eq, wr_zero, wr_one, wr_m1, bst_lst, byteC, partsOK, putAll, appV, nilV, slV, sslV, optB, optNum, and_assoc, exists_and_left, exists_eq_left', ft, cp, plc, *]) | refine CondS_d (fun h => ?_) (fun h => ?_) | refine CondS_b (fun h => ?_) (fun h => ?_) | refine GrdS_d (fun h => ?_) (fun h => ?_) | refine GrdS_b (fun h => ?_) (fun h => ?_) | refine OkS_i (by omega) ?_ | refine OkS_i ⟨by omega, by assumption⟩ ?_ | refine OkS_i ⟨by omega, by assumption, by assumption⟩ ?_ | fail)
      all_goals simp_all
  · have : n = l.length := by omega
    subst this
    clear hsi hb
    repeat' (first | intro _ | (simp [sxa, isPtrN, PV.pcs, elAt, setEl, inAt, elIn, setIn, isLst, cellsOf, Ex.ok, Ex.val, Opd.val, POp.dst, bin_int, binOK_int, bin_str, binOK_str, resOK, resV, RB.val, sub, putc, scB, scL, oneB, conf, Ex.val.eqP, Ex.val.eqL, negV, mxV, mnV, ← wr_eq, wr_zero, wr_one, wr_m1, bst_lst, byteC, partsOK, putAll, appV, nilV, slV, sslV, optB, optNum, and_assoc, exists_and_left, exists_eq_left', *]) | refine CondS_d (fun h => ?_) (fun h => ?_) | refine CondS_b (fun h => ?_) (fun h => ?_) | refine GrdS_d (fun h => ?_) (fun h => ?_) | refine GrdS_b (fun h => ?_) (fun h => ?_) | refine OkS_i (by omega) ?_ | refine OkS_i ⟨by omega, by assumption⟩ ?_ | refine OkS_i ⟨by omega, by assumption, by assumption⟩ ?_ | fail)
/-! features of a rank -/
theorem rkd_succ {l : List Ft} {r : Int} {n : Nat} (h : n < l.length) : rkd (l.take (n + 1)) r = rkd (l.take n) r ++ (if r ≤ l[n].f2 then [l[n]] else []) := by
  unfold rkd
  rw [List.take_add_one, List.getElem?_eq_getElem h, List.filter_append]
  by_cases h1 : r ≤ l[n].f2 <;> simp [h1]
theorem rkd_len (l : List Ft) (r : Int) : (rkd l r).length ≤ l.length := List.length_filter_le ..
theorem rkd_len2 (l : List Ft) (r : Int) (n : Nat) : (rkd (l.take n) r).length ≤ l.length := Nat.le_trans (List.length_filter_le ..) (List.length_take_le' ..)
theorem rkd_mem {l : List Ft} {r : Int} {x : Ft} (h : x ∈ rkd l r) : x ∈ l := (List.mem_filter.1 h).1
theorem f81 (l : List Ft) (nl : Bool) (r : Int) (hl : l.length ≤ 1048576) : Fn Tryz.prog 81 false [.lst 5 nl (l.map ft), i r] (.lst 5 false ((rkd l r).map ft)) := by
  refine Fn.by_sx hX (by kernel_rfl) c81 (by kernel_rfl) (by rfl) ?_
  simp [i81, sxa, isPtrN, PV.pcs, elAt, setEl, inAt, elIn, setIn, isLst, cellsOf, Ex.ok, Ex.val, Opd.val, POp.dst, bin_int, binOK_int, bin_str, binOK_str, resOK, resV, RB.val, sub, putc, scB, scL, oneB, conf, Ex.val.eqP, Ex.val.eqL, negV, mxV, mnV, ← wr_eq, wr_zero, wr_one, wr_m1, bst_lst, byteC, partsOK, putAll, appV, nilV, slV, sslV, optB, optNum, and_assoc, exists_and_left, exists_eq_left']
  refine sx_count l.length (fun n V => V 1 = i r ∧ V 9 = .lst 5 nl (l.map ft) ∧ V 10 = i l.length ∧ V 11 = i n ∧ V 5 = .lst 5 false ((rkd (l.take n) r).map ft)) 0 (by omega) (by simp [sxa, isPtrN, PV.pcs, elAt, setEl, inAt, elIn, setIn, isLst, cellsOf, Ex.ok, Ex.val, Opd.val, POp.dst, bin_int, binOK_int, bin_str, binOK_str, resOK, resV, RB.val, sub, putc, scB, scL, oneB, conf, Ex.val.eqP, Ex.val.eqL, negV, mxV, mnV, ← wr_eq, wr_zero, wr_one, wr_m1, bst_lst, byteC, partsOK, putAll, appV, nilV, slV, sslV, optB, optNum, and_assoc, exists_and_left, exists_eq_left', rkd]) ?_
  rintro n V hn ⟨h1, h9, h10, h11, h5⟩
  have hw : wr .i64 ((n : Int) + 1) = n + 1 := wr_in (by omega) (by omega)
  rcases Nat.lt_or_ge n l.length with hlt | hge
  · have hI : (n : Int) < l.length := by omega
    have hsu := rkd_succ (r := r) hlt
    have hpl := rkd_len2 l r n
    obtain ⟨Q, hQ⟩ : ∃ Q, rkd (l.take n) r = Q := ⟨_, rfl⟩
    obtain ⟨Q2, hQ2⟩ : ∃ Q, rkd (l.take (n + 1)) r = Q := ⟨_, rfl⟩
    rw [hQ, hQ2] at hsu
    rw [hQ] at h5 hpl
    rw [hQ2]
    clear hQ hQ2
    by_cases hk : r ≤ l[n].f2
    · rw [if_pos hk] at hsu
      subst hsu
      repeat' (first | intro _ | (simp [sxa, isPtrN, PV.pcs, elAt, setEl, inAt, elIn, setIn, isLst, cellsOf, Ex.ok, Ex.val, Opd.val, POp.dst, bin_int, binOK_int, bin_str, binOK_str, resOK, resV, RB.val, sub, putc, scB, scL, oneB, conf, Ex.val.eqP, Ex.val.eqL, negV, mxV, mnV, ← wr_eq, wr_zero, wr_one, wr_m1, bst_lst, byteC, partsOK, putAll, appV, nilV, slV, sslV, optB, optNum, and_assoc, exists_and_left, exists_eq_left', ft, *]) | refine CondS_d (fun h => ?_) (fun h => ?_) | refine CondS_b (fun h => ?_) (fun h => ?_) | refine GrdS_d (fun h => ?_) (fun h => ?_) | refine GrdS_b (fun h => ?_) (fun h => ?_) | refine OkS_i (by omega) ?_ | refine OkS_i ⟨by omega, by assumption⟩ ?_ | refine OkS_i ⟨by omega, by assumption, by assumption⟩ ?_ | fail)
      all_goals first | omega | simp_all [ft]
    · rw [if_neg hk, List.append_nil] at hsu
      subst hsu
      repeat' (first | intro _ | (simp [sxa, isPtrN, PV.pcs, elAt, setEl, inAt, elIn, setIn, isLst, cellsOf, Ex.ok, Ex.val, Opd.val, POp.dst, bin_int, binOK_int, bin_str, binOK_str, resOK, resV, RB.val, sub, putc, scB, scL, oneB, conf, Ex.val.eqP, Ex.val.eqL, negV, mxV, mnV, ← wr_eq, wr_zero, wr_one, wr_m1, bst_lst, byteC, partsOK, putAll, appV, nilV, slV, sslV, optB, optNum, and_assoc, exists_and_left, exists_eq_left', ft, *]) | refine CondS_d (fun h => ?_) (fun h => ?_) | refine CondS_b (fun h => ?_) (fun h => ?_) | refine GrdS_d (fun h => ?_) (fun h => ?_) | refine GrdS_b (fun h => ?_) (fun h => ?_) | refine OkS_i (by omega) ?_ | refine OkS_i ⟨by omega, by assumption⟩ ?_ | refine OkS_i ⟨by omega, by assumption, by assumption⟩ ?_ | fail)
      all_goals simp_all
  · have : n = l.length := by omega
    subst this
    rw [List.take_length] at h5
    repeat' (first | intro _ | (simp [sxa, isPtrN, PV.pcs, elAt, setEl, inAt, elIn, setIn, isLst, cellsOf, Ex.ok, Ex.val, Opd.val, POp.dst, bin_int, binOK_int, bin_str, binOK_str, resOK, resV, RB.val, sub, putc, scB, scL, oneB, conf, Ex.val.eqP, Ex.val.eqL, negV, mxV, mnV, ← wr_eq, wr_zero, wr_one, wr_m1, bst_lst, byteC, partsOK, putAll, appV, nilV, slV, sslV, optB, optNum, and_assoc, exists_and_left, exists_eq_left', *]) | refine CondS_d (fun h => ?_) (fun h => ?_) | refine CondS_b (fun h => ?_) (fun h => ?_) | refine GrdS_d (fun h => ?_) (fun h => ?_) | refine GrdS_b (fun h => ?_) (fun h => ?_) | refine OkS_i (by omega) ?_ | refine OkS_i ⟨by omega, by assumption⟩ ?_ | refine OkS_i ⟨by omega, by assumption, by assumption⟩ ?_ | fail)
theorem f76 (l : List Ft) (nl : Bool) (r : Int) (hl : l.length ≤ 1048576) (hp : ∀ x ∈ l, x.f4.length ≤ 1000000000) : Fn Tryz.prog 76 true [.lst 5 nl (l.map ft), i r] (.lst 5 false (((rkd l r).map Ft.fr).map ft)) := by
  refine Fn.by_sx hX (by kernel_rfl) c76 (by kernel_rfl) (by rfl) ?_
  simp [i76, sxa, isPtrN, PV.pcs, elAt, setEl, inAt, elIn, setIn, isLst, cellsOf, Ex.ok, Ex.val, Opd.val, POp.dst, bin_int, binOK_int, bin_str, binOK_str, resOK, resV, RB.val, sub, putc, scB, scL, oneB, conf, Ex.val.eqP, Ex.val.eqL, negV, mxV, mnV, ← wr_eq, wr_zero, wr_one, wr_m1, bst_lst, byteC, partsOK, putAll, appV, nilV, slV, sslV, optB, optNum, and_assoc, exists_and_left, exists_eq_left']
  refine sx_count l.length (fun n V => V 0 = .lst 5 nl (l.map ft) ∧ V 1 = i r ∧ V 6 = i n ∧ V 5 = .lst 5 false (((rkd (l.take n) r).map Ft.fr).map ft)) 0 (by omega) (by simp [sxa, isPtrN, PV.pcs, elAt, setEl, inAt, elIn, setIn, isLst, cellsOf, Ex.ok, Ex.val, Opd.val, POp.dst, bin_int, binOK_int, bin_str, binOK_str, resOK, resV, RB.val, sub, putc, scB, scL, oneB, conf, Ex.val.eqP, Ex.val.eqL, negV, mxV, mnV, ← wr_eq, wr_zero, wr_one, wr_m1, bst_lst, byteC, partsOK, putAll, appV, nilV, slV, sslV, optB, optNum, and_assoc, exists_and_left, exists_eq_left', rkd]) ?_
  rintro n V hn ⟨h0, h1, h6, h5⟩
  have hw : wr .i64 ((n : Int) + 1) = n + 1 := wr_in (by omega) (by omega)
  rcases Nat.lt_or_ge n l.length with hlt | hge
  · have hI : (n : Int) < l.length := by omega
    have hsu := rkd_succ (r := r) hlt
    have hpl := rkd_len2 l r n
    have cF := f117 l[n] (hp _ (List.getElem_mem hlt))
    unfold ft Ft.fr at cF
    obtain ⟨Q, hQ⟩ : ∃ Q, rkd (l.take n) r = Q := ⟨_, rfl⟩
    obtain ⟨Q2, hQ2⟩ : ∃ Q, rkd (l.take (n + 1)) r = Q := ⟨_, rfl⟩
    rw [hQ, hQ2] at hsu
    rw [hQ] at h5 hpl
    rw [hQ2]
    have hQl : ((Q.map Ft.fr).map ft).length = Q.length := by simp
    clear hQ hQ2 hp
    by_cases hk : r ≤ l[n].f2
    · rw [if_pos hk] at hsu
      have hsu2 : (Q2.map Ft.fr).map ft = (Q.map Ft.fr).map ft ++ [[i l[n].f0, i l[n].f1, i l[n].f2, .str l[n].f3, .lst 2 false (l[n].f4.map cp)]] := by rw [hsu]; simp [ft, Ft.fr]
      obtain ⟨U, hU⟩ : ∃ U, (Q.map Ft.fr).map ft = U := ⟨_, rfl⟩
      rw [hU] at hsu2 h5 hQl
      rw [hsu2]
      clear hsu hsu2 hU
      repeat' (first | intro _ | (simp [sxa, isPtrN, PV.pcs, elAt, setEl, inAt, elIn, setIn, isLst, cellsOf, Ex.ok, Ex.val, Opd.val, POp.dst, bin_int, binOK_int, bin_str, binOK_str, resOK, resV, RB.val, sub, putc, scB, scL, oneB, conf, Ex.val.eqP, Ex.val.eqL, negV, mxV, mnV, ← wr_eq, wr_zero, wr_one, wr_m1, bst_lst, byteC, partsOK, putAll, appV, nilV, slV, sslV, optB, optNum, and_assoc, exists_and_left, exists_eq_left', ft, *]) | refine CallS_i (cF) ?_ | refine CallM_i (cF) ?_ | refine CallE_i (cF) ?_ | refine CallX_i (cF) ?_ | refine CallB_i (cF) ?_ | refine CondS_d (fun h => ?_) (fun h => ?_) | refine CondS_b (fun h => ?_) (fun h => ?_) | refine GrdS_d (fun h => ?_) (fun h => ?_) | refine GrdS_b (fun h => ?_) (fun h => ?_) | refine OkS_i (by omega) ?_ | refine OkS_i ⟨by omega, by assumption⟩ ?_ | refine OkS_i ⟨by omega, by assumption, by assumption⟩ ?_ | fail)
      all_goals first | omega | simp_all [ft]
    · rw [if_neg hk, List.append_nil] at hsu
      subst hsu
      clear cF
      repeat' (first | intro _ | (simp [sxa, isPtrN, PV.pcs, elAt, setEl, inAt, elIn, setIn, isLst, cellsOf, Ex.ok, Ex.val, Opd.val, POp.dst, bin_int, binOK_int, bin_str, binOK_str, resOK, resV, RB.val, sub, putc, scB, scL, oneB, conf, Ex.val.eqP, Ex.val.eqL, negV, mxV, mnV, ← wr_eq, wr_zero, wr_one, wr_m1, bst_lst, byteC, partsOK, putAll, appV, nilV, slV, sslV, optB, optNum, and_assoc, exists_and_left, exists_eq_left', ft, *]) | refine CondS_d (fun h => ?_) (fun h => ?_) | refine CondS_b (fun h => ?_) (fun h => ?_) | refine GrdS_d (fun h => ?_) (fun h => ?_) | refine GrdS_b (fun h => ?_) (fun h => ?_) | refine OkS_i (by omega) ?_ | refine OkS_i ⟨by omega, by assumption⟩ ?_ | refine OkS_i ⟨by omega, by assumption, by assumption⟩ ?_ | fail)
      all_goals simp_all
  · have : n = l.length := by omega
    subst this
    rw [List.take_length] at h5
    clear hp
    repeat' (first | intro _ | (simp [sxa, isPtrN, PV.pcs, elAt, setEl, inAt, elIn, setIn, isLst, cellsOf, Ex.ok, Ex.val, Opd.val, POp.dst, bin_int, binOK_int, bin_str, binOK_str, resOK, resV, RB.val, sub, putc, scB, scL, oneB, conf, Ex.val.eqP, Ex.val.eqL, negV, mxV, mnV, ← wr_eq, wr_zero, wr_one, wr_m1, bst_lst, byteC, partsOK, putAll, appV, nilV, slV, sslV, optB, optNum, and_assoc, exists_and_left, exists_eq_left', *]) | refine CondS_d (fun h => ?_) (fun h => ?_) | refine CondS_b (fun h => ?_) (fun h => ?_) | refine GrdS_d (fun h => ?_) (fun h => ?_) | refine GrdS_b (fun h => ?_) (fun h => ?_) | refine OkS_i (by omega) ?_ | refine OkS_i ⟨by omega, by assumption⟩ ?_ | refine OkS_i ⟨by omega, by assumption, by assumption⟩ ?_ | fail)
/-! levels -/
theorem f75 (v : Lv) : Fn Tryz.prog 75 false [.agg (lv v)] (.bool (wLv v)) := by
  unfold lv
  refine Fn.by_sx hX (by kernel_rfl) c75 (by kernel_rfl) (by rfl) ?_
  simp [i75, sxa, isPtrN, PV.pcs, elAt, setEl, inAt, elIn, setIn, isLst, cellsOf, Ex.ok, Ex.val, Opd.val, POp.dst, bin_int, binOK_int, bin_str, binOK_str, resOK, resV, RB.val, sub, putc, scB, scL, oneB, conf, Ex.val.eqP, Ex.val.eqL, negV, mxV, mnV, ← wr_eq, wr_zero, wr_one, wr_m1, bst_lst, byteC, partsOK, putAll, appV, nilV, slV, sslV, optB, optNum, and_assoc, exists_and_left, exists_eq_left']
  repeat' (first | intro _ | (simp [sxa, isPtrN, PV.pcs, elAt, setEl, inAt, elIn, setIn, isLst, cellsOf, Ex.ok, Ex.val, Opd.val, POp.dst, bin_int, binOK_int, bin_str, binOK_str, resOK, resV, RB.val, sub, putc, scB, scL, oneB, conf, Ex.val.eqP, Ex.val.eqL, negV, mxV, mnV, ← wr_eq, wr_zero, wr_one, wr_m1, bst_lst, byteC, partsOK, putAll, appV, nilV, slV, sslV, optB, optNum, and_assoc, exists_and_left, exists_eq_left', *]) | refine CallS_b (f88 _ _ _) (fun h => ?_) (fun h => ?_) | refine CondS_d (fun h => ?_) (fun h => ?_) | refine CondS_b (fun h => ?_) (fun h => ?_) | refine GrdS_d (fun h => ?_) (fun h => ?_) | refine GrdS_b (fun h => ?_) (fun h => ?_) | refine OkS_i (by omega) ?_ | refine OkS_i ⟨by omega, by assumption⟩ ?_ | refine OkS_i ⟨by omega, by assumption, by assumption⟩ ?_ | fail)
  all_goals simp_all [wLv]
theorem f80 (v : Lv) : Fn Tryz.prog 80 false [.agg (lv v)] (.bool (wLv v)) := by
  unfold lv
  refine Fn.by_sx hX (by kernel_rfl) c80 (by kernel_rfl) (by rfl) ?_
  simp [i80, sxa, isPtrN, PV.pcs, elAt, setEl, inAt, elIn, setIn, isLst, cellsOf, Ex.ok, Ex.val, Opd.val, POp.dst, bin_int, binOK_int, bin_str, binOK_str, resOK, resV, RB.val, sub, putc, scB, scL, oneB, conf, Ex.val.eqP, Ex.val.eqL, negV, mxV, mnV, ← wr_eq, wr_zero, wr_one, wr_m1, bst_lst, byteC, partsOK, putAll, appV, nilV, slV, sslV, optB, optNum, and_assoc, exists_and_left, exists_eq_left']
  repeat' (first | intro _ | (simp [sxa, isPtrN, PV.pcs, elAt, setEl, inAt, elIn, setIn, isLst, cellsOf, Ex.ok, Ex.val, Opd.val, POp.dst, bin_int, binOK_int, bin_str, binOK_str, resOK, resV, RB.val, sub, putc, scB, scL, oneB, conf, Ex.val.eqP, Ex.val.eqL, negV, mxV, mnV, ← wr_eq, wr_zero, wr_one, wr_m1, bst_lst, byteC, partsOK, putAll, appV, nilV, slV, sslV, optB, optNum, and_assoc, exists_and_left, exists_eq_left', *]) | refine CallS_b (f90 _ _ _) (fun h => ?_) (fun h => ?_) | refine CondS_d (fun h => ?_) (fun h => ?_) | refine CondS_b (fun h => ?_) (fun h => ?_) | refine GrdS_d (fun h => ?_) (fun h => ?_) | refine GrdS_b (fun h => ?_) (fun h => ?_) | refine OkS_i (by omega) ?_ | refine OkS_i ⟨by omega, by assumption⟩ ?_ | refine OkS_i ⟨by omega, by assumption, by assumption⟩ ?_ | fail)
  all_goals simp_all [wLv]
/-! what is shown -/
def shAt (l : List Ft) (v : Lv) (n : Nat) : List Int := (((rkd l v.f0).take n).filter fun x => !decide (x.f1 = 1) || decide (x.f0 ∈ shT l v)).map (·.f0)
theorem shAt_succ {l : List Ft} {v : Lv} {n : Nat} (h : n < (rkd l v.f0).length) : shAt l v (n + 1) = shAt l v n ++ (if (!decide ((rkd l v.f0)[n].f1 = 1) || decide ((rkd l v.f0)[n].f0 ∈ shT l v)) = true then [(rkd l v.f0)[n].f0] else []) := by
  unfold shAt
  rw [List.take_add_one, List.getElem?_eq_getElem h, List.filter_append, List.map_append]
  by_cases h1 : (!decide ((rkd l v.f0)[n].f1 = 1) || decide ((rkd l v.f0)[n].f0 ∈ shT l v)) = true
  · rw [if_pos h1]; simp only [Option.toList_some, List.filter_cons, h1, if_true, List.filter_nil, List.map_cons, List.map_nil]
  · rw [if_neg h1]; simp only [Option.toList_some, List.filter_cons, h1, if_false, List.filter_nil, List.map_nil]; simp
theorem shAt_len (l : List Ft) (v : Lv) (n : Nat) : (shAt l v n).length ≤ l.length := by
  unfold shAt
  rw [List.length_map]
  exact Nat.le_trans (List.length_filter_le ..) (Nat.le_trans (List.length_take_le' ..) (rkd_len ..))
def Ft.nice (x : Ft) : Prop := x.okay ∧ x.f4.length ≤ 1000000000 ∧ x.nl = false
theorem nice_fr {x : Ft} (h : x.nl = false) : x.fr = x := by
  obtain ⟨a, b, d, e, f, g⟩ := x
  have : g = false := h
  subst this
  rfl
theorem nices_fr {s : List Ft} (h : ∀ y ∈ s, y.nl = false) : s.map Ft.fr = s := by
  induction s with
  | nil => rfl
  | cons x r ih => rw [List.map_cons, ih fun y hy => h y (List.mem_cons_of_mem _ hy), nice_fr (h x (List.mem_cons_self ..))]
theorem f40 (l : List Ft) (nl : Bool) (v : Lv) (hl : l.length ≤ 1048576) (hb : ∀ x ∈ l, x.nice) : Fn Tryz.prog 40 true [.lst 5 nl (l.map ft), .agg (lv v)] (.lst 1 false ((shown l v).map fun m => [i m])) := by
  have cS := f49 l nl (by omega) fun x hx => (hb x hx).1
  have cL := f75 v
  by_cases hok : (wSrc l && wLv v) = true
  case neg =>
    have e : shown l v = [] := by unfold shown; rw [if_neg hok]
    rw [e]
    obtain ⟨b1, hb1⟩ : ∃ b, wSrc l = b := ⟨_, rfl⟩
    obtain ⟨b2, hb2⟩ : ∃ b, wLv v = b := ⟨_, rfl⟩
    rw [hb1] at cS hok
    rw [hb2] at cL hok
    clear hb1 hb2 e hb
    unfold lv at cL ⊢
    refine Fn.by_sx hX (by kernel_rfl) c40 (by kernel_rfl) (by rfl) ?_
    simp [i40, sxa, isPtrN, PV.pcs, elAt, setEl, inAt, elIn, setIn, isLst, cellsOf, Ex.ok, Ex.val, Opd.val, POp.dst, bin_int, binOK_int, bin_str, binOK_str, resOK, resV, RB.val, sub, putc, scB, scL, oneB, conf, Ex.val.eqP, Ex.val.eqL, negV, mxV, mnV, ← wr_eq, wr_zero, wr_one, wr_m1, bst_lst, byteC, partsOK, putAll, appV, nilV, slV, sslV, optB, optNum, and_assoc, exists_and_left, exists_eq_left']
    cases b1 <;> cases b2
    all_goals first | (exfalso; exact hok rfl) | skip
    all_goals clear hok
    all_goals repeat' (first | intro _ | (simp [sxa, isPtrN, PV.pcs, elAt, setEl, inAt, elIn, setIn, isLst, cellsOf, Ex.ok, Ex.val, Opd.val, POp.dst, bin_int, binOK_int, bin_str, binOK_str, resOK, resV, RB.val, sub, putc, scB, scL, oneB, conf, Ex.val.eqP, Ex.val.eqL, negV, mxV, mnV, ← wr_eq, wr_zero, wr_one, wr_m1, bst_lst, byteC, partsOK, putAll, appV, nilV, slV, sslV, optB, optNum, and_assoc, exists_and_left, exists_eq_left', *]) | refine CallS_i (cS) ?_ | refine CallS_i (cL) ?_ | refine CallM_i (cS) ?_ | refine CallM_i (cL) ?_ | refine CallE_i (cS) ?_ | refine CallE_i (cL) ?_ | refine CallX_i (cS) ?_ | refine CallX_i (cL) ?_ | refine CallB_i (cS) ?_ | refine CallB_i (cL) ?_ | refine CondS_d (fun h => ?_) (fun h => ?_) | refine CondS_b (fun h => ?_) (fun h => ?_) | refine GrdS_d (fun h => ?_) (fun h => ?_) | refine GrdS_b (fun h => ?_) (fun h => ?_) | refine OkS_i (by omega) ?_ | refine OkS_i ⟨by omega, by assumption⟩ ?_ | refine OkS_i ⟨by omega, by assumption, by assumption⟩ ?_ | fail)
  have e : shown l v = shAt l v (rkd l v.f0).length := by unfold shown shAt shS; rw [if_pos hok, List.take_length]
  simp only [Bool.and_eq_true] at hok
  rw [hok.1] at cS
  rw [hok.2] at cL
  have cR := f76 l nl v.f0 hl fun x hx => (hb x hx).2.1
  have hrm : ∀ x ∈ rkd l v.f0, x.nice := fun x hx => hb x (rkd_mem hx)
  rw [nices_fr fun x hx => (hrm x hx).2.2] at cR
  have hrl := rkd_len l v.f0
  have cP := f78 (rkd l v.f0) false (by omega) fun x hx => (hrm x hx).1
  have hpl := plsOf_len (rkd l v.f0)
  have cT := f77 (plsOf (rkd l v.f0)) false v.f1 (by omega)
  have hsu := fun n h => shAt_succ (l := l) (v := v) (n := n) h
  have hsl := fun n => shAt_len l v n
  have htl : (shT l v).length ≤ l.length := by
    unfold shT thin
    rw [srI_len, List.length_map]
    have := kept_len (plsOf (rkd l v.f0)) v.f1
    omega
  rw [e]
  change Fn _ _ _ _ (.lst 1 false ((shT l v).map _)) at cT
  obtain ⟨T, hT⟩ : ∃ T, shT l v = T := ⟨_, rfl⟩
  rw [hT] at cT htl
  simp only [hT] at hsu
  obtain ⟨P, hP⟩ : ∃ P, plsOf (rkd l v.f0) = P := ⟨_, rfl⟩
  rw [hP] at cP cT
  obtain ⟨R, hR⟩ : ∃ R, rkd l v.f0 = R := ⟨_, rfl⟩
  simp only [hR] at cR cP hsu hrl ⊢
  clear hT hP hpl hok hrm hb
  obtain ⟨A, hA⟩ : ∃ A : Nat → List Int, (fun n => shAt l v n) = A := ⟨_, rfl⟩
  have hA0 : A 0 = [] := by rw [← hA]; simp [shAt]
  have hA' : ∀ n, shAt l v n = A n := fun n => by rw [← hA]
  simp only [hA'] at hsu hsl ⊢
  clear hA hA' e
  unfold lv at cL ⊢
  refine Fn.by_sx hX (by kernel_rfl) c40 (by kernel_rfl) (by rfl) ?_
  simp [i40, sxa, isPtrN, PV.pcs, elAt, setEl, inAt, elIn, setIn, isLst, cellsOf, Ex.ok, Ex.val, Opd.val, POp.dst, bin_int, binOK_int, bin_str, binOK_str, resOK, resV, RB.val, sub, putc, scB, scL, oneB, conf, Ex.val.eqP, Ex.val.eqL, negV, mxV, mnV, ← wr_eq, wr_zero, wr_one, wr_m1, bst_lst, byteC, partsOK, putAll, appV, nilV, slV, sslV, optB, optNum, and_assoc, exists_and_left, exists_eq_left']
  refine CallS_i (cS) ?_
  simp [sxa, isPtrN, PV.pcs, elAt, setEl, inAt, elIn, setIn, isLst, cellsOf, Ex.ok, Ex.val, Opd.val, POp.dst, bin_int, binOK_int, bin_str, binOK_str, resOK, resV, RB.val, sub, putc, scB, scL, oneB, conf, Ex.val.eqP, Ex.val.eqL, negV, mxV, mnV, ← wr_eq, wr_zero, wr_one, wr_m1, bst_lst, byteC, partsOK, putAll, appV, nilV, slV, sslV, optB, optNum, and_assoc, exists_and_left, exists_eq_left']
  refine CallS_i (cL) ?_
  simp [sxa, isPtrN, PV.pcs, elAt, setEl, inAt, elIn, setIn, isLst, cellsOf, Ex.ok, Ex.val, Opd.val, POp.dst, bin_int, binOK_int, bin_str, binOK_str, resOK, resV, RB.val, sub, putc, scB, scL, oneB, conf, Ex.val.eqP, Ex.val.eqL, negV, mxV, mnV, ← wr_eq, wr_zero, wr_one, wr_m1, bst_lst, byteC, partsOK, putAll, appV, nilV, slV, sslV, optB, optNum, and_assoc, exists_and_left, exists_eq_left']
  refine CallS_i (cR) ?_
  simp [sxa, isPtrN, PV.pcs, elAt, setEl, inAt, elIn, setIn, isLst, cellsOf, Ex.ok, Ex.val, Opd.val, POp.dst, bin_int, binOK_int, bin_str, binOK_str, resOK, resV, RB.val, sub, putc, scB, scL, oneB, conf, Ex.val.eqP, Ex.val.eqL, negV, mxV, mnV, ← wr_eq, wr_zero, wr_one, wr_m1, bst_lst, byteC, partsOK, putAll, appV, nilV, slV, sslV, optB, optNum, and_assoc, exists_and_left, exists_eq_left']
  refine CallS_i (cP) ?_
  simp [sxa, isPtrN, PV.pcs, elAt, setEl, inAt, elIn, setIn, isLst, cellsOf, Ex.ok, Ex.val, Opd.val, POp.dst, bin_int, binOK_int, bin_str, binOK_str, resOK, resV, RB.val, sub, putc, scB, scL, oneB, conf, Ex.val.eqP, Ex.val.eqL, negV, mxV, mnV, ← wr_eq, wr_zero, wr_one, wr_m1, bst_lst, byteC, partsOK, putAll, appV, nilV, slV, sslV, optB, optNum, and_assoc, exists_and_left, exists_eq_left']
  refine CallS_i (cT) ?_
  simp [sxa, isPtrN, PV.pcs, elAt, setEl, inAt, elIn, setIn, isLst, cellsOf, Ex.ok, Ex.val, Opd.val, POp.dst, bin_int, binOK_int, bin_str, binOK_str, resOK, resV, RB.val, sub, putc, scB, scL, oneB, conf, Ex.val.eqP, Ex.val.eqL, negV, mxV, mnV, ← wr_eq, wr_zero, wr_one, wr_m1, bst_lst, byteC, partsOK, putAll, appV, nilV, slV, sslV, optB, optNum, and_assoc, exists_and_left, exists_eq_left']
  clear cS cL cR cP cT
  refine sx_count R.length (fun n V => V 6 = .lst 5 false (R.map ft) ∧ V 7 = .lst 1 false (T.map fun m => [i m]) ∧ V 8 = i n ∧ V 5 = .lst 1 false ((A n).map fun m => [i m])) 0 (by omega) (by simp [sxa, isPtrN, PV.pcs, elAt, setEl, inAt, elIn, setIn, isLst, cellsOf, Ex.ok, Ex.val, Opd.val, POp.dst, bin_int, binOK_int, bin_str, binOK_str, resOK, resV, RB.val, sub, putc, scB, scL, oneB, conf, Ex.val.eqP, Ex.val.eqL, negV, mxV, mnV, ← wr_eq, wr_zero, wr_one, wr_m1, bst_lst, byteC, partsOK, putAll, appV, nilV, slV, sslV, optB, optNum, and_assoc, exists_and_left, exists_eq_left', hA0]) ?_
  rintro n V hn ⟨g6, g7, g8, g5⟩
  have hw : wr .i64 ((n : Int) + 1) = n + 1 := wr_in (by omega) (by omega)
  rcases Nat.lt_or_ge n R.length with hlt | hge
  · have hI : (n : Int) < R.length := by omega
    have hs := hsu n hlt
    have hq := hsl n
    have cH := f50 T false R[n].f0 (by omega)
    obtain ⟨Q, hQ⟩ : ∃ Q, A n = Q := ⟨_, rfl⟩
    obtain ⟨Q2, hQ2⟩ : ∃ Q, A (n + 1) = Q := ⟨_, rfl⟩
    rw [hQ, hQ2] at hs
    rw [hQ] at g5 hq
    rw [hQ2]
    obtain ⟨b, hbb⟩ : ∃ b, decide (R[n].f0 ∈ T) = b := ⟨_, rfl⟩
    rw [hbb] at cH hs
    clear hQ hQ2 hsu hsl hbb hA0
    by_cases hk : R[n].f1 = 1
    · cases b
      · simp [hk] at hs
        subst hs
        repeat' (first | intro _ | (simp [sxa, isPtrN, PV.pcs, elAt, setEl, inAt, elIn, setIn, isLst, cellsOf, Ex.ok, Ex.val, Opd.val, POp.dst, bin_int, binOK_int, bin_str, binOK_str, resOK, resV, RB.val, sub, putc, scB, scL, oneB, conf, Ex.val.eqP, Ex.val.eqL, negV, mxV, mnV, ← wr_eq, wr_zero, wr_one, wr_m1, bst_lst, byteC, partsOK, putAll, appV, nilV, slV, sslV, optB, optNum, and_assoc, exists_and_left, exists_eq_left', ft, *]) | refine CallS_i (cH) ?_ | refine CallM_i (cH) ?_ | refine CallE_i (cH) ?_ | refine CallX_i (cH) ?_ | refine CallB_i (cH) ?_ | refine CondS_d (fun h => ?_) (fun h => ?_) | refine CondS_b (fun h => ?_) (fun h => ?_) | refine GrdS_d (fun h => ?_) (fun h => ?_) | refine GrdS_b (fun h => ?_) (fun h => ?_) | refine OkS_i (by omega) ?_ | refine OkS_i ⟨by omega, by assumption⟩ ?_ | refine OkS_i ⟨by omega, by assumption, by assumption⟩ ?_ | fail)
        all_goals simp_all
      · simp [hk] at hs
        subst hs
        repeat' (first | intro _ | (simp [sxa, isPtrN, PV.pcs, elAt, setEl, inAt, elIn, setIn, isLst, cellsOf, Ex.ok, Ex.val, Opd.val, POp.dst, bin_int, binOK_int, bin_str, binOK_str, resOK, resV, RB.val, sub, putc, scB, scL, oneB, conf, Ex.val.eqP, Ex.val.eqL, negV, mxV, mnV, ← wr_eq, wr_zero, wr_one, wr_m1, bst_lst, byteC, partsOK, putAll, appV, nilV, slV, sslV, optB, optNum, and_assoc, exists_and_left, exists_eq_left', ft, *]) | refine CallS_i (cH) ?_ | refine CallM_i (cH) ?_ | refine CallE_i (cH) ?_ | refine CallX_i (cH) ?_ | refine CallB_i (cH) ?_ | refine CondS_d (fun h => ?_) (fun h => ?_) | refine CondS_b (fun h => ?_) (fun h => ?_) | refine GrdS_d (fun h => ?_) (fun h => ?_) | refine GrdS_b (fun h => ?_) (fun h => ?_) | refine OkS_i (by omega) ?_ | refine OkS_i ⟨by omega, by assumption⟩ ?_ | refine OkS_i ⟨by omega, by assumption, by assumption⟩ ?_ | fail)
        all_goals first | omega | simp_all
    · simp [hk] at hs
      subst hs
      clear cH
      repeat' (first | intro _ | (simp [sxa, isPtrN, PV.pcs, elAt, setEl, inAt, elIn, setIn, isLst, cellsOf, Ex.ok, Ex.val, Opd.val, POp.dst, bin_int, binOK_int, bin_str, binOK_str, resOK, resV, RB.val, sub, putc, scB, scL, oneB, conf, Ex.val.eqP, Ex.val.eqL, negV, mxV, mnV, ← wr_eq, wr_zero, wr_one, wr_m1, bst_lst, byteC, partsOK, putAll, appV, nilV, slV, sslV, optB, optNum, and_assoc, exists_and_left, exists_eq_left', ft, *]) | refine CondS_d (fun h => ?_) (fun h => ?_) | refine CondS_b (fun h => ?_) (fun h => ?_) | refine GrdS_d (fun h => ?_) (fun h => ?_) | refine GrdS_b (fun h => ?_) (fun h => ?_) | refine OkS_i (by omega) ?_ | refine OkS_i ⟨by omega, by assumption⟩ ?_ | refine OkS_i ⟨by omega, by assumption, by assumption⟩ ?_ | fail)
      all_goals first | omega | simp_all
  · have : n = R.length := by omega
    subst this
    clear hsu hsl
    repeat' (first | intro _ | (simp [sxa, isPtrN, PV.pcs, elAt, setEl, inAt, elIn, setIn, isLst, cellsOf, Ex.ok, Ex.val, Opd.val, POp.dst, bin_int, binOK_int, bin_str, binOK_str, resOK, resV, RB.val, sub, putc, scB, scL, oneB, conf, Ex.val.eqP, Ex.val.eqL, negV, mxV, mnV, ← wr_eq, wr_zero, wr_one, wr_m1, bst_lst, byteC, partsOK, putAll, appV, nilV, slV, sslV, optB, optNum, and_assoc, exists_and_left, exists_eq_left', *]) | refine CondS_d (fun h => ?_) (fun h => ?_) | refine CondS_b (fun h => ?_) (fun h => ?_) | refine GrdS_d (fun h => ?_) (fun h => ?_) | refine GrdS_b (fun h => ?_) (fun h => ?_) | refine OkS_i (by omega) ?_ | refine OkS_i ⟨by omega, by assumption⟩ ?_ | refine OkS_i ⟨by omega, by assumption, by assumption⟩ ?_ | fail)
theorem f43 (l : List Ft) (nl : Bool) (v : Lv) (hl : l.length ≤ 1048576) (hb : ∀ x ∈ l, x.nice) : Fn Tryz.prog 43 true [.lst 5 nl (l.map ft), .agg (lv v)] (.lst 1 false ((shown l v).map fun m => [i m])) := by
  have cS := f27 l nl (by omega) fun x hx => (hb x hx).1
  have cL := f80 v
  by_cases hok : (wSrc l && wLv v) = true
  case neg =>
    have e : shown l v = [] := by unfold shown; rw [if_neg hok]
    rw [e]
    obtain ⟨b1, hb1⟩ : ∃ b, wSrc l = b := ⟨_, rfl⟩
    obtain ⟨b2, hb2⟩ : ∃ b, wLv v = b := ⟨_, rfl⟩
    rw [hb1] at cS hok
    rw [hb2] at cL hok
    clear hb1 hb2 e hb
    unfold lv at cL ⊢
    refine Fn.by_sx hX (by kernel_rfl) c43 (by kernel_rfl) (by rfl) ?_
    simp [i43, sxa, isPtrN, PV.pcs, elAt, setEl, inAt, elIn, setIn, isLst, cellsOf, Ex.ok, Ex.val, Opd.val, POp.dst, bin_int, binOK_int, bin_str, binOK_str, resOK, resV, RB.val, sub, putc, scB, scL, oneB, conf, Ex.val.eqP, Ex.val.eqL, negV, mxV, mnV, ← wr_eq, wr_zero, wr_one, wr_m1, bst_lst, byteC, partsOK, putAll, appV, nilV, slV, sslV, optB, optNum, and_assoc, exists_and_left, exists_eq_left']
    cases b1 <;> cases b2
    all_goals first | (exfalso; exact hok rfl) | skip
    all_goals clear hok
    all_goals repeat' (first | intro _ | (simp [sxa, isPtrN, PV.pcs, elAt, setEl, inAt, elIn, setIn, isLst, cellsOf, Ex.ok, Ex.val, Opd.val, POp.dst, bin_int, binOK_int, bin_str, binOK_str, resOK, resV, RB.val, sub, putc, scB, scL, oneB, conf, Ex.val.eqP, Ex.val.eqL, negV, mxV, mnV, ← wr_eq, wr_zero, wr_one, wr_m1, bst_lst, byteC, partsOK, putAll, appV, nilV, slV, sslV, optB, optNum, and_assoc, exists_and_left, exists_eq_left', *]) | refine CallS_i (cS) ?_ | refine CallS_i (cL) ?_ | refine CallM_i (cS) ?_ | refine CallM_i (cL) ?_ | refine CallE_i (cS) ?_ | refine CallE_i (cL) ?_ | refine CallX_i (cS) ?_ | refine CallX_i (cL) ?_ | refine CallB_i (cS) ?_ | refine CallB_i (cL) ?_ | refine CondS_d (fun h => ?_) (fun h => ?_) | refine CondS_b (fun h => ?_) (fun h => ?_) | refine GrdS_d (fun h => ?_) (fun h => ?_) | refine GrdS_b (fun h => ?_) (fun h => ?_) | refine OkS_i (by omega) ?_ | refine OkS_i ⟨by omega, by assumption⟩ ?_ | refine OkS_i ⟨by omega, by assumption, by assumption⟩ ?_ | fail)
  have e : shown l v = shI l v := by
    unfold shown; rw [if_pos hok, shown_eq (by simp only [Bool.and_eq_true] at hok; exact hok.1)]
  simp only [Bool.and_eq_true] at hok
  rw [hok.1] at cS
  rw [hok.2] at cL
  have cR := f81 l nl v.f0 hl
  have hrm : ∀ x ∈ rkd l v.f0, x.nice := fun x hx => hb x (rkd_mem hx)
  have hrl := rkd_len l v.f0
  have cP := f83 (rkd l v.f0) false (by omega) fun x hx => (hrm x hx).1
  have hpl := plsOf_len (rkd l v.f0)
  have cT := f82 (plsOf (rkd l v.f0)) v.f1 (by omega)
  have htl : (shT l v).length ≤ l.length := by
    unfold shT thin
    rw [srI_len, List.length_map]
    have := kept_len (plsOf (rkd l v.f0)) v.f1
    omega
  rw [e]
  change Fn _ _ _ _ (.lst 1 false ((shT l v).map _)) at cT
  unfold shI srI
  obtain ⟨T, hT⟩ : ∃ T, shT l v = T := ⟨_, rfl⟩
  rw [hT] at cT htl ⊢
  obtain ⟨P, hP⟩ : ∃ P, plsOf (rkd l v.f0) = P := ⟨_, rfl⟩
  rw [hP] at cP cT
  obtain ⟨R, hR⟩ : ∃ R, rkd l v.f0 = R := ⟨_, rfl⟩
  simp only [hR] at cR cP hrl ⊢
  have cZ := f84 false (T ++ (R.filter fun x => !decide (x.f1 = 1)).map (·.f0)) (by
    rw [List.length_append, List.length_map]
    have := List.length_filter_le (fun x : Ft => !decide (x.f1 = 1)) R
    omega)
  clear hT hP hpl hok hrm hb hR e
  unfold lv at cL ⊢
  obtain ⟨Z, hZ⟩ : ∃ Z, (T ++ (R.filter fun x => !decide (x.f1 = 1)).map (·.f0)).mergeSort (fun x y => decide (x ≤ y)) = Z := ⟨_, rfl⟩
  rw [hZ] at cZ ⊢
  clear hZ
  refine Fn.by_sx hX (by kernel_rfl) c43 (by kernel_rfl) (by rfl) ?_
  simp [i43, sxa, isPtrN, PV.pcs, elAt, setEl, inAt, elIn, setIn, isLst, cellsOf, Ex.ok, Ex.val, Opd.val, POp.dst, bin_int, binOK_int, bin_str, binOK_str, resOK, resV, RB.val, sub, putc, scB, scL, oneB, conf, Ex.val.eqP, Ex.val.eqL, negV, mxV, mnV, ← wr_eq, wr_zero, wr_one, wr_m1, bst_lst, byteC, partsOK, putAll, appV, nilV, slV, sslV, optB, optNum, and_assoc, exists_and_left, exists_eq_left']
  refine CallS_i (cS) ?_
  simp [sxa, isPtrN, PV.pcs, elAt, setEl, inAt, elIn, setIn, isLst, cellsOf, Ex.ok, Ex.val, Opd.val, POp.dst, bin_int, binOK_int, bin_str, binOK_str, resOK, resV, RB.val, sub, putc, scB, scL, oneB, conf, Ex.val.eqP, Ex.val.eqL, negV, mxV, mnV, ← wr_eq, wr_zero, wr_one, wr_m1, bst_lst, byteC, partsOK, putAll, appV, nilV, slV, sslV, optB, optNum, and_assoc, exists_and_left, exists_eq_left']
  refine CallS_i (cL) ?_
  simp [sxa, isPtrN, PV.pcs, elAt, setEl, inAt, elIn, setIn, isLst, cellsOf, Ex.ok, Ex.val, Opd.val, POp.dst, bin_int, binOK_int, bin_str, binOK_str, resOK, resV, RB.val, sub, putc, scB, scL, oneB, conf, Ex.val.eqP, Ex.val.eqL, negV, mxV, mnV, ← wr_eq, wr_zero, wr_one, wr_m1, bst_lst, byteC, partsOK, putAll, appV, nilV, slV, sslV, optB, optNum, and_assoc, exists_and_left, exists_eq_left']
  refine CallS_i (cR) ?_
  simp [sxa, isPtrN, PV.pcs, elAt, setEl, inAt, elIn, setIn, isLst, cellsOf, Ex.ok, Ex.val, Opd.val, POp.dst, bin_int, binOK_int, bin_str, binOK_str, resOK, resV, RB.val, sub, putc, scB, scL, oneB, conf, Ex.val.eqP, Ex.val.eqL, negV, mxV, mnV, ← wr_eq, wr_zero, wr_one, wr_m1, bst_lst, byteC, partsOK, putAll, appV, nilV, slV, sslV, optB, optNum, and_assoc, exists_and_left, exists_eq_left']
  refine CallS_i (cP) ?_
  simp [sxa, isPtrN, PV.pcs, elAt, setEl, inAt, elIn, setIn, isLst, cellsOf, Ex.ok, Ex.val, Opd.val, POp.dst, bin_int, binOK_int, bin_str, binOK_str, resOK, resV, RB.val, sub, putc, scB, scL, oneB, conf, Ex.val.eqP, Ex.val.eqL, negV, mxV, mnV, ← wr_eq, wr_zero, wr_one, wr_m1, bst_lst, byteC, partsOK, putAll, appV, nilV, slV, sslV, optB, optNum, and_assoc, exists_and_left, exists_eq_left']
  refine CallS_i (cT) ?_
  simp [sxa, isPtrN, PV.pcs, elAt, setEl, inAt, elIn, setIn, isLst, cellsOf, Ex.ok, Ex.val, Opd.val, POp.dst, bin_int, binOK_int, bin_str, binOK_str, resOK, resV, RB.val, sub, putc, scB, scL, oneB, conf, Ex.val.eqP, Ex.val.eqL, negV, mxV, mnV, ← wr_eq, wr_zero, wr_one, wr_m1, bst_lst, byteC, partsOK, putAll, appV, nilV, slV, sslV, optB, optNum, and_assoc, exists_and_left, exists_eq_left']
  clear cS cL cR cP cT
  refine sx_count R.length (fun n V => V 28 = .lst 5 false (R.map ft) ∧ V 29 = i R.length ∧ V 30 = i n ∧ V 5 = .lst 1 false ((T ++ ((R.take n).filter fun x => !decide (x.f1 = 1)).map (·.f0)).map fun m => [i m])) 0 (by omega) (by simp [sxa, isPtrN, PV.pcs, elAt, setEl, inAt, elIn, setIn, isLst, cellsOf, Ex.ok, Ex.val, Opd.val, POp.dst, bin_int, binOK_int, bin_str, binOK_str, resOK, resV, RB.val, sub, putc, scB, scL, oneB, conf, Ex.val.eqP, Ex.val.eqL, negV, mxV, mnV, ← wr_eq, wr_zero, wr_one, wr_m1, bst_lst, byteC, partsOK, putAll, appV, nilV, slV, sslV, optB, optNum, and_assoc, exists_and_left, exists_eq_left']) ?_
  rintro n V hn ⟨g28, g29, g30, g5⟩
  have hw : wr .i64 ((n : Int) + 1) = n + 1 := wr_in (by omega) (by omega)
  rcases Nat.lt_or_ge n R.length with hlt | hge
  · have hI : (n : Int) < R.length := by omega
    have hs : T ++ ((R.take (n + 1)).filter fun x => !decide (x.f1 = 1)).map (·.f0) = (T ++ ((R.take n).filter fun x => !decide (x.f1 = 1)).map (·.f0)) ++ (if R[n].f1 = 1 then [] else [R[n].f0]) := by
      rw [List.take_add_one, List.getElem?_eq_getElem hlt, List.filter_append, List.map_append, List.append_assoc]
      by_cases h1 : R[n].f1 = 1 <;> simp [h1]
    have hq : (T ++ ((R.take n).filter fun x => !decide (x.f1 = 1)).map (·.f0)).length ≤ l.length + R.length := by
      rw [List.length_append, List.length_map]
      have := List.length_filter_le (fun x : Ft => !decide (x.f1 = 1)) (R.take n)
      rw [List.length_take] at this
      omega
    obtain ⟨Q, hQ⟩ : ∃ Q, T ++ ((R.take n).filter fun x => !decide (x.f1 = 1)).map (·.f0) = Q := ⟨_, rfl⟩
    obtain ⟨Q2, hQ2⟩ : ∃ Q, T ++ ((R.take (n + 1)).filter fun x => !decide (x.f1 = 1)).map (·.f0) = Q := ⟨_, rfl⟩
    rw [hQ, hQ2] at hs
    rw [hQ] at g5 hq
    rw [hQ2]
    clear hQ hQ2 cZ
    by_cases hk : R[n].f1 = 1
    · rw [if_pos hk, List.append_nil] at hs
      subst hs
      repeat' (first | intro _ | (simp [sxa, isPtrN, PV.pcs, elAt, setEl, inAt, elIn, setIn, isLst, cellsOf, Ex.ok, Ex.val, Opd.val, POp.dst, bin_int, binOK_int, bin_str, binOK_str, resOK, resV, RB.val, sub, putc, scB, scL, oneB, conf, Ex.val.eqP, Ex.val.eqL, negV, mxV, mnV, ← wr_eq, wr_zero, wr_one, wr_m1, bst_lst, byteC, partsOK, putAll, appV, nilV, slV, sslV, optB, optNum, and_assoc, exists_and_left, exists_eq_left', ft, *]) | refine CondS_d (fun h => ?_) (fun h => ?_) | refine CondS_b (fun h => ?_) (fun h => ?_) | refine GrdS_d (fun h => ?_) (fun h => ?_) | refine GrdS_b (fun h => ?_) (fun h => ?_) | refine OkS_i (by omega) ?_ | refine OkS_i ⟨by omega, by assumption⟩ ?_ | refine OkS_i ⟨by omega, by assumption, by assumption⟩ ?_ | fail)
      all_goals simp_all
    · rw [if_neg hk] at hs
      subst hs
      repeat' (first | intro _ | (simp [sxa, isPtrN, PV.pcs, elAt, setEl, inAt, elIn, setIn, isLst, cellsOf, Ex.ok, Ex.val, Opd.val, POp.dst, bin_int, binOK_int, bin_str, binOK_str, resOK, resV, RB.val, sub, putc, scB, scL, oneB, conf, Ex.val.eqP, Ex.val.eqL, negV, mxV, mnV, ← wr_eq, wr_zero, wr_one, wr_m1, bst_lst, byteC, partsOK, putAll, appV, nilV, slV, sslV, optB, optNum, and_assoc, exists_and_left, exists_eq_left', ft, *]) | refine CondS_d (fun h => ?_) (fun h => ?_) | refine CondS_b (fun h => ?_) (fun h => ?_) | refine GrdS_d (fun h => ?_) (fun h => ?_) | refine GrdS_b (fun h => ?_) (fun h => ?_) | refine OkS_i (by omega) ?_ | refine OkS_i ⟨by omega, by assumption⟩ ?_ | refine OkS_i ⟨by omega, by assumption, by assumption⟩ ?_ | fail)
      all_goals first | omega | simp_all
  · have : n = R.length := by omega
    subst this
    rw [List.take_length] at g5
    obtain ⟨U, hU⟩ : ∃ U, T ++ (R.filter fun x => !decide (x.f1 = 1)).map (·.f0) = U := ⟨_, rfl⟩
    rw [hU] at g5 cZ
    clear hU
    simp [sxa, isPtrN, PV.pcs, elAt, setEl, inAt, elIn, setIn, isLst, cellsOf, Ex.ok, Ex.val, Opd.val, POp.dst, bin_int, binOK_int, bin_str, binOK_str, resOK, resV, RB.val, sub, putc, scB, scL, oneB, conf, Ex.val.eqP, Ex.val.eqL, negV, mxV, mnV, ← wr_eq, wr_zero, wr_one, wr_m1, bst_lst, byteC, partsOK, putAll, appV, nilV, slV, sslV, optB, optNum, and_assoc, exists_and_left, exists_eq_left', g28, g29, g30, g5]
    refine CallM_i (cZ) ?_
    simp [sxa, isPtrN, PV.pcs, elAt, setEl, inAt, elIn, setIn, isLst, cellsOf, Ex.ok, Ex.val, Opd.val, POp.dst, bin_int, binOK_int, bin_str, binOK_str, resOK, resV, RB.val, sub, putc, scB, scL, oneB, conf, Ex.val.eqP, Ex.val.eqL, negV, mxV, mnV, ← wr_eq, wr_zero, wr_one, wr_m1, bst_lst, byteC, partsOK, putAll, appV, nilV, slV, sslV, optB, optNum, and_assoc, exists_and_left, exists_eq_left']
end Go.Eng
namespace Go.Eng
open Go Go.Proofs Geo
set_option linter.unusedSimpArgs false
set_option linter.unusedVariables false
set_option maxRecDepth 20000
set_option maxHeartbeats 1000000

/-! lines that are shown. WRITES -/
theorem find_ok {l : List Ft} {id : Int} (h : ∃ x ∈ l, x.f0 = id) : ∃ k : Nat, wFind l id = k ∧ k < l.length := by
  rcases find_cases l id with h1 | h1
  · obtain ⟨x, hx, he⟩ := h
    obtain ⟨n, hn, rfl⟩ := List.getElem_of_mem hx
    exact absurd he (wFind_none (by omega) hn)
  · exact h1
theorem shown_mem {l : List Ft} {v : Lv} {n : Int} (h : n ∈ shown l v) : ∃ x ∈ l, x.f0 = n := by
  unfold shown at h
  split at h
  · exact shS_mem h
  · cases h
theorem shown_16 (l : List Ft) (v : Lv) : (shown l v).length ≤ 16 := by
  unfold shown
  split
  · rename_i h
    simp only [Bool.and_eq_true] at h
    have := (wSrc_iff.1 h.1).1
    have := shS_len l v
    omega
  · exact Nat.zero_le _
def lnAt (l : List Ft) (id : Int) : Bool := !decide ((l.getD (wFind l id).toNat ftD).f1 = 1)
def lnTo (l : List Ft) (s : List Int) (n : Nat) : List Int := (s.take n).filter (lnAt l)
theorem lnTo_succ {l : List Ft} {s : List Int} {n : Nat} (h : n < s.length) : lnTo l s (n + 1) = lnTo l s n ++ (if lnAt l s[n] = true then [s[n]] else []) := by
  unfold lnTo
  rw [List.take_add_one, List.getElem?_eq_getElem h, List.filter_append]
  by_cases h1 : lnAt l s[n] = true <;> simp [h1]
theorem lnTo_len (l : List Ft) (s : List Int) (n : Nat) : (lnTo l s n).length ≤ s.length := Nat.le_trans (List.length_filter_le ..) (List.length_take_le' ..)
def lnOf (l : List Ft) (v : Lv) : List Int := lnTo l (shown l v) (shown l v).length
theorem f8 (l : List Ft) (nl : Bool) (v : Lv) (hl : l.length ≤ 1048576) (hb : ∀ x ∈ l, x.nice) : Fn Tryz.prog 8 true [.lst 5 nl (l.map ft), .agg (lv v)] (.lst 1 false ((lnOf l v).map fun m => [i m])) := by
  have cS := f40 l nl v hl hb
  have hm := fun n h => shown_mem (l := l) (v := v) (n := n) h
  have h16 := shown_16 l v
  unfold lnOf
  obtain ⟨S, hS⟩ : ∃ S, shown l v = S := ⟨_, rfl⟩
  rw [hS] at cS h16 ⊢
  simp only [hS] at hm
  clear hb hS
  unfold lv at cS ⊢
  refine Fn.by_sx hX (by kernel_rfl) c8 (by kernel_rfl) (by rfl) ?_
  simp [i8, sxa, isPtrN, PV.pcs, elAt, setEl, inAt, elIn, setIn, isLst, cellsOf, Ex.ok, Ex.val, Opd.val, POp.dst, bin_int, binOK_int, bin_str, binOK_str, resOK, resV, RB.val, sub, putc, scB, scL, oneB, conf, Ex.val.eqP, Ex.val.eqL, negV, mxV, mnV, ← wr_eq, wr_zero, wr_one, wr_m1, bst_lst, byteC, partsOK, putAll, appV, nilV, slV, sslV, optB, optNum, and_assoc, exists_and_left, exists_eq_left']
  refine CallS_i (cS) ?_
  simp [sxa, isPtrN, PV.pcs, elAt, setEl, inAt, elIn, setIn, isLst, cellsOf, Ex.ok, Ex.val, Opd.val, POp.dst, bin_int, binOK_int, bin_str, binOK_str, resOK, resV, RB.val, sub, putc, scB, scL, oneB, conf, Ex.val.eqP, Ex.val.eqL, negV, mxV, mnV, ← wr_eq, wr_zero, wr_one, wr_m1, bst_lst, byteC, partsOK, putAll, appV, nilV, slV, sslV, optB, optNum, and_assoc, exists_and_left, exists_eq_left']
  clear cS
  refine sx_count S.length (fun n V => V 0 = .lst 5 nl (l.map ft) ∧ V 6 = .lst 1 false (S.map fun m => [i m]) ∧ V 7 = i n ∧ V 5 = .lst 1 false ((lnTo l S n).map fun m => [i m])) 0 (by omega) (by simp [sxa, isPtrN, PV.pcs, elAt, setEl, inAt, elIn, setIn, isLst, cellsOf, Ex.ok, Ex.val, Opd.val, POp.dst, bin_int, binOK_int, bin_str, binOK_str, resOK, resV, RB.val, sub, putc, scB, scL, oneB, conf, Ex.val.eqP, Ex.val.eqL, negV, mxV, mnV, ← wr_eq, wr_zero, wr_one, wr_m1, bst_lst, byteC, partsOK, putAll, appV, nilV, slV, sslV, optB, optNum, and_assoc, exists_and_left, exists_eq_left', lnTo]) ?_
  rintro n V hn ⟨g0, g6, g7, g5⟩
  have hw : wr .i64 ((n : Int) + 1) = n + 1 := wr_in (by omega) (by omega)
  rcases Nat.lt_or_ge n S.length with hlt | hge
  · have hI : (n : Int) < S.length := by omega
    have hs := lnTo_succ (l := l) hlt
    have hq := lnTo_len l S n
    obtain ⟨k, hk, hkl⟩ := find_ok (hm _ (List.getElem_mem hlt))
    have cF := f41 l nl S[n] (by omega)
    rw [hk] at cF
    have hkI : (k : Int) < l.length := by omega
    have hat : lnAt l S[n] = !decide (l[k].f1 = 1) := by unfold lnAt; rw [hk]; simp [hkl]
    rw [hat] at hs
    obtain ⟨Q, hQ⟩ : ∃ Q, lnTo l S n = Q := ⟨_, rfl⟩
    obtain ⟨Q2, hQ2⟩ : ∃ Q, lnTo l S (n + 1) = Q := ⟨_, rfl⟩
    rw [hQ, hQ2] at hs
    rw [hQ] at g5 hq
    rw [hQ2]
    clear hQ hQ2 hm hat hk
    by_cases hk1 : l[k].f1 = 1
    · simp [hk1] at hs
      subst hs
      repeat' (first | intro _ | (simp [sxa, isPtrN, PV.pcs, elAt, setEl, inAt, elIn, setIn, isLst, cellsOf, Ex.ok, Ex.val, Opd.val, POp.dst, bin_int, binOK_int, bin_str, binOK_str, resOK, resV, RB.val, sub, putc, scB, scL, oneB, conf, Ex.val.eqP, Ex.val.eqL, negV, mxV, mnV, ← wr_eq, wr_zero, wr_one, wr_m1, bst_lst, byteC, partsOK, putAll, appV, nilV, slV, sslV, optB, optNum, and_assoc, exists_and_left, exists_eq_left', ft, *]) | refine CallS_i (cF) ?_ | refine CallM_i (cF) ?_ | refine CallE_i (cF) ?_ | refine CallX_i (cF) ?_ | refine CallB_i (cF) ?_ | refine CondS_d (fun h => ?_) (fun h => ?_) | refine CondS_b (fun h => ?_) (fun h => ?_) | refine GrdS_d (fun h => ?_) (fun h => ?_) | refine GrdS_b (fun h => ?_) (fun h => ?_) | refine OkS_i (by omega) ?_ | refine OkS_i ⟨by omega, by assumption⟩ ?_ | refine OkS_i ⟨by omega, by assumption, by assumption⟩ ?_ | fail)
      all_goals simp_all
    · simp [hk1] at hs
      subst hs
      repeat' (first | intro _ | (simp [sxa, isPtrN, PV.pcs, elAt, setEl, inAt, elIn, setIn, isLst, cellsOf, Ex.ok, Ex.val, Opd.val, POp.dst, bin_int, binOK_int, bin_str, binOK_str, resOK, resV, RB.val, sub, putc, scB, scL, oneB, conf, Ex.val.eqP, Ex.val.eqL, negV, mxV, mnV, ← wr_eq, wr_zero, wr_one, wr_m1, bst_lst, byteC, partsOK, putAll, appV, nilV, slV, sslV, optB, optNum, and_assoc, exists_and_left, exists_eq_left', ft, *]) | refine CallS_i (cF) ?_ | refine CallM_i (cF) ?_ | refine CallE_i (cF) ?_ | refine CallX_i (cF) ?_ | refine CallB_i (cF) ?_ | refine CondS_d (fun h => ?_) (fun h => ?_) | refine CondS_b (fun h => ?_) (fun h => ?_) | refine GrdS_d (fun h => ?_) (fun h => ?_) | refine GrdS_b (fun h => ?_) (fun h => ?_) | refine OkS_i (by omega) ?_ | refine OkS_i ⟨by omega, by assumption⟩ ?_ | refine OkS_i ⟨by omega, by assumption, by assumption⟩ ?_ | fail)
      all_goals first | omega | simp_all
  · have : n = S.length := by omega
    subst this
    clear hm
    repeat' (first | intro _ | (simp [sxa, isPtrN, PV.pcs, elAt, setEl, inAt, elIn, setIn, isLst, cellsOf, Ex.ok, Ex.val, Opd.val, POp.dst, bin_int, binOK_int, bin_str, binOK_str, resOK, resV, RB.val, sub, putc, scB, scL, oneB, conf, Ex.val.eqP, Ex.val.eqL, negV, mxV, mnV, ← wr_eq, wr_zero, wr_one, wr_m1, bst_lst, byteC, partsOK, putAll, appV, nilV, slV, sslV, optB, optNum, and_assoc, exists_and_left, exists_eq_left', *]) | refine CondS_d (fun h => ?_) (fun h => ?_) | refine CondS_b (fun h => ?_) (fun h => ?_) | refine GrdS_d (fun h => ?_) (fun h => ?_) | refine GrdS_b (fun h => ?_) (fun h => ?_) | refine OkS_i (by omega) ?_ | refine OkS_i ⟨by omega, by assumption⟩ ?_ | refine OkS_i ⟨by omega, by assumption, by assumption⟩ ?_ | fail)
theorem f11 (l : List Ft) (nl : Bool) (v : Lv) (hl : l.length ≤ 1048576) (hb : ∀ x ∈ l, x.nice) : Fn Tryz.prog 11 true [.lst 5 nl (l.map ft), .agg (lv v)] (.lst 1 false ((lnOf l v).map fun m => [i m])) := by
  have cS := f43 l nl v hl hb
  have hm := fun n h => shown_mem (l := l) (v := v) (n := n) h
  have h16 := shown_16 l v
  unfold lnOf
  obtain ⟨S, hS⟩ : ∃ S, shown l v = S := ⟨_, rfl⟩
  rw [hS] at cS h16 ⊢
  simp only [hS] at hm
  clear hb hS
  unfold lv at cS ⊢
  refine Fn.by_sx hX (by kernel_rfl) c11 (by kernel_rfl) (by rfl) ?_
  simp [i11, sxa, isPtrN, PV.pcs, elAt, setEl, inAt, elIn, setIn, isLst, cellsOf, Ex.ok, Ex.val, Opd.val, POp.dst, bin_int, binOK_int, bin_str, binOK_str, resOK, resV, RB.val, sub, putc, scB, scL, oneB, conf, Ex.val.eqP, Ex.val.eqL, negV, mxV, mnV, ← wr_eq, wr_zero, wr_one, wr_m1, bst_lst, byteC, partsOK, putAll, appV, nilV, slV, sslV, optB, optNum, and_assoc, exists_and_left, exists_eq_left']
  refine CallS_i (cS) ?_
  simp [sxa, isPtrN, PV.pcs, elAt, setEl, inAt, elIn, setIn, isLst, cellsOf, Ex.ok, Ex.val, Opd.val, POp.dst, bin_int, binOK_int, bin_str, binOK_str, resOK, resV, RB.val, sub, putc, scB, scL, oneB, conf, Ex.val.eqP, Ex.val.eqL, negV, mxV, mnV, ← wr_eq, wr_zero, wr_one, wr_m1, bst_lst, byteC, partsOK, putAll, appV, nilV, slV, sslV, optB, optNum, and_assoc, exists_and_left, exists_eq_left']
  clear cS
  refine sx_count S.length (fun n V => V 0 = .lst 5 nl (l.map ft) ∧ V 11 = .lst 1 false (S.map fun m => [i m]) ∧ V 12 = i S.length ∧ V 13 = i n ∧ V 5 = .lst 1 false ((lnTo l S n).map fun m => [i m])) 0 (by omega) (by simp [sxa, isPtrN, PV.pcs, elAt, setEl, inAt, elIn, setIn, isLst, cellsOf, Ex.ok, Ex.val, Opd.val, POp.dst, bin_int, binOK_int, bin_str, binOK_str, resOK, resV, RB.val, sub, putc, scB, scL, oneB, conf, Ex.val.eqP, Ex.val.eqL, negV, mxV, mnV, ← wr_eq, wr_zero, wr_one, wr_m1, bst_lst, byteC, partsOK, putAll, appV, nilV, slV, sslV, optB, optNum, and_assoc, exists_and_left, exists_eq_left', lnTo]) ?_
  rintro n V hn ⟨g0, g11, g12, g13, g5⟩
  have hw : wr .i64 ((n : Int) + 1) = n + 1 := wr_in (by omega) (by omega)
  rcases Nat.lt_or_ge n S.length with hlt | hge
  · have hI : (n : Int) < S.length := by omega
    have hs := lnTo_succ (l := l) hlt
    have hq := lnTo_len l S n
    obtain ⟨k, hk, hkl⟩ := find_ok (hm _ (List.getElem_mem hlt))
    have cF := f44 l nl S[n] (by omega)
    rw [hk] at cF
    have hkI : (k : Int) < l.length := by omega
    have hat : lnAt l S[n] = !decide (l[k].f1 = 1) := by unfold lnAt; rw [hk]; simp [hkl]
    rw [hat] at hs
    obtain ⟨Q, hQ⟩ : ∃ Q, lnTo l S n = Q := ⟨_, rfl⟩
    obtain ⟨Q2, hQ2⟩ : ∃ Q, lnTo l S (n + 1) = Q := ⟨_, rfl⟩
    rw [hQ, hQ2] at hs
    rw [hQ] at g5 hq
    rw [hQ2]
    clear hQ hQ2 hm hat hk
    by_cases hk1 : l[k].f1 = 1
    · simp [hk1] at hs
      subst hs
      repeat' (first | intro _ | (simp [sxa, isPtrN, PV.pcs, elAt, setEl, inAt, elIn, setIn, isLst, cellsOf, Ex.ok, Ex.val, Opd.val, POp.dst, bin_int, binOK_int, bin_str, binOK_str, resOK, resV, RB.val, sub, putc, scB, scL, oneB, conf, Ex.val.eqP, Ex.val.eqL, negV, mxV, mnV, ← wr_eq, wr_zero, wr_one, wr_m1, bst_lst, byteC, partsOK, putAll, appV, nilV, slV, sslV, optB, optNum, and_assoc, exists_and_left, exists_eq_left', ft, *]) | refine CallS_i (cF) ?_ | refine CallM_i (cF) ?_ | refine CallE_i (cF) ?_ | refine CallX_i (cF) ?_ | refine CallB_i (cF) ?_ | refine CondS_d (fun h => ?_) (fun h => ?_) | refine CondS_b (fun h => ?_) (fun h => ?_) | refine GrdS_d (fun h => ?_) (fun h => ?_) | refine GrdS_b (fun h => ?_) (fun h => ?_) | refine OkS_i (by omega) ?_ | refine OkS_i ⟨by omega, by assumption⟩ ?_ | refine OkS_i ⟨by omega, by assumption, by assumption⟩ ?_ | fail)
      all_goals simp_all
    · simp [hk1] at hs
      subst hs
      repeat' (first | intro _ | (simp [sxa, isPtrN, PV.pcs, elAt, setEl, inAt, elIn, setIn, isLst, cellsOf, Ex.ok, Ex.val, Opd.val, POp.dst, bin_int, binOK_int, bin_str, binOK_str, resOK, resV, RB.val, sub, putc, scB, scL, oneB, conf, Ex.val.eqP, Ex.val.eqL, negV, mxV, mnV, ← wr_eq, wr_zero, wr_one, wr_m1, bst_lst, byteC, partsOK, putAll, appV, nilV, slV, sslV, optB, optNum, and_assoc, exists_and_left, exists_eq_left', ft, *]) | refine CallS_i (cF) ?_ | refine CallM_i (cF) ?_ | refine CallE_i (cF) ?_ | refine CallX_i (cF) ?_ | refine CallB_i (cF) ?_ | refine CondS_d (fun h => ?_) (fun h => ?_) | refine CondS_b (fun h => ?_) (fun h => ?_) | refine GrdS_d (fun h => ?_) (fun h => ?_) | refine GrdS_b (fun h => ?_) (fun h => ?_) | refine OkS_i (by omega) ?_ | refine OkS_i ⟨by omega, by assumption⟩ ?_ | refine OkS_i ⟨by omega, by assumption, by assumption⟩ ?_ | fail)
      all_goals first | omega | simp_all
  · have : n = S.length := by omega
    subst this
    clear hm
    repeat' (first | intro _ | (simp [sxa, isPtrN, PV.pcs, elAt, setEl, inAt, elIn, setIn, isLst, cellsOf, Ex.ok, Ex.val, Opd.val, POp.dst, bin_int, binOK_int, bin_str, binOK_str, resOK, resV, RB.val, sub, putc, scB, scL, oneB, conf, Ex.val.eqP, Ex.val.eqL, negV, mxV, mnV, ← wr_eq, wr_zero, wr_one, wr_m1, bst_lst, byteC, partsOK, putAll, appV, nilV, slV, sslV, optB, optNum, and_assoc, exists_and_left, exists_eq_left', *]) | refine CondS_d (fun h => ?_) (fun h => ?_) | refine CondS_b (fun h => ?_) (fun h => ?_) | refine GrdS_d (fun h => ?_) (fun h => ?_) | refine GrdS_b (fun h => ?_) (fun h => ?_) | refine OkS_i (by omega) ?_ | refine OkS_i ⟨by omega, by assumption⟩ ?_ | refine OkS_i ⟨by omega, by assumption, by assumption⟩ ?_ | fail)
theorem f10 (v : Lv) : Fn Tryz.prog 10 false [.agg (lv v)] (.agg (lv v)) := by
  unfold lv
  refine Fn.by_sx hX (by kernel_rfl) c10 (by kernel_rfl) (by rfl) ?_
  simp [i10, sxa, isPtrN, PV.pcs, elAt, setEl, inAt, elIn, setIn, isLst, cellsOf, Ex.ok, Ex.val, Opd.val, POp.dst, bin_int, binOK_int, bin_str, binOK_str, resOK, resV, RB.val, sub, putc, scB, scL, oneB, conf, Ex.val.eqP, Ex.val.eqL, negV, mxV, mnV, ← wr_eq, wr_zero, wr_one, wr_m1, bst_lst, byteC, partsOK, putAll, appV, nilV, slV, sslV, optB, optNum, and_assoc, exists_and_left, exists_eq_left']
  repeat' (first | intro _ | (simp [sxa, isPtrN, PV.pcs, elAt, setEl, inAt, elIn, setIn, isLst, cellsOf, Ex.ok, Ex.val, Opd.val, POp.dst, bin_int, binOK_int, bin_str, binOK_str, resOK, resV, RB.val, sub, putc, scB, scL, oneB, conf, Ex.val.eqP, Ex.val.eqL, negV, mxV, mnV, ← wr_eq, wr_zero, wr_one, wr_m1, bst_lst, byteC, partsOK, putAll, appV, nilV, slV, sslV, optB, optNum, and_assoc, exists_and_left, exists_eq_left', *]) | refine CondS_d (fun h => ?_) (fun h => ?_) | refine CondS_b (fun h => ?_) (fun h => ?_) | refine GrdS_d (fun h => ?_) (fun h => ?_) | refine GrdS_b (fun h => ?_) (fun h => ?_) | refine OkS_i (by omega) ?_ | refine OkS_i ⟨by omega, by assumption⟩ ?_ | refine OkS_i ⟨by omega, by assumption, by assumption⟩ ?_ | fail)
theorem fr_nice {l r : List Ft} (hr : l.map Ft.fr = r) (hm : ∀ x ∈ l, x.f3.size ≤ 1048576 ∧ x.f4.length ≤ 1048576) : ∀ x ∈ r, x.nice := by
  intro x hx
  rw [← hr] at hx
  obtain ⟨y, hy, rfl⟩ := List.mem_map.1 hx
  have := hm y hy
  exact ⟨⟨by show y.f3.size ≤ _; omega, by show y.f4.length ≤ _; omega⟩, by show y.f4.length ≤ _; omega, rfl⟩
theorem frF_nlok {l r : List Ft} (hr : l.map Ft.fr = r) : ∀ x ∈ r, x.nlok := by
  intro x hx
  rw [← hr] at hx
  obtain ⟨y, hy, rfl⟩ := List.mem_map.1 hx
  intro h; cases h
theorem frF_k {l r : List Ft} (hr : l.map Ft.fr = r) (hb : wtLF l ≤ 1048576) : kTo r 1 r.length ≤ 1000000000 := by
  have h1 := kTo_le r r.length (Nat.le_refl _) 1
  have h2 : wtToF r r.length = wtToF l l.length := by
    rw [← hr]
    unfold wtToF
    rw [List.take_of_length_le (by simp), List.take_of_length_le (Nat.le_refl _), List.map_map]
    rfl
  have h3 : r.length = l.length := by rw [← hr, List.length_map]
  unfold wtLF at hb
  omega
theorem f3 (l : List Ft) (n1 : Bool) (v : Lv) (hl : l.length ≤ 9223372036854775807) (hx : ∀ x ∈ l, x.fits) : Fn Tryz.prog 3 false [.lst 5 n1 (l.map ft), .agg (lv v)] (.bool true) := by
  have cs := f10 v
  have w1 := fun r => f8 r false v
  have w2 := fun r => f11 r false v
  unfold lv at cs w1 w2 ⊢
  refine Fn.by_sx hX (by kernel_rfl) c3 (by kernel_rfl) (by rfl) ?_
  simp [i3, sxa, isPtrN, PV.pcs, elAt, setEl, inAt, elIn, setIn, isLst, cellsOf, Ex.ok, Ex.val, Opd.val, POp.dst, bin_int, binOK_int, bin_str, binOK_str, resOK, resV, RB.val, sub, putc, scB, scL, oneB, conf, Ex.val.eqP, Ex.val.eqL, negV, mxV, mnV, ← wr_eq, wr_zero, wr_one, wr_m1, bst_lst, byteC, partsOK, putAll, appV, nilV, slV, sslV, optB, optNum, and_assoc, exists_and_left, exists_eq_left']
  refine CallS_s (f7 l n1 1048576 (by omega) (by omega) hl hx) rfl ?_
  by_cases hbig : (1048576 : Int) - wtLF l < 0
  · have : szr 1048576 (wtLF l : Nat) = -1 := if_pos hbig
    rw [this]
    clear w1 w2 cs
    repeat' (first | intro _ | (simp [sxa, isPtrN, PV.pcs, elAt, setEl, inAt, elIn, setIn, isLst, cellsOf, Ex.ok, Ex.val, Opd.val, POp.dst, bin_int, binOK_int, bin_str, binOK_str, resOK, resV, RB.val, sub, putc, scB, scL, oneB, conf, Ex.val.eqP, Ex.val.eqL, negV, mxV, mnV, ← wr_eq, wr_zero, wr_one, wr_m1, bst_lst, byteC, partsOK, putAll, appV, nilV, slV, sslV, optB, optNum, and_assoc, exists_and_left, exists_eq_left', *]) | refine CondS_d (fun h => ?_) (fun h => ?_) | refine CondS_b (fun h => ?_) (fun h => ?_) | refine GrdS_d (fun h => ?_) (fun h => ?_) | refine GrdS_b (fun h => ?_) (fun h => ?_) | refine OkS_i (by omega) ?_ | refine OkS_i ⟨by omega, by assumption⟩ ?_ | refine OkS_i ⟨by omega, by assumption, by assumption⟩ ?_ | fail)
  have hz : szr 1048576 (wtLF l : Nat) = 1048576 - wtLF l := if_neg hbig
  rw [hz]
  have hL := wtLF_len l
  have hl' : l.length ≤ 1048576 := by omega
  have hm : ∀ x ∈ l, x.f3.size ≤ 1048576 ∧ x.f4.length ≤ 1048576 := fun x hx => by have := wtLF_mem hx; omega
  have c1 := f9 l n1 hl' fun x h => (hm x h).2
  obtain ⟨r, hr⟩ : ∃ r, l.map Ft.fr = r := ⟨_, rfl⟩
  have hrl : r.length ≤ 1048576 := by rw [← hr, List.length_map]; exact hl'
  have hrm := frF_small hr hm
  have hrn := frF_nlok hr
  have hrk := frF_k hr (by omega)
  have hri := fr_nice hr hm
  rw [hr] at c1
  have c3 := w1 r (by omega) hri
  have c4 := w2 r (by omega) hri
  have c5 := f13 r false false (by omega) fun x h => by have := hrm x h; omega
  have hG : (lnOf r v).length ≤ 16 := Nat.le_trans (lnTo_len ..) (shown_16 ..)
  obtain ⟨G, hGe⟩ : ∃ G, lnOf r v = G := ⟨_, rfl⟩
  rw [hGe] at c3 c4 hG
  have c6 := f12 G false false (by omega)
  have c7 := f14 r false 1 (by simp) hrn (by omega) (by omega) hrk
  have c8 := f15 G false 1 (by simp) (by omega) (by omega)
  have c9 := f16 G false 1 (by omega) (by omega)
  have hk1 := kTo_mono (l := r) (k := 1) (n := 0) (m := r.length) (by omega)
  have hk1 : 1 ≤ kTo r 1 r.length := hk1
  obtain ⟨K, hK⟩ : ∃ K, kTo r 1 r.length = K := ⟨_, rfl⟩
  rw [hK] at c7 hk1
  obtain ⟨R, hR⟩ : ∃ R, (upTo (mkFtAt r 1) r.length).map ft = R := ⟨_, rfl⟩
  rw [hR] at c7
  obtain ⟨m, hme⟩ : ∃ m : Int, 1 + (G.length : Int) = m := ⟨_, rfl⟩
  rw [hme] at c8 c9
  obtain ⟨GG, hGG⟩ : ∃ GG, upTo (mkInt 1) G.length = GG := ⟨_, rfl⟩
  rw [hGG] at c8 c9
  have hm0 : ¬ m < 0 := by omega
  have hK0 : ¬ K < 0 := by omega
  have hnn : ¬ (1048576 : Int) - wtLF l < 0 := by omega
  clear hr hz w1 w2 hGe hK hR hme hGG
  repeat' (first | intro _ | (simp [sxa, isPtrN, PV.pcs, elAt, setEl, inAt, elIn, setIn, isLst, cellsOf, Ex.ok, Ex.val, Opd.val, POp.dst, bin_int, binOK_int, bin_str, binOK_str, resOK, resV, RB.val, sub, putc, scB, scL, oneB, conf, Ex.val.eqP, Ex.val.eqL, negV, mxV, mnV, ← wr_eq, wr_zero, wr_one, wr_m1, bst_lst, byteC, partsOK, putAll, appV, nilV, slV, sslV, optB, optNum, and_assoc, exists_and_left, exists_eq_left', *]) | refine CallS_i (c1) ?_ | refine CallS_i (cs) ?_ | refine CallS_i (c3) ?_ | refine CallS_i (c4) ?_ | refine CallS_i (c5) ?_ | refine CallS_i (c6) ?_ | refine CallS_i (c7) ?_ | refine CallS_i (c8) ?_ | refine CallS_i (c9) ?_ | refine CallM_i (c1) ?_ | refine CallM_i (cs) ?_ | refine CallM_i (c3) ?_ | refine CallM_i (c4) ?_ | refine CallM_i (c5) ?_ | refine CallM_i (c6) ?_ | refine CallM_i (c7) ?_ | refine CallM_i (c8) ?_ | refine CallM_i (c9) ?_ | refine CallE_i (c1) ?_ | refine CallE_i (cs) ?_ | refine CallE_i (c3) ?_ | refine CallE_i (c4) ?_ | refine CallE_i (c5) ?_ | refine CallE_i (c6) ?_ | refine CallE_i (c7) ?_ | refine CallE_i (c8) ?_ | refine CallE_i (c9) ?_ | refine CallX_i (c1) ?_ | refine CallX_i (cs) ?_ | refine CallX_i (c3) ?_ | refine CallX_i (c4) ?_ | refine CallX_i (c5) ?_ | refine CallX_i (c6) ?_ | refine CallX_i (c7) ?_ | refine CallX_i (c8) ?_ | refine CallX_i (c9) ?_ | refine CallB_i (c1) ?_ | refine CallB_i (cs) ?_ | refine CallB_i (c3) ?_ | refine CallB_i (c4) ?_ | refine CallB_i (c5) ?_ | refine CallB_i (c6) ?_ | refine CallB_i (c7) ?_ | refine CallB_i (c8) ?_ | refine CallB_i (c9) ?_ | refine CondS_d (fun h => ?_) (fun h => ?_) | refine CondS_b (fun h => ?_) (fun h => ?_) | refine GrdS_d (fun h => ?_) (fun h => ?_) | refine GrdS_b (fun h => ?_) (fun h => ?_) | refine OkS_i (by omega) ?_ | refine OkS_i ⟨by omega, by assumption⟩ ?_ | refine OkS_i ⟨by omega, by assumption, by assumption⟩ ?_ | fail)
end Go.Eng
namespace Go.Eng
open Go Go.Proofs Geo
set_option linter.unusedSimpArgs false
set_option linter.unusedVariables false
set_option maxRecDepth 20000
set_option maxHeartbeats 1000000

/-! the first level that a feature is missing from. WRITES -/
def lvD : Lv := ⟨0, 0, 0⟩
def lvAt (v : List Lv) (n : Nat) : Bool := wLv (v.getD n lvD) && !(decide (0 < n) && (decide ((v.getD n lvD).f0 < (v.getD (n - 1) lvD).f0) || (decide ((v.getD n lvD).f1 < (v.getD (n - 1) lvD).f1) || decide ((v.getD n lvD).f2 < (v.getD (n - 1) lvD).f2))))
def ladr (v : List Lv) : Bool := inR v.length 1 5 && allTo (lvAt v) v.length
theorem f48 (l : List Lv) (nl : Bool) (hl : l.length ≤ 1048576) : Fn Tryz.prog 48 false [.lst 3 nl (l.map lv)] (.bool (ladr l)) := by
  refine Fn.by_sx hX (by kernel_rfl) c48 (by kernel_rfl) (by rfl) ?_
  simp [i48, sxa, isPtrN, PV.pcs, elAt, setEl, inAt, elIn, setIn, isLst, cellsOf, Ex.ok, Ex.val, Opd.val, POp.dst, bin_int, binOK_int, bin_str, binOK_str, resOK, resV, RB.val, sub, putc, scB, scL, oneB, conf, Ex.val.eqP, Ex.val.eqL, negV, mxV, mnV, ← wr_eq, wr_zero, wr_one, wr_m1, bst_lst, byteC, partsOK, putAll, appV, nilV, slV, sslV, optB, optNum, and_assoc, exists_and_left, exists_eq_left']
  refine sx_count l.length (fun n V => V 0 = .lst 3 nl (l.map lv) ∧ V 3 = i n ∧ allTo (lvAt l) n = true) 0 (by omega) (by simp [sxa, isPtrN, PV.pcs, elAt, setEl, inAt, elIn, setIn, isLst, cellsOf, Ex.ok, Ex.val, Opd.val, POp.dst, bin_int, binOK_int, bin_str, binOK_str, resOK, resV, RB.val, sub, putc, scB, scL, oneB, conf, Ex.val.eqP, Ex.val.eqL, negV, mxV, mnV, ← wr_eq, wr_zero, wr_one, wr_m1, bst_lst, byteC, partsOK, putAll, appV, nilV, slV, sslV, optB, optNum, and_assoc, exists_and_left, exists_eq_left', allTo_zero]) ?_
  rintro n V hn ⟨h0, h3, ha⟩
  simp [sxa, isPtrN, PV.pcs, elAt, setEl, inAt, elIn, setIn, isLst, cellsOf, Ex.ok, Ex.val, Opd.val, POp.dst, bin_int, binOK_int, bin_str, binOK_str, resOK, resV, RB.val, sub, putc, scB, scL, oneB, conf, Ex.val.eqP, Ex.val.eqL, negV, mxV, mnV, ← wr_eq, wr_zero, wr_one, wr_m1, bst_lst, byteC, partsOK, putAll, appV, nilV, slV, sslV, optB, optNum, and_assoc, exists_and_left, exists_eq_left', h0, h3]
  refine CondS_d (fun hlt => ?_) (fun hge => ?_)
  · have hlt' : n < l.length := by omega
    have hbad : lvAt l n = false → ladr l = false := fun h => by simp [ladr, allTo_bad hlt' h]
    have h1 := f75 l[n]
    unfold lv at h1
    rcases Nat.eq_zero_or_pos n with rfl | hpos
    · repeat' (first | intro _ | (simp [sxa, isPtrN, PV.pcs, elAt, setEl, inAt, elIn, setIn, isLst, cellsOf, Ex.ok, Ex.val, Opd.val, POp.dst, bin_int, binOK_int, bin_str, binOK_str, resOK, resV, RB.val, sub, putc, scB, scL, oneB, conf, Ex.val.eqP, Ex.val.eqL, negV, mxV, mnV, ← wr_eq, wr_zero, wr_one, wr_m1, bst_lst, byteC, partsOK, putAll, appV, nilV, slV, sslV, optB, optNum, and_assoc, exists_and_left, exists_eq_left', lv, allTo_succ, *]) | refine CallS_b (h1) (fun h => ?_) (fun h => ?_) | refine CondS_d (fun h => ?_) (fun h => ?_) | refine CondS_b (fun h => ?_) (fun h => ?_) | refine GrdS_d (fun h => ?_) (fun h => ?_) | refine GrdS_b (fun h => ?_) (fun h => ?_) | refine OkS_i (by omega) ?_ | refine OkS_i ⟨by omega, by assumption⟩ ?_ | refine OkS_i ⟨by omega, by assumption, by assumption⟩ ?_ | fail)
      all_goals first | (apply hbad; simp_all [lvAt]; done) | simp_all [lvAt]
    · have hw : wr .i64 ((n : Int) + 1) = n + 1 := wr_in (by omega) (by omega)
      have hw2 : wr .i64 ((n : Int) - 1) = ((n - 1 : Nat) : Int) := wrap_down n hpos (by omega)
      have hpos' : (0 : Int) < n := by omega
      have hm : n - 1 < l.length := by omega
      repeat' (first | intro _ | (simp [sxa, isPtrN, PV.pcs, elAt, setEl, inAt, elIn, setIn, isLst, cellsOf, Ex.ok, Ex.val, Opd.val, POp.dst, bin_int, binOK_int, bin_str, binOK_str, resOK, resV, RB.val, sub, putc, scB, scL, oneB, conf, Ex.val.eqP, Ex.val.eqL, negV, mxV, mnV, ← wr_eq, wr_zero, wr_one, wr_m1, bst_lst, byteC, partsOK, putAll, appV, nilV, slV, sslV, optB, optNum, and_assoc, exists_and_left, exists_eq_left', lv, allTo_succ, *]) | refine CallS_b (h1) (fun h => ?_) (fun h => ?_) | refine CondS_d (fun h => ?_) (fun h => ?_) | refine CondS_b (fun h => ?_) (fun h => ?_) | refine GrdS_d (fun h => ?_) (fun h => ?_) | refine GrdS_b (fun h => ?_) (fun h => ?_) | refine OkS_i (by omega) ?_ | refine OkS_i ⟨by omega, by assumption⟩ ?_ | refine OkS_i ⟨by omega, by assumption, by assumption⟩ ?_ | fail)
      all_goals first | (apply hbad; simp_all [lvAt]; done) | simp_all [lvAt]
      all_goals omega
  · have : n = l.length := by omega
    subst this
    have hr := f88 l.length 1 5
    have he : ladr l = inR l.length 1 5 := by unfold ladr; rw [ha]; simp
    rw [he]
    repeat' (first | intro _ | (simp [sxa, isPtrN, PV.pcs, elAt, setEl, inAt, elIn, setIn, isLst, cellsOf, Ex.ok, Ex.val, Opd.val, POp.dst, bin_int, binOK_int, bin_str, binOK_str, resOK, resV, RB.val, sub, putc, scB, scL, oneB, conf, Ex.val.eqP, Ex.val.eqL, negV, mxV, mnV, ← wr_eq, wr_zero, wr_one, wr_m1, bst_lst, byteC, partsOK, putAll, appV, nilV, slV, sslV, optB, optNum, and_assoc, exists_and_left, exists_eq_left', *]) | refine CallS_i (hr) ?_ | refine CallM_i (hr) ?_ | refine CallE_i (hr) ?_ | refine CallX_i (hr) ?_ | refine CallB_i (hr) ?_ | refine CondS_d (fun h => ?_) (fun h => ?_) | refine CondS_b (fun h => ?_) (fun h => ?_) | refine GrdS_d (fun h => ?_) (fun h => ?_) | refine GrdS_b (fun h => ?_) (fun h => ?_) | refine OkS_i (by omega) ?_ | refine OkS_i ⟨by omega, by assumption⟩ ?_ | refine OkS_i ⟨by omega, by assumption, by assumption⟩ ?_ | fail)
theorem f51 (l : List Lv) (nl : Bool) (hl : l.length ≤ 1048576) : Fn Tryz.prog 51 false [.lst 3 nl (l.map lv)] (.bool (ladr l)) := by
  have hr := f90 l.length 1 5
  refine Fn.by_sx hX (by kernel_rfl) c51 (by kernel_rfl) (by rfl) ?_
  simp [i51, sxa, isPtrN, PV.pcs, elAt, setEl, inAt, elIn, setIn, isLst, cellsOf, Ex.ok, Ex.val, Opd.val, POp.dst, bin_int, binOK_int, bin_str, binOK_str, resOK, resV, RB.val, sub, putc, scB, scL, oneB, conf, Ex.val.eqP, Ex.val.eqL, negV, mxV, mnV, ← wr_eq, wr_zero, wr_one, wr_m1, bst_lst, byteC, partsOK, putAll, appV, nilV, slV, sslV, optB, optNum, and_assoc, exists_and_left, exists_eq_left']
  refine CallS_i (hr) ?_
  simp [sxa, isPtrN, PV.pcs, elAt, setEl, inAt, elIn, setIn, isLst, cellsOf, Ex.ok, Ex.val, Opd.val, POp.dst, bin_int, binOK_int, bin_str, binOK_str, resOK, resV, RB.val, sub, putc, scB, scL, oneB, conf, Ex.val.eqP, Ex.val.eqL, negV, mxV, mnV, ← wr_eq, wr_zero, wr_one, wr_m1, bst_lst, byteC, partsOK, putAll, appV, nilV, slV, sslV, optB, optNum, and_assoc, exists_and_left, exists_eq_left']
  clear hr
  cases hL : inR l.length 1 5 with
  | false =>
    have hf : ladr l = false := by simp [ladr, hL]
    repeat' (first | intro _ | (simp [sxa, isPtrN, PV.pcs, elAt, setEl, inAt, elIn, setIn, isLst, cellsOf, Ex.ok, Ex.val, Opd.val, POp.dst, bin_int, binOK_int, bin_str, binOK_str, resOK, resV, RB.val, sub, putc, scB, scL, oneB, conf, Ex.val.eqP, Ex.val.eqL, negV, mxV, mnV, ← wr_eq, wr_zero, wr_one, wr_m1, bst_lst, byteC, partsOK, putAll, appV, nilV, slV, sslV, optB, optNum, and_assoc, exists_and_left, exists_eq_left', *]) | refine CondS_d (fun h => ?_) (fun h => ?_) | refine CondS_b (fun h => ?_) (fun h => ?_) | refine GrdS_d (fun h => ?_) (fun h => ?_) | refine GrdS_b (fun h => ?_) (fun h => ?_) | refine OkS_i (by omega) ?_ | refine OkS_i ⟨by omega, by assumption⟩ ?_ | refine OkS_i ⟨by omega, by assumption, by assumption⟩ ?_ | fail)
  | true =>
  repeat' (first | intro _ | (simp [sxa, isPtrN, PV.pcs, elAt, setEl, inAt, elIn, setIn, isLst, cellsOf, Ex.ok, Ex.val, Opd.val, POp.dst, bin_int, binOK_int, bin_str, binOK_str, resOK, resV, RB.val, sub, putc, scB, scL, oneB, conf, Ex.val.eqP, Ex.val.eqL, negV, mxV, mnV, ← wr_eq, wr_zero, wr_one, wr_m1, bst_lst, byteC, partsOK, putAll, appV, nilV, slV, sslV, optB, optNum, and_assoc, exists_and_left, exists_eq_left', *]) | refine CondS_d (fun h => ?_) (fun h => ?_) | refine CondS_b (fun h => ?_) (fun h => ?_) | refine GrdS_d (fun h => ?_) (fun h => ?_) | refine GrdS_b (fun h => ?_) (fun h => ?_) | refine OkS_i (by omega) ?_ | refine OkS_i ⟨by omega, by assumption⟩ ?_ | refine OkS_i ⟨by omega, by assumption, by assumption⟩ ?_ | fail)
  refine sx_count l.length (fun n V => V 0 = .lst 3 nl (l.map lv) ∧ V 9 = .lst 3 nl (l.map lv) ∧ V 10 = i l.length ∧ V 11 = i n ∧ allTo (lvAt l) n = true) 0 (by omega) (by simp [sxa, isPtrN, PV.pcs, elAt, setEl, inAt, elIn, setIn, isLst, cellsOf, Ex.ok, Ex.val, Opd.val, POp.dst, bin_int, binOK_int, bin_str, binOK_str, resOK, resV, RB.val, sub, putc, scB, scL, oneB, conf, Ex.val.eqP, Ex.val.eqL, negV, mxV, mnV, ← wr_eq, wr_zero, wr_one, wr_m1, bst_lst, byteC, partsOK, putAll, appV, nilV, slV, sslV, optB, optNum, and_assoc, exists_and_left, exists_eq_left', allTo_zero]) ?_
  rintro n V hn ⟨h0, h8, h9, h10, ha⟩
  simp [sxa, isPtrN, PV.pcs, elAt, setEl, inAt, elIn, setIn, isLst, cellsOf, Ex.ok, Ex.val, Opd.val, POp.dst, bin_int, binOK_int, bin_str, binOK_str, resOK, resV, RB.val, sub, putc, scB, scL, oneB, conf, Ex.val.eqP, Ex.val.eqL, negV, mxV, mnV, ← wr_eq, wr_zero, wr_one, wr_m1, bst_lst, byteC, partsOK, putAll, appV, nilV, slV, sslV, optB, optNum, and_assoc, exists_and_left, exists_eq_left', h9, h10]
  refine CondS_d (fun hlt => ?_) (fun hge => ?_)
  · have hlt' : n < l.length := by omega
    have hbad : lvAt l n = false → ladr l = false := fun h => by simp [ladr, allTo_bad hlt' h]
    have h1 := f80 l[n]
    unfold lv at h1
    rcases Nat.eq_zero_or_pos n with rfl | hpos
    · repeat' (first | intro _ | (simp [sxa, isPtrN, PV.pcs, elAt, setEl, inAt, elIn, setIn, isLst, cellsOf, Ex.ok, Ex.val, Opd.val, POp.dst, bin_int, binOK_int, bin_str, binOK_str, resOK, resV, RB.val, sub, putc, scB, scL, oneB, conf, Ex.val.eqP, Ex.val.eqL, negV, mxV, mnV, ← wr_eq, wr_zero, wr_one, wr_m1, bst_lst, byteC, partsOK, putAll, appV, nilV, slV, sslV, optB, optNum, and_assoc, exists_and_left, exists_eq_left', lv, allTo_succ, *]) | refine CallS_b (h1) (fun h => ?_) (fun h => ?_) | refine CondS_d (fun h => ?_) (fun h => ?_) | refine CondS_b (fun h => ?_) (fun h => ?_) | refine GrdS_d (fun h => ?_) (fun h => ?_) | refine GrdS_b (fun h => ?_) (fun h => ?_) | refine OkS_i (by omega) ?_ | refine OkS_i ⟨by omega, by assumption⟩ ?_ | refine OkS_i ⟨by omega, by assumption, by assumption⟩ ?_ | fail)
      all_goals first | (apply hbad; simp_all [lvAt]; done) | simp_all [lvAt]
    · have hw : wr .i64 ((n : Int) + 1) = n + 1 := wr_in (by omega) (by omega)
      have hw2 : wr .i64 ((n : Int) - 1) = ((n - 1 : Nat) : Int) := wrap_down n hpos (by omega)
      have hpos' : (0 : Int) < n := by omega
      have hm : n - 1 < l.length := by omega
      repeat' (first | intro _ | (simp [sxa, isPtrN, PV.pcs, elAt, setEl, inAt, elIn, setIn, isLst, cellsOf, Ex.ok, Ex.val, Opd.val, POp.dst, bin_int, binOK_int, bin_str, binOK_str, resOK, resV, RB.val, sub, putc, scB, scL, oneB, conf, Ex.val.eqP, Ex.val.eqL, negV, mxV, mnV, ← wr_eq, wr_zero, wr_one, wr_m1, bst_lst, byteC, partsOK, putAll, appV, nilV, slV, sslV, optB, optNum, and_assoc, exists_and_left, exists_eq_left', lv, allTo_succ, *]) | refine CallS_b (h1) (fun h => ?_) (fun h => ?_) | refine CondS_d (fun h => ?_) (fun h => ?_) | refine CondS_b (fun h => ?_) (fun h => ?_) | refine GrdS_d (fun h => ?_) (fun h => ?_) | refine GrdS_b (fun h => ?_) (fun h => ?_) | refine OkS_i (by omega) ?_ | refine OkS_i ⟨by omega, by assumption⟩ ?_ | refine OkS_i ⟨by omega, by assumption, by assumption⟩ ?_ | fail)
      all_goals first | (apply hbad; simp_all [lvAt]; done) | simp_all [lvAt]
      all_goals omega
  · have : n = l.length := by omega
    subst this
    have he : ladr l = true := by unfold ladr; rw [ha, hL]; simp
    rw [he]
    repeat' (first | intro _ | (simp [sxa, isPtrN, PV.pcs, elAt, setEl, inAt, elIn, setIn, isLst, cellsOf, Ex.ok, Ex.val, Opd.val, POp.dst, bin_int, binOK_int, bin_str, binOK_str, resOK, resV, RB.val, sub, putc, scB, scL, oneB, conf, Ex.val.eqP, Ex.val.eqL, negV, mxV, mnV, ← wr_eq, wr_zero, wr_one, wr_m1, bst_lst, byteC, partsOK, putAll, appV, nilV, slV, sslV, optB, optNum, and_assoc, exists_and_left, exists_eq_left', *]) | refine CondS_d (fun h => ?_) (fun h => ?_) | refine CondS_b (fun h => ?_) (fun h => ?_) | refine GrdS_d (fun h => ?_) (fun h => ?_) | refine GrdS_b (fun h => ?_) (fun h => ?_) | refine OkS_i (by omega) ?_ | refine OkS_i ⟨by omega, by assumption⟩ ?_ | refine OkS_i ⟨by omega, by assumption, by assumption⟩ ?_ | fail)
/-! whether a number is held -/
def isAt (l : List Int) (x : Int) (n : Nat) : Bool := decide (l.getD n 0 = x)
def wIx (l : List Int) (x : Int) : Int := firstFrom (isAt l x) (l.length - 0) 0
theorem wIx_pos (l : List Int) (x : Int) : decide (0 ≤ wIx l x) = decide (x ∈ l) := by
  have h := firstFrom_get (ok := isAt l x) (l.length - 0) 0
  have hb := firstFrom_bound (ok := isAt l x) (l.length - 0) 0
  apply decide_eq_decide.2
  constructor
  · intro h0
    have h1 := h.1 h0
    have hlt : (wIx l x).toNat < l.length := by unfold wIx at *; omega
    have h2 : isAt l x (wIx l x).toNat = true := h1
    simp [isAt, hlt] at h2
    exact h2 ▸ List.getElem_mem hlt
  · intro hm
    obtain ⟨n, hn, he⟩ := List.getElem_of_mem hm
    apply Int.not_lt.1
    intro h0
    have := h.2 h0 n (by omega) (by omega)
    simp [isAt, hn, he] at this
theorem f91 (l : List Int) (nl : Bool) (x : Int) (hl : l.length ≤ 1048576) : Fn Tryz.prog 91 false [.lst 1 nl (l.map fun m => [i m]), i x] (i (wIx l x)) := by
  refine Fn.by_sx hX (by kernel_rfl) c91 (by kernel_rfl) (by rfl) ?_
  simp [i91, sxa, isPtrN, PV.pcs, elAt, setEl, inAt, elIn, setIn, isLst, cellsOf, Ex.ok, Ex.val, Opd.val, POp.dst, bin_int, binOK_int, bin_str, binOK_str, resOK, resV, RB.val, sub, putc, scB, scL, oneB, conf, Ex.val.eqP, Ex.val.eqL, negV, mxV, mnV, ← wr_eq, wr_zero, wr_one, wr_m1, bst_lst, byteC, partsOK, putAll, appV, nilV, slV, sslV, optB, optNum, and_assoc, exists_and_left, exists_eq_left']
  refine sx_count l.length (fun n V => V 0 = .lst 1 nl (l.map fun m => [i m]) ∧ V 1 = i x ∧ V 7 = i l.length ∧ V 8 = i n ∧ wIx l x = firstFrom (isAt l x) (l.length - n) n) 0 (by omega) (by simp [sxa, isPtrN, PV.pcs, elAt, setEl, inAt, elIn, setIn, isLst, cellsOf, Ex.ok, Ex.val, Opd.val, POp.dst, bin_int, binOK_int, bin_str, binOK_str, resOK, resV, RB.val, sub, putc, scB, scL, oneB, conf, Ex.val.eqP, Ex.val.eqL, negV, mxV, mnV, ← wr_eq, wr_zero, wr_one, wr_m1, bst_lst, byteC, partsOK, putAll, appV, nilV, slV, sslV, optB, optNum, and_assoc, exists_and_left, exists_eq_left']; rfl) ?_
  rintro n V hn ⟨g0, g1, g7, g8, ha⟩
  have hw : wr .i64 ((n : Int) + 1) = n + 1 := wr_in (by omega) (by omega)
  rcases Nat.lt_or_ge n l.length with hlt' | hge
  · have hI : (n : Int) < l.length := by omega
    rw [firstFrom_step hlt'] at ha
    by_cases h : x = l[n]
    · have h2 : isAt l x n = true := by simp [isAt, hlt', h]
      rw [h2, if_pos rfl] at ha
      rw [ha]
      clear ha h2
      repeat' (first | intro _ | (simp [sxa, isPtrN, PV.pcs, elAt, setEl, inAt, elIn, setIn, isLst, cellsOf, Ex.ok, Ex.val, Opd.val, POp.dst, bin_int, binOK_int, bin_str, binOK_str, resOK, resV, RB.val, sub, putc, scB, scL, oneB, conf, Ex.val.eqP, Ex.val.eqL, negV, mxV, mnV, ← wr_eq, wr_zero, wr_one, wr_m1, bst_lst, byteC, partsOK, putAll, appV, nilV, slV, sslV, optB, optNum, and_assoc, exists_and_left, exists_eq_left', *]) | refine CondS_d (fun h => ?_) (fun h => ?_) | refine CondS_b (fun h => ?_) (fun h => ?_) | refine GrdS_d (fun h => ?_) (fun h => ?_) | refine GrdS_b (fun h => ?_) (fun h => ?_) | refine OkS_i (by omega) ?_ | refine OkS_i ⟨by omega, by assumption⟩ ?_ | refine OkS_i ⟨by omega, by assumption, by assumption⟩ ?_ | fail)
      all_goals simp_all
    · have h2 : isAt l x n = false := by simp [isAt, hlt']; omega
      rw [h2, if_neg (by simp)] at ha
      clear h2
      repeat' (first | intro _ | (simp [sxa, isPtrN, PV.pcs, elAt, setEl, inAt, elIn, setIn, isLst, cellsOf, Ex.ok, Ex.val, Opd.val, POp.dst, bin_int, binOK_int, bin_str, binOK_str, resOK, resV, RB.val, sub, putc, scB, scL, oneB, conf, Ex.val.eqP, Ex.val.eqL, negV, mxV, mnV, ← wr_eq, wr_zero, wr_one, wr_m1, bst_lst, byteC, partsOK, putAll, appV, nilV, slV, sslV, optB, optNum, and_assoc, exists_and_left, exists_eq_left', *]) | refine CondS_d (fun h => ?_) (fun h => ?_) | refine CondS_b (fun h => ?_) (fun h => ?_) | refine GrdS_d (fun h => ?_) (fun h => ?_) | refine GrdS_b (fun h => ?_) (fun h => ?_) | refine OkS_i (by omega) ?_ | refine OkS_i ⟨by omega, by assumption⟩ ?_ | refine OkS_i ⟨by omega, by assumption, by assumption⟩ ?_ | fail)
      all_goals simp_all
  · have : n = l.length := by omega
    subst this
    rw [firstFrom_end] at ha
    rw [ha]
    clear ha
    repeat' (first | intro _ | (simp [sxa, isPtrN, PV.pcs, elAt, setEl, inAt, elIn, setIn, isLst, cellsOf, Ex.ok, Ex.val, Opd.val, POp.dst, bin_int, binOK_int, bin_str, binOK_str, resOK, resV, RB.val, sub, putc, scB, scL, oneB, conf, Ex.val.eqP, Ex.val.eqL, negV, mxV, mnV, ← wr_eq, wr_zero, wr_one, wr_m1, bst_lst, byteC, partsOK, putAll, appV, nilV, slV, sslV, optB, optNum, and_assoc, exists_and_left, exists_eq_left', *]) | refine CondS_d (fun h => ?_) (fun h => ?_) | refine CondS_b (fun h => ?_) (fun h => ?_) | refine GrdS_d (fun h => ?_) (fun h => ?_) | refine GrdS_b (fun h => ?_) (fun h => ?_) | refine OkS_i (by omega) ?_ | refine OkS_i ⟨by omega, by assumption⟩ ?_ | refine OkS_i ⟨by omega, by assumption, by assumption⟩ ?_ | fail)
theorem f52 (l : List Int) (nl : Bool) (x : Int) (hl : l.length ≤ 1048576) : Fn Tryz.prog 52 false [.lst 1 nl (l.map fun m => [i m]), i x] (.bool (decide (x ∈ l))) := by
  have c := f91 l nl x hl
  rw [← wIx_pos]
  refine Fn.by_sx hX (by kernel_rfl) c52 (by kernel_rfl) (by rfl) ?_
  simp [i52, sxa, isPtrN, PV.pcs, elAt, setEl, inAt, elIn, setIn, isLst, cellsOf, Ex.ok, Ex.val, Opd.val, POp.dst, bin_int, binOK_int, bin_str, binOK_str, resOK, resV, RB.val, sub, putc, scB, scL, oneB, conf, Ex.val.eqP, Ex.val.eqL, negV, mxV, mnV, ← wr_eq, wr_zero, wr_one, wr_m1, bst_lst, byteC, partsOK, putAll, appV, nilV, slV, sslV, optB, optNum, and_assoc, exists_and_left, exists_eq_left']
  repeat' (first | intro _ | (simp [sxa, isPtrN, PV.pcs, elAt, setEl, inAt, elIn, setIn, isLst, cellsOf, Ex.ok, Ex.val, Opd.val, POp.dst, bin_int, binOK_int, bin_str, binOK_str, resOK, resV, RB.val, sub, putc, scB, scL, oneB, conf, Ex.val.eqP, Ex.val.eqL, negV, mxV, mnV, ← wr_eq, wr_zero, wr_one, wr_m1, bst_lst, byteC, partsOK, putAll, appV, nilV, slV, sslV, optB, optNum, and_assoc, exists_and_left, exists_eq_left', *]) | refine CallS_i (c) ?_ | refine CallM_i (c) ?_ | refine CallE_i (c) ?_ | refine CallX_i (c) ?_ | refine CallB_i (c) ?_ | refine CondS_d (fun h => ?_) (fun h => ?_) | refine CondS_b (fun h => ?_) (fun h => ?_) | refine GrdS_d (fun h => ?_) (fun h => ?_) | refine GrdS_b (fun h => ?_) (fun h => ?_) | refine OkS_i (by omega) ?_ | refine OkS_i ⟨by omega, by assumption⟩ ?_ | refine OkS_i ⟨by omega, by assumption, by assumption⟩ ?_ | fail)
end Go.Eng
namespace Go.Eng
open Go Go.Proofs Geo
set_option linter.unusedSimpArgs false
set_option linter.unusedVariables false
set_option maxRecDepth 20000
set_option maxHeartbeats 1000000

/-! the first level that a feature is missing from. WRITES -/
def fmF (ok : Nat → Bool) : Nat → Nat → Nat
  | 0, n => n
  | d + 1, n => if ok n = true then fmF ok d (n + 1) else n
theorem fmF_step {ok : Nat → Bool} {n N : Nat} (h : n < N) : fmF ok (N - n) n = if ok n = true then fmF ok (N - (n + 1)) (n + 1) else n := by
  rw [show N - n = (N - (n + 1)) + 1 by omega]; rfl
theorem fmF_end {ok : Nat → Bool} {N : Nat} : fmF ok (N - N) N = N := by rw [Nat.sub_self]; rfl
def msAt (l : List Ft) (v : List Lv) (id : Int) (n : Nat) : Bool := decide (id ∈ shown l (v.getD n lvD))
def fmiss (l : List Ft) (v : List Lv) (id : Int) : Int := if (ladr v && (wSrc l && !decide (wFind l id < 0))) = true then (fmF (msAt l v id) (v.length - 0) 0 : Nat) else -1
theorem f18 (l : List Ft) (v : List Lv) (id : Int) (nl n2 : Bool) (hl : l.length ≤ 1048576) (hb : ∀ x ∈ l, x.nice) (hv : v.length ≤ 1048576) : Fn Tryz.prog 18 false [.lst 5 nl (l.map ft), .lst 3 n2 (v.map lv), i id] (i (fmiss l v id)) := by
  have cL := f48 v n2 hv
  have cS := f49 l nl (by omega) fun x hx => (hb x hx).1
  have cF := f41 l nl id (by omega)
  by_cases hok : (ladr v && (wSrc l && !decide (wFind l id < 0))) = true
  case neg =>
    have e : fmiss l v id = -1 := if_neg hok
    rw [e]
    obtain ⟨b1, h1⟩ : ∃ b, ladr v = b := ⟨_, rfl⟩
    obtain ⟨b2, h2⟩ : ∃ b, wSrc l = b := ⟨_, rfl⟩
    obtain ⟨k, h3⟩ : ∃ b, wFind l id = b := ⟨_, rfl⟩
    rw [h1] at cL hok
    rw [h2] at cS hok
    rw [h3] at cF hok
    clear h1 h2 h3 e hb
    refine Fn.by_sx hX (by kernel_rfl) c18 (by kernel_rfl) (by rfl) ?_
    simp [i18, sxa, isPtrN, PV.pcs, elAt, setEl, inAt, elIn, setIn, isLst, cellsOf, Ex.ok, Ex.val, Opd.val, POp.dst, bin_int, binOK_int, bin_str, binOK_str, resOK, resV, RB.val, sub, putc, scB, scL, oneB, conf, Ex.val.eqP, Ex.val.eqL, negV, mxV, mnV, ← wr_eq, wr_zero, wr_one, wr_m1, bst_lst, byteC, partsOK, putAll, appV, nilV, slV, sslV, optB, optNum, and_assoc, exists_and_left, exists_eq_left']
    cases b1 <;> cases b2 <;> by_cases hk : k < 0
    all_goals try (simp [hk] at hok; done)
    all_goals try clear hok
    all_goals repeat' (first | intro _ | (simp [sxa, isPtrN, PV.pcs, elAt, setEl, inAt, elIn, setIn, isLst, cellsOf, Ex.ok, Ex.val, Opd.val, POp.dst, bin_int, binOK_int, bin_str, binOK_str, resOK, resV, RB.val, sub, putc, scB, scL, oneB, conf, Ex.val.eqP, Ex.val.eqL, negV, mxV, mnV, ← wr_eq, wr_zero, wr_one, wr_m1, bst_lst, byteC, partsOK, putAll, appV, nilV, slV, sslV, optB, optNum, and_assoc, exists_and_left, exists_eq_left', *]) | refine CallS_i (cL) ?_ | refine CallS_i (cS) ?_ | refine CallS_i (cF) ?_ | refine CallM_i (cL) ?_ | refine CallM_i (cS) ?_ | refine CallM_i (cF) ?_ | refine CallE_i (cL) ?_ | refine CallE_i (cS) ?_ | refine CallE_i (cF) ?_ | refine CallX_i (cL) ?_ | refine CallX_i (cS) ?_ | refine CallX_i (cF) ?_ | refine CallB_i (cL) ?_ | refine CallB_i (cS) ?_ | refine CallB_i (cF) ?_ | refine CondS_d (fun h => ?_) (fun h => ?_) | refine CondS_b (fun h => ?_) (fun h => ?_) | refine GrdS_d (fun h => ?_) (fun h => ?_) | refine GrdS_b (fun h => ?_) (fun h => ?_) | refine OkS_i (by omega) ?_ | refine OkS_i ⟨by omega, by assumption⟩ ?_ | refine OkS_i ⟨by omega, by assumption, by assumption⟩ ?_ | fail)
  case pos =>
    have e : fmiss l v id = (fmF (msAt l v id) (v.length - 0) 0 : Nat) := if_pos hok
    simp only [Bool.and_eq_true, Bool.not_eq_true', decide_eq_false_iff_not] at hok
    obtain ⟨o1, o2, o3⟩ := hok
    rw [o1] at cL
    rw [o2] at cS
    obtain ⟨k, hk⟩ : ∃ b, wFind l id = b := ⟨_, rfl⟩
    rw [hk] at cF o3
    rw [e]
    clear e o1 o2 hk
    obtain ⟨R, hR⟩ : ∃ R, fmF (msAt l v id) (v.length - 0) 0 = R := ⟨_, rfl⟩
    rw [hR]
    refine Fn.by_sx hX (by kernel_rfl) c18 (by kernel_rfl) (by rfl) ?_
    simp [i18, sxa, isPtrN, PV.pcs, elAt, setEl, inAt, elIn, setIn, isLst, cellsOf, Ex.ok, Ex.val, Opd.val, POp.dst, bin_int, binOK_int, bin_str, binOK_str, resOK, resV, RB.val, sub, putc, scB, scL, oneB, conf, Ex.val.eqP, Ex.val.eqL, negV, mxV, mnV, ← wr_eq, wr_zero, wr_one, wr_m1, bst_lst, byteC, partsOK, putAll, appV, nilV, slV, sslV, optB, optNum, and_assoc, exists_and_left, exists_eq_left']
    repeat' (first | intro _ | (simp [sxa, isPtrN, PV.pcs, elAt, setEl, inAt, elIn, setIn, isLst, cellsOf, Ex.ok, Ex.val, Opd.val, POp.dst, bin_int, binOK_int, bin_str, binOK_str, resOK, resV, RB.val, sub, putc, scB, scL, oneB, conf, Ex.val.eqP, Ex.val.eqL, negV, mxV, mnV, ← wr_eq, wr_zero, wr_one, wr_m1, bst_lst, byteC, partsOK, putAll, appV, nilV, slV, sslV, optB, optNum, and_assoc, exists_and_left, exists_eq_left', *]) | refine CallS_i (cL) ?_ | refine CallS_i (cS) ?_ | refine CallS_i (cF) ?_ | refine CallM_i (cL) ?_ | refine CallM_i (cS) ?_ | refine CallM_i (cF) ?_ | refine CallE_i (cL) ?_ | refine CallE_i (cS) ?_ | refine CallE_i (cF) ?_ | refine CallX_i (cL) ?_ | refine CallX_i (cS) ?_ | refine CallX_i (cF) ?_ | refine CallB_i (cL) ?_ | refine CallB_i (cS) ?_ | refine CallB_i (cF) ?_ | refine CondS_d (fun h => ?_) (fun h => ?_) | refine CondS_b (fun h => ?_) (fun h => ?_) | refine GrdS_d (fun h => ?_) (fun h => ?_) | refine GrdS_b (fun h => ?_) (fun h => ?_) | refine OkS_i (by omega) ?_ | refine OkS_i ⟨by omega, by assumption⟩ ?_ | refine OkS_i ⟨by omega, by assumption, by assumption⟩ ?_ | fail)
    clear cL cS cF
    refine sx_count v.length (fun n V => V 0 = .lst 5 nl (l.map ft) ∧ V 1 = .lst 3 n2 (v.map lv) ∧ V 2 = i id ∧ V 7 = i n ∧ fmF (msAt l v id) (v.length - n) n = R) 0 (by omega) (by simp [sxa, isPtrN, PV.pcs, elAt, setEl, inAt, elIn, setIn, isLst, cellsOf, Ex.ok, Ex.val, Opd.val, POp.dst, bin_int, binOK_int, bin_str, binOK_str, resOK, resV, RB.val, sub, putc, scB, scL, oneB, conf, Ex.val.eqP, Ex.val.eqL, negV, mxV, mnV, ← wr_eq, wr_zero, wr_one, wr_m1, bst_lst, byteC, partsOK, putAll, appV, nilV, slV, sslV, optB, optNum, and_assoc, exists_and_left, exists_eq_left']; exact hR) ?_
    clear hR
    rintro n V hn ⟨g0, g1, g2, g7, ha⟩
    have hw : wr .i64 ((n : Int) + 1) = n + 1 := wr_in (by omega) (by omega)
    rcases Nat.lt_or_ge n v.length with hlt | hge
    · have hI : (n : Int) < v.length := by omega
      rw [fmF_step hlt] at ha
      have cW := f40 l nl v[n] hl hb
      have hat : msAt l v id n = decide (id ∈ shown l v[n]) := by simp [msAt, hlt]
      rw [hat] at ha
      have h16 := shown_16 l v[n]
      clear hb hat
      obtain ⟨S, hS⟩ : ∃ S, shown l v[n] = S := ⟨_, rfl⟩
      rw [hS] at cW ha h16
      clear hS
      have cH := f50 S false id (by omega)
      unfold lv at cW
      by_cases h : id ∈ S
      · simp [h] at ha cH
        clear h
        repeat' (first | intro _ | (simp [sxa, isPtrN, PV.pcs, elAt, setEl, inAt, elIn, setIn, isLst, cellsOf, Ex.ok, Ex.val, Opd.val, POp.dst, bin_int, binOK_int, bin_str, binOK_str, resOK, resV, RB.val, sub, putc, scB, scL, oneB, conf, Ex.val.eqP, Ex.val.eqL, negV, mxV, mnV, ← wr_eq, wr_zero, wr_one, wr_m1, bst_lst, byteC, partsOK, putAll, appV, nilV, slV, sslV, optB, optNum, and_assoc, exists_and_left, exists_eq_left', lv, *]) | refine CallS_i (cW) ?_ | refine CallS_i (cH) ?_ | refine CallM_i (cW) ?_ | refine CallM_i (cH) ?_ | refine CallE_i (cW) ?_ | refine CallE_i (cH) ?_ | refine CallX_i (cW) ?_ | refine CallX_i (cH) ?_ | refine CallB_i (cW) ?_ | refine CallB_i (cH) ?_ | refine CondS_d (fun h => ?_) (fun h => ?_) | refine CondS_b (fun h => ?_) (fun h => ?_) | refine GrdS_d (fun h => ?_) (fun h => ?_) | refine GrdS_b (fun h => ?_) (fun h => ?_) | refine OkS_i (by omega) ?_ | refine OkS_i ⟨by omega, by assumption⟩ ?_ | refine OkS_i ⟨by omega, by assumption, by assumption⟩ ?_ | fail)
        all_goals simp_all
      · simp [h] at ha cH
        clear h
        subst ha
        repeat' (first | intro _ | (simp [sxa, isPtrN, PV.pcs, elAt, setEl, inAt, elIn, setIn, isLst, cellsOf, Ex.ok, Ex.val, Opd.val, POp.dst, bin_int, binOK_int, bin_str, binOK_str, resOK, resV, RB.val, sub, putc, scB, scL, oneB, conf, Ex.val.eqP, Ex.val.eqL, negV, mxV, mnV, ← wr_eq, wr_zero, wr_one, wr_m1, bst_lst, byteC, partsOK, putAll, appV, nilV, slV, sslV, optB, optNum, and_assoc, exists_and_left, exists_eq_left', lv, *]) | refine CallS_i (cW) ?_ | refine CallS_i (cH) ?_ | refine CallM_i (cW) ?_ | refine CallM_i (cH) ?_ | refine CallE_i (cW) ?_ | refine CallE_i (cH) ?_ | refine CallX_i (cW) ?_ | refine CallX_i (cH) ?_ | refine CallB_i (cW) ?_ | refine CallB_i (cH) ?_ | refine CondS_d (fun h => ?_) (fun h => ?_) | refine CondS_b (fun h => ?_) (fun h => ?_) | refine GrdS_d (fun h => ?_) (fun h => ?_) | refine GrdS_b (fun h => ?_) (fun h => ?_) | refine OkS_i (by omega) ?_ | refine OkS_i ⟨by omega, by assumption⟩ ?_ | refine OkS_i ⟨by omega, by assumption, by assumption⟩ ?_ | fail)
        all_goals simp_all
    · have : n = v.length := by omega
      subst this
      rw [fmF_end] at ha
      subst ha
      repeat' (first | intro _ | (simp [sxa, isPtrN, PV.pcs, elAt, setEl, inAt, elIn, setIn, isLst, cellsOf, Ex.ok, Ex.val, Opd.val, POp.dst, bin_int, binOK_int, bin_str, binOK_str, resOK, resV, RB.val, sub, putc, scB, scL, oneB, conf, Ex.val.eqP, Ex.val.eqL, negV, mxV, mnV, ← wr_eq, wr_zero, wr_one, wr_m1, bst_lst, byteC, partsOK, putAll, appV, nilV, slV, sslV, optB, optNum, and_assoc, exists_and_left, exists_eq_left', *]) | refine CondS_d (fun h => ?_) (fun h => ?_) | refine CondS_b (fun h => ?_) (fun h => ?_) | refine GrdS_d (fun h => ?_) (fun h => ?_) | refine GrdS_b (fun h => ?_) (fun h => ?_) | refine OkS_i (by omega) ?_ | refine OkS_i ⟨by omega, by assumption⟩ ?_ | refine OkS_i ⟨by omega, by assumption, by assumption⟩ ?_ | fail)
theorem f20 (l : List Ft) (v : List Lv) (id : Int) (nl n2 : Bool) (hl : l.length ≤ 1048576) (hb : ∀ x ∈ l, x.nice) (hv : v.length ≤ 1048576) : Fn Tryz.prog 20 false [.lst 5 nl (l.map ft), .lst 3 n2 (v.map lv), i id] (i (fmiss l v id)) := by
  have cL := f51 v n2 hv
  have cS := f27 l nl (by omega) fun x hx => (hb x hx).1
  have cF := f44 l nl id (by omega)
  by_cases hok : (ladr v && (wSrc l && !decide (wFind l id < 0))) = true
  case neg =>
    have e : fmiss l v id = -1 := if_neg hok
    rw [e]
    obtain ⟨b1, h1⟩ : ∃ b, ladr v = b := ⟨_, rfl⟩
    obtain ⟨b2, h2⟩ : ∃ b, wSrc l = b := ⟨_, rfl⟩
    obtain ⟨k, h3⟩ : ∃ b, wFind l id = b := ⟨_, rfl⟩
    rw [h1] at cL hok
    rw [h2] at cS hok
    rw [h3] at cF hok
    clear h1 h2 h3 e hb
    refine Fn.by_sx hX (by kernel_rfl) c20 (by kernel_rfl) (by rfl) ?_
    simp [i20, sxa, isPtrN, PV.pcs, elAt, setEl, inAt, elIn, setIn, isLst, cellsOf, Ex.ok, Ex.val, Opd.val, POp.dst, bin_int, binOK_int, bin_str, binOK_str, resOK, resV, RB.val, sub, putc, scB, scL, oneB, conf, Ex.val.eqP, Ex.val.eqL, negV, mxV, mnV, ← wr_eq, wr_zero, wr_one, wr_m1, bst_lst, byteC, partsOK, putAll, appV, nilV, slV, sslV, optB, optNum, and_assoc, exists_and_left, exists_eq_left']
    cases b1 <;> cases b2 <;> by_cases hk : k < 0
    all_goals try (simp [hk] at hok; done)
    all_goals try clear hok
    all_goals repeat' (first | intro _ | (simp [sxa, isPtrN, PV.pcs, elAt, setEl, inAt, elIn, setIn, isLst, cellsOf, Ex.ok, Ex.val, Opd.val, POp.dst, bin_int, binOK_int, bin_str, binOK_str, resOK, resV, RB.val, sub, putc, scB, scL, oneB, conf, Ex.val.eqP, Ex.val.eqL, negV, mxV, mnV, ← wr_eq, wr_zero, wr_one, wr_m1, bst_lst, byteC, partsOK, putAll, appV, nilV, slV, sslV, optB, optNum, and_assoc, exists_and_left, exists_eq_left', *]) | refine CallS_i (cL) ?_ | refine CallS_i (cS) ?_ | refine CallS_i (cF) ?_ | refine CallM_i (cL) ?_ | refine CallM_i (cS) ?_ | refine CallM_i (cF) ?_ | refine CallE_i (cL) ?_ | refine CallE_i (cS) ?_ | refine CallE_i (cF) ?_ | refine CallX_i (cL) ?_ | refine CallX_i (cS) ?_ | refine CallX_i (cF) ?_ | refine CallB_i (cL) ?_ | refine CallB_i (cS) ?_ | refine CallB_i (cF) ?_ | refine CondS_d (fun h => ?_) (fun h => ?_) | refine CondS_b (fun h => ?_) (fun h => ?_) | refine GrdS_d (fun h => ?_) (fun h => ?_) | refine GrdS_b (fun h => ?_) (fun h => ?_) | refine OkS_i (by omega) ?_ | refine OkS_i ⟨by omega, by assumption⟩ ?_ | refine OkS_i ⟨by omega, by assumption, by assumption⟩ ?_ | fail)
  case pos =>
    have e : fmiss l v id = (fmF (msAt l v id) (v.length - 0) 0 : Nat) := if_pos hok
    simp only [Bool.and_eq_true, Bool.not_eq_true', decide_eq_false_iff_not] at hok
    obtain ⟨o1, o2, o3⟩ := hok
    rw [o1] at cL
    rw [o2] at cS
    obtain ⟨k, hk⟩ : ∃ b, wFind l id = b := ⟨_, rfl⟩
    rw [hk] at cF o3
    rw [e]
    clear e o1 o2 hk
    obtain ⟨R, hR⟩ : ∃ R, fmF (msAt l v id) (v.length - 0) 0 = R := ⟨_, rfl⟩
    rw [hR]
    refine Fn.by_sx hX (by kernel_rfl) c20 (by kernel_rfl) (by rfl) ?_
    simp [i20, sxa, isPtrN, PV.pcs, elAt, setEl, inAt, elIn, setIn, isLst, cellsOf, Ex.ok, Ex.val, Opd.val, POp.dst, bin_int, binOK_int, bin_str, binOK_str, resOK, resV, RB.val, sub, putc, scB, scL, oneB, conf, Ex.val.eqP, Ex.val.eqL, negV, mxV, mnV, ← wr_eq, wr_zero, wr_one, wr_m1, bst_lst, byteC, partsOK, putAll, appV, nilV, slV, sslV, optB, optNum, and_assoc, exists_and_left, exists_eq_left']
    repeat' (first | intro _ | (simp [sxa, isPtrN, PV.pcs, elAt, setEl, inAt, elIn, setIn, isLst, cellsOf, Ex.ok, Ex.val, Opd.val, POp.dst, bin_int, binOK_int, bin_str, binOK_str, resOK, resV, RB.val, sub, putc, scB, scL, oneB, conf, Ex.val.eqP, Ex.val.eqL, negV, mxV, mnV, ← wr_eq, wr_zero, wr_one, wr_m1, bst_lst, byteC, partsOK, putAll, appV, nilV, slV, sslV, optB, optNum, and_assoc, exists_and_left, exists_eq_left', *]) | refine CallS_i (cL) ?_ | refine CallS_i (cS) ?_ | refine CallS_i (cF) ?_ | refine CallM_i (cL) ?_ | refine CallM_i (cS) ?_ | refine CallM_i (cF) ?_ | refine CallE_i (cL) ?_ | refine CallE_i (cS) ?_ | refine CallE_i (cF) ?_ | refine CallX_i (cL) ?_ | refine CallX_i (cS) ?_ | refine CallX_i (cF) ?_ | refine CallB_i (cL) ?_ | refine CallB_i (cS) ?_ | refine CallB_i (cF) ?_ | refine CondS_d (fun h => ?_) (fun h => ?_) | refine CondS_b (fun h => ?_) (fun h => ?_) | refine GrdS_d (fun h => ?_) (fun h => ?_) | refine GrdS_b (fun h => ?_) (fun h => ?_) | refine OkS_i (by omega) ?_ | refine OkS_i ⟨by omega, by assumption⟩ ?_ | refine OkS_i ⟨by omega, by assumption, by assumption⟩ ?_ | fail)
    clear cL cS cF
    refine sx_count v.length (fun n V => V 0 = .lst 5 nl (l.map ft) ∧ V 1 = .lst 3 n2 (v.map lv) ∧ V 2 = i id ∧ V 23 = .lst 3 n2 (v.map lv) ∧ V 24 = i v.length ∧ V 25 = i n ∧ fmF (msAt l v id) (v.length - n) n = R) 0 (by omega) (by simp [sxa, isPtrN, PV.pcs, elAt, setEl, inAt, elIn, setIn, isLst, cellsOf, Ex.ok, Ex.val, Opd.val, POp.dst, bin_int, binOK_int, bin_str, binOK_str, resOK, resV, RB.val, sub, putc, scB, scL, oneB, conf, Ex.val.eqP, Ex.val.eqL, negV, mxV, mnV, ← wr_eq, wr_zero, wr_one, wr_m1, bst_lst, byteC, partsOK, putAll, appV, nilV, slV, sslV, optB, optNum, and_assoc, exists_and_left, exists_eq_left']; exact hR) ?_
    clear hR
    rintro n V hn ⟨g0, g1, g2, g23, g24, g25, ha⟩
    have hw : wr .i64 ((n : Int) + 1) = n + 1 := wr_in (by omega) (by omega)
    rcases Nat.lt_or_ge n v.length with hlt | hge
    · have hI : (n : Int) < v.length := by omega
      rw [fmF_step hlt] at ha
      have cW := f43 l nl v[n] hl hb
      have hat : msAt l v id n = decide (id ∈ shown l v[n]) := by simp [msAt, hlt]
      rw [hat] at ha
      have h16 := shown_16 l v[n]
      clear hb hat
      obtain ⟨S, hS⟩ : ∃ S, shown l v[n] = S := ⟨_, rfl⟩
      rw [hS] at cW ha h16
      clear hS
      have cH := f52 S false id (by omega)
      unfold lv at cW
      by_cases h : id ∈ S
      · simp [h] at ha cH
        clear h
        repeat' (first | intro _ | (simp [sxa, isPtrN, PV.pcs, elAt, setEl, inAt, elIn, setIn, isLst, cellsOf, Ex.ok, Ex.val, Opd.val, POp.dst, bin_int, binOK_int, bin_str, binOK_str, resOK, resV, RB.val, sub, putc, scB, scL, oneB, conf, Ex.val.eqP, Ex.val.eqL, negV, mxV, mnV, ← wr_eq, wr_zero, wr_one, wr_m1, bst_lst, byteC, partsOK, putAll, appV, nilV, slV, sslV, optB, optNum, and_assoc, exists_and_left, exists_eq_left', lv, *]) | refine CallS_i (cW) ?_ | refine CallS_i (cH) ?_ | refine CallM_i (cW) ?_ | refine CallM_i (cH) ?_ | refine CallE_i (cW) ?_ | refine CallE_i (cH) ?_ | refine CallX_i (cW) ?_ | refine CallX_i (cH) ?_ | refine CallB_i (cW) ?_ | refine CallB_i (cH) ?_ | refine CondS_d (fun h => ?_) (fun h => ?_) | refine CondS_b (fun h => ?_) (fun h => ?_) | refine GrdS_d (fun h => ?_) (fun h => ?_) | refine GrdS_b (fun h => ?_) (fun h => ?_) | refine OkS_i (by omega) ?_ | refine OkS_i ⟨by omega, by assumption⟩ ?_ | refine OkS_i ⟨by omega, by assumption, by assumption⟩ ?_ | fail)
        all_goals simp_all
      · simp [h] at ha cH
        clear h
        subst ha
        repeat' (first | intro _ | (simp [sxa, isPtrN, PV.pcs, elAt, setEl, inAt, elIn, setIn, isLst, cellsOf, Ex.ok, Ex.val, Opd.val, POp.dst, bin_int, binOK_int, bin_str, binOK_str, resOK, resV, RB.val, sub, putc, scB, scL, oneB, conf, Ex.val.eqP, Ex.val.eqL, negV, mxV, mnV, ← wr_eq, wr_zero, wr_one, wr_m1, bst_lst, byteC, partsOK, putAll, appV, nilV, slV, sslV, optB, optNum, and_assoc, exists_and_left, exists_eq_left', lv, *]) | refine CallS_i (cW) ?_ | refine CallS_i (cH) ?_ | refine CallM_i (cW) ?_ | refine CallM_i (cH) ?_ | refine CallE_i (cW) ?_ | refine CallE_i (cH) ?_ | refine CallX_i (cW) ?_ | refine CallX_i (cH) ?_ | refine CallB_i (cW) ?_ | refine CallB_i (cH) ?_ | refine CondS_d (fun h => ?_) (fun h => ?_) | refine CondS_b (fun h => ?_) (fun h => ?_) | refine GrdS_d (fun h => ?_) (fun h => ?_) | refine GrdS_b (fun h => ?_) (fun h => ?_) | refine OkS_i (by omega) ?_ | refine OkS_i ⟨by omega, by assumption⟩ ?_ | refine OkS_i ⟨by omega, by assumption, by assumption⟩ ?_ | fail)
        all_goals simp_all
    · have : n = v.length := by omega
      subst this
      rw [fmF_end] at ha
      subst ha
      repeat' (first | intro _ | (simp [sxa, isPtrN, PV.pcs, elAt, setEl, inAt, elIn, setIn, isLst, cellsOf, Ex.ok, Ex.val, Opd.val, POp.dst, bin_int, binOK_int, bin_str, binOK_str, resOK, resV, RB.val, sub, putc, scB, scL, oneB, conf, Ex.val.eqP, Ex.val.eqL, negV, mxV, mnV, ← wr_eq, wr_zero, wr_one, wr_m1, bst_lst, byteC, partsOK, putAll, appV, nilV, slV, sslV, optB, optNum, and_assoc, exists_and_left, exists_eq_left', *]) | refine CondS_d (fun h => ?_) (fun h => ?_) | refine CondS_b (fun h => ?_) (fun h => ?_) | refine GrdS_d (fun h => ?_) (fun h => ?_) | refine GrdS_b (fun h => ?_) (fun h => ?_) | refine OkS_i (by omega) ?_ | refine OkS_i ⟨by omega, by assumption⟩ ?_ | refine OkS_i ⟨by omega, by assumption, by assumption⟩ ?_ | fail)
end Go.Eng
namespace Go.Eng
open Go Go.Proofs Geo
set_option linter.unusedSimpArgs false
set_option linter.unusedVariables false
set_option maxRecDepth 20000
set_option maxHeartbeats 1000000

/-! levels: sizes, copies, equality; the law -/
theorem f17 (l : List Lv) (nl : Bool) (left : Int) (h0 : 0 ≤ left) (h1 : left ≤ 1048576) (hl : l.length ≤ 9223372036854775807) : Fn Tryz.prog 17 false [.lst 3 nl (l.map lv), i left] (i (szr left l.length)) := by
  refine Fn.by_sx hX (by kernel_rfl) c17 (by kernel_rfl) (by rfl) ?_
  simp [i17, sxa, isPtrN, PV.pcs, elAt, setEl, inAt, elIn, setIn, isLst, cellsOf, Ex.ok, Ex.val, Opd.val, POp.dst, bin_int, binOK_int, bin_str, binOK_str, resOK, resV, RB.val, sub, putc, scB, scL, oneB, conf, Ex.val.eqP, Ex.val.eqL, negV, mxV, mnV, ← wr_eq, wr_zero, wr_one, wr_m1, bst_lst, byteC, partsOK, putAll, appV, nilV, slV, sslV, optB, optNum, and_assoc, exists_and_left, exists_eq_left']
  have hw : wr .i64 (left - l.length) = left - l.length := wr_in (by omega) (by omega)
  repeat' (first | intro _ | (simp [sxa, isPtrN, PV.pcs, elAt, setEl, inAt, elIn, setIn, isLst, cellsOf, Ex.ok, Ex.val, Opd.val, POp.dst, bin_int, binOK_int, bin_str, binOK_str, resOK, resV, RB.val, sub, putc, scB, scL, oneB, conf, Ex.val.eqP, Ex.val.eqL, negV, mxV, mnV, ← wr_eq, wr_zero, wr_one, wr_m1, bst_lst, byteC, partsOK, putAll, appV, nilV, slV, sslV, optB, optNum, and_assoc, exists_and_left, exists_eq_left', *]) | refine CondS_d (fun h => ?_) (fun h => ?_) | refine CondS_b (fun h => ?_) (fun h => ?_) | refine GrdS_d (fun h => ?_) (fun h => ?_) | refine GrdS_b (fun h => ?_) (fun h => ?_) | refine OkS_i (by omega) ?_ | refine OkS_i ⟨by omega, by assumption⟩ ?_ | refine OkS_i ⟨by omega, by assumption, by assumption⟩ ?_ | fail)
  all_goals (unfold szr; split <;> omega)
theorem f19 (l : List Lv) (nl : Bool) (hl : l.length ≤ 1048576) : Fn Tryz.prog 19 true [.lst 3 nl (l.map lv)] (.lst 3 false (l.map lv)) := by
  refine Fn.by_sx hX (by kernel_rfl) c19 (by kernel_rfl) (by rfl) ?_
  simp [i19, sxa, isPtrN, PV.pcs, elAt, setEl, inAt, elIn, setIn, isLst, cellsOf, Ex.ok, Ex.val, Opd.val, POp.dst, bin_int, binOK_int, bin_str, binOK_str, resOK, resV, RB.val, sub, putc, scB, scL, oneB, conf, Ex.val.eqP, Ex.val.eqL, negV, mxV, mnV, ← wr_eq, wr_zero, wr_one, wr_m1, bst_lst, byteC, partsOK, putAll, appV, nilV, slV, sslV, optB, optNum, and_assoc, exists_and_left, exists_eq_left']
  repeat' (first | intro _ | (simp [sxa, isPtrN, PV.pcs, elAt, setEl, inAt, elIn, setIn, isLst, cellsOf, Ex.ok, Ex.val, Opd.val, POp.dst, bin_int, binOK_int, bin_str, binOK_str, resOK, resV, RB.val, sub, putc, scB, scL, oneB, conf, Ex.val.eqP, Ex.val.eqL, negV, mxV, mnV, ← wr_eq, wr_zero, wr_one, wr_m1, bst_lst, byteC, partsOK, putAll, appV, nilV, slV, sslV, optB, optNum, and_assoc, exists_and_left, exists_eq_left', *]) | refine CondS_d (fun h => ?_) (fun h => ?_) | refine CondS_b (fun h => ?_) (fun h => ?_) | refine GrdS_d (fun h => ?_) (fun h => ?_) | refine GrdS_b (fun h => ?_) (fun h => ?_) | refine OkS_i (by omega) ?_ | refine OkS_i ⟨by omega, by assumption⟩ ?_ | refine OkS_i ⟨by omega, by assumption, by assumption⟩ ?_ | fail)
  refine sx_count l.length (fun n V => V 0 = .lst 3 nl (l.map lv) ∧ V 4 = i n ∧ V 3 = .lst 3 false (fillTo lv [i 0, i 0, i 0] l n)) 0 (by omega) (by simp [sxa, isPtrN, PV.pcs, elAt, setEl, inAt, elIn, setIn, isLst, cellsOf, Ex.ok, Ex.val, Opd.val, POp.dst, bin_int, binOK_int, bin_str, binOK_str, resOK, resV, RB.val, sub, putc, scB, scL, oneB, conf, Ex.val.eqP, Ex.val.eqL, negV, mxV, mnV, ← wr_eq, wr_zero, wr_one, wr_m1, bst_lst, byteC, partsOK, putAll, appV, nilV, slV, sslV, optB, optNum, and_assoc, exists_and_left, exists_eq_left', fillTo_zero]) ?_
  rintro n V hn ⟨h0, h4, h3⟩
  have hw : wr .i64 ((n : Int) + 1) = n + 1 := wr_in (by omega) (by omega)
  simp [sxa, isPtrN, PV.pcs, elAt, setEl, inAt, elIn, setIn, isLst, cellsOf, Ex.ok, Ex.val, Opd.val, POp.dst, bin_int, binOK_int, bin_str, binOK_str, resOK, resV, RB.val, sub, putc, scB, scL, oneB, conf, Ex.val.eqP, Ex.val.eqL, negV, mxV, mnV, ← wr_eq, wr_zero, wr_one, wr_m1, bst_lst, byteC, partsOK, putAll, appV, nilV, slV, sslV, optB, optNum, and_assoc, exists_and_left, exists_eq_left', h0, h4]
  refine CondS_d (fun hlt => ?_) (fun hge => ?_)
  · have hlt' : n < l.length := by omega
    have hs := fillTo_set (g := lv) (z := [i 0, i 0, i 0]) hlt'
    have hfl := fillTo_len (g := lv) (z := [i 0, i 0, i 0]) (l := l) (n := n) (by omega)
    have hc := f10 l[n]
    simp only [lv] at hs hc
    repeat' (first | intro _ | (simp [sxa, isPtrN, PV.pcs, elAt, setEl, inAt, elIn, setIn, isLst, cellsOf, Ex.ok, Ex.val, Opd.val, POp.dst, bin_int, binOK_int, bin_str, binOK_str, resOK, resV, RB.val, sub, putc, scB, scL, oneB, conf, Ex.val.eqP, Ex.val.eqL, negV, mxV, mnV, ← wr_eq, wr_zero, wr_one, wr_m1, bst_lst, byteC, partsOK, putAll, appV, nilV, slV, sslV, optB, optNum, and_assoc, exists_and_left, exists_eq_left', lv, *]) | refine CallS_i (hc) ?_ | refine CondS_d (fun h => ?_) (fun h => ?_) | refine CondS_b (fun h => ?_) (fun h => ?_) | refine GrdS_d (fun h => ?_) (fun h => ?_) | refine GrdS_b (fun h => ?_) (fun h => ?_) | refine OkS_i (by omega) ?_ | refine OkS_i ⟨by omega, by assumption⟩ ?_ | refine OkS_i ⟨by omega, by assumption, by assumption⟩ ?_ | fail)
  · have : n = l.length := by omega
    subst this
    repeat' (first | intro _ | (simp [sxa, isPtrN, PV.pcs, elAt, setEl, inAt, elIn, setIn, isLst, cellsOf, Ex.ok, Ex.val, Opd.val, POp.dst, bin_int, binOK_int, bin_str, binOK_str, resOK, resV, RB.val, sub, putc, scB, scL, oneB, conf, Ex.val.eqP, Ex.val.eqL, negV, mxV, mnV, ← wr_eq, wr_zero, wr_one, wr_m1, bst_lst, byteC, partsOK, putAll, appV, nilV, slV, sslV, optB, optNum, and_assoc, exists_and_left, exists_eq_left', fillTo_full, *]) | refine CondS_d (fun h => ?_) (fun h => ?_) | refine CondS_b (fun h => ?_) (fun h => ?_) | refine GrdS_d (fun h => ?_) (fun h => ?_) | refine GrdS_b (fun h => ?_) (fun h => ?_) | refine OkS_i (by omega) ?_ | refine OkS_i ⟨by omega, by assumption⟩ ?_ | refine OkS_i ⟨by omega, by assumption, by assumption⟩ ?_ | fail)
theorem f53 (v : Lv) : Fn Tryz.prog 53 false [.agg (lv v), .agg (lv v)] (.bool true) := by
  unfold lv
  refine Fn.by_sx hX (by kernel_rfl) c53 (by kernel_rfl) (by rfl) ?_
  simp [i53, sxa, isPtrN, PV.pcs, elAt, setEl, inAt, elIn, setIn, isLst, cellsOf, Ex.ok, Ex.val, Opd.val, POp.dst, bin_int, binOK_int, bin_str, binOK_str, resOK, resV, RB.val, sub, putc, scB, scL, oneB, conf, Ex.val.eqP, Ex.val.eqL, negV, mxV, mnV, ← wr_eq, wr_zero, wr_one, wr_m1, bst_lst, byteC, partsOK, putAll, appV, nilV, slV, sslV, optB, optNum, and_assoc, exists_and_left, exists_eq_left']
  repeat' (first | intro _ | (simp [sxa, isPtrN, PV.pcs, elAt, setEl, inAt, elIn, setIn, isLst, cellsOf, Ex.ok, Ex.val, Opd.val, POp.dst, bin_int, binOK_int, bin_str, binOK_str, resOK, resV, RB.val, sub, putc, scB, scL, oneB, conf, Ex.val.eqP, Ex.val.eqL, negV, mxV, mnV, ← wr_eq, wr_zero, wr_one, wr_m1, bst_lst, byteC, partsOK, putAll, appV, nilV, slV, sslV, optB, optNum, and_assoc, exists_and_left, exists_eq_left', *]) | refine CondS_d (fun h => ?_) (fun h => ?_) | refine CondS_b (fun h => ?_) (fun h => ?_) | refine GrdS_d (fun h => ?_) (fun h => ?_) | refine GrdS_b (fun h => ?_) (fun h => ?_) | refine OkS_i (by omega) ?_ | refine OkS_i ⟨by omega, by assumption⟩ ?_ | refine OkS_i ⟨by omega, by assumption, by assumption⟩ ?_ | fail)
theorem f21 (l : List Lv) (n1 n2 : Bool) (hl : l.length ≤ 1000000000000) : Fn Tryz.prog 21 false [.lst 3 n1 (l.map lv), .lst 3 n2 (l.map lv)] (.bool true) := by
  refine Fn.by_sx hX (by kernel_rfl) c21 (by kernel_rfl) (by rfl) ?_
  simp [i21, sxa, isPtrN, PV.pcs, elAt, setEl, inAt, elIn, setIn, isLst, cellsOf, Ex.ok, Ex.val, Opd.val, POp.dst, bin_int, binOK_int, bin_str, binOK_str, resOK, resV, RB.val, sub, putc, scB, scL, oneB, conf, Ex.val.eqP, Ex.val.eqL, negV, mxV, mnV, ← wr_eq, wr_zero, wr_one, wr_m1, bst_lst, byteC, partsOK, putAll, appV, nilV, slV, sslV, optB, optNum, and_assoc, exists_and_left, exists_eq_left']
  repeat' (first | intro _ | (simp [sxa, isPtrN, PV.pcs, elAt, setEl, inAt, elIn, setIn, isLst, cellsOf, Ex.ok, Ex.val, Opd.val, POp.dst, bin_int, binOK_int, bin_str, binOK_str, resOK, resV, RB.val, sub, putc, scB, scL, oneB, conf, Ex.val.eqP, Ex.val.eqL, negV, mxV, mnV, ← wr_eq, wr_zero, wr_one, wr_m1, bst_lst, byteC, partsOK, putAll, appV, nilV, slV, sslV, optB, optNum, and_assoc, exists_and_left, exists_eq_left', *]) | refine CondS_d (fun h => ?_) (fun h => ?_) | refine CondS_b (fun h => ?_) (fun h => ?_) | refine GrdS_d (fun h => ?_) (fun h => ?_) | refine GrdS_b (fun h => ?_) (fun h => ?_) | refine OkS_i (by omega) ?_ | refine OkS_i ⟨by omega, by assumption⟩ ?_ | refine OkS_i ⟨by omega, by assumption, by assumption⟩ ?_ | fail)
  refine sx_count l.length (fun n V => V 0 = .lst 3 n1 (l.map lv) ∧ V 1 = .lst 3 n2 (l.map lv) ∧ V 5 = i n) 0 (by omega) (by simp [sxa, isPtrN, PV.pcs, elAt, setEl, inAt, elIn, setIn, isLst, cellsOf, Ex.ok, Ex.val, Opd.val, POp.dst, bin_int, binOK_int, bin_str, binOK_str, resOK, resV, RB.val, sub, putc, scB, scL, oneB, conf, Ex.val.eqP, Ex.val.eqL, negV, mxV, mnV, ← wr_eq, wr_zero, wr_one, wr_m1, bst_lst, byteC, partsOK, putAll, appV, nilV, slV, sslV, optB, optNum, and_assoc, exists_and_left, exists_eq_left']) ?_
  rintro n V hn ⟨h0, h1, h5⟩
  have hw : wr .i64 ((n : Int) + 1) = n + 1 := wr_in (by omega) (by omega)
  simp [sxa, isPtrN, PV.pcs, elAt, setEl, inAt, elIn, setIn, isLst, cellsOf, Ex.ok, Ex.val, Opd.val, POp.dst, bin_int, binOK_int, bin_str, binOK_str, resOK, resV, RB.val, sub, putc, scB, scL, oneB, conf, Ex.val.eqP, Ex.val.eqL, negV, mxV, mnV, ← wr_eq, wr_zero, wr_one, wr_m1, bst_lst, byteC, partsOK, putAll, appV, nilV, slV, sslV, optB, optNum, and_assoc, exists_and_left, exists_eq_left', h0, h5]
  refine CondS_d (fun hlt => ?_) (fun hge => ?_)
  · have hlt' : n < l.length := by omega
    have hc := f53 l[n]
    simp only [lv] at hc
    repeat' (first | intro _ | (simp [sxa, isPtrN, PV.pcs, elAt, setEl, inAt, elIn, setIn, isLst, cellsOf, Ex.ok, Ex.val, Opd.val, POp.dst, bin_int, binOK_int, bin_str, binOK_str, resOK, resV, RB.val, sub, putc, scB, scL, oneB, conf, Ex.val.eqP, Ex.val.eqL, negV, mxV, mnV, ← wr_eq, wr_zero, wr_one, wr_m1, bst_lst, byteC, partsOK, putAll, appV, nilV, slV, sslV, optB, optNum, and_assoc, exists_and_left, exists_eq_left', lv, *]) | refine CallS_i (hc) ?_ | refine CondS_d (fun h => ?_) (fun h => ?_) | refine CondS_b (fun h => ?_) (fun h => ?_) | refine GrdS_d (fun h => ?_) (fun h => ?_) | refine GrdS_b (fun h => ?_) (fun h => ?_) | refine OkS_i (by omega) ?_ | refine OkS_i ⟨by omega, by assumption⟩ ?_ | refine OkS_i ⟨by omega, by assumption, by assumption⟩ ?_ | fail)
    all_goals simp_all
  · have : n = l.length := by omega
    subst this
    repeat' (first | intro _ | (simp [sxa, isPtrN, PV.pcs, elAt, setEl, inAt, elIn, setIn, isLst, cellsOf, Ex.ok, Ex.val, Opd.val, POp.dst, bin_int, binOK_int, bin_str, binOK_str, resOK, resV, RB.val, sub, putc, scB, scL, oneB, conf, Ex.val.eqP, Ex.val.eqL, negV, mxV, mnV, ← wr_eq, wr_zero, wr_one, wr_m1, bst_lst, byteC, partsOK, putAll, appV, nilV, slV, sslV, optB, optNum, and_assoc, exists_and_left, exists_eq_left', *]) | refine CondS_d (fun h => ?_) (fun h => ?_) | refine CondS_b (fun h => ?_) (fun h => ?_) | refine GrdS_d (fun h => ?_) (fun h => ?_) | refine GrdS_b (fun h => ?_) (fun h => ?_) | refine OkS_i (by omega) ?_ | refine OkS_i ⟨by omega, by assumption⟩ ?_ | refine OkS_i ⟨by omega, by assumption, by assumption⟩ ?_ | fail)
theorem f4 (l : List Ft) (n1 : Bool) (v : List Lv) (n2 : Bool) (id : Int) (hl : l.length ≤ 9223372036854775807) (hx : ∀ x ∈ l, x.fits) (hv : v.length ≤ 9223372036854775807) : Fn Tryz.prog 4 false [.lst 5 n1 (l.map ft), .lst 3 n2 (v.map lv), i id] (.bool true) := by
  refine Fn.by_sx hX (by kernel_rfl) c4 (by kernel_rfl) (by rfl) ?_
  simp [i4, sxa, isPtrN, PV.pcs, elAt, setEl, inAt, elIn, setIn, isLst, cellsOf, Ex.ok, Ex.val, Opd.val, POp.dst, bin_int, binOK_int, bin_str, binOK_str, resOK, resV, RB.val, sub, putc, scB, scL, oneB, conf, Ex.val.eqP, Ex.val.eqL, negV, mxV, mnV, ← wr_eq, wr_zero, wr_one, wr_m1, bst_lst, byteC, partsOK, putAll, appV, nilV, slV, sslV, optB, optNum, and_assoc, exists_and_left, exists_eq_left']
  refine CallS_s (f7 l n1 1048576 (by omega) (by omega) hl hx) rfl ?_
  by_cases hbig : (1048576 : Int) - wtLF l < 0
  · have : szr 1048576 (wtLF l : Nat) = -1 := if_pos hbig
    rw [this]
    repeat' (first | intro _ | (simp [sxa, isPtrN, PV.pcs, elAt, setEl, inAt, elIn, setIn, isLst, cellsOf, Ex.ok, Ex.val, Opd.val, POp.dst, bin_int, binOK_int, bin_str, binOK_str, resOK, resV, RB.val, sub, putc, scB, scL, oneB, conf, Ex.val.eqP, Ex.val.eqL, negV, mxV, mnV, ← wr_eq, wr_zero, wr_one, wr_m1, bst_lst, byteC, partsOK, putAll, appV, nilV, slV, sslV, optB, optNum, and_assoc, exists_and_left, exists_eq_left', *]) | refine CondS_d (fun h => ?_) (fun h => ?_) | refine CondS_b (fun h => ?_) (fun h => ?_) | refine GrdS_d (fun h => ?_) (fun h => ?_) | refine GrdS_b (fun h => ?_) (fun h => ?_) | refine OkS_i (by omega) ?_ | refine OkS_i ⟨by omega, by assumption⟩ ?_ | refine OkS_i ⟨by omega, by assumption, by assumption⟩ ?_ | fail)
  have hz : szr 1048576 (wtLF l : Nat) = 1048576 - wtLF l := if_neg hbig
  rw [hz]
  have hL := wtLF_len l
  have hl' : l.length ≤ 1048576 := by omega
  have hm : ∀ x ∈ l, x.f3.size ≤ 1048576 ∧ x.f4.length ≤ 1048576 := fun x hx => by have := wtLF_mem hx; omega
  have cz := f17 v n2 (1048576 - wtLF l) (by omega) (by omega) hv
  obtain ⟨W, hW⟩ : ∃ W : Int, (1048576 : Int) - wtLF l = W := ⟨_, rfl⟩
  rw [hW] at cz hbig ⊢
  by_cases hbig2 : W - v.length < 0
  · have : szr W v.length = -1 := if_pos hbig2
    rw [this] at cz
    clear hz this
    repeat' (first | intro _ | (simp [sxa, isPtrN, PV.pcs, elAt, setEl, inAt, elIn, setIn, isLst, cellsOf, Ex.ok, Ex.val, Opd.val, POp.dst, bin_int, binOK_int, bin_str, binOK_str, resOK, resV, RB.val, sub, putc, scB, scL, oneB, conf, Ex.val.eqP, Ex.val.eqL, negV, mxV, mnV, ← wr_eq, wr_zero, wr_one, wr_m1, bst_lst, byteC, partsOK, putAll, appV, nilV, slV, sslV, optB, optNum, and_assoc, exists_and_left, exists_eq_left', *]) | refine CallS_i (cz) ?_ | refine CondS_d (fun h => ?_) (fun h => ?_) | refine CondS_b (fun h => ?_) (fun h => ?_) | refine GrdS_d (fun h => ?_) (fun h => ?_) | refine GrdS_b (fun h => ?_) (fun h => ?_) | refine OkS_i (by omega) ?_ | refine OkS_i ⟨by omega, by assumption⟩ ?_ | refine OkS_i ⟨by omega, by assumption, by assumption⟩ ?_ | fail)
  have hz2 : szr W v.length = W - v.length := if_neg hbig2
  rw [hz2] at cz
  clear hz hz2
  have hv' : v.length ≤ 1048576 := by omega
  have c1 := f9 l n1 hl' fun x h => (hm x h).2
  have c2 := f19 v n2 hv'
  obtain ⟨r, hr⟩ : ∃ r, l.map Ft.fr = r := ⟨_, rfl⟩
  have hrl : r.length ≤ 1048576 := by rw [← hr, List.length_map]; exact hl'
  have hrm := frF_small hr hm
  have hri := fr_nice hr hm
  rw [hr] at c1
  have c3 := f18 r v id false false (by omega) hri hv'
  have c4 := f20 r v id false false (by omega) hri hv'
  have c5 := f13 r false false (by omega) fun x h => by have := hrm x h; omega
  have c6 := f21 v false false (by omega)
  obtain ⟨G, hG⟩ : ∃ G, fmiss r v id = G := ⟨_, rfl⟩
  rw [hG] at c3 c4
  clear hr hG hW hri hrm hm
  repeat' (first | intro _ | (simp [sxa, isPtrN, PV.pcs, elAt, setEl, inAt, elIn, setIn, isLst, cellsOf, Ex.ok, Ex.val, Opd.val, POp.dst, bin_int, binOK_int, bin_str, binOK_str, resOK, resV, RB.val, sub, putc, scB, scL, oneB, conf, Ex.val.eqP, Ex.val.eqL, negV, mxV, mnV, ← wr_eq, wr_zero, wr_one, wr_m1, bst_lst, byteC, partsOK, putAll, appV, nilV, slV, sslV, optB, optNum, and_assoc, exists_and_left, exists_eq_left', *]) | refine CallS_i (cz) ?_ | refine CallS_i (c1) ?_ | refine CallS_i (c2) ?_ | refine CallS_i (c3) ?_ | refine CallS_i (c4) ?_ | refine CallS_i (c5) ?_ | refine CallS_i (c6) ?_ | refine CondS_d (fun h => ?_) (fun h => ?_) | refine CondS_b (fun h => ?_) (fun h => ?_) | refine GrdS_d (fun h => ?_) (fun h => ?_) | refine GrdS_b (fun h => ?_) (fun h => ?_) | refine OkS_i (by omega) ?_ | refine OkS_i ⟨by omega, by assumption⟩ ?_ | refine OkS_i ⟨by omega, by assumption, by assumption⟩ ?_ | fail)
end Go.Eng
namespace Go.Eng
open Go Go.Proofs
set_option linter.unusedSimpArgs false
set_option linter.unusedVariables false
set_option maxRecDepth 20000
/-! what the arguments hold -/
theorem d_intb {X : Cx} {t n : Nat} {i0 : TI} {vs : List PV} (hi : X.ti t = some i0) (hk : i0.k = .int .i64) (h : shp X n t vs) : ∃ m : Int, vs = [i m] ∧ -9223372036854775808 ≤ m ∧ m ≤ 9223372036854775807 := by
  cases n with
  | zero => cases h
  | succ n =>
    unfold shp at h; rw [hi] at h; simp only [hk] at h
    obtain ⟨m, hm, hw⟩ := h
    refine ⟨m, hm, ?_⟩
    simpa [Lit.wf, IntKind.min, IntKind.max, IntKind.signed, IntKind.bits] using hw
theorem d_int {X : Cx} {t n : Nat} {i0 : TI} {vs : List PV} (hi : X.ti t = some i0) (hk : i0.k = .int .i64) (h : shp X n t vs) : ∃ m, vs = [i m] := by
  cases n with
  | zero => cases h
  | succ n => unfold shp at h; rw [hi] at h; simp only [hk] at h; obtain ⟨m, hm, _⟩ := h; exact ⟨m, hm⟩
theorem d_str {X : Cx} {t n : Nat} {i0 : TI} {vs : List PV} (hi : X.ti t = some i0) (hk : i0.k = .str) (h : shp X n t vs) : ∃ s, vs = [.str s] ∧ s.size ≤ 9223372036854775807 := by
  cases n with
  | zero => cases h
  | succ n => unfold shp at h; rw [hi] at h; simp only [hk] at h; exact h
theorem d_slice {X : Cx} {t n e sz : Nat} {i0 : TI} {vs : List PV} {α : Type} {g : α → List PV} {q : α → Prop} (hi : X.ti t = some i0) (hk : i0.k = .slice e) (hs : szOf X e = sz)
    (hd : ∀ n vs, shp X n e vs → ∃ x, vs = g x ∧ q x) (h : shp X n t vs) : ∃ (l : List α) (nl : Bool), vs = [.lst sz nl (l.map g)] ∧ l.length ≤ 9223372036854775807 ∧ ∀ x ∈ l, q x := by
  cases n with
  | zero => cases h
  | succ n =>
    unfold shp at h; rw [hi] at h; simp only [hk, hs] at h
    rcases h with rfl | ⟨els, rfl, hl, he⟩
    · exact ⟨[], true, rfl, by simp, by simp⟩
    · have : ∀ els : List (List PV), (∀ cs ∈ els, shp X n e cs) → ∃ l : List α, els = l.map g ∧ ∀ x ∈ l, q x := by
        intro els
        induction els with
        | nil => intro _; exact ⟨[], rfl, by simp⟩
        | cons c r ih =>
          intro h
          obtain ⟨l, h1, h2⟩ := ih fun cs hcs => h cs (List.mem_cons_of_mem _ hcs)
          obtain ⟨x, h3, h4⟩ := hd n c (h c (List.mem_cons_self ..))
          exact ⟨x :: l, by rw [h1, h3]; rfl, fun y hy => by
            rcases List.mem_cons.1 hy with rfl | hy
            · exact h4
            · exact h2 y hy⟩
      obtain ⟨l, h1, h2⟩ := this els he
      subst h1
      exact ⟨l, false, rfl, by have := hl; rw [List.length_map] at this; exact this, h2⟩
theorem d_struct {X : Cx} {t n : Nat} {i0 : TI} {fl : List (Nat × Nat)} {vs : List PV} (hi : X.ti t = some i0) (hk : i0.k = .struct fl) (h : shp X n t vs) : vs.length = i0.sz ∧ ∀ q ∈ fl, ∃ n, shp X n q.2 (sub vs q.1 (szOf X q.2)) := by
  cases n with
  | zero => cases h
  | succ n => unfold shp at h; rw [hi] at h; simp only [hk] at h; exact ⟨h.1, fun q hq => ⟨n, h.2 q hq⟩⟩
theorem shpL_cons {X : Cx} {n t : Nat} {ts : List Nat} {pvs : List PV} (h : shpL X n (t :: ts) pvs) : ∃ v vs, pvs = v :: vs ∧ shpV X n t v ∧ shpL X n ts vs := by
  cases pvs with
  | nil => cases h
  | cons v vs => exact ⟨v, vs, rfl, h.1, h.2⟩
theorem shpL_nil {X : Cx} {n : Nat} {pvs : List PV} (h : shpL X n [] pvs) : pvs = [] := by
  cases pvs with
  | nil => rfl
  | cons v vs => cases h
theorem shpV_one {X : Cx} {n t : Nat} {i0 : TI} {v : PV} (hi : X.ti t = some i0) (ha : i0.k.agg = false) (h : shpV X n t v) : shp X n t [v] := by
  unfold shpV at h; rw [hi] at h; simp only [ha, Bool.false_eq_true, if_false] at h; exact h
theorem dPt {n : Nat} {vs : List PV} (h : shp X n 143 vs) : ∃ p : Pt, vs = cp p ∧ True := by
  obtain ⟨hl, hf⟩ := d_struct (i0 := (X.ti 143).getD default) rfl rfl h
  match vs, hl with
  | [a, b], _ =>
    obtain ⟨_, h0⟩ := hf (0, 3) (by simp)
    obtain ⟨_, h1⟩ := hf (1, 3) (by simp)
    obtain ⟨x, e0⟩ := d_int (i0 := (X.ti 3).getD default) rfl rfl h0
    obtain ⟨y, e1⟩ := d_int (i0 := (X.ti 3).getD default) rfl rfl h1
    obtain rfl : a = i x := (List.cons.inj e0).1
    obtain rfl : b = i y := (List.cons.inj e1).1
    exact ⟨⟨x, y⟩, rfl, trivial⟩
theorem dFt {n : Nat} {vs : List PV} (h : shp X n 69 vs) : ∃ x : Ft, vs = ft x ∧ x.fits := by
  obtain ⟨hl, hf⟩ := d_struct (i0 := (X.ti 69).getD default) rfl rfl h
  match vs, hl with
  | [a, b, c, d, e], _ =>
    obtain ⟨_, h0⟩ := hf (0, 3) (by simp)
    obtain ⟨_, h1⟩ := hf (1, 3) (by simp)
    obtain ⟨_, h2⟩ := hf (2, 3) (by simp)
    obtain ⟨_, h3⟩ := hf (3, 9) (by simp)
    obtain ⟨_, h4⟩ := hf (4, 67) (by simp)
    obtain ⟨x0, e0⟩ := d_int (i0 := (X.ti 3).getD default) rfl rfl h0
    obtain ⟨x1, e1⟩ := d_int (i0 := (X.ti 3).getD default) rfl rfl h1
    obtain ⟨x2, e2⟩ := d_int (i0 := (X.ti 3).getD default) rfl rfl h2
    obtain ⟨x3, e3, b3⟩ := d_str (i0 := (X.ti 9).getD default) rfl rfl h3
    obtain ⟨x4, nl, e4, b4, _⟩ := d_slice (i0 := (X.ti 67).getD default) (sz := 2) rfl rfl rfl (fun _ _ => dPt) h4
    obtain rfl : a = i x0 := (List.cons.inj e0).1
    obtain rfl : b = i x1 := (List.cons.inj e1).1
    obtain rfl : c = i x2 := (List.cons.inj e2).1
    obtain rfl : d = .str x3 := (List.cons.inj e3).1
    obtain rfl : e = .lst 2 nl (x4.map cp) := (List.cons.inj e4).1
    exact ⟨⟨x0, x1, x2, x3, x4, nl⟩, rfl, b3, b4⟩
theorem dFtS {n : Nat} {v : PV} (h : shpV X n 22 v) : ∃ (l : List Ft) (nl : Bool), v = .lst 5 nl (l.map ft) ∧ l.length ≤ 9223372036854775807 ∧ ∀ x ∈ l, x.fits := by
  have h := shpV_one (i0 := (X.ti 22).getD default) rfl rfl h
  obtain ⟨l, nl, e, h1, h2⟩ := d_slice (i0 := (X.ti 22).getD default) (sz := 5) rfl rfl rfl (fun _ _ => dFt) h
  exact ⟨l, nl, (List.cons.inj e).1, h1, h2⟩
theorem dInt {n : Nat} {v : PV} (h : shpV X n 3 v) : ∃ m : Int, v = i m ∧ -9223372036854775808 ≤ m ∧ m ≤ 9223372036854775807 := by
  obtain ⟨m, hm, hb⟩ := d_intb (i0 := (X.ti 3).getD default) rfl rfl (shpV_one (i0 := (X.ti 3).getD default) rfl rfl h)
  exact ⟨m, (List.cons.inj hm).1, hb⟩
end Go.Eng
namespace Go.Eng
open Go Go.Proofs Geo
theorem dLv {n : Nat} {vs : List PV} (h : shp X n 24 vs) : ∃ v : Lv, vs = lv v := by
  obtain ⟨hl, hf⟩ := d_struct (i0 := (X.ti 24).getD default) rfl rfl h
  match vs, hl with
  | [a, b, c], _ =>
    obtain ⟨_, h0⟩ := hf (0, 3) (by simp)
    obtain ⟨_, h1⟩ := hf (1, 3) (by simp)
    obtain ⟨_, h2⟩ := hf (2, 3) (by simp)
    obtain ⟨x, e0⟩ := d_int (i0 := (X.ti 3).getD default) rfl rfl h0
    obtain ⟨y, e1⟩ := d_int (i0 := (X.ti 3).getD default) rfl rfl h1
    obtain ⟨z, e2⟩ := d_int (i0 := (X.ti 3).getD default) rfl rfl h2
    obtain rfl : a = i x := (List.cons.inj e0).1
    obtain rfl : b = i y := (List.cons.inj e1).1
    obtain rfl : c = i z := (List.cons.inj e2).1
    exact ⟨⟨x, y, z⟩, rfl⟩
end Go.Eng
namespace Go.Eng
open Go Go.Proofs Geo
theorem dLvS {n : Nat} {v : PV} (h : shpV X n 37 v) : ∃ (l : List Lv) (nl : Bool), v = .lst 3 nl (l.map lv) ∧ l.length ≤ 9223372036854775807 := by
  have h := shpV_one (i0 := (X.ti 37).getD default) rfl rfl h
  obtain ⟨l, nl, e, h1, _⟩ := d_slice (i0 := (X.ti 37).getD default) (sz := 3) (g := lv) (q := fun _ => True) rfl rfl rfl (fun _ _ h => by
    obtain ⟨x, hx⟩ := dLv h
    exact ⟨x, hx, trivial⟩) h
  exact ⟨l, nl, (List.cons.inj e).1, h1⟩
theorem law4 {pvs : List PV} (h : shpL X 8 [22, 37, 3] pvs) : Fn Tryz.prog 4 false pvs (.bool true) := by
  obtain ⟨_, _, rfl, h1, h2⟩ := shpL_cons h
  obtain ⟨_, _, rfl, h3, h4⟩ := shpL_cons h2
  obtain ⟨_, _, rfl, h5, h6⟩ := shpL_cons h4
  obtain rfl := shpL_nil h6
  obtain ⟨l, n1, rfl, a1, a2⟩ := dFtS h1
  obtain ⟨v, n2, rfl, a3⟩ := dLvS h3
  obtain ⟨b, rfl, _⟩ := dInt h5
  exact f4 l n1 v n2 b a1 a2 a3
end Go.Eng
